/- What the laws of chapter 9 share: words about rows and regions, the walks of the package dozen, and that known returns true. Part 13 of 16. -/
import Derived.Test.YtcmfnebcmmklkaaDoorK11
import Derived.Test.YtcmfnebcmmklkaaDoorK8
import Derived.Test.YtcmfnebcmmklkaaDoorK12
import Derived.Test.YtcmfnebcmmklkaaDoorK9
import Derived.Maps.Own
import Derived.Maps.OwnSet
import Derived.WideKeyArr
set_option linter.unusedVariables false
set_option linter.unusedSimpArgs false
set_option maxRecDepth 100000
set_option maxHeartbeats 8000000
namespace Go.Proofs.YtcmfnebcmmklkaaDoor.Hand
open Go.RowKit Go.Shelf Go.Proofs.YtcmfnebcmmklkaaDoorW.dQ Go.Proofs.YtcmfnebcmmklkaaDoorW.gG Go.Proofs.YtcmfnebcmmklkaaDoor.Q
attribute [local go_sem] aFF aFG aFH
theorem bmI (k:Nat) (os:List aZ) (ls:List aI) (A0 A1:Option Addr) (c0 c1 b s:Nat) (r:Bool) (h:am8.f k os ls (s:Int)=some r) (w:World) (hr0:Kd.C iJ w A0 os.length os) (hc0:os.length<=c0) (hr1:Kd.C iE w A1 ls.length ls) (hc1:ls.length<=c1)
  (hb:Box w b #[.slice A0 os.length c0,.slice A1 ls.length c1] 25):
  Calls Tryd.prog 74 #[.int .u64 (s:Int),.pointer (some ⟨b,0,none⟩)] w fun e w'=>e=.returned (.bool r)/\Below w.heap.size w w':=by
 have q0:w.cell? ⟨b,0,none⟩=some (.slice A0 os.length c0):=hb.cell 0 rfl
 have q1:w.cell? ⟨b,1,none⟩=some (.slice A1 ls.length c1):=hb.cell 1 rfl
 have hi:=Lib.hid (am8.calls k A0 c0 os A1 c1 ls s r w hr0 hc0 hr1 hc1 h)
 go_enter Tryd.func74,Tryd.ntmps74
 go_wp2_with fail
 refine hi.out.mono ?_
 rintro e w1 ⟨rfl,hb1⟩
 clear q0 q1
 go_wp2
 go_ret
 exact⟨rfl,hb1⟩
def ZJ (is:Nat->Bool) (ls:List aI):Option (List Int):=pR is iQ (2^ls.length)
def aaQ (is:Nat->Bool) (os:List aZ) (ls:List aI):Int:=if oP os ls=0 then(if(ZJ is ls).getD []=[]then 6 else 0)else oP os ls
def aeK (is:Nat->Bool) (os:List aZ) (ls:List aI):List Int:=if oP os ls=0 then(ZJ is ls).getD []else[]
theorem bmJ (k:Nat) (os:List aZ) (ls:List aI) (is:Nat->Bool) (his:oP os ls=0->∀ s:Nat,s<2^ls.length->am8.f k os ls (s:Int)=some (is s))
  (A0 A1:Option Addr) (c0 c1:Nat) (w:World) (hT:lZ w) (hr0:Kd.C iJ w A0 os.length os) (hc0:os.length<=c0) (hr1:Kd.C iE w A1 ls.length ls) (hc1:ls.length<=c1):
  Calls Tryd.prog 29 #[.agg #[.slice A0 os.length c0,.slice A1 ls.length c1]] w fun e w'=>∃ v,e=.returned (.tuple #[v,.int .i64 (aaQ is os ls)])/\eH w' w.heap.size v (aeK is os ls)/\Below w.heap.size w w':=by
 have hb0:Below w.heap.size w (w.alloc (Obj.cells #[.slice A0 os.length c0,.slice A1 ls.length c1] 25)):=(Below.refl _ _).alloc (Nat.le_refl _) _
 have hbx0:Box (w.alloc (Obj.cells #[.slice A0 os.length c0,.slice A1 ls.length c1] 25)) w.heap.size #[.slice A0 os.length c0,.slice A1 ls.length c1] 25:=Box.new _ _ _
 have hm1:=hr1.2.1
 have hck:=aXD os ls A0 A1 c0 c1 _ (Kd.bJ hr0 hb0) (Kd.bJ hr1 hb0)
 by_cases h0:oP os ls=0
 ·have hl8:ls.length<=8:=by
   unfold oP at h0
   split at h0
   ·split at h0
    ·cases h0
    ·omega
   ·cases h0
  have bmK:=Lib.hid (his h0)
  have hE:Hid (aaQ is os ls=if(ZJ is ls).getD []=[]then 6 else 0):=Lib.hid (if_pos h0)
  have hL:Hid (aeK is os ls=(ZJ is ls).getD []):=Lib.hid (if_pos h0)
  rw[h0]at hck
  have Hck:=Lib.hid hck
  clear hck h0 his
  go_enter Tryd.func29,Tryd.ntmps29
  go_wp2_with fail
  refine Hck.out.mono ?_
  rintro e w1 ⟨rfl,hb1⟩
  have hB1:Below w.heap.size w w1:=hb0.trans (hb1.mono hb0.size)
  have hbx:=hbx0.step hb1
  have q1:w1.cell? ⟨w.heap.size,1,none⟩=some (.slice A1 ls.length c1):=hbx.cell 1 rfl
  clear hb1 hb0 Hck hbx0
  go_wp2_with fail
  refine(blD ls.length hl8 is w.heap.size w1 (hT.below hB1) (fun s hs W hW=>bmI k os ls A0 A1 c0 c1 w.heap.size s (is s) (bmK.out s hs) W (Kd.bJ hr0 (hB1.trans (hW.mono hB1.size))) hc0 (Kd.bJ hr1 (hB1.trans (hW.mono hB1.size))) hc1 (hbx.step hW))).mono ?_
  rintro e w3 ⟨v,rfl,hown,hnil,hb3⟩
  have hB3:Below w.heap.size w w3:=hB1.trans (hb3.mono hB1.size)
  have ho3:=hown.lower hB1.size
  obtain⟨bs,hbs⟩:∃ bs,(pR is iQ (2^ls.length)).isSome=bs:=⟨_,rfl⟩
  have hmk:pR is iQ (2^ls.length)=ZJ is ls:=rfl
  rw[hbs]
  rw[hmk]at ho3 hnil
  clear hbs hmk hown hb3 hbx hT q1
  by_cases hl:(ZJ is ls).getD []=[]
  ·have hE9:Hid (aaQ is os ls=6):=Lib.hid (by rw[hE.out,if_pos hl])
   obtain rfl:=hnil hl
   have BF:eH w3 w.heap.size (.slice none 0 0) (aeK is os ls):=by rw[hL.out,hl];exact eH.nil _ _
   clear ho3 hnil hl
   go_wp2
   refine bodyPost_ret (v:=.tuple #[.slice none 0 0,.int .i64 6]) (by simp[results,Tryd.results29,go_sem]) rfl ?_
   exact⟨_,by rw[hE9.out],BF,hB3⟩
  ·have hE9:Hid (aaQ is os ls=0):=Lib.hid (by rw[hE.out,if_neg hl])
   obtain⟨g,cv,rfl,_⟩:=afR ho3 (List.length_pos_iff.2 hl)
   have BF:eH w3 w.heap.size (.slice (some ⟨g,0,none⟩) ((ZJ is ls).getD []).length cv) (aeK is os ls):=by rw[hL.out];exact ho3
   clear ho3 hnil hl
   go_wp2
   refine bodyPost_ret (v:=.tuple #[.slice (some ⟨g,0,none⟩) ((ZJ is ls).getD []).length cv,.int .i64 0]) (by simp[results,Tryd.results29,go_sem]) rfl ?_
   exact⟨_,by rw[hE9.out],BF,hB3⟩
 ·obtain⟨er,her⟩:∃ er,oP os ls=er:=⟨_,rfl⟩
  have hE:Hid (aaQ is os ls=er):=Lib.hid (by rw[<-her];exact if_neg h0)
  have hL:Hid (aeK is os ls=[]):=Lib.hid (if_neg h0)
  rw[her]at hck h0
  have Hck:=Lib.hid hck
  clear hck her his
  have hne:(er !=0)=true:=by simp[h0]
  clear h0
  go_enter Tryd.func29,Tryd.ntmps29
  go_wp2_with fail
  refine Hck.out.mono ?_
  rintro e w1 ⟨rfl,hb1⟩
  have hB1:Below w.heap.size w w1:=hb0.trans (hb1.mono hb0.size)
  clear hb1 hb0
  go_wp2
  refine bodyPost_ret (v:=.tuple #[.slice none 0 0,.int .i64 er]) (by simp[results,Tryd.results29,go_sem]) rfl ?_
  exact⟨_,by rw[hE.out],by rw[hL.out];exact eH.nil _ _,hB1⟩
def wY (L:List Bool):Array Value:=(L.map Value.bool).toArray
theorem axJ (n:Nat):madeCells #[.bool false] n=wY (List.replicate n false):=by
 apply Array.ext
 ·simp[madeCells,wY]
 ·intro i h1 h2
  simp[madeCells,wY]at h1 h2 ⊢
  rw[Nat.mod_one]
  rfl
def Row (W:World) (b:Nat) (L:List Bool):Prop:=Box W b (wY L) 4
theorem Row.cell {W:World} {b:Nat} {L:List Bool} (h:Row W b L) (n:Nat) (hn:n<L.length):W.cell? ⟨b,n,none⟩=some (.bool (L.getD n false)):=
 Box.cell h n (by simp[wY,List.getD_eq_getElem?_getD,hn])
theorem Row.put {W:World} {b:Nat} {L:List Bool} (h:Row W b L) (n:Nat) (x:Bool):Row (W.setCell ⟨b,n,none⟩ (.bool x)) b (L.set n x):=by
 have:=Box.set h n (.bool x)
 unfold Row
 rw[show wY (L.set n x)=(wY L).setIfInBounds n (.bool x)from ?_]
 ·exact this
 ·unfold wY
  rw[List.map_set]
  simp
theorem Row.step {W W':World} {b:Nat} {L:List Bool} (h:Row W b L) (hb:Below W.heap.size W W'):Row W' b L:=Box.step h hb
theorem Row.other {W:World} {b b':Nat} {L:List Bool} (h:Row W b L) (hne:b≠b') (i:Nat) (v:Value):Row (W.setCell ⟨b',i,none⟩ v) b L:=Box.other h hne i v
def uI (n:Nat) (b:Nat):Value:=.slice (some ⟨b,0,none⟩) n n
structure Rows (W:World) (n₀:Nat) (g c m:Nat) (bs:List Nat) (R:Nat->List Bool):Prop where
 own:W.ownsRow n₀ 128 1 (.slice (some ⟨g,0,none⟩) bs.length c) bs.length (bs.map (uI m))
 row:∀ (j:Nat) (h:j<bs.length),Row W bs[j] (R j)
 far:∀ (j:Nat) (h:j<bs.length),n₀<=bs[j]
theorem Rows.step {W W':World} {n₀ g c m:Nat} {bs:List Nat} {R:Nat->List Bool} (h:Rows W n₀ g c m bs R) (hb:Below W.heap.size W W'):Rows W' n₀ g c m bs R:=
 ⟨own_below h.own hb,fun j hj=>(h.row j hj).step hb,h.far⟩
theorem Rows.cell {W:World} {n₀ g c m:Nat} {bs:List Nat} {R:Nat->List Bool} (h:Rows W n₀ g c m bs R) (j:Nat) (hj:j<bs.length):W.cell? ⟨g,j,none⟩=some (uI m bs[j]):=by
 rw[h.own.cellAt j (by omega)]
 simp[hj]
theorem Rows.ne {W:World} {n₀ g c m:Nat} {bs:List Nat} {R:Nat->List Bool} (h:Rows W n₀ g c m bs R) {b:Nat} {vs:Array Value} {t:TypeId} (hb:Box W b vs t) (ht:t≠128):b≠g:=by
 have:=own_ne h.own hb ht
 simpa[Value.ownBlock]using this
theorem Rows.other {W:World} {n₀ g c m:Nat} {bs:List Nat} {R:Nat->List Bool} (h:Rows W n₀ g c m bs R) {b:Nat} {vs:Array Value} {t:TypeId} (hb:Box W b vs t) (ht:t≠128) (hne:∀ (j:Nat) (h:j<bs.length),bs[j]≠b) (i:Nat) (v:Value):Rows (W.setCell ⟨b,i,none⟩ v) n₀ g c m bs R:=
 ⟨ZC h.own hb ht i v,fun j hj=>(h.row j hj).other (hne j hj) i v,h.far⟩
theorem Rows.swap {W:World} {n₀ g c m:Nat} {bs:List Nat} {R R':Nat->List Bool} (h:Rows W n₀ g c m bs R) {i b:Nat} (hi:i<bs.length) (hb:Row W b (R' i)) (hbf:n₀<=b) (hR:∀ j,j<bs.length->j≠i->R' j=R j):Rows (W.setCell ⟨g,i,none⟩ (uI m b)) n₀ g c m (bs.set i b) R':=by
 refine⟨?_,fun j hj=>?_,fun j hj=>?_⟩
 ·have:=(h.own.stored i (uI m b)).1
  rw[List.length_set,List.map_set]
  exact this
 ·rw[List.length_set]at hj
  rw[List.getElem_set]
  by_cases hij:i=j
  ·subst hij
   rw[if_pos rfl]
   exact hb.other (h.ne hb (by decide)) i _
  ·rw[if_neg hij,hR j hj (fun e=>hij e.symm)]
   exact(h.row j hj).other (h.ne (h.row j hj) (by decide)) i _
 ·rw[List.length_set]at hj
  rw[List.getElem_set]
  by_cases hij:i=j
  ·rw[if_pos hij];exact hbf
  ·rw[if_neg hij];exact h.far j hj
theorem aTV:(Tryd.prog.info? 128).map (fun i=>(i.zero,i.size,i.bytes))=some (some (.slice none 0 0),1,24):=by kernel_rfl
theorem info4:(Tryd.prog.info? 4).map (fun i=>(i.zero,i.size,i.bytes))=some (some (.bool false),1,1):=by kernel_rfl
theorem bmL {W:World} {n₀ g c m:Nat} {bs:List Nat} {R:Nat->List Bool} (h:Rows W n₀ g c m bs R) (hs:n₀<=W.heap.size) {b:Nat} (hb:Row W b (R bs.length)) (hbf:n₀<=b) (hn:bs.length<=1000):
  ∃ g' c' W',(Builtin.append_ #[178,178] 178 #[.slice (some ⟨g,0,none⟩) bs.length c,.slice (some ⟨W.heap.size,0,none⟩) 1 1]).run Tryd.prog (W.alloc (.cells #[uI m b] 128))=.ok (.slice (some ⟨g',0,none⟩) (bs.length+1) c') W'/\Rows W' n₀ g' c' m (bs++[b]) R/\Below n₀ W W'/\
   (∀ (k:Nat) (vs:Array Value) (t:TypeId),Box W k vs t->t≠128->Box W' k vs t):=by
 obtain⟨i3,hi3,hz3⟩:=Option.map_eq_some_iff.1 aTV
 simp only[Prod.mk.injEq]at hz3
 obtain⟨hz0,hz1,hz2⟩:=hz3
 obtain⟨W1,hW1⟩:∃ W1,W.alloc (.cells #[uI m b] 128)=W1:=⟨_,rfl⟩
 have hb1:Below W.heap.size W W1:=by rw[<-hW1];exact(Below.refl _ _).alloc (Nat.le_refl _) _
 have h1:=h.step hb1
 have hcell:W1.cell? ⟨W.heap.size,0,none⟩=some (uI m b):=by rw[<-hW1];exact(Box.new W #[uI m b] 128).cell 0 rfl
 obtain⟨v',W',hrun,hown',hg,hnil,hat⟩:=run_append_own_at (P:=Tryd.prog) W1 n₀ 178 178 128 i3 (.slice none 0 0) 1 24 Tryd.underlying178 hi3 hz0 hz1 hz2 rfl (by decide) (.slice (some ⟨g,0,none⟩) bs.length c) bs.length (bs.map (uI m)) h1.own ⟨W.heap.size,0,none⟩ 1 1 [uI m b] rfl
  (by
    intro j u hj
    match j,hj with
    |0,hj=>simp at hj;subst hj;simpa[Addr.add]using hcell)
  (by intro u hu;rw[List.mem_singleton.1 hu];rfl) (by unfold maxLen;omega) (by omega) (by have:=hb1.size;omega)
 obtain⟨g',c',rfl,hg'⟩:=afR hown' (by omega)
 have hkeep:∀ (k:Nat) (vs:Array Value) (t:TypeId),Box W k vs t->t≠128->Box W' k vs t:=fun k vs t hk ht=>by
  have hk1:=hk.step hb1
  exact(hg.block k hk1.lt (fun e=>own_ne h1.own hk1 ht e)).trans hk1
 rw[hW1]
 refine⟨g',c',W',by rw[hrun],⟨?_,fun j hj=>?_,fun j hj=>?_⟩,?_,hkeep⟩
 ·rw[List.length_append,List.map_append]
  exact hown'
 ·rw[List.length_append]at hj
  rw[List.getElem_append]
  split
  ·rename_i hlt
   exact hkeep _ _ _ (h.row j hlt) (by decide)
  ·rename_i hge
   obtain rfl:j=bs.length:=by simp at hj;omega
   simp only[Nat.sub_self,List.getElem_cons_zero]
   exact hkeep _ _ _ hb (by decide)
 ·rw[List.getElem_append]
  split
  ·rename_i hlt
   exact h.far j hlt
  ·simpa using hbf
 ·have hB:Below n₀ W W1:=hb1.mono hs
  exact aVT h1.own hg hB (Nat.le_trans hs hb1.size)
attribute [local go_sem] Oper.semAt_some run_store_func
def fZ (r:Bool) (x:aZ):Int:=if r=true then x.f1 else x.f0
def fJ (r:Bool) (x:aI):aH:=if r=true then x.f2 else x.f1
def ltOf (r:Bool) (x:aI):Lt:=⟨(fJ r x).f0,(fJ r x).f1,x.f3⟩
def dO (r:Bool) (ls:List aI) (li:List Int) (i:Nat):Lt:=ltOf r (aU ls (rd li i))
structure aoA (os:List aZ) (ls:List aI) (o:Nat) (li:List Int) (r:Bool) (M:Nat):Prop where
 ho:o<os.length
 hM:fZ r (dK os o)=M
 hM2:M<=144
 len:li.length<=8
 lot:∀ i:Nat,i<li.length->(0<=rd li i/\rd li i<ls.length)/\0<=(dO r ls li i).lo/\(dO r ls li i).lo<=(dO r ls li i).hi/\(dO r ls li i).hi<=144
structure VU (N:Nat) (lH rO:Addr) (m1 c1 i:Nat) (x:Int) (l:aI) (W:World):Prop where
 g0:W.cell? ⟨N,1,none⟩=some (.slice (some lH) m1 c1)
 g1:W.cell? (rO.add i)=some (.int .i64 x)
 g2:W.cell? (lH.add (x.toNat*6))=some (.int .i64 l.f0)
 g3:W.cell? ⟨(lH.add (x.toNat*6)).block,(lH.add (x.toNat*6)).off+1,none⟩=some (.int .i64 l.f1.f0)
 g4:W.cell? ⟨(lH.add (x.toNat*6)).block,(lH.add (x.toNat*6)).off+2,none⟩=some (.int .i64 l.f1.f1)
 g5:W.cell? ⟨(lH.add (x.toNat*6)).block,(lH.add (x.toNat*6)).off+3,none⟩=some (.int .i64 l.f2.f0)
 g6:W.cell? ⟨(lH.add (x.toNat*6)).block,(lH.add (x.toNat*6)).off+4,none⟩=some (.int .i64 l.f2.f1)
 g7:W.cell? ⟨(lH.add (x.toNat*6)).block,(lH.add (x.toNat*6)).off+5,none⟩=some (.bool l.f3)
theorem VU.step {N:Nat} {lH rO:Addr} {m1 c1 i:Nat} {x:Int} {l:aI} {W W':World} (h:VU N lH rO m1 c1 i x l W) (hb:Below W.heap.size W W'):VU N lH rO m1 c1 i x l W':=
 ⟨jW hb h.g0,jW hb h.g1,jW hb h.g2,jW hb h.g3,jW hb h.g4,jW hb h.g5,jW hb h.g6,jW hb h.g7⟩
def SI (l:aI):Array Value:=#[.int .i64 l.f0,.int .i64 l.f1.f0,.int .i64 l.f1.f1,.int .i64 l.f2.f0,.int .i64 l.f2.f1,.bool l.f3]
def UN:Array Value:=#[.int .i64 0,.int .i64 0,.int .i64 0,.int .i64 0,.int .i64 0,.bool false]
def VV (W:World) (b:Nat) (l:aI):World:=(((((W.setCell ⟨b,0,none⟩ (.int .i64 l.f0)).setCell ⟨b,1,none⟩ (.int .i64 l.f1.f0)).setCell ⟨b,2,none⟩ (.int .i64 l.f1.f1)).setCell ⟨b,3,none⟩ (.int .i64 l.f2.f0)).setCell ⟨b,4,none⟩ (.int .i64 l.f2.f1)).setCell ⟨b,5,none⟩ (.bool l.f3)
theorem arY {W:World} {b:Nat} (h:Box W b UN 91) (l:aI):Box (VV W b l) b (SI l) 91:=(((((h.set 0 (.int .i64 l.f0)).set 1 (.int .i64 l.f1.f0)).set 2 (.int .i64 l.f1.f1)).set 3 (.int .i64 l.f2.f0)).set 4 (.int .i64 l.f2.f1)).set 5 (.bool l.f3)
theorem aZ6 {W:World} {b k:Nat} {vs:Array Value} {t:TypeId} (h:Box W k vs t) (hne:k≠b) (l:aI):Box (VV W b l) k vs t:=(((((h.other hne _ _).other hne _ _).other hne _ _).other hne _ _).other hne _ _).other hne _ _
theorem arZ {w W:World} {n b:Nat} (h:Below n w W) (hb:n<=b) (l:aI):Below n w (VV W b l):=
 (((((h.setCell (p:=⟨b,0,none⟩) hb _).setCell (p:=⟨b,1,none⟩) hb _).setCell (p:=⟨b,2,none⟩) hb _).setCell (p:=⟨b,3,none⟩) hb _).setCell (p:=⟨b,4,none⟩) hb _).setCell (p:=⟨b,5,none⟩) hb _
structure aaT (w:World) (vs:Array Value) (g c M:Nat) (bb:List Nat) (R:Nat->List Bool) (bl b15 bn:Nat) (l:aI) (s:aH) (L:List Bool) (W:World):Prop where
 r:Rows W w.heap.size g c (M+1) bb R
 x:Box W w.heap.size vs 25
 b:Below w.heap.size w W
 l:Box W bl (SI l) 91
 s:Box W b15 #[.int .i64 s.f0,.int .i64 s.f1] 42
 nx:Row W bn L
theorem aaT.step {w:World} {vs:Array Value} {g c M:Nat} {bb:List Nat} {R:Nat->List Bool} {bl b15 bn:Nat} {l:aI} {s:aH} {L:List Bool} {W W':World} (h:aaT w vs g c M bb R bl b15 bn l s L W) (hb:Below W.heap.size W W'):aaT w vs g c M bb R bl b15 bn l s L W':=
 ⟨h.r.step hb,h.x.step hb,h.b.trans (hb.mono h.b.size),h.l.step hb,h.s.step hb,h.nx.step hb⟩
theorem aaT.put {w:World} {vs:Array Value} {g c M:Nat} {bb:List Nat} {R:Nat->List Bool} {bl b15 bn:Nat} {l:aI} {s:aH} {L:List Bool} {W:World} (h:aaT w vs g c M bb R bl b15 bn l s L W)
  (h1:∀ (j:Nat) (h:j<bb.length),bb[j]≠bn) (h2:w.heap.size<bn) (h3:bl≠bn) (h4:b15≠bn) (n:Nat):aaT w vs g c M bb R bl b15 bn l s (L.set n true) (W.setCell ⟨bn,n,none⟩ (.bool true)):=
 ⟨h.r.other h.nx (by decide) h1 n _,h.x.other (by omega) n _,h.b.setCell (p:=⟨bn,n,none⟩) (by simp;omega) _,h.l.other h3 n _,h.s.other h4 n _,h.nx.put n true⟩
theorem ar0 {i n:Nat} (h:i<n) (hn:n<=8):wrap64 ((i:Int)+1)=(i:Int)+1:=jF (by omega) (by omega)
theorem bnK (t:Array Value) (W:World) (v:Value) (h:t.getD 8 undef=v):(results Tryd.f101 t).run Tryd.prog W=.ok v W:=by
 simp only[Array.getD_eq_getD_getElem?]at h
 simp[results,Tryd.results101,go_sem,h]
theorem aFT (a b c:Int):qX.f a b c=some (decide (b<=a/\a<=c)):=by
 unfold qX.f
 by_cases h:a≥b
 ·rw[if_pos h]
  congr 1
  by_cases h2:a<=c<;>simp[h2]<;>omega
 ·rw[if_neg h]
  congr 1
  symm
  exact decide_eq_false fun hh=>h hh.1
theorem aFU (r:Bool) (l:aI) (n x:Int) (hn:0<=n/\n<=1000) (hx:0<=x/\x<=1000):acM.f n x l.f3=some ((ltOf r l).qU n x):=by
 unfold acM.f Lt.qU ltOf
 cases l.f3
 ·rw[if_neg (by decide),if_neg (by simp),jF (by omega) (by omega)]
 ·rw[if_pos rfl,if_pos rfl,jF (by omega) (by omega)]
theorem aN5 (os:List aZ) (ls:List aI) (o:Nat) (li:List Int) (r:Bool) (M:Nat) (H:aoA os ls o li r M) (A0 A1 A2:Option Addr) (c0 c1 c2:Nat) (w:World)
  (hr0:Kd.C iJ w A0 os.length os) (hr1:Kd.C iE w A1 ls.length ls) (hr2:Kd.C (Kd.int .i64) w A2 li.length li):
  Calls Tryd.prog 101 #[.agg #[.slice A0 os.length c0,.slice A1 ls.length c1],.int .i64 o,.slice A2 li.length c2,.bool r] w fun e w'=>∃ (g c:Nat) (bs:List Nat),bs.length=li.length+1/\e=.returned (.slice (some ⟨g,0,none⟩) (li.length+1) c)/\Rows w' w.heap.size g c (M+1) bs (rowB M (dO r ls li))/\Below w.heap.size w w':=by
 obtain⟨i4,hi4,XW⟩:=Option.map_eq_some_iff.1 info4
 simp only[Prod.mk.injEq]at XW
 obtain⟨hz0,hz1,hz2⟩:=XW
 refine(callsIn_wide (n:=0)).1 ?_
 refine callsIn_of_wp Tryd.func101 rfl trivial ?_
 simp only[Tryd.ntmps101,List.size_toArray,List.length_cons,List.length_nil,Nat.reduceAdd,Nat.reduceSub,Array.replicate_succ,Array.replicate_zero,List.push_toArray,List.append_toArray,List.nil_append,List.cons_append]
 obtain⟨Wa,hWa⟩:∃ Wa,w.alloc (.cells #[.slice A0 os.length c0,.slice A1 ls.length c1] 25)=Wa:=⟨_,rfl⟩
 have hba:Below w.heap.size w Wa:=by rw[<-hWa];exact(Below.refl _ _).alloc (Nat.le_refl _) _
 have hB0:Box Wa w.heap.size #[.slice A0 os.length c0,.slice A1 ls.length c1] 25:=by rw[<-hWa];exact Box.new _ _ _
 have q0:Wa.cell? ⟨w.heap.size,0,none⟩=some (.slice A0 os.length c0):=hB0.cell 0 rfl
 have ho:=H.ho
 obtain⟨ad,hA,q1,q2⟩:=QW (Kd.bJ hr0 hba) (o:Int) (by omega) (by omega)
 subst hA
 rw[Int.toNat_natCast]at q1 q2
 have ho1:(o:Int)<(os.length:Int):=by omega
 gi_wp2_with fail
 have hor:yL.f (dK os (o:Int)).f0 (dK os (o:Int)).f1 r=some (M:Int):=by
  rw[<-H.hM]
  unfold yL.f fZ
  cases r<;>rfl
 refine⟨trivial,rfl,?_⟩
 refine(callsIn_wide.2 (yL.calls _ _ r (M:Int) _ hor)).mono ?_
 rintro e w1 ⟨rfl,hb1⟩
 have hB1:Below w.heap.size w w1:=hba.trans (hb1.mono hba.size)
 have hX1:=hB0.step hb1
 have hM2:=H.hM2
 have hmk:=run_make (P:=Tryd.prog) w1 128 4 i4 _ Tryd.underlying128 hi4 hz0 .i64 .i64 ((M:Int)+1) ((M:Int)+1) (by omega) (Int.le_refl _) (by rw[hz2];omega) (by omega)
 rw[hz1,show((M:Int)+1).toNat=M+1 by omega,Nat.mul_one,show(Value.bool false).cells=#[Value.bool false]from rfl,axJ]at hmk
 obtain⟨W2,hW2⟩:∃ W2,w1.alloc (.cells (wY (List.replicate (M+1) false)) 4)=W2:=⟨_,rfl⟩
 rw[hW2]at hmk
 have hb2:Below w1.heap.size w1 W2:=by rw[<-hW2];exact(Below.refl _ _).alloc (Nat.le_refl _) _
 have hw1:IntKind.i64.wrap ((M:Int)+1)=(M:Int)+1:=by rw[IntKind.wrap_i64];omega
 have hr2':Row W2 w1.heap.size (List.replicate (M+1) false):=by rw[<-hW2];exact Box.new _ _ _
 have hf2:=hr2'.frozen 0
 have hc2:=hr2'.cell 0 (by simp)
 clear hba hB0 q0 q1 q2 hWa hb1 hz0 hz1 hz2 hW2 hor
 gi_wp2
 have aFV:Hid (∀ W:World,(Instr.makeSlice 128 (Value.int IntKind.i64 ((M:Int)+1)) (Value.int IntKind.i64 ((M:Int)+1))).run Tryd.prog W=.ok (.slice (some ⟨W.heap.size,0,none⟩) (M+1) (M+1)) (W.alloc (.cells (wY (List.replicate (M+1) false)) 4))):=Lib.hid (fun W=>by
  obtain⟨i4,hi4,XW⟩:=Option.map_eq_some_iff.1 info4
  simp only[Prod.mk.injEq]at XW
  obtain⟨hz0,hz1,hz2⟩:=XW
  have hmk:=run_make (P:=Tryd.prog) W 128 4 i4 _ Tryd.underlying128 hi4 hz0 .i64 .i64 ((M:Int)+1) ((M:Int)+1) (by omega) (Int.le_refl _) (by rw[hz2];omega) (by omega)
  rw[hz1,show((M:Int)+1).toNat=M+1 by omega,Nat.mul_one,show(Value.bool false).cells=#[Value.bool false]from rfl,axJ]at hmk
  exact hmk)
 have s2:w1.heap.size<W2.heap.size:=hr2'.lt
 have sB:=hB1.size
 have hB3:Below w.heap.size w (W2.setCell ⟨w1.heap.size,0,none⟩ (.bool true)):=(hB1.trans (hb2.mono sB)).setCell (p:=⟨w1.heap.size,0,none⟩) (by simpa using sB) _
 have hX3:=(hX1.step hb2).other (b':=w1.heap.size) (by have:=hX1.lt;omega) 0 (.bool true)
 have hR3:=hr2'.put 0 true
 obtain⟨W3,hW3⟩:∃ W3,W2.setCell ⟨w1.heap.size,0,none⟩ (.bool true)=W3:=⟨_,rfl⟩
 have s3:W3.heap.size=W2.heap.size:=by rw[<-hW3];simp
 rw[hW3]at hB3 hX3 hR3 ⊢
 obtain⟨W4,hW4⟩:∃ W4,W3.alloc (Obj.cells #[Value.slice (some { block:=w1.heap.size,off:=0}) (M+1) (M+1)] 128)=W4:=⟨_,rfl⟩
 have hb4:Below W3.heap.size W3 W4:=by rw[<-hW4];exact(Below.refl _ _).alloc (Nat.le_refl _) _
 have hRw:Rows W4 w.heap.size W2.heap.size 1 (M+1) ([]++[w1.heap.size]) (rowB M (dO r ls li)):=by
  refine⟨?_,fun j hj=>?_,fun j hj=>?_⟩
  ·rw[<-hW4,<-s3]
   exact World.ownsRow_lit (base:=w.heap.size) (e:=128) (size:=1) W3 #[uI (M+1) w1.heap.size] 1 hB3.size (by simp[maxLen]) rfl
  ·obtain rfl:j=0:=by simp at hj;omega
   exact hR3.step hb4
  ·obtain rfl:j=0:=by simp at hj;omega
   exact sB
 have hB4:=hB3.trans (hb4.mono hB3.size)
 have hX4:=hX3.step hb4
 rw[hW4]
 clear hb2 hr2' hf2 hc2 hmk hB3 hX3 hR3 hW3 hb4 hW4 hB1 hX1
 have xB:=Lib.hid H
 clear H
 gi_loopw [10,11,12] (fun nv ov iv wr=>∃ (i g c b:Nat) (bs:List Nat),i<=li.length/\iv=.int .i64 i/\bs.length=i/\nv=uI (M+1) b/\ov=.slice (some ⟨g,0,none⟩) (i+1) c/\Rows wr w.heap.size g c (M+1) (bs++[b]) (rowB M (dO r ls li))/\Box wr w.heap.size #[.slice (some ad) os.length c0,.slice A1 ls.length c1] 25/\Below w.heap.size w wr) (fun _ _ iv _=>li.length - (intOf iv).toNat)
 case atStart=>exact⟨0,_,_,_,[],Nat.zero_le _,rfl,rfl,rfl,rfl,hRw,hX4,hB4⟩
 case round=>
  clear hRw hX4 hB4 s3 s2 sB hi4
  obtain⟨i,g,c,b,bs,hi,rfl,hbs,rfl,rfl,hR,hX,hB⟩:=hrel
  unfold uI
  by_cases hlt:i<li.length
  ·obtain⟨hx,hl1,hl2,hl3⟩:=xB.out.lot i hlt
   obtain⟨rO,hA2,e1⟩:=Kd.BL (Kd.bJ hr2 hB) (i:Int) (by omega) (by omega)
   subst hA2
   obtain⟨x,hxe⟩:∃ x,rd li (i:Int)=x:=⟨_,rfl⟩
   obtain⟨lH,hA1,e2,e3,e4,e5,e6,e7⟩:=OO (Kd.bJ hr1 hB) x (by rw[<-hxe];exact hx.1) (by rw[<-hxe];exact hx.2)
   subst hA1
   rw[Int.toNat_natCast,hxe]at e1
   obtain⟨l,hle⟩:∃ l,aU ls x=l:=⟨_,rfl⟩
   have hlt2:dO r ls li i=ltOf r l:=by unfold dO;rw[hxe,hle]
   rw[hlt2]at hl1 hl2 hl3
   rw[hxe]at hx
   rw[hle]at e2 e3 e4 e5 e6 e7
   have Hlt:=Lib.hid hlt2
   clear hlt2 hle hxe
   have hC:VU w.heap.size lH rO ls.length c1 i x l wr:=⟨hX.cell 1 rfl,e1,e2,e3,e4,e5,e6,e7⟩
   have kW:VU w.heap.size lH rO ls.length c1 i x l wr.drew:=hC.step ((Below.refl _ _).drew)
   clear e1 e2 e3 e4 e5 e6 e7
   have hil:(i:Int)<(li.length:Int):=by omega
   obtain⟨hx0,hx1⟩:=hx
   have hst:wr.heap.size<=wr.heap.size:=Nat.le_refl _
   gi_wp2
   refine aeB 13 (.quiet 0 (.quiet 1 (.quiet 2 (.quiet 3 (.quiet 4 (.quiet 5 (.quiet 6 (.quiet 7 (.quiet 8 (.quiet 9 (.two 10 11 (.ev 11 (.ev 12 .done)) (.two 10 12 (.ev 12 .done) (.ev 10 .done))))))))))))) (VU w.heap.size lH rO ls.length c1 i x l) (rZ.of (by kernel_rfl)) rfl (by kernel_rfl) kW ?_
   iterate 10 (apply UA rfl (fun _=>rfl) (by assumption);focus(intro K hK w' hw';obtain⟨g0,g1,g2,g3,g4,g5,g6,g7⟩:=hw';go_simp;exact hK))
   have hbD:Below wr.heap.size wr wr.drew:=(Below.refl _ _).drew
   obtain⟨D,hD⟩:∃ D,D=wr.drew:=⟨_,rfl⟩
   rw[<-hD]at kW hbD ⊢
   have CB:=hbD
   have aZ9:=kW
   have sD:=hbD.size
   clear hD kW hbD
   refine ah2 rfl rfl ?ea ?eb
   case' ea=>
    have hm0:=aFV.out D
    obtain⟨EH,lL⟩:∃ Wn,D.alloc (.cells (wY (List.replicate (M+1) false)) 4)=Wn:=⟨_,rfl⟩
    rw[lL]at hm0
    have hbn:Below D.heap.size D EH:=by rw[<-lL];exact(Below.refl _ _).alloc (Nat.le_refl _) _
    have aN7:Row EH D.heap.size (List.replicate (M+1) false):=by rw[<-lL];exact Box.new _ _ _
    obtain⟨bn,hbe⟩:∃ b,D.heap.size=b:=⟨_,rfl⟩
    have sn:wr.heap.size<=bn:=by rw[<-hbe];exact CB.size
    have ax8:=aZ9.step hbn
    have ajA:=CB.trans (hbn.mono CB.size)
    rw[hbe]at aN7 hm0
    clear lL hbn
    gi_wp2
    clear hm0 hbe
    refine⟨ax8,?_⟩
    refine DN rfl ?_
    gi_wp2
    obtain⟨yM,lL⟩:∃ Wn,EH.alloc (.cells UN 91)=Wn:=⟨_,rfl⟩
    have rP:=lL
    unfold UN at rP
    rw[rP]
    have hbn:Below EH.heap.size EH yM:=by rw[<-lL];exact(Below.refl _ _).alloc (Nat.le_refl _) _
    have xC:Box yM EH.heap.size UN 91:=by rw[<-lL];exact Box.new _ _ _
    obtain⟨bl,hbe⟩:∃ b,EH.heap.size=b:=⟨_,rfl⟩
    have sl:wr.heap.size<=bl:=by rw[<-hbe];exact ajA.size
    have ar1:=ax8.step hbn
    have ajB:=ajA.trans (hbn.mono ajA.size)
    rw[hbe]at xC ⊢
    have aFW:=aN7.step hbn
    have hne:bn≠bl:=by have:=aN7.lt;omega
    clear lL rP hbn hbe
    refine⟨ar1,?_⟩
    refine DN rfl ?_
    have f0:=xC.frozen 0
    have f1:=xC.frozen 1
    have f2:=xC.frozen 2
    have f3:=xC.frozen 3
    have f4:=xC.frozen 4
    have f5:=xC.frozen 5
    have d0:yM.cell? ⟨bl,0,none⟩=some (.int .i64 0):=xC.cell 0 rfl
    have d1:yM.cell? ⟨bl,1,none⟩=some (.int .i64 0):=xC.cell 1 rfl
    have d2:yM.cell? ⟨bl,2,none⟩=some (.int .i64 0):=xC.cell 2 rfl
    have d3:yM.cell? ⟨bl,3,none⟩=some (.int .i64 0):=xC.cell 3 rfl
    have d4:yM.cell? ⟨bl,4,none⟩=some (.int .i64 0):=xC.cell 4 rfl
    have d5:yM.cell? ⟨bl,5,none⟩=some (.bool false):=xC.cell 5 rfl
    gi_wp2
    obtain⟨ZN,lL⟩:∃ Wn,VV yM bl l=Wn:=⟨_,rfl⟩
    have rP:=lL
    unfold VV at rP
    rw[rP]
    have ax9:Box ZN bl (SI l) 91:=by rw[<-lL];exact arY xC l
    have aoD:Below wr.heap.size wr ZN:=by rw[<-lL];exact arZ ajB sl l
    have ayA:=hC.step aoD
    have ar2:Row ZN bn (List.replicate (M+1) false):=by rw[<-lL];exact aZ6 aFW hne l
    clear lL rP f0 f1 f2 f3 f4 f5 d0 d1 d2 d3 d4 d5
    refine⟨ayA,?_⟩
    obtain⟨Wz,ND⟩:∃ Wz,ZN=Wz:=⟨_,rfl⟩
    have rz:=ar2
    have xz:=ax9
    have IB:=aoD
    rw[ND]at rz xz IB ⊢
   case' eb=>
    gi_wp2
    obtain⟨EH,lL⟩:∃ Wn,D.alloc (.cells UN 91)=Wn:=⟨_,rfl⟩
    have rP:=lL
    unfold UN at rP
    rw[rP]
    have hbn:Below D.heap.size D EH:=by rw[<-lL];exact(Below.refl _ _).alloc (Nat.le_refl _) _
    have UO:Box EH D.heap.size UN 91:=by rw[<-lL];exact Box.new _ _ _
    obtain⟨bl,hbe⟩:∃ b,D.heap.size=b:=⟨_,rfl⟩
    have sl:wr.heap.size<=bl:=by rw[<-hbe];exact CB.size
    have ax8:=aZ9.step hbn
    have ajA:=CB.trans (hbn.mono CB.size)
    rw[hbe]at UO ⊢
    clear lL rP hbn hbe
    refine⟨ax8,?_⟩
    refine ah2 rfl rfl ?ec ?ed
   case' ec=>
    have hm0:=aFV.out EH
    obtain⟨yM,lL⟩:∃ Wn,EH.alloc (.cells (wY (List.replicate (M+1) false)) 4)=Wn:=⟨_,rfl⟩
    rw[lL]at hm0
    have hbn:Below EH.heap.size EH yM:=by rw[<-lL];exact(Below.refl _ _).alloc (Nat.le_refl _) _
    have aFW:Row yM EH.heap.size (List.replicate (M+1) false):=by rw[<-lL];exact Box.new _ _ _
    obtain⟨bn,hbe⟩:∃ b,EH.heap.size=b:=⟨_,rfl⟩
    have sn:wr.heap.size<=bn:=by rw[<-hbe];exact ajA.size
    have ar1:=ax8.step hbn
    have ajB:=ajA.trans (hbn.mono ajA.size)
    rw[hbe]at aFW hm0
    have xC:=UO.step hbn
    have hne:bn≠bl:=by have:=UO.lt;omega
    clear lL hbn
    gi_wp2
    clear hm0 hbe
    refine⟨ar1,?_⟩
    refine DN rfl ?_
    have f0:=xC.frozen 0
    have f1:=xC.frozen 1
    have f2:=xC.frozen 2
    have f3:=xC.frozen 3
    have f4:=xC.frozen 4
    have f5:=xC.frozen 5
    have d0:yM.cell? ⟨bl,0,none⟩=some (.int .i64 0):=xC.cell 0 rfl
    have d1:yM.cell? ⟨bl,1,none⟩=some (.int .i64 0):=xC.cell 1 rfl
    have d2:yM.cell? ⟨bl,2,none⟩=some (.int .i64 0):=xC.cell 2 rfl
    have d3:yM.cell? ⟨bl,3,none⟩=some (.int .i64 0):=xC.cell 3 rfl
    have d4:yM.cell? ⟨bl,4,none⟩=some (.int .i64 0):=xC.cell 4 rfl
    have d5:yM.cell? ⟨bl,5,none⟩=some (.bool false):=xC.cell 5 rfl
    gi_wp2
    obtain⟨ZN,lL⟩:∃ Wn,VV yM bl l=Wn:=⟨_,rfl⟩
    have rP:=lL
    unfold VV at rP
    rw[rP]
    have ax9:Box ZN bl (SI l) 91:=by rw[<-lL];exact arY xC l
    have aoD:Below wr.heap.size wr ZN:=by rw[<-lL];exact arZ ajB sl l
    have ayA:=hC.step aoD
    have ar2:Row ZN bn (List.replicate (M+1) false):=by rw[<-lL];exact aZ6 aFW hne l
    clear lL rP f0 f1 f2 f3 f4 f5 d0 d1 d2 d3 d4 d5
    refine⟨ayA,?_⟩
    obtain⟨Wz,ND⟩:∃ Wz,ZN=Wz:=⟨_,rfl⟩
    have rz:=ar2
    have xz:=ax9
    have IB:=aoD
    rw[ND]at rz xz IB ⊢
   case' ed=>
    have f0:=UO.frozen 0
    have f1:=UO.frozen 1
    have f2:=UO.frozen 2
    have f3:=UO.frozen 3
    have f4:=UO.frozen 4
    have f5:=UO.frozen 5
    have d0:EH.cell? ⟨bl,0,none⟩=some (.int .i64 0):=UO.cell 0 rfl
    have d1:EH.cell? ⟨bl,1,none⟩=some (.int .i64 0):=UO.cell 1 rfl
    have d2:EH.cell? ⟨bl,2,none⟩=some (.int .i64 0):=UO.cell 2 rfl
    have d3:EH.cell? ⟨bl,3,none⟩=some (.int .i64 0):=UO.cell 3 rfl
    have d4:EH.cell? ⟨bl,4,none⟩=some (.int .i64 0):=UO.cell 4 rfl
    have d5:EH.cell? ⟨bl,5,none⟩=some (.bool false):=UO.cell 5 rfl
    gi_wp2
    obtain⟨yM,lL⟩:∃ Wn,VV EH bl l=Wn:=⟨_,rfl⟩
    have rP:=lL
    unfold VV at rP
    rw[rP]
    have xC:Box yM bl (SI l) 91:=by rw[<-lL];exact arY UO l
    have ajB:Below wr.heap.size wr yM:=by rw[<-lL];exact arZ ajA sl l
    have ar1:=hC.step ajB
    clear lL rP f0 f1 f2 f3 f4 f5 d0 d1 d2 d3 d4 d5
    refine⟨ar1,?_⟩
    refine DN rfl ?_
    have hm0:=aFV.out yM
    obtain⟨ZN,lL⟩:∃ Wn,yM.alloc (.cells (wY (List.replicate (M+1) false)) 4)=Wn:=⟨_,rfl⟩
    rw[lL]at hm0
    have hbn:Below yM.heap.size yM ZN:=by rw[<-lL];exact(Below.refl _ _).alloc (Nat.le_refl _) _
    have ar2:Row ZN yM.heap.size (List.replicate (M+1) false):=by rw[<-lL];exact Box.new _ _ _
    obtain⟨bn,hbe⟩:∃ b,yM.heap.size=b:=⟨_,rfl⟩
    have sn:wr.heap.size<=bn:=by rw[<-hbe];exact ajB.size
    have ayA:=ar1.step hbn
    have aoD:=ajB.trans (hbn.mono ajB.size)
    rw[hbe]at ar2 hm0
    have ax9:=xC.step hbn
    have hne:bn≠bl:=by have:=xC.lt;omega
    clear lL hbn
    gi_wp2
    clear hm0 hbe
    refine⟨ayA,?_⟩
    obtain⟨Wz,ND⟩:∃ Wz,ZN=Wz:=⟨_,rfl⟩
    have rz:=ar2
    have xz:=ax9
    have IB:=aoD
    rw[ND]at rz xz IB ⊢
   all_goals
    show wpListIn _ _ _ _ _ _ _ _
    simp only[List.drop_succ_cons,List.drop_zero]
    have z0:Wz.cell? ⟨bl,0,none⟩=some (.int .i64 l.f0):=xz.cell 0 rfl
    have z1:Wz.cell? ⟨bl,1,none⟩=some (.int .i64 l.f1.f0):=xz.cell 1 rfl
    have z2:Wz.cell? ⟨bl,2,none⟩=some (.int .i64 l.f1.f1):=xz.cell 2 rfl
    have z3:Wz.cell? ⟨bl,3,none⟩=some (.int .i64 l.f2.f0):=xz.cell 3 rfl
    have z4:Wz.cell? ⟨bl,4,none⟩=some (.int .i64 l.f2.f1):=xz.cell 4 rfl
    have z5:Wz.cell? ⟨bl,5,none⟩=some (.bool l.f3):=xz.cell 5 rfl
    gi_wp2_with fail
    rw[yZ]
    have hbz:b≠bn/\b≠bl:=by
     have h1:=(hR.row bs.length (by simp)).lt
     simp only[List.getElem_append_right (Nat.le_refl _),Nat.sub_self,List.getElem_cons_zero]at h1
     omega
    have hnb:∀ (j:Nat) (h:j<(bs++[b]).length),(bs++[b])[j]<wr.heap.size:=fun j h=>(hR.row j h).lt
    have hRz:=hR.step IB
    have hXz:=hX.step IB
    have hBW:=hB.trans (IB.mono hB.size)
    have sz:=hB.size
    have Nlt:=hX.lt
    clear hC
    gi_wp2_with fail
    have hsd:XT.f l.f0 l.f1.f0 l.f1.f1 l.f2.f0 l.f2.f1 l.f3 r=some ((fJ r l).f0,(fJ r l).f1):=by
     unfold XT.f fJ
     cases r<;>rfl
    refine⟨trivial,rfl,?_⟩
    refine(callsIn_wide.2 (XT.calls _ _ _ _ _ _ r _ _ _ hsd)).mono ?_
    rintro e Ws ⟨rfl,hbs'⟩
    have hRs:=hRz.step hbs'
    have hXs:=hXz.step hbs'
    have hBs:=hBW.trans (hbs'.mono hBW.size)
    have rs:=rz.step hbs'
    have xs:=xz.step hbs'
    clear hbs' hRz hXz hBW rz xz z0 z1 z2 z3 z4 z5 IB
    gi_wp2
    obtain⟨Wt,hWt⟩:∃ Wt,Ws.alloc (Obj.cells #[Value.int IntKind.i64 (fJ r l).f0,Value.int IntKind.i64 (fJ r l).f1] 42)=Wt:=⟨_,rfl⟩
    have hbt:Below Ws.heap.size Ws Wt:=by rw[<-hWt];exact(Below.refl _ _).alloc (Nat.le_refl _) _
    have x15:Box Wt Ws.heap.size #[.int .i64 (fJ r l).f0,.int .i64 (fJ r l).f1] 42:=by rw[<-hWt];exact Box.new _ _ _
    rw[hWt]
    have n15:b≠Ws.heap.size/\bl≠Ws.heap.size/\bn≠Ws.heap.size:=by
     have h1:=xs.lt
     have h2:=rs.lt
     have h3:=(hRs.row bs.length (by simp)).lt
     simp only[List.getElem_append_right (Nat.le_refl _),Nat.sub_self,List.getElem_cons_zero]at h3
     omega
    obtain⟨s,hse⟩:∃ s,fJ r l=s:=⟨_,rfl⟩
    obtain⟨L,EI⟩:∃ L,ltOf r l=L:=⟨_,rfl⟩
    have hL0:L.lo=s.f0/\L.hi=s.f1:=by rw[<-EI,<-hse];exact⟨rfl,rfl⟩
    have hI0:aaT w #[.slice (some ad) os.length c0,.slice (some lH) ls.length c1] g c M (bs++[b]) (rowB M (dO r ls li)) bl Ws.heap.size bn l s (BB M L (rowB M (dO r ls li) i) 0) Wt:=by
     rw[<-hse]
     exact⟨hRs.step hbt,hXs.step hbt,hBs.trans (hbt.mono hBs.size),xs.step hbt,x15,rs.step hbt⟩
    obtain⟨b15,XR⟩:∃ b,Ws.heap.size=b:=⟨_,rfl⟩
    rw[XR]at hI0 n15 ⊢
    have hnn:∀ (j:Nat) (h:j<(bs++[b]).length),(bs++[b])[j]≠bn:=fun j h=>by have:=hnb j h;omega
    have hnN:w.heap.size<bn:=by omega
    have hrl:(rowB M (dO r ls li) i).length=M+1:=XL _ _ _
    obtain⟨QM,hrw⟩:∃ x,rowB M (dO r ls li) i=x:=⟨_,rfl⟩
    have aFX:∀ (L':List Bool) (W:World),aaT w #[.slice (some ad) os.length c0,.slice (some lH) ls.length c1] g c M (bs++[b]) (rowB M (dO r ls li)) bl b15 bn l s L' W->Row W b QM:=fun L' W h=>by
     have h3:=h.r.row bs.length (by simp)
     simp only[List.getElem_append_right (Nat.le_refl _),Nat.sub_self,List.getElem_cons_zero]at h3
     rw[hbs,hrw]at h3
     exact h3
    rw[hrw]at hI0 hrl
    have Hrw:=Lib.hid hrw
    have HL:=Lib.hid EI
    rw[EI]at hl1 hl2 hl3
    clear hrw EI hse hRs hXs hBs rs xs hWt hbt x15 XR hsd hnb
    gi_loopw [16] (fun nv wr2=>∃ n:Nat,n<=M+1/\nv=.int .i64 n/\aaT w #[.slice (some ad) os.length c0,.slice (some lH) ls.length c1] g c M (bs++[b]) (rowB M (dO r ls li)) bl b15 bn l s (BB M L QM n) wr2) (fun nv _=>M+1 - (intOf nv).toNat)
    case atStart=>exact⟨0,Nat.zero_le _,rfl,hI0⟩
    case round=>
     obtain⟨n,hn,rfl,hI⟩:=hrel
     clear hI0
     by_cases hnm:n<=M
     ·have hd1:((n:Int)<=(M:Int)):=by omega
      have y0:wr.cell? ⟨b15,0,none⟩=some (.int .i64 s.f0):=hI.s.cell 0 rfl
      obtain⟨J,hJ⟩:∃ J,(s.f1 - s.f0+1).toNat=J:=⟨_,rfl⟩
      have hJ2:(J:Int)=s.f1 - s.f0+1:=by have:=hL0;omega
      have hI1:aaT w #[.slice (some ad) os.length c0,.slice (some lH) ls.length c1] g c M (bs++[b]) (rowB M (dO r ls li)) bl b15 bn l s (if QM.getD n false=true then UI M L n (BB M L QM n) 0 else BB M L QM n) wr:=by
       split<;>exact hI
      have hnx:Hid (BB M L QM (n+1)=if QM.getD n false=true then UI M L n (BB M L QM n) J else BB M L QM n):=Lib.hid (by rw[BB,hL0.1,hL0.2,hJ])
      obtain⟨v,hv⟩:∃ v,QM.getD n false=v:=⟨_,rfl⟩
      rw[hv]at hI1 hnx
      gi_wp2
      gi_loopw [17] (fun xv wr3=>∃ j:Nat,j<=J/\(v=false->j=0)/\xv=.int .i64 (s.f0+j)/\aaT w #[.slice (some ad) os.length c0,.slice (some lH) ls.length c1] g c M (bs++[b]) (rowB M (dO r ls li)) bl b15 bn l s (if v=true then UI M L n (BB M L QM n) j else BB M L QM n) wr3) (fun xv _=>(s.f1+1 - intOf xv).toNat)
      case atStart=>exact⟨0,Nat.zero_le _,fun _=>rfl,by simp,hI1⟩
      case round=>
       obtain⟨j,hj,hj0,rfl,hK⟩:=hrel
       clear hI hI1 y0
       have y1:wr.cell? ⟨b15,1,none⟩=some (.int .i64 s.f1):=hK.s.cell 1 rfl
       have y2:wr.cell? ⟨b,n,none⟩=some (.bool v):=by
        have:=(aFX _ _ hK).cell n (by rw[hrl];omega)
        rw[hv]at this
        exact this
       have hd2:(0:Int)<=(n:Int)/\(n:Int)<(M:Int)+1:=by omega
       have z3:wr.cell? ⟨bl,5,none⟩=some (.bool l.f3):=hK.l.cell 5 rfl
       have HnN:=Lib.hid hnN
       have Hnn:=Lib.hid hnn
       have Hnow:=Lib.hid aFX
       clear hnN hnn aFX
       by_cases QN:j<J
       ·have hd3:s.f0+(j:Int)<=s.f1:=by omega
        cases v
        ·obtain rfl:=hj0 rfl
         clear z3
         gi_wp2
         go_roundw
         case rel=>exact⟨n+1,by omega,by go_num,by rw[hnx.out];exact hK⟩
         case measure=>simp[intOf];omega
        ·have FH:=aFU r l (n:Int) (s.f0+(j:Int)) (by omega) (by omega)
         rw[HL.out]at FH
         obtain⟨mm,hmm⟩:∃ mm,L.qU (n:Int) (s.f0+(j:Int))=mm:=⟨_,rfl⟩
         rw[hmm]at FH
         have hstep:Hid (UI M L n (BB M L QM n) (j+1)=if 0<=mm/\mm<=M then(UI M L n (BB M L QM n) j).set mm.toNat true else UI M L n (BB M L QM n) j):=Lib.hid (by rw[UI,hL0.1,hmm])
         have hKK:aaT w #[.slice (some ad) os.length c0,.slice (some lH) ls.length c1] g c M (bs++[b]) (rowB M (dO r ls li)) bl b15 bn l s (UI M L n (BB M L QM n) j) wr:=hK
         clear hK hmm
         gi_wp2_with fail
         refine⟨trivial,rfl,?_⟩
         refine(callsIn_wide.2 (acM.calls _ _ _ _ _ FH)).mono ?_
         rintro e wu ⟨rfl,hdu⟩
         have hKu:=hKK.step hdu.below
         clear hKK hdu y1 y2 z3
         gi_wp2_with fail
         refine⟨trivial,rfl,?_⟩
         refine(callsIn_wide.2 (qX.calls _ _ _ _ _ (aFT mm 0 (M:Int)))).mono ?_
         rintro e wv ⟨rfl,hdv⟩
         have hKv:=hKu.step hdv.below
         clear hKu hdv
         by_cases hin:0<=mm/\mm<=(M:Int)
         ·obtain⟨m,rfl⟩:∃ m:Nat,mm=m:=⟨mm.toNat,by omega⟩
          have hde:decide (0<=(m:Int)/\(m:Int)<=(M:Int))=true:=decide_eq_true hin
          have hlen:(UI M L n (BB M L QM n) j).length=M+1:=by rw[aMT,aMU]
          have hcell:=hKv.nx.cell m (by omega)
          have hfr:=hKv.nx.frozen m
          have hm1:(m:Int)<(M:Int)+1:=by omega
          have hm0:(0:Int)<=(m:Int):=by omega
          rw[hde]
          gi_wp2
          go_roundw
          case rel=>exact⟨j+1,by omega,by simp,by go_num,by
           try rw[if_pos rfl]
           rw[hstep.out,if_pos hin,Int.toNat_natCast]
           exact hKv.put Hnn.out HnN.out (Ne.symm hne) (Ne.symm n15.2.2) m⟩
          case measure=>simp[intOf];omega
         ·have hde:decide (0<=mm/\mm<=(M:Int))=false:=decide_eq_false hin
          rw[hde]
          gi_wp2
          go_roundw
          case rel=>exact⟨j+1,by omega,by simp,by go_num,by
           try rw[if_pos rfl]
           rw[hstep.out,if_neg hin]
           exact hKv⟩
          case measure=>simp[intOf];omega
       ·have hd3:¬ (s.f0+(j:Int)<=s.f1):=by omega
        obtain rfl:j=J:=by omega
        clear z3
        gi_wp2
        go_roundw
        case rel=>exact⟨n+1,by omega,by go_num,by rw[hnx.out];exact hK⟩
        case measure=>simp[intOf];omega
     ·obtain rfl:n=M+1:=by omega
      have hd1:¬ (((M+1:Nat):Int)<=(M:Int)):=by omega
      have hrow:Hid (rowB M (dO r ls li) (i+1)=BB M L QM (M+1)):=Lib.hid (by rw[rowB,Hlt.out,HL.out,Hrw.out])
      have hlb:(bs++[b]).length=i+1:=by simp[hbs]
      obtain⟨g',c',W',hrun,hR',hB',hkeep⟩:=bmL hI.r hI.b.size (b:=bn) (by rw[hlb,hrow.out];exact hI.nx) (by omega) (by rw[hlb];exact Nat.le_trans (Nat.le_trans hlt xB.out.len) (by decide))
      rw[hlb]at hrun
      have hX':=hkeep _ _ _ hI.x (by decide)
      have hBB:=hI.b.trans hB'
      have hwi:=Lib.hid (ar0 hlt xB.out.len)
      unfold uI at hrun
      clear hkeep hB' hI aFX hnn
      gi_wp2_with (gi_at_builtin;refine aKS _ rfl (.tmp 84) (.tmp 86) 178 rfl _ _ _ _ rfl rfl hrun ?_)
      go_roundw
      case rel=>
       have hq:wrap64 ((i:Int)+1)=((i+1:Nat):Int):=hwi.out.trans (Int.natCast_add i 1).symm
       rw[hq]
       exact⟨i+1,g',c',bn,bs++[b],hlt,rfl,hlb,rfl,rfl,hR',hX',hBB⟩
      case measure=>
       have hq:wrap64 ((i:Int)+1)=((i+1:Nat):Int):=hwi.out.trans (Int.natCast_add i 1).symm
       rw[hq]
       show li.length - ((i+1:Nat):Int).toNat<li.length - (i:Int).toNat
       rw[Int.toNat_natCast,Int.toNat_natCast]
       exact Nat.sub_succ_lt_self _ _ hlt
  ·obtain rfl:i=li.length:=Nat.le_antisymm hi (Nat.le_of_not_lt hlt)
   have hil:¬ ((li.length:Int)<(li.length:Int)):=Int.lt_irrefl _
   clear hM2 hw1 hX xB aFV hi
   gi_wp2_with fail
   clear hil
   refine bodyPost_ret (v:=.slice (some ⟨g,0,none⟩) (li.length+1) c) ?_ rfl ⟨g,c,bs++[b],by rw[List.length_append,hbs];rfl,rfl,hR,hB⟩
   exact bnK _ _ _ rfl
end Go.Proofs.YtcmfnebcmmklkaaDoor.Hand
namespace Go.Proofs.YtcmfnebcmmklkaaDoor.Hand
open Go.RowKit Go.Shelf Go.Maps Go.WideMaps Go.Proofs.YtcmfnebcmmklkaaDoorW.dQ Go.Proofs.YtcmfnebcmmklkaaDoorW.gG Go.Proofs.YtcmfnebcmmklkaaDoor.Q
theorem a0O:Tryd.prog.underlying 146=some (.map 148 4):=by kernel_rfl
theorem aF3:Tryd.prog.underlying 148=some (.array 5 3):=by kernel_rfl
theorem u3:Tryd.prog.underlying 3=some (.int .i64):=by kernel_rfl
theorem u4:Tryd.prog.underlying 4=some .bool:=by kernel_rfl
theorem aOH:Tryd.prog.cellsOf 148=5:=by kernel_rfl
theorem cells3:Tryd.prog.cellsOf 3=1:=by kernel_rfl
theorem bnZ:ArrKey Tryd.prog 148 3 5:=⟨aF3,by kernel_rfl,cells3,aOH⟩
theorem bn0:Keyed Tryd.prog 148:=Keyed.of_law bnZ.law
theorem bn1:Tryd.prog.keyType 148=true:=by kernel_rfl
def ayL (L:List Int):Value:=.agg (L.map (Value.int .i64)).toArray
def aoH (L:List Int):Lit:=.string (keyBytes (L.map (Lit.int .i64)))
def wfI (x:Int):Prop:=(Lit.int .i64 x).wf=true
theorem bn2 (a b c d e:Int) (ha:wfI a) (hb:wfI b) (hc:wfI c) (hd:wfI d) (he:wfI e):keyOf Tryd.prog 148 (ayL [a,b,c,d,e])=some (aoH [a,b,c,d,e]):=by
 unfold wfI at ha hb hc hd he
 unfold keyOf
 rw[aF3]
 simp only[bn1,Bool.true_and]
 have hf:(ayL [a,b,c,d,e]).formed Tryd.prog 148=true:=by simp[ayL,Value.formed,aF3,aOH]
 rw[if_pos hf]
 have hs:∃ m,Tryd.prog.types.size=m+1:=⟨Tryd.prog.types.size - 1,by kernel_rfl⟩
 obtain⟨m,hm⟩:=hs
 rw[hm]
 have e3:∀ (k:Nat) (x:Int),(Lit.int .i64 x).wf=true->Tryd.prog.keyLits (k+1) 3 [.int .i64 x]=some [.int .i64 x]:=by
  intro k x hx
  unfold Program.keyLits
  rw[u3]
  simp[hx]
 unfold Program.keyLits
 rw[aF3]
 simp only[ayL,Value.cells,aOH,cells3,List.map_cons,List.map_nil,List.length_cons,List.length_nil]
 simp[List.range_succ,e3,ha,hb,hc,hd,he,aoH]
theorem bn3:((List.range 6).all fun n=>(List.range (2^n)).all fun s=>(iQ s).all fun c=>decide (0<=c)&&decide (c<(n:Int)))=true:=by decide+kernel
theorem a0P {n:Nat} (hn:n<=5) {s:Nat} (hs:s<2^n) {c:Int} (hc:c∈iQ s):0<=c/\c<(n:Int):=by
 have h:=List.all_eq_true.1 bn3 n (List.mem_range.2 (Nat.lt_succ_of_le hn))
 have h2:=List.all_eq_true.1 h s (List.mem_range.2 hs)
 have h3:=List.all_eq_true.1 h2 c hc
 simpa using h3
def QO (d:List Int) (cs:List Int):List Int:=cs.foldl (fun v c=>v.set c.toNat (d.getD c.toNat 0)) [0,0,0,0,0]
theorem bn4 (d cs:List Int) (c:Int):QO d (cs++[c])=(QO d cs).set c.toNat (d.getD c.toNat 0):=by
 unfold QO
 rw[List.foldl_append]
 rfl
theorem aOI (d:List Int):∀ cs,(QO d cs).length=5:=by
 intro cs
 unfold QO
 suffices ∀ (cs:List Int) (v:List Int),v.length=5->(cs.foldl (fun v c=>v.set c.toNat (d.getD c.toNat 0)) v).length=5 from this cs _ rfl
 intro cs
 induction cs with
 |nil=>intro v h;exact h
 |cons c cs ih=>intro v h;exact ih _ (by simpa using h)
def Sm (x:Int):Prop:= -2<=x/\x<=2
theorem Sm.wf {x:Int} (h:Sm x):wfI x:=by
 unfold Sm at h
 have:x= -2∨x= -1∨x=0∨x=1∨x=2:=by omega
 rcases this with rfl|rfl|rfl|rfl|rfl<;>(unfold wfI;decide)
theorem bn5 (d:List Int) (hd:∀ i,Sm (d.getD i 0)):∀ (cs:List Int) (x:Int),x∈QO d cs->Sm x:=by
 intro cs
 unfold QO
 suffices ∀ (cs:List Int) (v:List Int),(∀ x∈v,Sm x)->∀ x∈cs.foldl (fun v c=>v.set c.toNat (d.getD c.toNat 0)) v,Sm x from this cs _ (by intro x hx;simp at hx;subst hx;unfold Sm;omega)
 intro cs
 induction cs with
 |nil=>intro v h;exact h
 |cons c cs ih=>
  intro v h
  refine ih _ fun x hx=>?_
  rcases List.mem_or_eq_of_mem_set hx with h1|rfl
  ·exact h x h1
  ·exact hd _
theorem five {L:List Int} (h:L.length=5):∃ a b c d e,L=[a,b,c,d,e]:=by
 match L,h with
 |[a,b,c,d,e],_=>exact⟨a,b,c,d,e,rfl⟩
theorem bn6 (d cs:List Int) (hd:∀ i,Sm (d.getD i 0)):keyOf Tryd.prog 148 (ayL (QO d cs))=some (aoH (QO d cs)):=by
 have hs:=bn5 d hd cs
 obtain⟨a,b,c,e,f,hL⟩:=five (aOI d cs)
 rw[hL]at hs ⊢
 exact bn2 a b c e f (hs _ (by simp)).wf (hs _ (by simp)).wf (hs _ (by simp)).wf (hs _ (by simp)).wf (hs _ (by simp)).wf
def aOJ (xs:List (List Int)) (cs:List Int) (k:Nat):List Lit:=(xs.take k).map fun d=>aoH (QO d cs)
def Sv (xs:List (List Int)) (cs:List Int) (k:Nat):DataW Unit:=setOf (.lit (.bool true)) (aOJ xs cs k)
theorem bn7 (xs:List (List Int)) (cs:List Int):Sv xs cs 0=.map []:=by simp[Sv,aOJ,setOf]
theorem bn8 (xs:List (List Int)) (cs:List Int) (k:Nat) (hk:k<xs.length):Sv xs cs (k+1)=(Sv xs cs k).put (aoH (QO (AP xs k) cs)) (.lit (.bool true)):=by
 unfold Sv aOJ
 have:AP xs (k:Int)=xs[k]:=by unfold AP;rw[Int.toNat_natCast];simp[List.getD_eq_getElem?_getD,hk]
 rw[this,List.take_succ_eq_append_getElem hk,List.map_append,List.map_cons,List.map_nil,setOf_snoc]
def encI (L:List Int):Array Value:=(L.map (Value.int .i64)).toArray
theorem bn9 (L:List Int) (i:Nat) (x:Int):(encI L).setIfInBounds i (.int .i64 x)=encI (L.set i x):=by
 unfold encI
 rw[List.map_set]
 simp
theorem Below.a0Q {w w':World} (hb:Below w.heap.size w w'):w.grownBy w' none:=⟨hb.os,hb.tape,hb.output,hb.size,fun k hk _=>hb.block k hk⟩
def ayM (xs:List (List Int)) (s:Nat):Bool:=decide ((Maps.size (Sv xs (iQ s) xs.length):Int)=(xs.length:Int))
theorem aOK {n M:Nat} (h:n<M) (hw:wrap64 ((n:Int)+1)=(n:Int)+1):M - (intOf (Value.int .i64 (wrap64 ((n:Int)+1)))).toNat<M - (intOf (Value.int .i64 (n:Int))).toNat:=by
 rw[hw]
 show M - (n+1)<M - n
 exact Nat.sub_succ_lt_self _ _ h
theorem boA {n M:Nat} (h:n<M) (hM:M<=3125):wrap64 ((n:Int)+1)=(n:Int)+1:=jF (by omega) (by omega)
theorem boB (xs:List (List Int)) (n:Nat) (hn:n<=5) (hx:∀ d∈xs,d.length=n/\∀ i,Sm (d.getD i 0)) (hxl:xs.length<=3125) (s:Nat) (hs:s<2^n) (A:Option Addr) (c b0:Nat) (w:World) (hb0:Box w b0 #[.slice A xs.length c] 56) (hC:Kd.C (Kd.slice 3 (Kd.int .i64)) w A xs.length xs) (hT:lZ w):
  Calls Tryd.prog 84 #[.int .u64 s,.pointer (some ⟨b0,0,none⟩)] w fun e w'=>e=.returned (.bool (ayM xs s))/\Below w.heap.size w w':=by
 have hmm:= @run_makeMap Tryd.prog
 obtain⟨Wa,hWa⟩:∃ Wa,w.alloc (.map #[] 0)=Wa:=⟨_,rfl⟩
 have hba:Below w.heap.size w Wa:=by rw[<-hWa];exact(Below.refl _ _).alloc (Nat.le_refl _) _
 have hom:Wa.ownsMap Tryd.prog 148 (plainElem (H:=Unit) Tryd.prog 4) w.heap.size 0 (Sv xs (iQ s) 0):=by rw[<-hWa,bn7];exact World.ownsMap_made _ _ _ _
 have q0:Wa.cell? ⟨b0,0,none⟩=some (.slice A xs.length c):=(hb0.step hba).cell 0 rfl
 have boC:=hb0.lt
 go_enter Tryd.func84,Tryd.ntmps84
 go_wp2
 clear hWa
 have HX:=Lib.hid hx
 have HXL:=Lib.hid hxl
 clear hx hxl
 have hs8:s<256:=Nat.lt_of_lt_of_le hs (Nat.le_trans (Nat.pow_le_pow_right (by decide) hn) (by decide))
 have Hs:=Lib.hid (And.intro hn (And.intro hs hs8))
 clear hn hs hs8 q0
 go_loopw [13] (fun iv wr=>∃ k:Nat,k<=xs.length/\iv=.int .i64 k/\wr.ownsMap Tryd.prog 148 (plainElem (H:=Unit) Tryd.prog 4) w.heap.size k (Sv xs (iQ s) k)/\Below w.heap.size w wr) (fun iv _=>xs.length - (intOf iv).toNat)
 case atStart=>exact⟨0,Nat.zero_le _,rfl,hom,hba⟩
 case round=>
  clear hom hba
  obtain⟨k,hk,rfl,hm,hB⟩:=hrel
  by_cases hkl:k<xs.length
  ·have hkx:(k:Int)<(xs.length:Int):=Int.ofNat_lt.2 hkl
   have hk0:(0:Int)<=(k:Int):=Int.natCast_nonneg k
   obtain⟨ad,Ad,cd,hA,e1,hcd,kW⟩:=atL hC (k:Int) hk0 hkx
   subst hA
   rw[Int.toNat_natCast]at e1
   have e2:=(hB.cell (p:=ad.add k) (World.block_lt_of_cell? _ _ e1)).trans e1
   have hSv:Hid (Sv xs (iQ s) (k+1)=(Sv xs (iQ s) k).put (aoH (QO (AP xs k) (iQ s))) (.lit (.bool true))):=Lib.hid (bn8 xs (iQ s) k hkl)
   have hdm:AP xs k∈xs:=by
    unfold AP
    rw[Int.toNat_natCast]
    exact getD_mem (by simpa using hkl) _
   have HD:=Lib.hid (HX.out _ hdm)
   obtain⟨d,hde⟩:∃ d,AP xs (k:Int)=d:=⟨_,rfl⟩
   rw[hde]at e2 kW HD hSv
   clear hdm hde e1 hcd
   obtain⟨nd,hnd⟩:∃ x,d.length=x:=⟨_,rfl⟩
   rw[hnd]at e2 kW
   obtain⟨Wv,hWv⟩:∃ Wv,wr.alloc (.cells (encI [0,0,0,0,0]) 148)=Wv:=⟨_,rfl⟩
   have hbv:Below wr.heap.size wr Wv:=by rw[<-hWv];exact(Below.refl _ _).alloc (Nat.le_refl _) _
   have hxv:Box Wv wr.heap.size (encI [0,0,0,0,0]) 148:=by rw[<-hWv];exact Box.new _ _ _
   have hBv:=hB.trans (hbv.mono hB.size)
   have hmv:Wv.ownsMap Tryd.prog 148 (plainElem (H:=Unit) Tryd.prog 4) w.heap.size k (Sv xs (iQ s) k):=World.ownsMap.kept hm (Below.a0Q hbv) (by simp)
   have hml:=hm.lt
   have HWv:=Lib.hid hWv
   obtain⟨b7,hb7⟩:∃ b,wr.heap.size=b:=⟨_,rfl⟩
   rw[hb7]at hxv hml
   have Hb7:=Lib.hid hb7
   clear hWv hbv hb7
   go_wp2_with fail
   have aF7:=HWv.out
   unfold encI at aF7
   simp only[List.map_cons,List.map_nil]at aF7
   rw[aF7,Hb7.out]
   clear aF7
   refine(awX s Hs.out.2.2 Wv (hT.below hBv)).mono ?_
   rintro e w1 ⟨v,rfl,hL,-,hb1⟩
   have hm1:w1.ownsMap Tryd.prog 148 (plainElem (H:=Unit) Tryd.prog 4) w.heap.size k (Sv xs (iQ s) k):=World.ownsMap.kept hmv (Below.a0Q hb1) (by simp)
   have hB1:=hBv.trans (hb1.mono hBv.size)
   have hx1:=hxv.step hb1
   have sv:=hxv.lt
   clear hmv hxv hb1 hBv hm hB HWv Hb7
   have hLm:=Lib.hid (fun c (hc:c∈iQ s)=>a0P Hs.out.1 Hs.out.2.1 hc)
   have hLl:=Lib.hid (agA s Hs.out.2.2)
   obtain⟨L,EI⟩:∃ L,iQ s=L:=⟨_,rfl⟩
   rw[EI]at hL hm1 hSv hLm hLl
   have HLe:=Lib.hid EI
   clear EI
   obtain⟨AL,cL,rfl⟩:=eH.slice hL
   go_wp2
   have hV0:Box w1 b7 (encI (QO d (L.take 0))) 148:=hx1
   clear hx1 e2
   go_loopw [20] (fun iv w2=>∃ j:Nat,j<=L.length/\iv=.int .i64 j/\w2.ownsMap Tryd.prog 148 (plainElem (H:=Unit) Tryd.prog 4) w.heap.size k (Sv xs L k)/\Below w.heap.size w w2/\Box w2 b7 (encI (QO d (L.take j))) 148/\eH w2 Wv.heap.size (.slice AL L.length cL) L) (fun iv _=>L.length - (intOf iv).toNat)
   case atStart=>exact⟨0,Nat.zero_le _,rfl,hm1,hB1,hV0,hL⟩
   case round=>
    clear hm1 hB1 hV0 hL
    obtain⟨j,hj,rfl,hm2,hB2,hV,hL2⟩:=hrel
    by_cases hjl:j<L.length
    ·have hjx:(j:Int)<(L.length:Int):=Int.ofNat_lt.2 hjl
     have hj0:(0:Int)<=(j:Int):=Int.natCast_nonneg j
     obtain⟨al,hAl,a1⟩:=Kd.BL (Kd.dB (eH.R hL2)).2.2 (j:Int) hj0 hjx
     subst hAl
     rw[Int.toNat_natCast]at a1
     have hcm:YtcmfnebcmmklkaaDoorW.dQ.rd L (j:Int)∈L:=by
      unfold YtcmfnebcmmklkaaDoorW.dQ.rd
      rw[Int.toNat_natCast]
      exact getD_mem (by simpa using hjl) _
     have hcb:=hLm.out _ hcm
     have htk:Hid (QO d (L.take (j+1))=(QO d (L.take j)).set (YtcmfnebcmmklkaaDoorW.dQ.rd L (j:Int)).toNat (d.getD (YtcmfnebcmmklkaaDoorW.dQ.rd L (j:Int)).toNat 0)):=Lib.hid (by
      rw[<-bn4]
      congr 1
      unfold YtcmfnebcmmklkaaDoorW.dQ.rd
      rw[Int.toNat_natCast,List.take_succ_eq_append_getElem hjl]
      simp[List.getD_eq_getElem?_getD,hjl])
     obtain⟨cc,hcc⟩:∃ cc,YtcmfnebcmmklkaaDoorW.dQ.rd L (j:Int)=cc:=⟨_,rfl⟩
     rw[hcc]at a1 hcb htk
     clear hcm hcc
     obtain⟨q,rfl⟩:∃ q:Nat,cc=q:=⟨cc.toNat,(Int.toNat_of_nonneg hcb.1).symm⟩
     have hqn:q<nd:=by rw[<-hnd,HD.out.1];exact Int.ofNat_lt.1 hcb.2
     have hq5:q<5:=Nat.lt_of_lt_of_le (Int.ofNat_lt.1 hcb.2) Hs.out.1
     obtain⟨dd,hAd,a2⟩:=Kd.BL (Kd.bJ kW hB2) (q:Int) (Int.natCast_nonneg q) (Int.ofNat_lt.2 hqn)
     subst hAd
     rw[Int.toNat_natCast]at a2 htk
     have hq0:(0:Int)<=(q:Int):=Int.natCast_nonneg q
     have hq1:(q:Int)<(nd:Int):=Int.ofNat_lt.2 hqn
     have hq2:(q:Int)<5:=Int.ofNat_lt.2 hq5
     have hfr:=hV.frozen q
     have hce:wr.cell? ⟨b7,q,none⟩=some (.int .i64 ((QO d (L.take j)).getD q 0)):=hV.cell q (by simp[encI,List.getD_eq_getElem?_getD,aOI,hq5])
     have hwj:=Lib.hid (ar0 hjl hLl.out)
     have hrd:YtcmfnebcmmklkaaDoorW.dQ.rd d (q:Int)=d.getD q 0:=by unfold YtcmfnebcmmklkaaDoorW.dQ.rd;rw[Int.toNat_natCast]
     rw[hrd]at a2
     obtain⟨dv,hdv⟩:∃ x,d.getD q 0=x:=⟨_,rfl⟩
     rw[hdv]at a2 htk
     clear hrd hcb hdv
     go_wp2
     go_roundw
     case rel=>
      refine⟨j+1,hjl,by rw[hwj.out];rfl,hm2.setCell (fun e=>Nat.lt_irrefl _ (e ▸ hml)) _,hB2.setCell (p:=⟨b7,q,none⟩) (Nat.le_of_lt hml) _,?_,ZC hL2 hV (by decide) q _⟩
      rw[htk.out,<-bn9]
      exact hV.set q _
     case measure=>exact aOK hjl hwj.out
    ·obtain rfl:j=L.length:=Nat.le_antisymm hj (Nat.le_of_not_lt hjl)
     have hjx:¬ ((L.length:Int)<(L.length:Int)):=Int.lt_irrefl _
     rw[List.take_length]at hV
     have hkey:=bn6 d L (fun i=>HD.out.2 i)
     have hv5:=aOI d L
     obtain⟨V,hVe⟩:∃ V,QO d L=V:=⟨_,rfl⟩
     rw[hVe]at hV hkey hv5 hSv
     clear hVe
     obtain⟨a0,a1,a2,a3,a4,rfl⟩:=five hv5
     have v0:wr.cell? ⟨b7,0,none⟩=some (.int .i64 a0):=hV.cell 0 rfl
     have v1:wr.cell? ⟨b7,1,none⟩=some (.int .i64 a1):=hV.cell 1 rfl
     have v2:wr.cell? ⟨b7,2,none⟩=some (.int .i64 a2):=hV.cell 2 rfl
     have v3:wr.cell? ⟨b7,3,none⟩=some (.int .i64 a3):=hV.cell 3 rfl
     have v4:wr.cell? ⟨b7,4,none⟩=some (.int .i64 a4):=hV.cell 4 rfl
     have hkm:k<maxLen:=Nat.lt_of_lt_of_le hkl (Nat.le_trans HXL.out (by decide))
     have boF:keyOf Tryd.prog 148 (.agg #[.int .i64 a0,.int .i64 a1,.int .i64 a2,.int .i64 a3,.int .i64 a4])=some (aoH [a0,a1,a2,a3,a4]):=hkey
     clear hv5 hkey hV
     go_wp2_with (first
      |(at_mapUpdate;refine wpList_mapUpdate_own _ rfl _ _ _ 146 rfl 148 4 bn0 a0O (plainElem (H:=Unit) Tryd.prog 4) w.heap.size k _ rfl hm2 hkm _ _ _ rfl rfl boF _ [] (plainElem_bool u4 true) ?_;intro w5 hown5 boG)
      |go_in)
     have hwk:=boA hkl HXL.out
     rw[<-hSv.out,<-HLe.out]at hown5
     refine⟨⟨k+1,hkl,by rw[hwk];rfl,hown5,hB2.grown boG hB2.size (fun j hj=>by cases hj;exact Nat.le_refl _)⟩,?_⟩
     exact aOK hkl hwk
  ·obtain rfl:k=xs.length:=Nat.le_antisymm hk (Nat.le_of_not_lt hkl)
   have hjx:¬ ((xs.length:Int)<(xs.length:Int)):=Int.lt_irrefl _
   have q0:wr.cell? ⟨b0,0,none⟩=some (.slice A xs.length c):=(hb0.below hB boC).cell 0 rfl
   go_wp2_with (first
    |(at_len;refine wpList_len_own _ rfl _ 146 rfl 148 4 a0O _ w.heap.size xs.length _ rfl hm ?_)
    |go_in)
   go_ret
   exact⟨rfl,hB⟩
end Go.Proofs.YtcmfnebcmmklkaaDoor.Hand
namespace Go.Proofs.YtcmfnebcmmklkaaDoor.Hand
open Go.RowKit Go.Shelf Go.Proofs.YtcmfnebcmmklkaaDoorW.dQ Go.Proofs.YtcmfnebcmmklkaaDoorW.gG Go.Proofs.YtcmfnebcmmklkaaDoor.Q
def ayO (R:pU) (cs:List gQ) (most:Int):List Int:=if xZ R cs most=0 then(pR (ayM (wL R cs most)) iQ (2^cs.length)).getD []else[]
theorem boH {R:pU} {cs:List gQ} {most:Int} (h:xZ R cs most=0):cs.length<=5/\(wL R cs most).length<=3125/\∀ d∈wL R cs most,d.length=cs.length/\∀ i,Sm (d.getD i 0):=by
 have h1:BX R cs most=0:=by
  unfold xZ at h
  split at h
  ·assumption
  ·rename_i hq
   exact absurd h hq
 obtain⟨hR,hcs,h5,_,hm⟩:=arT h1
 have e:wL R cs most=PM R cs most 0:=if_pos h1
 rw[e]
 unfold PM
 refine⟨h5,Nat.le_trans (List.length_filter_le _ _) (arS hm h5).1,fun d hd=>?_⟩
 exact(arS hm h5).2 d (List.mem_filter.1 hd).1
theorem boI (R:pU) (cs:List gQ) (most:Int) (A:Option Addr) (cp:Nat) (w:World) (hT:lZ w) (hr:Kd.C vC w A cs.length cs):
  Calls Tryd.prog 37 #[aeI R,.slice A cs.length cp,.int .i64 most] w fun e w'=>∃ v,e=.returned (.tuple #[v,.int .i64 (xZ R cs most)])/\eH w' w.heap.size v (ayO R cs most)/\Below w.heap.size w w':=by
 have hb0:Below w.heap.size w (w.alloc (Obj.cells #[Value.int IntKind.i64 R.l.f0,Value.int IntKind.i64 R.l.f1,Value.int IntKind.i64 R.r.f0,Value.int IntKind.i64 R.r.f1,Value.int IntKind.i64 R.t.f0,Value.int IntKind.i64 R.t.f1,Value.int IntKind.i64 R.off] 53)):=(Below.refl _ _).alloc (Nat.le_refl _) _
 have hs:=Lib.hid (fun w (hr:Kd.C vC w A cs.length cs)=>aFI R cs most A cp w hr)
 obtain⟨a0,a1,a2,a3,a4,a5,a6,a7,a8,B,m,k,hsv⟩:=aFJ R A cs.length cp most (BX R cs most)
 go_enter Tryd.func37,Tryd.ntmps37
 go_wp2_with fail
 refine(hs.out _ (Kd.bJ hr hb0)).mono ?_
 rintro e w1 ⟨v,rfl,hrows,hb1⟩
 have hB1:Below w.heap.size w w1:=hb0.trans (hb1.mono hb0.size)
 have hr1:uX w1 w.heap.size v (wL R cs most):=⟨Kd.eF hrows.1 hb0.size,hrows.2⟩
 rw[hsv]
 obtain⟨Av,cv,rfl⟩:=hr1.slice
 clear hb1 hrows hb0 hsv hs
 by_cases h0:xZ R cs most=0
 ·have hne:(xZ R cs most !=0)=false:=by simp[h0]
  have H0:=Lib.hid h0
  rw[h0]
  clear h0 hne
  obtain⟨w2,hw2⟩:∃ w2,(w1.alloc (Obj.cells #[Value.int IntKind.i64 a0,Value.int IntKind.i64 a1,Value.int IntKind.i64 a2,Value.int IntKind.i64 a3,Value.int IntKind.i64 a4,Value.int IntKind.i64 a5,Value.int IntKind.i64 a6,Value.slice B m k,Value.int IntKind.i64 a8] 141)).alloc (Obj.cells #[Value.slice Av (wL R cs most).length cv] 56)=w2:=⟨_,rfl⟩
  have hb2:Below w1.heap.size w1 w2:=by rw[<-hw2];exact((Below.refl _ _).alloc (Nat.le_refl _) _).alloc (by simp) _
  have hB2:=hB1.trans (hb2.mono hB1.size)
  have hbx:Box w2 (w1.heap.size+1) #[.slice Av (wL R cs most).length cv] 56:=by rw[<-hw2];exact Box.new' _ _ _ (by simp)
  have hr2:=hr1.step hb2
  have hC2:=(Kd.dB hr2.1).2.2
  obtain⟨h5,hxl,hx⟩:=boH H0.out
  have HW2:=Lib.hid hw2
  have HO:Hid (ayO R cs most=(pR (ayM (wL R cs most)) iQ (2^cs.length)).getD []):=Lib.hid (if_pos H0.out)
  have hf:=Lib.hid (blE cs.length (Nat.le_trans h5 (by decide)) (ayM (wL R cs most)) (w1.heap.size+1) w2 (hT.below hB2) (fun s hs W hW=>boB (wL R cs most) cs.length h5 hx hxl s hs Av cv (w1.heap.size+1) W (hbx.step hW) (Kd.bJ hC2 hW) ((hT.below hB2).below hW)))
  clear hw2 hb2 hB1 hr1 hbx hr2 hC2 h5 hxl hx
  go_wp2_with fail
  rw[HW2.out]
  refine hf.out.mono ?_
  rintro e w3 ⟨v,rfl,hown,hnil,hb3⟩
  have hB3:Below w.heap.size w w3:=hB2.trans (hb3.mono hB2.size)
  have ho3:=hown.lower hB2.size
  rw[<-HO.out]at ho3
  obtain⟨bs,hbs⟩:∃ bs,(pR (ayM (wL R cs most)) iQ (2^cs.length)).isSome=bs:=⟨_,rfl⟩
  rw[hbs]
  obtain⟨Ao,co,rfl⟩:=eH.slice ho3
  clear hbs hown hnil hb3 hf HW2 hB2
  go_wp2_with fail
  refine bodyPost_ret (v:=.tuple #[.slice Ao (ayO R cs most).length co,.int .i64 0]) (by simp[results,Tryd.results37,go_sem]) rfl ?_
  exact⟨_,by rw[H0.out],ho3,hB3⟩
 ·have HL:Hid (ayO R cs most=[]):=Lib.hid (if_neg h0)
  obtain⟨er,her⟩:∃ er,xZ R cs most=er:=⟨_,rfl⟩
  rw[her]at h0 ⊢
  have hne:(er !=0)=true:=by simp[h0]
  have HE:=Lib.hid her
  clear her h0
  go_wp2_with fail
  refine bodyPost_ret (v:=.tuple #[.slice none 0 0,.int .i64 er]) (by simp[results,Tryd.results37,go_sem]) rfl ?_
  exact⟨_,by rw[HE.out],by rw[HL.out];exact eH.nil _ _,(hB1.alloc hB1.size _).alloc (Nat.le_trans hB1.size (by simp)) _⟩
end Go.Proofs.YtcmfnebcmmklkaaDoor.Hand
namespace Go.Proofs.YtcmfnebcmmklkaaDoor.Hand
open Go.RowKit Go.Shelf Go.Proofs.YtcmfnebcmmklkaaDoorW.dQ Go.Proofs.YtcmfnebcmmklkaaDoorW.gG
section
variable {F:Fence} {m:Nat} {P:Program} {md:Region.Mode} {ops:Array Oper} {Q:Exit->Act->World->Prop} {C:World->Prop}
inductive CG where
 |done:CG
 |quiet:Nat->CG->CG
 |ev:Nat->CG->CG
 |perm:List Nat->CG->CG
def CG.row:List (Nat×Bool)->CG->CG
 |[],p=>p
 |(i,true)::l,p=>.quiet i (CG.row l p)
 |(i,false)::l,p=>.ev i (CG.row l p)
def WA (F:Fence) (m:Nat) (P:Program) (ops:Array Oper) (Q:Exit->Act->World->Prop) (C:World->Prop) (Lq:Act->World->Prop):CG->Act->World->Prop
 |.done,a,w=>Lq a w
 |.quiet i p,a,w=>∃ o v,ops[i]? =some o/\TZ P ops C o v a/\WA F m P ops Q C Lq p (a.put o.dst v) w
 |.ev i p,a,w=>wpOpIn F m P ops Q i (fun a' w'=>C w'/\WA F m P ops Q C Lq p a' w') a w
 |.perm S p,a,w=>∃ I:(Nat->Bool)->Act->World->Prop,(∀ fl:Nat->Bool,(∀ i∈S,fl i=false)->I fl a w)/\
   (∀ i∈S,∀ (fl:Nat->Bool) (a:Act) (w:World),fl i=false->C w->I fl a w->wpOpIn F m P ops Q i (fun a' w'=>C w'/\I (zU fl i) a' w') a w)/\
   (∀ (fl:Nat->Bool) (a:Act) (w:World),(∀ i∈S,fl i=true)->C w->I fl a w->WA F m P ops Q C Lq p a w)
def aoM (md:Region.Mode) (ops:Array Oper) (n:Nat) (S:List Nat) (cont:Array Bool->Bool):Nat->Array Bool->Bool
 |0,listed=>S.all (fun i=>UQ listed i)&&cont listed
 |r+1,listed=> !(Region.ready md ops listed).isEmpty&&(Region.ready md ops listed).all fun i=>
   decide (i<n)&&decide (i<listed.size)&&S.contains i&& !(UQ listed i)&&aoM md ops n S cont r (listed.setIfInBounds i true)
def ayX:List Nat->(List Nat->Bool)->Bool
 |[],p=>p []
 |i::S,p=>ayX S p&&ayX S fun T=>p (i::T)
theorem aGS:∀ (S:List Nat) (p:List Nat->Bool),ayX S p=true->∀ f:Nat->Bool,p (S.filter f)=true
 |[],_,h,_=>h
 |i::S,p,h,f=>by
  simp only[ayX,Bool.and_eq_true]at h
  cases e:f i with
  |true=>rw[List.filter_cons_of_pos e];exact aGS S _ h.2 f
  |false=>rw[List.filter_cons_of_neg (by simp[e])];exact aGS S _ h.1 f
def YA (listed:Array Bool) (T:List Nat):Array Bool:=T.foldl (fun l i=>l.setIfInBounds i true) listed
theorem a1P (T:List Nat):∀ (listed:Array Bool) (k:Nat),(YA listed T)[k]? =if k∈T/\k<listed.size then some true else listed[k]? :=by
 induction T with
 |nil=>intro listed k;simp[YA]
 |cons i T ih=>
  intro listed k
  show(YA (listed.setIfInBounds i true) T)[k]? =_
  rw[ih]
  simp only[Array.size_setIfInBounds,List.mem_cons,Array.getElem?_setIfInBounds]
  by_cases h1:k∈T<;>by_cases h2:k<listed.size<;>by_cases h3:i=k<;>simp_all
  all_goals (intro e;omega)
theorem bpM (S:List Nat) (listed:Array Bool) (f:Nat->Bool) {i:Nat} (hi:i∈S):(YA listed (S.filter f)).setIfInBounds i true=YA listed (S.filter (zU f i)):=by
 have hsz:∀ T,(YA listed T).size=listed.size:=fun T=>by
  unfold YA
  induction T generalizing listed with
  |nil=>rfl
  |cons a T ih=>rw[List.foldl_cons,ih,Array.size_setIfInBounds]
 apply Array.ext_getElem?
 intro k
 rw[Array.getElem?_setIfInBounds,hsz,a1P,a1P]
 simp only[List.mem_filter,zU,Bool.or_eq_true,beq_iff_eq]
 by_cases h1:i=k
 ·subst h1
  by_cases h2:i<listed.size<;>simp[h2,hi]
 ·have:¬ k=i:=fun e=>h1 e.symm
  simp[h1,this]
def a1Q (md:Region.Mode) (ops:Array Oper) (n:Nat) (S:List Nat) (cont:Array Bool->Bool) (listed:Array Bool):Bool:=
 ayX S fun T=>if T.length=S.length then S.all (fun i=>UQ (YA listed T) i)&&cont (YA listed T)else
  !(Region.ready md ops (YA listed T)).isEmpty&&(Region.ready md ops (YA listed T)).all fun i=>
   decide (i<n)&&decide (i<(YA listed T).size)&&S.contains i&& !(UQ (YA listed T) i)&& !(T.contains i)
theorem aOW:∀ (S:List Nat) (f:Nat->Bool) {i:Nat},S.Nodup->i∈S->f i=false->(S.filter (zU f i)).length=(S.filter f).length+1
 |[],_,_,_,h,_=>absurd h List.not_mem_nil
 |a::S,f,i,hn,h,hf=>by
  obtain⟨h1,h2⟩:=List.nodup_cons.1 hn
  by_cases e:a=i
  ·subst e
   rw[List.filter_cons_of_pos (by simp[zU]),List.filter_cons_of_neg (by simp[hf])]
   have:S.filter (zU f a)=S.filter f:=List.filter_congr fun x hx=>by
    have:¬ x=a:=fun e=>h1 (e ▸ hx)
    simp[zU,this]
   rw[this];simp
  ·have hi:i∈S:=(List.mem_cons.1 h).resolve_left fun q=>e q.symm
   have ea:zU f i a=f a:=by simp[zU,e]
   cases hfa:f a with
   |true=>rw[List.filter_cons_of_pos (by rw[ea,hfa]),List.filter_cons_of_pos hfa,List.length_cons,List.length_cons,aOW S f h2 hi hf]
   |false=>rw[List.filter_cons_of_neg (by rw[ea,hfa];simp),List.filter_cons_of_neg (by simp[hfa]),aOW S f h2 hi hf]
theorem a1R {md:Region.Mode} {ops:Array Oper} {n:Nat} {S:List Nat} {cont:Array Bool->Bool} {listed:Array Bool} (hn:S.Nodup) (h:a1Q md ops n S cont listed=true):
  ∀ (r:Nat) (f:Nat->Bool),(S.filter f).length+r=S.length->aoM md ops n S cont r (YA listed (S.filter f))=true
 |0,f,e=>by
  have:=aGS S _ h f
  rw[if_pos (by omega)]at this
  exact this
 |r+1,f,e=>by
  have:=aGS S _ h f
  rw[if_neg (by omega)]at this
  unfold aoM
  simp only[Bool.and_eq_true,List.all_eq_true,Bool.not_eq_true',decide_eq_true_eq]at this ⊢
  refine⟨this.1,fun i hi=>?_⟩
  obtain⟨⟨⟨⟨h2,h3⟩,h4⟩,h5⟩,h6⟩:=this.2 i hi
  have hS:i∈S:=by simpa using h4
  have hf:f i=false:=by
   cases hf:f i with
   |false=>rfl
   |true=>
    have:i∈S.filter f:=List.mem_filter.2 ⟨hS,hf⟩
    have h7:(S.filter f).contains i=true:=by simpa using this
    rw[h7]at h6;cases h6
  refine⟨⟨⟨⟨h2,h3⟩,h4⟩,h5⟩,?_⟩
  rw[bpM S listed f hS]
  exact a1R hn h r _ (by rw[aOW S f hn hS hf];omega)
def acU (md:Region.Mode) (ops:Array Oper) (n g:Nat):CG->Nat->Array Bool->Bool
 |.done,f,listed=>decide (f=0)&&Region.seqB md ops g n listed
 |.quiet i p,f,listed=>decide (0<f)&&decide (i<n)&&(Region.ready md ops listed).contains i&&Region.free md ops listed i&&acU md ops n g p (f - 1) (listed.setIfInBounds i true)
 |.ev i p,f,listed=>decide (0<f)&&decide (i<n)&&decide (Region.ready md ops listed=[i])&&acU md ops n g p (f - 1) (listed.setIfInBounds i true)
 |.perm S p,f,listed=>decide (S.length<=f)&&S.all (fun i=> !(UQ listed i))&&decide S.Nodup&&a1Q md ops n S (acU md ops n g p (f - S.length)) listed
theorem a1S {n:Nat} {L:Array Bool->Act->World->Prop} (S:List Nat) (I:(Nat->Bool)->Act->World->Prop) (cont:Array Bool->Bool) (f:Nat)
  (hstep:∀ i∈S,∀ (fl:Nat->Bool) (a:Act) (w:World),fl i=false->C w->I fl a w->wpOpIn F m P ops Q i (fun a' w'=>C w'/\I (zU fl i) a' w') a w)
  (hfin:∀ (listed:Array Bool) (a:Act) (w:World),HeadInv md ops n listed->cont listed=true->(∀ i∈S,UQ listed i=true)->C w->I (UQ listed) a w->abN F m P md ops Q C n L f listed a w):
  ∀ (r:Nat) (listed:Array Bool) (a:Act) (w:World),HeadInv md ops n listed->aoM md ops n S cont r listed=true->C w->I (UQ listed) a w->
  abN F m P md ops Q C n L (r+f) listed a w
 |0,listed,a,w,inv,hB,hC,hI=>by
  simp only[aoM,Bool.and_eq_true,List.all_eq_true]at hB
  rw[Nat.zero_add]
  exact hfin listed a w inv hB.2 hB.1 hC hI
 |r+1,listed,a,w,inv,hB,hC,hI=>by
  simp only[aoM,Bool.and_eq_true,List.all_eq_true,Bool.not_eq_true',decide_eq_true_eq]at hB
  obtain⟨h0,h1⟩:=hB
  rw[show r+1+f=(r+f)+1 by omega]
  refine⟨fun e=>(by rw[e]at h0;cases h0),fun i hi=>?_⟩
  obtain⟨⟨⟨⟨h2,h3⟩,h4⟩,h5⟩,h6⟩:=h1 i hi
  refine⟨h2,wpOpIn_mono (fun a' w' h'=>⟨h'.1,a1S S I cont f hstep hfin r _ a' w' (inv.set hi h2) h6 h'.1 (by rw[a0F listed h3];exact h'.2)⟩) (hstep i (by simpa using h4) _ a w h5 hC hI)⟩
theorem aGT {n g:Nat} {Lq:Act->World->Prop} (hro:rZ F ops) (hsel:Region.noSelect ops=true) (hs:Region.sinkB md ops n=true) (hc:Region.chainB md ops n=true) (hn:n<ops.size)
  (hQ:∀ c a d v w,Q (.panic c) (a.put d v) w->Q (.panic c) a w):
  ∀ (π:CG) (f:Nat) (listed:Array Bool) (a:Act) (w:World),HeadInv md ops n listed->acU md ops n g π f listed=true->C w->WA F m P ops Q C Lq π a w->
  abN F m P md ops Q C n (fun listed' a' w'=>Region.seqB md ops g n listed'=true/\Lq a' w') f listed a w
 |.done,f,listed,a,w,inv,hB,hC,h=>by
  simp only[acU,Bool.and_eq_true,decide_eq_true_eq]at hB
  obtain⟨rfl,hB⟩:=hB
  exact⟨hB,h⟩
 |.quiet i π,f,listed,a,w,inv,hB,hC,h=>by
  obtain⟨o,v,ho,hy,h⟩:=h
  simp only[acU,Bool.and_eq_true,decide_eq_true_eq]at hB
  obtain⟨⟨⟨⟨hf0,hin⟩,hr⟩,hf⟩,hB'⟩:=hB
  obtain⟨f,rfl⟩:∃ q,f=q+1:=⟨f - 1,by omega⟩
  have hr':i∈Region.ready md ops listed:=by simpa using hr
  exact aDV hro ho (Region.noSelect_spec hsel) hs hc hn hin (fun c a w=>hQ c a _ v w) (fun listed' a' w' hL=>seqB_ready hL.1) f listed a w inv (Region.free_spec ho hf) hr' hC hy
   (aGT hro hsel hs hc hn hQ π f _ _ w (inv.set hr' hin) hB' hC h)
 |.ev i π,f,listed,a,w,inv,hB,hC,h=>by
  simp only[acU,Bool.and_eq_true,decide_eq_true_eq]at hB
  obtain⟨⟨⟨hf0,hin⟩,hr⟩,hB'⟩:=hB
  obtain⟨f,rfl⟩:∃ q,f=q+1:=⟨f - 1,by omega⟩
  have hr':i∈Region.ready md ops listed:=by rw[hr];simp
  refine⟨fun h0=>(by rw[h0]at hr;cases hr),fun j hj=>?_⟩
  rw[hr]at hj
  obtain rfl:j=i:=by simpa using hj
  exact⟨hin,wpOpIn_mono (fun a' w' h'=>⟨h'.1,aGT hro hsel hs hc hn hQ π f _ a' w' (inv.set hr' hin) hB' h'.1 h'.2⟩) h⟩
 |.perm S π,f,listed,a,w,inv,hB,hC,h=>by
  obtain⟨I,h1,h2,h3⟩:=h
  simp only[acU,Bool.and_eq_true,decide_eq_true_eq,List.all_eq_true,Bool.not_eq_true']at hB
  obtain⟨⟨⟨hle,hfl⟩,hnd⟩,hB2⟩:=hB
  have hB':=a1R hnd hB2 S.length (fun _=>false) (by simp)
  rw[show S.filter (fun _=>false)=[] by simp]at hB'
  replace hB':aoM md ops n S (acU md ops n g π (f - S.length)) S.length listed=true:=hB'
  have:=a1S (F:=F) (m:=m) (P:=P) (md:=md) (ops:=ops) (Q:=Q) (C:=C) (n:=n) (L:=fun listed' a' w'=>Region.seqB md ops g n listed'=true/\Lq a' w') S I (acU md ops n g π (f - S.length)) (f - S.length) h2
   (fun listed' a' w' bpN hB2 hall hC' hI'=>aGT hro hsel hs hc hn hQ π (f - S.length) listed' a' w' bpN hB2 hC' (h3 _ a' w' hall hC' hI')) S.length listed a w inv hB' hC (h1 _ hfl)
  rwa [show S.length+(f - S.length)=f by omega]at this
def a1T (md:Region.Mode) (ops:Array Oper) (n:Nat) (π:CG):Bool:=
 Region.noSelect ops&&decide (n<ops.size)&&Region.sinkB md ops n&&Region.chainB md ops n&&acU md ops n (ops.size - n) π n (Array.replicate ops.size false)
theorem bpO {id:Nat} {a:Act} {w:World} {l:List Oper} (n:Nat) (π:CG) (C:World->Prop) (hro:rZ F l.toArray) (hm:P.follows .mixedOrders=true) (hB:a1T .any l.toArray n π=true) (hC:C w.drew)
  (h:WA F m P l.toArray (Qn Q) C (wpListIn F m P l.toArray (Qn Q) (l.drop n)) π a w.drew):(Code.region id l.toArray true).wpIn F m P Q a w:=by
 refine Code.wpIn_mono (Q:=Qn Q) (fun e a w q=>by cases e<;>first|exact q|exact q.elim) ?_
 simp only[a1T,Bool.and_eq_true,decide_eq_true_eq]at hB
 obtain⟨⟨⟨⟨hsel,hn⟩,hs⟩,hc⟩,hhead⟩:=hB
 have hn':n<l.length:=by simpa using hn
 have hdl:(l.drop n).length=l.toArray.size - n:=by simp
 have inv0:HeadInv .any l.toArray n (Array.replicate l.toArray.size false):=
  ⟨by simp,fun j oj _ hl=>(by rw[getD_replicate_false]at hl;cases hl),fun t _ ht=>getD_in (by simpa using ht) (getD_replicate_false _ _)⟩
 have H:=aGT (F:=F) (m:=m) (Q:=Qn Q) (md:=.any) (g:=l.toArray.size - n) hro hsel hs hc hn (fun _ _ _ _ _ h=>h.elim) π n _ a w.drew inv0 hhead hC h
 refine wpIn_region_any hm ?_
 have:=auY (Q:=Qn Q) (g:=l.toArray.size - n) (fun listed a' w' hL=>by
  have:=auZ (md:=.any) (Q':=Qn Q) (l.drop n) n listed a' w' (fun j=>by simp[List.getElem?_drop]) (by rw[hdl];exact hL.1) hL.2
  rwa [hdl]at this) _ _ _ _ H
 rw[show n+(l.toArray.size - n)=l.toArray.size by omega]at this
 exact this
theorem agO {Lq:Act->World->Prop} {i:Nat} {o:Oper} {π:CG} {a a':Act} {w:World} {v:Value} (ho:ops[i]? =some o) (hab:∀ w,o.about P w a.eval=none) (hC:C w)
  (h:∀ K:Value->Act->Prop,K v a'->∀ w',C w'->if Region.wanted o (yielded ops a.tmps)then afP o a w' K ((execOp a.eval o).run P w')else K undef (a.put o.dst undef))
  (hn:WA F m P ops Q C Lq π a' w):WA F m P ops Q C Lq (.quiet i π) a w:=
 FD (Q:=Q) (m:=m) (F:=F) (π:=[]) (Lq:=WA F m P ops Q C Lq π) ho hab hC h hn
theorem YB {Lq:Act->World->Prop} {i:Nat} {o:Oper} {π:CG} {a:Act} {w:World} (ho:ops[i]? =some o)
  (h:wpListIn F m P ops (Exit.then (fun a' w'=>C w'/\WA F m P ops Q C Lq π a' w') Q) [o] a w):WA F m P ops Q C Lq (.ev i π) a w:=
 uG (π:=[]) (Lq:=WA F m P ops Q C Lq π) ho h
theorem bpP {Lq:Act->World->Prop} {S:List Nat} {π:CG} {a:Act} {w:World} (I:(Nat->Bool)->Act->World->Prop) (h1:∀ fl:Nat->Bool,(∀ i∈S,fl i=false)->I fl a w)
  (h2:∀ i∈S,∀ (fl:Nat->Bool) (a:Act) (w:World),fl i=false->C w->I fl a w->∃ o,ops[i]? =some o/\wpListIn F m P ops (Exit.then (fun a' w'=>C w'/\I (zU fl i) a' w') Q) [o] a w)
  (h3:∀ (fl:Nat->Bool) (a:Act) (w:World),(∀ i∈S,fl i=true)->C w->I fl a w->WA F m P ops Q C Lq π a w):WA F m P ops Q C Lq (.perm S π) a w:=
 ⟨I,h1,fun i hi fl a w g1 g2 g3=>by
  obtain⟨o,ho,h⟩:=h2 i hi fl a w g1 g2 g3
  exact uG (π:=[]) (Lq:=fun a' w'=>I (zU fl i) a' w') ho h,h3⟩
theorem bpQ {Lq:Act->World->Prop} {π:CG} {a:Act} {w:World} (J:(Nat->Bool)->World->Value->Value->Value->Value->Prop) (t6 t7 t8 t9:Tmp) (u6 u7 u8 u9:Value)
  (ha:a=(((a.put (some t6) u6).put (some t7) u7).put (some t8) u8).put (some t9) u9) (h0:∀ fl:Nat->Bool,(∀ i∈[6,7,8,9],fl i=false)->J fl w u6 u7 u8 u9)
  (h6:∀ (fl:Nat->Bool) (w':World) (v6 v7 v8 v9:Value),fl 6=false->C w'->J fl w' v6 v7 v8 v9->∃ o,ops[6]? =some o/\wpListIn F m P ops (Exit.then (fun a' W=>C W/\∃ v6 v7 v8 v9:Value,a'=(((a.put (some t6) v6).put (some t7) v7).put (some t8) v8).put (some t9) v9/\J (zU fl 6) W v6 v7 v8 v9) Q) [o] ((((a.put (some t6) v6).put (some t7) v7).put (some t8) v8).put (some t9) v9) w')
  (h7:∀ (fl:Nat->Bool) (w':World) (v6 v7 v8 v9:Value),fl 7=false->C w'->J fl w' v6 v7 v8 v9->∃ o,ops[7]? =some o/\wpListIn F m P ops (Exit.then (fun a' W=>C W/\∃ v6 v7 v8 v9:Value,a'=(((a.put (some t6) v6).put (some t7) v7).put (some t8) v8).put (some t9) v9/\J (zU fl 7) W v6 v7 v8 v9) Q) [o] ((((a.put (some t6) v6).put (some t7) v7).put (some t8) v8).put (some t9) v9) w')
  (h8:∀ (fl:Nat->Bool) (w':World) (v6 v7 v8 v9:Value),fl 8=false->C w'->J fl w' v6 v7 v8 v9->∃ o,ops[8]? =some o/\wpListIn F m P ops (Exit.then (fun a' W=>C W/\∃ v6 v7 v8 v9:Value,a'=(((a.put (some t6) v6).put (some t7) v7).put (some t8) v8).put (some t9) v9/\J (zU fl 8) W v6 v7 v8 v9) Q) [o] ((((a.put (some t6) v6).put (some t7) v7).put (some t8) v8).put (some t9) v9) w')
  (h9:∀ (fl:Nat->Bool) (w':World) (v6 v7 v8 v9:Value),fl 9=false->C w'->J fl w' v6 v7 v8 v9->∃ o,ops[9]? =some o/\wpListIn F m P ops (Exit.then (fun a' W=>C W/\∃ v6 v7 v8 v9:Value,a'=(((a.put (some t6) v6).put (some t7) v7).put (some t8) v8).put (some t9) v9/\J (zU fl 9) W v6 v7 v8 v9) Q) [o] ((((a.put (some t6) v6).put (some t7) v7).put (some t8) v8).put (some t9) v9) w')
  (hfin:∀ (fl:Nat->Bool) (w':World) (v6 v7 v8 v9:Value),(∀ i∈[6,7,8,9],fl i=true)->C w'->J fl w' v6 v7 v8 v9->WA F m P ops Q C Lq π ((((a.put (some t6) v6).put (some t7) v7).put (some t8) v8).put (some t9) v9) w'):WA F m P ops Q C Lq (.perm [6,7,8,9] π) a w:=by
 refine bpP (fun fl a' W=>∃ v6 v7 v8 v9:Value,a'=(((a.put (some t6) v6).put (some t7) v7).put (some t8) v8).put (some t9) v9/\J fl W v6 v7 v8 v9) (fun fl hfl=>⟨u6,u7,u8,u9,ha,h0 fl hfl⟩) ?_ ?_
 ·intro i hi fl a' w' hf hC hI
  obtain⟨v6,v7,v8,v9,rfl,hJ⟩:=hI
  simp only[List.mem_cons,List.not_mem_nil,or_false]at hi
  rcases hi with rfl|rfl|rfl|rfl
  ·exact h6 fl w' v6 v7 v8 v9 hf hC hJ
  ·exact h7 fl w' v6 v7 v8 v9 hf hC hJ
  ·exact h8 fl w' v6 v7 v8 v9 hf hC hJ
  ·exact h9 fl w' v6 v7 v8 v9 hf hC hJ
 ·intro fl a' w' hall hC hI
  obtain⟨v6,v7,v8,v9,rfl,hJ⟩:=hI
  exact hfin fl w' v6 v7 v8 v9 hall hC hJ
end
end Go.Proofs.YtcmfnebcmmklkaaDoor.Hand
