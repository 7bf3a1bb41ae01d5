/- What the laws of chapter 9 share: words about rows and regions, the walks of the package dozen, and that known returns true. Part 6 of 16. -/
import Derived.Test.YtcmfnebcmmklkaaDoorK5
set_option linter.unusedVariables false
set_option linter.unusedSimpArgs false
set_option maxRecDepth 100000
set_option maxHeartbeats 8000000
namespace Go.Proofs.YtcmfnebcmmklkaaDoor.Hand
open Go.RowKit Go.Shelf Go.Proofs.YtcmfnebcmmklkaaDoorW.dQ Go.Proofs.YtcmfnebcmmklkaaDoorW.gG Go.Proofs.YtcmfnebcmmklkaaDoor.Q
attribute [local go_sem] Oper.semAt_some
theorem yZ (Q:Exit->Act->World->Prop) (a:Act) (w:World):Qn Q .normal a w=Q .normal a w:=rfl
theorem bfU {M:Int} {ls:List dR} (hM:0<=M/\M<=144) (hl:∀ l∈ls,uH l) (hk:yY M ls ls.length=true):∀ d:Nat,d<=ls.length->(0<=(aeC M ls d).f0/\(aeC M ls d).f0<=144*(d+1))/\(-(144*d)<=(aeC M ls d).f1/\(aeC M ls d).f1<=144):=by
 intro d
 induction d with
 |zero=>
  intro _
  have:=au4 hM hl (Nat.le_refl _) hk
  unfold aeC
  omega
 |succ d ih=>
  intro h
  have h1:=ih (by omega)
  have h2:=au4 hM hl (i:=ls.length - (d+1)) (by omega) (aKV hk (by omega))
  have h3:=hl _ (aqT (ls:=ls) (i:=ls.length - (d+1)) (by omega))
  unfold uH at h3
  unfold aeC QG aaH
  generalize dP ls (ls.length - (d+1):Nat)=l at h3 ⊢
  generalize gU M ls (ls.length - (d+1))=s at h2 ⊢
  generalize aeC M ls d=t at h1 ⊢
  unfold mx mn
  simp only
  split<;>(simp only;refine⟨⟨?_,?_⟩,?_,?_⟩<;>split<;>omega)
theorem aVV {M:Int} {ls:List dR} (hM:0<=M/\M<=144) (hl:∀ l∈ls,uH l) (hk:yY M ls ls.length=true) (h8:ls.length<=8) (i:Nat):VI (qN M ls i):=by
 have:=bfU hM hl hk (ls.length - i) (by omega)
 unfold VI qN
 omega
def fE (M:Int) (ls:List dR):List aH×aH×Bool:=if yY M ls ls.length=true then((List.range ls.length).map (AY M ls),gU M ls ls.length,true)else([],⟨0,0⟩,false)
structure StT (w:World) (M:Int) (ls:List dR) (A:Option Addr) (c:Nat) (vc v6:Value) (L:List aH) (W:World):Prop where
 x1:Box W w.heap.size #[.int .i64 M,.slice A ls.length c] 192
 x2:Box W (w.heap.size+1) #[vc] 31
 x3:Box W (w.heap.size+1+1) #[.int .i64 0,.int .i64 0] 42
 x5:Box W (w.heap.size+1+1+1) #[.int .i64 0,.int .i64 M] 42
 x6:Box W (w.heap.size+1+1+1+1+1) #[v6] 31
 o6:mP W (w.heap.size+1+1+1+1) v6 L
 hb:Below w.heap.size w W
theorem StT.step {w W W':World} {M:Int} {ls:List dR} {A:Option Addr} {c:Nat} {vc v6:Value} {L:List aH} (h:StT w M ls A c vc v6 L W) (hb:Below W.heap.size W W'):StT w M ls A c vc v6 L W':=
 ⟨h.x1.step hb,h.x2.step hb,h.x3.step hb,h.x5.step hb,h.x6.step hb,own_below h.o6 hb,h.hb.trans (hb.mono h.hb.size)⟩
theorem au6 (M:Int) (ls:List dR) (k:Nat):((List.range k).map (gU M ls)).length=k:=by simp
def aqU (N b5 b6 g6 n6 c6 k:Nat) (l:dR) (s a:aH) (W:World):Prop:=
 W.cell? ⟨N,0,none⟩=some (.int .i64 l.f0.f0)/\W.cell? ⟨N,1,none⟩=some (.int .i64 l.f0.f1)/\W.cell? ⟨N,2,none⟩=some (.int .i64 l.f1)/\W.cell? ⟨N,3,none⟩=some (.bool l.f2)/\
 W.cell? ⟨b6,0,none⟩=some (.slice (some ⟨g6,0,none⟩) n6 c6)/\W.cell? ⟨g6,k*2,none⟩=some (.int .i64 s.f0)/\W.cell? ⟨g6,k*2+1,none⟩=some (.int .i64 s.f1)/\
 W.cell? ⟨b5,0,none⟩=some (.int .i64 a.f0)/\W.cell? ⟨b5,1,none⟩=some (.int .i64 a.f1)
theorem jW {W W':World} {a:Addr} {v:Value} (hb:Below W.heap.size W W') (h:W.cell? a=some v):W'.cell? a=some v:=(hb.cell (World.block_lt_of_cell? _ _ h)).trans h
def bfV (b:Nat) (W:World):Prop:=W.cell? ⟨b,0,none⟩=some (.int .i64 0)/\W.cell? ⟨b,1,none⟩=some (.int .i64 0)
theorem aqU.step {N b5 b6 g6 n6 c6 k:Nat} {l:dR} {s a:aH} {W W':World} (h:aqU N b5 b6 g6 n6 c6 k l s a W) (hb:Below W.heap.size W W'):aqU N b5 b6 g6 n6 c6 k l s a W':=by
 obtain⟨h0,h1,h2,h3,h4,h5,h6,h7,h8⟩:=h
 exact⟨jW hb h0,jW hb h1,jW hb h2,jW hb h3,jW hb h4,jW hb h5,jW hb h6,jW hb h7,jW hb h8⟩
theorem bfW (W:World) (x y:Value) (t:TypeId):∀ j u,[x,y][j]? =some u->(W.alloc (.cells #[x,y] t)).cell? ((⟨W.heap.size,0,none⟩:Addr).add j)=some u:=by
 intro j u hj
 match j,hj with
 |0,hj=>simp at hj;subst hj;simp[Addr.add]
 |1,hj=>simp at hj;subst hj;show(W.alloc _).cell? ⟨W.heap.size,1,none⟩=_;exact(Box.new W #[x,y] t).cell 1 rfl
def SL (M:Int) (ls:List dR) (r:Nat):List aH:=(List.range (ls.length+1)).map fun j=>if j<r then gU M ls j else qN M ls j
def CL (M:Int) (ls:List dR) (r:Nat):List aH:=(List.range ls.length).map fun j=>if j<r then⟨0,0⟩else AY M ls j
theorem ah4 (M:Int) (ls:List dR) (r:Nat):(SL M ls r).length=ls.length+1:=by simp[SL]
theorem aVW (M:Int) (ls:List dR) (r:Nat):(CL M ls r).length=ls.length:=by simp[CL]
theorem aqV (M:Int) (ls:List dR) (r:Nat) {j:Nat} (h:j<=ls.length):bM (SL M ls r) (j:Int)=if j<r then gU M ls j else qN M ls j:=by
 simp[bM,SL,List.getD_eq_getElem?_getD,List.getElem?_map,List.getElem?_range (show j<ls.length+1 by omega)]
theorem ah5 {α:Type} (n i:Nat) (f g:Nat->α) (y:α) (hi:i<n) (hy:g i=y) (h:∀ j,j<n->j≠i->f j=g j):((List.range n).map f).set i y=(List.range n).map g:=by
 apply List.ext_getElem?
 intro j
 rw[List.getElem?_set]
 by_cases hj:j<n
 ·by_cases e:i=j
  ·subst e
   simp[hi,hy]
  ·simp[e,hj,h j hj (fun h=>e h.symm)]
 ·by_cases e:i=j
  ·omega
  ·simp[e,hj]
theorem bfX (M:Int) (ls:List dR) {i:Nat} (h:i<ls.length):(SL M ls (i+1)).set i (qN M ls i)=SL M ls i:=by
 unfold SL
 refine ah5 _ _ _ _ _ (by omega) (if_neg (by omega)) (fun j hj hne=>?_)
 by_cases h1:j<i
 ·rw[if_pos (by omega),if_pos h1]
 ·rw[if_neg (by omega),if_neg h1]
theorem bfY (M:Int) (ls:List dR) {i:Nat} (h:i<ls.length):(CL M ls (i+1)).set i (AY M ls i)=CL M ls i:=by
 unfold CL
 refine ah5 _ _ _ _ _ h (if_neg (by omega)) (fun j hj hne=>?_)
 by_cases h1:j<i
 ·rw[if_pos (by omega),if_pos h1]
 ·rw[if_neg (by omega),if_neg h1]
theorem bfZ (M:Int) (ls:List dR):(List.range (ls.length+1)).map (gU M ls)=SL M ls ls.length:=by
 unfold SL
 apply List.map_congr_left
 intro j hj
 have:=List.mem_range.1 hj
 by_cases h:j<ls.length
 ·rw[if_pos h]
 ·obtain rfl:j=ls.length:=by omega
  rw[if_neg h,aqS]
theorem bf0 (M:Int) (ls:List dR):List.replicate ls.length (⟨0,0⟩:aH)=CL M ls ls.length:=by
 unfold CL
 apply List.ext_getElem?
 intro j
 by_cases h:j<ls.length
 ·simp[h]
 ·simp[h]
structure VJ (w:World) (M:Int) (ls:List dR) (A:Option Addr) (c g6 c6 gc:Nat) (r rc:Nat) (W:World):Prop where
 x1:Box W w.heap.size #[.int .i64 M,.slice A ls.length c] 192
 x2:Box W (w.heap.size+1) #[.slice (some ⟨gc,0,none⟩) ls.length ls.length] 31
 x3:Box W (w.heap.size+1+1) #[.int .i64 0,.int .i64 0] 42
 x6:Box W (w.heap.size+1+1+1+1+1) #[.slice (some ⟨g6,0,none⟩) (ls.length+1:Nat) c6] 31
 o6:mP W (w.heap.size+1+1+1+1) (.slice (some ⟨g6,0,none⟩) (ls.length+1:Nat) c6) (SL M ls r)
 oc:mP W (w.heap.size+1+1+1+1) (.slice (some ⟨gc,0,none⟩) ls.length ls.length) (CL M ls rc)
 hb:Below w.heap.size w W
theorem VJ.step {w W W':World} {M:Int} {ls:List dR} {A:Option Addr} {c g6 c6 gc r rc:Nat} (h:VJ w M ls A c g6 c6 gc r rc W) (hb:Below W.heap.size W W'):VJ w M ls A c g6 c6 gc r rc W':=
 ⟨h.x1.step hb,h.x2.step hb,h.x3.step hb,h.x6.step hb,own_below h.o6 hb,own_below h.oc hb,h.hb.trans (hb.mono h.hb.size)⟩
theorem VJ.xW {w W W':World} {M:Int} {ls:List dR} {A:Option Addr} {c g6 c6 gc r rc B:Nat} (h:VJ w M ls A c g6 c6 gc r rc W) (hi:nM B W W') (hB:w.heap.size<=B):VJ w M ls A c g6 c6 gc r rc W':=
 ⟨hi.box h.x1,hi.box h.x2,hi.box h.x3,hi.box h.x6,aKU h.o6 hi,aKU h.oc hi,nM.below h.hb hB (Nat.le_refl _) hi⟩
theorem abQ {W:World} {n₀ g n c:Nat} {xs:List aH} (h:mP W n₀ (.slice (some ⟨g,0,none⟩) n c) xs) {b:Nat} {vs:Array Value} {t:TypeId} (hb:Box W b vs t) (hne:t≠42∨b<n₀) (i j:Nat) (u v:Value):Box ((W.setCell ⟨g,i,none⟩ u).setCell ⟨g,j,none⟩ v) b vs t:=by
 have:b≠g:=by
  rcases hne with hne|hne
  ·have:=own_ne h hb hne
   simpa[Value.ownBlock]using this
  ·have:=(World.ownsRow.lt h g (by simp[Value.ownBlock])).1
   omega
 exact(hb.other this _ _).other this _ _
theorem VJ.bf1 {w W:World} {M:Int} {ls:List dR} {A:Option Addr} {c g6 c6 gc r rc:Nat} (h:VJ w M ls A c g6 c6 gc (r+1) rc W) (hr:r<ls.length) (hg:g6<gc) (hg6:w.heap.size<=g6) {f:aH} (hf:qN M ls r=f):
  VJ w M ls A c g6 c6 gc r rc ((W.setCell ⟨g6,r*2,none⟩ (.int .i64 f.f0)).setCell ⟨g6,r*2+1,none⟩ (.int .i64 f.f1)):=by
 refine⟨abQ h.o6 h.x1 (.inl (by decide)) _ _ _ _,abQ h.o6 h.x2 (.inl (by decide)) _ _ _ _,abQ h.o6 h.x3 (.inr (by omega)) _ _ _ _,abQ h.o6 h.x6 (.inl (by decide)) _ _ _ _,?_,?_,(h.hb.setCell (p:=⟨g6,r*2,none⟩) hg6 _).setCell (p:=⟨g6,r*2+1,none⟩) hg6 _⟩
 ·have:=mP.put h.o6 (by rw[ah4]) r (by omega) f
  rw[<-hf,bfX M ls hr,hf]at this
  exact this
 ·exact am2 (am2 h.oc (by simp[Value.ownBlock];omega) _ _) (by simp[Value.ownBlock];omega) _ _
theorem VJ.bf2 {w W:World} {M:Int} {ls:List dR} {A:Option Addr} {c g6 c6 gc r rc:Nat} (h:VJ w M ls A c g6 c6 gc r (rc+1) W) (hr:rc<ls.length) (hg:g6<gc) (hg6:w.heap.size<=g6) {f:aH} (hf:AY M ls rc=f):
  VJ w M ls A c g6 c6 gc r rc ((W.setCell ⟨gc,rc*2,none⟩ (.int .i64 f.f0)).setCell ⟨gc,rc*2+1,none⟩ (.int .i64 f.f1)):=by
 refine⟨abQ h.oc h.x1 (.inl (by decide)) _ _ _ _,abQ h.oc h.x2 (.inl (by decide)) _ _ _ _,abQ h.oc h.x3 (.inr (by omega)) _ _ _ _,abQ h.oc h.x6 (.inl (by decide)) _ _ _ _,?_,?_,(h.hb.setCell (p:=⟨gc,rc*2,none⟩) (by simp;omega) _).setCell (p:=⟨gc,rc*2+1,none⟩) (by simp;omega) _⟩
 ·exact am2 (am2 h.o6 (by simp[Value.ownBlock];omega) _ _) (by simp[Value.ownBlock];omega) _ _
 ·have:=mP.put h.oc (by rw[aVW]) rc hr f
  rw[<-hf,bfY M ls hr,hf]at this
  exact this
def afS (b2 b6 bl g6 gc n n6 c6 i:Nat) (l:dR) (s t:aH) (W:World):Prop:=
 W.cell? ⟨bl,0,none⟩=some (.int .i64 l.f0.f0)/\W.cell? ⟨bl,1,none⟩=some (.int .i64 l.f0.f1)/\W.cell? ⟨bl,2,none⟩=some (.int .i64 l.f1)/\W.cell? ⟨bl,3,none⟩=some (.bool l.f2)/\
 W.cell? ⟨b6,0,none⟩=some (.slice (some ⟨g6,0,none⟩) n6 c6)/\W.cell? ⟨b2,0,none⟩=some (.slice (some ⟨gc,0,none⟩) n n)/\W.cell? ⟨g6,i*2,none⟩=some (.int .i64 s.f0)/\W.cell? ⟨g6,i*2+1,none⟩=some (.int .i64 s.f1)/\
 W.cell? ⟨g6,(i+1)*2,none⟩=some (.int .i64 t.f0)/\W.cell? ⟨g6,(i+1)*2+1,none⟩=some (.int .i64 t.f1)
theorem afS.step {b2 b6 bl g6 gc n n6 c6 i:Nat} {l:dR} {s t:aH} {W W':World} (h:afS b2 b6 bl g6 gc n n6 c6 i l s t W) (hb:Below W.heap.size W W'):afS b2 b6 bl g6 gc n n6 c6 i l s t W':=by
 obtain⟨h0,h1,h2,h3,h4,h5,h6,h7,h8,h9⟩:=h
 exact⟨jW hb h0,jW hb h1,jW hb h2,jW hb h3,jW hb h4,jW hb h5,jW hb h6,jW hb h7,jW hb h8,jW hb h9⟩
def aKX (b1 b2 b6 g6 gc n n6 c6 c:Nat) (A:Option Addr) (s:aH) (W:World):Prop:=
 W.cell? ⟨b1,1,none⟩=some (.slice A n c)/\W.cell? ⟨b6,0,none⟩=some (.slice (some ⟨g6,0,none⟩) n6 c6)/\W.cell? ⟨b2,0,none⟩=some (.slice (some ⟨gc,0,none⟩) n n)/\W.cell? ⟨g6,n*2,none⟩=some (.int .i64 s.f0)/\W.cell? ⟨g6,n*2+1,none⟩=some (.int .i64 s.f1)
theorem aD1:∀ n:Nat,n<=8->(madeCells #[.int .i64 0,.int .i64 0] (n*2)).toList=pK (List.replicate n ⟨0,0⟩):=by
 intro n hn
 have h:n=0∨n=1∨n=2∨n=3∨n=4∨n=5∨n=6∨n=7∨n=8:=by omega
 rcases h with rfl|rfl|rfl|rfl|rfl|rfl|rfl|rfl|rfl<;>simp[madeCells,pK,Array.toList_map,Array.toList_range,List.range_succ,List.replicate]
theorem aVX (t:Array Value) (W:World) (b1 b2:Nat) (v u:Value) (x:aH) (h1:t.getD 2 undef=.pointer (some ⟨b1,0,none⟩)) (h2:t.getD 3 undef=.pointer (some ⟨b2,0,none⟩)) (h3:t.getD 4 undef=u)
  (x1:Box W b1 #[v] 31) (x2:Box W b2 #[.int .i64 x.f0,.int .i64 x.f1] 42):(results Tryd.f119 t).run Tryd.prog W=.ok (.tuple #[v,vS x,u]) W:=by
 have d0:W.cell? ⟨b1,0,none⟩=some v:=x1.cell 0 rfl
 have d1:W.cell? ⟨b2,0,none⟩=some (.int .i64 x.f0):=x2.cell 0 rfl
 have d2:W.cell? ⟨b2,1,none⟩=some (.int .i64 x.f1):=x2.cell 1 rfl
 simp only[Array.getD_eq_getD_getElem?]at h1 h2 h3
 clear x1 x2
 simp[results,Tryd.results119,go_sem,h1,h2,h3,d0,d1,d2]
theorem bf3 (M:Int) (hM:0<=M/\M<=144) (ls:List dR) (hls:∀ l∈ls,uH l) (h8:ls.length<=8) (A:Option Addr) (c:Nat) (w:World) (hr:Kd.C QX w A ls.length ls):
  Calls Tryd.prog 119 #[.agg #[.int .i64 M,.slice A ls.length c]] w fun e w'=>∃ v,e=.returned (.tuple #[v,vS (fE M ls).2.1,.bool (fE M ls).2.2])/\mP w' w.heap.size v (fE M ls).1/\Below w.heap.size w w':=by
 obtain⟨R,hR⟩:∃ R,fE M ls=R:=⟨_,rfl⟩
 rw[hR]
 have HR:=Lib.hid hR
 clear hR
 have Hls:=Lib.hid hls
 clear hls
 refine(callsIn_wide (n:=0)).1 ?_
 refine callsIn_of_wp_marks Tryd.func119 rfl trivial ?_
 simp only[Tryd.ntmps119,List.size_toArray,List.length_cons,List.length_nil,Nat.reduceAdd,Nat.reduceSub,Array.replicate_succ,Array.replicate_zero,List.push_toArray,List.append_toArray,List.nil_append,List.cons_append]
 gi_wp2
 obtain⟨Wa,hWa⟩:∃ Wa,((((((w.alloc (Obj.cells #[Value.int IntKind.i64 M,Value.slice A ls.length c] 192)).alloc (Obj.cells #[Value.slice none 0 0] 31)).alloc (Obj.cells #[Value.int IntKind.i64 0,Value.int IntKind.i64 0] 42)).alloc (Obj.cells #[Value.int IntKind.i64 0,Value.int IntKind.i64 M] 42)).alloc (Obj.cells #[Value.int IntKind.i64 0,Value.int IntKind.i64 0] 42)).alloc (Obj.cells #[Value.slice (some { block:=w.heap.size+1+1+1+1,off:=0}) 1 1] 31))=Wa:=⟨_,rfl⟩
 rw[hWa]
 have aVY:StT w M ls A c (.slice none 0 0) (.slice (some ⟨w.heap.size+1+1+1+1,0,none⟩) 1 1) [⟨0,0⟩] Wa:=by
  rw[<-hWa]
  refine⟨?_,?_,?_,?_,?_,?_,?_⟩
  ·exact((((((Box.new _ _ _).alloc _).alloc _).alloc _).alloc _).alloc _)
  ·exact((((Box.new' _ _ _ (by simp)).alloc _).alloc _).alloc _).alloc _
  ·exact(((Box.new' _ _ _ (by simp)).alloc _).alloc _).alloc _
  ·exact((Box.new' _ _ _ (by simp)).alloc _).alloc _
  ·exact Box.new' _ _ _ (by simp)
  ·have:=World.ownsRow.alloc (World.ownsRow_lit (base:=w.heap.size+1+1+1+1) (e:=42) (size:=2) ((((w.alloc (Obj.cells #[Value.int IntKind.i64 M,Value.slice A ls.length c] 192)).alloc (Obj.cells #[Value.slice none 0 0] 31)).alloc (Obj.cells #[Value.int IntKind.i64 0,Value.int IntKind.i64 0] 42)).alloc (Obj.cells #[Value.int IntKind.i64 0,Value.int IntKind.i64 M] 42)) #[Value.int IntKind.i64 0,Value.int IntKind.i64 0] 1 (by simp) (by simp[maxLen]) (by rfl)) (Obj.cells #[Value.slice (some { block:=w.heap.size+1+1+1+1,off:=0}) 1 1] 31)
   simpa[mP,pK]using this
  ·exact((((((Below.refl _ _).alloc (Nat.le_refl _) _).alloc (by simp) _).alloc (by simp;omega) _).alloc (by simp;omega) _).alloc (by simp;omega) _).alloc (by simp;omega) _
 clear hWa
 gi_loopw [20] (fun i wr=>∃ (k:Nat) (v6:Value),k<=ls.length/\i=.int .i64 k/\Hid (yY M ls k=true)/\StT w M ls A c (.slice none 0 0) v6 ((List.range (k+1)).map (gU M ls)) wr) (fun i _=>ls.length - (intOf i).toNat)
 case atStart=>exact⟨0,_,Nat.zero_le _,rfl,Lib.hid rfl,aVY⟩
 case round=>
  clear aVY
  obtain⟨k,v6,hk,rfl,hok,hs⟩:=hrel
  by_cases hlt:k<ls.length
  ·obtain⟨ad,hA,h0,h1,h2,h3⟩:=aIX (Kd.bJ hr hs.hb) k (by omega) (by omega)
   subst hA
   rw[Int.toNat_natCast]at h0 h1 h2 h3
   gi_wp2
   obtain⟨l,hl⟩:∃ l,dP ls (k:Int)=l:=⟨_,rfl⟩
   have Hl:=Lib.hid hl
   rw[hl]at h0 h1 h2 h3 ⊢
   clear hl
   obtain⟨W1,hW1⟩:∃ W1,wr.alloc (Obj.cells #[Value.int IntKind.i64 l.f0.f0,Value.int IntKind.i64 l.f0.f1,Value.int IntKind.i64 l.f1,Value.bool l.f2] 197)=W1:=⟨_,rfl⟩
   rw[hW1]
   have hb1:Below wr.heap.size wr W1:=by rw[<-hW1];exact(Below.refl _ _).alloc (Nat.le_refl _) _
   have bxl:Box W1 wr.heap.size #[.int .i64 l.f0.f0,.int .i64 l.f0.f1,.int .i64 l.f1,.bool l.f2] 197:=by rw[<-hW1];exact Box.new _ _ _
   have hs1:=hs.step hb1
   clear hW1 h0 h1 h2 h3 hs
   have hsm:=au4 hM Hls.out hk hok.out
   have hsl:=(Hls.out l (by rw[<-Hl.out];exact aqT hlt)).sm
   obtain⟨g6,c6,hv6,hg1,hg2,hg3,hg4⟩:=afR (n:=k+1) (by have:=hs1.o6;unfold mP at this;rw[au6]at this;exact this) (by omega)
   subst hv6
   obtain⟨q0,q1,_⟩:=mP.aaG (n:=k+1) hs1.o6 (by simp) k (by omega)
   obtain⟨s,hsk⟩:∃ s,gU M ls k=s:=⟨_,rfl⟩
   have Hsk:=Lib.hid hsk
   rw[show bM ((List.range (k+1)).map (gU M ls)) (k:Int)=s by rw[<-hsk];simp[bM,List.getD_eq_getElem?_getD]]at q0 q1
   rw[hsk]at hsm
   clear hsk
   have hC:aqU wr.heap.size (w.heap.size+1+1+1) (w.heap.size+1+1+1+1+1) g6 (k+1) c6 k l s ⟨0,M⟩ W1:=
    ⟨bxl.cell 0 rfl,bxl.cell 1 rfl,bxl.cell 2 rfl,bxl.cell 3 rfl,hs1.x6.cell 0 rfl,q0,q1,hs1.x5.cell 0 rfl,hs1.x5.cell 1 rfl⟩
   have kW:aqU wr.heap.size (w.heap.size+1+1+1) (w.heap.size+1+1+1+1+1) g6 (k+1) c6 k l s ⟨0,M⟩ W1.drew:=hC
   clear q0 q1 hC
   refine aeB 9 (.quiet 0 (.quiet 1 (.quiet 2 (.quiet 3 (.quiet 4 (.quiet 6 (.two 5 8 (.two 7 8 (.ev 8 .done) (.ev 7 .done)) (.ev 5 (.ev 7 .done))))))))) (aqU wr.heap.size (w.heap.size+1+1+1) (w.heap.size+1+1+1+1+1) g6 (k+1) c6 k l s ⟨0,M⟩) (rZ.of (by kernel_rfl)) rfl (by kernel_rfl) kW ?_
   have hkk:(k:Int)<(k:Int)+1:=by omega
   iterate 6 (apply UA rfl (fun _=>rfl) (by assumption);focus(intro K hK w' hw';obtain⟨g0,g1,g2,g3,g4,g5,g6,g7,g8⟩:=hw';go_simp;exact hK))
   clear hkk
   have hca:=Lib.hid (fun W=>bfQ l s hsl (bfT hsm) W)
   have hcn:=Lib.hid (fun W=>aD0 (abO l s) ⟨0,M⟩ W)
   obtain⟨af,FH⟩:∃ af,abO l s=af:=⟨_,rfl⟩
   obtain⟨st,hst⟩:∃ st,QG af ⟨0,M⟩=st:=⟨_,rfl⟩
   rw[FH]at hca hcn
   rw[hst]at hcn
   have VK:Hid (gU M ls (k+1)=st):=Lib.hid (by rw[gU,Hl.out,Hsk.out,FH,hst])
   clear FH hst
   have aeD:Below W1.heap.size W1 W1.drew:=(Below.refl _ _).drew
   obtain⟨W0,hW0⟩:∃ W_,W_=W1.drew:=⟨_,rfl⟩
   rw[<-hW0]at kW aeD ⊢
   have aVZ:=kW
   clear kW hW0
   refine ah2 rfl rfl ?ea ?eb
   case' ea=>
    gi_wp2_with fail
    refine⟨trivial,rfl,?_⟩
    refine(callsIn_wide.2 (hca.out _)).mono ?_
    rintro e w3 ⟨rfl,hbq⟩
    have aqX:=aVZ.step hbq
    have hBw3:Below W1.heap.size W1 w3:=aeD.trans (hbq.mono aeD.size)
    gi_wp2
    refine⟨aqX,?_⟩
    refine ah2 rfl rfl ?ec ?ed
   case' ec=>
    gi_wp2_with fail
    refine⟨trivial,rfl,?_⟩
    refine(callsIn_wide.2 (hcn.out _)).mono ?_
    rintro e w4 ⟨rfl,hbq⟩
    have ah6:=aqX.step hbq
    have afT:Below W1.heap.size W1 w4:=hBw3.trans (hbq.mono hBw3.size)
    gi_wp2
    refine⟨ah6,?_⟩
    refine DN rfl ?_
    gi_wp2
    obtain⟨w5,aD3⟩:∃ W_,w4.alloc (Obj.cells #[Value.int IntKind.i64 0,Value.int IntKind.i64 0] 42)=W_:=⟨_,rfl⟩
    rw[aD3]
    have hbq:Below w4.heap.size w4 w5:=by rw[<-aD3];exact(Below.refl _ _).alloc (Nat.le_refl _) _
    have aV1:Box w5 w4.heap.size #[.int .i64 0,.int .i64 0] 42:=by rw[<-aD3];exact Box.new _ _ _
    have au7:=ah6.step hbq
    have aD4:Below W1.heap.size W1 w5:=afT.trans (hbq.mono afT.size)
    have hz9:=afT.size
    obtain⟨b9,hb9⟩:∃ b,w4.heap.size=b:=⟨_,rfl⟩
    rw[hb9]at hz9 aV1 ⊢
    clear aD3
    have bxz:=aV1
    refine⟨au7,?_⟩
   case' ed=>
    gi_wp2
    obtain⟨w4,aD5⟩:∃ W_,w3.alloc (Obj.cells #[Value.int IntKind.i64 0,Value.int IntKind.i64 0] 42)=W_:=⟨_,rfl⟩
    rw[aD5]
    have hbq:Below w3.heap.size w3 w4:=by rw[<-aD5];exact(Below.refl _ _).alloc (Nat.le_refl _) _
    have aV2:Box w4 w3.heap.size #[.int .i64 0,.int .i64 0] 42:=by rw[<-aD5];exact Box.new _ _ _
    have ah6:=aqX.step hbq
    have afT:Below W1.heap.size W1 w4:=hBw3.trans (hbq.mono hBw3.size)
    have hz9:=hBw3.size
    obtain⟨b9,hb9⟩:∃ b,w3.heap.size=b:=⟨_,rfl⟩
    rw[hb9]at hz9 aV2 ⊢
    clear aD5
    refine⟨ah6,?_⟩
    refine DN rfl ?_
    gi_wp2_with fail
    refine⟨trivial,rfl,?_⟩
    refine(callsIn_wide.2 (hcn.out _)).mono ?_
    rintro e w5 ⟨rfl,hbq⟩
    have au7:=ah6.step hbq
    have aD4:Below W1.heap.size W1 w5:=afT.trans (hbq.mono afT.size)
    have bxz:=aV2.step hbq
    gi_wp2
    refine⟨au7,?_⟩
   case' eb=>
    gi_wp2
    obtain⟨w3,aD6⟩:∃ W_,W0.alloc (Obj.cells #[Value.int IntKind.i64 0,Value.int IntKind.i64 0] 42)=W_:=⟨_,rfl⟩
    rw[aD6]
    have hbq:Below W0.heap.size W0 w3:=by rw[<-aD6];exact(Below.refl _ _).alloc (Nat.le_refl _) _
    have aV3:Box w3 W0.heap.size #[.int .i64 0,.int .i64 0] 42:=by rw[<-aD6];exact Box.new _ _ _
    have aqX:=aVZ.step hbq
    have hBw3:Below W1.heap.size W1 w3:=aeD.trans (hbq.mono aeD.size)
    have hz9:=aeD.size
    obtain⟨b9,hb9⟩:∃ b,W0.heap.size=b:=⟨_,rfl⟩
    rw[hb9]at hz9 aV3 ⊢
    clear aD6
    refine⟨aqX,?_⟩
    refine DN rfl ?_
    gi_wp2_with fail
    refine⟨trivial,rfl,?_⟩
    refine(callsIn_wide.2 (hca.out _)).mono ?_
    rintro e w4 ⟨rfl,hbq⟩
    have ah6:=aqX.step hbq
    have afT:Below W1.heap.size W1 w4:=hBw3.trans (hbq.mono hBw3.size)
    have bxy:=aV3.step hbq
    clear hbq
    gi_wp2
    refine⟨ah6,?_⟩
    refine DN rfl ?_
    gi_wp2_with fail
    refine⟨trivial,rfl,?_⟩
    refine(callsIn_wide.2 (hcn.out _)).mono ?_
    rintro e w5 ⟨rfl,hbq⟩
    have au7:=ah6.step hbq
    have aD4:Below W1.heap.size W1 w5:=afT.trans (hbq.mono afT.size)
    have bxz:=bxy.step hbq
    gi_wp2
    refine⟨au7,?_⟩
   all_goals
    show wpListIn _ _ _ _ _ _ _ _
    simp only[List.drop_succ_cons,List.drop_zero]
    have f0:=bxz.frozen 0
    have f1:=bxz.frozen 1
    have d0:w5.cell? ⟨b9,0,none⟩=some (.int .i64 0):=bxz.cell 0 rfl
    have d1:w5.cell? ⟨b9,1,none⟩=some (.int .i64 0):=bxz.cell 1 rfl
    clear hbq
    gi_wp2
    rw[yZ]
    have hB6:Below W1.heap.size W1 ((w5.setCell ⟨b9,0,none⟩ (.int .i64 st.f0)).setCell ⟨b9,1,none⟩ (.int .i64 st.f1)):=(aD4.setCell (p:=⟨b9,0,none⟩) hz9 _).setCell (p:=⟨b9,1,none⟩) hz9 _
    have ZE:Box ((w5.setCell ⟨b9,0,none⟩ (.int .i64 st.f0)).setCell ⟨b9,1,none⟩ (.int .i64 st.f1)) b9 #[.int .i64 st.f0,.int .i64 st.f1] 42:=(bxz.set 0 _).set 1 _
    obtain⟨W6,hW6⟩:∃ W_,(w5.setCell ⟨b9,0,none⟩ (.int .i64 st.f0)).setCell ⟨b9,1,none⟩ (.int .i64 st.f1)=W_:=⟨_,rfl⟩
    rw[hW6]at hB6 ZE ⊢
    have hs6:=hs1.step hB6
    clear f0 f1 d0 d1 hW6 aD4 bxz
    have e0:=ZE.cell 0 rfl
    have e1:=ZE.cell 1 rfl
    by_cases hgt:st.f1<st.f0
    ·have bf6:Hid (R=([],⟨0,0⟩,false)):=Lib.hid (by
      rw[<-HR.out,fE,if_neg]
      intro h
      have:=aKV h (show k+1<=ls.length by omega)
      rw[yY,VK.out]at this
      simp at this
      omega)
     have t0:=hs6.x3.cell 0 rfl
     have t1:=hs6.x3.cell 1 rfl
     gi_wp2
     refine aaF 2 [(0,true),(1,false)] (bfV (w.heap.size+1+1)) (rZ.of (by kernel_rfl)) rfl (by kernel_rfl) ⟨t0,t1⟩ ?_
     apply FD rfl (fun _=>rfl) (by exact⟨t0,t1⟩)
     ·intro K hK w' hw'
      obtain⟨g0,g1⟩:=hw'
      go_simp
      exact hK
     have y2:Box (W6.setCell ⟨w.heap.size+1,0,none⟩ (.slice none 0 0)).drew (w.heap.size+1) #[.slice none 0 0] 31:=(hs6.x2.set 0 (.slice none 0 0)).drew
     have y3:Box (W6.setCell ⟨w.heap.size+1,0,none⟩ (.slice none 0 0)).drew (w.heap.size+1+1) _ 42:=(hs6.x3.other (b':=w.heap.size+1) (by omega) 0 (.slice none 0 0)).drew
     have z2:W6.drew.cell? ⟨w.heap.size+1,0,none⟩=some (.slice none 0 0):=hs6.x2.cell 0 rfl
     have z3:W6.drew.frozen? ⟨w.heap.size+1,0,none⟩=false:=hs6.x2.frozen 0
     refine uG rfl ?_
     gi_wp2
     refine⟨⟨y3.cell 0 rfl,y3.cell 1 rfl⟩,?_⟩
     show wpListIn _ _ _ _ _ _ _ _
     simp only[List.drop_succ_cons,List.drop_zero]
     obtain⟨W7,hW7⟩:∃ W_,(W6.setCell ⟨w.heap.size+1,0,none⟩ (.slice none 0 0)).drew=W_:=⟨_,rfl⟩
     have hB7:Below w.heap.size w W7:=by rw[<-hW7];exact(hs6.hb.setCell (p:=⟨w.heap.size+1,0,none⟩) (by simp) _).drew
     rw[hW7]at y2 y3 ⊢
     clear hW7 z2 z3 t0 t1
     have t0:=y3.cell 0 rfl
     have t1:=y3.cell 1 rfl
     have f0:=y3.frozen 0
     have f1:=y3.frozen 1
     gi_wp2
     rw[yZ]
     have y2':=(y2.other (b':=w.heap.size+1+1) (by omega) 0 (.int .i64 0)).other (b':=w.heap.size+1+1) (by omega) 1 (.int .i64 0)
     have y3':=(y3.set 0 (.int .i64 0)).set 1 (.int .i64 0)
     have XC:=(hB7.setCell (p:=⟨w.heap.size+1+1,0,none⟩) (by simp;omega) (.int .i64 0)).setCell (p:=⟨w.heap.size+1+1,1,none⟩) (by simp;omega) (.int .i64 0)
     clear t0 t1 f0 f1 e0 e1
     gi_wp2
     refine aDW (B:=w.heap.size) (T:=0) [] _ (Marks.nil _ _ _) (fun W' hi=>⟨_,aVX _ W' _ _ _ _ ⟨0,0⟩ rfl rfl rfl (hi.box y2') (hi.box y3'),?_⟩)
     rw[bf6.out]
     exact⟨_,rfl,World.ownsRow_nil _ _ _ _,nM.below XC (Nat.le_refl _) (Nat.le_refl _) hi⟩
    ·have hok2:Hid (yY M ls (k+1)=true):=Lib.hid (by rw[yY,hok.out,VK.out];simp;omega)
     have t0:=hs6.x6.cell 0 rfl
     have t1:=hs6.x6.frozen 0
     have ZF:W6.ownsRow (w.heap.size+1+1+1+1) 42 2 (.slice (some ⟨g6,0,none⟩) (k+1) c6) (k+1) (pK ((List.range (k+1)).map (gU M ls))):=by
      have:=hs6.o6
      unfold mP at this
      rw[au6]at this
      exact this
     obtain⟨i42,abR,XD⟩:=Option.map_eq_some_iff.1 ad5
     simp only[Prod.mk.injEq]at XD
     obtain⟨hz0,hz1,hz2⟩:=XD
     gi_wp2_with (gi_at_builtin;refine wpListIn_append_own _ rfl _ _ 31 rfl (w.heap.size+1+1+1+1) 42 i42 _ 2 16 Tryd.underlying31 abR hz0 hz1 hz2 rfl (by decide) _ _ _ rfl (World.ownsRow.alloc ZF _) ⟨W6.heap.size,0,none⟩ 1 1 [.int .i64 st.f0,.int .i64 st.f1] rfl rfl (bfW _ _ _ _) (by intro u hu;simp at hu;rcases hu with rfl|rfl<;>rfl) (by unfold maxLen;omega) (by omega) (by have:=hs6.hb.size;have:=hs6.x6.lt;simp;omega) ?_)
     intro v1 W7 hown hgrow _
     have hB7:Below w.heap.size w W7:=aVT (ah3 (World.ownsRow.alloc ZF (.cells #[.int .i64 st.f0,.int .i64 st.f1] 42)) (by omega)) hgrow (hs6.hb.alloc hs6.hb.size _) (by have:=hs6.hb.size;simp;omega)
     obtain⟨A1,cv1,rfl⟩:=aSM hown
     have hnb:∀ (b:Nat) (vs:Array Value) (ty:TypeId),Box W6 b vs ty->b≠g6->Box W7 b vs ty:=fun b vs ty hb hne=>(hgrow.block b (hb.alloc _).lt (by simpa[Value.ownBlock]using hne)).trans (hb.alloc _)
     have p1:=hnb _ _ _ hs6.x1 (by omega)
     have p2:=hnb _ _ _ hs6.x2 (by omega)
     have p3:=hnb _ _ _ hs6.x3 (by omega)
     have p5:=hnb _ _ _ hs6.x5 (by omega)
     have p6:=bfN (World.ownsRow.alloc ZF (.cells #[.int .i64 st.f0,.int .i64 st.f1] 42)) hgrow (hs6.x6.alloc _) (by decide)
     have o7:mP W7 (w.heap.size+1+1+1+1) (.slice A1 (k+1+1) cv1) ((List.range (k+1+1)).map (gU M ls)):=by
      unfold mP
      rw[au6,List.range_succ,List.map_append,bfO,List.map_cons,List.map_nil,VK.out]
      simpa[pK,List.range_succ]using hown
     clear hown hgrow hnb ZF hz0 hz1 hz2 abR t0 t1 e0 e1 hs6 ZE hB6
     have t0:=p6.cell 0 rfl
     have t1:=p6.frozen 0
     gi_wp2
     go_roundw
     case rel=>exact⟨k+1,_,by omega,by go_num,hok2,⟨p1.other (by omega) _ _,p2.other (by omega) _ _,p3.other (by omega) _ _,p5.other (by omega) _ _,p6.set 0 _,ZC o7 p6 (by decide) 0 _,hB7.setCell (by simp;omega) _⟩⟩
     case measure=>simp[intOf];omega
  ·obtain rfl:k=ls.length:=by omega
   obtain⟨i42,abR,XD⟩:=Option.map_eq_some_iff.1 ad5
   simp only[Prod.mk.injEq]at XD
   obtain⟨hz0,hz1,hz2⟩:=XD
   have hmk:=run_make (P:=Tryd.prog) wr 31 42 i42 _ Tryd.underlying31 abR hz0 .i64 .i64 (ls.length:Int) (ls.length:Int) (by omega) (Int.le_refl _) (by rw[hz2];omega) (by omega)
   rw[hz1,Int.toNat_natCast]at hmk
   have c1:wr.cell? ⟨w.heap.size,1,none⟩=some (.slice A ls.length c):=hs.x1.cell 1 rfl
   have c2:wr.cell? ⟨w.heap.size+1,0,none⟩=some (.slice none 0 0):=hs.x2.cell 0 rfl
   have c3:=hs.x2.frozen 0
   obtain⟨Wm,hWm⟩:∃ W_,wr.alloc (Obj.cells (madeCells #[Value.int IntKind.i64 0,Value.int IntKind.i64 0] (ls.length*2)) 42)=W_:=⟨_,rfl⟩
   have aV5:(Instr.makeSlice 31 (Value.int IntKind.i64 ↑ls.length) (Value.int IntKind.i64 ↑ls.length)).run Tryd.prog wr=.ok (.slice (some ⟨wr.heap.size,0,none⟩) ls.length ls.length) Wm:=by rw[<-hWm];exact hmk
   have hbm:Below wr.heap.size wr Wm:=by rw[<-hWm];exact(Below.refl _ _).alloc (Nat.le_refl _) _
   have hsm:=hs.step hbm
   have om:mP Wm (w.heap.size+1+1+1+1) (.slice (some ⟨wr.heap.size,0,none⟩) ls.length ls.length) (List.replicate ls.length ⟨0,0⟩):=by
    rw[<-hWm]
    have:=World.ownsRow_lit (base:=w.heap.size+1+1+1+1) (e:=42) (size:=2) wr (madeCells #[Value.int IntKind.i64 0,Value.int IntKind.i64 0] (ls.length*2)) ls.length (by have:=hs.x6.lt;omega) (by unfold maxLen;omega) (by rw[size_madeCells])
    rw[aD1 _ h8]at this
    unfold mP
    rw[List.length_replicate]
    exact this
   have c4:Wm.cell? ⟨w.heap.size+1,0,none⟩=some (.slice none 0 0):=hsm.x2.cell 0 rfl
   have cx6:Wm.cell? ⟨w.heap.size,1,none⟩=some (.slice A ls.length c):=hsm.x1.cell 1 rfl
   have c5:=hsm.x2.frozen 0
   clear hmk hWm c2 c3
   gi_wp2_with fail
   refine⟨trivial,rfl,?_⟩
   refine(callsIn_wide.2 (bfK A ls.length c _)).mono ?_
   rintro e wb ⟨rfl,hwb⟩
   gi_wp2
   obtain⟨g6,c6,hv6,hg1,hg2,hg3,hg4⟩:=afR (n:=ls.length+1) (by have:=hsm.o6;unfold mP at this;rw[au6]at this;exact this) (by omega)
   subst hv6
   obtain⟨bs,hbs⟩:∃ b,Wm.heap.size=b:=⟨_,rfl⟩
   obtain⟨gc,hgc⟩:∃ b,wr.heap.size=b:=⟨_,rfl⟩
   have aKZ:g6<wr.heap.size:=by
    have:=afR (n:=ls.length+1) (by have:=hs.o6;unfold mP at this;rw[au6]at this;exact this) (by omega)
    obtain⟨g',c',e',_,h',_⟩:=this
    simp only[Value.slice.injEq,Option.some.injEq,Addr.mk.injEq,and_true,true_and]at e'
    omega
   rw[hgc]at om aV5 aKZ ⊢
   have hbsz:=hsm.x6.lt
   have hwz:=hsm.hb.size
   obtain⟨Wb,hWb⟩:∃ W_,(Wm.setCell { block:=w.heap.size+1,off:=0} (Value.slice (some { block:=gc,off:=0}) ls.length ls.length)).alloc (Obj.cells #[Value.slice A ls.length c] 190)=W_:=⟨_,rfl⟩
   have hsR:VJ w M ls A c g6 c6 gc ls.length ls.length Wb:=by
    rw[<-hWb]
    refine⟨(hsm.x1.other (by omega) _ _).alloc _,(hsm.x2.set 0 _).alloc _,(hsm.x3.other (by omega) _ _).alloc _,(hsm.x6.other (by omega) _ _).alloc _,?_,?_,(hsm.hb.setCell (p:=⟨w.heap.size+1,0,none⟩) (by simp) _).alloc (by simp;omega) _⟩
    ·have:=hsm.o6
     rw[bfZ]at this
     exact World.ownsRow.alloc (ZC this hsm.x2 (by decide) 0 _) _
    ·rw[bf0]at om
     exact World.ownsRow.alloc (ZC om hsm.x2 (by decide) 0 _) _
   have bf9:Box Wb bs #[.slice A ls.length c] 190:=by rw[<-hWb,<-hbs];exact Box.new' _ _ _ (by simp)
   have hbw:w.heap.size<Wb.heap.size:=hsR.x1.lt
   rw[hbs,hWb]
   clear hWb hbs hgc hbm hsm om c1 c4 c5 cx6 aV5 hs hz0 hz1 hz2 abR
   refine aVM (gf:=132) (first:=#[]) (lb:=#[.pointer (some ⟨bs,0,none⟩)]) rfl (enters_of Tryd.func132 (by kernel_rfl) rfl) (bfM ls (by omega) A c bs) (by rintro x args W rfl;rfl) (fun X Y ⟨h1,h2⟩ hi=>⟨hi.box h1,bfL h2 hi⟩) (fun X Y e=>by rw[e];exact iZ.refl _)
    (fun pre W=>pre.length<=ls.length/\VJ w M ls A c g6 c6 gc (ls.length - pre.length) (ls.length - pre.length) W)
    (fun _ _ _=>False)
    (fun pre X Y ⟨h1,h2⟩ hi=>⟨h1,h2.xW hi (by omega)⟩)
    (fun pre X Y h e=>by rw[<-e];exact h) (fun _ _ _ _ h _=>h) (fun _ _ _ _ h _=>h)
    ⟨Nat.zero_le _,hsR⟩ ⟨bf9,Kd.bJ hr hsR.hb⟩
    (fun x a' W=>∃ bl,Box W bl #[.int .i64 (dP ls x).f0.f0,.int .i64 (dP ls x).f0.f1,.int .i64 (dP ls x).f1,.bool (dP ls x).f2] 197/\a'={ tmps:=#[.agg #[.int .i64 M,.slice A ls.length c],.pointer (some ⟨w.heap.size,0,none⟩),.pointer (some ⟨w.heap.size+1,0,none⟩),.pointer (some ⟨w.heap.size+1+1,0,none⟩),u4,.pointer (some ⟨w.heap.size+1+1+1,0,none⟩),.pointer (some ⟨w.heap.size+1+1+1+1+1,0,none⟩),u7,u8,u9,.int .i64 x,.pointer (some ⟨bl,0,none⟩),.pointer (some ⟨w.heap.size,0,none⟩),.int .i64 M,.agg #[.int .i64 0,.int .i64 M],.agg #[.int .i64 0,.int .i64 0],.slice (some ⟨w.heap.size+1+1+1+1,0,none⟩) 1 1,.pointer (some ⟨w.heap.size,1,none⟩),.slice A ls.length c,.int .i64 ls.length,.int .i64 ls.length,.bool false,u22,u23,u24,u25,u26,u27,u28,u29,u30,u31,u32,u33,u34,u35,u36,u37,u38,u39,u40,u41,u42,u43,.pointer (some ⟨w.heap.size,1,none⟩),.slice A ls.length c,.int .i64 ls.length,.slice (some ⟨gc,0,none⟩) ls.length ls.length,.pointer (some ⟨w.heap.size,1,none⟩),.slice A ls.length c,.func (.func 132) #[] #[.pointer (some ⟨bs,0,none⟩)],.int .i64 x,afQ (dP ls x),undef,undef,undef,undef,undef,undef,undef,undef,undef,undef,undef,undef,undef,undef,undef,undef,undef,undef,undef,undef,undef,undef,undef,undef,undef,undef,undef,undef,undef,undef,undef,undef,undef,undef,undef,undef,undef,undef,undef],defers:=[]})
    (fun x a' X Y ⟨bl,h1,h2⟩ hi=>⟨bl,hi.box h1,h2⟩) ?assign ?body ?done ?stop
   case assign=>
    rintro l0 pre x args W K ⟨hp1,hp2⟩ hv hp rfl hK
    gi_wp2
    have hbq:Below W.heap.size W (W.alloc (.cells #[.int .i64 (dP ls x).f0.f0,.int .i64 (dP ls x).f0.f1,.int .i64 (dP ls x).f1,.bool (dP ls x).f2] 197)):=(Below.refl _ _).alloc (Nat.le_refl _) _
    exact hK _ _ (iZ.alloc _ _) ⟨hp1,hp2.step hbq⟩ ⟨hv.1.step hbq,Kd.bJ hv.2 hbq⟩ ⟨_,Box.new _ _ _,rfl⟩
   case body=>
    rintro l0 pre x a' W hl0 hr0 ⟨hp1,hp2⟩ hv hp ⟨bl,hbl,rfl⟩
    obtain⟨hx,hxn⟩:ls.length - pre.length=x+1/\x<ls.length:=by
     obtain⟨z,hz⟩:=hp
     have h1:=congrArg List.length hz
     simp at h1
     have h2:=congrArg (fun l=>l[pre.length]?) hz
     simp only[List.append_assoc]at h2
     rw[List.getElem?_append_right (Nat.le_refl _),Nat.sub_self,List.getElem?_reverse (by simp;omega)]at h2
     simp at h2
     rw[List.getElem?_range (by omega)]at h2
     simp at h2
     omega
    rw[hx]at hp2
    obtain⟨l,hl⟩:∃ l,dP ls (x:Int)=l:=⟨_,rfl⟩
    have Hl:=Lib.hid hl
    rw[hl]at hbl ⊢
    have hlm:uH l:=by rw[<-hl];exact Hls.out _ (aqT hxn)
    have hfs:=Lib.hid (aDZ M ls hxn)
    rw[hl]at hfs
    have bgA:=au4 hM Hls.out (i:=x) (by omega) (aKV hok.out (by omega))
    have hfn:=aVV hM Hls.out hok.out h8 (x+1)
    have hfx:=aVV hM Hls.out hok.out h8 x
    clear hl hp
    obtain⟨s,hs⟩:∃ s,gU M ls x=s:=⟨_,rfl⟩
    obtain⟨t,ht⟩:∃ t,qN M ls (x+1)=t:=⟨_,rfl⟩
    obtain⟨fx,au9⟩:∃ f,qN M ls x=f:=⟨_,rfl⟩
    have q:=mP.aaG (n:=ls.length+1) hp2.o6 (by simp[ah4]) x (by omega)
    have q':=mP.aaG (n:=ls.length+1) hp2.o6 (by simp[ah4]) (x+1) (by omega)
    rw[aqV _ _ _ (by omega),if_pos (by omega),hs]at q
    rw[aqV _ _ _ (by omega),if_neg (by omega),ht]at q'
    have Hcs:Hid (AY M ls x=QG l.f0 (abP l fx t)):=Lib.hid (by rw[AY,Hl.out,au9,ht])
    rw[hs,ht,au9]at hfs
    rw[hs]at bgA
    rw[ht]at hfn
    rw[au9]at hfx
    have Hfx:=Lib.hid au9
    have Ht:=Lib.hid ht
    clear hs ht au9
    have hC:afS (w.heap.size+1) (w.heap.size+1+1+1+1+1) bl g6 gc ls.length (ls.length+1) c6 x l s t W:=
     ⟨hbl.cell 0 rfl,hbl.cell 1 rfl,hbl.cell 2 rfl,hbl.cell 3 rfl,hp2.x6.cell 0 rfl,hp2.x2.cell 0 rfl,q.1,q.2.1,q'.1,q'.2.1⟩
    have kW:afS (w.heap.size+1) (w.heap.size+1+1+1+1+1) bl g6 gc ls.length (ls.length+1) c6 x l s t W.drew:=hC
    gi_wp2
    have k0:(x:Int)<(ls.length:Int)+1:=by omega
    have k1:(x:Int)+1<(ls.length:Int)+1:=by omega
    have k2:(x:Int)<(ls.length:Int):=by omega
    have k3:(0:Int)<=(x:Int)+1:=by omega
    have k4:IntKind.i64.wrap ((x:Int)+1)=(x:Int)+1:=IntWalk.i64_in _ (by omega)
    have k5:((x:Int)+1).toNat=x+1:=by omega
    clear q q' hC
    refine aaF 14 [(0,true),(1,true),(2,true),(3,true),(4,true),(5,true),(6,true),(7,true),(8,true),(9,true),(10,true),(11,true),(12,false),(13,false)] (afS (w.heap.size+1) (w.heap.size+1+1+1+1+1) bl g6 gc ls.length (ls.length+1) c6 x l s t) (rZ.of (by kernel_rfl)) rfl (by kernel_rfl) kW ?_
    iterate 12 (apply FD rfl (fun _=>rfl) (by assumption);focus(intro K hK w' hw';obtain⟨g0,g1,g2,g3,g4,g5,g6,g7,g8,g9⟩:=hw';go_simp;exact hK))
    clear k0 k1 k3 k4 k5
    have aeD:Below W.heap.size W W.drew:=(Below.refl _ _).drew
    obtain⟨W0,hW0⟩:∃ W_,W_=W.drew:=⟨_,rfl⟩
    rw[<-hW0]at kW aeD ⊢
    clear hW0
    refine uG rfl ?_
    gi_wp2_with fail
    refine⟨trivial,rfl,?_⟩
    refine(callsIn_wide.2 (bfR l t hlm.sm hfn _)).mono ?_
    rintro e w1 ⟨rfl,hbq⟩
    have aK2:=kW.step hbq
    have hBw1:Below W.heap.size W w1:=aeD.trans (hbq.mono aeD.size)
    clear hbq
    gi_wp2
    refine⟨aK2,?_⟩
    refine uG rfl ?_
    gi_wp2_with fail
    refine⟨trivial,rfl,?_⟩
    refine(callsIn_wide.2 (aD0 s (aaH l t) _)).mono ?_
    rintro e w2 ⟨rfl,hbq⟩
    have aV7:=aK2.step hbq
    have hBw2:Below W.heap.size W w2:=hBw1.trans (hbq.mono hBw1.size)
    clear hbq
    gi_wp2
    refine⟨aV7,?_⟩
    rw[<-hfs.out]
    show wpListIn _ _ _ _ _ _ _ _
    simp only[List.drop_succ_cons,List.drop_zero]
    have hs2:=hp2.step hBw2
    have q:=mP.aaG (n:=ls.length+1) hs2.o6 (by simp[ah4]) x (by omega)
    have e0:=q.1
    have e1:=q.2.1
    have f0:=q.2.2 (x*2)
    have f1:=q.2.2 (x*2+1)
    have k0:(x:Int)<(ls.length:Int)+1:=by omega
    clear q
    gi_wp2
    rw[yZ]
    clear e0 e1 f0 f1 k0 kW aK2 aV7
    have hs3:=hs2.bf1 hxn aKZ (by omega) Hfx.out
    have bl3:=abQ hs2.o6 (hbl.step hBw2) (.inl (by decide)) (x*2) (x*2+1) (.int .i64 fx.f0) (.int .i64 fx.f1)
    have bs3:=abQ hs2.o6 (hv.1.step hBw2) (.inl (by decide)) (x*2) (x*2+1) (.int .i64 fx.f0) (.int .i64 fx.f1)
    have kb3:iZ W ((w2.setCell ⟨g6,x*2,none⟩ (.int .i64 fx.f0)).setCell ⟨g6,x*2+1,none⟩ (.int .i64 fx.f1)):=(iZ.of_below hBw2).trans ((iZ.setCell _ _ _).trans (iZ.setCell _ _ _))
    obtain⟨w3,hw3⟩:∃ W_,(w2.setCell ⟨g6,x*2,none⟩ (.int .i64 fx.f0)).setCell ⟨g6,x*2+1,none⟩ (.int .i64 fx.f1)=W_:=⟨_,rfl⟩
    rw[hw3]at hs3 bl3 bs3 kb3 ⊢
    clear hw3 hs2 hp2 hbl hv
    have q:=mP.aaG (n:=ls.length+1) hs3.o6 (by simp[ah4]) x (by omega)
    have q':=mP.aaG (n:=ls.length+1) hs3.o6 (by simp[ah4]) (x+1) (by omega)
    rw[aqV _ _ _ (by omega),if_neg (by omega),Hfx.out]at q
    rw[aqV _ _ _ (by omega),if_neg (by omega),Ht.out]at q'
    have hC3:afS (w.heap.size+1) (w.heap.size+1+1+1+1+1) bl g6 gc ls.length (ls.length+1) c6 x l fx t w3:=
     ⟨bl3.cell 0 rfl,bl3.cell 1 rfl,bl3.cell 2 rfl,bl3.cell 3 rfl,hs3.x6.cell 0 rfl,hs3.x2.cell 0 rfl,q.1,q.2.1,q'.1,q'.2.1⟩
    have kW:afS (w.heap.size+1) (w.heap.size+1+1+1+1+1) bl g6 gc ls.length (ls.length+1) c6 x l fx t w3.drew:=hC3
    clear q q' hC3
    gi_wp2
    have k0:(x:Int)<(ls.length:Int)+1:=by omega
    have k1:(x:Int)+1<(ls.length:Int)+1:=by omega
    have k3:(0:Int)<=(x:Int)+1:=by omega
    have k4:IntKind.i64.wrap ((x:Int)+1)=(x:Int)+1:=IntWalk.i64_in _ (by omega)
    have k5:((x:Int)+1).toNat=x+1:=by omega
    refine aaF 16 [(0,true),(1,true),(2,true),(3,true),(4,true),(5,true),(6,true),(7,true),(8,true),(9,true),(10,true),(11,true),(12,true),(13,true),(14,false),(15,false)] (afS (w.heap.size+1) (w.heap.size+1+1+1+1+1) bl g6 gc ls.length (ls.length+1) c6 x l fx t) (rZ.of (by kernel_rfl)) rfl (by kernel_rfl) kW ?_
    iterate 14 (apply FD rfl (fun _=>rfl) (by assumption);focus(intro K hK w' hw';obtain⟨g0,g1,g2,g3,g4,g5,g6,g7,g8,g9⟩:=hw';go_simp;exact hK))
    clear k0 k1 k3 k4 k5
    have aK3:Below w3.heap.size w3 w3.drew:=(Below.refl _ _).drew
    obtain⟨y0,hy0⟩:∃ W_,W_=w3.drew:=⟨_,rfl⟩
    rw[<-hy0]at kW aK3 ⊢
    have bgC:=kW
    clear hy0 kW
    refine uG rfl ?_
    gi_wp2_with fail
    refine⟨trivial,rfl,?_⟩
    refine(callsIn_wide.2 (bfS l fx t hfx hfn _)).mono ?_
    rintro e y1 ⟨rfl,hbq⟩
    have aWA:=bgC.step hbq
    have aWB:Below w3.heap.size w3 y1:=aK3.trans (hbq.mono aK3.size)
    clear hbq
    gi_wp2
    refine⟨aWA,?_⟩
    refine uG rfl ?_
    gi_wp2_with fail
    refine⟨trivial,rfl,?_⟩
    refine(callsIn_wide.2 (aD0 l.f0 (abP l fx t) _)).mono ?_
    rintro e y2 ⟨rfl,hbq⟩
    have bgD:=aWA.step hbq
    have aK4:Below w3.heap.size w3 y2:=aWB.trans (hbq.mono aWB.size)
    clear hbq
    gi_wp2
    refine⟨bgD,?_⟩
    rw[<-Hcs.out]
    show wpListIn _ _ _ _ _ _ _ _
    simp only[List.drop_succ_cons,List.drop_zero]
    have hs4:=hs3.step aK4
    have q:=mP.aaG (n:=ls.length) hs4.oc (by simp[aVW]) x (by omega)
    have e0:=q.1
    have e1:=q.2.1
    have f0:=q.2.2 (x*2)
    have f1:=q.2.2 (x*2+1)
    clear q
    gi_wp2
    rw[yZ]
    have hs5:=hs4.bf2 hxn aKZ (by omega) rfl
    have bs5:=abQ hs4.oc (bs3.step aK4) (.inl (by decide)) (x*2) (x*2+1) (.int .i64 (AY M ls x).f0) (.int .i64 (AY M ls x).f1)
    have kb5:=kb3.trans ((iZ.of_below aK4).trans ((iZ.setCell y2 ⟨gc,x*2,none⟩ (.int .i64 (AY M ls x).f0)).trans (iZ.setCell _ ⟨gc,x*2+1,none⟩ (.int .i64 (AY M ls x).f1))))
    clear e0 e1 f0 f1
    gi_wp2
    exact⟨kb5,⟨bs5,Kd.bJ hr hs5.hb⟩,by simp;omega,by simp;rw[show ls.length - (pre.length+1)=x by omega];exact hs5⟩
   case done=>
    rintro D W hD ⟨_,hp2⟩ hv hK
    rw[List.length_reverse,List.length_range,Nat.sub_self]at hp2
    have HR2:Hid (R=(CL M ls 0,gU M ls ls.length,true)):=Lib.hid (by
     rw[<-HR.out,fE,if_pos hok.out]
     unfold CL
     simp)
    have q:=mP.aaG (n:=ls.length+1) hp2.o6 (by simp[ah4]) ls.length (by omega)
    rw[aqV _ _ _ (Nat.le_refl _),if_neg (by omega),aqS]at q
    obtain⟨s,hs⟩:∃ s,gU M ls ls.length=s:=⟨_,rfl⟩
    have Hs:=Lib.hid hs
    rw[hs]at q HR2
    have hC:aKX w.heap.size (w.heap.size+1) (w.heap.size+1+1+1+1+1) g6 gc ls.length (ls.length+1) c6 c A s W:=
     ⟨hp2.x1.cell 1 rfl,hp2.x6.cell 0 rfl,hp2.x2.cell 0 rfl,q.1,q.2.1⟩
    have kW:aKX w.heap.size (w.heap.size+1) (w.heap.size+1+1+1+1+1) g6 gc ls.length (ls.length+1) c6 c A s W.drew:=hC
    clear hC q hs hlt hk
    gi_wp2
    have k0:(ls.length:Int)<(ls.length:Int)+1:=by omega
    refine aaF 8 [(0,true),(1,true),(2,true),(3,true),(4,true),(5,true),(6,true),(7,false)] (aKX w.heap.size (w.heap.size+1) (w.heap.size+1+1+1+1+1) g6 gc ls.length (ls.length+1) c6 c A s) (rZ.of (by kernel_rfl)) rfl (by kernel_rfl) kW ?_
    iterate 7 (apply FD rfl (fun _=>rfl) (by assumption);focus(intro K hK w' hw';obtain⟨g0,g1,g2,g3,g4⟩:=hw';go_simp;exact hK))
    clear k0
    have z2:W.drew.cell? ⟨w.heap.size+1,0,none⟩=some (.slice (some ⟨gc,0,none⟩) ls.length ls.length):=hp2.x2.cell 0 rfl
    have z3:W.drew.frozen? ⟨w.heap.size+1,0,none⟩=false:=hp2.x2.frozen 0
    refine uG rfl ?_
    gi_wp2
    have hs7:VJ w M ls A c g6 c6 gc 0 0 (W.setCell ⟨w.heap.size+1,0,none⟩ (.slice (some ⟨gc,0,none⟩) ls.length ls.length)).drew:=
     ⟨(hp2.x1.other (by omega) _ _).drew,(hp2.x2.set 0 _).drew,(hp2.x3.other (by omega) _ _).drew,(hp2.x6.other (by omega) _ _).drew,ZC hp2.o6 hp2.x2 (by decide) 0 _,ZC hp2.oc hp2.x2 (by decide) 0 _,(hp2.hb.setCell (p:=⟨w.heap.size+1,0,none⟩) (by simp) _).drew⟩
    have hK7:(W.setCell ⟨w.heap.size+1,0,none⟩ (.slice (some ⟨gc,0,none⟩) ls.length ls.length)).drew.heap[D]? =some (.deferred (some [])):=iZ.setCell W ⟨w.heap.size+1,0,none⟩ _ _ _ hK rfl
    obtain⟨W7,hW7⟩:∃ W_,(W.setCell ⟨w.heap.size+1,0,none⟩ (.slice (some ⟨gc,0,none⟩) ls.length ls.length)).drew=W_:=⟨_,rfl⟩
    rw[hW7]at hs7 hK7 ⊢
    clear hW7 z2 z3 kW hp2 hv hK
    have q:=mP.aaG (n:=ls.length+1) hs7.o6 (by simp[ah4]) ls.length (by omega)
    rw[aqV _ _ _ (Nat.le_refl _),if_neg (by omega),aqS,Hs.out]at q
    refine⟨⟨hs7.x1.cell 1 rfl,hs7.x6.cell 0 rfl,hs7.x2.cell 0 rfl,q.1,q.2.1⟩,?_⟩
    show wpListIn _ _ _ _ _ _ _ _
    simp only[List.drop_succ_cons,List.drop_zero]
    have e0:W7.cell? ⟨w.heap.size+1+1,0,none⟩=some (.int .i64 0):=hs7.x3.cell 0 rfl
    have e1:W7.cell? ⟨w.heap.size+1+1,1,none⟩=some (.int .i64 0):=hs7.x3.cell 1 rfl
    have f0:=hs7.x3.frozen 0
    have f1:=hs7.x3.frozen 1
    clear q
    gi_wp2
    rw[yZ]
    have y2:=(hs7.x2.other (b':=w.heap.size+1+1) (by omega) 0 (.int .i64 s.f0)).other (b':=w.heap.size+1+1) (by omega) 1 (.int .i64 s.f1)
    have y3:=(hs7.x3.set 0 (.int .i64 s.f0)).set 1 (.int .i64 s.f1)
    have XC:=(hs7.hb.setCell (p:=⟨w.heap.size+1+1,0,none⟩) (by simp;omega) (.int .i64 s.f0)).setCell (p:=⟨w.heap.size+1+1,1,none⟩) (by simp;omega) (.int .i64 s.f1)
    have hgc4:=(World.ownsRow.lt hs7.oc gc (by simp[Value.ownBlock])).1
    have oc8:=am2 (am2 hs7.oc (b:=w.heap.size+1+1) (by simp[Value.ownBlock];omega) 0 (.int .i64 s.f0)) (b:=w.heap.size+1+1) (by simp[Value.ownBlock];omega) 1 (.int .i64 s.f1)
    have hK8:=iZ.setCell _ ⟨w.heap.size+1+1,1,none⟩ (.int .i64 s.f1) _ _ (iZ.setCell _ ⟨w.heap.size+1+1,0,none⟩ (.int .i64 s.f0) _ _ hK7 rfl) rfl
    clear e0 e1 f0 f1
    gi_wp2
    have hi8:=nM.putObj (B:=Wb.heap.size) (o':=.deferred none) hK8 hD rfl
    refine beW _ hK8 (aVX _ _ _ _ _ _ s rfl rfl rfl (hi8.box y2) (hi8.box y3)) ?_
    rw[HR2.out]
    exact⟨_,rfl,ah3 (aKU oc8 hi8) (by omega),nM.below XC (by omega) (Nat.le_refl _) hi8⟩
   case stop=>
    rintro D c pre W _ _ h _
    exact h.elim
end Go.Proofs.YtcmfnebcmmklkaaDoor.Hand
namespace Go.Proofs.YtcmfnebcmmklkaaDoor.Q
open Go.RowKit Go.Proofs.YtcmfnebcmmklkaaDoorW.dQ Go.Proofs.YtcmfnebcmmklkaaDoorW.oU Go.Proofs.YtcmfnebcmmklkaaDoorW.gG
def aK5 (x:dR):Bool:=decide (0<=x.f0.f0)&&decide (x.f0.f0<=x.f0.f1)&&decide (x.f0.f1<=144)
def avC (a0:Int) (l:List dR):Bool:=decide (0<=a0)&&decide (a0<=144)&&l.all aK5&&decide (l.length<=8)
def abS.f (bV:Int) (aC:List (dR)):Option ((List (aH))×Int×Int×Bool):=
 if avC bV aC=true then some ((Hand.fE bV aC).1,(Hand.fE bV aC).2.1.f0,(Hand.fE bV aC).2.1.f1,(Hand.fE bV aC).2.2)else none
theorem bgH {a0:Int} {l:List dR} (h:avC a0 l=true):(0<=a0/\a0<=144)/\(∀ x∈l,Hand.uH x)/\l.length<=8:=by
 unfold avC at h
 simp only[Bool.and_eq_true,decide_eq_true_iff,List.all_eq_true]at h
 refine⟨⟨h.1.1.1,h.1.1.2⟩,fun x hx=>?_,h.2⟩
 have:=h.1.2 x hx
 unfold aK5 at this
 simp only[Bool.and_eq_true,decide_eq_true_iff]at this
 unfold Hand.uH
 omega
theorem abS.calls (bV:Int) (aT:Option Addr) (aJ:Nat) (aC:List (dR)) (r1:List (aH)) (r2:Int) (r3:Int) (r4:Bool) (w:World) (jE:Kd.C QX w aT aC.length aC) (jS:aC.length<=aJ) (h:abS.f bV aC=some (r1,r2,r3,r4)):
  Calls Tryd.prog 119 #[.agg #[.int .i64 bV,.slice aT aC.length aJ]] w fun e w'=>∃ iG:Value,e=.returned (.tuple #[iG,.agg #[.int .i64 r2,.int .i64 r3],.bool r4])/\Kd.R iD 42 w' w.heap.size (fun _=>True) iG r1/\Below w.heap.size w w':=by
 unfold abS.f at h
 split at h
 ·rename_i hg
  obtain⟨h1,h2,h3⟩:=bgH hg
  simp only[Option.some.injEq,Prod.mk.injEq]at h
  obtain⟨rfl,rfl,rfl,rfl⟩:=h
  exact(Hand.bf3 bV h1 aC h2 h3 aT aJ w jE).mono fun e w' ⟨v,e1,e2,e3⟩=>⟨v,e1,e2.R,e3⟩
 ·cases h
end Go.Proofs.YtcmfnebcmmklkaaDoor.Q
