/- What the laws of chapter 9 share: words about rows and regions, the walks of the package dozen, and that known returns true. Part 15 of 16. -/
import Derived.Test.YtcmfnebcmmklkaaDoorK11
import Derived.Test.YtcmfnebcmmklkaaDoorK13
import Derived.Test.YtcmfnebcmmklkaaDoorK14
import Derived.Test.YtcmfnebcmmklkaaDoorK9
set_option linter.unusedVariables false
set_option linter.unusedSimpArgs false
set_option maxRecDepth 100000
set_option maxHeartbeats 8000000
namespace Go.Proofs.YtcmfnebcmmklkaaDoor.Hand
open Go.RowKit Go.Shelf Go.Proofs.YtcmfnebcmmklkaaDoorW.dQ Go.Proofs.YtcmfnebcmmklkaaDoorW.gG Go.Proofs.YtcmfnebcmmklkaaDoor.Q
attribute [local go_sem] Oper.semAt_some run_store_func undef
def xE (L:List aH) (m:Int) (l:List Int):Int:=l.foldl (fun r o=>r - (bM L o).f1) m
theorem aF8 (L:List aH) (m:Int) (l:List Int) (o:Int):xE L m (l++[o])=xE L m l - (bM L o).f1:=by
 unfold xE
 rw[List.foldl_append]
 rfl
def ar7 (L1 L2:List aH) (m n:Int) (l best:List Int):Bool:=
 decide (0<=xE L1 m l)&&(decide (0<=xE L2 n l)&&(decide (best.length<l.length)||(decide (l.length=best.length)&&decide (cmpL l best<0))))
def EJ (L1 L2:List aH) (m n:Int):Nat->List Int
 |0=>[]
 |s+1=>if ar7 L1 L2 m n (iQ s) (EJ L1 L2 m n s)=true then iQ s else EJ L1 L2 m n s
def QP (os:List aZ) (ls:List aI) (m n:Int):Int:=if(oG os ls).2.2.2.2=0 then(if allIn 0 1000 [m,n]=true then 0 else 3)else(oG os ls).2.2.2.2
def QQ (os:List aZ) (ls:List aI) (m n:Int):List Int:=if(oG os ls).2.2.2.2=0/\allIn 0 1000 [m,n]=true then EJ (oG os ls).1 (oG os ls).2.2.1 m n (2^os.length)else[]
theorem boJ (L1 L2:List aH) (m n:Int):∀ s,s<=256->(EJ L1 L2 m n s).length<=8:=by
 intro s
 induction s with
 |zero=>intro _;exact Nat.zero_le _
 |succ s ih=>
  intro h
  unfold EJ
  split
  ·exact agA s h
  ·exact ih (Nat.le_of_succ_le h)
theorem boK {os:List aZ} {ls:List aI} (h:(oG os ls).2.2.2.2=0):os.length<=5/\(oG os ls).1.length=os.length/\(oG os ls).2.2.1.length=os.length/\
  (∀ i:Nat,i<os.length->0<=(bM (oG os ls).1 i).f1/\(bM (oG os ls).1 i).f1<=144)/\(∀ i:Nat,i<os.length->0<=(bM (oG os ls).2.2.1 i).f1/\(bM (oG os ls).2.2.1 i).f1<=144):=by
 have hc:oP os ls=0:=by
  unfold oG at h
  split at h
  ·assumption
  ·rename_i hq;exact absurd h hq
 have ht:vZ os ls 0=true:=by
  unfold oG at h
  rw[if_pos hc]at h
  split at h
  ·assumption
  ·cases h
 have e:oG os ls=(qP rJ qB os ls 0 os.length,zN rJ qB os ls 0 os.length,qP tC qQ os ls 0 os.length,zN tC qQ os ls 0 os.length,0):=by
  unfold oG
  rw[if_pos hc,if_pos ht]
 obtain⟨hL,hR⟩:=af4 hc
 unfold vZ at ht
 rw[Bool.and_eq_true,zO,zO]at ht
 rw[e]
 have key:∀ (od:aZ->Int) (sd:aI->aH),RZ od sd os ls->(∀ j,j<os.length->(iP od sd os ls 0 j).2.2=true)->∀ i:Nat,i<os.length->0<=(bM (qP od sd os ls 0 os.length) i).f1/\(bM (qP od sd os ls 0 os.length) i).f1<=144:=by
  intro od sd hk hj i hi
  have hM:=hk.ord i hi
  have:bM (qP od sd os ls 0 os.length) (i:Int)=af1 (od (dK os i)) (iP od sd os ls 0 i).2.1:=by
   unfold bM qP
   rw[Int.toNat_natCast]
   simp[List.getD_eq_getElem?_getD,hi]
  rw[this]
  have h1:=hj i hi
  unfold iP fE at h1 ⊢
  by_cases hok:yY (od (dK os i)) (kZ sd ls i 0 ls.length) (kZ sd ls i 0 ls.length).length=true
  ·rw[if_pos hok]
   have hb:=aVU hM hk.lots (kZ sd ls i 0 ls.length).length (Nat.le_refl _)
   have hb3:=hb.2.2 hok
   show 0<=od (dK os i) - (gU (od (dK os i)) (kZ sd ls i 0 ls.length) (kZ sd ls i 0 ls.length).length).f0/\od (dK os i) - (gU (od (dK os i)) (kZ sd ls i 0 ls.length) (kZ sd ls i 0 ls.length).length).f0<=(144:Int)
   obtain⟨hb1,hb2,_⟩:=hb
   constructor<;>omega
  ·rw[if_neg hok]at h1
   cases h1
 exact⟨(FM hc).1.2,aaO _ _ _ _ _ _,aaO _ _ _ _ _ _,key rJ qB hL ht.1,key tC qQ hR ht.2⟩
theorem a0Z {L:List aH} {k:Nat} (hL:∀ i:Nat,i<k->0<=(bM L i).f1/\(bM L i).f1<=144) {m:Int} (hm:0<=m/\m<=1000):∀ (l:List Int),(∀ o∈l,0<=o/\o<(k:Int))-> -(144*(l.length:Int))<=xE L m l/\xE L m l<=1000:=by
 intro l hl
 obtain⟨q,hq⟩:∃ q,l.reverse=q:=⟨_,rfl⟩
 obtain rfl:l=q.reverse:=by rw[<-hq,List.reverse_reverse]
 clear hq
 induction q with
 |nil=>exact⟨by simp[xE];omega,by simp[xE];omega⟩
 |cons o q ih=>
  rw[List.reverse_cons]at hl ⊢
  obtain⟨h1,h2⟩:=ih fun x hx=>hl x (List.mem_append_left _ hx)
  obtain⟨h3,h4⟩:=hl o (by simp)
  have h5:=hL o.toNat (by omega)
  rw[Int.toNat_of_nonneg h3]at h5
  rw[aF8,List.length_append]
  simp only[List.length_cons,List.length_nil]
  constructor<;>omega
structure agK (b13 bT:Nat) (x0 x1:Int) (v0 v1 v2 v3:Value) (a1 a2:Addr) (y1 y2:Int) (W:World):Prop where
 g0:W.cell? ⟨b13,0,none⟩=some (.int .i64 x0)
 g1:W.cell? ⟨b13,1,none⟩=some (.int .i64 x1)
 g2:W.cell? ⟨bT,0,none⟩=some v0
 g3:W.cell? ⟨bT,1,none⟩=some v1
 g4:W.cell? ⟨bT,2,none⟩=some v2
 g5:W.cell? ⟨bT,3,none⟩=some v3
 g6:W.cell? ⟨a1.block,a1.off+1,none⟩=some (.int .i64 y1)
 g7:W.cell? ⟨a2.block,a2.off+1,none⟩=some (.int .i64 y2)
theorem agK.step {b13 bT:Nat} {x0 x1:Int} {v0 v1 v2 v3:Value} {a1 a2:Addr} {y1 y2:Int} {W W':World} (h:agK b13 bT x0 x1 v0 v1 v2 v3 a1 a2 y1 y2 W) (hb:Below W.heap.size W W'):agK b13 bT x0 x1 v0 v1 v2 v3 a1 a2 y1 y2 W':=
 ⟨jW hb h.g0,jW hb h.g1,jW hb h.g2,jW hb h.g3,jW hb h.g4,jW hb h.g5,jW hb h.g6,jW hb h.g7⟩
theorem a1A {x:Int} {k:Nat} (h: -(144*(k:Int))<=x/\x<=1000) (hk:k<=8):wrap64 x=x:=jF (by omega) (by omega)
theorem le2 {i:Nat} (h:i<=2):i=0∨i=1∨i=2:=by omega
theorem aF9 {W W':World} {ad:Addr} {L:List aH} (h:Kd.C iD W (some ad) L.length L) (hb:Below W.heap.size W W') (o:Int) (h0:0<=o) (h1:o<L.length):W'.cell? ⟨(ad.add (o.toNat*2)).block,(ad.add (o.toNat*2)).off+1,none⟩=some (.int .i64 (bM L o).f1):=by
 obtain⟨ad',hA,_,u⟩:=rE (Kd.bJ h hb) o h0 h1
 obtain rfl:=Option.some.inj hA
 exact u
theorem boM {s M:Nat} (h:s<M) (hM:M<=32):IntKind.u64.wrap ((s:Int)+1)=((s+1:Nat):Int):=by
 rw[IntWalk.u64_in]<;>omega
theorem mes {s M:Nat} (h:s<M) (hw:IntKind.u64.wrap ((s:Int)+1)=((s+1:Nat):Int)):M - (intOf (Value.int .u64 (IntKind.u64.wrap ((s:Int)+1)))).toNat<M - (intOf (Value.int .u64 (s:Int))).toNat:=by
 rw[hw]
 show M - (s+1)<M - s
 exact Nat.sub_succ_lt_self _ _ h
theorem boN {m n:Int} (h:allIn 0 1000 [m,n]=true):(0<=m/\m<=1000)/\(0<=n/\n<=1000):=by
 simp[allIn,xR]at h
 omega
theorem boO {k:Nat} (h:k<=5):2^k<=32:=Nat.le_trans (Nat.pow_le_pow_right (by decide) h) (by decide)
theorem boP (os:List aZ) (ls:List aI) (m n:Int) (A0 A1:Option Addr) (c0 c1:Nat) (w:World) (hT:lZ w) (hr0:Kd.C iJ w A0 os.length os) (hc0:os.length<=c0) (hr1:Kd.C iE w A1 ls.length ls) (hc1:ls.length<=c1):
  Calls Tryd.prog 31 #[.agg #[.slice A0 os.length c0,.slice A1 ls.length c1],.int .i64 m,.int .i64 n] w fun e w'=>∃ v,e=.returned (.tuple #[v,.int .i64 (QP os ls m n)])/\eH w' w.heap.size v (QQ os ls m n)/\Below w.heap.size w w':=by
 have hop:=Lib.hid (fun(W:World) (hb:Below w.heap.size w W)=>aaM.calls 61 A0 c0 os A1 c1 ls (oG os ls).1 (oG os ls).2.1 (oG os ls).2.2.1 (oG os ls).2.2.2.1 (oG os ls).2.2.2.2 W (Kd.bJ hr0 hb) hc0 (Kd.bJ hr1 hb) hc1 (aX4 os ls 61 (Nat.le_refl _)))
 refine(callsIn_wide (n:=0)).1 ?_
 refine callsIn_of_wp Tryd.func31 rfl trivial ?_
 simp only[Tryd.ntmps31,List.size_toArray,List.length_cons,List.length_nil,Nat.reduceAdd,Nat.reduceSub,Array.replicate_succ,Array.replicate_zero,List.push_toArray,List.append_toArray,List.nil_append,List.cons_append]
 obtain⟨Wa,hWa⟩:∃ Wa,w.alloc (.cells #[.slice A0 os.length c0,.slice A1 ls.length c1] 25)=Wa:=⟨_,rfl⟩
 have hba:Below w.heap.size w Wa:=by rw[<-hWa];exact(Below.refl _ _).alloc (Nat.le_refl _) _
 have hB0:Box Wa w.heap.size #[.slice A0 os.length c0,.slice A1 ls.length c1] 25:=by rw[<-hWa];exact Box.new _ _ _
 have q0:Wa.cell? ⟨w.heap.size,0,none⟩=some (.slice A0 os.length c0):=hB0.cell 0 rfl
 have q1:Wa.cell? ⟨w.heap.size,1,none⟩=some (.slice A1 ls.length c1):=hB0.cell 1 rfl
 gi_wp2_with fail
 try rw[hWa]
 refine⟨trivial,rfl,?_⟩
 refine(callsIn_wide.2 (hop.out Wa hba)).mono ?_
 rintro e w1 ⟨v0,v1,v2,v3,rfl,h0,h1,h2,h3,hb1⟩
 have hB1:=hba.trans (hb1.mono hba.size)
 have hX1:=hB0.step hb1
 obtain⟨B0,d0,rfl,_,g0⟩:=Kd.uK h0
 obtain⟨B1,d1,rfl,_,_⟩:=Kd.uK h1
 obtain⟨B2,d2,rfl,_,g2⟩:=Kd.uK h2
 obtain⟨B3,d3,rfl,_,_⟩:=Kd.uK h3
 obtain⟨er,her⟩:∃ er,(oG os ls).2.2.2.2=er:=⟨_,rfl⟩
 have Her:=Lib.hid her
 rw[her]
 clear h0 h1 h2 h3 hb1 hba hB0 q0 q1 hWa hop
 by_cases he:er=0
 ·have hok:=Lib.hid (boK (her.trans he))
  have HE:=Lib.hid (her.trans he)
  subst he
  clear her Her
  obtain⟨L1,hL1⟩:∃ x,(oG os ls).1=x:=⟨_,rfl⟩
  obtain⟨L2,hL2⟩:∃ x,(oG os ls).2.2.1=x:=⟨_,rfl⟩
  obtain⟨n1,hn1⟩:∃ x,(oG os ls).2.1.length=x:=⟨_,rfl⟩
  obtain⟨n3,hn3⟩:∃ x,(oG os ls).2.2.2.1.length=x:=⟨_,rfl⟩
  rw[hn1,hn3]
  rw[hL1,hL2]at hok ⊢
  rw[hL1]at g0
  rw[hL2]at g2
  have HL1:=Lib.hid hL1
  have HL2:=Lib.hid hL2
  obtain⟨W2,hW2⟩:∃ W2,w1.alloc (.cells #[.slice B0 L1.length d0,.slice B1 n1 d1,.slice B2 L2.length d2,.slice B3 n3 d3] 125)=W2:=⟨_,rfl⟩
  have hb2:Below w1.heap.size w1 W2:=by rw[<-hW2];exact(Below.refl _ _).alloc (Nat.le_refl _) _
  have hX2:Box W2 w1.heap.size #[.slice B0 L1.length d0,.slice B1 n1 d1,.slice B2 L2.length d2,.slice B3 n3 d3] 125:=by rw[<-hW2];exact Box.new _ _ _
  have hB2:=hB1.trans (hb2.mono hB1.size)
  have hY2:=hX1.step hb2
  have G0:=Kd.bJ g0 hb2
  have G2:=Kd.bJ g2 hb2
  have HW2:=Lib.hid hW2
  clear hL1 hL2 hn1 hn3 hb2 hW2 g0 g2 hX1
  gi_wp2_with fail
  rw[HW2.out]
  refine⟨trivial,rfl,?_⟩
  have hsz:W2.heap.size=w1.heap.size+1:=by rw[<-HW2.out];simp
  refine(callsIn_wide.2 (GK 0 1000 [m,n] _ 2 _ (auV W2 m n 3 _ hsz))).mono ?_
  rintro e W3 ⟨rfl,hb3⟩
  have ar9:Below W2.heap.size W2 W3:=((Below.refl _ _).alloc (Nat.le_refl _) _).trans (hb3.mono (by simp))
  obtain⟨wb,hwb⟩:∃ wb,allIn 0 1000 [m,n]=wb:=⟨_,rfl⟩
  rw[hwb]
  have hB3:=hB2.trans (ar9.mono hB2.size)
  have hX3:=hX2.step ar9
  have hY3:=hY2.step ar9
  have G03:=Kd.bJ G0 ar9
  have G23:=Kd.bJ G2 ar9
  clear hb3 ar9 HW2 hsz hX2 hY2 G0 G2 hB2
  cases wb
  ·have hE:Hid (QP os ls m n=3):=Lib.hid (by unfold QP;rw[if_pos HE.out,hwb];rfl)
   have hL:Hid (QQ os ls m n=[]):=Lib.hid (by unfold QQ;rw[if_neg (fun h=>Bool.false_ne_true (hwb.symm.trans h.2))])
   clear hwb hX3 hY3 G03 G23 hok
   gi_wp2_with fail
   refine bodyPost_ret (v:=.tuple #[.slice none 0 0,.int .i64 3]) (by simp[results,Tryd.results31,go_sem]) rfl ?_
   exact⟨_,by rw[hE.out],by rw[hL.out];exact eH.nil _ _,hB3⟩
  ·have hE:Hid (QP os ls m n=0):=Lib.hid (by unfold QP;rw[if_pos HE.out,if_pos hwb])
   have hL:Hid (QQ os ls m n=EJ L1 L2 m n (2^os.length)):=Lib.hid (by unfold QQ;rw[if_pos ⟨HE.out,hwb⟩,HL1.out,HL2.out])
   have hmn:=Lib.hid (boN hwb)
   obtain⟨M,hM⟩:∃ M,2^os.length=M:=⟨_,rfl⟩
   have aOL:=Lib.hid (hM ▸ boO hok.out.1:M<=32)
   have hwr:IntKind.u64.wrap (2^min os.length 64)=((M:Nat):Int):=by
    rw[Nat.min_eq_left (Nat.le_trans hok.out.1 (by decide)),show((2:Int)^os.length)=((2^os.length:Nat):Int) by simp,hM]
    exact aE4 M (Nat.lt_of_le_of_lt aOL.out (by decide))
   rw[hM]at hL
   have HM:=Lib.hid hM
   have q0:W3.cell? ⟨w.heap.size,0,none⟩=some (.slice A0 os.length c0):=hY3.cell 0 rfl
   have hTT:=hT.below hB3
   clear hwb hM
   gi_wp2
   clear hwr q0
   gi_loopw [10,36] (fun bv iv wr=>∃ s:Nat,s<=M/\iv=.int .u64 s/\eH wr w.heap.size bv (EJ L1 L2 m n s)/\Below W3.heap.size W3 wr) (fun _ iv _=>M - (intOf iv).toNat)
   case atStart=>exact⟨0,Nat.zero_le _,rfl,eH.nil _ _,Below.refl _ _⟩
   case round=>
    obtain⟨s,hs,rfl,ho,hB⟩:=hrel
    obtain⟨Ab,cb,rfl⟩:=eH.slice ho
    by_cases hlt:s<M
    ·have hs8:s<256:=Nat.lt_of_lt_of_le hlt (Nat.le_trans aOL.out (by decide))
     have hl:=Lib.hid (awX s hs8 wr (hTT.below hB))
     have hsx:(s:Int)<(M:Int):=Int.ofNat_lt.2 hlt
     gi_wp2_with fail
     refine⟨trivial,rfl,?_⟩
     refine(callsIn_wide.2 hl.out).mono ?_
     rintro e w2 ⟨v2,rfl,ho2,-,hb5⟩
     have wX:=hB.trans (hb5.mono hB.size)
     have hwz:=Lib.hid hB.size
     have XY:=eH.below' ho hb5
     have hln:=Lib.hid (agA s hs8)
     have hin:=Lib.hid (fun c (hc:c∈iQ s)=>a0P hok.out.1 (by rw[HM.out];exact hlt) hc)
     have hfs:Hid (EJ L1 L2 m n (s+1)=if ar7 L1 L2 m n (iQ s) (EJ L1 L2 m n s)=true then iQ s else EJ L1 L2 m n s):=Lib.hid rfl
     have hbl:=Lib.hid (boJ L1 L2 m n s (Nat.le_of_lt hs8))
     obtain⟨l,hle⟩:∃ l,iQ s=l:=⟨_,rfl⟩
     obtain⟨bst,hbe⟩:∃ l,EJ L1 L2 m n s=l:=⟨_,rfl⟩
     rw[hle]at ho2 hln hin hfs
     rw[hbe]at XY hfs hbl ⊢
     obtain⟨Al,cl,rfl⟩:=eH.slice ho2
     obtain⟨W5,hW5⟩:∃ W5,w2.alloc (.cells #[.int .i64 m,.int .i64 n] 86)=W5:=⟨_,rfl⟩
     have hb6:Below w2.heap.size w2 W5:=by rw[<-hW5];exact(Below.refl _ _).alloc (Nat.le_refl _) _
     have hx0:Box W5 w2.heap.size #[.int .i64 (xE L1 m (l.take 0)),.int .i64 (xE L2 n (l.take 0))] 86:=by rw[<-hW5];exact Box.new _ _ _
     have HW5:=Lib.hid hW5
     have HS:=Lib.hid hlt
     clear hl hle hbe hW5 hb5 ho hB hs8 hs
     gi_wp2
     rw[HW5.out]
     have hl2:=eH.C ho2
     gi_loopw [46] (fun jv wr=>∃ j:Nat,j<=l.length/\jv=.int .i64 j/\Box wr w2.heap.size #[.int .i64 (xE L1 m (l.take j)),.int .i64 (xE L2 n (l.take j))] 86/\Below w2.heap.size w2 wr) (fun jv _=>l.length - (intOf jv).toNat)
     case atStart=>exact⟨0,Nat.zero_le _,rfl,hx0,hb6⟩
     case round=>
      obtain⟨j,hj,rfl,hx,hB7⟩:=hrel
      clear hx0 hb6
      by_cases hjl:j<l.length
      ·have hjx:(j:Int)<(l.length:Int):=Int.ofNat_lt.2 hjl
       have hj0:(0:Int)<=(j:Int):=Int.natCast_nonneg j
       obtain⟨al,hAl,a1⟩:=Kd.BL (Kd.bJ hl2 hB7) (j:Int) hj0 hjx
       subst hAl
       rw[Int.toNat_natCast]at a1
       have hcm:rd l (j:Int)∈l:=by
        unfold rd
        rw[Int.toNat_natCast]
        exact getD_mem (by simpa using hjl) _
       have hob:=hin.out _ hcm
       have htk:l.take (j+1)=l.take j++[rd l (j:Int)]:=by
        unfold rd
        rw[Int.toNat_natCast,List.take_succ_eq_append_getElem hjl]
        simp[List.getD_eq_getElem?_getD,hjl]
       have hr1:Hid (xE L1 m (l.take (j+1))=xE L1 m (l.take j) - (bM L1 (rd l (j:Int))).f1):=Lib.hid (by rw[htk,aF8])
       have hr2:Hid (xE L2 n (l.take (j+1))=xE L2 n (l.take j) - (bM L2 (rd l (j:Int))).f1):=Lib.hid (by rw[htk,aF8])
       have hbd1:=a0Z hok.out.2.2.2.1 hmn.out.1 (l.take (j+1)) (fun o ho=>hin.out o (List.mem_of_mem_take ho))
       have hbd2:=a0Z hok.out.2.2.2.2 hmn.out.2 (l.take (j+1)) (fun o ho=>hin.out o (List.mem_of_mem_take ho))
       have hwa:Hid (wrap64 (xE L1 m (l.take j) - (bM L1 (rd l (j:Int))).f1)=xE L1 m (l.take (j+1))):=Lib.hid (by rw[<-hr1.out];exact a1A hbd1 (by rw[List.length_take];exact Nat.le_trans (Nat.min_le_right _ _) hln.out))
       have hwb:Hid (wrap64 (xE L2 n (l.take j) - (bM L2 (rd l (j:Int))).f1)=xE L2 n (l.take (j+1))):=Lib.hid (by rw[<-hr2.out];exact a1A hbd2 (by rw[List.length_take];exact Nat.le_trans (Nat.min_le_right _ _) hln.out))
       obtain⟨o,hoe⟩:∃ o,rd l (j:Int)=o:=⟨_,rfl⟩
       rw[hoe]at a1 hob hwa hwb
       obtain⟨lH,hA1,_,u1⟩:=rE (Kd.bJ G03 (wX.trans (hB7.mono wX.size))) o hob.1 (by rw[hok.out.2.1];exact hob.2)
       obtain⟨rO,hA2,_,u2⟩:=rE (Kd.bJ G23 (wX.trans (hB7.mono wX.size))) o hob.1 (by rw[hok.out.2.2.1];exact hob.2)
       subst hA1
       subst hA2
       have ho0:=hob.1
       have ho1:o<(L1.length:Int):=by rw[hok.out.2.1];exact hob.2
       have wG:o<(L2.length:Int):=by rw[hok.out.2.2.1];exact hob.2
       obtain⟨y1,hy1⟩:∃ y,(bM L1 o).f1=y:=⟨_,rfl⟩
       obtain⟨y2,hy2⟩:∃ y,(bM L2 o).f1=y:=⟨_,rfl⟩
       obtain⟨x0,hx0⟩:∃ x,xE L1 m (l.take j)=x:=⟨_,rfl⟩
       obtain⟨x1,hx1⟩:∃ x,xE L2 n (l.take j)=x:=⟨_,rfl⟩
       obtain⟨z0,hz0⟩:∃ x,xE L1 m (l.take (j+1))=x:=⟨_,rfl⟩
       obtain⟨z1,hz1⟩:∃ x,xE L2 n (l.take (j+1))=x:=⟨_,rfl⟩
       rw[hy1]at u1 hwa
       rw[hy2]at u2 hwb
       rw[hx0]at hwa
       rw[hx1]at hwb
       rw[hx0,hx1]at hx
       rw[hz0]at hwa
       rw[hz1]at hwb
       have Hz0:=Lib.hid hz0
       have Hz1:=Lib.hid hz1
       have hwj:=Lib.hid (ar0 hjl hln.out)
       have hXr:=hX3.step (wX.trans (hB7.mono wX.size))
       have hxs:Box wr w2.heap.size #[.int .i64 (if 0<0 then z0 else x0),.int .i64 (if 1<0 then z1 else x1)] 86:=hx
       have hab:=Lib.hid (And.intro (Nat.ne_of_lt (World.block_lt_of_cell? _ _ (aF9 G03 wX o hob.1 (by rw[hok.out.2.1];exact hob.2)))) (Nat.ne_of_lt (World.block_lt_of_cell? _ _ (aF9 G23 wX o hob.1 (by rw[hok.out.2.2.1];exact hob.2)))))
       have hu1:=Lib.hid (aF9 G03 wX o hob.1 (by rw[hok.out.2.1];exact hob.2))
       have hu2:=Lib.hid (aF9 G23 wX o hob.1 (by rw[hok.out.2.2.1];exact hob.2))
       rw[hy1]at hu1
       rw[hy2]at hu2
       clear hbd1 hbd2 hr1 hr2 htk hcm hob hoe hy1 hy2 hx0 hx1 hz0 hz1 u1 u2
       gi_wp2
       gi_loopw [50] (fun iv wr=>∃ i:Nat,i<=2/\iv=.int .i64 i/\Box wr w2.heap.size #[.int .i64 (if 0<i then z0 else x0),.int .i64 (if 1<i then z1 else x1)] 86/\Below w2.heap.size w2 wr) (fun iv _=>2 - (intOf iv).toNat)
       case atStart=>exact⟨0,by decide,rfl,hxs,hB7⟩
       case round=>
        obtain⟨i,hi,rfl,hxi,XC⟩:=hrel
        have u1':=(XC.cell (World.block_lt_of_cell? _ _ hu1.out)).trans hu1.out
        have u2':=(XC.cell (World.block_lt_of_cell? _ _ hu2.out)).trans hu2.out
        have acS:=hX3.step (wX.trans (XC.mono wX.size))
        rcases le2 hi with rfl|rfl|rfl
        ·have kW:agK w2.heap.size w1.heap.size x0 x1 (.slice (some lH) L1.length d0) (.slice B1 n1 d1) (.slice (some rO) L2.length d2) (.slice B3 n3 d3) (lH.add (o.toNat*2)) (rO.add (o.toNat*2)) y1 y2 wr.drew:=
          agK.step ⟨hxi.cell 0 rfl,hxi.cell 1 rfl,acS.cell 0 rfl,acS.cell 1 rfl,acS.cell 2 rfl,acS.cell 3 rfl,u1',u2'⟩ ((Below.refl _ _).drew)
         have hBd:Below w2.heap.size w2 wr.drew:=XC.trans (((Below.refl _ _).drew).mono XC.size)
         have hxd:=hxi.drew
         have hfr:=hxd.frozen 0
         have aoI:Box wr.drew w2.heap.size #[.int .i64 x0,.int .i64 x1] 86:=hxd
         clear hxi u1' u2' acS XC
         gi_wp2
         refine aaF 13 [(0,true),(1,true),(2,true),(3,true),(4,true),(5,true),(6,true),(7,true),(8,true),(9,true),(10,true),(11,true),(12,true)] (agK w2.heap.size w1.heap.size x0 x1 (.slice (some lH) L1.length d0) (.slice B1 n1 d1) (.slice (some rO) L2.length d2) (.slice B3 n3 d3) (lH.add (o.toNat*2)) (rO.add (o.toNat*2)) y1 y2) (rZ.of (by kernel_rfl)) rfl (by kernel_rfl) kW ?_
         iterate 13 (apply FD rfl (fun _=>rfl) (by assumption);focus(intro K hK w' hw';obtain⟨g0,g1,g2,g3,g4,g5,g6,g7⟩:=hw';go_simp;exact hK))
         obtain⟨D,hD⟩:∃ D,wr.drew=D:=⟨_,rfl⟩
         rw[hD]at kW hBd hfr aoI ⊢
         clear hD hxd
         have hnb:(lH.add (o.toNat*2)).block≠w2.heap.size/\(rO.add (o.toNat*2)).block≠w2.heap.size:=⟨hab.out.1,hab.out.2⟩
         obtain⟨g0,g1,g2,g3,g4,g5,g6,g7⟩:=id kW
         show wpListIn _ _ _ _ _ _ _ _
         try simp only[List.drop_succ_cons,List.drop_zero]
         clear g2 g3 g4 g5
         gi_wp2
         rw[yZ]
         rw[hwa.out]
         have hB9:Below w2.heap.size w2 (D.setCell ⟨w2.heap.size,0,none⟩ (.int .i64 z0)):=hBd.setCell (p:=⟨w2.heap.size,0,none⟩) (Nat.le_refl _) _
         have hx9:Box (D.setCell ⟨w2.heap.size,0,none⟩ (.int .i64 z0)) w2.heap.size #[.int .i64 z0,.int .i64 x1] 86:=aoI.set 0 (.int .i64 z0)
         obtain⟨W9,hW9⟩:∃ W9,D.setCell ⟨w2.heap.size,0,none⟩ (.int .i64 z0)=W9:=⟨_,rfl⟩
         rw[hW9]at hB9 hx9 ⊢
         clear hW9 hfr kW aoI hBd g0 g1 g6 g7
         gi_wp2_with fail
         exact⟨⟨1,by decide,rfl,hx9,hB9⟩,by decide⟩
        ·have kW:agK w2.heap.size w1.heap.size z0 x1 (.slice (some lH) L1.length d0) (.slice B1 n1 d1) (.slice (some rO) L2.length d2) (.slice B3 n3 d3) (lH.add (o.toNat*2)) (rO.add (o.toNat*2)) y1 y2 wr.drew:=
          agK.step ⟨hxi.cell 0 rfl,hxi.cell 1 rfl,acS.cell 0 rfl,acS.cell 1 rfl,acS.cell 2 rfl,acS.cell 3 rfl,u1',u2'⟩ ((Below.refl _ _).drew)
         have hBd:Below w2.heap.size w2 wr.drew:=XC.trans (((Below.refl _ _).drew).mono XC.size)
         have hxd:=hxi.drew
         have hfr:=hxd.frozen 1
         have aoI:Box wr.drew w2.heap.size #[.int .i64 z0,.int .i64 x1] 86:=hxd
         clear hxi u1' u2' acS XC
         gi_wp2
         refine aaF 13 [(0,true),(1,true),(2,true),(3,true),(4,true),(5,true),(6,true),(7,true),(8,true),(9,true),(10,true),(11,true),(12,true)] (agK w2.heap.size w1.heap.size z0 x1 (.slice (some lH) L1.length d0) (.slice B1 n1 d1) (.slice (some rO) L2.length d2) (.slice B3 n3 d3) (lH.add (o.toNat*2)) (rO.add (o.toNat*2)) y1 y2) (rZ.of (by kernel_rfl)) rfl (by kernel_rfl) kW ?_
         iterate 13 (apply FD rfl (fun _=>rfl) (by assumption);focus(intro K hK w' hw';obtain⟨g0,g1,g2,g3,g4,g5,g6,g7⟩:=hw';go_simp;exact hK))
         obtain⟨D,hD⟩:∃ D,wr.drew=D:=⟨_,rfl⟩
         rw[hD]at kW hBd hfr aoI ⊢
         clear hD hxd
         have hnb:(lH.add (o.toNat*2)).block≠w2.heap.size/\(rO.add (o.toNat*2)).block≠w2.heap.size:=⟨hab.out.1,hab.out.2⟩
         obtain⟨g0,g1,g2,g3,g4,g5,g6,g7⟩:=id kW
         show wpListIn _ _ _ _ _ _ _ _
         try simp only[List.drop_succ_cons,List.drop_zero]
         clear g2 g3 g4 g5
         gi_wp2
         rw[yZ]
         rw[hwb.out]
         have hB9:Below w2.heap.size w2 (D.setCell ⟨w2.heap.size,1,none⟩ (.int .i64 z1)):=hBd.setCell (p:=⟨w2.heap.size,1,none⟩) (Nat.le_refl _) _
         have hx9:Box (D.setCell ⟨w2.heap.size,1,none⟩ (.int .i64 z1)) w2.heap.size #[.int .i64 z0,.int .i64 z1] 86:=aoI.set 1 (.int .i64 z1)
         obtain⟨W9,hW9⟩:∃ W9,D.setCell ⟨w2.heap.size,1,none⟩ (.int .i64 z1)=W9:=⟨_,rfl⟩
         rw[hW9]at hB9 hx9 ⊢
         clear hW9 hfr kW aoI hBd g0 g1 g6 g7
         gi_wp2_with fail
         exact⟨⟨2,by decide,rfl,hx9,hB9⟩,by decide⟩
        ·have boV:Box wr w2.heap.size #[.int .i64 (xE L1 m (l.take (j+1))),.int .i64 (xE L2 n (l.take (j+1)))] 86:=by
          rw[Hz0.out,Hz1.out]
          exact hxi
         clear hxi u1' u2' acS
         gi_wp2_with fail
         refine⟨⟨j+1,hjl,by rw[hwj.out];rfl,boV,XC⟩,?_⟩
         exact aOK hjl hwj.out
      ·obtain rfl:j=l.length:=Nat.le_antisymm hj (Nat.le_of_not_lt hjl)
       rw[List.take_length]at hx
       have hjx:¬ ((l.length:Int)<(l.length:Int)):=Int.lt_irrefl _
       obtain⟨r0,aOM⟩:∃ r,xE L1 m l=r:=⟨_,rfl⟩
       obtain⟨r1,aON⟩:∃ r,xE L2 n l=r:=⟨_,rfl⟩
       rw[aOM,aON]at hx
       have hfb:ar7 L1 L2 m n l bst=(decide (0<=r0)&&(decide (0<=r1)&&(decide (bst.length<l.length)||(decide (l.length=bst.length)&&decide (cmpL l bst<0))))):=by unfold ar7;rw[aOM,aON]
       have p0:wr.cell? ⟨w2.heap.size,0,none⟩=some (.int .i64 r0):=hx.cell 0 rfl
       have p1:wr.cell? ⟨w2.heap.size,1,none⟩=some (.int .i64 r1):=hx.cell 1 rfl
       have hBw:=wX.trans (hB7.mono wX.size)
       have asA:=eH.below' XY hB7
       have aGD:eH wr w.heap.size (.slice Al l.length cl) l:=eH.below' (eH.lower ho2 (Nat.le_trans hB3.size hwz.out)) hB7
       have hcw:=Lib.hid (aE3 Al cl l Ab cb bst wr (eH.C aGD) aGD.cap.1 (eH.C asA) asA.cap.1 (Nat.le_trans hln.out (by decide)))
       have hws:=Lib.hid (boM HS.out aOL.out)
       clear aOM aON hx
       by_cases h0:0<=r0
       ·by_cases h1:0<=r1
        ·have hd0:decide (0<=r0)=true:=decide_eq_true h0
         have hd1:decide (0<=r1)=true:=decide_eq_true h1
         rw[hd0,hd1,Bool.true_and,Bool.true_and]at hfb
         rcases Nat.lt_trichotomy bst.length l.length with hlt2|heq|hgt
         ·have hd2:decide (bst.length<l.length)=true:=decide_eq_true hlt2
          rw[hd2,Bool.true_or]at hfb
          rw[if_pos hfb]at hfs
          gi_wp2_with fail
          refine⟨trivial,?_⟩
          gi_wp2_with fail
          refine⟨⟨s+1,HS.out,by rw[hws.out],by rw[hfs.out];exact aGD,hBw⟩,?_⟩
          exact mes HS.out hws.out
         ·have hd2:decide (bst.length<l.length)=false:=decide_eq_false (Nat.not_lt.2 (Nat.le_of_eq heq.symm))
          have hd3:(l.length==bst.length)=true:=by rw[heq];exact beq_self_eq_true _
          rw[hd2,Bool.false_or,decide_eq_true heq.symm,Bool.true_and]at hfb
          have boW:((l.length:Int)==(bst.length:Int))=true:=by rw[heq];exact beq_self_eq_true _
          clear heq
          gi_wp2_with fail
          refine⟨trivial,rfl,?_⟩
          refine(callsIn_wide.2 hcw.out).mono ?_
          rintro e w9 ⟨rfl,hd9⟩
          have boX:=eH.below' aGD hd9.below
          have boY:=eH.below' asA hd9.below
          have a1C:=hBw.trans (hd9.below.mono hBw.size)
          obtain⟨r,hre⟩:∃ r,cmpL l bst=r:=⟨_,rfl⟩
          rw[hre]at hfb ⊢
          by_cases hr:r<0
          ·rw[decide_eq_true hr]at hfb
           rw[if_pos hfb]at hfs
           have hd4:decide (r<0)=true:=decide_eq_true hr
           gi_wp2_with fail
           refine⟨⟨s+1,HS.out,by rw[hws.out],by rw[hfs.out];exact boX,a1C⟩,?_⟩
           exact mes HS.out hws.out
          ·rw[decide_eq_false hr]at hfb
           rw[if_neg (fun h=>Bool.false_ne_true (hfb.symm.trans h))]at hfs
           have hd4:decide (r<0)=false:=decide_eq_false hr
           gi_wp2_with fail
           refine⟨⟨s+1,HS.out,by rw[hws.out],by rw[hfs.out];exact boY,a1C⟩,?_⟩
           exact mes HS.out hws.out
         ·have hd2:decide (bst.length<l.length)=false:=decide_eq_false (Nat.not_lt.2 (Nat.le_of_lt hgt))
          have hd3:(l.length==bst.length)=false:=beq_eq_false_iff_ne.2 (Nat.ne_of_lt hgt)
          rw[hd2,Bool.false_or,decide_eq_false (Nat.ne_of_lt hgt),Bool.false_and]at hfb
          rw[if_neg (fun h=>Bool.false_ne_true (hfb.symm.trans h))]at hfs
          have boW:((l.length:Int)==(bst.length:Int))=false:=beq_eq_false_iff_ne.2 (fun e=>Nat.ne_of_lt hgt (Int.ofNat.inj e))
          clear hgt
          gi_wp2_with fail
          refine⟨trivial,?_⟩
          gi_wp2_with fail
          refine⟨⟨s+1,HS.out,by rw[hws.out],by rw[hfs.out];exact asA,hBw⟩,?_⟩
          exact mes HS.out hws.out
        ·rw[decide_eq_true h0,decide_eq_false h1,Bool.true_and,Bool.false_and]at hfb
         rw[if_neg (fun h=>Bool.false_ne_true (hfb.symm.trans h))]at hfs
         have hd0:decide (0<=r0)=true:=decide_eq_true h0
         have hd1:decide (0<=r1)=false:=decide_eq_false h1
         gi_wp2_with fail
         refine⟨trivial,?_⟩
         gi_wp2_with fail
         refine⟨⟨s+1,HS.out,by rw[hws.out],by rw[hfs.out];exact asA,hBw⟩,?_⟩
         exact mes HS.out hws.out
       ·rw[decide_eq_false h0,Bool.false_and]at hfb
        rw[if_neg (fun h=>Bool.false_ne_true (hfb.symm.trans h))]at hfs
        have hd0:decide (0<=r0)=false:=decide_eq_false h0
        gi_wp2_with fail
        refine⟨trivial,?_⟩
        gi_wp2_with fail
        refine⟨⟨s+1,HS.out,by rw[hws.out],by rw[hfs.out];exact asA,hBw⟩,?_⟩
        exact mes HS.out hws.out
    ·obtain rfl:s=M:=Nat.le_antisymm hs (Nat.le_of_not_lt hlt)
     have hsx:¬ ((s:Int)<(s:Int)):=Int.lt_irrefl _
     have hB9:=hB3.trans (hB.mono hB3.size)
     gi_wp2_with fail
     refine bodyPost_ret (v:=.tuple #[.slice Ab (EJ L1 L2 m n s).length cb,.int .i64 0]) (by simp[results,Tryd.results31,go_sem]) rfl ?_
     exact⟨_,by rw[hE.out],by rw[hL.out];exact ho,hB9⟩
 ·have hE:Hid (QP os ls m n=er):=Lib.hid (by unfold QP;rw[her,if_neg he])
  have hL:Hid (QQ os ls m n=[]):=Lib.hid (by unfold QQ;rw[her,if_neg (fun h=>he h.1)])
  have hne:(er !=0)=true:=by simp[he]
  clear her Her he
  gi_wp2_with fail
  refine bodyPost_ret (v:=.tuple #[.slice none 0 0,.int .i64 er]) (by simp[results,Tryd.results31,go_sem]) rfl ?_
  exact⟨_,by rw[hE.out],by rw[hL.out];exact eH.nil _ _,hB1.alloc hB1.size _⟩
end Go.Proofs.YtcmfnebcmmklkaaDoor.Hand
namespace Go.Proofs.YtcmfnebcmmklkaaDoor.Q
open Go.RowKit Go.Proofs.YtcmfnebcmmklkaaDoorW.dQ Go.Proofs.YtcmfnebcmmklkaaDoorW.oU Go.Proofs.YtcmfnebcmmklkaaDoorW.gG
def IE (bV:Int) (bU:Int) (iL:Int) (iO:Int) (kV:Int) (lW:Int) (rW:Int):Hand.pU:=⟨⟨bV,bU⟩,⟨iL,iO⟩,⟨kV,lW⟩,rW⟩
theorem asB {α β:Type} {a:α} {b:β} {c:α} {d:β} (h:some (a,b)=some (c,d)):a=c/\b=d:=by cases h;exact⟨rfl,rfl⟩
def aaV.f (aG:List (aZ)) (aC:List (aI)) (a1:Int) (a2:Int):Option (List Int×Int):=some (Hand.QQ aG aC a1 a2,Hand.QP aG aC a1 a2)
theorem aaV.calls (aQ:Option Addr) (aK:Nat) (aG:List (aZ)) (aT:Option Addr) (aJ:Nat) (aC:List (aI)) (a1:Int) (a2:Int) (r1:List Int) (r2:Int) (w:World) (hT:Hand.lZ w) (jI:Kd.C iJ w aQ aG.length aG) (jU:aG.length<=aK) (jE:Kd.C iE w aT aC.length aC) (jS:aC.length<=aJ) (h:aaV.f aG aC a1 a2=some (r1,r2)):
  Calls Tryd.prog 31 #[.agg #[.slice aQ aG.length aK,.slice aT aC.length aJ],.int .i64 a1,.int .i64 a2] w fun e w'=>∃ iG:Value,e=.returned (.tuple #[iG,.int .i64 r2])/\Kd.R (Kd.int .i64) 3 w' w.heap.size (fun _=>True) iG r1/\Below w.heap.size w w':=by
 obtain⟨rfl,rfl⟩:=asB h
 exact(Hand.boP aG aC a1 a2 aQ aT aK aJ w hT jI jU jE jS).mono fun e w' ⟨v,e1,e2,e3⟩=>⟨v,e1,Hand.eH.R e2,e3⟩
def aaW.f (aG:List (aZ)) (aC:List (aI)):Option (List Int×Int):=some (Hand.aeK (Hand.vZ aG aC) aG aC,Hand.aaQ (Hand.vZ aG aC) aG aC)
theorem aaW.calls (aQ:Option Addr) (aK:Nat) (aG:List (aZ)) (aT:Option Addr) (aJ:Nat) (aC:List (aI)) (r1:List Int) (r2:Int) (w:World) (hT:Hand.lZ w) (jI:Kd.C iJ w aQ aG.length aG) (jU:aG.length<=aK) (jE:Kd.C iE w aT aC.length aC) (jS:aC.length<=aJ) (h:aaW.f aG aC=some (r1,r2)):
  Calls Tryd.prog 29 #[.agg #[.slice aQ aG.length aK,.slice aT aC.length aJ]] w fun e w'=>∃ iG:Value,e=.returned (.tuple #[iG,.int .i64 r2])/\Kd.R (Kd.int .i64) 3 w' w.heap.size (fun _=>True) iG r1/\Below w.heap.size w w':=by
 obtain⟨rfl,rfl⟩:=asB h
 refine(Hand.bmJ 61 aG aC (Hand.vZ aG aC) (fun hc s hs=>Hand.bj7 hc s ?_ 61 (Nat.le_refl _)) aQ aT aK aJ w hT jI jU jE jS).mono fun e w' ⟨v,e1,e2,e3⟩=>⟨v,e1,Hand.eH.R e2,e3⟩
 exact Nat.lt_of_lt_of_le hs (Nat.le_trans (Nat.pow_le_pow_right (by decide) (Hand.FM hc).2.1) (by decide))
def asC.f (bV:Int) (bU:Int) (iL:Int) (iO:Int) (kV:Int) (lW:Int) (rW:Int) (l1:List (gQ)) (a2:Int):Option (List (List Int)×Int):=some (Hand.wL (IE bV bU iL iO kV lW rW) l1 a2,Hand.xZ (IE bV bU iL iO kV lW rW) l1 a2)
theorem asC.calls (bV:Int) (bU:Int) (iL:Int) (iO:Int) (kV:Int) (lW:Int) (rW:Int) (A1:Option Addr) (c1:Nat) (l1:List (gQ)) (a2:Int) (r1:List (List Int)) (r2:Int) (w:World) (hr1:Kd.C vC w A1 l1.length l1) (hc1:l1.length<=c1) (h:asC.f bV bU iL iO kV lW rW l1 a2=some (r1,r2)):
  Calls Tryd.prog 35 #[.agg #[.int .i64 bV,.int .i64 bU,.int .i64 iL,.int .i64 iO,.int .i64 kV,.int .i64 lW,.int .i64 rW],.slice A1 l1.length c1,.int .i64 a2] w fun e w'=>∃ iG:Value,e=.returned (.tuple #[iG,.int .i64 r2])/\Kd.R (Kd.slice 3 (Kd.int .i64)) 34 w' w.heap.size (fun _=>True) iG r1/\Below w.heap.size w w':=by
 obtain⟨rfl,rfl⟩:=asB h
 exact(Hand.bmF (IE bV bU iL iO kV lW rW) l1 a2 A1 c1 w hr1).mono fun e w' ⟨v,e1,e2,e3⟩=>⟨v,e1,e2.1,e3⟩
def aGO.f (bV:Int) (bU:Int) (iL:Int) (iO:Int) (kV:Int) (lW:Int) (rW:Int) (l1:List (gQ)) (a2:Int):Option (List Int×Int):=some (Hand.ayO (IE bV bU iL iO kV lW rW) l1 a2,Hand.xZ (IE bV bU iL iO kV lW rW) l1 a2)
theorem aGO.calls (bV:Int) (bU:Int) (iL:Int) (iO:Int) (kV:Int) (lW:Int) (rW:Int) (A1:Option Addr) (c1:Nat) (l1:List (gQ)) (a2:Int) (r1:List Int) (r2:Int) (w:World) (hT:Hand.lZ w) (hr1:Kd.C vC w A1 l1.length l1) (hc1:l1.length<=c1) (h:aGO.f bV bU iL iO kV lW rW l1 a2=some (r1,r2)):
  Calls Tryd.prog 37 #[.agg #[.int .i64 bV,.int .i64 bU,.int .i64 iL,.int .i64 iO,.int .i64 kV,.int .i64 lW,.int .i64 rW],.slice A1 l1.length c1,.int .i64 a2] w fun e w'=>∃ iG:Value,e=.returned (.tuple #[iG,.int .i64 r2])/\Kd.R (Kd.int .i64) 3 w' w.heap.size (fun _=>True) iG r1/\Below w.heap.size w w':=by
 obtain⟨rfl,rfl⟩:=asB h
 exact(Hand.boI (IE bV bU iL iO kV lW rW) l1 a2 A1 c1 w hT hr1).mono fun e w' ⟨v,e1,e2,e3⟩=>⟨v,e1,Hand.eH.R e2,e3⟩
def aGP.f (bV:Int) (bU:Int) (iL:Int) (iO:Int) (kV:Int) (lW:Int) (rW:Int) (l1:List (gQ)) (a2:Int):Option (List Int×Int):=some (Hand.arV (IE bV bU iL iO kV lW rW) l1 a2,Hand.arU (IE bV bU iL iO kV lW rW) l1 a2)
theorem aGP.calls (bV:Int) (bU:Int) (iL:Int) (iO:Int) (kV:Int) (lW:Int) (rW:Int) (A1:Option Addr) (c1:Nat) (l1:List (gQ)) (a2:Int) (r1:List Int) (r2:Int) (w:World) (hT:Hand.lZ w) (hr1:Kd.C vC w A1 l1.length l1) (hc1:l1.length<=c1) (h:aGP.f bV bU iL iO kV lW rW l1 a2=some (r1,r2)):
  Calls Tryd.prog 45 #[.agg #[.int .i64 bV,.int .i64 bU,.int .i64 iL,.int .i64 iO,.int .i64 kV,.int .i64 lW,.int .i64 rW],.slice A1 l1.length c1,.int .i64 a2] w fun e w'=>∃ iG:Value,e=.returned (.tuple #[iG,.int .i64 r2])/\Kd.R (Kd.int .i64) 3 w' w.heap.size (fun _=>True) iG r1/\Below w.heap.size w w':=by
 obtain⟨rfl,rfl⟩:=asB h
 exact(Hand.bmH (IE bV bU iL iO kV lW rW) l1 a2 A1 c1 w hT hr1).mono fun e w' ⟨v,e1,e2,e3⟩=>⟨v,e1,Hand.eH.R e2,e3⟩
def aGQ.f (bV:Int) (bU:Int) (iL:Int) (iO:Int) (kV:Int) (lW:Int) (rW:Int) (l1:List (gQ)) (a2:Int):Option (List Int×List Int×Int):=some (Hand.aGE (IE bV bU iL iO kV lW rW) l1 a2,Hand.aGF (IE bV bU iL iO kV lW rW) l1 a2,Hand.xZ (IE bV bU iL iO kV lW rW) l1 a2)
theorem aGQ.calls (bV:Int) (bU:Int) (iL:Int) (iO:Int) (kV:Int) (lW:Int) (rW:Int) (A1:Option Addr) (c1:Nat) (l1:List (gQ)) (a2:Int) (r1:List Int) (r2:List Int) (r3:Int) (w:World) (hr1:Kd.C vC w A1 l1.length l1) (hc1:l1.length<=c1) (h:aGQ.f bV bU iL iO kV lW rW l1 a2=some (r1,r2,r3)):
  Calls Tryd.prog 36 #[.agg #[.int .i64 bV,.int .i64 bU,.int .i64 iL,.int .i64 iO,.int .i64 kV,.int .i64 lW,.int .i64 rW],.slice A1 l1.length c1,.int .i64 a2] w fun e w'=>∃ iG nC:Value,e=.returned (.tuple #[iG,nC,.int .i64 r3])/\Kd.R (Kd.int .i64) 3 w' w.heap.size (fun k_=>some k_≠(nC:Value).ownBlock) iG r1/\Kd.R (Kd.int .i64) 3 w' w.heap.size (fun k_=>some k_≠(iG:Value).ownBlock) nC r2/\Below w.heap.size w w':=by
 obtain⟨rfl,h2⟩:=asB h
 obtain⟨rfl,rfl⟩:=Prod.mk.inj h2
 exact(Hand.bo8 (IE bV bU iL iO kV lW rW) l1 a2 A1 c1 w hr1).mono fun e w' ⟨v,u,e1,e2,e3,e4,e5⟩=>⟨v,u,e1,Kd.ag9 e2 (fun k hk he=>e4 k hk he.symm),Kd.ag9 e3 (fun k hk he=>e4 k he.symm hk),e5⟩
def ayW.f (bV:Int) (bU:Int) (iL:Int) (iO:Int) (kV:Int) (lW:Int) (rW:Int) (l1:List (gQ)) (a2:Int):Option (Int×Int×Int×Int×Int×Int×Int):=some ((Hand.acT (IE bV bU iL iO kV lW rW) l1 a2).1.f0,(Hand.acT (IE bV bU iL iO kV lW rW) l1 a2).1.f1,(Hand.acT (IE bV bU iL iO kV lW rW) l1 a2).2.1.f0,(Hand.acT (IE bV bU iL iO kV lW rW) l1 a2).2.1.f1,(Hand.acT (IE bV bU iL iO kV lW rW) l1 a2).2.2.f0,(Hand.acT (IE bV bU iL iO kV lW rW) l1 a2).2.2.f1,Hand.xZ (IE bV bU iL iO kV lW rW) l1 a2)
theorem ayW.calls (bV:Int) (bU:Int) (iL:Int) (iO:Int) (kV:Int) (lW:Int) (rW:Int) (A1:Option Addr) (c1:Nat) (l1:List (gQ)) (a2:Int) (r1:Int) (r2:Int) (r3:Int) (r4:Int) (r5:Int) (r6:Int) (r7:Int) (w:World) (hr1:Kd.C vC w A1 l1.length l1) (hc1:l1.length<=c1) (h:ayW.f bV bU iL iO kV lW rW l1 a2=some (r1,r2,r3,r4,r5,r6,r7)):
  Calls Tryd.prog 44 #[.agg #[.int .i64 bV,.int .i64 bU,.int .i64 iL,.int .i64 iO,.int .i64 kV,.int .i64 lW,.int .i64 rW],.slice A1 l1.length c1,.int .i64 a2] w fun e w'=>e=.returned (.tuple #[.agg #[.int .i64 r1,.int .i64 r2],.agg #[.int .i64 r3,.int .i64 r4],.agg #[.int .i64 r5,.int .i64 r6],.int .i64 r7])/\Below w.heap.size w w':=by
 unfold ayW.f at h
 simp only[Option.some.injEq,Prod.mk.injEq]at h
 obtain⟨rfl,rfl,rfl,rfl,rfl,rfl,rfl⟩:=h
 exact Hand.bpF (IE bV bU iL iO kV lW rW) l1 a2 A1 c1 w hr1
end Go.Proofs.YtcmfnebcmmklkaaDoor.Q
namespace Go.Proofs.YtcmfnebcmmklkaaDoor.Hand
open Go.RowKit Go.Proofs.YtcmfnebcmmklkaaDoorW.dQ Go.Proofs.YtcmfnebcmmklkaaDoor.Q
def SN:List aZ:=[⟨12,12⟩,⟨6,18⟩]
def XZ:List aI:=[⟨0,⟨5,7⟩,⟨4,4⟩,false⟩,⟨1,⟨6,8⟩,⟨10,12⟩,false⟩,⟨0,⟨1,2⟩,⟨0,0⟩,true⟩,⟨0,⟨8,9⟩,⟨6,6⟩,false⟩]
def aGR:List aI:=XZ++[⟨1,⟨1,1⟩,⟨0,0⟩,false⟩]
def PO:List gQ:=[⟨6,6,152⟩,⟨12,0,142⟩,⟨0,12,162⟩]
end Go.Proofs.YtcmfnebcmmklkaaDoor.Hand
namespace Go.Proofs.YtcmfnebcmmklkaaDoor.Hand
open Go.RowKit Go.Shelf Go.Proofs.YtcmfnebcmmklkaaDoorW.dQ Go.Proofs.YtcmfnebcmmklkaaDoorW.gG Go.Proofs.YtcmfnebcmmklkaaDoor.Q
attribute [local go_sem] Oper.semAt_some run_store_func undef
structure KS (w:World) (LI:List (Option Addr×List Int)) (LS:List (Option Addr×List aH)) (LR:List (Option Addr×List (List Int))) (W:World):Prop where
 tab:lZ W
 hi:∀ p∈LI,Kd.C (Kd.int .i64) W p.1 p.2.length p.2
 hs:∀ p∈LS,Kd.C iD W p.1 p.2.length p.2
 hr:∀ p∈LR,Kd.C (Kd.slice 3 (Kd.int .i64)) W p.1 p.2.length p.2
 below:Below w.heap.size w W
theorem KS.step {w W W':World} {LI:List (Option Addr×List Int)} {LS:List (Option Addr×List aH)} {LR:List (Option Addr×List (List Int))} (h:KS w LI LS LR W) (hb:Below W.heap.size W W'):KS w LI LS LR W':=
 ⟨h.tab.below hb,fun p hp=>Kd.bJ (h.hi p hp) hb,fun p hp=>Kd.bJ (h.hs p hp) hb,fun p hp=>Kd.bJ (h.hr p hp) hb,h.below.trans (hb.mono h.below.size)⟩
theorem KS.ZO {w W:World} {LI:List (Option Addr×List Int)} {LS:List (Option Addr×List aH)} {LR:List (Option Addr×List (List Int))} (h:KS w LI LS LR W) {A:Option Addr} {xs:List Int} (hC:Kd.C (Kd.int .i64) W A xs.length xs):KS w ((A,xs)::LI) LS LR W:=
 ⟨h.tab,fun p hp=>(List.mem_cons.1 hp).elim (fun e=>e ▸ hC) (h.hi p),h.hs,h.hr,h.below⟩
theorem KS.asD {w W:World} {LI:List (Option Addr×List Int)} {LS:List (Option Addr×List aH)} {LR:List (Option Addr×List (List Int))} (h:KS w LI LS LR W) {A:Option Addr} {xs:List aH} (hC:Kd.C iD W A xs.length xs):KS w LI ((A,xs)::LS) LR W:=
 ⟨h.tab,h.hi,fun p hp=>(List.mem_cons.1 hp).elim (fun e=>e ▸ hC) (h.hs p),h.hr,h.below⟩
theorem KS.aGU {w W:World} {LI:List (Option Addr×List Int)} {LS:List (Option Addr×List aH)} {LR:List (Option Addr×List (List Int))} (h:KS w LI LS LR W) {A:Option Addr} {xs:List (List Int)} (hC:Kd.C (Kd.slice 3 (Kd.int .i64)) W A xs.length xs):KS w LI LS ((A,xs)::LR) W:=
 ⟨h.tab,h.hi,h.hs,fun p hp=>(List.mem_cons.1 hp).elim (fun e=>e ▸ hC) (h.hr p),h.below⟩
theorem bpR (W:World) (x:aI) (n:Nat) (hn:W.heap.size=n):Kd.C iE (W.alloc (.cells #[.int .i64 x.f0,.int .i64 x.f1.f0,.int .i64 x.f1.f1,.int .i64 x.f2.f0,.int .i64 x.f2.f1,.bool x.f3] 91)) (some ⟨n,0,none⟩) 1 [x]:=by
 subst hn
 have hR:Kd.R iE 91 (W.alloc (.cells #[.int .i64 x.f0,.int .i64 x.f1.f0,.int .i64 x.f1.f1,.int .i64 x.f2.f0,.int .i64 x.f2.f1,.bool x.f3] 91)) W.heap.size (fun _=>True) (.slice (some ⟨W.heap.size,0,none⟩) 1 1) [x]:=by
  refine⟨fun _ _=>trivial,_,World.ownsRow_lit W #[.int .i64 x.f0,.int .i64 x.f1.f0,.int .i64 x.f1.f1,.int .i64 x.f2.f0,.int .i64 x.f2.f1,.bool x.f3] 1 (Nat.le_refl _) (by simp[maxLen]) rfl,rfl,fun j p hj=>?_⟩
  match j,hj with
  |0,hj=>
   obtain rfl:x=p:=Option.some.inj hj
   exact atK _ _ _ x
  |j+1,hj=>cases hj
 exact(Kd.dB hR).2.2
theorem a1U (W:World) (a b:aH) (n:Nat) (hn:W.heap.size=n):Kd.C iD (W.alloc (.cells #[.int .i64 a.f0,.int .i64 a.f1,.int .i64 b.f0,.int .i64 b.f1] 42)) (some ⟨n,0,none⟩) 2 [a,b]:=by
 subst hn
 have ho:mP (W.alloc (.cells #[.int .i64 a.f0,.int .i64 a.f1,.int .i64 b.f0,.int .i64 b.f1] 42)) W.heap.size (.slice (some ⟨W.heap.size,0,none⟩) 2 2) [a,b]:=World.ownsRow_lit W #[.int .i64 a.f0,.int .i64 a.f1,.int .i64 b.f0,.int .i64 b.f1] 2 (Nat.le_refl _) (by simp[maxLen]) rfl
 exact(Kd.dB (mP.R ho)).2.2
theorem a1V (W:World) (base:Nat) (hb:base<=W.heap.size) (ys:List Value) (xs:List (List Int)) (hl:ys.length=xs.length) (hl2:xs.length<=1000) (h:∀ (j:Nat) (y:Value) (x:List Int),ys[j]? =some y->xs[j]? =some x->eH W base y x) (n:Nat) (hn:W.heap.size=n):
  Kd.C (Kd.slice 3 (Kd.int .i64)) (W.alloc (.cells ys.toArray 34)) (some ⟨n,0,none⟩) xs.length xs:=by
 subst hn
 have hR:Kd.R (Kd.slice 3 (Kd.int .i64)) 34 (W.alloc (.cells ys.toArray 34)) base (fun _=>True) (.slice (some ⟨W.heap.size,0,none⟩) xs.length xs.length) xs:=by
  refine⟨fun _ _=>trivial,_,World.ownsRow_lit W ys.toArray xs.length hb (by unfold maxLen;omega) (by show ys.toArray.size=xs.length*1;simp[hl]),(by show ys.length=xs.length*1;omega),fun j p hj=>?_⟩
  have hj2:j<ys.length:=by rw[hl];exact(List.getElem?_eq_some_iff.1 hj).1
  have e1:((ys.toArray.toList).drop (j*1)).take 1=[ys[j]]:=by
   rw[Nat.mul_one,List.drop_eq_getElem_cons hj2]
   rfl
  have ho:=h j ys[j] p (List.getElem?_eq_getElem hj2) hj
  show(Kd.slice 3 (Kd.int .i64)).M _ _ _ p (((ys.toArray.toList).drop (j*1)).take 1)
  rw[e1]
  have ho2:eH (W.alloc (.cells ys.toArray 34)) base ys[j] p:=eH.below' ho ((Below.refl _ _).alloc (Nat.le_refl _) _)
  refine⟨ys[j],rfl,Kd.ag9 ho2 fun k hk=>⟨trivial,fun e=>?_⟩⟩
  have hlt:=(World.ownsRow.lt ho k hk).2
  have:k=W.heap.size:=Option.some.inj e
  omega
 exact(Kd.dB hR).2.2
theorem wC (W:World) (o:Obj):Below W.heap.size W (W.alloc o):=(Below.refl _ _).alloc (Nat.le_refl _) _
def rL1:List aH:=[⟨0,1⟩,⟨0,0⟩]
def rL2:List aH:=[⟨2,2⟩,⟨6,8⟩]
def rC1:List aH:=[⟨5,6⟩,⟨6,6⟩,⟨1,2⟩,⟨8,9⟩]
def rC2:List aH:=[⟨4,4⟩,⟨10,12⟩,⟨0,0⟩,⟨6,6⟩]
structure asE (a1 a2:Addr) (W:World):Prop where
 p0:W.cell? a1=some (.int .i64 5)
 p1:W.cell? ⟨a1.block,a1.off+1,none⟩=some (.int .i64 6)
 q0:W.cell? ⟨a1.block,a1.off+6,none⟩=some (.int .i64 8)
 q1:W.cell? ⟨a1.block,a1.off+6+1,none⟩=some (.int .i64 9)
 r0:W.cell? ⟨a2.block,a2.off+2,none⟩=some (.int .i64 10)
 r1:W.cell? ⟨a2.block,a2.off+2+1,none⟩=some (.int .i64 12)
theorem asE.step {a1 a2:Addr} {W W':World} (h:asE a1 a2 W) (hb:Below W.heap.size W W'):asE a1 a2 W':=
 ⟨jW hb h.p0,jW hb h.p1,jW hb h.q0,jW hb h.q1,jW hb h.r0,jW hb h.r1⟩
structure asF (b:Nat) (W:World):Prop where
 x0:W.cell? ⟨b,0,none⟩=some (.int .i64 10)
 x1:W.cell? ⟨b,1,none⟩=some (.int .i64 10)
 x2:W.cell? ⟨b+1,0,none⟩=some (.int .i64 12)
 x3:W.cell? ⟨b+1,1,none⟩=some (.int .i64 12)
 x4:W.cell? ⟨b+1+1,0,none⟩=some (.int .i64 20)
 x5:W.cell? ⟨b+1+1,1,none⟩=some (.int .i64 20)
theorem asF.step {b:Nat} {W W':World} (h:asF b W) (hb:Below W.heap.size W W'):asF b W':=
 ⟨jW hb h.x0,jW hb h.x1,jW hb h.x2,jW hb h.x3,jW hb h.x4,jW hb h.x5⟩
theorem ayY (W:World) (n₀:Nat) (hb:n₀<=W.heap.size) (a b c:Int) (n:Nat) (hn:W.heap.size=n):eH (W.alloc (.cells #[.int .i64 a,.int .i64 b,.int .i64 c] 3)) n₀ (.slice (some ⟨n,0,none⟩) 3 3) [a,b,c]:=by
 subst hn
 exact World.ownsRow_lit W #[.int .i64 a,.int .i64 b,.int .i64 c] 3 hb (by simp[maxLen]) rfl
structure JK (W0:World) (fl:Nat->Bool) (W:World) (v6 v7 v8 v9:Value):Prop where
 b:Below W0.heap.size W0 W
 j6:fl 6=true->eH W W0.heap.size v6 [-1,1,0]
 j7:fl 7=true->eH W W0.heap.size v7 [0,0,0]
 j8:fl 8=true->eH W W0.heap.size v8 [0,1,-1]
 j9:fl 9=true->eH W W0.heap.size v9 [1,0,-1]
theorem JK.step {W0:World} {fl:Nat->Bool} {W W':World} {v6 v7 v8 v9:Value} (h:JK W0 fl W v6 v7 v8 v9) (hb:Below W.heap.size W W'):JK W0 fl W' v6 v7 v8 v9:=
 ⟨h.b.trans (hb.mono h.b.size),fun q=>(h.j6 q).below' hb,fun q=>(h.j7 q).below' hb,fun q=>(h.j8 q).below' hb,fun q=>(h.j9 q).below' hb⟩
theorem one_row {W:World} {n:Nat} {v:Value} {xs:List Int} (h:eH W n v xs) {j:Nat} {y:Value} {x:List Int} (hy:[v][j]? =some y) (hx:[xs][j]? =some x):eH W n y x:=by
 match j,hy,hx with
 |0,hy,hx=>
  obtain rfl:v=y:=Option.some.inj hy
  obtain rfl:xs=x:=Option.some.inj hx
  exact h
 |j+1,hy,hx=>cases hy
theorem JK.s6 {W0:World} {fl:Nat->Bool} {W:World} {v6 v7 v8 v9:Value} (h:JK W0 fl W v6 v7 v8 v9) (n:Nat) (hn:W.heap.size=n):JK W0 (zU fl 6) (W.alloc (.cells #[.int .i64 (-1),.int .i64 1,.int .i64 0] 3)) (.slice (some ⟨n,0,none⟩) 3 3) v7 v8 v9:=
 ⟨h.b.trans ((wC W _).mono h.b.size),fun _=>ayY W W0.heap.size h.b.size (-1) 1 0 _ hn,fun q=>(h.j7 q).below' (wC _ _),fun q=>(h.j8 q).below' (wC _ _),fun q=>(h.j9 q).below' (wC _ _)⟩
theorem JK.s7 {W0:World} {fl:Nat->Bool} {W:World} {v6 v7 v8 v9:Value} (h:JK W0 fl W v6 v7 v8 v9) (n:Nat) (hn:W.heap.size=n):JK W0 (zU fl 7) (W.alloc (.cells #[.int .i64 0,.int .i64 0,.int .i64 0] 3)) v6 (.slice (some ⟨n,0,none⟩) 3 3) v8 v9:=
 ⟨h.b.trans ((wC W _).mono h.b.size),fun q=>(h.j6 q).below' (wC _ _),fun _=>ayY W W0.heap.size h.b.size 0 0 0 _ hn,fun q=>(h.j8 q).below' (wC _ _),fun q=>(h.j9 q).below' (wC _ _)⟩
theorem JK.s8 {W0:World} {fl:Nat->Bool} {W:World} {v6 v7 v8 v9:Value} (h:JK W0 fl W v6 v7 v8 v9) (n:Nat) (hn:W.heap.size=n):JK W0 (zU fl 8) (W.alloc (.cells #[.int .i64 0,.int .i64 1,.int .i64 (-1)] 3)) v6 v7 (.slice (some ⟨n,0,none⟩) 3 3) v9:=
 ⟨h.b.trans ((wC W _).mono h.b.size),fun q=>(h.j6 q).below' (wC _ _),fun q=>(h.j7 q).below' (wC _ _),fun _=>ayY W W0.heap.size h.b.size 0 1 (-1) _ hn,fun q=>(h.j9 q).below' (wC _ _)⟩
theorem JK.s9 {W0:World} {fl:Nat->Bool} {W:World} {v6 v7 v8 v9:Value} (h:JK W0 fl W v6 v7 v8 v9) (n:Nat) (hn:W.heap.size=n):JK W0 (zU fl 9) (W.alloc (.cells #[.int .i64 1,.int .i64 0,.int .i64 (-1)] 3)) v6 v7 v8 (.slice (some ⟨n,0,none⟩) 3 3):=
 ⟨h.b.trans ((wC W _).mono h.b.size),fun q=>(h.j6 q).below' (wC _ _),fun q=>(h.j7 q).below' (wC _ _),fun q=>(h.j8 q).below' (wC _ _),fun _=>ayY W W0.heap.size h.b.size 1 0 (-1) _ hn⟩
theorem bpS {W:World} {n:Nat} {v6 v7 v8 v9:Value} {x6 x7 x8 x9:List Int} (h6:eH W n v6 x6) (h7:eH W n v7 x7) (h8:eH W n v8 x8) (h9:eH W n v9 x9) {j:Nat} {y:Value} {x:List Int} (hy:[v6,v7,v8,v9][j]? =some y) (hx:[x6,x7,x8,x9][j]? =some x):eH W n y x:=by
 match j,hy,hx with
 |0,hy,hx=>cases hy;cases hx;exact h6
 |1,hy,hx=>cases hy;cases hx;exact h7
 |2,hy,hx=>cases hy;cases hx;exact h8
 |3,hy,hx=>cases hy;cases hx;exact h9
 |j+4,hy,hx=>cases hy
theorem aGX:af7.f []=some (SN,XZ):=by kernel_rfl
theorem bpT:af7.f [⟨1,⟨1,1⟩,⟨0,0⟩,false⟩]=some (SN,aGR):=by kernel_rfl
def rE1:List (List Int):=[[0,1,-1]]
def rE2:List (List Int):=[[-1,1,0],[0,0,0],[0,1,-1],[1,0,-1]]
theorem bpU:UR.f 61 SN XZ=some (rL1,rL2,0):=by kernel_rfl
theorem bpV:XX.f 61 SN XZ=some (rC1,rC2,0):=by kernel_rfl
theorem bpW:vO.f 61 SN XZ=some ([],[],0):=by kernel_rfl
theorem bpX:aaV.f SN XZ 1 9=some ([0],0):=by kernel_rfl
theorem bpY:aaW.f SN aGR=some ([1],0):=by kernel_rfl
theorem bpZ:asC.f 10 10 12 12 20 20 1 PO 1=some (rE1,0):=by kernel_rfl
theorem bp0:asC.f 10 10 12 12 20 20 2 PO 1=some (rE2,0):=by kernel_rfl
theorem bp1:aGQ.f 10 10 12 12 20 20 1 PO 1=some ([1,2],[1,2],0):=by kernel_rfl
theorem bp2:aGO.f 10 10 12 12 20 20 2 PO 1=some ([0,1],0):=by kernel_rfl
theorem bp3:ayW.f 10 10 12 12 20 20 1 PO 1=some (10,10,12,12,20,20,0):=by kernel_rfl
theorem bp4:aGP.f 10 10 12 12 20 20 1 PO 0=some ([1,2],0):=by kernel_rfl
theorem asG:af9.f=some PO:=by kernel_rfl
theorem asH (k:Int):af8.f k=some (10,10,12,12,20,20,k):=rfl
noncomputable def aOX:{G:Prop // G->∀ (w:World) (_:lZ w),Calls Tryd.prog 15 #[] w fun e_ w'=>e_=.returned (.bool true)/\Below w.heap.size w w'}:=by
 refine⟨?_,?_⟩
 rotate_left
 intro tY
 replace tY:aA (True->_):=⟨fun _=>tY⟩
 intro w hT
 have K0:KS w [] [] [] w:=⟨hT,fun p h=>absurd h List.not_mem_nil,fun p h=>absurd h List.not_mem_nil,fun p h=>absurd h List.not_mem_nil,Below.refl _ _⟩
 refine(callsIn_wide (n:=0)).1 ?_
 refine callsIn_of_wp Tryd.func15 rfl trivial ?_
 simp only[Tryd.ntmps15,List.size_toArray,List.length_cons,List.length_nil,Nat.reduceAdd,Nat.reduceSub,Array.replicate_succ,Array.replicate_zero,List.push_toArray,List.append_toArray,List.nil_append,List.cons_append]
 gi_wp2_with fail
 refine⟨trivial,rfl,?_⟩
 refine(callsIn_wide.2 (af7.calls none 0 [] SN XZ _ (Kd.dB (Kd.xI iE 91 _ 0 (fun _=>True))).2.2 (Nat.le_refl _) aGX)).mono ?_
 rintro e_ w1 ⟨v0,v1,rfl,h0,h1,hb⟩
 obtain⟨IG,II,rfl,IJ,a1W⟩:=Kd.uK h0
 clear h0
 obtain⟨IK,IL,rfl,IM,a1X⟩:=Kd.uK h1
 clear h1
 have K1:=K0.step hb
 clear hb K0
 gi_wp2_with fail
 refine⟨trivial,rfl,?_⟩
 refine(callsIn_wide.2 (UR.calls 61 IG II SN IK IL XZ rL1 rL2 0 _ a1W IJ a1X IM bpU)).mono ?_
 rintro e_ w2 ⟨v0,v1,rfl,h0,h1,hb⟩
 have K2:=K1.step hb
 clear hb K1 a1W a1X
 obtain⟨FN,IP,rfl,IQ,a1Y⟩:=Kd.uK h0
 clear h0
 replace K2:=K2.asD a1Y
 clear a1Y
 obtain⟨FO,IU,rfl,IV,a1Z⟩:=Kd.uK h1
 clear h1
 replace K2:=K2.asD a1Z
 clear a1Z
 gi_wp2_with fail
 refine⟨trivial,rfl,?_⟩
 refine(callsIn_wide.2 (af7.calls none 0 [] SN XZ _ (Kd.dB (Kd.xI iE 91 _ 0 (fun _=>True))).2.2 (Nat.le_refl _) aGX)).mono ?_
 rintro e_ w3 ⟨v0,v1,rfl,h0,h1,hb⟩
 obtain⟨IW,IX,rfl,IY,a2A⟩:=Kd.uK h0
 clear h0
 obtain⟨IZ,JA,rfl,JB,a2B⟩:=Kd.uK h1
 clear h1
 have K3:=K2.step hb
 clear hb K2
 gi_wp2_with fail
 refine⟨trivial,rfl,?_⟩
 refine(callsIn_wide.2 (XX.calls 61 IW IX SN IZ JA XZ rC1 rC2 0 _ a2A IY a2B JB bpV)).mono ?_
 rintro e_ w4 ⟨v0,v1,rfl,h0,h1,hb⟩
 have K4:=K3.step hb
 clear hb K3 a2A a2B
 obtain⟨aGZ,NF,rfl,NG,a2C⟩:=Kd.uK h0
 clear h0
 replace K4:=K4.asD a2C
 clear a2C
 obtain⟨a2D,NH,rfl,NI,a2E⟩:=Kd.uK h1
 clear h1
 replace K4:=K4.asD a2E
 clear a2E
 gi_wp2_with fail
 refine⟨trivial,rfl,?_⟩
 refine(callsIn_wide.2 (af7.calls none 0 [] SN XZ _ (Kd.dB (Kd.xI iE 91 _ 0 (fun _=>True))).2.2 (Nat.le_refl _) aGX)).mono ?_
 rintro e_ w5 ⟨v0,v1,rfl,h0,h1,hb⟩
 obtain⟨JC,JD,rfl,JE,a2F⟩:=Kd.uK h0
 clear h0
 obtain⟨JG,JH,rfl,JI,a2G⟩:=Kd.uK h1
 clear h1
 have K5:=K4.step hb
 clear hb K4
 gi_wp2_with fail
 refine⟨trivial,rfl,?_⟩
 refine(callsIn_wide.2 (vO.calls 61 JC JD SN JG JH XZ [] [] 0 _ a2F JE a2G JI bpW)).mono ?_
 rintro e_ w6 ⟨v0,v1,rfl,h0,h1,hb⟩
 have K6:=K5.step hb
 clear hb K5 a2F a2G
 obtain⟨NJ,NK,rfl,NL,a2H⟩:=Kd.uK h0
 clear h0
 replace K6:=K6.ZO a2H
 clear a2H
 obtain⟨NM,NP,rfl,NQ,a2I⟩:=Kd.uK h1
 clear h1
 replace K6:=K6.ZO a2I
 clear a2I
 gi_wp2_with fail
 refine⟨trivial,rfl,?_⟩
 refine(callsIn_wide.2 (af7.calls none 0 [] SN XZ _ (Kd.dB (Kd.xI iE 91 _ 0 (fun _=>True))).2.2 (Nat.le_refl _) aGX)).mono ?_
 rintro e_ w7 ⟨v0,v1,rfl,h0,h1,hb⟩
 obtain⟨JJ,JL,rfl,JM,a2J⟩:=Kd.uK h0
 clear h0
 obtain⟨JO,JP,rfl,JQ,a2K⟩:=Kd.uK h1
 clear h1
 have K7:=K6.step hb
 clear hb K6
 gi_wp2_with fail
 refine⟨trivial,rfl,?_⟩
 refine(callsIn_wide.2 (aaV.calls JJ JL SN JO JP XZ 1 9 [0] 0 _ K7.tab a2J JM a2K JQ bpX)).mono ?_
 rintro e_ w8 ⟨v0,rfl,h0,hb⟩
 have K8:=K7.step hb
 clear hb K7 a2J a2K
 obtain⟨FP,JR,rfl,JS,a2L⟩:=Kd.uK h0
 clear h0
 replace K8:=K8.ZO a2L
 clear a2L
 gi_wp2_with fail
 refine⟨trivial,rfl,?_⟩
 refine(callsIn_wide.2 (lT.calls 1 1 1 1 _ rfl)).mono ?_
 rintro e_ w9 ⟨rfl,hb⟩
 have K9:=K8.step hb
 clear hb K8
 gi_wp2_with fail
 refine⟨trivial,rfl,?_⟩
 refine(callsIn_wide.2 (af7.calls (some ⟨w9.heap.size,0,none⟩) 1 [⟨1,⟨1,1⟩,⟨0,0⟩,false⟩] SN aGR _ (bpR w9 ⟨1,⟨1,1⟩,⟨0,0⟩,false⟩ _ rfl) (Nat.le_refl _) bpT)).mono ?_
 rintro e_ w10 ⟨v0,v1,rfl,h0,h1,hb⟩
 obtain⟨JU,JV,rfl,JW,a2M⟩:=Kd.uK h0
 clear h0
 obtain⟨JX,JY,rfl,JZ,a2N⟩:=Kd.uK h1
 clear h1
 have K10:=(K9.step (wC _ _)).step hb
 clear hb K9
 gi_wp2_with fail
 refine⟨trivial,rfl,?_⟩
 refine(callsIn_wide.2 (aaW.calls JU JV SN JX JY aGR [1] 0 _ K10.tab a2M JW a2N JZ bpY)).mono ?_
 rintro e_ vK ⟨v0,rfl,h0,hb⟩
 have K11:=K10.step hb
 clear hb K10 a2M a2N
 obtain⟨FQ,KA,rfl,KC,a2O⟩:=Kd.uK h0
 clear h0
 replace K11:=K11.ZO a2O
 clear a2O
 gi_wp2_with fail
 refine⟨trivial,rfl,?_⟩
 refine(callsIn_wide.2 (af8.calls 1 10 10 12 12 20 20 1 _ (asH 1))).mono ?_
 rintro e_ w12 ⟨rfl,hb⟩
 have K12:=K11.step hb
 clear hb K11
 gi_wp2_with fail
 refine⟨trivial,rfl,?_⟩
 refine(callsIn_wide.2 (af9.calls PO _ asG)).mono ?_
 rintro e_ tV ⟨v0,rfl,h0,hb⟩
 obtain⟨KF,KG,rfl,KH,a2Q⟩:=Kd.uK h0
 clear h0
 have K13:=K12.step hb
 clear hb K12
 gi_wp2_with fail
 refine⟨trivial,rfl,?_⟩
 refine(callsIn_wide.2 (asC.calls 10 10 12 12 20 20 1 KF KG PO 1 rE1 0 _ a2Q KH bpZ)).mono ?_
 rintro e_ rU ⟨v0,rfl,h0,hb⟩
 have K14:=K13.step hb
 clear hb K13 a2Q
 obtain⟨FT,KI,rfl,KJ,a2S⟩:=Kd.uK h0
 clear h0
 replace K14:=K14.aGU a2S
 clear a2S
 gi_wp2_with fail
 refine⟨trivial,rfl,?_⟩
 refine(callsIn_wide.2 (af8.calls 2 10 10 12 12 20 20 2 _ (asH 2))).mono ?_
 rintro e_ vY ⟨rfl,hb⟩
 have K15:=K14.step hb
 clear hb K14
 gi_wp2_with fail
 refine⟨trivial,rfl,?_⟩
 refine(callsIn_wide.2 (af9.calls PO _ asG)).mono ?_
 rintro e_ w16 ⟨v0,rfl,h0,hb⟩
 obtain⟨KL,KN,rfl,KO,a2U⟩:=Kd.uK h0
 clear h0
 have K16:=K15.step hb
 clear hb K15
 gi_wp2_with fail
 refine⟨trivial,rfl,?_⟩
 refine(callsIn_wide.2 (asC.calls 10 10 12 12 20 20 2 KL KN PO 1 rE2 0 _ a2U KO bp0)).mono ?_
 rintro e_ uS ⟨v0,rfl,h0,hb⟩
 have K17:=K16.step hb
 clear hb K16 a2U
 obtain⟨FU,KP,rfl,KR,a2W⟩:=Kd.uK h0
 clear h0
 replace K17:=K17.aGU a2W
 clear a2W
 gi_wp2_with fail
 refine⟨trivial,rfl,?_⟩
 refine(callsIn_wide.2 (af8.calls 1 10 10 12 12 20 20 1 _ (asH 1))).mono ?_
 rintro e_ BM ⟨rfl,hb⟩
 have K18:=K17.step hb
 clear hb K17
 gi_wp2_with fail
 refine⟨trivial,rfl,?_⟩
 refine(callsIn_wide.2 (af9.calls PO _ asG)).mono ?_
 rintro e_ xU ⟨v0,rfl,h0,hb⟩
 obtain⟨KT,KU,rfl,KW,a2Y⟩:=Kd.uK h0
 clear h0
 have K19:=K18.step hb
 clear hb K18
 gi_wp2_with fail
 refine⟨trivial,rfl,?_⟩
 refine(callsIn_wide.2 (aGQ.calls 10 10 12 12 20 20 1 KT KU PO 1 [1,2] [1,2] 0 _ a2Y KW bp1)).mono ?_
 rintro e_ zD ⟨v0,v1,rfl,h0,h1,hb⟩
 have K20:=K19.step hb
 clear hb K19 a2Y
 obtain⟨FV,KX,rfl,KY,a3A⟩:=Kd.uK h0
 clear h0
 replace K20:=K20.ZO a3A
 clear a3A
 obtain⟨NR,NS,rfl,NT,a3B⟩:=Kd.uK h1
 clear h1
 replace K20:=K20.ZO a3B
 clear a3B
 gi_wp2_with fail
 refine⟨trivial,rfl,?_⟩
 refine(callsIn_wide.2 (af8.calls 2 10 10 12 12 20 20 2 _ (asH 2))).mono ?_
 rintro e_ BR ⟨rfl,hb⟩
 have K21:=K20.step hb
 clear hb K20
 gi_wp2_with fail
 refine⟨trivial,rfl,?_⟩
 refine(callsIn_wide.2 (af9.calls PO _ asG)).mono ?_
 rintro e_ AU ⟨v0,rfl,h0,hb⟩
 obtain⟨KZ,LC,rfl,LD,a3D⟩:=Kd.uK h0
 clear h0
 have K22:=K21.step hb
 clear hb K21
 gi_wp2_with fail
 refine⟨trivial,rfl,?_⟩
 refine(callsIn_wide.2 (aGO.calls 10 10 12 12 20 20 2 KZ LC PO 1 [0,1] 0 _ K22.tab a3D LD bp2)).mono ?_
 rintro e_ EZ ⟨v0,rfl,h0,hb⟩
 have K23:=K22.step hb
 clear hb K22 a3D
 obtain⟨FX,LG,rfl,LH,a3E⟩:=Kd.uK h0
 clear h0
 replace K23:=K23.ZO a3E
 clear a3E
 gi_wp2_with fail
 refine⟨trivial,rfl,?_⟩
 refine(callsIn_wide.2 (af8.calls 1 10 10 12 12 20 20 1 _ (asH 1))).mono ?_
 rintro e_ BN ⟨rfl,hb⟩
 have K24:=K23.step hb
 clear hb K23
 gi_wp2_with fail
 refine⟨trivial,rfl,?_⟩
 refine(callsIn_wide.2 (af9.calls PO _ asG)).mono ?_
 rintro e_ AV ⟨v0,rfl,h0,hb⟩
 obtain⟨LJ,LK,rfl,LM,a3G⟩:=Kd.uK h0
 clear h0
 have K25:=K24.step hb
 clear hb K24
 gi_wp2_with fail
 refine⟨trivial,rfl,?_⟩
 refine(callsIn_wide.2 (ayW.calls 10 10 12 12 20 20 1 LJ LK PO 1 10 10 12 12 20 20 0 _ a3G LM bp3)).mono ?_
 rintro e_ xN ⟨rfl,hb⟩
 have K26:=K25.step hb
 clear hb K25 a3G
 gi_wp2_with fail
 obtain⟨wF,hwx⟩:∃ W,(((xN.alloc (Obj.cells #[.int .i64 10,.int .i64 10] 42)).alloc (Obj.cells #[.int .i64 12,.int .i64 12] 42)).alloc (Obj.cells #[.int .i64 20,.int .i64 20] 42))=W:=⟨_,rfl⟩
 have K27:=((K26.step (wC _ (Obj.cells #[.int .i64 10,.int .i64 10] 42))).step (wC _ (Obj.cells #[.int .i64 12,.int .i64 12] 42))).step (wC _ (Obj.cells #[.int .i64 20,.int .i64 20] 42))
 have xa:Box wF xN.heap.size #[.int .i64 10,.int .i64 10] 42:=by rw[<-hwx];exact((Box.new _ _ _).alloc _).alloc _
 have xb:Box wF (xN.heap.size+1) #[.int .i64 12,.int .i64 12] 42:=by rw[<-hwx];exact(Box.new' _ _ _ (by simp)).alloc _
 have xc:Box wF (xN.heap.size+1+1) #[.int .i64 20,.int .i64 20] 42:=by rw[<-hwx];exact Box.new' _ _ _ (by simp)
 rw[hwx]at K27 ⊢
 clear hwx K26
 have B27:Below wF.heap.size wF wF:=Below.refl _ _
 refine⟨trivial,rfl,?_⟩
 refine(callsIn_wide.2 (af8.calls 1 10 10 12 12 20 20 1 _ (asH 1))).mono ?_
 rintro e_ BQ ⟨rfl,hb⟩
 have K28:=K27.step hb
 have B28:=B27.trans (hb.mono B27.size)
 clear hb K27 B27
 gi_wp2_with fail
 refine⟨trivial,rfl,?_⟩
 refine(callsIn_wide.2 (af9.calls PO _ asG)).mono ?_
 rintro e_ EK ⟨v0,rfl,h0,hb⟩
 obtain⟨LP,LQ,rfl,LU,a3K⟩:=Kd.uK h0
 clear h0
 have K29:=K28.step hb
 have B29:=B28.trans (hb.mono B28.size)
 clear hb K28 B28
 gi_wp2_with fail
 refine⟨trivial,rfl,?_⟩
 refine(callsIn_wide.2 (aGP.calls 10 10 12 12 20 20 1 LP LQ PO 0 [1,2] 0 _ K29.tab a3K LU bp4)).mono ?_
 rintro e_ uF ⟨v0,rfl,h0,hb⟩
 have K30:=K29.step hb
 have B30:=B29.trans (hb.mono B29.size)
 clear hb K29 B29 a3K
 obtain⟨FY,LV,rfl,LW,a3L⟩:=Kd.uK h0
 clear h0
 replace K30:=K30.ZO a3L
 clear a3L
 gi_wp2_with fail
 obtain⟨a1,hA1,p0,p1⟩:=rE (show Kd.C iD _ aGZ rC1.length rC1 from K30.hs (aGZ,rC1) (by simp)) 0 (by decide) (show(0:Int)<((rC1.length:Nat):Int) by decide)
 obtain⟨a1b,a3M,q0,q1⟩:=rE (show Kd.C iD _ aGZ rC1.length rC1 from K30.hs (aGZ,rC1) (by simp)) 3 (by decide) (show(3:Int)<((rC1.length:Nat):Int) by decide)
 obtain⟨a2,hA2,r0,r1⟩:=rE (show Kd.C iD _ a2D rC2.length rC2 from K30.hs (a2D,rC2) (by simp)) 1 (by decide) (show(1:Int)<((rC2.length:Nat):Int) by decide)
 subst hA1
 obtain rfl:=Option.some.inj a3M
 subst hA2
 have hC:asE a1 a2 uF.drew:=asE.step ⟨p0,p1,q0,q1,r0,r1⟩ ((Below.refl _ _).drew)
 clear p0 p1 q0 q1 r0 r1 a3M
 have hb:Below uF.heap.size uF uF.drew:=(Below.refl _ _).drew
 have KD:=K30.step hb
 have BD:=B30.trans (hb.mono B30.size)
 clear hb K30 B30
 rename_i NU NV NW aG4 aG5 aG6 aG7
 revert w hT NU w1 IG II IJ IK IL IM w2 FN IP IQ FO IU IV w3 IW IX IY IZ JA JB w4 NF NG NH NI w5 JC JD JE JG JH JI w6 NJ NK NL NM NP NQ w7 JJ JL JM JO JP JQ w8 FP JR JS w9 w10 JU JV JW JX JY JZ vK FQ KA KC w12 tV KF KG KH rU FT KI KJ vY w16 KL KN KO uS FU KP KR BM xU KT KU KW zD FV KX KY NR NS NT BR AU KZ LC LD EZ FX LG LH BN AV LJ LK LM xN wF xa xb xc BQ EK LP LQ LU uF FY LV LW NV NW aG4 aG5 aG6 aG7 a1 a2 hC KD BD
 exact tY.out trivial
attribute [local go_sem] Oper.semAt_some run_store_func undef
noncomputable def aO4:{G:Prop // G->aOX.1}:=by
  refine⟨?_,?_⟩
  rotate_left
  intro tY
  replace tY:aA (True->_):=⟨fun _=>tY⟩
  intro w hT NU w1 IG II IJ IK IL IM w2 FN IP IQ FO IU IV w3 IW IX IY IZ JA JB w4 NF NG NH NI w5 JC JD JE JG JH JI w6 NJ NK NL NM NP NQ w7 JJ JL JM JO JP JQ w8 FP JR JS w9 w10 JU JV JW JX JY JZ vK FQ KA KC w12 tV KF KG KH rU FT KI KJ vY w16 KL KN KO uS FU KP KR BM xU KT KU KW zD FV KX KY NR NS NT BR AU KZ LC LD EZ FX LG LH BN AV LJ LK LM xN wF xa xb xc BQ EK LP LQ LU uF FY LV LW NV NW aG4 aG5 aG6 aG7 a1 a2 hC KD BD
  refine aaF 54 [(0,true),(1,false),(2,false),(3,false),(4,false),(5,true),(6,true),(7,true),(8,false),(9,false),(10,false),(11,false),(12,true),(13,true),(14,true),(15,true),(16,true),(17,true),(18,false),(19,true),(20,true),(21,true),(22,true),(23,true),(24,true),(25,false),(26,true),(27,true),(28,true),(29,true),(30,true),(31,true),(32,false),(33,true),(34,true),(35,true),(36,true),(37,true),(38,true),(39,true),(40,true),(41,true),(42,true),(43,true),(44,true),(45,false),(46,false),(47,true),(48,true),(49,true),(50,true),(51,false),(52,false),(53,true)] (asE a1 a2) (rZ.of (by kernel_rfl)) rfl (by kernel_rfl) hC ?_
  obtain⟨D,hD⟩:∃ D,uF.drew=D:=⟨_,rfl⟩
  rw[hD]at hC KD BD ⊢
  clear hD
  have hl2:((rC2.length:Nat):Int)=4:=rfl
  iterate 1
   apply FD rfl (fun _=>rfl) (by assumption)
   intro KQ wH wq hwq
   obtain⟨p0,p1,q0,q1,r0,r1⟩:=hwq
   go_simp
   exact wH
  refine uG rfl ?_
  gi_wp2_with fail
  refine⟨trivial,rfl,?_⟩
  refine(callsIn_wide.2 (lT.calls 0 1 0 1 _ rfl)).mono ?_
  rintro e_ yA ⟨rfl,hb⟩
  have K31:=KD.step hb
  have B31:=BD.trans (hb.mono BD.size)
  have aO6:=hC.step hb
  clear KD BD hC hb
  gi_wp2
  refine⟨aO6,?_⟩
  refine uG rfl ?_
  gi_wp2_with fail
  refine⟨trivial,rfl,?_⟩
  refine(callsIn_wide.2 (lT.calls 0 0 0 0 _ rfl)).mono ?_
  rintro e_ w32 ⟨rfl,hb⟩
  have K32:=K31.step hb
  have B32:=B31.trans (hb.mono B31.size)
  have aO8:=aO6.step hb
  clear K31 B31 aO6 hb
  gi_wp2
  refine⟨aO8,?_⟩
  refine uG rfl ?_
  gi_wp2
  obtain⟨NY,hwn⟩:∃ W,w32.alloc (Obj.cells #[.int .i64 0,.int .i64 1,.int .i64 0,.int .i64 0] 42)=W:=⟨_,rfl⟩
  have hb:Below w32.heap.size w32 NY:=by rw[<-hwn];exact wC _ _
  have vP:=a1U w32 ⟨0,1⟩ ⟨0,0⟩ _ rfl
  rw[hwn]at vP ⊢
  clear hwn
  have K33:=K32.step hb
  have B33:=B32.trans (hb.mono B32.size)
  have aPA:=aO8.step hb
  clear K32 B32 aO8 hb
  replace K33:=K33.asD vP
  clear vP
  refine⟨aPA,?_⟩
  refine uG rfl ?_
  gi_wp2_with fail
  refine⟨trivial,rfl,?_⟩
  refine(callsIn_wide.2 (mD.calls 9 FN IP rL1 (some ⟨w32.heap.size,0,none⟩) 2 [⟨0,1⟩,⟨0,0⟩] true _ (K33.hs (FN,rL1) (by simp)) IQ (K33.hs (some ⟨w32.heap.size,0,none⟩,[⟨0,1⟩,⟨0,0⟩]) (by simp)) (Nat.le_refl _) (by kernel_rfl))).mono ?_
  rintro e_ MN ⟨rfl,hdr⟩
  have hb:=hdr.below
  clear hdr
  have K34:=K33.step hb
  have B34:=B33.trans (hb.mono B33.size)
  have aPC:=aPA.step hb
  clear K33 B33 aPA hb
  gi_wp2
  refine⟨aPC,?_⟩
  iterate 3
   apply FD rfl (fun _=>rfl) (by assumption)
   intro KQ wH wq hwq
   obtain⟨p0,p1,q0,q1,r0,r1⟩:=hwq
   go_simp
   exact wH
  refine uG rfl ?_
  gi_wp2_with fail
  refine⟨trivial,rfl,?_⟩
  refine(callsIn_wide.2 (lT.calls 2 2 2 2 _ rfl)).mono ?_
  rintro e_ FB ⟨rfl,hb⟩
  have K35:=K34.step hb
  have B35:=B34.trans (hb.mono B34.size)
  have aPE:=aPC.step hb
  clear K34 B34 aPC hb
  gi_wp2
  refine⟨aPE,?_⟩
  refine uG rfl ?_
  gi_wp2_with fail
  refine⟨trivial,rfl,?_⟩
  refine(callsIn_wide.2 (lT.calls 6 8 6 8 _ rfl)).mono ?_
  rintro e_ xK ⟨rfl,hb⟩
  have K36:=K35.step hb
  have B36:=B35.trans (hb.mono B35.size)
  have aPG:=aPE.step hb
  clear K35 B35 aPE hb
  gi_wp2
  refine⟨aPG,?_⟩
  refine uG rfl ?_
  gi_wp2
  obtain⟨BO,hwn⟩:∃ W,xK.alloc (Obj.cells #[.int .i64 2,.int .i64 2,.int .i64 6,.int .i64 8] 42)=W:=⟨_,rfl⟩
  have hb:Below xK.heap.size xK BO:=by rw[<-hwn];exact wC _ _
  have vP:=a1U xK ⟨2,2⟩ ⟨6,8⟩ _ rfl
  rw[hwn]at vP ⊢
  clear hwn
  have K37:=K36.step hb
  have B37:=B36.trans (hb.mono B36.size)
  have aPI:=aPG.step hb
  clear K36 B36 aPG hb
  replace K37:=K37.asD vP
  clear vP
  refine⟨aPI,?_⟩
  refine uG rfl ?_
  gi_wp2_with fail
  refine⟨trivial,rfl,?_⟩
  refine(callsIn_wide.2 (mD.calls 9 FO IU rL2 (some ⟨xK.heap.size,0,none⟩) 2 [⟨2,2⟩,⟨6,8⟩] true _ (K37.hs (FO,rL2) (by simp)) IV (K37.hs (some ⟨xK.heap.size,0,none⟩,[⟨2,2⟩,⟨6,8⟩]) (by simp)) (Nat.le_refl _) (by kernel_rfl))).mono ?_
  rintro e_ AX ⟨rfl,hdr⟩
  have hb:=hdr.below
  clear hdr
  have K38:=K37.step hb
  have B38:=B37.trans (hb.mono B37.size)
  have ay0:=aPI.step hb
  clear K37 B37 aPI hb
  gi_wp2
  refine⟨ay0,?_⟩
  revert w hT NU w1 IG II IJ IK IL IM w2 FN IP IQ FO IU IV w3 IW IX IY IZ JA JB w4 NF NG NH NI w5 JC JD JE JG JH JI w6 NJ NK NL NM NP NQ w7 JJ JL JM JO JP JQ w8 FP JR JS w9 w10 JU JV JW JX JY JZ vK FQ KA KC w12 tV KF KG KH rU FT KI KJ vY w16 KL KN KO uS FU KP KR BM xU KT KU KW zD FV KX KY NR NS NT BR AU KZ LC LD EZ FX LG LH BN AV LJ LK LM xN wF xa xb xc BQ EK LP LQ LU uF FY LV LW NV NW aG4 aG5 aG6 aG7 a1 a2 D hl2 yA w32 NY MN FB xK BO AX K38 B38 ay0
  exact tY.out trivial
attribute [local go_sem] Oper.semAt_some run_store_func undef
noncomputable def aPJ:{G:Prop // G->aO4.1}:=by
  refine⟨?_,?_⟩
  rotate_left
  intro tY
  replace tY:aA (True->_):=⟨fun _=>tY⟩
  intro w hT NU w1 IG II IJ IK IL IM w2 FN IP IQ FO IU IV w3 IW IX IY IZ JA JB w4 NF NG NH NI w5 JC JD JE JG JH JI w6 NJ NK NL NM NP NQ w7 JJ JL JM JO JP JQ w8 FP JR JS w9 w10 JU JV JW JX JY JZ vK FQ KA KC w12 tV KF KG KH rU FT KI KJ vY w16 KL KN KO uS FU KP KR BM xU KT KU KW zD FV KX KY NR NS NT BR AU KZ LC LD EZ FX LG LH BN AV LJ LK LM xN wF xa xb xc BQ EK LP LQ LU uF FY LV LW NV NW aG4 aG5 aG6 aG7 a1 a2 D hl2 yA w32 NY MN FB xK BO AX K38 B38 ay0
  iterate 6
   apply FD rfl (fun _=>rfl) (by assumption)
   intro KQ wH wq hwq
   obtain⟨p0,p1,q0,q1,r0,r1⟩:=hwq
   go_simp
   exact wH
  refine uG rfl ?_
  gi_wp2_with fail
  refine⟨trivial,rfl,?_⟩
  refine(callsIn_wide.2 (lT.calls 5 6 5 6 _ rfl)).mono ?_
  rintro e_ OZ ⟨rfl,hb⟩
  have K39:=K38.step hb
  have B39:=B38.trans (hb.mono B38.size)
  have aPL:=ay0.step hb
  clear K38 B38 ay0 hb
  gi_wp2
  refine⟨aPL,?_⟩
  iterate 6
   apply FD rfl (fun _=>rfl) (by assumption)
   intro KQ wH wq hwq
   obtain⟨p0,p1,q0,q1,r0,r1⟩:=hwq
   go_simp
   exact wH
  refine uG rfl ?_
  gi_wp2_with fail
  refine⟨trivial,rfl,?_⟩
  refine(callsIn_wide.2 (lT.calls 8 9 8 9 _ rfl)).mono ?_
  rintro e_ PE ⟨rfl,hb⟩
  have K40:=K39.step hb
  have B40:=B39.trans (hb.mono B39.size)
  have aPN:=aPL.step hb
  clear K39 B39 aPL hb
  gi_wp2
  refine⟨aPN,?_⟩
  iterate 6
   apply FD rfl (fun _=>rfl) (by assumption)
   intro KQ wH wq hwq
   obtain⟨p0,p1,q0,q1,r0,r1⟩:=hwq
   go_simp
   exact wH
  refine uG rfl ?_
  gi_wp2_with fail
  refine⟨trivial,rfl,?_⟩
  refine(callsIn_wide.2 (lT.calls 10 12 10 12 _ rfl)).mono ?_
  rintro e_ AZ ⟨rfl,hb⟩
  have K41:=K40.step hb
  have B41:=B40.trans (hb.mono B40.size)
  have aPP:=aPN.step hb
  clear K40 B40 aPN hb
  gi_wp2
  refine⟨aPP,?_⟩
  iterate 12
   apply FD rfl (fun _=>rfl) (by assumption)
   intro KQ wH wq hwq
   obtain⟨p0,p1,q0,q1,r0,r1⟩:=hwq
   go_simp
   exact wH
  refine uG rfl ?_
  gi_wp2
  obtain⟨MJ,hwn⟩:∃ W,AZ.alloc (Obj.cells #[.int .i64 0] 3)=W:=⟨_,rfl⟩
  have hb:Below AZ.heap.size AZ MJ:=by rw[<-hwn];exact wC _ _
  have vP:=(show Kd.C (Kd.int .i64) (AZ.alloc (Obj.cells #[.int .i64 0] 3)) (some ⟨AZ.heap.size,0,none⟩) 1 [0]from au0 AZ [0] _ rfl (by decide))
  rw[hwn]at vP ⊢
  clear hwn
  have K42:=K41.step hb
  have B42:=B41.trans (hb.mono B41.size)
  have aPR:=aPP.step hb
  clear K41 B41 aPP hb
  replace K42:=K42.ZO vP
  clear vP
  refine⟨aPR,?_⟩
  refine uG rfl ?_
  gi_wp2_with fail
  refine⟨trivial,rfl,?_⟩
  refine(callsIn_wide.2 (oD.calls 9 FP JR [0] (some ⟨AZ.heap.size,0,none⟩) 1 [0] true _ (K42.hi (FP,[0]) (by simp)) JS (K42.hi (some ⟨AZ.heap.size,0,none⟩,[0]) (by simp)) (Nat.le_refl _) (by kernel_rfl))).mono ?_
  rintro e_ BH ⟨rfl,hdr⟩
  have hb:=hdr.below
  clear hdr
  have K43:=K42.step hb
  have B43:=B42.trans (hb.mono B42.size)
  have aPT:=aPR.step hb
  clear K42 B42 aPR hb
  gi_wp2
  refine⟨aPT,?_⟩
  iterate 4
   apply FD rfl (fun _=>rfl) (by assumption)
   intro KQ wH wq hwq
   obtain⟨p0,p1,q0,q1,r0,r1⟩:=hwq
   go_simp
   exact wH
  refine uG rfl ?_
  gi_wp2
  obtain⟨PN,hwn⟩:∃ W,BH.alloc (Obj.cells #[.int .i64 1] 3)=W:=⟨_,rfl⟩
  have hb:Below BH.heap.size BH PN:=by rw[<-hwn];exact wC _ _
  have vP:=(show Kd.C (Kd.int .i64) (BH.alloc (Obj.cells #[.int .i64 1] 3)) (some ⟨BH.heap.size,0,none⟩) 1 [1]from au0 BH [1] _ rfl (by decide))
  rw[hwn]at vP ⊢
  clear hwn
  have K44:=K43.step hb
  have B44:=B43.trans (hb.mono B43.size)
  have aPV:=aPT.step hb
  clear K43 B43 aPT hb
  replace K44:=K44.ZO vP
  clear vP
  refine⟨aPV,?_⟩
  refine uG rfl ?_
  gi_wp2_with fail
  refine⟨trivial,rfl,?_⟩
  refine(callsIn_wide.2 (oD.calls 9 FQ KA [1] (some ⟨BH.heap.size,0,none⟩) 1 [1] true _ (K44.hi (FQ,[1]) (by simp)) KC (K44.hi (some ⟨BH.heap.size,0,none⟩,[1]) (by simp)) (Nat.le_refl _) (by kernel_rfl))).mono ?_
  rintro e_ EL ⟨rfl,hdr⟩
  have hb:=hdr.below
  clear hdr
  have K45:=K44.step hb
  have B45:=B44.trans (hb.mono B44.size)
  have a3X:=aPV.step hb
  clear K44 B44 aPV hb
  gi_wp2
  refine⟨a3X,?_⟩
  iterate 1
   apply FD rfl (fun _=>rfl) (by assumption)
   intro KQ wH wq hwq
   obtain⟨p0,p1,q0,q1,r0,r1⟩:=hwq
   go_simp
   exact wH
  show wpListIn _ _ _ _ _ _ _ _
  try simp only[List.drop_succ_cons,List.drop_zero]
  gi_wp2
  rw[yZ]
  gi_wp2_with fail
  have hX0:asF xN.heap.size EL.drew:=asF.step ⟨(xa.below B45 xa.lt).cell 0 rfl,(xa.below B45 xa.lt).cell 1 rfl,(xb.below B45 xb.lt).cell 0 rfl,(xb.below B45 xb.lt).cell 1 rfl,(xc.below B45 xc.lt).cell 0 rfl,(xc.below B45 xc.lt).cell 1 rfl⟩ ((Below.refl _ _).drew)
  have hb:Below EL.heap.size EL EL.drew:=(Below.refl _ _).drew
  have KE:=K45.step hb
  have BE:=B45.trans (hb.mono B45.size)
  clear hb K45 B45 a3X
  rename_i UU UW UX
  revert w hT NU w1 IG II IJ IK IL IM w2 FN IP IQ FO IU IV w3 IW IX IY IZ JA JB w4 NF NG NH NI w5 JC JD JE JG JH JI w6 NJ NK NL NM NP NQ w7 JJ JL JM JO JP JQ w8 FP JR JS w9 w10 JU JV JW JX JY JZ vK FQ KA KC w12 tV KF KG KH rU FT KI KJ vY w16 KL KN KO uS FU KP KR BM xU KT KU KW zD FV KX KY NR NS NT BR AU KZ LC LD EZ FX LG LH BN AV LJ LK LM xN wF xa xb xc BQ EK LP LQ LU uF FY LV LW NV NW a1 a2 D hl2 yA w32 NY MN FB xK BO AX OZ PE AZ UU MJ BH PN EL UW UX hX0 KE BE
  exact tY.out trivial
attribute [local go_sem] Oper.semAt_some run_store_func undef
noncomputable def aPW:{G:Prop // G->aPJ.1}:=by
  refine⟨?_,?_⟩
  rotate_left
  intro tY
  replace tY:aA (True->_):=⟨fun _=>tY⟩
  intro w hT NU w1 IG II IJ IK IL IM w2 FN IP IQ FO IU IV w3 IW IX IY IZ JA JB w4 NF NG NH NI w5 JC JD JE JG JH JI w6 NJ NK NL NM NP NQ w7 JJ JL JM JO JP JQ w8 FP JR JS w9 w10 JU JV JW JX JY JZ vK FQ KA KC w12 tV KF KG KH rU FT KI KJ vY w16 KL KN KO uS FU KP KR BM xU KT KU KW zD FV KX KY NR NS NT BR AU KZ LC LD EZ FX LG LH BN AV LJ LK LM xN wF xa xb xc BQ EK LP LQ LU uF FY LV LW NV NW a1 a2 D hl2 yA w32 NY MN FB xK BO AX OZ PE AZ UU MJ BH PN EL UW UX hX0 KE BE
  refine bpO 43 (CG.row [(0,true),(1,false),(2,false),(3,false),(4,true),(5,true)] (.perm [6,7,8,9] (CG.row [(10,false),(11,false),(12,true),(13,true),(14,true),(15,false),(16,false),(17,true),(18,true),(19,true),(20,false),(21,false),(22,true),(23,true),(24,true),(25,false),(26,true),(27,true),(28,true),(29,true),(30,false),(31,true),(32,true),(33,true),(34,true),(35,false),(36,true),(37,true),(38,true),(39,true),(40,false),(41,false),(42,true)] .done))) (asF xN.heap.size) (rZ.of (by kernel_rfl)) rfl (by kernel_rfl) hX0 ?_
  simp only[CG.row]
  obtain⟨E,hE⟩:∃ D,EL.drew=D:=⟨_,rfl⟩
  rw[hE]at hX0 KE BE ⊢
  clear hE
  iterate 1
   apply agO rfl (fun _=>rfl) (by assumption)
   intro KQ wH wq hwq
   obtain⟨x0,x1,x2,x3,x4,x5⟩:=hwq
   go_simp
   exact wH
  refine YB rfl ?_
  gi_wp2
  obtain⟨FZ,hwn⟩:∃ W,E.alloc (Obj.cells #[.int .i64 0,.int .i64 1,.int .i64 (-1)] 3)=W:=⟨_,rfl⟩
  have hb:Below E.heap.size E FZ:=by rw[<-hwn];exact wC _ _
  have ajG:=ayY E E.heap.size (Nat.le_refl _) 0 1 (-1) _ rfl
  rw[hwn]at ajG ⊢
  clear hwn
  have K46:=KE.step hb
  have B46:=BE.trans (hb.mono BE.size)
  have ay2:=hX0.step hb
  clear KE BE hX0 hb
  refine⟨ay2,?_⟩
  revert w hT NU w1 IG II IJ IK IL IM w2 FN IP IQ FO IU IV w3 IW IX IY IZ JA JB w4 NF NG NH NI w5 JC JD JE JG JH JI w6 NJ NK NL NM NP NQ w7 JJ JL JM JO JP JQ w8 FP JR JS w9 w10 JU JV JW JX JY JZ vK FQ KA KC w12 tV KF KG KH rU FT KI KJ vY w16 KL KN KO uS FU KP KR BM xU KT KU KW zD FV KX KY NR NS NT BR AU KZ LC LD EZ FX LG LH BN AV LJ LK LM xN wF xa xb xc BQ EK LP LQ LU uF FY LV LW NV NW a1 a2 D hl2 yA w32 NY MN FB xK BO AX OZ PE AZ UU MJ BH PN EL UW UX E FZ ajG K46 B46 ay2
  exact tY.out trivial
attribute [local go_sem] Oper.semAt_some run_store_func undef
noncomputable def aPX:{G:Prop // G->aPW.1}:=by
 refine⟨?_,?_⟩
 rotate_left
 intro tY
 replace tY:aA (True->_):=⟨fun _=>tY⟩
 intro w hT NU w1 IG II IJ IK IL IM w2 FN IP IQ FO IU IV w3 IW IX IY IZ JA JB w4 NF NG NH NI w5 JC JD JE JG JH JI w6 NJ NK NL NM NP NQ w7 JJ JL JM JO JP JQ w8 FP JR JS w9 w10 JU JV JW JX JY JZ vK FQ KA KC w12 tV KF KG KH rU FT KI KJ vY w16 KL KN KO uS FU KP KR BM xU KT KU KW zD FV KX KY NR NS NT BR AU KZ LC LD EZ FX LG LH BN AV LJ LK LM xN wF xa xb xc BQ EK LP LQ LU uF FY LV LW NV NW a1 a2 D hl2 yA w32 NY MN FB xK BO AX OZ PE AZ UU MJ BH PN EL UW UX E FZ ajG K46 B46 ay2
 refine YB rfl ?_
 gi_wp2
 obtain⟨VN,hwn⟩:∃ W,FZ.alloc (Obj.cells #[.slice (some ⟨E.heap.size,0,none⟩) 3 3] 34)=W:=⟨_,rfl⟩
 have hb:Below FZ.heap.size FZ VN:=by rw[<-hwn];exact wC _ _
 have vP:=a1V FZ E.heap.size (Nat.le_of_lt (World.ownsRow.lt ajG _ rfl).2) [.slice (some ⟨E.heap.size,0,none⟩) 3 3] [[0,1,-1]] rfl (by decide) (fun j y x hy hx=>one_row ajG hy hx) _ rfl
 rw[hwn]at vP ⊢
 clear hwn
 have K47:=K46.step hb
 have B47:=B46.trans (hb.mono B46.size)
 have ay4:=ay2.step hb
 clear K46 B46 ay2 hb
 replace K47:=K47.aGU vP
 clear vP
 refine⟨ay4,?_⟩
 revert w hT NU w1 IG II IJ IK IL IM w2 FN IP IQ FO IU IV w3 IW IX IY IZ JA JB w4 NF NG NH NI w5 JC JD JE JG JH JI w6 NJ NK NL NM NP NQ w7 JJ JL JM JO JP JQ w8 FP JR JS w9 w10 JU JV JW JX JY JZ vK FQ KA KC w12 tV KF KG KH rU FT KI KJ vY w16 KL KN KO uS FU KP KR BM xU KT KU KW zD FV KX KY NR NS NT BR AU KZ LC LD EZ FX LG LH BN AV LJ LK LM xN wF xa xb xc BQ EK LP LQ LU uF FY LV LW NV NW a1 a2 D hl2 yA w32 NY MN FB xK BO AX OZ PE AZ UU MJ BH PN EL UW UX E FZ ajG VN B47 ay4 K47
 exact tY.out trivial
attribute [local go_sem] Oper.semAt_some run_store_func undef
noncomputable def aPY:{G:Prop // G->aPX.1}:=by
  refine⟨?_,?_⟩
  rotate_left
  intro tY
  replace tY:aA (True->_):=⟨fun _=>tY⟩
  intro w hT NU w1 IG II IJ IK IL IM w2 FN IP IQ FO IU IV w3 IW IX IY IZ JA JB w4 NF NG NH NI w5 JC JD JE JG JH JI w6 NJ NK NL NM NP NQ w7 JJ JL JM JO JP JQ w8 FP JR JS w9 w10 JU JV JW JX JY JZ vK FQ KA KC w12 tV KF KG KH rU FT KI KJ vY w16 KL KN KO uS FU KP KR BM xU KT KU KW zD FV KX KY NR NS NT BR AU KZ LC LD EZ FX LG LH BN AV LJ LK LM xN wF xa xb xc BQ EK LP LQ LU uF FY LV LW NV NW a1 a2 D hl2 yA w32 NY MN FB xK BO AX OZ PE AZ UU MJ BH PN EL UW UX E FZ ajG VN B47 ay4 K47
  refine YB rfl ?_
  gi_wp2_with fail
  refine⟨trivial,rfl,?_⟩
  refine(callsIn_wide.2 (ZH.calls 12 FT KI rE1 (some ⟨FZ.heap.size,0,none⟩) 1 [[0,1,-1]] true _ (K47.hr (FT,rE1) (by simp)) KJ (K47.hr (some ⟨FZ.heap.size,0,none⟩,[[0,1,-1]]) (by simp)) (Nat.le_refl _) (by kernel_rfl))).mono ?_
  rintro e_ TW ⟨rfl,hdr⟩
  have hb:=hdr.below
  clear hdr
  have K48:=K47.step hb
  have B48:=B47.trans (hb.mono B47.size)
  have aHB:=ay4.step hb
  clear K47 B47 ay4 hb
  gi_wp2
  refine⟨aHB,?_⟩
  clear ajG
  iterate 2
   apply agO rfl (fun _=>rfl) (by assumption)
   intro KQ wH wq hwq
   obtain⟨x0,x1,x2,x3,x4,x5⟩:=hwq
   go_simp
   exact wH
  revert w hT NU w1 IG II IJ IK IL IM w2 FN IP IQ FO IU IV w3 IW IX IY IZ JA JB w4 NF NG NH NI w5 JC JD JE JG JH JI w6 NJ NK NL NM NP NQ w7 JJ JL JM JO JP JQ w8 FP JR JS w9 w10 JU JV JW JX JY JZ vK FQ KA KC w12 tV KF KG KH rU FT KI KJ vY w16 KL KN KO uS FU KP KR BM xU KT KU KW zD FV KX KY NR NS NT BR AU KZ LC LD EZ FX LG LH BN AV LJ LK LM xN wF xa xb xc BQ EK LP LQ LU uF FY LV LW NV NW a1 a2 D hl2 yA w32 NY MN FB xK BO AX OZ PE AZ UU MJ BH PN EL UW UX E FZ VN TW K48 B48 aHB
  exact tY.out trivial
attribute [local go_sem] Oper.semAt_some run_store_func undef
noncomputable def aPZ:{G:Prop // G->aPY.1}:=by
 refine⟨?_,?_⟩
 rotate_left
 intro tY
 replace tY:aA (True->_):=⟨fun _=>tY⟩
 intro w hT NU w1 IG II IJ IK IL IM w2 FN IP IQ FO IU IV w3 IW IX IY IZ JA JB w4 NF NG NH NI w5 JC JD JE JG JH JI w6 NJ NK NL NM NP NQ w7 JJ JL JM JO JP JQ w8 FP JR JS w9 w10 JU JV JW JX JY JZ vK FQ KA KC w12 tV KF KG KH rU FT KI KJ vY w16 KL KN KO uS FU KP KR BM xU KT KU KW zD FV KX KY NR NS NT BR AU KZ LC LD EZ FX LG LH BN AV LJ LK LM xN wF xa xb xc BQ EK LP LQ LU uF FY LV LW NV NW a1 a2 D hl2 yA w32 NY MN FB xK BO AX OZ PE AZ UU MJ BH PN EL UW UX E FZ VN TW K48 B48 aHB
 refine bpQ (JK TW) 212 213 214 215 (.tuple #[]) (.tuple #[]) (.tuple #[]) (.tuple #[]) (by rfl) (fun fl hfl=>⟨Below.refl _ _,fun h=>absurd ((hfl 6 (by simp)).symm.trans h) Bool.false_ne_true,fun h=>absurd ((hfl 7 (by simp)).symm.trans h) Bool.false_ne_true,fun h=>absurd ((hfl 8 (by simp)).symm.trans h) Bool.false_ne_true,fun h=>absurd ((hfl 9 (by simp)).symm.trans h) Bool.false_ne_true⟩) ?s6 ?s7 ?s8 ?s9 ?fin
 case s6=>
  intro fl w_ v6 v7 v8 v9 hfl hC_ hJ
  refine⟨_,rfl,?_⟩
  gi_wp2
  exact⟨hC_.step (wC _ _),.slice (some ⟨w_.heap.size,0,none⟩) 3 3,v7,v8,v9,rfl,hJ.s6 _ rfl⟩
 case s7=>
  intro fl w_ v6 v7 v8 v9 hfl hC_ hJ
  refine⟨_,rfl,?_⟩
  gi_wp2
  exact⟨hC_.step (wC _ _),v6,.slice (some ⟨w_.heap.size,0,none⟩) 3 3,v8,v9,rfl,hJ.s7 _ rfl⟩
 case s8=>
  intro fl w_ v6 v7 v8 v9 hfl hC_ hJ
  refine⟨_,rfl,?_⟩
  gi_wp2
  exact⟨hC_.step (wC _ _),v6,v7,.slice (some ⟨w_.heap.size,0,none⟩) 3 3,v9,rfl,hJ.s8 _ rfl⟩
 case s9=>
  intro fl w_ v6 v7 v8 v9 hfl hC_ hJ
  refine⟨_,rfl,?_⟩
  gi_wp2
  exact⟨hC_.step (wC _ _),v6,v7,v8,.slice (some ⟨w_.heap.size,0,none⟩) 3 3,rfl,hJ.s9 _ rfl⟩
 intro fl yJ v6 v7 v8 v9 hall aHC hJ
 have o6:=hJ.j6 (hall 6 (by simp))
 have o7:=hJ.j7 (hall 7 (by simp))
 have o8:=hJ.j8 (hall 8 (by simp))
 have o9:=hJ.j9 (hall 9 (by simp))
 have hb:=hJ.b
 clear hJ hall
 obtain⟨a6_,z6_,rfl⟩:∃ A c,v6=.slice A (3:Nat) c:=Kd.dA (eH.R o6)
 obtain⟨a7_,z7_,rfl⟩:∃ A c,v7=.slice A (3:Nat) c:=Kd.dA (eH.R o7)
 obtain⟨a8_,z8_,rfl⟩:∃ A c,v8=.slice A (3:Nat) c:=Kd.dA (eH.R o8)
 obtain⟨a9_,z9_,rfl⟩:∃ A c,v9=.slice A (3:Nat) c:=Kd.dA (eH.R o9)
 have K49:=K48.step hb
 have B49:=B48.trans (hb.mono B48.size)
 have hle:=hb.size
 clear hb K48 B48 aHB
 revert w hT NU w1 IG II IJ IK IL IM w2 FN IP IQ FO IU IV w3 IW IX IY IZ JA JB w4 NF NG NH NI w5 JC JD JE JG JH JI w6 NJ NK NL NM NP NQ w7 JJ JL JM JO JP JQ w8 FP JR JS w9 w10 JU JV JW JX JY JZ vK FQ KA KC w12 tV KF KG KH rU FT KI KJ vY w16 KL KN KO uS FU KP KR BM xU KT KU KW zD FV KX KY NR NS NT BR AU KZ LC LD EZ FX LG LH BN AV LJ LK LM xN wF xa xb xc BQ EK LP LQ LU uF FY LV LW NV NW a1 a2 D hl2 yA w32 NY MN FB xK BO AX OZ PE AZ UU MJ BH PN EL UW UX E FZ VN TW fl yJ aHC a6_ z6_ o6 a7_ z7_ o7 a8_ z8_ o8 a9_ z9_ o9 K49 B49 hle
 exact tY.out trivial
attribute [local go_sem] Oper.semAt_some run_store_func undef
noncomputable def aP0:{G:Prop // G->aPZ.1}:=by
 refine⟨?_,?_⟩
 rotate_left
 intro tY
 replace tY:aA (True->_):=⟨fun _=>tY⟩
 intro w hT NU w1 IG II IJ IK IL IM w2 FN IP IQ FO IU IV w3 IW IX IY IZ JA JB w4 NF NG NH NI w5 JC JD JE JG JH JI w6 NJ NK NL NM NP NQ w7 JJ JL JM JO JP JQ w8 FP JR JS w9 w10 JU JV JW JX JY JZ vK FQ KA KC w12 tV KF KG KH rU FT KI KJ vY w16 KL KN KO uS FU KP KR BM xU KT KU KW zD FV KX KY NR NS NT BR AU KZ LC LD EZ FX LG LH BN AV LJ LK LM xN wF xa xb xc BQ EK LP LQ LU uF FY LV LW NV NW a1 a2 D hl2 yA w32 NY MN FB xK BO AX OZ PE AZ UU MJ BH PN EL UW UX E FZ VN TW fl yJ aHC a6_ z6_ o6 a7_ z7_ o7 a8_ z8_ o8 a9_ z9_ o9 K49 B49 hle
 refine YB rfl ?_
 gi_wp2
 obtain⟨w50,hwn⟩:∃ W,yJ.alloc (Obj.cells #[.slice a6_ (3:Nat) z6_,.slice a7_ (3:Nat) z7_,.slice a8_ (3:Nat) z8_,.slice a9_ (3:Nat) z9_] 34)=W:=⟨_,rfl⟩
 have hb:Below yJ.heap.size yJ w50:=by rw[<-hwn];exact wC _ _
 have vP:=a1V yJ TW.heap.size hle [.slice a6_ (3:Nat) z6_,.slice a7_ (3:Nat) z7_,.slice a8_ (3:Nat) z8_,.slice a9_ (3:Nat) z9_] rE2 rfl (by decide) (fun j y x hy hx=>bpS o6 o7 o8 o9 hy hx) _ rfl
 rw[hwn]at vP ⊢
 clear hwn
 have K50:=K49.step hb
 have B50:=B49.trans (hb.mono B49.size)
 have ay8:=aHC.step hb
 clear K49 B49 aHC hb
 replace K50:=K50.aGU vP
 clear vP
 refine⟨ay8,?_⟩
 clear o6 o7 o8 o9 hle
 revert w hT NU w1 IG II IJ IK IL IM w2 FN IP IQ FO IU IV w3 IW IX IY IZ JA JB w4 NF NG NH NI w5 JC JD JE JG JH JI w6 NJ NK NL NM NP NQ w7 JJ JL JM JO JP JQ w8 FP JR JS w9 w10 JU JV JW JX JY JZ vK FQ KA KC w12 tV KF KG KH rU FT KI KJ vY w16 KL KN KO uS FU KP KR BM xU KT KU KW zD FV KX KY NR NS NT BR AU KZ LC LD EZ FX LG LH BN AV LJ LK LM xN wF xa xb xc BQ EK LP LQ LU uF FY LV LW NV NW a1 a2 D hl2 yA w32 NY MN FB xK BO AX OZ PE AZ UU MJ BH PN EL UW UX E FZ VN TW fl yJ a6_ z6_ a7_ z7_ a8_ z8_ a9_ z9_ w50 B50 ay8 K50
 exact tY.out trivial
attribute [local go_sem] Oper.semAt_some run_store_func undef
noncomputable def aP1:{G:Prop // G->aP0.1}:=by
  refine⟨?_,?_⟩
  rotate_left
  intro tY
  replace tY:aA (True->_):=⟨fun _=>tY⟩
  intro w hT NU w1 IG II IJ IK IL IM w2 FN IP IQ FO IU IV w3 IW IX IY IZ JA JB w4 NF NG NH NI w5 JC JD JE JG JH JI w6 NJ NK NL NM NP NQ w7 JJ JL JM JO JP JQ w8 FP JR JS w9 w10 JU JV JW JX JY JZ vK FQ KA KC w12 tV KF KG KH rU FT KI KJ vY w16 KL KN KO uS FU KP KR BM xU KT KU KW zD FV KX KY NR NS NT BR AU KZ LC LD EZ FX LG LH BN AV LJ LK LM xN wF xa xb xc BQ EK LP LQ LU uF FY LV LW NV NW a1 a2 D hl2 yA w32 NY MN FB xK BO AX OZ PE AZ UU MJ BH PN EL UW UX E FZ VN TW fl yJ a6_ z6_ a7_ z7_ a8_ z8_ a9_ z9_ w50 B50 ay8 K50
  refine YB rfl ?_
  gi_wp2_with fail
  refine⟨trivial,rfl,?_⟩
  refine(callsIn_wide.2 (ZH.calls 12 FU KP rE2 (some ⟨yJ.heap.size,0,none⟩) 4 rE2 true _ (K50.hr (FU,rE2) (by simp)) KR (K50.hr (some ⟨yJ.heap.size,0,none⟩,rE2) (by simp)) (Nat.le_refl _) (by kernel_rfl))).mono ?_
  rintro e_ ZP ⟨rfl,hdr⟩
  have hb:=hdr.below
  clear hdr
  have K51:=K50.step hb
  have B51:=B50.trans (hb.mono B50.size)
  have aP3:=ay8.step hb
  clear K50 B50 ay8 hb
  gi_wp2
  refine⟨aP3,?_⟩
  iterate 3
   apply agO rfl (fun _=>rfl) (by assumption)
   intro KQ wH wq hwq
   obtain⟨x0,x1,x2,x3,x4,x5⟩:=hwq
   go_simp
   exact wH
  refine YB rfl ?_
  gi_wp2
  obtain⟨w52,hwn⟩:∃ W,ZP.alloc (Obj.cells #[.int .i64 1,.int .i64 2] 3)=W:=⟨_,rfl⟩
  have hb:Below ZP.heap.size ZP w52:=by rw[<-hwn];exact wC _ _
  have vP:=(show Kd.C (Kd.int .i64) (ZP.alloc (Obj.cells #[.int .i64 1,.int .i64 2] 3)) (some ⟨ZP.heap.size,0,none⟩) 2 [1,2]from au0 ZP [1,2] _ rfl (by decide))
  rw[hwn]at vP ⊢
  clear hwn
  have K52:=K51.step hb
  have B52:=B51.trans (hb.mono B51.size)
  have aP5:=aP3.step hb
  clear K51 B51 aP3 hb
  replace K52:=K52.ZO vP
  clear vP
  refine⟨aP5,?_⟩
  refine YB rfl ?_
  gi_wp2_with fail
  refine⟨trivial,rfl,?_⟩
  refine(callsIn_wide.2 (oD.calls 9 FV KX [1,2] (some ⟨ZP.heap.size,0,none⟩) 2 [1,2] true _ (K52.hi (FV,[1,2]) (by simp)) KY (K52.hi (some ⟨ZP.heap.size,0,none⟩,[1,2]) (by simp)) (Nat.le_refl _) (by kernel_rfl))).mono ?_
  rintro e_ XI ⟨rfl,hdr⟩
  have hb:=hdr.below
  clear hdr
  have K53:=K52.step hb
  have B53:=B52.trans (hb.mono B52.size)
  have azA:=aP5.step hb
  clear K52 B52 aP5 hb
  gi_wp2
  refine⟨azA,?_⟩
  iterate 3
   apply agO rfl (fun _=>rfl) (by assumption)
   intro KQ wH wq hwq
   obtain⟨x0,x1,x2,x3,x4,x5⟩:=hwq
   go_simp
   exact wH
  revert w hT NU w1 IG II IJ IK IL IM w2 FN IP IQ FO IU IV w3 IW IX IY IZ JA JB w4 NF NG NH NI w5 JC JD JE JG JH JI w6 NJ NK NL NM NP NQ w7 JJ JL JM JO JP JQ w8 FP JR JS w9 w10 JU JV JW JX JY JZ vK FQ KA KC w12 tV KF KG KH rU FT KI KJ vY w16 KL KN KO uS FU KP KR BM xU KT KU KW zD FV KX KY NR NS NT BR AU KZ LC LD EZ FX LG LH BN AV LJ LK LM xN wF xa xb xc BQ EK LP LQ LU uF FY LV LW NV NW a1 a2 D hl2 yA w32 NY MN FB xK BO AX OZ PE AZ UU MJ BH PN EL UW UX E FZ VN TW fl yJ a6_ z6_ a7_ z7_ a8_ z8_ a9_ z9_ w50 ZP w52 XI K53 B53 azA
  exact tY.out trivial
end Go.Proofs.YtcmfnebcmmklkaaDoor.Hand
