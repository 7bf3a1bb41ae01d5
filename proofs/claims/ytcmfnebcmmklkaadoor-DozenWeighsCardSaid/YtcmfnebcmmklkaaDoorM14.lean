/- What the laws of chapter 9 share: words about rows and regions, the walks of the package dozen, and that known returns true. Part 14 of 15. -/
import Derived.Test.YtcmfnebcmmklkaaDoorM9
import Derived.Test.YtcmfnebcmmklkaaDoorM12
import Derived.Test.YtcmfnebcmmklkaaDoorM6
set_option linter.unusedVariables false
set_option linter.unusedSimpArgs false
set_option maxRecDepth 100000
set_option maxHeartbeats 8000000
namespace Go.Proofs.YtcmfnebcmmklkaaDoor.Hand
open Go.RowKit Go.Shelf Go.Proofs.YtcmfnebcmmklkaaDoorW.dQ Go.Proofs.YtcmfnebcmmklkaaDoorW.gG Go.Proofs.YtcmfnebcmmklkaaDoor.Q
attribute [local go_sem] Oper.semAt_some run_store_func undef
def xE (L:List aH) (m:Int) (l:List Int):Int:=l.foldl (fun r o=>r - (bM L o).f1) m
theorem aF8 (L:List aH) (m:Int) (l:List Int) (o:Int):xE L m (l++[o])=xE L m l - (bM L o).f1:=by
 unfold xE
 rw[List.foldl_append]
 rfl
def ar7 (L1 L2:List aH) (m n:Int) (l best:List Int):Bool:=
 decide (0<=xE L1 m l)&&(decide (0<=xE L2 n l)&&(decide (best.length<l.length)||(decide (l.length=best.length)&&decide (cmpL l best<0))))
def EJ (L1 L2:List aH) (m n:Int):Nat->List Int
 |0=>[]
 |s+1=>if ar7 L1 L2 m n (iQ s) (EJ L1 L2 m n s)=true then iQ s else EJ L1 L2 m n s
def QP (os:List aZ) (ls:List aI) (m n:Int):Int:=if(oG os ls).2.2.2.2=0 then(if allIn 0 1000 [m,n]=true then 0 else 3)else(oG os ls).2.2.2.2
def QQ (os:List aZ) (ls:List aI) (m n:Int):List Int:=if(oG os ls).2.2.2.2=0/\allIn 0 1000 [m,n]=true then EJ (oG os ls).1 (oG os ls).2.2.1 m n (2^os.length)else[]
theorem boJ (L1 L2:List aH) (m n:Int):∀ s,s<=256->(EJ L1 L2 m n s).length<=8:=by
 intro s
 induction s with
 |zero=>intro _;exact Nat.zero_le _
 |succ s ih=>
  intro h
  unfold EJ
  split
  ·exact agA s h
  ·exact ih (Nat.le_of_succ_le h)
theorem boK {os:List aZ} {ls:List aI} (h:(oG os ls).2.2.2.2=0):os.length<=5/\(oG os ls).1.length=os.length/\(oG os ls).2.2.1.length=os.length/\
  (∀ i:Nat,i<os.length->0<=(bM (oG os ls).1 i).f1/\(bM (oG os ls).1 i).f1<=144)/\(∀ i:Nat,i<os.length->0<=(bM (oG os ls).2.2.1 i).f1/\(bM (oG os ls).2.2.1 i).f1<=144):=by
 have hc:oP os ls=0:=by
  unfold oG at h
  split at h
  ·assumption
  ·rename_i hq;exact absurd h hq
 have ht:vZ os ls 0=true:=by
  unfold oG at h
  rw[if_pos hc]at h
  split at h
  ·assumption
  ·cases h
 have e:oG os ls=(qP rJ qB os ls 0 os.length,zN rJ qB os ls 0 os.length,qP tC qQ os ls 0 os.length,zN tC qQ os ls 0 os.length,0):=by
  unfold oG
  rw[if_pos hc,if_pos ht]
 obtain⟨hL,hR⟩:=af4 hc
 unfold vZ at ht
 rw[Bool.and_eq_true,zO,zO]at ht
 rw[e]
 have key:∀ (od:aZ->Int) (sd:aI->aH),RZ od sd os ls->(∀ j,j<os.length->(iP od sd os ls 0 j).2.2=true)->∀ i:Nat,i<os.length->0<=(bM (qP od sd os ls 0 os.length) i).f1/\(bM (qP od sd os ls 0 os.length) i).f1<=144:=by
  intro od sd hk hj i hi
  have hM:=hk.ord i hi
  have:bM (qP od sd os ls 0 os.length) (i:Int)=af1 (od (dK os i)) (iP od sd os ls 0 i).2.1:=by
   unfold bM qP
   rw[Int.toNat_natCast]
   simp[List.getD_eq_getElem?_getD,hi]
  rw[this]
  have h1:=hj i hi
  unfold iP fE at h1 ⊢
  by_cases hok:yY (od (dK os i)) (kZ sd ls i 0 ls.length) (kZ sd ls i 0 ls.length).length=true
  ·rw[if_pos hok]
   have hb:=aVU hM hk.lots (kZ sd ls i 0 ls.length).length (Nat.le_refl _)
   have hb3:=hb.2.2 hok
   show 0<=od (dK os i) - (gU (od (dK os i)) (kZ sd ls i 0 ls.length) (kZ sd ls i 0 ls.length).length).f0/\od (dK os i) - (gU (od (dK os i)) (kZ sd ls i 0 ls.length) (kZ sd ls i 0 ls.length).length).f0<=(144:Int)
   obtain⟨hb1,hb2,_⟩:=hb
   constructor<;>omega
  ·rw[if_neg hok]at h1
   cases h1
 exact⟨(FM hc).1.2,aaO _ _ _ _ _ _,aaO _ _ _ _ _ _,key rJ qB hL ht.1,key tC qQ hR ht.2⟩
theorem a0Z {L:List aH} {k:Nat} (hL:∀ i:Nat,i<k->0<=(bM L i).f1/\(bM L i).f1<=144) {m:Int} (hm:0<=m/\m<=1000):∀ (l:List Int),(∀ o∈l,0<=o/\o<(k:Int))-> -(144*(l.length:Int))<=xE L m l/\xE L m l<=1000:=by
 intro l hl
 obtain⟨q,hq⟩:∃ q,l.reverse=q:=⟨_,rfl⟩
 obtain rfl:l=q.reverse:=by rw[<-hq,List.reverse_reverse]
 clear hq
 induction q with
 |nil=>exact⟨by simp[xE];omega,by simp[xE];omega⟩
 |cons o q ih=>
  rw[List.reverse_cons]at hl ⊢
  obtain⟨h1,h2⟩:=ih fun x hx=>hl x (List.mem_append_left _ hx)
  obtain⟨h3,h4⟩:=hl o (by simp)
  have h5:=hL o.toNat (by omega)
  rw[Int.toNat_of_nonneg h3]at h5
  rw[aF8,List.length_append]
  simp only[List.length_cons,List.length_nil]
  constructor<;>omega
structure agK (b13 bT:Nat) (x0 x1:Int) (v0 v1 v2 v3:Value) (a1 a2:Addr) (y1 y2:Int) (W:World):Prop where
 g0:W.cell? ⟨b13,0,none⟩=some (.int .i64 x0)
 g1:W.cell? ⟨b13,1,none⟩=some (.int .i64 x1)
 g2:W.cell? ⟨bT,0,none⟩=some v0
 g3:W.cell? ⟨bT,1,none⟩=some v1
 g4:W.cell? ⟨bT,2,none⟩=some v2
 g5:W.cell? ⟨bT,3,none⟩=some v3
 g6:W.cell? ⟨a1.block,a1.off+1,none⟩=some (.int .i64 y1)
 g7:W.cell? ⟨a2.block,a2.off+1,none⟩=some (.int .i64 y2)
theorem agK.step {b13 bT:Nat} {x0 x1:Int} {v0 v1 v2 v3:Value} {a1 a2:Addr} {y1 y2:Int} {W W':World} (h:agK b13 bT x0 x1 v0 v1 v2 v3 a1 a2 y1 y2 W) (hb:Below W.heap.size W W'):agK b13 bT x0 x1 v0 v1 v2 v3 a1 a2 y1 y2 W':=
 ⟨jW hb h.g0,jW hb h.g1,jW hb h.g2,jW hb h.g3,jW hb h.g4,jW hb h.g5,jW hb h.g6,jW hb h.g7⟩
theorem a1A {x:Int} {k:Nat} (h: -(144*(k:Int))<=x/\x<=1000) (hk:k<=8):wrap64 x=x:=jF (by omega) (by omega)
theorem le2 {i:Nat} (h:i<=2):i=0∨i=1∨i=2:=by omega
theorem aF9 {W W':World} {ad:Addr} {L:List aH} (h:Kd.C iD W (some ad) L.length L) (hb:Below W.heap.size W W') (o:Int) (h0:0<=o) (h1:o<L.length):W'.cell? ⟨(ad.add (o.toNat*2)).block,(ad.add (o.toNat*2)).off+1,none⟩=some (.int .i64 (bM L o).f1):=by
 obtain⟨ad',hA,_,u⟩:=rE (Kd.bJ h hb) o h0 h1
 obtain rfl:=Option.some.inj hA
 exact u
theorem boM {s M:Nat} (h:s<M) (hM:M<=32):IntKind.u64.wrap ((s:Int)+1)=((s+1:Nat):Int):=by
 rw[IntWalk.u64_in]<;>omega
theorem mes {s M:Nat} (h:s<M) (hw:IntKind.u64.wrap ((s:Int)+1)=((s+1:Nat):Int)):M - (intOf (Value.int .u64 (IntKind.u64.wrap ((s:Int)+1)))).toNat<M - (intOf (Value.int .u64 (s:Int))).toNat:=by
 rw[hw]
 show M - (s+1)<M - s
 exact Nat.sub_succ_lt_self _ _ h
theorem boN {m n:Int} (h:allIn 0 1000 [m,n]=true):(0<=m/\m<=1000)/\(0<=n/\n<=1000):=by
 simp[allIn,xR]at h
 omega
theorem boO {k:Nat} (h:k<=5):2^k<=32:=Nat.le_trans (Nat.pow_le_pow_right (by decide) h) (by decide)
theorem boP (os:List aZ) (ls:List aI) (m n:Int) (A0 A1:Option Addr) (c0 c1:Nat) (w:World) (hT:lZ w) (hr0:Kd.C iJ w A0 os.length os) (hc0:os.length<=c0) (hr1:Kd.C iE w A1 ls.length ls) (hc1:ls.length<=c1):
  Calls Tryd.prog 31 #[.agg #[.slice A0 os.length c0,.slice A1 ls.length c1],.int .i64 m,.int .i64 n] w fun e w'=>∃ v,e=.returned (.tuple #[v,.int .i64 (QP os ls m n)])/\eH w' w.heap.size v (QQ os ls m n)/\Below w.heap.size w w':=by
 have hop:=Lib.hid (fun(W:World) (hb:Below w.heap.size w W)=>aaM.calls 61 A0 c0 os A1 c1 ls (oG os ls).1 (oG os ls).2.1 (oG os ls).2.2.1 (oG os ls).2.2.2.1 (oG os ls).2.2.2.2 W (Kd.bJ hr0 hb) hc0 (Kd.bJ hr1 hb) hc1 (aX4 os ls 61 (Nat.le_refl _)))
 refine(callsIn_wide (n:=0)).1 ?_
 refine callsIn_of_wp Tryd.func31 rfl trivial ?_
 simp only[Tryd.ntmps31,List.size_toArray,List.length_cons,List.length_nil,Nat.reduceAdd,Nat.reduceSub,Array.replicate_succ,Array.replicate_zero,List.push_toArray,List.append_toArray,List.nil_append,List.cons_append]
 obtain⟨Wa,hWa⟩:∃ Wa,w.alloc (.cells #[.slice A0 os.length c0,.slice A1 ls.length c1] 25)=Wa:=⟨_,rfl⟩
 have hba:Below w.heap.size w Wa:=by rw[<-hWa];exact(Below.refl _ _).alloc (Nat.le_refl _) _
 have hB0:Box Wa w.heap.size #[.slice A0 os.length c0,.slice A1 ls.length c1] 25:=by rw[<-hWa];exact Box.new _ _ _
 have q0:Wa.cell? ⟨w.heap.size,0,none⟩=some (.slice A0 os.length c0):=hB0.cell 0 rfl
 have q1:Wa.cell? ⟨w.heap.size,1,none⟩=some (.slice A1 ls.length c1):=hB0.cell 1 rfl
 gi_wp2_with fail
 try rw[hWa]
 refine⟨trivial,rfl,?_⟩
 refine(callsIn_wide.2 (hop.out Wa hba)).mono ?_
 rintro e w1 ⟨v0,v1,v2,v3,rfl,h0,h1,h2,h3,hb1⟩
 have hB1:=hba.trans (hb1.mono hba.size)
 have hX1:=hB0.step hb1
 obtain⟨B0,d0,rfl,_,g0⟩:=Kd.uK h0
 obtain⟨B1,d1,rfl,_,_⟩:=Kd.uK h1
 obtain⟨B2,d2,rfl,_,g2⟩:=Kd.uK h2
 obtain⟨B3,d3,rfl,_,_⟩:=Kd.uK h3
 obtain⟨er,her⟩:∃ er,(oG os ls).2.2.2.2=er:=⟨_,rfl⟩
 have Her:=Lib.hid her
 rw[her]
 clear h0 h1 h2 h3 hb1 hba hB0 q0 q1 hWa hop
 by_cases he:er=0
 ·have hok:=Lib.hid (boK (her.trans he))
  have HE:=Lib.hid (her.trans he)
  subst he
  clear her Her
  obtain⟨L1,hL1⟩:∃ x,(oG os ls).1=x:=⟨_,rfl⟩
  obtain⟨L2,hL2⟩:∃ x,(oG os ls).2.2.1=x:=⟨_,rfl⟩
  obtain⟨n1,hn1⟩:∃ x,(oG os ls).2.1.length=x:=⟨_,rfl⟩
  obtain⟨n3,hn3⟩:∃ x,(oG os ls).2.2.2.1.length=x:=⟨_,rfl⟩
  rw[hn1,hn3]
  rw[hL1,hL2]at hok ⊢
  rw[hL1]at g0
  rw[hL2]at g2
  have HL1:=Lib.hid hL1
  have HL2:=Lib.hid hL2
  obtain⟨W2,hW2⟩:∃ W2,w1.alloc (.cells #[.slice B0 L1.length d0,.slice B1 n1 d1,.slice B2 L2.length d2,.slice B3 n3 d3] 125)=W2:=⟨_,rfl⟩
  have hb2:Below w1.heap.size w1 W2:=by rw[<-hW2];exact(Below.refl _ _).alloc (Nat.le_refl _) _
  have hX2:Box W2 w1.heap.size #[.slice B0 L1.length d0,.slice B1 n1 d1,.slice B2 L2.length d2,.slice B3 n3 d3] 125:=by rw[<-hW2];exact Box.new _ _ _
  have hB2:=hB1.trans (hb2.mono hB1.size)
  have hY2:=hX1.step hb2
  have G0:=Kd.bJ g0 hb2
  have G2:=Kd.bJ g2 hb2
  have HW2:=Lib.hid hW2
  clear hL1 hL2 hn1 hn3 hb2 hW2 g0 g2 hX1
  gi_wp2_with fail
  rw[HW2.out]
  refine⟨trivial,rfl,?_⟩
  have hsz:W2.heap.size=w1.heap.size+1:=by rw[<-HW2.out];simp
  refine(callsIn_wide.2 (GK 0 1000 [m,n] _ 2 _ (auV W2 m n 3 _ hsz))).mono ?_
  rintro e W3 ⟨rfl,hb3⟩
  have ar9:Below W2.heap.size W2 W3:=((Below.refl _ _).alloc (Nat.le_refl _) _).trans (hb3.mono (by simp))
  obtain⟨wb,hwb⟩:∃ wb,allIn 0 1000 [m,n]=wb:=⟨_,rfl⟩
  rw[hwb]
  have hB3:=hB2.trans (ar9.mono hB2.size)
  have hX3:=hX2.step ar9
  have hY3:=hY2.step ar9
  have G03:=Kd.bJ G0 ar9
  have G23:=Kd.bJ G2 ar9
  clear hb3 ar9 HW2 hsz hX2 hY2 G0 G2 hB2
  cases wb
  ·have hE:Hid (QP os ls m n=3):=Lib.hid (by unfold QP;rw[if_pos HE.out,hwb];rfl)
   have hL:Hid (QQ os ls m n=[]):=Lib.hid (by unfold QQ;rw[if_neg (fun h=>Bool.false_ne_true (hwb.symm.trans h.2))])
   clear hwb hX3 hY3 G03 G23 hok
   gi_wp2_with fail
   refine bodyPost_ret (v:=.tuple #[.slice none 0 0,.int .i64 3]) (by simp[results,Tryd.results31,go_sem]) rfl ?_
   exact⟨_,by rw[hE.out],by rw[hL.out];exact eH.nil _ _,hB3⟩
  ·have hE:Hid (QP os ls m n=0):=Lib.hid (by unfold QP;rw[if_pos HE.out,if_pos hwb])
   have hL:Hid (QQ os ls m n=EJ L1 L2 m n (2^os.length)):=Lib.hid (by unfold QQ;rw[if_pos ⟨HE.out,hwb⟩,HL1.out,HL2.out])
   have hmn:=Lib.hid (boN hwb)
   obtain⟨M,hM⟩:∃ M,2^os.length=M:=⟨_,rfl⟩
   have aOL:=Lib.hid (hM ▸ boO hok.out.1:M<=32)
   have hwr:IntKind.u64.wrap (2^min os.length 64)=((M:Nat):Int):=by
    rw[Nat.min_eq_left (Nat.le_trans hok.out.1 (by decide)),show((2:Int)^os.length)=((2^os.length:Nat):Int) by simp,hM]
    exact aE4 M (Nat.lt_of_le_of_lt aOL.out (by decide))
   rw[hM]at hL
   have HM:=Lib.hid hM
   have q0:W3.cell? ⟨w.heap.size,0,none⟩=some (.slice A0 os.length c0):=hY3.cell 0 rfl
   have hTT:=hT.below hB3
   clear hwb hM
   gi_wp2
   clear hwr q0
   gi_loopw [10,36] (fun bv iv wr=>∃ s:Nat,s<=M/\iv=.int .u64 s/\eH wr w.heap.size bv (EJ L1 L2 m n s)/\Below W3.heap.size W3 wr) (fun _ iv _=>M - (intOf iv).toNat)
   case atStart=>exact⟨0,Nat.zero_le _,rfl,eH.nil _ _,Below.refl _ _⟩
   case round=>
    obtain⟨s,hs,rfl,ho,hB⟩:=hrel
    obtain⟨Ab,cb,rfl⟩:=eH.slice ho
    by_cases hlt:s<M
    ·have hs8:s<256:=Nat.lt_of_lt_of_le hlt (Nat.le_trans aOL.out (by decide))
     have hl:=Lib.hid (awX s hs8 wr (hTT.below hB))
     have hsx:(s:Int)<(M:Int):=Int.ofNat_lt.2 hlt
     gi_wp2_with fail
     refine⟨trivial,rfl,?_⟩
     refine(callsIn_wide.2 hl.out).mono ?_
     rintro e w2 ⟨v2,rfl,ho2,-,hb5⟩
     have wX:=hB.trans (hb5.mono hB.size)
     have hwz:=Lib.hid hB.size
     have XY:=eH.below' ho hb5
     have hln:=Lib.hid (agA s hs8)
     have hin:=Lib.hid (fun c (hc:c∈iQ s)=>a0P hok.out.1 (by rw[HM.out];exact hlt) hc)
     have hfs:Hid (EJ L1 L2 m n (s+1)=if ar7 L1 L2 m n (iQ s) (EJ L1 L2 m n s)=true then iQ s else EJ L1 L2 m n s):=Lib.hid rfl
     have hbl:=Lib.hid (boJ L1 L2 m n s (Nat.le_of_lt hs8))
     obtain⟨l,hle⟩:∃ l,iQ s=l:=⟨_,rfl⟩
     obtain⟨bst,hbe⟩:∃ l,EJ L1 L2 m n s=l:=⟨_,rfl⟩
     rw[hle]at ho2 hln hin hfs
     rw[hbe]at XY hfs hbl ⊢
     obtain⟨Al,cl,rfl⟩:=eH.slice ho2
     obtain⟨W5,hW5⟩:∃ W5,w2.alloc (.cells #[.int .i64 m,.int .i64 n] 86)=W5:=⟨_,rfl⟩
     have hb6:Below w2.heap.size w2 W5:=by rw[<-hW5];exact(Below.refl _ _).alloc (Nat.le_refl _) _
     have hx0:Box W5 w2.heap.size #[.int .i64 (xE L1 m (l.take 0)),.int .i64 (xE L2 n (l.take 0))] 86:=by rw[<-hW5];exact Box.new _ _ _
     have HW5:=Lib.hid hW5
     have HS:=Lib.hid hlt
     clear hl hle hbe hW5 hb5 ho hB hs8 hs
     gi_wp2
     rw[HW5.out]
     have hl2:=eH.C ho2
     gi_loopw [46] (fun jv wr=>∃ j:Nat,j<=l.length/\jv=.int .i64 j/\Box wr w2.heap.size #[.int .i64 (xE L1 m (l.take j)),.int .i64 (xE L2 n (l.take j))] 86/\Below w2.heap.size w2 wr) (fun jv _=>l.length - (intOf jv).toNat)
     case atStart=>exact⟨0,Nat.zero_le _,rfl,hx0,hb6⟩
     case round=>
      obtain⟨j,hj,rfl,hx,hB7⟩:=hrel
      clear hx0 hb6
      by_cases hjl:j<l.length
      ·have hjx:(j:Int)<(l.length:Int):=Int.ofNat_lt.2 hjl
       have hj0:(0:Int)<=(j:Int):=Int.natCast_nonneg j
       obtain⟨al,hAl,a1⟩:=Kd.BL (Kd.bJ hl2 hB7) (j:Int) hj0 hjx
       subst hAl
       rw[Int.toNat_natCast]at a1
       have hcm:rd l (j:Int)∈l:=by
        unfold rd
        rw[Int.toNat_natCast]
        exact getD_mem (by simpa using hjl) _
       have hob:=hin.out _ hcm
       have htk:l.take (j+1)=l.take j++[rd l (j:Int)]:=by
        unfold rd
        rw[Int.toNat_natCast,List.take_succ_eq_append_getElem hjl]
        simp[List.getD_eq_getElem?_getD,hjl]
       have hr1:Hid (xE L1 m (l.take (j+1))=xE L1 m (l.take j) - (bM L1 (rd l (j:Int))).f1):=Lib.hid (by rw[htk,aF8])
       have hr2:Hid (xE L2 n (l.take (j+1))=xE L2 n (l.take j) - (bM L2 (rd l (j:Int))).f1):=Lib.hid (by rw[htk,aF8])
       have hbd1:=a0Z hok.out.2.2.2.1 hmn.out.1 (l.take (j+1)) (fun o ho=>hin.out o (List.mem_of_mem_take ho))
       have hbd2:=a0Z hok.out.2.2.2.2 hmn.out.2 (l.take (j+1)) (fun o ho=>hin.out o (List.mem_of_mem_take ho))
       have hwa:Hid (wrap64 (xE L1 m (l.take j) - (bM L1 (rd l (j:Int))).f1)=xE L1 m (l.take (j+1))):=Lib.hid (by rw[<-hr1.out];exact a1A hbd1 (by rw[List.length_take];exact Nat.le_trans (Nat.min_le_right _ _) hln.out))
       have hwb:Hid (wrap64 (xE L2 n (l.take j) - (bM L2 (rd l (j:Int))).f1)=xE L2 n (l.take (j+1))):=Lib.hid (by rw[<-hr2.out];exact a1A hbd2 (by rw[List.length_take];exact Nat.le_trans (Nat.min_le_right _ _) hln.out))
       obtain⟨o,hoe⟩:∃ o,rd l (j:Int)=o:=⟨_,rfl⟩
       rw[hoe]at a1 hob hwa hwb
       obtain⟨lH,hA1,_,u1⟩:=rE (Kd.bJ G03 (wX.trans (hB7.mono wX.size))) o hob.1 (by rw[hok.out.2.1];exact hob.2)
       obtain⟨rO,hA2,_,u2⟩:=rE (Kd.bJ G23 (wX.trans (hB7.mono wX.size))) o hob.1 (by rw[hok.out.2.2.1];exact hob.2)
       subst hA1
       subst hA2
       have ho0:=hob.1
       have ho1:o<(L1.length:Int):=by rw[hok.out.2.1];exact hob.2
       have wG:o<(L2.length:Int):=by rw[hok.out.2.2.1];exact hob.2
       obtain⟨y1,hy1⟩:∃ y,(bM L1 o).f1=y:=⟨_,rfl⟩
       obtain⟨y2,hy2⟩:∃ y,(bM L2 o).f1=y:=⟨_,rfl⟩
       obtain⟨x0,hx0⟩:∃ x,xE L1 m (l.take j)=x:=⟨_,rfl⟩
       obtain⟨x1,hx1⟩:∃ x,xE L2 n (l.take j)=x:=⟨_,rfl⟩
       obtain⟨z0,hz0⟩:∃ x,xE L1 m (l.take (j+1))=x:=⟨_,rfl⟩
       obtain⟨z1,hz1⟩:∃ x,xE L2 n (l.take (j+1))=x:=⟨_,rfl⟩
       rw[hy1]at u1 hwa
       rw[hy2]at u2 hwb
       rw[hx0]at hwa
       rw[hx1]at hwb
       rw[hx0,hx1]at hx
       rw[hz0]at hwa
       rw[hz1]at hwb
       have Hz0:=Lib.hid hz0
       have Hz1:=Lib.hid hz1
       have hwj:=Lib.hid (ar0 hjl hln.out)
       have hXr:=hX3.step (wX.trans (hB7.mono wX.size))
       have hxs:Box wr w2.heap.size #[.int .i64 (if 0<0 then z0 else x0),.int .i64 (if 1<0 then z1 else x1)] 86:=hx
       have hab:=Lib.hid (And.intro (Nat.ne_of_lt (World.block_lt_of_cell? _ _ (aF9 G03 wX o hob.1 (by rw[hok.out.2.1];exact hob.2)))) (Nat.ne_of_lt (World.block_lt_of_cell? _ _ (aF9 G23 wX o hob.1 (by rw[hok.out.2.2.1];exact hob.2)))))
       have hu1:=Lib.hid (aF9 G03 wX o hob.1 (by rw[hok.out.2.1];exact hob.2))
       have hu2:=Lib.hid (aF9 G23 wX o hob.1 (by rw[hok.out.2.2.1];exact hob.2))
       rw[hy1]at hu1
       rw[hy2]at hu2
       clear hbd1 hbd2 hr1 hr2 htk hcm hob hoe hy1 hy2 hx0 hx1 hz0 hz1 u1 u2
       gi_wp2
       gi_loopw [50] (fun iv wr=>∃ i:Nat,i<=2/\iv=.int .i64 i/\Box wr w2.heap.size #[.int .i64 (if 0<i then z0 else x0),.int .i64 (if 1<i then z1 else x1)] 86/\Below w2.heap.size w2 wr) (fun iv _=>2 - (intOf iv).toNat)
       case atStart=>exact⟨0,by decide,rfl,hxs,hB7⟩
       case round=>
        obtain⟨i,hi,rfl,hxi,XC⟩:=hrel
        have u1':=(XC.cell (World.block_lt_of_cell? _ _ hu1.out)).trans hu1.out
        have u2':=(XC.cell (World.block_lt_of_cell? _ _ hu2.out)).trans hu2.out
        have acS:=hX3.step (wX.trans (XC.mono wX.size))
        rcases le2 hi with rfl|rfl|rfl
        ·have kW:agK w2.heap.size w1.heap.size x0 x1 (.slice (some lH) L1.length d0) (.slice B1 n1 d1) (.slice (some rO) L2.length d2) (.slice B3 n3 d3) (lH.add (o.toNat*2)) (rO.add (o.toNat*2)) y1 y2 wr.drew:=
          agK.step ⟨hxi.cell 0 rfl,hxi.cell 1 rfl,acS.cell 0 rfl,acS.cell 1 rfl,acS.cell 2 rfl,acS.cell 3 rfl,u1',u2'⟩ ((Below.refl _ _).drew)
         have hBd:Below w2.heap.size w2 wr.drew:=XC.trans (((Below.refl _ _).drew).mono XC.size)
         have hxd:=hxi.drew
         have hfr:=hxd.frozen 0
         have aoI:Box wr.drew w2.heap.size #[.int .i64 x0,.int .i64 x1] 86:=hxd
         clear hxi u1' u2' acS XC
         gi_wp2
         refine aaF 13 [(0,true),(1,true),(2,true),(3,true),(4,true),(5,true),(6,true),(7,true),(8,true),(9,true),(10,true),(11,true),(12,true)] (agK w2.heap.size w1.heap.size x0 x1 (.slice (some lH) L1.length d0) (.slice B1 n1 d1) (.slice (some rO) L2.length d2) (.slice B3 n3 d3) (lH.add (o.toNat*2)) (rO.add (o.toNat*2)) y1 y2) (rZ.of (by kernel_rfl)) rfl (by kernel_rfl) kW ?_
         iterate 13 (apply FD rfl (fun _=>rfl) (by assumption);focus(intro K hK w' hw';obtain⟨g0,g1,g2,g3,g4,g5,g6,g7⟩:=hw';go_simp;exact hK))
         obtain⟨D,hD⟩:∃ D,wr.drew=D:=⟨_,rfl⟩
         rw[hD]at kW hBd hfr aoI ⊢
         clear hD hxd
         have hnb:(lH.add (o.toNat*2)).block≠w2.heap.size/\(rO.add (o.toNat*2)).block≠w2.heap.size:=⟨hab.out.1,hab.out.2⟩
         obtain⟨g0,g1,g2,g3,g4,g5,g6,g7⟩:=id kW
         show wpListIn _ _ _ _ _ _ _ _
         try simp only[List.drop_succ_cons,List.drop_zero]
         clear g2 g3 g4 g5
         gi_wp2
         rw[yZ]
         rw[hwa.out]
         have hB9:Below w2.heap.size w2 (D.setCell ⟨w2.heap.size,0,none⟩ (.int .i64 z0)):=hBd.setCell (p:=⟨w2.heap.size,0,none⟩) (Nat.le_refl _) _
         have hx9:Box (D.setCell ⟨w2.heap.size,0,none⟩ (.int .i64 z0)) w2.heap.size #[.int .i64 z0,.int .i64 x1] 86:=aoI.set 0 (.int .i64 z0)
         obtain⟨W9,hW9⟩:∃ W9,D.setCell ⟨w2.heap.size,0,none⟩ (.int .i64 z0)=W9:=⟨_,rfl⟩
         rw[hW9]at hB9 hx9 ⊢
         clear hW9 hfr kW aoI hBd g0 g1 g6 g7
         gi_wp2_with fail
         exact⟨⟨1,by decide,rfl,hx9,hB9⟩,by decide⟩
        ·have kW:agK w2.heap.size w1.heap.size z0 x1 (.slice (some lH) L1.length d0) (.slice B1 n1 d1) (.slice (some rO) L2.length d2) (.slice B3 n3 d3) (lH.add (o.toNat*2)) (rO.add (o.toNat*2)) y1 y2 wr.drew:=
          agK.step ⟨hxi.cell 0 rfl,hxi.cell 1 rfl,acS.cell 0 rfl,acS.cell 1 rfl,acS.cell 2 rfl,acS.cell 3 rfl,u1',u2'⟩ ((Below.refl _ _).drew)
         have hBd:Below w2.heap.size w2 wr.drew:=XC.trans (((Below.refl _ _).drew).mono XC.size)
         have hxd:=hxi.drew
         have hfr:=hxd.frozen 1
         have aoI:Box wr.drew w2.heap.size #[.int .i64 z0,.int .i64 x1] 86:=hxd
         clear hxi u1' u2' acS XC
         gi_wp2
         refine aaF 13 [(0,true),(1,true),(2,true),(3,true),(4,true),(5,true),(6,true),(7,true),(8,true),(9,true),(10,true),(11,true),(12,true)] (agK w2.heap.size w1.heap.size z0 x1 (.slice (some lH) L1.length d0) (.slice B1 n1 d1) (.slice (some rO) L2.length d2) (.slice B3 n3 d3) (lH.add (o.toNat*2)) (rO.add (o.toNat*2)) y1 y2) (rZ.of (by kernel_rfl)) rfl (by kernel_rfl) kW ?_
         iterate 13 (apply FD rfl (fun _=>rfl) (by assumption);focus(intro K hK w' hw';obtain⟨g0,g1,g2,g3,g4,g5,g6,g7⟩:=hw';go_simp;exact hK))
         obtain⟨D,hD⟩:∃ D,wr.drew=D:=⟨_,rfl⟩
         rw[hD]at kW hBd hfr aoI ⊢
         clear hD hxd
         have hnb:(lH.add (o.toNat*2)).block≠w2.heap.size/\(rO.add (o.toNat*2)).block≠w2.heap.size:=⟨hab.out.1,hab.out.2⟩
         obtain⟨g0,g1,g2,g3,g4,g5,g6,g7⟩:=id kW
         show wpListIn _ _ _ _ _ _ _ _
         try simp only[List.drop_succ_cons,List.drop_zero]
         clear g2 g3 g4 g5
         gi_wp2
         rw[yZ]
         rw[hwb.out]
         have hB9:Below w2.heap.size w2 (D.setCell ⟨w2.heap.size,1,none⟩ (.int .i64 z1)):=hBd.setCell (p:=⟨w2.heap.size,1,none⟩) (Nat.le_refl _) _
         have hx9:Box (D.setCell ⟨w2.heap.size,1,none⟩ (.int .i64 z1)) w2.heap.size #[.int .i64 z0,.int .i64 z1] 86:=aoI.set 1 (.int .i64 z1)
         obtain⟨W9,hW9⟩:∃ W9,D.setCell ⟨w2.heap.size,1,none⟩ (.int .i64 z1)=W9:=⟨_,rfl⟩
         rw[hW9]at hB9 hx9 ⊢
         clear hW9 hfr kW aoI hBd g0 g1 g6 g7
         gi_wp2_with fail
         exact⟨⟨2,by decide,rfl,hx9,hB9⟩,by decide⟩
        ·have boV:Box wr w2.heap.size #[.int .i64 (xE L1 m (l.take (j+1))),.int .i64 (xE L2 n (l.take (j+1)))] 86:=by
          rw[Hz0.out,Hz1.out]
          exact hxi
         clear hxi u1' u2' acS
         gi_wp2_with fail
         refine⟨⟨j+1,hjl,by rw[hwj.out];rfl,boV,XC⟩,?_⟩
         exact aOK hjl hwj.out
      ·obtain rfl:j=l.length:=Nat.le_antisymm hj (Nat.le_of_not_lt hjl)
       rw[List.take_length]at hx
       have hjx:¬ ((l.length:Int)<(l.length:Int)):=Int.lt_irrefl _
       obtain⟨r0,aOM⟩:∃ r,xE L1 m l=r:=⟨_,rfl⟩
       obtain⟨r1,aON⟩:∃ r,xE L2 n l=r:=⟨_,rfl⟩
       rw[aOM,aON]at hx
       have hfb:ar7 L1 L2 m n l bst=(decide (0<=r0)&&(decide (0<=r1)&&(decide (bst.length<l.length)||(decide (l.length=bst.length)&&decide (cmpL l bst<0))))):=by unfold ar7;rw[aOM,aON]
       have p0:wr.cell? ⟨w2.heap.size,0,none⟩=some (.int .i64 r0):=hx.cell 0 rfl
       have p1:wr.cell? ⟨w2.heap.size,1,none⟩=some (.int .i64 r1):=hx.cell 1 rfl
       have hBw:=wX.trans (hB7.mono wX.size)
       have asA:=eH.below' XY hB7
       have aGD:eH wr w.heap.size (.slice Al l.length cl) l:=eH.below' (eH.lower ho2 (Nat.le_trans hB3.size hwz.out)) hB7
       have hcw:=Lib.hid (aE3 Al cl l Ab cb bst wr (eH.C aGD) aGD.cap.1 (eH.C asA) asA.cap.1 (Nat.le_trans hln.out (by decide)))
       have hws:=Lib.hid (boM HS.out aOL.out)
       clear aOM aON hx
       by_cases h0:0<=r0
       ·by_cases h1:0<=r1
        ·have hd0:decide (0<=r0)=true:=decide_eq_true h0
         have hd1:decide (0<=r1)=true:=decide_eq_true h1
         rw[hd0,hd1,Bool.true_and,Bool.true_and]at hfb
         rcases Nat.lt_trichotomy bst.length l.length with hlt2|heq|hgt
         ·have hd2:decide (bst.length<l.length)=true:=decide_eq_true hlt2
          rw[hd2,Bool.true_or]at hfb
          rw[if_pos hfb]at hfs
          gi_wp2_with fail
          refine⟨trivial,?_⟩
          gi_wp2_with fail
          refine⟨⟨s+1,HS.out,by rw[hws.out],by rw[hfs.out];exact aGD,hBw⟩,?_⟩
          exact mes HS.out hws.out
         ·have hd2:decide (bst.length<l.length)=false:=decide_eq_false (Nat.not_lt.2 (Nat.le_of_eq heq.symm))
          have hd3:(l.length==bst.length)=true:=by rw[heq];exact beq_self_eq_true _
          rw[hd2,Bool.false_or,decide_eq_true heq.symm,Bool.true_and]at hfb
          have boW:((l.length:Int)==(bst.length:Int))=true:=by rw[heq];exact beq_self_eq_true _
          clear heq
          gi_wp2_with fail
          refine⟨trivial,rfl,?_⟩
          refine(callsIn_wide.2 hcw.out).mono ?_
          rintro e w9 ⟨rfl,hd9⟩
          have boX:=eH.below' aGD hd9.below
          have boY:=eH.below' asA hd9.below
          have a1C:=hBw.trans (hd9.below.mono hBw.size)
          obtain⟨r,hre⟩:∃ r,cmpL l bst=r:=⟨_,rfl⟩
          rw[hre]at hfb ⊢
          by_cases hr:r<0
          ·rw[decide_eq_true hr]at hfb
           rw[if_pos hfb]at hfs
           have hd4:decide (r<0)=true:=decide_eq_true hr
           gi_wp2_with fail
           refine⟨⟨s+1,HS.out,by rw[hws.out],by rw[hfs.out];exact boX,a1C⟩,?_⟩
           exact mes HS.out hws.out
          ·rw[decide_eq_false hr]at hfb
           rw[if_neg (fun h=>Bool.false_ne_true (hfb.symm.trans h))]at hfs
           have hd4:decide (r<0)=false:=decide_eq_false hr
           gi_wp2_with fail
           refine⟨⟨s+1,HS.out,by rw[hws.out],by rw[hfs.out];exact boY,a1C⟩,?_⟩
           exact mes HS.out hws.out
         ·have hd2:decide (bst.length<l.length)=false:=decide_eq_false (Nat.not_lt.2 (Nat.le_of_lt hgt))
          have hd3:(l.length==bst.length)=false:=beq_eq_false_iff_ne.2 (Nat.ne_of_lt hgt)
          rw[hd2,Bool.false_or,decide_eq_false (Nat.ne_of_lt hgt),Bool.false_and]at hfb
          rw[if_neg (fun h=>Bool.false_ne_true (hfb.symm.trans h))]at hfs
          have boW:((l.length:Int)==(bst.length:Int))=false:=beq_eq_false_iff_ne.2 (fun e=>Nat.ne_of_lt hgt (Int.ofNat.inj e))
          clear hgt
          gi_wp2_with fail
          refine⟨trivial,?_⟩
          gi_wp2_with fail
          refine⟨⟨s+1,HS.out,by rw[hws.out],by rw[hfs.out];exact asA,hBw⟩,?_⟩
          exact mes HS.out hws.out
        ·rw[decide_eq_true h0,decide_eq_false h1,Bool.true_and,Bool.false_and]at hfb
         rw[if_neg (fun h=>Bool.false_ne_true (hfb.symm.trans h))]at hfs
         have hd0:decide (0<=r0)=true:=decide_eq_true h0
         have hd1:decide (0<=r1)=false:=decide_eq_false h1
         gi_wp2_with fail
         refine⟨trivial,?_⟩
         gi_wp2_with fail
         refine⟨⟨s+1,HS.out,by rw[hws.out],by rw[hfs.out];exact asA,hBw⟩,?_⟩
         exact mes HS.out hws.out
       ·rw[decide_eq_false h0,Bool.false_and]at hfb
        rw[if_neg (fun h=>Bool.false_ne_true (hfb.symm.trans h))]at hfs
        have hd0:decide (0<=r0)=false:=decide_eq_false h0
        gi_wp2_with fail
        refine⟨trivial,?_⟩
        gi_wp2_with fail
        refine⟨⟨s+1,HS.out,by rw[hws.out],by rw[hfs.out];exact asA,hBw⟩,?_⟩
        exact mes HS.out hws.out
    ·obtain rfl:s=M:=Nat.le_antisymm hs (Nat.le_of_not_lt hlt)
     have hsx:¬ ((s:Int)<(s:Int)):=Int.lt_irrefl _
     have hB9:=hB3.trans (hB.mono hB3.size)
     gi_wp2_with fail
     refine bodyPost_ret (v:=.tuple #[.slice Ab (EJ L1 L2 m n s).length cb,.int .i64 0]) (by simp[results,Tryd.results31,go_sem]) rfl ?_
     exact⟨_,by rw[hE.out],by rw[hL.out];exact ho,hB9⟩
 ·have hE:Hid (QP os ls m n=er):=Lib.hid (by unfold QP;rw[her,if_neg he])
  have hL:Hid (QQ os ls m n=[]):=Lib.hid (by unfold QQ;rw[her,if_neg (fun h=>he h.1)])
  have hne:(er !=0)=true:=by simp[he]
  clear her Her he
  gi_wp2_with fail
  refine bodyPost_ret (v:=.tuple #[.slice none 0 0,.int .i64 er]) (by simp[results,Tryd.results31,go_sem]) rfl ?_
  exact⟨_,by rw[hE.out],by rw[hL.out];exact eH.nil _ _,hB1.alloc hB1.size _⟩
end Go.Proofs.YtcmfnebcmmklkaaDoor.Hand
namespace Go.Proofs.YtcmfnebcmmklkaaDoor.Hand
open Go.RowKit Go.Shelf Go.Proofs.YtcmfnebcmmklkaaDoorW.dQ Go.Proofs.YtcmfnebcmmklkaaDoorW.gG
section
variable {F:Fence} {m:Nat} {P:Program} {md:Region.Mode} {ops:Array Oper} {Q:Exit->Act->World->Prop} {C:World->Prop}
inductive CG where
 |done:CG
 |quiet:Nat->CG->CG
 |ev:Nat->CG->CG
 |perm:List Nat->CG->CG
def CG.row:List (Nat×Bool)->CG->CG
 |[],p=>p
 |(i,true)::l,p=>.quiet i (CG.row l p)
 |(i,false)::l,p=>.ev i (CG.row l p)
def WA (F:Fence) (m:Nat) (P:Program) (ops:Array Oper) (Q:Exit->Act->World->Prop) (C:World->Prop) (Lq:Act->World->Prop):CG->Act->World->Prop
 |.done,a,w=>Lq a w
 |.quiet i p,a,w=>∃ o v,ops[i]? =some o/\TZ P ops C o v a/\WA F m P ops Q C Lq p (a.put o.dst v) w
 |.ev i p,a,w=>wpOpIn F m P ops Q i (fun a' w'=>C w'/\WA F m P ops Q C Lq p a' w') a w
 |.perm S p,a,w=>∃ I:(Nat->Bool)->Act->World->Prop,(∀ fl:Nat->Bool,(∀ i∈S,fl i=false)->I fl a w)/\
   (∀ i∈S,∀ (fl:Nat->Bool) (a:Act) (w:World),fl i=false->C w->I fl a w->wpOpIn F m P ops Q i (fun a' w'=>C w'/\I (zU fl i) a' w') a w)/\
   (∀ (fl:Nat->Bool) (a:Act) (w:World),(∀ i∈S,fl i=true)->C w->I fl a w->WA F m P ops Q C Lq p a w)
def aoM (md:Region.Mode) (ops:Array Oper) (n:Nat) (S:List Nat) (cont:Array Bool->Bool):Nat->Array Bool->Bool
 |0,listed=>S.all (fun i=>UQ listed i)&&cont listed
 |r+1,listed=> !(Region.ready md ops listed).isEmpty&&(Region.ready md ops listed).all fun i=>
   decide (i<n)&&decide (i<listed.size)&&S.contains i&& !(UQ listed i)&&aoM md ops n S cont r (listed.setIfInBounds i true)
def ayX:List Nat->(List Nat->Bool)->Bool
 |[],p=>p []
 |i::S,p=>ayX S p&&ayX S fun T=>p (i::T)
theorem aGS:∀ (S:List Nat) (p:List Nat->Bool),ayX S p=true->∀ f:Nat->Bool,p (S.filter f)=true
 |[],_,h,_=>h
 |i::S,p,h,f=>by
  simp only[ayX,Bool.and_eq_true]at h
  cases e:f i with
  |true=>rw[List.filter_cons_of_pos e];exact aGS S _ h.2 f
  |false=>rw[List.filter_cons_of_neg (by simp[e])];exact aGS S _ h.1 f
def YA (listed:Array Bool) (T:List Nat):Array Bool:=T.foldl (fun l i=>l.setIfInBounds i true) listed
theorem a1P (T:List Nat):∀ (listed:Array Bool) (k:Nat),(YA listed T)[k]? =if k∈T/\k<listed.size then some true else listed[k]? :=by
 induction T with
 |nil=>intro listed k;simp[YA]
 |cons i T ih=>
  intro listed k
  show(YA (listed.setIfInBounds i true) T)[k]? =_
  rw[ih]
  simp only[Array.size_setIfInBounds,List.mem_cons,Array.getElem?_setIfInBounds]
  by_cases h1:k∈T<;>by_cases h2:k<listed.size<;>by_cases h3:i=k<;>simp_all
  all_goals (intro e;omega)
theorem bpM (S:List Nat) (listed:Array Bool) (f:Nat->Bool) {i:Nat} (hi:i∈S):(YA listed (S.filter f)).setIfInBounds i true=YA listed (S.filter (zU f i)):=by
 have hsz:∀ T,(YA listed T).size=listed.size:=fun T=>by
  unfold YA
  induction T generalizing listed with
  |nil=>rfl
  |cons a T ih=>rw[List.foldl_cons,ih,Array.size_setIfInBounds]
 apply Array.ext_getElem?
 intro k
 rw[Array.getElem?_setIfInBounds,hsz,a1P,a1P]
 simp only[List.mem_filter,zU,Bool.or_eq_true,beq_iff_eq]
 by_cases h1:i=k
 ·subst h1
  by_cases h2:i<listed.size<;>simp[h2,hi]
 ·have:¬ k=i:=fun e=>h1 e.symm
  simp[h1,this]
def a1Q (md:Region.Mode) (ops:Array Oper) (n:Nat) (S:List Nat) (cont:Array Bool->Bool) (listed:Array Bool):Bool:=
 ayX S fun T=>if T.length=S.length then S.all (fun i=>UQ (YA listed T) i)&&cont (YA listed T)else
  !(Region.ready md ops (YA listed T)).isEmpty&&(Region.ready md ops (YA listed T)).all fun i=>
   decide (i<n)&&decide (i<(YA listed T).size)&&S.contains i&& !(UQ (YA listed T) i)&& !(T.contains i)
theorem aOW:∀ (S:List Nat) (f:Nat->Bool) {i:Nat},S.Nodup->i∈S->f i=false->(S.filter (zU f i)).length=(S.filter f).length+1
 |[],_,_,_,h,_=>absurd h List.not_mem_nil
 |a::S,f,i,hn,h,hf=>by
  obtain⟨h1,h2⟩:=List.nodup_cons.1 hn
  by_cases e:a=i
  ·subst e
   rw[List.filter_cons_of_pos (by simp[zU]),List.filter_cons_of_neg (by simp[hf])]
   have:S.filter (zU f a)=S.filter f:=List.filter_congr fun x hx=>by
    have:¬ x=a:=fun e=>h1 (e ▸ hx)
    simp[zU,this]
   rw[this];simp
  ·have hi:i∈S:=(List.mem_cons.1 h).resolve_left fun q=>e q.symm
   have ea:zU f i a=f a:=by simp[zU,e]
   cases hfa:f a with
   |true=>rw[List.filter_cons_of_pos (by rw[ea,hfa]),List.filter_cons_of_pos hfa,List.length_cons,List.length_cons,aOW S f h2 hi hf]
   |false=>rw[List.filter_cons_of_neg (by rw[ea,hfa];simp),List.filter_cons_of_neg (by simp[hfa]),aOW S f h2 hi hf]
theorem a1R {md:Region.Mode} {ops:Array Oper} {n:Nat} {S:List Nat} {cont:Array Bool->Bool} {listed:Array Bool} (hn:S.Nodup) (h:a1Q md ops n S cont listed=true):
  ∀ (r:Nat) (f:Nat->Bool),(S.filter f).length+r=S.length->aoM md ops n S cont r (YA listed (S.filter f))=true
 |0,f,e=>by
  have:=aGS S _ h f
  rw[if_pos (by omega)]at this
  exact this
 |r+1,f,e=>by
  have:=aGS S _ h f
  rw[if_neg (by omega)]at this
  unfold aoM
  simp only[Bool.and_eq_true,List.all_eq_true,Bool.not_eq_true',decide_eq_true_eq]at this ⊢
  refine⟨this.1,fun i hi=>?_⟩
  obtain⟨⟨⟨⟨h2,h3⟩,h4⟩,h5⟩,h6⟩:=this.2 i hi
  have hS:i∈S:=by simpa using h4
  have hf:f i=false:=by
   cases hf:f i with
   |false=>rfl
   |true=>
    have:i∈S.filter f:=List.mem_filter.2 ⟨hS,hf⟩
    have h7:(S.filter f).contains i=true:=by simpa using this
    rw[h7]at h6;cases h6
  refine⟨⟨⟨⟨h2,h3⟩,h4⟩,h5⟩,?_⟩
  rw[bpM S listed f hS]
  exact a1R hn h r _ (by rw[aOW S f hn hS hf];omega)
def acU (md:Region.Mode) (ops:Array Oper) (n g:Nat):CG->Nat->Array Bool->Bool
 |.done,f,listed=>decide (f=0)&&Region.seqB md ops g n listed
 |.quiet i p,f,listed=>decide (0<f)&&decide (i<n)&&(Region.ready md ops listed).contains i&&Region.free md ops listed i&&acU md ops n g p (f - 1) (listed.setIfInBounds i true)
 |.ev i p,f,listed=>decide (0<f)&&decide (i<n)&&decide (Region.ready md ops listed=[i])&&acU md ops n g p (f - 1) (listed.setIfInBounds i true)
 |.perm S p,f,listed=>decide (S.length<=f)&&S.all (fun i=> !(UQ listed i))&&decide S.Nodup&&a1Q md ops n S (acU md ops n g p (f - S.length)) listed
theorem a1S {n:Nat} {L:Array Bool->Act->World->Prop} (S:List Nat) (I:(Nat->Bool)->Act->World->Prop) (cont:Array Bool->Bool) (f:Nat)
  (hstep:∀ i∈S,∀ (fl:Nat->Bool) (a:Act) (w:World),fl i=false->C w->I fl a w->wpOpIn F m P ops Q i (fun a' w'=>C w'/\I (zU fl i) a' w') a w)
  (hfin:∀ (listed:Array Bool) (a:Act) (w:World),HeadInv md ops n listed->cont listed=true->(∀ i∈S,UQ listed i=true)->C w->I (UQ listed) a w->abN F m P md ops Q C n L f listed a w):
  ∀ (r:Nat) (listed:Array Bool) (a:Act) (w:World),HeadInv md ops n listed->aoM md ops n S cont r listed=true->C w->I (UQ listed) a w->
  abN F m P md ops Q C n L (r+f) listed a w
 |0,listed,a,w,inv,hB,hC,hI=>by
  simp only[aoM,Bool.and_eq_true,List.all_eq_true]at hB
  rw[Nat.zero_add]
  exact hfin listed a w inv hB.2 hB.1 hC hI
 |r+1,listed,a,w,inv,hB,hC,hI=>by
  simp only[aoM,Bool.and_eq_true,List.all_eq_true,Bool.not_eq_true',decide_eq_true_eq]at hB
  obtain⟨h0,h1⟩:=hB
  rw[show r+1+f=(r+f)+1 by omega]
  refine⟨fun e=>(by rw[e]at h0;cases h0),fun i hi=>?_⟩
  obtain⟨⟨⟨⟨h2,h3⟩,h4⟩,h5⟩,h6⟩:=h1 i hi
  refine⟨h2,wpOpIn_mono (fun a' w' h'=>⟨h'.1,a1S S I cont f hstep hfin r _ a' w' (inv.set hi h2) h6 h'.1 (by rw[a0F listed h3];exact h'.2)⟩) (hstep i (by simpa using h4) _ a w h5 hC hI)⟩
theorem aGT {n g:Nat} {Lq:Act->World->Prop} (hro:rZ F ops) (hsel:Region.noSelect ops=true) (hs:Region.sinkB md ops n=true) (hc:Region.chainB md ops n=true) (hn:n<ops.size)
  (hQ:∀ c a d v w,Q (.panic c) (a.put d v) w->Q (.panic c) a w):
  ∀ (π:CG) (f:Nat) (listed:Array Bool) (a:Act) (w:World),HeadInv md ops n listed->acU md ops n g π f listed=true->C w->WA F m P ops Q C Lq π a w->
  abN F m P md ops Q C n (fun listed' a' w'=>Region.seqB md ops g n listed'=true/\Lq a' w') f listed a w
 |.done,f,listed,a,w,inv,hB,hC,h=>by
  simp only[acU,Bool.and_eq_true,decide_eq_true_eq]at hB
  obtain⟨rfl,hB⟩:=hB
  exact⟨hB,h⟩
 |.quiet i π,f,listed,a,w,inv,hB,hC,h=>by
  obtain⟨o,v,ho,hy,h⟩:=h
  simp only[acU,Bool.and_eq_true,decide_eq_true_eq]at hB
  obtain⟨⟨⟨⟨hf0,hin⟩,hr⟩,hf⟩,hB'⟩:=hB
  obtain⟨f,rfl⟩:∃ q,f=q+1:=⟨f - 1,by omega⟩
  have hr':i∈Region.ready md ops listed:=by simpa using hr
  exact aDV hro ho (Region.noSelect_spec hsel) hs hc hn hin (fun c a w=>hQ c a _ v w) (fun listed' a' w' hL=>seqB_ready hL.1) f listed a w inv (Region.free_spec ho hf) hr' hC hy
   (aGT hro hsel hs hc hn hQ π f _ _ w (inv.set hr' hin) hB' hC h)
 |.ev i π,f,listed,a,w,inv,hB,hC,h=>by
  simp only[acU,Bool.and_eq_true,decide_eq_true_eq]at hB
  obtain⟨⟨⟨hf0,hin⟩,hr⟩,hB'⟩:=hB
  obtain⟨f,rfl⟩:∃ q,f=q+1:=⟨f - 1,by omega⟩
  have hr':i∈Region.ready md ops listed:=by rw[hr];simp
  refine⟨fun h0=>(by rw[h0]at hr;cases hr),fun j hj=>?_⟩
  rw[hr]at hj
  obtain rfl:j=i:=by simpa using hj
  exact⟨hin,wpOpIn_mono (fun a' w' h'=>⟨h'.1,aGT hro hsel hs hc hn hQ π f _ a' w' (inv.set hr' hin) hB' h'.1 h'.2⟩) h⟩
 |.perm S π,f,listed,a,w,inv,hB,hC,h=>by
  obtain⟨I,h1,h2,h3⟩:=h
  simp only[acU,Bool.and_eq_true,decide_eq_true_eq,List.all_eq_true,Bool.not_eq_true']at hB
  obtain⟨⟨⟨hle,hfl⟩,hnd⟩,hB2⟩:=hB
  have hB':=a1R hnd hB2 S.length (fun _=>false) (by simp)
  rw[show S.filter (fun _=>false)=[] by simp]at hB'
  replace hB':aoM md ops n S (acU md ops n g π (f - S.length)) S.length listed=true:=hB'
  have:=a1S (F:=F) (m:=m) (P:=P) (md:=md) (ops:=ops) (Q:=Q) (C:=C) (n:=n) (L:=fun listed' a' w'=>Region.seqB md ops g n listed'=true/\Lq a' w') S I (acU md ops n g π (f - S.length)) (f - S.length) h2
   (fun listed' a' w' bpN hB2 hall hC' hI'=>aGT hro hsel hs hc hn hQ π (f - S.length) listed' a' w' bpN hB2 hC' (h3 _ a' w' hall hC' hI')) S.length listed a w inv hB' hC (h1 _ hfl)
  rwa [show S.length+(f - S.length)=f by omega]at this
def a1T (md:Region.Mode) (ops:Array Oper) (n:Nat) (π:CG):Bool:=
 Region.noSelect ops&&decide (n<ops.size)&&Region.sinkB md ops n&&Region.chainB md ops n&&acU md ops n (ops.size - n) π n (Array.replicate ops.size false)
theorem bpO {id:Nat} {a:Act} {w:World} {l:List Oper} (n:Nat) (π:CG) (C:World->Prop) (hro:rZ F l.toArray) (hm:P.follows .mixedOrders=true) (hB:a1T .any l.toArray n π=true) (hC:C w.drew)
  (h:WA F m P l.toArray (Qn Q) C (wpListIn F m P l.toArray (Qn Q) (l.drop n)) π a w.drew):(Code.region id l.toArray true).wpIn F m P Q a w:=by
 refine Code.wpIn_mono (Q:=Qn Q) (fun e a w q=>by cases e<;>first|exact q|exact q.elim) ?_
 simp only[a1T,Bool.and_eq_true,decide_eq_true_eq]at hB
 obtain⟨⟨⟨⟨hsel,hn⟩,hs⟩,hc⟩,hhead⟩:=hB
 have hn':n<l.length:=by simpa using hn
 have hdl:(l.drop n).length=l.toArray.size - n:=by simp
 have inv0:HeadInv .any l.toArray n (Array.replicate l.toArray.size false):=
  ⟨by simp,fun j oj _ hl=>(by rw[getD_replicate_false]at hl;cases hl),fun t _ ht=>getD_in (by simpa using ht) (getD_replicate_false _ _)⟩
 have H:=aGT (F:=F) (m:=m) (Q:=Qn Q) (md:=.any) (g:=l.toArray.size - n) hro hsel hs hc hn (fun _ _ _ _ _ h=>h.elim) π n _ a w.drew inv0 hhead hC h
 refine wpIn_region_any hm ?_
 have:=auY (Q:=Qn Q) (g:=l.toArray.size - n) (fun listed a' w' hL=>by
  have:=auZ (md:=.any) (Q':=Qn Q) (l.drop n) n listed a' w' (fun j=>by simp[List.getElem?_drop]) (by rw[hdl];exact hL.1) hL.2
  rwa [hdl]at this) _ _ _ _ H
 rw[show n+(l.toArray.size - n)=l.toArray.size by omega]at this
 exact this
theorem agO {Lq:Act->World->Prop} {i:Nat} {o:Oper} {π:CG} {a a':Act} {w:World} {v:Value} (ho:ops[i]? =some o) (hab:∀ w,o.about P w a.eval=none) (hC:C w)
  (h:∀ K:Value->Act->Prop,K v a'->∀ w',C w'->if Region.wanted o (yielded ops a.tmps)then afP o a w' K ((execOp a.eval o).run P w')else K undef (a.put o.dst undef))
  (hn:WA F m P ops Q C Lq π a' w):WA F m P ops Q C Lq (.quiet i π) a w:=
 FD (Q:=Q) (m:=m) (F:=F) (π:=[]) (Lq:=WA F m P ops Q C Lq π) ho hab hC h hn
theorem YB {Lq:Act->World->Prop} {i:Nat} {o:Oper} {π:CG} {a:Act} {w:World} (ho:ops[i]? =some o)
  (h:wpListIn F m P ops (Exit.then (fun a' w'=>C w'/\WA F m P ops Q C Lq π a' w') Q) [o] a w):WA F m P ops Q C Lq (.ev i π) a w:=
 uG (π:=[]) (Lq:=WA F m P ops Q C Lq π) ho h
theorem bpP {Lq:Act->World->Prop} {S:List Nat} {π:CG} {a:Act} {w:World} (I:(Nat->Bool)->Act->World->Prop) (h1:∀ fl:Nat->Bool,(∀ i∈S,fl i=false)->I fl a w)
  (h2:∀ i∈S,∀ (fl:Nat->Bool) (a:Act) (w:World),fl i=false->C w->I fl a w->∃ o,ops[i]? =some o/\wpListIn F m P ops (Exit.then (fun a' w'=>C w'/\I (zU fl i) a' w') Q) [o] a w)
  (h3:∀ (fl:Nat->Bool) (a:Act) (w:World),(∀ i∈S,fl i=true)->C w->I fl a w->WA F m P ops Q C Lq π a w):WA F m P ops Q C Lq (.perm S π) a w:=
 ⟨I,h1,fun i hi fl a w g1 g2 g3=>by
  obtain⟨o,ho,h⟩:=h2 i hi fl a w g1 g2 g3
  exact uG (π:=[]) (Lq:=fun a' w'=>I (zU fl i) a' w') ho h,h3⟩
theorem bpQ {Lq:Act->World->Prop} {π:CG} {a:Act} {w:World} (J:(Nat->Bool)->World->Value->Value->Value->Value->Prop) (t6 t7 t8 t9:Tmp) (u6 u7 u8 u9:Value)
  (ha:a=(((a.put (some t6) u6).put (some t7) u7).put (some t8) u8).put (some t9) u9) (h0:∀ fl:Nat->Bool,(∀ i∈[6,7,8,9],fl i=false)->J fl w u6 u7 u8 u9)
  (h6:∀ (fl:Nat->Bool) (w':World) (v6 v7 v8 v9:Value),fl 6=false->C w'->J fl w' v6 v7 v8 v9->∃ o,ops[6]? =some o/\wpListIn F m P ops (Exit.then (fun a' W=>C W/\∃ v6 v7 v8 v9:Value,a'=(((a.put (some t6) v6).put (some t7) v7).put (some t8) v8).put (some t9) v9/\J (zU fl 6) W v6 v7 v8 v9) Q) [o] ((((a.put (some t6) v6).put (some t7) v7).put (some t8) v8).put (some t9) v9) w')
  (h7:∀ (fl:Nat->Bool) (w':World) (v6 v7 v8 v9:Value),fl 7=false->C w'->J fl w' v6 v7 v8 v9->∃ o,ops[7]? =some o/\wpListIn F m P ops (Exit.then (fun a' W=>C W/\∃ v6 v7 v8 v9:Value,a'=(((a.put (some t6) v6).put (some t7) v7).put (some t8) v8).put (some t9) v9/\J (zU fl 7) W v6 v7 v8 v9) Q) [o] ((((a.put (some t6) v6).put (some t7) v7).put (some t8) v8).put (some t9) v9) w')
  (h8:∀ (fl:Nat->Bool) (w':World) (v6 v7 v8 v9:Value),fl 8=false->C w'->J fl w' v6 v7 v8 v9->∃ o,ops[8]? =some o/\wpListIn F m P ops (Exit.then (fun a' W=>C W/\∃ v6 v7 v8 v9:Value,a'=(((a.put (some t6) v6).put (some t7) v7).put (some t8) v8).put (some t9) v9/\J (zU fl 8) W v6 v7 v8 v9) Q) [o] ((((a.put (some t6) v6).put (some t7) v7).put (some t8) v8).put (some t9) v9) w')
  (h9:∀ (fl:Nat->Bool) (w':World) (v6 v7 v8 v9:Value),fl 9=false->C w'->J fl w' v6 v7 v8 v9->∃ o,ops[9]? =some o/\wpListIn F m P ops (Exit.then (fun a' W=>C W/\∃ v6 v7 v8 v9:Value,a'=(((a.put (some t6) v6).put (some t7) v7).put (some t8) v8).put (some t9) v9/\J (zU fl 9) W v6 v7 v8 v9) Q) [o] ((((a.put (some t6) v6).put (some t7) v7).put (some t8) v8).put (some t9) v9) w')
  (hfin:∀ (fl:Nat->Bool) (w':World) (v6 v7 v8 v9:Value),(∀ i∈[6,7,8,9],fl i=true)->C w'->J fl w' v6 v7 v8 v9->WA F m P ops Q C Lq π ((((a.put (some t6) v6).put (some t7) v7).put (some t8) v8).put (some t9) v9) w'):WA F m P ops Q C Lq (.perm [6,7,8,9] π) a w:=by
 refine bpP (fun fl a' W=>∃ v6 v7 v8 v9:Value,a'=(((a.put (some t6) v6).put (some t7) v7).put (some t8) v8).put (some t9) v9/\J fl W v6 v7 v8 v9) (fun fl hfl=>⟨u6,u7,u8,u9,ha,h0 fl hfl⟩) ?_ ?_
 ·intro i hi fl a' w' hf hC hI
  obtain⟨v6,v7,v8,v9,rfl,hJ⟩:=hI
  simp only[List.mem_cons,List.not_mem_nil,or_false]at hi
  rcases hi with rfl|rfl|rfl|rfl
  ·exact h6 fl w' v6 v7 v8 v9 hf hC hJ
  ·exact h7 fl w' v6 v7 v8 v9 hf hC hJ
  ·exact h8 fl w' v6 v7 v8 v9 hf hC hJ
  ·exact h9 fl w' v6 v7 v8 v9 hf hC hJ
 ·intro fl a' w' hall hC hI
  obtain⟨v6,v7,v8,v9,rfl,hJ⟩:=hI
  exact hfin fl w' v6 v7 v8 v9 hall hC hJ
end
end Go.Proofs.YtcmfnebcmmklkaaDoor.Hand
