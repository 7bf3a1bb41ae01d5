/- What the laws of chapter 9 share: words about rows and regions, the walks of the package dozen, and that known returns true. Part 15 of 15. -/
import Derived.Test.YtcmfnebcmmklkaaDoorM14
import Derived.Test.YtcmfnebcmmklkaaDoorM12
import Derived.Test.YtcmfnebcmmklkaaDoorM13
import Derived.Test.YtcmfnebcmmklkaaDoorM10
set_option linter.unusedVariables false
set_option linter.unusedSimpArgs false
set_option maxRecDepth 100000
set_option maxHeartbeats 8000000
namespace Go.Proofs.YtcmfnebcmmklkaaDoor.Q
open Go.RowKit Go.Proofs.YtcmfnebcmmklkaaDoorW.dQ Go.Proofs.YtcmfnebcmmklkaaDoorW.oU Go.Proofs.YtcmfnebcmmklkaaDoorW.gG
def IE (bV:Int) (bU:Int) (iL:Int) (iO:Int) (kV:Int) (lW:Int) (rW:Int):Hand.pU:=⟨⟨bV,bU⟩,⟨iL,iO⟩,⟨kV,lW⟩,rW⟩
theorem asB {α β:Type} {a:α} {b:β} {c:α} {d:β} (h:some (a,b)=some (c,d)):a=c/\b=d:=by cases h;exact⟨rfl,rfl⟩
def aaV.f (aG:List (aZ)) (aC:List (aI)) (a1:Int) (a2:Int):Option (List Int×Int):=some (Hand.QQ aG aC a1 a2,Hand.QP aG aC a1 a2)
theorem aaV.calls (aQ:Option Addr) (aK:Nat) (aG:List (aZ)) (aT:Option Addr) (aJ:Nat) (aC:List (aI)) (a1:Int) (a2:Int) (r1:List Int) (r2:Int) (w:World) (hT:Hand.lZ w) (jI:Kd.C iJ w aQ aG.length aG) (jU:aG.length<=aK) (jE:Kd.C iE w aT aC.length aC) (jS:aC.length<=aJ) (h:aaV.f aG aC a1 a2=some (r1,r2)):
  Calls Tryd.prog 31 #[.agg #[.slice aQ aG.length aK,.slice aT aC.length aJ],.int .i64 a1,.int .i64 a2] w fun e w'=>∃ iG:Value,e=.returned (.tuple #[iG,.int .i64 r2])/\Kd.R (Kd.int .i64) 3 w' w.heap.size (fun _=>True) iG r1/\Below w.heap.size w w':=by
 obtain⟨rfl,rfl⟩:=asB h
 exact(Hand.boP aG aC a1 a2 aQ aT aK aJ w hT jI jU jE jS).mono fun e w' ⟨v,e1,e2,e3⟩=>⟨v,e1,Hand.eH.R e2,e3⟩
def aaW.f (aG:List (aZ)) (aC:List (aI)):Option (List Int×Int):=some (Hand.aeK (Hand.vZ aG aC) aG aC,Hand.aaQ (Hand.vZ aG aC) aG aC)
theorem aaW.calls (aQ:Option Addr) (aK:Nat) (aG:List (aZ)) (aT:Option Addr) (aJ:Nat) (aC:List (aI)) (r1:List Int) (r2:Int) (w:World) (hT:Hand.lZ w) (jI:Kd.C iJ w aQ aG.length aG) (jU:aG.length<=aK) (jE:Kd.C iE w aT aC.length aC) (jS:aC.length<=aJ) (h:aaW.f aG aC=some (r1,r2)):
  Calls Tryd.prog 29 #[.agg #[.slice aQ aG.length aK,.slice aT aC.length aJ]] w fun e w'=>∃ iG:Value,e=.returned (.tuple #[iG,.int .i64 r2])/\Kd.R (Kd.int .i64) 3 w' w.heap.size (fun _=>True) iG r1/\Below w.heap.size w w':=by
 obtain⟨rfl,rfl⟩:=asB h
 refine(Hand.bmJ 61 aG aC (Hand.vZ aG aC) (fun hc s hs=>Hand.bj7 hc s ?_ 61 (Nat.le_refl _)) aQ aT aK aJ w hT jI jU jE jS).mono fun e w' ⟨v,e1,e2,e3⟩=>⟨v,e1,Hand.eH.R e2,e3⟩
 exact Nat.lt_of_lt_of_le hs (Nat.le_trans (Nat.pow_le_pow_right (by decide) (Hand.FM hc).2.1) (by decide))
def asC.f (bV:Int) (bU:Int) (iL:Int) (iO:Int) (kV:Int) (lW:Int) (rW:Int) (l1:List (gQ)) (a2:Int):Option (List (List Int)×Int):=some (Hand.wL (IE bV bU iL iO kV lW rW) l1 a2,Hand.xZ (IE bV bU iL iO kV lW rW) l1 a2)
theorem asC.calls (bV:Int) (bU:Int) (iL:Int) (iO:Int) (kV:Int) (lW:Int) (rW:Int) (A1:Option Addr) (c1:Nat) (l1:List (gQ)) (a2:Int) (r1:List (List Int)) (r2:Int) (w:World) (hr1:Kd.C vC w A1 l1.length l1) (hc1:l1.length<=c1) (h:asC.f bV bU iL iO kV lW rW l1 a2=some (r1,r2)):
  Calls Tryd.prog 35 #[.agg #[.int .i64 bV,.int .i64 bU,.int .i64 iL,.int .i64 iO,.int .i64 kV,.int .i64 lW,.int .i64 rW],.slice A1 l1.length c1,.int .i64 a2] w fun e w'=>∃ iG:Value,e=.returned (.tuple #[iG,.int .i64 r2])/\Kd.R (Kd.slice 3 (Kd.int .i64)) 34 w' w.heap.size (fun _=>True) iG r1/\Below w.heap.size w w':=by
 obtain⟨rfl,rfl⟩:=asB h
 exact(Hand.bmF (IE bV bU iL iO kV lW rW) l1 a2 A1 c1 w hr1).mono fun e w' ⟨v,e1,e2,e3⟩=>⟨v,e1,e2.1,e3⟩
def aGO.f (bV:Int) (bU:Int) (iL:Int) (iO:Int) (kV:Int) (lW:Int) (rW:Int) (l1:List (gQ)) (a2:Int):Option (List Int×Int):=some (Hand.ayO (IE bV bU iL iO kV lW rW) l1 a2,Hand.xZ (IE bV bU iL iO kV lW rW) l1 a2)
theorem aGO.calls (bV:Int) (bU:Int) (iL:Int) (iO:Int) (kV:Int) (lW:Int) (rW:Int) (A1:Option Addr) (c1:Nat) (l1:List (gQ)) (a2:Int) (r1:List Int) (r2:Int) (w:World) (hT:Hand.lZ w) (hr1:Kd.C vC w A1 l1.length l1) (hc1:l1.length<=c1) (h:aGO.f bV bU iL iO kV lW rW l1 a2=some (r1,r2)):
  Calls Tryd.prog 37 #[.agg #[.int .i64 bV,.int .i64 bU,.int .i64 iL,.int .i64 iO,.int .i64 kV,.int .i64 lW,.int .i64 rW],.slice A1 l1.length c1,.int .i64 a2] w fun e w'=>∃ iG:Value,e=.returned (.tuple #[iG,.int .i64 r2])/\Kd.R (Kd.int .i64) 3 w' w.heap.size (fun _=>True) iG r1/\Below w.heap.size w w':=by
 obtain⟨rfl,rfl⟩:=asB h
 exact(Hand.boI (IE bV bU iL iO kV lW rW) l1 a2 A1 c1 w hT hr1).mono fun e w' ⟨v,e1,e2,e3⟩=>⟨v,e1,Hand.eH.R e2,e3⟩
def aGP.f (bV:Int) (bU:Int) (iL:Int) (iO:Int) (kV:Int) (lW:Int) (rW:Int) (l1:List (gQ)) (a2:Int):Option (List Int×Int):=some (Hand.arV (IE bV bU iL iO kV lW rW) l1 a2,Hand.arU (IE bV bU iL iO kV lW rW) l1 a2)
theorem aGP.calls (bV:Int) (bU:Int) (iL:Int) (iO:Int) (kV:Int) (lW:Int) (rW:Int) (A1:Option Addr) (c1:Nat) (l1:List (gQ)) (a2:Int) (r1:List Int) (r2:Int) (w:World) (hT:Hand.lZ w) (hr1:Kd.C vC w A1 l1.length l1) (hc1:l1.length<=c1) (h:aGP.f bV bU iL iO kV lW rW l1 a2=some (r1,r2)):
  Calls Tryd.prog 45 #[.agg #[.int .i64 bV,.int .i64 bU,.int .i64 iL,.int .i64 iO,.int .i64 kV,.int .i64 lW,.int .i64 rW],.slice A1 l1.length c1,.int .i64 a2] w fun e w'=>∃ iG:Value,e=.returned (.tuple #[iG,.int .i64 r2])/\Kd.R (Kd.int .i64) 3 w' w.heap.size (fun _=>True) iG r1/\Below w.heap.size w w':=by
 obtain⟨rfl,rfl⟩:=asB h
 exact(Hand.bmH (IE bV bU iL iO kV lW rW) l1 a2 A1 c1 w hT hr1).mono fun e w' ⟨v,e1,e2,e3⟩=>⟨v,e1,Hand.eH.R e2,e3⟩
def aGQ.f (bV:Int) (bU:Int) (iL:Int) (iO:Int) (kV:Int) (lW:Int) (rW:Int) (l1:List (gQ)) (a2:Int):Option (List Int×List Int×Int):=some (Hand.aGE (IE bV bU iL iO kV lW rW) l1 a2,Hand.aGF (IE bV bU iL iO kV lW rW) l1 a2,Hand.xZ (IE bV bU iL iO kV lW rW) l1 a2)
theorem aGQ.calls (bV:Int) (bU:Int) (iL:Int) (iO:Int) (kV:Int) (lW:Int) (rW:Int) (A1:Option Addr) (c1:Nat) (l1:List (gQ)) (a2:Int) (r1:List Int) (r2:List Int) (r3:Int) (w:World) (hr1:Kd.C vC w A1 l1.length l1) (hc1:l1.length<=c1) (h:aGQ.f bV bU iL iO kV lW rW l1 a2=some (r1,r2,r3)):
  Calls Tryd.prog 36 #[.agg #[.int .i64 bV,.int .i64 bU,.int .i64 iL,.int .i64 iO,.int .i64 kV,.int .i64 lW,.int .i64 rW],.slice A1 l1.length c1,.int .i64 a2] w fun e w'=>∃ iG nC:Value,e=.returned (.tuple #[iG,nC,.int .i64 r3])/\Kd.R (Kd.int .i64) 3 w' w.heap.size (fun k_=>some k_≠(nC:Value).ownBlock) iG r1/\Kd.R (Kd.int .i64) 3 w' w.heap.size (fun k_=>some k_≠(iG:Value).ownBlock) nC r2/\Below w.heap.size w w':=by
 obtain⟨rfl,h2⟩:=asB h
 obtain⟨rfl,rfl⟩:=Prod.mk.inj h2
 exact(Hand.bo8 (IE bV bU iL iO kV lW rW) l1 a2 A1 c1 w hr1).mono fun e w' ⟨v,u,e1,e2,e3,e4,e5⟩=>⟨v,u,e1,Kd.ag9 e2 (fun k hk he=>e4 k hk he.symm),Kd.ag9 e3 (fun k hk he=>e4 k he.symm hk),e5⟩
def ayW.f (bV:Int) (bU:Int) (iL:Int) (iO:Int) (kV:Int) (lW:Int) (rW:Int) (l1:List (gQ)) (a2:Int):Option (Int×Int×Int×Int×Int×Int×Int):=some ((Hand.acT (IE bV bU iL iO kV lW rW) l1 a2).1.f0,(Hand.acT (IE bV bU iL iO kV lW rW) l1 a2).1.f1,(Hand.acT (IE bV bU iL iO kV lW rW) l1 a2).2.1.f0,(Hand.acT (IE bV bU iL iO kV lW rW) l1 a2).2.1.f1,(Hand.acT (IE bV bU iL iO kV lW rW) l1 a2).2.2.f0,(Hand.acT (IE bV bU iL iO kV lW rW) l1 a2).2.2.f1,Hand.xZ (IE bV bU iL iO kV lW rW) l1 a2)
theorem ayW.calls (bV:Int) (bU:Int) (iL:Int) (iO:Int) (kV:Int) (lW:Int) (rW:Int) (A1:Option Addr) (c1:Nat) (l1:List (gQ)) (a2:Int) (r1:Int) (r2:Int) (r3:Int) (r4:Int) (r5:Int) (r6:Int) (r7:Int) (w:World) (hr1:Kd.C vC w A1 l1.length l1) (hc1:l1.length<=c1) (h:ayW.f bV bU iL iO kV lW rW l1 a2=some (r1,r2,r3,r4,r5,r6,r7)):
  Calls Tryd.prog 44 #[.agg #[.int .i64 bV,.int .i64 bU,.int .i64 iL,.int .i64 iO,.int .i64 kV,.int .i64 lW,.int .i64 rW],.slice A1 l1.length c1,.int .i64 a2] w fun e w'=>e=.returned (.tuple #[.agg #[.int .i64 r1,.int .i64 r2],.agg #[.int .i64 r3,.int .i64 r4],.agg #[.int .i64 r5,.int .i64 r6],.int .i64 r7])/\Below w.heap.size w w':=by
 unfold ayW.f at h
 simp only[Option.some.injEq,Prod.mk.injEq]at h
 obtain⟨rfl,rfl,rfl,rfl,rfl,rfl,rfl⟩:=h
 exact Hand.bpF (IE bV bU iL iO kV lW rW) l1 a2 A1 c1 w hr1
end Go.Proofs.YtcmfnebcmmklkaaDoor.Q
namespace Go.Proofs.YtcmfnebcmmklkaaDoor.Hand
open Go.RowKit Go.Proofs.YtcmfnebcmmklkaaDoorW.dQ Go.Proofs.YtcmfnebcmmklkaaDoor.Q
def SN:List aZ:=[⟨12,12⟩,⟨6,18⟩]
def XZ:List aI:=[⟨0,⟨5,7⟩,⟨4,4⟩,false⟩,⟨1,⟨6,8⟩,⟨10,12⟩,false⟩,⟨0,⟨1,2⟩,⟨0,0⟩,true⟩,⟨0,⟨8,9⟩,⟨6,6⟩,false⟩]
def aGR:List aI:=XZ++[⟨1,⟨1,1⟩,⟨0,0⟩,false⟩]
def PO:List gQ:=[⟨6,6,152⟩,⟨12,0,142⟩,⟨0,12,162⟩]
end Go.Proofs.YtcmfnebcmmklkaaDoor.Hand
namespace Go.Proofs.YtcmfnebcmmklkaaDoor.Hand
open Go.RowKit Go.Shelf Go.Proofs.YtcmfnebcmmklkaaDoorW.dQ Go.Proofs.YtcmfnebcmmklkaaDoorW.gG Go.Proofs.YtcmfnebcmmklkaaDoor.Q
attribute [local go_sem] Oper.semAt_some run_store_func undef
structure KS (w:World) (LI:List (Option Addr×List Int)) (LS:List (Option Addr×List aH)) (LR:List (Option Addr×List (List Int))) (W:World):Prop where
 tab:lZ W
 hi:∀ p∈LI,Kd.C (Kd.int .i64) W p.1 p.2.length p.2
 hs:∀ p∈LS,Kd.C iD W p.1 p.2.length p.2
 hr:∀ p∈LR,Kd.C (Kd.slice 3 (Kd.int .i64)) W p.1 p.2.length p.2
 below:Below w.heap.size w W
theorem KS.step {w W W':World} {LI:List (Option Addr×List Int)} {LS:List (Option Addr×List aH)} {LR:List (Option Addr×List (List Int))} (h:KS w LI LS LR W) (hb:Below W.heap.size W W'):KS w LI LS LR W':=
 ⟨h.tab.below hb,fun p hp=>Kd.bJ (h.hi p hp) hb,fun p hp=>Kd.bJ (h.hs p hp) hb,fun p hp=>Kd.bJ (h.hr p hp) hb,h.below.trans (hb.mono h.below.size)⟩
theorem KS.ZO {w W:World} {LI:List (Option Addr×List Int)} {LS:List (Option Addr×List aH)} {LR:List (Option Addr×List (List Int))} (h:KS w LI LS LR W) {A:Option Addr} {xs:List Int} (hC:Kd.C (Kd.int .i64) W A xs.length xs):KS w ((A,xs)::LI) LS LR W:=
 ⟨h.tab,fun p hp=>(List.mem_cons.1 hp).elim (fun e=>e ▸ hC) (h.hi p),h.hs,h.hr,h.below⟩
theorem KS.asD {w W:World} {LI:List (Option Addr×List Int)} {LS:List (Option Addr×List aH)} {LR:List (Option Addr×List (List Int))} (h:KS w LI LS LR W) {A:Option Addr} {xs:List aH} (hC:Kd.C iD W A xs.length xs):KS w LI ((A,xs)::LS) LR W:=
 ⟨h.tab,h.hi,fun p hp=>(List.mem_cons.1 hp).elim (fun e=>e ▸ hC) (h.hs p),h.hr,h.below⟩
theorem KS.aGU {w W:World} {LI:List (Option Addr×List Int)} {LS:List (Option Addr×List aH)} {LR:List (Option Addr×List (List Int))} (h:KS w LI LS LR W) {A:Option Addr} {xs:List (List Int)} (hC:Kd.C (Kd.slice 3 (Kd.int .i64)) W A xs.length xs):KS w LI LS ((A,xs)::LR) W:=
 ⟨h.tab,h.hi,h.hs,fun p hp=>(List.mem_cons.1 hp).elim (fun e=>e ▸ hC) (h.hr p),h.below⟩
theorem bpR (W:World) (x:aI) (n:Nat) (hn:W.heap.size=n):Kd.C iE (W.alloc (.cells #[.int .i64 x.f0,.int .i64 x.f1.f0,.int .i64 x.f1.f1,.int .i64 x.f2.f0,.int .i64 x.f2.f1,.bool x.f3] 91)) (some ⟨n,0,none⟩) 1 [x]:=by
 subst hn
 have hR:Kd.R iE 91 (W.alloc (.cells #[.int .i64 x.f0,.int .i64 x.f1.f0,.int .i64 x.f1.f1,.int .i64 x.f2.f0,.int .i64 x.f2.f1,.bool x.f3] 91)) W.heap.size (fun _=>True) (.slice (some ⟨W.heap.size,0,none⟩) 1 1) [x]:=by
  refine⟨fun _ _=>trivial,_,World.ownsRow_lit W #[.int .i64 x.f0,.int .i64 x.f1.f0,.int .i64 x.f1.f1,.int .i64 x.f2.f0,.int .i64 x.f2.f1,.bool x.f3] 1 (Nat.le_refl _) (by simp[maxLen]) rfl,rfl,fun j p hj=>?_⟩
  match j,hj with
  |0,hj=>
   obtain rfl:x=p:=Option.some.inj hj
   exact atK _ _ _ x
  |j+1,hj=>cases hj
 exact(Kd.dB hR).2.2
theorem a1U (W:World) (a b:aH) (n:Nat) (hn:W.heap.size=n):Kd.C iD (W.alloc (.cells #[.int .i64 a.f0,.int .i64 a.f1,.int .i64 b.f0,.int .i64 b.f1] 42)) (some ⟨n,0,none⟩) 2 [a,b]:=by
 subst hn
 have ho:mP (W.alloc (.cells #[.int .i64 a.f0,.int .i64 a.f1,.int .i64 b.f0,.int .i64 b.f1] 42)) W.heap.size (.slice (some ⟨W.heap.size,0,none⟩) 2 2) [a,b]:=World.ownsRow_lit W #[.int .i64 a.f0,.int .i64 a.f1,.int .i64 b.f0,.int .i64 b.f1] 2 (Nat.le_refl _) (by simp[maxLen]) rfl
 exact(Kd.dB (mP.R ho)).2.2
theorem a1V (W:World) (base:Nat) (hb:base<=W.heap.size) (ys:List Value) (xs:List (List Int)) (hl:ys.length=xs.length) (hl2:xs.length<=1000) (h:∀ (j:Nat) (y:Value) (x:List Int),ys[j]? =some y->xs[j]? =some x->eH W base y x) (n:Nat) (hn:W.heap.size=n):
  Kd.C (Kd.slice 3 (Kd.int .i64)) (W.alloc (.cells ys.toArray 34)) (some ⟨n,0,none⟩) xs.length xs:=by
 subst hn
 have hR:Kd.R (Kd.slice 3 (Kd.int .i64)) 34 (W.alloc (.cells ys.toArray 34)) base (fun _=>True) (.slice (some ⟨W.heap.size,0,none⟩) xs.length xs.length) xs:=by
  refine⟨fun _ _=>trivial,_,World.ownsRow_lit W ys.toArray xs.length hb (by unfold maxLen;omega) (by show ys.toArray.size=xs.length*1;simp[hl]),(by show ys.length=xs.length*1;omega),fun j p hj=>?_⟩
  have hj2:j<ys.length:=by rw[hl];exact(List.getElem?_eq_some_iff.1 hj).1
  have e1:((ys.toArray.toList).drop (j*1)).take 1=[ys[j]]:=by
   rw[Nat.mul_one,List.drop_eq_getElem_cons hj2]
   rfl
  have ho:=h j ys[j] p (List.getElem?_eq_getElem hj2) hj
  show(Kd.slice 3 (Kd.int .i64)).M _ _ _ p (((ys.toArray.toList).drop (j*1)).take 1)
  rw[e1]
  have ho2:eH (W.alloc (.cells ys.toArray 34)) base ys[j] p:=eH.below' ho ((Below.refl _ _).alloc (Nat.le_refl _) _)
  refine⟨ys[j],rfl,Kd.ag9 ho2 fun k hk=>⟨trivial,fun e=>?_⟩⟩
  have hlt:=(World.ownsRow.lt ho k hk).2
  have:k=W.heap.size:=Option.some.inj e
  omega
 exact(Kd.dB hR).2.2
theorem wC (W:World) (o:Obj):Below W.heap.size W (W.alloc o):=(Below.refl _ _).alloc (Nat.le_refl _) _
def rL1:List aH:=[⟨0,1⟩,⟨0,0⟩]
def rL2:List aH:=[⟨2,2⟩,⟨6,8⟩]
def rC1:List aH:=[⟨5,6⟩,⟨6,6⟩,⟨1,2⟩,⟨8,9⟩]
def rC2:List aH:=[⟨4,4⟩,⟨10,12⟩,⟨0,0⟩,⟨6,6⟩]
structure asE (a1 a2:Addr) (W:World):Prop where
 p0:W.cell? a1=some (.int .i64 5)
 p1:W.cell? ⟨a1.block,a1.off+1,none⟩=some (.int .i64 6)
 q0:W.cell? ⟨a1.block,a1.off+6,none⟩=some (.int .i64 8)
 q1:W.cell? ⟨a1.block,a1.off+6+1,none⟩=some (.int .i64 9)
 r0:W.cell? ⟨a2.block,a2.off+2,none⟩=some (.int .i64 10)
 r1:W.cell? ⟨a2.block,a2.off+2+1,none⟩=some (.int .i64 12)
theorem asE.step {a1 a2:Addr} {W W':World} (h:asE a1 a2 W) (hb:Below W.heap.size W W'):asE a1 a2 W':=
 ⟨jW hb h.p0,jW hb h.p1,jW hb h.q0,jW hb h.q1,jW hb h.r0,jW hb h.r1⟩
structure asF (b:Nat) (W:World):Prop where
 x0:W.cell? ⟨b,0,none⟩=some (.int .i64 10)
 x1:W.cell? ⟨b,1,none⟩=some (.int .i64 10)
 x2:W.cell? ⟨b+1,0,none⟩=some (.int .i64 12)
 x3:W.cell? ⟨b+1,1,none⟩=some (.int .i64 12)
 x4:W.cell? ⟨b+1+1,0,none⟩=some (.int .i64 20)
 x5:W.cell? ⟨b+1+1,1,none⟩=some (.int .i64 20)
theorem asF.step {b:Nat} {W W':World} (h:asF b W) (hb:Below W.heap.size W W'):asF b W':=
 ⟨jW hb h.x0,jW hb h.x1,jW hb h.x2,jW hb h.x3,jW hb h.x4,jW hb h.x5⟩
theorem ayY (W:World) (n₀:Nat) (hb:n₀<=W.heap.size) (a b c:Int) (n:Nat) (hn:W.heap.size=n):eH (W.alloc (.cells #[.int .i64 a,.int .i64 b,.int .i64 c] 3)) n₀ (.slice (some ⟨n,0,none⟩) 3 3) [a,b,c]:=by
 subst hn
 exact World.ownsRow_lit W #[.int .i64 a,.int .i64 b,.int .i64 c] 3 hb (by simp[maxLen]) rfl
structure JK (W0:World) (fl:Nat->Bool) (W:World) (v6 v7 v8 v9:Value):Prop where
 b:Below W0.heap.size W0 W
 j6:fl 6=true->eH W W0.heap.size v6 [-1,1,0]
 j7:fl 7=true->eH W W0.heap.size v7 [0,0,0]
 j8:fl 8=true->eH W W0.heap.size v8 [0,1,-1]
 j9:fl 9=true->eH W W0.heap.size v9 [1,0,-1]
theorem JK.step {W0:World} {fl:Nat->Bool} {W W':World} {v6 v7 v8 v9:Value} (h:JK W0 fl W v6 v7 v8 v9) (hb:Below W.heap.size W W'):JK W0 fl W' v6 v7 v8 v9:=
 ⟨h.b.trans (hb.mono h.b.size),fun q=>(h.j6 q).below' hb,fun q=>(h.j7 q).below' hb,fun q=>(h.j8 q).below' hb,fun q=>(h.j9 q).below' hb⟩
theorem one_row {W:World} {n:Nat} {v:Value} {xs:List Int} (h:eH W n v xs) {j:Nat} {y:Value} {x:List Int} (hy:[v][j]? =some y) (hx:[xs][j]? =some x):eH W n y x:=by
 match j,hy,hx with
 |0,hy,hx=>
  obtain rfl:v=y:=Option.some.inj hy
  obtain rfl:xs=x:=Option.some.inj hx
  exact h
 |j+1,hy,hx=>cases hy
theorem JK.s6 {W0:World} {fl:Nat->Bool} {W:World} {v6 v7 v8 v9:Value} (h:JK W0 fl W v6 v7 v8 v9) (n:Nat) (hn:W.heap.size=n):JK W0 (zU fl 6) (W.alloc (.cells #[.int .i64 (-1),.int .i64 1,.int .i64 0] 3)) (.slice (some ⟨n,0,none⟩) 3 3) v7 v8 v9:=
 ⟨h.b.trans ((wC W _).mono h.b.size),fun _=>ayY W W0.heap.size h.b.size (-1) 1 0 _ hn,fun q=>(h.j7 q).below' (wC _ _),fun q=>(h.j8 q).below' (wC _ _),fun q=>(h.j9 q).below' (wC _ _)⟩
theorem JK.s7 {W0:World} {fl:Nat->Bool} {W:World} {v6 v7 v8 v9:Value} (h:JK W0 fl W v6 v7 v8 v9) (n:Nat) (hn:W.heap.size=n):JK W0 (zU fl 7) (W.alloc (.cells #[.int .i64 0,.int .i64 0,.int .i64 0] 3)) v6 (.slice (some ⟨n,0,none⟩) 3 3) v8 v9:=
 ⟨h.b.trans ((wC W _).mono h.b.size),fun q=>(h.j6 q).below' (wC _ _),fun _=>ayY W W0.heap.size h.b.size 0 0 0 _ hn,fun q=>(h.j8 q).below' (wC _ _),fun q=>(h.j9 q).below' (wC _ _)⟩
theorem JK.s8 {W0:World} {fl:Nat->Bool} {W:World} {v6 v7 v8 v9:Value} (h:JK W0 fl W v6 v7 v8 v9) (n:Nat) (hn:W.heap.size=n):JK W0 (zU fl 8) (W.alloc (.cells #[.int .i64 0,.int .i64 1,.int .i64 (-1)] 3)) v6 v7 (.slice (some ⟨n,0,none⟩) 3 3) v9:=
 ⟨h.b.trans ((wC W _).mono h.b.size),fun q=>(h.j6 q).below' (wC _ _),fun q=>(h.j7 q).below' (wC _ _),fun _=>ayY W W0.heap.size h.b.size 0 1 (-1) _ hn,fun q=>(h.j9 q).below' (wC _ _)⟩
theorem JK.s9 {W0:World} {fl:Nat->Bool} {W:World} {v6 v7 v8 v9:Value} (h:JK W0 fl W v6 v7 v8 v9) (n:Nat) (hn:W.heap.size=n):JK W0 (zU fl 9) (W.alloc (.cells #[.int .i64 1,.int .i64 0,.int .i64 (-1)] 3)) v6 v7 v8 (.slice (some ⟨n,0,none⟩) 3 3):=
 ⟨h.b.trans ((wC W _).mono h.b.size),fun q=>(h.j6 q).below' (wC _ _),fun q=>(h.j7 q).below' (wC _ _),fun q=>(h.j8 q).below' (wC _ _),fun _=>ayY W W0.heap.size h.b.size 1 0 (-1) _ hn⟩
theorem bpS {W:World} {n:Nat} {v6 v7 v8 v9:Value} {x6 x7 x8 x9:List Int} (h6:eH W n v6 x6) (h7:eH W n v7 x7) (h8:eH W n v8 x8) (h9:eH W n v9 x9) {j:Nat} {y:Value} {x:List Int} (hy:[v6,v7,v8,v9][j]? =some y) (hx:[x6,x7,x8,x9][j]? =some x):eH W n y x:=by
 match j,hy,hx with
 |0,hy,hx=>cases hy;cases hx;exact h6
 |1,hy,hx=>cases hy;cases hx;exact h7
 |2,hy,hx=>cases hy;cases hx;exact h8
 |3,hy,hx=>cases hy;cases hx;exact h9
 |j+4,hy,hx=>cases hy
theorem aGX:af7.f []=some (SN,XZ):=by kernel_rfl
theorem bpT:af7.f [⟨1,⟨1,1⟩,⟨0,0⟩,false⟩]=some (SN,aGR):=by kernel_rfl
def rE1:List (List Int):=[[0,1,-1]]
def rE2:List (List Int):=[[-1,1,0],[0,0,0],[0,1,-1],[1,0,-1]]
theorem bpU:UR.f 61 SN XZ=some (rL1,rL2,0):=by kernel_rfl
theorem bpV:XX.f 61 SN XZ=some (rC1,rC2,0):=by kernel_rfl
theorem bpW:vO.f 61 SN XZ=some ([],[],0):=by kernel_rfl
theorem bpX:aaV.f SN XZ 1 9=some ([0],0):=by kernel_rfl
theorem bpY:aaW.f SN aGR=some ([1],0):=by kernel_rfl
theorem bpZ:asC.f 10 10 12 12 20 20 1 PO 1=some (rE1,0):=by kernel_rfl
theorem bp0:asC.f 10 10 12 12 20 20 2 PO 1=some (rE2,0):=by kernel_rfl
theorem bp1:aGQ.f 10 10 12 12 20 20 1 PO 1=some ([1,2],[1,2],0):=by kernel_rfl
theorem bp2:aGO.f 10 10 12 12 20 20 2 PO 1=some ([0,1],0):=by kernel_rfl
theorem bp3:ayW.f 10 10 12 12 20 20 1 PO 1=some (10,10,12,12,20,20,0):=by kernel_rfl
theorem bp4:aGP.f 10 10 12 12 20 20 1 PO 0=some ([1,2],0):=by kernel_rfl
theorem asG:af9.f=some PO:=by kernel_rfl
theorem asH (k:Int):af8.f k=some (10,10,12,12,20,20,k):=rfl
noncomputable def aOX:{G:Prop // G->∀ (w:World) (_:lZ w),Calls Tryd.prog 15 #[] w fun e_ w'=>e_=.returned (.bool true)/\Below w.heap.size w w'}:=by
 refine⟨?_,?_⟩
 rotate_left
 intro tY
 replace tY:aA (True->_):=⟨fun _=>tY⟩
 intro w hT
 have K0:KS w [] [] [] w:=⟨hT,fun p h=>absurd h List.not_mem_nil,fun p h=>absurd h List.not_mem_nil,fun p h=>absurd h List.not_mem_nil,Below.refl _ _⟩
 refine(callsIn_wide (n:=0)).1 ?_
 refine callsIn_of_wp Tryd.func15 rfl trivial ?_
 simp only[Tryd.ntmps15,List.size_toArray,List.length_cons,List.length_nil,Nat.reduceAdd,Nat.reduceSub,Array.replicate_succ,Array.replicate_zero,List.push_toArray,List.append_toArray,List.nil_append,List.cons_append]
 gi_wp2_with fail
 refine⟨trivial,rfl,?_⟩
 refine(callsIn_wide.2 (af7.calls none 0 [] SN XZ _ (Kd.dB (Kd.xI iE 91 _ 0 (fun _=>True))).2.2 (Nat.le_refl _) aGX)).mono ?_
 rintro e_ w1 ⟨v0,v1,rfl,h0,h1,hb⟩
 obtain⟨IG,II,rfl,IJ,a1W⟩:=Kd.uK h0
 clear h0
 obtain⟨IK,IL,rfl,IM,a1X⟩:=Kd.uK h1
 clear h1
 have K1:=K0.step hb
 clear hb K0
 gi_wp2_with fail
 refine⟨trivial,rfl,?_⟩
 refine(callsIn_wide.2 (UR.calls 61 IG II SN IK IL XZ rL1 rL2 0 _ a1W IJ a1X IM bpU)).mono ?_
 rintro e_ w2 ⟨v0,v1,rfl,h0,h1,hb⟩
 have K2:=K1.step hb
 clear hb K1 a1W a1X
 obtain⟨FN,IP,rfl,IQ,a1Y⟩:=Kd.uK h0
 clear h0
 replace K2:=K2.asD a1Y
 clear a1Y
 obtain⟨FO,IU,rfl,IV,a1Z⟩:=Kd.uK h1
 clear h1
 replace K2:=K2.asD a1Z
 clear a1Z
 gi_wp2_with fail
 refine⟨trivial,rfl,?_⟩
 refine(callsIn_wide.2 (af7.calls none 0 [] SN XZ _ (Kd.dB (Kd.xI iE 91 _ 0 (fun _=>True))).2.2 (Nat.le_refl _) aGX)).mono ?_
 rintro e_ w3 ⟨v0,v1,rfl,h0,h1,hb⟩
 obtain⟨IW,IX,rfl,IY,a2A⟩:=Kd.uK h0
 clear h0
 obtain⟨IZ,JA,rfl,JB,a2B⟩:=Kd.uK h1
 clear h1
 have K3:=K2.step hb
 clear hb K2
 gi_wp2_with fail
 refine⟨trivial,rfl,?_⟩
 refine(callsIn_wide.2 (XX.calls 61 IW IX SN IZ JA XZ rC1 rC2 0 _ a2A IY a2B JB bpV)).mono ?_
 rintro e_ w4 ⟨v0,v1,rfl,h0,h1,hb⟩
 have K4:=K3.step hb
 clear hb K3 a2A a2B
 obtain⟨aGZ,NF,rfl,NG,a2C⟩:=Kd.uK h0
 clear h0
 replace K4:=K4.asD a2C
 clear a2C
 obtain⟨a2D,NH,rfl,NI,a2E⟩:=Kd.uK h1
 clear h1
 replace K4:=K4.asD a2E
 clear a2E
 gi_wp2_with fail
 refine⟨trivial,rfl,?_⟩
 refine(callsIn_wide.2 (af7.calls none 0 [] SN XZ _ (Kd.dB (Kd.xI iE 91 _ 0 (fun _=>True))).2.2 (Nat.le_refl _) aGX)).mono ?_
 rintro e_ w5 ⟨v0,v1,rfl,h0,h1,hb⟩
 obtain⟨JC,JD,rfl,JE,a2F⟩:=Kd.uK h0
 clear h0
 obtain⟨JG,JH,rfl,JI,a2G⟩:=Kd.uK h1
 clear h1
 have K5:=K4.step hb
 clear hb K4
 gi_wp2_with fail
 refine⟨trivial,rfl,?_⟩
 refine(callsIn_wide.2 (vO.calls 61 JC JD SN JG JH XZ [] [] 0 _ a2F JE a2G JI bpW)).mono ?_
 rintro e_ w6 ⟨v0,v1,rfl,h0,h1,hb⟩
 have K6:=K5.step hb
 clear hb K5 a2F a2G
 obtain⟨NJ,NK,rfl,NL,a2H⟩:=Kd.uK h0
 clear h0
 replace K6:=K6.ZO a2H
 clear a2H
 obtain⟨NM,NP,rfl,NQ,a2I⟩:=Kd.uK h1
 clear h1
 replace K6:=K6.ZO a2I
 clear a2I
 gi_wp2_with fail
 refine⟨trivial,rfl,?_⟩
 refine(callsIn_wide.2 (af7.calls none 0 [] SN XZ _ (Kd.dB (Kd.xI iE 91 _ 0 (fun _=>True))).2.2 (Nat.le_refl _) aGX)).mono ?_
 rintro e_ w7 ⟨v0,v1,rfl,h0,h1,hb⟩
 obtain⟨JJ,JL,rfl,JM,a2J⟩:=Kd.uK h0
 clear h0
 obtain⟨JO,JP,rfl,JQ,a2K⟩:=Kd.uK h1
 clear h1
 have K7:=K6.step hb
 clear hb K6
 gi_wp2_with fail
 refine⟨trivial,rfl,?_⟩
 refine(callsIn_wide.2 (aaV.calls JJ JL SN JO JP XZ 1 9 [0] 0 _ K7.tab a2J JM a2K JQ bpX)).mono ?_
 rintro e_ w8 ⟨v0,rfl,h0,hb⟩
 have K8:=K7.step hb
 clear hb K7 a2J a2K
 obtain⟨FP,JR,rfl,JS,a2L⟩:=Kd.uK h0
 clear h0
 replace K8:=K8.ZO a2L
 clear a2L
 gi_wp2_with fail
 refine⟨trivial,rfl,?_⟩
 refine(callsIn_wide.2 (lT.calls 1 1 1 1 _ rfl)).mono ?_
 rintro e_ w9 ⟨rfl,hb⟩
 have K9:=K8.step hb
 clear hb K8
 gi_wp2_with fail
 refine⟨trivial,rfl,?_⟩
 refine(callsIn_wide.2 (af7.calls (some ⟨w9.heap.size,0,none⟩) 1 [⟨1,⟨1,1⟩,⟨0,0⟩,false⟩] SN aGR _ (bpR w9 ⟨1,⟨1,1⟩,⟨0,0⟩,false⟩ _ rfl) (Nat.le_refl _) bpT)).mono ?_
 rintro e_ w10 ⟨v0,v1,rfl,h0,h1,hb⟩
 obtain⟨JU,JV,rfl,JW,a2M⟩:=Kd.uK h0
 clear h0
 obtain⟨JX,JY,rfl,JZ,a2N⟩:=Kd.uK h1
 clear h1
 have K10:=(K9.step (wC _ _)).step hb
 clear hb K9
 gi_wp2_with fail
 refine⟨trivial,rfl,?_⟩
 refine(callsIn_wide.2 (aaW.calls JU JV SN JX JY aGR [1] 0 _ K10.tab a2M JW a2N JZ bpY)).mono ?_
 rintro e_ vK ⟨v0,rfl,h0,hb⟩
 have K11:=K10.step hb
 clear hb K10 a2M a2N
 obtain⟨FQ,KA,rfl,KC,a2O⟩:=Kd.uK h0
 clear h0
 replace K11:=K11.ZO a2O
 clear a2O
 gi_wp2_with fail
 refine⟨trivial,rfl,?_⟩
 refine(callsIn_wide.2 (af8.calls 1 10 10 12 12 20 20 1 _ (asH 1))).mono ?_
 rintro e_ w12 ⟨rfl,hb⟩
 have K12:=K11.step hb
 clear hb K11
 gi_wp2_with fail
 refine⟨trivial,rfl,?_⟩
 refine(callsIn_wide.2 (af9.calls PO _ asG)).mono ?_
 rintro e_ tV ⟨v0,rfl,h0,hb⟩
 obtain⟨KF,KG,rfl,KH,a2Q⟩:=Kd.uK h0
 clear h0
 have K13:=K12.step hb
 clear hb K12
 gi_wp2_with fail
 refine⟨trivial,rfl,?_⟩
 refine(callsIn_wide.2 (asC.calls 10 10 12 12 20 20 1 KF KG PO 1 rE1 0 _ a2Q KH bpZ)).mono ?_
 rintro e_ rU ⟨v0,rfl,h0,hb⟩
 have K14:=K13.step hb
 clear hb K13 a2Q
 obtain⟨FT,KI,rfl,KJ,a2S⟩:=Kd.uK h0
 clear h0
 replace K14:=K14.aGU a2S
 clear a2S
 gi_wp2_with fail
 refine⟨trivial,rfl,?_⟩
 refine(callsIn_wide.2 (af8.calls 2 10 10 12 12 20 20 2 _ (asH 2))).mono ?_
 rintro e_ vY ⟨rfl,hb⟩
 have K15:=K14.step hb
 clear hb K14
 gi_wp2_with fail
 refine⟨trivial,rfl,?_⟩
 refine(callsIn_wide.2 (af9.calls PO _ asG)).mono ?_
 rintro e_ w16 ⟨v0,rfl,h0,hb⟩
 obtain⟨KL,KN,rfl,KO,a2U⟩:=Kd.uK h0
 clear h0
 have K16:=K15.step hb
 clear hb K15
 gi_wp2_with fail
 refine⟨trivial,rfl,?_⟩
 refine(callsIn_wide.2 (asC.calls 10 10 12 12 20 20 2 KL KN PO 1 rE2 0 _ a2U KO bp0)).mono ?_
 rintro e_ uS ⟨v0,rfl,h0,hb⟩
 have K17:=K16.step hb
 clear hb K16 a2U
 obtain⟨FU,KP,rfl,KR,a2W⟩:=Kd.uK h0
 clear h0
 replace K17:=K17.aGU a2W
 clear a2W
 gi_wp2_with fail
 refine⟨trivial,rfl,?_⟩
 refine(callsIn_wide.2 (af8.calls 1 10 10 12 12 20 20 1 _ (asH 1))).mono ?_
 rintro e_ BM ⟨rfl,hb⟩
 have K18:=K17.step hb
 clear hb K17
 gi_wp2_with fail
 refine⟨trivial,rfl,?_⟩
 refine(callsIn_wide.2 (af9.calls PO _ asG)).mono ?_
 rintro e_ xU ⟨v0,rfl,h0,hb⟩
 obtain⟨KT,KU,rfl,KW,a2Y⟩:=Kd.uK h0
 clear h0
 have K19:=K18.step hb
 clear hb K18
 gi_wp2_with fail
 refine⟨trivial,rfl,?_⟩
 refine(callsIn_wide.2 (aGQ.calls 10 10 12 12 20 20 1 KT KU PO 1 [1,2] [1,2] 0 _ a2Y KW bp1)).mono ?_
 rintro e_ zD ⟨v0,v1,rfl,h0,h1,hb⟩
 have K20:=K19.step hb
 clear hb K19 a2Y
 obtain⟨FV,KX,rfl,KY,a3A⟩:=Kd.uK h0
 clear h0
 replace K20:=K20.ZO a3A
 clear a3A
 obtain⟨NR,NS,rfl,NT,a3B⟩:=Kd.uK h1
 clear h1
 replace K20:=K20.ZO a3B
 clear a3B
 gi_wp2_with fail
 refine⟨trivial,rfl,?_⟩
 refine(callsIn_wide.2 (af8.calls 2 10 10 12 12 20 20 2 _ (asH 2))).mono ?_
 rintro e_ BR ⟨rfl,hb⟩
 have K21:=K20.step hb
 clear hb K20
 gi_wp2_with fail
 refine⟨trivial,rfl,?_⟩
 refine(callsIn_wide.2 (af9.calls PO _ asG)).mono ?_
 rintro e_ AU ⟨v0,rfl,h0,hb⟩
 obtain⟨KZ,LC,rfl,LD,a3D⟩:=Kd.uK h0
 clear h0
 have K22:=K21.step hb
 clear hb K21
 gi_wp2_with fail
 refine⟨trivial,rfl,?_⟩
 refine(callsIn_wide.2 (aGO.calls 10 10 12 12 20 20 2 KZ LC PO 1 [0,1] 0 _ K22.tab a3D LD bp2)).mono ?_
 rintro e_ EZ ⟨v0,rfl,h0,hb⟩
 have K23:=K22.step hb
 clear hb K22 a3D
 obtain⟨FX,LG,rfl,LH,a3E⟩:=Kd.uK h0
 clear h0
 replace K23:=K23.ZO a3E
 clear a3E
 gi_wp2_with fail
 refine⟨trivial,rfl,?_⟩
 refine(callsIn_wide.2 (af8.calls 1 10 10 12 12 20 20 1 _ (asH 1))).mono ?_
 rintro e_ BN ⟨rfl,hb⟩
 have K24:=K23.step hb
 clear hb K23
 gi_wp2_with fail
 refine⟨trivial,rfl,?_⟩
 refine(callsIn_wide.2 (af9.calls PO _ asG)).mono ?_
 rintro e_ AV ⟨v0,rfl,h0,hb⟩
 obtain⟨LJ,LK,rfl,LM,a3G⟩:=Kd.uK h0
 clear h0
 have K25:=K24.step hb
 clear hb K24
 gi_wp2_with fail
 refine⟨trivial,rfl,?_⟩
 refine(callsIn_wide.2 (ayW.calls 10 10 12 12 20 20 1 LJ LK PO 1 10 10 12 12 20 20 0 _ a3G LM bp3)).mono ?_
 rintro e_ xN ⟨rfl,hb⟩
 have K26:=K25.step hb
 clear hb K25 a3G
 gi_wp2_with fail
 obtain⟨wF,hwx⟩:∃ W,(((xN.alloc (Obj.cells #[.int .i64 10,.int .i64 10] 42)).alloc (Obj.cells #[.int .i64 12,.int .i64 12] 42)).alloc (Obj.cells #[.int .i64 20,.int .i64 20] 42))=W:=⟨_,rfl⟩
 have K27:=((K26.step (wC _ (Obj.cells #[.int .i64 10,.int .i64 10] 42))).step (wC _ (Obj.cells #[.int .i64 12,.int .i64 12] 42))).step (wC _ (Obj.cells #[.int .i64 20,.int .i64 20] 42))
 have xa:Box wF xN.heap.size #[.int .i64 10,.int .i64 10] 42:=by rw[<-hwx];exact((Box.new _ _ _).alloc _).alloc _
 have xb:Box wF (xN.heap.size+1) #[.int .i64 12,.int .i64 12] 42:=by rw[<-hwx];exact(Box.new' _ _ _ (by simp)).alloc _
 have xc:Box wF (xN.heap.size+1+1) #[.int .i64 20,.int .i64 20] 42:=by rw[<-hwx];exact Box.new' _ _ _ (by simp)
 rw[hwx]at K27 ⊢
 clear hwx K26
 have B27:Below wF.heap.size wF wF:=Below.refl _ _
 refine⟨trivial,rfl,?_⟩
 refine(callsIn_wide.2 (af8.calls 1 10 10 12 12 20 20 1 _ (asH 1))).mono ?_
 rintro e_ BQ ⟨rfl,hb⟩
 have K28:=K27.step hb
 have B28:=B27.trans (hb.mono B27.size)
 clear hb K27 B27
 gi_wp2_with fail
 refine⟨trivial,rfl,?_⟩
 refine(callsIn_wide.2 (af9.calls PO _ asG)).mono ?_
 rintro e_ EK ⟨v0,rfl,h0,hb⟩
 obtain⟨LP,LQ,rfl,LU,a3K⟩:=Kd.uK h0
 clear h0
 have K29:=K28.step hb
 have B29:=B28.trans (hb.mono B28.size)
 clear hb K28 B28
 gi_wp2_with fail
 refine⟨trivial,rfl,?_⟩
 refine(callsIn_wide.2 (aGP.calls 10 10 12 12 20 20 1 LP LQ PO 0 [1,2] 0 _ K29.tab a3K LU bp4)).mono ?_
 rintro e_ uF ⟨v0,rfl,h0,hb⟩
 have K30:=K29.step hb
 have B30:=B29.trans (hb.mono B29.size)
 clear hb K29 B29 a3K
 obtain⟨FY,LV,rfl,LW,a3L⟩:=Kd.uK h0
 clear h0
 replace K30:=K30.ZO a3L
 clear a3L
 gi_wp2_with fail
 obtain⟨a1,hA1,p0,p1⟩:=rE (show Kd.C iD _ aGZ rC1.length rC1 from K30.hs (aGZ,rC1) (by simp)) 0 (by decide) (show(0:Int)<((rC1.length:Nat):Int) by decide)
 obtain⟨a1b,a3M,q0,q1⟩:=rE (show Kd.C iD _ aGZ rC1.length rC1 from K30.hs (aGZ,rC1) (by simp)) 3 (by decide) (show(3:Int)<((rC1.length:Nat):Int) by decide)
 obtain⟨a2,hA2,r0,r1⟩:=rE (show Kd.C iD _ a2D rC2.length rC2 from K30.hs (a2D,rC2) (by simp)) 1 (by decide) (show(1:Int)<((rC2.length:Nat):Int) by decide)
 subst hA1
 obtain rfl:=Option.some.inj a3M
 subst hA2
 have hC:asE a1 a2 uF.drew:=asE.step ⟨p0,p1,q0,q1,r0,r1⟩ ((Below.refl _ _).drew)
 clear p0 p1 q0 q1 r0 r1 a3M
 have hb:Below uF.heap.size uF uF.drew:=(Below.refl _ _).drew
 have KD:=K30.step hb
 have BD:=B30.trans (hb.mono B30.size)
 clear hb K30 B30
 rename_i NU NV NW aG4 aG5 aG6 aG7
 revert w hT NU w1 IG II IJ IK IL IM w2 FN IP IQ FO IU IV w3 IW IX IY IZ JA JB w4 NF NG NH NI w5 JC JD JE JG JH JI w6 NJ NK NL NM NP NQ w7 JJ JL JM JO JP JQ w8 FP JR JS w9 w10 JU JV JW JX JY JZ vK FQ KA KC w12 tV KF KG KH rU FT KI KJ vY w16 KL KN KO uS FU KP KR BM xU KT KU KW zD FV KX KY NR NS NT BR AU KZ LC LD EZ FX LG LH BN AV LJ LK LM xN wF xa xb xc BQ EK LP LQ LU uF FY LV LW NV NW aG4 aG5 aG6 aG7 a1 a2 hC KD BD
 exact tY.out trivial
attribute [local go_sem] Oper.semAt_some run_store_func undef
noncomputable def aO4:{G:Prop // G->aOX.1}:=by
  refine⟨?_,?_⟩
  rotate_left
  intro tY
  replace tY:aA (True->_):=⟨fun _=>tY⟩
  intro w hT NU w1 IG II IJ IK IL IM w2 FN IP IQ FO IU IV w3 IW IX IY IZ JA JB w4 NF NG NH NI w5 JC JD JE JG JH JI w6 NJ NK NL NM NP NQ w7 JJ JL JM JO JP JQ w8 FP JR JS w9 w10 JU JV JW JX JY JZ vK FQ KA KC w12 tV KF KG KH rU FT KI KJ vY w16 KL KN KO uS FU KP KR BM xU KT KU KW zD FV KX KY NR NS NT BR AU KZ LC LD EZ FX LG LH BN AV LJ LK LM xN wF xa xb xc BQ EK LP LQ LU uF FY LV LW NV NW aG4 aG5 aG6 aG7 a1 a2 hC KD BD
  refine aaF 54 [(0,true),(1,false),(2,false),(3,false),(4,false),(5,true),(6,true),(7,true),(8,false),(9,false),(10,false),(11,false),(12,true),(13,true),(14,true),(15,true),(16,true),(17,true),(18,false),(19,true),(20,true),(21,true),(22,true),(23,true),(24,true),(25,false),(26,true),(27,true),(28,true),(29,true),(30,true),(31,true),(32,false),(33,true),(34,true),(35,true),(36,true),(37,true),(38,true),(39,true),(40,true),(41,true),(42,true),(43,true),(44,true),(45,false),(46,false),(47,true),(48,true),(49,true),(50,true),(51,false),(52,false),(53,true)] (asE a1 a2) (rZ.of (by kernel_rfl)) rfl (by kernel_rfl) hC ?_
  obtain⟨D,hD⟩:∃ D,uF.drew=D:=⟨_,rfl⟩
  rw[hD]at hC KD BD ⊢
  clear hD
  have hl2:((rC2.length:Nat):Int)=4:=rfl
  iterate 1
   apply FD rfl (fun _=>rfl) (by assumption)
   intro KQ wH wq hwq
   obtain⟨p0,p1,q0,q1,r0,r1⟩:=hwq
   go_simp
   exact wH
  refine uG rfl ?_
  gi_wp2_with fail
  refine⟨trivial,rfl,?_⟩
  refine(callsIn_wide.2 (lT.calls 0 1 0 1 _ rfl)).mono ?_
  rintro e_ yA ⟨rfl,hb⟩
  have K31:=KD.step hb
  have B31:=BD.trans (hb.mono BD.size)
  have aO6:=hC.step hb
  clear KD BD hC hb
  gi_wp2
  refine⟨aO6,?_⟩
  refine uG rfl ?_
  gi_wp2_with fail
  refine⟨trivial,rfl,?_⟩
  refine(callsIn_wide.2 (lT.calls 0 0 0 0 _ rfl)).mono ?_
  rintro e_ w32 ⟨rfl,hb⟩
  have K32:=K31.step hb
  have B32:=B31.trans (hb.mono B31.size)
  have aO8:=aO6.step hb
  clear K31 B31 aO6 hb
  gi_wp2
  refine⟨aO8,?_⟩
  refine uG rfl ?_
  gi_wp2
  obtain⟨NY,hwn⟩:∃ W,w32.alloc (Obj.cells #[.int .i64 0,.int .i64 1,.int .i64 0,.int .i64 0] 42)=W:=⟨_,rfl⟩
  have hb:Below w32.heap.size w32 NY:=by rw[<-hwn];exact wC _ _
  have vP:=a1U w32 ⟨0,1⟩ ⟨0,0⟩ _ rfl
  rw[hwn]at vP ⊢
  clear hwn
  have K33:=K32.step hb
  have B33:=B32.trans (hb.mono B32.size)
  have aPA:=aO8.step hb
  clear K32 B32 aO8 hb
  replace K33:=K33.asD vP
  clear vP
  refine⟨aPA,?_⟩
  refine uG rfl ?_
  gi_wp2_with fail
  refine⟨trivial,rfl,?_⟩
  refine(callsIn_wide.2 (mD.calls 9 FN IP rL1 (some ⟨w32.heap.size,0,none⟩) 2 [⟨0,1⟩,⟨0,0⟩] true _ (K33.hs (FN,rL1) (by simp)) IQ (K33.hs (some ⟨w32.heap.size,0,none⟩,[⟨0,1⟩,⟨0,0⟩]) (by simp)) (Nat.le_refl _) (by kernel_rfl))).mono ?_
  rintro e_ MN ⟨rfl,hdr⟩
  have hb:=hdr.below
  clear hdr
  have K34:=K33.step hb
  have B34:=B33.trans (hb.mono B33.size)
  have aPC:=aPA.step hb
  clear K33 B33 aPA hb
  gi_wp2
  refine⟨aPC,?_⟩
  iterate 3
   apply FD rfl (fun _=>rfl) (by assumption)
   intro KQ wH wq hwq
   obtain⟨p0,p1,q0,q1,r0,r1⟩:=hwq
   go_simp
   exact wH
  refine uG rfl ?_
  gi_wp2_with fail
  refine⟨trivial,rfl,?_⟩
  refine(callsIn_wide.2 (lT.calls 2 2 2 2 _ rfl)).mono ?_
  rintro e_ FB ⟨rfl,hb⟩
  have K35:=K34.step hb
  have B35:=B34.trans (hb.mono B34.size)
  have aPE:=aPC.step hb
  clear K34 B34 aPC hb
  gi_wp2
  refine⟨aPE,?_⟩
  refine uG rfl ?_
  gi_wp2_with fail
  refine⟨trivial,rfl,?_⟩
  refine(callsIn_wide.2 (lT.calls 6 8 6 8 _ rfl)).mono ?_
  rintro e_ xK ⟨rfl,hb⟩
  have K36:=K35.step hb
  have B36:=B35.trans (hb.mono B35.size)
  have aPG:=aPE.step hb
  clear K35 B35 aPE hb
  gi_wp2
  refine⟨aPG,?_⟩
  refine uG rfl ?_
  gi_wp2
  obtain⟨BO,hwn⟩:∃ W,xK.alloc (Obj.cells #[.int .i64 2,.int .i64 2,.int .i64 6,.int .i64 8] 42)=W:=⟨_,rfl⟩
  have hb:Below xK.heap.size xK BO:=by rw[<-hwn];exact wC _ _
  have vP:=a1U xK ⟨2,2⟩ ⟨6,8⟩ _ rfl
  rw[hwn]at vP ⊢
  clear hwn
  have K37:=K36.step hb
  have B37:=B36.trans (hb.mono B36.size)
  have aPI:=aPG.step hb
  clear K36 B36 aPG hb
  replace K37:=K37.asD vP
  clear vP
  refine⟨aPI,?_⟩
  refine uG rfl ?_
  gi_wp2_with fail
  refine⟨trivial,rfl,?_⟩
  refine(callsIn_wide.2 (mD.calls 9 FO IU rL2 (some ⟨xK.heap.size,0,none⟩) 2 [⟨2,2⟩,⟨6,8⟩] true _ (K37.hs (FO,rL2) (by simp)) IV (K37.hs (some ⟨xK.heap.size,0,none⟩,[⟨2,2⟩,⟨6,8⟩]) (by simp)) (Nat.le_refl _) (by kernel_rfl))).mono ?_
  rintro e_ AX ⟨rfl,hdr⟩
  have hb:=hdr.below
  clear hdr
  have K38:=K37.step hb
  have B38:=B37.trans (hb.mono B37.size)
  have ay0:=aPI.step hb
  clear K37 B37 aPI hb
  gi_wp2
  refine⟨ay0,?_⟩
  revert w hT NU w1 IG II IJ IK IL IM w2 FN IP IQ FO IU IV w3 IW IX IY IZ JA JB w4 NF NG NH NI w5 JC JD JE JG JH JI w6 NJ NK NL NM NP NQ w7 JJ JL JM JO JP JQ w8 FP JR JS w9 w10 JU JV JW JX JY JZ vK FQ KA KC w12 tV KF KG KH rU FT KI KJ vY w16 KL KN KO uS FU KP KR BM xU KT KU KW zD FV KX KY NR NS NT BR AU KZ LC LD EZ FX LG LH BN AV LJ LK LM xN wF xa xb xc BQ EK LP LQ LU uF FY LV LW NV NW aG4 aG5 aG6 aG7 a1 a2 D hl2 yA w32 NY MN FB xK BO AX K38 B38 ay0
  exact tY.out trivial
attribute [local go_sem] Oper.semAt_some run_store_func undef
noncomputable def aPJ:{G:Prop // G->aO4.1}:=by
  refine⟨?_,?_⟩
  rotate_left
  intro tY
  replace tY:aA (True->_):=⟨fun _=>tY⟩
  intro w hT NU w1 IG II IJ IK IL IM w2 FN IP IQ FO IU IV w3 IW IX IY IZ JA JB w4 NF NG NH NI w5 JC JD JE JG JH JI w6 NJ NK NL NM NP NQ w7 JJ JL JM JO JP JQ w8 FP JR JS w9 w10 JU JV JW JX JY JZ vK FQ KA KC w12 tV KF KG KH rU FT KI KJ vY w16 KL KN KO uS FU KP KR BM xU KT KU KW zD FV KX KY NR NS NT BR AU KZ LC LD EZ FX LG LH BN AV LJ LK LM xN wF xa xb xc BQ EK LP LQ LU uF FY LV LW NV NW aG4 aG5 aG6 aG7 a1 a2 D hl2 yA w32 NY MN FB xK BO AX K38 B38 ay0
  iterate 6
   apply FD rfl (fun _=>rfl) (by assumption)
   intro KQ wH wq hwq
   obtain⟨p0,p1,q0,q1,r0,r1⟩:=hwq
   go_simp
   exact wH
  refine uG rfl ?_
  gi_wp2_with fail
  refine⟨trivial,rfl,?_⟩
  refine(callsIn_wide.2 (lT.calls 5 6 5 6 _ rfl)).mono ?_
  rintro e_ OZ ⟨rfl,hb⟩
  have K39:=K38.step hb
  have B39:=B38.trans (hb.mono B38.size)
  have aPL:=ay0.step hb
  clear K38 B38 ay0 hb
  gi_wp2
  refine⟨aPL,?_⟩
  iterate 6
   apply FD rfl (fun _=>rfl) (by assumption)
   intro KQ wH wq hwq
   obtain⟨p0,p1,q0,q1,r0,r1⟩:=hwq
   go_simp
   exact wH
  refine uG rfl ?_
  gi_wp2_with fail
  refine⟨trivial,rfl,?_⟩
  refine(callsIn_wide.2 (lT.calls 8 9 8 9 _ rfl)).mono ?_
  rintro e_ PE ⟨rfl,hb⟩
  have K40:=K39.step hb
  have B40:=B39.trans (hb.mono B39.size)
  have aPN:=aPL.step hb
  clear K39 B39 aPL hb
  gi_wp2
  refine⟨aPN,?_⟩
  iterate 6
   apply FD rfl (fun _=>rfl) (by assumption)
   intro KQ wH wq hwq
   obtain⟨p0,p1,q0,q1,r0,r1⟩:=hwq
   go_simp
   exact wH
  refine uG rfl ?_
  gi_wp2_with fail
  refine⟨trivial,rfl,?_⟩
  refine(callsIn_wide.2 (lT.calls 10 12 10 12 _ rfl)).mono ?_
  rintro e_ AZ ⟨rfl,hb⟩
  have K41:=K40.step hb
  have B41:=B40.trans (hb.mono B40.size)
  have aPP:=aPN.step hb
  clear K40 B40 aPN hb
  gi_wp2
  refine⟨aPP,?_⟩
  iterate 12
   apply FD rfl (fun _=>rfl) (by assumption)
   intro KQ wH wq hwq
   obtain⟨p0,p1,q0,q1,r0,r1⟩:=hwq
   go_simp
   exact wH
  refine uG rfl ?_
  gi_wp2
  obtain⟨MJ,hwn⟩:∃ W,AZ.alloc (Obj.cells #[.int .i64 0] 3)=W:=⟨_,rfl⟩
  have hb:Below AZ.heap.size AZ MJ:=by rw[<-hwn];exact wC _ _
  have vP:=(show Kd.C (Kd.int .i64) (AZ.alloc (Obj.cells #[.int .i64 0] 3)) (some ⟨AZ.heap.size,0,none⟩) 1 [0]from au0 AZ [0] _ rfl (by decide))
  rw[hwn]at vP ⊢
  clear hwn
  have K42:=K41.step hb
  have B42:=B41.trans (hb.mono B41.size)
  have aPR:=aPP.step hb
  clear K41 B41 aPP hb
  replace K42:=K42.ZO vP
  clear vP
  refine⟨aPR,?_⟩
  refine uG rfl ?_
  gi_wp2_with fail
  refine⟨trivial,rfl,?_⟩
  refine(callsIn_wide.2 (oD.calls 9 FP JR [0] (some ⟨AZ.heap.size,0,none⟩) 1 [0] true _ (K42.hi (FP,[0]) (by simp)) JS (K42.hi (some ⟨AZ.heap.size,0,none⟩,[0]) (by simp)) (Nat.le_refl _) (by kernel_rfl))).mono ?_
  rintro e_ BH ⟨rfl,hdr⟩
  have hb:=hdr.below
  clear hdr
  have K43:=K42.step hb
  have B43:=B42.trans (hb.mono B42.size)
  have aPT:=aPR.step hb
  clear K42 B42 aPR hb
  gi_wp2
  refine⟨aPT,?_⟩
  iterate 4
   apply FD rfl (fun _=>rfl) (by assumption)
   intro KQ wH wq hwq
   obtain⟨p0,p1,q0,q1,r0,r1⟩:=hwq
   go_simp
   exact wH
  refine uG rfl ?_
  gi_wp2
  obtain⟨PN,hwn⟩:∃ W,BH.alloc (Obj.cells #[.int .i64 1] 3)=W:=⟨_,rfl⟩
  have hb:Below BH.heap.size BH PN:=by rw[<-hwn];exact wC _ _
  have vP:=(show Kd.C (Kd.int .i64) (BH.alloc (Obj.cells #[.int .i64 1] 3)) (some ⟨BH.heap.size,0,none⟩) 1 [1]from au0 BH [1] _ rfl (by decide))
  rw[hwn]at vP ⊢
  clear hwn
  have K44:=K43.step hb
  have B44:=B43.trans (hb.mono B43.size)
  have aPV:=aPT.step hb
  clear K43 B43 aPT hb
  replace K44:=K44.ZO vP
  clear vP
  refine⟨aPV,?_⟩
  refine uG rfl ?_
  gi_wp2_with fail
  refine⟨trivial,rfl,?_⟩
  refine(callsIn_wide.2 (oD.calls 9 FQ KA [1] (some ⟨BH.heap.size,0,none⟩) 1 [1] true _ (K44.hi (FQ,[1]) (by simp)) KC (K44.hi (some ⟨BH.heap.size,0,none⟩,[1]) (by simp)) (Nat.le_refl _) (by kernel_rfl))).mono ?_
  rintro e_ EL ⟨rfl,hdr⟩
  have hb:=hdr.below
  clear hdr
  have K45:=K44.step hb
  have B45:=B44.trans (hb.mono B44.size)
  have a3X:=aPV.step hb
  clear K44 B44 aPV hb
  gi_wp2
  refine⟨a3X,?_⟩
  iterate 1
   apply FD rfl (fun _=>rfl) (by assumption)
   intro KQ wH wq hwq
   obtain⟨p0,p1,q0,q1,r0,r1⟩:=hwq
   go_simp
   exact wH
  show wpListIn _ _ _ _ _ _ _ _
  try simp only[List.drop_succ_cons,List.drop_zero]
  gi_wp2
  rw[yZ]
  gi_wp2_with fail
  have hX0:asF xN.heap.size EL.drew:=asF.step ⟨(xa.below B45 xa.lt).cell 0 rfl,(xa.below B45 xa.lt).cell 1 rfl,(xb.below B45 xb.lt).cell 0 rfl,(xb.below B45 xb.lt).cell 1 rfl,(xc.below B45 xc.lt).cell 0 rfl,(xc.below B45 xc.lt).cell 1 rfl⟩ ((Below.refl _ _).drew)
  have hb:Below EL.heap.size EL EL.drew:=(Below.refl _ _).drew
  have KE:=K45.step hb
  have BE:=B45.trans (hb.mono B45.size)
  clear hb K45 B45 a3X
  rename_i UU UW UX
  revert w hT NU w1 IG II IJ IK IL IM w2 FN IP IQ FO IU IV w3 IW IX IY IZ JA JB w4 NF NG NH NI w5 JC JD JE JG JH JI w6 NJ NK NL NM NP NQ w7 JJ JL JM JO JP JQ w8 FP JR JS w9 w10 JU JV JW JX JY JZ vK FQ KA KC w12 tV KF KG KH rU FT KI KJ vY w16 KL KN KO uS FU KP KR BM xU KT KU KW zD FV KX KY NR NS NT BR AU KZ LC LD EZ FX LG LH BN AV LJ LK LM xN wF xa xb xc BQ EK LP LQ LU uF FY LV LW NV NW a1 a2 D hl2 yA w32 NY MN FB xK BO AX OZ PE AZ UU MJ BH PN EL UW UX hX0 KE BE
  exact tY.out trivial
attribute [local go_sem] Oper.semAt_some run_store_func undef
noncomputable def aPW:{G:Prop // G->aPJ.1}:=by
  refine⟨?_,?_⟩
  rotate_left
  intro tY
  replace tY:aA (True->_):=⟨fun _=>tY⟩
  intro w hT NU w1 IG II IJ IK IL IM w2 FN IP IQ FO IU IV w3 IW IX IY IZ JA JB w4 NF NG NH NI w5 JC JD JE JG JH JI w6 NJ NK NL NM NP NQ w7 JJ JL JM JO JP JQ w8 FP JR JS w9 w10 JU JV JW JX JY JZ vK FQ KA KC w12 tV KF KG KH rU FT KI KJ vY w16 KL KN KO uS FU KP KR BM xU KT KU KW zD FV KX KY NR NS NT BR AU KZ LC LD EZ FX LG LH BN AV LJ LK LM xN wF xa xb xc BQ EK LP LQ LU uF FY LV LW NV NW a1 a2 D hl2 yA w32 NY MN FB xK BO AX OZ PE AZ UU MJ BH PN EL UW UX hX0 KE BE
  refine bpO 43 (CG.row [(0,true),(1,false),(2,false),(3,false),(4,true),(5,true)] (.perm [6,7,8,9] (CG.row [(10,false),(11,false),(12,true),(13,true),(14,true),(15,false),(16,false),(17,true),(18,true),(19,true),(20,false),(21,false),(22,true),(23,true),(24,true),(25,false),(26,true),(27,true),(28,true),(29,true),(30,false),(31,true),(32,true),(33,true),(34,true),(35,false),(36,true),(37,true),(38,true),(39,true),(40,false),(41,false),(42,true)] .done))) (asF xN.heap.size) (rZ.of (by kernel_rfl)) rfl (by kernel_rfl) hX0 ?_
  simp only[CG.row]
  obtain⟨E,hE⟩:∃ D,EL.drew=D:=⟨_,rfl⟩
  rw[hE]at hX0 KE BE ⊢
  clear hE
  iterate 1
   apply agO rfl (fun _=>rfl) (by assumption)
   intro KQ wH wq hwq
   obtain⟨x0,x1,x2,x3,x4,x5⟩:=hwq
   go_simp
   exact wH
  refine YB rfl ?_
  gi_wp2
  obtain⟨FZ,hwn⟩:∃ W,E.alloc (Obj.cells #[.int .i64 0,.int .i64 1,.int .i64 (-1)] 3)=W:=⟨_,rfl⟩
  have hb:Below E.heap.size E FZ:=by rw[<-hwn];exact wC _ _
  have ajG:=ayY E E.heap.size (Nat.le_refl _) 0 1 (-1) _ rfl
  rw[hwn]at ajG ⊢
  clear hwn
  have K46:=KE.step hb
  have B46:=BE.trans (hb.mono BE.size)
  have ay2:=hX0.step hb
  clear KE BE hX0 hb
  refine⟨ay2,?_⟩
  revert w hT NU w1 IG II IJ IK IL IM w2 FN IP IQ FO IU IV w3 IW IX IY IZ JA JB w4 NF NG NH NI w5 JC JD JE JG JH JI w6 NJ NK NL NM NP NQ w7 JJ JL JM JO JP JQ w8 FP JR JS w9 w10 JU JV JW JX JY JZ vK FQ KA KC w12 tV KF KG KH rU FT KI KJ vY w16 KL KN KO uS FU KP KR BM xU KT KU KW zD FV KX KY NR NS NT BR AU KZ LC LD EZ FX LG LH BN AV LJ LK LM xN wF xa xb xc BQ EK LP LQ LU uF FY LV LW NV NW a1 a2 D hl2 yA w32 NY MN FB xK BO AX OZ PE AZ UU MJ BH PN EL UW UX E FZ ajG K46 B46 ay2
  exact tY.out trivial
attribute [local go_sem] Oper.semAt_some run_store_func undef
noncomputable def aPX:{G:Prop // G->aPW.1}:=by
 refine⟨?_,?_⟩
 rotate_left
 intro tY
 replace tY:aA (True->_):=⟨fun _=>tY⟩
 intro w hT NU w1 IG II IJ IK IL IM w2 FN IP IQ FO IU IV w3 IW IX IY IZ JA JB w4 NF NG NH NI w5 JC JD JE JG JH JI w6 NJ NK NL NM NP NQ w7 JJ JL JM JO JP JQ w8 FP JR JS w9 w10 JU JV JW JX JY JZ vK FQ KA KC w12 tV KF KG KH rU FT KI KJ vY w16 KL KN KO uS FU KP KR BM xU KT KU KW zD FV KX KY NR NS NT BR AU KZ LC LD EZ FX LG LH BN AV LJ LK LM xN wF xa xb xc BQ EK LP LQ LU uF FY LV LW NV NW a1 a2 D hl2 yA w32 NY MN FB xK BO AX OZ PE AZ UU MJ BH PN EL UW UX E FZ ajG K46 B46 ay2
 refine YB rfl ?_
 gi_wp2
 obtain⟨VN,hwn⟩:∃ W,FZ.alloc (Obj.cells #[.slice (some ⟨E.heap.size,0,none⟩) 3 3] 34)=W:=⟨_,rfl⟩
 have hb:Below FZ.heap.size FZ VN:=by rw[<-hwn];exact wC _ _
 have vP:=a1V FZ E.heap.size (Nat.le_of_lt (World.ownsRow.lt ajG _ rfl).2) [.slice (some ⟨E.heap.size,0,none⟩) 3 3] [[0,1,-1]] rfl (by decide) (fun j y x hy hx=>one_row ajG hy hx) _ rfl
 rw[hwn]at vP ⊢
 clear hwn
 have K47:=K46.step hb
 have B47:=B46.trans (hb.mono B46.size)
 have ay4:=ay2.step hb
 clear K46 B46 ay2 hb
 replace K47:=K47.aGU vP
 clear vP
 refine⟨ay4,?_⟩
 revert w hT NU w1 IG II IJ IK IL IM w2 FN IP IQ FO IU IV w3 IW IX IY IZ JA JB w4 NF NG NH NI w5 JC JD JE JG JH JI w6 NJ NK NL NM NP NQ w7 JJ JL JM JO JP JQ w8 FP JR JS w9 w10 JU JV JW JX JY JZ vK FQ KA KC w12 tV KF KG KH rU FT KI KJ vY w16 KL KN KO uS FU KP KR BM xU KT KU KW zD FV KX KY NR NS NT BR AU KZ LC LD EZ FX LG LH BN AV LJ LK LM xN wF xa xb xc BQ EK LP LQ LU uF FY LV LW NV NW a1 a2 D hl2 yA w32 NY MN FB xK BO AX OZ PE AZ UU MJ BH PN EL UW UX E FZ ajG VN B47 ay4 K47
 exact tY.out trivial
attribute [local go_sem] Oper.semAt_some run_store_func undef
noncomputable def aPY:{G:Prop // G->aPX.1}:=by
  refine⟨?_,?_⟩
  rotate_left
  intro tY
  replace tY:aA (True->_):=⟨fun _=>tY⟩
  intro w hT NU w1 IG II IJ IK IL IM w2 FN IP IQ FO IU IV w3 IW IX IY IZ JA JB w4 NF NG NH NI w5 JC JD JE JG JH JI w6 NJ NK NL NM NP NQ w7 JJ JL JM JO JP JQ w8 FP JR JS w9 w10 JU JV JW JX JY JZ vK FQ KA KC w12 tV KF KG KH rU FT KI KJ vY w16 KL KN KO uS FU KP KR BM xU KT KU KW zD FV KX KY NR NS NT BR AU KZ LC LD EZ FX LG LH BN AV LJ LK LM xN wF xa xb xc BQ EK LP LQ LU uF FY LV LW NV NW a1 a2 D hl2 yA w32 NY MN FB xK BO AX OZ PE AZ UU MJ BH PN EL UW UX E FZ ajG VN B47 ay4 K47
  refine YB rfl ?_
  gi_wp2_with fail
  refine⟨trivial,rfl,?_⟩
  refine(callsIn_wide.2 (ZH.calls 12 FT KI rE1 (some ⟨FZ.heap.size,0,none⟩) 1 [[0,1,-1]] true _ (K47.hr (FT,rE1) (by simp)) KJ (K47.hr (some ⟨FZ.heap.size,0,none⟩,[[0,1,-1]]) (by simp)) (Nat.le_refl _) (by kernel_rfl))).mono ?_
  rintro e_ TW ⟨rfl,hdr⟩
  have hb:=hdr.below
  clear hdr
  have K48:=K47.step hb
  have B48:=B47.trans (hb.mono B47.size)
  have aHB:=ay4.step hb
  clear K47 B47 ay4 hb
  gi_wp2
  refine⟨aHB,?_⟩
  clear ajG
  iterate 2
   apply agO rfl (fun _=>rfl) (by assumption)
   intro KQ wH wq hwq
   obtain⟨x0,x1,x2,x3,x4,x5⟩:=hwq
   go_simp
   exact wH
  revert w hT NU w1 IG II IJ IK IL IM w2 FN IP IQ FO IU IV w3 IW IX IY IZ JA JB w4 NF NG NH NI w5 JC JD JE JG JH JI w6 NJ NK NL NM NP NQ w7 JJ JL JM JO JP JQ w8 FP JR JS w9 w10 JU JV JW JX JY JZ vK FQ KA KC w12 tV KF KG KH rU FT KI KJ vY w16 KL KN KO uS FU KP KR BM xU KT KU KW zD FV KX KY NR NS NT BR AU KZ LC LD EZ FX LG LH BN AV LJ LK LM xN wF xa xb xc BQ EK LP LQ LU uF FY LV LW NV NW a1 a2 D hl2 yA w32 NY MN FB xK BO AX OZ PE AZ UU MJ BH PN EL UW UX E FZ VN TW K48 B48 aHB
  exact tY.out trivial
attribute [local go_sem] Oper.semAt_some run_store_func undef
noncomputable def aPZ:{G:Prop // G->aPY.1}:=by
 refine⟨?_,?_⟩
 rotate_left
 intro tY
 replace tY:aA (True->_):=⟨fun _=>tY⟩
 intro w hT NU w1 IG II IJ IK IL IM w2 FN IP IQ FO IU IV w3 IW IX IY IZ JA JB w4 NF NG NH NI w5 JC JD JE JG JH JI w6 NJ NK NL NM NP NQ w7 JJ JL JM JO JP JQ w8 FP JR JS w9 w10 JU JV JW JX JY JZ vK FQ KA KC w12 tV KF KG KH rU FT KI KJ vY w16 KL KN KO uS FU KP KR BM xU KT KU KW zD FV KX KY NR NS NT BR AU KZ LC LD EZ FX LG LH BN AV LJ LK LM xN wF xa xb xc BQ EK LP LQ LU uF FY LV LW NV NW a1 a2 D hl2 yA w32 NY MN FB xK BO AX OZ PE AZ UU MJ BH PN EL UW UX E FZ VN TW K48 B48 aHB
 refine bpQ (JK TW) 212 213 214 215 (.tuple #[]) (.tuple #[]) (.tuple #[]) (.tuple #[]) (by rfl) (fun fl hfl=>⟨Below.refl _ _,fun h=>absurd ((hfl 6 (by simp)).symm.trans h) Bool.false_ne_true,fun h=>absurd ((hfl 7 (by simp)).symm.trans h) Bool.false_ne_true,fun h=>absurd ((hfl 8 (by simp)).symm.trans h) Bool.false_ne_true,fun h=>absurd ((hfl 9 (by simp)).symm.trans h) Bool.false_ne_true⟩) ?s6 ?s7 ?s8 ?s9 ?fin
 case s6=>
  intro fl w_ v6 v7 v8 v9 hfl hC_ hJ
  refine⟨_,rfl,?_⟩
  gi_wp2
  exact⟨hC_.step (wC _ _),.slice (some ⟨w_.heap.size,0,none⟩) 3 3,v7,v8,v9,rfl,hJ.s6 _ rfl⟩
 case s7=>
  intro fl w_ v6 v7 v8 v9 hfl hC_ hJ
  refine⟨_,rfl,?_⟩
  gi_wp2
  exact⟨hC_.step (wC _ _),v6,.slice (some ⟨w_.heap.size,0,none⟩) 3 3,v8,v9,rfl,hJ.s7 _ rfl⟩
 case s8=>
  intro fl w_ v6 v7 v8 v9 hfl hC_ hJ
  refine⟨_,rfl,?_⟩
  gi_wp2
  exact⟨hC_.step (wC _ _),v6,v7,.slice (some ⟨w_.heap.size,0,none⟩) 3 3,v9,rfl,hJ.s8 _ rfl⟩
 case s9=>
  intro fl w_ v6 v7 v8 v9 hfl hC_ hJ
  refine⟨_,rfl,?_⟩
  gi_wp2
  exact⟨hC_.step (wC _ _),v6,v7,v8,.slice (some ⟨w_.heap.size,0,none⟩) 3 3,rfl,hJ.s9 _ rfl⟩
 intro fl yJ v6 v7 v8 v9 hall aHC hJ
 have o6:=hJ.j6 (hall 6 (by simp))
 have o7:=hJ.j7 (hall 7 (by simp))
 have o8:=hJ.j8 (hall 8 (by simp))
 have o9:=hJ.j9 (hall 9 (by simp))
 have hb:=hJ.b
 clear hJ hall
 obtain⟨a6_,z6_,rfl⟩:∃ A c,v6=.slice A (3:Nat) c:=Kd.dA (eH.R o6)
 obtain⟨a7_,z7_,rfl⟩:∃ A c,v7=.slice A (3:Nat) c:=Kd.dA (eH.R o7)
 obtain⟨a8_,z8_,rfl⟩:∃ A c,v8=.slice A (3:Nat) c:=Kd.dA (eH.R o8)
 obtain⟨a9_,z9_,rfl⟩:∃ A c,v9=.slice A (3:Nat) c:=Kd.dA (eH.R o9)
 have K49:=K48.step hb
 have B49:=B48.trans (hb.mono B48.size)
 have hle:=hb.size
 clear hb K48 B48 aHB
 revert w hT NU w1 IG II IJ IK IL IM w2 FN IP IQ FO IU IV w3 IW IX IY IZ JA JB w4 NF NG NH NI w5 JC JD JE JG JH JI w6 NJ NK NL NM NP NQ w7 JJ JL JM JO JP JQ w8 FP JR JS w9 w10 JU JV JW JX JY JZ vK FQ KA KC w12 tV KF KG KH rU FT KI KJ vY w16 KL KN KO uS FU KP KR BM xU KT KU KW zD FV KX KY NR NS NT BR AU KZ LC LD EZ FX LG LH BN AV LJ LK LM xN wF xa xb xc BQ EK LP LQ LU uF FY LV LW NV NW a1 a2 D hl2 yA w32 NY MN FB xK BO AX OZ PE AZ UU MJ BH PN EL UW UX E FZ VN TW fl yJ aHC a6_ z6_ o6 a7_ z7_ o7 a8_ z8_ o8 a9_ z9_ o9 K49 B49 hle
 exact tY.out trivial
attribute [local go_sem] Oper.semAt_some run_store_func undef
noncomputable def aP0:{G:Prop // G->aPZ.1}:=by
 refine⟨?_,?_⟩
 rotate_left
 intro tY
 replace tY:aA (True->_):=⟨fun _=>tY⟩
 intro w hT NU w1 IG II IJ IK IL IM w2 FN IP IQ FO IU IV w3 IW IX IY IZ JA JB w4 NF NG NH NI w5 JC JD JE JG JH JI w6 NJ NK NL NM NP NQ w7 JJ JL JM JO JP JQ w8 FP JR JS w9 w10 JU JV JW JX JY JZ vK FQ KA KC w12 tV KF KG KH rU FT KI KJ vY w16 KL KN KO uS FU KP KR BM xU KT KU KW zD FV KX KY NR NS NT BR AU KZ LC LD EZ FX LG LH BN AV LJ LK LM xN wF xa xb xc BQ EK LP LQ LU uF FY LV LW NV NW a1 a2 D hl2 yA w32 NY MN FB xK BO AX OZ PE AZ UU MJ BH PN EL UW UX E FZ VN TW fl yJ aHC a6_ z6_ o6 a7_ z7_ o7 a8_ z8_ o8 a9_ z9_ o9 K49 B49 hle
 refine YB rfl ?_
 gi_wp2
 obtain⟨w50,hwn⟩:∃ W,yJ.alloc (Obj.cells #[.slice a6_ (3:Nat) z6_,.slice a7_ (3:Nat) z7_,.slice a8_ (3:Nat) z8_,.slice a9_ (3:Nat) z9_] 34)=W:=⟨_,rfl⟩
 have hb:Below yJ.heap.size yJ w50:=by rw[<-hwn];exact wC _ _
 have vP:=a1V yJ TW.heap.size hle [.slice a6_ (3:Nat) z6_,.slice a7_ (3:Nat) z7_,.slice a8_ (3:Nat) z8_,.slice a9_ (3:Nat) z9_] rE2 rfl (by decide) (fun j y x hy hx=>bpS o6 o7 o8 o9 hy hx) _ rfl
 rw[hwn]at vP ⊢
 clear hwn
 have K50:=K49.step hb
 have B50:=B49.trans (hb.mono B49.size)
 have ay8:=aHC.step hb
 clear K49 B49 aHC hb
 replace K50:=K50.aGU vP
 clear vP
 refine⟨ay8,?_⟩
 clear o6 o7 o8 o9 hle
 revert w hT NU w1 IG II IJ IK IL IM w2 FN IP IQ FO IU IV w3 IW IX IY IZ JA JB w4 NF NG NH NI w5 JC JD JE JG JH JI w6 NJ NK NL NM NP NQ w7 JJ JL JM JO JP JQ w8 FP JR JS w9 w10 JU JV JW JX JY JZ vK FQ KA KC w12 tV KF KG KH rU FT KI KJ vY w16 KL KN KO uS FU KP KR BM xU KT KU KW zD FV KX KY NR NS NT BR AU KZ LC LD EZ FX LG LH BN AV LJ LK LM xN wF xa xb xc BQ EK LP LQ LU uF FY LV LW NV NW a1 a2 D hl2 yA w32 NY MN FB xK BO AX OZ PE AZ UU MJ BH PN EL UW UX E FZ VN TW fl yJ a6_ z6_ a7_ z7_ a8_ z8_ a9_ z9_ w50 B50 ay8 K50
 exact tY.out trivial
attribute [local go_sem] Oper.semAt_some run_store_func undef
noncomputable def aP1:{G:Prop // G->aP0.1}:=by
  refine⟨?_,?_⟩
  rotate_left
  intro tY
  replace tY:aA (True->_):=⟨fun _=>tY⟩
  intro w hT NU w1 IG II IJ IK IL IM w2 FN IP IQ FO IU IV w3 IW IX IY IZ JA JB w4 NF NG NH NI w5 JC JD JE JG JH JI w6 NJ NK NL NM NP NQ w7 JJ JL JM JO JP JQ w8 FP JR JS w9 w10 JU JV JW JX JY JZ vK FQ KA KC w12 tV KF KG KH rU FT KI KJ vY w16 KL KN KO uS FU KP KR BM xU KT KU KW zD FV KX KY NR NS NT BR AU KZ LC LD EZ FX LG LH BN AV LJ LK LM xN wF xa xb xc BQ EK LP LQ LU uF FY LV LW NV NW a1 a2 D hl2 yA w32 NY MN FB xK BO AX OZ PE AZ UU MJ BH PN EL UW UX E FZ VN TW fl yJ a6_ z6_ a7_ z7_ a8_ z8_ a9_ z9_ w50 B50 ay8 K50
  refine YB rfl ?_
  gi_wp2_with fail
  refine⟨trivial,rfl,?_⟩
  refine(callsIn_wide.2 (ZH.calls 12 FU KP rE2 (some ⟨yJ.heap.size,0,none⟩) 4 rE2 true _ (K50.hr (FU,rE2) (by simp)) KR (K50.hr (some ⟨yJ.heap.size,0,none⟩,rE2) (by simp)) (Nat.le_refl _) (by kernel_rfl))).mono ?_
  rintro e_ ZP ⟨rfl,hdr⟩
  have hb:=hdr.below
  clear hdr
  have K51:=K50.step hb
  have B51:=B50.trans (hb.mono B50.size)
  have aP3:=ay8.step hb
  clear K50 B50 ay8 hb
  gi_wp2
  refine⟨aP3,?_⟩
  iterate 3
   apply agO rfl (fun _=>rfl) (by assumption)
   intro KQ wH wq hwq
   obtain⟨x0,x1,x2,x3,x4,x5⟩:=hwq
   go_simp
   exact wH
  refine YB rfl ?_
  gi_wp2
  obtain⟨w52,hwn⟩:∃ W,ZP.alloc (Obj.cells #[.int .i64 1,.int .i64 2] 3)=W:=⟨_,rfl⟩
  have hb:Below ZP.heap.size ZP w52:=by rw[<-hwn];exact wC _ _
  have vP:=(show Kd.C (Kd.int .i64) (ZP.alloc (Obj.cells #[.int .i64 1,.int .i64 2] 3)) (some ⟨ZP.heap.size,0,none⟩) 2 [1,2]from au0 ZP [1,2] _ rfl (by decide))
  rw[hwn]at vP ⊢
  clear hwn
  have K52:=K51.step hb
  have B52:=B51.trans (hb.mono B51.size)
  have aP5:=aP3.step hb
  clear K51 B51 aP3 hb
  replace K52:=K52.ZO vP
  clear vP
  refine⟨aP5,?_⟩
  refine YB rfl ?_
  gi_wp2_with fail
  refine⟨trivial,rfl,?_⟩
  refine(callsIn_wide.2 (oD.calls 9 FV KX [1,2] (some ⟨ZP.heap.size,0,none⟩) 2 [1,2] true _ (K52.hi (FV,[1,2]) (by simp)) KY (K52.hi (some ⟨ZP.heap.size,0,none⟩,[1,2]) (by simp)) (Nat.le_refl _) (by kernel_rfl))).mono ?_
  rintro e_ XI ⟨rfl,hdr⟩
  have hb:=hdr.below
  clear hdr
  have K53:=K52.step hb
  have B53:=B52.trans (hb.mono B52.size)
  have azA:=aP5.step hb
  clear K52 B52 aP5 hb
  gi_wp2
  refine⟨azA,?_⟩
  iterate 3
   apply agO rfl (fun _=>rfl) (by assumption)
   intro KQ wH wq hwq
   obtain⟨x0,x1,x2,x3,x4,x5⟩:=hwq
   go_simp
   exact wH
  revert w hT NU w1 IG II IJ IK IL IM w2 FN IP IQ FO IU IV w3 IW IX IY IZ JA JB w4 NF NG NH NI w5 JC JD JE JG JH JI w6 NJ NK NL NM NP NQ w7 JJ JL JM JO JP JQ w8 FP JR JS w9 w10 JU JV JW JX JY JZ vK FQ KA KC w12 tV KF KG KH rU FT KI KJ vY w16 KL KN KO uS FU KP KR BM xU KT KU KW zD FV KX KY NR NS NT BR AU KZ LC LD EZ FX LG LH BN AV LJ LK LM xN wF xa xb xc BQ EK LP LQ LU uF FY LV LW NV NW a1 a2 D hl2 yA w32 NY MN FB xK BO AX OZ PE AZ UU MJ BH PN EL UW UX E FZ VN TW fl yJ a6_ z6_ a7_ z7_ a8_ z8_ a9_ z9_ w50 ZP w52 XI K53 B53 azA
  exact tY.out trivial
attribute [local go_sem] Oper.semAt_some run_store_func undef
noncomputable def a3Z:{G:Prop // G->aP1.1}:=by
  refine⟨?_,?_⟩
  rotate_left
  intro tY
  replace tY:aA (True->_):=⟨fun _=>tY⟩
  intro w hT NU w1 IG II IJ IK IL IM w2 FN IP IQ FO IU IV w3 IW IX IY IZ JA JB w4 NF NG NH NI w5 JC JD JE JG JH JI w6 NJ NK NL NM NP NQ w7 JJ JL JM JO JP JQ w8 FP JR JS w9 w10 JU JV JW JX JY JZ vK FQ KA KC w12 tV KF KG KH rU FT KI KJ vY w16 KL KN KO uS FU KP KR BM xU KT KU KW zD FV KX KY NR NS NT BR AU KZ LC LD EZ FX LG LH BN AV LJ LK LM xN wF xa xb xc BQ EK LP LQ LU uF FY LV LW NV NW a1 a2 D hl2 yA w32 NY MN FB xK BO AX OZ PE AZ UU MJ BH PN EL UW UX E FZ VN TW fl yJ a6_ z6_ a7_ z7_ a8_ z8_ a9_ z9_ w50 ZP w52 XI K53 B53 azA
  refine YB rfl ?_
  gi_wp2
  obtain⟨w54,hwn⟩:∃ W,XI.alloc (Obj.cells #[.int .i64 0,.int .i64 1] 3)=W:=⟨_,rfl⟩
  have hb:Below XI.heap.size XI w54:=by rw[<-hwn];exact wC _ _
  have vP:=(show Kd.C (Kd.int .i64) (XI.alloc (Obj.cells #[.int .i64 0,.int .i64 1] 3)) (some ⟨XI.heap.size,0,none⟩) 2 [0,1]from au0 XI [0,1] _ rfl (by decide))
  rw[hwn]at vP ⊢
  clear hwn
  have K54:=K53.step hb
  have B54:=B53.trans (hb.mono B53.size)
  have aP7:=azA.step hb
  clear K53 B53 azA hb
  replace K54:=K54.ZO vP
  clear vP
  refine⟨aP7,?_⟩
  refine YB rfl ?_
  gi_wp2_with fail
  refine⟨trivial,rfl,?_⟩
  refine(callsIn_wide.2 (oD.calls 9 FX LG [0,1] (some ⟨XI.heap.size,0,none⟩) 2 [0,1] true _ (K54.hi (FX,[0,1]) (by simp)) LH (K54.hi (some ⟨XI.heap.size,0,none⟩,[0,1]) (by simp)) (Nat.le_refl _) (by kernel_rfl))).mono ?_
  rintro e_ w55 ⟨rfl,hdr⟩
  have hb:=hdr.below
  clear hdr
  have K55:=K54.step hb
  have B55:=B54.trans (hb.mono B54.size)
  have aP9:=aP7.step hb
  clear K54 B54 aP7 hb
  gi_wp2
  refine⟨aP9,?_⟩
  iterate 3
   apply agO rfl (fun _=>rfl) (by assumption)
   intro KQ wH wq hwq
   obtain⟨x0,x1,x2,x3,x4,x5⟩:=hwq
   go_simp
   exact wH
  refine YB rfl ?_
  gi_wp2_with fail
  refine⟨trivial,rfl,?_⟩
  refine(callsIn_wide.2 (lT.calls 10 10 10 10 _ rfl)).mono ?_
  rintro e_ w56 ⟨rfl,hb⟩
  have K56:=K55.step hb
  have B56:=B55.trans (hb.mono B55.size)
  have aQB:=aP9.step hb
  clear K55 B55 aP9 hb
  gi_wp2
  refine⟨aQB,?_⟩
  iterate 4
   apply agO rfl (fun _=>rfl) (by assumption)
   intro KQ wH wq hwq
   obtain⟨x0,x1,x2,x3,x4,x5⟩:=hwq
   go_simp
   exact wH
  refine YB rfl ?_
  gi_wp2_with fail
  refine⟨trivial,rfl,?_⟩
  refine(callsIn_wide.2 (lT.calls 12 12 12 12 _ rfl)).mono ?_
  rintro e_ w57 ⟨rfl,hb⟩
  have K57:=K56.step hb
  have B57:=B56.trans (hb.mono B56.size)
  have aQD:=aQB.step hb
  clear K56 B56 aQB hb
  gi_wp2
  refine⟨aQD,?_⟩
  iterate 4
   apply agO rfl (fun _=>rfl) (by assumption)
   intro KQ wH wq hwq
   obtain⟨x0,x1,x2,x3,x4,x5⟩:=hwq
   go_simp
   exact wH
  refine YB rfl ?_
  gi_wp2_with fail
  refine⟨trivial,rfl,?_⟩
  refine(callsIn_wide.2 (lT.calls 20 20 20 20 _ rfl)).mono ?_
  rintro e_ w58 ⟨rfl,hb⟩
  have K58:=K57.step hb
  have B58:=B57.trans (hb.mono B57.size)
  have azC:=aQD.step hb
  clear K57 B57 aQD hb
  gi_wp2
  refine⟨azC,?_⟩
  iterate 4
   apply agO rfl (fun _=>rfl) (by assumption)
   intro KQ wH wq hwq
   obtain⟨x0,x1,x2,x3,x4,x5⟩:=hwq
   go_simp
   exact wH
  revert w hT NU w1 IG II IJ IK IL IM w2 FN IP IQ FO IU IV w3 IW IX IY IZ JA JB w4 NF NG NH NI w5 JC JD JE JG JH JI w6 NJ NK NL NM NP NQ w7 JJ JL JM JO JP JQ w8 FP JR JS w9 w10 JU JV JW JX JY JZ vK FQ KA KC w12 tV KF KG KH rU FT KI KJ vY w16 KL KN KO uS FU KP KR BM xU KT KU KW zD FV KX KY NR NS NT BR AU KZ LC LD EZ FX LG LH BN AV LJ LK LM xN wF xa xb xc BQ EK LP LQ LU uF FY LV LW NV NW a1 a2 D hl2 yA w32 NY MN FB xK BO AX OZ PE AZ UU MJ BH PN EL UW UX E FZ VN TW fl yJ a6_ z6_ a7_ z7_ a8_ z8_ a9_ z9_ w50 ZP w52 XI w54 w55 w56 w57 w58 K58 B58 azC
  exact tY.out trivial
attribute [local go_sem] Oper.semAt_some run_store_func undef
theorem bp5:a3Z.1:=by
  intro w hT NU w1 IG II IJ IK IL IM w2 FN IP IQ FO IU IV w3 IW IX IY IZ JA JB w4 NF NG NH NI w5 JC JD JE JG JH JI w6 NJ NK NL NM NP NQ w7 JJ JL JM JO JP JQ w8 FP JR JS w9 w10 JU JV JW JX JY JZ vK FQ KA KC w12 tV KF KG KH rU FT KI KJ vY w16 KL KN KO uS FU KP KR BM xU KT KU KW zD FV KX KY NR NS NT BR AU KZ LC LD EZ FX LG LH BN AV LJ LK LM xN wF xa xb xc BQ EK LP LQ LU uF FY LV LW NV NW a1 a2 D hl2 yA w32 NY MN FB xK BO AX OZ PE AZ UU MJ BH PN EL UW UX E FZ VN TW fl yJ a6_ z6_ a7_ z7_ a8_ z8_ a9_ z9_ w50 ZP w52 XI w54 w55 w56 w57 w58 K58 B58 azC
  refine YB rfl ?_
  gi_wp2
  obtain⟨w59,hwn⟩:∃ W,w58.alloc (Obj.cells #[.int .i64 1,.int .i64 2] 3)=W:=⟨_,rfl⟩
  have hb:Below w58.heap.size w58 w59:=by rw[<-hwn];exact wC _ _
  have vP:=(show Kd.C (Kd.int .i64) (w58.alloc (Obj.cells #[.int .i64 1,.int .i64 2] 3)) (some ⟨w58.heap.size,0,none⟩) 2 [1,2]from au0 w58 [1,2] _ rfl (by decide))
  rw[hwn]at vP ⊢
  clear hwn
  have K59:=K58.step hb
  have B59:=B58.trans (hb.mono B58.size)
  have aQF:=azC.step hb
  clear K58 B58 azC hb
  replace K59:=K59.ZO vP
  clear vP
  refine⟨aQF,?_⟩
  refine YB rfl ?_
  gi_wp2_with fail
  refine⟨trivial,rfl,?_⟩
  refine(callsIn_wide.2 (oD.calls 9 FY LV [1,2] (some ⟨w58.heap.size,0,none⟩) 2 [1,2] true _ (K59.hi (FY,[1,2]) (by simp)) LW (K59.hi (some ⟨w58.heap.size,0,none⟩,[1,2]) (by simp)) (Nat.le_refl _) (by kernel_rfl))).mono ?_
  rintro e_ w60 ⟨rfl,hdr⟩
  have hb:=hdr.below
  clear hdr
  have K60:=K59.step hb
  have B60:=B59.trans (hb.mono B59.size)
  have bp8:=aQF.step hb
  clear K59 B59 aQF hb
  gi_wp2
  refine⟨bp8,?_⟩
  iterate 1
   apply agO rfl (fun _=>rfl) (by assumption)
   intro KQ wH wq hwq
   obtain⟨x0,x1,x2,x3,x4,x5⟩:=hwq
   go_simp
   exact wH
  show wpListIn _ _ _ _ _ _ _ _
  try simp only[List.drop_succ_cons,List.drop_zero]
  gi_wp2
  rw[yZ]
  gi_wp2_with fail
  go_ret
  exact⟨rfl,K60.below⟩
theorem aeZ {A:Prop} (s:{G:Prop // G->A}) (h:s.1):A:=s.2 h
theorem bp9:aP1.1:=aeZ a3Z bp5
theorem bqA:aP0.1:=aeZ aP1 bp9
theorem bqB:aPZ.1:=aeZ aP0 bqA
theorem bqC:aPY.1:=aeZ aPZ bqB
theorem bqD:aPX.1:=aeZ aPY bqC
theorem bqE:aPW.1:=aeZ aPX bqD
theorem bqF:aPJ.1:=aeZ aPW bqE
theorem bqG:aO4.1:=aeZ aPJ bqF
theorem bqH:aOX.1:=aeZ aO4 bqG
theorem aQG (w:World) (hT:lZ w):Calls Tryd.prog 15 #[] w fun e_ w'=>e_=.returned (.bool true)/\Below w.heap.size w w':=aeZ aOX bqH w hT
end Go.Proofs.YtcmfnebcmmklkaaDoor.Hand
