/- What the laws of chapter 9 share: words about rows and regions, the walks of the package dozen, and that known returns true. Part 9 of 16. -/
import Derived.Test.YtcmfnebcmmklkaaDoorK2
import Derived.Test.YtcmfnebcmmklkaaDoorK3
import Derived.Test.YtcmfnebcmmklkaaDoorK5
set_option linter.unusedVariables false
set_option linter.unusedSimpArgs false
set_option maxRecDepth 100000
set_option maxHeartbeats 8000000
namespace Go.Proofs.YtcmfnebcmmklkaaDoor.Hand
def lexB:List Int->List Int->Bool
 |a::aS_,b::bs=>if a=b then lexB aS_ bs else decide (a<b)
 |_,_=>false
def ab6 (a b:List Int):Bool:=if a.length=b.length then lexB a b else decide (a.length<b.length)
def pR (is:Nat->Bool) (f:Nat->List Int):Nat->Option (List Int)
 |0=>none
 |k+1=>match pR is f k with
  |none=>if is k=true then some (f k)else none
  |some b=>if ab6 (f k) b=true/\is k=true then some (f k)else some b
theorem bkK {a b:List Int} (h:ab6 a b=true):a.length<=b.length:=by
 unfold ab6 at h
 split at h
 ·omega
 ·have:=of_decide_eq_true h
  omega
theorem bkL {a b:List Int} (h:ab6 a b=false):b.length<=a.length:=by
 unfold ab6 at h
 split at h
 ·omega
 ·have:=of_decide_eq_false h
  omega
theorem bkM (is:Nat->Bool) (f:Nat->List Int):∀ k,pR is f k=none↔∀ s,s<k->is s=false:=by
 intro k
 induction k with
 |zero=>exact⟨fun _ s hs=>by omega,fun _=>rfl⟩
 |succ k ih=>
  unfold pR
  cases h:pR is f k with
  |none=>
   have:=ih.1 h
   cases hk:is k
   ·refine⟨fun _ s hs=>?_,fun _=>rfl⟩
    rcases Nat.lt_succ_iff_lt_or_eq.1 hs with h|rfl
    ·exact this s h
    ·exact hk
   ·refine⟨fun h=>?_,fun h=>?_⟩
    ·simp at h
    ·have:=h k (by omega)
     rw[hk]at this
     cases this
  |some b=>
   have hn:¬ ∀ s,s<k->is s=false:=fun hs=>by rw[ih.2 hs]at h;cases h
   simp only
   constructor
   ·intro h;split at h<;>cases h
   ·intro hs;exact absurd (fun s h=>hs s (by omega)) hn
theorem aMY (is:Nat->Bool) (f:Nat->List Int):∀ k l,pR is f k=some l->∃ s,s<k/\is s=true/\l=f s/\∀ s',s'<k->is s'=true->l.length<=(f s').length:=by
 intro k
 induction k with
 |zero=>intro l h;cases h
 |succ k ih=>
  intro l h
  unfold pR at h
  cases hr:pR is f k with
  |none=>
   rw[hr]at h
   simp only at h
   have hn:=(bkM is f k).1 hr
   split at h
   ·rename_i hk
    obtain rfl:=Option.some.inj h
    refine⟨k,by omega,hk,rfl,fun s' hs hi=>?_⟩
    rcases Nat.lt_succ_iff_lt_or_eq.1 hs with h|rfl
    ·rw[hn s' h]at hi;cases hi
    ·exact Nat.le_refl _
   ·cases h
  |some b=>
   rw[hr]at h
   simp only at h
   obtain⟨s,h1,h2,h3,h4⟩:=ih b hr
   split at h
   ·rename_i hk
    obtain rfl:=Option.some.inj h
    refine⟨k,by omega,hk.2,rfl,fun s' hs hi=>?_⟩
    rcases Nat.lt_succ_iff_lt_or_eq.1 hs with h|rfl
    ·exact Nat.le_trans (bkK hk.1) (h4 s' h hi)
    ·exact Nat.le_refl _
   ·rename_i hk
    obtain rfl:=Option.some.inj h
    refine⟨s,by omega,h2,h3,fun s' hs hi=>?_⟩
    rcases Nat.lt_succ_iff_lt_or_eq.1 hs with h|rfl
    ·exact h4 s' h hi
    ·have:ab6 (f s') b=false:=by
      rw[Bool.eq_false_iff]
      exact fun hf=>hk ⟨hf,hi⟩
     exact bkL this
end Go.Proofs.YtcmfnebcmmklkaaDoor.Hand
namespace Go.Proofs.YtcmfnebcmmklkaaDoor.Q
open Go.RowKit Go.Proofs.YtcmfnebcmmklkaaDoorW.dQ Go.Proofs.YtcmfnebcmmklkaaDoorW.oU Go.Proofs.YtcmfnebcmmklkaaDoorW.gG
attribute [local go_sem] uA uB uC uD uM uN uO uP   -- for this text's walks alone
def VO.l0:Nat->List Int->List Int->List Int->Int->Int->Option (Int)
  |0,_,_,_,_,_=>none
  |k+1,x0,x1,x9,x10,x11=>if x11<x10 then(if 0<=x11 then(if x11<(x9.length:Int)then(if x11≥(x1.length:Int)then(some 1)else(if x11<(x1.length:Int)then((cmp_Compare_int.f (rd x9 x11) (rd x1 x11)).bind fun t151=>(if t151=0 then(VO.l0 k x0 x1 x9 x10 (wrap64 (x11+1)))else(some t151)))else(none)))else(none))else(none))else(if(x0.length:Int)<(x1.length:Int)then(some (-1))else(some 0))
def VO.f (k:Nat) (l0:List Int) (l1:List Int):Option (Int):=VO.l0 k l0 l1 l0 (l0.length:Int) 0
theorem VO.calls (k:Nat) (A0:Option Addr) (c0:Nat) (l0:List Int) (A1:Option Addr) (c1:Nat) (l1:List Int) (r:Int) (w:World) (hr0:Kd.C (Kd.int .i64) w A0 l0.length l0) (hc0:l0.length<=c0) (hr1:Kd.C (Kd.int .i64) w A1 l1.length l1) (hc1:l1.length<=c1) (h:VO.f k l0 l1=some r):
    Calls Tryd.prog 79 #[.slice A0 l0.length c0,.slice A1 l1.length c1] w fun e w'=>e=.returned (.int .i64 r)/\iI w w':=by
 have HR0:=aA.mk hr0
 have HC0:=aA.mk hc0
 clear hr0 hc0
 have HR1:=aA.mk hr1
 have HC1:=aA.mk hc1
 clear hr1 hc1
 have H:(VO.l0 k l0 l1 l0 (l0.length:Int) 0)=some r:=h
 clear h
 have H':=aA.mk H
 clear H
 go_enter Tryd.func79,Tryd.ntmps79
 go_wp2
 go_loopg [11] k (fun kq v11 w'=>∃ (tH:Int),v11=.int .i64 tH/\aA (VO.l0 kq l0 l1 l0 (l0.length:Int) tH=some r)/\aA (kq<=k)/\iI w w')
 case atStart=>exact⟨(0),(by first|rfl|(simp;done)|(simp[*];done)),H',⟨Nat.le_refl _⟩,by repeat(first|exact iI.refl _|apply iI.step)⟩
 case round=>
  clear H'
  try clear c1
  obtain⟨tH,rfl,HA,fV,⟨m1,rfl⟩⟩:=hrel
  rcases gk with _|k1
  ·exact absurd HA.out (by simp[VO.l0])
  have H:=HA.out
  clear HA
  simp only[VO.l0]at H
  by_cases c3:tH<(l0.length:Int)
  ·rw[if_pos c3]at H
   have WU:decide (tH<(l0.length:Int))=true:=decide_eq_true c3
   clear c3
   by_cases c4:0<=tH
   ·rw[if_pos c4]at H
    have yH:decide (0<=tH)=true:=decide_eq_true c4
    clear c4
    by_cases c5:tH<(l0.length:Int)
    ·rw[if_pos c5]at H
     have ad8:decide (tH<(l0.length:Int))=true:=decide_eq_true c5
     clear c5
     by_cases c6:tH≥(l1.length:Int)
     ·rw[if_pos c6]at H
      have zJ:decide ((l1.length:Int)<=tH)=true:=decide_eq_true c6
      clear c6
      obtain rfl:=Option.some.inj H
      have PH:0<=(tH:Int):=od
      have PI:tH<(l0.length:Int):=od
      obtain⟨arI,af6,aEY⟩:=Kd.BL HR0.out tH PH PI
      cases af6
      replace PH:=eq_true PH
      replace PI:=eq_true PI
      go_wp2
      go_ret
      exact⟨by first|rfl|(simp;done)|(simp[*];done),by repeat(first|exact iI.refl _|apply iI.step)⟩
     rw[if_neg c6]at H
     have zJ:decide ((l1.length:Int)<=tH)=false:=decide_eq_false c6
     clear c6
     by_cases c7:tH<(l1.length:Int)
     ·rw[if_pos c7]at H
      have afF:decide (tH<(l1.length:Int))=true:=decide_eq_true c7
      clear c7
      replace H:=Option.bind_eq_some_iff.mp H
      obtain⟨t151,DZ,H⟩:=H
      replace H:(if t151=0 then(VO.l0 k1 l0 l1 l0 (l0.length:Int) (wrap64 (tH+1)))else(some t151))=some r:=H
      have A8:=aA.mk DZ
      clear DZ
      by_cases c9:t151=0
      ·rw[if_pos c9]at H
       have QC:(t151==0)=true:=beq_iff_eq.mpr c9
       have afH:(t151 !=0)=false:=bne_eq_false_iff_eq.mpr c9
       clear c9
       have H':=aA.mk H
       clear H
       have PH:0<=(tH:Int):=od
       have PI:tH<(l0.length:Int):=od
       obtain⟨arI,af6,aEY⟩:=Kd.BL HR0.out tH PH PI
       cases af6
       replace PH:=eq_true PH
       replace PI:=eq_true PI
       have VP:0<=(tH:Int):=od
       have VQ:tH<(l1.length:Int):=od
       obtain⟨awY,anM,aMZ⟩:=Kd.BL HR1.out tH VP VQ
       cases anM
       replace VP:=eq_true VP
       replace VQ:=eq_true VQ
       go_wp2_with (first|((with_reducible refine gJ (f:=105) rfl ?_);refine cE 26 Tryd.func105 #[.int .i64 (rd l0 tH),.int .i64 (rd l1 tH)] ?_;(with_reducible refine(cmp_Compare_int.calls (rd l0 tH) (rd l1 tH) t151 _ A8.out).mono ?_);rintro e w' ⟨rfl,⟨nd,rfl⟩⟩;refine⟨_,rfl,?_⟩))
       go_roundg k1
       case measure=>have:=fV.out;omega
       case rel=>exact⟨(wrap64 (tH+1)),(by first|rfl|(simp;done)|(simp[*];done)),H',⟨by have:=fV.out;omega⟩,by repeat(first|exact iI.refl _|apply iI.step)⟩
      rw[if_neg c9]at H
      have QC:(t151==0)=false:=beq_eq_false_iff_ne.mpr c9
      have afH:(t151 !=0)=true:=bne_iff_ne.mpr c9
      obtain rfl:=Option.some.inj H
      have PH:0<=(tH:Int):=od
      have PI:tH<(l0.length:Int):=od
      obtain⟨arI,af6,aEY⟩:=Kd.BL HR0.out tH PH PI
      cases af6
      replace PH:=eq_true PH
      replace PI:=eq_true PI
      have VP:0<=(tH:Int):=od
      have VQ:tH<(l1.length:Int):=od
      obtain⟨awY,anM,aMZ⟩:=Kd.BL HR1.out tH VP VQ
      cases anM
      replace VP:=eq_true VP
      replace VQ:=eq_true VQ
      go_wp2_with (first|((with_reducible refine gJ (f:=105) rfl ?_);refine cE 26 Tryd.func105 #[.int .i64 (rd l0 tH),.int .i64 (rd l1 tH)] ?_;(with_reducible refine(cmp_Compare_int.calls (rd l0 tH) (rd l1 tH) t151 _ A8.out).mono ?_);rintro e w' ⟨rfl,⟨nd,rfl⟩⟩;refine⟨_,rfl,?_⟩))
      go_ret
      exact⟨by first|rfl|(simp;done)|(simp[*];done),by repeat(first|exact iI.refl _|apply iI.step)⟩
     rw[if_neg c7]at H
     exact absurd H (by simp)
    rw[if_neg c5]at H
    exact absurd H (by simp)
   rw[if_neg c4]at H
   exact absurd H (by simp)
  rw[if_neg c3]at H
  have WU:decide (tH<(l0.length:Int))=false:=decide_eq_false c3
  clear c3
  by_cases c10:(l0.length:Int)<(l1.length:Int)
  ·rw[if_pos c10]at H
   have anN:decide ((l0.length:Int)<(l1.length:Int))=true:=decide_eq_true c10
   have bkN:decide (l0.length<l1.length)=true:=decide_eq_true (Int.ofNat_lt.mp c10)
   clear c10
   obtain rfl:=Option.some.inj H
   go_wp2
   go_ret
   exact⟨by first|rfl|(simp;done)|(simp[*];done),by repeat(first|exact iI.refl _|apply iI.step)⟩
  rw[if_neg c10]at H
  have anN:decide ((l0.length:Int)<(l1.length:Int))=false:=decide_eq_false c10
  have bkN:decide (l0.length<l1.length)=false:=decide_eq_false (fun h=>c10 (Int.ofNat_lt.mpr h))
  clear c10
  obtain rfl:=Option.some.inj H
  go_wp2
  go_ret
  exact⟨by first|rfl|(simp;done)|(simp[*];done),by repeat(first|exact iI.refl _|apply iI.step)⟩
def ZH.l0:Nat->List (List Int)->List (List Int)->Int->Option (Bool)
  |0,_,_,_=>none
  |k+1,x0,x1,x5=>if x5<(x0.length:Int)then(if 0<=x5 then(if x5<(x1.length:Int)then((oD.f k (AP x0 x5) (AP x1 x5)).bind fun t169=>(if t169=true then(ZH.l0 k x0 x1 (wrap64 (x5+1)))else(some false)))else(none))else(none))else(some true)
def ZH.f (k:Nat) (l0:List (List Int)) (l1:List (List Int)):Option (Bool):=if(l0.length:Int)=(l1.length:Int)then(ZH.l0 k l0 l1 0)else(some false)
theorem ZH.calls (k:Nat) (A0:Option Addr) (c0:Nat) (l0:List (List Int)) (A1:Option Addr) (c1:Nat) (l1:List (List Int)) (r:Bool) (w:World) (hr0:Kd.C (Kd.slice 3 (Kd.int .i64)) w A0 l0.length l0) (hc0:l0.length<=c0) (hr1:Kd.C (Kd.slice 3 (Kd.int .i64)) w A1 l1.length l1) (hc1:l1.length<=c1) (h:ZH.f k l0 l1=some r):
    Calls Tryd.prog 42 #[.slice A0 l0.length c0,.slice A1 l1.length c1] w fun e w'=>e=.returned (.bool r)/\iI w w':=by
 have HR0:=aA.mk hr0
 have HC0:=aA.mk hc0
 clear hr0 hc0
 have HR1:=aA.mk hr1
 have HC1:=aA.mk hc1
 clear hr1 hc1
 have H:(if(l0.length:Int)=(l1.length:Int)then(ZH.l0 k l0 l1 0)else(some false))=some r:=h
 clear h
 by_cases c3:(l0.length:Int)=(l1.length:Int)
 ·rw[if_pos c3]at H
  have WU:((l0.length:Int)==(l1.length:Int))=true:=beq_iff_eq.mpr c3
  have aaA:((l0.length:Int)!=(l1.length:Int))=false:=bne_eq_false_iff_eq.mpr c3
  have amR:(l0.length==l1.length)=true:=by first|simpa using c3|(simp at c3 ⊢;omega)
  clear c3
  have H':=aA.mk H
  clear H
  go_enter Tryd.func42,Tryd.ntmps42
  go_wp2
  repeat(go_quiet (fail);try go_wp2)
  go_loopg [5] k (fun kq v5 w'=>∃ (bC:Int),v5=.int .i64 bC/\aA (ZH.l0 kq l0 l1 bC=some r)/\aA (kq<=k)/\iI w w')
  case atStart=>exact⟨(0),(by first|rfl|(simp;done)|(simp[*];done)),H',⟨Nat.le_refl _⟩,by repeat(first|exact iI.refl _|apply iI.step)⟩
  case round=>
   clear H'
   try clear c1
   try clear c3
   try clear WU
   try clear aaA
   try clear amR
   obtain⟨bC,rfl,HA,fV,⟨m1,rfl⟩⟩:=hrel
   rcases gk with _|k1
   ·exact absurd HA.out (by simp[ZH.l0])
   have H:=HA.out
   clear HA
   simp only[ZH.l0]at H
   by_cases c4:bC<(l0.length:Int)
   ·rw[if_pos c4]at H
    have yH:decide (bC<(l0.length:Int))=true:=decide_eq_true c4
    clear c4
    by_cases c5:0<=bC
    ·rw[if_pos c5]at H
     have ad8:decide (0<=bC)=true:=decide_eq_true c5
     clear c5
     by_cases c6:bC<(l1.length:Int)
     ·rw[if_pos c6]at H
      have zJ:decide (bC<(l1.length:Int))=true:=decide_eq_true c6
      clear c6
      replace H:=Option.bind_eq_some_iff.mp H
      obtain⟨t169,zK,H⟩:=H
      replace H:(if t169=true then(ZH.l0 k1 l0 l1 (wrap64 (bC+1)))else(some false))=some r:=H
      have A7:=aA.mk zK
      clear zK
      by_cases c8:t169=true
      ·subst c8
       replace H:(ZH.l0 k1 l0 l1 (wrap64 (bC+1)))=some r:=by rw[if_pos rfl]at H;exact H
       have H':=aA.mk H
       clear H
       have anO:0<=(bC:Int):=od
       have anP:bC<(l0.length:Int):=od
       obtain⟨bkO,bkP,bkQ,e167,bkR,awZ,aw0⟩:=atL HR0.out bC anO anP
       cases e167
       have anQ:=aA.mk aw0
       have anR:=aA.mk awZ
       clear aw0 awZ
       replace anO:=eq_true anO
       replace anP:=eq_true anP
       have abX:0<=(bC:Int):=od
       have abY:bC<(l1.length:Int):=od
       obtain⟨avT,bkS,bkT,e168,aEH,aw1,aw2⟩:=atL HR1.out bC abX abY
       cases e168
       have anS:=aA.mk aw2
       have anT:=aA.mk aw1
       clear aw2 aw1
       replace abX:=eq_true abX
       replace abY:=eq_true abY
       go_wp2_with (first|(go_at_call 28;refine(oD.calls k1 _ _ (AP l0 bC) _ _ (AP l1 bC) true _ (by repeat(first|exact anQ.out|(with_reducible refine Kd.jZ ?_ _)|(with_reducible refine Kd.kD ?_ _)|(with_reducible refine Kd.kC ?_))) anR.out (by repeat(first|exact anS.out|(with_reducible refine Kd.jZ ?_ _)|(with_reducible refine Kd.kD ?_ _)|(with_reducible refine Kd.kC ?_))) anT.out A7.out).mono ?_;rintro e w' ⟨rfl,⟨nd,rfl⟩⟩;(try first|exact⟨rfl,_,World.drewN_drewN _ _ _⟩|exact⟨rfl,_,Eq.trans (World.drewN_drewN _ _ _) (congrArg (World.drewN _) (Nat.add_assoc _ _ _))⟩)))
       repeat(go_quiet (first|(go_at_call 28;refine(oD.calls k1 _ _ (AP l0 bC) _ _ (AP l1 bC) true _ (by repeat(first|exact anQ.out|(with_reducible refine Kd.jZ ?_ _)|(with_reducible refine Kd.kD ?_ _)|(with_reducible refine Kd.kC ?_))) anR.out (by repeat(first|exact anS.out|(with_reducible refine Kd.jZ ?_ _)|(with_reducible refine Kd.kD ?_ _)|(with_reducible refine Kd.kC ?_))) anT.out A7.out).mono ?_;rintro e w' ⟨rfl,⟨nd,rfl⟩⟩;(try first|exact⟨rfl,_,World.drewN_drewN _ _ _⟩|exact⟨rfl,_,Eq.trans (World.drewN_drewN _ _ _) (congrArg (World.drewN _) (Nat.add_assoc _ _ _))⟩)));try go_wp2_with (first|(go_at_call 28;refine(oD.calls k1 _ _ (AP l0 bC) _ _ (AP l1 bC) true _ (by repeat(first|exact anQ.out|(with_reducible refine Kd.jZ ?_ _)|(with_reducible refine Kd.kD ?_ _)|(with_reducible refine Kd.kC ?_))) anR.out (by repeat(first|exact anS.out|(with_reducible refine Kd.jZ ?_ _)|(with_reducible refine Kd.kD ?_ _)|(with_reducible refine Kd.kC ?_))) anT.out A7.out).mono ?_;rintro e w' ⟨rfl,⟨nd,rfl⟩⟩;(try first|exact⟨rfl,_,World.drewN_drewN _ _ _⟩|exact⟨rfl,_,Eq.trans (World.drewN_drewN _ _ _) (congrArg (World.drewN _) (Nat.add_assoc _ _ _))⟩))))
       go_roundg k1
       case measure=>have:=fV.out;omega
       case rel=>exact⟨(wrap64 (bC+1)),(by first|rfl|(simp;done)|(simp[*];done)),H',⟨by have:=fV.out;omega⟩,by repeat(first|exact iI.refl _|apply iI.step)⟩
      replace c8:=Bool.eq_false_iff.mpr c8
      subst c8
      replace H:(some false)=some r:=by rw[if_neg (show ¬ (false=true) by decide)]at H;exact H
      obtain rfl:=Option.some.inj H
      have anO:0<=(bC:Int):=od
      have anP:bC<(l0.length:Int):=od
      obtain⟨bkO,bkP,bkQ,e167,bkR,awZ,aw0⟩:=atL HR0.out bC anO anP
      cases e167
      have anQ:=aA.mk aw0
      have anR:=aA.mk awZ
      clear aw0 awZ
      replace anO:=eq_true anO
      replace anP:=eq_true anP
      have abX:0<=(bC:Int):=od
      have abY:bC<(l1.length:Int):=od
      obtain⟨avT,bkS,bkT,e168,aEH,aw1,aw2⟩:=atL HR1.out bC abX abY
      cases e168
      have anS:=aA.mk aw2
      have anT:=aA.mk aw1
      clear aw2 aw1
      replace abX:=eq_true abX
      replace abY:=eq_true abY
      go_wp2_with (first|(go_at_call 28;refine(oD.calls k1 _ _ (AP l0 bC) _ _ (AP l1 bC) false _ (by repeat(first|exact anQ.out|(with_reducible refine Kd.jZ ?_ _)|(with_reducible refine Kd.kD ?_ _)|(with_reducible refine Kd.kC ?_))) anR.out (by repeat(first|exact anS.out|(with_reducible refine Kd.jZ ?_ _)|(with_reducible refine Kd.kD ?_ _)|(with_reducible refine Kd.kC ?_))) anT.out A7.out).mono ?_;rintro e w' ⟨rfl,⟨nd,rfl⟩⟩;(try first|exact⟨rfl,_,World.drewN_drewN _ _ _⟩|exact⟨rfl,_,Eq.trans (World.drewN_drewN _ _ _) (congrArg (World.drewN _) (Nat.add_assoc _ _ _))⟩)))
      repeat(go_quiet (first|(go_at_call 28;refine(oD.calls k1 _ _ (AP l0 bC) _ _ (AP l1 bC) false _ (by repeat(first|exact anQ.out|(with_reducible refine Kd.jZ ?_ _)|(with_reducible refine Kd.kD ?_ _)|(with_reducible refine Kd.kC ?_))) anR.out (by repeat(first|exact anS.out|(with_reducible refine Kd.jZ ?_ _)|(with_reducible refine Kd.kD ?_ _)|(with_reducible refine Kd.kC ?_))) anT.out A7.out).mono ?_;rintro e w' ⟨rfl,⟨nd,rfl⟩⟩;(try first|exact⟨rfl,_,World.drewN_drewN _ _ _⟩|exact⟨rfl,_,Eq.trans (World.drewN_drewN _ _ _) (congrArg (World.drewN _) (Nat.add_assoc _ _ _))⟩)));try go_wp2_with (first|(go_at_call 28;refine(oD.calls k1 _ _ (AP l0 bC) _ _ (AP l1 bC) false _ (by repeat(first|exact anQ.out|(with_reducible refine Kd.jZ ?_ _)|(with_reducible refine Kd.kD ?_ _)|(with_reducible refine Kd.kC ?_))) anR.out (by repeat(first|exact anS.out|(with_reducible refine Kd.jZ ?_ _)|(with_reducible refine Kd.kD ?_ _)|(with_reducible refine Kd.kC ?_))) anT.out A7.out).mono ?_;rintro e w' ⟨rfl,⟨nd,rfl⟩⟩;(try first|exact⟨rfl,_,World.drewN_drewN _ _ _⟩|exact⟨rfl,_,Eq.trans (World.drewN_drewN _ _ _) (congrArg (World.drewN _) (Nat.add_assoc _ _ _))⟩))))
      go_ret
      exact⟨by first|rfl|(simp;done)|(simp[*];done),by repeat(first|exact iI.refl _|apply iI.step)⟩
     rw[if_neg c6]at H
     exact absurd H (by simp)
    rw[if_neg c5]at H
    exact absurd H (by simp)
   rw[if_neg c4]at H
   have yH:decide (bC<(l0.length:Int))=false:=decide_eq_false c4
   clear c4
   obtain rfl:=Option.some.inj H
   go_wp2
   repeat(go_quiet (fail);try go_wp2)
   go_ret
   exact⟨by first|rfl|(simp;done)|(simp[*];done),by repeat(first|exact iI.refl _|apply iI.step)⟩
 rw[if_neg c3]at H
 have WU:((l0.length:Int)==(l1.length:Int))=false:=beq_eq_false_iff_ne.mpr c3
 have aaA:((l0.length:Int)!=(l1.length:Int))=true:=bne_iff_ne.mpr c3
 have amR:(l0.length==l1.length)=false:=by first|simpa using c3|(simp at c3 ⊢;omega)
 obtain rfl:=Option.some.inj H
 go_enter Tryd.func42,Tryd.ntmps42
 go_wp2
 repeat(go_quiet (fail);try go_wp2)
 go_ret
 exact⟨by first|rfl|(simp;done)|(simp[*];done),by repeat(first|exact iI.refl _|apply iI.step)⟩
def aM0.f (bV:Int) (bU:Int) (iR:Int) (iK:Int):Option (Int×Int):=some (mn bV iR,mx bU iK)
theorem aM0.calls (bV:Int) (bU:Int) (iR:Int) (iK:Int) (r1:Int) (r2:Int) (w:World) (h:aM0.f bV bU iR iK=some (r1,r2)):
    Calls Tryd.prog 91 #[.agg #[.int .i64 bV,.int .i64 bU],.agg #[.int .i64 iR,.int .i64 iK]] w fun e w'=>e=.returned (.agg #[.int .i64 r1,.int .i64 r2])/\Below w.heap.size w w':=by
 have QY:=Tryd.underlying42
 have HB:=aA.mk (Below.refl w.heap.size w)
 have H:(some (mn bV iR,mx bU iK))=some (r1,r2):=h
 clear h
 obtain⟨ji3,afC⟩:∃ j_:Int,(mn bV iR)=j_:=⟨_,rfl⟩
 replace H:(some (ji3,mx bU iK))=some (r1,r2):=by first|(rw[afC]at H;exact H)|(simp only[afC]at H ⊢;exact H)
 have bbA:(if iR<bV then iR else bV)=ji3:=afC
 obtain⟨VD,VE⟩:∃ j_:Int,(mx bU iK)=j_:=⟨_,rfl⟩
 replace H:(some (ji3,VD))=some (r1,r2):=by first|(rw[VE]at H;exact H)|(simp only[VE]at H ⊢;exact H)
 have aCX:(if bU<iK then iK else bU)=VD:=VE
 simp only[Option.some.injEq,Prod.mk.injEq]at H
 obtain⟨rfl,rfl⟩:=H
 go_enter Tryd.func91,Tryd.ntmps91
 go_wp2_with (first|((with_reducible refine dU (N:=2) rfl ?_);refine eX 2 #[.int .i64 bV,.int .i64 bU] 42 ?_;intro PK hg w5 hbox hb;have oC:=aA.mk (hbox);have aYD:=gw hg HB;have aYE:=gw hg HB;replace HB:=bs HB hb;clear hb hbox hg)|((with_reducible refine dU (N:=3) rfl ?_);refine eX 3 #[.int .i64 iR,.int .i64 iK] 42 ?_;intro gb171 hg w6 hbox hb;have anU:=aA.mk (hbox);have GW171:=gw hg HB;have GE171:=gw hg HB;have bkU:=nl hg oC;have bkV:=ng hg oC;replace oC:=bb oC hb;replace HB:=bs HB hb;clear hb hbox hg)|((with_reducible refine dU (N:=4) rfl ?_);refine eX 4 #[.int .i64 0,.int .i64 0] 42 ?_;intro bkW hg w7 hbox hb;have aEZ:=aA.mk (hbox);have GW172:=gw hg HB;have GE172:=gw hg HB;have bkX:=nl hg oC;have bkY:=ng hg oC;have bkZ:=nl hg anU;have bk0:=ng hg anU;replace oC:=bb oC hb;replace anU:=bb anU hb;replace HB:=bs HB hb;clear hb hbox hg;have atS:=bkU.out;have atT:=bkV.out;have ap7:=bkX.out;have ap8:=bkY.out;obtain⟨atU,atV⟩:=bZ oC (.int .i64 bV) (.int .i64 bU);have atW:=aX oC.out 0;have atX:=aX oC.out 1;have ap9:=bkZ.out;have aqA:=bk0.out;obtain⟨ad6,ad7⟩:=bZ anU (.int .i64 iR) (.int .i64 iK);have amK:=aX anU.out 0;have amL:=aX anU.out 1;obtain⟨aqB,aqC⟩:=bZ aEZ (.int .i64 0) (.int .i64 0);have aCZ:=aX aEZ.out 0;have aC0:=aX aEZ.out 1))
 refine bodyPost_ret (results_cell_row rfl _ _ bkW 42 #[.int .i64 ji3,.int .i64 VD] (0,0) _ rfl (by exact dE (cs:=#[.int .i64 ji3,.int .i64 0]) (dE (cs:=#[.int .i64 0,.int .i64 0]) (b_ aEZ) 0 _ rfl) 1 _ rfl) Tryd.underlying42 rfl (by kernel_rfl)) rfl ?_
 exact⟨by first|rfl|(simp[iU,iV]<;>rfl)|(simp only[<-afC,<-VE];first|rfl|(simp[iU,iV]<;>rfl))|(simp[*,iU,iV]<;>rfl),Bq HB⟩
def lT.f (a0:Int) (a1:Int):Option (Int×Int):=some (a0,a1)
theorem lT.calls (a0:Int) (a1:Int) (r1:Int) (r2:Int) (w:World) (h:lT.f a0 a1=some (r1,r2)):
    Calls Tryd.prog 46 #[.int .i64 a0,.int .i64 a1] w fun e w'=>e=.returned (.agg #[.int .i64 r1,.int .i64 r2])/\Below w.heap.size w w':=by
 have QY:=Tryd.underlying42
 have HB:=aA.mk (Below.refl w.heap.size w)
 have H:(some (a0,a1))=some (r1,r2):=h
 clear h
 simp only[Option.some.injEq,Prod.mk.injEq]at H
 obtain⟨rfl,rfl⟩:=H
 go_enter Tryd.func46,Tryd.ntmps46
 go_wp2_with (first|((with_reducible refine dU (N:=4) rfl ?_);refine eX 4 #[.int .i64 0,.int .i64 0] 42 ?_;intro bk3 hg w3 hbox hb;have aE0:=aA.mk (hbox);have GW178:=gw hg HB;have GE178:=gw hg HB;replace HB:=bs HB hb;clear hb hbox hg;obtain⟨atP,atQ⟩:=bZ aE0 (.int .i64 0) (.int .i64 0);have bk4:=aX aE0.out 0;have bk5:=aX aE0.out 1))
 refine bodyPost_ret (results_cell_row rfl _ _ bk3 42 #[.int .i64 a0,.int .i64 a1] (0,0) _ rfl (by exact dE (cs:=#[.int .i64 a0,.int .i64 0]) (dE (cs:=#[.int .i64 0,.int .i64 0]) (b_ aE0) 0 _ rfl) 1 _ rfl) Tryd.underlying42 rfl (by kernel_rfl)) rfl ?_
 exact eR HB
def af7.f (l0:List (aI)):Option ((List (aZ))×(List (aI))):=(lT.f 5 7).bind fun aw3=>((lT.f 4 4).bind fun aiJ=>((lT.f 6 8).bind fun ab7=>((lT.f 10 12).bind fun XM=>((lT.f 1 2).bind fun SA=>((lT.f 8 9).bind fun MW=>((lT.f 6 6).bind fun EF=>((some (([(⟨0,(⟨aw3.1,aw3.2⟩:aH),(⟨aiJ.1,aiJ.2⟩:aH),false⟩:aI),(⟨1,(⟨ab7.1,ab7.2⟩:aH),(⟨XM.1,XM.2⟩:aH),false⟩:aI),(⟨0,(⟨SA.1,SA.2⟩:aH),(⟨0,0⟩:aH),true⟩:aI),(⟨0,(⟨MW.1,MW.2⟩:aH),(⟨EF.1,EF.2⟩:aH),false⟩:aI)]:List (aI)):List (aI))).bind fun tJ=>(if tJ.length+l0.length<2932031007402 then(some ((([(⟨12,12⟩:aZ),(⟨6,18⟩:aZ)]:List (aZ))),(tJ++l0)))else(none)))))))))
theorem af7.calls (A0:Option Addr) (c0:Nat) (l0:List (aI)) (r1:List (aZ)) (r2:List (aI)) (w:World) (hr0:Kd.C iE w A0 l0.length l0) (hc0:l0.length<=c0) (h:af7.f l0=some (r1,r2)):
    Calls Tryd.prog 58 #[.slice A0 l0.length c0] w fun e w'=>∃ iG nC:Value,e=.returned (.agg #[iG,nC])/\Kd.R iJ 89 w' w.heap.size (fun _=>True) iG r1/\Kd.R iE 91 w' w.heap.size (fun _=>True) nC r2/\Below w.heap.size w w':=by
 have zH:=Tryd.underlying25
 have aqN:=Tryd.underlying91
 have am0:=Tryd.underlying89
 have HR0:=aA.mk hr0
 have HC0:=aA.mk hc0
 clear hr0 hc0
 have HB:=aA.mk (Below.refl w.heap.size w)
 have H:((lT.f 5 7).bind fun aw3=>((lT.f 4 4).bind fun aiJ=>((lT.f 6 8).bind fun ab7=>((lT.f 10 12).bind fun XM=>((lT.f 1 2).bind fun SA=>((lT.f 8 9).bind fun MW=>((lT.f 6 6).bind fun EF=>((some (([(⟨0,(⟨aw3.1,aw3.2⟩:aH),(⟨aiJ.1,aiJ.2⟩:aH),false⟩:aI),(⟨1,(⟨ab7.1,ab7.2⟩:aH),(⟨XM.1,XM.2⟩:aH),false⟩:aI),(⟨0,(⟨SA.1,SA.2⟩:aH),(⟨0,0⟩:aH),true⟩:aI),(⟨0,(⟨MW.1,MW.2⟩:aH),(⟨EF.1,EF.2⟩:aH),false⟩:aI)]:List (aI)):List (aI))).bind fun tJ=>(if tJ.length+l0.length<2932031007402 then(some ((([(⟨12,12⟩:aZ),(⟨6,18⟩:aZ)]:List (aZ))),(tJ++l0)))else(none))))))))))=some (r1,r2):=h
 clear h
 replace H:=Option.bind_eq_some_iff.mp H
 obtain⟨⟨t180,t181⟩,xY,H⟩:=H
 replace H:((lT.f 4 4).bind fun aiJ=>((lT.f 6 8).bind fun ab7=>((lT.f 10 12).bind fun XM=>((lT.f 1 2).bind fun SA=>((lT.f 8 9).bind fun MW=>((lT.f 6 6).bind fun EF=>((some (([(⟨0,(⟨t180,t181⟩:aH),(⟨aiJ.1,aiJ.2⟩:aH),false⟩:aI),(⟨1,(⟨ab7.1,ab7.2⟩:aH),(⟨XM.1,XM.2⟩:aH),false⟩:aI),(⟨0,(⟨SA.1,SA.2⟩:aH),(⟨0,0⟩:aH),true⟩:aI),(⟨0,(⟨MW.1,MW.2⟩:aH),(⟨EF.1,EF.2⟩:aH),false⟩:aI)]:List (aI)):List (aI))).bind fun tJ=>(if tJ.length+l0.length<2932031007402 then(some ((([(⟨12,12⟩:aZ),(⟨6,18⟩:aZ)]:List (aZ))),(tJ++l0)))else(none)))))))))=some (r1,r2):=H
 have A2:=aA.mk xY
 clear xY
 replace H:=Option.bind_eq_some_iff.mp H
 obtain⟨⟨t182,t183⟩,RG,H⟩:=H
 replace H:((lT.f 6 8).bind fun ab7=>((lT.f 10 12).bind fun XM=>((lT.f 1 2).bind fun SA=>((lT.f 8 9).bind fun MW=>((lT.f 6 6).bind fun EF=>((some (([(⟨0,(⟨t180,t181⟩:aH),(⟨t182,t183⟩:aH),false⟩:aI),(⟨1,(⟨ab7.1,ab7.2⟩:aH),(⟨XM.1,XM.2⟩:aH),false⟩:aI),(⟨0,(⟨SA.1,SA.2⟩:aH),(⟨0,0⟩:aH),true⟩:aI),(⟨0,(⟨MW.1,MW.2⟩:aH),(⟨EF.1,EF.2⟩:aH),false⟩:aI)]:List (aI)):List (aI))).bind fun tJ=>(if tJ.length+l0.length<2932031007402 then(some ((([(⟨12,12⟩:aZ),(⟨6,18⟩:aZ)]:List (aZ))),(tJ++l0)))else(none))))))))=some (r1,r2):=H
 have A3:=aA.mk RG
 clear RG
 replace H:=Option.bind_eq_some_iff.mp H
 obtain⟨⟨t184,t185⟩,vG,H⟩:=H
 replace H:((lT.f 10 12).bind fun XM=>((lT.f 1 2).bind fun SA=>((lT.f 8 9).bind fun MW=>((lT.f 6 6).bind fun EF=>((some (([(⟨0,(⟨t180,t181⟩:aH),(⟨t182,t183⟩:aH),false⟩:aI),(⟨1,(⟨t184,t185⟩:aH),(⟨XM.1,XM.2⟩:aH),false⟩:aI),(⟨0,(⟨SA.1,SA.2⟩:aH),(⟨0,0⟩:aH),true⟩:aI),(⟨0,(⟨MW.1,MW.2⟩:aH),(⟨EF.1,EF.2⟩:aH),false⟩:aI)]:List (aI)):List (aI))).bind fun tJ=>(if tJ.length+l0.length<2932031007402 then(some ((([(⟨12,12⟩:aZ),(⟨6,18⟩:aZ)]:List (aZ))),(tJ++l0)))else(none)))))))=some (r1,r2):=H
 have A4:=aA.mk vG
 clear vG
 replace H:=Option.bind_eq_some_iff.mp H
 obtain⟨⟨t186,t187⟩,A50,H⟩:=H
 replace H:((lT.f 1 2).bind fun SA=>((lT.f 8 9).bind fun MW=>((lT.f 6 6).bind fun EF=>((some (([(⟨0,(⟨t180,t181⟩:aH),(⟨t182,t183⟩:aH),false⟩:aI),(⟨1,(⟨t184,t185⟩:aH),(⟨t186,t187⟩:aH),false⟩:aI),(⟨0,(⟨SA.1,SA.2⟩:aH),(⟨0,0⟩:aH),true⟩:aI),(⟨0,(⟨MW.1,MW.2⟩:aH),(⟨EF.1,EF.2⟩:aH),false⟩:aI)]:List (aI)):List (aI))).bind fun tJ=>(if tJ.length+l0.length<2932031007402 then(some ((([(⟨12,12⟩:aZ),(⟨6,18⟩:aZ)]:List (aZ))),(tJ++l0)))else(none))))))=some (r1,r2):=H
 have A5:=aA.mk A50
 clear A50
 replace H:=Option.bind_eq_some_iff.mp H
 obtain⟨⟨t188,t189⟩,A60,H⟩:=H
 replace H:((lT.f 8 9).bind fun MW=>((lT.f 6 6).bind fun EF=>((some (([(⟨0,(⟨t180,t181⟩:aH),(⟨t182,t183⟩:aH),false⟩:aI),(⟨1,(⟨t184,t185⟩:aH),(⟨t186,t187⟩:aH),false⟩:aI),(⟨0,(⟨t188,t189⟩:aH),(⟨0,0⟩:aH),true⟩:aI),(⟨0,(⟨MW.1,MW.2⟩:aH),(⟨EF.1,EF.2⟩:aH),false⟩:aI)]:List (aI)):List (aI))).bind fun tJ=>(if tJ.length+l0.length<2932031007402 then(some ((([(⟨12,12⟩:aZ),(⟨6,18⟩:aZ)]:List (aZ))),(tJ++l0)))else(none)))))=some (r1,r2):=H
 have A6:=aA.mk A60
 clear A60
 replace H:=Option.bind_eq_some_iff.mp H
 obtain⟨⟨t190,t191⟩,zK,H⟩:=H
 replace H:((lT.f 6 6).bind fun EF=>((some (([(⟨0,(⟨t180,t181⟩:aH),(⟨t182,t183⟩:aH),false⟩:aI),(⟨1,(⟨t184,t185⟩:aH),(⟨t186,t187⟩:aH),false⟩:aI),(⟨0,(⟨t188,t189⟩:aH),(⟨0,0⟩:aH),true⟩:aI),(⟨0,(⟨t190,t191⟩:aH),(⟨EF.1,EF.2⟩:aH),false⟩:aI)]:List (aI)):List (aI))).bind fun tJ=>(if tJ.length+l0.length<2932031007402 then(some ((([(⟨12,12⟩:aZ),(⟨6,18⟩:aZ)]:List (aZ))),(tJ++l0)))else(none))))=some (r1,r2):=H
 have A7:=aA.mk zK
 clear zK
 replace H:=Option.bind_eq_some_iff.mp H
 obtain⟨⟨t192,t193⟩,DZ,H⟩:=H
 replace H:((some (([(⟨0,(⟨t180,t181⟩:aH),(⟨t182,t183⟩:aH),false⟩:aI),(⟨1,(⟨t184,t185⟩:aH),(⟨t186,t187⟩:aH),false⟩:aI),(⟨0,(⟨t188,t189⟩:aH),(⟨0,0⟩:aH),true⟩:aI),(⟨0,(⟨t190,t191⟩:aH),(⟨t192,t193⟩:aH),false⟩:aI)]:List (aI)):List (aI))).bind fun tJ=>(if tJ.length+l0.length<2932031007402 then(some ((([(⟨12,12⟩:aZ),(⟨6,18⟩:aZ)]:List (aZ))),(tJ++l0)))else(none)))=some (r1,r2):=H
 have A8:=aA.mk DZ
 clear DZ
 obtain⟨tJ,SB⟩:∃ y_:List (aI),y_=(([(⟨0,(⟨t180,t181⟩:aH),(⟨t182,t183⟩:aH),false⟩:aI),(⟨1,(⟨t184,t185⟩:aH),(⟨t186,t187⟩:aH),false⟩:aI),(⟨0,(⟨t188,t189⟩:aH),(⟨0,0⟩:aH),true⟩:aI),(⟨0,(⟨t190,t191⟩:aH),(⟨t192,t193⟩:aH),false⟩:aI)]:List (aI))):=⟨_,rfl⟩
 replace H:(if tJ.length+l0.length<2932031007402 then(some ((([(⟨12,12⟩:aZ),(⟨6,18⟩:aZ)]:List (aZ))),(tJ++l0)))else(none))=some (r1,r2):=by first|(rw[SB];with_reducible exact H)|(have dJ:=(Option.bind_some _ _).symm.trans H;rw[SB];with_reducible exact dJ)|(have dJ:=(Option.bind_some _ _).symm.trans H;with_reducible exact dJ)|with_reducible exact H|(rw[SB];exact H)|exact H
 have arJ:=aA.mk SB
 clear SB
 obtain⟨arK,aw4⟩:∃ y_:List (aZ),y_=(([(⟨12,12⟩:aZ),(⟨6,18⟩:aZ)]:List (aZ))):=⟨_,rfl⟩
 replace H:(if tJ.length+l0.length<2932031007402 then(some (arK,(tJ++l0)))else(none))=some (r1,r2):=by first|(rw[aw4];with_reducible exact H)|(have dJ:=(Option.bind_some _ _).symm.trans H;rw[aw4];with_reducible exact dJ)|(have dJ:=(Option.bind_some _ _).symm.trans H;with_reducible exact dJ)|with_reducible exact H|(rw[aw4];exact H)|exact H
 have aYF:=aA.mk aw4
 clear aw4
 by_cases c9:tJ.length+l0.length<2932031007402
 ·rw[if_pos c9]at H
  have bk6:=aA.mk c9
  clear c9
  obtain⟨aE1,aw5⟩:∃ y_:List (aI),y_=(tJ++l0):=⟨_,rfl⟩
  replace H:(some (arK,aE1))=some (r1,r2):=by first|(rw[aw5];with_reducible exact H)|(have dJ:=(Option.bind_some _ _).symm.trans H;rw[aw5];with_reducible exact dJ)|(have dJ:=(Option.bind_some _ _).symm.trans H;with_reducible exact dJ)|with_reducible exact H|(rw[aw5];exact H)|exact H
  have bk7:=aA.mk aw5
  clear aw5
  simp only[Option.some.injEq,Prod.mk.injEq]at H
  obtain⟨rfl,rfl⟩:=H
  go_enter Tryd.func58,Tryd.ntmps58
  go_wp2_with (first|((with_reducible refine dU (N:=2) rfl ?_);refine eX 2 #[.slice none 0 0,.slice none 0 0] 25 ?_;intro arL hg w10 hbox hb;have zS:=aA.mk (hbox);have GW179:=gw hg HB;have GE179:=gw hg HB;replace HB:=bs HB hb;clear hb hbox hg)|((with_reducible refine gJ (f:=46) rfl ?_);refine cE 4 Tryd.func46 #[.int .i64 5,.int .i64 7] ?_;(with_reducible refine(lT.calls 5 7 t180 t181 _ A2.out).mono ?_);rintro e vK ⟨rfl,hb⟩;refine⟨_,rfl,?_⟩;replace zS:=bb zS hb;replace HB:=bs HB hb;(try clear hb))|((with_reducible refine gJ (f:=46) rfl ?_);refine cE 5 Tryd.func46 #[.int .i64 4,.int .i64 4] ?_;(with_reducible refine(lT.calls 4 4 t182 t183 _ A3.out).mono ?_);rintro e w12 ⟨rfl,hb⟩;refine⟨_,rfl,?_⟩;replace zS:=bb zS hb;replace HB:=bs HB hb;(try clear hb))|((with_reducible refine gJ (f:=46) rfl ?_);refine cE 7 Tryd.func46 #[.int .i64 6,.int .i64 8] ?_;(with_reducible refine(lT.calls 6 8 t184 t185 _ A4.out).mono ?_);rintro e tV ⟨rfl,hb⟩;refine⟨_,rfl,?_⟩;replace zS:=bb zS hb;replace HB:=bs HB hb;(try clear hb))|((with_reducible refine gJ (f:=46) rfl ?_);refine cE 8 Tryd.func46 #[.int .i64 10,.int .i64 12] ?_;(with_reducible refine(lT.calls 10 12 t186 t187 _ A5.out).mono ?_);rintro e rU ⟨rfl,hb⟩;refine⟨_,rfl,?_⟩;replace zS:=bb zS hb;replace HB:=bs HB hb;(try clear hb))|((with_reducible refine gJ (f:=46) rfl ?_);refine cE 10 Tryd.func46 #[.int .i64 1,.int .i64 2] ?_;(with_reducible refine(lT.calls 1 2 t188 t189 _ A6.out).mono ?_);rintro e vY ⟨rfl,hb⟩;refine⟨_,rfl,?_⟩;replace zS:=bb zS hb;replace HB:=bs HB hb;(try clear hb))|((with_reducible refine gJ (f:=46) rfl ?_);refine cE 12 Tryd.func46 #[.int .i64 8,.int .i64 9] ?_;(with_reducible refine(lT.calls 8 9 t190 t191 _ A7.out).mono ?_);rintro e w16 ⟨rfl,hb⟩;refine⟨_,rfl,?_⟩;replace zS:=bb zS hb;replace HB:=bs HB hb;(try clear hb))|((with_reducible refine gJ (f:=46) rfl ?_);refine cE 13 Tryd.func46 #[.int .i64 6,.int .i64 6] ?_;(with_reducible refine(lT.calls 6 6 t192 t193 _ A8.out).mono ?_);rintro e uS ⟨rfl,hb⟩;refine⟨_,rfl,?_⟩;replace zS:=bb zS hb;replace HB:=bs HB hb;(try clear hb))|((with_reducible refine dU (N:=15) rfl ?_);refine Kd.YX iE _ 91 ?hg (N:=15) ?hd (xs:=([(⟨0,(⟨t180,t181⟩:aH),(⟨t182,t183⟩:aH),false⟩:aI),(⟨1,(⟨t184,t185⟩:aH),(⟨t186,t187⟩:aH),false⟩:aI),(⟨0,(⟨t188,t189⟩:aH),(⟨0,0⟩:aH),true⟩:aI),(⟨0,(⟨t190,t191⟩:aH),(⟨t192,t193⟩:aH),false⟩:aI)]:List (aI))) (inner:=[.int .i64 0,.int .i64 t180,.int .i64 t181,.int .i64 t182,.int .i64 t183,.bool false,.int .i64 1,.int .i64 t184,.int .i64 t185,.int .i64 t186,.int .i64 t187,.bool false,.int .i64 0,.int .i64 t188,.int .i64 t189,.int .i64 0,.int .i64 0,.bool true,.int .i64 0,.int .i64 t190,.int .i64 t191,.int .i64 t192,.int .i64 t193,.bool false]) (ok:=fun _=>True) (lS:=fun _=>True) ?hr ?hp (fun _ hk=>hk) trivial (Below.refl _ _) (Nat.le_refl _) (by simp) ?_;(case hd=>rfl);(case hg=>rfl);(case hr=>first|(go_simp;done)|(go_simp;rfl));(case hp=>exact(gX.c6 (show Kd.M iE _ _ _ (⟨0,(⟨t180,t181⟩:aH),(⟨t182,t183⟩:aH),false⟩:aI) [.int .i64 0,.int .i64 t180,.int .i64 t181,.int .i64 t182,.int .i64 t183,.bool false]from(atK _ _ _ (⟨0,(⟨t180,t181⟩:aH),(⟨t182,t183⟩:aH),false⟩:aI))) (gX.c6 (show Kd.M iE _ _ _ (⟨1,(⟨t184,t185⟩:aH),(⟨t186,t187⟩:aH),false⟩:aI) [.int .i64 1,.int .i64 t184,.int .i64 t185,.int .i64 t186,.int .i64 t187,.bool false]from(atK _ _ _ (⟨1,(⟨t184,t185⟩:aH),(⟨t186,t187⟩:aH),false⟩:aI))) (gX.c6 (show Kd.M iE _ _ _ (⟨0,(⟨t188,t189⟩:aH),(⟨0,0⟩:aH),true⟩:aI) [.int .i64 0,.int .i64 t188,.int .i64 t189,.int .i64 0,.int .i64 0,.bool true]from(atK _ _ _ (⟨0,(⟨t188,t189⟩:aH),(⟨0,0⟩:aH),true⟩:aI))) (gX.c6 (show Kd.M iE _ _ _ (⟨0,(⟨t190,t191⟩:aH),(⟨t192,t193⟩:aH),false⟩:aI) [.int .i64 0,.int .i64 t190,.int .i64 t191,.int .i64 t192,.int .i64 t193,.bool false]from(atK _ _ _ (⟨0,(⟨t190,t191⟩:aH),(⟨t192,t193⟩:aH),false⟩:aI))) (gX.none _ _))))));intro aM1 BM aw6 hb mF mG;clear mF mG;(first|rw[<-arJ.out]at aw6|(simp only[Int.reduceToNat]at aw6;rw[<-arJ.out]at aw6));have aeH:=aA.mk (Kd.eF aw6 (dH (Bq HB)));replace zS:=bb zS hb;replace HB:=bs HB hb;clear hb aw6)|((with_reducible refine dU (N:=18) rfl ?_);refine Kd.YX iJ _ 89 ?hg (N:=18) ?hd (xs:=([(⟨12,12⟩:aZ),(⟨6,18⟩:aZ)]:List (aZ))) (inner:=[.int .i64 12,.int .i64 12,.int .i64 6,.int .i64 18]) (ok:=fun _=>True) (lS:=fun _=>True) ?hr ?hp (fun _ hk=>hk) trivial (Below.refl _ _) (Nat.le_refl _) (by simp) ?_;(case hd=>rfl);(case hg=>rfl);(case hr=>first|(go_simp;done)|(go_simp;rfl));(case hp=>exact(gX.c2 (show Kd.M iJ _ _ _ (⟨12,12⟩:aZ) [.int .i64 12,.int .i64 12]from(aTW _ _ _ (⟨12,12⟩:aZ))) (gX.c2 (show Kd.M iJ _ _ _ (⟨6,18⟩:aZ) [.int .i64 6,.int .i64 18]from(aTW _ _ _ (⟨6,18⟩:aZ))) (gX.none _ _))));intro v198 zD aw7 hb mF mG;clear mF mG;(first|rw[<-aYF.out]at aw7|(simp only[Int.reduceToNat]at aw7;rw[<-aYF.out]at aw7));have aw8:=aA.mk (Kd.eF aw7 (dH (Bq HB)));replace aeH:=RB aeH hb;replace zS:=bb zS hb;replace HB:=bs HB hb;clear hb aw7)|((with_reducible refine VC (b:=.append) (xs:=#[.tmp 19,.tmp 20]) rfl ?_);at_builtin;refine Kd.a9S iE (w0:=w) w.heap.size rfl (.tmp 19) (.tmp 20) 23 91 (.agg #[(.int .i64 0),(.int .i64 0),(.int .i64 0),(.int .i64 0),(.int .i64 0),(.bool false)]) 48 rfl Tryd.underlying23 aCU rfl (by decide) (by omega) aM1 tJ l0 _ _ _ (fun _=>True) (fun _=>False) rfl rfl ?aO ?aR (fun _ _ h=>h) (fun _ h=>h.elim) ?aF ?aB ?aS ?aL ?_;(case aR=>repeat(first|exact(Kd.bJ HR0.out HB.out)|(with_reducible refine Kd.jZ ?_ _)|(with_reducible refine Kd.kD ?_ _)|(with_reducible refine Kd.kC ?_)));(case aB=>exact(Bq HB));(case aF=>exact(fun _ _=>trivial));(case aO=>exact(R_ aeH));(case aS=>exact(dH (Bq HB)));(case aL=>have:=bk6.out;omega);intro v201 AU ho hb hg hat;rw[<-bk7.out]at ho;have aV:=aA.mk (oM (g:=arL) (o:=.cells #[.slice none 0 0,.slice none 0 0] 25 (0,0)) (b_ zS) hg (Kd.mW aeH.out zS.out (by decide)));have aW:=aA.mk (Kd.mO (R_ aw8) (Kd.mM (R_ aeH)) (by decide) hg);have aY:=aA.mk (hb);have bI:=aA.mk (ho);clear zS;clear aw8;clear HB;clear aeH;have zS:=aV;have aw8:=aW;have HB:=aY;have aYG:=bI;clear aV aW aY bI;clear ho hb hg hat;obtain⟨qG,qA,rfl⟩:=Kd.dA aYG.out;obtain⟨qM,qC,rfl⟩:=Kd.dA aw8.out;obtain⟨ahI,ahJ⟩:=bZ zS (.slice none 0 0) (.slice none 0 0);have auB:=aX zS.out 0;have auC:=aX zS.out 1))
  refine bodyPost_ret (results_cell_row rfl _ _ arL 25 #[.slice qM arK.length qC,.slice qG aE1.length qA] (0,0) _ rfl (by exact dE (cs:=#[.slice qM arK.length qC,.slice none 0 0]) (dE (cs:=#[.slice none 0 0,.slice none 0 0]) (b_ zS) 0 _ rfl) 1 _ rfl) Tryd.underlying25 rfl (by kernel_rfl)) rfl ?_
  exact⟨_,_,by first|rfl|(simp[iU,iV]<;>rfl)|(simp[*,iU,iV]<;>rfl),by(with_reducible repeat(first|apply Kd.fQ|apply Kd.fU|apply Kd.dG));exact Kd.bQ (Kd.bK (p:=⟨arL,1,none⟩) (Kd.bK (p:=⟨arL,0,none⟩) (Kd.gB aw8.out zS.out (by decide)) (fun _ hk=>hk.2) (.slice qM arK.length qC)) (fun _ hk=>hk.2) (.slice qG aE1.length qA)) (fun _ hk=>trivial),by(with_reducible repeat(first|apply Kd.fQ|apply Kd.fU|apply Kd.dG));exact Kd.bQ (Kd.bK (p:=⟨arL,1,none⟩) (Kd.bK (p:=⟨arL,0,none⟩) (Kd.gB aYG.out zS.out (by decide)) (fun _ hk=>hk.2) (.slice qM arK.length qC)) (fun _ hk=>hk.2) (.slice qG aE1.length qA)) (fun _ hk=>trivial),Bq HB⟩
 rw[if_neg c9]at H
 exact absurd H (by simp)
def af8.f (a0:Int):Option (Int×Int×Int×Int×Int×Int×Int):=(lT.f 10 10).bind fun aw9=>((lT.f 12 12).bind fun aiK=>((lT.f 20 20).bind fun oK=>(some (aw9.1,aw9.2,aiK.1,aiK.2,oK.1,oK.2,a0))))
theorem af8.calls (a0:Int) (r1:Int) (r2:Int) (r3:Int) (r4:Int) (r5:Int) (r6:Int) (r7:Int) (w:World) (h:af8.f a0=some (r1,r2,r3,r4,r5,r6,r7)):
    Calls Tryd.prog 59 #[.int .i64 a0] w fun e w'=>e=.returned (.agg #[.int .i64 r1,.int .i64 r2,.int .i64 r3,.int .i64 r4,.int .i64 r5,.int .i64 r6,.int .i64 r7])/\Below w.heap.size w w':=by
 have hu53:=Tryd.underlying53
 have HB:=aA.mk (Below.refl w.heap.size w)
 have H:((lT.f 10 10).bind fun aw9=>((lT.f 12 12).bind fun aiK=>((lT.f 20 20).bind fun oK=>(some (aw9.1,aw9.2,aiK.1,aiK.2,oK.1,oK.2,a0)))))=some (r1,r2,r3,r4,r5,r6,r7):=h
 clear h
 replace H:=Option.bind_eq_some_iff.mp H
 obtain⟨⟨t204,t205⟩,xY,H⟩:=H
 replace H:((lT.f 12 12).bind fun aiK=>((lT.f 20 20).bind fun oK=>(some (t204,t205,aiK.1,aiK.2,oK.1,oK.2,a0))))=some (r1,r2,r3,r4,r5,r6,r7):=H
 have A2:=aA.mk xY
 clear xY
 replace H:=Option.bind_eq_some_iff.mp H
 obtain⟨⟨t206,t207⟩,RG,H⟩:=H
 replace H:((lT.f 20 20).bind fun oK=>(some (t204,t205,t206,t207,oK.1,oK.2,a0)))=some (r1,r2,r3,r4,r5,r6,r7):=H
 have A3:=aA.mk RG
 clear RG
 replace H:=Option.bind_eq_some_iff.mp H
 obtain⟨⟨t208,t209⟩,vG,H⟩:=H
 replace H:(some (t204,t205,t206,t207,t208,t209,a0))=some (r1,r2,r3,r4,r5,r6,r7):=H
 have A4:=aA.mk vG
 clear vG
 simp only[Option.some.injEq,Prod.mk.injEq]at H
 obtain⟨rfl,rfl,rfl,rfl,rfl,rfl,rfl⟩:=H
 go_enter Tryd.func59,Tryd.ntmps59
 go_wp2_with (first|((with_reducible refine dU (N:=2) rfl ?_);refine eX 2 #[.int .i64 0,.int .i64 0,.int .i64 0,.int .i64 0,.int .i64 0,.int .i64 0,.int .i64 0] 53 ?_;intro bk8 hg w5 hbox hb;have MX:=aA.mk (hbox);have GW203:=gw hg HB;have GE203:=gw hg HB;replace HB:=bs HB hb;clear hb hbox hg)|((with_reducible refine gJ (f:=46) rfl ?_);refine cE 3 Tryd.func46 #[.int .i64 10,.int .i64 10] ?_;(with_reducible refine(lT.calls 10 10 t204 t205 _ A2.out).mono ?_);rintro e w6 ⟨rfl,hb⟩;refine⟨_,rfl,?_⟩;replace MX:=bb MX hb;replace HB:=bs HB hb;(try clear hb))|((with_reducible refine gJ (f:=46) rfl ?_);refine cE 4 Tryd.func46 #[.int .i64 12,.int .i64 12] ?_;(with_reducible refine(lT.calls 12 12 t206 t207 _ A3.out).mono ?_);rintro e w7 ⟨rfl,hb⟩;refine⟨_,rfl,?_⟩;replace MX:=bb MX hb;replace HB:=bs HB hb;(try clear hb))|((with_reducible refine gJ (f:=46) rfl ?_);refine cE 5 Tryd.func46 #[.int .i64 20,.int .i64 20] ?_;(with_reducible refine(lT.calls 20 20 t208 t209 _ A4.out).mono ?_);rintro e w8 ⟨rfl,hb⟩;refine⟨_,rfl,?_⟩;replace MX:=bb MX hb;replace HB:=bs HB hb;(try clear hb);obtain⟨aM2,aM3⟩:=bZ MX (.int .i64 0) (.int .i64 0);have aYH:=kd MX 2 (.int .i64 0);have aYI:=kd MX 3 (.int .i64 0);have hcz9_4:=kd MX 4 (.int .i64 0);have hcz9_5:=kd MX 5 (.int .i64 0);have hcz9_6:=kd MX 6 (.int .i64 0);have aYJ:=aX MX.out 0;have aYK:=aX MX.out 1;have aYL:=aX MX.out 2;have aYM:=aX MX.out 3;have hfz9_4:=aX MX.out 4;have hfz9_5:=aX MX.out 5;have hfz9_6:=aX MX.out 6))
 refine bodyPost_ret (results_cell_row rfl _ _ bk8 53 #[.int .i64 t204,.int .i64 t205,.int .i64 t206,.int .i64 t207,.int .i64 t208,.int .i64 t209,.int .i64 a0] (0,0) _ rfl (by exact dE (cs:=#[.int .i64 t204,.int .i64 t205,.int .i64 t206,.int .i64 t207,.int .i64 t208,.int .i64 t209,.int .i64 0]) (dE (cs:=#[.int .i64 t204,.int .i64 t205,.int .i64 t206,.int .i64 t207,.int .i64 t208,.int .i64 0,.int .i64 0]) (dE (cs:=#[.int .i64 t204,.int .i64 t205,.int .i64 t206,.int .i64 t207,.int .i64 0,.int .i64 0,.int .i64 0]) (dE (cs:=#[.int .i64 t204,.int .i64 t205,.int .i64 t206,.int .i64 0,.int .i64 0,.int .i64 0,.int .i64 0]) (dE (cs:=#[.int .i64 t204,.int .i64 t205,.int .i64 0,.int .i64 0,.int .i64 0,.int .i64 0,.int .i64 0]) (dE (cs:=#[.int .i64 t204,.int .i64 0,.int .i64 0,.int .i64 0,.int .i64 0,.int .i64 0,.int .i64 0]) (dE (cs:=#[.int .i64 0,.int .i64 0,.int .i64 0,.int .i64 0,.int .i64 0,.int .i64 0,.int .i64 0]) (b_ MX) 0 _ rfl) 1 _ rfl) 2 _ rfl) 3 _ rfl) 4 _ rfl) 5 _ rfl) 6 _ rfl) Tryd.underlying53 rfl (by kernel_rfl)) rfl ?_
 exact eR HB
def af9.f:Option ((List (gQ))):=some (([(⟨6,6,152⟩:gQ),(⟨12,0,142⟩:gQ),(⟨0,12,162⟩:gQ)]:List (gQ)))
theorem af9.calls  (r:List (gQ)) (w:World) (h:af9.f=some r):
    Calls Tryd.prog 60 #[] w fun e w'=>∃ iG:Value,e=.returned (iG)/\Kd.R vC 109 w' w.heap.size (fun _=>True) iG r/\Below w.heap.size w w':=by
 have hu109:=Tryd.underlying109
 have HB:=aA.mk (Below.refl w.heap.size w)
 have H:(some (([(⟨6,6,152⟩:gQ),(⟨12,0,142⟩:gQ),(⟨0,12,162⟩:gQ)]:List (gQ))))=some r:=h
 clear h
 obtain⟨bk9,axA⟩:∃ y_:List (gQ),y_=(([(⟨6,6,152⟩:gQ),(⟨12,0,142⟩:gQ),(⟨0,12,162⟩:gQ)]:List (gQ))):=⟨_,rfl⟩
 replace H:(some bk9)=some r:=by first|(rw[axA];with_reducible exact H)|(have dJ:=(Option.bind_some _ _).symm.trans H;rw[axA];with_reducible exact dJ)|(have dJ:=(Option.bind_some _ _).symm.trans H;with_reducible exact dJ)|with_reducible exact H|(rw[axA];exact H)|exact H
 have aYN:=aA.mk axA
 clear axA
 obtain rfl:=Option.some.inj H
 go_enter Tryd.func60,Tryd.ntmps60
 go_wp2_with (first|((with_reducible refine dU (N:=4) rfl ?_);refine Kd.YX vC _ 109 ?hg (N:=4) ?hd (xs:=([(⟨6,6,152⟩:gQ),(⟨12,0,142⟩:gQ),(⟨0,12,162⟩:gQ)]:List (gQ))) (inner:=[.int .i64 6,.int .i64 6,.int .i64 152,.int .i64 12,.int .i64 0,.int .i64 142,.int .i64 0,.int .i64 12,.int .i64 162]) (ok:=fun _=>True) (lS:=fun _=>True) ?hr ?hp (fun _ hk=>hk) trivial (Below.refl _ _) (Nat.le_refl _) (by simp) ?_;(case hd=>rfl);(case hg=>rfl);(case hr=>first|(go_simp;done)|(go_simp;rfl));(case hp=>exact(gX.c3 (show Kd.M vC _ _ _ (⟨6,6,152⟩:gQ) [.int .i64 6,.int .i64 6,.int .i64 152]from(aIV _ _ _ (⟨6,6,152⟩:gQ))) (gX.c3 (show Kd.M vC _ _ _ (⟨12,0,142⟩:gQ) [.int .i64 12,.int .i64 0,.int .i64 142]from(aIV _ _ _ (⟨12,0,142⟩:gQ))) (gX.c3 (show Kd.M vC _ _ _ (⟨0,12,162⟩:gQ) [.int .i64 0,.int .i64 12,.int .i64 162]from(aIV _ _ _ (⟨0,12,162⟩:gQ))) (gX.none _ _)))));intro aYO w1 ho2 hb mF mG;clear mF mG;(first|rw[<-aYN.out]at ho2|(simp only[Int.reduceToNat]at ho2;rw[<-aYN.out]at ho2));have rM:=aA.mk (Kd.eF ho2 (dH (Bq HB)));replace HB:=bs HB hb;clear hb ho2))
 go_ret
 exact⟨_,by first|rfl|(simp[iU,iV]<;>rfl)|(simp[*,iU,iV]<;>rfl),R_ rM,Bq HB⟩
end Go.Proofs.YtcmfnebcmmklkaaDoor.Q
namespace Go.Proofs.YtcmfnebcmmklkaaDoor.Hand
open Go.RowKit Go.Proofs.YtcmfnebcmmklkaaDoorW.dQ Go.Proofs.YtcmfnebcmmklkaaDoorW.gG Go.Proofs.YtcmfnebcmmklkaaDoor.Q
def cmpL:List Int->List Int->Int
 |a::xs,b::ys=>if a<b then -1 else if b<a then 1 else cmpL xs ys
 |[],_::_=> -1
 |_::_,[]=>1
 |[],[]=>0
theorem blA (a b:Int):cmp_Compare_int.f a b=some (if a<b then -1 else if b<a then 1 else 0):=by
 unfold cmp_Compare_int.f cmp_isNaN_int.f
 simp only[Option.bind_some]
 rw[show(a !=a)=false by simp,show(b !=b)=false by simp]
 by_cases h:a<b
 ·simp[h]
 ·by_cases h2:b<a
  ·simp[h,h2]
  ·simp[h,h2]
theorem aYP (l:List Int) (j:Nat) (h:j<l.length):rd l (j:Int)=l[j]:=by simp[rd,List.getD_eq_getElem?_getD,List.getElem?_eq_getElem h]
theorem blB (x0 x1:List Int) (h0:x0.length<=1000000):∀ (d j k:Nat),j+d=x0.length->d<k->j<=x1.length->
  VO.l0 k x0 x1 x0 (x0.length:Int) j=some (cmpL (x0.drop j) (x1.drop j)):=by
 intro d
 induction d with
 |zero=>
  intro j k hj hk h1
  obtain⟨k,rfl⟩:∃ m,k=m+1:=⟨k - 1,by omega⟩
  simp only[VO.l0]
  rw[if_neg (by omega),List.drop_eq_nil_of_le (by omega)]
  by_cases hl:x0.length<x1.length
  ·rw[if_pos (by omega),List.drop_eq_getElem_cons (by omega:j<x1.length)]
   rfl
  ·rw[if_neg (by omega),List.drop_eq_nil_of_le (by omega)]
   rfl
 |succ d ih=>
  intro j k hj hk h1
  obtain⟨k,rfl⟩:∃ m,k=m+1:=⟨k - 1,by omega⟩
  simp only[VO.l0]
  have hj0:j<x0.length:=by omega
  rw[if_pos (by omega),if_pos (by omega),if_pos (by omega)]
  by_cases hl:j<x1.length
  ·rw[if_neg (by omega),if_pos (by omega),blA,aYP _ _ hj0,aYP _ _ hl,List.drop_eq_getElem_cons hj0,List.drop_eq_getElem_cons hl]
   simp only[Option.bind_some,cmpL]
   by_cases h2:x0[j]<x1[j]
   ·simp[h2]
   ·by_cases h3:x1[j]<x0[j]
    ·simp[h2,h3]
    ·rw[if_neg h2,if_neg h3,if_pos rfl,if_neg h2,if_neg h3,show wrap64 ((j:Int)+1)=((j+1:Nat):Int) by unfold wrap64;omega]
     exact ih (j+1) k (by omega) (by omega) (by omega)
  ·rw[if_pos (by omega),List.drop_eq_getElem_cons hj0,show x1.drop j=[]from List.drop_eq_nil_of_le (by omega)]
   rfl
theorem blC (x0 x1:List Int) (h0:x0.length<=1000000):VO.f (x0.length+1) x0 x1=some (cmpL x0 x1):=blB x0 x1 h0 x0.length 0 _ (by omega) (by omega) (by omega)
theorem aE2:∀ (a b:List Int),a.length=b.length->(0<cmpL a b↔lexB b a=true)/\(cmpL a b<0↔lexB a b=true)/\(cmpL a b=0↔a=b):=by
 intro a
 induction a with
 |nil=>
  intro b h
  obtain rfl:=List.length_eq_zero_iff.1 h.symm
  simp[cmpL,lexB]
 |cons x a ih=>
  intro b h
  cases b with
  |nil=>simp at h
  |cons y b=>
   have hi:=ih b (by simpa using h)
   unfold cmpL lexB
   by_cases h1:x<y
   ·rw[if_pos h1,if_neg (show ¬ y=x by omega),if_neg (show ¬ x=y by omega)]
    simp[h1]
    omega
   ·by_cases h2:y<x
    ·rw[if_neg h1,if_pos h2,if_neg (show ¬ y=x by omega),if_neg (show ¬ x=y by omega)]
     simp[h2]
     omega
    ·obtain rfl:x=y:=by omega
     rw[if_neg h1,if_neg h2,if_pos rfl,if_pos rfl]
     simp[hi]
theorem aE3 (A0:Option Addr) (c0:Nat) (l0:List Int) (A1:Option Addr) (c1:Nat) (l1:List Int) (w:World) (hr0:Kd.C (Kd.int .i64) w A0 l0.length l0) (hc0:l0.length<=c0) (hr1:Kd.C (Kd.int .i64) w A1 l1.length l1) (hc1:l1.length<=c1) (h0:l0.length<=1000000):
  Calls Tryd.prog 79 #[.slice A0 l0.length c0,.slice A1 l1.length c1] w fun e w'=>e=.returned (.int .i64 (cmpL l0 l1))/\iI w w':=
 VO.calls _ A0 c0 l0 A1 c1 l1 _ w hr0 hc0 hr1 hc1 (blC l0 l1 h0)
end Go.Proofs.YtcmfnebcmmklkaaDoor.Hand
namespace Go.Proofs.YtcmfnebcmmklkaaDoor.Hand
open Go.RowKit Go.Shelf Go.Proofs.YtcmfnebcmmklkaaDoorW.dQ Go.Proofs.YtcmfnebcmmklkaaDoorW.gG Go.Proofs.YtcmfnebcmmklkaaDoor.Q
theorem aE4 (n:Nat) (h:n<18446744073709551616):IntKind.u64.wrap (n:Int)=(n:Int):=by
 rw[IntWalk.u64_in]
 omega
theorem aM4:∀ s,s<256->iQ s=[]->s=0:=by decide+kernel
def arM (o:Option (List Int)) (l:List Int) (b:Bool):Option (List Int):=match o with
 |none=>if b=true then some l else none
 |some c=>if ab6 l c=true/\b=true then some l else some c
theorem aM5 (is:Nat->Bool) (s:Nat):pR is iQ (s+1)=arM (pR is iQ s) (iQ s) (is s):=rfl
theorem agA:∀ s,s<256->(iQ s).length<=8:=by decide+kernel
theorem aM6 (il bl:List Int) (b:Bool):arM (some bl) il b=(if(il.length<bl.length∨(il.length=bl.length/\lexB bl il=false))/\b=true then some il else some bl):=by
 unfold arM ab6
 simp only
 cases b
 ·simp
 ·by_cases h:il.length=bl.length
  ·rw[if_pos h]
   have h1:=aE2 il bl h
   by_cases h2:lexB il bl=true
   ·have h3:lexB bl il=false:=by
     rw[Bool.eq_false_iff]
     intro h4
     have:=h1.1.2 h4
     have:=h1.2.1.2 h2
     omega
    simp[h,h2,h3]
   ·have h2':lexB il bl=false:=by simpa using h2
    by_cases h3:lexB bl il=true
    ·simp[h,h2',h3]
    ·have h4:cmpL il bl=0:=by
      have h5:¬ 0<cmpL il bl:=fun h=>h3 (h1.1.1 h)
      have h6:¬ cmpL il bl<0:=fun h=>h2 (h1.2.1.1 h)
      omega
     rw[h1.2.2.1 h4]
     simp
  ·rw[if_neg h]
   simp[h]
theorem eH.C {W:World} {n₀:Nat} {A:Option Addr} {n c:Nat} {xs:List Int} (h:eH W n₀ (.slice A n c) xs):Kd.C (Kd.int .i64) W A xs.length xs:=by
 have h1:=Kd.dB h.R
 obtain⟨h2,h3,h4⟩:=h1
 have:=h.cap.2.2.1
 subst this
 exact h4
theorem blD (m:Nat) (hm:m<=8) (is:Nat->Bool) (b0:Nat) (w:World) (hT:lZ w)
  (hp:∀ s:Nat,s<2^m->∀ W,Below w.heap.size w W->Calls Tryd.prog 74 #[.int .u64 s,.pointer (some ⟨b0,0,none⟩)] W fun e W'=>e=.returned (.bool (is s))/\Below W.heap.size W W'):
  Calls Tryd.prog 73 #[.int .i64 m,.func (.func 74) #[] #[.pointer (some ⟨b0,0,none⟩)]] w fun e w'=>∃ v,e=.returned (.tuple #[v,.bool (pR is iQ (2^m)).isSome])/\eH w' w.heap.size v ((pR is iQ (2^m)).getD [])/\((pR is iQ (2^m)).getD []=[]->v=.slice none 0 0)/\Below w.heap.size w w':=by
 obtain⟨M,hM⟩:∃ M,2^m=M:=⟨_,rfl⟩
 have hM8:M<=256:=by rw[<-hM];exact Nat.le_trans (Nat.pow_le_pow_right (by decide) hm) (by decide)
 have hwr:IntKind.u64.wrap (2^m)=((M:Nat):Int):=by
  rw[show((2:Int)^m)=((2^m:Nat):Int) by simp,hM]
  exact aE4 M (by omega)
 rw[hM]at hp ⊢
 have hq:=Lib.hid hp
 clear hp hM
 obtain⟨O,hO⟩:∃ O,pR is iQ M=O:=⟨_,rfl⟩
 have HO:=Lib.hid hO
 rw[hO]
 clear hO
 go_enter Tryd.func73,Tryd.ntmps73
 go_wp2
 clear hwr
 go_loopw [4,5,10] (fun bv okv iv w'=>∃ (s:Nat) (o:Option (List Int)),s<=M/\iv=.int .u64 s/\okv=.bool o.isSome/\Hid (pR is iQ s=o)/\eH w' w.heap.size bv (o.getD [])/\Hid (o.getD []=[]->bv=.slice none 0 0)/\Below w.heap.size w w') (fun _ _ iv _=>M - (intOf iv).toNat)
 case atStart=>exact⟨0,none,Nat.zero_le _,rfl,rfl,Lib.hid rfl,World.ownsRow_nil _ _ _ _,Lib.hid (fun _=>rfl),Below.refl _ _⟩
 case round=>
  obtain⟨s,o,hs,rfl,rfl,hf,ho,hn,hB⟩:=hrel
  by_cases hlt:s<M
  ·have hl:=Lib.hid (awX s (by omega) wr (hT.below hB))
   have hcall:=Lib.hid (hq.out s hlt)
   obtain⟨A,c,rfl⟩:=ho.slice
   go_wp2_with fail
   refine hl.out.mono ?_
   rintro e w2 ⟨v2,rfl,ho2,hn2,hB2⟩
   obtain⟨A2,c2,rfl⟩:=ho2.slice
   have hB2':Below w.heap.size w w2:=hB.trans (hB2.mono hB.size)
   have ho1:eH w2 w.heap.size (.slice A (o.getD []).length c) (o.getD []):=ho.below' hB2
   have wG:eH w2 w.heap.size (.slice A2 (iQ s).length c2) (iQ s):=ho2.lower (by have:=hB.size;omega)
   obtain⟨il,hil⟩:∃ il,iQ s=il:=⟨_,rfl⟩
   have ab8:Hid (il=[]->Value.slice A2 il.length c2=.slice none 0 0):=Lib.hid (fun e=>by
    rw[hil]at hn2
    exact hn2 (aM4 s (by omega) (hil.trans e)))
   have Hil:=Lib.hid hil
   rw[hil]at wG ho2 ⊢
   obtain⟨b,hb⟩:∃ b,is s=b:=⟨_,rfl⟩
   have Hb:=Lib.hid hb
   have hf2:Hid (pR is iQ (s+1)=arM o il b):=Lib.hid (by rw[aM5,hil,hb,hf.out])
   rw[hb]at hcall
   clear hn2 ho hB hB2 ho2 hl hil hb
   have ab9:=hcall
   have hcall:=ab9.out _ hB2'
   have aYR:il.length<=8:=by rw[<-Hil.out];exact agA s (by omega)
   cases o with
   |none=>
    go_wp2_with fail
    refine hcall.mono ?_
    rintro e w3 ⟨rfl,hB3⟩
    have zT:Below w.heap.size w w3:=hB2'.trans (hB3.mono hB2'.size)
    have ho3:=wG.below' hB3
    have SC:=ho1.below' hB3
    clear ho1 wG hB2' hB3 hcall
    cases b with
    |false=>
     go_wp2
     go_roundw
     case rel=>exact⟨s+1,none,by omega,by go_num,rfl,hf2,SC,hn,zT⟩
     case measure=>simp[intOf];omega
    |true=>
     go_wp2
     go_roundw
     case rel=>exact⟨s+1,some il,by omega,by go_num,rfl,hf2,ho3,ab8,zT⟩
     case measure=>simp[intOf];omega
   |some bl=>
    have e1:(some bl).getD []=bl:=rfl
    simp only[Option.getD_some,Option.isSome_some]at ho1 hn ⊢
    have aYS:bl.length<=8:=by
     obtain⟨s',h1,_,h2,_⟩:=aMY _ _ _ _ hf.out
     rw[h2]
     exact agA s' (by omega)
    have axC:(il.length<bl.length∨(il.length=bl.length/\lexB bl il=false))∨(bl.length<il.length∨(il.length=bl.length/\lexB bl il=true)):=by
     rcases Nat.lt_trichotomy il.length bl.length with h|h|h
     ·exact .inl (.inl h)
     ·cases hx:lexB bl il
      ·exact .inl (.inr ⟨h,rfl⟩)
      ·exact .inr (.inr ⟨h,rfl⟩)
     ·exact .inr (.inl h)
    have hres:Hid (pR is iQ (s+1)=(if(il.length<bl.length∨(il.length=bl.length/\lexB bl il=false))/\b=true then some il else some bl)):=Lib.hid (hf2.out.trans (aM6 il bl b))
    clear axC
    rcases Nat.lt_trichotomy il.length bl.length with hlt2|heq|hgt
    ·have hd1:decide (bl.length<il.length)=false:=decide_eq_false (by omega)
     have hd2:(il.length==bl.length)=false:=by simp;omega
     go_wp2_with fail
     refine hcall.mono ?_
     rintro e w3 ⟨rfl,hB3⟩
     have zT:Below w.heap.size w w3:=hB2'.trans (hB3.mono hB2'.size)
     have ho3:=wG.below' hB3
     have SC:=ho1.below' hB3
     clear ho1 wG hB2' hB3 hcall
     cases b with
     |false=>
      go_wp2
      go_roundw
      case rel=>exact⟨s+1,some bl,by omega,by go_num,rfl,Lib.hid (hres.out.trans (if_neg (by simp))),SC,hn,zT⟩
      case measure=>simp[intOf];omega
     |true=>
      go_wp2
      go_roundw
      case rel=>exact⟨s+1,some il,by omega,by go_num,rfl,Lib.hid (hres.out.trans (if_pos (by simp[hlt2]))),ho3,ab8,zT⟩
      case measure=>simp[intOf];omega
    ·have hd1:decide (bl.length<il.length)=false:=decide_eq_false (by omega)
     have hd2:(il.length==bl.length)=true:=by simp[heq]
     have aiL:((il.length:Int)==(bl.length:Int))=true:=by simp[heq]
     have hlx:=aE2 il bl heq
     have uQ:=ho1.C
     have hC2:=wG.C
     obtain⟨r,hr⟩:∃ r,cmpL il bl=r:=⟨_,rfl⟩
     have hcmp:=Lib.hid (aE3 _ c2 il _ c bl w2 hC2 wG.cap.1 uQ ho1.cap.1 (by omega))
     rw[hr]at hcmp hlx
     have Hlx:=Lib.hid hlx.1
     have Heq:=Lib.hid heq
     clear hr hlx heq hcall
     by_cases hr0:0<r
     ·have hx:=Lib.hid (Hlx.out.1 hr0)
      have hd3:decide (0<r)=true:=decide_eq_true hr0
      go_wp2_with fail
      refine hcmp.out.mono ?_
      rintro e wd ⟨rfl,hd⟩
      have hbd:=hd.below
      have XN:=ho1.below' hbd
      have MZ:Below w.heap.size w wd:=hB2'.trans (hbd.mono hB2'.size)
      clear ho1 wG hB2' hcmp hd hbd hd1 hd2 aiL
      go_wp2
      go_roundw
      case rel=>exact⟨s+1,some bl,by omega,by go_num,rfl,Lib.hid (hres.out.trans (if_neg (by simp[Heq.out,hx.out]))),XN,hn,MZ⟩
      case measure=>simp[intOf];omega
     ·have hd3:decide (0<r)=false:=decide_eq_false hr0
      have hx:Hid (lexB bl il=false):=Lib.hid (by rw[Bool.eq_false_iff];exact fun h=>hr0 (Hlx.out.2 h))
      go_wp2_with fail
      refine hcmp.out.mono ?_
      rintro e wd ⟨rfl,hd⟩
      have hbd:=hd.below
      have aiO:=wG.below' hbd
      have XN:=ho1.below' hbd
      have MZ:Below w.heap.size w wd:=hB2'.trans (hbd.mono hB2'.size)
      have aiP:=ab9.out _ MZ
      clear ho1 wG hB2' hcmp hd hbd ab9 hd1 hd2 aiL
      go_wp2_with fail
      refine aiP.mono ?_
      rintro e w3 ⟨rfl,hB3⟩
      have zT:Below w.heap.size w w3:=MZ.trans (hB3.mono MZ.size)
      have ho3:=aiO.below' hB3
      have SC:=XN.below' hB3
      clear XN aiO MZ hB3 aiP
      cases b with
      |false=>
       go_wp2
       go_roundw
       case rel=>exact⟨s+1,some bl,by omega,by go_num,rfl,Lib.hid (hres.out.trans (if_neg (by simp))),SC,hn,zT⟩
       case measure=>simp[intOf];omega
      |true=>
       go_wp2
       go_roundw
       case rel=>exact⟨s+1,some il,by omega,by go_num,rfl,Lib.hid (hres.out.trans (if_pos (by simp[Heq.out,hx.out]))),ho3,ab8,zT⟩
       case measure=>simp[intOf];omega
    ·have hd1:decide (bl.length<il.length)=true:=decide_eq_true hgt
     go_wp2
     go_roundw
     case rel=>exact⟨s+1,some bl,by omega,by go_num,rfl,Lib.hid (hres.out.trans (if_neg (by intro h;rcases h.1 with h|⟨h,_⟩<;>omega))),ho1,hn,hB2'⟩
     case measure=>simp[intOf];omega
  ·have hse:s=M:=by omega
   subst hse
   have hoO:o=O:=hf.out.symm.trans HO.out
   subst hoO
   go_wp2
   go_ret2
   exact⟨_,rfl,ho,hn.out,hB⟩
theorem blE (m:Nat) (hm:m<=8) (is:Nat->Bool) (b0:Nat) (w:World) (hT:lZ w)
  (hp:∀ s:Nat,s<2^m->∀ W,Below w.heap.size w W->Calls Tryd.prog 84 #[.int .u64 s,.pointer (some ⟨b0,0,none⟩)] W fun e W'=>e=.returned (.bool (is s))/\Below W.heap.size W W'):
  Calls Tryd.prog 73 #[.int .i64 m,.func (.func 84) #[] #[.pointer (some ⟨b0,0,none⟩)]] w fun e w'=>∃ v,e=.returned (.tuple #[v,.bool (pR is iQ (2^m)).isSome])/\eH w' w.heap.size v ((pR is iQ (2^m)).getD [])/\((pR is iQ (2^m)).getD []=[]->v=.slice none 0 0)/\Below w.heap.size w w':=by
 obtain⟨M,hM⟩:∃ M,2^m=M:=⟨_,rfl⟩
 have hM8:M<=256:=by rw[<-hM];exact Nat.le_trans (Nat.pow_le_pow_right (by decide) hm) (by decide)
 have hwr:IntKind.u64.wrap (2^m)=((M:Nat):Int):=by
  rw[show((2:Int)^m)=((2^m:Nat):Int) by simp,hM]
  exact aE4 M (by omega)
 rw[hM]at hp ⊢
 have hq:=Lib.hid hp
 clear hp hM
 obtain⟨O,hO⟩:∃ O,pR is iQ M=O:=⟨_,rfl⟩
 have HO:=Lib.hid hO
 rw[hO]
 clear hO
 go_enter Tryd.func73,Tryd.ntmps73
 go_wp2
 clear hwr
 go_loopw [4,5,10] (fun bv okv iv w'=>∃ (s:Nat) (o:Option (List Int)),s<=M/\iv=.int .u64 s/\okv=.bool o.isSome/\Hid (pR is iQ s=o)/\eH w' w.heap.size bv (o.getD [])/\Hid (o.getD []=[]->bv=.slice none 0 0)/\Below w.heap.size w w') (fun _ _ iv _=>M - (intOf iv).toNat)
 case atStart=>exact⟨0,none,Nat.zero_le _,rfl,rfl,Lib.hid rfl,World.ownsRow_nil _ _ _ _,Lib.hid (fun _=>rfl),Below.refl _ _⟩
 case round=>
  obtain⟨s,o,hs,rfl,rfl,hf,ho,hn,hB⟩:=hrel
  by_cases hlt:s<M
  ·have hl:=Lib.hid (awX s (by omega) wr (hT.below hB))
   have hcall:=Lib.hid (hq.out s hlt)
   obtain⟨A,c,rfl⟩:=ho.slice
   go_wp2_with fail
   refine hl.out.mono ?_
   rintro e w2 ⟨v2,rfl,ho2,hn2,hB2⟩
   obtain⟨A2,c2,rfl⟩:=ho2.slice
   have hB2':Below w.heap.size w w2:=hB.trans (hB2.mono hB.size)
   have ho1:eH w2 w.heap.size (.slice A (o.getD []).length c) (o.getD []):=ho.below' hB2
   have wG:eH w2 w.heap.size (.slice A2 (iQ s).length c2) (iQ s):=ho2.lower (by have:=hB.size;omega)
   obtain⟨il,hil⟩:∃ il,iQ s=il:=⟨_,rfl⟩
   have ab8:Hid (il=[]->Value.slice A2 il.length c2=.slice none 0 0):=Lib.hid (fun e=>by
    rw[hil]at hn2
    exact hn2 (aM4 s (by omega) (hil.trans e)))
   have Hil:=Lib.hid hil
   rw[hil]at wG ho2 ⊢
   obtain⟨b,hb⟩:∃ b,is s=b:=⟨_,rfl⟩
   have Hb:=Lib.hid hb
   have hf2:Hid (pR is iQ (s+1)=arM o il b):=Lib.hid (by rw[aM5,hil,hb,hf.out])
   rw[hb]at hcall
   clear hn2 ho hB hB2 ho2 hl hil hb
   have ab9:=hcall
   have hcall:=ab9.out _ hB2'
   have aYR:il.length<=8:=by rw[<-Hil.out];exact agA s (by omega)
   cases o with
   |none=>
    go_wp2_with fail
    refine hcall.mono ?_
    rintro e w3 ⟨rfl,hB3⟩
    have zT:Below w.heap.size w w3:=hB2'.trans (hB3.mono hB2'.size)
    have ho3:=wG.below' hB3
    have SC:=ho1.below' hB3
    clear ho1 wG hB2' hB3 hcall
    cases b with
    |false=>
     go_wp2
     go_roundw
     case rel=>exact⟨s+1,none,by omega,by go_num,rfl,hf2,SC,hn,zT⟩
     case measure=>simp[intOf];omega
    |true=>
     go_wp2
     go_roundw
     case rel=>exact⟨s+1,some il,by omega,by go_num,rfl,hf2,ho3,ab8,zT⟩
     case measure=>simp[intOf];omega
   |some bl=>
    have e1:(some bl).getD []=bl:=rfl
    simp only[Option.getD_some,Option.isSome_some]at ho1 hn ⊢
    have aYS:bl.length<=8:=by
     obtain⟨s',h1,_,h2,_⟩:=aMY _ _ _ _ hf.out
     rw[h2]
     exact agA s' (by omega)
    have axC:(il.length<bl.length∨(il.length=bl.length/\lexB bl il=false))∨(bl.length<il.length∨(il.length=bl.length/\lexB bl il=true)):=by
     rcases Nat.lt_trichotomy il.length bl.length with h|h|h
     ·exact .inl (.inl h)
     ·cases hx:lexB bl il
      ·exact .inl (.inr ⟨h,rfl⟩)
      ·exact .inr (.inr ⟨h,rfl⟩)
     ·exact .inr (.inl h)
    have hres:Hid (pR is iQ (s+1)=(if(il.length<bl.length∨(il.length=bl.length/\lexB bl il=false))/\b=true then some il else some bl)):=Lib.hid (hf2.out.trans (aM6 il bl b))
    clear axC
    rcases Nat.lt_trichotomy il.length bl.length with hlt2|heq|hgt
    ·have hd1:decide (bl.length<il.length)=false:=decide_eq_false (by omega)
     have hd2:(il.length==bl.length)=false:=by simp;omega
     go_wp2_with fail
     refine hcall.mono ?_
     rintro e w3 ⟨rfl,hB3⟩
     have zT:Below w.heap.size w w3:=hB2'.trans (hB3.mono hB2'.size)
     have ho3:=wG.below' hB3
     have SC:=ho1.below' hB3
     clear ho1 wG hB2' hB3 hcall
     cases b with
     |false=>
      go_wp2
      go_roundw
      case rel=>exact⟨s+1,some bl,by omega,by go_num,rfl,Lib.hid (hres.out.trans (if_neg (by simp))),SC,hn,zT⟩
      case measure=>simp[intOf];omega
     |true=>
      go_wp2
      go_roundw
      case rel=>exact⟨s+1,some il,by omega,by go_num,rfl,Lib.hid (hres.out.trans (if_pos (by simp[hlt2]))),ho3,ab8,zT⟩
      case measure=>simp[intOf];omega
    ·have hd1:decide (bl.length<il.length)=false:=decide_eq_false (by omega)
     have hd2:(il.length==bl.length)=true:=by simp[heq]
     have aiL:((il.length:Int)==(bl.length:Int))=true:=by simp[heq]
     have hlx:=aE2 il bl heq
     have uQ:=ho1.C
     have hC2:=wG.C
     obtain⟨r,hr⟩:∃ r,cmpL il bl=r:=⟨_,rfl⟩
     have hcmp:=Lib.hid (aE3 _ c2 il _ c bl w2 hC2 wG.cap.1 uQ ho1.cap.1 (by omega))
     rw[hr]at hcmp hlx
     have Hlx:=Lib.hid hlx.1
     have Heq:=Lib.hid heq
     clear hr hlx heq hcall
     by_cases hr0:0<r
     ·have hx:=Lib.hid (Hlx.out.1 hr0)
      have hd3:decide (0<r)=true:=decide_eq_true hr0
      go_wp2_with fail
      refine hcmp.out.mono ?_
      rintro e wd ⟨rfl,hd⟩
      have hbd:=hd.below
      have XN:=ho1.below' hbd
      have MZ:Below w.heap.size w wd:=hB2'.trans (hbd.mono hB2'.size)
      clear ho1 wG hB2' hcmp hd hbd hd1 hd2 aiL
      go_wp2
      go_roundw
      case rel=>exact⟨s+1,some bl,by omega,by go_num,rfl,Lib.hid (hres.out.trans (if_neg (by simp[Heq.out,hx.out]))),XN,hn,MZ⟩
      case measure=>simp[intOf];omega
     ·have hd3:decide (0<r)=false:=decide_eq_false hr0
      have hx:Hid (lexB bl il=false):=Lib.hid (by rw[Bool.eq_false_iff];exact fun h=>hr0 (Hlx.out.2 h))
      go_wp2_with fail
      refine hcmp.out.mono ?_
      rintro e wd ⟨rfl,hd⟩
      have hbd:=hd.below
      have aiO:=wG.below' hbd
      have XN:=ho1.below' hbd
      have MZ:Below w.heap.size w wd:=hB2'.trans (hbd.mono hB2'.size)
      have aiP:=ab9.out _ MZ
      clear ho1 wG hB2' hcmp hd hbd ab9 hd1 hd2 aiL
      go_wp2_with fail
      refine aiP.mono ?_
      rintro e w3 ⟨rfl,hB3⟩
      have zT:Below w.heap.size w w3:=MZ.trans (hB3.mono MZ.size)
      have ho3:=aiO.below' hB3
      have SC:=XN.below' hB3
      clear XN aiO MZ hB3 aiP
      cases b with
      |false=>
       go_wp2
       go_roundw
       case rel=>exact⟨s+1,some bl,by omega,by go_num,rfl,Lib.hid (hres.out.trans (if_neg (by simp))),SC,hn,zT⟩
       case measure=>simp[intOf];omega
      |true=>
       go_wp2
       go_roundw
       case rel=>exact⟨s+1,some il,by omega,by go_num,rfl,Lib.hid (hres.out.trans (if_pos (by simp[Heq.out,hx.out]))),ho3,ab8,zT⟩
       case measure=>simp[intOf];omega
    ·have hd1:decide (bl.length<il.length)=true:=decide_eq_true hgt
     go_wp2
     go_roundw
     case rel=>exact⟨s+1,some bl,by omega,by go_num,rfl,Lib.hid (hres.out.trans (if_neg (by intro h;rcases h.1 with h|⟨h,_⟩<;>omega))),ho1,hn,hB2'⟩
     case measure=>simp[intOf];omega
  ·have hse:s=M:=by omega
   subst hse
   have hoO:o=O:=hf.out.symm.trans HO.out
   subst hoO
   go_wp2
   go_ret2
   exact⟨_,rfl,ho,hn.out,hB⟩
theorem blF (m:Nat) (hm:m<=8) (is:Nat->Bool) (b0:Nat) (w:World) (hT:lZ w)
  (hp:∀ s:Nat,s<2^m->∀ W,Below w.heap.size w W->Calls Tryd.prog 93 #[.int .u64 s,.pointer (some ⟨b0,0,none⟩)] W fun e W'=>e=.returned (.bool (is s))/\Below W.heap.size W W'):
  Calls Tryd.prog 73 #[.int .i64 m,.func (.func 93) #[] #[.pointer (some ⟨b0,0,none⟩)]] w fun e w'=>∃ v,e=.returned (.tuple #[v,.bool (pR is iQ (2^m)).isSome])/\eH w' w.heap.size v ((pR is iQ (2^m)).getD [])/\((pR is iQ (2^m)).getD []=[]->v=.slice none 0 0)/\Below w.heap.size w w':=by
 obtain⟨M,hM⟩:∃ M,2^m=M:=⟨_,rfl⟩
 have hM8:M<=256:=by rw[<-hM];exact Nat.le_trans (Nat.pow_le_pow_right (by decide) hm) (by decide)
 have hwr:IntKind.u64.wrap (2^m)=((M:Nat):Int):=by
  rw[show((2:Int)^m)=((2^m:Nat):Int) by simp,hM]
  exact aE4 M (by omega)
 rw[hM]at hp ⊢
 have hq:=Lib.hid hp
 clear hp hM
 obtain⟨O,hO⟩:∃ O,pR is iQ M=O:=⟨_,rfl⟩
 have HO:=Lib.hid hO
 rw[hO]
 clear hO
 go_enter Tryd.func73,Tryd.ntmps73
 go_wp2
 clear hwr
 go_loopw [4,5,10] (fun bv okv iv w'=>∃ (s:Nat) (o:Option (List Int)),s<=M/\iv=.int .u64 s/\okv=.bool o.isSome/\Hid (pR is iQ s=o)/\eH w' w.heap.size bv (o.getD [])/\Hid (o.getD []=[]->bv=.slice none 0 0)/\Below w.heap.size w w') (fun _ _ iv _=>M - (intOf iv).toNat)
 case atStart=>exact⟨0,none,Nat.zero_le _,rfl,rfl,Lib.hid rfl,World.ownsRow_nil _ _ _ _,Lib.hid (fun _=>rfl),Below.refl _ _⟩
 case round=>
  obtain⟨s,o,hs,rfl,rfl,hf,ho,hn,hB⟩:=hrel
  by_cases hlt:s<M
  ·have hl:=Lib.hid (awX s (by omega) wr (hT.below hB))
   have hcall:=Lib.hid (hq.out s hlt)
   obtain⟨A,c,rfl⟩:=ho.slice
   go_wp2_with fail
   refine hl.out.mono ?_
   rintro e w2 ⟨v2,rfl,ho2,hn2,hB2⟩
   obtain⟨A2,c2,rfl⟩:=ho2.slice
   have hB2':Below w.heap.size w w2:=hB.trans (hB2.mono hB.size)
   have ho1:eH w2 w.heap.size (.slice A (o.getD []).length c) (o.getD []):=ho.below' hB2
   have wG:eH w2 w.heap.size (.slice A2 (iQ s).length c2) (iQ s):=ho2.lower (by have:=hB.size;omega)
   obtain⟨il,hil⟩:∃ il,iQ s=il:=⟨_,rfl⟩
   have ab8:Hid (il=[]->Value.slice A2 il.length c2=.slice none 0 0):=Lib.hid (fun e=>by
    rw[hil]at hn2
    exact hn2 (aM4 s (by omega) (hil.trans e)))
   have Hil:=Lib.hid hil
   rw[hil]at wG ho2 ⊢
   obtain⟨b,hb⟩:∃ b,is s=b:=⟨_,rfl⟩
   have Hb:=Lib.hid hb
   have hf2:Hid (pR is iQ (s+1)=arM o il b):=Lib.hid (by rw[aM5,hil,hb,hf.out])
   rw[hb]at hcall
   clear hn2 ho hB hB2 ho2 hl hil hb
   have ab9:=hcall
   have hcall:=ab9.out _ hB2'
   have aYR:il.length<=8:=by rw[<-Hil.out];exact agA s (by omega)
   cases o with
   |none=>
    go_wp2_with fail
    refine hcall.mono ?_
    rintro e w3 ⟨rfl,hB3⟩
    have zT:Below w.heap.size w w3:=hB2'.trans (hB3.mono hB2'.size)
    have ho3:=wG.below' hB3
    have SC:=ho1.below' hB3
    clear ho1 wG hB2' hB3 hcall
    cases b with
    |false=>
     go_wp2
     go_roundw
     case rel=>exact⟨s+1,none,by omega,by go_num,rfl,hf2,SC,hn,zT⟩
     case measure=>simp[intOf];omega
    |true=>
     go_wp2
     go_roundw
     case rel=>exact⟨s+1,some il,by omega,by go_num,rfl,hf2,ho3,ab8,zT⟩
     case measure=>simp[intOf];omega
   |some bl=>
    have e1:(some bl).getD []=bl:=rfl
    simp only[Option.getD_some,Option.isSome_some]at ho1 hn ⊢
    have aYS:bl.length<=8:=by
     obtain⟨s',h1,_,h2,_⟩:=aMY _ _ _ _ hf.out
     rw[h2]
     exact agA s' (by omega)
    have axC:(il.length<bl.length∨(il.length=bl.length/\lexB bl il=false))∨(bl.length<il.length∨(il.length=bl.length/\lexB bl il=true)):=by
     rcases Nat.lt_trichotomy il.length bl.length with h|h|h
     ·exact .inl (.inl h)
     ·cases hx:lexB bl il
      ·exact .inl (.inr ⟨h,rfl⟩)
      ·exact .inr (.inr ⟨h,rfl⟩)
     ·exact .inr (.inl h)
    have hres:Hid (pR is iQ (s+1)=(if(il.length<bl.length∨(il.length=bl.length/\lexB bl il=false))/\b=true then some il else some bl)):=Lib.hid (hf2.out.trans (aM6 il bl b))
    clear axC
    rcases Nat.lt_trichotomy il.length bl.length with hlt2|heq|hgt
    ·have hd1:decide (bl.length<il.length)=false:=decide_eq_false (by omega)
     have hd2:(il.length==bl.length)=false:=by simp;omega
     go_wp2_with fail
     refine hcall.mono ?_
     rintro e w3 ⟨rfl,hB3⟩
     have zT:Below w.heap.size w w3:=hB2'.trans (hB3.mono hB2'.size)
     have ho3:=wG.below' hB3
     have SC:=ho1.below' hB3
     clear ho1 wG hB2' hB3 hcall
     cases b with
     |false=>
      go_wp2
      go_roundw
      case rel=>exact⟨s+1,some bl,by omega,by go_num,rfl,Lib.hid (hres.out.trans (if_neg (by simp))),SC,hn,zT⟩
      case measure=>simp[intOf];omega
     |true=>
      go_wp2
      go_roundw
      case rel=>exact⟨s+1,some il,by omega,by go_num,rfl,Lib.hid (hres.out.trans (if_pos (by simp[hlt2]))),ho3,ab8,zT⟩
      case measure=>simp[intOf];omega
    ·have hd1:decide (bl.length<il.length)=false:=decide_eq_false (by omega)
     have hd2:(il.length==bl.length)=true:=by simp[heq]
     have aiL:((il.length:Int)==(bl.length:Int))=true:=by simp[heq]
     have hlx:=aE2 il bl heq
     have uQ:=ho1.C
     have hC2:=wG.C
     obtain⟨r,hr⟩:∃ r,cmpL il bl=r:=⟨_,rfl⟩
     have hcmp:=Lib.hid (aE3 _ c2 il _ c bl w2 hC2 wG.cap.1 uQ ho1.cap.1 (by omega))
     rw[hr]at hcmp hlx
     have Hlx:=Lib.hid hlx.1
     have Heq:=Lib.hid heq
     clear hr hlx heq hcall
     by_cases hr0:0<r
     ·have hx:=Lib.hid (Hlx.out.1 hr0)
      have hd3:decide (0<r)=true:=decide_eq_true hr0
      go_wp2_with fail
      refine hcmp.out.mono ?_
      rintro e wd ⟨rfl,hd⟩
      have hbd:=hd.below
      have XN:=ho1.below' hbd
      have MZ:Below w.heap.size w wd:=hB2'.trans (hbd.mono hB2'.size)
      clear ho1 wG hB2' hcmp hd hbd hd1 hd2 aiL
      go_wp2
      go_roundw
      case rel=>exact⟨s+1,some bl,by omega,by go_num,rfl,Lib.hid (hres.out.trans (if_neg (by simp[Heq.out,hx.out]))),XN,hn,MZ⟩
      case measure=>simp[intOf];omega
     ·have hd3:decide (0<r)=false:=decide_eq_false hr0
      have hx:Hid (lexB bl il=false):=Lib.hid (by rw[Bool.eq_false_iff];exact fun h=>hr0 (Hlx.out.2 h))
      go_wp2_with fail
      refine hcmp.out.mono ?_
      rintro e wd ⟨rfl,hd⟩
      have hbd:=hd.below
      have aiO:=wG.below' hbd
      have XN:=ho1.below' hbd
      have MZ:Below w.heap.size w wd:=hB2'.trans (hbd.mono hB2'.size)
      have aiP:=ab9.out _ MZ
      clear ho1 wG hB2' hcmp hd hbd ab9 hd1 hd2 aiL
      go_wp2_with fail
      refine aiP.mono ?_
      rintro e w3 ⟨rfl,hB3⟩
      have zT:Below w.heap.size w w3:=MZ.trans (hB3.mono MZ.size)
      have ho3:=aiO.below' hB3
      have SC:=XN.below' hB3
      clear XN aiO MZ hB3 aiP
      cases b with
      |false=>
       go_wp2
       go_roundw
       case rel=>exact⟨s+1,some bl,by omega,by go_num,rfl,Lib.hid (hres.out.trans (if_neg (by simp))),SC,hn,zT⟩
       case measure=>simp[intOf];omega
      |true=>
       go_wp2
       go_roundw
       case rel=>exact⟨s+1,some il,by omega,by go_num,rfl,Lib.hid (hres.out.trans (if_pos (by simp[Heq.out,hx.out]))),ho3,ab8,zT⟩
       case measure=>simp[intOf];omega
    ·have hd1:decide (bl.length<il.length)=true:=decide_eq_true hgt
     go_wp2
     go_roundw
     case rel=>exact⟨s+1,some bl,by omega,by go_num,rfl,Lib.hid (hres.out.trans (if_neg (by intro h;rcases h.1 with h|⟨h,_⟩<;>omega))),ho1,hn,hB2'⟩
     case measure=>simp[intOf];omega
  ·have hse:s=M:=by omega
   subst hse
   have hoO:o=O:=hf.out.symm.trans HO.out
   subst hoO
   go_wp2
   go_ret2
   exact⟨_,rfl,ho,hn.out,hB⟩
end Go.Proofs.YtcmfnebcmmklkaaDoor.Hand
