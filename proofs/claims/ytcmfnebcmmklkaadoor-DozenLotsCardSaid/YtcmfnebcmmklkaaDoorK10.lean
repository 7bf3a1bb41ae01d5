/- What the laws of chapter 9 share: words about rows and regions, the walks of the package dozen, and that known returns true. Part 10 of 16. -/
import Derived.Test.YtcmfnebcmmklkaaDoorK4
import Derived.Test.YtcmfnebcmmklkaaDoorK6
import Derived.Maps.AppendAt
set_option linter.unusedVariables false
set_option linter.unusedSimpArgs false
set_option maxRecDepth 100000
set_option maxHeartbeats 8000000
namespace Go.Proofs.YtcmfnebcmmklkaaDoor.Hand
open Go.RowKit Go.Proofs.YtcmfnebcmmklkaaDoorW.dQ Go.Proofs.YtcmfnebcmmklkaaDoor.Q
structure pU where
 l:aH
 r:aH
 t:aH
 off:Int
def BX (R:pU) (cs:List gQ) (most:Int):Int:=
 if(agB R.l&&agB R.r&&agB R.t&&allIn 0 20 [R.off])=true then
  (if 5<cs.length then 5 else if(decide (cs.length=0)||cs.any (fun x=> !aiQ x))=true then 2 else if allIn 0 2 [most]=true then 0 else 3)else 4
abbrev aeI (R:pU):Value:=.agg #[.int .i64 R.l.f0,.int .i64 R.l.f1,.int .i64 R.r.f0,.int .i64 R.r.f1,.int .i64 R.t.f0,.int .i64 R.t.f1,.int .i64 R.off]
def XO (R:pU) (A:Option Addr) (n cp:Nat) (most:Int) (e:Int):Value:=
 if e=0 then .agg #[.int .i64 R.l.f0,.int .i64 R.l.f1,.int .i64 R.r.f0,.int .i64 R.r.f1,.int .i64 R.t.f0,.int .i64 R.t.f1,.int .i64 R.off,.slice A n cp,.int .i64 most]
 else .agg #[.int .i64 0,.int .i64 0,.int .i64 0,.int .i64 0,.int .i64 0,.int .i64 0,.int .i64 0,.slice none 0 0,.int .i64 0]
theorem aM9 (R:pU) (cs:List gQ) (most:Int) (A:Option Addr) (cp:Nat) (w:World) (hr:Kd.C vC w A cs.length cs):
  Calls Tryd.prog 92 #[aeI R,.slice A cs.length cp,.int .i64 most] w fun e w'=>e=.returned (.tuple #[XO R A cs.length cp most (BX R cs most),.int .i64 (BX R cs most)])/\Below w.heap.size w w':=by
 have hm1:=hr.2.1
 obtain⟨c1,b1⟩:∃ c,agB R.l=c:=⟨_,rfl⟩
 obtain⟨c2,b2⟩:∃ c,agB R.r=c:=⟨_,rfl⟩
 obtain⟨c3,b3⟩:∃ c,agB R.t=c:=⟨_,rfl⟩
 obtain⟨c4,b4⟩:∃ c,allIn 0 20 [R.off]=c:=⟨_,rfl⟩
 obtain⟨c5,b5'⟩:∃ c,cs.any (fun x=> !aiQ x)=c:=⟨_,rfl⟩
 obtain⟨c6,b6⟩:∃ c,allIn 0 2 [most]=c:=⟨_,rfl⟩
 have hs:BX R cs most=if(c1&&c2&&c3&&c4)=true then(if 5<cs.length then 5 else if(decide (cs.length=0)||c5)=true then 2 else if c6=true then 0 else 3)else 4:=by rw[<-b1,<-b2,<-b3,<-b4,<-b5',<-b6];rfl
 have b5:=Lib.hid b5'
 clear b5'
 rw[hs]
 clear hs
 have hl:True:=trivial
 cases c1
 ·go_enter Tryd.func92,Tryd.ntmps92
  go_wp2_with fail
  refine(BV R.l _).mono ?_
  rintro e w1 ⟨rfl,hb1⟩
  rw[b1]
  have bx1:Box w1 w.heap.size _ 53:=((Box.new w _ _).alloc _).step hb1
  have wB:Box w1 (w.heap.size+1) #[.int .i64 0,.int .i64 0,.int .i64 0,.int .i64 0,.int .i64 0,.int .i64 0,.int .i64 0,.slice none 0 0,.int .i64 0] 141:=(Box.new' _ _ _ (by simp)).step hb1
  have hB1:Below w.heap.size w w1:=(((Below.refl _ _).alloc (Nat.le_refl _) _).alloc (by simp) _).trans (hb1.mono (by simp;omega))
  clear hb1
  have z0:w1.cell? ⟨w.heap.size+1,0,none⟩=some (.int .i64 0):=wB.cell 0 rfl
  have z1:w1.cell? ⟨w.heap.size+1,1,none⟩=some (.int .i64 0):=wB.cell 1 rfl
  have z2:w1.cell? ⟨w.heap.size+1,2,none⟩=some (.int .i64 0):=wB.cell 2 rfl
  have z3:w1.cell? ⟨w.heap.size+1,3,none⟩=some (.int .i64 0):=wB.cell 3 rfl
  have z4:w1.cell? ⟨w.heap.size+1,4,none⟩=some (.int .i64 0):=wB.cell 4 rfl
  have z5:w1.cell? ⟨w.heap.size+1,5,none⟩=some (.int .i64 0):=wB.cell 5 rfl
  have z6:w1.cell? ⟨w.heap.size+1,6,none⟩=some (.int .i64 0):=wB.cell 6 rfl
  have z7:w1.cell? ⟨w.heap.size+1,7,none⟩=some (.slice none 0 0):=wB.cell 7 rfl
  have z8:w1.cell? ⟨w.heap.size+1,8,none⟩=some (.int .i64 0):=wB.cell 8 rfl
  have hfz:∀ i,w1.frozen? ⟨w.heap.size+1,i,none⟩=false:=fun i=>wB.frozen i
  go_wp2
  refine bodyPost_ret (v:=.tuple #[.agg #[.int .i64 0,.int .i64 0,.int .i64 0,.int .i64 0,.int .i64 0,.int .i64 0,.int .i64 0,.slice none 0 0,.int .i64 0],.int .i64 4]) (by simp[results,Tryd.results92,go_sem,z0,z1,z2,z3,z4,z5,z6,z7,z8]) rfl ⟨by first|rfl|simp[hl],?_⟩
  repeat(refine Below.setCell ?_ (by simp) _)
  exact hB1
 ·cases c2
  ·go_enter Tryd.func92,Tryd.ntmps92
   go_wp2_with fail
   refine(BV R.l _).mono ?_
   rintro e w1 ⟨rfl,hb1⟩
   rw[b1]
   have bx1:Box w1 w.heap.size _ 53:=((Box.new w _ _).alloc _).step hb1
   have wB:Box w1 (w.heap.size+1) #[.int .i64 0,.int .i64 0,.int .i64 0,.int .i64 0,.int .i64 0,.int .i64 0,.int .i64 0,.slice none 0 0,.int .i64 0] 141:=(Box.new' _ _ _ (by simp)).step hb1
   have hB1:Below w.heap.size w w1:=(((Below.refl _ _).alloc (Nat.le_refl _) _).alloc (by simp) _).trans (hb1.mono (by simp;omega))
   clear hb1
   have k1:=bx1.cell 2 rfl
   have k2:=bx1.cell 3 rfl
   go_wp2_with fail
   refine(BV R.r _).mono ?_
   rintro e w2 ⟨rfl,hb2⟩
   rw[b2]
   have qL:=bx1.step hb2
   have wW:=wB.step hb2
   have hB2:Below w.heap.size w w2:=hB1.trans (hb2.mono hB1.size)
   clear hb2 hB1 k1 k2 bx1 wB
   have z0:w2.cell? ⟨w.heap.size+1,0,none⟩=some (.int .i64 0):=wW.cell 0 rfl
   have z1:w2.cell? ⟨w.heap.size+1,1,none⟩=some (.int .i64 0):=wW.cell 1 rfl
   have z2:w2.cell? ⟨w.heap.size+1,2,none⟩=some (.int .i64 0):=wW.cell 2 rfl
   have z3:w2.cell? ⟨w.heap.size+1,3,none⟩=some (.int .i64 0):=wW.cell 3 rfl
   have z4:w2.cell? ⟨w.heap.size+1,4,none⟩=some (.int .i64 0):=wW.cell 4 rfl
   have z5:w2.cell? ⟨w.heap.size+1,5,none⟩=some (.int .i64 0):=wW.cell 5 rfl
   have z6:w2.cell? ⟨w.heap.size+1,6,none⟩=some (.int .i64 0):=wW.cell 6 rfl
   have z7:w2.cell? ⟨w.heap.size+1,7,none⟩=some (.slice none 0 0):=wW.cell 7 rfl
   have z8:w2.cell? ⟨w.heap.size+1,8,none⟩=some (.int .i64 0):=wW.cell 8 rfl
   have hfz:∀ i,w2.frozen? ⟨w.heap.size+1,i,none⟩=false:=fun i=>wW.frozen i
   go_wp2
   refine bodyPost_ret (v:=.tuple #[.agg #[.int .i64 0,.int .i64 0,.int .i64 0,.int .i64 0,.int .i64 0,.int .i64 0,.int .i64 0,.slice none 0 0,.int .i64 0],.int .i64 4]) (by simp[results,Tryd.results92,go_sem,z0,z1,z2,z3,z4,z5,z6,z7,z8]) rfl ⟨by first|rfl|simp[hl],?_⟩
   repeat(refine Below.setCell ?_ (by simp) _)
   exact hB2
  ·cases c3
   ·go_enter Tryd.func92,Tryd.ntmps92
    go_wp2_with fail
    refine(BV R.l _).mono ?_
    rintro e w1 ⟨rfl,hb1⟩
    rw[b1]
    have bx1:Box w1 w.heap.size _ 53:=((Box.new w _ _).alloc _).step hb1
    have wB:Box w1 (w.heap.size+1) #[.int .i64 0,.int .i64 0,.int .i64 0,.int .i64 0,.int .i64 0,.int .i64 0,.int .i64 0,.slice none 0 0,.int .i64 0] 141:=(Box.new' _ _ _ (by simp)).step hb1
    have hB1:Below w.heap.size w w1:=(((Below.refl _ _).alloc (Nat.le_refl _) _).alloc (by simp) _).trans (hb1.mono (by simp;omega))
    clear hb1
    have k1:=bx1.cell 2 rfl
    have k2:=bx1.cell 3 rfl
    go_wp2_with fail
    refine(BV R.r _).mono ?_
    rintro e w2 ⟨rfl,hb2⟩
    rw[b2]
    have qL:=bx1.step hb2
    have wW:=wB.step hb2
    have hB2:Below w.heap.size w w2:=hB1.trans (hb2.mono hB1.size)
    clear hb2 hB1 k1 k2 bx1 wB
    have k1:=qL.cell 4 rfl
    have k2:=qL.cell 5 rfl
    go_wp2_with fail
    refine(BV R.t _).mono ?_
    rintro e w3 ⟨rfl,hb3⟩
    rw[b3]
    have BZ:=qL.step hb3
    have yK:=wW.step hb3
    have hB3:Below w.heap.size w w3:=hB2.trans (hb3.mono hB2.size)
    clear hb3 hB2 k1 k2 qL wW
    have z0:w3.cell? ⟨w.heap.size+1,0,none⟩=some (.int .i64 0):=yK.cell 0 rfl
    have z1:w3.cell? ⟨w.heap.size+1,1,none⟩=some (.int .i64 0):=yK.cell 1 rfl
    have z2:w3.cell? ⟨w.heap.size+1,2,none⟩=some (.int .i64 0):=yK.cell 2 rfl
    have z3:w3.cell? ⟨w.heap.size+1,3,none⟩=some (.int .i64 0):=yK.cell 3 rfl
    have z4:w3.cell? ⟨w.heap.size+1,4,none⟩=some (.int .i64 0):=yK.cell 4 rfl
    have z5:w3.cell? ⟨w.heap.size+1,5,none⟩=some (.int .i64 0):=yK.cell 5 rfl
    have z6:w3.cell? ⟨w.heap.size+1,6,none⟩=some (.int .i64 0):=yK.cell 6 rfl
    have z7:w3.cell? ⟨w.heap.size+1,7,none⟩=some (.slice none 0 0):=yK.cell 7 rfl
    have z8:w3.cell? ⟨w.heap.size+1,8,none⟩=some (.int .i64 0):=yK.cell 8 rfl
    have hfz:∀ i,w3.frozen? ⟨w.heap.size+1,i,none⟩=false:=fun i=>yK.frozen i
    go_wp2
    refine bodyPost_ret (v:=.tuple #[.agg #[.int .i64 0,.int .i64 0,.int .i64 0,.int .i64 0,.int .i64 0,.int .i64 0,.int .i64 0,.slice none 0 0,.int .i64 0],.int .i64 4]) (by simp[results,Tryd.results92,go_sem,z0,z1,z2,z3,z4,z5,z6,z7,z8]) rfl ⟨by first|rfl|simp[hl],?_⟩
    repeat(refine Below.setCell ?_ (by simp) _)
    exact hB3
   ·cases c4
    ·go_enter Tryd.func92,Tryd.ntmps92
     go_wp2_with fail
     refine(BV R.l _).mono ?_
     rintro e w1 ⟨rfl,hb1⟩
     rw[b1]
     have bx1:Box w1 w.heap.size _ 53:=((Box.new w _ _).alloc _).step hb1
     have wB:Box w1 (w.heap.size+1) #[.int .i64 0,.int .i64 0,.int .i64 0,.int .i64 0,.int .i64 0,.int .i64 0,.int .i64 0,.slice none 0 0,.int .i64 0] 141:=(Box.new' _ _ _ (by simp)).step hb1
     have hB1:Below w.heap.size w w1:=(((Below.refl _ _).alloc (Nat.le_refl _) _).alloc (by simp) _).trans (hb1.mono (by simp;omega))
     clear hb1
     have k1:=bx1.cell 2 rfl
     have k2:=bx1.cell 3 rfl
     go_wp2_with fail
     refine(BV R.r _).mono ?_
     rintro e w2 ⟨rfl,hb2⟩
     rw[b2]
     have qL:=bx1.step hb2
     have wW:=wB.step hb2
     have hB2:Below w.heap.size w w2:=hB1.trans (hb2.mono hB1.size)
     clear hb2 hB1 k1 k2 bx1 wB
     have k1:=qL.cell 4 rfl
     have k2:=qL.cell 5 rfl
     go_wp2_with fail
     refine(BV R.t _).mono ?_
     rintro e w3 ⟨rfl,hb3⟩
     rw[b3]
     have BZ:=qL.step hb3
     have yK:=wW.step hb3
     have hB3:Below w.heap.size w w3:=hB2.trans (hb3.mono hB2.size)
     clear hb3 hB2 k1 k2 qL wW
     have k1:=BZ.cell 6 rfl
     go_wp2_with fail
     refine(GK 0 20 [R.off] _ 1 _ (TY _ _ _ _ rfl)).mono ?_
     rintro e w4 ⟨rfl,hb4⟩
     rw[b4]
     have bx4:=(BZ.alloc _).step hb4
     have sH:=(yK.alloc _).step hb4
     have hB4:Below w.heap.size w w4:=hB3.trans (((Below.refl _ _).alloc hB3.size _).trans (hb4.mono (by have:=hB3.size;simp;omega)))
     clear hb4 hB3 k1 BZ yK
     have z0:w4.cell? ⟨w.heap.size+1,0,none⟩=some (.int .i64 0):=sH.cell 0 rfl
     have z1:w4.cell? ⟨w.heap.size+1,1,none⟩=some (.int .i64 0):=sH.cell 1 rfl
     have z2:w4.cell? ⟨w.heap.size+1,2,none⟩=some (.int .i64 0):=sH.cell 2 rfl
     have z3:w4.cell? ⟨w.heap.size+1,3,none⟩=some (.int .i64 0):=sH.cell 3 rfl
     have z4:w4.cell? ⟨w.heap.size+1,4,none⟩=some (.int .i64 0):=sH.cell 4 rfl
     have z5:w4.cell? ⟨w.heap.size+1,5,none⟩=some (.int .i64 0):=sH.cell 5 rfl
     have z6:w4.cell? ⟨w.heap.size+1,6,none⟩=some (.int .i64 0):=sH.cell 6 rfl
     have z7:w4.cell? ⟨w.heap.size+1,7,none⟩=some (.slice none 0 0):=sH.cell 7 rfl
     have z8:w4.cell? ⟨w.heap.size+1,8,none⟩=some (.int .i64 0):=sH.cell 8 rfl
     have hfz:∀ i,w4.frozen? ⟨w.heap.size+1,i,none⟩=false:=fun i=>sH.frozen i
     go_wp2
     refine bodyPost_ret (v:=.tuple #[.agg #[.int .i64 0,.int .i64 0,.int .i64 0,.int .i64 0,.int .i64 0,.int .i64 0,.int .i64 0,.slice none 0 0,.int .i64 0],.int .i64 4]) (by simp[results,Tryd.results92,go_sem,z0,z1,z2,z3,z4,z5,z6,z7,z8]) rfl ⟨by first|rfl|simp[hl],?_⟩
     repeat(refine Below.setCell ?_ (by simp) _)
     exact hB4
    ·clear hl
     by_cases hl:5<cs.length
     ·have hl1:decide (5<cs.length)=true:=decide_eq_true hl
      have hl2:decide (5<(cs.length:Int))=true:=decide_eq_true (by omega)
      go_enter Tryd.func92,Tryd.ntmps92
      go_wp2_with fail
      refine(BV R.l _).mono ?_
      rintro e w1 ⟨rfl,hb1⟩
      rw[b1]
      have bx1:Box w1 w.heap.size _ 53:=((Box.new w _ _).alloc _).step hb1
      have wB:Box w1 (w.heap.size+1) #[.int .i64 0,.int .i64 0,.int .i64 0,.int .i64 0,.int .i64 0,.int .i64 0,.int .i64 0,.slice none 0 0,.int .i64 0] 141:=(Box.new' _ _ _ (by simp)).step hb1
      have hB1:Below w.heap.size w w1:=(((Below.refl _ _).alloc (Nat.le_refl _) _).alloc (by simp) _).trans (hb1.mono (by simp;omega))
      clear hb1
      have k1:=bx1.cell 2 rfl
      have k2:=bx1.cell 3 rfl
      go_wp2_with fail
      refine(BV R.r _).mono ?_
      rintro e w2 ⟨rfl,hb2⟩
      rw[b2]
      have qL:=bx1.step hb2
      have wW:=wB.step hb2
      have hB2:Below w.heap.size w w2:=hB1.trans (hb2.mono hB1.size)
      clear hb2 hB1 k1 k2 bx1 wB
      have k1:=qL.cell 4 rfl
      have k2:=qL.cell 5 rfl
      go_wp2_with fail
      refine(BV R.t _).mono ?_
      rintro e w3 ⟨rfl,hb3⟩
      rw[b3]
      have BZ:=qL.step hb3
      have yK:=wW.step hb3
      have hB3:Below w.heap.size w w3:=hB2.trans (hb3.mono hB2.size)
      clear hb3 hB2 k1 k2 qL wW
      have k1:=BZ.cell 6 rfl
      go_wp2_with fail
      refine(GK 0 20 [R.off] _ 1 _ (TY _ _ _ _ rfl)).mono ?_
      rintro e w4 ⟨rfl,hb4⟩
      rw[b4]
      have bx4:=(BZ.alloc _).step hb4
      have sH:=(yK.alloc _).step hb4
      have hB4:Below w.heap.size w w4:=hB3.trans (((Below.refl _ _).alloc hB3.size _).trans (hb4.mono (by have:=hB3.size;simp;omega)))
      clear hb4 hB3 k1 BZ yK
      have z0:w4.cell? ⟨w.heap.size+1,0,none⟩=some (.int .i64 0):=sH.cell 0 rfl
      have z1:w4.cell? ⟨w.heap.size+1,1,none⟩=some (.int .i64 0):=sH.cell 1 rfl
      have z2:w4.cell? ⟨w.heap.size+1,2,none⟩=some (.int .i64 0):=sH.cell 2 rfl
      have z3:w4.cell? ⟨w.heap.size+1,3,none⟩=some (.int .i64 0):=sH.cell 3 rfl
      have z4:w4.cell? ⟨w.heap.size+1,4,none⟩=some (.int .i64 0):=sH.cell 4 rfl
      have z5:w4.cell? ⟨w.heap.size+1,5,none⟩=some (.int .i64 0):=sH.cell 5 rfl
      have z6:w4.cell? ⟨w.heap.size+1,6,none⟩=some (.int .i64 0):=sH.cell 6 rfl
      have z7:w4.cell? ⟨w.heap.size+1,7,none⟩=some (.slice none 0 0):=sH.cell 7 rfl
      have z8:w4.cell? ⟨w.heap.size+1,8,none⟩=some (.int .i64 0):=sH.cell 8 rfl
      have hfz:∀ i,w4.frozen? ⟨w.heap.size+1,i,none⟩=false:=fun i=>sH.frozen i
      go_wp2
      refine bodyPost_ret (v:=.tuple #[.agg #[.int .i64 0,.int .i64 0,.int .i64 0,.int .i64 0,.int .i64 0,.int .i64 0,.int .i64 0,.slice none 0 0,.int .i64 0],.int .i64 5]) (by simp[results,Tryd.results92,go_sem,z0,z1,z2,z3,z4,z5,z6,z7,z8]) rfl ⟨by first|rfl|simp[hl],?_⟩
      repeat(refine Below.setCell ?_ (by simp) _)
      exact hB4
     ·have hl1:decide (5<cs.length)=false:=decide_eq_false hl
      have hl2:decide (5<(cs.length:Int))=false:=decide_eq_false (by omega)
      by_cases hz:cs.length=0
      ·obtain rfl:cs=[]:=List.length_eq_zero_iff.1 hz
       clear hz hl1 hl2
       go_enter Tryd.func92,Tryd.ntmps92
       go_wp2_with fail
       refine(BV R.l _).mono ?_
       rintro e w1 ⟨rfl,hb1⟩
       rw[b1]
       have bx1:Box w1 w.heap.size _ 53:=((Box.new w _ _).alloc _).step hb1
       have wB:Box w1 (w.heap.size+1) #[.int .i64 0,.int .i64 0,.int .i64 0,.int .i64 0,.int .i64 0,.int .i64 0,.int .i64 0,.slice none 0 0,.int .i64 0] 141:=(Box.new' _ _ _ (by simp)).step hb1
       have hB1:Below w.heap.size w w1:=(((Below.refl _ _).alloc (Nat.le_refl _) _).alloc (by simp) _).trans (hb1.mono (by simp;omega))
       clear hb1
       have k1:=bx1.cell 2 rfl
       have k2:=bx1.cell 3 rfl
       go_wp2_with fail
       refine(BV R.r _).mono ?_
       rintro e w2 ⟨rfl,hb2⟩
       rw[b2]
       have qL:=bx1.step hb2
       have wW:=wB.step hb2
       have hB2:Below w.heap.size w w2:=hB1.trans (hb2.mono hB1.size)
       clear hb2 hB1 k1 k2 bx1 wB
       have k1:=qL.cell 4 rfl
       have k2:=qL.cell 5 rfl
       go_wp2_with fail
       refine(BV R.t _).mono ?_
       rintro e w3 ⟨rfl,hb3⟩
       rw[b3]
       have BZ:=qL.step hb3
       have yK:=wW.step hb3
       have hB3:Below w.heap.size w w3:=hB2.trans (hb3.mono hB2.size)
       clear hb3 hB2 k1 k2 qL wW
       have k1:=BZ.cell 6 rfl
       go_wp2_with fail
       refine(GK 0 20 [R.off] _ 1 _ (TY _ _ _ _ rfl)).mono ?_
       rintro e w4 ⟨rfl,hb4⟩
       rw[b4]
       have bx4:=(BZ.alloc _).step hb4
       have sH:=(yK.alloc _).step hb4
       have hB4:Below w.heap.size w w4:=hB3.trans (((Below.refl _ _).alloc hB3.size _).trans (hb4.mono (by have:=hB3.size;simp;omega)))
       clear hb4 hB3 k1 BZ yK
       have z0:w4.cell? ⟨w.heap.size+1,0,none⟩=some (.int .i64 0):=sH.cell 0 rfl
       have z1:w4.cell? ⟨w.heap.size+1,1,none⟩=some (.int .i64 0):=sH.cell 1 rfl
       have z2:w4.cell? ⟨w.heap.size+1,2,none⟩=some (.int .i64 0):=sH.cell 2 rfl
       have z3:w4.cell? ⟨w.heap.size+1,3,none⟩=some (.int .i64 0):=sH.cell 3 rfl
       have z4:w4.cell? ⟨w.heap.size+1,4,none⟩=some (.int .i64 0):=sH.cell 4 rfl
       have z5:w4.cell? ⟨w.heap.size+1,5,none⟩=some (.int .i64 0):=sH.cell 5 rfl
       have z6:w4.cell? ⟨w.heap.size+1,6,none⟩=some (.int .i64 0):=sH.cell 6 rfl
       have z7:w4.cell? ⟨w.heap.size+1,7,none⟩=some (.slice none 0 0):=sH.cell 7 rfl
       have z8:w4.cell? ⟨w.heap.size+1,8,none⟩=some (.int .i64 0):=sH.cell 8 rfl
       have hfz:∀ i,w4.frozen? ⟨w.heap.size+1,i,none⟩=false:=fun i=>sH.frozen i
       go_wp2
       refine bodyPost_ret (v:=.tuple #[.agg #[.int .i64 0,.int .i64 0,.int .i64 0,.int .i64 0,.int .i64 0,.int .i64 0,.int .i64 0,.slice none 0 0,.int .i64 0],.int .i64 2]) (by simp[results,Tryd.results92,go_sem,z0,z1,z2,z3,z4,z5,z6,z7,z8]) rfl ⟨by simp[XO],?_⟩
       repeat(refine Below.setCell ?_ (by simp) _)
       exact hB4
      ·have hz1:((cs.length:Int)==0)=false:=by simp;intro h;exact hz (by rw[h];rfl)
       have Hz:=Lib.hid hz
       cases c5
       ·cases c6
        ·go_enter Tryd.func92,Tryd.ntmps92
         go_wp2_with fail
         refine(BV R.l _).mono ?_
         rintro e w1 ⟨rfl,hb1⟩
         rw[b1]
         have bx1:Box w1 w.heap.size _ 53:=((Box.new w _ _).alloc _).step hb1
         have wB:Box w1 (w.heap.size+1) #[.int .i64 0,.int .i64 0,.int .i64 0,.int .i64 0,.int .i64 0,.int .i64 0,.int .i64 0,.slice none 0 0,.int .i64 0] 141:=(Box.new' _ _ _ (by simp)).step hb1
         have hB1:Below w.heap.size w w1:=(((Below.refl _ _).alloc (Nat.le_refl _) _).alloc (by simp) _).trans (hb1.mono (by simp;omega))
         clear hb1
         have k1:=bx1.cell 2 rfl
         have k2:=bx1.cell 3 rfl
         go_wp2_with fail
         refine(BV R.r _).mono ?_
         rintro e w2 ⟨rfl,hb2⟩
         rw[b2]
         have qL:=bx1.step hb2
         have wW:=wB.step hb2
         have hB2:Below w.heap.size w w2:=hB1.trans (hb2.mono hB1.size)
         clear hb2 hB1 k1 k2 bx1 wB
         have k1:=qL.cell 4 rfl
         have k2:=qL.cell 5 rfl
         go_wp2_with fail
         refine(BV R.t _).mono ?_
         rintro e w3 ⟨rfl,hb3⟩
         rw[b3]
         have BZ:=qL.step hb3
         have yK:=wW.step hb3
         have hB3:Below w.heap.size w w3:=hB2.trans (hb3.mono hB2.size)
         clear hb3 hB2 k1 k2 qL wW
         have k1:=BZ.cell 6 rfl
         go_wp2_with fail
         refine(GK 0 20 [R.off] _ 1 _ (TY _ _ _ _ rfl)).mono ?_
         rintro e w4 ⟨rfl,hb4⟩
         rw[b4]
         have bx4:=(BZ.alloc _).step hb4
         have sH:=(yK.alloc _).step hb4
         have hB4:Below w.heap.size w w4:=hB3.trans (((Below.refl _ _).alloc hB3.size _).trans (hb4.mono (by have:=hB3.size;simp;omega)))
         clear hb4 hB3 k1 BZ yK
         go_wp2_with fail
         refine(aM7 (fun x=> !aiQ x) cs A cp _ (Kd.bJ hr hB4) (fun x _ W _=>aM8 x W)).mono ?_
         rintro e w5 ⟨rfl,hb5⟩
         rw[b5.out]
         have bx5:=bx4.step hb5
         have UJ:=sH.step hb5
         have wX:Below w.heap.size w w5:=hB4.trans (hb5.mono hB4.size)
         clear hb5 hB4 bx4 sH
         go_wp2_with fail
         refine(GK 0 2 [most] _ 1 _ (TY _ _ _ _ rfl)).mono ?_
         rintro e w6 ⟨rfl,hb6⟩
         rw[b6]
         have ZE:=(bx5.alloc _).step hb6
         have HY:=(UJ.alloc _).step hb6
         have hB6:Below w.heap.size w w6:=wX.trans (((Below.refl _ _).alloc wX.size _).trans (hb6.mono (by have:=wX.size;simp;omega)))
         clear hb6 wX  bx5 UJ
         have z0:w6.cell? ⟨w.heap.size+1,0,none⟩=some (.int .i64 0):=HY.cell 0 rfl
         have z1:w6.cell? ⟨w.heap.size+1,1,none⟩=some (.int .i64 0):=HY.cell 1 rfl
         have z2:w6.cell? ⟨w.heap.size+1,2,none⟩=some (.int .i64 0):=HY.cell 2 rfl
         have z3:w6.cell? ⟨w.heap.size+1,3,none⟩=some (.int .i64 0):=HY.cell 3 rfl
         have z4:w6.cell? ⟨w.heap.size+1,4,none⟩=some (.int .i64 0):=HY.cell 4 rfl
         have z5:w6.cell? ⟨w.heap.size+1,5,none⟩=some (.int .i64 0):=HY.cell 5 rfl
         have z6:w6.cell? ⟨w.heap.size+1,6,none⟩=some (.int .i64 0):=HY.cell 6 rfl
         have z7:w6.cell? ⟨w.heap.size+1,7,none⟩=some (.slice none 0 0):=HY.cell 7 rfl
         have z8:w6.cell? ⟨w.heap.size+1,8,none⟩=some (.int .i64 0):=HY.cell 8 rfl
         have hfz:∀ i,w6.frozen? ⟨w.heap.size+1,i,none⟩=false:=fun i=>HY.frozen i
         go_wp2
         refine bodyPost_ret (v:=.tuple #[.agg #[.int .i64 0,.int .i64 0,.int .i64 0,.int .i64 0,.int .i64 0,.int .i64 0,.int .i64 0,.slice none 0 0,.int .i64 0],.int .i64 3]) (by simp[results,Tryd.results92,go_sem,z0,z1,z2,z3,z4,z5,z6,z7,z8]) rfl ⟨by simp[hl,hz,XO],?_⟩
         repeat(refine Below.setCell ?_ (by simp) _)
         exact hB6
        ·go_enter Tryd.func92,Tryd.ntmps92
         go_wp2_with fail
         refine(BV R.l _).mono ?_
         rintro e w1 ⟨rfl,hb1⟩
         rw[b1]
         have bx1:Box w1 w.heap.size _ 53:=((Box.new w _ _).alloc _).step hb1
         have wB:Box w1 (w.heap.size+1) #[.int .i64 0,.int .i64 0,.int .i64 0,.int .i64 0,.int .i64 0,.int .i64 0,.int .i64 0,.slice none 0 0,.int .i64 0] 141:=(Box.new' _ _ _ (by simp)).step hb1
         have hB1:Below w.heap.size w w1:=(((Below.refl _ _).alloc (Nat.le_refl _) _).alloc (by simp) _).trans (hb1.mono (by simp;omega))
         clear hb1
         have k1:=bx1.cell 2 rfl
         have k2:=bx1.cell 3 rfl
         go_wp2_with fail
         refine(BV R.r _).mono ?_
         rintro e w2 ⟨rfl,hb2⟩
         rw[b2]
         have qL:=bx1.step hb2
         have wW:=wB.step hb2
         have hB2:Below w.heap.size w w2:=hB1.trans (hb2.mono hB1.size)
         clear hb2 hB1 k1 k2 bx1 wB
         have k1:=qL.cell 4 rfl
         have k2:=qL.cell 5 rfl
         go_wp2_with fail
         refine(BV R.t _).mono ?_
         rintro e w3 ⟨rfl,hb3⟩
         rw[b3]
         have BZ:=qL.step hb3
         have yK:=wW.step hb3
         have hB3:Below w.heap.size w w3:=hB2.trans (hb3.mono hB2.size)
         clear hb3 hB2 k1 k2 qL wW
         have k1:=BZ.cell 6 rfl
         go_wp2_with fail
         refine(GK 0 20 [R.off] _ 1 _ (TY _ _ _ _ rfl)).mono ?_
         rintro e w4 ⟨rfl,hb4⟩
         rw[b4]
         have bx4:=(BZ.alloc _).step hb4
         have sH:=(yK.alloc _).step hb4
         have hB4:Below w.heap.size w w4:=hB3.trans (((Below.refl _ _).alloc hB3.size _).trans (hb4.mono (by have:=hB3.size;simp;omega)))
         clear hb4 hB3 k1 BZ yK
         go_wp2_with fail
         refine(aM7 (fun x=> !aiQ x) cs A cp _ (Kd.bJ hr hB4) (fun x _ W _=>aM8 x W)).mono ?_
         rintro e w5 ⟨rfl,hb5⟩
         rw[b5.out]
         have bx5:=bx4.step hb5
         have UJ:=sH.step hb5
         have wX:Below w.heap.size w w5:=hB4.trans (hb5.mono hB4.size)
         clear hb5 hB4 bx4 sH
         go_wp2_with fail
         refine(GK 0 2 [most] _ 1 _ (TY _ _ _ _ rfl)).mono ?_
         rintro e w6 ⟨rfl,hb6⟩
         rw[b6]
         have ZE:=(bx5.alloc _).step hb6
         have HY:=(UJ.alloc _).step hb6
         have hB6:Below w.heap.size w w6:=wX.trans (((Below.refl _ _).alloc wX.size _).trans (hb6.mono (by have:=wX.size;simp;omega)))
         clear hb6 wX  bx5 UJ
         have z0:w6.cell? ⟨w.heap.size+1,0,none⟩=some (.int .i64 0):=HY.cell 0 rfl
         have z1:w6.cell? ⟨w.heap.size+1,1,none⟩=some (.int .i64 0):=HY.cell 1 rfl
         have z2:w6.cell? ⟨w.heap.size+1,2,none⟩=some (.int .i64 0):=HY.cell 2 rfl
         have z3:w6.cell? ⟨w.heap.size+1,3,none⟩=some (.int .i64 0):=HY.cell 3 rfl
         have z4:w6.cell? ⟨w.heap.size+1,4,none⟩=some (.int .i64 0):=HY.cell 4 rfl
         have z5:w6.cell? ⟨w.heap.size+1,5,none⟩=some (.int .i64 0):=HY.cell 5 rfl
         have z6:w6.cell? ⟨w.heap.size+1,6,none⟩=some (.int .i64 0):=HY.cell 6 rfl
         have z7:w6.cell? ⟨w.heap.size+1,7,none⟩=some (.slice none 0 0):=HY.cell 7 rfl
         have z8:w6.cell? ⟨w.heap.size+1,8,none⟩=some (.int .i64 0):=HY.cell 8 rfl
         have hfz:∀ i,w6.frozen? ⟨w.heap.size+1,i,none⟩=false:=fun i=>HY.frozen i
         have r0:w6.cell? ⟨w.heap.size,0,none⟩=some (.int .i64 R.l.f0):=ZE.cell 0 rfl
         have r1:w6.cell? ⟨w.heap.size,1,none⟩=some (.int .i64 R.l.f1):=ZE.cell 1 rfl
         have r2:w6.cell? ⟨w.heap.size,2,none⟩=some (.int .i64 R.r.f0):=ZE.cell 2 rfl
         have r3:w6.cell? ⟨w.heap.size,3,none⟩=some (.int .i64 R.r.f1):=ZE.cell 3 rfl
         have r4:w6.cell? ⟨w.heap.size,4,none⟩=some (.int .i64 R.t.f0):=ZE.cell 4 rfl
         have r5:w6.cell? ⟨w.heap.size,5,none⟩=some (.int .i64 R.t.f1):=ZE.cell 5 rfl
         have r6:w6.cell? ⟨w.heap.size,6,none⟩=some (.int .i64 R.off):=ZE.cell 6 rfl
         go_wp2
         refine bodyPost_ret (v:=.tuple #[.agg #[.int .i64 R.l.f0,.int .i64 R.l.f1,.int .i64 R.r.f0,.int .i64 R.r.f1,.int .i64 R.t.f0,.int .i64 R.t.f1,.int .i64 R.off,.slice A cs.length cp,.int .i64 most],.int .i64 0]) (by simp[results,Tryd.results92,go_sem,z0,z1,z2,z3,z4,z5,z6,z7,z8]) rfl ⟨by simp[hl,hz,XO],?_⟩
         repeat(refine Below.setCell ?_ (by simp) _)
         exact hB6
       ·go_enter Tryd.func92,Tryd.ntmps92
        go_wp2_with fail
        refine(BV R.l _).mono ?_
        rintro e w1 ⟨rfl,hb1⟩
        rw[b1]
        have bx1:Box w1 w.heap.size _ 53:=((Box.new w _ _).alloc _).step hb1
        have wB:Box w1 (w.heap.size+1) #[.int .i64 0,.int .i64 0,.int .i64 0,.int .i64 0,.int .i64 0,.int .i64 0,.int .i64 0,.slice none 0 0,.int .i64 0] 141:=(Box.new' _ _ _ (by simp)).step hb1
        have hB1:Below w.heap.size w w1:=(((Below.refl _ _).alloc (Nat.le_refl _) _).alloc (by simp) _).trans (hb1.mono (by simp;omega))
        clear hb1
        have k1:=bx1.cell 2 rfl
        have k2:=bx1.cell 3 rfl
        go_wp2_with fail
        refine(BV R.r _).mono ?_
        rintro e w2 ⟨rfl,hb2⟩
        rw[b2]
        have qL:=bx1.step hb2
        have wW:=wB.step hb2
        have hB2:Below w.heap.size w w2:=hB1.trans (hb2.mono hB1.size)
        clear hb2 hB1 k1 k2 bx1 wB
        have k1:=qL.cell 4 rfl
        have k2:=qL.cell 5 rfl
        go_wp2_with fail
        refine(BV R.t _).mono ?_
        rintro e w3 ⟨rfl,hb3⟩
        rw[b3]
        have BZ:=qL.step hb3
        have yK:=wW.step hb3
        have hB3:Below w.heap.size w w3:=hB2.trans (hb3.mono hB2.size)
        clear hb3 hB2 k1 k2 qL wW
        have k1:=BZ.cell 6 rfl
        go_wp2_with fail
        refine(GK 0 20 [R.off] _ 1 _ (TY _ _ _ _ rfl)).mono ?_
        rintro e w4 ⟨rfl,hb4⟩
        rw[b4]
        have bx4:=(BZ.alloc _).step hb4
        have sH:=(yK.alloc _).step hb4
        have hB4:Below w.heap.size w w4:=hB3.trans (((Below.refl _ _).alloc hB3.size _).trans (hb4.mono (by have:=hB3.size;simp;omega)))
        clear hb4 hB3 k1 BZ yK
        go_wp2_with fail
        refine(aM7 (fun x=> !aiQ x) cs A cp _ (Kd.bJ hr hB4) (fun x _ W _=>aM8 x W)).mono ?_
        rintro e w5 ⟨rfl,hb5⟩
        rw[b5.out]
        have bx5:=bx4.step hb5
        have UJ:=sH.step hb5
        have wX:Below w.heap.size w w5:=hB4.trans (hb5.mono hB4.size)
        clear hb5 hB4 bx4 sH
        have z0:w5.cell? ⟨w.heap.size+1,0,none⟩=some (.int .i64 0):=UJ.cell 0 rfl
        have z1:w5.cell? ⟨w.heap.size+1,1,none⟩=some (.int .i64 0):=UJ.cell 1 rfl
        have z2:w5.cell? ⟨w.heap.size+1,2,none⟩=some (.int .i64 0):=UJ.cell 2 rfl
        have z3:w5.cell? ⟨w.heap.size+1,3,none⟩=some (.int .i64 0):=UJ.cell 3 rfl
        have z4:w5.cell? ⟨w.heap.size+1,4,none⟩=some (.int .i64 0):=UJ.cell 4 rfl
        have z5:w5.cell? ⟨w.heap.size+1,5,none⟩=some (.int .i64 0):=UJ.cell 5 rfl
        have z6:w5.cell? ⟨w.heap.size+1,6,none⟩=some (.int .i64 0):=UJ.cell 6 rfl
        have z7:w5.cell? ⟨w.heap.size+1,7,none⟩=some (.slice none 0 0):=UJ.cell 7 rfl
        have z8:w5.cell? ⟨w.heap.size+1,8,none⟩=some (.int .i64 0):=UJ.cell 8 rfl
        have hfz:∀ i,w5.frozen? ⟨w.heap.size+1,i,none⟩=false:=fun i=>UJ.frozen i
        go_wp2
        refine bodyPost_ret (v:=.tuple #[.agg #[.int .i64 0,.int .i64 0,.int .i64 0,.int .i64 0,.int .i64 0,.int .i64 0,.int .i64 0,.slice none 0 0,.int .i64 0],.int .i64 2]) (by simp[results,Tryd.results92,go_sem,z0,z1,z2,z3,z4,z5,z6,z7,z8]) rfl ⟨by simp[hl,hz,XO],?_⟩
        repeat(refine Below.setCell ?_ (by simp) _)
        exact wX
end Go.Proofs.YtcmfnebcmmklkaaDoor.Hand
namespace Go.Proofs.YtcmfnebcmmklkaaDoor.Hand
def NC (a b:Int):List Int:=(List.range (b - a+1).toNat).map fun(i:Nat)=>a+(i:Int)
theorem blH {a b n:Int}:n∈NC a b↔a<=n/\n<=b:=by
 unfold NC
 rw[List.mem_map]
 constructor
 ·rintro⟨i,hi,rfl⟩
  have:=List.mem_range.1 hi
  omega
 ·rintro⟨h1,h2⟩
  exact⟨(n - a).toNat,List.mem_range.2 (by omega),by omega⟩
theorem aE5 {a b:Int} (h:b<a):NC a b=[]:=by
 unfold NC
 rw[show(b - a+1).toNat=0 by omega]
 rfl
theorem aYT {a b:Int} (h:a<=b):NC a b=a::NC (a+1) b:=by
 unfold NC
 rw[show(b - a+1).toNat=(b - (a+1)+1).toNat+1 by omega,List.range_succ_eq_map,List.map_cons,List.map_map]
 congr 1
 ·simp
 ·apply List.map_congr_left
  intro i _
  simp only[Function.comp]
  omega
theorem aNB {a b:Int} (h:a<=b):NC a b=NC a (b - 1)++[b]:=by
 unfold NC
 rw[show(b - a+1).toNat=(b - 1 - a+1).toNat+1 by omega,List.range_succ,List.map_append]
 congr 1
 simp
 omega
theorem aNC:∀ (k:Nat) {a b c:Int},k=(b - a+1).toNat->a<=b+1->b<=c->NC a b++NC (b+1) c=NC a c:=by
 intro k
 induction k with
 |zero=>intro a b c hk h1 h2;rw[aE5 (by omega),List.nil_append,show b+1=a by omega]
 |succ k ih=>
  intro a b c hk h1 h2
  rw[aYT (a:=a) (b:=b) (by omega),aYT (a:=a) (b:=c) (by omega),List.cons_append,ih (a:=a+1) (by omega) (by omega) h2]
end Go.Proofs.YtcmfnebcmmklkaaDoor.Hand
namespace Go.Proofs.YtcmfnebcmmklkaaDoor.Hand
open Go.RowKit Go.Shelf Go.Proofs.YtcmfnebcmmklkaaDoorW.dQ Go.Proofs.YtcmfnebcmmklkaaDoorW.gG Go.Proofs.YtcmfnebcmmklkaaDoor.Q
theorem blI (k k':IntKind) (x y:Int):Builtin.max2 (.int k x) (.int k' y)=pure (.int k (mx x y)):=uA k k' x y
theorem blJ (k k':IntKind) (x y:Int):Builtin.min2 (.int k x) (.int k' y)=pure (.int k (mn x y)):=uB k k' x y
attribute [local go_sem] Oper.semAt_some run_store_func blI blJ uC uD
theorem aYU {W:World} {n₀:Nat} {A:Option Addr} {n c:Nat} {xs:List Int} (h:eH W n₀ (.slice A n c) xs) (w:World):
  Calls Tryd.prog 126 #[.slice A n c] w fun e w'=>e=.returned (.slice A n n)/\w=w':=by
 have hs:=fun w=>bfF h w
 go_enter Tryd.func126,Tryd.ntmps126
 go_wp2
 go_ret
 exact⟨rfl,rfl⟩
def XP (most:Int) (cs:List gQ):Nat->List Int->Int->Int->List (List Int)
 |0,d,sum,up=>if sum=0 then[d]else[]
 |k+1,d,sum,up=>(NC (mx (-most) (-(DC cs d.length).f1)) (mn most (DC cs d.length).f0)).flatMap fun n=>if up+mx 0 n<=most then XP most cs k (d++[n]) (sum+n) (up+mx 0 n)else[]
def UK (most:Int) (cs:List gQ) (k:Nat) (d:List Int) (sum up:Int) (lo n:Int):List (List Int):=
 (NC lo (n - 1)).flatMap fun n=>if up+mx 0 n<=most then XP most cs k (d++[n]) (sum+n) (up+mx 0 n)else[]
theorem blK (most:Int) (cs:List gQ) (k:Nat) (d:List Int) (sum up lo:Int):UK most cs k d sum up lo lo=[]:=by
 unfold UK
 rw[aE5 (by omega)]
 rfl
theorem aYV (most:Int) (cs:List gQ) (k:Nat) (d:List Int) (sum up:Int) {lo n:Int} (h:lo<=n):
  UK most cs k d sum up lo (n+1)=UK most cs k d sum up lo n++(if up+mx 0 n<=most then XP most cs k (d++[n]) (sum+n) (up+mx 0 n)else[]):=by
 unfold UK
 rw[show n+1 - 1=n by omega,aNB h,List.flatMap_append]
 simp
theorem aYW (most:Int) (cs:List gQ) (k:Nat) (d:List Int) (sum up:Int) {n:Int} (h:n=mn most (DC cs d.length).f0+1):
  UK most cs k d sum up (mx (-most) (-(DC cs d.length).f1)) n=XP most cs (k+1) d sum up:=by
 subst h
 unfold UK
 rw[Int.add_sub_cancel]
 rfl
theorem blL (most:Int) (cs:List gQ) (k:Nat) (d:List Int) (sum up:Int) {lo n m:Int} (h:lo<=n) (hm:n<=m):UK most cs k d sum up lo n<+:UK most cs k d sum up lo m:=by
 unfold UK
 rw[<-aNC _ (a:=lo) (b:=n - 1) (c:=m - 1) rfl (by omega) (by omega),List.flatMap_append]
 exact List.prefix_append _ _
def aaP (x:gQ):Prop:=(0<=x.f0/\x.f0<=24)/\(0<=x.f1/\x.f1<=24)
def qH (R:pU) (A:Option Addr) (n cp:Nat) (most:Int):Array Value:=#[.int .i64 R.l.f0,.int .i64 R.l.f1,.int .i64 R.r.f0,.int .i64 R.r.f1,.int .i64 R.t.f0,.int .i64 R.t.f1,.int .i64 R.off,.slice A n cp,.int .i64 most]
def XQ (n₀:Nat) (A:Option Addr) (cs:List gQ) (W:World):Prop:=n₀<=W.heap.size/\Kd.C vC W A cs.length cs
def XSt (X Y:World):Prop:=Below X.heap.size X Y
def aYX (n₀:Nat) (x:List Int) (args:Array Value) (W:World):Prop:=∃ v,args=#[v]/\eH W n₀ v x
theorem XQ.step {n₀:Nat} {A:Option Addr} {cs:List gQ} {X Y:World} (h:XQ n₀ A cs X) (hb:Below X.heap.size X Y):XQ n₀ A cs Y:=⟨Nat.le_trans h.1 hb.size,Kd.bJ h.2 hb⟩
theorem qK.of_below {s:Nat} {X Y:World} (h:Below X.heap.size X Y):qK s X Y:=⟨h.size,fun i o hi _ _=>(h.block i (lt_of_block hi)).trans hi⟩
theorem aE7 {F:Fence} {m:Nat} {P:Program} {ops:Array Oper} {Q:Exit->Act->World->Prop} {C:World->Prop} {Lq:Act->World->Prop} {i:Nat} {o:Oper} {π:yX} {a:Act} {w:World} (ho:ops[i]? =some o)
  (hw:Region.wanted o (yielded ops a.tmps)=false) (hab:∀ f,o.about P w a.eval=some f->F.fn f) (hC:C w) (h:DL F m P ops Q C Lq π (a.put o.dst undef) w):DL F m P ops Q C Lq (.ev i π) a w:=by
 show wpOpIn F m P ops Q i _ a w
 unfold wpOpIn
 simp only[ho,hw]
 exact⟨hab,hC,h⟩
theorem blM {F:Fence} {m:Nat} {P:Program} {ops:Array Oper} {Q:Exit->Act->World->Prop} {C:World->Prop} {Lq:Act->World->Prop} {i j:Nat} {o o':Oper} {π ρ:yX} {a:Act} {w:World} (ho:ops[i]? =some o) (ho':ops[j]? =some o')
  (hw:Region.wanted o (yielded ops a.tmps)=false) (hab:∀ f,o.about P w a.eval=some f->F.fn f) (hw':Region.wanted o' (yielded ops a.tmps)=false) (hab':∀ f,o'.about P w a.eval=some f->F.fn f) (hC:C w)
  (h:DL F m P ops Q C Lq π (a.put o.dst undef) w) (h':DL F m P ops Q C Lq ρ (a.put o'.dst undef) w):DL F m P ops Q C Lq (.two i j π ρ) a w:=
 ⟨aE7 (π:=π) ho hw hab hC h,aE7 (π:=ρ) ho' hw' hab' hC h'⟩
def axE (bS bF:Nat) (most:Int) (fv:Value) (W:World):Prop:=W.cell? ⟨bS,8,none⟩=some (.int .i64 most)/\W.cell? ⟨bF,0,none⟩=some fv
theorem blN (R:pU) (cs:List gQ) (hcs:∀ x∈cs,aaP x) (h5:cs.length<=5) (most:Int) (hm:0<=most/\most<=2) (A:Option Addr) (cp n₀:Nat)
  (l:Nat) (J Jx:List (List Int)->World->Prop) (xs:List (List Int)) (Bf s0:Nat) (hBs:Bf<=s0) (hns:n₀<=s0)
  (hJs:∀ pre X Y,J pre X->XSt X Y->J pre Y) (aDX:∀ pre X Y,Jx pre X->XSt X Y->Jx pre Y)
  (hY:∀ pre x args W1,J pre W1->XQ n₀ A cs W1->pre++[x]<+:xs->aYX n₀ x args W1->YieldAt FW 0 Tryd.prog l args W1 fun e W'=>
   (e=.returned (.bool true)/\J (pre++[x]) W'/\XQ n₀ A cs W'/\qK Bf W1 W')∨(e=.returned (.bool false)/\Jx (pre++[x]) W'))
  (bS bY bF:Nat) (hbS:s0<=bS) (hbY:s0<=bY) (hbF:s0<=bF):
  ∀ (k:Nat) (d:List Int) (sum up:Int) (pre:List (List Int)) (v:Value) (W:World),d.length+k=cs.length->(0<=up/\up<=most)->(-(2*d.length)<=sum/\sum<=2*d.length)->eH W s0 v d->s0<=W.heap.size->XQ n₀ A cs W->
   Box W bS (qH R A cs.length cp most) 141->Box W bY #[.func (.yield l) #[] #[]] 144->Box W bF #[.func (.func 125) #[] #[.pointer (some ⟨bS,0,none⟩),.pointer (some ⟨bY,0,none⟩),.pointer (some ⟨bF,0,none⟩)]] 203->J pre W->pre++XP most cs k d sum up<+:xs->
   CallsIn FW 0 Tryd.prog 125 #[v,.int .i64 sum,.int .i64 up,.pointer (some ⟨bS,0,none⟩),.pointer (some ⟨bY,0,none⟩),.pointer (some ⟨bF,0,none⟩)] W fun e W'=>
    (e=.returned (.bool true)/\J (pre++XP most cs k d sum up) W'/\XQ n₀ A cs W'/\qK s0 W W')∨(e=.returned (.bool false)/\∃ pre',pre'<+:xs/\Jx pre' W'):=by
 intro k
 induction k with
 |zero=>
  intro d sum up pre v W hd hup hsum hown hs0 hv hS aE8 aND hj hp
  obtain⟨A0,c0,rfl⟩:=hown.slice
  have hd':d.length=cs.length:=by omega
  rw[hd']at hown ⊢
  have c7:W.cell? ⟨bS,7,none⟩=some (.slice A cs.length cp):=hS.cell 7 rfl
  have cy:W.cell? ⟨bY,0,none⟩=some (.func (.yield l) #[] #[]):=aE8.cell 0 rfl
  by_cases hz:sum=0
  ·subst hz
   have hYa:=hY pre d #[.slice A0 cs.length c0] W hj hv hp ⟨_,rfl,hown.lower hns⟩
   obtain⟨fn,tmps,assign,body,hy,hR⟩:=hYa
   have hR':=Lib.hid hR
   clear hR
   refine callsIn_of_wp Tryd.func125 rfl trivial ?_
   simp only[Tryd.ntmps125,List.size_toArray,List.length_cons,List.length_nil,Nat.reduceAdd,Nat.reduceSub,Array.replicate_succ,Array.replicate_zero,List.push_toArray,List.append_toArray,List.nil_append,List.cons_append]
   gi_wp2_with fail
   refine⟨rfl,?_⟩
   refine hR'.out.mono ?_
   rintro e W2 (⟨rfl,hj2,hv2,hf2⟩|⟨rfl,hx2⟩)
   ·clear c7 cy
    gi_wp2
    go_ret
    exact .inl ⟨rfl,hj2,hv2,hf2.mono hBs⟩
   ·clear c7 cy
    gi_wp2
    go_ret
    exact .inr ⟨rfl,_,hp,hx2⟩
  ·have hz1:(sum !=0)=true:=by simp[hz]
   have he:Hid (XP most cs 0 d sum up=[]):=Lib.hid (if_neg hz)
   refine callsIn_of_wp Tryd.func125 rfl trivial ?_
   simp only[Tryd.ntmps125,List.size_toArray,List.length_cons,List.length_nil,Nat.reduceAdd,Nat.reduceSub,Array.replicate_succ,Array.replicate_zero,List.push_toArray,List.append_toArray,List.nil_append,List.cons_append]
   gi_wp2
   refine⟨fun f hf=>(by cases hf),?_⟩
   gi_wp2
   go_ret
   exact .inl ⟨rfl,by rw[he.out,List.append_nil];exact hj,hv,qK.refl _ _⟩
 |succ k ih=>
  intro d sum up pre v W hd hup hsum hown hs0 hv hS aE8 aND hj hp
  obtain⟨A0,c0,rfl⟩:=hown.slice
  obtain⟨sg,hsg⟩:∃ sg,d.length=sg:=⟨_,rfl⟩
  have hsn:sg<cs.length:=by omega
  have hne:((sg:Int)==(cs.length:Int))=false:=by simp;omega
  have hcr:aaP (DC cs sg):=hcs _ (getD_mem (by simpa using hsn) _)
  obtain⟨ad,rfl,g0,g1,g2⟩:=aIW hv.2 sg (by omega) (by omega)
  rw[Int.toNat_natCast]at g0 g1 g2
  obtain⟨cr,axF⟩:∃ c,DC cs sg=c:=⟨_,rfl⟩
  rw[axF]at hcr g0 g1 g2
  have Hcr:=Lib.hid axF
  rw[hsg]at hown hsum ⊢
  unfold aaP at hcr
  have c7:W.cell? ⟨bS,7,none⟩=some (.slice (some ad) cs.length cp):=hS.cell 7 rfl
  have c8:W.cell? ⟨bS,8,none⟩=some (.int .i64 most):=hS.cell 8 rfl
  have blR:=hS.lt
  obtain⟨lo,hlo⟩:∃ lo,mx (-most) (-cr.f1)=lo:=⟨_,rfl⟩
  obtain⟨hi,hhi⟩:∃ hi,mn most cr.f0=hi:=⟨_,rfl⟩
  have hlob: -2<=lo/\lo<=0:=by rw[<-hlo];unfold mx;split<;>omega
  have hhib:0<=hi/\hi<=2:=by rw[<-hhi];unfold mn;split<;>omega
  have Hlo:Hid (mx (-most) (-(DC cs d.length).f1)=lo):=Lib.hid (by rw[hsg,axF,hlo])
  have Hhi:Hid (mn most (DC cs d.length).f0=hi):=Lib.hid (by rw[hsg,axF,hhi])
  refine callsIn_of_wp Tryd.func125 rfl trivial ?_
  simp only[Tryd.ntmps125,List.size_toArray,List.length_cons,List.length_nil,Nat.reduceAdd,Nat.reduceSub,Array.replicate_succ,Array.replicate_zero,List.push_toArray,List.append_toArray,List.nil_append,List.cons_append]
  gi_wp2
  obtain⟨Wa,hWa⟩:∃ Wa,W.alloc (Obj.cells #[Value.int IntKind.i64 cr.f0,Value.int IntKind.i64 cr.f1,Value.int IntKind.i64 cr.f2] 109)=Wa:=⟨_,rfl⟩
  rw[hWa]
  have hba:Below W.heap.size W Wa:=by rw[<-hWa];exact(Below.refl _ _).alloc (Nat.le_refl _) _
  have hN:Box Wa W.heap.size #[.int .i64 cr.f0,.int .i64 cr.f1,.int .i64 cr.f2] 109:=by rw[<-hWa];exact Box.new _ _ _
  have hva:=hv.step hba
  have hSa:=hS.step hba
  have hYa:=aE8.step hba
  have hFa:=aND.step hba
  have hoa:=hown.below' hba
  have hja:=hJs _ _ _ hj hba
  have hfa:qK s0 W Wa:=qK.of_below hba
  obtain⟨N,hNe⟩:∃ N,W.heap.size=N:=⟨_,rfl⟩
  rw[hNe]at hN hs0 ⊢
  clear hWa hlo c7 c8 g0 g1 g2 hne blR hba hNe hhi axF
  gi_loopw [11] (fun iv wr=>∃ n:Int,(lo<=n/\n<=hi+1)/\iv=.int .i64 n/\J (pre++UK most cs k d sum up lo n) wr/\XQ n₀ (some ad) cs wr/\Box wr bS (qH R (some ad) cs.length cp most) 141/\Box wr bY #[.func (.yield l) #[] #[]] 144/\Box wr bF #[.func (.func 125) #[] #[.pointer (some ⟨bS,0,none⟩),.pointer (some ⟨bY,0,none⟩),.pointer (some ⟨bF,0,none⟩)]] 203/\Box wr N #[.int .i64 cr.f0,.int .i64 cr.f1,.int .i64 cr.f2] 109/\eH wr s0 (.slice A0 sg c0) d/\qK s0 W wr) (fun iv _=>(hi+1 - intOf iv).toNat)
  case atStart=>exact⟨lo,by omega,rfl,by rw[blK,List.append_nil];exact hja,hva,hSa,hYa,hFa,hN,hoa,hfa⟩
  case round=>
   clear hja hva hSa hYa hFa hN hoa hfa hS aE8 aND hj hown hv
   obtain⟨n,hn,rfl,kj,kv,kS,kY,kF,kN,ko,kf⟩:=hrel
   have c8:wr.cell? ⟨bS,8,none⟩=some (.int .i64 most):=kS.cell 8 rfl
   have cN:wr.cell? ⟨N,0,none⟩=some (.int .i64 cr.f0):=kN.cell 0 rfl
   have hh:=Hhi.out
   rw[hsg,Hcr.out]at hh
   by_cases hlt:n<=hi
   ·have hd1:decide (n<=hi)=true:=decide_eq_true hlt
    gi_wp2
    obtain⟨z,hz⟩:∃ z,mx 0 n=z:=⟨_,rfl⟩
    have hzb:0<=z/\z<=2:=by rw[<-hz];unfold mx;split<;>omega
    have Hz:=Lib.hid hz
    have k4:IntKind.i64.wrap (up+z)=up+z:=IntWalk.i64_in _ (by omega)
    have k5:IntKind.i64.wrap (sum+n)=sum+n:=IntWalk.i64_in _ (by omega)
    obtain⟨fv,hfv⟩:∃ fv:Value,fv=.func (.func 125) #[] #[.pointer (some ⟨bS,0,none⟩),.pointer (some ⟨bY,0,none⟩),.pointer (some ⟨bF,0,none⟩)]:=⟨_,rfl⟩
    rw[<-hfv]at kF
    have Hfv:=Lib.hid hfv
    have hC:axE bS bF most fv wr.drew:=⟨kS.cell 8 rfl,kF.cell 0 rfl⟩
    clear hfv c8 cN
    by_cases hg:up+z<=most
    ·have hg1:decide (up+z<=most)=true:=decide_eq_true hg
     refine aeB 21 (yX.au1 [0,1,2,3,4,5,6,7,8,9,11,14,15,16,17,18,19,20] (.two 10 12 (.ev 12 (.ev 13 .done)) (.ev 10 (.ev 13 .done)))) (axE bS bF most fv) (rZ.of (by kernel_rfl)) rfl (by kernel_rfl) hC ?_
     simp only[yX.au1]
     iterate 18 (apply UA rfl (fun _=>rfl) (by assumption);focus(intro K hK w' hw';obtain⟨g0,g1⟩:=hw';go_simp;exact hK))
     obtain⟨W0,hW0⟩:∃ W_,W_=wr.drew:=⟨_,rfl⟩
     rw[<-hW0]at hC ⊢
     have hb0:Below wr.heap.size wr W0:=by rw[hW0];exact(Below.refl _ _).drew
     have ko0:=ko.below' hb0
     have hsz0:s0<=W0.heap.size:=by have:=kN.lt;have:=hb0.size;omega
     obtain⟨v5,w5,hrun,o5,hb5⟩:=bfG ko0 hsz0 (by have:=hd;omega) n
     have hC4:axE bS bF most fv (W0.alloc (.cells #[.int .i64 n] 3)):=⟨jW ((Below.refl _ _).alloc (Nat.le_refl _) _) hC.1,jW ((Below.refl _ _).alloc (Nat.le_refl _) _) hC.2⟩
     have hC5:axE bS bF most fv w5:=⟨jW hb5 hC.1,jW hb5 hC.2⟩
     clear hW0
     refine ah2 rfl rfl ?ea ?eb
     case' ea=>
      gi_wp2_with fail
      refine⟨trivial,rfl,?_⟩
      refine(callsIn_wide.2 (aYU ko _)).mono ?_
      rintro e wq ⟨rfl,rfl⟩
      gi_wp2
      refine⟨hC,?_⟩
      refine DN rfl ?_
      gi_wp2
      refine⟨hC4,?_⟩
     case' eb=>
      gi_wp2
      refine⟨hC4,?_⟩
      refine DN rfl ?_
      gi_wp2_with fail
      refine⟨trivial,rfl,?_⟩
      refine(callsIn_wide.2 (aYU ko _)).mono ?_
      rintro e wq ⟨rfl,rfl⟩
      gi_wp2
      refine⟨hC4,?_⟩
     all_goals
      refine DN rfl ?_
      refine aKS _ rfl (.tmp 57) (.tmp 59) 34 rfl _ _ v5 w5 rfl rfl hrun ?_
      refine wpListIn_nil ⟨hC5,?_⟩
      show wpListIn _ _ _ _ _ _ _ _
      simp only[List.drop_succ_cons,List.drop_zero]
      clear hC hC4 hC5 hrun
      cases Hfv.out
      have XR:Below wr.heap.size wr w5:=hb0.trans (hb5.mono hb0.size)
      have kj5:=hJs _ _ _ kj XR
      have kv5:=kv.step XR
      have hgx:Hid (UK most cs k d sum up lo (n+1)=UK most cs k d sum up lo n++XP most cs k (d++[n]) (sum+n) (up+z)):=Lib.hid (by
       rw[aYV most cs k d sum up hn.1,Hz.out,if_pos hg])
      have Ih:=Lib.hid (ih (d++[n]) (sum+n) (up+z) (pre++UK most cs k d sum up lo n) v5 w5 (by simp;omega) (by omega) (by simp;omega) o5 (by have:=hb5.size;omega) kv5 (kS.step XR) (kY.step XR) (kF.step XR) kj5 (by
       rw[List.append_assoc,<-hgx.out]
       refine List.IsPrefix.trans ?_ hp
       refine(List.prefix_append_right_inj _).2 ?_
       rw[<-aYW most cs k d sum up (n:=hi+1) (by rw[Hhi.out]),Hlo.out]
       exact blL most cs k d sum up (by omega) (by omega)))
      clear ih
      gi_wp2_with fail
      refine⟨trivial,rfl,?_⟩
      refine Ih.out.mono ?_
      rintro e w6 (⟨rfl,hj6,hv6,hf6⟩|⟨rfl,pre',hpp,hx6⟩)
      ·gi_wp2
       rw[yZ]
       gi_wp2
       go_roundw
       case rel=>exact⟨n+1,by omega,rfl,by rw[hgx.out,<-List.append_assoc];exact hj6,hv6,hf6.box (kS.step XR) hbS,hf6.box (kY.step XR) hbY,hf6.box (kF.step XR) hbF,hf6.box (kN.step XR) hs0,hf6.own (ko.below' XR) (Nat.le_refl _),kf.trans ((qK.of_below XR).trans hf6)⟩
       case measure=>simp[intOf];omega
      ·gi_wp2
       rw[yZ]
       gi_wp2
       go_ret
       exact .inr ⟨rfl,pre',hpp,hx6⟩
    ·have hg1:decide (up+z<=most)=false:=decide_eq_false hg
     have hgx:Hid (UK most cs k d sum up lo (n+1)=UK most cs k d sum up lo n):=Lib.hid (by
      rw[aYV most cs k d sum up hn.1,Hz.out,if_neg hg,List.append_nil])
     refine aeB 21 (yX.au1 [0,1,2,3,4,5,6,7,8,9,11,14,15,16,17,18,19,20] (.two 10 12 (.ev 12 (.ev 13 .done)) (.ev 10 (.ev 13 .done)))) (axE bS bF most fv) (rZ.of (by kernel_rfl)) rfl (by kernel_rfl) hC ?_
     simp only[yX.au1]
     iterate 18 (apply UA rfl (fun _=>rfl) (by assumption);focus(intro K hK w' hw';obtain⟨g0,g1⟩:=hw';go_simp;exact hK))
     have hb0:Below wr.heap.size wr wr.drew:=(Below.refl _ _).drew
     refine blM rfl rfl rfl (fun _ _=>trivial) rfl (fun _ _=>trivial) hC ?_ ?_
     all_goals
      refine aE7 rfl rfl (fun _ _=>trivial) hC ?_
      refine aE7 rfl rfl (fun _ _=>trivial) hC ?_
      show wpListIn _ _ _ _ _ _ _ _
      simp only[List.drop_succ_cons,List.drop_zero]
      refine wpListIn_skip rfl rfl ?_
      refine wpListIn_skip rfl rfl ?_
      cases Hfv.out
      gi_wp2
      rw[yZ]
      gi_wp2
      go_roundw
      case rel=>exact⟨n+1,by omega,rfl,by rw[hgx.out];exact hJs _ _ _ kj hb0,kv.step hb0,kS.step hb0,kY.step hb0,kF.step hb0,kN.step hb0,ko.below' hb0,kf.trans (qK.of_below hb0)⟩
      case measure=>simp[intOf];omega
   ·have hd1:decide (n<=hi)=false:=decide_eq_false hlt
    obtain rfl:n=hi+1:=by omega
    gi_wp2
    go_ret
    exact .inl ⟨rfl,by rw[<-aYW most cs k d sum up (n:=hi+1) (by rw[Hhi.out]),Hlo.out];exact kj,kv,kf⟩
attribute [local go_sem] Oper.semAt_some run_store_func
def exL (most:Int) (cs:List gQ):List (List Int):=XP most cs cs.length [] 0 0
theorem blW (R:pU) (cs:List gQ) (hcs:∀ x∈cs,aaP x) (h5:cs.length<=5) (most:Int) (hm:0<=most/\most<=2) (A:Option Addr) (cp n₀:Nat):
  aVO Tryd.prog 112 #[.agg (qH R A cs.length cp most)] #[] (aYX n₀) (XQ n₀ A cs) XSt (exL most cs):=by
 intro l J Jx B W hB hv hJs aDX hY hj
 obtain⟨Wa,hWa⟩:∃ Wa,((W.alloc (.cells (qH R A cs.length cp most) 141)).alloc (.cells #[.func (.yield l) #[] #[]] 144))=Wa:=⟨_,rfl⟩
 have hba:Below W.heap.size W Wa:=by rw[<-hWa];exact((Below.refl _ _).alloc (Nat.le_refl _) _).alloc (by simp) _
 have x1:Box Wa W.heap.size (qH R A cs.length cp most) 141:=by rw[<-hWa];exact(Box.new _ _ _).alloc _
 have x2:Box Wa (W.heap.size+1) #[.func (.yield l) #[] #[]] 144:=by rw[<-hWa];exact Box.new' _ _ _ (by simp)
 have hsz:Wa.heap.size=W.heap.size+2:=by rw[<-hWa];simp
 obtain⟨fv,hfv⟩:∃ fv:Value,fv=.func (.func 125) #[] #[.pointer (some ⟨W.heap.size,0,none⟩),.pointer (some ⟨W.heap.size+1,0,none⟩),.pointer (some ⟨W.heap.size+2,0,none⟩)]:=⟨_,rfl⟩
 obtain⟨Wc,hWc⟩:∃ Wc,Wa.alloc (.cells #[fv] 203)=Wc:=⟨_,rfl⟩
 have hbc:Below W.heap.size W Wc:=by rw[<-hWc];exact hba.alloc (by omega) _
 have y1:Box Wc W.heap.size (qH R A cs.length cp most) 141:=by rw[<-hWc];exact x1.alloc _
 have y2:Box Wc (W.heap.size+1) #[.func (.yield l) #[] #[]] 144:=by rw[<-hWc];exact x2.alloc _
 have y3:Box Wc (W.heap.size+2) #[fv] 203:=by rw[<-hWc];exact Box.new' #[fv] 203 _ hsz
 rw[hfv]at y3 hWc
 have hf:=Lib.hid (blN R cs hcs h5 most hm A cp n₀ l J Jx (exL most cs) B W.heap.size hB hv.1 hJs aDX hY W.heap.size (W.heap.size+1) (W.heap.size+2) (Nat.le_refl _) (by omega) (by omega)
  cs.length [] 0 0 [] (.slice none 0 0) Wc (by simp) (by omega) (by simp) (World.ownsRow_nil _ _ _ _) hbc.size (hv.step hbc) y1 y2 y3 (hJs _ _ _ hj hbc) (List.prefix_refl _))
 have hgo:=qK.of_below (s:=W.heap.size) hbc
 clear y1 y2 y3 x1 x2
 unfold qH at hWa
 have hWd:=Lib.hid hWc
 clear hWc
 refine callsIn_of_wp Tryd.func112 rfl trivial ?_
 simp only[Tryd.ntmps112,List.size_toArray,List.length_cons,List.length_nil,Nat.reduceAdd,Nat.reduceSub,Array.replicate_succ,Array.replicate_zero,List.push_toArray,List.append_toArray,List.nil_append,List.cons_append,qH]
 gi_wp2_with fail
 rw[hWd.out]
 refine⟨trivial,rfl,?_⟩
 refine hf.out.mono ?_
 rintro e W2 (⟨rfl,hj2,hv2,_⟩|⟨rfl,pre,hp,hx⟩)
 ·clear hWa hWd
  gi_wp2
  go_end0
  exact⟨⟨_,rfl⟩,.inl ⟨by simpa[exL]using hj2,hv2⟩⟩
 ·clear hWa hWd
  gi_wp2
  go_end0
  exact⟨⟨_,rfl⟩,.inr ⟨pre,hp,hx⟩⟩
theorem aY2 (x d wo:Value) (xs:Array Value) (hx:x=.agg xs) (A1 A2:Option Addr) (n1 c1:Nat) (i:Int) (hd:d=.slice A1 n1 c1) (hwo:wo=.int .u64 i) (w:World):
  Calls Tryd.prog 90 #[x,d,wo] w fun e w'=>e=.returned (.func (.func 107) #[] #[.pointer (some ⟨w.heap.size,0,none⟩),.pointer (some ⟨w.heap.size+2,0,none⟩),.pointer (some ⟨w.heap.size+1,0,none⟩)])/\Box w' w.heap.size xs 141/\Box w' (w.heap.size+1) #[d] 34/\Box w' (w.heap.size+2) #[wo] 135/\Below w.heap.size w w':=by
 subst hx hd hwo
 go_enter Tryd.func90,Tryd.ntmps90
 go_wp2
 go_ret
 exact⟨rfl,((Box.new _ _ _).alloc _).alloc _,(Box.new' _ _ _ (by simp)).alloc _,Box.new' _ _ _ (by simp),(((Below.refl _ _).alloc (Nat.le_refl _) _).alloc (by simp) _).alloc (by simp<;>omega) _⟩
attribute [local go_sem] Oper.semAt_some run_store_func
def axG (a b:Int) (c:gQ) (x:Int):Int:=c.f2 - a*(c.f0 - x) - b*(c.f1+x)
def EG (R:pU) (a b:Int) (cs:List gQ) (d:List Int) (wo:Nat):Nat->aH
 |0=>R.t
 |i+1=>if wo.testBit i=true then EG R a b cs d wo i else QG (EG R a b cs d wo i) ⟨axG a b (DC cs i) (d.getD i 0) - R.off,axG a b (DC cs i) (d.getD i 0)+R.off⟩
def anV (R:pU) (cs:List gQ) (d:List Int) (wo:Nat) (a b:Int):List (Int×Int×aH):=
 if(EG R a b cs d wo cs.length).f0<=(EG R a b cs d wo cs.length).f1 then[(a,b,EG R a b cs d wo cs.length)]else[]
def PL (R:pU) (cs:List gQ) (d:List Int) (wo:Nat) (a:Int) (n:Int):List (Int×Int×aH):=(NC R.r.f0 (n - 1)).flatMap fun b=>anV R cs d wo a b
def UL (R:pU) (cs:List gQ) (d:List Int) (wo:Nat) (n:Int):List (Int×Int×aH):=(NC R.l.f0 (n - 1)).flatMap fun a=>PL R cs d wo a (R.r.f1+1)
def anW (R:pU) (cs:List gQ) (d:List Int) (wo:Nat):List (Int×Int×aH):=UL R cs d wo (R.l.f1+1)
theorem blX (R:pU) (cs:List gQ) (d:List Int) (wo:Nat) (a:Int):PL R cs d wo a R.r.f0=[]:=by
 unfold PL;rw[aE5 (by omega)];rfl
theorem blY (R:pU) (cs:List gQ) (d:List Int) (wo:Nat):UL R cs d wo R.l.f0=[]:=by
 unfold UL;rw[aE5 (by omega)];rfl
theorem aY3 (R:pU) (cs:List gQ) (d:List Int) (wo:Nat) (a:Int) {n:Int} (h:R.r.f0<=n):PL R cs d wo a (n+1)=PL R cs d wo a n++anV R cs d wo a n:=by
 unfold PL
 rw[show n+1 - 1=n by omega,aNB h,List.flatMap_append]
 simp
theorem aY4 (R:pU) (cs:List gQ) (d:List Int) (wo:Nat) {n:Int} (h:R.l.f0<=n):UL R cs d wo (n+1)=UL R cs d wo n++PL R cs d wo n (R.r.f1+1):=by
 unfold UL
 rw[show n+1 - 1=n by omega,aNB h,List.flatMap_append]
 simp
theorem blZ (R:pU) (cs:List gQ) (d:List Int) (wo:Nat) (a:Int) {n m:Int} (h:R.r.f0<=n) (hm:n<=m):PL R cs d wo a n<+:PL R cs d wo a m:=by
 unfold PL
 rw[<-aNC _ (a:=R.r.f0) (b:=n - 1) (c:=m - 1) rfl (by omega) (by omega),List.flatMap_append]
 exact List.prefix_append _ _
theorem bl0 (R:pU) (cs:List gQ) (d:List Int) (wo:Nat) {n m:Int} (h:R.l.f0<=n) (hm:n<=m):UL R cs d wo n<+:UL R cs d wo m:=by
 unfold UL
 rw[<-aNC _ (a:=R.l.f0) (b:=n - 1) (c:=m - 1) rfl (by omega) (by omega),List.flatMap_append]
 exact List.prefix_append _ _
theorem bl1 (R:pU) (cs:List gQ) (d:List Int) (wo:Nat) {a b:Int} (ha:R.l.f0<=a/\a<=R.l.f1) (hb:R.r.f0<=b/\b<=R.r.f1):
  (UL R cs d wo a++PL R cs d wo a b)++anV R cs d wo a b<+:anW R cs d wo:=by
 have h1:PL R cs d wo a b++anV R cs d wo a b<+:PL R cs d wo a (R.r.f1+1):=by
  rw[<-aY3 R cs d wo a hb.1]
  exact blZ R cs d wo a (by omega) (by omega)
 have h2:UL R cs d wo a++PL R cs d wo a (R.r.f1+1)<+:anW R cs d wo:=by
  rw[<-aY4 R cs d wo ha.1]
  exact bl0 R cs d wo (by omega) (by omega)
 rw[List.append_assoc]
 exact((List.prefix_append_right_inj _).2 h1).trans h2
def arQ (R:pU):Prop:=(0<=R.l.f0/\R.l.f0<=R.l.f1/\R.l.f1<=60)/\(0<=R.r.f0/\R.r.f0<=R.r.f1/\R.r.f1<=60)/\(0<=R.t.f0/\R.t.f0<=R.t.f1/\R.t.f1<=60)/\(0<=R.off/\R.off<=20)
def ZI (x:gQ):Prop:=aaP x/\(0<=x.f2/\x.f2<=5000)
theorem aY5 {a b A B:Int} (ha:0<=a/\a<=A) (hb: -B<=b/\b<=B) (hB:0<=B): -(A*B)<=a*b/\a*b<=A*B:=by
 have h1:a*b<=a*B:=Int.mul_le_mul_of_nonneg_left hb.2 ha.1
 have h2:a*B<=A*B:=Int.mul_le_mul_of_nonneg_right ha.2 hB
 have h3:a*(-B)<=a*b:=Int.mul_le_mul_of_nonneg_left hb.1 ha.1
 rw[Int.mul_neg]at h3
 omega
theorem bl2 {a b x:Int} {c:gQ} (ha:0<=a/\a<=60) (hb:0<=b/\b<=60) (hc:ZI c) (hx: -2<=x/\x<=2):
  (-1560<=a*(c.f0 - x)/\a*(c.f0 - x)<=1560)/\(-1560<=b*(c.f1+x)/\b*(c.f1+x)<=1560):=by
 unfold ZI aaP at hc
 have h1:=aY5 (B:=26) ha (b:=c.f0 - x) (by omega) (by omega)
 have h2:=aY5 (B:=26) hb (b:=c.f1+x) (by omega) (by omega)
 omega
abbrev vWt (x:Int×Int×aH):Value:=.agg #[.int .i64 x.1,.int .i64 x.2.1,.int .i64 x.2.2.f0,.int .i64 x.2.2.f1]
def bl4 (x:Int×Int×aH) (args:Array Value) (W:World):Prop:=args=#[vWt x]
def acB (n₀:Nat) (R:pU) (A:Option Addr) (cs:List gQ) (cp:Nat) (most:Int) (Ad:Option Addr) (cd:Nat) (d:List Int) (wo:Nat) (bS bW bD:Nat) (W:World):Prop:=
 XQ n₀ A cs W/\Box W bS (qH R A cs.length cp most) 141/\Box W bW #[.int .u64 (wo:Int)] 135/\Box W bD #[.slice Ad d.length cd] 34/\Kd.C (Kd.int .i64) W Ad d.length d
theorem acB.step {n₀:Nat} {R:pU} {A:Option Addr} {cs:List gQ} {cp:Nat} {most:Int} {Ad:Option Addr} {cd:Nat} {d:List Int} {wo bS bW bD:Nat} {X Y:World}
  (h:acB n₀ R A cs cp most Ad cd d wo bS bW bD X) (hb:Below X.heap.size X Y):acB n₀ R A cs cp most Ad cd d wo bS bW bD Y:=
 ⟨h.1.step hb,h.2.1.step hb,h.2.2.1.step hb,h.2.2.2.1.step hb,Kd.bJ h.2.2.2.2 hb⟩
theorem bl5 (wo i:Nat) (hi:i<5) (hwo:wo<32):(Go.bits .and .u64 ((wo:Int) / 2^i) 1==1)=wo.testBit i:=by
 have h:∀ b<32,∀ i<5,(Go.bits .and .u64 (((b:Nat):Int) / 2^i) 1==1)=Nat.testBit b i:=by decide+kernel
 exact h wo hwo i hi
structure aY6 (bD bc:Nat) (c:gQ) (ae:Addr) (n cd i:Nat) (x:Int) (W:World):Prop where
 g0:W.cell? ⟨bc,0,none⟩=some (.int .i64 c.f0)
 g1:W.cell? ⟨bc,1,none⟩=some (.int .i64 c.f1)
 g2:W.cell? ⟨bc,2,none⟩=some (.int .i64 c.f2)
 g3:W.cell? ⟨bD,0,none⟩=some (.slice (some ae) n cd)
 g4:W.cell? (ae.add i)=some (.int .i64 x)
theorem aY7 (R:pU) (hR:arQ R) (cs:List gQ) (hcs:∀ x∈cs,ZI x) (h5:cs.length<=5) (most:Int) (A:Option Addr) (cp n₀:Nat) (d:List Int) (hdl:d.length=cs.length) (hdb:∀ i,-2<=d.getD i 0/\d.getD i 0<=2)
  (Ad:Option Addr) (cd wo:Nat) (hwo:wo<32) (bS bW bD:Nat):
  Iter Tryd.prog 107 #[] #[.pointer (some ⟨bS,0,none⟩),.pointer (some ⟨bW,0,none⟩),.pointer (some ⟨bD,0,none⟩)] bl4 (acB n₀ R A cs cp most Ad cd d wo bS bW bD) XSt (anW R cs d wo):=by
 intro l J Jx W hv hJs aDX hY hj
 have hRb:=hR
 unfold arQ at hRb
 have c0:W.cell? ⟨bS,0,none⟩=some (.int .i64 R.l.f0):=hv.2.1.cell 0 rfl
 refine callsIn_of_wp Tryd.func107 rfl trivial ?_
 simp only[Tryd.ntmps107,List.size_toArray,List.length_cons,List.length_nil,Nat.reduceAdd,Nat.reduceSub,Array.replicate_succ,Array.replicate_zero,List.push_toArray,List.append_toArray,List.nil_append,List.cons_append]
 gi_wp2
 clear c0
 gi_loopw [5] (fun iv wr=>∃ a:Int,(R.l.f0<=a/\a<=R.l.f1+1)/\iv=.int .i64 a/\J (UL R cs d wo a) wr/\acB n₀ R A cs cp most Ad cd d wo bS bW bD wr) (fun iv _=>(R.l.f1+1 - intOf iv).toNat)
 case atStart=>exact⟨R.l.f0,by omega,rfl,by rw[blY];exact hj,hv⟩
 case round=>
  clear hv hj
  obtain⟨a,ha,rfl,kj,kv⟩:=hrel
  have c1:wr.cell? ⟨bS,1,none⟩=some (.int .i64 R.l.f1):=kv.2.1.cell 1 rfl
  have c2:wr.cell? ⟨bS,2,none⟩=some (.int .i64 R.r.f0):=kv.2.1.cell 2 rfl
  by_cases hal:a<=R.l.f1
  ·have hd1:decide (a<=R.l.f1)=true:=decide_eq_true hal
   gi_wp2
   clear c1 c2 hd1
   gi_loopw [6] (fun iv wq=>∃ b:Int,(R.r.f0<=b/\b<=R.r.f1+1)/\iv=.int .i64 b/\J (UL R cs d wo a++PL R cs d wo a b) wq/\acB n₀ R A cs cp most Ad cd d wo bS bW bD wq) (fun iv _=>(R.r.f1+1 - intOf iv).toNat)
   case atStart=>exact⟨R.r.f0,by omega,rfl,by rw[blX,List.append_nil];exact kj,kv⟩
   case round=>
    clear kj kv
    obtain⟨b,hb,rfl,kj,kv⟩:=hrel
    obtain⟨w2,rfl⟩:∃ w2,w2=wr:=⟨_,rfl⟩
    have c3:w2.cell? ⟨bS,3,none⟩=some (.int .i64 R.r.f1):=kv.2.1.cell 3 rfl
    by_cases hbl:b<=R.r.f1
    ·have hd2:decide (b<=R.r.f1)=true:=decide_eq_true hbl
     have c4:w2.cell? ⟨bS,4,none⟩=some (.int .i64 R.t.f0):=kv.2.1.cell 4 rfl
     have c5:w2.cell? ⟨bS,5,none⟩=some (.int .i64 R.t.f1):=kv.2.1.cell 5 rfl
     have c7:w2.cell? ⟨bS,7,none⟩=some (.slice A cs.length cp):=kv.2.1.cell 7 rfl
     have hSl:=kv.2.1.lt
     gi_wp2
     obtain⟨Wt,hWt⟩:∃ Wt,w2.alloc (Obj.cells #[Value.int IntKind.i64 R.t.f0,Value.int IntKind.i64 R.t.f1] 42)=Wt:=⟨_,rfl⟩
     rw[hWt]
     have hbt:Below w2.heap.size w2 Wt:=by rw[<-hWt];exact(Below.refl _ _).alloc (Nat.le_refl _) _
     have hN:Box Wt w2.heap.size #[.int .i64 R.t.f0,.int .i64 R.t.f1] 42:=by rw[<-hWt];exact Box.new _ _ _
     obtain⟨N,hNe⟩:∃ N,w2.heap.size=N:=⟨_,rfl⟩
     rw[hNe]at hN hbt hSl ⊢
     clear c3 c4 c5 c7 hd2 hWt
     gi_loopw [41] (fun iv wq=>∃ i:Nat,i<=cs.length/\iv=.int .i64 i/\Below N w2 wq/\Box wq N #[.int .i64 (EG R a b cs d wo i).f0,.int .i64 (EG R a b cs d wo i).f1] 42) (fun iv _=>(cs.length - intOf iv).toNat)
     case atStart=>exact⟨0,by omega,rfl,hbt,hN⟩
     case round=>
      clear hbt hN
      obtain⟨i,hi,rfl,gb,gN⟩:=hrel
      have lN:=gN.lt
      by_cases hlt:i<cs.length
      ·have hd3:decide ((i:Int)<(cs.length:Int))=true:=decide_eq_true (by omega)
       have hcr:ZI (DC cs i):=hcs _ (getD_mem (by simpa using hlt) _)
       obtain⟨ad,rfl,g0,g1,g2⟩:=aIW (Kd.bJ kv.1.2 (by rw[hNe];exact gb)) i (by omega) (by omega)
       obtain⟨ae,hae,e0⟩:=Kd.BL (Kd.bJ kv.2.2.2.2 (by rw[hNe];exact gb)) i (by omega) (by omega)
       rw[Int.toNat_natCast]at g0 g1 g2 e0
       obtain⟨x,hx⟩:∃ x,d.getD i 0=x:=⟨_,rfl⟩
       have hxb:=hdb i
       have e0:wr.cell? (ae.add i)=some (.int .i64 (d.getD i 0)):=e0
       rw[hx]at e0 hxb
       have Hx:=Lib.hid hx
       obtain⟨c,hce⟩:∃ c,DC cs i=c:=⟨_,rfl⟩
       rw[hce]at hcr g0 g1 g2
       have Hc:=Lib.hid hce
       clear hce hx
       have hbc:Below wr.heap.size wr (wr.alloc (Obj.cells #[Value.int IntKind.i64 c.f0,Value.int IntKind.i64 c.f1,Value.int IntKind.i64 c.f2] 109)):=(Below.refl _ _).alloc (Nat.le_refl _) _
       have kvc:=kv.step (by rw[hNe];exact gb)
       have fW:(wr.alloc (Obj.cells #[Value.int IntKind.i64 c.f0,Value.int IntKind.i64 c.f1,Value.int IntKind.i64 c.f2] 109)).cell? ⟨bW,0,none⟩=some (.int .u64 (wo:Int)):=(kvc.step hbc).2.2.1.cell 0 rfl
       have fD:(wr.alloc (Obj.cells #[Value.int IntKind.i64 c.f0,Value.int IntKind.i64 c.f1,Value.int IntKind.i64 c.f2] 109)).cell? ⟨bD,0,none⟩=some (.slice Ad d.length cd):=(kvc.step hbc).2.2.2.1.cell 0 rfl
       have f6:(wr.alloc (Obj.cells #[Value.int IntKind.i64 c.f0,Value.int IntKind.i64 c.f1,Value.int IntKind.i64 c.f2] 109)).cell? ⟨bS,6,none⟩=some (.int .i64 R.off):=(kvc.step hbc).2.1.cell 6 rfl
       have e1:=jW hbc e0
       have t0:(wr.alloc (Obj.cells #[Value.int IntKind.i64 c.f0,Value.int IntKind.i64 c.f1,Value.int IntKind.i64 c.f2] 109)).cell? ⟨N,0,none⟩=some _:=(gN.step hbc).cell 0 rfl
       have t1:(wr.alloc (Obj.cells #[Value.int IntKind.i64 c.f0,Value.int IntKind.i64 c.f1,Value.int IntKind.i64 c.f2] 109)).cell? ⟨N,1,none⟩=some _:=(gN.step hbc).cell 1 rfl
       subst hae
       have hbit:=bl5 wo i (by omega) hwo
       obtain⟨hm1,hm2⟩:=bl2 (a:=a) (b:=b) (by omega) (by omega) hcr hxb
       clear e0
       by_cases hwb:wo.testBit i=true
       ·have htk:Hid (EG R a b cs d wo (i+1)=EG R a b cs d wo i):=Lib.hid (by rw[EG,if_pos hwb])
        rw[hwb]at hbit
        clear hwb
        gi_wp2
        go_roundw
        case rel=>exact⟨i+1,by omega,by simp,gb.trans (hbc.mono (by omega)),by rw[htk.out];exact gN.step hbc⟩
        case measure=>simp[intOf];omega
       ·have htk:Hid (EG R a b cs d wo (i+1)=QG (EG R a b cs d wo i) ⟨axG a b c x - R.off,axG a b c x+R.off⟩):=Lib.hid (by rw[EG,if_neg hwb,Hc.out,Hx.out])
        rw[Bool.not_eq_true]at hwb
        rw[hwb]at hbit
        clear hwb
        gi_wp2
        have k1:IntKind.i64.wrap (c.f0 - x)=c.f0 - x:=IntWalk.i64_in _ (by unfold ZI aaP at hcr;omega)
        have k2:IntKind.i64.wrap (a*(c.f0 - x))=a*(c.f0 - x):=IntWalk.i64_in _ (by omega)
        have k3:IntKind.i64.wrap (c.f2 - a*(c.f0 - x))=c.f2 - a*(c.f0 - x):=IntWalk.i64_in _ (by unfold ZI aaP at hcr;omega)
        have k4:IntKind.i64.wrap (c.f1+x)=c.f1+x:=IntWalk.i64_in _ (by unfold ZI aaP at hcr;omega)
        have k5:IntKind.i64.wrap (b*(c.f1+x))=b*(c.f1+x):=IntWalk.i64_in _ (by omega)
        have k6:IntKind.i64.wrap (c.f2 - a*(c.f0 - x) - b*(c.f1+x))=c.f2 - a*(c.f0 - x) - b*(c.f1+x):=IntWalk.i64_in _ (by unfold ZI aaP at hcr;omega)
        have hidx:(i:Int)<(d.length:Int):=by omega
        obtain⟨Wc,hWc⟩:∃ Wc,wr.alloc (Obj.cells #[Value.int IntKind.i64 c.f0,Value.int IntKind.i64 c.f1,Value.int IntKind.i64 c.f2] 109)=Wc:=⟨_,rfl⟩
        have hcB:Box Wc wr.heap.size #[Value.int IntKind.i64 c.f0,Value.int IntKind.i64 c.f1,Value.int IntKind.i64 c.f2] 109:=by rw[<-hWc];exact Box.new _ _ _
        rw[hWc]at hbc fW fD f6 e1 t0 t1 ⊢
        obtain⟨bc,aY8⟩:∃ bc,wr.heap.size=bc:=⟨_,rfl⟩
        have aFA:Box Wc bc #[Value.int IntKind.i64 c.f0,Value.int IntKind.i64 c.f1,Value.int IntKind.i64 c.f2] 109:=aY8 ▸ hcB
        have hC:aY6 bD bc c ae d.length cd i x Wc.drew:=⟨aFA.cell 0 rfl,aFA.cell 1 rfl,aFA.cell 2 rfl,fD,e1⟩
        have hgN:=gN.step hbc
        have hgb:=gb.trans (hbc.mono (by omega))
        rw[aY8]
        clear hcB aFA hWc g0 g1 g2 fW fD e1 hbc gb gN hbit
        refine aaF 22 [(0,true),(1,true),(2,true),(3,true),(4,true),(5,true),(6,true),(7,true),(8,true),(9,true),(10,true),(11,true),(12,true),(13,true),(14,true),(15,true),(16,true),(17,true),(18,true),(19,true),(20,true),(21,true)] (aY6 bD bc c ae d.length cd i x) (rZ.of (by kernel_rfl)) rfl (by kernel_rfl) hC ?_
        iterate 22 (apply FD rfl (fun _=>rfl) (by assumption);focus(intro K hK w' hw';obtain⟨g0,g1,g2,g3,g4⟩:=hw';go_simp;exact hK))
        show wpListIn _ _ _ _ _ _ _ _
        simp only[List.drop_succ_cons,List.drop_zero]
        have hbd:Below Wc.heap.size Wc Wc.drew:=(Below.refl _ _).drew
        have aFB:=hgN.step hbd
        have aNG:=hgb.trans (hbd.mono (by have:=hgN.lt;omega))
        have u0:Wc.drew.cell? ⟨N,0,none⟩=some _:=t0
        have u1:Wc.drew.cell? ⟨N,1,none⟩=some _:=t1
        have u6:Wc.drew.cell? ⟨bS,6,none⟩=some (.int .i64 R.off):=f6
        obtain⟨Wd,hWd⟩:∃ Wd,Wc.drew=Wd:=⟨_,rfl⟩
        rw[hWd]at aFB aNG u0 u1 u6 ⊢
        clear hWd hC t0 t1 f6 hbd hgN hgb k1 k2 k3 k4 k5 k6
        obtain⟨q,hq⟩:∃ q,c.f2 - a*(c.f0 - x) - b*(c.f1+x)=q:=⟨_,rfl⟩
        have hqb: -10000<=q/\q<=10000:=by rw[<-hq];unfold ZI aaP at hcr;omega
        have hqw:axG a b c x=q:=hq
        rw[hq]
        rw[hqw]at htk
        clear hq hqw hm1 hm2
        have k7:IntKind.i64.wrap (q - R.off)=q - R.off:=IntWalk.i64_in _ (by omega)
        have k8:IntKind.i64.wrap (q+R.off)=q+R.off:=IntWalk.i64_in _ (by omega)
        gi_wp2
        rw[yZ]
        gi_wp2_with fail
        refine⟨trivial,rfl,?_⟩
        refine(callsIn_wide.2 (aD0 (EG R a b cs d wo i) ⟨q - R.off,q+R.off⟩ _)).mono ?_
        rintro e w3 ⟨rfl,hb3⟩
        have g3:=aFB.step hb3
        have hg3:=aNG.trans (hb3.mono (by have:=aFB.lt;omega))
        have q0:w3.cell? ⟨N,0,none⟩=some _:=g3.cell 0 rfl
        have q1:w3.cell? ⟨N,1,none⟩=some _:=g3.cell 1 rfl
        have qf:=fun i=>g3.frozen i
        clear u0 u1 u6 aFB aNG hb3 k7 k8
        gi_wp2
        go_roundw
        case rel=>exact⟨i+1,by omega,by simp,(hg3.setCell (p:=⟨N,0,none⟩) (by simp) _).setCell (p:=⟨N,1,none⟩) (by simp) _,by rw[htk.out];exact(g3.set 0 _).set 1 _⟩
        case measure=>simp[intOf];omega
      ·obtain rfl:i=cs.length:=by omega
       have hd3:decide ((cs.length:Int)<(cs.length:Int))=false:=decide_eq_false (by omega)
       have kvc:=kv.step (by rw[hNe];exact gb)
       have kjc:=hJs _ _ _ kj (show Below _ _ _ by rw[hNe];exact gb)
       have t0:wr.cell? ⟨N,0,none⟩=some (.int .i64 (EG R a b cs d wo cs.length).f0):=gN.cell 0 rfl
       have t1:wr.cell? ⟨N,1,none⟩=some (.int .i64 (EG R a b cs d wo cs.length).f1):=gN.cell 1 rfl
       have hpf:=bl1 R cs d wo (a:=a) (b:=b) (by omega) (by omega)
       have hbn:Hid (PL R cs d wo a (b+1)=PL R cs d wo a b++anV R cs d wo a b):=Lib.hid (aY3 R cs d wo a hb.1)
       by_cases hq:(EG R a b cs d wo cs.length).f0<=(EG R a b cs d wo cs.length).f1
       ·have hat:anV R cs d wo a b=[(a,b,EG R a b cs d wo cs.length)]:=if_pos hq
        rw[hat]at hpf hbn
        have hd4:decide ((EG R a b cs d wo cs.length).f0<=(EG R a b cs d wo cs.length).f1)=true:=decide_eq_true hq
        have hYa:=hY (UL R cs d wo a++PL R cs d wo a b) _ _ wr kjc kvc hpf rfl
        obtain⟨fn,tmps,assign,body,hy,aZB⟩:=hYa
        have hR':=Lib.hid aZB
        have hpr:=hpf
        clear aZB hpf hat hq
        gi_wp2_with fail
        refine⟨rfl,?_⟩
        refine hR'.out.mono ?_
        rintro e W2 (⟨rfl,hj2,hv2⟩|⟨rfl,hx2⟩)
        ·clear t0 t1 hd3 hd4
         gi_wp2
         go_roundw
         case rel=>exact⟨b+1,by omega,rfl,by rw[hbn.out,<-List.append_assoc];exact hj2,hv2⟩
         case measure=>simp[intOf];omega
        ·clear t0 t1 hd3 hd4
         gi_wp2
         refine bodyPost_ret (results_none rfl _ _ _) rfl ?_
         exact⟨⟨_,rfl⟩,.inr ⟨_,hpr,hx2⟩⟩
       ·have hat:anV R cs d wo a b=[]:=if_neg hq
        rw[hat,List.append_nil]at hbn
        have hd4:decide ((EG R a b cs d wo cs.length).f0<=(EG R a b cs d wo cs.length).f1)=false:=decide_eq_false hq
        clear hat hq hpf
        gi_wp2
        refine⟨fun f hf=>(by cases hf),?_⟩
        gi_wp2
        go_roundw
        case rel=>exact⟨b+1,by omega,rfl,by rw[hbn.out];exact kjc,kvc⟩
        case measure=>simp[intOf];omega
    ·obtain rfl:b=R.r.f1+1:=by omega
     have hd2:decide (R.r.f1+1<=R.r.f1)=false:=decide_eq_false (by omega)
     have han:Hid (UL R cs d wo (a+1)=UL R cs d wo a++PL R cs d wo a (R.r.f1+1)):=Lib.hid (aY4 R cs d wo ha.1)
     gi_wp2
     refine⟨⟨a+1,by omega,rfl,by rw[han.out];exact kj,kv⟩,by simp[intOf];omega⟩
  ·obtain rfl:a=R.l.f1+1:=by omega
   have hd1:decide (R.l.f1+1<=R.l.f1)=false:=decide_eq_false (by omega)
   gi_wp2
   go_end0
   exact⟨⟨_,rfl⟩,.inl ⟨kj,kv⟩⟩
abbrev kLs:Kd (List Int):=Kd.slice 3 (Kd.int .i64)
def uX (W:World) (n₀:Nat) (v:Value) (xs:List (List Int)):Prop:=Kd.R kLs 34 W n₀ (fun _=>True) v xs/\(xs=[]->v=.slice none 0 0)
theorem uX.nil (W:World) (n₀:Nat):uX W n₀ (.slice none 0 0) []:=⟨Kd.xI _ _ _ _ _,fun _=>rfl⟩
theorem uX.step {W W':World} {n₀:Nat} {v:Value} {xs:List (List Int)} (h:uX W n₀ v xs) (hb:Below W.heap.size W W'):uX W' n₀ v xs:=⟨Kd.rY h.1 hb,h.2⟩
theorem uX.xW {W W':World} {n₀ B:Nat} {v:Value} {xs:List (List Int)} (h:uX W n₀ v xs) (hi:nM B W W'):uX W' n₀ v xs:=
 ⟨Kd.bQ (Kd.apZ (Kd.adZ h.1) (fun k hk=>by
  obtain⟨_,_,_,q,_,cells,hc⟩:=hk
  exact(hi.keep k _ hc (.inr rfl)).trans hc.symm)) (fun _ _=>trivial),h.2⟩
theorem uX.set {W:World} {n₀ b t:Nat} {v:Value} {vs:Array Value} {xs:List (List Int)} (h:uX W n₀ v xs) (hb:Box W b vs t) (ht:t≠34/\t≠3) (j:Nat) (u:Value):uX (W.setCell ⟨b,j,none⟩ u) n₀ v xs:=
 ⟨Kd.a9J h.1 hb (fun q hq=>by
  simp only[Kd.slice,Kd.int,Kd.scalar,List.mem_cons,List.not_mem_nil,or_false]at hq
  rcases hq with rfl|rfl
  ·exact ht.1.symm
  ·exact ht.2.symm) j u,h.2⟩
theorem uX.slice {W:World} {n₀:Nat} {v:Value} {xs:List (List Int)} (h:uX W n₀ v xs):∃ A c,v=.slice A xs.length c:=Kd.dA h.1
theorem bl8 {W:World} {n₀:Nat} {v y:Value} {xs:List (List Int)} {d:List Int} (h:uX W n₀ v xs) (hs:n₀<=W.heap.size) (hy:eH W n₀ y d) (hn:xs.length<=1000000):
  ∃ v' W',(Builtin.append_ #[56,56] 56 #[v,.slice (some ⟨W.heap.size,0,none⟩) 1 1]).run Tryd.prog (W.alloc (.cells #[y] 34))=.ok v' W'/\uX W' n₀ v' (xs++[d])/\W.grownBy W' v.ownBlock/\(∀ k,v.ownBlock=some k->n₀<=k/\∃ cells,W.heap[k]? =some (.cells cells 34 (0,0))):=by
 obtain⟨i3,hi3,hz3⟩:=Option.map_eq_some_iff.1 ba1
 simp only[Prod.mk.injEq]at hz3
 obtain⟨hz0,hz1,hz2⟩:=hz3
 obtain⟨W1,hW1⟩:∃ W1,W.alloc (.cells #[y] 34)=W1:=⟨_,rfl⟩
 have hb1:Below W.heap.size W W1:=by rw[<-hW1];exact(Below.refl _ _).alloc (Nat.le_refl _) _
 have h1:=(h.step hb1).1
 have hy1:=hy.below' hb1
 have hown:∀ k,v.ownBlock=some k->n₀<=k/\∃ cells,W.heap[k]? =some (.cells cells 34 (0,0)):=fun k hk=>by
  obtain⟨_,inner,ho,_⟩:=h.1
  exact⟨own_base ho k hk,OM ho k hk⟩
 obtain⟨Ay,cy,hye⟩:=hy.slice
 have hcell:W1.cell? ⟨W.heap.size,0,none⟩=some y:=by rw[<-hW1];exact(Box.new W #[y] 34).cell 0 rfl
 obtain⟨h0,inner,ho,hr⟩:=h1
 obtain⟨v',W',hrun,hown',hg,hnil,hat⟩:=run_append_own_at (P:=Tryd.prog) W1 n₀ 56 56 34 i3 (.slice none 0 0) 1 24 Tryd.underlying56 hi3 hz0 hz1 hz2 rfl (by decide) v xs.length inner ho ⟨W.heap.size,0,none⟩ 1 1 [y] rfl
  (by
    intro j u hj
    match j,hj with
    |0,hj=>simp at hj;subst hj;simpa[Addr.add]using hcell)
  (by intro u hu;rw[List.mem_singleton.1 hu,hye];rfl) (by unfold maxLen;omega) (by omega) (by have:=hb1.size;omega)
 rw[hW1]
 refine⟨v',W',hrun,⟨?_,fun he=>by simp at he⟩,?_,hown⟩
 ·have hne:∀ k,y.ownBlock=some k->some k≠v.ownBlock:=by
   intro k hk he
   obtain⟨cells,hc⟩:=OM hy k hk
   obtain⟨_,cells',hc'⟩:=hown k he.symm
   rw[hc]at hc'
   simp at hc'
  refine Kd.aII (lS:=fun k=>some k≠v.ownBlock) h0 hr (cs:=[y]) ⟨y,rfl,Kd.ag9 hy1 (fun k hk=>hne k hk)⟩ (fun k hk=>⟨trivial,hk⟩) (fun _ _=>trivial) hown' hg ?_
  rcases hat with hat|hat
  ·exact .inl hat
  ·exact .inr ⟨_,hat,Nat.le_refl _⟩
 ·exact⟨hg.os.trans hb1.os,hg.tape.trans hb1.tape,hg.output.trans hb1.output,Nat.le_trans hb1.size hg.size,fun k hk hne=>(hg.block k (by have:=hb1.size;omega) hne).trans (hb1.block k hk)⟩
theorem bl9 {a b:Int} (h:b - a<=4):(NC a b).length<=5:=by
 unfold NC
 simp
 omega
theorem bmA (a b:Int):a<=mx a b/\b<=mx a b:=by unfold mx;split<;>omega
theorem bmB (a b:Int):mn a b<=a/\mn a b<=b:=by unfold mn;split<;>omega
theorem bmC (most:Int) (hm:0<=most/\most<=2) (cs:List gQ):∀ (k:Nat) (d:List Int) (sum up:Int),(∀ i,-2<=d.getD i 0/\d.getD i 0<=2)->
  (XP most cs k d sum up).length<=5^k/\∀ x∈XP most cs k d sum up,x.length=d.length+k/\∀ i,-2<=x.getD i 0/\x.getD i 0<=2:=by
 intro k
 induction k with
 |zero=>
  intro d sum up hd
  unfold XP
  split
  ·exact⟨by simp,fun x hx=>by obtain rfl:=List.mem_singleton.1 hx;exact⟨rfl,hd⟩⟩
  ·exact⟨by simp,fun x hx=>by cases hx⟩
 |succ k ih=>
  intro d sum up hd
  have hb1:=bmA (-most) (-(DC cs d.length).f1)
  have hb2:=bmB most (DC cs d.length).f0
  have step:∀ n∈NC (mx (-most) (-(DC cs d.length).f1)) (mn most (DC cs d.length).f0),∀ i,-2<=(d++[n]).getD i 0/\(d++[n]).getD i 0<=2:=by
   intro n hn i
   have hn:=blH.1 hn
   rw[List.getD_eq_getElem?_getD]
   by_cases h:i<d.length
   ·rw[List.getElem?_append_left h,<-List.getD_eq_getElem?_getD]
    exact hd i
   ·rw[List.getElem?_append_right (by omega)]
    by_cases h2:i=d.length
    ·subst h2;simp;omega
    ·rw[List.getElem?_eq_none (by simp;omega)];simp
  refine⟨?_,?_⟩
  ·have hl:=bl9 (a:=mx (-most) (-(DC cs d.length).f1)) (b:=mn most (DC cs d.length).f0) (by omega)
   unfold XP
   have key:∀ (l:List Int) (f:Int->List (List Int)),(∀ n∈l,(f n).length<=5^k)->(l.flatMap f).length<=l.length*5^k:=by
    intro l f
    induction l with
    |nil=>intro _;simp
    |cons a l ih2=>
     intro h
     rw[List.flatMap_cons,List.length_append,List.length_cons,Nat.succ_mul]
     have h1:=h a List.mem_cons_self
     have h2:=ih2 (fun n hn=>h n (List.mem_cons_of_mem _ hn))
     omega
   refine Nat.le_trans (key _ _ ?_) ?_
   ·intro n hn
    split
    ·exact(ih _ _ _ (step n hn)).1
    ·simp
   ·rw[Nat.pow_succ,Nat.mul_comm (5^k)]
    exact Nat.mul_le_mul_right _ hl
  ·intro x hx
   unfold XP at hx
   obtain⟨n,hn,hx⟩:=List.mem_flatMap.1 hx
   split at hx
   ·obtain⟨h1,h2⟩:=(ih _ _ _ (step n hn)).2 x hx
    exact⟨by rw[h1];simp;omega,h2⟩
   ·cases hx
theorem arS {most:Int} (hm:0<=most/\most<=2) {cs:List gQ} (h5:cs.length<=5):(exL most cs).length<=3125/\∀ x∈exL most cs,x.length=cs.length/\∀ i,-2<=x.getD i 0/\x.getD i 0<=2:=by
 obtain⟨h1,h2⟩:=bmC most hm cs cs.length [] 0 0 (by intro i;simp)
 refine⟨Nat.le_trans h1 (Nat.le_trans (Nat.pow_le_pow_right (by omega) h5) (by decide)),fun x hx=>?_⟩
 obtain⟨h3,h4⟩:=h2 x hx
 exact⟨by simpa using h3,h4⟩
theorem XQ.xW {n₀ B:Nat} {A:Option Addr} {cs:List gQ} {X Y:World} (h:XQ n₀ A cs X) (hi:nM B X Y):XQ n₀ A cs Y:=
 ⟨Nat.le_trans h.1 hi.size,EY.of_cells h.2 (fun _ _ hc=>hi.cell hc) (fun _ _ hc=>hc)⟩
theorem acB.xW {n₀ B:Nat} {R:pU} {A:Option Addr} {cs:List gQ} {cp:Nat} {most:Int} {Ad:Option Addr} {cd:Nat} {d:List Int} {wo bS bW bD:Nat} {X Y:World}
  (h:acB n₀ R A cs cp most Ad cd d wo bS bW bD X) (hi:nM B X Y):acB n₀ R A cs cp most Ad cd d wo bS bW bD Y:=
 ⟨h.1.xW hi,hi.box h.2.1,hi.box h.2.2.1,hi.box h.2.2.2.1,EY.of_cells h.2.2.2.2 (fun _ _ hc=>hi.cell hc) (fun _ _ hc=>hc)⟩
theorem qK.xW {B T:Nat} {W X Y:World} (h:qK B W X) (hi:nM T X Y):qK B W Y:=
 ⟨Nat.le_trans h.size hi.size,fun k o hk hB ho=>hi.keep k o (h.keep k o hk hB ho) (.inr (by cases o<;>first|rfl|simp[aKP]at ho))⟩
theorem iZ.aiT {W X Y:World} (h:iZ W X) {row:Option Nat} (hg:X.grownBy Y row) (hr:∀ k,row=some k->∃ cells,X.heap[k]? =some (.cells cells 34 (0,0))):iZ W Y:=fun k o hk ho=>by
 have h1:=h k o hk ho
 refine(hg.block k (lt_of_block h1) (fun e=>?_)).trans h1
 obtain⟨cells,hc⟩:=hr k e.symm
 rw[hc]at h1
 cases h1
 cases ho
theorem qK.aiT {B:Nat} {W X Y:World} (h:qK B W X) {row:Option Nat} (hg:X.grownBy Y row) (hr:∀ k,row=some k->∃ cells,X.heap[k]? =some (.cells cells 34 (0,0))):qK B W Y:=
 ⟨Nat.le_trans h.size hg.size,fun k o hk hB ho=>by
  have h1:=h.keep k o hk hB ho
  refine(hg.block k (lt_of_block h1) (fun e=>?_)).trans h1
  obtain⟨cells,hc⟩:=hr k e.symm
  rw[hc]at h1
  cases h1
  cases ho⟩
theorem qK.bmD {B b i:Nat} {W X:World} (h:qK B W X) (hb:b<B) (v:Value):qK B W (X.setCell ⟨b,i,none⟩ v):=
 ⟨Nat.le_trans h.size (by simp),fun k o hk hB ho=>(Below.heap_setCell X ⟨b,i,none⟩ v k (by simp;omega)).trans (h.keep k o hk hB ho)⟩
theorem Box.aiT {X Y:World} {b:Nat} {vs:Array Value} {t:TypeId} (h:Box X b vs t) {row:Option Nat} (hg:X.grownBy Y row) (hr:∀ k,row=some k->∃ cells,X.heap[k]? =some (.cells cells 34 (0,0))) (ht:t≠34):Box Y b vs t:=by
 refine(hg.block b h.lt (fun e=>?_)).trans h
 obtain⟨cells,hc⟩:=hr b e.symm
 rw[h]at hc
 simp at hc
 exact ht hc.2
end Go.Proofs.YtcmfnebcmmklkaaDoor.Hand
