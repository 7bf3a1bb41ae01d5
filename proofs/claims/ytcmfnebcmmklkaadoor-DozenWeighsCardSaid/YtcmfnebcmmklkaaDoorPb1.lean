/- What DozenWeighs reaches beyond the shared texts, and its card. Part 1 of 6. -/
import Derived.Test.YtcmfnebcmmklkaaDoorRows
import Derived.Test.YtcmfnebcmmklkaaDoorM3
import Derived.WalkKit
import Derived.ProofKit
import Derived.OpenShut
import Derived.Deep.DeepHandedRow
import Derived.Deep.Slices
import Derived.Lib.LaidTab
import Derived.Stop.LaidErr
import Derived.Below
import Derived.ChangeOld
import Derived.SizedLaws
import Derived.Test.YtcmfnebcmmklkaaDoorM9
import Derived.Test.YtcmfnebcmmklkaaDoorM1
import Derived.Test.YtcmfnebcmmklkaaDoorM12
import Derived.Test.YtcmfnebcmmklkaaDoorM6
import Derived.Test.YtcmfnebcmmklkaaDoorM5
import Derived.Test.YtcmfnebcmmklkaaDoorM13
import Derived.Test.YtcmfnebcmmklkaaDoorM8
import Derived.Test.YtcmfnebcmmklkaaDoorM4
import Derived.Test.YtcmfnebcmmklkaaDoorM11
import Derived.Test.YtcmfnebcmmklkaaDoorM15
set_option linter.unusedVariables false
set_option linter.unusedSimpArgs false
set_option maxRecDepth 100000
set_option maxHeartbeats 8000000
namespace Go.Proofs.YtcmfnebcmmklkaaDoor.Hand
open Go.ChangeShapes Go.WideShapes Go.ChangeAt Go.RowKit Go.Deep Go.Proofs.YtcmfnebcmmklkaaDoorW.dQ Go.Proofs.YtcmfnebcmmklkaaDoor.Q
theorem own:ownKnob Tryd.prog.godebug=none:=by kernel_rfl
theorem laidOut:laidOutB Tryd.prog=true:=by kernel_rfl
theorem cells42:Tryd.prog.cellsOf 42=2:=by kernel_rfl
theorem bzF:Tryd.prog.cellsOf 109=3:=by kernel_rfl
theorem cells53:Tryd.prog.cellsOf 53=7:=by kernel_rfl
theorem g64:Tryd.prog.globalNamed "math/bits.deBruijn64tab" =some 1:=by kernel_rfl
section
variable {H:Type} {enc:TypeId×Value->H} {w:World} {base:Nat} {spare:Nat->Bool} {held:Bool}
theorem ajM {n:Nat} {cs:List Value} {x:DataW H×List MemPlace} (h:DataW.trod enc Tryd.prog w base spare held n 42 cs=some x):∃ y:aH,cs=[.int .i64 y.f0,.int .i64 y.f1]:=by
 obtain⟨xs,m,rfl,rfl,hl,hx,hf⟩:=DataW.trod_struct Tryd.underlying42 h
 rw[cells42]at hl
 match cs,hl with
 |[c0,c1],_=>
  have h0:=hf 0 _ rfl
  have h1:=hf 1 _ rfl
  match xs,hx with
  |[y0,y1],_=>
   obtain⟨i0,e0,_,_⟩:=DataW.trod_int Tryd.underlying3 (show DataW.trod enc Tryd.prog w base spare held m 3 [c0]=some y0 from h0)
   obtain⟨i1,e1,_,_⟩:=DataW.trod_int Tryd.underlying3 (show DataW.trod enc Tryd.prog w base spare held m 3 [c1]=some y1 from h1)
   simp only[List.cons.injEq,and_true]at e0 e1
   exact⟨⟨i0,i1⟩,by rw[e0,e1]⟩
theorem bF1 {n:Nat} {cs:List Value} {x:DataW H×List MemPlace} (h:DataW.trod enc Tryd.prog w base spare held n 109 cs=some x):∃ y:gQ,cs=[.int .i64 y.f0,.int .i64 y.f1,.int .i64 y.f2]:=by
 obtain⟨xs,m,rfl,rfl,hl,hx,hf⟩:=DataW.trod_struct Tryd.underlying109 h
 rw[bzF]at hl
 match cs,hl with
 |[c0,c1,c2],_=>
  have h0:=hf 0 _ rfl
  have h1:=hf 1 _ rfl
  have h2:=hf 2 _ rfl
  match xs,hx with
  |[y0,y1,y2],_=>
   obtain⟨i0,e0,_,_⟩:=DataW.trod_int Tryd.underlying3 (show DataW.trod enc Tryd.prog w base spare held m 3 [c0]=some y0 from h0)
   obtain⟨i1,e1,_,_⟩:=DataW.trod_int Tryd.underlying3 (show DataW.trod enc Tryd.prog w base spare held m 3 [c1]=some y1 from h1)
   obtain⟨i2,e2,_,_⟩:=DataW.trod_int Tryd.underlying3 (show DataW.trod enc Tryd.prog w base spare held m 3 [c2]=some y2 from h2)
   simp only[List.cons.injEq,and_true]at e0 e1 e2
   exact⟨⟨i0,i1,i2⟩,by rw[e0,e1,e2]⟩
theorem bF2 {b0:Nat} {v:Value} {d:DataW H} {p:List MemPlace} (hv:Value.okWide Tryd.prog w .any b0 54 v) (h:DataW.Trod enc Tryd.prog w base spare held 54 v d p):
  ∃ (A:Option Addr) (l:List gQ) (c:Nat),v=.slice A l.length c/\l.length<=c/\Kd.C vC w A l.length l:=by
 obtain⟨A,n,c,rfl⟩:=okWide_slice Tryd.underlying54 hv
 obtain⟨fuel,hf⟩:=h
 rcases open_slice Tryd.underlying54 hf with⟨hcs,_⟩|⟨a,len,cap,m,k,D,Pl,hcs,_,hl,hm,hmm,_,hi⟩
 ·simp[Value.cells]at hcs
  obtain⟨rfl,rfl,rfl⟩:=hcs
  exact⟨none,[],0,rfl,Nat.le_refl _,rfl,by simp,fun h=>absurd h (by simp)⟩
 ·simp[Value.cells]at hcs
  obtain⟨rfl,rfl,rfl⟩:=hcs
  have hlm:n<=m:=by rw[hmm];split<;>omega
  have hel:∀ i,i<n->∃ y:gQ,∀ j u,[Value.int .i64 y.f0,.int .i64 y.f1,.int .i64 y.f2][j]? =some u->w.cell? (a.add (i*3+j))=some u:=by
   intro i hin
   obtain⟨cs',hc,ht⟩:=hi i (by omega)
   rw[bzF]at hc
   obtain⟨y,rfl⟩:=bF1 ht
   refine⟨y,fun j u hj=>?_⟩
   obtain⟨_,_,hat⟩:=World.cells?_some hc
   obtain⟨hjl,hju⟩:=List.getElem?_eq_some_iff.1 hj
   have:=hat j (by simpa using hjl)
   rw[<-Go.Deep.add_add,this]
   exact hj
  obtain⟨f,hf⟩:∃ f:Nat->gQ,∀ i,i<n->∀ j u,[Value.int .i64 (f i).f0,.int .i64 (f i).f1,.int .i64 (f i).f2][j]? =some u->w.cell? (a.add (i*3+j))=some u:=
   haveI:Inhabited gQ:=⟨z109⟩
   choose_lt (p:=fun i (y:gQ)=>∀ j u,[Value.int .i64 y.f0,.int .i64 y.f1,.int .i64 y.f2][j]? =some u->w.cell? (a.add (i*3+j))=some u) hel
  refine⟨some a,(List.range n).map f,c,by simp,by simpa using hl,?_⟩
  rw[show((List.range n).map f).length=n by simp]
  refine⟨by simp,by simp[maxLen]at hm;omega,fun _=>⟨a,rfl,fun j p hj=>?_⟩⟩
  obtain⟨hjl,hp⟩:=List.getElem?_eq_some_iff.1 hj
  simp at hjl hp
  subst hp
  exact⟨_,rfl,bLN w (f j),hf j hjl⟩
theorem bF3 {b0:Nat} {v:Value} {d:DataW H} {p:List MemPlace} (hv:Value.okWide Tryd.prog w .any b0 53 v) (h:DataW.Trod enc Tryd.prog w base spare held 53 v d p):∃ a b c d e f g:Int,v=.agg #[.int .i64 a,.int .i64 b,.int .i64 c,.int .i64 d,.int .i64 e,.int .i64 f,.int .i64 g]:=by
 obtain⟨cs,rfl,hsz⟩:=okWide_struct Tryd.underlying53 hv
 rw[cells53]at hsz
 obtain⟨fuel,hf⟩:=h
 obtain⟨xs,m,rfl,_,hl,hx,hf⟩:=DataW.trod_struct Tryd.underlying53 hf
 obtain⟨l⟩:=cs
 match l,hsz with
 |[c0,c1,c2,c3,c4,c5,c6],_=>
  have h0:=hf 0 _ rfl
  have h1:=hf 1 _ rfl
  have h2:=hf 2 _ rfl
  have h3:=hf 3 _ rfl
  match xs,hx with
  |[y0,y1,y2,y3],_=>
   obtain⟨s0,e0⟩:=ajM (show DataW.trod enc Tryd.prog w base spare held m 42 [c0,c1]=some y0 from h0)
   obtain⟨s1,e1⟩:=ajM (show DataW.trod enc Tryd.prog w base spare held m 42 [c2,c3]=some y1 from h1)
   obtain⟨s2,e2⟩:=ajM (show DataW.trod enc Tryd.prog w base spare held m 42 [c4,c5]=some y2 from h2)
   obtain⟨i3,e3,_,_⟩:=DataW.trod_int Tryd.underlying3 (show DataW.trod enc Tryd.prog w base spare held m 3 [c6]=some y3 from h3)
   simp only[List.cons.injEq,and_true]at e0 e1 e2 e3
   exact⟨s0.f0,s0.f1,s1.f0,s1.f1,s2.f0,s2.f1,i3,by rw[e0.1,e0.2,e1.1,e1.2,e2.1,e2.2,e3]⟩
theorem a5Q {b0:Nat} {v:Value} {d:DataW H} {p:List MemPlace} (hv:Value.okWide Tryd.prog w .any b0 3 v) (h:DataW.Trod enc Tryd.prog w base spare held 3 v d p):∃ a:Int,v=.int .i64 a:=by
 obtain⟨a,e,_⟩:=open_int Tryd.underlying3 hv h
 exact⟨a,e⟩
end
theorem azI {W:World} (h:laidMetH Tryd.prog Rows.dozenLotsRow.laid W):lZ W:=by
 have h2:Lib.TabIs Tryd.prog W "math/bits.deBruijn64tab" .u8 (Lib.deBruijn64tab.map fun(n:Nat)=>(n:Int)):=
  Lib.tabIs_of_head (rest:=[]) (g:=1) (t:=Tryd.prog.globals[1]!.type) (n:=64) (e:=5) g64 (by kernel_rfl) (by kernel_rfl) (by kernel_rfl) (by kernel_rfl) (by kernel_rfl) (laidMet.tail h)
 have hc:∀ j,j<Lib.deBruijn64tab.length->W.cell? ⟨1,j,none⟩=some (.int .u8 (Lib.deBruijn64tab.getD j 0)):=by
  intro j hj
  have:=h2.cell g64 j (by simpa using hj)
  rw[this]
  simp[List.getD_eq_getElem?_getD,List.getElem?_eq_getElem hj]
 exact⟨World.block_lt_of_cell? W ⟨1,0,none⟩ (hc 0 (by decide)),hc⟩
end Go.Proofs.YtcmfnebcmmklkaaDoor.Hand
namespace Go.Proofs.YtcmfnebcmmklkaaDoor.Hand
open Go.RowKit Go.Shelf Go.Proofs.YtcmfnebcmmklkaaDoorW.dQ Go.Proofs.YtcmfnebcmmklkaaDoorW.gG Go.Proofs.YtcmfnebcmmklkaaDoor.Q
def iv (s:aH):Iv:=(s.f0,s.f1)
theorem aoS (a b:Int):mx a b=max a b:=by unfold mx;split<;>omega
theorem aoT (a b:Int):mn a b=min a b:=by unfold mn;split<;>omega
open Classical in
attribute [local go_sem] Oper.semAt_some run_store_func
structure yB (w:World) (vs:Array Value) (g c M:Nat) (bs:List Nat) (R:Nat->List Bool) (gs n:Nat) (SP:List aH) (W:World):Prop where
 r:Rows W w.heap.size g c (M+1) bs R
 x:Box W w.heap.size vs 25
 b:Below w.heap.size w W
 sp:mP W w.heap.size (.slice (some ⟨gs,0,none⟩) n n) SP
theorem yB.step {w:World} {vs:Array Value} {g c M:Nat} {bs:List Nat} {R:Nat->List Bool} {gs n:Nat} {SP:List aH} {W W':World} (h:yB w vs g c M bs R gs n SP W) (hb:Below W.heap.size W W'):yB w vs g c M bs R gs n SP W':=
 ⟨h.r.step hb,h.x.step hb,h.b.trans (hb.mono h.b.size),own_below h.sp hb⟩
theorem Rows.congr {W:World} {n₀ g c m:Nat} {bs:List Nat} {R R':Nat->List Bool} (h:Rows W n₀ g c m bs R) (hR:∀ j,j<bs.length->R' j=R j):Rows W n₀ g c m bs R':=
 ⟨h.own,fun j hj=>by rw[hR j hj];exact h.row j hj,h.far⟩
structure SQ (N:Nat) (v0 v1:Value) (W:World):Prop where
 g0:W.cell? ⟨N,0,none⟩=some v0
 g1:W.cell? ⟨N,1,none⟩=some v1
theorem SQ.step {N:Nat} {v0 v1:Value} {W W':World} (h:SQ N v0 v1 W) (hb:Below W.heap.size W W'):SQ N v0 v1 W':=⟨jW hb h.g0,jW hb h.g1⟩
def wM (p0 p1 p2 p3 p4 p11 p12 p13 zV zW p16 p52 p56 zX zY zZ p25 p26 p27 p28 p29 p30 p31 p32 p33 p34 p35 p36 p37 p38 p39 v17 v54 v57:Value) (a:Act):Prop:=
 ∃ u:Nat->Value,a={ tmps:=#[p0,p1,p2,p3,p4,undef,undef,undef,u 8,u 9,u 10,p11,p12,p13,zV,zW,p16,v17,u 18,u 19,u 20,u 21,zX,zY,zZ,p25,p26,p27,p28,p29,p30,p31,p32,p33,p34,p35,p36,p37,p38,p39,u 40,u 41,u 42,u 43,u 44,u 45,u 46,u 47,u 48,u 49,u 50,u 51,p52,p3,v54,p13,p56,v57,u 58,u 59,u 60,u 61,u 62,u 63,u 64,u 65,u 66,u 67,u 68,u 69,u 70,u 71,u 72,u 73,u 74,u 75,u 76,u 77,u 78,u 79,u 80,u 81,u 82,u 83,u 84,u 85,u 86,u 87,u 88,u 89,u 90,u 91,u 92,u 93,u 94,u 95,u 96,u 97,u 98,u 99,u 100,u 101,u 102,u 103,u 104,u 105,u 106,u 107,u 108,u 109,u 110,u 111,u 112,u 113,u 114,u 115,u 116,u 117,u 118,u 119,u 120,u 121,undef,undef,undef,undef,undef,undef],defers:=[]}
theorem wM.elim {C:Act->Prop} {p0 p1 p2 p3 p4 p11 p12 p13 zV zW p16 p52 p56 zX zY zZ p25 p26 p27 p28 p29 p30 p31 p32 p33 p34 p35 p36 p37 p38 p39 v17 v54 v57:Value} {a:Act} (h:wM p0 p1 p2 p3 p4 p11 p12 p13 zV zW p16 p52 p56 zX zY zZ p25 p26 p27 p28 p29 p30 p31 p32 p33 p34 p35 p36 p37 p38 p39 v17 v54 v57 a) (hC:∀ u:Nat->Value,C { tmps:=#[p0,p1,p2,p3,p4,undef,undef,undef,u 8,u 9,u 10,p11,p12,p13,zV,zW,p16,v17,u 18,u 19,u 20,u 21,zX,zY,zZ,p25,p26,p27,p28,p29,p30,p31,p32,p33,p34,p35,p36,p37,p38,p39,u 40,u 41,u 42,u 43,u 44,u 45,u 46,u 47,u 48,u 49,u 50,u 51,p52,p3,v54,p13,p56,v57,u 58,u 59,u 60,u 61,u 62,u 63,u 64,u 65,u 66,u 67,u 68,u 69,u 70,u 71,u 72,u 73,u 74,u 75,u 76,u 77,u 78,u 79,u 80,u 81,u 82,u 83,u 84,u 85,u 86,u 87,u 88,u 89,u 90,u 91,u 92,u 93,u 94,u 95,u 96,u 97,u 98,u 99,u 100,u 101,u 102,u 103,u 104,u 105,u 106,u 107,u 108,u 109,u 110,u 111,u 112,u 113,u 114,u 115,u 116,u 117,u 118,u 119,u 120,u 121,undef,undef,undef,undef,undef,undef],defers:=[]}):C a:=by
 obtain⟨u,rfl⟩:=h
 exact hC u
theorem wM.mk (p0 p1 p2 p3 p4 p11 p12 p13 zV zW p16 p52 p56 zX zY zZ p25 p26 p27 p28 p29 p30 p31 p32 p33 p34 p35 p36 p37 p38 p39 v17 v54 v57 u8 u9 u10 EM u19 u20 u21 u40 u41 u42 u43 u44 u45 u46 u47 u48 u49 u50 u51 u58 u59 u60 u61 u62 u63 u64 u65 u66 u67 u68 u69 u70 u71 u72 u73 u74 u75 u76 u77 u78 u79 u80 u81 u82 u83 u84 u85 u86 u87 u88 u89 u90 u91 u92 u93 u94 u95 u96 u97 u98 u99 akM akN akO akP akQ u105 akR akS akT akU akV akW akX akY akZ ak0 ak1 ak2 ak3 u119 ak4 ak5:Value):wM p0 p1 p2 p3 p4 p11 p12 p13 zV zW p16 p52 p56 zX zY zZ p25 p26 p27 p28 p29 p30 p31 p32 p33 p34 p35 p36 p37 p38 p39 v17 v54 v57 { tmps:=#[p0,p1,p2,p3,p4,undef,undef,undef,u8,u9,u10,p11,p12,p13,zV,zW,p16,v17,EM,u19,u20,u21,zX,zY,zZ,p25,p26,p27,p28,p29,p30,p31,p32,p33,p34,p35,p36,p37,p38,p39,u40,u41,u42,u43,u44,u45,u46,u47,u48,u49,u50,u51,p52,p3,v54,p13,p56,v57,u58,u59,u60,u61,u62,u63,u64,u65,u66,u67,u68,u69,u70,u71,u72,u73,u74,u75,u76,u77,u78,u79,u80,u81,u82,u83,u84,u85,u86,u87,u88,u89,u90,u91,u92,u93,u94,u95,u96,u97,u98,u99,akM,akN,akO,akP,akQ,u105,akR,akS,akT,akU,akV,akW,akX,akY,akZ,ak0,ak1,ak2,ak3,u119,ak4,ak5,undef,undef,undef,undef,undef,undef],defers:=[]}:=
 ⟨fun k=>(#[p0,p1,p2,p3,p4,undef,undef,undef,u8,u9,u10,p11,p12,p13,zV,zW,p16,v17,EM,u19,u20,u21,zX,zY,zZ,p25,p26,p27,p28,p29,p30,p31,p32,p33,p34,p35,p36,p37,p38,p39,u40,u41,u42,u43,u44,u45,u46,u47,u48,u49,u50,u51,p52,p3,v54,p13,p56,v57,u58,u59,u60,u61,u62,u63,u64,u65,u66,u67,u68,u69,u70,u71,u72,u73,u74,u75,u76,u77,u78,u79,u80,u81,u82,u83,u84,u85,u86,u87,u88,u89,u90,u91,u92,u93,u94,u95,u96,u97,u98,u99,akM,akN,akO,akP,akQ,u105,akR,akS,akT,akU,akV,akW,akX,akY,akZ,ak0,ak1,ak2,ak3,u119,ak4,ak5,undef,undef,undef,undef,undef,undef]:Array Value).getD k undef,by kernel_rfl⟩
def yC (s:aH):Array Value:=#[.int .i64 s.f0,.int .i64 s.f1]
structure JF (W0:World) (M:Nat) (s:aH) (fl:Nat->Bool) (W:World) (v17 v54 v57:Value):Prop where
 b:Below W0.heap.size W0 W
 j2:fl 2=true->v54=.agg (yC s)
 j5:fl 5=true->∃ bn,v57=uI (M+1) bn/\W0.heap.size<=bn/\Row W bn (List.replicate (M+1) false)
 j6:fl 6=true->∃ b17,v17=.pointer (some ⟨b17,0,none⟩)/\W0.heap.size<=b17/\Box W b17 (if fl 7=true then yC s else yC ⟨0,0⟩) 42
 j7:fl 7=true->fl 6=true
theorem JF.step {W0:World} {M:Nat} {s:aH} {fl:Nat->Bool} {W W':World} {v17 v54 v57:Value} (h:JF W0 M s fl W v17 v54 v57) (hb:Below W.heap.size W W'):JF W0 M s fl W' v17 v54 v57:=
 ⟨h.b.trans (hb.mono h.b.size),h.j2,fun q=>by obtain⟨bn,a,b,c⟩:=h.j5 q;exact⟨bn,a,b,c.step hb⟩,fun q=>by obtain⟨bn,a,b,c⟩:=h.j6 q;exact⟨bn,a,b,c.step hb⟩,h.j7⟩
structure yD (bl:Nat) (l:aI) (W:World):Prop where
 z0:W.cell? ⟨bl,0,none⟩=some (.int .i64 l.f0)
 z1:W.cell? ⟨bl,1,none⟩=some (.int .i64 l.f1.f0)
 z2:W.cell? ⟨bl,2,none⟩=some (.int .i64 l.f1.f1)
 z3:W.cell? ⟨bl,3,none⟩=some (.int .i64 l.f2.f0)
 z4:W.cell? ⟨bl,4,none⟩=some (.int .i64 l.f2.f1)
 z5:W.cell? ⟨bl,5,none⟩=some (.bool l.f3)
theorem yD.of {bl:Nat} {l:aI} {W:World} (xz:Box W bl (SI l) 91):yD bl l W:=⟨xz.cell 0 rfl,xz.cell 1 rfl,xz.cell 2 rfl,xz.cell 3 rfl,xz.cell 4 rfl,xz.cell 5 rfl⟩
theorem yD.step {bl:Nat} {l:aI} {W W':World} (h:yD bl l W) (hb:Below W.heap.size W W'):yD bl l W':=⟨jW hb h.z0,jW hb h.z1,jW hb h.z2,jW hb h.z3,jW hb h.z4,jW hb h.z5⟩
theorem Box.vT {W:World} {b b':Nat} {vs vs':Array Value} {t t':TypeId} (h:Box W b vs t) (h':Box W b' vs' t') (hne:t≠t'):b≠b':=by
 rintro rfl
 have h1:=h.symm.trans h'
 simp at h1
 exact hne h1.2
theorem azU (xs:List aH):∀ (j:Nat) (x:Int),j<xs.length->(pK xs).set (j*2) (.int .i64 x)=pK (xs.set j ⟨x,(bM xs j).f1⟩):=by
 induction xs with
 |nil=>intro j y h;simp at h
 |cons z xs ih=>
  intro j y h
  cases j with
  |zero=>rfl
  |succ j=>
   have:=ih j y (by simpa using h)
   rw[show(j+1)*2=j*2+1+1 by omega]
   have hr:bM (z::xs) ((j+1:Nat):Int)=bM xs j:=by
    unfold bM
    rw[Int.toNat_natCast,Int.toNat_natCast]
    rfl
   rw[hr]
   simpa[pK]using this
theorem azV (xs:List aH):∀ (j:Nat) (x:Int),j<xs.length->(pK xs).set (j*2+1) (.int .i64 x)=pK (xs.set j ⟨(bM xs j).f0,x⟩):=by
 induction xs with
 |nil=>intro j y h;simp at h
 |cons z xs ih=>
  intro j y h
  cases j with
  |zero=>rfl
  |succ j=>
   have:=ih j y (by simpa using h)
   rw[show(j+1)*2+1=j*2+1+1+1 by omega]
   have hr:bM (z::xs) ((j+1:Nat):Int)=bM xs j:=by
    unfold bM
    rw[Int.toNat_natCast,Int.toNat_natCast]
    rfl
   rw[hr]
   simpa[pK]using this
theorem ak6 (xs:List aH) (i:Nat) (h:i<xs.length) (y:aH):bM (xs.set i y) (i:Int)=y:=by
 unfold bM
 rw[Int.toNat_natCast]
 simp[List.getD_eq_getElem?_getD,h]
structure lQ (w:World) (vs:Array Value) (g c M:Nat) (bs:List Nat) (R:Nat->List Bool) (gs n:Nat) (bl b17 bn:Nat) (l:aI) (s:aH) (SP:List aH) (F:List Bool) (W:World):Prop where
 f:yB w vs g c M bs R gs n SP W
 l:Box W bl (SI l) 91
 s:Box W b17 (yC s) 42
 nx:Row W bn F
theorem lQ.step {w:World} {vs:Array Value} {g c M:Nat} {bs:List Nat} {R:Nat->List Bool} {gs n bl b17 bn:Nat} {l:aI} {s:aH} {SP:List aH} {F:List Bool} {W W':World} (h:lQ w vs g c M bs R gs n bl b17 bn l s SP F W) (hb:Below W.heap.size W W'):lQ w vs g c M bs R gs n bl b17 bn l s SP F W':=
 ⟨h.f.step hb,h.l.step hb,h.s.step hb,h.nx.step hb⟩
theorem lQ.spans {w:World} {vs:Array Value} {g c M:Nat} {bs:List Nat} {R:Nat->List Bool} {gs n bl b17 bn:Nat} {l:aI} {s:aH} {SP NZ:List aH} {F:List Bool} {W:World} (h:lQ w vs g c M bs R gs n bl b17 bn l s SP F W)
  (hn:n=SP.length) (hb:b17≠gs) (k:Nat) (u:Value) (hl:NZ.length=SP.length) (hs:(pK SP).set k u=pK NZ):lQ w vs g c M bs R gs n bl b17 bn l s NZ F (W.setCell ⟨gs,k,none⟩ u):=by
 subst hn
 obtain⟨cells,hc⟩:=OM h.f.sp gs rfl
 have hg:Box W gs cells 42:=hc
 have hlt:=(World.ownsRow.lt h.f.sp gs rfl).1
 refine⟨⟨h.f.r.other hg (by decide) (fun j hj=>Box.vT (h.f.r.row j hj) hg (by decide)) k _,h.f.x.other (Box.vT h.f.x hg (by decide)) k _,h.f.b.setCell (p:=⟨gs,k,none⟩) hlt _,?_⟩,h.l.other (Box.vT h.l hg (by decide)) k _,h.s.other hb k _,h.nx.other (Box.vT h.nx hg (by decide)) k _⟩
 have:=(World.ownsRow.stored h.f.sp k u).1
 rw[hs]at this
 unfold mP
 rw[hl]
 exact this
theorem lQ.lo {w:World} {vs:Array Value} {g c M:Nat} {bs:List Nat} {R:Nat->List Bool} {gs n bl b17 bn:Nat} {l:aI} {s:aH} {S0:List aH} {i:Nat} {t:aH} {F:List Bool} {W:World} (h:lQ w vs g c M bs R gs n bl b17 bn l s (S0.set i t) F W)
  (hn:n=S0.length) (hb:b17≠gs) (hi:i<S0.length) (x:Int):lQ w vs g c M bs R gs n bl b17 bn l s (S0.set i ⟨x,t.f1⟩) F (W.setCell ⟨gs,i*2,none⟩ (.int .i64 x)):=by
 refine h.spans (by simpa using hn) hb (i*2) _ (by simp) ?_
 rw[azU _ i x (by simpa using hi),ak6 _ _ hi,List.set_set]
theorem lQ.hi {w:World} {vs:Array Value} {g c M:Nat} {bs:List Nat} {R:Nat->List Bool} {gs n bl b17 bn:Nat} {l:aI} {s:aH} {S0:List aH} {i:Nat} {t:aH} {F:List Bool} {W:World} (h:lQ w vs g c M bs R gs n bl b17 bn l s (S0.set i t) F W)
  (hn:n=S0.length) (hb:b17≠gs) (hi:i<S0.length) (x:Int):lQ w vs g c M bs R gs n bl b17 bn l s (S0.set i ⟨t.f0,x⟩) F (W.setCell ⟨gs,i*2+1,none⟩ (.int .i64 x)):=by
 refine h.spans (by simpa using hn) hb (i*2+1) _ (by simp) ?_
 rw[azV _ i x (by simpa using hi),ak6 _ _ hi,List.set_set]
theorem YJ {l:List Int} {i:Nat} (h:i<l.length):rd l (i:Int)=l[i]:=by
 unfold rd
 rw[Int.toNat_natCast]
 simp[List.getD_eq_getElem?_getD,h]
theorem aoV:∀ s:Nat,s<256->∀ i:Nat,i<8->(Go.bits .and .i64 (shr .i64 (s:Int) (IntKind.u64.wrap (i:Int))) 1=1↔s.testBit i=true)/\0<=IntKind.u64.wrap (i:Int):=by decide+kernel
theorem ao9 {n:Nat}:∀ i,i<n->(2^n - 1).testBit i= !Nat.testBit 0 i:=by
 intro i hi
 rw[Nat.testBit_two_pow_sub_one,Nat.zero_testBit]
 simp[hi]
theorem asX {n:Nat} (h:n<=8):2^n - 1<256:=by
 have:2^n<=2^8:=Nat.pow_le_pow_right (by decide) h
 omega
end Go.Proofs.YtcmfnebcmmklkaaDoor.Hand
namespace Go.Proofs.YtcmfnebcmmklkaaDoor.Q
def oN.f:Option Unit:=some ()
end Go.Proofs.YtcmfnebcmmklkaaDoor.Q
namespace Go.Proofs.YtcmfnebcmmklkaaDoor.Hand
open Go.RowKit Go.Shelf Go.Proofs.YtcmfnebcmmklkaaDoorW.dQ Go.Proofs.YtcmfnebcmmklkaaDoorW.gG Go.Proofs.YtcmfnebcmmklkaaDoor.Q
theorem yN {n:Nat} (h:n<=10000):wrap64 ((n:Int)+1)=((n+1:Nat):Int):=by rw[jF (by omega) (by omega)];simp
theorem PQ (a b c:Int):qX.f a b c=some (decide (b<=a/\a<=c)):=by
 unfold qX.f
 split
 ·rename_i h
  congr 1
  rw[Bool.eq_iff_iff,decide_eq_true_iff,decide_eq_true_iff]
  omega
 ·rename_i h
  rw[decide_eq_false (by omega)]
theorem aAZ (a b c:Int):IA.f a b c=some (decide (0<=a/\a<=b/\b<=c)):=by
 unfold IA.f
 rw[PQ]
 simp only[Option.bind_some,decide_eq_true_iff]
 split
 ·rename_i h
  congr 1
  rw[Bool.eq_iff_iff,decide_eq_true_iff,decide_eq_true_iff]
  omega
 ·rename_i h
  rw[decide_eq_false (by omega)]
theorem alW {α:Type} (p:α->Bool) (l:List α):l.any (fun x=> !p x)= !l.all p:=by
 rw[List.all_eq_not_any_not,Bool.not_not]
theorem aBA (l:List Int) (h:l.length<=1000):∀ m i k:Nat,i+m=l.length->2*m+1<k->oJ.l0 k l l (i:Int)=some 0:=by
 intro m
 induction m with
 |zero=>
  intro i k hi hk
  obtain⟨k,rfl⟩:∃ j,k=j+2:=⟨k - 2,by omega⟩
  rw[oJ.l0,if_neg (by omega),oJ.j1,if_neg (by simp),Int.sub_self,jF (by omega) (by omega)]
 |succ m ih=>
  intro i k hi hk
  obtain⟨k,rfl⟩:∃ j,k=j+2:=⟨k - 2,by omega⟩
  rw[oJ.l0,if_pos (by omega),oJ.j1,if_pos (by simp;omega),if_pos (by omega),if_pos (by omega),if_pos (by omega),if_pos rfl,yN (by omega)]
  exact ih (i+1) k (by omega) (by omega)
theorem asQ (l:List Int) (h:l.length<=1000) (k:Nat) (hk:2*l.length+1<k):oD.f k l l=some true:=by
 unfold oD.f oJ.f
 rw[show(0:Int)=((0:Nat):Int)from rfl,aBA l h l.length 0 k (by omega) (by omega)]
 rfl
end Go.Proofs.YtcmfnebcmmklkaaDoor.Hand
namespace Go.Proofs.YtcmfnebcmmklkaaDoor.Hand
def ups (d:List Int):Int:=(d.map fun n=>max 0 n).sum
theorem bYX:ups []=0:=rfl
theorem bB7 (n:Int) (d:List Int):ups (n::d)=max 0 n+ups d:=by unfold ups;rw[List.map_cons,List.sum_cons]
theorem bYY:∀ d:List Int,0<=ups d:=by
 intro d
 induction d with
 |nil=>exact Int.le_refl _
 |cons n d ih=>rw[bB7];omega
def bKO:List Cr->List Int->Prop
 |[],[]=>True
 |c::cs,n::d=> -c.R<=n/\n<=c.L/\bKO cs d
 |_,_=>False
theorem bYZ:∀ d:List Int,d.sum<=ups d:=by
 intro d
 induction d with
 |nil=>exact Int.le_refl _
 |cons n d ih=>rw[bB7,List.sum_cons];omega
theorem bY0 {most:Int} (h0:0<=most):∀ {cs:List Cr} {sum up:Int} {d:List Int},0<=up->sum<=up->up<=most->(d∈exP most cs sum up↔bKO cs d/\sum+d.sum=0/\up+ups d<=most):=by
 intro cs
 induction cs with
 |nil=>
  intro sum up d h1 h3 h4
  rw[exP]
  constructor
  ·intro h
   split at h
   ·obtain rfl:=List.mem_singleton.1 h
    exact⟨trivial,by simp;assumption,by rw[bYX];omega⟩
   ·cases h
  ·rintro⟨h5,h6,h7⟩
   cases d with
   |nil=>rw[if_pos (by simpa using h6)];exact List.mem_singleton.2 rfl
   |cons n d=>exact h5.elim
 |cons c cs ih=>
  intro sum up d h1 h3 h4
  rw[exP,List.mem_flatMap]
  constructor
  ·rintro⟨n,hn,h⟩
   have hn:=blH.1 hn
   split at h
   ·rename_i hu
    obtain⟨d',hd,rfl⟩:=List.mem_map.1 h
    obtain⟨h5,h6,h7⟩:=(ih (by omega) (by omega) hu).1 hd
    exact⟨⟨by omega,by omega,h5⟩,by rw[List.sum_cons];omega,by rw[bB7];omega⟩
   ·cases h
  ·rintro⟨h5,h6,h7⟩
   cases d with
   |nil=>exact h5.elim
   |cons n d=>
    obtain⟨h8,h9,h10⟩:=h5
    rw[List.sum_cons]at h6
    rw[bB7]at h7
    have hp:=bYY d
    have hs:=bYZ d
    refine⟨n,blH.2 ⟨by omega,by omega⟩,?_⟩
    rw[if_pos (by omega)]
    exact List.mem_map.2 ⟨d,(ih (by omega) (by omega) (by omega)).2 ⟨h10,by omega,by omega⟩,rfl⟩
end Go.Proofs.YtcmfnebcmmklkaaDoor.Hand
namespace Go.Proofs.YtcmfnebcmmklkaaDoor.Q
open Go.RowKit Go.Proofs.YtcmfnebcmmklkaaDoorW.dQ Go.Proofs.YtcmfnebcmmklkaaDoorW.oU Go.Proofs.YtcmfnebcmmklkaaDoorW.gG
attribute [local go_sem] uA uB uC uD uM uN uO uP   -- for this text's walks alone
theorem aQH (d:Nat) (w:World) (x0 y0:Int) (x1 y1:Int) (x2 y2:Int):
  (Op.equalIn (d+2) 109 (.agg #[.int .i64 x0,.int .i64 x1,.int .i64 x2]) (.agg #[.int .i64 y0,.int .i64 y1,.int .i64 y2])).run Tryd.prog w=.ok (x0==y0&&(x1==y1&&(x2==y2))) w:=by
 refine atJ Tryd.underlying109 (by kernel_rfl) ?_
 refine ae8 (by rfl) (by go_simp;rfl) (by go_simp;rfl) (by go_simp) ?_
 refine ae8 (by rfl) (by go_simp;rfl) (by go_simp;rfl) (by go_simp) ?_
 exact atI (by rfl) (by go_simp;rfl) (by go_simp;rfl) (by go_simp)
attribute [local go_sem] uA uB uC uD uM uN uO uP   -- for this text's walks alone
attribute [local go_sem high] aQH
def oW.l0:Nat->Int->Int->List Int->Int->Option (List Int)
  |0,_,_,_,_=>none
  |k+1,x0,x1,x5,x6=>if x6<x1 then(if 0<=(IntKind.u64.wrap (x6))then(if(Go.bits .and .i64 (shr .i64 x0 (IntKind.u64.wrap (x6))) 1)=1 then(if x5.length<17592186044416 then(oW.l0 k x0 x1 (x5++[x6]) (wrap64 (x6+1)))else(none))else(oW.l0 k x0 x1 x5 (wrap64 (x6+1))))else(none))else(some x5)
def oW.f (k:Nat) (a0:Int) (a1:Int):Option (List Int):=oW.l0 k a0 a1 (([]:List Int)) 0
theorem oW.calls (k:Nat) (a0:Int) (a1:Int) (r:List Int) (w:World) (h:oW.f k a0 a1=some r):
    Calls Tryd.prog 76 #[.int .i64 a0,.int .i64 a1] w fun e w'=>∃ iG:Value,e=.returned (iG)/\Kd.R (Kd.int .i64) 3 w' w.heap.size (fun _=>True) iG r/\Below w.heap.size w w':=by
 have HB:=aA.mk (Below.refl w.heap.size w)
 have H:(oW.l0 k a0 a1 (([]:List Int)) 0)=some r:=h
 clear h
 obtain⟨aBB,adG⟩:∃ y_:List Int,y_=(([]:List Int)):=⟨_,rfl⟩
 replace H:(oW.l0 k a0 a1 aBB 0)=some r:=by first|(rw[adG];with_reducible exact H)|(have dJ:=(Option.bind_some _ _).symm.trans H;rw[adG];with_reducible exact dJ)|(have dJ:=(Option.bind_some _ _).symm.trans H;with_reducible exact dJ)|with_reducible exact H|(rw[adG];exact H)|exact H
 have aBC:=aA.mk adG
 clear adG
 have H':=aA.mk H
 clear H
 go_enter Tryd.func76,Tryd.ntmps76
 go_wp2_with (first|((with_reducible refine dU (N:=7) rfl ?_);refine Kd.YX (Kd.int .i64) _ 3 ?hg (N:=7) ?hd (xs:=([]:List Int)) (inner:=[]) (ok:=fun _=>True) (lS:=fun _=>True) ?hr ?hp (fun _ hk=>hk) trivial (Below.refl _ _) (Nat.le_refl _) (by simp) ?_;(case hd=>rfl);(case hg=>rfl);(case hr=>first|(go_simp;done)|(go_simp;rfl));(case hp=>exact(gX.none _ _));intro bqI w3 BF hb mF mG;clear mF mG;(first|rw[<-aBC.out]at BF|(simp only[Int.reduceToNat]at BF;rw[<-aBC.out]at BF));have aQI:=aA.mk (Kd.eF BF (dH (Bq HB)));replace HB:=bs HB hb;clear hb BF))
 go_loopg [5,6] k (fun kq v5 v6 w'=>∃ (bC:List Int) (dZ:Int),v6=.int .i64 dZ/\aA (oW.l0 kq a0 a1 bC dZ=some r)/\aA (kq<=k)/\aA (Kd.R (Kd.int .i64) 3 w' w.heap.size (fun _=>True) v5 bC)/\aA (Below w.heap.size w w'))
 case atStart=>exact⟨(aBB),(0),(by first|rfl|(simp;done)|(simp[*];done)),H',⟨Nat.le_refl _⟩,⟨R_ aQI⟩,⟨Bq HB⟩⟩
 case round=>
  clear H'
  obtain⟨bC,dZ,rfl,HA,fV,bP,HB⟩:=hrel
  rcases gk with _|k1
  ·exact absurd HA.out (by simp[oW.l0])
  have H:=HA.out
  clear HA
  simp only[oW.l0]at H
  by_cases c5:dZ<a1
  ·rw[if_pos c5]at H
   have ad8:decide (dZ<a1)=true:=decide_eq_true c5
   clear c5
   obtain⟨TF,aBD⟩:∃ j_:Int,(IntKind.u64.wrap (dZ))=j_:=⟨_,rfl⟩
   replace H:(if 0<=(TF)then(if(Go.bits .and .i64 (shr .i64 a0 (TF)) 1)=1 then(if bC.length<17592186044416 then(oW.l0 k1 a0 a1 (bC++[dZ]) (wrap64 (dZ+1)))else(none))else(oW.l0 k1 a0 a1 bC (wrap64 (dZ+1))))else(none))=some r:=by first|(rw[aBD]at H;exact H)|(simp only[aBD]at H ⊢;exact H)
   by_cases c7:0<=(TF)
   ·rw[if_pos c7]at H
    have afF:=eq_true c7
    have bqJ:decide (0<=(TF))=true:=decide_eq_true c7
    clear c7
    obtain⟨TG,agQ⟩:∃ j_:Int,(shr .i64 a0 (TF))=j_:=⟨_,rfl⟩
    replace H:(if(Go.bits .and .i64 (TG) 1)=1 then(if bC.length<17592186044416 then(oW.l0 k1 a0 a1 (bC++[dZ]) (wrap64 (dZ+1)))else(none))else(oW.l0 k1 a0 a1 bC (wrap64 (dZ+1))))=some r:=by first|(rw[agQ]at H;exact H)|(simp only[agQ]at H ⊢;exact H)
    have bqK:(a0 / 2^min (TF).toNat 64)=TG:=agQ
    have bqL:(TF)<=64->(a0 / 2^(TF).toNat)=TG:=aCP agQ
    by_cases c9:(Go.bits .and .i64 (TG) 1)=1
    ·rw[if_pos c9]at H
     have QC:((Go.bits .and .i64 (TG) 1)==1)=true:=beq_iff_eq.mpr c9
     have afH:((Go.bits .and .i64 (TG) 1)!=1)=false:=bne_eq_false_iff_eq.mpr c9
     clear c9
     by_cases c10:bC.length<17592186044416
     ·rw[if_pos c10]at H
      have aQJ:=aA.mk c10
      clear c10
      obtain⟨aBE,adH⟩:∃ y_:List Int,y_=(bC++[dZ]):=⟨_,rfl⟩
      replace H:(oW.l0 k1 a0 a1 aBE (wrap64 (dZ+1)))=some r:=by first|(rw[adH];with_reducible exact H)|(have dJ:=(Option.bind_some _ _).symm.trans H;rw[adH];with_reducible exact dJ)|(have dJ:=(Option.bind_some _ _).symm.trans H;with_reducible exact dJ)|with_reducible exact H|(rw[adH];exact H)|exact H
      have aQK:=aA.mk adH
      clear adH
      have H':=aA.mk H
      clear H
      go_wp2_with (first|((with_reducible refine VC (b:=.append) (xs:=#[.tmp 19,.tmp 21]) rfl ?_);at_builtin;refine Kd.WR (Kd.int .i64) (w0:=w) w.heap.size rfl (.tmp 19) (.tmp 21) 34 3 (.int .i64 0) 8 rfl Tryd.underlying34 info3 rfl (by decide) (by omega) u5 bC dZ [.int .i64 dZ] (fun _=>True) (fun _=>False) rfl rfl ?aP (fun _ hk=>hk.elim) ?aF ?aO ?aB ?aS ?aL ?_;(case aP=>exact rfl);(case aB=>exact(Bq HB));(case aF=>exact(fun _ _=>trivial));(case aO=>exact(R_ bP));(case aS=>exact(dH (Bq HB)));(case aL=>have:=aQJ.out;omega);intro bqM vK ho hb hg hat;rw[<-aQK.out]at ho;have aV:=aA.mk (hb);have aW:=aA.mk (ho);clear HB;clear bP;have HB:=aV;have aQL:=aW;clear aV aW;clear ho hb hg hat))
      go_roundg k1
      case measure=>have:=fV.out;omega
      case rel=>exact⟨(aBE),(wrap64 (dZ+1)),(by first|rfl|(simp;done)|(simp[*];done)),H',⟨by have:=fV.out;omega⟩,⟨R_ aQL⟩,⟨Bq HB⟩⟩
     rw[if_neg c10]at H
     exact absurd H (by simp)
    rw[if_neg c9]at H
    have QC:((Go.bits .and .i64 (TG) 1)==1)=false:=beq_eq_false_iff_ne.mpr c9
    have afH:((Go.bits .and .i64 (TG) 1)!=1)=true:=bne_iff_ne.mpr c9
    have H':=aA.mk H
    clear H
    go_wp2
    go_roundg k1
    case measure=>have:=fV.out;omega
    case rel=>exact⟨(bC),(wrap64 (dZ+1)),(by first|rfl|(simp;done)|(simp[*];done)),H',⟨by have:=fV.out;omega⟩,⟨R_ bP⟩,⟨Bq HB⟩⟩
   rw[if_neg c7]at H
   exact absurd H (by simp)
  rw[if_neg c5]at H
  have ad8:decide (dZ<a1)=false:=decide_eq_false c5
  clear c5
  obtain rfl:=Option.some.inj H
  go_wp2
  go_ret
  exact⟨_,by first|rfl|(simp[iU,iV]<;>rfl)|(simp[*,iU,iV]<;>rfl),R_ bP,Bq HB⟩
def adI.f (k:Nat) (l0:List Int) (l1:List Int):Option (Bool):=if(l0.length:Int)=(l1.length:Int)then((oJ.f k l0 l1).bind fun asR=>(some (decide (asR<0))))else(some (decide ((l0.length:Int)<(l1.length:Int))))
theorem adI.calls (k:Nat) (A0:Option Addr) (c0:Nat) (l0:List Int) (A1:Option Addr) (c1:Nat) (l1:List Int) (r:Bool) (w:World) (hr0:Kd.C (Kd.int .i64) w A0 l0.length l0) (hc0:l0.length<=c0) (hr1:Kd.C (Kd.int .i64) w A1 l1.length l1) (hc1:l1.length<=c1) (h:adI.f k l0 l1=some r):
    Calls Tryd.prog 77 #[.slice A0 l0.length c0,.slice A1 l1.length c1] w fun e w'=>e=.returned (.bool r)/\iI w w':=by
 have HR0:=aA.mk hr0
 have HC0:=aA.mk hc0
 clear hr0 hc0
 have HR1:=aA.mk hr1
 have HC1:=aA.mk hc1
 clear hr1 hc1
 have H:(if(l0.length:Int)=(l1.length:Int)then((oJ.f k l0 l1).bind fun asR=>(some (decide (asR<0))))else(some (decide ((l0.length:Int)<(l1.length:Int)))))=some r:=h
 clear h
 by_cases c3:(l0.length:Int)=(l1.length:Int)
 ·rw[if_pos c3]at H
  have WU:((l0.length:Int)==(l1.length:Int))=true:=beq_iff_eq.mpr c3
  have aaA:((l0.length:Int)!=(l1.length:Int))=false:=bne_eq_false_iff_eq.mpr c3
  have amR:(l0.length==l1.length)=true:=by first|simpa using c3|(simp at c3 ⊢;omega)
  clear c3
  replace H:=Option.bind_eq_some_iff.mp H
  obtain⟨asR,vG,H⟩:=H
  replace H:(some (decide (asR<0)))=some r:=H
  have A4:=aA.mk vG
  clear vG
  obtain rfl:=Option.some.inj H
  go_enter Tryd.func77,Tryd.ntmps77
  go_wp2_with (first|((with_reducible refine gJ (f:=72) rfl ?_);refine cE 17 Tryd.func72 #[.slice A0 l0.length c0,.slice A1 l1.length c1] ?_;refine(oJ.calls k _ _ l0 _ _ l1 asR _ (by repeat(first|exact HR0.out|(with_reducible refine Kd.jZ ?_ _)|(with_reducible refine Kd.kD ?_ _)|(with_reducible refine Kd.kC ?_))) HC0.out (by repeat(first|exact HR1.out|(with_reducible refine Kd.jZ ?_ _)|(with_reducible refine Kd.kD ?_ _)|(with_reducible refine Kd.kC ?_))) HC1.out A4.out).mono ?_;rintro e w' ⟨rfl,⟨nd,rfl⟩⟩;refine⟨_,rfl,?_⟩))
  go_ret
  exact⟨by first|rfl|(simp;done)|(simp[*];done),by repeat(first|exact iI.refl _|apply iI.step)⟩
 rw[if_neg c3]at H
 have WU:((l0.length:Int)==(l1.length:Int))=false:=beq_eq_false_iff_ne.mpr c3
 have aaA:((l0.length:Int)!=(l1.length:Int))=true:=bne_iff_ne.mpr c3
 have amR:(l0.length==l1.length)=false:=by first|simpa using c3|(simp at c3 ⊢;omega)
 obtain rfl:=Option.some.inj H
 go_enter Tryd.func77,Tryd.ntmps77
 go_wp2
 go_ret
 exact⟨by first|rfl|(simp;done)|(simp[*];done),by repeat(first|exact iI.refl _|apply iI.step)⟩
def aAE.f (l0:List (gQ)):Option ((List (gQ))):=(some (([]:List (gQ)):List (gQ))).bind fun al2=>(if al2.length+l0.length<5864062014805 then(some (al2++l0))else(none))
theorem aAE.calls (A0:Option Addr) (c0:Nat) (l0:List (gQ)) (r:List (gQ)) (w:World) (hr0:Kd.C vC w A0 l0.length l0) (hc0:l0.length<=c0) (h:aAE.f l0=some r):
    Calls Tryd.prog 34 #[.slice A0 l0.length c0] w fun e w'=>∃ iG:Value,e=.returned (iG)/\Kd.R vC 109 w' w.heap.size (fun _=>True) iG r/\Below w.heap.size w w':=by
 have HR0:=aA.mk hr0
 have HC0:=aA.mk hc0
 clear hr0 hc0
 have HB:=aA.mk (Below.refl w.heap.size w)
 have H:((some (([]:List (gQ)):List (gQ))).bind fun al2=>(if al2.length+l0.length<5864062014805 then(some (al2++l0))else(none)))=some r:=h
 clear h
 obtain⟨al2,aOT⟩:∃ y_:List (gQ),y_=(([]:List (gQ))):=⟨_,rfl⟩
 replace H:(if al2.length+l0.length<5864062014805 then(some (al2++l0))else(none))=some r:=by first|(rw[aOT];with_reducible exact H)|(have dJ:=(Option.bind_some _ _).symm.trans H;rw[aOT];with_reducible exact dJ)|(have dJ:=(Option.bind_some _ _).symm.trans H;with_reducible exact dJ)|with_reducible exact H|(rw[aOT];exact H)|exact H
 have bBG:=aA.mk aOT
 clear aOT
 by_cases c2:al2.length+l0.length<5864062014805
 ·rw[if_pos c2]at H
  have adE:=aA.mk c2
  clear c2
  obtain⟨bI7,aOV⟩:∃ y_:List (gQ),y_=(al2++l0):=⟨_,rfl⟩
  replace H:(some bI7)=some r:=by first|(rw[aOV];with_reducible exact H)|(have dJ:=(Option.bind_some _ _).symm.trans H;rw[aOV];with_reducible exact dJ)|(have dJ:=(Option.bind_some _ _).symm.trans H;with_reducible exact dJ)|with_reducible exact H|(rw[aOV];exact H)|exact H
  have bI8:=aA.mk aOV
  clear aOV
  obtain rfl:=Option.some.inj H
  go_enter Tryd.func34,Tryd.ntmps34
  go_wp2_with (first|((with_reducible refine dU (N:=3) rfl ?_);refine Kd.YX vC _ 109 ?hg (N:=3) ?hd (xs:=([]:List (gQ))) (inner:=[]) (ok:=fun _=>True) (lS:=fun _=>True) ?hr ?hp (fun _ hk=>hk) trivial (Below.refl _ _) (Nat.le_refl _) (by simp) ?_;(case hd=>rfl);(case hg=>rfl);(case hr=>first|(go_simp;done)|(go_simp;rfl));(case hp=>exact(gX.none _ _));intro bI9 w3 BF hb mF mG;clear mF mG;(first|rw[<-bBG.out]at BF|(simp only[Int.reduceToNat]at BF;rw[<-bBG.out]at BF));have bBH:=aA.mk (Kd.eF BF (dH (Bq HB)));replace HB:=bs HB hb;clear hb BF)|((with_reducible refine VC (b:=.append) (xs:=#[.tmp 3,.tmp 4]) rfl ?_);at_builtin;refine Kd.a9S vC (w0:=w) w.heap.size rfl (.tmp 3) (.tmp 4) 54 109 (.agg #[(.int .i64 0),(.int .i64 0),(.int .i64 0)]) 24 rfl Tryd.underlying54 bLM rfl (by decide) (by omega) bI9 al2 l0 _ _ _ (fun _=>True) (fun _=>False) rfl rfl ?aO ?aR (fun _ _ h=>h) (fun _ h=>h.elim) ?aF ?aB ?aS ?aL ?_;(case aR=>repeat(first|exact(Kd.bJ HR0.out HB.out)|(with_reducible refine Kd.jZ ?_ _)|(with_reducible refine Kd.kD ?_ _)|(with_reducible refine Kd.kC ?_)));(case aB=>exact(Bq HB));(case aF=>exact(fun _ _=>trivial));(case aO=>exact(R_ bBH));(case aS=>exact(dH (Bq HB)));(case aL=>have:=adE.out;omega);intro bTY w5 ho hb hg hat;rw[<-bI8.out]at ho;have aV:=aA.mk (hb);have aW:=aA.mk (ho);clear HB;clear bBH;have HB:=aV;have bJA:=aW;clear aV aW;clear ho hb hg hat))
  go_ret
  exact⟨_,by first|rfl|(simp[iU,iV]<;>rfl)|(simp[*,iU,iV]<;>rfl),R_ bJA,Bq HB⟩
 rw[if_neg c2]at H
 exact absurd H (by simp)
def aiS.l0:Nat->List (gQ)->List (gQ)->Int->Option (Bool)
  |0,_,_,_=>none
  |k+1,x0,x1,x5=>if x5<(x0.length:Int)then(if 0<=x5 then(if x5<(x1.length:Int)then(if(!(((DC x0 x5).f0)==((DC x1 x5).f0))||(!(((DC x0 x5).f1)==((DC x1 x5).f1))||(!(((DC x0 x5).f2)==((DC x1 x5).f2)))))=true then(some false)else(aiS.l0 k x0 x1 (wrap64 (x5+1))))else(none))else(none))else(some true)
def aiS.f (k:Nat) (l0:List (gQ)) (l1:List (gQ)):Option (Bool):=if(l0.length:Int)=(l1.length:Int)then(aiS.l0 k l0 l1 0)else(some false)
theorem aiS.calls (k:Nat) (A0:Option Addr) (c0:Nat) (l0:List (gQ)) (A1:Option Addr) (c1:Nat) (l1:List (gQ)) (r:Bool) (w:World) (hr0:Kd.C vC w A0 l0.length l0) (hc0:l0.length<=c0) (hr1:Kd.C vC w A1 l1.length l1) (hc1:l1.length<=c1) (h:aiS.f k l0 l1=some r):
    Calls Tryd.prog 38 #[.slice A0 l0.length c0,.slice A1 l1.length c1] w fun e w'=>e=.returned (.bool r)/\iI w w':=by
 have bDC:=Tryd.underlying109
 have HR0:=aA.mk hr0
 have HC0:=aA.mk hc0
 clear hr0 hc0
 have HR1:=aA.mk hr1
 have HC1:=aA.mk hc1
 clear hr1 hc1
 have H:(if(l0.length:Int)=(l1.length:Int)then(aiS.l0 k l0 l1 0)else(some false))=some r:=h
 clear h
 by_cases c3:(l0.length:Int)=(l1.length:Int)
 ·rw[if_pos c3]at H
  have WU:((l0.length:Int)==(l1.length:Int))=true:=beq_iff_eq.mpr c3
  have aaA:((l0.length:Int)!=(l1.length:Int))=false:=bne_eq_false_iff_eq.mpr c3
  have amR:(l0.length==l1.length)=true:=by first|simpa using c3|(simp at c3 ⊢;omega)
  clear c3
  have H':=aA.mk H
  clear H
  go_enter Tryd.func38,Tryd.ntmps38
  go_wp2
  repeat(go_quiet (fail);try go_wp2)
  go_loopg [5] k (fun kq v5 w'=>∃ (bC:Int),v5=.int .i64 bC/\aA (aiS.l0 kq l0 l1 bC=some r)/\aA (kq<=k)/\iI w w')
  case atStart=>exact⟨(0),(by first|rfl|(simp;done)|(simp[*];done)),H',⟨Nat.le_refl _⟩,by repeat(first|exact iI.refl _|apply iI.step)⟩
  case round=>
   clear H'
   try clear c1
   try clear c3
   try clear WU
   try clear aaA
   try clear amR
   obtain⟨bC,rfl,HA,fV,⟨m1,rfl⟩⟩:=hrel
   rcases gk with _|k1
   ·exact absurd HA.out (by simp[aiS.l0])
   have H:=HA.out
   clear HA
   simp only[aiS.l0]at H
   by_cases c4:bC<(l0.length:Int)
   ·rw[if_pos c4]at H
    have yH:decide (bC<(l0.length:Int))=true:=decide_eq_true c4
    clear c4
    by_cases c5:0<=bC
    ·rw[if_pos c5]at H
     have ad8:decide (0<=bC)=true:=decide_eq_true c5
     clear c5
     by_cases c6:bC<(l1.length:Int)
     ·rw[if_pos c6]at H
      have zJ:decide (bC<(l1.length:Int))=true:=decide_eq_true c6
      clear c6
      by_cases c7:(!(((DC l0 bC).f0)==((DC l1 bC).f0))||(!(((DC l0 bC).f1)==((DC l1 bC).f1))||(!(((DC l0 bC).f2)==((DC l1 bC).f2)))))=true
      ·rw[if_pos c7]at H
       have afF:(!(((DC l0 bC).f0)==((DC l1 bC).f0))||(!(((DC l0 bC).f1)==((DC l1 bC).f1))||(!(((DC l0 bC).f2)==((DC l1 bC).f2)))))=true:=c7
       clear c7
       obtain rfl:=Option.some.inj H
       have ay1:0<=(bC:Int):=od
       have ay3:bC<(l0.length:Int):=od
       obtain⟨bJB,blP,bJC,bJD,bJE⟩:=aIW HR0.out bC ay1 ay3
       cases blP
       replace ay1:=eq_true ay1
       replace ay3:=eq_true ay3
       have ay5:0<=(bC:Int):=od
       have ay6:bC<(l1.length:Int):=od
       obtain⟨bJF,blQ,bJG,bJH,bJI⟩:=aIW HR1.out bC ay5 ay6
       cases blQ
       replace ay5:=eq_true ay5
       replace ay6:=eq_true ay6
       go_wp2
       repeat(go_quiet (fail);try go_wp2)
       go_ret
       exact⟨by first|rfl|(simp;done)|(simp[*];done),by repeat(first|exact iI.refl _|apply iI.step)⟩
      rw[if_neg c7]at H
      have afF:(!(((DC l0 bC).f0)==((DC l1 bC).f0))||(!(((DC l0 bC).f1)==((DC l1 bC).f1))||(!(((DC l0 bC).f2)==((DC l1 bC).f2)))))=false:=by simpa using c7
      clear c7
      have H':=aA.mk H
      clear H
      have ay1:0<=(bC:Int):=od
      have ay3:bC<(l0.length:Int):=od
      obtain⟨bJB,blP,bJC,bJD,bJE⟩:=aIW HR0.out bC ay1 ay3
      cases blP
      replace ay1:=eq_true ay1
      replace ay3:=eq_true ay3
      have ay5:0<=(bC:Int):=od
      have ay6:bC<(l1.length:Int):=od
      obtain⟨bJF,blQ,bJG,bJH,bJI⟩:=aIW HR1.out bC ay5 ay6
      cases blQ
      replace ay5:=eq_true ay5
      replace ay6:=eq_true ay6
      go_wp2
      repeat(go_quiet (fail);try go_wp2)
      go_roundg k1
      case measure=>have:=fV.out;omega
      case rel=>exact⟨(wrap64 (bC+1)),(by first|rfl|(simp;done)|(simp[*];done)),H',⟨by have:=fV.out;omega⟩,by repeat(first|exact iI.refl _|apply iI.step)⟩
     rw[if_neg c6]at H
     exact absurd H (by simp)
    rw[if_neg c5]at H
    exact absurd H (by simp)
   rw[if_neg c4]at H
   have yH:decide (bC<(l0.length:Int))=false:=decide_eq_false c4
   clear c4
   obtain rfl:=Option.some.inj H
   go_wp2
   repeat(go_quiet (fail);try go_wp2)
   go_ret
   exact⟨by first|rfl|(simp;done)|(simp[*];done),by repeat(first|exact iI.refl _|apply iI.step)⟩
 rw[if_neg c3]at H
 have WU:((l0.length:Int)==(l1.length:Int))=false:=beq_eq_false_iff_ne.mpr c3
 have aaA:((l0.length:Int)!=(l1.length:Int))=true:=bne_iff_ne.mpr c3
 have amR:(l0.length==l1.length)=false:=by first|simpa using c3|(simp at c3 ⊢;omega)
 obtain rfl:=Option.some.inj H
 go_enter Tryd.func38,Tryd.ntmps38
 go_wp2
 repeat(go_quiet (fail);try go_wp2)
 go_ret
 exact⟨by first|rfl|(simp;done)|(simp[*];done),by repeat(first|exact iI.refl _|apply iI.step)⟩
def aeW.f (bV:Int) (bU:Int):Option (Bool):=(IA.f bV bU 60).bind fun aEM=>(if aEM=true then(some (decide ((wrap64 (bU - bV))<8)))else(some false))
theorem aeW.calls (bV:Int) (bU:Int) (r:Bool) (w:World) (h:aeW.f bV bU=some r):
    Calls Tryd.prog 85 #[.agg #[.int .i64 bV,.int .i64 bU]] w fun e w'=>e=.returned (.bool r)/\Below w.heap.size w w':=by
 have QY:=Tryd.underlying42
 have HB:=aA.mk (Below.refl w.heap.size w)
 have H:((IA.f bV bU 60).bind fun aEM=>(if aEM=true then(some (decide ((wrap64 (bU - bV))<8)))else(some false)))=some r:=h
 clear h
 replace H:=Option.bind_eq_some_iff.mp H
 obtain⟨aEM,xY,H⟩:=H
 replace H:(if aEM=true then(some (decide ((wrap64 (bU - bV))<8)))else(some false))=some r:=H
 have A2:=aA.mk xY
 clear xY
 by_cases c3:aEM=true
 ·subst c3
  replace H:(some (decide ((wrap64 (bU - bV))<8)))=some r:=by rw[if_pos rfl]at H;exact H
  obtain rfl:=Option.some.inj H
  go_enter Tryd.func85,Tryd.ntmps85
  go_wp2_with (first|((with_reducible refine dU (N:=1) rfl ?_);refine eX 1 #[.int .i64 bV,.int .i64 bU] 42 ?_;intro bJJ hg w4 hbox hb;have aj1:=aA.mk (hbox);have bJK:=gw hg HB;have bJL:=gw hg HB;replace HB:=bs HB hb;clear hb hbox hg;obtain⟨ah0,ah1⟩:=bZ aj1 (.int .i64 bV) (.int .i64 bU);have auT:=aX aj1.out 0;have auU:=aX aj1.out 1)|((with_reducible refine gJ (f:=68) rfl ?_);refine cE 4 Tryd.func68 #[.agg #[.int .i64 bV,.int .i64 bU],.int .i64 60] ?_;(with_reducible refine(IA.calls bV bU 60 true _ A2.out).mono ?_);rintro e w6 ⟨rfl,hb⟩;refine⟨_,rfl,?_⟩;replace aj1:=bb aj1 hb;replace HB:=bs HB hb;(try clear hb);obtain⟨bm7,bm8⟩:=bZ aj1 (.int .i64 bV) (.int .i64 bU);have bm9:=aX aj1.out 0;have bnA:=aX aj1.out 1))
  go_ret
  exact eR HB
 replace c3:=Bool.eq_false_iff.mpr c3
 subst c3
 replace H:(some false)=some r:=by rw[if_neg (show ¬ (false=true) by decide)]at H;exact H
 obtain rfl:=Option.some.inj H
 go_enter Tryd.func85,Tryd.ntmps85
 go_wp2_with (first|((with_reducible refine dU (N:=1) rfl ?_);refine eX 1 #[.int .i64 bV,.int .i64 bU] 42 ?_;intro bJJ hg w8 hbox hb;have aj1:=aA.mk (hbox);have bJK:=gw hg HB;have bJL:=gw hg HB;replace HB:=bs HB hb;clear hb hbox hg;obtain⟨aM2,aM3⟩:=bZ aj1 (.int .i64 bV) (.int .i64 bU);have aYJ:=aX aj1.out 0;have aYK:=aX aj1.out 1)|((with_reducible refine gJ (f:=68) rfl ?_);refine cE 4 Tryd.func68 #[.agg #[.int .i64 bV,.int .i64 bU],.int .i64 60] ?_;(with_reducible refine(IA.calls bV bU 60 false _ A2.out).mono ?_);rintro e w10 ⟨rfl,hb⟩;refine⟨_,rfl,?_⟩;replace aj1:=bb aj1 hb;replace HB:=bs HB hb;(try clear hb)))
 go_ret
 exact eR HB
end Go.Proofs.YtcmfnebcmmklkaaDoor.Q
namespace Go.Proofs.YtcmfnebcmmklkaaDoor.Hand
open Go.RowKit Go.Shelf Go.Proofs.YtcmfnebcmmklkaaDoorW.dQ Go.Proofs.YtcmfnebcmmklkaaDoorW.gG Go.Proofs.YtcmfnebcmmklkaaDoor.Q
def PS (s:Nat) (i:Nat):List Int:=((List.range i).filter fun j=>s.testBit j).map Int.ofNat
theorem aQM (s i:Nat):PS s (i+1)=PS s i++(if s.testBit i=true then[(i:Int)]else[]):=by
 unfold PS
 rw[List.range_succ,List.filter_append,List.map_append]
 congr 1
 cases h:s.testBit i<;>simp[h]
theorem aQN (s i:Nat):(PS s i).length<=i:=by
 unfold PS
 rw[List.length_map]
 exact Nat.le_trans (List.length_filter_le _ _) (by simp)
theorem aQO {s n:Nat} (hn:n<=8) (hs:s<2^n):PS s n=iQ s:=by
 unfold PS iQ bitsOf
 congr 1
 have h8:List.range 8=List.range n++List.range' n (8 - n):=by
  rw[List.range_eq_range',List.range_eq_range',show(8:Nat)=n+(8 - n) by omega,<-List.range'_append_1]
  simp
 rw[h8,List.filter_append]
 have h7:(List.range' n (8 - n)).filter (fun i=>s.testBit i)=[]:=by
  rw[List.filter_eq_nil_iff]
  intro i hi
  rw[List.mem_range'_1]at hi
  rw[Nat.testBit_lt_two_pow (Nat.lt_of_lt_of_le hs (Nat.pow_le_pow_right (by decide) hi.1))]
  exact Bool.false_ne_true
 rw[h7,List.append_nil]
theorem aQP (n:Nat) (hn:n<=8) (s:Nat) (hs:s<256):∀ m i k:Nat,i+m=n->m<k->oW.l0 k (s:Int) (n:Int) (PS s i) (i:Int)=some (PS s n):=by
 intro m
 induction m with
 |zero=>
  intro i k hi hk
  obtain⟨k,rfl⟩:∃ j,k=j+1:=⟨k - 1,by omega⟩
  obtain rfl:i=n:=by omega
  unfold oW.l0
  rw[if_neg (by omega)]
 |succ m ih=>
  intro i k hi hk
  obtain⟨k,rfl⟩:∃ j,k=j+1:=⟨k - 1,by omega⟩
  obtain⟨hb,hw⟩:=aoV s hs i (by omega)
  have hl:=aQN s i
  have hn':=ih (i+1) k (by omega) (by omega)
  rw[aQM]at hn'
  unfold oW.l0
  rw[if_pos (by omega),if_pos hw,yN (by omega)]
  by_cases ht:s.testBit i=true
  ·rw[if_pos ht]at hn'
   rw[if_pos (hb.2 ht),if_pos (by omega)]
   exact hn'
  ·rw[if_neg ht,List.append_nil]at hn'
   rw[if_neg (fun h=>ht (hb.1 h))]
   exact hn'
theorem aQQ {n:Nat} (hn:n<=8) {s:Nat} (hs:s<2^n) (k:Nat) (hk:9<=k):oW.f k (s:Int) (n:Int)=some (iQ s):=by
 have h8:2^n<=2^8:=Nat.pow_le_pow_right (by decide) hn
 rw[<-aQO hn hs]
 exact aQP n hn s (by omega) n 0 k (by omega) (by omega)
def OG:List Int->List Int->Int
 |x::xs,y::ys=>if x=y then OG xs ys else x - y
 |xs,ys=>(xs.length:Int) - ys.length
theorem aBF (xs ys:List Int) (h:xs=[]∨ys=[]):OG xs ys=(xs.length:Int) - ys.length:=by
 cases xs with
 |nil=>rfl
 |cons x xs=>cases ys with
  |nil=>rfl
  |cons y ys=>rcases h with h|h<;>cases h
theorem aQR (a b:List Int) (ha:a.length<=1000) (hb:b.length<=1000) (ha2:∀ x∈a,-1000<=x/\x<=1000) (hb2:∀ x∈b,-1000<=x/\x<=1000):∀ n i k:Nat,i+n=a.length->i<=b.length->2*n+1<k->oJ.l0 k a b i=some (OG (a.drop i) (b.drop i)):=by
 intro n
 induction n with
 |zero=>
  intro i k h hib hk
  obtain⟨k,rfl⟩:∃ j,k=j+2:=⟨k - 2,by omega⟩
  rw[oJ.l0,if_neg (by omega),oJ.j1,if_neg (by simp),jF (by omega) (by omega),aBF _ _ (.inl (List.drop_eq_nil_of_le (by omega)))]
  rw[List.length_drop,List.length_drop]
  congr 1
  omega
 |succ n ih=>
  intro i k h hib hk
  obtain⟨k,rfl⟩:∃ j,k=j+2:=⟨k - 2,by omega⟩
  have h1:i<a.length:=by omega
  rw[oJ.l0,if_pos (by omega),oJ.j1]
  by_cases h2:i<b.length
  ·rw[if_pos (by simp;omega),if_pos (by omega),if_pos (by omega),if_pos (by omega),List.drop_eq_getElem_cons h1,List.drop_eq_getElem_cons h2,OG,YJ h1,YJ h2,yN (by omega)]
   have e1:=ha2 _ (List.getElem_mem h1)
   have e2:=hb2 _ (List.getElem_mem h2)
   rw[jF (x:=a[i] - b[i]) (by omega) (by omega),ih (i+1) k (by omega) (by omega) (by omega)]
   split<;>rfl
  ·rw[if_neg (by simp;omega),jF (by omega) (by omega),aBF _ _ (.inr (List.drop_eq_nil_of_le (by omega)))]
   rw[List.length_drop,List.length_drop]
   congr 1
   omega
theorem aQS (a b:List Int) (ha:a.length<=1000) (hb:b.length<=1000) (ha2:∀ x∈a,-1000<=x/\x<=1000) (hb2:∀ x∈b,-1000<=x/\x<=1000) (k:Nat) (hk:2*a.length+2<=k):oJ.f k a b=some (OG a b):=
 aQR a b ha hb ha2 hb2 a.length 0 k (by omega) (by omega) (by omega)
theorem a4S:∀ a b:List Int,a.length=b.length->(OG a b<0↔lexB a b=true)
 |[],[],_=>by simp[OG,lexB]
 |[],_::_,h=>by simp at h
 |_::_,[],h=>by simp at h
 |x::a,y::b,h=>by
  simp only[OG,lexB]
  by_cases hxy:x=y
  ·rw[if_pos hxy,if_pos hxy]
   exact a4S a b (by simpa using h)
  ·rw[if_neg hxy,if_neg hxy,decide_eq_true_iff]
   omega
theorem aQT (s:Nat):∀ x∈iQ s,0<=x/\x<8:=by
 intro x hx
 obtain⟨i,hi,rfl⟩:=List.mem_map.1 hx
 have:=List.mem_range.1 (List.mem_filter.1 hi).1
 simp only[Int.ofNat_eq_natCast]
 omega
theorem aBG (s:Nat):∀ x∈iQ s,-1000<=x/\x<=1000:=fun x hx=>by
 have:=aQT s x hx
 omega
theorem aBH (s:Nat):(iQ s).length<=8:=by
 unfold iQ bitsOf
 rw[List.length_map]
 exact Nat.le_trans (List.length_filter_le _ _) (by simp)
theorem bqN (a b:List Int) (ha:a.length<=8) (hb:b.length<=8) (ha2:∀ x∈a,-1000<=x/\x<=1000) (hb2:∀ x∈b,-1000<=x/\x<=1000) (k:Nat) (hk:18<=k):adI.f k a b=some (ab6 a b):=by
 unfold adI.f ab6
 by_cases h:a.length=b.length
 ·rw[if_pos (by omega),if_pos h,aQS a b (by omega) (by omega) ha2 hb2 k (by omega)]
  simp only[Option.bind_some]
  congr 1
  rw[Bool.eq_iff_iff,decide_eq_true_iff]
  exact a4S a b h
 ·rw[if_neg (by omega),if_neg h]
  congr 1
  rw[Bool.eq_iff_iff,decide_eq_true_iff,decide_eq_true_iff]
  omega
theorem a4T (is:Nat->Bool) (f:Nat->List Int):∀ k b,pR is f k=some b->∃ s,s<k/\b=f s
 |0,b,h=>by cases h
 |k+1,b,h=>by
  unfold pR at h
  split at h
  ·split at h
   ·exact⟨k,by omega,(Option.some.inj h).symm⟩
   ·cases h
  ·rename_i c hc
   split at h
   ·exact⟨k,by omega,(Option.some.inj h).symm⟩
   ·obtain⟨s,h1,h2⟩:=a4T is f k c hc
    exact⟨s,by omega,(Option.some.inj h).symm.trans h2⟩
theorem a4U (is:Nat->Bool) (k:Nat):((pR is iQ k).getD []).length<=8/\∀ x∈(pR is iQ k).getD [],-1000<=x/\x<=1000:=by
 cases h:pR is iQ k with
 |none=>exact⟨Nat.zero_le _,fun x hx=>by cases hx⟩
 |some b=>
  obtain⟨s,_,rfl⟩:=a4T _ _ _ _ h
  exact⟨aBH s,aBG s⟩
theorem bqO {n s:Nat} (hs:s<2^n):∀ i,i<n->(2^n - 1 - s).testBit i= !s.testBit i:=by
 intro i hi
 rw[show 2^n - 1 - s=2^n - (s+1) by omega,Nat.testBit_two_pow_sub_succ hs]
 simp[hi]
end Go.Proofs.YtcmfnebcmmklkaaDoor.Hand
namespace Go.Proofs.YtcmfnebcmmklkaaDoor.Q
open Go.RowKit Go.Proofs.YtcmfnebcmmklkaaDoorW.dQ Go.Proofs.YtcmfnebcmmklkaaDoorW.oU Go.Proofs.YtcmfnebcmmklkaaDoorW.gG
attribute [local go_sem] uA uB uC uD uM uN uO uP   -- for this text's walks alone
mutual
def aaU.j0:Nat->List (gQ)->Int->Bool->Option (Int)
  |0,_,_,_=>none
  |k+1,x1,x2,x29=>if x29=true then(some 4)else(if(x1.length:Int)>5 then(some 5)else(aaU.l0 k x1 x2 0))
def aaU.l0:Nat->List (gQ)->Int->Int->Option (Int)
  |0,_,_,_=>none
  |k+1,x1,x2,x7=>if x7<(x1.length:Int)then(if 0<=x7 then((qX.f ((DC x1 x7).f0) 0 24).bind fun a0D=>(if a0D=true then((qX.f ((DC x1 x7).f1) 0 24).bind fun as1=>(if as1=true then((qX.f ((DC x1 x7).f2) 0 5000).bind fun akF=>(if akF=true then(aaU.l0 k x1 x2 (wrap64 (x7+1)))else(some 2)))else(some 2)))else(some 2)))else(none))else(if(x1.length:Int)=0 then(some 2)else((qX.f x2 0 2).bind fun a0E=>(if a0E=true then(some 0)else(some 3))))
end
def aaU.f (k:Nat) (bV:Int) (bU:Int) (iL:Int) (iO:Int) (kV:Int) (lW:Int) (rW:Int) (l1:List (gQ)) (a2:Int):Option (Int):=(aeW.f bV bU).bind fun aEU=>(if aEU=true then((aeW.f iL iO).bind fun aoR=>(if aoR=true then((aeW.f kV lW).bind fun aj2=>(if aj2=true then((qX.f rW 0 20).bind fun aiN=>(aaU.j0 k l1 a2 (!aiN)))else(aaU.j0 k l1 a2 true)))else(aaU.j0 k l1 a2 true)))else(aaU.j0 k l1 a2 true))
theorem aaU.calls (k:Nat) (bV:Int) (bU:Int) (iL:Int) (iO:Int) (kV:Int) (lW:Int) (rW:Int) (A1:Option Addr) (c1:Nat) (l1:List (gQ)) (a2:Int) (r:Int) (w:World) (hr1:Kd.C vC w A1 l1.length l1) (hc1:l1.length<=c1) (h:aaU.f k bV bU iL iO kV lW rW l1 a2=some r):
    Calls Tryd.prog 39 #[.agg #[.int .i64 bV,.int .i64 bU,.int .i64 iL,.int .i64 iO,.int .i64 kV,.int .i64 lW,.int .i64 rW],.slice A1 l1.length c1,.int .i64 a2] w fun e w'=>e=.returned (.int .i64 r)/\Below w.heap.size w w':=by
 have aPM:=Tryd.underlying53
 have QY:=Tryd.underlying42
 have HR1:=aA.mk hr1
 have HC1:=aA.mk hc1
 clear hr1 hc1
 have HB:=aA.mk (Below.refl w.heap.size w)
 have H:((aeW.f bV bU).bind fun aEU=>(if aEU=true then((aeW.f iL iO).bind fun aoR=>(if aoR=true then((aeW.f kV lW).bind fun aj2=>(if aj2=true then((qX.f rW 0 20).bind fun aiN=>(aaU.j0 k l1 a2 (!aiN)))else(aaU.j0 k l1 a2 true)))else(aaU.j0 k l1 a2 true)))else(aaU.j0 k l1 a2 true)))=some r:=h
 clear h
 have HC4:=aA.mk H
 clear H
 go_enter Tryd.func39,Tryd.ntmps39
 go_upto_region 1 with(first|((with_reducible refine dU (N:=3) rfl ?_);refine eX 3 #[.int .i64 bV,.int .i64 bU,.int .i64 iL,.int .i64 iO,.int .i64 kV,.int .i64 lW,.int .i64 rW] 53 ?_;intro bBU hg w5 hbox hb;have dF:=aA.mk (hbox);have bUP:=gw hg HB;have bUQ:=gw hg HB;replace HB:=bs HB hb;clear hb hbox hg))
 (try simp only[Act.put,List.setIfInBounds_toArray,List.set_cons_zero,List.set_cons_succ])
 go_cut [29] (fun v29 wc=>∃ (kq:Nat) (a0J:Bool),v29=.bool a0J/\aA (aaU.j0 kq l1 a2 a0J=some r)/\aA (kq<=k)/\aA (wc.heap[bBU]? =some (.cells #[.int .i64 bV,.int .i64 bU,.int .i64 iL,.int .i64 iO,.int .i64 kV,.int .i64 lW,.int .i64 rW] 53 (0,0)))/\aA (Below w.heap.size w wc))
 case first=>
  have H:=HC4.out
  clear HC4
  replace H:=Option.bind_eq_some_iff.mp H
  obtain⟨aEU,A60,H⟩:=H
  replace H:(if aEU=true then((aeW.f iL iO).bind fun aoR=>(if aoR=true then((aeW.f kV lW).bind fun aj2=>(if aj2=true then((qX.f rW 0 20).bind fun aiN=>(aaU.j0 k l1 a2 (!aiN)))else(aaU.j0 k l1 a2 true)))else(aaU.j0 k l1 a2 true)))else(aaU.j0 k l1 a2 true))=some r:=H
  have A6:=aA.mk A60
  clear A60
  by_cases c7:aEU=true
  ·subst c7
   replace H:((aeW.f iL iO).bind fun aoR=>(if aoR=true then((aeW.f kV lW).bind fun aj2=>(if aj2=true then((qX.f rW 0 20).bind fun aiN=>(aaU.j0 k l1 a2 (!aiN)))else(aaU.j0 k l1 a2 true)))else(aaU.j0 k l1 a2 true)))=some r:=by rw[if_pos rfl]at H;exact H
   replace H:=Option.bind_eq_some_iff.mp H
   obtain⟨aoR,DZ,H⟩:=H
   replace H:(if aoR=true then((aeW.f kV lW).bind fun aj2=>(if aj2=true then((qX.f rW 0 20).bind fun aiN=>(aaU.j0 k l1 a2 (!aiN)))else(aaU.j0 k l1 a2 true)))else(aaU.j0 k l1 a2 true))=some r:=H
   have A8:=aA.mk DZ
   clear DZ
   by_cases c9:aoR=true
   ·subst c9
    replace H:((aeW.f kV lW).bind fun aj2=>(if aj2=true then((qX.f rW 0 20).bind fun aiN=>(aaU.j0 k l1 a2 (!aiN)))else(aaU.j0 k l1 a2 true)))=some r:=by rw[if_pos rfl]at H;exact H
    replace H:=Option.bind_eq_some_iff.mp H
    obtain⟨aj2,alX,H⟩:=H
    replace H:(if aj2=true then((qX.f rW 0 20).bind fun aiN=>(aaU.j0 k l1 a2 (!aiN)))else(aaU.j0 k l1 a2 true))=some r:=H
    have A10:=aA.mk alX
    clear alX
    by_cases c11:aj2=true
    ·subst c11
     replace H:((qX.f rW 0 20).bind fun aiN=>(aaU.j0 k l1 a2 (!aiN)))=some r:=by rw[if_pos rfl]at H;exact H
     replace H:=Option.bind_eq_some_iff.mp H
     obtain⟨aiN,adJ,H⟩:=H
     replace H:(aaU.j0 k l1 a2 (!aiN))=some r:=H
     have A12:=aA.mk adJ
     clear adJ
     have H':=aA.mk H
     clear H
     obtain⟨aqB,aqC⟩:=bZ dF (.int .i64 bV) (.int .i64 bU)
     have bLO:=kd dF 2 (.int .i64 iL)
     have bLP:=kd dF 3 (.int .i64 iO)
     have bUR:=kd dF 4 (.int .i64 kV)
     have bUS:=kd dF 5 (.int .i64 lW)
     have bUT:=kd dF 6 (.int .i64 rW)
     have aCZ:=aX dF.out 0
     have aC0:=aX dF.out 1
     have bLQ:=aX dF.out 2
     have bLR:=aX dF.out 3
     have bUU:=aX dF.out 4
     have bUV:=aX dF.out 5
     have bUW:=aX dF.out 6
     go_wp2_with (first|((with_reducible refine gJ (f:=85) rfl ?_);refine cE 10 Tryd.func85 #[.agg #[.int .i64 bV,.int .i64 bU]] ?_;(with_reducible refine(aeW.calls bV bU true _ A6.out).mono ?_);rintro e rU ⟨rfl,hb⟩;refine⟨_,rfl,?_⟩;replace dF:=bb dF hb;replace HB:=bs HB hb;(try clear hb);obtain⟨bmZ,bm0⟩:=bZ dF (.int .i64 bV) (.int .i64 bU);have bHA:=kd dF 2 (.int .i64 iL);have bHB:=kd dF 3 (.int .i64 iO);have bHC:=kd dF 4 (.int .i64 kV);have bHD:=kd dF 5 (.int .i64 lW);have bHE:=kd dF 6 (.int .i64 rW);have bHF:=aX dF.out 0;have bHG:=aX dF.out 1;have bHH:=aX dF.out 2;have bHI:=aX dF.out 3;have bHJ:=aX dF.out 4;have bHK:=aX dF.out 5;have bHL:=aX dF.out 6)|(go_at_call 85;(with_reducible refine(aeW.calls iL iO true _ A8.out).mono ?_);rintro e w16 ⟨rfl,hb⟩;replace dF:=bb dF hb;replace HB:=bs HB hb;(try clear hb);obtain⟨avH,avI⟩:=bZ dF (.int .i64 bV) (.int .i64 bU);have bUX:=kd dF 2 (.int .i64 iL);have bUY:=kd dF 3 (.int .i64 iO);have bUZ:=kd dF 4 (.int .i64 kV);have bU0:=kd dF 5 (.int .i64 lW);have bU1:=kd dF 6 (.int .i64 rW);have bgP:=aX dF.out 0;have bgQ:=aX dF.out 1;have bU2:=aX dF.out 2;have bU3:=aX dF.out 3;have bU4:=aX dF.out 4;have bU5:=aX dF.out 5;have bU6:=aX dF.out 6)|(go_at_call 85;(with_reducible refine(aeW.calls kV lW true _ A10.out).mono ?_);rintro e BM ⟨rfl,hb⟩;replace dF:=bb dF hb;replace HB:=bs HB hb;(try clear hb);obtain⟨aXH,aXI⟩:=bZ dF (.int .i64 bV) (.int .i64 bU);have bHP:=kd dF 2 (.int .i64 iL);have bHQ:=kd dF 3 (.int .i64 iO);have bHR:=kd dF 4 (.int .i64 kV);have bHS:=kd dF 5 (.int .i64 lW);have bHT:=kd dF 6 (.int .i64 rW);have bC4:=aX dF.out 0;have bC5:=aX dF.out 1;have bHU:=aX dF.out 2;have bHV:=aX dF.out 3;have bHW:=aX dF.out 4;have bHX:=aX dF.out 5;have bHY:=aX dF.out 6)|(go_at_call 32;(with_reducible refine(qX.calls rW 0 20 aiN _ A12.out).mono ?_);rintro e w' ⟨rfl,⟨nd,rfl⟩⟩))
     go_meet
     case rel=>exact⟨_,(!aiN),(by first|rfl|(simp;done)|(simp[*];done)),H',⟨by first|omega|exact Nat.le_refl _⟩,⟨b_ dF⟩,⟨Bq HB⟩⟩
    replace c11:=Bool.eq_false_iff.mpr c11
    subst c11
    replace H:(aaU.j0 k l1 a2 true)=some r:=by rw[if_neg (show ¬ (false=true) by decide)]at H;exact H
    have H':=aA.mk H
    clear H
    obtain⟨aqD,aqE⟩:=bZ dF (.int .i64 bV) (.int .i64 bU)
    have bU7:=kd dF 2 (.int .i64 iL)
    have bU8:=kd dF 3 (.int .i64 iO)
    have bU9:=kd dF 4 (.int .i64 kV)
    have bVA:=kd dF 5 (.int .i64 lW)
    have bVB:=kd dF 6 (.int .i64 rW)
    have aT9:=aX dF.out 0
    have aUA:=aX dF.out 1
    have bVC:=aX dF.out 2
    have bVD:=aX dF.out 3
    have bVE:=aX dF.out 4
    have bVF:=aX dF.out 5
    have bVG:=aX dF.out 6
    go_wp2_with (first|((with_reducible refine gJ (f:=85) rfl ?_);refine cE 10 Tryd.func85 #[.agg #[.int .i64 bV,.int .i64 bU]] ?_;(with_reducible refine(aeW.calls bV bU true _ A6.out).mono ?_);rintro e BR ⟨rfl,hb⟩;refine⟨_,rfl,?_⟩;replace dF:=bb dF hb;replace HB:=bs HB hb;(try clear hb);obtain⟨aFN,aFO⟩:=bZ dF (.int .i64 bV) (.int .i64 bU);have bHZ:=kd dF 2 (.int .i64 iL);have bH0:=kd dF 3 (.int .i64 iO);have bH1:=kd dF 4 (.int .i64 kV);have bH2:=kd dF 5 (.int .i64 lW);have bH3:=kd dF 6 (.int .i64 rW);have aQ3:=aX dF.out 0;have aQ4:=aX dF.out 1;have bH4:=aX dF.out 2;have bH5:=aX dF.out 3;have bH6:=aX dF.out 4;have bH7:=aX dF.out 5;have bH8:=aX dF.out 6)|(go_at_call 85;(with_reducible refine(aeW.calls iL iO true _ A8.out).mono ?_);rintro e EZ ⟨rfl,hb⟩;replace dF:=bb dF hb;replace HB:=bs HB hb;(try clear hb);obtain⟨bgT,bgU⟩:=bZ dF (.int .i64 bV) (.int .i64 bU);have bD6:=kd dF 2 (.int .i64 iL);have bN2:=kd dF 3 (.int .i64 iO);have bN3:=kd dF 4 (.int .i64 kV);have bN4:=kd dF 5 (.int .i64 lW);have bN5:=kd dF 6 (.int .i64 rW);have bgV:=aX dF.out 0;have bgW:=aX dF.out 1;have bD7:=aX dF.out 2;have bN6:=aX dF.out 3;have bN7:=aX dF.out 4;have bN8:=aX dF.out 5;have bN9:=aX dF.out 6)|(go_at_call 85;(with_reducible refine(aeW.calls kV lW false _ A10.out).mono ?_);rintro e AV ⟨rfl,hb⟩;replace dF:=bb dF hb;replace HB:=bs HB hb;(try clear hb)))
    go_meet
    case rel=>exact⟨_,(true),(by first|rfl|(simp;done)|(simp[*];done)),H',⟨by first|omega|exact Nat.le_refl _⟩,⟨b_ dF⟩,⟨Bq HB⟩⟩
   replace c9:=Bool.eq_false_iff.mpr c9
   subst c9
   replace H:(aaU.j0 k l1 a2 true)=some r:=by rw[if_neg (show ¬ (false=true) by decide)]at H;exact H
   have H':=aA.mk H
   clear H
   obtain⟨aq2,aq3⟩:=bZ dF (.int .i64 bV) (.int .i64 bU)
   have bVH:=kd dF 2 (.int .i64 iL)
   have bVI:=kd dF 3 (.int .i64 iO)
   have bVJ:=kd dF 4 (.int .i64 kV)
   have bVK:=kd dF 5 (.int .i64 lW)
   have bVL:=kd dF 6 (.int .i64 rW)
   have aEE:=aX dF.out 0
   have aEF:=aX dF.out 1
   have bVM:=aX dF.out 2
   have bVN:=aX dF.out 3
   have bVO:=aX dF.out 4
   have bVP:=aX dF.out 5
   have bVQ:=aX dF.out 6
   go_wp2_with (first|((with_reducible refine gJ (f:=85) rfl ?_);refine cE 10 Tryd.func85 #[.agg #[.int .i64 bV,.int .i64 bU]] ?_;(with_reducible refine(aeW.calls bV bU true _ A6.out).mono ?_);rintro e wF ⟨rfl,hb⟩;refine⟨_,rfl,?_⟩;replace dF:=bb dF hb;replace HB:=bs HB hb;(try clear hb);obtain⟨aRS,aRT⟩:=bZ dF (.int .i64 bV) (.int .i64 bU);have bVR:=kd dF 2 (.int .i64 iL);have bVS:=kd dF 3 (.int .i64 iO);have bVT:=kd dF 4 (.int .i64 kV);have bVU:=kd dF 5 (.int .i64 lW);have bVV:=kd dF 6 (.int .i64 rW);have aRU:=aX dF.out 0;have aRV:=aX dF.out 1;have bVW:=aX dF.out 2;have bVX:=aX dF.out 3;have bVY:=aX dF.out 4;have bVZ:=aX dF.out 5;have bV0:=aX dF.out 6)|(go_at_call 85;(with_reducible refine(aeW.calls iL iO false _ A8.out).mono ?_);rintro e EK ⟨rfl,hb⟩;replace dF:=bb dF hb;replace HB:=bs HB hb;(try clear hb)))
   go_meet
   case rel=>exact⟨_,(true),(by first|rfl|(simp;done)|(simp[*];done)),H',⟨by first|omega|exact Nat.le_refl _⟩,⟨b_ dF⟩,⟨Bq HB⟩⟩
  replace c7:=Bool.eq_false_iff.mpr c7
  subst c7
  replace H:(aaU.j0 k l1 a2 true)=some r:=by rw[if_neg (show ¬ (false=true) by decide)]at H;exact H
  have H':=aA.mk H
  clear H
  obtain⟨aZS,aZT⟩:=bZ dF (.int .i64 bV) (.int .i64 bU)
  have bGG:=kd dF 2 (.int .i64 iL)
  have bV1:=kd dF 3 (.int .i64 iO)
  have bV2:=kd dF 4 (.int .i64 kV)
  have bV3:=kd dF 5 (.int .i64 lW)
  have bV4:=kd dF 6 (.int .i64 rW)
  have aZU:=aX dF.out 0
  have aZV:=aX dF.out 1
  have bGH:=aX dF.out 2
  have bV5:=aX dF.out 3
  have bV6:=aX dF.out 4
  have bV7:=aX dF.out 5
  have bV8:=aX dF.out 6
  go_wp2_with (first|((with_reducible refine gJ (f:=85) rfl ?_);refine cE 10 Tryd.func85 #[.agg #[.int .i64 bV,.int .i64 bU]] ?_;(with_reducible refine(aeW.calls bV bU false _ A6.out).mono ?_);rintro e yA ⟨rfl,hb⟩;refine⟨_,rfl,?_⟩;replace dF:=bb dF hb;replace HB:=bs HB hb;(try clear hb)))
  go_meet
  case rel=>exact⟨_,(true),(by first|rfl|(simp;done)|(simp[*];done)),H',⟨by first|omega|exact Nat.le_refl _⟩,⟨b_ dF⟩,⟨Bq HB⟩⟩
 case rest=>
  clear HC4
  try clear c1
  obtain⟨kq,a0J,rfl,HA,HJ3,dF,HB⟩:=hcut
  rcases kq with _|kj3
  ·exact absurd HA.out (by simp[aaU.j0])
  have H:=HA.out
  clear HA
  simp only[aaU.j0]at H
  by_cases c32:a0J=true
  ·subst c32
   replace H:(some 4)=some r:=by rw[if_pos rfl]at H;exact H
   obtain rfl:=Option.some.inj H
   go_wp2
   go_ret
   exact eR HB
  replace c32:=Bool.eq_false_iff.mpr c32
  subst c32
  replace H:(if(l1.length:Int)>5 then(some 5)else(aaU.l0 kj3 l1 a2 0))=some r:=by rw[if_neg (show ¬ (false=true) by decide)]at H;exact H
  by_cases OH:(l1.length:Int)>5
  ·rw[if_pos OH]at H
   have adK:decide (5<(l1.length:Int))=true:=decide_eq_true OH
   have aQX:decide (5<l1.length)=true:=decide_eq_true (by omega)
   clear OH
   obtain rfl:=Option.some.inj H
   go_wp2
   go_ret
   exact eR HB
  rw[if_neg OH]at H
  have adK:decide (5<(l1.length:Int))=false:=decide_eq_false OH
  have aQX:decide (5<l1.length)=false:=decide_eq_false (by omega)
  clear OH
  have H':=aA.mk H
  clear H
  go_wp2
  go_loopg [7] kj3 (fun kq v7 w'=>∃ (aaS:Int),v7=.int .i64 aaS/\aA (aaU.l0 kq l1 a2 aaS=some r)/\aA (kq<=kj3)/\aA (w'.heap[bBU]? =some (.cells #[.int .i64 bV,.int .i64 bU,.int .i64 iL,.int .i64 iO,.int .i64 kV,.int .i64 lW,.int .i64 rW] 53 (0,0)))/\aA (Below w.heap.size w w'))
  case atStart=>exact⟨(0),(by first|rfl|(simp;done)|(simp[*];done)),H',⟨Nat.le_refl _⟩,⟨b_ dF⟩,⟨Bq HB⟩⟩
  case round=>
   clear H'
   try clear c32
   try clear OH
   try clear adK
   try clear aQX
   obtain⟨aaS,rfl,HA,mY,dF,HB⟩:=hrel
   rcases gk with _|k2
   ·exact absurd HA.out (by simp[aaU.l0])
   have H:=HA.out
   clear HA
   simp only[aaU.l0]at H
   by_cases c34:aaS<(l1.length:Int)
   ·rw[if_pos c34]at H
    have bsA:decide (aaS<(l1.length:Int))=true:=decide_eq_true c34
    clear c34
    by_cases c35:0<=aaS
    ·rw[if_pos c35]at H
     have bqX:decide (0<=aaS)=true:=decide_eq_true c35
     clear c35
     replace H:=Option.bind_eq_some_iff.mp H
     obtain⟨a0D,bBW,H⟩:=H
     replace H:(if a0D=true then((qX.f ((DC l1 aaS).f1) 0 24).bind fun as1=>(if as1=true then((qX.f ((DC l1 aaS).f2) 0 5000).bind fun akF=>(if akF=true then(aaU.l0 k2 l1 a2 (wrap64 (aaS+1)))else(some 2)))else(some 2)))else(some 2))=some r:=H
     have A36:=aA.mk bBW
     clear bBW
     by_cases c37:a0D=true
     ·subst c37
      replace H:((qX.f ((DC l1 aaS).f1) 0 24).bind fun as1=>(if as1=true then((qX.f ((DC l1 aaS).f2) 0 5000).bind fun akF=>(if akF=true then(aaU.l0 k2 l1 a2 (wrap64 (aaS+1)))else(some 2)))else(some 2)))=some r:=by rw[if_pos rfl]at H;exact H
      replace H:=Option.bind_eq_some_iff.mp H
      obtain⟨as1,bBX,H⟩:=H
      replace H:(if as1=true then((qX.f ((DC l1 aaS).f2) 0 5000).bind fun akF=>(if akF=true then(aaU.l0 k2 l1 a2 (wrap64 (aaS+1)))else(some 2)))else(some 2))=some r:=H
      have A38:=aA.mk bBX
      clear bBX
      by_cases c39:as1=true
      ·subst c39
       replace H:((qX.f ((DC l1 aaS).f2) 0 5000).bind fun akF=>(if akF=true then(aaU.l0 k2 l1 a2 (wrap64 (aaS+1)))else(some 2)))=some r:=by rw[if_pos rfl]at H;exact H
       replace H:=Option.bind_eq_some_iff.mp H
       obtain⟨akF,a5I,H⟩:=H
       replace H:(if akF=true then(aaU.l0 k2 l1 a2 (wrap64 (aaS+1)))else(some 2))=some r:=H
       have vG:=aA.mk a5I
       clear a5I
       by_cases c41:akF=true
       ·subst c41
        replace H:(aaU.l0 k2 l1 a2 (wrap64 (aaS+1)))=some r:=by rw[if_pos rfl]at H;exact H
        have H':=aA.mk H
        clear H
        have ajU:0<=(aaS:Int):=od
        have ajV:aaS<(l1.length:Int):=od
        obtain⟨as8,ay7,al6,amB,amJ⟩:=aIW HR1.out aaS ajU ajV
        cases ay7
        replace al6:=xs HB al6
        replace amB:=xs HB amB
        replace amJ:=xs HB amJ
        replace ajU:=eq_true ajU
        replace ajV:=eq_true ajV
        go_wp2_with (first|((with_reducible refine gJ (f:=32) rfl ?_);refine cE 44 Tryd.func32 #[.int .i64 ((DC l1 aaS).f0),.int .i64 0,.int .i64 24] ?_;(with_reducible refine(qX.calls ((DC l1 aaS).f0) 0 24 true _ A36.out).mono ?_);rintro e w' ⟨rfl,⟨nd,rfl⟩⟩;refine⟨_,rfl,?_⟩;have amQ:0<=(aaS:Int):=od;have amU:aaS<(l1.length:Int):=od;obtain⟨aOY,aOZ,atE,atZ,au5⟩:=aIW HR1.out aaS amQ amU;obtain rfl:as8=aOY:=(by injection aOZ);replace atE:=xs HB atE;replace atZ:=xs HB atZ;replace au5:=xs HB au5;replace amQ:=eq_true amQ;replace amU:=eq_true amU)|(go_at_call 32;(with_reducible refine(qX.calls ((DC l1 aaS).f1) 0 24 true _ A38.out).mono ?_);rintro e w' ⟨rfl,⟨nd,rfl⟩⟩;have ay9:0<=(aaS:Int):=od;have azB:aaS<(l1.length:Int):=od;obtain⟨bnM,bnN,aO0,aO1,aO2⟩:=aIW HR1.out aaS ay9 azB;obtain rfl:as8=bnM:=(by injection bnN);replace aO0:=xs HB aO0;replace aO1:=xs HB aO1;replace aO2:=xs HB aO2;replace ay9:=eq_true ay9;replace azB:=eq_true azB)|(go_at_call 32;(with_reducible refine(qX.calls ((DC l1 aaS).f2) 0 5000 true _ vG.out).mono ?_);rintro e w' ⟨rfl,⟨nd,rfl⟩⟩))
        go_roundg k2
        case measure=>have:=HJ3.out;have:=mY.out;omega
        case rel=>exact⟨(wrap64 (aaS+1)),(by first|rfl|(simp;done)|(simp[*];done)),H',⟨by have:=HJ3.out;have:=mY.out;omega⟩,⟨b_ dF⟩,⟨Bq HB⟩⟩
       replace c41:=Bool.eq_false_iff.mpr c41
       subst c41
       replace H:(some 2)=some r:=by rw[if_neg (show ¬ (false=true) by decide)]at H;exact H
       obtain rfl:=Option.some.inj H
       have ajU:0<=(aaS:Int):=od
       have ajV:aaS<(l1.length:Int):=od
       obtain⟨as8,ay7,al6,amB,amJ⟩:=aIW HR1.out aaS ajU ajV
       cases ay7
       replace al6:=xs HB al6
       replace amB:=xs HB amB
       replace amJ:=xs HB amJ
       replace ajU:=eq_true ajU
       replace ajV:=eq_true ajV
       go_wp2_with (first|((with_reducible refine gJ (f:=32) rfl ?_);refine cE 44 Tryd.func32 #[.int .i64 ((DC l1 aaS).f0),.int .i64 0,.int .i64 24] ?_;(with_reducible refine(qX.calls ((DC l1 aaS).f0) 0 24 true _ A36.out).mono ?_);rintro e w' ⟨rfl,⟨nd,rfl⟩⟩;refine⟨_,rfl,?_⟩;have amQ:0<=(aaS:Int):=od;have amU:aaS<(l1.length:Int):=od;obtain⟨aOY,aOZ,atE,atZ,au5⟩:=aIW HR1.out aaS amQ amU;obtain rfl:as8=aOY:=(by injection aOZ);replace atE:=xs HB atE;replace atZ:=xs HB atZ;replace au5:=xs HB au5;replace amQ:=eq_true amQ;replace amU:=eq_true amU)|(go_at_call 32;(with_reducible refine(qX.calls ((DC l1 aaS).f1) 0 24 true _ A38.out).mono ?_);rintro e w' ⟨rfl,⟨nd,rfl⟩⟩;have ay9:0<=(aaS:Int):=od;have azB:aaS<(l1.length:Int):=od;obtain⟨bnM,bnN,aO0,aO1,aO2⟩:=aIW HR1.out aaS ay9 azB;obtain rfl:as8=bnM:=(by injection bnN);replace aO0:=xs HB aO0;replace aO1:=xs HB aO1;replace aO2:=xs HB aO2;replace ay9:=eq_true ay9;replace azB:=eq_true azB)|(go_at_call 32;(with_reducible refine(qX.calls ((DC l1 aaS).f2) 0 5000 false _ vG.out).mono ?_);rintro e w' ⟨rfl,⟨nd,rfl⟩⟩))
       go_ret
       exact eR HB
      replace c39:=Bool.eq_false_iff.mpr c39
      subst c39
      replace H:(some 2)=some r:=by rw[if_neg (show ¬ (false=true) by decide)]at H;exact H
      obtain rfl:=Option.some.inj H
      have ajU:0<=(aaS:Int):=od
      have ajV:aaS<(l1.length:Int):=od
      obtain⟨as8,ay7,al6,amB,amJ⟩:=aIW HR1.out aaS ajU ajV
      cases ay7
      replace al6:=xs HB al6
      replace amB:=xs HB amB
      replace amJ:=xs HB amJ
      replace ajU:=eq_true ajU
      replace ajV:=eq_true ajV
      go_wp2_with (first|((with_reducible refine gJ (f:=32) rfl ?_);refine cE 44 Tryd.func32 #[.int .i64 ((DC l1 aaS).f0),.int .i64 0,.int .i64 24] ?_;(with_reducible refine(qX.calls ((DC l1 aaS).f0) 0 24 true _ A36.out).mono ?_);rintro e w' ⟨rfl,⟨nd,rfl⟩⟩;refine⟨_,rfl,?_⟩;have amQ:0<=(aaS:Int):=od;have amU:aaS<(l1.length:Int):=od;obtain⟨aOY,aOZ,atE,atZ,au5⟩:=aIW HR1.out aaS amQ amU;obtain rfl:as8=aOY:=(by injection aOZ);replace atE:=xs HB atE;replace atZ:=xs HB atZ;replace au5:=xs HB au5;replace amQ:=eq_true amQ;replace amU:=eq_true amU)|(go_at_call 32;(with_reducible refine(qX.calls ((DC l1 aaS).f1) 0 24 false _ A38.out).mono ?_);rintro e w' ⟨rfl,⟨nd,rfl⟩⟩))
      go_ret
      exact eR HB
     replace c37:=Bool.eq_false_iff.mpr c37
     subst c37
     replace H:(some 2)=some r:=by rw[if_neg (show ¬ (false=true) by decide)]at H;exact H
     obtain rfl:=Option.some.inj H
     have ajU:0<=(aaS:Int):=od
     have ajV:aaS<(l1.length:Int):=od
     obtain⟨as8,ay7,al6,amB,amJ⟩:=aIW HR1.out aaS ajU ajV
     cases ay7
     replace al6:=xs HB al6
     replace amB:=xs HB amB
     replace amJ:=xs HB amJ
     replace ajU:=eq_true ajU
     replace ajV:=eq_true ajV
     go_wp2_with (first|((with_reducible refine gJ (f:=32) rfl ?_);refine cE 44 Tryd.func32 #[.int .i64 ((DC l1 aaS).f0),.int .i64 0,.int .i64 24] ?_;(with_reducible refine(qX.calls ((DC l1 aaS).f0) 0 24 false _ A36.out).mono ?_);rintro e w' ⟨rfl,⟨nd,rfl⟩⟩;refine⟨_,rfl,?_⟩))
     go_ret
     exact eR HB
    rw[if_neg c35]at H
    exact absurd H (by simp)
   rw[if_neg c34]at H
   have bsA:decide (aaS<(l1.length:Int))=false:=decide_eq_false c34
   clear c34
   by_cases c42:(l1.length:Int)=0
   ·rw[if_pos c42]at H
    have bhA:((l1.length:Int)==0)=true:=beq_iff_eq.mpr c42
    have bJ3:((l1.length:Int)!=0)=false:=bne_eq_false_iff_eq.mpr c42
    clear c42
    obtain rfl:=Option.some.inj H
    go_wp2
    go_ret
    exact eR HB
   rw[if_neg c42]at H
   have bhA:((l1.length:Int)==0)=false:=beq_eq_false_iff_ne.mpr c42
   have bJ3:((l1.length:Int)!=0)=true:=bne_iff_ne.mpr c42
   have bV9:¬ (l1=[]):=fun h_=>c42 (by rw[h_];rfl)
   replace H:=Option.bind_eq_some_iff.mp H
   obtain⟨a0E,bBY,H⟩:=H
   replace H:(if a0E=true then(some 0)else(some 3))=some r:=H
   have A43:=aA.mk bBY
   clear bBY
   by_cases c44:a0E=true
   ·subst c44
    replace H:(some 0)=some r:=by rw[if_pos rfl]at H;exact H
    obtain rfl:=Option.some.inj H
    go_wp2_with (first|((with_reducible refine gJ (f:=32) rfl ?_);refine cE 68 Tryd.func32 #[.int .i64 a2,.int .i64 0,.int .i64 2] ?_;(with_reducible refine(qX.calls a2 0 2 true _ A43.out).mono ?_);rintro e w' ⟨rfl,⟨nd,rfl⟩⟩;refine⟨_,rfl,?_⟩))
    go_ret
    exact eR HB
   replace c44:=Bool.eq_false_iff.mpr c44
   subst c44
   replace H:(some 3)=some r:=by rw[if_neg (show ¬ (false=true) by decide)]at H;exact H
   obtain rfl:=Option.some.inj H
   go_wp2_with (first|((with_reducible refine gJ (f:=32) rfl ?_);refine cE 68 Tryd.func32 #[.int .i64 a2,.int .i64 0,.int .i64 2] ?_;(with_reducible refine(qX.calls a2 0 2 false _ A43.out).mono ?_);rintro e w' ⟨rfl,⟨nd,rfl⟩⟩;refine⟨_,rfl,?_⟩))
   go_ret
   exact eR HB
end Go.Proofs.YtcmfnebcmmklkaaDoor.Q
namespace Go.Proofs.YtcmfnebcmmklkaaDoor.Q
open Go.RowKit Go.Proofs.YtcmfnebcmmklkaaDoorW.dQ
theorem oN.calls (w:World) (hT:Hand.lZ w) (h:oN.f=some ()):Calls Tryd.prog 15 #[] w fun e w'=>e=.returned (.bool true)/\Below w.heap.size w w':=Hand.aQG w hT
end Go.Proofs.YtcmfnebcmmklkaaDoor.Q
