/- What DozenLots reaches beyond the shared texts, and its card. Part 1 of 5. -/
import Derived.Test.YtcmfnebcmmklkaaDoorRows
import Derived.Test.YtcmfnebcmmklkaaDoorK2
import Derived.WalkKit
import Derived.ProofKit
import Derived.OpenShut
import Derived.Deep.DeepHandedRow
import Derived.Deep.Slices
import Derived.Lib.LaidTab
import Derived.Stop.LaidErr
import Derived.Below
import Derived.ChangeOld
import Derived.SizedLaws
import Derived.Test.YtcmfnebcmmklkaaDoorK11
import Derived.Test.YtcmfnebcmmklkaaDoorK13
import Derived.Test.YtcmfnebcmmklkaaDoorK12
set_option linter.unusedVariables false
set_option linter.unusedSimpArgs false
set_option maxRecDepth 100000
set_option maxHeartbeats 8000000
namespace Go.Proofs.YtcmfnebcmmklkaaDoor.Hand
open Go.ChangeShapes Go.WideShapes Go.ChangeAt Go.RowKit Go.Deep Go.Proofs.YtcmfnebcmmklkaaDoorW.dQ Go.Proofs.YtcmfnebcmmklkaaDoor.Q
theorem own:ownKnob Tryd.prog.godebug=none:=by kernel_rfl
theorem laidOut:laidOutB Tryd.prog=true:=by kernel_rfl
theorem cells42:Tryd.prog.cellsOf 42=2:=by kernel_rfl
theorem ajJ:Tryd.prog.cellsOf 89=2:=by kernel_rfl
theorem ajK:Tryd.prog.cellsOf 91=6:=by kernel_rfl
theorem cells25:Tryd.prog.cellsOf 25=2:=by kernel_rfl
theorem g64:Tryd.prog.globalNamed "math/bits.deBruijn64tab" =some 1:=by kernel_rfl
section
variable {H:Type} {enc:TypeId×Value->H} {w:World} {base:Nat} {spare:Nat->Bool} {held:Bool}
theorem ajM {n:Nat} {cs:List Value} {x:DataW H×List MemPlace} (h:DataW.trod enc Tryd.prog w base spare held n 42 cs=some x):∃ y:aH,cs=[.int .i64 y.f0,.int .i64 y.f1]:=by
 obtain⟨xs,m,rfl,rfl,hl,hx,hf⟩:=DataW.trod_struct Tryd.underlying42 h
 rw[cells42]at hl
 match cs,hl with
 |[c0,c1],_=>
  have h0:=hf 0 _ rfl
  have h1:=hf 1 _ rfl
  match xs,hx with
  |[y0,y1],_=>
   obtain⟨i0,e0,_,_⟩:=DataW.trod_int Tryd.underlying3 (show DataW.trod enc Tryd.prog w base spare held m 3 [c0]=some y0 from h0)
   obtain⟨i1,e1,_,_⟩:=DataW.trod_int Tryd.underlying3 (show DataW.trod enc Tryd.prog w base spare held m 3 [c1]=some y1 from h1)
   simp only[List.cons.injEq,and_true]at e0 e1
   exact⟨⟨i0,i1⟩,by rw[e0,e1]⟩
theorem azD {n:Nat} {cs:List Value} {x:DataW H×List MemPlace} (h:DataW.trod enc Tryd.prog w base spare held n 89 cs=some x):∃ y:aZ,cs=[.int .i64 y.f0,.int .i64 y.f1]:=by
 obtain⟨xs,m,rfl,rfl,hl,hx,hf⟩:=DataW.trod_struct Tryd.underlying89 h
 rw[ajJ]at hl
 match cs,hl with
 |[c0,c1],_=>
  have h0:=hf 0 _ rfl
  have h1:=hf 1 _ rfl
  match xs,hx with
  |[y0,y1],_=>
   obtain⟨i0,e0,_,_⟩:=DataW.trod_int Tryd.underlying3 (show DataW.trod enc Tryd.prog w base spare held m 3 [c0]=some y0 from h0)
   obtain⟨i1,e1,_,_⟩:=DataW.trod_int Tryd.underlying3 (show DataW.trod enc Tryd.prog w base spare held m 3 [c1]=some y1 from h1)
   simp only[List.cons.injEq,and_true]at e0 e1
   exact⟨⟨i0,i1⟩,by rw[e0,e1]⟩
theorem azE {n:Nat} {cs:List Value} {x:DataW H×List MemPlace} (h:DataW.trod enc Tryd.prog w base spare held n 91 cs=some x):∃ y:aI,cs=[.int .i64 y.f0,.int .i64 y.f1.f0,.int .i64 y.f1.f1,.int .i64 y.f2.f0,.int .i64 y.f2.f1,.bool y.f3]:=by
 obtain⟨xs,m,rfl,rfl,hl,hx,hf⟩:=DataW.trod_struct Tryd.underlying91 h
 rw[ajK]at hl
 match cs,hl with
 |[c0,c1,c2,c3,c4,c5],_=>
  have h0:=hf 0 _ rfl
  have h1:=hf 1 _ rfl
  have h2:=hf 2 _ rfl
  have h3:=hf 3 _ rfl
  match xs,hx with
  |[y0,y1,y2,y3],_=>
   obtain⟨i0,e0,_,_⟩:=DataW.trod_int Tryd.underlying3 (show DataW.trod enc Tryd.prog w base spare held m 3 [c0]=some y0 from h0)
   obtain⟨s1,e1⟩:=ajM (show DataW.trod enc Tryd.prog w base spare held m 42 [c1,c2]=some y1 from h1)
   obtain⟨s2,e2⟩:=ajM (show DataW.trod enc Tryd.prog w base spare held m 42 [c3,c4]=some y2 from h2)
   obtain⟨i3,e3,_⟩:=DataW.trod_bool Tryd.underlying4 (show DataW.trod enc Tryd.prog w base spare held m 4 [c5]=some y3 from h3)
   simp only[List.cons.injEq,and_true]at e0 e1 e2 e3
   exact⟨⟨i0,s1,s2,i3⟩,by rw[e0,e1.1,e1.2,e2.1,e2.2,e3]⟩
theorem in22 {fuel:Nat} {c0:Value} {x:DataW H×List MemPlace} (hf:DataW.trod enc Tryd.prog w base spare held fuel 22 [c0]=some x):
  ∃ (A:Option Addr) (l:List aZ) (c:Nat),c0=.slice A l.length c/\l.length<=c/\Kd.C iJ w A l.length l:=by
 rcases open_slice Tryd.underlying22 hf with⟨hcs,_⟩|⟨a,n,c,m,k,D,Pl,hcs,_,hl,hm,hmm,_,hi⟩
 ·simp only[List.cons.injEq,and_true]at hcs
  exact⟨none,[],0,hcs,Nat.le_refl _,rfl,by simp,fun h=>absurd h (by simp)⟩
 ·simp only[List.cons.injEq,and_true]at hcs
  have hlm:n<=m:=by rw[hmm];split<;>omega
  have hel:∀ i,i<n->∃ y:aZ,∀ j u,[Value.int .i64 y.f0,.int .i64 y.f1][j]? =some u->w.cell? (a.add (i*2+j))=some u:=by
   intro i hin
   obtain⟨cs',hc,ht⟩:=hi i (by omega)
   rw[ajJ]at hc
   obtain⟨y,rfl⟩:=azD ht
   refine⟨y,fun j u hj=>?_⟩
   obtain⟨_,_,hat⟩:=World.cells?_some hc
   obtain⟨hjl,hju⟩:=List.getElem?_eq_some_iff.1 hj
   have:=hat j (by simpa using hjl)
   rw[<-Go.Deep.add_add,this]
   exact hj
  obtain⟨f,hf⟩:∃ f:Nat->aZ,∀ i,i<n->∀ j u,[Value.int .i64 (f i).f0,.int .i64 (f i).f1][j]? =some u->w.cell? (a.add (i*2+j))=some u:=
   haveI:Inhabited aZ:=⟨z89⟩
   choose_lt (p:=fun i (y:aZ)=>∀ j u,[Value.int .i64 y.f0,.int .i64 y.f1][j]? =some u->w.cell? (a.add (i*2+j))=some u) hel
  refine⟨some a,(List.range n).map f,c,by rw[hcs];simp,by simpa using hl,?_⟩
  rw[show((List.range n).map f).length=n by simp]
  refine⟨by simp,by simp[maxLen]at hm;omega,fun _=>⟨a,rfl,fun j p hj=>?_⟩⟩
  obtain⟨hjl,hp⟩:=List.getElem?_eq_some_iff.1 hj
  simp at hjl hp
  subst hp
  exact⟨_,rfl,aIS w (f j),hf j hjl⟩
theorem azG {fuel:Nat} {c0:Value} {x:DataW H×List MemPlace} (hf:DataW.trod enc Tryd.prog w base spare held fuel 23 [c0]=some x):
  ∃ (A:Option Addr) (l:List aI) (c:Nat),c0=.slice A l.length c/\l.length<=c/\Kd.C iE w A l.length l:=by
 rcases open_slice Tryd.underlying23 hf with⟨hcs,_⟩|⟨a,n,c,m,k,D,Pl,hcs,_,hl,hm,hmm,_,hi⟩
 ·simp only[List.cons.injEq,and_true]at hcs
  exact⟨none,[],0,hcs,Nat.le_refl _,rfl,by simp,fun h=>absurd h (by simp)⟩
 ·simp only[List.cons.injEq,and_true]at hcs
  have hlm:n<=m:=by rw[hmm];split<;>omega
  have hel:∀ i,i<n->∃ y:aI,∀ j u,[Value.int .i64 y.f0,.int .i64 y.f1.f0,.int .i64 y.f1.f1,.int .i64 y.f2.f0,.int .i64 y.f2.f1,.bool y.f3][j]? =some u->w.cell? (a.add (i*6+j))=some u:=by
   intro i hin
   obtain⟨cs',hc,ht⟩:=hi i (by omega)
   rw[ajK]at hc
   obtain⟨y,rfl⟩:=azE ht
   refine⟨y,fun j u hj=>?_⟩
   obtain⟨_,_,hat⟩:=World.cells?_some hc
   obtain⟨hjl,hju⟩:=List.getElem?_eq_some_iff.1 hj
   have:=hat j (by simpa using hjl)
   rw[<-Go.Deep.add_add,this]
   exact hj
  obtain⟨f,hf⟩:∃ f:Nat->aI,∀ i,i<n->∀ j u,[Value.int .i64 (f i).f0,.int .i64 (f i).f1.f0,.int .i64 (f i).f1.f1,.int .i64 (f i).f2.f0,.int .i64 (f i).f2.f1,.bool (f i).f3][j]? =some u->w.cell? (a.add (i*6+j))=some u:=
   haveI:Inhabited aI:=⟨z91⟩
   choose_lt (p:=fun i (y:aI)=>∀ j u,[Value.int .i64 y.f0,.int .i64 y.f1.f0,.int .i64 y.f1.f1,.int .i64 y.f2.f0,.int .i64 y.f2.f1,.bool y.f3][j]? =some u->w.cell? (a.add (i*6+j))=some u) hel
  refine⟨some a,(List.range n).map f,c,by rw[hcs];simp,by simpa using hl,?_⟩
  rw[show((List.range n).map f).length=n by simp]
  refine⟨by simp,by simp[maxLen]at hm;omega,fun _=>⟨a,rfl,fun j p hj=>?_⟩⟩
  obtain⟨hjl,hp⟩:=List.getElem?_eq_some_iff.1 hj
  simp at hjl hp
  subst hp
  exact⟨_,rfl,aIU w (f j),hf j hjl⟩
theorem azH {b0:Nat} {v:Value} {d:DataW H} {p:List MemPlace} (hv:Value.okWide Tryd.prog w .any b0 25 v) (h:DataW.Trod enc Tryd.prog w base spare held 25 v d p):
  ∃ (A:Option Addr) (l:List aZ) (c:Nat) (B:Option Addr) (q:List aI) (c2:Nat),v=.agg #[.slice A l.length c,.slice B q.length c2]/\(l.length<=c/\Kd.C iJ w A l.length l)/\q.length<=c2/\Kd.C iE w B q.length q:=by
 obtain⟨cs,rfl,hsz⟩:=okWide_struct Tryd.underlying25 hv
 rw[cells25]at hsz
 obtain⟨fuel,hf⟩:=h
 obtain⟨xs,m,rfl,_,hl,hx,hf⟩:=DataW.trod_struct Tryd.underlying25 hf
 obtain⟨l⟩:=cs
 match l,hsz with
 |[c0,c1],_=>
  have h0:=hf 0 _ rfl
  have h1:=hf 1 _ rfl
  match xs,hx with
  |[y0,y1],_=>
   obtain⟨A,l,c,e1,hc,hC⟩:=in22 (show DataW.trod enc Tryd.prog w base spare held m 22 [c0]=some y0 from h0)
   obtain⟨B,q,c2,e2,hc2,hC2⟩:=azG (show DataW.trod enc Tryd.prog w base spare held m 23 [c1]=some y1 from h1)
   exact⟨A,l,c,B,q,c2,by rw[e1,e2],⟨hc,hC⟩,hc2,hC2⟩
end
theorem azI {W:World} (h:laidMetH Tryd.prog Rows.dozenLotsRow.laid W):lZ W:=by
 have h2:Lib.TabIs Tryd.prog W "math/bits.deBruijn64tab" .u8 (Lib.deBruijn64tab.map fun(n:Nat)=>(n:Int)):=
  Lib.tabIs_of_head (rest:=[]) (g:=1) (t:=Tryd.prog.globals[1]!.type) (n:=64) (e:=5) g64 (by kernel_rfl) (by kernel_rfl) (by kernel_rfl) (by kernel_rfl) (by kernel_rfl) (laidMet.tail h)
 have hc:∀ j,j<Lib.deBruijn64tab.length->W.cell? ⟨1,j,none⟩=some (.int .u8 (Lib.deBruijn64tab.getD j 0)):=by
  intro j hj
  have:=h2.cell g64 j (by simpa using hj)
  rw[this]
  simp[List.getD_eq_getElem?_getD,List.getElem?_eq_getElem hj]
 exact⟨World.block_lt_of_cell? W ⟨1,0,none⟩ (hc 0 (by decide)),hc⟩
end Go.Proofs.YtcmfnebcmmklkaaDoor.Hand
namespace Go.Proofs.YtcmfnebcmmklkaaDoor.Hand
open Go.RowKit Go.Shelf Go.Proofs.YtcmfnebcmmklkaaDoorW.dQ Go.Proofs.YtcmfnebcmmklkaaDoorW.gG Go.Proofs.YtcmfnebcmmklkaaDoor.Q
def iH (x:dR):Lt:=⟨x.f0.f0,x.f0.f1,x.f2⟩
def iv (s:aH):Iv:=(s.f0,s.f1)
theorem aoS (a b:Int):mx a b=max a b:=by unfold mx;split<;>omega
theorem aoT (a b:Int):mn a b=min a b:=by unfold mn;split<;>omega
theorem acW (a b:aH):iv (QG a b)=qR (iv a) (iv b):=by
 unfold iv QG qR
 simp only[aoS,aoT]
theorem azJ (x:dR) (s:aH):iv (abO x s)=(iH x).after (iv s):=by
 unfold iv abO iH Lt.after
 cases x.f2<;>rfl
theorem azK (x:dR) (s:aH):iv (aaH x s)=(iH x).before (iv s):=by
 unfold iv aaH iH Lt.before
 cases x.f2<;>rfl
theorem azL (x:dR) (a b:aH):iv (abP x a b)=(iH x).between (iv a) (iv b):=by
 unfold iv abP iH Lt.between
 cases x.f2<;>rfl
theorem QS {ls:List dR} {i:Nat} (h:i<ls.length):dP ls i=ls[i]:=by
 unfold dP
 simp[List.getD_eq_getElem?_getD,h]
theorem ajN (M:Int) (ls:List dR) (n:Nat):yY M ls n=true↔∀ j,0<j->j<=n->(gU M ls j).f0<=(gU M ls j).f1:=by
 induction n with
 |zero=>exact⟨fun _ j h1 h2=>absurd h2 (by omega),fun _=>rfl⟩
 |succ n ih=>
  rw[yY,Bool.and_eq_true,ih,decide_eq_true_iff]
  constructor
  ·rintro⟨h1,h2⟩ j hj1 hj2
   rcases Nat.lt_or_ge j (n+1)with h|h
   ·exact h1 j hj1 (by omega)
   ·obtain rfl:j=n+1:=by omega
    exact h2
  ·intro h
   exact⟨fun j h1 h2=>h j h1 (by omega),h _ (by omega) (Nat.le_refl _)⟩
open Classical in
theorem ajO (M:Int) (ls:List dR):∀ d i,i+d=ls.length->
  ZG M (iv (gU M ls i)) ((ls.drop i).map iH)=if ∀ j,i<j->j<=ls.length->(gU M ls j).f0<=(gU M ls j).f1 then some (iv (qN M ls i),(List.range' i d).map (fun j=>iv (AY M ls j)),iv (gU M ls ls.length))else none:=by
 intro d
 induction d with
 |zero=>
  intro i hi
  obtain rfl:i=ls.length:=by omega
  rw[List.drop_length,List.map_nil,if_pos (fun j h1 h2=>absurd h2 (by omega)),aqS]
  rfl
 |succ d ih=>
  intro i hi
  have hil:i<ls.length:=by omega
  have hst:qR ((iH ls[i]).after (iv (gU M ls i))) (0,M)=iv (gU M ls (i+1)):=by
   rw[gU,acW,azJ,QS hil]
   rfl
  rw[List.drop_eq_getElem_cons hil,List.map_cons,ZG,hst,ih (i+1) (by omega)]
  by_cases h1:(gU M ls (i+1)).f0<=(gU M ls (i+1)).f1
  ·rw[if_neg (show ¬ (iv (gU M ls (i+1))).2<(iv (gU M ls (i+1))).1 from Int.not_lt.2 h1)]
   by_cases h2:∀ j,i+1<j->j<=ls.length->(gU M ls j).f0<=(gU M ls j).f1
   ·rw[if_pos h2,if_pos (fun j hj1 hj2=>by
     rcases Nat.eq_or_lt_of_le (Nat.succ_le_of_lt hj1)with rfl|h
     ·exact h1
     ·exact h2 j h hj2)]
    have hf:qR (iv (gU M ls i)) ((iH ls[i]).before (iv (qN M ls (i+1))))=iv (qN M ls i):=by
     rw[aDZ M ls hil,acW,azK,QS hil]
    show some (qR (iv (gU M ls i)) ((iH ls[i]).before (iv (qN M ls (i+1)))),qR ((iH ls[i]).lo,(iH ls[i]).hi) ((iH ls[i]).between (qR (iv (gU M ls i)) ((iH ls[i]).before (iv (qN M ls (i+1))))) (iv (qN M ls (i+1))))::(List.range' (i+1) d).map (fun j=>iv (AY M ls j)),iv (gU M ls ls.length))=_
    rw[hf,List.range'_succ,List.map_cons]
    have hc:qR ((iH ls[i]).lo,(iH ls[i]).hi) ((iH ls[i]).between (iv (qN M ls i)) (iv (qN M ls (i+1))))=iv (AY M ls i):=by
     rw[AY,acW,azL,QS hil]
     rfl
    rw[hc]
   ·rw[if_neg h2,if_neg (fun h=>h2 fun j hj1 hj2=>h j (by omega) hj2)]
  ·rw[if_pos (show(iv (gU M ls (i+1))).2<(iv (gU M ls (i+1))).1 from Int.not_le.1 h1),if_neg (fun h=>h1 (h (i+1) (by omega) (by omega)))]
theorem ZQ {M:Int} {ls:List dR} (h:(fE M ls).2.2=true) (hl:∀ x∈ls,uH x):anK M (0,0) (ls.map iH) (iv (qN M ls 0)) ((fE M ls).1.map iv) (iv (fE M ls).2.1):=by
 have hk:yY M ls ls.length=true:=by
  unfold fE at h
  split at h
  ·assumption
  ·cases h
 have:=ajO M ls ls.length 0 (by omega)
 rw[if_pos ((ajN M ls ls.length).1 hk),List.drop_zero,show iv (gU M ls 0)=(0,0)from rfl]at this
 have ht:=aMQ (fun l hl'=>by
  obtain⟨x,hx,rfl⟩:=List.mem_map.1 hl'
  exact(hl x hx).2.1) (show(0:Int)<=0 by omega) this
 unfold fE
 rw[if_pos hk]
 rw[<-List.range_eq_range']at ht
 show anK M (0,0) (ls.map iH) (iv (qN M ls 0)) (((List.range ls.length).map (AY M ls)).map iv) (iv (gU M ls ls.length))
 rw[List.map_map]
 exact ht
theorem azM {M:Int} {ls:List dR} (h:¬ (fE M ls).2.2=true) (hl:∀ x∈ls,uH x):∀ xs,¬ BA M 0 (ls.map iH) xs:=by
 have hk:¬ yY M ls ls.length=true:=fun hk=>by
  unfold fE at h
  rw[if_pos hk]at h
  exact h rfl
 have:=ajO M ls ls.length 0 (by omega)
 rw[if_neg (fun hh=>hk ((ajN M ls ls.length).2 hh)),List.drop_zero,show iv (gU M ls 0)=(0,0)from rfl]at this
 exact fun xs=>aMP (fun l hl'=>by
  obtain⟨x,hx,rfl⟩:=List.mem_map.1 hl'
  exact(hl x hx).2.1) (show(0:Int)<=0 by omega) this 0 xs ⟨Int.le_refl _,Int.le_refl _⟩
theorem ajP {M:Nat} {ls:List dR} (hl:∀ x∈ls,uH x):(fE M ls).2.2=true↔∃ xs,BA M 0 (ls.map iH) xs:=by
 constructor
 ·intro h
  have T:=ZQ h hl
  have h1:=T.ene
  obtain⟨n,xs,h2,h3,h4⟩:=(T.ein _).1 (show nK (iv (fE M ls).2.1) (iv (fE M ls).2.1).1 from⟨Int.le_refl _,h1⟩)
  obtain rfl:n=0:=by unfold nK at h2;simp only at h2;omega
  exact⟨xs,h3⟩
 ·rintro⟨xs,h⟩
  refine Classical.byContradiction fun hno=>?_
  exact azM hno hl xs h
def ltK (ls:List dR) (i:Nat):Lt:=iH (dP ls i)
theorem YC (ls:List dR):∀ i (h:i<(ls.map iH).length),ltK ls i=(ls.map iH)[i]:=by
 intro i h
 rw[List.getElem_map]
 unfold ltK
 rw[QS (by simpa using h)]
def acX (M:Nat) (ls:List dR):Bool:=(List.range ls.length).all fun i=>(lG M (ltK ls) ls.length i).fd
theorem YD {ls:List dR} (hl:∀ x∈ls,uH x):∀ l∈ls.map iH,l.lo<=l.hi:=by
 intro l h
 obtain⟨x,hx,rfl⟩:=List.mem_map.1 h
 exact(hl x hx).2.1
theorem azN {M:Nat} {ls:List dR} (hl:∀ x∈ls,uH x):acX M ls=(fE M ls).2.2:=by
 rw[Bool.eq_iff_iff,ajP hl]
 unfold acX
 rw[zO]
 have hlen:(ls.map iH).length=ls.length:=List.length_map _
 constructor
 ·intro h
  by_cases h0:ls.length=0
  ·have:ls=[]:=List.length_eq_zero_iff.1 h0
   subst this
   exact⟨[],trivial⟩
  ·have h1:=h 0 (by omega)
   have hf:=af5 M (ls.map iH) (YD hl) (ltK ls) (YC ls) (i:=0) (by omega)
   rw[hlen]at hf
   obtain⟨x,xs,h2,_⟩:=hf.1.1 h1
   exact⟨xs,h2⟩
 ·rintro⟨xs,h⟩ i hi
  have hf:=af5 M (ls.map iH) (YD hl) (ltK ls) (YC ls) (i:=i) (by omega)
  rw[hlen]at hf
  exact hf.1.2 ⟨_,xs,h,List.getElem?_eq_getElem (by rw[aeG h];omega)⟩
theorem aaX {n:Int}:nK (0,0) n↔n=0:=by unfold nK;simp only;omega
theorem azO {M:Nat} {ls:List dR} (hl:∀ x∈ls,uH x) (h:(fE M ls).2.2=true) (m:Nat):(rowB M (ltK ls) ls.length).getD m false=true↔(fE M ls).2.1.f0<=m/\m<=(fE M ls).2.1.f1:=by
 have hlen:(ls.map iH).length=ls.length:=List.length_map _
 have:=aiH M (ls.map iH) (YD hl) (ltK ls) (YC ls) ls.length (by omega) m
 rw[this]
 have T:=ZQ h hl
 have h2:=T.ein m
 unfold nK iv at h2
 simp only at h2
 rw[h2]
 unfold Reach
 rw[<-hlen,List.take_length]
 constructor
 ·rintro⟨xs,a,b⟩
  exact⟨0,xs,⟨Int.le_refl _,Int.le_refl _⟩,a,b⟩
 ·rintro⟨n,xs,a,b,c⟩
  obtain rfl:n=0:=by omega
  exact⟨xs,b,c⟩
theorem azP {M:Nat} {ls:List dR} (hl:∀ x∈ls,uH x) (h:(fE M ls).2.2=true) {i:Nat} (hi:i<ls.length):bM (fE M ls).1 i=⟨(lG M (ltK ls) ls.length i).lo,(lG M (ltK ls) ls.length i).hi⟩:=by
 have hlen:(ls.map iH).length=ls.length:=List.length_map _
 have T:=ZQ h hl
 have hc:=af2 h
 have hf:=af5 M (ls.map iH) (YD hl) (ltK ls) (YC ls) (i:=i) (by omega)
 rw[hlen]at hf
 obtain⟨xs,ht⟩:=(ajP hl).1 h
 have hfd:=hf.1.2 ⟨_,xs,ht,List.getElem?_eq_getElem (by rw[aeG ht];omega)⟩
 obtain⟨f1,f2,f3⟩:=hf.2 hfd
 have hi2:i<((fE M ls).1.map iv).length:=by rw[List.length_map,hc];exact hi
 have hin:=T.cin i hi2
 have hne:=T.cne _ (List.getElem_mem hi2)
 have hcan:∀ x,nK ((fE M ls).1.map iv)[i] x↔ab5 M (ls.map iH) i x:=by
  intro x
  rw[hin]
  constructor
  ·rintro⟨n,ys,a,b,c⟩
   obtain rfl:=aaX.1 a
   exact⟨ys,b,c⟩
  ·rintro⟨ys,b,c⟩
   exact⟨0,ys,aaX.2 rfl,b,c⟩
 have he:((fE M ls).1.map iv)[i]=((lG M (ltK ls) ls.length i).lo,(lG M (ltK ls) ls.length i).hi):=by
  refine aMS hne (f3 _ f2).1 fun x=>?_
  rw[hcan]
  constructor
  ·exact f3 x
  ·intro hx
   refine(hcan x).1 ?_
   have a1:=(hcan _).2 f1
   have a2:=(hcan _).2 f2
   unfold nK at a1 a2 hx ⊢
   simp only at hx
   omega
 rw[List.getElem_map]at he
 have hr:bM (fE M ls).1 i=(fE M ls).1[i]'(by rw[hc];exact hi):=by
  unfold bM
  rw[Int.toNat_natCast]
  simp[List.getD_eq_getElem?_getD,hc,hi]
 rw[hr]
 have e1:=congrArg Prod.fst he
 have e2:=congrArg Prod.snd he
 unfold iv at e1 e2
 simp only at e1 e2
 rw[<-e1,<-e2]
attribute [local go_sem] Oper.semAt_some run_store_func
structure yB (w:World) (vs:Array Value) (g c M:Nat) (bs:List Nat) (R:Nat->List Bool) (gs n:Nat) (SP:List aH) (W:World):Prop where
 r:Rows W w.heap.size g c (M+1) bs R
 x:Box W w.heap.size vs 25
 b:Below w.heap.size w W
 sp:mP W w.heap.size (.slice (some ⟨gs,0,none⟩) n n) SP
theorem yB.step {w:World} {vs:Array Value} {g c M:Nat} {bs:List Nat} {R:Nat->List Bool} {gs n:Nat} {SP:List aH} {W W':World} (h:yB w vs g c M bs R gs n SP W) (hb:Below W.heap.size W W'):yB w vs g c M bs R gs n SP W':=
 ⟨h.r.step hb,h.x.step hb,h.b.trans (hb.mono h.b.size),own_below h.sp hb⟩
theorem Rows.congr {W:World} {n₀ g c m:Nat} {bs:List Nat} {R R':Nat->List Bool} (h:Rows W n₀ g c m bs R) (hR:∀ j,j<bs.length->R' j=R j):Rows W n₀ g c m bs R':=
 ⟨h.own,fun j hj=>by rw[hR j hj];exact h.row j hj,h.far⟩
def RD (M:Nat) (lt:Nat->Lt) (n d j:Nat):List Bool:=if j<d then rowB M lt j else(lG M lt n j).F
def lM (M:Nat) (lt:Nat->Lt) (n d:Nat):List aH:=(List.range n).map fun j=>if j<d then⟨0,0⟩else⟨(lG M lt n j).lo,(lG M lt n j).hi⟩
theorem acY (M:Nat) (lt:Nat->Lt) (n d:Nat):(lM M lt n d).length=n:=by simp[lM]
theorem azQ (M:Nat) (lt:Nat->Lt) (n:Nat):List.replicate n (⟨0,0⟩:aH)=lM M lt n n:=by
 unfold lM
 apply List.ext_getElem?
 intro j
 by_cases h:j<n
 ·simp[h]
 ·simp[h]
theorem azR (M:Nat) (lt:Nat->Lt) (n d:Nat) (h:d<n):(lM M lt n (d+1)).set d ⟨(lG M lt n d).lo,(lG M lt n d).hi⟩=lM M lt n d:=by
 unfold lM
 refine ah5 _ _ _ _ _ h (by rw[if_neg (Nat.lt_irrefl d)]) fun j hj hne=>?_
 by_cases h1:j<d
 ·rw[if_pos (by omega),if_pos h1]
 ·rw[if_neg (by omega),if_neg h1]
structure SQ (N:Nat) (v0 v1:Value) (W:World):Prop where
 g0:W.cell? ⟨N,0,none⟩=some v0
 g1:W.cell? ⟨N,1,none⟩=some v1
theorem SQ.step {N:Nat} {v0 v1:Value} {W W':World} (h:SQ N v0 v1 W) (hb:Below W.heap.size W W'):SQ N v0 v1 W':=⟨jW hb h.g0,jW hb h.g1⟩
def wM (p0 p1 p2 p3 p4 p11 p12 p13 zV zW p16 p52 p56 zX zY zZ p25 p26 p27 p28 p29 p30 p31 p32 p33 p34 p35 p36 p37 p38 p39 v17 v54 v57:Value) (a:Act):Prop:=
 ∃ u:Nat->Value,a={ tmps:=#[p0,p1,p2,p3,p4,undef,undef,undef,u 8,u 9,u 10,p11,p12,p13,zV,zW,p16,v17,u 18,u 19,u 20,u 21,zX,zY,zZ,p25,p26,p27,p28,p29,p30,p31,p32,p33,p34,p35,p36,p37,p38,p39,u 40,u 41,u 42,u 43,u 44,u 45,u 46,u 47,u 48,u 49,u 50,u 51,p52,p3,v54,p13,p56,v57,u 58,u 59,u 60,u 61,u 62,u 63,u 64,u 65,u 66,u 67,u 68,u 69,u 70,u 71,u 72,u 73,u 74,u 75,u 76,u 77,u 78,u 79,u 80,u 81,u 82,u 83,u 84,u 85,u 86,u 87,u 88,u 89,u 90,u 91,u 92,u 93,u 94,u 95,u 96,u 97,u 98,u 99,u 100,u 101,u 102,u 103,u 104,u 105,u 106,u 107,u 108,u 109,u 110,u 111,u 112,u 113,u 114,u 115,u 116,u 117,u 118,u 119,u 120,u 121,undef,undef,undef,undef,undef,undef],defers:=[]}
theorem wM.elim {C:Act->Prop} {p0 p1 p2 p3 p4 p11 p12 p13 zV zW p16 p52 p56 zX zY zZ p25 p26 p27 p28 p29 p30 p31 p32 p33 p34 p35 p36 p37 p38 p39 v17 v54 v57:Value} {a:Act} (h:wM p0 p1 p2 p3 p4 p11 p12 p13 zV zW p16 p52 p56 zX zY zZ p25 p26 p27 p28 p29 p30 p31 p32 p33 p34 p35 p36 p37 p38 p39 v17 v54 v57 a) (hC:∀ u:Nat->Value,C { tmps:=#[p0,p1,p2,p3,p4,undef,undef,undef,u 8,u 9,u 10,p11,p12,p13,zV,zW,p16,v17,u 18,u 19,u 20,u 21,zX,zY,zZ,p25,p26,p27,p28,p29,p30,p31,p32,p33,p34,p35,p36,p37,p38,p39,u 40,u 41,u 42,u 43,u 44,u 45,u 46,u 47,u 48,u 49,u 50,u 51,p52,p3,v54,p13,p56,v57,u 58,u 59,u 60,u 61,u 62,u 63,u 64,u 65,u 66,u 67,u 68,u 69,u 70,u 71,u 72,u 73,u 74,u 75,u 76,u 77,u 78,u 79,u 80,u 81,u 82,u 83,u 84,u 85,u 86,u 87,u 88,u 89,u 90,u 91,u 92,u 93,u 94,u 95,u 96,u 97,u 98,u 99,u 100,u 101,u 102,u 103,u 104,u 105,u 106,u 107,u 108,u 109,u 110,u 111,u 112,u 113,u 114,u 115,u 116,u 117,u 118,u 119,u 120,u 121,undef,undef,undef,undef,undef,undef],defers:=[]}):C a:=by
 obtain⟨u,rfl⟩:=h
 exact hC u
theorem wM.mk (p0 p1 p2 p3 p4 p11 p12 p13 zV zW p16 p52 p56 zX zY zZ p25 p26 p27 p28 p29 p30 p31 p32 p33 p34 p35 p36 p37 p38 p39 v17 v54 v57 u8 u9 u10 EM u19 u20 u21 u40 u41 u42 u43 u44 u45 u46 u47 u48 u49 u50 u51 u58 u59 u60 u61 u62 u63 u64 u65 u66 u67 u68 u69 u70 u71 u72 u73 u74 u75 u76 u77 u78 u79 u80 u81 u82 u83 u84 u85 u86 u87 u88 u89 u90 u91 u92 u93 u94 u95 u96 u97 u98 u99 akM akN akO akP akQ u105 akR akS akT akU akV akW akX akY akZ ak0 ak1 ak2 ak3 u119 ak4 ak5:Value):wM p0 p1 p2 p3 p4 p11 p12 p13 zV zW p16 p52 p56 zX zY zZ p25 p26 p27 p28 p29 p30 p31 p32 p33 p34 p35 p36 p37 p38 p39 v17 v54 v57 { tmps:=#[p0,p1,p2,p3,p4,undef,undef,undef,u8,u9,u10,p11,p12,p13,zV,zW,p16,v17,EM,u19,u20,u21,zX,zY,zZ,p25,p26,p27,p28,p29,p30,p31,p32,p33,p34,p35,p36,p37,p38,p39,u40,u41,u42,u43,u44,u45,u46,u47,u48,u49,u50,u51,p52,p3,v54,p13,p56,v57,u58,u59,u60,u61,u62,u63,u64,u65,u66,u67,u68,u69,u70,u71,u72,u73,u74,u75,u76,u77,u78,u79,u80,u81,u82,u83,u84,u85,u86,u87,u88,u89,u90,u91,u92,u93,u94,u95,u96,u97,u98,u99,akM,akN,akO,akP,akQ,u105,akR,akS,akT,akU,akV,akW,akX,akY,akZ,ak0,ak1,ak2,ak3,u119,ak4,ak5,undef,undef,undef,undef,undef,undef],defers:=[]}:=
 ⟨fun k=>(#[p0,p1,p2,p3,p4,undef,undef,undef,u8,u9,u10,p11,p12,p13,zV,zW,p16,v17,EM,u19,u20,u21,zX,zY,zZ,p25,p26,p27,p28,p29,p30,p31,p32,p33,p34,p35,p36,p37,p38,p39,u40,u41,u42,u43,u44,u45,u46,u47,u48,u49,u50,u51,p52,p3,v54,p13,p56,v57,u58,u59,u60,u61,u62,u63,u64,u65,u66,u67,u68,u69,u70,u71,u72,u73,u74,u75,u76,u77,u78,u79,u80,u81,u82,u83,u84,u85,u86,u87,u88,u89,u90,u91,u92,u93,u94,u95,u96,u97,u98,u99,akM,akN,akO,akP,akQ,u105,akR,akS,akT,akU,akV,akW,akX,akY,akZ,ak0,ak1,ak2,ak3,u119,ak4,ak5,undef,undef,undef,undef,undef,undef]:Array Value).getD k undef,by kernel_rfl⟩
def yC (s:aH):Array Value:=#[.int .i64 s.f0,.int .i64 s.f1]
structure JF (W0:World) (M:Nat) (s:aH) (fl:Nat->Bool) (W:World) (v17 v54 v57:Value):Prop where
 b:Below W0.heap.size W0 W
 j2:fl 2=true->v54=.agg (yC s)
 j5:fl 5=true->∃ bn,v57=uI (M+1) bn/\W0.heap.size<=bn/\Row W bn (List.replicate (M+1) false)
 j6:fl 6=true->∃ b17,v17=.pointer (some ⟨b17,0,none⟩)/\W0.heap.size<=b17/\Box W b17 (if fl 7=true then yC s else yC ⟨0,0⟩) 42
 j7:fl 7=true->fl 6=true
theorem JF.step {W0:World} {M:Nat} {s:aH} {fl:Nat->Bool} {W W':World} {v17 v54 v57:Value} (h:JF W0 M s fl W v17 v54 v57) (hb:Below W.heap.size W W'):JF W0 M s fl W' v17 v54 v57:=
 ⟨h.b.trans (hb.mono h.b.size),h.j2,fun q=>by obtain⟨bn,a,b,c⟩:=h.j5 q;exact⟨bn,a,b,c.step hb⟩,fun q=>by obtain⟨bn,a,b,c⟩:=h.j6 q;exact⟨bn,a,b,c.step hb⟩,h.j7⟩
structure yD (bl:Nat) (l:aI) (W:World):Prop where
 z0:W.cell? ⟨bl,0,none⟩=some (.int .i64 l.f0)
 z1:W.cell? ⟨bl,1,none⟩=some (.int .i64 l.f1.f0)
 z2:W.cell? ⟨bl,2,none⟩=some (.int .i64 l.f1.f1)
 z3:W.cell? ⟨bl,3,none⟩=some (.int .i64 l.f2.f0)
 z4:W.cell? ⟨bl,4,none⟩=some (.int .i64 l.f2.f1)
 z5:W.cell? ⟨bl,5,none⟩=some (.bool l.f3)
theorem yD.of {bl:Nat} {l:aI} {W:World} (xz:Box W bl (SI l) 91):yD bl l W:=⟨xz.cell 0 rfl,xz.cell 1 rfl,xz.cell 2 rfl,xz.cell 3 rfl,xz.cell 4 rfl,xz.cell 5 rfl⟩
theorem yD.step {bl:Nat} {l:aI} {W W':World} (h:yD bl l W) (hb:Below W.heap.size W W'):yD bl l W':=⟨jW hb h.z0,jW hb h.z1,jW hb h.z2,jW hb h.z3,jW hb h.z4,jW hb h.z5⟩
theorem azS {n:Nat} (hn:n<=144):IntKind.i64.wrap ((n:Int)+1)=(n:Int)+1:=by rw[IntKind.wrap_i64];omega
theorem azT (M:Nat) (hM2:M<=144):Hid (∀ W:World,(Instr.makeSlice 128 (Value.int IntKind.i64 ((M:Int)+1)) (Value.int IntKind.i64 ((M:Int)+1))).run Tryd.prog W=.ok (.slice (some ⟨W.heap.size,0,none⟩) (M+1) (M+1)) (W.alloc (.cells (wY (List.replicate (M+1) false)) 4))):=Lib.hid (fun W=>by
  obtain⟨i4,hi4,XW⟩:=Option.map_eq_some_iff.1 info4
  simp only[Prod.mk.injEq]at XW
  obtain⟨hz0,hz1,hz2⟩:=XW
  have hmk:=run_make (P:=Tryd.prog) W 128 4 i4 _ Tryd.underlying128 hi4 hz0 .i64 .i64 ((M:Int)+1) ((M:Int)+1) (by omega) (Int.le_refl _) (by rw[hz2];omega) (by omega)
  rw[hz1,show((M:Int)+1).toNat=M+1 by omega,Nat.mul_one,show(Value.bool false).cells=#[Value.bool false]from rfl,axJ]at hmk
  exact hmk)
theorem Box.vT {W:World} {b b':Nat} {vs vs':Array Value} {t t':TypeId} (h:Box W b vs t) (h':Box W b' vs' t') (hne:t≠t'):b≠b':=by
 rintro rfl
 have h1:=h.symm.trans h'
 simp at h1
 exact hne h1.2
theorem azU (xs:List aH):∀ (j:Nat) (x:Int),j<xs.length->(pK xs).set (j*2) (.int .i64 x)=pK (xs.set j ⟨x,(bM xs j).f1⟩):=by
 induction xs with
 |nil=>intro j y h;simp at h
 |cons z xs ih=>
  intro j y h
  cases j with
  |zero=>rfl
  |succ j=>
   have:=ih j y (by simpa using h)
   rw[show(j+1)*2=j*2+1+1 by omega]
   have hr:bM (z::xs) ((j+1:Nat):Int)=bM xs j:=by
    unfold bM
    rw[Int.toNat_natCast,Int.toNat_natCast]
    rfl
   rw[hr]
   simpa[pK]using this
theorem azV (xs:List aH):∀ (j:Nat) (x:Int),j<xs.length->(pK xs).set (j*2+1) (.int .i64 x)=pK (xs.set j ⟨(bM xs j).f0,x⟩):=by
 induction xs with
 |nil=>intro j y h;simp at h
 |cons z xs ih=>
  intro j y h
  cases j with
  |zero=>rfl
  |succ j=>
   have:=ih j y (by simpa using h)
   rw[show(j+1)*2+1=j*2+1+1+1 by omega]
   have hr:bM (z::xs) ((j+1:Nat):Int)=bM xs j:=by
    unfold bM
    rw[Int.toNat_natCast,Int.toNat_natCast]
    rfl
   rw[hr]
   simpa[pK]using this
theorem ak6 (xs:List aH) (i:Nat) (h:i<xs.length) (y:aH):bM (xs.set i y) (i:Int)=y:=by
 unfold bM
 rw[Int.toNat_natCast]
 simp[List.getD_eq_getElem?_getD,h]
structure lQ (w:World) (vs:Array Value) (g c M:Nat) (bs:List Nat) (R:Nat->List Bool) (gs n:Nat) (bl b17 bn:Nat) (l:aI) (s:aH) (SP:List aH) (F:List Bool) (W:World):Prop where
 f:yB w vs g c M bs R gs n SP W
 l:Box W bl (SI l) 91
 s:Box W b17 (yC s) 42
 nx:Row W bn F
theorem lQ.step {w:World} {vs:Array Value} {g c M:Nat} {bs:List Nat} {R:Nat->List Bool} {gs n bl b17 bn:Nat} {l:aI} {s:aH} {SP:List aH} {F:List Bool} {W W':World} (h:lQ w vs g c M bs R gs n bl b17 bn l s SP F W) (hb:Below W.heap.size W W'):lQ w vs g c M bs R gs n bl b17 bn l s SP F W':=
 ⟨h.f.step hb,h.l.step hb,h.s.step hb,h.nx.step hb⟩
theorem lQ.azW {w:World} {vs:Array Value} {g c M:Nat} {bs:List Nat} {R:Nat->List Bool} {gs n bl b17 bn:Nat} {l:aI} {s:aH} {SP:List aH} {F:List Bool} {W:World} (h:lQ w vs g c M bs R gs n bl b17 bn l s SP F W)
  (h1:∀ (j:Nat) (h:j<bs.length),bs[j]≠bn) (h2:w.heap.size<=bn) (k:Nat):lQ w vs g c M bs R gs n bl b17 bn l s SP (F.set k true) (W.setCell ⟨bn,k,none⟩ (.bool true)):=
 ⟨⟨h.f.r.other h.nx (by decide) h1 k _,h.f.x.other (Box.vT h.f.x h.nx (by decide)) k _,h.f.b.setCell (p:=⟨bn,k,none⟩) h2 _,ZC h.f.sp h.nx (by decide) k _⟩,h.l.other (Box.vT h.l h.nx (by decide)) k _,h.s.other (Box.vT h.s h.nx (by decide)) k _,h.nx.put k true⟩
theorem lQ.spans {w:World} {vs:Array Value} {g c M:Nat} {bs:List Nat} {R:Nat->List Bool} {gs n bl b17 bn:Nat} {l:aI} {s:aH} {SP NZ:List aH} {F:List Bool} {W:World} (h:lQ w vs g c M bs R gs n bl b17 bn l s SP F W)
  (hn:n=SP.length) (hb:b17≠gs) (k:Nat) (u:Value) (hl:NZ.length=SP.length) (hs:(pK SP).set k u=pK NZ):lQ w vs g c M bs R gs n bl b17 bn l s NZ F (W.setCell ⟨gs,k,none⟩ u):=by
 subst hn
 obtain⟨cells,hc⟩:=OM h.f.sp gs rfl
 have hg:Box W gs cells 42:=hc
 have hlt:=(World.ownsRow.lt h.f.sp gs rfl).1
 refine⟨⟨h.f.r.other hg (by decide) (fun j hj=>Box.vT (h.f.r.row j hj) hg (by decide)) k _,h.f.x.other (Box.vT h.f.x hg (by decide)) k _,h.f.b.setCell (p:=⟨gs,k,none⟩) hlt _,?_⟩,h.l.other (Box.vT h.l hg (by decide)) k _,h.s.other hb k _,h.nx.other (Box.vT h.nx hg (by decide)) k _⟩
 have:=(World.ownsRow.stored h.f.sp k u).1
 rw[hs]at this
 unfold mP
 rw[hl]
 exact this
theorem lQ.lo {w:World} {vs:Array Value} {g c M:Nat} {bs:List Nat} {R:Nat->List Bool} {gs n bl b17 bn:Nat} {l:aI} {s:aH} {S0:List aH} {i:Nat} {t:aH} {F:List Bool} {W:World} (h:lQ w vs g c M bs R gs n bl b17 bn l s (S0.set i t) F W)
  (hn:n=S0.length) (hb:b17≠gs) (hi:i<S0.length) (x:Int):lQ w vs g c M bs R gs n bl b17 bn l s (S0.set i ⟨x,t.f1⟩) F (W.setCell ⟨gs,i*2,none⟩ (.int .i64 x)):=by
 refine h.spans (by simpa using hn) hb (i*2) _ (by simp) ?_
 rw[azU _ i x (by simpa using hi),ak6 _ _ hi,List.set_set]
theorem lQ.hi {w:World} {vs:Array Value} {g c M:Nat} {bs:List Nat} {R:Nat->List Bool} {gs n bl b17 bn:Nat} {l:aI} {s:aH} {S0:List aH} {i:Nat} {t:aH} {F:List Bool} {W:World} (h:lQ w vs g c M bs R gs n bl b17 bn l s (S0.set i t) F W)
  (hn:n=S0.length) (hb:b17≠gs) (hi:i<S0.length) (x:Int):lQ w vs g c M bs R gs n bl b17 bn l s (S0.set i ⟨t.f0,x⟩) F (W.setCell ⟨gs,i*2+1,none⟩ (.int .i64 x)):=by
 refine h.spans (by simpa using hn) hb (i*2+1) _ (by simp) ?_
 rw[azV _ i x (by simpa using hi),ak6 _ _ hi,List.set_set]
theorem azX {r:Bool} {l:aI} {n M j J:Nat} (hn:n<=M) (hM:M<=144) (h1:0<=(ltOf r l).lo) (h2:(ltOf r l).hi<=144) (hJ:((ltOf r l).hi - (ltOf r l).lo+1).toNat=J) (hj:j<J):
  acM.f (n:Int) ((ltOf r l).lo+(j:Int)) l.f3=some ((ltOf r l).qU n ((ltOf r l).lo+(j:Int))):=aFU r l n _ (by omega) (by omega)
theorem azY {n M:Nat} (hn:n<=M) (hM:M<=144):wrap64 ((n:Int)+1)=((n+1:Nat):Int):=by rw[jF (by omega) (by omega)];rfl
theorem SS {n M:Nat} (h:n<=M) (hw:wrap64 ((n:Int)+1)=((n+1:Nat):Int)):M+1 - (intOf (Value.int .i64 (wrap64 ((n:Int)+1)))).toNat<M+1 - (intOf (Value.int .i64 (n:Int))).toNat:=by
 rw[hw]
 show M+1 - (n+1)<M+1 - n
 exact Nat.sub_succ_lt_self _ _ (Nat.lt_succ_of_le h)
theorem azZ {r:Bool} {l:aI} {L:Lt} {s:aH} {J j:Nat} (h:0<=(ltOf r l).lo/\(ltOf r l).lo<=(ltOf r l).hi/\(ltOf r l).hi<=144) (hJ:(L.hi - L.lo+1).toNat=J) (h0:L.lo=s.f0) (h1:L.hi=s.f1) (hL:ltOf r l=L) (hj:j<J):wrap64 (s.f0+(j:Int)+1)=s.f0+((j+1:Nat):Int):=by
 subst hL
 rw[jF (by omega) (by omega)]
 omega
theorem az0 {x0 a s1:Int} {j:Nat} (h:x0<=s1) (hx:a+(j:Int)=x0) (hw:wrap64 (x0+1)=a+((j+1:Nat):Int)):(s1+1 - intOf (Value.int .i64 (wrap64 (x0+1)))).toNat<(s1+1 - intOf (Value.int .i64 x0)).toNat:=by
 rw[hw]
 show(s1+1 - (a+((j+1:Nat):Int))).toNat<(s1+1 - x0).toNat
 omega
theorem az1 {i n:Nat} (h:i<n) (hn:n<=8):wrap64 ((i:Int) - 1)=(i:Int) - 1:=jF (by omega) (by omega)
theorem lQ.swap {w:World} {vs:Array Value} {g c M:Nat} {bs:List Nat} {R R':Nat->List Bool} {gs n bl b17 bn:Nat} {l:aI} {s:aH} {SP NZ:List aH} {F:List Bool} {W:World} (h:lQ w vs g c M bs R gs n bl b17 bn l s SP F W) {i:Nat} (hi:i<bs.length) (hb:w.heap.size<=bn) (hR:R' i=F) (hR':∀ j,j<bs.length->j≠i->R' j=R j) (hS:NZ=SP):
  yB w vs g c M (bs.set i bn) R' gs n NZ (W.setCell ⟨g,i,none⟩ (uI (M+1) bn)):=by
 obtain⟨cells,hc⟩:=OM h.f.r.own g rfl
 have hg:Box W g cells 128:=hc
 have hlt:=(World.ownsRow.lt h.f.r.own g rfl).1
 subst hS
 exact⟨h.f.r.swap hi (by rw[hR];exact h.nx) hb hR',h.f.x.other (Box.vT h.f.x hg (by decide)) i _,h.f.b.setCell (p:=⟨g,i,none⟩) hlt _,ZC h.f.sp hg (by decide) i _⟩
theorem az2 {i:Nat} (hw:wrap64 ((i:Int) - 1)=(i:Int) - 1):(intOf (Value.int .i64 (wrap64 ((i:Int) - 1)))+1).toNat<(intOf (Value.int .i64 (i:Int))+1).toNat:=by
 rw[hw]
 show((i:Int) - 1+1).toNat<((i:Int)+1).toNat
 omega
theorem ak7 (t:Array Value) (W:World) (v0 v1 v2:Value) (h0:t.getD 8 undef=v0) (h1:t.getD 9 undef=v1) (h2:t.getD 10 undef=v2):(results Tryd.f69 t).run Tryd.prog W=.ok (.tuple #[v0,v1,v2]) W:=by
 simp only[Array.getD_eq_getD_getElem?]at h0 h1 h2
 simp[results,Tryd.results69,go_sem,h0,h1,h2]
def qY (M:Nat) (lt:Nat->Lt) (n:Nat):Bool:=(List.range n).all fun i=>(lG M lt n i).fd
theorem az3 {W:World} {b n₀ n:Nat} {L:List Bool} {ok:Nat->Prop} (h:Row W b L) (hb:n₀<=b) (hn:L.length=n) (hmx:L.length<=maxLen) (hok:∀ k,(Value.slice (some ⟨b,0,none⟩) n n).ownBlock=some k->ok k):Kd.R Kd.bool 4 W n₀ ok (.slice (some ⟨b,0,none⟩) n n) L:=by
 subst hn
 have hm:L.length<=maxLen:=hmx
 refine Kd.ag9 ?_ hok
 have hs:(wY L).size=L.length:=by simp[wY]
 refine⟨by simp[encs],.inr ⟨b,L.length,wY L,rfl,hb,h,Nat.le_refl _,hm,by rw[hs,Nat.mul_one],?_⟩⟩
 rw[Nat.mul_one,List.take_of_length_le (by rw[Array.length_toList,hs];exact Nat.le_refl _)]
 simp[wY,encs]
theorem mP.Rne {W:World} {n₀:Nat} {v:Value} {xs:List aH} (h:mP W n₀ v xs) (ok:Nat->Prop) (hok:∀ k,v.ownBlock=some k->ok k):Kd.R iD 42 W n₀ ok v xs:=by
 refine⟨hok,_,h,by rw[aDY];rfl,fun j p hj=>?_⟩
 have hl:j<xs.length:=(List.getElem?_eq_some_iff.1 hj).1
 have he:bM xs j=p:=by
  rw[bM,List.getD_eq_getElem?_getD,Int.toNat_natCast,hj]
  rfl
 obtain⟨h0,h1⟩:=au3 xs j hl
 rw[he]at h0 h1
 have:((pK xs).drop (j*2)).take 2=[Value.int .i64 p.f0,Value.int .i64 p.f1]:=by
  obtain⟨g0,e0⟩:=List.getElem?_eq_some_iff.1 h0
  obtain⟨g1,e1⟩:=List.getElem?_eq_some_iff.1 h1
  rw[List.drop_eq_getElem_cons g0,List.drop_eq_getElem_cons g1,e0,e1]
  rfl
 show iD.M W n₀ _ p (((pK xs).drop (j*2)).take 2)
 rw[this]
 exact WS _ _ _ p
theorem az5 {M:Nat} (h:M<=144):M+1<=maxLen:=by unfold maxLen;omega
def acZ (w:World) (M:Nat) (lt:Nat->Lt) (n:Nat) (e:Ending) (w':World):Prop:=
 ∃ v0 v1,e=.returned (.tuple #[v0,v1,.bool (qY M lt n)])/\Kd.R Kd.bool 4 w' w.heap.size (fun k=>some k≠v1.ownBlock) v0 (if qY M lt n=true then rowB M lt n else[])/\Kd.R iD 42 w' w.heap.size (fun k=>some k≠v0.ownBlock) v1 (if qY M lt n=true then lM M lt n 0 else[])/\Below w.heap.size w w'
theorem az6 {w w':World} {M:Nat} {lt:Nat->Lt} {n:Nat} (hno:qY M lt n=false) (hb:Below w.heap.size w w'):acZ w M lt n (.returned (.tuple #[.slice none 0 0,.slice none 0 0,.bool false])) w':=by
 refine⟨.slice none 0 0,.slice none 0 0,by rw[hno],?_,?_,hb⟩
 ·rw[hno];exact Kd.xI _ _ _ _ _
 ·rw[hno];exact Kd.xI _ _ _ _ _
theorem az7 {w w':World} {M:Nat} {lt:Nat->Lt} {n bz gs:Nat} (hok:qY M lt n=true) (k1:Row w' bz (rowB M lt n)) (k2:w.heap.size<=bz) (hM:M<=144) (sp:mP w' w.heap.size (.slice (some ⟨gs,0,none⟩) n n) (lM M lt n 0)) (hne:bz≠gs) (hb:Below w.heap.size w w'):
  acZ w M lt n (.returned (.tuple #[.slice (some ⟨bz,0,none⟩) (M+1) (M+1),.slice (some ⟨gs,0,none⟩) n n,.bool true])) w':=by
 refine⟨_,_,by rw[hok],?_,?_,hb⟩
 ·rw[hok,if_pos rfl]
  refine az3 k1 k2 (XL _ _ _) (by rw[XL];exact az5 hM) fun k hk=>?_
  obtain rfl:bz=k:=Option.some.inj hk
  exact fun e=>hne (Option.some.inj e)
 ·rw[hok,if_pos rfl]
  refine mP.Rne sp _ fun k hk=>?_
  obtain rfl:gs=k:=Option.some.inj hk
  exact fun e=>hne (Option.some.inj e).symm
theorem az8 {a b:Int} {J j:Nat} (hJ:(b - a+1).toNat=J) (hj:j<J):a+(j:Int)<=b:=by omega
theorem az9 {a b:Int} {J:Nat} (hJ:(b - a+1).toNat=J) (h:a<=b):¬ (a+(J:Int)<=b):=by omega
theorem aAA {n:Nat} (hn:n<=8):wrap64 ((n:Int) - 1)=(n:Int) - 1:=jF (by omega) (by omega)
theorem aAB (os:List aZ) (ls:List aI) (o:Nat) (li:List Int) (r:Bool) (M:Nat) (H:aoA os ls o li r M) (A0 A1 A2:Option Addr) (c0 c1 c2:Nat) (w:World)
  (hr0:Kd.C iJ w A0 os.length os) (hr1:Kd.C iE w A1 ls.length ls) (hr2:Kd.C (Kd.int .i64) w A2 li.length li):
  Calls Tryd.prog 69 #[.agg #[.slice A0 os.length c0,.slice A1 ls.length c1],.int .i64 o,.slice A2 li.length c2,.bool r] w (acZ w M (dO r ls li) li.length):=by
 refine(callsIn_wide (n:=0)).1 ?_
 refine callsIn_of_wp Tryd.func69 rfl trivial ?_
 simp only[Tryd.ntmps69,List.size_toArray,List.length_cons,List.length_nil,Nat.reduceAdd,Nat.reduceSub,Array.replicate_succ,Array.replicate_zero,List.push_toArray,List.append_toArray,List.nil_append,List.cons_append]
 obtain⟨Wa,hWa⟩:∃ Wa,w.alloc (.cells #[.slice A0 os.length c0,.slice A1 ls.length c1] 25)=Wa:=⟨_,rfl⟩
 have hba:Below w.heap.size w Wa:=by rw[<-hWa];exact(Below.refl _ _).alloc (Nat.le_refl _) _
 have hB0:Box Wa w.heap.size #[.slice A0 os.length c0,.slice A1 ls.length c1] 25:=by rw[<-hWa];exact Box.new _ _ _
 have kW:SQ w.heap.size (.slice A0 os.length c0) (.slice A1 ls.length c1) Wa.drew:=⟨hB0.drew.cell 0 rfl,hB0.drew.cell 1 rfl⟩
 have hbd:Below w.heap.size w Wa.drew:=hba.trans (((Below.refl _ _).drew).mono hba.size)
 gi_wp2
 refine aeB 9 (.quiet 0 (.quiet 1 (.quiet 2 (.quiet 3 (.quiet 5 (.quiet 6 (.two 4 7 (.quiet 8 (.ev 7 .done)) (.ev 4 (.quiet 8 .done))))))))) (SQ w.heap.size (.slice A0 os.length c0) (.slice A1 ls.length c1)) (rZ.of (by kernel_rfl)) rfl (by kernel_rfl) kW ?_
 iterate 6 (apply UA rfl (fun _=>rfl) (by assumption);focus(intro K hK w' hw';obtain⟨g0,g1⟩:=hw';go_simp;exact hK))
 have ac0:Hid (∀ W:World,(Instr.makeSlice 31 (Value.int IntKind.i64 (li.length:Int)) (Value.int IntKind.i64 (li.length:Int))).run Tryd.prog W=.ok (.slice (some ⟨W.heap.size,0,none⟩) li.length li.length) (W.alloc (.cells (madeCells #[Value.int IntKind.i64 0,Value.int IntKind.i64 0] (li.length*2)) 42))):=Lib.hid (fun W=>by
  obtain⟨i42,abR,XD⟩:=Option.map_eq_some_iff.1 ad5
  simp only[Prod.mk.injEq]at XD
  obtain⟨hz0,hz1,hz2⟩:=XD
  have hl8:=H.len
  have hmk:=run_make (P:=Tryd.prog) W 31 42 i42 _ Tryd.underlying31 abR hz0 .i64 .i64 (li.length:Int) (li.length:Int) (by omega) (Int.le_refl _) (by rw[hz2];omega) (by omega)
  rw[hz1,Int.toNat_natCast]at hmk
  exact hmk)
 have hown:Hid (∀ W:World,w.heap.size<=W.heap.size->mP (W.alloc (.cells (madeCells #[Value.int IntKind.i64 0,Value.int IntKind.i64 0] (li.length*2)) 42)) w.heap.size (.slice (some ⟨W.heap.size,0,none⟩) li.length li.length) (List.replicate li.length ⟨0,0⟩)):=Lib.hid (fun W hW=>by
  have hl8:=H.len
  have:=World.ownsRow_lit (base:=w.heap.size) (e:=42) (size:=2) W (madeCells #[Value.int IntKind.i64 0,Value.int IntKind.i64 0] (li.length*2)) li.length hW (by unfold maxLen;omega) (by rw[size_madeCells])
  rw[aD1 _ hl8]at this
  unfold mP
  rw[List.length_replicate]
  exact this)
 have hbef:=Lib.hid (fun W (hb:Below w.heap.size w W)=>aN5 os ls o li r M H A0 A1 A2 c0 c1 c2 W (Kd.bJ hr0 hb) (Kd.bJ hr1 hb) (Kd.bJ hr2 hb))
 have IC:=hB0.drew
 obtain⟨D,hD⟩:∃ D,D=Wa.drew:=⟨_,rfl⟩
 rw[<-hD]at kW hbd IC ⊢
 clear hD hWa hba hB0
 refine ah2 rfl rfl ?ea ?eb
 case' ea=>
  gi_wp2_with fail
  refine⟨trivial,rfl,?_⟩
  refine(callsIn_wide.2 (hbef.out D hbd)).mono ?_
  rintro e w1 ⟨g,c,bs,hbl,rfl,hR,hb1⟩
  have hB1:=hbd.trans (hb1.mono hbd.size)
  have hX1:=IC.step hb1
  have uQ:=kW.step hb1
  have hR1:Rows w1 w.heap.size g c (M+1) bs (rowB M (dO r ls li)):=⟨ah3 hR.own hbd.size,hR.row,fun j h=>Nat.le_trans hbd.size (hR.far j h)⟩
  clear hb1 IC kW hbd hR
  gi_wp2
  refine⟨uQ,?_⟩
  (apply UA rfl (fun _=>rfl) (by assumption);focus(intro K hK w' hw';obtain⟨g0,g1⟩:=hw';go_simp;exact hK))
  refine DN rfl ?_
  have hm1:=ac0.out w1
  have ho1:=hown.out w1 hB1.size
  obtain⟨W2,hW2⟩:∃ W2,w1.alloc (.cells (madeCells #[Value.int IntKind.i64 0,Value.int IntKind.i64 0] (li.length*2)) 42)=W2:=⟨_,rfl⟩
  rw[hW2]at hm1 ho1
  have hb2:Below w1.heap.size w1 W2:=by rw[<-hW2];exact(Below.refl _ _).alloc (Nat.le_refl _) _
  have hB2:=hB1.trans (hb2.mono hB1.size)
  have hX2:=hX1.step hb2
  have hC2:=uQ.step hb2
  have hR2:=hR1.step hb2
  obtain⟨gs,hgs⟩:∃ b,w1.heap.size=b:=⟨_,rfl⟩
  rw[hgs]at hm1 ho1
  clear hW2 hb2 hgs hB1 hX1 uQ hR1
  gi_wp2
  refine⟨hC2,?_⟩
 case' eb=>
  have hm1:=ac0.out D
  have ho1:=hown.out D hbd.size
  obtain⟨W1,hW1⟩:∃ W1,D.alloc (.cells (madeCells #[Value.int IntKind.i64 0,Value.int IntKind.i64 0] (li.length*2)) 42)=W1:=⟨_,rfl⟩
  rw[hW1]at hm1 ho1
  have hb1:Below D.heap.size D W1:=by rw[<-hW1];exact(Below.refl _ _).alloc (Nat.le_refl _) _
  have hB1:=hbd.trans (hb1.mono hbd.size)
  have hX1:=IC.step hb1
  have uQ:=kW.step hb1
  obtain⟨gs,hgs⟩:∃ b,D.heap.size=b:=⟨_,rfl⟩
  rw[hgs]at hm1 ho1
  clear hW1 hb1 hgs hbd IC kW
  gi_wp2
  refine⟨uQ,?_⟩
  refine DN rfl ?_
  clear hm1
  gi_wp2_with fail
  refine⟨trivial,rfl,?_⟩
  refine(callsIn_wide.2 (hbef.out W1 hB1)).mono ?_
  rintro e W2 ⟨g,c,bs,hbl,rfl,hR,hb1⟩
  have hB2:=hB1.trans (hb1.mono hB1.size)
  have hX2:=hX1.step hb1
  have hC2:=uQ.step hb1
  have ho1:=own_below ho1 hb1
  have hR2:Rows W2 w.heap.size g c (M+1) bs (rowB M (dO r ls li)):=⟨ah3 hR.own hB1.size,hR.row,fun j h=>Nat.le_trans hB1.size (hR.far j h)⟩
  clear hb1 hX1 uQ hR hB1
  gi_wp2
  refine⟨hC2,?_⟩
  (apply UA rfl (fun _=>rfl) (by assumption);focus(intro K hK w' hw';obtain⟨g0,g1⟩:=hw';go_simp;exact hK))
 all_goals
  show wpListIn _ _ _ _ _ _ _ _
  simp only[List.drop_succ_cons,List.drop_zero]
  clear ac0 hown hbef
  have x0:=hX2.cell 0 rfl
  have x1:=hX2.cell 1 rfl
  have ho:=H.ho
  obtain⟨ad,hA,q1,q2⟩:=QW (Kd.bJ hr0 hB2) (o:Int) (by omega) (by omega)
  subst hA
  rw[Int.toNat_natCast]at q1 q2
  have ho2:(o:Int)<(os.length:Int):=by omega
  gi_wp2
  rw[yZ]
  gi_wp2_with fail
  have hor:yL.f (dK os (o:Int)).f0 (dK os (o:Int)).f1 r=some (M:Int):=by
   rw[<-H.hM]
   unfold yL.f fZ
   cases r<;>rfl
  refine⟨trivial,rfl,?_⟩
  refine(callsIn_wide.2 (yL.calls _ _ r (M:Int) _ hor)).mono ?_
  rintro e w3 ⟨rfl,hb3⟩
  have hF3:yB w #[.slice (some ad) os.length c0,.slice A1 ls.length c1] g c M bs (RD M (dO r ls li) li.length li.length) gs li.length (lM M (dO r ls li) li.length li.length) w3:=by
   refine yB.step ⟨hR2.congr fun j hj=>?_,hX2,hB2,?_⟩ hb3
   ·unfold RD
    split
    ·rfl
    ·rename_i hq
     obtain rfl:j=li.length:=by omega
     rw[aiI]
   ·rw[<-azQ]
    exact ho1
  clear hb3 hR2 hX2 hB2 ho1 x0 x1 q1 q2 hC2 ho2 hor
  have hw0:=Lib.hid (aAA H.len)
  gi_wp2
  rw[hw0.out]
  clear hw0
  have xB:=Lib.hid H
  clear H
  gi_loopw [14] (fun iv wr=>∃ (d:Nat) (bs:List Nat),d<=li.length/\iv=.int .i64 ((d:Int) - 1)/\bs.length=li.length+1/\Hid (∀ j,d<=j->j<li.length->(lG M (dO r ls li) li.length j).fd=true)/\yB w #[.slice (some ad) os.length c0,.slice A1 ls.length c1] g c M bs (RD M (dO r ls li) li.length d) gs li.length (lM M (dO r ls li) li.length d) wr) (fun iv _=>(intOf iv+1).toNat)
  case atStart=>exact⟨li.length,bs,Nat.le_refl _,rfl,hbl,Lib.hid (fun j h1 h2=>absurd h2 (Nat.not_lt.2 h1)),hF3⟩
  case round=>
   clear hF3 hbl ho
   obtain⟨d,bs,hd,rfl,hbl,hfd,hF⟩:=hrel
   by_cases hd0:0<d
   ·obtain⟨i,rfl⟩:∃ i,d=i+1:=⟨d - 1,(Nat.succ_pred_eq_of_pos hd0).symm⟩
    have hi:i<li.length:=hd
    rw[show((i+1:Nat):Int) - 1=(i:Int)from Int.add_sub_cancel (i:Int) 1]
    clear hd hd0
    have hge:(i:Int)≥0:=Int.natCast_nonneg i
    have hil:(i:Int)<(li.length:Int):=Int.ofNat_lt.2 hi
    obtain⟨hx,hl1,hl2,hl3⟩:=xB.out.lot i hi
    obtain⟨rO,hA2,e1⟩:=Kd.BL (Kd.bJ hr2 hF.b) (i:Int) hge hil
    subst hA2
    obtain⟨x,hxe⟩:∃ x,rd li (i:Int)=x:=⟨_,rfl⟩
    obtain⟨lH,hA1,e2,e3,e4,e5,e6,e7⟩:=OO (Kd.bJ hr1 hF.b) x (by rw[<-hxe];exact hx.1) (by rw[<-hxe];exact hx.2)
    subst hA1
    rw[Int.toNat_natCast,hxe]at e1
    obtain⟨l,hle⟩:∃ l,aU ls x=l:=⟨_,rfl⟩
    have hlt2:dO r ls li i=ltOf r l:=by unfold dO;rw[hxe,hle]
    rw[hlt2]at hl1 hl2 hl3
    rw[hxe]at hx
    rw[hle]at e2 e3 e4 e5 e6 e7
    have Hlt:=Lib.hid hlt2
    clear hlt2 hle hxe
    have hC:VU w.heap.size lH rO ls.length c1 i x l wr:=⟨hF.x.cell 1 rfl,e1,e2,e3,e4,e5,e6,e7⟩
    have kW:VU w.heap.size lH rO ls.length c1 i x l wr.drew:=hC.step ((Below.refl _ _).drew)
    clear e1 e2 e3 e4 e5 e6 e7
    obtain⟨hx0,hx1⟩:=hx
    have hst:wr.heap.size<=wr.heap.size:=Nat.le_refl _
    gi_wp2
    refine aeB 10 (.quiet 0 (.quiet 1 (.quiet 2 (.quiet 3 (.quiet 4 (.quiet 5 (.quiet 6 (.quiet 7 (.ev 8 (.ev 9 .done)))))))))) (VU w.heap.size lH rO ls.length c1 i x l) (rZ.of (by kernel_rfl)) rfl (by kernel_rfl) kW ?_
    iterate 8 (apply UA rfl (fun _=>rfl) (by assumption);focus(intro K hK w' hw';obtain⟨g0,g1,g2,g3,g4,g5,g6,g7⟩:=hw';go_simp;exact hK))
    have CB:Below wr.heap.size wr wr.drew:=(Below.refl _ _).drew
    obtain⟨D,hD⟩:∃ D,D=wr.drew:=⟨_,rfl⟩
    rw[<-hD]at kW CB ⊢
    clear hD
    refine DN rfl ?_
    gi_wp2
    obtain⟨Wl,YE⟩:∃ Wn,D.alloc (.cells UN 91)=Wn:=⟨_,rfl⟩
    have rP:=YE
    unfold UN at rP
    rw[rP]
    have hbn:Below D.heap.size D Wl:=by rw[<-YE];exact(Below.refl _ _).alloc (Nat.le_refl _) _
    have xl:Box Wl D.heap.size UN 91:=by rw[<-YE];exact Box.new _ _ _
    obtain⟨bl,hbe⟩:∃ b,D.heap.size=b:=⟨_,rfl⟩
    have sl:wr.heap.size<=bl:=by rw[<-hbe];exact CB.size
    have hCl:=kW.step hbn
    have hBl:=CB.trans (hbn.mono CB.size)
    rw[hbe]at xl ⊢
    clear YE rP hbn hbe CB kW
    refine⟨hCl,?_⟩
    refine DN rfl ?_
    have f0:=xl.frozen 0
    have f1:=xl.frozen 1
    have f2:=xl.frozen 2
    have f3:=xl.frozen 3
    have f4:=xl.frozen 4
    have f5:=xl.frozen 5
    have d0:Wl.cell? ⟨bl,0,none⟩=some (.int .i64 0):=xl.cell 0 rfl
    have d1:Wl.cell? ⟨bl,1,none⟩=some (.int .i64 0):=xl.cell 1 rfl
    have d2:Wl.cell? ⟨bl,2,none⟩=some (.int .i64 0):=xl.cell 2 rfl
    have d3:Wl.cell? ⟨bl,3,none⟩=some (.int .i64 0):=xl.cell 3 rfl
    have d4:Wl.cell? ⟨bl,4,none⟩=some (.int .i64 0):=xl.cell 4 rfl
    have d5:Wl.cell? ⟨bl,5,none⟩=some (.bool false):=xl.cell 5 rfl
    gi_wp2
    obtain⟨Wz,ND⟩:∃ Wn,VV Wl bl l=Wn:=⟨_,rfl⟩
    have rP:=ND
    unfold VV at rP
    rw[rP]
    have xz:Box Wz bl (SI l) 91:=by rw[<-ND];exact arY xl l
    have IB:Below wr.heap.size wr Wz:=by rw[<-ND];exact arZ hBl sl l
    have hCz:=hC.step IB
    clear ND rP f0 f1 f2 f3 f4 f5 d0 d1 d2 d3 d4 d5 xl hBl hCl
    refine⟨hCz,?_⟩
    show wpListIn _ _ _ _ _ _ _ _
    simp only[List.drop_succ_cons,List.drop_zero]
    gi_wp2
    rw[yZ]
    have SV:=hF.step IB
    gi_wp2
    have alA:yD bl l Wz.drew:=yD.of xz.drew
    have alB:Below Wz.heap.size Wz Wz.drew:=(Below.refl _ _).drew
    obtain⟨s,hse⟩:∃ s,fJ r l=s:=⟨_,rfl⟩
    have hsd:XT.f l.f0 l.f1.f0 l.f1.f1 l.f2.f0 l.f2.f1 l.f3 r=some (s.f0,s.f1):=by
     rw[<-hse]
     unfold XT.f fJ
     cases r<;>rfl
    have Hsd:=Lib.hid hsd
    have hwM:=Lib.hid (azS xB.out.hM2)
    have Hse:=Lib.hid hse
    clear hse hsd
    have aAF:=azT M xB.out.hM2
    refine aN8 8 [0,1,3,4] [2,5,6,7] (fun i=>if i=7 then[2,6]else[]) (yD bl l)
     (fun fl a W=>∃ v17 v54 v57,wM (.agg #[.slice (some ad) os.length c0,.slice (some lH) ls.length c1]) (.int .i64 o) (.slice (some rO) li.length c2) (.bool r) (.pointer (some ⟨w.heap.size,0,none⟩)) (.slice (some ⟨g,0,none⟩) (li.length+1) c) (.slice (some ⟨gs,0,none⟩) li.length li.length) (.int .i64 M) (.int .i64 i) (.pointer (some ⟨bl,0,none⟩)) (.bool false) (.agg (SI l)) (.int .i64 ((M:Int)+1)) (.agg #[.slice (some ad) os.length c0,.slice (some lH) ls.length c1]) (.int .i64 o) (.slice (some rO) li.length c2) (.bool r) (.slice (some ⟨g,0,none⟩) (li.length+1) c) (.slice (some rO) li.length c2) (.int .i64 li.length) (.slice (some ⟨gs,0,none⟩) li.length li.length) (.pointer (some ⟨w.heap.size,0,none⟩)) (.slice (some ad) os.length c0) (.int .i64 o) (.pointer (some (ad.add (o*2)))) (.agg #[.int .i64 (dK os (o:Int)).f0,.int .i64 (dK os (o:Int)).f1]) (.bool r) (.int .i64 M) (.slice (some rO) li.length c2) (.int .i64 li.length) (.int .i64 ((li.length:Int) - 1)) v17 v54 v57 a/\JF Wz M s fl W v17 v54 v57)
     (rZ.of (by kernel_rfl)) rfl (by kernel_rfl) alA ?read ?step ?fin
    case read=>
     iterate 3 (apply ar5 rfl (fun _=>rfl) (by assumption);focus(intro K hK w' hw';obtain⟨z0,z1,z2,z3,z4,z5⟩:=hw';go_simp;exact hK))
     apply ar5 rfl (fun _=>rfl) (by assumption)
     ·intro K hK w' hw'
      obtain⟨z0,z1,z2,z3,z4,z5⟩:=hw'
      go_simp
      rw[hwM.out]
      exact hK
     intro fl hfl
     have g2:=hfl 2 (by simp)
     have g5:=hfl 5 (by simp)
     have g6:=hfl 6 (by simp)
     have g7:=hfl 7 (by simp)
     exact⟨_,_,_,wM.mk ..,alB,fun h=>absurd (g2.symm.trans h) Bool.false_ne_true,fun h=>absurd (g5.symm.trans h) Bool.false_ne_true,fun h=>absurd (g6.symm.trans h) Bool.false_ne_true,fun h=>absurd (g7.symm.trans h) Bool.false_ne_true⟩
    case step=>
     intro i7 hi7 fl a W hfi ac1 SX hI
     obtain⟨v17,v54,v57,hFr,hJ⟩:=hI
     obtain⟨u,rfl⟩:=hFr
     simp only[List.mem_cons,List.not_mem_nil,or_false]at hi7
     rcases hi7 with rfl|rfl|rfl|rfl
     ·refine⟨_,rfl,?_⟩
      gi_wp2_with fail
      refine⟨trivial,rfl,?_⟩
      refine(callsIn_wide.2 (XT.calls _ _ _ _ _ _ r _ _ _ Hsd.out)).mono ?_
      rintro e W' ⟨rfl,hb⟩
      have hJ':=hJ.step hb
      gi_wp2
      exact⟨SX.step hb,v17,_,v57,wM.mk ..,⟨hJ'.b,fun _=>rfl,hJ'.j5,hJ'.j6,hJ'.j7⟩⟩
     ·refine⟨_,rfl,?_⟩
      have hm0:=aAF.out W
      obtain⟨Wn,lL⟩:∃ Wn,W.alloc (.cells (wY (List.replicate (M+1) false)) 4)=Wn:=⟨_,rfl⟩
      rw[lL]at hm0
      have hb:Below W.heap.size W Wn:=by rw[<-lL];exact(Below.refl _ _).alloc (Nat.le_refl _) _
      have rm:Row Wn W.heap.size (List.replicate (M+1) false):=by rw[<-lL];exact Box.new _ _ _
      have hJ':=hJ.step hb
      have sn:=hJ.b.size
      obtain⟨bn,hbe⟩:∃ b,W.heap.size=b:=⟨_,rfl⟩
      rw[hbe]at rm sn hm0
      have aAG:=SX.step hb
      clear hb lL hbe hJ
      gi_wp2
      exact⟨aAG,v17,v54,_,wM.mk ..,⟨hJ'.b,hJ'.j2,fun _=>⟨bn,rfl,sn,rm⟩,hJ'.j6,hJ'.j7⟩⟩
     ·refine⟨_,rfl,?_⟩
      gi_wp2
      obtain⟨Wn,lL⟩:∃ Wn,W.alloc (.cells #[.int .i64 0,.int .i64 0] 42)=Wn:=⟨_,rfl⟩
      rw[lL]
      have hb:Below W.heap.size W Wn:=by rw[<-lL];exact(Below.refl _ _).alloc (Nat.le_refl _) _
      have rm:Box Wn W.heap.size (yC ⟨0,0⟩) 42:=by rw[<-lL];exact Box.new _ _ _
      have hJ':=hJ.step hb
      have sn:=hJ.b.size
      have h7:¬ fl 7=true:=fun h=>Bool.false_ne_true (hfi.symm.trans (hJ.j7 h))
      have hbx:Box Wn W.heap.size (if fl 7=true then yC s else yC ⟨0,0⟩) 42:=by rw[if_neg h7];exact rm
      exact⟨SX.step hb,_,v54,v57,wM.mk ..,⟨hJ'.b,hJ'.j2,hJ'.j5,fun _=>⟨_,rfl,sn,hbx⟩,fun _=>rfl⟩⟩
     ·refine⟨_,rfl,?_⟩
      obtain rfl:=hJ.j2 (ac1 2 (by simp))
      obtain⟨b17,rfl,EN,hx⟩:=hJ.j6 (ac1 6 (by simp))
      rw[if_neg (fun h=>Bool.false_ne_true (hfi.symm.trans h))]at hx
      have f0:=hx.frozen 0
      have f1:=hx.frozen 1
      have d0:W.cell? ⟨b17,0,none⟩=some (.int .i64 0):=hx.cell 0 rfl
      have d1:W.cell? ⟨b17,1,none⟩=some (.int .i64 0):=hx.cell 1 rfl
      unfold yC
      gi_wp2
      have hB':Below Wz.heap.size Wz ((W.setCell ⟨b17,0,none⟩ (.int .i64 s.f0)).setCell ⟨b17,1,none⟩ (.int .i64 s.f1)):=(hJ.b.setCell (p:=⟨b17,0,none⟩) EN _).setCell (p:=⟨b17,1,none⟩) EN _
      have hx':Box ((W.setCell ⟨b17,0,none⟩ (.int .i64 s.f0)).setCell ⟨b17,1,none⟩ (.int .i64 s.f1)) b17 (yC s) 42:=(hx.set 0 (.int .i64 s.f0)).set 1 (.int .i64 s.f1)
      exact⟨yD.of (xz.step hB'),_,_,v57,wM.mk ..,⟨hB',fun _=>rfl,fun q=>by
       obtain⟨bn,a,b,c⟩:=hJ.j5 q
       have hne:=Box.vT c hx (by decide)
       exact⟨bn,a,b,(c.other hne 0 _).other hne 1 _⟩,fun _=>⟨_,rfl,EN,hx'⟩,fun _=>ac1 6 (by simp)⟩⟩
    case fin=>
     intro fl a W hall SX hI
     obtain⟨v17,v54,v57,hFr,hJ⟩:=hI
     obtain⟨u,rfl⟩:=hFr
     obtain rfl:=hJ.j2 (hall 2 (by simp))
     obtain⟨bn,rfl,sbn,hrow⟩:=hJ.j5 (hall 5 (by simp))
     obtain⟨b17,rfl,alD,hx⟩:=hJ.j6 (hall 6 (by simp))
     rw[if_pos (hall 7 (by simp))]at hx
     have hBW:=hJ.b
     clear hJ hall
     unfold uI
     show wpListIn _ _ _ _ _ _ _ _
     simp only[List.drop_succ_cons,List.drop_zero]
     gi_wp2
     rw[yZ]
     have hFW:=SV.step hBW
     have hLW:lQ w #[.slice (some ad) os.length c0,.slice (some lH) ls.length c1] g c M bs (RD M (dO r ls li) li.length (i+1)) gs li.length bl b17 bn l s (lM M (dO r ls li) li.length (i+1)) (List.replicate (M+1) false) W:=⟨hFW,xz.step hBW,hx,hrow⟩
     have hnb:Hid (∀ (j:Nat) (h:j<bs.length),bs[j]≠bn):=Lib.hid (fun j h=>Nat.ne_of_lt (Nat.lt_of_lt_of_le (SV.r.row j h).lt sbn))
     have hwb:Hid (w.heap.size<=bn):=Lib.hid (Nat.le_trans SV.b.size sbn)
     have EN:Hid (b17≠gs):=Lib.hid (fun e=>by
      have h1:=(World.ownsRow.lt SV.sp gs rfl).2
      rw[<-e]at h1
      exact Nat.lt_irrefl _ (Nat.lt_of_lt_of_le h1 alD))
     obtain⟨L,EI⟩:∃ L,ltOf r l=L:=⟨_,rfl⟩
     have hL0:L.lo=s.f0/\L.hi=s.f1:=by rw[<-EI,<-Hse.out];exact⟨rfl,rfl⟩
     obtain⟨J,hJ⟩:∃ J,(L.hi - L.lo+1).toNat=J:=⟨_,rfl⟩
     have HJ:=Lib.hid hJ
     have HL:=Lib.hid EI
     have H12:=Lib.hid (And.intro hl1 (And.intro hl2 hl3))
     have AA:=Lib.hid hL0
     have hr0:Hid (RD M (dO r ls li) li.length (i+1) i=rowB M (dO r ls li) i):=Lib.hid (if_pos (Nat.lt_succ_self i))
     have hr1:Hid (RD M (dO r ls li) li.length (i+1) (i+1)=(lG M (dO r ls li) li.length (i+1)).F):=Lib.hid (if_neg (Nat.lt_irrefl _))
     obtain⟨R0,hR0⟩:∃ x,rowB M (dO r ls li) i=x:=⟨_,rfl⟩
     obtain⟨R1,hR1⟩:∃ x,(lG M (dO r ls li) li.length (i+1)).F=x:=⟨_,rfl⟩
     have aAH:R0.length=M+1:=by rw[<-hR0];exact XL _ _ _
     have aAI:R1.length=M+1:=by rw[<-hR1];exact aMX _ _ hi
     have hfi:Hid (lG M (dO r ls li) li.length i=pO M L R0 R1 J):=Lib.hid (by rw[arG M _ hi,Hlt.out,hR0,hR1,EI,hJ])
     have hS0:(lM M (dO r ls li) li.length (i+1)).length=li.length:=acY _ _ _ _
     have hSi:(lM M (dO r ls li) li.length (i+1))=(lM M (dO r ls li) li.length (i+1)).set i ⟨0,0⟩:=by
      symm
      unfold lM
      refine ah5 _ _ _ _ _ hi (by rw[if_pos (Nat.lt_succ_self i)]) fun j _ _=>rfl
     have hI0:lQ w #[.slice (some ad) os.length c0,.slice (some lH) ls.length c1] g c M bs (RD M (dO r ls li) li.length (i+1)) gs li.length bl b17 bn l s ((lM M (dO r ls li) li.length (i+1)).set i ⟨(pO M L R0 R1 0).lo,(pO M L R0 R1 0).hi⟩) (pO M L R0 R1 0).F W:=by
      show lQ _ _ _ _ _ _ _ _ _ _ _ _ _ _ ((lM M (dO r ls li) li.length (i+1)).set i ⟨0,0⟩) _ _
      rw[<-hSi]
      exact hLW
     obtain⟨S0,ac4⟩:∃ x,lM M (dO r ls li) li.length (i+1)=x:=⟨_,rfl⟩
     obtain⟨RR,ac5⟩:∃ x,RD M (dO r ls li) li.length (i+1)=x:=⟨_,rfl⟩
     rw[ac4]at hI0 hS0
     rw[ac5]at hI0 hr0 hr1
     rw[hR0]at hr0
     rw[hR1]at hr1
     have aAJ:=Lib.hid ac4
     have aAK:=Lib.hid ac5
     have y0:W.cell? ⟨b17,0,none⟩=some (.int .i64 s.f0):=hI0.s.cell 0 rfl
     clear hLW hFW hBW hx hrow ac4 ac5 hSi hR0 hR1 EI hJ hL0 hl1 hl2 hl3 alD sbn SV xz hCz hC hF alA alB IB sl SX
     gi_wp2
     gi_loopw [16,19] (fun fv xv wr=>∃ j:Nat,j<=J/\fv=.bool (pO M L R0 R1 j).fd/\xv=.int .i64 (s.f0+j)/\lQ w #[.slice (some ad) os.length c0,.slice (some lH) ls.length c1] g c M bs RR gs li.length bl b17 bn l s (S0.set i ⟨(pO M L R0 R1 j).lo,(pO M L R0 R1 j).hi⟩) (pO M L R0 R1 j).F wr) (fun _ xv _=>(s.f1+1 - intOf xv).toNat)
     case atStart=>exact⟨0,Nat.zero_le _,rfl,by simp,hI0⟩
     case round=>
      clear hI0 y0
      obtain⟨j,hj,rfl,rfl,hK⟩:=hrel
      have y1:wr.cell? ⟨b17,1,none⟩=some (.int .i64 s.f1):=hK.s.cell 1 rfl
      by_cases QN:j<J
      ·have hd3:s.f0+(j:Int)<=s.f1:=by
        have:=az8 HJ.out QN
        rw[AA.out.1,AA.out.2]at this
        exact this
       obtain⟨st,hst⟩:∃ st,pO M L R0 R1 j=st:=⟨_,rfl⟩
       rw[hst]at hK ⊢
       have VK:Hid (pO M L R0 R1 (j+1)=nZ M L R0 R1 (s.f0+j) st (M+1)):=Lib.hid (by rw[pO,hst,AA.out.1])
       have hFl:st.F.length=M+1:=by rw[<-hst];exact awW _ _ _ _ _
       clear hst
       obtain⟨x0,ac6⟩:∃ x,s.f0+(j:Int)=x:=⟨_,rfl⟩
       rw[ac6]at hd3 VK ⊢
       have Hx0:=Lib.hid ac6
       clear ac6
       gi_wp2
       gi_loopw [16,20] (fun fv nv wr=>∃ n:Nat,n<=M+1/\fv=.bool (nZ M L R0 R1 x0 st n).fd/\nv=.int .i64 n/\lQ w #[.slice (some ad) os.length c0,.slice (some lH) ls.length c1] g c M bs RR gs li.length bl b17 bn l s (S0.set i ⟨(nZ M L R0 R1 x0 st n).lo,(nZ M L R0 R1 x0 st n).hi⟩) (nZ M L R0 R1 x0 st n).F wr) (fun _ nv _=>M+1 - (intOf nv).toNat)
       case atStart=>exact⟨0,Nat.zero_le _,rfl,rfl,hK⟩
       case round=>
        clear hK y1
        obtain⟨n,hn,rfl,rfl,hG⟩:=hrel
        by_cases hnm:n<=M
        ·have hd4:(n:Int)<=(M:Int):=Int.ofNat_le.2 hnm
         have z5:wr.cell? ⟨bl,5,none⟩=some (.bool l.f3):=hG.l.cell 5 rfl
         have hh:=H12.out
         rw[HL.out]at hh
         have FH:=azX (r:=r) (l:=l) hnm xB.out.hM2 (by rw[HL.out];exact hh.1) (by rw[HL.out];exact hh.2.2) (by rw[HL.out];exact HJ.out) QN
         clear hh
         rw[HL.out,AA.out.1,Hx0.out]at FH
         obtain⟨mm,hmm⟩:∃ mm,L.qU (n:Int) x0=mm:=⟨_,rfl⟩
         rw[hmm]at FH
         have hstep:Hid (nZ M L R0 R1 x0 st (n+1)=if(R0.getD n false&&decide (0<=mm/\mm<=(M:Int))&&R1.getD mm.toNat false)=true then⟨(nZ M L R0 R1 x0 st n).F.set n true,true,if(nZ M L R0 R1 x0 st n).fd=true then(nZ M L R0 R1 x0 st n).lo else x0,x0⟩else nZ M L R0 R1 x0 st n):=Lib.hid (by rw[nZ,zQ,hmm])
         have hFn:(nZ M L R0 R1 x0 st n).F.length=M+1:=by rw[awV];exact hFl
         clear hmm
         obtain⟨sn,hsn⟩:∃ x,nZ M L R0 R1 x0 st n=x:=⟨_,rfl⟩
         rw[hsn]at hG hstep hFn ⊢
         clear hsn
         gi_wp2_with fail
         refine⟨trivial,rfl,?_⟩
         refine(callsIn_wide.2 (acM.calls _ _ _ _ _ FH)).mono ?_
         rintro e wu ⟨rfl,hdu⟩
         have EO:=hG.step hdu.below
         clear hG hdu z5
         have hbi:i<bs.length:=by rw[hbl];exact Nat.lt_succ_of_lt hi
         have alH:i+1<bs.length:=by rw[hbl];exact Nat.succ_lt_succ hi
         have k0:=EO.f.r.cell i hbi
         have k1:=(EO.f.r.row i hbi).cell n (by rw[hr0.out,aAH];exact Nat.lt_succ_of_le hnm)
         rw[hr0.out]at k1
         have k2:=EO.f.r.cell (i+1) alH
         have YF:=EO.f.r.row (i+1) alH
         obtain⟨bi,alI⟩:∃ x,bs[i]=x:=⟨_,rfl⟩
         obtain⟨bi1,alJ⟩:∃ x,bs[i+1]=x:=⟨_,rfl⟩
         rw[alI]at k0 k1
         rw[alJ]at k2 YF
         unfold uI at k0 k2
         have hi1:(i:Int)<(li.length:Int)+1:=Int.lt_add_one_of_le (Int.le_of_lt (Int.ofNat_lt.2 hi))
         have hi2:(i:Int)+1<(li.length:Int)+1:=Int.add_lt_add_right (Int.ofNat_lt.2 hi) 1
         have hi0:(0:Int)<=(i:Int)+1:=Int.add_nonneg (Int.natCast_nonneg i) (by decide)
         have hwi:=ar0 hi xB.out.len
         have hn1:(n:Int)<(M:Int)+1:=Int.lt_add_one_of_le hd4
         have hn0:(0:Int)<=(n:Int):=Int.natCast_nonneg n
         clear alI alJ
         obtain⟨v0,hv0⟩:∃ v,R0.getD n false=v:=⟨_,rfl⟩
         rw[hv0]at k1 hstep
         have hwn:=Lib.hid (azY hnm xB.out.hM2)
         cases v0
         ·rw[if_neg (by simp)]at hstep
          clear k2 YF
          gi_wp2_with fail
          refine⟨trivial,?_⟩
          gi_wp2_with fail
          refine⟨⟨n+1,Nat.succ_le_succ hnm,by rw[hstep.out],by rw[hwn.out],by rw[hstep.out];exact EO⟩,?_⟩
          exact SS hnm hwn.out
         ·gi_wp2_with fail
          refine⟨trivial,rfl,?_⟩
          refine(callsIn_wide.2 (qX.calls _ _ _ _ _ (aFT mm 0 (M:Int)))).mono ?_
          rintro e wv ⟨rfl,hdv⟩
          have AB:=EO.step hdv.below
          have k2v:=jW hdv.below k2
          have hrv:=YF.step hdv.below
          clear EO hdv k0 k1 k2 YF
          by_cases hin:0<=mm/\mm<=(M:Int)
          ·obtain⟨m,rfl⟩:∃ m:Nat,mm=m:=⟨mm.toNat,(Int.toNat_of_nonneg hin.1).symm⟩
           have hde:decide (0<=(m:Int)/\(m:Int)<=(M:Int))=true:=decide_eq_true hin
           have hmM:m<=M:=Int.ofNat_le.1 hin.2
           rw[hr1.out]at hrv
           have k3:=hrv.cell m (by rw[aAI];exact Nat.lt_succ_of_le hmM)
           have hm1:(m:Int)<(M:Int)+1:=Int.lt_add_one_of_le hin.2
           have hm0:(0:Int)<=(m:Int):=hin.1
           rw[hde]
           rw[hde,Int.toNat_natCast]at hstep
           obtain⟨v1,hv1⟩:∃ v,R1.getD m false=v:=⟨_,rfl⟩
           rw[hv1]at k3 hstep
           clear hrv hv1 hde hin FH
           cases v1
           ·rw[if_neg (by simp)]at hstep
            gi_wp2_with fail
            refine⟨⟨n+1,Nat.succ_le_succ hnm,by rw[hstep.out],by rw[hwn.out],by rw[hstep.out];exact AB⟩,?_⟩
            exact SS hnm hwn.out
           ·rw[if_pos (by simp)]at hstep
            have q0:=AB.nx.cell n (by rw[hFn];exact Nat.lt_succ_of_le hnm)
            have q1:=AB.nx.frozen n
            have hP:=AB.azW hnb.out hwb.out n
            obtain⟨t0,t1,tf⟩:=mP.aaG AB.f.sp (by rw[List.length_set,hS0]) i hi
            have tf0:=tf (i*2)
            have tf1:=tf (i*2+1)
            have hil:(i:Int)<(li.length:Int):=Int.ofNat_lt.2 hi
            have hge:(0:Int)<=(i:Int):=Int.natCast_nonneg i
            obtain⟨ac9,hgc⟩:=OM AB.f.sp gs rfl
            have hne1:gs≠bn:=Box.vT (vs:=ac9) (t:=42) hgc AB.nx (by decide)
            have hne2:bn≠gs:=fun e=>hne1 e.symm
            clear tf hgc
            obtain⟨fd,OA⟩:∃ v,sn.fd=v:=⟨_,rfl⟩
            rw[OA]at hstep ⊢
            cases fd
            ·rw[if_neg (by decide)]at hstep
             have hQ1:=hP.lo hS0.symm EN.out (by rw[hS0];exact hi) x0
             have hQ2:=hQ1.hi hS0.symm EN.out (by rw[hS0];exact hi) x0
             gi_wp2_with fail
             refine⟨⟨n+1,Nat.succ_le_succ hnm,by rw[hstep.out],by rw[hwn.out],by rw[hstep.out];exact hQ2⟩,?_⟩
             exact SS hnm hwn.out
            ·rw[if_pos rfl]at hstep
             have hQ2:=hP.hi hS0.symm EN.out (by rw[hS0];exact hi) x0
             gi_wp2_with fail
             refine⟨⟨n+1,Nat.succ_le_succ hnm,by rw[hstep.out],by rw[hwn.out],by rw[hstep.out];exact hQ2⟩,?_⟩
             exact SS hnm hwn.out
          ·have hde:decide (0<=mm/\mm<=(M:Int))=false:=decide_eq_false hin
           rw[hde]
           rw[hde]at hstep
           rw[if_neg (by simp)]at hstep
           clear hi1 hi2 hin
           gi_wp2_with fail
           refine⟨⟨n+1,Nat.succ_le_succ hnm,by rw[hstep.out],by rw[hwn.out],by rw[hstep.out];exact AB⟩,?_⟩
           exact SS hnm hwn.out
        ·obtain rfl:n=M+1:=Nat.le_antisymm hn (Nat.lt_of_not_le hnm)
         have hd4:¬ (((M+1:Nat):Int)<=(M:Int)):=fun h=>Nat.not_succ_le_self M (Int.ofNat_le.1 h)
         have hJ1:=Lib.hid (azZ H12.out HJ.out AA.out.1 AA.out.2 HL.out QN)
         rw[Hx0.out]at hJ1
         rw[<-VK.out]at hG
         gi_wp2_with fail
         refine⟨⟨j+1,QN,by rw[VK.out],by rw[hJ1.out],hG⟩,?_⟩
         exact az0 hd3 Hx0.out hJ1.out
      ·obtain rfl:j=J:=Nat.le_antisymm hj (Nat.le_of_not_lt QN)
       have hd3:¬ (s.f0+(j:Int)<=s.f1):=by
        have:=az9 HJ.out (by rw[<-HL.out];exact H12.out.2.1)
        rw[AA.out.1,AA.out.2]at this
        exact this
       have hbi:i<bs.length:=by rw[hbl];exact Nat.lt_succ_of_lt hi
       have k0:=hK.f.r.cell i hbi
       unfold uI at k0
       have k1:=hK.f.r.own.frozenAt i
       have hi1:(i:Int)<(li.length:Int)+1:=Int.lt_add_one_of_le (Int.le_of_lt (Int.ofNat_lt.2 hi))
       have YG:yB w #[.slice (some ad) os.length c0,.slice (some lH) ls.length c1] g c M (bs.set i bn) (RD M (dO r ls li) li.length i) gs li.length (lM M (dO r ls li) li.length i) (wr.setCell ⟨g,i,none⟩ (uI (M+1) bn)):=by
        refine hK.swap hbi hwb.out ?_ ?_ ?_
        ·rw[<-hfi.out];exact if_neg (Nat.lt_irrefl i)
        ·intro q hq hne
         rw[<-aAK.out]
         unfold RD
         by_cases h1:q<i
         ·rw[if_pos h1,if_pos (Nat.lt_succ_of_lt h1)]
         ·rw[if_neg h1,if_neg (fun h=>h1 (Nat.lt_of_le_of_ne (Nat.le_of_lt_succ h) hne))]
        ·rw[<-hfi.out,<-aAJ.out]
         exact(azR M (dO r ls li) li.length i hi).symm
       unfold uI at YG
       have hwi:=Lib.hid (az1 hi xB.out.len)
       obtain⟨fd,OA⟩:∃ v,(pO M L R0 R1 j).fd=v:=⟨_,rfl⟩
       rw[<-hfi.out]at OA
       have Hfd:=Lib.hid OA
       rw[<-hfi.out]at hK ⊢
       rw[OA]
       clear OA hK
       cases fd
       ·gi_wp2_with fail
        have hno:qY M (dO r ls li) li.length=false:=by
         unfold qY
         rw[List.all_eq_false]
         exact⟨i,List.mem_range.2 hi,by rw[Hfd.out];decide⟩
        have hpost:=az6 hno YG.b
        clear YG hno
        exact bodyPost_ret (v:=.tuple #[.slice none 0 0,.slice none 0 0,.bool false]) (ak7 _ _ _ _ _ rfl rfl rfl) rfl hpost
       ·gi_wp2_with fail
        go_roundw
        case rel=>exact⟨i,bs.set i bn,Nat.le_of_lt hi,by rw[hwi.out],by rw[List.length_set,hbl],Lib.hid (fun q h1 h2=>by
         rcases Nat.eq_or_lt_of_le h1 with rfl|h3
         ·exact Hfd.out
         ·exact hfd.out q h3 h2),YG⟩
        case measure=>exact az2 hwi.out
   ·obtain rfl:d=0:=Nat.eq_zero_of_not_pos hd0
    have hm1:¬ (((0:Nat):Int) - 1≥0):=by decide
    have hok:qY M (dO r ls li) li.length=true:=by
     unfold qY
     rw[List.all_eq_true]
     intro q hq
     exact hfd.out q (Nat.zero_le _) (List.mem_range.1 hq)
    have hlb:li.length<bs.length:=by rw[hbl];exact Nat.lt_succ_self _
    have k0:=hF.r.cell li.length hlb
    have k1:=hF.r.row li.length hlb
    have k2:=hF.r.far li.length hlb
    unfold uI at k0
    rw[show RD M (dO r ls li) li.length 0 li.length=rowB M (dO r ls li) li.length by unfold RD;rw[if_neg (Nat.not_lt_zero _),aiI]]at k1
    obtain⟨bz,hbz⟩:∃ x,bs[li.length]=x:=⟨_,rfl⟩
    rw[hbz]at k0 k1 k2
    have hi1:(li.length:Int)<(li.length:Int)+1:=Int.lt_succ _
    have hi0:(0:Int)<=(li.length:Int):=Int.natCast_nonneg _
    have hne:bz≠gs:=by
     obtain⟨ac9,hgc⟩:=OM hF.sp gs rfl
     exact Box.vT (vs':=ac9) (t':=42) k1 hgc (by decide)
    clear hbz hlb
    have hpost:=az7 hok k1 k2 xB.out.hM2 hF.sp hne hF.b
    clear hne hok
    gi_wp2_with fail
    exact bodyPost_ret (v:=.tuple #[.slice (some ⟨bz,0,none⟩) (M+1) (M+1),.slice (some ⟨gs,0,none⟩) li.length li.length,.bool true]) (ak7 _ _ _ _ _ rfl rfl rfl) rfl hpost
end Go.Proofs.YtcmfnebcmmklkaaDoor.Hand
namespace Go.Proofs.YtcmfnebcmmklkaaDoor.Q
open Go.RowKit Go.Proofs.YtcmfnebcmmklkaaDoorW.dQ Go.Proofs.YtcmfnebcmmklkaaDoorW.oU Go.Proofs.YtcmfnebcmmklkaaDoorW.gG
def SY (os:List aZ) (ls:List aI) (o:Int) (li:List Int) (r:Bool):Bool:=
 decide (0<=o)&&decide (o<os.length)&&decide (0<=Hand.fZ r (dK os o))&&decide (Hand.fZ r (dK os o)<=144)&&decide (li.length<=8)&&
 (List.range li.length).all fun i=>decide (0<=rd li i)&&decide (rd li i<ls.length)&&decide (0<=(Hand.dO r ls li i).lo)&&decide ((Hand.dO r ls li i).lo<=(Hand.dO r ls li i).hi)&&decide ((Hand.dO r ls li i).hi<=144)
theorem aAO {os:List aZ} {ls:List aI} {o:Int} {li:List Int} {r:Bool} (h:SY os ls o li r=true):0<=o/\Hand.aoA os ls o.toNat li r (Hand.fZ r (dK os o)).toNat:=by
 unfold SY at h
 simp only[Bool.and_eq_true,decide_eq_true_eq,List.all_eq_true]at h
 obtain⟨⟨⟨⟨⟨h1,h2⟩,h3⟩,h4⟩,h5⟩,h6⟩:=h
 have ho:((o.toNat:Nat):Int)=o:=Int.toNat_of_nonneg h1
 refine⟨h1,by omega,?_,by omega,h5,fun i hi=>?_⟩
 ·rw[ho,Int.toNat_of_nonneg h3]
 ·obtain⟨⟨⟨⟨a,b⟩,c⟩,d⟩,e⟩:=h6 i (List.mem_range.2 hi)
  exact⟨⟨a,b⟩,c,d,e⟩
def sJ.f (aG:List (aZ)) (aC:List (aI)) (a1:Int) (l2:List Int) (a3:Bool):Option (List Bool×List aH×Bool):=
 if SY aG aC a1 l2 a3=true then
  some (if Hand.qY (Hand.fZ a3 (dK aG a1)).toNat (Hand.dO a3 aC l2) l2.length=true then Hand.rowB (Hand.fZ a3 (dK aG a1)).toNat (Hand.dO a3 aC l2) l2.length else[],
   if Hand.qY (Hand.fZ a3 (dK aG a1)).toNat (Hand.dO a3 aC l2) l2.length=true then Hand.lM (Hand.fZ a3 (dK aG a1)).toNat (Hand.dO a3 aC l2) l2.length 0 else[],
   Hand.qY (Hand.fZ a3 (dK aG a1)).toNat (Hand.dO a3 aC l2) l2.length)
 else none
theorem sJ.calls (aQ:Option Addr) (aK:Nat) (aG:List (aZ)) (aT:Option Addr) (aJ:Nat) (aC:List (aI)) (a1:Int) (A2:Option Addr) (c2:Nat) (l2:List Int) (a3:Bool) (r1:List Bool) (r2:List aH) (r3:Bool) (w:World) (jI:Kd.C iJ w aQ aG.length aG) (jU:aG.length<=aK) (jE:Kd.C iE w aT aC.length aC) (jS:aC.length<=aJ) (hr2:Kd.C (Kd.int .i64) w A2 l2.length l2) (hc2:l2.length<=c2) (h:sJ.f aG aC a1 l2 a3=some (r1,r2,r3)):
  Calls Tryd.prog 69 #[.agg #[.slice aQ aG.length aK,.slice aT aC.length aJ],.int .i64 a1,.slice A2 l2.length c2,.bool a3] w fun e w'=>∃ iG nC:Value,e=.returned (.tuple #[iG,nC,.bool r3])/\Kd.R Kd.bool 4 w' w.heap.size (fun k_=>some k_≠(nC:Value).ownBlock) iG r1/\Kd.R iD 42 w' w.heap.size (fun k_=>some k_≠(iG:Value).ownBlock) nC r2/\Below w.heap.size w w':=by
 unfold sJ.f at h
 split at h
 ·rename_i hb
  obtain⟨h1,h2⟩:=aAO hb
  simp only[Option.some.injEq,Prod.mk.injEq]at h
  obtain⟨rfl,rfl,rfl⟩:=h
  have:=Hand.aAB aG aC a1.toNat l2 a3 _ h2 aQ aT A2 aK aJ c2 w jI jE hr2
  rw[Int.toNat_of_nonneg h1]at this
  exact this
 ·cases h
end Go.Proofs.YtcmfnebcmmklkaaDoor.Q
