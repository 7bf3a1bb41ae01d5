/- What the laws of chapter 9 share: words about rows and regions, the walks of the package dozen, and that known returns true. Part 2 of 16. -/
import Derived.OrdersHeld
import Derived.Deep.RegionHeld3
import Derived.Laws.BitsLemmas
import Derived.RowKit
import Derived.Test.YtcmfnebcmmklkaaDoorK1
import Derived.Test.YtcmfnebcmmklkaaDoorProg
import Derived.WalkKit
import Derived.KernelRfl
import Derived.Deep.QuietTactic
import Derived.BigQuiet
import Derived.Lib.Hide
import Derived.Deep.LoopGhost
import Derived.Shelf.Spec.TrailingZeros
import Derived.Laws.StructEq
import Derived.Below
import Derived.Deep.Draws
import Derived.Deep.AppendLies
import Derived.Maps.AppendAt
import Derived.OwnWalk
import Derived.Laws.BytesArg
import Derived.Laws.MakeOwn
import Derived.Laws.OwnMore
import Derived.Deep.OwnRows
import Derived.Tactics
import Derived.Lib.ConvBytes
import Derived.Laws.Slices
import Derived.RowKit3
import Derived.WideLaws
import Derived.Deep.DeepCutAuto
import Derived.Deep.CutBlock
import Derived.Laws.Rows
import Derived.Lib.AppendStr
import Derived.ArgAppend
import Derived.Laws.IdiomCopy
set_option linter.unusedVariables false
set_option linter.unusedSimpArgs false
set_option maxRecDepth 100000
set_option maxHeartbeats 8000000
namespace Go.Proofs.YtcmfnebcmmklkaaDoorW.oU
section
variable {P:Program} {ops:Array Oper} {Q:Exit->Act->World->Prop} {md:Region.Mode} {S:World->Prop} {ds:List Nat}
def Region.ZY (md:Region.Mode) (ops:Array Oper) (i:Nat):Nat->Nat->Bool
 |0,_=>false
 |fuel+1,d=>match ops[d]?with
  |some o=>o.after.any fun e=>Region.binds md e&&(e.on==i||Region.ZY md ops i fuel e.on)
  |none=>false
def Region.atC (md:Region.Mode) (ops:Array Oper) (listed:Array Bool):Bool:=
 (List.range ops.size).all fun j=> !listed.getD j false||match ops[j]?with
  |some o=>o.after.all fun e=> !Region.binds md e||listed.getD e.on false
  |none=>true
def Region.lastB (md:Region.Mode) (ops:Array Oper) (listed:Array Bool) (ds:List Nat) (i:Nat):Bool:=
 ds.all fun d=>listed.getD d true||Region.ZY md ops i ops.size d
def amI (md:Region.Mode) (ops:Array Oper) (listed:Array Bool):Prop:=
 ∀ j oj,ops[j]? =some oj->listed.getD j false=true->∀ e∈oj.after,Region.binds md e=true->listed.getD e.on false=true
theorem Region.a9V {listed:Array Bool} (h:Region.atC md ops listed=true):amI md ops listed:=by
 intro j oj hj hl e he hb
 have hlt:j<ops.size:=(Array.getElem?_eq_some_iff.1 hj).1
 have h1:=List.all_eq_true.1 h j (List.mem_range.2 hlt)
 simp only[hl,hj,Bool.not_true,Bool.false_or]at h1
 have h2:=Array.all_eq_true_iff_forall_mem.1 h1 e he
 simpa[hb]using h2
theorem amI.set {listed:Array Bool} {i:Nat} (h:amI md ops listed) (hi:i∈Region.ready md ops listed):amI md ops (listed.setIfInBounds i true):=by
 obtain⟨_,oi,hoi,hall⟩:=mem_ready.1 hi
 intro j oj hj hl e he hb
 by_cases hij:i=j
 ·subst hij
  have:oj=oi:=Option.some.inj (hj.symm.trans hoi)
  subst this
  exact getD_set_true (hall e he hb)
 ·rw[getD_set_ne false hij]at hl
  exact getD_set_true (h j oj hj hl e he hb)
theorem Region.aTH {listed:Array Bool} {i:Nat} (hc:amI md ops listed):∀ (fuel d:Nat),Region.ZY md ops i fuel d=true->listed.getD d false=true->listed.getD i false=true
 |0,_,h,_=>by simp[Region.ZY]at h
 |fuel+1,d,h,hl=>by
  unfold Region.ZY at h
  cases ho:ops[d]?with
  |none=>rw[ho]at h;simp at h
  |some o=>
   rw[ho]at h
   obtain⟨e,he,h1⟩:=Array.any_eq_true'.1 h
   simp only[Bool.and_eq_true,Bool.or_eq_true,beq_iff_eq]at h1
   have hle:=hc d o ho hl e he h1.1
   rcases h1.2 with h2|h2
   ·rw[<-h2];exact hle
   ·exact Region.aTH hc fuel e.on h2 hle
theorem Region.a9W {listed:Array Bool} {i d fuel:Nat} (hc:amI md ops listed) (hr:Region.ZY md ops i fuel d=true) (hun:listed.getD i true=false):d ∉ Region.ready md ops listed:=by
 intro hd
 obtain⟨_,o,ho,hall⟩:=mem_ready.1 hd
 have hi:listed.getD i false=true:=by
  cases fuel with
  |zero=>simp[Region.ZY]at hr
  |succ n=>
   unfold Region.ZY at hr
   rw[ho]at hr
   obtain⟨e,he,h1⟩:=Array.any_eq_true'.1 hr
   simp only[Bool.and_eq_true,Bool.or_eq_true,beq_iff_eq]at h1
   have hle:=hall e he h1.1
   rcases h1.2 with h2|h2
   ·rw[<-h2];exact hle
   ·exact Region.aTH hc n e.on h2 hle
 rcases Nat.lt_or_ge i listed.size with h'|h'
 ·simp[h']at hun hi
  rw[hun]at hi
  cases hi
 ·simp[Array.getElem?_eq_none h']at hun
def pW (P:Program) (md:Region.Mode) (ops:Array Oper) (Q:Exit->Act->World->Prop) (S:World->Prop) (ds:List Nat):Nat->Array Bool->Act->World->Prop
 |0,listed,a,w=>Region.ready md ops listed=[]/\Q .normal a w
 |fuel+1,listed,a,w=>
  (Region.ready md ops listed=[]->Q .normal a w)/\
  ∀ i∈Region.ready md ops listed,wpOp P ops Q i (fun a' w'=>(i ∉ ds->S w->S w')/\pW P md ops Q S ds fuel (listed.setIfInBounds i true) a' w') a w
theorem aTI:∀ (fuel:Nat) (listed:Array Bool) (a:Act) (w:World),pW P md ops Q S ds fuel listed a w->wpAny P md ops Q fuel listed a w
 |0,_,_,_,h=>h
 |fuel+1,_,_,_,h=>⟨h.1,fun i hi=>wpOp_mono (fun a' w' h'=>aTI fuel _ a' w' h'.2) (h.2 i hi)⟩
theorem a9X {i:Nat} {oi:Oper} {v:Value} (hi:ops[i]? =some oi) (hsel:∀ (j:Nat) (o:Oper) cs b,ops[j]? =some o->o.op≠.select cs b)
  (hQ:∀ c a w,Q (.panic c) (a.put oi.dst v) w->Q (.panic c) a w) (n:Nat):
  ∀ (fuel:Nat) (listed:Array Bool) (a:Act) (w:World),
   (∀ j oj,ops[j]? =some oj->j≠i->listed.getD j true=false->(∀ e∈oj.after,Region.binds md e=true->e.on≠i)->oi.apart ops oj=true)->
   amI md ops listed->(∀ d∈ds,listed.getD d true=false->Region.ZY md ops i n d=true)->
   i∈Region.ready md ops listed->YieldsIf P ops S oi v a->S w->
   pW P md ops Q S ds fuel (listed.setIfInBounds i true) (a.put oi.dst v) w->pW P md ops Q S ds (fuel+1) listed a w:=by
 intro fuel
 induction fuel with
 |zero=>
  intro listed a w _ _ _ hr hy hS H
  refine⟨fun h=>(by rw[h]at hr;cases hr),fun j hj=>?_⟩
  by_cases hji:j=i
  ·subst hji;exact hy.wpOp hi hS ⟨fun _ h=>h,H⟩
  ·have:=ready_mono hj hji
   rw[H.1]at this
   cases this
 |succ fuel ih=>
  intro listed a w hfree hc hd hr hy hS H
  refine⟨fun h=>(by rw[h]at hr;cases hr),fun j hj=>?_⟩
  by_cases hji:j=i
  ·subst hji;exact hy.wpOp hi hS ⟨fun _ h=>h,H⟩
  ·have h1:=H.2 j (ready_mono hj hji)
   obtain⟨hjun,oj,hoj,hall⟩:=mem_ready.1 hj
   have ap0:=(mem_ready.1 hr).1
   have hnot:∀ e∈oj.after,Region.binds md e=true->e.on≠i:=fun e he hb heq=>by
    have h1:=hall e he hb
    rw[heq]at h1
    rcases Nat.lt_or_ge i listed.size with h'|h'
    ·simp[h']at ap0 h1;rw[ap0]at h1;cases h1
    ·simp[Array.getElem?_eq_none h']at h1
   have hjd:j ∉ ds:=fun hm=>Region.a9W hc (hd j hm hjun) ap0 hj
   have h2:=wpOp_putIf hoj (hfree j oj hoj hji hjun hnot) (fun cs b=>hsel i oi cs b hi) (fun cs b=>hsel j oj cs b hoj) hQ hy h1
   have hfree':∀ k ok,ops[k]? =some ok->k≠i->(listed.setIfInBounds j true).getD k true=false->
     (∀ e∈ok.after,Region.binds md e=true->e.on≠i)->oi.apart ops ok=true:=fun k ok hk hki hun hno=>by
    refine hfree k ok hk hki ?_ hno
    by_cases hjk:j=k
    ·subst hjk;exact hjun
    ·rw[getD_set_ne true hjk]at hun;exact hun
   have hd':∀ d∈ds,(listed.setIfInBounds j true).getD d true=false->Region.ZY md ops i n d=true:=fun d hm hun=>by
    refine hd d hm ?_
    by_cases hjk:j=d
    ·subst hjk;exact hjun
    ·rw[getD_set_ne true hjk]at hun;exact hun
   refine wpOp_mono (fun a' w' h3=>⟨h3.2.1,ih (listed.setIfInBounds j true) a' w' hfree' (hc.set hj) hd' (ready_mono hr (Ne.symm hji)) h3.1 (h3.2.1 hjd hS) ?_⟩) h2
   rw[Array.setIfInBounds_comm _ _ hji]
   exact h3.2.2
theorem a9Y {i:Nat} {oi:Oper} {v:Value} (hi:ops[i]? =some oi) (hsel:∀ (j:Nat) (o:Oper) cs b,ops[j]? =some o->o.op≠.select cs b)
  (hQ:∀ c a w,Q (.panic c) (a.put oi.dst v) w->Q (.panic c) a w):
  ∀ (fuel:Nat) (listed:Array Bool) (a:Act) (w:World),
   (∀ j oj,ops[j]? =some oj->j≠i->listed.getD j true=false->(∀ e∈oj.after,Region.binds md e=true->e.on≠i)->oi.apart ops oj=true)->
   i∈Region.ready md ops listed->Yields P ops oi v a->
   pW P md ops Q S ds fuel (listed.setIfInBounds i true) (a.put oi.dst v) w->pW P md ops Q S ds (fuel+1) listed a w:=by
 intro fuel
 induction fuel with
 |zero=>
  intro listed a w _ hr hy H
  refine⟨fun h=>(by rw[h]at hr;cases hr),fun j hj=>?_⟩
  by_cases hji:j=i
  ·subst hji;exact(hy.yieldsIf (S:=fun _=>True)).wpOp hi trivial ⟨fun _ h=>h,H⟩
  ·have:=ready_mono hj hji
   rw[H.1]at this
   cases this
 |succ fuel ih=>
  intro listed a w hfree hr hy H
  refine⟨fun h=>(by rw[h]at hr;cases hr),fun j hj=>?_⟩
  by_cases hji:j=i
  ·subst hji;exact(hy.yieldsIf (S:=fun _=>True)).wpOp hi trivial ⟨fun _ h=>h,H⟩
  ·have h1:=H.2 j (ready_mono hj hji)
   obtain⟨hjun,oj,hoj,hall⟩:=mem_ready.1 hj
   have ap0:=(mem_ready.1 hr).1
   have hnot:∀ e∈oj.after,Region.binds md e=true->e.on≠i:=fun e he hb heq=>by
    have h1:=hall e he hb
    rw[heq]at h1
    rcases Nat.lt_or_ge i listed.size with h'|h'
    ·simp[h']at ap0 h1;rw[ap0]at h1;cases h1
    ·simp[Array.getElem?_eq_none h']at h1
   have h2:=wpOp_put hoj (hfree j oj hoj hji hjun hnot) (fun cs b=>hsel i oi cs b hi) (fun cs b=>hsel j oj cs b hoj) hQ hy h1
   have hfree':∀ k ok,ops[k]? =some ok->k≠i->(listed.setIfInBounds j true).getD k true=false->
     (∀ e∈ok.after,Region.binds md e=true->e.on≠i)->oi.apart ops ok=true:=fun k ok hk hki hun hno=>by
    refine hfree k ok hk hki ?_ hno
    by_cases hjk:j=k
    ·subst hjk;exact hjun
    ·rw[getD_set_ne true hjk]at hun;exact hun
   refine wpOp_mono (fun a' w' h3=>⟨h3.2.1,ih (listed.setIfInBounds j true) a' w' hfree' (ready_mono hr (Ne.symm hji)) h3.1 ?_⟩) h2
   rw[Array.setIfInBounds_comm _ _ hji]
   exact h3.2.2
theorem a9Z {i:Nat} {oi:Oper} {v:Value} {fuel:Nat} {listed:Array Bool} {a:Act} {w:World} (hi:ops[i]? =some oi)
  (hs:Region.noSelect ops=true) (hf:Region.free md ops listed i=true) (hr:(Region.ready md ops listed).contains i=true)
  (hc:Region.atC md ops listed=true) (hl:Region.lastB md ops listed ds i=true)
  (hQ:∀ c a w,Q (.panic c) (a.put oi.dst v) w->Q (.panic c) a w) (hy:YieldsIf P ops S oi v a) (hS:S w)
  (h:pW P md ops Q S ds fuel (listed.setIfInBounds i true) (a.put oi.dst v) w):pW P md ops Q S ds (fuel+1) listed a w:=
 a9X hi (Region.noSelect_spec hs) hQ ops.size fuel listed a w (Region.free_spec hi hf) (Region.a9V hc)
  (fun d hm hun=>by have:=List.all_eq_true.1 hl d hm;rw[hun]at this;simpa using this) (by simpa using hr) hy hS h
theorem baA {rs:List Nat} {fuel:Nat} {listed:Array Bool} {a:Act} {w:World} (hr:Region.ready md ops listed=rs) (hne:rs≠[])
  (h:∀ i∈rs,wpOp P ops Q i (fun a' w'=>(i ∉ ds->S w->S w')/\pW P md ops Q S ds fuel (listed.setIfInBounds i true) a' w') a w):pW P md ops Q S ds (fuel+1) listed a w:=
 ⟨fun h0=>absurd (hr ▸ h0) hne,hr ▸ h⟩
theorem baB {listed:Array Bool} {a:Act} {w:World} (hr:Region.ready md ops listed=[]) (h:Q .normal a w):
  ∀ fuel,pW P md ops Q S ds fuel listed a w
 |0=>⟨hr,h⟩
 |_+1=>⟨fun _=>h,by rw[hr];simp⟩
theorem baC {id:Nat} {a:Act} {w:World} (hm:P.follows .mixedOrders=true)
  (h:pW P .any ops Q S ds ops.size (Array.replicate ops.size false) a { w with drawn:=w.drawn+1}):(Code.region id ops true).wp P Q a w:=
 wp_region_any hm (aTI _ _ _ _ h)
end
section
variable {P:Program} {ops:Array Oper} {Q:Exit->Act->World->Prop} {md:Region.Mode} {S:World->Prop} {ds:List Nat}
def TN (P:Program) (md:Region.Mode) (ops:Array Oper) (Q:Exit->Act->World->Prop) (S:World->Prop) (ds:List Nat) (fuel:Nat) (listed:Array Bool) (a:Act) (w:World) (rs:List Nat):Prop:=
 ∀ i∈rs,wpOp P ops Q i (fun a' w'=>(i ∉ ds->S w->S w')/\pW P md ops Q S ds fuel (listed.setIfInBounds i true) a' w') a w
theorem TN.nil {fuel:Nat} {listed:Array Bool} {a:Act} {w:World}:TN P md ops Q S ds fuel listed a w []:=fun _ h=>by cases h
theorem TN.cons {fuel:Nat} {listed:Array Bool} {a:Act} {w:World} {i:Nat} {o:Oper} {rs:List Nat} (ho:ops[i]? =some o) (hd:i ∉ ds)
  (h:∀ K':Act->World->Prop,Shut (∀ a w,S w->(S w->pW P md ops Q S ds fuel (listed.setIfInBounds i true) a w)->K' a w)->if Region.wanted o (yielded ops a.tmps)=true then Oper.wp P o a w K' Q else K' (a.put o.dst undef) w)
  (hs:TN P md ops Q S ds fuel listed a w rs):TN P md ops Q S ds fuel listed a w (i::rs):=fun j hj=>by
 rcases List.mem_cons.1 hj with rfl|hj
 ·exact wpOp_step ho (fun K' hK=>h K' (fun a w hS hW=>hK a w ⟨fun _ _=>hS,hW hS⟩))
 ·exact hs j hj
theorem TN.baD {fuel:Nat} {listed:Array Bool} {a:Act} {w:World} {i:Nat} {o:Oper} {rs:List Nat} (ho:ops[i]? =some o) (hd:i∈ds)
  (h:∀ K':Act->World->Prop,Shut (∀ a w,pW P md ops Q S ds fuel (listed.setIfInBounds i true) a w->K' a w)->if Region.wanted o (yielded ops a.tmps)=true then Oper.wp P o a w K' Q else K' (a.put o.dst undef) w)
  (hs:TN P md ops Q S ds fuel listed a w rs):TN P md ops Q S ds fuel listed a w (i::rs):=fun j hj=>by
 rcases List.mem_cons.1 hj with rfl|hj
 ·exact wpOp_step ho (fun K' hK=>h K' (fun a w hW=>hK a w ⟨fun hn=>absurd hd hn,hW⟩))
 ·exact hs j hj
theorem aIN {rs:List Nat} {fuel:Nat} {listed:Array Bool} {a:Act} {w:World} (hr:Region.ready md ops listed=rs) (hne:rs≠[])
  (h:TN P md ops Q S ds fuel listed a w rs):pW P md ops Q S ds (fuel+1) listed a w:=baA hr hne h
theorem xP {id n:Nat} {a:Act} {w:World} (l:Array Bool) (hm:P.follows .mixedOrders=true) (hn:ops.size=n) (hl:Array.replicate n false=l) (hS:S w.drew)
  (h:S w.drew->pW P .any ops Q S ds n l a w.drew):(Code.region id ops true).wp P Q a w:=by
 subst hn
 subst hl
 exact baC hm (h hS)
def takeB (md:Region.Mode) (ops:Array Oper) (ds:List Nat) (l l':Array Bool) (i:Nat):Bool:=
 Region.noSelect ops&&Region.free md ops l i&&(Region.ready md ops l).contains i&&Region.atC md ops l&&Region.lastB md ops l ds i&&(l.setIfInBounds i true==l')
theorem amE {i:Nat} {N:Option Tmp} {oi:Oper} {v:Value} {fuel:Nat} {l:Array Bool} {a:Act} {w:World} (l':Array Bool) (hi:ops[i]? =some oi) (hN:oi.dst=N) (hc:takeB md ops ds l l' i=true)
  (hQ:∀ c a w,Q (.panic c) (a.put oi.dst v) w->Q (.panic c) a w) (hy:YieldsIf P ops S oi v a) (hS:S w) {a':Act} (ha:a.put N v=a')
  (h:pW P md ops Q S ds fuel l' a' w):pW P md ops Q S ds (fuel+1) l a w:=by
 subst ha
 subst hN
 simp only[takeB,Bool.and_eq_true,beq_iff_eq]at hc
 obtain⟨⟨⟨⟨⟨h1,h2⟩,h3⟩,h4⟩,h5⟩,h6⟩:=hc
 subst h6
 exact a9Z hi h1 h2 h3 h4 h5 hQ hy hS h
def aCN (md:Region.Mode) (ops:Array Oper) (l l':Array Bool) (i:Nat):Bool:=
 Region.noSelect ops&&Region.free md ops l i&&(Region.ready md ops l).contains i&&(l.setIfInBounds i true==l')
theorem ap1 {i:Nat} {N:Option Tmp} {oi:Oper} {v:Value} {fuel:Nat} {l:Array Bool} {a:Act} {w:World} (l':Array Bool) (hi:ops[i]? =some oi) (hN:oi.dst=N) (hc:aCN md ops l l' i=true)
  (hQ:∀ c a w,Q (.panic c) (a.put oi.dst v) w->Q (.panic c) a w) (hy:Yields P ops oi v a) {a':Act} (ha:a.put N v=a')
  (h:pW P md ops Q S ds fuel l' a' w):pW P md ops Q S ds (fuel+1) l a w:=by
 subst ha
 subst hN
 simp only[aCN,Bool.and_eq_true,beq_iff_eq]at hc
 obtain⟨⟨⟨h1,h2⟩,h3⟩,h6⟩:=hc
 subst h6
 exact a9Y hi (Region.noSelect_spec h1) hQ fuel l a w (Region.free_spec hi h2) (by simpa using h3) hy h
def ap2 (md:Region.Mode) (ops:Array Oper) (l l':Array Bool) (i:Nat):Bool:=(Region.ready md ops l==[i])&&(l.setIfInBounds i true==l')
theorem lI {i:Nat} {N:Option Tmp} {oi:Oper} {fuel:Nat} {l:Array Bool} {a:Act} {w:World} (l':Array Bool) (hi:ops[i]? =some oi) (hN:oi.dst=N) (hc:ap2 md ops l l' i=true) (hd:i ∉ ds)
  (h:∀ K:Act->World->Prop,Shut (∀ a' w',S w'->(S w'->pW P md ops Q S ds fuel l' a' w')->K a' w')->if Region.wanted oi (yielded ops a.tmps)=true then Oper.wp P oi a w K Q else K (a.put N undef) w):
  pW P md ops Q S ds (fuel+1) l a w:=by
 subst hN
 simp only[ap2,Bool.and_eq_true,beq_iff_eq]at hc
 obtain⟨h1,h2⟩:=hc
 subst h2
 exact aIN h1 (by simp) (TN.cons hi hd (fun K hK=>h K hK) TN.nil)
theorem aCO {i:Nat} {N:Option Tmp} {oi:Oper} {fuel:Nat} {l:Array Bool} {a:Act} {w:World} (l':Array Bool) (hi:ops[i]? =some oi) (hN:oi.dst=N) (hc:ap2 md ops l l' i=true) (hd:i∈ds)
  (h:∀ K:Act->World->Prop,Shut (∀ a' w',pW P md ops Q S ds fuel l' a' w'->K a' w')->if Region.wanted oi (yielded ops a.tmps)=true then Oper.wp P oi a w K Q else K (a.put N undef) w):
  pW P md ops Q S ds (fuel+1) l a w:=by
 subst hN
 simp only[ap2,Bool.and_eq_true,beq_iff_eq]at hc
 obtain⟨h1,h2⟩:=hc
 subst h2
 exact aIN h1 (by simp) (TN.baD hi hd (fun K hK=>h K hK) TN.nil)
theorem xQ {l:Array Bool} {a:Act} {w:World} {n:Nat} (hr:(Region.ready md ops l==[])=true) (h:Q .normal a w):pW P md ops Q S ds n l a w:=baB (by simpa using hr) h n
theorem ae6 {i j:Nat} {Ni Nj:Option Tmp} {oi oj:Oper} {fuel:Nat} {l:Array Bool} {a:Act} {w:World} (li lj:Array Bool) (hi:ops[i]? =some oi) (hj:ops[j]? =some oj) (hNi:oi.dst=Ni) (hNj:oj.dst=Nj)
  (hc:(Region.ready md ops l==[i,j]&&l.setIfInBounds i true==li&&l.setIfInBounds j true==lj)=true) (hdi:i ∉ ds) (hdj:j ∉ ds)
  (h1:∀ K:Act->World->Prop,Shut (∀ a' w',S w'->(S w'->pW P md ops Q S ds fuel li a' w')->K a' w')->if Region.wanted oi (yielded ops a.tmps)=true then Oper.wp P oi a w K Q else K (a.put Ni undef) w)
  (h2:∀ K:Act->World->Prop,Shut (∀ a' w',S w'->(S w'->pW P md ops Q S ds fuel lj a' w')->K a' w')->if Region.wanted oj (yielded ops a.tmps)=true then Oper.wp P oj a w K Q else K (a.put Nj undef) w):
  pW P md ops Q S ds (fuel+1) l a w:=by
 subst hNi
 subst hNj
 simp only[Bool.and_eq_true,beq_iff_eq]at hc
 obtain⟨⟨h3,h4⟩,h5⟩:=hc
 subst h4
 subst h5
 exact aIN h3 (by simp) (TN.cons hi hdi (fun K hK=>h1 K hK) (TN.cons hj hdj (fun K hK=>h2 K hK) TN.nil))
def CY:Act->List (Tmp×Value)->Act
 |a,[]=>a
 |a,(n,v)::r=>CY (a.put (some n) v) r
theorem atD {σ:Type} {fuel:Nat} {l:Array Bool} {a:Act} {w:World} (fuel':Nat) (l':Array Bool) (ns:σ->List (Tmp×Value)) (F:σ->World->Prop)
  (hcont:∀ s w',F s w'->pW P md ops Q S ds fuel' l' (CY a (ns s)) w')
  (h:(∀ s w',F s w'->pW P md ops Q S ds fuel' l' (CY a (ns s)) w')->pW P md ops Q S ds fuel l a w):pW P md ops Q S ds fuel l a w:=h hcont
theorem MH {fuel:Nat} {l:Array Bool} {a a':Act} {w:World} (ha:a=a') (h:pW P md ops Q S ds fuel l a' w):pW P md ops Q S ds fuel l a w:=by
 subst ha
 exact h
theorem call_ {oi:Oper} {N:Option Tmp} {a:Act} {w:World} {K:Act->World->Prop} (f:FuncId) (args:Array Value) (hw:Region.wanted oi (yielded ops a.tmps)=true) (hN:oi.dst=N) (hrun:(execOp a.eval oi).run P w=.ok (.enter f args) w)
  (h:Calls P f args w fun e w'=>∃ v,e=.returned v/\K (a.put N v) w'):if Region.wanted oi (yielded ops a.tmps)=true then Oper.wp P oi a w K Q else K (a.put N undef) w:=by
 rw[if_pos hw]
 subst hN
 unfold Oper.wp
 rw[hrun,Oper.upon_enter]
 refine h.mono fun e w'' hh=>?_
 obtain⟨v,rfl,hk⟩:=hh
 exact hk
theorem aIO {f:FuncId} {fn:Func} (hf:P.funcs[f]? =some fn) (hname:(fn.name== "runtime.NumGoroutine")=false) (hb:fn.body.isSome=true) (args:Array Value) (w:World):(callFunc f args).run P w=.ok (.enter f args) w:=by
 have h1:fn.name≠ "runtime.NumGoroutine" :=by simpa using hname
 obtain⟨c,hc⟩:=Option.isSome_iff_exists.1 hb
 simp[callFunc,hf,h1,hc]
theorem rD {oi:Oper} {N:Option Tmp} {a:Act} {w:World} {K:Act->World->Prop} {f:FuncId} {fn:Func} {aS_:Array Operand} {ts:Array TypeId} (hf:P.funcs[f]? =some fn) (hname:(fn.name== "runtime.NumGoroutine")=false) (hb:fn.body.isSome=true) (args:Array Value)
  (hw:Region.wanted oi (yielded ops a.tmps)=true) (hN:oi.dst=N) (hop:oi.op=.call { callee:=.value (.func f),args:=aS_,argTypes:=ts}) (hargs:aS_.map a.eval=args)
  (h:Calls P f args w fun e w'=>∃ v,e=.returned v/\K (a.put N v) w'):if Region.wanted oi (yielded ops a.tmps)=true then Oper.wp P oi a w K Q else K (a.put N undef) w:=by
 refine call_ f args hw hN ?_ h
 have he:=aIO hf hname hb args w
 unfold execOp
 simp[hop,resolve,Deferred.ofValue,invoke,Act.eval,hargs,he]
theorem baF {rest:List Oper} {oi:Oper} {a:Act} {w:World} (N:Option Tmp) (hd:oi.dst=N) (hg:oi.guard=none) {f:FuncId} {fn:Func} {aS_:Array Operand} {ts:Array TypeId} (hf:P.funcs[f]? =some fn) (hname:(fn.name== "runtime.NumGoroutine")=false) (hb:fn.body.isSome=true) (args:Array Value)
  (hop:oi.op=.call { callee:=.value (.func f),args:=aS_,argTypes:=ts}) (hargs:aS_.map a.eval=args)
  (h:Calls P f args w fun e w'=>∃ v,e=.returned v/\wpList P ops Q rest (a.put N v) w'):wpList P ops Q (oi::rest) a w:=by
 refine wpList_plain hg fun K hK=>?_
 have he:=aIO hf hname hb args w
 have hrun:(execOp a.eval oi).run P w=.ok (.enter f args) w:=by
  unfold execOp
  simp[hop,resolve,Deferred.ofValue,invoke,Act.eval,hargs,he]
 unfold Oper.wp
 rw[hrun,Oper.upon_enter]
 refine h.mono fun e w'' hh=>?_
 obtain⟨v,rfl,hk⟩:=hh
 subst hd
 exact hK _ _ hk
theorem aTJ {oi:Oper} {N:Option Tmp} {a:Act} {w w1:World} {v:Value} {K:Act->World->Prop} (hw:Region.wanted oi (yielded ops a.tmps)=true) (hN:oi.dst=N) (hrun:(execOp a.eval oi).run P w=.ok (.value v) w1)
  (h:K (a.put N v) w1):if Region.wanted oi (yielded ops a.tmps)=true then Oper.wp P oi a w K Q else K (a.put N undef) w:=by
 rw[if_pos hw]
 subst hN
 unfold Oper.wp
 rw[hrun]
 exact h
theorem ahB {oi:Oper} {a:Act} {w w1:World} {K:Act->World->Prop} (hw:Region.wanted oi (yielded ops a.tmps)=true) (hN:oi.dst=none) (hrun:(execOp a.eval oi).run P w=.ok .skip w1)
  (h:K a w1):if Region.wanted oi (yielded ops a.tmps)=true then Oper.wp P oi a w K Q else K (a.put none undef) w:=by
 rw[if_pos hw]
 unfold Oper.wp
 rw[hrun]
 show K (a.put oi.dst undef) w1
 rw[hN]
 exact h
theorem wQ (n:Int):IntKind.i64.wrap n=Go.RowKit.wrap64 n:=by unfold Go.RowKit.wrap64;exact IntKind.wrap_i64 n
theorem yQ (n:Int):IntKind.i32.wrap n=Go.RowKit.wrap32 n:=by unfold Go.RowKit.wrap32;exact IntKind.wrap_i32 n
end
end Go.Proofs.YtcmfnebcmmklkaaDoorW.oU
namespace Go.Proofs.YtcmfnebcmmklkaaDoorW.dQ
open Go.RowKit
namespace Kd
def tag {α:Type} (f:Nat->Nat) (d:Kd α):Kd (α×Nat) where
 sz:=d.sz
 E:=d.E
 K:=fun w x cs=>d.K w x.1 cs
 M:=fun w base ok x cs=>d.M w base (fun k=>ok k/\f k=x.2) x.1 cs
 QV:=fun h=>d.QV h
 PZ:=fun h=>d.PZ h
 WO:=fun hb h=>d.WO hb h
 BK:=fun h=>d.BK h
 yP:=fun hok h=>d.yP (fun k hk=>⟨hok k hk.1,hk.2⟩) h
 MF:=fun h=>d.yP (fun _ hk=>⟨⟨hk.1.1,hk.2⟩,hk.1.2⟩) (d.MF h)
 MG:=fun hm h=>d.MG (fun k hk=>hm k hk.1) h
 WQ:=fun hb h=>d.WQ hb h
def raw (sz:Nat):Kd (List Value) where
 sz:=sz
 E:=[]
 K:=fun _ x cs=>cs=x/\cs.length=sz/\∀ u∈cs,u.oneCell'=true
 M:=fun _ _ _ x cs=>cs=x/\cs.length=sz/\∀ u∈cs,u.oneCell'=true
 QV:=fun h=>h.2.1
 PZ:=fun h=>h.2.2
 WO:=fun _ h=>h
 BK:=fun h=>h
 yP:=fun _ h=>h
 MF:=fun h=>h
 MG:=fun _ h=>h
 WQ:=fun _ h=>h
def S {α:Type} (d:Kd α) (e:Nat) (w:World) (base:Nat) (ok:Nat->Prop) (v:Value) (xs:List α):Prop:=∃ f,(tag f d).R e w base ok v xs.zipIdx
section
variable {α β:Type} {d:Kd α} {d':Kd β} {e e':Nat} {w w1 W:World} {base b:Nat} {ok ok' okv oku:Nat->Prop} {u v:Value} {xs:List α} {ys:List β}
theorem TP (d:Kd α) (e:Nat) (w:World) (base:Nat) (ok:Nat->Prop):S d e w base ok (.slice none 0 0) []:=⟨fun _=>0,xI _ _ _ _ _⟩
end
section
variable {α β:Type} {d:Kd α} {d':Kd β} {e e' g:Nat} {w w1 W:World} {base b:Nat} {ok ok' okv oku:Nat->Prop} {u v:Value} {xs:List α} {ys:List β}
end
section
open Classical in
variable {P:Program} {ops:Array Oper} {rest:List Oper} {o:Oper} {a:Act} {Q:Exit->Act->World->Prop} {Kc:Act->World->Prop} {α:Type}
end
def gap {α:Type} (f:Nat->Nat) (d:Kd α) (i:Nat) (c:List Value):Kd (α×Nat) where
 sz:=d.sz
 E:=d.E
 K:=fun w x cs=>(x.2=i->cs=c/\cs.length=d.sz/\∀ u∈cs,u.oneCell'=true)/\(x.2≠i->d.K w x.1 cs)
 M:=fun w base ok x cs=>(x.2=i->cs=c/\cs.length=d.sz/\∀ u∈cs,u.oneCell'=true)/\(x.2≠i->d.M w base (fun k=>ok k/\f k=x.2) x.1 cs)
 QV:=fun{w x cs} h=>by
  by_cases hx:x.2=i
  ·exact(h.1 hx).2.1
  ·exact d.QV (h.2 hx)
 PZ:=fun{w x cs} h=>by
  by_cases hx:x.2=i
  ·exact(h.1 hx).2.2
  ·exact d.PZ (h.2 hx)
 WO:=fun hb h=>⟨h.1,fun hx=>d.WO hb (h.2 hx)⟩
 BK:=fun h=>⟨h.1,fun hx=>d.BK (h.2 hx)⟩
 yP:=fun hok h=>⟨h.1,fun hx=>d.yP (fun k hk=>⟨hok k hk.1,hk.2⟩) (h.2 hx)⟩
 MF:=fun h=>⟨h.1,fun hx=>d.yP (fun _ hk=>⟨⟨hk.1.1,hk.2⟩,hk.1.2⟩) (d.MF (h.2 hx))⟩
 MG:=fun hm h=>⟨h.1,fun hx=>d.MG (fun k hk=>hm k hk.1) (h.2 hx)⟩
 WQ:=fun hb h=>⟨h.1,fun hx=>d.WQ hb (h.2 hx)⟩
def H {α:Type} (d:Kd α) (e:Nat) (w:World) (base:Nat) (ok:Nat->Prop) (v:Value) (xs:List α) (i:Int) (oki:Nat->Prop) (c:List Value):Prop:=
 (∀ k,oki k->ok k)/\∃ f,(gap f d i.toNat c).R e w base (fun k=>ok k/\¬ oki k) v xs.zipIdx
section
variable {α β:Type} {d:Kd α} {e e' g n cap:Nat} {w w1 W:World} {base:Nat} {ok ok' oki lS:Nat->Prop} {u v:Value} {xs:List α} {i:Int} {c:List Value}
open Classical in
end
section
variable {P:Program} {ops:Array Oper} {rest:List Oper} {o:Oper} {a:Act} {Q:Exit->Act->World->Prop} {α:Type}
end
end Kd
namespace Kd
structure Heap {α:Type} (d:Kd α):Prop where
 K:∀ {w w1:World} {x:α} {cs:List Value},(∀ k,k<w.heap.size->w1.heap[k]? =w.heap[k]?)->d.K w x cs->d.K w1 x cs
theorem baG {w w1:World} (hb:∀ k,k<w.heap.size->w1.heap[k]? =w.heap[k]?) {a:Addr} {v:Value} (h:w.cell? a=some v):w1.cell? a=some v:=by
 have:=hb a.block (World.block_lt_of_cell? w a h)
 simpa[World.cell?,this]using h
theorem Heap.C {α:Type} {d:Kd α} (hd:Heap d) {w w1:World} {A:Option Addr} {n:Nat} {xs:List α} (hb:∀ k,k<w.heap.size->w1.heap[k]? =w.heap[k]?) (h:d.C w A n xs):d.C w1 A n xs:=
 ⟨h.1,h.2.1,fun hn=>by
  obtain⟨ad,e,hc⟩:=h.2.2 hn
  refine⟨ad,e,fun j p hj=>?_⟩
  obtain⟨c,hs,hr,hcell⟩:=hc j p hj
  exact⟨c,hs,hd.K hb hr,fun i u hu=>baG hb (hcell i u hu)⟩⟩
section
variable {α:Type} {d:Kd α} {e base g n c:Nat} {ok:Nat->Prop} {w w0 W:World} {A:Option Addr} {xs:List α}
end
end Kd
def Kept (w W:World) (S:Nat->Prop):Prop:=w.heap.size<=W.heap.size/\∀ i,i<w.heap.size->¬ S i->W.heap[i]? =w.heap[i]?
section
variable {w W W2:World} {S S2 S':Nat->Prop}
theorem Kept.refl (w:World) (S:Nat->Prop):Kept w w S:=⟨Nat.le_refl _,fun _ _ _=>rfl⟩
theorem Kept.of_below (h:Below w.heap.size w W) (S:Nat->Prop):Kept w W S:=⟨h.size,fun i hi _=>h.block i hi⟩
theorem Kept.mono (h:Kept w W S) (hs:∀ k,S k->S' k):Kept w W S':=⟨h.1,fun i hi hn=>h.2 i hi (fun hk=>hn (hs i hk))⟩
theorem Kept.aTK (h:Kept w W S) (k:Kept W W2 S2) (hs:∀ k,S2 k->S k∨w.heap.size<=k):Kept w W2 S:=
 ⟨Nat.le_trans h.1 k.1,fun i hi hn=>(k.2 i (Nat.lt_of_lt_of_le hi h.1) (fun h2=>(hs i h2).elim hn (fun h3=>by omega))).trans (h.2 i hi hn)⟩
theorem Kept.below (h:Kept w W S) (hb:Below W.heap.size W W2):Kept w W2 S:=h.aTK (Kept.of_below hb (fun _=>False)) (fun _ hk=>hk.elim)
theorem Kept.alloc (h:Kept w W S) (o:Obj):Kept w (W.alloc o) S:=h.below (PW (Below.refl _ _) o)
theorem Kept.drew (h:Kept w W S):Kept w W.drew S:=h
theorem Kept.drewN (h:Kept w W S) (m:Nat):Kept w (W.drewN m) S:=h
theorem Kept.setCell (h:Kept w W S) {p:Addr} (hp:S p.block∨w.heap.size<=p.block) (u:Value):Kept w (W.setCell p u) S:=
 h.aTK (S2:=fun k=>k=p.block) ⟨by simp[World.setCell],fun i _ hn=>Below.heap_setCell W p u i hn⟩ (fun k hk=>by rw[hk];exact hp)
theorem Kept.keep {g:Nat} (h:PY w W g none) (k:Kept W W2 S2) (hs:∀ k,S2 k->w.heap.size<=k):PY w W2 g none:=
 ⟨Nat.le_trans h.1 k.1,fun i hi hg hr=>(k.2 i (Nat.lt_of_lt_of_le hi h.1) (fun h2=>by have:=hs i h2;omega)).trans (h.2 i hi hg hr)⟩
end
namespace Kd
section
variable {α:Type} {d:Kd α} {e base n c:Nat} {ok oki S S2:Nat->Prop} {w w0 W W1 W2:World} {v:Value} {A:Option Addr} {xs:List α} {i:Int} {cs:List Value}
end
end Kd
def YY (P:World->Prop) (W:World) (ok:Nat->Prop):Prop:=∀ W':World,(∀ k,ok k->k<W.heap.size->W'.heap[k]? =W.heap[k]?)->P W'
theorem baH {W W1:World} {k:Nat} (h:W1.heap[k]? =W.heap[k]?) (hlt:k<W.heap.size):k<W1.heap.size:=by
 rw[Array.getElem?_eq_getElem hlt]at h
 exact(Array.getElem?_eq_some_iff.1 h).1
namespace YY
variable {P Q:World->Prop} {W W1:World} {ok ok':Nat->Prop}
theorem now (h:YY P W ok):P W:=h W (fun _ _ _=>rfl)
theorem mono (h:YY P W ok) (hok:∀ k,ok k->ok' k):YY P W ok':=fun W' hW=>h W' (fun k hk hlt=>hW k (hok k hk) hlt)
theorem bound (h:YY P W ok):YY P W (fun k=>ok k/\k<W.heap.size):=fun W' hW=>h W' (fun k hk hlt=>hW k ⟨hk,hlt⟩ hlt)
theorem step (h:YY P W ok) (hm:∀ k,ok k->k<W.heap.size->W1.heap[k]? =W.heap[k]?):YY P W1 ok:=fun W' hW=>h W' (fun k hk hlt=>(hW k hk (baH (hm k hk hlt) hlt)).trans (hm k hk hlt))
theorem old (h:YY P W ok) (hb:Below W.heap.size W W1):YY P W1 (fun k=>ok k/\k<W.heap.size):=(h.bound).step (fun k _ hlt=>hb.block k hlt)
end YY
namespace Kd
def F {α:Type} (d:Kd α) (W:World) (ok:Nat->Prop) (A:Option Addr) (n:Nat) (xs:List α):Prop:=YY (fun W=>d.C W A n xs) W ok
def FK {α:Type} (d:Kd α) (W:World) (ok:Nat->Prop) (x:α) (c:List Value):Prop:=YY (fun W=>d.K W x c) W ok
section
variable {α β:Type} {d:Kd α} {e base n n' cc g N:Nat} {ok ok' lS S:Nat->Prop} {w w0 w1 W W1:World} {A A':Option Addr} {u v v1:Value} {xs:List α} {xs':List β} {d':Kd β} {x:α} {c:List Value}
theorem baI (d:Kd α) (W:World) (ok:Nat->Prop):F d W ok none ([]:List α).length []:=fun W' _=>a9M d W'
theorem baJ (h:d.M W base ok x c):FK d W ok x c:=fun _ hW=>d.BK (aSZ h hW)
end
end Kd
namespace Kd
def chunks (sz:Nat) (n:Nat) (inner:List Value):List (List Value):=(List.range n).map fun j=>(inner.drop (j*sz)).take sz
theorem atF (sz n:Nat) (inner:List Value):(chunks sz n inner).length=n:=by simp[chunks]
theorem baK {sz n:Nat} {inner:List Value} {j:Nat} (hj:j<n):(chunks sz n inner)[j]? =some ((inner.drop (j*sz)).take sz):=by simp[chunks,hj]
theorem aTL {sz n:Nat} {inner:List Value} {j:Nat} {c:List Value} (h:(chunks sz n inner)[j]? =some c):c=(inner.drop (j*sz)).take sz:=by
 have hj:j<n:=by have:=(List.getElem?_eq_some_iff.1 h).1;rwa [atF]at this
 rw[baK hj]at h
 injection h with h
 exact h.symm
theorem baL {α:Type} {Rr:α->List Value->Prop} {sz:Nat} {xs:List α} {inner:List Value} (h:gX Rr sz xs inner) (hR:∀ x c,Rr x c->c.length=sz/\∀ u∈c,u.oneCell'=true):gX (fun x cs=>cs=x/\cs.length=sz/\∀ u∈cs,u.oneCell'=true) sz (chunks sz xs.length inner) inner:=by
 refine⟨by rw[atF];exact h.1,fun j p hj=>?_⟩
 have hjl:j<xs.length:=by have:=(List.getElem?_eq_some_iff.1 hj).1;rwa [atF]at this
 have hp:=aTL hj
 exact⟨hp.symm,hR _ _ (h.2 j _ (List.getElem?_eq_getElem hjl))⟩
section
variable {α:Type} {d:Kd α} {e base n cc g:Nat} {ok ok' lS S:Nat->Prop} {w w1 W W1:World} {A:Option Addr} {u v v1:Value} {xs:List α} {x:α} {c:List Value}
def N {α:Type} (d:Kd α) (e:Nat) (w:World) (base:Nat) (ok:Nat->Prop) (v:Value) (xs:List α):Prop:=
 (∀ k,v.ownBlock=some k->ok k)/\∃ rows:List (List Value),rows.length=xs.length/\(raw d.sz).R e w base (fun k=>some k=v.ownBlock) v rows/\∀ (j:Nat) (x:α) (c:List Value),xs[j]? =some x->rows[j]? =some c->FK d w (fun k=>ok k/\some k≠v.ownBlock) x c
theorem R_N (h:d.R e w base ok v xs):N d e w base ok v xs:=by
 obtain⟨h0,inner,ho,hr⟩:=h
 refine⟨h0,chunks d.sz xs.length inner,atF _ _ _,⟨fun k hk=>hk.symm,inner,by rw[atF];exact ho,baL hr (fun x c hp=>⟨d.QV (d.BK hp),d.PZ (d.BK hp)⟩)⟩,fun j x c hx hc=>?_⟩
 rw[aTL hc]
 exact baJ (hr.2 j x hx)
theorem TQ (d:Kd α) (e:Nat) (w:World) (base:Nat) (ok:Nat->Prop):N d e w base ok (.slice none 0 0) []:=R_N (xI _ _ _ _ _)
end
end Kd
end Go.Proofs.YtcmfnebcmmklkaaDoorW.dQ
namespace Go.Proofs.YtcmfnebcmmklkaaDoorW.gG
open Go.RowKit Go.Proofs.YtcmfnebcmmklkaaDoorW.dQ
namespace Kd
open Go.Proofs.YtcmfnebcmmklkaaDoorW.dQ.Kd
end Kd
namespace Kd
open Go.Proofs.YtcmfnebcmmklkaaDoorW.dQ.Kd
section
variable {α:Type} {d:Kd α} {e base g N:Nat} {ok:Nat->Prop} {W w1:World} {u v:Value} {xs:List α}
theorem ad3 (hu:d.R e W base ok u xs) (hb:Below W.heap.size W w1):d.R e w1 base (fun k=>ok k/\k<W.heap.size) u xs:=
 bQ (rY (adZ hu) hb) (fun _ h=>⟨h.1,h.2.2.1⟩)
theorem MI (h:d.R e w1 base (fun k=>ok k/\k<N) u xs) (hbase:∀ k,v.ownBlock=some k->N<=k):d.R e w1 base (fun k=>(ok k/\some k≠v.ownBlock)/\k<N) u xs:=
 bQ h (fun k hk=>⟨⟨hk.1,fun e=>Nat.lt_irrefl _ (Nat.lt_of_lt_of_le hk.2 (hbase k e.symm))⟩,hk.2⟩)
end
end Kd
theorem uA (k k':IntKind) (x y:Int):Builtin.max2 (.int k x) (.int k' y)=pure (.int k (if x<y then y else x)):=by simp only[Builtin.max2,gt_iff_lt]
theorem uB (k k':IntKind) (x y:Int):Builtin.min2 (.int k x) (.int k' y)=pure (.int k (if y<x then y else x)):=by simp only[Builtin.min2]
theorem uC (ats:Array TypeId) (ty:TypeId) (a b:Value):Builtin.max_ ats ty #[a,b]=(Builtin.max2 a b>>=fun s=>pure s):=by simp only[Builtin.max_,List.foldlM_cons,List.foldlM_nil]
theorem uD (ats:Array TypeId) (ty:TypeId) (a b:Value):Builtin.min_ ats ty #[a,b]=(Builtin.min2 a b>>=fun s=>pure s):=by simp only[Builtin.min_,List.foldlM_cons,List.foldlM_nil]
theorem uM (ats:Array TypeId) (ty:TypeId) (a b c:Value):Builtin.max_ ats ty #[a,b,c]=(Builtin.max2 a b>>=fun s=>Builtin.max2 s c>>=fun s=>pure s):=by simp only[Builtin.max_,List.foldlM_cons,List.foldlM_nil]
theorem uN (ats:Array TypeId) (ty:TypeId) (a b c:Value):Builtin.min_ ats ty #[a,b,c]=(Builtin.min2 a b>>=fun s=>Builtin.min2 s c>>=fun s=>pure s):=by simp only[Builtin.min_,List.foldlM_cons,List.foldlM_nil]
theorem uO (ats:Array TypeId) (ty:TypeId) (a b c d:Value):Builtin.max_ ats ty #[a,b,c,d]=(Builtin.max2 a b>>=fun s=>Builtin.max2 s c>>=fun s=>Builtin.max2 s d>>=fun s=>pure s):=by simp only[Builtin.max_,List.foldlM_cons,List.foldlM_nil]
theorem uP (ats:Array TypeId) (ty:TypeId) (a b c d:Value):Builtin.min_ ats ty #[a,b,c,d]=(Builtin.min2 a b>>=fun s=>Builtin.min2 s c>>=fun s=>Builtin.min2 s d>>=fun s=>pure s):=by simp only[Builtin.min_,List.foldlM_cons,List.foldlM_nil]
end Go.Proofs.YtcmfnebcmmklkaaDoorW.gG
namespace Go.Proofs.YtcmfnebcmmklkaaDoorW.dQ
open Go.RowKit
section
variable {P:Program} {ops:Array Oper} {rest:List Oper} {o:Oper} {a:Act} {Q:Exit->Act->World->Prop} {W:World}
theorem gJ {f:FuncId} {aS_:Array Operand} {ts:Array TypeId} (_ho:o.op=.call { callee:=.value (.func f),args:=aS_,argTypes:=ts}) (h:wpList P ops Q (o::rest) a W):wpList P ops Q (o::rest) a W:=h
theorem VC {b:Builtin} {xs:Array Operand} {ts:Array TypeId} (_ho:o.op=.call { callee:=.builtin b,args:=xs,argTypes:=ts}) (h:wpList P ops Q (o::rest) a W):wpList P ops Q (o::rest) a W:=h
end
def mx (a b:Int):Int:=if a<b then b else a
def mn (a b:Int):Int:=if b<a then b else a
def shl (k:IntKind) (x y:Int):Int:=k.wrap (x*2^min y.toNat k.bits)
def shr (k:IntKind) (x y:Int):Int:=x / 2^min y.toNat k.bits
theorem aTM {k:IntKind} {x y j:Int} (h:shl k x y=j) (hy:y<=k.bits):k.wrap (x*2^y.toNat)=j:=by rw[<-h];unfold shl;rw[Nat.min_eq_left (by omega)]
theorem aCP {k:IntKind} {x y j:Int} (h:shr k x y=j) (hy:y<=k.bits):x / 2^y.toNat=j:=by rw[<-h];unfold shr;rw[Nat.min_eq_left (by omega)]
namespace Kd
section
variable {α:Type} {d:Kd α} {e base:Nat} {ok:Nat->Prop} {W w1:World} {v:Value} {xs:List α}
end
section
variable {α:Type} {d:Kd α} {e base g n cap:Nat} {ok oki lS:Nat->Prop} {W:World} {xs:List α} {i:Int} {c:List Value}
end
section
variable {α:Type} {d:Kd α} {e base b b' g N:Nat} {ok ok1:Nat->Prop} {W W2 w1:World} {u v:Value} {xs ys:List α} {S:Nat->Prop}
end
end Kd
end Go.Proofs.YtcmfnebcmmklkaaDoorW.dQ
namespace Go.Proofs.YtcmfnebcmmklkaaDoorW.dQ
open Go.RowKit
namespace Kd
def V {α:Type} (d:Kd α) (_e:Nat) (W:World) (_base:Nat) (ok:Nat->Prop) (v:Value) (xs:List α):Prop:=∃ A c,v=.slice A xs.length c/\xs.length<=c/\F d W ok A xs.length xs
section
variable {α β:Type} {d:Kd α} {e base base' n m c g N' lo hi:Nat} {ok ok' S:Nat->Prop} {w W w1:World} {A:Option Addr} {ad:Addr} {u v v1:Value} {xs:List α}
theorem TR (d:Kd α) (e:Nat) (W:World) (base:Nat) (ok:Nat->Prop):V d e W base ok (.slice none 0 0) []:=⟨none,0,rfl,Nat.le_refl _,baI d W ok⟩
end
end Kd
end Go.Proofs.YtcmfnebcmmklkaaDoorW.dQ
namespace Go.Proofs.YtcmfnebcmmklkaaDoor.Hand
open Go.RowKit Go.Proofs.YtcmfnebcmmklkaaDoorW.dQ
theorem QB {a b:Bool} (h:a=b):Ending.returned (.bool a)=.returned (.bool b):=by rw[h]
theorem TS {k:IntKind} {a b:Int} (h:a=b):Ending.returned (.int k a)=.returned (.int k b):=by rw[h]
def xR (a b n:Int):Bool:=decide (n<a)||decide (b<n)
theorem aTN (n a b:Int) (ba bb:Nat) (w:World) (ha:w.cell? ⟨ba,0,none⟩=some (.int .i64 a)) (hb:w.cell? ⟨bb,0,none⟩=some (.int .i64 b)):
  Calls Tryd.prog 96 #[.int .i64 n,.pointer (some ⟨ba,0,none⟩),.pointer (some ⟨bb,0,none⟩)] w fun e w'=>e=.returned (.bool (xR a b n))/\w=w':=by
 go_enter Tryd.func96,Tryd.ntmps96
 by_cases h:n<a
 ·have h1:decide (n<a)=true:=decide_eq_true h
  go_wp2
  go_ret
  exact⟨QB (by simp[xR,h]),rfl⟩
 ·have h1:decide (n<a)=false:=decide_eq_false h
  go_wp2
  go_ret
  exact⟨QB (by simp only[xR,h1,Bool.false_or]),rfl⟩
def abA (p:Int->Bool):List Int->Int->Int
 |[],_=> -1
 |x::xs,i=>if p x then i else abA p xs (i+1)
theorem baO (p:Int->Bool) (xs:List Int) (k:Nat) (h:k<xs.length):abA p (xs.drop k) k=if p (rd xs k)then(k:Int)else abA p (xs.drop (k+1)) ((k+1:Nat):Int):=by
 rw[List.drop_eq_getElem_cons h]
 simp only[abA]
 rw[show rd xs (k:Int)=xs[k]from by simp[rd,List.getD_eq_getElem?_getD,List.getElem?_eq_getElem h]]
 rfl
theorem baP (xs:List Int) (A:Option Addr) (c:Nat) (a b:Int) (ba bb:Nat) (w:World) (hr:Kd.C (Kd.int .i64) w A xs.length xs)
  (ha:w.cell? ⟨ba,0,none⟩=some (.int .i64 a)) (hb:w.cell? ⟨bb,0,none⟩=some (.int .i64 b)):
  Calls Tryd.prog 113 #[.slice A xs.length c,.func (.func 96) #[] #[.pointer (some ⟨ba,0,none⟩),.pointer (some ⟨bb,0,none⟩)]] w fun e w'=>e=.returned (.int .i64 (abA (xR a b) xs 0))/\Below w.heap.size w w':=by
 have hm:=hr.2.1
 go_enter Tryd.func113,Tryd.ntmps113
 go_wp2
 go_loopw [5,8] (fun v i w'=>∃ k:Nat,k<=xs.length/\i=.int .i64 k/\Hid (abA (xR a b) xs 0=abA (xR a b) (xs.drop k) k)/\w=w') (fun _ i _=>xs.length - (intOf i).toNat)
 case atStart=>exact⟨0,Nat.zero_le _,rfl,rfl,rfl⟩
 case round=>
  obtain⟨k,hk,rfl,hf,rfl⟩:=hrel
  by_cases hlt:k<xs.length
  ·obtain⟨ad,e,hc⟩:=Kd.BL hr k (by omega) (by omega)
   subst e
   rw[Int.toNat_natCast]at hc
   have hd:=Lib.hid (baO (xR a b) xs k hlt)
   by_cases hp:xR a b (rd xs k)=true
   ·go_wp2_with (go_at_call 96;refine(aTN _ _ _ _ _ _ ha hb).mono ?_;rintro e w' ⟨rfl,rfl⟩)
    go_ret
    exact⟨TS (by rw[hf.out,hd.out,if_pos hp]),Below.refl _ _⟩
   ·replace hp:=Bool.eq_false_iff.mpr hp
    go_wp2_with (go_at_call 96;refine(aTN _ _ _ _ _ _ ha hb).mono ?_;rintro e w' ⟨rfl,rfl⟩)
    go_roundw
    case rel=>exact⟨k+1,by omega,by go_num,Lib.hid (by rw[hf.out,hd.out,hp];rfl),trivial⟩
    case measure=>simp[intOf];omega
  ·go_wp2
   go_ret
   exact⟨TS (by rw[hf.out,List.drop_eq_nil_of_le (by omega)];rfl),Below.refl _ _⟩
theorem baQ (p:Int->Bool) (xs:List Int):∀ i:Int,0<=i->(0<=abA p xs i↔xs.any p=true):=by
 induction xs with
 |nil=>intro i _;simp[abA]
 |cons x xs ih=>
  intro i hi
  unfold abA
  rw[List.any_cons]
  by_cases hp:p x=true
  ·rw[if_pos hp,hp]
   simp[hi]
  ·rw[if_neg hp,Bool.eq_false_iff.mpr hp,Bool.false_or]
   exact ih (i+1) (by omega)
theorem baR (p:Int->Bool) (xs:List Int):decide (0<=abA p xs 0)=xs.any p:=by
 rw[Bool.eq_iff_iff,decide_eq_true_iff]
 exact baQ p xs 0 (Int.le_refl 0)
theorem baS (xs:List Int) (A:Option Addr) (c:Nat) (a b:Int) (ba bb:Nat) (w:World) (hr:Kd.C (Kd.int .i64) w A xs.length xs)
  (ha:w.cell? ⟨ba,0,none⟩=some (.int .i64 a)) (hb:w.cell? ⟨bb,0,none⟩=some (.int .i64 b)):
  Calls Tryd.prog 95 #[.slice A xs.length c,.func (.func 96) #[] #[.pointer (some ⟨ba,0,none⟩),.pointer (some ⟨bb,0,none⟩)]] w fun e w'=>e=.returned (.bool (xs.any (xR a b)))/\Below w.heap.size w w':=by
 have hq:=Lib.hid (baR (xR a b) xs)
 go_enter Tryd.func95,Tryd.ntmps95
 go_wp2_with (go_at_call 113;refine(baP xs A c a b ba bb _ hr ha hb).mono ?_;rintro e w' ⟨rfl,hbl⟩)
 go_ret
 exact⟨QB hq.out,hbl⟩
def allIn (a b:Int) (xs:List Int):Bool:= !(xs.any (xR a b))
theorem GK (a b:Int) (xs:List Int) (A:Option Addr) (c:Nat) (w:World) (hr:Kd.C (Kd.int .i64) w A xs.length xs):
  Calls Tryd.prog 62 #[.int .i64 a,.int .i64 b,.slice A xs.length c] w fun e w'=>e=.returned (.bool (allIn a b xs))/\Below w.heap.size w w':=by
 go_enter Tryd.func62,Tryd.ntmps62
 go_wp2_with (go_at_call 95;refine(baS xs A c a b w.heap.size (w.heap.size+1) _ ?h1 ?h2 ?h3).mono ?_;(case h1=>exact Kd.bJ (Kd.bJ hr ((Below.refl _ _).alloc (Nat.le_refl _) _)) ((Below.refl _ _).alloc (Nat.le_refl _) _));(case h2=>go_simp);(case h3=>go_simp);rintro e w' ⟨rfl,hbl⟩)
 go_ret
 exact⟨rfl,((((Below.refl _ _).alloc (Nat.le_refl _) _).alloc (by simp) _).trans (hbl.mono (by simp;omega)))⟩
def lZ (w:World):Prop:=2<=w.heap.size/\TabAt 1 Lib.deBruijn64tab w
theorem lZ.below {w w':World} (h:lZ w) (hb:Below w.heap.size w w'):lZ w':=
 ⟨Nat.le_trans h.1 hb.size,fun j hj=>(hb.cell (p:=⟨1,j,none⟩) (show 1<_ from h.1)).trans (h.2 j hj)⟩
theorem lZ.alloc {w:World} (h:lZ w) (o:Obj):lZ (w.alloc o):=h.below ((Below.refl _ _).alloc (Nat.le_refl _) _)
theorem tz64_core (x k idx:Nat) (w:World) (hx0:((x:Int)==0)=false)
  (key:IntKind.u64.wrap (bits BinOp.and IntKind.u64 (x:Int) (IntKind.u64.wrap (-(x:Int)))*285870213051353865) / 288230376151711744=(idx:Int))
  (hi:idx<64) (hk:k<64) (hcell:w.cell? ⟨1,idx,none⟩=some (.int .u8 k)):
  Calls Tryd.prog 122 #[.int .u64 x] w fun e w'=>e=.returned (.int .i64 k)/\w=w':=by
 go_enter Tryd.func122,Tryd.ntmps122
 go_wp2_with (simp only[key])
 go_ret
 exact⟨rfl,rfl⟩
theorem baT (x:Nat) (hx:x<18446744073709551616) (hx0:x≠0) (w:World) (hT:lZ w):
  Calls Tryd.prog 122 #[.int .u64 x] w fun e w'=>e=.returned (.int .i64 (Lib.ctz 64 x))/\w=w':=by
 obtain⟨hlow,hk⟩:=Lib.lowest_bit 64 x hx0 hx
 obtain⟨hi,htab⟩:=Lib.deBruijn64_at _ hk
 have hcell:=hT.2 _ hi
 rw[htab]at hcell
 exact tz64_core x _ _ w (by simp;omega) (tz64_key x _ hx hx0 hlow) hi hk hcell
theorem baU (x:Nat) (hx:x<18446744073709551616) (hx0:x≠0) (w:World) (hT:lZ w):
  Calls Tryd.prog 104 #[.int .u64 x] w fun e w'=>e=.returned (.int .i64 (Lib.ctz 64 x))/\w=w':=by
 go_enter Tryd.func104,Tryd.ntmps104
 go_wp2_with (go_at_call 122;refine(baT x hx hx0 _ hT).mono ?_;rintro e w' ⟨rfl,rfl⟩)
 go_ret
 exact⟨rfl,rfl⟩
def bitsOf (s:Nat):List Nat:=(List.range 8).filter fun i=>s.testBit i
end Go.Proofs.YtcmfnebcmmklkaaDoor.Hand
namespace Go.Proofs.YtcmfnebcmmklkaaDoorW.oU
open Go.Proofs.YtcmfnebcmmklkaaDoorW.dQ (aA)
def ap3 (md:Region.Mode) (o:Oper):List Nat:=(o.after.toList.filter (fun e=>Region.binds md e)).map (fun e=>e.on)
def aIP (md:Region.Mode) (ops:Array Oper) (i:Nat) (oi:Oper):List Nat:=(List.range ops.size).filter fun j=> !(j==i)&&match ops[j]?with
 |some oj=> !(oj.after.any (fun e=>Region.binds md e&&e.on==i)||oi.apart ops oj)
 |none=>false
def qW (md:Region.Mode) (ops:Array Oper):Bool×List (List Nat×List Nat):=(Region.noSelect ops,(List.range ops.size).map fun i=>match ops[i]?with
 |some o=>(ap3 md o,aIP md ops i o)
 |none=>([],[]))
def ahC (T:List (List Nat×List Nat)) (l:List Bool) (i:Nat):Bool:= !l.getD i true&&match T[i]?with
 |some r=>r.1.all (fun j=>l.getD j false)
 |none=>false
def ap4 (T:List (List Nat×List Nat)) (l:List Bool):List Nat:=(List.range T.length).filter (ahC T l)
def atG (T:List (List Nat×List Nat)) (l:List Bool) (i:Nat):Bool:=match T[i]?with
 |some r=>r.2.all (fun j=>l.getD j true)
 |none=>false
def aCQ (T:List (List Nat×List Nat)) (l:List Bool):Bool:=(List.range T.length).all fun j=> !l.getD j false||match T[j]?with
 |some r=>r.1.all (fun k=>l.getD k false)
 |none=>true
def ap5 (T:List (List Nat×List Nat)) (i:Nat):Nat->Nat->Bool
 |0,_=>false
 |fuel+1,d=>match T[d]?with
  |some r=>r.1.any fun j=>j==i||ap5 T i fuel j
  |none=>false
def lastT (T:List (List Nat×List Nat)) (l:List Bool) (ds:List Nat) (i:Nat):Bool:=ds.all fun d=>l.getD d true||ap5 T i T.length d
section
variable {md:Region.Mode} {ops:Array Oper} {T:Bool×List (List Nat×List Nat)} {l l' li lj lk:Array Bool} {ds:List Nat} {i j k:Nat}
theorem gd (l:Array Bool) (j:Nat) (b:Bool):l.getD j b=l.toList.getD j b:=by simp[Array.getD_eq_getD_getElem?,List.getD_eq_getElem?_getD]
theorem aTO (o:Oper) (p:Nat->Bool):o.after.all (fun e=> !Region.binds md e||p e.on)=(ap3 md o).all p:=by
 unfold ap3
 rw[<-Array.all_toList]
 induction o.after.toList with
 |nil=>rfl
 |cons e r ih=>
  rw[List.all_cons,ih,List.filter_cons]
  cases h:Region.binds md e<;>simp
theorem baV (o:Oper) (p:Nat->Bool):o.after.any (fun e=>Region.binds md e&&p e.on)=(ap3 md o).any p:=by
 unfold ap3
 rw[<-Array.any_toList]
 induction o.after.toList with
 |nil=>rfl
 |cons e r ih=>
  rw[List.any_cons,ih,List.filter_cons]
  cases h:Region.binds md e<;>simp
theorem aCR:(qW md ops).2.length=ops.size:=by simp[qW]
theorem aCS {o:Oper} (h:ops[i]? =some o):(qW md ops).2[i]? =some (ap3 md o,aIP md ops i o):=by
 have hi:=(Array.getElem?_eq_some_iff.1 h).1
 unfold qW
 rw[List.getElem?_map,List.getElem?_range hi,Option.map_some,h]
theorem aCT (h:ops[i]? =none):(qW md ops).2[i]? =none:=by
 have hi:ops.size<=i:=Array.getElem?_eq_none_iff.1 h
 exact List.getElem?_eq_none (by rw[aCR];exact hi)
theorem baW:ahC (qW md ops).2 l.toList i=(!l.getD i true&&((ops[i]?).map (·.after.all fun e=> !Region.binds md e||l.getD e.on false)).getD false):=by
 unfold ahC
 rw[gd]
 cases h:ops[i]?with
 |none=>rw[aCT h];rfl
 |some o=>
  rw[aCS h]
  simp only[Option.map_some,Option.getD_some]
  rw[<-aTO]
  simp only[gd]
theorem ready_eq:Region.ready md ops l=ap4 (qW md ops).2 l.toList:=by
 unfold Region.ready ap4
 rw[aCR]
 refine List.filter_congr (fun i _=>?_)
 rw[baW]
theorem free_eq:Region.free md ops l i=atG (qW md ops).2 l.toList i:=by
 unfold Region.free atG
 cases h:ops[i]?with
 |none=>rw[aCT h]
 |some oi=>
  rw[aCS h]
  simp only[aIP]
  rw[List.all_filter]
  congr 1
  funext j
  rw[gd]
  cases hj:ops[j]?with
  |none=>cases (j==i)<;>cases (l.toList.getD j true)<;>simp
  |some oj=>
   cases (j==i)<;>cases (l.toList.getD j true)<;>cases (oj.after.any (fun e=>Region.binds md e&&e.on==i)||oi.apart ops oj)<;>simp_all
theorem baX:Region.atC md ops l=aCQ (qW md ops).2 l.toList:=by
 unfold Region.atC aCQ
 rw[aCR]
 congr 1
 funext j
 rw[gd]
 cases h:ops[j]?with
 |none=>rw[aCT h]
 |some o=>
  rw[aCS h]
  simp only
  rw[<-aTO]
  simp only[gd]
theorem reach_eq:∀ (fuel d:Nat),Region.ZY md ops i fuel d=ap5 (qW md ops).2 i fuel d
 |0,_=>rfl
 |fuel+1,d=>by
  unfold Region.ZY ap5
  cases h:ops[d]?with
  |none=>rw[aCT h]
  |some o=>
   rw[aCS h]
   simp only
   rw[<-baV]
   congr 1
   funext e
   rw[reach_eq fuel]
theorem baY:Region.lastB md ops l ds i=lastT (qW md ops).2 l.toList ds i:=by
 unfold Region.lastB lastT
 rw[aCR]
 congr 1
 funext d
 rw[gd,reach_eq]
theorem aTP (h:ahC T.2 l.toList i=true) (hT:qW md ops=T):(Region.ready md ops l).contains i=true:=by
 subst hT
 rw[ready_eq]
 unfold ap4
 rw[List.contains_iff_mem,List.mem_filter,List.mem_range]
 refine⟨?_,h⟩
 unfold ahC at h
 rw[Bool.and_eq_true]at h
 cases hq:(qW md ops).2[i]?with
 |none=>rw[hq]at h;simp at h
 |some r=>exact(List.getElem?_eq_some_iff.1 hq).1
theorem atH (h:(l.toList.set i true==l'.toList)=true):(l.setIfInBounds i true==l')=true:=by
 rw[beq_iff_eq]at h ⊢
 apply Array.ext'
 rw[Array.toList_setIfInBounds]
 exact h
def ap6 (T:Bool×List (List Nat×List Nat)) (l l':List Bool) (i:Nat):Bool:=T.1&&atG T.2 l i&&ahC T.2 l i&&(l.set i true==l')
theorem aTQ (hT:qW md ops=T) (h:ap6 T l.toList l'.toList i=true):aCN md ops l l' i=true:=by
 simp only[ap6,Bool.and_eq_true]at h
 obtain⟨⟨⟨h1,h2⟩,h3⟩,h4⟩:=h
 have h5:=aTP h3 hT
 have h6:=atH h4
 subst hT
 simp only[aCN,Bool.and_eq_true]
 exact⟨⟨⟨h1,by rw[free_eq];exact h2⟩,h5⟩,h6⟩
def aIQ (T:Bool×List (List Nat×List Nat)) (ds:List Nat) (l l':List Bool) (i:Nat):Bool:=T.1&&atG T.2 l i&&ahC T.2 l i&&aCQ T.2 l&&lastT T.2 l ds i&&(l.set i true==l')
theorem baZ (hT:qW md ops=T) (h:aIQ T ds l.toList l'.toList i=true):takeB md ops ds l l' i=true:=by
 simp only[aIQ,Bool.and_eq_true]at h
 obtain⟨⟨⟨⟨⟨h1,h2⟩,h3⟩,h4⟩,h5⟩,h6⟩:=h
 have h7:=aTP h3 hT
 have h8:=atH h6
 subst hT
 simp only[takeB,Bool.and_eq_true]
 exact⟨⟨⟨⟨⟨h1,by rw[free_eq];exact h2⟩,h7⟩,by rw[baX];exact h4⟩,by rw[baY];exact h5⟩,h8⟩
theorem lJ (hT:qW md ops=T) (h:(ap4 T.2 l.toList==[i]&&l.toList.set i true==l'.toList)=true):ap2 md ops l l' i=true:=by
 simp only[Bool.and_eq_true]at h
 obtain⟨h1,h2⟩:=h
 subst hT
 simp only[ap2,Bool.and_eq_true]
 exact⟨by rw[ready_eq];exact h1,atH h2⟩
theorem ae7 (hT:qW md ops=T) (h:(ap4 T.2 l.toList==[i,j]&&l.toList.set i true==li.toList&&l.toList.set j true==lj.toList)=true):(Region.ready md ops l==[i,j]&&l.setIfInBounds i true==li&&l.setIfInBounds j true==lj)=true:=by
 simp only[Bool.and_eq_true]at h ⊢
 obtain⟨⟨h1,h2⟩,h3⟩:=h
 subst hT
 exact⟨⟨by rw[ready_eq];exact h1,atH h2⟩,atH h3⟩
theorem yR (hT:qW md ops=T) (h:(ap4 T.2 l.toList==[])=true):(Region.ready md ops l==[])=true:=by
 subst hT
 rw[ready_eq]
 exact h
def upM (B:List Nat) (d:Nat):List Nat->Nat
 |[]=>0
 |n::r=>(2^n|||(if n<d then B.getD n 0 else 0))|||upM B d r
def CZ (T:List (List Nat×List Nat)) (B:List Nat):Bool:=(List.range T.length).all fun d=>match T[d]?with
 |some r=>(B.getD d 0|||upM B d r.1)==upM B d r.1
 |none=>false
theorem aTR {B:List Nat} {d i:Nat}:∀ {ns:List Nat},(upM B d ns).testBit i=true->∃ n∈ns,n=i∨(n<d/\(B.getD n 0).testBit i=true)
 |[],h=>by simp[upM]at h
 |n::r,h=>by
  unfold upM at h
  rw[Nat.testBit_or,Nat.testBit_or,Bool.or_eq_true,Bool.or_eq_true]at h
  rcases h with(h|h)|h
  ·rw[Nat.testBit_two_pow]at h
   exact⟨n,List.mem_cons_self,.inl (by simpa using h)⟩
  ·by_cases hn:n<d
   ·rw[if_pos hn]at h
    exact⟨n,List.mem_cons_self,.inr ⟨hn,h⟩⟩
   ·rw[if_neg hn]at h
    simp at h
  ·obtain⟨m,hm,h2⟩:=aTR h
   exact⟨m,List.mem_cons_of_mem _ hm,h2⟩
theorem aTS {T:List (List Nat×List Nat)} {B:List Nat} (hB:CZ T B=true):∀ (fuel d:Nat),d<fuel->d<T.length->(B.getD d 0).testBit i=true->ap5 T i fuel d=true
 |0,d,h,_,_=>by omega
 |fuel+1,d,h,hd,hb=>by
  have h1:=List.all_eq_true.1 hB d (List.mem_range.2 hd)
  cases hr:T[d]?with
  |none=>rw[hr]at h1;simp at h1
  |some r=>
   rw[hr]at h1
   simp only[beq_iff_eq]at h1
   have h2:(upM B d r.1).testBit i=true:=by rw[<-h1,Nat.testBit_or,hb,Bool.true_or]
   obtain⟨n,hn,h3⟩:=aTR h2
   unfold ap5
   rw[hr]
   simp only
   rw[List.any_eq_true]
   refine⟨n,hn,?_⟩
   rcases h3 with rfl|⟨h4,h5⟩
   ·simp
   ·rw[aTS hB fuel n (by omega) (by omega) h5,Bool.or_true]
def aTT (T:List (List Nat×List Nat)) (B:List Nat) (l:List Bool) (ds:List Nat) (i:Nat):Bool:=ds.all fun d=>l.getD d true||(decide (d<T.length)&&(B.getD d 0).testBit i)
def aIR (T:Bool×List (List Nat×List Nat)) (B:List Nat) (ds:List Nat) (l l':List Bool) (i:Nat):Bool:=T.1&&atG T.2 l i&&ahC T.2 l i&&aCQ T.2 l&&aTT T.2 B l ds i&&(l.set i true==l')
theorem ba0 {B:List Nat} (hT:qW md ops=T) (hB:CZ T.2 B=true) (h:aIR T B ds l.toList l'.toList i=true):takeB md ops ds l l' i=true:=by
 refine baZ hT ?_
 simp only[aIR,aIQ,Bool.and_eq_true]at h ⊢
 obtain⟨⟨⟨⟨⟨h1,h2⟩,h3⟩,h4⟩,h5⟩,h6⟩:=h
 refine⟨⟨⟨⟨⟨h1,h2⟩,h3⟩,h4⟩,?_⟩,h6⟩
 unfold aTT at h5
 unfold lastT
 rw[List.all_eq_true]at h5 ⊢
 intro d hd
 have h7:=h5 d hd
 rw[Bool.or_eq_true,Bool.and_eq_true,decide_eq_true_eq]at h7
 rcases h7 with h7|⟨h8,h9⟩
 ·rw[h7,Bool.true_or]
 ·rw[aTS hB _ d h8 h8 h9,Bool.or_true]
theorem yS {P:Program} {Q:Exit->Act->World->Prop} {S:World->Prop} {n:Nat} {a:Act} {w:World} {B:List Nat} (hT:qW md ops=T) (hB:CZ T.2 B=true) (h:aA (qW md ops=T)->aA (CZ T.2 B=true)->pW P md ops Q S ds n l a w):pW P md ops Q S ds n l a w:=h ⟨hT⟩ ⟨hB⟩
end
def ad4:Code->Nat->Option (Array Oper)
 |.region id ops _,k=>if id==k then some ops else none
 |.seq a b,k=>match ad4 a k with
  |some o=>some o
  |none=>ad4 b k
 |.cond _ a b,k=>match ad4 a k with
  |some o=>some o
  |none=>ad4 b k
 |.block _ c,k=>ad4 c k
 |.loop c,k=>ad4 c k
 |.scope c,k=>ad4 c k
 |.rangeFunc _ _ a b,k=>match ad4 a k with
  |some o=>some o
  |none=>ad4 b k
 |_,_=>none
def opsOf (f:Func) (k:Nat):Array Oper:=((f.body.bind fun c=>ad4 c k)).getD #[]
end Go.Proofs.YtcmfnebcmmklkaaDoorW.oU
namespace Go.Proofs.YtcmfnebcmmklkaaDoorW.dQ
open Go.RowKit
section
variable {P:Program} {d:Nat} {xs ys:Array Value} {f:Field} {fs:List Field} {a b:Value} {r s:Bool} {w:World}
theorem atI (hn:(f.name== "_")=false) (ha:(part f.type xs f.offset).run P w=.ok a w) (hb:(part f.type ys f.offset).run P w=.ok b w) (he:(Op.equalIn d f.type a b).run P w=.ok r w):(Op.eqFields d xs ys [f]).run P w=.ok r w:=by
 have hn':f.name≠ "_" :=by simpa using hn
 simp only[Op.eqFields,if_pos hn',Sem.run_bind,ha,hb,he,Result.andThen_ok]
 cases r<;>simp
theorem ae8 (hn:(f.name== "_")=false) (ha:(part f.type xs f.offset).run P w=.ok a w) (hb:(part f.type ys f.offset).run P w=.ok b w) (he:(Op.equalIn d f.type a b).run P w=.ok r w) (hr:(Op.eqFields d xs ys fs).run P w=.ok s w):(Op.eqFields d xs ys (f::fs)).run P w=.ok (r&&s) w:=by
 have hn':f.name≠ "_" :=by simpa using hn
 rw[Op.eqFields]
 simp only[if_pos hn',Sem.run_bind,ha,hb,he,Result.andThen_ok]
 cases r
 ·simp
 ·simpa using hr
theorem atJ {t:TypeId} {fs:Array Field} (hu:P.underlying t=some (.struct fs)) (hp:P.stoodInHeld t=false) (h:(Op.eqFields d xs ys fs.toList).run P w=.ok r w):(Op.equalIn (d+1) t (.agg xs) (.agg ys)).run P w=.ok r w:=by
 have hf:P.fieldsOf t=fs:=by simp[Program.fieldsOf,hu]
 rw[run_equalIn_struct (P:=P) w d t xs ys (by rw[hf];exact hu) hp,hf]
 exact h
end
end Go.Proofs.YtcmfnebcmmklkaaDoorW.dQ
namespace Go.Proofs.YtcmfnebcmmklkaaDoorW.dQ
theorem gX.front {α:Type} {R:α->List Value->Prop} {size:Nat} {ps:List α} {cs c all:List Value} {p:α} (hp:R p c) (hc:c.length=size) (h:gX R size ps cs) (ha:c++cs=all):gX R size (p::ps) all:=by
 subst ha
 refine⟨by rw[List.length_append,hc,h.1,List.length_cons,Nat.succ_mul,Nat.add_comm],fun j q hq=>?_⟩
 cases j with
 |zero=>
  simp only[List.getElem?_cons_zero,Option.some.injEq]at hq
  subst hq
  rw[Nat.zero_mul,List.drop_zero,List.take_append_of_le_length (by omega),List.take_of_length_le (by omega)]
  exact hp
 |succ j=>
  simp only[List.getElem?_cons_succ]at hq
  have h1:=h.2 j q hq
  rw[Nat.succ_mul,List.drop_append,List.drop_of_length_le (by rw[hc];exact Nat.le_add_left _ _),List.nil_append,hc,Nat.add_sub_cancel]
  exact h1
theorem gX.c2 {α:Type} {R:α->List Value->Prop} {ps:List α} {cs:List Value} {p:α} {va vb:Value} (hp:R p [va,vb]) (h:gX R 2 ps cs):gX R 2 (p::ps) (va::vb::cs):=gX.front hp rfl h rfl
theorem gX.c3 {α:Type} {R:α->List Value->Prop} {ps:List α} {cs:List Value} {p:α} {va vb vc:Value} (hp:R p [va,vb,vc]) (h:gX R 3 ps cs):gX R 3 (p::ps) (va::vb::vc::cs):=gX.front hp rfl h rfl
theorem gX.c4 {α:Type} {R:α->List Value->Prop} {ps:List α} {cs:List Value} {p:α} {va vb vc vd:Value} (hp:R p [va,vb,vc,vd]) (h:gX R 4 ps cs):gX R 4 (p::ps) (va::vb::vc::vd::cs):=gX.front hp rfl h rfl
theorem gX.c5 {α:Type} {R:α->List Value->Prop} {ps:List α} {cs:List Value} {p:α} {va vb vc vd ve:Value} (hp:R p [va,vb,vc,vd,ve]) (h:gX R 5 ps cs):gX R 5 (p::ps) (va::vb::vc::vd::ve::cs):=gX.front hp rfl h rfl
theorem gX.c6 {α:Type} {R:α->List Value->Prop} {ps:List α} {cs:List Value} {p:α} {va vb vc vd ve vf:Value} (hp:R p [va,vb,vc,vd,ve,vf]) (h:gX R 6 ps cs):gX R 6 (p::ps) (va::vb::vc::vd::ve::vf::cs):=gX.front hp rfl h rfl
theorem gX.c7 {α:Type} {R:α->List Value->Prop} {ps:List α} {cs:List Value} {p:α} {va vb vc vd ve vf vg:Value} (hp:R p [va,vb,vc,vd,ve,vf,vg]) (h:gX R 7 ps cs):gX R 7 (p::ps) (va::vb::vc::vd::ve::vf::vg::cs):=gX.front hp rfl h rfl
theorem gX.c8 {α:Type} {R:α->List Value->Prop} {ps:List α} {cs:List Value} {p:α} {va vb vc vd ve vf vg vh:Value} (hp:R p [va,vb,vc,vd,ve,vf,vg,vh]) (h:gX R 8 ps cs):gX R 8 (p::ps) (va::vb::vc::vd::ve::vf::vg::vh::cs):=gX.front hp rfl h rfl
theorem gX.c9 {α:Type} {R:α->List Value->Prop} {ps:List α} {cs:List Value} {p:α} {va vb vc vd ve vf vg vh vi:Value} (hp:R p [va,vb,vc,vd,ve,vf,vg,vh,vi]) (h:gX R 9 ps cs):gX R 9 (p::ps) (va::vb::vc::vd::ve::vf::vg::vh::vi::cs):=gX.front hp rfl h rfl
theorem gX.c10 {α:Type} {R:α->List Value->Prop} {ps:List α} {cs:List Value} {p:α} {va vb vc vd ve vf vg vh vi vj:Value} (hp:R p [va,vb,vc,vd,ve,vf,vg,vh,vi,vj]) (h:gX R 10 ps cs):gX R 10 (p::ps) (va::vb::vc::vd::ve::vf::vg::vh::vi::vj::cs):=gX.front hp rfl h rfl
end Go.Proofs.YtcmfnebcmmklkaaDoorW.dQ
namespace Go.Proofs.YtcmfnebcmmklkaaDoorW.oU
def up (b:Nat->Bool) (i:Nat):Nat->Bool:=fun j=>if j=i then true else b j
section
variable {P:Program} {ops:Array Oper} {Q:Exit->Act->World->Prop} {md:Region.Mode} {T:Bool×List (List Nat×List Nat)} {B:List Nat} {O:List Nat} {b:Nat->Bool} {i j n:Nat}
theorem put_comm {a:Act} {s t:Tmp} {u v:Value} (h:s≠t):(a.put (some s) u).put (some t) v=(a.put (some t) v).put (some s) u:=by
 simp only[Act.put]
 rw[Array.setIfInBounds_comm _ _ h]
end
end Go.Proofs.YtcmfnebcmmklkaaDoorW.oU
namespace Go.Proofs.YtcmfnebcmmklkaaDoorW.dQ
open Go.RowKit
section
variable {P:Program} {ops:Array Oper} {rest:List Oper} {o:Oper} {a:Act} {Q:Exit->Act->World->Prop} {W:World}
theorem xJ (hw:Region.wanted o (yielded ops a.tmps)=true) (h:wpList P ops Q ({ o with guard:=none}::rest) a W):wpList P ops Q (o::rest) a W:=by
 have h1:Region.wanted { o with guard:=none} (yielded ops a.tmps)=true:=rfl
 unfold wpList at h ⊢
 rw[if_pos h1]at h
 rw[if_pos hw]
 exact h
end
end Go.Proofs.YtcmfnebcmmklkaaDoorW.dQ
namespace Go.Proofs.YtcmfnebcmmklkaaDoor.Q
open Go.RowKit Go.Proofs.YtcmfnebcmmklkaaDoorW.dQ Go.Proofs.YtcmfnebcmmklkaaDoorW.oU Go.Proofs.YtcmfnebcmmklkaaDoorW.gG
attribute [local go_sem] uA uB uC uD uM uN uO uP   -- for this text's walks alone
def aTU:Option Int->Value
 |none=>.nilIface
 |some c=>.iface 0 (.int .i64 c)
theorem iU:aTU none=.nilIface:=rfl
theorem iV (c:Int):aTU (some c)=.iface 0 (.int .i64 c):=rfl
theorem info3:(Tryd.prog.info? 3).map (fun i=>(i.zero,i.size,i.bytes))=some (some (.int .i64 0),1,8):=by kernel_rfl
theorem info4:(Tryd.prog.info? 4).map (fun i=>(i.zero,i.size,i.bytes))=some (some (.bool false),1,1):=by kernel_rfl
theorem ba1:(Tryd.prog.info? 34).map (fun i=>(i.zero,i.size,i.bytes))=some (some (.slice none 0 0),1,24):=by kernel_rfl
theorem ae9:(Tryd.prog.info? 89).map (fun i=>(i.zero,i.size,i.bytes))=some (some (.agg #[(.int .i64 0),(.int .i64 0)]),2,16):=by kernel_rfl
theorem aCU:(Tryd.prog.info? 91).map (fun i=>(i.zero,i.size,i.bytes))=some (some (.agg #[(.int .i64 0),(.int .i64 0),(.int .i64 0),(.int .i64 0),(.int .i64 0),(.bool false)]),6,48):=by kernel_rfl
theorem aTV:(Tryd.prog.info? 128).map (fun i=>(i.zero,i.size,i.bytes))=some (some (.slice none 0 0),1,24):=by kernel_rfl
structure aZ where
 f0:Int
 f1:Int
def z89:aZ:=⟨(0:Int),(0:Int)⟩
def iJ:Kd aZ:=Kd.iso (Kd.pair (Kd.int .i64) (Kd.int .i64)) (fun x:aZ=>(x.f0,x.f1))
theorem ba2 {w:World} {x:aZ} {cs:List Value} (h:iJ.K w x cs):cs=[.int .i64 x.f0,.int .i64 x.f1]:=by
 obtain⟨_,_,rfl,rfl,rfl⟩:=h
 exact rfl
theorem aIS (w:World) (x:aZ):iJ.K w x [.int .i64 x.f0,.int .i64 x.f1]:=⟨[.int .i64 x.f0],[.int .i64 x.f1],rfl,rfl,rfl⟩
theorem aTW (w:World) (base:Nat) (ok:Nat->Prop) (x:aZ):iJ.M w base ok x [.int .i64 x.f0,.int .i64 x.f1]:=⟨[.int .i64 x.f0],[.int .i64 x.f1],rfl,rfl,rfl⟩
def dK (xs:List aZ) (i:Int):aZ:=xs.getD i.toNat z89
theorem QW {w:World} {A:Option Addr} {n:Nat} {xs:List aZ} (h:Kd.C iJ w A n xs) (i:Int) (h0:0<=i) (h1:i<n):∃ ad,A=some ad/\w.cell? (ad.add (i.toNat*2))=some (.int .i64 (dK xs i).f0)/\w.cell? ⟨(ad.add (i.toNat*2)).block,(ad.add (i.toNat*2)).off+1,none⟩=some (.int .i64 (dK xs i).f1):=by
 obtain⟨ad,c,e,_,hK,hc0⟩:=Kd.amH h z89 i h0 h1
 have hc:∀ j u,c[j]? =some u->w.cell? (ad.add (i.toNat*2+j))=some u:=hc0
 obtain rfl:=ba2 hK
 exact⟨ad,e,hc 0 _ rfl,by rw[<-ZV _ _ 1 (by omega)];exact hc 1 _ rfl⟩
structure aH where
 f0:Int
 f1:Int
def z42:aH:=⟨(0:Int),(0:Int)⟩
def iD:Kd aH:=Kd.iso (Kd.pair (Kd.int .i64) (Kd.int .i64)) (fun x:aH=>(x.f0,x.f1))
theorem aCV {w:World} {x:aH} {cs:List Value} (h:iD.K w x cs):cs=[.int .i64 x.f0,.int .i64 x.f1]:=by
 obtain⟨_,_,rfl,rfl,rfl⟩:=h
 exact rfl
theorem aCW {w:World} {base:Nat} {ok:Nat->Prop} {x:aH} {cs:List Value} (h:iD.M w base ok x cs):cs=[.int .i64 x.f0,.int .i64 x.f1]:=by
 obtain⟨_,_,rfl,rfl,rfl⟩:=h
 exact rfl
theorem aIT (w:World) (x:aH):iD.K w x [.int .i64 x.f0,.int .i64 x.f1]:=⟨[.int .i64 x.f0],[.int .i64 x.f1],rfl,rfl,rfl⟩
theorem WS (w:World) (base:Nat) (ok:Nat->Prop) (x:aH):iD.M w base ok x [.int .i64 x.f0,.int .i64 x.f1]:=⟨[.int .i64 x.f0],[.int .i64 x.f1],rfl,rfl,rfl⟩
def bM (xs:List aH) (i:Int):aH:=xs.getD i.toNat z42
theorem rE {w:World} {A:Option Addr} {n:Nat} {xs:List aH} (h:Kd.C iD w A n xs) (i:Int) (h0:0<=i) (h1:i<n):∃ ad,A=some ad/\w.cell? (ad.add (i.toNat*2))=some (.int .i64 (bM xs i).f0)/\w.cell? ⟨(ad.add (i.toNat*2)).block,(ad.add (i.toNat*2)).off+1,none⟩=some (.int .i64 (bM xs i).f1):=by
 obtain⟨ad,c,e,_,hK,hc0⟩:=Kd.amH h z42 i h0 h1
 have hc:∀ j u,c[j]? =some u->w.cell? (ad.add (i.toNat*2+j))=some u:=hc0
 obtain rfl:=aCV hK
 exact⟨ad,e,hc 0 _ rfl,by rw[<-ZV _ _ 1 (by omega)];exact hc 1 _ rfl⟩
structure aI where
 f0:Int
 f1:aH
 f2:aH
 f3:Bool
def z91:aI:=⟨(0:Int),z42,z42,false⟩
def iE:Kd aI:=Kd.iso (Kd.pair (Kd.int .i64) (Kd.pair iD (Kd.pair iD Kd.bool))) (fun x:aI=>(x.f0,x.f1,x.f2,x.f3))
theorem ba3 {w:World} {x:aI} {cs:List Value} (h:iE.K w x cs):cs=[.int .i64 x.f0,.int .i64 x.f1.f0,.int .i64 x.f1.f1,.int .i64 x.f2.f0,.int .i64 x.f2.f1,.bool x.f3]:=by
 obtain⟨_,_,rfl,rfl,⟨_,_,rfl,s1,⟨_,_,rfl,s3,rfl⟩⟩⟩:=h
 obtain rfl:=aCV s1
 obtain rfl:=aCV s3
 exact rfl
theorem aIU (w:World) (x:aI):iE.K w x [.int .i64 x.f0,.int .i64 x.f1.f0,.int .i64 x.f1.f1,.int .i64 x.f2.f0,.int .i64 x.f2.f1,.bool x.f3]:=⟨[.int .i64 x.f0],[.int .i64 x.f1.f0,.int .i64 x.f1.f1,.int .i64 x.f2.f0,.int .i64 x.f2.f1,.bool x.f3],rfl,rfl,⟨[.int .i64 x.f1.f0,.int .i64 x.f1.f1],[.int .i64 x.f2.f0,.int .i64 x.f2.f1,.bool x.f3],rfl,(aIT w x.f1),⟨[.int .i64 x.f2.f0,.int .i64 x.f2.f1],[.bool x.f3],rfl,(aIT w x.f2),rfl⟩⟩⟩
theorem atK (w:World) (base:Nat) (ok:Nat->Prop) (x:aI):iE.M w base ok x [.int .i64 x.f0,.int .i64 x.f1.f0,.int .i64 x.f1.f1,.int .i64 x.f2.f0,.int .i64 x.f2.f1,.bool x.f3]:=⟨[.int .i64 x.f0],[.int .i64 x.f1.f0,.int .i64 x.f1.f1,.int .i64 x.f2.f0,.int .i64 x.f2.f1,.bool x.f3],rfl,rfl,⟨[.int .i64 x.f1.f0,.int .i64 x.f1.f1],[.int .i64 x.f2.f0,.int .i64 x.f2.f1,.bool x.f3],rfl,(WS w base ok x.f1),⟨[.int .i64 x.f2.f0,.int .i64 x.f2.f1],[.bool x.f3],rfl,(WS w base ok x.f2),rfl⟩⟩⟩
def aU (xs:List aI) (i:Int):aI:=xs.getD i.toNat z91
theorem OO {w:World} {A:Option Addr} {n:Nat} {xs:List aI} (h:Kd.C iE w A n xs) (i:Int) (h0:0<=i) (h1:i<n):∃ ad,A=some ad/\w.cell? (ad.add (i.toNat*6))=some (.int .i64 (aU xs i).f0)/\w.cell? ⟨(ad.add (i.toNat*6)).block,(ad.add (i.toNat*6)).off+1,none⟩=some (.int .i64 (aU xs i).f1.f0)/\w.cell? ⟨(ad.add (i.toNat*6)).block,(ad.add (i.toNat*6)).off+2,none⟩=some (.int .i64 (aU xs i).f1.f1)/\w.cell? ⟨(ad.add (i.toNat*6)).block,(ad.add (i.toNat*6)).off+3,none⟩=some (.int .i64 (aU xs i).f2.f0)/\w.cell? ⟨(ad.add (i.toNat*6)).block,(ad.add (i.toNat*6)).off+4,none⟩=some (.int .i64 (aU xs i).f2.f1)/\w.cell? ⟨(ad.add (i.toNat*6)).block,(ad.add (i.toNat*6)).off+5,none⟩=some (.bool (aU xs i).f3):=by
 obtain⟨ad,c,e,_,hK,hc0⟩:=Kd.amH h z91 i h0 h1
 have hc:∀ j u,c[j]? =some u->w.cell? (ad.add (i.toNat*6+j))=some u:=hc0
 obtain rfl:=ba3 hK
 exact⟨ad,e,hc 0 _ rfl,by rw[<-ZV _ _ 1 (by omega)];exact hc 1 _ rfl,by rw[<-ZV _ _ 2 (by omega)];exact hc 2 _ rfl,by rw[<-ZV _ _ 3 (by omega)];exact hc 3 _ rfl,by rw[<-ZV _ _ 4 (by omega)];exact hc 4 _ rfl,by rw[<-ZV _ _ 5 (by omega)];exact hc 5 _ rfl⟩
def AP (xs:List (List Int)) (i:Int):(List Int):=xs.getD i.toNat ([]:List Int)
theorem atL {w:World} {A:Option Addr} {n:Nat} {xs:List (List Int)} (h:Kd.C (Kd.slice 3 (Kd.int .i64)) w A n xs) (i:Int) (h0:0<=i) (h1:i<n):∃ ad A0 c0,A=some ad/\w.cell? (ad.add i.toNat)=some (.slice A0 (AP xs i).length c0)/\(AP xs i).length<=c0/\(Kd.int .i64).C w A0 (AP xs i).length (AP xs i):=by
 obtain⟨ad,c,e,_,hK,hc0⟩:=Kd.amH h ([]:List Int) i h0 h1
 have hc:∀ j u,c[j]? =some u->w.cell? (ad.add (i.toNat*1+j))=some u:=hc0
 obtain⟨A0,c0,rfl,l0,g0⟩:=hK
 exact⟨ad,A0,c0,e,by have hq:=hc 0 _ rfl;rwa [Nat.mul_one,Nat.add_zero]at hq,l0,g0⟩
structure gQ where
 f0:Int
 f1:Int
 f2:Int
def z109:gQ:=⟨(0:Int),(0:Int),(0:Int)⟩
def vC:Kd gQ:=Kd.iso (Kd.pair (Kd.int .i64) (Kd.pair (Kd.int .i64) (Kd.int .i64))) (fun x:gQ=>(x.f0,x.f1,x.f2))
theorem ba4 {w:World} {x:gQ} {cs:List Value} (h:vC.K w x cs):cs=[.int .i64 x.f0,.int .i64 x.f1,.int .i64 x.f2]:=by
 obtain⟨_,_,rfl,rfl,⟨_,_,rfl,rfl,rfl⟩⟩:=h
 exact rfl
theorem aIV (w:World) (base:Nat) (ok:Nat->Prop) (x:gQ):vC.M w base ok x [.int .i64 x.f0,.int .i64 x.f1,.int .i64 x.f2]:=⟨[.int .i64 x.f0],[.int .i64 x.f1,.int .i64 x.f2],rfl,rfl,⟨[.int .i64 x.f1],[.int .i64 x.f2],rfl,rfl,rfl⟩⟩
def DC (xs:List gQ) (i:Int):gQ:=xs.getD i.toNat z109
theorem aIW {w:World} {A:Option Addr} {n:Nat} {xs:List gQ} (h:Kd.C vC w A n xs) (i:Int) (h0:0<=i) (h1:i<n):∃ ad,A=some ad/\w.cell? (ad.add (i.toNat*3))=some (.int .i64 (DC xs i).f0)/\w.cell? ⟨(ad.add (i.toNat*3)).block,(ad.add (i.toNat*3)).off+1,none⟩=some (.int .i64 (DC xs i).f1)/\w.cell? ⟨(ad.add (i.toNat*3)).block,(ad.add (i.toNat*3)).off+2,none⟩=some (.int .i64 (DC xs i).f2):=by
 obtain⟨ad,c,e,_,hK,hc0⟩:=Kd.amH h z109 i h0 h1
 have hc:∀ j u,c[j]? =some u->w.cell? (ad.add (i.toNat*3+j))=some u:=hc0
 obtain rfl:=ba4 hK
 exact⟨ad,e,hc 0 _ rfl,by rw[<-ZV _ _ 1 (by omega)];exact hc 1 _ rfl,by rw[<-ZV _ _ 2 (by omega)];exact hc 2 _ rfl⟩
attribute [local go_sem] uA uB uC uD uM uN uO uP
theorem ad5:(Tryd.prog.info? 42).map (fun i=>(i.zero,i.size,i.bytes))=some (some (.agg #[(.int .i64 0),(.int .i64 0)]),2,16):=by kernel_rfl
theorem ba5:(Tryd.prog.info? 197).map (fun i=>(i.zero,i.size,i.bytes))=some (some (.agg #[(.int .i64 0),(.int .i64 0),(.int .i64 0),(.bool false)]),4,32):=by kernel_rfl
structure dR where
 f0:aH
 f1:Int
 f2:Bool
def aTX:dR:=⟨z42,(0:Int),false⟩
def QX:Kd dR:=Kd.iso (Kd.pair iD (Kd.pair (Kd.int .i64) Kd.bool)) (fun x:dR=>(x.f0,x.f1,x.f2))
theorem aTY {w:World} {x:dR} {cs:List Value} (h:QX.K w x cs):cs=[.int .i64 x.f0.f0,.int .i64 x.f0.f1,.int .i64 x.f1,.bool x.f2]:=by
 obtain⟨_,_,rfl,s0,⟨_,_,rfl,rfl,rfl⟩⟩:=h
 obtain rfl:=aCV s0
 exact rfl
theorem ba6 (w:World) (x:dR):QX.K w x [.int .i64 x.f0.f0,.int .i64 x.f0.f1,.int .i64 x.f1,.bool x.f2]:=⟨[.int .i64 x.f0.f0,.int .i64 x.f0.f1],[.int .i64 x.f1,.bool x.f2],rfl,(aIT w x.f0),⟨[.int .i64 x.f1],[.bool x.f2],rfl,rfl,rfl⟩⟩
theorem ba7 (w:World) (base:Nat) (ok:Nat->Prop) (x:dR):QX.M w base ok x [.int .i64 x.f0.f0,.int .i64 x.f0.f1,.int .i64 x.f1,.bool x.f2]:=⟨[.int .i64 x.f0.f0,.int .i64 x.f0.f1],[.int .i64 x.f1,.bool x.f2],rfl,(WS w base ok x.f0),⟨[.int .i64 x.f1],[.bool x.f2],rfl,rfl,rfl⟩⟩
def dP (xs:List dR) (i:Int):dR:=xs.getD i.toNat aTX
theorem aIX {w:World} {A:Option Addr} {n:Nat} {xs:List dR} (h:Kd.C QX w A n xs) (i:Int) (h0:0<=i) (h1:i<n):∃ ad,A=some ad/\w.cell? (ad.add (i.toNat*4))=some (.int .i64 (dP xs i).f0.f0)/\w.cell? ⟨(ad.add (i.toNat*4)).block,(ad.add (i.toNat*4)).off+1,none⟩=some (.int .i64 (dP xs i).f0.f1)/\w.cell? ⟨(ad.add (i.toNat*4)).block,(ad.add (i.toNat*4)).off+2,none⟩=some (.int .i64 (dP xs i).f1)/\w.cell? ⟨(ad.add (i.toNat*4)).block,(ad.add (i.toNat*4)).off+3,none⟩=some (.bool (dP xs i).f2):=by
 obtain⟨ad,c,e,_,hK,hc0⟩:=Kd.amH h aTX i h0 h1
 have hc:∀ j u,c[j]? =some u->w.cell? (ad.add (i.toNat*4+j))=some u:=hc0
 obtain rfl:=aTY hK
 exact⟨ad,e,hc 0 _ rfl,by rw[<-ZV _ _ 1 (by omega)];exact hc 1 _ rfl,by rw[<-ZV _ _ 2 (by omega)];exact hc 2 _ rfl,by rw[<-ZV _ _ 3 (by omega)];exact hc 3 _ rfl⟩
theorem aIY {P:Program} {ops:Array Oper} {Q:Exit->Act->World->Prop} {oi:Oper} {N:Option Tmp} {a:Act} {w:World} {K:Act->World->Prop} {f:FuncId} {fn:Func} {as_:Array Operand} {ts:Array TypeId} {x:Operand} (hf:P.funcs[f]? =some fn) (hname:(fn.name== "runtime.NumGoroutine")=false) (hb:fn.body.isSome=true) (args:Array Value)
  (hw:Region.wanted oi (yielded ops a.tmps)=true) (hN:oi.dst=N) (hop:oi.op=.call { callee:=.value x,args:=as_,argTypes:=ts}) (hargs:as_.map a.eval=args)
  (h:Calls P f args w fun e w'=>∃ v,e=.returned v/\K (a.put N v) w') (hv:a.eval x=.func (.func f) #[] #[]:=by rfl):if Region.wanted oi (yielded ops a.tmps)=true then Oper.wp P oi a w K Q else K (a.put N undef) w:=by
 refine call_ f args hw hN ?_ h
 have he:=aIO hf hname hb args w
 unfold execOp
 simp[hop,resolve,Deferred.ofValue,invoke,hv,hargs,he]
def bl (n m:Nat):Array Bool:=((List.range n).map fun i=>m.testBit i).toArray
section
variable {P:Program} {md:Region.Mode} {ops:Array Oper} {Q:Exit->Act->World->Prop} {S:World->Prop} {ds:List Nat} {T:Bool×List (List Nat×List Nat)} {B:List Nat} {fuel:Nat} {l:Array Bool} {a a':Act} {w:World} {oi:Oper} {v:Value}
theorem pq (i:Nat) (N:Option Tmp) (l':Array Bool) (hT:aA (qW md ops=T)) (hi:ops[i]? =some oi:=by rfl) (hN:oi.dst=N:=by rfl) (hc:ap6 T l.toList l'.toList i=true:=by kernel_rfl)
  (hQ:∀ c a w,Q (.panic c) (a.put oi.dst v) w->Q (.panic c) a w:=by exact fun _ _ _ h=>h) (h1:Region.wanted oi (yielded ops a.tmps)=true:=by rfl) (h2:∀ w,(execOp a.eval oi).run P w=.ok (.value v) w:=by intro w';go_simp;with_reducible rfl)
  (ha:a.put N v=a':=by simp only[Act.put,List.setIfInBounds_toArray,List.set_cons_zero,List.set_cons_succ,wQ,yQ];rfl)
  (h:pW P md ops Q S ds fuel l' a' w):pW P md ops Q S ds (fuel+1) l a w:=ap1 l' hi hN (aTQ hT.out hc) hQ (Or.inl ⟨h1,h2⟩) ha h
theorem po (i:Nat) (N:Option Tmp) (l':Array Bool) (hT:aA (qW md ops=T)) (hi:ops[i]? =some oi:=by rfl) (hN:oi.dst=N:=by rfl) (hc:ap6 T l.toList l'.toList i=true:=by kernel_rfl)
  (hQ:∀ c a w,Q (.panic c) (a.put oi.dst undef) w->Q (.panic c) a w:=by exact fun _ _ _ h=>h) (h1:Region.wanted oi (yielded ops a.tmps)=false:=by rfl)
  (ha:a.put N undef=a':=by simp only[Act.put,List.setIfInBounds_toArray,List.set_cons_zero,List.set_cons_succ,wQ,yQ];rfl)
  (h:pW P md ops Q S ds fuel l' a' w):pW P md ops Q S ds (fuel+1) l a w:=ap1 l' hi hN (aTQ hT.out hc) hQ (Or.inr ⟨h1,rfl⟩) ha h
theorem tq (i:Nat) (N:Option Tmp) (l':Array Bool) (hT:aA (qW md ops=T)) (hW:aA (CZ T.2 B=true)) (hS:S w) (hi:ops[i]? =some oi:=by rfl) (hN:oi.dst=N:=by rfl) (hc:aIR T B ds l.toList l'.toList i=true:=by kernel_rfl)
  (hQ:∀ c a w,Q (.panic c) (a.put oi.dst v) w->Q (.panic c) a w:=by exact fun _ _ _ h=>h) (h1:Region.wanted oi (yielded ops a.tmps)=true:=by rfl) (h2:∀ w,S w->(execOp a.eval oi).run P w=.ok (.value v) w:=by intro w' h_;go_simp;with_reducible rfl)
  (ha:a.put N v=a':=by simp only[Act.put,List.setIfInBounds_toArray,List.set_cons_zero,List.set_cons_succ,wQ,yQ];rfl)
  (h:pW P md ops Q S ds fuel l' a' w):pW P md ops Q S ds (fuel+1) l a w:=amE l' hi hN (ba0 hT.out hW.out hc) hQ (Or.inl ⟨h1,h2⟩) hS ha h
theorem nq (k:Nat) {v:Value} {l:Array Bool} (h:pW P md ops Q S ds fuel l a' w) (ha:a.put (some k) v=a':=by simp only[Act.put,List.setIfInBounds_toArray,List.set_cons_zero,List.set_cons_succ,wQ,yQ];rfl):pW P md ops Q S ds fuel l (a.put (some k) v) w:=MH ha h
end
section
variable {α:Type} {d:Kd α} {e base:Nat} {ok:Nat->Prop} {v:Value} {xs:List α} {w w' w0:World} {g:Nat} {o:Obj}
theorem R_ (H:aA (d.R e w base ok v xs)) (p:Below w.heap.size w w':=by(repeat(first|(with_reducible exact Below.refl _ _)|apply PW|apply YV|apply sW));first|done|fail):d.R e w' base ok v xs:=Kd.rY H.out p
theorem b_ (H:aA (w.heap[g]? =some o)) (p:Below w.heap.size w w':=by(repeat(first|(with_reducible exact Below.refl _ _)|apply PW|apply YV|apply sW));first|done|fail):w'.heap[g]? =some o:=fC H.out p
end
section
variable {α:Type} {d:Kd α} {e base g t n c:Nat} {ok:Nat->Prop} {v:Value} {xs:List α} {w w' w'' w0:World} {o:Obj} {A:Option Addr} {cells:Array Value}
theorem Bq (H:aA (Below w0.heap.size w0 w)) (p:Below w0.heap.size w0 w->Below w0.heap.size w0 w':=by intro h_;(repeat(first|(with_reducible first|exact h_|apply PW|apply YV|apply sW|refine aCM ?_ (aA.out (by assumption)))|exact h_));first|done|fail):Below w0.heap.size w0 w':=p H.out
theorem bb (H:aA (w.heap[g]? =some o)) (hb:Below w'.heap.size w' w'') (p:Below w.heap.size w w':=by(repeat(first|(with_reducible exact Below.refl _ _)|apply PW|apply YV|apply sW));first|done|fail):aA (w''.heap[g]? =some o):=⟨fC (fC H.out p) hb⟩
theorem RB (H:aA (d.R e w base ok v xs)) (hb:Below w'.heap.size w' w'') (p:Below w.heap.size w w':=by(repeat(first|(with_reducible exact Below.refl _ _)|apply PW|apply YV|apply sW));first|done|fail):aA (d.R e w'' base ok v xs):=⟨Kd.rY (Kd.rY H.out p) hb⟩
theorem rC (H:aA (d.R e w base ok (.slice A n c) xs)) (p:Below w.heap.size w w':=by(repeat(first|(with_reducible exact Below.refl _ _)|apply PW|apply YV|apply sW));first|done|fail):d.C w' A xs.length xs:=(Kd.dB (Kd.rY H.out p)).2.2
theorem kc (H:aA (w.heap[g]? =some (.cells cells t (0,0)))) (i:Nat) (hv:cells[i]? =some v:=by rfl):w.cell? ⟨g,i,none⟩=some v:=(MC H.out i).trans hv
end
section
variable {P:Program} {md:Region.Mode} {ops:Array Oper} {Q:Exit->Act->World->Prop} {S:World->Prop} {ds:List Nat} {T:Bool×List (List Nat×List Nat)} {B:List Nat} {fuel:Nat} {l:Array Bool} {a a':Act} {w:World} {oi:Oper} {v:Value}
theorem pS (i N n m:Nat) (hT:aA (qW md ops=T)) (h:pW P md ops Q S ds fuel (bl n m) a' w) (hi:ops[i]? =some oi:=by rfl) (hN:oi.dst=some N:=by rfl) (hc:ap6 T l.toList (bl n m).toList i=true:=by kernel_rfl)
  (hQ:∀ c a w,Q (.panic c) (a.put oi.dst v) w->Q (.panic c) a w:=by exact fun _ _ _ h=>h) (h1:Region.wanted oi (yielded ops a.tmps)=true:=by rfl) (h2:∀ w,(execOp a.eval oi).run P w=.ok (.value v) w:=by intro w';go_simp;with_reducible rfl)
  (ha:a.put (some N) v=a':=by simp only[Act.put,List.setIfInBounds_toArray,List.set_cons_zero,List.set_cons_succ,wQ,yQ];rfl):pW P md ops Q S ds (fuel+1) l a w:=pq i (some N) (bl n m) hT hi hN hc hQ h1 h2 ha h
theorem oS (i N n m:Nat) (hT:aA (qW md ops=T)) (h:pW P md ops Q S ds fuel (bl n m) a' w) (hi:ops[i]? =some oi:=by rfl) (hN:oi.dst=some N:=by rfl) (hc:ap6 T l.toList (bl n m).toList i=true:=by kernel_rfl)
  (hQ:∀ c a w,Q (.panic c) (a.put oi.dst undef) w->Q (.panic c) a w:=by exact fun _ _ _ h=>h) (h1:Region.wanted oi (yielded ops a.tmps)=false:=by rfl)
  (ha:a.put (some N) undef=a':=by simp only[Act.put,List.setIfInBounds_toArray,List.set_cons_zero,List.set_cons_succ,wQ,yQ];rfl):pW P md ops Q S ds (fuel+1) l a w:=po i (some N) (bl n m) hT hi hN hc hQ h1 ha h
end
section
variable {P:Program} {ops:Array Oper} {Q:Exit->Act->World->Prop} {rest:List Oper} {o oi:Oper} {a:Act} {w W:World}
theorem eX (N:Tmp) (cs:Array Value) (t:TypeId)
  (h:∀ g,g=W.heap.size->∀ w1,w1.heap[g]? =some (.cells cs t (0,0))->Below W.heap.size W w1->wpList P ops Q (rest) (a.put o.dst (.pointer (some ⟨g,0,none⟩))) w1)
  (hd:o.dst=some N:=by rfl) (hgd:o.guard=none:=by rfl)
  (hrun:(execOp a.eval o).run P W=.ok (.value (.pointer (some ⟨W.heap.size,0,none⟩))) (W.alloc (.cells cs t (0,0))):=by first|(go_simp;first|done|fail)|(go_simp;rfl)):wpList P ops Q (o::rest) a W:=
 a9U hgd hd hrun h
theorem cE (N:Tmp) {f:FuncId} {fn:Func} {ag:Array Operand} {ts:Array TypeId} (hf:P.funcs[f]? =some fn) (args:Array Value)
  (h:Calls P f args w fun e w'=>∃ v,e=.returned v/\wpList P ops Q rest (a.put (some N) v) w')
  (hop:oi.op=.call { callee:=.value (.func f),args:=ag,argTypes:=ts}:=by rfl) (hd:oi.dst=some N:=by rfl) (hg:oi.guard=none:=by rfl)
  (hname:(fn.name== "runtime.NumGoroutine")=false:=by kernel_rfl) (hb:fn.body.isSome=true:=by rfl)
  (hargs:ag.map a.eval=args:=by(try simp only[List.map_toArray,List.map_cons,List.map_nil]);first|done|rfl|(simp only[List.length_drop,List.length_take];rfl)):wpList P ops Q (oi::rest) a w:=
 baF (some N) hd hg hf hname hb args hop hargs h
end
section
variable {w w' w0 w1:World} {g g':Nat} {ob:Obj}
theorem gw (hg:g=w.heap.size) (H:aA (Below w0.heap.size w0 w1)) (p:Below w0.heap.size w0 w1->Below w0.heap.size w0 w:=by intro h_;(repeat(first|(with_reducible first|exact h_|apply PW|apply YV|apply sW|refine aCM ?_ (aA.out (by assumption)))|exact h_));first|done|fail):aA (w0.heap.size<=g):=⟨by rw[hg];exact dH (p H.out)⟩
theorem nl (hg:g=w.heap.size) (H:aA (w1.heap[g']? =some ob)) (p:Below w1.heap.size w1 w:=by(repeat(first|(with_reducible exact Below.refl _ _)|apply PW|apply YV|apply sW));first|done|fail):aA (g'≠g):=⟨by rw[hg];exact Nat.ne_of_lt (AO (fC H.out p))⟩
theorem ng (hg:g=w.heap.size) (H:aA (w1.heap[g']? =some ob)) (p:Below w1.heap.size w1 w:=by(repeat(first|(with_reducible exact Below.refl _ _)|apply PW|apply YV|apply sW));first|done|fail):aA (g≠g'):=⟨by rw[hg];exact Nat.ne_of_gt (AO (fC H.out p))⟩
theorem nL (hg:g=w.heap.size) (H:w.heap[g']? =some ob):aA (g'≠g):=⟨by rw[hg];exact Nat.ne_of_lt (AO H)⟩
theorem nG (hg:g=w.heap.size) (H:w.heap[g']? =some ob):aA (g≠g'):=⟨by rw[hg];exact Nat.ne_of_gt (AO H)⟩
theorem bs (H:aA (Below w0.heap.size w0 w1)) (hb:Below w.heap.size w w') (p:Below w0.heap.size w0 w1->Below w0.heap.size w0 w:=by intro h_;(repeat(first|(with_reducible first|exact h_|apply PW|apply YV|apply sW|refine aCM ?_ (aA.out (by assumption)))|exact h_));first|done|fail):aA (Below w0.heap.size w0 w'):=⟨a9T (p H.out) hb⟩
theorem kd {cells:Array Value} {t:TypeId} (H:aA (w.heap[g]? =some (.cells cells t (0,0)))) (i:Nat) (v:Value) (hv:cells[i]? =some v:=by rfl):w.cell? ⟨g,i,none⟩=some v:=(MC H.out i).trans hv
theorem bZ {cells:Array Value} {t:TypeId} (H:aA (w.heap[g]? =some (.cells cells t (0,0)))) (v u:Value) (hv:cells[0]? =some v:=by rfl) (hu:cells[1]? =some u:=by rfl):w.cell? ⟨g,0,none⟩=some v/\w.cell? ⟨g,1,none⟩=some u:=⟨(MC H.out 0).trans hv,(MC H.out 1).trans hu⟩
theorem xs {ad:Addr} {v:Value} (H:aA (Below w.heap.size w w')) (h:w.cell? ad=some v):w'.cell? ad=some v:=(H.out.cell (World.block_lt_of_cell? w _ h)).trans h
theorem od {p:Prop} [Decidable p] (h:decide p=true:=by first|(with_reducible assumption)|assumption):p:=of_decide_eq_true h
theorem eR {p:Prop} (H:aA (Below w0.heap.size w0 w1)) (h:p:=by first|rfl|(simp[iU,iV]<;>rfl)|(simp[*,iU,iV]<;>rfl)) (q:Below w0.heap.size w0 w1->Below w0.heap.size w0 w:=by intro h_;(repeat(first|(with_reducible first|exact h_|apply PW|apply YV|apply sW|refine aCM ?_ (aA.out (by assumption)))|exact h_));first|done|fail):p/\Below w0.heap.size w0 w:=⟨h,q H.out⟩
end
attribute [local go_sem] uA uB uC uD uM uN uO uP   -- for this text's walks alone
theorem aIZ (d:Nat) (w:World) (x0 y0:Int) (x1 y1:Int):
  (Op.equalIn (d+2) 42 (.agg #[.int .i64 x0,.int .i64 x1]) (.agg #[.int .i64 y0,.int .i64 y1])).run Tryd.prog w=.ok (x0==y0&&(x1==y1)) w:=by
 refine atJ Tryd.underlying42 (by kernel_rfl) ?_
 refine ae8 (by rfl) (by go_simp;rfl) (by go_simp;rfl) (by go_simp) ?_
 exact atI (by rfl) (by go_simp;rfl) (by go_simp;rfl) (by go_simp)
attribute [local go_sem] uA uB uC uD uM uN uO uP   -- for this text's walks alone
theorem bmM (d:Nat) (w:World) (x0 y0:Int) (x1 y1:Int):
  (Op.equalIn (d+2) 89 (.agg #[.int .i64 x0,.int .i64 x1]) (.agg #[.int .i64 y0,.int .i64 y1])).run Tryd.prog w=.ok (x0==y0&&(x1==y1)) w:=by
 refine atJ Tryd.underlying89 (by kernel_rfl) ?_
 refine ae8 (by rfl) (by go_simp;rfl) (by go_simp;rfl) (by go_simp) ?_
 exact atI (by rfl) (by go_simp;rfl) (by go_simp;rfl) (by go_simp)
attribute [local go_sem] uA uB uC uD uM uN uO uP   -- for this text's walks alone
theorem bmN (d:Nat) (w:World) (x0 y0:Int) (x1 y1:Int) (x2 y2:Int) (x3 y3:Int) (x4 y4:Int) (x5 y5:Bool):
  (Op.equalIn (d+3) 91 (.agg #[.int .i64 x0,.int .i64 x1,.int .i64 x2,.int .i64 x3,.int .i64 x4,.bool x5]) (.agg #[.int .i64 y0,.int .i64 y1,.int .i64 y2,.int .i64 y3,.int .i64 y4,.bool y5])).run Tryd.prog w=.ok (x0==y0&&((x1==y1&&(x2==y2))&&((x3==y3&&(x4==y4))&&(x5==y5)))) w:=by
 refine atJ Tryd.underlying91 (by kernel_rfl) ?_
 refine ae8 (by rfl) (by go_simp;rfl) (by go_simp;rfl) (by go_simp) ?_
 refine ae8 (by rfl) (by go_simp) (by go_simp) (aIZ (d+0) w _ _ _ _) ?_
 refine ae8 (by rfl) (by go_simp) (by go_simp) (aIZ (d+0) w _ _ _ _) ?_
 exact atI (by rfl) (by go_simp;rfl) (by go_simp;rfl) (by go_simp)
end Go.Proofs.YtcmfnebcmmklkaaDoor.Q
