/- What the laws of chapter 9 share: words about rows and regions, the walks of the package dozen, and that known returns true. Part 5 of 16. -/
import Derived.Test.YtcmfnebcmmklkaaDoorK3
import Derived.Test.YtcmfnebcmmklkaaDoorK2
set_option linter.unusedVariables false
set_option linter.unusedSimpArgs false
set_option maxRecDepth 100000
set_option maxHeartbeats 8000000
namespace Go.Proofs.YtcmfnebcmmklkaaDoor.Hand
open Go.RowKit Go.Shelf Go.Proofs.YtcmfnebcmmklkaaDoorW.dQ Go.Proofs.YtcmfnebcmmklkaaDoorW.gG
theorem info3:(Tryd.prog.info? 3).map (fun i=>(i.zero,i.size,i.bytes))=some (some (.int .i64 0),1,8):=by kernel_rfl
attribute [local go_sem] Oper.semAt_some
def eH (W:World) (n₀:Nat) (v:Value) (xs:List Int):Prop:=W.ownsRow n₀ 3 1 v xs.length (xs.map (Value.int .i64))
theorem eH.R {W:World} {n₀:Nat} {v:Value} {xs:List Int} (h:eH W n₀ v xs):Kd.R (Kd.int .i64) 3 W n₀ (fun _=>True) v xs:=by
 refine⟨fun _ _=>trivial,_,h,by show _=_*1;simp,fun j p hj=>?_⟩
 have:((xs.map (Value.int .i64)).drop (j*1)).take 1=[Value.int .i64 p]:=by
  have hl:j<xs.length:=(List.getElem?_eq_some_iff.1 hj).1
  have he:xs[j]=p:=(List.getElem?_eq_some_iff.1 hj).2
  rw[Nat.mul_one,List.drop_eq_getElem_cons (by simpa using hl)]
  simp[he]
 exact this
theorem eH.keep {W W':World} {n₀:Nat} {v:Value} {xs:List Int} (h:eH W n₀ v xs) (hk:∀ (k:Nat) (o:Obj),W.heap[k]? =some o->ad9 o=false->W'.heap[k]? =some o):eH W' n₀ v xs:=by
 refine⟨h.1,?_⟩
 rcases h.2 with h|⟨g,cap,cur,hv,hb,hg,r⟩
 ·exact .inl h
 ·exact .inr ⟨g,cap,cur,hv,hb,hk g _ hg rfl,r⟩
theorem eH.xW {B:Nat} {W W':World} {n₀:Nat} {v:Value} {xs:List Int} (h:eH W n₀ v xs) (hi:nM B W W'):eH W' n₀ v xs:=h.keep fun k o hk hb=>hi.keep k o hk (.inr hb)
theorem eH.ne {W:World} {n₀:Nat} {v:Value} {xs:List Int} (h:eH W n₀ v xs) {b:Nat} {vs:Array Value} {t:TypeId} (hb:Box W b vs t) (ht:t≠3):some b≠v.ownBlock:=by
 intro e
 rcases h.2 with⟨rfl,_⟩|⟨g,cap,cur,rfl,_,hg,_⟩
 ·cases e
 ·have:b=g:=by simpa[Value.ownBlock]using e
  subst this
  unfold Box at hb
  rw[hb]at hg
  cases hg
  exact ht rfl
theorem eH.far {W:World} {n₀:Nat} {v:Value} {xs:List Int} (h:eH W n₀ v xs) {b:Nat} {vs:Array Value} {t:TypeId} (hb:Box W b vs t) (ht:t≠3) (i:Nat) (u:Value):eH (W.setCell ⟨b,i,none⟩ u) n₀ v xs:=by
 have hne:=h.ne hb ht
 refine⟨h.1,?_⟩
 rcases h.2 with h|⟨g,cap,cur,rfl,hb,hg,r⟩
 ·exact .inl h
 ·refine .inr ⟨g,cap,cur,rfl,hb,?_,r⟩
  have:g≠b:=fun e=>hne (by simp[Value.ownBlock,e])
  exact(Below.heap_setCell W ⟨b,i,none⟩ u g this).trans hg
theorem iZ.grown {W W':World} {n₀:Nat} {v:Value} {xs:List Int} (h:eH W n₀ v xs) (hg:W.grownBy W' v.ownBlock):iZ W W':=fun k o hk ho=>by
 refine(hg.block k (lt_of_block hk) (fun e=>?_)).trans hk
 rcases h.2 with⟨rfl,_⟩|⟨g,cap,cur,rfl,_,hg',_⟩
 ·cases e
 ·have:k=g:=by simpa[Value.ownBlock]using e
  subst this
  rw[hk]at hg'
  cases hg'
  cases ho
theorem Box.grown {W W':World} {n₀:Nat} {v:Value} {xs:List Int} (h:eH W n₀ v xs) (hg:W.grownBy W' v.ownBlock) {b:Nat} {vs:Array Value} {t:TypeId} (hb:Box W b vs t) (ht:t≠3):Box W' b vs t:=
 (hg.block b hb.lt (h.ne hb ht)).trans hb
theorem eH.below {W W' w:World} {n₀:Nat} {v:Value} {xs:List Int} (h:eH W n₀ v xs) (hg:W.grownBy W' v.ownBlock) (hb:Below n₀ w W) (hn:n₀<=W.heap.size):Below n₀ w W':=by
 refine⟨hg.os.trans hb.os,hg.tape.trans hb.tape,hg.output.trans hb.output,Nat.le_trans hb.size hg.size,fun k hk=>?_⟩
 refine(hg.block k (by omega) (fun e=>?_)).trans (hb.block k hk)
 rcases h.2 with⟨rfl,_⟩|⟨g,cap,cur,rfl,hbg,_⟩
 ·cases e
 ·have:k=g:=by simpa[Value.ownBlock]using e
  omega
theorem eH.slice {W:World} {n₀:Nat} {v:Value} {xs:List Int} (h:eH W n₀ v xs):∃ A c,v=.slice A xs.length c:=by
 rcases h.2 with⟨rfl,h0⟩|⟨g,cap,cur,rfl,_⟩
 ·exact⟨none,0,by rw[h0]⟩
 ·exact⟨_,_,rfl⟩
def aKP:Obj->Bool
 |.loop _=>true
 |.deferred _=>true
 |.cells _ t _=>t==34
 |_=>false
theorem be7 {o:Obj} (h:ad9 o=true):aKP o=true:=by
 cases o<;>simp[ad9]at h<;>rfl
structure qK (B:Nat) (W W':World):Prop where
 size:W.heap.size<=W'.heap.size
 keep:∀ (k:Nat) (o:Obj),W.heap[k]? =some o->B<=k->aKP o=false->W'.heap[k]? =some o
theorem qK.refl (B:Nat) (W:World):qK B W W:=⟨Nat.le_refl _,fun _ _ h _ _=>h⟩
theorem qK.trans {B:Nat} {X Y Z:World} (h:qK B X Y) (k:qK B Y Z):qK B X Z:=⟨Nat.le_trans h.size k.size,fun i o hi hB ho=>k.keep i o (h.keep i o hi hB ho) hB ho⟩
theorem qK.putObj {B l:Nat} {W:World} {o:Obj} (hl:W.heap[l]? =some o) (hb:ad9 o=true) (o':Obj):qK B W (W.putObj l o'):=by
 refine⟨by simp,fun k p hk _ hp=>?_⟩
 by_cases e:k=l
 ·subst e
  rw[hl]at hk
  cases hk
  rw[be7 hb]at hp
  cases hp
 ·exact(World.putObj_heap_other e).trans hk
def aVO {α:Type} (P:Program) (g:Nat) (first lb:Array Value) (Enc:α->Array Value->World->Prop) (Inv:World->Prop) (St:World->World->Prop) (xs:List α):Prop:=
 ∀ (l:Nat) (J Jx:List α->World->Prop) (B:Nat) (W:World),B<=W.heap.size->Inv W->
  (∀ pre A B,J pre A->St A B->J pre B)->(∀ pre A B,Jx pre A->St A B->Jx pre B)->
  (∀ pre x args W1,J pre W1->Inv W1->pre++[x]<+:xs->Enc x args W1->YieldAt FW 0 P l args W1 fun e W'=>
   (e=.returned (.bool true)/\J (pre++[x]) W'/\Inv W'/\qK B W1 W')∨(e=.returned (.bool false)/\Jx (pre++[x]) W'))->
  J [] W->
  CallsIn FW 0 P g (first++#[.func (.yield l) #[] #[]]++lb) W fun e W'=>(∃ v,e=.returned v)/\((J xs W'/\Inv W')∨(∃ pre,pre<+:xs/\Jx pre W'))
def be8 {α:Type} (B:Nat) (Inv:World->Prop) (I:List α->World->Prop) (Ix:Code->List α->World->Prop) (xs:List α) (W:World):Exit->Act->World->Prop
 |.normal,_,W'=>iZ W W'/\qK B W W'/\Inv W'/\I xs W'
 |.ret,_,W'=>iZ W W'/\Ix .ret xs W'
 |.exit id,_,W'=>iZ W W'/\Ix (.exit id) xs W'
 |.goto t,_,W'=>iZ W W'/\Ix (.goto t) xs W'
 |.panic _,_,_=>False
 |.outgrown,_,_=>False
theorem be9 {α:Type} {P:Program} {g:Operand} {ps:Array Tmp} {assign body:Code} {Q:Exit->Act->World->Prop} {a:Act} {w:World}
  {gf:Nat} {first lb:Array Value} (hg:a.eval g=.func (.func gf) first lb) (eg:∀ args w,(callFunc gf args).run P w=.ok (.enter gf args) w)
  {Enc:α->Array Value->World->Prop} {Inv:World->Prop} {St:World->World->Prop} {xs:List α} (hit:aVO P gf first lb Enc Inv St xs)
  (hps:∀ x args W,Enc x args W->args.size=ps.size) (hInv:∀ A B,Inv A->nM w.heap.size A B->Inv B) (hSt:∀ A B,St A B->iZ A B)
  (I:List α->World->Prop) (Ix:Code->List α->World->Prop) (hI:∀ pre A B,I pre A->nM w.heap.size A B->I pre B) (hIs:∀ pre A B,I pre A->St A B->I pre B)
  (hIx:∀ c pre A B,Ix c pre A->nM w.heap.size A B->Ix c pre B) (auW:∀ c pre A B,Ix c pre A->St A B->Ix c pre B) (h0:I [] w) (hi0:Inv w)
  (Ax:α->Act->World->Prop) (hAx:∀ x a' A B,Ax x a' A->nM w.heap.size A B->Ax x a' B)
  (hassign:∀ (l:Nat) (pre:List α) (x:α) (args:Array Value) (W:World) (K:Act->World->Prop),I pre W->Inv W->pre++[x]<+:xs->Enc x args W->
   (∀ a' W',iZ W W'->qK w.heap.size W W'->I pre W'->Inv W'->Ax x a' W'->K a' W')->
   assign.wpIn (FW.inRound l) 0 P (Exit.then K (fun _ _ _=>False)) { tmps:=(ps.zip args).foldl (fun t (p,v)=>t.setIfInBounds p v) a.tmps,defers:=[]} W)
  (hbody:∀ (l:Nat) (pre:List α) (x:α) (a':Act) (W:World),w.heap.size<=l->(∃ r,W.heap[l]? =some (.loop r))->I pre W->Inv W->pre++[x]<+:xs->Ax x a' W->
   body.wpIn (FW.inRound l) 0 P (be8 w.heap.size Inv I Ix (pre++[x]) W) a' W)
  (hdone:∀ (D:Nat) (W:World),w.heap.size<=D->I xs W->Inv W->W.heap[D]? =some (.deferred (some []))->Q .normal { a with defers:={ target:=.collected D,args:=#[]}::a.defers} W)
  (hstop:∀ (D:Nat) (c:Code) (pre:List α) (W:World),w.heap.size<=D->pre<+:xs->Ix c pre W->W.heap[D]? =some (.deferred (some []))->c.wpIn FW 0 P Q { a with defers:={ target:=.collected D,args:=#[]}::a.defers} W):
  (Code.rangeFunc g ps assign body).wpIn FW 0 P Q a w:=by
 refine wpIn_rangeFunc ?_
 intro fn hfn
 obtain⟨rec,hrec⟩:∃ rec:LoopState->Option Code->Loop,rec=fun st pe=>{ state:=st,pending:=pe,fn,tmps:=a.tmps,params:=ps,assign,body,defers:=w.heap.size}:=⟨_,rfl⟩
 obtain⟨W1,hW1⟩:∃ W1,(w.alloc (.deferred (some []))).alloc (.loop (rec .ready none))=W1:=⟨_,rfl⟩
 have hL1:W1.heap[w.heap.size+1]? =some (.loop (rec .ready none)):=by
  rw[<-hW1];have:=World.alloc_heap_new (w.alloc (.deferred (some []))) (.loop (rec .ready none));rwa [World.size_alloc]at this
 have hK1:W1.heap[w.heap.size]? =some (.deferred (some [])):=by
  rw[<-hW1];exact(Below.heap_alloc _ _ _ (by simp)).trans (World.alloc_heap_new w _)
 have hI1:I [] W1:=by rw[<-hW1];exact hI _ _ _ (hI _ _ _ h0 (.alloc _ _ _)) (.alloc _ _ _)
 have hV1:Inv W1:=by rw[<-hW1];exact hInv _ _ (hInv _ _ hi0 (.alloc _ _ _)) (.alloc _ _ _)
 refine⟨w.heap.size+1,[{ target:=.collected w.heap.size,args:=#[]}],W1,{ target:=.fn (.func gf) lb,args:=first++#[.func (.yield (w.heap.size+1)) #[] #[]]},W1,gf,
  first++#[.func (.yield (w.heap.size+1)) #[] #[]]++lb,W1,?_,?_,?_,?_,fun h=>by simp[Fence.wide]at h,?_⟩
 ·rw[<-hW1,hrec];exact run_enterLoop_outer _ _ _ _ _
 ·simp only[resolve,hg]
  simp[go_sem]
 ·intro f' hf';trivial
 ·simp[invoke,go_sem,eg]
 ·refine(hit (w.heap.size+1)
   (fun pre W=>I pre W/\W.heap[w.heap.size+1]? =some (.loop (rec .ready none))/\W.heap[w.heap.size]? =some (.deferred (some [])))
   (fun pre W=>∃ c,Ix c pre W/\W.heap[w.heap.size+1]? =some (.loop (rec .done (some c)))/\W.heap[w.heap.size]? =some (.deferred (some [])))
   w.heap.size W1 (by rw[<-hW1];simp;omega) hV1
   (fun pre A B hs hst=>⟨hIs _ _ _ hs.1 hst,hSt _ _ hst _ _ hs.2.1 rfl,hSt _ _ hst _ _ hs.2.2 rfl⟩)
   (fun pre A B hs hst=>by
    obtain⟨c,hc,hl,hk⟩:=hs
    exact⟨c,auW _ _ _ _ hc hst,hSt _ _ hst _ _ hl rfl,hSt _ _ hst _ _ hk rfl⟩)
   ?_ ⟨hI1,hL1,hK1⟩).mono ?_
  ·rintro pre x args W ⟨hi,hl,hk⟩ hv hpre henc
   have hy:=run_yield (P:=P) (args:=args) hl (by rw[hrec];exact hps x args W henc)
   rw[hrec]at hy
   refine⟨fn,_,assign,body,hy,roundIn_of_wpIn hfn (hassign _ pre x args W _ hi hv hpre henc ?_)⟩
   clear hy
   intro a' Wa hkfa aVP hia hva hax
   replace hl:=hkfa _ _ hl rfl
   replace hk:=hkfa _ _ hk rfl
   replace hi:=hia
   replace hv:=hva
   clear hia hva hkfa henc
   obtain⟨W0,hW0⟩:∃ W0,W0=W:=⟨_,rfl⟩
   rw[<-hW0]at aVP
   rw[<-hW0]
   clear hW0 W
   obtain⟨W,rfl⟩:∃ W,W=Wa:=⟨_,rfl⟩
   have hlt:w.heap.size+1<W.heap.size:=lt_of_block hl
   refine⟨_,run_beginRound hl (by rw[hrec]),?_⟩
   have hl2:(W.putObj (w.heap.size+1) (.loop { rec .ready none with state:=.busy})).heap[w.heap.size+1]? =some (.loop { rec .ready none with state:=.busy}):=World.putObj_heap_same hlt
   have hk2:(W.putObj (w.heap.size+1) (.loop { rec .ready none with state:=.busy})).heap[w.heap.size]? =some (.deferred (some [])):=(World.putObj_heap_other (by omega)).trans hk
   have hin:nM w.heap.size W (W.putObj (w.heap.size+1) (.loop { rec .ready none with state:=.busy})):=.putObj hl (by omega) rfl
   refine wpIn_mono (hbody _ pre x a' _ (by omega) ⟨_,hl2⟩ (hI _ _ _ hi hin) (hInv _ _ hv hin) hpre (hAx _ _ _ _ hax hin)) ?_
   have fin:∀ (jump:Option Code) (W3:World),iZ (W.putObj (w.heap.size+1) (.loop { rec .ready none with state:=.busy})) W3->
     (Instr.endRound (w.heap.size+1) jump).run P W3=.ok (.bool jump.isNone) (W3.putObj (w.heap.size+1) (.loop (rec (if jump.isNone then .ready else .done) jump)))/\
     W3.heap[w.heap.size+1]? =some (.loop { rec .ready none with state:=.busy})/\
     (W3.putObj (w.heap.size+1) (.loop (rec (if jump.isNone then .ready else .done) jump))).heap[w.heap.size+1]? =some (.loop (rec (if jump.isNone then .ready else .done) jump))/\
     (W3.putObj (w.heap.size+1) (.loop (rec (if jump.isNone then .ready else .done) jump))).heap[w.heap.size]? =some (.deferred (some [])):=fun jump W3 hk3=>by
    have hl3:=hk3 _ _ hl2 rfl
    have:=run_endRound (P:=P) jump hl3
    rw[hrec]at this ⊢
    exact⟨this,by rw[hrec]at hl3;exact hl3,World.putObj_heap_same (lt_of_block hl3),(World.putObj_heap_other (by omega)).trans (hk3 _ _ hk2 rfl)⟩
   rintro e a3 W3 hp
   cases e with
   |normal=>
    obtain⟨hk3,hf3,hv3,hi3⟩:=hp
    obtain⟨hr,hl3,hl4,hk4⟩:=fin none W3 hk3
    exact⟨_,_,hr,.inl ⟨rfl,⟨hI _ _ _ hi3 (.putObj hl3 (Nat.le_succ _) rfl),hl4,hk4⟩,hInv _ _ hv3 (.putObj hl3 (Nat.le_succ _) rfl),aVP.trans ((qK.putObj hl rfl _).trans (hf3.trans (qK.putObj hl3 rfl _)))⟩⟩
   |ret=>
    obtain⟨hk3,hi3⟩:=hp
    obtain⟨hr,hl3,hl4,hk4⟩:=fin (some .ret) W3 hk3
    exact⟨_,_,hr,.inr ⟨rfl,.ret,hIx _ _ _ _ hi3 (.putObj hl3 (Nat.le_succ _) rfl),hl4,hk4⟩⟩
   |exit id=>
    obtain⟨hk3,hi3⟩:=hp
    obtain⟨hr,hl3,hl4,hk4⟩:=fin (some (.exit id)) W3 hk3
    exact⟨_,_,hr,.inr ⟨rfl,.exit id,hIx _ _ _ _ hi3 (.putObj hl3 (Nat.le_succ _) rfl),hl4,hk4⟩⟩
   |goto t=>
    obtain⟨hk3,hi3⟩:=hp
    obtain⟨hr,hl3,hl4,hk4⟩:=fin (some (.goto t)) W3 hk3
    exact⟨_,_,hr,.inr ⟨rfl,.goto t,hIx _ _ _ _ hi3 (.putObj hl3 (Nat.le_succ _) rfl),hl4,hk4⟩⟩
   |panic ch=>exact hp.elim
   |outgrown=>exact hp.elim
  ·rintro e W2 ⟨⟨v,rfl⟩,(⟨⟨hi,hl,hk⟩,hv⟩|⟨pre,hSp,c,hi,hl,hk⟩)⟩
   ·exact⟨none,_,by have:=run_endLoop (P:=P) hl (by rw[hrec];simp);rw[hrec]at this;exact this,hdone _ _ (Nat.le_refl _) (hI _ _ _ hi (.putObj hl (Nat.le_succ _) rfl)) (hInv _ _ hv (.putObj hl (Nat.le_succ _) rfl)) ((World.putObj_heap_other (by omega)).trans hk)⟩
   ·exact⟨some c,_,by have:=run_endLoop (P:=P) hl (by rw[hrec];simp);rw[hrec]at this;exact this,hstop _ c pre _ (Nat.le_refl _) hSp (hIx _ _ _ _ hi (.putObj hl (Nat.le_succ _) rfl)) ((World.putObj_heap_other (by omega)).trans hk)⟩
theorem bfA {α:Type} {P:Program} {g:Operand} {ps:Array Tmp} {assign body:Code} {Q:Exit->Act->World->Prop} {a:Act} {w:World} {lo:Nat} {r₀:Loop} (hl₀:w.heap[lo]? =some (.loop r₀))
  {gf:Nat} {first lb:Array Value} (hg:a.eval g=.func (.func gf) first lb) (eg:∀ args w,(callFunc gf args).run P w=.ok (.enter gf args) w)
  {Enc:α->Array Value->World->Prop} {Inv:World->Prop} {St:World->World->Prop} {xs:List α} (hit:Iter P gf first lb Enc Inv St xs)
  (hps:∀ x args W,Enc x args W->args.size=ps.size) (hInv:∀ A B,Inv A->nM w.heap.size A B->Inv B) (hSt:∀ A B,St A B->iZ A B)
  (I:List α->World->Prop) (Ix:Code->List α->World->Prop) (hI:∀ pre A B,I pre A->nM w.heap.size A B->I pre B) (hIs:∀ pre A B,I pre A->St A B->I pre B)
  (hIx:∀ c pre A B,Ix c pre A->nM w.heap.size A B->Ix c pre B) (auW:∀ c pre A B,Ix c pre A->St A B->Ix c pre B) (h0:I [] w) (hi0:Inv w)
  (Ax:α->Act->World->Prop) (hAx:∀ x a' A B,Ax x a' A->nM w.heap.size A B->Ax x a' B)
  (hassign:∀ (l:Nat) (pre:List α) (x:α) (args:Array Value) (W:World) (K:Act->World->Prop),I pre W->Inv W->pre++[x]<+:xs->Enc x args W->
   (∀ a' W',iZ W W'->I pre W'->Inv W'->Ax x a' W'->K a' W')->
   assign.wpIn (FW.inRound l) 0 P (Exit.then K (fun _ _ _=>False)) { tmps:=(ps.zip args).foldl (fun t (p,v)=>t.setIfInBounds p v) a.tmps,defers:=[]} W)
  (hbody:∀ (l:Nat) (pre:List α) (x:α) (a':Act) (W:World),w.heap.size<=l->(∃ r,W.heap[l]? =some (.loop r))->I pre W->Inv W->pre++[x]<+:xs->Ax x a' W->
   body.wpIn (FW.inRound l) 0 P (aVL Inv I Ix (pre++[x]) W) a' W)
  (hdone:∀ (W:World),I xs W->Inv W->Q .normal a W)
  (hstop:∀ (c:Code) (pre:List α) (W:World),pre<+:xs->Ix c pre W->c.wpIn (FW.inRound lo) 0 P Q a W):
  (Code.rangeFunc g ps assign body).wpIn (FW.inRound lo) 0 P Q a w:=by
 refine wpIn_rangeFunc ?_
 intro fn hfn
 obtain⟨rec,hrec⟩:∃ rec:LoopState->Option Code->Loop,rec=fun st pe=>{ state:=st,pending:=pe,fn,tmps:=a.tmps,params:=ps,assign,body,defers:=r₀.defers}:=⟨_,rfl⟩
 obtain⟨W1,hW1⟩:∃ W1,w.alloc (.loop (rec .ready none))=W1:=⟨_,rfl⟩
 have hL1:W1.heap[w.heap.size]? =some (.loop (rec .ready none)):=by rw[<-hW1];exact World.alloc_heap_new w _
 have hI1:I [] W1:=by rw[<-hW1];exact hI _ _ _ h0 (.alloc _ _ _)
 have hV1:Inv W1:=by rw[<-hW1];exact hInv _ _ hi0 (.alloc _ _ _)
 refine⟨w.heap.size,[],W1,{ target:=.fn (.func gf) lb,args:=first++#[.func (.yield (w.heap.size)) #[] #[]]},W1,gf,
  first++#[.func (.yield (w.heap.size)) #[] #[]]++lb,W1,?_,?_,?_,?_,fun h=>by simp[Fence.wide,Fence.inRound]at h,?_⟩
 ·rw[<-hW1,hrec];exact run_enterLoop_inner hl₀ _ _ _ _ _
 ·simp only[resolve,hg]
  simp[go_sem]
 ·intro f' hf';trivial
 ·simp[invoke,go_sem,eg]
 ·refine(hit (w.heap.size)
   (fun pre W=>I pre W/\W.heap[w.heap.size]? =some (.loop (rec .ready none)))
   (fun pre W=>∃ c,Ix c pre W/\W.heap[w.heap.size]? =some (.loop (rec .done (some c))))
   W1 hV1
   (fun pre A B hs hst=>⟨hIs _ _ _ hs.1 hst,hSt _ _ hst _ _ hs.2 rfl⟩)
   (fun pre A B hs hst=>by
    obtain⟨c,hc,hl⟩:=hs
    exact⟨c,auW _ _ _ _ hc hst,hSt _ _ hst _ _ hl rfl⟩)
   ?_ ⟨hI1,hL1⟩).mono ?_
  ·rintro pre x args W ⟨hi,hl⟩ hv hpre henc
   have hy:=run_yield (P:=P) (args:=args) hl (by rw[hrec];exact hps x args W henc)
   rw[hrec]at hy
   refine⟨fn,_,assign,body,hy,roundIn_of_wpIn hfn (hassign _ pre x args W _ hi hv hpre henc ?_)⟩
   clear hy
   intro a' Wa hkfa hia hva hax
   replace hl:=hkfa _ _ hl rfl
   replace hi:=hia
   replace hv:=hva
   clear hia hva hkfa henc W
   obtain⟨W,rfl⟩:∃ W,W=Wa:=⟨_,rfl⟩
   have hlt:w.heap.size<W.heap.size:=lt_of_block hl
   refine⟨_,run_beginRound hl (by rw[hrec]),?_⟩
   have hl2:(W.putObj (w.heap.size) (.loop { rec .ready none with state:=.busy})).heap[w.heap.size]? =some (.loop { rec .ready none with state:=.busy}):=World.putObj_heap_same hlt
   have hin:nM w.heap.size W (W.putObj (w.heap.size) (.loop { rec .ready none with state:=.busy})):=.putObj hl (by omega) rfl
   refine wpIn_mono (hbody _ pre x a' _ (by omega) ⟨_,hl2⟩ (hI _ _ _ hi hin) (hInv _ _ hv hin) hpre (hAx _ _ _ _ hax hin)) ?_
   have fin:∀ (jump:Option Code) (W3:World),iZ (W.putObj (w.heap.size) (.loop { rec .ready none with state:=.busy})) W3->
     (Instr.endRound (w.heap.size) jump).run P W3=.ok (.bool jump.isNone) (W3.putObj (w.heap.size) (.loop (rec (if jump.isNone then .ready else .done) jump)))/\
     W3.heap[w.heap.size]? =some (.loop { rec .ready none with state:=.busy})/\
     (W3.putObj (w.heap.size) (.loop (rec (if jump.isNone then .ready else .done) jump))).heap[w.heap.size]? =some (.loop (rec (if jump.isNone then .ready else .done) jump)):=fun jump W3 hk3=>by
    have hl3:=hk3 _ _ hl2 rfl
    have:=run_endRound (P:=P) jump hl3
    rw[hrec]at this ⊢
    exact⟨this,by rw[hrec]at hl3;exact hl3,World.putObj_heap_same (lt_of_block hl3)⟩
   rintro e a3 W3 hp
   cases e with
   |normal=>
    obtain⟨hk3,hv3,hi3⟩:=hp
    obtain⟨hr,hl3,hl4⟩:=fin none W3 hk3
    exact⟨_,_,hr,.inl ⟨rfl,⟨hI _ _ _ hi3 (.putObj hl3 (Nat.le_refl _) rfl),hl4⟩,hInv _ _ hv3 (.putObj hl3 (Nat.le_refl _) rfl)⟩⟩
   |ret=>
    obtain⟨hk3,hi3⟩:=hp
    obtain⟨hr,hl3,hl4⟩:=fin (some .ret) W3 hk3
    exact⟨_,_,hr,.inr ⟨rfl,.ret,hIx _ _ _ _ hi3 (.putObj hl3 (Nat.le_refl _) rfl),hl4⟩⟩
   |exit id=>
    obtain⟨hk3,hi3⟩:=hp
    obtain⟨hr,hl3,hl4⟩:=fin (some (.exit id)) W3 hk3
    exact⟨_,_,hr,.inr ⟨rfl,.exit id,hIx _ _ _ _ hi3 (.putObj hl3 (Nat.le_refl _) rfl),hl4⟩⟩
   |goto t=>
    obtain⟨hk3,hi3⟩:=hp
    obtain⟨hr,hl3,hl4⟩:=fin (some (.goto t)) W3 hk3
    exact⟨_,_,hr,.inr ⟨rfl,.goto t,hIx _ _ _ _ hi3 (.putObj hl3 (Nat.le_refl _) rfl),hl4⟩⟩
   |panic ch=>exact hp.elim
   |outgrown=>exact hp.elim
  ·rintro e W2 ⟨⟨v,rfl⟩,(⟨⟨hi,hl⟩,hv⟩|⟨pre,hSp,c,hi,hl⟩)⟩
   ·exact⟨none,_,by have:=run_endLoop (P:=P) hl (by rw[hrec];simp);rw[hrec]at this;exact this,hdone _ (hI _ _ _ hi (.putObj hl (Nat.le_refl _) rfl)) (hInv _ _ hv (.putObj hl (Nat.le_refl _) rfl))⟩
   ·exact⟨some c,_,by have:=run_endLoop (P:=P) hl (by rw[hrec];simp);rw[hrec]at this;exact this,hstop c pre _ hSp (hIx _ _ _ _ hi (.putObj hl (Nat.le_refl _) rfl))⟩
theorem eH.below' {W W':World} {n₀:Nat} {v:Value} {xs:List Int} (h:eH W n₀ v xs) (hb:Below W.heap.size W W'):eH W' n₀ v xs:=by
 refine⟨h.1,?_⟩
 rcases h.2 with h|⟨g,cap,cur,hv,hbg,hg,r⟩
 ·exact .inl h
 ·exact .inr ⟨g,cap,cur,hv,hbg,(hb.block g (lt_of_block hg)).trans hg,r⟩
theorem eH.lower {W:World} {n m:Nat} {v:Value} {xs:List Int} (h:eH W n v xs) (hm:m<=n):eH W m v xs:=by
 refine⟨h.1,?_⟩
 rcases h.2 with h|⟨g,cap,cur,hv,hbg,r⟩
 ·exact .inl h
 ·exact .inr ⟨g,cap,cur,hv,by omega,r⟩
attribute [local go_sem] Oper.semAt_some
theorem iZ.xW {B:Nat} {W X Y:World} (h:iZ W X) (hi:nM B X Y) (hB:W.heap.size<=B):iZ W Y:=fun k o hk ho=>hi.keep k o (h k o hk ho) (.inl (by have:=lt_of_block hk;omega))
def rZ (F:Fence) (ops:Array Oper):Prop:=∀ (i:Nat) (o:Oper),ops[i]? =some o->∀ ρ,Oper.semAt F.round ρ o=execOp ρ o
theorem rZ.of {F:Fence} {l:List Oper} (h:aVN l=true):rZ F l.toArray:=fun i o ho ρ=>Oper.semAt_eq _ _ _ (beV h (List.mem_of_getElem? (by simpa using ho)))
section
variable {F:Fence} {m:Nat} {P:Program} {ops:Array Oper} {Q:Exit->Act->World->Prop} {md:Region.Mode} {C:World->Prop}
def TZ (P:Program) (ops:Array Oper) (C:World->Prop) (o:Oper) (v:Value) (a:Act):Prop:=
 ((Region.wanted o (yielded ops a.tmps)=true/\∀ w,C w->(execOp a.eval o).run P w=.ok (.value v) w)∨(Region.wanted o (yielded ops a.tmps)=false/\v=undef))/\∀ w,o.about P w a.eval=none
theorem TZ.wpOpIn {i:Nat} {o:Oper} {v:Value} {a:Act} (hro:rZ F ops) (hi:ops[i]? =some o) (hy:TZ P ops C o v a)
  {K:Act->World->Prop} {w:World} (hw:C w) (h:K (a.put o.dst v) w):wpOpIn F m P ops Q i K a w:=by
 unfold Go.wpOpIn
 simp only[hi]
 have hab:∀ f,o.about P w a.eval=some f->F.fn f:=fun f hf=>by rw[hy.2 w]at hf;cases hf
 rcases hy.1 with⟨hw',hv⟩|⟨hw',rfl⟩
 ·simp only[hw',if_true,Oper.wpIn,hro _ _ hi,hv w hw,Oper.uponIn];exact⟨hab,h⟩
 ·simp only[hw',Bool.false_eq_true,if_false];exact⟨hab,h⟩
theorem TZ.of_same {o:Oper} {v:Value} {a a':Act} (hy:TZ P ops C o v a) (he:execOp a'.eval o=execOp a.eval o)
  (hw:Region.wanted o (yielded ops a'.tmps)=Region.wanted o (yielded ops a.tmps)) (hb:∀ w,o.about P w a'.eval=o.about P w a.eval):TZ P ops C o v a':=by
 unfold TZ at*
 rw[he,hw]
 exact⟨hy.1,fun w=>by rw[hb w];exact hy.2 w⟩
theorem bfB {j:Nat} {oi oj:Oper} {v:Value} (hro:rZ F ops) (hj:ops[j]? =some oj) (hap:oi.apart ops oj=true)
  (hsi:∀ cs b,oi.op≠.select cs b) (hsj:∀ cs b,oj.op≠.select cs b)
  (hQ:∀ c a w,Q (.panic c) (a.put oi.dst v) w->Q (.panic c) a w) {K:Act->World->Prop} {a:Act} {w:World}
  (hy:TZ P ops C oi v a) (h:wpOpIn F m P ops Q j K (a.put oi.dst v) w):
  wpOpIn F m P ops Q j (fun a' w'=>TZ P ops C oi v a'/\K (a'.put oi.dst v) w') a w:=by
 obtain⟨h1,h2,h3⟩:=Oper.apart_spec hap
 have keep:∀ (a:Act),TZ P ops C oi v a->∀ u,TZ P ops C oi v (a.put oj.dst u):=fun a hy u=>
  hy.of_same (execOp_put oi hsi a oj.dst u h3) (wanted_put oi a oj.dst u h3) (fun w=>about_put oi w a oj.dst u h3)
 have keepD:∀ d,TZ P ops C oi v { a with defers:=d::a.defers}:=fun d=>hy.of_same rfl rfl (fun _=>rfl)
 have hrj:=hro _ _ hj
 clear hro
 unfold wpOpIn at*
 simp only[hj]at*
 rw[wanted_put oj a oi.dst v h1,about_put oj w a oi.dst v h1]at h
 split
 ·rename_i hw
  simp only[hw,if_true]at h
  unfold Oper.wpIn at*
  rw[about_put oj w a oi.dst v h1]at h
  refine⟨h.1,?_⟩
  have h:=h.2
  rw[hrj,execOp_put oj hsj a oi.dst v h1]at h
  rw[hrj]
  generalize (execOp a.eval oj).run P w=r at*
  cases r with
  |ok x w'=>
   cases x<;>simp only[Oper.uponIn]at h ⊢
   case value u=>exact⟨keep a hy u,by rw[<-Act.put_comm a v u h2];exact h⟩
   case skip=>exact⟨keep a hy _,by rw[<-Act.put_comm a v undef h2];exact h⟩
   case defer d=>
    refine⟨keep _ (keepD d) _,?_⟩
    rw[<-Act.put_comm _ v undef h2,<-Act.put_defers]
    exact h
   case enter f args=>
    refine⟨h.1,CallsIn.mono h.2 fun e w'' he=>?_⟩
    cases e with
    |returned u=>exact⟨keep a hy u,by rw[<-Act.put_comm a v u h2];exact he⟩
    |panicked c=>exact hQ _ _ _ he
    |outgrown=>exact he
   case row row args=>exact⟨h.1,RowsIn.mono h.2 fun u w'' he=>⟨keep a hy u,by rw[<-Act.put_comm a v u h2];exact he⟩⟩
   case round l f tmps assign body=>
    refine⟨h.1,RoundIn.mono h.2 fun e w'' he=>?_⟩
    cases e with
    |returned u=>exact⟨keep a hy u,by rw[<-Act.put_comm a v u h2];exact he⟩
    |panicked c=>exact hQ _ _ _ he
    |outgrown=>exact he
  |halt x w'=>
   cases x<;>simp only[Oper.uponIn]at h ⊢
   case panic u=>exact hQ _ _ _ h
 ·rename_i hw
  simp only[hw]at h
  exact⟨h.1,keep a hy _,by rw[<-Act.put_comm a v undef h2];exact h.2⟩
def abN (F:Fence) (m:Nat) (P:Program) (md:Region.Mode) (ops:Array Oper) (Q:Exit->Act->World->Prop) (C:World->Prop) (n:Nat) (L:Array Bool->Act->World->Prop):Nat->Array Bool->Act->World->Prop
 |0,listed,a,w=>L listed a w
 |f+1,listed,a,w=>
  Region.ready md ops listed≠[]/\∀ i∈Region.ready md ops listed,i<n/\wpOpIn F m P ops Q i (fun a' w'=>C w'/\abN F m P md ops Q C n L f (listed.setIfInBounds i true) a' w') a w
theorem auY {n g:Nat} {L:Array Bool->Act->World->Prop} (hL:∀ listed a w,L listed a w->wpAnyIn F m P md ops Q g listed a w):
  ∀ (f:Nat) (listed:Array Bool) (a:Act) (w:World),abN F m P md ops Q C n L f listed a w->wpAnyIn F m P md ops Q (f+g) listed a w
 |0,listed,a,w,h=>by rw[Nat.zero_add];exact hL _ _ _ h
 |f+1,listed,a,w,h=>by
  rw[show f+1+g=(f+g)+1 by omega]
  exact⟨fun h0=>absurd h0 h.1,fun i hi=>wpOpIn_mono (fun a' w' h'=>auY hL f _ a' w' h'.2) (h.2 i hi).2⟩
theorem aDV {n i:Nat} {oi:Oper} {v:Value} {L:Array Bool->Act->World->Prop} (hro:rZ F ops) (hi:ops[i]? =some oi) (hsel:∀ (j:Nat) (o:Oper) cs b,ops[j]? =some o->o.op≠.select cs b)
  (hs:Region.sinkB md ops n=true) (hc:Region.chainB md ops n=true) (hn:n<ops.size) (hin:i<n) (hQ:∀ c a w,Q (.panic c) (a.put oi.dst v) w->Q (.panic c) a w)
  (hdone:∀ listed a w,L listed a w->∀ j∈Region.ready md ops listed,n<=j):
  ∀ (f:Nat) (listed:Array Bool) (a:Act) (w:World),HeadInv md ops n listed->
   (∀ j oj,ops[j]? =some oj->j≠i->listed.getD j true=false->(∀ e∈oj.after,Region.binds md e=true->e.on≠i)->oi.apart ops oj=true)->
   i∈Region.ready md ops listed->C w->TZ P ops C oi v a->
   abN F m P md ops Q C n L f (listed.setIfInBounds i true) (a.put oi.dst v) w->abN F m P md ops Q C n L (f+1) listed a w:=by
 intro f
 induction f with
 |zero=>
  intro listed a w inv _ hr hC hy H
  have hun:=(mem_ready.1 hr).1
  refine⟨fun h=>(by rw[h]at hr;cases hr),fun j hj=>?_⟩
  have hjn:j<n:=by
   rcases Nat.lt_or_ge j n with h|h
   ·exact h
   ·exact absurd hj (tail_waits hs hc hn inv _ i rfl hin hun j h)
  refine⟨hjn,?_⟩
  by_cases hji:j=i
  ·subst hji;exact hy.wpOpIn hro hi hC ⟨hC,H⟩
  ·have:=hdone _ _ _ H j (ready_mono hj hji)
   omega
 |succ f ih=>
  intro listed a w inv hfree hr hC hy H
  have hun:=(mem_ready.1 hr).1
  refine⟨fun h=>(by rw[h]at hr;cases hr),fun j hj=>?_⟩
  have hjn:j<n:=by
   rcases Nat.lt_or_ge j n with h|h
   ·exact h
   ·exact absurd hj (tail_waits hs hc hn inv _ i rfl hin hun j h)
  refine⟨hjn,?_⟩
  by_cases hji:j=i
  ·subst hji;exact hy.wpOpIn hro hi hC ⟨hC,H⟩
  ·have h1:=(H.2 j (ready_mono hj hji)).2
   obtain⟨hjun,oj,hoj,hall⟩:=mem_ready.1 hj
   have hnot:∀ e∈oj.after,Region.binds md e=true->e.on≠i:=fun e he hb heq=>by
    have h1:=hall e he hb
    rw[heq,getD_both hun]at h1
    cases h1
   have h2:=bfB hro hoj (hfree j oj hoj hji hjun hnot) (fun cs b=>hsel i oi cs b hi) (fun cs b=>hsel j oj cs b hoj) hQ hy h1
   have hfree':∀ k ok,ops[k]? =some ok->k≠i->(listed.setIfInBounds j true).getD k true=false->
     (∀ e∈ok.after,Region.binds md e=true->e.on≠i)->oi.apart ops ok=true:=fun k ok hk hki hun hno=>by
    refine hfree k ok hk hki ?_ hno
    by_cases hjk:j=k
    ·subst hjk;exact hjun
    ·rw[getD_set_ne true hjk]at hun;exact hun
   refine wpOpIn_mono (fun a' w' h3=>⟨h3.2.1,ih (listed.setIfInBounds j true) a' w' (inv.set hj hjn) hfree' (ready_mono hr (Ne.symm hji)) h3.2.1 h3.1 ?_⟩) h2
   rw[Array.setIfInBounds_comm _ _ hji]
   exact h3.2.2
def afO (F:Fence) (m:Nat) (P:Program) (ops:Array Oper) (Q:Exit->Act->World->Prop) (C:World->Prop) (Lq:Act->World->Prop):List (Nat×Bool)->Act->World->Prop
 |[],a,w=>Lq a w
 |(i,true)::π,a,w=>∃ o v,ops[i]? =some o/\TZ P ops C o v a/\afO F m P ops Q C Lq π (a.put o.dst v) w
 |(i,false)::π,a,w=>wpOpIn F m P ops Q i (fun a' w'=>C w'/\afO F m P ops Q C Lq π a' w') a w
def headB (md:Region.Mode) (ops:Array Oper) (n g:Nat):List (Nat×Bool)->Array Bool->Bool
 |[],listed=>Region.seqB md ops g n listed
 |(i,true)::π,listed=>decide (i<n)&&(Region.ready md ops listed).contains i&&Region.free md ops listed i&&headB md ops n g π (listed.setIfInBounds i true)
 |(i,false)::π,listed=>decide (i<n)&&decide (Region.ready md ops listed=[i])&&headB md ops n g π (listed.setIfInBounds i true)
theorem aKQ {n g:Nat} {Lq:Act->World->Prop} (hro:rZ F ops) (hsel:Region.noSelect ops=true) (hs:Region.sinkB md ops n=true) (hc:Region.chainB md ops n=true) (hn:n<ops.size)
  (hQ:∀ c a d v w,Q (.panic c) (a.put d v) w->Q (.panic c) a w):
  ∀ (π:List (Nat×Bool)) (listed:Array Bool) (a:Act) (w:World),HeadInv md ops n listed->headB md ops n g π listed=true->C w->afO F m P ops Q C Lq π a w->
  abN F m P md ops Q C n (fun listed' a' w'=>Region.seqB md ops g n listed'=true/\Lq a' w') π.length listed a w
 |[],listed,a,w,inv,hB,hC,h=>⟨hB,h⟩
 |(i,true)::π,listed,a,w,inv,hB,hC,h=>by
  obtain⟨o,v,ho,hy,h⟩:=h
  simp only[headB,Bool.and_eq_true,decide_eq_true_eq]at hB
  obtain⟨⟨⟨hin,hr⟩,hf⟩,hB'⟩:=hB
  have hr':i∈Region.ready md ops listed:=by simpa using hr
  exact aDV hro ho (Region.noSelect_spec hsel) hs hc hn hin (fun c a w=>hQ c a _ v w) (fun listed' a' w' hL=>seqB_ready hL.1) π.length listed a w inv (Region.free_spec ho hf) hr' hC hy
   (aKQ hro hsel hs hc hn hQ π _ _ w (inv.set hr' hin) hB' hC h)
 |(i,false)::π,listed,a,w,inv,hB,hC,h=>by
  simp only[headB,Bool.and_eq_true,decide_eq_true_eq]at hB
  obtain⟨⟨hin,hr⟩,hB'⟩:=hB
  have hr':i∈Region.ready md ops listed:=by rw[hr];simp
  refine⟨fun h0=>(by rw[h0]at hr;cases hr),fun j hj=>?_⟩
  rw[hr]at hj
  obtain rfl:j=i:=by simpa using hj
  exact⟨hin,wpOpIn_mono (fun a' w' h'=>⟨h'.1,aKQ hro hsel hs hc hn hQ π _ a' w' (inv.set hr' hin) hB' h'.1 h'.2⟩) h⟩
theorem auZ {Q':Exit->Act->World->Prop}:∀ (l:List Oper) (k:Nat) (listed:Array Bool) (a:Act) (w:World),(∀ j,l[j]? =ops[k+j]?)->
  Region.seqB md ops l.length k listed=true->wpListIn F m P ops Q' l a w->wpAnyIn F m P md ops Q' l.length listed a w
 |[],_,_,_,_,_,hB,h=>⟨by simpa[Region.seqB]using hB,h⟩
 |o::l,k,listed,a,w,hl,hB,h=>by
  have h0:ops[k]? =some o:=by simpa using(hl 0).symm
  simp only[List.length_cons,Region.seqB,Bool.and_eq_true,decide_eq_true_eq]at hB
  refine⟨fun h1=>(by rw[hB.1]at h1;cases h1),fun i hi=>?_⟩
  rw[hB.1]at hi
  have hik:i=k:=by simpa using hi
  subst hik
  have hw:wpOpIn F m P ops Q' i (wpListIn F m P ops Q' l) a w:=by unfold wpOpIn;simp only[h0];exact h
  exact wpOpIn_mono (fun a' w' h'=>auZ l (i+1) _ a' w' (fun j=>by have:=hl (j+1);simpa[Nat.add_assoc,Nat.add_comm 1 j]using this) hB.2 h') hw
def aKR (md:Region.Mode) (ops:Array Oper) (n:Nat) (π:List (Nat×Bool)):Bool:=
 Region.noSelect ops&&decide (n<ops.size)&&Region.sinkB md ops n&&Region.chainB md ops n&&headB md ops n (ops.size - n) π (Array.replicate ops.size false)&&(π.length==n)
theorem bfC {id:Nat} {a:Act} {w:World} {l:List Oper} (n:Nat) (π:List (Nat×Bool)) (C:World->Prop) (hro:rZ F l.toArray) (hm:P.follows .mixedOrders=true) (hQ:∀ c a d v w,Q (.panic c) (a.put d v) w->Q (.panic c) a w) (hB:aKR .any l.toArray n π=true) (hC:C w.drew)
  (h:afO F m P l.toArray Q C (wpListIn F m P l.toArray Q (l.drop n)) π a w.drew):(Code.region id l.toArray true).wpIn F m P Q a w:=by
 simp only[aKR,Bool.and_eq_true,decide_eq_true_eq,beq_iff_eq]at hB
 obtain⟨⟨⟨⟨⟨hsel,hn⟩,hs⟩,hc⟩,hhead⟩,hlen⟩:=hB
 have hn':n<l.length:=by simpa using hn
 have hdl:(l.drop n).length=l.toArray.size - n:=by simp
 have inv0:HeadInv .any l.toArray n (Array.replicate l.toArray.size false):=
  ⟨by simp,fun j oj _ hl=>(by rw[getD_replicate_false]at hl;cases hl),fun t _ ht=>getD_in (by simpa using ht) (getD_replicate_false _ _)⟩
 have H:=aKQ (md:=.any) (g:=l.toArray.size - n) hro hsel hs hc hn hQ π _ a w.drew inv0 hhead hC h
 refine wpIn_region_any hm ?_
 have:=auY (Q:=Q) (g:=l.toArray.size - n) (fun listed a' w' hL=>by
  have:=auZ (md:=.any) (Q':=Q) (l.drop n) n listed a' w' (fun j=>by simp[List.getElem?_drop]) (by rw[hdl];exact hL.1) hL.2
  rwa [hdl]at this) _ _ _ _ H
 rw[hlen,show n+(l.toArray.size - n)=l.toArray.size by omega]at this
 exact this
def afP (o:Oper) (a:Act) (w:World) (K:Value->Act->Prop):Result Next->Prop
 |.ok (.value v) w'=>w'=w/\K v (a.put o.dst v)
 |_=>False
theorem bfD (o:Oper) (a:Act) (w:World) (K:Value->Act->Prop) (v:Value):afP o a w K (.ok (.value v) w)=K v (a.put o.dst v):=by simp[afP]
theorem FD {Lq:Act->World->Prop} {i:Nat} {o:Oper} {π:List (Nat×Bool)} {a a':Act} {w:World} {v:Value} (ho:ops[i]? =some o) (hab:∀ w,o.about P w a.eval=none) (hC:C w)
  (h:∀ K:Value->Act->Prop,K v a'->∀ w',C w'->if Region.wanted o (yielded ops a.tmps)then afP o a w' K ((execOp a.eval o).run P w')else K undef (a.put o.dst undef))
  (hn:afO F m P ops Q C Lq π a' w):afO F m P ops Q C Lq ((i,true)::π) a w:=by
 have key:=h (fun v'' a''=>v''=v/\a''=a') ⟨rfl,rfl⟩
 by_cases hw:Region.wanted o (yielded ops a.tmps)=true
 ·simp only[hw,if_true]at key
  have hv:∀ w',C w'->((execOp a.eval o).run P w'=.ok (.value v) w'/\a.put o.dst v=a'):=by
   intro w' hw'
   have k:=key w' hw'
   generalize (execOp a.eval o).run P w'=r at k
   cases r with
   |ok x w''=>
    cases x<;>simp only[afP]at k
    case value u=>obtain⟨rfl,rfl,k2⟩:=k;exact⟨rfl,k2⟩
   |halt x w''=>simp only[afP]at k
  exact⟨o,v,ho,⟨.inl ⟨hw,fun w' hw'=>(hv w' hw').1⟩,hab⟩,by rw[(hv w hC).2];exact hn⟩
 ·simp only[hw]at key
  obtain⟨h1,h2⟩:=key w hC
  exact⟨o,undef,ho,⟨.inr ⟨by simpa using hw,rfl⟩,hab⟩,by rw[h2];exact hn⟩
theorem uG {Lq:Act->World->Prop} {i:Nat} {o:Oper} {π:List (Nat×Bool)} {a:Act} {w:World} (ho:ops[i]? =some o)
  (h:wpListIn F m P ops (Exit.then (fun a' w'=>C w'/\afO F m P ops Q C Lq π a' w') Q) [o] a w):afO F m P ops Q C Lq ((i,false)::π) a w:=by
 show wpOpIn F m P ops Q i _ a w
 unfold wpOpIn
 simp only[ho]
 unfold wpListIn at h
 split
 ·rename_i hw
  rw[if_pos hw]at h
  unfold Oper.wpIn at*
  refine⟨h.1,?_⟩
  have h:=h.2
  generalize (o.semAt F.round a.eval).run P w=r at*
  cases r with
  |ok x w'=>
   cases x<;>simp only[Oper.uponIn]at h ⊢
   case value u=>exact h
   case skip=>exact h
   case defer d=>exact h
   case enter f args=>exact⟨h.1,CallsIn.mono h.2 fun e w'' he=>by cases e<;>exact he⟩
   case row row args=>exact⟨h.1,RowsIn.mono h.2 fun u w'' he=>he⟩
   case round l f tmps assign body=>exact⟨h.1,RoundIn.mono h.2 fun e w'' he=>by cases e<;>exact he⟩
  |halt x w'=>
   cases x<;>simp only[Oper.uponIn]at h ⊢
   case panic u=>exact h
 ·rename_i hw
  rw[if_neg hw]at h
  exact h
end
attribute [go_sem] afP bfD
def Qn (Q:Exit->Act->World->Prop):Exit->Act->World->Prop
 |.normal,a,w=>Q .normal a w
 |_,_,_=>False
theorem aaF {F:Fence} {m:Nat} {P:Program} {Q:Exit->Act->World->Prop} {id:Nat} {a:Act} {w:World} {l:List Oper} (n:Nat) (π:List (Nat×Bool)) (C:World->Prop) (hro:rZ F l.toArray) (hm:P.follows .mixedOrders=true) (hB:aKR .any l.toArray n π=true) (hC:C w.drew)
  (h:afO F m P l.toArray (Qn Q) C (wpListIn F m P l.toArray (Qn Q) (l.drop n)) π a w.drew):(Code.region id l.toArray true).wpIn F m P Q a w:=
 Code.wpIn_mono (fun e a w q=>by cases e<;>first|exact q|exact q.elim) (bfC n π C hro hm (fun _ _ _ _ _ h=>h.elim) hB hC h)
theorem wpListIn_skip {F:Fence} {m:Nat} {P:Program} {ops:Array Oper} {Q:Exit->Act->World->Prop} {o:Oper} {rest:List Oper} {a:Act} {w:World}
  (hw:Region.wanted o (yielded ops a.tmps)=false) (hab:o.about P w a.eval=none) (h:wpListIn F m P ops Q rest (a.put o.dst undef) w):wpListIn F m P ops Q (o::rest) a w:=by
 refine wpListIn_step fun K hK=>?_
 rw[if_neg (by rw[hw];decide)]
 exact⟨fun f hf=>(by rw[hab]at hf;cases hf),hK _ _ h⟩
def Marks (B T:Nat) (ds:List Deferred) (W:World):Prop:=
 ∃ Ds:List Nat,ds=Ds.map (fun D=>({ target:=.collected D,args:=#[]}:Deferred))/\Ds.Nodup/\∀ D∈Ds,B<=D/\D<T/\W.heap[D]? =some (.deferred (some []))
theorem Marks.nil (B T:Nat) (W:World):Marks B T [] W:=⟨[],rfl,List.nodup_nil,fun _ h=>by cases h⟩
theorem Marks.keep {B T:Nat} {ds:List Deferred} {X Y:World} (h:Marks B T ds X) (k:∀ D,D<T->X.heap[D]? =some (.deferred (some []))->Y.heap[D]? =some (.deferred (some []))):Marks B T ds Y:=by
 obtain⟨Ds,h1,h2,h3⟩:=h
 exact⟨Ds,h1,h2,fun D hD=>⟨(h3 D hD).1,(h3 D hD).2.1,k D (h3 D hD).2.1 (h3 D hD).2.2⟩⟩
theorem Marks.xW {B T:Nat} {ds:List Deferred} {X Y:World} (h:Marks B T ds X) (hi:nM T X Y):Marks B T ds Y:=h.keep fun D hD hx=>hi.keep D _ hx (.inl hD)
theorem Marks.book {B T:Nat} {ds:List Deferred} {X Y:World} (h:Marks B T ds X) (hk:iZ X Y):Marks B T ds Y:=h.keep fun D hD hx=>hk D _ hx rfl
theorem Marks.cons {B T T':Nat} {ds:List Deferred} {W:World} {D:Nat} (h:Marks B T ds W) (hB:B<=D) (hT:T<=D) (hT':D<T') (hD:W.heap[D]? =some (.deferred (some []))):Marks B T' ({ target:=.collected D,args:=#[]}::ds) W:=by
 obtain⟨Ds,h1,h2,h3⟩:=h
 refine⟨D::Ds,by rw[h1];rfl,List.nodup_cons.2 ⟨fun hm=>by have:=(h3 D hm).2.1;omega,h2⟩,fun E hE=>?_⟩
 rcases List.mem_cons.1 hE with rfl|hE
 ·exact⟨hB,hT',hD⟩
 ·exact⟨(h3 E hE).1,by have:=(h3 E hE).2.1;omega,(h3 E hE).2.2⟩
theorem eH.drew {W:World} {n₀:Nat} {v:Value} {xs:List Int} (h:eH W n₀ v xs):eH W.drew n₀ v xs:=h
theorem nM.trans {B:Nat} {X Y Z:World} (h:nM B X Y) (k:nM B Y Z):nM B X Z:=
 ⟨k.os.trans h.os,k.tape.trans h.tape,k.output.trans h.output,Nat.le_trans h.size k.size,fun i o hi hb=>k.keep i o (h.keep i o hi hb) hb⟩
theorem nM.refl (B:Nat) (W:World):nM B W W:=⟨rfl,rfl,rfl,Nat.le_refl _,fun _ _ h _=>h⟩
theorem aDW {P:Program} {fn:Func} {tmps:Array Value} {R:Ending->World->Prop} {B T:Nat}:∀ (ds:List Deferred) (W:World),Marks B T ds W->
  (∀ W',nM B W W'->∃ v,(results fn tmps).run P W'=.ok v W'/\R (.returned v) W')->LeavesInM FW 0 P fn tmps R ds .returning W:=by
 intro ds W h
 obtain⟨Ds,rfl,h2,h3⟩:=h
 induction Ds generalizing W with
 |nil=>
  intro hf
  obtain⟨v,h1,h2⟩:=hf W (.refl _ _)
  exact⟨v,h1,h2⟩
 |cons D Ds ih=>
  intro hf
  have hD:=h3 D (by simp)
  have hn:=List.nodup_cons.1 h2
  refine⟨by simp,.inl ⟨D,_,rfl,run_takeDeferred hD.2.2,ih _ hn.2 (fun E hE=>?_) (fun W' hi=>hf W' ((nM.putObj hD.2.2 hD.1 rfl).trans hi))⟩⟩
  have hE':=h3 E (by simp[hE])
  exact⟨hE'.1,hE'.2.1,(World.putObj_heap_other (fun(e:E=D)=>hn.1 (by rw[<-e];exact hE))).trans hE'.2.2⟩
theorem EY.of_cells {α:Type} {R R':α->List Value->Prop} {size:Nat} {w w':World} {A:Option Addr} {n:Nat} {ps:List α} (h:EY R size w A n ps) (hc:∀ a v,w.cell? a=some v->w'.cell? a=some v) (hR:∀ p c,R p c->R' p c):EY R' size w' A n ps:=by
 obtain⟨h1,h2,h3⟩:=h
 refine⟨h1,h2,fun hn=>?_⟩
 obtain⟨ad,e,h4⟩:=h3 hn
 refine⟨ad,e,fun j p hp=>?_⟩
 obtain⟨c,hs,hr,hcell⟩:=h4 j p hp
 exact⟨c,hs,hR _ _ hr,fun i u hu=>hc _ _ (hcell i u hu)⟩
theorem qK.box {s b:Nat} {X Y:World} {vs:Array Value} {t:TypeId} (h:qK s X Y) (hb:Box X b vs t) (hs:s<=b) (ht:(t==34)=false:=by rfl):Box Y b vs t:=h.keep b _ hb hs ht
theorem qK.own {s n₀:Nat} {X Y:World} {v:Value} {xs:List Int} (h:qK s X Y) (ho:eH X n₀ v xs) (hs:s<=n₀):eH Y n₀ v xs:=by
 refine⟨ho.1,?_⟩
 rcases ho.2 with h'|⟨g,cap,cur,hv,hb,hg,r⟩
 ·exact .inl h'
 ·exact .inr ⟨g,cap,cur,hv,hb,h.keep g _ hg (by omega) rfl,r⟩
theorem qK.mono {s t:Nat} {X Y:World} (h:qK s X Y) (hs:s<=t):qK t X Y:=⟨h.size,fun k o hk ht ho=>h.keep k o hk (by omega) ho⟩
theorem bfE (W:World) (xs:List Int) (base n:Nat) (hn:W.heap.size=n) (hb:base<=n) (hl:xs.length<=1000):Kd.R (Kd.int .i64) 3 (W.alloc (.cells (xs.map (Value.int .i64)).toArray 3)) base (fun _=>True) (.slice (some ⟨n,0,none⟩) xs.length xs.length) xs:=by
 subst hn
 refine Kd.ag9 ?_ (fun _ _=>trivial)
 have:=World.ownsRow_lit (base:=base) (e:=3) (size:=1) W (xs.map (Value.int .i64)).toArray xs.length hb (by simp[maxLen];omega) (by simp)
 simpa[encs]using this
theorem au0 (W:World) (xs:List Int) (n:Nat) (hn:W.heap.size=n) (hl:xs.length<=1000):Kd.C (Kd.int .i64) (W.alloc (.cells (xs.map (Value.int .i64)).toArray 3)) (some ⟨n,0,none⟩) xs.length xs:=
 (Kd.dB (bfE W xs n n hn (Nat.le_refl _) hl)).2.2
theorem eH.cap {W:World} {n₀:Nat} {A:Option Addr} {n c:Nat} {xs:List Int} (h:eH W n₀ (.slice A n c) xs):n<=c/\c<=maxLen/\n=xs.length/\((A=none/\n=0)∨∃ g,A=some ⟨g,0,none⟩):=by
 rcases h.2 with⟨hv,h0⟩|⟨g,cap,cur,hv,_,_,h1,h2,_⟩
 ·cases hv;exact⟨Nat.le_refl _,by simp[maxLen],h0.symm,.inl ⟨rfl,rfl⟩⟩
 ·cases hv;exact⟨h1,h2,rfl,.inr ⟨g,rfl⟩⟩
theorem bfF {W:World} {n₀:Nat} {A:Option Addr} {n c:Nat} {xs:List Int} (h:eH W n₀ (.slice A n c) xs) (w:World):
  (Instr.slice 34 (.slice A n c) none (some (.int .i64 n)) (some (.int .i64 n))).run Tryd.prog w=.ok (.slice A n n) w:=by
 obtain⟨h1,h2,h3,h4⟩:=h.cap
 unfold maxLen at h2
 have hu:Tryd.prog.underlying 34=some (.slice 3):=Tryd.underlying34
 have hn1:¬ ((n:Int)<0):=by omega
 have hn2:¬ ((c:Int)<(n:Int)):=by omega
 obtain⟨i3,hi3,hz3⟩:=Option.map_eq_some_iff.1 info3
 simp only[Prod.mk.injEq]at hz3
 obtain⟨hz0,hz1,hz2⟩:=hz3
 have hm:(A.map (·.add 0))=A:=by
  rcases h4 with⟨rfl,_⟩|⟨g,rfl⟩
  ·rfl
  ·simp[Addr.add]
 unfold Instr.slice
 simp[go_sem,run_underlying hu,Instr.sliceBounds,Instr.sliceBound,sizeOf,typeInfo,hi3,hz1]
 intro hc
 omega
theorem bfG {W:World} {s0:Nat} {A:Option Addr} {n c:Nat} {xs:List Int} (h:eH W s0 (.slice A n c) xs) (hs:s0<=W.heap.size) (hn:n<=100) (k:Int):
  ∃ v' W',(Builtin.append_ #[34,34] 34 #[.slice A n n,.slice (some ⟨W.heap.size,0,none⟩) 1 1]).run Tryd.prog (W.alloc (.cells #[.int .i64 k] 3))=.ok v' W'/\eH W' s0 v' (xs++[k])/\Below W.heap.size W W':=by
 obtain⟨h1,h2,h3,h4⟩:=h.cap
 obtain⟨i3,hi3,hz3⟩:=Option.map_eq_some_iff.1 info3
 simp only[Prod.mk.injEq]at hz3
 obtain⟨hz0,hz1,hz2⟩:=hz3
 have hu:Tryd.prog.underlying 34=some (.slice 3):=Tryd.underlying34
 obtain⟨W1,hW1⟩:∃ W1,W.alloc (.cells #[.int .i64 k] 3)=W1:=⟨_,rfl⟩
 have hb1:Below W.heap.size W W1:=by rw[<-hW1];exact(Below.refl _ _).alloc (Nat.le_refl _) _
 have ho1:=h.below' hb1
 have hnews:∀ j u,[Value.int .i64 k][j]? =some u->W1.cell? ((⟨W.heap.size,0,none⟩:Addr).add j)=some u:=by
  intro j u hj
  match j,hj with
  |0,hj=>
   simp at hj
   subst hj
   rw[<-hW1]
   simp[Addr.add]
 have key:∀ (old:Nat),eH (W1.drew.alloc (.cells ((xs.map (Value.int .i64)).toArray++[Value.int .i64 k].toArray++Builtin.zeroCells (Value.int .i64 0).cells (grownCap W1 (n+1) old 3 - (n+1))) 3)) s0 (.slice (some ⟨W1.heap.size,0,none⟩) (n+1) (grownCap W1 (n+1) old 3)) (xs++[k])/\
   Below W.heap.size W (W1.drew.alloc (.cells ((xs.map (Value.int .i64)).toArray++[Value.int .i64 k].toArray++Builtin.zeroCells (Value.int .i64 0).cells (grownCap W1 (n+1) old 3 - (n+1))) 3)):=by
  intro old
  have hge:=grownCap_ge W1 (n+1) old 3
  have hcm:grownCap W1 (n+1) old 3<=maxLen:=grownCap_le_maxLen W1 (n+1) old 3 (by unfold maxLen;omega)
  refine⟨⟨by simp,.inr ⟨W1.heap.size,_,_,?_,by have:=hb1.size;omega,heap_alloc_new W1.drew _,by simpa[<-h3]using hge,hcm,?_,?_⟩⟩,hb1.drew.alloc (by have:=hb1.size;simpa using this) _⟩
  ·simp[<-h3]
  ·have hz:(Builtin.zeroCells (Value.int .i64 0).cells (grownCap W1 (n+1) old 3 - (n+1))).size=grownCap W1 (n+1) old 3 - (n+1):=by
    rw[size_zeroCells]
    show _*1=_
    omega
   simp only[Array.size_append,List.size_toArray,List.length_map,hz,List.length_cons,List.length_nil]
   omega
  ·have:((xs++[k]).length*1)=(xs.map (Value.int .i64)++[Value.int .i64 k]).length:=by simp
   rw[this]
   simp[List.take_append]
   exact List.take_of_length_le (by simp)
 rw[hW1]
 rcases h4 with⟨rfl,rfl⟩|⟨g,rfl⟩
 ·have hx:xs=[]:=List.eq_nil_of_length_eq_zero h3.symm
  subst hx
  have hr:=run_append_nil (P:=Tryd.prog) W1 34 34 3 i3 (.int .i64 0) hu hi3 hz0 ⟨W.heap.size,0,none⟩ 1 1 [.int .i64 k] (by simp[hz1]) hnews (by decide) (by decide) (by rw[hz2];decide)
  have:=key 0
  simp only[Nat.zero_add,List.map_nil,List.nil_append]at this
  exact⟨_,_,hr,by simpa using this.1,by simpa using this.2⟩
 ·have holds:∀ j u,(xs.map (Value.int .i64))[j]? =some u->W1.cell? ((⟨g,0,none⟩:Addr).add j)=some u:=World.ownsRow.cells (g:=g) ho1 rfl
  have hr:=run_append_grow (P:=Tryd.prog) W1 34 34 3 i3 (.int .i64 0) hu hi3 hz0 ⟨g,0,none⟩ n n (xs.map (Value.int .i64)) (by simp[hz1,h3]) holds ⟨W.heap.size,0,none⟩ 1 1 [.int .i64 k] (by simp[hz1]) hnews (by omega) (by omega) (growslice_fits (by omega) (by rw[hz2];omega))
  exact⟨_,_,hr,(key n).1,(key n).2⟩
theorem aKS {F:Fence} {n:Nat} {P:Program} (w:World) {ops:Array Oper} {rest:List Oper} {o:Oper} {a:Act} {Q:Exit->Act->World->Prop}
  (hw:Region.wanted o (yielded ops a.tmps)=true) (s x:Operand) (t:TypeId) (hop:o.op=Op.call { callee:=Callee.builtin Builtin.append,args:=#[s,x],argTypes:=#[t,t]}) (v y v':Value) (w':World) (hs:a.eval s=v) (hx:a.eval x=y)
  (hrun:(Builtin.append_ #[t,t] o.type #[v,y]).run P w=.ok v' w') (hK:wpListIn F n P ops Q rest (a.put o.dst v') w'):
  wpListIn F n P ops Q (o::rest) a w:=by
 refine wpListIn_step fun K hK'=>?_
 rw[if_pos hw]
 unfold Oper.wpIn
 refine⟨?_,?_⟩
 ·simp[Oper.about,hop,resolve,Target.leads,Sem.run_pure]
 ·rw[Oper.semAt_plain F _ _ (by rw[hop];intro c hc';cases hc')]
  simp[execOp,hop,resolve,invoke,builtin,hs,hx,hrun,Result.andThen]
  exact hK' _ _ hK
theorem run_store_func {P:Program} {w:World} {a:Addr} {m:Mode} (f:Fn) (x y:Array Value):(store a (.func f x y) m).run P w=stored P w a (.func f x y) m:=run_store P w a _ m rfl
attribute [local go_sem] run_store_func
section
variable {F:Fence} {m:Nat} {P:Program} {md:Region.Mode} {ops:Array Oper} {Q:Exit->Act->World->Prop} {C:World->Prop}
inductive yX where
 |done:yX
 |quiet:Nat->yX->yX
 |ev:Nat->yX->yX
 |two:Nat->Nat->yX->yX->yX
def yX.au1:List Nat->yX->yX
 |[],p=>p
 |i::l,p=>.quiet i (yX.au1 l p)
def DL (F:Fence) (m:Nat) (P:Program) (ops:Array Oper) (Q:Exit->Act->World->Prop) (C:World->Prop) (Lq:Act->World->Prop):yX->Act->World->Prop
 |.done,a,w=>Lq a w
 |.quiet i p,a,w=>∃ o v,ops[i]? =some o/\TZ P ops C o v a/\DL F m P ops Q C Lq p (a.put o.dst v) w
 |.ev i p,a,w=>wpOpIn F m P ops Q i (fun a' w'=>C w'/\DL F m P ops Q C Lq p a' w') a w
 |.two i j p q,a,w=>wpOpIn F m P ops Q i (fun a' w'=>C w'/\DL F m P ops Q C Lq p a' w') a w/\wpOpIn F m P ops Q j (fun a' w'=>C w'/\DL F m P ops Q C Lq q a' w') a w
def aeA (md:Region.Mode) (ops:Array Oper) (n g:Nat):Nat->yX->Array Bool->Bool
 |f,.done,listed=>decide (f=0)&&Region.seqB md ops g n listed
 |f,.quiet i p,listed=>decide (0<f)&&decide (i<n)&&(Region.ready md ops listed).contains i&&Region.free md ops listed i&&aeA md ops n g (f - 1) p (listed.setIfInBounds i true)
 |f,.ev i p,listed=>decide (0<f)&&decide (i<n)&&decide (Region.ready md ops listed=[i])&&aeA md ops n g (f - 1) p (listed.setIfInBounds i true)
 |f,.two i j p q,listed=>decide (0<f)&&decide (i<n)&&decide (j<n)&&decide (Region.ready md ops listed=[i,j])&&aeA md ops n g (f - 1) p (listed.setIfInBounds i true)&&aeA md ops n g (f - 1) q (listed.setIfInBounds j true)
theorem au2 {n g:Nat} {Lq:Act->World->Prop} (hro:rZ F ops) (hsel:Region.noSelect ops=true) (hs:Region.sinkB md ops n=true) (hc:Region.chainB md ops n=true) (hn:n<ops.size)
  (hQ:∀ c a d v w,Q (.panic c) (a.put d v) w->Q (.panic c) a w):
  ∀ (π:yX) (f:Nat) (listed:Array Bool) (a:Act) (w:World),HeadInv md ops n listed->aeA md ops n g f π listed=true->C w->DL F m P ops Q C Lq π a w->
  abN F m P md ops Q C n (fun listed' a' w'=>Region.seqB md ops g n listed'=true/\Lq a' w') f listed a w
 |.done,f,listed,a,w,inv,hB,hC,h=>by
  simp only[aeA,Bool.and_eq_true,decide_eq_true_eq]at hB
  obtain⟨rfl,hB⟩:=hB
  exact⟨hB,h⟩
 |.quiet i π,f,listed,a,w,inv,hB,hC,h=>by
  obtain⟨o,v,ho,hy,h⟩:=h
  simp only[aeA,Bool.and_eq_true,decide_eq_true_eq]at hB
  obtain⟨⟨⟨⟨hf0,hin⟩,hr⟩,hf⟩,hB'⟩:=hB
  obtain⟨f,rfl⟩:∃ q,f=q+1:=⟨f - 1,by omega⟩
  have hr':i∈Region.ready md ops listed:=by simpa using hr
  exact aDV hro ho (Region.noSelect_spec hsel) hs hc hn hin (fun c a w=>hQ c a _ v w) (fun listed' a' w' hL=>seqB_ready hL.1) f listed a w inv (Region.free_spec ho hf) hr' hC hy
   (au2 hro hsel hs hc hn hQ π f _ _ w (inv.set hr' hin) hB' hC h)
 |.ev i π,f,listed,a,w,inv,hB,hC,h=>by
  simp only[aeA,Bool.and_eq_true,decide_eq_true_eq]at hB
  obtain⟨⟨⟨hf0,hin⟩,hr⟩,hB'⟩:=hB
  obtain⟨f,rfl⟩:∃ q,f=q+1:=⟨f - 1,by omega⟩
  have hr':i∈Region.ready md ops listed:=by rw[hr];simp
  refine⟨fun h0=>(by rw[h0]at hr;cases hr),fun j hj=>?_⟩
  rw[hr]at hj
  obtain rfl:j=i:=by simpa using hj
  exact⟨hin,wpOpIn_mono (fun a' w' h'=>⟨h'.1,au2 hro hsel hs hc hn hQ π f _ a' w' (inv.set hr' hin) hB' h'.1 h'.2⟩) h⟩
 |.two i j π ρ,f,listed,a,w,inv,hB,hC,h=>by
  simp only[aeA,Bool.and_eq_true,decide_eq_true_eq]at hB
  obtain⟨⟨⟨⟨⟨hf0,hin⟩,hjn⟩,hr⟩,hB1⟩,hB2⟩:=hB
  obtain⟨f,rfl⟩:∃ q,f=q+1:=⟨f - 1,by omega⟩
  have hri:i∈Region.ready md ops listed:=by rw[hr];simp
  have hrj:j∈Region.ready md ops listed:=by rw[hr];simp
  refine⟨fun h0=>(by rw[h0]at hr;cases hr),fun k hk=>?_⟩
  rw[hr]at hk
  rcases List.mem_cons.1 hk with rfl|hk
  ·exact⟨hin,wpOpIn_mono (fun a' w' h'=>⟨h'.1,au2 hro hsel hs hc hn hQ π f _ a' w' (inv.set hri hin) hB1 h'.1 h'.2⟩) h.1⟩
  ·obtain rfl:=List.mem_singleton.1 hk
   exact⟨hjn,wpOpIn_mono (fun a' w' h'=>⟨h'.1,au2 hro hsel hs hc hn hQ ρ f _ a' w' (inv.set hrj hjn) hB2 h'.1 h'.2⟩) h.2⟩
def aKT (md:Region.Mode) (ops:Array Oper) (n:Nat) (π:yX):Bool:=
 Region.noSelect ops&&decide (n<ops.size)&&Region.sinkB md ops n&&Region.chainB md ops n&&aeA md ops n (ops.size - n) n π (Array.replicate ops.size false)
theorem bfI {id:Nat} {a:Act} {w:World} {l:List Oper} (n:Nat) (π:yX) (C:World->Prop) (hro:rZ F l.toArray) (hm:P.follows .mixedOrders=true) (hQ:∀ c a d v w,Q (.panic c) (a.put d v) w->Q (.panic c) a w) (hB:aKT .any l.toArray n π=true) (hC:C w.drew)
  (h:DL F m P l.toArray Q C (wpListIn F m P l.toArray Q (l.drop n)) π a w.drew):(Code.region id l.toArray true).wpIn F m P Q a w:=by
 simp only[aKT,Bool.and_eq_true,decide_eq_true_eq]at hB
 obtain⟨⟨⟨⟨hsel,hn⟩,hs⟩,hc⟩,hhead⟩:=hB
 have hn':n<l.length:=by simpa using hn
 have hdl:(l.drop n).length=l.toArray.size - n:=by simp
 have inv0:HeadInv .any l.toArray n (Array.replicate l.toArray.size false):=
  ⟨by simp,fun j oj _ hl=>(by rw[getD_replicate_false]at hl;cases hl),fun t _ ht=>getD_in (by simpa using ht) (getD_replicate_false _ _)⟩
 have H:=au2 (md:=.any) (g:=l.toArray.size - n) hro hsel hs hc hn hQ π n _ a w.drew inv0 hhead hC h
 refine wpIn_region_any hm ?_
 have:=auY (Q:=Q) (g:=l.toArray.size - n) (fun listed a' w' hL=>by
  have:=auZ (md:=.any) (Q':=Q) (l.drop n) n listed a' w' (fun j=>by simp[List.getElem?_drop]) (by rw[hdl];exact hL.1) hL.2
  rwa [hdl]at this) _ _ _ _ H
 rw[show n+(l.toArray.size - n)=l.toArray.size by omega]at this
 exact this
theorem UA {Lq:Act->World->Prop} {i:Nat} {o:Oper} {π:yX} {a a':Act} {w:World} {v:Value} (ho:ops[i]? =some o) (hab:∀ w,o.about P w a.eval=none) (hC:C w)
  (h:∀ K:Value->Act->Prop,K v a'->∀ w',C w'->if Region.wanted o (yielded ops a.tmps)then afP o a w' K ((execOp a.eval o).run P w')else K undef (a.put o.dst undef))
  (hn:DL F m P ops Q C Lq π a' w):DL F m P ops Q C Lq (.quiet i π) a w:=
 FD (Q:=Q) (m:=m) (F:=F) (π:=[]) (Lq:=DL F m P ops Q C Lq π) ho hab hC h hn
theorem DN {Lq:Act->World->Prop} {i:Nat} {o:Oper} {π:yX} {a:Act} {w:World} (ho:ops[i]? =some o)
  (h:wpListIn F m P ops (Exit.then (fun a' w'=>C w'/\DL F m P ops Q C Lq π a' w') Q) [o] a w):DL F m P ops Q C Lq (.ev i π) a w:=
 uG (π:=[]) (Lq:=DL F m P ops Q C Lq π) ho h
theorem ah2 {Lq:Act->World->Prop} {i j:Nat} {o p:Oper} {π ρ:yX} {a:Act} {w:World} (ho:ops[i]? =some o) (hp:ops[j]? =some p)
  (h:wpListIn F m P ops (Exit.then (fun a' w'=>C w'/\DL F m P ops Q C Lq π a' w') Q) [o] a w)
  (h':wpListIn F m P ops (Exit.then (fun a' w'=>C w'/\DL F m P ops Q C Lq ρ a' w') Q) [p] a w):DL F m P ops Q C Lq (.two i j π ρ) a w:=
 ⟨uG (π:=[]) (Lq:=DL F m P ops Q C Lq π) ho h,uG (π:=[]) (Lq:=DL F m P ops Q C Lq ρ) hp h'⟩
theorem aeB {id:Nat} {a:Act} {w:World} {l:List Oper} (n:Nat) (π:yX) (C:World->Prop) (hro:rZ F l.toArray) (hm:P.follows .mixedOrders=true) (hB:aKT .any l.toArray n π=true) (hC:C w.drew)
  (h:DL F m P l.toArray (Qn Q) C (wpListIn F m P l.toArray (Qn Q) (l.drop n)) π a w.drew):(Code.region id l.toArray true).wpIn F m P Q a w:=
 Code.wpIn_mono (fun e a w q=>by cases e<;>first|exact q|exact q.elim) (bfI n π C hro hm (fun _ _ _ _ _ h=>h.elim) hB hC h)
end
end Go.Proofs.YtcmfnebcmmklkaaDoor.Hand
namespace Go.Proofs.YtcmfnebcmmklkaaDoor.Hand
open Go.RowKit Go.Shelf Go.Proofs.YtcmfnebcmmklkaaDoorW.dQ Go.Proofs.YtcmfnebcmmklkaaDoorW.gG Go.Proofs.YtcmfnebcmmklkaaDoor.Q
abbrev afQ (x:dR):Value:=.agg #[.int .i64 x.f0.f0,.int .i64 x.f0.f1,.int .i64 x.f1,.bool x.f2]
def bfJ (ls:List dR) (x:Nat) (args:Array Value) (_:World):Prop:=args=#[.int .i64 x,afQ (dP ls x)]
def aVQ (ls:List dR) (A:Option Addr) (c bs:Nat) (W:World):Prop:=Box W bs #[.slice A ls.length c] 190/\Kd.C QX W A ls.length ls
theorem bfK (A:Option Addr) (n c:Nat) (w:World):Calls Tryd.prog 128 #[.slice A n c] w fun e w'=>e=.returned (.func (.func 132) #[] #[.pointer (some ⟨w.heap.size,0,none⟩)])/\w'=w.alloc (.cells #[.slice A n c] 190):=by
 go_enter Tryd.func128,Tryd.ntmps128
 go_wp2
 go_ret
 exact⟨rfl,rfl⟩
theorem bfL {B:Nat} {W W':World} {A:Option Addr} {n:Nat} {l:List dR} (h:Kd.C QX W A n l) (hi:nM B W W'):Kd.C QX W' A n l:=
 EY.of_cells h (fun _ _ hc=>hi.cell hc) (fun p c hK=>by obtain rfl:=aTY hK;exact ba6 W' p)
theorem aVR (r:Nat):(List.range (r+1)).reverse=r::(List.range r).reverse:=by rw[List.range_succ];simp
theorem bfM (ls:List dR) (hl:ls.length<=1000) (A:Option Addr) (c bs:Nat):Iter Tryd.prog 132 #[] #[.pointer (some ⟨bs,0,none⟩)] (bfJ ls) (aVQ ls A c bs) Eq ((List.range ls.length).reverse):=by
 intro l J Jx W hT hJs aDX hY h0
 have b0:W.cell? ⟨bs,0,none⟩=some (.slice A ls.length c):=hT.1.cell 0 rfl
 refine callsIn_of_wp Tryd.func132 rfl trivial ?_
 simp only[Tryd.ntmps132,List.size_toArray,List.length_cons,List.length_nil,Nat.reduceAdd,Nat.reduceSub,Array.replicate_succ,Array.replicate_zero,List.push_toArray,List.append_toArray,List.nil_append,List.cons_append]
 gi_wp2
 clear b0
 gi_loopw [3] (fun v wr=>∃ (r:Nat) (pre:List Nat),v=.int .i64 ((r:Int) - 1)/\r<=ls.length/\Hid ((List.range ls.length).reverse=pre++(List.range r).reverse)/\J pre wr/\aVQ ls A c bs wr) (fun v _=>((intOf v)+1).toNat)
 case atStart=>exact⟨ls.length,[],rfl,Nat.le_refl _,Lib.hid rfl,h0,hT⟩
 case round=>
  obtain⟨r,pre,rfl,hr,hp,hj,hT1⟩:=hrel
  cases r with
  |zero=>
   gi_wp2
   go_end0
   have e:(List.range ls.length).reverse=pre:=by rw[hp.out];simp
   exact⟨⟨_,rfl⟩,.inl (by rw[e];exact⟨hj,hT1⟩)⟩
  |succ r=>
   have hpre:pre++[r]<+:(List.range ls.length).reverse:=⟨(List.range r).reverse,by rw[hp.out,aVR];simp⟩
   obtain⟨fn,tmps,assign,body,hy,hR⟩:=hY pre r #[.int .i64 r,afQ (dP ls r)] wr hj hT1 hpre rfl
   have b0:wr.cell? ⟨bs,0,none⟩=some (.slice A ls.length c):=hT1.1.cell 0 rfl
   obtain⟨ad,rfl,h0,h1,h2,h3⟩:=aIX hT1.2 r (by omega) (by omega)
   rw[Int.toNat_natCast]at h0 h1 h2 h3
   have e1:(((r+1:Nat):Int) - 1)=r:=by omega
   have hR:=Lib.hid hR
   rw[e1]
   clear e1
   gi_wp2_with fail
   refine⟨rfl,?_⟩
   refine hR.out.mono ?_
   rintro e w1 (⟨rfl,hj1,hT2⟩|⟨rfl,hx1⟩)
   ·clear h0 h1 h2 h3 b0
    gi_wp2
    go_roundw
    case rel=>exact⟨r,pre++[r],rfl,by omega,Lib.hid (by rw[hp.out,aVR];simp),hj1,hT2⟩
    case measure=>simp[intOf]
   ·clear h0 h1 h2 h3 b0
    gi_wp2
    refine bodyPost_ret (results_none rfl _ _ _) rfl ?_
    exact⟨⟨_,rfl⟩,.inr ⟨_,hpre,hx1⟩⟩
theorem aVS {W W':World} {n₀ e sz n:Nat} {v:Value} {xs:List Value} (h:W.ownsRow n₀ e sz v n xs) (hk:∀ (k:Nat) (o:Obj),W.heap[k]? =some o->ad9 o=false->n₀<=k->W'.heap[k]? =some o):W'.ownsRow n₀ e sz v n xs:=by
 refine⟨h.1,?_⟩
 rcases h.2 with h|⟨g,cap,cur,hv,hb,hg,r⟩
 ·exact .inl h
 ·exact .inr ⟨g,cap,cur,hv,hb,hk g _ hg rfl hb,r⟩
theorem aKU {B:Nat} {W W':World} {n₀ e sz n:Nat} {v:Value} {xs:List Value} (h:W.ownsRow n₀ e sz v n xs) (hi:nM B W W'):W'.ownsRow n₀ e sz v n xs:=aVS h fun k o hk hb _=>hi.keep k o hk (.inr hb)
theorem own_below {W W':World} {n₀ e sz n:Nat} {v:Value} {xs:List Value} (h:W.ownsRow n₀ e sz v n xs) (hb:Below W.heap.size W W'):W'.ownsRow n₀ e sz v n xs:=aVS h fun k o hk _ _=>(hb.block k (lt_of_block hk)).trans hk
theorem ah3 {W:World} {n₀ n₁ e sz n:Nat} {v:Value} {xs:List Value} (h:W.ownsRow n₀ e sz v n xs) (hn:n₁<=n₀):W.ownsRow n₁ e sz v n xs:=by
 refine⟨h.1,?_⟩
 rcases h.2 with h|⟨g,cap,cur,hv,hb,r⟩
 ·exact .inl h
 ·exact .inr ⟨g,cap,cur,hv,Nat.le_trans hn hb,r⟩
theorem own_ne {W:World} {n₀ e sz n:Nat} {v:Value} {xs:List Value} (h:W.ownsRow n₀ e sz v n xs) {b:Nat} {vs:Array Value} {t:TypeId} (hb:Box W b vs t) (ht:t≠e):some b≠v.ownBlock:=by
 intro e'
 rcases h.2 with⟨rfl,_⟩|⟨g,cap,cur,rfl,_,hg,_⟩
 ·cases e'
 ·have:b=g:=by simpa[Value.ownBlock]using e'
  subst this
  unfold Box at hb
  rw[hb]at hg
  cases hg
  exact ht rfl
theorem am2 {W:World} {n₀ e sz n:Nat} {v:Value} {xs:List Value} (h:W.ownsRow n₀ e sz v n xs) {b:Nat} (hne:some b≠v.ownBlock) (i:Nat) (u:Value):(W.setCell ⟨b,i,none⟩ u).ownsRow n₀ e sz v n xs:=by
 refine⟨h.1,?_⟩
 rcases h.2 with h|⟨g,cap,cur,rfl,hb,hg,r⟩
 ·exact .inl h
 ·refine .inr ⟨g,cap,cur,rfl,hb,?_,r⟩
  have:g≠b:=fun e=>hne (by simp[Value.ownBlock,e])
  exact(Below.heap_setCell W ⟨b,i,none⟩ u g this).trans hg
theorem ZC {W:World} {n₀ e sz n:Nat} {v:Value} {xs:List Value} (h:W.ownsRow n₀ e sz v n xs) {b:Nat} {vs:Array Value} {t:TypeId} (hb:Box W b vs t) (ht:t≠e) (i:Nat) (u:Value):(W.setCell ⟨b,i,none⟩ u).ownsRow n₀ e sz v n xs:=am2 h (own_ne h hb ht) i u
theorem bfN {W W':World} {n₀ e sz n:Nat} {v:Value} {xs:List Value} (h:W.ownsRow n₀ e sz v n xs) (hg:W.grownBy W' v.ownBlock) {b:Nat} {vs:Array Value} {t:TypeId} (hb:Box W b vs t) (ht:t≠e):Box W' b vs t:=
 (hg.block b hb.lt (own_ne h hb ht)).trans hb
theorem aVT {W W' w:World} {n₀ e sz n:Nat} {v:Value} {xs:List Value} (h:W.ownsRow n₀ e sz v n xs) (hg:W.grownBy W' v.ownBlock) (hb:Below n₀ w W) (hn:n₀<=W.heap.size):Below n₀ w W':=by
 refine⟨hg.os.trans hb.os,hg.tape.trans hb.tape,hg.output.trans hb.output,Nat.le_trans hb.size hg.size,fun k hk=>?_⟩
 refine(hg.block k (by omega) (fun e'=>?_)).trans (hb.block k hk)
 rcases h.2 with⟨rfl,_⟩|⟨g,cap,cur,rfl,hbg,_⟩
 ·cases e'
 ·have:k=g:=by simpa[Value.ownBlock]using e'
  omega
theorem aSM {W:World} {n₀ e sz n:Nat} {v:Value} {xs:List Value} (h:W.ownsRow n₀ e sz v n xs):∃ A c,v=.slice A n c:=by
 rcases h.2 with⟨rfl,rfl⟩|⟨g,cap,cur,rfl,_⟩
 ·exact⟨none,0,rfl⟩
 ·exact⟨_,_,rfl⟩
theorem afR {W:World} {n₀ e sz n:Nat} {v:Value} {xs:List Value} (h:W.ownsRow n₀ e sz v n xs) (hn:0<n):∃ g c,v=.slice (some ⟨g,0,none⟩) n c/\n₀<=g/\g<W.heap.size/\n<=c/\c<=maxLen:=by
 rcases h.2 with⟨rfl,rfl⟩|⟨g,cap,cur,rfl,h1,h2,h3,h4,_⟩
 ·omega
 ·exact⟨_,_,rfl,h1,lt_of_block h2,h3,h4⟩
def pK (xs:List aH):List Value:=xs.flatMap fun x=>[.int .i64 x.f0,.int .i64 x.f1]
theorem aDY (xs:List aH):(pK xs).length=xs.length*2:=by
 induction xs with
 |nil=>rfl
 |cons x xs ih=>simp[pK]at ih ⊢;omega
theorem bfO (xs ys:List aH):pK (xs++ys)=pK xs++pK ys:=by simp[pK]
theorem au3 (xs:List aH):∀ (j:Nat),j<xs.length->(pK xs)[j*2]? =some (.int .i64 (bM xs j).f0)/\(pK xs)[j*2+1]? =some (.int .i64 (bM xs j).f1):=by
 induction xs with
 |nil=>intro j h;simp at h
 |cons x xs ih=>
  intro j h
  cases j with
  |zero=>exact⟨rfl,rfl⟩
  |succ j=>
   have:=ih j (by simpa using h)
   rw[show(j+1)*2=j*2+1+1 by omega,show j*2+1+1+1=(j*2+1)+1+1 by omega]
   simpa[pK,bM]using this
theorem bfP (xs:List aH):∀ (j:Nat) (y:aH),j<xs.length->((pK xs).set (j*2) (.int .i64 y.f0)).set (j*2+1) (.int .i64 y.f1)=pK (xs.set j y):=by
 induction xs with
 |nil=>intro j y h;simp at h
 |cons x xs ih=>
  intro j y h
  cases j with
  |zero=>rfl
  |succ j=>
   have:=ih j y (by simpa using h)
   rw[show(j+1)*2=j*2+1+1 by omega,show j*2+1+1+1=(j*2+1)+1+1 by omega]
   simpa[pK]using this
def mP (W:World) (n₀:Nat) (v:Value) (xs:List aH):Prop:=W.ownsRow n₀ 42 2 v xs.length (pK xs)
theorem mP.R {W:World} {n₀:Nat} {v:Value} {xs:List aH} (h:mP W n₀ v xs):Kd.R iD 42 W n₀ (fun _=>True) v xs:=by
 refine⟨fun _ _=>trivial,_,h,by rw[aDY];rfl,fun j p hj=>?_⟩
 have hl:j<xs.length:=(List.getElem?_eq_some_iff.1 hj).1
 have he:bM xs j=p:=by
  rw[bM,List.getD_eq_getElem?_getD,Int.toNat_natCast,hj]
  rfl
 obtain⟨h0,h1⟩:=au3 xs j hl
 rw[he]at h0 h1
 have:((pK xs).drop (j*2)).take 2=[Value.int .i64 p.f0,Value.int .i64 p.f1]:=by
  obtain⟨g0,e0⟩:=List.getElem?_eq_some_iff.1 h0
  obtain⟨g1,e1⟩:=List.getElem?_eq_some_iff.1 h1
  rw[List.drop_eq_getElem_cons g0,List.drop_eq_getElem_cons g1,e0,e1]
  rfl
 show iD.M W n₀ _ p (((pK xs).drop (j*2)).take 2)
 rw[this]
 exact WS _ _ _ p
theorem mP.aaG {W:World} {n₀ g n c:Nat} {xs:List aH} (h:mP W n₀ (.slice (some ⟨g,0,none⟩) n c) xs) (hn:n=xs.length) (j:Nat) (hj:j<n):
  W.cell? ⟨g,j*2,none⟩=some (.int .i64 (bM xs j).f0)/\W.cell? ⟨g,j*2+1,none⟩=some (.int .i64 (bM xs j).f1)/\(∀ i,W.frozen? ⟨g,i,none⟩=false):=by
 subst hn
 obtain⟨h0,h1⟩:=au3 xs j hj
 exact⟨(World.ownsRow.cellAt h (j*2) (by omega)).trans h0,(World.ownsRow.cellAt h (j*2+1) (by omega)).trans h1,fun i=>World.ownsRow.frozenAt h i⟩
theorem mP.put {W:World} {n₀ g n c:Nat} {xs:List aH} (h:mP W n₀ (.slice (some ⟨g,0,none⟩) n c) xs) (hn:n=xs.length) (j:Nat) (hj:j<n) (y:aH):
  mP ((W.setCell ⟨g,j*2,none⟩ (.int .i64 y.f0)).setCell ⟨g,j*2+1,none⟩ (.int .i64 y.f1)) n₀ (.slice (some ⟨g,0,none⟩) n c) (xs.set j y):=by
 subst hn
 have h1:=(World.ownsRow.stored h (j*2) (.int .i64 y.f0)).1
 have h2:=(World.ownsRow.stored h1 (j*2+1) (.int .i64 y.f1)).1
 unfold mP
 rw[List.length_set,<-bfP xs j y hj]
 exact h2
def QG (a b:aH):aH:=⟨mx a.f0 b.f0,mn a.f1 b.f1⟩
def abO (l:dR) (n:aH):aH:=if l.f2=true then⟨n.f0 - l.f0.f1,n.f1 - l.f0.f0⟩else⟨n.f0+l.f0.f0,n.f1+l.f0.f1⟩
def aaH (l:dR) (n:aH):aH:=if l.f2=true then⟨n.f0+l.f0.f0,n.f1+l.f0.f1⟩else⟨n.f0 - l.f0.f1,n.f1 - l.f0.f0⟩
def abP (l:dR) (a b:aH):aH:=if l.f2=true then⟨a.f0 - b.f1,a.f1 - b.f0⟩else⟨b.f0 - a.f1,b.f1 - a.f0⟩
def gU (M:Int) (ls:List dR):Nat->aH
 |0=>⟨0,0⟩
 |i+1=>QG (abO (dP ls i) (gU M ls i)) ⟨0,M⟩
def yY (M:Int) (ls:List dR):Nat->Bool
 |0=>true
 |i+1=>yY M ls i&&decide ((gU M ls (i+1)).f0<=(gU M ls (i+1)).f1)
def aeC (M:Int) (ls:List dR):Nat->aH
 |0=>gU M ls ls.length
 |d+1=>QG (gU M ls (ls.length - (d+1))) (aaH (dP ls (ls.length - (d+1):Nat)) (aeC M ls d))
def qN (M:Int) (ls:List dR) (i:Nat):aH:=aeC M ls (ls.length - i)
def AY (M:Int) (ls:List dR) (i:Nat):aH:=QG (dP ls i).f0 (abP (dP ls i) (qN M ls i) (qN M ls (i+1)))
theorem aqS (M:Int) (ls:List dR):qN M ls ls.length=gU M ls ls.length:=by unfold qN;rw[Nat.sub_self];rfl
theorem aDZ (M:Int) (ls:List dR) {i:Nat} (h:i<ls.length):qN M ls i=QG (gU M ls i) (aaH (dP ls i) (qN M ls (i+1))):=by
 unfold qN
 obtain⟨d,hd⟩:∃ d,ls.length - i=d+1:=⟨ls.length - i - 1,by omega⟩
 rw[hd,show ls.length - (i+1)=d by omega,aeC,show ls.length - (d+1)=i by omega]
abbrev vS (x:aH):Value:=.agg #[.int .i64 x.f0,.int .i64 x.f1]
def VI (x:aH):Prop:=(-10000<=x.f0/\x.f0<=10000)/\(-10000<=x.f1/\x.f1<=10000)
theorem jF {x:Int} (h0: -1000000<=x) (h1:x<=1000000):wrap64 x=x:=by unfold wrap64;omega
theorem bfQ (l:dR) (n:aH) (hl:VI l.f0) (hn:VI n) (w:World):Calls Tryd.prog 127 #[afQ l,vS n] w fun e w'=>e=.returned (vS (abO l n))/\Below w.heap.size w w':=by
 refine aC8.calls l.f0.f0 l.f0.f1 l.f1 l.f2 n.f0 n.f1 _ _ w ?_
 unfold VI at hl hn
 unfold aC8.f yT.f ZZ.f abO
 simp only[Option.bind_some]
 split
 ·rw[jF (by omega) (by omega),jF (by omega) (by omega)]
 ·rw[jF (by omega) (by omega),jF (by omega) (by omega)]
theorem bfR (l:dR) (n:aH) (hl:VI l.f0) (hn:VI n) (w:World):Calls Tryd.prog 129 #[afQ l,vS n] w fun e w'=>e=.returned (vS (aaH l n))/\Below w.heap.size w w':=by
 refine aDC.calls l.f0.f0 l.f0.f1 l.f1 l.f2 n.f0 n.f1 _ _ w ?_
 unfold VI at hl hn
 unfold aDC.f yT.f ZZ.f aaH
 simp only[Option.bind_some]
 split
 ·rw[jF (by omega) (by omega),jF (by omega) (by omega)]
 ·rw[jF (by omega) (by omega),jF (by omega) (by omega)]
theorem bfS (l:dR) (a b:aH) (ha:VI a) (hb:VI b) (w:World):Calls Tryd.prog 130 #[afQ l,vS a,vS b] w fun e w'=>e=.returned (vS (abP l a b))/\Below w.heap.size w w':=by
 refine aDD.calls l.f0.f0 l.f0.f1 l.f1 l.f2 a.f0 a.f1 b.f0 b.f1 _ _ w ?_
 unfold VI at ha hb
 unfold aDD.f yT.f abP
 simp only[Option.bind_some]
 split
 ·rw[jF (by omega) (by omega),jF (by omega) (by omega)]
 ·rw[jF (by omega) (by omega),jF (by omega) (by omega)]
theorem aD0 (a b:aH) (w:World):Calls Tryd.prog 108 #[vS a,vS b] w fun e w'=>e=.returned (vS (QG a b))/\Below w.heap.size w w':=
 aI0.calls a.f0 a.f1 b.f0 b.f1 _ _ w rfl
def uH (l:dR):Prop:=0<=l.f0.f0/\l.f0.f0<=l.f0.f1/\l.f0.f1<=144
theorem aqT {ls:List dR} {i:Nat} (h:i<ls.length):dP ls i∈ls:=by
 rw[dP,Int.toNat_natCast,List.getD_eq_getElem?_getD,List.getElem?_eq_getElem h]
 exact List.getElem_mem h
theorem aVU {M:Int} {ls:List dR} (hM:0<=M/\M<=144) (hl:∀ l∈ls,uH l):∀ i,i<=ls.length->0<=(gU M ls i).f0/\(gU M ls i).f1<=M/\(yY M ls i=true->(gU M ls i).f0<=(gU M ls i).f1):=by
 intro i
 induction i with
 |zero=>intro _;exact⟨Int.le_refl _,hM.1,fun _=>Int.le_refl _⟩
 |succ i ih=>
  intro h
  refine⟨?_,?_,?_⟩
  ·unfold gU QG mx;simp only;split<;>omega
  ·unfold gU QG mn;simp only;split<;>omega
  ·intro hk
   rw[yY,Bool.and_eq_true,decide_eq_true_iff]at hk
   exact hk.2
theorem aKV {M:Int} {ls:List dR} {i j:Nat} (h:yY M ls j=true) (hij:i<=j):yY M ls i=true:=by
 induction j with
 |zero=>
  obtain rfl:i=0:=by omega
  exact h
 |succ j ih=>
  rcases Nat.lt_or_ge j i with hl|hl
  ·obtain rfl:i=j+1:=by omega
   exact h
  ·rw[yY,Bool.and_eq_true]at h
   exact ih h.1 hl
theorem au4 {M:Int} {ls:List dR} (hM:0<=M/\M<=144) (hl:∀ l∈ls,uH l) {i:Nat} (hi:i<=ls.length) (hk:yY M ls i=true):(0<=(gU M ls i).f0/\(gU M ls i).f0<=144)/\(0<=(gU M ls i).f1/\(gU M ls i).f1<=144):=by
 obtain⟨h1,h2,h3⟩:=aVU hM hl i hi
 have:=h3 hk
 omega
theorem bfT {x:aH} (h:(0<=x.f0/\x.f0<=144)/\(0<=x.f1/\x.f1<=144)):VI x:=by unfold VI;omega
theorem uH.sm {l:dR} (h:uH l):VI l.f0:=by unfold uH at h;unfold VI;omega
end Go.Proofs.YtcmfnebcmmklkaaDoor.Hand
namespace Go.Proofs.YtcmfnebcmmklkaaDoor.Hand
open Go.RowKit Go.Shelf Go.Proofs.YtcmfnebcmmklkaaDoorW.dQ Go.Proofs.YtcmfnebcmmklkaaDoorW.gG
theorem bkH:∀ s,s<256->s≠0->bitsOf s=Lib.ctz 64 s::bitsOf (s&&& (s - 1))/\s&&& (s - 1)<s/\bits .and .u64 (s:Int) ((s:Int) - 1)=((s&&& (s - 1):Nat):Int)/\(bitsOf s).length<=8:=by decide+kernel
theorem bkI:∀ s,s<256->(bitsOf s).length<=8:=by decide+kernel
def iQ (s:Nat):List Int:=(bitsOf s).map Int.ofNat
theorem awX (s:Nat) (hs:s<256) (w:World) (hT:lZ w):
  Calls Tryd.prog 78 #[.int .u64 s] w fun e w'=>∃ v,e=.returned v/\eH w' w.heap.size v (iQ s)/\(s=0->v=.slice none 0 0)/\Below w.heap.size w w':=by
 go_enter Tryd.func78,Tryd.ntmps78
 go_wp2
 go_loopw [0,2] (fun sv lv w'=>∃ (m:Nat) (pre:List Nat),m<256/\sv=.int .u64 m/\Hid (bitsOf s=pre++bitsOf m)/\pre.length<=8/\(pre=[]->m=s/\lv=.slice none 0 0)/\eH w' w.heap.size lv (pre.map Int.ofNat)/\Below w.heap.size w w') (fun sv _ _=>(intOf sv).toNat)
 case atStart=>exact⟨s,[],hs,rfl,Lib.hid rfl,by simp,fun _=>⟨rfl,rfl⟩,World.ownsRow_nil _ _ _ _,Below.refl _ _⟩
 case round=>
  obtain⟨m,pre,hm,rfl,hb,hpl,hnil,ho,hB⟩:=hrel
  have hnil:=Lib.hid hnil
  by_cases h0:m=0
  ·subst h0
   have e0:Hid (iQ s=pre.map Int.ofNat):=Lib.hid (by unfold iQ;rw[hb.out];simp[show bitsOf 0=[] by decide])
   go_wp2
   go_ret
   exact⟨_,rfl,e0.out ▸ ho,fun e=>(hnil.out (by have h7:=hb.out;rw[e]at h7;simpa[show bitsOf 0=[] by decide]using h7)).2,hB⟩
  ·have hne:((m:Int)!=0)=true:=by simp[h0]
   obtain⟨h1,h2,h3,h4⟩:=bkH m hm h0
   obtain⟨A,c,rfl⟩:=ho.slice
   have hsum:pre.length+(bitsOf m).length<=8:=by
    have e1:=(bkI s hs)
    rw[hb.out,List.length_append]at e1
    exact e1
   have hlt:pre.length<8:=by
    rw[h1,List.length_cons]at hsum
    omega
   have hb2:Hid (bitsOf s=(pre++[Lib.ctz 64 m])++bitsOf (m&&& (m - 1))):=Lib.hid (by rw[hb.out,h1];simp)
   have h3':=Lib.hid h3
   obtain⟨n,hn⟩:∃ n,(pre.map Int.ofNat).length=n:=⟨_,rfl⟩
   have hn8:n<8:=by rw[<-hn];simpa using hlt
   have ho':wr.ownsRow w.heap.size 3 1 (.slice A n c) n ((pre.map Int.ofNat).map (Value.int .i64)):=by rw[<-hn];exact ho
   rw[hn]
   clear ho h1 h3 h4 hsum hn
   have hTr:=hT.below hB
   obtain⟨i3,hi3,hz3⟩:=Option.map_eq_some_iff.1 info3
   simp only[Prod.mk.injEq]at hz3
   obtain⟨hz0,hz1,hz2⟩:=hz3
   obtain⟨z,hz⟩:∃ z,Lib.ctz 64 m=z:=⟨_,rfl⟩
   have hcall:=Lib.hid (baU m (by omega) h0 _ hTr)
   rw[hz]at hcall hb2
   go_wp2_with fail
   refine hcall.out.mono ?_
   rintro e w2 ⟨rfl,rfl⟩
   go_wp2_with (at_builtin;refine wpList_append_own _ rfl _ _ 34 rfl w.heap.size 3 i3 (.int .i64 0) 1 8 Tryd.underlying34 hi3 hz0 hz1 hz2 rfl (by decide) _ _ _ rfl (World.ownsRow.alloc ho' _) ⟨_,0,none⟩ 1 1 [.int .i64 z] rfl rfl ?c1 ?c2 ?c3 ?c4 ?c5 ?_)
   case c1=>
    intro j u hj
    match j,hj with
    |0,hj=>simp at hj;subst hj;simp[Addr.add]
   case c2=>intro u hu;simp at hu;subst hu;rfl
   case c3=>unfold maxLen;omega
   case c4=>omega
   case c5=>have:=hB.size;simp;omega
   intro v1 W1 hown hgrow _
   have bkJ:eH W1 w.heap.size v1 ((pre++[z]).map Int.ofNat):=by
    have hl:((pre++[z]).map Int.ofNat).length=n+1:=by
     have:=ho'.1
     simp at this ⊢
     exact this
    unfold eH
    rw[hl]
    simpa using hown
   have h2a:eH (wr.alloc (.cells #[.int .i64 z] 3)) w.heap.size (.slice A n c) (pre.map Int.ofNat):=by
    have hl:(pre.map Int.ofNat).length=n:=by
     have:=ho'.1
     simpa using this
    have:=World.ownsRow.alloc ho' (.cells #[.int .i64 z] 3)
    unfold eH
    rw[hl]
    exact this
   have hB1:Below w.heap.size w W1:=eH.below h2a hgrow (hB.alloc hB.size _) (by have:=hB.size;simp;omega)
   clear hown hgrow h2a ho' hz0 hz1 hz2 hi3 hB
   go_wp2
   go_roundw
   case rel=>exact⟨m&&& (m - 1),pre++[z],by omega,by rw[h3'.out],hb2,by simp;omega,fun e=>absurd e (by simp),bkJ,hB1⟩
   case measure=>rw[h3'.out];simp[intOf];omega
end Go.Proofs.YtcmfnebcmmklkaaDoor.Hand
