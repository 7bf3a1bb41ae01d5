/- What the laws of chapter 9 share: words about rows and regions, the walks of the package dozen, and that known returns true. Part 3 of 15. -/
import Derived.Test.YtcmfnebcmmklkaaDoorM2
import Derived.Test.YtcmfnebcmmklkaaDoorM1
import Derived.Test.YtcmfnebcmmklkaaDoorProg
import Derived.WalkKit
import Derived.KernelRfl
import Derived.Deep.QuietTactic
import Derived.BigQuiet
import Derived.Lib.Hide
import Derived.Deep.LoopGhost
import Derived.Shelf.Spec.TrailingZeros
import Derived.Laws.StructEq
import Derived.Below
import Derived.Deep.Draws
import Derived.Deep.AppendLies
import Derived.Maps.AppendAt
import Derived.OwnWalk
import Derived.Laws.BytesArg
import Derived.Laws.MakeOwn
import Derived.Laws.OwnMore
import Derived.Deep.OwnRows
import Derived.Tactics
import Derived.Lib.ConvBytes
import Derived.Laws.Slices
import Derived.RowKit3
import Derived.WideLaws
import Derived.Deep.DeepCutAuto
import Derived.Deep.CutBlock
import Derived.Deep.RegionHeld3
import Derived.Laws.Rows
import Derived.Lib.AppendStr
import Derived.ArgAppend
import Derived.Laws.IdiomCopy
import Derived.OrdersHeld
import Derived.Laws.BitsLemmas
import Derived.RowKit
import Derived.RangeFuncNested
import Derived.RangeFuncBound
import Derived.RangeFuncCalls
import Derived.RangeFuncLeaves
import Derived.Shelf.Abstract
import Derived.OwnWalkIn
import Derived.TacticsInMore
import Derived.LoopNIn
import Derived.LoopIn
set_option linter.unusedVariables false
set_option linter.unusedSimpArgs false
set_option maxRecDepth 100000
set_option maxHeartbeats 8000000
namespace Go.Proofs.YtcmfnebcmmklkaaDoorW.dQ
open Go.RowKit
def Kept (w W:World) (S:Nat->Prop):Prop:=w.heap.size<=W.heap.size/\∀ i,i<w.heap.size->¬ S i->W.heap[i]? =w.heap[i]?
section
variable {w W W2:World} {S S2 S':Nat->Prop}
theorem Kept.refl (w:World) (S:Nat->Prop):Kept w w S:=⟨Nat.le_refl _,fun _ _ _=>rfl⟩
theorem Kept.of_below (h:Below w.heap.size w W) (S:Nat->Prop):Kept w W S:=⟨h.size,fun i hi _=>h.block i hi⟩
theorem Kept.mono (h:Kept w W S) (hs:∀ k,S k->S' k):Kept w W S':=⟨h.1,fun i hi hn=>h.2 i hi (fun hk=>hn (hs i hk))⟩
theorem Kept.aTK (h:Kept w W S) (k:Kept W W2 S2) (hs:∀ k,S2 k->S k∨w.heap.size<=k):Kept w W2 S:=
 ⟨Nat.le_trans h.1 k.1,fun i hi hn=>(k.2 i (Nat.lt_of_lt_of_le hi h.1) (fun h2=>(hs i h2).elim hn (fun h3=>by omega))).trans (h.2 i hi hn)⟩
theorem Kept.below (h:Kept w W S) (hb:Below W.heap.size W W2):Kept w W2 S:=h.aTK (Kept.of_below hb (fun _=>False)) (fun _ hk=>hk.elim)
theorem Kept.alloc (h:Kept w W S) (o:Obj):Kept w (W.alloc o) S:=h.below (PW (Below.refl _ _) o)
theorem Kept.drew (h:Kept w W S):Kept w W.drew S:=h
theorem Kept.drewN (h:Kept w W S) (m:Nat):Kept w (W.drewN m) S:=h
theorem Kept.setCell (h:Kept w W S) {p:Addr} (hp:S p.block∨w.heap.size<=p.block) (u:Value):Kept w (W.setCell p u) S:=
 h.aTK (S2:=fun k=>k=p.block) ⟨by simp[World.setCell],fun i _ hn=>Below.heap_setCell W p u i hn⟩ (fun k hk=>by rw[hk];exact hp)
theorem Kept.keep {g:Nat} (h:PY w W g none) (k:Kept W W2 S2) (hs:∀ k,S2 k->w.heap.size<=k):PY w W2 g none:=
 ⟨Nat.le_trans h.1 k.1,fun i hi hg hr=>(k.2 i (Nat.lt_of_lt_of_le hi h.1) (fun h2=>by have:=hs i h2;omega)).trans (h.2 i hi hg hr)⟩
end
namespace Kd
section
variable {α:Type} {d:Kd α} {e base n c:Nat} {ok oki S S2:Nat->Prop} {w w0 W W1 W2:World} {v:Value} {A:Option Addr} {xs:List α} {i:Int} {cs:List Value}
end
end Kd
def YY (P:World->Prop) (W:World) (ok:Nat->Prop):Prop:=∀ W':World,(∀ k,ok k->k<W.heap.size->W'.heap[k]? =W.heap[k]?)->P W'
theorem baH {W W1:World} {k:Nat} (h:W1.heap[k]? =W.heap[k]?) (hlt:k<W.heap.size):k<W1.heap.size:=by
 rw[Array.getElem?_eq_getElem hlt]at h
 exact(Array.getElem?_eq_some_iff.1 h).1
namespace YY
variable {P Q:World->Prop} {W W1:World} {ok ok':Nat->Prop}
theorem now (h:YY P W ok):P W:=h W (fun _ _ _=>rfl)
theorem mono (h:YY P W ok) (hok:∀ k,ok k->ok' k):YY P W ok':=fun W' hW=>h W' (fun k hk hlt=>hW k (hok k hk) hlt)
theorem bound (h:YY P W ok):YY P W (fun k=>ok k/\k<W.heap.size):=fun W' hW=>h W' (fun k hk hlt=>hW k ⟨hk,hlt⟩ hlt)
theorem step (h:YY P W ok) (hm:∀ k,ok k->k<W.heap.size->W1.heap[k]? =W.heap[k]?):YY P W1 ok:=fun W' hW=>h W' (fun k hk hlt=>(hW k hk (baH (hm k hk hlt) hlt)).trans (hm k hk hlt))
theorem old (h:YY P W ok) (hb:Below W.heap.size W W1):YY P W1 (fun k=>ok k/\k<W.heap.size):=(h.bound).step (fun k _ hlt=>hb.block k hlt)
end YY
namespace Kd
def F {α:Type} (d:Kd α) (W:World) (ok:Nat->Prop) (A:Option Addr) (n:Nat) (xs:List α):Prop:=YY (fun W=>d.C W A n xs) W ok
def FK {α:Type} (d:Kd α) (W:World) (ok:Nat->Prop) (x:α) (c:List Value):Prop:=YY (fun W=>d.K W x c) W ok
section
variable {α β:Type} {d:Kd α} {e base n n' cc g N:Nat} {ok ok' lS S:Nat->Prop} {w w0 w1 W W1:World} {A A':Option Addr} {u v v1:Value} {xs:List α} {xs':List β} {d':Kd β} {x:α} {c:List Value}
theorem bER (h:F d W ok A n xs):d.C W A n xs:=YY.now h
theorem bCI (h:F d W ok A n xs) (hok:∀ k,ok k->ok' k):F d W ok' A n xs:=YY.mono h hok
theorem bLA (h:F d W ok A n xs):F d W (fun k=>ok k/\k<W.heap.size) A n xs:=YY.bound h
theorem bLB (h:F d W ok A n xs) (hm:∀ k,ok k->k<W.heap.size->W1.heap[k]? =W.heap[k]?):F d W1 ok A n xs:=YY.step h hm
theorem bCJ (h:F d W ok A n xs) (hb:Below W.heap.size W W1):F d W1 ok A n xs:=bLB h (fun k _ hlt=>hb.block k hlt)
theorem bPU (h:F d W ok A n xs) (o:Obj):F d (W.alloc o) ok A n xs:=bCJ h (PW (Below.refl _ _) o)
theorem bPV (h:F d W ok A n xs):F d W.drew ok A n xs:=bCJ h (aSL (Below.refl _ _))
theorem bPW (h:F d W ok A n xs) (m:Nat):F d (W.drewN m) ok A n xs:=bCJ h (YV (Below.refl _ _) m)
theorem bPX (h:F d W ok A n xs) {p:Addr} (hok:∀ k,ok k->k≠p.block) (u:Value):F d (W.setCell p u) ok A n xs:=bLB h (fun k hk _=>Below.heap_setCell W p u k (hok k hk))
theorem baI (d:Kd α) (W:World) (ok:Nat->Prop):F d W ok none ([]:List α).length []:=fun W' _=>a9M d W'
theorem bPY (h:F d W ok A n xs) (hbase:∀ k,v.ownBlock=some k->W.heap.size<=k) (hb:Below W.heap.size W W1):F d W1 (fun k=>ok k/\some k≠v.ownBlock) A n xs:=
 bCI (YY.old h hb) (fun k hk=>⟨hk.1,fun he=>by have:=hbase k he.symm;have:=hk.2;omega⟩)
theorem bPZ (h:F d W ok A n xs) (a:Nat) (ha:W.heap.size<=a):F d W (fun k=>ok k/\k≠a) A n xs:=bCI (bLA h) (fun k hk=>⟨hk.1,by have:=hk.2;omega⟩)
theorem bP0 (h:F d W (fun k=>ok k/\some k≠v.ownBlock) A n xs) (hg:W.grownBy W1 v.ownBlock) (hat:v1.ownBlock=v.ownBlock∨∃ b,v1.ownBlock=some b/\W.heap.size<=b):F d W1 (fun k=>ok k/\some k≠v1.ownBlock) A n xs:=by
 refine bCI (YY.step (bLA h) (fun k hk hlt=>hg.block k hlt hk.1.2)) (fun k hk=>⟨hk.1.1,?_⟩)
 rcases hat with hat|⟨b,hb,hle⟩
 ·rw[hat];exact hk.1.2
 ·rw[hb]
  intro he
  injection he with he
  have:=hk.2
  omega
theorem R_F (h:d.R e W base ok (.slice A n cc) xs):F d W ok A n xs:=fun W' hW=>by
 have h2:=dB (aSY h hW)
 rw[h2.1]
 exact h2.2.2
theorem aPD (h:FK d W ok x c):d.K W x c:=YY.now h
theorem bp7 (h:FK d W ok x c) (hok:∀ k,ok k->ok' k):FK d W ok' x c:=YY.mono h hok
theorem bES (h:FK d W ok x c):FK d W (fun k=>ok k/\k<W.heap.size) x c:=YY.bound h
theorem bET (h:FK d W ok x c) (hm:∀ k,ok k->k<W.heap.size->W1.heap[k]? =W.heap[k]?):FK d W1 ok x c:=YY.step h hm
theorem baJ (h:d.M W base ok x c):FK d W ok x c:=fun _ hW=>d.BK (aSZ h hW)
theorem bP2 (W:World) (g:Nat):∃ W':World,(∀ k,k≠g->W'.heap[k]? =W.heap[k]?)/\∀ a:Addr,a.block=g->W'.cell? a=none:=by
 refine⟨{ W with heap:=W.heap.setIfInBounds g (.cells #[] 0)},fun k hk=>by simp[Ne.symm hk],fun a ha=>?_⟩
 subst ha
 by_cases hlt:a.block<W.heap.size
 ·simp[World.cell?,hlt]
 ·simp[World.cell?,hlt]
end
end Kd
namespace Kd
def chunks (sz:Nat) (n:Nat) (inner:List Value):List (List Value):=(List.range n).map fun j=>(inner.drop (j*sz)).take sz
theorem atF (sz n:Nat) (inner:List Value):(chunks sz n inner).length=n:=by simp[chunks]
theorem baK {sz n:Nat} {inner:List Value} {j:Nat} (hj:j<n):(chunks sz n inner)[j]? =some ((inner.drop (j*sz)).take sz):=by simp[chunks,hj]
theorem aTL {sz n:Nat} {inner:List Value} {j:Nat} {c:List Value} (h:(chunks sz n inner)[j]? =some c):c=(inner.drop (j*sz)).take sz:=by
 have hj:j<n:=by have:=(List.getElem?_eq_some_iff.1 h).1;rwa [atF]at this
 rw[baK hj]at h
 injection h with h
 exact h.symm
theorem baL {α:Type} {Rr:α->List Value->Prop} {sz:Nat} {xs:List α} {inner:List Value} (h:gX Rr sz xs inner) (hR:∀ x c,Rr x c->c.length=sz/\∀ u∈c,u.oneCell'=true):gX (fun x cs=>cs=x/\cs.length=sz/\∀ u∈cs,u.oneCell'=true) sz (chunks sz xs.length inner) inner:=by
 refine⟨by rw[atF];exact h.1,fun j p hj=>?_⟩
 have hjl:j<xs.length:=by have:=(List.getElem?_eq_some_iff.1 hj).1;rwa [atF]at this
 have hp:=aTL hj
 exact⟨hp.symm,hR _ _ (h.2 j _ (List.getElem?_eq_getElem hjl))⟩
section
variable {α:Type} {d:Kd α} {e base n cc g:Nat} {ok ok' lS S:Nat->Prop} {w w1 W W1:World} {A:Option Addr} {u v v1:Value} {xs:List α} {x:α} {c:List Value}
theorem bP3 (h:F d W ok A n xs) (z:α) (i:Int) (h0:0<=i) (h1:i<n):
  ∃ ad c,A=some ad/\c.length=d.sz/\FK d W ok (xs.getD i.toNat z) c/\(∀ j u,c[j]? =some u->W.cell? (ad.add (i.toNat*d.sz+j))=some u)/\(0<d.sz->ok ad.block):=by
 obtain⟨ad,c,rfl,hcl,hK,hcc⟩:=amH (bER h) z i h0 h1
 have hin:0<d.sz->ok ad.block:=by
  intro hs
  by_cases hk:ok ad.block
  ·exact hk
  ·obtain⟨W',h2,h3⟩:=bP2 W ad.block
   obtain⟨ad',c',he,hcl',_,bEU⟩:=amH (h W' (fun k hk' _=>h2 k (fun e=>hk (e ▸ hk')))) z i h0 h1
   injection he with he
   subst he
   have h4:=bEU 0 _ (List.getElem?_eq_getElem (by omega))
   rw[h3 _ (add_block _ _)]at h4
   cases h4
 refine⟨ad,c,rfl,hcl,fun W' hW=>?_,hcc,hin⟩
 obtain⟨ad',c',he,hcl',hK',bEU⟩:=amH (h W' hW) z i h0 h1
 injection he with he
 subst he
 have hc:c=c':=by
  apply List.ext_getElem?
  intro j
  by_cases hj:j<d.sz
  ·have hb:W'.heap[ad.block]? =W.heap[ad.block]? :=by
    have h5:=hcc j _ (List.getElem?_eq_getElem (by omega))
    have h6:=World.block_lt_of_cell? W _ h5
    rw[add_block]at h6
    exact hW _ (hin (by omega)) h6
   have h5:=hcc j _ (List.getElem?_eq_getElem (by omega))
   have h6:=bEU j _ (List.getElem?_eq_getElem (by omega))
   have h7:W'.cell? (ad.add (i.toNat*d.sz+j))=W.cell? (ad.add (i.toNat*d.sz+j)):=by simp[World.cell?,add_block,hb]
   rw[h7,h5]at h6
   rw[List.getElem?_eq_getElem (by omega),List.getElem?_eq_getElem (by omega)]
   exact h6
  ·rw[List.getElem?_eq_none (by omega),List.getElem?_eq_none (by omega)]
 rw[hc]
 exact hK'
theorem bP4 (h:F d W ok A n xs):EY (fun x c=>FK d W ok x c) d.sz W A n xs:=by
 obtain⟨hl,hm,hn⟩:=bER h
 refine⟨hl,hm,fun hp=>?_⟩
 obtain⟨ad,rfl,_⟩:=hn hp
 refine⟨ad,rfl,fun j p hj=>?_⟩
 obtain⟨hjl,hjp⟩:=List.getElem?_eq_some_iff.1 hj
 obtain⟨ad',c,he,hcl,hK,hcc,_⟩:=bP3 h p (j:Int) (by omega) (by omega)
 injection he with he
 subst he
 simp only[Int.toNat_natCast]at hK hcc
 rw[List.getD_eq_getElem?_getD,hj]at hK
 exact⟨c,hcl,hK,hcc⟩
def N {α:Type} (d:Kd α) (e:Nat) (w:World) (base:Nat) (ok:Nat->Prop) (v:Value) (xs:List α):Prop:=
 (∀ k,v.ownBlock=some k->ok k)/\∃ rows:List (List Value),rows.length=xs.length/\(raw d.sz).R e w base (fun k=>some k=v.ownBlock) v rows/\∀ (j:Nat) (x:α) (c:List Value),xs[j]? =some x->rows[j]? =some c->FK d w (fun k=>ok k/\some k≠v.ownBlock) x c
theorem bLC {sz:Nat} {rows:List (List Value)} (h:(raw sz).R e w base ok v rows):(raw sz).R e w base (fun k=>some k=v.ownBlock) v rows:=bEQ rfl h
theorem bLD {sz:Nat} {rows:List (List Value)} (h:(raw sz).R e w base ok v rows):(raw sz).R e w base (fun _=>True) v rows:=bQ h (fun _ _=>trivial)
theorem R_N (h:d.R e w base ok v xs):N d e w base ok v xs:=by
 obtain⟨h0,inner,ho,hr⟩:=h
 refine⟨h0,chunks d.sz xs.length inner,atF _ _ _,⟨fun k hk=>hk.symm,inner,by rw[atF];exact ho,baL hr (fun x c hp=>⟨d.QV (d.BK hp),d.PZ (d.BK hp)⟩)⟩,fun j x c hx hc=>?_⟩
 rw[aTL hc]
 exact baJ (hr.2 j x hx)
theorem TQ (d:Kd α) (e:Nat) (w:World) (base:Nat) (ok:Nat->Prop):N d e w base ok (.slice none 0 0) []:=R_N (xI _ _ _ _ _)
theorem ac8 (h:N d e w base ok v xs) (hok:∀ k,ok k->ok' k):N d e w base ok' v xs:=by
 obtain⟨h0,rows,hl,hR,hf⟩:=h
 exact⟨fun k hk=>hok k (h0 k hk),rows,hl,hR,fun j x c hx hc=>bp7 (hf j x c hx hc) (fun k hk=>⟨hok k hk.1,hk.2⟩)⟩
theorem aE9 (h:N d e w base ok v xs):∀ k,v.ownBlock=some k->k<w.heap.size:=by
 obtain⟨_,rows,_,hR,_⟩:=h
 exact dY hR
theorem arD (h:N d e w base ok v xs):∀ k,v.ownBlock=some k->base<=k:=by
 obtain⟨_,rows,_,hR,_⟩:=h
 exact fF hR
theorem az4 (h:N d e w base ok v xs):∀ k,v.ownBlock=some k->∃ cells,w.heap[k]? =some (.cells cells e (0,0)):=by
 obtain⟨_,rows,_,hR,_⟩:=h
 exact mM hR
theorem bCK (h:N d e w base ok v xs) {t:Nat} {cells:Array Value} (hb:w.heap[g]? =some (.cells cells t (0,0))) (ht:e≠t):some g≠v.ownBlock:=by
 obtain⟨_,rows,_,hR,_⟩:=h
 exact mW hR hb ht
theorem bCL (h:N d e w base ok v xs):N d e w base (fun k=>ok k/\k<w.heap.size) v xs:=by
 have hlt:=aE9 h
 obtain⟨h0,rows,hl,hR,hf⟩:=h
 exact⟨fun k hk=>⟨h0 k hk,hlt k hk⟩,rows,hl,hR,fun j x c hx hc=>bp7 (bES (hf j x c hx hc)) (fun k hk=>⟨⟨hk.1.1,hk.2⟩,hk.1.2⟩)⟩
theorem apI {base':Nat} (h:N d e w base ok v xs) (hb:base'<=base):N d e w base' ok v xs:=by
 obtain⟨h0,rows,hl,hR,hf⟩:=h
 exact⟨h0,rows,hl,eF hR hb,hf⟩
theorem bCM (h:N d e w base ok v xs) (hm:∀ k,ok k->k<w.heap.size->w1.heap[k]? =w.heap[k]?):N d e w1 base ok v xs:=by
 obtain⟨h0,rows,hl,hR,hf⟩:=h
 exact⟨h0,rows,hl,aSY hR (fun k hk hlt=>hm k (h0 k hk.symm) hlt),fun j x c hx hc=>bET (hf j x c hx hc) (fun k hk hlt=>hm k hk.1 hlt)⟩
theorem apD (h:N d e w base ok v xs) (hb:Below w.heap.size w w1):N d e w1 base ok v xs:=bCM h (fun k _ hk=>hb.block k hk)
theorem aaJ (h:N d e w base ok v xs) (o:Obj):N d e (w.alloc o) base ok v xs:=apD h (PW (Below.refl _ _) o)
theorem RD (h:N d e w base ok v xs):N d e w.drew base ok v xs:=apD h (aSL (Below.refl _ _))
theorem aaK (h:N d e w base ok v xs) (m:Nat):N d e (w.drewN m) base ok v xs:=apD h (YV (Below.refl _ _) m)
theorem bq3 (h:N d e w base ok v xs) {p:Addr} (hok:∀ k,ok k->k≠p.block) (u:Value):N d e (w.setCell p u) base ok v xs:=bCM h (fun k ho _=>Below.heap_setCell w p u k (hok k ho))
theorem apL (h:N d e W base ok v xs) (hbase:∀ k,u.ownBlock=some k->W.heap.size<=k) (hb:Below W.heap.size W w1):N d e w1 base (fun k=>ok k/\some k≠u.ownBlock) v xs:=
 ac8 (apD (bCL h) hb) (fun k hk=>⟨hk.1,fun he=>by have:=hbase k he.symm;have:=hk.2;omega⟩)
theorem bLE (h:N d e w base ok v xs) (a:Nat) (ha:w.heap.size<=a):N d e w base (fun k=>ok k/\k≠a) v xs:=ac8 (bCL h) (fun k hk=>⟨hk.1,by have:=hk.2;omega⟩)
theorem bP5 (h:N d e W base (fun k=>ok k/\some k≠u.ownBlock) v xs) {u1:Value} (hg:W.grownBy w1 u.ownBlock) (hat:u1.ownBlock=u.ownBlock∨∃ b,u1.ownBlock=some b/\W.heap.size<=b):N d e w1 base (fun k=>ok k/\some k≠u1.ownBlock) v xs:=by
 refine ac8 (bCM (bCL h) (fun k hk hlt=>hg.block k hlt hk.1.2)) (fun k hk=>⟨hk.1.1,?_⟩)
 rcases hat with hat|⟨b,hb,hle⟩
 ·rw[hat];exact hk.1.2
 ·rw[hb]
  intro he
  injection he with he
  have:=hk.2
  omega
theorem aoB (h:N d e W base ok v xs) (hb:Below W.heap.size W w1):N d e w1 base (fun k=>ok k/\k<W.heap.size) v xs:=apD (bCL h) hb
theorem agE {b:Nat} (h:N d e w1 base (fun k=>ok k/\k<b) v xs) (hbase:∀ k,u.ownBlock=some k->b<=k):N d e w1 base (fun k=>(ok k/\some k≠u.ownBlock)/\k<b) v xs:=
 ac8 h (fun k hk=>⟨⟨hk.1,fun e=>Nat.lt_irrefl _ (Nat.lt_of_lt_of_le hk.2 (hbase k e.symm))⟩,hk.2⟩)
theorem aj3 (h:N d e w base ok v xs):∃ A c,v=.slice A xs.length c:=by
 obtain⟨_,rows,hl,hR,_⟩:=h
 obtain⟨A,c,he⟩:=dA hR
 exact⟨A,c,by rw[he,hl]⟩
theorem aeJ {n c:Nat} (h:N d e w base ok (.slice A n c) xs):n=xs.length/\n<=c/\d.C w A xs.length xs:=by
 obtain⟨_,rows,hl,hR,hf⟩:=h
 obtain⟨hn,hc,hC⟩:=dB hR
 refine⟨by omega,hc,?_⟩
 rw[hl]at hC
 refine⟨rfl,hC.2.1,fun hp=>?_⟩
 obtain⟨ad,he,hcell⟩:=hC.2.2 hp
 refine⟨ad,he,fun j p hj=>?_⟩
 have hjl:j<rows.length:=by have:=(List.getElem?_eq_some_iff.1 hj).1;omega
 obtain⟨c',hcl,hK,hcc⟩:=hcell j _ (List.getElem?_eq_getElem hjl)
 have hk:=aPD (hf j p _ hj (List.getElem?_eq_getElem hjl))
 refine⟨c',hcl,?_,hcc⟩
 rw[show c'=rows[j]from hK.1]
 exact hk
theorem N_F {n:Nat} (h:N d e w base ok (.slice A n cc) xs):F d w ok A n xs:=fun W' hW=>by
 have h2:=aeJ (bCM h hW)
 rw[h2.1]
 exact h2.2.2
theorem bP6 {n cap:Nat} (h:N d e W base ok (.slice (some ⟨g,0,none⟩) n cap) xs) (z:α) (i:Int) (h0:0<=i) (h1:i<n):
  ∃ c,c.length=d.sz/\FK d W (fun k=>ok k/\k≠g) (xs.getD i.toNat z) c/\(∀ j u,c[j]? =some u->W.cell? ⟨g,i.toNat*d.sz+j,none⟩=some u)/\∀ j,W.frozen? ⟨g,i.toNat*d.sz+j,none⟩=false:=by
 obtain⟨_,rows,hl,hR,hf⟩:=h
 have hn:=(dB hR).1
 obtain⟨c,hcl,hM,hcc,hfr⟩:=atB hR [] i h0 h1
 have hil:i.toNat<rows.length:=by omega
 have bLG:i.toNat<xs.length:=by omega
 have hc:c=rows[i.toNat]:=by
  have h2:=hM.1
  rwa [List.getD_eq_getElem?_getD,List.getElem?_eq_getElem hil]at h2
 refine⟨c,hcl,?_,hcc,hfr⟩
 rw[List.getD_eq_getElem?_getD,List.getElem?_eq_getElem bLG]
 exact bp7 (hf _ _ _ (List.getElem?_eq_getElem bLG) (by rw[hc];exact List.getElem?_eq_getElem hil)) (fun k hk=>⟨hk.1,fun he=>hk.2 (by rw[he];simp[Value.ownBlock])⟩)
theorem bq8 {ad:Addr} {n cap:Nat} (h:N d e W base ok (.slice (some ad) n cap) xs) (z:α) (i:Int) (h0:0<=i) (h1:i<n):
  ∃ c,c.length=d.sz/\FK d W (fun k=>ok k/\some k≠(Value.slice (some ad) n cap).ownBlock) (xs.getD i.toNat z) c/\∀ j u,c[j]? =some u->W.cell? (ad.add (i.toNat*d.sz+j))=some u:=by
 obtain⟨g,rfl⟩:∃ g,ad=⟨g,0,none⟩:=by
  obtain⟨_,rows,_,hR,_⟩:=h
  exact bPT hR
 obtain⟨c,hcl,hM,hcc,_⟩:=bP6 h z i h0 h1
 refine⟨c,hcl,bp7 hM (fun k hk=>⟨hk.1,fun he=>hk.2 (by simpa[Value.ownBlock]using he)⟩),fun j u hu=>?_⟩
 rw[bPP,Nat.zero_add]
 exact hcc j u hu
end
end Kd
namespace Kd
section
variable {α:Type} {d:Kd α} {e base n cap g:Nat} {ok ok' lS:Nat->Prop} {w w1 W:World} {v v1:Value} {xs ys:List α}
theorem bLH {rows news:List (List Value)} (h0:∀ k,v.ownBlock=some k->ok k) (hl:rows.length=xs.length) (hf:∀ (j:Nat) (x:α) (c:List Value),xs[j]? =some x->rows[j]? =some c->FK d W (fun k=>ok k/\some k≠v.ownBlock) x c)
  (hl2:news.length=ys.length) (hf2:∀ (j:Nat) (x:α) (c:List Value),ys[j]? =some x->news[j]? =some c->FK d W lS x c) (YW:∀ k,lS k->ok k/\some k≠v.ownBlock) (hfresh:∀ k,W.heap.size<=k->ok k)
  (hR:(raw d.sz).R e w1 base (fun _=>True) v1 (rows++news)) (hg:W.grownBy w1 v.ownBlock) (hat:v1.ownBlock=v.ownBlock∨∃ b,v1.ownBlock=some b/\W.heap.size<=b):N d e w1 base ok v1 (xs++ys):=by
 have hne:∀ k,some k≠v.ownBlock->k<W.heap.size->some k≠v1.ownBlock:=by
  intro k hk hlt
  rcases hat with hat|⟨b,hb,hle⟩
  ·rw[hat];exact hk
  ·rw[hb]
   intro he
   injection he with he
   omega
 have step:∀ {x:α} {c:List Value} {o:Nat->Prop},FK d W o x c->(∀ k,o k->ok k/\some k≠v.ownBlock)->FK d w1 (fun k=>ok k/\some k≠v1.ownBlock) x c:=by
  intro x c o hq ho
  exact bp7 (bET (bES hq) (fun k hk hlt=>hg.block k hlt (ho k hk.1).2)) (fun k hk=>⟨(ho k hk.1).1,hne k (ho k hk.1).2 hk.2⟩)
 refine⟨fun k hk=>?_,rows++news,by rw[List.length_append,List.length_append,hl,hl2],bLC hR,fun j x c hx hc=>?_⟩
 ·rcases hat with hat|⟨b,hb,hle⟩
  ·exact h0 k (hat ▸ hk)
  ·rw[hb]at hk
   injection hk with hk
   exact hfresh k (by omega)
 ·rcases Nat.lt_or_ge j xs.length with hlt|hge
  ·rw[List.getElem?_append_left hlt]at hx
   rw[List.getElem?_append_left (by omega)]at hc
   exact step (hf j x c hx hc) (fun _ hk=>hk)
  ·rw[List.getElem?_append_right hge]at hx
   rw[List.getElem?_append_right (by omega),hl]at hc
   exact step (hf2 _ x c hx hc) YW
theorem bP7 {x:α} {c:List Value} (h:FK d W ok x c):c=c/\c.length=d.sz/\∀ u∈c,u.oneCell'=true:=⟨rfl,d.QV (aPD h),d.PZ (aPD h)⟩
theorem bLI {rows:List (List Value)} (hR:(raw d.sz).R e w1 base (fun k=>k=W.heap.size) v1 rows) (hg:W.grownBy w1 none) (hat:∃ b,v1.ownBlock=some b/\W.heap.size<=b) (hl:rows.length=xs.length) (hf:∀ (j:Nat) (x:α) (c:List Value),xs[j]? =some x->rows[j]? =some c->FK d W lS x c)
  (hok:∀ k,lS k->ok k) (hfresh:ok W.heap.size):N d e w1 base ok v1 xs:=by
 obtain⟨b,hb,hle⟩:=hat
 refine⟨fun k hk=>by rw[hR.1 k hk];exact hfresh,rows,hl,bLC hR,fun j x c hx hc=>?_⟩
 refine bp7 (bET (bES (hf j x c hx hc)) (fun k hk hlt=>hg.block k hlt (by simp))) (fun k hk=>⟨hok k hk.1,fun he=>?_⟩)
 rw[hb]at he
 injection he with he
 have:=hk.2
 omega
theorem bP8 {Rr:α->List Value->Prop} {sz m:Nat} {A:Option Addr} (h:EY Rr sz W A m ys) (hR:∀ x c,Rr x c->c.length=sz/\∀ u∈c,u.oneCell'=true):
  ∃ news:List (List Value),news.length=ys.length/\EY (fun x cs=>cs=x/\cs.length=sz/\∀ u∈cs,u.oneCell'=true) sz W A m news/\∀ (j:Nat) (x:α) (c:List Value),ys[j]? =some x->news[j]? =some c->Rr x c:=by
 rcases Nat.eq_zero_or_pos m with h0|hp
 ·have hy:ys=[]:=List.eq_nil_of_length_eq_zero (h.1.trans h0)
  subst hy
  exact⟨[],rfl,⟨h0 ▸ rfl,h.2.1,fun hp=>by omega⟩,fun j x c hx=>by simp at hx⟩
 ·obtain⟨ad,rfl,_⟩:=h.2.2 hp
  obtain⟨inner,hr,hc⟩:=EY.aSW h
  refine⟨chunks sz ys.length inner,atF _ _ _,⟨by rw[atF];exact h.1,h.2.1,fun _=>⟨ad,rfl,fun j p hj=>?_⟩⟩,fun j x c hx hcc=>?_⟩
  ·have hjl:j<ys.length:=by have:=(List.getElem?_eq_some_iff.1 hj).1;rwa [atF]at this
   have hpe:=aTL hj
   have hq:=hR _ _ (hr.2 j _ (List.getElem?_eq_getElem hjl))
   rw[<-hpe]at hq
   refine⟨p,hq.1,⟨rfl,hq⟩,fun i u hu=>?_⟩
   have hu2:inner[j*sz+i]? =some u:=by
    rw[hpe,List.getElem?_take]at hu
    split at hu
    ·rw[List.getElem?_drop]at hu
     exact hu
    ·cases hu
   exact hc _ u hu2
  ·rw[aTL hcc]
   exact hr.2 j x hx
end
section
variable {P:Program} {ops:Array Oper} {rest:List Oper} {o:Oper} {a:Act} {Q:Exit->Act->World->Prop} {Kc:Act->World->Prop} {α:Type}
theorem bLJ (d:Kd α) {w0 W:World} (base:Nat) (hgd:o.guard=none) (s x:Operand) (t e:TypeId) (z:Value) (bytes:Nat)
  (ho:o.op=.call { callee:=.builtin .append,args:=#[s,x],argTypes:=#[t,t]})
  (ht:P.underlying t=some (.slice e)) (hinfo:(P.info? e).map (fun i=>(i.zero,i.size,i.bytes))=some (some z,d.sz,bytes)) (hz:z.cells.size=d.sz) (hs0:0<d.sz) (hb0:0<bytes)
  (v:Value) (xs:List α) (p:α) (cs:List Value) (ok lS:Nat->Prop) (hs:a.eval s=v) (hx:a.eval x=.slice (some ⟨W.heap.size,0,none⟩) 1 1) (hp:FK d W lS p cs) (YW:∀ k,lS k->ok k/\some k≠v.ownBlock) (hfresh:∀ k,W.heap.size<=k->ok k)
  (HO:N d e W base ok v xs) (HB:Below base w0 W) (hbase:base<=W.heap.size) (hl:(xs.length+1)*bytes<=140737488355328)
  (h:∀ v1 w1,N d e w1 base ok v1 (xs++[p])->Below base w0 w1->W.grownBy w1 v.ownBlock->(v1.ownBlock=v.ownBlock∨∃ b,v1.ownBlock=some b/\W.heap.size<=b)->wpList P ops Q rest (a.put o.dst v1) w1):
  wpList P ops Q (o::rest) a (W.alloc (.cells cs.toArray e)):=by
 obtain⟨h0,rows,hlr,hR,hf⟩:=HO
 refine WR (raw d.sz) base hgd s x t e z bytes ho ht hinfo hz hs0 hb0 v rows cs cs (fun _=>True) (fun _=>False) hs hx (bP7 hp) (fun _ hk=>hk.elim) (fun _ _=>trivial) (bLD hR) HB hbase (by rw[hlr];exact hl) ?_
 intro v1 w1 hr hb hg hat
 exact h v1 w1 (bLH h0 hlr hf (ys:=[p]) (news:=[cs]) rfl (fun j y c hy hc=>by
  rcases j with _|j
  ·simp only[List.getElem?_cons_zero,Option.some.injEq]at hy hc
   rw[<-hy,<-hc];exact hp
  ·simp at hy) YW hfresh hr hg hat) hb hg hat
theorem bLK (d:Kd α) {w0 W:World} (base:Nat) (hgd:o.guard=none) (s x:Operand) (t e:TypeId) (z:Value) (bytes:Nat)
  (ho:o.op=.call { callee:=.builtin .append,args:=#[s,x],argTypes:=#[t,t]})
  (ht:P.underlying t=some (.slice e)) (hinfo:(P.info? e).map (fun i=>(i.zero,i.size,i.bytes))=some (some z,d.sz,bytes)) (hz:z.cells.size=d.sz) (hs0:0<d.sz) (hb0:0<bytes)
  (v:Value) (xs ys:List α) (A:Option Addr) (m c:Nat) (ok lS:Nat->Prop) (hs:a.eval s=v) (hx:a.eval x=.slice A m c)
  (HO:N d e W base ok v xs) (HR:F d W lS A m ys) (YW:∀ k,lS k->ok k/\some k≠v.ownBlock) (hfresh:∀ k,W.heap.size<=k->ok k)
  (HB:Below base w0 W) (hbase:base<=W.heap.size) (hl:(xs.length+m)*bytes<=140737488355328)
  (h:∀ v1 w1,N d e w1 base ok v1 (xs++ys)->Below base w0 w1->W.grownBy w1 v.ownBlock->(v1.ownBlock=v.ownBlock∨∃ b,v1.ownBlock=some b/\W.heap.size<=b)->wpList P ops Q rest (a.put o.dst v1) w1):
  wpList P ops Q (o::rest) a W:=by
 obtain⟨h0,rows,hlr,hR,hf⟩:=HO
 obtain⟨news,hnl,hnr,hnf⟩:=bP8 (bP4 HR) (fun y c hk=>⟨d.QV (aPD hk),d.PZ (aPD hk)⟩)
 refine a9S (raw d.sz) base hgd s x t e z bytes ho ht hinfo hz hs0 hb0 v rows news A m c (fun _=>True) (fun _=>False) hs hx (bLD hR) hnr (fun _ _ hk=>hk) (fun _ hk=>hk.elim) (fun _ _=>trivial) HB hbase (by rw[hlr];exact hl) ?_
 intro v1 w1 hr hb hg hat
 exact h v1 w1 (bLH h0 hlr hf hnl hnf YW hfresh hr hg hat) hb hg hat
theorem bxX (d:Kd α) {w0 W:World} (base e:Nat) (hgd:o.guard=none) {N':Tmp} (_hd:o.dst=some N') {xs:List α} {inner:List Value} {ok lS:Nat->Prop}
  (hrun:(execOp a.eval o).run P W=.ok (.value (.slice (some ⟨W.heap.size,0,none⟩) xs.length xs.length)) (W.alloc (.cells inner.toArray e)))
  (hrep:gX (FK d W lS) d.sz xs inner) (hok:∀ k,lS k->ok k) (hfresh:ok W.heap.size) (HB:Below base w0 W) (hbase:base<=W.heap.size) (hm:xs.length<=9223372036854775807)
  (h:∀ v1 w1,N d e w1 base ok v1 xs->Below base w0 w1->W.grownBy w1 none->(∃ b,v1.ownBlock=some b/\W.heap.size<=b)->wpList P ops Q rest (a.put o.dst v1) w1):
  wpList P ops Q (o::rest) a W:=by
 refine YX (raw d.sz) base e hgd _hd (xs:=chunks d.sz xs.length inner) (inner:=inner) (ok:=fun k=>k=W.heap.size) (lS:=fun _=>False) (by rw[atF];exact hrun) (baL hrep (fun y c hk=>⟨d.QV (aPD hk),d.PZ (aPD hk)⟩)) (fun _ hk=>hk.elim) rfl HB hbase (by rw[atF];exact hm) ?_
 intro v1 w1 hr hb hg hat
 exact h v1 w1 (bLI hr hg hat (atF _ _ _) (fun j y c hy hc=>by rw[aTL hc];exact hrep.2 j y hy) hok hfresh) hb hg hat
theorem bCN (d:Kd α) {w0 W:World} (base e:Nat) (hw:Region.wanted o (yielded ops a.tmps)=true) {N':Tmp} (_hd:o.dst=some N') {xs:List α} {inner:List Value} {ok lS:Nat->Prop}
  (hrun:(execOp a.eval o).run P W=.ok (.value (.slice (some ⟨W.heap.size,0,none⟩) xs.length xs.length)) (W.alloc (.cells inner.toArray e)))
  (hrep:gX (FK d W lS) d.sz xs inner) (hok:∀ k,lS k->ok k) (hfresh:ok W.heap.size) (HB:Below base w0 W) (hbase:base<=W.heap.size) (hm:xs.length<=9223372036854775807)
  (h:∀ v1 w1,N d e w1 base ok v1 xs->Below base w0 w1->W.grownBy w1 none->(∃ b,v1.ownBlock=some b/\W.heap.size<=b)->Kc (a.put o.dst v1) w1):
  if Region.wanted o (yielded ops a.tmps)=true then Oper.wp P o a W Kc Q else Kc (a.put o.dst undef) W:=by
 refine QA (raw d.sz) base e hw _hd (xs:=chunks d.sz xs.length inner) (inner:=inner) (ok:=fun k=>k=W.heap.size) (lS:=fun _=>False) (by rw[atF];exact hrun) (baL hrep (fun y c hk=>⟨d.QV (aPD hk),d.PZ (aPD hk)⟩)) (fun _ hk=>hk.elim) rfl HB hbase (by rw[atF];exact hm) ?_
 intro v1 w1 hr hb hg hat
 exact h v1 w1 (bLI hr hg hat (atF _ _ _) (fun j y c hy hc=>by rw[aTL hc];exact hrep.2 j y hy) hok hfresh) hb hg hat
end
end Kd
end Go.Proofs.YtcmfnebcmmklkaaDoorW.dQ
namespace Go.Proofs.YtcmfnebcmmklkaaDoorW.gG
open Go.RowKit Go.Proofs.YtcmfnebcmmklkaaDoorW.dQ
namespace Kd
open Go.Proofs.YtcmfnebcmmklkaaDoorW.dQ.Kd
end Kd
namespace Kd
open Go.Proofs.YtcmfnebcmmklkaaDoorW.dQ.Kd
section
variable {α:Type} {d:Kd α} {e base g N:Nat} {ok:Nat->Prop} {W w1:World} {u v:Value} {xs:List α}
theorem ad3 (hu:d.R e W base ok u xs) (hb:Below W.heap.size W w1):d.R e w1 base (fun k=>ok k/\k<W.heap.size) u xs:=
 bQ (rY (adZ hu) hb) (fun _ h=>⟨h.1,h.2.2.1⟩)
theorem MI (h:d.R e w1 base (fun k=>ok k/\k<N) u xs) (hbase:∀ k,v.ownBlock=some k->N<=k):d.R e w1 base (fun k=>(ok k/\some k≠v.ownBlock)/\k<N) u xs:=
 bQ h (fun k hk=>⟨⟨hk.1,fun e=>Nat.lt_irrefl _ (Nat.lt_of_lt_of_le hk.2 (hbase k e.symm))⟩,hk.2⟩)
end
end Kd
theorem uA (k k':IntKind) (x y:Int):Builtin.max2 (.int k x) (.int k' y)=pure (.int k (if x<y then y else x)):=by simp only[Builtin.max2,gt_iff_lt]
theorem uB (k k':IntKind) (x y:Int):Builtin.min2 (.int k x) (.int k' y)=pure (.int k (if y<x then y else x)):=by simp only[Builtin.min2]
theorem uC (ats:Array TypeId) (ty:TypeId) (a b:Value):Builtin.max_ ats ty #[a,b]=(Builtin.max2 a b>>=fun s=>pure s):=by simp only[Builtin.max_,List.foldlM_cons,List.foldlM_nil]
theorem uD (ats:Array TypeId) (ty:TypeId) (a b:Value):Builtin.min_ ats ty #[a,b]=(Builtin.min2 a b>>=fun s=>pure s):=by simp only[Builtin.min_,List.foldlM_cons,List.foldlM_nil]
theorem uM (ats:Array TypeId) (ty:TypeId) (a b c:Value):Builtin.max_ ats ty #[a,b,c]=(Builtin.max2 a b>>=fun s=>Builtin.max2 s c>>=fun s=>pure s):=by simp only[Builtin.max_,List.foldlM_cons,List.foldlM_nil]
theorem uN (ats:Array TypeId) (ty:TypeId) (a b c:Value):Builtin.min_ ats ty #[a,b,c]=(Builtin.min2 a b>>=fun s=>Builtin.min2 s c>>=fun s=>pure s):=by simp only[Builtin.min_,List.foldlM_cons,List.foldlM_nil]
theorem uO (ats:Array TypeId) (ty:TypeId) (a b c d:Value):Builtin.max_ ats ty #[a,b,c,d]=(Builtin.max2 a b>>=fun s=>Builtin.max2 s c>>=fun s=>Builtin.max2 s d>>=fun s=>pure s):=by simp only[Builtin.max_,List.foldlM_cons,List.foldlM_nil]
theorem uP (ats:Array TypeId) (ty:TypeId) (a b c d:Value):Builtin.min_ ats ty #[a,b,c,d]=(Builtin.min2 a b>>=fun s=>Builtin.min2 s c>>=fun s=>Builtin.min2 s d>>=fun s=>pure s):=by simp only[Builtin.min_,List.foldlM_cons,List.foldlM_nil]
end Go.Proofs.YtcmfnebcmmklkaaDoorW.gG
namespace Go.Proofs.YtcmfnebcmmklkaaDoorW.dQ
open Go.RowKit
section
variable {P:Program} {ops:Array Oper} {rest:List Oper} {o:Oper} {a:Act} {Q:Exit->Act->World->Prop} {W:World}
theorem gJ {f:FuncId} {aS_:Array Operand} {ts:Array TypeId} (_ho:o.op=.call { callee:=.value (.func f),args:=aS_,argTypes:=ts}) (h:wpList P ops Q (o::rest) a W):wpList P ops Q (o::rest) a W:=h
theorem VC {b:Builtin} {xs:Array Operand} {ts:Array TypeId} (_ho:o.op=.call { callee:=.builtin b,args:=xs,argTypes:=ts}) (h:wpList P ops Q (o::rest) a W):wpList P ops Q (o::rest) a W:=h
end
def mx (a b:Int):Int:=if a<b then b else a
def mn (a b:Int):Int:=if b<a then b else a
def shl (k:IntKind) (x y:Int):Int:=k.wrap (x*2^min y.toNat k.bits)
def shr (k:IntKind) (x y:Int):Int:=x / 2^min y.toNat k.bits
theorem aTM {k:IntKind} {x y j:Int} (h:shl k x y=j) (hy:y<=k.bits):k.wrap (x*2^y.toNat)=j:=by rw[<-h];unfold shl;rw[Nat.min_eq_left (by omega)]
theorem aCP {k:IntKind} {x y j:Int} (h:shr k x y=j) (hy:y<=k.bits):x / 2^y.toNat=j:=by rw[<-h];unfold shr;rw[Nat.min_eq_left (by omega)]
namespace Kd
section
variable {α:Type} {d:Kd α} {e base:Nat} {ok:Nat->Prop} {W w1:World} {v:Value} {xs:List α}
end
section
variable {α:Type} {d:Kd α} {e base g n cap:Nat} {ok oki lS:Nat->Prop} {W:World} {xs:List α} {i:Int} {c:List Value}
end
section
variable {α:Type} {d:Kd α} {e base b b' g N:Nat} {ok ok1:Nat->Prop} {W W2 w1:World} {u v:Value} {xs ys:List α} {S:Nat->Prop}
end
end Kd
end Go.Proofs.YtcmfnebcmmklkaaDoorW.dQ
namespace Go.Proofs.YtcmfnebcmmklkaaDoorW.dQ
open Go.RowKit
namespace Kd
def V {α:Type} (d:Kd α) (_e:Nat) (W:World) (_base:Nat) (ok:Nat->Prop) (v:Value) (xs:List α):Prop:=∃ A c,v=.slice A xs.length c/\xs.length<=c/\F d W ok A xs.length xs
section
variable {α β:Type} {d:Kd α} {e base base' n m c g N' lo hi:Nat} {ok ok' S:Nat->Prop} {w W w1:World} {A:Option Addr} {ad:Addr} {u v v1:Value} {xs:List α}
theorem aS3 (h:V d e W base ok v xs) (hF:∀ A,F d W ok A xs.length xs->F d w1 ok' A xs.length xs):V d e w1 base' ok' v xs:=by
 obtain⟨A,c,hv,hl,hf⟩:=h
 exact⟨A,c,hv,hl,hF A hf⟩
theorem brB (hl:xs.length<=c) (hf:F d W ok A xs.length xs):V d e W base ok (.slice A xs.length c) xs:=⟨A,c,rfl,hl,hf⟩
theorem bCO (h:V d e W base ok (.slice A n c) xs):n=xs.length/\n<=c/\F d W ok A xs.length xs:=by
 obtain⟨A',c',hv,hl,hf⟩:=h
 injection hv with ha hn hc
 subst ha;subst hc
 exact⟨hn,by rw[hn];exact hl,hf⟩
theorem aPF (h:V d e W base ok (.slice A n c) xs):n=xs.length/\n<=c/\d.C W A xs.length xs:=⟨(bCO h).1,(bCO h).2.1,bER (bCO h).2.2⟩
theorem V_F (h:V d e W base ok (.slice A n c) xs):F d W ok A n xs:=by
 obtain⟨hn,_,hf⟩:=bCO h
 rw[hn]
 exact hf
theorem TR (d:Kd α) (e:Nat) (W:World) (base:Nat) (ok:Nat->Prop):V d e W base ok (.slice none 0 0) []:=⟨none,0,rfl,Nat.le_refl _,baI d W ok⟩
theorem R_V (h:d.R e W base ok v xs):V d e W base' ok v xs:=by
 obtain⟨A,c,rfl⟩:=dA h
 exact⟨A,c,rfl,(dB h).2.1,R_F h⟩
theorem aj9 (h:V d e W base ok v xs) (hok:∀ k,ok k->ok' k):V d e W base ok' v xs:=aS3 h (fun _ hf=>bCI hf hok)
theorem a1F (h:V d e W base ok v xs) (hb:Below W.heap.size W w1):V d e w1 base ok v xs:=aS3 h (fun _ hf=>bCJ hf hb)
theorem agL (h:V d e W base ok v xs) (o:Obj):V d e (W.alloc o) base ok v xs:=aS3 h (fun _ hf=>bPU hf o)
theorem afU (h:V d e W base ok v xs):V d e W.drew base ok v xs:=aS3 h (fun _ hf=>bPV hf)
theorem agN (h:V d e W base ok v xs) (m:Nat):V d e (W.drewN m) base ok v xs:=aS3 h (fun _ hf=>bPW hf m)
theorem brP (h:V d e W base ok v xs) {p:Addr} (hok:∀ k,ok k->k≠p.block) (u:Value):V d e (W.setCell p u) base ok v xs:=aS3 h (fun _ hf=>bPX hf hok u)
theorem bQA (h:V d e W base (fun k=>ok k/\some k≠u.ownBlock) v xs) (hg:W.grownBy w1 u.ownBlock) (hat:v1.ownBlock=u.ownBlock∨∃ b,v1.ownBlock=some b/\W.heap.size<=b):V d e w1 base (fun k=>ok k/\some k≠v1.ownBlock) v xs:=aS3 h (fun _ hf=>bP0 hf hg hat)
theorem aPH (h:V d e W base (fun k=>ok k/\some k≠v.ownBlock) u xs) (hg:W.grownBy w1 v.ownBlock) (hat:v1.ownBlock=v.ownBlock∨∃ b,v1.ownBlock=some b/\W.heap.size<=b):V d e w1 base (fun k=>ok k/\some k≠v1.ownBlock) u xs:=bQA h hg hat
theorem aFD (h:N d e W base (fun k=>ok k/\some k≠v.ownBlock) u xs) (hg:W.grownBy w1 v.ownBlock) (hat:v1.ownBlock=v.ownBlock∨∃ b,v1.ownBlock=some b/\W.heap.size<=b):N d e w1 base (fun k=>ok k/\some k≠v1.ownBlock) u xs:=bP5 h hg hat
theorem aPK (h:V d e W base ok v xs) (hbase:∀ k,u.ownBlock=some k->W.heap.size<=k) (hb:Below W.heap.size W w1):V d e w1 base (fun k=>ok k/\some k≠u.ownBlock) v xs:=aS3 h (fun _ hf=>bPY hf hbase hb)
theorem bCQ (h:V d e W base ok v xs) (a:Nat) (ha:W.heap.size<=a):V d e W base (fun k=>ok k/\k≠a) v xs:=aS3 h (fun _ hf=>bPZ hf a ha)
theorem brQ {l:List α} {cs:List Value} (h:FK (Kd.slice e d) W ok l cs):∃ A c,cs=[.slice A l.length c]/\l.length<=c/\F d W ok A l.length l:=by
 obtain⟨A,c,rfl,hl,_⟩:=aPD h
 refine⟨A,c,rfl,hl,fun W' hW=>?_⟩
 obtain⟨A',c',he,_,g'⟩:=h W' hW
 injection he with he _
 injection he with ha _ _
 rw[ha]
 exact g'
theorem bCR {l:List α} (hl:l.length<=c) (hf:F d W ok A l.length l):FK (Kd.slice e d) W ok l [.slice A l.length c]:=fun W' hW=>⟨A,c,rfl,hl,hf W' hW⟩
theorem brY {M:Nat->Prop} (h:d.R e w1 W.heap.size ok v xs) (hle:w.heap.size<=W.heap.size) (hM:∀ k,w.heap.size<=k->M k):d.R e w1 W.heap.size (fun k=>M k/\ok k) v xs:=bQ (adZ h) (fun k hk=>⟨hM k (Nat.le_trans hle hk.2.1),hk.1⟩)
end
end Kd
end Go.Proofs.YtcmfnebcmmklkaaDoorW.dQ
namespace Go.Proofs.YtcmfnebcmmklkaaDoor.Hand
open Go.RowKit Go.Proofs.YtcmfnebcmmklkaaDoorW.dQ
theorem QB {a b:Bool} (h:a=b):Ending.returned (.bool a)=.returned (.bool b):=by rw[h]
theorem TS {k:IntKind} {a b:Int} (h:a=b):Ending.returned (.int k a)=.returned (.int k b):=by rw[h]
def xR (a b n:Int):Bool:=decide (n<a)||decide (b<n)
theorem aTN (n a b:Int) (ba bb:Nat) (w:World) (ha:w.cell? ⟨ba,0,none⟩=some (.int .i64 a)) (hb:w.cell? ⟨bb,0,none⟩=some (.int .i64 b)):
  Calls Tryd.prog 96 #[.int .i64 n,.pointer (some ⟨ba,0,none⟩),.pointer (some ⟨bb,0,none⟩)] w fun e w'=>e=.returned (.bool (xR a b n))/\w=w':=by
 go_enter Tryd.func96,Tryd.ntmps96
 by_cases h:n<a
 ·have h1:decide (n<a)=true:=decide_eq_true h
  go_wp2
  go_ret
  exact⟨QB (by simp[xR,h]),rfl⟩
 ·have h1:decide (n<a)=false:=decide_eq_false h
  go_wp2
  go_ret
  exact⟨QB (by simp only[xR,h1,Bool.false_or]),rfl⟩
def abA (p:Int->Bool):List Int->Int->Int
 |[],_=> -1
 |x::xs,i=>if p x then i else abA p xs (i+1)
theorem baO (p:Int->Bool) (xs:List Int) (k:Nat) (h:k<xs.length):abA p (xs.drop k) k=if p (rd xs k)then(k:Int)else abA p (xs.drop (k+1)) ((k+1:Nat):Int):=by
 rw[List.drop_eq_getElem_cons h]
 simp only[abA]
 rw[show rd xs (k:Int)=xs[k]from by simp[rd,List.getD_eq_getElem?_getD,List.getElem?_eq_getElem h]]
 rfl
theorem baP (xs:List Int) (A:Option Addr) (c:Nat) (a b:Int) (ba bb:Nat) (w:World) (hr:Kd.C (Kd.int .i64) w A xs.length xs)
  (ha:w.cell? ⟨ba,0,none⟩=some (.int .i64 a)) (hb:w.cell? ⟨bb,0,none⟩=some (.int .i64 b)):
  Calls Tryd.prog 113 #[.slice A xs.length c,.func (.func 96) #[] #[.pointer (some ⟨ba,0,none⟩),.pointer (some ⟨bb,0,none⟩)]] w fun e w'=>e=.returned (.int .i64 (abA (xR a b) xs 0))/\Below w.heap.size w w':=by
 have hm:=hr.2.1
 go_enter Tryd.func113,Tryd.ntmps113
 go_wp2
 go_loopw [5,8] (fun v i w'=>∃ k:Nat,k<=xs.length/\i=.int .i64 k/\Hid (abA (xR a b) xs 0=abA (xR a b) (xs.drop k) k)/\w=w') (fun _ i _=>xs.length - (intOf i).toNat)
 case atStart=>exact⟨0,Nat.zero_le _,rfl,rfl,rfl⟩
 case round=>
  obtain⟨k,hk,rfl,hf,rfl⟩:=hrel
  by_cases hlt:k<xs.length
  ·obtain⟨ad,e,hc⟩:=Kd.BL hr k (by omega) (by omega)
   subst e
   rw[Int.toNat_natCast]at hc
   have hd:=Lib.hid (baO (xR a b) xs k hlt)
   by_cases hp:xR a b (rd xs k)=true
   ·go_wp2_with (go_at_call 96;refine(aTN _ _ _ _ _ _ ha hb).mono ?_;rintro e w' ⟨rfl,rfl⟩)
    go_ret
    exact⟨TS (by rw[hf.out,hd.out,if_pos hp]),Below.refl _ _⟩
   ·replace hp:=Bool.eq_false_iff.mpr hp
    go_wp2_with (go_at_call 96;refine(aTN _ _ _ _ _ _ ha hb).mono ?_;rintro e w' ⟨rfl,rfl⟩)
    go_roundw
    case rel=>exact⟨k+1,by omega,by go_num,Lib.hid (by rw[hf.out,hd.out,hp];rfl),trivial⟩
    case measure=>simp[intOf];omega
  ·go_wp2
   go_ret
   exact⟨TS (by rw[hf.out,List.drop_eq_nil_of_le (by omega)];rfl),Below.refl _ _⟩
theorem baQ (p:Int->Bool) (xs:List Int):∀ i:Int,0<=i->(0<=abA p xs i↔xs.any p=true):=by
 induction xs with
 |nil=>intro i _;simp[abA]
 |cons x xs ih=>
  intro i hi
  unfold abA
  rw[List.any_cons]
  by_cases hp:p x=true
  ·rw[if_pos hp,hp]
   simp[hi]
  ·rw[if_neg hp,Bool.eq_false_iff.mpr hp,Bool.false_or]
   exact ih (i+1) (by omega)
theorem baR (p:Int->Bool) (xs:List Int):decide (0<=abA p xs 0)=xs.any p:=by
 rw[Bool.eq_iff_iff,decide_eq_true_iff]
 exact baQ p xs 0 (Int.le_refl 0)
theorem baS (xs:List Int) (A:Option Addr) (c:Nat) (a b:Int) (ba bb:Nat) (w:World) (hr:Kd.C (Kd.int .i64) w A xs.length xs)
  (ha:w.cell? ⟨ba,0,none⟩=some (.int .i64 a)) (hb:w.cell? ⟨bb,0,none⟩=some (.int .i64 b)):
  Calls Tryd.prog 95 #[.slice A xs.length c,.func (.func 96) #[] #[.pointer (some ⟨ba,0,none⟩),.pointer (some ⟨bb,0,none⟩)]] w fun e w'=>e=.returned (.bool (xs.any (xR a b)))/\Below w.heap.size w w':=by
 have hq:=Lib.hid (baR (xR a b) xs)
 go_enter Tryd.func95,Tryd.ntmps95
 go_wp2_with (go_at_call 113;refine(baP xs A c a b ba bb _ hr ha hb).mono ?_;rintro e w' ⟨rfl,hbl⟩)
 go_ret
 exact⟨QB hq.out,hbl⟩
def allIn (a b:Int) (xs:List Int):Bool:= !(xs.any (xR a b))
theorem GK (a b:Int) (xs:List Int) (A:Option Addr) (c:Nat) (w:World) (hr:Kd.C (Kd.int .i64) w A xs.length xs):
  Calls Tryd.prog 62 #[.int .i64 a,.int .i64 b,.slice A xs.length c] w fun e w'=>e=.returned (.bool (allIn a b xs))/\Below w.heap.size w w':=by
 go_enter Tryd.func62,Tryd.ntmps62
 go_wp2_with (go_at_call 95;refine(baS xs A c a b w.heap.size (w.heap.size+1) _ ?h1 ?h2 ?h3).mono ?_;(case h1=>exact Kd.bJ (Kd.bJ hr ((Below.refl _ _).alloc (Nat.le_refl _) _)) ((Below.refl _ _).alloc (Nat.le_refl _) _));(case h2=>go_simp);(case h3=>go_simp);rintro e w' ⟨rfl,hbl⟩)
 go_ret
 exact⟨rfl,((((Below.refl _ _).alloc (Nat.le_refl _) _).alloc (by simp) _).trans (hbl.mono (by simp;omega)))⟩
def lZ (w:World):Prop:=2<=w.heap.size/\TabAt 1 Lib.deBruijn64tab w
theorem lZ.below {w w':World} (h:lZ w) (hb:Below w.heap.size w w'):lZ w':=
 ⟨Nat.le_trans h.1 hb.size,fun j hj=>(hb.cell (p:=⟨1,j,none⟩) (show 1<_ from h.1)).trans (h.2 j hj)⟩
theorem lZ.alloc {w:World} (h:lZ w) (o:Obj):lZ (w.alloc o):=h.below ((Below.refl _ _).alloc (Nat.le_refl _) _)
theorem tz64_core (x k idx:Nat) (w:World) (hx0:((x:Int)==0)=false)
  (key:IntKind.u64.wrap (bits BinOp.and IntKind.u64 (x:Int) (IntKind.u64.wrap (-(x:Int)))*285870213051353865) / 288230376151711744=(idx:Int))
  (hi:idx<64) (hk:k<64) (hcell:w.cell? ⟨1,idx,none⟩=some (.int .u8 k)):
  Calls Tryd.prog 122 #[.int .u64 x] w fun e w'=>e=.returned (.int .i64 k)/\w=w':=by
 go_enter Tryd.func122,Tryd.ntmps122
 go_wp2_with (simp only[key])
 go_ret
 exact⟨rfl,rfl⟩
theorem baT (x:Nat) (hx:x<18446744073709551616) (hx0:x≠0) (w:World) (hT:lZ w):
  Calls Tryd.prog 122 #[.int .u64 x] w fun e w'=>e=.returned (.int .i64 (Lib.ctz 64 x))/\w=w':=by
 obtain⟨hlow,hk⟩:=Lib.lowest_bit 64 x hx0 hx
 obtain⟨hi,htab⟩:=Lib.deBruijn64_at _ hk
 have hcell:=hT.2 _ hi
 rw[htab]at hcell
 exact tz64_core x _ _ w (by simp;omega) (tz64_key x _ hx hx0 hlow) hi hk hcell
theorem baU (x:Nat) (hx:x<18446744073709551616) (hx0:x≠0) (w:World) (hT:lZ w):
  Calls Tryd.prog 104 #[.int .u64 x] w fun e w'=>e=.returned (.int .i64 (Lib.ctz 64 x))/\w=w':=by
 go_enter Tryd.func104,Tryd.ntmps104
 go_wp2_with (go_at_call 122;refine(baT x hx hx0 _ hT).mono ?_;rintro e w' ⟨rfl,rfl⟩)
 go_ret
 exact⟨rfl,rfl⟩
def bitsOf (s:Nat):List Nat:=(List.range 8).filter fun i=>s.testBit i
end Go.Proofs.YtcmfnebcmmklkaaDoor.Hand
namespace Go.Proofs.YtcmfnebcmmklkaaDoorW.oU
open Go.Proofs.YtcmfnebcmmklkaaDoorW.dQ (aA)
def ap3 (md:Region.Mode) (o:Oper):List Nat:=(o.after.toList.filter (fun e=>Region.binds md e)).map (fun e=>e.on)
def aIP (md:Region.Mode) (ops:Array Oper) (i:Nat) (oi:Oper):List Nat:=(List.range ops.size).filter fun j=> !(j==i)&&match ops[j]?with
 |some oj=> !(oj.after.any (fun e=>Region.binds md e&&e.on==i)||oi.apart ops oj)
 |none=>false
def qW (md:Region.Mode) (ops:Array Oper):Bool×List (List Nat×List Nat):=(Region.noSelect ops,(List.range ops.size).map fun i=>match ops[i]?with
 |some o=>(ap3 md o,aIP md ops i o)
 |none=>([],[]))
def ahC (T:List (List Nat×List Nat)) (l:List Bool) (i:Nat):Bool:= !l.getD i true&&match T[i]?with
 |some r=>r.1.all (fun j=>l.getD j false)
 |none=>false
def ap4 (T:List (List Nat×List Nat)) (l:List Bool):List Nat:=(List.range T.length).filter (ahC T l)
def atG (T:List (List Nat×List Nat)) (l:List Bool) (i:Nat):Bool:=match T[i]?with
 |some r=>r.2.all (fun j=>l.getD j true)
 |none=>false
def aCQ (T:List (List Nat×List Nat)) (l:List Bool):Bool:=(List.range T.length).all fun j=> !l.getD j false||match T[j]?with
 |some r=>r.1.all (fun k=>l.getD k false)
 |none=>true
def ap5 (T:List (List Nat×List Nat)) (i:Nat):Nat->Nat->Bool
 |0,_=>false
 |fuel+1,d=>match T[d]?with
  |some r=>r.1.any fun j=>j==i||ap5 T i fuel j
  |none=>false
def lastT (T:List (List Nat×List Nat)) (l:List Bool) (ds:List Nat) (i:Nat):Bool:=ds.all fun d=>l.getD d true||ap5 T i T.length d
section
variable {md:Region.Mode} {ops:Array Oper} {T:Bool×List (List Nat×List Nat)} {l l' li lj lk:Array Bool} {ds:List Nat} {i j k:Nat}
theorem gd (l:Array Bool) (j:Nat) (b:Bool):l.getD j b=l.toList.getD j b:=by simp[Array.getD_eq_getD_getElem?,List.getD_eq_getElem?_getD]
theorem aTO (o:Oper) (p:Nat->Bool):o.after.all (fun e=> !Region.binds md e||p e.on)=(ap3 md o).all p:=by
 unfold ap3
 rw[<-Array.all_toList]
 induction o.after.toList with
 |nil=>rfl
 |cons e r ih=>
  rw[List.all_cons,ih,List.filter_cons]
  cases h:Region.binds md e<;>simp
theorem baV (o:Oper) (p:Nat->Bool):o.after.any (fun e=>Region.binds md e&&p e.on)=(ap3 md o).any p:=by
 unfold ap3
 rw[<-Array.any_toList]
 induction o.after.toList with
 |nil=>rfl
 |cons e r ih=>
  rw[List.any_cons,ih,List.filter_cons]
  cases h:Region.binds md e<;>simp
theorem aCR:(qW md ops).2.length=ops.size:=by simp[qW]
theorem aCS {o:Oper} (h:ops[i]? =some o):(qW md ops).2[i]? =some (ap3 md o,aIP md ops i o):=by
 have hi:=(Array.getElem?_eq_some_iff.1 h).1
 unfold qW
 rw[List.getElem?_map,List.getElem?_range hi,Option.map_some,h]
theorem aCT (h:ops[i]? =none):(qW md ops).2[i]? =none:=by
 have hi:ops.size<=i:=Array.getElem?_eq_none_iff.1 h
 exact List.getElem?_eq_none (by rw[aCR];exact hi)
theorem baW:ahC (qW md ops).2 l.toList i=(!l.getD i true&&((ops[i]?).map (·.after.all fun e=> !Region.binds md e||l.getD e.on false)).getD false):=by
 unfold ahC
 rw[gd]
 cases h:ops[i]?with
 |none=>rw[aCT h];rfl
 |some o=>
  rw[aCS h]
  simp only[Option.map_some,Option.getD_some]
  rw[<-aTO]
  simp only[gd]
theorem ready_eq:Region.ready md ops l=ap4 (qW md ops).2 l.toList:=by
 unfold Region.ready ap4
 rw[aCR]
 refine List.filter_congr (fun i _=>?_)
 rw[baW]
theorem free_eq:Region.free md ops l i=atG (qW md ops).2 l.toList i:=by
 unfold Region.free atG
 cases h:ops[i]?with
 |none=>rw[aCT h]
 |some oi=>
  rw[aCS h]
  simp only[aIP]
  rw[List.all_filter]
  congr 1
  funext j
  rw[gd]
  cases hj:ops[j]?with
  |none=>cases (j==i)<;>cases (l.toList.getD j true)<;>simp
  |some oj=>
   cases (j==i)<;>cases (l.toList.getD j true)<;>cases (oj.after.any (fun e=>Region.binds md e&&e.on==i)||oi.apart ops oj)<;>simp_all
theorem baX:Region.atC md ops l=aCQ (qW md ops).2 l.toList:=by
 unfold Region.atC aCQ
 rw[aCR]
 congr 1
 funext j
 rw[gd]
 cases h:ops[j]?with
 |none=>rw[aCT h]
 |some o=>
  rw[aCS h]
  simp only
  rw[<-aTO]
  simp only[gd]
theorem reach_eq:∀ (fuel d:Nat),Region.ZY md ops i fuel d=ap5 (qW md ops).2 i fuel d
 |0,_=>rfl
 |fuel+1,d=>by
  unfold Region.ZY ap5
  cases h:ops[d]?with
  |none=>rw[aCT h]
  |some o=>
   rw[aCS h]
   simp only
   rw[<-baV]
   congr 1
   funext e
   rw[reach_eq fuel]
theorem baY:Region.lastB md ops l ds i=lastT (qW md ops).2 l.toList ds i:=by
 unfold Region.lastB lastT
 rw[aCR]
 congr 1
 funext d
 rw[gd,reach_eq]
theorem aTP (h:ahC T.2 l.toList i=true) (hT:qW md ops=T):(Region.ready md ops l).contains i=true:=by
 subst hT
 rw[ready_eq]
 unfold ap4
 rw[List.contains_iff_mem,List.mem_filter,List.mem_range]
 refine⟨?_,h⟩
 unfold ahC at h
 rw[Bool.and_eq_true]at h
 cases hq:(qW md ops).2[i]?with
 |none=>rw[hq]at h;simp at h
 |some r=>exact(List.getElem?_eq_some_iff.1 hq).1
theorem atH (h:(l.toList.set i true==l'.toList)=true):(l.setIfInBounds i true==l')=true:=by
 rw[beq_iff_eq]at h ⊢
 apply Array.ext'
 rw[Array.toList_setIfInBounds]
 exact h
def ap6 (T:Bool×List (List Nat×List Nat)) (l l':List Bool) (i:Nat):Bool:=T.1&&atG T.2 l i&&ahC T.2 l i&&(l.set i true==l')
theorem aTQ (hT:qW md ops=T) (h:ap6 T l.toList l'.toList i=true):aCN md ops l l' i=true:=by
 simp only[ap6,Bool.and_eq_true]at h
 obtain⟨⟨⟨h1,h2⟩,h3⟩,h4⟩:=h
 have h5:=aTP h3 hT
 have h6:=atH h4
 subst hT
 simp only[aCN,Bool.and_eq_true]
 exact⟨⟨⟨h1,by rw[free_eq];exact h2⟩,h5⟩,h6⟩
def aIQ (T:Bool×List (List Nat×List Nat)) (ds:List Nat) (l l':List Bool) (i:Nat):Bool:=T.1&&atG T.2 l i&&ahC T.2 l i&&aCQ T.2 l&&lastT T.2 l ds i&&(l.set i true==l')
theorem baZ (hT:qW md ops=T) (h:aIQ T ds l.toList l'.toList i=true):takeB md ops ds l l' i=true:=by
 simp only[aIQ,Bool.and_eq_true]at h
 obtain⟨⟨⟨⟨⟨h1,h2⟩,h3⟩,h4⟩,h5⟩,h6⟩:=h
 have h7:=aTP h3 hT
 have h8:=atH h6
 subst hT
 simp only[takeB,Bool.and_eq_true]
 exact⟨⟨⟨⟨⟨h1,by rw[free_eq];exact h2⟩,h7⟩,by rw[baX];exact h4⟩,by rw[baY];exact h5⟩,h8⟩
theorem lJ (hT:qW md ops=T) (h:(ap4 T.2 l.toList==[i]&&l.toList.set i true==l'.toList)=true):ap2 md ops l l' i=true:=by
 simp only[Bool.and_eq_true]at h
 obtain⟨h1,h2⟩:=h
 subst hT
 simp only[ap2,Bool.and_eq_true]
 exact⟨by rw[ready_eq];exact h1,atH h2⟩
theorem ae7 (hT:qW md ops=T) (h:(ap4 T.2 l.toList==[i,j]&&l.toList.set i true==li.toList&&l.toList.set j true==lj.toList)=true):(Region.ready md ops l==[i,j]&&l.setIfInBounds i true==li&&l.setIfInBounds j true==lj)=true:=by
 simp only[Bool.and_eq_true]at h ⊢
 obtain⟨⟨h1,h2⟩,h3⟩:=h
 subst hT
 exact⟨⟨by rw[ready_eq];exact h1,atH h2⟩,atH h3⟩
theorem yR (hT:qW md ops=T) (h:(ap4 T.2 l.toList==[])=true):(Region.ready md ops l==[])=true:=by
 subst hT
 rw[ready_eq]
 exact h
def upM (B:List Nat) (d:Nat):List Nat->Nat
 |[]=>0
 |n::r=>(2^n|||(if n<d then B.getD n 0 else 0))|||upM B d r
def CZ (T:List (List Nat×List Nat)) (B:List Nat):Bool:=(List.range T.length).all fun d=>match T[d]?with
 |some r=>(B.getD d 0|||upM B d r.1)==upM B d r.1
 |none=>false
theorem aTR {B:List Nat} {d i:Nat}:∀ {ns:List Nat},(upM B d ns).testBit i=true->∃ n∈ns,n=i∨(n<d/\(B.getD n 0).testBit i=true)
 |[],h=>by simp[upM]at h
 |n::r,h=>by
  unfold upM at h
  rw[Nat.testBit_or,Nat.testBit_or,Bool.or_eq_true,Bool.or_eq_true]at h
  rcases h with(h|h)|h
  ·rw[Nat.testBit_two_pow]at h
   exact⟨n,List.mem_cons_self,.inl (by simpa using h)⟩
  ·by_cases hn:n<d
   ·rw[if_pos hn]at h
    exact⟨n,List.mem_cons_self,.inr ⟨hn,h⟩⟩
   ·rw[if_neg hn]at h
    simp at h
  ·obtain⟨m,hm,h2⟩:=aTR h
   exact⟨m,List.mem_cons_of_mem _ hm,h2⟩
theorem aTS {T:List (List Nat×List Nat)} {B:List Nat} (hB:CZ T B=true):∀ (fuel d:Nat),d<fuel->d<T.length->(B.getD d 0).testBit i=true->ap5 T i fuel d=true
 |0,d,h,_,_=>by omega
 |fuel+1,d,h,hd,hb=>by
  have h1:=List.all_eq_true.1 hB d (List.mem_range.2 hd)
  cases hr:T[d]?with
  |none=>rw[hr]at h1;simp at h1
  |some r=>
   rw[hr]at h1
   simp only[beq_iff_eq]at h1
   have h2:(upM B d r.1).testBit i=true:=by rw[<-h1,Nat.testBit_or,hb,Bool.true_or]
   obtain⟨n,hn,h3⟩:=aTR h2
   unfold ap5
   rw[hr]
   simp only
   rw[List.any_eq_true]
   refine⟨n,hn,?_⟩
   rcases h3 with rfl|⟨h4,h5⟩
   ·simp
   ·rw[aTS hB fuel n (by omega) (by omega) h5,Bool.or_true]
def aTT (T:List (List Nat×List Nat)) (B:List Nat) (l:List Bool) (ds:List Nat) (i:Nat):Bool:=ds.all fun d=>l.getD d true||(decide (d<T.length)&&(B.getD d 0).testBit i)
def aIR (T:Bool×List (List Nat×List Nat)) (B:List Nat) (ds:List Nat) (l l':List Bool) (i:Nat):Bool:=T.1&&atG T.2 l i&&ahC T.2 l i&&aCQ T.2 l&&aTT T.2 B l ds i&&(l.set i true==l')
theorem ba0 {B:List Nat} (hT:qW md ops=T) (hB:CZ T.2 B=true) (h:aIR T B ds l.toList l'.toList i=true):takeB md ops ds l l' i=true:=by
 refine baZ hT ?_
 simp only[aIR,aIQ,Bool.and_eq_true]at h ⊢
 obtain⟨⟨⟨⟨⟨h1,h2⟩,h3⟩,h4⟩,h5⟩,h6⟩:=h
 refine⟨⟨⟨⟨⟨h1,h2⟩,h3⟩,h4⟩,?_⟩,h6⟩
 unfold aTT at h5
 unfold lastT
 rw[List.all_eq_true]at h5 ⊢
 intro d hd
 have h7:=h5 d hd
 rw[Bool.or_eq_true,Bool.and_eq_true,decide_eq_true_eq]at h7
 rcases h7 with h7|⟨h8,h9⟩
 ·rw[h7,Bool.true_or]
 ·rw[aTS hB _ d h8 h8 h9,Bool.or_true]
theorem yS {P:Program} {Q:Exit->Act->World->Prop} {S:World->Prop} {n:Nat} {a:Act} {w:World} {B:List Nat} (hT:qW md ops=T) (hB:CZ T.2 B=true) (h:aA (qW md ops=T)->aA (CZ T.2 B=true)->pW P md ops Q S ds n l a w):pW P md ops Q S ds n l a w:=h ⟨hT⟩ ⟨hB⟩
end
def ad4:Code->Nat->Option (Array Oper)
 |.region id ops _,k=>if id==k then some ops else none
 |.seq a b,k=>match ad4 a k with
  |some o=>some o
  |none=>ad4 b k
 |.cond _ a b,k=>match ad4 a k with
  |some o=>some o
  |none=>ad4 b k
 |.block _ c,k=>ad4 c k
 |.loop c,k=>ad4 c k
 |.scope c,k=>ad4 c k
 |.rangeFunc _ _ a b,k=>match ad4 a k with
  |some o=>some o
  |none=>ad4 b k
 |_,_=>none
def opsOf (f:Func) (k:Nat):Array Oper:=((f.body.bind fun c=>ad4 c k)).getD #[]
end Go.Proofs.YtcmfnebcmmklkaaDoorW.oU
namespace Go.Proofs.YtcmfnebcmmklkaaDoorW.dQ
open Go.RowKit
section
variable {P:Program} {d:Nat} {xs ys:Array Value} {f:Field} {fs:List Field} {a b:Value} {r s:Bool} {w:World}
theorem atI (hn:(f.name== "_")=false) (ha:(part f.type xs f.offset).run P w=.ok a w) (hb:(part f.type ys f.offset).run P w=.ok b w) (he:(Op.equalIn d f.type a b).run P w=.ok r w):(Op.eqFields d xs ys [f]).run P w=.ok r w:=by
 have hn':f.name≠ "_" :=by simpa using hn
 simp only[Op.eqFields,if_pos hn',Sem.run_bind,ha,hb,he,Result.andThen_ok]
 cases r<;>simp
theorem ae8 (hn:(f.name== "_")=false) (ha:(part f.type xs f.offset).run P w=.ok a w) (hb:(part f.type ys f.offset).run P w=.ok b w) (he:(Op.equalIn d f.type a b).run P w=.ok r w) (hr:(Op.eqFields d xs ys fs).run P w=.ok s w):(Op.eqFields d xs ys (f::fs)).run P w=.ok (r&&s) w:=by
 have hn':f.name≠ "_" :=by simpa using hn
 rw[Op.eqFields]
 simp only[if_pos hn',Sem.run_bind,ha,hb,he,Result.andThen_ok]
 cases r
 ·simp
 ·simpa using hr
theorem atJ {t:TypeId} {fs:Array Field} (hu:P.underlying t=some (.struct fs)) (hp:P.stoodInHeld t=false) (h:(Op.eqFields d xs ys fs.toList).run P w=.ok r w):(Op.equalIn (d+1) t (.agg xs) (.agg ys)).run P w=.ok r w:=by
 have hf:P.fieldsOf t=fs:=by simp[Program.fieldsOf,hu]
 rw[run_equalIn_struct (P:=P) w d t xs ys (by rw[hf];exact hu) hp,hf]
 exact h
end
end Go.Proofs.YtcmfnebcmmklkaaDoorW.dQ
namespace Go.Proofs.YtcmfnebcmmklkaaDoorW.dQ
theorem gX.one {α:Type} {R:α->List Value->Prop} {ps:List α} {cs:List Value} {p:α} {v:Value} (hp:R p [v]) (h:gX R 1 ps cs):gX R 1 (p::ps) (v::cs):=by
 refine⟨by simp[h.1],fun j q hq=>?_⟩
 cases j with
 |zero=>
  simp only[List.getElem?_cons_zero,Option.some.injEq]at hq
  subst hq
  simpa using hp
 |succ j=>
  simp only[List.getElem?_cons_succ]at hq
  have h1:=h.2 j q hq
  simpa[Nat.mul_one]using h1
theorem gX.front {α:Type} {R:α->List Value->Prop} {size:Nat} {ps:List α} {cs c all:List Value} {p:α} (hp:R p c) (hc:c.length=size) (h:gX R size ps cs) (ha:c++cs=all):gX R size (p::ps) all:=by
 subst ha
 refine⟨by rw[List.length_append,hc,h.1,List.length_cons,Nat.succ_mul,Nat.add_comm],fun j q hq=>?_⟩
 cases j with
 |zero=>
  simp only[List.getElem?_cons_zero,Option.some.injEq]at hq
  subst hq
  rw[Nat.zero_mul,List.drop_zero,List.take_append_of_le_length (by omega),List.take_of_length_le (by omega)]
  exact hp
 |succ j=>
  simp only[List.getElem?_cons_succ]at hq
  have h1:=h.2 j q hq
  rw[Nat.succ_mul,List.drop_append,List.drop_of_length_le (by rw[hc];exact Nat.le_add_left _ _),List.nil_append,hc,Nat.add_sub_cancel]
  exact h1
theorem gX.c2 {α:Type} {R:α->List Value->Prop} {ps:List α} {cs:List Value} {p:α} {va vb:Value} (hp:R p [va,vb]) (h:gX R 2 ps cs):gX R 2 (p::ps) (va::vb::cs):=gX.front hp rfl h rfl
theorem gX.c3 {α:Type} {R:α->List Value->Prop} {ps:List α} {cs:List Value} {p:α} {va vb vc:Value} (hp:R p [va,vb,vc]) (h:gX R 3 ps cs):gX R 3 (p::ps) (va::vb::vc::cs):=gX.front hp rfl h rfl
theorem gX.c4 {α:Type} {R:α->List Value->Prop} {ps:List α} {cs:List Value} {p:α} {va vb vc vd:Value} (hp:R p [va,vb,vc,vd]) (h:gX R 4 ps cs):gX R 4 (p::ps) (va::vb::vc::vd::cs):=gX.front hp rfl h rfl
theorem gX.c5 {α:Type} {R:α->List Value->Prop} {ps:List α} {cs:List Value} {p:α} {va vb vc vd ve:Value} (hp:R p [va,vb,vc,vd,ve]) (h:gX R 5 ps cs):gX R 5 (p::ps) (va::vb::vc::vd::ve::cs):=gX.front hp rfl h rfl
theorem gX.c6 {α:Type} {R:α->List Value->Prop} {ps:List α} {cs:List Value} {p:α} {va vb vc vd ve vf:Value} (hp:R p [va,vb,vc,vd,ve,vf]) (h:gX R 6 ps cs):gX R 6 (p::ps) (va::vb::vc::vd::ve::vf::cs):=gX.front hp rfl h rfl
theorem gX.c7 {α:Type} {R:α->List Value->Prop} {ps:List α} {cs:List Value} {p:α} {va vb vc vd ve vf vg:Value} (hp:R p [va,vb,vc,vd,ve,vf,vg]) (h:gX R 7 ps cs):gX R 7 (p::ps) (va::vb::vc::vd::ve::vf::vg::cs):=gX.front hp rfl h rfl
theorem gX.c8 {α:Type} {R:α->List Value->Prop} {ps:List α} {cs:List Value} {p:α} {va vb vc vd ve vf vg vh:Value} (hp:R p [va,vb,vc,vd,ve,vf,vg,vh]) (h:gX R 8 ps cs):gX R 8 (p::ps) (va::vb::vc::vd::ve::vf::vg::vh::cs):=gX.front hp rfl h rfl
theorem gX.c9 {α:Type} {R:α->List Value->Prop} {ps:List α} {cs:List Value} {p:α} {va vb vc vd ve vf vg vh vi:Value} (hp:R p [va,vb,vc,vd,ve,vf,vg,vh,vi]) (h:gX R 9 ps cs):gX R 9 (p::ps) (va::vb::vc::vd::ve::vf::vg::vh::vi::cs):=gX.front hp rfl h rfl
theorem gX.c10 {α:Type} {R:α->List Value->Prop} {ps:List α} {cs:List Value} {p:α} {va vb vc vd ve vf vg vh vi vj:Value} (hp:R p [va,vb,vc,vd,ve,vf,vg,vh,vi,vj]) (h:gX R 10 ps cs):gX R 10 (p::ps) (va::vb::vc::vd::ve::vf::vg::vh::vi::vj::cs):=gX.front hp rfl h rfl
end Go.Proofs.YtcmfnebcmmklkaaDoorW.dQ
namespace Go.Proofs.YtcmfnebcmmklkaaDoorW.oU
def up (b:Nat->Bool) (i:Nat):Nat->Bool:=fun j=>if j=i then true else b j
section
variable {P:Program} {ops:Array Oper} {Q:Exit->Act->World->Prop} {md:Region.Mode} {T:Bool×List (List Nat×List Nat)} {B:List Nat} {O:List Nat} {b:Nat->Bool} {i j n:Nat}
theorem put_comm {a:Act} {s t:Tmp} {u v:Value} (h:s≠t):(a.put (some s) u).put (some t) v=(a.put (some t) v).put (some s) u:=by
 simp only[Act.put]
 rw[Array.setIfInBounds_comm _ _ h]
end
end Go.Proofs.YtcmfnebcmmklkaaDoorW.oU
namespace Go.Proofs.YtcmfnebcmmklkaaDoor.Q
open Go.RowKit Go.Proofs.YtcmfnebcmmklkaaDoorW.dQ Go.Proofs.YtcmfnebcmmklkaaDoorW.oU Go.Proofs.YtcmfnebcmmklkaaDoorW.gG
attribute [local go_sem] uA uB uC uD uM uN uO uP   -- for this text's walks alone
def aTU:Option Int->Value
 |none=>.nilIface
 |some c=>.iface 0 (.int .i64 c)
theorem iU:aTU none=.nilIface:=rfl
theorem iV (c:Int):aTU (some c)=.iface 0 (.int .i64 c):=rfl
theorem info3:(Tryd.prog.info? 3).map (fun i=>(i.zero,i.size,i.bytes))=some (some (.int .i64 0),1,8):=by kernel_rfl
theorem ba1:(Tryd.prog.info? 34).map (fun i=>(i.zero,i.size,i.bytes))=some (some (.slice none 0 0),1,24):=by kernel_rfl
theorem aCU:(Tryd.prog.info? 91).map (fun i=>(i.zero,i.size,i.bytes))=some (some (.agg #[(.int .i64 0),(.int .i64 0),(.int .i64 0),(.int .i64 0),(.int .i64 0),(.bool false)]),6,48):=by kernel_rfl
theorem bLM:(Tryd.prog.info? 109).map (fun i=>(i.zero,i.size,i.bytes))=some (some (.agg #[(.int .i64 0),(.int .i64 0),(.int .i64 0)]),3,24):=by kernel_rfl
theorem bCS:(Tryd.prog.info? 154).map (fun i=>(i.zero,i.size,i.bytes))=some (some (.agg #[(.int .i64 0),(.int .i64 0),(.int .i64 0)]),3,24):=by kernel_rfl
structure aZ where
 f0:Int
 f1:Int
def z89:aZ:=⟨(0:Int),(0:Int)⟩
def iJ:Kd aZ:=Kd.iso (Kd.pair (Kd.int .i64) (Kd.int .i64)) (fun x:aZ=>(x.f0,x.f1))
theorem ba2 {w:World} {x:aZ} {cs:List Value} (h:iJ.K w x cs):cs=[.int .i64 x.f0,.int .i64 x.f1]:=by
 obtain⟨_,_,rfl,rfl,rfl⟩:=h
 exact rfl
theorem aTW (w:World) (base:Nat) (ok:Nat->Prop) (x:aZ):iJ.M w base ok x [.int .i64 x.f0,.int .i64 x.f1]:=⟨[.int .i64 x.f0],[.int .i64 x.f1],rfl,rfl,rfl⟩
def dK (xs:List aZ) (i:Int):aZ:=xs.getD i.toNat z89
theorem QW {w:World} {A:Option Addr} {n:Nat} {xs:List aZ} (h:Kd.C iJ w A n xs) (i:Int) (h0:0<=i) (h1:i<n):∃ ad,A=some ad/\w.cell? (ad.add (i.toNat*2))=some (.int .i64 (dK xs i).f0)/\w.cell? ⟨(ad.add (i.toNat*2)).block,(ad.add (i.toNat*2)).off+1,none⟩=some (.int .i64 (dK xs i).f1):=by
 obtain⟨ad,c,e,_,hK,hc0⟩:=Kd.amH h z89 i h0 h1
 have hc:∀ j u,c[j]? =some u->w.cell? (ad.add (i.toNat*2+j))=some u:=hc0
 obtain rfl:=ba2 hK
 exact⟨ad,e,hc 0 _ rfl,by rw[<-ZV _ _ 1 (by omega)];exact hc 1 _ rfl⟩
structure aH where
 f0:Int
 f1:Int
def z42:aH:=⟨(0:Int),(0:Int)⟩
def iD:Kd aH:=Kd.iso (Kd.pair (Kd.int .i64) (Kd.int .i64)) (fun x:aH=>(x.f0,x.f1))
theorem aCV {w:World} {x:aH} {cs:List Value} (h:iD.K w x cs):cs=[.int .i64 x.f0,.int .i64 x.f1]:=by
 obtain⟨_,_,rfl,rfl,rfl⟩:=h
 exact rfl
theorem aCW {w:World} {base:Nat} {ok:Nat->Prop} {x:aH} {cs:List Value} (h:iD.M w base ok x cs):cs=[.int .i64 x.f0,.int .i64 x.f1]:=by
 obtain⟨_,_,rfl,rfl,rfl⟩:=h
 exact rfl
theorem aIT (w:World) (x:aH):iD.K w x [.int .i64 x.f0,.int .i64 x.f1]:=⟨[.int .i64 x.f0],[.int .i64 x.f1],rfl,rfl,rfl⟩
theorem WS (w:World) (base:Nat) (ok:Nat->Prop) (x:aH):iD.M w base ok x [.int .i64 x.f0,.int .i64 x.f1]:=⟨[.int .i64 x.f0],[.int .i64 x.f1],rfl,rfl,rfl⟩
def bM (xs:List aH) (i:Int):aH:=xs.getD i.toNat z42
theorem rE {w:World} {A:Option Addr} {n:Nat} {xs:List aH} (h:Kd.C iD w A n xs) (i:Int) (h0:0<=i) (h1:i<n):∃ ad,A=some ad/\w.cell? (ad.add (i.toNat*2))=some (.int .i64 (bM xs i).f0)/\w.cell? ⟨(ad.add (i.toNat*2)).block,(ad.add (i.toNat*2)).off+1,none⟩=some (.int .i64 (bM xs i).f1):=by
 obtain⟨ad,c,e,_,hK,hc0⟩:=Kd.amH h z42 i h0 h1
 have hc:∀ j u,c[j]? =some u->w.cell? (ad.add (i.toNat*2+j))=some u:=hc0
 obtain rfl:=aCV hK
 exact⟨ad,e,hc 0 _ rfl,by rw[<-ZV _ _ 1 (by omega)];exact hc 1 _ rfl⟩
structure aI where
 f0:Int
 f1:aH
 f2:aH
 f3:Bool
def z91:aI:=⟨(0:Int),z42,z42,false⟩
def iE:Kd aI:=Kd.iso (Kd.pair (Kd.int .i64) (Kd.pair iD (Kd.pair iD Kd.bool))) (fun x:aI=>(x.f0,x.f1,x.f2,x.f3))
theorem ba3 {w:World} {x:aI} {cs:List Value} (h:iE.K w x cs):cs=[.int .i64 x.f0,.int .i64 x.f1.f0,.int .i64 x.f1.f1,.int .i64 x.f2.f0,.int .i64 x.f2.f1,.bool x.f3]:=by
 obtain⟨_,_,rfl,rfl,⟨_,_,rfl,s1,⟨_,_,rfl,s3,rfl⟩⟩⟩:=h
 obtain rfl:=aCV s1
 obtain rfl:=aCV s3
 exact rfl
theorem atK (w:World) (base:Nat) (ok:Nat->Prop) (x:aI):iE.M w base ok x [.int .i64 x.f0,.int .i64 x.f1.f0,.int .i64 x.f1.f1,.int .i64 x.f2.f0,.int .i64 x.f2.f1,.bool x.f3]:=⟨[.int .i64 x.f0],[.int .i64 x.f1.f0,.int .i64 x.f1.f1,.int .i64 x.f2.f0,.int .i64 x.f2.f1,.bool x.f3],rfl,rfl,⟨[.int .i64 x.f1.f0,.int .i64 x.f1.f1],[.int .i64 x.f2.f0,.int .i64 x.f2.f1,.bool x.f3],rfl,(WS w base ok x.f1),⟨[.int .i64 x.f2.f0,.int .i64 x.f2.f1],[.bool x.f3],rfl,(WS w base ok x.f2),rfl⟩⟩⟩
def aU (xs:List aI) (i:Int):aI:=xs.getD i.toNat z91
theorem OO {w:World} {A:Option Addr} {n:Nat} {xs:List aI} (h:Kd.C iE w A n xs) (i:Int) (h0:0<=i) (h1:i<n):∃ ad,A=some ad/\w.cell? (ad.add (i.toNat*6))=some (.int .i64 (aU xs i).f0)/\w.cell? ⟨(ad.add (i.toNat*6)).block,(ad.add (i.toNat*6)).off+1,none⟩=some (.int .i64 (aU xs i).f1.f0)/\w.cell? ⟨(ad.add (i.toNat*6)).block,(ad.add (i.toNat*6)).off+2,none⟩=some (.int .i64 (aU xs i).f1.f1)/\w.cell? ⟨(ad.add (i.toNat*6)).block,(ad.add (i.toNat*6)).off+3,none⟩=some (.int .i64 (aU xs i).f2.f0)/\w.cell? ⟨(ad.add (i.toNat*6)).block,(ad.add (i.toNat*6)).off+4,none⟩=some (.int .i64 (aU xs i).f2.f1)/\w.cell? ⟨(ad.add (i.toNat*6)).block,(ad.add (i.toNat*6)).off+5,none⟩=some (.bool (aU xs i).f3):=by
 obtain⟨ad,c,e,_,hK,hc0⟩:=Kd.amH h z91 i h0 h1
 have hc:∀ j u,c[j]? =some u->w.cell? (ad.add (i.toNat*6+j))=some u:=hc0
 obtain rfl:=ba3 hK
 exact⟨ad,e,hc 0 _ rfl,by rw[<-ZV _ _ 1 (by omega)];exact hc 1 _ rfl,by rw[<-ZV _ _ 2 (by omega)];exact hc 2 _ rfl,by rw[<-ZV _ _ 3 (by omega)];exact hc 3 _ rfl,by rw[<-ZV _ _ 4 (by omega)];exact hc 4 _ rfl,by rw[<-ZV _ _ 5 (by omega)];exact hc 5 _ rfl⟩
def AP (xs:List (List Int)) (i:Int):(List Int):=xs.getD i.toNat ([]:List Int)
theorem atL {w:World} {A:Option Addr} {n:Nat} {xs:List (List Int)} (h:Kd.C (Kd.slice 3 (Kd.int .i64)) w A n xs) (i:Int) (h0:0<=i) (h1:i<n):∃ ad A0 c0,A=some ad/\w.cell? (ad.add i.toNat)=some (.slice A0 (AP xs i).length c0)/\(AP xs i).length<=c0/\(Kd.int .i64).C w A0 (AP xs i).length (AP xs i):=by
 obtain⟨ad,c,e,_,hK,hc0⟩:=Kd.amH h ([]:List Int) i h0 h1
 have hc:∀ j u,c[j]? =some u->w.cell? (ad.add (i.toNat*1+j))=some u:=hc0
 obtain⟨A0,c0,rfl,l0,g0⟩:=hK
 exact⟨ad,A0,c0,e,by have hq:=hc 0 _ rfl;rwa [Nat.mul_one,Nat.add_zero]at hq,l0,g0⟩
structure gQ where
 f0:Int
 f1:Int
 f2:Int
def z109:gQ:=⟨(0:Int),(0:Int),(0:Int)⟩
def vC:Kd gQ:=Kd.iso (Kd.pair (Kd.int .i64) (Kd.pair (Kd.int .i64) (Kd.int .i64))) (fun x:gQ=>(x.f0,x.f1,x.f2))
theorem ba4 {w:World} {x:gQ} {cs:List Value} (h:vC.K w x cs):cs=[.int .i64 x.f0,.int .i64 x.f1,.int .i64 x.f2]:=by
 obtain⟨_,_,rfl,rfl,⟨_,_,rfl,rfl,rfl⟩⟩:=h
 exact rfl
theorem bLN (w:World) (x:gQ):vC.K w x [.int .i64 x.f0,.int .i64 x.f1,.int .i64 x.f2]:=⟨[.int .i64 x.f0],[.int .i64 x.f1,.int .i64 x.f2],rfl,rfl,⟨[.int .i64 x.f1],[.int .i64 x.f2],rfl,rfl,rfl⟩⟩
theorem aIV (w:World) (base:Nat) (ok:Nat->Prop) (x:gQ):vC.M w base ok x [.int .i64 x.f0,.int .i64 x.f1,.int .i64 x.f2]:=⟨[.int .i64 x.f0],[.int .i64 x.f1,.int .i64 x.f2],rfl,rfl,⟨[.int .i64 x.f1],[.int .i64 x.f2],rfl,rfl,rfl⟩⟩
def DC (xs:List gQ) (i:Int):gQ:=xs.getD i.toNat z109
theorem aIW {w:World} {A:Option Addr} {n:Nat} {xs:List gQ} (h:Kd.C vC w A n xs) (i:Int) (h0:0<=i) (h1:i<n):∃ ad,A=some ad/\w.cell? (ad.add (i.toNat*3))=some (.int .i64 (DC xs i).f0)/\w.cell? ⟨(ad.add (i.toNat*3)).block,(ad.add (i.toNat*3)).off+1,none⟩=some (.int .i64 (DC xs i).f1)/\w.cell? ⟨(ad.add (i.toNat*3)).block,(ad.add (i.toNat*3)).off+2,none⟩=some (.int .i64 (DC xs i).f2):=by
 obtain⟨ad,c,e,_,hK,hc0⟩:=Kd.amH h z109 i h0 h1
 have hc:∀ j u,c[j]? =some u->w.cell? (ad.add (i.toNat*3+j))=some u:=hc0
 obtain rfl:=ba4 hK
 exact⟨ad,e,hc 0 _ rfl,by rw[<-ZV _ _ 1 (by omega)];exact hc 1 _ rfl,by rw[<-ZV _ _ 2 (by omega)];exact hc 2 _ rfl⟩
structure aaL where
 f0:Int
 f1:Int
 f2:Int
def z154:aaL:=⟨(0:Int),(0:Int),(0:Int)⟩
def ajW:Kd aaL:=Kd.iso (Kd.pair (Kd.int .i64) (Kd.pair (Kd.int .i64) (Kd.int .i64))) (fun x:aaL=>(x.f0,x.f1,x.f2))
theorem bQB {w:World} {x:aaL} {cs:List Value} (h:ajW.K w x cs):cs=[.int .i64 x.f0,.int .i64 x.f1,.int .i64 x.f2]:=by
 obtain⟨_,_,rfl,rfl,⟨_,_,rfl,rfl,rfl⟩⟩:=h
 exact rfl
theorem bCT (w:World) (base:Nat) (ok:Nat->Prop) (x:aaL):ajW.M w base ok x [.int .i64 x.f0,.int .i64 x.f1,.int .i64 x.f2]:=⟨[.int .i64 x.f0],[.int .i64 x.f1,.int .i64 x.f2],rfl,rfl,⟨[.int .i64 x.f1],[.int .i64 x.f2],rfl,rfl,rfl⟩⟩
def acP (xs:List aaL) (i:Int):aaL:=xs.getD i.toNat z154
theorem a1G {w:World} {A:Option Addr} {n:Nat} {xs:List aaL} (h:Kd.C ajW w A n xs) (i:Int) (h0:0<=i) (h1:i<n):∃ ad,A=some ad/\w.cell? (ad.add (i.toNat*3))=some (.int .i64 (acP xs i).f0)/\w.cell? ⟨(ad.add (i.toNat*3)).block,(ad.add (i.toNat*3)).off+1,none⟩=some (.int .i64 (acP xs i).f1)/\w.cell? ⟨(ad.add (i.toNat*3)).block,(ad.add (i.toNat*3)).off+2,none⟩=some (.int .i64 (acP xs i).f2):=by
 obtain⟨ad,c,e,_,hK,hc0⟩:=Kd.amH h z154 i h0 h1
 have hc:∀ j u,c[j]? =some u->w.cell? (ad.add (i.toNat*3+j))=some u:=hc0
 obtain rfl:=bQB hK
 exact⟨ad,e,hc 0 _ rfl,by rw[<-ZV _ _ 1 (by omega)];exact hc 1 _ rfl,by rw[<-ZV _ _ 2 (by omega)];exact hc 2 _ rfl⟩
attribute [local go_sem] uA uB uC uD uM uN uO uP
theorem ad5:(Tryd.prog.info? 42).map (fun i=>(i.zero,i.size,i.bytes))=some (some (.agg #[(.int .i64 0),(.int .i64 0)]),2,16):=by kernel_rfl
theorem ba5:(Tryd.prog.info? 197).map (fun i=>(i.zero,i.size,i.bytes))=some (some (.agg #[(.int .i64 0),(.int .i64 0),(.int .i64 0),(.bool false)]),4,32):=by kernel_rfl
structure dR where
 f0:aH
 f1:Int
 f2:Bool
def aTX:dR:=⟨z42,(0:Int),false⟩
def QX:Kd dR:=Kd.iso (Kd.pair iD (Kd.pair (Kd.int .i64) Kd.bool)) (fun x:dR=>(x.f0,x.f1,x.f2))
theorem aTY {w:World} {x:dR} {cs:List Value} (h:QX.K w x cs):cs=[.int .i64 x.f0.f0,.int .i64 x.f0.f1,.int .i64 x.f1,.bool x.f2]:=by
 obtain⟨_,_,rfl,s0,⟨_,_,rfl,rfl,rfl⟩⟩:=h
 obtain rfl:=aCV s0
 exact rfl
theorem ba6 (w:World) (x:dR):QX.K w x [.int .i64 x.f0.f0,.int .i64 x.f0.f1,.int .i64 x.f1,.bool x.f2]:=⟨[.int .i64 x.f0.f0,.int .i64 x.f0.f1],[.int .i64 x.f1,.bool x.f2],rfl,(aIT w x.f0),⟨[.int .i64 x.f1],[.bool x.f2],rfl,rfl,rfl⟩⟩
theorem ba7 (w:World) (base:Nat) (ok:Nat->Prop) (x:dR):QX.M w base ok x [.int .i64 x.f0.f0,.int .i64 x.f0.f1,.int .i64 x.f1,.bool x.f2]:=⟨[.int .i64 x.f0.f0,.int .i64 x.f0.f1],[.int .i64 x.f1,.bool x.f2],rfl,(WS w base ok x.f0),⟨[.int .i64 x.f1],[.bool x.f2],rfl,rfl,rfl⟩⟩
def dP (xs:List dR) (i:Int):dR:=xs.getD i.toNat aTX
theorem aIX {w:World} {A:Option Addr} {n:Nat} {xs:List dR} (h:Kd.C QX w A n xs) (i:Int) (h0:0<=i) (h1:i<n):∃ ad,A=some ad/\w.cell? (ad.add (i.toNat*4))=some (.int .i64 (dP xs i).f0.f0)/\w.cell? ⟨(ad.add (i.toNat*4)).block,(ad.add (i.toNat*4)).off+1,none⟩=some (.int .i64 (dP xs i).f0.f1)/\w.cell? ⟨(ad.add (i.toNat*4)).block,(ad.add (i.toNat*4)).off+2,none⟩=some (.int .i64 (dP xs i).f1)/\w.cell? ⟨(ad.add (i.toNat*4)).block,(ad.add (i.toNat*4)).off+3,none⟩=some (.bool (dP xs i).f2):=by
 obtain⟨ad,c,e,_,hK,hc0⟩:=Kd.amH h aTX i h0 h1
 have hc:∀ j u,c[j]? =some u->w.cell? (ad.add (i.toNat*4+j))=some u:=hc0
 obtain rfl:=aTY hK
 exact⟨ad,e,hc 0 _ rfl,by rw[<-ZV _ _ 1 (by omega)];exact hc 1 _ rfl,by rw[<-ZV _ _ 2 (by omega)];exact hc 2 _ rfl,by rw[<-ZV _ _ 3 (by omega)];exact hc 3 _ rfl⟩
theorem aIY {P:Program} {ops:Array Oper} {Q:Exit->Act->World->Prop} {oi:Oper} {N:Option Tmp} {a:Act} {w:World} {K:Act->World->Prop} {f:FuncId} {fn:Func} {as_:Array Operand} {ts:Array TypeId} {x:Operand} (hf:P.funcs[f]? =some fn) (hname:(fn.name== "runtime.NumGoroutine")=false) (hb:fn.body.isSome=true) (args:Array Value)
  (hw:Region.wanted oi (yielded ops a.tmps)=true) (hN:oi.dst=N) (hop:oi.op=.call { callee:=.value x,args:=as_,argTypes:=ts}) (hargs:as_.map a.eval=args)
  (h:Calls P f args w fun e w'=>∃ v,e=.returned v/\K (a.put N v) w') (hv:a.eval x=.func (.func f) #[] #[]:=by rfl):if Region.wanted oi (yielded ops a.tmps)=true then Oper.wp P oi a w K Q else K (a.put N undef) w:=by
 refine call_ f args hw hN ?_ h
 have he:=aIO hf hname hb args w
 unfold execOp
 simp[hop,resolve,Deferred.ofValue,invoke,hv,hargs,he]
def bl (n m:Nat):Array Bool:=((List.range n).map fun i=>m.testBit i).toArray
section
variable {P:Program} {md:Region.Mode} {ops:Array Oper} {Q:Exit->Act->World->Prop} {S:World->Prop} {ds:List Nat} {T:Bool×List (List Nat×List Nat)} {B:List Nat} {fuel:Nat} {l:Array Bool} {a a':Act} {w:World} {oi:Oper} {v:Value}
theorem pq (i:Nat) (N:Option Tmp) (l':Array Bool) (hT:aA (qW md ops=T)) (hi:ops[i]? =some oi:=by rfl) (hN:oi.dst=N:=by rfl) (hc:ap6 T l.toList l'.toList i=true:=by kernel_rfl)
  (hQ:∀ c a w,Q (.panic c) (a.put oi.dst v) w->Q (.panic c) a w:=by exact fun _ _ _ h=>h) (h1:Region.wanted oi (yielded ops a.tmps)=true:=by rfl) (h2:∀ w,(execOp a.eval oi).run P w=.ok (.value v) w:=by intro w';go_simp;with_reducible rfl)
  (ha:a.put N v=a':=by simp only[Act.put,List.setIfInBounds_toArray,List.set_cons_zero,List.set_cons_succ,wQ,yQ];rfl)
  (h:pW P md ops Q S ds fuel l' a' w):pW P md ops Q S ds (fuel+1) l a w:=ap1 l' hi hN (aTQ hT.out hc) hQ (Or.inl ⟨h1,h2⟩) ha h
theorem tq (i:Nat) (N:Option Tmp) (l':Array Bool) (hT:aA (qW md ops=T)) (hW:aA (CZ T.2 B=true)) (hS:S w) (hi:ops[i]? =some oi:=by rfl) (hN:oi.dst=N:=by rfl) (hc:aIR T B ds l.toList l'.toList i=true:=by kernel_rfl)
  (hQ:∀ c a w,Q (.panic c) (a.put oi.dst v) w->Q (.panic c) a w:=by exact fun _ _ _ h=>h) (h1:Region.wanted oi (yielded ops a.tmps)=true:=by rfl) (h2:∀ w,S w->(execOp a.eval oi).run P w=.ok (.value v) w:=by intro w' h_;go_simp;with_reducible rfl)
  (ha:a.put N v=a':=by simp only[Act.put,List.setIfInBounds_toArray,List.set_cons_zero,List.set_cons_succ,wQ,yQ];rfl)
  (h:pW P md ops Q S ds fuel l' a' w):pW P md ops Q S ds (fuel+1) l a w:=amE l' hi hN (ba0 hT.out hW.out hc) hQ (Or.inl ⟨h1,h2⟩) hS ha h
theorem nq (k:Nat) {v:Value} {l:Array Bool} (h:pW P md ops Q S ds fuel l a' w) (ha:a.put (some k) v=a':=by simp only[Act.put,List.setIfInBounds_toArray,List.set_cons_zero,List.set_cons_succ,wQ,yQ];rfl):pW P md ops Q S ds fuel l (a.put (some k) v) w:=MH ha h
end
section
variable {α:Type} {d:Kd α} {e base:Nat} {ok:Nat->Prop} {v:Value} {xs:List α} {w w' w0:World} {g:Nat} {o:Obj}
theorem R_ (H:aA (d.R e w base ok v xs)) (p:Below w.heap.size w w':=by(repeat(first|(with_reducible exact Below.refl _ _)|apply PW|apply YV|apply sW));first|done|fail):d.R e w' base ok v xs:=Kd.rY H.out p
theorem b_ (H:aA (w.heap[g]? =some o)) (p:Below w.heap.size w w':=by(repeat(first|(with_reducible exact Below.refl _ _)|apply PW|apply YV|apply sW));first|done|fail):w'.heap[g]? =some o:=fC H.out p
theorem B_ (H:aA (Below w0.heap.size w0 w)) (p:Below w.heap.size w w':=by(repeat(first|(with_reducible exact Below.refl _ _)|apply PW|apply YV|apply sW));first|done|fail):Below w0.heap.size w0 w':=a9T H.out p
end
section
variable {α:Type} {d:Kd α} {e base g t n c:Nat} {ok:Nat->Prop} {v:Value} {xs:List α} {w w' w'' w0:World} {o:Obj} {A:Option Addr} {cells:Array Value}
theorem Bq (H:aA (Below w0.heap.size w0 w)) (p:Below w0.heap.size w0 w->Below w0.heap.size w0 w':=by intro h_;(repeat(first|(with_reducible first|exact h_|apply PW|apply YV|apply sW|refine aCM ?_ (aA.out (by assumption)))|exact h_));first|done|fail):Below w0.heap.size w0 w':=p H.out
theorem bb (H:aA (w.heap[g]? =some o)) (hb:Below w'.heap.size w' w'') (p:Below w.heap.size w w':=by(repeat(first|(with_reducible exact Below.refl _ _)|apply PW|apply YV|apply sW));first|done|fail):aA (w''.heap[g]? =some o):=⟨fC (fC H.out p) hb⟩
theorem RB (H:aA (d.R e w base ok v xs)) (hb:Below w'.heap.size w' w'') (p:Below w.heap.size w w':=by(repeat(first|(with_reducible exact Below.refl _ _)|apply PW|apply YV|apply sW));first|done|fail):aA (d.R e w'' base ok v xs):=⟨Kd.rY (Kd.rY H.out p) hb⟩
theorem rC (H:aA (d.R e w base ok (.slice A n c) xs)) (p:Below w.heap.size w w':=by(repeat(first|(with_reducible exact Below.refl _ _)|apply PW|apply YV|apply sW));first|done|fail):d.C w' A xs.length xs:=(Kd.dB (Kd.rY H.out p)).2.2
theorem kc (H:aA (w.heap[g]? =some (.cells cells t (0,0)))) (i:Nat) (hv:cells[i]? =some v:=by rfl):w.cell? ⟨g,i,none⟩=some v:=(MC H.out i).trans hv
end
section
variable {P:Program} {md:Region.Mode} {ops:Array Oper} {Q:Exit->Act->World->Prop} {S:World->Prop} {ds:List Nat} {T:Bool×List (List Nat×List Nat)} {B:List Nat} {fuel:Nat} {l:Array Bool} {a a':Act} {w:World} {oi:Oper} {v:Value}
theorem pS (i N n m:Nat) (hT:aA (qW md ops=T)) (h:pW P md ops Q S ds fuel (bl n m) a' w) (hi:ops[i]? =some oi:=by rfl) (hN:oi.dst=some N:=by rfl) (hc:ap6 T l.toList (bl n m).toList i=true:=by kernel_rfl)
  (hQ:∀ c a w,Q (.panic c) (a.put oi.dst v) w->Q (.panic c) a w:=by exact fun _ _ _ h=>h) (h1:Region.wanted oi (yielded ops a.tmps)=true:=by rfl) (h2:∀ w,(execOp a.eval oi).run P w=.ok (.value v) w:=by intro w';go_simp;with_reducible rfl)
  (ha:a.put (some N) v=a':=by simp only[Act.put,List.setIfInBounds_toArray,List.set_cons_zero,List.set_cons_succ,wQ,yQ];rfl):pW P md ops Q S ds (fuel+1) l a w:=pq i (some N) (bl n m) hT hi hN hc hQ h1 h2 ha h
end
section
variable {P:Program} {ops:Array Oper} {Q:Exit->Act->World->Prop} {rest:List Oper} {o oi:Oper} {a:Act} {w W:World}
theorem eX (N:Tmp) (cs:Array Value) (t:TypeId)
  (h:∀ g,g=W.heap.size->∀ w1,w1.heap[g]? =some (.cells cs t (0,0))->Below W.heap.size W w1->wpList P ops Q (rest) (a.put o.dst (.pointer (some ⟨g,0,none⟩))) w1)
  (hd:o.dst=some N:=by rfl) (hgd:o.guard=none:=by rfl)
  (hrun:(execOp a.eval o).run P W=.ok (.value (.pointer (some ⟨W.heap.size,0,none⟩))) (W.alloc (.cells cs t (0,0))):=by first|(go_simp;first|done|fail)|(go_simp;rfl)):wpList P ops Q (o::rest) a W:=
 a9U hgd hd hrun h
theorem cE (N:Tmp) {f:FuncId} {fn:Func} {ag:Array Operand} {ts:Array TypeId} (hf:P.funcs[f]? =some fn) (args:Array Value)
  (h:Calls P f args w fun e w'=>∃ v,e=.returned v/\wpList P ops Q rest (a.put (some N) v) w')
  (hop:oi.op=.call { callee:=.value (.func f),args:=ag,argTypes:=ts}:=by rfl) (hd:oi.dst=some N:=by rfl) (hg:oi.guard=none:=by rfl)
  (hname:(fn.name== "runtime.NumGoroutine")=false:=by kernel_rfl) (hb:fn.body.isSome=true:=by rfl)
  (hargs:ag.map a.eval=args:=by(try simp only[List.map_toArray,List.map_cons,List.map_nil]);first|done|rfl|(simp only[List.length_drop,List.length_take];rfl)):wpList P ops Q (oi::rest) a w:=
 baF (some N) hd hg hf hname hb args hop hargs h
end
section
variable {w w' w0 w1:World} {g g':Nat} {ob:Obj}
theorem gw (hg:g=w.heap.size) (H:aA (Below w0.heap.size w0 w1)) (p:Below w0.heap.size w0 w1->Below w0.heap.size w0 w:=by intro h_;(repeat(first|(with_reducible first|exact h_|apply PW|apply YV|apply sW|refine aCM ?_ (aA.out (by assumption)))|exact h_));first|done|fail):aA (w0.heap.size<=g):=⟨by rw[hg];exact dH (p H.out)⟩
theorem nl (hg:g=w.heap.size) (H:aA (w1.heap[g']? =some ob)) (p:Below w1.heap.size w1 w:=by(repeat(first|(with_reducible exact Below.refl _ _)|apply PW|apply YV|apply sW));first|done|fail):aA (g'≠g):=⟨by rw[hg];exact Nat.ne_of_lt (AO (fC H.out p))⟩
theorem ng (hg:g=w.heap.size) (H:aA (w1.heap[g']? =some ob)) (p:Below w1.heap.size w1 w:=by(repeat(first|(with_reducible exact Below.refl _ _)|apply PW|apply YV|apply sW));first|done|fail):aA (g≠g'):=⟨by rw[hg];exact Nat.ne_of_gt (AO (fC H.out p))⟩
theorem nL (hg:g=w.heap.size) (H:w.heap[g']? =some ob):aA (g'≠g):=⟨by rw[hg];exact Nat.ne_of_lt (AO H)⟩
theorem nG (hg:g=w.heap.size) (H:w.heap[g']? =some ob):aA (g≠g'):=⟨by rw[hg];exact Nat.ne_of_gt (AO H)⟩
theorem bs (H:aA (Below w0.heap.size w0 w1)) (hb:Below w.heap.size w w') (p:Below w0.heap.size w0 w1->Below w0.heap.size w0 w:=by intro h_;(repeat(first|(with_reducible first|exact h_|apply PW|apply YV|apply sW|refine aCM ?_ (aA.out (by assumption)))|exact h_));first|done|fail):aA (Below w0.heap.size w0 w'):=⟨a9T (p H.out) hb⟩
theorem kd {cells:Array Value} {t:TypeId} (H:aA (w.heap[g]? =some (.cells cells t (0,0)))) (i:Nat) (v:Value) (hv:cells[i]? =some v:=by rfl):w.cell? ⟨g,i,none⟩=some v:=(MC H.out i).trans hv
theorem bZ {cells:Array Value} {t:TypeId} (H:aA (w.heap[g]? =some (.cells cells t (0,0)))) (v u:Value) (hv:cells[0]? =some v:=by rfl) (hu:cells[1]? =some u:=by rfl):w.cell? ⟨g,0,none⟩=some v/\w.cell? ⟨g,1,none⟩=some u:=⟨(MC H.out 0).trans hv,(MC H.out 1).trans hu⟩
theorem xs {ad:Addr} {v:Value} (H:aA (Below w.heap.size w w')) (h:w.cell? ad=some v):w'.cell? ad=some v:=(H.out.cell (World.block_lt_of_cell? w _ h)).trans h
theorem od {p:Prop} [Decidable p] (h:decide p=true:=by first|(with_reducible assumption)|assumption):p:=of_decide_eq_true h
theorem eR {p:Prop} (H:aA (Below w0.heap.size w0 w1)) (h:p:=by first|rfl|(simp[iU,iV]<;>rfl)|(simp[*,iU,iV]<;>rfl)) (q:Below w0.heap.size w0 w1->Below w0.heap.size w0 w:=by intro h_;(repeat(first|(with_reducible first|exact h_|apply PW|apply YV|apply sW|refine aCM ?_ (aA.out (by assumption)))|exact h_));first|done|fail):p/\Below w0.heap.size w0 w:=⟨h,q H.out⟩
end
attribute [local go_sem] uA uB uC uD uM uN uO uP   -- for this text's walks alone
theorem aIZ (d:Nat) (w:World) (x0 y0:Int) (x1 y1:Int):
  (Op.equalIn (d+2) 42 (.agg #[.int .i64 x0,.int .i64 x1]) (.agg #[.int .i64 y0,.int .i64 y1])).run Tryd.prog w=.ok (x0==y0&&(x1==y1)) w:=by
 refine atJ Tryd.underlying42 (by kernel_rfl) ?_
 refine ae8 (by rfl) (by go_simp;rfl) (by go_simp;rfl) (by go_simp) ?_
 exact atI (by rfl) (by go_simp;rfl) (by go_simp;rfl) (by go_simp)
end Go.Proofs.YtcmfnebcmmklkaaDoor.Q
namespace Go.Proofs.YtcmfnebcmmklkaaDoor.Hand
open Go.RowKit Go.Shelf Go.Proofs.YtcmfnebcmmklkaaDoorW.dQ Go.Proofs.YtcmfnebcmmklkaaDoorW.gG
theorem TY (W:World) (x:Int) (e:TypeId) (n:Nat) (hn:W.heap.size=n):Kd.C (Kd.int .i64) (W.alloc (.cells #[.int .i64 x] e)) (some ⟨n,0,none⟩) 1 [x]:=by
 subst hn
 refine⟨rfl,by omega,fun _=>⟨_,rfl,?_⟩⟩
 intro j p hp
 obtain rfl:j=0:=by
  rcases Nat.eq_zero_or_pos j with h|h
  ·exact h
  ·simp[show ¬ j=0 by omega]at hp
 obtain rfl:x=p:=by simpa using hp
 refine⟨[.int .i64 x],rfl,rfl,?_⟩
 intro i u hu
 obtain rfl:i=0:=by
  rcases Nat.eq_zero_or_pos i with h|h
  ·exact h
  ·simp[show ¬ i=0 by omega]at hu
 obtain rfl:.int .i64 x=u:=by simpa using hu
 go_simp
theorem auV (W:World) (x y:Int) (e:TypeId) (n:Nat) (hn:W.heap.size=n):Kd.C (Kd.int .i64) (W.alloc (.cells #[.int .i64 x,.int .i64 y] e)) (some ⟨n,0,none⟩) 2 [x,y]:=by
 subst hn
 refine⟨rfl,by omega,fun _=>⟨_,rfl,?_⟩⟩
 intro j p hp
 have hj:j<2:=by
  have:=(List.getElem?_eq_some_iff.1 hp).1
  simpa using this
 match j,hj with
 |0,_=>
  obtain rfl:x=p:=by simpa using hp
  refine⟨[.int .i64 x],rfl,rfl,?_⟩
  intro i u hu
  obtain rfl:i=0:=by
   rcases Nat.eq_zero_or_pos i with h|h
   ·exact h
   ·simp[show ¬ i=0 by omega]at hu
  obtain rfl:.int .i64 x=u:=by simpa using hu
  go_simp
 |1,_=>
  obtain rfl:y=p:=by simpa using hp
  refine⟨[.int .i64 y],rfl,rfl,?_⟩
  intro i u hu
  obtain rfl:i=0:=by
   rcases Nat.eq_zero_or_pos i with h|h
   ·exact h
   ·simp[show ¬ i=0 by omega]at hu
  obtain rfl:.int .i64 y=u:=by simpa using hu
  show _=_
  go_simp
  rfl
def Box (w:World) (b:Nat) (vs:Array Value) (t:TypeId):Prop:=w.heap[b]? =some (.cells vs t (0,0))
theorem Box.lt {w:World} {b:Nat} {vs:Array Value} {t:TypeId} (h:Box w b vs t):b<w.heap.size:=lt_of_block h
theorem Box.cell {w:World} {b:Nat} {vs:Array Value} {t:TypeId} (h:Box w b vs t) (i:Nat) {v:Value} (hv:vs[i]? =some v):w.cell? ⟨b,i,none⟩=some v:=by
 unfold Box at h
 simp[World.cell?,h,hv]
theorem Box.frozen {w:World} {b:Nat} {vs:Array Value} {t:TypeId} (h:Box w b vs t) (i:Nat):w.frozen? ⟨b,i,none⟩=false:=by
 unfold Box at h
 simp[World.frozen?,h]
theorem Box.new (w:World) (vs:Array Value) (t:TypeId):Box (w.alloc (.cells vs t)) w.heap.size vs t:=World.alloc_heap_new w _
theorem Box.new' {w:World} (vs:Array Value) (t:TypeId) (n:Nat) (h:w.heap.size=n):Box (w.alloc (.cells vs t)) n vs t:=by subst h;exact World.alloc_heap_new w _
theorem Box.below {w w':World} {b B:Nat} {vs:Array Value} {t:TypeId} (h:Box w b vs t) (hb:Below B w w') (hB:b<B):Box w' b vs t:=(hb.block b hB).trans h
theorem Box.alloc {w:World} {b:Nat} {vs:Array Value} {t:TypeId} (h:Box w b vs t) (o:Obj):Box (w.alloc o) b vs t:=(Below.heap_alloc w o b h.lt).trans h
theorem Box.step {w w':World} {b:Nat} {vs:Array Value} {t:TypeId} (h:Box w b vs t) (hb:Below w.heap.size w w'):Box w' b vs t:=h.below hb h.lt
end Go.Proofs.YtcmfnebcmmklkaaDoor.Hand
namespace Go.Proofs.YtcmfnebcmmklkaaDoor.Q
open Go.RowKit Go.Proofs.YtcmfnebcmmklkaaDoorW.dQ Go.Proofs.YtcmfnebcmmklkaaDoorW.oU Go.Proofs.YtcmfnebcmmklkaaDoorW.gG
attribute [local go_sem] uA uB uC uD uM uN uO uP   -- for this text's walks alone
theorem bmM (d:Nat) (w:World) (x0 y0:Int) (x1 y1:Int):
  (Op.equalIn (d+2) 89 (.agg #[.int .i64 x0,.int .i64 x1]) (.agg #[.int .i64 y0,.int .i64 y1])).run Tryd.prog w=.ok (x0==y0&&(x1==y1)) w:=by
 refine atJ Tryd.underlying89 (by kernel_rfl) ?_
 refine ae8 (by rfl) (by go_simp;rfl) (by go_simp;rfl) (by go_simp) ?_
 exact atI (by rfl) (by go_simp;rfl) (by go_simp;rfl) (by go_simp)
attribute [local go_sem] uA uB uC uD uM uN uO uP   -- for this text's walks alone
theorem bmN (d:Nat) (w:World) (x0 y0:Int) (x1 y1:Int) (x2 y2:Int) (x3 y3:Int) (x4 y4:Int) (x5 y5:Bool):
  (Op.equalIn (d+3) 91 (.agg #[.int .i64 x0,.int .i64 x1,.int .i64 x2,.int .i64 x3,.int .i64 x4,.bool x5]) (.agg #[.int .i64 y0,.int .i64 y1,.int .i64 y2,.int .i64 y3,.int .i64 y4,.bool y5])).run Tryd.prog w=.ok (x0==y0&&((x1==y1&&(x2==y2))&&((x3==y3&&(x4==y4))&&(x5==y5)))) w:=by
 refine atJ Tryd.underlying91 (by kernel_rfl) ?_
 refine ae8 (by rfl) (by go_simp;rfl) (by go_simp;rfl) (by go_simp) ?_
 refine ae8 (by rfl) (by go_simp) (by go_simp) (aIZ (d+0) w _ _ _ _) ?_
 refine ae8 (by rfl) (by go_simp) (by go_simp) (aIZ (d+0) w _ _ _ _) ?_
 exact atI (by rfl) (by go_simp;rfl) (by go_simp;rfl) (by go_simp)
end Go.Proofs.YtcmfnebcmmklkaaDoor.Q
