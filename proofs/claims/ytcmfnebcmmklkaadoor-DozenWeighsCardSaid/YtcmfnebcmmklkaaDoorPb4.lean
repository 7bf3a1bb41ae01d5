/- What DozenWeighs reaches beyond the shared texts, and its card. Part 4 of 6. -/
import Derived.Test.YtcmfnebcmmklkaaDoorM1
set_option linter.unusedVariables false
set_option linter.unusedSimpArgs false
set_option maxRecDepth 100000
set_option maxHeartbeats 8000000
namespace Go.Proofs.YtcmfnebcmmklkaaDoor.Hand
def ajZ (s:Iv) (l:List Int):Iv:=l.foldl (fun s x=>(min s.1 x,max s.2 x)) s
theorem bO8:∀ (l:List Int) (s:Iv),((ajZ s l).1=s.1∨(ajZ s l).1∈l)/\((ajZ s l).2=s.2∨(ajZ s l).2∈l)/\(ajZ s l).1<=s.1/\s.2<=(ajZ s l).2/\∀ x∈l,(ajZ s l).1<=x/\x<=(ajZ s l).2:=by
 intro l
 induction l with
 |nil=>intro s;exact⟨.inl rfl,.inl rfl,Int.le_refl _,Int.le_refl _,by simp⟩
 |cons y l ih=>
  intro s
  have h:=ih (min s.1 y,max s.2 y)
  have e:ajZ s (y::l)=ajZ (min s.1 y,max s.2 y) l:=rfl
  rw[e]
  obtain⟨h1,h2,h3,h4,h5⟩:=h
  simp only at h1 h2 h3 h4
  refine⟨?_,?_,by omega,by omega,?_⟩
  ·rcases h1 with h1|h1
   ·by_cases hs:s.1<=y
    ·exact .inl (by omega)
    ·exact .inr (by rw[h1,show min s.1 y=y by omega];exact List.mem_cons_self)
   ·exact .inr (List.mem_cons_of_mem _ h1)
  ·rcases h2 with h2|h2
   ·by_cases hs:y<=s.2
    ·exact .inl (by omega)
    ·exact .inr (by rw[h2,show max s.2 y=y by omega];exact List.mem_cons_self)
   ·exact .inr (List.mem_cons_of_mem _ h2)
  ·intro x hx
   rcases List.mem_cons.1 hx with rfl|hx
   ·omega
   ·exact h5 x hx
theorem bKV {s t:Iv} {l k:List Int} (hl:l≠[]) (h1:∀ x∈l,x<=s.1/\s.2<=x) (h2:∀ x∈k,x<=t.1/\t.2<=x) (hk:∀ x∈k,∃ a∈l,∃ b∈l,a<=x/\x<=b) (hlk:∀ x∈l,x∈k):ajZ s l=ajZ t k:=by
 obtain⟨y,hy⟩:=List.exists_mem_of_ne_nil _ hl
 obtain⟨a1,a2,a3,a4,a5⟩:=bO8 l s
 obtain⟨b1,b2,b3,b4,b5⟩:=bO8 k t
 have m1:(ajZ s l).1∈l:=by
  rcases a1 with h|h
  ·have:=a5 y hy;have:=h1 y hy
   rwa [show(ajZ s l).1=y by omega]
  ·exact h
 have m2:(ajZ s l).2∈l:=by
  rcases a2 with h|h
  ·have:=a5 y hy;have:=h1 y hy
   rwa [show(ajZ s l).2=y by omega]
  ·exact h
 have hyk:=hlk y hy
 have n1:(ajZ t k).1∈k:=by
  rcases b1 with h|h
  ·have:=b5 y hyk;have:=h2 y hyk
   rwa [show(ajZ t k).1=y by omega]
  ·exact h
 have n2:(ajZ t k).2∈k:=by
  rcases b2 with h|h
  ·have:=b5 y hyk;have:=h2 y hyk
   rwa [show(ajZ t k).2=y by omega]
  ·exact h
 obtain⟨p,hp,_,_,hp1,_⟩:=hk _ n1
 obtain⟨_,_,q,hq,_,hq1⟩:=hk _ n2
 have c1:=a5 p hp
 have c2:=a5 q hq
 have c3:=b5 _ (hlk _ m1)
 have c4:=b5 _ (hlk _ m2)
 exact Prod.ext (by omega) (by omega)
end Go.Proofs.YtcmfnebcmmklkaaDoor.Hand
