/- What the laws of chapter 9 share: words about rows and regions, the walks of the package dozen, and that known returns true. Part 12 of 15. -/
import Derived.Test.YtcmfnebcmmklkaaDoorM11
import Derived.WalkSpells
import Derived.Test.YtcmfnebcmmklkaaDoorM10
import Derived.Test.YtcmfnebcmmklkaaDoorM9
import Derived.Test.YtcmfnebcmmklkaaDoorM1
import Derived.Test.YtcmfnebcmmklkaaDoorM5
import Derived.Test.YtcmfnebcmmklkaaDoorM3
import Derived.Maps.Own
import Derived.Maps.OwnSet
import Derived.WideKeyArr
set_option linter.unusedVariables false
set_option linter.unusedSimpArgs false
set_option maxRecDepth 100000
set_option maxHeartbeats 8000000
namespace Go.Proofs.YtcmfnebcmmklkaaDoor.Hand
open Go.RowKit Go.Shelf Go.Proofs.YtcmfnebcmmklkaaDoorW.dQ Go.Proofs.YtcmfnebcmmklkaaDoorW.gG Go.Proofs.YtcmfnebcmmklkaaDoor.Q
attribute [local go_sem] Oper.semAt_some run_store_func
def BC (R:pU) (cs:List gQ) (wo:Nat) (d:List Int):Bool:= !(anW R cs d wo).isEmpty
def PM (R:pU) (cs:List gQ) (most:Int) (wo:Nat):List (List Int):=(exL most cs).filter (BC R cs wo)
theorem aFC {W:World} {b:Nat} {R:pU} {A:Option Addr} {n cp:Nat} {most:Int} (h:Box W b (qH R A n cp most) 141):
  W.cell? ⟨b,0,none⟩=some (.int .i64 R.l.f0)/\W.cell? ⟨b,1,none⟩=some (.int .i64 R.l.f1)/\W.cell? ⟨b,2,none⟩=some (.int .i64 R.r.f0)/\W.cell? ⟨b,3,none⟩=some (.int .i64 R.r.f1)/\W.cell? ⟨b,4,none⟩=some (.int .i64 R.t.f0)/\W.cell? ⟨b,5,none⟩=some (.int .i64 R.t.f1)/\W.cell? ⟨b,6,none⟩=some (.int .i64 R.off)/\W.cell? ⟨b,7,none⟩=some (.slice A n cp)/\W.cell? ⟨b,8,none⟩=some (.int .i64 most):=
 ⟨h.cell 0 rfl,h.cell 1 rfl,h.cell 2 rfl,h.cell 3 rfl,h.cell 4 rfl,h.cell 5 rfl,h.cell 6 rfl,h.cell 7 rfl,h.cell 8 rfl⟩
theorem aZC (R:pU) (hR:arQ R) (cs:List gQ) (hcs:∀ x∈cs,ZI x) (h5:cs.length<=5) (most:Int) (hm:0<=most/\most<=2) (A:Option Addr) (cp wo:Nat) (hwo:wo<32) (w:World) (hr:Kd.C vC w A cs.length cs):
  Calls Tryd.prog 94 #[.agg (qH R A cs.length cp most),.int .u64 (wo:Int)] w fun e w'=>∃ v,e=.returned v/\uX w' w.heap.size v (PM R cs most wo)/\Below w.heap.size w w':=by
 obtain⟨hxl,hxa⟩:=arS hm h5
 have hres:∀ (t:Array Value) (W:World) (v:Value),t.getD 4 undef=.pointer (some ⟨w.heap.size+2,0,none⟩)->Box W (w.heap.size+2) #[v] 56->(results Tryd.f94 t).run Tryd.prog W=.ok v W:=by
  intro t W v h1 b1
  have d0:W.cell? ⟨w.heap.size+2,0,none⟩=some v:=b1.cell 0 rfl
  simp only[Array.getD_eq_getD_getElem?]at h1
  clear b1
  simp[results,Tryd.results94,go_sem,h1,d0]
 obtain⟨Wa,hWa⟩:∃ Wa,((w.alloc (.cells (qH R A cs.length cp most) 141)).alloc (.cells #[.int .u64 (wo:Int)] 135)).alloc (.cells #[.slice none 0 0] 56)=Wa:=⟨_,rfl⟩
 have hba:Below w.heap.size w Wa:=by rw[<-hWa];exact(((Below.refl _ _).alloc (Nat.le_refl _) _).alloc (by simp) _).alloc (by simp;omega) _
 have x1:Box Wa w.heap.size (qH R A cs.length cp most) 141:=by rw[<-hWa];exact((Box.new _ _ _).alloc _).alloc _
 have x2:Box Wa (w.heap.size+1) #[.int .u64 (wo:Int)] 135:=by rw[<-hWa];exact(Box.new' _ _ _ (by simp)).alloc _
 have x3:Box Wa (w.heap.size+2) #[.slice none 0 0] 56:=by rw[<-hWa];exact Box.new' _ _ _ (by simp)
 have hsz:Wa.heap.size=w.heap.size+3:=by rw[<-hWa];simp
 have hcC:Kd.C vC Wa A cs.length cs:=Kd.bJ hr hba
 unfold qH at hWa
 refine(callsIn_wide (n:=0)).1 ?_
 refine callsIn_of_wp_marks Tryd.func94 rfl trivial ?_
 simp only[Tryd.ntmps94,List.size_toArray,List.length_cons,List.length_nil,Nat.reduceAdd,Nat.reduceSub,Array.replicate_succ,Array.replicate_zero,List.push_toArray,List.append_toArray,List.nil_append,List.cons_append,qH]
 obtain⟨c0,c1,c2,c3,c4,c5,c6,c7,c8⟩:=aFC x1
 gi_wp2
 clear c0 c1 c2 c3 c4 c5 c6 c7 c8 hWa
 refine be9 (gf:=112) (first:=#[.agg (qH R A cs.length cp most)]) (lb:=#[]) rfl (enters_of Tryd.func112 (by kernel_rfl) rfl) (blW R cs (fun x hx=>(hcs x hx).1) h5 most hm A cp w.heap.size) (by rintro x args W ⟨v,rfl,_⟩;rfl) (fun X Y h hi=>h.xW hi) (fun X Y h=>iZ.of_below h)
  (fun pre W=>∃ vL,uX W w.heap.size vL (pre.filter (BC R cs wo))/\Box W (w.heap.size+2) #[vL] 56/\Box W w.heap.size (qH R A cs.length cp most) 141/\Box W (w.heap.size+1) #[.int .u64 (wo:Int)] 135/\Below w.heap.size w W)
  (fun _ _ _=>False)
  (fun pre X Y ⟨vL,h1,h2,h3,h4,h5⟩ hi=>⟨vL,h1.xW hi,hi.box h2,hi.box h3,hi.box h4,nM.below h5 hba.size (Nat.le_refl _) hi⟩)
  (fun pre X Y ⟨vL,h1,h2,h3,h4,h5⟩ st=>⟨vL,h1.step st,h2.step st,h3.step st,h4.step st,h5.trans (st.mono h5.size)⟩)
  (fun _ _ _ _ h _=>h) (fun _ _ _ _ h _=>h)
  ⟨_,uX.nil _ _,x3,x1,x2,hba⟩ ⟨hba.size,hcC⟩
  (fun x a' W=>∃ (v:Value) (bd:Nat),eH W w.heap.size v x/\Box W bd #[v] 34/\w.heap.size+2<bd/\a'={ tmps:=#[.agg (qH R A cs.length cp most),.int .u64 (wo:Int),.pointer (some ⟨w.heap.size,0,none⟩),.pointer (some ⟨w.heap.size+1,0,none⟩),.pointer (some ⟨w.heap.size+1+1,0,none⟩),.pointer (some ⟨bd,0,none⟩),.agg (qH R A cs.length cp most),.func (.func 112) #[.agg (qH R A cs.length cp most)] #[],v,undef,undef,undef,undef,undef,undef,undef,undef,undef,undef],defers:=[]})
  (fun x a' X Y ⟨v,bd,h1,h2,h3,h4⟩ hi=>⟨v,bd,h1.xW hi,hi.box h2,h3,h4⟩) ?assign ?body ?done ?stop
 case assign=>
  rintro l pre x args W K ⟨vL,h1,h2,h3,h4,h5⟩ hv hp ⟨v,rfl,ho⟩ hK
  have hb:Below W.heap.size W (W.alloc (.cells #[v] 34)):=(Below.refl _ _).alloc (Nat.le_refl _) _
  obtain⟨Av,cv,rfl⟩:=ho.slice
  gi_wp2
  exact hK _ _ (iZ.of_below hb) (qK.of_below hb) ⟨vL,h1.step hb,h2.step hb,h3.step hb,h4.step hb,h5.trans (hb.mono h5.size)⟩ (hv.step hb) ⟨_,_,ho.below' hb,Box.new _ _ _,h2.lt,rfl⟩
 case body=>
  rintro l pre x a' W hl ⟨r₀,hr0⟩ ⟨vL,h1,h2,h3,h4,h5⟩ hv hp ⟨v,bd,ho,hbd,hbd2,rfl⟩
  have hxm:x∈exL most cs:=by
   obtain⟨z,hz⟩:=hp
   rw[<-hz]
   simp
  obtain⟨aZD,hxb⟩:=hxa x hxm
  have hxn:=Lib.hid aZD
  clear aZD hxm
  have hpl:(pre.filter (BC R cs wo)).length<=1000000:=by
   have h6:=List.length_filter_le (BC R cs wo) pre
   have h7:=hp.length_le
   simp at h7
   omega
  obtain⟨Av,cv,rfl⟩:=ho.slice
  obtain⟨c0,c1,c2,c3,c4,c5,c6,c7,c8⟩:=aFC h3
  have cd:W.cell? ⟨bd,0,none⟩=some (.slice Av x.length cv):=hbd.cell 0 rfl
  have cw:W.cell? ⟨w.heap.size+1,0,none⟩=some (.int .u64 (wo:Int)):=h4.cell 0 rfl
  have hwc:=Lib.hid (aY2 _ _ _ (qH R A cs.length cp most) rfl Av none x.length cv (wo:Int) rfl rfl W)
  gi_wp2_with fail
  refine⟨trivial,rfl,?_⟩
  refine((callsIn_wide.2 hwc.out).inRound l).mono ?_
  rintro e W1 ⟨rfl,y1,y2,y3,hb1⟩
  obtain⟨b,hbe⟩:∃ b,W.heap.size=b:=⟨_,rfl⟩
  have q1:=h1.step hb1
  have q2:=h2.step hb1
  have q3:=h3.step hb1
  have q4:=h4.step hb1
  have q5:=h5.trans (hb1.mono h5.size)
  have qv:=hv.step hb1
  have qo:=ho.below' hb1
  have qd:=hbd.step hb1
  have kk:=iZ.of_below hb1
  have ff:=qK.of_below (s:=Wa.heap.size) hb1
  have hlW:=iZ.of_below hb1 l _ hr0 rfl
  have hsz1:=hb1.size
  rw[hbe]at y1 y2 y3
  rw[hbe]
  clear hwc c0 c1 c2 c3 c4 c5 c6 c7 c8 cd cw hb1 h1 h2 h3 h4 h5 hv ho hbd
  have hiv:acB w.heap.size R A cs cp most Av cv x wo b (b+2) (b+1) W1:=⟨qv,y1,y3,y2,by
   have:=(Kd.dB qo.R).2.2
   exact this⟩
  gi_wp2
  refine bfA (r₀:=r₀) hlW (gf:=107) (first:=#[]) (lb:=#[.pointer (some ⟨b,0,none⟩),.pointer (some ⟨b+2,0,none⟩),.pointer (some ⟨b+1,0,none⟩)]) rfl (enters_of Tryd.func107 (by kernel_rfl) rfl) (aY7 R hR cs hcs (by omega) most A cp w.heap.size x hxn.out hxb Av cv wo hwo b (b+2) (b+1)) (by rintro z args W rfl;rfl) (fun X Y h hi=>h.xW hi) (fun X Y h=>iZ.of_below h)
   (fun pre2 X=>pre2=[]/\uX X w.heap.size vL (pre.filter (BC R cs wo))/\Box X (w.heap.size+2) #[vL] 56/\Box X w.heap.size (qH R A cs.length cp most) 141/\Box X (w.heap.size+1) #[.int .u64 (wo:Int)] 135/\Below w.heap.size w X/\Box X bd #[.slice Av x.length cv] 34/\eH X w.heap.size (.slice Av x.length cv) x/\iZ W X/\qK Wa.heap.size W X)
   (fun c pre2 X=>c=.exit 2/\pre2≠[]/\XQ w.heap.size A cs X/\(∃ vL',uX X w.heap.size vL' (pre.filter (BC R cs wo)++[x])/\Box X (w.heap.size+2) #[vL'] 56)/\Box X w.heap.size (qH R A cs.length cp most) 141/\Box X (w.heap.size+1) #[.int .u64 (wo:Int)] 135/\Below w.heap.size w X/\iZ W X/\qK Wa.heap.size W X)
   (fun pre2 X Y ⟨h0,h1,h2,h3,h4,h5,h6,h7,h8,h9⟩ hi=>⟨h0,h1.xW hi,hi.box h2,hi.box h3,hi.box h4,nM.below h5 q5.size (Nat.le_refl _) hi,hi.box h6,h7.xW hi,h8.xW hi hsz1,h9.xW hi⟩)
   (fun pre2 X Y ⟨h0,h1,h2,h3,h4,h5,h6,h7,h8,h9⟩ st=>⟨h0,h1.step st,h2.step st,h3.step st,h4.step st,h5.trans (st.mono h5.size),h6.step st,h7.below' st,h8.trans (iZ.of_below st),h9.trans (qK.of_below st)⟩)
   (fun c pre2 X Y ⟨h0,hn,hx,⟨vL',h1,h2⟩,h3,h4,h5,h8,h9⟩ hi=>⟨h0,hn,hx.xW hi,⟨vL',h1.xW hi,hi.box h2⟩,hi.box h3,hi.box h4,nM.below h5 q5.size (Nat.le_refl _) hi,h8.xW hi hsz1,h9.xW hi⟩)
   (fun c pre2 X Y ⟨h0,hn,hx,⟨vL',h1,h2⟩,h3,h4,h5,h8,h9⟩ st=>⟨h0,hn,hx.step st,⟨vL',h1.step st,h2.step st⟩,h3.step st,h4.step st,h5.trans (st.mono h5.size),h8.trans (iZ.of_below st),h9.trans (qK.of_below st)⟩)
   ⟨rfl,q1,q2,q3,q4,q5,qd,qo,kk,ff⟩ hiv
   (fun z a' X=>a'={ tmps:=#[.agg (qH R A cs.length cp most),.int .u64 (wo:Int),.pointer (some ⟨w.heap.size,0,none⟩),.pointer (some ⟨w.heap.size+1,0,none⟩),.pointer (some ⟨w.heap.size+1+1,0,none⟩),.pointer (some ⟨bd,0,none⟩),.agg (qH R A cs.length cp most),.func (.func 112) #[.agg (qH R A cs.length cp most)] #[],.slice Av x.length cv,.agg (qH R A cs.length cp most),.slice Av x.length cv,.int .u64 (wo:Int),.func (.func 107) #[] #[.pointer (some ⟨b,0,none⟩),.pointer (some ⟨b+2,0,none⟩),.pointer (some ⟨b+1,0,none⟩)],vWt z,undef,undef,undef,undef,undef],defers:=[]})
   (fun z a' X Y h hi=>h) ?assign2 ?body2 ?done2 ?stop2
  case assign2=>
   rintro l2 pre2 z args X K hI hv2 hp2 rfl hK
   gi_wp2
   exact hK _ _ (iZ.refl _) hI hv2 (by simp[qH])
  case body2=>
   rintro l2 pre2 z a' X hl2 hr2 ⟨h0,h1,h2,h3,h4,h5,h6,h7,h8,h9⟩ hv2 hp2 rfl
   obtain⟨AL,kL,rfl⟩:=h1.slice
   have cL:X.cell? ⟨w.heap.size+1+1,0,none⟩=some (.slice AL (pre.filter (BC R cs wo)).length kL):=h2.cell 0 rfl
   have cd:X.cell? ⟨bd,0,none⟩=some (.slice Av x.length cv):=h6.cell 0 rfl
   have hXs:=h5.size
   obtain⟨v',W',hrun,hrows,hg,hrow⟩:=bl8 h1 hXs h7 hpl
   have hrow2:∀ k,(Value.slice AL (pre.filter (BC R cs wo)).length kL).ownBlock=some k->∃ cells,X.heap[k]? =some (.cells cells 34 (0,0)):=fun k hk=>(hrow k hk).2
   have g2:=h2.aiT hg hrow2 (by decide)
   have g3:=h3.aiT hg hrow2 (by decide)
   have g4:=h4.aiT hg hrow2 (by decide)
   have g5:=Below.grown h5 hg hXs (fun k hk=>(hrow k hk).1)
   have g8:=h8.aiT hg hrow2
   have g9:=h9.aiT hg hrow2
   obtain⟨A',k',rfl⟩:=hrows.slice
   have gc:W'.cell? ⟨w.heap.size+1+1,0,none⟩=some (.slice AL (pre.filter (BC R cs wo)).length kL):=g2.cell 0 rfl
   have gf:W'.frozen? ⟨w.heap.size+1+1,0,none⟩=false:=g2.frozen 0
   have hXl:w.heap.size+1+1<X.heap.size:=h2.lt
   gi_wp2_with (gi_at_builtin;refine aKS _ rfl (.tmp 14) (.tmp 16) 56 rfl _ _ _ _ rfl rfl hrun ?_)
   have hle:(pre.filter (BC R cs wo)++[x]).length=(pre.filter (BC R cs wo)).length+1:=by simp
   have k2:=g2.set 0 (.slice A' (pre.filter (BC R cs wo)++[x]).length k')
   have k1:=hrows.set g2 (by decide) 0 (.slice A' (pre.filter (BC R cs wo)++[x]).length k')
   have k5:=g5.setCell (p:=⟨w.heap.size+2,0,none⟩) (by simp) (.slice A' (pre.filter (BC R cs wo)++[x]).length k')
   rw[hle]at k1 k2 k5
   refine⟨(iZ.aiT (iZ.refl _) hg hrow2).trans (iZ.setCell _ _ _),rfl,by simp,⟨k5.size,Kd.bJ hr k5⟩,⟨_,k1,k2⟩,g3.other (by omega) 0 _,g4.other (by omega) 0 _,k5,g8.trans (iZ.setCell _ _ _),g9.bmD (by omega) _⟩
  case done2=>
   rintro X ⟨h0,h1,h2,h3,h4,h5,h6,h7,h8,h9⟩ hv2
   have hng:BC R cs wo x=false:=by unfold BC;rw[h0];rfl
   have hfe:Hid ((pre++[x]).filter (BC R cs wo)=pre.filter (BC R cs wo)):=Lib.hid (by rw[List.filter_append];simp[hng])
   gi_wp2
   exact⟨h8,h9,hv2.1,vL,by rw[hfe.out];exact h1,h2,h3,h4,h5⟩
  case stop2=>
   rintro c pre2 X hpr ⟨rfl,hn,hx,⟨vL',h1,h2⟩,h3,h4,h5,h8,h9⟩
   have hng:BC R cs wo x=true:=by
    unfold BC
    obtain⟨z,hz⟩:=hpr
    cases hw:anW R cs x wo with
    |nil=>
     rw[hw]at hz
     exact absurd (List.append_eq_nil_iff.1 hz).1 hn
    |cons _ _=>rfl
   have hfe:Hid ((pre++[x]).filter (BC R cs wo)=pre.filter (BC R cs wo)++[x]):=Lib.hid (by rw[List.filter_append];simp[hng])
   gi_wp2
   exact⟨h8,h9,hx,vL',by rw[hfe.out];exact h1,h2,h3,h4,h5⟩
 case stop=>exact fun D c pre W _ _ h _=>h.elim
 case done=>
  rintro D W hD ⟨vL,h1,h2,h3,h4,h5⟩ hv hK
  obtain⟨AL,kL,rfl⟩:=h1.slice
  have cL:W.cell? ⟨w.heap.size+1+1,0,none⟩=some (.slice AL ((exL most cs).filter (BC R cs wo)).length kL):=h2.cell 0 rfl
  have fL:W.frozen? ⟨w.heap.size+1+1,0,none⟩=false:=h2.frozen 0
  have hD2:w.heap.size+2<D:=by omega
  gi_wp2
  have g1:=h2.set 0 (.slice AL ((exL most cs).filter (BC R cs wo)).length kL)
  have g2:=h1.set h2 (by decide) 0 (.slice AL ((exL most cs).filter (BC R cs wo)).length kL)
  refine aDW (B:=w.heap.size+3) (T:=D+1) _ _ (Marks.cons (T:=w.heap.size+3) (Marks.nil _ _ _) (by omega) (by omega) (by omega) ((Below.heap_setCell W ⟨w.heap.size+2,0,none⟩ _ D (by simp;omega)).trans hK)) (fun W' hi=>⟨_,hres _ W' _ rfl (hi.box g1),?_⟩)
  exact⟨_,rfl,g2.xW hi,nM.below (h5.setCell (p:=⟨w.heap.size+2,0,none⟩) (by simp) _) (by omega) (Nat.le_refl _) hi⟩
theorem arT {R:pU} {cs:List gQ} {most:Int} (h:BX R cs most=0):arQ R/\(∀ x∈cs,ZI x)/\cs.length<=5/\0<cs.length/\(0<=most/\most<=2):=by
 unfold BX at h
 split at h
 ·rename_i h1
  split at h
  ·cases h
  ·rename_i h2
   split at h
   ·cases h
   ·rename_i h3
    split at h
    ·rename_i h4
     simp only[Bool.and_eq_true,agB,UE,aLR,decide_eq_true_eq]at h1
     simp only[Bool.or_eq_true,decide_eq_true_eq,List.any_eq_true,not_or,not_exists,not_and,Bool.not_eq_true']at h3
     obtain⟨⟨⟨l1,l2⟩,l3⟩,l4⟩:=h1
     have a1:∀ a b x:Int,allIn a b [x]=true->a<=x/\x<=b:=by
      intro a b x hx
      simpa[aXB]using hx
     refine⟨?_,fun x hx=>?_,by omega,by omega,a1 _ _ _ h4⟩
     ·have:=a1 _ _ _ l4
      unfold arQ
      omega
     ·have hx2:=h3.2 x hx
      simp only[Bool.not_eq_false,aiQ,Bool.and_eq_true,aLR]at hx2
      have:=a1 _ _ _ hx2.2
      have hx3:=hx2.1
      unfold ZI aaP
      simp only[Bool.and_eq_true,decide_eq_true_eq]at hx3
      omega
    ·cases h
 ·cases h
theorem aFE {W:World} {b:Nat} {t:TypeId} {a0 a1 a2 a3 a4 a5 a6 a7 a8:Value} (h:Box W b #[a0,a1,a2,a3,a4,a5,a6,a7,a8] t):
  W.cell? ⟨b,0,none⟩=some a0/\W.cell? ⟨b,1,none⟩=some a1/\W.cell? ⟨b,2,none⟩=some a2/\W.cell? ⟨b,3,none⟩=some a3/\W.cell? ⟨b,4,none⟩=some a4/\W.cell? ⟨b,5,none⟩=some a5/\W.cell? ⟨b,6,none⟩=some a6/\W.cell? ⟨b,7,none⟩=some a7/\W.cell? ⟨b,8,none⟩=some a8/\∀ i,W.frozen? ⟨b,i,none⟩=false:=
 ⟨h.cell 0 rfl,h.cell 1 rfl,h.cell 2 rfl,h.cell 3 rfl,h.cell 4 rfl,h.cell 5 rfl,h.cell 6 rfl,h.cell 7 rfl,h.cell 8 rfl,fun i=>h.frozen i⟩
def SE (W:World) (b:Nat) (a0 a1 a2 a3 a4 a5 a6 a7 a8:Value):World:=
 ((((((((W.setCell ⟨b,0,none⟩ a0).setCell ⟨b,1,none⟩ a1).setCell ⟨b,2,none⟩ a2).setCell ⟨b,3,none⟩ a3).setCell ⟨b,4,none⟩ a4).setCell ⟨b,5,none⟩ a5).setCell ⟨b,6,none⟩ a6).setCell ⟨b,7,none⟩ a7).setCell ⟨b,8,none⟩ a8
theorem Box.SE {W:World} {b:Nat} {t:TypeId} {b0 b1 b2 b3 b4 b5 b6 b7 b8:Value} (h:Box W b #[b0,b1,b2,b3,b4,b5,b6,b7,b8] t) (a0 a1 a2 a3 a4 a5 a6 a7 a8:Value):Box (SE W b a0 a1 a2 a3 a4 a5 a6 a7 a8) b #[a0,a1,a2,a3,a4,a5,a6,a7,a8] t:=by
 have k0:Box _ b #[a0,b1,b2,b3,b4,b5,b6,b7,b8] t:=h.set 0 a0
 have k1:Box _ b #[a0,a1,b2,b3,b4,b5,b6,b7,b8] t:=k0.set 1 a1
 have k2:Box _ b #[a0,a1,a2,b3,b4,b5,b6,b7,b8] t:=k1.set 2 a2
 have k3:Box _ b #[a0,a1,a2,a3,b4,b5,b6,b7,b8] t:=k2.set 3 a3
 have k4:Box _ b #[a0,a1,a2,a3,a4,b5,b6,b7,b8] t:=k3.set 4 a4
 have k5:Box _ b #[a0,a1,a2,a3,a4,a5,b6,b7,b8] t:=k4.set 5 a5
 have k6:Box _ b #[a0,a1,a2,a3,a4,a5,a6,b7,b8] t:=k5.set 6 a6
 have k7:Box _ b #[a0,a1,a2,a3,a4,a5,a6,a7,b8] t:=k6.set 7 a7
 have k8:Box _ b #[a0,a1,a2,a3,a4,a5,a6,a7,a8] t:=k7.set 8 a8
 exact k8
theorem Below.SE {w W:World} {n₀ b:Nat} (h:Below n₀ w W) (hb:n₀<=b) (a0 a1 a2 a3 a4 a5 a6 a7 a8:Value):Below n₀ w (SE W b a0 a1 a2 a3 a4 a5 a6 a7 a8):=
 ((((((((h.setCell (p:=⟨b,0,none⟩) hb a0).setCell (p:=⟨b,1,none⟩) hb a1).setCell (p:=⟨b,2,none⟩) hb a2).setCell (p:=⟨b,3,none⟩) hb a3).setCell (p:=⟨b,4,none⟩) hb a4).setCell (p:=⟨b,5,none⟩) hb a5).setCell (p:=⟨b,6,none⟩) hb a6).setCell (p:=⟨b,7,none⟩) hb a7).setCell (p:=⟨b,8,none⟩) hb a8
theorem uX.SE {W:World} {n₀ b:Nat} {t:TypeId} {v:Value} {xs:List (List Int)} {b0 b1 b2 b3 b4 b5 b6 b7 b8:Value} (h:uX W n₀ v xs) (hb:Box W b #[b0,b1,b2,b3,b4,b5,b6,b7,b8] t) (ht:t≠34/\t≠3) (a0 a1 a2 a3 a4 a5 a6 a7 a8:Value):uX (Hand.SE W b a0 a1 a2 a3 a4 a5 a6 a7 a8) n₀ v xs:=by
 have h0:=h.set hb ht 0 a0
 have k0:Box _ b #[a0,b1,b2,b3,b4,b5,b6,b7,b8] t:=hb.set 0 a0
 have h1:=h0.set k0 ht 1 a1
 have k1:Box _ b #[a0,a1,b2,b3,b4,b5,b6,b7,b8] t:=k0.set 1 a1
 have h2:=h1.set k1 ht 2 a2
 have k2:Box _ b #[a0,a1,a2,b3,b4,b5,b6,b7,b8] t:=k1.set 2 a2
 have h3:=h2.set k2 ht 3 a3
 have k3:Box _ b #[a0,a1,a2,a3,b4,b5,b6,b7,b8] t:=k2.set 3 a3
 have h4:=h3.set k3 ht 4 a4
 have k4:Box _ b #[a0,a1,a2,a3,a4,b5,b6,b7,b8] t:=k3.set 4 a4
 have h5:=h4.set k4 ht 5 a5
 have k5:Box _ b #[a0,a1,a2,a3,a4,a5,b6,b7,b8] t:=k4.set 5 a5
 have h6:=h5.set k5 ht 6 a6
 have k6:Box _ b #[a0,a1,a2,a3,a4,a5,a6,b7,b8] t:=k5.set 6 a6
 have h7:=h6.set k6 ht 7 a7
 have k7:Box _ b #[a0,a1,a2,a3,a4,a5,a6,a7,b8] t:=k6.set 7 a7
 have h8:=h7.set k7 ht 8 a8
 exact h8
def xZ (R:pU) (cs:List gQ) (most:Int):Int:=if BX R cs most=0 then(if PM R cs most 0=[]then 9 else 0)else BX R cs most
def wL (R:pU) (cs:List gQ) (most:Int):List (List Int):=if BX R cs most=0 then PM R cs most 0 else[]
theorem aFF (w:World) (a:Option Addr) (n c:Nat):(binOp .eql 56 (.slice a n c) (.slice none 0 0)).run Tryd.prog w=.ok (.bool a.isNone) w:=Lib.run_eql_slice_nil w 56 34 a n c 0 0 Tryd.underlying56
theorem aFG (w:World) (a:Option Addr) (n c:Nat):(binOp .neq 56 (.slice a n c) (.slice none 0 0)).run Tryd.prog w=.ok (.bool (!a.isNone)) w:=run_neq_slice_nil_any w 56 34 a n c 0 0 Tryd.underlying56
theorem aFH (w:World) (a:Option Addr) (n c:Nat):(binOp .eql 34 (.slice a n c) (.slice none 0 0)).run Tryd.prog w=.ok (.bool a.isNone) w:=Lib.run_eql_slice_nil w 34 3 a n c 0 0 Tryd.underlying34
attribute [local go_sem] aFF aFG aFH
theorem aNI (t:Array Value) (W:World) (b:Nat) (v1 v2 a0 a1 a2 a3 a4 a5 a6 a7 a8:Value) (h6:t.getD 6 undef=.pointer (some ⟨b,0,none⟩)) (h7:t.getD 7 undef=v1) (h8:t.getD 8 undef=v2) (hb:Box W b #[a0,a1,a2,a3,a4,a5,a6,a7,a8] 141):
  (results Tryd.f80 t).run Tryd.prog W=.ok (.tuple #[.agg #[a0,a1,a2,a3,a4,a5,a6,a7,a8],v1,v2]) W:=by
 obtain⟨c0,c1,c2,c3,c4,c5,c6,c7,c8,_⟩:=aFE hb
 simp only[Array.getD_eq_getD_getElem?]at h6 h7 h8
 clear hb
 simp[results,Tryd.results80,go_sem,h6,h7,h8,c0,c1,c2,c3,c4,c5,c6,c7,c8]
theorem aFI (R:pU) (cs:List gQ) (most:Int) (A:Option Addr) (cp:Nat) (w:World) (hr:Kd.C vC w A cs.length cs):
  Calls Tryd.prog 80 #[aeI R,.slice A cs.length cp,.int .i64 most] w fun e w'=>∃ v,e=.returned (.tuple #[XO R A cs.length cp most (BX R cs most),v,.int .i64 (xZ R cs most)])/\uX w' w.heap.size v (wL R cs most)/\Below w.heap.size w w':=by
 by_cases h0:BX R cs most=0
 ·obtain⟨hR,hcs,h5,_,hm⟩:=arT h0
  have hE:Hid (xZ R cs most=if PM R cs most 0=[]then 9 else 0):=Lib.hid (if_pos h0)
  have hL:Hid (wL R cs most=PM R cs most 0):=Lib.hid (if_pos h0)
  have hns:=fun w (hr:Kd.C vC w A cs.length cs)=>aM9 R cs most A cp w hr
  rw[h0]at hns
  have Hns:=Lib.hid hns
  have h00:=Lib.hid h0
  clear hns h0
  go_enter Tryd.func80,Tryd.ntmps80
  go_wp2_with fail
  refine(Hns.out _ (Kd.bJ hr (((Below.refl _ _).alloc (Nat.le_refl _) _).alloc (by simp) _))).mono ?_
  rintro e w1 ⟨rfl,hb1⟩
  have hB1:Below w.heap.size w w1:=(((Below.refl _ _).alloc (Nat.le_refl _) _).alloc (by simp) _).trans (hb1.mono (by simp;omega))
  have bx1:Box w1 (w.heap.size+1) _ 141:=(Box.new' _ _ _ (by simp)).step hb1
  obtain⟨c0,c1,c2,c3,c4,c5,c6,c7,c8,hf⟩:=aFE bx1
  have e0:XO R A cs.length cp most 0=.agg (qH R A cs.length cp most):=if_pos rfl
  unfold qH at e0
  rw[e0]
  clear hb1 e0
  have hls:=Lib.hid (fun w (hr:Kd.C vC w A cs.length cs)=>aZC R hR cs hcs h5 most hm A cp 0 (by decide) w hr)
  unfold qH at hls
  go_wp2_with fail
  have k1:=bx1.SE (.int .i64 R.l.f0) (.int .i64 R.l.f1) (.int .i64 R.r.f0) (.int .i64 R.r.f1) (.int .i64 R.t.f0) (.int .i64 R.t.f1) (.int .i64 R.off) (.slice A cs.length cp) (.int .i64 most)
  have hB2:=Below.SE hB1 (b:=w.heap.size+1) (by omega) (.int .i64 R.l.f0) (.int .i64 R.l.f1) (.int .i64 R.r.f0) (.int .i64 R.r.f1) (.int .i64 R.t.f0) (.int .i64 R.t.f1) (.int .i64 R.off) (.slice A cs.length cp) (.int .i64 most)
  change Calls _ _ _ (SE w1 (w.heap.size+1) (.int .i64 R.l.f0) (.int .i64 R.l.f1) (.int .i64 R.r.f0) (.int .i64 R.r.f1) (.int .i64 R.t.f0) (.int .i64 R.t.f1) (.int .i64 R.off) (.slice A cs.length cp) (.int .i64 most)) _
  obtain⟨w2,hw2⟩:∃ w2,SE w1 (w.heap.size+1) (.int .i64 R.l.f0) (.int .i64 R.l.f1) (.int .i64 R.r.f0) (.int .i64 R.r.f1) (.int .i64 R.t.f0) (.int .i64 R.t.f1) (.int .i64 R.off) (.slice A cs.length cp) (.int .i64 most)=w2:=⟨_,rfl⟩
  rw[hw2]at k1 hB2 ⊢
  clear hw2 c0 c1 c2 c3 c4 c5 c6 c7 c8 hf bx1 hB1
  refine(hls.out w2 (Kd.bJ hr hB2)).mono ?_
  rintro e w3 ⟨v,rfl,hrows,hb3⟩
  have k3:=k1.step hb3
  have hB3:=hB2.trans (hb3.mono hB2.size)
  have hrow3:uX w3 w.heap.size v (PM R cs most 0):=⟨Kd.eF hrows.1 hB2.size,hrows.2⟩
  clear hb3 hrows k1 hB2 hls Hns
  obtain⟨c0,c1,c2,c3,c4,c5,c6,c7,c8,hf⟩:=aFE k3
  have hB4:=Below.SE hB3 (b:=w.heap.size+1) (by omega) (.int .i64 R.l.f0) (.int .i64 R.l.f1) (.int .i64 R.r.f0) (.int .i64 R.r.f1) (.int .i64 R.t.f0) (.int .i64 R.t.f1) (.int .i64 R.off) (.slice A cs.length cp) (.int .i64 most)
  have k4:=k3.SE (.int .i64 R.l.f0) (.int .i64 R.l.f1) (.int .i64 R.r.f0) (.int .i64 R.r.f1) (.int .i64 R.t.f0) (.int .i64 R.t.f1) (.int .i64 R.off) (.slice A cs.length cp) (.int .i64 most)
  have hrow4:=uX.SE hrow3 k3 (by decide) (.int .i64 R.l.f0) (.int .i64 R.l.f1) (.int .i64 R.r.f0) (.int .i64 R.r.f1) (.int .i64 R.t.f0) (.int .i64 R.t.f1) (.int .i64 R.off) (.slice A cs.length cp) (.int .i64 most)
  have e0:Hid (XO R A cs.length cp most (BX R cs most)=.agg (qH R A cs.length cp most)):=Lib.hid (by rw[h00.out];exact if_pos rfl)
  by_cases hl:PM R cs most 0=[]
  ·have hE9:Hid (xZ R cs most=9):=Lib.hid (by rw[hE.out,if_pos hl])
   obtain rfl:=hrow3.2 hl
   clear hrow3 k3 hB3 hl
   go_wp2
   refine bodyPost_ret (v:=.tuple #[.agg (qH R A cs.length cp most),.slice none 0 0,.int .i64 9]) ?_ rfl ?_
   ·exact aNI _ _ _ _ _ _ _ _ _ _ _ _ _ _ rfl rfl rfl k4
   ·exact⟨_,by rw[e0.out,hE9.out],by rw[hL.out];exact hrow4,hB4⟩
  ·have hE9:Hid (xZ R cs most=0):=Lib.hid (by rw[hE.out,if_neg hl])
   obtain⟨g,cv,rfl⟩:∃ g c,v=.slice (some ⟨g,0,none⟩) (PM R cs most 0).length c:=by
    obtain⟨inner,ho⟩:=Kd.amG hrow3.1
    obtain⟨g,c,h,_⟩:=afR ho (List.length_pos_iff.2 hl)
    exact⟨g,c,h⟩
   clear hrow3 k3 hB3 hl
   go_wp2
   refine bodyPost_ret (v:=.tuple #[.agg (qH R A cs.length cp most),.slice (some ⟨g,0,none⟩) (PM R cs most 0).length cv,.int .i64 0]) ?_ rfl ?_
   ·exact aNI _ _ _ _ _ _ _ _ _ _ _ _ _ _ rfl rfl rfl k4
   ·exact⟨_,by rw[e0.out,hE9.out],by rw[hL.out];exact hrow4,hB4⟩
 ·obtain⟨er,her⟩:∃ er,BX R cs most=er:=⟨_,rfl⟩
  have hE:Hid (xZ R cs most=er):=Lib.hid (by rw[<-her];exact if_neg h0)
  have hL:Hid (wL R cs most=[]):=Lib.hid (if_neg h0)
  have hns:=fun w (hr:Kd.C vC w A cs.length cs)=>aM9 R cs most A cp w hr
  rw[her]at hns h0 ⊢
  have e0:XO R A cs.length cp most er=.agg #[.int .i64 0,.int .i64 0,.int .i64 0,.int .i64 0,.int .i64 0,.int .i64 0,.int .i64 0,.slice none 0 0,.int .i64 0]:=if_neg h0
  rw[e0]at hns ⊢
  have Hns:=Lib.hid hns
  clear hns her e0
  have hne:(er !=0)=true:=by simp[h0]
  have h00:=Lib.hid h0
  clear h0
  go_enter Tryd.func80,Tryd.ntmps80
  go_wp2_with fail
  refine(Hns.out _ (Kd.bJ hr (((Below.refl _ _).alloc (Nat.le_refl _) _).alloc (by simp) _))).mono ?_
  rintro e w1 ⟨rfl,hb1⟩
  have hB1:Below w.heap.size w w1:=(((Below.refl _ _).alloc (Nat.le_refl _) _).alloc (by simp) _).trans (hb1.mono (by simp;omega))
  have bx1:Box w1 (w.heap.size+1) _ 141:=(Box.new' _ _ _ (by simp)).step hb1
  obtain⟨c0,c1,c2,c3,c4,c5,c6,c7,c8,hf⟩:=aFE bx1
  have k1:=(bx1.SE (.int .i64 0) (.int .i64 0) (.int .i64 0) (.int .i64 0) (.int .i64 0) (.int .i64 0) (.int .i64 0) (.slice none 0 0) (.int .i64 0)).SE (.int .i64 0) (.int .i64 0) (.int .i64 0) (.int .i64 0) (.int .i64 0) (.int .i64 0) (.int .i64 0) (.slice none 0 0) (.int .i64 0)
  have hB2:=Below.SE (Below.SE hB1 (b:=w.heap.size+1) (by omega) (.int .i64 0) (.int .i64 0) (.int .i64 0) (.int .i64 0) (.int .i64 0) (.int .i64 0) (.int .i64 0) (.slice none 0 0) (.int .i64 0)) (b:=w.heap.size+1) (by omega) (.int .i64 0) (.int .i64 0) (.int .i64 0) (.int .i64 0) (.int .i64 0) (.int .i64 0) (.int .i64 0) (.slice none 0 0) (.int .i64 0)
  clear hb1 bx1 hB1
  go_wp2
  refine bodyPost_ret (v:=.tuple #[.agg #[.int .i64 0,.int .i64 0,.int .i64 0,.int .i64 0,.int .i64 0,.int .i64 0,.int .i64 0,.slice none 0 0,.int .i64 0],.slice none 0 0,.int .i64 er]) ?_ rfl ?_
  ·exact aNI _ _ _ _ _ _ _ _ _ _ _ _ _ _ rfl rfl rfl k1
  ·exact⟨_,by rw[hE.out],by rw[hL.out];exact uX.nil _ _,hB2⟩
attribute [local go_sem] aFF aFG aFH
theorem aFJ (R:pU) (A:Option Addr) (n cp:Nat) (most e:Int):∃ a0 a1 a2 a3 a4 a5 a6 a7 a8:Int,∃ (B:Option Addr) (m k:Nat),XO R A n cp most e=.agg #[.int .i64 a0,.int .i64 a1,.int .i64 a2,.int .i64 a3,.int .i64 a4,.int .i64 a5,.int .i64 a6,.slice B m k,.int .i64 a8]:=by
 unfold XO
 split
 ·exact⟨_,_,_,_,_,_,_,0,_,_,_,_,rfl⟩
 ·exact⟨_,_,_,_,_,_,_,0,_,_,_,_,rfl⟩
theorem bmF (R:pU) (cs:List gQ) (most:Int) (A:Option Addr) (cp:Nat) (w:World) (hr:Kd.C vC w A cs.length cs):
  Calls Tryd.prog 35 #[aeI R,.slice A cs.length cp,.int .i64 most] w fun e w'=>∃ v,e=.returned (.tuple #[v,.int .i64 (xZ R cs most)])/\uX w' w.heap.size v (wL R cs most)/\Below w.heap.size w w':=by
 have hs:=Lib.hid (fun w (hr:Kd.C vC w A cs.length cs)=>aFI R cs most A cp w hr)
 go_enter Tryd.func35,Tryd.ntmps35
 go_wp2_with fail
 have hb0:Below w.heap.size w (w.alloc (Obj.cells #[Value.int IntKind.i64 R.l.f0,Value.int IntKind.i64 R.l.f1,Value.int IntKind.i64 R.r.f0,Value.int IntKind.i64 R.r.f1,Value.int IntKind.i64 R.t.f0,Value.int IntKind.i64 R.t.f1,Value.int IntKind.i64 R.off] 53)):=(Below.refl _ _).alloc (Nat.le_refl _) _
 refine(hs.out _ (Kd.bJ hr hb0)).mono ?_
 rintro e w1 ⟨v,rfl,hrows,hb1⟩
 have hB1:Below w.heap.size w w1:=hb0.trans (hb1.mono hb0.size)
 have hr1:uX w1 w.heap.size v (wL R cs most):=⟨Kd.eF hrows.1 hb0.size,hrows.2⟩
 obtain⟨a0,a1,a2,a3,a4,a5,a6,a7,a8,B,m,k,hsv⟩:=aFJ R A cs.length cp most (BX R cs most)
 rw[hsv]
 obtain⟨Av,cv,rfl⟩:=hr1.slice
 clear hb1 hrows hb0 hsv hs
 go_wp2
 refine bodyPost_ret (v:=.tuple #[.slice Av (wL R cs most).length cv,.int .i64 (xZ R cs most)]) (by simp[results,Tryd.results35,go_sem]) rfl ?_
 exact⟨_,rfl,hr1.step ((Below.refl _ _).alloc (Nat.le_refl _) _),hB1.alloc hB1.size _⟩
def agF (R:pU) (cs:List gQ) (most:Int) (s:Nat):Bool:= !(PM R cs most s).isEmpty
theorem bmG (R:pU) (hR:arQ R) (cs:List gQ) (hcs:∀ x∈cs,ZI x) (h5:cs.length<=5) (most:Int) (hm:0<=most/\most<=2) (A:Option Addr) (cp b s:Nat) (hs:s<32) (w:World) (hr:Kd.C vC w A cs.length cs) (hb:Box w b (qH R A cs.length cp most) 141):
  Calls Tryd.prog 93 #[.int .u64 (s:Int),.pointer (some ⟨b,0,none⟩)] w fun e w'=>e=.returned (.bool (agF R cs most s))/\Below w.heap.size w w':=by
 obtain⟨c0,c1,c2,c3,c4,c5,c6,c7,c8⟩:=aFC hb
 have hls:=Lib.hid (aZC R hR cs hcs h5 most hm A cp s hs w hr)
 unfold qH at hls
 go_enter Tryd.func93,Tryd.ntmps93
 go_wp2_with fail
 refine hls.out.mono ?_
 rintro e w1 ⟨v,rfl,hrows,hb1⟩
 by_cases hl:PM R cs most s=[]
 ·have hE:agF R cs most s=false:=by unfold agF;rw[hl];rfl
  obtain rfl:=hrows.2 hl
  clear hrows hl
  go_wp2
  go_ret
  exact⟨by rw[hE];rfl,hb1⟩
 ·have hE:agF R cs most s=true:=by
   unfold agF
   cases hq:PM R cs most s with
   |nil=>exact absurd hq hl
   |cons _ _=>rfl
  obtain⟨g,cv,rfl⟩:∃ g c,v=.slice (some ⟨g,0,none⟩) (PM R cs most s).length c:=by
   obtain⟨inner,ho⟩:=Kd.amG hrows.1
   obtain⟨g,c,h,_⟩:=afR ho (List.length_pos_iff.2 hl)
   exact⟨g,c,h⟩
  clear hrows hl
  go_wp2
  go_ret
  exact⟨by rw[hE];rfl,hb1⟩
attribute [local go_sem] aFF aFG aFH
theorem eH.nil (W:World) (n₀:Nat):eH W n₀ (.slice none 0 0) []:=World.ownsRow_nil _ _ _ _
def aiV (R:pU) (cs:List gQ) (most:Int):Option (List Int):=pR (agF R cs most) iQ (2^cs.length)
def arU (R:pU) (cs:List gQ) (most:Int):Int:=if BX R cs most=0 then(if(aiV R cs most).getD []=[]then 6 else 0)else BX R cs most
def arV (R:pU) (cs:List gQ) (most:Int):List Int:=if BX R cs most=0 then(aiV R cs most).getD []else[]
theorem bmH (R:pU) (cs:List gQ) (most:Int) (A:Option Addr) (cp:Nat) (w:World) (hT:lZ w) (hr:Kd.C vC w A cs.length cs):
  Calls Tryd.prog 45 #[aeI R,.slice A cs.length cp,.int .i64 most] w fun e w'=>∃ v,e=.returned (.tuple #[v,.int .i64 (arU R cs most)])/\eH w' w.heap.size v (arV R cs most)/\Below w.heap.size w w':=by
 have hb0:Below w.heap.size w (w.alloc (Obj.cells #[Value.int IntKind.i64 R.l.f0,Value.int IntKind.i64 R.l.f1,Value.int IntKind.i64 R.r.f0,Value.int IntKind.i64 R.r.f1,Value.int IntKind.i64 R.t.f0,Value.int IntKind.i64 R.t.f1,Value.int IntKind.i64 R.off] 53)):=(Below.refl _ _).alloc (Nat.le_refl _) _
 have hns:=fun w (hr:Kd.C vC w A cs.length cs)=>aM9 R cs most A cp w hr
 by_cases h0:BX R cs most=0
 ·obtain⟨hR,hcs,h5,_,hm⟩:=arT h0
  have hE:Hid (arU R cs most=if(aiV R cs most).getD []=[]then 6 else 0):=Lib.hid (if_pos h0)
  have hL:Hid (arV R cs most=(aiV R cs most).getD []):=Lib.hid (if_pos h0)
  rw[h0]at hns
  have e0:XO R A cs.length cp most 0=.agg (qH R A cs.length cp most):=if_pos rfl
  unfold qH at e0
  rw[e0]at hns
  have Hns:=Lib.hid hns
  have h00:=Lib.hid h0
  clear hns h0 e0
  go_enter Tryd.func45,Tryd.ntmps45
  go_wp2_with fail
  refine(Hns.out _ (Kd.bJ hr hb0)).mono ?_
  rintro e w1 ⟨rfl,hb1⟩
  have hB1:Below w.heap.size w w1:=hb0.trans (hb1.mono hb0.size)
  have hsz:=hB1.size
  clear hb1 hb0 Hns
  go_wp2_with fail
  obtain⟨w2,hw2⟩:∃ w2,w1.alloc (Obj.cells #[Value.int IntKind.i64 R.l.f0,Value.int IntKind.i64 R.l.f1,Value.int IntKind.i64 R.r.f0,Value.int IntKind.i64 R.r.f1,Value.int IntKind.i64 R.t.f0,Value.int IntKind.i64 R.t.f1,Value.int IntKind.i64 R.off,Value.slice A cs.length cp,Value.int IntKind.i64 most] 141)=w2:=⟨_,rfl⟩
  have hB2:Below w.heap.size w w2:=by rw[<-hw2];exact hB1.alloc hsz _
  have hbx:Box w2 w1.heap.size (qH R A cs.length cp most) 141:=by rw[<-hw2];exact Box.new _ _ _
  rw[hw2]
  clear hw2 hB1
  have hp2:2^cs.length<=32:=Nat.le_trans (Nat.pow_le_pow_right (by decide) h5) (by decide)
  refine(blF cs.length (by omega) (agF R cs most) w1.heap.size w2 (hT.below hB2) (fun s hs W hW=>bmG R hR cs hcs h5 most hm A cp w1.heap.size s (by omega) W (Kd.bJ hr (hB2.trans (hW.mono hB2.size))) (hbx.step hW))).mono ?_
  rintro e w3 ⟨v,rfl,hown,hnil,hb3⟩
  have hB3:Below w.heap.size w w3:=hB2.trans (hb3.mono hB2.size)
  have ho3:=hown.lower hB2.size
  obtain⟨bs,hbs⟩:∃ bs,(pR (agF R cs most) iQ (2^cs.length)).isSome=bs:=⟨_,rfl⟩
  have hmk:pR (agF R cs most) iQ (2^cs.length)=aiV R cs most:=rfl
  rw[hbs]
  rw[hmk]at ho3 hnil
  clear hbs hmk hown hb3 hbx hT
  by_cases hl:(aiV R cs most).getD []=[]
  ·have hE9:Hid (arU R cs most=6):=Lib.hid (by rw[hE.out,if_pos hl])
   obtain rfl:=hnil hl
   have BF:eH w3 w.heap.size (.slice none 0 0) (arV R cs most):=by rw[hL.out,hl];exact eH.nil _ _
   clear ho3 hnil hl
   go_wp2
   refine bodyPost_ret (v:=.tuple #[.slice none 0 0,.int .i64 6]) (by simp[results,Tryd.results45,go_sem]) rfl ?_
   exact⟨_,by rw[hE9.out],BF,hB3⟩
  ·have hE9:Hid (arU R cs most=0):=Lib.hid (by rw[hE.out,if_neg hl])
   obtain⟨g,cv,rfl,_⟩:=afR ho3 (List.length_pos_iff.2 hl)
   have BF:eH w3 w.heap.size (.slice (some ⟨g,0,none⟩) ((aiV R cs most).getD []).length cv) (arV R cs most):=by rw[hL.out];exact ho3
   clear ho3 hnil hl
   go_wp2
   refine bodyPost_ret (v:=.tuple #[.slice (some ⟨g,0,none⟩) ((aiV R cs most).getD []).length cv,.int .i64 0]) (by simp[results,Tryd.results45,go_sem]) rfl ?_
   exact⟨_,by rw[hE9.out],BF,hB3⟩
 ·obtain⟨er,her⟩:∃ er,BX R cs most=er:=⟨_,rfl⟩
  have hE:Hid (arU R cs most=er):=Lib.hid (by rw[<-her];exact if_neg h0)
  have hL:Hid (arV R cs most=[]):=Lib.hid (if_neg h0)
  rw[her]at hns h0
  have e0:XO R A cs.length cp most er=.agg #[.int .i64 0,.int .i64 0,.int .i64 0,.int .i64 0,.int .i64 0,.int .i64 0,.int .i64 0,.slice none 0 0,.int .i64 0]:=if_neg h0
  rw[e0]at hns
  have Hns:=Lib.hid hns
  clear hns her e0
  have hne:(er !=0)=true:=by simp[h0]
  have h00:=Lib.hid h0
  clear h0
  go_enter Tryd.func45,Tryd.ntmps45
  go_wp2_with fail
  refine(Hns.out _ (Kd.bJ hr hb0)).mono ?_
  rintro e w1 ⟨rfl,hb1⟩
  have hB1:Below w.heap.size w w1:=hb0.trans (hb1.mono hb0.size)
  clear hb1 hb0
  go_wp2
  refine bodyPost_ret (v:=.tuple #[.slice none 0 0,.int .i64 er]) (by simp[results,Tryd.results45,go_sem]) rfl ?_
  exact⟨_,by rw[hE.out],by rw[hL.out];exact eH.nil _ _,hB1.alloc hB1.size _⟩
attribute [local go_sem] aFF aFG aFH
theorem bmI (k:Nat) (os:List aZ) (ls:List aI) (A0 A1:Option Addr) (c0 c1 b s:Nat) (r:Bool) (h:am8.f k os ls (s:Int)=some r) (w:World) (hr0:Kd.C iJ w A0 os.length os) (hc0:os.length<=c0) (hr1:Kd.C iE w A1 ls.length ls) (hc1:ls.length<=c1)
  (hb:Box w b #[.slice A0 os.length c0,.slice A1 ls.length c1] 25):
  Calls Tryd.prog 74 #[.int .u64 (s:Int),.pointer (some ⟨b,0,none⟩)] w fun e w'=>e=.returned (.bool r)/\Below w.heap.size w w':=by
 have q0:w.cell? ⟨b,0,none⟩=some (.slice A0 os.length c0):=hb.cell 0 rfl
 have q1:w.cell? ⟨b,1,none⟩=some (.slice A1 ls.length c1):=hb.cell 1 rfl
 have hi:=Lib.hid (am8.calls k A0 c0 os A1 c1 ls s r w hr0 hc0 hr1 hc1 h)
 go_enter Tryd.func74,Tryd.ntmps74
 go_wp2_with fail
 refine hi.out.mono ?_
 rintro e w1 ⟨rfl,hb1⟩
 clear q0 q1
 go_wp2
 go_ret
 exact⟨rfl,hb1⟩
def ZJ (is:Nat->Bool) (ls:List aI):Option (List Int):=pR is iQ (2^ls.length)
def aaQ (is:Nat->Bool) (os:List aZ) (ls:List aI):Int:=if oP os ls=0 then(if(ZJ is ls).getD []=[]then 6 else 0)else oP os ls
def aeK (is:Nat->Bool) (os:List aZ) (ls:List aI):List Int:=if oP os ls=0 then(ZJ is ls).getD []else[]
theorem bmJ (k:Nat) (os:List aZ) (ls:List aI) (is:Nat->Bool) (his:oP os ls=0->∀ s:Nat,s<2^ls.length->am8.f k os ls (s:Int)=some (is s))
  (A0 A1:Option Addr) (c0 c1:Nat) (w:World) (hT:lZ w) (hr0:Kd.C iJ w A0 os.length os) (hc0:os.length<=c0) (hr1:Kd.C iE w A1 ls.length ls) (hc1:ls.length<=c1):
  Calls Tryd.prog 29 #[.agg #[.slice A0 os.length c0,.slice A1 ls.length c1]] w fun e w'=>∃ v,e=.returned (.tuple #[v,.int .i64 (aaQ is os ls)])/\eH w' w.heap.size v (aeK is os ls)/\Below w.heap.size w w':=by
 have hb0:Below w.heap.size w (w.alloc (Obj.cells #[.slice A0 os.length c0,.slice A1 ls.length c1] 25)):=(Below.refl _ _).alloc (Nat.le_refl _) _
 have hbx0:Box (w.alloc (Obj.cells #[.slice A0 os.length c0,.slice A1 ls.length c1] 25)) w.heap.size #[.slice A0 os.length c0,.slice A1 ls.length c1] 25:=Box.new _ _ _
 have hm1:=hr1.2.1
 have hck:=aXD os ls A0 A1 c0 c1 _ (Kd.bJ hr0 hb0) (Kd.bJ hr1 hb0)
 by_cases h0:oP os ls=0
 ·have hl8:ls.length<=8:=by
   unfold oP at h0
   split at h0
   ·split at h0
    ·cases h0
    ·omega
   ·cases h0
  have bmK:=Lib.hid (his h0)
  have hE:Hid (aaQ is os ls=if(ZJ is ls).getD []=[]then 6 else 0):=Lib.hid (if_pos h0)
  have hL:Hid (aeK is os ls=(ZJ is ls).getD []):=Lib.hid (if_pos h0)
  rw[h0]at hck
  have Hck:=Lib.hid hck
  clear hck h0 his
  go_enter Tryd.func29,Tryd.ntmps29
  go_wp2_with fail
  refine Hck.out.mono ?_
  rintro e w1 ⟨rfl,hb1⟩
  have hB1:Below w.heap.size w w1:=hb0.trans (hb1.mono hb0.size)
  have hbx:=hbx0.step hb1
  have q1:w1.cell? ⟨w.heap.size,1,none⟩=some (.slice A1 ls.length c1):=hbx.cell 1 rfl
  clear hb1 hb0 Hck hbx0
  go_wp2_with fail
  refine(blD ls.length hl8 is w.heap.size w1 (hT.below hB1) (fun s hs W hW=>bmI k os ls A0 A1 c0 c1 w.heap.size s (is s) (bmK.out s hs) W (Kd.bJ hr0 (hB1.trans (hW.mono hB1.size))) hc0 (Kd.bJ hr1 (hB1.trans (hW.mono hB1.size))) hc1 (hbx.step hW))).mono ?_
  rintro e w3 ⟨v,rfl,hown,hnil,hb3⟩
  have hB3:Below w.heap.size w w3:=hB1.trans (hb3.mono hB1.size)
  have ho3:=hown.lower hB1.size
  obtain⟨bs,hbs⟩:∃ bs,(pR is iQ (2^ls.length)).isSome=bs:=⟨_,rfl⟩
  have hmk:pR is iQ (2^ls.length)=ZJ is ls:=rfl
  rw[hbs]
  rw[hmk]at ho3 hnil
  clear hbs hmk hown hb3 hbx hT q1
  by_cases hl:(ZJ is ls).getD []=[]
  ·have hE9:Hid (aaQ is os ls=6):=Lib.hid (by rw[hE.out,if_pos hl])
   obtain rfl:=hnil hl
   have BF:eH w3 w.heap.size (.slice none 0 0) (aeK is os ls):=by rw[hL.out,hl];exact eH.nil _ _
   clear ho3 hnil hl
   go_wp2
   refine bodyPost_ret (v:=.tuple #[.slice none 0 0,.int .i64 6]) (by simp[results,Tryd.results29,go_sem]) rfl ?_
   exact⟨_,by rw[hE9.out],BF,hB3⟩
  ·have hE9:Hid (aaQ is os ls=0):=Lib.hid (by rw[hE.out,if_neg hl])
   obtain⟨g,cv,rfl,_⟩:=afR ho3 (List.length_pos_iff.2 hl)
   have BF:eH w3 w.heap.size (.slice (some ⟨g,0,none⟩) ((ZJ is ls).getD []).length cv) (aeK is os ls):=by rw[hL.out];exact ho3
   clear ho3 hnil hl
   go_wp2
   refine bodyPost_ret (v:=.tuple #[.slice (some ⟨g,0,none⟩) ((ZJ is ls).getD []).length cv,.int .i64 0]) (by simp[results,Tryd.results29,go_sem]) rfl ?_
   exact⟨_,by rw[hE9.out],BF,hB3⟩
 ·obtain⟨er,her⟩:∃ er,oP os ls=er:=⟨_,rfl⟩
  have hE:Hid (aaQ is os ls=er):=Lib.hid (by rw[<-her];exact if_neg h0)
  have hL:Hid (aeK is os ls=[]):=Lib.hid (if_neg h0)
  rw[her]at hck h0
  have Hck:=Lib.hid hck
  clear hck her his
  have hne:(er !=0)=true:=by simp[h0]
  clear h0
  go_enter Tryd.func29,Tryd.ntmps29
  go_wp2_with fail
  refine Hck.out.mono ?_
  rintro e w1 ⟨rfl,hb1⟩
  have hB1:Below w.heap.size w w1:=hb0.trans (hb1.mono hb0.size)
  clear hb1 hb0
  go_wp2
  refine bodyPost_ret (v:=.tuple #[.slice none 0 0,.int .i64 er]) (by simp[results,Tryd.results29,go_sem]) rfl ?_
  exact⟨_,by rw[hE.out],by rw[hL.out];exact eH.nil _ _,hB1⟩
def wY (L:List Bool):Array Value:=(L.map Value.bool).toArray
def Row (W:World) (b:Nat) (L:List Bool):Prop:=Box W b (wY L) 4
theorem Row.cell {W:World} {b:Nat} {L:List Bool} (h:Row W b L) (n:Nat) (hn:n<L.length):W.cell? ⟨b,n,none⟩=some (.bool (L.getD n false)):=
 Box.cell h n (by simp[wY,List.getD_eq_getElem?_getD,hn])
theorem Row.put {W:World} {b:Nat} {L:List Bool} (h:Row W b L) (n:Nat) (x:Bool):Row (W.setCell ⟨b,n,none⟩ (.bool x)) b (L.set n x):=by
 have:=Box.set h n (.bool x)
 unfold Row
 rw[show wY (L.set n x)=(wY L).setIfInBounds n (.bool x)from ?_]
 ·exact this
 ·unfold wY
  rw[List.map_set]
  simp
theorem Row.step {W W':World} {b:Nat} {L:List Bool} (h:Row W b L) (hb:Below W.heap.size W W'):Row W' b L:=Box.step h hb
theorem Row.other {W:World} {b b':Nat} {L:List Bool} (h:Row W b L) (hne:b≠b') (i:Nat) (v:Value):Row (W.setCell ⟨b',i,none⟩ v) b L:=Box.other h hne i v
def uI (n:Nat) (b:Nat):Value:=.slice (some ⟨b,0,none⟩) n n
structure Rows (W:World) (n₀:Nat) (g c m:Nat) (bs:List Nat) (R:Nat->List Bool):Prop where
 own:W.ownsRow n₀ 128 1 (.slice (some ⟨g,0,none⟩) bs.length c) bs.length (bs.map (uI m))
 row:∀ (j:Nat) (h:j<bs.length),Row W bs[j] (R j)
 far:∀ (j:Nat) (h:j<bs.length),n₀<=bs[j]
theorem Rows.step {W W':World} {n₀ g c m:Nat} {bs:List Nat} {R:Nat->List Bool} (h:Rows W n₀ g c m bs R) (hb:Below W.heap.size W W'):Rows W' n₀ g c m bs R:=
 ⟨own_below h.own hb,fun j hj=>(h.row j hj).step hb,h.far⟩
theorem Rows.cell {W:World} {n₀ g c m:Nat} {bs:List Nat} {R:Nat->List Bool} (h:Rows W n₀ g c m bs R) (j:Nat) (hj:j<bs.length):W.cell? ⟨g,j,none⟩=some (uI m bs[j]):=by
 rw[h.own.cellAt j (by omega)]
 simp[hj]
theorem Rows.ne {W:World} {n₀ g c m:Nat} {bs:List Nat} {R:Nat->List Bool} (h:Rows W n₀ g c m bs R) {b:Nat} {vs:Array Value} {t:TypeId} (hb:Box W b vs t) (ht:t≠128):b≠g:=by
 have:=own_ne h.own hb ht
 simpa[Value.ownBlock]using this
theorem Rows.other {W:World} {n₀ g c m:Nat} {bs:List Nat} {R:Nat->List Bool} (h:Rows W n₀ g c m bs R) {b:Nat} {vs:Array Value} {t:TypeId} (hb:Box W b vs t) (ht:t≠128) (hne:∀ (j:Nat) (h:j<bs.length),bs[j]≠b) (i:Nat) (v:Value):Rows (W.setCell ⟨b,i,none⟩ v) n₀ g c m bs R:=
 ⟨ZC h.own hb ht i v,fun j hj=>(h.row j hj).other (hne j hj) i v,h.far⟩
attribute [local go_sem] Oper.semAt_some run_store_func
structure VU (N:Nat) (lH rO:Addr) (m1 c1 i:Nat) (x:Int) (l:aI) (W:World):Prop where
 g0:W.cell? ⟨N,1,none⟩=some (.slice (some lH) m1 c1)
 g1:W.cell? (rO.add i)=some (.int .i64 x)
 g2:W.cell? (lH.add (x.toNat*6))=some (.int .i64 l.f0)
 g3:W.cell? ⟨(lH.add (x.toNat*6)).block,(lH.add (x.toNat*6)).off+1,none⟩=some (.int .i64 l.f1.f0)
 g4:W.cell? ⟨(lH.add (x.toNat*6)).block,(lH.add (x.toNat*6)).off+2,none⟩=some (.int .i64 l.f1.f1)
 g5:W.cell? ⟨(lH.add (x.toNat*6)).block,(lH.add (x.toNat*6)).off+3,none⟩=some (.int .i64 l.f2.f0)
 g6:W.cell? ⟨(lH.add (x.toNat*6)).block,(lH.add (x.toNat*6)).off+4,none⟩=some (.int .i64 l.f2.f1)
 g7:W.cell? ⟨(lH.add (x.toNat*6)).block,(lH.add (x.toNat*6)).off+5,none⟩=some (.bool l.f3)
theorem VU.step {N:Nat} {lH rO:Addr} {m1 c1 i:Nat} {x:Int} {l:aI} {W W':World} (h:VU N lH rO m1 c1 i x l W) (hb:Below W.heap.size W W'):VU N lH rO m1 c1 i x l W':=
 ⟨jW hb h.g0,jW hb h.g1,jW hb h.g2,jW hb h.g3,jW hb h.g4,jW hb h.g5,jW hb h.g6,jW hb h.g7⟩
def SI (l:aI):Array Value:=#[.int .i64 l.f0,.int .i64 l.f1.f0,.int .i64 l.f1.f1,.int .i64 l.f2.f0,.int .i64 l.f2.f1,.bool l.f3]
structure aaT (w:World) (vs:Array Value) (g c M:Nat) (bb:List Nat) (R:Nat->List Bool) (bl b15 bn:Nat) (l:aI) (s:aH) (L:List Bool) (W:World):Prop where
 r:Rows W w.heap.size g c (M+1) bb R
 x:Box W w.heap.size vs 25
 b:Below w.heap.size w W
 l:Box W bl (SI l) 91
 s:Box W b15 #[.int .i64 s.f0,.int .i64 s.f1] 42
 nx:Row W bn L
theorem aaT.step {w:World} {vs:Array Value} {g c M:Nat} {bb:List Nat} {R:Nat->List Bool} {bl b15 bn:Nat} {l:aI} {s:aH} {L:List Bool} {W W':World} (h:aaT w vs g c M bb R bl b15 bn l s L W) (hb:Below W.heap.size W W'):aaT w vs g c M bb R bl b15 bn l s L W':=
 ⟨h.r.step hb,h.x.step hb,h.b.trans (hb.mono h.b.size),h.l.step hb,h.s.step hb,h.nx.step hb⟩
theorem aaT.put {w:World} {vs:Array Value} {g c M:Nat} {bb:List Nat} {R:Nat->List Bool} {bl b15 bn:Nat} {l:aI} {s:aH} {L:List Bool} {W:World} (h:aaT w vs g c M bb R bl b15 bn l s L W)
  (h1:∀ (j:Nat) (h:j<bb.length),bb[j]≠bn) (h2:w.heap.size<bn) (h3:bl≠bn) (h4:b15≠bn) (n:Nat):aaT w vs g c M bb R bl b15 bn l s (L.set n true) (W.setCell ⟨bn,n,none⟩ (.bool true)):=
 ⟨h.r.other h.nx (by decide) h1 n _,h.x.other (by omega) n _,h.b.setCell (p:=⟨bn,n,none⟩) (by simp;omega) _,h.l.other h3 n _,h.s.other h4 n _,h.nx.put n true⟩
theorem ar0 {i n:Nat} (h:i<n) (hn:n<=8):wrap64 ((i:Int)+1)=(i:Int)+1:=jF (by omega) (by omega)
end Go.Proofs.YtcmfnebcmmklkaaDoor.Hand
namespace Go.Proofs.YtcmfnebcmmklkaaDoor.Hand
open Go.RowKit Go.Shelf Go.Maps Go.WideMaps Go.Proofs.YtcmfnebcmmklkaaDoorW.dQ Go.Proofs.YtcmfnebcmmklkaaDoorW.gG Go.Proofs.YtcmfnebcmmklkaaDoor.Q
theorem a0O:Tryd.prog.underlying 146=some (.map 148 4):=by kernel_rfl
theorem aF3:Tryd.prog.underlying 148=some (.array 5 3):=by kernel_rfl
theorem u3:Tryd.prog.underlying 3=some (.int .i64):=by kernel_rfl
theorem u4:Tryd.prog.underlying 4=some .bool:=by kernel_rfl
theorem aOH:Tryd.prog.cellsOf 148=5:=by kernel_rfl
theorem cells3:Tryd.prog.cellsOf 3=1:=by kernel_rfl
theorem bnZ:ArrKey Tryd.prog 148 3 5:=⟨aF3,by kernel_rfl,cells3,aOH⟩
theorem bn0:Keyed Tryd.prog 148:=Keyed.of_law bnZ.law
theorem bn1:Tryd.prog.keyType 148=true:=by kernel_rfl
def ayL (L:List Int):Value:=.agg (L.map (Value.int .i64)).toArray
def aoH (L:List Int):Lit:=.string (keyBytes (L.map (Lit.int .i64)))
def wfI (x:Int):Prop:=(Lit.int .i64 x).wf=true
theorem bn2 (a b c d e:Int) (ha:wfI a) (hb:wfI b) (hc:wfI c) (hd:wfI d) (he:wfI e):keyOf Tryd.prog 148 (ayL [a,b,c,d,e])=some (aoH [a,b,c,d,e]):=by
 unfold wfI at ha hb hc hd he
 unfold keyOf
 rw[aF3]
 simp only[bn1,Bool.true_and]
 have hf:(ayL [a,b,c,d,e]).formed Tryd.prog 148=true:=by simp[ayL,Value.formed,aF3,aOH]
 rw[if_pos hf]
 have hs:∃ m,Tryd.prog.types.size=m+1:=⟨Tryd.prog.types.size - 1,by kernel_rfl⟩
 obtain⟨m,hm⟩:=hs
 rw[hm]
 have e3:∀ (k:Nat) (x:Int),(Lit.int .i64 x).wf=true->Tryd.prog.keyLits (k+1) 3 [.int .i64 x]=some [.int .i64 x]:=by
  intro k x hx
  unfold Program.keyLits
  rw[u3]
  simp[hx]
 unfold Program.keyLits
 rw[aF3]
 simp only[ayL,Value.cells,aOH,cells3,List.map_cons,List.map_nil,List.length_cons,List.length_nil]
 simp[List.range_succ,e3,ha,hb,hc,hd,he,aoH]
theorem bn3:((List.range 6).all fun n=>(List.range (2^n)).all fun s=>(iQ s).all fun c=>decide (0<=c)&&decide (c<(n:Int)))=true:=by decide+kernel
theorem a0P {n:Nat} (hn:n<=5) {s:Nat} (hs:s<2^n) {c:Int} (hc:c∈iQ s):0<=c/\c<(n:Int):=by
 have h:=List.all_eq_true.1 bn3 n (List.mem_range.2 (Nat.lt_succ_of_le hn))
 have h2:=List.all_eq_true.1 h s (List.mem_range.2 hs)
 have h3:=List.all_eq_true.1 h2 c hc
 simpa using h3
def QO (d:List Int) (cs:List Int):List Int:=cs.foldl (fun v c=>v.set c.toNat (d.getD c.toNat 0)) [0,0,0,0,0]
theorem bn4 (d cs:List Int) (c:Int):QO d (cs++[c])=(QO d cs).set c.toNat (d.getD c.toNat 0):=by
 unfold QO
 rw[List.foldl_append]
 rfl
theorem aOI (d:List Int):∀ cs,(QO d cs).length=5:=by
 intro cs
 unfold QO
 suffices ∀ (cs:List Int) (v:List Int),v.length=5->(cs.foldl (fun v c=>v.set c.toNat (d.getD c.toNat 0)) v).length=5 from this cs _ rfl
 intro cs
 induction cs with
 |nil=>intro v h;exact h
 |cons c cs ih=>intro v h;exact ih _ (by simpa using h)
def Sm (x:Int):Prop:= -2<=x/\x<=2
theorem Sm.wf {x:Int} (h:Sm x):wfI x:=by
 unfold Sm at h
 have:x= -2∨x= -1∨x=0∨x=1∨x=2:=by omega
 rcases this with rfl|rfl|rfl|rfl|rfl<;>(unfold wfI;decide)
theorem bn5 (d:List Int) (hd:∀ i,Sm (d.getD i 0)):∀ (cs:List Int) (x:Int),x∈QO d cs->Sm x:=by
 intro cs
 unfold QO
 suffices ∀ (cs:List Int) (v:List Int),(∀ x∈v,Sm x)->∀ x∈cs.foldl (fun v c=>v.set c.toNat (d.getD c.toNat 0)) v,Sm x from this cs _ (by intro x hx;simp at hx;subst hx;unfold Sm;omega)
 intro cs
 induction cs with
 |nil=>intro v h;exact h
 |cons c cs ih=>
  intro v h
  refine ih _ fun x hx=>?_
  rcases List.mem_or_eq_of_mem_set hx with h1|rfl
  ·exact h x h1
  ·exact hd _
theorem five {L:List Int} (h:L.length=5):∃ a b c d e,L=[a,b,c,d,e]:=by
 match L,h with
 |[a,b,c,d,e],_=>exact⟨a,b,c,d,e,rfl⟩
theorem bn6 (d cs:List Int) (hd:∀ i,Sm (d.getD i 0)):keyOf Tryd.prog 148 (ayL (QO d cs))=some (aoH (QO d cs)):=by
 have hs:=bn5 d hd cs
 obtain⟨a,b,c,e,f,hL⟩:=five (aOI d cs)
 rw[hL]at hs ⊢
 exact bn2 a b c e f (hs _ (by simp)).wf (hs _ (by simp)).wf (hs _ (by simp)).wf (hs _ (by simp)).wf (hs _ (by simp)).wf
def aOJ (xs:List (List Int)) (cs:List Int) (k:Nat):List Lit:=(xs.take k).map fun d=>aoH (QO d cs)
def Sv (xs:List (List Int)) (cs:List Int) (k:Nat):DataW Unit:=setOf (.lit (.bool true)) (aOJ xs cs k)
theorem bn7 (xs:List (List Int)) (cs:List Int):Sv xs cs 0=.map []:=by simp[Sv,aOJ,setOf]
theorem bn8 (xs:List (List Int)) (cs:List Int) (k:Nat) (hk:k<xs.length):Sv xs cs (k+1)=(Sv xs cs k).put (aoH (QO (AP xs k) cs)) (.lit (.bool true)):=by
 unfold Sv aOJ
 have:AP xs (k:Int)=xs[k]:=by unfold AP;rw[Int.toNat_natCast];simp[List.getD_eq_getElem?_getD,hk]
 rw[this,List.take_succ_eq_append_getElem hk,List.map_append,List.map_cons,List.map_nil,setOf_snoc]
def encI (L:List Int):Array Value:=(L.map (Value.int .i64)).toArray
theorem bn9 (L:List Int) (i:Nat) (x:Int):(encI L).setIfInBounds i (.int .i64 x)=encI (L.set i x):=by
 unfold encI
 rw[List.map_set]
 simp
theorem Below.a0Q {w w':World} (hb:Below w.heap.size w w'):w.grownBy w' none:=⟨hb.os,hb.tape,hb.output,hb.size,fun k hk _=>hb.block k hk⟩
def ayM (xs:List (List Int)) (s:Nat):Bool:=decide ((Maps.size (Sv xs (iQ s) xs.length):Int)=(xs.length:Int))
theorem aOK {n M:Nat} (h:n<M) (hw:wrap64 ((n:Int)+1)=(n:Int)+1):M - (intOf (Value.int .i64 (wrap64 ((n:Int)+1)))).toNat<M - (intOf (Value.int .i64 (n:Int))).toNat:=by
 rw[hw]
 show M - (n+1)<M - n
 exact Nat.sub_succ_lt_self _ _ h
theorem boA {n M:Nat} (h:n<M) (hM:M<=3125):wrap64 ((n:Int)+1)=(n:Int)+1:=jF (by omega) (by omega)
theorem boB (xs:List (List Int)) (n:Nat) (hn:n<=5) (hx:∀ d∈xs,d.length=n/\∀ i,Sm (d.getD i 0)) (hxl:xs.length<=3125) (s:Nat) (hs:s<2^n) (A:Option Addr) (c b0:Nat) (w:World) (hb0:Box w b0 #[.slice A xs.length c] 56) (hC:Kd.C (Kd.slice 3 (Kd.int .i64)) w A xs.length xs) (hT:lZ w):
  Calls Tryd.prog 84 #[.int .u64 s,.pointer (some ⟨b0,0,none⟩)] w fun e w'=>e=.returned (.bool (ayM xs s))/\Below w.heap.size w w':=by
 have hmm:= @run_makeMap Tryd.prog
 obtain⟨Wa,hWa⟩:∃ Wa,w.alloc (.map #[] 0)=Wa:=⟨_,rfl⟩
 have hba:Below w.heap.size w Wa:=by rw[<-hWa];exact(Below.refl _ _).alloc (Nat.le_refl _) _
 have hom:Wa.ownsMap Tryd.prog 148 (plainElem (H:=Unit) Tryd.prog 4) w.heap.size 0 (Sv xs (iQ s) 0):=by rw[<-hWa,bn7];exact World.ownsMap_made _ _ _ _
 have q0:Wa.cell? ⟨b0,0,none⟩=some (.slice A xs.length c):=(hb0.step hba).cell 0 rfl
 have boC:=hb0.lt
 go_enter Tryd.func84,Tryd.ntmps84
 go_wp2
 clear hWa
 have HX:=Lib.hid hx
 have HXL:=Lib.hid hxl
 clear hx hxl
 have hs8:s<256:=Nat.lt_of_lt_of_le hs (Nat.le_trans (Nat.pow_le_pow_right (by decide) hn) (by decide))
 have Hs:=Lib.hid (And.intro hn (And.intro hs hs8))
 clear hn hs hs8 q0
 go_loopw [13] (fun iv wr=>∃ k:Nat,k<=xs.length/\iv=.int .i64 k/\wr.ownsMap Tryd.prog 148 (plainElem (H:=Unit) Tryd.prog 4) w.heap.size k (Sv xs (iQ s) k)/\Below w.heap.size w wr) (fun iv _=>xs.length - (intOf iv).toNat)
 case atStart=>exact⟨0,Nat.zero_le _,rfl,hom,hba⟩
 case round=>
  clear hom hba
  obtain⟨k,hk,rfl,hm,hB⟩:=hrel
  by_cases hkl:k<xs.length
  ·have hkx:(k:Int)<(xs.length:Int):=Int.ofNat_lt.2 hkl
   have hk0:(0:Int)<=(k:Int):=Int.natCast_nonneg k
   obtain⟨ad,Ad,cd,hA,e1,hcd,kW⟩:=atL hC (k:Int) hk0 hkx
   subst hA
   rw[Int.toNat_natCast]at e1
   have e2:=(hB.cell (p:=ad.add k) (World.block_lt_of_cell? _ _ e1)).trans e1
   have hSv:Hid (Sv xs (iQ s) (k+1)=(Sv xs (iQ s) k).put (aoH (QO (AP xs k) (iQ s))) (.lit (.bool true))):=Lib.hid (bn8 xs (iQ s) k hkl)
   have hdm:AP xs k∈xs:=by
    unfold AP
    rw[Int.toNat_natCast]
    exact getD_mem (by simpa using hkl) _
   have HD:=Lib.hid (HX.out _ hdm)
   obtain⟨d,hde⟩:∃ d,AP xs (k:Int)=d:=⟨_,rfl⟩
   rw[hde]at e2 kW HD hSv
   clear hdm hde e1 hcd
   obtain⟨nd,hnd⟩:∃ x,d.length=x:=⟨_,rfl⟩
   rw[hnd]at e2 kW
   obtain⟨Wv,hWv⟩:∃ Wv,wr.alloc (.cells (encI [0,0,0,0,0]) 148)=Wv:=⟨_,rfl⟩
   have hbv:Below wr.heap.size wr Wv:=by rw[<-hWv];exact(Below.refl _ _).alloc (Nat.le_refl _) _
   have hxv:Box Wv wr.heap.size (encI [0,0,0,0,0]) 148:=by rw[<-hWv];exact Box.new _ _ _
   have hBv:=hB.trans (hbv.mono hB.size)
   have hmv:Wv.ownsMap Tryd.prog 148 (plainElem (H:=Unit) Tryd.prog 4) w.heap.size k (Sv xs (iQ s) k):=World.ownsMap.kept hm (Below.a0Q hbv) (by simp)
   have hml:=hm.lt
   have HWv:=Lib.hid hWv
   obtain⟨b7,hb7⟩:∃ b,wr.heap.size=b:=⟨_,rfl⟩
   rw[hb7]at hxv hml
   have Hb7:=Lib.hid hb7
   clear hWv hbv hb7
   go_wp2_with fail
   have aF7:=HWv.out
   unfold encI at aF7
   simp only[List.map_cons,List.map_nil]at aF7
   rw[aF7,Hb7.out]
   clear aF7
   refine(awX s Hs.out.2.2 Wv (hT.below hBv)).mono ?_
   rintro e w1 ⟨v,rfl,hL,-,hb1⟩
   have hm1:w1.ownsMap Tryd.prog 148 (plainElem (H:=Unit) Tryd.prog 4) w.heap.size k (Sv xs (iQ s) k):=World.ownsMap.kept hmv (Below.a0Q hb1) (by simp)
   have hB1:=hBv.trans (hb1.mono hBv.size)
   have hx1:=hxv.step hb1
   have sv:=hxv.lt
   clear hmv hxv hb1 hBv hm hB HWv Hb7
   have hLm:=Lib.hid (fun c (hc:c∈iQ s)=>a0P Hs.out.1 Hs.out.2.1 hc)
   have hLl:=Lib.hid (agA s Hs.out.2.2)
   obtain⟨L,EI⟩:∃ L,iQ s=L:=⟨_,rfl⟩
   rw[EI]at hL hm1 hSv hLm hLl
   have HLe:=Lib.hid EI
   clear EI
   obtain⟨AL,cL,rfl⟩:=eH.slice hL
   go_wp2
   have hV0:Box w1 b7 (encI (QO d (L.take 0))) 148:=hx1
   clear hx1 e2
   go_loopw [20] (fun iv w2=>∃ j:Nat,j<=L.length/\iv=.int .i64 j/\w2.ownsMap Tryd.prog 148 (plainElem (H:=Unit) Tryd.prog 4) w.heap.size k (Sv xs L k)/\Below w.heap.size w w2/\Box w2 b7 (encI (QO d (L.take j))) 148/\eH w2 Wv.heap.size (.slice AL L.length cL) L) (fun iv _=>L.length - (intOf iv).toNat)
   case atStart=>exact⟨0,Nat.zero_le _,rfl,hm1,hB1,hV0,hL⟩
   case round=>
    clear hm1 hB1 hV0 hL
    obtain⟨j,hj,rfl,hm2,hB2,hV,hL2⟩:=hrel
    by_cases hjl:j<L.length
    ·have hjx:(j:Int)<(L.length:Int):=Int.ofNat_lt.2 hjl
     have hj0:(0:Int)<=(j:Int):=Int.natCast_nonneg j
     obtain⟨al,hAl,a1⟩:=Kd.BL (Kd.dB (eH.R hL2)).2.2 (j:Int) hj0 hjx
     subst hAl
     rw[Int.toNat_natCast]at a1
     have hcm:YtcmfnebcmmklkaaDoorW.dQ.rd L (j:Int)∈L:=by
      unfold YtcmfnebcmmklkaaDoorW.dQ.rd
      rw[Int.toNat_natCast]
      exact getD_mem (by simpa using hjl) _
     have hcb:=hLm.out _ hcm
     have htk:Hid (QO d (L.take (j+1))=(QO d (L.take j)).set (YtcmfnebcmmklkaaDoorW.dQ.rd L (j:Int)).toNat (d.getD (YtcmfnebcmmklkaaDoorW.dQ.rd L (j:Int)).toNat 0)):=Lib.hid (by
      rw[<-bn4]
      congr 1
      unfold YtcmfnebcmmklkaaDoorW.dQ.rd
      rw[Int.toNat_natCast,List.take_succ_eq_append_getElem hjl]
      simp[List.getD_eq_getElem?_getD,hjl])
     obtain⟨cc,hcc⟩:∃ cc,YtcmfnebcmmklkaaDoorW.dQ.rd L (j:Int)=cc:=⟨_,rfl⟩
     rw[hcc]at a1 hcb htk
     clear hcm hcc
     obtain⟨q,rfl⟩:∃ q:Nat,cc=q:=⟨cc.toNat,(Int.toNat_of_nonneg hcb.1).symm⟩
     have hqn:q<nd:=by rw[<-hnd,HD.out.1];exact Int.ofNat_lt.1 hcb.2
     have hq5:q<5:=Nat.lt_of_lt_of_le (Int.ofNat_lt.1 hcb.2) Hs.out.1
     obtain⟨dd,hAd,a2⟩:=Kd.BL (Kd.bJ kW hB2) (q:Int) (Int.natCast_nonneg q) (Int.ofNat_lt.2 hqn)
     subst hAd
     rw[Int.toNat_natCast]at a2 htk
     have hq0:(0:Int)<=(q:Int):=Int.natCast_nonneg q
     have hq1:(q:Int)<(nd:Int):=Int.ofNat_lt.2 hqn
     have hq2:(q:Int)<5:=Int.ofNat_lt.2 hq5
     have hfr:=hV.frozen q
     have hce:wr.cell? ⟨b7,q,none⟩=some (.int .i64 ((QO d (L.take j)).getD q 0)):=hV.cell q (by simp[encI,List.getD_eq_getElem?_getD,aOI,hq5])
     have hwj:=Lib.hid (ar0 hjl hLl.out)
     have hrd:YtcmfnebcmmklkaaDoorW.dQ.rd d (q:Int)=d.getD q 0:=by unfold YtcmfnebcmmklkaaDoorW.dQ.rd;rw[Int.toNat_natCast]
     rw[hrd]at a2
     obtain⟨dv,hdv⟩:∃ x,d.getD q 0=x:=⟨_,rfl⟩
     rw[hdv]at a2 htk
     clear hrd hcb hdv
     go_wp2
     go_roundw
     case rel=>
      refine⟨j+1,hjl,by rw[hwj.out];rfl,hm2.setCell (fun e=>Nat.lt_irrefl _ (e ▸ hml)) _,hB2.setCell (p:=⟨b7,q,none⟩) (Nat.le_of_lt hml) _,?_,ZC hL2 hV (by decide) q _⟩
      rw[htk.out,<-bn9]
      exact hV.set q _
     case measure=>exact aOK hjl hwj.out
    ·obtain rfl:j=L.length:=Nat.le_antisymm hj (Nat.le_of_not_lt hjl)
     have hjx:¬ ((L.length:Int)<(L.length:Int)):=Int.lt_irrefl _
     rw[List.take_length]at hV
     have hkey:=bn6 d L (fun i=>HD.out.2 i)
     have hv5:=aOI d L
     obtain⟨V,hVe⟩:∃ V,QO d L=V:=⟨_,rfl⟩
     rw[hVe]at hV hkey hv5 hSv
     clear hVe
     obtain⟨a0,a1,a2,a3,a4,rfl⟩:=five hv5
     have v0:wr.cell? ⟨b7,0,none⟩=some (.int .i64 a0):=hV.cell 0 rfl
     have v1:wr.cell? ⟨b7,1,none⟩=some (.int .i64 a1):=hV.cell 1 rfl
     have v2:wr.cell? ⟨b7,2,none⟩=some (.int .i64 a2):=hV.cell 2 rfl
     have v3:wr.cell? ⟨b7,3,none⟩=some (.int .i64 a3):=hV.cell 3 rfl
     have v4:wr.cell? ⟨b7,4,none⟩=some (.int .i64 a4):=hV.cell 4 rfl
     have hkm:k<maxLen:=Nat.lt_of_lt_of_le hkl (Nat.le_trans HXL.out (by decide))
     have boF:keyOf Tryd.prog 148 (.agg #[.int .i64 a0,.int .i64 a1,.int .i64 a2,.int .i64 a3,.int .i64 a4])=some (aoH [a0,a1,a2,a3,a4]):=hkey
     clear hv5 hkey hV
     go_wp2_with (first
      |(at_mapUpdate;refine wpList_mapUpdate_own _ rfl _ _ _ 146 rfl 148 4 bn0 a0O (plainElem (H:=Unit) Tryd.prog 4) w.heap.size k _ rfl hm2 hkm _ _ _ rfl rfl boF _ [] (plainElem_bool u4 true) ?_;intro w5 hown5 boG)
      |go_in)
     have hwk:=boA hkl HXL.out
     rw[<-hSv.out,<-HLe.out]at hown5
     refine⟨⟨k+1,hkl,by rw[hwk];rfl,hown5,hB2.grown boG hB2.size (fun j hj=>by cases hj;exact Nat.le_refl _)⟩,?_⟩
     exact aOK hkl hwk
  ·obtain rfl:k=xs.length:=Nat.le_antisymm hk (Nat.le_of_not_lt hkl)
   have hjx:¬ ((xs.length:Int)<(xs.length:Int)):=Int.lt_irrefl _
   have q0:wr.cell? ⟨b0,0,none⟩=some (.slice A xs.length c):=(hb0.below hB boC).cell 0 rfl
   go_wp2_with (first
    |(at_len;refine wpList_len_own _ rfl _ 146 rfl 148 4 a0O _ w.heap.size xs.length _ rfl hm ?_)
    |go_in)
   go_ret
   exact⟨rfl,hB⟩
end Go.Proofs.YtcmfnebcmmklkaaDoor.Hand
namespace Go.Proofs.YtcmfnebcmmklkaaDoor.Hand
open Go.RowKit Go.Shelf Go.Proofs.YtcmfnebcmmklkaaDoorW.dQ Go.Proofs.YtcmfnebcmmklkaaDoorW.gG Go.Proofs.YtcmfnebcmmklkaaDoor.Q
def ayO (R:pU) (cs:List gQ) (most:Int):List Int:=if xZ R cs most=0 then(pR (ayM (wL R cs most)) iQ (2^cs.length)).getD []else[]
theorem boH {R:pU} {cs:List gQ} {most:Int} (h:xZ R cs most=0):cs.length<=5/\(wL R cs most).length<=3125/\∀ d∈wL R cs most,d.length=cs.length/\∀ i,Sm (d.getD i 0):=by
 have h1:BX R cs most=0:=by
  unfold xZ at h
  split at h
  ·assumption
  ·rename_i hq
   exact absurd h hq
 obtain⟨hR,hcs,h5,_,hm⟩:=arT h1
 have e:wL R cs most=PM R cs most 0:=if_pos h1
 rw[e]
 unfold PM
 refine⟨h5,Nat.le_trans (List.length_filter_le _ _) (arS hm h5).1,fun d hd=>?_⟩
 exact(arS hm h5).2 d (List.mem_filter.1 hd).1
theorem boI (R:pU) (cs:List gQ) (most:Int) (A:Option Addr) (cp:Nat) (w:World) (hT:lZ w) (hr:Kd.C vC w A cs.length cs):
  Calls Tryd.prog 37 #[aeI R,.slice A cs.length cp,.int .i64 most] w fun e w'=>∃ v,e=.returned (.tuple #[v,.int .i64 (xZ R cs most)])/\eH w' w.heap.size v (ayO R cs most)/\Below w.heap.size w w':=by
 have hb0:Below w.heap.size w (w.alloc (Obj.cells #[Value.int IntKind.i64 R.l.f0,Value.int IntKind.i64 R.l.f1,Value.int IntKind.i64 R.r.f0,Value.int IntKind.i64 R.r.f1,Value.int IntKind.i64 R.t.f0,Value.int IntKind.i64 R.t.f1,Value.int IntKind.i64 R.off] 53)):=(Below.refl _ _).alloc (Nat.le_refl _) _
 have hs:=Lib.hid (fun w (hr:Kd.C vC w A cs.length cs)=>aFI R cs most A cp w hr)
 obtain⟨a0,a1,a2,a3,a4,a5,a6,a7,a8,B,m,k,hsv⟩:=aFJ R A cs.length cp most (BX R cs most)
 go_enter Tryd.func37,Tryd.ntmps37
 go_wp2_with fail
 refine(hs.out _ (Kd.bJ hr hb0)).mono ?_
 rintro e w1 ⟨v,rfl,hrows,hb1⟩
 have hB1:Below w.heap.size w w1:=hb0.trans (hb1.mono hb0.size)
 have hr1:uX w1 w.heap.size v (wL R cs most):=⟨Kd.eF hrows.1 hb0.size,hrows.2⟩
 rw[hsv]
 obtain⟨Av,cv,rfl⟩:=hr1.slice
 clear hb1 hrows hb0 hsv hs
 by_cases h0:xZ R cs most=0
 ·have hne:(xZ R cs most !=0)=false:=by simp[h0]
  have H0:=Lib.hid h0
  rw[h0]
  clear h0 hne
  obtain⟨w2,hw2⟩:∃ w2,(w1.alloc (Obj.cells #[Value.int IntKind.i64 a0,Value.int IntKind.i64 a1,Value.int IntKind.i64 a2,Value.int IntKind.i64 a3,Value.int IntKind.i64 a4,Value.int IntKind.i64 a5,Value.int IntKind.i64 a6,Value.slice B m k,Value.int IntKind.i64 a8] 141)).alloc (Obj.cells #[Value.slice Av (wL R cs most).length cv] 56)=w2:=⟨_,rfl⟩
  have hb2:Below w1.heap.size w1 w2:=by rw[<-hw2];exact((Below.refl _ _).alloc (Nat.le_refl _) _).alloc (by simp) _
  have hB2:=hB1.trans (hb2.mono hB1.size)
  have hbx:Box w2 (w1.heap.size+1) #[.slice Av (wL R cs most).length cv] 56:=by rw[<-hw2];exact Box.new' _ _ _ (by simp)
  have hr2:=hr1.step hb2
  have hC2:=(Kd.dB hr2.1).2.2
  obtain⟨h5,hxl,hx⟩:=boH H0.out
  have HW2:=Lib.hid hw2
  have HO:Hid (ayO R cs most=(pR (ayM (wL R cs most)) iQ (2^cs.length)).getD []):=Lib.hid (if_pos H0.out)
  have hf:=Lib.hid (blE cs.length (Nat.le_trans h5 (by decide)) (ayM (wL R cs most)) (w1.heap.size+1) w2 (hT.below hB2) (fun s hs W hW=>boB (wL R cs most) cs.length h5 hx hxl s hs Av cv (w1.heap.size+1) W (hbx.step hW) (Kd.bJ hC2 hW) ((hT.below hB2).below hW)))
  clear hw2 hb2 hB1 hr1 hbx hr2 hC2 h5 hxl hx
  go_wp2_with fail
  rw[HW2.out]
  refine hf.out.mono ?_
  rintro e w3 ⟨v,rfl,hown,hnil,hb3⟩
  have hB3:Below w.heap.size w w3:=hB2.trans (hb3.mono hB2.size)
  have ho3:=hown.lower hB2.size
  rw[<-HO.out]at ho3
  obtain⟨bs,hbs⟩:∃ bs,(pR (ayM (wL R cs most)) iQ (2^cs.length)).isSome=bs:=⟨_,rfl⟩
  rw[hbs]
  obtain⟨Ao,co,rfl⟩:=eH.slice ho3
  clear hbs hown hnil hb3 hf HW2 hB2
  go_wp2_with fail
  refine bodyPost_ret (v:=.tuple #[.slice Ao (ayO R cs most).length co,.int .i64 0]) (by simp[results,Tryd.results37,go_sem]) rfl ?_
  exact⟨_,by rw[H0.out],ho3,hB3⟩
 ·have HL:Hid (ayO R cs most=[]):=Lib.hid (if_neg h0)
  obtain⟨er,her⟩:∃ er,xZ R cs most=er:=⟨_,rfl⟩
  rw[her]at h0 ⊢
  have hne:(er !=0)=true:=by simp[h0]
  have HE:=Lib.hid her
  clear her h0
  go_wp2_with fail
  refine bodyPost_ret (v:=.tuple #[.slice none 0 0,.int .i64 er]) (by simp[results,Tryd.results37,go_sem]) rfl ?_
  exact⟨_,by rw[HE.out],by rw[HL.out];exact eH.nil _ _,(hB1.alloc hB1.size _).alloc (Nat.le_trans hB1.size (by simp)) _⟩
end Go.Proofs.YtcmfnebcmmklkaaDoor.Hand
