/- A part. -/
import Derived.Test.YtoebddanaobpaaaGreatDoorP20
set_option maxHeartbeats 8000000
set_option maxRecDepth 100000
set_option linter.all false
namespace Go.aO
attribute [local go_sem] Oper.semAt_some
open Go.Proofs Tryz Go.RowKit Go.Maps Go.Shelf
section
variable{A:TJ}
def Cc(d fm c:Nat)(f:c<120):∀n,(hN d fm c n).length<=n*120
 | 0=>bg
 |n+1=>by
  have:=Cc d fm c f n;rw[hN,Ug];have g:(nu fm (d+n) (c+1-max (d+n) fm)).length<=120:=by simp[nu];omega
  omega
def QN[S:Std A]{C:TQ}{T B am aV Z cA:Nat}{first:Ty}(K:pB C T B am aV Z cA first){k:Nat}(aL:k<Z)(aQ:Z<=1000){bj:Ty}(p:∀d,0<=bj d/\bj d<=1000000)(E:pA A C T k bj)(f g fm m:Nat)(aM:f<=g)(aD:g<120)(aj:m<120)(hm:fm<120)(w:S7)(L:C w):
 CallsIn Fence.wide 8 (ao A) 38 #[Tj T,.agg #[ah k,ah f,ah g,ah fm,ah m]] w λe w'=>∃(v:S9) (u:TX),e=.returned v/\u.Perm (intKeys (mG (first k) bj (hN f fm m (g-f+1))))/\
  w'.ownsRow w.heap.size 3 1 v u.length ((u.mergeSort (λx y=>decide (x<=y))).map encZ)/\(v=.slice none 0 0↔u = [])/\C w'/\w.grownBy w' (some T):=by
 have a8:=@run_makeMap (ao A);have ax:Fence.wide.fn 40:=Tf;have ae:Fence.wide.fn 65:=Tf;have ag:T<w.heap.size:=by have:=K.lt;have:=K.size w L;omega
 refine callsIn_of_wp_marks (S.f func38) S6 Tf ?_ S6;simp only[ntmps38,List.size_toArray,List.length_cons,List.length_nil,Nat.reduceAdd,Nat.reduceSub,Array.replicate_succ,Array.replicate_zero,List.push_toArray,List.append_toArray,List.nil_append,List.cons_append];gi_wp2_with (gi_at_call 40;refine(yR Fence.wide 7 ax S6 _ _ _ _ _ _).mono ?_;rintro e w' ⟨rfl,rfl⟩)
 obtain⟨q,n⟩:∃q,(((((w.alloc (.cells #[.pointer (some ⟨T,0,none⟩)] 71)).alloc (.cells #[ah k,ah f,ah g,ah fm,ah m] 52)).alloc (.map #[] 0)).alloc (.cells #[.map (some (w.heap.size+1+1))] 159)).alloc (.cells #[ah k,ah f,ah g,ah fm,ah m] 52))=q:=⟨_,S6⟩
 have bd:q.heap.size=w.heap.size+5:=by rw[<-n];simp
 have aJ:w.grownBy q (some T):=by rw[<-n];exact((((dU w _ _).trans bT).trans bT).trans bT).trans bT
 have aK:w.grownBy q none:=by rw[<-n];exact((((dU w _ _).trans bT).trans bT).trans bT).trans bT
 have az:qH A C T k (first k) bj w [] q:=by
  refine⟨?_,?_,?_,?_,K.keep _ _ none L aK lV,aJ,U⟩
  .rw[<-n,hD _ _ _ (by simp only[cV];omega),hD _ _ _ (by simp only[cV];omega),hD _ _ _ (by simp only[cV];omega),hD _ _ _ (by simp only[cV];omega),dR S6];rfl
  .rw[<-n,hD _ _ _ (by simp only[cV];omega),hD _ _ _ (by simp only[cV];omega),hD _ _ _ (by simp only[cV];omega),dR (by simp only[cV])];rfl
  .rw[<-n,hD _ _ _ (by simp only[cV];omega),dR (by simp only[cV])];rfl
  .rw[<-n]
   have:=World.ownsMap_made ((w.alloc (.cells #[Tj T] 71)).alloc (.cells #[ah k,ah f,ah g,ah fm,ah m] 52)) (ao A) 3 (plainElem (H:=Unit) (ao A) 4);simp only[cV]at this;exact(this.alloc _).alloc _
 have aG:m6 q (w.heap.size+1+1+1+1) f g fm m:=by rw[<-n];refine⟨?_,?_,?_,?_⟩<;>(rw[dR (by simp only[cV])];rfl)
 rw[n];clear n;refine wpIn_rangeFunc_ownH S6 a6 (gf:=65) (lb:=#[Tj (w.heap.size+1+1+1+1)]) S6 ae (enters_of (S.f func65) av S6)
  (yS Fence.wide 7 ae rfl a6 (w.heap.size+1+1+1+1) f g fm m aM aD aj hm q U aG) gP.t (λW l o aU _ h aI _=>gP.b W l o aU h aI) (Below.refl _ _) (λ_=>S6)
  (λpre W=>qH A C T k (first k) bj w pre W) (λ_ _ _=>False)
  (λs X Y row F G E=>F.step ag G (λr e=>.inr (by have:=(E r e).1;omega)) (K.keep _ _ _ F.j G (λr e=>by have:=(E r e).1;have:=K.size w L;omega)))
  (λ_ _ _ _ _ F _ _=>F) az
  (λx Q W=>∃z,w.heap.size+5<=z/\W.cell? (Ti z)=Tn x.1.1/\W.cell? (S8 z 1)=Tn x.1.2/\Q={tmps:=#[Tj T,.agg #[ah k,ah f,ah g,ah fm,ah m],Tj w.heap.size,Tj (w.heap.size+1),.slice none 0 0,Tj (w.heap.size+1+1+1),Tj z,.map (some (w.heap.size+1+1)),.agg #[ah k,ah f,ah g,ah fm,ah m],.func (.func 65) #[] #[Tj (w.heap.size+1+1+1+1)],.agg #[ah x.1.1,ah x.1.2],undef,undef,undef,undef,undef,undef,undef,undef,undef,undef],defers:=[]})
  (λx Q _ X Y row F G E=>by obtain⟨z,aq,ar,au,aw⟩:=F;exact⟨z,aq,cell_kept ar G (λr e=>(E r e).2),cell_kept au G (λr e=>(E r e).2),aw⟩) ?assign ?body ?done ?stop
 case assign=>
  rintro l pre x W aW J M;have V:=J.dD;gi_wp2
  refine M _ _ ((KeepsOthers.alloc _ _).from _) (gP.grown (dU _ _ none) aF) (J.step ag (dU _ _ none) (λr e=>by cases e) (K.keep _ _ none J.j bT lV)) ⟨W.heap.size,V,dR S6,dR S6,S6⟩
 case body=>
  rintro l pre x Q W a7 a9 br ⟨z,a2,bb,bc,rfl⟩ aN;have aP:(ao A).follows .mixedOrders=true:=av;have aZ:=br.t2;have c3:=br.t3;have aa:=br.t5;have V:=br.dD;have aC:C W.drew:=K.keep _ _ none br.j ⟨S6,S6,S6,bg,λ_ _ _=>S6⟩ lV;have ai:∀b,w.heap.size<=b->some b≠some T:=λb p e=>by cases e;omega
  gi_wp2
  gi_region_with_o (first|(refine⟨Tf,?_⟩;gi_at_call 36;refine(CallsIn.inRound l (callsIn_wide.2 (si K aL aQ p E x.1.1 x.1.2 x.2.1 x.2.2 _ (by first|exact br.j|exact aC)))).mono ?_;rintro e aX ⟨rfl,aB,R⟩;have a0:=R.cell (a:=(Ti (w.heap.size+1+1+1))) aa (ai _ dT);let⟨bf,ba,aA,I,al⟩:=QK (x:=x) K p L br aN aB R;clear R)|(refine⟨Tf,?_⟩;gi_at_call 31;refine(CallsIn.inRound l (callsIn_wide.2 (oT _ _))).mono ?_;rintro e aY ⟨rfl,rfl⟩))
  all_goals (try gi_wp2)
  all_goals exact⟨(KeepsFrom.of_grownBy I (λj e=>by cases e;omega)).trans (KeepsFrom.of_grownBy al (λj e=>by cases e;omega)),(gP.grown I (ai _ U)).t (gP.grown al (λe=>by have:=bD e;omega)),aA⟩
 case done=>
  rintro D ys W a3 rfl br M;have own:=br.own;have V:=br.dD;have hlen:=Cc f fm m aj (g-f+1);have aP:=own.size_le;have aO:Maps.size (mG (first k) bj (hN f fm m (g-f+1)))<=maxLen:=kj;have aH:Maps.size (mG (first k) bj (hN f fm m (g-f+1)))*8<=140737488355328:=U;have aT:SeqGives Fence.wide 4 (ao A) 82 #[Tj W.heap.size] encZ (λu=>u.Perm (intKeys (mG (first k) bj (hN f fm m (g-f+1))))) (Maps.size (mG (first k) bj (hN f fm m (g-f+1)))) (W.alloc (.cells #[.map (some (w.heap.size+1+1))] 159)):=
   AnyZI.keys_gives (ρ:=wR) {(Ds:SlLaysZI.n7 (ao A) wR)with} Fence.wide _ trivial rfl U W.heap.size (w.heap.size+1+1) _ _ _ aF aF (own.alloc _)
  have ap:∀P W,CallsIn Fence.wide 7 (ao A) 64 #[.map P] W λe w'=>e=.returned (.func (.func 82) #[] #[Tj W.heap.size])/\w'=W.alloc (.cells #[.map P] 159):=λP W=>AnyZI.keys_in (Ds:SlLaysZI.n7 (ao A) wR) Fence.wide 7 Tf S6 P W
  have ad:=AnyZI.sorted_in (O':SlLaysZI.n6 (ao A) AK) Fence.wide 7 Tf Tf Tf Tf S6 U (Pa _) (enters_of (S.f func81) av S6) 82 #[Tj W.heap.size] Tf (enters_of (S.f func82) av S6) _ _ aO aH _ aT;change CallsIn _ _ (ao A) 63 _ _ _ at ad;have a4:Fence.wide.fn 64:=Tf;have a5:Fence.wide.fn 63:=Tf;have aa:=br.t5;gi_wp2_with (first
   |(gi_at_call 64;refine(ap _ _).mono ?_;rintro e w' ⟨rfl,rfl⟩)
   |(gi_at_call 63;refine ad.mono ?_;rintro e w' ⟨v,u,rfl,aE,aS,aR,p⟩))
  have ay:D<W.heap.size:=(Array.getElem?_eq_some_iff.1 M).1;have af:w'.heap[D]?=some (.deferred (some [])):=(p.block D cH).trans ((Below.heap_alloc _ _ D ay).trans M);have I:W.grownBy w' none:=(dU W (.cells #[.map (some (w.heap.size+1+1))] 159) none).trans ⟨p.os,p.tape,p.output,p.size,λi J _=>p.block i J⟩;have ak:w'.grownBy (w'.putObj D (.deferred none)) (some D):=grownBy_putObj' _ _ _;have a1:B<=w.heap.size:=K.size w L;refine⟨aF,.inl ⟨_,_,S6,run_takeDeferred af,?_⟩⟩;refine⟨_,results_tmp S6 _ _ _,?_⟩;exact⟨v,u,S6,aE,ownsRow_base_a (ownsRow_putObj aS _ af S6) cH,aR,K.keep _ _ (some D) (K.keep _ _ none br.j I lV) ak (λb e=>by cases e;omega),ng (ng br.fY I (λr e=>by cases e)) ak (λr e=>by cases e;right;omega)⟩
 case stop=>
  rintro D c pre W _ _ h _;exact h.elim
end
end Go.aO
