/- A part; no conditions. -/
import Derived.Test.YtkifbmfagkjikaaGreatDoorP25
set_option maxHeartbeats 8000000
set_option maxRecDepth 100000
set_option linter.all false
namespace Go.aO
attribute [local go_sem] Oper.semAt_some
open Go.Proofs Go.RowKit Go.Maps Go.Shelf
section
variable{A:Array Func}
def Cc(d fm c:Nat)(f:c<120):∀n,(hN d fm c n).length<=n*120
 | 0=>bg
 |n+1=>by
  have:=Cc d fm c f n;rw[hN,List.length_append];have g:(nu fm (d+n) (c+1-max (d+n) fm)).length<=120:=by simp[nu];omega
  omega
def QN[S:Std A]{C:World->Prop}{T B al aU Z cA:Nat}{first:Nat->Int}(K:pB C T B al aU Z cA first){k:Nat}(aK:k<Z)(aP:Z<=1000){bj:Nat->Int}(p:∀d,0<=bj d/\bj d<=1000000)(E:pA A C T k bj)(f g fm m:Nat)(aL:f<=g)(aC:g<120)(ai:m<120)(hm:fm<120)(w:World)(L:C w):
 CallsIn Fence.wide 8 (ao A) 38 #[.pointer (some ⟨T,0,none⟩),.agg #[.int .i64 k,.int .i64 f,.int .i64 g,.int .i64 fm,.int .i64 m]] w λe w'=>∃(v:Value) (u:List Int),e=.returned v/\u.Perm (intKeys (mG (first k) bj (hN f fm m (g-f+1))))/\
  w'.ownsRow w.heap.size 3 1 v u.length ((u.mergeSort (λx y=>decide (x<=y))).map encZ)/\(v=.slice none 0 0↔u = [])/\C w'/\w.grownBy w' (some T):=by
 have a8:=@run_makeMap (ao A);have aw:Fence.wide.fn 40:=trivial;have ae:Fence.wide.fn 65:=trivial;have ag:T<w.heap.size:=by have:=K.lt;have:=K.size w L;omega
 refine callsIn_of_wp_marks (S.f Tryz.func38) rfl trivial ?_ rfl;simp only[Tryz.ntmps38,List.size_toArray,List.length_cons,List.length_nil,Nat.reduceAdd,Nat.reduceSub,Array.replicate_succ,Array.replicate_zero,List.push_toArray,List.append_toArray,List.nil_append,List.cons_append];gi_wp2_with (gi_at_call 40;refine(yR Fence.wide 7 aw rfl _ _ _ _ _ _).mono ?_;rintro e w' ⟨rfl,rfl⟩)
 obtain⟨q,n⟩:∃q,(((((w.alloc (.cells #[.pointer (some ⟨T,0,none⟩)] 70)).alloc (.cells #[.int .i64 k,.int .i64 f,.int .i64 g,.int .i64 fm,.int .i64 m] 47)).alloc (.map #[] 0)).alloc (.cells #[.map (some (w.heap.size+1+1))] 152)).alloc (.cells #[.int .i64 k,.int .i64 f,.int .i64 g,.int .i64 fm,.int .i64 m] 47))=q:=⟨_,rfl⟩
 have bd:q.heap.size=w.heap.size+5:=by rw[<-n];simp
 have aI:w.grownBy q (some T):=by rw[<-n];exact((((dU w _ _).trans bT).trans bT).trans bT).trans bT
 have aJ:w.grownBy q none:=by rw[<-n];exact((((dU w _ _).trans bT).trans bT).trans bT).trans bT
 have ay:qH A C T k (first k) bj w [] q:=by
  refine⟨?_,?_,?_,?_,K.keep _ _ none L aJ lV,aI,U⟩
  .rw[<-n,hD _ _ _ (by simp only[cV];omega),hD _ _ _ (by simp only[cV];omega),hD _ _ _ (by simp only[cV];omega),hD _ _ _ (by simp only[cV];omega),dR rfl];rfl
  .rw[<-n,hD _ _ _ (by simp only[cV];omega),hD _ _ _ (by simp only[cV];omega),hD _ _ _ (by simp only[cV];omega),dR (by simp only[cV])];rfl
  .rw[<-n,hD _ _ _ (by simp only[cV];omega),dR (by simp only[cV])];rfl
  .rw[<-n]
   have:=World.ownsMap_made ((w.alloc (.cells #[.pointer (some ⟨T,0,none⟩)] 70)).alloc (.cells #[.int .i64 k,.int .i64 f,.int .i64 g,.int .i64 fm,.int .i64 m] 47)) (ao A) 3 (plainElem (H:=Unit) (ao A) 4);simp only[cV]at this;exact(this.alloc _).alloc _
 have aE:m6 q (w.heap.size+1+1+1+1) f g fm m:=by rw[<-n];refine⟨?_,?_,?_,?_⟩<;>(rw[dR (by simp only[cV])];rfl)
 rw[n];clear n;refine wpIn_rangeFunc_ownH rfl a6 (gf:=65) (lb:=#[.pointer (some ⟨w.heap.size+1+1+1+1,0,none⟩)]) rfl ae (enters_of (S.f Tryz.func65) av rfl)
  (yS Fence.wide 7 ae rfl a6 (w.heap.size+1+1+1+1) f g fm m aL aC ai hm q U aE) gP.t (λW l o aT _ h aH _=>gP.b W l o aT h aH) (Below.refl _ _) (λ_=>rfl)
  (λpre W=>qH A C T k (first k) bj w pre W) (λ_ _ _=>False)
  (λs X Y row F G E=>F.step ag G (λr e=>.inr (by have:=(E r e).1;omega)) (K.keep _ _ _ F.j G (λr e=>by have:=(E r e).1;have:=K.size w L;omega)))
  (λ_ _ _ _ _ F _ _=>F) ay
  (λx Q W=>∃z,w.heap.size+5<=z/\W.cell? ⟨z,0,none⟩=some (.int .i64 x.1.1)/\W.cell? ⟨z,1,none⟩=some (.int .i64 x.1.2)/\Q={tmps:=#[.pointer (some ⟨T,0,none⟩),.agg #[.int .i64 k,.int .i64 f,.int .i64 g,.int .i64 fm,.int .i64 m],.pointer (some ⟨w.heap.size,0,none⟩),.pointer (some ⟨w.heap.size+1,0,none⟩),.slice none 0 0,.pointer (some ⟨w.heap.size+1+1+1,0,none⟩),.pointer (some ⟨z,0,none⟩),.map (some (w.heap.size+1+1)),.agg #[.int .i64 k,.int .i64 f,.int .i64 g,.int .i64 fm,.int .i64 m],.func (.func 65) #[] #[.pointer (some ⟨w.heap.size+1+1+1+1,0,none⟩)],.agg #[.int .i64 x.1.1,.int .i64 x.1.2],undef,undef,undef,undef,undef,undef,undef,undef,undef,undef],defers:=[]})
  (λx Q _ X Y row F G E=>by obtain⟨z,ap,aq,ar,au⟩:=F;exact⟨z,ap,cell_kept aq G (λr e=>(E r e).2),cell_kept ar G (λr e=>(E r e).2),au⟩) ?assign ?body ?done ?stop
 case assign=>
  rintro l pre x W aV J M;have V:=J.dD;gi_wp2
  refine M _ _ ((KeepsOthers.alloc _ _).from _) (gP.grown (dU _ _ none) aF) (J.step ag (dU _ _ none) (λr e=>by cases e) (K.keep _ _ none J.j bT lV)) ⟨W.heap.size,V,dR rfl,dR rfl,rfl⟩
 case body=>
  rintro l pre x Q W a7 a9 br ⟨z,a1,bb,bc,rfl⟩ aM;have aO:(ao A).follows .mixedOrders=true:=av;have aY:=br.t2;have c3:=br.t3;have aa:=br.t5;have V:=br.dD;have aB:C W.drew:=K.keep _ _ none br.j ⟨rfl,rfl,rfl,bg,λ_ _ _=>rfl⟩ lV;have ah:∀b,w.heap.size<=b->some b≠some T:=λb p e=>by cases e;omega
  gi_wp2
  gi_region_with_o (first|(refine⟨trivial,?_⟩;gi_at_call 32;refine(CallsIn.inRound l (callsIn_wide.2 (si K aK aP p E x.1.1 x.1.2 x.2.1 x.2.2 _ (by first|exact br.j|exact aB)))).mono ?_;rintro e aW ⟨rfl,aA,R⟩;have aZ:=R.cell (a:=⟨w.heap.size+1+1+1,0,none⟩) aa (ah _ dT);obtain⟨bf,ba,az,I,ak⟩:=QK (x:=x) K p L br aM aA R;clear R)|(refine⟨trivial,?_⟩;gi_at_call 33;refine(CallsIn.inRound l (callsIn_wide.2 (oT _ _))).mono ?_;rintro e aX ⟨rfl,rfl⟩))
  all_goals (try gi_wp2)
  all_goals exact⟨(KeepsFrom.of_grownBy I (λj e=>by cases e;omega)).trans (KeepsFrom.of_grownBy ak (λj e=>by cases e;omega)),(gP.grown I (ah _ U)).t (gP.grown ak (λe=>by have:=bD e;omega)),az⟩
 case done=>
  rintro D ys W a2 rfl br M;have own:=br.own;have V:=br.dD;have a3:=own.lt;have hlen:=Cc f fm m ai (g-f+1);have aO:=own.size_le;have aN:Maps.size (mG (first k) bj (hN f fm m (g-f+1)))<=maxLen:=kj;have aG:Maps.size (mG (first k) bj (hN f fm m (g-f+1)))*8<=140737488355328:=U;have aS:SeqGives Fence.wide 4 (ao A) 85 #[.pointer (some ⟨W.heap.size,0,none⟩)] encZ (λu=>u.Perm (intKeys (mG (first k) bj (hN f fm m (g-f+1))))) (Maps.size (mG (first k) bj (hN f fm m (g-f+1)))) (W.alloc (.cells #[.map (some (w.heap.size+1+1))] 152)):=
   AnyZI.keys_gives (ρ:=wR) {(Ds:SlLaysZI.n7 (ao A) wR)with} Fence.wide _ trivial rfl U W.heap.size (w.heap.size+1+1) _ _ _ aF aF (own.alloc _)
  have am:∀P W,CallsIn Fence.wide 7 (ao A) 64 #[.map P] W λe w'=>e=.returned (.func (.func 85) #[] #[.pointer (some ⟨W.heap.size,0,none⟩)])/\w'=W.alloc (.cells #[.map P] 152):=λP W=>AnyZI.keys_in (Ds:SlLaysZI.n7 (ao A) wR) Fence.wide 7 trivial rfl P W
  have ad:=AnyZI.sorted_in (O':SlLaysZI.n6 (ao A) AK) Fence.wide 7 trivial trivial trivial trivial rfl U (Pa _) (enters_of (S.f Tryz.func84) av rfl) 85 #[.pointer (some ⟨W.heap.size,0,none⟩)] trivial (enters_of (S.f Tryz.func85) av rfl) _ _ aN aG _ aS;change CallsIn _ _ (ao A) 63 _ _ _ at ad;have a4:Fence.wide.fn 64:=trivial;have a5:Fence.wide.fn 63:=trivial;have aa:=br.t5;gi_wp2_with (first
   |(gi_at_call 64;refine(am _ _).mono ?_;rintro e w' ⟨rfl,rfl⟩)
   |(gi_at_call 63;refine ad.mono ?_;rintro e w' ⟨v,u,rfl,aD,aR,aQ,p⟩))
  have ax:D<W.heap.size:=(Array.getElem?_eq_some_iff.1 M).1;have af:w'.heap[D]?=some (.deferred (some [])):=(p.block D cH).trans ((Below.heap_alloc _ _ D ax).trans M);have I:W.grownBy w' none:=(dU W (.cells #[.map (some (w.heap.size+1+1))] 152) none).trans ⟨p.os,p.tape,p.output,p.size,λi J _=>p.block i J⟩;have aj:w'.grownBy (w'.putObj D (.deferred none)) (some D):=grownBy_putObj' _ _ _;have a0:B<=w.heap.size:=K.size w L;refine⟨aF,.inl ⟨_,_,rfl,run_takeDeferred af,?_⟩⟩;refine⟨_,results_tmp rfl _ _ _,?_⟩;exact⟨v,u,rfl,aD,ownsRow_base_a (ownsRow_putObj aR _ af rfl) cH,aQ,K.keep _ _ (some D) (K.keep _ _ none br.j I lV) aj (λb e=>by cases e;omega),ng (ng br.fY I (λr e=>by cases e)) aj (λr e=>by cases e;right;omega)⟩
 case stop=>
  rintro D c pre W _ _ h _;exact h.elim
end
end Go.aO
