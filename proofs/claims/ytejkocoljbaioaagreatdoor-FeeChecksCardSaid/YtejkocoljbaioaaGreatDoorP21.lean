/- A part. -/
import Derived.Test.YtejkocoljbaioaaGreatDoorP20
set_option maxHeartbeats 8000000
set_option maxRecDepth 100000
set_option linter.all false
namespace Go.aO
attribute [local go_sem] Oper.semAt_some
open Go.Proofs Go.RowKit Go.Maps Go.Shelf
section
variable{A:Array Func}
def Cc(d fm c:Nat)(f:c<120):∀n,(hN d fm c n).length<=n*120
 | 0=>bg
 |n+1=>by
  have:=Cc d fm c f n;rw[hN,List.length_append];have g:(nu fm (d+n) (c+1-max (d+n) fm)).length<=120:=by simp[nu];omega
  omega
def QN[S:Std A]{F:World->Prop}{T B aq aX ad cA:Nat}{first:Nat->Int}(K:pB F T B aq aX ad cA first){k:Nat}(aN:k<ad)(aS:ad<=1000){bj:Nat->Int}(u:∀d,0<=bj d/\bj d<=1000000)(G:pA A F T k bj)(f g fm p:Nat)(aO:f<=g)(aG:g<120)(al:p<120)(hm:fm<120)(w:World)(P:F w):
 CallsIn Fence.wide 8 (ao A) 56 #[.pointer (some ⟨T,0,none⟩),.agg #[ah k,ah f,ah g,ah fm,ah p]] w λe w'=>∃(v:Value) (C:List Int),e=.returned v/\C.Perm (intKeys (mG (first k) bj (hN f fm p (g-f+1))))/\
  w'.ownsRow w.heap.size 3 1 v C.length ((C.mergeSort (λx y=>decide (x<=y))).map encZ)/\(v=.slice none 0 0↔C = [])/\F w'/\w.grownBy w' (some T):=by
 have ba:=@run_makeMap (ao A);have az:Fence.wide.fn 58:=trivial;have ag:Fence.wide.fn 78:=trivial;have aj:T<w.heap.size:=by have:=K.lt;have:=K.size w P;omega
 refine callsIn_of_wp_marks (S.f Tryz.func56) rfl trivial ?_ rfl;simp only[Tryz.ntmps56,List.size_toArray,List.length_cons,List.length_nil,Nat.reduceAdd,Nat.reduceSub,Array.replicate_succ,Array.replicate_zero,List.push_toArray,List.append_toArray,List.nil_append,List.cons_append];gi_wp2_with (gi_at_call 58;refine(yR Fence.wide 7 az rfl _ _ _ _ _ _).mono ?_;rintro e w' ⟨rfl,rfl⟩)
 obtain⟨z,q⟩:∃z,(((((w.alloc (.cells #[.pointer (some ⟨T,0,none⟩)] 76)).alloc (.cells #[ah k,ah f,ah g,ah fm,ah p] 31)).alloc (.map #[] 0)).alloc (.cells #[.map (some (w.heap.size+1+1))] 160)).alloc (.cells #[ah k,ah f,ah g,ah fm,ah p] 31))=z:=⟨_,rfl⟩
 have bh:z.heap.size=w.heap.size+5:=by rw[<-q];simp
 have aL:w.grownBy z (some T):=by rw[<-q];exact((((dU w _ _).trans bT).trans bT).trans bT).trans bT
 have aM:w.grownBy z none:=by rw[<-q];exact((((dU w _ _).trans bT).trans bT).trans bT).trans bT
 have aB:qH A F T k (first k) bj w [] z:=by
  refine⟨?_,?_,?_,?_,K.keep _ _ none P aM lV,aL,U⟩
  .rw[<-q,hD _ _ _ (by simp only[cV];omega),hD _ _ _ (by simp only[cV];omega),hD _ _ _ (by simp only[cV];omega),hD _ _ _ (by simp only[cV];omega),dR rfl];rfl
  .rw[<-q,hD _ _ _ (by simp only[cV];omega),hD _ _ _ (by simp only[cV];omega),hD _ _ _ (by simp only[cV];omega),dR (by simp only[cV])];rfl
  .rw[<-q,hD _ _ _ (by simp only[cV];omega),dR (by simp only[cV])];rfl
  .rw[<-q]
   have:=World.ownsMap_made ((w.alloc (.cells #[.pointer (some ⟨T,0,none⟩)] 76)).alloc (.cells #[ah k,ah f,ah g,ah fm,ah p] 31)) (ao A) 3 (plainElem (H:=Unit) (ao A) 4);simp only[cV]at this;exact(this.alloc _).alloc _
 have aI:m6 z (w.heap.size+1+1+1+1) f g fm p:=by rw[<-q];refine⟨?_,?_,?_,?_⟩<;>(rw[dR (by simp only[cV])];rfl)
 rw[q];clear q;refine wpIn_rangeFunc_ownH rfl a6 (gf:=78) (lb:=#[.pointer (some ⟨w.heap.size+1+1+1+1,0,none⟩)]) rfl ag (enters_of (S.f Tryz.func78) av rfl)
  (yS Fence.wide 7 ag rfl a6 (w.heap.size+1+1+1+1) f g fm p aO aG al hm z U aI) gP.t (λW l o aW _ h aK _=>gP.b W l o aW h aK) (Below.refl _ _) (λ_=>rfl)
  (λpre W=>qH A F T k (first k) bj w pre W) (λ_ _ _=>False)
  (λs X Y row I J G=>I.step aj J (λr e=>.inr (by have:=(G r e).1;omega)) (K.keep _ _ _ I.j J (λr e=>by have:=(G r e).1;have:=K.size w P;omega)))
  (λ_ _ _ _ _ I _ _=>I) aB
  (λx V W=>∃E,w.heap.size+5<=E/\W.cell? ⟨E,0,none⟩=some (ah x.1.1)/\W.cell? ⟨E,1,none⟩=some (ah x.1.2)/\V={tmps:=#[.pointer (some ⟨T,0,none⟩),.agg #[ah k,ah f,ah g,ah fm,ah p],.pointer (some ⟨w.heap.size,0,none⟩),.pointer (some ⟨w.heap.size+1,0,none⟩),.slice none 0 0,.pointer (some ⟨w.heap.size+1+1+1,0,none⟩),.pointer (some ⟨E,0,none⟩),.map (some (w.heap.size+1+1)),.agg #[ah k,ah f,ah g,ah fm,ah p],.func (.func 78) #[] #[.pointer (some ⟨w.heap.size+1+1+1+1,0,none⟩)],.agg #[ah x.1.1,ah x.1.2],undef,undef,undef,undef,undef,undef,undef,undef,undef,undef],defers:=[]})
  (λx V _ X Y row I J G=>by obtain⟨E,au,aw,ax,ay⟩:=I;exact⟨E,au,cell_kept aw J (λr e=>(G r e).2),cell_kept ax J (λr e=>(G r e).2),ay⟩) ?assign ?body ?done ?stop
 case assign=>
  rintro l pre x W aY M Q;have aa:=M.dD;gi_wp2
  refine Q _ _ ((KeepsOthers.alloc _ _).from _) (gP.grown (dU _ _ none) aF) (M.step aj (dU _ _ none) (λr e=>by cases e) (K.keep _ _ none M.j bT lV)) ⟨W.heap.size,aa,dR rfl,dR rfl,rfl⟩
 case body=>
  rintro l pre x V W a9 bb br ⟨E,a4,bd,bf,rfl⟩ aP;have aR:(ao A).follows .mixedOrders=true:=av;have a1:=br.t2;have c3:=br.t3;have ae:=br.t5;have aa:=br.dD;have aE:F W.drew:=K.keep _ _ none br.j ⟨rfl,rfl,rfl,bg,λ_ _ _=>rfl⟩ lV;have ak:∀b,w.heap.size<=b->some b≠some T:=λb u e=>by cases e;omega
  gi_wp2
  gi_region_with_o (first|(refine⟨trivial,?_⟩;gi_at_call 47;refine(CallsIn.inRound l (callsIn_wide.2 (si K aN aS u G x.1.1 x.1.2 x.2.1 x.2.2 _ (by first|exact br.j|exact aE)))).mono ?_;rintro e aZ ⟨rfl,aD,Z⟩;have a2:=Z.cell (a:=⟨w.heap.size+1+1+1,0,none⟩) ae (ak _ dT);obtain⟨bi,bc,aC,L,ap⟩:=QK (x:=x) K u P br aP aD Z;clear Z)|(refine⟨trivial,?_⟩;gi_at_call 48;refine(CallsIn.inRound l (callsIn_wide.2 (oT _ _))).mono ?_;rintro e a0 ⟨rfl,rfl⟩))
  all_goals (try gi_wp2)
  all_goals exact⟨(KeepsFrom.of_grownBy L (λj e=>by cases e;omega)).trans (KeepsFrom.of_grownBy ap (λj e=>by cases e;omega)),(gP.grown L (ak _ U)).t (gP.grown ap (λe=>by have:=bD e;omega)),aC⟩
 case done=>
  rintro D ys W a5 rfl br Q;have own:=br.own;have aa:=br.dD;have hlen:=Cc f fm p al (g-f+1);have aR:=own.size_le;have aQ:Maps.size (mG (first k) bj (hN f fm p (g-f+1)))<=maxLen:=kj;have aJ:Maps.size (mG (first k) bj (hN f fm p (g-f+1)))*8<=140737488355328:=U;have aV:SeqGives Fence.wide 4 (ao A) 93 #[.pointer (some ⟨W.heap.size,0,none⟩)] encZ (λC=>C.Perm (intKeys (mG (first k) bj (hN f fm p (g-f+1))))) (Maps.size (mG (first k) bj (hN f fm p (g-f+1)))) (W.alloc (.cells #[.map (some (w.heap.size+1+1))] 160)):=
   AnyZI.keys_gives (ρ:=wR) {(Ds:SlLaysZI.n7 (ao A) wR)with} Fence.wide _ trivial rfl U W.heap.size (w.heap.size+1+1) _ _ _ aF aF (own.alloc _)
  have ar:∀R W,CallsIn Fence.wide 7 (ao A) 77 #[.map R] W λe w'=>e=.returned (.func (.func 93) #[] #[.pointer (some ⟨W.heap.size,0,none⟩)])/\w'=W.alloc (.cells #[.map R] 160):=λR W=>AnyZI.keys_in (Ds:SlLaysZI.n7 (ao A) wR) Fence.wide 7 trivial rfl R W
  have af:=AnyZI.sorted_in (O':SlLaysZI.n6 (ao A) AK) Fence.wide 7 trivial trivial trivial trivial rfl U (Pa _) (enters_of (S.f Tryz.func92) av rfl) 93 #[.pointer (some ⟨W.heap.size,0,none⟩)] trivial (enters_of (S.f Tryz.func93) av rfl) _ _ aQ aJ _ aV;change CallsIn _ _ (ao A) 76 _ _ _ at af;have a7:Fence.wide.fn 77:=trivial;have a8:Fence.wide.fn 76:=trivial;have ae:=br.t5;gi_wp2_with (first
   |(gi_at_call 77;refine(ar _ _).mono ?_;rintro e w' ⟨rfl,rfl⟩)
   |(gi_at_call 76;refine af.mono ?_;rintro e w' ⟨v,C,rfl,aH,aU,aT,u⟩))
  have aA:D<W.heap.size:=(Array.getElem?_eq_some_iff.1 Q).1;have ai:w'.heap[D]?=some (.deferred (some [])):=(u.block D cH).trans ((Below.heap_alloc _ _ D aA).trans Q);have L:W.grownBy w' none:=(dU W (.cells #[.map (some (w.heap.size+1+1))] 160) none).trans ⟨u.os,u.tape,u.output,u.size,λi M _=>u.block i M⟩;have am:w'.grownBy (w'.putObj D (.deferred none)) (some D):=grownBy_putObj' _ _ _;have a3:B<=w.heap.size:=K.size w P;refine⟨aF,.inl ⟨_,_,rfl,run_takeDeferred ai,?_⟩⟩;refine⟨_,results_tmp rfl _ _ _,?_⟩;exact⟨v,C,rfl,aH,ownsRow_base_a (ownsRow_putObj aU _ ai rfl) cH,aT,K.keep _ _ (some D) (K.keep _ _ none br.j L lV) am (λb e=>by cases e;omega),ng (ng br.fY L (λr e=>by cases e)) am (λr e=>by cases e;right;omega)⟩
 case stop=>
  rintro D c pre W _ _ h _;exact h.elim
end
end Go.aO
