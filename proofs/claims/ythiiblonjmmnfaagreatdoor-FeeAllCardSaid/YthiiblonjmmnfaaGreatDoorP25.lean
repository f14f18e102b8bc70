/- Part 26 of a law on fees: no conditions. -/
import Derived.Test.YthiiblonjmmnfaaGreatDoorP24
set_option maxHeartbeats 8000000
set_option maxRecDepth 100000
set_option linter.all false
namespace Go.aN
attribute [local go_sem] Oper.semAt_some
open Go.Proofs Go.RowKit Go.Maps Go.Shelf
section
variable{A:Array Func}
def zI(d fm c:Nat)(f:c<120):∀n,(gy d fm c n).length<=n*120
 | 0=>Pk
 |n+1=>by
  have:=zI d fm c f n;rw[gy,List.length_append];have g:(lV fm (d+n) (c+1-max (d+n) fm)).length<=120:=by simp[lV];omega
  omega
def Nn[S:Std A]{F:World->Prop}{T B ao aT aa eT:Nat}{first:Nat->Int}(K:nK F T B ao aT aa eT first){k:Nat}(aJ:k<aa)(aO:aa<=1000){ba:Nat->Int}(u:∀d,0<=ba d/\ba d<=1000000)(G:nJ A F T k ba)(f g fm p:Nat)(aK:f<=g)(aC:g<120)(ak:p<120)(hm:fm<120)(w:World)(P:F w):
 CallsIn Fence.wide 8 (ag A) 23 #[.pointer (some ⟨T,0,none⟩),.agg #[.int .i64 k,.int .i64 f,.int .i64 g,.int .i64 fm,.int .i64 p]] w λe w'=>∃(v:Value) (C:List Int),e=.returned v/\C.Perm (intKeys (lf (first k) ba (gy f fm p (g-f+1))))/\
  w'.ownsRow w.heap.size 3 1 v C.length ((C.mergeSort (λx y=>decide (x<=y))).map encZ)/\(v=.slice none 0 0↔C = [])/\F w'/\w.grownBy w' (some T):=by
 have a6:=@run_makeMap (ag A);have aw:Fence.wide.fn 25:=trivial;have af:Fence.wide.fn 44:=trivial;have ai:T<w.heap.size:=by have:=K.lt;have:=K.size w P;omega
 refine callsIn_of_wp_marks (S.f Tryz.func23) rfl trivial ?_ rfl;simp only[Tryz.ntmps23,List.size_toArray,List.length_cons,List.length_nil,Nat.reduceAdd,Nat.reduceSub,Array.replicate_succ,Array.replicate_zero,List.push_toArray,List.append_toArray,List.nil_append,List.cons_append];gi_wp2_with (gi_at_call 25;refine(wv Fence.wide 7 aw rfl _ _ _ _ _ _).mono ?_;rintro e w' ⟨rfl,rfl⟩)
 obtain⟨z,q⟩:∃z,(((((w.alloc (.cells #[.pointer (some ⟨T,0,none⟩)] 60)).alloc (.cells #[.int .i64 k,.int .i64 f,.int .i64 g,.int .i64 fm,.int .i64 p] 32)).alloc (.map #[] 0)).alloc (.cells #[.map (some (w.heap.size+1+1))] 120)).alloc (.cells #[.int .i64 k,.int .i64 f,.int .i64 g,.int .i64 fm,.int .i64 p] 32))=z:=⟨_,rfl⟩
 have bc:z.heap.size=w.heap.size+5:=by rw[<-q];simp
 have aH:w.grownBy z (some T):=by rw[<-q];exact((((Pv w _ _).trans Pn).trans Pn).trans Pn).trans Pn
 have aI:w.grownBy z none:=by rw[<-q];exact((((Pv w _ _).trans Pn).trans Pn).trans Pn).trans Pn
 have ay:oX A F T k (first k) ba w [] z:=by
  refine⟨?_,?_,?_,?_,K.keep _ _ none P aI (by intro b e;cases e),aH,by omega⟩
  .rw[<-q,Pz _ _ _ (by simp only[Pp];omega),Pz _ _ _ (by simp only[Pp];omega),Pz _ _ _ (by simp only[Pp];omega),Pz _ _ _ (by simp only[Pp];omega),Pr rfl];rfl
  .rw[<-q,Pz _ _ _ (by simp only[Pp];omega),Pz _ _ _ (by simp only[Pp];omega),Pz _ _ _ (by simp only[Pp];omega),Pr (by simp only[Pp])];rfl
  .rw[<-q,Pz _ _ _ (by simp only[Pp];omega),Pr (by simp only[Pp])];rfl
  .rw[<-q]
   have:=World.ownsMap_made ((w.alloc (.cells #[.pointer (some ⟨T,0,none⟩)] 60)).alloc (.cells #[.int .i64 k,.int .i64 f,.int .i64 g,.int .i64 fm,.int .i64 p] 32)) (ag A) 3 (plainElem (H:=Unit) (ag A) 4);simp only[Pp]at this;exact(this.alloc _).alloc _
 have aE:lH z (w.heap.size+1+1+1+1) f g fm p:=by rw[<-q];refine⟨?_,?_,?_,?_⟩<;>(rw[Pr (by simp only[Pp])];rfl)
 rw[q];clear q;refine wpIn_rangeFunc_ownH rfl (by decide) (gf:=44) (lb:=#[.pointer (some ⟨w.heap.size+1+1+1+1,0,none⟩)]) rfl af (enters_of (S.f Tryz.func44) (by kernel_rfl) rfl)
  (wx Fence.wide 7 af rfl (by decide) (w.heap.size+1+1+1+1) f g fm p aK aC ak hm z (by omega) aE) fH.t (λW l o aS _ h aG _=>fH.b W l o aS h aG) (Below.refl _ _) (λ_=>rfl)
  (λpre W=>oX A F T k (first k) ba w pre W) (λ_ _ _=>False)
  (λs X Y row I J G=>I.step ai J (λr e=>.inr (by have:=(G r e).1;omega)) (K.keep _ _ _ I.j J (λr e=>by have:=(G r e).1;have:=K.size w P;omega)))
  (λ_ _ _ _ _ I _ _=>I) ay
  (λx U W=>∃E,w.heap.size+5<=E/\W.cell? ⟨E,0,none⟩=some (.int .i64 x.1.1)/\W.cell? ⟨E,1,none⟩=some (.int .i64 x.1.2)/\U={tmps:=#[.pointer (some ⟨T,0,none⟩),.agg #[.int .i64 k,.int .i64 f,.int .i64 g,.int .i64 fm,.int .i64 p],.pointer (some ⟨w.heap.size,0,none⟩),.pointer (some ⟨w.heap.size+1,0,none⟩),.slice none 0 0,.pointer (some ⟨w.heap.size+1+1+1,0,none⟩),.pointer (some ⟨E,0,none⟩),.map (some (w.heap.size+1+1)),.agg #[.int .i64 k,.int .i64 f,.int .i64 g,.int .i64 fm,.int .i64 p],.func (.func 44) #[] #[.pointer (some ⟨w.heap.size+1+1+1+1,0,none⟩)],.agg #[.int .i64 x.1.1,.int .i64 x.1.2],undef,undef,undef,undef,undef,undef,undef,undef,undef,undef],defers:=[]})
  (λx U _ X Y row I J G=>by obtain⟨E,aq,ar,au,av⟩:=I;exact⟨E,aq,cell_kept ar J (λr e=>(G r e).2),cell_kept au J (λr e=>(G r e).2),av⟩) ?assign ?body ?done ?stop
 case assign=>
  rintro l pre x W aU M Q;have Z:=M.dm;gi_wp2
  refine Q _ _ ((KeepsOthers.alloc _ _).from _) (fH.grown (Pv _ _ none) (by simp)) (M.step ai (Pv _ _ none) (λr e=>by cases e) (K.keep _ _ none M.j Pn (by intro b e;cases e))) ⟨W.heap.size,Z,Pr rfl,Pr rfl,rfl⟩
 case body=>
  rintro l pre x U W a5 a7 bj ⟨E,a0,a9,bb,rfl⟩ aL;have aN:(ag A).follows .mixedOrders=true:=by kernel_rfl
  have aX:=bj.t2;have c3:=bj.t3;have ad:=bj.t5;have Z:=bj.dm;have aB:F W.drew:=K.keep _ _ none bj.j ⟨rfl,rfl,rfl,Pk,λ_ _ _=>rfl⟩ (by intro b e;cases e);have aj:∀b,w.heap.size<=b->some b≠some T:=λb u e=>by cases e;omega
  gi_wp2
  gi_region_with_o (first|(refine⟨trivial,?_⟩;gi_at_call 20;refine(CallsIn.inRound l (callsIn_wide.2 (qs K aJ aO u G x.1.1 x.1.2 x.2.1 x.2.2 _ (by first|exact bj.j|exact aB)))).mono ?_;rintro e aV ⟨rfl,aA,V⟩;have aY:=V.cell (a:=⟨w.heap.size+1+1+1,0,none⟩) ad (aj _ (by dsimp only;omega));obtain⟨bd,a8,az,L,am⟩:=Nk (x:=x) K u P bj aL aA V;clear V)|(refine⟨trivial,?_⟩;gi_at_call 21;refine(CallsIn.inRound l (callsIn_wide.2 (m' _ _))).mono ?_;rintro e aW ⟨rfl,rfl⟩))
  all_goals (try gi_wp2)
  all_goals exact⟨(KeepsFrom.of_grownBy L (λj e=>by cases e;omega)).trans (KeepsFrom.of_grownBy am (λj e=>by cases e;omega)),(fH.grown L (aj _ (by omega))).t (fH.grown am (λe=>by have:=Pm e;omega)),az⟩
 case done=>
  rintro D ys W a1 rfl bj Q;have own:=bj.own;have Z:=bj.dm;have a2:=own.lt;have hlen:=zI f fm p ak (g-f+1);have aN:=own.size_le;have aM:Maps.size (lf (first k) ba (gy f fm p (g-f+1)))<=maxLen:=by unfold maxLen;omega
  have aF:Maps.size (lf (first k) ba (gy f fm p (g-f+1)))*8<=140737488355328:=by omega
  have aR:SeqGives Fence.wide 4 (ag A) 63 #[.pointer (some ⟨W.heap.size,0,none⟩)] encZ (λC=>C.Perm (intKeys (lf (first k) ba (gy f fm p (g-f+1))))) (Maps.size (lf (first k) ba (gy f fm p (g-f+1)))) (W.alloc (.cells #[.map (some (w.heap.size+1+1))] 120)):=
   AnyZI.keys_gives (ρ:=uy) {(A1:SlLaysZI.n7 (ag A) uy)with} Fence.wide _ trivial rfl (by omega) W.heap.size (w.heap.size+1+1) _ _ _ (by simp) (by simp) (own.alloc _)
  have ap:∀R W,CallsIn Fence.wide 7 (ag A) 42 #[.map R] W λe w'=>e=.returned (.func (.func 63) #[] #[.pointer (some ⟨W.heap.size,0,none⟩)])/\w'=W.alloc (.cells #[.map R] 120):=λR W=>AnyZI.keys_in (A1:SlLaysZI.n7 (ag A) uy) Fence.wide 7 trivial rfl R W
  have ae:=AnyZI.sorted_in (LN:SlLaysZI.n6 (ag A) ym) Fence.wide 7 trivial trivial trivial trivial rfl (by omega) (LO _) (enters_of (S.f Tryz.func62) (by kernel_rfl) rfl) 63 #[.pointer (some ⟨W.heap.size,0,none⟩)] trivial (enters_of (S.f Tryz.func63) (by kernel_rfl) rfl) _ _ aM aF _ aR;change CallsIn _ _ (ag A) 41 _ _ _ at ae;have a3:Fence.wide.fn 42:=trivial;have a4:Fence.wide.fn 41:=trivial;have ad:=bj.t5;gi_wp2_with (first
   |(gi_at_call 42;refine(ap _ _).mono ?_;rintro e w' ⟨rfl,rfl⟩)
   |(gi_at_call 41;refine ae.mono ?_;rintro e w' ⟨v,C,rfl,aD,aQ,aP,u⟩))
  have ax:D<W.heap.size:=(Array.getElem?_eq_some_iff.1 Q).1;have ah:w'.heap[D]?=some (.deferred (some [])):=(u.block D (by simp;omega)).trans ((Below.heap_alloc _ _ D ax).trans Q);have L:W.grownBy w' none:=(Pv W (.cells #[.map (some (w.heap.size+1+1))] 120) none).trans ⟨u.os,u.tape,u.output,u.size,λi M _=>u.block i M⟩;have al:w'.grownBy (w'.putObj D (.deferred none)) (some D):=grownBy_putObj' _ _ _;have aZ:B<=w.heap.size:=K.size w P;refine⟨by simp,.inl ⟨_,_,rfl,run_takeDeferred ah,?_⟩⟩;refine⟨_,results_tmp rfl _ _ _,?_⟩;exact⟨v,C,rfl,aD,ownsRow_base_a (ownsRow_putObj aQ _ ah rfl) (by simp;omega),aP,K.keep _ _ (some D) (K.keep _ _ none bj.j L (by intro b e;cases e)) al (λb e=>by cases e;omega),k4 (k4 bj.e4 L (λr e=>by cases e)) al (λr e=>by cases e;right;omega)⟩
 case stop=>
  rintro D c pre W _ _ h _;exact h.elim
end
end Go.aN
