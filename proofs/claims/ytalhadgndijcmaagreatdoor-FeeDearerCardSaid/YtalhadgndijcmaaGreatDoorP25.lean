/- Part 26 of a law on fees: no conditions. -/
import Derived.Test.YtalhadgndijcmaaGreatDoorP24
set_option maxHeartbeats 8000000
set_option maxRecDepth 100000
set_option linter.all false
namespace Go.aN
attribute [local go_sem] Oper.semAt_some
open Go.Proofs Go.RowKit Go.Maps Go.Shelf
section
variable{A:Array Func}
theorem zI(d fm c:Nat)(f:c<120): ∀n,(gy d fm c n).length<=n*120
 | 0=>Pk
 | n+1=>by
  have:=zI d fm c f n;rw[gy,List.length_append];have g:(lV fm (d+n) (c+1-max (d+n) fm)).length<=120:=by simp[lV];omega
  omega
theorem Nn[S:Std A]{C:World->Prop}{T B al aR V eT:Nat}{first:Nat->Int}(K:nK C T B al aR V eT first){k:Nat}(aH:k<V)(aM:V<=1000){ba:Nat->Int}(p:∀d,0<=ba d/\ba d<=1000000)(E:nJ A C T k ba)(f g fm m:Nat)(aI:f<=g)(aA:g<120)(ai:m<120)(hm:fm<120)(w:World)(L:C w):
 CallsIn Fence.wide 8 (ag A) 61 #[.pointer (some ⟨T,0,none⟩),.agg #[.int .i64 k,.int .i64 f,.int .i64 g,.int .i64 fm,.int .i64 m]] w λe w'=>∃(v:Value) (u:List Int),e=.returned v/\u.Perm (intKeys (lf (first k) ba (gy f fm m (g-f+1))))/\
  w'.ownsRow w.heap.size 3 1 v u.length ((u.mergeSort (λx y=>decide (x<=y))).map encZ)/\(v=.slice none 0 0↔u = [])/\C w'/\w.grownBy w' (some T):=by
 have a4:=@run_makeMap (ag A);have au:Fence.wide.fn 65:=trivial;have ad:Fence.wide.fn 89:=trivial;have af:T<w.heap.size:=by have:=K.lt;have:=K.size w L;omega
 refine callsIn_of_wp_marks (S.f Tryz.func61) rfl trivial ?_ rfl;simp only[Tryz.ntmps61,List.size_toArray,List.length_cons,List.length_nil,Nat.reduceAdd,Nat.reduceSub,Array.replicate_succ,Array.replicate_zero,List.push_toArray,List.append_toArray,List.nil_append,List.cons_append];gi_wp2_with (gi_at_call 65;refine(wv Fence.wide 7 au rfl _ _ _ _ _ _).mono ?_;rintro e w' ⟨rfl,rfl⟩)
 obtain⟨q,n⟩ : ∃q,(((((w.alloc (.cells #[.pointer (some ⟨T,0,none⟩)] 82)).alloc (.cells #[.int .i64 k,.int .i64 f,.int .i64 g,.int .i64 fm,.int .i64 m] 54)).alloc (.map #[] 0)).alloc (.cells #[.map (some (w.heap.size+1+1))] 173)).alloc (.cells #[.int .i64 k,.int .i64 f,.int .i64 g,.int .i64 fm,.int .i64 m] 54))=q:=⟨_,rfl⟩
 have a9:q.heap.size=w.heap.size+5:=by rw[<-n];simp
 have aF:w.grownBy q (some T):=by rw[<-n];exact((((Pv w _ _).trans Pn).trans Pn).trans Pn).trans Pn
 have aG:w.grownBy q none:=by rw[<-n];exact((((Pv w _ _).trans Pn).trans Pn).trans Pn).trans Pn
 have aw:oX A C T k (first k) ba w [] q:=by
  refine⟨?_,?_,?_,?_,K.keep _ _ none L aG (by intro b e;cases e),aF,by omega⟩
  . rw[<-n,Pz _ _ _ (by simp only[Pp];omega),Pz _ _ _ (by simp only[Pp];omega),Pz _ _ _ (by simp only[Pp];omega),Pz _ _ _ (by simp only[Pp];omega),Pr rfl];rfl
  . rw[<-n,Pz _ _ _ (by simp only[Pp];omega),Pz _ _ _ (by simp only[Pp];omega),Pz _ _ _ (by simp only[Pp];omega),Pr (by simp only[Pp])];rfl
  . rw[<-n,Pz _ _ _ (by simp only[Pp];omega),Pr (by simp only[Pp])];rfl
  . rw[<-n]
    have:=World.ownsMap_made ((w.alloc (.cells #[.pointer (some ⟨T,0,none⟩)] 82)).alloc (.cells #[.int .i64 k,.int .i64 f,.int .i64 g,.int .i64 fm,.int .i64 m] 54)) (ag A) 3 (plainElem (H:=Unit) (ag A) 4);simp only[Pp] at this;exact(this.alloc _).alloc _
 have aC:lH q (w.heap.size+1+1+1+1) f g fm m:=by rw[<-n];refine⟨?_,?_,?_,?_⟩<;>(rw[Pr (by simp only[Pp])];rfl)
 rw[n];clear n;refine wpIn_rangeFunc_ownH rfl (by decide) (gf:=89) (lb:=#[.pointer (some ⟨w.heap.size+1+1+1+1,0,none⟩)]) rfl ad (enters_of (S.f Tryz.func89) (by kernel_rfl) rfl)
  (wx Fence.wide 7 ad rfl (by decide) (w.heap.size+1+1+1+1) f g fm m aI aA ai hm q (by omega) aC) fH.t (λW l o aQ _ h aE _=>fH.b W l o aQ h aE) (Below.refl _ _) (λ_=>rfl)
  (λpre W=>oX A C T k (first k) ba w pre W) (λ_ _ _=>False)
  (λs X Y row F G E=>F.step af G (λr e=>.inr (by have:=(E r e).1;omega)) (K.keep _ _ _ F.j G (λr e=>by have:=(E r e).1;have:=K.size w L;omega)))
  (λ_ _ _ _ _ F _ _=>F) aw
  (λx Q W=>∃z,w.heap.size+5<=z/\W.cell? ⟨z,0,none⟩=some (.int .i64 x.1.1)/\W.cell? ⟨z,1,none⟩=some (.int .i64 x.1.2)/\Q={tmps:=#[.pointer (some ⟨T,0,none⟩),.agg #[.int .i64 k,.int .i64 f,.int .i64 g,.int .i64 fm,.int .i64 m],.pointer (some ⟨w.heap.size,0,none⟩),.pointer (some ⟨w.heap.size+1,0,none⟩),.slice none 0 0,.pointer (some ⟨w.heap.size+1+1+1,0,none⟩),.pointer (some ⟨z,0,none⟩),.map (some (w.heap.size+1+1)),.agg #[.int .i64 k,.int .i64 f,.int .i64 g,.int .i64 fm,.int .i64 m],.func (.func 89) #[] #[.pointer (some ⟨w.heap.size+1+1+1+1,0,none⟩)],.agg #[.int .i64 x.1.1,.int .i64 x.1.2],undef,undef,undef,undef,undef,undef,undef,undef,undef,undef],defers:=[]})
  (λx Q _ X Y row F G E=>by obtain⟨z,ao,ap,aq,ar⟩:=F;exact⟨z,ao,cell_kept ap G (λr e=>(E r e).2),cell_kept aq G (λr e=>(E r e).2),ar⟩) ?assign ?body ?done ?stop
 case assign=>
  rintro l pre x W aS J M;have U:=J.dm;gi_wp2
  refine M _ _ ((KeepsOthers.alloc _ _).from _) (fH.grown (Pv _ _ none) (by simp)) (J.step af (Pv _ _ none) (λr e=>by cases e) (K.keep _ _ none J.j Pn (by intro b e;cases e))) ⟨W.heap.size,U,Pr rfl,Pr rfl,rfl⟩
 case body=>
  rintro l pre x Q W a3 a5 bj ⟨z,aY,a7,a8,rfl⟩ aJ;have aL:(ag A).follows .mixedOrders=true:=by kernel_rfl
  have aV:=bj.t2;have c3:=bj.t3;have Z:=bj.t5;have U:=bj.dm;have az:C W.drew:=K.keep _ _ none bj.j ⟨rfl,rfl,rfl,Pk,λ_ _ _=>rfl⟩ (by intro b e;cases e);have ah:∀b,w.heap.size<=b->some b≠some T:=λb p e=>by cases e;omega
  gi_wp2
  gi_region_with_o (first|(refine⟨trivial,?_⟩;gi_at_call 52;refine(CallsIn.inRound l (callsIn_wide.2 (qs K aH aM p E x.1.1 x.1.2 x.2.1 x.2.2 _ (by first|exact bj.j|exact az)))).mono ?_;rintro e aT ⟨rfl,ay,R⟩;have aW:=R.cell (a:=⟨w.heap.size+1+1+1,0,none⟩) Z (ah _ (by dsimp only;omega));obtain⟨bb,a6,ax,I,ak⟩:=Nk (x:=x) K p L bj aJ ay R;clear R)|(refine⟨trivial,?_⟩;gi_at_call 53;refine(CallsIn.inRound l (callsIn_wide.2 (m' _ _))).mono ?_;rintro e aU ⟨rfl,rfl⟩))
  all_goals (try gi_wp2)
  all_goals exact⟨(KeepsFrom.of_grownBy I (λj e=>by cases e;omega)).trans (KeepsFrom.of_grownBy ak (λj e=>by cases e;omega)),(fH.grown I (ah _ (by omega))).t (fH.grown ak (λe=>by have:=Pm e;omega)),ax⟩
 case done=>
  rintro D ys W aZ rfl bj M;have own:=bj.own;have U:=bj.dm;have a0:=own.lt;have hlen:=zI f fm m ai (g-f+1);have aL:=own.size_le;have aK:Maps.size (lf (first k) ba (gy f fm m (g-f+1)))<=maxLen:=by unfold maxLen;omega
  have aD:Maps.size (lf (first k) ba (gy f fm m (g-f+1)))*8<=140737488355328:=by omega
  have aP:SeqGives Fence.wide 4 (ag A) 106 #[.pointer (some ⟨W.heap.size,0,none⟩)] encZ (λu=>u.Perm (intKeys (lf (first k) ba (gy f fm m (g-f+1))))) (Maps.size (lf (first k) ba (gy f fm m (g-f+1)))) (W.alloc (.cells #[.map (some (w.heap.size+1+1))] 173)):=
   AnyZI.keys_gives (ρ:=uy) {(A1:SlLaysZI.n7 (ag A) uy) with} Fence.wide _ trivial rfl (by omega) W.heap.size (w.heap.size+1+1) _ _ _ (by simp) (by simp) (own.alloc _)
  have am:∀P W,CallsIn Fence.wide 7 (ag A) 88 #[.map P] W λe w'=>e=.returned (.func (.func 106) #[] #[.pointer (some ⟨W.heap.size,0,none⟩)])/\w'=W.alloc (.cells #[.map P] 173):=λP W=>AnyZI.keys_in (A1:SlLaysZI.n7 (ag A) uy) Fence.wide 7 trivial rfl P W
  have aa:=AnyZI.sorted_in (LN:SlLaysZI.n6 (ag A) ym) Fence.wide 7 trivial trivial trivial trivial rfl (by omega) (LO _) (enters_of (S.f Tryz.func105) (by kernel_rfl) rfl) 106 #[.pointer (some ⟨W.heap.size,0,none⟩)] trivial (enters_of (S.f Tryz.func106) (by kernel_rfl) rfl) _ _ aK aD _ aP;change CallsIn _ _ (ag A) 87 _ _ _ at aa;have a1:Fence.wide.fn 88:=trivial;have a2:Fence.wide.fn 87:=trivial;have Z:=bj.t5;gi_wp2_with (first
   | (gi_at_call 88;refine(am _ _).mono ?_;rintro e w' ⟨rfl,rfl⟩)
   | (gi_at_call 87;refine aa.mono ?_;rintro e w' ⟨v,u,rfl,aB,aO,aN,p⟩))
  have av:D<W.heap.size:=(Array.getElem?_eq_some_iff.1 M).1;have ae:w'.heap[D]?=some (.deferred (some [])):=(p.block D (by simp;omega)).trans ((Below.heap_alloc _ _ D av).trans M);have I:W.grownBy w' none:=(Pv W (.cells #[.map (some (w.heap.size+1+1))] 173) none).trans ⟨p.os,p.tape,p.output,p.size,λi J _=>p.block i J⟩;have aj:w'.grownBy (w'.putObj D (.deferred none)) (some D):=grownBy_putObj' _ _ _;have aX:B<=w.heap.size:=K.size w L;refine⟨by simp,.inl ⟨_,_,rfl,run_takeDeferred ae,?_⟩⟩;refine⟨_,results_tmp rfl _ _ _,?_⟩;exact⟨v,u,rfl,aB,ownsRow_base_a (ownsRow_putObj aO _ ae rfl) (by simp;omega),aN,K.keep _ _ (some D) (K.keep _ _ none bj.j I (by intro b e;cases e)) aj (λb e=>by cases e;omega),k4 (k4 bj.e4 I (λr e=>by cases e)) aj (λr e=>by cases e;right;omega)⟩
 case stop=>
  rintro D c pre W _ _ h _;exact h.elim
end
end Go.aN
