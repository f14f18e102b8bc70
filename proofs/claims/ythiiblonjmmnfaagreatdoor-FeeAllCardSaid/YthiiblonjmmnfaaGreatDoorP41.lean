/- Part 42 of a law on fees: no conditions. -/
import Derived.Test.YthiiblonjmmnfaaGreatDoorP40
import Derived.Test.YthiiblonjmmnfaaGreatDoorRows
import Derived.Test.YthiiblonjmmnfaaGreatDoorTie
import Derived.SevenTiedAt
set_option maxHeartbeats 8000000
set_option maxRecDepth 100000
set_option linter.all false
namespace Go.aN
attribute [-simp] Go.Sem.runT_eq
open Go.ChangeShapes Go.WideShapes Go.ChangeAt Go.RowKit Go.Proofs Go.Conc Go.ConcN
open Go.ConcM (OsLater)
def jC.own:ownKnob Tryz.prog.godebug=none:=by kernel_rfl
def jC.laidOut:laidOutB Tryz.prog=true:=by kernel_rfl
def jC.wz:Tryz.prog.cellsOf 3=1:=by kernel_rfl
def jC.underlying3:Tryz.prog.underlying 3=some (.int .i64):=by kernel_rfl
def jC.underlying4:Tryz.prog.underlying 4=some .bool:=by kernel_rfl
def jC.underlying22:Tryz.prog.underlying 22=some (.slice 3):=by kernel_rfl
abbrev A8:List (String×DataW Unit):=[("errors.errorType",Go.Proofs.YthiiblonjmmnfaaGreatDoor.Rows.laid_errors_errorType)]
noncomputable def pn(os:Os):World:=
 let aI:=World.holding Tryz.prog os ⟨#[],#[],[]⟩
 {aI with heap:=aI.heap.modify 0 fun
  |.cells _ t frozen=>.cells #[.iface 204 (.agg #[.pointer (some ⟨1,110,none⟩)])] t frozen
  |o=>o}
def Ia(os:Os)(args:Array Value):laidMetH Tryz.prog A8 ((pn os).forCall (λ_ _=>0) ⟨#[],args,[]⟩).memory:=
 laidMetH_of_parts (laidMet_nil _ _) (by kernel_rfl)
def Ic{f:FuncId}{fn:Func}{spec:ChangeSpec}(V:fn.params=#[22])(ax:fn.resultTypes=#[4])(Y:spec.vars = [])(az:∀(H:Type) (d:DataW H),spec.fn H [d]={results:=[.lit (.bool true)],args:=[d]})(ak:f≠2)(ae:¬bS.K.fn f)(af:dX bS f=none)(ah:∀(w:World) (L:Value),mP w L->Calls bS f #[L] w λe _=>e=.returned (.bool true)){H:Type}{r:TypeId×Value->H}{W:World}{base:Nat}{args:Array Value}{S gs:List (DataW H)}{Z:List MemPlace}(al:Tryz.prog.globals.size<=W.heap.size)(X:∀(j:Nat) t v,fn.params[j]?=some t->args[j]?=some v->Value.okWide Tryz.prog W .any base t v)(hW:DataW.Whole r Tryz.prog fn.params.toList spec.vars false W args.toList S gs Z):
 ∃M last o w' a',runNT Tryz.prog (M+1) (solo (G (Frame.enter Tryz.prog f args .normal) []) W) #[]=(.ended o w',a')/\runN Tryz.prog M (solo (G (Frame.enter Tryz.prog f args .normal) []) W)=.next last/\
  step Tryz.prog last=.ended o w'/\Conc.Good Tryz.prog (λv dt=>spec.post r Tryz.prog fn false true false false W args v {dt with os:=W.os}/\OsLater W.os dt.os) last o w' a':=by
 have K:=hW;obtain⟨p,q,ad,T,rfl,_,_⟩:=hW;have gS:DataW.TrodAll r Tryz.prog W 0 (λ_=>true) true fn.params.toList args.toList S p:=ad;rw[V]at gS X;obtain⟨v0,d0,rfl,rfl,u⟩:=trodAll_one gS;rw[Y]at T;obtain⟨rfl,rfl⟩:=trodVars_none T;have E:=X 0 22 v0 rfl rfl;obtain⟨a0,len,cap,rfl⟩:=okWide_slice jC.underlying22 E;have aa:=u;obtain⟨fuel,aj⟩:=u;simp only[List.append_nil]at K;have ap:∀x∈p,x.block<W.heap.size:=λx aB=>by simpa using K.lt x aB
 have ag:∀(dt:World),Below W.heap.size W dt->DataW.Trod r Tryz.prog dt 0 (λb=>decide (b<W.heap.size)) true 22 (.slice a0 len cap) d0 p:=
  λdt ar=>Below.trod jC.laidOut (by kernel_rfl) (of_decide_eq_true (by kernel_rfl)) aa ar ap
 have row:∀a,a0=some a->a.spot=none/\∃d e g,W.heap[a.block]?=some (.cells d e g):=by
  rintro a rfl;have I:Cell.okWide Tryz.prog W .any base 22 (.slice (some a) len cap):=by unfold Value.okWide at E;rw[jC.underlying22]at E;exact E
  unfold Cell.okWide at I;rw[jC.underlying22]at I;have J:Cell.ok Tryz.prog W .any base 22 (.slice (some a) len cap):=I;unfold Cell.ok at J;rw[jC.underlying22]at J;obtain⟨_,_,_,D,row,cells,Q,_⟩:=J;refine⟨D,?_⟩;unfold World.shape? at Q;split at Q
  .rename_i c e g am
   exact⟨_,_,_,am⟩
  .cases Q
 have au:mP W (.slice a0 len cap):=by
  rcases open_ints jC.underlying22 jC.underlying3 jC.wz aj with⟨l,_⟩|⟨a,aI,aF,i,l,_,ao,hm,R,_,ai,aA⟩
  .simp[Value.cells]at l
   obtain⟨rfl,rfl,rfl⟩:=l;exact .inl rfl
  .simp[Value.cells]at l
   obtain⟨rfl,rfl,rfl⟩:=l;obtain⟨D,d,e,g,hd⟩:=row a rfl;obtain⟨b,off,s⟩:=a;dsimp only at D hd;subst D;have aH:len<=i.length:=by rw[R];simp;omega
   refine .inr ⟨b,off,len,cap,λj=>i.getD j 0,rfl,ao,hm,bp hd,λj aG=>?_⟩;have P:j<i.length:=by omega
   have aq:i.getD j 0∈i:=by rw[List.getD_eq_getElem?_getD,List.getElem?_eq_getElem P];exact List.getElem_mem P
   have key:∀z∈i,-9223372036854775808<=z/\z<=9223372036854775807:=λz R=>by have:=aA z R;simp[Lit.wf,IntKind.min,IntKind.max,IntKind.signed,IntKind.bits]at this;omega
   refine⟨?_,key _ aq⟩;have B:=ai j P;unfold Addr.add at B;split at B
   .rename_i u
    subst u;exact B
   .exact B
 obtain⟨M,last,o,w',a',r1,aC,aD,aE⟩:=Ie ak ae af al au (λb off n c e=>by cases e;exact(row _ rfl).2) ah
 obtain⟨v,av,⟨rfl,C,aw⟩,ay⟩:=aE;refine⟨M,last,o,w',a',r1,aC,aD,_,av,⟨?_,C.os⟩,ay⟩;have U:Below W.heap.size W {w' with os:=W.os}:=⟨rfl,C.tape,C.output,C.size,aw⟩
 have F:spec.fn H ([d0]++[])={results:=[.lit (.bool true)],args:=[d0]}:=az H d0;refine⟨_,_,_,[],p,[],K,?_,?_,?_,U.frame _,λh=>by cases h⟩
 .rw[F,ax];exact trodAll_mk1 (shut_bool jC.underlying4 true)
 .rw[F,V];exact trodAll_mk1 (ag _ U)
 .rw[F,Y];rfl
def O9{f:FuncId}{fn:Func}{spec:ChangeSpec}(T:Tryz.prog.funcs[f]?=some fn)(W:fn.params=#[22])(Y:fn.resultTypes=#[4])(ag:spec.vars = [])(aa:∀(H:Type) (d:DataW H),spec.fn H [d]={results:=[.lit (.bool true)],args:=[d]})(S:f≠2)(K:¬bS.K.fn f)(P:dX bS f=none)(Q:∀(w:World) (L:Value),mP w L->Calls bS f #[L] w λe _=>e=.returned (.bool true))(os:Os)(aj:os.Started)(H:Type)(c:TypeId×Value->H)(F:Stop.Interp)(ae:((pn os).forCall (λ_ _=>0) ⟨#[],#[.slice none 0 0],[]⟩).variablesB Tryz.prog=true)(X:(((pn os).forCall (λ_ _=>0) ⟨#[],#[.slice none 0 0],[]⟩).heap.toList.drop Tryz.prog.globals.size).take ((begin Tryz.prog (λ_ _=>0) default).world.heap.size-Tryz.prog.globals.size)=(begin Tryz.prog (λ_ _=>0) default).world.heap.toList.drop Tryz.prog.globals.size)(g:Input.okWideB Tryz.prog ((pn os).forCall (λ_ _=>0) ⟨#[],#[.slice none 0 0],[]⟩) f ⟨#[],#[.slice none 0 0],[]⟩=true)(h:spec.preB c Tryz.prog fn [] false ((pn os).forCall (λ_ _=>0) ⟨#[],#[.slice none 0 0],[]⟩).memory #[.slice none 0 0] 8=true)(ad:spec.sizedB c Tryz.prog fn false ((pn os).forCall (λ_ _=>0) ⟨#[],#[.slice none 0 0],[]⟩).memory #[.slice none 0 0] 8=true):
 ReturnsInLeavingWide {calm:=true} Tryz.checked os f .any (λw args=>(spec.pre c Tryz.prog fn [] false w args/\laidMetH Tryz.prog A8 w)/\sizedMet c Tryz.prog fn (OpenSpec.ofChange spec) false w args)
  ((OpenSpec.ofChange spec).postWith c Tryz.prog fn F (outsideKept [.timePasses]) false true false):=by
 refine returnsInLeavingWide_of_good (C:=Tryz.checked) jC.own aj ⟨pn os,λ_ _=>0,⟨#[],#[.slice none 0 0],[]⟩,rfl,World.shaped_of_B ae X,(Input.okWide_of_okWideB (base:=0) g).1,(Input.okWide_of_okWideB g).2,⟨⟨ChangeSpec.pre_of_preB h,Ia os _⟩,sizedMet_of_sizedB ad⟩,by simp only[Assume.holds];exact⟨by simp,λ_ _ _ _=>rfl,by simp,by simp,by simp⟩⟩ ?_
 intro w tape i _ Z _ g h _;obtain⟨_,_,_,q,U,_,_,_,_,af⟩:=g;have e:q=fn:=Pm (U.symm.trans T);subst e;obtain⟨⟨⟨al,gs,ak,ah,am⟩,_⟩,_⟩:=h;have ai:=DataW.Whole.of_heap (w':=w.forCall tape i) (by rfl) ah;have V:Tryz.prog.globals.size<=(w.forCall tape i).heap.size:=by
  have p:Tryz.prog.globals.size=1:=by kernel_rfl
  obtain⟨z,t,j⟩:∃z t,((begin Tryz.prog (λ_ _=>0) default).world.heap[0]?).bind Obj.row?=some (z,t):=by
   have:(((begin Tryz.prog (λ_ _=>0) default).world.heap[0]?).bind Obj.row?).isSome=true:=by kernel_rfl
   obtain⟨⟨z,t⟩,j⟩:=Option.isSome_iff_exists.1 this;exact⟨z,t,j⟩
  obtain⟨cs,R,_⟩:=Z.1 0 z t (by rw[show Tryz.checked.prog.globals.size=1 from p];omega) j;have:=bp R;omega
 obtain⟨M,last,o,w',a',E,G,I,J⟩:=Ic W Y ag aa S K P Q V af ai;obtain⟨v,e,l,r,u,B,D⟩:=J;exact⟨M,last,o,w',a',E,G,I,v,e,postWith_blind (postWith_of_post l.1 l.2),r,u,B,D⟩
def O8{p:Pinned}{s:OpenSpec}{c:OpenClaim}(d:Bool×String)(o:c.holds p s)(C:c.wfByText s=true)(B:c.laidByTextAt .later p [.handle] true)(z:c.start=.entering)(w:c.noBlocks=false/\c.again=false)(hm:p.checked.prog.mainIs=some (d.1,d.2.toList))(g:(!d.1 && d.2.isEmpty && !true)=false)(u:∀f fn,p.checked.prog.funcNamed c.func=some f->p.checked.prog.funcs[f]?=some fn->true=p.checked.prog.looks []/\∀(j:Nat) t,fn.params[j]?=some t->p.checked.prog.wantsStandIn t=false)(q:true=c.goesBy p.checked.prog):
 Claim7.holds p (.plain s) {stood:={row:=c,standIns:=[],harness:=d,looks:=true},kinds:=[],alts:=[],goes:=true,laidByText:=true,laidKinds:=[.handle],laidTests:=true,laidLooks:=.later}:=by
 have i:∀r:OpenClaim,Claim7.isSixth {stood:={row:=r,standIns:=[],harness:=d,looks:=true},kinds:=[]}=false:=λr=>by simp[Claim7.isSixth]at g ⊢<;>exact g
 exact⟨Claim7.tied_new_at .later [.handle] true (Claim7.new_of_sixth o d true z w hm (i c) u) C,(λD l=>by cases l),B,(λh=>by cases h),q⟩
end Go.aN
