/- Part 42 of a law on fees: no conditions. -/
import Derived.Test.YtalhadgndijcmaaGreatDoorP40
import Derived.Test.YtalhadgndijcmaaGreatDoorRows
import Derived.Test.YtalhadgndijcmaaGreatDoorTie
import Derived.SevenTiedAt
set_option maxHeartbeats 8000000
set_option maxRecDepth 100000
set_option linter.all false
namespace Go.aN
attribute [-simp] Go.Sem.runT_eq
open Go.ChangeShapes Go.WideShapes Go.ChangeAt Go.RowKit Go.Proofs Go.Conc Go.ConcN
open Go.ConcM (OsLater)
theorem jC.own:ownKnob Tryz.prog.godebug=none:=by kernel_rfl
theorem jC.laidOut:laidOutB Tryz.prog=true:=by kernel_rfl
theorem jC.wz:Tryz.prog.cellsOf 3=1:=by kernel_rfl
theorem jC.underlying3:Tryz.prog.underlying 3=some (.int .i64):=by kernel_rfl
theorem jC.underlying4:Tryz.prog.underlying 4=some .bool:=by kernel_rfl
theorem jC.underlying22:Tryz.prog.underlying 22=some (.slice 3):=by kernel_rfl
abbrev A8:List (String×DataW Unit):=[("errors.errorType",Go.Proofs.YtalhadgndijcmaaGreatDoor.Rows.laid_errors_errorType)]
noncomputable def pn(os:Os): World:=
 let aI:=World.holding Tryz.prog os ⟨#[],#[],[]⟩
 {aI with heap:=aI.heap.modify 0 fun
  | .cells _ t frozen=>.cells #[.iface 220 (.agg #[.pointer (some ⟨1,87,none⟩)])] t frozen
  | o=>o}
theorem Ia(os:Os)(args:Array Value): laidMetH Tryz.prog A8 ((pn os).forCall (λ_ _=>0) ⟨#[],args,[]⟩).memory:=
 laidMetH_of_parts (laidMet_nil _ _) (by kernel_rfl)
theorem Ic{f:FuncId}{fn:Func}{spec:ChangeSpec}(T:fn.params=#[22])(av:fn.resultTypes=#[4])(V:spec.vars = [])(ax:∀(H:Type) (d:DataW H),spec.fn H [d]={results:=[.lit (.bool true)],args:=[d]})(ai:f≠2)(aa:¬ bS.K.fn f)(ad:dX bS f=none)(af:∀(w:World) (L:Value),mP w L->Calls bS f #[L] w λe _=>e=.returned (.bool true)){H:Type}{m:TypeId×Value->H}{W:World}{base:Nat}{args:Array Value}{Q gs:List (DataW H)}{X:List MemPlace}(aj:Tryz.prog.globals.size<=W.heap.size)(U:∀(j:Nat) t v,fn.params[j]?=some t->args[j]?=some v->Value.okWide Tryz.prog W .any base t v)(hW:DataW.Whole m Tryz.prog fn.params.toList spec.vars false W args.toList Q gs X):
 ∃M last o w' a',runNT Tryz.prog (M+1) (solo (G (Frame.enter Tryz.prog f args .normal) []) W) #[]=(.ended o w',a')/\runN Tryz.prog M (solo (G (Frame.enter Tryz.prog f args .normal) []) W)=.next last/\
  step Tryz.prog last=.ended o w'/\Conc.Good Tryz.prog (λv dt=>spec.post m Tryz.prog fn false true false false W args v {dt with os:=W.os}/\OsLater W.os dt.os) last o w' a':=by
 have I:=hW;obtain⟨p,q,Z,R,rfl,_,_⟩:=hW;have gS:DataW.TrodAll m Tryz.prog W 0 (λ_=>true) true fn.params.toList args.toList Q p:=Z;rw[T] at gS U;obtain⟨v0,d0,rfl,rfl,r⟩:=trodAll_one gS;rw[V] at R;obtain⟨rfl,rfl⟩:=trodVars_none R;have C:=U 0 22 v0 rfl rfl;obtain⟨a0,len,cap,rfl⟩:=okWide_slice jC.underlying22 C;have Y:=r;obtain⟨fuel,ah⟩:=r;simp only[List.append_nil] at I;have am:∀x∈p,x.block<W.heap.size:=λx az=>by simpa using I.lt x az
 have ae:∀(dt:World),Below W.heap.size W dt->DataW.Trod m Tryz.prog dt 0 (λb=>decide (b<W.heap.size)) true 22 (.slice a0 len cap) d0 p:=
  λdt ap=>Below.trod jC.laidOut (by kernel_rfl) (of_decide_eq_true (by kernel_rfl)) Y ap am
 have row:∀a,a0=some a->a.spot=none/\∃d e g,W.heap[a.block]?=some (.cells d e g):=by
  rintro a rfl;have E:Cell.okWide Tryz.prog W .any base 22 (.slice (some a) len cap):=by unfold Value.okWide at C;rw[jC.underlying22] at C;exact C
  unfold Cell.okWide at E;rw[jC.underlying22] at E;have F:Cell.ok Tryz.prog W .any base 22 (.slice (some a) len cap):=E;unfold Cell.ok at F;rw[jC.underlying22] at F;obtain⟨_,_,_,B,row,cells,K,_⟩:=F;refine⟨B,?_⟩;unfold World.shape? at K;split at K
  . rename_i c e g ak
    exact⟨_,_,_,ak⟩
  . cases K
 have aq:mP W (.slice a0 len cap):=by
  rcases open_ints jC.underlying22 jC.underlying3 jC.wz ah with ⟨l,_⟩|⟨a,aG,aD,i,l,_,al,hm,P,_,ag,ay⟩
  . simp[Value.cells] at l
    obtain⟨rfl,rfl,rfl⟩:=l;exact .inl rfl
  . simp[Value.cells] at l
    obtain⟨rfl,rfl,rfl⟩:=l;obtain⟨B,d,e,g,hd⟩:=row a rfl;obtain⟨b,off,s⟩:=a;dsimp only at B hd;subst B;have aF:len<=i.length:=by rw[P];simp;omega
    refine .inr ⟨b,off,len,cap,λj=>i.getD j 0,rfl,al,hm,bp hd,λj aE=>?_⟩;have J:j<i.length:=by omega
    have ao:i.getD j 0∈i:=by rw[List.getD_eq_getElem?_getD,List.getElem?_eq_getElem J];exact List.getElem_mem J
    have key:∀z∈i,-9223372036854775808<=z/\z<=9223372036854775807:=λz P=>by have:=ay z P;simp[Lit.wf,IntKind.min,IntKind.max,IntKind.signed,IntKind.bits] at this;omega
    refine⟨?_,key _ ao⟩;have u:=ag j J;unfold Addr.add at u;split at u
    . rename_i r
      subst r;exact u
    . exact u
 obtain⟨M,last,o,w',a',r1,aA,aB,aC⟩:=Ie ai aa ad aj aq (λb off n c e=>by cases e;exact(row _ rfl).2) af
 obtain⟨v,ar,⟨rfl,y,au⟩,aw⟩:=aC;refine⟨M,last,o,w',a',r1,aA,aB,_,ar,⟨?_,y.os⟩,aw⟩;have S:Below W.heap.size W {w' with os:=W.os}:=⟨rfl,y.tape,y.output,y.size,au⟩
 have D:spec.fn H ([d0]++[])={results:=[.lit (.bool true)],args:=[d0]}:=ax H d0;refine⟨_,_,_,[],p,[],I,?_,?_,?_,S.frame _,λh=>by cases h⟩
 . rw[D,av];exact trodAll_mk1 (shut_bool jC.underlying4 true)
 . rw[D,T];exact trodAll_mk1 (ae _ S)
 . rw[D,V];rfl
theorem O9{f:FuncId}{fn:Func}{spec:ChangeSpec}(Q:Tryz.prog.funcs[f]?=some fn)(T:fn.params=#[22])(V:fn.resultTypes=#[4])(ad:spec.vars = [])(X:∀(H:Type) (d:DataW H),spec.fn H [d]={results:=[.lit (.bool true)],args:=[d]})(P:f≠2)(G:¬ bS.K.fn f)(I:dX bS f=none)(J:∀(w:World) (L:Value),mP w L->Calls bS f #[L] w λe _=>e=.returned (.bool true))(os:Os)(ag:os.Started)(H:Type)(c:TypeId×Value->H)(F:Stop.Interp)(Z:((pn os).forCall (λ_ _=>0) ⟨#[],#[.slice none 0 0],[]⟩).variablesB Tryz.prog=true)(U:(((pn os).forCall (λ_ _=>0) ⟨#[],#[.slice none 0 0],[]⟩).heap.toList.drop Tryz.prog.globals.size).take ((begin Tryz.prog (λ_ _=>0) default).world.heap.size-Tryz.prog.globals.size)=(begin Tryz.prog (λ_ _=>0) default).world.heap.toList.drop Tryz.prog.globals.size)(g:Input.okWideB Tryz.prog ((pn os).forCall (λ_ _=>0) ⟨#[],#[.slice none 0 0],[]⟩) f ⟨#[],#[.slice none 0 0],[]⟩=true)(h:spec.preB c Tryz.prog fn [] false ((pn os).forCall (λ_ _=>0) ⟨#[],#[.slice none 0 0],[]⟩).memory #[.slice none 0 0] 8=true)(Y:spec.sizedB c Tryz.prog fn false ((pn os).forCall (λ_ _=>0) ⟨#[],#[.slice none 0 0],[]⟩).memory #[.slice none 0 0] 8=true):
 ReturnsInLeavingWide {calm:=true} Tryz.checked os f .any (λw args=>(spec.pre c Tryz.prog fn [] false w args/\laidMetH Tryz.prog A8 w)/\sizedMet c Tryz.prog fn (OpenSpec.ofChange spec) false w args)
  ((OpenSpec.ofChange spec).postWith c Tryz.prog fn F (outsideKept [.timePasses]) false true false):=by
 refine returnsInLeavingWide_of_good (C:=Tryz.checked) jC.own ag ⟨pn os,λ_ _=>0,⟨#[],#[.slice none 0 0],[]⟩,rfl,World.shaped_of_B Z U,(Input.okWide_of_okWideB (base:=0) g).1,(Input.okWide_of_okWideB g).2,⟨⟨ChangeSpec.pre_of_preB h,Ia os _⟩,sizedMet_of_sizedB Y⟩,by simp only[Assume.holds];exact⟨by simp,λ_ _ _ _=>rfl,by simp,by simp,by simp⟩⟩ ?_
 intro w tape i _ W _ g h _;obtain⟨_,_,_,n,R,_,_,_,_,aa⟩:=g;have e:n=fn:=Pm (R.symm.trans Q);subst e;obtain⟨⟨⟨ai,gs,ah,ae,aj⟩,_⟩,_⟩:=h;have af:=DataW.Whole.of_heap (w':=w.forCall tape i) (by rfl) ae;have S:Tryz.prog.globals.size<=(w.forCall tape i).heap.size:=by
  have m:Tryz.prog.globals.size=1:=by kernel_rfl
  obtain⟨z,t,j⟩ : ∃z t,((begin Tryz.prog (λ_ _=>0) default).world.heap[0]?).bind Obj.row?=some (z,t):=by
   have:(((begin Tryz.prog (λ_ _=>0) default).world.heap[0]?).bind Obj.row?).isSome=true:=by kernel_rfl
   obtain⟨⟨z,t⟩,j⟩:=Option.isSome_iff_exists.1 this;exact⟨z,t,j⟩
  obtain⟨cs,K,_⟩:=W.1 0 z t (by rw[show Tryz.checked.prog.globals.size=1 from m];omega) j;have:=bp K;omega
 obtain⟨M,last,o,w',a',y,B,D,E⟩:=Ic T V ad X P G I J S aa af;obtain⟨v,e,l,p,q,r,u⟩:=E;exact⟨M,last,o,w',a',y,B,D,v,e,postWith_blind (postWith_of_post l.1 l.2),p,q,r,u⟩
theorem O8{p:Pinned}{s:OpenSpec}{c:OpenClaim}(d:Bool×String)(m:c.holds p s)(y:c.wfByText s=true)(w:c.laidByTextAt .later p [.handle] true)(u:c.start=.entering)(q:c.noBlocks=false/\c.again=false)(hm:p.checked.prog.mainIs=some (d.1,d.2.toList))(g:(!d.1 && d.2.isEmpty && !true)=false)(o:∀f fn,p.checked.prog.funcNamed c.func=some f->p.checked.prog.funcs[f]?=some fn->true=p.checked.prog.looks []/\∀(j:Nat) t,fn.params[j]?=some t->p.checked.prog.wantsStandIn t=false)(n:true=c.goesBy p.checked.prog):
 Claim7.holds p (.plain s) {stood:={row:=c,standIns:=[],harness:=d,looks:=true},kinds:=[],alts:=[],goes:=true,laidByText:=true,laidKinds:=[.handle],laidTests:=true,laidLooks:=.later}:=by
 have i:∀r:OpenClaim,Claim7.isSixth {stood:={row:=r,standIns:=[],harness:=d,looks:=true},kinds:=[]}=false:=λr=>by simp[Claim7.isSixth] at g ⊢<;>exact g
 exact⟨Claim7.tied_new_at .later [.handle] true (Claim7.new_of_sixth m d true u q hm (i c) o) y,(λD l=>by cases l),w,(λh=>by cases h),n⟩
end Go.aN
