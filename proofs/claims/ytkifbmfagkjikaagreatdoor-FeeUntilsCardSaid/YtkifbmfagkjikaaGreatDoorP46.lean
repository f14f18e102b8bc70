/- A part; no conditions. -/
import Derived.Test.YtkifbmfagkjikaaGreatDoorP37
import Derived.Test.YtkifbmfagkjikaaGreatDoorP45
import Derived.Test.YtkifbmfagkjikaaGreatDoorRows
import Derived.Test.YtkifbmfagkjikaaGreatDoorTie
import Derived.SevenTiedAt
set_option maxHeartbeats 8000000
set_option maxRecDepth 100000
set_option linter.all false
namespace Go.aO
attribute [-simp] Go.Sem.runT_eq
open Go.ChangeShapes Go.WideShapes Go.ChangeAt Go.RowKit Go.Proofs Go.Conc Go.ConcN
open Go.ConcM (OsLater)
variable{spec:ChangeSpec}{fn:Func}{f:FuncId}{W:World}
def g9.own:ownKnob Tryz.prog.godebug=none:=av
def g9.laidOut:laidOutB Tryz.prog=true:=av
def g9.underlying4:Tryz.prog.underlying 4=some .bool:=av
abbrev uw:List (String×DataW Unit):=[("errors.errorType",Go.Proofs.YtkifbmfagkjikaaGreatDoor.Rows.laid_errors_errorType)]
noncomputable def q7(os:Os):World:=
 let aL:=World.holding Tryz.prog os ⟨#[],#[],[]⟩
 {aL with heap:=aL.heap.modify 0 fun
  |.cells _ t frozen=>.cells #[oO] t frozen
  |o=>o}
def Ll(os:Os)(args:Array Value):laidMetH Tryz.prog uw ((q7 os).forCall (λ_ _=>0) ⟨#[],args,[]⟩).memory:=
 laidMetH_of_parts (laidMet_nil _ _) av
def Sz{w:World}(h:laidMetH Tryz.prog uw w):lS w:=by
 have e:(uw.filter λx=>x.2.handleName?.isSome)=uw:=av;unfold laidMetH at h;rw[e]at h;have h:=h.2 _ bI;have i:(Go.Proofs.YtkifbmfagkjikaaGreatDoor.Rows.laid_errors_errorType:DataW Unit).funcsIn?=none:=av;rw[i]at h;obtain⟨name,u,d,o,p,q,r,c⟩:=h;have f:(Go.Proofs.YtkifbmfagkjikaaGreatDoor.Rows.laid_errors_errorType:DataW Unit).handleName?=some [101,114,114,111,114]:=av;have y:name = [101,114,114,111,114]:=bD (o.symm.trans f);have j:(Tryz.prog.cutTypes.find? (·.1 == "internal/reflectlite.rtype")).map (·.2)=some 206:=av;have hu:u=206:=bD (p.symm.trans j);have l:((List.range Tryz.prog.types.size).all λt=>!(Tryz.prog.rowNamed t [101,114,114,111,114])||t == 75)=true:=av;have z:d=75:=by have:=List.all_eq_true.1 l d (List.mem_range.2 q);rw[<-y,r]at this;simpa using this
 have m:Tryz.prog.globalNamed "errors.errorType" = some 0:=av;have n:typeHandle Tryz.prog 75=.pointer (some ⟨1,75,none⟩):=av;rw[hu,z,n]at c;unfold World.var? at c;rw[m]at c;simp only[Option.bind_some]at c;split at c
 .rename_i cs t g B
  exact⟨t,g,by rw[B,bD c]⟩
 .cases c
def GG{H:Type}{enc:TypeId×Value->H}{W d':World}(j:Below W.heap.size W d'):∀{ee:List TypeId} {i:List Value} {c:List (DataW H)} {e9:List MemPlace},(∀t∈ee,Tryz.prog.readableRec t=true/\t<Tryz.prog.types.size)->DataW.TrodAll enc Tryz.prog W 0 (λ_=>true) true ee i c e9->
 (∀x∈e9,x.block<W.heap.size)->DataW.TrodAll enc Tryz.prog d' 0 (λb=>decide (b<W.heap.size)) true ee i c e9
 | [],[],[],_,_,h,_=>h
 |t::ee,v::i,d::c,e9,f,h,l=>by obtain⟨p,q,m,n,rfl⟩:=h;exact⟨p,q,Below.trod g9.laidOut (f t List.mem_cons_self).1 (f t List.mem_cons_self).2 m j (λx g=>l x (List.mem_append_left _ g)),GG j (λt o=>f t (List.mem_cons_of_mem _ o)) n (λx g=>l x (List.mem_append_right _ g)),rfl⟩
def Lo(m:f≠2)(l:¬bC.K.fn f)(i:eK bC f=none){us c:Array Value}(hW:aK.globals.size<=W.heap.size)(z:lS W)(p:bQ (gT (fE W)) us c)(j:∀w:World,w.heap=(mF W).heap->Calls bC f us w λe _=>e=.returned (.bool true)):
 ∃M last o w' bh,runNT aK (M+1) (solo (G (Frame.enter aK f c .normal) []) W) #[]=(.ended o w',bh)/\runN aK M (solo (G (Frame.enter aK f c .normal) []) W)=.next last/\step aK last=.ended o w'/\
  Go.Conc.Good aK (λv w'=>v=.bool true/\Calm W w'/\∀b,b<W.heap.size->w'.heap[b]?=W.heap[b]?) last o w' bh:=by
 obtain⟨e,g,q⟩:=z;have d:W.cell? ⟨0,0,none⟩=some oO:=by unfold World.cell?;rw[show W.heap[(⟨0,0,none⟩:Addr).block]?=_ from q];rfl
 obtain⟨n,last,o,w',bh,r1,r,u,y⟩:=(Lm m l i d (S:=fE W) (λh=>by have:=h.1;omega) hW (D1 W) (L7 W) p j none).run;exact⟨n,last,o,w',bh,r1,r,u,y⟩
def BG(f:FuncId)(fn:Func):Prop:=∀{H:Type} {enc:TypeId×Value->H} {W:World} {args:Array Value} {c:List (DataW H)} {e9:List MemPlace},lS W->(∀(j:Nat) t v,fn.params[j]?=some t->args[j]?=some v->∃base,Value.okWide Tryz.prog W .any base t v)->
 DataW.TrodAll enc Tryz.prog W 0 (λ_=>true) true fn.params.toList args.toList c e9->∃us,bQ (gT (fE W)) us args/\∀w:World,w.heap=(mF W).heap->Calls bC f us w λe _=>e=.returned (.bool true)
def GH{H:Type}{enc:TypeId×Value->H}{P:Program}{W:World}{b:Nat}{sp:Nat->Bool}{hd:Bool}:∀{ee:List TypeId} {f:List Value} {c:List (DataW H)} {e9:List MemPlace},DataW.TrodAll enc P W b sp hd ee f c e9->c.length=ee.length
 | [],[],[],_,_=>rfl
 |t::ee,v::f,d::c,e9,h=>by obtain⟨p,q,i,g,rfl⟩:=h;exact congrArg (·+1) (GH g)
def Ln(R:∀t∈fn.params.toList,Tryz.prog.readableRec t=true/\t<Tryz.prog.types.size)(L:fn.resultTypes=#[4])(n:spec.vars = [])(Q:∀(H:Type) (c:List (DataW H)),c.length=fn.params.size->spec.fn H c={results:=[.lit (.bool true)],args:=c})(D:f≠2)(y:¬bC.K.fn f)(B:eK bC f=none)(I:BG f fn){H:Type}{enc:TypeId×Value->H}{base:Nat}{args:Array Value}{c gs:List (DataW H)}{r:List MemPlace}(E:Tryz.prog.globals.size<=W.heap.size)(z:lS W)(S:∀(j:Nat) t v,fn.params[j]?=some t->args[j]?=some v->Value.okWide Tryz.prog W .any base t v)(hW:DataW.Whole enc Tryz.prog fn.params.toList spec.vars false W args.toList c gs r):
 ∃M last o w' bh,runNT Tryz.prog (M+1) (solo (G (Frame.enter Tryz.prog f args .normal) []) W) #[]=(.ended o w',bh)/\runN Tryz.prog M (solo (G (Frame.enter Tryz.prog f args .normal) []) W)=.next last/\
  step Tryz.prog last=.ended o w'/\Conc.Good Tryz.prog (λv d'=>spec.post enc Tryz.prog fn false true false false W args v {d' with os:=W.os}/\OsLater W.os d'.os) last o w' bh:=by
 have i:=hW;obtain⟨p,q,hn,l,rfl,_,_⟩:=hW;rw[n]at l;obtain⟨rfl,rfl⟩:=trodVars_none l;have hlen:c.length=fn.params.size:=(GH hn).trans aF;simp only[List.append_nil]at i;have F:∀x∈p,x.block<W.heap.size:=λx T=>by simpa using i.lt x T
 obtain⟨us,hu,C⟩:=I z (λj t v u w=>⟨base,S j t v u w⟩) hn;obtain⟨M,last,o,w',bh,r1,U,V,X⟩:=Lo D y B E z hu C;obtain⟨v,J,⟨rfl,d,K⟩,P⟩:=X;refine⟨M,last,o,w',bh,r1,U,V,_,J,⟨?_,d.os⟩,P⟩;have m:Below W.heap.size W {w' with os:=W.os}:=⟨rfl,d.tape,d.output,d.size,K⟩
 have g:spec.fn H (c++[])={results:=[.lit (.bool true)],args:=c}:=by rw[List.append_nil];exact Q H c hlen
 refine⟨_,_,_,[],p,[],i,?_,?_,?_,m.frame _,λh=>by cases h⟩
 .rw[g,L];exact trodAll_mk1 (shut_bool g9.underlying4 true)
 .rw[g];exact GG m R hn F
 .rw[g,n];rfl
def SW(J:Tryz.prog.funcs[f]?=some fn)(V:∀t∈fn.params.toList,Tryz.prog.readableRec t=true/\t<Tryz.prog.types.size)(S:fn.resultTypes=#[4])(Y:spec.vars = [])(T:∀(H:Type) (d:List (DataW H)),d.length=fn.params.size->spec.fn H d={results:=[.lit (.bool true)],args:=d})(I:f≠2)(E:¬bC.K.fn f)(G:eK bC f=none)(Q:BG f fn)(c:Array Value)(os:Os)(ad:os.Started)(H:Type)(enc:TypeId×Value->H)(F:Stop.Interp)(W:((q7 os).forCall (λ_ _=>0) ⟨#[],c,[]⟩).variablesB Tryz.prog=true)(R:(((q7 os).forCall (λ_ _=>0) ⟨#[],c,[]⟩).heap.toList.drop Tryz.prog.globals.size).take ((begin Tryz.prog (λ_ _=>0) default).world.heap.size-Tryz.prog.globals.size)=(begin Tryz.prog (λ_ _=>0) default).world.heap.toList.drop Tryz.prog.globals.size)(j:Input.okWideB Tryz.prog ((q7 os).forCall (λ_ _=>0) ⟨#[],c,[]⟩) f ⟨#[],c,[]⟩=true)(l:spec.preB enc Tryz.prog fn [] false ((q7 os).forCall (λ_ _=>0) ⟨#[],c,[]⟩).memory c 8=true)(U:spec.sizedB enc Tryz.prog fn false ((q7 os).forCall (λ_ _=>0) ⟨#[],c,[]⟩).memory c 8=true):
 ReturnsInLeavingWide {calm:=true} Tryz.checked os f .any (λw args=>(spec.pre enc Tryz.prog fn [] false w args/\laidMetH Tryz.prog uw w)/\sizedMet enc Tryz.prog fn (OpenSpec.ofChange spec) false w args)
  ((OpenSpec.ofChange spec).postWith enc Tryz.prog fn F (outsideKept [.timePasses]) false true false):=by
 refine returnsInLeavingWide_of_good (C:=Tryz.checked) g9.own ad ⟨q7 os,λ_ _=>0,⟨#[],c,[]⟩,rfl,World.shaped_of_B W R,(Input.okWide_of_okWideB (base:=0) j).1,(Input.okWide_of_okWideB j).2,⟨⟨ChangeSpec.pre_of_preB l,Ll os _⟩,sizedMet_of_sizedB U⟩,by simp only[Assume.holds];exact⟨aF,λ_ _ _ _=>rfl,aF,aF,aF⟩⟩ ?_
 intro w tape i _ ah _ j l _;obtain⟨_,_,_,m,K,_,_,_,_,X⟩:=j;have e:m=fn:=bD (K.symm.trans J);subst e;obtain⟨⟨⟨d,gs,ae,Z,ag⟩,P⟩,_⟩:=l;have aa:=DataW.Whole.of_heap (w':=w.forCall tape i) (by rfl) Z;have z:lS (w.forCall tape i):=by obtain⟨t,g,h⟩:=Sz P;exact⟨t,g,h⟩
 have L:Tryz.prog.globals.size<=(w.forCall tape i).heap.size:=by have af:Tryz.prog.globals.size=1:=av;obtain⟨t,g,h⟩:=z;have:=bu h;omega
 obtain⟨M,last,o,w',bh,u,y,B,D⟩:=Ln V S Y T I E G Q L z X aa;obtain⟨v,e,hp,n,p,q,r⟩:=D;exact⟨M,last,o,w',bh,u,y,B,v,e,postWith_blind (postWith_of_post hp.1 hp.2),n,p,q,r⟩
def SR{p:Pinned}{s:OpenSpec}{c:OpenClaim}(d:Bool×String)(m:c.holds p s)(y:c.wfByText s=true)(w:c.laidByTextAt .later p [.handle] true)(u:c.start=.entering)(q:c.noBlocks=false/\c.again=false)(hm:p.checked.prog.mainIs=some (d.1,d.2.toList))(g:(!d.1 && d.2.isEmpty && !true)=false)(o:∀f fn,p.checked.prog.funcNamed c.func=some f->p.checked.prog.funcs[f]?=some fn->true=p.checked.prog.looks []/\∀(j:Nat) t,fn.params[j]?=some t->p.checked.prog.wantsStandIn t=false)(n:true=c.goesBy p.checked.prog):
 Claim7.holds p (.plain s) {stood:={row:=c,standIns:=[],harness:=d,looks:=true},kinds:=[],alts:=[],goes:=true,laidByText:=true,laidKinds:=[.handle],laidTests:=true,laidLooks:=.later}:=by
 have i:∀r:OpenClaim,Claim7.isSixth {stood:={row:=r,standIns:=[],harness:=d,looks:=true},kinds:=[]}=false:=λr=>by simp[Claim7.isSixth]at g ⊢<;>exact g
 exact⟨Claim7.tied_new_at .later [.handle] true (Claim7.new_of_sixth m d true u q hm (i c) o) y,(λD l=>by cases l),w,(λh=>by cases h),n⟩
end Go.aO
namespace Go.aO
attribute [-simp] Go.Sem.runT_eq
open Go.ChangeShapes Go.WideShapes Go.ChangeAt Go.RowKit Go.Proofs Go.Conc Go.ConcN Go.Deep Go.Joins
open Go.ConcM (OsLater)
section
def bC.HK:bC.list.toArray[5]?=some xD:=av
def Og:xD.ntmps=131:=av
def SZ(w:World):Calls (ao bC.list.toArray) 5 #[] w λe w'=>e=.returned (.bool true)/\w=w':=by go_enter bC.HK,Og;go_wp2;unfold xX Eu;go_wp2;go_ret;exact⟨rfl,rfl⟩
section
variable{H:Type}{enc:TypeId×Value->H}{W:World}{base:Nat}{v:Value}{d:DataW H}{e9:List MemPlace}
def Em{t:TypeId}{l:List (TypeId×Nat)}(c:fieldsOf t=some l)(h:Value.okWide Tryz.prog W .any base t v):∃cs,v=.agg cs:=by obtain⟨ba,hu,_⟩:=zg c;unfold Value.okWide at h;rw[hu]at h;obtain⟨cs,h,_⟩:=h;exact⟨cs,h⟩
def SE(z:lS W)(g:Value.okWide Tryz.prog W .any base 25 v)(h:DataW.Trod enc Tryz.prog W 0 (λ_=>true) true 25 v d e9):∃c p,v=.agg (eB c p)/\rW W c p:=by obtain⟨cs,rfl⟩:=Em (l:=[(3,0),(22,1),(23,2),(22,3)]) av g;obtain⟨fuel,h⟩:=h;obtain⟨c,p,e,f⟩:=NV z h;have e:cs.toList=(eB c p).toList:=e;exact⟨c,p,congrArg _ (Array.ext' e),f⟩
def SD(z:lS W)(i:Value.okWide Tryz.prog W .any base 27 v)(h:DataW.Trod enc Tryz.prog W 0 (λ_=>true) true 27 v d e9):∃k q n c f,v=.agg #[.int .i64 k,.slice q n c]/\kV W q n c f:=by obtain⟨cs,rfl⟩:=Em (l:=[(3,0),(22,1)]) av i;obtain⟨fuel,h⟩:=h;obtain⟨k,q,n,c,f,e,g⟩:=E5 z h;have e:cs.toList=(#[Value.int .i64 k,.slice q n c]:Array Value).toList:=e;exact⟨k,q,n,c,f,congrArg _ (Array.ext' e),g⟩
def SB(c:Value.okWide Tryz.prog W .any base 3 v)(h:DataW.Trod enc Tryz.prog W 0 (λ_=>true) true 3 v d e9):∃k,v=.int .i64 k:=by obtain⟨k,e,_⟩:=open_int g9.nE c h;exact⟨k,e⟩
def SC(z:lS W)(i:Value.okWide Tryz.prog W .any base 22 v)(h:DataW.Trod enc Tryz.prog W 0 (λ_=>true) true 22 v d e9):∃q n c f,v=.slice q n c/\kV W q n c f/\n<=maxLen/\∀j,j<n->-9223372036854775808<=f j/\f j<=9223372036854775807:=by obtain⟨q,n,c,rfl⟩:=okWide_slice g9.ti i;obtain⟨fuel,h⟩:=h;obtain⟨g2,c9,bp,f,e,g⟩:=xK z h;have e:[Value.slice q n c] = [.slice g2 c9 bp]:=e;cases e;exact⟨q,n,c,f,rfl,g⟩
end
def kV.rD{W w:World}(m:w.heap=(mF W).heap){q:Option Addr}{n c:Nat}{f:Nat->Int}(h:kV W q n c f)(y:n<=maxLen)(u:∀j,j<n->-9223372036854775808<=f j/\f j<=9223372036854775807)(w':World)(g:w.grownBy w' none):ly w' (.slice (mH W q) n c) w'.heap.size:=by
 rcases h with⟨rfl,rfl⟩|⟨b,o,rfl,i,r⟩
 .exact .inl ⟨_,rfl⟩
 .rw[uC i]
  have D:b<w'.heap.size:=by obtain⟨_,d,e,z,h⟩:=i;have B:=bu h;have C:=D1 W;have p:=g.size;rw[m]at p;omega
  exact .inr ⟨b,o,n,c,f,rfl,by unfold maxLen at y;omega,U,λj l=>⟨g.cell (w6 m i (r j l) (.inl ⟨_,_,rfl⟩)) aF,u j l⟩⟩
end
end Go.aO
