/- A part. -/
import Derived.Test.YtejkocoljbaioaaGreatDoorP14
set_option maxHeartbeats 8000000
set_option maxRecDepth 100000
set_option linter.all false
namespace Go.aO
attribute [-simp] Go.Sem.runT_eq
open Go.Proofs
noncomputable def bl.list:List Func:=mix xM AA 0 aK.funcs.toList
noncomputable def bl:Program:=⟨Tryz.progTables,(bl.list).toArray⟩
def bl.K:g8 bl aK:=⟨λ_ _ _=>False,λf=>f=71\/f=128\/f=129⟩
def bl.H:fe (fj bl.K) bl aK:=
 zS (sp:=xM) (rs:=AA) rfl av ⟨⟨rfl,o' (.inl rfl) Tryz.func71 rfl rfl rfl rfl⟩,⟨rfl,xv Tryz.func103⟩,⟨rfl,o' (.inr (.inl rfl)) Tryz.func128 rfl rfl rfl rfl⟩,⟨rfl,o' (.inr (.inr rfl)) Tryz.func129 rfl rfl rfl rfl⟩,⟨rfl,xw Tryz.func130⟩,trivial⟩ av
def bl.ek:fe (fj (jv bl)) bl bl:=
 AE (sp:=xM) ⟨⟨rfl,nt av av⟩,⟨rfl,xv av⟩,⟨rfl,nt av av⟩,⟨rfl,nt av av⟩,⟨rfl,xw av⟩,trivial⟩ ⟨av,av,av,av,av,trivial⟩ av
def bl.S:Same bl aK:=⟨rfl⟩
def bl.o5:je bl=none:=av
def bl.eb:eK bl 71=some 2/\eK bl 128=some 1/\eK bl 129=some 1:=⟨av,av,av⟩
instance bl.Gd:Std bl.list.toArray:=zT (by kernel_rfl)
instance bl.Qx:jx bl.list.toArray:=⟨by kernel_rfl,by kernel_rfl,by kernel_rfl⟩
instance bl.S2:oA bl.list.toArray:=⟨by kernel_rfl⟩
end Go.aO
namespace Go.aO
attribute [-simp] Go.Sem.runT_eq
open Go.Proofs Go.Conc Go.ConcN
variable{u v:Value}{cW:Value->World->Prop}
section
section
variable{Q:Program}{f:FuncId}{a b:Int}{dx:Machine}{C:List Frame}{w:World}{kind:CallKind}{x:Value}{T:Array Value}{o:Oper}{X Y:Operand}{bz:Operand->Value}{t bh:TypeId}{bO:Addr}{i:TypeInfo}
def dJ.ptr{e:TypeId}(hu:Q.underlying t=some (.pointer e))(c:o.op=.binOp .eql t X Y bh)(d:bz X=x)(f:bz Y=.pointer none):dJ Q w (execOp bz o) .value λv aG=>w=aG/\(v=.bool true\/(v=.bool false/\∃bO,x=.pointer (some bO))):=by
 refine dJ.eql c d f (by cases x<;>rfl) (by cases x<;>rfl) ?_;unfold dJ Op.equal Op.maxDepth Op.equalIn;rw[gj (mI hu w #[])];cases x with
 |pointer p=>
  cases p with
  |none=>exact dJ.ok (v:=true) (acc:=#[]) (aG:=w) ⟨rfl,.inl rfl⟩ rfl
  |some p=>exact dJ.ok (v:=false) (acc:=#[]) (aG:=w) ⟨rfl,.inr ⟨rfl,p,rfl⟩⟩ rfl
 |_=>exact dJ.no (acc:=#[]) (aG:=w) rfl trivial
def aK.rF:aK.underlying 21=some (.int .i32):=av
def dJ.Lr(hu:Q.underlying 21=some (.int .i32))(f:o.op=.load 21 X)(h:bz X=.pointer (some bO))(d:w.cell? bO=none->∃s,w.farLoad Q bO false=.error (.stuck s)):dJ Q w (execOp bz o) .value λv aG=>w=aG/\w.cell? bO=some v:=by
 have e:execOp bz o=(loadVar 21 bO >>= λv=>pure (Next.value v)):=by unfold execOp;rw[f];dsimp only;rw[h];rfl
 have r:(loadVar 21 bO).runT Q w #[]=(load bO).runT Q w #[]:=by unfold loadVar isAgg;rw[gj (gj (mI hu w #[]))];rfl
 unfold load at r;rw[e];cases c:w.cell? bO with
 |none=>
  obtain⟨s,g⟩:=d c;simp only[Sem.runT,c]at r;rw[show(Mode.plain == Mode.atomic)=false from rfl,g]at r;exact .no (n' r) trivial
 |some v=>
  simp only[Sem.runT,c]at r;exact .ok ⟨rfl,rfl⟩ (gj r)
def dJ.QH(f:Q.info? 21=some i)(h:i.size=1)(d:w.cell? bO=some v)(g:o.op=.store 21 X Y)(j:bz X=.pointer (some bO))(l:bz Y=.int .i32 b):dJ Q w (execOp bz o) (λ_:Unit=>.skip) λ_ aG=>w.frozen? bO=false/\aG=w.setCell bO (.int .i32 b):=by
 have e:execOp bz o=(storeVar 21 bO (.int .i32 b) >>= λ_=>pure Next.skip):=by unfold execOp;rw[g];dsimp only;rw[j,l];rfl
 have r:(storeVar 21 bO (.int .i32 b)).runT Q w #[]=(Sem.store .plain bO (.int .i32 b) (.pure ())).runT Q w #[]:=by unfold storeVar;rw[gj (xr f w #[]),h];show(storeCells bO [.int .i32 b]).runT Q w #[]=_;unfold storeCells;rw[show bO.add 0=bO by cases bO;rfl];rfl
 rw[xC (α:=Unit) Q .plain bO (.int .i32 b) (.pure ()) w #[] nofun nofun]at r;simp only[d]at r;rw[e];cases c:w.frozen? bO with
 |true=>
  rw[if_pos c]at r;exact .no (n' r) trivial
 |false=>
  rw[if_neg (by simp[c])]at r;exact .ok (v:=()) ⟨rfl,rfl⟩ (gj r)
def QD(hu:Q.underlying 260=some (.pointer 90))(u:Q.underlying 21=some (.int .i32))(D:Q.info? 21=some i)(E:i.size=1)(B:∀bO,x=.pointer (some bO)->w.cell? bO=none->∃s,w.farLoad Q bO false=.error (.stuck s))(c:T.getD 0 undef=x/\4<=T.size)(h:dz Q dx (lone ⟨f,T,[.code (tc a b)],[],.run,kind,none⟩ C w))(hC:2<=C.length)(d:S8 kind):
 ∃bO fo,x=.pointer (some bO)/\w.cell? bO=some (.int .i32 a)/\w.frozen? bO=false/\dz Q dx (lone ⟨f,fo,[.code .ret],[],.returning,kind,none⟩ C (w.setCell bO (.int .i32 b))):=by
 replace h:=h.reg (l:=[0]) hC rfl;obtain⟨v,_,⟨rfl,o⟩,h⟩:=h.n3 hC d rfl rfl rfl (dJ.ptr hu rfl c.1 rfl);replace h:=h.gM hC;have j:=nx (T:=T) (i:=3) (v:=v) c.2;have c:=mN (i:=3) (v:=v) c;generalize T.setIfInBounds 3 v=T at h c j;rcases o with rfl|⟨rfl,bO,rfl⟩
 .exact((h.cd hC (v:=true) j.1).ob hC).elim
 replace h:=(h.cd hC (v:=false) j.1).reg (l:=[0,1]) hC rfl;obtain⟨v,_,⟨rfl,r⟩,h⟩:=h.n3 hC d rfl rfl rfl (dJ.Lr u rfl c.1 (B bO rfl));have q:=nx (T:=T) (i:=1) (v:=v) c.2;have c:=mN (i:=1) (v:=v) c;generalize T.setIfInBounds 1 v=T at h c q;obtain⟨p,_,⟨rfl,o⟩,h⟩:=h.n3 hC d rfl rfl rfl (dJ.int u rfl q.1 rfl);replace h:=h.gM hC;have g:=nx (T:=T) (i:=2) (v:=p) c.2;have c:=mN (i:=2) (v:=p) c;generalize T.setIfInBounds 2 p=T at h c g;rcases o with⟨rfl,rfl⟩|rfl
 .replace h:=(h.cd hC (v:=true) g.1).reg (l:=[0]) hC rfl
  obtain⟨_,⟨z,rfl⟩,h⟩:=h.Ew hC d rfl rfl rfl (dJ.QH D E r rfl c.1 rfl);exact⟨bO,T,rfl,r,z,(h.gM hC).rt hC⟩
 .exact((h.cd hC (v:=false) g.1).ob hC).elim
def JZ(c:Q.funcs[71]?=some rq)(x y:Value):Frame.enter Q 71 #[x,y] kind=⟨71,#[x,y]++Array.replicate 40 undef,[.code xW],[],.run,kind,none⟩:=by unfold Frame.enter;rw[c];kernel_rfl
def QC(hu:∃m,Q.underlying 81=some (.interface m))(d:T.getD 0 undef=x)(i:5<=T.size)(h:dz Q dx (lone ⟨71,T,[.code xW],[],.run,kind,none⟩ C w))(hC:2<=C.length)(c:S8 kind):
 x=.nilIface/\dz Q dx (lone ⟨71,(T.setIfInBounds 2 (.bool true)).setIfInBounds 4 (.bool false),[.code .ret],[],.returning,kind,none⟩ C w):=by
 replace h:=h.reg (l:=[0]) hC rfl;obtain⟨v,_,⟨rfl,f⟩,h⟩:=h.n3 hC c rfl rfl rfl (dJ.nil hu rfl d rfl rfl);replace h:=h.gM hC;rcases f with⟨rfl,g⟩|⟨rfl,_⟩
 .replace h:=(h.cd hC (v:=true) (uR U)).reg (l:=[0]) hC rfl
  obtain⟨_,_,⟨rfl,rfl⟩,h⟩:=h.n3 hC c rfl rfl rfl (dJ.ok (cW:=λv aG=>v=.bool false/\w=aG) (acc:=#[]) ⟨rfl,rfl⟩ rfl);exact⟨g,(h.gM hC).rt hC⟩
 .exact((h.cd hC (v:=false) (uR U)).ob hC).elim
end
end
section
def j3(op:Op)(d:Option Nat):Array Oper:=#[⟨d,op,4,"",#[],none⟩]
def kO(op:Op)(d:Option Nat)(k:Code):Code:=.seq (.region 0 (j3 op d) false) k
def tR:List (Int×Int)->Code
 | []=>.refuse ""
 |(k,c)::l=>kO (.binOp .eql 101 (.tmp 8) (.const (ah k)) 101) (some 3) (.cond (.tmp 3) (kO (.assign (.const (ah c))) (some 2) .ret) (tR l))
def pQ:List (Int×Int):=[(0,3),(1,1),(2,1),(3,1),(4,5)]
def uY:Code:=kO (.binOp .eql 81 (.tmp 0) (.const .nilIface) 81) (some 3) (.cond (.tmp 3) (kO (.assign (.const (ah 0))) (some 2) .ret)
 (kO (.typeAssert (.tmp 0) 81 152 true) (some 4) (kO (.extract (.tmp 4) 1) (some 3) (.cond (.tmp 3)
  (kO (.extract (.tmp 4) 0) (some 5) (kO (.field 152 (.tmp 5) 0) (some 8) (kO (.alloc 152) (some 6) (kO (.store 152 (.tmp 6) (.tmp 5)) none (tR pQ))))) (.refuse "")))))
noncomputable def l7:Func:={Tryz.f40 with body:=some uY,results:=#[.tmp 2],nfree:=1,endLine:=1000000007}
section
variable{Q:Program}{dx:Machine}{C:List Frame}{w aG:World}{kind:CallKind}{fn:FuncId}{T:Array Value}{k:List Item}
def dz.rg{op:Op}{d:Nat}{K:Code}(h:dz Q dx (lone ⟨fn,T,[.code (kO op (some d) K)],[],.run,kind,none⟩ C w))(hC:2<=C.length)(c:S8 kind)(f:∀bz:Operand->Value,(∀i,bz (.tmp i)=T.getD i undef)->(∀v,bz (.const v)=v)->dJ Q w (execOp bz ⟨some d,op,4,"",#[],none⟩) .value cW):∃v aG,cW v aG/\dz Q dx (lone ⟨fn,T.setIfInBounds d v,[.code K],[],.run,kind,none⟩ C aG):=by obtain⟨v,aG,g,h⟩:=(h.reg (l:=[0]) hC rfl).n3 hC c rfl rfl rfl (f _ (λ_=>rfl) λ_=>rfl);exact⟨v,aG,g,h.gM hC⟩
noncomputable def sk:Array Field:=match Tryz.prog.underlying 152 with
 |some (.struct ba)=>ba
 |_=>#[]
def aK.GL:aK.underlying 152=some (.struct sk):=av
def KU:(sk[0]?).map (λf=>(f.type,f.offset))=some (101,0):=av
def aK.u106:aK.underlying 101=some (.int .i64):=av
def aK.i165:(aK.info? 152).map (λi=>(i.size,i.zero))=some (1,some (.agg #[ah 0])):=av
def i165(S:Same Q aK):∃i,Q.info? 152=some i/\i.size=1/\i.zero=some (.agg #[ah 0]):=by
 have h:=aK.i165;rw[S.info];cases x:aK.info? 152 with
 |none=>rw[x]at h;cases h
 |some i=>rw[x]at h;have h:=bD h;exact⟨i,rfl,congrArg Prod.fst h,congrArg Prod.snd h⟩
def NI{t:TypeId}{i:TypeInfo}(c:Q.info? t=some i)(w:World)(acc:Array Event):(typeInfo t).runT Q w acc=(.ok i w,acc):=by show(match Q.info? t with|some d=>(pure d:Sem TypeInfo)|none=>stuck "no such type").runT Q w acc=_;rw[c];rfl
def we{o:Oper}{bz:Operand->Value}{bn:Sem Value}{aG:World}{es:Array Event}(e:execOp bz o=(bn >>= λu=>pure (.value u)))(r:bn.runT Q w #[]=(.ok v aG,es))(g:cW v aG):dJ Q w (execOp bz o) .value cW:=by rw[e];exact .ok g (gj r)
def Hf(S:Same Q aK)(w:World):(zeroValue 152).runT Q w #[]=(.ok (.agg #[ah 0]) w,#[]):=by obtain⟨i,c,_,d⟩:=i165 S;unfold zeroValue;refine(gj (NI c w #[])).trans ?_;rw[d];rfl
def HJ(S:Same Q aK){d:TypeId}{bz:Operand->Value}(f:bz (.tmp 0)=.iface d v):dJ Q w (execOp bz ⟨some 4,.typeAssert (.tmp 0) 81 152 true,4,"",#[],none⟩) .value λu aG=>w=aG/\∃z ok,u=.tuple #[z,.bool ok]/\(ok=true->d=152/\z=v):=by
 have hu:Q.underlying 152=some (.struct sk):=by rw[S.under];exact aK.GL
 refine we (bn:=Instr.typeAssert (.iface d v) 81 152 true) (v:=if d=152 then .tuple #[v,.bool true]else .tuple #[.agg #[ah 0],.bool false]) (aG:=w) (es:=#[]) (by rw[<-f];rfl) ?_ ?_
 .unfold Instr.typeAssert
  refine(gj (mI hu w #[])).trans ?_;show(if d=152 then(pure (.tuple #[v,.bool true]):Sem Value)else(zeroValue 152 >>= λz=>pure (.tuple #[z,.bool false]))).runT Q w #[]=_;by_cases c:d=152
  .rw[if_pos c,if_pos c];rfl
  .rw[if_neg c,if_neg c]
   exact(gj (Hf S w)).trans rfl
 .by_cases c:d=152
  .exact⟨rfl,v,true,if_pos c,λ_=>⟨c,rfl⟩⟩
  .exact⟨rfl,_,false,if_neg c,nofun⟩
def CY{j:Nat}{d:Option Nat}{c:Array Value}(f:c[j]?=some u){bz:Operand->Value}(g:bz (.tmp 4)=.tuple c):dJ Q w (execOp bz ⟨d,.extract (.tmp 4) j,4,"",#[],none⟩) .value λv aG=>w=aG/\u=v:=by refine we (bn:=Instr.extract (.tuple c) j) (es:=#[]) (by rw[<-g];rfl) ?_ ⟨rfl,rfl⟩;unfold Instr.extract;dsimp only;rw[f];rfl
def KA(S:Same Q aK){bz:Operand->Value}(o:bz (.tmp 5)=v):
 dJ Q w (execOp bz ⟨some 8,.field 152 (.tmp 5) 0,4,"",#[],none⟩) .value λu aG=>w=aG/\∃cs,v=.agg cs/\cs[0]?=some u:=by
 have hu:Q.underlying 152=some (.struct sk):=by rw[S.under];exact aK.GL
 have l:Q.underlying 101=some (.int .i64):=by rw[S.under];exact aK.u106
 obtain⟨f,j,g,i⟩:∃f,sk[0]?=some f/\f.type=101/\f.offset=0:=by
  have h:=KU;cases x:sk[0]? with
  |none=>rw[x]at h;cases h
  |some f=>rw[x]at h;have h:=bD h;exact⟨f,rfl,congrArg Prod.fst h,congrArg Prod.snd h⟩
 have e:execOp bz ⟨some 8,.field 152 (.tmp 5) 0,4,"",#[],none⟩=(Instr.field 152 (bz (.tmp 5)) 0 >>= λu=>pure (.value u)):=rfl;rw[e,o];have r:(Instr.field 152 v 0).runT Q w #[]=((asAgg v) >>= λcs=>part f.type cs f.offset).runT Q w #[]:=by unfold Instr.field;refine(gj (mI hu w #[])).trans ?_;dsimp only;rw[j]
 cases v with
 |agg cs=>
  have c:(Instr.field 152 (.agg cs) 0).runT Q w #[]=(match cs[0]? with|some v=>(pure v:Sem Value)|none=>stuck "part: no such cell").runT Q w #[]:=by
   refine r.trans ((gj (aG:=w) (qJ:=#[]) (a:=cs) rfl).trans ?_);rw[g,i];unfold part;refine(gj (aG:=w) (qJ:=#[]) (a:=false) ?_).trans ?_
   .unfold isAgg
    rw[gj (mI l w #[])];rfl
   .rfl
  cases d:cs[0]? with
  |some u=>
   rw[d]at c;exact .ok ⟨rfl,cs,rfl,d⟩ (gj c)
  |none=>
   rw[d]at c;exact .no (n' c) trivial
 |_=>exact .no (aG:=w) (acc:=#[]) (n' (r.trans (n' rfl))) trivial
def Hz(S:Same Q aK){bz:Operand->Value}:dJ Q w (execOp bz ⟨some 6,.alloc 152,4,"",#[],none⟩) .value λv aG=>aG=w.alloc (.cells #[ah 0] 152)/\v=.pointer (some ⟨w.heap.size,0,none⟩):=by refine we (bn:=Instr.alloc 152 true (.tuple #[])) (es:=#[]) rfl ?_ ⟨rfl,rfl⟩;unfold Instr.alloc;exact(gj (Hf S w)).trans rfl
def MO{α:Type}(a:Array α)(h:a.size=1):a=#[a[0]]:=by
 apply Array.ext
 .simp[h]
 .intro i c d
  have:i=0:=U;subst this;rfl
def QB(S:Same Q aK){b:Nat}{cs:Array Value}(f:cs[0]?=some u)(g:w.heap[b]?=some (.cells #[ah 0] 152)){bz:Operand->Value}(p:bz (.tmp 6)=.pointer (some ⟨b,0,none⟩))(o:bz (.tmp 5)=.agg cs):
 dJ Q w (execOp bz ⟨none,.store 152 (.tmp 6) (.tmp 5),4,"",#[],none⟩) (λ_:Unit=>.skip) λ_ aG=>cs=#[u]/\(∀x,x≠b->aG.heap[x]?=w.heap[x]?)/\aG.heap.size=w.heap.size/\aG.tape=w.tape/\aG.output=w.output/\aG.os=w.os:=by
 obtain⟨i,C,D,_⟩:=i165 S;have e:execOp bz ⟨none,.store 152 (.tmp 6) (.tmp 5),4,"",#[],none⟩=(Instr.storeAt 152 (bz (.tmp 6)) (bz (.tmp 5)) >>= λ_=>pure Next.skip):=rfl;rw[e,p,o];have r:(Instr.storeAt 152 (.pointer (some ⟨b,0,none⟩)) (.agg cs)).runT Q w #[]=(if cs.size≠1 then((stuck "storeVar: the value has not the size of the variable" : Sem PUnit) >>= λ_=>storeCells ⟨b,0,none⟩ cs.toList)else storeCells ⟨b,0,none⟩ cs.toList).runT Q w #[]:=by unfold Instr.storeAt;refine(gj (aG:=w) (qJ:=#[]) (a:=⟨b,0,none⟩) rfl).trans ?_;unfold storeVar;refine(gj (xr C w #[])).trans ?_;rw[D];rfl
 by_cases j:cs.size=1
 .have z:cs=#[u]:=by have:=MO cs j;rw[this]at f ⊢;simp at f;rw[f]
  subst z;have q:w.cell? ⟨b,0,none⟩=some (ah 0):=(aU g).trans rfl;have B:w.frozen? ⟨b,0,none⟩=false:=b3 g;have l:(Instr.storeAt 152 (.pointer (some ⟨b,0,none⟩)) (.agg #[u])).runT Q w #[]=(Sem.store .plain ⟨b,0,none⟩ u (.pure ())).runT Q w #[]:=by rw[r,if_neg aF];rfl
  by_cases hu:(∃c,u=.agg c)\/∃c,u=.tuple c
  .rcases hu with⟨c,rfl⟩|⟨c,rfl⟩<;>exact .no (n' (l.trans rfl)) trivial
  .have d:=xC (α:=Unit) Q .plain ⟨b,0,none⟩ u (.pure ()) w #[] (λc h=>hu (.inl ⟨c,h⟩)) (λc h=>hu (.inr ⟨c,h⟩))
   rw[q]at d;dsimp only at d;rw[B,if_neg aF]at d;exact .ok (v:=()) (aG:=w.setCell ⟨b,0,none⟩ u) ⟨rfl,λx E=>e1 E,aF,rfl,rfl,rfl⟩ (gj (l.trans d))
 .rw[if_pos j]at r
  exact .no (aG:=w) (acc:=#[]) (n' (r.trans (n' rfl))) trivial
def dz.fin{c:Int}(h:dz Q dx (lone ⟨fn,T,[.code (kO (.assign (.const (ah c))) (some 2) .ret)],[],.run,kind,none⟩ C w))(hC:2<=C.length)(d:S8 kind)(g:9<=T.size):
 ∃fo,fo.getD 2 undef=ah c/\dz Q dx (lone ⟨fn,fo,[.code .ret],[],.returning,kind,none⟩ C w):=by
 obtain⟨v,_,⟨rfl,rfl⟩,h⟩:=h.rg hC d (cW:=λv aG=>v=ah c/\w=aG) λbz _ f=>we (bn:=pure (bz (.const (ah c)))) (aG:=w) (es:=#[]) rfl rfl ⟨f _,rfl⟩
 exact⟨_,uR (T:=T) U,h.rt hC⟩
def Iy(hu:Q.underlying 101=some (.int .i64))(hC:2<=C.length)(o:S8 kind):∀(l:List (Int×Int)) {T:Array Value},T.getD 8 undef=u/\9<=T.size->
 dz Q dx (lone ⟨fn,T,[.code (tR l)],[],.run,kind,none⟩ C w)->∃k c fo,(k,c)∈l/\u=ah k/\fo.getD 2 undef=ah c/\dz Q dx (lone ⟨fn,fo,[.code .ret],[],.returning,kind,none⟩ C w):=by
 intro l;induction l with
 |nil=>intro T _ h;exact(dz.ob h hC).elim
 |cons p l B=>
  obtain⟨k,c⟩:=p;intro T j h;obtain⟨v,_,⟨rfl,r⟩,h⟩:=dz.rg (op:=.binOp .eql 101 (.tmp 8) (.const (ah k)) 101) (d:=3) (K:=.cond (.tmp 3) (kO (.assign (.const (ah c))) (some 2) .ret) (tR l)) h hC o λbz q z=>dJ.int hu rfl ((q 8).trans j.1) (z _)
  have g:=nx (T:=T) (i:=3) (v:=v) j.2;rcases r with⟨rfl,e⟩|rfl
  .obtain⟨fo,f,h⟩:=dz.fin (h.cd hC (v:=true) g.1) hC o g.2
   exact⟨k,c,fo,List.mem_cons_self,e,f,h⟩
  .obtain⟨D,bp,fo,hm,e,f,h⟩:=B (mN j) (h.cd hC (v:=false) g.1)
   exact⟨D,bp,fo,List.mem_cons_of_mem _ hm,e,f,h⟩
def yx(w w':World):Prop:=(∀b,b<w.heap.size->w'.heap[b]?=w.heap[b]?)/\w.heap.size<=w'.heap.size/\w'.tape=w.tape/\w'.output=w.output/\w'.os=w.os
def QE(S:Same Q aK)(hu:∃m,Q.underlying 81=some (.interface m)){x:Value}(p:T.getD 0 undef=x)(F:9<=T.size)(hC:2<=C.length)(j:S8 kind)(h:dz Q dx (lone ⟨fn,T,[.code uY],[],.run,kind,none⟩ C w)):
 (x=.nilIface/\∃fo,fo.getD 2 undef=ah 0/\dz Q dx (lone ⟨fn,fo,[.code .ret],[],.returning,kind,none⟩ C w))\/
 ∃k c fo w',(k,c)∈pQ/\x=.iface 152 (.agg #[ah k])/\fo.getD 2 undef=ah c/\yx w w'/\dz Q dx (lone ⟨fn,fo,[.code .ret],[],.returning,kind,none⟩ C w'):=by
 obtain⟨v,_,⟨rfl,J⟩,h⟩:=h.rg (d:=3) hC j λbz g r=>dJ.nil hu rfl ((g 0).trans p) (r _) rfl
 have D:=nx (T:=T) (i:=3) (v:=v) F;rcases J with⟨rfl,e⟩|⟨rfl,W,u,rfl⟩
 .obtain⟨fo,B,h⟩:=dz.fin (h.cd hC (v:=true) D.1) hC j D.2
  exact .inl ⟨e,fo,B,h⟩
 right;replace h:=h.cd hC (v:=false) D.1;have p:=mN (i:=3) (v:=.bool false) ⟨p,F⟩;generalize T.setIfInBounds 3 (.bool false)=T at h p;obtain⟨_,_,⟨rfl,z,ok,rfl,I⟩,h⟩:=h.rg (d:=4) hC j λbz g r=>HJ S ((g 0).trans p.1)
 have o:=nx (T:=T) (i:=4) (v:=.tuple #[z,.bool ok]) p.2;generalize T.setIfInBounds 4 (.tuple #[z,.bool ok])=T at h o;obtain⟨_,_,⟨rfl,rfl⟩,h⟩:=h.rg (d:=3) hC j λbz g r=>CY (u:=.bool ok) rfl ((g 4).trans o.1)
 replace h:=h.cd hC (v:=ok) (uR U);cases ok with
 |false=>exact(dz.ob h hC).elim
 |true=>
 obtain⟨rfl,rfl⟩:=I rfl;have o:=mN (i:=3) (v:=.bool true) o;generalize T.setIfInBounds 3 (.bool true)=T at h o;obtain⟨_,_,⟨rfl,rfl⟩,h⟩:=dz.rg (op:=.extract (.tmp 4) 0) (d:=5) h hC j λbz g r=>CY (u:=z) rfl ((g 4).trans o.1)
 have f:=nx (T:=T) (i:=5) (v:=z) o.2;generalize T.setIfInBounds 5 z=T at h f;obtain⟨u,_,⟨rfl,cs,rfl,H⟩,h⟩:=h.rg (d:=8) hC j λbz g r=>KA S ((g 5).trans f.1)
 have q:=nx (T:=T) (i:=8) (v:=u) f.2;have f:=mN (i:=8) (v:=u) f;generalize T.setIfInBounds 8 u=T at h q f;obtain⟨_,_,⟨rfl,rfl⟩,h⟩:=h.rg (d:=6) hC j λbz g r=>Hz S
 have E:=nx (T:=T) (i:=6) (v:=.pointer (some ⟨w.heap.size,0,none⟩)) q.2;have f:=mN (i:=6) (v:=.pointer (some ⟨w.heap.size,0,none⟩)) f;have q:=mN (i:=6) (v:=.pointer (some ⟨w.heap.size,0,none⟩)) q;generalize T.setIfInBounds 6 (.pointer (some ⟨w.heap.size,0,none⟩))=T at h E f q;obtain⟨V,⟨rfl,K,L,M,P,R⟩,h⟩:=(h.reg (l:=[0]) hC rfl).Ew hC j rfl rfl rfl (QB S H (Array.getElem?_push_size) E.1 f.1);obtain⟨k,c,fo,hm,rfl,B,h⟩:=Iy (by rw[S.under];exact aK.u106) hC j pQ q (h.gM hC);exact⟨k,c,fo,V,hm,rfl,B,⟨λb G=>(K b U).trans (heap_alloc_old _ _ G),by rw[L];simp,M,P,R⟩,h⟩
end
end
end Go.aO
