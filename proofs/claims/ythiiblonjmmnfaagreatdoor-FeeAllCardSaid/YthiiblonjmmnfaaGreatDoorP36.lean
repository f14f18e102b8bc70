/- Part 37 of a law on fees: no conditions. -/
import Derived.Test.YthiiblonjmmnfaaGreatDoorP18
set_option maxHeartbeats 8000000
set_option maxRecDepth 100000
set_option linter.all false
namespace Go.aN
attribute [-simp] Go.Sem.runT_eq
open Go.Proofs Go.Conc Go.ConcN
section
section
variable{Q:Program}{f:FuncId}{a b:Int}{b8:Machine}{C:List Frame}{w aG:World}{kind:CallKind}{n:Nat}{x t1 t2 t3:Value}
def cZ(f:FuncId)(n:Nat)(kind:CallKind)(x t1 t2 t3:Value)(todo:List Item):Frame:=⟨f,#[x,t1,t2,t3]++Array.replicate n undef,todo,[],.run,kind,none⟩
def Gy(c:Q.funcs[121]?=some pG)(x:Value):Frame.enter Q 121 #[x] kind=cZ 121 9 kind x undef undef undef [.code (oB 0 1)]:=by unfold Frame.enter;rw[c];rfl
def Gz(c:Q.funcs[122]?=some pH)(x:Value):Frame.enter Q 122 #[x] kind=cZ 122 17 kind x undef undef undef [.code (oB 1 0)]:=by unfold Frame.enter;rw[c];rfl
def r6(todo:List Item):(cZ f n kind x t1 t2 t3 todo).eval (.tmp 0)=x:=by show(#[x,t1,t2,t3]++Array.replicate n undef).getD 0 undef=_;rw[Array.getD_eq_getD_getElem?,Array.getElem?_append_left (by simp)];rfl
def Ha(todo:List Item):(cZ f n kind x t1 t2 t3 todo).eval (.tmp 1)=t1:=by show(#[x,t1,t2,t3]++Array.replicate n undef).getD 1 undef=_;rw[Array.getD_eq_getD_getElem?,Array.getElem?_append_left (by simp)];rfl
def Ao(todo:List Item):(cZ f n kind x t1 t2 t3 todo).eval (.tmp 2)=t2:=by show(#[x,t1,t2,t3]++Array.replicate n undef).getD 2 undef=_;rw[Array.getD_eq_getD_getElem?,Array.getElem?_append_left (by simp)];rfl
def Ap(todo:List Item):(cZ f n kind x t1 t2 t3 todo).eval (.tmp 3)=t3:=by show(#[x,t1,t2,t3]++Array.replicate n undef).getD 3 undef=_;rw[Array.getD_eq_getD_getElem?,Array.getElem?_append_left (by simp)];rfl
def G0(hu:Q.underlying 257=some (.pointer 95)):(x=.pointer none/\(Op.equal 257 x (.pointer none)).runT Q w #[]=(.ok true w,#[]))\/(∃c,x=.pointer (some c)/\(Op.equal 257 x (.pointer none)).runT Q w #[]=(.ok false w,#[]))\/∃h aG es,(Op.equal 257 x (.pointer none)).runT Q w #[]=(.halt h aG,es)/\iC h:=by
 unfold Op.equal Op.maxDepth Op.equalIn;rw[pR hu];cases x with
 |pointer p=>
  cases p with
  |none=>exact .inl ⟨rfl,rfl⟩
  |some p=>exact .inr (.inl ⟨p,rfl,rfl⟩)
 |_=>right;right;exact⟨_,w,#[],rfl,trivial⟩
def GV(hu:Q.underlying 21=some (.int .i32)):kx Q (Op.equal 21 x (.int .i32 0)) w (x=.int .i32 0):=by
 unfold kx Op.equal Op.maxDepth Op.equalIn;rw[pR hu];cases x with
 |pointer p=>
  cases p with
  |none=>right;right;exact⟨_,w,#[],rfl,trivial⟩
  |some b=>right;left;exact⟨w,#[],rfl⟩
 |int k n=>
  dsimp only;by_cases e:k=.i32
  .subst e
   rw[if_pos rfl];by_cases e:n=0
   .subst e
    exact .inl ⟨rfl,rfl⟩
   .right;left
    exact⟨w,#[],by show(Result.ok (n == 0) w,_)=_;rw[beq_eq_false_iff_ne.2 e]⟩
  .rw[if_neg e]
   exact .inr (.inr ⟨_,w,#[],rfl,trivial⟩)
 |_=>right;right;exact⟨_,w,#[],rfl,trivial⟩
def GX(hu:Q.underlying 21=some (.int .i32)):kx Q (Op.equal 21 x (.int .i32 1)) w (x=.int .i32 1):=by
 unfold kx Op.equal Op.maxDepth Op.equalIn;rw[pR hu];cases x with
 |pointer p=>
  cases p with
  |none=>right;right;exact⟨_,w,#[],rfl,trivial⟩
  |some b=>right;right;exact⟨_,w,#[],rfl,trivial⟩
 |int k n=>
  dsimp only;by_cases e:k=.i32
  .subst e
   rw[if_pos rfl];by_cases e:n=1
   .subst e
    exact .inl ⟨rfl,rfl⟩
   .right;left
    exact⟨w,#[],by show(Result.ok (n == 1) w,_)=_;rw[beq_eq_false_iff_ne.2 e]⟩
  .rw[if_neg e]
   exact .inr (.inr ⟨_,w,#[],rfl,trivial⟩)
 |_=>right;right;exact⟨_,w,#[],rfl,trivial⟩
def GU(hu:Q.underlying 21=some (.int .i32))(c:a=0\/a=1):kx Q (Op.equal 21 x (.int .i32 a)) w (x=.int .i32 a):=by
 rcases c with rfl|rfl
 .exact GV hu
 .exact GX hu
def aF.pQ:aF.underlying 21=some (.int .i32):=by kernel_rfl
def isAgg21(hu:Q.underlying 21=some (.int .i32)):(isAgg 21).runT Q w #[]=(.ok false w,#[]):=by unfold isAgg;rw[i' (sE hu w #[])];rfl
def Iw(hu:Q.underlying 21=some (.int .i32))(c:Addr){v:Value}(d:w.cell? c=some v):∃es,(loadVar 21 c).runT Q w #[]=(.ok v w,es):=by unfold loadVar;rw[i' (isAgg21 hu)];show ∃es,(load c).runT Q w #[]=_;unfold load;simp only[Sem.runT,d];exact⟨_,rfl⟩
def Ix(hu:Q.underlying 21=some (.int .i32))(c:Addr)(d:w.cell? c=none){s:String}(f:w.farLoad Q c false=.error (.stuck s)):∃es,(loadVar 21 c).runT Q w #[]=(.halt (.stuck s) w,es):=by unfold loadVar;rw[i' (isAgg21 hu)];show ∃es,(load c).runT Q w #[]=_;unfold load;simp only[Sem.runT,d];have e:(Mode.plain == Mode.atomic)=false:=rfl;rw[e,f];exact⟨_,rfl⟩
def add_zero(c:Addr):c.add 0=c:=by cases c;rfl
def Di{i:TypeInfo}(d:Q.info? 21=some i)(f:i.size=1)(c:Addr)(y:Int):(storeVar 21 c (.int .i32 y)).runT Q w #[]=(Sem.store .plain c (.int .i32 y) (.pure ())).runT Q w #[]:=by unfold storeVar;rw[i' (B' d w #[]),f];show(storeCells c [.int .i32 y]).runT Q w #[]=_;unfold storeCells;rw[add_zero];rfl
def Na{i:TypeInfo}(j:Q.info? 21=some i)(l:i.size=1)(d:Addr){v:Value}(f:w.cell? d=some v)(g:w.frozen? d=false)(y:Int):∃es,(storeVar 21 d (.int .i32 y)).runT Q w #[]=(.ok () (w.setCell d (.int .i32 y)),es):=by rw[Di j l,u2 (α:=Unit) Q .plain d (.int .i32 y) (.pure ()) w #[] (λc h=>(by cases h)) (λc h=>(by cases h))];simp only[f];rw[if_neg (by simp[g])];exact⟨_,rfl⟩
def Nb{i:TypeInfo}(j:Q.info? 21=some i)(l:i.size=1)(d:Addr){v:Value}(f:w.cell? d=some v)(g:w.frozen? d=true)(y:Int):∃h w' es,(storeVar 21 d (.int .i32 y)).runT Q w #[]=(.halt h w',es)/\iC h:=by rw[Di j l,u2 (α:=Unit) Q .plain d (.int .i32 y) (.pure ()) w #[] (λc h=>(by cases h)) (λc h=>(by cases h))];simp only[f];rw[if_pos g];exact⟨_,_,_,rfl,trivial⟩
def JE{t a':TypeId}{bx:Operand->Value}{X Y:Operand}{p:String}{E:Array Go.Edge}{g:Option (Nat×Bool)}{dst:Option Nat}(y:Value)(f:bx Y=y)(d:eqGuard .eql t X Y (bx X) y=pure ())(c:binOp .eql t (bx X) y=(do pure (.bool (<-Op.equal t (bx X) y)))):
 execOp bx ⟨dst,.binOp .eql t X Y a',4,p,E,g⟩=(do let v <-(do pure (.bool (<-Op.equal t (bx X) y)):Sem Value);pure (Next.value v)):=by
 have e:execOp bx ⟨dst,.binOp .eql t X Y a',4,p,E,g⟩=(do let v <-(do eqGuard .eql t X Y (bx X) (bx Y);binOp .eql t (bx X) (bx Y));pure (.value v)):=rfl;rw[e,f,d,c];rfl
def B8{α β:Type}{s:Sem α}{f:α->Sem β}{w aG:World}{acc c:Array Event}{h:Halt}(e:s.runT Q w acc=(.halt h aG,c)):(s >>= f).runT Q w acc=(.halt h aG,c):=by show(s.bind f).runT Q w acc=_;rw[Sem.runT_bind',e]
def JF(hu:Q.underlying 21=some (.int .i32))(l:a=0\/a=1){bx:Operand->Value}{v:Value}{X Y:Operand}{d:Option Nat}{t a':TypeId}{p:String}{E:Array Go.Edge}{g:Option (Nat×Bool)}(o:bx X=v)(q:bx Y=.int .i32 a):
 pZ Q (execOp bx ⟨d,.binOp .eql 21 X Y a',t,p,E,g⟩) w (v=.int .i32 a):=by
 have e:execOp bx ⟨d,.binOp .eql 21 X Y a',t,p,E,g⟩=(do let v <-(do eqGuard .eql 21 X Y v (.int .i32 a);binOp .eql 21 v (.int .i32 a));pure (.value v)):=by rw[<-o,<-q];rfl
 have j:eqGuard .eql 21 X Y v (.int .i32 a)=pure ():=by cases v<;>rfl
 rw[e,j];by_cases f:∃k n,v=.int k n
 .obtain⟨k,n,rfl⟩:=f
  by_cases h:k=.i32
  .subst h
   by_cases i:n=a
   .subst i
    refine .inl ⟨rfl,?_⟩;show(Result.ok (Next.value (.bool (n == n))) w,(#[]:Array Event))=_;rw[beq_self_eq_true]
   .right;left
    refine⟨w,#[],?_⟩;have:(n == a)=false:=beq_eq_false_iff_ne.2 i;show(Result.ok (Next.value (.bool (n == a))) w,(#[]:Array Event))=_;rw[this]
  .right;right
   have c:binOp .eql 21 (.int k n) (.int .i32 a)=stuck "BinOp: operands of different kinds":=by show(if k≠.i32 then _ else _)=_;rw[if_pos h]
   rw[c];exact⟨_,w,#[],rfl,trivial⟩
 .have c:binOp .eql 21 v (.int .i32 a)=(do pure (.bool (<-Op.equal 21 v (.int .i32 a)))):=by cases v<;>first|rfl|exact absurd ⟨_,_,rfl⟩ f
  rw[c];exact(GU hu l).op
def cj.JG{fn:FuncId}{tmps:Array Value}{k:List Item}{ops:Array Oper}{i:Nat}{rest:List Nat}{o:Oper}{es:Array Event}(h:cj Q b8 (lone ⟨fn,tmps,.inRegion ops (i::rest)::k,[],.run,kind,none⟩ C w))(d:2<=C.length)(g:kind=.normal\/kind=.deferred)(c:ops[i]?=some o)(f:o.guard=none)(j:(execOp (Frame.eval ⟨fn,tmps,.inRegion ops (i::rest)::k,[],.run,kind,none⟩) o).runT Q w #[]=(.ok .skip aG,es)):
 cj Q b8 (lone (Frame.finish ⟨fn,tmps,.inRegion ops (i::rest)::k,[],.run,kind,none⟩ undef) C aG):=by
 refine h.go (es:=seen Q fn es) d ?_;rw[pM,c];rw[if_pos (by simp[Region.wanted,f]),px (o:=o) (by simp[Frame.oper?,c]) (.inl rfl),rN j (by rcases g with rfl|rfl<;>rfl)]
def HG(v:Value)(todo d:List Item)(ops:Array Oper)(i:Nat)(rest:List Nat)(o:Oper)(c:ops[i]?=some o)(hd:o.dst=some 1):Frame.finish (cZ f n kind x t1 t2 t3 (.inRegion ops (i::rest)::todo)) v=cZ f n kind x v t2 t3 (.inRegion ops rest::todo):=by simp[cZ,Frame.finish,c,hd,Array.setIfInBounds_append]
def AF(v:Value)(todo d:List Item)(ops:Array Oper)(i:Nat)(rest:List Nat)(o:Oper)(c:ops[i]?=some o)(hd:o.dst=some 2):Frame.finish (cZ f n kind x t1 t2 t3 (.inRegion ops (i::rest)::todo)) v=cZ f n kind x t1 v t3 (.inRegion ops rest::todo):=by simp[cZ,Frame.finish,c,hd,Array.setIfInBounds_append]
def AG(v:Value)(todo d:List Item)(ops:Array Oper)(i:Nat)(rest:List Nat)(o:Oper)(c:ops[i]?=some o)(hd:o.dst=some 3):Frame.finish (cZ f n kind x t1 t2 t3 (.inRegion ops (i::rest)::todo)) v=cZ f n kind x t1 t2 v (.inRegion ops rest::todo):=by simp[cZ,Frame.finish,c,hd,Array.setIfInBounds_append]
def HF(v:Value)(todo d:List Item)(ops:Array Oper)(i:Nat)(rest:List Nat)(o:Oper)(c:ops[i]?=some o)(hd:o.dst=none):Frame.finish (cZ f n kind x t1 t2 t3 (.inRegion ops (i::rest)::todo)) v=cZ f n kind x t1 t2 t3 (.inRegion ops rest::todo):=by simp[cZ,Frame.finish,c,hd]
def tX{c:Operand}{A B:Code}{v:Bool}{todo:List Item}(h:cj Q b8 (lone (cZ f n kind x t1 t2 t3 (.code (.cond c A B)::todo)) C w))(hC:2<=C.length)(d:(cZ f n kind x t1 t2 t3 (.code (.cond c A B)::todo)).eval c=.bool v):cj Q b8 (lone (cZ f n kind x t1 t2 t3 (.code (if v then A else B)::todo)) C w):=by refine h.go (es:=#[]) hC ?_;show stepG Q true ⟨cZ f n kind x t1 t2 t3 (.code (.cond c A B)::todo),C,.running,none,none⟩ w=_;have e:Frame.eval ⟨f,#[x,t1,t2,t3]++Array.replicate n undef,.code (.cond c A B)::todo,[],.run,kind,none⟩ c=.bool v:=d;simp only[cZ,stepG,stepG.exec,e]
def Nf(hu:Q.underlying 257=some (.pointer 95))(L:Q.underlying 21=some (.int .i32)){i:TypeInfo}(W:Q.info? 21=some i)(Z:i.size=1)(ai:a=0\/a=1)(al:∀c,x=.pointer (some c)->w.cell? c=none->∃s,w.farLoad Q c false=.error (.stuck s))(h:cj Q b8 (lone (cZ f n kind x undef undef undef [.code (oB a b)]) C w))(hC:2<=C.length)(o:kind=.normal\/kind=.deferred):
 ∃c,x=.pointer (some c)/\w.cell? c=some (.int .i32 a)/\w.frozen? c=false/\cj Q b8 (lone {cZ f n kind x (.int .i32 a) (.bool true) (.bool false) [.code .ret]with mode:=.returning} C (w.setCell c (.int .i32 b))):=by
 have ad:cj Q b8 (lone (cZ f n kind x undef undef undef [.code (.region 0 lh false),.code (.cond (.tmp 3) (.refuse "") (jF a b))]) C w):=h.go (es:=#[]) hC rfl;have I:cj Q b8 (lone (cZ f n kind x undef undef undef [.inRegion lh [0],.code (.cond (.tmp 3) (.refuse "") (jF a b))]) C w):=ad.go (es:=#[]) hC rfl;have F:execOp (Frame.eval (cZ f n kind x undef undef undef [.inRegion lh [0],.code (.cond (.tmp 3) (.refuse "") (jF a b))])) ⟨some 3,.binOp .eql 257 (.tmp 0) (.const (.pointer none)) 257,4,"",#[],none⟩=(do let v <-(do pure (.bool (<-Op.equal 257 x (.pointer none))):Sem Value);pure (Next.value v)):=by have:=JE (t:=257) (a':=257) (bx:=Frame.eval (cZ f n kind x undef undef undef [.inRegion lh [0],.code (.cond (.tmp 3) (.refuse "") (jF a b))])) (X:=.tmp 0) (Y:=.const (.pointer none)) (p:= "") (E:=#[]) (g:=none) (dst:=some 3) (.pointer none) rfl (by rw[r6];cases x<;>rfl) (by rw[r6];cases x<;>rfl);rw[r6]at this;exact this
 have U:(⟨some 3,.binOp .eql 257 (.tmp 0) (.const (.pointer none)) 257,4,"",#[],none⟩:Oper).dst=some 3:=rfl;rcases G0 (x:=x) (w:=w) hu with⟨ao,j⟩|⟨c,rfl,j⟩|⟨B,aG,es,j,z⟩
 .have q:cj Q b8 (lone (Frame.finish (cZ f n kind x undef undef undef (.inRegion lh [0] :: [.code (.cond (.tmp 3) (.refuse "") (jF a b))])) (.bool true)) C w):=I.op (es:=#[]) hC o rfl rfl (by show(execOp (Frame.eval (cZ f n kind x undef undef undef [.inRegion lh [0],.code (.cond (.tmp 3) (.refuse "") (jF a b))])) ⟨some 3,.binOp .eql 257 (.tmp 0) (.const (.pointer none)) 257,4,"",#[],none⟩).runT Q w #[]=_;rw[F,rS,j])
  rw[AG _ _ [] _ _ _ _ rfl U]at q;have J:cj Q b8 (lone (cZ f n kind x undef undef (.bool true) [.code (.cond (.tmp 3) (.refuse "") (jF a b))]) C w):=q.go (es:=#[]) hC rfl;have K:=tX J hC (Ap _);exact(K.dead (es:=#[]) hC rfl).elim
 .have q:cj Q b8 (lone (Frame.finish (cZ f n kind (.pointer (some c)) undef undef undef (.inRegion lh [0] :: [.code (.cond (.tmp 3) (.refuse "") (jF a b))])) (.bool false)) C w):=I.op (es:=#[]) hC o rfl rfl (by show(execOp (Frame.eval (cZ f n kind (.pointer (some c)) undef undef undef [.inRegion lh [0],.code (.cond (.tmp 3) (.refuse "") (jF a b))])) ⟨some 3,.binOp .eql 257 (.tmp 0) (.const (.pointer none)) 257,4,"",#[],none⟩).runT Q w #[]=_;rw[F,rS,j])
  rw[AG _ _ [] _ _ _ _ rfl U]at q;have J:cj Q b8 (lone (cZ f n kind (.pointer (some c)) undef undef (.bool false) [.code (.cond (.tmp 3) (.refuse "") (jF a b))]) C w):=q.go (es:=#[]) hC rfl;have K:cj Q b8 (lone (cZ f n kind (.pointer (some c)) undef undef (.bool false) [.code (jF a b)]) C w):=tX J hC (Ap _);have ah:cj Q b8 (lone (cZ f n kind (.pointer (some c)) undef undef (.bool false) [.code (.region 1 (kn a) false),.code (.cond (.tmp 2) (.seq (.region 2 (g8 b) false) .ret) (.refuse ""))]) C w):=K.go (es:=#[]) hC rfl;have T:cj Q b8 (lone (cZ f n kind (.pointer (some c)) undef undef (.bool false) [.inRegion (kn a) [0,1],.code (.cond (.tmp 2) (.seq (.region 2 (g8 b) false) .ret) (.refuse ""))]) C w):=ah.go (es:=#[]) hC rfl;have P:execOp (Frame.eval (cZ f n kind (.pointer (some c)) undef undef (.bool false) [.inRegion (kn a) [0,1],.code (.cond (.tmp 2) (.seq (.region 2 (g8 b) false) .ret) (.refuse ""))])) ⟨some 1,.load 21 (.tmp 0),21,"",#[],none⟩=(loadVar 21 c >>= λv=>pure (Next.value v)):=by have:execOp (Frame.eval (cZ f n kind (.pointer (some c)) undef undef (.bool false) [.inRegion (kn a) [0,1],.code (.cond (.tmp 2) (.seq (.region 2 (g8 b) false) .ret) (.refuse ""))])) ⟨some 1,.load 21 (.tmp 0),21,"",#[],none⟩=(Instr.loadAt 21 ((cZ f n kind (.pointer (some c)) undef undef (.bool false) [.inRegion (kn a) [0,1],.code (.cond (.tmp 2) (.seq (.region 2 (g8 b) false) .ret) (.refuse ""))]).eval (.tmp 0)) >>= λv=>pure (Next.value v)):=rfl;rw[this,r6];rfl
  have ak:(⟨some 1,.load 21 (.tmp 0),21,"",#[],none⟩:Oper).dst=some 1:=rfl;rcases l:w.cell? c with _|v
  .obtain⟨s,u⟩:=al c rfl l
   obtain⟨es,j⟩:=Ix L c l u;exact(T.oh hC rfl rfl (x:=.stuck s) (aG:=w) (es:=es) (by show(execOp (Frame.eval (cZ f n kind (.pointer (some c)) undef undef (.bool false) [.inRegion (kn a) [0,1],.code (.cond (.tmp 2) (.seq (.region 2 (g8 b) false) .ret) (.refuse ""))])) ⟨some 1,.load 21 (.tmp 0),21,"",#[],none⟩).runT Q w #[]=_;rw[P,B8 j]) trivial).elim
  obtain⟨es,j⟩:=Iw L c l;have D:cj Q b8 (lone (Frame.finish (cZ f n kind (.pointer (some c)) undef undef (.bool false) (.inRegion (kn a) [0,1] :: [.code (.cond (.tmp 2) (.seq (.region 2 (g8 b) false) .ret) (.refuse ""))])) v) C w):=T.op (es:=es) hC o rfl rfl (by show(execOp (Frame.eval (cZ f n kind (.pointer (some c)) undef undef (.bool false) [.inRegion (kn a) [0,1],.code (.cond (.tmp 2) (.seq (.region 2 (g8 b) false) .ret) (.refuse ""))])) ⟨some 1,.load 21 (.tmp 0),21,"",#[],none⟩).runT Q w #[]=_;rw[P,i' j];rfl)
  rw[HG _ _ [] _ _ _ _ rfl ak]at D;have V:(⟨some 2,.binOp .eql 21 (.tmp 1) (.const (.int .i32 a)) 21,4,"",#[⟨0,.data⟩],none⟩:Oper).dst=some 2:=rfl;have aa:=JF (Q:=Q) (w:=w) L ai (bx:=Frame.eval (cZ f n kind (.pointer (some c)) v undef (.bool false) [.inRegion (kn a) [1],.code (.cond (.tmp 2) (.seq (.region 2 (g8 b) false) .ret) (.refuse ""))])) (X:=.tmp 1) (Y:=.const (.int .i32 a)) (d:=some 2) (t:=4) (a':=21) (p:= "") (E:=#[⟨0,.data⟩]) (g:=none) (Ha _) rfl;rcases aa with⟨am,j⟩|⟨aG,es,j⟩|⟨B,aG,es,j,z⟩
  .subst am
   have r:cj Q b8 (lone (Frame.finish (cZ f n kind (.pointer (some c)) (.int .i32 a) undef (.bool false) (.inRegion (kn a) [1] :: [.code (.cond (.tmp 2) (.seq (.region 2 (g8 b) false) .ret) (.refuse ""))])) (.bool true)) C w):=D.op (es:=#[]) hC o rfl rfl j;rw[AF _ _ [] _ _ _ _ rfl V]at r;have G:cj Q b8 (lone (cZ f n kind (.pointer (some c)) (.int .i32 a) (.bool true) (.bool false) [.code (.cond (.tmp 2) (.seq (.region 2 (g8 b) false) .ret) (.refuse ""))]) C w):=r.go (es:=#[]) hC rfl;have H:cj Q b8 (lone (cZ f n kind (.pointer (some c)) (.int .i32 a) (.bool true) (.bool false) [.code (.seq (.region 2 (g8 b) false) .ret)]) C w):=tX G hC (Ao _);have ae:cj Q b8 (lone (cZ f n kind (.pointer (some c)) (.int .i32 a) (.bool true) (.bool false) [.code (.region 2 (g8 b) false),.code .ret]) C w):=H.go (es:=#[]) hC rfl;have R:cj Q b8 (lone (cZ f n kind (.pointer (some c)) (.int .i32 a) (.bool true) (.bool false) [.inRegion (g8 b) [0],.code .ret]) C w):=ae.go (es:=#[]) hC rfl;have M:execOp (Frame.eval (cZ f n kind (.pointer (some c)) (.int .i32 a) (.bool true) (.bool false) [.inRegion (g8 b) [0],.code .ret])) ⟨none,.store 21 (.tmp 0) (.const (.int .i32 b)),0,"",#[],none⟩=(storeVar 21 c (.int .i32 b) >>= λ_=>pure Next.skip):=by have:execOp (Frame.eval (cZ f n kind (.pointer (some c)) (.int .i32 a) (.bool true) (.bool false) [.inRegion (g8 b) [0],.code .ret])) ⟨none,.store 21 (.tmp 0) (.const (.int .i32 b)),0,"",#[],none⟩=(Instr.storeAt 21 ((cZ f n kind (.pointer (some c)) (.int .i32 a) (.bool true) (.bool false) [.inRegion (g8 b) [0],.code .ret]).eval (.tmp 0)) (.int .i32 b) >>= λ_=>pure Next.skip):=rfl;rw[this,r6];rfl
   cases u:w.frozen? c with
   |true=>
    obtain⟨B,w',es,j,z⟩:=Nb W Z c l u b;exact(R.oh hC rfl rfl (x:=B) (aG:=w') (es:=es) (by
     show(execOp (Frame.eval (cZ f n kind (.pointer (some c)) (.int .i32 a) (.bool true) (.bool false) [.inRegion (g8 b) [0],.code .ret])) ⟨none,.store 21 (.tmp 0) (.const (.int .i32 b)),0,"",#[],none⟩).runT Q w #[]=_;rw[M,B8 j]) z).elim
   |false=>
    obtain⟨es,j⟩:=Na W Z c l u b;have aj:(⟨none,.store 21 (.tmp 0) (.const (.int .i32 b)),0,"",#[],none⟩:Oper).dst=none:=rfl;have S:cj Q b8 (lone (Frame.finish (cZ f n kind (.pointer (some c)) (.int .i32 a) (.bool true) (.bool false) (.inRegion (g8 b) [0] :: [.code .ret])) undef) C (w.setCell c (.int .i32 b))):=R.JG (es:=es) hC o rfl rfl (by show(execOp (Frame.eval (cZ f n kind (.pointer (some c)) (.int .i32 a) (.bool true) (.bool false) [.inRegion (g8 b) [0],.code .ret])) ⟨none,.store 21 (.tmp 0) (.const (.int .i32 b)),0,"",#[],none⟩).runT Q w #[]=_;rw[M,i' j];rfl)
    rw[HF _ _ [] _ _ _ _ rfl aj]at S;have af:cj Q b8 (lone (cZ f n kind (.pointer (some c)) (.int .i32 a) (.bool true) (.bool false) [.code .ret]) C (w.setCell c (.int .i32 b))):=S.go (es:=#[]) hC rfl;have ag:cj Q b8 (lone {cZ f n kind (.pointer (some c)) (.int .i32 a) (.bool true) (.bool false) [.code .ret]with mode:=.returning} C (w.setCell c (.int .i32 b))):=af.go (es:=#[]) hC rfl;exact⟨c,rfl,l,u,ag⟩
  .have r:cj Q b8 (lone (Frame.finish (cZ f n kind (.pointer (some c)) v undef (.bool false) (.inRegion (kn a) [1] :: [.code (.cond (.tmp 2) (.seq (.region 2 (g8 b) false) .ret) (.refuse ""))])) (.bool false)) C aG):=D.op (es:=es) hC o rfl rfl j
   rw[AF _ _ [] _ _ _ _ rfl V]at r;have G:cj Q b8 (lone (cZ f n kind (.pointer (some c)) v (.bool false) (.bool false) [.code (.cond (.tmp 2) (.seq (.region 2 (g8 b) false) .ret) (.refuse ""))]) C aG):=r.go (es:=#[]) hC rfl;have H:=tX G hC (Ao _);exact(H.dead (es:=#[]) hC rfl).elim
  .exact(D.oh hC rfl rfl (x:=B) (aG:=aG) (es:=es) j z).elim
 .exact(I.oh hC rfl rfl (x:=B) (by show(execOp (Frame.eval (cZ f n kind x undef undef undef [.inRegion lh [0],.code (.cond (.tmp 3) (.refuse "") (jF a b))])) ⟨some 3,.binOp .eql 257 (.tmp 0) (.const (.pointer none)) 257,4,"",#[],none⟩).runT Q w #[]=_;rw[F,rS,j]) z).elim
def GD(c:Q.funcs[54]?=some q0)(x y:Value):Frame.enter Q 54 #[x,y] kind=⟨54,#[x,y]++Array.replicate 40 undef,[.code vk],[],.run,kind,none⟩:=by unfold Frame.enter;rw[c];kernel_rfl
def GZ(hu:∃m,Q.underlying 110=some (.interface m)){bx:Operand->Value}(h:bx (.tmp 0)=x)(i:bx (.const .nilIface)=.nilIface){d:Option Nat}{t a':TypeId}{p:String}{E:Array Go.Edge}{g:Option (Nat×Bool)}:
 pZ Q (execOp bx ⟨d,.binOp .eql 110 (.tmp 0) (.const .nilIface) a',t,p,E,g⟩) w (x=.nilIface):=by
 obtain⟨m,hu⟩:=hu;have e:execOp bx ⟨d,.binOp .eql 110 (.tmp 0) (.const .nilIface) a',t,p,E,g⟩=(do let v <-(do eqGuard .eql 110 (.tmp 0) (.const .nilIface) x (bx (.const .nilIface));binOp .eql 110 x (bx (.const .nilIface)));pure (.value v)):=by rw[<-h];rfl
 have c:eqGuard .eql 110 (.tmp 0) (.const .nilIface) x .nilIface=pure ():=by cases x<;>rfl
 have f:binOp .eql 110 x .nilIface=(do pure (.bool (<-Op.equal 110 x .nilIface))):=by cases x<;>rfl
 rw[e,i,c,f];refine kx.op (s:=Op.equal 110 x .nilIface) ?_;unfold kx Op.equal Op.maxDepth Op.equalIn;rw[pR hu];cases x with
 |nilIface=>exact .inl ⟨rfl,rfl⟩
 |iface t v=>exact .inr (.inl ⟨w,#[],rfl⟩)
 |_=>right;right;exact⟨_,w,#[],rfl,trivial⟩
def Nd(hu:∃m,Q.underlying 110=some (.interface m)){T:Array Value}(r:T.getD 0 undef=x)(i:5<=T.size)(h:cj Q b8 (lone ⟨54,T,[.code vk],[],.run,kind,none⟩ C w))(hC:2<=C.length)(q:kind=.normal\/kind=.deferred):
 x=.nilIface/\cj Q b8 (lone ⟨54,(T.setIfInBounds 2 (.bool true)).setIfInBounds 4 (.bool false),[.code .ret],[],.returning,kind,none⟩ C w):=by
 have u:cj Q b8 (lone ⟨54,T,[.code (.region 0 py false),.code kA],[],.run,kind,none⟩ C w):=h.go (es:=#[]) hC rfl;have j:cj Q b8 (lone ⟨54,T,[.inRegion py [0],.code kA],[],.run,kind,none⟩ C w):=u.go (es:=#[]) hC rfl;have R:=GZ (w:=w) (x:=x) hu (bx:=Frame.eval ⟨54,T,[.inRegion py [0],.code kA],[],.run,kind,none⟩) r rfl (d:=some 2) (t:=4) (a':=110) (p:= "") (E:=#[]) (g:=none);rcases R with⟨I,f⟩|⟨aG,es,f⟩|⟨H,aG,es,f,G⟩
 .refine⟨I,?_⟩
  have l:cj Q b8 (lone ⟨54,T.setIfInBounds 2 (.bool true),[.inRegion py [],.code kA],[],.run,kind,none⟩ C w):=j.op (es:=#[]) hC q rfl rfl f;have o:cj Q b8 (lone ⟨54,T.setIfInBounds 2 (.bool true),[.code kA],[],.run,kind,none⟩ C w):=l.go (es:=#[]) hC rfl;have c:Frame.eval ⟨54,T.setIfInBounds 2 (.bool true),[.code kA],[],.run,kind,none⟩ (.tmp 2)=.bool true:=by show(T.setIfInBounds 2 (.bool true)).getD 2 undef=_;rw[Array.getD_eq_getD_getElem?,PC (by omega)];rfl
  have i:cj Q b8 (lone ⟨54,T.setIfInBounds 2 (.bool true),[.code (.seq (.region 1 qQ false) .ret)],[],.run,kind,none⟩ C w):=by refine o.go (es:=#[]) hC ?_;unfold kA at c ⊢;simp only[stepG,stepG.exec,c];rfl
  have z:cj Q b8 (lone ⟨54,T.setIfInBounds 2 (.bool true),[.code (.region 1 qQ false),.code .ret],[],.run,kind,none⟩ C w):=i.go (es:=#[]) hC rfl;have B:cj Q b8 (lone ⟨54,T.setIfInBounds 2 (.bool true),[.inRegion qQ [0],.code .ret],[],.run,kind,none⟩ C w):=z.go (es:=#[]) hC rfl;have D:cj Q b8 (lone ⟨54,(T.setIfInBounds 2 (.bool true)).setIfInBounds 4 (.bool false),[.inRegion qQ [],.code .ret],[],.run,kind,none⟩ C w):=B.op (es:=#[]) (aG:=w) (v:=.bool false) hC q rfl rfl rfl;have F:cj Q b8 (lone ⟨54,(T.setIfInBounds 2 (.bool true)).setIfInBounds 4 (.bool false),[.code .ret],[],.run,kind,none⟩ C w):=D.go (es:=#[]) hC rfl;exact F.go (es:=#[]) hC rfl
 .have l:cj Q b8 (lone ⟨54,T.setIfInBounds 2 (.bool false),[.inRegion py [],.code kA],[],.run,kind,none⟩ C aG):=j.op (es:=es) hC q rfl rfl f
  have o:cj Q b8 (lone ⟨54,T.setIfInBounds 2 (.bool false),[.code kA],[],.run,kind,none⟩ C aG):=l.go (es:=#[]) hC rfl;have c:Frame.eval ⟨54,T.setIfInBounds 2 (.bool false),[.code kA],[],.run,kind,none⟩ (.tmp 2)=.bool false:=by show(T.setIfInBounds 2 (.bool false)).getD 2 undef=_;rw[Array.getD_eq_getD_getElem?,PC (by omega)];rfl
  have i:cj Q b8 (lone ⟨54,T.setIfInBounds 2 (.bool false),[.code (.refuse "")],[],.run,kind,none⟩ C aG):=by refine o.go (es:=#[]) hC ?_;unfold kA at c ⊢;simp only[stepG,stepG.exec,c];rfl
  exact(i.dead (es:=#[]) hC rfl).elim
 .exact(j.oh hC rfl rfl (x:=H) (aG:=aG) (es:=es) f G).elim
end
end
section
variable{w:World}{t:Trace}{gs:Array Goroutine}{bF:Machine->Outcome->World->Trace->Prop}{aE:Nat->Prop}{bu:Frame}{rest:List Frame}{kd:CallKind}{b m:Nat}{bB:TypeId×Nat}
def mK(b m:Nat)(bB:TypeId×Nat)(kd:CallKind):dk (lR b m bB kd).P (lR b m bB kd).ext:=by unfold lR;exact iQ
def ly(b m:Nat)(kd:CallKind):dk (lu b m kd).P (lu b m kd).ext:=by unfold lu;exact iQ
def O3(kd:CallKind):dk (rO kd).P (rO kd).ext:=by unfold rO;exact iQ
def DS(c:(w.cell? ⟨b,m,none⟩).isSome):b<w.heap.size:=by
 refine Nat.lt_of_not_le λd=>?_
 have e:w.heap[b]?=none:=Array.getElem?_eq_none d;simp[World.cell?,e]at c
def LC{v:Value}(h:w.shape? b=some bB):(w.setCell ⟨b,m,none⟩ v).shape? b=some bB:=by
 cases d:w.heap[b]? with
 |none=>simp[World.shape?,d]at h
 |some o=>
  cases o with
  |cells c e f=>
   simp only[World.shape?,d]at h;have g:=cQ (o:=m) (v:=v) d;simp only[World.shape?,g,Array.size_setIfInBounds];exact h
  |_=>simp[World.shape?,d]at h
def IH(p:kd=.normal\/kd=.deferred)(F:Kept bu)(C:w.shape? b=some bB)(G:m<bB.2)(l:w.cell? ⟨b,m,none⟩=some (.int .i32 0))(z:w.frozen? ⟨b,m,none⟩=false)(i:b5 aF aE gs ⟨Frame.enter aF 121 #[.pointer (some ⟨b,m,none⟩)] kd,bu::rest,.running,none,none⟩ w t 0)(k:∀gs d t,b5 aF aE gs ⟨er kd bu (.tuple #[]),rest,.running,none,none⟩ ((w.setCell ⟨b,m,none⟩ (.int .i32 1)).at d) t 0->∀sl,Ends aF bF (crowd gs ((w.setCell ⟨b,m,none⟩ (.int .i32 1)).at d) sl) t):∀sl,Ends aF bF (crowd gs w sl) t:=by
 have D:=DS (by rw[l];rfl);have bP:hs (lR b m bB kd) (bu::rest) aE gs w t 0 .h4 (Frame.enter aF 121 #[.pointer (some ⟨b,m,none⟩)] kd,[]) 10 400:=⟨⟨_,IA b m bB kd p,rfl⟩,Pk,i⟩
 refine bP.quiet (mK b m bB kd) λgs d1 t x j a s1 g c=>?_
 obtain rfl:a=9:=by omega
 refine s1.fix (mK b m bB kd) (λ_=>Pk) c (he:=.head _) λd2=>⟨_,_,.mark (.mark (.nil _)),Pk,λe he=>?_,λgs t x s2=>?_⟩
 .have he:e∈[(⟨.mark .disable,false,true⟩:Event)]:=he
  rw[Ps he];exact m4 (λx f=>by cases f) trivial
 have s2:hs (lR b m bB kd) (bu::rest) aE gs (w.at d2) t 1 .iF x 9 400:=s2;refine s2.quiet (mK b m bB kd) λgs d3 t x j a J g c=>?_
 obtain rfl:a=8:=by omega
 refine J.fix (mK b m bB kd) (λ_=>Pk) c (he:=.head _) λd4=>⟨((w.at d2).at d3).at d4 |>.setCell ⟨b,m,none⟩ (.int .i32 1),_,.mark (.shape (show(World.at _ d4).shape? b=some bB from C) (.frozen z (.load l (.store l z (.nil _))))),by show w.heap.size<=(w.setCell _ _).heap.size;simp,λe he=>?_,λgs t x h=>?_⟩
 .have he:e∈[(⟨.cell ⟨b,m,none⟩,false,true⟩:Event),⟨.cell ⟨b,m,none⟩,true,true⟩]:=he
  have B:b<(((w.at d2).at d3).at d4 |>.setCell ⟨b,m,none⟩ (.int .i32 1)).heap.size:=by show b<(w.setCell ⟨b,m,none⟩ (.int .i32 1)).heap.size;simpa using D
  rcases List.mem_cons.1 he with rfl|he
  .exact r5 B
  .rw[Ps he];exact r5 B
 have h:hs (lR b m bB kd) (bu::rest) aE gs ((w.setCell ⟨b,m,none⟩ (.int .i32 1)).at d4) t 1 .hy x 8 400:=h;show ∀sl,Ends aF bF (crowd gs ((w.setCell ⟨b,m,none⟩ (.int .i32 1)).at d4) sl) t;generalize hW:w.setCell ⟨b,m,none⟩ (.int .i32 1)=W at h k ⊢;have H:W.shape? b=some bB:=by rw[<-hW];exact LC C
 refine h.quiet (mK b m bB kd) λgs d5 t x j a K g c=>?_
 obtain rfl:a=7:=by omega
 refine K.fix (mK b m bB kd) (λ_=>Pk) c (he:=.head _) λd6=>⟨_,_,.mark (.mark (.nil _)),Pk,λe he=>?_,λgs t x r=>?_⟩
 .have he:e∈[(⟨.mark .enable,false,true⟩:Event)]:=he
  rw[Ps he];exact m4 (λx f=>by cases f) trivial
 have r:hs (lR b m bB kd) (bu::rest) aE gs (W.at d6) t 0 .fz x 7 400:=r;refine r.quiet (mK b m bB kd) λgs d7 t x j a L g c=>?_
 have f:=c.iu (he:=.head _);obtain⟨o,E⟩:=IF b m bB kd p;refine L.gr.step λd8=>⟨⟨(ob b m bB kd).1.finish (.pointer (some ⟨b,m,none⟩)),(ob b m bB kd).2++(bu::rest),.running,none,none⟩,W.at d8,#[],?_,rfl,Pk,(λe he=>by simp at he),λgs t sl u=>?_⟩
 .rw[f]
  exact zW E (w:=W.at d8) (e:=bB.1) (n:=bB.2) H G true (bu::rest) .running none
 have u:hs (lR b m bB kd) (bu::rest) aE gs (W.at d8) t 0 .aq ((ob b m bB kd).1.finish (.pointer (some ⟨b,m,none⟩)),(ob b m bB kd).2) 10 400:=⟨⟨_,IB b m bB kd p,rfl⟩,Pk,u⟩
 refine u.quiet (mK b m bB kd) (λgs d9 t x j a M g c=>?_) sl;obtain rfl:a=9:=by omega
 refine M.fix (mK b m bB kd) (λ_=>Pk) c (he:=.head _) λd10=>⟨_,_,.mark (.mark (.nil _)),Pk,λe he=>?_,λgs t x q=>?_⟩
 .have he:e∈[(⟨.mark (.acquire ⟨b,m,none⟩),false,true⟩:Event)]:=he
  rw[Ps he];exact m4 (λx f=>by cases f) (by
   have:W.heap.size=w.heap.size:=by rw[<-hW];simp
   show b<W.heap.size;omega)
 have q:hs (lR b m bB kd) (bu::rest) aE gs (W.at d10) t 0 .fin x 9 400:=q;refine q.quiet (mK b m bB kd) λgs d11 t x j a I g c=>?_
 exact I.leave F c (he:=.head _) λgs d12 t i=>k gs d12 t i
def Oh(p:kd=.normal\/kd=.deferred)(F:Kept bu)(H:w.shape? b=some bB)(G:m<bB.2)(h:w.cell? ⟨b,m,none⟩=some (.int .i32 1))(E:w.frozen? ⟨b,m,none⟩=false)(l:b5 aF aE gs ⟨Frame.enter aF 122 #[.pointer (some ⟨b,m,none⟩)] kd,bu::rest,.running,none,none⟩ w t 0)(k:∀gs d t,b5 aF aE gs ⟨er kd bu (.tuple #[]),rest,.running,none,none⟩ ((w.setCell ⟨b,m,none⟩ (.int .i32 0)).at d) t 0->∀sl,Ends aF bF (crowd gs ((w.setCell ⟨b,m,none⟩ (.int .i32 0)).at d) sl) t):∀sl,Ends aF bF (crowd gs w sl) t:=by
 have B:=DS (by rw[h];rfl);have bP:hs (lu b m kd) (bu::rest) aE gs w t 0 .ld (Frame.enter aF 122 #[.pointer (some ⟨b,m,none⟩)] kd,[]) 10 400:=⟨⟨_,Oa b m kd p,rfl⟩,Pk,l⟩
 refine bP.quiet (ly b m kd) λgs d1 t x j a s1 g c=>?_
 obtain rfl:a=9:=by omega
 refine s1.fix (ly b m kd) (λ_=>Pk) c (he:=.head _) λd2=>⟨_,_,.load h (.nil _),Pk,λe he=>?_,λgs t x s2=>?_⟩
 .have he:e∈([]:List Event):=he
  cases he
 have s2:hs (lu b m kd) (bu::rest) aE gs (w.at d2) t 0 .fz x 9 400:=s2;refine s2.quiet (ly b m kd) λgs d3 t x j a K g c=>?_
 have f:=c.iu (he:=.head _);obtain⟨o,D⟩:=Of b m kd p;refine K.gr.step λd4=>⟨⟨(oG b m kd).1.finish (.pointer (some ⟨b,m,none⟩)),(oG b m kd).2++(bu::rest),.running,none,none⟩,w.at d4,#[],?_,rfl,Pk,(λe he=>by simp at he),λgs t sl r=>?_⟩
 .rw[f]
  exact zW D (w:=w.at d4) (e:=bB.1) (n:=bB.2) H G true (bu::rest) .running none
 have r:hs (lu b m kd) (bu::rest) aE gs (w.at d4) t 0 .ck ((oG b m kd).1.finish (.pointer (some ⟨b,m,none⟩)),(oG b m kd).2) 10 400:=⟨⟨_,Ob b m kd p,rfl⟩,Pk,r⟩
 refine r.quiet (ly b m kd) (λgs d5 t x j a L g c=>?_) sl;obtain rfl:a=9:=by omega
 refine L.fix (ly b m kd) (λ_=>Pk) c (he:=.head _) λd6=>⟨_,_,.mark (.mark (.nil _)),Pk,λe he=>?_,λgs t x u=>?_⟩
 .have he:e∈[(⟨.mark (.releaseMerge ⟨b,m,none⟩),false,true⟩:Event)]:=he
  rw[Ps he];exact m4 (λx f=>by cases f) B
 have u:hs (lu b m kd) (bu::rest) aE gs (w.at d6) t 0 .h4 x 9 400:=u;refine u.quiet (ly b m kd) λgs d7 t x j a M g c=>?_
 obtain rfl:a=8:=by omega
 refine M.fix (ly b m kd) (λ_=>Pk) c (he:=.head _) λd8=>⟨_,_,.mark (.mark (.nil _)),Pk,λe he=>?_,λgs t x z=>?_⟩
 .have he:e∈[(⟨.mark .disable,false,true⟩:Event)]:=he
  rw[Ps he];exact m4 (λx f=>by cases f) trivial
 have z:hs (lu b m kd) (bu::rest) aE gs (w.at d8) t 1 .add x 8 400:=z;refine z.quiet (ly b m kd) λgs d9 t x j a P g c=>?_
 obtain rfl:a=7:=by omega
 refine P.fix (ly b m kd) (λ_=>Pk) c (he:=.head _) λd10=>⟨(w.setCell ⟨b,m,none⟩ (.int .i32 0)).at d10,_,.mark (.load h (.store h E (.nil _))),by show w.heap.size<=(w.setCell _ _).heap.size;simp,λe he=>?_,λgs t x i=>?_⟩
 .have he:e∈[(⟨.cell ⟨b,m,none⟩,false,true⟩:Event),⟨.cell ⟨b,m,none⟩,true,true⟩]:=he
  have C:b<((w.setCell ⟨b,m,none⟩ (.int .i32 0)).at d10).heap.size:=by show b<(w.setCell ⟨b,m,none⟩ (.int .i32 0)).heap.size;simpa using B
  rcases List.mem_cons.1 he with rfl|he
  .exact r5 C
  .rw[Ps he];exact r5 C
 have i:hs (lu b m kd) (bu::rest) aE gs ((w.setCell ⟨b,m,none⟩ (.int .i32 0)).at d10) t 1 .hy x 7 400:=i;generalize w.setCell ⟨b,m,none⟩ (.int .i32 0)=W at i k ⊢;refine i.quiet (ly b m kd) λgs d11 t x j a I g c=>?_
 obtain rfl:a=6:=by omega
 refine I.fix (ly b m kd) (λ_=>Pk) c (he:=.head _) λd12=>⟨_,_,.mark (.mark (.nil _)),Pk,λe he=>?_,λgs t x q=>?_⟩
 .have he:e∈[(⟨.mark .enable,false,true⟩:Event)]:=he
  rw[Ps he];exact m4 (λx f=>by cases f) trivial
 have q:hs (lu b m kd) (bu::rest) aE gs (W.at d12) t 0 .fin x 6 400:=q;refine q.quiet (ly b m kd) λgs d13 t x j a J g c=>?_
 exact J.leave F c (he:=.head _) λgs d14 t l=>k gs d14 t l
def Ev(g:kd=.normal\/kd=.deferred)(h:Kept bu)(y:Value)(c:b5 aF aE gs ⟨Frame.enter aF 54 #[.nilIface,y] kd,bu::rest,.running,none,none⟩ w t 0)(k:∀gs d t,b5 aF aE gs ⟨er kd bu (.bool false),rest,.running,none,none⟩ (w.at d) t 0->∀sl,Ends aF bF (crowd gs (w.at d) sl) t):∀sl,Ends aF bF (crowd gs w sl) t:=by
 have bP:hs (rO kd) (bu::rest) aE gs w t 0 .di (Frame.enter aF 54 #[.nilIface,y] kd,[]) 5 400:=⟨⟨_,Et y kd g,rfl⟩,Pk,c⟩
 refine bP.quiet (O3 kd) λgs d1 t x j a s1 i f=>?_
 exact s1.leave h f (he:=.head _) λgs d14 t c=>k gs d14 t c
end
end Go.aN
namespace Go.aN
attribute [-simp] Go.Sem.runT_eq
open Go.ConcM (OsLater)
open Go.Proofs Go.Conc Go.ConcN
section
variable{Q:Program}{R:Value->World->Prop}{f0:FuncId}{K:fV Q aF}{G:Machine->Outcome->World->Trace->Prop}
structure j6(Q:Program):Prop where
 S:bK Q aF
 eo:ey (eE (h5 Q)) Q Q
 f75:Q.funcs[54]?=some q0
 f141:Q.funcs[121]?=some pG
 f142:Q.funcs[122]?=some pH
 dy:dX Q 54=some 2/\dX Q 121=some 1/\dX Q 122=some 1
def Lw(eo:ey (eE (h5 Q)) Q Q){V:cY}{n:Nat}{fr:Frame}{cs:List Frame}{aG:World}(g:en Q f0 R V)(h:Self Q V)(l:¬V.stop)(i:runN Q n V.m=.next (lone fr (cs++[wall]) aG))(j:V≠⟨fr,cs,aG⟩):
 en Q f0 R ⟨fr,cs,aG⟩/\Self Q ⟨fr,cs,aG⟩/\ds Q ⟨fr,cs,aG⟩ V:=by
 obtain⟨c,d,_,f⟩:=Cw eo n g h rfl i;exact⟨c,d,f.resolve_left j⟩
def j6.vv(D:j6 Q):Q.underlying 257=some (.pointer 95):=by rw[D.S.under];exact aF.vv
def j6.pQ(D:j6 Q):Q.underlying 21=some (.int .i32):=by rw[D.S.under];exact aF.pQ
def aF.i21:(aF.info? 21).map (·.size)=some 1:=by kernel_rfl
def j6.i21(D:j6 Q):∃i,Q.info? 21=some i/\i.size=1:=by
 have h:=aF.i21;have e:Q.info? 21=aF.info? 21:=D.S.info 21;rw[e];cases x:aF.info? 21 with
 |none=>rw[x]at h;cases h
 |some i=>rw[x]at h;exact⟨i,rfl,by simpa using h⟩
def aF.yQ:∃m,aF.underlying 110=some (.interface m):=⟨#[("Error",266)],by kernel_rfl⟩
def j6.yQ(D:j6 Q):∃m,Q.underlying 110=some (.interface m):=by obtain⟨m,h⟩:=aF.yQ;exact⟨m,by rw[D.S.under];exact h⟩
def AZ{ρ:Ren}{i g:Frame}(h:cG K ρ i g):Kept i/\Kept g:=by
 refine⟨λe j f=>?_,λe j f=>?_⟩
 .have:=h.mode
  rw[f]at this;generalize g.mode=l at this;cases this with
  |panicking d=>
   cases d with
   |cons c _=>exact c.recovered.1
 .have:=h.mode
  rw[f]at this;generalize i.mode=l at this;cases this with
  |panicking d=>
   cases d with
   |cons c _=>exact c.recovered.2
def EF{ρ:Ren}{f c:Frame}(h:cG K ρ f c){kd:CallKind}(g:kd=.normal\/kd=.deferred){v d:Value}(i:aM ρ v d):cG K ρ (er kd f v) (er kd c d):=by
 unfold er;rcases g with rfl|rfl
 .exact pa h i
 .exact h
def yp{aE:Nat->Prop}{hX ρ:Ren}{v0 aI:World}{V:cY}{w u:World}{c g:Frame}{d gW base:List Frame}{kd:CallKind}{v h:Value}{f:World}{n:Nat}{gs:Array Goroutine}{t:Trace}(D:j6 Q)(r:en Q f0 R V)(z:Self Q V)(H:V.fr.mode=.run)(F:V.cs=c::d)(hrel:lF aE ρ)(P:∀b,aE b->b<w.heap.size)(J:Fit Q ρ)(U:ρ.room=true)(C:cG K ρ c g)(E:cA (cG K ρ) d gW)(M:kd=.normal\/kd=.deferred)(Y:aM ρ v h)(X:w.heap.size<=u.heap.size)(L:gb ρ f u)(I:ff hX ρ v0 f aI u)(S:runN Q n V.m=.next (lone (er kd c v) (d++[wall]) f))(W:b5 aF aE gs ⟨er kd g h,gW++base,.running,none,none⟩ u t 0)(cont:∀i b6 l j bf w' a',ds Q b6 V->lB K f0 R aE i b6 l j base bf w' a'->lD K i b6 l j w'->ff hX i v0 b6.w aI w'->∀sl,Ends aF G (crowd bf w' sl) a'):∀sl,Ends aF G (crowd gs u sl) t:=by
 have T:V≠⟨er kd c v,d,f⟩:=λe=>by have:=congrArg cY.cs e;rw[F]at this;exact absurd (congrArg List.length this) (by simp)
 obtain⟨o,p,q⟩:=Lw D.eo r z (oi H) S T;exact cont ρ ⟨er kd c v,d,f⟩ (er kd g h) gW gs u t q ⟨o,p,hrel,λb B=>Px (P b B) X,W⟩ ⟨J,U,EF C M Y,E,L⟩ I
def xP(a:Array Value)(h:a.size=1):a=#[a[0]]:=by
 apply Array.ext
 .simp[h]
 .intro i c d
  have:i=0:=by omega
  subst this;rfl
def OW{ρ:Ren}{V w:World}{c d:Addr}(z:gb ρ V w)(i:cU ρ c d){x:Int}(p:V.cell? c=some (.int .i32 x))(q:V.frozen? c=false)(y:Int):
 ∃b m e n,d=⟨b,m,none⟩/\w.shape? b=some (e,n)/\m<n/\w.cell? ⟨b,m,none⟩=some (.int .i32 x)/\w.frozen? ⟨b,m,none⟩=false/\gb ρ (V.setCell c (.int .i32 y)) (w.setCell ⟨b,m,none⟩ (.int .i32 y))/\ff ρ ρ V (V.setCell c (.int .i32 y)) w (w.setCell ⟨b,m,none⟩ (.int .i32 y)):=by
 have l:=z.vF;have f:(c9 V (gF V w)).cell? c=some (.int .i32 x):=p;have u:(c9 V (gF V w)).frozen? c=false:=q;rcases wy l i with⟨v,F,I,h,D⟩|I
 .rw[f]at I
  cases I;cases D;obtain⟨e,n,C,B,j⟩:=World.shape?_of_cell? h;obtain⟨_,r,_,E,he⟩:=yH l i (aM.int (ρ:=ρ) .i32 y) f u;obtain⟨b,m,sp⟩:=d;dsimp only at j;cases sp with
  |some s=>cases j
  |none=>
   have g:=E.hrel;exact⟨b,m,e,n,rfl,C,B,h,r,⟨g.obj,g.lim,g.iI⟩,⟨he.le,λb o x=>(he.new b o x).imp id And.right,he.size,he.out,he.guard,he.tape,he.output,by rw[he.os];exact OsLater.refl _⟩⟩
 .rw[f]at I;cases I
def CG(D:j6 Q){base:List Frame}{hX:Ren}{v0 aI:World}:∀aE ρ V bg cs' gs w t,(∀f a kd,K.fn f->V.fr=Frame.enter Q f a kd->f=54\/f=121\/f=122)->lB K f0 R aE ρ V bg cs' base gs w t->vK K ρ V bg cs' w->ff hX ρ v0 V.w aI w->
 (∀ap b6 av aq bf w' a',ds Q b6 V->lB K f0 R aE ap b6 av aq base bf w' a'->lD K ap b6 av aq w'->ff hX ap v0 b6.w aI w'->∀sl,Ends aF G (crowd bf w' sl) a')->∀sl,Ends aF G (crowd gs w sl) t:=by
 intro aE ρ V bg cs' gs w t aJ g he h cont;obtain⟨ay,aD,⟨f,a,b,kd,aO,j,U,af,rfl,ad⟩,aB,aw,J⟩:=he;obtain⟨S,r,P,gW,E,rfl,ae,ax⟩:∃S r P gW,V.cs=S::r/\cs'=P::gW/\cG K ρ S P/\cA (cG K ρ) r gW:=by
  generalize V.cs=l at aw aB;cases aw with
  |nil=>exact absurd rfl aB
  |@cons x y l m al aU=>exact⟨_,_,_,_,rfl,rfl,al,aU⟩
 obtain⟨cu,am⟩:=AZ ae;have aA:V.fr.mode=.run:=by rw[af];rfl
 have hC:2<=(V.cs++[wall]).length:=by rw[E];simp
 have A:=g.going.eS (aL:=V.w.tape) (λ_ _=>rfl);have T:cj Q V.m (lone (Frame.enter Q f a kd) (V.cs++[wall]) V.w):=by rw[<-af];exact A
 have B:=g.st;have mutex:∀(x y:Int) (n:Nat) (Y:Func),(x=0\/x=1)->a.size=1->Q.funcs[f]?=some Y->Y.results=#[]->(∀z,Frame.enter Q f #[z] kd=cZ f n kd z undef undef undef [.code (oB x y)])->
  (∀(c m:Nat) (e n:Nat) (ao:World),ao=w->w.shape? c=some (e,n)->m<n->w.cell? ⟨c,m,none⟩=some (.int .i32 x)->w.frozen? ⟨c,m,none⟩=false->
   b5 aF aE gs ⟨Frame.enter aF f #[.pointer (some ⟨c,m,none⟩)] kd,P::(gW++base),.running,none,none⟩ w t 0->
   (∀gs d t,b5 aF aE gs ⟨er kd P (.tuple #[]),gW++base,.running,none,none⟩ ((w.setCell ⟨c,m,none⟩ (.int .i32 y)).at d) t 0->∀sl,Ends aF G (crowd gs ((w.setCell ⟨c,m,none⟩ (.int .i32 y)).at d) sl) t)->∀sl,Ends aF G (crowd gs w sl) t)->∀sl,Ends aF G (crowd gs w sl) t:=by
  intro x y n Y al aG az aC aN run;have ar:=xP a aG;have ai:b.size=1:=by rw[<-U.1];exact aG
  have au:=xP b ai;generalize a[0]'(by omega)=p at ar;generalize b[0]'(by omega)=q at au;subst ar;subst au;have W:aM ρ p q:=U.2 0 p q rfl rfl;rw[aN p]at T;obtain⟨i,aQ,aS⟩:=D.i21;obtain⟨X,rfl,H,I,C⟩:=Nf D.vv D.pQ aQ aS al (λX aR aW=>by
   subst aR;cases W with
   |ptr aa=>
    exact wV (Q:=Q) J.vF aa false) T hC j
  cases W with
  |ptr aa=>
   obtain⟨c,m,e,cM,rfl,M,L,aK,aP,ah,o⟩:=OW J aa H I y;refine run c m e cM w rfl M L aK aP B λgs d t aj sl=>?_
   have aT:w.heap.size<=((w.setCell ⟨c,m,none⟩ (.int .i32 y)).at d).heap.size:=by show w.heap.size<=(w.setCell _ _).heap.size;simp
   have ag:lQ Q kd ({cZ f n kd (.pointer (some X)) (.int .i32 x) (.bool true) (.bool false) [.code .ret]with mode:=.returning},[]) []=some (.tuple #[],[]):=by
    unfold lQ cZ;rcases j with rfl|rfl
    .simp only[az]
     unfold results;rw[aC];kernel_rfl
    .simp only[az]
     unfold results;rw[aC];kernel_rfl
   have F:V.cs++[wall]=S::(r++[wall]):=by rw[E];rfl
   rw[F]at C;have ak:=(n' (main:=true) (st:=.running) (off:=none) ag (rest:=r++[wall]) cu (Does.nil (V.w.setCell X (.int .i32 y)))).2;obtain⟨N,Z⟩:=(C.go (by rw[<-F];exact hC) ak).1;exact yp D g.going g.self aA E g.rel g.low ay aD ae ax j rl aT ⟨ah.obj,ah.lim,ah.iI⟩ (h.trans ⟨o.le,o.new,o.size,o.out,o.guard,o.tape,o.output,o.os⟩) Z aj cont sl
 rcases aJ f a kd aO af with rfl|rfl|rfl
 .obtain⟨p,y,rfl⟩:∃x y,a=#[x,y]:=⟨_,_,two a (ad 2 D.dy.1)⟩
  have ai:b.size=2:=by rw[<-U.1];rfl
  obtain⟨q,aV,rfl⟩:∃x y,b=#[x,y]:=⟨_,_,two b ai⟩
  have W:aM ρ p q:=U.2 0 p q rfl rfl;rw[GD D.f75 p y]at T;have aH:(#[p,y]++Array.replicate 40 undef).getD 0 undef=p:=by rw[Array.getD_eq_getD_getElem?,Array.getElem?_append_left (by simp)];rfl
  obtain⟨rfl,C⟩:=Nd D.yQ (x:=p) aH (by simp) T hC j;cases W;refine Ev j am aV B λgs d t aj sl=>?_
  have ag:lQ Q kd ((⟨54,((#[.nilIface,y]++Array.replicate 40 undef).setIfInBounds 2 (.bool true)).setIfInBounds 4 (.bool false),[.code .ret],[],.returning,kd,none⟩:Frame),[]) []=some (.bool false,[]):=by
   unfold lQ;rcases j with rfl|rfl
   .simp only[D.f75]
    kernel_rfl
   .simp only[D.f75]
    kernel_rfl
  have F:V.cs++[wall]=S::(r++[wall]):=by rw[E];rfl
  rw[F]at C;have ak:=(n' (main:=true) (st:=.running) (off:=none) ag (rest:=r++[wall]) cu (Does.nil V.w)).2;obtain⟨N,Z⟩:=(C.go (by rw[<-F];exact hC) ak).1;exact yp D g.going g.self aA E g.rel g.low ay aD ae ax j (aM.bool _) (u:=w.at d) (show w.heap.size<=w.heap.size from Pk) ⟨J.obj,J.lim,J.iI⟩ ⟨h.le,h.new,h.size,h.out,h.guard,h.tape,h.output,h.os⟩ Z aj cont sl
 .exact mutex 0 1 9 pG (.inl rfl) (ad 1 D.dy.2.1) D.f141 rfl (λz=>Gy D.f141 z) λc m e n ao _ M L H I B k=>IH (bB:=(e,n)) j am M L H I B k
 .exact mutex 1 0 17 pH (.inr rfl) (ad 1 D.dy.2.2) D.f142 rfl (λz=>Gz D.f142 z) λc m e n ao _ M L H I B k=>Oh (bB:=(e,n)) j am M L H I B k
end
section
variable{Q:Program}{K:fV Q aF}{G:Machine->Outcome->World->Trace->Prop}
abbrev hq:=List (Nat×Obj×Obj)
def gU(lim:Nat)(br:hq):World:={heap:=Array.replicate lim (.cells #[] 0 (0,0))++(br.map (·.2.1)).toArray,tape:=λ_ _=>0,drawn:=0,os:=default,output:=#[]}
def qA(lim:Nat)(br:hq):(gU lim br).heap.size=lim+br.length:=by simp[gU]
def kl{lim:Nat}{br:hq}{i:Nat}{x:Nat×Obj×Obj}(h:br[i]?=some x):(gU lim br).heap[lim+i]?=some x.2.1:=by show(Array.replicate lim (Obj.cells #[] 0 (0,0))++(br.map (·.2.1)).toArray)[lim+i]?=_;rw[Array.getElem?_append_right (by simp)];simp[h]
structure hJ(lim:Nat)(br:hq):Prop where
 bJ:∀(i j:Nat) x y,br[i]?=some x->br[j]?=some y->x.1=y.1->i=j
 ge:∀x∈br,lim<=x.1
def hJ.get{lim:Nat}{br:hq}(h:hJ lim br){i:Nat}{x:Nat×Obj×Obj}(e:br[i]?=some x):lim<=x.1:=h.ge x (Py e)
def nc(Q:Program)(e:TypeId):Nat:=max (Q.cellsOf e) (if e=3\/e=59 then 18446744073709551616 else 0)
noncomputable def gj(Q:Program)(br:hq)(h:hJ Q.globals.size br):Ren where
 r a b:=∃i x,br[i]?=some x/\a=Q.globals.size+i/\b=x.1
 fwd:=by
  rintro a b c ⟨i,x,d,rfl,rfl⟩ ⟨j,y,f,e,rfl⟩;obtain rfl:i=j:=by omega
  rw[d]at f;cases f;rfl
 bwd:=by rintro a b c ⟨i,x,d,rfl,rfl⟩ ⟨j,y,f,rfl,e⟩;rw[h.bJ i j x y d f e]
 lim:=Q.globals.size
 low:=by rintro a b ⟨i,x,d,rfl,rfl⟩;have:=h.get d;omega
 exact:=false
 cells:=nc Q
 dw:=λc=>codeOk Q true c=true
 room:=true
 dy:=dX Q
 dC:=km Q
def sh{br:hq}{h:hJ Q.globals.size br}{i:Nat}{x:Nat×Obj×Obj}(e:br[i]?=some x):(gj Q br h).r (Q.globals.size+i) x.1:=⟨i,x,e,rfl,rfl⟩
noncomputable def xi(Q:Program)(br:hq):Ren where
 r a b:=a=b/\Q.globals.size<=a/\a<Q.globals.size+br.length
 fwd:=by rintro a b c ⟨rfl,_⟩ ⟨rfl,_⟩;rfl
 bwd:=by rintro a b c ⟨rfl,_⟩ ⟨rfl,_⟩;rfl
 lim:=Q.globals.size
 low:=by rintro a b ⟨rfl,_⟩;exact Iff.rfl
 exact:=false
 cells:=Q.cellsOf
 dw:=λc=>codeOk Q true c=true
 room:=true
 dy:=dX Q
 dC:=km Q
def HV{br:hq}{h:hJ Q.globals.size br}{a b:Nat}(k:(gj Q br h).r a b):(xi Q br).r a a:=by obtain⟨i,x,e,rfl,rfl⟩:=k;have:=(List.getElem?_eq_some_iff.1 e).1;exact⟨rfl,by omega,by omega⟩
def vz{ρ ai:Ren}(q:∀a b,ρ.r a b->ai.r a a)(u:ai.dy=ρ.dy/\ai.dC=ρ.dC){v w:Value}(x:aM ρ v w):aM ai v v:=by
 induction x with
 |ptr a=>exact .ptr ⟨q _ _ a.block,rfl,rfl⟩
 |slice a l c=>exact .slice ⟨q _ _ a.block,rfl,rfl⟩ l c
 |map a=>exact .map (q _ _ a)
 |@func f g a b c d fr r _ F _ D E=>
  refine .func ?_ rfl (λi x y h j=>?_) rfl (λi x y h j=>?_)
  .cases fr with
   |func f B=>exact .func f (by rw[u.1];exact B)
   |yield k=>exact .yield (q _ _ k)
  .rw[h]at j;cases j
   obtain⟨z,o⟩:∃z,b[i]?=some z:=⟨_,Pu (by have:=bp h;omega)⟩
   exact D i x z h o
  .rw[h]at j;cases j
   obtain⟨z,o⟩:∃z,d[i]?=some z:=⟨_,Pu (by have:=bp h;omega)⟩
   exact E i x z h o
 |iface t _ p=>exact .iface t p
 |@agg a b r _ p=>exact .agg rfl (λi x y h j=>by
  rw[h]at j;cases j;obtain⟨z,o⟩:∃z,b[i]?=some z:=⟨_,Pu (by have:=bp h;omega)⟩
  exact p i x z h o)
 |@tuple a b r _ p=>exact .tuple rfl (λi x y h j=>by
  rw[h]at j;cases j;obtain⟨z,o⟩:∃z,b[i]?=some z:=⟨_,Pu (by have:=bp h;omega)⟩
  exact p i x z h o)
 |fM _ _=>exact .tuple rfl (λi x y h=>by simp at h)
 |jO C=>exact .jO (u.2.trans C)
 |_=>constructor
def DQ{ρ ai:Ren}(g:∀a b,ρ.r a b->ai.r a a)(f:ai.dy=ρ.dy/\ai.dC=ρ.dC){a b:Array Value}(x:bE ρ a b):bE ai a a:=⟨rfl,λi y z d c=>by
 rw[d]at c;cases c;obtain⟨z,c⟩:∃z,b[i]?=some z:=⟨_,Pu (by have:=bp d;have:=x.1;omega)⟩
 exact vz g f (x.2 i y z d c)⟩
def ma:Obj->Prop
 |.cells ..=>True
 |.map ..=>True
 |_=>False
def Jx{ρ ai:Ren}(q:∀a b,ρ.r a b->ai.r a a)(p:ai.dy=ρ.dy/\ai.dC=ρ.dC){o u:Obj}(D:ma o)(x:ev ρ o u)(E:∀c e f d w B,o=.cells c e f->u=.cells d w B->c.size<=d.size):ev ai o o:=by
 cases x with
 |@cells c d e f g F C G=>
  refine .cells (.inl rfl) (λi x y j l=>?_) (.inl rfl);rw[j]at l;cases l;have:=E _ _ _ _ _ _ rfl rfl;obtain⟨z,r⟩:∃z,d[i]?=some z:=⟨_,Pu (by have:=bp j;omega)⟩
  exact vz q p (C i x z j r)
 |@map es bd h c=>
  refine .map ⟨rfl,λi x y j l=>?_⟩ c;rw[j]at l;cases l;obtain⟨z,r⟩:∃z,bd[i]?=some z:=⟨_,Pu (by have:=bp j;have:=h.1;omega)⟩
  have k:=h.2 i x z j r;exact⟨vz q p k.key,vz q p k.val,rfl⟩
 |_=>exact D.elim
def HU(D:j6 Q)(nj:hR Q=none){br:hq}(bj:hJ Q.globals.size br)(E:∀x∈br,ma x.2.1/\ev (gj Q br bj) x.2.1 x.2.2/\∀c e f d l q,x.2.1=.cells c e f->x.2.2=.cells d l q->c.size<=d.size){f:FuncId}{a b:Array Value}(B:bE (gj Q br bj) a b)(C:dX Q f=none){R:Value->World->Prop}(z:en Q f R ⟨Frame.enter Q f a .normal,[],gU Q.globals.size br⟩):Self Q ⟨Frame.enter Q f a .normal,[],gU Q.globals.size br⟩:=by
 have j:∀a b,(gj Q br bj).r a b->(xi Q br).r a a:=λ_ _ h=>HV h
 refine⟨xi Q br,⟨⟨rfl,λ_=>Pk,rfl,rfl⟩,rfl,λb e=>by rw[nj]at e;cases e⟩,rfl,?_,.nil,?_,λ_ _=>rfl,?_,?_⟩
 .rcases vt (nX (K:=h5 Q) D.eo f (DQ j ⟨rfl,rfl⟩ B) (λn e=>by have e:dX Q f=some n:=e;rw[C]at e;cases e) .normal (.inl rfl))with h|⟨J,h,hm⟩
  .exact h
  .obtain⟨o,w2,G,p⟩:=pE (Q:=Q) (V:=⟨Frame.enter Q f a .normal,[],gU Q.globals.size br⟩) h hm (gU Q.globals.size br)
   exact(z.live (aL:=(gU Q.globals.size br).tape) (λ_ _=>rfl) (oi hm) p).elim
 .rintro b F ⟨rfl,H,I⟩
  obtain⟨i,rfl⟩:∃i,b=Q.globals.size+i:=⟨b-Q.globals.size,by omega⟩
  obtain⟨x,g⟩:∃x,br[i]?=some x:=⟨_,List.getElem?_eq_getElem (by omega)⟩
  obtain⟨r,u,w⟩:=E x (Py g);exact⟨_,_,kl g,kl g,Jx j ⟨rfl,rfl⟩ r u w⟩
 .show Q.globals.size<=(gU Q.globals.size br).heap.size
  rw[qA];omega
 .show Q.globals.size<=(gU Q.globals.size br).heap.size
  rw[qA];omega
def Bg(D:j6 Q)(H:ey (eE K) Q aF)(U:∀f,K.fn f->f=54\/f=121\/f=122)(au:∀f a b,¬K.cJ f a b)(nj:hR Q=none){br:hq}(bj:hJ Q.globals.size br)(I:∀x∈br,ma x.2.1/\ev (gj Q br bj) x.2.1 x.2.2/\∀c e f d P j,x.2.1=.cells c e f->x.2.2=.cells d P j->c.size<=d.size){f:FuncId}(af:¬K.fn f){a b:Array Value}(B:bE (gj Q br bj) a b)(C:dX Q f=none){R:Value->World->Prop}(aa:∀w:World,w.heap=(gU Q.globals.size br).heap->w.drawn=0->Calls Q f a w λe w'=>∃v,e=.returned v/\R v w'){aE:Nat->Prop}{u:World}{gs:Array Goroutine}{t:Trace}{c:Frame}{cs:List Frame}(aJ:Kept c)(hu:∀x∈br,u.heap[x.1]?=some x.2.2/\¬aE x.1)(ap:∀b,aE b->b<u.heap.size)(am:Q.globals.size<=u.heap.size)(Y:b5 aF aE gs ⟨Frame.enter aF f b .normal,c::cs,.running,none,none⟩ u t 0)
 (k:∀bf ay a' ai v g dc,R v dc->aM ai v g->gb ai dc ay->ff (gj Q br bj) ai (gU Q.globals.size br) dc u ay->lF aE ai->(∀b,aE b->b<ay.heap.size)->
  b5 aF aE bf ⟨c.finish g,cs,.running,none,none⟩ ay a' 0->∀sl,Ends aF G (crowd bf ay sl) a'):∀sl,Ends aF G (crowd gs u sl) t:=by
 have p:en Q f R ⟨Frame.enter Q f a .normal,[],gU Q.globals.size br⟩:=en.xO λaL _=>aa (c9 (gU Q.globals.size br) aL) rfl rfl
 have X:=HU D nj bj I B C p;have ak:gb (gj Q br bj) (gU Q.globals.size br) u:=by refine⟨?_,by show Q.globals.size<=_;rw[qA];omega,am⟩;rintro b r ⟨i,x,e,rfl,rfl⟩;exact⟨_,_,kl e,(hu x (Py e)).1,(I x (Py e)).2.1⟩
 have ah:cG K (gj Q br bj) (Frame.enter Q f a .normal) (Frame.enter aF f b .normal):=by
  have l:=nX (K:=K) H f B (λn e=>by have e:dX Q f=some n:=e;rw[C]at e;cases e) .normal (.inl rfl);generalize L:Frame.enter Q f a .normal=x at l;generalize aN:Frame.enter aF f b .normal=y at l;cases l with
  |plain h=>exact h
  |refused aO h hm=>
   rw[<-L]at h hm;obtain⟨o,w2,aC,S⟩:=pE (Q:=Q) (V:=⟨Frame.enter Q f a .normal,[],gU Q.globals.size br⟩) h hm (gU Q.globals.size br);exact(p.live (aL:=(gU Q.globals.size br).tape) (λ_ _=>rfl) (oi hm) S).elim
  |@qq j aB r kd h F _ _=>
   have e:=congrArg Frame.fn L;have:f=j:=e;subst this;exact(af h).elim
 have hrel:lF aE (gj Q br bj):=by rintro b r ⟨i,x,e,rfl,rfl⟩;exact(hu x (Py e)).2
 refine λsl=>lB.go (base:=c::cs) (hX:=gj Q br bj) (v0:=gU Q.globals.size br) (aI:=u) (R:=R) D.S D.eo H au (Ok:=λdE=>dE=aE) ?_ ?_ rfl ⟨p,X,hrel,ap,Y⟩ ⟨⟨⟨rfl,λ_=>Nat.le_max_left _ _,rfl,rfl⟩,rfl,λb e=>by rw[nj]at e;cases e⟩,rfl,ah,.nil,ak⟩ (ff.refl _ _ _) sl
 .intro dE ρ V bg cs' gs w t q al he E cont
  subst q;exact CG D dE ρ V bg cs' gs w t (λf _ _ h _=>U f h) al he E (λaA b6 T M bf w' a'=>cont dE aA b6 T M bf w' a' rfl)
 .intro dE ρ V bg gs w t q aH aK ao E av F aD aq sl
  subst q;refine av.step (λd=>?_) sl;obtain⟨v,g,ai,dc,aG,es,W,ax,aw,aj,ag,ar,J,ae,ad⟩:=aq d;refine⟨⟨c.finish g,cs,.running,none,none⟩,aG,es,?_,rfl,J,ae,λbf a' az z=>?_⟩
  .rw[aw]
   simp[GStep.after,doReturn,F]
  .rw[ad]at z
   exact k bf aG a' ai v g dc W ax aj ag ar (λb Z=>Px (ao b Z) J) z az
end
end Go.aN
namespace Go.aN
attribute [-simp] Go.Sem.runT_eq
open Go.Proofs Go.Conc Go.ConcN
section
variable{bF:Machine->Outcome->World->Trace->Prop}{aE:Nat->Prop}{aI u ay:World}{gs:Array Goroutine}{t:Trace}{c:Frame}{cs:List Frame}
def bD.app{Pos lE p:Type}{A:cS Pos}{jd:cS lE}{y':cS p}{M bR:Mem}{dE:Nat->Prop}(h:bD A aE aI u M)(k:bD jd dE u ay bR)(C:∀b,b<u.heap.size->dE b->aE b):bD y' dE aI ay (M++bR):=by
 have cs:∀(i:Nat) own b o,(M++bR)[i]?=some (own,b,o)->(i<M.length/\M[i]?=some (own,b,o))\/(M.length<=i/\bR[i-M.length]?=some (own,b,o)):=λi own b o e=>by
  rcases Nat.lt_or_ge i M.length with aj|aj
  .rw[PF aj]at e;exact .inl ⟨aj,e⟩
  .rw[PE aj]at e;exact .inr ⟨aj,e⟩
 have lt:∀(i:Nat) own b o,M[i]?=some (own,b,o)->b<u.heap.size:=λi own b o e=>fB h.mem e
 refine⟨⟨λi own b o e=>?_,λi j own b o l f g c d z=>?_⟩,λb w=>?_,h.calm.trans k.calm,λi own b o e=>?_,k.dD⟩
 .rcases cs i own b o e with⟨_,e⟩|⟨_,e⟩
  .exact(k.old b (lt i own b o e)).trans (h.mem.has i own b o e)
  .exact k.mem.has _ own b o e
 .rcases cs i own b o c with⟨q,c⟩|⟨q,c⟩<;>rcases cs j l f g d with⟨r,d⟩|⟨r,d⟩
  .exact h.mem.eV i j _ _ _ _ _ _ c d z
  .have:=lt i own b o c
   have:=(k.eD _ _ _ _ d).1;omega
  .have:=lt j l f g d
   have:=(k.eD _ _ _ _ c).1;omega
  .exact k.mem.eV _ _ _ _ _ _ _ _ c d (by omega)
 .have:=h.calm.size
  exact(k.old b (by omega)).trans (h.old b w)
 .rcases cs i own b o e with⟨_,e⟩|⟨_,e⟩
  .exact⟨(h.eD i own b o e).1,λB=>(h.eD i own b o e).2 (C b (lt i own b o e) B)⟩
  .have:=k.eD _ own b o e
   have:=h.calm.size;exact⟨by omega,(k.eD _ own b o e).2⟩
def bD.start{Pos:Type}{A:cS Pos}(u:World)(c:∀b,aE b->b<u.heap.size):bD A aE u u []:=
 ⟨⟨λi own b o e=>by simp at e,λi j own b o g d f e=>by simp at e⟩,λ_ _=>rfl,Calm.refl u,λi own b o e=>by simp at e,c⟩
def bD.to{Pos lE:Type}{A:cS Pos}{jd:cS lE}{M:Mem}(h:bD A aE aI u M):bD jd aE aI u M:=⟨h.mem,h.old,h.calm,h.eD,h.dD⟩
def bD.cast{Pos lE:Type}{A:cS Pos}{jd:cS lE}{M bR:Mem}(h:bD A aE aI u M)(e:M=bR):bD jd aE aI u bR:=by subst e;exact h.to
def bD.tail{Pos lE:Type}{A:cS Pos}{jd:cS lE}{M:Mem}{x:Bool×Nat×Obj}(h:bD A aE aI u (x::M)):bD jd aE aI u M:=
 (h.sub (jd:=A) (λi own b o e=>⟨i+1,own,e⟩) (λi j own b o l c g d f p=>h.mem.eV (i+1) (j+1) own b o l c g d f (by omega))).to
def bD.none{Pos lE:Type}{A:cS Pos}{jd:cS lE}{M:Mem}(h:bD A aE aI u M):bD jd aE aI u []:=
 (h.sub (jd:=A) (bR:=[]) (λi own b o e=>by simp at e) (λi j own b o g d f c=>by simp at c)).to
structure vX where
 l:Nat
 z:dr
 M:Mem
def e8(z:dr):Value:=.agg #[ad 2,sl z.F 2,sl z.R 2,sl z.Fr 1]
def ho(z:dr):Mem:=[(true,z.F,.cells #[ad 2,ad 1] 3 (0,0)),(true,z.fl,.cells #[ad 1,ad 2] 3 (0,0)),(true,z.fo,.cells #[ad 3,ad 1] 3 (0,0)),(true,z.R,.cells #[ad 0,sl z.fl 2,ad 2,sl z.fo 2] 55 (0,0)),(true,z.Fr,.cells #[ad 3] 3 (0,0))]
def ND:vX->List (Edge vX)
 |⟨0,z,M⟩=>[.new true (.cells #[i0,cN,cN,cN] 27 (0,0)) λb=>⟨1,z,M++[(true,b,.cells #[i0,cN,cN,cN] 27 (0,0))]⟩]
 |⟨1,z,M⟩=>[.new true (.cells #[ad 2,ad 1] 3 (0,0)) λb=>⟨2,{z with F:=b},M++[(true,b,.cells #[ad 2,ad 1] 3 (0,0))]⟩]
 |⟨2,z,M⟩=>[.new true (.cells #[ad 1,ad 2] 3 (0,0)) λb=>⟨3,{z with fl:=b},M++[(true,b,.cells #[ad 1,ad 2] 3 (0,0))]⟩]
 |⟨3,z,M⟩=>[.new true (.cells #[ad 3,ad 1] 3 (0,0)) λb=>⟨4,{z with fo:=b},M++[(true,b,.cells #[ad 3,ad 1] 3 (0,0))]⟩]
 |⟨4,z,M⟩=>[.new true (.cells #[ad 0,sl z.fl 2,ad 2,sl z.fo 2] 55 (0,0)) λb=>⟨5,{z with R:=b},M++[(true,b,.cells #[ad 0,sl z.fl 2,ad 2,sl z.fo 2] 55 (0,0))]⟩]
 |⟨5,z,M⟩=>[.new true (.cells #[ad 3] 3 (0,0)) λb=>⟨6,{z with Fr:=b},M++[(true,b,.cells #[ad 3] 3 (0,0))]⟩]
 |⟨6,z,M⟩=>[.bH [.st 0 0 (ad 2),.st 0 1 (sl z.F 2),.st 0 2 (sl z.R 2),.st 0 3 (sl z.Fr 1)] ⟨7,z,cK M [.st 0 0 (ad 2),.st 0 1 (sl z.F 2),.st 0 2 (sl z.R 2),.st 0 3 (sl z.Fr 1)]⟩]
 |⟨7,z,_⟩=>[.jP [.ld 0 0,.ld 0 1,.ld 0 2,.ld 0 3] (e8 z)]
 |_=>[]
noncomputable def nv:cS vX:=⟨Tryz.prog,gn,λ_=>false,.normal,λp=>p.M,λ_=>400,ND⟩
def oJ:dk nv.P nv.ext:=by unfold nv;exact iQ
set_option maxRecDepth 100000 in
def NG(T:Nat):Good nv 20 ⟨0,⟨T,0,0,0,0,0⟩,[]⟩ (Frame.enter Tryz.prog 27 #[] .normal,[]):=by all_goals repeat' (first|exact trivial|kernel_rfl|refine⟨?_,?_⟩|refine λ(_:Nat)=>?_|intro _)
def pN(q:Kept c)(r:∀b,aE b->b<u.heap.size)(o:b5 aF aE gs ⟨Frame.enter aF 27 #[] .normal,c::cs,.running,none,none⟩ u t 0)(k:∀bf ay a' z,bD nv aE u ay (ho z)->b5 aF aE bf ⟨c.finish (e8 z),cs,.running,none,none⟩ ay a' 0->∀sl,Ends aF bF (crowd bf ay sl) a'):∀sl,Ends aF bF (crowd gs u sl) t:=by
 have d:∀p,nv.dA p<=400:=λ_=>Pk
 have bP:eB nv (c::cs) aE u gs u t ⟨0,⟨0,0,0,0,0,0⟩,[]⟩ (Frame.enter aF 27 #[] .normal,[]) 20 400:=⟨⟨_,NG 0,rfl⟩,Pk,bD.start u r,o⟩
 refine bP.new oJ d (.head _) λH Q t1 Y j s1=>?_
 refine s1.new oJ d (.head _) λI S t2 Z F s2=>?_
 refine s2.new oJ d (.head _) λJ T t3 aa g w=>?_
 refine w.new oJ d (.head _) λK U t4 ae h B=>?_
 refine B.new oJ d (.head _) λL V t5 af R C=>?_
 refine C.new oJ d (.head _) λM W t6 ag f D=>?_
 refine D.bH oJ d (.head _) λP X t7 ah E=>?_
 refine E.jP oJ q (.head _) λl G t8 dB i=>?_
 exact k l G t8 ⟨0,F,R,g,h,f⟩ (bD.tail (x:=(true,j,.cells #[ad 2,sl F 2,sl R 2,sl f 1] 27 (0,0))) (A:=nv) (dB.cast (by kernel_rfl))) i
structure vW where
 l:Nat
 M:Mem
def mL:Obj:=.cells #[i0,i0] 30 (0,0)
def MX:vW->List (Edge vW)
 |⟨0,M⟩=>[.new true (.cells #[i0,i0,i0,i0,i0] 32 (0,0)) λb=>⟨1,M++[(true,b,.cells #[i0,i0,i0,i0,i0] 32 (0,0))]⟩]
 |⟨1,M⟩=>[.new true mL λb=>⟨2,M++[(true,b,mL)]⟩]
 |⟨2,M⟩=>[.bH [.st 1 0 (ad 20),.st 1 1 (ad 26)] ⟨3,cK M [.st 1 0 (ad 20),.st 1 1 (ad 26)]⟩]
 |⟨3,M⟩=>[.bH [.ld 1 0,.ld 1 1] ⟨4,cK M [.ld 1 0,.ld 1 1]⟩]
 |⟨4,M⟩=>[.new true mL λb=>⟨5,M++[(true,b,mL)]⟩]
 |⟨5,M⟩=>[.bH [.st 2 0 (ad 46),.st 2 1 (ad 50)] ⟨6,cK M [.st 2 0 (ad 46),.st 2 1 (ad 50)]⟩]
 |⟨6,M⟩=>[.bH [.ld 2 0,.ld 2 1] ⟨7,cK M [.ld 2 0,.ld 2 1]⟩]
 |⟨7,M⟩=>[.bH [.st 0 0 (ad 0),.st 0 1 (ad 20),.st 0 2 (ad 26),.st 0 3 (ad 46),.st 0 4 (ad 50)] ⟨8,cK M [.st 0 0 (ad 0),.st 0 1 (ad 20),.st 0 2 (ad 26),.st 0 3 (ad 46),.st 0 4 (ad 50)]⟩]
 |⟨8,_⟩=>[.jP [.ld 0 0,.ld 0 1,.ld 0 2,.ld 0 3,.ld 0 4] (.agg c8)]
 |_=>[]
noncomputable def rb:cS vW:=⟨Tryz.prog,gn,λ_=>false,.normal,λp=>p.M,λ_=>400,MX⟩
def nD:dk rb.P rb.ext:=by unfold rb;exact iQ
set_option maxRecDepth 100000 in
def MY:Good rb 20 ⟨0,[]⟩ (Frame.enter Tryz.prog 28 #[] .normal,[]):=by all_goals repeat' (first|exact trivial|kernel_rfl|refine⟨?_,?_⟩|refine λ(_:Nat)=>?_|intro _)
def sR(h:Kept c)(i:∀b,aE b->b<u.heap.size)(g:b5 aF aE gs ⟨Frame.enter aF 28 #[] .normal,c::cs,.running,none,none⟩ u t 0)(k:∀bf ay a',bD nv aE u ay []->b5 aF aE bf ⟨c.finish (.agg c8),cs,.running,none,none⟩ ay a' 0->∀sl,Ends aF bF (crowd bf ay sl) a'):∀sl,Ends aF bF (crowd gs u sl) t:=by
 have d:∀p,rb.dA p<=400:=λ_=>Pk
 have bP:eB rb (c::cs) aE u gs u t ⟨0,[]⟩ (Frame.enter aF 28 #[] .normal,[]) 20 400:=⟨⟨_,MY,rfl⟩,Pk,bD.start u i,g⟩
 refine bP.new nD d (.head _) λF P t1 X C s1=>?_
 refine s1.new nD d (.head _) λG Q t2 Y D s2=>?_
 refine s2.bH nD d (.head _) λH R t3 Z l=>?_
 refine l.bH nD d (.head _) λI S t4 aa o=>?_
 refine o.new nD d (.head _) λJ T t5 ad E q=>?_
 refine q.bH nD d (.head _) λK U t6 ae r=>?_
 refine r.bH nD d (.head _) λL V t7 af w=>?_
 refine w.bH nD d (.head _) λM W t8 ag z=>?_
 refine z.jP nD h (.head _) λf B t9 j a9=>?_
 exact k f B t9 j.none a9
end
end Go.aN
