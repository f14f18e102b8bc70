/- Part 18 of a law on fees: no conditions. -/
import Derived.Test.YthiiblonjmmnfaaGreatDoorP16
import Derived.WalkKit
import Derived.Lib.Hide
import Derived.OwnWalk
import Derived.Laws.AppendOwn
import Derived.Laws.IdiomRangeMap
import Derived.Laws.NewBlocks
import Derived.LoopTactic
import Derived.Maps.AppendAt
set_option maxHeartbeats 8000000
set_option maxRecDepth 100000
set_option linter.all false
namespace Go.aN
attribute [-simp] Go.Sem.runT_eq
open Go.Proofs
section
variable{Q:Program}{R:Value->World->Prop}{f0:FuncId}
def cj(Q:Program)(b8 m:Machine):Prop:=Steps Q b8 m/\∃bg w',Steps Q m (lone bg [wall] w')
def en.eS{V:cY}(h:en Q f0 R V){aL:Tape}(d:∀k,k<V.w.drawn->aL k=V.w.tape k):cj Q (V.gm aL).m (V.gm aL).m:=by obtain⟨v,w',bg,_,c,_⟩:=h aL d;exact⟨Steps.refl _ _,bg,w',c⟩
section
variable{b8:Machine}{fr w8:Frame}{cs wG:List Frame}{w aG:World}{es:Array Event}
def cj.go(h:cj Q b8 (lone fr cs w))(d:2<=cs.length)(e:stepG Q true ⟨fr,cs,.running,none,none⟩ w=.go ⟨w8,wG,.running,none,none⟩ aG es):cj Q b8 (lone w8 wG aG):=by
 obtain⟨⟨cH,g⟩,bg,w',n,c⟩:=h;have f:step Q (lone fr cs w)=.next (lone w8 wG aG):=step_lone_go (by rw[e];rfl);refine⟨(show Steps Q b8 (lone fr cs w)from⟨cH,g⟩).trans (Steps.head f (Steps.refl _ _)),bg,w',?_⟩;cases n with
 |zero=>
  simp only[runN]at c;injection c with c
  obtain⟨_,i,_⟩:=oc c;rw[i]at d;simp at d
 |succ n=>
  simp only[runN,f]at c;exact⟨n,c⟩
def cj.dead{o:Outcome}(h:cj Q b8 (lone fr cs w))(d:2<=cs.length)(e:stepG Q true ⟨fr,cs,.running,none,none⟩ w=.ended o aG es):False:=by
 obtain⟨_,bg,w',n,c⟩:=h;have g:step Q (lone fr cs w)=.ended o aG:=step_lone_ended (by rw[e];rfl);cases n with
 |zero=>
  simp only[runN]at c;injection c with c
  obtain⟨_,f,_⟩:=oc c;rw[f]at d;simp at d
 |succ n=>
  simp only[runN,g]at c;cases c
variable{fn:FuncId}{tmps:Array Value}{k:List Item}{kind:CallKind}{ops:Array Oper}{i:Nat}{rest:List Nat}{o:Oper}
def cj.op(h:cj Q b8 (lone ⟨fn,tmps,.inRegion ops (i::rest)::k,[],.run,kind,none⟩ cs w))(d:2<=cs.length)(g:kind=.normal\/kind=.deferred)(c:ops[i]?=some o)(f:o.guard=none){v:Value}(j:(execOp (Frame.eval ⟨fn,tmps,.inRegion ops (i::rest)::k,[],.run,kind,none⟩) o).runT Q w #[]=(.ok (.value v) aG,es)):
 cj Q b8 (lone (Frame.finish ⟨fn,tmps,.inRegion ops (i::rest)::k,[],.run,kind,none⟩ v) cs aG):=by
 refine h.go (es:=seen Q fn es) d ?_;rw[pM,c];rw[if_pos (by simp[Region.wanted,f]),px (o:=o) (by simp[Frame.oper?,c]) (.inl rfl),qf j (by rcases g with rfl|rfl<;>rfl)]
def cj.oh(h:cj Q b8 (lone ⟨fn,tmps,.inRegion ops (i::rest)::k,[],.run,kind,none⟩ cs w))(d:2<=cs.length)(c:ops[i]?=some o)(f:o.guard=none){x:Halt}(g:(execOp (Frame.eval ⟨fn,tmps,.inRegion ops (i::rest)::k,[],.run,kind,none⟩) o).runT Q w #[]=(.halt x aG,es))(j:iC x):False:=by obtain⟨l,q,bd,e⟩:=v' (p:=Q) (fr:=⟨fn,tmps,.inRegion ops (i::rest)::k,[],.run,kind,none⟩) (cs:=cs) g j;refine h.dead (o:=l) (aG:=q) (es:=bd) d ?_;rw[pM,c];rw[if_pos (by simp[Region.wanted,f]),px (o:=o) (by simp[Frame.oper?,c]) (.inl rfl),e]
end
def bq.DJ(T:Nat):(bq T).underlying 16=some (.pointer 271):=by kernel_rfl
def bq.N7(T:Nat):(bq T).underlying 3=some (.int .i64):=by kernel_rfl
def bq.CA(T:Nat):((bq T).info? 271).map (·.size)=some 0:=by kernel_rfl
def pZ(Q:Program)(s:Sem Next)(w:World)(c:Prop):Prop:=
 (c/\s.runT Q w #[]=(.ok (.value (.bool true)) w,#[]))\/(∃aG es,s.runT Q w #[]=(.ok (.value (.bool false)) aG,es))\/∃x aG es,s.runT Q w #[]=(.halt x aG,es)/\iC x
def kx(Q:Program)(s:Sem Bool)(w:World)(c:Prop):Prop:=
 (c/\s.runT Q w #[]=(.ok true w,#[]))\/(∃aG es,s.runT Q w #[]=(.ok false aG,es))\/∃x aG es,s.runT Q w #[]=(.halt x aG,es)/\iC x
def pR{α:Type}{t:TypeId}{d:TypeDesc}(hu:Q.underlying t=some d)(f:TypeDesc->Sem α)(w:World)(acc:Array Event):(underlying t >>= f).runT Q w acc=(f d).runT Q w acc:=by show((match Q.underlying t with|some d=>(pure d:Sem TypeDesc)|none=>stuck "no such type") >>= f).runT Q w acc=_;rw[hu];rfl
def CB{α:Type}{t:TypeId}{i:TypeInfo}(c:Q.info? t=some i)(f:Nat->Sem α)(w:World)(acc:Array Event):(sizeOf t >>= f).runT Q w acc=(f i.size).runT Q w acc:=by have e:(sizeOf t >>= f).runT Q w acc=(((match Q.info? t with|some d=>(pure d:Sem TypeInfo)|none=>stuck "no such type") >>= λi=>(pure i.size:Sem Nat)) >>= f).runT Q w acc:=rfl;rw[e,c];rfl
def GR(T:Nat){x:Value}{w:World}(f:w.tape w.drawn .zeroSizeEq=0):kx (bq T) (Op.equal 16 x (.pointer (some ⟨T,0,none⟩))) w (x=.pointer (some ⟨T,0,none⟩)):=by
 have hu:=bq.DJ T;obtain⟨i,c,d⟩:∃i,(bq T).info? 271=some i/\i.size=0:=by
  have:=bq.CA T;cases e:(bq T).info? 271 with
  |none=>rw[e]at this;cases this
  |some i=>rw[e]at this;exact⟨i,rfl,by simpa using this⟩
 unfold kx Op.equal Op.maxDepth Op.equalIn;rw[pR hu];cases x with
 |pointer b=>
  cases b with
  |none=>right;left;exact⟨w,#[],rfl⟩
  |some b=>
   dsimp only;rw[CB c,d];simp only[ne_eq,not_true_eq_false,if_false];by_cases e:b=⟨T,0,none⟩
   .left
    subst e;refine⟨rfl,?_⟩;rw[if_pos (by simp)];rfl
   .right;left
    rw[if_neg (by simpa using e)];refine⟨{w with drawn:=w.drawn+1},#[],?_⟩;have e:(choose .zeroSizeEq >>= λx=>(pure (decide (x=1)):Sem Bool)).runT (bq T) w #[]=(.ok (decide (w.tape w.drawn .zeroSizeEq%2=1)) {w with drawn:=w.drawn+1},#[]):=by simp[choose,bind,Sem.bind,pure,Sem.runT,Question.forced,Question.cut];rfl
    refine e.trans ?_;rw[f];rfl
 |_=>right;right;exact⟨_,w,#[],rfl,trivial⟩
def GY(T:Nat){x:Value}{w:World}:kx (bq T) (Op.equal 3 x (.int .i64 0)) w (x=.int .i64 0):=by
 have hu:=bq.N7 T;unfold kx Op.equal Op.maxDepth Op.equalIn;rw[pR hu];cases x with
 |pointer b=>
  cases b with
  |none=>right;right;exact⟨_,w,#[],rfl,trivial⟩
  |some b=>right;left;exact⟨w,#[],rfl⟩
 |int k n=>
  dsimp only;by_cases e:k=.i64
  .subst e
   rw[if_pos rfl];by_cases e:n=0
   .subst e
    exact .inl ⟨rfl,rfl⟩
   .right;left
    exact⟨w,#[],by show(Result.ok (n == 0) w,_)=_;rw[beq_eq_false_iff_ne.2 e]⟩
  .rw[if_neg e]
   exact .inr (.inr ⟨_,w,#[],rfl,trivial⟩)
 |_=>right;right;exact⟨_,w,#[],rfl,trivial⟩
def rS{s:Sem Bool}{w:World}(acc:Array Event):(do let v <-(do pure (.bool (<-s)):Sem Value);pure (Next.value v)).runT Q w acc=match s.runT Q w acc with
 |(.ok b w',es)=>(.ok (.value (.bool b)) w',es)
 |(.halt h w',es)=>(.halt h w',es):=by
 have c:∀(s:Sem Bool) (w:World) (acc:Array Event),(s >>= λb=>(pure (.bool b):Sem Value)).runT Q w acc=match s.runT Q w acc with
  |(.ok b w',es)=>(.ok (.bool b) w',es)
  |(.halt h w',es)=>(.halt h w',es):=λs w acc=>by rw[show(s >>= λb=>(pure (.bool b):Sem Value))=s.bind (λb=>pure (.bool b))from rfl,Sem.runT_bind'];rcases s.runT Q w acc with⟨_|_,_⟩<;>rfl
 rw[show(do let v <-(do pure (.bool (<-s)):Sem Value);pure (Next.value v))=(s >>= λb=>(pure (.bool b):Sem Value)).bind (λv=>pure (Next.value v))from rfl,Sem.runT_bind',c];rcases s.runT Q w acc with⟨_|_,_⟩<;>rfl
def kx.op{s:Sem Bool}{w:World}{d:Prop}(h:kx Q s w d):pZ Q (do let v <-(do pure (.bool (<-s)):Sem Value);pure (.value v)) w d:=by
 unfold pZ;rw[rS];rcases h with⟨f,c⟩|⟨aG,es,c⟩|⟨x,aG,es,c,g⟩
 .exact .inl ⟨f,by rw[c]⟩
 .exact .inr (.inl ⟨aG,es,by rw[c]⟩)
 .exact .inr (.inr ⟨x,aG,es,by rw[c],g⟩)
def GM(T:Nat){bx:Operand->Value}{x:Value}{X Y:Operand}{d:Option Nat}{t a':TypeId}{p:String}{a:Array Go.Edge}{g:Option (Nat×Bool)}(h:bx X=x)(i:bx Y=.pointer (some ⟨T,0,none⟩)){w:World}(j:w.tape w.drawn .zeroSizeEq=0):
 pZ (bq T) (execOp bx ⟨d,.binOp .eql 16 X Y a',t,p,a,g⟩) w (x=.pointer (some ⟨T,0,none⟩)):=by
 have e:execOp bx ⟨d,.binOp .eql 16 X Y a',t,p,a,g⟩=(do let v <-(do eqGuard .eql 16 X Y x (.pointer (some ⟨T,0,none⟩));binOp .eql 16 x (.pointer (some ⟨T,0,none⟩)));pure (.value v)):=by rw[<-h,<-i];rfl
 have c:eqGuard .eql 16 X Y x (.pointer (some ⟨T,0,none⟩))=pure ():=by cases x<;>rfl
 have f:binOp .eql 16 x (.pointer (some ⟨T,0,none⟩))=(do pure (.bool (<-Op.equal 16 x (.pointer (some ⟨T,0,none⟩))))):=by cases x<;>rfl
 rw[e,c,f];exact(GR T j).op
def Ak(T:Nat){bx:Operand->Value}{x:Value}{X Y:Operand}{d:Option Nat}{t a':TypeId}{p:String}{a:Array Go.Edge}{g:Option (Nat×Bool)}(l:bx X=x)(o:bx Y=.int .i64 0){w:World}:
 pZ (bq T) (execOp bx ⟨d,.binOp .eql 3 X Y a',t,p,a,g⟩) w (x=.int .i64 0):=by
 have e:execOp bx ⟨d,.binOp .eql 3 X Y a',t,p,a,g⟩=(do let v <-(do eqGuard .eql 3 X Y x (.int .i64 0);binOp .eql 3 x (.int .i64 0));pure (.value v)):=by rw[<-l,<-o];rfl
 have j:eqGuard .eql 3 X Y x (.int .i64 0)=pure ():=by cases x<;>rfl
 rw[e,j];by_cases f:∃k n,x=.int k n
 .obtain⟨k,n,rfl⟩:=f
  by_cases h:k=.i64
  .subst h
   by_cases i:n=0
   .subst i
    exact .inl ⟨rfl,rfl⟩
   .right;left
    refine⟨w,#[],?_⟩;have:(n == 0)=false:=beq_eq_false_iff_ne.2 i;show(Result.ok (Next.value (.bool (n == 0))) w,(#[]:Array Event))=_;rw[this]
  .right;right
   have c:binOp .eql 3 (.int k n) (.int .i64 0)=stuck "BinOp: operands of different kinds":=by show(if k≠.i64 then _ else _)=_;rw[if_pos h]
   rw[c];exact⟨_,w,#[],rfl,trivial⟩
 .have c:binOp .eql 3 x (.int .i64 0)=(do pure (.bool (<-Op.equal 3 x (.int .i64 0)))):=by cases x<;>first|rfl|exact absurd ⟨_,_,rfl⟩ f
  rw[c];exact(GY T).op
end
section
variable{R:Value->World->Prop}{T:Nat}
def Al(w:World):(Op.equal 16 (pt T) (pt T)).runT (bq T) w #[]=(.ok true w,#[]):=by
 have hu:=bq.DJ T;obtain⟨i,c,d⟩:∃i,(bq T).info? 271=some i/\i.size=0:=by
  have:=bq.CA T;cases e:(bq T).info? 271 with
  |none=>rw[e]at this;cases this
  |some i=>rw[e]at this;exact⟨i,rfl,by simpa using this⟩
 unfold Op.equal Op.maxDepth Op.equalIn;rw[pR hu];dsimp only[pt];rw[CB c,d];simp only[ne_eq,not_true_eq_false,if_false];rw[if_pos (by simp)];rfl
def iZ(T:Nat):Array Oper:=#[⟨some 2,.binOp .eql 16 (.tmp 0) (.const (.pointer (some ⟨T,0,none⟩))) 16,4,"",#[],none⟩,⟨some 3,.binOp .eql 3 (.tmp 1) (.const (.int .i64 0)) 3,4,"",#[],none⟩]
def pz:Array Oper:=#[⟨some 4,.assign (.const gX),102,"",#[],none⟩]
def h3:Code:=.cond (.tmp 2) (.cond (.tmp 3) (.seq (.region 1 pz false) .ret) (.refuse "")) (.refuse "")
def NQ(x y p q r:Value):Array Value:=#[x,y,p,q,r,undef,undef,undef,undef,undef,undef,undef,undef,undef,undef,undef,undef,undef]
def fL(kind:CallKind)(x y p q r:Value)(todo:List Item):Frame:=⟨37,NQ x y p q r,todo,[],.run,kind,none⟩
def GF(kind:CallKind)(x y:Value):Frame.enter (bq T) 37 #[x,y] kind=fL kind x y undef undef undef [.code (.seq (.region 0 (iZ T) false) h3)]:=by kernel_rfl
section
variable{b8:Machine}{kind:CallKind}{x y p q r:Value}{C:List Frame}{w aG:World}{k:List Item}
def zi(h:cj (bq T) b8 (lone (Frame.enter (bq T) 37 #[x,y] kind) C w))(hC:2<=C.length):cj (bq T) b8 (lone (fL kind x y undef undef undef [.inRegion (iZ T) [0,1],.code h3]) C w):=by rw[GF]at h;have c:cj (bq T) b8 (lone (fL kind x y undef undef undef [.code (.region 0 (iZ T) false),.code h3]) C w):=h.go (es:=#[]) hC rfl;exact c.go (es:=#[]) hC rfl
def tq(h:cj (bq T) b8 (lone (fL kind x y p q r [.inRegion (iZ T) [],.code h3]) C w))(hC:2<=C.length):cj (bq T) b8 (lone (fL kind x y p q r [.code h3]) C w):=h.go (es:=#[]) hC rfl
def zj(h:cj (bq T) b8 (lone (fL kind x y (.bool false) q r [.code h3]) C w))(hC:2<=C.length):False:=by have c:cj (bq T) b8 (lone (fL kind x y (.bool false) q r [.code (.refuse "")]) C w):=h.go (es:=#[]) hC rfl;exact c.dead (es:=#[]) hC rfl
def Em(h:cj (bq T) b8 (lone (fL kind x y (.bool true) (.bool false) r [.code h3]) C w))(hC:2<=C.length):False:=by have c:cj (bq T) b8 (lone (fL kind x y (.bool true) (.bool false) r [.code (.cond (.tmp 3) (.seq (.region 1 pz false) .ret) (.refuse ""))]) C w):=h.go (es:=#[]) hC rfl;have d:cj (bq T) b8 (lone (fL kind x y (.bool true) (.bool false) r [.code (.refuse "")]) C w):=c.go (es:=#[]) hC rfl;exact d.dead (es:=#[]) hC rfl
def En(d:kind=.normal\/kind=.deferred)(h:cj (bq T) b8 (lone (fL kind x y (.bool true) (.bool true) r [.code h3]) C w))(hC:2<=C.length){c:Frame}{rest:List Frame}(q:C=c::rest)(kc:Kept c):
 Steps (bq T) b8 (lone (er kind c gX) rest w):=by
 have f:cj (bq T) b8 (lone (fL kind x y (.bool true) (.bool true) r [.code (.cond (.tmp 3) (.seq (.region 1 pz false) .ret) (.refuse ""))]) C w):=h.go (es:=#[]) hC rfl;have g:cj (bq T) b8 (lone (fL kind x y (.bool true) (.bool true) r [.code (.seq (.region 1 pz false) .ret)]) C w):=f.go (es:=#[]) hC rfl;have i:cj (bq T) b8 (lone (fL kind x y (.bool true) (.bool true) r [.code (.region 1 pz false),.code .ret]) C w):=g.go (es:=#[]) hC rfl;have j:cj (bq T) b8 (lone (fL kind x y (.bool true) (.bool true) r [.inRegion pz [0],.code .ret]) C w):=i.go (es:=#[]) hC rfl;have l:cj (bq T) b8 (lone (fL kind x y (.bool true) (.bool true) gX [.inRegion pz [],.code .ret]) C w):=j.op (es:=#[]) (aG:=w) (v:=gX) hC d rfl rfl rfl;have o:cj (bq T) b8 (lone (fL kind x y (.bool true) (.bool true) gX [.code .ret]) C w):=l.go (es:=#[]) hC rfl;have p:cj (bq T) b8 (lone {fL kind x y (.bool true) (.bool true) gX [.code .ret]with mode:=.returning} C w):=o.go (es:=#[]) hC rfl;subst q;have u:lQ (bq T) kind ({fL kind x y (.bool true) (.bool true) gX [.code .ret]with mode:=.returning},[]) []=some (gX,[]):=by rcases d with rfl|rfl<;>kernel_rfl
 have:=(n' (main:=true) (st:=.running) (off:=none) u (rest:=rest) kc (Does.nil w)).2;exact(p.go hC this).1
end
def bq.stub(V:cY)(B:en (bq T) 23 R V)(a:Array Value)(kind:CallKind)(c:Frame)(cs:List Frame)(j:kind=.normal\/kind=.deferred)(G:a.size=2)(D:V.fr=Frame.enter (bq T) 37 a kind)(C:V.cs=c::cs)(kc:Kept c):
 a=#[pt T,ad 0]/\∃n,runN (bq T) n V.m=.next (lone (er kind c gX) (cs++[wall]) V.w):=by
 obtain⟨x,y,rfl⟩:∃x y,a=#[x,y]:=⟨_,_,two a G⟩
 have hC:2<=(V.cs++[wall]).length:=by rw[C];simp
 have I:x=pt T/\y=ad 0:=by
  let aL:Tape:=λk q=>if k<V.w.drawn then V.w.tape k q else 0
  have A:=B.eS (aL:=aL) (λk h=>by funext q;simp[aL,h]);have z:cj (bq T) (V.gm aL).m (lone (Frame.enter (bq T) 37 #[x,y] kind) (V.cs++[wall]) (c9 V.w aL)):=by rw[<-D];exact A
  have r:=zi z hC;have J:(c9 V.w aL).tape (c9 V.w aL).drawn .zeroSizeEq=0:=by simp[aL,c9]
  have K:∀p q (l:List Nat),(fL kind x y p q undef [.inRegion (iZ T) l,.code h3]).eval (.tmp 0)=x:=λ_ _ _=>rfl
  rcases GM T (bx:=Frame.eval (fL kind x y undef undef undef [.inRegion (iZ T) [0,1],.code h3])) (d:=some 2) (t:=4) (a':=16) (p:= "") (a:=#[]) (g:=none) (X:=.tmp 0) (Y:=.const (.pointer (some ⟨T,0,none⟩))) rfl rfl J with⟨H,f⟩|⟨aG,es,f⟩|⟨h,aG,es,f,u⟩
  .refine⟨H,?_⟩
   have i:cj (bq T) (V.gm aL).m (lone (fL kind x y (.bool true) undef undef [.inRegion (iZ T) [1],.code h3]) (V.cs++[wall]) (c9 V.w aL)):=r.op hC j rfl rfl f;rcases Ak T (bx:=Frame.eval (fL kind x y (.bool true) undef undef [.inRegion (iZ T) [1],.code h3])) (d:=some 3) (t:=4) (a':=3) (p:= "") (a:=#[]) (g:=none) (X:=.tmp 1) (Y:=.const (.int .i64 0)) (w:=c9 V.w aL) rfl rfl with⟨E,f⟩|⟨aG,es,f⟩|⟨h,aG,es,f,u⟩
   .exact E
   .have o:cj (bq T) (V.gm aL).m (lone (fL kind x y (.bool true) (.bool false) undef [.inRegion (iZ T) [],.code h3]) (V.cs++[wall]) aG):=i.op hC j rfl rfl f
    exact(Em (tq o hC) hC).elim
   .exact(i.oh hC rfl rfl f u).elim
  .have i:cj (bq T) (V.gm aL).m (lone (fL kind x y (.bool false) undef undef [.inRegion (iZ T) [1],.code h3]) (V.cs++[wall]) aG):=r.op hC j rfl rfl f
   rcases Ak T (bx:=Frame.eval (fL kind x y (.bool false) undef undef [.inRegion (iZ T) [1],.code h3])) (d:=some 3) (t:=4) (a':=3) (p:= "") (a:=#[]) (g:=none) (X:=.tmp 1) (Y:=.const (.int .i64 0)) (w:=aG) rfl rfl with⟨E,f⟩|⟨F,es,f⟩|⟨h,F,es,f,u⟩
   .have o:cj (bq T) (V.gm aL).m (lone (fL kind x y (.bool false) (.bool true) undef [.inRegion (iZ T) [],.code h3]) (V.cs++[wall]) aG):=i.op hC j rfl rfl f
    exact(zj (tq o hC) hC).elim
   .have o:cj (bq T) (V.gm aL).m (lone (fL kind x y (.bool false) (.bool false) undef [.inRegion (iZ T) [],.code h3]) (V.cs++[wall]) F):=i.op hC j rfl rfl f
    exact(zj (tq o hC) hC).elim
   .exact(i.oh hC rfl rfl f u).elim
  .exact(r.oh hC rfl rfl f u).elim
 obtain⟨rfl,rfl⟩:=I;refine⟨rfl,?_⟩;have A:=B.eS (aL:=V.w.tape) (λ_ _=>rfl);have z:cj (bq T) V.m (lone (Frame.enter (bq T) 37 #[pt T,ad 0] kind) (V.cs++[wall]) V.w):=by rw[<-D];exact A
 have r:=zi z hC;have r1:(execOp (Frame.eval (fL kind (pt T) (ad 0) undef undef undef [.inRegion (iZ T) [0,1],.code h3])) ⟨some 2,.binOp .eql 16 (.tmp 0) (.const (.pointer (some ⟨T,0,none⟩))) 16,4,"",#[],none⟩).runT (bq T) V.w #[]=(.ok (.value (.bool true)) V.w,#[]):=by have e:(execOp (Frame.eval (fL kind (pt T) (ad 0) undef undef undef [.inRegion (iZ T) [0,1],.code h3])) ⟨some 2,.binOp .eql 16 (.tmp 0) (.const (.pointer (some ⟨T,0,none⟩))) 16,4,"",#[],none⟩)=(do let v <-(do pure (.bool (<-Op.equal 16 (pt T) (pt T))):Sem Value);pure (Next.value v)):=rfl;rw[e,rS,Al]
 have i:cj (bq T) V.m (lone (fL kind (pt T) (ad 0) (.bool true) undef undef [.inRegion (iZ T) [1],.code h3]) (V.cs++[wall]) V.w):=r.op hC j rfl rfl r1;have o:cj (bq T) V.m (lone (fL kind (pt T) (ad 0) (.bool true) (.bool true) undef [.inRegion (iZ T) [],.code h3]) (V.cs++[wall]) V.w):=i.op (aG:=V.w) (es:=#[]) (v:=.bool true) hC j rfl rfl rfl;exact En j (tq o hC) hC (by rw[C];rfl) kc
end
def l6(T:Nat):Array Obj:=(Array.replicate T (.cells #[] 0 (0,0))).push (.cells #[ad 2,sl (T+1) 2] 105 (0,2)) |>.push (.cells #[ad 2,ad 1] 3 (0,2))
def yS(T:Nat):World:={heap:=l6 T,tape:=λ_ _=>0,drawn:=0,os:=default,output:=#[]}
def vU(v:Value)(w:World):Prop:=∃b c l,v=four (b,c)/\w.heap[b]?=some (.cells (#[ad 2,ad 3,ad 5,ad 6]++l) 3 (0,0))/\c=l.size+4
def vE(T:Nat):(l6 T)[T]?=some (.cells #[ad 2,sl (T+1) 2] 105 (0,2)):=by unfold l6;rw[PA,if_neg (by simp),PA,if_pos (by simp)]
def vD(T:Nat):(l6 T)[T+1]?=some (.cells #[ad 2,ad 1] 3 (0,2)):=by unfold l6;rw[PA,if_pos (by simp)]
noncomputable def Lu(T:Nat)(h:(bq T).globals.size<=T):Ren where
 r a b:=a=b/\(a=T\/a=T+1)
 fwd:=by rintro a b c ⟨rfl,_⟩ ⟨rfl,_⟩;rfl
 bwd:=by rintro a b c ⟨rfl,_⟩ ⟨rfl,_⟩;rfl
 lim:=(bq T).globals.size
 low:=by rintro a b ⟨rfl,h⟩;exact Iff.rfl
 exact:=false
 cells:=(bq T).cellsOf
 dw:=λc=>codeOk (bq T) true c=true
 room:=true
 dy:=dX (bq T)
 dC:=km (bq T)
def Lv(T:Nat)(h:(bq T).globals.size<=T):Self (bq T) ⟨Frame.enter (bq T) 23 #[pt T,.agg c8] .normal,[],yS T⟩:=by
 let ai:=Lu T h;have f:ai.r T T:=⟨rfl,.inl rfl⟩
 have o:ai.r (T+1) (T+1):=⟨rfl,.inr rfl⟩
 have g:Fit (bq T) ai:=⟨⟨rfl,λ_=>Pk,rfl,rfl⟩,rfl,λb e=>by rw[bq.hR]at e;cases e;exact f⟩
 have j:bE ai #[pt T,.agg c8] #[pt T,.agg c8]:=⟨rfl,λi x y c d=>by
  rw[c]at d;cases d;rcases i with _|_|i<;>simp at c<;>subst c
  .exact .ptr ⟨f,rfl,rfl⟩
  .exact Dc ai⟩
 refine⟨ai,g,rfl,?_,.nil,?_,λ_ _=>rfl,?_,?_⟩
 .rcases vt (nX (K:=h5 (bq T)) (bq.eo T) 23 j (λn e=>by have e:dX (bq T) 23=some n:=e;rw[(bq.dy T).2]at e;cases e) .normal (.inl rfl))with h|⟨q,h,_⟩
  .exact h
  .have l:(Frame.enter (bq T) 23 #[pt T,.agg c8] .normal).todo = [.code (Tryz.f23.body.getD (.refuse ""))]:=by kernel_rfl
   rw[l]at h;injection h with h _
   injection h with h
   have:(match Tryz.f23.body.getD (.refuse "")with |.refuse _=>true|_=>false)=false:=by kernel_rfl
   rw[h]at this;cases this
 .rintro b p ⟨rfl,rfl|rfl⟩
  .refine⟨_,_,vE b,vE b,.cells (.inl rfl) (λi x y c d=>?_) (.inl rfl)⟩
   rw[c]at d;cases d;rcases i with _|_|i<;>simp at c<;>subst c
   .exact .int _ _
   .exact aM.slice (a:=⟨b+1,0,none⟩) (b:=⟨b+1,0,none⟩) ⟨o,rfl,rfl⟩ 2 2
  .refine⟨_,_,vD T,vD T,.cells (.inl rfl) (λi x y c d=>?_) (.inl rfl)⟩
   rw[c]at d;cases d;rcases i with _|_|i<;>simp at c<;>subst c<;>exact .int _ _
 .show(bq T).globals.size<=(l6 T).size
  simp[l6];omega
 .show(bq T).globals.size<=(l6 T).size
  simp[l6];omega
noncomputable def xE(T:Nat)(d:(bq T).globals.size<=T)(i:∀w:World,w.heap=l6 T->w.drawn=0->Calls (bq T) 23 #[pt T,.agg c8] w λe w'=>∃v,e=.returned v/\vU v w'):dJ where
 Q:=bq T
 K:=bq.K T
 ha:=T
 e9:=T+1
 v0:=yS T
 R:=vU
 S:=bq.S T
 eo:=bq.eo T
 H:=bq.H T
 cJ:=λ_ _ _ h=>h
 fn:=λ_ h=>h
 dy:=bq.dy T
 tC:=bq.tC T
 c3:=bq.c3 T
 rk:=⟨d,by omega,by omega⟩
 sd:=vE T
 xg:=vD T
 going:=en.xO λaL _=>i (c9 (yS T) aL) rfl rfl
 self:=Lv T d
 stub:=λV f a kind c cs o g l j kc=>bq.stub V f a kind c cs o g l j kc
 res:=λ_ _ h=>h
def I6(T:Nat)(c d)(b:Nat)(h:hR (xE T c d).Q=some b):b=(xE T c d).ha/\b=T:=by have:hR (bq T)=some b:=h;rw[bq.hR]at this;cases this;exact⟨rfl,rfl⟩
end Go.aN
namespace Go.aN
open Go.Proofs Go.RowKit
section
noncomputable abbrev ag(F:Array Func):Program:=⟨Tryz.progTables,F⟩
variable(F:Array Func)
@[simp] theorem ag.typeInfo109(w:World):Sem.run (ag F) (typeInfo 108) w=Result.ok Tryz.t108 w:=by kernel_rfl
@[simp] theorem ag.sizeOf3(w:World):Sem.run (ag F) (Go.sizeOf 3) w=Result.ok 1 w:=by kernel_rfl
@[simp] theorem ag.sizeOf4(w:World):Sem.run (ag F) (Go.sizeOf 4) w=Result.ok 1 w:=by kernel_rfl
@[simp] theorem ag.sizeOf21(w:World):Sem.run (ag F) (Go.sizeOf 21) w=Result.ok 1 w:=by kernel_rfl
@[simp] theorem ag.sizeOf22(w:World):Sem.run (ag F) (Go.sizeOf 22) w=Result.ok 1 w:=by kernel_rfl
@[simp] theorem ag.sizeOf23(w:World):Sem.run (ag F) (Go.sizeOf 25) w=Result.ok 1 w:=by kernel_rfl
@[simp] theorem ag.sizeOf25(w:World):Sem.run (ag F) (Go.sizeOf 27) w=Result.ok 4 w:=by kernel_rfl
@[simp] theorem ag.sizeOf27(w:World):Sem.run (ag F) (Go.sizeOf 55) w=Result.ok 2 w:=by kernel_rfl
@[simp] theorem ag.sizeOf50(w:World):Sem.run (ag F) (Go.sizeOf 48) w=Result.ok 1 w:=by kernel_rfl
@[simp] theorem ag.sizeOf52(w:World):Sem.run (ag F) (Go.sizeOf 30) w=Result.ok 2 w:=by kernel_rfl
@[simp] theorem ag.sizeOf54(w:World):Sem.run (ag F) (Go.sizeOf 32) w=Result.ok 5 w:=by kernel_rfl
@[simp] theorem ag.sizeOf64(w:World):Sem.run (ag F) (Go.sizeOf 59) w=Result.ok 2 w:=by kernel_rfl
@[simp] theorem ag.sizeOf77(w:World):Sem.run (ag F) (Go.sizeOf 49) w=Result.ok 1 w:=by kernel_rfl
@[simp] theorem ag.sizeOf82(w:World):Sem.run (ag F) (Go.sizeOf 60) w=Result.ok 1 w:=by kernel_rfl
@[simp] theorem ag.sizeOf92(w:World):Sem.run (ag F) (Go.sizeOf 91) w=Result.ok 1 w:=by kernel_rfl
@[simp] theorem ag.sizeOf94(w:World):Sem.run (ag F) (Go.sizeOf 93) w=Result.ok 1 w:=by kernel_rfl
@[simp] theorem ag.sizeOf96(w:World):Sem.run (ag F) (Go.sizeOf 95) w=Result.ok 2 w:=by kernel_rfl
@[simp] theorem ag.sizeOf98(w:World):Sem.run (ag F) (Go.sizeOf 97) w=Result.ok 2 w:=by kernel_rfl
@[simp] theorem ag.sizeOf100(w:World):Sem.run (ag F) (Go.sizeOf 99) w=Result.ok 3 w:=by kernel_rfl
@[simp] theorem ag.sizeOf101(w:World):Sem.run (ag F) (Go.sizeOf 100) w=Result.ok 9 w:=by kernel_rfl
@[simp] theorem ag.sizeOf103(w:World):Sem.run (ag F) (Go.sizeOf 102) w=Result.ok 5 w:=by kernel_rfl
@[simp] theorem ag.sizeOf104(w:World):Sem.run (ag F) (Go.sizeOf 103) w=Result.ok 15 w:=by kernel_rfl
@[simp] theorem ag.sizeOf107(w:World):Sem.run (ag F) (Go.sizeOf 106) w=Result.ok 1 w:=by kernel_rfl
@[simp] theorem ag.sizeOf109(w:World):Sem.run (ag F) (Go.sizeOf 108) w=Result.ok 3 w:=by kernel_rfl
@[simp] theorem ag.sizeOf111(w:World):Sem.run (ag F) (Go.sizeOf 63) w=Result.ok 1 w:=by kernel_rfl
@[simp] theorem ag.sizeOf119(w:World):Sem.run (ag F) (Go.sizeOf 143) w=Result.ok 1 w:=by kernel_rfl
@[simp] theorem ag.sizeOf120(w:World):Sem.run (ag F) (Go.sizeOf 144) w=Result.ok 1 w:=by kernel_rfl
@[simp] theorem ag.sizeOf124(w:World):Sem.run (ag F) (Go.sizeOf 148) w=Result.ok 5 w:=by kernel_rfl
@[simp] theorem ag.sizeOf132(w:World):Sem.run (ag F) (Go.sizeOf 128) w=Result.ok 0 w:=by kernel_rfl
@[simp] theorem ag.sizeOf134(w:World):Sem.run (ag F) (Go.sizeOf 130) w=Result.ok 1 w:=by kernel_rfl
@[simp] theorem ag.sizeOf147(w:World):Sem.run (ag F) (Go.sizeOf 135) w=Result.ok 1 w:=by kernel_rfl
@[simp] theorem ag.sizeOf151(w:World):Sem.run (ag F) (Go.sizeOf 139) w=Result.ok 2 w:=by kernel_rfl
@[simp] theorem ag.sizeOf167(w:World):Sem.run (ag F) (Go.sizeOf 173) w=Result.ok 1 w:=by kernel_rfl
@[simp] theorem ag.sizeOf169(w:World):Sem.run (ag F) (Go.sizeOf 175) w=Result.ok 7 w:=by kernel_rfl
@[simp] theorem ag.sizeOf173(w:World):Sem.run (ag F) (Go.sizeOf 120) w=Result.ok 1 w:=by kernel_rfl
@[simp] theorem ag.sizeOf178(w:World):Sem.run (ag F) (Go.sizeOf 160) w=Result.ok 1 w:=by kernel_rfl
@[simp] theorem ag.sizeOf179(w:World):Sem.run (ag F) (Go.sizeOf 161) w=Result.ok 1 w:=by kernel_rfl
@[simp] theorem ag.sizeOf182(w:World):Sem.run (ag F) (Go.sizeOf 164) w=Result.ok 2 w:=by kernel_rfl
@[simp] theorem ag.sizeOf185(w:World):Sem.run (ag F) (Go.sizeOf 165) w=Result.ok 1 w:=by kernel_rfl
@[simp] theorem ag.sizeOf187(w:World):Sem.run (ag F) (Go.sizeOf 167) w=Result.ok 1 w:=by kernel_rfl
@[simp] theorem ag.underlying3:(ag F).underlying 3=some (TypeDesc.int IntKind.i64):=by kernel_rfl
@[simp] theorem ag.underlying4:(ag F).underlying 4=some TypeDesc.bool:=by kernel_rfl
@[simp] theorem ag.underlying22:(ag F).underlying 22=some (TypeDesc.slice 3):=by kernel_rfl
@[simp] theorem ag.underlying23:(ag F).underlying 25=some (TypeDesc.slice 55):=by kernel_rfl
@[simp] theorem ag.underlying25:(ag F).underlying 27=some (TypeDesc.struct #[⟨ "Kinds",3,0,false, "", "",0⟩,⟨ "First",22,1,false, "", "",8⟩,⟨ "Rates",25,2,false, "", "",32⟩,⟨ "Free",22,3,false, "", "",56⟩]):=by kernel_rfl
@[simp] theorem ag.underlying42:(ag F).underlying 81=some (TypeDesc.slice 59):=by kernel_rfl
@[simp] theorem ag.underlying52:(ag F).underlying 30=some (TypeDesc.struct #[⟨ "Min",3,0,false, "", "",0⟩,⟨ "Max",3,1,false, "", "",8⟩]):=by kernel_rfl
@[simp] theorem ag.underlying64:(ag F).underlying 59=some (TypeDesc.struct #[⟨ "Left",3,0,false, "", "",0⟩,⟨ "Fetched",3,1,false, "", "",8⟩]):=by kernel_rfl
@[simp] theorem ag.underlying76:(ag F).underlying 80=some (TypeDesc.slice 32):=by kernel_rfl
@[simp] theorem ag.underlying77:(ag F).underlying 49=some (TypeDesc.int IntKind.u64):=by kernel_rfl
@[simp] theorem ag.underlying87:(ag F).underlying 110=some (TypeDesc.interface #[("Error",266)]):=by kernel_rfl
@[simp] theorem ag.underlying101:(ag F).underlying 100=some (TypeDesc.array 3 99):=by kernel_rfl
@[simp] theorem ag.underlying103:(ag F).underlying 102=some (TypeDesc.array 5 3):=by kernel_rfl
@[simp] theorem ag.underlying104:(ag F).underlying 103=some (TypeDesc.array 3 102):=by kernel_rfl
@[simp] theorem ag.underlying119:(ag F).underlying 143=some (TypeDesc.map 59 148):=by kernel_rfl
@[simp] theorem ag.underlying120:(ag F).underlying 144=some (TypeDesc.map 3 148):=by kernel_rfl
@[simp] theorem ag.underlying124:(ag F).underlying 148=some (TypeDesc.struct #[⟨ "cost",63,0,false, "", "gladstone/fee",0⟩,⟨ "terms",3,1,false, "", "gladstone/fee",8⟩,⟨ "first",59,2,false, "", "gladstone/fee",16⟩,⟨ "next",3,4,false, "", "gladstone/fee",32⟩]):=by kernel_rfl
@[simp] theorem ag.underlying132:(ag F).underlying 128=some (TypeDesc.struct #[]):=by kernel_rfl
@[simp] theorem ag.underlying136:(ag F).underlying 132=some (TypeDesc.struct #[]):=by kernel_rfl
@[simp] theorem ag.underlying151:(ag F).underlying 139=some (TypeDesc.struct #[⟨ "at",3,0,false, "", "gladstone/fee",0⟩,⟨ "paid",3,1,false, "", "gladstone/fee",8⟩]):=by kernel_rfl
@[simp] theorem ag.underlying159:(ag F).underlying 152=some (TypeDesc.pointer 113):=by kernel_rfl
@[simp] theorem ag.underlying161:(ag F).underlying 87=some (TypeDesc.slice 108):=by kernel_rfl
@[simp] theorem ag.underlying173:(ag F).underlying 120=some (TypeDesc.map 3 4):=by kernel_rfl
@[simp] theorem ag.underlying178:(ag F).underlying 160=some (TypeDesc.map 164 4):=by kernel_rfl
@[simp] theorem ag.underlying179:(ag F).underlying 161=some (TypeDesc.map 3 3):=by kernel_rfl
@[simp] theorem ag.underlying182:(ag F).underlying 164=some (TypeDesc.struct #[⟨ "hour",3,0,false, "", "gladstone/fee",0⟩,⟨ "fee",3,1,false, "", "gladstone/fee",8⟩]):=by kernel_rfl
@[simp] theorem ag.underlying185:(ag F).underlying 165=some (TypeDesc.slice 22):=by kernel_rfl
@[simp] theorem ag.underlying187:(ag F).underlying 167=some (TypeDesc.map 139 3):=by kernel_rfl
@[simp] theorem ag.underlying193:(ag F).underlying 157=some (TypeDesc.slice 30):=by kernel_rfl
@[simp] theorem ag.underlying271:(ag F).underlying 257=some (TypeDesc.pointer 95):=by kernel_rfl
@[simp] theorem ag.runUnderlying22(w:World):Sem.run (ag F) (underlying 22) w=Result.ok (TypeDesc.slice 3) w:=by kernel_rfl
@[simp] theorem ag.runUnderlying23(w:World):Sem.run (ag F) (underlying 25) w=Result.ok (TypeDesc.slice 55) w:=by kernel_rfl
@[simp] theorem ag.runUnderlying25(w:World):Sem.run (ag F) (underlying 27) w=Result.ok (TypeDesc.struct #[⟨ "Kinds",3,0,false, "", "",0⟩,⟨ "First",22,1,false, "", "",8⟩,⟨ "Rates",25,2,false, "", "",32⟩,⟨ "Free",22,3,false, "", "",56⟩]) w:=by kernel_rfl
@[simp] theorem ag.runUnderlying27(w:World):Sem.run (ag F) (underlying 55) w=Result.ok (TypeDesc.struct #[⟨ "From",3,0,false, "", "",0⟩,⟨ "Pennies",22,1,false, "", "",8⟩]) w:=by kernel_rfl
@[simp] theorem ag.runUnderlying42(w:World):Sem.run (ag F) (underlying 81) w=Result.ok (TypeDesc.slice 59) w:=by kernel_rfl
@[simp] theorem ag.runUnderlying52(w:World):Sem.run (ag F) (underlying 30) w=Result.ok (TypeDesc.struct #[⟨ "Min",3,0,false, "", "",0⟩,⟨ "Max",3,1,false, "", "",8⟩]) w:=by kernel_rfl
@[simp] theorem ag.runUnderlying54(w:World):Sem.run (ag F) (underlying 32) w=Result.ok (TypeDesc.struct #[⟨ "Kind",3,0,false, "", "",0⟩,⟨ "Left",30,1,false, "", "",8⟩,⟨ "Fetched",30,3,false, "", "",24⟩]) w:=by kernel_rfl
@[simp] theorem ag.runUnderlying64(w:World):Sem.run (ag F) (underlying 59) w=Result.ok (TypeDesc.struct #[⟨ "Left",3,0,false, "", "",0⟩,⟨ "Fetched",3,1,false, "", "",8⟩]) w:=by kernel_rfl
@[simp] theorem ag.runUnderlying76(w:World):Sem.run (ag F) (underlying 80) w=Result.ok (TypeDesc.slice 32) w:=by kernel_rfl
@[simp] theorem ag.runUnderlying79(w:World):Sem.run (ag F) (underlying 51) w=Result.ok (TypeDesc.struct #[⟨ "list",22,0,false, "", "gladstone/gladstonekit",0⟩,⟨ "given",3,1,false, "", "gladstone/gladstonekit",24⟩,⟨ "state",49,2,false, "", "gladstone/gladstonekit",32⟩]) w:=by kernel_rfl
@[simp] theorem ag.runUnderlying94(w:World):Sem.run (ag F) (underlying 93) w=Result.ok (TypeDesc.struct #[⟨ "_",90,0,false, "", "sync/atomic",0⟩,⟨ "v",91,0,false, "", "sync/atomic",0⟩]) w:=by kernel_rfl
@[simp] theorem ag.runUnderlying98(w:World):Sem.run (ag F) (underlying 97) w=Result.ok (TypeDesc.struct #[⟨ "_",89,0,false, "", "sync",0⟩,⟨ "mu",95,0,false, "", "sync",0⟩]) w:=by kernel_rfl
@[simp] theorem ag.runUnderlying100(w:World):Sem.run (ag F) (underlying 99) w=Result.ok (TypeDesc.struct #[⟨ "_",89,0,false, "", "sync",0⟩,⟨ "done",93,0,false, "", "sync",0⟩,⟨ "m",97,1,false, "", "sync",4⟩]) w:=by kernel_rfl
@[simp] theorem ag.runUnderlying103(w:World):Sem.run (ag F) (underlying 102) w=Result.ok (TypeDesc.array 5 3) w:=by kernel_rfl
@[simp] theorem ag.runUnderlying106(w:World):Sem.run (ag F) (underlying 105) w=Result.ok (TypeDesc.struct #[⟨ "Tariff",27,0,true, "", "",0⟩,⟨ "once",100,4,false, "", "gladstone/fee",80⟩,⟨ "table",103,13,false, "", "gladstone/fee",120⟩]) w:=by kernel_rfl
@[simp] theorem ag.runUnderlying109(w:World):Sem.run (ag F) (underlying 108) w=Result.ok (TypeDesc.struct #[⟨ "n",3,0,false, "", "gladstone/fee",0⟩,⟨ "most",3,1,false, "", "gladstone/fee",8⟩,⟨ "flaw",106,2,true, "", "gladstone/fee",16⟩]) w:=by kernel_rfl
@[simp] theorem ag.runUnderlying122(w:World):Sem.run (ag F) (underlying 146) w=Result.ok (TypeDesc.struct #[⟨ "tariff",60,0,true, "", "gladstone/fee",0⟩,⟨ "kind",3,1,false, "", "gladstone/fee",8⟩,⟨ "end",3,2,false, "", "gladstone/fee",16⟩,⟨ "carry",3,3,false, "", "gladstone/fee",24⟩,⟨ "found",143,4,false, "", "gladstone/fee",32⟩,⟨ "known",144,5,false, "", "gladstone/fee",40⟩]) w:=by kernel_rfl
@[simp] theorem ag.runUnderlying124(w:World):Sem.run (ag F) (underlying 148) w=Result.ok (TypeDesc.struct #[⟨ "cost",63,0,false, "", "gladstone/fee",0⟩,⟨ "terms",3,1,false, "", "gladstone/fee",8⟩,⟨ "first",59,2,false, "", "gladstone/fee",16⟩,⟨ "next",3,4,false, "", "gladstone/fee",32⟩]) w:=by kernel_rfl
@[simp] theorem ag.runUnderlying132(w:World):Sem.run (ag F) (underlying 128) w=Result.ok (TypeDesc.struct #[]) w:=by kernel_rfl
@[simp] theorem ag.runUnderlying136(w:World):Sem.run (ag F) (underlying 132) w=Result.ok (TypeDesc.struct #[]) w:=by kernel_rfl
@[simp] theorem ag.runUnderlying141(w:World):Sem.run (ag F) (underlying 73) w=Result.ok (TypeDesc.struct #[⟨ "Band",30,0,true, "", "",0⟩,⟨ "some",4,2,false, "", "gladstone/fee",16⟩]) w:=by kernel_rfl
@[simp] theorem ag.runUnderlying151(w:World):Sem.run (ag F) (underlying 139) w=Result.ok (TypeDesc.struct #[⟨ "at",3,0,false, "", "gladstone/fee",0⟩,⟨ "paid",3,1,false, "", "gladstone/fee",8⟩]) w:=by kernel_rfl
@[simp] theorem ag.runUnderlying161(w:World):Sem.run (ag F) (underlying 87) w=Result.ok (TypeDesc.slice 108) w:=by kernel_rfl
@[simp] theorem ag.runUnderlying169(w:World):Sem.run (ag F) (underlying 175) w=Result.ok (TypeDesc.struct #[⟨ "better",173,0,false, "", "gladstone/fee",0⟩,⟨ "best",148,1,false, "", "gladstone/fee",8⟩,⟨ "some",4,6,false, "", "gladstone/fee",48⟩]) w:=by kernel_rfl
@[simp] theorem ag.runUnderlying182(w:World):Sem.run (ag F) (underlying 164) w=Result.ok (TypeDesc.struct #[⟨ "hour",3,0,false, "", "gladstone/fee",0⟩,⟨ "fee",3,1,false, "", "gladstone/fee",8⟩]) w:=by kernel_rfl
@[simp] theorem ag.runUnderlying189(w:World):Sem.run (ag F) (underlying 169) w=Result.ok (TypeDesc.struct #[⟨ "sums",165,0,false, "", "gladstone/fee",0⟩,⟨ "chosen",22,1,false, "", "gladstone/fee",24⟩,⟨ "known",167,2,false, "", "gladstone/fee",48⟩]) w:=by kernel_rfl
@[simp] theorem ag.runUnderlying193(w:World):Sem.run (ag F) (underlying 157) w=Result.ok (TypeDesc.slice 30) w:=by kernel_rfl
@[simp] theorem ag.isAgg3(w:World):Sem.run (ag F) (isAgg 3) w=Result.ok false w:=by kernel_rfl
@[simp] theorem ag.isAgg4(w:World):Sem.run (ag F) (isAgg 4) w=Result.ok false w:=by kernel_rfl
@[simp] theorem ag.isAgg21(w:World):Sem.run (ag F) (isAgg 21) w=Result.ok false w:=by kernel_rfl
@[simp] theorem ag.isAgg22(w:World):Sem.run (ag F) (isAgg 22) w=Result.ok false w:=by kernel_rfl
@[simp] theorem ag.isAgg23(w:World):Sem.run (ag F) (isAgg 25) w=Result.ok false w:=by kernel_rfl
@[simp] theorem ag.isAgg25(w:World):Sem.run (ag F) (isAgg 27) w=Result.ok true w:=by kernel_rfl
@[simp] theorem ag.isAgg27(w:World):Sem.run (ag F) (isAgg 55) w=Result.ok true w:=by kernel_rfl
@[simp] theorem ag.isAgg50(w:World):Sem.run (ag F) (isAgg 48) w=Result.ok false w:=by kernel_rfl
@[simp] theorem ag.isAgg52(w:World):Sem.run (ag F) (isAgg 30) w=Result.ok true w:=by kernel_rfl
@[simp] theorem ag.isAgg54(w:World):Sem.run (ag F) (isAgg 32) w=Result.ok true w:=by kernel_rfl
@[simp] theorem ag.isAgg64(w:World):Sem.run (ag F) (isAgg 59) w=Result.ok true w:=by kernel_rfl
@[simp] theorem ag.isAgg77(w:World):Sem.run (ag F) (isAgg 49) w=Result.ok false w:=by kernel_rfl
@[simp] theorem ag.isAgg82(w:World):Sem.run (ag F) (isAgg 60) w=Result.ok false w:=by kernel_rfl
@[simp] theorem ag.isAgg103(w:World):Sem.run (ag F) (isAgg 102) w=Result.ok true w:=by kernel_rfl
@[simp] theorem ag.isAgg109(w:World):Sem.run (ag F) (isAgg 108) w=Result.ok true w:=by kernel_rfl
@[simp] theorem ag.isAgg111(w:World):Sem.run (ag F) (isAgg 63) w=Result.ok false w:=by kernel_rfl
@[simp] theorem ag.isAgg119(w:World):Sem.run (ag F) (isAgg 143) w=Result.ok false w:=by kernel_rfl
@[simp] theorem ag.isAgg120(w:World):Sem.run (ag F) (isAgg 144) w=Result.ok false w:=by kernel_rfl
@[simp] theorem ag.isAgg124(w:World):Sem.run (ag F) (isAgg 148) w=Result.ok true w:=by kernel_rfl
@[simp] theorem ag.isAgg134(w:World):Sem.run (ag F) (isAgg 130) w=Result.ok false w:=by kernel_rfl
@[simp] theorem ag.isAgg147(w:World):Sem.run (ag F) (isAgg 135) w=Result.ok false w:=by kernel_rfl
@[simp] theorem ag.isAgg151(w:World):Sem.run (ag F) (isAgg 139) w=Result.ok true w:=by kernel_rfl
@[simp] theorem ag.isAgg167(w:World):Sem.run (ag F) (isAgg 173) w=Result.ok false w:=by kernel_rfl
@[simp] theorem ag.isAgg173(w:World):Sem.run (ag F) (isAgg 120) w=Result.ok false w:=by kernel_rfl
@[simp] theorem ag.isAgg178(w:World):Sem.run (ag F) (isAgg 160) w=Result.ok false w:=by kernel_rfl
@[simp] theorem ag.isAgg179(w:World):Sem.run (ag F) (isAgg 161) w=Result.ok false w:=by kernel_rfl
@[simp] theorem ag.isAgg182(w:World):Sem.run (ag F) (isAgg 164) w=Result.ok true w:=by kernel_rfl
@[simp] theorem ag.isAgg185(w:World):Sem.run (ag F) (isAgg 165) w=Result.ok false w:=by kernel_rfl
@[simp] theorem ag.isAgg187(w:World):Sem.run (ag F) (isAgg 167) w=Result.ok false w:=by kernel_rfl
@[simp] theorem ag.zeroValue3(w:World):Sem.run (ag F) (zeroValue 3) w=Result.ok (Value.int IntKind.i64 0) w:=by kernel_rfl
@[simp] theorem ag.zeroValue25(w:World):Sem.run (ag F) (zeroValue 27) w=Result.ok (Value.agg #[Value.int IntKind.i64 0,Value.slice none 0 0,Value.slice none 0 0,Value.slice none 0 0]) w:=by kernel_rfl
@[simp] theorem ag.zeroValue27(w:World):Sem.run (ag F) (zeroValue 55) w=Result.ok (Value.agg #[Value.int IntKind.i64 0,Value.slice none 0 0]) w:=by kernel_rfl
@[simp] theorem ag.zeroValue52(w:World):Sem.run (ag F) (zeroValue 30) w=Result.ok (Value.agg #[Value.int IntKind.i64 0,Value.int IntKind.i64 0]) w:=by kernel_rfl
@[simp] theorem ag.zeroValue54(w:World):Sem.run (ag F) (zeroValue 32) w=Result.ok (Value.agg #[Value.int IntKind.i64 0,Value.int IntKind.i64 0,Value.int IntKind.i64 0,Value.int IntKind.i64 0,Value.int IntKind.i64 0]) w:=by kernel_rfl
@[simp] theorem ag.zeroValue64(w:World):Sem.run (ag F) (zeroValue 59) w=Result.ok (Value.agg #[Value.int IntKind.i64 0,Value.int IntKind.i64 0]) w:=by kernel_rfl
@[simp] theorem ag.zeroValue79(w:World):Sem.run (ag F) (zeroValue 51) w=Result.ok (Value.agg #[Value.slice none 0 0,Value.int IntKind.i64 0,Value.int IntKind.u64 0]) w:=by kernel_rfl
@[simp] theorem ag.zeroValue82(w:World):Sem.run (ag F) (zeroValue 60) w=Result.ok (Value.pointer none) w:=by kernel_rfl
@[simp] theorem ag.zeroValue103(w:World):Sem.run (ag F) (zeroValue 102) w=Result.ok (Value.agg #[Value.int IntKind.i64 0,Value.int IntKind.i64 0,Value.int IntKind.i64 0,Value.int IntKind.i64 0,Value.int IntKind.i64 0]) w:=by kernel_rfl
@[simp] theorem ag.zeroValue106(w:World):Sem.run (ag F) (zeroValue 105) w=Result.ok (Value.agg #[Value.int IntKind.i64 0,Value.slice none 0 0,Value.slice none 0 0,Value.slice none 0 0,Value.int IntKind.u32 0,Value.int IntKind.i32 0,Value.int IntKind.u32 0,Value.int IntKind.u32 0,Value.int IntKind.i32 0,Value.int IntKind.u32 0,Value.int IntKind.u32 0,Value.int IntKind.i32 0,Value.int IntKind.u32 0,Value.int IntKind.i64 0,Value.int IntKind.i64 0,Value.int IntKind.i64 0,Value.int IntKind.i64 0,Value.int IntKind.i64 0,Value.int IntKind.i64 0,Value.int IntKind.i64 0,Value.int IntKind.i64 0,Value.int IntKind.i64 0,Value.int IntKind.i64 0,Value.int IntKind.i64 0,Value.int IntKind.i64 0,Value.int IntKind.i64 0,Value.int IntKind.i64 0,Value.int IntKind.i64 0]) w:=by kernel_rfl
@[simp] theorem ag.zeroValue109(w:World):Sem.run (ag F) (zeroValue 108) w=Result.ok (Value.agg #[Value.int IntKind.i64 0,Value.int IntKind.i64 0,Value.int IntKind.i64 0]) w:=by kernel_rfl
@[simp] theorem ag.zeroValue122(w:World):Sem.run (ag F) (zeroValue 146) w=Result.ok (Value.agg #[Value.pointer none,Value.int IntKind.i64 0,Value.int IntKind.i64 0,Value.int IntKind.i64 0,Value.map none,Value.map none]) w:=by kernel_rfl
@[simp] theorem ag.zeroValue124(w:World):Sem.run (ag F) (zeroValue 148) w=Result.ok (Value.agg #[Value.int IntKind.i64 0,Value.int IntKind.i64 0,Value.int IntKind.i64 0,Value.int IntKind.i64 0,Value.int IntKind.i64 0]) w:=by kernel_rfl
@[simp] theorem ag.zeroValue132(w:World):Sem.run (ag F) (zeroValue 128) w=Result.ok (Value.agg #[]) w:=by kernel_rfl
@[simp] theorem ag.zeroValue136(w:World):Sem.run (ag F) (zeroValue 132) w=Result.ok (Value.agg #[]) w:=by kernel_rfl
@[simp] theorem ag.zeroValue141(w:World):Sem.run (ag F) (zeroValue 73) w=Result.ok (Value.agg #[Value.int IntKind.i64 0,Value.int IntKind.i64 0,Value.bool false]) w:=by kernel_rfl
@[simp] theorem ag.zeroValue151(w:World):Sem.run (ag F) (zeroValue 139) w=Result.ok (Value.agg #[Value.int IntKind.i64 0,Value.int IntKind.i64 0]) w:=by kernel_rfl
@[simp] theorem ag.zeroValue157(w:World):Sem.run (ag F) (zeroValue 113) w=Result.ok (Value.agg #[Value.int IntKind.i64 0]) w:=by kernel_rfl
@[simp] theorem ag.zeroValue169(w:World):Sem.run (ag F) (zeroValue 175) w=Result.ok (Value.agg #[Value.nilFunc,Value.int IntKind.i64 0,Value.int IntKind.i64 0,Value.int IntKind.i64 0,Value.int IntKind.i64 0,Value.int IntKind.i64 0,Value.bool false]) w:=by kernel_rfl
@[simp] theorem ag.zeroValue173(w:World):Sem.run (ag F) (zeroValue 120) w=Result.ok (Value.map none) w:=by kernel_rfl
@[simp] theorem ag.zeroValue178(w:World):Sem.run (ag F) (zeroValue 160) w=Result.ok (Value.map none) w:=by kernel_rfl
@[simp] theorem ag.zeroValue179(w:World):Sem.run (ag F) (zeroValue 161) w=Result.ok (Value.map none) w:=by kernel_rfl
@[simp] theorem ag.zeroValue182(w:World):Sem.run (ag F) (zeroValue 164) w=Result.ok (Value.agg #[Value.int IntKind.i64 0,Value.int IntKind.i64 0]) w:=by kernel_rfl
@[simp] theorem ag.stoodInHeld64:(ag F).stoodInHeld 59=false:=by kernel_rfl
@[simp] theorem ag.P4:(ag F).stoodInHeld 139=false:=by kernel_rfl
@[simp] theorem ag.stoodInHeld182:(ag F).stoodInHeld 164=false:=by kernel_rfl
@[simp] theorem ag.eqGuardType64:(ag F).eqGuardType (ag F).depth 59=false:=by kernel_rfl
@[simp] theorem ag.eqGuardType103:(ag F).eqGuardType (ag F).depth 102=false:=by kernel_rfl
end
end Go.aN
namespace Go.aN
def Pj{p:Prop}(h:p):RowKit.Hid p:=h
def Pn{w:World}{o:Obj}{row:Option Nat}:w.grownBy (w.alloc o) row:=World.grownBy_alloc _ _ _
def Pv(w:World)(o:Obj)(row:Option Nat):w.grownBy (w.alloc o) row:=World.grownBy_alloc w o row
def Pw(w:World)(row:Option Nat):w.grownBy w row:=World.grownBy.refl w row
def Pr{w:World}{c:Array Value}{t:TypeId}{n i:Nat}(h:n=w.heap.size):(w.alloc (.cells c t)).cell? {block:=n,off:=i}=c[i]?:=World.cell?_alloc_at _ _ _ _ h
def Pz{w:World}(o:Obj)(n i:Nat)(h:n<w.heap.size):(w.alloc o).cell? {block:=n,off:=i}=w.cell? {block:=n,off:=i}:=World.cell?_alloc_past o n i h
def Pp(w:World)(o:Obj):(w.alloc o).heap.size=w.heap.size+1:=World.size_alloc w o
def Pq{w:World}{o:Obj}{r:Nat}(h:r<w.heap.size):(w.alloc o).heap[r]?=w.heap[r]?:=Go.heap_alloc_old _ _ h
end Go.aN
namespace Go.aN
open Go.Proofs Go.RowKit
section
def Body(F:Array Func)(f:FuncId):Prop:=∃fn,F[f]?=some fn/\iY fn=true/\fn.body.isSome=true
def JB:List Nat:=[14,37,45,48,54,69,64,65,79,80,82,83,121,122,137,187]
def stays(k:Nat):Bool:=!JB.contains k
def wo:List Nat:=[45,48,69,65,14,37,54,64,121,122]
class Std(F:Array Func):Prop where
 on:∀k fn,aF.funcs[k]?=some fn->fn.body.isSome=true->stays k=true->F[k]?=some fn
 gw:∀k,k∈wo->Body F k
def Std.f{F:Array Func}(S:Std F){k:Nat}{fn:Func}(e:aF.funcs[k]?=some fn)(b:fn.body.isSome=true:=by rfl)(o:stays k=true:=by rfl):F[k]?=some fn:=S.on k fn e b o
def Bs{sp:List (Nat×Func)}{rs:List Nat}:∀(l:List Func) (j k:Nat),(mix sp rs j l)[k]?=l[k]?.map (pick sp rs (j+k))
 | [],_,_=>by simp[mix]
 |x::l,j,0=>by simp[mix]
 |x::l,j,k+1=>by have:=Bs (sp:=sp) (rs:=rs) l (j+1) k;rw[Nat.add_assoc,Nat.add_comm 1 k]at this;simpa [mix]using this
noncomputable def De(sp:List (Nat×Func))(rs:List Nat):Bool:=sp.all (λx=>!stays x.1||x.1<2||x.1 == 88||x.1 == 123) && rs.all (λk=>!stays k) && wo.all λk=>((mix sp rs 0 aF.funcs.toList)[k]?).any λfn=>iY fn && fn.body.isSome
noncomputable def Ah:Bool:=[0,1,88,123].all λk=>(aF.funcs[k]?).all λfn=>fn.body.isNone
def F9:Ah=true:=by kernel_rfl
def Bl:∀{sp:List (Nat×Func)} {k:Nat},(∀x∈sp,x.1≠k)->sp.lookup k=none
 | [],_,_=>rfl
 |(j,g)::l,k,h=>by
  rw[List.lookup_cons];have:¬(k == j)=true:=λe=>h (j,g) (by simp) (eq_of_beq e).symm
  simp only[this];exact Bl (λx c=>h x (by simp[c]))
theorem xD{sp:List (Nat×Func)}{rs:List Nat}(h:De sp rs=true):Std (mix sp rs 0 aF.funcs.toList).toArray:=by
 unfold De at h;rw[Bool.and_eq_true,Bool.and_eq_true]at h;obtain⟨⟨g,i⟩,l⟩:=h;rw[List.all_eq_true]at g i l;refine⟨λk fn e b o=>?_,λk z=>?_⟩
 .have f:=F9
  unfold Ah at f;rw[List.all_eq_true]at f;have c:∀j∈[0,1,88,123],j≠k:=λj w q=>by have:=f j w;rw[q,e]at this;simp at this;rw[this]at b;cases b
  have B:sp.lookup k=none:=Bl (λx d r=>by have:=g x d;rw[r,o]at this;have cH:=c 0 (by simp);have E:=c 1 (by simp);have F:=c 88 (by simp);have G:=c 123 (by simp);simp at this;omega)
  have D:¬rs.contains k=true:=λu=>by have:=i k (by simpa using u);rw[o]at this;cases this
  have C:pick sp rs k fn=fn:=by unfold pick;rw[B];dsimp only;rw[if_neg D,if_neg (λd=>by rw[Option.isNone_iff_eq_none.1 d]at b;cases b)]
  rw[List.getElem?_toArray,Bs,Nat.zero_add];have p:aF.funcs.toList[k]?=some fn:=by simpa using e
  rw[p,Option.map_some,C]
 .have:=l k z
  cases hm:(mix sp rs 0 aF.funcs.toList)[k]? with
  |none=>rw[hm]at this;cases this
  |some fn=>
   rw[hm]at this;simp at this;exact⟨fn,by rw[List.getElem?_toArray];exact hm,this.1,by simpa using this.2⟩
class gQ(F:Array Func):Prop where
 f62:F[45]?=some Tryz.f45
 f69:F[48]?=some Tryz.f48
 f85:F[69]?=some Tryz.f69
class PJ(F:Array Func):Prop extends gQ F where
 f91:F[65]?=some Tryz.f65
def zH{P:Program}{f:FuncId}{fn:Func}(h:P.funcs[f]?=some fn)(g:iY fn=true)(i:fn.body.isSome=true)(args:Array Value)(w:World):Sem.run P (callFunc f args) w=.ok (.enter f args) w:=by
 have c:¬(fn.name == "runtime.NumGoroutine")=true:=by simpa [iY]using g
 have d:¬fn.body.isNone=true:=by cases j:fn.body<;>simp_all
 have e:Sem.run P (callFunc f args) w=(match P.funcs[f]? with
  |none=>(stuck "call: no such function" : Sem Next)
  |some fn=>
   if fn.name == "runtime.NumGoroutine" then pure .numGoroutine
   else if fn.body.isNone then do
    mark (.extern f)
    if let some e:=Extern.findNext fn then return <-e args
    match Extern.find fn with
    |some e=>pure (.value (<-e args))
    |none=>
     if fn.name.endsWith ".init" && !fn.name.startsWith "(" && !fn.name.startsWith "gosem." then pure (.value (.tuple #[]))
     else unsupported (.extern fn.name)
   else pure (.enter f args)).run P w:=rfl
 rw[e,h];dsimp only;rw[if_neg c,if_neg d];rfl
abbrev dg(F:Array Func)(k:Nat):Prop:=∀(args:Array Value) (w:World),Sem.run (ag F) (callFunc k args) w=.ok (.enter k args) w
variable{F:Array Func}[S:Std F]
def dS{k:Nat}{fn:Func}(e:aF.funcs[k]?=some fn)(n:iY fn=true:=by rfl)(b:fn.body.isSome=true:=by rfl)(o:stays k=true:=by rfl):dg F k:=
 zH (P:=ag F) (S.on k fn e b o) n b
def mT(k:Nat)(h:k∈wo:=by decide):dg F k:=by obtain⟨fn,c,d,f⟩:=S.gw k h;exact zH (P:=ag F) c d f
@[simp] theorem ag.call17:dg F 4:=dS Tryz.func4
@[simp] theorem ag.call20:dg F 7:=dS Tryz.func7
@[simp] theorem ag.call24:dg F 16:=dS Tryz.func16
@[simp] theorem ag.call28:dg F 5:=dS Tryz.func5
@[simp] theorem ag.call30:dg F 9:=dS Tryz.func9
@[simp] theorem ag.call36:dg F 15:=dS Tryz.func15
@[simp] theorem ag.call46:dg F 17:=dS Tryz.func17
@[simp] theorem ag.call47:dg F 18:=dS Tryz.func18
@[simp] theorem ag.call48:dg F 22:=dS Tryz.func22
@[simp] theorem ag.call49:dg F 36:=dS Tryz.func36
@[simp] theorem ag.call50:dg F 35:=dS Tryz.func35
@[simp] theorem ag.call52:dg F 20:=dS Tryz.func20
@[simp] theorem ag.call53:dg F 21:=dS Tryz.func21
@[simp] theorem ag.call57:dg F 19:=dS Tryz.func19
@[simp] theorem ag.call58:dg F 52:=dS Tryz.func52
@[simp] theorem ag.call61:dg F 23:=dS Tryz.func23
@[simp] theorem ag.call62:dg F 45:=mT 45
@[simp] theorem ag.call63:dg F 46:=dS Tryz.func46
@[simp] theorem ag.call64:dg F 24:=dS Tryz.func24
@[simp] theorem ag.call65:dg F 25:=dS Tryz.func25
@[simp] theorem ag.call66:dg F 26:=dS Tryz.func26
@[simp] theorem ag.call67:dg F 43:=dS Tryz.func43
@[simp] theorem ag.call69:dg F 48:=mT 48
@[simp] theorem ag.call70:dg F 49:=dS Tryz.func49
@[simp] theorem ag.call71:dg F 50:=dS Tryz.func50
@[simp] theorem ag.call72:dg F 51:=dS Tryz.func51
@[simp] theorem ag.call73:dg F 39:=dS Tryz.func39
@[simp] theorem ag.call74:dg F 40:=dS Tryz.func40
@[simp] theorem ag.call77:dg F 53:=dS Tryz.func53
@[simp] theorem ag.call78:dg F 56:=dS Tryz.func56
@[simp] theorem ag.call79:dg F 57:=dS Tryz.func57
@[simp] theorem ag.call80:dg F 38:=dS Tryz.func38
@[simp] theorem ag.call83:dg F 67:=dS Tryz.func67
@[simp] theorem ag.call84:dg F 68:=dS Tryz.func68
@[simp] theorem ag.call85:dg F 69:=mT 69
@[simp] theorem ag.P2:dg F 41:=dS Tryz.func41
@[simp] theorem ag.P3:dg F 42:=dS Tryz.func42
@[simp] theorem ag.call91:dg F 65:=mT 65
@[simp] theorem ag.call92:dg F 66:=dS Tryz.func66
@[simp] theorem ag.call93:dg F 58:=dS Tryz.func58
@[simp] theorem ag.call94:dg F 59:=dS Tryz.func59
@[simp] theorem ag.call95:dg F 60:=dS Tryz.func60
@[simp] theorem ag.call100:dg F 74:=dS Tryz.func74
@[simp] theorem ag.PY:dg F 75:=dS Tryz.func75
@[simp] theorem ag.call112:dg F 84:=dS Tryz.func84
@[simp] theorem ag.call117:dg F 89:=dS Tryz.func89
@[simp] theorem ag.call118:dg F 90:=dS Tryz.func90
@[simp] theorem ag.PZ:dg F 91:=dS Tryz.func91
@[simp] theorem ag.call144:dg F 124:=dS Tryz.func124
@[simp] theorem ag.P0:dg F 167:=dS Tryz.func167
@[simp] theorem ag.P1:dg F 168:=dS Tryz.func168
@[simp] theorem ag.call16:dg F 14:=mT 14
@[simp] theorem ag.call51:dg F 37:=mT 37
@[simp] theorem ag.call75:dg F 54:=mT 54
@[simp] theorem ag.call141:dg F 121:=mT 121
@[simp] theorem ag.call142:dg F 122:=mT 122
instance bq.Dd(T:Nat):Std (bq.list T).toArray:=xD (by kernel_rfl)
def B0(w:World)(p n:Int)(h:0<=p/\p<=1000000000)(c:0<=n/\n<=1000000000):Calls (ag F) 38 #[.int .i64 p,.int .i64 n] w λe w'=>e=.returned (.int .i64 (p+n))/\w=w':=by go_enter (S.f Tryz.func38),Tryz.ntmps38;go_wp2;go_ret;exact⟨rfl,rfl⟩
def m'(w:World)(p:Int):Calls (ag F) 21 #[.int .i64 p] w λe w'=>e=.returned (.int .i64 p)/\w=w':=by go_enter (S.f Tryz.func21),Tryz.ntmps21;go_wp2;go_ret;exact⟨rfl,rfl⟩
end
section
variable{F:Array Func}
structure nK(a8:World->Prop)(T B gv hj hO eT:Nat)(first:Nat->Int):Prop where
 lt:T<B/\gv<B
 keep:∀w w' row,a8 w->w.grownBy w' row->(∀b,row=some b->B<=b)->a8 w'
 size:∀w,a8 w->B<=w.heap.size
 mn:∀w,a8 w->w.cell? ⟨T,1,none⟩=some (.slice (some ⟨gv,hj,none⟩) hO eT)
 cell:∀w,a8 w->∀k,k<hO->w.cell? ⟨gv,hj+k,none⟩=some (.int .i64 (first k))
 gw:∀k,0<=first k/\first k<=1000000
def jb(ba:Nat->Int)(a:Nat):Nat->Int
 | 0=>0
 |n+1=>jb ba a n+ba (a+n)
def fP(f:Int)(ba:Nat->Int)(left aK:Nat):Int:=f+jb ba (left / 24+1) (aK / 24-left / 24)
def nJ(F:Array Func)(c:World->Prop)(T k:Nat)(ba:Nat->Int):Prop:=
 ∀w,c w->Calls (ag F) 37 #[.pointer (some ⟨T,0,none⟩),.int .i64 k] w λe w'=>e=.returned (.agg #[.int .i64 (ba 0),.int .i64 (ba 1),.int .i64 (ba 2),.int .i64 (ba 3),.int .i64 (ba 4)])/\c w'/\w.grownBy w' (some T)
def Dm{ba:Nat->Int}(c:∀d,0<=ba d/\ba d<=1000000)(a n:Nat):0<=jb ba a n/\jb ba a n<=n*1000000:=by
 induction n with
 |zero=>simp[jb]
 |succ n f=>have:=c (a+n);simp only[jb];omega
abbrev sX(ba:Nat->Int):Obj:=.cells #[.int .i64 (ba 0),.int .i64 (ba 1),.int .i64 (ba 2),.int .i64 (ba 3),.int .i64 (ba 4)] 102
def Hn{c:World->Prop}{T B i p o eT:Nat}{first:Nat->Int}(K:nK c T B i p o eT first){w w2:World}{ba:Nat->Int}{x y:Value}(l:c w)(j:c w2)(f:(w.alloc (.cells #[x,y] 59)).grownBy w2 (some T)):
 (w2.alloc (sX ba)).cell? ⟨w.heap.size,0,none⟩=some x/\(w2.alloc (sX ba)).cell? ⟨w.heap.size,1,none⟩=some y/\(∀d,d<5->(w2.alloc (sX ba)).cell? ⟨w2.heap.size,d,none⟩=some (.int .i64 (ba d)))/\c (w2.alloc (sX ba))/\w.grownBy (w2.alloc (sX ba)) (some T):=by
 have h:w.heap.size<w2.heap.size:=by have:=f.size;rw[Pp]at this;omega
 have g:some w.heap.size≠some T:=by have:=K.lt;have:=K.size w l;simp;omega
 refine⟨?_,?_,λd hd=>?_,K.keep _ _ none j Pn (by intro b e;cases e),((Pv w _ _).trans f).trans Pn⟩
 .rw[Pz _ _ _ h]
  exact f.cell (a:=⟨w.heap.size,0,none⟩) (Pr rfl) g
 .rw[Pz _ _ _ h]
  exact f.cell (a:=⟨w.heap.size,1,none⟩) (Pr rfl) g
 .rw[Pr rfl]
  rcases d with _|_|_|_|_|d<;>first|rfl|omega
def qs[S:Std F]{c:World->Prop}{T B C L h eT:Nat}{first:Nat->Int}(K:nK c T B C L h eT first){k:Nat}(G:k<h)(V:h<=1000){ba:Nat->Int}(q:∀d,0<=ba d/\ba d<=1000000)(I:nJ F c T k ba)(left aK:Nat)(U:left<120)(R:aK<120)(w:World)(f:c w):
 Calls (ag F) 20 #[.pointer (some ⟨T,0,none⟩),.int .i64 k,.agg #[.int .i64 left,.int .i64 aK]] w λe w'=>e=.returned (.int .i64 (fP (first k) ba left aK))/\c w'/\w.grownBy w' (some T):=by
 have X:=K.size w f;have H:=K.lt;have g:c (w.alloc (.cells #[.int .i64 left,.int .i64 aK] 59)):=K.keep _ _ none f Pn (by intro b e;cases e);have j:=K.mn _ g;have l:=K.cell _ g k G;have M:=K.gw k;go_enter (S.f Tryz.func20),Tryz.ntmps20;go_wp2_with (go_at_call 37;refine(I _ g).mono ?_;rintro e w2 ⟨rfl,o,r⟩;obtain⟨Y,q1,u,D,E⟩:=Hn (ba:=ba) K f o r;clear r o j l;have z:=Pj u;clear u)
 go_loop [7,10] (λs v=>∃d:Nat,v=.int .i64 d/\left / 24+1<=d/\(d<=aK / 24+1\/d=left / 24+1)/\s=.int .i64 (first k+jb ba (left / 24+1) (d-(left / 24+1)))) (λ_ v=>aK / 24+1-(intOf v).toNat)
 case atStart=>exact⟨left / 24+1,by simp,Pk,.inr rfl,by simp[jb]⟩
 case round=>
  obtain⟨d,rfl,j,l,rfl⟩:=hrel;have J:=Dm q (left / 24+1) (d-(left / 24+1));have Q:d-(left / 24+1)<=6:=by omega
  generalize p:jb ba (left / 24+1) (d-(left / 24+1))=Z at J ⊢;have i:=Pj p;clear p;by_cases H:d<=aK / 24
  .have W:=z.out d (by omega)
   have P:=q d;go_wp2_with (go_at_call 38;refine(B0 _ _ _ (by omega) (by omega)).mono ?_;rintro e w' ⟨rfl,rfl⟩)
   go_round
   case rel=>
    refine⟨d+1,by go_num,by omega,by omega,?_⟩;have e:d+1-(left / 24+1)=d-(left / 24+1)+1:=by omega
    rw[e,jb,i.out,show left / 24+1+(d-(left / 24+1))=d by omega];go_num
   case measure=>simp[intOf];omega
  .go_wp2
   go_ret;refine⟨?_,D,E⟩;rw[fP,<-i.out,show d-(left / 24+1)=aK / 24-left / 24 by omega];rfl
end
section
variable{A:Array Func}
def mH[S:Std A](n b4 c:Int)(w:World):Calls (ag A) 53 #[.int .i64 n,.int .i64 b4,.int .i64 c] w λe w'=>e=.returned (.bool (decide (b4<=n/\n<=c)))/\w=w':=by
 by_cases d:b4<=n
 .by_cases f:n<=c
  .have e:decide (b4<=n/\n<=c)=true:=by simp[d,f]
   rw[e];go_enter (S.f Tryz.func53),Tryz.ntmps53;go_wp2;go_ret;exact⟨rfl,rfl⟩
  .have e:decide (b4<=n/\n<=c)=false:=by simp[f]
   rw[e];go_enter (S.f Tryz.func53),Tryz.ntmps53;go_wp2;go_ret;exact⟨rfl,rfl⟩
 .have e:decide (b4<=n/\n<=c)=false:=by simp[d]
  rw[e];go_enter (S.f Tryz.func53),Tryz.ntmps53;go_wp2;go_ret;exact⟨rfl,rfl⟩
def l1(n b4 c:Int):Int:=if n<b4 then 7 else if c<n then 6 else 0
def CC[S:Std A](n b4 c:Int)(w:World):Calls (ag A) 59 #[.int .i64 n,.int .i64 b4,.int .i64 c] w λe w'=>e=.returned (.int .i64 (l1 n b4 c))/\w=w':=by
 by_cases d:n<b4
 .rw[show l1 n b4 c=7 by simp[l1,d]]
  go_enter (S.f Tryz.func59),Tryz.ntmps59;go_wp2;go_ret;exact⟨rfl,rfl⟩
 .by_cases f:c<n
  .rw[show l1 n b4 c=6 by simp[l1,d,f]]
   go_enter (S.f Tryz.func59),Tryz.ntmps59;go_wp2;go_ret;exact⟨rfl,rfl⟩
  .rw[show l1 n b4 c=0 by simp[l1,d,f]]
   go_enter (S.f Tryz.func59),Tryz.ntmps59;go_wp2;go_ret;exact⟨rfl,rfl⟩
def iD(w:World)(b o n:Nat)(f:Nat->Int):Prop:=∀k,k<n->w.cell? ⟨b,o+k,none⟩=some (.int .i64 (f k))
def x3[S:Std A](b o n c:Nat)(z:n<=1000)(f:Nat->Int)(w:World)(h:iD w b o n f)(p:∀k,k<n->0<=f k/\f k<=9):
 Calls (ag A) 58 #[.slice (some ⟨b,o,none⟩) n c,.int .i64 n] w λe w'=>e=.returned (.int .i64 0)/\w=w':=by
 have q:l1 n n n=0:=by simp[l1]
 have j:=Pj h;clear h;go_enter (S.f Tryz.func58),Tryz.ntmps58;go_wp2_with (go_at_call 59;refine(CC _ _ _ _).mono ?_;rintro e w' ⟨rfl,rfl⟩;rw[q])
 go_loop [7,18] (λ_ i=>∃k:Nat,k<=n/\i=.int .i64 k) (λ_ i=>n-(intOf i).toNat)
 case atStart=>exact⟨0,by omega,by go_num⟩
 case round=>
  obtain⟨k,u,rfl⟩:=hrel;by_cases g:k<n
  .have r:=j.out k g
   have d:=p k g;have l:decide (0<=f k/\f k<=9)=true:=by simp[d.1,d.2]
   go_wp2_with (go_at_call 53;refine(mH _ _ _ _).mono ?_;rintro e w' ⟨rfl,rfl⟩;rw[l])
   go_round
   case rel=>exact⟨k+1,by omega,by go_num⟩
   case measure=>simp[intOf];omega
  .go_wp2
   go_ret;exact⟨rfl,rfl⟩
end
end Go.aN
