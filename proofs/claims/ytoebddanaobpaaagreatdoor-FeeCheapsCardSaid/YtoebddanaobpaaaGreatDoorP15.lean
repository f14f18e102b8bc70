/- A part. -/
import Derived.Test.YtoebddanaobpaaaGreatDoorP14
set_option maxHeartbeats 8000000
set_option maxRecDepth 100000
set_option linter.all false
namespace Go.aO
attribute [-simp] Go.Sem.runT_eq
open Go.Proofs Tryz
noncomputable def bl.list:Tb TF:=mix xM AA 0 aK.funcs.toList
noncomputable def bl:To:=⟨Tryz.progTables,(bl.list).toArray⟩
def bl.K:g8 bl aK:=⟨λ_ _ _=>False,λf=>f=66\/f=134\/f=135⟩
def bl.H:fe (fj bl.K) bl aK:=
 zS (sp:=xM) (rs:=AA) S6 av ⟨⟨S6,o' (.inl S6) func66 S6 S6 S6 S6⟩,⟨S6,xv func101⟩,⟨S6,o' (.inr (.inl S6)) func134 S6 S6 S6 S6⟩,⟨S6,o' (.inr (.inr S6)) func135 S6 S6 S6 S6⟩,⟨S6,xw func136⟩,Tf⟩ av
def bl.ek:fe (fj (jv bl)) bl bl:=
 AE (sp:=xM) ⟨⟨S6,nt av av⟩,⟨S6,xv av⟩,⟨S6,nt av av⟩,⟨S6,nt av av⟩,⟨S6,xw av⟩,Tf⟩ ⟨av,av,av,av,av,Tf⟩ av
def bl.S:Same bl aK:=⟨S6⟩
def bl.o5:je bl=none:=av
def bl.eb:eK bl 66=some 2/\eK bl 134=some 1/\eK bl 135=some 1:=⟨av,av,av⟩
instance bl.Gd:Std bl.list.toArray:=zT (by kernel_rfl)
instance bl.Qx:jx bl.list.toArray:=⟨by kernel_rfl,by kernel_rfl,by kernel_rfl⟩
instance bl.S2:oA bl.list.toArray:=⟨by kernel_rfl⟩
end Go.aO
namespace Go.aO
attribute [-simp] Go.Sem.runT_eq
open Go.Proofs Tryz Go.Conc Go.ConcN
variable{u v:S9}{cW:S9->S7->Prop}
section
section
variable{Q:To}{f:Tw}{a b:Int}{dx:TU}{C:Tz}{w:S7}{Tl:Tx}{x:S9}{T:Te}{o:Oper}{X Y:Operand}{bz:Operand->S9}{t bh:Tg}{bO:TD}{i:TypeInfo}
def dJ.ptr{e:Tg}(hu:Q.underlying t=some (.pointer e))(c:o.op=.binOp .eql t X Y bh)(d:bz X=x)(f:bz Y=.pointer none):dJ Q w (execOp bz o) .value λv aG=>w=aG/\(v=.bool true\/(v=.bool false/\∃bO,x=.pointer (some bO))):=by
 refine dJ.eql c d f (by cases x<;>rfl) (by cases x<;>rfl) ?_;unfold dJ Op.equal Op.maxDepth Op.equalIn;rw[gj (mI hu w #[])];cases x with
 |pointer p=>
  cases p with
  |none=>exact dJ.ok (v:=true) (acc:=#[]) (aG:=w) ⟨S6,.inl S6⟩ S6
  |some p=>exact dJ.ok (v:=false) (acc:=#[]) (aG:=w) ⟨S6,.inr ⟨S6,p,S6⟩⟩ S6
 |_=>exact dJ.no (acc:=#[]) (aG:=w) S6 Tf
def aK.rF:aK.underlying 21=some (.int .i32):=av
def dJ.Lr(hu:Q.underlying 21=some (.int .i32))(f:o.op=.load 21 X)(h:bz X=.pointer (some bO))(d:w.cell? bO=none->∃s,w.farLoad Q bO false=.error (.stuck s)):dJ Q w (execOp bz o) .value λv aG=>w=aG/\w.cell? bO=some v:=by
 have e:execOp bz o=(loadVar 21 bO >>= λv=>pure (Next.value v)):=by unfold execOp;rw[f];dsimp only;rw[h];rfl
 have r:(loadVar 21 bO).runT Q w #[]=(load bO).runT Q w #[]:=by unfold loadVar isAgg;rw[gj (gj (mI hu w #[]))];rfl
 unfold load at r;rw[e];cases c:w.cell? bO with
 |none=>
  let⟨s,g⟩:=d c;simp only[Sem.runT,c]at r;rw[show(Mode.plain == Mode.atomic)=false from S6,g]at r;exact .no (n' r) Tf
 |some v=>
  simp only[Sem.runT,c]at r;exact .ok ⟨S6,S6⟩ (gj r)
def dJ.QH(f:Q.info? 21=some i)(h:i.size=1)(d:w.cell? bO=some v)(g:o.op=.store 21 X Y)(j:bz X=.pointer (some bO))(l:bz Y=.int .i32 b):dJ Q w (execOp bz o) (λ_:Unit=>.skip) λ_ aG=>w.frozen? bO=false/\aG=w.setCell bO (.int .i32 b):=by
 have e:execOp bz o=(storeVar 21 bO (.int .i32 b) >>= λ_=>pure Next.skip):=by unfold execOp;rw[g];dsimp only;rw[j,l];rfl
 have r:(storeVar 21 bO (.int .i32 b)).runT Q w #[]=(Sem.store .plain bO (.int .i32 b) (.pure ())).runT Q w #[]:=by unfold storeVar;rw[gj (xr f w #[]),h];show(storeCells bO [.int .i32 b]).runT Q w #[]=_;unfold storeCells;rw[show bO.add 0=bO by cases bO;rfl];rfl
 rw[xC (α:=Unit) Q .plain bO (.int .i32 b) (.pure ()) w #[] nofun nofun]at r;simp only[d]at r;rw[e];cases c:w.frozen? bO with
 |true=>
  rw[Tq c]at r;exact .no (n' r) Tf
 |false=>
  rw[Tm (by simp[c])]at r;exact .ok (v:=()) ⟨S6,S6⟩ (gj r)
def QD(hu:Q.underlying 268=some (.pointer 122))(q:Q.underlying 21=some (.int .i32))(y:Q.info? 21=some i)(z:i.size=1)(u:∀bO,x=.pointer (some bO)->w.cell? bO=none->∃s,w.farLoad Q bO false=.error (.stuck s))(c:T.getD 0 undef=x/\4<=T.size)(h:dz Q dx (lone ⟨f,T,[.code (tc a b)],[],.run,Tl,none⟩ C w))(hC:2<=C.length)(d:TG Tl):
 ∃bO fo,x=.pointer (some bO)/\w.cell? bO=some (.int .i32 a)/\w.frozen? bO=false/\dz Q dx (lone ⟨f,fo,[.code .ret],[],.returning,Tl,none⟩ C (w.setCell bO (.int .i32 b))):=by
 replace h:=h.reg (l:=[0]) hC S6;obtain⟨v,_,⟨rfl,m⟩,h⟩:=h.n3 hC d S6 S6 S6 (dJ.ptr hu S6 c.1 S6);replace h:=h.gM hC;have j:=nx (T:=T) (i:=3) (v:=v) c.2;have c:=mN (i:=3) (v:=v) c;generalize T.setIfInBounds 3 v=T at h c j;rcases m with rfl|⟨rfl,bO,rfl⟩
 .exact((h.cd hC (v:=true) j.1).ob hC).elim
 replace h:=(h.cd hC (v:=false) j.1).reg (l:=[0,1]) hC S6;obtain⟨v,_,⟨rfl,p⟩,h⟩:=h.n3 hC d S6 S6 S6 (dJ.Lr q S6 c.1 (u bO S6));have o:=nx (T:=T) (i:=1) (v:=v) c.2;have c:=mN (i:=1) (v:=v) c;generalize T.setIfInBounds 1 v=T at h c o;obtain⟨n,_,⟨rfl,m⟩,h⟩:=h.n3 hC d S6 S6 S6 (dJ.int q S6 o.1 S6);replace h:=h.gM hC;have g:=nx (T:=T) (i:=2) (v:=n) c.2;have c:=mN (i:=2) (v:=n) c;generalize T.setIfInBounds 2 n=T at h c g;rcases m with⟨rfl,rfl⟩|rfl
 .replace h:=(h.cd hC (v:=true) g.1).reg (l:=[0]) hC S6
  obtain⟨_,⟨r,rfl⟩,h⟩:=h.Ew hC d S6 S6 S6 (dJ.QH y z p S6 c.1 S6);exact⟨bO,T,S6,p,r,(h.gM hC).rt hC⟩
 .exact((h.cd hC (v:=false) g.1).ob hC).elim
def JZ(c:Q.funcs[66]?=some rq)(x y:S9):Frame.enter Q 66 #[x,y] Tl=⟨66,#[x,y]++Array.replicate 40 undef,[.code xW],[],.run,Tl,none⟩:=by unfold Frame.enter;rw[c];kernel_rfl
def QC(hu:∃m,Q.underlying 114=some (.interface m))(d:T.getD 0 undef=x)(i:5<=T.size)(h:dz Q dx (lone ⟨66,T,[.code xW],[],.run,Tl,none⟩ C w))(hC:2<=C.length)(c:TG Tl):
 x=.nilIface/\dz Q dx (lone ⟨66,(T.setIfInBounds 2 (.bool true)).setIfInBounds 4 (.bool false),[.code .ret],[],.returning,Tl,none⟩ C w):=by
 replace h:=h.reg (l:=[0]) hC S6;obtain⟨v,_,⟨rfl,f⟩,h⟩:=h.n3 hC c S6 S6 S6 (dJ.nil hu S6 d S6 S6);replace h:=h.gM hC;rcases f with⟨rfl,g⟩|⟨rfl,_⟩
 .replace h:=(h.cd hC (v:=true) (uR U)).reg (l:=[0]) hC S6
  obtain⟨_,_,⟨rfl,rfl⟩,h⟩:=h.n3 hC c S6 S6 S6 (dJ.ok (cW:=λv aG=>v=.bool false/\w=aG) (acc:=#[]) ⟨S6,S6⟩ S6);exact⟨g,(h.gM hC).rt hC⟩
 .exact((h.cd hC (v:=false) (uR U)).ob hC).elim
end
end
section
def j3(op:Op)(d:TN):Tv Oper:=#[⟨d,op,4,"",#[],none⟩]
def kO(op:Op)(d:TN)(k:Code):Code:=.seq (.region 0 (j3 op d) false) k
def tR:Tb (Int×Int)->Code
 | []=>.refuse ""
 |(k,c)::l=>kO (.binOp .eql 74 (.tmp 8) (.const (ah k)) 74) (some 3) (.cond (.tmp 3) (kO (.assign (.const (ah c))) (some 2) .ret) (tR l))
def pQ:Tb (Int×Int):=[(0,3),(1,1),(2,1),(3,1),(4,5)]
def uY:Code:=kO (.binOp .eql 114 (.tmp 0) (.const .nilIface) 114) (some 3) (.cond (.tmp 3) (kO (.assign (.const (ah 0))) (some 2) .ret)
 (kO (.typeAssert (.tmp 0) 114 146 true) (some 4) (kO (.extract (.tmp 4) 1) (some 3) (.cond (.tmp 3)
  (kO (.extract (.tmp 4) 0) (some 5) (kO (.field 146 (.tmp 5) 0) (some 8) (kO (.alloc 146) (some 6) (kO (.store 146 (.tmp 6) (.tmp 5)) none (tR pQ))))) (.refuse "")))))
noncomputable def l7:TF:={f44 with body:=some uY,results:=#[.tmp 2],nfree:=1,endLine:=1000000007}
section
variable{Q:To}{dx:TU}{C:Tz}{w aG:S7}{Tl:Tx}{fn:Tw}{T:Te}{k:Tb Item}
def dz.rg{op:Op}{d:Nat}{K:Code}(h:dz Q dx (lone ⟨fn,T,[.code (kO op (some d) K)],[],.run,Tl,none⟩ C w))(hC:2<=C.length)(c:TG Tl)(f:∀bz:Operand->S9,(∀i,bz (.tmp i)=T.getD i undef)->(∀v,bz (.const v)=v)->dJ Q w (execOp bz ⟨some d,op,4,"",#[],none⟩) .value cW):∃v aG,cW v aG/\dz Q dx (lone ⟨fn,T.setIfInBounds d v,[.code K],[],.run,Tl,none⟩ C aG):=by let⟨v,aG,g,h⟩:=(h.reg (l:=[0]) hC S6).n3 hC c S6 S6 S6 (f _ (λ_=>S6) λ_=>S6);exact⟨v,aG,g,h.gM hC⟩
noncomputable def sk:Tv Field:=match prog.underlying 146 with
 |some (.struct ba)=>ba
 |_=>#[]
def aK.GL:aK.underlying 146=some (.struct sk):=av
def KU:(sk[0]?).map (λf=>(f.type,f.offset))=some (74,0):=av
def aK.u106:aK.underlying 74=some (.int .i64):=av
def aK.i165:(aK.info? 146).map (λi=>(i.size,i.zero))=some (1,some (.agg #[ah 0])):=av
def i165(S:Same Q aK):∃i,Q.info? 146=some i/\i.size=1/\i.zero=some (.agg #[ah 0]):=by
 have h:=aK.i165;rw[S.info];cases x:aK.info? 146 with
 |none=>rw[x]at h;cases h
 |some i=>rw[x]at h;have h:=bD h;exact⟨i,S6,congrArg Prod.fst h,congrArg Prod.snd h⟩
def NI{t:Tg}{i:TypeInfo}(c:Q.info? t=some i)(w:S7)(acc:TE):(typeInfo t).runT Q w acc=(.ok i w,acc):=by show(match Q.info? t with|some d=>(pure d:Sem TypeInfo)|none=>stuck "no such type").runT Q w acc=_;rw[c];rfl
def we{o:Oper}{bz:Operand->S9}{bn:Sem S9}{aG:S7}{es:TE}(e:execOp bz o=(bn >>= λu=>pure (.value u)))(r:bn.runT Q w #[]=(.ok v aG,es))(g:cW v aG):dJ Q w (execOp bz o) .value cW:=by rw[e];exact .ok g (gj r)
def Hf(S:Same Q aK)(w:S7):(zeroValue 146).runT Q w #[]=(.ok (.agg #[ah 0]) w,#[]):=by let⟨i,c,_,d⟩:=i165 S;unfold zeroValue;refine(gj (NI c w #[])).trans ?_;rw[d];rfl
def HJ(S:Same Q aK){d:Tg}{bz:Operand->S9}(f:bz (.tmp 0)=.iface d v):dJ Q w (execOp bz ⟨some 4,.typeAssert (.tmp 0) 114 146 true,4,"",#[],none⟩) .value λu aG=>w=aG/\∃z ok,u=.tuple #[z,.bool ok]/\(ok=true->d=146/\z=v):=by
 have hu:Q.underlying 146=some (.struct sk):=by rw[S.under];exact aK.GL
 refine we (bn:=Instr.typeAssert (.iface d v) 114 146 true) (v:=if d=146 then .tuple #[v,.bool true]else .tuple #[.agg #[ah 0],.bool false]) (aG:=w) (es:=#[]) (by rw[<-f];rfl) ?_ ?_
 .unfold Instr.typeAssert
  refine(gj (mI hu w #[])).trans ?_;show(if d=146 then(pure (.tuple #[v,.bool true]):Sem S9)else(zeroValue 146 >>= λz=>pure (.tuple #[z,.bool false]))).runT Q w #[]=_;by_cases c:d=146
  .rw[Tq c,Tq c];rfl
  .rw[Tm c,Tm c]
   exact(gj (Hf S w)).trans S6
 .by_cases c:d=146
  .exact⟨S6,v,true,Tq c,λ_=>⟨c,S6⟩⟩
  .exact⟨S6,_,false,Tm c,nofun⟩
def CY{j:Nat}{d:TN}{c:Te}(f:c[j]?=some u){bz:Operand->S9}(g:bz (.tmp 4)=.tuple c):dJ Q w (execOp bz ⟨d,.extract (.tmp 4) j,4,"",#[],none⟩) .value λv aG=>w=aG/\u=v:=by refine we (bn:=Instr.extract (.tuple c) j) (es:=#[]) (by rw[<-g];rfl) ?_ ⟨S6,S6⟩;unfold Instr.extract;dsimp only;rw[f];rfl
def KA(S:Same Q aK){bz:Operand->S9}(m:bz (.tmp 5)=v):
 dJ Q w (execOp bz ⟨some 8,.field 146 (.tmp 5) 0,4,"",#[],none⟩) .value λu aG=>w=aG/\∃cs,v=.agg cs/\cs[0]?=some u:=by
 have hu:Q.underlying 146=some (.struct sk):=by rw[S.under];exact aK.GL
 have l:Q.underlying 74=some (.int .i64):=by rw[S.under];exact aK.u106
 obtain⟨f,j,g,i⟩:∃f,sk[0]?=some f/\f.type=74/\f.offset=0:=by
  have h:=KU;cases x:sk[0]? with
  |none=>rw[x]at h;cases h
  |some f=>rw[x]at h;have h:=bD h;exact⟨f,S6,congrArg Prod.fst h,congrArg Prod.snd h⟩
 have e:execOp bz ⟨some 8,.field 146 (.tmp 5) 0,4,"",#[],none⟩=(Instr.field 146 (bz (.tmp 5)) 0 >>= λu=>pure (.value u)):=S6;rw[e,m];have r:(Instr.field 146 v 0).runT Q w #[]=((asAgg v) >>= λcs=>part f.type cs f.offset).runT Q w #[]:=by unfold Instr.field;refine(gj (mI hu w #[])).trans ?_;dsimp only;rw[j]
 cases v with
 |agg cs=>
  have c:(Instr.field 146 (.agg cs) 0).runT Q w #[]=(match cs[0]? with|some v=>(pure v:Sem S9)|none=>stuck "part: no such cell").runT Q w #[]:=by
   refine r.trans ((gj (aG:=w) (qJ:=#[]) (a:=cs) S6).trans ?_);rw[g,i];unfold part;refine(gj (aG:=w) (qJ:=#[]) (a:=false) ?_).trans ?_
   .unfold isAgg
    rw[gj (mI l w #[])];rfl
   .rfl
  cases d:cs[0]? with
  |some u=>
   rw[d]at c;exact .ok ⟨S6,cs,S6,d⟩ (gj c)
  |none=>
   rw[d]at c;exact .no (n' c) Tf
 |_=>exact .no (aG:=w) (acc:=#[]) (n' (r.trans (n' S6))) Tf
def Hz(S:Same Q aK){bz:Operand->S9}:dJ Q w (execOp bz ⟨some 6,.alloc 146,4,"",#[],none⟩) .value λv aG=>aG=w.alloc (.cells #[ah 0] 146)/\v=Tj w.heap.size:=by refine we (bn:=Instr.alloc 146 true (.tuple #[])) (es:=#[]) S6 ?_ ⟨S6,S6⟩;unfold Instr.alloc;exact(gj (Hf S w)).trans S6
def MO{α:Type}(a:Tv α)(h:a.size=1):a=#[a[0]]:=by
 apply Array.ext
 .simp[h]
 .intro i c d
  have:i=0:=U;subst this;rfl
def QB(S:Same Q aK){b:Nat}{cs:Te}(f:cs[0]?=some u)(g:w.heap[b]?=some (.cells #[ah 0] 146)){bz:Operand->S9}(n:bz (.tmp 6)=Tj b)(m:bz (.tmp 5)=.agg cs):
 dJ Q w (execOp bz ⟨none,.store 146 (.tmp 6) (.tmp 5),4,"",#[],none⟩) (λ_:Unit=>.skip) λ_ aG=>cs=#[u]/\(∀x,x≠b->aG.heap[x]?=w.heap[x]?)/\aG.heap.size=w.heap.size/\aG.tape=w.tape/\aG.output=w.output/\aG.os=w.os:=by
 let⟨i,y,z,_⟩:=i165 S;have e:execOp bz ⟨none,.store 146 (.tmp 6) (.tmp 5),4,"",#[],none⟩=(Instr.storeAt 146 (bz (.tmp 6)) (bz (.tmp 5)) >>= λ_=>pure Next.skip):=S6;rw[e,n,m];have r:(Instr.storeAt 146 (Tj b) (.agg cs)).runT Q w #[]=(if cs.size≠1 then((stuck "storeVar: the value has not the size of the variable" : Sem PUnit) >>= λ_=>storeCells (Ti b) cs.toList)else storeCells (Ti b) cs.toList).runT Q w #[]:=by unfold Instr.storeAt;refine(gj (aG:=w) (qJ:=#[]) (a:=(Ti b)) S6).trans ?_;unfold storeVar;refine(gj (xr y w #[])).trans ?_;rw[z];rfl
 by_cases j:cs.size=1
 .have p:cs=#[u]:=by have:=MO cs j;rw[this]at f ⊢;simp at f;rw[f]
  subst p;have o:w.cell? (Ti b)=Tn 0:=(aU g).trans S6;have q:w.frozen? (Ti b)=false:=b3 g;have l:(Instr.storeAt 146 (Tj b) (.agg #[u])).runT Q w #[]=(Sem.store .plain (Ti b) u (.pure ())).runT Q w #[]:=by rw[r,Tm aF];rfl
  by_cases hu:(∃c,u=.agg c)\/∃c,u=.tuple c
  .rcases hu with⟨c,rfl⟩|⟨c,rfl⟩<;>exact .no (n' (l.trans S6)) Tf
  .have d:=xC (α:=Unit) Q .plain (Ti b) u (.pure ()) w #[] (λc h=>hu (.inl ⟨c,h⟩)) (λc h=>hu (.inr ⟨c,h⟩))
   rw[o]at d;dsimp only at d;rw[q,Tm aF]at d;exact .ok (v:=()) (aG:=w.setCell (Ti b) u) ⟨S6,λx B=>e1 B,aF,S6,S6,S6⟩ (gj (l.trans d))
 .rw[Tq j]at r
  exact .no (aG:=w) (acc:=#[]) (n' (r.trans (n' S6))) Tf
def dz.fin{c:Int}(h:dz Q dx (lone ⟨fn,T,[.code (kO (.assign (.const (ah c))) (some 2) .ret)],[],.run,Tl,none⟩ C w))(hC:2<=C.length)(d:TG Tl)(g:9<=T.size):
 ∃fo,fo.getD 2 undef=ah c/\dz Q dx (lone ⟨fn,fo,[.code .ret],[],.returning,Tl,none⟩ C w):=by
 obtain⟨v,_,⟨rfl,rfl⟩,h⟩:=h.rg hC d (cW:=λv aG=>v=ah c/\w=aG) λbz _ f=>we (bn:=pure (bz (.const (ah c)))) (aG:=w) (es:=#[]) S6 S6 ⟨f _,S6⟩
 exact⟨_,uR (T:=T) U,h.rt hC⟩
def Iy(hu:Q.underlying 74=some (.int .i64))(hC:2<=C.length)(m:TG Tl):∀(l:Tb (Int×Int)) {T:Te},T.getD 8 undef=u/\9<=T.size->
 dz Q dx (lone ⟨fn,T,[.code (tR l)],[],.run,Tl,none⟩ C w)->∃k c fo,(k,c)∈l/\u=ah k/\fo.getD 2 undef=ah c/\dz Q dx (lone ⟨fn,fo,[.code .ret],[],.returning,Tl,none⟩ C w):=by
 intro l;induction l with
 |nil=>intro T _ h;exact(dz.ob h hC).elim
 |cons p l r=>
  obtain⟨k,c⟩:=p;intro T j h;obtain⟨v,_,⟨rfl,o⟩,h⟩:=dz.rg (op:=.binOp .eql 74 (.tmp 8) (.const (ah k)) 74) (d:=3) (K:=.cond (.tmp 3) (kO (.assign (.const (ah c))) (some 2) .ret) (tR l)) h hC m λbz n q=>dJ.int hu S6 ((n 8).trans j.1) (q _)
  have g:=nx (T:=T) (i:=3) (v:=v) j.2;rcases o with⟨rfl,e⟩|rfl
  .let⟨fo,f,h⟩:=dz.fin (h.cd hC (v:=true) g.1) hC m g.2
   exact⟨k,c,fo,List.mem_cons_self,e,f,h⟩
  .let⟨y,bp,fo,hm,e,f,h⟩:=r (mN j) (h.cd hC (v:=false) g.1)
   exact⟨y,bp,fo,Ur _ hm,e,f,h⟩
def yx(w w':S7):Prop:=(∀b,b<w.heap.size->w'.heap[b]?=w.heap[b]?)/\w.heap.size<=w'.heap.size/\w'.tape=w.tape/\w'.output=w.output/\w'.os=w.os
def QE(S:Same Q aK)(hu:∃m,Q.underlying 114=some (.interface m)){x:S9}(o:T.getD 0 undef=x)(D:9<=T.size)(hC:2<=C.length)(j:TG Tl)(h:dz Q dx (lone ⟨fn,T,[.code uY],[],.run,Tl,none⟩ C w)):
 (x=.nilIface/\∃fo,fo.getD 2 undef=ah 0/\dz Q dx (lone ⟨fn,fo,[.code .ret],[],.returning,Tl,none⟩ C w))\/
 ∃k c fo w',(k,c)∈pQ/\x=.iface 146 (.agg #[ah k])/\fo.getD 2 undef=ah c/\yx w w'/\dz Q dx (lone ⟨fn,fo,[.code .ret],[],.returning,Tl,none⟩ C w'):=by
 obtain⟨v,_,⟨rfl,H⟩,h⟩:=h.rg (d:=3) hC j λbz g q=>dJ.nil hu S6 ((g 0).trans o) (q _) S6
 have y:=nx (T:=T) (i:=3) (v:=v) D;rcases H with⟨rfl,e⟩|⟨rfl,R,u,rfl⟩
 .let⟨fo,r,h⟩:=dz.fin (h.cd hC (v:=true) y.1) hC j y.2
  exact .inl ⟨e,fo,r,h⟩
 right;replace h:=h.cd hC (v:=false) y.1;have o:=mN (i:=3) (v:=.bool false) ⟨o,D⟩;generalize T.setIfInBounds 3 (.bool false)=T at h o;obtain⟨_,_,⟨rfl,z,ok,rfl,G⟩,h⟩:=h.rg (d:=4) hC j λbz g q=>HJ S ((g 0).trans o.1)
 have n:=nx (T:=T) (i:=4) (v:=.tuple #[z,.bool ok]) o.2;generalize T.setIfInBounds 4 (.tuple #[z,.bool ok])=T at h n;obtain⟨_,_,⟨rfl,rfl⟩,h⟩:=h.rg (d:=3) hC j λbz g q=>CY (u:=.bool ok) S6 ((g 4).trans n.1)
 replace h:=h.cd hC (v:=ok) (uR U);cases ok with
 |false=>exact(dz.ob h hC).elim
 |true=>
 obtain⟨rfl,rfl⟩:=G S6;have n:=mN (i:=3) (v:=.bool true) n;generalize T.setIfInBounds 3 (.bool true)=T at h n;obtain⟨_,_,⟨rfl,rfl⟩,h⟩:=dz.rg (op:=.extract (.tmp 4) 0) (d:=5) h hC j λbz g q=>CY (u:=z) S6 ((g 4).trans n.1)
 have f:=nx (T:=T) (i:=5) (v:=z) n.2;generalize T.setIfInBounds 5 z=T at h f;obtain⟨u,_,⟨rfl,cs,rfl,F⟩,h⟩:=h.rg (d:=8) hC j λbz g q=>KA S ((g 5).trans f.1)
 have p:=nx (T:=T) (i:=8) (v:=u) f.2;have f:=mN (i:=8) (v:=u) f;generalize T.setIfInBounds 8 u=T at h p f;obtain⟨_,_,⟨rfl,rfl⟩,h⟩:=h.rg (d:=6) hC j λbz g q=>Hz S
 have B:=nx (T:=T) (i:=6) (v:=Tj w.heap.size) p.2;have f:=mN (i:=6) (v:=Tj w.heap.size) f;have p:=mN (i:=6) (v:=Tj w.heap.size) p;generalize T.setIfInBounds 6 (Tj w.heap.size)=T at h B f p;obtain⟨P,⟨rfl,I,J,K,L,M⟩,h⟩:=(h.reg (l:=[0]) hC S6).Ew hC j S6 S6 S6 (QB S F (Array.getElem?_push_size) B.1 f.1);obtain⟨k,c,fo,hm,rfl,r,h⟩:=Iy (by rw[S.under];exact aK.u106) hC j pQ p (h.gM hC);exact⟨k,c,fo,P,hm,S6,r,⟨λb E=>(I b U).trans (heap_alloc_old _ _ E),by rw[J];simp,K,L,M⟩,h⟩
end
end
end Go.aO
