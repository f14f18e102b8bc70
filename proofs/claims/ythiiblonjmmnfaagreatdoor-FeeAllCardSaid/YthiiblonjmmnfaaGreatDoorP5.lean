/- Part 6 of a law on fees: no conditions. -/
import Derived.Test.YthiiblonjmmnfaaGreatDoorP1
import Derived.Conc.MuSpec
import Derived.Laws.Rows
import Derived.Test.YthiiblonjmmnfaaGreatDoorChecked
import Derived.KernelRfl
set_option maxHeartbeats 8000000
set_option maxRecDepth 100000
set_option linter.all false
namespace Go.aN
attribute [-simp] Go.Sem.runT_eq
open Go.ConcM (OsLater)
section
def tW:cr->List Event
 |.load m a _=>[⟨.cell a,false,m == .atomic⟩]
 |.store m a _=>[⟨.cell a,true,m == .atomic⟩]
 |.mark m=>[⟨.mark m,false,true⟩]
 |.sys _ _=>[⟨.output,true,false⟩]
 |.getObj r o=>[⟨.obj r,false,o.isChan⟩]
 |.setObj r o=>[⟨.obj r,true,o.isChan⟩]
 |_=>[]
def cB:List cr->List Event
 | []=>[]
 |f::l=>tW f++cB l
def Does.events{w w':World}{l:List cr}{es:Array Event}(h:Does w l w' es):es=(cB l).toArray:=by
 induction h with
 |nil=>rfl
 |load _ _ c|store _ _ _ c|mark _ c|sys _ _ c|getObj _ _ _ c|setObj _ _ _ c=>rw[c];simp[cB,tW]
 |_=>assumption
def lW(P:Program):Bool->List Event->List Event
 |_,[]=>[]
 |q,e::l=>match e.loc with
  |.mark (.extern f)=>lW P ((P.funcs[f]?).any (·.norace)) l
  |_=>if q && !e.sync then lW P q l else e::lW P q l
def u6(P:Program)(f:FuncId)(l:List Event):seen P f l.toArray=(lW P ((P.funcs[f]?).any (·.norace)) l).toArray:=by
 have key:∀(F:Bool×Array Event->Event->Bool×Array Event),(∀x e f,e.loc=.mark (.extern f)->F x e=((P.funcs[f]?).any (·.norace),x.2))->(∀x e,(∀f,e.loc≠.mark (.extern f))->F x e=(x.1,if (x.1 && !e.sync)=true then x.2 else x.2.push e))->
  ∀(l:List Event) (q:Bool) (acc:Array Event),(l.foldl F (q,acc)).2=acc++(lW P q l).toArray:=by
  intro F g h l;induction l with
  |nil=>intro q acc;simp[lW]
  |cons e l d=>
   intro q acc;rw[List.foldl_cons];unfold lW;split
   .rename_i f he
    rw[g _ _ f he];exact d _ _
   .rename_i he
    rw[h _ _ λf c=>he f c,d];dsimp only;split<;>simp
 unfold seen;dsimp only;rw[<-Array.foldl_toList];refine(key _ (λx e f he=>?_) (λx e he=>?_) l _ #[]).trans (by simp)
 .simp only[he]
 .split
  .rename_i f c;exact absurd c (he f)
  .rfl
def gY(nr:Bool):List Event->List Event
 | []=>[]
 |e::l=>match e.loc with
  |.mark (.extern _)=>gY nr l
  |_=>if nr && !e.sync then gY nr l else e::gY nr l
inductive gO where
 |ld (i off:Nat)
 |st (i off:Nat) (v:Value)
abbrev Mem:=List (Bool×Nat×Obj)
def prun:Mem->List gO->Option (List df×List cr×Mem)
 |M,[]=>some ([],[],M)
 |M,.ld i off::l=>match M[i]? with
  |some (_,b,.cells c _ _)=>match c[off]? with
   |some v=>(prun M l).map λx=>(.val v::x.1,.load .plain ⟨b,off,none⟩ v::x.2.1,x.2.2)
   |none=>none
  |_=>none
 |M,.st i off v::l=>match M[i]? with
  |some (true,b,.cells c e (0,0))=>if off<c.size then(prun (M.set i (true,b,.cells (c.setIfInBounds off v) e (0,0))) l).map λx=>(x.1,.store .plain ⟨b,off,none⟩ v::x.2.1,x.2.2)else none
  |_=>none
def pA(M:Mem)(l:List gO):List df:=match prun M l with
 |some x=>x.1
 |none=>[]
def ih(M:Mem)(l:List gO):List cr:=match prun M l with
 |some x=>x.2.1
 |none=>[]
def cK(M:Mem)(l:List gO):Mem:=match prun M l with
 |some x=>x.2.2
 |none=>[]
def x4{M:Mem}{l:List gO}(h:(prun M l).isSome=true):prun M l=some (pA M l,ih M l,cK M l):=by
 unfold pA ih cK;rcases e:prun M l with _|x
 .rw[e]at h;cases h
 .rfl
structure fF(M:Mem)(w:World):Prop where
 has:∀(i:Nat) own b o,M[i]?=some (own,b,o)->w.heap[b]?=some o
 eV:∀(i j:Nat) own b o cm aA aS,M[i]?=some (own,b,o)->M[j]?=some (cm,aA,aS)->i≠j->b≠aA
structure Calm(w w':World):Prop where
 size:w.heap.size<=w'.heap.size
 tape:w'.tape=w.tape
 output:w'.output=w.output
 os:OsLater w.os w'.os
def Calm.refl(w:World):Calm w w:=⟨Pk,rfl,rfl,OsLater.refl _⟩
def Calm.trans{a b c:World}(h:Calm a b)(k:Calm b c):Calm a c:=⟨Po h.size k.size,k.tape.trans h.tape,k.output.trans h.output,h.os.trans k.os⟩
def Calm.at(w:World)(k:Nat):Calm w (w.at k):=⟨Pk,rfl,rfl,OsLater.refl _⟩
def aT{w:World}{b o:Nat}{c:Array Value}{e:TypeId}{f:Nat×Nat}(h:w.heap[b]?=some (.cells c e f)):w.cell? ⟨b,o,none⟩=c[o]?:=by simp[World.cell?,h]
def b1{w:World}{b o:Nat}{c:Array Value}{e:TypeId}(h:w.heap[b]?=some (.cells c e (0,0))):w.frozen? ⟨b,o,none⟩=false:=by simp[World.frozen?,h]
def yk{w:World}{b:Nat}{c:Array Value}{e:TypeId}{f:Nat×Nat}(h:w.heap[b]?=some (.cells c e f)):w.shape? b=some (e,c.size):=by simp[World.shape?,h]
def cQ{w:World}{b o:Nat}{c:Array Value}{e:TypeId}{f:Nat×Nat}{v:Value}(h:w.heap[b]?=some (.cells c e f)):(w.setCell ⟨b,o,none⟩ v).heap[b]?=some (.cells (c.setIfInBounds o v) e f):=by have d:b<w.heap.size:=(Array.getElem?_eq_some_iff.1 h).1;simp[World.setCell,Array.getElem?_modify,h]
def ft{w:World}{b:Nat}{a:Addr}{v:Value}(h:b≠a.block):(w.setCell a v).heap[b]?=w.heap[b]?:=heap_setCell_other w a b v h
def yi(w:World)(a:Addr)(v:Value):Calm w (w.setCell a v):=⟨by simp,rfl,rfl,OsLater.refl _⟩
def xv{α:Type}{l:List α}{i j:Nat}{a x:α}(h:(l.set i a)[j]?=some x):(i=j/\x=a)\/(i≠j/\l[j]?=some x):=by
 rw[List.getElem?_set]at h;split at h
 .rename_i e
  split at h
  .cases h;exact .inl ⟨e,rfl⟩
  .cases h
 .rename_i e;exact .inr ⟨e,h⟩
def sC:∀{l:List gO} {M bR:Mem} {D:List df} {B:List cr} {w:World},prun M l=some (D,B,bR)->fF M w->
 ∃w',Does w B w' (cB B).toArray/\fF bR w'/\Calm w w'/\w'.drawn=w.drawn/\w'.heap.size=w.heap.size/\(∀b,(∀(i:Nat) o,M[i]?≠some (true,b,o))->w'.heap[b]?=w.heap[b]?)/\
  (∀e∈cB B,∃(i:Nat) (own:Bool) (b:Nat) (o:Obj) (off:Nat) (wr:Bool),M[i]?=some (own,b,o)/\e=⟨.cell ⟨b,off,none⟩,wr,false⟩/\(wr=true->own=true))/\
  (∀(i:Nat) own b o,bR[i]?=some (own,b,o)->∃u,M[i]?=some (own,b,u))/\(∀(i:Nat) own b o,M[i]?=some (own,b,o)->∃u,bR[i]?=some (own,b,u)):=by
 intro l;induction l with
 |nil=>
  intro M bR D B w h hm;cases h;exact⟨w,.nil w,hm,Calm.refl w,rfl,rfl,λ_ _=>rfl,(λe he=>(by cases he)),λi own b o h=>⟨o,h⟩,λi own b o h=>⟨o,h⟩⟩
 |cons x l Y=>
  intro M bR D B w h hm;cases x with
  |ld i off=>
   unfold prun at h;rcases e:M[i]? with _|⟨own,b,o⟩
   .rw[e]at h;cases h
   rw[e]at h;cases o with
   |cells c t f=>
    dsimp only at h;rcases J:c[off]? with _|v
    .rw[J]at h;cases h
    rw[J]at h;dsimp only at h;rcases C:prun M l with _|⟨ad,ae,aa⟩
    .rw[C]at h;cases h
    rw[C]at h;cases h;obtain⟨w',hd,K,L,P,Q,R,S,T,I⟩:=Y C hm;refine⟨w',?_,K,L,P,Q,R,?_,T,I⟩
    .have:=Does.load (m:=.plain) (a:=⟨b,off,none⟩) (v:=v) (by rw[aT (hm.has i own b _ e)];exact J) hd
     simpa [cB,tW]using this
    .intro bx V
     rcases List.mem_append.1 V with k|k
     .have:bx=⟨.cell ⟨b,off,none⟩,false,false⟩:=Ps k
      exact⟨i,own,b,_,off,false,e,this,by simp⟩
     .exact S bx k
   |_=>cases h
  |st i off v=>
   unfold prun at h;rcases e:M[i]? with _|⟨own,b,o⟩
   .rw[e]at h;cases h
   rw[e]at h;cases own with
   |false=>cases h
   |true=>
   cases o with
   |cells c t f=>
    obtain⟨f1,f2⟩:=f;rcases f1 with _|f1
    .rcases f2 with _|f2
     .have h:(if off<c.size then(prun (M.set i (true,b,.cells (c.setIfInBounds off v) t (0,0))) l).map λx=>(x.1,.store .plain ⟨b,off,none⟩ v::x.2.1,x.2.2)else none)=some (D,B,bR):=h
      split at h
      .rename_i aj
       have H:(prun (M.set i (true,b,.cells (c.setIfInBounds off v) t (0,0))) l).map (λx=>(x.1,cr.store .plain ⟨b,off,none⟩ v::x.2.1,x.2.2))=some (D,B,bR):=h;clear h;have U:=hm.has i true b _ e;have ai:fF (M.set i (true,b,.cells (c.setIfInBounds off v) t (0,0))) (w.setCell ⟨b,off,none⟩ v):=by
        refine⟨λj Z E u d=>?_,λj k q p z ar aq G d ag F=>?_⟩
        .rcases xv d with⟨rfl,k⟩|⟨F,r⟩
         .cases k;exact cQ U
         .rw[ft (hm.eV j i Z E u true b _ r e (Ne.symm F))]
          exact hm.has j Z E u r
        .have g:∀{j:Nat} {q p z},(M.set i (true,b,Obj.cells (c.setIfInBounds off v) t (0,0)))[j]?=some (q,p,z)->∃u,M[j]?=some (q,p,u):=by
          intro j q p z d;rcases xv d with⟨rfl,k⟩|⟨_,r⟩
          .cases k;exact⟨_,e⟩
          .exact⟨_,r⟩
         obtain⟨_,r⟩:=g d;obtain⟨_,ah⟩:=g ag;exact hm.eV j k _ _ _ _ _ _ r ah F
       rcases C:prun (M.set i (true,b,.cells (c.setIfInBounds off v) t (0,0))) l with _|⟨ad,ae,aa⟩
       .rw[C]at H;cases H
       rw[C]at H;cases H;obtain⟨w',hd,K,L,P,Q,R,S,T,I⟩:=Y C ai;have back:∀{j:Nat} {q p z},(M.set i (true,b,Obj.cells (c.setIfInBounds off v) t (0,0)))[j]?=some (q,p,z)->∃u,M[j]?=some (q,p,u):=by
        intro j q p z d;rcases xv d with⟨rfl,k⟩|⟨_,r⟩
        .cases k;exact⟨_,e⟩
        .exact⟨_,r⟩
       refine⟨w',?_,K,(yi _ _ _).trans L,P.trans rfl,Q.trans (by simp),?_,?_,?_,?_⟩
       .have af:w.cell? ⟨b,off,none⟩=some c[off]:=by rw[aT U];simp[aj]
        have:=Does.store (m:=.plain) (a:=⟨b,off,none⟩) (v:=v) af (b1 U) hd;simpa [cB,tW]using this
       .intro E W
        have F:E≠b:=by rintro rfl;exact W i _ e
        rw[R E λj u d=>?_,ft F];obtain⟨G,r⟩:=back d;exact W j G r
       .intro bx V
        rcases List.mem_append.1 V with k|k
        .have:bx=⟨.cell ⟨b,off,none⟩,true,false⟩:=Ps k
         exact⟨i,true,b,_,off,true,e,this,by simp⟩
        .obtain⟨j,q,p,z,ap,wr,ak,am,ao⟩:=S bx k
         obtain⟨G,al⟩:=back ak;exact⟨j,q,p,G,ap,wr,al,am,ao⟩
       .intro j q p z d
        obtain⟨G,r⟩:=T j q p z d;exact back r
       .intro j q p z d
        by_cases X:i=j
        .subst X
         rw[e]at d;cases d;exact I i true b _ (by rw[List.getElem?_set_self (by exact(List.getElem?_eq_some_iff.1 e).1)])
        .exact I j q p z (by rw[List.getElem?_set_ne X];exact d)
      .cases h
     .cases h
    .cases h
   |_=>cases h
def fF.push{M:Mem}{w w':World}{o:Obj}(h:fF M w)(q:w'.heap=w.heap.push o):fF (M++[(true,w.heap.size,o)]) w':=by
 have lt:∀(i:Nat) own b o,M[i]?=some (own,b,o)->b<w.heap.size:=λi own b o k=>(Array.getElem?_eq_some_iff.1 (h.has i own b o k)).1
 have cs:∀(i:Nat) own b c,(M++[(true,w.heap.size,o)])[i]?=some (own,b,c)->M[i]?=some (own,b,c)\/(i=M.length/\b=w.heap.size/\c=o):=by
  intro i own b c k;rcases Nat.lt_trichotomy i M.length with k1|k1|k1
  .rw[PF k1]at k;exact .inl k
  .subst k1
   rw[PE Pk]at k;simp at k;exact .inr ⟨rfl,k.2.1.symm,k.2.2.symm⟩
  .rw[PE (by omega),List.getElem?_eq_none (by simp;omega)]at k
   cases k
 refine⟨λi own b c k=>?_,λi j own b c l f g k1 d p=>?_⟩
 .rw[q]
  rcases cs i own b c k with k|⟨_,rfl,rfl⟩
  .have:=lt i own b c k
   rw[PA,if_neg (by omega)];exact h.has i own b c k
  .simp
 .rcases cs i own b c k1 with k1|⟨r,rfl,_⟩<;>rcases cs j l f g d with d|⟨u,rfl,_⟩
  .exact h.eV i j _ _ _ _ _ _ k1 d p
  .have:=lt i own b c k1;omega
  .have:=lt j l f g d;omega
  .omega
def fF.keep{M:Mem}{w w':World}(h:fF M w)(c:∀(i:Nat) own b o,M[i]?=some (own,b,o)->w'.heap[b]?=w.heap[b]?):fF M w':=
 ⟨λi own b o k=>(c i own b o k).trans (h.has i own b o k),h.eV⟩
def nd:Mem->List Nat->Mem
 |M,[]=>M
 |M,i::l=>match M[i]? with
  |some (_,b,o)=>nd (M.set i (false,b,o)) l
  |none=>nd M l
def sn:Bool->Mem->Nat->Obj->Mem
 |true,M,b,o=>M++[(true,b,o)]
 |false,M,_,_=>M
inductive Edge(Pos:Type):Type 1 where
 |fix (nr wk:Bool) (Pf:List df) (cv:List cr) (to:Pos)
 |bH (ops:List gO) (to:Pos)
 |new (dV:Bool) (o:Obj) (to:Nat->Pos)
 |clock (f:FuncId) (to:Int->Pos)
 |lift (f:FuncId) (args:Array Value) {α:Type} (cl:α->Value) (to:α->Pos)
 |call (f:FuncId) (args:Array Value) {α:Type} (cl:α->Value) (to:α->Pos)
 |leave (v:Value)
 |jP (ops:List gO) (v:Value)
 |done
 |comm (cases:Array CommCase) (b:Bool) (bB:CommShape) {α:Type} (cl:α->Value) (to:α->Pos)
 |spawn (f:Fn) (c a:Array Value) (hi:List Nat) (to:Pos)
 |wait (Pf:List df) (cv:List cr)
 |ord (f:FuncId) (id:Nat) (ops:Array Oper) (L:List (List Nat)) (to:List Nat->Pos)
 |join (X:bs) (to:Pos)
def er(k:CallKind)(c:Frame)(v:Value):Frame:=match k with
 |.normal=>c.finish v
 |_=>c
def Kept(c:Frame):Prop:=∀e d,c.mode=.panicking (e::d)->e.recovered=false
def lQ(P:Program)(k:CallKind)(x:bs)(c:List df):Option (Value×List cr):=
 match x.1.roundOf,x.1.mode,x.1.defers,x.2,k,x.1.kind with
 |none,.returning,[],[],.normal,.normal|none,.returning,[],[],.deferred,.deferred=>match P.funcs[x.1.fn]? with
  |some fn=>ki P (results fn x.1.tmps) c
  |none=>none
 |_,_,_,_,_,_=>none
def n'{P:Program}{main:Bool}{st:GoStatus}{off:Option (Array CommCase×CommShape)}{k:CallKind}{x:bs}{o:List df}{v:Value}{l:List cr}(h:lQ P k x o=some (v,l)){c:Frame}{rest:List Frame}(q:Kept c){w w':World}{es:Array Event}(hd:Does w l w' es):
 x.2 = []/\stepG P main ⟨x.1,c::rest,st,none,off⟩ w=.go ⟨er k c v,rest,.running,none,none⟩ w' (seen P x.1.fn es):=by
 obtain⟨fr,cs⟩:=x;unfold lQ at h;dsimp only at h;split at h
 .rename_i p f g i
  rcases d:P.funcs[fr.fn]? with _|fn
  .rw[d]at h;cases h
  rw[d]at h;dsimp only at h;have j:=o' h hd;refine⟨rfl,?_⟩;rw[xt f];simp[unwind,g,f,d,j,doReturn,i,GStep.after,er]
 .rename_i p f g i
  rcases d:P.funcs[fr.fn]? with _|fn
  .rw[d]at h;cases h
  rw[d]at h;dsimp only at h;have j:=o' h hd;refine⟨rfl,?_⟩;rw[xt f];obtain⟨r,ct,B,cd,eU,u,z⟩:=c;rcases eU with _|_|(_|⟨⟨dV,E,D⟩,C⟩)
  .simp[unwind,g,f,d,j,doReturn,i,GStep.after,er]
  .simp[unwind,g,f,d,j,doReturn,i,GStep.after,er]
  .simp[unwind,g,f,d,j,doReturn,i,GStep.after,er]
  .have:=q _ _ rfl
   dsimp only at this;subst this;simp[unwind,g,f,d,j,doReturn,i,GStep.after,er]
 .cases h
def yX(P:Program)(x:bs):Bool:=mayWake P ⟨x.1,[],.running,none,none⟩
structure cS(Pos:Type) where
 P:Program
 ext:Ext
 lift:FuncId->Bool
 kd:CallKind
 mem:Pos->Mem
 dA:Pos->Nat
 cq:Pos->List (Edge Pos)
section
variable{Pos:Type}(A:cS Pos)
abbrev cS.to(n:Nat)(x:bs):bs:=lS A.P A.ext A.lift n x
abbrev cS.X(n:Nat)(x:bs)(c:List df):Option (List cr):=xJ A.P A.ext A.lift n x c
abbrev cS.Y(n:Nat)(x:bs)(c:List df):bs:=qH A.P A.ext A.lift n x c
abbrev cS.nr(n:Nat)(x:bs):Bool:=(A.P.funcs[(A.to n x).1.fn]?).any (·.norace)
def rz(k:Pos->bs->Prop)(p:Pos)(n:Nat):Edge Pos->bs->Prop
 |.fix nr wk g d to,x=>A.X n x g=some d/\(lW A.P (A.nr n x) (cB d)=gY nr (cB d)/\((wk && !yX A.P (A.to n x))=false/\(A.mem to=A.mem p/\k to (A.Y n x g))))
 |.bH ops to,x=>(prun (A.mem p) ops).isSome=true/\(A.X n x (pA (A.mem p) ops)=some (ih (A.mem p) ops)/\(lW A.P (A.nr n x) (cB (ih (A.mem p) ops))=cB (ih (A.mem p) ops)/\(A.mem to=cK (A.mem p) ops/\k to (A.Y n x (pA (A.mem p) ops)))))
 |.new dV o to,x=>∀b,A.X n x [.blk b]=some [.new o b]/\(A.mem (to b)=sn dV (A.mem p) b o/\k (to b) (A.Y n x [.blk b]))
 |.clock f to,x=>(∀a,A.X n x [.ret (.int a)]=some [.mark (.extern f),.sys (.clock 1) (.int a)])/\(lW A.P (A.nr n x) [⟨.mark (.extern f),false,true⟩,⟨.output,true,false⟩] = []/\∀a,A.mem (to a)=A.mem p/\k (to a) (A.Y n x [.ret (.int a)]))
 |.lift f args cl to,x=>qi A.P A.ext (A.to n x)=some (f,args)/\∀a,A.mem (to a)=A.mem p/\k (to a) ((A.to n x).1.finish (cl a),(A.to n x).2)
 |.call f args cl to,x=>qi A.P A.ext (A.to n x)=some (f,args)/\∀a,k (to a) ((A.to n x).1.finish (cl a),(A.to n x).2)
 |.leave v,x=>lQ A.P A.kd (A.to n x) []=some (v,[])/\True
 |.jP ops v,x=>(prun (A.mem p) ops).isSome=true/\(lQ A.P A.kd (A.to n x) (pA (A.mem p) ops)=some (v,ih (A.mem p) ops)/\(lW A.P (A.nr n x) (cB (ih (A.mem p) ops))=cB (ih (A.mem p) ops)/\True))
 |.done,x=>(A.to n x).1.mode=.panicking [goexitEntry]/\((A.to n x).1.defers = []/\((A.to n x).1.todo = []/\((A.to n x).2 = []/\True)))
 |.comm cases b bB cl to,x=>qJ A.P A.ext (A.to n x)=some (.comm cases b bB)/\∀a,A.mem (to a)=A.mem p/\k (to a) ((A.to n x).1.finish (cl a),(A.to n x).2)
 |.spawn f c a hi to,x=>qJ A.P A.ext (A.to n x)=some (.spawn ⟨.fn f c,a⟩)/\(A.mem to=nd (A.mem p) hi/\k to ((A.to n x).1.finish undef,(A.to n x).2))
 |.wait g d,x=>yW A.P A.ext (A.to n x) g=some d/\True
 |.ord f id ops L to,x=>(qS .any ops=L/\(A.P.follows .mixedOrders=true/\True))/\qe (λl=>A.X n x [.ord l]=some [.order f id true ops l]/\(A.mem (to l)=A.mem p/\k (to l) (A.Y n x [.ord l]))) L
 |.join X to,x=>A.to n x=X/\(A.mem to=A.mem p/\k to X)
def g2(k:Pos->bs->Prop)(p:Pos):List (Edge Pos)->bs->Prop
 | [],_=>True
 |e::l,x=>rz A k p (A.dA p) e x/\g2 k p l x
def Good:Nat->Pos->bs->Prop
 | 0,_,_=>False
 |n+1,p,x=>g2 A (λq y=>Good n q y) p (A.cq p) x
end
section
variable{Pos:Type}{A:cS Pos}
def g2.mem{k:Pos->bs->Prop}{p:Pos}:∀{l:List (Edge Pos)} {x:bs},g2 A k p l x->∀e∈l,rz A k p (A.dA p) e x:=by
 intro l;induction l with
 |nil=>intro x _ e he;cases he
 |cons a l c=>
  intro x h e he;rcases List.mem_cons.1 he with rfl|he
  .exact h.1
  .exact c h.2 e he
def rz.mono{k d:Pos->bs->Prop}(c:∀q y,k q y->d q y){p:Pos}{n:Nat}{e:Edge Pos}{x:bs}(h:rz A k p n e x):rz A d p n e x:=by
 cases e with
 |fix=>exact⟨h.1,h.2.1,h.2.2.1,h.2.2.2.1,c _ _ h.2.2.2.2⟩
 |bH=>exact⟨h.1,h.2.1,h.2.2.1,h.2.2.2.1,c _ _ h.2.2.2.2⟩
 |new=>exact λb=>⟨(h b).1,(h b).2.1,c _ _ (h b).2.2⟩
 |clock=>exact⟨h.1,h.2.1,λa=>⟨(h.2.2 a).1,c _ _ (h.2.2 a).2⟩⟩
 |lift=>exact⟨h.1,λa=>⟨(h.2 a).1,c _ _ (h.2 a).2⟩⟩
 |call=>exact⟨h.1,λa=>c _ _ (h.2 a)⟩
 |leave=>exact h
 |jP=>exact h
 |done=>exact h
 |comm=>exact⟨h.1,λa=>⟨(h.2 a).1,c _ _ (h.2 a).2⟩⟩
 |spawn=>exact⟨h.1,h.2.1,c _ _ h.2.2⟩
 |wait=>exact h
 |ord f id ops L to=>
  refine⟨h.1,?_⟩;have:=h.2;clear h;induction L with
  |nil=>trivial
  |cons a L g=>exact⟨⟨this.1.1,this.1.2.1,c _ _ this.1.2.2⟩,g this.2⟩
 |join=>exact⟨h.1,h.2.1,c _ _ h.2.2⟩
def g2.mono{k c:Pos->bs->Prop}(d:∀q y,k q y->c q y){p:Pos}:∀{l:List (Edge Pos)} {x:bs},g2 A k p l x->g2 A c p l x:=by
 intro l;induction l with
 |nil=>intro x h;exact h
 |cons a l f=>intro x h;exact⟨h.1.mono d,f h.2⟩
def Good.mono:∀{n m:Nat},n<=m->∀{p:Pos} {x:bs},Good A n p x->Good A m p x:=by
 intro n;induction n with
 |zero=>intro m _ p x h;exact h.elim
 |succ n c=>
  intro m hm p x h;cases m with
  |zero=>omega
  |succ m=>exact g2.mono (λq y k=>c (by omega) k) h
def eA(A:cS Pos)(n:Nat)(p:Pos)(j:Nat)(x:bs):Prop:=∃y,Good A n p y/\A.to j x=A.to (A.dA p) y
def At(A:cS Pos)(n:Nat)(p:Pos)(x:bs):Prop:=∃y,Good A (n+1) p y/\x=A.to (A.dA p) y
def eA.start{n:Nat}{p:Pos}{x:bs}(h:Good A n p x):eA A n p (A.dA p) x:=⟨x,h,rfl⟩
def eA.step(T:dk A.P A.ext){n:Nat}{p:Pos}{j:Nat}{x:bs}(h:eA A n p j x):
 (∃m,n=m+1/\At A m p x)\/∃y bn,bn<j/\eA A n p bn y/\∀main base st off (w:World),stepG A.P main ⟨x.1,x.2++base,st,none,off⟩ w=.go (bQ y base) w:=by
 obtain⟨z,d,he⟩:=h;cases n with
 |zero=>exact d.elim
 |succ m=>
  cases j with
  |zero=>exact .inl ⟨m,rfl,z,d,he⟩
  |succ j=>
   have e:lS A.P A.ext A.lift (j+1) x=match mv A.P A.ext A.lift x []with
    |some (y,l)=>if uo l then lS A.P A.ext A.lift j y else x
    |none=>x:=rfl
   have c:lS A.P A.ext A.lift (j+1) x=A.to (A.dA p) z:=he;rw[e]at c;split at c
   .rename_i y l h
    split at c
    .rename_i g
     refine .inr ⟨y,j,Nat.lt_succ_self _,⟨z,d,c⟩,λmain base st off w=>?_⟩;obtain⟨es,hd,f⟩:=HT g w;rw[pw T h hd,Lt _ _ _ f]
    .exact .inl ⟨m,rfl,z,d,c⟩
   .exact .inl ⟨m,rfl,z,d,c⟩
def At.fix(T:dk A.P A.ext){n:Nat}{p:Pos}{x:bs}(h:At A n p x){nr wk:Bool}{f:List df}{c:List cr}{to:Pos}(he:Edge.fix nr wk f c to∈A.cq p):
 ∃y,eA A n to (A.dA to) y/\A.mem to=A.mem p/\(wk=true->yX A.P x=true)/\
  ∀main base st off (w w':World) es,Does w c w' es->stepG A.P main ⟨x.1,x.2++base,st,none,off⟩ w=.go (bQ y base) w' (gY nr (cB c)).toArray:=by
 obtain⟨z,q,rfl⟩:=h;obtain⟨g,i,d,j,l⟩:=g2.mem q _ he;refine⟨_,eA.start l,j,λo=>by rw[o]at d;simpa using d,λmain base st off w w' es hd=>?_⟩;rw[pw T (su g) hd,hd.events,u6,i]
def At.bH(T:dk A.P A.ext){n:Nat}{p:Pos}{x:bs}(h:At A n p x){ops:List gO}{to:Pos}(he:Edge.bH ops to∈A.cq p):
 ∃y,eA A n to (A.dA to) y/\prun (A.mem p) ops=some (pA (A.mem p) ops,ih (A.mem p) ops,A.mem to)/\
  ∀main base st off (w w':World) es,Does w (ih (A.mem p) ops) w' es->stepG A.P main ⟨x.1,x.2++base,st,none,off⟩ w=.go (bQ y base) w' (cB (ih (A.mem p) ops)).toArray:=by
 obtain⟨z,j,rfl⟩:=h;obtain⟨c,d,f,g,i⟩:=g2.mem j _ he;refine⟨_,eA.start i,by rw[g];exact x4 c,λmain base st off w w' es hd=>?_⟩;rw[pw T (su d) hd,hd.events,u6,f]
def At.new(T:dk A.P A.ext){n:Nat}{p:Pos}{x:bs}(h:At A n p x){dV:Bool}{o:Obj}{to:Nat->Pos}(he:Edge.new dV o to∈A.cq p)(b:Nat):
 ∃y,eA A n (to b) (A.dA (to b)) y/\A.mem (to b)=sn dV (A.mem p) b o/\
  ∀main base st off (w:World),w.heap.size=b->stepG A.P main ⟨x.1,x.2++base,st,none,off⟩ w=.go (bQ y base) {w with heap:=w.heap.push o}:=by
 obtain⟨z,i,rfl⟩:=h;obtain⟨c,d,f⟩:=g2.mem i _ he b;refine⟨_,eA.start f,d,λmain base st off w g=>?_⟩;rw[pw T (su c) (.new g (.nil _))];rfl
def At.clock(T:dk A.P A.ext){n:Nat}{p:Pos}{x:bs}(h:At A n p x){f:FuncId}{to:Int->Pos}(he:Edge.clock f to∈A.cq p)(a:Int):
 ∃y,eA A n (to a) (A.dA (to a)) y/\A.mem (to a)=A.mem p/\
  ∀main base st off (w:World),(w.sys (.clock 1)).1=.int a->stepG A.P main ⟨x.1,x.2++base,st,none,off⟩ w=.go (bQ y base) (w.sys (.clock 1)).2:=by
 obtain⟨z,o,rfl⟩:=h;obtain⟨g,i,d⟩:=g2.mem o _ he;obtain⟨d,j⟩:=d a;refine⟨_,eA.start j,d,λmain base st off w l=>?_⟩;have hd:=Does.mark (m:=.extern f) (Does.sys (c:=.clock 1) l (Does.nil (w.sys (.clock 1)).2));rw[pw T (su (g a)) hd];have e:(#[⟨.mark (.extern f),false,true⟩]++(#[⟨.output,true,false⟩]++#[]):Array Event) = [(⟨.mark (.extern f),false,true⟩:Event),⟨.output,true,false⟩].toArray:=rfl;rw[e,u6,i]
def At.lift(T:dk A.P A.ext){n:Nat}{p:Pos}{x:bs}(h:At A n p x){f:FuncId}{args:Array Value}{α:Type}{cl:α->Value}{to:α->Pos}(he:Edge.lift f args cl to∈A.cq p):
 (∀a,eA A n (to a) (A.dA (to a)) (x.1.finish (cl a),x.2)/\A.mem (to a)=A.mem p)/\
  ∀main base st off (w:World),stepG A.P main ⟨x.1,x.2++base,st,none,off⟩ w=.go ⟨Frame.enter A.P f args .normal,x.1::x.2++base,.running,none,none⟩ w:=by
 obtain⟨z,g,rfl⟩:=h;obtain⟨d,c⟩:=g2.mem g _ he;exact⟨λa=>⟨eA.start (c a).2,(c a).1⟩,λmain base st off w=>zE T d w⟩
def At.call(T:dk A.P A.ext){n:Nat}{p:Pos}{x:bs}(h:At A n p x){f:FuncId}{args:Array Value}{α:Type}{cl:α->Value}{to:α->Pos}(he:Edge.call f args cl to∈A.cq p):
 (∀a,eA A n (to a) (A.dA (to a)) (x.1.finish (cl a),x.2))/\
  ∀main base st off (w:World),stepG A.P main ⟨x.1,x.2++base,st,none,off⟩ w=.go ⟨Frame.enter A.P f args .normal,x.1::x.2++base,.running,none,none⟩ w:=by
 obtain⟨z,g,rfl⟩:=h;obtain⟨c,d⟩:=g2.mem g _ he;exact⟨λa=>eA.start (d a),λmain base st off w=>zE T c w⟩
def At.leave{n:Nat}{p:Pos}{x:bs}(h:At A n p x){v:Value}(he:Edge.leave v∈A.cq p):
 x.2 = []/\∀main st off (c:Frame) (rest:List Frame) (w:World),Kept c->stepG A.P main ⟨x.1,c::rest,st,none,off⟩ w=.go ⟨er A.kd c v,rest,.running,none,none⟩ w:=by
 obtain⟨z,g,rfl⟩:=h;obtain⟨d,_⟩:=g2.mem g _ he;refine⟨(n' (main:=true) (st:=.running) (off:=none) d (c:=default) (rest:=[]) (by intro e o h;cases h) (Does.nil default)).1,λmain st off c rest w f=>?_⟩;have:=(n' (main:=main) (st:=st) (off:=off) d (rest:=rest) f (Does.nil w)).2;rw[ox]at this;exact this
def At.jP{n:Nat}{p:Pos}{x:bs}(h:At A n p x){ops:List gO}{v:Value}(he:Edge.jP ops v∈A.cq p):
 ∃M,prun (A.mem p) ops=some (pA (A.mem p) ops,ih (A.mem p) ops,M)/\((∃(w w':World) (es:Array Event),Does w (ih (A.mem p) ops) w' es)->x.2 = [])/\∀main st off (c:Frame) (rest:List Frame) (w w':World) es,Kept c->Does w (ih (A.mem p) ops) w' es->
  stepG A.P main ⟨x.1,c::rest,st,none,off⟩ w=.go ⟨er A.kd c v,rest,.running,none,none⟩ w' (cB (ih (A.mem p) ops)).toArray:=by
 obtain⟨z,j,rfl⟩:=h;obtain⟨f,d,g,_⟩:=g2.mem j _ he;refine⟨_,x4 f,λ⟨w,w',es,hd⟩=>(n' (main:=true) (st:=.running) (off:=none) d (c:=default) (rest:=[]) (by intro e o h;cases h) hd).1,λmain st off c rest w w' es i hd=>?_⟩;rw[(n' d i hd).2,hd.events,u6,g]
def At.done{n:Nat}{p:Pos}{x:bs}(h:At A n p x)(he:Edge.done∈A.cq p):
 x.2 = []/\∀main st off (w:World),stepG A.P main ⟨x.1,[],st,none,off⟩ w=.go ⟨x.1,[],.finished,none,none⟩ w:=by
 obtain⟨z,i,rfl⟩:=h;obtain⟨c,d,f,g,_⟩:=g2.mem i _ he;exact⟨g,λmain st off w=>Ga c rfl d (λ_=>f) w⟩
def At.comm(T:dk A.P A.ext){n:Nat}{p:Pos}{x:bs}(h:At A n p x){cases:Array CommCase}{b:Bool}{bB:CommShape}{α:Type}{cl:α->Value}{to:α->Pos}(he:Edge.comm cases b bB cl to∈A.cq p):
 (∀a,eA A n (to a) (A.dA (to a)) (x.1.finish (cl a),x.2)/\A.mem (to a)=A.mem p)/\
  ∀main C st off (w:World),stepG A.P main ⟨x.1,C,st,none,off⟩ w=.comm ⟨x.1,C,.running,none,none⟩ cases b bB w:=by
 obtain⟨z,f,rfl⟩:=h;obtain⟨d,c⟩:=g2.mem f _ he;exact⟨λa=>⟨eA.start (c a).2,(c a).1⟩,λmain C st off w=>FG T d C w⟩
def At.spawn(T:dk A.P A.ext){n:Nat}{p:Pos}{x:bs}(h:At A n p x){f:Fn}{c a:Array Value}{hi:List Nat}{to:Pos}(he:Edge.spawn f c a hi to∈A.cq p):
 (eA A n to (A.dA to) (x.1.finish undef,x.2)/\A.mem to=nd (A.mem p) hi)/\
  ∀main C st off (w:World),stepG A.P main ⟨x.1,C,st,none,off⟩ w=.spawn ⟨x.1.finish undef,C,.running,none,none⟩
   ⟨{(default:Frame)with fn:=A.P.funcs.size,defers:=[⟨.fn f c,a⟩],mode:=.panicking [goexitEntry]},[],.running,none,none⟩ w:=by
 obtain⟨z,j,rfl⟩:=h;obtain⟨d,g,i⟩:=g2.mem j _ he;exact⟨⟨eA.start i,g⟩,λmain C st off w=>LU T d C w⟩
def At.wait(T:dk A.P A.ext){n:Nat}{p:Pos}{x:bs}(h:At A n p x){d:List df}{c:List cr}(he:Edge.wait d c∈A.cq p):
 ∀main C st off (w:World) es,Does w c w es->stepG A.P main ⟨x.1,C,st,none,off⟩ w=.go ⟨x.1,C,.blocked,none,none⟩ w:=by
 obtain⟨z,g,rfl⟩:=h;obtain⟨f,_⟩:=g2.mem g _ he;exact λmain C st off w es hd=>OD T f C hd
def At.join{n:Nat}{p:Pos}{x:bs}(h:At A n p x){X:bs}{to:Pos}(he:Edge.join X to∈A.cq p):eA A n to (A.dA to) x/\A.mem to=A.mem p:=by obtain⟨z,g,rfl⟩:=h;obtain⟨c,d,f⟩:=g2.mem g _ he;rw[c];exact⟨eA.start f,d⟩
def At.ord(T:dk A.P A.ext){n:Nat}{p:Pos}{x:bs}(h:At A n p x){f:FuncId}{id:Nat}{ops:Array Oper}{L:List (List Nat)}{to:List Nat->Pos}(he:Edge.ord f id ops L to∈A.cq p)(w:World):
 ∃l y,l∈L/\eA A n (to l) (A.dA (to l)) y/\A.mem (to l)=A.mem p/\
  ∀main base st off,stepG A.P main ⟨x.1,x.2++base,st,none,off⟩ w=.go (bQ y base) {w with drawn:=w.drawn+1}:=by
 obtain⟨z,i,rfl⟩:=h;obtain⟨⟨d,r,_⟩,g⟩:=g2.mem i _ he;have c:Region.schedule true ops (w.tape w.drawn (.order f id))∈L:=by rw[<-d];exact Lr _ _
 obtain⟨j,o,q⟩:=qe.mem g _ c;refine⟨_,_,c,eA.start q,o,λmain base st off=>?_⟩;have hd:=Does.order (w:=w) (f:=f) (id:=id) (mixed:=true) (ops:=ops) rfl (Does.nil {w with drawn:=w.drawn+1});rw[pw T (su j) hd];rfl
end
end
end Go.aN
namespace Go.aN
attribute [-simp] Go.Sem.runT_eq
open Go.Proofs
open Extern in
def D8:List (FuncId×(Array Value->Sem Value)):=
 [(88,Atomic.loadT (.int .u32)),(123,Atomic.storeT),(136,Atomic.casT (.int .i32)),(138,Atomic.update (Op.intArith .add) .i32 true),
  (104,λ_=>do mark .disable;pure Race.none_),(105,λ_=>do mark .enable;pure Race.none_),(116,Race.marked .acquire),(103,Race.marked .releaseMerge),(111,Race.marked .read),(119,Race.marked .write),
  (141,Sync.canSpin),(142,Sync.nothing),(144,OsHooks.nano),(145,Sync.semacquire),(147,Sync.semrelease),(106,λ_=>pure (.bool false)),(115,Sync.semrelease),(120,Sync.semacquire),
  (132,Atomic.update (Op.intArith .add) .u64 true),(133,Atomic.loadT (.int .u64)),(134,Atomic.storeT),(135,Atomic.casT (.int .u64))]
def look(f:FuncId):List (FuncId×(Array Value->Sem Value))->Option (Array Value->Sem Value)
 | []=>none
 |(g,e)::l=>if f=g then some e else look f l
def gn:Ext:=λf=>look f D8
def IJ{f:FuncId}{e:Array Value->Sem Value}:∀{l:List (FuncId×(Array Value->Sem Value))},look f l=some e->(f,e)∈l:=by
 intro l;induction l with
 |nil=>intro h;cases h
 |cons p l d=>
  obtain⟨g,i⟩:=p;intro h;unfold look at h;split at h
  .rename_i c
   cases h;subst c;exact List.mem_cons_self
  .exact List.mem_cons_of_mem _ (d h)
def Entry(f:FuncId)(e:Array Value->Sem Value):Prop:=∃fn,Tryz.prog.funcs[f]?=some fn/\(fn.name == "runtime.NumGoroutine")=false/\fn.body.isNone=true/\Extern.findNext fn=none/\Extern.find fn=some e
open Extern in
def Gb:Entry 88 (Atomic.loadT (.int .u32)):=⟨Tryz.f88,Tryz.func88,by kernel_rfl,by kernel_rfl,by kernel_rfl,by kernel_rfl⟩
open Extern in
def Gl:Entry 123 (Atomic.storeT):=⟨Tryz.f123,Tryz.func123,by kernel_rfl,by kernel_rfl,by kernel_rfl,by kernel_rfl⟩
open Extern in
def Gr:Entry 136 (Atomic.casT (.int .i32)):=⟨Tryz.f136,Tryz.func136,by kernel_rfl,by kernel_rfl,by kernel_rfl,by kernel_rfl⟩
open Extern in
def Gs:Entry 138 (Atomic.update (Op.intArith .add) .i32 true):=⟨Tryz.f138,Tryz.func138,by kernel_rfl,by kernel_rfl,by kernel_rfl,by kernel_rfl⟩
open Extern in
def Gd:Entry 104 (λ_=>do mark .disable;pure Race.none_):=⟨Tryz.f104,Tryz.func104,by kernel_rfl,by kernel_rfl,by kernel_rfl,by kernel_rfl⟩
open Extern in
def Ge:Entry 105 (λ_=>do mark .enable;pure Race.none_):=⟨Tryz.f105,Tryz.func105,by kernel_rfl,by kernel_rfl,by kernel_rfl,by kernel_rfl⟩
open Extern in
def Gi:Entry 116 (Race.marked .acquire):=⟨Tryz.f116,Tryz.func116,by kernel_rfl,by kernel_rfl,by kernel_rfl,by kernel_rfl⟩
open Extern in
def Gc:Entry 103 (Race.marked .releaseMerge):=⟨Tryz.f103,Tryz.func103,by kernel_rfl,by kernel_rfl,by kernel_rfl,by kernel_rfl⟩
open Extern in
def Gg:Entry 111 (Race.marked .read):=⟨Tryz.f111,Tryz.func111,by kernel_rfl,by kernel_rfl,by kernel_rfl,by kernel_rfl⟩
open Extern in
def Gj:Entry 119 (Race.marked .write):=⟨Tryz.f119,Tryz.func119,by kernel_rfl,by kernel_rfl,by kernel_rfl,by kernel_rfl⟩
open Extern in
def Gt:Entry 141 (Sync.canSpin):=⟨Tryz.f141,Tryz.func141,by kernel_rfl,by kernel_rfl,by kernel_rfl,by kernel_rfl⟩
open Extern in
def Gu:Entry 142 (Sync.nothing):=⟨Tryz.f142,Tryz.func142,by kernel_rfl,by kernel_rfl,by kernel_rfl,by kernel_rfl⟩
open Extern in
def Gv:Entry 144 (OsHooks.nano):=⟨Tryz.f144,Tryz.func144,by kernel_rfl,by kernel_rfl,by kernel_rfl,by kernel_rfl⟩
open Extern in
def Gw:Entry 145 (Sync.semacquire):=⟨Tryz.f145,Tryz.func145,by kernel_rfl,by kernel_rfl,by kernel_rfl,by kernel_rfl⟩
open Extern in
def Gx:Entry 147 (Sync.semrelease):=⟨Tryz.f147,Tryz.func147,by kernel_rfl,by kernel_rfl,by kernel_rfl,by kernel_rfl⟩
open Extern in
def Gf:Entry 106 (λ_=>pure (.bool false)):=⟨Tryz.f106,Tryz.func106,by kernel_rfl,by kernel_rfl,by kernel_rfl,by kernel_rfl⟩
open Extern in
def Gh:Entry 115 (Sync.semrelease):=⟨Tryz.f115,Tryz.func115,by kernel_rfl,by kernel_rfl,by kernel_rfl,by kernel_rfl⟩
open Extern in
def Gk:Entry 120 (Sync.semacquire):=⟨Tryz.f120,Tryz.func120,by kernel_rfl,by kernel_rfl,by kernel_rfl,by kernel_rfl⟩
open Extern in
def Gm:Entry 132 (Atomic.update (Op.intArith .add) .u64 true):=⟨Tryz.f132,Tryz.func132,by kernel_rfl,by kernel_rfl,by kernel_rfl,by kernel_rfl⟩
open Extern in
def Gn:Entry 133 (Atomic.loadT (.int .u64)):=⟨Tryz.f133,Tryz.func133,by kernel_rfl,by kernel_rfl,by kernel_rfl,by kernel_rfl⟩
open Extern in
def Gp:Entry 134 (Atomic.storeT):=⟨Tryz.f134,Tryz.func134,by kernel_rfl,by kernel_rfl,by kernel_rfl,by kernel_rfl⟩
open Extern in
def Gq:Entry 135 (Atomic.casT (.int .u64)):=⟨Tryz.f135,Tryz.func135,by kernel_rfl,by kernel_rfl,by kernel_rfl,by kernel_rfl⟩
def iQ:dk Tryz.prog gn:=by
 intro f e h;have hm:=IJ h;unfold D8 at hm;simp only[List.mem_cons,Prod.mk.injEq,PD,or_false]at hm;rcases hm with⟨rfl,rfl⟩|⟨rfl,rfl⟩|⟨rfl,rfl⟩|⟨rfl,rfl⟩|⟨rfl,rfl⟩|⟨rfl,rfl⟩|⟨rfl,rfl⟩|⟨rfl,rfl⟩|⟨rfl,rfl⟩|⟨rfl,rfl⟩|⟨rfl,rfl⟩|⟨rfl,rfl⟩|⟨rfl,rfl⟩|⟨rfl,rfl⟩|⟨rfl,rfl⟩|⟨rfl,rfl⟩|⟨rfl,rfl⟩|⟨rfl,rfl⟩|⟨rfl,rfl⟩|⟨rfl,rfl⟩|⟨rfl,rfl⟩|⟨rfl,rfl⟩
 .exact Gb
 .exact Gl
 .exact Gr
 .exact Gs
 .exact Gd
 .exact Ge
 .exact Gi
 .exact Gc
 .exact Gg
 .exact Gj
 .exact Gt
 .exact Gu
 .exact Gv
 .exact Gw
 .exact Gx
 .exact Gf
 .exact Gh
 .exact Gk
 .exact Gm
 .exact Gn
 .exact Gp
 .exact Gq
end Go.aN
