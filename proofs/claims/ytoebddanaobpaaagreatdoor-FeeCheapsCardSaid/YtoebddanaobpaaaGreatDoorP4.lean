/- A part. -/
import Derived.Test.YtoebddanaobpaaaGreatDoorP1
import Derived.Conc.MuSpec
import Derived.Laws.Rows
import Derived.Test.YtoebddanaobpaaaGreatDoorChecked
import Derived.KernelRfl
set_option maxHeartbeats 8000000
set_option maxRecDepth 100000
set_option linter.all false
namespace Go.aO
attribute [-simp] Go.Sem.runT_eq
open Go.ConcM (OsLater)
variable{b j n o:Nat}{w w':S7}{v:S9}{es:TE}{l:Tb cD}{args c:Te}{e:Tg}{f:Tw}{x:bA}
section
def wb:cD->Tb TL
 |.load m a _=>[⟨.cell a,false,m == .atomic⟩]
 |.store m a _=>[⟨.cell a,true,m == .atomic⟩]
 |.mark m=>[⟨.mark m,false,true⟩]
 |.sys _ _=>[⟨.output,true,false⟩]
 |.getObj r o=>[⟨.obj r,false,o.isChan⟩]
 |.setObj r o=>[⟨.obj r,true,o.isChan⟩]
 |_=>[]
def cI:Tb cD->Tb TL
 | []=>[]
 |f::l=>wb f++cI l
def Does.events(h:Does w l w' es):es=(cI l).toArray:=by
 induction h with
 |nil=>rfl
 |load _ _ c|store _ _ _ c|mark _ c|sys _ _ c|getObj _ _ _ c|setObj _ _ _ c=>rw[c];simp[cI,wb]
 |_=>assumption
def mM(P:To):Ta->Tb TL->Tb TL
 |_,[]=>[]
 |q,e::l=>match e.loc with
  |.mark (.extern f)=>mM P ((P.funcs[f]?).any (·.norace)) l
  |_=>if q && !e.sync then mM P q l else e::mM P q l
def uP(P:To)(f:Tw)(l:Tb TL):seen P f l.toArray=(mM P ((P.funcs[f]?).any (·.norace)) l).toArray:=by
 have key:∀(F:Ta×TE->TL->Ta×TE),(∀x e f,e.loc=.mark (.extern f)->F x e=((P.funcs[f]?).any (·.norace),x.2))->(∀x e,(∀f,e.loc≠.mark (.extern f))->F x e=(x.1,if (x.1 && !e.sync)=true then x.2 else x.2.push e))->
  ∀(l:Tb TL) (q:Ta) (acc:TE),(l.foldl F (q,acc)).2=acc++(mM P q l).toArray:=by
  intro F g h l;induction l with
  |nil=>intro q acc;simp[mM]
  |cons e l d=>
   intro q acc;rw[List.foldl_cons];unfold mM;split
   .rename_i f he
    rw[g _ _ f he];exact d _ _
   .rename_i he
    rw[h _ _ λf c=>he f c,d];dsimp only;split<;>simp
 unfold seen;dsimp only;rw[<-Array.foldl_toList];refine(key _ (λx e f he=>?_) (λx e he=>?_) l _ #[]).trans aF
 .simp only[he]
 .split
  .rename_i f c;exact Td c (he f)
  .rfl
def hZ(nr:Ta):Tb TL->Tb TL
 | []=>[]
 |e::l=>match e.loc with
  |.mark (.extern _)=>hZ nr l
  |_=>if nr && !e.sync then hZ nr l else e::hZ nr l
inductive gZ where
 |ld (i off:Nat)
 |st (i off:Nat) (v:S9)
abbrev Mem:=Tb (Ta×Nat×Obj)
def prun:Mem->Tb gZ->TI (Tb dO×Tb cD×Mem)
 |M,[]=>some ([],[],M)
 |M,.ld i off::l=>match M[i]? with
  |some (_,b,.cells c _ _)=>match c[off]? with
   |some v=>(prun M l).map λx=>(.val v::x.1,.load .plain (S8 b off) v::x.2.1,x.2.2)
   |none=>none
  |_=>none
 |M,.st i off v::l=>match M[i]? with
  |some (true,b,.cells c e (0,0))=>if off<c.size then(prun (M.set i (true,b,.cells (c.setIfInBounds off v) e (0,0))) l).map λx=>(x.1,.store .plain (S8 b off) v::x.2.1,x.2.2)else none
  |_=>none
def ns(M:Mem)(l:Tb gZ):Tb dO:=match prun M l with
 |some x=>x.1
 |none=>[]
def eh(M:Mem)(l:Tb gZ):Tb cD:=match prun M l with
 |some x=>x.2.1
 |none=>[]
def c0(M:Mem)(l:Tb gZ):Mem:=match prun M l with
 |some x=>x.2.2
 |none=>[]
def xp{M:Mem}{l:Tb gZ}(h:(prun M l).isSome=true):prun M l=some (ns M l,eh M l,c0 M l):=by
 unfold ns eh c0;rcases e:prun M l with _|x
 .rw[e]at h;cases h
 .rfl
structure gN(M:Mem)(w:S7):Prop where
 has:∀(i:Nat) own b o,M[i]?=some (own,b,o)->w.heap[b]?=some o
 fL:∀(i j:Nat) own b o cw aE aV,M[i]?=some (own,b,o)->M[j]?=some (cw,aE,aV)->i≠j->b≠aE
structure Calm(w w':S7):Prop where
 size:w.heap.size<=w'.heap.size
 tape:w'.tape=w.tape
 output:w'.output=w.output
 os:OsLater w.os w'.os
def Calm.refl(w:S7):Calm w w:=⟨bg,S6,S6,OsLater.refl _⟩
def Calm.trans{a b c:S7}(h:Calm a b)(k:Calm b c):Calm a c:=⟨cL h.size k.size,k.tape.trans h.tape,k.output.trans h.output,h.os.trans k.os⟩
def Calm.at(w:S7)(k:Nat):Calm w (w.at k):=⟨bg,S6,S6,OsLater.refl _⟩
def aU{f:Nat×Nat}(h:w.heap[b]?=some (.cells c e f)):w.cell? (S8 b o)=c[o]?:=by simp[World.cell?,h]
def b3(h:w.heap[b]?=some (.cells c e (0,0))):w.frozen? (S8 b o)=false:=by simp[World.frozen?,h]
def AI{f:Nat×Nat}(h:w.heap[b]?=some (.cells c e f)):w.shape? b=some (e,c.size):=by simp[World.shape?,h]
def cU{f:Nat×Nat}(h:w.heap[b]?=some (.cells c e f)):(w.setCell (S8 b o) v).heap[b]?=some (.cells (c.setIfInBounds o v) e f):=by simp[World.setCell,Array.getElem?_modify,h]
def e1{a:TD}(h:b≠a.block):(w.setCell a v).heap[b]?=w.heap[b]?:=heap_setCell_other w a b v h
def AF(w:S7)(a:TD)(v:S9):Calm w (w.setCell a v):=⟨aF,S6,S6,OsLater.refl _⟩
def zL{α:Type}{l:Tb α}{i:Nat}{a x:α}(h:(l.set i a)[j]?=some x):(i=j/\x=a)\/(i≠j/\l[j]?=some x):=by
 rw[List.getElem?_set]at h;split at h
 .rename_i e
  split at h
  .cases h;exact .inl ⟨e,S6⟩
  .cases h
 .rename_i e;exact .inr ⟨e,h⟩
def uJ:∀{l:Tb gZ} {M b7:Mem} {z:Tb dO} {u:Tb cD} {w:S7},prun M l=some (z,u,b7)->gN M w->
 ∃w',Does w u w' (cI u).toArray/\gN b7 w'/\Calm w w'/\w'.drawn=w.drawn/\w'.heap.size=w.heap.size/\(∀b,(∀(i:Nat) o,M[i]?≠some (true,b,o))->w'.heap[b]?=w.heap[b]?)/\
  (∀e∈cI u,∃(i:Nat) (own:Ta) (b:Nat) (o:Obj) (off:Nat) (wr:Ta),M[i]?=some (own,b,o)/\e=⟨.cell (S8 b off),wr,false⟩/\(wr=true->own=true))/\
  (∀(i:Nat) own b o,b7[i]?=some (own,b,o)->∃q,M[i]?=some (own,b,q))/\(∀(i:Nat) own b o,M[i]?=some (own,b,o)->∃q,b7[i]?=some (own,b,q)):=by
 intro l;induction l with
 |nil=>
  intro M b7 z u w h hm;cases h;exact⟨w,.nil w,hm,Calm.refl w,S6,S6,λ_ _=>S6,(λe he=>(by cases he)),λi own b o h=>⟨o,h⟩,λi own b o h=>⟨o,h⟩⟩
 |cons x l V=>
  intro M b7 z u w h hm;cases x with
  |ld i off=>
   unfold prun at h;rcases e:M[i]? with _|⟨own,b,o⟩
   .rw[e]at h;cases h
   rw[e]at h;cases o with
   |cells c t f=>
    dsimp only at h;rcases G:c[off]? with _|v
    .rw[G]at h;cases h
    rw[G]at h;dsimp only at h;rcases y:prun M l with _|⟨Y,Z,X⟩
    .rw[y]at h;cases h
    rw[y]at h;cases h;let⟨w',hd,H,I,J,K,L,P,Q,F⟩:=V y hm;refine⟨w',?_,H,I,J,K,L,?_,Q,F⟩
    .have:=Does.load (m:=.plain) (a:=(S8 b off)) (v:=v) (by rw[aU (hm.has i own b _ e)];exact G) hd
     simpa [cI,wb]using this
    .intro bz S
     rcases List.mem_append.1 S with k|k
     .have:bz=⟨.cell ⟨b,off,none⟩,false,false⟩:=ev k
      exact⟨i,own,b,_,off,false,e,this,aF⟩
     .exact P bz k
   |_=>cases h
  |st i off v=>
   unfold prun at h;rcases e:M[i]? with _|⟨own,b,o⟩
   .rw[e]at h;cases h
   rw[e]at h;cases own with
   |false=>cases h
   |true=>
   cases o with
   |cells c t f=>
    obtain⟨f1,f2⟩:=f;rcases f1 with _|f1
    .rcases f2 with _|f2
     .have h:(if off<c.size then(prun (M.set i (true,b,.cells (c.setIfInBounds off v) t (0,0))) l).map λx=>(x.1,.store .plain (S8 b off) v::x.2.1,x.2.2)else none)=some (z,u,b7):=h
      split at h
      .rename_i ag
       have E:(prun (M.set i (true,b,.cells (c.setIfInBounds off v) t (0,0))) l).map (λx=>(x.1,cD.store .plain (S8 b off) v::x.2.1,x.2.2))=some (z,u,b7):=h;clear h;have R:=hm.has i true b _ e;have af:gN (M.set i (true,b,.cells (c.setIfInBounds off v) t (0,0))) (w.setCell (S8 b off) v):=by
        refine⟨λj W B q d=>?_,λj k n bB r ao am D d ad C=>?_⟩
        .rcases zL d with⟨rfl,k⟩|⟨C,p⟩
         .cases k;exact cU R
         .rw[e1 (hm.fL j i W B q true b _ p e (TT C))]
          exact hm.has j W B q p
        .have g:∀{j:Nat} {n bB r},(M.set i (true,b,Obj.cells (c.setIfInBounds off v) t (0,0)))[j]?=some (n,bB,r)->∃q,M[j]?=some (n,bB,q):=by
          intro j n bB r d;rcases zL d with⟨rfl,k⟩|⟨_,p⟩
          .cases k;exact⟨_,e⟩
          .exact⟨_,p⟩
         let⟨_,p⟩:=g d;let⟨_,ae⟩:=g ad;exact hm.fL j k _ _ _ _ _ _ p ae C
       rcases y:prun (M.set i (true,b,.cells (c.setIfInBounds off v) t (0,0))) l with _|⟨Y,Z,X⟩
       .rw[y]at E;cases E
       rw[y]at E;cases E;let⟨w',hd,H,I,J,K,L,P,Q,F⟩:=V y af;have back:∀{j:Nat} {n bB r},(M.set i (true,b,Obj.cells (c.setIfInBounds off v) t (0,0)))[j]?=some (n,bB,r)->∃q,M[j]?=some (n,bB,q):=by
        intro j n bB r d;rcases zL d with⟨rfl,k⟩|⟨_,p⟩
        .cases k;exact⟨_,e⟩
        .exact⟨_,p⟩
       refine⟨w',?_,H,(AF _ _ _).trans I,J.trans S6,K.trans aF,?_,?_,?_,?_⟩
       .have aa:w.cell? ⟨b,off,none⟩=some c[off]:=by rw[aU R];simp[ag]
        have:=Does.store (m:=.plain) (a:=(S8 b off)) (v:=v) aa (b3 R) hd;simpa [cI,wb]using this
       .intro B T
        have C:B≠b:=by rintro rfl;exact T i _ e
        rw[L B λj q d=>?_,e1 C];let⟨D,p⟩:=back d;exact T j D p
       .intro bz S
        rcases List.mem_append.1 S with k|k
        .have:bz=⟨.cell ⟨b,off,none⟩,true,false⟩:=ev k
         exact⟨i,true,b,_,off,true,e,this,aF⟩
        .let⟨j,n,bB,r,al,wr,ah,aj,ak⟩:=P bz k
         let⟨D,ai⟩:=back ah;exact⟨j,n,bB,D,al,wr,ai,aj,ak⟩
       .intro j n bB r d
        let⟨D,p⟩:=Q j n bB r d;exact back p
       .intro j n bB r d
        by_cases U:i=j
        .subst U
         rw[e]at d;cases d;exact F i true b _ (by rw[List.getElem?_set_self (by exact(List.getElem?_eq_some_iff.1 e).1)])
        .exact F j n bB r (by rw[List.getElem?_set_ne U];exact d)
      .cases h
     .cases h
    .cases h
   |_=>cases h
def gN.push{M:Mem}{o:Obj}(h:gN M w)(n:w'.heap=w.heap.push o):gN (M++[(true,w.heap.size,o)]) w':=by
 have lt:∀(i:Nat) own b o,M[i]?=some (own,b,o)->b<w.heap.size:=λi own b o k=>(Array.getElem?_eq_some_iff.1 (h.has i own b o k)).1
 have cs:∀(i:Nat) own b c,(M++[(true,w.heap.size,o)])[i]?=some (own,b,c)->M[i]?=some (own,b,c)\/(i=M.length/\b=w.heap.size/\c=o):=by
  intro i own b c k;rcases Nat.lt_trichotomy i M.length with k1|k1|k1
  .rw[jz k1]at k;exact .inl k
  .subst k1
   rw[jb bg]at k;simp at k;exact .inr ⟨S6,k.2.1.symm,k.2.2.symm⟩
  .rw[jb U,List.getElem?_eq_none cH]at k
   cases k
 refine⟨λi own b c k=>?_,λi j own b c l f g k1 d m=>?_⟩
 .rw[n]
  rcases cs i own b c k with k|⟨_,rfl,rfl⟩
  .have:=lt i own b c k
   rw[iq,Tm U];exact h.has i own b c k
  .simp
 .rcases cs i own b c k1 with k1|⟨p,rfl,_⟩<;>rcases cs j l f g d with d|⟨q,rfl,_⟩
  .exact h.fL i j _ _ _ _ _ _ k1 d m
  .have:=lt i own b c k1;omega
  .have:=lt j l f g d;omega
  .omega
def gN.keep{M:Mem}(h:gN M w)(c:∀(i:Nat) own b o,M[i]?=some (own,b,o)->w'.heap[b]?=w.heap[b]?):gN M w':=
 ⟨λi own b o k=>(c i own b o k).trans (h.has i own b o k),h.fL⟩
def oZ:Mem->TA->Mem
 |M,[]=>M
 |M,i::l=>match M[i]? with
  |some (_,b,o)=>oZ (M.set i (false,b,o)) l
  |none=>oZ M l
def p6:Ta->Mem->Nat->Obj->Mem
 |true,M,b,o=>M++[(true,b,o)]
 |false,M,_,_=>M
inductive Edge(Pos:Type):Type 1 where
 |fix (nr wk:Ta) (iw:Tb dO) (cJ:Tb cD) (to:Pos)
 |bL (ops:Tb gZ) (to:Pos)
 |new (eA:Ta) (o:Obj) (to:Nat->Pos)
 |nI (f:Tw) (o:Obj) (to:Nat->Pos)
 |mb (f:Tw) (ops:Tb gZ) (to:Pos)
 |clock (f:Tw) (to:Int->Pos)
 |lift (f:Tw) (args:Te) {α:Type} (cy:α->S9) (to:α->Pos)
 |call (f:Tw) (args:Te) {α:Type} (cy:α->S9) (to:α->Pos)
 |leave (v:S9)
 |k' (ops:Tb gZ) (v:S9)
 |done
 |comm (cases:Tv CommCase) (b:Ta) (bK:CommShape) {α:Type} (cy:α->S9) (to:α->Pos)
 |spawn (f:Fn) (c a:Te) (iA:TA) (to:Pos)
 |wait (iw:Tb dO) (cJ:Tb cD)
 |ord (f:Tw) (id:Nat) (ops:Tv Oper) (L:Tb TA) (to:TA->Pos)
 |join (X:bA) (to:Pos)
def eU(k:Tx)(c:TB)(v:S9):TB:=match k with
 |.normal=>c.finish v
 |_=>c
def Kept(c:TB):Prop:=∀e d,c.mode=.panicking (e::d)->e.recovered=false
def l2(P:To)(k:Tx)(x:bA)(c:Tb dO):TI (S9×Tb cD):=
 match x.1.roundOf,x.1.mode,x.1.defers,x.2,k,x.1.kind with
 |none,.returning,[],[],.normal,.normal|none,.returning,[],[],.deferred,.deferred=>match P.funcs[x.1.fn]? with
  |some fn=>kZ P (results fn x.1.tmps) c
  |none=>none
 |_,_,_,_,_,_=>none
def oY{P:To}{main:Ta}{st:GoStatus}{off:TI (Tv CommCase×CommShape)}{k:Tx}{m:Tb dO}(h:l2 P k x m=some (v,l)){c:TB}{Tp:Tz}(o:Kept c)(hd:Does w l w' es):
 x.2 = []/\stepG P main ⟨x.1,c::Tp,st,none,off⟩ w=.go (Tk (eU k c v) Tp) w' (seen P x.1.fn es):=by
 obtain⟨fr,cs⟩:=x;unfold l2 at h;dsimp only at h;split at h
 .rename_i n f g i
  rcases d:P.funcs[fr.fn]? with _|fn
  .rw[d]at h;cases h
  rw[d]at h;dsimp only at h;have j:=qW h hd;refine⟨S6,?_⟩;rw[zJ f];simp[unwind,g,f,d,j,doReturn,i,GStep.after,eU]
 .rename_i n f g i
  rcases d:P.funcs[fr.fn]? with _|fn
  .rw[d]at h;cases h
  rw[d]at h;dsimp only at h;have j:=qW h hd;refine⟨S6,?_⟩;rw[zJ f];obtain⟨p,ct,u,cd,fK,q,r⟩:=c;rcases fK with _|_|(_|⟨⟨eA,B,z⟩,y⟩)
  .simp[unwind,g,f,d,j,doReturn,i,GStep.after,eU]
  .simp[unwind,g,f,d,j,doReturn,i,GStep.after,eU]
  .simp[unwind,g,f,d,j,doReturn,i,GStep.after,eU]
  .have:=o _ _ S6
   dsimp only at this;subst this;simp[unwind,g,f,d,j,doReturn,i,GStep.after,eU]
 .cases h
def Bn(P:To)(x:bA):Ta:=mayWake P (Tk x.1 [])
structure de(Pos:Type) where
 P:To
 ext:Ext
 lift:Tw->Ta
 kd:Tx
 mem:Pos->Mem
 dh:Pos->Nat
 cz:Pos->Tb (Edge Pos)
section
variable{Pos:Type}(A:de Pos)
abbrev de.to(n:Nat)(x:bA):bA:=nk A.P A.ext A.lift n x
abbrev de.X(n:Nat)(x:bA)(c:Tb dO):TI (Tb cD):=z1 A.P A.ext A.lift n x c
abbrev de.Y(n:Nat)(x:bA)(c:Tb dO):bA:=sF A.P A.ext A.lift n x c
abbrev de.nr(n:Nat)(x:bA):Ta:=(A.P.funcs[(A.to n x).1.fn]?).any (·.norace)
def tu(k:Pos->bA->Prop)(p:Pos)(n:Nat):Edge Pos->bA->Prop
 |.fix nr wk g d to,x=>A.X n x g=some d/\(mM A.P (A.nr n x) (cI d)=hZ nr (cI d)/\((wk && !Bn A.P (A.to n x))=false/\(A.mem to=A.mem p/\k to (A.Y n x g))))
 |.bL ops to,x=>(prun (A.mem p) ops).isSome=true/\(A.X n x (ns (A.mem p) ops)=some (eh (A.mem p) ops)/\(mM A.P (A.nr n x) (cI (eh (A.mem p) ops))=cI (eh (A.mem p) ops)/\(A.mem to=c0 (A.mem p) ops/\k to (A.Y n x (ns (A.mem p) ops)))))
 |.new eA o to,x=>∀b,A.X n x [.blk b]=some [.new o b]/\(A.mem (to b)=p6 eA (A.mem p) b o/\k (to b) (A.Y n x [.blk b]))
 |.nI f o to,x=>∀b,A.X n x [.blk b]=some [.mark (.extern f),.new o b]/\(A.mem (to b)=p6 true (A.mem p) b o/\k (to b) (A.Y n x [.blk b]))
 |.mb f ops to,x=>(prun (A.mem p) ops).isSome=true/\(A.X n x (ns (A.mem p) ops)=some (.mark (.extern f)::eh (A.mem p) ops)/\(mM A.P (A.nr n x) (⟨.mark (.extern f),false,true⟩::cI (eh (A.mem p) ops))=cI (eh (A.mem p) ops)/\(A.mem to=c0 (A.mem p) ops/\k to (A.Y n x (ns (A.mem p) ops)))))
 |.clock f to,x=>(∀a,A.X n x [.ret (.int a)]=some [.mark (.extern f),.sys (.clock 1) (.int a)])/\(mM A.P (A.nr n x) [⟨.mark (.extern f),false,true⟩,⟨.output,true,false⟩] = []/\∀a,A.mem (to a)=A.mem p/\k (to a) (A.Y n x [.ret (.int a)]))
 |.lift f args cy to,x=>r9 A.P A.ext (A.to n x)=some (f,args)/\∀a,A.mem (to a)=A.mem p/\k (to a) ((A.to n x).1.finish (cy a),(A.to n x).2)
 |.call f args cy to,x=>r9 A.P A.ext (A.to n x)=some (f,args)/\∀a,k (to a) ((A.to n x).1.finish (cy a),(A.to n x).2)
 |.leave v,x=>l2 A.P A.kd (A.to n x) []=some (v,[])/\True
 |.k' ops v,x=>(prun (A.mem p) ops).isSome=true/\(l2 A.P A.kd (A.to n x) (ns (A.mem p) ops)=some (v,eh (A.mem p) ops)/\(mM A.P (A.nr n x) (cI (eh (A.mem p) ops))=cI (eh (A.mem p) ops)/\True))
 |.done,x=>(A.to n x).1.mode=.panicking [goexitEntry]/\((A.to n x).1.defers = []/\((A.to n x).1.todo = []/\((A.to n x).2 = []/\True)))
 |.comm cases b bK cy to,x=>sH A.P A.ext (A.to n x)=some (.comm cases b bK)/\∀a,A.mem (to a)=A.mem p/\k (to a) ((A.to n x).1.finish (cy a),(A.to n x).2)
 |.spawn f c a iA to,x=>sH A.P A.ext (A.to n x)=some (.spawn ⟨.fn f c,a⟩)/\(A.mem to=oZ (A.mem p) iA/\k to ((A.to n x).1.finish undef,(A.to n x).2))
 |.wait g d,x=>Bm A.P A.ext (A.to n x) g=some d/\True
 |.ord f id ops L to,x=>(sQ .any ops=L/\(A.P.follows .mixedOrders=true/\True))/\r4 (λl=>A.X n x [.ord l]=some [.order f id true ops l]/\(A.mem (to l)=A.mem p/\k (to l) (A.Y n x [.ord l]))) L
 |.join X to,x=>A.to n x=X/\(A.mem to=A.mem p/\k to X)
def hK(k:Pos->bA->Prop)(p:Pos):Tb (Edge Pos)->bA->Prop
 | [],_=>True
 |e::l,x=>tu A k p (A.dh p) e x/\hK k p l x
def Good:Nat->Pos->bA->Prop
 | 0,_,_=>False
 |n+1,p,x=>hK A (λq y=>Good n q y) p (A.cz p) x
end
section
variable{Pos:Type}{A:de Pos}
def hK.mem{k:Pos->bA->Prop}{p:Pos}:∀{l:Tb (Edge Pos)} {x:bA},hK A k p l x->∀e∈l,tu A k p (A.dh p) e x:=by
 intro l;induction l with
 |nil=>intro x _ e he;cases he
 |cons a l c=>
  intro x h e he;rcases List.mem_cons.1 he with rfl|he
  .exact h.1
  .exact c h.2 e he
def tu.mono{k d:Pos->bA->Prop}(c:∀q y,k q y->d q y){p:Pos}{e:Edge Pos}(h:tu A k p n e x):tu A d p n e x:=by
 cases e with
 |fix=>exact⟨h.1,h.2.1,h.2.2.1,h.2.2.2.1,c _ _ h.2.2.2.2⟩
 |bL=>exact⟨h.1,h.2.1,h.2.2.1,h.2.2.2.1,c _ _ h.2.2.2.2⟩
 |new=>exact λb=>⟨(h b).1,(h b).2.1,c _ _ (h b).2.2⟩
 |nI=>exact λb=>⟨(h b).1,(h b).2.1,c _ _ (h b).2.2⟩
 |mb=>exact⟨h.1,h.2.1,h.2.2.1,h.2.2.2.1,c _ _ h.2.2.2.2⟩
 |clock=>exact⟨h.1,h.2.1,λa=>⟨(h.2.2 a).1,c _ _ (h.2.2 a).2⟩⟩
 |lift=>exact⟨h.1,λa=>⟨(h.2 a).1,c _ _ (h.2 a).2⟩⟩
 |call=>exact⟨h.1,λa=>c _ _ (h.2 a)⟩
 |leave=>exact h
 |k'=>exact h
 |done=>exact h
 |comm=>exact⟨h.1,λa=>⟨(h.2 a).1,c _ _ (h.2 a).2⟩⟩
 |spawn=>exact⟨h.1,h.2.1,c _ _ h.2.2⟩
 |wait=>exact h
 |ord f id ops L to=>
  refine⟨h.1,?_⟩;have:=h.2;clear h;induction L with
  |nil=>trivial
  |cons a L g=>exact⟨⟨this.1.1,this.1.2.1,c _ _ this.1.2.2⟩,g this.2⟩
 |join=>exact⟨h.1,h.2.1,c _ _ h.2.2⟩
def hK.mono{k c:Pos->bA->Prop}(d:∀q y,k q y->c q y){p:Pos}:∀{l:Tb (Edge Pos)} {x:bA},hK A k p l x->hK A c p l x:=by
 intro l;induction l with
 |nil=>intro x h;exact h
 |cons a l f=>intro x h;exact⟨h.1.mono d,f h.2⟩
def Good.mono:∀{n m:Nat},n<=m->∀{p:Pos} {x:bA},Good A n p x->Good A m p x:=by
 intro n;induction n with
 |zero=>intro m _ p x h;exact h.elim
 |succ n c=>
  intro m hm p x h;cases m with
  |zero=>omega
  |succ m=>exact hK.mono (λq y k=>c U k) h
def eJ(A:de Pos)(n:Nat)(p:Pos)(j:Nat)(x:bA):Prop:=∃y,Good A n p y/\A.to j x=A.to (A.dh p) y
def At(A:de Pos)(n:Nat)(p:Pos)(x:bA):Prop:=∃y,Good A (n+1) p y/\x=A.to (A.dh p) y
def eJ.start{p:Pos}(h:Good A n p x):eJ A n p (A.dh p) x:=⟨x,h,S6⟩
def eJ.step(T:dn A.P A.ext){p:Pos}(h:eJ A n p j x):
 (∃m,n=m+1/\At A m p x)\/∃y bw,bw<j/\eJ A n p bw y/\∀main Tc st off (w:S7),stepG A.P main ⟨x.1,x.2++Tc,st,none,off⟩ w=.go (bW y Tc) w:=by
 obtain⟨z,d,he⟩:=h;cases n with
 |zero=>exact d.elim
 |succ m=>
  cases j with
  |zero=>exact .inl ⟨m,S6,z,d,he⟩
  |succ j=>
   have e:nk A.P A.ext A.lift (j+1) x=match mv A.P A.ext A.lift x []with
    |some (y,l)=>if wJ l then nk A.P A.ext A.lift j y else x
    |none=>x:=S6
   have c:nk A.P A.ext A.lift (j+1) x=A.to (A.dh p) z:=he;rw[e]at c;split at c
   .rename_i y l h
    split at c
    .rename_i g
     refine .inr ⟨y,j,Nat.lt_succ_self _,⟨z,d,c⟩,λmain Tc st off w=>?_⟩;let⟨es,hd,f⟩:=K5 g w;rw[o3 T h hd,OP _ _ _ f]
    .exact .inl ⟨m,S6,z,d,c⟩
   .exact .inl ⟨m,S6,z,d,c⟩
def At.fix(T:dn A.P A.ext){p:Pos}(h:At A n p x){nr wk:Ta}{f:Tb dO}{c:Tb cD}{to:Pos}(he:Edge.fix nr wk f c to∈A.cz p):
 ∃y,eJ A n to (A.dh to) y/\A.mem to=A.mem p/\(wk=true->Bn A.P x=true)/\
  ∀main Tc st off (w w':S7) es,Does w c w' es->stepG A.P main ⟨x.1,x.2++Tc,st,none,off⟩ w=.go (bW y Tc) w' (hZ nr (cI c)).toArray:=by
 obtain⟨z,o,rfl⟩:=h;let⟨g,i,d,j,l⟩:=hK.mem o _ he;refine⟨_,eJ.start l,j,λm=>by rw[m]at d;simpa using d,λmain Tc st off w w' es hd=>?_⟩;rw[o3 T (re g) hd,hd.events,uP,i]
def At.bL(T:dn A.P A.ext){p:Pos}(h:At A n p x){ops:Tb gZ}{to:Pos}(he:Edge.bL ops to∈A.cz p):
 ∃y,eJ A n to (A.dh to) y/\prun (A.mem p) ops=some (ns (A.mem p) ops,eh (A.mem p) ops,A.mem to)/\
  ∀main Tc st off (w w':S7) es,Does w (eh (A.mem p) ops) w' es->stepG A.P main ⟨x.1,x.2++Tc,st,none,off⟩ w=.go (bW y Tc) w' (cI (eh (A.mem p) ops)).toArray:=by
 obtain⟨z,j,rfl⟩:=h;let⟨c,d,f,g,i⟩:=hK.mem j _ he;refine⟨_,eJ.start i,by rw[g];exact xp c,λmain Tc st off w w' es hd=>?_⟩;rw[o3 T (re d) hd,hd.events,uP,f]
def At.new(T:dn A.P A.ext){p:Pos}(h:At A n p x){eA:Ta}{o:Obj}{to:Nat->Pos}(he:Edge.new eA o to∈A.cz p)(b:Nat):
 ∃y,eJ A n (to b) (A.dh (to b)) y/\A.mem (to b)=p6 eA (A.mem p) b o/\
  ∀main Tc st off (w:S7),w.heap.size=b->stepG A.P main ⟨x.1,x.2++Tc,st,none,off⟩ w=.go (bW y Tc) {w with heap:=w.heap.push o}:=by
 obtain⟨z,i,rfl⟩:=h;let⟨c,d,f⟩:=hK.mem i _ he b;refine⟨_,eJ.start f,d,λmain Tc st off w g=>?_⟩;rw[o3 T (re c) (.new g (.nil _))];rfl
def At.nI(T:dn A.P A.ext){p:Pos}(h:At A n p x){o:Obj}{to:Nat->Pos}(he:Edge.nI f o to∈A.cz p)(b:Nat):
 ∃y,eJ A n (to b) (A.dh (to b)) y/\A.mem (to b)=p6 true (A.mem p) b o/\
  ∀main Tc st off (w:S7),w.heap.size=b->stepG A.P main ⟨x.1,x.2++Tc,st,none,off⟩ w=.go (bW y Tc) {w with heap:=w.heap.push o}:=by
 obtain⟨z,j,rfl⟩:=h;let⟨c,d,g⟩:=hK.mem j _ he b;refine⟨_,eJ.start g,d,λmain Tc st off w i=>?_⟩;rw[o3 T (re c) (.mark (.new i (.nil _)))];rfl
def At.mb(T:dn A.P A.ext){p:Pos}(h:At A n p x){ops:Tb gZ}{to:Pos}(he:Edge.mb f ops to∈A.cz p):
 ∃y,eJ A n to (A.dh to) y/\prun (A.mem p) ops=some (ns (A.mem p) ops,eh (A.mem p) ops,A.mem to)/\
  ∀main Tc st off (w w':S7) es,Does w (eh (A.mem p) ops) w' es->stepG A.P main ⟨x.1,x.2++Tc,st,none,off⟩ w=.go (bW y Tc) w' (cI (eh (A.mem p) ops)).toArray:=by
 obtain⟨z,l,rfl⟩:=h;let⟨c,d,g,i,j⟩:=hK.mem l _ he;refine⟨_,eJ.start j,by rw[i];exact xp c,λmain Tc st off w w' es hd=>?_⟩;rw[o3 T (re d) (.mark hd),(Does.mark hd).events,uP,<-g];rfl
def At.clock(T:dn A.P A.ext){p:Pos}(h:At A n p x){to:Int->Pos}(he:Edge.clock f to∈A.cz p)(a:Int):
 ∃y,eJ A n (to a) (A.dh (to a)) y/\A.mem (to a)=A.mem p/\
  ∀main Tc st off (w:S7),(w.sys (.clock 1)).1=.int a->stepG A.P main ⟨x.1,x.2++Tc,st,none,off⟩ w=.go (bW y Tc) (w.sys (.clock 1)).2:=by
 obtain⟨z,o,rfl⟩:=h;let⟨g,i,d⟩:=hK.mem o _ he;let⟨d,j⟩:=d a;refine⟨_,eJ.start j,d,λmain Tc st off w l=>?_⟩;have hd:=Does.mark (m:=.extern f) (Does.sys (c:=.clock 1) l (Does.nil (w.sys (.clock 1)).2));rw[o3 T (re (g a)) hd];have e:(#[⟨.mark (.extern f),false,true⟩]++(#[⟨.output,true,false⟩]++#[]):TE) = [(⟨.mark (.extern f),false,true⟩:TL),⟨.output,true,false⟩].toArray:=S6;rw[e,uP,i]
def At.lift(T:dn A.P A.ext){p:Pos}(h:At A n p x){α:Type}{cy:α->S9}{to:α->Pos}(he:Edge.lift f args cy to∈A.cz p):
 (∀a,eJ A n (to a) (A.dh (to a)) (x.1.finish (cy a),x.2)/\A.mem (to a)=A.mem p)/\
  ∀main Tc st off (w:S7),stepG A.P main ⟨x.1,x.2++Tc,st,none,off⟩ w=.go (Tk (Frame.enter A.P f args .normal) (x.1::x.2++Tc)) w:=by
 obtain⟨z,g,rfl⟩:=h;let⟨d,c⟩:=hK.mem g _ he;exact⟨λa=>⟨eJ.start (c a).2,(c a).1⟩,λmain Tc st off w=>B8 T d w⟩
def At.call(T:dn A.P A.ext){p:Pos}(h:At A n p x){α:Type}{cy:α->S9}{to:α->Pos}(he:Edge.call f args cy to∈A.cz p):
 (∀a,eJ A n (to a) (A.dh (to a)) (x.1.finish (cy a),x.2))/\
  ∀main Tc st off (w:S7),stepG A.P main ⟨x.1,x.2++Tc,st,none,off⟩ w=.go (Tk (Frame.enter A.P f args .normal) (x.1::x.2++Tc)) w:=by
 obtain⟨z,g,rfl⟩:=h;let⟨c,d⟩:=hK.mem g _ he;exact⟨λa=>eJ.start (d a),λmain Tc st off w=>B8 T c w⟩
def At.leave{p:Pos}(h:At A n p x)(he:Edge.leave v∈A.cz p):
 x.2 = []/\∀main st off (c:TB) (Tp:Tz) (w:S7),Kept c->stepG A.P main ⟨x.1,c::Tp,st,none,off⟩ w=.go (Tk (eU A.kd c v) Tp) w:=by
 obtain⟨z,g,rfl⟩:=h;let⟨d,_⟩:=hK.mem g _ he;refine⟨(oY (main:=true) (st:=.running) (off:=none) d (c:=default) (Tp:=[]) (by intro e o h;cases h) (Does.nil default)).1,λmain st off c Tp w f=>?_⟩;have:=(oY (main:=main) (st:=st) (off:=off) d (Tp:=Tp) f (Does.nil w)).2;rw[qg]at this;exact this
def At.k'{p:Pos}(h:At A n p x){ops:Tb gZ}(he:Edge.k' ops v∈A.cz p):
 ∃M,prun (A.mem p) ops=some (ns (A.mem p) ops,eh (A.mem p) ops,M)/\((∃(w w':S7) (es:TE),Does w (eh (A.mem p) ops) w' es)->x.2 = [])/\∀main st off (c:TB) (Tp:Tz) (w w':S7) es,Kept c->Does w (eh (A.mem p) ops) w' es->
  stepG A.P main ⟨x.1,c::Tp,st,none,off⟩ w=.go (Tk (eU A.kd c v) Tp) w' (cI (eh (A.mem p) ops)).toArray:=by
 obtain⟨z,j,rfl⟩:=h;let⟨f,d,g,_⟩:=hK.mem j _ he;refine⟨_,xp f,λ⟨w,w',es,hd⟩=>(oY (main:=true) (st:=.running) (off:=none) d (c:=default) (Tp:=[]) (by intro e o h;cases h) hd).1,λmain st off c Tp w w' es i hd=>?_⟩;rw[(oY d i hd).2,hd.events,uP,g]
def At.done{p:Pos}(h:At A n p x)(he:Edge.done∈A.cz p):
 x.2 = []/\∀main st off (w:S7),stepG A.P main ⟨x.1,[],st,none,off⟩ w=.go ⟨x.1,[],.finished,none,none⟩ w:=by
 obtain⟨z,i,rfl⟩:=h;let⟨c,d,f,g,_⟩:=hK.mem i _ he;exact⟨g,λmain st off w=>Jz c S6 d (λ_=>f) w⟩
def At.comm(T:dn A.P A.ext){p:Pos}(h:At A n p x){cases:Tv CommCase}{b:Ta}{bK:CommShape}{α:Type}{cy:α->S9}{to:α->Pos}(he:Edge.comm cases b bK cy to∈A.cz p):
 (∀a,eJ A n (to a) (A.dh (to a)) (x.1.finish (cy a),x.2)/\A.mem (to a)=A.mem p)/\
  ∀main C st off (w:S7),stepG A.P main ⟨x.1,C,st,none,off⟩ w=.comm (Tk x.1 C) cases b bK w:=by
 obtain⟨z,f,rfl⟩:=h;let⟨d,c⟩:=hK.mem f _ he;exact⟨λa=>⟨eJ.start (c a).2,(c a).1⟩,λmain C st off w=>I1 T d C w⟩
def At.spawn(T:dn A.P A.ext){p:Pos}(h:At A n p x){f:Fn}{a:Te}{iA:TA}{to:Pos}(he:Edge.spawn f c a iA to∈A.cz p):
 (eJ A n to (A.dh to) (x.1.finish undef,x.2)/\A.mem to=oZ (A.mem p) iA)/\
  ∀main C st off (w:S7),stepG A.P main ⟨x.1,C,st,none,off⟩ w=.spawn (Tk (x.1.finish undef) C)
   (Tk ({(default:TB)with fn:=A.P.funcs.size,defers:=[⟨.fn f c,a⟩],mode:=.panicking [goexitEntry]}) []) w:=by
 obtain⟨z,j,rfl⟩:=h;let⟨d,g,i⟩:=hK.mem j _ he;exact⟨⟨eJ.start i,g⟩,λmain C st off w=>Pg T d C w⟩
def At.wait(T:dn A.P A.ext){p:Pos}(h:At A n p x){d:Tb dO}{c:Tb cD}(he:Edge.wait d c∈A.cz p):
 ∀main C st off (w:S7) es,Does w c w es->stepG A.P main ⟨x.1,C,st,none,off⟩ w=.go ⟨x.1,C,.blocked,none,none⟩ w:=by
 obtain⟨z,g,rfl⟩:=h;let⟨f,_⟩:=hK.mem g _ he;exact λmain C st off w es hd=>R2 T f C hd
def At.join{p:Pos}(h:At A n p x){X:bA}{to:Pos}(he:Edge.join X to∈A.cz p):eJ A n to (A.dh to) x/\A.mem to=A.mem p:=by obtain⟨z,g,rfl⟩:=h;let⟨c,d,f⟩:=hK.mem g _ he;rw[c];exact⟨eJ.start f,d⟩
def At.ord(T:dn A.P A.ext){p:Pos}(h:At A n p x){id:Nat}{ops:Tv Oper}{L:Tb TA}{to:TA->Pos}(he:Edge.ord f id ops L to∈A.cz p)(w:S7):
 ∃l y,l∈L/\eJ A n (to l) (A.dh (to l)) y/\A.mem (to l)=A.mem p/\
  ∀main Tc st off,stepG A.P main ⟨x.1,x.2++Tc,st,none,off⟩ w=.go (bW y Tc) {w with drawn:=w.drawn+1}:=by
 obtain⟨z,i,rfl⟩:=h;let⟨⟨d,q,_⟩,g⟩:=hK.mem i _ he;have c:Region.schedule true ops (w.tape w.drawn (.order f id))∈L:=by rw[<-d];exact OM _ _
 let⟨j,m,o⟩:=r4.mem g _ c;refine⟨_,_,c,eJ.start o,m,λmain Tc st off=>?_⟩;have hd:=Does.order (w:=w) (f:=f) (id:=id) (mixed:=true) (ops:=ops) S6 (Does.nil {w with drawn:=w.drawn+1});rw[o3 T (re j) hd];rfl
end
end
end Go.aO
namespace Go.aO
attribute [-simp] Go.Sem.runT_eq
open Go.Proofs Tryz
open Extern in
def Hd:Tb (Tw×(Te->Sem S9)):=
 [(101,Atomic.loadT (.int .u32)),(136,Atomic.storeT),(149,Atomic.casT (.int .i32)),(151,Atomic.update (Op.intArith .add) .i32 true),
  (106,λ_=>do mark .disable;pure Race.none_),(107,λ_=>do mark .enable;pure Race.none_),(118,Race.marked .acquire),(105,Race.marked .releaseMerge),(113,Race.marked .read),(121,Race.marked .write),
  (154,Sync.canSpin),(155,Sync.nothing),(157,OsHooks.nano),(158,Sync.semacquire),(160,Sync.semrelease),(108,λ_=>pure (.bool false)),(117,Sync.semrelease),(122,Sync.semacquire),
  (139,Atomic.update (Op.intArith .add) .u64 true),(140,Atomic.loadT (.int .u64)),(141,Atomic.storeT),(142,Atomic.casT (.int .u64))]
def look(f:Tw):Tb (Tw×(Te->Sem S9))->TI (Te->Sem S9)
 | []=>none
 |(g,e)::l=>if f=g then some e else look f l
def hv:Ext:=λf=>look f Hd
def DS{f:Tw}{e:Te->Sem S9}:∀{l:Tb (Tw×(Te->Sem S9))},look f l=some e->(f,e)∈l:=by
 intro l;induction l with
 |nil=>intro h;cases h
 |cons p l d=>
  obtain⟨g,i⟩:=p;intro h;unfold look at h;split at h
  .rename_i c
   cases h;subst c;exact List.mem_cons_self
  .exact Ur _ (d h)
def Entry(f:Tw)(e:Te->Sem S9):Prop:=∃fn,prog.funcs[f]?=some fn/\(fn.name == "runtime.NumGoroutine")=false/\fn.body.isNone=true/\Extern.findNext fn=none/\Extern.find fn=some e
open Extern in
def JA:Entry 101 (Atomic.loadT (.int .u32)):=⟨f101,func101,av,av,av,av⟩
open Extern in
def JK:Entry 136 (Atomic.storeT):=⟨f136,func136,av,av,av,av⟩
open Extern in
def JP:Entry 149 (Atomic.casT (.int .i32)):=⟨f149,func149,av,av,av,av⟩
open Extern in
def JQ:Entry 151 (Atomic.update (Op.intArith .add) .i32 true):=⟨f151,func151,av,av,av,av⟩
open Extern in
def JC:Entry 106 (λ_=>do mark .disable;pure Race.none_):=⟨f106,func106,av,av,av,av⟩
open Extern in
def JD:Entry 107 (λ_=>do mark .enable;pure Race.none_):=⟨f107,func107,av,av,av,av⟩
open Extern in
def JH:Entry 118 (Race.marked .acquire):=⟨f118,func118,av,av,av,av⟩
open Extern in
def JB:Entry 105 (Race.marked .releaseMerge):=⟨f105,func105,av,av,av,av⟩
open Extern in
def JF:Entry 113 (Race.marked .read):=⟨f113,func113,av,av,av,av⟩
open Extern in
def JI:Entry 121 (Race.marked .write):=⟨f121,func121,av,av,av,av⟩
open Extern in
def JR:Entry 154 (Sync.canSpin):=⟨f154,func154,av,av,av,av⟩
open Extern in
def JS:Entry 155 (Sync.nothing):=⟨f155,func155,av,av,av,av⟩
open Extern in
def JU:Entry 157 (OsHooks.nano):=⟨f157,func157,av,av,av,av⟩
open Extern in
def JV:Entry 158 (Sync.semacquire):=⟨f158,func158,av,av,av,av⟩
open Extern in
def JW:Entry 160 (Sync.semrelease):=⟨f160,func160,av,av,av,av⟩
open Extern in
def JE:Entry 108 (λ_=>pure (.bool false)):=⟨f108,func108,av,av,av,av⟩
open Extern in
def JG:Entry 117 (Sync.semrelease):=⟨f117,func117,av,av,av,av⟩
open Extern in
def JJ:Entry 122 (Sync.semacquire):=⟨f122,func122,av,av,av,av⟩
open Extern in
def JL:Entry 139 (Atomic.update (Op.intArith .add) .u64 true):=⟨f139,func139,av,av,av,av⟩
open Extern in
def JM:Entry 140 (Atomic.loadT (.int .u64)):=⟨f140,func140,av,av,av,av⟩
open Extern in
def JN:Entry 141 (Atomic.storeT):=⟨f141,func141,av,av,av,av⟩
open Extern in
def JO:Entry 142 (Atomic.casT (.int .u64)):=⟨f142,func142,av,av,av,av⟩
def j8:dn prog hv:=by
 intro f e h;have hm:=DS h;unfold Hd at hm;simp only[T7,Prod.mk.injEq,iN,or_false]at hm;rcases hm with⟨rfl,rfl⟩|⟨rfl,rfl⟩|⟨rfl,rfl⟩|⟨rfl,rfl⟩|⟨rfl,rfl⟩|⟨rfl,rfl⟩|⟨rfl,rfl⟩|⟨rfl,rfl⟩|⟨rfl,rfl⟩|⟨rfl,rfl⟩|⟨rfl,rfl⟩|⟨rfl,rfl⟩|⟨rfl,rfl⟩|⟨rfl,rfl⟩|⟨rfl,rfl⟩|⟨rfl,rfl⟩|⟨rfl,rfl⟩|⟨rfl,rfl⟩|⟨rfl,rfl⟩|⟨rfl,rfl⟩|⟨rfl,rfl⟩|⟨rfl,rfl⟩
 .exact JA
 .exact JK
 .exact JP
 .exact JQ
 .exact JC
 .exact JD
 .exact JH
 .exact JB
 .exact JF
 .exact JI
 .exact JR
 .exact JS
 .exact JU
 .exact JV
 .exact JW
 .exact JE
 .exact JG
 .exact JJ
 .exact JL
 .exact JM
 .exact JN
 .exact JO
end Go.aO
