/- Part 40 of a law on fees: no conditions. -/
import Derived.Test.YthiiblonjmmnfaaGreatDoorP33
import Derived.Test.YthiiblonjmmnfaaGreatDoorP38
set_option maxHeartbeats 8000000
set_option maxRecDepth 100000
set_option linter.all false
namespace Go.aN
attribute [-simp] Go.Sem.runT_eq
open Go.ConcM (OsLater)
open Go.Proofs Go.Conc Go.ConcN
section
variable{G:Machine->Outcome->World->Trace->Prop}
inductive Flat:Value->Prop
 |bool (b):Flat (.bool b)
 |int (k n):Flat (.int k n)
 |BB (n c):Flat (.slice none n c)
 |agg {a:Array Value} (h:∀(i:Nat) x,a[i]?=some x->Flat x):Flat (.agg a)
 |tuple {a:Array Value} (h:∀(i:Nat) x,a[i]?=some x->Flat x) (aP:0<a.size:=by decide):Flat (.tuple a)
def Flat.rel{ρ:Ren}{v:Value}(h:Flat v):aM ρ v v:=by
 induction h with
 |bool b=>exact .bool b
 |int k n=>exact .int k n
 |BB n c=>exact .jw n c
 |agg _ g=>exact .agg rfl (λi x y d f=>by rw[d]at f;cases f;exact g i x d)
 |tuple _ _ g=>exact .tuple rfl (λi x y d f=>by rw[d]at f;cases f;exact g i x d)
def zm{a b:Array Value}(c:a.size=b.size)(h:∀(i:Nat) x y,a[i]?=some x->b[i]?=some y->y=x):b=a:=by apply Array.ext c.symm;intro i d f;exact h i _ _ (Pu f) (Pu d)
def Flat.eq{ρ:Ren}{v:Value}(h:Flat v):∀{w:Value},aM ρ v w->w=v:=by
 induction h with
 |bool b=>intro w k;cases k;rfl
 |int k n=>intro w k;cases k;rfl
 |BB n c=>intro w k;cases k;rfl
 |agg _ l=>
  intro w k;cases k with
  |agg f g=>rw[zm f λi x y d j=>l i x d (g i x y d j)]
 |tuple _ o l=>
  intro w k;cases k with
  |fM _ _=>simp at o
  |tuple f g=>rw[zm f λi x y d j=>l i x d (g i x y d j)]
def pb{x y:Value}(c:Flat x)(d:Flat y):∀(i:Nat) z,(#[x,y]:Array Value)[i]?=some z->Flat z:=λi z h=>by
 rcases i with _|_|i
 .simp at h;subst h;exact c
 .simp at h;subst h;exact d
 .simp at h
def AB{x y z:Value}(c:Flat x)(d:Flat y)(f:Flat z):∀(i:Nat) u,(#[x,y,z]:Array Value)[i]?=some u->Flat u:=λi u h=>by
 rcases i with _|_|_|i
 .simp at h;subst h;exact c
 .simp at h;subst h;exact d
 .simp at h;subst h;exact f
 .simp at h
def HA{x y z u v:Value}(c:Flat x)(d:Flat y)(f:Flat z)(g:Flat u)(j:Flat v):∀(i:Nat) t,(#[x,y,z,u,v]:Array Value)[i]?=some t->Flat t:=λi t h=>by
 rcases i with _|_|_|_|_|i
 .simp at h;subst h;exact c
 .simp at h;subst h;exact d
 .simp at h;subst h;exact f
 .simp at h;subst h;exact g
 .simp at h;subst h;exact j
 .simp at h
def eI:Mem->List Obj->hq
 |m::M,o::V=>(m.2.1,o,m.2.2)::eI M V
 |_,_=>[]
def pg:∀{M:Mem} {V:List Obj} {i:Nat} {x:Nat×Obj×Obj},(eI M V)[i]?=some x->∃own,M[i]?=some (own,x.1,x.2.2)/\V[i]?=some x.2.1
 |m::M,o::V,0,x,h=>by
  have:x=(m.2.1,o,m.2.2):=by simpa [eI]using h.symm
  subst this;exact⟨m.1,rfl,rfl⟩
 |m::M,o::V,i+1,x,h=>pg (M:=M) (V:=V) (i:=i) (by simpa [eI]using h)
 | [],_,i,x,h=>by simp[eI]at h
 |_::_,[],i,x,h=>by simp[eI]at h
def AV{Pos:Type}{A:cS Pos}{aE:Nat->Prop}{aI u:World}{M:Mem}{V:List Obj}{lim:Nat}(h:bD A aE aI u M)(q:lim<=aI.heap.size):hJ lim (eI M V)/\∀x∈eI M V,u.heap[x.1]?=some x.2.2/\¬aE x.1:=by
 refine⟨⟨λi j x y d p e=>?_,λx d=>?_⟩,λx d=>?_⟩
 .obtain⟨g,c,_⟩:=pg d
  obtain⟨r,l,_⟩:=pg p;refine Classical.byContradiction λo=>?_
  exact h.mem.eV i j _ _ _ _ _ _ c l o e
 .obtain⟨i,f⟩:=List.mem_iff_getElem?.1 d
  obtain⟨g,c,_⟩:=pg f;have:=(h.eD i _ _ _ c).1;omega
 .obtain⟨i,f⟩:=List.mem_iff_getElem?.1 d
  obtain⟨g,c,_⟩:=pg f;exact⟨h.mem.has i _ _ _ c,(h.eD i _ _ _ c).2⟩
def cg(c:Array Value)(e:TypeId):Obj:=.cells c e (0,c.size)
def nG(br:hq):Prop:=∀x∈br,∃c e,x.2.1=cg c e
def HM{ρ:Ren}(he:ρ.exact=false){c d:Array Value}{e:TypeId}(h:bE ρ c d):ev ρ (cg c e) (.cells d e (0,0)):=.cells (.inl h.1) h.2 (.inr ⟨he,rfl,Pk,Nat.zero_le _⟩)
def Au{Q:Program}{br:hq}{bj:hJ Q.globals.size br}(o:nG br){ai:Ren}{dc u ay:World}(f:ff (gj Q br bj) ai (gU Q.globals.size br) dc u ay):∀b,b<u.heap.size->ay.heap[b]?=u.heap[b]?:=by
 intro b j;by_cases h:∃a,(gj Q br bj).r a b
 .obtain⟨a,d⟩:=h
  refine(f.guard a b d ?_).2;obtain⟨i,x,g,rfl,rfl⟩:=d;obtain⟨c,e,l⟩:=o x (Py g);exact⟨c,e,c.size,by rw[kl g,l];rfl,Pk⟩
 .exact f.out b j λa d=>h ⟨a,d⟩
def wW{ρ ai:Ren}{v dc u ay:World}(c:ff ρ ai v dc u ay):Calm u ay:=⟨c.size,c.tape,c.output,c.os⟩
def As{Q:Program}{br:hq}{bj:hJ Q.globals.size br}{ai:Ren}{dc u ay:World}(c:ff (gj Q br bj) ai (gU Q.globals.size br) dc u ay){a b:Nat}(h:ai.r a b)(f:Q.globals.size+br.length<=a):u.heap.size<=b:=by
 rcases c.new a b h with⟨i,x,d,rfl,rfl⟩|h
 .have:=(List.getElem?_eq_some_iff.1 d).1
  omega
 .exact h
def Ir{Pos:Type}{A:cS Pos}{aE:Nat->Prop}{Q:Program}{br:hq}{bj:hJ Q.globals.size br}(d:nG br){ai:Ren}{dc u ay:World}(c:ff (gj Q br bj) ai (gU Q.globals.size br) dc u ay)(h:lF aE ai)(f:∀b,aE b->b<ay.heap.size):bD A aE u ay []:=
 ⟨⟨λi own b o e=>by simp at e,λi j own b o p g l e=>by simp at e⟩,Au d c,wW c,λi own b o e=>by simp at e,f⟩
def Is{Pos:Type}{A:cS Pos}{aE:Nat->Prop}{Q:Program}{br:hq}{bj:hJ Q.globals.size br}(q:nG br){ai:Ren}{dc u ay:World}(c:ff (gj Q br bj) ai (gU Q.globals.size br) dc u ay)(z:lF aE ai)(r:∀b,aE b->b<ay.heap.size){a b:Nat}(g:ai.r a b)(p:Q.globals.size+br.length<=a){o:Obj}(w:ay.heap[b]?=some o):bD A aE u ay [(true,b,o)]:=by
 refine⟨⟨λi own d h e=>?_,λi j own d h E B D f l C=>?_⟩,Au q c,wW c,λi own d h e=>?_,r⟩
 .rcases i with _|i
  .simp at e;obtain⟨rfl,rfl,rfl⟩:=e;exact w
  .simp at e
 .rcases i with _|i<;>rcases j with _|j
  .omega
  .simp at l
  .simp at f
  .simp at f
 .rcases i with _|i
  .simp at e;obtain⟨rfl,rfl,rfl⟩:=e;exact⟨As c g p,z a _ g⟩
  .simp at e
end
section
variable{bF:Machine->Outcome->World->Trace->Prop}{aE:Nat->Prop}{aI u ay:World}{gs:Array Goroutine}{t:Trace}{c:Frame}{cs:List Frame}
def bc.sJ:j6 bc:=⟨bc.S,bc.eo,bc.sp.f75,bc.sp.f141,bc.sp.f142,bc.dy⟩
def yM(lim:Nat):List Obj:=[cg #[ad 2,ad 1] 3,cg #[ad 1,ad 2] 3,cg #[ad 3,ad 1] 3,cg #[ad 0,sl (lim+1) 2,ad 2,sl (lim+2) 2] 55,cg #[ad 3] 3]
abbrev hU(lim:Nat)(z:dr)(M:Mem)(V:List Obj):hq:=eI (ho z++M) (yM lim++V)
def kr(lim:Nat):dU where
 gv:=lim
 hj:=0
 eT:=2
 j9:=lim+3
 lg:=0
 h8:=2
 im:=λi=>match i with|0=>lim+1|_=>lim+2
 sy:=λ_=>0
 j':=λ_=>2
 hE:=some ⟨lim+4,0,none⟩
 h9:=1
def Dv{lim:Nat}{z:dr}{M:Mem}{V:List Obj}{w:World}(d:w.heap=(gU lim (hU lim z M V)).heap):fy w e2 (kr lim):=by
 have h:w.heap[lim]?=some (cg #[ad 2,ad 1] 3):=by rw[d];exact kl (br:=hU lim z M V) (i:=0) rfl
 have j:w.heap[lim+1]?=some (cg #[ad 1,ad 2] 3):=by rw[d];exact kl (br:=hU lim z M V) (i:=1) rfl
 have l:w.heap[lim+2]?=some (cg #[ad 3,ad 1] 3):=by rw[d];exact kl (br:=hU lim z M V) (i:=2) rfl
 have f:w.heap[lim+3]?=some (cg #[ad 0,sl (lim+1) 2,ad 2,sl (lim+2) 2] 55):=by rw[d];exact kl (br:=hU lim z M V) (i:=3) rfl
 have p:w.heap[lim+4]?=some (cg #[ad 3] 3):=by rw[d];exact kl (br:=hU lim z M V) (i:=4) rfl
 refine⟨λi c=>?_,λi c=>?_,λi c=>?_,λi c k g=>?_,λ_=>⟨_,_,rfl,λi c=>?_⟩⟩
 .have:=aT (o:=0+i) h
  rcases jc c with rfl|rfl<;>exact this
 .have:=aT (o:=0+i*2) f
  rcases jc c with rfl|rfl<;>exact this
 .have:=aT (o:=0+i*2+1) f
  rcases jc c with rfl|rfl<;>exact this
 .rcases jc c with rfl|rfl
  .have:=aT (o:=0+k) j
   rcases jc g with rfl|rfl<;>exact this
  .have:=aT (o:=0+k) l
   rcases jc g with rfl|rfl<;>exact this
 .have q:i<1:=c
  obtain rfl:i=0:=by omega
  exact aT (o:=0) p
def pP{x y:Value}{R:Value->Value->Prop}{f g:Value}(h:R x f)(j:R y g):fa R #[x,y] #[f,g]:=⟨rfl,λi a b c d=>by
 rcases i with _|_|i
 .simp at c d;subst c;subst d;exact h
 .simp at c d;subst c;subst d;exact j
 .simp at c⟩
def AE{x y z v:Value}{R:Value->Value->Prop}{g h j f:Value}(l:R x g)(o:R y h)(p:R z j)(q:R v f):fa R #[x,y,z,v] #[g,h,j,f]:=⟨rfl,λi a b c d=>by
 rcases i with _|_|_|_|i
 .simp at c d;subst c;subst d;exact l
 .simp at c d;subst c;subst d;exact o
 .simp at c d;subst c;subst d;exact p
 .simp at c d;subst c;subst d;exact q
 .simp at c⟩
def xQ{x:Value}{R:Value->Value->Prop}{f:Value}(g:R x f):fa R #[x] #[f]:=⟨rfl,λi a b c d=>by
 rcases i with _|i
 .simp at c d;subst c;subst d;exact g
 .simp at c⟩
def oy{Q:Program}{br:hq}{bj:hJ Q.globals.size br}(i:Nat){x:Nat×Obj×Obj}(e:br[i]?=some x)(n:Nat):aM (gj Q br bj) (sl (Q.globals.size+i) n) (sl x.1 n):=.slice (a:=⟨Q.globals.size+i,0,none⟩) (b:=⟨x.1,0,none⟩) ⟨sh e,rfl,rfl⟩ n n
def vT(ρ:Ren)(br:hq):Prop:=∀x∈br,ma x.2.1/\ev ρ x.2.1 x.2.2/\∀c e f d g h,x.2.1=.cells c e f->x.2.2=.cells d g h->c.size<=d.size
def mm{ρ:Ren}(he:ρ.exact=false){c d:Array Value}{e:TypeId}(h:bE ρ c d):ma (cg c e)/\ev ρ (cg c e) (.cells d e (0,0))/\∀bo i f g j l,cg c e=.cells bo i f->Obj.cells d e (0,0)=.cells g j l->bo.size<=g.size:=by refine⟨trivial,HM he h,λbo i f g j l o p=>?_⟩;cases o;cases p;exact Nat.le_of_eq h.1
def Dx{z:dr}{M:Mem}{V:List Obj}(bj:hJ bc.globals.size (hU bc.globals.size z M V))(i:∀x∈eI M V,ma x.2.1/\ev (gj bc (hU bc.globals.size z M V) bj) x.2.1 x.2.2/\∀c e f d g h,x.2.1=.cells c e f->x.2.2=.cells d g h->c.size<=d.size):vT (gj bc (hU bc.globals.size z M V) bj) (hU bc.globals.size z M V):=by
 intro x hx;have hx:x∈(z.F,cg #[ad 2,ad 1] 3,Obj.cells #[ad 2,ad 1] 3 (0,0))::(z.fl,cg #[ad 1,ad 2] 3,Obj.cells #[ad 1,ad 2] 3 (0,0))::(z.fo,cg #[ad 3,ad 1] 3,Obj.cells #[ad 3,ad 1] 3 (0,0))::(z.R,cg #[ad 0,sl (bc.globals.size+1) 2,ad 2,sl (bc.globals.size+2) 2] 55,Obj.cells #[ad 0,sl z.fl 2,ad 2,sl z.fo 2] 55 (0,0))::(z.Fr,cg #[ad 3] 3,Obj.cells #[ad 3] 3 (0,0))::eI M V:=hx;rcases List.mem_cons.1 hx with rfl|hx
 .exact mm rfl (pP (.int _ _) (.int _ _))
 rcases List.mem_cons.1 hx with rfl|hx
 .exact mm rfl (pP (.int _ _) (.int _ _))
 rcases List.mem_cons.1 hx with rfl|hx
 .exact mm rfl (pP (.int _ _) (.int _ _))
 rcases List.mem_cons.1 hx with rfl|hx
 .exact mm rfl (AE (.int _ _) (oy (br:=hU bc.globals.size z M V) 1 rfl 2) (.int _ _) (oy (br:=hU bc.globals.size z M V) 2 rfl 2))
 rcases List.mem_cons.1 hx with rfl|hx
 .exact mm rfl (xQ (.int _ _))
 .exact i x hx
def Dy{z:dr}{M:Mem}{V:List Obj}(bj:hJ bc.globals.size (hU bc.globals.size z M V)):aM (gj bc (hU bc.globals.size z M V) bj) (.agg (cO e2 (kr bc.globals.size))) (e8 z):=
 rm (AE (.int _ _) (oy (br:=hU bc.globals.size z M V) 0 rfl 2) (oy (br:=hU bc.globals.size z M V) 3 rfl 2) (oy (br:=hU bc.globals.size z M V) 4 rfl 1))
def Dw{lim:Nat}{z:dr}{M:Mem}{V:List Obj}(h:nG (eI M V)):nG (hU lim z M V):=by
 intro x hx;have hx:x∈(z.F,cg #[ad 2,ad 1] 3,Obj.cells #[ad 2,ad 1] 3 (0,0))::(z.fl,cg #[ad 1,ad 2] 3,Obj.cells #[ad 1,ad 2] 3 (0,0))::(z.fo,cg #[ad 3,ad 1] 3,Obj.cells #[ad 3,ad 1] 3 (0,0))::(z.R,cg #[ad 0,sl (lim+1) 2,ad 2,sl (lim+2) 2] 55,Obj.cells #[ad 0,sl z.fl 2,ad 2,sl z.fo 2] 55 (0,0))::(z.Fr,cg #[ad 3] 3,Obj.cells #[ad 3] 3 (0,0))::eI M V:=hx;rcases List.mem_cons.1 hx with rfl|hx
 .exact⟨_,_,rfl⟩
 rcases List.mem_cons.1 hx with rfl|hx
 .exact⟨_,_,rfl⟩
 rcases List.mem_cons.1 hx with rfl|hx
 .exact⟨_,_,rfl⟩
 rcases List.mem_cons.1 hx with rfl|hx
 .exact⟨_,_,rfl⟩
 rcases List.mem_cons.1 hx with rfl|hx
 .exact⟨_,_,rfl⟩
 .exact h x hx
def Es{ρ:Ren}{x y:Value}(h:aM ρ x y){l:List Value}(j:∀v∈l,Flat v):bE ρ (x::l).toArray (y::l).toArray:=⟨rfl,λi a b c d=>by
 rcases i with _|i
 .simp at c d;subst c;subst d;exact h
 .have f:l[i]?=some a:=by simpa using c
  have g:l[i]?=some b:=by simpa using d
  rw[f]at g;cases g;exact(j a (Py f)).rel⟩
def rh{Pos:Type}{A:cS Pos}{M:Mem}{z:dr}(h:bD A aE aI u (M++ho z))(T:aF.globals.size<=aI.heap.size){f:FuncId}(S:¬bc.K.fn f)(L:dX bc f=none){l:List Value}(X:∀v∈l,Flat v){R:Value->World->Prop}(Q:∀w:World,fy w e2 (kr bc.globals.size)->w.heap.size=bc.globals.size+5->Calls bc f (Value.agg (cO e2 (kr bc.globals.size))::l).toArray w λe w'=>∃v,e=.returned v/\R v w')(W:Kept c)(P:b5 aF aE gs ⟨Frame.enter aF f (e8 z::l).toArray .normal,c::cs,.running,none,none⟩ u t 0)
 (k:∀bf ay a' (ai:Ren) v g dc,R v dc->aM ai v g->gb ai dc ay->(∀a b o,ai.r a b->bc.globals.size+5<=a->ay.heap[b]?=some o->bD A aE u ay [(true,b,o)])->ai.cells=nc bc->ai.exact=false->bD A aE u ay []->
  b5 aF aE bf ⟨c.finish g,cs,.running,none,none⟩ ay a' 0->∀sl,Ends aF bF (crowd bf ay sl) a'):∀sl,Ends aF bF (crowd gs u sl) t:=by
 have F:bD A aE aI u (ho z):=h.sub (λi own b o e=>⟨M.length+i,own,by rw[PE (by omega)];simpa using e⟩) (λi j own b o ae C ad D E af=>h.mem.eV (M.length+i) (M.length+j) own b o ae C ad (by rw[PE (by omega)];simpa using D) (by rw[PE (by omega)];simpa using E) (by omega));have H:ho z++([]:Mem)=ho z:=List.append_nil _;obtain⟨bj,hu⟩:=AV (V:=yM bc.globals.size++[]) (lim:=bc.globals.size) (M:=ho z++[]) (by rw[H];exact F) T;have q:nG (hU bc.globals.size z [] []):=Dw (λx p=>by simp[eI]at p);refine Bg (K:=bc.K) bc.sJ bc.H (λf h=>h) (λ_ _ _ h=>h) bc.nj bj (Dx bj (λx p=>by simp[eI]at p)) S (Es (Dy bj) X) L (R:=R) (λw B _=>Q w (Dv B) (by rw[B,qA];rfl)) W hu h.dD (by have:=h.calm.size;show aF.globals.size<=_;omega) P ?_;intro bf ay a' ai v g dc G aa U d hrel r Z;exact k bf ay a' ai v g dc G aa U (λa b o J I Y=>Is q d hrel r J (by show bc.globals.size+5<=a;exact I) Y) d.le.cells d.le.exact (Ir q d hrel r) Z
end
section
def po{α:Type}{l:List α}{i:Nat}{x:α}(h:l[i]?=some x):i<l.length:=(List.getElem?_eq_some_iff.1 h).1
section
variable{Pos:Type}{A:cS Pos}{u aI:World}{t:Trace}{gs:Array Goroutine}{x:bs}{n j:Nat}{p:Pos}{bF:Machine->Outcome->World->Trace->Prop}{base:List Frame}{aE:Nat->Prop}
def At.fK{n:Nat}{p:Pos}{x:bs}(h:At A n p x){f:FuncId}{args:Array Value}{α:Type}{cl:α->Value}{g:α->Pos}(he:Edge.call f args cl g∈A.cq p):Kept x.1:=by obtain⟨z,d,rfl⟩:=h;obtain⟨c,_⟩:=g2.mem d _ he;exact sj (zD c)
def eB.fK(T:dk A.P A.ext)(z:∀p,A.dA p<=400)(h:eB A base aE aI gs u t p x (n+1) j){f:FuncId}{args:Array Value}{α:Type}{cl:α->Value}{g:α->Pos}(he:Edge.call f args cl g∈A.cq p)
 (k:∀gs u t (c:Frame) (cs:List Frame),Kept c->bD A aE aI u (A.mem p)->b5 A.P aE gs ⟨Frame.enter A.P f args .normal,c::cs,.running,none,none⟩ u t 0->
  (∀dE bf ay a' (r:α),bD A dE aI ay (A.mem (g r))->b5 A.P dE bf ⟨c.finish (cl r),cs,.running,none,none⟩ ay a' 0->∃x,eB A base dE aI bf ay a' (g r) x n (A.dA (g r)))->∀sl,Ends A.P bF (crowd gs u sl) t):∀sl,Ends A.P bF (crowd gs u sl) t:=by
 refine h.quiet T λgs u t x a E l G i=>?_
 obtain rfl:n=a:=by omega
 obtain⟨B,C⟩:=i.call T he;have w:=i.fK he;refine l.step λd=>⟨_,u.at d,#[],C true base .running none (u.at d),rfl,Pk,(λe he=>by simp at he),λbf a' D q=>?_⟩
 exact k bf (u.at d) a' x.1 (x.2++base) w (E.at d) q (λdE bf ay a' r F o=>⟨_,B r,z _,F,o⟩) D
def eB.iu(T:dk A.P A.ext)(h:eB A base aE aI gs u t p x (n+1) j){X:bs}{g:Pos}(he:Edge.join X g∈A.cq p)(k:∀gs u t,bD A aE aI u (A.mem p)->b5 A.P aE gs (bQ X base) u t 0->∀sl,Ends A.P bF (crowd gs u sl) t):∀sl,Ends A.P bF (crowd gs u sl) t:=by
 refine h.quiet T λgs u t x a f c i d=>?_
 obtain rfl:=d.iu he;exact k gs u t f c
def bD.lq{ay:World}{M bR:Mem}(h:bD A aE aI u M)(k:bD A aE u ay bR):bD A aE aI ay (M++bR):=h.app (y':=A) k (λ_ _ h=>h)
def bD.on{ay:World}{M:Mem}(h:bD A aE aI u M)(k:bD A aE u ay []):bD A aE aI ay M:=(h.lq k).cast (List.append_nil M)
def bD.nil{M:Mem}(h:bD A aE aI u M):bD A aE aI u []:=h.none
def bD.left{M bR:Mem}(h:bD A aE aI u (M++bR)):bD A aE aI u M:=
 h.sub (λi own b o e=>⟨i,own,by rw[PF (po e)];exact e⟩) (λi j own b o p f l c d g=>h.mem.eV i j own b o p f l (by rw[PF (po c)];exact c) (by rw[PF (po d)];exact d) g)
end
variable{bF:Machine->Outcome->World->Trace->Prop}{aE:Nat->Prop}{aI u ay:World}{gs:Array Goroutine}{t:Trace}{base:List Frame}{kd:CallKind}{f:Nat->Value}
def yd{ai:Ren}{w ay:World}(L:gb ai w ay){m:Nat}{e:TypeId}{s n:Nat}{v B:Value}{xs:List Value}(h:w.ownsRow m e s v n xs)(u:n≠0)(S:0<s)(U:∀x∈xs,Flat x)(T:aM ai v B):
 ∃(g g' cap:Nat) (l:Array Value),ai.r g g'/\m<=g/\B=.slice (some ⟨g',0,none⟩) n cap/\ay.heap[g']?=some (.cells (xs.toArray++l) e (0,0)):=by
 obtain⟨W,⟨_,p⟩|⟨g,cap,cur,rfl,hm,H,I,V,X,z⟩⟩:=h
 .exact absurd p u
 cases T with
 |@slice a b h _ _=>
  obtain⟨g',off,spot⟩:=b;obtain⟨r,E,G⟩:=h;cases E;cases G;obtain⟨o,Z,f,C,R⟩:=L.obj g g' r;rw[H]at f;cases f;cases R with
  |@cells _ d _ _ q D F K=>
   have Y:cur.size<=d.size:=by rcases D with h|h<;>omega
   have hle:n*s<=cap*s:=Nat.mul_le_mul_right s I;have p:0<n*s:=Nat.mul_pos (Nat.pos_of_ne_zero u) S;have Q:q=(0,0):=uF K (by omega);refine⟨g,g',cap,(d.toList.drop (n*s)).toArray,r,hm,rfl,?_⟩;rw[C,Q];congr 2;apply Array.ext';rw[Array.toList_append,<-z];have hd:d.toList.take (n*s)=cur.toList.take (n*s):=by
    apply List.ext_getElem?;intro i;rw[List.getElem?_take,List.getElem?_take];split
    .rename_i M
     have J:i<cur.size:=by omega
     have c:cur[i]?=some cur[i]:=Pu J;have j:d[i]?=some d[i]:=Pu (by omega);have P:cur[i]∈xs:=by rw[<-z];refine Py (i:=i) ?_;rw[List.getElem?_take,if_pos M,Array.getElem?_toList,c]
     rw[Array.getElem?_toList,Array.getElem?_toList,c,j,(U _ P).eq (F i _ _ c j)]
    .rfl
   rw[<-hd];simp
def jm:ea:=⟨⟨0,0,0,0,0,0⟩,⟨0,0,#[]⟩,0,0,0,⟨0,0,#[]⟩,⟨0,0,#[]⟩⟩
def KJ(d:kd=.normal\/kd=.deferred)(g:bD (e7 kd) aE aI u [])(c:b5 aF aE gs (bQ (dQ kd 0 f) base) u t 0)(k:∀gs u t,bD (e7 kd) aE aI u []->b5 aF aE gs (bQ (dQ kd 1 (up f [(0,.bool false)])) base) u t 0->∀sl,Ends aF bF (crowd gs u sl) t):∀sl,Ends aF bF (crowd gs u sl) t:=by
 have bP:eB (e7 kd) base aE aI gs u t ⟨0,0,f,jm,[]⟩ (dQ kd 0 f) 11 4:=⟨⟨_,J7 kd d f jm,rfl⟩,by decide,g,c⟩
 exact bP.iu (fN kd) (.head _) k
def dT{l:List Value}(h:∀v∈l,Flat v){v:Value}(c:Flat v):∀x∈v::l,Flat x:=λx hx=>by
 rcases List.mem_cons.1 hx with rfl|hx
 .exact c
 .exact h x hx
def kj:∀v∈([]:List Value),Flat v:=λv c=>by simp at c
def DR{ρ:Ren}{x y v:Value}(h:aM ρ (.tuple #[x,y]) v):∃f g,v=.tuple #[f,g]/\aM ρ x f/\aM ρ y g:=by
 cases h with
 |@tuple _ b c d=>
  obtain⟨l⟩:=b;match l,c,d with
  | [f,g],_,d=>exact⟨f,g,rfl,d 0 _ _ rfl rfl,d 1 _ _ rfl rfl⟩
  | [],c,_=>simp at c
  | [_],c,_=>simp at c
  |_::_::_::_,c,_=>simp at c
def OC{ρ:Ren}{x y z v:Value}(h:aM ρ (.tuple #[x,y,z]) v):∃f g i,v=.tuple #[f,g,i]/\aM ρ x f/\aM ρ y g/\aM ρ z i:=by
 cases h with
 |@tuple _ b c d=>
  obtain⟨l⟩:=b;match l,c,d with
  | [f,g,i],_,d=>exact⟨f,g,i,rfl,d 0 _ _ rfl rfl,d 1 _ _ rfl rfl,d 2 _ _ rfl rfl⟩
  | [],c,_=>simp at c
  | [_],c,_=>simp at c
  | [_,_],c,_=>simp at c
  |_::_::_::_::_,c,_=>simp at c
def LK{d:List Int}(h:d.Perm [2,3,5,6]):(d.mergeSort (λx y=>decide (x<=y))).map encZ = [ad 2,ad 3,ad 5,ad 6]:=by
 have e:d.mergeSort (λx y=>decide (x<=y)) = [2,3,5,6]:=by refine List.Perm.eq_of_pairwise (le:=λx y=>decide (x<=y)=true) (λa b _ _ f g=>by simp at f g;omega) (List.pairwise_mergeSort (λa b c f g=>by simp at *;omega) (λa b=>by simp;omega) d) (by decide) ?_;exact(List.mergeSort_perm d _).trans h
 rw[e];rfl
def J1{w:World}{m cP:Nat}{e:TypeId}{s n:Nat}{v:Value}{xs:List Value}(h:w.ownsRow m e s v n xs)(hm:cP<=m):w.ownsRow cP e s v n xs:=by
 obtain⟨c,h|⟨g,cap,cur,d,i,f⟩⟩:=h
 .exact⟨c,.inl h⟩
 .exact⟨c,.inr ⟨g,cap,cur,d,by omega,f⟩⟩
def yE:Flat (.agg c8):=.agg (HA (.int _ _) (.int _ _) (.int _ _) (.int _ _) (.int _ _))
def KL(r:kd=.normal\/kd=.deferred)(q:aF.globals.size<=aI.heap.size)(D:bD (e7 kd) aE aI u [])(p:b5 aF aE gs (bQ (dQ kd 1 f) base) u t 0)(k:∀gs u t z,bD (e7 kd) aE aI u []->b5 aF aE gs (bQ (dQ kd 2 (up (up (up f [(19,e8 z)]) [(20,.tuple #[ad 9,ad 0])]) [(18,.tuple #[ad 9,ad 0]),(21,ad 9),(22,ad 0),(1,ad 9),(2,ad 0)])) base) u t 0->∀sl,Ends aF bF (crowd gs u sl) t):∀sl,Ends aF bF (crowd gs u sl) t:=by
 have bP:eB (e7 kd) base aE aI gs u t ⟨1,0,f,jm,[]⟩ (dQ kd 1 f) 11 400:=⟨⟨_,J8 kd r f jm,rfl⟩,by decide,D,p⟩
 refine bP.fK (fN kd) (hl kd) (.head _) λgs u t c cs i d g back=>?_
 refine pN i d.dD g λgs u t z m j=>?_
 obtain⟨x,s1⟩:=back aE gs u t z (d.lq m.to) j;refine s1.fK (fN kd) (hl kd) (.head _) λgs u t c cs i d g back=>?_
 refine rh (M:=[]) (z:=z) d q (f:=9) (by rintro(h|h|h)<;>cases h) (by kernel_rfl) (l:=[ad 0,ad 20,ad 100]) (dT (dT (dT kj (.int _ _)) (.int _ _)) (.int _ _)) (R:=λv _=>v=.tuple #[ad 9,ad 0]) (λw C _=>?_) i g ?_
 .refine(Hl (A:=bc.list.toArray) e2 o6 (kr bc.globals.size) 0 (by decide) 20 100 (by omega) (by omega) w C).mono ?_
  rintro e w' ⟨rfl,_⟩;rw[Hm];exact⟨_,rfl,rfl⟩
 intro gs u t ai v J dc o B H I F G E a4;subst o;obtain rfl:=Flat.eq (.tuple (pb (.int _ _) (.int _ _))) B;obtain⟨x,s2⟩:=back aE gs u t () (d.nil.lq E) a4;exact s2.iu (fN kd) (.head _) (k · · · z)
def KM(H:kd=.normal\/kd=.deferred)(E:aF.globals.size<=aI.heap.size)(U:bD (e7 kd) aE aI u [])(C:b5 aF aE gs (bQ (dQ kd 2 f) base) u t 0)(k:∀gs u t z s,bD (e7 kd) aE aI u [cV s]->b5 aF aE gs (bQ (dQ kd 3 (up (up (up (up f [(24,e8 z)]) [(25,.agg c8)]) [(26,s.re)]) [(23,s.re),(27,s.four),(28,ad 0),(3,s.four),(4,ad 0)])) base) u t 0->∀sl,Ends aF bF (crowd gs u sl) t):∀sl,Ends aF bF (crowd gs u sl) t:=by
 have bP:eB (e7 kd) base aE aI gs u t ⟨2,0,f,jm,[]⟩ (dQ kd 2 f) 11 400:=⟨⟨_,J9 kd H f jm,rfl⟩,by decide,U,C⟩
 refine bP.fK (fN kd) (hl kd) (.head _) λgs u t c cs j d i back=>?_
 refine pN j d.dD i λgs u t z m p=>?_
 obtain⟨x,s1⟩:=back aE gs u t z (d.lq m.to) p;refine s1.fK (fN kd) (hl kd) (.head _) λgs u t c cs j d i back=>?_
 refine sR j d.dD i λgs u t m p=>?_
 obtain⟨x,s2⟩:=back aE gs u t () (d.on m.to) p;refine s2.fK (fN kd) (hl kd) (.head _) λgs u t c cs j d i back=>?_
 refine rh (M:=[]) (z:=z) d E (f:=10) (by rintro(h|h|h)<;>cases h) (by kernel_rfl) (l:=[.agg c8]) (dT kj yE) (R:=λv w=>∃v0,v=.tuple #[v0,ad 0]/\w.ownsRow (bc.globals.size+5) 3 1 v0 4 [ad 2,ad 3,ad 5,ad 6]) (λw Q X=>?_) j i ?_
 .refine(Ej (A:=bc.list.toArray) e2 o6 (kr bc.globals.size) w Q ij u4).mono ?_
  rintro e w' ⟨v,T,m,rfl,q,hm,o,_⟩;rw[No]at q;refine⟨_,rfl,v,rfl,?_⟩;have r:T.length=4:=q.length_eq;rw[r,LK q]at o;exact J1 o (by omega)
 intro gs u t ai v Z dc ⟨v0,B,o⟩ K G J V W Y a4;subst B;obtain⟨aa,du,rfl,L,P⟩:=DR K;obtain rfl:=Flat.eq (.int _ _) P;obtain⟨g,g',cap,l,F,I,rfl,D⟩:=yd G o (by decide) (by decide) (dT (dT (dT (dT kj (.int _ _)) (.int _ _)) (.int _ _)) (.int _ _)) L;obtain⟨x,S⟩:=back aE gs u t ⟨g',cap,l⟩ (d.nil.lq (J g g' _ F I D)) a4;exact S.iu (fN kd) (.head _) (k · · · z ⟨g',cap,l⟩)
def KN(C:kd=.normal\/kd=.deferred)(B:aF.globals.size<=aI.heap.size){s:dI}(K:bD (e7 kd) aE aI u [cV s])(r:b5 aF aE gs (bQ (dQ kd 3 f) base) u t 0)(k:∀gs u t z x y,bD (e7 kd) aE aI u [cV s,eN x,eO y]->b5 aF aE gs (bQ (dQ kd 4 (up (up (up (up (up (up f [(30,e8 z)]) [(31,.agg c8)]) [(32,.tuple #[.agg #[ad 24,ad 26],.agg #[ad 48,ad 50],ad 0])]) [(29,.tuple #[.agg #[ad 24,ad 26],.agg #[ad 48,ad 50],ad 0]),(33,.agg #[ad 24,ad 26]),(34,.agg #[ad 48,ad 50]),(35,ad 0),(5,pt x)]) [(6,pt y)]) [(7,ad 0)])) base) u t 0->∀sl,Ends aF bF (crowd gs u sl) t):∀sl,Ends aF bF (crowd gs u sl) t:=by
 have bP:eB (e7 kd) base aE aI gs u t ⟨3,0,f,{jm with s:=s},[cV s]⟩ (dQ kd 3 f) 11 400:=⟨⟨_,J' kd C f {jm with s:=s},rfl⟩,by decide,K,r⟩
 refine bP.fK (fN kd) (hl kd) (.head _) λgs u t c cs i d g back=>?_
 refine pN i d.dD g λgs u t z m j=>?_
 obtain⟨x,s1⟩:=back aE gs u t z (d.lq m.to) j;refine s1.fK (fN kd) (hl kd) (.head _) λgs u t c cs i d g back=>?_
 refine sR i d.dD g λgs u t m j=>?_
 obtain⟨x,s2⟩:=back aE gs u t () (d.on m.to) j;refine s2.fK (fN kd) (hl kd) (.head _) λgs u t c cs i d g back=>?_
 refine rh (M:=[cV s]) (z:=z) d B (f:=12) (by rintro(h|h|h)<;>cases h) (by kernel_rfl) (l:=[.agg c8,ad 5]) (dT (dT kj (.int _ _)) yE) (R:=λv _=>v=.tuple #[.agg #[ad 24,ad 26],.agg #[ad 48,ad 50],ad 0]) (λw E _=>?_) i g ?_
 .refine(callsIn_wide.1 (HR (A:=bc.list.toArray) e2 o6 (kr bc.globals.size) w E ij u4 5 (by omega))).mono ?_
  rintro e w' ⟨rfl,_⟩;exact⟨_,rfl,HS⟩
 intro gs u t ai v U dc q D S T P Q L a4;subst q;obtain rfl:=Flat.eq (.tuple (AB (.agg (pb (.int _ _) (.int _ _))) (.agg (pb (.int _ _) (.int _ _))) (.int _ _))) D;obtain⟨x,F⟩:=back aE gs u t () ((bD.left (M:=[cV s]) (bR:=ho z) d).on L) a4;refine F.new (fN kd) (hl kd) (.head _) λgs u t x p G=>?_
 refine G.new (fN kd) (hl kd) (.head _) λgs u t x o H=>?_
 refine H.bH (fN kd) (hl kd) (.head _) λgs u t x I=>?_
 refine I.bH (fN kd) (hl kd) (.head _) λgs u t x J=>?_
 exact J.iu (fN kd) (.head _) (k · · · z p o)
def KO(r:kd=.normal\/kd=.deferred)(q:aF.globals.size<=aI.heap.size){s:dI}{x y:Nat}(E:bD (e7 kd) aE aI u [cV s,eN x,eO y])(p:b5 aF aE gs (bQ (dQ kd 4 f) base) u t 0)(k:∀gs u t z,bD (e7 kd) aE aI u [cV s,eN x,eO y]->b5 aF aE gs (bQ (dQ kd 5 (up (up (up (up f [(37,e8 z)]) [(38,.agg c8)]) [(39,.tuple #[ad 0,ad 2,ad 0])]) [(36,.tuple #[ad 0,ad 2,ad 0]),(40,ad 0),(41,ad 2),(42,ad 0),(8,ad 0),(9,ad 2),(10,ad 0)])) base) u t 0->∀sl,Ends aF bF (crowd gs u sl) t):∀sl,Ends aF bF (crowd gs u sl) t:=by
 have bP:eB (e7 kd) base aE aI gs u t ⟨4,0,f,{jm with s:=s,x:=x,y:=y},[cV s,eN x,eO y]⟩ (dQ kd 4 f) 11 400:=⟨⟨_,Ka kd r f {jm with s:=s,x:=x,y:=y},rfl⟩,by decide,E,p⟩
 refine bP.fK (fN kd) (hl kd) (.head _) λgs u t c cs i d g back=>?_
 refine pN i d.dD g λgs u t z m j=>?_
 obtain⟨_,s1⟩:=back aE gs u t z (d.lq m.to) j;refine s1.fK (fN kd) (hl kd) (.head _) λgs u t c cs i d g back=>?_
 refine sR i d.dD g λgs u t m j=>?_
 obtain⟨_,s2⟩:=back aE gs u t () (d.on m.to) j;refine s2.fK (fN kd) (hl kd) (.head _) λgs u t c cs i d g back=>?_
 refine rh (M:=[cV s,eN x,eO y]) (z:=z) d q (f:=29) (by rintro(h|h|h)<;>cases h) (by kernel_rfl) (l:=[.agg c8]) (dT kj yE) (R:=λv _=>v=.tuple #[ad 0,ad 2,ad 0]) (λw C _=>?_) i g ?_
 .refine(D' (A:=bc.list.toArray) e2 o6 (kr bc.globals.size) w C ij u4).mono ?_
  rintro e w' ⟨rfl,_⟩;rw[Ex];exact⟨_,rfl,rfl⟩
 intro gs u t ai v K dc o B I J G H F a4;subst o;obtain rfl:=Flat.eq (.tuple (AB (.int _ _) (.int _ _) (.int _ _))) B;obtain⟨_,D⟩:=back aE gs u t () ((bD.left (M:=[cV s,eN x,eO y]) (bR:=ho z) d).on F) a4;exact D.iu (fN kd) (.head _) (k · · · z)
def KP(r:kd=.normal\/kd=.deferred)(q:aF.globals.size<=aI.heap.size){s:dI}{x y:Nat}(D:bD (e7 kd) aE aI u [cV s,eN x,eO y])(p:b5 aF aE gs (bQ (dQ kd 5 f) base) u t 0)(k:∀gs u t z,bD (e7 kd) aE aI u [cV s,eN x,eO y]->b5 aF aE gs (bQ (dQ kd 6 (up (up (up f [(44,e8 z)]) [(45,.tuple #[ad 95,ad 0])]) [(43,.tuple #[ad 95,ad 0]),(46,ad 95),(47,ad 0),(11,ad 95),(12,ad 0)])) base) u t 0->∀sl,Ends aF bF (crowd gs u sl) t):∀sl,Ends aF bF (crowd gs u sl) t:=by
 have bP:eB (e7 kd) base aE aI gs u t ⟨5,0,f,{jm with s:=s,x:=x,y:=y},[cV s,eN x,eO y]⟩ (dQ kd 5 f) 11 400:=⟨⟨_,Kb kd r f {jm with s:=s,x:=x,y:=y},rfl⟩,by decide,D,p⟩
 refine bP.fK (fN kd) (hl kd) (.head _) λgs u t c cs i d g back=>?_
 refine pN i d.dD g λgs u t z m j=>?_
 obtain⟨_,s1⟩:=back aE gs u t z (d.lq m.to) j;refine s1.fK (fN kd) (hl kd) (.head _) λgs u t c cs i d g back=>?_
 refine rh (M:=[cV s,eN x,eO y]) (z:=z) d q (f:=30) (by rintro(h|h|h)<;>cases h) (by kernel_rfl) (l:=[ad 0,ad 20,ad 6]) (dT (dT (dT kj (.int _ _)) (.int _ _)) (.int _ _)) (R:=λv _=>v=.tuple #[ad 95,ad 0]) (λw C _=>?_) i g ?_
 .refine(Oj (A:=bc.list.toArray) e2 o6 (kr bc.globals.size) 0 (by decide) 20 (by omega) 6 (by omega) (by decide) w C).mono ?_
  rintro e w' ⟨rfl,_⟩;exact⟨_,rfl,congrArg (λn:Nat=>Value.tuple #[.int .i64 n,.int .i64 0]) Ol⟩
 intro gs u t ai v J dc o B H I F G E a4;subst o;obtain rfl:=Flat.eq (.tuple (pb (.int _ _) (.int _ _))) B;obtain⟨_,s2⟩:=back aE gs u t () ((bD.left (M:=[cV s,eN x,eO y]) (bR:=ho z) d).on E) a4;exact s2.iu (fN kd) (.head _) (k · · · z)
def KR(H:kd=.normal\/kd=.deferred)(E:aF.globals.size<=aI.heap.size){s p:dI}{x y:Nat}(V:bD (e7 kd) aE aI u [cV s,eN x,eO y,kg p])(C:b5 aF aE gs (bQ (dQ kd 7 f) base) u t 0)(k:∀gs u t z q,bD (e7 kd) aE aI u [cV s,eN x,eO y,kg p,wK q]->b5 aF aE gs (bQ (dQ kd 8 (up (up (up f [(57,e8 z)]) [(58,q.qk)]) [(56,q.qk),(59,q.two),(60,ad 5),(61,ad 0),(15,q.two),(16,ad 5),(17,ad 0)])) base) u t 0->∀sl,Ends aF bF (crowd gs u sl) t):∀sl,Ends aF bF (crowd gs u sl) t:=by
 have bP:eB (e7 kd) base aE aI gs u t ⟨7,0,f,{jm with s:=s,x:=x,y:=y,p:=p},[cV s,eN x,eO y,kg p]⟩ (dQ kd 7 f) 11 400:=⟨⟨_,Kd kd H f {jm with s:=s,x:=x,y:=y,p:=p},rfl⟩,by decide,V,C⟩
 refine bP.fK (fN kd) (hl kd) (.head _) λgs u t c cs o d j back=>?_
 refine pN o d.dD j λgs u t z m r=>?_
 obtain⟨_,s1⟩:=back aE gs u t z (d.lq m.to) r;refine s1.fK (fN kd) (hl kd) (.head _) λgs u t c cs o d j back=>?_
 refine rh (M:=[cV s,eN x,eO y,kg p]) (z:=z) d E (f:=32) (by rintro(h|h|h)<;>cases h) (by kernel_rfl) (l:=[ad 0,ad 20,ad 60,ad 2]) (dT (dT (dT (dT kj (.int _ _)) (.int _ _)) (.int _ _)) (.int _ _)) (R:=λv w=>∃v0,v=.tuple #[v0,ad 5,ad 0]/\w.ownsRow (bc.globals.size+5) 59 2 v0 2 [ad 20,ad 46,ad 48,ad 60]) (λw S T=>?_) o j ?_
 .refine(Fh (A:=bc.list.toArray) e2 o6 (kr bc.globals.size) 0 (by decide) 20 60 (by omega) (by omega) 2 (by omega) w S).mono ?_
  rintro e w' ⟨v,rfl,i,_⟩;rw[zN.2]at i;rw[zN.1];refine⟨_,rfl,v,rfl,?_⟩;rw[<-T];exact i
 intro gs u t ai v Z dc ⟨v0,B,i⟩ K G J W X Y a4;subst B;obtain⟨aa,du,ae,rfl,L,P,Q⟩:=OC K;obtain rfl:=Flat.eq (.int _ _) P;obtain rfl:=Flat.eq (.int _ _) Q;obtain⟨g,g',cap,l,F,I,rfl,D⟩:=yd G i (by decide) (by decide) (dT (dT (dT (dT kj (.int _ _)) (.int _ _)) (.int _ _)) (.int _ _)) L;obtain⟨_,U⟩:=back aE gs u t ⟨g',cap,l⟩ ((bD.left (M:=[cV s,eN x,eO y,kg p]) (bR:=ho z) d).lq (J g g' _ F I D)) a4;exact U.iu (fN kd) (.head _) (k · · · z ⟨g',cap,l⟩)
end
end Go.aN
namespace Go.aN
attribute [-simp] Go.Sem.runT_eq
open Go.Proofs Go.Conc Go.ConcN
section
def mf(O:Nat)(r s:dI):Bool×Nat×Obj:=(true,O,.cells #[r.four,s.four] 22 (0,0))
def qp(m:Nat)(es:Array MapEntry)(c:Nat):Bool×Nat×Obj:=(true,m,.map es c)
def qo(li O m:Nat):Bool×Nat×Obj:=(true,li,.cells #[sl O 2,cN,.map (some m)] 169 (0,0))
structure tm where
 z:dr
 s:dI
 x:Nat
 y:Nat
 L:Nat
 T:Nat
 O:Nat
 r0:dI
 r1:dI
 m:Nat
 es:Array MapEntry
 eX:Nat
 li:Nat
 out:Nat
 p:dI
structure vV where
 l:Nat
 d:tm
 M:Mem
def kZ(T:Nat)(z:dr):Bool×Nat×Obj:=(true,T,.cells (dW z 0 0 false false) 105 (0,0))
def vd(d:tm):Mem:=[cV d.s,eN d.x,eO d.y]++ho d.z++[(true,d.L,fZ)]
noncomputable def LP:vV->List (Edge vV)
 |⟨0,d,M⟩=>[.new true (.cells #[ad 2,sl d.z.F 2,sl d.z.R 2,sl d.z.Fr 1] 27 (0,0)) λb=>⟨1,d,M++[(true,b,.cells #[ad 2,sl d.z.F 2,sl d.z.R 2,sl d.z.Fr 1] 27 (0,0))]⟩]
 |⟨1,d,M⟩=>[.bH [.ld 9 0,.ld 9 1,.ld 9 2,.ld 9 3] ⟨2,d,cK M [.ld 9 0,.ld 9 1,.ld 9 2,.ld 9 3]⟩]
 |⟨2,d,_⟩=>[.call 43 #[e8 d.z,sl d.L 2,ad 8] (λT:Nat=>.tuple #[pt T,ad 0]) λT=>⟨3,{d with T:=T},vd d++[kZ T d.z]⟩]
 |⟨3,d,_⟩=>[.call 64 #[pt d.T,.slice (some (box d.L)) 2 2] (λo:Nat×dI×dI=>.slice (some (box o.1)) 2 2) λo=>⟨4,{d with O:=o.1,r0:=o.2.1,r1:=o.2.2},[cV d.s,eN d.x,eO d.y,cV o.2.1,cV o.2.2,mf o.1 o.2.1 o.2.2]⟩]
 |⟨4,d,M⟩=>[.new true (.map #[] 0) λm=>⟨5,{d with m:=m},M++[qp m #[] 0]⟩]
 |⟨5,d,M⟩=>[.new true (.cells #[sl d.O 2,cN,.map (some d.m)] 169 (0,0)) λb=>⟨6,{d with li:=b},M++[qo b d.O d.m]⟩]
 |⟨6,d,_⟩=>[.call 48 #[pt d.li,.agg #[ad 0,ad 8]] (λ_:Array MapEntry×Nat=>ad 4) λe=>⟨7,{d with es:=e.1,eX:=e.2},[cV d.s,eN d.x,eO d.y,cV d.r0,cV d.r1,mf d.O d.r0 d.r1,qo d.li d.O d.m,qp d.m e.1 e.2]⟩]
 |⟨7,d,M⟩=>[.new true (.cells #[cN] 22 (0,0)) λb=>⟨8,{d with out:=b},M++[(true,b,.cells #[cN] 22 (0,0))]⟩]
 |⟨8,d,_⟩=>[.call 49 #[pt d.li,.agg #[ad 0,ad 8],.func (.func 50) #[] #[pt d.out]] (λ_:dI=>.bool true) λp=>⟨9,{d with p:=p},[cV d.s,eN d.x,eO d.y,kg p,(true,d.out,.cells #[p.two] 22 (0,0))]⟩]
 |⟨9,d,M⟩=>[.bH [.ld 4 0] ⟨10,d,cK M [.ld 4 0]⟩]
 |⟨10,d,_⟩=>[.leave d.p.oz]
 |_=>[]
def Ip(f:FuncId):Bool:=[43,64,48,49].any (· == f)
noncomputable def mD:cS vV:=⟨Tryz.prog,gn,Ip,.normal,λp=>p.M,λ_=>400,LP⟩
def l8:dk mD.P mD.ext:=by unfold mD;exact iQ
set_option maxHeartbeats 4000000
set_option maxRecDepth 100000
def LQ(d:tm):Good mD 12 ⟨0,d,vd d⟩ (Frame.enter Tryz.prog 31 #[e8 d.z,sl d.L 2,ad 8] .normal,[]):=by all_goals repeat' (first|exact trivial|kernel_rfl|refine⟨?_,?_⟩|refine λ(_:Nat)=>?_|refine λ(_:dI)=>?_|refine λ(_:Nat×dI×dI)=>?_|refine λ(_:Array MapEntry×Nat)=>?_|intro _)
end
end Go.aN
namespace Go.aN
attribute [-simp] Go.Sem.runT_eq
open Go.ConcM (OsLater)
open Go.Proofs Go.Conc Go.ConcN
section
section
variable{Pos lE:Type}{A:cS Pos}{jd:cS lE}{u ay aI:World}{aE dE:Nat->Prop}
def bD.swap{M X bR:Mem}(h:bD A aE aI u (M++X))(calm:Calm u ay)(old:∀b,b<u.heap.size->(∀(i:Nat) own o,X[i]?≠some (own,b,o))->ay.heap[b]?=u.heap[b]?)(new:fF bR ay)(C:∀(i:Nat) own b o,bR[i]?=some (own,b,o)->(u.heap.size<=b\/∃(j:Nat) (d:Bool) (c:Obj),X[j]?=some (d,b,c))/\¬dE b)(I:∀b,dE b->b<ay.heap.size)(H:∀b,b<u.heap.size->dE b->aE b):bD jd dE aI ay (M++bR):=by
 have p:∀(i:Nat) own b o,M[i]?=some (own,b,o)->(M++X)[i]?=some (own,b,o):=λi own b o e=>by rw[PF (po e)];exact e
 have w:∀(i:Nat) own b o,X[i]?=some (own,b,o)->(M++X)[M.length+i]?=some (own,b,o):=λi own b o e=>by rw[PE (by omega)];simpa using e
 have cs:∀(i:Nat) own b o,(M++bR)[i]?=some (own,b,o)->(i<M.length/\M[i]?=some (own,b,o))\/(M.length<=i/\bR[i-M.length]?=some (own,b,o)):=λi own b o e=>by
  rcases Nat.lt_or_ge i M.length with aj|aj
  .rw[PF aj]at e;exact .inl ⟨aj,e⟩
  .rw[PE aj]at e;exact .inr ⟨aj,e⟩
 have lt:∀(i:Nat) own b o,M[i]?=some (own,b,o)->b<u.heap.size:=λi own b o e=>fB h.mem (p i own b o e)
 have off:∀(i:Nat) own b o,M[i]?=some (own,b,o)->∀(j:Nat) d c,X[j]?≠some (d,b,c):=λi own b o e j d c r=>
  h.mem.eV i (M.length+j) own b o d b c (p i own b o e) (w j d b c r) (by have:=po e;omega) rfl
 have apart:∀(i:Nat) own b o,M[i]?=some (own,b,o)->∀(j:Nat) d q c,bR[j]?=some (d,q,c)->b≠q:=λi own b o e j d q c r=>by
  rintro rfl;rcases(C j d b c r).1 with l|⟨bn,B,z,l⟩
  .have:=lt i own b o e;omega
  .exact off i own b o e bn B z l
 refine⟨⟨λi own b o e=>?_,λi j own b o d q c f g F=>?_⟩,λb E=>?_,h.calm.trans calm,λi own b o e=>?_,I⟩
 .rcases cs i own b o e with⟨_,e⟩|⟨_,e⟩
  .exact(old b (lt i own b o e) (off i own b o e)).trans (h.mem.has i own b o (p i own b o e))
  .exact new.has _ own b o e
 .rcases cs i own b o f with⟨l,f⟩|⟨l,f⟩<;>rcases cs j d q c g with⟨D,g⟩|⟨D,g⟩
  .exact h.mem.eV i j _ _ _ _ _ _ (p _ _ _ _ f) (p _ _ _ _ g) F
  .exact apart _ _ _ _ f _ _ _ _ g
  .exact(apart _ _ _ _ g _ _ _ _ f).symm
  .exact new.eV _ _ _ _ _ _ _ _ f g (by omega)
 .have:=h.calm.size
  refine(old b (by omega) λi own o e=>?_).trans (h.old b E);have:=(h.eD _ _ _ _ (w i own b o e)).1;omega
 .rcases cs i own b o e with⟨_,e⟩|⟨_,e⟩
  .have:=h.eD _ _ _ _ (p _ _ _ _ e)
   exact⟨this.1,λG=>this.2 (H b (lt i own b o e) G)⟩
  .have t:=C _ own b o e
   refine⟨?_,t.2⟩;rcases t.1 with l|⟨bn,B,z,l⟩
   .have:=h.calm.size;omega
   .exact(h.eD _ _ _ _ (w _ _ _ _ l)).1
def bD.right{M bR:Mem}(h:bD A aE aI u (M++bR)):bD A aE aI u bR:=
 h.sub (λi own b o e=>⟨M.length+i,own,by rw[PE (by omega)];simpa using e⟩) (λi j own b o l c g d f p=>h.mem.eV (M.length+i) (M.length+j) own b o l c g (by rw[PE (by omega)];simpa using d) (by rw[PE (by omega)];simpa using f) (by omega))
def N1(calm:Calm u ay)(low:∀b,aE b->b<ay.heap.size)(keep:∀b,b<u.heap.size->ay.heap[b]?=u.heap[b]?){b:Nat}(h:u.heap.size<=b/\¬aE b){o:Obj}(l:ay.heap[b]?=some o):bD A aE u ay [(true,b,o)]:=by
 refine⟨⟨λi own c f e=>?_,λi j own c f w p r d g q=>?_⟩,keep,calm,λi own c f e=>?_,low⟩
 .rcases i with _|i
  .simp at e;obtain⟨rfl,rfl,rfl⟩:=e;exact l
  .simp at e
 .rcases i with _|i<;>rcases j with _|j
  .omega
  .simp at g
  .simp at d
  .simp at d
 .rcases i with _|i
  .simp at e;obtain⟨rfl,rfl,rfl⟩:=e;exact h
  .simp at e
end
def rD(ai:Ren)(x y:Value):Prop:=∀c,aM ai x c->c=y
def Flat.only{ai:Ren}{v:Value}(h:Flat v):rD ai v v:=λ_ k=>h.eq k
def yl{ai:Ren}{a b:Nat}(h:ai.r a b)(n c:Nat):rD ai (.slice (some ⟨a,0,none⟩) n c) (.slice (some ⟨b,0,none⟩) n c):=λq k=>by
 cases k with
 |@slice _ d g _ _=>
  obtain⟨f,p,s1⟩:=d;obtain⟨i,j,l⟩:=g;cases j;cases l;have o:f=b:=ai.fwd i h;subst o;rfl
def BJ{ai:Ren}:∀{xs ys:List Value},cA (rD ai) xs ys->∀{d:List Value},d.length=xs.length->(∀(i:Nat) x y,xs[i]?=some x->d[i]?=some y->aM ai x y)->d=ys
 |_,_,.nil,d,hd,_=>by simpa using hd
 |_,_,.cons h t,[],hd,_=>by simp at hd
 |_,_,.cons h t,y::d,hd,c=>by rw[h y (c 0 _ _ rfl rfl),BJ t (by simpa using hd) λi x y f g=>c (i+1) x y f g]
def Fg{ai:Ren}{w ay:World}(u:gb ai w ay){a b:Nat}(h:ai.r a b){xs ys:List Value}{e:TypeId}(p:w.heap[a]?=some (.cells xs.toArray e (0,0)))(G:ai.cells e<=xs.length)(g:0<xs.length)(z:cA (rD ai) xs ys):ay.heap[b]?=some (.cells ys.toArray e (0,0)):=by
 obtain⟨o,H,c,f,C⟩:=u.obj a b h;rw[p]at c;cases c;cases C with
 |@cells _ d _ _ q j l r=>
  have B:q=(0,0):=uF r (by simpa using g);have D:d.size=xs.length:=by
   rcases j with h|h
   .rw[<-h];simp
   .have:=h.2;simp at this;omega
  rw[f,B];congr 2;apply Array.ext';rw[List.toList_toArray];exact BJ z (by rw[Array.length_toList];exact D) λi x y E F=>l i x y (by rw[List.getElem?_toArray];exact E) (by rw[<-Array.getElem?_toList];exact F)
variable{bF:Machine->Outcome->World->Trace->Prop}{aE:Nat->Prop}{aI u ay:World}{gs:Array Goroutine}{t:Trace}{c:Frame}{cs:List Frame}
def uq{Pos:Type}{A:cS Pos}{M:Mem}(h:bD A aE aI u M)(F:aF.globals.size<=aI.heap.size)(V:List Obj)(J:∀bj:hJ bc.globals.size (eI M V),vT (gj bc (eI M V) bj) (eI M V)){f:FuncId}(E:¬bc.K.fn f)(r:dX bc f=none){a b:Array Value}(j:∀bj:hJ bc.globals.size (eI M V),bE (gj bc (eI M V) bj) a b){R:Value->World->Prop}(D:∀w:World,w.heap=(gU bc.globals.size (eI M V)).heap->Calls bc f a w λe w'=>∃v,e=.returned v/\R v w')(H:Kept c)(z:b5 aF aE gs ⟨Frame.enter aF f b .normal,c::cs,.running,none,none⟩ u t 0)
 (k:∀bf ay a' (ai:Ren) v l dc,R v dc->aM ai v l->gb ai dc ay->(∀(i:Nat) x,(eI M V)[i]?=some x->ai.r (bc.globals.size+i) x.1)->ai.cells=nc bc->Calm u ay->(∀b,aE b->b<ay.heap.size)->
  (∀b,b<u.heap.size->(∀(i:Nat) x,(eI M V)[i]?=some x->x.1=b->∃c e,x.2.1=cg c e)->ay.heap[b]?=u.heap[b]?)->(∀a b,ai.r a b->bc.globals.size+(eI M V).length<=a->u.heap.size<=b/\¬aE b)->
  b5 aF aE bf ⟨c.finish l,cs,.running,none,none⟩ ay a' 0->∀sl,Ends aF bF (crowd bf ay sl) a'):∀sl,Ends aF bF (crowd gs u sl) t:=by
 obtain⟨bj,hu⟩:=AV (V:=V) (lim:=bc.globals.size) (M:=M) h F;refine Bg (K:=bc.K) bc.sJ bc.H (λf h=>h) (λ_ _ _ h=>h) bc.nj bj (J bj) E (j bj) r (R:=R) (λw Q _=>D w Q) H hu h.dD (by have:=h.calm.size;show aF.globals.size<=_;omega) z ?_;intro bf ay a' ai v l dc q P G g hrel I L;refine k bf ay a' ai v l dc q P G (λi x e=>g.le.sub _ _ (sh e)) g.le.cells (wW g) I (λb B S=>?_) (λa b j d=>⟨As g j d,hrel a b j⟩) L;by_cases o:∃a,(gj bc (eI M V) bj).r a b
 .obtain⟨a,d⟩:=o
  refine(g.guard a b d ?_).2;obtain⟨i,x,e,rfl,rfl⟩:=d;obtain⟨c,p,C⟩:=S i x e rfl;exact⟨c,p,c.size,by rw[kl e,C];rfl,Pk⟩
 .exact g.out b B λa d=>o ⟨a,d⟩
def kM:List Value:=[ad 0,ad 20,ad 26,ad 46,ad 50,ad 0,ad 20,ad 26,ad 46,ad 50]
def AD{ρ:Ren}{l:List Value}(h:∀v∈l,Flat v):bE ρ l.toArray l.toArray:=⟨rfl,λi a b c d=>by rw[c]at d;cases d;rw[List.getElem?_toArray]at c;exact(h a (Py c)).rel⟩
def MV:∀v∈kM,Flat v:=dT (dT (dT (dT (dT (dT (dT (dT (dT (dT kj (.int _ _)) (.int _ _)) (.int _ _)) (.int _ _)) (.int _ _)) (.int _ _)) (.int _ _)) (.int _ _)) (.int _ _)) (.int _ _)
def vq{x y z:Value}{R:Value->Value->Prop}{f g h:Value}(j:R x f)(l:R y g)(o:R z h):fa R #[x,y,z] #[f,g,h]:=⟨rfl,λi a b c d=>by
 rcases i with _|_|_|i
 .simp at c d;subst c;subst d;exact j
 .simp at c d;subst c;subst d;exact l
 .simp at c d;subst c;subst d;exact o
 .simp at c⟩
def M8{w:World}{b:Nat}(d:w.heap[b]?=some (cg kM.toArray 32)):oW w b 0 2 λ_=>ij:=by
 refine⟨λi c=>?_,λi c=>?_,λi c=>?_,λi c=>?_,λi c=>?_⟩
 .have:=aT (o:=0+i*5) d
  rcases jc c with rfl|rfl<;>exact this
 .have:=aT (o:=0+i*5+1) d
  rcases jc c with rfl|rfl<;>exact this
 .have:=aT (o:=0+i*5+2) d
  rcases jc c with rfl|rfl<;>exact this
 .have:=aT (o:=0+i*5+3) d
  rcases jc c with rfl|rfl<;>exact this
 .have:=aT (o:=0+i*5+4) d
  rcases jc c with rfl|rfl<;>exact this
end
section
variable{bF:Machine->Outcome->World->Trace->Prop}{aE:Nat->Prop}{aI u ay:World}{gs:Array Goroutine}{t:Trace}{c:Frame}{cs:List Frame}{Pos:Type}{A:cS Pos}
def sZ(z:dr):List Value:=[ad 2,sl z.F 2,sl z.R 2,sl z.Fr 1,.int .u32 0,.int .i32 0,.int .u32 0,.int .u32 0,.int .i32 0,.int .u32 0,.int .u32 0,.int .i32 0,.int .u32 0,ad 0,ad 0,ad 0,ad 0,ad 0,ad 0,ad 0,ad 0,ad 0,ad 0,ad 0,ad 0,ad 0,ad 0,ad 0]
def NI(z:dr):dW z 0 0 false false=(sZ z).toArray:=by kernel_rfl
def NW:l4 e2 (kr bc.globals.size)=(sZ ⟨0,bc.globals.size,bc.globals.size+3,0,0,bc.globals.size+4⟩).toArray:=by kernel_rfl
def Fc:nc bc 105=28:=by kernel_rfl
def Fe:nc bc 22=1:=by kernel_rfl
def NJ{ai:Ren}{z c:dr}(hF:ai.r z.F c.F)(f:ai.r z.R c.R)(d:ai.r z.Fr c.Fr):cA (rD ai) (sZ z) (sZ c):=by refine .cons (Flat.only (.int _ _)) (.cons (yl hF _ _) (.cons (yl f _ _) (.cons (yl d _ _) ?_)));repeat' first|exact .nil|refine .cons (Flat.only (.int _ _)) ?_
def JJ{M:Mem}{z:dr}{L:Nat}(h:bD A aE aI u (M++(ho z++[(true,L,fZ)])))(C:aF.globals.size<=aI.heap.size)(Q:Kept c)(I:b5 aF aE gs ⟨Frame.enter aF 43 #[e8 z,sl L 2,ad 8] .normal,c::cs,.running,none,none⟩ u t 0)(k:∀bf ay a' T,bD A aE aI ay (M++(ho z++[(true,L,fZ)])++[kZ T z])->aF.globals.size<=T->b5 aF aE bf ⟨c.finish (.tuple #[pt T,ad 0]),cs,.running,none,none⟩ ay a' 0->∀sl,Ends aF bF (crowd bf ay sl) a'):∀sl,Ends aF bF (crowd gs u sl) t:=by
 have E:∀x∈eI [(true,L,fZ)] [cg kM.toArray 32],x=(L,cg kM.toArray 32,fZ):=λx g=>by simpa [eI]using g
 have K:nG (hU bc.globals.size z [(true,L,fZ)] [cg kM.toArray 32]):=Dw λx g=>⟨kM.toArray,32,by rw[E x g]⟩
 refine uq h.right C (yM bc.globals.size++[cg kM.toArray 32]) (λbj=>Dx (M:=[(true,L,fZ)]) (V:=[cg kM.toArray 32]) bj λx g=>?_) (f:=43) (by rintro(h|h|h)<;>cases h) (by kernel_rfl)
  (a:=#[.agg (cO e2 (kr bc.globals.size)),sl (bc.globals.size+5) 2,ad 8]) (λbj=>vq (Dy (M:=[(true,L,fZ)]) (V:=[cg kM.toArray 32]) bj) (oy (br:=hU bc.globals.size z [(true,L,fZ)] [cg kM.toArray 32]) (bj:=bj) 5 rfl 2) (.int _ _))
  (R:=λv w=>∃T,v=.tuple #[pt T,ad 0]/\bc.globals.size+6<=T/\w.heap[T]?=some (.cells (l4 e2 (kr bc.globals.size)) 105 (0,0))) (λw p=>?_) Q I ?_
 .rw[E x g]
  exact mm rfl (AD MV)
 .have d:w.heap[bc.globals.size+5]?=some (cg kM.toArray 32):=by rw[p];exact kl (br:=hU bc.globals.size z [(true,L,fZ)] [cg kM.toArray 32]) (i:=5) rfl
  have Z:w.heap.size=bc.globals.size+6:=by rw[p,qA];rfl
  refine(BK (A:=bc.list.toArray) e2 o6 (kr bc.globals.size) w (Dv (M:=[(true,L,fZ)]) (V:=[cg kM.toArray 32]) p) (bc.globals.size+5) 0 2 2 (by omega) (λ_=>ij) (M8 d) (λ_ _=>u4) 8 (by omega)).mono ?_;rintro e w' ⟨T,rfl,r,j,_⟩;exact⟨_,rfl,T,rfl,by omega,j⟩
 intro bf ay a' ai v aa dc ⟨T,W,r,d⟩ U P l J calm low keep fresh F;subst W;obtain⟨ae,du,rfl,X,Y⟩:=DR U;obtain rfl:=Flat.eq (.int _ _) Y;cases X with
 |@ptr _ b j=>
  obtain⟨b,o,s⟩:=b;obtain⟨q,G,H⟩:=j;cases G;cases H;rw[NW]at d;have D:=Fg P q (ys:=sZ z) d (by rw[J,Fc];exact Pk) (by decide) (NJ (l 0 _ rfl) (l 3 _ rfl) (l 4 _ rfl));rw[<-NI]at D;have B:=fresh _ _ q (by show bc.globals.size+6<=T;exact r);have S:=h.calm.size;refine k bf ay a' b (h.lq (N1 calm low (λb d=>keep b d λi x e _=>K x (Py e)) B D)) (Po (Po C S) B.1) F
def Iv{M:Mem}{z:dr}{L T:Nat}(h:bD A aE aI u (M++(ho z++[(true,L,fZ)]++[kZ T z])))(aj:aF.globals.size<=aI.heap.size)(q:aF.globals.size<=T)(X:Kept c)(V:b5 aF aE gs ⟨Frame.enter aF 64 #[pt T,.slice (some (box L)) 2 2] .normal,c::cs,.running,none,none⟩ u t 0)(k:∀dE bf ay a' O r0 r1,(∀b,aE b->dE b)->(∀b,dE b->aE b\/u.heap.size<=b)->bD A dE aI ay (M++[cV r0,cV r1,mf O r0 r1])->b5 aF dE bf ⟨c.finish (.slice (some (box O)) 2 2),cs,.running,none,none⟩ ay a' 0->∀sl,Ends aF bF (crowd bf ay sl) a'):∀sl,Ends aF bF (crowd gs u sl) t:=by
 have l:=h.right;have f:∀(i:Nat) b o,(ho z++[(true,L,fZ)]++[kZ T z])[i]?=some (true,b,o)->u.heap[b]?=some o/\¬aE b:=λi b o e=>⟨l.mem.has i true b o e,(l.eD i true b o e).2⟩
 have W:vI {z with T:=T} L aE u:=by have B:=f 0 _ _ rfl;have E:=f 1 _ _ rfl;have F:=f 2 _ _ rfl;have G:=f 3 _ _ rfl;have C:=f 4 _ _ rfl;have D:=f 5 _ _ rfl;have kZ:=f 6 _ _ rfl;refine⟨kZ.1,B.1,G.1,E.1,F.1,C.1,D.1,h.dD,⟨kZ.2,B.2,G.2,E.2,F.2,C.2,D.2⟩,q,?_⟩;have:=(l.eD 0 true z.F _ rfl).1;show aF.globals.size<=z.F;omega
 refine λsl=>Er (yN T q) (z:={z with T:=T}) (λb e=>NN T q b e) X (.inl rfl) W V ?_ sl
 intro Z ad g bf ay a' r aU hd Y;obtain⟨ae,bu,_⟩:=hd.res false;obtain⟨af,K,_⟩:=hd.res true;obtain⟨H,w,am,I,ag,ah,J⟩:=hd.new;rw[g]at H w ag;have p:=hd.calm;rw[g]at p;have al:=p.size;have U:Z.z.T=T:=by rw[ad]
 refine k (λb=>aE b\/b=Z.W) bf ay a' Z.O ⟨(r false).1,(r false).2,ae⟩ ⟨(r true).1,(r true).2,af⟩ (λb d=>.inl d) (λb d=>d.imp id λe=>by omega) ?_ Y;have low:∀b,aE b->b<u.heap.size:=h.dD;refine h.swap p (λb d aa=>?_) ⟨λi own b o e=>?_,λi j own b o ap ai ao P Q ak=>?_⟩ (λi own b o e=>?_) (λb d=>?_) (λb d h=>h.elim id λe=>by omega)
 .have:=hd.old b (by rw[g];exact d) (by rw[U];rintro rfl;exact aa 6 true _ rfl)
  rw[this,g]
 .rcases i with _|_|_|i
  .simp[cV]at e;obtain⟨rfl,rfl,rfl⟩:=e;exact bu
  .simp[cV]at e;obtain⟨rfl,rfl,rfl⟩:=e;exact K
  .simp[mf]at e;obtain⟨rfl,rfl,rfl⟩:=e;exact hd.O
  .simp at e
 .have f0:=I false
  have f1:=I true;rcases i with _|_|_|i<;>rcases j with _|_|_|j<;>simp[cV,mf]at P Q<;>omega
 .have f0:=w false
  have f1:=w true;have R:=J false;have S:=J true;rcases i with _|_|_|i<;>simp[cV,mf]at e
  .obtain⟨_,rfl,_⟩:=e;exact⟨.inl f0,λh=>h.elim (λh=>by have:=low _ h;omega) R⟩
  .obtain⟨_,rfl,_⟩:=e;exact⟨.inl f1,λh=>h.elim (λh=>by have:=low _ h;omega) S⟩
  .obtain⟨_,rfl,_⟩:=e;exact⟨.inl H,λh=>h.elim (λh=>by have:=low _ h;omega) (λe=>ah e.symm)⟩
 .rcases d with d|rfl
  .have:=low b d;omega
  .exact hd.D4
end
section
variable{bF:Machine->Outcome->World->Trace->Prop}{aE:Nat->Prop}{aI u ay:World}{gs:Array Goroutine}{t:Trace}{c:Frame}{cs:List Frame}{Pos:Type}{A:cS Pos}
def qK(j:Nat):Int:=match j with|0=>2|1=>3|2=>5|_=>6
def kW:gM:=⟨2,λ_=>4,λ_=>qK⟩
def zZ:kW.ok:=⟨by decide,λ_ _=>(by decide:(4:Nat)<=200),λi _ j _=>by show 0<=qK j/\qK j<=1000000;unfold qK;split<;>decide⟩
def mw(g bu c:Nat):il:=⟨g+2,0,2,λi=>match i with|0=>g|_=>g+1,λ_=>0,λi=>match i with|0=>bu|_=>c⟩
def OG:f' kW 2 8=4:=by kernel_rfl
def wz:4<nc bc 3:=by refine Px ?_ (Nat.le_max_right _ _);rw[if_pos (.inl rfl)];omega
def hP:Array Value:=#[ad 2,ad 3,ad 5,ad 6]
def uK{w:World}{b:Nat}(h:w.heap[b]?=some (cg hP 3)):iD w b 0 4 qK:=by
 intro k c;have:=aT (o:=0+k) h;rcases k with _|_|_|_|k
 .exact this
 .exact this
 .exact this
 .exact this
 .omega
def Js{ρ:Ren}(he:ρ.exact=false)(f:ρ.cells=nc bc)(l:Array Value):ev ρ (cg hP 3) (.cells (#[ad 2,ad 3,ad 5,ad 6]++l) 3 (0,0)):=by
 refine .cells ?_ (λi x y c d=>?_) (.inr ⟨he,rfl,Pk,Nat.zero_le _⟩)
 .rcases Nat.eq_zero_or_pos l.size with h|h
  .exact .inl (by simp[hP,h])
  .refine .inr ⟨by simp[hP];omega,?_⟩
   rw[f];exact wz
 .have g:i<4:=bp c
  rw[Array.getElem?_append_left (by simpa using g)]at d;have:x=y:=Pm (c.symm.trans d);subst this;have hm:x∈[ad 2,ad 3,ad 5,ad 6]:=by refine Py (i:=i) ?_;rw[<-c,<-Array.getElem?_toList];rfl
  exact(dT (dT (dT (dT kj (.int _ _)) (.int _ _)) (.int _ _)) (.int _ _) x hm).rel
def uL{ρ:Ren}(he:ρ.exact=false)(o:ρ.cells=nc bc)(l:Array Value):ma (cg hP 3)/\ev ρ (cg hP 3) (.cells (#[ad 2,ad 3,ad 5,ad 6]++l) 3 (0,0))/\∀bo d f c g h,cg hP 3=.cells bo d f->Obj.cells (#[ad 2,ad 3,ad 5,ad 6]++l) 3 (0,0)=.cells c g h->bo.size<=c.size:=by refine⟨trivial,Js he o l,λbo d f c g h i j=>?_⟩;cases i;cases j;simp[hP]
def te(es:Array MapEntry):Prop:=∀e∈es.toList,Flat e.key/\Flat e.val
def G8{ρ:Ren}{es:Array MapEntry}(h:te es):fa (d' ρ) es es:=⟨rfl,λi x y c d=>by rw[c]at d;cases d;have:=h x (Py (by rw[Array.getElem?_toList];exact c));exact⟨this.1.rel,this.2.rel,rfl⟩⟩
def G5{ρ:Ren}{es bd:Array MapEntry}(h:te es)(k:fa (d' ρ) es bd):bd=es:=by apply Array.ext k.1.symm;intro i j l;have d:es[i]?=some es[i]:=Pu l;have g:bd[i]?=some bd[i]:=Pu j;have r:=k.2 i _ _ d g;have f:=h es[i] (Py (by rw[Array.getElem?_toList];exact d));have a:=f.1.eq r.key;have b:=f.2.eq r.val;have c:=r.born;generalize es[i]=x at *;generalize bd[i]=y at *;obtain⟨_,_,_⟩:=x;obtain⟨_,_,_⟩:=y;simp at a b c;subst a;subst b;subst c;rfl
structure ry(es:Array MapEntry):Prop where
 mp:∀(w:World) (m c:Nat),w.heap[m]?=some (.map es c)->∃M,j1 w m M/\rB kW M
 flat:te es
def G2:ry #[]:=⟨λw m c h=>⟨_,j1.new w m c h,λa p v h=>by cases h⟩,λe he=>by simp at he⟩
def G3{w:World}{m c:Nat}{es:Array MapEntry}(h:w.heap[m]?=some (.map es c)){M:Int->Int->Option Value}(p:j1 w m M)(r:rB kW M):ry es:=by
 obtain⟨⟨e3,bo,g,i,o⟩,j⟩:=p;rw[h]at g;cases g;refine⟨λw' cP l f=>⟨M,⟨⟨es,l,f,i,o⟩,λB z d=>?_⟩,r⟩,λe he=>?_⟩
 .rw[f]at d
  cases d;exact j es c h
 .obtain⟨a,b,q⟩:=i e he
  obtain⟨n,u⟩:=j es c h e he;rw[q,u];exact⟨.agg (pb (.int _ _) (.int _ _)),.int _ _⟩
def s3(r0 r1:dI)(O m li:Nat)(es:Array MapEntry)(c:Nat):Mem:=[cV r0,cV r1,mf O r0 r1,qp m es c,qo li O m]
def yY(g:Nat)(r0 r1:dI)(es:Array MapEntry)(c:Nat):List Obj:=[cg hP 3,cg hP 3,cg #[.slice (some ⟨g,0,none⟩) 4 r0.c,.slice (some ⟨g+1,0,none⟩) 4 r1.c] 22,.map es c,cg #[sl (g+2) 2,cN,.map (some (g+3))] 169]
def q4{Q:Program}{br:hq}{bj:hJ Q.globals.size br}(i:Nat){x:Nat×Obj×Obj}(e:br[i]?=some x)(n c:Nat):aM (gj Q br bj) (.slice (some ⟨Q.globals.size+i,0,none⟩) n c) (.slice (some ⟨x.1,0,none⟩) n c):=.slice (a:=⟨Q.globals.size+i,0,none⟩) (b:=⟨x.1,0,none⟩) ⟨sh e,rfl,rfl⟩ n c
def x5{Q:Program}{br:hq}{bj:hJ Q.globals.size br}(i:Nat){x:Nat×Obj×Obj}(e:br[i]?=some x):aM (gj Q br bj) (.pointer (some ⟨Q.globals.size+i,0,none⟩)) (.pointer (some ⟨x.1,0,none⟩)):=.ptr (a:=⟨Q.globals.size+i,0,none⟩) (b:=⟨x.1,0,none⟩) ⟨sh e,rfl,rfl⟩
def Br{Q:Program}{br:hq}{bj:hJ Q.globals.size br}(i:Nat){x:Nat×Obj×Obj}(e:br[i]?=some x):aM (gj Q br bj) (.map (some (Q.globals.size+i))) (.map (some x.1)):=.map (sh e)
def Bq{ρ:Ren}{es:Array MapEntry}(h:te es)(c:Nat):ma (.map es c)/\ev ρ (.map es c) (.map es c)/\∀bo g f d i j,Obj.map es c=.cells bo g f->Obj.map es c=.cells d i j->bo.size<=d.size:=⟨trivial,.map (G8 h) c,λbo g f d i j l _=>by cases l⟩
def DV{w:World}{g:Nat}{r0 r1:dI}{es:Array MapEntry}{h:Nat}(r:ry es)(j:w.heap[g]?=some (cg hP 3))(l:w.heap[g+1]?=some (cg hP 3))(p:w.heap[g+2]?=some (cg #[.slice (some ⟨g,0,none⟩) 4 r0.c,.slice (some ⟨g+1,0,none⟩) 4 r1.c] 22)){m li:Nat}(q:w.heap[m]?=some (.map es h)){f:Nat×Nat}(d:w.heap[li]?=some (.cells #[sl (g+2) 2,cN,.map (some m)] 169 f)):j2 w li m kW (mw g r0.c r1.c):=by
 refine⟨(aT d).trans rfl,(aT d).trans rfl,λi c=>?_,λi c=>?_,r.mp w m h q⟩
 .have:=aT (o:=0+i) p
  rcases jc c with rfl|rfl<;>exact this
 .rcases jc c with rfl|rfl
  .exact uK j
  .exact uK l
def OI{M:Mem}{r0 r1:dI}{O m li:Nat}(h:bD A aE aI u (M++s3 r0 r1 O m li #[] 0))(S:aF.globals.size<=aI.heap.size)(V:Kept c)(Q:b5 aF aE gs ⟨Frame.enter aF 48 #[pt li,.agg #[ad 0,ad 8]] .normal,c::cs,.running,none,none⟩ u t 0)(k:∀bf ay a' es B,ry es->bD A aE aI ay (M++[cV r0,cV r1,mf O r0 r1,qo li O m,qp m es B])->b5 aF aE bf ⟨c.finish (ad 4),cs,.running,none,none⟩ ay a' 0->∀sl,Ends aF bF (crowd bf ay sl) a'):∀sl,Ends aF bF (crowd gs u sl) t:=by
 have J:∀x∈eI (s3 r0 r1 O m li #[] 0) (yY bc.globals.size r0 r1 #[] 0),x=(r0.b,cg hP 3,.cells (#[ad 2,ad 3,ad 5,ad 6]++r0.l) 3 (0,0))\/x=(r1.b,cg hP 3,.cells (#[ad 2,ad 3,ad 5,ad 6]++r1.l) 3 (0,0))\/x=(O,cg #[.slice (some ⟨bc.globals.size,0,none⟩) 4 r0.c,.slice (some ⟨bc.globals.size+1,0,none⟩) 4 r1.c] 22,.cells #[r0.four,r1.four] 22 (0,0))\/x=(m,.map #[] 0,.map #[] 0)\/x=(li,cg #[sl (bc.globals.size+2) 2,cN,.map (some (bc.globals.size+3))] 169,.cells #[sl O 2,cN,.map (some m)] 169 (0,0)):=λx d=>by have d:x∈[(r0.b,cg hP 3,Obj.cells (#[ad 2,ad 3,ad 5,ad 6]++r0.l) 3 (0,0)),(r1.b,cg hP 3,.cells (#[ad 2,ad 3,ad 5,ad 6]++r1.l) 3 (0,0)),(O,cg #[.slice (some ⟨bc.globals.size,0,none⟩) 4 r0.c,.slice (some ⟨bc.globals.size+1,0,none⟩) 4 r1.c] 22,.cells #[r0.four,r1.four] 22 (0,0)),(m,.map #[] 0,.map #[] 0),(li,cg #[sl (bc.globals.size+2) 2,cN,.map (some (bc.globals.size+3))] 169,.cells #[sl O 2,cN,.map (some m)] 169 (0,0))]:=d;simpa only[List.mem_cons,PD,or_false]using d
 refine uq h.right S (yY bc.globals.size r0 r1 #[] 0) (λbj x d=>?_) (f:=48) (by rintro(h|h|h)<;>cases h) (by kernel_rfl)
  (a:=#[pt (bc.globals.size+4),.agg #[ad 0,ad 8]]) (λbj=>pP (x5 (bj:=bj) 4 rfl) (Flat.rel (.agg (pb (.int _ _) (.int _ _)))))
  (R:=λv w=>v=ad 4/\j2 w (bc.globals.size+4) (bc.globals.size+3) kW (mw bc.globals.size r0.c r1.c)) (λw aa=>?_) V Q ?_
 .rcases J x d with rfl|rfl|rfl|rfl|rfl
  .exact uL rfl rfl _
  .exact uL rfl rfl _
  .exact mm rfl (pP (q4 (bj:=bj) 0 rfl 4 r0.c) (q4 (bj:=bj) 1 rfl 4 r1.c))
  .exact Bq (λe he=>by simp at he) 0
  .exact mm rfl (vq (oy (bj:=bj) 2 rfl 2) (.jw _ _) (Br (bj:=bj) 3 rfl))
 .have b:∀(i:Nat) x,(eI (s3 r0 r1 O m li #[] 0) (yY bc.globals.size r0 r1 #[] 0))[i]?=some x->w.heap[bc.globals.size+i]?=some x.2.1:=λi x e=>by rw[aa];exact kl e
  refine(DW (A:=bc.list.toArray) (bc.globals.size+4) (bc.globals.size+3) kW zZ (mw bc.globals.size r0.c r1.c) 2 0 rfl 8 (by omega) w (DV G2 (b 0 _ rfl) (b 1 _ rfl) (b 2 _ rfl) (b 3 _ rfl) (b 4 _ rfl))).mono ?_;rintro e w' ⟨rfl,E,_⟩;refine⟨_,rfl,?_,E⟩;exact congrArg (λn:Nat=>ad n) OG
 intro bf ay a' ai v aw dc ⟨Z,E⟩ Y T U ap calm low keep fresh K;subst Z;obtain rfl:=Flat.eq (.int _ _) Y;obtain⟨am,F,W⟩:=E.mp;obtain⟨⟨es,B,z,ar,au⟩,aq⟩:=id F;have G:=G3 z F W;obtain⟨o,p,g,l,X⟩:=T.obj _ _ (U 3 _ rfl);have g:dc.heap[bc.globals.size+3]?=some o:=g;rw[z]at g;cases g;have l:ay.heap[m]?=some p:=l;cases X with
 |@map _ bd hm _=>
  obtain rfl:=G5 G.flat hm;have q:=h.right;have C:∀(i:Nat) own b o,(s3 r0 r1 O m li #[] 0)[i]?=some (own,b,o)->i≠3->ay.heap[b]?=some o:=λi own b o e H=>by
   refine(keep b (fB q.mem e) λj x I d=>?_).trans (q.mem.has i own b o e);rcases J x (Py I)with rfl|rfl|rfl|rfl|rfl
   .exact⟨_,_,rfl⟩
   .exact⟨_,_,rfl⟩
   .exact⟨_,_,rfl⟩
   .exact(q.mem.eV i 3 own b o true m _ e rfl H d.symm).elim
   .exact⟨_,_,rfl⟩
  have af:=C 0 _ _ _ rfl (by omega);have ag:=C 1 _ _ _ rfl (by omega);have ah:=C 2 _ _ _ rfl (by omega);have aj:=C 4 _ _ _ rfl (by omega);have back:∀(i:Nat) own b o,[cV r0,cV r1,mf O r0 r1,qo li O m,qp m bd B][i]?=some (own,b,o)->∃(j:Nat) (D:Bool) (p:Obj),(s3 r0 r1 O m li #[] 0)[j]?=some (D,b,p)/\j=(match i with|3=>4|4=>3|i=>i):=λi own b o e=>by
   rcases i with _|_|_|_|_|i
   .cases e;exact⟨0,_,_,rfl,rfl⟩
   .cases e;exact⟨1,_,_,rfl,rfl⟩
   .cases e;exact⟨2,_,_,rfl,rfl⟩
   .cases e;exact⟨4,_,_,rfl,rfl⟩
   .cases e;exact⟨3,_,_,rfl,rfl⟩
   .simp at e
  refine k bf ay a' bd B G (h.swap calm (λb z d=>?_) ⟨λi own b o e=>?_,λi j own b o D ao p g l av=>?_⟩ (λi own b o e=>?_) low (λb _ h=>h)) K
  .refine keep b z λi x e ae=>?_
   subst ae;obtain⟨own,P,_⟩:=pg e;exact(d i own _ P).elim
  .rcases i with _|_|_|_|_|i
   .cases e;exact af
   .cases e;exact ag
   .cases e;exact ah
   .cases e;exact aj
   .cases e;exact l
   .simp at e
  .obtain⟨r,_,_,q1,r1⟩:=back i _ _ _ g
   obtain⟨L,_,_,ak,al⟩:=back j _ _ _ l;refine q.mem.eV r L _ _ _ _ _ _ q1 ak ?_;have H:i<5:=po g;have I:j<5:=po l;rcases i with _|_|_|_|_|i<;>rcases j with _|_|_|_|_|j<;>simp at r1 al<;>omega
  .obtain⟨r,D,p,q1,_⟩:=back i _ _ _ e
   exact⟨.inr ⟨r,D,p,q1⟩,(q.eD r _ _ _ q1).2⟩
end
section
variable{bF:Machine->Outcome->World->Trace->Prop}{aE:Nat->Prop}{aI u ay:World}{gs:Array Goroutine}{t:Trace}{c:Frame}{cs:List Frame}{Pos:Type}{A:cS Pos}
def F1(out:Nat):Bool×Nat×Obj:=(true,out,.cells #[cN] 22 (0,0))
def wL(r0 r1:dI)(O m li out:Nat)(es:Array MapEntry)(c:Nat):Mem:=[cV r0,cV r1,mf O r0 r1,qo li O m,qp m es c,F1 out]
def wM(g:Nat)(r0 r1:dI)(es:Array MapEntry)(c:Nat):List Obj:=[cg hP 3,cg hP 3,cg #[.slice (some ⟨g,0,none⟩) 4 r0.c,.slice (some ⟨g+1,0,none⟩) 4 r1.c] 22,.cells #[sl (g+2) 2,cN,.map (some (g+4))] 169 (0,0),.map es c,.cells #[cN] 22 (0,0)]
def F3(y B:Nat)(c:y<B):lM (yr (A:=bc.list.toArray) y B c).stop (yr (A:=bc.list.toArray) y B c).next kW 2 8 [] none=(true,some [2,6]):=by kernel_rfl
def BX{ρ:Ren}{c d:Array Value}{e:TypeId}(h:bE ρ c d):ma (.cells c e (0,0))/\ev ρ (.cells c e (0,0)) (.cells d e (0,0))/\∀bo i f g j l,Obj.cells c e (0,0)=.cells bo i f->Obj.cells d e (0,0)=.cells g j l->bo.size<=g.size:=by refine⟨trivial,.cells (.inl h.1) h.2 (.inl rfl),λbo i f g j l o p=>?_⟩;cases o;cases p;exact Nat.le_of_eq h.1
def F5(g bu d:Nat):mN kW (mw g bu d) (g+3) (g+4) (g+5) (g+6):=by
 have f:∀i,i<2->(mw g bu d).nm i=g\/(mw g bu d).nm i=g+1:=λi c=>by
  rcases jc c with rfl|rfl
  .exact .inl rfl
  .exact .inr rfl
 have j:(mw g bu d).mb=g+2:=rfl;refine⟨by omega,by omega,by omega,by omega,λi c=>?_,by omega,by omega,λi c=>?_,by omega,by omega,by omega,λi c=>?_⟩<;>(rcases f i c with h|h<;>omega)
def F6{M:Mem}{r0 r1:dI}{O m li out r:Nat}{es:Array MapEntry}(J:ry es)(h:bD A aE aI u (M++wL r0 r1 O m li out es r))(ae:aF.globals.size<=aI.heap.size)(ah:Kept c)(W:b5 aF aE gs ⟨Frame.enter aF 49 #[pt li,.agg #[ad 0,ad 8],.func (.func 50) #[] #[pt out]] .normal,c::cs,.running,none,none⟩ u t 0)(k:∀bf ay a' p,bD A aE aI ay (M++[kg p,(true,out,.cells #[p.two] 22 (0,0))])->b5 aF aE bf ⟨c.finish (.bool true),cs,.running,none,none⟩ ay a' 0->∀sl,Ends aF bF (crowd bf ay sl) a'):∀sl,Ends aF bF (crowd gs u sl) t:=by
 have ap:∀x∈eI (wL r0 r1 O m li out es r) (wM bc.globals.size r0 r1 es r),x=(r0.b,cg hP 3,.cells (#[ad 2,ad 3,ad 5,ad 6]++r0.l) 3 (0,0))\/x=(r1.b,cg hP 3,.cells (#[ad 2,ad 3,ad 5,ad 6]++r1.l) 3 (0,0))\/x=(O,cg #[.slice (some ⟨bc.globals.size,0,none⟩) 4 r0.c,.slice (some ⟨bc.globals.size+1,0,none⟩) 4 r1.c] 22,.cells #[r0.four,r1.four] 22 (0,0))\/x=(li,.cells #[sl (bc.globals.size+2) 2,cN,.map (some (bc.globals.size+4))] 169 (0,0),.cells #[sl O 2,cN,.map (some m)] 169 (0,0))\/x=(m,.map es r,.map es r)\/x=(out,.cells #[cN] 22 (0,0),.cells #[cN] 22 (0,0)):=λx h=>by have D:x∈[(r0.b,cg hP 3,Obj.cells (#[ad 2,ad 3,ad 5,ad 6]++r0.l) 3 (0,0)),(r1.b,cg hP 3,.cells (#[ad 2,ad 3,ad 5,ad 6]++r1.l) 3 (0,0)),(O,cg #[.slice (some ⟨bc.globals.size,0,none⟩) 4 r0.c,.slice (some ⟨bc.globals.size+1,0,none⟩) 4 r1.c] 22,.cells #[r0.four,r1.four] 22 (0,0)),(li,.cells #[sl (bc.globals.size+2) 2,cN,.map (some (bc.globals.size+4))] 169 (0,0),.cells #[sl O 2,cN,.map (some m)] 169 (0,0)),(m,.map es r,.map es r),(out,.cells #[cN] 22 (0,0),.cells #[cN] 22 (0,0))]:=h;simpa only[List.mem_cons,PD,or_false]using D
 refine uq h.right ae (wM bc.globals.size r0 r1 es r) (λbj x D=>?_) (f:=49) (by rintro(h|h|h)<;>cases h) (by kernel_rfl)
  (a:=#[pt (bc.globals.size+3),.agg #[ad 0,ad 8],.func (.func 50) #[] #[pt (bc.globals.size+5)]]) (b:=#[pt li,.agg #[ad 0,ad 8],.func (.func 50) #[] #[pt out]]) (λbj=>vq (x5 (bj:=bj) 3 rfl) (Flat.rel (.agg (pb (.int _ _) (.int _ _)))) (.func (.func _ (by kernel_rfl)) rfl (λi x y D G=>by simp at D) rfl (xQ (R:=aM _) (x5 (bj:=bj) 5 rfl)).2))
  (R:=λv w=>v=.bool true/\∃v0,w.heap[bc.globals.size+5]?=some (.cells #[v0] 22 (0,0))/\w.ownsRow (bc.globals.size+6) 3 1 v0 2 [ad 2,ad 6]) (λw P=>?_) ah W ?_
 .rcases ap x D with rfl|rfl|rfl|rfl|rfl|rfl
  .exact uL rfl rfl _
  .exact uL rfl rfl _
  .exact mm rfl (pP (q4 (bj:=bj) 0 rfl 4 r0.c) (q4 (bj:=bj) 1 rfl 4 r1.c))
  .exact BX (vq (oy (bj:=bj) 2 rfl 2) (.jw _ _) (Br (bj:=bj) 4 rfl))
  .exact Bq J.flat r
  .exact BX (xQ (.jw _ _))
 .have b:∀(i:Nat) x,(eI (wL r0 r1 O m li out es r) (wM bc.globals.size r0 r1 es r))[i]?=some x->w.heap[bc.globals.size+i]?=some x.2.1:=λi x e=>by rw[P];exact kl e
  have ax:w.heap.size=bc.globals.size+6:=by rw[P,qA];rfl
  have ls:j2 w (bc.globals.size+3) (bc.globals.size+4) kW (mw bc.globals.size r0.c r1.c):=DV J (b 0 _ rfl) (b 1 _ rfl) (b 2 _ rfl) (b 4 _ rfl) (b 3 _ rfl);have V:g1 kW (mw bc.globals.size r0.c r1.c) (bc.globals.size+3) (bc.globals.size+4) (bc.globals.size+6) (.slice none 0 0) [] w:=
   ⟨b 3 _ rfl,ls.rows,ls.el,ls.mp,⟨rfl,.inl ⟨rfl,rfl⟩⟩,by omega⟩
  have G:bc.globals.size+5<bc.globals.size+6:=by omega
  have I:=Af (A:=bc.list.toArray) (yr (bc.globals.size+5) (bc.globals.size+6) G) kW (mw bc.globals.size r0.c r1.c) (bc.globals.size+3) (bc.globals.size+4) (F5 _ _ _) zZ 2 0 8 [] none (.slice none 0 0) w rfl (by omega) (by decide) V ⟨⟨.slice none 0 0,b 5 _ rfl,rfl⟩,by omega⟩;rw[F3]at I;refine Calls.mono I ?_;rintro e w' ⟨ar,rfl,_,⟨⟨v0,F,C⟩,_⟩,_⟩;refine⟨_,rfl,rfl,v0,F,?_⟩;rcases C with⟨C,_⟩|⟨C,_⟩
  .exact C
  .cases C
 intro bf ay a' ai v ar dc ⟨ao,v0,F,C⟩ am L ag Y calm low keep fresh S;subst ao;obtain rfl:=Flat.eq (.bool _) am;obtain⟨o,Q,z,B,al⟩:=L.obj _ _ (ag 5 _ rfl);have z:dc.heap[bc.globals.size+5]?=some o:=z;rw[F]at z;cases z;have B:ay.heap[out]?=some Q:=B;cases al with
 |@cells _ d _ _ q E U aa=>
  have ak:q=(0,0):=uF aa (Nat.succ_pos 0);have Z:d.size=1:=by
   rcases E with E|⟨_,E⟩
   .exact E.symm
   .rw[Y,Fe]at E
    exact absurd E (by simp)
  obtain⟨y,rfl⟩:∃y,d=#[y]:=⟨_,xP d Z⟩
  have G:aM ai v0 y:=U 0 _ _ rfl rfl;obtain⟨g,g',cap,l,af,aj,rfl,X⟩:=yd L C (by decide) (by decide) (dT (dT kj (.int _ _)) (.int _ _)) G;have K:=fresh g g' af (by show bc.globals.size+6<=g;exact aj);have H:=h.right;have aw:out<u.heap.size:=fB H.mem (n:=5) (own:=true) (b:=out) (o:=.cells #[cN] 22 (0,0)) rfl;refine k bf ay a' ⟨g',cap,l⟩ (h.swap calm (λb F D=>?_) ⟨λi own b o e=>?_,λi j own b o az au Q z B av=>?_⟩ (λi own b o e=>?_) low (λb _ h=>h)) S
  .refine keep b F λi x e aq=>?_
   subst aq;obtain⟨own,T,_⟩:=pg e;exact(D i own _ T).elim
  .rcases i with _|_|i
   .cases e;exact X
   .cases e;rw[B,ak];rfl
   .simp at e
  .rcases i with _|_|i<;>rcases j with _|_|j
   .omega
   .cases z;cases B;show g'≠out;omega
   .simp at B
   .cases z;cases B;show out≠g';omega
   .omega
   .simp at B
   .simp at z
   .simp at z
   .simp at z
  .rcases i with _|_|i
   .cases e;exact⟨.inl K.1,K.2⟩
   .cases e;exact⟨.inr ⟨5,true,_,rfl⟩,(H.eD 5 true out _ rfl).2⟩
   .simp at e
def LX{d:tm}(r:aF.globals.size<=aI.heap.size)(h:bD A aE aI u (vd d))(F:Kept c)(w:b5 aF aE gs ⟨Frame.enter aF 31 #[e8 d.z,sl d.L 2,ad 8] .normal,c::cs,.running,none,none⟩ u t 0)(k:∀dE bf ay a' p,(∀b,aE b->dE b)->(∀b,dE b->aE b\/aI.heap.size<=b)->bD A dE aI ay [cV d.s,eN d.x,eO d.y,kg p]->b5 aF dE bf ⟨c.finish p.oz,cs,.running,none,none⟩ ay a' 0->∀sl,Ends aF bF (crowd bf ay sl) a'):∀sl,Ends aF bF (crowd gs u sl) t:=by
 have f:∀p,mD.dA p<=400:=λ_=>Pk
 have bP:eB mD (c::cs) aE aI gs u t ⟨0,d,vd d⟩ (Frame.enter aF 31 #[e8 d.z,sl d.L 2,ad 8] .normal,[]) 12 400:=⟨⟨_,LQ d,rfl⟩,Pk,h.to,w⟩
 clear w;refine bP.new l8 f (.head _) λgs u t x b s1=>?_
 refine s1.bH l8 f (.head _) λgs u t x s2=>?_
 refine s2.fK l8 f (.head _) λgs u t c cs l g i back=>?_
 have J:bD mD aE aI u (([cV d.s,eN d.x,eO d.y]++(ho d.z++[(true,d.L,fZ)]))++[(true,b,.cells #[ad 2,sl d.z.F 2,sl d.z.R 2,sl d.z.Fr 1] 27 (0,0))]):=g.cast (by kernel_rfl);refine JJ (M:=[cV d.s,eN d.x,eO d.y]) (z:=d.z) (L:=d.L) J.left r l i λgs u t T o B j=>?_
 obtain⟨_,R⟩:=back aE gs u t T (o.cast rfl) j;clear back;refine R.fK l8 f (.head _) λgs u t c cs l g i back=>?_
 have D:=g.calm.size;refine Iv (A:=mD) (M:=[cV d.s,eN d.x,eO d.y]) (z:=d.z) (L:=d.L) (T:=T) (g.cast rfl) r B l i λq gs u t O r0 r1 G H o j=>?_
 have I:∀b,q b->aE b\/aI.heap.size<=b:=λb C=>(H b C).imp id λh=>Po D h
 obtain⟨_,S⟩:=back q gs u t (O,r0,r1) (o.cast rfl) j;clear back;refine S.new l8 f (.head _) λgs u t x m U=>?_
 refine U.new l8 f (.head _) λgs u t x li V=>?_
 refine V.fK l8 f (.head _) λgs u t c cs l g i back=>?_
 refine OI (A:=mD) (M:=[cV d.s,eN d.x,eO d.y]) (r0:=r0) (r1:=r1) (O:=O) (m:=m) (li:=li) (g.cast rfl) r l i λgs u t es P E o j=>?_
 obtain⟨_,W⟩:=back q gs u t (es,P) (o.cast rfl) j;clear back;refine W.new l8 f (.head _) λgs u t x out X=>?_
 refine X.fK l8 f (.head _) λgs u t c cs l g i back=>?_
 refine F6 (A:=mD) (M:=[cV d.s,eN d.x,eO d.y]) (r0:=r0) (r1:=r1) (O:=O) (m:=m) (li:=li) (out:=out) E (g.cast rfl) r l i λgs u t p o j=>?_
 obtain⟨_,Y⟩:=back q gs u t p (o.cast rfl) j;clear back;refine Y.bH l8 f (.head _) λgs u t x Q=>?_
 refine Q.leave l8 F (.head _) λgs u t Z a=>?_
 have K:bD A q aI u ([cV d.s,eN d.x,eO d.y,kg p]++[(true,out,.cells #[p.two] 22 (0,0))]):=Z.cast (by kernel_rfl);exact k q gs u t p G I K.left a
def KQ{base:List Frame}{kd:CallKind}{f:Nat->Value}(w:kd=.normal\/kd=.deferred)(r:aF.globals.size<=aI.heap.size){s:dI}{x y:Nat}(E:bD (e7 kd) aE aI u [cV s,eN x,eO y])(q:b5 aF aE gs (bQ (dQ kd 6 f) base) u t 0)(k:∀dE gs u t z L p,(∀b,aE b->dE b)->(∀b,dE b->aE b\/aI.heap.size<=b)->bD (e7 kd) dE aI u [cV s,eN x,eO y,kg p]->b5 aF dE gs (bQ (dQ kd 7 (up (up (up (up (up (up f [(49,e8 z)]) [(50,.agg c8)]) [(51,.agg c8)]) [(52,sl L 2)]) [(53,p.oz)]) [(48,p.oz),(54,p.two),(55,ad 0),(13,p.two),(14,ad 0)])) base) u t 0->∀sl,Ends aF bF (crowd gs u sl) t):∀sl,Ends aF bF (crowd gs u sl) t:=by
 have bP:eB (e7 kd) base aE aI gs u t ⟨6,0,f,{jm with s:=s,x:=x,y:=y},[cV s,eN x,eO y]⟩ (dQ kd 6 f) 11 400:=⟨⟨_,Kc kd w f {jm with s:=s,x:=x,y:=y},rfl⟩,by decide,E,q⟩
 refine bP.fK (fN kd) (hl kd) (.head _) λgs u t c cs j g h back=>?_
 refine pN j g.dD h λgs u t z m i=>?_
 obtain⟨_,s1⟩:=back aE gs u t z (g.lq m.to) i;refine s1.fK (fN kd) (hl kd) (.head _) λgs u t c cs j g h back=>?_
 refine sR j g.dD h λgs u t m i=>?_
 obtain⟨_,s2⟩:=back aE gs u t () (g.on m.to) i;refine s2.fK (fN kd) (hl kd) (.head _) λgs u t c cs j g h back=>?_
 refine sR j g.dD h λgs u t m i=>?_
 obtain⟨_,B⟩:=back aE gs u t () (g.on m.to) i;refine B.new (fN kd) (hl kd) (.head _) λgs u t _ L C=>?_
 refine C.fK (fN kd) (hl kd) (.head _) λgs u t c cs j g h back=>?_
 refine LX (d:=⟨z,s,x,y,L,0,0,⟨0,0,#[]⟩,⟨0,0,#[]⟩,0,#[],0,0,0,⟨0,0,#[]⟩⟩) r (g.cast (jd:=e7 kd) rfl) j h λdE gs u t p l o F i=>?_
 obtain⟨_,D⟩:=back dE gs u t p (F.cast rfl) i;exact D.iu (fN kd) (.head _) (k dE · · · z L p l o)
end
section
section
variable{Pos:Type}{A:cS Pos}{u aI:World}{t:Trace}{gs:Array Goroutine}{x:bs}{n j:Nat}{p:Pos}{bF:Machine->Outcome->World->Trace->Prop}{base:List Frame}{aE:Nat->Prop}
def eB.ord(T:dk A.P A.ext)(q:∀p,A.dA p<=400)(h:eB A base aE aI gs u t p x (n+1) j){f:FuncId}{id:Nat}{ops:Array Oper}{L:List (List Nat)}{d:List Nat->Pos}(he:Edge.ord f id ops L d∈A.cq p)(k:∀gs u t x l,l∈L->eB A base aE aI gs u t (d l) x n (A.dA (d l))->∀sl,Ends A.P bF (crowd gs u sl) t):∀sl,Ends A.P bF (crowd gs u sl) t:=by
 refine h.quiet T λgs u t x a C g D o=>?_
 obtain rfl:n=a:=by omega
 refine g.step λc=>?_
 obtain⟨l,y,r,w,hm,z⟩:=o.ord T he (u.at c);refine⟨bQ y base,u.at (c+1),#[],z true base .running none,rfl,Pk,(λe he=>by simp at he),λbf a' B i=>?_⟩;exact k bf (u.at (c+1)) a' y l r ⟨w,q _,by rw[hm];exact C.at _,i⟩ B
def bD.Kf{M:Mem}(h:bD A aE aI u M)(i j:Nat)(p:i≠j){x y:Bool×Nat×Obj}(f:M[i]?=some x)(g:M[j]?=some y):bD A aE aI u [x,y]:=by
 refine h.sub (λk own b o e=>?_) (λk l own b o z q w c d r=>?_)
 .rcases k with _|_|k
  .cases e;exact⟨i,_,f⟩
  .cases e;exact⟨j,_,g⟩
  .simp at e
 .rcases k with _|_|k<;>rcases l with _|_|l
  .omega
  .cases c;cases d;exact h.mem.eV i j _ _ _ _ _ _ f g p
  .simp at d
  .cases c;cases d;exact h.mem.eV j i _ _ _ _ _ _ g f p.symm
  .omega
  .simp at d
  .simp at c
  .simp at c
  .simp at c
end
variable{bF:Machine->Outcome->World->Trace->Prop}{aE:Nat->Prop}{aI u ay:World}{gs:Array Goroutine}{t:Trace}{c bu:Frame}{cs base rest:List Frame}{Pos:Type}{A:cS Pos}{kd:CallKind}
structure vJ where
 l:Nat
 M:Mem
def EG(a b:Int):vJ->List (Edge vJ)
 |⟨0,M⟩=>[.new true mL λb=>⟨1,M++[(true,b,mL)]⟩]
 |⟨1,M⟩=>[.bH [.st 0 0 (ad a),.st 0 1 (ad b)] ⟨2,cK M [.st 0 0 (ad a),.st 0 1 (ad b)]⟩]
 |⟨2,_⟩=>[.jP [.ld 0 0,.ld 0 1] (.agg #[ad a,ad b])]
 |_=>[]
noncomputable def qg(a b:Int):cS vJ:=⟨Tryz.prog,gn,λ_=>false,.normal,λp=>p.M,λ_=>400,EG a b⟩
def y7(a b:Int):dk (qg a b).P (qg a b).ext:=by unfold qg;exact iQ
def EH(a b:Int):Good (qg a b) 6 ⟨0,[]⟩ (Frame.enter Tryz.prog 8 #[ad a,ad b] .normal,[]):=by all_goals repeat' (first|exact trivial|kernel_rfl|refine⟨?_,?_⟩|refine λ(_:Nat)=>?_|intro _)
def tB(a b:Int)(h:Kept c)(i:∀b,aE b->b<u.heap.size)(g:b5 aF aE gs ⟨Frame.enter aF 8 #[ad a,ad b] .normal,c::cs,.running,none,none⟩ u t 0)(k:∀bf ay a',bD A aE u ay []->b5 aF aE bf ⟨c.finish (.agg #[ad a,ad b]),cs,.running,none,none⟩ ay a' 0->∀sl,Ends aF bF (crowd bf ay sl) a'):∀sl,Ends aF bF (crowd gs u sl) t:=by
 have d:∀p,(qg a b).dA p<=400:=λ_=>Pk
 have bP:eB (qg a b) (c::cs) aE u gs u t ⟨0,[]⟩ (Frame.enter aF 8 #[ad a,ad b] .normal,[]) 6 400:=⟨⟨_,EH a b,rfl⟩,Pk,bD.start u i,g⟩
 refine bP.new (y7 a b) d (.head _) λq w t1 B o s1=>?_
 refine s1.bH (y7 a b) d (.head _) λr z t2 C s2=>?_
 refine s2.jP (y7 a b) h (.head _) λf l t9 j a9=>?_
 exact k f l t9 j.none a9
def HE{M:Mem}(h:bD A aE aI u M)(D:aF.globals.size<=aI.heap.size)(V:List Obj)(G:∀bj:hJ bc.globals.size (eI M V),vT (gj bc (eI M V) bj) (eI M V))(E:nG (eI M V)){f:FuncId}(C:¬bc.K.fn f)(p:dX bc f=none){a b:Array Value}(l:∀bj:hJ bc.globals.size (eI M V),bE (gj bc (eI M V) bj) a b){r:Value}(H:Flat r)(B:∀w:World,w.heap=(gU bc.globals.size (eI M V)).heap->Calls bc f a w λe _=>e=.returned r)(F:Kept c)(q:b5 aF aE gs ⟨Frame.enter aF f b .normal,c::cs,.running,none,none⟩ u t 0)(k:∀bf ay a',bD A aE u ay []->b5 aF aE bf ⟨c.finish r,cs,.running,none,none⟩ ay a' 0->∀sl,Ends aF bF (crowd bf ay sl) a'):∀sl,Ends aF bF (crowd gs u sl) t:=by refine uq h D V G C p l (R:=λv _=>v=r) (λw J=>(B w J).mono λe w' he=>⟨_,he,rfl⟩) F q ?_;intro bf ay a' ai v U dc g I P Q L calm low keep fresh d;subst g;obtain rfl:=H.eq I;exact k bf ay a' ⟨⟨λi own b o e=>by simp at e,λi j own b o T K S e=>by simp at e⟩,λb z=>keep b z λi x e _=>E x (Py e),calm,λi own b o e=>by simp at e,low⟩ d
def KY{ρ:Ren}(he:ρ.exact=false)(w:ρ.cells=nc bc){e:TypeId}(u:e=3\/e=59)(xs:List Value)(B:∀v∈xs,Flat v)(hlen:xs.length<18446744073709551616)(l:Array Value):
 ma (cg xs.toArray e)/\ev ρ (cg xs.toArray e) (.cells (xs.toArray++l) e (0,0))/\∀bo g f d j o,cg xs.toArray e=.cells bo g f->Obj.cells (xs.toArray++l) e (0,0)=.cells d j o->bo.size<=d.size:=by
 refine⟨trivial,.cells ?_ (λi x y c p=>?_) (.inr ⟨he,rfl,Pk,Nat.zero_le _⟩),λbo g f d j o q r=>?_⟩
 .rcases Nat.eq_zero_or_pos l.size with h|h
  .exact .inl (by simp[h])
  .refine .inr ⟨by simp;omega,?_⟩
   rw[w];refine Px ?_ (Nat.le_max_right _ _);rw[if_pos u];simpa using hlen
 .have z:i<xs.toArray.size:=bp c
  rw[Array.getElem?_append_left z]at p;have:x=y:=Pm (c.symm.trans p);subst this;rw[List.getElem?_toArray]at c;exact(B x (Py c)).rel
 .cases q
  cases r;simp
def xu{e:TypeId}{f:FuncId}{n g b cap:Nat}(p:e=3\/e=59){l:Array Value}(xs:List Value)(d:∀v∈xs,Flat v)(hlen:xs.length<18446744073709551616)(h:bD A aE aI u [(true,g,.cells (xs.toArray++l) e (0,0)),(true,b,.cells xs.toArray e (0,0))])(C:aF.globals.size<=aI.heap.size)(B:¬bc.K.fn f)(q:dX bc f=none)(z:∀w:World,∀i j,w.heap[i]?=some (cg xs.toArray e)->w.heap[j]?=some (cg xs.toArray e)->Calls bc f #[.slice (some ⟨i,0,none⟩) n cap,.slice (some ⟨j,0,none⟩) n n] w λe _=>e=.returned (.bool true))(D:Kept c)(r:b5 aF aE gs ⟨Frame.enter aF f #[.slice (some ⟨g,0,none⟩) n cap,sl b n] .normal,c::cs,.running,none,none⟩ u t 0)(k:∀bf ay a',bD A aE u ay []->b5 aF aE bf ⟨c.finish (.bool true),cs,.running,none,none⟩ ay a' 0->∀sl,Ends aF bF (crowd bf ay sl) a'):∀sl,Ends aF bF (crowd gs u sl) t:=by
 have o:∀x∈eI [(true,g,.cells (xs.toArray++l) e (0,0)),(true,b,.cells xs.toArray e (0,0))] [cg xs.toArray e,cg xs.toArray e],x=(g,cg xs.toArray e,.cells (xs.toArray++l) e (0,0))\/x=(b,cg xs.toArray e,.cells xs.toArray e (0,0)):=λx d=>by have d:x∈[(g,cg xs.toArray e,Obj.cells (xs.toArray++l) e (0,0)),(b,cg xs.toArray e,.cells xs.toArray e (0,0))]:=d;simpa only[List.mem_cons,PD,or_false]using d
 refine HE h C [cg xs.toArray e,cg xs.toArray e] (λbj x hm=>?_) (λx hm=>?_) B q (a:=#[.slice (some ⟨bc.globals.size,0,none⟩) n cap,.slice (some ⟨bc.globals.size+1,0,none⟩) n n]) (λbj=>pP (q4 (bj:=bj) 0 rfl n cap) (q4 (bj:=bj) 1 rfl n n)) (.bool true) (λw E=>?_) D r k
 .rcases o x hm with rfl|rfl
  .exact KY rfl rfl p xs d hlen l
  .exact mm rfl (AD d)
 .rcases o x hm with rfl|rfl
  .exact⟨_,_,rfl⟩
  .exact⟨_,_,rfl⟩
 .have b:∀(i:Nat) x,(eI [(true,g,.cells (xs.toArray++l) e (0,0)),(true,b,.cells xs.toArray e (0,0))] [cg xs.toArray e,cg xs.toArray e])[i]?=some x->w.heap[bc.globals.size+i]?=some x.2.1:=λi x e=>by rw[E];exact kl e
  exact z w _ _ (b 0 _ rfl) (b 1 _ rfl)
def xy{d:ea}{x:Bool×Nat×Obj}(h:bD A aE aI u (dB d++[x]))(i:Nat)(c:i<5){y:Bool×Nat×Obj}(f:(dB d)[i]?=some y):bD A aE aI u [y,x]:=
 h.Kf i 5 (by omega) (by rw[PF (by exact c)];exact f) rfl
def MZ(q:kd=.normal\/kd=.deferred){h:Nat->Value}{d:ea}{T a:List Nat}(o:a∈[[31,32],[32,31]])(g:bD (t8 kd) aE aI u (dB d))(p:b5 aF aE gs (bQ (fx kd ([0,1,2,3,4,5,6,7,8,9,10,11,12,13,14,15,16,17,18,19,20,21,22,23,24,25,26,27,28,29,30]++(a++([33,34,35]++T))) (hN h d)) base) u t 0)(k:∀gs u t,bD (t8 kd) aE aI u (dB d)->b5 aF aE gs (bQ (fx kd T (ko (hN h d) d)) base) u t 0->∀sl,Ends aF bF (crowd gs u sl) t):∀sl,Ends aF bF (crowd gs u sl) t:=by
 simp only[List.mem_cons,PD,or_false]at o;rcases o with rfl|rfl
 .have bP:eB (t8 kd) base aE aI gs u t ⟨10,h,d,T,0,dB d⟩ _ 6 400:=⟨⟨_,K3 kd q h d T,rfl⟩,by decide,g,p⟩
  refine bP.bH (hI kd) (jK kd) (.head _) λgs u t x s1=>?_
  refine s1.fK (hI kd) (jK kd) (.head _) λgs u t c cs l f i back=>?_
  refine tB (A:=t8 kd) 24 26 l f.dD i λgs u t m j=>?_
  obtain⟨_,s2⟩:=back aE gs u t () ((f.cast (bR:=dB d) (by kernel_rfl)).on m) j;exact s2.iu (hI kd) (.head _) k
 .have bP:eB (t8 kd) base aE aI gs u t ⟨12,h,d,T,0,dB d⟩ _ 6 400:=⟨⟨_,K4 kd q h d T,rfl⟩,by decide,g,p⟩
  refine bP.fK (hI kd) (jK kd) (.head _) λgs u t c cs l f i back=>?_
  refine tB (A:=t8 kd) 24 26 l f.dD i λgs u t m j=>?_
  obtain⟨_,s1⟩:=back aE gs u t () (bD.on (A:=t8 kd) f m) j;refine s1.bH (hI kd) (jK kd) (.head _) λgs u t x s2=>?_
  exact s2.iu (hI kd) (.head _) λgs u t g a=>k gs u t (g.cast (by kernel_rfl)) a
def M0(q:kd=.normal\/kd=.deferred){h:Nat->Value}{d:ea}{T a:List Nat}(o:a∈[[36,37],[37,36]])(g:bD (t8 kd) aE aI u (dB d))(p:b5 aF aE gs (bQ (fx kd (a++([38,39,40,41,42,43,44,45,46,47,48,49,50,51,52]++T)) (jN h d)) base) u t 0)(k:∀gs u t,bD (t8 kd) aE aI u (dB d)->b5 aF aE gs (bQ (fx kd T (lU (jN h d) d)) base) u t 0->∀sl,Ends aF bF (crowd gs u sl) t):∀sl,Ends aF bF (crowd gs u sl) t:=by
 simp only[List.mem_cons,PD,or_false]at o;rcases o with rfl|rfl
 .have bP:eB (t8 kd) base aE aI gs u t ⟨20,h,d,T,0,dB d⟩ _ 6 400:=⟨⟨_,K5 kd q h d T,rfl⟩,by decide,g,p⟩
  refine bP.bH (hI kd) (jK kd) (.head _) λgs u t x s1=>?_
  refine s1.fK (hI kd) (jK kd) (.head _) λgs u t c cs l f i back=>?_
  refine tB (A:=t8 kd) 48 50 l f.dD i λgs u t m j=>?_
  obtain⟨_,s2⟩:=back aE gs u t () ((f.cast (bR:=dB d) (by kernel_rfl)).on m) j;exact s2.iu (hI kd) (.head _) k
 .have bP:eB (t8 kd) base aE aI gs u t ⟨22,h,d,T,0,dB d⟩ _ 6 400:=⟨⟨_,K6 kd q h d T,rfl⟩,by decide,g,p⟩
  refine bP.fK (hI kd) (jK kd) (.head _) λgs u t c cs l f i back=>?_
  refine tB (A:=t8 kd) 48 50 l f.dD i λgs u t m j=>?_
  obtain⟨_,s1⟩:=back aE gs u t () (bD.on (A:=t8 kd) f m) j;refine s1.bH (hI kd) (jK kd) (.head _) λgs u t x s2=>?_
  exact s2.iu (hI kd) (.head _) λgs u t g a=>k gs u t (g.cast (by kernel_rfl)) a
def Jr(w:World)(i j cap:Nat)(c:w.heap[i]?=some (cg #[ad 2,ad 3,ad 5,ad 6] 3))(d:w.heap[j]?=some (cg #[ad 2,ad 3,ad 5,ad 6] 3)):Calls bc 33 #[.slice (some ⟨i,0,none⟩) 4 cap,.slice (some ⟨j,0,none⟩) 4 4] w λe _=>e=.returned (.bool true):=
 (Bh (A:=bc.list.toArray) i 0 j 0 4 cap 4 (by omega) qK w (uK c) (uK d)).mono λ_ _ h=>h.1
def BG(j:Nat):Int:=match j with|0=>2|_=>6
def BH{w:World}{b:Nat}(h:w.heap[b]?=some (cg #[ad 2,ad 6] 3)):iD w b 0 2 BG:=by intro k c;have:=aT (o:=0+k) h;rcases jc c with rfl|rfl<;>exact this
def Jq(w:World)(i j cap:Nat)(c:w.heap[i]?=some (cg #[ad 2,ad 6] 3))(d:w.heap[j]?=some (cg #[ad 2,ad 6] 3)):Calls bc 33 #[.slice (some ⟨i,0,none⟩) 2 cap,.slice (some ⟨j,0,none⟩) 2 2] w λe _=>e=.returned (.bool true):=
 (Bh (A:=bc.list.toArray) i 0 j 0 2 cap 2 (by omega) BG w (BH c) (BH d)).mono λ_ _ h=>h.1
def Dz(j:Nat):Int:=match j with|0=>20|_=>48
def DC(j:Nat):Int:=match j with|0=>46|_=>60
def DD{w:World}{b:Nat}(h:w.heap[b]?=some (cg #[ad 20,ad 46,ad 48,ad 60] 59)):qc w b 0 2 Dz DC:=by
 refine⟨λk c=>?_,λk c=>?_⟩
 .have:=aT (o:=0+k*2) h
  rcases jc c with rfl|rfl<;>exact this
 .have:=aT (o:=0+k*2+1) h
  rcases jc c with rfl|rfl<;>exact this
def NM(w:World)(i j cap:Nat)(c:w.heap[i]?=some (cg #[ad 20,ad 46,ad 48,ad 60] 59))(d:w.heap[j]?=some (cg #[ad 20,ad 46,ad 48,ad 60] 59)):Calls bc 34 #[.slice (some ⟨i,0,none⟩) 2 cap,.slice (some ⟨j,0,none⟩) 2 2] w λe _=>e=.returned (.bool true):=
 (It (A:=bc.list.toArray) i 0 j 0 2 cap 2 (by omega) Dz DC w (DD c) (DD d)).mono λ_ _ h=>h.1
def Hv:∀v∈[ad 2,ad 6],Flat v:=dT (dT kj (.int _ _)) (.int _ _)
def Hw:∀v∈[ad 2,ad 3,ad 5,ad 6],Flat v:=dT (dT (dT (dT kj (.int _ _)) (.int _ _)) (.int _ _)) (.int _ _)
def Hx:∀v∈[ad 20,ad 46,ad 48,ad 60],Flat v:=dT (dT (dT (dT kj (.int _ _)) (.int _ _)) (.int _ _)) (.int _ _)
def M1(q:kd=.normal\/kd=.deferred)(F:aF.globals.size<=aI.heap.size){h:Nat->Value}{d:ea}{T a:List Nat}(o:a∈[[53,54],[54,53]])(r:bD (t8 kd) aE aI u (dB d))(p:b5 aF aE gs (bQ (fx kd (a++([55,56,57]++T)) (k6 h d)) base) u t 0)(k:∀gs u t b,bD (t8 kd) aE aI u (dB d)->b5 aF aE gs (bQ (fx kd T (om (k6 h d) d b)) base) u t 0->∀sl,Ends aF bF (crowd gs u sl) t):∀sl,Ends aF bF (crowd gs u sl) t:=by
 obtain⟨x,bP⟩:∃x,eB (t8 kd) base aE aI gs u t ⟨30,h,d,T,0,dB d⟩ x 6 400:=by
  simp only[List.mem_cons,PD,or_false]at o;rcases o with rfl|rfl
  .exact⟨_,⟨_,K7 kd q h d T,rfl⟩,by decide,r,p⟩
  .exact⟨_,⟨_,K8 kd q h d T,rfl⟩,by decide,r,p⟩
 refine bP.new (hI kd) (jK kd) (.head _) λgs u t x b s1=>?_
 refine s1.fK (hI kd) (jK kd) (.head _) λgs u t c cs E g z back=>?_
 have g:bD (t8 kd) aE aI u (dB d++[B6 b]):=g;refine xu (A:=t8 kd) (.inl rfl) (l:=d.s.l) [ad 2,ad 3,ad 5,ad 6] Hw (by decide) (xy g 0 (by omega) rfl) F (f:=33) (by rintro(h|h|h)<;>cases h) (by kernel_rfl) (λw i j C D=>Jr w i j d.s.c C D) E z λgs u t m B=>?_
 obtain⟨_,s2⟩:=back aE gs u t () (g.left.on m) B;exact s2.iu (hI kd) (.head _) (k · · · b)
def M3(q:kd=.normal\/kd=.deferred)(F:aF.globals.size<=aI.heap.size){h:Nat->Value}{d:ea}{T a:List Nat}(o:a∈[[58,59],[59,58]])(r:bD (t8 kd) aE aI u (dB d))(p:b5 aF aE gs (bQ (fx kd (a++([60,61,62]++T)) (m9 h d)) base) u t 0)(k:∀gs u t b,bD (t8 kd) aE aI u (dB d)->b5 aF aE gs (bQ (fx kd T (sA (m9 h d) d b)) base) u t 0->∀sl,Ends aF bF (crowd gs u sl) t):∀sl,Ends aF bF (crowd gs u sl) t:=by
 obtain⟨x,bP⟩:∃x,eB (t8 kd) base aE aI gs u t ⟨40,h,d,T,0,dB d⟩ x 6 400:=by
  simp only[List.mem_cons,PD,or_false]at o;rcases o with rfl|rfl
  .exact⟨_,⟨_,K9 kd q h d T,rfl⟩,by decide,r,p⟩
  .exact⟨_,⟨_,K' kd q h d T,rfl⟩,by decide,r,p⟩
 refine bP.new (hI kd) (jK kd) (.head _) λgs u t x b s1=>?_
 refine s1.fK (hI kd) (jK kd) (.head _) λgs u t c cs E g z back=>?_
 have g:bD (t8 kd) aE aI u (dB d++[B5 b]):=g;refine xu (A:=t8 kd) (.inl rfl) (l:=d.p.l) [ad 2,ad 6] Hv (by decide) (xy g 3 (by omega) rfl) F (f:=33) (by rintro(h|h|h)<;>cases h) (by kernel_rfl) (λw i j C D=>Jq w i j d.p.c C D) E z λgs u t m B=>?_
 obtain⟨_,s2⟩:=back aE gs u t () (g.left.on m) B;exact s2.iu (hI kd) (.head _) (k · · · b)
def M4(o:kd=.normal\/kd=.deferred)(G:Kept bu)(F:aF.globals.size<=aI.heap.size){h:Nat->Value}{d:ea}{a:List Nat}(r:a∈[[63,64,65,66],[63,65,64,66],[64,63,65,66],[64,65,63,66],[64,65,66,63],[65,63,64,66],[65,64,63,66],[65,64,66,63]])(p:bD (t8 kd) aE aI u (dB d))(g:b5 aF aE gs (bQ (fx kd (a++[67,68,69]) (mq h d)) (bu::rest)) u t 0)(k:∀gs u t,bD (t8 kd) aE aI u (dB d)->b5 aF aE gs ⟨er kd bu (.bool true),rest,.running,none,none⟩ u t 0->∀sl,Ends aF bF (crowd gs u sl) t):∀sl,Ends aF bF (crowd gs u sl) t:=by
 obtain⟨x,bP⟩:∃x,eB (t8 kd) (bu::rest) aE aI gs u t ⟨50,h,d,[],0,dB d⟩ x 6 400:=by
  simp only[List.mem_cons,PD,or_false]at r;rcases r with rfl|rfl|rfl|rfl|rfl|rfl|rfl|rfl
  .exact⟨_,⟨_,La kd o h d,rfl⟩,by decide,p,g⟩
  .exact⟨_,⟨_,Lb kd o h d,rfl⟩,by decide,p,g⟩
  .exact⟨_,⟨_,Lc kd o h d,rfl⟩,by decide,p,g⟩
  .exact⟨_,⟨_,Ld kd o h d,rfl⟩,by decide,p,g⟩
  .exact⟨_,⟨_,Le kd o h d,rfl⟩,by decide,p,g⟩
  .exact⟨_,⟨_,Lf kd o h d,rfl⟩,by decide,p,g⟩
  .exact⟨_,⟨_,Lg kd o h d,rfl⟩,by decide,p,g⟩
  .exact⟨_,⟨_,Lh kd o h d,rfl⟩,by decide,p,g⟩
 refine bP.new (hI kd) (jK kd) (.head _) λgs u t x b s1=>?_
 refine s1.fK (hI kd) (jK kd) (.head _) λgs u t c cs E q z back=>?_
 have q:bD (t8 kd) aE aI u (dB d++[B7 b]):=q;refine xu (A:=t8 kd) (.inr rfl) (l:=d.q.l) [ad 20,ad 46,ad 48,ad 60] Hx (by decide) (xy q 4 (by omega) rfl) F (f:=34) (by rintro(h|h|h)<;>cases h) (by kernel_rfl) (λw i j C D=>NM w i j d.q.c C D) E z λgs u t m B=>?_
 obtain⟨_,s2⟩:=back aE gs u t () (q.left.on m) B;exact s2.leave (hI kd) G (.head _) k
end
section
variable{bF:Machine->Outcome->World->Trace->Prop}{aE:Nat->Prop}{aI u w:World}{gs:Array Goroutine}{t:Trace}{bu:Frame}{rest:List Frame}{kd:CallKind}
def uV{T:List Nat}{base:List Frame}{f g:Nat->Value}(e:jl f=jl g)(a:b5 aF aE gs (bQ (fx kd T f) base) u t 0):b5 aF aE gs (bQ (fx kd T g) base) u t 0:=by unfold fx at a ⊢;rw[<-e];exact a
def KI{b:Nat}{base:List Frame}{f g:Nat->Value}(e:jl f=jl g)(a:b5 aF aE gs (bQ (dQ kd b f) base) u t 0):b5 aF aE gs (bQ (dQ kd b g) base) u t 0:=by unfold dQ at a ⊢;rw[<-e];exact a
def KS(f:kd=.normal\/kd=.deferred)(E:Kept bu)(i:aF.globals.size<=aI.heap.size){h:Nat->Value}{d:ea}(c:bD (t8 kd) aE aI u (dB d))(D:b5 aF aE gs (bQ (dQ kd 8 (hN h d)) (bu::rest)) u t 0)(k:∀gs u t,bD (t8 kd) aE aI u (dB d)->b5 aF aE gs ⟨er kd bu (.bool true),rest,.running,none,none⟩ u t 0->∀sl,Ends aF bF (crowd gs u sl) t):∀sl,Ends aF bF (crowd gs u sl) t:=by
 have bP:eB (t8 kd) (bu::rest) aE aI gs u t ⟨0,h,d,[],0,dB d⟩ (dQ kd 8 (hN h d)) 4 400:=⟨⟨_,K2 kd f h d,rfl⟩,Pk,c,D⟩
 refine bP.ord (hI kd) (jK kd) (.head _) λgs u t x l F s1=>?_
 refine s1.iu (hI kd) (.head _) λgs u t c a=>?_
 obtain⟨G,r,H,w,I,z,J,B,K,C,rfl⟩:=JS F;refine MZ f r c a λgs u t c a=>?_
 have j:jl (ko (hN h d) d)=jl (jN (ko (hN h d) d) d):=by kernel_rfl
 refine M0 f w c (h:=ko (hN h d) d) (uV j a) λgs u t c a=>?_
 have o:jl (lU (jN (ko (hN h d) d) d) d)=jl (k6 (lU (jN (ko (hN h d) d) d) d) d):=by kernel_rfl
 refine M1 f i z c (h:=lU (jN (ko (hN h d) d) d) d) (uV o a) λgs u t b c a=>?_
 have p:jl (om (k6 (lU (jN (ko (hN h d) d) d) d) d) d b)=jl (m9 (om (k6 (lU (jN (ko (hN h d) d) d) d) d) d b) d):=by kernel_rfl
 refine M3 f i B c (h:=om (k6 (lU (jN (ko (hN h d) d) d) d) d) d b) (uV p a) λgs u t g c a=>?_
 have q:jl (sA (m9 (om (k6 (lU (jN (ko (hN h d) d) d) d) d) d b) d) d g)=jl (mq (sA (m9 (om (k6 (lU (jN (ko (hN h d) d) d) d) d) d b) d) d g) d):=by kernel_rfl
 refine M4 f E i C c (h:=sA (m9 (om (k6 (lU (jN (ko (hN h d) d) d) d) d) d b) d) d g) (uV q a) k
def J2(g:kd=.normal\/kd=.deferred)(C:Kept bu)(i:aF.globals.size<=w.heap.size)(D:∀b,aE b->b<w.heap.size)(j:b5 aF aE gs ⟨Frame.enter aF 14 #[] kd,bu::rest,.running,none,none⟩ w t 0)(k:∀dE gs u t,(∀b,aE b->dE b)->(∀b,dE b->aE b\/w.heap.size<=b)->(∀b,dE b->b<u.heap.size)->(∀b,b<w.heap.size->u.heap[b]?=w.heap[b]?)->Calm w u->b5 aF dE gs ⟨er kd bu (.bool true),rest,.running,none,none⟩ u t 0->∀sl,Ends aF bF (crowd gs u sl) t):∀sl,Ends aF bF (crowd gs w sl) t:=by
 have o:(⟨Frame.enter aF 14 #[] kd,bu::rest,.running,none,none⟩:Goroutine)=bQ (dQ kd 0 λ_=>undef) (bu::rest):=by
  have:(Frame.enter aF 14 #[] kd)=(dQ kd 0 λ_=>undef).1:=by rcases g with rfl|rfl<;>kernel_rfl
  rw[this];rfl
 rw[o]at j;refine KJ g (bD.start w D) j λgs u t c a=>?_
 refine KL g i c a λgs u t E c a=>?_
 refine KM g i c a λgs u t F s c a=>?_
 refine KN g i c a λgs u t z3 x y c a=>?_
 refine KO g i c a λgs u t z4 c a=>?_
 refine KP g i c a λgs u t z5 c a=>?_
 refine KQ g i c a λdE gs u t G L p r z c a=>?_
 refine KR g i c a λgs u t l q c a=>?_
 generalize B:up _ _=f at a;have e:jl f=jl (hN f ⟨l,s,x,y,L,p,q⟩):=by rw[<-B];kernel_rfl
 exact KS g C i (d:=⟨l,s,x,y,L,p,q⟩) (h:=f) c.to (KI e a) λgs u t c a=>k dE gs u t r z c.dD c.old c.calm a
end
end Go.aN
