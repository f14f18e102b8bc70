/- A part; no conditions. -/
import Derived.Test.YtkifbmfagkjikaaGreatDoorP13
import Derived.Conc.CrowdComm
set_option maxHeartbeats 8000000
set_option maxRecDepth 100000
set_option linter.all false
namespace Go.aO
attribute [-simp] Go.Sem.runT_eq
open Go.Proofs Go.Conc Go.ConcN
variable{fH wk:Bool}{f:Goroutine->Goroutine}{M:Mem}{p x y:MemOp}{cap j m s:Nat}{c:fR}
section
variable{X:et}{Z:Stat}[hi X Z]{G aB:bX}{u aC w:World}{t bh v:Trace}{k:Bool}{B:Nat}
def qC(B:Nat)(v:Trace):Prop:=∀op∈v,op.act.touch?=none/\op.act≠.mark .disable/\op.act≠.mark .enable/\op.act.low B
def ra{M:Trace->Prop}(g:M t)(c:∀(s:Trace) (y:MemOp),y∈v->t.size<=s.size->M s->M (s++#[y])):M (t++v):=by
 obtain⟨l⟩:=v;have key:∀(l:List MemOp) (s:Trace),t.size<=s.size->M s->(∀y∈l,∀s:Trace,t.size<=s.size->M s->M (s++#[y]))->M (s++l.toArray):=by
  intro l;induction l with
  |nil=>intro s _ h _;simpa using h
  |cons a l i=>
   intro s f h c;have e:s++(a::l).toArray=(s++#[a])++l.toArray:=by apply Array.ext';simp
   rw[e];exact i _ cH (c a aF s f h) λy d=>c y (by simp[d])
 exact key l t bg g λy d s f h=>c s y (by simpa using d) f h
def oI(c:qC B v)(g:Nat):Deaf (t++v) g=Deaf t g:=by
 refine ra (M:=λs=>Deaf s g=Deaf t g) rfl λs y d _ h=>?_
 rw[Deaf_push];unfold deafStep;have:=c y d;split
 .rename_i e;exact absurd e this.2.1
 .rename_i e;exact absurd e this.2.2.1
 .exact h
def e5.D6(h:e5 Z G t B)(c:qC B v)(U:fp (pl Z aB) t (eX Z aB) B)(T:∀g,hy Z aB g->Started (pl Z aB) (t++v) g)(H:∀g,hy Z G g->hy Z aB g)(n:∀a:eF,a.deaf aB=a.deaf G)(Q:∀k,(aB.s k).eC=true->(G.s k).eC=true)(R:∀k,(aB.s k).da=true->(G.s k).da=true\/Told (pl Z aB) (· = Z.W) (t++v) (Z.wk k))(S:aB.k.shut=true->G.k.shut=true)(P:aB.k.said=false->G.k.said=false):e5 Z aB (t++v) B:=by
 have hu:∀op∈v,op.act.touch?=none:=λop f=>(c op f).1
 refine⟨?_,T,λk aa=>?_,?_,λk=>?_,?_,λj l=>?_,λk aa=>?_,λaa=>?_,λe i a d q=>?_,λi op d J p=>?_,λi g d D I C=>?_⟩
 .exact ra (M:=λs=>fp (pl Z aB) s (eX Z aB) B) U λs y m _ h=>h.one y (c y m).1 (c y m).2.2.2
 .exact ra (M:=λs=>iH (pl Z aB) s (Z.wk k)) (h.uQ k (Q k aa)) λs y m _ h=>h.one y (c y m).1
 .rw[oI c];exact h.d0.trans (n .main).symm
 .rw[oI c];exact(h.qU k).trans (n (.dN k)).symm
 .rw[oI c];exact h.oJ.trans (n .eu).symm
 .rw[oI c];exact h.above j l
 .rcases R k aa with aa|aa
  .exact(h.told k aa).other λop f _=>hu op f
  .exact aa
 .exact(h.shut (S aa)).app λop f _=>hu op f
 .obtain⟨_,r⟩:=uF hu q
  exact h.said (P e) i a d r
 .rcases getElem?_append_cases J with⟨_,K⟩|⟨_,L⟩
  .exact H _ (h.nH i op d K p)
  .exact absurd (hu op L) p
 .have o:i<t.size:=by have W:=h.dy.size;have X:(pl Z G).cT=Z.cT:=rfl;omega
  have E:t.g? i=some g:=by rw[<-pV (u:=v) o];exact D
  obtain⟨j,l,w⟩:=h.over i g d E I ((counts_old o).1 C);have F:j<t.size:=by have:(t[j]?).map (·.g)=some 0:=l;obtain⟨z,V,_⟩:=Option.map_eq_some_iff.1 this;exact lt_size_of_getElem? V
  exact⟨j,by rw[pV F];exact l,hb_app _ w⟩
def Qu{L:qE}{g:Nat}(h:Started L t g)(c:L.cT<=t.size)(d:qC B v):Started L (t++v) g:=by
 have:=ra (t:=t) (v:=v) (M:=λs=>Started L s g/\L.cT<=s.size) ⟨h,c⟩ λs y f _ h=>⟨h.1.one y (d y f).1 h.2,cH⟩
 exact this.1
def D5{c r:Nat}{q:MemOp}(d:c<B)(h:x.act=.send c s)(i:y.act=.recv c r cap)(hp:p.act=.sendDone c s)(g:q.act=.recvDone c r):qC B #[x,y,p,q]:=by
 intro op f;simp only[List.mem_toArray,List.mem_cons,iN,or_false]at f;rcases f with rfl|rfl|rfl|rfl
 .rw[h];exact⟨rfl,aF,aF,d⟩
 .rw[i];exact⟨rfl,aF,aF,d⟩
 .rw[hp];exact⟨rfl,aF,aF,d⟩
 .rw[g];exact⟨rfl,aF,aF,d⟩
def e5.comm(h:e5 Z G t B)(k:Bool)(u:Z.ch<B)(hd:(G.s k).deaf=0)(hm:j1 G.l=0)(C:aB.b1=G.b1)(D:aB.ro=G.ro)(l:∀j,j≠k->aB.s j=G.s j)(i:aB.k=G.k)(w:(aB.s k).deaf=0)(E:(aB.s k).eC=true->(G.s k).eC=true)(un:(aB.s k).c=.un↔(G.s k).c=.un)(z:j1 aB.l=0)(ee:eX Z aB=eX Z G){q:MemOp}(r:x.g=Z.wk k/\x.act=.send Z.ch s)(H:y.act=.recv Z.ch s cap)(hp:p.act=.sendDone Z.ch s)(o:q.g=0/\q.act=.recvDone Z.ch s):e5 Z aB (t++#[x,y,p,q]) B:=by
 have f:qC B #[x,y,p,q]:=D5 u r.2 H hp o.2;have rg:Grow G aB B:=⟨λb _=>by rw[C],D⟩
 have mt:∀g,hy Z aB g↔hy Z G g:=by
  intro g;have F:∀j,(aB.s j).c≠.un↔(G.s j).c≠.un:=λj=>by
   by_cases c:j=k
   .subst c;exact not_congr un
   .rw[l j c]
  unfold hy;rw[i];simp only[F]
 refine h.D6 f (by rw[ee];exact h.dy.oa rg) (λg m=>?_) (λg m=>(mt g).2 m) (λa=>?_) (λj c=>?_) (λj c=>?_) (by rw[i];exact id) (by rw[i];exact id)
 .exact Qu ((h.st g ((mt g).1 m)).oa rg) h.dy.size f
 .cases a with
  |main=>exact z.trans hm.symm
  |dN j=>
   show(aB.s j).deaf=(G.s j).deaf;by_cases c:j=k
   .subst c;rw[hd,w]
   .rw[l j c]
  |eu=>show aB.k.deaf=G.k.deaf;rw[i]
 .by_cases d:j=k
  .subst d;exact E c
  .rw[l j d]at c;exact c
 .by_cases d:j=k
  .subst d
   refine .inr (Rf (i1:=0) (i2:=3) ⟨rfl,r.1,r.2⟩ ⟨rfl,o.1,o.2⟩ (λop n=>⟨(f op n).1,(f op n).2.1,(f op n).2.2.1⟩) ?_ ?_)
   .rw[h.qU];exact hd
   .rw[h.d0];exact hm
  .rw[l j d]at c;exact .inl c
def fp.sW{s:qI}(h:fp (pl Z G) t s B)(m:aB.b1=G.b1)(n:∀g b,G.ro g b->aB.ro g b):fp (pl Z aB) t s B:=by
 refine⟨h.clean,h.size,h.hX,λi op a j l f hm c d=>?_,?_,h.seen⟩
 .refine(h.own i op a j l f hm c d).imp (λx=>?_) λx=>⟨x.1,n _ _ x.2.1,x.2.2⟩
  show op.g=aB.b1 _;rw[m];exact x
 .have:=h.cz
  cases s<;>exact this
def e5.spawn{cl:eF}(h:e5 Z G t B)(z:0<Z.N)(hm:j1 G.l=0)(E:j1 aB.l=0)(D:cl≠.main)(C:cl.deaf G=0)(I:aB.b1=G.b1)(J:∀g b,G.ro g b->aB.ro g b)(K:∀g b,g≠cl.num Z->aB.ro g b->G.ro g b)(L:∀b,aB.ro (cl.num Z) b->aB.b1 b=0)(F:qu (pl Z aB))(n:∀j,(aB.s j).deaf=(G.s j).deaf/\((aB.s j).eC=true->(G.s j).eC=true)/\((aB.s j).da=true->(G.s j).da=true))(m:aB.k.deaf=G.k.deaf/\(aB.k.shut=true->G.k.shut=true)/\(aB.k.said=false->G.k.said=false))(q:∀g,hy Z aB g↔(hy Z G g\/g=cl.num Z))(ee:eX Z aB=eX Z G)(o:x.g=0/\x.act=.go (cl.num Z))(p:y.g=cl.num Z/\y.act=.start):e5 Z aB (t++#[x,y]) B:=by
 have M:qC B #[x,y]:=by
  intro op r;simp only[List.mem_toArray,List.mem_cons,iN,or_false]at r;rcases r with rfl|rfl
  .rw[o.2];exact⟨rfl,aF,aF,trivial⟩
  .rw[p.2];exact⟨rfl,aF,aF,trivial⟩
 have u:fp (pl Z aB) t (eX Z aB) B:=by rw[ee];exact h.dy.sW I J
 have old:∀g,hy Z G g->g≠cl.num Z->Started (pl Z aB) t g:=λg c H=>by have:=h.st g c;exact⟨this.old,λl d=>this.ro l ⟨K g _ H d.1,d.2⟩⟩
 have w:cl.num Z≠0:=λe=>D (eF.xb z (a:=cl) (b:=.main) e)
 refine h.D6 M u (λg c=>?_) (λg c=>(q g).2 (.inl c)) (λa=>?_) (λj i=>(n j).2.1 i) (λj i=>.inl ((n j).2.2 i)) m.2.1 m.2.2
 .by_cases f:g=cl.num Z
  .subst f
   refine(old 0 (.inl rfl) (Ne.symm w)).child u o p (h.d0.trans hm) ((h.tT cl).trans C) F λl d=>?_
   have:=L _ d.1;exact⟨d.2.1,this,λ_ _ _=>this⟩
  .exact(old g (((q g).1 c).resolve_right f) f).Ph h.dy.size o p
 .cases a with
  |main=>exact E.trans hm.symm
  |dN j=>exact(n j).1
  |eu=>exact m.1
def e5.finish(h:e5 Z G t B)(aa:0<Z.N)(D:Z.ch<B)(P:∀k,(G.s k).da=true)(Q:G.k.shut=true)(hm:j1 G.l=0)(n:y.g=0/\y.act=.recvClosed Z.ch):kB (λb=>Z.aH b\/b=Z.W) B (t++#[y]):=by
 have l:y.act.touch?=none:=by rw[n.2];rfl
 have I:y.act.low B:=by rw[n.2];exact D
 have hu:∀op∈#[y],op.act.touch?=none:=λop m=>by
  have e:op=y:=by simpa using m
  rw[e];exact l
 have d0:Deaf t 0=0:=h.d0.trans hm;refine(h.dy.one y l I).sS (W:=(· = Z.W)) ((h.st 0 (.inl rfl)).one y l h.dy.size) (λi op f ad=>?_) (λi g f E J C=>?_)
 .by_cases q:hy Z G op.g
  .rcases q with e|⟨k,e,_⟩|⟨e,_⟩
   .exact .inl e
   .rw[e];exact .inr ((h.told k (P k)).other λop m _=>hu op m)
   .rw[e];exact .inr ((h.shut Q).told n d0 U)
  .refine .inr λS r T F K d c _=>?_
   rcases getElem?_append_cases K with⟨_,L⟩|⟨_,M⟩
   .exact absurd (d ▸ h.nH S r F L (by rw[c];simp)) q
   .rw[hu r M]at c;cases c
 .have p:i<t.size:=by have V:=h.dy.size;have X:(pl Z G).cT=Z.cT:=rfl;have Y:i<Z.cT:=f;omega
  have d:t.g? i=some g:=by rw[<-pV (u:=#[y]) p];exact E
  obtain⟨j,o,w⟩:=h.over i g f d J ((counts_old p).1 C);have H:j<t.size:=by have:(t[j]?).map (·.g)=some 0:=o;obtain⟨z,R,_⟩:=Option.map_eq_some_iff.1 this;exact lt_size_of_getElem? R
  exact⟨j,by rw[pV H];exact o,hb_app _ w⟩
end
section
variable{X:et}{Z:Stat}[hi X Z]{G aB:bX}{u aC w:World}{t bh:Trace}{k:Bool}{g g':Goroutine}{c:fR}{M:Mem}{x:bA}{n j:Nat}{p:gO}
def z0:Value:=.agg #[i0,dg]
def j5(k:Bool)(v:Nat×Nat):Value:=.agg #[.int .i64 (if k then 1 else 0),four v]
inductive qA(Z:Stat)(G:bX)(g:Goroutine)(c:fR)(M:Mem)(x:bA)(n:Nat):Bool->Prop
 |run (h:g.status=.running):qA Z G g c M x n true
 |ri (a:Nat) (ag:∃b8,g=parked b8 #[rcase Z.ch z0] (.recv true)) (aj:G.l=28\/G.l=34\/G.l=40) (ak:n=a+1) (aM:At (hP Z) a ⟨G.l,c,M⟩ x) (dX:G.k.shut=false):qA Z G g c M x n false
inductive iJ(Z:Stat)(G:bX)(k:Bool)(g:Goroutine)(w:World)(cx:Bool):Nat->Bool->Prop
 |run {a} (h:g.status=.running) (ae:a≠0):iJ Z G k g w cx a true
 |sema {a} (h:g.status=.blocked) (az:g.offers=none) (ar:∃b,(G.s k).c=.lock (.qf b)) (fN:G.ms=0) (ae:a≠0):iJ Z G k g w cx a false
 |snd {a} (v:Nat×Nat) (x:bA) (n j b:Nat) (ag:∃b8,g=parked b8 #[scase Z.ch (j5 k v) (.tuple #[])] .send) (ar:g7 (G.s k) ⟨.out (.snd v),(G.s k).bb⟩) (aA:cB (fP (G.bP k)) Z G (Z.wk k) (.snd v) [] x g w n j) (aM:At (fP (G.bP k)) b (.snd v) x) (ak:n=b+1)
  (hO:(∀(n:Nat) own b o,(ib (G.bP k))[n]?=some (own,b,o)->G.b1 b≠Z.wk k)/\kA Z G (Z.wk k) w v) (jB:cx=true) (ae:a≠0):iJ Z G k g w cx a false
 |gone {a} (h:g.status=.finished) (ar:(G.s k).c=.out .fin) (ae:a=0):iJ Z G k g w cx a false
inductive lr(Z:Stat)(G:bX)(p:gO)(g:Goroutine)(w:World):Nat->Bool->Prop
 |run (x:bA) (n j:Nat) (aA:cB (jD Z) Z G (Z.N+2) p [] x g w n j) (h:g.status=.running):lr Z G p g w (n*500+j+1) true
 |wait (x:bA) (n j:Nat) (aA:cB (jD Z) Z G (Z.N+2) p [] x g w n j) (h:g.status=.blocked) (az:g.offers=none) (hp:p=.gq) (hm:G.m=0):lr Z G p g w (n*500+j+1) false
 |gone (hp:p=.fin) (h:g.status=.finished):lr Z G p g w 0 false
structure kS(Z:Stat)(aC:World)(wk:Bool)(f:Goroutine->Goroutine):Prop where
 rest:∀o,o.status=.running\/o.status=.finished->f o=o
 alt:∀o:Goroutine,o.status=.blocked->o.offers=none->f o=o\/f o={o with status:=.running}
 GX:wk=true->∀o:Goroutine,o.status=.blocked->o.offers=none->f o={o with status:=.running}
 MP:∀b8 z bK,(∃s r,aC.heap[Z.ch]?=some (.chan 0 #[] false s r false))->f (parked b8 #[rcase Z.ch z] bK)=parked b8 #[rcase Z.ch z] bK
 MQ:∀b8 v z bK,(∃s r,aC.heap[Z.ch]?=some (.chan 0 #[] false s r false))->f (parked b8 #[scase Z.ch v z] bK)=parked b8 #[scase Z.ch v z] bK
 O2:wk=true->∀b8 z bK,(∃s r,aC.heap[Z.ch]?=some (.chan 0 #[] true s r false))->f (parked b8 #[rcase Z.ch z] bK)={parked b8 #[rcase Z.ch z] bK with status:=.running}
def kS.id(Z:Stat)(aC:World):kS Z aC false (λo=>o):=⟨λ_ _=>rfl,λ_ _ _=>.inl rfl,λh=>(by cases h),λ_ _ _ _=>rfl,λ_ _ _ _ _=>rfl,λh=>(by cases h)⟩
def kS.woken(Z:Stat)(a c:Goroutine)(aC:World)(h:c.status=.running\/c.status=.finished):kS Z aC (mayWake aK a) (woken aK a c aC):=by
 have n:(c.status !=.blocked && c.status !=.waiting)=true:=by rcases h with h|h<;>rw[h]<;>rfl
 have d:∀o,Go.Conc.woken aK a c aC o=if mayWake aK a then o.again aC else o:=λo=>by
  unfold Go.Conc.woken;rcases hm:mayWake aK a with _|_
  .simp
  .rw[Bool.and_assoc,n];rfl
 have j:∀o:Goroutine,o.status=.blocked->o.offers=none->o.again aC={o with status:=.running}:=λo f g=>by unfold Goroutine.again;rw[f,g]
 refine⟨λo m=>?_,λo f g=>?_,λhm o f g=>?_,λl z bK ⟨s,r,i⟩=>?_,λl v z bK ⟨s,r,i⟩=>?_,λhm l z bK ⟨s,r,i⟩=>?_⟩
 .rw[d];split
  .exact again_running _ m
  .rfl
 .rw[d];split
  .exact .inr (j o f g)
  .exact .inl rfl
 .rw[d,if_pos hm];exact j o f g
 .rw[d];split
  .exact again_recv_open i
  .rfl
 .rw[d];split
  .exact again_send_open i
  .rfl
 .rw[d,if_pos hm];exact again_recv_closed i
def jl.rely(h:jl Z G g w c M x n j)(d:aB.l=G.l)(i:∀k,(aB.s k).da=(G.s k).da)(f:aB.cy=G.cy)(r:e0 Z G aB 0 w aC)(l:g'.frame=g.frame)(m:g'.callers=g.callers)(o:g'.dying=g.dying):jl Z aB g' aC c M x n j:=by
 refine⟨by rw[d];exact h.at_.rely r l m o,?_⟩;obtain⟨p,q,u,y,z⟩:=h.ok;have e:iB aB c=iB G c:=by funext k;unfold iB;rw[i,f,d]
 exact⟨p,by rw[d];exact q,by rw[e];exact u,by rw[d,i,f];exact y,by rw[d];exact z⟩
def qA.lp{b:Bool}(h:qA Z G g c M x n b)(F:kS Z aC wk f)(l:aB.l=G.l)(m:ea Z aB aC)(w:aB.k.shut=G.k.shut\/wk=true):∃j,qA Z aB (f g) c M x n j/\(f g).frame=g.frame/\(f g).callers=g.callers/\(f g).dying=g.dying/\(b=true->j=true):=by
 cases h with
 |run h=>exact⟨true,.run (by rw[F.rest g (.inl h)];exact h),by rw[F.rest g (.inl h)],by rw[F.rest g (.inl h)],by rw[F.rest g (.inl h)],id⟩
 |ri a p q r o u=>
  obtain⟨i,rfl⟩:=p;rcases d:aB.k.shut with _|_
  .have e:=F.MP i z0 (.recv true) ⟨_,_,by have:=m.ch;rw[d]at this;exact this⟩
   exact⟨false,.ri a ⟨i,e⟩ (by rw[l];exact q) r (by rw[l];exact o) d,by rw[e],by rw[e],by rw[e],λh=>by cases h⟩
  .have y:wk=true:=by
    rcases w with h|h
    .rw[d,u]at h;cases h
    .exact h
   have e:=F.O2 y i z0 (.recv true) ⟨_,_,by have:=m.ch;rw[d]at this;exact this⟩;exact⟨true,.run (by rw[e]),by rw[e],by rw[e],by rw[e],λ_=>rfl⟩
def xg(f:Base Z G w t)(h:(G.s k).cR=.no):G.k.shut=false:=by
 rcases g:G.k with _|p
 .rfl
 .cases p with
  |fin=>
   have:=f.b9.q6 g;obtain⟨_,c,d⟩:=vc this;cases k
   .rw[c]at h;cases h
   .rw[d]at h;cases h
  |_=>rfl
def iJ.lp{b cx:Bool}(h:iJ Z G k g w cx m b)(F:kS Z aC wk f)(z:Base Z aB aC bh)(l:aB.s k=G.s k)(p:aB.bP k=G.bP k)(V:aB.cy k=G.cy k)(r:e0 Z G aB (Z.wk k) w aC)(L:aB.ms=G.ms\/aB.ms=0\/wk=true)(S:cx=true->fH=true):
 ∃E,iJ Z aB k (f g) aC fH m E/\(f g).frame=g.frame/\(f g).callers=g.callers/\(f g).dying=g.dying:=by
 cases h with
 |run h c=>exact⟨true,.run (by rw[F.rest g (.inl h)];exact h) c,by rw[F.rest g (.inl h)],by rw[F.rest g (.inl h)],by rw[F.rest g (.inl h)]⟩
 |sema h q d hm c=>
  rcases F.alt g h q with e|e
  .by_cases u:aB.ms=0
   .exact⟨false,.sema (by rw[e];exact h) (by rw[e];exact q) (by rw[l];exact d) u c,by rw[e],by rw[e],by rw[e]⟩
   .have U:wk=true:=by
     rcases L with I|I|I
     .rw[hm]at I;exact absurd I u
     .exact absurd I u
     .exact I
    have i:=F.GX U g h q;exact⟨true,.run (by rw[i]) c,by rw[i],by rw[i],by rw[i]⟩
  .exact⟨true,.run (by rw[e]) c,by rw[e],by rw[e],by rw[e]⟩
 |snd v x n j b J d D H P B T c=>
  obtain⟨y,rfl⟩:=J;have Q:(aB.s k).cR=.no:=by rw[l,<-d.cR];rfl
  have R:=xg z Q;have C:=z.ww.ch;rw[R]at C;have e:=F.MQ y (j5 k v) (.tuple #[]) .send ⟨_,_,C⟩;refine⟨false,.snd v x n j b ⟨y,e⟩ (by rw[l];exact d) (by rw[p];exact D.rely r (by rw[e]) (by rw[e]) (by rw[e])) (by rw[p];exact H) P ⟨λn own b o he=>?_,B.2.rely r⟩ (S T) c,by rw[e],by rw[e],by rw[e]⟩;rw[p]at he;have K:=gL (M:=ib (G.bP k)) D.mem he;rw[r.b1 b K];exact B.1 n own b o he
 |gone h d c=>exact⟨false,.gone (by rw[F.rest g (.inr h)];exact h) (by rw[l];exact d) c,by rw[F.rest g (.inr h)],by rw[F.rest g (.inr h)],by rw[F.rest g (.inr h)]⟩
def lr.lp{b:Bool}(h:lr Z G p g w m b)(F:kS Z aC wk f)(r:e0 Z G aB (Z.N+2) w aC)(hm:aB.m=G.m\/aB.m=0\/wk=true):∃o,lr Z aB p (f g) aC m o:=by
 cases h with
 |run x n j c h=>
  have e:=F.rest g (.inl h);exact⟨true,.run x n j (c.rely r (by rw[e]) (by rw[e]) (by rw[e])) (by rw[e];exact h)⟩
 |wait x n j c h i hp q=>
  rcases F.alt g h i with e|e
  .by_cases l:aB.m=0
   .exact⟨false,.wait x n j (c.rely r (by rw[e]) (by rw[e]) (by rw[e])) (by rw[e];exact h) (by rw[e];exact i) hp l⟩
   .have u:wk=true:=by
     rcases hm with I|I|I
     .rw[q]at I;exact absurd I l
     .exact absurd I l
     .exact I
    have d:=F.GX u g h i;exact⟨true,.run x n j (c.rely r (by rw[d]) (by rw[d]) (by rw[d])) (by rw[d])⟩
  .exact⟨true,.run x n j (c.rely r (by rw[e]) (by rw[e]) (by rw[e])) (by rw[e])⟩
 |gone hp h=>exact⟨false,.gone hp (by rw[F.rest g (.inr h)];exact h)⟩
end
section
variable{X:et}{Z:Stat}[hi X Z]{G aB:bX}{gs bm:Array Goroutine}{u aC w:World}{t bh:Trace}{k:Bool}{g g':Goroutine}{m dd cb iz:Nat}{bt:Bool->gQ X.Q}{q:Nat->Nat}{cx du:Bool}{hS rw:Bool->Bool}
structure eD(X:et)(Z:Stat)(G:bX)(gs:Array Goroutine)(w:World)(t:Trace)(m:Nat)(bt:Bool->gQ X.Q)(cb:Nat)(q:Nat->Nat)(cx:Bool)(rw:Bool->Bool)(du:Bool):Prop where
 base:Base Z G w t
 size:gs.size=Z.N+(if G.l<26 then 1 else if G.l<27 then 2 else 3)
 main:∃g c M x n j,gs[0]?=some g/\jl Z G g w c M x n j/\m=n*500+j/\qA Z G g c M x n cx
 dN:∀k,(G.s k).c≠.un->∃g,gs[Z.wk k]?=some g/\fz X Z G k g w (G.s k) (bt k)/\iJ Z G k g w cx (bt k).1 (rw k)
 eu:∀p,G.k=.at p->∃g,gs[Z.N+2]?=some g/\lr Z G p g w cb du
 old:∀i g,0<i->i<Z.N->gs[i]?=some g->QuitsD aK (q i) (Deaf t i) g
def gN.at(h:gN M w)(n:Nat):gN M (w.at n):=⟨h.has,h.fL⟩
def fz.at{s:ck}{bt:gQ X.Q}(c:Base Z G w t)(h:fz X Z G k g w s bt)(n:Nat):fz X Z G k g (w.at n) s bt:=h.rely rfl rfl (e0.at Z G _ c.ww n) rfl rfl rfl id
def cB.at{Pos:Type}{A:de Pos}{i:Nat}{p:Pos}{base:List Frame}{x:bA}{n:Nat}(h:cB A Z G i p base x g w n j)(d:Nat):cB A Z G i p base x g (w.at d) n j:=⟨h.on,h.le,h.fr,h.cs,h.m',h.mem.at d,h.own⟩
def eD.at(h:eD X Z G gs w t m bt cb q cx rw du)(d:Nat):eD X Z G gs (w.at d) t m bt cb q cx rw du:=by
 refine⟨h.base.at d,h.size,?_,λk H=>?_,λp hp=>?_,h.old⟩
 .obtain⟨g,c,M,x,n,j,l,i,o,D⟩:=h.main
  exact⟨g,c,M,x,n,j,l,⟨i.at_.at d,i.ok⟩,o,D⟩
 .obtain⟨g,l,i,o⟩:=h.dN k H
  refine⟨g,l,i.at h.base d,?_⟩;generalize rw k=r at o ⊢;generalize (bt k).1=mk at o ⊢;cases o with
  |run h f=>exact .run h f
  |sema h C u I f=>exact .sema h C u I f
  |snd v x n j b F u z E J B K f=>exact .snd v x n j b F u (z.at d) E J ⟨B.1,B.2.1,B.2.2,B.2.3⟩ K f
  |gone h u f=>exact .gone h u f
 .obtain⟨g,l,i⟩:=h.eu p hp
  refine⟨g,l,?_⟩;clear h;cases i with
  |run x n j z y=>exact .run x n j (z.at d) y
  |wait x n j z y C hp hm=>exact .wait x n j (z.at d) y C hp hm
  |gone hp y=>exact .gone hp y
def eD.live(h:eD X Z G gs w t m bt cb q cx rw du):∃(i:Nat) (g:Goroutine),gs[i]?=some g/\g.status=.running:=by
 obtain⟨g,c,M,x,n,j,R,ak,al,S⟩:=h.main;cases S with
 |run d=>exact⟨0,g,R,d⟩
 |ri a aa ao H am J=>
  have af:¬G.l<27:=U;have ae:¬G.l<26:=U;have P:(G.s true).c≠.un:=λe=>ae (h.base.b9.l9.2 e)
  have L:=h.base.b9.pG;have bH:∃p,G.k=.at p:=by
   rcases ad:G.k with _|p
   .exact absurd (h.base.b9.mS.2 ad) af
   .exact⟨p,rfl⟩
  obtain⟨p,hp⟩:=bH;obtain⟨gk,ah,ai⟩:=h.eu p hp;obtain⟨C,K,w2,w3⟩:=h.dN false L;obtain⟨D,v1,v2,v3⟩:=h.dN true P;have sema:∀k,(∀j,∃g,gs[Z.wk j]?=some g/\iJ Z G j g w false (bt j).1 (rw j))->(∃b,(G.s k).c=.lock (.qf b))->G.ms=0->∃(i:Nat) (g:Goroutine),gs[i]?=some g/\g.status=.running:=by
   intro k u ⟨b,T⟩ l;obtain⟨g',Q,y⟩:=u (!k);have z:=h.base.b9.side k;have d:(G.s k).role=.q:=by unfold ck.role;rw[T];rfl
   rw[d]at z;have ag:(G.s (!k)).role≠.fin:=by
    rcases cO.sema z with⟨_,e⟩|⟨e,_⟩
    .exact e
    .rw[l]at e;cases e
   have I:(G.s (!k)).role≠.idle/\(G.s (!k)).role≠.q:=by have:=z.mu;constructor<;>(intro e;rw[e]at this;simp[jO,j2]at this)
   generalize rw (!k)=r at y;generalize (bt (!k)).1=mk at y;cases y with
   |run d _=>exact⟨_,g',Q,d⟩
   |sema _ _ f _ _=>
    obtain⟨aj,V⟩:=f;exact absurd (by unfold ck.role;rw[V];rfl) I.2
   |snd v x n j b aa f _ _ _ _ o _=>cases o
   |gone _ f _=>
    exfalso;rcases E:(G.s (!k)).bb with _|_
    .exact I.1 (by unfold ck.role;rw[f,E];rfl)
    .exact ag (by unfold ck.role;rw[f,E];rfl)
  have u:∀j,∃g,gs[Z.wk j]?=some g/\iJ Z G j g w false (bt j).1 (rw j):=λj=>by
   cases j
   .exact⟨C,K,w3⟩
   .exact⟨D,v1,v3⟩
  clear w2 v2;generalize rw false=r0 at w3;generalize rw true=r1 at v3;generalize (bt false).1=ap at w3;generalize (bt true).1=aq at v3;cases w3 with
  |run d _=>exact⟨_,C,K,d⟩
  |sema _ _ f l _=>exact sema false u f l
  |snd _ _ _ _ _ _ _ _ _ _ _ o _=>cases o
  |gone _ W _=>
   cases v3 with
   |run d _=>exact⟨_,D,v1,d⟩
   |sema _ _ f l _=>exact sema true u f l
   |snd _ _ _ _ _ _ _ _ _ _ _ o _=>cases o
   |gone _ Y _=>
    cases ai with
    |run _ _ _ _ d=>exact⟨_,gk,ah,d⟩
    |wait _ _ _ _ _ _ B hm=>
     exfalso;subst B;have wg:=h.base.b9.q6 hp;rcases G4 wg with⟨_,H⟩|⟨F,_⟩
     .exact H ⟨by unfold ck.cR;rw[W];rfl,by unfold ck.cR;rw[Y];rfl⟩
     .rw[hm]at F;cases F
    |gone B _=>
     exfalso;subst B;rw[hp]at J;cases J
abbrev rT(Q:Program):=Nat×gQ Q×gQ Q×Nat×Nat×Nat
def q'(Q:Program):rT Q->rT Q->Prop:=Prod.Lex (· < ·) (Prod.Lex (eQ Q) (Prod.Lex (eQ Q) (Prod.Lex (· < ·) (Prod.Lex (· < ·) (· < ·)))))
def Md(Q:Program):WellFounded (q' Q):=
 (Prod.lex ⟨_,Nat.lt_wfRel.wf⟩ (Prod.lex ⟨_,G9 Q⟩ (Prod.lex ⟨_,G9 Q⟩ (Prod.lex ⟨_,Nat.lt_wfRel.wf⟩ (Prod.lex ⟨_,Nat.lt_wfRel.wf⟩ ⟨_,Nat.lt_wfRel.wf⟩))))).wf
def kW(b:Bool):Nat:=if b then 1 else 0
def h'(Z:Stat)(m:Nat)(bt:Bool->gQ X.Q)(cb:Nat)(q:Nat->Nat)(cx:Bool)(rw:Bool->Bool)(du:Bool):rT X.Q:=(m,bt false,bt true,cb,sumTo Z.N q,kW cx+kW (rw false)+kW (rw true)+kW du)
def hY{α:Type}(f:Bool->α)(k:Bool)(x:α):Bool->α:=λj=>if j=k then x else f j
def uD{x:rT X.Q}(h:dd<m)(e:x.1=dd):q' X.Q x (h' Z m bt cb q cx rw du):=by obtain⟨a,b⟩:=x;subst e;exact .left _ _ h
def Mh{ga:gQ X.Q}(k:Bool)(h:eQ X.Q ga (bt k))(iz:Nat)(g2:Nat->Nat)(fH:Bool)(hS:Bool->Bool)(c:Bool):q' X.Q (h' Z m (hY bt k ga) iz g2 fH hS c) (h' Z m bt cb q cx rw du):=by
 unfold h' hY;cases k
 .exact .right _ (.left _ _ h)
 .exact .right _ (.right _ (.left _ _ h))
def Mf(h:iz<cb)(g2:Nat->Nat)(fH:Bool)(hS:Bool->Bool)(c:Bool):q' X.Q (h' Z m bt iz g2 fH hS c) (h' Z m bt cb q cx rw du):=.right _ (.right _ (.right _ (.left _ _ h)))
def Mg{g2:Nat->Nat}(h:sumTo Z.N g2<sumTo Z.N q)(fH:Bool)(hS:Bool->Bool)(c:Bool):q' X.Q (h' Z m bt cb g2 fH hS c) (h' Z m bt cb q cx rw du):=.right _ (.right _ (.right _ (.right _ (.left _ _ h))))
def zW{hS:Bool->Bool}{c:Bool}(h:kW fH+kW (hS false)+kW (hS true)+kW c<kW cx+kW (rw false)+kW (rw true)+kW du):q' X.Q (h' Z m bt cb q fH hS c) (h' Z m bt cb q cx rw du):=.right _ (.right _ (.right _ (.right _ (.right _ h))))
def OV(a:g5 G)(i:g5 aB)(l:aB.l=G.l)(k:Bool)(g:∀j,j≠k->aB.s j=G.s j):∀j,(aB.s j).da=(G.s j).da:=by
 have d:=a.cnt;have c:=i.cnt;rw[l]at c;intro j;by_cases h:j=k
 .subst h
  cases j
  .rw[g true aF]at c
   rcases e:(G.s false).da with _|_<;>rcases f:(aB.s false).da with _|_<;>rw[e]at d<;>rw[f]at c<;>simp at d c<;>first|rfl|omega
  .rw[g false aF]at c
   rcases e:(G.s true).da with _|_<;>rcases f:(aB.s true).da with _|_<;>rw[e]at d<;>rw[f]at c<;>simp at d c<;>first|rfl|omega
 .rw[g j h]
end
section
variable{X:et}{Z:Stat}[hi X Z]{G aB:bX}{gs bm:Array Goroutine}{u aC w:World}{t bh:Trace}{k:Bool}{g g':Goroutine}{m dd cb iz:Nat}{bt:Bool->gQ X.Q}{q:Nat->Nat}{cx du:Bool}{hS rw:Bool->Bool}{sl:Option (Nat×Nat)}{es:Array Event}
def lz(X:et)(Z:Stat)(gs:Array Goroutine)(u:World)(sl:Option (Nat×Nat))(t:Trace)(i:Nat)(d:rT X.Q):Prop:=
 ∃(aB:bX) (bm:Array Goroutine) (aC:World) (ops:Array MemOp) (dd:Nat) (ga:Bool->gQ X.Q) (iz:Nat) (g2:Nat->Nat) (fH:Bool) (hS:Bool->Bool) (c:Bool),
  runT aK (crowd gs u sl) i=(.next (crowd bm aC sl),ops)/\eD X Z aB bm aC (t++ops) dd ga iz g2 fH hS c/\q' X.Q (h' Z dd ga iz g2 fH hS c) d
def so{i:Nat}{x:Goroutine}(h:j≠i):((gs.map f).setIfInBounds i x)[j]?=(gs[j]?).map f:=by rw[h7 (Ne.symm h),Array.getElem?_map]
def ug{i:Nat}{x g:Goroutine}(h:gs[i]?=some g):((gs.map f).setIfInBounds i x)[i]?=some x:=by rw[iO (by simpa using bu h)]
def ji(c:0<Z.N)(k:Bool):Z.wk k≠0:=by cases k<;>simp[Stat.wk]<;>omega
def G6(k:Bool):Z.wk (!k)≠Z.wk k:=by cases k<;>simp[Stat.wk]
def By{a:Nat}{b:Bool}(h:iJ Z G k g w cx a b)(c:g.status=.running):b=true/\a≠0:=by
 cases h with
 |run _ d=>exact⟨rfl,d⟩
 |sema h _ _ _ _=>rw[c]at h;cases h
 |snd _ _ _ _ _ f _ _ _ _ _ _ _=>obtain⟨i,rfl⟩:=f;cases c
 |gone h _ _=>rw[c]at h;cases h
def fz.res{s:ck}{p:h5}{bt:gQ X.Q}(h:fz X Z G k g w s bt)(d:s.c=.out p)(hp:nF p=true):kA Z G (Z.wk k) w (G.cy k):=by
 cases h with
 |out gA ok h i j c=>
  cases d;exact c _ (by cases p<;>first|rfl|cases hp)
 |gone gA f c=>exact c
 |_=>cases d
def CS(t:Trace)(g:Nat)(fn:FuncId)(pos:String):t++MemOp.ofEvents g fn pos #[]=t:=by rw[ofEvents_eq];simp
def eD.others(h:eD X Z G gs u t m bt cb q cx rw du)(i0:Nat)(F:kS Z aC wk f)(E:Base Z aB aC bh)(y:aB.l=G.l)(H:aB.bP=G.bP)(z:aB.cy=G.cy)(ai:∀j,Z.wk j≠i0->aB.s j=G.s j)(ag:i0≠Z.N+2->aB.k=G.k)(aj:∀k,(aB.s k).da=(G.s k).da)(r:∀i,i≠i0->e0 Z G aB i u aC)(al:bm.size=gs.size)(o:∀i,i≠i0->bm[i]?=(gs[i]?).map f)(ah:aB.ms=G.ms\/aB.ms=0\/wk=true)(hm:aB.m=G.m\/aB.m=0\/wk=true)(ak:aB.k.shut=G.k.shut\/wk=true)(af:∀i,i≠i0->Deaf bh i=Deaf t i):
 ∃fH,(i0≠0->∃g c M x n j,bm[0]?=some g/\jl Z aB g aC c M x n j/\m=n*500+j/\qA Z aB g c M x n fH)/\(cx=true->fH=true)/\
  (∀k,Z.wk k≠i0->(G.s k).c≠.un->∃g b,bm[Z.wk k]?=some g/\fz X Z aB k g aC (aB.s k) (bt k)/\iJ Z aB k g aC fH (bt k).1 b)/\(i0≠Z.N+2->∀p,aB.k=.at p->∃g b,bm[Z.N+2]?=some g/\lr Z aB p g aC cb b)/\
  (∀i g,i≠i0->0<i->i<Z.N->bm[i]?=some g->QuitsD aK (q i) (Deaf bh i) g)/\bm.size=Z.N+(if aB.l<26 then 1 else if aB.l<27 then 2 else 3):=by
 obtain⟨g,c,M,x,n,j,V,W,Y,aa⟩:=h.main;obtain⟨fH,t1,t2,t3,t4,t5⟩:=aa.lp F y E.ww ak;refine⟨fH,λd=>?_,t5,λk l ae=>?_,λd p hp=>?_,λi g d U ad J=>?_,by rw[al,y];exact h.size⟩
 .exact⟨f g,c,M,x,n,j,by rw[o 0 (Ne.symm d),V];rfl,W.rely y aj z (r 0 (Ne.symm d)) t2 t3 t4,Y,t1⟩
 .obtain⟨gk,B,C,am⟩:=h.dN k ae
  have L:=ai k l;obtain⟨w,Q,R,S,T⟩:=am.lp F E L (by rw[H]) (by rw[z]) (r _ l) ah t5;refine⟨f gk,w,by rw[o _ l,B];rfl,?_,Q⟩;rw[L];exact C.rely (by rw[H]) (by rw[z]) (r _ l) R S T λI=>by rw[F.rest gk (.inr I)];exact I
 .rw[ag d]at hp
  obtain⟨gk,B,C⟩:=h.eu p hp;obtain⟨w,e⟩:=C.lp F (r _ (Ne.symm d)) hm;exact⟨f gk,w,by rw[o _ (Ne.symm d),B];rfl,e⟩
 .rw[o i d]at J
  obtain⟨D,P,rfl⟩:=Option.map_eq_some_iff.1 J;have K:=h.old i D U ad P;rw[F.rest D K.status,af i d];exact K
def G7{k j:Bool}(h:j≠k):Z.wk j≠Z.wk k:=λe=>h (Bw e)
def eD.B3(h:eD X Z G gs u t m bt cb q cx rw du)(k:Bool)(al:(G.s k).c≠.un)(y:gs[Z.wk k]?=some g){ga:gQ X.Q}(aj:stepG aK false g u=.go g' aC es)(w:Base Z aB aC (t++MemOp.ofEvents (Z.wk k) g.frame.fn g.frame.place es))(af:g'.status=.running\/g'.status=.finished)(B:∀j,j≠k->aB.s j=G.s j)(H:aB.k=G.k)(I:aB.l=G.l)(T:aB.bP=G.bP)(ah:aB.cy=G.cy)(ad:∀i,i≠Z.wk k->e0 Z G aB i u aC)(K:fz X Z aB k g' aC (aB.s k) ga){b:Bool}(J:∀fH,iJ Z aB k g' aC fH ga.1 b)(Y:aB.ms=G.ms\/aB.ms=0\/mayWake aK g=true)(hm:aB.m=G.m\/aB.m=0\/mayWake aK g=true)(W:eQ X.Q ga (bt k)):lz X Z gs u sl t (Z.wk k) (h' Z m bt cb q cx rw du):=by
 have E:=h.base.ap.pos;have ag:=runT_crowd_go (P:=aK) (sl:=sl) y (show stepG aK (Z.wk k == 0) g u=_ by rw[show(Z.wk k == 0)=false by simpa using ji E k];exact aj);have F:=kS.woken Z g g' aC af;obtain⟨fH,L,ak,a3,a4,a5,M⟩:=h.others (bm:=(gs.map (woken aK g g' aC)).setIfInBounds (Z.wk k) g') (Z.wk k) F w I T ah (λj d=>B j λe=>d (by rw[e])) (λ_=>H) (OV h.base.b9 w.b9 I k B) ad aF (λi z=>so z) Y hm (.inl (by rw[H]))
  (λi z=>Deaf_other t (g':=Z.wk k) (Ne.symm z) _ λop aa=>by obtain⟨e,_,rfl⟩:=Go.Conc.mem_ofEvents aa;rfl)
 have un:∀j,j≠k->(aB.s j).c≠.un->(G.s j).c≠.un:=λj d hu=>by rw[<-B j d];exact hu
 obtain⟨D,ai⟩:∃D:Bool->Bool,∀j,(aB.s j).c≠.un->∃c,((gs.map (woken aK g g' aC)).setIfInBounds (Z.wk k) g')[Z.wk j]?=some c/\fz X Z aB j c aC (aB.s j) (hY bt k ga j)/\iJ Z aB j c aC fH (hY bt k ga j).1 (D j):=by
  by_cases hu:(G.s (!k)).c=.un
  .refine⟨λ_=>b,λj d=>?_⟩
   by_cases f:j=k
   .subst f
    exact⟨g',ug y,by unfold hY;rw[if_pos rfl];exact K,by unfold hY;rw[if_pos rfl];exact J fH⟩
   .have:j = !k:=by cases j<;>cases k<;>simp_all
    subst this;exact absurd hu (un _ f d)
  .obtain⟨r,l,n,o,Q⟩:=a3 (!k) (G6 k) hu
   refine⟨λj=>if j=k then b else l,λj d=>?_⟩;by_cases f:j=k
   .subst f
    refine⟨g',ug y,by unfold hY;rw[if_pos rfl];exact K,?_⟩;unfold hY;simp only[if_true];exact J fH
   .have:j = !k:=by cases j<;>cases k<;>simp_all
    subst this;refine⟨r,n,?_,?_⟩
    .unfold hY;rw[if_neg f];exact o
    .unfold hY;simp only[if_neg f];exact Q
 obtain⟨C,ae⟩:∃C,∀p,aB.k=.at p->∃c,((gs.map (woken aK g g' aC)).setIfInBounds (Z.wk k) g')[Z.N+2]?=some c/\lr Z aB p c aC cb C:=by
  rcases V:aB.k with _|p
  .exact⟨false,λp hp=>by cases hp⟩
  .obtain⟨r,l,n,o⟩:=a4 (vf Z k) p V
   exact⟨l,λia hp=>by cases hp;exact⟨r,n,o⟩⟩
 exact⟨aB,_,aC,_,m,hY bt k ga,cb,q,fH,D,C,ag,⟨w,M,L (ji E k),ai,ae,λi g R S U=>a5 i g (by cases k<;>simp[Stat.wk]<;>omega) R S U⟩,Mh k W _ _ _ _ _⟩
end
section
variable{X:et}{Z:Stat}[hi X Z]{G aB:bX}{gs bm:Array Goroutine}{u aC w:World}{t bh:Trace}{k:Bool}{g g':Goroutine}{m dd cb iz:Nat}{bt:Bool->gQ X.Q}{q:Nat->Nat}{cx du:Bool}{hS rw:Bool->Bool}{sl:Option (Nat×Nat)}{es:Array Event}{p ia:gO}
def sT{P:Bool->Bool->Prop}{D:Bool->Prop}(h:∀k,D k->∃b,P k b):∃rw:Bool->Bool,∀k,D k->P k (rw k):=by refine⟨λk=>Classical.epsilon λb=>P k b,λk c=>?_⟩;exact Classical.epsilon_spec (h k c)
def eD.B2(h:eD X Z G gs u t m bt cb q cx rw du)(n:gs[Z.N+2]?=some g)(V:stepG aK false g u=.go g' aC es)(l:Base Z aB aC (t++MemOp.ofEvents (Z.N+2) g.frame.fn g.frame.place es))(M:g'.status=.running\/g'.status=.finished)(E:aB.k=.at ia)(f:aB.s=G.s)(H:aB.l=G.l)(B:aB.bP=G.bP)(R:aB.cy=G.cy)(L:∀i,i≠Z.N+2->e0 Z G aB i u aC){b:Bool}(W:lr Z aB ia g' aC iz b)(J:aB.ms=G.ms)(hm:aB.m=G.m\/aB.m=0)(T:aB.k.shut=G.k.shut\/mayWake aK g=true)(I:iz<cb):lz X Z gs u sl t (Z.N+2) (h' Z m bt cb q cx rw du):=by
 have ad:=h.base.ap.pos;have Q:=runT_crowd_go (P:=aK) (sl:=sl) n (show stepG aK (Z.N+2 == 0) g u=_ by rw[show(Z.N+2 == 0)=false by simp];exact V);have F:=kS.woken Z g g' aC M;obtain⟨fH,r,aa,a3,a4,a5,w⟩:=h.others (bm:=(gs.map (woken aK g g' aC)).setIfInBounds (Z.N+2) g') (Z.N+2) F l H B R (λj _=>by rw[f]) (λe=>absurd rfl e) (λj=>by rw[f]) L aF (λi d=>so d) (.inl J) (hm.imp id .inl) T
  (λi d=>Deaf_other t (g':=Z.N+2) (Ne.symm d) _ λop K=>by obtain⟨e,_,rfl⟩:=Go.Conc.mem_ofEvents K;rfl)
 obtain⟨Y,S⟩:=sT (P:=λk b=>∃c,((gs.map (woken aK g g' aC)).setIfInBounds (Z.N+2) g')[Z.wk k]?=some c/\fz X Z aB k c aC (aB.s k) (bt k)/\iJ Z aB k c aC fH (bt k).1 b) (D:=λk=>(aB.s k).c≠.un) λk o=>by obtain⟨c,b,e⟩:=a3 k (vf Z k) (by rw[f]at o;exact o);exact⟨b,c,e⟩
 exact⟨aB,_,aC,_,m,bt,iz,q,fH,Y,b,Q,⟨l,w,r U,S,λp hp=>by rw[E]at hp;cases hp;exact⟨g',ug n,W⟩,λi g y z C=>a5 i g U y z C⟩,Mf I _ _ _ _⟩
def eD.Ic(h:eD X Z G gs u t m bt cb q cx rw du){i:Nat}(ak:0<i)(S:i<Z.N)(H:gs[i]?=some g)(E:g.status=.running):lz X Z gs u sl t i (h' Z m bt cb q cx rw du):=by
 have C:=h.old i g ak S H;have aw:(i == 0)=false:=cH;cases K:q i with
 |zero=>rw[K]at C;rw[C.1]at E;cases E
 |succ a=>
  rw[K]at C;rcases C with⟨aq,_⟩|⟨_,g',es,V,aM,W⟩
  .rw[aq]at E;cases E
  have aH:=W.status;have aJ:=runT_crowd_go (P:=aK) (sl:=sl) H (show stepG aK (i == 0) g u=_ by rw[aw];exact aM u);have F:=kS.woken Z g g' u aH;have aU:qC u.heap.size (MemOp.ofEvents i g.frame.fn g.frame.place es)\/True:=.inr trivial;have hE:∀op∈MemOp.ofEvents i g.frame.fn g.frame.place es,op.g=i/\op.act.touch?=none/\op.act.low u.heap.size:=λop f=>by obtain⟨e,he,rfl⟩:=Go.Conc.mem_ofEvents f;exact⟨rfl,touch_mute (V e he),low_mute (V e he) _⟩
  have B:∀j,j≠i->Deaf (t++MemOp.ofEvents i g.frame.fn g.frame.place es) j=Deaf t j:=λj d=>Deaf_other t (g':=i) (Ne.symm d) _ λop f=>(hE op f).1
  have c:=h.base.dy;have R:Base Z G u (t++MemOp.ofEvents i g.frame.fn g.frame.place es):=by
   refine⟨h.base.ww,h.base.b9,h.base.ap,?_,h.base.oc,h.base.s0,h.base.hold,h.base.old,h.base.o4,h.base.iA,h.base.rn,h.base.cfg⟩;have aP:∀k,Z.wk k≠i:=λk=>by cases k<;>simp[Stat.wk]<;>omega
   refine⟨?_,λg' ar=>?_,λk w=>?_,?_,λk=>?_,?_,λj d=>?_,λk w=>?_,λw=>?_,λe n aa r al=>?_,λn op r aD Y=>?_,λn Q r au aC ap=>?_⟩
   .exact ra (M:=λs=>fp (pl Z G) s (eX Z G) u.heap.size) c.dy λs y o _ h=>h.one y (hE y o).2.1 (hE y o).2.2
   .have:=ra (t:=t) (v:=MemOp.ofEvents i g.frame.fn g.frame.place es) (M:=λs=>Started (pl Z G) s g'/\(pl Z G).cT<=s.size) ⟨c.st g' ar,c.dy.size⟩ λs y o _ h=>⟨h.1.one y (hE y o).2.1 h.2,cH⟩
    exact this.1
   .exact ra (M:=λs=>iH (pl Z G) s (Z.wk k)) (c.uQ k w) λs y o _ h=>h.one y (hE y o).2.1
   .rw[B 0 U];exact c.d0
   .rw[B _ (aP k)];exact c.qU k
   .rw[B _ U];exact c.oJ
   .rw[B _ U];exact c.above j d
   .exact(c.told k w).other λop f _=>(hE op f).2.1
   .exact(c.shut w).app λop f _=>(hE op f).2.1
   .obtain⟨_,am⟩:=uF (λop f=>(hE op f).2.1) al
    exact c.said e n aa r am
   .rcases getElem?_append_cases aD with⟨_,aE⟩|⟨_,aG⟩
    .exact c.nH n op r aE Y
    .exact absurd (hE op aG).2.1 Y
   .have T:n<t.size:=by have aR:=c.dy.size;have aS:(pl Z G).cT=Z.cT:=rfl;omega
    have av:t.g? n=some Q:=by rw[<-pV (u:=MemOp.ofEvents i g.frame.fn g.frame.place es) T];exact au
    obtain⟨j,d,ao⟩:=c.over n Q r av aC ((counts_old T).1 ap);have az:j<t.size:=by have:(t[j]?).map (·.g)=some 0:=d;obtain⟨z,aN,_⟩:=Option.map_eq_some_iff.1 this;exact lt_size_of_getElem? aN
    exact⟨j,by rw[pV az];exact d,hb_app _ ao⟩
  obtain⟨fH,ad,aQ,a3,a4,a5,ae⟩:=h.others (bm:=(gs.map (woken aK g g' u)).setIfInBounds i g') i F R rfl rfl rfl (λ_ _=>rfl) (λ_=>rfl) (λ_=>rfl) (λj _=>e0.at Z G j h.base.ww u.drawn) aF (λj d=>so d) (.inl rfl) (.inl rfl) (.inl rfl) (λj d=>B j d);obtain⟨aO,aL⟩:=sT (P:=λk b=>∃l,((gs.map (woken aK g g' u)).setIfInBounds i g')[Z.wk k]?=some l/\fz X Z G k l u (G.s k) (bt k)/\iJ Z G k l u fH (bt k).1 b) (D:=λk=>(G.s k).c≠.un) λk aA=>by obtain⟨l,b,e⟩:=a3 k (by cases k<;>simp[Stat.wk]<;>omega) aA;exact⟨b,l,e⟩
  obtain⟨L,aI⟩:∃L,∀p,G.k=.at p->∃l,((gs.map (woken aK g g' u)).setIfInBounds i g')[Z.N+2]?=some l/\lr Z G p l u cb L:=by
   rcases aB:G.k with _|p
   .exact⟨false,λp hp=>by cases hp⟩
   .obtain⟨ai,af,ag,ah⟩:=a4 U p aB
    exact⟨af,λia hp=>by cases hp;exact⟨ai,ag,ah⟩⟩
  refine⟨G,_,u,_,m,bt,cb,upd q i a,fH,aO,L,aJ,⟨R,ae,ad U,aL,aI,λj aj ax ay I=>?_⟩,Mg ?_ _ _ _⟩
  .by_cases J:j=i
   .subst J
    rw[ug H]at I;obtain rfl:=bD I;rw[upd_same,Deaf_own];exact W
   .rw[upd_ne q a J]
    exact a5 j aj J ax ay I
  .have aT:sumTo Z.N (upd q i a)+(a+1)=sumTo Z.N q+a:=by have:=sumTo_upd q a _root_.id S;simpa [K]using this
   omega
def Fb{i:Nat}(c:gs[i]?=some g)(d:stepG aK (i == 0) g u=.go ⟨g.frame,g.callers,.blocked,none,none⟩ u)(sl:Option (Nat×Nat)):runT aK (crowd gs u sl) i=(.next (crowd (gs.setIfInBounds i ⟨g.frame,g.callers,.blocked,none,none⟩) u sl),#[]):=by
 have:=runT_crowd_go (P:=aK) (sl:=sl) c d;have e:gs.map (woken aK g ⟨g.frame,g.callers,.blocked,none,none⟩ u)=gs:=by
  apply Array.ext_getElem?;intro j;rw[Array.getElem?_map];cases gs[j]? with
  |none=>rfl
  |some o=>simp[woken]
 rw[e]at this;rw[this,ofEvents_eq];simp
def eD.Fa(h:eD X Z G gs u t m bt cb q cx rw du)(k:Bool)(K:(G.s k).c≠.un)(y:gs[Z.wk k]?=some g)(C:g.status=.running)(V:fz X Z G k g u (G.s k) (bt k))(P:g'.frame=g.frame)(L:g'.callers=g.callers)(hd:g'.dying=g.dying)(U:iJ Z G k g' u cx (bt k).1 false)(T:runT aK (crowd gs u sl) (Z.wk k)=(.next (crowd (gs.setIfInBounds (Z.wk k) g') u sl),#[])):lz X Z gs u sl t (Z.wk k) (h' Z m bt cb q cx rw du):=by
 have I:=h.base.ap.pos;have S:=bu y;obtain⟨d,w,_,E⟩:=h.dN k K;rw[y]at w;obtain rfl:=bD w;obtain⟨B,_⟩:=By E C;have o:∀i,i≠Z.wk k->(gs.setIfInBounds (Z.wk k) g')[i]?=gs[i]?:=λi Q=>h7 (Ne.symm Q)
 refine⟨G,_,u,#[],m,bt,cb,q,cx,hY rw k false,du,T,⟨by simpa using h.base,by rw[Array.size_setIfInBounds];exact h.size,?_,λj R=>?_,λp hp=>?_,λi F H J z=>?_⟩,zW ?_⟩
 .obtain⟨d,c,M,x,n,j,f,l⟩:=h.main
  exact⟨d,c,M,x,n,j,by rw[o 0 (Ne.symm (ji I k))];exact f,l⟩
 .by_cases r:j=k
  .subst r
   refine⟨g',by rw[iO S],V.rely rfl rfl (e0.at Z G _ h.base.ww u.drawn) P L hd (λD=>by rw[C]at D;cases D),?_⟩;unfold hY;rw[if_pos rfl];exact U
  .obtain⟨d,f,l⟩:=h.dN j R
   refine⟨d,by rw[o _ (G7 r)];exact f,?_⟩;unfold hY;rw[if_neg r];exact l
 .obtain⟨d,f,l⟩:=h.eu p hp
  exact⟨d,by rw[o _ (Ne.symm (vf Z k))];exact f,l⟩
 .rw[o i (by cases k<;>simp[Stat.wk]<;>omega)]at z
  simpa using h.old i F H J z
 .unfold hY kW
  cases k
  .rw[B];simp
  .rw[B];simp
def eD.Rh(h:eD X Z G gs u t m bt cb q cx rw du)(hp:G.k=.at p)(f:gs[Z.N+2]?=some g)(K:g.status=.running):lz X Z gs u sl t (Z.N+2) (h' Z m bt cb q cx rw du):=by
 obtain⟨w,F,P⟩:=h.eu p hp;rw[f]at F;obtain rfl:=bD F;have ak:=h.base.ap.pos;have W:(Z.N+2 == 0)=false:=aF;cases P with
 |wait _ _ _ _ y _ _ _=>rw[K]at y;cases y
 |gone _ H=>rw[K]at H;cases H
 |run x n j d _=>
  rcases II h.base hp d with⟨aB,ia,aC,l,g',aj,c9,bw,r,aa,ag,ad,T,af,y,o,ai,D,L,ae,hm,ah⟩|⟨r,C,hm⟩|⟨r,C⟩
  .exact h.B2 (iz:=c9*500+bw+1) (b:=true) f r y (.inl L) aa ag ad T af o (.run aj c9 bw ai L) ae hm ah (Nat.succ_lt_succ D)
  .have o:=Fb f (show stepG aK (Z.N+2 == 0) g u=_ by rw[W];exact r) sl
   have D:=bu f;have E:∀i,i≠Z.N+2->(gs.setIfInBounds (Z.N+2) (⟨g.frame,g.callers,.blocked,none,none⟩:Goroutine))[i]?=gs[i]?:=λi V=>h7 (Ne.symm V)
   refine⟨G,_,u,#[],m,bt,_,q,cx,rw,false,o,⟨by simpa using h.base,by rw[Array.size_setIfInBounds];exact h.size,?_,λj Y=>?_,λal J=>?_,λi Q R S I=>?_⟩,zW (by simp[kW])⟩
   .obtain⟨w,c,M,x,n,j,z,B⟩:=h.main
    exact⟨w,c,M,x,n,j,by rw[E 0 U];exact z,B⟩
   .obtain⟨w,z,B⟩:=h.dN j Y
    exact⟨w,by rw[E _ (vf Z j)];exact z,B⟩
   .rw[hp]at J
    cases J;exact⟨(⟨g.frame,g.callers,.blocked,none,none⟩:Goroutine),by rw[iO D],.wait x n j ⟨d.on,d.le,d.fr,d.cs,rfl,d.mem,d.own⟩ rfl rfl C hm⟩
   .rw[E i U]at I
    simpa using h.old i Q R S I
  .subst C
   have o:∀i,i≠Z.N+2->e0 Z G G i u u:=λi _=>e0.at Z G i h.base.ww u.drawn
   exact h.B2 (es:=#[]) (aB:=G) (iz:=0) f r (by rw[CS];exact h.base) (.inr rfl) hp rfl rfl rfl rfl o (.gone rfl rfl) rfl (.inl rfl) (.inl rfl) U
def eD.Rj(h:eD X Z G gs u t m bt cb q cx rw du)(r:(G.s k).c≠.un)(w:gs[Z.wk k]?=some g)(P:g.status=.running)
 (W:∀(v:Nat×Nat) (x:bA) (n j a:Nat),g7 (G.s k) ⟨.out (.snd v),(G.s k).bb⟩->cB (fP (G.bP k)) Z G (Z.wk k) (.snd v) [] x g u n j->At (fP (G.bP k)) a (.snd v) x->n=a+1->
  ((∀(n:Nat) own b o,(ib (G.bP k))[n]?=some (own,b,o)->G.b1 b≠Z.wk k)/\kA Z G (Z.wk k) u v)->lz X Z gs u sl t (Z.wk k) (h' Z m bt cb q cx rw du)):lz X Z gs u sl t (Z.wk k) (h' Z m bt cb q cx rw du):=by
 obtain⟨ak,J,f,S⟩:=h.dN k r;rw[w]at J;obtain rfl:=bD J;obtain⟨_,I⟩:=By S P;have U:=h.base.ap.pos;have aa:(Z.wk k == 0)=false:=by simpa using ji U k
 rcases Sn h.base r I f with⟨aB,aX,aC,l,g',ga,z,Q,ae,D,V,ah,C,y,R,af,F,E,hm⟩|⟨z,d,E⟩|⟨z,d⟩|⟨v,x,n,j,a,d,H,K,M,T⟩
 .have B:aB.s k=aX:=by rw[Q];exact RP _ _ _
  have aj:ga.1≠0:=by
   cases R with
   |gone gA L ai=>rw[F]at L;cases L
   |@out p bb x n j gA ok h D M ai=>
    show(if hQ p then 3 else 1)≠0;split<;>decide
   |un bb bt=>
    exfalso;have e:(aB.s k).c=.un:=by rw[B]
    cases k with
    |false=>exact C.b9.pG e
    |true=>exact r (h.base.b9.l9.1 (by rw[<-D];exact C.b9.l9.2 e))
   |_=>exact Nat.succ_ne_zero _
  exact h.B3 k r w z C (.inl F) (λj ad=>by rw[Q];exact RO _ _ ad) ae D V ah y (by rw[B];exact R) (λfH=>.run F aj) E hm af
 .have y:=Fb w (show stepG aK (Z.wk k == 0) g u=_ by rw[aa];exact z) sl
  have Y:g.dying=none:=by
   obtain⟨b,d⟩:=d;generalize B:G.s k=s at f d;generalize bt k=mk at f;cases f with
   |lock c h K H=>exact H.m'
   |un bb bt=>cases d
   |_=>cases d
  exact h.Fa (g':=(⟨g.frame,g.callers,.blocked,none,none⟩:Goroutine)) k r w P f rfl rfl Y.symm (.sema rfl rfl d E I) y
 .have ag:=f.res d rfl
  have hgo:fz X Z G k (⟨g.frame,g.callers,.finished,none,none⟩:Goroutine) u (G.s k) (0,(bt k).2.1,0):=by generalize B:G.s k=s at d;obtain⟨c,bb⟩:=s;cases d;exact .gone _ rfl ag
  have y:∀i,i≠Z.wk k->e0 Z G G i u u:=λi _=>e0.at Z G i h.base.ww u.drawn
  refine h.B3 (es:=#[]) (aB:=G) (ga:=(0,(bt k).2.1,0)) (b:=false) k r w z (by rw[CS];exact h.base) (.inr rfl) (λ_ _=>rfl) rfl rfl rfl rfl y hgo (λfH=>.gone rfl d rfl) (.inl rfl) (.inl rfl) ?_;have e:bt k=((bt k).1,(bt k).2):=rfl;rw[e];exact eQ.head (Nat.pos_of_ne_zero I)
 .exact W v x n j a d H K M T
def eD.nH(h:eD X Z G gs u t m bt cb q cx rw du){i:Nat}(r:gs[i]?=some g):i=0\/(0<i/\i<Z.N)\/(∃k,i=Z.wk k/\(G.s k).c≠.un)\/(i=Z.N+2/\∃p,G.k=.at p):=by
 have y:=bu r;have c:=h.size;by_cases f:i=0
 .exact .inl f
 by_cases j:i<Z.N
 .exact .inr (.inl ⟨U,j⟩)
 by_cases l:i=Z.N
 .exact .inr (.inr (.inl ⟨false,l,h.base.b9.pG⟩))
 by_cases n:i=Z.N+1
 .refine .inr (.inr (.inl ⟨true,n,λe=>?_⟩))
  have:=h.base.b9.l9.2 e;rw[if_pos this]at c;omega
 have d:¬G.l<27:=by intro e;split at c<;>omega
 have o:¬G.l<26:=U;rw[if_neg o,if_neg d]at c;refine .inr (.inr (.inr ⟨U,?_⟩));rcases w:G.k with _|p
 .exact absurd (h.base.b9.mS.2 w) d
 .exact⟨p,rfl⟩
def xf{g:Goroutine}(h:g.offers=none)(r:Nat)(s:Bool):offersAt g r s = []:=by
 unfold offersAt;rw[h];split
 .rename_i d c;cases c
 .rfl
def eD.Eg(h:eD X Z G gs u t m bt cb q cx rw du){i:Nat}(F:i≠0)(c:gs[i]?=some g)(r:Nat):offersAt g r false = []:=by
 rcases h.nH c with e|⟨C,D⟩|⟨k,rfl,E⟩|⟨rfl,p,hp⟩
 .exact absurd e F
 .have:=(h.old i g C D c).status
  exact offersAt_of_not_blocked (by rcases this with e|e<;>rw[e]<;>simp) r false
 .obtain⟨B,d,_,f⟩:=h.dN k E
  rw[c]at d;obtain rfl:=bD d;generalize rw k=b at f;generalize (bt k).1=a at f;cases f with
  |run w _=>exact offersAt_of_not_blocked (by rw[w];simp) r false
  |sema _ o _ _ _=>exact xf o r false
  |snd v x n j b c K P J L H M I=>
   obtain⟨z,rfl⟩:=c;exact offersAt_parked_send' z Z.ch _ _ _ r
  |gone l _ _=>exact offersAt_of_not_blocked (by rw[l];simp) r false
 .obtain⟨B,d,y⟩:=h.eu p hp
  rw[c]at d;obtain rfl:=bD d;clear h;cases y with
  |run _ _ _ _ w=>exact offersAt_of_not_blocked (by rw[w];simp) r false
  |wait _ _ _ _ _ o _ _=>exact xf o r false
  |gone _ l=>exact offersAt_of_not_blocked (by rw[l];simp) r false
def eD.sends(h:eD X Z G gs u t m bt cb q cx rw du){i a:Nat}(f:gs[i]?=some g)(c:a∈offersAt g Z.ch true)(F:i≠0):
 a=0/\∃k v x n j b,i=Z.wk k/\(G.s k).c≠.un/\(∃z,g=parked z #[scase Z.ch (j5 k v) (.tuple #[])] .send)/\g7 (G.s k) ⟨.out (.snd v),(G.s k).bb⟩/\cB (fP (G.bP k)) Z G (Z.wk k) (.snd v) [] x g u n j/\At (fP (G.bP k)) b (.snd v) x/\n=b+1/\
  ((∀(n:Nat) own b o,(ib (G.bP k))[n]?=some (own,b,o)->G.b1 b≠Z.wk k)/\kA Z G (Z.wk k) u v):=by
 rcases h.nH f with e|⟨H,J⟩|⟨k,rfl,B⟩|⟨rfl,p,hp⟩
 .exact absurd e F
 .have:=(h.old i g H J f).status
  rw[offersAt_of_not_blocked (by rcases this with e|e<;>rw[e]<;>simp) Z.ch true]at c;cases c
 .obtain⟨E,d,_,l⟩:=h.dN k B
  rw[f]at d;obtain rfl:=bD d;generalize rw k=b at l;generalize (bt k).1=R at l;cases l with
  |run y _=>rw[offersAt_of_not_blocked (by rw[y];simp) Z.ch true]at c;cases c
  |sema _ w _ _ _=>rw[xf w Z.ch true]at c;cases c
  |snd v x n j b C L Q K P I T S=>
   have M:=C;obtain⟨z,e⟩:=M;rw[e,offersAt_parked_send,if_pos rfl]at c;exact⟨by simpa using c,k,v,x,n,j,b,rfl,B,C,L,Q,K,P,I⟩
  |gone r _ _=>rw[offersAt_of_not_blocked (by rw[r];simp) Z.ch true]at c;cases c
 .obtain⟨E,d,D⟩:=h.eu p hp
  rw[f]at d;obtain rfl:=bD d;clear h;cases D with
  |run _ _ _ _ y=>rw[offersAt_of_not_blocked (by rw[y];simp) Z.ch true]at c;cases c
  |wait _ _ _ _ _ w _ _=>rw[xf w Z.ch true]at c;cases c
  |gone _ r=>rw[offersAt_of_not_blocked (by rw[r];simp) Z.ch true]at c;cases c
def bX.fK(G:bX)(k:Bool)(bb:Bool)(v:Nat×Nat):bX:={G with s:=rG G.s k ⟨.out .d0,bb⟩,l:=G.l+1,cy:=hY G.cy k v}
def vL(c:Base Z G u t)(h:G.k.shut=false):u.heap[Z.ch]?=some (.chan 0 #[] false (dF G.l) (dF G.l) false):=by have:=c.ww.ch;rw[h]at this;exact this
def Base.meet(c:Base Z G u t)(g:(G.s k).c≠.un){v:Nat×Nat}(l:g7 (G.s k) ⟨.out (.snd v),(G.s k).bb⟩)(aj:G.l=28\/G.l=34)(d:Nat){p q:MemOp}(U:x.g=Z.wk k/\x.act=.send Z.ch (dF G.l))(V:y.act=.recv Z.ch (dF G.l) cap)(hp:p.act=.sendDone Z.ch (dF G.l))(T:q.g=0/\q.act=.recvDone Z.ch (dF G.l)):
 Base Z (G.fK k (G.s k).bb v) ((u.at d).setChan Z.ch 0 #[] false (dF G.l+1) (dF G.l+1) false) (t++#[x,y,p,q])/\∀i,e0 Z G (G.fK k (G.s k).bb v) i u ((u.at d).setChan Z.ch 0 #[] false (dF G.l+1) (dF G.l+1) false):=by
 have C:(G.s k).cR=.no:=by rw[<-l.cR];rfl
 have F:(G.s k).da=false:=by rw[<-l.da];rfl
 have E:=xg c C;have M:=vL c E;have D:=bu M;have e:∀j,(G.fK k (G.s k).bb v).s j=if j=k then⟨.out .d0,(G.s k).bb⟩else G.s j:=λ_=>rfl
 have B:dF (G.l+1)=dF G.l+1:=by rcases aj with aj|aj<;>rw[aj]<;>rfl
 generalize r:(u.at d).setChan Z.ch 0 #[] false (dF G.l+1) (dF G.l+1) false=aC;have n:∀b,b≠Z.ch->aC.heap[b]?=u.heap[b]?:=λb g=>by rw[<-r];exact h7 (Ne.symm g)
 have w:aC.heap.size=u.heap.size:=by rw[<-r];simp[World.setChan];rfl
 have P:Calm u aC:=by rw[<-r];exact⟨by simp[World.setChan];exact bg,rfl,rfl,Go.ConcM.OsLater.refl _⟩
 have I:ea Z (G.fK k (G.s k).bb v) aC:=by refine⟨(n _ c.ap.rC).trans c.ww.T,(n _ c.ap.wc).trans c.ww.W,?_,λb g L=>(n b (by have:=c.o4.2;omega)).trans (c.ww.old b g L),c.ww.calm.trans P⟩;show aC.heap[Z.ch]?=some (.chan 0 #[] G.k.shut (dF (G.l+1)) (dF (G.l+1)) false);rw[E,B,<-r];exact iO D
 have a:=c.b9;have o:∀j,((G.fK k (G.s k).bb v).s j).role=(G.s j).role:=λj=>by
  rw[e];split
  .rename_i f;subst f;rw[<-l.role];rfl
  .rfl
 have m:∀j,((G.fK k (G.s k).bb v).s j).cR=(G.s j).cR:=λj=>by
  rw[e];split
  .rename_i f;subst f;rw[C];rfl
  .rfl
 have z:∀j,((G.fK k (G.s k).bb v).s j).c=.un↔(G.s j).c=.un:=λj=>by
  rw[e];split
  .rename_i f;subst f;exact⟨λh=>(by cases h),λh=>absurd h g⟩
  .exact Iff.rfl
 have H:∀j,((G.fK k (G.s k).bb v).s j).eC=true->(G.s j).eC=true:=λj=>by
  rw[e];split
  .intro h;cases h
  .exact id
 have J:g5 (G.fK k (G.s k).bb v):=by
  refine⟨by rw[o,o];exact a.once,?_,by rw[m,m];exact a.bound,?_,?_,?_,λh=>a.pG ((z false).1 h),?_,λj f=>a.eC j (H j f)⟩
  .rw[m,m]
   have:=a.wg;show ey (decide (24<=G.l+1)) _ _ _=_;rw[show decide (24<=G.l+1)=decide (24<=G.l) by rcases aj with aj|aj<;>rw[aj]<;>rfl];exact this
  .show dF (G.l+1)=_
   rw[B,a.cnt,e,e];have s1:(⟨.out .d0,(G.s k).bb⟩:ck).da=true:=rfl;cases k
   .rw[F,if_pos rfl,s1,if_neg (show ¬(true=false) by simp)]
    simp;exact Nat.add_comm _ _
   .rw[F,if_pos rfl,s1,if_neg (show ¬(false=true) by simp)]
    simp
  .rw[z]
   show G.l+1<26↔_;rw[<-a.l9];omega
  .show G.l+1<27↔G.k=.un
   rw[<-a.mS];omega
  .show 17<=G.l+1
   have:=a.bY;omega
 have ee:eX Z (G.fK k (G.s k).bb v)=eX Z G:=by unfold eX;rw[o,o];rfl
 have R:j1 G.l=0:=by rcases aj with aj|aj<;>rw[aj]<;>rfl
 have S:j1 (G.l+1)=0:=by rcases aj with aj|aj<;>rw[aj]<;>rfl
 have Q:(G.s k).deaf=0:=by rw[<-l.deaf];rfl
 have W:=c.dy.comm (aB:=G.fK k (G.s k).bb v) k D Q R rfl rfl (λj f=>by rw[e,if_neg f]) rfl (by rw[e,if_pos rfl];rfl) (H k) (z k) S ee U V hp T;exact⟨c.rest rfl rfl rfl w I J (by rw[w];exact W),λi=>e0.same rfl rfl w (λb _ _ K=>n b K) I⟩
abbrev g3(Z:Stat):Array CommCase:=#[rcase Z.ch z0]
def DW{x:bA}{a:Nat}(aj:G.l=28\/G.l=34\/G.l=40)(h:c.ch=Z.ch)(g:At (hP Z) a ⟨G.l,c,M⟩ x):
 (∀r,eJ (hP Z) a (toGot G.l c M r) 400 (x.1.finish (oP r),x.2))/\∀main C st off (w:World),stepG aK main ⟨x.1,C,st,none,off⟩ w=.comm ⟨x.1,C,.running,none,none⟩ (g3 Z) true (.recv true) w:=by
 have he:Edge.comm #[{chan:=.chan (some c.ch),send:=none,zero:=.agg #[.int .i64 0,dg]}] true (.recv true) oP (toGot G.l c M)∈(hP Z).cz ⟨G.l,c,M⟩:=by rcases aj with aj|aj|aj<;>rw[aj]<;>exact bI
 obtain⟨d,f⟩:=g.comm (po Z) he;refine⟨λr=>(d r).1,λmain C st off w=>?_⟩;have:=f main C st off w;rw[h]at this;exact this
def Ha{bP:mi}{v:Nat×Nat}{x:bA}{a:Nat}(g:bP.ch=Z.ch)(h:bP.i=if k then 1 else 0)(f:At (fP bP) a (.snd v) x):
 eJ (fP bP) a .d0 400 (x.1.finish undef,x.2)/\∀main C st off (w:World),stepG aK main ⟨x.1,C,st,none,off⟩ w=.comm ⟨x.1,C,.running,none,none⟩ #[scase Z.ch (j5 k v) (.tuple #[])] true .send w:=by
 obtain⟨c,d⟩:=f.comm (pr _) (cases:=#[{chan:=.chan (some bP.ch),send:=some (.agg #[.int .i64 bP.i,four v]),zero:=.tuple #[]}]) (b:=true) (bK:=.send) (cy:=λ_:Unit=>undef) (to:=λ_=>.d0) bI;refine⟨(c ()).1,λmain C st off w=>?_⟩;have:=d main C st off w;rw[g,h]at this;exact this
def eD.meet(h:eD X Z G gs u t m bt cb q cx rw du)(aE:(G.s k).c≠.un){v:Nat×Nat}(af:g7 (G.s k) ⟨.out (.snd v),(G.s k).bb⟩)(aj:G.l=28\/G.l=34){C:bA}{ax su:Goroutine}{nw aS E:Nat}(z:cB (fP (G.bP k)) Z G (Z.wk k) (.snd v) [] C ax u nw aS)(aD:At (fP (G.bP k)) E (.snd v) C)(ae:(∀(n:Nat) own b o,(ib (G.bP k))[n]?=some (own,b,o)->G.b1 b≠Z.wk k)/\kA Z G (Z.wk k) u v){B:bA}{aw sr:Goroutine}{aa ap am:Nat}(hm:jl Z G aw u c M B aa ap)(aB:At (hP Z) am ⟨G.l,c,M⟩ B)(a3:aa=am+1)(a2:m=aa*500+ap)(K:su=⟨C.1.finish undef,C.2,.running,none,none⟩)(J:sr=⟨B.1.finish (oP (some (k,v))),B.2++Z.base,.running,none,none⟩)(aO:bm.size=gs.size)(ay:bm[0]?=some sr)(aQ:bm[Z.wk k]?=some su)(Y:∀i,i≠0->i≠Z.wk k->bm[i]?=gs[i]?)(d:Nat){p g2:MemOp}(al:x.g=Z.wk k/\x.act=.send Z.ch (dF G.l))(ao:y.act=.recv Z.ch (dF G.l) cap)(hp:p.act=.sendDone Z.ch (dF G.l))(ak:g2.g=0/\g2.act=.recvDone Z.ch (dF G.l)):
 ∃dd ga hS H,eD X Z (G.fK k (G.s k).bb v) bm ((u.at d).setChan Z.ch 0 #[] false (dF G.l+1) (dF G.l+1) false) (t++#[x,y,p,g2]) dd ga cb q true hS H/\dd<m:=by
 have aA:=h.base.ap.pos;obtain⟨V,f⟩:=h.base.meet aE af aj d al ao hp ak;generalize a4:(u.at d).setChan Z.ch 0 #[] false (dF G.l+1) (dF G.l+1) false=aC at V f;have e:∀j,(G.fK k (G.s k).bb v).s j=if j=k then⟨.out .d0,(G.s k).bb⟩else G.s j:=λ_=>rfl
 have I:∀j,(G.fK k (G.s k).bb v).cy j=if j=k then v else G.cy j:=λ_=>rfl
 obtain⟨aY,aZ,c3,a0,aq⟩:=h.base.cfg k;have aI:G.l=28\/G.l=34\/G.l=40:=aj.imp id .inl;obtain⟨aK,_⟩:=DW aI hm.ok.cfg.2.2.1 aB;obtain⟨aR,_⟩:=Ha (k:=k) c3 aq aD;have F:=kS.id Z aC;have aJ:¬G.l=40:=U;have aP:toGot G.l c M (some (k,v))=⟨G.l+1,{c with k:=k,r:=v},M⟩:=by show(if G.l=40 then _ else _)=_;rw[if_neg aJ]
 have aN:(G.s k).da=false:=by rw[<-af.da];rfl
 have aF:∀j,Deaf (t++#[x,y,p,g2]) j=Deaf t j:=λj=>oI (D5 h.base.fv.2.2 al.2 ao hp ak.2) j
 have a1:(Z.wk (!k))≠Z.wk k:=G6 k;have az:jl Z (G.fK k (G.s k).bb v) sr aC {c with k:=k,r:=v} M (B.1.finish (oP (some (k,v))),B.2) am 400:=by
  have ai:=aK (some (k,v));rw[aP]at ai;refine⟨⟨ai,bg,by rw[J],by rw[J],by rw[J],hm.at_.mem.rely hm.at_.own (f 0) hm.at_.mem.floor,hm.at_.own.rely hm.at_.mem (f 0)⟩,?_⟩;obtain⟨aT,a5,aU,a6,a7⟩:=hm.ok;refine⟨aT,λhle=>?_,?_,λ_=>⟨by rw[e,if_pos rfl];rfl,by rw[I,if_pos rfl]⟩,?_⟩
  .have:(G.fK k (G.s k).bb v).l=G.l+1:=rfl
   omega
  .rw[aU]
   have aV:lh G.l=false:=by rcases aj with aj|aj<;>rw[aj]<;>rfl
   have aW:lh (G.fK k (G.s k).bb v).l=true:=by show lh (G.l+1)=true;rcases aj with aj|aj<;>rw[aj]<;>rfl
   have ar:iB (G.fK k (G.s k).bb v) {c with k:=k,r:=v}=iB G c:=by
    funext j;unfold iB;rw[aV,aW,e,I];by_cases l:j=k
    .subst l;rw[aN];simp
    .rw[if_neg l,if_neg l]
     have:(k == j)=false:=by simp[Ne.symm l]
     simp[this]
   rw[ar]
  .show G.l+1<=40
   omega
 have hW:fz X Z (G.fK k (G.s k).bb v) k su aC ((G.fK k (G.s k).bb v).s k) (if hQ .d0 then 3 else 1,(bt k).2.1,E*500+400):=by
  rw[e,if_pos rfl];refine .out (x:=(C.1.finish undef,C.2)) (bt k).2.1 rfl ⟨aR,bg,by rw[K],by rw[K];simp,by rw[K],z.mem.rely z.own (f _) z.mem.floor,z.own.rely z.mem (f _)⟩ (λh=>by cases h) (λn own b o he=>?_) (λr L=>?_)
  .rw[(f (Z.wk k)).b1 b (gL (M:=ib (G.bP k)) z.mem he)]
   exact ae.1 n own b o he
  .have:r=v:=by have L:some ((G.fK k (G.s k).bb v).cy k)=some r:=L;rw[I,if_pos rfl]at L;exact(bD L).symm
   subst this;exact ae.2.rely (f _)
 obtain⟨aX,aM⟩:=sT (P:=λj b=>∃g,bm[Z.wk j]?=some g/\fz X Z (G.fK k (G.s k).bb v) j g aC ((G.fK k (G.s k).bb v).s j) (hY bt k (if hQ .d0 then 3 else 1,(bt k).2.1,E*500+400) j)/\iJ Z (G.fK k (G.s k).bb v) j g aC true (hY bt k (if hQ .d0 then 3 else 1,(bt k).2.1,E*500+400) j).1 b) (D:=λj=>((G.fK k (G.s k).bb v).s j).c≠.un) λj l=>by
  by_cases w:j=k
  .subst w
   refine⟨true,su,aQ,?_,?_⟩
   .unfold hY;rw[if_pos rfl];exact hW
   .unfold hY;rw[if_pos rfl];exact .run (by rw[K]) (Nat.succ_ne_zero 0)
  .rw[e,if_neg w]at l
   obtain⟨g,R,S,T⟩:=h.dN j l;have es:(G.fK k (G.s k).bb v).s j=G.s j:=by rw[e,if_neg w]
   have ad:(G.fK k (G.s k).bb v).cy j=G.cy j:=by rw[I,if_neg w]
   obtain⟨Q,s1,s2,a8,a9⟩:=T.lp F V es rfl ad (f _) (.inl rfl) (λ_=>rfl);refine⟨Q,g,by rw[Y _ (ji aA j) (G7 w)];exact R,?_,?_⟩
   .rw[es];unfold hY;rw[if_neg w];exact S.rely rfl ad (f _) rfl rfl rfl id
   .unfold hY;rw[if_neg w];exact s1
 obtain⟨H,aL⟩:∃H,∀p,(G.fK k (G.s k).bb v).k=.at p->∃g,bm[Z.N+2]?=some g/\lr Z (G.fK k (G.s k).bb v) p g aC cb H:=by
  have ah:(G.fK k (G.s k).bb v).k=G.k:=rfl;rcases W:G.k with _|p
  .exact⟨false,λp hp=>by rw[ah,W]at hp;cases hp⟩
  .obtain⟨au,R,S⟩:=h.eu p W
   obtain⟨Q,T⟩:=S.lp F (f _) (.inl rfl);exact⟨Q,λia hp=>by rw[ah,W]at hp;cases hp;exact⟨au,by rw[Y _ U (Ne.symm (vf Z k))];exact R,T⟩⟩
 refine⟨am*500+400,hY bt k (if hQ .d0 then 3 else 1,(bt k).2.1,E*500+400),aX,H,⟨V,?_,⟨sr,_,M,_,am,400,ay,az,rfl,.run (by rw[J])⟩,aM,aL,λi av aG aH ag=>?_⟩,U⟩
 .rw[aO,h.size]
  show _=Z.N+(if G.l+1<26 then 1 else if G.l+1<27 then 2 else 3)
  rw[if_neg U,if_neg U,if_neg U,if_neg U]
 .rw[Y i U (by cases k<;>simp[Stat.wk]<;>omega)]at ag
  rw[aF];exact h.old i av aG aH ag
end
end Go.aO
