/- Part 15 of a law on fees: no conditions. -/
import Derived.Test.YthiiblonjmmnfaaGreatDoorP13
import Derived.Conc.CrowdComm
set_option maxHeartbeats 8000000
set_option maxRecDepth 100000
set_option linter.all false
namespace Go.aN
attribute [-simp] Go.Sem.runT_eq
open Go.Proofs Go.Conc Go.ConcN
section
variable{X:dJ}{Z:Stat}[gh X Z]{G au:bI}{u ay w:World}{t a' v:Trace}{k:Bool}{B:Nat}
def oS(B:Nat)(v:Trace):Prop:=∀op∈v,op.act.touch?=none/\op.act≠.mark .disable/\op.act≠.mark .enable/\op.act.low B
def ps{M:Trace->Prop}(g:M t)(c:∀(s:Trace) (y:MemOp),y∈v->t.size<=s.size->M s->M (s++#[y])):M (t++v):=by
 obtain⟨l⟩:=v;have key:∀(l:List MemOp) (s:Trace),t.size<=s.size->M s->(∀y∈l,∀s:Trace,t.size<=s.size->M s->M (s++#[y]))->M (s++l.toArray):=by
  intro l;induction l with
  |nil=>intro s _ h _;simpa using h
  |cons a l i=>
   intro s f h c;have e:s++(a::l).toArray=(s++#[a])++l.toArray:=by apply Array.ext';simp
   rw[e];exact i _ (by simp;omega) (c a (by simp) s f h) λy d=>c y (by simp[d])
 exact key l t Pk g λy d s f h=>c s y (by simpa using d) f h
def m0(c:oS B v)(g:Nat):Deaf (t++v) g=Deaf t g:=by
 refine ps (M:=λs=>Deaf s g=Deaf t g) rfl λs y d _ h=>?_
 rw[Deaf_push];unfold deafStep;have:=c y d;split
 .rename_i e;exact absurd e this.2.1
 .rename_i e;exact absurd e this.2.2.1
 .exact h
def ep.Bv(h:ep Z G t B)(c:oS B v)(X:eF (pl Z au) t (ef Z au) B)(W:∀g,gp Z au g->Started (pl Z au) (t++v) g)(J:∀g,gp Z G g->gp Z au g)(p:∀a:dR,a.deaf au=a.deaf G)(S:∀k,(au.s k).dO=true->(G.s k).dO=true)(T:∀k,(au.s k).cI=true->(G.s k).cI=true\/Told (pl Z au) (· = Z.W) (t++v) (Z.wk k))(V:au.k.shut=true->G.k.shut=true)(R:au.k.said=false->G.k.said=false):ep Z au (t++v) B:=by
 have hu:∀op∈v,op.act.touch?=none:=λop f=>(c op f).1
 refine⟨?_,W,λk U=>?_,?_,λk=>?_,?_,λj l=>?_,λk U=>?_,λU=>?_,λe i a d w=>?_,λi op d L r=>?_,λi g d F K E=>?_⟩
 .exact ps (M:=λs=>eF (pl Z au) s (ef Z au) B) X λs y o _ h=>h.one y (c y o).1 (c y o).2.2.2
 .exact ps (M:=λs=>hr (pl Z au) s (Z.wk k)) (h.sI k (S k U)) λs y o _ h=>h.one y (c y o).1
 .rw[m0 c];exact h.d0.trans (p .main).symm
 .rw[m0 c];exact(h.o8 k).trans (p (.de k)).symm
 .rw[m0 c];exact h.m1.trans (p .dK).symm
 .rw[m0 c];exact h.above j l
 .rcases T k U with U|U
  .exact(h.told k U).other λop f _=>hu op f
  .exact U
 .exact(h.shut (V U)).app λop f _=>hu op f
 .obtain⟨_,C⟩:=sx hu w
  exact h.said (R e) i a d C
 .rcases getElem?_append_cases L with⟨_,P⟩|⟨_,Q⟩
  .exact J _ (h.l7 i op d P r)
  .exact absurd (hu op Q) r
 .have q:i<t.size:=by have aa:=h.c6.size;have ad:(pl Z G).cH=Z.cH:=rfl;omega
  have H:t.g? i=some g:=by rw[<-n3 (u:=v) q];exact F
  obtain⟨j,l,D⟩:=h.over i g d H K ((counts_old q).1 E);have I:j<t.size:=by have:(t[j]?).map (·.g)=some 0:=l;obtain⟨z,Y,_⟩:=Option.map_eq_some_iff.1 this;exact lt_size_of_getElem? Y
  exact⟨j,by rw[n3 I];exact l,hb_app _ D⟩
def M6{L:oU}{g:Nat}(h:Started L t g)(c:L.cH<=t.size)(d:oS B v):Started L (t++v) g:=by
 have:=ps (t:=t) (v:=v) (M:=λs=>Started L s g/\L.cH<=s.size) ⟨h,c⟩ λs y f _ h=>⟨h.1.one y (d y f).1 h.2,by simp;omega⟩
 exact this.1
def Bu{c s r cap:Nat}{x y p q:MemOp}(d:c<B)(i:x.act=.send c s)(j:y.act=.recv c r cap)(g:p.act=.sendDone c s)(h:q.act=.recvDone c r):oS B #[x,y,p,q]:=by
 intro op f;simp only[List.mem_toArray,List.mem_cons,PD,or_false]at f;rcases f with rfl|rfl|rfl|rfl
 .rw[i];exact⟨rfl,by simp,by simp,d⟩
 .rw[j];exact⟨rfl,by simp,by simp,d⟩
 .rw[g];exact⟨rfl,by simp,by simp,d⟩
 .rw[h];exact⟨rfl,by simp,by simp,d⟩
def ep.comm(h:ep Z G t B)(k:Bool)(C:Z.ch<B)(hd:(G.s k).deaf=0)(hm:iJ G.l=0)(F:au.bO=G.bO)(I:au.ro=G.ro)(l:∀j,j≠k->au.s j=G.s j)(i:au.k=G.k)(D:(au.s k).deaf=0)(J:(au.s k).dO=true->(G.s k).dO=true)(M:(au.s k).c=.un↔(G.s k).c=.un)(E:iJ au.l=0)(ei:ef Z au=ef Z G){s cap:Nat}{x y p q:MemOp}(w:x.g=Z.wk k/\x.act=.send Z.ch s)(L:y.act=.recv Z.ch s cap)(H:p.act=.sendDone Z.ch s)(u:q.g=0/\q.act=.recvDone Z.ch s):ep Z au (t++#[x,y,p,q]) B:=by
 have f:oS B #[x,y,p,q]:=Bu C w.2 L H u.2;have z:Grow G au B:=⟨λb _=>by rw[F],I⟩
 have mt:∀g,gp Z au g↔gp Z G g:=by
  intro g;have K:∀j,(au.s j).c≠.un↔(G.s j).c≠.un:=λj=>by
   by_cases c:j=k
   .subst c;exact not_congr M
   .rw[l j c]
  unfold gp;rw[i];simp only[K]
 refine h.Bv f (by rw[ei];exact h.c6.mx z) (λg o=>?_) (λg o=>(mt g).2 o) (λa=>?_) (λj c=>?_) (λj c=>?_) (by rw[i];exact id) (by rw[i];exact id)
 .exact M6 ((h.st g ((mt g).1 o)).mx z) h.c6.size f
 .cases a with
  |main=>exact E.trans hm.symm
  |de j=>
   show(au.s j).deaf=(G.s j).deaf;by_cases c:j=k
   .subst c;rw[hd,D]
   .rw[l j c]
  |dK=>show au.k.deaf=G.k.deaf;rw[i]
 .by_cases d:j=k
  .subst d;exact J c
  .rw[l j d]at c;exact c
 .by_cases d:j=k
  .subst d
   refine .inr (NR (i1:=0) (i2:=3) ⟨rfl,w.1,w.2⟩ ⟨rfl,u.1,u.2⟩ (λop r=>⟨(f op r).1,(f op r).2.1,(f op r).2.2.1⟩) ?_ ?_)
   .rw[h.o8];exact hd
   .rw[h.d0];exact hm
  .rw[l j d]at c;exact .inl c
def eF.qZ{s:oY}(h:eF (pl Z G) t s B)(o:au.bO=G.bO)(p:∀g b,G.ro g b->au.ro g b):eF (pl Z au) t s B:=by
 refine⟨h.clean,h.size,h.gH,λi op a j l f hm c d=>?_,?_,h.seen⟩
 .refine(h.own i op a j l f hm c d).imp (λx=>?_) λx=>⟨x.1,p _ _ x.2.1,x.2.2⟩
  show op.g=au.bO _;rw[o];exact x
 .have:=h.cq
  cases s<;>exact this
def ep.spawn{b3:dR}(h:ep Z G t B)(D:0<Z.N)(hm:iJ G.l=0)(I:iJ au.l=0)(H:b3≠.main)(E:b3.deaf G=0)(K:au.bO=G.bO)(L:∀g b,G.ro g b->au.ro g b)(M:∀g b,g≠b3.num Z->au.ro g b->G.ro g b)(P:∀b,au.ro (b3.num Z) b->au.bO b=0)(F:oL (pl Z au))(p:∀j,(au.s j).deaf=(G.s j).deaf/\((au.s j).dO=true->(G.s j).dO=true)/\((au.s j).cI=true->(G.s j).cI=true))(o:au.k.deaf=G.k.deaf/\(au.k.shut=true->G.k.shut=true)/\(au.k.said=false->G.k.said=false))(u:∀g,gp Z au g↔(gp Z G g\/g=b3.num Z))(ei:ef Z au=ef Z G){x y:MemOp}(q:x.g=0/\x.act=.go (b3.num Z))(r:y.g=b3.num Z/\y.act=.start):ep Z au (t++#[x,y]) B:=by
 have Q:oS B #[x,y]:=by
  intro op w;simp only[List.mem_toArray,List.mem_cons,PD,or_false]at w;rcases w with rfl|rfl
  .rw[q.2];exact⟨rfl,by simp,by simp,trivial⟩
  .rw[r.2];exact⟨rfl,by simp,by simp,trivial⟩
 have z:eF (pl Z au) t (ef Z au) B:=by rw[ei];exact h.c6.qZ K L
 have old:∀g,gp Z G g->g≠b3.num Z->Started (pl Z au) t g:=λg c J=>by have:=h.st g c;exact⟨this.old,λl d=>this.ro l ⟨M g _ J d.1,d.2⟩⟩
 have C:b3.num Z≠0:=λe=>H (dR.uJ D (a:=b3) (b:=.main) e)
 refine h.Bv Q z (λg c=>?_) (λg c=>(u g).2 (.inl c)) (λa=>?_) (λj i=>(p j).2.1 i) (λj i=>.inl ((p j).2.2 i)) o.2.1 o.2.2
 .by_cases f:g=b3.num Z
  .subst f
   refine(old 0 (.inl rfl) (Ne.symm C)).child z q r (h.d0.trans hm) ((h.rX b3).trans E) F λl d=>?_
   have:=P _ d.1;exact⟨d.2.1,this,λ_ _ _=>this⟩
  .exact(old g (((u g).1 c).resolve_right f) f).LV h.c6.size q r
 .cases a with
  |main=>exact I.trans hm.symm
  |de j=>exact(p j).1
  |dK=>exact o.1
def ep.finish(h:ep Z G t B)(ad:0<Z.N)(F:Z.ch<B)(R:∀k,(G.s k).cI=true)(S:G.k.shut=true)(hm:iJ G.l=0){y:MemOp}(p:y.g=0/\y.act=.recvClosed Z.ch):ji (λb=>Z.aE b\/b=Z.W) B (t++#[y]):=by
 have l:y.act.touch?=none:=by rw[p.2];rfl
 have K:y.act.low B:=by rw[p.2];exact F
 have hu:∀op∈#[y],op.act.touch?=none:=λop o=>by
  have e:op=y:=by simpa using o
  rw[e];exact l
 have d0:Deaf t 0=0:=h.d0.trans hm;refine(h.c6.one y l K).qU (W:=(· = Z.W)) ((h.st 0 (.inl rfl)).one y l h.c6.size) (λi op f ae=>?_) (λi g f H L E=>?_)
 .by_cases w:gp Z G op.g
  .rcases w with e|⟨k,e,_⟩|⟨e,_⟩
   .exact .inl e
   .rw[e];exact .inr ((h.told k (R k)).other λop o _=>hu op o)
   .rw[e];exact .inr ((h.shut S).told p d0 (by omega))
  .refine .inr λU C V I M d c _=>?_
   rcases getElem?_append_cases M with⟨_,P⟩|⟨_,Q⟩
   .exact absurd (d ▸ h.l7 U C I P (by rw[c];simp)) w
   .rw[hu C Q]at c;cases c
 .have r:i<t.size:=by have X:=h.c6.size;have Y:(pl Z G).cH=Z.cH:=rfl;have aa:i<Z.cH:=f;omega
  have d:t.g? i=some g:=by rw[<-n3 (u:=#[y]) r];exact H
  obtain⟨j,q,D⟩:=h.over i g f d L ((counts_old r).1 E);have J:j<t.size:=by have:(t[j]?).map (·.g)=some 0:=q;obtain⟨z,T,_⟩:=Option.map_eq_some_iff.1 this;exact lt_size_of_getElem? T
  exact⟨j,by rw[n3 J];exact q,hb_app _ D⟩
end
section
variable{X:dJ}{Z:Stat}[gh X Z]{G au:bI}{u ay w:World}{t a':Trace}{k:Bool}{g g':Goroutine}{c:e0}{M:Mem}{x:bs}{n j:Nat}{p:fG}
def z0:Value:=.agg #[i0,cN]
def iN(k:Bool)(v:Nat×Nat):Value:=.agg #[.int .i64 (if k then 1 else 0),four v]
inductive oQ(Z:Stat)(G:bI)(g:Goroutine)(c:e0)(M:Mem)(x:bs)(n:Nat):Bool->Prop
 |run (h:g.status=.running):oQ Z G g c M x n true
 |pB (a:Nat) (ae:∃b2,g=parked b2 #[rcase Z.ch z0] (.recv true)) (ah:G.l=28\/G.l=34\/G.l=40) (ak:n=a+1) (aJ:At (gB Z) a ⟨G.l,c,M⟩ x) (dd:G.k.shut=false):oQ Z G g c M x n false
inductive ht(Z:Stat)(G:bI)(k:Bool)(g:Goroutine)(w:World)(ck:Bool):Nat->Bool->Prop
 |run {a} (h:g.status=.running) (aa:a≠0):ht Z G k g w ck a true
 |sema {a} (h:g.status=.blocked) (av:g.offers=none) (al:∃b,(G.s k).c=.lock (.ow b)) (eW:G.ms=0) (aa:a≠0):ht Z G k g w ck a false
 |snd {a} (v:Nat×Nat) (x:bs) (n j b:Nat) (ae:∃b2,g=parked b2 #[scase Z.ch (iN k v) (.tuple #[])] .send) (al:fU (G.s k) ⟨.out (.snd v),(G.s k).a2⟩) (az:cn (eZ (G.bC k)) Z G (Z.wk k) (.snd v) [] x g w n j) (aJ:At (eZ (G.bC k)) b (.snd v) x) (ak:n=b+1)
  (gz:(∀(n:Nat) own b o,(gZ (G.bC k))[n]?=some (own,b,o)->G.bO b≠Z.wk k)/\jh Z G (Z.wk k) w v) (ia:ck=true) (aa:a≠0):ht Z G k g w ck a false
 |gone {a} (h:g.status=.finished) (al:(G.s k).c=.out .fin) (aa:a=0):ht Z G k g w ck a false
inductive j0(Z:Stat)(G:bI)(p:fG)(g:Goroutine)(w:World):Nat->Bool->Prop
 |run (x:bs) (n j:Nat) (az:cn (ic Z) Z G (Z.N+2) p [] x g w n j) (h:g.status=.running):j0 Z G p g w (n*500+j+1) true
 |wait (x:bs) (n j:Nat) (az:cn (ic Z) Z G (Z.N+2) p [] x g w n j) (h:g.status=.blocked) (av:g.offers=none) (aQ:p=.fi) (hm:G.m=0):j0 Z G p g w (n*500+j+1) false
 |gone (aQ:p=.fin) (h:g.status=.finished):j0 Z G p g w 0 false
structure jA(Z:Stat)(ay:World)(wk:Bool)(f:Goroutine->Goroutine):Prop where
 rest:∀o,o.status=.running\/o.status=.finished->f o=o
 alt:∀o:Goroutine,o.status=.blocked->o.offers=none->f o=o\/f o={o with status:=.running}
 DT:wk=true->∀o:Goroutine,o.status=.blocked->o.offers=none->f o={o with status:=.running}
 JH:∀b2 z bB,(∃s r,ay.heap[Z.ch]?=some (.chan 0 #[] false s r false))->f (parked b2 #[rcase Z.ch z] bB)=parked b2 #[rcase Z.ch z] bB
 JI:∀b2 v z bB,(∃s r,ay.heap[Z.ch]?=some (.chan 0 #[] false s r false))->f (parked b2 #[scase Z.ch v z] bB)=parked b2 #[scase Z.ch v z] bB
 LF:wk=true->∀b2 z bB,(∃s r,ay.heap[Z.ch]?=some (.chan 0 #[] true s r false))->f (parked b2 #[rcase Z.ch z] bB)={parked b2 #[rcase Z.ch z] bB with status:=.running}
def jA.id(Z:Stat)(ay:World):jA Z ay false (λo=>o):=⟨λ_ _=>rfl,λ_ _ _=>.inl rfl,λh=>(by cases h),λ_ _ _ _=>rfl,λ_ _ _ _ _=>rfl,λh=>(by cases h)⟩
def jA.woken(Z:Stat)(a c:Goroutine)(ay:World)(h:c.status=.running\/c.status=.finished):jA Z ay (mayWake aF a) (woken aF a c ay):=by
 have q:(c.status !=.blocked && c.status !=.waiting)=true:=by rcases h with h|h<;>rw[h]<;>rfl
 have d:∀o,Go.Conc.woken aF a c ay o=if mayWake aF a then o.again ay else o:=λo=>by
  unfold Go.Conc.woken;rcases hm:mayWake aF a with _|_
  .simp
  .rw[Bool.and_assoc,q];rfl
 have j:∀o:Goroutine,o.status=.blocked->o.offers=none->o.again ay={o with status:=.running}:=λo f g=>by unfold Goroutine.again;rw[f,g]
 refine⟨λo p=>?_,λo f g=>?_,λhm o f g=>?_,λl z bB ⟨s,r,i⟩=>?_,λl v z bB ⟨s,r,i⟩=>?_,λhm l z bB ⟨s,r,i⟩=>?_⟩
 .rw[d];split
  .exact again_running _ p
  .rfl
 .rw[d];split
  .exact .inr (j o f g)
  .exact .inl rfl
 .rw[d,if_pos hm];exact j o f g
 .rw[d];split
  .exact again_recv_open i
  .rfl
 .rw[d];split
  .exact again_send_open i
  .rfl
 .rw[d,if_pos hm];exact again_recv_closed i
def hZ.rely(h:hZ Z G g w c M x n j)(d:au.l=G.l)(i:∀k,(au.s k).cI=(G.s k).cI)(f:au.cl=G.cl)(r:eh Z G au 0 w ay)(l:g'.frame=g.frame)(o:g'.callers=g.callers)(p:g'.dying=g.dying):hZ Z au g' ay c M x n j:=by
 refine⟨by rw[d];exact h.at_.rely r l o p,?_⟩;obtain⟨q,u,z,B,C⟩:=h.ok;have e:hk au c=hk G c:=by funext k;unfold hk;rw[i,f,d]
 exact⟨q,by rw[d];exact u,by rw[e];exact z,by rw[d,i,f];exact B,by rw[d];exact C⟩
def oQ.jY{wk b:Bool}{f:Goroutine->Goroutine}(h:oQ Z G g c M x n b)(F:jA Z ay wk f)(l:au.l=G.l)(o:dv Z au ay)(z:au.k.shut=G.k.shut\/wk=true):∃j,oQ Z au (f g) c M x n j/\(f g).frame=g.frame/\(f g).callers=g.callers/\(f g).dying=g.dying/\(b=true->j=true):=by
 cases h with
 |run h=>exact⟨true,.run (by rw[F.rest g (.inl h)];exact h),by rw[F.rest g (.inl h)],by rw[F.rest g (.inl h)],by rw[F.rest g (.inl h)],id⟩
 |pB a q r u p w=>
  obtain⟨i,rfl⟩:=q;rcases d:au.k.shut with _|_
  .have e:=F.JH i z0 (.recv true) ⟨_,_,by have:=o.ch;rw[d]at this;exact this⟩
   exact⟨false,.pB a ⟨i,e⟩ (by rw[l];exact r) u (by rw[l];exact p) d,by rw[e],by rw[e],by rw[e],λh=>by cases h⟩
  .have B:wk=true:=by
    rcases z with h|h
    .rw[d,w]at h;cases h
    .exact h
   have e:=F.LF B i z0 (.recv true) ⟨_,_,by have:=o.ch;rw[d]at this;exact this⟩;exact⟨true,.run (by rw[e]),by rw[e],by rw[e],by rw[e],λ_=>rfl⟩
def uO(f:Base Z G w t)(h:(G.s k).cy=.no):G.k.shut=false:=by
 rcases g:G.k with _|p
 .rfl
 .cases p with
  |fin=>
   have:=f.bT.pk g;obtain⟨_,c,d⟩:=s5 this;cases k
   .rw[c]at h;cases h
   .rw[d]at h;cases h
  |_=>rfl
def ht.jY{wk b ck eR:Bool}{m:Nat}{f:Goroutine->Goroutine}(h:ht Z G k g w ck m b)(F:jA Z ay wk f)(B:Base Z au ay a')(l:au.s k=G.s k)(p:au.bC k=G.bC k)(W:au.cl k=G.cl k)(r:eh Z G au (Z.wk k) w ay)(P:au.ms=G.ms\/au.ms=0\/wk=true)(T:ck=true->eR=true):
 ∃H,ht Z au k (f g) ay eR m H/\(f g).frame=g.frame/\(f g).callers=g.callers/\(f g).dying=g.dying:=by
 cases h with
 |run h c=>exact⟨true,.run (by rw[F.rest g (.inl h)];exact h) c,by rw[F.rest g (.inl h)],by rw[F.rest g (.inl h)],by rw[F.rest g (.inl h)]⟩
 |sema h q d hm c=>
  rcases F.alt g h q with e|e
  .by_cases u:au.ms=0
   .exact⟨false,.sema (by rw[e];exact h) (by rw[e];exact q) (by rw[l];exact d) u c,by rw[e],by rw[e],by rw[e]⟩
   .have V:wk=true:=by
     rcases P with I|I|I
     .rw[hm]at I;exact absurd I u
     .exact absurd I u
     .exact I
    have i:=F.DT V g h q;exact⟨true,.run (by rw[i]) c,by rw[i],by rw[i],by rw[i]⟩
  .exact⟨true,.run (by rw[e]) c,by rw[e],by rw[e],by rw[e]⟩
 |snd v x n j b K d E J Q C U c=>
  obtain⟨z,rfl⟩:=K;have R:(au.s k).cy=.no:=by rw[l,<-d.cy];rfl
  have S:=uO B R;have D:=B.ww.ch;rw[S]at D;have e:=F.JI z (iN k v) (.tuple #[]) .send ⟨_,_,D⟩;refine⟨false,.snd v x n j b ⟨z,e⟩ (by rw[l];exact d) (by rw[p];exact E.rely r (by rw[e]) (by rw[e]) (by rw[e])) (by rw[p];exact J) Q ⟨λn own b o he=>?_,C.2.rely r⟩ (T U) c,by rw[e],by rw[e],by rw[e]⟩;rw[p]at he;have L:=fB (M:=gZ (G.bC k)) E.mem he;rw[r.bO b L];exact C.1 n own b o he
 |gone h d c=>exact⟨false,.gone (by rw[F.rest g (.inr h)];exact h) (by rw[l];exact d) c,by rw[F.rest g (.inr h)],by rw[F.rest g (.inr h)],by rw[F.rest g (.inr h)]⟩
def j0.jY{wk b:Bool}{m:Nat}{f:Goroutine->Goroutine}(h:j0 Z G p g w m b)(F:jA Z ay wk f)(r:eh Z G au (Z.N+2) w ay)(hm:au.m=G.m\/au.m=0\/wk=true):∃q,j0 Z au p (f g) ay m q:=by
 cases h with
 |run x n j c h=>
  have e:=F.rest g (.inl h);exact⟨true,.run x n j (c.rely r (by rw[e]) (by rw[e]) (by rw[e])) (by rw[e];exact h)⟩
 |wait x n j c h i l u=>
  rcases F.alt g h i with e|e
  .by_cases o:au.m=0
   .exact⟨false,.wait x n j (c.rely r (by rw[e]) (by rw[e]) (by rw[e])) (by rw[e];exact h) (by rw[e];exact i) l o⟩
   .have z:wk=true:=by
     rcases hm with I|I|I
     .rw[u]at I;exact absurd I o
     .exact absurd I o
     .exact I
    have d:=F.DT z g h i;exact⟨true,.run x n j (c.rely r (by rw[d]) (by rw[d]) (by rw[d])) (by rw[d])⟩
  .exact⟨true,.run x n j (c.rely r (by rw[e]) (by rw[e]) (by rw[e])) (by rw[e])⟩
 |gone l h=>exact⟨false,.gone l (by rw[F.rest g (.inr h)];exact h)⟩
end
section
variable{X:dJ}{Z:Stat}[gh X Z]{G au:bI}{gs bf:Array Goroutine}{u ay w:World}{t a':Trace}{k:Bool}{g g':Goroutine}{m cP cb hh:Nat}{bl:Bool->fI X.Q}{q:Nat->Nat}{ck c0:Bool}{gD rw:Bool->Bool}
structure dP(X:dJ)(Z:Stat)(G:bI)(gs:Array Goroutine)(w:World)(t:Trace)(m:Nat)(bl:Bool->fI X.Q)(cb:Nat)(q:Nat->Nat)(ck:Bool)(rw:Bool->Bool)(c0:Bool):Prop where
 base:Base Z G w t
 size:gs.size=Z.N+(if G.l<26 then 1 else if G.l<27 then 2 else 3)
 main:∃g c M x n j,gs[0]?=some g/\hZ Z G g w c M x n j/\m=n*500+j/\oQ Z G g c M x n ck
 de:∀k,(G.s k).c≠.un->∃g,gs[Z.wk k]?=some g/\eM X Z G k g w (G.s k) (bl k)/\ht Z G k g w ck (bl k).1 (rw k)
 dK:∀p,G.k=.at p->∃g,gs[Z.N+2]?=some g/\j0 Z G p g w cb c0
 old:∀i g,0<i->i<Z.N->gs[i]?=some g->QuitsD aF (q i) (Deaf t i) g
def fF.at{M:Mem}(h:fF M w)(n:Nat):fF M (w.at n):=⟨h.has,h.eV⟩
def eM.at{s:bZ}{bl:fI X.Q}(c:Base Z G w t)(h:eM X Z G k g w s bl)(n:Nat):eM X Z G k g (w.at n) s bl:=h.rely rfl rfl (eh.at Z G _ c.ww n) rfl rfl rfl id
def cn.at{Pos:Type}{A:cS Pos}{i:Nat}{p:Pos}{base:List Frame}{x:bs}{n j:Nat}(h:cn A Z G i p base x g w n j)(d:Nat):cn A Z G i p base x g (w.at d) n j:=⟨h.on,h.le,h.fr,h.cs,h.lL,h.mem.at d,h.own⟩
def dP.at(h:dP X Z G gs w t m bl cb q ck rw c0)(d:Nat):dP X Z G gs (w.at d) t m bl cb q ck rw c0:=by
 refine⟨h.base.at d,h.size,?_,λk J=>?_,λp B=>?_,h.old⟩
 .obtain⟨g,c,M,x,n,j,l,i,o,F⟩:=h.main
  exact⟨g,c,M,x,n,j,l,⟨i.at_.at d,i.ok⟩,o,F⟩
 .obtain⟨g,l,i,o⟩:=h.de k J
  refine⟨g,l,i.at h.base d,?_⟩;generalize rw k=r at o ⊢;generalize (bl k).1=mk at o ⊢;cases o with
  |run h f=>exact .run h f
  |sema h E u K f=>exact .sema h E u K f
  |snd v x n j b I u C H L D P f=>exact .snd v x n j b I u (C.at d) H L ⟨D.1,D.2.1,D.2.2,D.2.3⟩ P f
  |gone h u f=>exact .gone h u f
 .obtain⟨g,l,i⟩:=h.dK p B
  refine⟨g,l,?_⟩;clear h;cases i with
  |run x n j C z=>exact .run x n j (C.at d) z
  |wait x n j C z E B hm=>exact .wait x n j (C.at d) z E B hm
  |gone B z=>exact .gone B z
def dP.live(h:dP X Z G gs w t m bl cb q ck rw c0):∃(i:Nat) (g:Goroutine),gs[i]?=some g/\g.status=.running:=by
 obtain⟨g,c,M,x,n,j,T,al,am,U⟩:=h.main;cases U with
 |run d=>exact⟨0,g,T,d⟩
 |pB a ad ap J ao L=>
  have ag:¬G.l<27:=by omega
  have af:¬G.l<26:=by omega
  have R:(G.s true).c≠.un:=λe=>af (h.base.bT.kN.2 e)
  have Q:=h.base.bT.nQ;have bA:∃p,G.k=.at p:=by
   rcases ae:G.k with _|p
   .exact absurd (h.base.bT.lr.2 ae) ag
   .exact⟨p,rfl⟩
  obtain⟨p,C⟩:=bA;obtain⟨gk,ai,aj⟩:=h.dK p C;obtain⟨E,P,w2,w3⟩:=h.de false Q;obtain⟨F,v1,v2,v3⟩:=h.de true R;have sema:∀k,(∀j,∃g,gs[Z.wk j]?=some g/\ht Z G j g w false (bl j).1 (rw j))->(∃b,(G.s k).c=.lock (.ow b))->G.ms=0->∃(i:Nat) (g:Goroutine),gs[i]?=some g/\g.status=.running:=by
   intro k u ⟨b,V⟩ l;obtain⟨g',S,z⟩:=u (!k);have B:=h.base.bT.side k;have d:(G.s k).role=.q:=by unfold bZ.role;rw[V];rfl
   rw[d]at B;have ah:(G.s (!k)).role≠.fin:=by
    rcases cx.sema B with⟨_,e⟩|⟨e,_⟩
    .exact e
    .rw[l]at e;cases e
   have K:(G.s (!k)).role≠.idle/\(G.s (!k)).role≠.q:=by have:=B.mu;constructor<;>(intro e;rw[e]at this;simp[iw,iK]at this)
   generalize rw (!k)=r at z;generalize (bl (!k)).1=mk at z;cases z with
   |run d _=>exact⟨_,g',S,d⟩
   |sema _ _ f _ _=>
    obtain⟨ak,W⟩:=f;exact absurd (by unfold bZ.role;rw[W];rfl) K.2
   |snd v x n j b ad f _ _ _ _ o _=>cases o
   |gone _ f _=>
    exfalso;rcases H:(G.s (!k)).a2 with _|_
    .exact K.1 (by unfold bZ.role;rw[f,H];rfl)
    .exact ah (by unfold bZ.role;rw[f,H];rfl)
  have u:∀j,∃g,gs[Z.wk j]?=some g/\ht Z G j g w false (bl j).1 (rw j):=λj=>by
   cases j
   .exact⟨E,P,w3⟩
   .exact⟨F,v1,v3⟩
  clear w2 v2;generalize rw false=r0 at w3;generalize rw true=r1 at v3;generalize (bl false).1=aq at w3;generalize (bl true).1=ar at v3;cases w3 with
  |run d _=>exact⟨_,E,P,d⟩
  |sema _ _ f l _=>exact sema false u f l
  |snd _ _ _ _ _ _ _ _ _ _ _ o _=>cases o
  |gone _ Y _=>
   cases v3 with
   |run d _=>exact⟨_,F,v1,d⟩
   |sema _ _ f l _=>exact sema true u f l
   |snd _ _ _ _ _ _ _ _ _ _ _ o _=>cases o
   |gone _ aa _=>
    cases aj with
    |run _ _ _ _ d=>exact⟨_,gk,ai,d⟩
    |wait _ _ _ _ _ _ D hm=>
     exfalso;subst D;have wg:=h.base.bT.pk C;rcases DZ wg with⟨_,J⟩|⟨I,_⟩
     .exact J ⟨by unfold bZ.cy;rw[Y];rfl,by unfold bZ.cy;rw[aa];rfl⟩
     .rw[hm]at I;cases I
    |gone D _=>
     exfalso;subst D;rw[C]at L;cases L
abbrev p8(Q:Program):=Nat×fI Q×fI Q×Nat×Nat×Nat
def pr(Q:Program):p8 Q->p8 Q->Prop:=Prod.Lex (· < ·) (Prod.Lex (dZ Q) (Prod.Lex (dZ Q) (Prod.Lex (· < ·) (Prod.Lex (· < ·) (· < ·)))))
def I7(Q:Program):WellFounded (pr Q):=
 (Prod.lex ⟨_,Nat.lt_wfRel.wf⟩ (Prod.lex ⟨_,D5 Q⟩ (Prod.lex ⟨_,D5 Q⟩ (Prod.lex ⟨_,Nat.lt_wfRel.wf⟩ (Prod.lex ⟨_,Nat.lt_wfRel.wf⟩ ⟨_,Nat.lt_wfRel.wf⟩))))).wf
def jD(b:Bool):Nat:=if b then 1 else 0
def gV(Z:Stat)(m:Nat)(bl:Bool->fI X.Q)(cb:Nat)(q:Nat->Nat)(ck:Bool)(rw:Bool->Bool)(c0:Bool):p8 X.Q:=(m,bl false,bl true,cb,sumTo Z.N q,jD ck+jD (rw false)+jD (rw true)+jD c0)
def gJ{α:Type}(f:Bool->α)(k:Bool)(x:α):Bool->α:=λj=>if j=k then x else f j
def ss{x:p8 X.Q}(h:cP<m)(e:x.1=cP):pr X.Q x (gV Z m bl cb q ck rw c0):=by obtain⟨a,b⟩:=x;subst e;exact .left _ _ h
def Ja{e':fI X.Q}(k:Bool)(h:dZ X.Q e' (bl k))(hh:Nat)(q':Nat->Nat)(eR:Bool)(gD:Bool->Bool)(c:Bool):pr X.Q (gV Z m (gJ bl k e') hh q' eR gD c) (gV Z m bl cb q ck rw c0):=by
 unfold gV gJ;cases k
 .exact .right _ (.left _ _ h)
 .exact .right _ (.right _ (.left _ _ h))
def I9(h:hh<cb)(q':Nat->Nat)(eR:Bool)(gD:Bool->Bool)(c:Bool):pr X.Q (gV Z m bl hh q' eR gD c) (gV Z m bl cb q ck rw c0):=.right _ (.right _ (.right _ (.left _ _ h)))
def I'{q':Nat->Nat}(h:sumTo Z.N q'<sumTo Z.N q)(eR:Bool)(gD:Bool->Bool)(c:Bool):pr X.Q (gV Z m bl cb q' eR gD c) (gV Z m bl cb q ck rw c0):=.right _ (.right _ (.right _ (.right _ (.left _ _ h))))
def xF{eR:Bool}{gD:Bool->Bool}{c:Bool}(h:jD eR+jD (gD false)+jD (gD true)+jD c<jD ck+jD (rw false)+jD (rw true)+jD c0):pr X.Q (gV Z m bl cb q eR gD c) (gV Z m bl cb q ck rw c0):=.right _ (.right _ (.right _ (.right _ (.right _ h))))
def Ly(a:fT G)(i:fT au)(l:au.l=G.l)(k:Bool)(g:∀j,j≠k->au.s j=G.s j):∀j,(au.s j).cI=(G.s j).cI:=by
 have d:=a.cnt;have c:=i.cnt;rw[l]at c;intro j;by_cases h:j=k
 .subst h
  cases j
  .rw[g true (by simp)]at c
   rcases e:(G.s false).cI with _|_<;>rcases f:(au.s false).cI with _|_<;>rw[e]at d<;>rw[f]at c<;>simp at d c<;>first|rfl|omega
  .rw[g false (by simp)]at c
   rcases e:(G.s true).cI with _|_<;>rcases f:(au.s true).cI with _|_<;>rw[e]at d<;>rw[f]at c<;>simp at d c<;>first|rfl|omega
 .rw[g j h]
end
section
variable{X:dJ}{Z:Stat}[gh X Z]{G au:bI}{gs bf:Array Goroutine}{u ay w:World}{t a':Trace}{k:Bool}{g g':Goroutine}{m cP cb hh:Nat}{bl:Bool->fI X.Q}{q:Nat->Nat}{ck c0:Bool}{gD rw:Bool->Bool}{sl:Option (Nat×Nat)}{es:Array Event}
def j5(X:dJ)(Z:Stat)(gs:Array Goroutine)(u:World)(sl:Option (Nat×Nat))(t:Trace)(i:Nat)(d:p8 X.Q):Prop:=
 ∃(au:bI) (bf:Array Goroutine) (ay:World) (ops:Array MemOp) (cP:Nat) (e':Bool->fI X.Q) (hh:Nat) (q':Nat->Nat) (eR:Bool) (gD:Bool->Bool) (c:Bool),
  runT aF (crowd gs u sl) i=(.next (crowd bf ay sl),ops)/\dP X Z au bf ay (t++ops) cP e' hh q' eR gD c/\pr X.Q (gV Z cP e' hh q' eR gD c) d
def qw{f:Goroutine->Goroutine}{i j:Nat}{x:Goroutine}(h:j≠i):((gs.map f).setIfInBounds i x)[j]?=(gs[j]?).map f:=by rw[PB (Ne.symm h),Array.getElem?_map]
def sb{f:Goroutine->Goroutine}{i:Nat}{x g:Goroutine}(h:gs[i]?=some g):((gs.map f).setIfInBounds i x)[i]?=some x:=by rw[PC (by simpa using bp h)]
def hV(c:0<Z.N)(k:Bool):Z.wk k≠0:=by cases k<;>simp[Stat.wk]<;>omega
def D2(k:Bool):Z.wk (!k)≠Z.wk k:=by cases k<;>simp[Stat.wk]
def y6{a:Nat}{b:Bool}(h:ht Z G k g w ck a b)(c:g.status=.running):b=true/\a≠0:=by
 cases h with
 |run _ d=>exact⟨rfl,d⟩
 |sema h _ _ _ _=>rw[c]at h;cases h
 |snd _ _ _ _ _ f _ _ _ _ _ _ _=>obtain⟨i,rfl⟩:=f;cases c
 |gone h _ _=>rw[c]at h;cases h
def eM.res{s:bZ}{p:gR}{bl:fI X.Q}(h:eM X Z G k g w s bl)(d:s.c=.out p)(f:l5 p=true):jh Z G (Z.wk k) w (G.cl k):=by
 cases h with
 |out fp ok h j l c=>
  cases d;exact c _ (by cases p<;>first|rfl|cases f)
 |gone fp i c=>exact c
 |_=>cases d
def Ai(t:Trace)(g:Nat)(fn:FuncId)(pos:String):t++MemOp.ofEvents g fn pos #[]=t:=by rw[ofEvents_eq];simp
def dP.others(h:dP X Z G gs u t m bl cb q ck rw c0)(i0:Nat){wk:Bool}{f:Goroutine->Goroutine}(F:jA Z ay wk f)(H:Base Z au ay a')(z:au.l=G.l)(I:au.bC=G.bC)(B:au.cl=G.cl)(ak:∀j,Z.wk j≠i0->au.s j=G.s j)(ai:i0≠Z.N+2->au.k=G.k)(al:∀k,(au.s k).cI=(G.s k).cI)(r:∀i,i≠i0->eh Z G au i u ay)(ao:bf.size=gs.size)(o:∀i,i≠i0->bf[i]?=(gs[i]?).map f)(aj:au.ms=G.ms\/au.ms=0\/wk=true)(hm:au.m=G.m\/au.m=0\/wk=true)(am:au.k.shut=G.k.shut\/wk=true)(ah:∀i,i≠i0->Deaf a' i=Deaf t i):
 ∃eR,(i0≠0->∃g c M x n j,bf[0]?=some g/\hZ Z au g ay c M x n j/\m=n*500+j/\oQ Z au g c M x n eR)/\(ck=true->eR=true)/\
  (∀k,Z.wk k≠i0->(G.s k).c≠.un->∃g b,bf[Z.wk k]?=some g/\eM X Z au k g ay (au.s k) (bl k)/\ht Z au k g ay eR (bl k).1 b)/\(i0≠Z.N+2->∀p,au.k=.at p->∃g b,bf[Z.N+2]?=some g/\j0 Z au p g ay cb b)/\
  (∀i g,i≠i0->0<i->i<Z.N->bf[i]?=some g->QuitsD aF (q i) (Deaf a' i) g)/\bf.size=Z.N+(if au.l<26 then 1 else if au.l<27 then 2 else 3):=by
 obtain⟨g,c,M,x,n,j,Y,aa,ad,ae⟩:=h.main;obtain⟨eR,t1,t2,t3,t4,t5⟩:=ae.jY F z H.ww am;refine⟨eR,λd=>?_,t5,λk l ag=>?_,λd p L=>?_,λi g d W af K=>?_,by rw[ao,z];exact h.size⟩
 .exact⟨f g,c,M,x,n,j,by rw[o 0 (Ne.symm d),Y];rfl,aa.rely z al B (r 0 (Ne.symm d)) t2 t3 t4,ad,t1⟩
 .obtain⟨gk,C,D,ap⟩:=h.de k ag
  have Q:=ak k l;obtain⟨w,S,T,U,V⟩:=ap.jY F H Q (by rw[I]) (by rw[B]) (r _ l) aj t5;refine⟨f gk,w,by rw[o _ l,C];rfl,?_,S⟩;rw[Q];exact D.rely (by rw[I]) (by rw[B]) (r _ l) T U V λJ=>by rw[F.rest gk (.inr J)];exact J
 .rw[ai d]at L
  obtain⟨gk,C,D⟩:=h.dK p L;obtain⟨w,e⟩:=D.jY F (r _ (Ne.symm d)) hm;exact⟨f gk,w,by rw[o _ (Ne.symm d),C];rfl,e⟩
 .rw[o i d]at K
  obtain⟨E,R,rfl⟩:=Option.map_eq_some_iff.1 K;have P:=h.old i E W af R;rw[F.rest E P.status,ah i d];exact P
def D3{k j:Bool}(h:j≠k):Z.wk j≠Z.wk k:=λe=>h (y4 e)
def dP.zA(h:dP X Z G gs u t m bl cb q ck rw c0)(k:Bool)(aq:(G.s k).c≠.un)(B:gs[Z.wk k]?=some g){e':fI X.Q}(am:stepG aF false g u=.go g' ay es)(z:Base Z au ay (t++MemOp.ofEvents (Z.wk k) g.frame.fn g.frame.place es))(ai:g'.status=.running\/g'.status=.finished)(E:∀j,j≠k->au.s j=G.s j)(K:au.k=G.k)(L:au.l=G.l)(W:au.bC=G.bC)(ak:au.cl=G.cl)(ag:∀i,i≠Z.wk k->eh Z G au i u ay)(Q:eM X Z au k g' ay (au.s k) e'){b:Bool}(M:∀eR,ht Z au k g' ay eR e'.1 b)(ae:au.ms=G.ms\/au.ms=0\/mayWake aF g=true)(hm:au.m=G.m\/au.m=0\/mayWake aF g=true)(ad:dZ X.Q e' (bl k)):j5 X Z gs u sl t (Z.wk k) (gV Z m bl cb q ck rw c0):=by
 have J:=h.base.ap.pos;have aj:=runT_crowd_go (P:=aF) (sl:=sl) B (show stepG aF (Z.wk k == 0) g u=_ by rw[show(Z.wk k == 0)=false by simpa using hV J k];exact am);have F:=jA.woken Z g g' ay ai;obtain⟨eR,R,ap,a3,a4,a5,S⟩:=h.others (bf:=(gs.map (woken aF g g' ay)).setIfInBounds (Z.wk k) g') (Z.wk k) F z L W ak (λj d=>E j λe=>d (by rw[e])) (λ_=>K) (Ly h.base.bT z.bT L k E) ag (by simp) (λi C=>qw C) ae hm (.inl (by rw[K]))
  (λi C=>Deaf_other t (g':=Z.wk k) (Ne.symm C) _ λop af=>by obtain⟨e,_,rfl⟩:=Go.Conc.mem_ofEvents af;rfl)
 have ao:∀j,j≠k->(au.s j).c≠.un->(G.s j).c≠.un:=λj d hu=>by rw[<-E j d];exact hu
 obtain⟨I,al⟩:∃I:Bool->Bool,∀j,(au.s j).c≠.un->∃c,((gs.map (woken aF g g' ay)).setIfInBounds (Z.wk k) g')[Z.wk j]?=some c/\eM X Z au j c ay (au.s j) (gJ bl k e' j)/\ht Z au j c ay eR (gJ bl k e' j).1 (I j):=by
  by_cases hu:(G.s (!k)).c=.un
  .refine⟨λ_=>b,λj d=>?_⟩
   by_cases f:j=k
   .subst f
    exact⟨g',sb B,by unfold gJ;rw[if_pos rfl];exact Q,by unfold gJ;rw[if_pos rfl];exact M eR⟩
   .have:j = !k:=by cases j<;>cases k<;>simp_all
    subst this;exact absurd hu (ao _ f d)
  .obtain⟨w,l,o,r,T⟩:=a3 (!k) (D2 k) hu
   refine⟨λj=>if j=k then b else l,λj d=>?_⟩;by_cases f:j=k
   .subst f
    refine⟨g',sb B,by unfold gJ;rw[if_pos rfl];exact Q,?_⟩;unfold gJ;simp only[if_true];exact M eR
   .have:j = !k:=by cases j<;>cases k<;>simp_all
    subst this;refine⟨w,o,?_,?_⟩
    .unfold gJ;rw[if_neg f];exact r
    .unfold gJ;simp only[if_neg f];exact T
 obtain⟨H,ah⟩:∃H,∀p,au.k=.at p->∃c,((gs.map (woken aF g g' ay)).setIfInBounds (Z.wk k) g')[Z.N+2]?=some c/\j0 Z au p c ay cb H:=by
  rcases aa:au.k with _|p
  .exact⟨false,λp D=>by cases D⟩
  .obtain⟨w,l,o,r⟩:=a4 (s7 Z k) p aa
   exact⟨l,λhD D=>by cases D;exact⟨w,o,r⟩⟩
 exact⟨au,_,ay,_,m,gJ bl k e',cb,q,eR,I,H,aj,⟨z,S,R (hV J k),al,ah,λi g U V Y=>a5 i g (by cases k<;>simp[Stat.wk]<;>omega) U V Y⟩,Ja k ad _ _ _ _ _⟩
end
section
variable{X:dJ}{Z:Stat}[gh X Z]{G au:bI}{gs bf:Array Goroutine}{u ay w:World}{t a':Trace}{k:Bool}{g g':Goroutine}{m cP cb hh:Nat}{bl:Bool->fI X.Q}{q:Nat->Nat}{ck c0:Bool}{gD rw:Bool->Bool}{sl:Option (Nat×Nat)}{es:Array Event}{p hD:fG}
def qW{P:Bool->Bool->Prop}{D:Bool->Prop}(h:∀k,D k->∃b,P k b):∃rw:Bool->Bool,∀k,D k->P k (rw k):=by refine⟨λk=>Classical.epsilon λb=>P k b,λk c=>?_⟩;exact Classical.epsilon_spec (h k c)
def dP.zz(h:dP X Z G gs u t m bl cb q ck rw c0)(o:gs[Z.N+2]?=some g)(Y:stepG aF false g u=.go g' ay es)(l:Base Z au ay (t++MemOp.ofEvents (Z.N+2) g.frame.fn g.frame.place es))(S:g'.status=.running\/g'.status=.finished)(J:au.k=.at hD)(f:au.s=G.s)(K:au.l=G.l)(H:au.bC=G.bC)(U:au.cl=G.cl)(R:∀i,i≠Z.N+2->eh Z G au i u ay){b:Bool}(aa:j0 Z au hD g' ay hh b)(M:au.ms=G.ms)(hm:au.m=G.m\/au.m=0)(W:au.k.shut=G.k.shut\/mayWake aF g=true)(L:hh<cb):j5 X Z gs u sl t (Z.N+2) (gV Z m bl cb q ck rw c0):=by
 have af:=h.base.ap.pos;have T:=runT_crowd_go (P:=aF) (sl:=sl) o (show stepG aF (Z.N+2 == 0) g u=_ by rw[show(Z.N+2 == 0)=false by simp];exact Y);have F:=jA.woken Z g g' ay S;obtain⟨eR,z,ae,a3,a4,a5,B⟩:=h.others (bf:=(gs.map (woken aF g g' ay)).setIfInBounds (Z.N+2) g') (Z.N+2) F l K H U (λj _=>by rw[f]) (λe=>absurd rfl e) (λj=>by rw[f]) R (by simp) (λi d=>qw d) (.inl M) (hm.imp id .inl) W
  (λi d=>Deaf_other t (g':=Z.N+2) (Ne.symm d) _ λop Q=>by obtain⟨e,_,rfl⟩:=Go.Conc.mem_ofEvents Q;rfl)
 obtain⟨ad,V⟩:=qW (P:=λk b=>∃c,((gs.map (woken aF g g' ay)).setIfInBounds (Z.N+2) g')[Z.wk k]?=some c/\eM X Z au k c ay (au.s k) (bl k)/\ht Z au k c ay eR (bl k).1 b) (D:=λk=>(au.s k).c≠.un) λk r=>by obtain⟨c,b,e⟩:=a3 k (s7 Z k) (by rw[f]at r;exact r);exact⟨b,c,e⟩
 exact⟨au,_,ay,_,m,bl,hh,q,eR,ad,b,T,⟨l,B,z (by omega),V,λp w=>by rw[J]at w;cases w;exact⟨g',sb o,aa⟩,λi g C E I=>a5 i g (by omega) C E I⟩,I9 L _ _ _ _⟩
def dP.E1(h:dP X Z G gs u t m bl cb q ck rw c0){i:Nat}(al:0<i)(U:i<Z.N)(I:gs[i]?=some g)(H:g.status=.running):j5 X Z gs u sl t i (gV Z m bl cb q ck rw c0):=by
 have E:=h.old i g al U I;have ax:(i == 0)=false:=by simp;omega
 cases Q:q i with
 |zero=>rw[Q]at E;rw[E.1]at H;cases H
 |succ a=>
  rw[Q]at E;rcases E with⟨ar,_⟩|⟨_,g',es,W,aM,Y⟩
  .rw[ar]at H;cases H
  have aI:=Y.status;have aK:=runT_crowd_go (P:=aF) (sl:=sl) I (show stepG aF (i == 0) g u=_ by rw[ax];exact aM u);have F:=jA.woken Z g g' u aI;have aU:oS u.heap.size (MemOp.ofEvents i g.frame.fn g.frame.place es)\/True:=.inr trivial;have gu:∀op∈MemOp.ofEvents i g.frame.fn g.frame.place es,op.g=i/\op.act.touch?=none/\op.act.low u.heap.size:=λop f=>by obtain⟨e,he,rfl⟩:=Go.Conc.mem_ofEvents f;exact⟨rfl,touch_mute (W e he),low_mute (W e he) _⟩
  have C:∀j,j≠i->Deaf (t++MemOp.ofEvents i g.frame.fn g.frame.place es) j=Deaf t j:=λj d=>Deaf_other t (g':=i) (Ne.symm d) _ λop f=>(gu op f).1
  have c:=h.base.c6;have T:Base Z G u (t++MemOp.ofEvents i g.frame.fn g.frame.place es):=by
   refine⟨h.base.ww,h.base.bT,h.base.ap,?_,h.base.mz,h.base.q3,h.base.hold,h.base.old,h.base.ni,h.base.hi,h.base.pF,h.base.cfg⟩;have aP:∀k,Z.wk k≠i:=λk=>by cases k<;>simp[Stat.wk]<;>omega
   refine⟨?_,λg' au=>?_,λk B=>?_,?_,λk=>?_,?_,λj d=>?_,λk B=>?_,λB=>?_,λe o ad w am=>?_,λo op w aE aa=>?_,λo S w av aD aq=>?_⟩
   .exact ps (M:=λs=>eF (pl Z G) s (ef Z G) u.heap.size) c.c6 λs y r _ h=>h.one y (gu y r).2.1 (gu y r).2.2
   .have:=ps (t:=t) (v:=MemOp.ofEvents i g.frame.fn g.frame.place es) (M:=λs=>Started (pl Z G) s g'/\(pl Z G).cH<=s.size) ⟨c.st g' au,c.c6.size⟩ λs y r _ h=>⟨h.1.one y (gu y r).2.1 h.2,by simp;omega⟩
    exact this.1
   .exact ps (M:=λs=>hr (pl Z G) s (Z.wk k)) (c.sI k B) λs y r _ h=>h.one y (gu y r).2.1
   .rw[C 0 (by omega)];exact c.d0
   .rw[C _ (aP k)];exact c.o8 k
   .rw[C _ (by omega)];exact c.m1
   .rw[C _ (by omega)];exact c.above j d
   .exact(c.told k B).other λop f _=>(gu op f).2.1
   .exact(c.shut B).app λop f _=>(gu op f).2.1
   .obtain⟨_,ao⟩:=sx (λop f=>(gu op f).2.1) am
    exact c.said e o ad w ao
   .rcases getElem?_append_cases aE with⟨_,aG⟩|⟨_,aH⟩
    .exact c.l7 o op w aG aa
    .exact absurd (gu op aH).2.1 aa
   .have V:o<t.size:=by have aR:=c.c6.size;have aS:(pl Z G).cH=Z.cH:=rfl;omega
    have aw:t.g? o=some S:=by rw[<-n3 (u:=MemOp.ofEvents i g.frame.fn g.frame.place es) V];exact av
    obtain⟨j,d,ap⟩:=c.over o S w aw aD ((counts_old V).1 aq);have aA:j<t.size:=by have:(t[j]?).map (·.g)=some 0:=d;obtain⟨z,aN,_⟩:=Option.map_eq_some_iff.1 this;exact lt_size_of_getElem? aN
    exact⟨j,by rw[n3 aA];exact d,hb_app _ ap⟩
  obtain⟨eR,ae,aQ,a3,a4,a5,af⟩:=h.others (bf:=(gs.map (woken aF g g' u)).setIfInBounds i g') i F T rfl rfl rfl (λ_ _=>rfl) (λ_=>rfl) (λ_=>rfl) (λj _=>eh.at Z G j h.base.ww u.drawn) (by simp) (λj d=>qw d) (.inl rfl) (.inl rfl) (.inl rfl) (λj d=>C j d);obtain⟨aO,aL⟩:=qW (P:=λk b=>∃l,((gs.map (woken aF g g' u)).setIfInBounds i g')[Z.wk k]?=some l/\eM X Z G k l u (G.s k) (bl k)/\ht Z G k l u eR (bl k).1 b) (D:=λk=>(G.s k).c≠.un) λk aB=>by obtain⟨l,b,e⟩:=a3 k (by cases k<;>simp[Stat.wk]<;>omega) aB;exact⟨b,l,e⟩
  obtain⟨R,aJ⟩:∃R,∀p,G.k=.at p->∃l,((gs.map (woken aF g g' u)).setIfInBounds i g')[Z.N+2]?=some l/\j0 Z G p l u cb R:=by
   rcases aC:G.k with _|p
   .exact⟨false,λp L=>by cases L⟩
   .obtain⟨aj,ag,ah,ai⟩:=a4 (by omega) p aC
    exact⟨ag,λhD L=>by cases L;exact⟨aj,ah,ai⟩⟩
  refine⟨G,_,u,_,m,bl,cb,upd q i a,eR,aO,R,aK,⟨T,af,ae (by omega),aL,aJ,λj ak ay az J=>?_⟩,I' ?_ _ _ _⟩
  .by_cases K:j=i
   .subst K
    rw[sb I]at J;obtain rfl:=Pm J;rw[upd_same,Deaf_own];exact Y
   .rw[upd_ne q a K]
    exact a5 j ak K ay az J
  .have aT:sumTo Z.N (upd q i a)+(a+1)=sumTo Z.N q+a:=by have:=sumTo_upd q a _root_.id U;simpa [Q]using this
   omega
def Cg{i:Nat}(c:gs[i]?=some g)(d:stepG aF (i == 0) g u=.go ⟨g.frame,g.callers,.blocked,none,none⟩ u)(sl:Option (Nat×Nat)):runT aF (crowd gs u sl) i=(.next (crowd (gs.setIfInBounds i ⟨g.frame,g.callers,.blocked,none,none⟩) u sl),#[]):=by
 have:=runT_crowd_go (P:=aF) (sl:=sl) c d;have e:gs.map (woken aF g ⟨g.frame,g.callers,.blocked,none,none⟩ u)=gs:=by
  apply Array.ext_getElem?;intro j;rw[Array.getElem?_map];cases gs[j]? with
  |none=>rfl
  |some o=>simp[woken]
 rw[e]at this;rw[this,ofEvents_eq];simp
def dP.Cf(h:dP X Z G gs u t m bl cb q ck rw c0)(k:Bool)(L:(G.s k).c≠.un)(z:gs[Z.wk k]?=some g)(D:g.status=.running)(Y:eM X Z G k g u (G.s k) (bl k))(Q:g'.frame=g.frame)(P:g'.callers=g.callers)(hd:g'.dying=g.dying)(W:ht Z G k g' u ck (bl k).1 false)(V:runT aF (crowd gs u sl) (Z.wk k)=(.next (crowd (gs.setIfInBounds (Z.wk k) g') u sl),#[])):j5 X Z gs u sl t (Z.wk k) (gV Z m bl cb q ck rw c0):=by
 have J:=h.base.ap.pos;have T:=bp z;obtain⟨d,w,_,F⟩:=h.de k L;rw[z]at w;obtain rfl:=Pm w;obtain⟨C,_⟩:=y6 F D;have o:∀i,i≠Z.wk k->(gs.setIfInBounds (Z.wk k) g')[i]?=gs[i]?:=λi R=>PB (Ne.symm R)
 refine⟨G,_,u,#[],m,bl,cb,q,ck,gJ rw k false,c0,V,⟨by simpa using h.base,by rw[Array.size_setIfInBounds];exact h.size,?_,λj S=>?_,λp U=>?_,λi H I K B=>?_⟩,xF ?_⟩
 .obtain⟨d,c,M,x,n,j,f,l⟩:=h.main
  exact⟨d,c,M,x,n,j,by rw[o 0 (Ne.symm (hV J k))];exact f,l⟩
 .by_cases r:j=k
  .subst r
   refine⟨g',by rw[PC T],Y.rely rfl rfl (eh.at Z G _ h.base.ww u.drawn) Q P hd (λE=>by rw[D]at E;cases E),?_⟩;unfold gJ;rw[if_pos rfl];exact W
  .obtain⟨d,f,l⟩:=h.de j S
   refine⟨d,by rw[o _ (D3 r)];exact f,?_⟩;unfold gJ;rw[if_neg r];exact l
 .obtain⟨d,f,l⟩:=h.dK p U
  exact⟨d,by rw[o _ (Ne.symm (s7 Z k))];exact f,l⟩
 .rw[o i (by cases k<;>simp[Stat.wk]<;>omega)]at B
  simpa using h.old i H I K B
 .unfold gJ jD
  cases k
  .rw[C];simp
  .rw[C];simp
end
section
variable{X:dJ}{Z:Stat}[gh X Z]{G au:bI}{gs bf:Array Goroutine}{u ay w:World}{t a':Trace}{k:Bool}{g g':Goroutine}{m cP cb hh:Nat}{bl:Bool->fI X.Q}{q:Nat->Nat}{ck c0:Bool}{gD rw:Bool->Bool}{sl:Option (Nat×Nat)}{es:Array Event}{p hD:fG}
def dP.NT(h:dP X Z G gs u t m bl cb q ck rw c0)(B:G.k=.at p)(f:gs[Z.N+2]?=some g)(P:g.status=.running):j5 X Z gs u sl t (Z.N+2) (gV Z m bl cb q ck rw c0):=by
 obtain⟨w,I,R⟩:=h.dK p B;rw[f]at I;obtain rfl:=Pm I;have al:=h.base.ap.pos;have Y:(Z.N+2 == 0)=false:=by simp
 cases R with
 |wait _ _ _ _ z _ _ _=>rw[P]at z;cases z
 |gone _ J=>rw[P]at J;cases J
 |run x n j d _=>
  rcases Fq h.base B d with⟨au,hD,ay,l,g',ak,cM,bn,r,ad,ah,ae,V,ag,z,o,aj,F,Q,af,hm,ai⟩|⟨r,E,hm⟩|⟨r,E⟩
  .exact h.zz (hh:=cM*500+bn+1) (b:=true) f r z (.inl Q) ad ah ae V ag o (.run ak cM bn aj Q) af hm ai (Nat.succ_lt_succ F)
  .have o:=Cg f (show stepG aF (Z.N+2 == 0) g u=_ by rw[Y];exact r) sl
   have F:=bp f;have H:∀i,i≠Z.N+2->(gs.setIfInBounds (Z.N+2) (⟨g.frame,g.callers,.blocked,none,none⟩:Goroutine))[i]?=gs[i]?:=λi W=>PB (Ne.symm W)
   refine⟨G,_,u,#[],m,bl,_,q,ck,rw,false,o,⟨by simpa using h.base,by rw[Array.size_setIfInBounds];exact h.size,?_,λj aa=>?_,λam L=>?_,λi S T U K=>?_⟩,xF (by simp[jD])⟩
   .obtain⟨w,c,M,x,n,j,C,D⟩:=h.main
    exact⟨w,c,M,x,n,j,by rw[H 0 (by omega)];exact C,D⟩
   .obtain⟨w,C,D⟩:=h.de j aa
    exact⟨w,by rw[H _ (s7 Z j)];exact C,D⟩
   .rw[B]at L
    cases L;exact⟨(⟨g.frame,g.callers,.blocked,none,none⟩:Goroutine),by rw[PC F],.wait x n j ⟨d.on,d.le,d.fr,d.cs,rfl,d.mem,d.own⟩ rfl rfl E hm⟩
   .rw[H i (by omega)]at K
    simpa using h.old i S T U K
  .subst E
   have o:∀i,i≠Z.N+2->eh Z G G i u u:=λi _=>eh.at Z G i h.base.ww u.drawn
   exact h.zz (es:=#[]) (au:=G) (hh:=0) f r (by rw[Ai];exact h.base) (.inr rfl) B rfl rfl rfl rfl o (.gone rfl rfl) rfl (.inl rfl) (.inl rfl) (by omega)
def dP.NV(h:dP X Z G gs u t m bl cb q ck rw c0)(r:(G.s k).c≠.un)(w:gs[Z.wk k]?=some g)(Q:g.status=.running)
 (Y:∀(v:Nat×Nat) (x:bs) (n j a:Nat),fU (G.s k) ⟨.out (.snd v),(G.s k).a2⟩->cn (eZ (G.bC k)) Z G (Z.wk k) (.snd v) [] x g u n j->At (eZ (G.bC k)) a (.snd v) x->n=a+1->
  ((∀(n:Nat) own b o,(gZ (G.bC k))[n]?=some (own,b,o)->G.bO b≠Z.wk k)/\jh Z G (Z.wk k) u v)->j5 X Z gs u sl t (Z.wk k) (gV Z m bl cb q ck rw c0)):j5 X Z gs u sl t (Z.wk k) (gV Z m bl cb q ck rw c0):=by
 obtain⟨al,K,f,T⟩:=h.de k r;rw[w]at K;obtain rfl:=Pm K;obtain⟨_,J⟩:=y6 T Q;have V:=h.base.ap.pos;have ad:(Z.wk k == 0)=false:=by simpa using hV V k
 rcases O0 h.base r J f with⟨au,a6,ay,l,g',e',B,R,af,E,W,ai,D,z,S,ag,H,F,hm⟩|⟨B,d,F⟩|⟨B,d⟩|⟨v,x,n,j,a,d,I,L,P,U⟩
 .have C:au.s k=a6:=by rw[R];exact Oq _ _ _
  have ak:e'.1≠0:=by
   cases S with
   |gone fp M aj=>rw[H]at M;cases M
   |@out p a2 x n j fp ok h E P aj=>
    show(if gC p then 3 else 1)≠0;split<;>decide
   |un a2 bl=>
    exfalso;have e:(au.s k).c=.un:=by rw[C]
    cases k with
    |false=>exact D.bT.nQ e
    |true=>exact r (h.base.bT.kN.1 (by rw[<-E];exact D.bT.kN.2 e))
   |_=>exact Nat.succ_ne_zero _
  exact h.zA k r w B D (.inl H) (λj ae=>by rw[R];exact Oo _ _ ae) af E W ai z (by rw[C];exact S) (λeR=>.run H ak) F hm ag
 .have z:=Cg w (show stepG aF (Z.wk k == 0) g u=_ by rw[ad];exact B) sl
  have aa:g.dying=none:=by
   obtain⟨b,d⟩:=d;generalize C:G.s k=s at f d;generalize bl k=mk at f;cases f with
   |lock c h L I=>exact I.lL
   |un a2 bl=>cases d
   |_=>cases d
  exact h.Cf (g':=(⟨g.frame,g.callers,.blocked,none,none⟩:Goroutine)) k r w Q f rfl rfl aa.symm (.sema rfl rfl d F J) z
 .have ah:=f.res d rfl
  have hgo:eM X Z G k (⟨g.frame,g.callers,.finished,none,none⟩:Goroutine) u (G.s k) (0,(bl k).2.1,0):=by generalize C:G.s k=s at d;obtain⟨c,a2⟩:=s;cases d;exact .gone _ rfl ah
  have z:∀i,i≠Z.wk k->eh Z G G i u u:=λi _=>eh.at Z G i h.base.ww u.drawn
  refine h.zA (es:=#[]) (au:=G) (e':=(0,(bl k).2.1,0)) (b:=false) k r w B (by rw[Ai];exact h.base) (.inr rfl) (λ_ _=>rfl) rfl rfl rfl rfl z hgo (λeR=>.gone rfl d rfl) (.inl rfl) (.inl rfl) ?_;have e:bl k=((bl k).1,(bl k).2):=rfl;rw[e];exact dZ.head (Nat.pos_of_ne_zero J)
 .exact Y v x n j a d I L P U
end
section
variable{X:dJ}{Z:Stat}[gh X Z]{G au:bI}{gs bf:Array Goroutine}{u ay w:World}{t a':Trace}{k:Bool}{g g':Goroutine}{m cP cb hh:Nat}{bl:Bool->fI X.Q}{q:Nat->Nat}{ck c0:Bool}{gD rw:Bool->Bool}{sl:Option (Nat×Nat)}{es:Array Event}{p hD:fG}
def dP.l7(h:dP X Z G gs u t m bl cb q ck rw c0){i:Nat}(w:gs[i]?=some g):i=0\/(0<i/\i<Z.N)\/(∃k,i=Z.wk k/\(G.s k).c≠.un)\/(i=Z.N+2/\∃p,G.k=.at p):=by
 have B:=bp w;have c:=h.size;by_cases f:i=0
 .exact .inl f
 by_cases j:i<Z.N
 .exact .inr (.inl ⟨by omega,j⟩)
 by_cases l:i=Z.N
 .exact .inr (.inr (.inl ⟨false,l,h.base.bT.nQ⟩))
 by_cases o:i=Z.N+1
 .refine .inr (.inr (.inl ⟨true,o,λe=>?_⟩))
  have:=h.base.bT.kN.2 e;rw[if_pos this]at c;omega
 have d:¬G.l<27:=by intro e;split at c<;>omega
 have r:¬G.l<26:=by omega
 rw[if_neg r,if_neg d]at c;refine .inr (.inr (.inr ⟨by omega,?_⟩));rcases z:G.k with _|p
 .exact absurd (h.base.bT.lr.2 z) d
 .exact⟨p,rfl⟩
def uN{g:Goroutine}(h:g.offers=none)(r:Nat)(s:Bool):offersAt g r s = []:=by
 unfold offersAt;rw[h];split
 .rename_i d c;cases c
 .rfl
def dP.BE(h:dP X Z G gs u t m bl cb q ck rw c0){i:Nat}(H:i≠0)(c:gs[i]?=some g)(r:Nat):offersAt g r false = []:=by
 rcases h.l7 c with e|⟨D,E⟩|⟨k,rfl,F⟩|⟨rfl,p,I⟩
 .exact absurd e H
 .have:=(h.old i g D E c).status
  exact offersAt_of_not_blocked (by rcases this with e|e<;>rw[e]<;>simp) r false
 .obtain⟨C,d,_,f⟩:=h.de k F
  rw[c]at d;obtain rfl:=Pm d;generalize rw k=b at f;generalize (bl k).1=a at f;cases f with
  |run w _=>exact offersAt_of_not_blocked (by rw[w];simp) r false
  |sema _ o _ _ _=>exact uN o r false
  |snd v x n j b c M R L P J Q K=>
   obtain⟨B,rfl⟩:=c;exact offersAt_parked_send' B Z.ch _ _ _ r
  |gone l _ _=>exact offersAt_of_not_blocked (by rw[l];simp) r false
 .obtain⟨C,d,z⟩:=h.dK p I
  rw[c]at d;obtain rfl:=Pm d;clear h;cases z with
  |run _ _ _ _ w=>exact offersAt_of_not_blocked (by rw[w];simp) r false
  |wait _ _ _ _ _ o _ _=>exact uN o r false
  |gone _ l=>exact offersAt_of_not_blocked (by rw[l];simp) r false
def dP.sends(h:dP X Z G gs u t m bl cb q ck rw c0){i a:Nat}(f:gs[i]?=some g)(c:a∈offersAt g Z.ch true)(H:i≠0):
 a=0/\∃k v x n j b,i=Z.wk k/\(G.s k).c≠.un/\(∃B,g=parked B #[scase Z.ch (iN k v) (.tuple #[])] .send)/\fU (G.s k) ⟨.out (.snd v),(G.s k).a2⟩/\cn (eZ (G.bC k)) Z G (Z.wk k) (.snd v) [] x g u n j/\At (eZ (G.bC k)) b (.snd v) x/\n=b+1/\
  ((∀(n:Nat) own b o,(gZ (G.bC k))[n]?=some (own,b,o)->G.bO b≠Z.wk k)/\jh Z G (Z.wk k) u v):=by
 rcases h.l7 f with e|⟨I,K⟩|⟨k,rfl,C⟩|⟨rfl,p,R⟩
 .exact absurd e H
 .have:=(h.old i g I K f).status
  rw[offersAt_of_not_blocked (by rcases this with e|e<;>rw[e]<;>simp) Z.ch true]at c;cases c
 .obtain⟨F,d,_,l⟩:=h.de k C
  rw[f]at d;obtain rfl:=Pm d;generalize rw k=b at l;generalize (bl k).1=T at l;cases l with
  |run z _=>rw[offersAt_of_not_blocked (by rw[z];simp) Z.ch true]at c;cases c
  |sema _ w _ _ _=>rw[uN w Z.ch true]at c;cases c
  |snd v x n j b D M S L Q J V U=>
   have P:=D;obtain⟨B,e⟩:=P;rw[e,offersAt_parked_send,if_pos rfl]at c;exact⟨by simpa using c,k,v,x,n,j,b,rfl,C,D,M,S,L,Q,J⟩
  |gone r _ _=>rw[offersAt_of_not_blocked (by rw[r];simp) Z.ch true]at c;cases c
 .obtain⟨F,d,E⟩:=h.dK p R
  rw[f]at d;obtain rfl:=Pm d;clear h;cases E with
  |run _ _ _ _ z=>rw[offersAt_of_not_blocked (by rw[z];simp) Z.ch true]at c;cases c
  |wait _ _ _ _ _ w _ _=>rw[uN w Z.ch true]at c;cases c
  |gone _ r=>rw[offersAt_of_not_blocked (by rw[r];simp) Z.ch true]at c;cases c
def bI.eU(G:bI)(k:Bool)(a2:Bool)(v:Nat×Nat):bI:={G with s:=pS G.s k ⟨.out .d0,a2⟩,l:=G.l+1,cl:=gJ G.cl k v}
def tF(c:Base Z G u t)(h:G.k.shut=false):u.heap[Z.ch]?=some (.chan 0 #[] false (da G.l) (da G.l) false):=by have:=c.ww.ch;rw[h]at this;exact this
def Base.meet(c:Base Z G u t)(g:(G.s k).c≠.un){v:Nat×Nat}(l:fU (G.s k) ⟨.out (.snd v),(G.s k).a2⟩)(ah:G.l=28\/G.l=34)(d:Nat){cap:Nat}{x y p q:MemOp}(X:x.g=Z.wk k/\x.act=.send Z.ch (da G.l))(Y:y.act=.recv Z.ch (da G.l) cap)(V:p.act=.sendDone Z.ch (da G.l))(W:q.g=0/\q.act=.recvDone Z.ch (da G.l)):
 Base Z (G.eU k (G.s k).a2 v) ((u.at d).setChan Z.ch 0 #[] false (da G.l+1) (da G.l+1) false) (t++#[x,y,p,q])/\∀i,eh Z G (G.eU k (G.s k).a2 v) i u ((u.at d).setChan Z.ch 0 #[] false (da G.l+1) (da G.l+1) false):=by
 have E:(G.s k).cy=.no:=by rw[<-l.cy];rfl
 have I:(G.s k).cI=false:=by rw[<-l.cI];rfl
 have H:=uO c E;have Q:=tF c H;have F:=bp Q;have e:∀j,(G.eU k (G.s k).a2 v).s j=if j=k then⟨.out .d0,(G.s k).a2⟩else G.s j:=λ_=>rfl
 have D:da (G.l+1)=da G.l+1:=by rcases ah with ah|ah<;>rw[ah]<;>rfl
 generalize z:(u.at d).setChan Z.ch 0 #[] false (da G.l+1) (da G.l+1) false=ay;have r:∀b,b≠Z.ch->ay.heap[b]?=u.heap[b]?:=λb g=>by rw[<-z];exact PB (Ne.symm g)
 have B:ay.heap.size=u.heap.size:=by rw[<-z];simp[World.setChan];rfl
 have R:Calm u ay:=by rw[<-z];exact⟨by simp[World.setChan];exact Pk,rfl,rfl,Go.ConcM.OsLater.refl _⟩
 have K:dv Z (G.eU k (G.s k).a2 v) ay:=by refine⟨(r _ c.ap.pO).trans c.ww.T,(r _ c.ap.wc).trans c.ww.W,?_,λb g P=>(r b (by have:=c.ni.2;omega)).trans (c.ww.old b g P),c.ww.calm.trans R⟩;show ay.heap[Z.ch]?=some (.chan 0 #[] G.k.shut (da (G.l+1)) (da (G.l+1)) false);rw[H,D,<-z];exact PC F
 have a:=c.bT;have w:∀j,((G.eU k (G.s k).a2 v).s j).role=(G.s j).role:=λj=>by
  rw[e];split
  .rename_i f;subst f;rw[<-l.role];rfl
  .rfl
 have o:∀j,((G.eU k (G.s k).a2 v).s j).cy=(G.s j).cy:=λj=>by
  rw[e];split
  .rename_i f;subst f;rw[E];rfl
  .rfl
 have C:∀j,((G.eU k (G.s k).a2 v).s j).c=.un↔(G.s j).c=.un:=λj=>by
  rw[e];split
  .rename_i f;subst f;exact⟨λh=>(by cases h),λh=>absurd h g⟩
  .exact Iff.rfl
 have J:∀j,((G.eU k (G.s k).a2 v).s j).dO=true->(G.s j).dO=true:=λj=>by
  rw[e];split
  .intro h;cases h
  .exact id
 have L:fT (G.eU k (G.s k).a2 v):=by
  refine⟨by rw[w,w];exact a.once,?_,by rw[o,o];exact a.bound,?_,?_,?_,λh=>a.nQ ((C false).1 h),?_,λj f=>a.dO j (J j f)⟩
  .rw[o,o]
   have:=a.wg;show dM (decide (24<=G.l+1)) _ _ _=_;rw[show decide (24<=G.l+1)=decide (24<=G.l) by rcases ah with ah|ah<;>rw[ah]<;>rfl];exact this
  .show da (G.l+1)=_
   rw[D,a.cnt,e,e];have s1:(⟨.out .d0,(G.s k).a2⟩:bZ).cI=true:=rfl;cases k
   .rw[I,if_pos rfl,s1,if_neg (show ¬(true=false) by simp)]
    simp;exact Nat.add_comm _ _
   .rw[I,if_pos rfl,s1,if_neg (show ¬(false=true) by simp)]
    simp
  .rw[C]
   show G.l+1<26↔_;rw[<-a.kN];omega
  .show G.l+1<27↔G.k=.un
   rw[<-a.lr];omega
  .show 17<=G.l+1
   have:=a.b4;omega
 have ei:ef Z (G.eU k (G.s k).a2 v)=ef Z G:=by unfold ef;rw[w,w];rfl
 have T:iJ G.l=0:=by rcases ah with ah|ah<;>rw[ah]<;>rfl
 have U:iJ (G.l+1)=0:=by rcases ah with ah|ah<;>rw[ah]<;>rfl
 have S:(G.s k).deaf=0:=by rw[<-l.deaf];rfl
 have aa:=c.c6.comm (au:=G.eU k (G.s k).a2 v) k F S T rfl rfl (λj f=>by rw[e,if_neg f]) rfl (by rw[e,if_pos rfl];rfl) (J k) (C k) U ei X Y V W;exact⟨c.rest rfl rfl rfl B K L (by rw[B];exact aa),λi=>eh.same rfl rfl B (λb _ _ M=>r b M) K⟩
end
section
variable{X:dJ}{Z:Stat}[gh X Z]{G au:bI}{gs bf:Array Goroutine}{u ay w:World}{t a':Trace}{k:Bool}{g g':Goroutine}{m cP cb hh:Nat}{bl:Bool->fI X.Q}{q:Nat->Nat}{ck c0:Bool}{gD rw:Bool->Bool}{sl:Option (Nat×Nat)}{es:Array Event}{p hD:fG}
abbrev gW(Z:Stat):Array CommCase:=#[rcase Z.ch z0]
def Bo{c:e0}{M:Mem}{x:bs}{a:Nat}(ah:G.l=28\/G.l=34\/G.l=40)(h:c.ch=Z.ch)(g:At (gB Z) a ⟨G.l,c,M⟩ x):
 (∀r,eA (gB Z) a (toGot G.l c M r) 400 (x.1.finish (m6 r),x.2))/\∀main C st off (w:World),stepG aF main ⟨x.1,C,st,none,off⟩ w=.comm ⟨x.1,C,.running,none,none⟩ (gW Z) true (.recv true) w:=by
 have he:Edge.comm #[{chan:=.chan (some c.ch),send:=none,zero:=.agg #[.int .i64 0,cN]}] true (.recv true) m6 (toGot G.l c M)∈(gB Z).cq ⟨G.l,c,M⟩:=by rcases ah with ah|ah|ah<;>rw[ah]<;>exact Pl
 obtain⟨d,f⟩:=g.comm (nC Z) he;refine⟨λr=>(d r).1,λmain C st off w=>?_⟩;have:=f main C st off w;rw[h]at this;exact this
def D7{bC:kT}{v:Nat×Nat}{x:bs}{a:Nat}(g:bC.ch=Z.ch)(h:bC.i=if k then 1 else 0)(f:At (eZ bC) a (.snd v) x):
 eA (eZ bC) a .d0 400 (x.1.finish undef,x.2)/\∀main C st off (w:World),stepG aF main ⟨x.1,C,st,none,off⟩ w=.comm ⟨x.1,C,.running,none,none⟩ #[scase Z.ch (iN k v) (.tuple #[])] true .send w:=by
 obtain⟨c,d⟩:=f.comm (nE _) (cases:=#[{chan:=.chan (some bC.ch),send:=some (.agg #[.int .i64 bC.i,four v]),zero:=.tuple #[]}]) (b:=true) (bB:=.send) (cl:=λ_:Unit=>undef) (to:=λ_=>.d0) Pl;refine⟨(c ()).1,λmain C st off w=>?_⟩;have:=d main C st off w;rw[g,h]at this;exact this
def dP.meet(h:dP X Z G gs u t m bl cb q ck rw c0)(aE:(G.s k).c≠.un){v:Nat×Nat}(af:fU (G.s k) ⟨.out (.snd v),(G.s k).a2⟩)(ah:G.l=28\/G.l=34){E:bs}{ax qz:Goroutine}{nw aS H:Nat}(B:cn (eZ (G.bC k)) Z G (Z.wk k) (.snd v) [] E ax u nw aS)(aD:At (eZ (G.bC k)) H (.snd v) E)(ae:(∀(n:Nat) own b o,(gZ (G.bC k))[n]?=some (own,b,o)->G.bO b≠Z.wk k)/\jh Z G (Z.wk k) u v){c:e0}{M:Mem}{C:bs}{aw qx:Goroutine}{aa ap am:Nat}(hm:hZ Z G aw u c M C aa ap)(aC:At (gB Z) am ⟨G.l,c,M⟩ C)(a3:aa=am+1)(a2:m=aa*500+ap)(L:qz=⟨E.1.finish undef,E.2,.running,none,none⟩)(K:qx=⟨C.1.finish (m6 (some (k,v))),C.2++Z.base,.running,none,none⟩)(aO:bf.size=gs.size)(az:bf[0]?=some qx)(aQ:bf[Z.wk k]?=some qz)(Y:∀i,i≠0->i≠Z.wk k->bf[i]?=gs[i]?)(d:Nat){cap:Nat}{x y p q':MemOp}(al:x.g=Z.wk k/\x.act=.send Z.ch (da G.l))(ao:y.act=.recv Z.ch (da G.l) cap)(l:p.act=.sendDone Z.ch (da G.l))(ak:q'.g=0/\q'.act=.recvDone Z.ch (da G.l)):
 ∃cP e' gD I,dP X Z (G.eU k (G.s k).a2 v) bf ((u.at d).setChan Z.ch 0 #[] false (da G.l+1) (da G.l+1) false) (t++#[x,y,p,q']) cP e' cb q true gD I/\cP<m:=by
 have aB:=h.base.ap.pos;obtain⟨V,f⟩:=h.base.meet aE af ah d al ao l ak;generalize a4:(u.at d).setChan Z.ch 0 #[] false (da G.l+1) (da G.l+1) false=ay at V f;have e:∀j,(G.eU k (G.s k).a2 v).s j=if j=k then⟨.out .d0,(G.s k).a2⟩else G.s j:=λ_=>rfl
 have J:∀j,(G.eU k (G.s k).a2 v).cl j=if j=k then v else G.cl j:=λ_=>rfl
 obtain⟨aY,aZ,c3,a0,aq⟩:=h.base.cfg k;have aI:G.l=28\/G.l=34\/G.l=40:=ah.imp id .inl;obtain⟨aK,_⟩:=Bo aI hm.ok.cfg.2.2.1 aC;obtain⟨aR,_⟩:=D7 (k:=k) c3 aq aD;have F:=jA.id Z ay;have aJ:¬G.l=40:=by omega
 have aP:toGot G.l c M (some (k,v))=⟨G.l+1,{c with k:=k,r:=v},M⟩:=by show(if G.l=40 then _ else _)=_;rw[if_neg aJ]
 have aN:(G.s k).cI=false:=by rw[<-af.cI];rfl
 have aF:∀j,Deaf (t++#[x,y,p,q']) j=Deaf t j:=λj=>m0 (Bu h.base.eJ.2.2 al.2 ao l ak.2) j
 have a1:(Z.wk (!k))≠Z.wk k:=D2 k;have aA:hZ Z (G.eU k (G.s k).a2 v) qx ay {c with k:=k,r:=v} M (C.1.finish (m6 (some (k,v))),C.2) am 400:=by
  have aj:=aK (some (k,v));rw[aP]at aj;refine⟨⟨aj,Pk,by rw[K],by rw[K],by rw[K],hm.at_.mem.rely hm.at_.own (f 0) hm.at_.mem.floor,hm.at_.own.rely hm.at_.mem (f 0)⟩,?_⟩;obtain⟨aT,a5,aU,a6,a7⟩:=hm.ok;refine⟨aT,λhle=>?_,?_,λ_=>⟨by rw[e,if_pos rfl];rfl,by rw[J,if_pos rfl]⟩,?_⟩
  .have:(G.eU k (G.s k).a2 v).l=G.l+1:=rfl
   omega
  .rw[aU]
   have aV:jS G.l=false:=by rcases ah with ah|ah<;>rw[ah]<;>rfl
   have aW:jS (G.eU k (G.s k).a2 v).l=true:=by show jS (G.l+1)=true;rcases ah with ah|ah<;>rw[ah]<;>rfl
   have ar:hk (G.eU k (G.s k).a2 v) {c with k:=k,r:=v}=hk G c:=by
    funext j;unfold hk;rw[aV,aW,e,J];by_cases w:j=k
    .subst w;rw[aN];simp
    .rw[if_neg w,if_neg w]
     have:(k == j)=false:=by simp[Ne.symm w]
     simp[this]
   rw[ar]
  .show G.l+1<=40
   omega
 have hW:eM X Z (G.eU k (G.s k).a2 v) k qz ay ((G.eU k (G.s k).a2 v).s k) (if gC .d0 then 3 else 1,(bl k).2.1,H*500+400):=by
  rw[e,if_pos rfl];refine .out (x:=(E.1.finish undef,E.2)) (bl k).2.1 rfl ⟨aR,Pk,by rw[L],by rw[L];simp,by rw[L],B.mem.rely B.own (f _) B.mem.floor,B.own.rely B.mem (f _)⟩ (λh=>by cases h) (λn own b o he=>?_) (λr Q=>?_)
  .rw[(f (Z.wk k)).bO b (fB (M:=gZ (G.bC k)) B.mem he)]
   exact ae.1 n own b o he
  .have:r=v:=by have Q:some ((G.eU k (G.s k).a2 v).cl k)=some r:=Q;rw[J,if_pos rfl]at Q;exact(Pm Q).symm
   subst this;exact ae.2.rely (f _)
 obtain⟨aX,aM⟩:=qW (P:=λj b=>∃g,bf[Z.wk j]?=some g/\eM X Z (G.eU k (G.s k).a2 v) j g ay ((G.eU k (G.s k).a2 v).s j) (gJ bl k (if gC .d0 then 3 else 1,(bl k).2.1,H*500+400) j)/\ht Z (G.eU k (G.s k).a2 v) j g ay true (gJ bl k (if gC .d0 then 3 else 1,(bl k).2.1,H*500+400) j).1 b) (D:=λj=>((G.eU k (G.s k).a2 v).s j).c≠.un) λj w=>by
  by_cases z:j=k
  .subst z
   refine⟨true,qz,aQ,?_,?_⟩
   .unfold gJ;rw[if_pos rfl];exact hW
   .unfold gJ;rw[if_pos rfl];exact .run (by rw[L]) (Nat.succ_ne_zero 0)
  .rw[e,if_neg z]at w
   obtain⟨g,S,T,U⟩:=h.de j w;have es:(G.eU k (G.s k).a2 v).s j=G.s j:=by rw[e,if_neg z]
   have ad:(G.eU k (G.s k).a2 v).cl j=G.cl j:=by rw[J,if_neg z]
   obtain⟨R,s1,s2,a8,a9⟩:=U.jY F V es rfl ad (f _) (.inl rfl) (λ_=>rfl);refine⟨R,g,by rw[Y _ (hV aB j) (D3 z)];exact S,?_,?_⟩
   .rw[es];unfold gJ;rw[if_neg z];exact T.rely rfl ad (f _) rfl rfl rfl id
   .unfold gJ;rw[if_neg z];exact s1
 obtain⟨I,aL⟩:∃I,∀p,(G.eU k (G.s k).a2 v).k=.at p->∃g,bf[Z.N+2]?=some g/\j0 Z (G.eU k (G.s k).a2 v) p g ay cb I:=by
  have ai:(G.eU k (G.s k).a2 v).k=G.k:=rfl;rcases W:G.k with _|p
  .exact⟨false,λp l=>by rw[ai,W]at l;cases l⟩
  .obtain⟨au,S,T⟩:=h.dK p W
   obtain⟨R,U⟩:=T.jY F (f _) (.inl rfl);exact⟨R,λhD l=>by rw[ai,W]at l;cases l;exact⟨au,by rw[Y _ (by omega) (Ne.symm (s7 Z k))];exact S,U⟩⟩
 refine⟨am*500+400,gJ bl k (if gC .d0 then 3 else 1,(bl k).2.1,H*500+400),aX,I,⟨V,?_,⟨qx,_,M,_,am,400,az,aA,rfl,.run (by rw[K])⟩,aM,aL,λi av aG aH ag=>?_⟩,by omega⟩
 .rw[aO,h.size]
  show _=Z.N+(if G.l+1<26 then 1 else if G.l+1<27 then 2 else 3)
  rw[if_neg (by omega),if_neg (by omega),if_neg (by omega),if_neg (by omega)]
 .rw[Y i (by omega) (by cases k<;>simp[Stat.wk]<;>omega)]at ag
  rw[aF];exact h.old i av aG aH ag
end
end Go.aN
