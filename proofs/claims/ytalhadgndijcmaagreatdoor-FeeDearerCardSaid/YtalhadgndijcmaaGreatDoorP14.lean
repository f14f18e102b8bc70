/- Part 15 of a law on fees: no conditions. -/
import Derived.Test.YtalhadgndijcmaaGreatDoorP13
import Derived.Conc.CrowdComm
set_option maxHeartbeats 8000000
set_option maxRecDepth 100000
set_option linter.all false
namespace Go.aN
attribute [-simp] Go.Sem.runT_eq
open Go.Proofs Go.Conc Go.ConcN
section
variable{X:dJ}{Z:Stat}[gh X Z]{G au:bI}{u ay w:World}{t a' v:Trace}{k:Bool}{B:Nat}
def oS(B:Nat)(v:Trace): Prop:=∀op∈v,op.act.touch?=none/\op.act≠.mark .disable/\op.act≠.mark .enable/\op.act.low B
theorem ps{M:Trace->Prop}(g:M t)(c:∀(s:Trace) (y:MemOp),y∈v->t.size<=s.size->M s->M (s++#[y])): M (t++v):=by
 obtain⟨l⟩:=v;have key:∀(l:List MemOp) (s:Trace),t.size<=s.size->M s->(∀y∈l,∀s:Trace,t.size<=s.size->M s->M (s++#[y]))->M (s++l.toArray):=by
  intro l;induction l with
  | nil=>intro s _ h _;simpa using h
  | cons a l i=>
   intro s f h c;have e:s++(a::l).toArray=(s++#[a])++l.toArray:=by apply Array.ext';simp
   rw[e];exact i _ (by simp;omega) (c a (by simp) s f h) λy d=>c y (by simp[d])
 exact key l t Pk g λy d s f h=>c s y (by simpa using d) f h
theorem m0(c:oS B v)(g:Nat): Deaf (t++v) g=Deaf t g:=by
 refine ps (M:=λs=>Deaf s g=Deaf t g) rfl λs y d _ h=>?_
 rw[Deaf_push];unfold deafStep;have:=c y d;split
 . rename_i e;exact absurd e this.2.1
 . rename_i e;exact absurd e this.2.2.1
 . exact h
theorem ep.Bv(h:ep Z G t B)(c:oS B v)(V:eF (pl Z au) t (ef Z au) B)(T:∀g,gp Z au g->Started (pl Z au) (t++v) g)(H:∀g,gp Z G g->gp Z au g)(n:∀a:dR,a.deaf au=a.deaf G)(Q:∀k,(au.s k).dO=true->(G.s k).dO=true)(R:∀k,(au.s k).cI=true->(G.s k).cI=true\/Told (pl Z au) (· = Z.W) (t++v) (Z.wk k))(S:au.k.shut=true->G.k.shut=true)(P:au.k.said=false->G.k.said=false): ep Z au (t++v) B:=by
 have hu:∀op∈v,op.act.touch?=none:=λop f=>(c op f).1
 refine⟨?_,T,λk U=>?_,?_,λk=>?_,?_,λj l=>?_,λk U=>?_,λU=>?_,λe i a d q=>?_,λi op d J p=>?_,λi g d D I C=>?_⟩
 . exact ps (M:=λs=>eF (pl Z au) s (ef Z au) B) V λs y m _ h=>h.one y (c y m).1 (c y m).2.2.2
 . exact ps (M:=λs=>hr (pl Z au) s (Z.wk k)) (h.sI k (Q k U)) λs y m _ h=>h.one y (c y m).1
 . rw[m0 c];exact h.d0.trans (n .main).symm
 . rw[m0 c];exact(h.o8 k).trans (n (.de k)).symm
 . rw[m0 c];exact h.m1.trans (n .dK).symm
 . rw[m0 c];exact h.above j l
 . rcases R k U with U|U
   . exact(h.told k U).other λop f _=>hu op f
   . exact U
 . exact(h.shut (S U)).app λop f _=>hu op f
 . obtain⟨_,r⟩:=sx hu q
   exact h.said (P e) i a d r
 . rcases getElem?_append_cases J with ⟨_,K⟩|⟨_,L⟩
   . exact H _ (h.l7 i op d K p)
   . exact absurd (hu op L) p
 . have o:i<t.size:=by have X:=h.c6.size;have Y:(pl Z G).cH=Z.cH:=rfl;omega
   have E:t.g? i=some g:=by rw[<-n3 (u:=v) o];exact D
   obtain⟨j,l,w⟩:=h.over i g d E I ((counts_old o).1 C);have F:j<t.size:=by have:(t[j]?).map (·.g)=some 0:=l;obtain⟨z,W,_⟩:=Option.map_eq_some_iff.1 this;exact lt_size_of_getElem? W
   exact⟨j,by rw[n3 F];exact l,hb_app _ w⟩
theorem M6{L:oU}{g:Nat}(h:Started L t g)(c:L.cH<=t.size)(d:oS B v): Started L (t++v) g:=by
 have:=ps (t:=t) (v:=v) (M:=λs=>Started L s g/\L.cH<=s.size) ⟨h,c⟩ λs y f _ h=>⟨h.1.one y (d y f).1 h.2,by simp;omega⟩
 exact this.1
theorem Bu{c s r cap:Nat}{x y p q:MemOp}(d:c<B)(i:x.act=.send c s)(j:y.act=.recv c r cap)(g:p.act=.sendDone c s)(h:q.act=.recvDone c r): oS B #[x,y,p,q]:=by
 intro op f;simp only[List.mem_toArray,List.mem_cons,PD,or_false] at f;rcases f with rfl|rfl|rfl|rfl
 . rw[i];exact⟨rfl,by simp,by simp,d⟩
 . rw[j];exact⟨rfl,by simp,by simp,d⟩
 . rw[g];exact⟨rfl,by simp,by simp,d⟩
 . rw[h];exact⟨rfl,by simp,by simp,d⟩
theorem ep.comm(h:ep Z G t B)(k:Bool)(w:Z.ch<B)(hd:(G.s k).deaf=0)(hm:iJ G.l=0)(D:au.bO=G.bO)(F:au.ro=G.ro)(l:∀j,j≠k->au.s j=G.s j)(i:au.k=G.k)(z:(au.s k).deaf=0)(H:(au.s k).dO=true->(G.s k).dO=true)(K:(au.s k).c=.un↔(G.s k).c=.un)(C:iJ au.l=0)(ei:ef Z au=ef Z G){s cap:Nat}{x y p q:MemOp}(r:x.g=Z.wk k/\x.act=.send Z.ch s)(J:y.act=.recv Z.ch s cap)(E:p.act=.sendDone Z.ch s)(o:q.g=0/\q.act=.recvDone Z.ch s): ep Z au (t++#[x,y,p,q]) B:=by
 have f:oS B #[x,y,p,q]:=Bu w r.2 J E o.2;have u:Grow G au B:=⟨λb _=>by rw[D],F⟩
 have mt:∀g,gp Z au g↔gp Z G g:=by
  intro g;have I:∀j,(au.s j).c≠.un↔(G.s j).c≠.un:=λj=>by
   by_cases c:j=k
   . subst c;exact not_congr K
   . rw[l j c]
  unfold gp;rw[i];simp only[I]
 refine h.Bv f (by rw[ei];exact h.c6.mx u) (λg m=>?_) (λg m=>(mt g).2 m) (λa=>?_) (λj c=>?_) (λj c=>?_) (by rw[i];exact id) (by rw[i];exact id)
 . exact M6 ((h.st g ((mt g).1 m)).mx u) h.c6.size f
 . cases a with
   | main=>exact C.trans hm.symm
   | de j=>
    show(au.s j).deaf=(G.s j).deaf;by_cases c:j=k
    . subst c;rw[hd,z]
    . rw[l j c]
   | dK=>show au.k.deaf=G.k.deaf;rw[i]
 . by_cases d:j=k
   . subst d;exact H c
   . rw[l j d] at c;exact c
 . by_cases d:j=k
   . subst d
     refine .inr (NR (i1:=0) (i2:=3) ⟨rfl,r.1,r.2⟩ ⟨rfl,o.1,o.2⟩ (λop n=>⟨(f op n).1,(f op n).2.1,(f op n).2.2.1⟩) ?_ ?_)
     . rw[h.o8];exact hd
     . rw[h.d0];exact hm
   . rw[l j d] at c;exact .inl c
theorem eF.qZ{s:oY}(h:eF (pl Z G) t s B)(m:au.bO=G.bO)(n:∀g b,G.ro g b->au.ro g b): eF (pl Z au) t s B:=by
 refine⟨h.clean,h.size,h.gH,λi op a j l f hm c d=>?_,?_,h.seen⟩
 . refine(h.own i op a j l f hm c d).imp (λx=>?_) λx=>⟨x.1,n _ _ x.2.1,x.2.2⟩
   show op.g=au.bO _;rw[m];exact x
 . have:=h.cq
   cases s<;>exact this
theorem ep.spawn{b3:dR}(h:ep Z G t B)(z:0<Z.N)(hm:iJ G.l=0)(E:iJ au.l=0)(D:b3≠.main)(C:b3.deaf G=0)(I:au.bO=G.bO)(J:∀g b,G.ro g b->au.ro g b)(K:∀g b,g≠b3.num Z->au.ro g b->G.ro g b)(L:∀b,au.ro (b3.num Z) b->au.bO b=0)(F:oL (pl Z au))(n:∀j,(au.s j).deaf=(G.s j).deaf/\((au.s j).dO=true->(G.s j).dO=true)/\((au.s j).cI=true->(G.s j).cI=true))(m:au.k.deaf=G.k.deaf/\(au.k.shut=true->G.k.shut=true)/\(au.k.said=false->G.k.said=false))(q:∀g,gp Z au g↔(gp Z G g\/g=b3.num Z))(ei:ef Z au=ef Z G){x y:MemOp}(o:x.g=0/\x.act=.go (b3.num Z))(p:y.g=b3.num Z/\y.act=.start): ep Z au (t++#[x,y]) B:=by
 have M:oS B #[x,y]:=by
  intro op r;simp only[List.mem_toArray,List.mem_cons,PD,or_false] at r;rcases r with rfl|rfl
  . rw[o.2];exact⟨rfl,by simp,by simp,trivial⟩
  . rw[p.2];exact⟨rfl,by simp,by simp,trivial⟩
 have u:eF (pl Z au) t (ef Z au) B:=by rw[ei];exact h.c6.qZ I J
 have old:∀g,gp Z G g->g≠b3.num Z->Started (pl Z au) t g:=λg c H=>by have:=h.st g c;exact⟨this.old,λl d=>this.ro l ⟨K g _ H d.1,d.2⟩⟩
 have w:b3.num Z≠0:=λe=>D (dR.uJ z (a:=b3) (b:=.main) e)
 refine h.Bv M u (λg c=>?_) (λg c=>(q g).2 (.inl c)) (λa=>?_) (λj i=>(n j).2.1 i) (λj i=>.inl ((n j).2.2 i)) m.2.1 m.2.2
 . by_cases f:g=b3.num Z
   . subst f
     refine(old 0 (.inl rfl) (Ne.symm w)).child u o p (h.d0.trans hm) ((h.rX b3).trans C) F λl d=>?_
     have:=L _ d.1;exact⟨d.2.1,this,λ_ _ _=>this⟩
   . exact(old g (((q g).1 c).resolve_right f) f).LV h.c6.size o p
 . cases a with
   | main=>exact E.trans hm.symm
   | de j=>exact(n j).1
   | dK=>exact m.1
theorem ep.finish(h:ep Z G t B)(Y:0<Z.N)(D:Z.ch<B)(P:∀k,(G.s k).cI=true)(Q:G.k.shut=true)(hm:iJ G.l=0){y:MemOp}(n:y.g=0/\y.act=.recvClosed Z.ch): ji (λb=>Z.aE b\/b=Z.W) B (t++#[y]):=by
 have l:y.act.touch?=none:=by rw[n.2];rfl
 have I:y.act.low B:=by rw[n.2];exact D
 have hu:∀op∈#[y],op.act.touch?=none:=λop m=>by
  have e:op=y:=by simpa using m
  rw[e];exact l
 have d0:Deaf t 0=0:=h.d0.trans hm;refine(h.c6.one y l I).qU (W:=(· = Z.W)) ((h.st 0 (.inl rfl)).one y l h.c6.size) (λi op f aa=>?_) (λi g f E J C=>?_)
 . by_cases q:gp Z G op.g
   . rcases q with e|⟨k,e,_⟩|⟨e,_⟩
     . exact .inl e
     . rw[e];exact .inr ((h.told k (P k)).other λop m _=>hu op m)
     . rw[e];exact .inr ((h.shut Q).told n d0 (by omega))
   . refine .inr λS r T F K d c _=>?_
     rcases getElem?_append_cases K with ⟨_,L⟩|⟨_,M⟩
     . exact absurd (d ▸ h.l7 S r F L (by rw[c];simp)) q
     . rw[hu r M] at c;cases c
 . have p:i<t.size:=by have U:=h.c6.size;have V:(pl Z G).cH=Z.cH:=rfl;have X:i<Z.cH:=f;omega
   have d:t.g? i=some g:=by rw[<-n3 (u:=#[y]) p];exact E
   obtain⟨j,o,w⟩:=h.over i g f d J ((counts_old p).1 C);have H:j<t.size:=by have:(t[j]?).map (·.g)=some 0:=o;obtain⟨z,R,_⟩:=Option.map_eq_some_iff.1 this;exact lt_size_of_getElem? R
   exact⟨j,by rw[n3 H];exact o,hb_app _ w⟩
end
section
variable{X:dJ}{Z:Stat}[gh X Z]{G au:bI}{u ay w:World}{t a':Trace}{k:Bool}{g g':Goroutine}{c:e0}{M:Mem}{x:bs}{n j:Nat}{p:fG}
def z0:Value:=.agg #[i0,cN]
def iN(k:Bool)(v:Nat×Nat): Value:=.agg #[.int .i64 (if k then 1 else 0),four v]
inductive oQ(Z:Stat)(G:bI)(g:Goroutine)(c:e0)(M:Mem)(x:bs)(n:Nat): Bool->Prop
 | run (h:g.status=.running):oQ Z G g c M x n true
 | pB (a:Nat) (ae:∃b2,g=parked b2 #[rcase Z.ch z0] (.recv true)) (ah:G.l=28\/G.l=34\/G.l=40) (ak:n=a+1) (aJ:At (gB Z) a ⟨G.l,c,M⟩ x) (dd:G.k.shut=false):oQ Z G g c M x n false
inductive ht(Z:Stat)(G:bI)(k:Bool)(g:Goroutine)(w:World)(ck:Bool): Nat->Bool->Prop
 | run {a} (h:g.status=.running) (aa:a≠0):ht Z G k g w ck a true
 | sema {a} (h:g.status=.blocked) (av:g.offers=none) (al:∃b,(G.s k).c=.lock (.ow b)) (eW:G.ms=0) (aa:a≠0):ht Z G k g w ck a false
 | snd {a} (v:Nat×Nat) (x:bs) (n j b:Nat) (ae:∃b2,g=parked b2 #[scase Z.ch (iN k v) (.tuple #[])] .send) (al:fU (G.s k) ⟨.out (.snd v),(G.s k).a2⟩) (az:cn (eZ (G.bC k)) Z G (Z.wk k) (.snd v) [] x g w n j) (aJ:At (eZ (G.bC k)) b (.snd v) x) (ak:n=b+1)
  (gz:(∀(n:Nat) own b o,(gZ (G.bC k))[n]?=some (own,b,o)->G.bO b≠Z.wk k)/\jh Z G (Z.wk k) w v) (ia:ck=true) (aa:a≠0):ht Z G k g w ck a false
 | gone {a} (h:g.status=.finished) (al:(G.s k).c=.out .fin) (aa:a=0):ht Z G k g w ck a false
inductive j0(Z:Stat)(G:bI)(p:fG)(g:Goroutine)(w:World): Nat->Bool->Prop
 | run (x:bs) (n j:Nat) (az:cn (ic Z) Z G (Z.N+2) p [] x g w n j) (h:g.status=.running):j0 Z G p g w (n*500+j+1) true
 | wait (x:bs) (n j:Nat) (az:cn (ic Z) Z G (Z.N+2) p [] x g w n j) (h:g.status=.blocked) (av:g.offers=none) (aQ:p=.fi) (hm:G.m=0):j0 Z G p g w (n*500+j+1) false
 | gone (aQ:p=.fin) (h:g.status=.finished):j0 Z G p g w 0 false
structure jA(Z:Stat)(ay:World)(wk:Bool)(f:Goroutine->Goroutine): Prop where
 rest:∀o,o.status=.running\/o.status=.finished->f o=o
 alt:∀o:Goroutine,o.status=.blocked->o.offers=none->f o=o\/f o={o with status:=.running}
 DT:wk=true->∀o:Goroutine,o.status=.blocked->o.offers=none->f o={o with status:=.running}
 JH:∀b2 z bB,(∃s r,ay.heap[Z.ch]?=some (.chan 0 #[] false s r false))->f (parked b2 #[rcase Z.ch z] bB)=parked b2 #[rcase Z.ch z] bB
 JI:∀b2 v z bB,(∃s r,ay.heap[Z.ch]?=some (.chan 0 #[] false s r false))->f (parked b2 #[scase Z.ch v z] bB)=parked b2 #[scase Z.ch v z] bB
 LF:wk=true->∀b2 z bB,(∃s r,ay.heap[Z.ch]?=some (.chan 0 #[] true s r false))->f (parked b2 #[rcase Z.ch z] bB)={parked b2 #[rcase Z.ch z] bB with status:=.running}
theorem jA.id(Z:Stat)(ay:World): jA Z ay false (λo=>o):=⟨λ_ _=>rfl,λ_ _ _=>.inl rfl,λh=>(by cases h),λ_ _ _ _=>rfl,λ_ _ _ _ _=>rfl,λh=>(by cases h)⟩
theorem jA.woken(Z:Stat)(a c:Goroutine)(ay:World)(h:c.status=.running\/c.status=.finished): jA Z ay (mayWake aF a) (woken aF a c ay):=by
 have n:(c.status !=.blocked && c.status !=.waiting)=true:=by rcases h with h|h<;>rw[h]<;>rfl
 have d:∀o,Go.Conc.woken aF a c ay o=if mayWake aF a then o.again ay else o:=λo=>by
  unfold Go.Conc.woken;rcases hm:mayWake aF a with _|_
  . simp
  . rw[Bool.and_assoc,n];rfl
 have j:∀o:Goroutine,o.status=.blocked->o.offers=none->o.again ay={o with status:=.running}:=λo f g=>by unfold Goroutine.again;rw[f,g]
 refine⟨λo m=>?_,λo f g=>?_,λhm o f g=>?_,λl z bB ⟨s,r,i⟩=>?_,λl v z bB ⟨s,r,i⟩=>?_,λhm l z bB ⟨s,r,i⟩=>?_⟩
 . rw[d];split
   . exact again_running _ m
   . rfl
 . rw[d];split
   . exact .inr (j o f g)
   . exact .inl rfl
 . rw[d,if_pos hm];exact j o f g
 . rw[d];split
   . exact again_recv_open i
   . rfl
 . rw[d];split
   . exact again_send_open i
   . rfl
 . rw[d,if_pos hm];exact again_recv_closed i
theorem hZ.rely(h:hZ Z G g w c M x n j)(d:au.l=G.l)(i:∀k,(au.s k).cI=(G.s k).cI)(f:au.cl=G.cl)(r:eh Z G au 0 w ay)(l:g'.frame=g.frame)(m:g'.callers=g.callers)(o:g'.dying=g.dying): hZ Z au g' ay c M x n j:=by
 refine⟨by rw[d];exact h.at_.rely r l m o,?_⟩;obtain⟨p,q,u,y,z⟩:=h.ok;have e:hk au c=hk G c:=by funext k;unfold hk;rw[i,f,d]
 exact⟨p,by rw[d];exact q,by rw[e];exact u,by rw[d,i,f];exact y,by rw[d];exact z⟩
theorem oQ.jY{wk b:Bool}{f:Goroutine->Goroutine}(h:oQ Z G g c M x n b)(F:jA Z ay wk f)(l:au.l=G.l)(m:dv Z au ay)(w:au.k.shut=G.k.shut\/wk=true): ∃j,oQ Z au (f g) c M x n j/\(f g).frame=g.frame/\(f g).callers=g.callers/\(f g).dying=g.dying/\(b=true->j=true):=by
 cases h with
 | run h=>exact⟨true,.run (by rw[F.rest g (.inl h)];exact h),by rw[F.rest g (.inl h)],by rw[F.rest g (.inl h)],by rw[F.rest g (.inl h)],id⟩
 | pB a p q r o u=>
  obtain⟨i,rfl⟩:=p;rcases d:au.k.shut with _|_
  . have e:=F.JH i z0 (.recv true) ⟨_,_,by have:=m.ch;rw[d] at this;exact this⟩
    exact⟨false,.pB a ⟨i,e⟩ (by rw[l];exact q) r (by rw[l];exact o) d,by rw[e],by rw[e],by rw[e],λh=>by cases h⟩
  . have y:wk=true:=by
     rcases w with h|h
     . rw[d,u] at h;cases h
     . exact h
    have e:=F.LF y i z0 (.recv true) ⟨_,_,by have:=m.ch;rw[d] at this;exact this⟩;exact⟨true,.run (by rw[e]),by rw[e],by rw[e],by rw[e],λ_=>rfl⟩
theorem uO(f:Base Z G w t)(h:(G.s k).cy=.no): G.k.shut=false:=by
 rcases g:G.k with _|p
 . rfl
 . cases p with
   | fin=>
    have:=f.bT.pk g;obtain⟨_,c,d⟩:=s5 this;cases k
    . rw[c] at h;cases h
    . rw[d] at h;cases h
   | _=>rfl
theorem ht.jY{wk b ck eR:Bool}{m:Nat}{f:Goroutine->Goroutine}(h:ht Z G k g w ck m b)(F:jA Z ay wk f)(z:Base Z au ay a')(l:au.s k=G.s k)(p:au.bC k=G.bC k)(V:au.cl k=G.cl k)(r:eh Z G au (Z.wk k) w ay)(L:au.ms=G.ms\/au.ms=0\/wk=true)(S:ck=true->eR=true):
 ∃E,ht Z au k (f g) ay eR m E/\(f g).frame=g.frame/\(f g).callers=g.callers/\(f g).dying=g.dying:=by
 cases h with
 | run h c=>exact⟨true,.run (by rw[F.rest g (.inl h)];exact h) c,by rw[F.rest g (.inl h)],by rw[F.rest g (.inl h)],by rw[F.rest g (.inl h)]⟩
 | sema h q d hm c=>
  rcases F.alt g h q with e|e
  . by_cases u:au.ms=0
    . exact⟨false,.sema (by rw[e];exact h) (by rw[e];exact q) (by rw[l];exact d) u c,by rw[e],by rw[e],by rw[e]⟩
    . have U:wk=true:=by
       rcases L with I|I|I
       . rw[hm] at I;exact absurd I u
       . exact absurd I u
       . exact I
      have i:=F.DT U g h q;exact⟨true,.run (by rw[i]) c,by rw[i],by rw[i],by rw[i]⟩
  . exact⟨true,.run (by rw[e]) c,by rw[e],by rw[e],by rw[e]⟩
 | snd v x n j b J d D H P B T c=>
  obtain⟨y,rfl⟩:=J;have Q:(au.s k).cy=.no:=by rw[l,<-d.cy];rfl
  have R:=uO z Q;have C:=z.ww.ch;rw[R] at C;have e:=F.JI y (iN k v) (.tuple #[]) .send ⟨_,_,C⟩;refine⟨false,.snd v x n j b ⟨y,e⟩ (by rw[l];exact d) (by rw[p];exact D.rely r (by rw[e]) (by rw[e]) (by rw[e])) (by rw[p];exact H) P ⟨λn own b o he=>?_,B.2.rely r⟩ (S T) c,by rw[e],by rw[e],by rw[e]⟩;rw[p] at he;have K:=fB (M:=gZ (G.bC k)) D.mem he;rw[r.bO b K];exact B.1 n own b o he
 | gone h d c=>exact⟨false,.gone (by rw[F.rest g (.inr h)];exact h) (by rw[l];exact d) c,by rw[F.rest g (.inr h)],by rw[F.rest g (.inr h)],by rw[F.rest g (.inr h)]⟩
theorem j0.jY{wk b:Bool}{m:Nat}{f:Goroutine->Goroutine}(h:j0 Z G p g w m b)(F:jA Z ay wk f)(r:eh Z G au (Z.N+2) w ay)(hm:au.m=G.m\/au.m=0\/wk=true): ∃q,j0 Z au p (f g) ay m q:=by
 cases h with
 | run x n j c h=>
  have e:=F.rest g (.inl h);exact⟨true,.run x n j (c.rely r (by rw[e]) (by rw[e]) (by rw[e])) (by rw[e];exact h)⟩
 | wait x n j c h i l u=>
  rcases F.alt g h i with e|e
  . by_cases o:au.m=0
    . exact⟨false,.wait x n j (c.rely r (by rw[e]) (by rw[e]) (by rw[e])) (by rw[e];exact h) (by rw[e];exact i) l o⟩
    . have y:wk=true:=by
       rcases hm with I|I|I
       . rw[u] at I;exact absurd I o
       . exact absurd I o
       . exact I
      have d:=F.DT y g h i;exact⟨true,.run x n j (c.rely r (by rw[d]) (by rw[d]) (by rw[d])) (by rw[d])⟩
  . exact⟨true,.run x n j (c.rely r (by rw[e]) (by rw[e]) (by rw[e])) (by rw[e])⟩
 | gone l h=>exact⟨false,.gone l (by rw[F.rest g (.inr h)];exact h)⟩
end
section
variable{X:dJ}{Z:Stat}[gh X Z]{G au:bI}{gs bf:Array Goroutine}{u ay w:World}{t a':Trace}{k:Bool}{g g':Goroutine}{m cP cb hh:Nat}{bl:Bool->fI X.Q}{q:Nat->Nat}{ck c0:Bool}{gD rw:Bool->Bool}
structure dP(X:dJ)(Z:Stat)(G:bI)(gs:Array Goroutine)(w:World)(t:Trace)(m:Nat)(bl:Bool->fI X.Q)(cb:Nat)(q:Nat->Nat)(ck:Bool)(rw:Bool->Bool)(c0:Bool): Prop where
 base:Base Z G w t
 size:gs.size=Z.N+(if G.l<26 then 1 else if G.l<27 then 2 else 3)
 main:∃g c M x n j,gs[0]?=some g/\hZ Z G g w c M x n j/\m=n*500+j/\oQ Z G g c M x n ck
 de:∀k,(G.s k).c≠.un->∃g,gs[Z.wk k]?=some g/\eM X Z G k g w (G.s k) (bl k)/\ht Z G k g w ck (bl k).1 (rw k)
 dK:∀p,G.k=.at p->∃g,gs[Z.N+2]?=some g/\j0 Z G p g w cb c0
 old:∀i g,0<i->i<Z.N->gs[i]?=some g->QuitsD aF (q i) (Deaf t i) g
theorem fF.at{M:Mem}(h:fF M w)(n:Nat): fF M (w.at n):=⟨h.has,h.eV⟩
theorem eM.at{s:bZ}{bl:fI X.Q}(c:Base Z G w t)(h:eM X Z G k g w s bl)(n:Nat): eM X Z G k g (w.at n) s bl:=h.rely rfl rfl (eh.at Z G _ c.ww n) rfl rfl rfl id
theorem cn.at{Pos:Type}{A:cS Pos}{i:Nat}{p:Pos}{base:List Frame}{x:bs}{n j:Nat}(h:cn A Z G i p base x g w n j)(d:Nat): cn A Z G i p base x g (w.at d) n j:=⟨h.on,h.le,h.fr,h.cs,h.lL,h.mem.at d,h.own⟩
theorem dP.at(h:dP X Z G gs w t m bl cb q ck rw c0)(d:Nat): dP X Z G gs (w.at d) t m bl cb q ck rw c0:=by
 refine⟨h.base.at d,h.size,?_,λk I=>?_,λp z=>?_,h.old⟩
 . obtain⟨g,c,M,x,n,j,l,i,o,E⟩:=h.main
   exact⟨g,c,M,x,n,j,l,⟨i.at_.at d,i.ok⟩,o,E⟩
 . obtain⟨g,l,i,o⟩:=h.de k I
   refine⟨g,l,i.at h.base d,?_⟩;generalize rw k=r at o ⊢;generalize (bl k).1=mk at o ⊢;cases o with
   | run h f=>exact .run h f
   | sema h D u J f=>exact .sema h D u J f
   | snd v x n j b H u B F K C L f=>exact .snd v x n j b H u (B.at d) F K ⟨C.1,C.2.1,C.2.2,C.2.3⟩ L f
   | gone h u f=>exact .gone h u f
 . obtain⟨g,l,i⟩:=h.dK p z
   refine⟨g,l,?_⟩;clear h;cases i with
   | run x n j B y=>exact .run x n j (B.at d) y
   | wait x n j B y D z hm=>exact .wait x n j (B.at d) y D z hm
   | gone z y=>exact .gone z y
theorem dP.live(h:dP X Z G gs w t m bl cb q ck rw c0): ∃(i:Nat) (g:Goroutine),gs[i]?=some g/\g.status=.running:=by
 obtain⟨g,c,M,x,n,j,S,ak,al,T⟩:=h.main;cases T with
 | run d=>exact⟨0,g,S,d⟩
 | pB a aa ao I am K=>
  have af:¬ G.l<27:=by omega
  have ae:¬ G.l<26:=by omega
  have Q:(G.s true).c≠.un:=λe=>ae (h.base.bT.kN.2 e)
  have P:=h.base.bT.nQ;have bA:∃p,G.k=.at p:=by
   rcases ad:G.k with _|p
   . exact absurd (h.base.bT.lr.2 ad) af
   . exact⟨p,rfl⟩
  obtain⟨p,B⟩:=bA;obtain⟨gk,ah,ai⟩:=h.dK p B;obtain⟨D,L,w2,w3⟩:=h.de false P;obtain⟨E,v1,v2,v3⟩:=h.de true Q;have sema:∀k,(∀j,∃g,gs[Z.wk j]?=some g/\ht Z G j g w false (bl j).1 (rw j))->(∃b,(G.s k).c=.lock (.ow b))->G.ms=0->∃(i:Nat) (g:Goroutine),gs[i]?=some g/\g.status=.running:=by
   intro k u ⟨b,U⟩ l;obtain⟨g',R,y⟩:=u (!k);have z:=h.base.bT.side k;have d:(G.s k).role=.q:=by unfold bZ.role;rw[U];rfl
   rw[d] at z;have ag:(G.s (!k)).role≠.fin:=by
    rcases cx.sema z with ⟨_,e⟩|⟨e,_⟩
    . exact e
    . rw[l] at e;cases e
   have J:(G.s (!k)).role≠.idle/\(G.s (!k)).role≠.q:=by have:=z.mu;constructor<;>(intro e;rw[e] at this;simp[iw,iK] at this)
   generalize rw (!k)=r at y;generalize (bl (!k)).1=mk at y;cases y with
   | run d _=>exact⟨_,g',R,d⟩
   | sema _ _ f _ _=>
    obtain⟨aj,V⟩:=f;exact absurd (by unfold bZ.role;rw[V];rfl) J.2
   | snd v x n j b aa f _ _ _ _ o _=>cases o
   | gone _ f _=>
    exfalso;rcases F:(G.s (!k)).a2 with _|_
    . exact J.1 (by unfold bZ.role;rw[f,F];rfl)
    . exact ag (by unfold bZ.role;rw[f,F];rfl)
  have u:∀j,∃g,gs[Z.wk j]?=some g/\ht Z G j g w false (bl j).1 (rw j):=λj=>by
   cases j
   . exact⟨D,L,w3⟩
   . exact⟨E,v1,v3⟩
  clear w2 v2;generalize rw false=r0 at w3;generalize rw true=r1 at v3;generalize (bl false).1=ap at w3;generalize (bl true).1=aq at v3;cases w3 with
  | run d _=>exact⟨_,D,L,d⟩
  | sema _ _ f l _=>exact sema false u f l
  | snd _ _ _ _ _ _ _ _ _ _ _ o _=>cases o
  | gone _ W _=>
   cases v3 with
   | run d _=>exact⟨_,E,v1,d⟩
   | sema _ _ f l _=>exact sema true u f l
   | snd _ _ _ _ _ _ _ _ _ _ _ o _=>cases o
   | gone _ Y _=>
    cases ai with
    | run _ _ _ _ d=>exact⟨_,gk,ah,d⟩
    | wait _ _ _ _ _ _ C hm=>
     exfalso;subst C;have wg:=h.base.bT.pk B;rcases DZ wg with ⟨_,I⟩|⟨H,_⟩
     . exact I ⟨by unfold bZ.cy;rw[W];rfl,by unfold bZ.cy;rw[Y];rfl⟩
     . rw[hm] at H;cases H
    | gone C _=>
     exfalso;subst C;rw[B] at K;cases K
abbrev p8(Q:Program):=Nat×fI Q×fI Q×Nat×Nat×Nat
def pr(Q:Program): p8 Q->p8 Q->Prop:=Prod.Lex (· < ·) (Prod.Lex (dZ Q) (Prod.Lex (dZ Q) (Prod.Lex (· < ·) (Prod.Lex (· < ·) (· < ·)))))
theorem I7(Q:Program): WellFounded (pr Q):=
 (Prod.lex ⟨_,Nat.lt_wfRel.wf⟩ (Prod.lex ⟨_,D5 Q⟩ (Prod.lex ⟨_,D5 Q⟩ (Prod.lex ⟨_,Nat.lt_wfRel.wf⟩ (Prod.lex ⟨_,Nat.lt_wfRel.wf⟩ ⟨_,Nat.lt_wfRel.wf⟩))))).wf
def jD(b:Bool): Nat:=if b then 1 else 0
def gV(Z:Stat)(m:Nat)(bl:Bool->fI X.Q)(cb:Nat)(q:Nat->Nat)(ck:Bool)(rw:Bool->Bool)(c0:Bool): p8 X.Q:=(m,bl false,bl true,cb,sumTo Z.N q,jD ck+jD (rw false)+jD (rw true)+jD c0)
def gJ{α:Type}(f:Bool->α)(k:Bool)(x:α): Bool->α:=λj=>if j=k then x else f j
theorem ss{x:p8 X.Q}(h:cP<m)(e:x.1=cP): pr X.Q x (gV Z m bl cb q ck rw c0):=by obtain⟨a,b⟩:=x;subst e;exact .left _ _ h
theorem Ja{e':fI X.Q}(k:Bool)(h:dZ X.Q e' (bl k))(hh:Nat)(q':Nat->Nat)(eR:Bool)(gD:Bool->Bool)(c:Bool): pr X.Q (gV Z m (gJ bl k e') hh q' eR gD c) (gV Z m bl cb q ck rw c0):=by
 unfold gV gJ;cases k
 . exact .right _ (.left _ _ h)
 . exact .right _ (.right _ (.left _ _ h))
theorem I9(h:hh<cb)(q':Nat->Nat)(eR:Bool)(gD:Bool->Bool)(c:Bool): pr X.Q (gV Z m bl hh q' eR gD c) (gV Z m bl cb q ck rw c0):=.right _ (.right _ (.right _ (.left _ _ h)))
theorem I'{q':Nat->Nat}(h:sumTo Z.N q'<sumTo Z.N q)(eR:Bool)(gD:Bool->Bool)(c:Bool): pr X.Q (gV Z m bl cb q' eR gD c) (gV Z m bl cb q ck rw c0):=.right _ (.right _ (.right _ (.right _ (.left _ _ h))))
theorem xF{eR:Bool}{gD:Bool->Bool}{c:Bool}(h:jD eR+jD (gD false)+jD (gD true)+jD c<jD ck+jD (rw false)+jD (rw true)+jD c0): pr X.Q (gV Z m bl cb q eR gD c) (gV Z m bl cb q ck rw c0):=.right _ (.right _ (.right _ (.right _ (.right _ h))))
theorem Ly(a:fT G)(i:fT au)(l:au.l=G.l)(k:Bool)(g:∀j,j≠k->au.s j=G.s j): ∀j,(au.s j).cI=(G.s j).cI:=by
 have d:=a.cnt;have c:=i.cnt;rw[l] at c;intro j;by_cases h:j=k
 . subst h
   cases j
   . rw[g true (by simp)] at c
     rcases e:(G.s false).cI with _|_<;>rcases f:(au.s false).cI with _|_<;>rw[e] at d<;>rw[f] at c<;>simp at d c<;>first|rfl|omega
   . rw[g false (by simp)] at c
     rcases e:(G.s true).cI with _|_<;>rcases f:(au.s true).cI with _|_<;>rw[e] at d<;>rw[f] at c<;>simp at d c<;>first|rfl|omega
 . rw[g j h]
end
section
variable{X:dJ}{Z:Stat}[gh X Z]{G au:bI}{gs bf:Array Goroutine}{u ay w:World}{t a':Trace}{k:Bool}{g g':Goroutine}{m cP cb hh:Nat}{bl:Bool->fI X.Q}{q:Nat->Nat}{ck c0:Bool}{gD rw:Bool->Bool}{sl:Option (Nat×Nat)}{es:Array Event}
def j5(X:dJ)(Z:Stat)(gs:Array Goroutine)(u:World)(sl:Option (Nat×Nat))(t:Trace)(i:Nat)(d:p8 X.Q): Prop:=
 ∃(au:bI) (bf:Array Goroutine) (ay:World) (ops:Array MemOp) (cP:Nat) (e':Bool->fI X.Q) (hh:Nat) (q':Nat->Nat) (eR:Bool) (gD:Bool->Bool) (c:Bool),
  runT aF (crowd gs u sl) i=(.next (crowd bf ay sl),ops)/\dP X Z au bf ay (t++ops) cP e' hh q' eR gD c/\pr X.Q (gV Z cP e' hh q' eR gD c) d
theorem qw{f:Goroutine->Goroutine}{i j:Nat}{x:Goroutine}(h:j≠i): ((gs.map f).setIfInBounds i x)[j]?=(gs[j]?).map f:=by rw[PB (Ne.symm h),Array.getElem?_map]
theorem sb{f:Goroutine->Goroutine}{i:Nat}{x g:Goroutine}(h:gs[i]?=some g): ((gs.map f).setIfInBounds i x)[i]?=some x:=by rw[PC (by simpa using bp h)]
theorem hV(c:0<Z.N)(k:Bool): Z.wk k≠0:=by cases k<;>simp[Stat.wk]<;>omega
theorem D2(k:Bool): Z.wk (!k)≠Z.wk k:=by cases k<;>simp[Stat.wk]
theorem y6{a:Nat}{b:Bool}(h:ht Z G k g w ck a b)(c:g.status=.running): b=true/\a≠0:=by
 cases h with
 | run _ d=>exact⟨rfl,d⟩
 | sema h _ _ _ _=>rw[c] at h;cases h
 | snd _ _ _ _ _ f _ _ _ _ _ _ _=>obtain⟨i,rfl⟩:=f;cases c
 | gone h _ _=>rw[c] at h;cases h
theorem eM.res{s:bZ}{p:gR}{bl:fI X.Q}(h:eM X Z G k g w s bl)(d:s.c=.out p)(f:l5 p=true): jh Z G (Z.wk k) w (G.cl k):=by
 cases h with
 | out fp ok h j l c=>
  cases d;exact c _ (by cases p<;>first|rfl|cases f)
 | gone fp i c=>exact c
 | _=>cases d
theorem Ai(t:Trace)(g:Nat)(fn:FuncId)(pos:String): t++MemOp.ofEvents g fn pos #[]=t:=by rw[ofEvents_eq];simp
theorem dP.others(h:dP X Z G gs u t m bl cb q ck rw c0)(i0:Nat){wk:Bool}{f:Goroutine->Goroutine}(F:jA Z ay wk f)(E:Base Z au ay a')(y:au.l=G.l)(H:au.bC=G.bC)(z:au.cl=G.cl)(aj:∀j,Z.wk j≠i0->au.s j=G.s j)(ah:i0≠Z.N+2->au.k=G.k)(ak:∀k,(au.s k).cI=(G.s k).cI)(r:∀i,i≠i0->eh Z G au i u ay)(am:bf.size=gs.size)(o:∀i,i≠i0->bf[i]?=(gs[i]?).map f)(ai:au.ms=G.ms\/au.ms=0\/wk=true)(hm:au.m=G.m\/au.m=0\/wk=true)(al:au.k.shut=G.k.shut\/wk=true)(ag:∀i,i≠i0->Deaf a' i=Deaf t i):
 ∃eR,(i0≠0->∃g c M x n j,bf[0]?=some g/\hZ Z au g ay c M x n j/\m=n*500+j/\oQ Z au g c M x n eR)/\(ck=true->eR=true)/\
  (∀k,Z.wk k≠i0->(G.s k).c≠.un->∃g b,bf[Z.wk k]?=some g/\eM X Z au k g ay (au.s k) (bl k)/\ht Z au k g ay eR (bl k).1 b)/\(i0≠Z.N+2->∀p,au.k=.at p->∃g b,bf[Z.N+2]?=some g/\j0 Z au p g ay cb b)/\
  (∀i g,i≠i0->0<i->i<Z.N->bf[i]?=some g->QuitsD aF (q i) (Deaf a' i) g)/\bf.size=Z.N+(if au.l<26 then 1 else if au.l<27 then 2 else 3):=by
 obtain⟨g,c,M,x,n,j,W,Y,aa,ad⟩:=h.main;obtain⟨eR,t1,t2,t3,t4,t5⟩:=ad.jY F y E.ww al;refine⟨eR,λd=>?_,t5,λk l af=>?_,λd p K=>?_,λi g d V ae J=>?_,by rw[am,y];exact h.size⟩
 . exact⟨f g,c,M,x,n,j,by rw[o 0 (Ne.symm d),W];rfl,Y.rely y ak z (r 0 (Ne.symm d)) t2 t3 t4,aa,t1⟩
 . obtain⟨gk,B,C,ao⟩:=h.de k af
   have P:=aj k l;obtain⟨w,R,S,T,U⟩:=ao.jY F E P (by rw[H]) (by rw[z]) (r _ l) ai t5;refine⟨f gk,w,by rw[o _ l,B];rfl,?_,R⟩;rw[P];exact C.rely (by rw[H]) (by rw[z]) (r _ l) S T U λI=>by rw[F.rest gk (.inr I)];exact I
 . rw[ah d] at K
   obtain⟨gk,B,C⟩:=h.dK p K;obtain⟨w,e⟩:=C.jY F (r _ (Ne.symm d)) hm;exact⟨f gk,w,by rw[o _ (Ne.symm d),B];rfl,e⟩
 . rw[o i d] at J
   obtain⟨D,Q,rfl⟩:=Option.map_eq_some_iff.1 J;have L:=h.old i D V ae Q;rw[F.rest D L.status,ag i d];exact L
theorem D3{k j:Bool}(h:j≠k): Z.wk j≠Z.wk k:=λe=>h (y4 e)
theorem dP.zA(h:dP X Z G gs u t m bl cb q ck rw c0)(k:Bool)(ao:(G.s k).c≠.un)(y:gs[Z.wk k]?=some g){e':fI X.Q}(ak:stepG aF false g u=.go g' ay es)(w:Base Z au ay (t++MemOp.ofEvents (Z.wk k) g.frame.fn g.frame.place es))(ag:g'.status=.running\/g'.status=.finished)(C:∀j,j≠k->au.s j=G.s j)(I:au.k=G.k)(J:au.l=G.l)(U:au.bC=G.bC)(ai:au.cl=G.cl)(ae:∀i,i≠Z.wk k->eh Z G au i u ay)(L:eM X Z au k g' ay (au.s k) e'){b:Bool}(K:∀eR,ht Z au k g' ay eR e'.1 b)(aa:au.ms=G.ms\/au.ms=0\/mayWake aF g=true)(hm:au.m=G.m\/au.m=0\/mayWake aF g=true)(Y:dZ X.Q e' (bl k)): j5 X Z gs u sl t (Z.wk k) (gV Z m bl cb q ck rw c0):=by
 have H:=h.base.ap.pos;have ah:=runT_crowd_go (P:=aF) (sl:=sl) y (show stepG aF (Z.wk k == 0) g u=_ by rw[show(Z.wk k == 0)=false by simpa using hV H k];exact ak);have F:=jA.woken Z g g' ay ag;obtain⟨eR,M,am,a3,a4,a5,Q⟩:=h.others (bf:=(gs.map (woken aF g g' ay)).setIfInBounds (Z.wk k) g') (Z.wk k) F w J U ai (λj d=>C j λe=>d (by rw[e])) (λ_=>I) (Ly h.base.bT w.bT J k C) ae (by simp) (λi z=>qw z) aa hm (.inl (by rw[I]))
  (λi z=>Deaf_other t (g':=Z.wk k) (Ne.symm z) _ λop ad=>by obtain⟨e,_,rfl⟩:=Go.Conc.mem_ofEvents ad;rfl)
 have al:∀j,j≠k->(au.s j).c≠.un->(G.s j).c≠.un:=λj d hu=>by rw[<-C j d];exact hu
 obtain⟨E,aj⟩ : ∃E:Bool->Bool,∀j,(au.s j).c≠.un->∃c,((gs.map (woken aF g g' ay)).setIfInBounds (Z.wk k) g')[Z.wk j]?=some c/\eM X Z au j c ay (au.s j) (gJ bl k e' j)/\ht Z au j c ay eR (gJ bl k e' j).1 (E j):=by
  by_cases hu:(G.s (!k)).c=.un
  . refine⟨λ_=>b,λj d=>?_⟩
    by_cases f:j=k
    . subst f
      exact⟨g',sb y,by unfold gJ;rw[if_pos rfl];exact L,by unfold gJ;rw[if_pos rfl];exact K eR⟩
    . have:j = !k:=by cases j<;>cases k<;>simp_all
      subst this;exact absurd hu (al _ f d)
  . obtain⟨r,l,n,o,R⟩:=a3 (!k) (D2 k) hu
    refine⟨λj=>if j=k then b else l,λj d=>?_⟩;by_cases f:j=k
    . subst f
      refine⟨g',sb y,by unfold gJ;rw[if_pos rfl];exact L,?_⟩;unfold gJ;simp only[if_true];exact K eR
    . have:j = !k:=by cases j<;>cases k<;>simp_all
      subst this;refine⟨r,n,?_,?_⟩
      . unfold gJ;rw[if_neg f];exact o
      . unfold gJ;simp only[if_neg f];exact R
 obtain⟨D,af⟩ : ∃D,∀p,au.k=.at p->∃c,((gs.map (woken aF g g' ay)).setIfInBounds (Z.wk k) g')[Z.N+2]?=some c/\j0 Z au p c ay cb D:=by
  rcases W:au.k with _|p
  . exact⟨false,λp B=>by cases B⟩
  . obtain⟨r,l,n,o⟩:=a4 (s7 Z k) p W
    exact⟨l,λhD B=>by cases B;exact⟨r,n,o⟩⟩
 exact⟨au,_,ay,_,m,gJ bl k e',cb,q,eR,E,D,ah,⟨w,Q,M (hV H k),aj,af,λi g S T V=>a5 i g (by cases k<;>simp[Stat.wk]<;>omega) S T V⟩,Ja k Y _ _ _ _ _⟩
end
section
variable{X:dJ}{Z:Stat}[gh X Z]{G au:bI}{gs bf:Array Goroutine}{u ay w:World}{t a':Trace}{k:Bool}{g g':Goroutine}{m cP cb hh:Nat}{bl:Bool->fI X.Q}{q:Nat->Nat}{ck c0:Bool}{gD rw:Bool->Bool}{sl:Option (Nat×Nat)}{es:Array Event}{p hD:fG}
theorem qW{P:Bool->Bool->Prop}{D:Bool->Prop}(h:∀k,D k->∃b,P k b): ∃rw:Bool->Bool,∀k,D k->P k (rw k):=by refine⟨λk=>Classical.epsilon λb=>P k b,λk c=>?_⟩;exact Classical.epsilon_spec (h k c)
theorem dP.zz(h:dP X Z G gs u t m bl cb q ck rw c0)(n:gs[Z.N+2]?=some g)(V:stepG aF false g u=.go g' ay es)(l:Base Z au ay (t++MemOp.ofEvents (Z.N+2) g.frame.fn g.frame.place es))(Q:g'.status=.running\/g'.status=.finished)(H:au.k=.at hD)(f:au.s=G.s)(I:au.l=G.l)(C:au.bC=G.bC)(S:au.cl=G.cl)(M:∀i,i≠Z.N+2->eh Z G au i u ay){b:Bool}(W:j0 Z au hD g' ay hh b)(K:au.ms=G.ms)(hm:au.m=G.m\/au.m=0)(U:au.k.shut=G.k.shut\/mayWake aF g=true)(J:hh<cb): j5 X Z gs u sl t (Z.N+2) (gV Z m bl cb q ck rw c0):=by
 have ad:=h.base.ap.pos;have R:=runT_crowd_go (P:=aF) (sl:=sl) n (show stepG aF (Z.N+2 == 0) g u=_ by rw[show(Z.N+2 == 0)=false by simp];exact V);have F:=jA.woken Z g g' ay Q;obtain⟨eR,w,aa,a3,a4,a5,y⟩:=h.others (bf:=(gs.map (woken aF g g' ay)).setIfInBounds (Z.N+2) g') (Z.N+2) F l I C S (λj _=>by rw[f]) (λe=>absurd rfl e) (λj=>by rw[f]) M (by simp) (λi d=>qw d) (.inl K) (hm.imp id .inl) U
  (λi d=>Deaf_other t (g':=Z.N+2) (Ne.symm d) _ λop L=>by obtain⟨e,_,rfl⟩:=Go.Conc.mem_ofEvents L;rfl)
 obtain⟨Y,T⟩:=qW (P:=λk b=>∃c,((gs.map (woken aF g g' ay)).setIfInBounds (Z.N+2) g')[Z.wk k]?=some c/\eM X Z au k c ay (au.s k) (bl k)/\ht Z au k c ay eR (bl k).1 b) (D:=λk=>(au.s k).c≠.un) λk o=>by obtain⟨c,b,e⟩:=a3 k (s7 Z k) (by rw[f] at o;exact o);exact⟨b,c,e⟩
 exact⟨au,_,ay,_,m,bl,hh,q,eR,Y,b,R,⟨l,y,w (by omega),T,λp r=>by rw[H] at r;cases r;exact⟨g',sb n,W⟩,λi g z B E=>a5 i g (by omega) z B E⟩,I9 J _ _ _ _⟩
theorem dP.E1(h:dP X Z G gs u t m bl cb q ck rw c0){i:Nat}(ak:0<i)(T:i<Z.N)(H:gs[i]?=some g)(E:g.status=.running): j5 X Z gs u sl t i (gV Z m bl cb q ck rw c0):=by
 have C:=h.old i g ak T H;have aw:(i == 0)=false:=by simp;omega
 cases L:q i with
 | zero=>rw[L] at C;rw[C.1] at E;cases E
 | succ a=>
  rw[L] at C;rcases C with ⟨aq,_⟩|⟨_,g',es,V,aL,W⟩
  . rw[aq] at E;cases E
  have aH:=W.status;have aJ:=runT_crowd_go (P:=aF) (sl:=sl) H (show stepG aF (i == 0) g u=_ by rw[aw];exact aL u);have F:=jA.woken Z g g' u aH;have aT:oS u.heap.size (MemOp.ofEvents i g.frame.fn g.frame.place es)\/True:=.inr trivial;have gu:∀op∈MemOp.ofEvents i g.frame.fn g.frame.place es,op.g=i/\op.act.touch?=none/\op.act.low u.heap.size:=λop f=>by obtain⟨e,he,rfl⟩:=Go.Conc.mem_ofEvents f;exact⟨rfl,touch_mute (V e he),low_mute (V e he) _⟩
  have B:∀j,j≠i->Deaf (t++MemOp.ofEvents i g.frame.fn g.frame.place es) j=Deaf t j:=λj d=>Deaf_other t (g':=i) (Ne.symm d) _ λop f=>(gu op f).1
  have c:=h.base.c6;have S:Base Z G u (t++MemOp.ofEvents i g.frame.fn g.frame.place es):=by
   refine⟨h.base.ww,h.base.bT,h.base.ap,?_,h.base.mz,h.base.q3,h.base.hold,h.base.old,h.base.ni,h.base.hi,h.base.pF,h.base.cfg⟩;have aO:∀k,Z.wk k≠i:=λk=>by cases k<;>simp[Stat.wk]<;>omega
   refine⟨?_,λg' ar=>?_,λk w=>?_,?_,λk=>?_,?_,λj d=>?_,λk w=>?_,λw=>?_,λe n aa r al=>?_,λn op r aD Y=>?_,λn R r au aC ap=>?_⟩
   . exact ps (M:=λs=>eF (pl Z G) s (ef Z G) u.heap.size) c.c6 λs y o _ h=>h.one y (gu y o).2.1 (gu y o).2.2
   . have:=ps (t:=t) (v:=MemOp.ofEvents i g.frame.fn g.frame.place es) (M:=λs=>Started (pl Z G) s g'/\(pl Z G).cH<=s.size) ⟨c.st g' ar,c.c6.size⟩ λs y o _ h=>⟨h.1.one y (gu y o).2.1 h.2,by simp;omega⟩
     exact this.1
   . exact ps (M:=λs=>hr (pl Z G) s (Z.wk k)) (c.sI k w) λs y o _ h=>h.one y (gu y o).2.1
   . rw[B 0 (by omega)];exact c.d0
   . rw[B _ (aO k)];exact c.o8 k
   . rw[B _ (by omega)];exact c.m1
   . rw[B _ (by omega)];exact c.above j d
   . exact(c.told k w).other λop f _=>(gu op f).2.1
   . exact(c.shut w).app λop f _=>(gu op f).2.1
   . obtain⟨_,am⟩:=sx (λop f=>(gu op f).2.1) al
     exact c.said e n aa r am
   . rcases getElem?_append_cases aD with ⟨_,aE⟩|⟨_,aG⟩
     . exact c.l7 n op r aE Y
     . exact absurd (gu op aG).2.1 Y
   . have U:n<t.size:=by have aQ:=c.c6.size;have aR:(pl Z G).cH=Z.cH:=rfl;omega
     have av:t.g? n=some R:=by rw[<-n3 (u:=MemOp.ofEvents i g.frame.fn g.frame.place es) U];exact au
     obtain⟨j,d,ao⟩:=c.over n R r av aC ((counts_old U).1 ap);have az:j<t.size:=by have:(t[j]?).map (·.g)=some 0:=d;obtain⟨z,aM,_⟩:=Option.map_eq_some_iff.1 this;exact lt_size_of_getElem? aM
     exact⟨j,by rw[n3 az];exact d,hb_app _ ao⟩
  obtain⟨eR,ad,aP,a3,a4,a5,ae⟩:=h.others (bf:=(gs.map (woken aF g g' u)).setIfInBounds i g') i F S rfl rfl rfl (λ_ _=>rfl) (λ_=>rfl) (λ_=>rfl) (λj _=>eh.at Z G j h.base.ww u.drawn) (by simp) (λj d=>qw d) (.inl rfl) (.inl rfl) (.inl rfl) (λj d=>B j d);obtain⟨aN,aK⟩:=qW (P:=λk b=>∃l,((gs.map (woken aF g g' u)).setIfInBounds i g')[Z.wk k]?=some l/\eM X Z G k l u (G.s k) (bl k)/\ht Z G k l u eR (bl k).1 b) (D:=λk=>(G.s k).c≠.un) λk aA=>by obtain⟨l,b,e⟩:=a3 k (by cases k<;>simp[Stat.wk]<;>omega) aA;exact⟨b,l,e⟩
  obtain⟨Q,aI⟩ : ∃Q,∀p,G.k=.at p->∃l,((gs.map (woken aF g g' u)).setIfInBounds i g')[Z.N+2]?=some l/\j0 Z G p l u cb Q:=by
   rcases aB:G.k with _|p
   . exact⟨false,λp K=>by cases K⟩
   . obtain⟨ai,af,ag,ah⟩:=a4 (by omega) p aB
     exact⟨af,λhD K=>by cases K;exact⟨ai,ag,ah⟩⟩
  refine⟨G,_,u,_,m,bl,cb,upd q i a,eR,aN,Q,aJ,⟨S,ae,ad (by omega),aK,aI,λj aj ax ay I=>?_⟩,I' ?_ _ _ _⟩
  . by_cases J:j=i
    . subst J
      rw[sb H] at I;obtain rfl:=Pm I;rw[upd_same,Deaf_own];exact W
    . rw[upd_ne q a J]
      exact a5 j aj J ax ay I
  . have aS:sumTo Z.N (upd q i a)+(a+1)=sumTo Z.N q+a:=by have:=sumTo_upd q a _root_.id T;simpa [L] using this
    omega
theorem Cg{i:Nat}(c:gs[i]?=some g)(d:stepG aF (i == 0) g u=.go {frame:=g.frame,callers:=g.callers,status:=.blocked,dying:=none} u)(sl:Option (Nat×Nat)): runT aF (crowd gs u sl) i=(.next (crowd (gs.setIfInBounds i {frame:=g.frame,callers:=g.callers,status:=.blocked,dying:=none}) u sl),#[]):=by
 have:=runT_crowd_go (P:=aF) (sl:=sl) c d;have e:gs.map (woken aF g {frame:=g.frame,callers:=g.callers,status:=.blocked,dying:=none} u)=gs:=by
  apply Array.ext_getElem?;intro j;rw[Array.getElem?_map];cases gs[j]? with
  | none=>rfl
  | some o=>simp[woken]
 rw[e] at this;rw[this,ofEvents_eq];simp
theorem dP.Cf(h:dP X Z G gs u t m bl cb q ck rw c0)(k:Bool)(K:(G.s k).c≠.un)(y:gs[Z.wk k]?=some g)(C:g.status=.running)(W:eM X Z G k g u (G.s k) (bl k))(P:g'.frame=g.frame)(L:g'.callers=g.callers)(hd:g'.dying=g.dying)(V:ht Z G k g' u ck (bl k).1 false)(U:runT aF (crowd gs u sl) (Z.wk k)=(.next (crowd (gs.setIfInBounds (Z.wk k) g') u sl),#[])): j5 X Z gs u sl t (Z.wk k) (gV Z m bl cb q ck rw c0):=by
 have I:=h.base.ap.pos;have S:=bp y;obtain⟨d,w,_,E⟩:=h.de k K;rw[y] at w;obtain rfl:=Pm w;obtain⟨B,_⟩:=y6 E C;have o:∀i,i≠Z.wk k->(gs.setIfInBounds (Z.wk k) g')[i]?=gs[i]?:=λi Q=>PB (Ne.symm Q)
 refine⟨G,_,u,#[],m,bl,cb,q,ck,gJ rw k false,c0,U,⟨by simpa using h.base,by rw[Array.size_setIfInBounds];exact h.size,?_,λj R=>?_,λp T=>?_,λi F H J z=>?_⟩,xF ?_⟩
 . obtain⟨d,c,M,x,n,j,f,l⟩:=h.main
   exact⟨d,c,M,x,n,j,by rw[o 0 (Ne.symm (hV I k))];exact f,l⟩
 . by_cases r:j=k
   . subst r
     refine⟨g',by rw[PC S],W.rely rfl rfl (eh.at Z G _ h.base.ww u.drawn) P L hd (λD=>by rw[C] at D;cases D),?_⟩;unfold gJ;rw[if_pos rfl];exact V
   . obtain⟨d,f,l⟩:=h.de j R
     refine⟨d,by rw[o _ (D3 r)];exact f,?_⟩;unfold gJ;rw[if_neg r];exact l
 . obtain⟨d,f,l⟩:=h.dK p T
   exact⟨d,by rw[o _ (Ne.symm (s7 Z k))];exact f,l⟩
 . rw[o i (by cases k<;>simp[Stat.wk]<;>omega)] at z
   simpa using h.old i F H J z
 . unfold gJ jD
   cases k
   . rw[B];simp
   . rw[B];simp
end
section
variable{X:dJ}{Z:Stat}[gh X Z]{G au:bI}{gs bf:Array Goroutine}{u ay w:World}{t a':Trace}{k:Bool}{g g':Goroutine}{m cP cb hh:Nat}{bl:Bool->fI X.Q}{q:Nat->Nat}{ck c0:Bool}{gD rw:Bool->Bool}{sl:Option (Nat×Nat)}{es:Array Event}{p hD:fG}
theorem dP.NT(h:dP X Z G gs u t m bl cb q ck rw c0)(z:G.k=.at p)(f:gs[Z.N+2]?=some g)(L:g.status=.running): j5 X Z gs u sl t (Z.N+2) (gV Z m bl cb q ck rw c0):=by
 obtain⟨w,H,Q⟩:=h.dK p z;rw[f] at H;obtain rfl:=Pm H;have ak:=h.base.ap.pos;have W:(Z.N+2 == 0)=false:=by simp
 cases Q with
 | wait _ _ _ _ y _ _ _=>rw[L] at y;cases y
 | gone _ I=>rw[L] at I;cases I
 | run x n j d _=>
  rcases Fq h.base z d with ⟨au,hD,ay,l,g',aj,cM,bn,r,aa,ag,ad,U,af,y,o,ai,E,P,ae,hm,ah⟩|⟨r,D,hm⟩|⟨r,D⟩
  . exact h.zz (hh:=cM*500+bn+1) (b:=true) f r y (.inl P) aa ag ad U af o (.run aj cM bn ai P) ae hm ah (Nat.succ_lt_succ E)
  . have o:=Cg f (show stepG aF (Z.N+2 == 0) g u=_ by rw[W];exact r) sl
    have E:=bp f;have F:∀i,i≠Z.N+2->(gs.setIfInBounds (Z.N+2) ({frame:=g.frame,callers:=g.callers,status:=.blocked,dying:=none}:Goroutine))[i]?=gs[i]?:=λi V=>PB (Ne.symm V)
    refine⟨G,_,u,#[],m,bl,_,q,ck,rw,false,o,⟨by simpa using h.base,by rw[Array.size_setIfInBounds];exact h.size,?_,λj Y=>?_,λal K=>?_,λi R S T J=>?_⟩,xF (by simp[jD])⟩
    . obtain⟨w,c,M,x,n,j,B,C⟩:=h.main
      exact⟨w,c,M,x,n,j,by rw[F 0 (by omega)];exact B,C⟩
    . obtain⟨w,B,C⟩:=h.de j Y
      exact⟨w,by rw[F _ (s7 Z j)];exact B,C⟩
    . rw[z] at K
      cases K;exact⟨({frame:=g.frame,callers:=g.callers,status:=.blocked,dying:=none}:Goroutine),by rw[PC E],.wait x n j ⟨d.on,d.le,d.fr,d.cs,rfl,d.mem,d.own⟩ rfl rfl D hm⟩
    . rw[F i (by omega)] at J
      simpa using h.old i R S T J
  . subst D
    have o:∀i,i≠Z.N+2->eh Z G G i u u:=λi _=>eh.at Z G i h.base.ww u.drawn
    exact h.zz (es:=#[]) (au:=G) (hh:=0) f r (by rw[Ai];exact h.base) (.inr rfl) z rfl rfl rfl rfl o (.gone rfl rfl) rfl (.inl rfl) (.inl rfl) (by omega)
theorem dP.NV(h:dP X Z G gs u t m bl cb q ck rw c0)(r:(G.s k).c≠.un)(w:gs[Z.wk k]?=some g)(P:g.status=.running)
 (W:∀(v:Nat×Nat) (x:bs) (n j a:Nat),fU (G.s k) ⟨.out (.snd v),(G.s k).a2⟩->cn (eZ (G.bC k)) Z G (Z.wk k) (.snd v) [] x g u n j->At (eZ (G.bC k)) a (.snd v) x->n=a+1->
  ((∀(n:Nat) own b o,(gZ (G.bC k))[n]?=some (own,b,o)->G.bO b≠Z.wk k)/\jh Z G (Z.wk k) u v)->j5 X Z gs u sl t (Z.wk k) (gV Z m bl cb q ck rw c0)):j5 X Z gs u sl t (Z.wk k) (gV Z m bl cb q ck rw c0):=by
 obtain⟨ak,J,f,S⟩:=h.de k r;rw[w] at J;obtain rfl:=Pm J;obtain⟨_,I⟩:=y6 S P;have U:=h.base.ap.pos;have aa:(Z.wk k == 0)=false:=by simpa using hV U k
 rcases O0 h.base r I f with ⟨au,a6,ay,l,g',e',z,Q,ae,D,V,ah,C,y,R,af,F,E,hm⟩|⟨z,d,E⟩|⟨z,d⟩|⟨v,x,n,j,a,d,H,K,M,T⟩
 . have B:au.s k=a6:=by rw[Q];exact Oq _ _ _
   have aj:e'.1≠0:=by
    cases R with
    | gone fp L ai=>rw[F] at L;cases L
    | @out p a2 x n j fp ok h D M ai=>
     show(if gC p then 3 else 1)≠0;split<;>decide
    | un a2 bl=>
     exfalso;have e:(au.s k).c=.un:=by rw[B]
     cases k with
     | false=>exact C.bT.nQ e
     | true=>exact r (h.base.bT.kN.1 (by rw[<-D];exact C.bT.kN.2 e))
    | _=>exact Nat.succ_ne_zero _
   exact h.zA k r w z C (.inl F) (λj ad=>by rw[Q];exact Oo _ _ ad) ae D V ah y (by rw[B];exact R) (λeR=>.run F aj) E hm af
 . have y:=Cg w (show stepG aF (Z.wk k == 0) g u=_ by rw[aa];exact z) sl
   have Y:g.dying=none:=by
    obtain⟨b,d⟩:=d;generalize B:G.s k=s at f d;generalize bl k=mk at f;cases f with
    | lock c h K H=>exact H.lL
    | un a2 bl=>cases d
    | _=>cases d
   exact h.Cf (g':=({frame:=g.frame,callers:=g.callers,status:=.blocked,dying:=none}:Goroutine)) k r w P f rfl rfl Y.symm (.sema rfl rfl d E I) y
 . have ag:=f.res d rfl
   have hgo:eM X Z G k ({frame:=g.frame,callers:=g.callers,status:=.finished,dying:=none}:Goroutine) u (G.s k) (0,(bl k).2.1,0):=by generalize B:G.s k=s at d;obtain⟨c,a2⟩:=s;cases d;exact .gone _ rfl ag
   have y:∀i,i≠Z.wk k->eh Z G G i u u:=λi _=>eh.at Z G i h.base.ww u.drawn
   refine h.zA (es:=#[]) (au:=G) (e':=(0,(bl k).2.1,0)) (b:=false) k r w z (by rw[Ai];exact h.base) (.inr rfl) (λ_ _=>rfl) rfl rfl rfl rfl y hgo (λeR=>.gone rfl d rfl) (.inl rfl) (.inl rfl) ?_;have e:bl k=((bl k).1,(bl k).2):=rfl;rw[e];exact dZ.head (Nat.pos_of_ne_zero I)
 . exact W v x n j a d H K M T
end
section
variable{X:dJ}{Z:Stat}[gh X Z]{G au:bI}{gs bf:Array Goroutine}{u ay w:World}{t a':Trace}{k:Bool}{g g':Goroutine}{m cP cb hh:Nat}{bl:Bool->fI X.Q}{q:Nat->Nat}{ck c0:Bool}{gD rw:Bool->Bool}{sl:Option (Nat×Nat)}{es:Array Event}{p hD:fG}
theorem dP.l7(h:dP X Z G gs u t m bl cb q ck rw c0){i:Nat}(r:gs[i]?=some g): i=0\/(0<i/\i<Z.N)\/(∃k,i=Z.wk k/\(G.s k).c≠.un)\/(i=Z.N+2/\∃p,G.k=.at p):=by
 have y:=bp r;have c:=h.size;by_cases f:i=0
 . exact .inl f
 by_cases j:i<Z.N
 . exact .inr (.inl ⟨by omega,j⟩)
 by_cases l:i=Z.N
 . exact .inr (.inr (.inl ⟨false,l,h.base.bT.nQ⟩))
 by_cases n:i=Z.N+1
 . refine .inr (.inr (.inl ⟨true,n,λe=>?_⟩))
   have:=h.base.bT.kN.2 e;rw[if_pos this] at c;omega
 have d:¬ G.l<27:=by intro e;split at c<;>omega
 have o:¬ G.l<26:=by omega
 rw[if_neg o,if_neg d] at c;refine .inr (.inr (.inr ⟨by omega,?_⟩));rcases w:G.k with _|p
 . exact absurd (h.base.bT.lr.2 w) d
 . exact⟨p,rfl⟩
theorem uN{g:Goroutine}(h:g.offers=none)(r:Nat)(s:Bool): offersAt g r s = []:=by
 unfold offersAt;rw[h];split
 . rename_i d c;cases c
 . rfl
theorem dP.BE(h:dP X Z G gs u t m bl cb q ck rw c0){i:Nat}(F:i≠0)(c:gs[i]?=some g)(r:Nat): offersAt g r false = []:=by
 rcases h.l7 c with e|⟨C,D⟩|⟨k,rfl,E⟩|⟨rfl,p,H⟩
 . exact absurd e F
 . have:=(h.old i g C D c).status
   exact offersAt_of_not_blocked (by rcases this with e|e<;>rw[e]<;>simp) r false
 . obtain⟨B,d,_,f⟩:=h.de k E
   rw[c] at d;obtain rfl:=Pm d;generalize rw k=b at f;generalize (bl k).1=a at f;cases f with
   | run w _=>exact offersAt_of_not_blocked (by rw[w];simp) r false
   | sema _ o _ _ _=>exact uN o r false
   | snd v x n j b c L Q K M I P J=>
    obtain⟨z,rfl⟩:=c;exact offersAt_parked_send' z Z.ch _ _ _ r
   | gone l _ _=>exact offersAt_of_not_blocked (by rw[l];simp) r false
 . obtain⟨B,d,y⟩:=h.dK p H
   rw[c] at d;obtain rfl:=Pm d;clear h;cases y with
   | run _ _ _ _ w=>exact offersAt_of_not_blocked (by rw[w];simp) r false
   | wait _ _ _ _ _ o _ _=>exact uN o r false
   | gone _ l=>exact offersAt_of_not_blocked (by rw[l];simp) r false
theorem dP.sends(h:dP X Z G gs u t m bl cb q ck rw c0){i a:Nat}(f:gs[i]?=some g)(c:a∈offersAt g Z.ch true)(F:i≠0):
 a=0/\∃k v x n j b,i=Z.wk k/\(G.s k).c≠.un/\(∃z,g=parked z #[scase Z.ch (iN k v) (.tuple #[])] .send)/\fU (G.s k) ⟨.out (.snd v),(G.s k).a2⟩/\cn (eZ (G.bC k)) Z G (Z.wk k) (.snd v) [] x g u n j/\At (eZ (G.bC k)) b (.snd v) x/\n=b+1/\
  ((∀(n:Nat) own b o,(gZ (G.bC k))[n]?=some (own,b,o)->G.bO b≠Z.wk k)/\jh Z G (Z.wk k) u v):=by
 rcases h.l7 f with e|⟨H,J⟩|⟨k,rfl,B⟩|⟨rfl,p,Q⟩
 . exact absurd e F
 . have:=(h.old i g H J f).status
   rw[offersAt_of_not_blocked (by rcases this with e|e<;>rw[e]<;>simp) Z.ch true] at c;cases c
 . obtain⟨E,d,_,l⟩:=h.de k B
   rw[f] at d;obtain rfl:=Pm d;generalize rw k=b at l;generalize (bl k).1=S at l;cases l with
   | run y _=>rw[offersAt_of_not_blocked (by rw[y];simp) Z.ch true] at c;cases c
   | sema _ w _ _ _=>rw[uN w Z.ch true] at c;cases c
   | snd v x n j b C L R K P I U T=>
    have M:=C;obtain⟨z,e⟩:=M;rw[e,offersAt_parked_send,if_pos rfl] at c;exact⟨by simpa using c,k,v,x,n,j,b,rfl,B,C,L,R,K,P,I⟩
   | gone r _ _=>rw[offersAt_of_not_blocked (by rw[r];simp) Z.ch true] at c;cases c
 . obtain⟨E,d,D⟩:=h.dK p Q
   rw[f] at d;obtain rfl:=Pm d;clear h;cases D with
   | run _ _ _ _ y=>rw[offersAt_of_not_blocked (by rw[y];simp) Z.ch true] at c;cases c
   | wait _ _ _ _ _ w _ _=>rw[uN w Z.ch true] at c;cases c
   | gone _ r=>rw[offersAt_of_not_blocked (by rw[r];simp) Z.ch true] at c;cases c
def bI.eU(G:bI)(k:Bool)(a2:Bool)(v:Nat×Nat): bI:={G with s:=pS G.s k ⟨.out .d0,a2⟩,l:=G.l+1,cl:=gJ G.cl k v}
theorem tF(c:Base Z G u t)(h:G.k.shut=false): u.heap[Z.ch]?=some (.chan 0 #[] false (da G.l) (da G.l) false):=by have:=c.ww.ch;rw[h] at this;exact this
theorem Base.meet(c:Base Z G u t)(g:(G.s k).c≠.un){v:Nat×Nat}(l:fU (G.s k) ⟨.out (.snd v),(G.s k).a2⟩)(ah:G.l=28\/G.l=34)(d:Nat){cap:Nat}{x y p q:MemOp}(V:x.g=Z.wk k/\x.act=.send Z.ch (da G.l))(W:y.act=.recv Z.ch (da G.l) cap)(T:p.act=.sendDone Z.ch (da G.l))(U:q.g=0/\q.act=.recvDone Z.ch (da G.l)):
 Base Z (G.eU k (G.s k).a2 v) ((u.at d).setChan Z.ch 0 #[] false (da G.l+1) (da G.l+1) false) (t++#[x,y,p,q])/\∀i,eh Z G (G.eU k (G.s k).a2 v) i u ((u.at d).setChan Z.ch 0 #[] false (da G.l+1) (da G.l+1) false):=by
 have C:(G.s k).cy=.no:=by rw[<-l.cy];rfl
 have F:(G.s k).cI=false:=by rw[<-l.cI];rfl
 have E:=uO c C;have M:=tF c E;have D:=bp M;have e:∀j,(G.eU k (G.s k).a2 v).s j=if j=k then⟨.out .d0,(G.s k).a2⟩ else G.s j:=λ_=>rfl
 have B:da (G.l+1)=da G.l+1:=by rcases ah with ah|ah<;>rw[ah]<;>rfl
 generalize r:(u.at d).setChan Z.ch 0 #[] false (da G.l+1) (da G.l+1) false=ay;have n:∀b,b≠Z.ch->ay.heap[b]?=u.heap[b]?:=λb g=>by rw[<-r];exact PB (Ne.symm g)
 have w:ay.heap.size=u.heap.size:=by rw[<-r];simp[World.setChan];rfl
 have P:Calm u ay:=by rw[<-r];exact⟨by simp[World.setChan];exact Pk,rfl,rfl,Go.ConcM.OsLater.refl _⟩
 have I:dv Z (G.eU k (G.s k).a2 v) ay:=by refine⟨(n _ c.ap.pO).trans c.ww.T,(n _ c.ap.wc).trans c.ww.W,?_,λb g L=>(n b (by have:=c.ni.2;omega)).trans (c.ww.old b g L),c.ww.calm.trans P⟩;show ay.heap[Z.ch]?=some (.chan 0 #[] G.k.shut (da (G.l+1)) (da (G.l+1)) false);rw[E,B,<-r];exact PC D
 have a:=c.bT;have o:∀j,((G.eU k (G.s k).a2 v).s j).role=(G.s j).role:=λj=>by
  rw[e];split
  . rename_i f;subst f;rw[<-l.role];rfl
  . rfl
 have m:∀j,((G.eU k (G.s k).a2 v).s j).cy=(G.s j).cy:=λj=>by
  rw[e];split
  . rename_i f;subst f;rw[C];rfl
  . rfl
 have z:∀j,((G.eU k (G.s k).a2 v).s j).c=.un↔(G.s j).c=.un:=λj=>by
  rw[e];split
  . rename_i f;subst f;exact⟨λh=>(by cases h),λh=>absurd h g⟩
  . exact Iff.rfl
 have H:∀j,((G.eU k (G.s k).a2 v).s j).dO=true->(G.s j).dO=true:=λj=>by
  rw[e];split
  . intro h;cases h
  . exact id
 have J:fT (G.eU k (G.s k).a2 v):=by
  refine⟨by rw[o,o];exact a.once,?_,by rw[m,m];exact a.bound,?_,?_,?_,λh=>a.nQ ((z false).1 h),?_,λj f=>a.dO j (H j f)⟩
  . rw[m,m]
    have:=a.wg;show dM (decide (24<=G.l+1)) _ _ _=_;rw[show decide (24<=G.l+1)=decide (24<=G.l) by rcases ah with ah|ah<;>rw[ah]<;>rfl];exact this
  . show da (G.l+1)=_
    rw[B,a.cnt,e,e];have s1:(⟨.out .d0,(G.s k).a2⟩ : bZ).cI=true:=rfl;cases k
    . rw[F,if_pos rfl,s1,if_neg (show ¬ (true=false) by simp)]
      simp;exact Nat.add_comm _ _
    . rw[F,if_pos rfl,s1,if_neg (show ¬ (false=true) by simp)]
      simp
  . rw[z]
    show G.l+1<26↔_;rw[<-a.kN];omega
  . show G.l+1<27↔G.k=.un
    rw[<-a.lr];omega
  . show 17<=G.l+1
    have:=a.b4;omega
 have ei:ef Z (G.eU k (G.s k).a2 v)=ef Z G:=by unfold ef;rw[o,o];rfl
 have R:iJ G.l=0:=by rcases ah with ah|ah<;>rw[ah]<;>rfl
 have S:iJ (G.l+1)=0:=by rcases ah with ah|ah<;>rw[ah]<;>rfl
 have Q:(G.s k).deaf=0:=by rw[<-l.deaf];rfl
 have X:=c.c6.comm (au:=G.eU k (G.s k).a2 v) k D Q R rfl rfl (λj f=>by rw[e,if_neg f]) rfl (by rw[e,if_pos rfl];rfl) (H k) (z k) S ei V W T U;exact⟨c.rest rfl rfl rfl w I J (by rw[w];exact X),λi=>eh.same rfl rfl w (λb _ _ K=>n b K) I⟩
end
section
variable{X:dJ}{Z:Stat}[gh X Z]{G au:bI}{gs bf:Array Goroutine}{u ay w:World}{t a':Trace}{k:Bool}{g g':Goroutine}{m cP cb hh:Nat}{bl:Bool->fI X.Q}{q:Nat->Nat}{ck c0:Bool}{gD rw:Bool->Bool}{sl:Option (Nat×Nat)}{es:Array Event}{p hD:fG}
abbrev gW(Z:Stat): Array CommCase:=#[rcase Z.ch z0]
theorem Bo{c:e0}{M:Mem}{x:bs}{a:Nat}(ah:G.l=28\/G.l=34\/G.l=40)(h:c.ch=Z.ch)(g:At (gB Z) a ⟨G.l,c,M⟩ x):
 (∀r,eA (gB Z) a (toGot G.l c M r) 400 (x.1.finish (m6 r),x.2))/\∀main C st off (w:World),stepG aF main {frame:=x.1,callers:=C,status:=st,dying:=none,offers:=off} w=.comm {frame:=x.1,callers:=C,status:=.running,dying:=none} (gW Z) true (.recv true) w:=by
 have he:Edge.comm #[{chan:=.chan (some c.ch),send:=none,zero:=.agg #[.int .i64 0,cN]}] true (.recv true) m6 (toGot G.l c M)∈(gB Z).cq ⟨G.l,c,M⟩:=by rcases ah with ah|ah|ah<;>rw[ah]<;>exact Pl
 obtain⟨d,f⟩:=g.comm (nC Z) he;refine⟨λr=>(d r).1,λmain C st off w=>?_⟩;have:=f main C st off w;rw[h] at this;exact this
theorem D7{bC:kT}{v:Nat×Nat}{x:bs}{a:Nat}(g:bC.ch=Z.ch)(h:bC.i=if k then 1 else 0)(f:At (eZ bC) a (.snd v) x):
 eA (eZ bC) a .d0 400 (x.1.finish undef,x.2)/\∀main C st off (w:World),stepG aF main {frame:=x.1,callers:=C,status:=st,dying:=none,offers:=off} w=.comm {frame:=x.1,callers:=C,status:=.running,dying:=none} #[scase Z.ch (iN k v) (.tuple #[])] true .send w:=by
 obtain⟨c,d⟩:=f.comm (nE _) (cases:=#[{chan:=.chan (some bC.ch),send:=some (.agg #[.int .i64 bC.i,four v]),zero:=.tuple #[]}]) (b:=true) (bB:=.send) (cl:=λ_:Unit=>undef) (to:=λ_=>.d0) Pl;refine⟨(c ()).1,λmain C st off w=>?_⟩;have:=d main C st off w;rw[g,h] at this;exact this
theorem dP.meet(h:dP X Z G gs u t m bl cb q ck rw c0)(aE:(G.s k).c≠.un){v:Nat×Nat}(af:fU (G.s k) ⟨.out (.snd v),(G.s k).a2⟩)(ah:G.l=28\/G.l=34){E:bs}{ax qz:Goroutine}{nw aS H:Nat}(B:cn (eZ (G.bC k)) Z G (Z.wk k) (.snd v) [] E ax u nw aS)(aD:At (eZ (G.bC k)) H (.snd v) E)(ae:(∀(n:Nat) own b o,(gZ (G.bC k))[n]?=some (own,b,o)->G.bO b≠Z.wk k)/\jh Z G (Z.wk k) u v){c:e0}{M:Mem}{C:bs}{aw qx:Goroutine}{aa ap am:Nat}(hm:hZ Z G aw u c M C aa ap)(aC:At (gB Z) am ⟨G.l,c,M⟩ C)(a3:aa=am+1)(a2:m=aa*500+ap)(L:qz={frame:=E.1.finish undef,callers:=E.2,status:=.running,dying:=none})(K:qx={frame:=C.1.finish (m6 (some (k,v))),callers:=C.2++Z.base,status:=.running,dying:=none})(aO:bf.size=gs.size)(az:bf[0]?=some qx)(aQ:bf[Z.wk k]?=some qz)(Y:∀i,i≠0->i≠Z.wk k->bf[i]?=gs[i]?)(d:Nat){cap:Nat}{x y p q':MemOp}(al:x.g=Z.wk k/\x.act=.send Z.ch (da G.l))(ao:y.act=.recv Z.ch (da G.l) cap)(l:p.act=.sendDone Z.ch (da G.l))(ak:q'.g=0/\q'.act=.recvDone Z.ch (da G.l)):
 ∃cP e' gD I,dP X Z (G.eU k (G.s k).a2 v) bf ((u.at d).setChan Z.ch 0 #[] false (da G.l+1) (da G.l+1) false) (t++#[x,y,p,q']) cP e' cb q true gD I/\cP<m:=by
 have aB:=h.base.ap.pos;obtain⟨V,f⟩:=h.base.meet aE af ah d al ao l ak;generalize a4:(u.at d).setChan Z.ch 0 #[] false (da G.l+1) (da G.l+1) false=ay at V f;have e:∀j,(G.eU k (G.s k).a2 v).s j=if j=k then⟨.out .d0,(G.s k).a2⟩ else G.s j:=λ_=>rfl
 have J:∀j,(G.eU k (G.s k).a2 v).cl j=if j=k then v else G.cl j:=λ_=>rfl
 obtain⟨aY,aZ,c3,a0,aq⟩:=h.base.cfg k;have aI:G.l=28\/G.l=34\/G.l=40:=ah.imp id .inl;obtain⟨aK,_⟩:=Bo aI hm.ok.cfg.2.2.1 aC;obtain⟨aR,_⟩:=D7 (k:=k) c3 aq aD;have F:=jA.id Z ay;have aJ:¬ G.l=40:=by omega
 have aP:toGot G.l c M (some (k,v))=⟨G.l+1,{c with k:=k,r:=v},M⟩:=by show(if G.l=40 then _ else _)=_;rw[if_neg aJ]
 have aN:(G.s k).cI=false:=by rw[<-af.cI];rfl
 have aF:∀j,Deaf (t++#[x,y,p,q']) j=Deaf t j:=λj=>m0 (Bu h.base.eJ.2.2 al.2 ao l ak.2) j
 have a1:(Z.wk (!k))≠Z.wk k:=D2 k;have aA:hZ Z (G.eU k (G.s k).a2 v) qx ay {c with k:=k,r:=v} M (C.1.finish (m6 (some (k,v))),C.2) am 400:=by
  have aj:=aK (some (k,v));rw[aP] at aj;refine⟨⟨aj,Pk,by rw[K],by rw[K],by rw[K],hm.at_.mem.rely hm.at_.own (f 0) hm.at_.mem.floor,hm.at_.own.rely hm.at_.mem (f 0)⟩,?_⟩;obtain⟨aT,a5,aU,a6,a7⟩:=hm.ok;refine⟨aT,λhle=>?_,?_,λ_=>⟨by rw[e,if_pos rfl];rfl,by rw[J,if_pos rfl]⟩,?_⟩
  . have:(G.eU k (G.s k).a2 v).l=G.l+1:=rfl
    omega
  . rw[aU]
    have aV:jS G.l=false:=by rcases ah with ah|ah<;>rw[ah]<;>rfl
    have aW:jS (G.eU k (G.s k).a2 v).l=true:=by show jS (G.l+1)=true;rcases ah with ah|ah<;>rw[ah]<;>rfl
    have ar:hk (G.eU k (G.s k).a2 v) {c with k:=k,r:=v}=hk G c:=by
     funext j;unfold hk;rw[aV,aW,e,J];by_cases w:j=k
     . subst w;rw[aN];simp
     . rw[if_neg w,if_neg w]
       have:(k == j)=false:=by simp[Ne.symm w]
       simp[this]
    rw[ar]
  . show G.l+1<=40
    omega
 have hW:eM X Z (G.eU k (G.s k).a2 v) k qz ay ((G.eU k (G.s k).a2 v).s k) (if gC .d0 then 3 else 1,(bl k).2.1,H*500+400):=by
  rw[e,if_pos rfl];refine .out (x:=(E.1.finish undef,E.2)) (bl k).2.1 rfl ⟨aR,Pk,by rw[L],by rw[L];simp,by rw[L],B.mem.rely B.own (f _) B.mem.floor,B.own.rely B.mem (f _)⟩ (λh=>by cases h) (λn own b o he=>?_) (λr Q=>?_)
  . rw[(f (Z.wk k)).bO b (fB (M:=gZ (G.bC k)) B.mem he)]
    exact ae.1 n own b o he
  . have:r=v:=by have Q:some ((G.eU k (G.s k).a2 v).cl k)=some r:=Q;rw[J,if_pos rfl] at Q;exact(Pm Q).symm
    subst this;exact ae.2.rely (f _)
 obtain⟨aX,aM⟩:=qW (P:=λj b=>∃g,bf[Z.wk j]?=some g/\eM X Z (G.eU k (G.s k).a2 v) j g ay ((G.eU k (G.s k).a2 v).s j) (gJ bl k (if gC .d0 then 3 else 1,(bl k).2.1,H*500+400) j)/\ht Z (G.eU k (G.s k).a2 v) j g ay true (gJ bl k (if gC .d0 then 3 else 1,(bl k).2.1,H*500+400) j).1 b) (D:=λj=>((G.eU k (G.s k).a2 v).s j).c≠.un) λj w=>by
  by_cases z:j=k
  . subst z
    refine⟨true,qz,aQ,?_,?_⟩
    . unfold gJ;rw[if_pos rfl];exact hW
    . unfold gJ;rw[if_pos rfl];exact .run (by rw[L]) (Nat.succ_ne_zero 0)
  . rw[e,if_neg z] at w
    obtain⟨g,S,T,U⟩:=h.de j w;have es:(G.eU k (G.s k).a2 v).s j=G.s j:=by rw[e,if_neg z]
    have ad:(G.eU k (G.s k).a2 v).cl j=G.cl j:=by rw[J,if_neg z]
    obtain⟨R,s1,s2,a8,a9⟩:=U.jY F V es rfl ad (f _) (.inl rfl) (λ_=>rfl);refine⟨R,g,by rw[Y _ (hV aB j) (D3 z)];exact S,?_,?_⟩
    . rw[es];unfold gJ;rw[if_neg z];exact T.rely rfl ad (f _) rfl rfl rfl id
    . unfold gJ;rw[if_neg z];exact s1
 obtain⟨I,aL⟩ : ∃I,∀p,(G.eU k (G.s k).a2 v).k=.at p->∃g,bf[Z.N+2]?=some g/\j0 Z (G.eU k (G.s k).a2 v) p g ay cb I:=by
  have ai:(G.eU k (G.s k).a2 v).k=G.k:=rfl;rcases W:G.k with _|p
  . exact⟨false,λp l=>by rw[ai,W] at l;cases l⟩
  . obtain⟨au,S,T⟩:=h.dK p W
    obtain⟨R,U⟩:=T.jY F (f _) (.inl rfl);exact⟨R,λhD l=>by rw[ai,W] at l;cases l;exact⟨au,by rw[Y _ (by omega) (Ne.symm (s7 Z k))];exact S,U⟩⟩
 refine⟨am*500+400,gJ bl k (if gC .d0 then 3 else 1,(bl k).2.1,H*500+400),aX,I,⟨V,?_,⟨qx,_,M,_,am,400,az,aA,rfl,.run (by rw[K])⟩,aM,aL,λi av aG aH ag=>?_⟩,by omega⟩
 . rw[aO,h.size]
   show _=Z.N+(if G.l+1<26 then 1 else if G.l+1<27 then 2 else 3)
   rw[if_neg (by omega),if_neg (by omega),if_neg (by omega),if_neg (by omega)]
 . rw[Y i (by omega) (by cases k<;>simp[Stat.wk]<;>omega)] at ag
   rw[aF];exact h.old i av aG aH ag
end
end Go.aN
