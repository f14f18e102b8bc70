/- Part 10 of a law on fees: no conditions. -/
import Derived.Test.YthiiblonjmmnfaaGreatDoorP4
import Derived.Conc.Beside
import Derived.Conc.MuSpec
import Derived.Conc.CrowdTrace
set_option maxHeartbeats 8000000
set_option maxRecDepth 100000
set_option linter.all false
namespace Go.aN
attribute [-simp] Go.Sem.runT_eq
open Go.Conc Go.ConcN
section
variable{P:Program}{G:Machine->Outcome->World->Trace->Prop}
inductive Ends(P:Program)(G:Machine->Outcome->World->Trace->Prop):Machine->Trace->Prop
 |ended {m:Machine} {t:Trace} {o:Outcome} {w:World} {ops:Array MemOp} (h:stepT P m=(.ended o w,ops)) (g:G m o w (t++ops)):Ends P G m t
 |next {m cP:Machine} {t:Trace} {ops:Array MemOp} (h:stepT P m=(.next cP,ops)) (k:Ends P G cP (t++ops)):Ends P G m t
def Ends.run{m:Machine}{t:Trace}(h:Ends P G m t):∃n last o w a',runNT P (n+1) m t=(.ended o w,a')/\runN P n m=.next last/\step P last=.ended o w/\G last o w a':=by
 induction h with
 |@ended m t o w ops c j=>exact⟨0,m,o,w,t++ops,by simp[runNT,c],rfl,by simp[step,c],j⟩
 |@next m cP t ops c _ l=>
  obtain⟨n,last,o,w,a',d,f,g,i⟩:=l;exact⟨n+1,last,o,w,a',by rw[runNT_succ_next c];exact d,by rw[runN_succ_next c];exact f,g,i⟩
structure ji(aE:Nat->Prop)(B:Nat)(t:Trace):Prop where
 clean:∀said,¬Race said t
 known:∀i a,touchAt t i=some a->a.loc.isMemory=true->Knows t 0 i\/((∃bk,a.loc=.cell bk/\aE bk.block)/\a.kind=.atomic)
 over:t.HandedOver
 seen:∀op∈t,op.act.low B
section
variable{aE:Nat->Prop}{B ej:Nat}{t u:Trace}
def ji.mono(h:ji aE B t)(c:B<=ej):ji aE ej t:=⟨h.clean,h.known,h.over,λop d=>MemAct.low_mono c (h.seen op d)⟩
def ji.app0(h:ji aE B t)(hu:∀op∈u,op.g=0)(z:∀op∈u,∀b,op.act.touch?=some b->∀c,b.loc=.cell c->aE c.block->b.kind≠.plain)(w:∀op∈u,op.act.low B):ji aE B (t++u):=by
 refine⟨λsaid=>noRace_append (h.clean said) hu λi a d op g b o f=>?_,λi a d hm=>?_,handedOver_app h.over λop g=>.inl (hu op g),seen_app h.seen w⟩
 .rcases h.known i a d f.2.1 with p|⟨⟨c,e,C⟩,q⟩
  .exact p
  .have r:=z op g b o c (f.1 ▸ e) C
   obtain⟨_,_,_,j⟩:=f;rw[q]at j;rcases j with x|x|⟨_,x,_⟩
   .cases x
   .exact absurd x r
   .cases x
 .obtain⟨x,l,E⟩:=touch_of d
  rcases getElem?_append_cases l with⟨_,D⟩|⟨_,F⟩
  .exact(h.known i a (by rw[touchAt_of D];exact E) hm).imp (·.app u) id
  .have:=knows_own l
   rw[hu x F]at this;exact .inl this
def ji.appMute{g:Nat}(h:ji aE B t)(w:g≠0)(hu:∀op∈u,op.g=g)(c:∀op∈u,op.act.touch?=none)(o:∀op∈u,op.act.low B):ji aE B (t++u):=by
 refine⟨λsaid=>noRace_append (h.clean said) hu λi a _ op d b j _=>(by rw[c op d]at j;cases j),λi a l hm=>?_,handedOver_app h.over λop d=>.inr (c op d),seen_app h.seen o⟩;obtain⟨x,p,f⟩:=touch_of l;rcases getElem?_append_cases p with⟨_,q⟩|⟨_,r⟩
 .exact(h.known i a (by rw[touchAt_of q];exact f) hm).imp (·.app u) id
 .rw[c x r]at f;cases f
end
def mO(aE:Nat->Prop)(B:Nat)(e:Event):Prop:=(∀x,(MemAct.ofEvent e).touch?=some x->∀c,x.loc=.cell c->aE c.block->x.kind≠.plain)/\(MemAct.ofEvent e).low B
structure b5(P:Program)(aE:Nat->Prop)(gs:Array Goroutine)(a:Goroutine)(w:World)(t:Trace)(d:Nat):Prop where
 main:gs[0]?=some a
 run:a.status=.running
 others:∃q,Leavers P t gs q
 qU:ji aE w.heap.size t
 deaf:Deaf t 0=d
def b5.jY{aE:Nat->Prop}{gs:Array Goroutine}{a:Goroutine}{w:World}{t:Trace}{d:Nat}(l:b5 P aE gs a w t d)(h:∀bf a' sl E r k,bf[0]?=some a->(∃q,Leavers P a' bf q)->ji aE w.heap.size a'->Deaf a' 0=d->stepT P (crowd bf (w.at r) sl)=runT P (crowd bf (w.at k) E) 0->Ends P G (crowd bf (w.at r) sl) a')(sl:Option (Nat×Nat)):Ends P G (crowd gs w sl) t:=by
 obtain⟨q,f⟩:=l.others;have key:∀(n:Nat) (gs:Array Goroutine) (aG:World) (t:Trace) (sl:Option (Nat×Nat)) (q:Nat->Nat),sumTo gs.size q<=n->(∃k,aG=w.at k)->gs[0]?=some a->Leavers P t gs q->ji aE w.heap.size t->Deaf t 0=d->Ends P G (crowd gs aG sl) t:=by
  intro n;induction n using Nat.strongRecOn with
  |_ n Z=>
  intro gs aG t sl q aa W u f I hd;have L:∀g∈gs,awake g:=by
   intro g o;obtain⟨i,p,rfl⟩:=Array.mem_iff_getElem.1 o;rcases Nat.eq_zero_or_pos i with rfl|hpos
   .have:gs[0]=a:=by simpa [Pu p]using u
    rw[this];exact awake_of (.inl l.run)
   .exact awake_of ((f.old i _ hpos (Pu p)).status.elim .inl λx=>.inr (.inr x))
  obtain⟨i,g,k,E,p,o,H⟩:=crowd_pick (P:=P) (w:=aG) (sl:=sl) L ⟨0,a,u,l.run⟩;obtain⟨r,rfl⟩:=W;have X:(w.at r).at k=w.at k:=rfl;rw[X]at H;rcases Nat.eq_zero_or_pos i with rfl|hpos
  .exact h gs t sl E r k u ⟨q,f⟩ I hd H
  ·
   have C:=f.old i g hpos p;have Q:(i == 0)=false:=by simp;omega
   have J:i<gs.size:=(Array.getElem?_eq_some_iff.1 p).1;cases F:q i with
   |zero=>rw[F]at C;rw[C.1]at o;cases o
   |succ m=>
    rw[F]at C;rcases C with⟨M,_⟩|⟨_,g',es,hm,U,S⟩
    .rw[M]at o;cases o
    have T:=runT_crowd_go (P:=P) (sl:=E) (i:=i) p (by rw[Q];exact U (w.at k));have V:((gs.map (woken P g g' (w.at k))).setIfInBounds i g').size=gs.size:=by simp
    have ad:sumTo gs.size (upd q i m)+(m+1)=sumTo gs.size q+m:=by have:=sumTo_upd q m id J;simpa [F]using this
    refine Ends.next (H.trans T) (Z (sumTo gs.size (upd q i m)) (by omega) _ _ _ _ (upd q i m) (by rw[V];exact Pk) ⟨k,rfl⟩ ?_ ⟨λj x z D=>?_,λj z=>?_⟩ ?_ ?_)
    .have R:i≠0:=by omega
     rw[PB R,Array.getElem?_map,u];simp[woken_run l.run]
    .by_cases B:i=j
     .subst B
      rw[PC (by simpa using J)]at D;obtain rfl:=Pm D;rw[upd_same,Deaf_own];exact S
     .rw[PB B,Array.getElem?_map]at D
      obtain⟨y,Y,rfl⟩:=Option.map_eq_some_iff.1 D;have K:=f.old j y z Y;rw[woken_quitsD K,upd_ne q m (Ne.symm B),Deaf_other t B _ (λop c=>by obtain⟨e,_,rfl⟩:=Go.Conc.mem_ofEvents c;rfl)];exact K
    .rw[Deaf_other t (g':=i) (by simp at z;omega) _ (λop c=>by obtain⟨e,_,rfl⟩:=Go.Conc.mem_ofEvents c;rfl)]
     exact f.above j (by simpa using z)
    .exact I.appMute (g:=i) (by omega) (λop c=>by obtain⟨e,_,rfl⟩:=Go.Conc.mem_ofEvents c;rfl) (λop c=>by obtain⟨e,he,rfl⟩:=Go.Conc.mem_ofEvents c;exact touch_mute (hm e he)) λop c=>by obtain⟨e,he,rfl⟩:=Go.Conc.mem_ofEvents c;exact low_mute (hm e he) _
    .rw[Deaf_other t (g':=i) (by omega) _ (λop c=>by obtain⟨e,_,rfl⟩:=Go.Conc.mem_ofEvents c;rfl)]
     exact hd
 exact key _ gs w t sl q Pk ⟨w.drawn,rfl⟩ l.main f l.qU l.deaf
def b5.step{aE:Nat->Prop}{gs:Array Goroutine}{a:Goroutine}{w:World}{t:Trace}{d:Nat}(K:b5 P aE gs a w t d)
 (h:∀k,∃f w' es,stepG P true a (w.at k)=.go f w' es/\f.status=.running/\w.heap.size<=w'.heap.size/\(∀e∈es,mO aE w'.heap.size e)/\
  ∀bf a' l,b5 P aE bf f w' a' (deafBehind d es)->Ends P G (crowd bf w' l) a') (sl:Option (Nat×Nat)):Ends P G (crowd gs w sl) t:=by
 refine K.jY (λgs t sl l R k o B C hd L=>?_) sl;obtain⟨q,p⟩:=B;obtain⟨f,w',es,hgo,I,M,r,E⟩:=h k;have J:=runT_crowd_go (P:=P) (sl:=l) (i:=0) o (show stepG P (0 == 0) a (w.at k)=_ from hgo);have F:0<gs.size:=(Array.getElem?_eq_some_iff.1 o).1;refine Ends.next (L.trans J) (E _ _ _ ⟨by simp[F],I,⟨q,⟨λj x g z=>?_,λj g=>?_⟩⟩,?_,?_⟩)
 .have H:0≠j:=by omega
  rw[PB H,Array.getElem?_map]at z;obtain⟨y,Q,rfl⟩:=Option.map_eq_some_iff.1 z;have u:=p.old j y g Q;rw[woken_quitsD u,Deaf_other t (by omega) _ (λop c=>by obtain⟨e,_,rfl⟩:=Go.Conc.mem_ofEvents c;rfl)];exact u
 .rw[Deaf_other t (g':=0) (by simp at g;omega) _ (λop c=>by obtain⟨e,_,rfl⟩:=Go.Conc.mem_ofEvents c;rfl)]
  exact p.above j (by simpa using g)
 .refine(C.mono M).app0 (λop c=>by obtain⟨e,_,rfl⟩:=Go.Conc.mem_ofEvents c;rfl) (λop c b D=>by obtain⟨e,he,rfl⟩:=Go.Conc.mem_ofEvents c;exact(r e he).1 b D) λop c=>by obtain⟨e,he,rfl⟩:=Go.Conc.mem_ofEvents c;exact(r e he).2
 .rw[Deaf_own,hd]
def b5.ended{aE:Nat->Prop}{gs:Array Goroutine}{a:Goroutine}{w:World}{t:Trace}{d:Nat}{o:Value->World->Prop}(I:b5 P aE gs a w t d)(h:∀k,∃v w' es,stepG P true a (w.at k)=.ended (.done v) w' es/\w.heap.size<=w'.heap.size/\(∀e∈es,mO aE w'.heap.size e)/\o v w')(sl:Option (Nat×Nat)):Ends P (Good P o) (crowd gs w sl) t:=by
 refine I.jY (λgs t sl L M k z B C hd J=>?_) sl;obtain⟨q,p⟩:=B;obtain⟨v,w',es,E,K,u,F⟩:=h k;have H:=runT_many_ended (P:=P) (sl:=L) (i:=0) z (show stepG P (0 == 0) a (w.at k)=_ from E);have r:ji aE w'.heap.size (t++MemOp.ofEvents 0 a.frame.fn a.frame.place es):=(C.mono K).app0 (λop c=>by obtain⟨e,_,rfl⟩:=Go.Conc.mem_ofEvents c;rfl) (λop c b D=>by obtain⟨e,he,rfl⟩:=Go.Conc.mem_ofEvents c;exact(u e he).1 b D) λop c=>by obtain⟨e,he,rfl⟩:=Go.Conc.mem_ofEvents c;exact(u e he).2
 refine Ends.ended (J.trans H) ⟨v,rfl,F,r.clean,r.over,⟨λx l=>?_,rfl⟩,λj x l f=>?_⟩
 .obtain⟨j,f⟩:=List.mem_iff_getElem?.1 l
  rw[List.getElem?_drop]at f;exact⟨_,(p.old (1+j) x (by omega) (by simpa [crowd]using f)).leaves⟩
 .have G:=p.old j x (by omega) l
  refine⟨q j,?_⟩;have e:(t++MemOp.ofEvents 0 a.frame.fn a.frame.place es).deaf j (t++MemOp.ofEvents 0 a.frame.fn a.frame.place es).size=Deaf t j:=
   Deaf_other t (g:=j) (g':=0) (by omega) _ (λop c=>by obtain⟨e,_,rfl⟩:=Go.Conc.mem_ofEvents c;rfl)
  rw[e];exact G.hears _
end
end Go.aN
namespace Go.aN
attribute [-simp] Go.Sem.runT_eq
open Go.Conc Go.ConcN
open Go.ConcM (OsLater)
section
structure ff(ρ ai:Ren)(v dc w aG:World):Prop where
 le:ρ.le ai
 new:∀b aA,ai.r b aA->ρ.r b aA\/w.heap.size<=aA
 size:w.heap.size<=aG.heap.size
 out:∀aA,aA<w.heap.size->(∀b,¬ρ.r b aA)->aG.heap[aA]?=w.heap[aA]?
 guard:∀b aA,ρ.r b aA->hY v b->dc.heap[b]?=v.heap[b]?/\aG.heap[aA]?=w.heap[aA]?
 tape:aG.tape=w.tape
 output:aG.output=w.output
 os:OsLater w.os aG.os
def ff.refl(ρ:Ren)(v w:World):ff ρ ρ v v w w:=⟨Ren.le_refl ρ,λ_ _ h=>.inl h,Pk,λ_ _ _=>rfl,λ_ _ _ _=>⟨rfl,rfl⟩,rfl,rfl,OsLater.refl _⟩
def ff.trans{ρ ai aL:Ren}{v dc j w aG l:World}(h:ff ρ ai v dc w aG)(k:ff ai aL dc j aG l):ff ρ aL v j w l where
 le:=Ren.le_trans h.le k.le
 new b c x:=by
  rcases k.new b c x with y|y
  .exact h.new b c y
  .exact .inr (Po h.size y)
 size:=Po h.size k.size
 out c d i:=by
  rw[k.out c (Px d h.size) λb x=>?_,h.out c d i];rcases h.new b c x with y|y
  .exact i b y
  .omega
 guard b c d g:=by obtain⟨f,o⟩:=h.guard b c d g;obtain⟨q,p⟩:=k.guard b c (h.le.sub _ _ d) (g.of_eq f);exact⟨q.trans f,p.trans o⟩
 tape:=k.tape.trans h.tape
 output:=k.output.trans h.output
 os:=h.os.trans k.os
def ff.Jz{ρ ai:Ren}{v dc w aG:World}(h:Eff ρ ai v dc w aG):ff ρ ai v dc w aG:=
 ⟨h.le,λb c x=>(h.new b c x).imp id And.right,h.size,h.out,h.guard,h.tape,h.output,by rw[h.os];exact OsLater.refl _⟩
def ff.zp{ρ ai:Ren}{v dc w aG:World}{aL:Tape}{k:Nat}(h:Eff ρ ai (c9 v aL) dc (w.at k) aG):ff ρ ai v dc w aG:=by have f:=ff.Jz h;exact⟨f.le,f.new,f.size,f.out,f.guard,f.tape,f.output,f.os⟩
def lF(aE:Nat->Prop)(ρ:Ren):Prop:=∀b c,ρ.r b c->¬aE c
variable{Q P:Program}{R:Value->World->Prop}{f0:FuncId}{K:fV Q P}{G:Machine->Outcome->World->Trace->Prop}
def An{aE:Nat->Prop}{ai:Ren}{v aG:World}{B:Nat}(p:lF aE ai)(g:∀b c,ai.r b c->c<B){e:Event}(h:fe ai v e):mO aE B e:=by
 cases h with
 |@cell b j h wr i o r=>
  refine⟨λx d l he q=>?_,g _ _ h⟩;have:x=⟨.cell j,wr,if i then .atomic else .plain⟩:=by cases wr<;>cases i<;>(cases d;rfl)
  subst this;cases he;exact absurd q (p _ _ h)
 |@obj b c h wr o=>
  refine⟨λx d l he=>?_,?_⟩
  .have:x.loc=.obj c:=by cases wr<;>(cases d;rfl)
   rw[this]at he;cases he
  .have:(MemAct.ofEvent ⟨.obj c,wr,false⟩)=.access ⟨.obj c,wr,false⟩:=by cases wr<;>rfl
   rw[this];exact g _ _ h
 |@mark m h=>
  refine⟨λx d=>?_,?_⟩
  .rcases h with rfl|⟨f,rfl⟩<;>cases d
  .rcases h with rfl|⟨f,rfl⟩<;>trivial
def z1{ai:Ren}{v:World}{es:Array Event}(h:∀e∈es,fe ai v e)(d:Nat):deafBehind d es=d:=by
 refine deafBehind_still (λe he=>?_) d;cases h e he with
 |cell=>exact⟨by simp,by simp⟩
 |obj=>exact⟨by simp,by simp⟩
 |mark h=>rcases h with rfl|⟨f,rfl⟩<;>exact⟨by simp,by simp⟩
structure lB(K:fV Q P)(f0:FuncId)(R:Value->World->Prop)(aE:Nat->Prop)(ρ:Ren)(V:cY)(bg:Frame)(cs' base:List Frame)(gs:Array Goroutine)(w:World)(t:Trace):Prop where
 going:en Q f0 R V
 self:Self Q V
 rel:lF aE ρ
 low:∀b,aE b->b<w.heap.size
 st:b5 P aE gs ⟨bg,cs'++base,.running,none,none⟩ w t 0
end
section
variable{Q P:Program}{R:Value->World->Prop}{f0:FuncId}{K:fV Q P}{G:Machine->Outcome->World->Trace->Prop}
def zh(K:fV Q P)(f0:FuncId)(R:Value->World->Prop)(G:Machine->Outcome->World->Trace->Prop)(base:List Frame)(hX:Ren)(v0 aI:World)(Ok:(Nat->Prop)->Prop):Prop:=
 ∀aE ρ V bg cs' gs w t,Ok aE->lB K f0 R aE ρ V bg cs' base gs w t->vK K ρ V bg cs' w->ff hX ρ v0 V.w aI w->
  (∀dE c b6 f d bf w' a',Ok dE->ds Q b6 V->lB K f0 R dE c b6 f d base bf w' a'->lD K c b6 f d w'->ff hX c v0 b6.w aI w'->∀sl,Ends P G (crowd bf w' sl) a')->∀sl,Ends P G (crowd gs w sl) t
def lB.go(S:bK Q P)(eo:ey (eE (h5 Q)) Q Q)(H:ey (eE K) Q P)(ax:∀f a b,¬K.cJ f a b){base:List Frame}{hX:Ren}{v0 aI:World}{Ok:(Nat->Prop)->Prop}(spec:zh K f0 R G base hX v0 aI Ok)
 (ret:∀aE ρ V bg gs w t,Ok aE->en Q f0 R V->lF aE ρ->(∀b,aE b->b<w.heap.size)->ff hX ρ v0 V.w aI w->b5 P aE gs ⟨bg,base,.running,none,none⟩ w t 0->bg.kind=.normal->bg.fn=f0->
  (∀k,∃v B ai dc aG es,R v dc/\aM ai v B/\stepG P true ⟨bg,base,.running,none,none⟩ (w.at k)=GStep.after es (doReturn P true bg base none B aG)/\gb ai dc aG/\ff hX ai v0 dc aI aG/\lF aE ai/\
   w.heap.size<=aG.heap.size/\(∀e∈es,mO aE aG.heap.size e)/\deafBehind 0 es=0)->∀sl,Ends P G (crowd gs w sl) t)
 {aE:Nat->Prop} {ρ:Ren} {V:cY} {bg:Frame} {cs':List Frame} {gs:Array Goroutine} {w:World} {t:Trace} (u:Ok aE)
 (c:lB K f0 R aE ρ V bg cs' base gs w t) (g:lD K ρ V bg cs' w) (r:ff hX ρ v0 V.w aI w) (sl:Option (Nat×Nat)):Ends P G (crowd gs w sl) t:=by
 have key:∀V:cY,Acc (ds Q) V->∀aE ρ bg cs' gs w t,Ok aE->lB K f0 R aE ρ V bg cs' base gs w t->lD K ρ V bg cs' w->ff hX ρ v0 V.w aI w->∀sl,Ends P G (crowd gs w sl) t:=by
  intro V aj;induction aj with
  |intro V _ W=>
  intro aE ρ bg cs' gs w t u c g r sl;by_cases F:V.stop
  .obtain⟨_,_,_,_,_,_,_,ak,ap,am,_⟩:=xZ (base:=base) S c.going c.self g F true .running none
   subst ak;refine ret aE ρ V bg gs w t u c.going c.rel c.low r c.st ap am (λk=>?_) sl;have E:lD K ρ V bg [] (w.at k):=⟨g.fit,g.room,g.fr,g.cs,⟨g.heap.obj,g.heap.lim,g.heap.iI⟩⟩
   obtain⟨v,B,ai,aG,es,ag,z,_,_,_,I,l,U,q⟩:=xZ (base:=base) S c.going c.self E F true .running none;have hrel:lF aE ai:=λb i j p=>by
    rcases l.new b i j with x|⟨_,x⟩
    .exact c.rel b i x p
    .have:=c.low i p
     have e:(w.at k).heap.size=w.heap.size:=rfl;omega
   refine⟨v,B,ai,c9 V.w (gF V.w (w.at k)),aG,es,ag,z,I,U.hrel,r.trans (ff.zp l),hrel,l.size,λe he=>An (aG:=aG) hrel (λb i j=>(U.lt j).2) (q e he),z1 q 0⟩
  .refine c.st.step (λk=>?_) sl
   have E:lD K ρ V bg cs' (w.at k):=⟨g.fit,g.room,g.fr,g.cs,⟨g.heap.obj,g.heap.lim,g.heap.iI⟩⟩
   obtain⟨b6,ai,D,C,aG,es,I,z,af,ah,l,q,T⟩:=BU (base:=base) S eo H c.going c.self E F (λ_ id ops aC d k aA _ _ h=>ax _ _ _ h) true .running none;have hrel:lF aE ai:=λb i j p=>by
    rcases l.new b i j with x|⟨_,x⟩
    .exact c.rel b i x p
    .have:=c.low i p
     have e:(w.at k).heap.size=w.heap.size:=rfl;omega
   have L:ff hX ai v0 b6.w aI aG:=r.trans (ff.zp l);have ao:gb ai b6.w aG:=by
    rcases T with h|h
    .exact h.heap
    .exact h.heap
   have au:∀b i,ai.r b i->i<aG.heap.size:=λb i j=>by obtain⟨o,aB,_,ae,_⟩:=ao.obj b i j;exact bp ae
   refine⟨_,aG,es,I,rfl,l.size,λe he=>An (aG:=aG) hrel au (q e he),λbf a' X J=>?_⟩;rw[z1 q]at J;have M:lB K f0 R aE ai b6 D C base bf aG a':=⟨af,ah,hrel,λb j=>Px (c.low b j) l.size,J⟩
   rcases T with h|h
   .exact W b6 (.one z) aE ai D C bf aG a' u M h L X
   .refine spec aE ai b6 D C bf aG a' u M h L (λdE az Y aa Z ad w3 t3 av ar aq aw al ay=>?_) X
    exact W Y (.more z ar) dE az aa Z ad w3 t3 av aq aw al ay
 exact key V (ds.acc c.going.acc) aE ρ bg cs' gs w t u c g r sl
end
end Go.aN
namespace Go.aN
attribute [-simp] Go.Sem.runT_eq
open Go.Conc Go.ConcN
section
structure oU where
 cH:Nat
 h7:Loc->Prop
 g4:Loc->Prop
 jG:Addr
 bO:Loc->Nat
 mQ:Nat->Loc->Prop
 aE:Nat->Prop
 no:Nat
inductive oY where
 |fresh
 |written (g:Nat)
 |done
 deriving DecidableEq
variable(L:oU)
def Eh(a:Touch):Prop:=(∃c,a.loc=.cell c/\L.aE c.block)/\a.kind=.atomic
structure Started(t:Trace)(g:Nat):Prop where
 old:∀i a,i<L.cH->touchAt t i=some a->a.loc.isMemory=true->Knows t g i\/Eh L a
 ro:∀l,L.mQ g l->¬L.h7 l->¬L.g4 l->∀i a,touchAt t i=some a->a.loc=l->a.write=true->Knows t g i
def tn(t:Trace):oY->Prop
 |.fresh=>∀i a,L.cH<=i->touchAt t i=some a->¬L.g4 a.loc
 |.written g=>∀i op a,L.cH<=i->t[i]?=some op->op.act.touch?=some a->L.g4 a.loc->op.g=g
 |.done=>∃p,LastWrite t L.jG p/\t.heard p/\∀i a,L.cH<=i->touchAt t i=some a->L.g4 a.loc->a.write=true->Before t i p
def hr(t:Trace)(g:Nat):Prop:=∀i a,touchAt t i=some a->L.g4 a.loc->a.write=true->Knows t g i
structure eF(t:Trace)(s:oY)(B:Nat):Prop where
 clean:∀said,¬Race said t
 size:L.cH<=t.size
 gH:∀i a,L.cH<=i->touchAt t i=some a->L.h7 a.loc->a.kind≠.plain
 own:∀i op a,L.cH<=i->t[i]?=some op->op.act.touch?=some a->a.loc.isMemory=true->¬L.h7 a.loc->¬L.g4 a.loc->op.g=L.bO a.loc\/(a.write=false/\L.mQ op.g a.loc)
 cq:tn L t s
 seen:∀op∈t,op.act.low B
def tk(g:Nat)(b:Touch):Prop:=
 (L.h7 b.loc/\b.kind≠.plain)\/(¬L.h7 b.loc/\¬L.g4 b.loc/\L.bO b.loc=g/\(b.write=true->∀h,h≠g->¬L.mQ h b.loc))\/(¬L.h7 b.loc/\¬L.g4 b.loc/\L.mQ g b.loc/\b.write=false)
structure oL:Prop where
 bB:∀l bk,l=.cell bk->L.aE bk.block->¬L.h7 l/\¬L.g4 l/\∀g,¬L.mQ g l
 Cy:∀l bk,l=.cell bk->L.aE bk.block->L.bO l=L.no
 mF:∀l,L.g4 l->¬L.h7 l
 vp:∀l,L.g4 l->l.isMemory=true
 yJ:∀l,L.h7 l->l.isMemory=true
variable{L}{t u:Trace}{s:oY}{B g:Nat}
def Started.app(h:Started L t g)(hu:∀op∈u,∀a,op.act.touch?=some a->a.write=true->L.mQ g a.loc->¬L.h7 a.loc->¬L.g4 a.loc->op.g=g)(B:L.cH<=t.size):Started L (t++u) g:=by
 refine⟨λi a j c hm=>?_,λl o d f i a c e p=>?_⟩
 .have:=h.old i a j (by rw[<-touchAt_old (u:=u) (by omega)];exact c) hm
  exact this.imp (·.app u) id
 .obtain⟨x,q,r⟩:=touch_of c
  rcases getElem?_append_cases q with⟨j,w⟩|⟨_,z⟩
  .exact(h.ro l o d f i a (by rw[touchAt_of w];exact r) e p).app u
  .have:=knows_own q
   rw[hu x z a r p (e ▸ o) (e ▸ d) (e ▸ f)]at this;exact this
def hr.app(h:hr L t g)(hu:∀op∈u,∀a,op.act.touch?=some a->L.g4 a.loc->a.write=true->op.g=g):hr L (t++u) g:=by
 intro i a l c d;obtain⟨x,f,j⟩:=touch_of l;rcases getElem?_append_cases f with⟨q,o⟩|⟨_,p⟩
 .exact(h i a (by rw[touchAt_of o];exact j) c d).app u
 .have:=knows_own f
  rw[hu x p a j c d]at this;exact this
def tn.app(h:tn L t s)(hu:∀op∈u,∀a,op.act.touch?=some a->L.g4 a.loc->(s=.written op.g\/(s=.done/\a.write=false)))(hd:∀op∈u,∀sync,op.act≠.access ⟨.cell L.jG,true,sync⟩):tn L (t++u) s:=by
 cases s with
 |fresh=>
  intro i a f d c;obtain⟨x,l,g⟩:=touch_of d;rcases getElem?_append_cases l with⟨_,o⟩|⟨_,q⟩
  .exact h i a f (by rw[touchAt_of o];exact g) c
  .rcases hu x q a g c with k|⟨k,_⟩<;>cases k
 |written g'=>
  intro i op a f B d c;rcases getElem?_append_cases B with⟨_,C⟩|⟨_,D⟩
  .exact h i op a f C d c
  .rcases hu op D a d c with k|⟨k,_⟩
   .cases k;rfl
   .cases k
 |done=>
  obtain⟨p,r,w,z⟩:=h;refine⟨p,r.app hd,(heard_old (lt_of_act? r.1)).2 w,λi a f d c j=>?_⟩;obtain⟨x,l,g⟩:=touch_of d;rcases getElem?_append_cases l with⟨_,o⟩|⟨_,q⟩
  .exact(z i a f (by rw[touchAt_of o];exact g) c j).app u
  .rcases hu x q a g c with k|⟨_,k⟩
   .cases k
   .rw[k]at j;cases j
def eF.app(F:oL L)(X:g≠L.no)(h:eF L t s B)(Q:Started L t g)(hu:∀op∈u,op.g=g)(J:∀op∈u,∀b,op.act.touch?=some b->b.loc.isMemory=true->tk L g b\/(L.g4 b.loc/\(s=.written g\/(s=.done/\b.write=false/\hr L t g))))(ad:∀op∈u,∀b,op.act.touch?=some b->b.kind=.said->L.h7 b.loc->∀i a,touchAt t i=some a->a.loc=b.loc->a.kind=.said->Knows t g i)(hd:∀op∈u,∀sync,op.act≠.access ⟨.cell L.jG,true,sync⟩)(W:∀op∈u,op.act.low B):eF L (t++u) s B:=by
 refine⟨λsaid=>noRace_append (h.clean said) hu λi a c op D b l H=>?_,Po h.size (by simp),λi a d c o=>?_,λi op a d I c hm j z=>?_,h.cq.app (λop D a c l=>?_) hd,seen_app h.seen W⟩
 ·
  have hm:b.loc.isMemory=true:=by rw[<-H.1];exact H.2.1
  have R:a.loc.isMemory=true:=H.2.1;obtain⟨e,_,hw,V⟩:=H;obtain⟨x,r,E⟩:=touch_of c;have old:i<L.cH->(∀f,b.loc=.cell f->L.aE f.block->False)->Knows t g i:=by
   intro d Y;rcases Q.old i a d c R with k|⟨⟨f,p,q⟩,_⟩
   .exact k
   .exact(Y f (e ▸ p) q).elim
  rcases J op D b l hm with(⟨o,M⟩|⟨j,z,I,ah⟩|⟨j,z,aa,C⟩)|⟨P,af⟩
  ·
   by_cases d:i<L.cH
   .exact old d λf p q=>(F.bB _ f p q).1 o
   .have U:=h.gH i a (by omega) c (e ▸ o)
    rcases V with k|k|⟨_,G,w⟩
    .exact absurd k U
    .exact absurd k M
    .exact ad op D b l w o i a c e G
  ·
   by_cases d:i<L.cH
   .exact old d λf p q=>X (I.symm.trans (F.Cy _ f p q))
   .rcases h.own i x a (by omega) r E R (e ▸ j) (e ▸ z)with k|⟨G,w⟩
    .have:=knows_own r
     rw[k,e,I]at this;exact this
    .by_cases T:x.g=g
     .have:=knows_own r
      rw[T]at this;exact this
     .have C:b.write=true:=by
       rcases hw with hw|hw
       .rw[G]at hw;cases hw
       .exact hw
      exact absurd (e ▸ w) (ah C _ T)
  ·
   have K:a.write=true:=hw.resolve_right (by simp[C]);exact Q.ro b.loc aa j z i a c e K
  ·
   by_cases d:i<L.cH
   .exact old d λf p q=>(F.bB _ f p q).2.1 P
   .rcases af with rfl|⟨rfl,C,ae⟩
    .have:=h.cq i x a (by omega) r E (e ▸ P)
     have k:=knows_own r;rw[this]at k;exact k
    .have K:a.write=true:=hw.resolve_right (by simp[C])
     exact ae i a c (e ▸ P) K
 .obtain⟨x,r,E⟩:=touch_of c
  rcases getElem?_append_cases r with⟨_,ag⟩|⟨_,ai⟩
  .exact h.gH i a d (by rw[touchAt_of ag];exact E) o
  .rcases J x ai a E (F.yJ _ o)with(⟨_,M⟩|⟨j,_⟩|⟨j,_⟩)|⟨l,_⟩
   .exact M
   .exact absurd o j
   .exact absurd o j
   .exact absurd o (F.mF _ l)
 .rcases getElem?_append_cases I with⟨_,Z⟩|⟨_,S⟩
  .exact h.own i op a d Z c hm j z
  .rw[hu op S]
   rcases J op S a c hm with(⟨k,_⟩|⟨_,_,k,_⟩|⟨_,_,k,w⟩)|⟨k,_⟩
   .exact absurd k j
   .exact .inl k.symm
   .exact .inr ⟨w,k⟩
   .exact absurd k z
 .rcases J op D a c (F.vp _ l)with(⟨k,_⟩|⟨_,k,_⟩|⟨_,k,_⟩)|⟨_,k|⟨G,w,_⟩⟩
  .exact absurd k (F.mF _ l)
  .exact absurd l k
  .exact absurd l k
  .rw[hu op D];exact .inl k
  .exact .inr ⟨G,w⟩
end
section
variable{L:oU}{t u:Trace}{s:oY}{B ej g:Nat}
def last_at(t:Trace)(y:MemOp):(t++#[y])[t.size]?=some y:=by rw[Array.getElem?_append_right Pk];simp
def ui{t:Trace}{y:MemOp}(h:Deaf t y.g=0):(t++#[y]).heard t.size:=⟨y.g,by simp[Trace.g?,last_at],by rw[deaf_old Pk];exact h⟩
def eF.mono(h:eF L t s B)(c:B<=ej):eF L t s ej:=⟨h.clean,h.size,h.gH,h.own,h.cq,λop d=>MemAct.low_mono c (h.seen op d)⟩
def sx{u:Trace}(hu:∀op∈u,op.act.touch?=none){i:Nat}{a:Touch}(h:touchAt (t++u) i=some a):i<t.size/\touchAt t i=some a:=by
 obtain⟨x,f,c⟩:=touch_of h;rcases getElem?_append_cases f with⟨d,g⟩|⟨_,j⟩
 .exact⟨d,by rw[touchAt_of g];exact c⟩
 .rw[hu x j]at c;cases c
def Jn{op:MemOp}(h:op.act.touch?=none)(a:Addr)(sync:Bool):op.act≠.access ⟨.cell a,true,sync⟩:=λe=>by rw[e]at h;cases h
def eF.one(h:eF L t s B)(y:MemOp)(z:y.act.touch?=none)(p:y.act.low B):eF L (t++#[y]) s B:=by
 have hu:∀op∈#[y],op.act.touch?=none:=by intro op c;simp at c;subst c;exact z
 refine⟨λsaid=>noRace_append (h.clean said) (g:=y.g) (λop c=>by simp at c;rw[c]) λi a _ op c b j _=>(by rw[hu op c]at j;cases j),Po h.size (by simp),λi a f d w=>h.gH i a f (sx hu d).2 w,
  λi op a f q d hm l o=>?_,h.cq.app (λop c a d=>by rw[hu op c]at d;cases d) (λop c=>Jn (hu op c) _),seen_app h.seen λop c=>by simp at c;subst c;exact p⟩
 rcases getElem?_append_cases q with⟨_,r⟩|⟨_,u⟩
 .exact h.own i op a f r d hm l o
 .rw[hu op u]at d;cases d
def Started.one(h:Started L t g)(y:MemOp)(i:y.act.touch?=none)(f:L.cH<=t.size):Started L (t++#[y]) g:=h.app (λop d a c=>by simp at d;subst d;rw[i]at c;cases c) f
def hr.one(h:hr L t g)(y:MemOp)(f:y.act.touch?=none):hr L (t++#[y]) g:=h.app λop d a c=>by simp at d;subst d;rw[f]at c;cases c
def N5(t:Trace)(x y:MemOp):t++#[x,y]=(t++#[x])++#[y]:=by apply Array.ext';simp
def Started.LV(h:Started L t g)(c:L.cH<=t.size){x y:MemOp}{k:Nat}(d:x.g=0/\x.act=.go k)(f:y.g=k/\y.act=.start):Started L (t++#[x,y]) g:=by rw[N5];exact(h.one x (by rw[d.2];rfl) c).one y (by rw[f.2];rfl) (by simp;omega)
def Started.child(h:Started L t 0)(K:eF L t s B){x y:MemOp}{k:Nat}(j:x.g=0/\x.act=.go k)(o:y.g=k/\y.act=.start)(p:Deaf t 0=0)(q:Deaf t k=0)(F:oL L)(J:∀l,L.mQ k l->l.isMemory=true/\L.bO l=0/\∀h,h≠k->L.mQ h l->L.bO l=0):Started L (t++#[x,y]) k:=by
 have hu:∀op∈#[x,y],op.act.touch?=none:=by
  intro op I;have:op=x\/op=y:=by simpa using I
  rcases this with rfl|rfl
  .rw[j.2];rfl
  .rw[o.2];rfl
 refine⟨λi a g f hm=>?_,λl r E G i a f e M=>?_⟩
 .obtain⟨_,d⟩:=sx hu f
  exact(h.old i a g d hm).imp (fork_knows j o p q) id
 .obtain⟨_,d⟩:=sx hu f
  refine fork_knows j o p q ?_;obtain⟨hm,H,_⟩:=J l r;by_cases g:i<L.cH
  .rcases h.old i a g d (e ▸ hm)with c|⟨⟨w,C,D⟩,_⟩
   .exact c
   .exact absurd r ((F.bB l w (e ▸ C) D).2.2 k)
  .obtain⟨z,u,P⟩:=touch_of d
   rcases K.own i z a (by omega) u P (e ▸ hm) (e ▸ E) (e ▸ G)with c|⟨c,_⟩
   .have:=knows_own u
    rw[c,e,H]at this;exact this
   .rw[M]at c;cases c
def eF.begin(h:eF L t .fresh B)(g:Nat):eF L t (.written g) B:=⟨h.clean,h.size,h.gH,h.own,λi op a f j c d=>absurd d (h.cq i a f (by rw[touchAt_of j];exact c)),h.seen⟩
def eF.raise(F:oL L)(h:eF L t (.written g) B)(I:Started L t g){y:MemOp}(o:y.g=g/\y.act=.access ⟨.cell L.jG,true,true⟩)(hd:Deaf t g=0)(p:L.h7 (.cell L.jG))(M:L.jG.block<B):eF L (t++#[y]) .done B:=by
 have hu:∀op∈#[y],op=y:=by intro op j;simpa using j
 have T:y.act.touch?=some ⟨.cell L.jG,true,.atomic⟩:=by rw[o.2];rfl
 have hm:∀a,y.act.touch?=some a->a=⟨.cell L.jG,true,.atomic⟩:=λa c=>by rw[T]at c;exact(Pm c).symm
 refine⟨λsaid=>noRace_append (h.clean said) (g:=g) (λop j=>by rw[hu op j];exact o.1) λi a c op j b d H=>?_,Po h.size (by simp),λi a f c S=>?_,λi op a f P c u r G=>?_,?_,seen_app h.seen λop j=>by rw[hu op j,o.2];exact M⟩
 .rw[hu op j]at d
  have d:=hm b d;subst d;obtain⟨e,u,_,J⟩:=H;have K:a.kind=.plain:=by
   rcases J with k|k|⟨_,_,k⟩
   .exact k
   .cases k
   .cases k
  by_cases f:i<L.cH
  .rcases I.old i a f c u with k|⟨⟨C,D,E⟩,_⟩
   .exact k
   .exact absurd p ((F.bB (.cell L.jG) C (e.symm.trans D) E).1)
  .exact absurd K (h.gH i a (by omega) c (e ▸ p))
 .obtain⟨x,w,l⟩:=touch_of c
  rcases getElem?_append_cases w with⟨_,q⟩|⟨_,z⟩
  .exact h.gH i a f (by rw[touchAt_of q];exact l) S
  .rw[hu x z]at l
   rw[hm a l];simp
 .rcases getElem?_append_cases P with⟨_,Q⟩|⟨_,R⟩
  .exact h.own i op a f Q c u r G
  .rw[hu op R]at c
   rw[hm a c]at r;exact absurd p r
 .refine⟨t.size,LastWrite.new t L.jG o.2,ui (by rw[o.1];exact hd),λi a f c d U=>?_⟩
  obtain⟨x,w,l⟩:=touch_of c;rcases getElem?_append_cases w with⟨_,q⟩|⟨_,z⟩
  .have k:=h.cq i x a f q l d
   have:=knows_own q;rw[k]at this;exact .inr (this.hb_new Pk (last_at t y) o.1)
  .rw[hu x z]at l
   rw[hm a l]at d;exact absurd p (F.mF _ d)
def eF.yg(F:oL L)(h:eF L t .done B)(H:Started L t g){y:MemOp}(c:y.g=g/\y.act=.access ⟨.cell L.jG,false,true⟩)(hd:Deaf t g=0)(R:L.h7 (.cell L.jG)):hr L (t++#[y]) g:=by
 obtain⟨p,d,D,E⟩:=h.cq;have j:=lt_of_act? d.1;have q:=last_at t y;have C:HappensBefore (t++#[y]) p t.size:=.single (.inr ⟨.atomic (a:=L.jG) j (by rw[act?_old j];exact d.1) (by rw[act?_of q,c.2]) (λk sync P Q=>by rw[act?_old Q];exact d.2 k sync P),(heard_old j).2 D,ui (by rw[c.1];exact hd)⟩);intro i a G f r;obtain⟨x,J,l⟩:=touch_of G;rcases getElem?_append_cases J with⟨S,K⟩|⟨_,M⟩
 .have o:touchAt t i=some a:=by rw[touchAt_of K];exact l
  by_cases I:i<L.cH
  .rcases H.old i a I o (F.vp _ f)with k|⟨⟨u,w,z⟩,_⟩
   .exact k.app _
   .exact absurd f ((F.bB _ u w z).2.1)
  .exact⟨t.size,y,q,c.1,.inr (((E i a (by omega) o f r).app #[y]).hb C)⟩
 .have:x=y:=by simpa using M
  rw[this,c.2]at l;cases l;cases r
def eF.writer(F:oL L)(h:eF L t (.written g) B)(p:Started L t g):hr L t g:=by
 intro i a d c u;by_cases q:i<L.cH
 .rcases p.old i a q d (F.vp _ c)with k|⟨⟨j,l,o⟩,_⟩
  .exact k
  .exact absurd c ((F.bB _ j l o).2.1)
 .obtain⟨x,f,r⟩:=touch_of d
  have k:=h.cq i x a (by omega) f r c;have:=knows_own f;rw[k]at this;exact this
def Told(L:oU)(W:Nat->Prop)(t:Trace)(g:Nat):Prop:=
 ∀i op a,L.cH<=i->t[i]?=some op->op.g=g->op.act.touch?=some a->a.loc.isMemory=true->Knows t 0 i\/((∃c,a.loc=.cell c/\W c.block)/\a.kind=.atomic/\¬t.heard i)
def Told.app{W:Nat->Prop}(h:Told L W t g)(hu:∀j op a,u[j]?=some op->op.g=g->op.act.touch?=some a->a.loc.isMemory=true->(∃f,a.loc=.cell f/\W f.block)/\a.kind=.atomic/\¬(t++u).heard (t.size+j)):Told L W (t++u) g:=by
 intro i op a q c o l hm;by_cases p:i<t.size
 .have d:t[i]?=some op:=by rw[<-getElem?_append_old (u:=u) p];exact c
  exact(h i op a q d o l hm).imp (·.app u) λ⟨r,w,z⟩=>⟨r,w,λk=>z ((heard_old p).1 k)⟩
 .have d:u[i-t.size]?=some op:=by rw[Array.getElem?_append_right (by omega)]at c;exact c
  have:=hu _ op a d o l hm;rw[show t.size+(i-t.size)=i by omega]at this;exact .inr this
def Told.other{W:Nat->Prop}(h:Told L W t g)(hu:∀op∈u,op.g=g->op.act.touch?=none):Told L W (t++u) g:=
 h.app λj op a f d c=>by rw[hu op (Array.mem_of_getElem? f) d]at c;cases c
def NR{W:Nat->Prop}{c k:Nat}{x y:MemOp}{v:Trace}{i1 i2:Nat}(d:v[i1]?=some x/\x.g=g/\x.act=.send c k)(f:v[i2]?=some y/\y.g=0/\y.act=.recvDone c k)(r:∀op∈v,op.act.touch?=none/\op.act≠.mark .disable/\op.act≠.mark .enable)(hd:Deaf t g=0)(C:Deaf t 0=0):Told L W (t++v) g:=by
 have p:∀(n:Nat) (h:Nat),n<=v.size->(t++v).deaf h (t.size+n)=Deaf t h:=by
  intro n h;induction n with
  |zero=>intro _;exact deaf_old Pk
  |succ n I=>
   intro K;have o:n<v.size:=by omega
   have H:(t++v)[t.size+n]?=some v[n]:=by rw[Array.getElem?_append_right (by omega)];simp[o]
   rw[show t.size+(n+1)=(t.size+n)+1 by omega,deaf_succ H,I (by omega)];have:=r v[n] (Array.getElem_mem o);unfold deafStep;split
   .rename_i e;exact absurd e this.2.1
   .rename_i e;exact absurd e this.2.2
   .rfl
 have j:(t++v)[t.size+i1]?=some x:=by rw[Array.getElem?_append_right (by omega)];simpa using d.1
 have l:(t++v)[t.size+i2]?=some y:=by rw[Array.getElem?_append_right (by omega)];simpa using f.1
 have M:=lt_size_of_getElem? d.1;have P:=lt_size_of_getElem? f.1;have w:(t++v).heard (t.size+i1):=⟨g,by simp[Trace.g?,j,d.2.1],by rw[p _ _ (by omega)];exact hd⟩
 have z:(t++v).heard (t.size+i2):=⟨0,by simp[Trace.g?,l,f.2.1],by rw[p _ _ (by omega)];exact C⟩
 have B:HappensBefore (t++v) (t.size+i1) (t.size+i2):=.single (.inr ⟨.handOver (by rw[act?_of j,d.2.2]) (by rw[act?_of l,f.2.2]),w,z⟩);intro i op a J E D q hm;refine .inl ?_;rcases getElem?_append_cases E with⟨o,F⟩|⟨_,G⟩
 .have k:=knows_own F
  rw[D]at k;exact⟨_,y,l,f.2.1,.inr ((k.hb_new (u:=v) (by omega) j d.2.1).trans B)⟩
 .rw[(r op G).1]at q;cases q
def Shut(L:oU)(c:Nat)(t:Trace)(g:Nat):Prop:=∃p,t.act? p=some (.close c)/\t.heard p/\∀i op a,L.cH<=i->t[i]?=some op->op.g=g->op.act.touch?=some a->Before t i p
def LG{c:Nat}{y:MemOp}(d:y.g=g/\y.act=.close c)(hd:Deaf t g=0):Shut L c (t++#[y]) g:=by
 refine⟨t.size,by rw[act?_of (last_at t y),d.2],ui (by rw[d.1];exact hd),λi op a p j h f=>?_⟩;rcases getElem?_append_cases j with⟨_,l⟩|⟨_,o⟩
 .have k:=knows_own l
  rw[h]at k;exact .inr (k.hb_new Pk (last_at t y) d.1)
 .have:op=y:=by simpa using o
  rw[this,d.2]at f;cases f
def Shut.app{c:Nat}(h:Shut L c t g)(hu:∀op∈u,op.g=g->op.act.touch?=none):Shut L c (t++u) g:=by
 obtain⟨p,f,o,q⟩:=h;have l:=lt_of_act? f;refine⟨p,by rw[act?_old l];exact f,(heard_old l).2 o,λi op a r w j d=>?_⟩;rcases getElem?_append_cases w with⟨_,z⟩|⟨_,B⟩
 .exact(q i op a r z j d).app u
 .rw[hu op B j]at d;cases d
def Shut.told{W:Nat->Prop}{c:Nat}(h:Shut L c t g){y:MemOp}(d:y.g=0/\y.act=.recvClosed c)(r:Deaf t 0=0)(B:g≠0):Told L W (t++#[y]) g:=by
 obtain⟨p,j,u,w⟩:=h;have l:=lt_of_act? j;have o:=last_at t y;have q:HappensBefore (t++#[y]) p t.size:=.single (.inr ⟨.closed (by rw[act?_old l];exact j) (by rw[act?_of o,d.2]),(heard_old l).2 u,ui (by rw[d.1];exact r)⟩);intro i op a C D f z hm;rcases getElem?_append_cases D with⟨_,E⟩|⟨_,F⟩
 .exact .inl ⟨t.size,y,o,d.1,.inr (((w i op a C E f z).app #[y]).hb q)⟩
 .have:op=y:=by simpa using F
  rw[this]at f;exact absurd (f.symm.trans d.1) B
def eF.qU{W:Nat->Prop}(h:eF L t s B)(I:Started L t 0)(J:∀(i:Nat) op,L.cH<=i->t[i]?=some op->op.g=0\/Told L W t op.g)(K:∀i g,i<L.cH->t.g? i=some g->g≠0->t.counts i->∃j,t.g? j=some 0/\HappensBefore t i j):ji (λb=>L.aE b\/W b) B t:=by
 have H:∀i op a,t[i]?=some op->op.act.touch?=some a->a.loc.isMemory=true->Knows t 0 i\/((∃c,a.loc=.cell c/\(L.aE c.block\/W c.block))/\a.kind=.atomic/\(i<L.cH\/¬t.heard i)):=by
  intro i op a p d hm;by_cases f:i<L.cH
  .rcases I.old i a f (by rw[touchAt_of p];exact d) hm with k|⟨⟨c,r,u⟩,k⟩
   .exact .inl k
   .exact .inr ⟨⟨c,r,.inl u⟩,k,.inl f⟩
  .rcases J i op (by omega) p with k|k
   .have:=knows_own p
    rw[k]at this;exact .inl this
   .rcases k i op a (by omega) p rfl d hm with k|⟨⟨c,r,u⟩,o,k3⟩
    .exact .inl k
    .exact .inr ⟨⟨c,r,.inr u⟩,o,.inr k3⟩
 refine⟨h.clean,λi a d hm=>?_,λi g' w F E=>?_,h.seen⟩
 .obtain⟨x,l,C⟩:=touch_of d
  exact(H i x a l C hm).imp id λ⟨M,o,_⟩=>⟨M,o⟩
 .by_cases f:i<L.cH
  .exact K i g' f w F E
  .obtain⟨a,d,hm,U⟩:=E
   obtain⟨x,l,C⟩:=touch_of d;rcases H i x a l C hm with⟨q,z,D,G,hb⟩|⟨_,o,k3⟩
   .refine⟨q,by simp[Trace.g?,D,G],?_⟩
    rcases hb with rfl|hb
    .rw[l]at D
     cases D;simp[Trace.g?,l]at w;exact absurd (w.symm.trans G) F
    .exact hb
   .rcases U with U|U
    .exact absurd o U
    .rcases k3 with k3|k3
     .exact absurd k3 f
     .exact absurd U k3
end
end Go.aN
