/- Part 10 of a law on fees: no conditions. -/
import Derived.Test.YtalhadgndijcmaaGreatDoorP4
import Derived.Conc.Beside
import Derived.Conc.MuSpec
import Derived.Conc.CrowdTrace
set_option maxHeartbeats 8000000
set_option maxRecDepth 100000
set_option linter.all false
namespace Go.aN
attribute [-simp] Go.Sem.runT_eq
open Go.Conc Go.ConcN
section
variable{P:Program}{G:Machine->Outcome->World->Trace->Prop}
inductive Ends(P:Program)(G:Machine->Outcome->World->Trace->Prop): Machine->Trace->Prop
 | ended {m:Machine} {t:Trace} {o:Outcome} {w:World} {ops:Array MemOp} (h:stepT P m=(.ended o w,ops)) (g:G m o w (t++ops)):Ends P G m t
 | next {m cP:Machine} {t:Trace} {ops:Array MemOp} (h:stepT P m=(.next cP,ops)) (k:Ends P G cP (t++ops)):Ends P G m t
theorem Ends.run{m:Machine}{t:Trace}(h:Ends P G m t): ∃n last o w a',runNT P (n+1) m t=(.ended o w,a')/\runN P n m=.next last/\step P last=.ended o w/\G last o w a':=by
 induction h with
 | @ended m t o w ops c j=>exact⟨0,m,o,w,t++ops,by simp[runNT,c],rfl,by simp[step,c],j⟩
 | @next m cP t ops c _ l=>
  obtain⟨n,last,o,w,a',d,f,g,i⟩:=l;exact⟨n+1,last,o,w,a',by rw[runNT_succ_next c];exact d,by rw[runN_succ_next c];exact f,g,i⟩
structure ji(aE:Nat->Prop)(B:Nat)(t:Trace): Prop where
 clean:∀said,¬ Race said t
 known:∀i a,touchAt t i=some a->a.loc.isMemory=true->Knows t 0 i\/((∃bk,a.loc=.cell bk/\aE bk.block)/\a.kind=.atomic)
 over:t.HandedOver
 seen:∀op∈t,op.act.low B
section
variable{aE:Nat->Prop}{B ej:Nat}{t u:Trace}
theorem ji.mono(h:ji aE B t)(c:B<=ej): ji aE ej t:=⟨h.clean,h.known,h.over,λop d=>MemAct.low_mono c (h.seen op d)⟩
theorem ji.app0(h:ji aE B t)(hu:∀op∈u,op.g=0)(r:∀op∈u,∀b,op.act.touch?=some b->∀c,b.loc=.cell c->aE c.block->b.kind≠.plain)(q:∀op∈u,op.act.low B): ji aE B (t++u):=by
 refine⟨λsaid=>noRace_append (h.clean said) hu λi a d op g b m f=>?_,λi a d hm=>?_,handedOver_app h.over λop g=>.inl (hu op g),seen_app h.seen q⟩
 . rcases h.known i a d f.2.1 with n|⟨⟨c,e,w⟩,o⟩
   . exact n
   . have p:=r op g b m c (f.1 ▸ e) w
     obtain⟨_,_,_,j⟩:=f;rw[o] at j;rcases j with x|x|⟨_,x,_⟩
     . cases x
     . exact absurd x p
     . cases x
 . obtain⟨x,l,z⟩:=touch_of d
   rcases getElem?_append_cases l with ⟨_,y⟩|⟨_,C⟩
   . exact(h.known i a (by rw[touchAt_of y];exact z) hm).imp (·.app u) id
   . have:=knows_own l
     rw[hu x C] at this;exact .inl this
theorem ji.appMute{g:Nat}(h:ji aE B t)(q:g≠0)(hu:∀op∈u,op.g=g)(c:∀op∈u,op.act.touch?=none)(m:∀op∈u,op.act.low B): ji aE B (t++u):=by
 refine⟨λsaid=>noRace_append (h.clean said) hu λi a _ op d b j _=>(by rw[c op d] at j;cases j),λi a l hm=>?_,handedOver_app h.over λop d=>.inr (c op d),seen_app h.seen m⟩;obtain⟨x,n,f⟩:=touch_of l;rcases getElem?_append_cases n with ⟨_,o⟩|⟨_,p⟩
 . exact(h.known i a (by rw[touchAt_of o];exact f) hm).imp (·.app u) id
 . rw[c x p] at f;cases f
end
def mO(aE:Nat->Prop)(B:Nat)(e:Event): Prop:=(∀x,(MemAct.ofEvent e).touch?=some x->∀c,x.loc=.cell c->aE c.block->x.kind≠.plain)/\(MemAct.ofEvent e).low B
structure b5(P:Program)(aE:Nat->Prop)(gs:Array Goroutine)(a:Goroutine)(w:World)(t:Trace)(d:Nat): Prop where
 main:gs[0]?=some a
 run:a.status=.running
 others:∃q,Leavers P t gs q
 qU:ji aE w.heap.size t
 deaf:Deaf t 0=d
theorem b5.jY{aE:Nat->Prop}{gs:Array Goroutine}{a:Goroutine}{w:World}{t:Trace}{d:Nat}(l:b5 P aE gs a w t d)(h:∀bf a' sl E r k,bf[0]?=some a->(∃q,Leavers P a' bf q)->ji aE w.heap.size a'->Deaf a' 0=d->stepT P (crowd bf (w.at r) sl)=runT P (crowd bf (w.at k) E) 0->Ends P G (crowd bf (w.at r) sl) a')(sl:Option (Nat×Nat)): Ends P G (crowd gs w sl) t:=by
 obtain⟨q,f⟩:=l.others;have key:∀(n:Nat) (gs:Array Goroutine) (aG:World) (t:Trace) (sl:Option (Nat×Nat)) (q:Nat->Nat),sumTo gs.size q<=n->(∃k,aG=w.at k)->gs[0]?=some a->Leavers P t gs q->ji aE w.heap.size t->Deaf t 0=d->Ends P G (crowd gs aG sl) t:=by
  intro n;induction n using Nat.strongRecOn with
  | _ n Z=>
  intro gs aG t sl q aa W u f I hd;have L:∀g∈gs,awake g:=by
   intro g o;obtain⟨i,p,rfl⟩:=Array.mem_iff_getElem.1 o;rcases Nat.eq_zero_or_pos i with rfl|hpos
   . have:gs[0]=a:=by simpa [Pu p] using u
     rw[this];exact awake_of (.inl l.run)
   . exact awake_of ((f.old i _ hpos (Pu p)).status.elim .inl λx=>.inr (.inr x))
  obtain⟨i,g,k,E,p,o,H⟩:=crowd_pick (P:=P) (w:=aG) (sl:=sl) L ⟨0,a,u,l.run⟩;obtain⟨r,rfl⟩:=W;have X:(w.at r).at k=w.at k:=rfl;rw[X] at H;rcases Nat.eq_zero_or_pos i with rfl|hpos
  . exact h gs t sl E r k u ⟨q,f⟩ I hd H
  ·
   have C:=f.old i g hpos p;have Q:(i == 0)=false:=by simp;omega
   have J:i<gs.size:=(Array.getElem?_eq_some_iff.1 p).1;cases F:q i with
   | zero=>rw[F] at C;rw[C.1] at o;cases o
   | succ m=>
    rw[F] at C;rcases C with ⟨M,_⟩|⟨_,g',es,hm,U,S⟩
    . rw[M] at o;cases o
    have T:=runT_crowd_go (P:=P) (sl:=E) (i:=i) p (by rw[Q];exact U (w.at k));have V:((gs.map (woken P g g' (w.at k))).setIfInBounds i g').size=gs.size:=by simp
    have ad:sumTo gs.size (upd q i m)+(m+1)=sumTo gs.size q+m:=by have:=sumTo_upd q m id J;simpa [F] using this
    refine Ends.next (H.trans T) (Z (sumTo gs.size (upd q i m)) (by omega) _ _ _ _ (upd q i m) (by rw[V];exact Pk) ⟨k,rfl⟩ ?_ ⟨λj x z D=>?_,λj z=>?_⟩ ?_ ?_)
    . have R:i≠0:=by omega
      rw[PB R,Array.getElem?_map,u];simp[woken_run l.run]
    . by_cases B:i=j
      . subst B
        rw[PC (by simpa using J)] at D;obtain rfl:=Pm D;rw[upd_same,Deaf_own];exact S
      . rw[PB B,Array.getElem?_map] at D
        obtain⟨y,Y,rfl⟩:=Option.map_eq_some_iff.1 D;have K:=f.old j y z Y;rw[woken_quitsD K,upd_ne q m (Ne.symm B),Deaf_other t B _ (λop c=>by obtain⟨e,_,rfl⟩:=Go.Conc.mem_ofEvents c;rfl)];exact K
    . rw[Deaf_other t (g':=i) (by simp at z;omega) _ (λop c=>by obtain⟨e,_,rfl⟩:=Go.Conc.mem_ofEvents c;rfl)]
      exact f.above j (by simpa using z)
    . exact I.appMute (g:=i) (by omega) (λop c=>by obtain⟨e,_,rfl⟩:=Go.Conc.mem_ofEvents c;rfl) (λop c=>by obtain⟨e,he,rfl⟩:=Go.Conc.mem_ofEvents c;exact touch_mute (hm e he)) λop c=>by obtain⟨e,he,rfl⟩:=Go.Conc.mem_ofEvents c;exact low_mute (hm e he) _
    . rw[Deaf_other t (g':=i) (by omega) _ (λop c=>by obtain⟨e,_,rfl⟩:=Go.Conc.mem_ofEvents c;rfl)]
      exact hd
 exact key _ gs w t sl q Pk ⟨w.drawn,rfl⟩ l.main f l.qU l.deaf
theorem b5.step{aE:Nat->Prop}{gs:Array Goroutine}{a:Goroutine}{w:World}{t:Trace}{d:Nat}(I:b5 P aE gs a w t d)
 (h:∀k,∃f w' es,stepG P true a (w.at k)=.go f w' es/\f.status=.running/\w.heap.size<=w'.heap.size/\(∀e∈es,mO aE w'.heap.size e)/\
  ∀bf a' l,b5 P aE bf f w' a' (deafBehind d es)->Ends P G (crowd bf w' l) a') (sl:Option (Nat×Nat)):Ends P G (crowd gs w sl) t:=by
 refine I.jY (λgs t sl l M k m u z hd J=>?_) sl;obtain⟨q,n⟩:=u;obtain⟨f,w',es,hgo,F,K,o,C⟩:=h k;have H:=runT_crowd_go (P:=P) (sl:=l) (i:=0) m (show stepG P (0 == 0) a (w.at k)=_ from hgo);have D:0<gs.size:=(Array.getElem?_eq_some_iff.1 m).1;refine Ends.next (J.trans H) (C _ _ _ ⟨by simp[D],F,⟨q,⟨λj x g r=>?_,λj g=>?_⟩⟩,?_,?_⟩)
 . have E:0≠j:=by omega
   rw[PB E,Array.getElem?_map] at r;obtain⟨y,L,rfl⟩:=Option.map_eq_some_iff.1 r;have p:=n.old j y g L;rw[woken_quitsD p,Deaf_other t (by omega) _ (λop c=>by obtain⟨e,_,rfl⟩:=Go.Conc.mem_ofEvents c;rfl)];exact p
 . rw[Deaf_other t (g':=0) (by simp at g;omega) _ (λop c=>by obtain⟨e,_,rfl⟩:=Go.Conc.mem_ofEvents c;rfl)]
   exact n.above j (by simpa using g)
 . refine(z.mono K).app0 (λop c=>by obtain⟨e,_,rfl⟩:=Go.Conc.mem_ofEvents c;rfl) (λop c b B=>by obtain⟨e,he,rfl⟩:=Go.Conc.mem_ofEvents c;exact(o e he).1 b B) λop c=>by obtain⟨e,he,rfl⟩:=Go.Conc.mem_ofEvents c;exact(o e he).2
 . rw[Deaf_own,hd]
theorem b5.ended{aE:Nat->Prop}{gs:Array Goroutine}{a:Goroutine}{w:World}{t:Trace}{d:Nat}{m:Value->World->Prop}(F:b5 P aE gs a w t d)(h:∀k,∃v w' es,stepG P true a (w.at k)=.ended (.done v) w' es/\w.heap.size<=w'.heap.size/\(∀e∈es,mO aE w'.heap.size e)/\m v w')(sl:Option (Nat×Nat)): Ends P (Good P m) (crowd gs w sl) t:=by
 refine F.jY (λgs t sl I J k r u y hd G=>?_) sl;obtain⟨q,n⟩:=u;obtain⟨v,w',es,B,H,p,C⟩:=h k;have E:=runT_many_ended (P:=P) (sl:=I) (i:=0) r (show stepG P (0 == 0) a (w.at k)=_ from B);have o:ji aE w'.heap.size (t++MemOp.ofEvents 0 a.frame.fn a.frame.place es):=(y.mono H).app0 (λop c=>by obtain⟨e,_,rfl⟩:=Go.Conc.mem_ofEvents c;rfl) (λop c b z=>by obtain⟨e,he,rfl⟩:=Go.Conc.mem_ofEvents c;exact(p e he).1 b z) λop c=>by obtain⟨e,he,rfl⟩:=Go.Conc.mem_ofEvents c;exact(p e he).2
 refine Ends.ended (G.trans E) ⟨v,rfl,C,o.clean,o.over,⟨λx l=>?_,rfl⟩,λj x l f=>?_⟩
 . obtain⟨j,f⟩:=List.mem_iff_getElem?.1 l
   rw[List.getElem?_drop] at f;exact⟨_,(n.old (1+j) x (by omega) (by simpa [crowd] using f)).leaves⟩
 . have D:=n.old j x (by omega) l
   refine⟨q j,?_⟩;have e:(t++MemOp.ofEvents 0 a.frame.fn a.frame.place es).deaf j (t++MemOp.ofEvents 0 a.frame.fn a.frame.place es).size=Deaf t j:=
    Deaf_other t (g:=j) (g':=0) (by omega) _ (λop c=>by obtain⟨e,_,rfl⟩:=Go.Conc.mem_ofEvents c;rfl)
   rw[e];exact D.hears _
end
end Go.aN
namespace Go.aN
attribute [-simp] Go.Sem.runT_eq
open Go.Conc Go.ConcN
open Go.ConcM (OsLater)
section
structure ff(ρ ai:Ren)(v dc w aG:World): Prop where
 le:ρ.le ai
 new:∀b aA,ai.r b aA->ρ.r b aA\/w.heap.size<=aA
 size:w.heap.size<=aG.heap.size
 out:∀aA,aA<w.heap.size->(∀b,¬ ρ.r b aA)->aG.heap[aA]?=w.heap[aA]?
 guard:∀b aA,ρ.r b aA->hY v b->dc.heap[b]?=v.heap[b]?/\aG.heap[aA]?=w.heap[aA]?
 tape:aG.tape=w.tape
 output:aG.output=w.output
 os:OsLater w.os aG.os
theorem ff.refl(ρ:Ren)(v w:World): ff ρ ρ v v w w:=⟨Ren.le_refl ρ,λ_ _ h=>.inl h,Pk,λ_ _ _=>rfl,λ_ _ _ _=>⟨rfl,rfl⟩,rfl,rfl,OsLater.refl _⟩
theorem ff.trans{ρ ai aL:Ren}{v dc j w aG l:World}(h:ff ρ ai v dc w aG)(k:ff ai aL dc j aG l): ff ρ aL v j w l where
 le:=Ren.le_trans h.le k.le
 new b c x:=by
  rcases k.new b c x with y|y
  . exact h.new b c y
  . exact .inr (Po h.size y)
 size:=Po h.size k.size
 out c d i:=by
  rw[k.out c (Px d h.size) λb x=>?_,h.out c d i];rcases h.new b c x with y|y
  . exact i b y
  . omega
 guard b c d g:=by obtain⟨f,m⟩:=h.guard b c d g;obtain⟨o,n⟩:=k.guard b c (h.le.sub _ _ d) (g.of_eq f);exact⟨o.trans f,n.trans m⟩
 tape:=k.tape.trans h.tape
 output:=k.output.trans h.output
 os:=h.os.trans k.os
theorem ff.Jz{ρ ai:Ren}{v dc w aG:World}(h:Eff ρ ai v dc w aG): ff ρ ai v dc w aG:=
 ⟨h.le,λb c x=>(h.new b c x).imp id And.right,h.size,h.out,h.guard,h.tape,h.output,by rw[h.os];exact OsLater.refl _⟩
theorem ff.zp{ρ ai:Ren}{v dc w aG:World}{aL:Tape}{k:Nat}(h:Eff ρ ai (c9 v aL) dc (w.at k) aG): ff ρ ai v dc w aG:=by have f:=ff.Jz h;exact⟨f.le,f.new,f.size,f.out,f.guard,f.tape,f.output,f.os⟩
def lF(aE:Nat->Prop)(ρ:Ren): Prop:=∀b c,ρ.r b c->¬ aE c
variable{Q P:Program}{R:Value->World->Prop}{f0:FuncId}{K:fV Q P}{G:Machine->Outcome->World->Trace->Prop}
theorem An{aE:Nat->Prop}{ai:Ren}{v aG:World}{B:Nat}(o:lF aE ai)(g:∀b c,ai.r b c->c<B){e:Event}(h:fe ai v e): mO aE B e:=by
 cases h with
 | @cell b j h wr i n q=>
  refine⟨λx d l he p=>?_,g _ _ h⟩;have:x=⟨.cell j,wr,if i then .atomic else .plain⟩:=by cases wr<;>cases i<;>(cases d;rfl)
  subst this;cases he;exact absurd p (o _ _ h)
 | @obj b c h wr n=>
  refine⟨λx d l he=>?_,?_⟩
  . have:x.loc=.obj c:=by cases wr<;>(cases d;rfl)
    rw[this] at he;cases he
  . have:(MemAct.ofEvent ⟨.obj c,wr,false⟩)=.access ⟨.obj c,wr,false⟩:=by cases wr<;>rfl
    rw[this];exact g _ _ h
 | @mark m h=>
  refine⟨λx d=>?_,?_⟩
  . rcases h with rfl|⟨f,rfl⟩<;>cases d
  . rcases h with rfl|⟨f,rfl⟩<;>trivial
theorem z1{ai:Ren}{v:World}{es:Array Event}(h:∀e∈es,fe ai v e)(d:Nat): deafBehind d es=d:=by
 refine deafBehind_still (λe he=>?_) d;cases h e he with
 | cell=>exact⟨by simp,by simp⟩
 | obj=>exact⟨by simp,by simp⟩
 | mark h=>rcases h with rfl|⟨f,rfl⟩<;>exact⟨by simp,by simp⟩
structure lB(K:fV Q P)(f0:FuncId)(R:Value->World->Prop)(aE:Nat->Prop)(ρ:Ren)(V:cY)(bg:Frame)(cs' base:List Frame)(gs:Array Goroutine)(w:World)(t:Trace): Prop where
 going:en Q f0 R V
 self:Self Q V
 rel:lF aE ρ
 low:∀b,aE b->b<w.heap.size
 st:b5 P aE gs {frame:=bg,callers:=cs'++base,status:=.running,dying:=none} w t 0
end
section
variable{Q P:Program}{R:Value->World->Prop}{f0:FuncId}{K:fV Q P}{G:Machine->Outcome->World->Trace->Prop}
def zh(K:fV Q P)(f0:FuncId)(R:Value->World->Prop)(G:Machine->Outcome->World->Trace->Prop)(base:List Frame)(hX:Ren)(v0 aI:World)(Ok:(Nat->Prop)->Prop): Prop:=
 ∀aE ρ V bg cs' gs w t,Ok aE->lB K f0 R aE ρ V bg cs' base gs w t->vK K ρ V bg cs' w->ff hX ρ v0 V.w aI w->
  (∀dE c b6 f d bf w' a',Ok dE->ds Q b6 V->lB K f0 R dE c b6 f d base bf w' a'->lD K c b6 f d w'->ff hX c v0 b6.w aI w'->∀sl,Ends P G (crowd bf w' sl) a')->∀sl,Ends P G (crowd gs w sl) t
theorem lB.go(S:bK Q P)(eo:ey (eE (h5 Q)) Q Q)(H:ey (eE K) Q P)(au:∀f a b,¬ K.cJ f a b){base:List Frame}{hX:Ren}{v0 aI:World}{Ok:(Nat->Prop)->Prop}(spec:zh K f0 R G base hX v0 aI Ok)
 (ret:∀aE ρ V bg gs w t,Ok aE->en Q f0 R V->lF aE ρ->(∀b,aE b->b<w.heap.size)->ff hX ρ v0 V.w aI w->b5 P aE gs {frame:=bg,callers:=base,status:=.running,dying:=none} w t 0->bg.kind=.normal->bg.fn=f0->
  (∀k,∃v u ai dc aG es,R v dc/\aM ai v u/\stepG P true {frame:=bg,callers:=base,status:=.running,dying:=none} (w.at k)=GStep.after es (doReturn P true bg base none u aG)/\gb ai dc aG/\ff hX ai v0 dc aI aG/\lF aE ai/\
   w.heap.size<=aG.heap.size/\(∀e∈es,mO aE aG.heap.size e)/\deafBehind 0 es=0)->∀sl,Ends P G (crowd gs w sl) t)
 {aE:Nat->Prop} {ρ:Ren} {V:cY} {bg:Frame} {cs':List Frame} {gs:Array Goroutine} {w:World} {t:Trace} (q:Ok aE)
 (c:lB K f0 R aE ρ V bg cs' base gs w t) (g:lD K ρ V bg cs' w) (p:ff hX ρ v0 V.w aI w) (sl:Option (Nat×Nat)):Ends P G (crowd gs w sl) t:=by
 have key:∀V:cY,Acc (ds Q) V->∀aE ρ bg cs' gs w t,Ok aE->lB K f0 R aE ρ V bg cs' base gs w t->lD K ρ V bg cs' w->ff hX ρ v0 V.w aI w->∀sl,Ends P G (crowd gs w sl) t:=by
  intro V af;induction af with
  | intro V _ M=>
  intro aE ρ bg cs' gs w t q c g p sl;by_cases C:V.stop
  . obtain⟨_,_,_,_,_,_,_,ag,al,aj,_⟩:=xZ (base:=base) S c.going c.self g C true .running none
    subst ag;refine ret aE ρ V bg gs w t q c.going c.rel c.low p c.st al aj (λk=>?_) sl;have B:lD K ρ V bg [] (w.at k):=⟨g.fit,g.room,g.fr,g.cs,⟨g.heap.obj,g.heap.lim,g.heap.iI⟩⟩
    obtain⟨v,u,ai,aG,es,ad,r,_,_,_,D,l,L,n⟩:=xZ (base:=base) S c.going c.self B C true .running none;have hrel:lF aE ai:=λb i j m=>by
     rcases l.new b i j with x|⟨_,x⟩
     . exact c.rel b i x m
     . have:=c.low i m
       have e:(w.at k).heap.size=w.heap.size:=rfl;omega
    refine⟨v,u,ai,c9 V.w (gF V.w (w.at k)),aG,es,ad,r,D,L.hrel,p.trans (ff.zp l),hrel,l.size,λe he=>An (aG:=aG) hrel (λb i j=>(L.lt j).2) (n e he),z1 n 0⟩
  . refine c.st.step (λk=>?_) sl
    have B:lD K ρ V bg cs' (w.at k):=⟨g.fit,g.room,g.fr,g.cs,⟨g.heap.obj,g.heap.lim,g.heap.iI⟩⟩
    obtain⟨b6,ai,z,y,aG,es,D,r,aa,ae,l,n,J⟩:=BU (base:=base) S eo H c.going c.self B C (λ_ id ops az d k ax _ _ h=>au _ _ _ h) true .running none;have hrel:lF aE ai:=λb i j m=>by
     rcases l.new b i j with x|⟨_,x⟩
     . exact c.rel b i x m
     . have:=c.low i m
       have e:(w.at k).heap.size=w.heap.size:=rfl;omega
    have F:ff hX ai v0 b6.w aI aG:=p.trans (ff.zp l);have ak:gb ai b6.w aG:=by
     rcases J with h|h
     . exact h.heap
     . exact h.heap
    have ap:∀b i,ai.r b i->i<aG.heap.size:=λb i j=>by obtain⟨o,ay,_,Z,_⟩:=ak.obj b i j;exact bp Z
    refine⟨_,aG,es,D,rfl,l.size,λe he=>An (aG:=aG) hrel ap (n e he),λbf a' T E=>?_⟩;rw[z1 n] at E;have I:lB K f0 R aE ai b6 z y base bf aG a':=⟨aa,ae,hrel,λb j=>Px (c.low b j) l.size,E⟩
    rcases J with h|h
    . exact M b6 (.one r) aE ai z y bf aG a' q I h F T
    . refine spec aE ai b6 z y bf aG a' q I h F (λdE aw U X W Y w3 t3 aq ao am ar ah av=>?_) T
      exact M U (.more r ao) dE aw X W Y w3 t3 aq am ar ah av
 exact key V (ds.acc c.going.acc) aE ρ bg cs' gs w t q c g p sl
end
end Go.aN
namespace Go.aN
attribute [-simp] Go.Sem.runT_eq
open Go.Conc Go.ConcN
section
structure oU where
 cH:Nat
 h7:Loc->Prop
 g4:Loc->Prop
 jG:Addr
 bO:Loc->Nat
 mQ:Nat->Loc->Prop
 aE:Nat->Prop
 no:Nat
inductive oY where
 | fresh
 | written (g:Nat)
 | done
 deriving DecidableEq
variable(L:oU)
def Eh(a:Touch): Prop:=(∃c,a.loc=.cell c/\L.aE c.block)/\a.kind=.atomic
structure Started(t:Trace)(g:Nat): Prop where
 old:∀i a,i<L.cH->touchAt t i=some a->a.loc.isMemory=true->Knows t g i\/Eh L a
 ro:∀l,L.mQ g l->¬ L.h7 l->¬ L.g4 l->∀i a,touchAt t i=some a->a.loc=l->a.write=true->Knows t g i
def tn(t:Trace): oY->Prop
 | .fresh=>∀i a,L.cH<=i->touchAt t i=some a->¬ L.g4 a.loc
 | .written g=>∀i op a,L.cH<=i->t[i]?=some op->op.act.touch?=some a->L.g4 a.loc->op.g=g
 | .done=>∃p,LastWrite t L.jG p/\t.heard p/\∀i a,L.cH<=i->touchAt t i=some a->L.g4 a.loc->a.write=true->Before t i p
def hr(t:Trace)(g:Nat): Prop:=∀i a,touchAt t i=some a->L.g4 a.loc->a.write=true->Knows t g i
structure eF(t:Trace)(s:oY)(B:Nat): Prop where
 clean:∀said,¬ Race said t
 size:L.cH<=t.size
 gH:∀i a,L.cH<=i->touchAt t i=some a->L.h7 a.loc->a.kind≠.plain
 own:∀i op a,L.cH<=i->t[i]?=some op->op.act.touch?=some a->a.loc.isMemory=true->¬ L.h7 a.loc->¬ L.g4 a.loc->op.g=L.bO a.loc\/(a.write=false/\L.mQ op.g a.loc)
 cq:tn L t s
 seen:∀op∈t,op.act.low B
def tk(g:Nat)(b:Touch): Prop:=
 (L.h7 b.loc/\b.kind≠.plain)\/(¬ L.h7 b.loc/\¬ L.g4 b.loc/\L.bO b.loc=g/\(b.write=true->∀h,h≠g->¬ L.mQ h b.loc))\/(¬ L.h7 b.loc/\¬ L.g4 b.loc/\L.mQ g b.loc/\b.write=false)
structure oL:Prop where
 bB:∀l bk,l=.cell bk->L.aE bk.block->¬ L.h7 l/\¬ L.g4 l/\∀g,¬ L.mQ g l
 Cy:∀l bk,l=.cell bk->L.aE bk.block->L.bO l=L.no
 mF:∀l,L.g4 l->¬ L.h7 l
 vp:∀l,L.g4 l->l.isMemory=true
 yJ:∀l,L.h7 l->l.isMemory=true
variable{L}{t u:Trace}{s:oY}{B g:Nat}
theorem Started.app(h:Started L t g)(hu:∀op∈u,∀a,op.act.touch?=some a->a.write=true->L.mQ g a.loc->¬ L.h7 a.loc->¬ L.g4 a.loc->op.g=g)(w:L.cH<=t.size): Started L (t++u) g:=by
 refine⟨λi a j c hm=>?_,λl m d f i a c e n=>?_⟩
 . have:=h.old i a j (by rw[<-touchAt_old (u:=u) (by omega)];exact c) hm
   exact this.imp (·.app u) id
 . obtain⟨x,o,p⟩:=touch_of c
   rcases getElem?_append_cases o with ⟨j,q⟩|⟨_,r⟩
   . exact(h.ro l m d f i a (by rw[touchAt_of q];exact p) e n).app u
   . have:=knows_own o
     rw[hu x r a p n (e ▸ m) (e ▸ d) (e ▸ f)] at this;exact this
theorem hr.app(h:hr L t g)(hu:∀op∈u,∀a,op.act.touch?=some a->L.g4 a.loc->a.write=true->op.g=g): hr L (t++u) g:=by
 intro i a l c d;obtain⟨x,f,j⟩:=touch_of l;rcases getElem?_append_cases f with ⟨o,m⟩|⟨_,n⟩
 . exact(h i a (by rw[touchAt_of m];exact j) c d).app u
 . have:=knows_own f
   rw[hu x n a j c d] at this;exact this
theorem tn.app(h:tn L t s)(hu:∀op∈u,∀a,op.act.touch?=some a->L.g4 a.loc->(s=.written op.g\/(s=.done/\a.write=false)))(hd:∀op∈u,∀sync,op.act≠.access ⟨.cell L.jG,true,sync⟩): tn L (t++u) s:=by
 cases s with
 | fresh=>
  intro i a f d c;obtain⟨x,l,g⟩:=touch_of d;rcases getElem?_append_cases l with ⟨_,m⟩|⟨_,n⟩
  . exact h i a f (by rw[touchAt_of m];exact g) c
  . rcases hu x n a g c with k|⟨k,_⟩<;>cases k
 | written g'=>
  intro i op a f w d c;rcases getElem?_append_cases w with ⟨_,y⟩|⟨_,z⟩
  . exact h i op a f y d c
  . rcases hu op z a d c with k|⟨k,_⟩
    . cases k;rfl
    . cases k
 | done=>
  obtain⟨p,o,q,r⟩:=h;refine⟨p,o.app hd,(heard_old (lt_of_act? o.1)).2 q,λi a f d c j=>?_⟩;obtain⟨x,l,g⟩:=touch_of d;rcases getElem?_append_cases l with ⟨_,m⟩|⟨_,n⟩
  . exact(r i a f (by rw[touchAt_of m];exact g) c j).app u
  . rcases hu x n a g c with k|⟨_,k⟩
    . cases k
    . rw[k] at j;cases j
theorem eF.app(F:oL L)(U:g≠L.no)(h:eF L t s B)(K:Started L t g)(hu:∀op∈u,op.g=g)(G:∀op∈u,∀b,op.act.touch?=some b->b.loc.isMemory=true->tk L g b\/(L.g4 b.loc/\(s=.written g\/(s=.done/\b.write=false/\hr L t g))))(Y:∀op∈u,∀b,op.act.touch?=some b->b.kind=.said->L.h7 b.loc->∀i a,touchAt t i=some a->a.loc=b.loc->a.kind=.said->Knows t g i)(hd:∀op∈u,∀sync,op.act≠.access ⟨.cell L.jG,true,sync⟩)(T:∀op∈u,op.act.low B): eF L (t++u) s B:=by
 refine⟨λsaid=>noRace_append (h.clean said) hu λi a c op y b l D=>?_,Po h.size (by simp),λi a d c m=>?_,λi op a d E c hm j r=>?_,h.cq.app (λop y a c l=>?_) hd,seen_app h.seen T⟩
 ·
  have hm:b.loc.isMemory=true:=by rw[<-D.1];exact D.2.1
  have M:a.loc.isMemory=true:=D.2.1;obtain⟨e,_,hw,S⟩:=D;obtain⟨x,p,z⟩:=touch_of c;have old:i<L.cH->(∀f,b.loc=.cell f->L.aE f.block->False)->Knows t g i:=by
   intro d V;rcases K.old i a d c M with k|⟨⟨f,n,o⟩,_⟩
   . exact k
   . exact(V f (e ▸ n) o).elim
  rcases G op y b l hm with (⟨m,I⟩|⟨j,r,E,ae⟩|⟨j,r,X,w⟩)|⟨J,aa⟩
  ·
   by_cases d:i<L.cH
   . exact old d λf n o=>(F.bB _ f n o).1 m
   . have R:=h.gH i a (by omega) c (e ▸ m)
     rcases S with k|k|⟨_,C,q⟩
     . exact absurd k R
     . exact absurd k I
     . exact Y op y b l q m i a c e C
  ·
   by_cases d:i<L.cH
   . exact old d λf n o=>U (E.symm.trans (F.Cy _ f n o))
   . rcases h.own i x a (by omega) p z M (e ▸ j) (e ▸ r) with k|⟨C,q⟩
     . have:=knows_own p
       rw[k,e,E] at this;exact this
     . by_cases Q:x.g=g
       . have:=knows_own p
         rw[Q] at this;exact this
       . have w:b.write=true:=by
          rcases hw with hw|hw
          . rw[C] at hw;cases hw
          . exact hw
         exact absurd (e ▸ q) (ae w _ Q)
  ·
   have H:a.write=true:=hw.resolve_right (by simp[w]);exact K.ro b.loc X j r i a c e H
  ·
   by_cases d:i<L.cH
   . exact old d λf n o=>(F.bB _ f n o).2.1 J
   . rcases aa with rfl|⟨rfl,w,Z⟩
     . have:=h.cq i x a (by omega) p z (e ▸ J)
       have k:=knows_own p;rw[this] at k;exact k
     . have H:a.write=true:=hw.resolve_right (by simp[w])
       exact Z i a c (e ▸ J) H
 . obtain⟨x,p,z⟩:=touch_of c
   rcases getElem?_append_cases p with ⟨_,ad⟩|⟨_,af⟩
   . exact h.gH i a d (by rw[touchAt_of ad];exact z) m
   . rcases G x af a z (F.yJ _ m) with (⟨_,I⟩|⟨j,_⟩|⟨j,_⟩)|⟨l,_⟩
     . exact I
     . exact absurd m j
     . exact absurd m j
     . exact absurd m (F.mF _ l)
 . rcases getElem?_append_cases E with ⟨_,W⟩|⟨_,P⟩
   . exact h.own i op a d W c hm j r
   . rw[hu op P]
     rcases G op P a c hm with (⟨k,_⟩|⟨_,_,k,_⟩|⟨_,_,k,q⟩)|⟨k,_⟩
     . exact absurd k j
     . exact .inl k.symm
     . exact .inr ⟨q,k⟩
     . exact absurd k r
 . rcases G op y a c (F.vp _ l) with (⟨k,_⟩|⟨_,k,_⟩|⟨_,k,_⟩)|⟨_,k|⟨C,q,_⟩⟩
   . exact absurd k (F.mF _ l)
   . exact absurd l k
   . exact absurd l k
   . rw[hu op y];exact .inl k
   . exact .inr ⟨C,q⟩
end
section
variable{L:oU}{t u:Trace}{s:oY}{B ej g:Nat}
theorem last_at(t:Trace)(y:MemOp): (t++#[y])[t.size]?=some y:=by rw[Array.getElem?_append_right Pk];simp
theorem ui{t:Trace}{y:MemOp}(h:Deaf t y.g=0): (t++#[y]).heard t.size:=⟨y.g,by simp[Trace.g?,last_at],by rw[deaf_old Pk];exact h⟩
theorem eF.mono(h:eF L t s B)(c:B<=ej): eF L t s ej:=⟨h.clean,h.size,h.gH,h.own,h.cq,λop d=>MemAct.low_mono c (h.seen op d)⟩
theorem sx{u:Trace}(hu:∀op∈u,op.act.touch?=none){i:Nat}{a:Touch}(h:touchAt (t++u) i=some a): i<t.size/\touchAt t i=some a:=by
 obtain⟨x,f,c⟩:=touch_of h;rcases getElem?_append_cases f with ⟨d,g⟩|⟨_,j⟩
 . exact⟨d,by rw[touchAt_of g];exact c⟩
 . rw[hu x j] at c;cases c
theorem Jn{op:MemOp}(h:op.act.touch?=none)(a:Addr)(sync:Bool): op.act≠.access ⟨.cell a,true,sync⟩:=λe=>by rw[e] at h;cases h
theorem eF.one(h:eF L t s B)(y:MemOp)(u:y.act.touch?=none)(n:y.act.low B): eF L (t++#[y]) s B:=by
 have hu:∀op∈#[y],op.act.touch?=none:=by intro op c;simp at c;subst c;exact u
 refine⟨λsaid=>noRace_append (h.clean said) (g:=y.g) (λop c=>by simp at c;rw[c]) λi a _ op c b j _=>(by rw[hu op c] at j;cases j),Po h.size (by simp),λi a f d r=>h.gH i a f (sx hu d).2 r,
  λi op a f o d hm l m=>?_,h.cq.app (λop c a d=>by rw[hu op c] at d;cases d) (λop c=>Jn (hu op c) _),seen_app h.seen λop c=>by simp at c;subst c;exact n⟩
 rcases getElem?_append_cases o with ⟨_,p⟩|⟨_,q⟩
 . exact h.own i op a f p d hm l m
 . rw[hu op q] at d;cases d
theorem Started.one(h:Started L t g)(y:MemOp)(i:y.act.touch?=none)(f:L.cH<=t.size): Started L (t++#[y]) g:=h.app (λop d a c=>by simp at d;subst d;rw[i] at c;cases c) f
theorem hr.one(h:hr L t g)(y:MemOp)(f:y.act.touch?=none): hr L (t++#[y]) g:=h.app λop d a c=>by simp at d;subst d;rw[f] at c;cases c
theorem N5(t:Trace)(x y:MemOp): t++#[x,y]=(t++#[x])++#[y]:=by apply Array.ext';simp
theorem Started.LV(h:Started L t g)(c:L.cH<=t.size){x y:MemOp}{k:Nat}(d:x.g=0/\x.act=.go k)(f:y.g=k/\y.act=.start): Started L (t++#[x,y]) g:=by rw[N5];exact(h.one x (by rw[d.2];rfl) c).one y (by rw[f.2];rfl) (by simp;omega)
theorem Started.child(h:Started L t 0)(I:eF L t s B){x y:MemOp}{k:Nat}(j:x.g=0/\x.act=.go k)(m:y.g=k/\y.act=.start)(n:Deaf t 0=0)(o:Deaf t k=0)(F:oL L)(H:∀l,L.mQ k l->l.isMemory=true/\L.bO l=0/\∀h,h≠k->L.mQ h l->L.bO l=0): Started L (t++#[x,y]) k:=by
 have hu:∀op∈#[x,y],op.act.touch?=none:=by
  intro op G;have:op=x\/op=y:=by simpa using G
  rcases this with rfl|rfl
  . rw[j.2];rfl
  . rw[m.2];rfl
 refine⟨λi a g f hm=>?_,λl p C D i a f e J=>?_⟩
 . obtain⟨_,d⟩:=sx hu f
   exact(h.old i a g d hm).imp (fork_knows j m n o) id
 . obtain⟨_,d⟩:=sx hu f
   refine fork_knows j m n o ?_;obtain⟨hm,E,_⟩:=H l p;by_cases g:i<L.cH
   . rcases h.old i a g d (e ▸ hm) with c|⟨⟨r,u,w⟩,_⟩
     . exact c
     . exact absurd p ((F.bB l r (e ▸ u) w).2.2 k)
   . obtain⟨z,q,K⟩:=touch_of d
     rcases I.own i z a (by omega) q K (e ▸ hm) (e ▸ C) (e ▸ D) with c|⟨c,_⟩
     . have:=knows_own q
       rw[c,e,E] at this;exact this
     . rw[J] at c;cases c
theorem eF.begin(h:eF L t .fresh B)(g:Nat): eF L t (.written g) B:=⟨h.clean,h.size,h.gH,h.own,λi op a f j c d=>absurd d (h.cq i a f (by rw[touchAt_of j];exact c)),h.seen⟩
theorem eF.raise(F:oL L)(h:eF L t (.written g) B)(G:Started L t g){y:MemOp}(m:y.g=g/\y.act=.access ⟨.cell L.jG,true,true⟩)(hd:Deaf t g=0)(n:L.h7 (.cell L.jG))(J:L.jG.block<B): eF L (t++#[y]) .done B:=by
 have hu:∀op∈#[y],op=y:=by intro op j;simpa using j
 have R:y.act.touch?=some ⟨.cell L.jG,true,.atomic⟩:=by rw[m.2];rfl
 have hm:∀a,y.act.touch?=some a->a=⟨.cell L.jG,true,.atomic⟩:=λa c=>by rw[R] at c;exact(Pm c).symm
 refine⟨λsaid=>noRace_append (h.clean said) (g:=g) (λop j=>by rw[hu op j];exact m.1) λi a c op j b d E=>?_,Po h.size (by simp),λi a f c Q=>?_,λi op a f K c q p D=>?_,?_,seen_app h.seen λop j=>by rw[hu op j,m.2];exact J⟩
 . rw[hu op j] at d
   have d:=hm b d;subst d;obtain⟨e,q,_,H⟩:=E;have I:a.kind=.plain:=by
    rcases H with k|k|⟨_,_,k⟩
    . exact k
    . cases k
    . cases k
   by_cases f:i<L.cH
   . rcases G.old i a f c q with k|⟨⟨w,z,C⟩,_⟩
     . exact k
     . exact absurd n ((F.bB (.cell L.jG) w (e.symm.trans z) C).1)
   . exact absurd I (h.gH i a (by omega) c (e ▸ n))
 . obtain⟨x,r,l⟩:=touch_of c
   rcases getElem?_append_cases r with ⟨_,o⟩|⟨_,u⟩
   . exact h.gH i a f (by rw[touchAt_of o];exact l) Q
   . rw[hu x u] at l
     rw[hm a l];simp
 . rcases getElem?_append_cases K with ⟨_,M⟩|⟨_,P⟩
   . exact h.own i op a f M c q p D
   . rw[hu op P] at c
     rw[hm a c] at p;exact absurd n p
 . refine⟨t.size,LastWrite.new t L.jG m.2,ui (by rw[m.1];exact hd),λi a f c d S=>?_⟩
   obtain⟨x,r,l⟩:=touch_of c;rcases getElem?_append_cases r with ⟨_,o⟩|⟨_,u⟩
   . have k:=h.cq i x a f o l d
     have:=knows_own o;rw[k] at this;exact .inr (this.hb_new Pk (last_at t y) m.1)
   . rw[hu x u] at l
     rw[hm a l] at d;exact absurd n (F.mF _ d)
theorem eF.yg(F:oL L)(h:eF L t .done B)(E:Started L t g){y:MemOp}(c:y.g=g/\y.act=.access ⟨.cell L.jG,false,true⟩)(hd:Deaf t g=0)(P:L.h7 (.cell L.jG)): hr L (t++#[y]) g:=by
 obtain⟨p,d,z,C⟩:=h.cq;have j:=lt_of_act? d.1;have n:=last_at t y;have w:HappensBefore (t++#[y]) p t.size:=.single (.inr ⟨.atomic (a:=L.jG) j (by rw[act?_old j];exact d.1) (by rw[act?_of n,c.2]) (λk sync K M=>by rw[act?_old M];exact d.2 k sync K),(heard_old j).2 z,ui (by rw[c.1];exact hd)⟩);intro i a D f o;obtain⟨x,H,l⟩:=touch_of D;rcases getElem?_append_cases H with ⟨Q,I⟩|⟨_,J⟩
 . have m:touchAt t i=some a:=by rw[touchAt_of I];exact l
   by_cases G:i<L.cH
   . rcases E.old i a G m (F.vp _ f) with k|⟨⟨q,r,u⟩,_⟩
     . exact k.app _
     . exact absurd f ((F.bB _ q r u).2.1)
   . exact⟨t.size,y,n,c.1,.inr (((C i a (by omega) m f o).app #[y]).hb w)⟩
 . have:x=y:=by simpa using J
   rw[this,c.2] at l;cases l;cases o
theorem eF.writer(F:oL L)(h:eF L t (.written g) B)(n:Started L t g): hr L t g:=by
 intro i a d c q;by_cases o:i<L.cH
 . rcases n.old i a o d (F.vp _ c) with k|⟨⟨j,l,m⟩,_⟩
   . exact k
   . exact absurd c ((F.bB _ j l m).2.1)
 . obtain⟨x,f,p⟩:=touch_of d
   have k:=h.cq i x a (by omega) f p c;have:=knows_own f;rw[k] at this;exact this
def Told(L:oU)(W:Nat->Prop)(t:Trace)(g:Nat): Prop:=
 ∀i op a,L.cH<=i->t[i]?=some op->op.g=g->op.act.touch?=some a->a.loc.isMemory=true->Knows t 0 i\/((∃c,a.loc=.cell c/\W c.block)/\a.kind=.atomic/\¬ t.heard i)
theorem Told.app{W:Nat->Prop}(h:Told L W t g)(hu:∀j op a,u[j]?=some op->op.g=g->op.act.touch?=some a->a.loc.isMemory=true->(∃f,a.loc=.cell f/\W f.block)/\a.kind=.atomic/\¬ (t++u).heard (t.size+j)): Told L W (t++u) g:=by
 intro i op a o c m l hm;by_cases n:i<t.size
 . have d:t[i]?=some op:=by rw[<-getElem?_append_old (u:=u) n];exact c
   exact(h i op a o d m l hm).imp (·.app u) λ⟨p,q,r⟩=>⟨p,q,λk=>r ((heard_old n).1 k)⟩
 . have d:u[i-t.size]?=some op:=by rw[Array.getElem?_append_right (by omega)] at c;exact c
   have:=hu _ op a d m l hm;rw[show t.size+(i-t.size)=i by omega] at this;exact .inr this
theorem Told.other{W:Nat->Prop}(h:Told L W t g)(hu:∀op∈u,op.g=g->op.act.touch?=none): Told L W (t++u) g:=
 h.app λj op a f d c=>by rw[hu op (Array.mem_of_getElem? f) d] at c;cases c
theorem NR{W:Nat->Prop}{c k:Nat}{x y:MemOp}{v:Trace}{i1 i2:Nat}(d:v[i1]?=some x/\x.g=g/\x.act=.send c k)(f:v[i2]?=some y/\y.g=0/\y.act=.recvDone c k)(q:∀op∈v,op.act.touch?=none/\op.act≠.mark .disable/\op.act≠.mark .enable)(hd:Deaf t g=0)(B:Deaf t 0=0): Told L W (t++v) g:=by
 have o:∀(n:Nat) (h:Nat),n<=v.size->(t++v).deaf h (t.size+n)=Deaf t h:=by
  intro n h;induction n with
  | zero=>intro _;exact deaf_old Pk
  | succ n H=>
   intro J;have m:n<v.size:=by omega
   have G:(t++v)[t.size+n]?=some v[n]:=by rw[Array.getElem?_append_right (by omega)];simp[m]
   rw[show t.size+(n+1)=(t.size+n)+1 by omega,deaf_succ G,H (by omega)];have:=q v[n] (Array.getElem_mem m);unfold deafStep;split
   . rename_i e;exact absurd e this.2.1
   . rename_i e;exact absurd e this.2.2
   . rfl
 have j:(t++v)[t.size+i1]?=some x:=by rw[Array.getElem?_append_right (by omega)];simpa using d.1
 have l:(t++v)[t.size+i2]?=some y:=by rw[Array.getElem?_append_right (by omega)];simpa using f.1
 have K:=lt_size_of_getElem? d.1;have M:=lt_size_of_getElem? f.1;have r:(t++v).heard (t.size+i1):=⟨g,by simp[Trace.g?,j,d.2.1],by rw[o _ _ (by omega)];exact hd⟩
 have w:(t++v).heard (t.size+i2):=⟨0,by simp[Trace.g?,l,f.2.1],by rw[o _ _ (by omega)];exact B⟩
 have z:HappensBefore (t++v) (t.size+i1) (t.size+i2):=.single (.inr ⟨.handOver (by rw[act?_of j,d.2.2]) (by rw[act?_of l,f.2.2]),r,w⟩);intro i op a I D C p hm;refine .inl ?_;rcases getElem?_append_cases D with ⟨m,E⟩|⟨_,F⟩
 . have k:=knows_own E
   rw[C] at k;exact⟨_,y,l,f.2.1,.inr ((k.hb_new (u:=v) (by omega) j d.2.1).trans z)⟩
 . rw[(q op F).1] at p;cases p
def Shut(L:oU)(c:Nat)(t:Trace)(g:Nat): Prop:=∃p,t.act? p=some (.close c)/\t.heard p/\∀i op a,L.cH<=i->t[i]?=some op->op.g=g->op.act.touch?=some a->Before t i p
theorem LG{c:Nat}{y:MemOp}(d:y.g=g/\y.act=.close c)(hd:Deaf t g=0): Shut L c (t++#[y]) g:=by
 refine⟨t.size,by rw[act?_of (last_at t y),d.2],ui (by rw[d.1];exact hd),λi op a n j h f=>?_⟩;rcases getElem?_append_cases j with ⟨_,l⟩|⟨_,m⟩
 . have k:=knows_own l
   rw[h] at k;exact .inr (k.hb_new Pk (last_at t y) d.1)
 . have:op=y:=by simpa using m
   rw[this,d.2] at f;cases f
theorem Shut.app{c:Nat}(h:Shut L c t g)(hu:∀op∈u,op.g=g->op.act.touch?=none): Shut L c (t++u) g:=by
 obtain⟨p,f,m,n⟩:=h;have l:=lt_of_act? f;refine⟨p,by rw[act?_old l];exact f,(heard_old l).2 m,λi op a o q j d=>?_⟩;rcases getElem?_append_cases q with ⟨_,r⟩|⟨_,w⟩
 . exact(n i op a o r j d).app u
 . rw[hu op w j] at d;cases d
theorem Shut.told{W:Nat->Prop}{c:Nat}(h:Shut L c t g){y:MemOp}(d:y.g=0/\y.act=.recvClosed c)(o:Deaf t 0=0)(w:g≠0): Told L W (t++#[y]) g:=by
 obtain⟨p,j,q,r⟩:=h;have l:=lt_of_act? j;have m:=last_at t y;have n:HappensBefore (t++#[y]) p t.size:=.single (.inr ⟨.closed (by rw[act?_old l];exact j) (by rw[act?_of m,d.2]),(heard_old l).2 q,ui (by rw[d.1];exact o)⟩);intro i op a z B f u hm;rcases getElem?_append_cases B with ⟨_,C⟩|⟨_,D⟩
 . exact .inl ⟨t.size,y,m,d.1,.inr (((r i op a z C f u).app #[y]).hb n)⟩
 . have:op=y:=by simpa using D
   rw[this] at f;exact absurd (f.symm.trans d.1) w
theorem eF.qU{W:Nat->Prop}(h:eF L t s B)(F:Started L t 0)(G:∀(i:Nat) op,L.cH<=i->t[i]?=some op->op.g=0\/Told L W t op.g)(H:∀i g,i<L.cH->t.g? i=some g->g≠0->t.counts i->∃j,t.g? j=some 0/\HappensBefore t i j): ji (λb=>L.aE b\/W b) B t:=by
 have E:∀i op a,t[i]?=some op->op.act.touch?=some a->a.loc.isMemory=true->Knows t 0 i\/((∃c,a.loc=.cell c/\(L.aE c.block\/W c.block))/\a.kind=.atomic/\(i<L.cH\/¬ t.heard i)):=by
  intro i op a n d hm;by_cases f:i<L.cH
  . rcases F.old i a f (by rw[touchAt_of n];exact d) hm with k|⟨⟨c,o,p⟩,k⟩
    . exact .inl k
    . exact .inr ⟨⟨c,o,.inl p⟩,k,.inl f⟩
  . rcases G i op (by omega) n with k|k
    . have:=knows_own n
      rw[k] at this;exact .inl this
    . rcases k i op a (by omega) n rfl d hm with k|⟨⟨c,o,p⟩,m,k3⟩
      . exact .inl k
      . exact .inr ⟨⟨c,o,.inr p⟩,m,.inr k3⟩
 refine⟨h.clean,λi a d hm=>?_,λi g' r C y=>?_,h.seen⟩
 . obtain⟨x,l,u⟩:=touch_of d
   exact(E i x a l u hm).imp id λ⟨I,m,_⟩=>⟨I,m⟩
 . by_cases f:i<L.cH
   . exact H i g' f r C y
   . obtain⟨a,d,hm,U⟩:=y
     obtain⟨x,l,u⟩:=touch_of d;rcases E i x a l u hm with ⟨q,z,w,D,hb⟩|⟨_,m,k3⟩
     . refine⟨q,by simp[Trace.g?,w,D],?_⟩
       rcases hb with rfl|hb
       . rw[l] at w
         cases w;simp[Trace.g?,l] at r;exact absurd (r.symm.trans D) C
       . exact hb
     . rcases U with U|U
       . exact absurd m U
       . rcases k3 with k3|k3
         . exact absurd k3 f
         . exact absurd U k3
end
end Go.aN
