/- A part. -/
import Derived.Test.YtejkocoljbaioaaGreatDoorP3
import Derived.Conc.Beside
import Derived.Conc.MuSpec
import Derived.Conc.CrowdTrace
set_option maxHeartbeats 8000000
set_option maxRecDepth 100000
set_option linter.all false
namespace Go.aO
attribute [-simp] Go.Sem.runT_eq
open Go.Conc Go.ConcN
variable{gs:Array Goroutine}{a:Goroutine}{d:Nat}{aH:Nat->Prop}{t:Trace}{w:World}
section
variable{P:Program}{G:Machine->Outcome->World->Trace->Prop}
inductive Ends(P:Program)(G:Machine->Outcome->World->Trace->Prop):Machine->Trace->Prop
 |ended {m:Machine} {t:Trace} {o:Outcome} {w:World} {ops:Array MemOp} (h:stepT P m=(.ended o w,ops)) (g:G m o w (t++ops)):Ends P G m t
 |next {m dd:Machine} {t:Trace} {ops:Array MemOp} (h:stepT P m=(.next dd,ops)) (k:Ends P G dd (t++ops)):Ends P G m t
abbrev S7(P:Program)(G:Machine->Outcome->World->Trace->Prop)(gs:Array Goroutine)(u:World)(t:Trace):Prop:=∀sl,Ends P G (crowd gs u sl) t
def Ends.run{m:Machine}(h:Ends P G m t):∃n last o w bh,runNT P (n+1) m t=(.ended o w,bh)/\runN P n m=.next last/\step P last=.ended o w/\G last o w bh:=by
 induction h with
 |@ended m t o w ops c j=>exact⟨0,m,o,w,t++ops,by simp[runNT,c],rfl,by simp[step,c],j⟩
 |@next m dd t ops c _ l=>
  obtain⟨n,last,o,w,bh,d,f,g,i⟩:=l;exact⟨n+1,last,o,w,bh,by rw[runNT_succ_next c];exact d,by rw[runN_succ_next c];exact f,g,i⟩
structure kB(aH:Nat->Prop)(B:Nat)(t:Trace):Prop where
 clean:∀said,¬Race said t
 known:∀i a,touchAt t i=some a->a.loc.isMemory=true->Knows t 0 i\/((∃bO,a.loc=.cell bO/\aH bO.block)/\a.kind=.atomic)
 over:t.HandedOver
 seen:∀op∈t,op.act.low B
section
variable{aH:Nat->Prop}{B gX:Nat}{t u:Trace}
def kB.mono(h:kB aH B t)(c:B<=gX):kB aH gX t:=⟨h.clean,h.known,h.over,λop d=>MemAct.low_mono c (h.seen op d)⟩
def kB.app0(h:kB aH B t)(hu:∀op∈u,op.g=0)(w:∀op∈u,∀b,op.act.touch?=some b->∀bO,b.loc=.cell bO->aH bO.block->b.kind≠.plain)(r:∀op∈u,op.act.low B):kB aH B (t++u):=by
 refine⟨λsaid=>noRace_append (h.clean said) hu λi a c op f b l d=>?_,λi a c hm=>?_,handedOver_app h.over λop f=>.inl (hu op f),seen_app h.seen r⟩
 .rcases h.known i a c d.2.1 with o|⟨⟨bO,e,z⟩,p⟩
  .exact o
  .have q:=w op f b l bO (d.1 ▸ e) z
   obtain⟨_,_,_,g⟩:=d;rw[p]at g;rcases g with x|x|⟨_,x,_⟩
   .cases x
   .exact absurd x q
   .cases x
 .obtain⟨x,j,D⟩:=touch_of c
  rcases getElem?_append_cases j with⟨_,C⟩|⟨_,E⟩
  .exact(h.known i a (by rw[touchAt_of C];exact D) hm).imp (·.app u) id
  .have:=knows_own j
   rw[hu x E]at this;exact .inl this
def kB.appMute{g:Nat}(h:kB aH B t)(w:g≠0)(hu:∀op∈u,op.g=g)(c:∀op∈u,op.act.touch?=none)(o:∀op∈u,op.act.low B):kB aH B (t++u):=by
 refine⟨λsaid=>noRace_append (h.clean said) hu λi a _ op d b j _=>(by rw[c op d]at j;cases j),λi a l hm=>?_,handedOver_app h.over λop d=>.inr (c op d),seen_app h.seen o⟩;obtain⟨x,p,f⟩:=touch_of l;rcases getElem?_append_cases p with⟨_,q⟩|⟨_,r⟩
 .exact(h.known i a (by rw[touchAt_of q];exact f) hm).imp (·.app u) id
 .rw[c x r]at f;cases f
end
def ox(aH:Nat->Prop)(B:Nat)(e:Event):Prop:=(∀x,(MemAct.ofEvent e).touch?=some x->∀bO,x.loc=.cell bO->aH bO.block->x.kind≠.plain)/\(MemAct.ofEvent e).low B
structure cc(P:Program)(aH:Nat->Prop)(gs:Array Goroutine)(a:Goroutine)(w:World)(t:Trace)(d:Nat):Prop where
 main:gs[0]?=some a
 run:a.status=.running
 others:∃q,Leavers P t gs q
 sS:kB aH w.heap.size t
 deaf:Deaf t 0=d
def cc.lp(l:cc P aH gs a w t d)(h:∀bm bh sl E r k,bm[0]?=some a->(∃q,Leavers P bh bm q)->kB aH w.heap.size bh->Deaf bh 0=d->stepT P (crowd bm (w.at r) sl)=runT P (crowd bm (w.at k) E) 0->Ends P G (crowd bm (w.at r) sl) bh)(sl:Option (Nat×Nat)):Ends P G (crowd gs w sl) t:=by
 obtain⟨q,f⟩:=l.others;have key:∀(n:Nat) (gs:Array Goroutine) (aG:World) (t:Trace) (sl:Option (Nat×Nat)) (q:Nat->Nat),sumTo gs.size q<=n->(∃k,aG=w.at k)->gs[0]?=some a->Leavers P t gs q->kB aH w.heap.size t->Deaf t 0=d->Ends P G (crowd gs aG sl) t:=by
  intro n;induction n using Nat.strongRecOn with
  |_ n aa=>
  intro gs aG t sl q ad X u f I hd;have L:∀g∈gs,awake g:=by
   intro g o;obtain⟨i,p,rfl⟩:=Array.mem_iff_getElem.1 o;rcases Nat.eq_zero_or_pos i with rfl|hpos
   .have:gs[0]=a:=by simpa [fb p]using u
    rw[this];exact awake_of (.inl l.run)
   .exact awake_of ((f.old i _ hpos (fb p)).status.elim .inl λx=>.inr (.inr x))
  obtain⟨i,g,k,E,p,o,H⟩:=crowd_pick (P:=P) (w:=aG) (sl:=sl) L ⟨0,a,u,l.run⟩;obtain⟨r,rfl⟩:=X;have Y:(w.at r).at k=w.at k:=rfl;rw[Y]at H;rcases Nat.eq_zero_or_pos i with rfl|hpos
  .exact h gs t sl E r k u ⟨q,f⟩ I hd H
  ·
   have C:=f.old i g hpos p;have Q:(i == 0)=false:=cH;have J:i<gs.size:=(Array.getElem?_eq_some_iff.1 p).1;cases F:q i with
   |zero=>rw[F]at C;rw[C.1]at o;cases o
   |succ m=>
    rw[F]at C;rcases C with⟨M,_⟩|⟨_,g',es,hm,V,S⟩
    .rw[M]at o;cases o
    have T:=runT_crowd_go (P:=P) (sl:=E) (i:=i) p (by rw[Q];exact V (w.at k));have W:((gs.map (woken P g g' (w.at k))).setIfInBounds i g').size=gs.size:=aF;have ae:sumTo gs.size (upd q i m)+(m+1)=sumTo gs.size q+m:=by have:=sumTo_upd q m id J;simpa [F]using this
    refine Ends.next (H.trans T) (aa (sumTo gs.size (upd q i m)) U _ _ _ _ (upd q i m) (by rw[W];exact bg) ⟨k,rfl⟩ ?_ ⟨λj x z D=>?_,λj z=>?_⟩ ?_ ?_)
    .have R:i≠0:=U
     rw[h7 R,Array.getElem?_map,u];simp[woken_run l.run]
    .by_cases B:i=j
     .subst B
      rw[iO (by simpa using J)]at D;obtain rfl:=bD D;rw[upd_same,Deaf_own];exact S
     .rw[h7 B,Array.getElem?_map]at D
      obtain⟨y,Z,rfl⟩:=Option.map_eq_some_iff.1 D;have K:=f.old j y z Z;rw[woken_quitsD K,upd_ne q m (Ne.symm B),Deaf_other t B _ (λop c=>by obtain⟨e,_,rfl⟩:=Go.Conc.mem_ofEvents c;rfl)];exact K
    .rw[Deaf_other t (g':=i) (by simp at z;omega) _ (λop c=>by obtain⟨e,_,rfl⟩:=Go.Conc.mem_ofEvents c;rfl)]
     exact f.above j (by simpa using z)
    .exact I.appMute (g:=i) U (λop c=>by obtain⟨e,_,rfl⟩:=Go.Conc.mem_ofEvents c;rfl) (λop c=>by obtain⟨e,he,rfl⟩:=Go.Conc.mem_ofEvents c;exact touch_mute (hm e he)) λop c=>by obtain⟨e,he,rfl⟩:=Go.Conc.mem_ofEvents c;exact low_mute (hm e he) _
    .rw[Deaf_other t (g':=i) U _ (λop c=>by obtain⟨e,_,rfl⟩:=Go.Conc.mem_ofEvents c;rfl)]
     exact hd
 exact key _ gs w t sl q bg ⟨w.drawn,rfl⟩ l.main f l.sS l.deaf
def cc.step(K:cc P aH gs a w t d)(h:∀k,∃f w' es,stepG P true a (w.at k)=.go f w' es/\f.status=.running/\w.heap.size<=w'.heap.size/\(∀e∈es,ox aH w'.heap.size e)/\
  ∀bm bh l,cc P aH bm f w' bh (deafBehind d es)->Ends P G (crowd bm w' l) bh)(sl:Option (Nat×Nat)):Ends P G (crowd gs w sl) t:=by
 refine K.lp (λgs t sl l R k o B C hd L=>?_) sl;obtain⟨q,p⟩:=B;obtain⟨f,w',es,hgo,I,M,r,E⟩:=h k;have J:=runT_crowd_go (P:=P) (sl:=l) (i:=0) o (show stepG P (0 == 0) a (w.at k)=_ from hgo);have F:0<gs.size:=(Array.getElem?_eq_some_iff.1 o).1;refine Ends.next (L.trans J) (E _ _ _ ⟨by simp[F],I,⟨q,⟨λj x g z=>?_,λj g=>?_⟩⟩,?_,?_⟩)
 .have H:0≠j:=U
  rw[h7 H,Array.getElem?_map]at z;obtain⟨y,Q,rfl⟩:=Option.map_eq_some_iff.1 z;have u:=p.old j y g Q;rw[woken_quitsD u,Deaf_other t U _ (λop c=>by obtain⟨e,_,rfl⟩:=Go.Conc.mem_ofEvents c;rfl)];exact u
 .rw[Deaf_other t (g':=0) (by simp at g;omega) _ (λop c=>by obtain⟨e,_,rfl⟩:=Go.Conc.mem_ofEvents c;rfl)]
  exact p.above j (by simpa using g)
 .refine(C.mono M).app0 (λop c=>by obtain⟨e,_,rfl⟩:=Go.Conc.mem_ofEvents c;rfl) (λop c b D=>by obtain⟨e,he,rfl⟩:=Go.Conc.mem_ofEvents c;exact(r e he).1 b D) λop c=>by obtain⟨e,he,rfl⟩:=Go.Conc.mem_ofEvents c;exact(r e he).2
 .rw[Deaf_own,hd]
def cc.ended{aH:Nat->Prop}{gs:Array Goroutine}{a:Goroutine}{w:World}{t:Trace}{d:Nat}{o:Value->World->Prop}(I:cc P aH gs a w t d)(h:∀k,∃v w' es,stepG P true a (w.at k)=.ended (.done v) w' es/\w.heap.size<=w'.heap.size/\(∀e∈es,ox aH w'.heap.size e)/\o v w')(sl:Option (Nat×Nat)):Ends P (Good P o) (crowd gs w sl) t:=by
 refine I.lp (λgs t sl L M k z B C hd J=>?_) sl;obtain⟨q,p⟩:=B;obtain⟨v,w',es,E,K,u,F⟩:=h k;have H:=runT_many_ended (P:=P) (sl:=L) (i:=0) z (show stepG P (0 == 0) a (w.at k)=_ from E);have r:kB aH w'.heap.size (t++MemOp.ofEvents 0 a.frame.fn a.frame.place es):=(C.mono K).app0 (λop c=>by obtain⟨e,_,rfl⟩:=Go.Conc.mem_ofEvents c;rfl) (λop c b D=>by obtain⟨e,he,rfl⟩:=Go.Conc.mem_ofEvents c;exact(u e he).1 b D) λop c=>by obtain⟨e,he,rfl⟩:=Go.Conc.mem_ofEvents c;exact(u e he).2
 refine Ends.ended (J.trans H) ⟨v,rfl,F,r.clean,r.over,⟨λx l=>?_,rfl⟩,λj x l f=>?_⟩
 .obtain⟨j,f⟩:=List.mem_iff_getElem?.1 l
  rw[List.getElem?_drop]at f;exact⟨_,(p.old (1+j) x U (by simpa [crowd]using f)).leaves⟩
 .have G:=p.old j x U l
  refine⟨q j,?_⟩;have e:(t++MemOp.ofEvents 0 a.frame.fn a.frame.place es).deaf j (t++MemOp.ofEvents 0 a.frame.fn a.frame.place es).size=Deaf t j:=
   Deaf_other t (g:=j) (g':=0) U _ (λop c=>by obtain⟨e,_,rfl⟩:=Go.Conc.mem_ofEvents c;rfl)
  rw[e];exact G.hears _
end
end Go.aO
namespace Go.aO
attribute [-simp] Go.Sem.runT_eq
open Go.Conc Go.ConcN
open Go.ConcM (OsLater)
variable{aH:Nat->Prop}{ai ρ:Ren}{aG dI v w:World}
section
structure fQ(ρ ai:Ren)(v dI w aG:World):Prop where
 le:ρ.le ai
 new:∀b aE,ai.r b aE->ρ.r b aE\/w.heap.size<=aE
 size:w.heap.size<=aG.heap.size
 out:∀aE,aE<w.heap.size->(∀b,¬ρ.r b aE)->aG.heap[aE]?=w.heap[aE]?
 guard:∀b aE,ρ.r b aE->jk v b->dI.heap[b]?=v.heap[b]?/\aG.heap[aE]?=w.heap[aE]?
 tape:aG.tape=w.tape
 output:aG.output=w.output
 os:OsLater w.os aG.os
def fQ.refl(ρ:Ren)(v w:World):fQ ρ ρ v v w w:=⟨Ren.le_refl ρ,λ_ _ h=>.inl h,bg,λ_ _ _=>rfl,λ_ _ _ _=>⟨rfl,rfl⟩,rfl,rfl,OsLater.refl _⟩
def fQ.trans{aR:Ren}{j l:World}(h:fQ ρ ai v dI w aG)(k:fQ ai aR dI j aG l):fQ ρ aR v j w l where
 le:=Ren.le_trans h.le k.le
 new b c x:=by
  rcases k.new b c x with y|y
  .exact h.new b c y
  .exact .inr (cL h.size y)
 size:=cL h.size k.size
 out c d i:=by
  rw[k.out c (gu d h.size) λb x=>?_,h.out c d i];rcases h.new b c x with y|y
  .exact i b y
  .omega
 guard b c d g:=by obtain⟨f,o⟩:=h.guard b c d g;obtain⟨q,p⟩:=k.guard b c (h.le.sub _ _ d) (g.of_eq f);exact⟨q.trans f,p.trans o⟩
 tape:=k.tape.trans h.tape
 output:=k.output.trans h.output
 os:=h.os.trans k.os
def fQ.MJ(h:Eff ρ ai v dI w aG):fQ ρ ai v dI w aG:=
 ⟨h.le,λb c x=>(h.new b c x).imp id And.right,h.size,h.out,h.guard,h.tape,h.output,by rw[h.os];exact OsLater.refl _⟩
def fQ.BR{aR:Tape}{k:Nat}(h:Eff ρ ai (dM v aR) dI (w.at k) aG):fQ ρ ai v dI w aG:=by have f:=fQ.MJ h;exact⟨f.le,f.new,f.size,f.out,f.guard,f.tape,f.output,f.os⟩
def m4(aH:Nat->Prop)(ρ:Ren):Prop:=∀b c,ρ.r b c->¬aH c
variable{Q P:Program}{R:Value->World->Prop}{f0:FuncId}{K:g8 Q P}{G:Machine->Outcome->World->Trace->Prop}
def CV{aG:World}{B:Nat}(o:m4 aH ai)(g:∀b c,ai.r b c->c<B){e:Event}(h:fc ai v e):ox aH B e:=by
 cases h with
 |@cell b j h wr i l q=>
  refine⟨λx d bO he p=>?_,g _ _ h⟩;have:x=⟨.cell j,wr,if i then .atomic else .plain⟩:=by cases wr<;>cases i<;>(cases d;rfl)
  subst this;cases he;exact absurd p (o _ _ h)
 |@obj b c h wr l=>
  refine⟨λx d bO he=>?_,?_⟩
  .have:x.loc=.obj c:=by cases wr<;>(cases d;rfl)
   rw[this]at he;cases he
  .have:(MemAct.ofEvent ⟨.obj c,wr,false⟩)=.access ⟨.obj c,wr,false⟩:=by cases wr<;>rfl
   rw[this];exact g _ _ h
 |@mark m h=>
  refine⟨λx d=>?_,?_⟩
  .rcases h with rfl|⟨f,rfl⟩<;>cases d
  .rcases h with rfl|⟨f,rfl⟩<;>trivial
def CC{es:Array Event}(h:∀e∈es,fc ai v e)(d:Nat):deafBehind d es=d:=by
 refine deafBehind_still (λe he=>?_) d;cases h e he with
 |cell=>exact⟨aF,aF⟩
 |obj=>exact⟨aF,aF⟩
 |mark h=>rcases h with rfl|⟨f,rfl⟩<;>exact⟨aF,aF⟩
structure m0(K:g8 Q P)(f0:FuncId)(R:Value->World->Prop)(aH:Nat->Prop)(ρ:Ren)(V:dt)(bo:Frame)(cs' base:List Frame)(gs:Array Goroutine)(w:World)(t:Trace):Prop where
 going:e3 Q f0 R V
 self:Self Q V
 rel:m4 aH ρ
 low:∀b,aH b->b<w.heap.size
 st:cc P aH gs (S6 bo (cs'++base)) w t 0
end
section
variable{Q P:Program}{R:Value->World->Prop}{f0:FuncId}{K:g8 Q P}{G:Machine->Outcome->World->Trace->Prop}
def BL(K:g8 Q P)(f0:FuncId)(R:Value->World->Prop)(G:Machine->Outcome->World->Trace->Prop)(base:List Frame)(ie:Ren)(v0 aL:World)(Ok:(Nat->Prop)->Prop):Prop:=
 ∀aH ρ V bo cs' gs w t,Ok aH->m0 K f0 R aH ρ V bo cs' base gs w t->yl K ρ V bo cs' w->fQ ie ρ v0 V.w aL w->
  (∀en c b4 f d bm w' bh,Ok en->dZ Q b4 V->m0 K f0 R en c b4 f d base bm w' bh->m2 K c b4 f d w'->fQ ie c v0 b4.w aL w'->S7 P G bm w' bh)->S7 P G gs w t
def m0.go(S:Same Q P)(ek:fe (fj (jv Q)) Q Q)(H:fe (fj K) Q P)(aw:∀f a b,¬K.db f a b){base:List Frame}{ie:Ren}{v0 aL:World}{Ok:(Nat->Prop)->Prop}(spec:BL K f0 R G base ie v0 aL Ok)(ret:∀aH ρ V bo gs w t,Ok aH->e3 Q f0 R V->m4 aH ρ->(∀b,aH b->b<w.heap.size)->fQ ie ρ v0 V.w aL w->cc P aH gs (S6 bo base) w t 0->bo.kind=.normal->bo.fn=f0->
  (∀k,∃v z ai dI aG es,R v dI/\aQ ai v z/\stepG P true (S6 bo base) (w.at k)=GStep.after es (doReturn P true bo base none z aG)/\gm ai dI aG/\fQ ie ai v0 dI aL aG/\m4 aH ai/\
   w.heap.size<=aG.heap.size/\(∀e∈es,ox aH aG.heap.size e)/\deafBehind 0 es=0)->S7 P G gs w t){V:dt}{bo:Frame}{cs':List Frame}{gs:Array Goroutine}{t:Trace}(r:Ok aH)(c:m0 K f0 R aH ρ V bo cs' base gs w t)(hp:m2 K ρ V bo cs' w)(q:fQ ie ρ v0 V.w aL w)(sl:Option (Nat×Nat)):Ends P G (crowd gs w sl) t:=by
 have key:∀V:dt,Acc (dZ Q) V->∀aH ρ bo cs' gs w t,Ok aH->m0 K f0 R aH ρ V bo cs' base gs w t->m2 K ρ V bo cs' w->fQ ie ρ v0 V.w aL w->S7 P G gs w t:=by
  intro V ah;induction ah with
  |intro V _ U=>
  intro aH ρ bo cs' gs w t r c hp q sl;by_cases E:V.stop
  .obtain⟨_,_,_,_,_,_,_,aj,ao,al,_⟩:=Aj (base:=base) S c.going c.self hp E true .running none
   subst aj;refine ret aH ρ V bo gs w t r c.going c.rel c.low q c.st ao al (λk=>?_) sl;have D:m2 K ρ V bo [] (w.at k):=⟨hp.fit,hp.room,hp.fr,hp.cs,⟨hp.heap.obj,hp.heap.lim,hp.heap.js⟩⟩
   obtain⟨v,z,ai,aG,es,af,u,_,_,_,F,j,T,p⟩:=Aj (base:=base) S c.going c.self D E true .running none;have hrel:m4 aH ai:=λb g i l=>by
    rcases j.new b g i with x|⟨_,x⟩
    .exact c.rel b g x l
    .have:=c.low g l
     have e:(w.at k).heap.size=w.heap.size:=rfl;omega
   refine⟨v,z,ai,dM V.w (hU V.w (w.at k)),aG,es,af,u,F,T.hrel,q.trans (fQ.BR j),hrel,j.size,λe he=>CV (aG:=aG) hrel (λb g i=>(T.lt i).2) (p e he),CC p 0⟩
  .refine c.st.step (λk=>?_) sl
   have D:m2 K ρ V bo cs' (w.at k):=⟨hp.fit,hp.room,hp.fr,hp.cs,⟨hp.heap.obj,hp.heap.lim,hp.heap.js⟩⟩
   obtain⟨b4,ai,C,B,aG,es,F,u,ae,ag,j,p,M⟩:=EE (base:=base) S ek H c.going c.self D E (λ_ id ops aB d k az _ _ h=>aw _ _ _ h) true .running none;have hrel:m4 aH ai:=λb g i l=>by
    rcases j.new b g i with x|⟨_,x⟩
    .exact c.rel b g x l
    .have:=c.low g l
     have e:(w.at k).heap.size=w.heap.size:=rfl;omega
   have J:fQ ie ai v0 b4.w aL aG:=q.trans (fQ.BR j);have am:gm ai b4.w aG:=by
    rcases M with h|h
    .exact h.heap
    .exact h.heap
   have ar:∀b g,ai.r b g->g<aG.heap.size:=λb g i=>by obtain⟨o,aA,_,ad,_⟩:=am.obj b g i;exact bu ad
   refine⟨_,aG,es,F,rfl,j.size,λe he=>CV (aG:=aG) hrel ar (p e he),λbm bh W I=>?_⟩;rw[CC p]at I;have L:m0 K f0 R aH ai b4 C B base bm aG bh:=⟨ae,ag,hrel,λb i=>gu (c.low b i) j.size,I⟩
   rcases M with h|h
   .exact U b4 (.one u) aH ai C B bm aG bh r L h J W
   .refine spec aH ai b4 C B bm aG bh r L h J (λen ay X Z Y aa w3 t3 au aq ap av ak ax=>?_) W
    exact U X (.more u aq) en ay Z Y aa w3 t3 au ap av ak ax
 exact key V (dZ.acc c.going.acc) aH ρ bo cs' gs w t r c hp q sl
end
end Go.aO
namespace Go.aO
attribute [-simp] Go.Sem.runT_eq
open Go.Conc Go.ConcN
variable{x y:MemOp}{c k:Nat}{W:Nat->Prop}
section
structure qE where
 cT:Nat
 jy:Loc->Prop
 ik:Loc->Prop
 kX:Addr
 b1:Loc->Nat
 oy:Nat->Loc->Prop
 aH:Nat->Prop
 no:Nat
inductive qI where
 |fresh
 |written (g:Nat)
 |done
 deriving DecidableEq
variable(L:qE)
def Hr(a:Touch):Prop:=(∃bO,a.loc=.cell bO/\L.aH bO.block)/\a.kind=.atomic
structure Started(t:Trace)(g:Nat):Prop where
 old:∀i a,i<L.cT->touchAt t i=some a->a.loc.isMemory=true->Knows t g i\/Hr L a
 ro:∀l,L.oy g l->¬L.jy l->¬L.ik l->∀i a,touchAt t i=some a->a.loc=l->a.write=true->Knows t g i
def vx(t:Trace):qI->Prop
 |.fresh=>∀i a,L.cT<=i->touchAt t i=some a->¬L.ik a.loc
 |.written g=>∀i op a,L.cT<=i->t[i]?=some op->op.act.touch?=some a->L.ik a.loc->op.g=g
 |.done=>∃p,LastWrite t L.kX p/\t.heard p/\∀i a,L.cT<=i->touchAt t i=some a->L.ik a.loc->a.write=true->Before t i p
def iH(t:Trace)(g:Nat):Prop:=∀i a,touchAt t i=some a->L.ik a.loc->a.write=true->Knows t g i
structure fp(t:Trace)(s:qI)(B:Nat):Prop where
 clean:∀said,¬Race said t
 size:L.cT<=t.size
 hX:∀i a,L.cT<=i->touchAt t i=some a->L.jy a.loc->a.kind≠.plain
 own:∀i op a,L.cT<=i->t[i]?=some op->op.act.touch?=some a->a.loc.isMemory=true->¬L.jy a.loc->¬L.ik a.loc->op.g=L.b1 a.loc\/(a.write=false/\L.oy op.g a.loc)
 cz:vx L t s
 seen:∀op∈t,op.act.low B
def vu(g:Nat)(b:Touch):Prop:=
 (L.jy b.loc/\b.kind≠.plain)\/(¬L.jy b.loc/\¬L.ik b.loc/\L.b1 b.loc=g/\(b.write=true->∀h,h≠g->¬L.oy h b.loc))\/(¬L.jy b.loc/\¬L.ik b.loc/\L.oy g b.loc/\b.write=false)
structure qu:Prop where
 bK:∀l bO,l=.cell bO->L.aH bO.block->¬L.jy l/\¬L.ik l/\∀g,¬L.oy g l
 Fy:∀l bO,l=.cell bO->L.aH bO.block->L.b1 l=L.no
 oi:∀l,L.ik l->¬L.jy l
 x1:∀l,L.ik l->l.isMemory=true
 A7:∀l,L.jy l->l.isMemory=true
variable{L}{t u:Trace}{s:qI}{B g:Nat}
def Started.app(h:Started L t g)(hu:∀op∈u,∀a,op.act.touch?=some a->a.write=true->L.oy g a.loc->¬L.jy a.loc->¬L.ik a.loc->op.g=g)(B:L.cT<=t.size):Started L (t++u) g:=by
 refine⟨λi a j c hm=>?_,λl o d f i a c e p=>?_⟩
 .have:=h.old i a j (by rw[<-touchAt_old (u:=u) U];exact c) hm
  exact this.imp (·.app u) id
 .obtain⟨x,q,r⟩:=touch_of c
  rcases getElem?_append_cases q with⟨j,w⟩|⟨_,z⟩
  .exact(h.ro l o d f i a (by rw[touchAt_of w];exact r) e p).app u
  .have:=knows_own q
   rw[hu x z a r p (e ▸ o) (e ▸ d) (e ▸ f)]at this;exact this
def iH.app(h:iH L t g)(hu:∀op∈u,∀a,op.act.touch?=some a->L.ik a.loc->a.write=true->op.g=g):iH L (t++u) g:=by
 intro i a l c d;obtain⟨x,f,j⟩:=touch_of l;rcases getElem?_append_cases f with⟨q,o⟩|⟨_,p⟩
 .exact(h i a (by rw[touchAt_of o];exact j) c d).app u
 .have:=knows_own f
  rw[hu x p a j c d]at this;exact this
def vx.app(h:vx L t s)(hu:∀op∈u,∀a,op.act.touch?=some a->L.ik a.loc->(s=.written op.g\/(s=.done/\a.write=false)))(hd:∀op∈u,∀sync,op.act≠.access ⟨.cell L.kX,true,sync⟩):vx L (t++u) s:=by
 cases s with
 |fresh=>
  intro i a f d c;obtain⟨x,l,g⟩:=touch_of d;rcases getElem?_append_cases l with⟨_,o⟩|⟨_,q⟩
  .exact h i a f (by rw[touchAt_of o];exact g) c
  .rcases hu x q a g c with k|⟨k,_⟩<;>cases k
 |written g'=>
  intro i op a f B d c;rcases getElem?_append_cases B with⟨_,C⟩|⟨_,D⟩
  .exact h i op a f C d c
  .rcases hu op D a d c with k|⟨k,_⟩
   .cases k;rfl
   .cases k
 |done=>
  obtain⟨p,r,w,z⟩:=h;refine⟨p,r.app hd,(heard_old (lt_of_act? r.1)).2 w,λi a f d c j=>?_⟩;obtain⟨x,l,g⟩:=touch_of d;rcases getElem?_append_cases l with⟨_,o⟩|⟨_,q⟩
  .exact(z i a f (by rw[touchAt_of o];exact g) c j).app u
  .rcases hu x q a g c with k|⟨_,k⟩
   .cases k
   .rw[k]at j;cases j
def fp.app(F:qu L)(W:g≠L.no)(h:fp L t s B)(M:Started L t g)(hu:∀op∈u,op.g=g)(I:∀op∈u,∀b,op.act.touch?=some b->b.loc.isMemory=true->vu L g b\/(L.ik b.loc/\(s=.written g\/(s=.done/\b.write=false/\iH L t g))))(aa:∀op∈u,∀b,op.act.touch?=some b->b.kind=.said->L.jy b.loc->∀i a,touchAt t i=some a->a.loc=b.loc->a.kind=.said->Knows t g i)(hd:∀op∈u,∀sync,op.act≠.access ⟨.cell L.kX,true,sync⟩)(V:∀op∈u,op.act.low B):fp L (t++u) s B:=by
 refine⟨λsaid=>noRace_append (h.clean said) hu λi a c op C b j G=>?_,cL h.size aF,λi a d c l=>?_,λi op a d H c hm f w=>?_,h.cz.app (λop C a c j=>?_) hd,seen_app h.seen V⟩
 ·
  have hm:b.loc.isMemory=true:=by rw[<-G.1];exact G.2.1
  have P:a.loc.isMemory=true:=G.2.1;obtain⟨e,_,hw,T⟩:=G;obtain⟨x,q,D⟩:=touch_of c;have old:i<L.cT->(∀bO,b.loc=.cell bO->L.aH bO.block->False)->Knows t g i:=by
   intro d X;rcases M.old i a d c P with k|⟨⟨bO,o,p⟩,_⟩
   .exact k
   .exact(X bO (e ▸ o) p).elim
  rcases I op C b j hm with(⟨l,hp⟩|⟨f,w,H,ag⟩|⟨f,w,Z,z⟩)|⟨K,ae⟩
  ·
   by_cases d:i<L.cT
   .exact old d λbO o p=>(F.bK _ bO o p).1 l
   .have S:=h.hX i a U c (e ▸ l)
    rcases T with k|k|⟨_,E,r⟩
    .exact absurd k S
    .exact absurd k hp
    .exact aa op C b j r l i a c e E
  ·
   by_cases d:i<L.cT
   .exact old d λbO o p=>W (H.symm.trans (F.Fy _ bO o p))
   .rcases h.own i x a U q D P (e ▸ f) (e ▸ w)with k|⟨E,r⟩
    .have:=knows_own q
     rw[k,e,H]at this;exact this
    .by_cases R:x.g=g
     .have:=knows_own q
      rw[R]at this;exact this
     .have z:b.write=true:=by
       rcases hw with hw|hw
       .rw[E]at hw;cases hw
       .exact hw
      exact absurd (e ▸ r) (ag z _ R)
  ·
   have J:a.write=true:=hw.resolve_right (by simp[z]);exact M.ro b.loc Z f w i a c e J
  ·
   by_cases d:i<L.cT
   .exact old d λbO o p=>(F.bK _ bO o p).2.1 K
   .rcases ae with rfl|⟨rfl,z,ad⟩
    .have:=h.cz i x a U q D (e ▸ K)
     have k:=knows_own q;rw[this]at k;exact k
    .have J:a.write=true:=hw.resolve_right (by simp[z])
     exact ad i a c (e ▸ K) J
 .obtain⟨x,q,D⟩:=touch_of c
  rcases getElem?_append_cases q with⟨_,af⟩|⟨_,ah⟩
  .exact h.hX i a d (by rw[touchAt_of af];exact D) l
  .rcases I x ah a D (F.A7 _ l)with(⟨_,hp⟩|⟨f,_⟩|⟨f,_⟩)|⟨j,_⟩
   .exact hp
   .exact absurd l f
   .exact absurd l f
   .exact absurd l (F.oi _ j)
 .rcases getElem?_append_cases H with⟨_,Y⟩|⟨_,Q⟩
  .exact h.own i op a d Y c hm f w
  .rw[hu op Q]
   rcases I op Q a c hm with(⟨k,_⟩|⟨_,_,k,_⟩|⟨_,_,k,r⟩)|⟨k,_⟩
   .exact absurd k f
   .exact .inl k.symm
   .exact .inr ⟨r,k⟩
   .exact absurd k w
 .rcases I op C a c (F.x1 _ j)with(⟨k,_⟩|⟨_,k,_⟩|⟨_,k,_⟩)|⟨_,k|⟨E,r,_⟩⟩
  .exact absurd k (F.oi _ j)
  .exact absurd j k
  .exact absurd j k
  .rw[hu op C];exact .inl k
  .exact .inr ⟨E,r⟩
end
section
variable{L:qE}{t u:Trace}{s:qI}{B gX g:Nat}
def last_at(t:Trace)(y:MemOp):(t++#[y])[t.size]?=some y:=by rw[Array.getElem?_append_right bg];simp
def wF{t:Trace}(h:Deaf t y.g=0):(t++#[y]).heard t.size:=⟨y.g,by simp[Trace.g?,last_at],by rw[deaf_old bg];exact h⟩
def fp.mono(h:fp L t s B)(c:B<=gX):fp L t s gX:=⟨h.clean,h.size,h.hX,h.own,h.cz,λop d=>MemAct.low_mono c (h.seen op d)⟩
def uF{u:Trace}(hu:∀op∈u,op.act.touch?=none){i:Nat}{a:Touch}(h:touchAt (t++u) i=some a):i<t.size/\touchAt t i=some a:=by
 obtain⟨x,f,c⟩:=touch_of h;rcases getElem?_append_cases f with⟨d,g⟩|⟨_,j⟩
 .exact⟨d,by rw[touchAt_of g];exact c⟩
 .rw[hu x j]at c;cases c
def Mx{op:MemOp}(h:op.act.touch?=none)(a:Addr)(sync:Bool):op.act≠.access ⟨.cell a,true,sync⟩:=λe=>by rw[e]at h;cases h
def fp.one(h:fp L t s B)(y:MemOp)(z:y.act.touch?=none)(p:y.act.low B):fp L (t++#[y]) s B:=by
 have hu:∀op∈#[y],op.act.touch?=none:=by intro op c;simp at c;subst c;exact z
 refine⟨λsaid=>noRace_append (h.clean said) (g:=y.g) (λop c=>by simp at c;rw[c]) λi a _ op c b j _=>(by rw[hu op c]at j;cases j),cL h.size aF,λi a f d w=>h.hX i a f (uF hu d).2 w,
  λi op a f q d hm l o=>?_,h.cz.app (λop c a d=>by rw[hu op c]at d;cases d) (λop c=>Mx (hu op c) _),seen_app h.seen λop c=>by simp at c;subst c;exact p⟩
 rcases getElem?_append_cases q with⟨_,r⟩|⟨_,u⟩
 .exact h.own i op a f r d hm l o
 .rw[hu op u]at d;cases d
def Started.one(h:Started L t g)(y:MemOp)(i:y.act.touch?=none)(f:L.cT<=t.size):Started L (t++#[y]) g:=h.app (λop d a c=>by simp at d;subst d;rw[i]at c;cases c) f
def iH.one(h:iH L t g)(y:MemOp)(f:y.act.touch?=none):iH L (t++#[y]) g:=h.app λop d a c=>by simp at d;subst d;rw[f]at c;cases c
def Rs(t:Trace)(x y:MemOp):t++#[x,y]=(t++#[x])++#[y]:=by apply Array.ext';simp
def Started.Ph(h:Started L t g)(c:L.cT<=t.size)(d:x.g=0/\x.act=.go k)(f:y.g=k/\y.act=.start):Started L (t++#[x,y]) g:=by rw[Rs];exact(h.one x (by rw[d.2];rfl) c).one y (by rw[f.2];rfl) cH
def Started.child(h:Started L t 0)(J:fp L t s B)(j:x.g=0/\x.act=.go k)(o:y.g=k/\y.act=.start)(p:Deaf t 0=0)(q:Deaf t k=0)(F:qu L)(I:∀l,L.oy k l->l.isMemory=true/\L.b1 l=0/\∀h,h≠k->L.oy h l->L.b1 l=0):Started L (t++#[x,y]) k:=by
 have hu:∀op∈#[x,y],op.act.touch?=none:=by
  intro op H;have:op=x\/op=y:=by simpa using H
  rcases this with rfl|rfl
  .rw[j.2];rfl
  .rw[o.2];rfl
 refine⟨λi a g f hm=>?_,λl r D E i a f e K=>?_⟩
 .obtain⟨_,d⟩:=uF hu f
  exact(h.old i a g d hm).imp (fork_knows j o p q) id
 .obtain⟨_,d⟩:=uF hu f
  refine fork_knows j o p q ?_;obtain⟨hm,G,_⟩:=I l r;by_cases g:i<L.cT
  .rcases h.old i a g d (e ▸ hm)with c|⟨⟨bO,w,C⟩,_⟩
   .exact c
   .exact absurd r ((F.bK l bO (e ▸ w) C).2.2 k)
  .obtain⟨z,u,M⟩:=touch_of d
   rcases J.own i z a U u M (e ▸ hm) (e ▸ D) (e ▸ E)with c|⟨c,_⟩
   .have:=knows_own u
    rw[c,e,G]at this;exact this
   .rw[K]at c;cases c
def fp.begin(h:fp L t .fresh B)(g:Nat):fp L t (.written g) B:=⟨h.clean,h.size,h.hX,h.own,λi op a f j c d=>absurd d (h.cz i a f (by rw[touchAt_of j];exact c)),h.seen⟩
def fp.raise(F:qu L)(h:fp L t (.written g) B)(H:Started L t g)(o:y.g=g/\y.act=.access ⟨.cell L.kX,true,true⟩)(hd:Deaf t g=0)(p:L.jy (.cell L.kX))(K:L.kX.block<B):fp L (t++#[y]) .done B:=by
 have hu:∀op∈#[y],op=y:=by intro op j;simpa using j
 have S:y.act.touch?=some ⟨.cell L.kX,true,.atomic⟩:=by rw[o.2];rfl
 have hm:∀a,y.act.touch?=some a->a=⟨.cell L.kX,true,.atomic⟩:=λa c=>by rw[S]at c;exact(bD c).symm
 refine⟨λsaid=>noRace_append (h.clean said) (g:=g) (λop j=>by rw[hu op j];exact o.1) λi a c op j b d G=>?_,cL h.size aF,λi a f c R=>?_,λi op a f M c u r E=>?_,?_,seen_app h.seen λop j=>by rw[hu op j,o.2];exact K⟩
 .rw[hu op j]at d
  have d:=hm b d;subst d;obtain⟨e,u,_,I⟩:=G;have J:a.kind=.plain:=by
   rcases I with k|k|⟨_,_,k⟩
   .exact k
   .cases k
   .cases k
  by_cases f:i<L.cT
  .rcases H.old i a f c u with k|⟨⟨bO,C,D⟩,_⟩
   .exact k
   .exact absurd p ((F.bK (.cell L.kX) bO (e.symm.trans C) D).1)
  .exact absurd J (h.hX i a U c (e ▸ p))
 .obtain⟨x,w,l⟩:=touch_of c
  rcases getElem?_append_cases w with⟨_,q⟩|⟨_,z⟩
  .exact h.hX i a f (by rw[touchAt_of q];exact l) R
  .rw[hu x z]at l
   rw[hm a l];simp
 .rcases getElem?_append_cases M with⟨_,P⟩|⟨_,Q⟩
  .exact h.own i op a f P c u r E
  .rw[hu op Q]at c
   rw[hm a c]at r;exact absurd p r
 .refine⟨t.size,LastWrite.new t L.kX o.2,wF (by rw[o.1];exact hd),λi a f c d T=>?_⟩
  obtain⟨x,w,l⟩:=touch_of c;rcases getElem?_append_cases w with⟨_,q⟩|⟨_,z⟩
  .have k:=h.cz i x a f q l d
   have:=knows_own q;rw[k]at this;exact .inr (this.hb_new bg (last_at t y) o.1)
  .rw[hu x z]at l
   rw[hm a l]at d;exact absurd p (F.oi _ d)
def fp.AD(F:qu L)(h:fp L t .done B)(E:Started L t g)(c:y.g=g/\y.act=.access ⟨.cell L.kX,false,true⟩)(hd:Deaf t g=0)(P:L.jy (.cell L.kX)):iH L (t++#[y]) g:=by
 obtain⟨p,d,z,C⟩:=h.cz;have hp:=lt_of_act? d.1;have o:=last_at t y;have w:HappensBefore (t++#[y]) p t.size:=.single (.inr ⟨.atomic (a:=L.kX) hp (by rw[act?_old hp];exact d.1) (by rw[act?_of o,c.2]) (λk sync K M=>by rw[act?_old M];exact d.2 k sync K),(heard_old hp).2 z,wF (by rw[c.1];exact hd)⟩);intro i a D f q;obtain⟨x,H,j⟩:=touch_of D;rcases getElem?_append_cases H with⟨Q,I⟩|⟨_,J⟩
 .have l:touchAt t i=some a:=by rw[touchAt_of I];exact j
  by_cases G:i<L.cT
  .rcases E.old i a G l (F.x1 _ f)with k|⟨⟨bO,r,u⟩,_⟩
   .exact k.app _
   .exact absurd f ((F.bK _ bO r u).2.1)
  .exact⟨t.size,y,o,c.1,.inr (((C i a U l f q).app #[y]).hb w)⟩
 .have:x=y:=by simpa using J
  rw[this,c.2]at j;cases j;cases q
def fp.writer(F:qu L)(h:fp L t (.written g) B)(o:Started L t g):iH L t g:=by
 intro i a d c r;by_cases p:i<L.cT
 .rcases o.old i a p d (F.x1 _ c)with k|⟨⟨bO,j,l⟩,_⟩
  .exact k
  .exact absurd c ((F.bK _ bO j l).2.1)
 .obtain⟨x,f,q⟩:=touch_of d
  have k:=h.cz i x a U f q c;have:=knows_own f;rw[k]at this;exact this
def Told(L:qE)(W:Nat->Prop)(t:Trace)(g:Nat):Prop:=
 ∀i op a,L.cT<=i->t[i]?=some op->op.g=g->op.act.touch?=some a->a.loc.isMemory=true->Knows t 0 i\/((∃bO,a.loc=.cell bO/\W bO.block)/\a.kind=.atomic/\¬t.heard i)
def Told.app(h:Told L W t g)(hu:∀j op a,u[j]?=some op->op.g=g->op.act.touch?=some a->a.loc.isMemory=true->(∃bO,a.loc=.cell bO/\W bO.block)/\a.kind=.atomic/\¬(t++u).heard (t.size+j)):Told L W (t++u) g:=by
 intro i op a p c l f hm;by_cases o:i<t.size
 .have d:t[i]?=some op:=by rw[<-getElem?_append_old (u:=u) o];exact c
  exact(h i op a p d l f hm).imp (·.app u) λ⟨q,r,w⟩=>⟨q,r,λk=>w ((heard_old o).1 k)⟩
 .have d:u[i-t.size]?=some op:=by rw[Array.getElem?_append_right U]at c;exact c
  have:=hu _ op a d l f hm;rw[show t.size+(i-t.size)=i by omega]at this;exact .inr this
def Told.other(h:Told L W t g)(hu:∀op∈u,op.g=g->op.act.touch?=none):Told L W (t++u) g:=
 h.app λj op a f d c=>by rw[hu op (Array.mem_of_getElem? f) d]at c;cases c
def Rf{v:Trace}{i1 i2:Nat}(d:v[i1]?=some x/\x.g=g/\x.act=.send c k)(f:v[i2]?=some y/\y.g=0/\y.act=.recvDone c k)(r:∀op∈v,op.act.touch?=none/\op.act≠.mark .disable/\op.act≠.mark .enable)(hd:Deaf t g=0)(C:Deaf t 0=0):Told L W (t++v) g:=by
 have p:∀(n:Nat) (h:Nat),n<=v.size->(t++v).deaf h (t.size+n)=Deaf t h:=by
  intro n h;induction n with
  |zero=>intro _;exact deaf_old bg
  |succ n I=>
   intro K;have o:n<v.size:=U;have H:(t++v)[t.size+n]?=some v[n]:=by rw[Array.getElem?_append_right U];simp[o]
   rw[show t.size+(n+1)=(t.size+n)+1 by omega,deaf_succ H,I U];have:=r v[n] (Array.getElem_mem o);unfold deafStep;split
   .rename_i e;exact absurd e this.2.1
   .rename_i e;exact absurd e this.2.2
   .rfl
 have j:(t++v)[t.size+i1]?=some x:=by rw[Array.getElem?_append_right U];simpa using d.1
 have l:(t++v)[t.size+i2]?=some y:=by rw[Array.getElem?_append_right U];simpa using f.1
 have M:=lt_size_of_getElem? d.1;have P:=lt_size_of_getElem? f.1;have w:(t++v).heard (t.size+i1):=⟨g,by simp[Trace.g?,j,d.2.1],by rw[p _ _ U];exact hd⟩
 have z:(t++v).heard (t.size+i2):=⟨0,by simp[Trace.g?,l,f.2.1],by rw[p _ _ U];exact C⟩
 have B:HappensBefore (t++v) (t.size+i1) (t.size+i2):=.single (.inr ⟨.handOver (by rw[act?_of j,d.2.2]) (by rw[act?_of l,f.2.2]),w,z⟩);intro i op a J E D q hm;refine .inl ?_;rcases getElem?_append_cases E with⟨o,F⟩|⟨_,G⟩
 .have k:=knows_own F
  rw[D]at k;exact⟨_,y,l,f.2.1,.inr ((k.hb_new (u:=v) U j d.2.1).trans B)⟩
 .rw[(r op G).1]at q;cases q
def Shut(L:qE)(c:Nat)(t:Trace)(g:Nat):Prop:=∃p,t.act? p=some (.close c)/\t.heard p/\∀i op a,L.cT<=i->t[i]?=some op->op.g=g->op.act.touch?=some a->Before t i p
def O3(d:y.g=g/\y.act=.close c)(hd:Deaf t g=0):Shut L c (t++#[y]) g:=by
 refine⟨t.size,by rw[act?_of (last_at t y),d.2],wF (by rw[d.1];exact hd),λi op a p j h f=>?_⟩;rcases getElem?_append_cases j with⟨_,l⟩|⟨_,o⟩
 .have k:=knows_own l
  rw[h]at k;exact .inr (k.hb_new bg (last_at t y) d.1)
 .have:op=y:=by simpa using o
  rw[this,d.2]at f;cases f
def Shut.app(h:Shut L c t g)(hu:∀op∈u,op.g=g->op.act.touch?=none):Shut L c (t++u) g:=by
 obtain⟨p,f,l,o⟩:=h;have hp:=lt_of_act? f;refine⟨p,by rw[act?_old hp];exact f,(heard_old hp).2 l,λi op a q r j d=>?_⟩;rcases getElem?_append_cases r with⟨_,w⟩|⟨_,z⟩
 .exact(o i op a q w j d).app u
 .rw[hu op z j]at d;cases d
def Shut.told(h:Shut L c t g)(d:y.g=0/\y.act=.recvClosed c)(q:Deaf t 0=0)(z:g≠0):Told L W (t++#[y]) g:=by
 obtain⟨p,j,r,u⟩:=h;have hp:=lt_of_act? j;have l:=last_at t y;have o:HappensBefore (t++#[y]) p t.size:=.single (.inr ⟨.closed (by rw[act?_old hp];exact j) (by rw[act?_of l,d.2]),(heard_old hp).2 r,wF (by rw[d.1];exact q)⟩);intro i op a B C f w hm;rcases getElem?_append_cases C with⟨_,D⟩|⟨_,E⟩
 .exact .inl ⟨t.size,y,l,d.1,.inr (((u i op a B D f w).app #[y]).hb o)⟩
 .have:op=y:=by simpa using E
  rw[this]at f;exact absurd (f.symm.trans d.1) z
def fp.sS(h:fp L t s B)(H:Started L t 0)(I:∀(i:Nat) op,L.cT<=i->t[i]?=some op->op.g=0\/Told L W t op.g)(J:∀i g,i<L.cT->t.g? i=some g->g≠0->t.counts i->∃j,t.g? j=some 0/\HappensBefore t i j):kB (λb=>L.aH b\/W b) B t:=by
 have G:∀i op a,t[i]?=some op->op.act.touch?=some a->a.loc.isMemory=true->Knows t 0 i\/((∃bO,a.loc=.cell bO/\(L.aH bO.block\/W bO.block))/\a.kind=.atomic/\(i<L.cT\/¬t.heard i)):=by
  intro i op a o c hm;by_cases d:i<L.cT
  .rcases H.old i a d (by rw[touchAt_of o];exact c) hm with k|⟨⟨bO,p,r⟩,k⟩
   .exact .inl k
   .exact .inr ⟨⟨bO,p,.inl r⟩,k,.inl d⟩
  .rcases I i op U o with k|k
   .have:=knows_own o
    rw[k]at this;exact .inl this
   .rcases k i op a U o rfl c hm with k|⟨⟨bO,p,r⟩,l,k3⟩
    .exact .inl k
    .exact .inr ⟨⟨bO,p,.inr r⟩,l,.inr k3⟩
 refine⟨h.clean,λi a c hm=>?_,λi g' u E D=>?_,h.seen⟩
 .obtain⟨x,f,w⟩:=touch_of c
  exact(G i x a f w hm).imp id λ⟨K,l,_⟩=>⟨K,l⟩
 .by_cases d:i<L.cT
  .exact J i g' d u E D
  .obtain⟨a,c,hm,aa⟩:=D
   obtain⟨x,f,w⟩:=touch_of c;rcases G i x a f w hm with⟨q,z,C,F,hb⟩|⟨_,l,k3⟩
   .refine⟨q,by simp[Trace.g?,C,F],?_⟩
    rcases hb with rfl|hb
    .rw[f]at C
     cases C;simp[Trace.g?,f]at u;exact absurd (u.symm.trans F) E
    .exact hb
   .rcases aa with aa|aa
    .exact absurd l aa
    .rcases k3 with k3|k3
     .exact absurd k3 d
     .exact absurd aa k3
end
end Go.aO
