/- A part. -/
import Derived.Test.YtoebddanaobpaaaGreatDoorP3
import Derived.Conc.Beside
import Derived.Conc.MuSpec
import Derived.Conc.CrowdTrace
set_option maxHeartbeats 8000000
set_option maxRecDepth 100000
set_option linter.all false
namespace Go.aO
attribute [-simp] Go.Sem.runT_eq
open Go.Conc Go.ConcN
variable{d:Nat}{w:S7}{a:TC}{aH:TM}{gs:TR}{t:Tt}
section
variable{P:To}{G:TU->T0->S7->Tt->Prop}
inductive Ends(P:To)(G:TU->T0->S7->Tt->Prop):TU->Tt->Prop
 |ended {m:TU} {t:Tt} {o:T0} {w:S7} {ops:Tv MemOp} (h:stepT P m=(.ended o w,ops)) (g:G m o w (t++ops)):Ends P G m t
 |next {m dd:TU} {t:Tt} {ops:Tv MemOp} (h:stepT P m=(.next dd,ops)) (k:Ends P G dd (t++ops)):Ends P G m t
abbrev Tu(P:To)(G:TU->T0->S7->Tt->Prop)(gs:TR)(u:S7)(t:Tt):Prop:=∀sl,Ends P G (crowd gs u sl) t
def Ends.run{m:TU}(h:Ends P G m t):∃n last o w bh,runNT P (n+1) m t=(.ended o w,bh)/\runN P n m=.next last/\step P last=.ended o w/\G last o w bh:=by
 induction h with
 |@ended m t o w ops c j=>exact⟨0,m,o,w,t++ops,by simp[runNT,c],S6,by simp[step,c],j⟩
 |@next m dd t ops c _ l=>
  obtain⟨n,last,o,w,bh,d,f,g,i⟩:=l;exact⟨n+1,last,o,w,bh,by rw[runNT_succ_next c];exact d,by rw[runN_succ_next c];exact f,g,i⟩
structure kB(aH:TM)(B:Nat)(t:Tt):Prop where
 clean:∀said,¬Race said t
 known:∀i a,touchAt t i=some a->a.loc.isMemory=true->Knows t 0 i\/((∃bO,a.loc=.cell bO/\aH bO.block)/\a.kind=.atomic)
 over:t.HandedOver
 seen:∀op∈t,op.act.low B
section
variable{aH:TM}{B gX:Nat}{t u:Tt}
def kB.mono(h:kB aH B t)(c:B<=gX):kB aH gX t:=⟨h.clean,h.known,h.over,λop d=>MemAct.low_mono c (h.seen op d)⟩
def kB.app0(h:kB aH B t)(hu:∀op∈u,op.g=0)(q:∀op∈u,∀b,op.act.touch?=some b->∀bO,b.loc=.cell bO->aH bO.block->b.kind≠.plain)(p:∀op∈u,op.act.low B):kB aH B (t++u):=by
 refine⟨λsaid=>noRace_append (h.clean said) hu λi a c op f b l d=>?_,λi a c hm=>?_,handedOver_app h.over λop f=>.inl (hu op f),seen_app h.seen p⟩
 .rcases h.known i a c d.2.1 with m|⟨⟨bO,e,r⟩,n⟩
  .exact m
  .have o:=q op f b l bO (d.1 ▸ e) r
   obtain⟨_,_,_,g⟩:=d;rw[n]at g;rcases g with x|x|⟨_,x,_⟩
   .cases x
   .exact Td x o
   .cases x
 .let⟨x,j,y⟩:=touch_of c
  rcases getElem?_append_cases j with⟨_,w⟩|⟨_,z⟩
  .exact(h.known i a (by rw[touchAt_of w];exact y) hm).imp (·.app u) id
  .have:=knows_own j
   rw[hu x z]at this;exact .inl this
def kB.appMute{g:Nat}(h:kB aH B t)(q:g≠0)(hu:∀op∈u,op.g=g)(c:∀op∈u,op.act.touch?=none)(m:∀op∈u,op.act.low B):kB aH B (t++u):=by
 refine⟨λsaid=>noRace_append (h.clean said) hu λi a _ op d b j _=>(by rw[c op d]at j;cases j),λi a l hm=>?_,handedOver_app h.over λop d=>.inr (c op d),seen_app h.seen m⟩;let⟨x,n,f⟩:=touch_of l;rcases getElem?_append_cases n with⟨_,o⟩|⟨_,p⟩
 .exact(h.known i a (by rw[touchAt_of o];exact f) hm).imp (·.app u) id
 .rw[c x p]at f;cases f
end
def ox(aH:TM)(B:Nat)(e:TL):Prop:=(∀x,(MemAct.ofEvent e).touch?=some x->∀bO,x.loc=.cell bO->aH bO.block->x.kind≠.plain)/\(MemAct.ofEvent e).low B
structure cc(P:To)(aH:TM)(gs:TR)(a:TC)(w:S7)(t:Tt)(d:Nat):Prop where
 main:gs[0]?=some a
 run:a.status=.running
 others:∃q,Leavers P t gs q
 sS:kB aH w.heap.size t
 deaf:Deaf t 0=d
def cc.lp(l:cc P aH gs a w t d)(h:∀bm bh sl E r k,bm[0]?=some a->(∃q,Leavers P bh bm q)->kB aH w.heap.size bh->Deaf bh 0=d->stepT P (crowd bm (w.at r) sl)=runT P (crowd bm (w.at k) E) 0->Ends P G (crowd bm (w.at r) sl) bh)(sl:T8):Ends P G (crowd gs w sl) t:=by
 let⟨q,f⟩:=l.others;have key:∀(n:Nat) (gs:TR) (aG:S7) (t:Tt) (sl:T8) (q:T2),sumTo gs.size q<=n->(∃k,aG=w.at k)->gs[0]?=some a->Leavers P t gs q->kB aH w.heap.size t->Deaf t 0=d->Ends P G (crowd gs aG sl) t:=by
  intro n;induction n using Nat.strongRecOn with
  |_ n aa=>
  intro gs aG t sl q ad X u f I hd;have L:∀g∈gs,awake g:=by
   intro g o;obtain⟨i,p,rfl⟩:=Array.mem_iff_getElem.1 o;rcases Uq i with rfl|hpos
   .have:gs[0]=a:=by simpa [fb p]using u
    rw[this];exact awake_of (.inl l.run)
   .exact awake_of ((f.old i _ hpos (fb p)).status.elim .inl λx=>.inr (.inr x))
  let⟨i,g,k,E,p,o,H⟩:=crowd_pick (P:=P) (w:=aG) (sl:=sl) L ⟨0,a,u,l.run⟩;obtain⟨r,rfl⟩:=X;have Y:(w.at r).at k=w.at k:=S6;rw[Y]at H;rcases Uq i with rfl|hpos
  .exact h gs t sl E r k u ⟨q,f⟩ I hd H
  ·
   have C:=f.old i g hpos p;have Q:(i == 0)=false:=cH;have J:i<gs.size:=(Array.getElem?_eq_some_iff.1 p).1;cases F:q i with
   |zero=>rw[F]at C;rw[C.1]at o;cases o
   |succ m=>
    rw[F]at C;rcases C with⟨M,_⟩|⟨_,g',es,hm,V,S⟩
    .rw[M]at o;cases o
    have T:=runT_crowd_go (P:=P) (sl:=E) (i:=i) p (by rw[Q];exact V (w.at k));have W:((gs.map (woken P g g' (w.at k))).setIfInBounds i g').size=gs.size:=aF;have ae:sumTo gs.size (upd q i m)+(m+1)=sumTo gs.size q+m:=by have:=sumTo_upd q m id J;simpa [F]using this
    refine Ends.next (H.trans T) (aa (sumTo gs.size (upd q i m)) U _ _ _ _ (upd q i m) (by rw[W];exact bg) ⟨k,S6⟩ ?_ ⟨λj x z D=>?_,λj z=>?_⟩ ?_ ?_)
    .have R:i≠0:=U
     rw[h7 R,Uk,u];simp[woken_run l.run]
    .by_cases B:i=j
     .subst B
      rw[iO (by simpa using J)]at D;obtain rfl:=bD D;rw[upd_same,Deaf_own];exact S
     .rw[h7 B,Uk]at D
      obtain⟨y,Z,rfl⟩:=Option.map_eq_some_iff.1 D;have K:=f.old j y z Z;rw[woken_quitsD K,upd_ne q m (TT B),Deaf_other t B _ (λop c=>by obtain⟨e,_,rfl⟩:=Go.Conc.mem_ofEvents c;rfl)];exact K
    .rw[Deaf_other t (g':=i) (by simp at z;omega) _ (λop c=>by obtain⟨e,_,rfl⟩:=Go.Conc.mem_ofEvents c;rfl)]
     exact f.above j (by simpa using z)
    .exact I.appMute (g:=i) U (λop c=>by obtain⟨e,_,rfl⟩:=Go.Conc.mem_ofEvents c;rfl) (λop c=>by obtain⟨e,he,rfl⟩:=Go.Conc.mem_ofEvents c;exact touch_mute (hm e he)) λop c=>by obtain⟨e,he,rfl⟩:=Go.Conc.mem_ofEvents c;exact low_mute (hm e he) _
    .rw[Deaf_other t (g':=i) U _ (λop c=>by obtain⟨e,_,rfl⟩:=Go.Conc.mem_ofEvents c;rfl)]
     exact hd
 exact key _ gs w t sl q bg ⟨w.drawn,S6⟩ l.main f l.sS l.deaf
def cc.step(I:cc P aH gs a w t d)(h:∀k,∃f w' es,stepG P true a (w.at k)=.go f w' es/\f.status=.running/\w.heap.size<=w'.heap.size/\(∀e∈es,ox aH w'.heap.size e)/\
  ∀bm bh l,cc P aH bm f w' bh (deafBehind d es)->Ends P G (crowd bm w' l) bh)(sl:T8):Ends P G (crowd gs w sl) t:=by
 refine I.lp (λgs t sl l M k m u z hd J=>?_) sl;obtain⟨q,n⟩:=u;let⟨f,w',es,hgo,F,K,o,C⟩:=h k;have H:=runT_crowd_go (P:=P) (sl:=l) (i:=0) m (show stepG P (0 == 0) a (w.at k)=_ from hgo);have D:0<gs.size:=(Array.getElem?_eq_some_iff.1 m).1;refine Ends.next (J.trans H) (C _ _ _ ⟨by simp[D],F,⟨q,⟨λj x g r=>?_,λj g=>?_⟩⟩,?_,?_⟩)
 .have E:0≠j:=U
  rw[h7 E,Uk]at r;obtain⟨y,L,rfl⟩:=Option.map_eq_some_iff.1 r;have p:=n.old j y g L;rw[woken_quitsD p,Deaf_other t U _ (λop c=>by obtain⟨e,_,rfl⟩:=Go.Conc.mem_ofEvents c;rfl)];exact p
 .rw[Deaf_other t (g':=0) (by simp at g;omega) _ (λop c=>by obtain⟨e,_,rfl⟩:=Go.Conc.mem_ofEvents c;rfl)]
  exact n.above j (by simpa using g)
 .refine(z.mono K).app0 (λop c=>by obtain⟨e,_,rfl⟩:=Go.Conc.mem_ofEvents c;rfl) (λop c b B=>by obtain⟨e,he,rfl⟩:=Go.Conc.mem_ofEvents c;exact(o e he).1 b B) λop c=>by obtain⟨e,he,rfl⟩:=Go.Conc.mem_ofEvents c;exact(o e he).2
 .rw[Deaf_own,hd]
def cc.ended{aH:TM}{gs:TR}{a:TC}{w:S7}{t:Tt}{d:Nat}{m:S9->S7->Prop}(F:cc P aH gs a w t d)(h:∀k,∃v w' es,stepG P true a (w.at k)=.ended (.done v) w' es/\w.heap.size<=w'.heap.size/\(∀e∈es,ox aH w'.heap.size e)/\m v w')(sl:T8):Ends P (Good P m) (crowd gs w sl) t:=by
 refine F.lp (λgs t sl I J k r u y hd G=>?_) sl;obtain⟨q,n⟩:=u;let⟨v,w',es,B,H,p,C⟩:=h k;have E:=runT_many_ended (P:=P) (sl:=I) (i:=0) r (show stepG P (0 == 0) a (w.at k)=_ from B);have o:kB aH w'.heap.size (t++MemOp.ofEvents 0 a.frame.fn a.frame.place es):=(y.mono H).app0 (λop c=>by obtain⟨e,_,rfl⟩:=Go.Conc.mem_ofEvents c;rfl) (λop c b z=>by obtain⟨e,he,rfl⟩:=Go.Conc.mem_ofEvents c;exact(p e he).1 b z) λop c=>by obtain⟨e,he,rfl⟩:=Go.Conc.mem_ofEvents c;exact(p e he).2
 refine Ends.ended (G.trans E) ⟨v,S6,C,o.clean,o.over,⟨λx l=>?_,S6⟩,λj x l f=>?_⟩
 .let⟨j,f⟩:=List.mem_iff_getElem?.1 l
  rw[List.getElem?_drop]at f;exact⟨_,(n.old (1+j) x U (by simpa [crowd]using f)).leaves⟩
 .have D:=n.old j x U l
  refine⟨q j,?_⟩;have e:(t++MemOp.ofEvents 0 a.frame.fn a.frame.place es).deaf j (t++MemOp.ofEvents 0 a.frame.fn a.frame.place es).size=Deaf t j:=
   Deaf_other t (g:=j) (g':=0) U _ (λop c=>by obtain⟨e,_,rfl⟩:=Go.Conc.mem_ofEvents c;rfl)
  rw[e];exact D.hears _
end
end Go.aO
namespace Go.aO
attribute [-simp] Go.Sem.runT_eq
open Go.Conc Go.ConcN
open Go.ConcM (OsLater)
variable{ai ρ:Ren}{aG dI v w:S7}{aH:TM}
section
structure fQ(ρ ai:Ren)(v dI w aG:S7):Prop where
 le:ρ.le ai
 new:∀b aE,ai.r b aE->ρ.r b aE\/w.heap.size<=aE
 size:w.heap.size<=aG.heap.size
 out:∀aE,aE<w.heap.size->(∀b,¬ρ.r b aE)->aG.heap[aE]?=w.heap[aE]?
 guard:∀b aE,ρ.r b aE->jk v b->dI.heap[b]?=v.heap[b]?/\aG.heap[aE]?=w.heap[aE]?
 tape:aG.tape=w.tape
 output:aG.output=w.output
 os:OsLater w.os aG.os
def fQ.refl(ρ:Ren)(v w:S7):fQ ρ ρ v v w w:=⟨Ren.le_refl ρ,λ_ _ h=>.inl h,bg,λ_ _ _=>S6,λ_ _ _ _=>⟨S6,S6⟩,S6,S6,OsLater.refl _⟩
def fQ.trans{aR:Ren}{j l:S7}(h:fQ ρ ai v dI w aG)(k:fQ ai aR dI j aG l):fQ ρ aR v j w l where
 le:=Ren.le_trans h.le k.le
 new b c x:=by
  rcases k.new b c x with y|y
  .exact h.new b c y
  .exact .inr (cL h.size y)
 size:=cL h.size k.size
 out c d i:=by
  rw[k.out c (gu d h.size) λb x=>?_,h.out c d i];rcases h.new b c x with y|y
  .exact i b y
  .omega
 guard b c d g:=by let⟨f,m⟩:=h.guard b c d g;let⟨o,n⟩:=k.guard b c (h.le.sub _ _ d) (g.of_eq f);exact⟨o.trans f,n.trans m⟩
 tape:=k.tape.trans h.tape
 output:=k.output.trans h.output
 os:=h.os.trans k.os
def fQ.MJ(h:Eff ρ ai v dI w aG):fQ ρ ai v dI w aG:=
 ⟨h.le,λb c x=>(h.new b c x).imp id And.right,h.size,h.out,h.guard,h.tape,h.output,by rw[h.os];exact OsLater.refl _⟩
def fQ.BR{aR:Tape}{k:Nat}(h:Eff ρ ai (dM v aR) dI (w.at k) aG):fQ ρ ai v dI w aG:=by have f:=fQ.MJ h;exact⟨f.le,f.new,f.size,f.out,f.guard,f.tape,f.output,f.os⟩
def m4(aH:TM)(ρ:Ren):Prop:=∀b c,ρ.r b c->¬aH c
variable{Q P:To}{R:S9->S7->Prop}{f0:Tw}{K:g8 Q P}{G:TU->T0->S7->Tt->Prop}
def CV{aG:S7}{B:Nat}(n:m4 aH ai)(g:∀b c,ai.r b c->c<B){e:TL}(h:fc ai v e):ox aH B e:=by
 cases h with
 |@cell b j h wr i l p=>
  refine⟨λx d bO he o=>?_,g _ _ h⟩;have:x=⟨.cell j,wr,if i then .atomic else .plain⟩:=by cases wr<;>cases i<;>(cases d;rfl)
  subst this;cases he;exact Td o (n _ _ h)
 |@obj b c h wr l=>
  refine⟨λx d bO he=>?_,?_⟩
  .have:x.loc=.obj c:=by cases wr<;>(cases d;rfl)
   rw[this]at he;cases he
  .have:(MemAct.ofEvent ⟨.obj c,wr,false⟩)=.access ⟨.obj c,wr,false⟩:=by cases wr<;>rfl
   rw[this];exact g _ _ h
 |@mark m h=>
  refine⟨λx d=>?_,?_⟩
  .rcases h with rfl|⟨f,rfl⟩<;>cases d
  .rcases h with rfl|⟨f,rfl⟩<;>trivial
def CC{es:TE}(h:∀e∈es,fc ai v e)(d:Nat):deafBehind d es=d:=by
 refine deafBehind_still (λe he=>?_) d;cases h e he with
 |cell=>exact⟨aF,aF⟩
 |obj=>exact⟨aF,aF⟩
 |mark h=>rcases h with rfl|⟨f,rfl⟩<;>exact⟨aF,aF⟩
structure m0(K:g8 Q P)(f0:Tw)(R:S9->S7->Prop)(aH:TM)(ρ:Ren)(V:dt)(bo:TB)(cs' Tc:Tz)(gs:TR)(w:S7)(t:Tt):Prop where
 going:e3 Q f0 R V
 self:Self Q V
 rel:m4 aH ρ
 low:∀b,aH b->b<w.heap.size
 st:cc P aH gs (Tk bo (cs'++Tc)) w t 0
end
section
variable{Q P:To}{R:S9->S7->Prop}{f0:Tw}{K:g8 Q P}{G:TU->T0->S7->Tt->Prop}
def BL(K:g8 Q P)(f0:Tw)(R:S9->S7->Prop)(G:TU->T0->S7->Tt->Prop)(Tc:Tz)(ie:Ren)(v0 aL:S7)(Ok:(Nat->Prop)->Prop):Prop:=
 ∀aH ρ V bo cs' gs w t,Ok aH->m0 K f0 R aH ρ V bo cs' Tc gs w t->yl K ρ V bo cs' w->fQ ie ρ v0 V.w aL w->
  (∀en c b4 f d bm w' bh,Ok en->dZ Q b4 V->m0 K f0 R en c b4 f d Tc bm w' bh->m2 K c b4 f d w'->fQ ie c v0 b4.w aL w'->Tu P G bm w' bh)->Tu P G gs w t
def m0.go(S:Same Q P)(ek:fe (fj (jv Q)) Q Q)(H:fe (fj K) Q P)(ar:∀f a b,¬K.db f a b){Tc:Tz}{ie:Ren}{v0 aL:S7}{Ok:(Nat->Prop)->Prop}(spec:BL K f0 R G Tc ie v0 aL Ok)(ret:∀aH ρ V bo gs w t,Ok aH->e3 Q f0 R V->m4 aH ρ->(∀b,aH b->b<w.heap.size)->fQ ie ρ v0 V.w aL w->cc P aH gs (Tk bo Tc) w t 0->bo.kind=.normal->bo.fn=f0->
  (∀k,∃v r ai dI aG es,R v dI/\aQ ai v r/\stepG P true (Tk bo Tc) (w.at k)=GStep.after es (doReturn P true bo Tc none r aG)/\gm ai dI aG/\fQ ie ai v0 dI aL aG/\m4 aH ai/\
   w.heap.size<=aG.heap.size/\(∀e∈es,ox aH aG.heap.size e)/\deafBehind 0 es=0)->Tu P G gs w t){V:dt}{bo:TB}{cs':Tz}{gs:TR}{t:Tt}(p:Ok aH)(c:m0 K f0 R aH ρ V bo cs' Tc gs w t)(hp:m2 K ρ V bo cs' w)(n:fQ ie ρ v0 V.w aL w)(sl:T8):Ends P G (crowd gs w sl) t:=by
 have key:∀V:dt,Acc (dZ Q) V->∀aH ρ bo cs' gs w t,Ok aH->m0 K f0 R aH ρ V bo cs' Tc gs w t->m2 K ρ V bo cs' w->fQ ie ρ v0 V.w aL w->Tu P G gs w t:=by
  intro V ae;induction ae with
  |intro V _ L=>
  intro aH ρ bo cs' gs w t p c hp n sl;by_cases B:V.stop
  .let⟨_,_,_,_,_,_,_,af,ak,ah,_⟩:=Aj (Tc:=Tc) S c.going c.self hp B true .running none
   subst af;refine ret aH ρ V bo gs w t p c.going c.rel c.low n c.st ak ah (λk=>?_) sl;have z:m2 K ρ V bo [] (w.at k):=⟨hp.fit,hp.room,hp.fr,hp.cs,⟨hp.heap.obj,hp.heap.lim,hp.heap.js⟩⟩
   let⟨v,r,ai,aG,es,aa,q,_,_,_,C,j,J,m⟩:=Aj (Tc:=Tc) S c.going c.self z B true .running none;have hrel:m4 aH ai:=λb g i l=>by
    rcases j.new b g i with x|⟨_,x⟩
    .exact c.rel b g x l
    .have:=c.low g l
     have e:(w.at k).heap.size=w.heap.size:=S6;omega
   refine⟨v,r,ai,dM V.w (hU V.w (w.at k)),aG,es,aa,q,C,J.hrel,n.trans (fQ.BR j),hrel,j.size,λe he=>CV (aG:=aG) hrel (λb g i=>(J.lt i).2) (m e he),CC m 0⟩
  .refine c.st.step (λk=>?_) sl
   have z:m2 K ρ V bo cs' (w.at k):=⟨hp.fit,hp.room,hp.fr,hp.cs,⟨hp.heap.obj,hp.heap.lim,hp.heap.js⟩⟩
   let⟨b4,ai,y,u,aG,es,C,q,Z,ad,j,m,I⟩:=EE (Tc:=Tc) S ek H c.going c.self z B (λ_ id ops ay d k aw _ _ h=>ar _ _ _ h) true .running none;have hrel:m4 aH ai:=λb g i l=>by
    rcases j.new b g i with x|⟨_,x⟩
    .exact c.rel b g x l
    .have:=c.low g l
     have e:(w.at k).heap.size=w.heap.size:=S6;omega
   have E:fQ ie ai v0 b4.w aL aG:=n.trans (fQ.BR j);have aj:gm ai b4.w aG:=by
    rcases I with h|h
    .exact h.heap
    .exact h.heap
   have ao:∀b g,ai.r b g->g<aG.heap.size:=λb g i=>by let⟨o,ax,_,Y,_⟩:=aj.obj b g i;exact bu Y
   refine⟨_,aG,es,C,S6,j.size,λe he=>CV (aG:=aG) hrel ao (m e he),λbm bh M D=>?_⟩;rw[CC m]at D;have F:m0 K f0 R aH ai b4 y u Tc bm aG bh:=⟨Z,ad,hrel,λb i=>gu (c.low b i) j.size,D⟩
   rcases I with h|h
   .exact L b4 (.one q) aH ai y u bm aG bh p F h E M
   .refine spec aH ai b4 y u bm aG bh p F h E (λen av T W U X w3 t3 ap am al aq ag au=>?_) M
    exact L T (.more q am) en av W U X w3 t3 ap al aq ag au
 exact key V (dZ.acc c.going.acc) aH ρ bo cs' gs w t p c hp n sl
end
end Go.aO
namespace Go.aO
attribute [-simp] Go.Sem.runT_eq
open Go.Conc Go.ConcN
variable{x y:MemOp}{c k:Nat}{W:TM}
section
structure qE where
 cT:Nat
 jy:Loc->Prop
 ik:Loc->Prop
 kX:TD
 b1:Loc->Nat
 oy:Nat->Loc->Prop
 aH:Nat->Prop
 no:Nat
inductive qI where
 |fresh
 |written (g:Nat)
 |done
 deriving DecidableEq
variable(L:qE)
def Hr(a:Touch):Prop:=(∃bO,a.loc=.cell bO/\L.aH bO.block)/\a.kind=.atomic
structure Started(t:Tt)(g:Nat):Prop where
 old:∀i a,i<L.cT->touchAt t i=some a->a.loc.isMemory=true->Knows t g i\/Hr L a
 ro:∀l,L.oy g l->¬L.jy l->¬L.ik l->∀i a,touchAt t i=some a->a.loc=l->a.write=true->Knows t g i
def vx(t:Tt):qI->Prop
 |.fresh=>∀i a,L.cT<=i->touchAt t i=some a->¬L.ik a.loc
 |.written g=>∀i op a,L.cT<=i->t[i]?=some op->op.act.touch?=some a->L.ik a.loc->op.g=g
 |.done=>∃p,LastWrite t L.kX p/\t.heard p/\∀i a,L.cT<=i->touchAt t i=some a->L.ik a.loc->a.write=true->Before t i p
def iH(t:Tt)(g:Nat):Prop:=∀i a,touchAt t i=some a->L.ik a.loc->a.write=true->Knows t g i
structure fp(t:Tt)(s:qI)(B:Nat):Prop where
 clean:∀said,¬Race said t
 size:L.cT<=t.size
 hX:∀i a,L.cT<=i->touchAt t i=some a->L.jy a.loc->a.kind≠.plain
 own:∀i op a,L.cT<=i->t[i]?=some op->op.act.touch?=some a->a.loc.isMemory=true->¬L.jy a.loc->¬L.ik a.loc->op.g=L.b1 a.loc\/(a.write=false/\L.oy op.g a.loc)
 cz:vx L t s
 seen:∀op∈t,op.act.low B
def vu(g:Nat)(b:Touch):Prop:=
 (L.jy b.loc/\b.kind≠.plain)\/(¬L.jy b.loc/\¬L.ik b.loc/\L.b1 b.loc=g/\(b.write=true->∀h,h≠g->¬L.oy h b.loc))\/(¬L.jy b.loc/\¬L.ik b.loc/\L.oy g b.loc/\b.write=false)
structure qu:Prop where
 bK:∀l bO,l=.cell bO->L.aH bO.block->¬L.jy l/\¬L.ik l/\∀g,¬L.oy g l
 Fy:∀l bO,l=.cell bO->L.aH bO.block->L.b1 l=L.no
 oi:∀l,L.ik l->¬L.jy l
 x1:∀l,L.ik l->l.isMemory=true
 A7:∀l,L.jy l->l.isMemory=true
variable{L}{t u:Tt}{s:qI}{B g:Nat}
def Started.app(h:Started L t g)(hu:∀op∈u,∀a,op.act.touch?=some a->a.write=true->L.oy g a.loc->¬L.jy a.loc->¬L.ik a.loc->op.g=g)(w:L.cT<=t.size):Started L (t++u) g:=by
 refine⟨λi a j c hm=>?_,λl m d f i a c e n=>?_⟩
 .have:=h.old i a j (by rw[<-touchAt_old (u:=u) U];exact c) hm
  exact this.imp (·.app u) id
 .let⟨x,o,p⟩:=touch_of c
  rcases getElem?_append_cases o with⟨j,q⟩|⟨_,r⟩
  .exact(h.ro l m d f i a (by rw[touchAt_of q];exact p) e n).app u
  .have:=knows_own o
   rw[hu x r a p n (e ▸ m) (e ▸ d) (e ▸ f)]at this;exact this
def iH.app(h:iH L t g)(hu:∀op∈u,∀a,op.act.touch?=some a->L.ik a.loc->a.write=true->op.g=g):iH L (t++u) g:=by
 intro i a l c d;let⟨x,f,j⟩:=touch_of l;rcases getElem?_append_cases f with⟨o,m⟩|⟨_,n⟩
 .exact(h i a (by rw[touchAt_of m];exact j) c d).app u
 .have:=knows_own f
  rw[hu x n a j c d]at this;exact this
def vx.app(h:vx L t s)(hu:∀op∈u,∀a,op.act.touch?=some a->L.ik a.loc->(s=.written op.g\/(s=.done/\a.write=false)))(hd:∀op∈u,∀sync,op.act≠.access ⟨.cell L.kX,true,sync⟩):vx L (t++u) s:=by
 cases s with
 |fresh=>
  intro i a f d c;let⟨x,l,g⟩:=touch_of d;rcases getElem?_append_cases l with⟨_,m⟩|⟨_,n⟩
  .exact h i a f (by rw[touchAt_of m];exact g) c
  .rcases hu x n a g c with k|⟨k,_⟩<;>cases k
 |written g'=>
  intro i op a f w d c;rcases getElem?_append_cases w with⟨_,y⟩|⟨_,z⟩
  .exact h i op a f y d c
  .rcases hu op z a d c with k|⟨k,_⟩
   .cases k;rfl
   .cases k
 |done=>
  obtain⟨p,o,q,r⟩:=h;refine⟨p,o.app hd,(heard_old (lt_of_act? o.1)).2 q,λi a f d c j=>?_⟩;let⟨x,l,g⟩:=touch_of d;rcases getElem?_append_cases l with⟨_,m⟩|⟨_,n⟩
  .exact(r i a f (by rw[touchAt_of m];exact g) c j).app u
  .rcases hu x n a g c with k|⟨_,k⟩
   .cases k
   .rw[k]at j;cases j
def fp.app(F:qu L)(S:g≠L.no)(h:fp L t s B)(I:Started L t g)(hu:∀op∈u,op.g=g)(E:∀op∈u,∀b,op.act.touch?=some b->b.loc.isMemory=true->vu L g b\/(L.ik b.loc/\(s=.written g\/(s=.done/\b.write=false/\iH L t g))))(X:∀op∈u,∀b,op.act.touch?=some b->b.kind=.said->L.jy b.loc->∀i a,touchAt t i=some a->a.loc=b.loc->a.kind=.said->Knows t g i)(hd:∀op∈u,∀sync,op.act≠.access ⟨.cell L.kX,true,sync⟩)(R:∀op∈u,op.act.low B):fp L (t++u) s B:=by
 refine⟨λsaid=>noRace_append (h.clean said) hu λi a c op w b j C=>?_,cL h.size aF,λi a d c l=>?_,λi op a d D c hm f q=>?_,h.cz.app (λop w a c j=>?_) hd,seen_app h.seen R⟩
 ·
  have hm:b.loc.isMemory=true:=by rw[<-C.1];exact C.2.1
  have J:a.loc.isMemory=true:=C.2.1;obtain⟨e,_,hw,Q⟩:=C;let⟨x,o,y⟩:=touch_of c;have old:i<L.cT->(∀bO,b.loc=.cell bO->L.aH bO.block->False)->Knows t g i:=by
   intro d T;rcases I.old i a d c J with k|⟨⟨bO,m,n⟩,_⟩
   .exact k
   .exact(T bO (e ▸ m) n).elim
  rcases E op w b j hm with(⟨l,hp⟩|⟨f,q,D,ad⟩|⟨f,q,W,r⟩)|⟨H,Z⟩
  ·
   by_cases d:i<L.cT
   .exact old d λbO m n=>(F.bK _ bO m n).1 l
   .have P:=h.hX i a U c (e ▸ l)
    rcases Q with k|k|⟨_,z,p⟩
    .exact Td k P
    .exact Td k hp
    .exact X op w b j p l i a c e z
  ·
   by_cases d:i<L.cT
   .exact old d λbO m n=>S (D.symm.trans (F.Fy _ bO m n))
   .rcases h.own i x a U o y J (e ▸ f) (e ▸ q)with k|⟨z,p⟩
    .have:=knows_own o
     rw[k,e,D]at this;exact this
    .by_cases M:x.g=g
     .have:=knows_own o
      rw[M]at this;exact this
     .have r:b.write=true:=by
       rcases hw with hw|hw
       .rw[z]at hw;cases hw
       .exact hw
      exact Td (e ▸ p) (ad r _ M)
  ·
   have G:a.write=true:=hw.resolve_right (by simp[r]);exact I.ro b.loc W f q i a c e G
  ·
   by_cases d:i<L.cT
   .exact old d λbO m n=>(F.bK _ bO m n).2.1 H
   .rcases Z with rfl|⟨rfl,r,Y⟩
    .have:=h.cz i x a U o y (e ▸ H)
     have k:=knows_own o;rw[this]at k;exact k
    .have G:a.write=true:=hw.resolve_right (by simp[r])
     exact Y i a c (e ▸ H) G
 .let⟨x,o,y⟩:=touch_of c
  rcases getElem?_append_cases o with⟨_,aa⟩|⟨_,ae⟩
  .exact h.hX i a d (by rw[touchAt_of aa];exact y) l
  .rcases E x ae a y (F.A7 _ l)with(⟨_,hp⟩|⟨f,_⟩|⟨f,_⟩)|⟨j,_⟩
   .exact hp
   .exact Td l f
   .exact Td l f
   .exact Td l (F.oi _ j)
 .rcases getElem?_append_cases D with⟨_,V⟩|⟨_,K⟩
  .exact h.own i op a d V c hm f q
  .rw[hu op K]
   rcases E op K a c hm with(⟨k,_⟩|⟨_,_,k,_⟩|⟨_,_,k,p⟩)|⟨k,_⟩
   .exact Td k f
   .exact .inl k.symm
   .exact .inr ⟨p,k⟩
   .exact Td k q
 .rcases E op w a c (F.x1 _ j)with(⟨k,_⟩|⟨_,k,_⟩|⟨_,k,_⟩)|⟨_,k|⟨z,p,_⟩⟩
  .exact Td k (F.oi _ j)
  .exact Td j k
  .exact Td j k
  .rw[hu op w];exact .inl k
  .exact .inr ⟨z,p⟩
end
section
variable{L:qE}{t u:Tt}{s:qI}{B gX g:Nat}
def last_at(t:Tt)(y:MemOp):(t++#[y])[t.size]?=some y:=by rw[Uo bg];simp
def wF{t:Tt}(h:Deaf t y.g=0):(t++#[y]).heard t.size:=⟨y.g,by simp[Trace.g?,last_at],by rw[deaf_old bg];exact h⟩
def fp.mono(h:fp L t s B)(c:B<=gX):fp L t s gX:=⟨h.clean,h.size,h.hX,h.own,h.cz,λop d=>MemAct.low_mono c (h.seen op d)⟩
def uF{u:Tt}(hu:∀op∈u,op.act.touch?=none){i:Nat}{a:Touch}(h:touchAt (t++u) i=some a):i<t.size/\touchAt t i=some a:=by
 let⟨x,f,c⟩:=touch_of h;rcases getElem?_append_cases f with⟨d,g⟩|⟨_,j⟩
 .exact⟨d,by rw[touchAt_of g];exact c⟩
 .rw[hu x j]at c;cases c
def Mx{op:MemOp}(h:op.act.touch?=none)(a:TD)(sync:Ta):op.act≠.access ⟨.cell a,true,sync⟩:=λe=>by rw[e]at h;cases h
def fp.one(h:fp L t s B)(y:MemOp)(u:y.act.touch?=none)(n:y.act.low B):fp L (t++#[y]) s B:=by
 have hu:∀op∈#[y],op.act.touch?=none:=by intro op c;simp at c;subst c;exact u
 refine⟨λsaid=>noRace_append (h.clean said) (g:=y.g) (λop c=>by simp at c;rw[c]) λi a _ op c b j _=>(by rw[hu op c]at j;cases j),cL h.size aF,λi a f d r=>h.hX i a f (uF hu d).2 r,
  λi op a f o d hm l m=>?_,h.cz.app (λop c a d=>by rw[hu op c]at d;cases d) (λop c=>Mx (hu op c) _),seen_app h.seen λop c=>by simp at c;subst c;exact n⟩
 rcases getElem?_append_cases o with⟨_,p⟩|⟨_,q⟩
 .exact h.own i op a f p d hm l m
 .rw[hu op q]at d;cases d
def Started.one(h:Started L t g)(y:MemOp)(i:y.act.touch?=none)(f:L.cT<=t.size):Started L (t++#[y]) g:=h.app (λop d a c=>by simp at d;subst d;rw[i]at c;cases c) f
def iH.one(h:iH L t g)(y:MemOp)(f:y.act.touch?=none):iH L (t++#[y]) g:=h.app λop d a c=>by simp at d;subst d;rw[f]at c;cases c
def Rs(t:Tt)(x y:MemOp):t++#[x,y]=(t++#[x])++#[y]:=by apply Array.ext';simp
def Started.Ph(h:Started L t g)(c:L.cT<=t.size)(d:x.g=0/\x.act=.go k)(f:y.g=k/\y.act=.start):Started L (t++#[x,y]) g:=by rw[Rs];exact(h.one x (by rw[d.2];rfl) c).one y (by rw[f.2];rfl) cH
def Started.child(h:Started L t 0)(H:fp L t s B)(j:x.g=0/\x.act=.go k)(m:y.g=k/\y.act=.start)(n:Deaf t 0=0)(o:Deaf t k=0)(F:qu L)(G:∀l,L.oy k l->l.isMemory=true/\L.b1 l=0/\∀h,h≠k->L.oy h l->L.b1 l=0):Started L (t++#[x,y]) k:=by
 have hu:∀op∈#[x,y],op.act.touch?=none:=by
  intro op E;have:op=x\/op=y:=by simpa using E
  rcases this with rfl|rfl
  .rw[j.2];rfl
  .rw[m.2];rfl
 refine⟨λi a g f hm=>?_,λl p w C i a f e I=>?_⟩
 .let⟨_,d⟩:=uF hu f
  exact(h.old i a g d hm).imp (fork_knows j m n o) id
 .let⟨_,d⟩:=uF hu f
  refine fork_knows j m n o ?_;let⟨hm,D,_⟩:=G l p;by_cases g:i<L.cT
  .rcases h.old i a g d (e ▸ hm)with c|⟨⟨bO,r,u⟩,_⟩
   .exact c
   .exact Td p ((F.bK l bO (e ▸ r) u).2.2 k)
  .let⟨z,q,J⟩:=touch_of d
   rcases H.own i z a U q J (e ▸ hm) (e ▸ w) (e ▸ C)with c|⟨c,_⟩
   .have:=knows_own q
    rw[c,e,D]at this;exact this
   .rw[I]at c;cases c
def fp.begin(h:fp L t .fresh B)(g:Nat):fp L t (.written g) B:=⟨h.clean,h.size,h.hX,h.own,λi op a f j c d=>Td d (h.cz i a f (by rw[touchAt_of j];exact c)),h.seen⟩
def fp.raise(F:qu L)(h:fp L t (.written g) B)(E:Started L t g)(m:y.g=g/\y.act=.access ⟨.cell L.kX,true,true⟩)(hd:Deaf t g=0)(n:L.jy (.cell L.kX))(I:L.kX.block<B):fp L (t++#[y]) .done B:=by
 have hu:∀op∈#[y],op=y:=by intro op j;simpa using j
 have Q:y.act.touch?=some ⟨.cell L.kX,true,.atomic⟩:=by rw[m.2];rfl
 have hm:∀a,y.act.touch?=some a->a=⟨.cell L.kX,true,.atomic⟩:=λa c=>by rw[Q]at c;exact(bD c).symm
 refine⟨λsaid=>noRace_append (h.clean said) (g:=g) (λop j=>by rw[hu op j];exact m.1) λi a c op j b d D=>?_,cL h.size aF,λi a f c P=>?_,λi op a f J c q p C=>?_,?_,seen_app h.seen λop j=>by rw[hu op j,m.2];exact I⟩
 .rw[hu op j]at d
  have d:=hm b d;subst d;obtain⟨e,q,_,G⟩:=D;have H:a.kind=.plain:=by
   rcases G with k|k|⟨_,_,k⟩
   .exact k
   .cases k
   .cases k
  by_cases f:i<L.cT
  .rcases E.old i a f c q with k|⟨⟨bO,w,z⟩,_⟩
   .exact k
   .exact Td n ((F.bK (.cell L.kX) bO (e.symm.trans w) z).1)
  .exact Td H (h.hX i a U c (e ▸ n))
 .let⟨x,r,l⟩:=touch_of c
  rcases getElem?_append_cases r with⟨_,o⟩|⟨_,u⟩
  .exact h.hX i a f (by rw[touchAt_of o];exact l) P
  .rw[hu x u]at l
   rw[hm a l];simp
 .rcases getElem?_append_cases J with⟨_,K⟩|⟨_,M⟩
  .exact h.own i op a f K c q p C
  .rw[hu op M]at c
   rw[hm a c]at p;exact Td n p
 .refine⟨t.size,LastWrite.new t L.kX m.2,wF (by rw[m.1];exact hd),λi a f c d R=>?_⟩
  let⟨x,r,l⟩:=touch_of c;rcases getElem?_append_cases r with⟨_,o⟩|⟨_,u⟩
  .have k:=h.cz i x a f o l d
   have:=knows_own o;rw[k]at this;exact .inr (this.hb_new bg (last_at t y) m.1)
  .rw[hu x u]at l
   rw[hm a l]at d;exact Td n (F.oi _ d)
def fp.AD(F:qu L)(h:fp L t .done B)(C:Started L t g)(c:y.g=g/\y.act=.access ⟨.cell L.kX,false,true⟩)(hd:Deaf t g=0)(K:L.jy (.cell L.kX)):iH L (t++#[y]) g:=by
 let⟨p,d,u,w⟩:=h.cz;have hp:=lt_of_act? d.1;have m:=last_at t y;have r:HappensBefore (t++#[y]) p t.size:=.single (.inr ⟨.atomic (a:=L.kX) hp (by rw[act?_old hp];exact d.1) (by rw[act?_of m,c.2]) (λk sync I J=>by rw[act?_old J];exact d.2 k sync I),(heard_old hp).2 u,wF (by rw[c.1];exact hd)⟩);intro i a z f n;let⟨x,E,j⟩:=touch_of z;rcases getElem?_append_cases E with⟨M,G⟩|⟨_,H⟩
 .have l:touchAt t i=some a:=by rw[touchAt_of G];exact j
  by_cases D:i<L.cT
  .rcases C.old i a D l (F.x1 _ f)with k|⟨⟨bO,o,q⟩,_⟩
   .exact k.app _
   .exact Td f ((F.bK _ bO o q).2.1)
  .exact⟨t.size,y,m,c.1,.inr (((w i a U l f n).app #[y]).hb r)⟩
 .have:x=y:=by simpa using H
  rw[this,c.2]at j;cases j;cases n
def fp.writer(F:qu L)(h:fp L t (.written g) B)(m:Started L t g):iH L t g:=by
 intro i a d c p;by_cases n:i<L.cT
 .rcases m.old i a n d (F.x1 _ c)with k|⟨⟨bO,j,l⟩,_⟩
  .exact k
  .exact Td c ((F.bK _ bO j l).2.1)
 .let⟨x,f,o⟩:=touch_of d
  have k:=h.cz i x a U f o c;have:=knows_own f;rw[k]at this;exact this
def Told(L:qE)(W:TM)(t:Tt)(g:Nat):Prop:=
 ∀i op a,L.cT<=i->t[i]?=some op->op.g=g->op.act.touch?=some a->a.loc.isMemory=true->Knows t 0 i\/((∃bO,a.loc=.cell bO/\W bO.block)/\a.kind=.atomic/\¬t.heard i)
def Told.app(h:Told L W t g)(hu:∀j op a,u[j]?=some op->op.g=g->op.act.touch?=some a->a.loc.isMemory=true->(∃bO,a.loc=.cell bO/\W bO.block)/\a.kind=.atomic/\¬(t++u).heard (t.size+j)):Told L W (t++u) g:=by
 intro i op a n c l f hm;by_cases m:i<t.size
 .have d:t[i]?=some op:=by rw[<-getElem?_append_old (u:=u) m];exact c
  exact(h i op a n d l f hm).imp (·.app u) λ⟨o,p,q⟩=>⟨o,p,λk=>q ((heard_old m).1 k)⟩
 .have d:u[i-t.size]?=some op:=by rw[Uo U]at c;exact c
  have:=hu _ op a d l f hm;rw[show t.size+(i-t.size)=i by omega]at this;exact .inr this
def Told.other(h:Told L W t g)(hu:∀op∈u,op.g=g->op.act.touch?=none):Told L W (t++u) g:=
 h.app λj op a f d c=>by rw[hu op (Array.mem_of_getElem? f) d]at c;cases c
def Rf{v:Tt}{i1 i2:Nat}(d:v[i1]?=some x/\x.g=g/\x.act=.send c k)(f:v[i2]?=some y/\y.g=0/\y.act=.recvDone c k)(q:∀op∈v,op.act.touch?=none/\op.act≠.mark .disable/\op.act≠.mark .enable)(hd:Deaf t g=0)(B:Deaf t 0=0):Told L W (t++v) g:=by
 have o:∀(n:Nat) (h:Nat),n<=v.size->(t++v).deaf h (t.size+n)=Deaf t h:=by
  intro n h;induction n with
  |zero=>intro _;exact deaf_old bg
  |succ n H=>
   intro J;have m:n<v.size:=U;have G:(t++v)[t.size+n]?=some v[n]:=by rw[Uo U];simp[m]
   rw[show t.size+(n+1)=(t.size+n)+1 by omega,deaf_succ G,H U];have:=q v[n] (Array.getElem_mem m);unfold deafStep;split
   .rename_i e;exact Td e this.2.1
   .rename_i e;exact Td e this.2.2
   .rfl
 have j:(t++v)[t.size+i1]?=some x:=by rw[Uo U];simpa using d.1
 have l:(t++v)[t.size+i2]?=some y:=by rw[Uo U];simpa using f.1
 have K:=lt_size_of_getElem? d.1;have M:=lt_size_of_getElem? f.1;have r:(t++v).heard (t.size+i1):=⟨g,by simp[Trace.g?,j,d.2.1],by rw[o _ _ U];exact hd⟩
 have w:(t++v).heard (t.size+i2):=⟨0,by simp[Trace.g?,l,f.2.1],by rw[o _ _ U];exact B⟩
 have z:HappensBefore (t++v) (t.size+i1) (t.size+i2):=.single (.inr ⟨.handOver (by rw[act?_of j,d.2.2]) (by rw[act?_of l,f.2.2]),r,w⟩);intro i op a I D C p hm;refine .inl ?_;rcases getElem?_append_cases D with⟨m,E⟩|⟨_,F⟩
 .have k:=knows_own E
  rw[C]at k;exact⟨_,y,l,f.2.1,.inr ((k.hb_new (u:=v) U j d.2.1).trans z)⟩
 .rw[(q op F).1]at p;cases p
def Shut(L:qE)(c:Nat)(t:Tt)(g:Nat):Prop:=∃p,t.act? p=some (.close c)/\t.heard p/\∀i op a,L.cT<=i->t[i]?=some op->op.g=g->op.act.touch?=some a->Before t i p
def O3(d:y.g=g/\y.act=.close c)(hd:Deaf t g=0):Shut L c (t++#[y]) g:=by
 refine⟨t.size,by rw[act?_of (last_at t y),d.2],wF (by rw[d.1];exact hd),λi op a n j h f=>?_⟩;rcases getElem?_append_cases j with⟨_,l⟩|⟨_,m⟩
 .have k:=knows_own l
  rw[h]at k;exact .inr (k.hb_new bg (last_at t y) d.1)
 .have:op=y:=by simpa using m
  rw[this,d.2]at f;cases f
def Shut.app(h:Shut L c t g)(hu:∀op∈u,op.g=g->op.act.touch?=none):Shut L c (t++u) g:=by
 obtain⟨p,f,l,m⟩:=h;have hp:=lt_of_act? f;refine⟨p,by rw[act?_old hp];exact f,(heard_old hp).2 l,λi op a n o j d=>?_⟩;rcases getElem?_append_cases o with⟨_,q⟩|⟨_,r⟩
 .exact(m i op a n q j d).app u
 .rw[hu op r j]at d;cases d
def Shut.told(h:Shut L c t g)(d:y.g=0/\y.act=.recvClosed c)(n:Deaf t 0=0)(u:g≠0):Told L W (t++#[y]) g:=by
 obtain⟨p,j,o,q⟩:=h;have hp:=lt_of_act? j;have l:=last_at t y;have m:HappensBefore (t++#[y]) p t.size:=.single (.inr ⟨.closed (by rw[act?_old hp];exact j) (by rw[act?_of l,d.2]),(heard_old hp).2 o,wF (by rw[d.1];exact n)⟩);intro i op a w z f r hm;rcases getElem?_append_cases z with⟨_,B⟩|⟨_,C⟩
 .exact .inl ⟨t.size,y,l,d.1,.inr (((q i op a w B f r).app #[y]).hb m)⟩
 .have:op=y:=by simpa using C
  rw[this]at f;exact Td (f.symm.trans d.1) u
def fp.sS(h:fp L t s B)(E:Started L t 0)(F:∀(i:Nat) op,L.cT<=i->t[i]?=some op->op.g=0\/Told L W t op.g)(G:∀i g,i<L.cT->t.g? i=some g->g≠0->t.counts i->∃j,t.g? j=some 0/\HappensBefore t i j):kB (λb=>L.aH b\/W b) B t:=by
 have D:∀i op a,t[i]?=some op->op.act.touch?=some a->a.loc.isMemory=true->Knows t 0 i\/((∃bO,a.loc=.cell bO/\(L.aH bO.block\/W bO.block))/\a.kind=.atomic/\(i<L.cT\/¬t.heard i)):=by
  intro i op a m c hm;by_cases d:i<L.cT
  .rcases E.old i a d (by rw[touchAt_of m];exact c) hm with k|⟨⟨bO,n,o⟩,k⟩
   .exact .inl k
   .exact .inr ⟨⟨bO,n,.inl o⟩,k,.inl d⟩
  .rcases F i op U m with k|k
   .have:=knows_own m
    rw[k]at this;exact .inl this
   .rcases k i op a U m rfl c hm with k|⟨⟨bO,n,o⟩,l,k3⟩
    .exact .inl k
    .exact .inr ⟨⟨bO,n,.inr o⟩,l,.inr k3⟩
 refine⟨h.clean,λi a c hm=>?_,λi g' p y w=>?_,h.seen⟩
 .let⟨x,f,r⟩:=touch_of c
  exact(D i x a f r hm).imp id λ⟨H,l,_⟩=>⟨H,l⟩
 .by_cases d:i<L.cT
  .exact G i g' d p y w
  .obtain⟨a,c,hm,aa⟩:=w
   let⟨x,f,r⟩:=touch_of c;rcases D i x a f r hm with⟨q,z,u,C,hb⟩|⟨_,l,k3⟩
   .refine⟨q,by simp[Trace.g?,u,C],?_⟩
    rcases hb with rfl|hb
    .rw[f]at u
     cases u;simp[Trace.g?,f]at p;exact Td (p.symm.trans C) y
    .exact hb
   .rcases aa with aa|aa
    .exact Td l aa
    .rcases k3 with k3|k3
     .exact Td k3 d
     .exact Td aa k3
end
end Go.aO
