/- Part 5 of a law on fees: no conditions. -/
import Derived.Test.YtalhadgndijcmaaGreatDoorP3
set_option maxHeartbeats 8000000
set_option maxRecDepth 100000
set_option linter.all false
namespace Go.aN
attribute [-simp] Go.Sem.runT_eq
section
variable{Q P:Program}{K:fV Q P}{ρ ai:Ren}{α β:Type}
def c9(w:World)(aL:Tape): World:={w with tape:=aL}
def DF{α:Type}: Result α->Tape->Result α
 | .ok a w,aL=>.ok a (c9 w aL)
 | .halt h w,aL=>.halt h (c9 w aL)
def qY{α:Type}: Result α->World
 | .ok _ w=>w
 | .halt _ w=>w
def rJ(aL ai:Tape)(m n:Nat): Prop:=∀k,m<=k->k<n->aL k=ai k
def hc(Q:Program)(s:Sem α)(w:World)(es:Array Event): Prop:=
 (∀h aG,(s.runT Q w es).1=.halt h aG->¬ iC h)->
  (qY (s.runT Q w es).1).tape=w.tape/\w.drawn<=(qY (s.runT Q w es).1).drawn/\
   ∀aL,rJ aL w.tape w.drawn (qY (s.runT Q w es).1).drawn->s.runT Q (c9 w aL) es=(DF (s.runT Q w es).1 aL,(s.runT Q w es).2)
theorem hc.step{s gI:Sem α}{w aG:World}{es kh:Array Event}(e:s.runT Q w es=gI.runT Q aG kh)(d:aG.tape=w.tape)(hd:w.drawn<=aG.drawn)(k:∀aL,(aG.drawn≠w.drawn->aL w.drawn=w.tape w.drawn)->s.runT Q (c9 w aL) es=gI.runT Q (c9 aG aL) kh)(h:hc Q gI aG kh): hc Q s w es:=by intro c;rw[e] at c ⊢;obtain⟨g,i,l⟩:=h c;refine⟨g.trans d,Po hd i,λaL f=>?_⟩;rw[k aL λo=>f _ Pk (by omega)];exact l aL λj n m=>by rw[f j (by omega) m,d]
theorem hc.pe{s:Sem α}{w aG:World}{es bd:Array Event}{h:Halt}(e:s.runT Q w es=(.halt h aG,bd))(c:iC h): hc Q s w es:=by intro k;exact absurd c (k h aG (by rw[e]))
theorem hc.dF{s:Sem α}{w:World}{es:Array Event}(h:dj Q s): hc Q s w es:=by
 obtain⟨x,w',e,g,_⟩:=h w;have c:(s.runT Q w es).1=.halt x w':=by rw[Sem.runT_fst,e]
 intro k;exact absurd g (k x w' c)
theorem aW.loc{A:Ren->α->β->Prop}{s:Sem α}: ∀{ρ:Ren} {w w':World} {a6:Sem β} {es:Array Event},aW Q P A s ρ a6->dp ρ w w'->hc Q s w es:=by
 induction s with
 | pure a=>
  intro ρ w w' a6 es _ d _;exact⟨rfl,Pk,λaL _=>rfl⟩
 | load m a k f=>
  rintro ρ w w' a6 es (hd|⟨J,i,rfl,j,g⟩) d
  . exact .dF hd
  rcases wy d j with ⟨v,U,I,K,H⟩|I
  . refine hc.step (gI:=k v) (aG:=w) (kh:=es.push ⟨.cell a,false,m == .atomic⟩) (by simp only[Sem.runT,I]) rfl Pk (λaL _=>?_) (f v (g v U H) d)
    have V:(c9 w aL).cell? a=some v:=I;simp only[Sem.runT,V]
  . obtain⟨s,G⟩:=wV (Q:=Q) d j (m == .atomic)
    exact .pe (by simp only[Sem.runT,I,G];rfl) (show iC (.stuck s) from trivial)
 | store m a v k f=>
  rintro ρ w w' a6 es (hd|⟨J,U,i,rfl,j,H,g⟩) d
  . exact .dF hd
  by_cases L:∃c,v=.agg c
  . obtain⟨c,rfl⟩:=L
    exact .pe (h:=.stuck _) (by simp only[Sem.runT];rfl) trivial
  by_cases S:∃c,v=.tuple c
  . obtain⟨c,rfl⟩:=S
    exact .pe (h:=.stuck _) (by simp only[Sem.runT];rfl) trivial
  have e:=λw=>u2 (α:=α) Q m a v k w es (λc h=>L ⟨c,h⟩) (λc h=>S ⟨c,h⟩)
  rcases p:w.cell? a with _|x
  . obtain⟨s,G⟩:=Ar (Q:=Q) d j v (m == .atomic)
    exact .pe (h:=.stuck s) (by rw[e];simp only[p,G];rfl) trivial
  . by_cases u:w.frozen? a=true
    . exact .pe (h:=.unsupported (.unsafePointer "a write to bytes that a string shares")) (by rw[e];simp only[p];rw[if_pos u]) trivial
    . simp only[Bool.not_eq_true] at u
      obtain⟨⟨y,ae⟩,M,X,z,Z⟩:=yH d j H p u;refine hc.step (gI:=k) (aG:=w.setCell a v) (kh:=es.push ⟨.cell a,true,m == .atomic⟩) (by rw[e];simp only[p];rw[if_neg (by simp[u])]) rfl Pk (λaL _=>?_) (f g z);have Y:(c9 w aL).cell? a=some x:=p;have M:(c9 w aL).frozen? a=false:=u;rw[e];simp only[Y];rw[if_neg (by simp[M])];rfl
 | new o k f=>
  rintro ρ w w' a6 es (hd|⟨D,i,rfl,F,g⟩) d
  . exact .dF hd
  obtain⟨ai,l,he,z⟩:=By d F;exact hc.step (gI:=k w.heap.size) (aG:={w with heap:=w.heap.push o}) (kh:=es) (by simp only[Sem.runT]) rfl Pk (λaL _=>by simp only[Sem.runT];rfl) (f _ (g ai _ _ he.le l) z)
 | shape r k f=>
  rintro ρ w w' a6 es (hd|⟨E,i,rfl,l,g⟩) d
  . exact .dF hd
  exact hc.step (gI:=k (w.shape? r)) (aG:=w) (kh:=es) (by simp only[Sem.runT]) rfl Pk (λaL _=>by simp only[Sem.runT];rfl) (f _ (g _ _ (Cz d l)) d)
 | freeze a n k f=>intro ρ w w' a6 es h d;exact .dF h
 | frozen a k f=>
  rintro ρ w w' a6 es (hd|⟨J,i,rfl,j,g⟩) d
  . exact .dF hd
  exact hc.step (gI:=k (w.frozen? a)) (aG:=w) (kh:=es) (by simp only[Sem.runT]) rfl Pk (λaL _=>by simp only[Sem.runT];rfl) (f _ (g _ _ (AM d j) (AL d j)) d)
 | getObj r k f=>
  rintro ρ w w' a6 es (hd|⟨E,i,rfl,l,g⟩) d
  . exact .dF hd
  obtain⟨o,D,I,K,B⟩:=d.obj r E l;have W:ev ρ o D:=B;have key:p9 o->hc Q (.getObj r k) w es:=by
   intro R;have st:∀w:World,w.heap[r]?=some o->Sem.runT Q (.getObj r k) w es=(k o).runT Q w (es.push ⟨.obj r,false,o.isChan⟩):=by intro w I;cases o<;>first|exact R.elim|simp only[Sem.runT,I]
   exact hc.step (gI:=k o) (aG:=w) (kh:=es.push ⟨.obj r,false,o.isChan⟩) (st w I) rfl Pk (λaL _=>st (c9 w aL) I) (f o (g o D W) d)
  cases B with
  | cells a b c=>exact .pe (h:=.stuck "getObj: a row of cells") (by simp only[Sem.runT,I];rfl) trivial
  | _=>exact key trivial
 | setObj r o k f=>
  rintro ρ w w' a6 es (hd|⟨E,D,i,rfl,l,F,R,g⟩) d
  . exact .dF hd
  obtain⟨x,af,I,K,B⟩:=d.obj r E l;have key:p9 x->hc Q (.setObj r o k) w es:=by
   intro T;obtain⟨z,Z,X⟩:=Cx d l F I T;have st:∀w:World,w.heap[r]?=some x->Sem.runT Q (.setObj r o k) w es=k.runT Q {w with heap:=w.heap.setIfInBounds r o} (es.push ⟨.obj r,true,o.isChan⟩):=by intro w I;cases x<;>first|exact T.elim|simp only[Sem.runT,I]
   exact hc.step (gI:=k) (aG:={w with heap:=w.heap.setIfInBounds r o}) (kh:=es.push ⟨.obj r,true,o.isChan⟩) (st w I) rfl Pk (λaL _=>st (c9 w aL) I) (f g z)
  cases B with
  | cells a b c=>exact .pe (h:=.stuck "setObj: a row of cells") (by simp only[Sem.runT,I];rfl) trivial
  | _=>exact key trivial
 | choose q k f=>
  rintro ρ w w' a6 es (hd|⟨i,rfl,g⟩) d
  . exact .dF hd
  by_cases C:q.forced=true
  . exact hc.step (gI:=k 0) (aG:=w) (kh:=es) (by simp only[Sem.runT,C,if_true]) rfl Pk (λaL _=>by simp only[Sem.runT,C,if_true]) (f _ (g 0) d)
  . refine hc.step (gI:=k (q.cut (w.tape w.drawn q))) (aG:={w with drawn:=w.drawn+1}) (kh:=es) (by simp only[Sem.runT,C,if_false,Bool.false_eq_true]) rfl (Nat.le_succ _) (λaL aa=>?_) (f _ (g _) d.tick)
    have:=aa (Nat.succ_ne_self _);simp only[Sem.runT,C,if_false,Bool.false_eq_true];show(k (q.cut (aL w.drawn q))).runT Q {c9 w aL with drawn:=w.drawn+1} es=_;rw[this];rfl
 | sys c k f=>intro ρ w w' a6 es h d;exact .dF h
 | program k f=>
  rintro ρ w w' a6 es (hd|⟨i,rfl,g⟩) d
  . exact .dF hd
  exact hc.step (gI:=k Q) (aG:=w) (kh:=es) (by simp only[Sem.runT]) rfl Pk (λaL _=>by simp only[Sem.runT]) (f _ g d)
 | mark m k f=>
  rintro ρ w w' a6 es (hd|⟨cP,i,rfl,ad,g⟩) d
  . exact .dF hd
  exact hc.step (gI:=k) (aG:=w) (kh:=es.push ⟨.mark m,false,true⟩) (by simp only[Sem.runT]) rfl Pk (λaL _=>by simp only[Sem.runT]) (f g d)
 | halt x=>
  intro ρ w w' a6 es h d _;exact⟨rfl,Pk,λaL _=>rfl⟩
def dn(f:World->GStep)(w:World): Prop:=∀g aG es,f w=.go g aG es->aG.tape=w.tape/\w.drawn<=aG.drawn/\∀aL,rJ aL w.tape w.drawn aG.drawn->f (c9 w aL)=.go g (c9 aG aL) es
theorem dn.go(g:Goroutine)(es:Array Event)(w:World): dn (λw=>.go g w es) w:=by intro g' aG bd h;cases h;exact⟨rfl,Pk,λaL _=>rfl⟩
theorem dn.ended{f:World->GStep}{w:World}(h:∃o aG es,f w=.ended o aG es): dn f w:=by obtain⟨o,aG,es,h⟩:=h;intro g c bd e;rw[h] at e;cases e
theorem dn.after{f:World->GStep}{w:World}(es:Array Event)(h:dn f w): dn (λw=>GStep.after es (f w)) w:=by
 intro g aG bd e;dsimp only at e;rcases c:f w with ⟨n,o,m⟩|_|_|_|_|_|_|_|_|_|_<;>rw[c] at e<;>try cases e
 obtain⟨d,i,j⟩:=h _ _ _ c;exact⟨d,i,λaL l=>by dsimp only;rw[j aL l];rfl⟩
theorem dn.doReturn(p:Program)(main:Bool)(fr:Frame)(cs:List Frame)(v:Value)(w:World): dn (λw=>doReturn p main fr cs none v w) w:=by
 intro g aG es e;have key:∀w:World,(∃g,∀w:World,Go.doReturn p main fr cs none v w=.go g w)\/∀w,∃o es,Go.doReturn p main fr cs none v w=.ended o w es:=by
  intro w;unfold Go.doReturn;rcases cs with _|⟨c,rest⟩
  . dsimp only
    cases d:fr.kind
    case report=>exact .inr λw=>⟨_,_,rfl⟩
    all_goals
     dsimp only;cases main
     . exact .inl ⟨_,λw=>rfl⟩
     . simp only[Bool.not_true,Bool.false_eq_true,if_false]
       cases p.inits.idxOf? fr.fn
       . exact .inr λw=>⟨_,_,rfl⟩
       . exact .inl ⟨_,λw=>rfl⟩
  . dsimp only
    cases d:fr.kind<;>exact .inl ⟨_,λw=>rfl⟩
 rcases key w with ⟨g',h⟩|h
 . dsimp only at e
   rw[h] at e;cases e;exact⟨rfl,Pk,λaL _=>h _⟩
 . obtain⟨o,bd,h⟩:=h w
   dsimp only at e;rw[h] at e;cases e
def yj{α:Type}: Result α->World->Result α
 | .ok a _,w=>.ok a w
 | .halt h _,w=>.halt h w
theorem LA(r:Result α): yj r (qY r)=r:=by cases r<;>rfl
theorem LB(r:Result α)(aL:Tape): yj r (c9 (qY r) aL)=DF r aL:=by cases r<;>rfl
theorem dn.run{A:Ren->α->β->Prop}{s:Sem α}{a6:Sem β}{w w':World}(q:aW Q P A s ρ a6)(u:dp ρ w w')(F:Result α×Array Event->GStep)(E:∀a aG bd,s.runT Q w #[]=(.ok a aG,bd)->dn (λw=>F (.ok a w,bd)) aG)(G:∀v aG bd,s.runT Q w #[]=(.halt (.panic v) aG,bd)->dn (λw=>F (.halt (.panic v) w,bd)) aG)(C:∀h aG bd,s.runT Q w #[]=(.halt h aG,bd)->iC h->∃o c es,F (.halt h aG,bd)=.ended o c es): dn (λw=>F (s.runT Q w #[])) w:=by
 intro g c gs e;dsimp only at e;have i:=aW.loc (es:=#[]) q u;have fin:∀(r:Result α) (bd:Array Event),s.runT Q w #[]=(r,bd)->(∀h aG,r=.halt h aG->¬ iC h)->dn (λw=>F (yj r w,bd)) (qY r)->
  c.tape=w.tape/\w.drawn<=c.drawn/\∀aL,rJ aL w.tape w.drawn c.drawn->F (s.runT Q (c9 w aL) #[])=.go g (c9 c aL) gs:=by
  intro r bd d D h;unfold hc at i;rw[d] at i e;obtain⟨f,l,m⟩:=i (λh aG he=>D h aG he);obtain⟨I,J,K⟩:=h g c gs (by dsimp only;rw[LA];exact e);dsimp only at f l m;refine⟨I.trans f,Po l J,λaL y=>?_⟩;rw[m aL λj n p=>y j n (by omega)];have:=K aL λj n p=>by rw[y j (by omega) p,f]
  dsimp only at this;rw[LB] at this;exact this
 rcases d:s.runT Q w #[] with ⟨⟨a,aG⟩|⟨x,aG⟩,bd⟩
 . exact fin _ _ d (by simp) (E a aG bd d)
 . have B:iC x->c.tape=w.tape/\w.drawn<=c.drawn/\∀aL,rJ aL w.tape w.drawn c.drawn->F (s.runT Q (c9 w aL) #[])=.go g (c9 c aL) gs:=by intro H;obtain⟨o,L,es,he⟩:=C x aG bd d H;rw[d,he] at e;cases e
   have h:=aW.run q u;have z:s.run Q w=.halt x aG:=by rw[<-Sem.runT_fst Q s w #[],d]
   rw[z] at h;cases x with
   | panic v=>exact fin _ _ d (by rintro h w he;cases he;exact id) (G v aG bd d)
   | _=>exact B h
section
variable{w w' aG bW:World}{C cs cs':List Frame}{fr bg:Frame}{es e3:Array Event}
theorem wa{s a6:Sem Next}(z:aW Q P gN s ρ a6)(B:dp ρ w w')(k:(fr.kind == .early)=false)(D:oT fr): dn (λw=>stepG.apply Q true fr C none s w) w:=by
 intro g M gs e;dsimp only at e ⊢;have r:=aW.loc (es:=#[]) z B;unfold hc at r;rcases mA z B with ⟨n,cM,aG,bW,ai,bd,u,i,E,he,I,J,G⟩|⟨v,L,aG,bW,ai,bd,u,i,E,he,I,H,G⟩|⟨x,aG,bd,i,y⟩
 . rw[i] at r
   obtain⟨l,m,q⟩:=r (by simp);cases J with
   | value H=>rw[qf i k] at e;cases e;exact⟨l,m,λaL j=>qf (q aL j) k⟩
   | skip=>rw[rN i k] at e;cases e;exact⟨l,m,λaL j=>rN (q aL j) k⟩
   | enter f F K=>rw[tu i k D] at e;cases e;exact⟨l,m,λaL j=>tu (q aL j) k D⟩
   | round r f F c d y=>rw[tw i k] at e;cases e;exact⟨l,m,λaL j=>tw (q aL j) k⟩
   | defer hd=>rw[tt i k] at e;cases e;exact⟨l,m,λaL j=>tt (q aL j) k⟩
 . rw[i] at r
   obtain⟨l,m,q⟩:=r (by rintro h w he;cases he;exact id);rw[tv i k] at e;cases e;exact⟨l,m,λaL j=>tv (q aL j) k⟩
 . obtain⟨o,R,u,he⟩:=v' (p:=Q) (fr:=fr) (cs:=C) i y
   rw[he] at e;cases e
theorem zF(S:bK Q P)(H:ey (eE K) Q P)(B:dp ρ w w'){d D:Deferred}(hd:kP ρ d D): dn (λw=>callDeferred Q fr C none d w) w:=by
 by_cases i:((d.target matches .nil) && (fr.mode matches .panicking _))=true
 . exact .ended (z7 i)
 simp only[Bool.not_eq_true] at i;intro g T gs e;dsimp only at e ⊢;have z:=yA (ρ:=ρ) S H hd.target hd.args;have r:=aW.loc (es:=#[]) z B;unfold hc at r;rcases mA z B with ⟨n,cM,aG,bW,ai,bd,u,j,E,he,J,L,G⟩|⟨v,R,aG,bW,ai,bd,u,j,E,he,J,I,G⟩|⟨x,aG,bd,j,y⟩
 . rw[j] at r
   obtain⟨m,p,q⟩:=r (by simp);cases L with
   | value I=>rw[kX j (.inl ⟨_,rfl⟩) i] at e;cases e;exact⟨m,p,λaL l=>kX (q aL l) (.inl ⟨_,rfl⟩) i⟩
   | skip=>rw[kX j (.inr (.inl rfl)) i] at e;cases e;exact⟨m,p,λaL l=>kX (q aL l) (.inr (.inl rfl)) i⟩
   | defer hd=>rw[kX j (.inr (.inr ⟨_,rfl⟩)) i] at e;cases e;exact⟨m,p,λaL l=>kX (q aL l) (.inr (.inr ⟨_,rfl⟩)) i⟩
   | enter f F M=>rw[tK j i] at e;cases e;exact⟨m,p,λaL l=>tK (q aL l) i⟩
   | round r f F c d y=>rw[tM j i] at e;cases e;exact⟨m,p,λaL l=>tM (q aL l) i⟩
 . rw[j] at r
   obtain⟨m,p,q⟩:=r (by rintro h w he;cases he;exact id);rw[tL j i] at e;cases e;exact⟨m,p,λaL l=>tL (q aL l) i⟩
 . obtain⟨o,U,u,he⟩:=z6 (fr:=fr) (cs:=C) j y i
   rw[he] at e;cases e
theorem Ii(F:Fit Q ρ)(m:dp ρ w w')(g:cG K ρ fr bg)(main:Bool)(d:Option Code)(i:∀c,d=some c->codeOk Q true c=true): dn (λw=>k8 Q main fr C w d) w:=by
 obtain⟨fn,tmps,todo,defers,mode,kind,ro⟩:=fr;obtain⟨o,u,y,n,q,p,r⟩:=bg;have f:=g.round;dsimp only at f;unfold k8;cases f with
 | none=>
  dsimp only;rcases d with _|c
  . exact dn.go _ _ _
  . cases c<;>first|exact dn.go _ _ _|exact .ended ⟨_,_,_,rfl⟩
 | @some l aH j=>
  refine dn.run (CM (Q:=Q) (P:=P) j d (λc e=>by rw[F.dw];exact i c e)) m (λx=>GStep.after (seen Q fn x.2) (match x.1 with
   | .ok v w=>doReturn Q main ⟨fn,tmps,todo,defers,mode,kind,some l⟩ C none v w
   | .halt _ w=>.ended (.stuck "range over a function: no such loop" (Frame.pos Q ⟨fn,tmps,todo,defers,mode,kind,some l⟩)) w)) ?_ ?_ ?_
  . intro a aG bd _
    exact dn.after _ (dn.doReturn _ _ _ _ _ _)
  . intro v aG bd _
    exact .ended ⟨_,_,_,rfl⟩
  . intro h aG bd _ _
    exact⟨_,_,_,rfl⟩
theorem JK(S:bK Q P)(F:Fit Q ρ)(g:ρ.room=true)(H:ey (eE K) Q P)(i:dp ρ w w')(d:cG K ρ fr bg){o:Oper}(h:fr.oper?=some o)(f:nk Q o.op=true)(hd:fr.roundOf=none\/∀c,o.op≠.defer c): dn (λw=>stepG.oper Q true fr C none w) w:=by
 have e:(λw=>stepG.oper Q true fr C none w)=λw=>stepG.apply Q true fr C none (execOp fr.eval o) w:=funext λw=>px h hd
 rw[e];exact wa (CP S F.fits H o (.inl g) f (λx j=>r7 F d.tmps x j) (λv=>⟨rfl,rfl⟩) λ_=>⟨rfl,rfl⟩) i d.early.1 d.sw.1
theorem Hd(S:bK Q P)(F:Fit Q ρ)(ar:ρ.room=true)(H:ey (eE K) Q P)(p:dp ρ w w')(m:cG K ρ fr bg)(U:fr.mode=.run)(ay:Plain K fr bg)(main:Bool)(st:GoStatus)(off:Option (Array CommCase×CommShape)): dn (λw=>stepG Q main {frame:=fr,callers:=C,status:=st,dying:=none,offers:=off} w) w:=by
 obtain⟨L,z,M,af,R,T,ag,y,ah,aj⟩:=id m;obtain⟨fn,tmps,todo,defers,mode,kind,roundOf⟩:=fr;obtain⟨aw,Z,aD,J,aC,aA,I⟩:=bg;dsimp only at L z M af R T ag y ah aj U;subst L;subst T;subst U;cases R;have D:∀(q:Option Code),(∀c,q=some c->codeOk Q true c=true)->dn (λw=>k8 Q main ⟨fn,tmps,todo,defers,.run,kind,roundOf⟩ C w q) w:=
  λq ap=>Ii F p m main q ap
 cases M with
 | nil=>simp only[step_end];exact D none (by simp)
 | @cons i az k Y ao ax=>
  cases ao with
  | inBlock id=>exact dn.go _ _ _
  | inLoop h=>exact dn.go _ _ _
  | inScope h=>exact dn.go _ _ _
  | inRangeFunc h=>exact .ended ⟨_,_,_,rfl⟩
  | @endRangeFunc l aH h=>
   refine dn.run (CL (Q:=Q) (P:=P) S h) p (λx=>GStep.after (seen Q fn x.2) (match x.1 with
    | .ok q w=>.go {frame:=⟨fn,tmps,(q.map Item.code).toList++k,defers,.run,kind,roundOf⟩,callers:=C,status:=.running,dying:=none} w
    | .halt (.panic v) w=>.go {frame:=Frame.raise ⟨fn,tmps,.endRangeFunc l::k,defers,.run,kind,roundOf⟩ [{v,recovered:=false}],callers:=C,status:=.running,dying:=none} w
    | .halt _ w=>.ended (.stuck "range over a function: no such loop" (Frame.pos Q ⟨fn,tmps,.endRangeFunc l::k,defers,.run,kind,roundOf⟩)) w)) ?_ ?_ ?_
   . intro a aG bd _
     exact dn.after _ (dn.go _ _ _)
   . intro v aG bd _
     exact dn.after _ (dn.go _ _ _)
   . intro h aG bd _ n
     cases h<;>first|exact n.elim|exact⟨_,_,_,rfl⟩
  | beginRound=>
   refine wa (P:=P) (ρ:=ρ) (w':=w') (a6:=do I.elim (stuck "beginRound: no round") Instr.beginRound;pure .skip) ?_ p m.early.1 m.sw.1;cases y with
   | none=>exact .stuck
   | some B=>exact sP (CJ S B)
  | @inRegion ops l h=>
   cases l with
   | nil=>exact dn.go _ _ _
   | cons i rest=>
    simp only[pM];split
    . rename_i X
      rcases G:ops[i]? with _|o
      . rw[G] at X;cases X
      obtain⟨q1,av⟩:=BM h G;exact JK S F ar H p m (o:=o) (by simp[Frame.oper?,G]) q1 (by
       cases y with
       | none=>exact .inl rfl
       | some _=>exact .inr (av rfl))
    . exact dn.go _ _ _
  | @code c bo h=>
   cases c with
   | skip=>exact dn.go _ _ _
   | label l=>exact dn.go _ _ _
   | refuse aE=>exact .ended ⟨_,_,_,rfl⟩
   | ret=>simp only[step_ret];exact D _ (by rintro c e;cases e;rfl)
   | exit id=>
    simp only[step_exit];cases exitTo id k with
    | none=>exact D (some (.exit id)) (by rintro c e;cases e;rfl)
    | some e=>exact dn.go _ _ _
   | goto id=>
    simp only[step_goto];cases gotoIn id k with
    | none=>exact D (some (.goto id)) (by rintro c e;cases e;rfl)
    | some e=>exact dn.go _ _ _
   | seq a b=>exact dn.go _ _ _
   | cond x a b=>
    simp only[stepG,stepG.exec];split
    . exact dn.go _ _ _
    . exact .ended ⟨_,_,_,rfl⟩
   | block id a=>exact dn.go _ _ _
   | loop a=>exact dn.go _ _ _
   | scope a=>exact dn.go _ _ _
   | region id ops d=>
    simp only[yG];cases d with
    | false=>exact dn.go _ _ _
    | true=>
     simp only[Bool.not_true,Bool.false_eq_true,if_false];intro g aF gs e;cases e;refine⟨rfl,Nat.le_succ _,λaL au=>?_⟩;have:aL w.drawn=w.tape w.drawn:=au _ Pk (Nat.lt_succ_self _);show GStep.go {frame:=⟨fn,tmps,.inRegion ops (Region.schedule (Q.follows .mixedOrders) ops (aL w.drawn (.order fn id)))::k,defers,.run,kind,roundOf⟩,callers:=C,status:=.running,dying:=none} (c9 {w with drawn:=w.drawn+1} aL) #[]=_;rw[this]
   | rangeFunc f u a b=>
    cases h with
    | same h=>
    simp only[codeOk,Bool.and_eq_true] at h;have n:ρ.dw a/\ρ.dw b:=by rw[F.dw];exact h.2
    have am:=r7 F (fr:=⟨fn,tmps,.code (.rangeFunc f u a b)::k,defers,.run,kind,roundOf⟩) (bg:=⟨fn,Z,.code (.rangeFunc f u a b)::Y,J,.run,kind,I⟩) z f h.1;refine dn.run (yx (Q:=Q) (P:=P) fn z u a b n y) p (λx=>GStep.after (seen Q fn x.2) (match x.1 with
     | .ok (l,mark) w=>stepG.apply Q true ⟨fn,tmps,.inRangeFunc l::k,mark++defers,.run,kind,roundOf⟩ C none (do let d <-resolve (Frame.eval ⟨fn,tmps,.inRangeFunc l::k,mark++defers,.run,kind,roundOf⟩) {callee:=.value f,args:=#[.const (.func (.yield l) #[] #[])],argTypes:=#[]} 0;invoke d.target d.args) w
     | .halt _ w=>.ended (.stuck "range over a function: no such loop" (Frame.pos Q ⟨fn,tmps,.code (.rangeFunc f u a b)::k,defers,.run,kind,roundOf⟩)) w)) ?_ ?_ ?_
    . rintro⟨l,mark⟩ aG bd E
      dsimp only;refine dn.after _ ?_;rcases mA (yx (Q:=Q) (P:=P) fn z u a b n y) p with ⟨v,aa,aG,bW,ai,bd,ae,j,ad,he,W,V,al⟩|⟨v,aa,aG,bW,ai,bd,ae,j,ad,he,W,V,al⟩|⟨x,aG,bd,j,n⟩
      . rw[E] at j
        cases j;obtain⟨aH,aB⟩:=aa;obtain⟨B,aq⟩:=V;dsimp only at B aq;refine wa (P:=P) (ρ:=ai) (w':=bW) (a6:=do let d <-resolve (Frame.eval ⟨fn,Z,.code (.rangeFunc f u a b)::Y,J,.run,kind,I⟩) {callee:=.value f,args:=#[.const (.func (.yield aH) #[] #[])],argTypes:=#[]} 0;invoke d.target d.args) ?_ W m.early.1 ?_
        . have ak:bE ai #[Value.func (.yield l) #[] #[]] #[Value.func (.yield aH) #[] #[]]:=nz (.func (.yield B) rfl (by simp) rfl (by simp))
          simp only[resolve,List.map_toArray,List.map_cons,List.map_nil];exact yw S (F.mono he.le).fits H (am.mono he.le) ak
        . intro d b r s k e
          cases e
      . rw[E] at j;cases j
      . rw[E] at j;cases j
    . intro v aG bd _
      exact .ended ⟨_,_,_,rfl⟩
    . intro h aG bd _ n
      exact⟨_,_,_,rfl⟩
theorem Om(S:bK Q P)(F:Fit Q ρ)(H:ey (eE K) Q P)(g:dp ρ w w')(f:cG K ρ fr bg)(B:fr.mode≠.run)(hC:C≠[])(main:Bool): dn (λw=>unwind Q main fr C none w) w:=by
 have j:=f.defers;obtain⟨fn,tmps,todo,defers,mode,kind,ro⟩:=fr;obtain⟨L,ad,ae,I,X,W,aa⟩:=bg;dsimp only at j;cases j with
 | @cons d q i J hd U=>
  obtain⟨t,a⟩:=d;obtain⟨a',G⟩:=q;have m:=hd.target;dsimp only at m;cases m with
  | @collected r Z y=>
   refine dn.run (C8 (Q:=Q) (P:=P) y) g (λx=>GStep.after (seen Q fn x.2) (match x.1 with
    | .ok n w=>.go {frame:=⟨fn,tmps,todo,n++i,mode,kind,ro⟩,callers:=C,status:=.running,dying:=none} w
    | .halt _ w=>.ended (.stuck "the deferred calls of a range-over-func loop have been taken" (Frame.pos Q ⟨fn,tmps,todo,{target:=.collected r,args:=a}::i,mode,kind,ro⟩)) w)) ?_ ?_ ?_
   . intro v aG bd _
     exact dn.after _ (dn.go _ _ _)
   . intro v aG bd _
     exact .ended ⟨_,_,_,rfl⟩
   . intro h aG bd _ u
     exact⟨_,_,_,rfl⟩
  | nil=>exact zF S H g hd
  | fn R T=>exact zF S H g hd
 | nil=>
  have l:=f.mode;dsimp only at l;cases l with
  | run=>exact absurd rfl B
  | panicking V=>
   have D:=f.sw;have o:∀(p:Program) (fr:Frame),oT fr->fr.catches p=false:=by
    intro p fr h;unfold Frame.catches;split
    . rename_i e
      exact absurd e (h _ _ _ _ _)
    . rfl
   rcases C with _|⟨c,C⟩
   . exact absurd rfl hC
   simp only[unwind,o _ _ D.1];exact dn.go _ _ _
  | returning=>
   have z:=f.ret rfl;obtain⟨M,g7,q1,Y,E⟩:=f.known z;simp only[unwind,q1];refine dn.run (yC (ρ:=ρ) S E f.tmps) g (λx=>GStep.after (seen Q fn x.2) (match x.1 with
    | .ok v w=>doReturn Q main ⟨fn,tmps,todo,[],.returning,kind,ro⟩ C none v w
    | .halt (.stuck s) w=>.ended (.stuck s (Frame.pos Q ⟨fn,tmps,todo,[],.returning,kind,ro⟩)) w
    | .halt _ w=>.ended (.stuck "return: the result variables cannot be read" (Frame.pos Q ⟨fn,tmps,todo,[],.returning,kind,ro⟩)) w)) ?_ ?_ ?_
   . intro v aG bd _
     exact dn.after _ (dn.doReturn _ _ _ _ _ _)
   . intro v aG bd _
     exact .ended ⟨_,_,_,rfl⟩
   . intro h aG bd _ u
     cases h<;>exact⟨_,_,_,rfl⟩
theorem M9(S:bK Q P)(F:Fit Q ρ)(f:ρ.room=true)(H:ey (eE K) Q P)(d:dp ρ w w')(c:cG K ρ fr bg)(hC:C≠[])(g:fr.mode=.run->Plain K fr bg)(main:Bool)(st:GoStatus)(off:Option (Array CommCase×CommShape)): dn (λw=>stepG Q main {frame:=fr,callers:=C,status:=st,dying:=none,offers:=off} w) w:=by
 by_cases h:fr.mode=.run
 . exact Hd S F f H d c h (g h) main st off
 . have i:(λw=>stepG Q main {frame:=fr,callers:=C,status:=st,dying:=none,offers:=off} w)=λw=>unwind Q main fr C none w:=by
    obtain⟨fn,tmps,todo,defers,mode,kind,ro⟩:=fr;cases mode with
    | run=>exact absurd rfl h
    | _=>rfl
   rw[i];exact Om S F H d c h hC main
end
end
section
variable{Q:Program}{R:Value->World->Prop}{f0:FuncId}
def wall:Frame:={fn:=0,tmps:=#[],todo:=[],defers:=[{target:=.nil,args:=#[]}],mode:=.panicking [],kind:=.normal}
structure cY where
 fr:Frame
 cs:List Frame
 w:World
def cY.gm(V:cY)(aL:Tape): cY:={V with w:=c9 V.w aL}
abbrev cY.g(V:cY): Goroutine:={frame:=V.fr,callers:=V.cs++[wall],status:=.running,dying:=none}
abbrev cY.m(V:cY): Machine:=lone V.fr (V.cs++[wall]) V.w
def cY.stop(V:cY): Prop:=V.cs = []/\V.fr.mode=.returning/\V.fr.defers = []
structure j7(Q:Program)(b6 V:cY): Prop where
 stay:¬ V.stop
 qU:∀k,k<V.w.drawn->b6.w.tape k=V.w.tape k
 mono:V.w.drawn<=b6.w.drawn
 step:∃es,∀aL,rJ aL b6.w.tape V.w.drawn b6.w.drawn->stepG Q true V.g (c9 V.w aL)=.go b6.g (c9 b6.w aL) es
def en(Q:Program)(f0:FuncId)(R:Value->World->Prop)(V:cY): Prop:=
 ∀aL:Tape,(∀k,k<V.w.drawn->aL k=V.w.tape k)->∃v w' bg,R v w'/\Steps Q (V.gm aL).m (lone bg [wall] w')/\bg.leaving Q w' (.returned v)/\bg.fn=f0
theorem oc{a b:Frame}{cs c:List Frame}{w u:World}(h:lone a cs w=lone b c u): a=b/\cs=c/\w=u:=by
 unfold lone at h;injection h with d f m
 injection f with g
 injection g with i _
 injection i with j l
 exact⟨j,l,d⟩
theorem NS(V:cY): V.gm V.w.tape=V:=rfl
theorem DU{c:Frame}(h:(∃v,c=wall.finish v)\/(∃d,c=wall.raise d)\/c=wall\/∃m,c={wall with mode:=m}/\wall.mode≠.panicking [])(w:World): ∃o w',step Q (lone c [] w)=.ended o w':=by
 have key:∀ch,∃o w',step Q (lone {wall with mode:=.panicking ch} [] w)=.ended o w':=λch=>
  ⟨_,_,step_lone_ended (o:=.unsupported (.noEntry "machine/Return: a deferred call of a nil function value, made while the frame is unwinding") (Frame.pos Q {wall with mode:=.panicking ch,defers:=[]})) (w':=w) (by simp only[stepG,wall,unwind,callDeferred];rfl)⟩
 rcases h with ⟨v,rfl⟩|⟨d,rfl⟩|rfl|⟨m,rfl,hm⟩
 . exact key []
 . have:wall.raise d={wall with mode:=.panicking d}:=by simp[Frame.raise,wall]
   rw[this];exact key d
 . exact key []
 . exact absurd rfl hm
theorem sS{V:cY}{g:Goroutine}{aG:World}{es:Array Event}{fr:Frame}{cs:List Frame}(h:stepG Q true V.g V.w=.go g aG es)(c:g={frame:=fr,callers:=cs,status:=.running,dying:=none}): step Q V.m=.next (lone fr cs aG):=by subst c;exact step_lone_go (by rw[h];rfl)
theorem en.head{V:cY}(h:en Q f0 R V){aL:Tape}(q:∀k,k<V.w.drawn->aL k=V.w.tape k)(p:¬ V.stop): ∃d v w' bg,step Q (V.gm aL).m=.next d/\R v w'/\Steps Q d (lone bg [wall] w')/\bg.leaving Q w' (.returned v)/\bg.fn=f0:=by
 obtain⟨v,w',bg,m,⟨n,c⟩,f,l⟩:=h aL q;cases n with
 | zero=>
  simp only[runN] at c;injection c with c
  obtain⟨g,i,r⟩:=oc c;refine absurd ⟨?_,?_,?_⟩ p
  . have j:V.cs++[wall] = [wall]:=i
    have:=congrArg List.length j;simpa using this
  . have:V.fr=bg:=g
    rw[this];exact f.1
  . have:V.fr=bg:=g
    rw[this];exact f.2.1
 | succ n=>
  simp only[runN] at c;rcases e:step Q (V.gm aL).m with d|⟨o,aG⟩
  . rw[e] at c
    exact⟨d,v,w',bg,rfl,m,⟨n,c⟩,f,l⟩
  . rw[e] at c;cases c
theorem en.in{V:cY}(h:en Q f0 R V){aL:Tape}(p:∀k,k<V.w.drawn->aL k=V.w.tape k)(l:¬ V.stop){c c₁:Frame}{cs:List Frame}{aG:World}{es:Array Event}(e:stepG Q true V.g (c9 V.w aL)=.go {frame:=c₁,callers:=cs,status:=.running,dying:=none} aG es)(i:[wall]=c::cs)(j:(∃v,c₁=c.finish v)\/(∃q,c₁=c.raise q)\/c₁=c\/∃m,c₁={c with mode:=m}/\c.mode≠.panicking []): False:=by
 obtain⟨rfl,rfl⟩ : c=wall/\cs = []:=by cases i;exact⟨rfl,rfl⟩
 obtain⟨y,v,w',bg,g,w,⟨n,d⟩,u,r⟩:=h.head p l;have f:step Q (V.gm aL).m=.next (lone c₁ [] aG):=sS (V:=V.gm aL) e rfl;rw[g] at f;cases f;cases n with
 | zero=>
  simp only[runN] at d;injection d with d
  obtain⟨_,f,_⟩:=oc d;cases f
 | succ n=>
  obtain⟨o,z,e⟩:=DU (Q:=Q) j aG;simp only[runN,e] at d;cases d
theorem en.live{V:cY}(h:en Q f0 R V){aL:Tape}(g:∀k,k<V.w.drawn->aL k=V.w.tape k)(f:¬ V.stop){o:Outcome}{aG:World}{es:Array Event}(e:stepG Q true V.g (c9 V.w aL)=.ended o aG es): False:=by
 obtain⟨i,v,w',bg,d,_⟩:=h.head g f;have c:step Q (V.gm aL).m=.ended o aG:=step_lone_ended (by show(stepG Q true V.g (c9 V.w aL)).bare=_;rw[e];rfl)
 rw[d] at c;cases c
theorem en.next{V b6:cY}(h:en Q f0 R V)(k:j7 Q b6 V): en Q f0 R b6:=by
 intro aL f;obtain⟨es,o⟩:=k.step;have q:∀k,k<V.w.drawn->aL k=V.w.tape k:=λj d=>(f j (Px d k.mono)).trans (k.qU j d)
 obtain⟨r,v,w',bg,g,n,p,m,i⟩:=h.head q k.stay;have c:step Q (V.gm aL).m=.next (b6.gm aL).m:=sS (V:=V.gm aL) (o aL λj _ l=>f j l) rfl;rw[g] at c;cases c;exact⟨v,w',bg,n,p,m,i⟩
theorem Dh{V:cY}(q:V.stop)(h:V.fr.roundOf=none)(U:V.fr.kind=.normal\/V.fr.kind=.deferred){fn:Func}(g:Q.funcs[V.fr.fn]?=some fn)(n:Nat)(bg:Frame)(cs':List Frame)(w':World): runN Q (n+1) V.m≠.next (lone bg (cs'++[wall]) w'):=by
 intro d;obtain⟨fr,cs,w⟩:=V;obtain⟨s1,s2,i⟩:=q;dsimp only at s1 s2 i h U g d;subst s1;obtain⟨c,tmps,todo,defers,mode,kind,ro⟩:=fr;dsimp only at s2 i h U g;subst s2;subst i;subst h;have e:stepG Q true (cY.g ⟨⟨c,tmps,todo,[],.returning,kind,none⟩,[],w⟩) w=GStep.after (seen Q c ((results fn tmps).runT Q w #[]).2) (match ((results fn tmps).runT Q w #[]).1 with
  | .ok v w=>doReturn Q true ⟨c,tmps,todo,[],.returning,kind,none⟩ [wall] none v w
  | .halt (.stuck s) w=>.ended (.stuck s (Frame.pos Q ⟨c,tmps,todo,[],.returning,kind,none⟩)) w
  | .halt _ w=>.ended (.stuck "return: the result variables cannot be read" (Frame.pos Q ⟨c,tmps,todo,[],.returning,kind,none⟩)) w):=by
  simp only[stepG,unwind,g];rfl
 have bJ:∀{o:Outcome} {aG:World} {es:Array Event},stepG Q true (cY.g ⟨⟨c,tmps,todo,[],.returning,kind,none⟩,[],w⟩) w=.ended o aG es->False:=by
  intro o aG es e;have f:step Q (cY.m ⟨⟨c,tmps,todo,[],.returning,kind,none⟩,[],w⟩)=.ended o aG:=step_lone_ended (by show(stepG Q true (cY.g ⟨⟨c,tmps,todo,[],.returning,kind,none⟩,[],w⟩) w).bare=_;rw[e];rfl)
  simp only[runN,f] at d;cases d
 have l:∀{c₁:Frame} {aG:World} {es:Array Event},stepG Q true (cY.g ⟨⟨c,tmps,todo,[],.returning,kind,none⟩,[],w⟩) w=.go {frame:=c₁,callers:=[],status:=.running,dying:=none} aG es->
  ((∃v,c₁=wall.finish v)\/(∃r,c₁=wall.raise r)\/c₁=wall\/∃m,c₁={wall with mode:=m}/\wall.mode≠.panicking [])->False:=by
  intro c₁ aG es e p;have f:step Q (cY.m ⟨⟨c,tmps,todo,[],.returning,kind,none⟩,[],w⟩)=.next (lone c₁ [] aG):=sS e rfl;simp only[runN,f] at d;cases n with
  | zero=>
   simp only[runN] at d;injection d with d
   obtain⟨_,f,_⟩:=oc d;have:=congrArg List.length f;simp at this
  | succ n=>
   obtain⟨o,u,e⟩:=DU (Q:=Q) p aG;simp only[runN,e] at d;cases d
 rcases j:(results fn tmps).runT Q w #[] with ⟨⟨v,aG⟩|⟨x,aG⟩,es⟩
 . rw[j] at e
   rcases U with U|U
   . subst U
     exact l (c₁:=wall.finish v) (by rw[e];rfl) (.inl ⟨v,rfl⟩)
   . subst U
     exact l (c₁:=wall) (by rw[e];rfl) (.inr (.inr (.inl rfl)))
 . rw[j] at e
   cases x<;>exact bJ e
theorem en.stopped{V:cY}(h:en Q f0 R V)(p:V.stop)(o:V.fr.roundOf=none)(j:V.fr.kind=.normal\/V.fr.kind=.deferred){fn:Func}(i:Q.funcs[V.fr.fn]?=some fn):
 ∃v,R v V.w/\V.fr.leaving Q V.w (.returned v)/\V.fr.fn=f0:=by
 obtain⟨v,w',bg,m,⟨n,c⟩,l,g⟩:=h V.w.tape (λ_ _=>rfl);rw[NS] at c;cases n with
 | zero=>
  simp only[runN] at c;injection c with c
  obtain⟨d,q,f⟩:=oc c;refine⟨v,?_,?_,?_⟩
  . rw[f];exact m
  . rw[d,f];exact l
  . rw[d];exact g
 | succ n=>exact absurd c (Dh p o j i n bg [] w')
theorem en.acc{V:cY}(h:en Q f0 R V): Acc (j7 Q) V:=by
 refine Classical.byContradiction λF=>?_
 have hQ:∀V:cY,¬ Acc (j7 Q) V->∃b6,j7 Q b6 V/\¬ Acc (j7 Q) b6:=by
  intro V C;refine Classical.byContradiction λg=>C (Acc.intro _ λb6 D=>?_)
  exact Classical.byContradiction λq=>g ⟨b6,D,q⟩
 let S:={V:cY // ¬ Acc (j7 Q) V}
 let w:S->S:=λs=>⟨Classical.choose (hQ s.1 s.2),(Classical.choose_spec (hQ s.1 s.2)).2⟩
 have G:∀s:S,j7 Q (w s).1 s.1:=λs=>(Classical.choose_spec (hQ s.1 s.2)).1
 let c:Nat->S:=λn=>Nat.rec ⟨V,F⟩ (λ_ s=>w s) n
 have I:(c 0).1=V:=rfl;have r:∀n,j7 Q (c (n+1)).1 (c n).1:=λn=>G (c n)
 have keep:∀n d k,k<(c n).1.w.drawn->(c (n+d)).1.w.tape k=(c n).1.w.tape k/\(c n).1.w.drawn<=(c (n+d)).1.w.drawn:=by
  intro n d k f;induction d with
  | zero=>exact⟨rfl,Pk⟩
  | succ d i=>
   have q:=r (n+d);exact⟨(q.qU k (Px f i.2)).trans i.1,Po i.2 q.mono⟩
 have same:∀n m k,k<(c n).1.w.drawn->k<(c m).1.w.drawn->(c n).1.w.tape k=(c m).1.w.tape k:=by
  intro n m k g hm;rcases Nat.le_total n m with ah|ah
  . obtain⟨d,rfl⟩:=Nat.exists_eq_add_of_le ah
    exact(keep n d k g).1.symm
  . obtain⟨d,rfl⟩:=Nat.exists_eq_add_of_le ah
    exact(keep m d k hm).1
 let aL:Tape:=λk=>(c (Classical.epsilon λn=>k<(c n).1.w.drawn)).1.w.tape k
 have u:∀n k,k<(c n).1.w.drawn->aL k=(c n).1.w.tape k:=by
  intro n k f;have y:∃n,k<(c n).1.w.drawn:=⟨n,f⟩
  exact same _ _ k (Classical.epsilon_spec (p:=λn=>k<(c n).1.w.drawn) y) f
 have run:∀n,runN Q n ((c 0).1.gm aL).m=.next ((c n).1.gm aL).m:=by
  intro n;induction n with
  | zero=>rfl
  | succ n i=>
   obtain⟨es,H⟩:=(r n).step;have l:step Q ((c n).1.gm aL).m=.next ((c (n+1)).1.gm aL).m:=sS (V:=(c n).1.gm aL) (H aL λj _ E=>u (n+1) j E) rfl;rw[runN_add,i];simp only[runN,l]
 obtain⟨v,w',bg,_,⟨n,g⟩,ah,_⟩:=h aL λk f=>u 0 k f
 have o:=run n;rw[I,g] at o;injection o with o
 obtain⟨l,z,J⟩:=oc o;refine(r n).stay ⟨?_,?_,?_⟩
 . have B:[wall]=(c n).1.cs++[wall]:=z
   have:=congrArg List.length B;simpa using this
 . have:bg=(c n).1.fr:=l
   rw[<-this];exact ah.1
 . have:bg=(c n).1.fr:=l
   rw[<-this];exact ah.2.1
theorem en.xO{f:FuncId}{args:Array Value}{w:World}(h:∀aL:Tape,(∀k,k<w.drawn->aL k=w.tape k)->Calls Q f args (c9 w aL) λe w'=>∃v,e=.returned v/\R v w'): en Q f R ⟨Frame.enter Q f args .normal,[],w⟩:=by intro aL j;obtain⟨e,w',bg,⟨v,rfl,g⟩,i,c,d⟩:=h aL j [wall];exact⟨v,w',bg,g,i,d,c⟩
end
section
variable{Q P:Program}{R:Value->World->Prop}{f0:FuncId}{K:fV Q P}{ρ ai:Ren}
def h5(Q:Program): fV Q Q:=⟨λ_ _ _=>False,λ_=>False⟩
structure Self(Q:Program)(V:cY): Prop where
 ex:∃ai:Ren,Fit Q ai/\ai.room=true/\cG (h5 Q) ai V.fr V.fr/\cA (cG (h5 Q) ai) V.cs V.cs/\dp ai V.w V.w
theorem dp.KW{w w':World}{aL:Tape}(h:dp ρ w w')(c:w=w'): dp ρ (c9 w aL) (c9 w' aL):=by subst c;exact⟨h.obj,λ_ _=>rfl,h.lim,h.iI⟩
theorem en.gm{V:cY}(h:en Q f0 R V){aL:Tape}(f:∀k,k<V.w.drawn->aL k=V.w.tape k): en Q f0 R (V.gm aL):=λai d=>h ai λk c=>(d k c).trans (f k c)
theorem BY{fr bg:Frame}: Plain (h5 Q) fr bg:=λ_ _ _ _ _ _ _ _ h=>h
theorem pE{V:cY}{c:String}(h:V.fr.todo = [.code (.refuse c)])(hm:V.fr.mode=.run)(w:World): ∃o w' es,stepG Q true V.g w=.ended o w' es:=by obtain⟨⟨fn,tmps,todo,defers,mode,kind,ro⟩,cs,aI⟩:=V;dsimp only at h hm;subst h;subst hm;exact⟨_,_,_,rfl⟩
theorem oi{V:cY}(h:V.fr.mode=.run): ¬ V.stop:=λk=>by rw[k.2.1] at h;cases h
theorem Self.known{V:cY}(h:Self Q V)(g:V.stop): V.fr.roundOf=none/\(V.fr.kind=.normal\/V.fr.kind=.deferred)/\∃fn,Q.funcs[V.fr.fn]?=some fn:=by obtain⟨ai,_,_,c,_⟩:=h;have d:=c.ret g.2.1;obtain⟨f,g7,q1,_⟩:=c.known d;exact⟨d,c.kindOk,f,q1⟩
theorem bK.refl(Q:Program): bK Q Q:=⟨rfl⟩
theorem vt{fr bg:Frame}(h:nL (h5 Q) ai fr bg): cG (h5 Q) ai fr bg\/∃c,fr.todo = [.code (.refuse c)]/\fr.mode=.run:=by
 cases h with
 | plain h=>exact .inl h
 | refused c h hm=>exact .inr ⟨c,h,hm⟩
 | qq h=>exact h.elim
theorem Cv(eo:ey (eE (h5 Q)) Q Q){V:cY}(l:en Q f0 R V)(I:Self Q V)(n:¬ V.stop){aL:Tape}(p:∀k,k<V.w.drawn->aL k=V.w.tape k):
 ∃b6 es,j7 Q b6 V/\Self Q b6/\en Q f0 R b6/\b6.w.tape=aL/\stepG Q true V.g (c9 V.w aL)=.go b6.g b6.w es:=by
 obtain⟨ai,F,m,y,K,i⟩:=I;have i:=i.KW (aL:=aL) rfl;have u:=Dg (du:=[wall]) (base:=[wall]) (bK.refl Q) F m eo i y K (by simp) (λ_=>BY) true true .running .running none none;have loc:=M9 (C:=V.cs++[wall]) (bK.refl Q) F m eo i y (by simp) (λ_=>BY) true .running none;generalize e:stepG Q true {frame:=V.fr,callers:=V.cs++[wall],status:=.running,dying:=none} (c9 V.w aL)=r at u;cases r with
 | go g aG es=>
  obtain⟨q,W,X⟩:=loc g aG es e;rcases u with ⟨Y,cs,bg,cs',bW,e3,d,f,he,T,⟨S,ae⟩,M,ad⟩|⟨c,c₁,J,f,L⟩
  . injection d with d j H
    subst j;subst H;have E:cs=cs':=by have:=congrArg Goroutine.callers d;rw[f] at this;exact List.append_cancel_right this
    have G:g.frame=bg:=congrArg Goroutine.frame d;subst E;subst G;have z:g=cY.g ⟨g.frame,cs,aG⟩:=f;have B:j7 Q ⟨g.frame,cs,aG⟩ V:=⟨n,λk P=>by
     show aG.tape k=_;rw[q];exact p k P,W,es,λZ U=>by
     rw[<-z];exact X Z λk d j=>by have:=U k d j;dsimp only at this;rw[this,q]⟩
    have w:=l.next B;refine⟨⟨g.frame,cs,aG⟩,es,B,?_,w,q,?_⟩
    . rcases vt S with h|⟨af,h,hm⟩
      . exact⟨Y,F.mono he.le,he.le.room.trans m,h,M,T⟩
      . obtain⟨o,w2,aa,D⟩:=pE (Q:=Q) (V:=⟨g.frame,cs,aG⟩) h hm aG
        exact(w.live (aL:=aG.tape) (λ_ _=>rfl) (oi hm) D).elim
    . rw[<-z]
  . exact(l.in p n (c:=c) (c₁:=c₁) (cs:=g.callers) (aG:=aG) (es:=es) (by rw[<-f];exact e) J L).elim
 | ended o aG es=>exact(l.live p n e).elim
 | _=>exact u.elim
inductive ds(Q:Program): cY->cY->Prop
 | one {b6 V:cY} (h:j7 Q b6 V):ds Q b6 V
 | more {tp b6 V:cY} (h:j7 Q b6 V) (k:ds Q tp b6):ds Q tp V
theorem ds.acc{V:cY}(h:Acc (j7 Q) V): Acc (ds Q) V:=by
 induction h with
 | intro V _ c=>
  refine Acc.intro _ λb6 d=>?_
  cases d with
  | one h=>exact c _ h
  | more h k=>exact(c _ h).inv k
theorem Cw(eo:ey (eE (h5 Q)) Q Q){aL:Tape}{fr:Frame}{cs:List Frame}{aG:World}: ∀(n:Nat) {V:cY},en Q f0 R V->Self Q V->V.w.tape=aL->runN Q n V.m=.next (lone fr (cs++[wall]) aG)->
 en Q f0 R ⟨fr,cs,aG⟩/\Self Q ⟨fr,cs,aG⟩/\aG.tape=aL/\(V=⟨fr,cs,aG⟩\/ds Q ⟨fr,cs,aG⟩ V):=by
 intro n;induction n with
 | zero=>
  intro V h g d c;simp only[runN] at c;injection c with c
  obtain⟨j,f,l⟩:=oc c;have f:=List.append_cancel_right f;obtain⟨bg,cs',w'⟩:=V;dsimp only at j f l d;subst j;subst f;subst l;exact⟨h,g,d,.inl rfl⟩
 | succ n u=>
  intro V h g d c;by_cases i:V.stop
  . obtain⟨w,y,fn,z⟩:=g.known i
    exact absurd c (Dh i w y z n fr cs aG)
  obtain⟨b6,es,m,q,p,r,he⟩:=Cv eo h g i (aL:=aL) (λk D=>by rw[d]);have o:step Q V.m=.next b6.m:=sS (by
   have:c9 V.w aL=V.w:=by rw[<-d];rfl
   rw[this] at he;exact he) rfl
  simp only[runN,o] at c;obtain⟨r1,B,C,r4⟩:=u p q r c;refine⟨r1,B,C,.inr ?_⟩;rcases r4 with rfl|r4
  . exact .one m
  . exact .more m r4
structure gb(ρ:Ren)(w w':World): Prop where
 obj:∀b aA,ρ.r b aA->∃o aS,w.heap[b]?=some o/\w'.heap[aA]?=some aS/\ev ρ o aS
 lim:ρ.lim<=w.heap.size
 iI:ρ.lim<=w'.heap.size
def gF(w w':World): Tape:=λk=>if k<w.drawn then w.tape k else w'.tape (w'.drawn+(k-w.drawn))
theorem yq{w w':World}(k:Nat)(h:k<w.drawn): gF w w' k=w.tape k:=if_pos h
theorem gb.vF{w w':World}(h:gb ρ w w'): dp ρ (c9 w (gF w w')) w':=⟨h.obj,λn q=>by show gF w w' (w.drawn+n) q=_;unfold gF;rw[if_neg (by omega)];congr 2;omega,h.lim,h.iI⟩
theorem dp.hrel{w w':World}(h:dp ρ w w'): gb ρ w w':=⟨h.obj,h.lim,h.iI⟩
structure lD(K:fV Q P)(ρ:Ren)(V:cY)(bg:Frame)(cs':List Frame)(w':World): Prop where
 fit:Fit Q ρ
 room:ρ.room=true
 fr:cG K ρ V.fr bg
 cs:cA (cG K ρ) V.cs cs'
 heap:gb ρ V.w w'
structure vK(K:fV Q P)(ρ:Ren)(V:cY)(bg:Frame)(cs':List Frame)(w':World): Prop where
 fit:Fit Q ρ
 room:ρ.room=true
 fr:∃f a b kind,K.fn f/\(kind=.normal\/kind=.deferred)/\bE ρ a b/\V.fr=Frame.enter Q f a kind/\bg=Frame.enter P f b kind/\∀n,dX Q f=some n->a.size=n
 some:V.cs≠[]
 cs:cA (cG K ρ) V.cs cs'
 heap:gb ρ V.w w'
theorem fe.DK{w:World}{aL:Tape}{e:Event}(h:fe ρ (c9 w aL) e): fe ρ w e:=by
 cases h with
 | cell h a b g i=>exact .cell h a b g i
 | obj h a g=>exact .obj h a g
 | mark h=>exact .mark h
theorem BU(S:bK Q P)(eo:ey (eE (h5 Q)) Q Q)(H:ey (eE K) Q P){V:cY}{bg:Frame}{cs' base:List Frame}{w':World}(w:en Q f0 R V)(T:Self Q V)(p:lD K ρ V bg cs' w')(B:¬ V.stop)(ak:V.fr.mode=.run->Plain K V.fr bg)(D:Bool)(I:GoStatus)(E:Option (Array CommCase×CommShape)):
 ∃b6 ai d g bW e3,stepG P D {frame:=bg,callers:=cs'++base,status:=I,dying:=none,offers:=E} w'=.go {frame:=d,callers:=g++base,status:=.running,dying:=none} bW e3/\
  j7 Q b6 V/\en Q f0 R b6/\Self Q b6/\Eff ρ ai (c9 V.w (gF V.w w')) b6.w w' bW/\(∀e∈e3,fe ai V.w e)/\(lD K ai b6 d g bW\/vK K ai b6 d g bW):=by
 obtain⟨F,z,af,Z,ag⟩:=p;obtain⟨b6,es,am,U,y,ap,he⟩:=Cv eo w T B (aL:=gF V.w w') yq;have G:=Dg (du:=[wall]) (base:=base) S F z H ag.vF af Z (by simp) ak true D .running I none E;have ad:stepG Q true {frame:=V.fr,callers:=V.cs++[wall],status:=.running,dying:=none} (c9 V.w (gF V.w w'))=.go b6.g b6.w es:=he;rw[ad] at G;rcases G with ⟨ai,cs,d,g,bW,e3,M,m,j,r,⟨al,aj⟩,l,ae⟩|⟨c,c₁,Y,m,aa⟩
 . have L:b6.cs=cs:=by have:=congrArg Goroutine.callers m;exact List.append_cancel_right this
   subst L;refine⟨b6,ai,d,g,bW,e3,M,am,y,U,j,λe h=>(ae e h).DK,?_⟩;have i:=F.mono j.le;have q:=j.le.room.trans z;have C:nL K ai b6.fr d:=al;have hne':cG K ai b6.fr d\/b6.cs≠[]:=aj;rcases hne' with p|hne'
   . exact .inl ⟨i,q,p,l,r.hrel⟩
   generalize u:b6.fr=x at C;cases C with
   | plain h=>exact .inl ⟨i,q,by rw[u];exact h,l,r.hrel⟩
   | refused aq h hm=>
    rw[<-u] at h hm;obtain⟨o,w2,ao,J⟩:=pE (Q:=Q) (V:=b6) h hm b6.w;exact(y.live (aL:=b6.w.tape) (λ_ _=>rfl) (oi hm) J).elim
   | @qq f a b kind h ah W X=>exact .inr ⟨i,q,⟨f,a,b,kind,h,ah,W,u,rfl,λn e=>X n (by rw[i.fits.dy];exact e)⟩,hne',l,r.hrel⟩
 . exact(w.in yq B (c:=c) (c₁:=c₁) (cs:=b6.g.callers) (aG:=b6.w) (es:=es) (by rw[<-m];exact he) Y aa).elim
theorem xZ(S:bK Q P){V:cY}{bg:Frame}{cs' base:List Frame}{w':World}(H:en Q f0 R V)(J:Self Q V)(W:lD K ρ V bg cs' w')(o:V.stop)(C:Bool)(aj:GoStatus)(af:Option (Array CommCase×CommShape)):
 ∃v q ai bW e3,R v (c9 V.w (gF V.w w'))/\aM ai v q/\cs' = []/\bg.kind=.normal/\bg.fn=f0/\
  stepG P C {frame:=bg,callers:=cs'++base,status:=aj,dying:=none,offers:=af} w'=GStep.after e3 (doReturn P C bg base none q bW)/\
  Eff ρ ai (c9 V.w (gF V.w w')) (c9 V.w (gF V.w w')) w' bW/\dp ai (c9 V.w (gF V.w w')) bW/\(∀e∈e3,fe ai V.w e):=by
 obtain⟨Y,Z,fn,aa⟩:=J.known o;obtain⟨v,I,U,L⟩:=(H.gm (aL:=gF V.w w') yq).stopped o Y Z aa;obtain⟨F,ao,d,u,M⟩:=W;obtain⟨s1,s2,ah⟩:=o;have X:=d.ret s2;obtain⟨f,g7,q1,D,ag⟩:=d.known X;obtain⟨aq,ar,ad,G,ae,p⟩:=U;have B:Q.funcs[V.fr.fn]?=some G:=ae;rw[q1] at B;cases B;rw[s1] at u;cases u;have j:=d.fn;have m:=d.defers;have n:=d.mode;rw[ah] at m;rw[s2] at n;have T:=d.kind;rcases mA (yC S ag d.tmps) M.vF with ⟨a,E,aG,bW,ai,bd,r,g,l,he,z,y,w⟩|⟨v,q,aG,bW,ai,bd,r,g,l,he,z,y,w⟩|⟨x,aG,bd,g,am⟩
 . have c:(results f V.fr.tmps).run Q (c9 V.w (gF V.w w'))=.ok a aG:=by rw[<-Sem.runT_fst Q _ _ #[],g]
   have i:(results f V.fr.tmps).run Q (c9 V.w (gF V.w w'))=.ok v (c9 V.w (gF V.w w')):=p;rw[i] at c;cases c;refine⟨v,E,ai,bW,seen P bg.fn r,I,y,rfl,by rw[<-T];exact ad,by rw[<-j];exact L,?_,he,z,λe h=>(w e (lX _ _ _ e h)).DK⟩;obtain⟨al,aw,ax,ak,au,ap,av⟩:=bg;dsimp only at j m n l;cases m;cases n;rw[j] at D;simp only[stepG,unwind,D,l,List.nil_append]
 . have c:(results f V.fr.tmps).run Q (c9 V.w (gF V.w w'))=.halt (.panic v) aG:=by rw[<-Sem.runT_fst Q _ _ #[],g]
   have i:(results f V.fr.tmps).run Q (c9 V.w (gF V.w w'))=.ok _ (c9 V.w (gF V.w w')):=p;rw[i] at c;cases c
 . have c:(results f V.fr.tmps).run Q (c9 V.w (gF V.w w'))=.halt x aG:=by rw[<-Sem.runT_fst Q _ _ #[],g]
   have i:(results f V.fr.tmps).run Q (c9 V.w (gF V.w w'))=.ok _ (c9 V.w (gF V.w w')):=p;rw[i] at c;cases c
end
end Go.aN
