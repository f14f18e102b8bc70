/- A part; no conditions. -/
import Derived.Test.YtkifbmfagkjikaaGreatDoorP3
set_option maxHeartbeats 8000000
set_option maxRecDepth 100000
set_option linter.all false
namespace Go.aO
attribute [-simp] Go.Sem.runT_eq
variable{es:Array Event}{l:Bool}{bo c fr:Frame}{fn:Func}{base cs cs':List Frame}{aG w w':World}{f:World->GStep}
section
variable{Q P:Program}{K:g8 Q P}{ρ ai:Ren}{α β:Type}
def dM(w:World)(aR:Tape):World:={w with tape:=aR}
def GF{α:Type}:Result α->Tape->Result α
 |.ok a w,aR=>.ok a (dM w aR)
 |.halt h w,aR=>.halt h (dM w aR)
def sV{α:Type}:Result α->World
 |.ok _ w=>w
 |.halt _ w=>w
def tG(aR ai:Tape)(m n:Nat):Prop:=∀k,m<=k->k<n->aR k=ai k
def hx(Q:Program)(s:Sem α)(w:World)(es:Array Event):Prop:=
 (∀h aG,(s.runT Q w es).1=.halt h aG->¬jU h)->
  (sV (s.runT Q w es).1).tape=w.tape/\w.drawn<=(sV (s.runT Q w es).1).drawn/\
   ∀aR,tG aR w.tape w.drawn (sV (s.runT Q w es).1).drawn->s.runT Q (dM w aR) es=(GF (s.runT Q w es).1 aR,(s.runT Q w es).2)
def hx.step{s hs:Sem α}{kG:Array Event}(e:s.runT Q w es=hs.runT Q aG kG)(d:aG.tape=w.tape)(hd:w.drawn<=aG.drawn)(k:∀aR,(aG.drawn≠w.drawn->aR w.drawn=w.tape w.drawn)->s.runT Q (dM w aR) es=hs.runT Q (dM aG aR) kG)(h:hx Q hs aG kG):hx Q s w es:=by intro c;rw[e]at c ⊢;obtain⟨g,i,l⟩:=h c;refine⟨g.trans d,cL hd i,λaR f=>?_⟩;rw[k aR λo=>f _ bg U];exact l aR λj n m=>by rw[f j U m,d]
def hx.pX{s:Sem α}{ba:Array Event}{h:Halt}(e:s.runT Q w es=(.halt h aG,ba))(c:jU h):hx Q s w es:=by intro k;exact absurd c (k h aG (by rw[e]))
def hx.dp{s:Sem α}(h:cY Q s):hx Q s w es:=by
 obtain⟨x,w',e,g,_⟩:=h w;have c:(s.runT Q w es).1=.halt x w':=by rw[Sem.runT_fst,e]
 intro k;exact absurd g (k x w' c)
def ef.loc{A:Ren->α->β->Prop}{s:Sem α}:∀{ρ:Ren} {w w':World} {aX:Sem β} {es:Array Event},ef l Q P A s ρ aX->dA ρ w w'->hx Q s w es:=by
 induction s with
 |pure a=>
  intro ρ w w' aX es _ f _;exact⟨rfl,bg,λaR _=>rfl⟩
 |load m a k i=>
  rintro ρ w w' aX es (hd|⟨T,u,rfl,z,g⟩) f
  .exact .dp hd
  rcases yT f z with⟨v,Y,I,K,R⟩|I
  .refine hx.step (hs:=k v) (aG:=w) (kG:=es.push ⟨.cell a,false,m == .atomic⟩) (by simp only[Sem.runT,I]) rfl bg (λaR _=>?_) (i v (g v Y R) f)
   have J:(dM w aR).cell? a=some v:=I;simp only[Sem.runT,J]
  .obtain⟨s,M⟩:=zd (Q:=Q) f z (m == .atomic)
   exact .pX (by simp only[Sem.runT,I,M];rfl) (show jU (.stuck s)from trivial)
 |store m a v k i=>
  rintro ρ w w' aX es (hd|⟨T,Y,u,rfl,z,R,g⟩) f
  .exact .dp hd
  by_cases U:∃c,v=.agg c
  .obtain⟨c,rfl⟩:=U
   exact .pX (h:=.stuck _) (by simp only[Sem.runT];rfl) trivial
  by_cases W:∃c,v=.tuple c
  .obtain⟨c,rfl⟩:=W
   exact .pX (h:=.stuck _) (by simp only[Sem.runT];rfl) trivial
  have e:=λw=>xC (α:=α) Q m a v k w es (λc h=>U ⟨c,h⟩) (λc h=>W ⟨c,h⟩)
  rcases D:w.cell? a with _|x
  .obtain⟨s,M⟩:=CZ (Q:=Q) f z v (m == .atomic)
   exact .pX (h:=.stuck s) (by rw[e];simp only[D,M];rfl) trivial
  .by_cases E:w.frozen? a=true
   .exact .pX (h:=.unsupported (.unsafePointer "a write to bytes that a string shares")) (by rw[e];simp only[D];rw[if_pos E]) trivial
   .simp only[Bool.not_eq_true]at E
    obtain⟨⟨y,ah⟩,V,aa,F,ae⟩:=A5 f z R D E;refine hx.step (hs:=k) (aG:=w.setCell a v) (kG:=es.push ⟨.cell a,true,m == .atomic⟩) (by rw[e];simp only[D];rw[if_neg (by simp[E])]) rfl bg (λaR _=>?_) (i g F);have ad:(dM w aR).cell? a=some x:=D;have V:(dM w aR).frozen? a=false:=E;rw[e];simp only[ad];rw[if_neg (by simp[V])];rfl
 |new o k i=>
  rintro ρ w w' aX es (hd|⟨G,u,rfl,H,g⟩) f
  .exact .dp hd
  obtain⟨ai,j,he,F⟩:=D' f H;exact hx.step (hs:=k w.heap.size) (aG:={w with heap:=w.heap.push o}) (kG:=es) (by simp only[Sem.runT]) rfl bg (λaR _=>by simp only[Sem.runT];rfl) (i _ (g ai _ _ he.le j) F)
 |shape r k i=>
  rintro ρ w w' aX es (hd|⟨C,u,rfl,j,g⟩) f
  .exact .dp hd
  exact hx.step (hs:=k (w.shape? r)) (aG:=w) (kG:=es) (by simp only[Sem.runT]) rfl bg (λaR _=>by simp only[Sem.runT];rfl) (i _ (g _ _ (Fz f j)) f)
 |freeze a n k i=>intro ρ w w' aX es h f;exact .dp h
 |frozen a k i=>
  rintro ρ w w' aX es (hd|⟨T,u,rfl,z,g⟩) f
  .exact .dp hd
  exact hx.step (hs:=k (w.frozen? a)) (aG:=w) (kG:=es) (by simp only[Sem.runT]) rfl bg (λaR _=>by simp only[Sem.runT];rfl) (i _ (g _ _ (Dg f z) (Df f z)) f)
 |getObj r k i=>
  rintro ρ w w' aX es (hd|⟨C,u,rfl,j,g⟩) f
  .exact .dp hd
  obtain⟨o,G,I,K,B⟩:=f.obj r C j;have Z:eZ ρ o G:=B;have key:py o->hx Q (.getObj r k) w es:=by
   intro L;have st:∀w:World,w.heap[r]?=some o->Sem.runT Q (.getObj r k) w es=(k o).runT Q w (es.push ⟨.obj r,false,o.isChan⟩):=by intro w I;cases o<;>first|exact L.elim|simp only[Sem.runT,I]
   exact hx.step (hs:=k o) (aG:=w) (kG:=es.push ⟨.obj r,false,o.isChan⟩) (st w I) rfl bg (λaR _=>st (dM w aR) I) (i o (g o G Z) f)
  cases B with
  |cells a b c=>exact .pX (h:=.stuck "getObj: a row of cells") (by simp only[Sem.runT,I];rfl) trivial
  |_=>exact key trivial
 |setObj r o k i=>
  rintro ρ w w' aX es (hd|⟨C,G,u,rfl,j,H,L,g⟩) f
  .exact .dp hd
  obtain⟨x,af,I,K,B⟩:=f.obj r C j;have key:py x->hx Q (.setObj r o k) w es:=by
   intro X;obtain⟨F,ae,aa⟩:=AG f j H I X;have st:∀w:World,w.heap[r]?=some x->Sem.runT Q (.setObj r o k) w es=k.runT Q {w with heap:=w.heap.setIfInBounds r o} (es.push ⟨.obj r,true,o.isChan⟩):=by intro w I;cases x<;>first|exact X.elim|simp only[Sem.runT,I]
   exact hx.step (hs:=k) (aG:={w with heap:=w.heap.setIfInBounds r o}) (kG:=es.push ⟨.obj r,true,o.isChan⟩) (st w I) rfl bg (λaR _=>st (dM w aR) I) (i g F)
  cases B with
  |cells a b c=>exact .pX (h:=.stuck "setObj: a row of cells") (by simp only[Sem.runT,I];rfl) trivial
  |_=>exact key trivial
 |choose q k i=>
  rintro ρ w w' aX es (hd|⟨u,rfl,g⟩|⟨el,g⟩) f
  .exact .dp hd
  rotate_left
  .have sub:∀n d,hx Q (k n) {w with drawn:=d} es:=λn d=>by
    obtain⟨r,o,C,G,a,b,e,_,j,H,L,_⟩:=g n;rw[e];obtain⟨x,af,I,K,B⟩:=f.obj r C j;cases B with
    |cells a b c=>exact .pX (h:=.stuck "setObj: a row of cells") (by simp only[Sem.runT,I];rfl) trivial
    |_=>exact λ_=>⟨by simp only[Sem.runT,I];rfl,by simp only[Sem.runT,I];exact bg,λaR _=>by have J:(dM {w with drawn:=d} aR).heap[r]?=_:=I;simp only[Sem.runT,I,J];rfl⟩
   by_cases p:q.forced=true
   .exact hx.step (hs:=k 0) (aG:=w) (kG:=es) (by simp only[Sem.runT,p,if_true]) rfl bg (λaR _=>by simp only[Sem.runT,p,if_true]) (sub 0 w.drawn)
   .refine hx.step (hs:=k (q.cut (w.tape w.drawn q))) (aG:={w with drawn:=w.drawn+1}) (kG:=es) (by simp only[Sem.runT,p,if_false,Bool.false_eq_true]) rfl (Nat.le_succ _) (λaR S=>?_) (sub _ _)
    have:=S (Nat.succ_ne_self _);simp only[Sem.runT,p,if_false,Bool.false_eq_true];show(k (q.cut (aR w.drawn q))).runT Q {dM w aR with drawn:=w.drawn+1} es=_;rw[this];rfl
  by_cases p:q.forced=true
  .exact hx.step (hs:=k 0) (aG:=w) (kG:=es) (by simp only[Sem.runT,p,if_true]) rfl bg (λaR _=>by simp only[Sem.runT,p,if_true]) (i _ (g 0) f)
  .refine hx.step (hs:=k (q.cut (w.tape w.drawn q))) (aG:={w with drawn:=w.drawn+1}) (kG:=es) (by simp only[Sem.runT,p,if_false,Bool.false_eq_true]) rfl (Nat.le_succ _) (λaR S=>?_) (i _ (g _) f.tick)
   have:=S (Nat.succ_ne_self _);simp only[Sem.runT,p,if_false,Bool.false_eq_true];show(k (q.cut (aR w.drawn q))).runT Q {dM w aR with drawn:=w.drawn+1} es=_;rw[this];rfl
 |sys c k i=>intro ρ w w' aX es h f;exact .dp h
 |program k i=>
  rintro ρ w w' aX es (hd|⟨u,rfl,g⟩) f
  .exact .dp hd
  exact hx.step (hs:=k Q) (aG:=w) (kG:=es) (by simp only[Sem.runT]) rfl bg (λaR _=>by simp only[Sem.runT]) (i _ g f)
 |mark m k i=>
  rintro ρ w w' aX es (hd|⟨dd,u,rfl,ag,g⟩) f
  .exact .dp hd
  exact hx.step (hs:=k) (aG:=w) (kG:=es.push ⟨.mark m,false,true⟩) (by simp only[Sem.runT]) rfl bg (λaR _=>by simp only[Sem.runT]) (i g f)
 |halt x=>
  intro ρ w w' aX es h f _;exact⟨rfl,bg,λaR _=>rfl⟩
def dW(f:World->GStep)(w:World):Prop:=∀g aG es,f w=.go g aG es->aG.tape=w.tape/\w.drawn<=aG.drawn/\∀aR,tG aR w.tape w.drawn aG.drawn->f (dM w aR)=.go g (dM aG aR) es
def dW.go(g:Goroutine)(es:Array Event)(w:World):dW (λw=>.go g w es) w:=by intro g' aG ba h;cases h;exact⟨rfl,bg,λaR _=>rfl⟩
def dW.ended(h:∃o aG es,f w=.ended o aG es):dW f w:=by obtain⟨o,aG,es,h⟩:=h;intro g c ba e;rw[h]at e;cases e
def dW.after(es:Array Event)(h:dW f w):dW (λw=>GStep.after es (f w)) w:=by
 intro g aG ba e;dsimp only at e;rcases c:f w with⟨n,o,m⟩|_|_|_|_|_|_|_|_|_|_<;>rw[c]at e<;>try cases e
 obtain⟨d,i,j⟩:=h _ _ _ c;exact⟨d,i,λaR l=>by dsimp only;rw[j aR l];rfl⟩
def dW.doReturn(p:Program)(main:Bool)(fr:Frame)(cs:List Frame)(v:Value)(w:World):dW (λw=>doReturn p main fr cs none v w) w:=by
 intro g aG es e;have key:∀w:World,(∃g,∀w:World,Go.doReturn p main fr cs none v w=.go g w)\/∀w,∃o es,Go.doReturn p main fr cs none v w=.ended o w es:=by
  intro w;unfold Go.doReturn;rcases cs with _|⟨c,rest⟩
  .dsimp only
   cases d:fr.kind
   case report=>exact .inr λw=>⟨_,_,rfl⟩
   all_goals
    dsimp only;cases main
    .exact .inl ⟨_,λw=>rfl⟩
    .simp only[Bool.not_true,Bool.false_eq_true,if_false]
     cases p.inits.idxOf? fr.fn
     .exact .inr λw=>⟨_,_,rfl⟩
     .exact .inl ⟨_,λw=>rfl⟩
  .dsimp only
   cases d:fr.kind<;>exact .inl ⟨_,λw=>rfl⟩
 rcases key w with⟨g',h⟩|h
 .dsimp only at e
  rw[h]at e;cases e;exact⟨rfl,bg,λaR _=>h _⟩
 .obtain⟨o,ba,h⟩:=h w
  dsimp only at e;rw[h]at e;cases e
def AH{α:Type}:Result α->World->Result α
 |.ok a _,w=>.ok a w
 |.halt h _,w=>.halt h w
def OX(r:Result α):AH r (sV r)=r:=by cases r<;>rfl
def OY(r:Result α)(aR:Tape):AH r (dM (sV r) aR)=GF r aR:=by cases r<;>rfl
def a2.loc{A:Ren->α->β->Prop}{s:Sem α}{ρ:Ren}{aX:Sem β}(h:a2 Q P A s ρ aX)(c:dA ρ w w'):hx Q s w es:=ef.loc h c
def dW.run{A:Ren->α->β->Prop}{s:Sem α}{aX:Sem β}(q:a2 Q P A s ρ aX)(u:dA ρ w w')(F:Result α×Array Event->GStep)(E:∀a aG ba,s.runT Q w #[]=(.ok a aG,ba)->dW (λw=>F (.ok a w,ba)) aG)(hp:∀v aG ba,s.runT Q w #[]=(.halt (.panic v) aG,ba)->dW (λw=>F (.halt (.panic v) w,ba)) aG)(C:∀h aG ba,s.runT Q w #[]=(.halt h aG,ba)->jU h->∃o c es,F (.halt h aG,ba)=.ended o c es):dW (λw=>F (s.runT Q w #[])) w:=by
 intro g c gs e;dsimp only at e;have i:=a2.loc (es:=#[]) q u;have fin:∀(r:Result α) (ba:Array Event),s.runT Q w #[]=(r,ba)->(∀h aG,r=.halt h aG->¬jU h)->dW (λw=>F (AH r w,ba)) (sV r)->
  c.tape=w.tape/\w.drawn<=c.drawn/\∀aR,tG aR w.tape w.drawn c.drawn->F (s.runT Q (dM w aR) #[])=.go g (dM c aR) gs:=by
  intro r ba d D h;unfold hx at i;rw[d]at i e;obtain⟨f,l,m⟩:=i (λh aG he=>D h aG he);obtain⟨H,I,J⟩:=h g c gs (by dsimp only;rw[OX];exact e);dsimp only at f l m;refine⟨H.trans f,cL l I,λaR y=>?_⟩;rw[m aR λj n p=>y j n U];have:=J aR λj n p=>by rw[y j U p,f]
  dsimp only at this;rw[OY]at this;exact this
 rcases d:s.runT Q w #[]with⟨⟨a,aG⟩|⟨x,aG⟩,ba⟩
 .exact fin _ _ d aF (E a aG ba d)
 .have B:jU x->c.tape=w.tape/\w.drawn<=c.drawn/\∀aR,tG aR w.tape w.drawn c.drawn->F (s.runT Q (dM w aR) #[])=.go g (dM c aR) gs:=by intro G;obtain⟨o,K,es,he⟩:=C x aG ba d G;rw[d,he]at e;cases e
  have h:=a2.run q u;have z:s.run Q w=.halt x aG:=by rw[<-Sem.runT_fst Q s w #[],d]
  rw[z]at h;cases x with
  |panic v=>exact fin _ _ d (by rintro h w he;cases he;exact id) (hp v aG ba d)
  |_=>exact B h
section
variable{w w' aG bJ:World}{C cs cs':List Frame}{fr bo:Frame}{es fg:Array Event}
def yG{s aX:Sem Next}(B:ef l Q P h2 s ρ aX)(D:dA ρ w w')(k:(fr.kind == .early)=false)(E:qD fr):dW (λw=>stepG.apply Q true fr C none s w) w:=by
 intro g R gs e;dsimp only at e ⊢;have u:=ef.loc (es:=#[]) B D;unfold hx at u;rcases Ft B D with⟨n,c9,aG,bJ,ai,ba,y,i,F,he,J,K,H⟩|⟨v,M,aG,bJ,ai,ba,y,i,F,he,J,I,H⟩|⟨x,aG,ba,i,z⟩
 .rw[i]at u
  obtain⟨m,q,r⟩:=u aF;cases K with
  |value I=>rw[r6 i k]at e;cases e;exact⟨m,q,λaR j=>r6 (r aR j) k⟩
  |skip=>rw[tL i k]at e;cases e;exact⟨m,q,λaR j=>tL (r aR j) k⟩
  |enter f G L=>rw[vC i k E]at e;cases e;exact⟨m,q,λaR j=>vC (r aR j) k E⟩
  |round u f G c d z=>rw[vE i k]at e;cases e;exact⟨m,q,λaR j=>vE (r aR j) k⟩
  |defer hd=>rw[vB i k]at e;cases e;exact⟨m,q,λaR j=>vB (r aR j) k⟩
 .rw[i]at u
  obtain⟨m,q,r⟩:=u (by rintro h w he;cases he;exact id);rw[vD i k]at e;cases e;exact⟨m,q,λaR j=>vD (r aR j) k⟩
 .obtain⟨o,S,y,he⟩:=yF (p:=Q) (fr:=fr) (cs:=C) i z
  rw[he]at e;cases e
def B9(S:Same Q P)(H:fe (fj K) Q P)(B:dA ρ w w'){d D:Deferred}(hd:me ρ d D):dW (λw=>callDeferred Q fr C none d w) w:=by
 by_cases i:((d.target matches .nil) && (fr.mode matches .panicking _))=true
 .exact .ended (CF i)
 simp only[Bool.not_eq_true]at i;intro g T gs e;dsimp only at e ⊢;have z:=AX (ρ:=ρ) S H hd.target hd.args;have r:=a2.loc (es:=#[]) z B;unfold hx at r;rcases pb z B with⟨n,c9,aG,bJ,ai,ba,u,j,E,he,J,L,G⟩|⟨v,R,aG,bJ,ai,ba,u,j,E,he,J,I,G⟩|⟨x,aG,ba,j,y⟩
 .rw[j]at r
  obtain⟨m,p,q⟩:=r aF;cases L with
  |value I=>rw[mn j (.inl ⟨_,rfl⟩) i]at e;cases e;exact⟨m,p,λaR l=>mn (q aR l) (.inl ⟨_,rfl⟩) i⟩
  |skip=>rw[mn j (.inr (.inl rfl)) i]at e;cases e;exact⟨m,p,λaR l=>mn (q aR l) (.inr (.inl rfl)) i⟩
  |defer hd=>rw[mn j (.inr (.inr ⟨_,rfl⟩)) i]at e;cases e;exact⟨m,p,λaR l=>mn (q aR l) (.inr (.inr ⟨_,rfl⟩)) i⟩
  |enter f F M=>rw[vR j i]at e;cases e;exact⟨m,p,λaR l=>vR (q aR l) i⟩
  |round r f F c d y=>rw[vT j i]at e;cases e;exact⟨m,p,λaR l=>vT (q aR l) i⟩
 .rw[j]at r
  obtain⟨m,p,q⟩:=r (by rintro h w he;cases he;exact id);rw[vS j i]at e;cases e;exact⟨m,p,λaR l=>vS (q aR l) i⟩
 .obtain⟨o,U,u,he⟩:=CE (fr:=fr) (cs:=C) j y i
  rw[he]at e;cases e
def Lt(F:Fit Q ρ)(m:dA ρ w w')(g:cN K ρ fr bo)(main:Bool)(d:Option Code)(i:∀c,d=some c->codeOk Q true c=true):dW (λw=>mB Q main fr C w d) w:=by
 obtain⟨fn,tmps,todo,defers,mode,kind,ro⟩:=fr;obtain⟨o,u,y,n,q,p,r⟩:=bo;have f:=g.round;dsimp only at f;unfold mB;cases f with
 |none=>
  dsimp only;rcases d with _|c
  .exact dW.go _ _ _
  .cases c<;>first|exact dW.go _ _ _|exact .ended ⟨_,_,_,rfl⟩
 |@some l aN j=>
  refine dW.run (FK (Q:=Q) (P:=P) j d (λc e=>by rw[F.cW];exact i c e)) m (λx=>GStep.after (seen Q fn x.2) (match x.1 with
   |.ok v w=>doReturn Q main ⟨fn,tmps,todo,defers,mode,kind,some l⟩ C none v w
   |.halt _ w=>.ended (.stuck "range over a function: no such loop" (Frame.pos Q ⟨fn,tmps,todo,defers,mode,kind,some l⟩)) w)) ?_ ?_ ?_
  .intro a aG ba _
   exact dW.after _ (dW.doReturn _ _ _ _ _ _)
  .intro v aG ba _
   exact .ended ⟨_,_,_,rfl⟩
  .intro h aG ba _ _
   exact⟨_,_,_,rfl⟩
def MS(S:Same Q P)(F:Fit Q ρ)(g:ρ.room=true)(H:fe (fj K) Q P)(i:dA ρ w w')(d:cN K ρ fr bo){o:Oper}(h:fr.oper?=some o)(f:o6 Q o.op=true)(hd:fr.roundOf=none\/∀c,o.op≠.defer c):dW (λw=>stepG.oper Q true fr C none w) w:=by
 have e:(λw=>stepG.oper Q true fr C none w)=λw=>stepG.apply Q true fr C none (execOp fr.eval o) w:=funext λw=>rf h hd
 rw[e];exact yG (FN S F.fits H o (.inl g) f (λx j=>tY F d.tmps x j) (λv=>⟨rfl,rfl⟩) λ_=>⟨rfl,rfl⟩) i d.early.1 d.uE.1
def Ko(S:Same Q P)(F:Fit Q ρ)(aq:ρ.room=true)(H:fe (fj K) Q P)(p:dA ρ w w')(m:cN K ρ fr bo)(T:fr.mode=.run)(ax:Plain K fr bo)(main:Bool)(st:GoStatus)(off:Option (Array CommCase×CommShape)):dW (λw=>stepG Q main ⟨fr,C,st,none,off⟩ w) w:=by
 obtain⟨J,y,L,ae,M,R,af,u,ag,ah⟩:=id m;obtain⟨fn,tmps,todo,defers,mode,kind,roundOf⟩:=fr;obtain⟨av,Y,aC,I,aB,az,G⟩:=bo;dsimp only at J y L ae M R af u ag ah T;subst J;subst R;subst T;cases M;have B:∀(q:Option Code),(∀c,q=some c->codeOk Q true c=true)->dW (λw=>mB Q main ⟨fn,tmps,todo,defers,.run,kind,roundOf⟩ C w q) w:=
  λq ao=>Lt F p m main q ao
 cases L with
 |nil=>simp only[step_end];exact B none aF
 |@cons i ay k X am aw=>
  cases am with
  |inBlock id=>exact dW.go _ _ _
  |inLoop h=>exact dW.go _ _ _
  |inScope h=>exact dW.go _ _ _
  |inRangeFunc h=>exact .ended ⟨_,_,_,rfl⟩
  |@endRangeFunc l aN h=>
   refine dW.run (FJ (Q:=Q) (P:=P) S h) p (λx=>GStep.after (seen Q fn x.2) (match x.1 with
    |.ok q w=>.go ⟨⟨fn,tmps,(q.map Item.code).toList++k,defers,.run,kind,roundOf⟩,C,.running,none,none⟩ w
    |.halt (.panic v) w=>.go ⟨Frame.raise ⟨fn,tmps,.endRangeFunc l::k,defers,.run,kind,roundOf⟩ [{v,recovered:=false}],C,.running,none,none⟩ w
    |.halt _ w=>.ended (.stuck "range over a function: no such loop" (Frame.pos Q ⟨fn,tmps,.endRangeFunc l::k,defers,.run,kind,roundOf⟩)) w)) ?_ ?_ ?_
   .intro a aG ba _
    exact dW.after _ (dW.go _ _ _)
   .intro v aG ba _
    exact dW.after _ (dW.go _ _ _)
   .intro h aG ba _ n
    cases h<;>first|exact n.elim|exact⟨_,_,_,rfl⟩
  |beginRound=>
   refine yG (l:=false) (P:=P) (ρ:=ρ) (w':=w') (aX:=do G.elim (stuck "beginRound: no round") Instr.beginRound;pure .skip) ?_ p m.early.1 m.uE.1;cases u with
   |none=>exact a2.stuck
   |some z=>exact A1 (FH S z)
  |@inRegion ops l h=>
   cases l with
   |nil=>exact dW.go _ _ _
   |cons i rest=>
    simp only[rA];split
    .rename_i W
     rcases E:ops[i]? with _|o
     .rw[E]at W;cases W
     obtain⟨q1,au⟩:=Et h E;exact MS S F aq H p m (o:=o) (by simp[Frame.oper?,E]) q1 (by
      cases u with
      |none=>exact .inl rfl
      |some _=>exact .inr (au rfl))
    .exact dW.go _ _ _
  |@code c bp h=>
   cases c with
   |skip=>exact dW.go _ _ _
   |label l=>exact dW.go _ _ _
   |refuse aD=>exact .ended ⟨_,_,_,rfl⟩
   |ret=>simp only[step_ret];exact B _ (by rintro c e;cases e;rfl)
   |exit id=>
    simp only[step_exit];cases exitTo id k with
    |none=>exact B (some (.exit id)) (by rintro c e;cases e;rfl)
    |some e=>exact dW.go _ _ _
   |goto id=>
    simp only[step_goto];cases gotoIn id k with
    |none=>exact B (some (.goto id)) (by rintro c e;cases e;rfl)
    |some e=>exact dW.go _ _ _
   |seq a b=>exact dW.go _ _ _
   |cond x a b=>
    simp only[stepG,stepG.exec];split
    .exact dW.go _ _ _
    .exact .ended ⟨_,_,_,rfl⟩
   |block id a=>exact dW.go _ _ _
   |loop a=>exact dW.go _ _ _
   |scope a=>exact dW.go _ _ _
   |region id ops d=>
    simp only[A4];cases d with
    |false=>exact dW.go _ _ _
    |true=>
     simp only[Bool.not_true,Bool.false_eq_true,if_false];intro g aE gs e;cases e;refine⟨rfl,Nat.le_succ _,λaR ar=>?_⟩;have:aR w.drawn=w.tape w.drawn:=ar _ bg (Nat.lt_succ_self _);show GStep.go ⟨⟨fn,tmps,.inRegion ops (Region.schedule (Q.follows .mixedOrders) ops (aR w.drawn (.order fn id)))::k,defers,.run,kind,roundOf⟩,C,.running,none,none⟩ (dM {w with drawn:=w.drawn+1} aR) #[]=_;rw[this]
   |rangeFunc f e9 a b=>
    cases h with
    |same h=>
    simp only[codeOk,Bool.and_eq_true]at h;have n:ρ.cW a/\ρ.cW b:=by rw[F.cW];exact h.2
    have al:=tY F (fr:=⟨fn,tmps,.code (.rangeFunc f e9 a b)::k,defers,.run,kind,roundOf⟩) (bo:=⟨fn,Y,.code (.rangeFunc f e9 a b)::X,I,.run,kind,G⟩) y f h.1;refine dW.run (AV (Q:=Q) (P:=P) fn y e9 a b n u) p (λx=>GStep.after (seen Q fn x.2) (match x.1 with
     |.ok (l,mark) w=>stepG.apply Q true ⟨fn,tmps,.inRangeFunc l::k,mark++defers,.run,kind,roundOf⟩ C none (do let d <-resolve (Frame.eval ⟨fn,tmps,.inRangeFunc l::k,mark++defers,.run,kind,roundOf⟩) {callee:=.value f,args:=#[.const (.func (.yield l) #[] #[])],argTypes:=#[]} 0;invoke d.target d.args) w
     |.halt _ w=>.ended (.stuck "range over a function: no such loop" (Frame.pos Q ⟨fn,tmps,.code (.rangeFunc f e9 a b)::k,defers,.run,kind,roundOf⟩)) w)) ?_ ?_ ?_
    .rintro⟨l,mark⟩ aG ba D
     dsimp only;refine dW.after _ ?_;rcases pb (AV (Q:=Q) (P:=P) fn y e9 a b n u) p with⟨v,Z,aG,bJ,ai,ba,ad,j,aa,he,V,U,ak⟩|⟨v,Z,aG,bJ,ai,ba,ad,j,aa,he,V,U,ak⟩|⟨x,aG,ba,j,n⟩
     .rw[D]at j
      cases j;obtain⟨aN,aA⟩:=Z;obtain⟨z,ap⟩:=U;dsimp only at z ap;refine yG (l:=false) (P:=P) (ρ:=ai) (w':=bJ) (aX:=do let d <-resolve (Frame.eval ⟨fn,Y,.code (.rangeFunc f e9 a b)::X,I,.run,kind,G⟩) {callee:=.value f,args:=#[.const (.func (.yield aN) #[] #[])],argTypes:=#[]} 0;invoke d.target d.args) ?_ V m.early.1 ?_
      .have aj:bQ ai #[Value.func (.yield l) #[] #[]] #[Value.func (.yield aN) #[] #[]]:=om (.func (.yield z) rfl aF rfl aF)
       simp only[resolve,List.map_toArray,List.map_cons,List.map_nil];exact AU S (F.mono he.le).fits H (al.mono he.le) aj
      .intro d b r s k e
       cases e
     .rw[D]at j;cases j
     .rw[D]at j;cases j
    .intro v aG ba _
     exact .ended ⟨_,_,_,rfl⟩
    .intro h aG ba _ n
     exact⟨_,_,_,rfl⟩
def RL(S:Same Q P)(F:Fit Q ρ)(H:fe (fj K) Q P)(g:dA ρ w w')(f:cN K ρ fr bo)(B:fr.mode≠.run)(hC:C≠[])(main:Bool):dW (λw=>unwind Q main fr C none w) w:=by
 have j:=f.defers;obtain⟨fn,tmps,todo,defers,mode,kind,ro⟩:=fr;obtain⟨L,aa,ad,I,W,V,Z⟩:=bo;dsimp only at j;cases j with
 |@cons d q i J hd U=>
  obtain⟨t,a⟩:=d;obtain⟨bh,G⟩:=q;have m:=hd.target;dsimp only at m;cases m with
  |@collected r Y y=>
   refine dW.run (F8 (Q:=Q) (P:=P) y) g (λx=>GStep.after (seen Q fn x.2) (match x.1 with
    |.ok n w=>.go ⟨⟨fn,tmps,todo,n++i,mode,kind,ro⟩,C,.running,none,none⟩ w
    |.halt _ w=>.ended (.stuck "the deferred calls of a range-over-func loop have been taken" (Frame.pos Q ⟨fn,tmps,todo,{target:=.collected r,args:=a}::i,mode,kind,ro⟩)) w)) ?_ ?_ ?_
   .intro v aG ba _
    exact dW.after _ (dW.go _ _ _)
   .intro v aG ba _
    exact .ended ⟨_,_,_,rfl⟩
   .intro h aG ba _ u
    exact⟨_,_,_,rfl⟩
  |nil=>exact B9 S H g hd
  |fn R T=>exact B9 S H g hd
 |nil=>
  have l:=f.mode;dsimp only at l;cases l with
  |run=>exact absurd rfl B
  |panicking hp=>
   have D:=f.uE;have o:∀(p:Program) (fr:Frame),qD fr->fr.catches p=false:=by
    intro p fr h;unfold Frame.catches;split
    .rename_i e
     exact absurd e (h _ _ _ _ _)
    .rfl
   rcases C with _|⟨c,C⟩
   .exact absurd rfl hC
   simp only[unwind,o _ _ D.1];exact dW.go _ _ _
  |returning=>
   have z:=f.ret rfl;obtain⟨M,im,q1,X,E⟩:=f.known z;simp only[unwind,q1];refine dW.run (AZ (ρ:=ρ) S E f.tmps) g (λx=>GStep.after (seen Q fn x.2) (match x.1 with
    |.ok v w=>doReturn Q main ⟨fn,tmps,todo,[],.returning,kind,ro⟩ C none v w
    |.halt (.stuck s) w=>.ended (.stuck s (Frame.pos Q ⟨fn,tmps,todo,[],.returning,kind,ro⟩)) w
    |.halt _ w=>.ended (.stuck "return: the result variables cannot be read" (Frame.pos Q ⟨fn,tmps,todo,[],.returning,kind,ro⟩)) w)) ?_ ?_ ?_
   .intro v aG ba _
    exact dW.after _ (dW.doReturn _ _ _ _ _ _)
   .intro v aG ba _
    exact .ended ⟨_,_,_,rfl⟩
   .intro h aG ba _ u
    cases h<;>exact⟨_,_,_,rfl⟩
def Qy(S:Same Q P)(F:Fit Q ρ)(f:ρ.room=true)(H:fe (fj K) Q P)(d:dA ρ w w')(c:cN K ρ fr bo)(hC:C≠[])(g:fr.mode=.run->Plain K fr bo)(main:Bool)(st:GoStatus)(off:Option (Array CommCase×CommShape)):dW (λw=>stepG Q main ⟨fr,C,st,none,off⟩ w) w:=by
 by_cases h:fr.mode=.run
 .exact Ko S F f H d c h (g h) main st off
 .have i:(λw=>stepG Q main ⟨fr,C,st,none,off⟩ w)=λw=>unwind Q main fr C none w:=by
   obtain⟨fn,tmps,todo,defers,mode,kind,ro⟩:=fr;cases mode with
   |run=>exact absurd rfl h
   |_=>rfl
  rw[i];exact RL S F H d c h hC main
end
end
section
variable{Q:Program}{R:Value->World->Prop}{f0:FuncId}
def wall:Frame:={fn:=0,tmps:=#[],todo:=[],defers:=[{target:=.nil,args:=#[]}],mode:=.panicking [],kind:=.normal}
structure dt where
 fr:Frame
 cs:List Frame
 w:World
def dt.iF(V:dt)(aR:Tape):dt:={V with w:=dM V.w aR}
abbrev dt.g(V:dt):Goroutine:=⟨V.fr,V.cs++[wall],.running,none,none⟩
abbrev dt.m(V:dt):Machine:=lone V.fr (V.cs++[wall]) V.w
def dt.stop(V:dt):Prop:=V.cs = []/\V.fr.mode=.returning/\V.fr.defers = []
structure lB(Q:Program)(b4 V:dt):Prop where
 stay:¬V.stop
 sS:∀k,k<V.w.drawn->b4.w.tape k=V.w.tape k
 mono:V.w.drawn<=b4.w.drawn
 step:∃es,∀aR,tG aR b4.w.tape V.w.drawn b4.w.drawn->stepG Q true V.g (dM V.w aR)=.go b4.g (dM b4.w aR) es
def e3(Q:Program)(f0:FuncId)(R:Value->World->Prop)(V:dt):Prop:=
 ∀aR:Tape,(∀k,k<V.w.drawn->aR k=V.w.tape k)->∃v w' bo,R v w'/\Steps Q (V.iF aR).m (lone bo [wall] w')/\bo.leaving Q w' (.returned v)/\bo.fn=f0
def p0{a b:Frame}{c:List Frame}{u:World}(h:lone a cs w=lone b c u):a=b/\cs=c/\w=u:=by
 unfold lone at h;injection h with d f m
 injection f with g
 injection g with i _
 injection i with j l
 exact⟨j,l,d⟩
def Rg(V:dt):V.iF V.w.tape=V:=rfl
def GY(h:(∃v,c=wall.finish v)\/(∃d,c=wall.raise d)\/c=wall\/∃m,c={wall with mode:=m}/\wall.mode≠.panicking [])(w:World):∃o w',step Q (lone c [] w)=.ended o w':=by
 have key:∀ch,∃o w',step Q (lone {wall with mode:=.panicking ch} [] w)=.ended o w':=λch=>
  ⟨_,_,step_lone_ended (o:=.unsupported (.noEntry "machine/Return: a deferred call of a nil function value, made while the frame is unwinding") (Frame.pos Q {wall with mode:=.panicking ch,defers:=[]})) (w':=w) (by simp only[stepG,wall,unwind,callDeferred];rfl)⟩
 rcases h with⟨v,rfl⟩|⟨d,rfl⟩|rfl|⟨m,rfl,hm⟩
 .exact key []
 .have:wall.raise d={wall with mode:=.panicking d}:=by simp[Frame.raise,wall]
  rw[this];exact key d
 .exact key []
 .exact absurd rfl hm
def uX{V:dt}{g:Goroutine}(h:stepG Q true V.g V.w=.go g aG es)(c:g=⟨fr,cs,.running,none,none⟩):step Q V.m=.next (lone fr cs aG):=by subst c;exact step_lone_go (by rw[h];rfl)
def e3.head{V:dt}(h:e3 Q f0 R V){aR:Tape}(q:∀k,k<V.w.drawn->aR k=V.w.tape k)(p:¬V.stop):∃d v w' bo,step Q (V.iF aR).m=.next d/\R v w'/\Steps Q d (lone bo [wall] w')/\bo.leaving Q w' (.returned v)/\bo.fn=f0:=by
 obtain⟨v,w',bo,m,⟨n,c⟩,f,l⟩:=h aR q;cases n with
 |zero=>
  simp only[runN]at c;injection c with c
  obtain⟨g,i,r⟩:=p0 c;refine absurd ⟨?_,?_,?_⟩ p
  .have j:V.cs++[wall] = [wall]:=i
   have:=congrArg List.length j;simpa using this
  .have:V.fr=bo:=g
   rw[this];exact f.1
  .have:V.fr=bo:=g
   rw[this];exact f.2.1
 |succ n=>
  simp only[runN]at c;rcases e:step Q (V.iF aR).m with d|⟨o,aG⟩
  .rw[e]at c
   exact⟨d,v,w',bo,rfl,m,⟨n,c⟩,f,l⟩
  .rw[e]at c;cases c
def e3.in{V:dt}(h:e3 Q f0 R V){aR:Tape}(p:∀k,k<V.w.drawn->aR k=V.w.tape k)(l:¬V.stop){c₁:Frame}(e:stepG Q true V.g (dM V.w aR)=.go ⟨c₁,cs,.running,none,none⟩ aG es)(i:[wall]=c::cs)(j:(∃v,c₁=c.finish v)\/(∃q,c₁=c.raise q)\/c₁=c\/∃m,c₁={c with mode:=m}/\c.mode≠.panicking []):False:=by
 obtain⟨rfl,rfl⟩:c=wall/\cs = []:=by cases i;exact⟨rfl,rfl⟩
 obtain⟨y,v,w',bo,g,w,⟨n,d⟩,u,r⟩:=h.head p l;have f:step Q (V.iF aR).m=.next (lone c₁ [] aG):=uX (V:=V.iF aR) e rfl;rw[g]at f;cases f;cases n with
 |zero=>
  simp only[runN]at d;injection d with d
  obtain⟨_,f,_⟩:=p0 d;cases f
 |succ n=>
  obtain⟨o,z,e⟩:=GY (Q:=Q) j aG;simp only[runN,e]at d;cases d
def e3.live{V:dt}(h:e3 Q f0 R V){aR:Tape}(g:∀k,k<V.w.drawn->aR k=V.w.tape k)(f:¬V.stop){o:Outcome}(e:stepG Q true V.g (dM V.w aR)=.ended o aG es):False:=by
 obtain⟨i,v,w',bo,d,_⟩:=h.head g f;have c:step Q (V.iF aR).m=.ended o aG:=step_lone_ended (by show(stepG Q true V.g (dM V.w aR)).bare=_;rw[e];rfl)
 rw[d]at c;cases c
def e3.next{V b4:dt}(h:e3 Q f0 R V)(k:lB Q b4 V):e3 Q f0 R b4:=by
 intro aR f;obtain⟨es,o⟩:=k.step;have q:∀k,k<V.w.drawn->aR k=V.w.tape k:=λj d=>(f j (gu d k.mono)).trans (k.sS j d)
 obtain⟨r,v,w',bo,g,n,p,m,i⟩:=h.head q k.stay;have c:step Q (V.iF aR).m=.next (b4.iF aR).m:=uX (V:=V.iF aR) (o aR λj _ l=>f j l) rfl;rw[g]at c;cases c;exact⟨v,w',bo,n,p,m,i⟩
def Gh{V:dt}(q:V.stop)(h:V.fr.roundOf=none)(aa:V.fr.kind=.normal\/V.fr.kind=.deferred)(g:Q.funcs[V.fr.fn]?=some fn)(n:Nat)(bo:Frame)(cs':List Frame)(w':World):runN Q (n+1) V.m≠.next (lone bo (cs'++[wall]) w'):=by
 intro d;obtain⟨fr,cs,w⟩:=V;obtain⟨s1,s2,i⟩:=q;dsimp only at s1 s2 i h aa g d;subst s1;obtain⟨c,tmps,todo,defers,mode,kind,ro⟩:=fr;dsimp only at s2 i h aa g;subst s2;subst i;subst h;have e:stepG Q true (dt.g ⟨⟨c,tmps,todo,[],.returning,kind,none⟩,[],w⟩) w=GStep.after (seen Q c ((results fn tmps).runT Q w #[]).2) (match ((results fn tmps).runT Q w #[]).1 with
  |.ok v w=>doReturn Q true ⟨c,tmps,todo,[],.returning,kind,none⟩ [wall] none v w
  |.halt (.stuck s) w=>.ended (.stuck s (Frame.pos Q ⟨c,tmps,todo,[],.returning,kind,none⟩)) w
  |.halt _ w=>.ended (.stuck "return: the result variables cannot be read" (Frame.pos Q ⟨c,tmps,todo,[],.returning,kind,none⟩)) w):=by
  simp only[stepG,unwind,g];rfl
 have bZ:∀{o:Outcome} {aG:World} {es:Array Event},stepG Q true (dt.g ⟨⟨c,tmps,todo,[],.returning,kind,none⟩,[],w⟩) w=.ended o aG es->False:=by
  intro o aG es e;have f:step Q (dt.m ⟨⟨c,tmps,todo,[],.returning,kind,none⟩,[],w⟩)=.ended o aG:=step_lone_ended (by show(stepG Q true (dt.g ⟨⟨c,tmps,todo,[],.returning,kind,none⟩,[],w⟩) w).bare=_;rw[e];rfl)
  simp only[runN,f]at d;cases d
 have l:∀{c₁:Frame} {aG:World} {es:Array Event},stepG Q true (dt.g ⟨⟨c,tmps,todo,[],.returning,kind,none⟩,[],w⟩) w=.go ⟨c₁,[],.running,none,none⟩ aG es->
  ((∃v,c₁=wall.finish v)\/(∃r,c₁=wall.raise r)\/c₁=wall\/∃m,c₁={wall with mode:=m}/\wall.mode≠.panicking [])->False:=by
  intro c₁ aG es e p;have f:step Q (dt.m ⟨⟨c,tmps,todo,[],.returning,kind,none⟩,[],w⟩)=.next (lone c₁ [] aG):=uX e rfl;simp only[runN,f]at d;cases n with
  |zero=>
   simp only[runN]at d;injection d with d
   obtain⟨_,f,_⟩:=p0 d;have:=congrArg List.length f;simp at this
  |succ n=>
   obtain⟨o,u,e⟩:=GY (Q:=Q) p aG;simp only[runN,e]at d;cases d
 rcases j:(results fn tmps).runT Q w #[]with⟨⟨v,aG⟩|⟨x,aG⟩,es⟩
 .rw[j]at e
  rcases aa with aa|aa
  .subst aa
   exact l (c₁:=wall.finish v) (by rw[e];rfl) (.inl ⟨v,rfl⟩)
  .subst aa
   exact l (c₁:=wall) (by rw[e];rfl) (.inr (.inr (.inl rfl)))
 .rw[j]at e
  cases x<;>exact bZ e
def e3.stopped{V:dt}(h:e3 Q f0 R V)(p:V.stop)(o:V.fr.roundOf=none)(j:V.fr.kind=.normal\/V.fr.kind=.deferred)(i:Q.funcs[V.fr.fn]?=some fn):
 ∃v,R v V.w/\V.fr.leaving Q V.w (.returned v)/\V.fr.fn=f0:=by
 obtain⟨v,w',bo,m,⟨n,c⟩,l,g⟩:=h V.w.tape (λ_ _=>rfl);rw[Rg]at c;cases n with
 |zero=>
  simp only[runN]at c;injection c with c
  obtain⟨d,q,f⟩:=p0 c;refine⟨v,?_,?_,?_⟩
  .rw[f];exact m
  .rw[d,f];exact l
  .rw[d];exact g
 |succ n=>exact absurd c (Gh p o j i n bo [] w')
def e3.acc{V:dt}(h:e3 Q f0 R V):Acc (lB Q) V:=by
 refine Classical.byContradiction λF=>?_
 have gM:∀V:dt,¬Acc (lB Q) V->∃b4,lB Q b4 V/\¬Acc (lB Q) b4:=by
  intro V C;refine Classical.byContradiction λg=>C (Acc.intro _ λb4 D=>?_)
  exact Classical.byContradiction λq=>g ⟨b4,D,q⟩
 let S:={V:dt // ¬Acc (lB Q) V}
 let w:S->S:=λs=>⟨Classical.choose (gM s.1 s.2),(Classical.choose_spec (gM s.1 s.2)).2⟩
 have G:∀s:S,lB Q (w s).1 s.1:=λs=>(Classical.choose_spec (gM s.1 s.2)).1
 let c:Nat->S:=λn=>Nat.rec ⟨V,F⟩ (λ_ s=>w s) n
 have I:(c 0).1=V:=rfl;have r:∀n,lB Q (c (n+1)).1 (c n).1:=λn=>G (c n)
 have keep:∀n d k,k<(c n).1.w.drawn->(c (n+d)).1.w.tape k=(c n).1.w.tape k/\(c n).1.w.drawn<=(c (n+d)).1.w.drawn:=by
  intro n d k f;induction d with
  |zero=>exact⟨rfl,bg⟩
  |succ d i=>
   have q:=r (n+d);exact⟨(q.sS k (gu f i.2)).trans i.1,cL i.2 q.mono⟩
 have same:∀n m k,k<(c n).1.w.drawn->k<(c m).1.w.drawn->(c n).1.w.tape k=(c m).1.w.tape k:=by
  intro n m k g hm;rcases Nat.le_total n m with aj|aj
  .obtain⟨d,rfl⟩:=Nat.exists_eq_add_of_le aj
   exact(keep n d k g).1.symm
  .obtain⟨d,rfl⟩:=Nat.exists_eq_add_of_le aj
   exact(keep m d k hm).1
 let aR:Tape:=λk=>(c (Classical.epsilon λn=>k<(c n).1.w.drawn)).1.w.tape k
 have u:∀n k,k<(c n).1.w.drawn->aR k=(c n).1.w.tape k:=by
  intro n k f;have y:∃n,k<(c n).1.w.drawn:=⟨n,f⟩
  exact same _ _ k (Classical.epsilon_spec (p:=λn=>k<(c n).1.w.drawn) y) f
 have run:∀n,runN Q n ((c 0).1.iF aR).m=.next ((c n).1.iF aR).m:=by
  intro n;induction n with
  |zero=>rfl
  |succ n i=>
   obtain⟨es,H⟩:=(r n).step;have l:step Q ((c n).1.iF aR).m=.next ((c (n+1)).1.iF aR).m:=uX (V:=(c n).1.iF aR) (H aR λj _ E=>u (n+1) j E) rfl;rw[runN_add,i];simp only[runN,l]
 obtain⟨v,w',bo,_,⟨n,g⟩,aj,_⟩:=h aR λk f=>u 0 k f
 have o:=run n;rw[I,g]at o;injection o with o
 obtain⟨l,z,J⟩:=p0 o;refine(r n).stay ⟨?_,?_,?_⟩
 .have B:[wall]=(c n).1.cs++[wall]:=z
  have:=congrArg List.length B;simpa using this
 .have:bo=(c n).1.fr:=l
  rw[<-this];exact aj.1
 .have:bo=(c n).1.fr:=l
  rw[<-this];exact aj.2.1
def e3.z8{f:FuncId}{args:Array Value}(h:∀aR:Tape,(∀k,k<w.drawn->aR k=w.tape k)->Calls Q f args (dM w aR) λe w'=>∃v,e=.returned v/\R v w'):e3 Q f R ⟨Frame.enter Q f args .normal,[],w⟩:=by intro aR j;obtain⟨e,w',bo,⟨v,rfl,g⟩,i,c,d⟩:=h aR j [wall];exact⟨v,w',bo,g,i,d,c⟩
end
section
variable{Q P:Program}{R:Value->World->Prop}{f0:FuncId}{K:g8 Q P}{ρ ai:Ren}
def jv(Q:Program):g8 Q Q:=⟨λ_ _ _=>False,λ_=>False⟩
structure Self(Q:Program)(V:dt):Prop where
 ex:∃ai:Ren,Fit Q ai/\ai.room=true/\cN (jv Q) ai V.fr V.fr/\cK (cN (jv Q) ai) V.cs V.cs/\dA ai V.w V.w
def dA.Oa{aR:Tape}(h:dA ρ w w')(c:w=w'):dA ρ (dM w aR) (dM w' aR):=by subst c;exact⟨h.obj,λ_ _=>rfl,h.lim,h.js⟩
def e3.iF{V:dt}(h:e3 Q f0 R V){aR:Tape}(f:∀k,k<V.w.drawn->aR k=V.w.tape k):e3 Q f0 R (V.iF aR):=λai d=>h ai λk c=>(d k c).trans (f k c)
def EO:Plain (jv Q) fr bo:=λ_ _ _ _ _ _ _ _ h=>h
def rm{V:dt}{c:String}(h:V.fr.todo = [.code (.refuse c)])(hm:V.fr.mode=.run)(w:World):∃o w' es,stepG Q true V.g w=.ended o w' es:=by obtain⟨⟨fn,tmps,todo,defers,mode,kind,ro⟩,cs,aL⟩:=V;dsimp only at h hm;subst h;subst hm;exact⟨_,_,_,rfl⟩
def p8{V:dt}(h:V.fr.mode=.run):¬V.stop:=λk=>by rw[k.2.1]at h;cases h
def Self.known{V:dt}(h:Self Q V)(g:V.stop):V.fr.roundOf=none/\(V.fr.kind=.normal\/V.fr.kind=.deferred)/\∃fn,Q.funcs[V.fr.fn]?=some fn:=by obtain⟨ai,_,_,c,_⟩:=h;have d:=c.ret g.2.1;obtain⟨f,im,q1,_⟩:=c.known d;exact⟨d,c.kindOk,f,q1⟩
def Same.refl(Q:Program):Same Q Q:=⟨rfl⟩
def x4(h:oB (jv Q) ai fr bo):cN (jv Q) ai fr bo\/∃c,fr.todo = [.code (.refuse c)]/\fr.mode=.run:=by
 cases h with
 |plain h=>exact .inl h
 |refused c h hm=>exact .inr ⟨c,h,hm⟩
 |sh h=>exact h.elim
def Fw(ek:fe (fj (jv Q)) Q Q){V:dt}(l:e3 Q f0 R V)(J:Self Q V)(n:¬V.stop){aR:Tape}(q:∀k,k<V.w.drawn->aR k=V.w.tape k):
 ∃b4 es,lB Q b4 V/\Self Q b4/\e3 Q f0 R b4/\b4.w.tape=aR/\stepG Q true V.g (dM V.w aR)=.go b4.g b4.w es:=by
 obtain⟨ai,F,m,z,L,i⟩:=J;have i:=i.Oa (aR:=aR) rfl;have w:=Gg (dS:=[wall]) (base:=[wall]) (Same.refl Q) F m ek i z L aF (λ_=>EO) true true .running .running none none;have loc:=Qy (C:=V.cs++[wall]) (Same.refl Q) F m ek i z aF (λ_=>EO) true .running none;generalize e:stepG Q true ⟨V.fr,V.cs++[wall],.running,none,none⟩ (dM V.w aR)=r at w;cases r with
 |go g aG es=>
  obtain⟨u,W,X⟩:=loc g aG es e;rcases w with⟨Y,cs,bo,cs',bJ,fg,d,f,he,p,⟨T,ae⟩,P,ad⟩|⟨c,c₁,K,f,M⟩
  .injection d with d j I
   subst j;subst I;have G:cs=cs':=by have:=congrArg Goroutine.callers d;rw[f]at this;exact List.append_cancel_right this
   have H:g.frame=bo:=congrArg Goroutine.frame d;subst G;subst H;have B:g=dt.g ⟨g.frame,cs,aG⟩:=f;have D:lB Q ⟨g.frame,cs,aG⟩ V:=⟨n,λk S=>by
    show aG.tape k=_;rw[u];exact q k S,W,es,λZ U=>by
    rw[<-B];exact X Z λk d j=>by have:=U k d j;dsimp only at this;rw[this,u]⟩
   have y:=l.next D;refine⟨⟨g.frame,cs,aG⟩,es,D,?_,y,u,?_⟩
   .rcases x4 T with h|⟨af,h,hm⟩
    .exact⟨Y,F.mono he.le,he.le.room.trans m,h,P,p.obj,λ_ _=>rfl,p.lim,p.js⟩
    .obtain⟨o,w2,aa,E⟩:=rm (Q:=Q) (V:=⟨g.frame,cs,aG⟩) h hm aG
     exact(y.live (aR:=aG.tape) (λ_ _=>rfl) (p8 hm) E).elim
   .rw[<-B]
  .exact(l.in q n (c:=c) (c₁:=c₁) (cs:=g.callers) (aG:=aG) (es:=es) (by rw[<-f];exact e) K M).elim
 |ended o aG es=>exact(l.live q n e).elim
 |_=>exact w.elim
inductive dZ(Q:Program):dt->dt->Prop
 |one {b4 V:dt} (h:lB Q b4 V):dZ Q b4 V
 |more {vy b4 V:dt} (h:lB Q b4 V) (k:dZ Q vy b4):dZ Q vy V
def dZ.acc{V:dt}(h:Acc (lB Q) V):Acc (dZ Q) V:=by
 induction h with
 |intro V _ c=>
  refine Acc.intro _ λb4 d=>?_
  cases d with
  |one h=>exact c _ h
  |more h k=>exact(c _ h).inv k
def Fx(ek:fe (fj (jv Q)) Q Q){aR:Tape}:∀(n:Nat) {V:dt},e3 Q f0 R V->Self Q V->V.w.tape=aR->runN Q n V.m=.next (lone fr (cs++[wall]) aG)->
 e3 Q f0 R ⟨fr,cs,aG⟩/\Self Q ⟨fr,cs,aG⟩/\aG.tape=aR/\(V=⟨fr,cs,aG⟩\/dZ Q ⟨fr,cs,aG⟩ V):=by
 intro n;induction n with
 |zero=>
  intro V h g d c;simp only[runN]at c;injection c with c
  obtain⟨j,f,l⟩:=p0 c;have f:=List.append_cancel_right f;obtain⟨bo,cs',w'⟩:=V;dsimp only at j f l d;subst j;subst f;subst l;exact⟨h,g,d,.inl rfl⟩
 |succ n u=>
  intro V h g d c;by_cases i:V.stop
  .obtain⟨w,y,fn,z⟩:=g.known i
   exact absurd c (Gh i w y z n fr cs aG)
  obtain⟨b4,es,m,q,p,r,he⟩:=Fw ek h g i (aR:=aR) (λk D=>by rw[d]);have o:step Q V.m=.next b4.m:=uX (by
   have:dM V.w aR=V.w:=by rw[<-d];rfl
   rw[this]at he;exact he) rfl
  simp only[runN,o]at c;obtain⟨r1,B,C,r4⟩:=u p q r c;refine⟨r1,B,C,.inr ?_⟩;rcases r4 with rfl|r4
  .exact .one m
  .exact .more m r4
def hU(w w':World):Tape:=λk=>if k<w.drawn then w.tape k else w'.tape (w'.drawn+(k-w.drawn))
def AO(k:Nat)(h:k<w.drawn):hU w w' k=w.tape k:=if_pos h
def gm.yg(h:gm ρ w w'):dA ρ (dM w (hU w w')) w':=⟨h.obj,λn q=>by show hU w w' (w.drawn+n) q=_;unfold hU;rw[if_neg U];congr 2;omega,h.lim,h.js⟩
structure m2(K:g8 Q P)(ρ:Ren)(V:dt)(bo:Frame)(cs':List Frame)(w':World):Prop where
 fit:Fit Q ρ
 room:ρ.room=true
 fr:cN K ρ V.fr bo
 cs:cK (cN K ρ) V.cs cs'
 heap:gm ρ V.w w'
structure yl(K:g8 Q P)(ρ:Ren)(V:dt)(bo:Frame)(cs':List Frame)(w':World):Prop where
 fit:Fit Q ρ
 room:ρ.room=true
 fr:∃f a b kind,K.fn f/\(kind=.normal\/kind=.deferred)/\bQ ρ a b/\V.fr=Frame.enter Q f a kind/\bo=Frame.enter P f b kind/\∀n,eK Q f=some n->a.size=n
 some:V.cs≠[]
 cs:cK (cN K ρ) V.cs cs'
 heap:gm ρ V.w w'
def fc.GN{aR:Tape}{e:Event}(h:fc ρ (dM w aR) e):fc ρ w e:=by
 cases h with
 |cell h a b g i=>exact .cell h a b g i
 |obj h a g=>exact .obj h a g
 |mark h=>exact .mark h
def EE(S:Same Q P)(ek:fe (fj (jv Q)) Q Q)(H:fe (fj K) Q P){V:dt}(u:e3 Q f0 R V)(M:Self Q V)(hp:m2 K ρ V bo cs' w')(z:¬V.stop)(aj:V.fr.mode=.run->Plain K V.fr bo)(C:Bool)(G:GoStatus)(D:Option (Array CommCase×CommShape)):
 ∃b4 ai d g bJ fg,stepG P C ⟨bo,cs'++base,G,none,D⟩ w'=.go ⟨d,g++base,.running,none,none⟩ bJ fg/\
  lB Q b4 V/\e3 Q f0 R b4/\Self Q b4/\Eff ρ ai (dM V.w (hU V.w w')) b4.w w' bJ/\(∀e∈fg,fc ai V.w e)/\(m2 K ai b4 d g bJ\/yl K ai b4 d g bJ):=by
 obtain⟨F,y,ae,Y,af⟩:=hp;obtain⟨b4,es,al,T,w,ao,he⟩:=Fw ek u M z (aR:=hU V.w w') AO;have E:=Gg (dS:=[wall]) (base:=base) S F y H af.yg ae Y aF aj true C .running G none D;have aa:stepG Q true ⟨V.fr,V.cs++[wall],.running,none,none⟩ (dM V.w (hU V.w w'))=.go b4.g b4.w es:=he;rw[aa]at E;rcases E with⟨ai,cs,d,g,bJ,fg,L,m,j,q,⟨ak,ah⟩,l,ad⟩|⟨c,c₁,X,m,Z⟩
 .have J:b4.cs=cs:=by have:=congrArg Goroutine.callers m;exact List.append_cancel_right this
  subst J;refine⟨b4,ai,d,g,bJ,fg,L,al,w,T,j,λe h=>(ad e h).GN,?_⟩;have i:=F.mono j.le;have p:=j.le.room.trans y;have B:oB K ai b4.fr d:=ak;have hne':cN K ai b4.fr d\/b4.cs≠[]:=ah;rcases hne' with hp|hne'
  .exact .inl ⟨i,p,hp,l,q⟩
  generalize r:b4.fr=x at B;cases B with
  |plain h=>exact .inl ⟨i,p,by rw[r];exact h,l,q⟩
  |refused ap h hm=>
   rw[<-r]at h hm;obtain⟨o,w2,am,I⟩:=rm (Q:=Q) (V:=b4) h hm b4.w;exact(w.live (aR:=b4.w.tape) (λ_ _=>rfl) (p8 hm) I).elim
  |@sh f a b kind h ag U W=>exact .inr ⟨i,p,⟨f,a,b,kind,h,ag,U,r,rfl,λn e=>W n (by rw[i.fits.eb];exact e)⟩,hne',l,q⟩
 .exact(u.in AO z (c:=c) (c₁:=c₁) (cs:=b4.g.callers) (aG:=b4.w) (es:=es) (by rw[<-m];exact he) X Z).elim
def Aj(S:Same Q P){V:dt}(H:e3 Q f0 R V)(J:Self Q V)(hp:m2 K ρ V bo cs' w')(o:V.stop)(C:Bool)(ah:GoStatus)(ae:Option (Array CommCase×CommShape)):
 ∃v q ai bJ fg,R v (dM V.w (hU V.w w'))/\aQ ai v q/\cs' = []/\bo.kind=.normal/\bo.fn=f0/\
  stepG P C ⟨bo,cs'++base,ah,none,ae⟩ w'=GStep.after fg (doReturn P C bo base none q bJ)/\
  Eff ρ ai (dM V.w (hU V.w w')) (dM V.w (hU V.w w')) w' bJ/\dA ai (dM V.w (hU V.w w')) bJ/\(∀e∈fg,fc ai V.w e):=by
 obtain⟨X,Y,fn,Z⟩:=J.known o;obtain⟨v,I,U,L⟩:=(H.iF (aR:=hU V.w w') AO).stopped o X Y Z;obtain⟨F,am,d,u,M⟩:=hp;obtain⟨s1,s2,ag⟩:=o;have W:=d.ret s2;obtain⟨f,im,q1,D,af⟩:=d.known W;obtain⟨ap,aq,aa,G,ad,p⟩:=U;have B:Q.funcs[V.fr.fn]?=some G:=ad;rw[q1]at B;cases B;rw[s1]at u;cases u;have j:=d.fn;have m:=d.defers;have n:=d.mode;rw[ag]at m;rw[s2]at n;have T:=d.kind;rcases pb (AZ S af d.tmps) M.yg with⟨a,E,aG,bJ,ai,ba,r,g,l,he,z,y,w⟩|⟨v,q,aG,bJ,ai,ba,r,g,l,he,z,y,w⟩|⟨x,aG,ba,g,al⟩
 .have c:(results f V.fr.tmps).run Q (dM V.w (hU V.w w'))=.ok a aG:=by rw[<-Sem.runT_fst Q _ _ #[],g]
  have i:(results f V.fr.tmps).run Q (dM V.w (hU V.w w'))=.ok v (dM V.w (hU V.w w')):=p;rw[i]at c;cases c;refine⟨v,E,ai,bJ,seen P bo.fn r,I,y,rfl,by rw[<-T];exact aa,by rw[<-j];exact L,?_,he,z,λe h=>(w e (nv _ _ _ e h)).GN⟩;obtain⟨ak,av,aw,aj,ar,ao,au⟩:=bo;dsimp only at j m n l;cases m;cases n;rw[j]at D;simp only[stepG,unwind,D,l,List.nil_append]
 .have c:(results f V.fr.tmps).run Q (dM V.w (hU V.w w'))=.halt (.panic v) aG:=by rw[<-Sem.runT_fst Q _ _ #[],g]
  have i:(results f V.fr.tmps).run Q (dM V.w (hU V.w w'))=.ok _ (dM V.w (hU V.w w')):=p;rw[i]at c;cases c
 .have c:(results f V.fr.tmps).run Q (dM V.w (hU V.w w'))=.halt x aG:=by rw[<-Sem.runT_fst Q _ _ #[],g]
  have i:(results f V.fr.tmps).run Q (dM V.w (hU V.w w'))=.ok _ (dM V.w (hU V.w w')):=p;rw[i]at c;cases c
end
end Go.aO
