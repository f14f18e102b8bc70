/- Part 5 of a law on fees: no conditions. -/
import Derived.Test.YthiiblonjmmnfaaGreatDoorP3
set_option maxHeartbeats 8000000
set_option maxRecDepth 100000
set_option linter.all false
namespace Go.aN
attribute [-simp] Go.Sem.runT_eq
section
variable{Q P:Program}{K:fV Q P}{ρ ai:Ren}{α β:Type}
def c9(w:World)(aL:Tape):World:={w with tape:=aL}
def DF{α:Type}:Result α->Tape->Result α
 |.ok a w,aL=>.ok a (c9 w aL)
 |.halt h w,aL=>.halt h (c9 w aL)
def qY{α:Type}:Result α->World
 |.ok _ w=>w
 |.halt _ w=>w
def rJ(aL ai:Tape)(m n:Nat):Prop:=∀k,m<=k->k<n->aL k=ai k
def hc(Q:Program)(s:Sem α)(w:World)(es:Array Event):Prop:=
 (∀h aG,(s.runT Q w es).1=.halt h aG->¬iC h)->
  (qY (s.runT Q w es).1).tape=w.tape/\w.drawn<=(qY (s.runT Q w es).1).drawn/\
   ∀aL,rJ aL w.tape w.drawn (qY (s.runT Q w es).1).drawn->s.runT Q (c9 w aL) es=(DF (s.runT Q w es).1 aL,(s.runT Q w es).2)
def hc.step{s gI:Sem α}{w aG:World}{es kh:Array Event}(e:s.runT Q w es=gI.runT Q aG kh)(d:aG.tape=w.tape)(hd:w.drawn<=aG.drawn)(k:∀aL,(aG.drawn≠w.drawn->aL w.drawn=w.tape w.drawn)->s.runT Q (c9 w aL) es=gI.runT Q (c9 aG aL) kh)(h:hc Q gI aG kh):hc Q s w es:=by intro c;rw[e]at c ⊢;obtain⟨g,i,l⟩:=h c;refine⟨g.trans d,Po hd i,λaL f=>?_⟩;rw[k aL λq=>f _ Pk (by omega)];exact l aL λj p o=>by rw[f j (by omega) o,d]
def hc.pe{s:Sem α}{w aG:World}{es bd:Array Event}{h:Halt}(e:s.runT Q w es=(.halt h aG,bd))(c:iC h):hc Q s w es:=by intro k;exact absurd c (k h aG (by rw[e]))
def hc.dF{s:Sem α}{w:World}{es:Array Event}(h:dj Q s):hc Q s w es:=by
 obtain⟨x,w',e,g,_⟩:=h w;have c:(s.runT Q w es).1=.halt x w':=by rw[Sem.runT_fst,e]
 intro k;exact absurd g (k x w' c)
def PH.loc{l:Bool}{A:Ren->α->β->Prop}{s:Sem α}:∀{ρ:Ren} {w w':World} {a6:Sem β} {es:Array Event},PH l Q P A s ρ a6->dp ρ w w'->hc Q s w es:=by
 induction s with
 |pure a=>
  intro ρ w w' a6 es _ f _;exact⟨rfl,Pk,λaL _=>rfl⟩
 |load m a k i=>
  rintro ρ w w' a6 es (hd|⟨T,u,rfl,z,g⟩) f
  .exact .dF hd
  rcases wy f z with⟨v,Y,I,K,R⟩|I
  .refine hc.step (gI:=k v) (aG:=w) (kh:=es.push ⟨.cell a,false,m == .atomic⟩) (by simp only[Sem.runT,I]) rfl Pk (λaL _=>?_) (i v (g v Y R) f)
   have J:(c9 w aL).cell? a=some v:=I;simp only[Sem.runT,J]
  .obtain⟨s,M⟩:=wV (Q:=Q) f z (m == .atomic)
   exact .pe (by simp only[Sem.runT,I,M];rfl) (show iC (.stuck s)from trivial)
 |store m a v k i=>
  rintro ρ w w' a6 es (hd|⟨T,Y,u,rfl,z,R,g⟩) f
  .exact .dF hd
  by_cases U:∃c,v=.agg c
  .obtain⟨c,rfl⟩:=U
   exact .pe (h:=.stuck _) (by simp only[Sem.runT];rfl) trivial
  by_cases W:∃c,v=.tuple c
  .obtain⟨c,rfl⟩:=W
   exact .pe (h:=.stuck _) (by simp only[Sem.runT];rfl) trivial
  have e:=λw=>u2 (α:=α) Q m a v k w es (λc h=>U ⟨c,h⟩) (λc h=>W ⟨c,h⟩)
  rcases D:w.cell? a with _|x
  .obtain⟨s,M⟩:=Ar (Q:=Q) f z v (m == .atomic)
   exact .pe (h:=.stuck s) (by rw[e];simp only[D,M];rfl) trivial
  .by_cases E:w.frozen? a=true
   .exact .pe (h:=.unsupported (.unsafePointer "a write to bytes that a string shares")) (by rw[e];simp only[D];rw[if_pos E]) trivial
   .simp only[Bool.not_eq_true]at E
    obtain⟨⟨y,ah⟩,V,aa,F,ae⟩:=yH f z R D E;refine hc.step (gI:=k) (aG:=w.setCell a v) (kh:=es.push ⟨.cell a,true,m == .atomic⟩) (by rw[e];simp only[D];rw[if_neg (by simp[E])]) rfl Pk (λaL _=>?_) (i g F);have ad:(c9 w aL).cell? a=some x:=D;have V:(c9 w aL).frozen? a=false:=E;rw[e];simp only[ad];rw[if_neg (by simp[V])];rfl
 |new o k i=>
  rintro ρ w w' a6 es (hd|⟨G,u,rfl,H,g⟩) f
  .exact .dF hd
  obtain⟨ai,j,he,F⟩:=By f H;exact hc.step (gI:=k w.heap.size) (aG:={w with heap:=w.heap.push o}) (kh:=es) (by simp only[Sem.runT]) rfl Pk (λaL _=>by simp only[Sem.runT];rfl) (i _ (g ai _ _ he.le j) F)
 |shape r k i=>
  rintro ρ w w' a6 es (hd|⟨C,u,rfl,j,g⟩) f
  .exact .dF hd
  exact hc.step (gI:=k (w.shape? r)) (aG:=w) (kh:=es) (by simp only[Sem.runT]) rfl Pk (λaL _=>by simp only[Sem.runT];rfl) (i _ (g _ _ (Cz f j)) f)
 |freeze a n k i=>intro ρ w w' a6 es h f;exact .dF h
 |frozen a k i=>
  rintro ρ w w' a6 es (hd|⟨T,u,rfl,z,g⟩) f
  .exact .dF hd
  exact hc.step (gI:=k (w.frozen? a)) (aG:=w) (kh:=es) (by simp only[Sem.runT]) rfl Pk (λaL _=>by simp only[Sem.runT];rfl) (i _ (g _ _ (AM f z) (AL f z)) f)
 |getObj r k i=>
  rintro ρ w w' a6 es (hd|⟨C,u,rfl,j,g⟩) f
  .exact .dF hd
  obtain⟨o,G,I,K,B⟩:=f.obj r C j;have Z:ev ρ o G:=B;have key:p9 o->hc Q (.getObj r k) w es:=by
   intro L;have st:∀w:World,w.heap[r]?=some o->Sem.runT Q (.getObj r k) w es=(k o).runT Q w (es.push ⟨.obj r,false,o.isChan⟩):=by intro w I;cases o<;>first|exact L.elim|simp only[Sem.runT,I]
   exact hc.step (gI:=k o) (aG:=w) (kh:=es.push ⟨.obj r,false,o.isChan⟩) (st w I) rfl Pk (λaL _=>st (c9 w aL) I) (i o (g o G Z) f)
  cases B with
  |cells a b c=>exact .pe (h:=.stuck "getObj: a row of cells") (by simp only[Sem.runT,I];rfl) trivial
  |_=>exact key trivial
 |setObj r o k i=>
  rintro ρ w w' a6 es (hd|⟨C,G,u,rfl,j,H,L,g⟩) f
  .exact .dF hd
  obtain⟨x,af,I,K,B⟩:=f.obj r C j;have key:p9 x->hc Q (.setObj r o k) w es:=by
   intro X;obtain⟨F,ae,aa⟩:=Cx f j H I X;have st:∀w:World,w.heap[r]?=some x->Sem.runT Q (.setObj r o k) w es=k.runT Q {w with heap:=w.heap.setIfInBounds r o} (es.push ⟨.obj r,true,o.isChan⟩):=by intro w I;cases x<;>first|exact X.elim|simp only[Sem.runT,I]
   exact hc.step (gI:=k) (aG:={w with heap:=w.heap.setIfInBounds r o}) (kh:=es.push ⟨.obj r,true,o.isChan⟩) (st w I) rfl Pk (λaL _=>st (c9 w aL) I) (i g F)
  cases B with
  |cells a b c=>exact .pe (h:=.stuck "setObj: a row of cells") (by simp only[Sem.runT,I];rfl) trivial
  |_=>exact key trivial
 |choose q k i=>
  rintro ρ w w' a6 es (hd|⟨u,rfl,g⟩|⟨el,g⟩) f
  .exact .dF hd
  rotate_left
  .have sub:∀n d,hc Q (k n) {w with drawn:=d} es:=λn d=>by
    obtain⟨r,o,C,G,a,b,e,_,j,H,L,_⟩:=g n;rw[e];obtain⟨x,af,I,K,B⟩:=f.obj r C j;cases B with
    |cells a b c=>exact .pe (h:=.stuck "setObj: a row of cells") (by simp only[Sem.runT,I];rfl) trivial
    |_=>exact λ_=>⟨by simp only[Sem.runT,I];rfl,by simp only[Sem.runT,I];exact Pk,λaL _=>by have J:(c9 {w with drawn:=d} aL).heap[r]?=_:=I;simp only[Sem.runT,I,J];rfl⟩
   by_cases p:q.forced=true
   .exact hc.step (gI:=k 0) (aG:=w) (kh:=es) (by simp only[Sem.runT,p,if_true]) rfl Pk (λaL _=>by simp only[Sem.runT,p,if_true]) (sub 0 w.drawn)
   .refine hc.step (gI:=k (q.cut (w.tape w.drawn q))) (aG:={w with drawn:=w.drawn+1}) (kh:=es) (by simp only[Sem.runT,p,if_false,Bool.false_eq_true]) rfl (Nat.le_succ _) (λaL S=>?_) (sub _ _)
    have:=S (Nat.succ_ne_self _);simp only[Sem.runT,p,if_false,Bool.false_eq_true];show(k (q.cut (aL w.drawn q))).runT Q {c9 w aL with drawn:=w.drawn+1} es=_;rw[this];rfl
  by_cases p:q.forced=true
  .exact hc.step (gI:=k 0) (aG:=w) (kh:=es) (by simp only[Sem.runT,p,if_true]) rfl Pk (λaL _=>by simp only[Sem.runT,p,if_true]) (i _ (g 0) f)
  .refine hc.step (gI:=k (q.cut (w.tape w.drawn q))) (aG:={w with drawn:=w.drawn+1}) (kh:=es) (by simp only[Sem.runT,p,if_false,Bool.false_eq_true]) rfl (Nat.le_succ _) (λaL S=>?_) (i _ (g _) f.tick)
   have:=S (Nat.succ_ne_self _);simp only[Sem.runT,p,if_false,Bool.false_eq_true];show(k (q.cut (aL w.drawn q))).runT Q {c9 w aL with drawn:=w.drawn+1} es=_;rw[this];rfl
 |sys c k i=>intro ρ w w' a6 es h f;exact .dF h
 |program k i=>
  rintro ρ w w' a6 es (hd|⟨u,rfl,g⟩) f
  .exact .dF hd
  exact hc.step (gI:=k Q) (aG:=w) (kh:=es) (by simp only[Sem.runT]) rfl Pk (λaL _=>by simp only[Sem.runT]) (i _ g f)
 |mark m k i=>
  rintro ρ w w' a6 es (hd|⟨cP,u,rfl,ag,g⟩) f
  .exact .dF hd
  exact hc.step (gI:=k) (aG:=w) (kh:=es.push ⟨.mark m,false,true⟩) (by simp only[Sem.runT]) rfl Pk (λaL _=>by simp only[Sem.runT]) (i g f)
 |halt x=>
  intro ρ w w' a6 es h f _;exact⟨rfl,Pk,λaL _=>rfl⟩
def dn(f:World->GStep)(w:World):Prop:=∀g aG es,f w=.go g aG es->aG.tape=w.tape/\w.drawn<=aG.drawn/\∀aL,rJ aL w.tape w.drawn aG.drawn->f (c9 w aL)=.go g (c9 aG aL) es
def dn.go(g:Goroutine)(es:Array Event)(w:World):dn (λw=>.go g w es) w:=by intro g' aG bd h;cases h;exact⟨rfl,Pk,λaL _=>rfl⟩
def dn.ended{f:World->GStep}{w:World}(h:∃o aG es,f w=.ended o aG es):dn f w:=by obtain⟨o,aG,es,h⟩:=h;intro g c bd e;rw[h]at e;cases e
def dn.after{f:World->GStep}{w:World}(es:Array Event)(h:dn f w):dn (λw=>GStep.after es (f w)) w:=by
 intro g aG bd e;dsimp only at e;rcases c:f w with⟨p,q,o⟩|_|_|_|_|_|_|_|_|_|_<;>rw[c]at e<;>try cases e
 obtain⟨d,i,j⟩:=h _ _ _ c;exact⟨d,i,λaL l=>by dsimp only;rw[j aL l];rfl⟩
def dn.doReturn(p:Program)(main:Bool)(fr:Frame)(cs:List Frame)(v:Value)(w:World):dn (λw=>doReturn p main fr cs none v w) w:=by
 intro g aG es e;have key:∀w:World,(∃g,∀w:World,Go.doReturn p main fr cs none v w=.go g w)\/∀w,∃o es,Go.doReturn p main fr cs none v w=.ended o w es:=by
  intro w;unfold Go.doReturn;rcases cs with _|⟨c,rest⟩
  .dsimp only
   cases d:fr.kind
   case report=>exact .inr λw=>⟨_,_,rfl⟩
   all_goals
    dsimp only;cases main
    .exact .inl ⟨_,λw=>rfl⟩
    .simp only[Bool.not_true,Bool.false_eq_true,if_false]
     cases p.inits.idxOf? fr.fn
     .exact .inr λw=>⟨_,_,rfl⟩
     .exact .inl ⟨_,λw=>rfl⟩
  .dsimp only
   cases d:fr.kind<;>exact .inl ⟨_,λw=>rfl⟩
 rcases key w with⟨g',h⟩|h
 .dsimp only at e
  rw[h]at e;cases e;exact⟨rfl,Pk,λaL _=>h _⟩
 .obtain⟨o,bd,h⟩:=h w
  dsimp only at e;rw[h]at e;cases e
def yj{α:Type}:Result α->World->Result α
 |.ok a _,w=>.ok a w
 |.halt h _,w=>.halt h w
def LA(r:Result α):yj r (qY r)=r:=by cases r<;>rfl
def LB(r:Result α)(aL:Tape):yj r (c9 (qY r) aL)=DF r aL:=by cases r<;>rfl
def aW.loc{A:Ren->α->β->Prop}{s:Sem α}{ρ:Ren}{w w':World}{a6:Sem β}{es:Array Event}(h:aW Q P A s ρ a6)(c:dp ρ w w'):hc Q s w es:=PH.loc h c
def dn.run{A:Ren->α->β->Prop}{s:Sem α}{a6:Sem β}{w w':World}(z:aW Q P A s ρ a6)(B:dp ρ w w')(F:Result α×Array Event->GStep)(I:∀a aG bd,s.runT Q w #[]=(.ok a aG,bd)->dn (λw=>F (.ok a w,bd)) aG)(J:∀v aG bd,s.runT Q w #[]=(.halt (.panic v) aG,bd)->dn (λw=>F (.halt (.panic v) w,bd)) aG)(G:∀h aG bd,s.runT Q w #[]=(.halt h aG,bd)->iC h->∃o c es,F (.halt h aG,bd)=.ended o c es):dn (λw=>F (s.runT Q w #[])) w:=by
 intro g c gs e;dsimp only at e;have i:=aW.loc (es:=#[]) z B;have fin:∀(r:Result α) (bd:Array Event),s.runT Q w #[]=(r,bd)->(∀h aG,r=.halt h aG->¬iC h)->dn (λw=>F (yj r w,bd)) (qY r)->
  c.tape=w.tape/\w.drawn<=c.drawn/\∀aL,rJ aL w.tape w.drawn c.drawn->F (s.runT Q (c9 w aL) #[])=.go g (c9 c aL) gs:=by
  intro r bd d H h;unfold hc at i;rw[d]at i e;obtain⟨f,l,p⟩:=i (λh aG he=>H h aG he);obtain⟨L,M,R⟩:=h g c gs (by dsimp only;rw[LA];exact e);dsimp only at f l p;refine⟨L.trans f,Po l M,λaL C=>?_⟩;rw[p aL λj q u=>C j q (by omega)];have:=R aL λj q u=>by rw[C j (by omega) u,f]
  dsimp only at this;rw[LB]at this;exact this
 rcases d:s.runT Q w #[]with⟨⟨a,aG⟩|⟨x,aG⟩,bd⟩
 .exact fin _ _ d (by simp) (I a aG bd d)
 .have E:iC x->c.tape=w.tape/\w.drawn<=c.drawn/\∀aL,rJ aL w.tape w.drawn c.drawn->F (s.runT Q (c9 w aL) #[])=.go g (c9 c aL) gs:=by intro K;obtain⟨o,S,es,he⟩:=G x aG bd d K;rw[d,he]at e;cases e
  have h:=aW.run z B;have D:s.run Q w=.halt x aG:=by rw[<-Sem.runT_fst Q s w #[],d]
  rw[D]at h;cases x with
  |panic v=>exact fin _ _ d (by rintro h w he;cases he;exact id) (J v aG bd d)
  |_=>exact E h
section
variable{w w' aG bW:World}{C cs cs':List Frame}{fr bg:Frame}{es e3:Array Event}
def wa{l:Bool}{s a6:Sem Next}(E:PH l Q P gN s ρ a6)(F:dp ρ w w')(k:(fr.kind == .early)=false)(G:oT fr):dn (λw=>stepG.apply Q true fr C none s w) w:=by
 intro g T gs e;dsimp only at e ⊢;have z:=PH.loc (es:=#[]) E F;unfold hc at z;rcases PR E F with⟨n,cM,aG,bW,ai,bd,B,i,H,he,L,M,J⟩|⟨v,S,aG,bW,ai,bd,B,i,H,he,L,K,J⟩|⟨x,aG,bd,i,D⟩
 .rw[i]at z
  obtain⟨q,r,u⟩:=z (by simp);cases M with
  |value K=>rw[qf i k]at e;cases e;exact⟨q,r,λaL j=>qf (u aL j) k⟩
  |skip=>rw[rN i k]at e;cases e;exact⟨q,r,λaL j=>rN (u aL j) k⟩
  |enter f I R=>rw[tu i k G]at e;cases e;exact⟨q,r,λaL j=>tu (u aL j) k G⟩
  |round z f I c d D=>rw[tw i k]at e;cases e;exact⟨q,r,λaL j=>tw (u aL j) k⟩
  |defer hd=>rw[tt i k]at e;cases e;exact⟨q,r,λaL j=>tt (u aL j) k⟩
 .rw[i]at z
  obtain⟨q,r,u⟩:=z (by rintro h w he;cases he;exact id);rw[tv i k]at e;cases e;exact⟨q,r,λaL j=>tv (u aL j) k⟩
 .obtain⟨o,U,B,he⟩:=v' (p:=Q) (fr:=fr) (cs:=C) i D
  rw[he]at e;cases e
def zF(S:bK Q P)(H:ey (eE K) Q P)(E:dp ρ w w'){d F:Deferred}(hd:kP ρ d F):dn (λw=>callDeferred Q fr C none d w) w:=by
 by_cases i:((d.target matches .nil) && (fr.mode matches .panicking _))=true
 .exact .ended (z7 i)
 simp only[Bool.not_eq_true]at i;intro g V gs e;dsimp only at e ⊢;have D:=yA (ρ:=ρ) S H hd.target hd.args;have u:=aW.loc (es:=#[]) D E;unfold hc at u;rcases mA D E with⟨n,cM,aG,bW,ai,bd,z,j,G,he,M,R,J⟩|⟨v,U,aG,bW,ai,bd,z,j,G,he,M,L,J⟩|⟨x,aG,bd,j,B⟩
 .rw[j]at u
  obtain⟨p,q,r⟩:=u (by simp);cases R with
  |value L=>rw[kX j (.inl ⟨_,rfl⟩) i]at e;cases e;exact⟨p,q,λaL l=>kX (r aL l) (.inl ⟨_,rfl⟩) i⟩
  |skip=>rw[kX j (.inr (.inl rfl)) i]at e;cases e;exact⟨p,q,λaL l=>kX (r aL l) (.inr (.inl rfl)) i⟩
  |defer hd=>rw[kX j (.inr (.inr ⟨_,rfl⟩)) i]at e;cases e;exact⟨p,q,λaL l=>kX (r aL l) (.inr (.inr ⟨_,rfl⟩)) i⟩
  |enter f I T=>rw[tK j i]at e;cases e;exact⟨p,q,λaL l=>tK (r aL l) i⟩
  |round u f I c d B=>rw[tM j i]at e;cases e;exact⟨p,q,λaL l=>tM (r aL l) i⟩
 .rw[j]at u
  obtain⟨p,q,r⟩:=u (by rintro h w he;cases he;exact id);rw[tL j i]at e;cases e;exact⟨p,q,λaL l=>tL (r aL l) i⟩
 .obtain⟨o,W,z,he⟩:=z6 (fr:=fr) (cs:=C) j B i
  rw[he]at e;cases e
def Ii(F:Fit Q ρ)(o:dp ρ w w')(g:cG K ρ fr bg)(main:Bool)(d:Option Code)(i:∀c,d=some c->codeOk Q true c=true):dn (λw=>k8 Q main fr C w d) w:=by
 obtain⟨fn,tmps,todo,defers,mode,kind,ro⟩:=fr;obtain⟨q,B,D,p,u,r,z⟩:=bg;have f:=g.round;dsimp only at f;unfold k8;cases f with
 |none=>
  dsimp only;rcases d with _|c
  .exact dn.go _ _ _
  .cases c<;>first|exact dn.go _ _ _|exact .ended ⟨_,_,_,rfl⟩
 |@some l aH j=>
  refine dn.run (CM (Q:=Q) (P:=P) j d (λc e=>by rw[F.dw];exact i c e)) o (λx=>GStep.after (seen Q fn x.2) (match x.1 with
   |.ok v w=>doReturn Q main ⟨fn,tmps,todo,defers,mode,kind,some l⟩ C none v w
   |.halt _ w=>.ended (.stuck "range over a function: no such loop" (Frame.pos Q ⟨fn,tmps,todo,defers,mode,kind,some l⟩)) w)) ?_ ?_ ?_
  .intro a aG bd _
   exact dn.after _ (dn.doReturn _ _ _ _ _ _)
  .intro v aG bd _
   exact .ended ⟨_,_,_,rfl⟩
  .intro h aG bd _ _
   exact⟨_,_,_,rfl⟩
def JK(S:bK Q P)(F:Fit Q ρ)(g:ρ.room=true)(H:ey (eE K) Q P)(i:dp ρ w w')(d:cG K ρ fr bg){o:Oper}(h:fr.oper?=some o)(f:nk Q o.op=true)(hd:fr.roundOf=none\/∀c,o.op≠.defer c):dn (λw=>stepG.oper Q true fr C none w) w:=by
 have e:(λw=>stepG.oper Q true fr C none w)=λw=>stepG.apply Q true fr C none (execOp fr.eval o) w:=funext λw=>px h hd
 rw[e];exact wa (CP S F.fits H o (.inl g) f (λx j=>r7 F d.tmps x j) (λv=>⟨rfl,rfl⟩) λ_=>⟨rfl,rfl⟩) i d.early.1 d.sw.1
def Hd(S:bK Q P)(F:Fit Q ρ)(aw:ρ.room=true)(H:ey (eE K) Q P)(u:dp ρ w w')(p:cG K ρ fr bg)(X:fr.mode=.run)(aB:Plain K fr bg)(main:Bool)(st:GoStatus)(off:Option (Array CommCase×CommShape)):dn (λw=>stepG Q main ⟨fr,C,st,none,off⟩ w) w:=by
 obtain⟨T,E,U,aj,V,W,ak,D,al,am⟩:=id p;obtain⟨fn,tmps,todo,defers,mode,kind,roundOf⟩:=fr;obtain⟨az,ae,aI,R,aF,aD,M⟩:=bg;dsimp only at T E U aj V W ak D al am X;subst T;subst W;subst X;cases V;have I:∀(z:Option Code),(∀c,z=some c->codeOk Q true c=true)->dn (λw=>k8 Q main ⟨fn,tmps,todo,defers,.run,kind,roundOf⟩ C w z) w:=
  λz au=>Ii F u p main z au
 cases U with
 |nil=>simp only[step_end];exact I none (by simp)
 |@cons i aC k ad ar aA=>
  cases ar with
  |inBlock id=>exact dn.go _ _ _
  |inLoop h=>exact dn.go _ _ _
  |inScope h=>exact dn.go _ _ _
  |inRangeFunc h=>exact .ended ⟨_,_,_,rfl⟩
  |@endRangeFunc l aH h=>
   refine dn.run (CL (Q:=Q) (P:=P) S h) u (λx=>GStep.after (seen Q fn x.2) (match x.1 with
    |.ok z w=>.go ⟨⟨fn,tmps,(z.map Item.code).toList++k,defers,.run,kind,roundOf⟩,C,.running,none,none⟩ w
    |.halt (.panic v) w=>.go ⟨Frame.raise ⟨fn,tmps,.endRangeFunc l::k,defers,.run,kind,roundOf⟩ [{v,recovered:=false}],C,.running,none,none⟩ w
    |.halt _ w=>.ended (.stuck "range over a function: no such loop" (Frame.pos Q ⟨fn,tmps,.endRangeFunc l::k,defers,.run,kind,roundOf⟩)) w)) ?_ ?_ ?_
   .intro a aG bd _
    exact dn.after _ (dn.go _ _ _)
   .intro v aG bd _
    exact dn.after _ (dn.go _ _ _)
   .intro h aG bd _ q
    cases h<;>first|exact q.elim|exact⟨_,_,_,rfl⟩
  |beginRound=>
   refine wa (l:=false) (P:=P) (ρ:=ρ) (w':=w') (a6:=do M.elim (stuck "beginRound: no round") Instr.beginRound;pure .skip) ?_ u p.early.1 p.sw.1;cases D with
   |none=>exact aW.stuck
   |some G=>exact sP (CJ S G)
  |@inRegion ops l h=>
   cases l with
   |nil=>exact dn.go _ _ _
   |cons i rest=>
    simp only[pM];split
    .rename_i aa
     rcases L:ops[i]? with _|o
     .rw[L]at aa;cases aa
     obtain⟨q1,ay⟩:=BM h L;exact JK S F aw H u p (o:=o) (by simp[Frame.oper?,L]) q1 (by
      cases D with
      |none=>exact .inl rfl
      |some _=>exact .inr (ay rfl))
    .exact dn.go _ _ _
  |@code c bo h=>
   cases c with
   |skip=>exact dn.go _ _ _
   |label l=>exact dn.go _ _ _
   |refuse aJ=>exact .ended ⟨_,_,_,rfl⟩
   |ret=>simp only[step_ret];exact I _ (by rintro c e;cases e;rfl)
   |exit id=>
    simp only[step_exit];cases exitTo id k with
    |none=>exact I (some (.exit id)) (by rintro c e;cases e;rfl)
    |some e=>exact dn.go _ _ _
   |goto id=>
    simp only[step_goto];cases gotoIn id k with
    |none=>exact I (some (.goto id)) (by rintro c e;cases e;rfl)
    |some e=>exact dn.go _ _ _
   |seq a b=>exact dn.go _ _ _
   |cond x a b=>
    simp only[stepG,stepG.exec];split
    .exact dn.go _ _ _
    .exact .ended ⟨_,_,_,rfl⟩
   |block id a=>exact dn.go _ _ _
   |loop a=>exact dn.go _ _ _
   |scope a=>exact dn.go _ _ _
   |region id ops d=>
    simp only[yG];cases d with
    |false=>exact dn.go _ _ _
    |true=>
     simp only[Bool.not_true,Bool.false_eq_true,if_false];intro g aK gs e;cases e;refine⟨rfl,Nat.le_succ _,λaL ax=>?_⟩;have:aL w.drawn=w.tape w.drawn:=ax _ Pk (Nat.lt_succ_self _);show GStep.go ⟨⟨fn,tmps,.inRegion ops (Region.schedule (Q.follows .mixedOrders) ops (aL w.drawn (.order fn id)))::k,defers,.run,kind,roundOf⟩,C,.running,none,none⟩ (c9 {w with drawn:=w.drawn+1} aL) #[]=_;rw[this]
   |rangeFunc f B a b=>
    cases h with
    |same h=>
    simp only[codeOk,Bool.and_eq_true]at h;have q:ρ.dw a/\ρ.dw b:=by rw[F.dw];exact h.2
    have aq:=r7 F (fr:=⟨fn,tmps,.code (.rangeFunc f B a b)::k,defers,.run,kind,roundOf⟩) (bg:=⟨fn,ae,.code (.rangeFunc f B a b)::ad,R,.run,kind,M⟩) E f h.1;refine dn.run (yx (Q:=Q) (P:=P) fn E B a b q D) u (λx=>GStep.after (seen Q fn x.2) (match x.1 with
     |.ok (l,mark) w=>stepG.apply Q true ⟨fn,tmps,.inRangeFunc l::k,mark++defers,.run,kind,roundOf⟩ C none (do let d <-resolve (Frame.eval ⟨fn,tmps,.inRangeFunc l::k,mark++defers,.run,kind,roundOf⟩) {callee:=.value f,args:=#[.const (.func (.yield l) #[] #[])],argTypes:=#[]} 0;invoke d.target d.args) w
     |.halt _ w=>.ended (.stuck "range over a function: no such loop" (Frame.pos Q ⟨fn,tmps,.code (.rangeFunc f B a b)::k,defers,.run,kind,roundOf⟩)) w)) ?_ ?_ ?_
    .rintro⟨l,mark⟩ aG bd J
     dsimp only;refine dn.after _ ?_;rcases mA (yx (Q:=Q) (P:=P) fn E B a b q D) u with⟨v,af,aG,bW,ai,bd,ah,j,ag,he,Z,Y,ap⟩|⟨v,af,aG,bW,ai,bd,ah,j,ag,he,Z,Y,ap⟩|⟨x,aG,bd,j,q⟩
     .rw[J]at j
      cases j;obtain⟨aH,aE⟩:=af;obtain⟨G,av⟩:=Y;dsimp only at G av;refine wa (l:=false) (P:=P) (ρ:=ai) (w':=bW) (a6:=do let d <-resolve (Frame.eval ⟨fn,ae,.code (.rangeFunc f B a b)::ad,R,.run,kind,M⟩) {callee:=.value f,args:=#[.const (.func (.yield aH) #[] #[])],argTypes:=#[]} 0;invoke d.target d.args) ?_ Z p.early.1 ?_
      .have ao:bE ai #[Value.func (.yield l) #[] #[]] #[Value.func (.yield aH) #[] #[]]:=nz (.func (.yield G) rfl (by simp) rfl (by simp))
       simp only[resolve,List.map_toArray,List.map_cons,List.map_nil];exact yw S (F.mono he.le).fits H (aq.mono he.le) ao
      .intro d b r s k e
       cases e
     .rw[J]at j;cases j
     .rw[J]at j;cases j
    .intro v aG bd _
     exact .ended ⟨_,_,_,rfl⟩
    .intro h aG bd _ q
     exact⟨_,_,_,rfl⟩
def Om(S:bK Q P)(F:Fit Q ρ)(H:ey (eE K) Q P)(g:dp ρ w w')(f:cG K ρ fr bg)(G:fr.mode≠.run)(hC:C≠[])(main:Bool):dn (λw=>unwind Q main fr C none w) w:=by
 have j:=f.defers;obtain⟨fn,tmps,todo,defers,mode,kind,ro⟩:=fr;obtain⟨T,ag,ah,M,aa,Z,af⟩:=bg;dsimp only at j;cases j with
 |@cons d z i R hd X=>
  obtain⟨t,a⟩:=d;obtain⟨a',L⟩:=z;have o:=hd.target;dsimp only at o;cases o with
  |@collected r ae D=>
   refine dn.run (C8 (Q:=Q) (P:=P) D) g (λx=>GStep.after (seen Q fn x.2) (match x.1 with
    |.ok q w=>.go ⟨⟨fn,tmps,todo,q++i,mode,kind,ro⟩,C,.running,none,none⟩ w
    |.halt _ w=>.ended (.stuck "the deferred calls of a range-over-func loop have been taken" (Frame.pos Q ⟨fn,tmps,todo,{target:=.collected r,args:=a}::i,mode,kind,ro⟩)) w)) ?_ ?_ ?_
   .intro v aG bd _
    exact dn.after _ (dn.go _ _ _)
   .intro v aG bd _
    exact .ended ⟨_,_,_,rfl⟩
   .intro h aG bd _ B
    exact⟨_,_,_,rfl⟩
  |nil=>exact zF S H g hd
  |fn V W=>exact zF S H g hd
 |nil=>
  have l:=f.mode;dsimp only at l;cases l with
  |run=>exact absurd rfl G
  |panicking Y=>
   have I:=f.sw;have u:∀(p:Program) (fr:Frame),oT fr->fr.catches p=false:=by
    intro p fr h;unfold Frame.catches;split
    .rename_i e
     exact absurd e (h _ _ _ _ _)
    .rfl
   rcases C with _|⟨c,C⟩
   .exact absurd rfl hC
   simp only[unwind,u _ _ I.1];exact dn.go _ _ _
  |returning=>
   have E:=f.ret rfl;obtain⟨U,g7,q1,ad,J⟩:=f.known E;simp only[unwind,q1];refine dn.run (yC (ρ:=ρ) S J f.tmps) g (λx=>GStep.after (seen Q fn x.2) (match x.1 with
    |.ok v w=>doReturn Q main ⟨fn,tmps,todo,[],.returning,kind,ro⟩ C none v w
    |.halt (.stuck s) w=>.ended (.stuck s (Frame.pos Q ⟨fn,tmps,todo,[],.returning,kind,ro⟩)) w
    |.halt _ w=>.ended (.stuck "return: the result variables cannot be read" (Frame.pos Q ⟨fn,tmps,todo,[],.returning,kind,ro⟩)) w)) ?_ ?_ ?_
   .intro v aG bd _
    exact dn.after _ (dn.doReturn _ _ _ _ _ _)
   .intro v aG bd _
    exact .ended ⟨_,_,_,rfl⟩
   .intro h aG bd _ B
    cases h<;>exact⟨_,_,_,rfl⟩
def M9(S:bK Q P)(F:Fit Q ρ)(f:ρ.room=true)(H:ey (eE K) Q P)(d:dp ρ w w')(c:cG K ρ fr bg)(hC:C≠[])(g:fr.mode=.run->Plain K fr bg)(main:Bool)(st:GoStatus)(off:Option (Array CommCase×CommShape)):dn (λw=>stepG Q main ⟨fr,C,st,none,off⟩ w) w:=by
 by_cases h:fr.mode=.run
 .exact Hd S F f H d c h (g h) main st off
 .have i:(λw=>stepG Q main ⟨fr,C,st,none,off⟩ w)=λw=>unwind Q main fr C none w:=by
   obtain⟨fn,tmps,todo,defers,mode,kind,ro⟩:=fr;cases mode with
   |run=>exact absurd rfl h
   |_=>rfl
  rw[i];exact Om S F H d c h hC main
end
end
section
variable{Q:Program}{R:Value->World->Prop}{f0:FuncId}
def wall:Frame:={fn:=0,tmps:=#[],todo:=[],defers:=[{target:=.nil,args:=#[]}],mode:=.panicking [],kind:=.normal}
structure cY where
 fr:Frame
 cs:List Frame
 w:World
def cY.gm(V:cY)(aL:Tape):cY:={V with w:=c9 V.w aL}
abbrev cY.g(V:cY):Goroutine:=⟨V.fr,V.cs++[wall],.running,none,none⟩
abbrev cY.m(V:cY):Machine:=lone V.fr (V.cs++[wall]) V.w
def cY.stop(V:cY):Prop:=V.cs = []/\V.fr.mode=.returning/\V.fr.defers = []
structure j7(Q:Program)(b6 V:cY):Prop where
 stay:¬V.stop
 qU:∀k,k<V.w.drawn->b6.w.tape k=V.w.tape k
 mono:V.w.drawn<=b6.w.drawn
 step:∃es,∀aL,rJ aL b6.w.tape V.w.drawn b6.w.drawn->stepG Q true V.g (c9 V.w aL)=.go b6.g (c9 b6.w aL) es
def en(Q:Program)(f0:FuncId)(R:Value->World->Prop)(V:cY):Prop:=
 ∀aL:Tape,(∀k,k<V.w.drawn->aL k=V.w.tape k)->∃v w' bg,R v w'/\Steps Q (V.gm aL).m (lone bg [wall] w')/\bg.leaving Q w' (.returned v)/\bg.fn=f0
def oc{a b:Frame}{cs c:List Frame}{w u:World}(h:lone a cs w=lone b c u):a=b/\cs=c/\w=u:=by
 unfold lone at h;injection h with d f o
 injection f with g
 injection g with i _
 injection i with j l
 exact⟨j,l,d⟩
def NS(V:cY):V.gm V.w.tape=V:=rfl
def DU{c:Frame}(h:(∃v,c=wall.finish v)\/(∃d,c=wall.raise d)\/c=wall\/∃m,c={wall with mode:=m}/\wall.mode≠.panicking [])(w:World):∃o w',step Q (lone c [] w)=.ended o w':=by
 have key:∀ch,∃o w',step Q (lone {wall with mode:=.panicking ch} [] w)=.ended o w':=λch=>
  ⟨_,_,step_lone_ended (o:=.unsupported (.noEntry "machine/Return: a deferred call of a nil function value, made while the frame is unwinding") (Frame.pos Q {wall with mode:=.panicking ch,defers:=[]})) (w':=w) (by simp only[stepG,wall,unwind,callDeferred];rfl)⟩
 rcases h with⟨v,rfl⟩|⟨d,rfl⟩|rfl|⟨m,rfl,hm⟩
 .exact key []
 .have:wall.raise d={wall with mode:=.panicking d}:=by simp[Frame.raise,wall]
  rw[this];exact key d
 .exact key []
 .exact absurd rfl hm
def sS{V:cY}{g:Goroutine}{aG:World}{es:Array Event}{fr:Frame}{cs:List Frame}(h:stepG Q true V.g V.w=.go g aG es)(c:g=⟨fr,cs,.running,none,none⟩):step Q V.m=.next (lone fr cs aG):=by subst c;exact step_lone_go (by rw[h];rfl)
def en.head{V:cY}(h:en Q f0 R V){aL:Tape}(r:∀k,k<V.w.drawn->aL k=V.w.tape k)(q:¬V.stop):∃d v w' bg,step Q (V.gm aL).m=.next d/\R v w'/\Steps Q d (lone bg [wall] w')/\bg.leaving Q w' (.returned v)/\bg.fn=f0:=by
 obtain⟨v,w',bg,p,⟨n,c⟩,f,l⟩:=h aL r;cases n with
 |zero=>
  simp only[runN]at c;injection c with c
  obtain⟨g,i,u⟩:=oc c;refine absurd ⟨?_,?_,?_⟩ q
  .have j:V.cs++[wall] = [wall]:=i
   have:=congrArg List.length j;simpa using this
  .have:V.fr=bg:=g
   rw[this];exact f.1
  .have:V.fr=bg:=g
   rw[this];exact f.2.1
 |succ n=>
  simp only[runN]at c;rcases e:step Q (V.gm aL).m with d|⟨o,aG⟩
  .rw[e]at c
   exact⟨d,v,w',bg,rfl,p,⟨n,c⟩,f,l⟩
  .rw[e]at c;cases c
def en.in{V:cY}(h:en Q f0 R V){aL:Tape}(p:∀k,k<V.w.drawn->aL k=V.w.tape k)(l:¬V.stop){c c₁:Frame}{cs:List Frame}{aG:World}{es:Array Event}(e:stepG Q true V.g (c9 V.w aL)=.go ⟨c₁,cs,.running,none,none⟩ aG es)(i:[wall]=c::cs)(j:(∃v,c₁=c.finish v)\/(∃q,c₁=c.raise q)\/c₁=c\/∃m,c₁={c with mode:=m}/\c.mode≠.panicking []):False:=by
 obtain⟨rfl,rfl⟩:c=wall/\cs = []:=by cases i;exact⟨rfl,rfl⟩
 obtain⟨z,v,w',bg,g,w,⟨n,d⟩,u,r⟩:=h.head p l;have f:step Q (V.gm aL).m=.next (lone c₁ [] aG):=sS (V:=V.gm aL) e rfl;rw[g]at f;cases f;cases n with
 |zero=>
  simp only[runN]at d;injection d with d
  obtain⟨_,f,_⟩:=oc d;cases f
 |succ n=>
  obtain⟨o,B,e⟩:=DU (Q:=Q) j aG;simp only[runN,e]at d;cases d
def en.live{V:cY}(h:en Q f0 R V){aL:Tape}(g:∀k,k<V.w.drawn->aL k=V.w.tape k)(f:¬V.stop){o:Outcome}{aG:World}{es:Array Event}(e:stepG Q true V.g (c9 V.w aL)=.ended o aG es):False:=by
 obtain⟨i,v,w',bg,d,_⟩:=h.head g f;have c:step Q (V.gm aL).m=.ended o aG:=step_lone_ended (by show(stepG Q true V.g (c9 V.w aL)).bare=_;rw[e];rfl)
 rw[d]at c;cases c
def en.next{V b6:cY}(h:en Q f0 R V)(k:j7 Q b6 V):en Q f0 R b6:=by
 intro aL f;obtain⟨es,q⟩:=k.step;have u:∀k,k<V.w.drawn->aL k=V.w.tape k:=λj d=>(f j (Px d k.mono)).trans (k.qU j d)
 obtain⟨w,v,w',bg,g,p,r,o,i⟩:=h.head u k.stay;have c:step Q (V.gm aL).m=.next (b6.gm aL).m:=sS (V:=V.gm aL) (q aL λj _ l=>f j l) rfl;rw[g]at c;cases c;exact⟨v,w',bg,p,r,o,i⟩
def Dh{V:cY}(q:V.stop)(h:V.fr.roundOf=none)(U:V.fr.kind=.normal\/V.fr.kind=.deferred){fn:Func}(g:Q.funcs[V.fr.fn]?=some fn)(n:Nat)(bg:Frame)(cs':List Frame)(w':World):runN Q (n+1) V.m≠.next (lone bg (cs'++[wall]) w'):=by
 intro d;obtain⟨fr,cs,w⟩:=V;obtain⟨s1,s2,i⟩:=q;dsimp only at s1 s2 i h U g d;subst s1;obtain⟨c,tmps,todo,defers,mode,kind,ro⟩:=fr;dsimp only at s2 i h U g;subst s2;subst i;subst h;have e:stepG Q true (cY.g ⟨⟨c,tmps,todo,[],.returning,kind,none⟩,[],w⟩) w=GStep.after (seen Q c ((results fn tmps).runT Q w #[]).2) (match ((results fn tmps).runT Q w #[]).1 with
  |.ok v w=>doReturn Q true ⟨c,tmps,todo,[],.returning,kind,none⟩ [wall] none v w
  |.halt (.stuck s) w=>.ended (.stuck s (Frame.pos Q ⟨c,tmps,todo,[],.returning,kind,none⟩)) w
  |.halt _ w=>.ended (.stuck "return: the result variables cannot be read" (Frame.pos Q ⟨c,tmps,todo,[],.returning,kind,none⟩)) w):=by
  simp only[stepG,unwind,g];rfl
 have bJ:∀{o:Outcome} {aG:World} {es:Array Event},stepG Q true (cY.g ⟨⟨c,tmps,todo,[],.returning,kind,none⟩,[],w⟩) w=.ended o aG es->False:=by
  intro o aG es e;have f:step Q (cY.m ⟨⟨c,tmps,todo,[],.returning,kind,none⟩,[],w⟩)=.ended o aG:=step_lone_ended (by show(stepG Q true (cY.g ⟨⟨c,tmps,todo,[],.returning,kind,none⟩,[],w⟩) w).bare=_;rw[e];rfl)
  simp only[runN,f]at d;cases d
 have l:∀{c₁:Frame} {aG:World} {es:Array Event},stepG Q true (cY.g ⟨⟨c,tmps,todo,[],.returning,kind,none⟩,[],w⟩) w=.go ⟨c₁,[],.running,none,none⟩ aG es->
  ((∃v,c₁=wall.finish v)\/(∃r,c₁=wall.raise r)\/c₁=wall\/∃m,c₁={wall with mode:=m}/\wall.mode≠.panicking [])->False:=by
  intro c₁ aG es e p;have f:step Q (cY.m ⟨⟨c,tmps,todo,[],.returning,kind,none⟩,[],w⟩)=.next (lone c₁ [] aG):=sS e rfl;simp only[runN,f]at d;cases n with
  |zero=>
   simp only[runN]at d;injection d with d
   obtain⟨_,f,_⟩:=oc d;have:=congrArg List.length f;simp at this
  |succ n=>
   obtain⟨o,u,e⟩:=DU (Q:=Q) p aG;simp only[runN,e]at d;cases d
 rcases j:(results fn tmps).runT Q w #[]with⟨⟨v,aG⟩|⟨x,aG⟩,es⟩
 .rw[j]at e
  rcases U with U|U
  .subst U
   exact l (c₁:=wall.finish v) (by rw[e];rfl) (.inl ⟨v,rfl⟩)
  .subst U
   exact l (c₁:=wall) (by rw[e];rfl) (.inr (.inr (.inl rfl)))
 .rw[j]at e
  cases x<;>exact bJ e
def en.stopped{V:cY}(h:en Q f0 R V)(q:V.stop)(p:V.fr.roundOf=none)(j:V.fr.kind=.normal\/V.fr.kind=.deferred){fn:Func}(i:Q.funcs[V.fr.fn]?=some fn):
 ∃v,R v V.w/\V.fr.leaving Q V.w (.returned v)/\V.fr.fn=f0:=by
 obtain⟨v,w',bg,o,⟨n,c⟩,l,g⟩:=h V.w.tape (λ_ _=>rfl);rw[NS]at c;cases n with
 |zero=>
  simp only[runN]at c;injection c with c
  obtain⟨d,r,f⟩:=oc c;refine⟨v,?_,?_,?_⟩
  .rw[f];exact o
  .rw[d,f];exact l
  .rw[d];exact g
 |succ n=>exact absurd c (Dh q p j i n bg [] w')
def en.acc{V:cY}(h:en Q f0 R V):Acc (j7 Q) V:=by
 refine Classical.byContradiction λG=>?_
 have hQ:∀V:cY,¬Acc (j7 Q) V->∃b6,j7 Q b6 V/\¬Acc (j7 Q) b6:=by
  intro V D;refine Classical.byContradiction λg=>D (Acc.intro _ λb6 E=>?_)
  exact Classical.byContradiction λq=>g ⟨b6,E,q⟩
 let S:={V:cY // ¬Acc (j7 Q) V}
 let w:S->S:=λs=>⟨Classical.choose (hQ s.1 s.2),(Classical.choose_spec (hQ s.1 s.2)).2⟩
 have H:∀s:S,j7 Q (w s).1 s.1:=λs=>(Classical.choose_spec (hQ s.1 s.2)).1
 let c:Nat->S:=λn=>Nat.rec ⟨V,G⟩ (λ_ s=>w s) n
 have J:(c 0).1=V:=rfl;have r:∀n,j7 Q (c (n+1)).1 (c n).1:=λn=>H (c n)
 have keep:∀n d k,k<(c n).1.w.drawn->(c (n+d)).1.w.tape k=(c n).1.w.tape k/\(c n).1.w.drawn<=(c (n+d)).1.w.drawn:=by
  intro n d k f;induction d with
  |zero=>exact⟨rfl,Pk⟩
  |succ d i=>
   have q:=r (n+d);exact⟨(q.qU k (Px f i.2)).trans i.1,Po i.2 q.mono⟩
 have same:∀n m k,k<(c n).1.w.drawn->k<(c m).1.w.drawn->(c n).1.w.tape k=(c m).1.w.tape k:=by
  intro n m k g hm;rcases Nat.le_total n m with ah|ah
  .obtain⟨d,rfl⟩:=Nat.exists_eq_add_of_le ah
   exact(keep n d k g).1.symm
  .obtain⟨d,rfl⟩:=Nat.exists_eq_add_of_le ah
   exact(keep m d k hm).1
 let aL:Tape:=λk=>(c (Classical.epsilon λn=>k<(c n).1.w.drawn)).1.w.tape k
 have u:∀n k,k<(c n).1.w.drawn->aL k=(c n).1.w.tape k:=by
  intro n k f;have z:∃n,k<(c n).1.w.drawn:=⟨n,f⟩
  exact same _ _ k (Classical.epsilon_spec (p:=λn=>k<(c n).1.w.drawn) z) f
 have run:∀n,runN Q n ((c 0).1.gm aL).m=.next ((c n).1.gm aL).m:=by
  intro n;induction n with
  |zero=>rfl
  |succ n i=>
   obtain⟨es,I⟩:=(r n).step;have l:step Q ((c n).1.gm aL).m=.next ((c (n+1)).1.gm aL).m:=sS (V:=(c n).1.gm aL) (I aL λj _ F=>u (n+1) j F) rfl;rw[runN_add,i];simp only[runN,l]
 obtain⟨v,w',bg,_,⟨n,g⟩,ah,_⟩:=h aL λk f=>u 0 k f
 have o:=run n;rw[J,g]at o;injection o with o
 obtain⟨l,B,K⟩:=oc o;refine(r n).stay ⟨?_,?_,?_⟩
 .have C:[wall]=(c n).1.cs++[wall]:=B
  have:=congrArg List.length C;simpa using this
 .have:bg=(c n).1.fr:=l
  rw[<-this];exact ah.1
 .have:bg=(c n).1.fr:=l
  rw[<-this];exact ah.2.1
def en.xO{f:FuncId}{args:Array Value}{w:World}(h:∀aL:Tape,(∀k,k<w.drawn->aL k=w.tape k)->Calls Q f args (c9 w aL) λe w'=>∃v,e=.returned v/\R v w'):en Q f R ⟨Frame.enter Q f args .normal,[],w⟩:=by intro aL j;obtain⟨e,w',bg,⟨v,rfl,g⟩,i,c,d⟩:=h aL j [wall];exact⟨v,w',bg,g,i,d,c⟩
end
section
variable{Q P:Program}{R:Value->World->Prop}{f0:FuncId}{K:fV Q P}{ρ ai:Ren}
def h5(Q:Program):fV Q Q:=⟨λ_ _ _=>False,λ_=>False⟩
structure Self(Q:Program)(V:cY):Prop where
 ex:∃ai:Ren,Fit Q ai/\ai.room=true/\cG (h5 Q) ai V.fr V.fr/\cA (cG (h5 Q) ai) V.cs V.cs/\dp ai V.w V.w
def dp.KW{w w':World}{aL:Tape}(h:dp ρ w w')(c:w=w'):dp ρ (c9 w aL) (c9 w' aL):=by subst c;exact⟨h.obj,λ_ _=>rfl,h.lim,h.iI⟩
def en.gm{V:cY}(h:en Q f0 R V){aL:Tape}(f:∀k,k<V.w.drawn->aL k=V.w.tape k):en Q f0 R (V.gm aL):=λai d=>h ai λk c=>(d k c).trans (f k c)
def BY{fr bg:Frame}:Plain (h5 Q) fr bg:=λ_ _ _ _ _ _ _ _ h=>h
def pE{V:cY}{c:String}(h:V.fr.todo = [.code (.refuse c)])(hm:V.fr.mode=.run)(w:World):∃o w' es,stepG Q true V.g w=.ended o w' es:=by obtain⟨⟨fn,tmps,todo,defers,mode,kind,ro⟩,cs,aI⟩:=V;dsimp only at h hm;subst h;subst hm;exact⟨_,_,_,rfl⟩
def oi{V:cY}(h:V.fr.mode=.run):¬V.stop:=λk=>by rw[k.2.1]at h;cases h
def Self.known{V:cY}(h:Self Q V)(g:V.stop):V.fr.roundOf=none/\(V.fr.kind=.normal\/V.fr.kind=.deferred)/\∃fn,Q.funcs[V.fr.fn]?=some fn:=by obtain⟨ai,_,_,c,_⟩:=h;have d:=c.ret g.2.1;obtain⟨f,g7,q1,_⟩:=c.known d;exact⟨d,c.kindOk,f,q1⟩
def bK.refl(Q:Program):bK Q Q:=⟨rfl⟩
def vt{fr bg:Frame}(h:nL (h5 Q) ai fr bg):cG (h5 Q) ai fr bg\/∃c,fr.todo = [.code (.refuse c)]/\fr.mode=.run:=by
 cases h with
 |plain h=>exact .inl h
 |refused c h hm=>exact .inr ⟨c,h,hm⟩
 |qq h=>exact h.elim
def Cv(eo:ey (eE (h5 Q)) Q Q){V:cY}(l:en Q f0 R V)(M:Self Q V)(q:¬V.stop){aL:Tape}(w:∀k,k<V.w.drawn->aL k=V.w.tape k):
 ∃b6 es,j7 Q b6 V/\Self Q b6/\en Q f0 R b6/\b6.w.tape=aL/\stepG Q true V.g (c9 V.w aL)=.go b6.g b6.w es:=by
 obtain⟨ai,F,p,E,S,i⟩:=M;have i:=i.KW (aL:=aL) rfl;have B:=Dg (du:=[wall]) (base:=[wall]) (bK.refl Q) F p eo i E S (by simp) (λ_=>BY) true true .running .running none none;have loc:=M9 (C:=V.cs++[wall]) (bK.refl Q) F p eo i E (by simp) (λ_=>BY) true .running none;generalize e:stepG Q true ⟨V.fr,V.cs++[wall],.running,none,none⟩ (c9 V.w aL)=r at B;cases r with
 |go g aG es=>
  obtain⟨z,Z,aa⟩:=loc g aG es e;rcases B with⟨ad,cs,bg,cs',bW,e3,d,f,he,u,⟨X,ah⟩,U,ag⟩|⟨c,c₁,P,f,T⟩
  .injection d with d j L
   subst j;subst L;have J:cs=cs':=by have:=congrArg Goroutine.callers d;rw[f]at this;exact List.append_cancel_right this
   have K:g.frame=bg:=congrArg Goroutine.frame d;subst J;subst K;have G:g=cY.g ⟨g.frame,cs,aG⟩:=f;have H:j7 Q ⟨g.frame,cs,aG⟩ V:=⟨q,λk W=>by
    show aG.tape k=_;rw[z];exact w k W,Z,es,λae Y=>by
    rw[<-G];exact aa ae λk d j=>by have:=Y k d j;dsimp only at this;rw[this,z]⟩
   have D:=l.next H;refine⟨⟨g.frame,cs,aG⟩,es,H,?_,D,z,?_⟩
   .rcases vt X with h|⟨aj,h,hm⟩
    .exact⟨ad,F.mono he.le,he.le.room.trans p,h,U,u.obj,λ_ _=>rfl,u.lim,u.iI⟩
    .obtain⟨o,w2,af,I⟩:=pE (Q:=Q) (V:=⟨g.frame,cs,aG⟩) h hm aG
     exact(D.live (aL:=aG.tape) (λ_ _=>rfl) (oi hm) I).elim
   .rw[<-G]
  .exact(l.in w q (c:=c) (c₁:=c₁) (cs:=g.callers) (aG:=aG) (es:=es) (by rw[<-f];exact e) P T).elim
 |ended o aG es=>exact(l.live w q e).elim
 |_=>exact B.elim
inductive ds(Q:Program):cY->cY->Prop
 |one {b6 V:cY} (h:j7 Q b6 V):ds Q b6 V
 |more {tp b6 V:cY} (h:j7 Q b6 V) (k:ds Q tp b6):ds Q tp V
def ds.acc{V:cY}(h:Acc (j7 Q) V):Acc (ds Q) V:=by
 induction h with
 |intro V _ c=>
  refine Acc.intro _ λb6 d=>?_
  cases d with
  |one h=>exact c _ h
  |more h k=>exact(c _ h).inv k
def Cw(eo:ey (eE (h5 Q)) Q Q){aL:Tape}{fr:Frame}{cs:List Frame}{aG:World}:∀(n:Nat) {V:cY},en Q f0 R V->Self Q V->V.w.tape=aL->runN Q n V.m=.next (lone fr (cs++[wall]) aG)->
 en Q f0 R ⟨fr,cs,aG⟩/\Self Q ⟨fr,cs,aG⟩/\aG.tape=aL/\(V=⟨fr,cs,aG⟩\/ds Q ⟨fr,cs,aG⟩ V):=by
 intro n;induction n with
 |zero=>
  intro V h g d c;simp only[runN]at c;injection c with c
  obtain⟨j,f,l⟩:=oc c;have f:=List.append_cancel_right f;obtain⟨bg,cs',w'⟩:=V;dsimp only at j f l d;subst j;subst f;subst l;exact⟨h,g,d,.inl rfl⟩
 |succ n w=>
  intro V h g d c;by_cases i:V.stop
  .obtain⟨z,B,fn,C⟩:=g.known i
   exact absurd c (Dh i z B C n fr cs aG)
  obtain⟨b6,es,o,r,q,u,he⟩:=Cv eo h g i (aL:=aL) (λk F=>by rw[d]);have p:step Q V.m=.next b6.m:=sS (by
   have:c9 V.w aL=V.w:=by rw[<-d];rfl
   rw[this]at he;exact he) rfl
  simp only[runN,p]at c;obtain⟨r1,D,E,r4⟩:=w q r u c;refine⟨r1,D,E,.inr ?_⟩;rcases r4 with rfl|r4
  .exact .one o
  .exact .more o r4
def gF(w w':World):Tape:=λk=>if k<w.drawn then w.tape k else w'.tape (w'.drawn+(k-w.drawn))
def yq{w w':World}(k:Nat)(h:k<w.drawn):gF w w' k=w.tape k:=if_pos h
def gb.vF{w w':World}(h:gb ρ w w'):dp ρ (c9 w (gF w w')) w':=⟨h.obj,λn q=>by show gF w w' (w.drawn+n) q=_;unfold gF;rw[if_neg (by omega)];congr 2;omega,h.lim,h.iI⟩
structure lD(K:fV Q P)(ρ:Ren)(V:cY)(bg:Frame)(cs':List Frame)(w':World):Prop where
 fit:Fit Q ρ
 room:ρ.room=true
 fr:cG K ρ V.fr bg
 cs:cA (cG K ρ) V.cs cs'
 heap:gb ρ V.w w'
structure vK(K:fV Q P)(ρ:Ren)(V:cY)(bg:Frame)(cs':List Frame)(w':World):Prop where
 fit:Fit Q ρ
 room:ρ.room=true
 fr:∃f a b kind,K.fn f/\(kind=.normal\/kind=.deferred)/\bE ρ a b/\V.fr=Frame.enter Q f a kind/\bg=Frame.enter P f b kind/\∀n,dX Q f=some n->a.size=n
 some:V.cs≠[]
 cs:cA (cG K ρ) V.cs cs'
 heap:gb ρ V.w w'
def fe.DK{w:World}{aL:Tape}{e:Event}(h:fe ρ (c9 w aL) e):fe ρ w e:=by
 cases h with
 |cell h a b g i=>exact .cell h a b g i
 |obj h a g=>exact .obj h a g
 |mark h=>exact .mark h
def BU(S:bK Q P)(eo:ey (eE (h5 Q)) Q Q)(H:ey (eE K) Q P){V:cY}{bg:Frame}{cs' base:List Frame}{w':World}(z:en Q f0 R V)(W:Self Q V)(q:lD K ρ V bg cs' w')(D:¬V.stop)(am:V.fr.mode=.run->Plain K V.fr bg)(G:Bool)(L:GoStatus)(I:Option (Array CommCase×CommShape)):
 ∃b6 ai d g bW e3,stepG P G ⟨bg,cs'++base,L,none,I⟩ w'=.go ⟨d,g++base,.running,none,none⟩ bW e3/\
  j7 Q b6 V/\en Q f0 R b6/\Self Q b6/\Eff ρ ai (c9 V.w (gF V.w w')) b6.w w' bW/\(∀e∈e3,fe ai V.w e)/\(lD K ai b6 d g bW\/vK K ai b6 d g bW):=by
 obtain⟨F,C,ah,ad,aj⟩:=q;obtain⟨b6,es,ap,X,B,ar,he⟩:=Cv eo z W D (aL:=gF V.w w') yq;have J:=Dg (du:=[wall]) (base:=base) S F C H aj.vF ah ad (by simp) am true G .running L none I;have af:stepG Q true ⟨V.fr,V.cs++[wall],.running,none,none⟩ (c9 V.w (gF V.w w'))=.go b6.g b6.w es:=he;rw[af]at J;rcases J with⟨ai,cs,d,g,bW,e3,U,p,j,u,⟨ao,al⟩,l,ag⟩|⟨c,c₁,aa,p,ae⟩
 .have T:b6.cs=cs:=by have:=congrArg Goroutine.callers p;exact List.append_cancel_right this
  subst T;refine⟨b6,ai,d,g,bW,e3,U,ap,B,X,j,λe h=>(ag e h).DK,?_⟩;have i:=F.mono j.le;have r:=j.le.room.trans C;have E:nL K ai b6.fr d:=ao;have hne':cG K ai b6.fr d\/b6.cs≠[]:=al;rcases hne' with q|hne'
  .exact .inl ⟨i,r,q,l,u⟩
  generalize w:b6.fr=x at E;cases E with
  |plain h=>exact .inl ⟨i,r,by rw[w];exact h,l,u⟩
  |refused au h hm=>
   rw[<-w]at h hm;obtain⟨o,w2,aq,M⟩:=pE (Q:=Q) (V:=b6) h hm b6.w;exact(B.live (aL:=b6.w.tape) (λ_ _=>rfl) (oi hm) M).elim
  |@qq f a b kind h ak Y Z=>exact .inr ⟨i,r,⟨f,a,b,kind,h,ak,Y,w,rfl,λn e=>Z n (by rw[i.fits.dy];exact e)⟩,hne',l,u⟩
 .exact(z.in yq D (c:=c) (c₁:=c₁) (cs:=b6.g.callers) (aG:=b6.w) (es:=es) (by rw[<-p];exact he) aa ae).elim
def xZ(S:bK Q P){V:cY}{bg:Frame}{cs' base:List Frame}{w':World}(L:en Q f0 R V)(T:Self Q V)(Z:lD K ρ V bg cs' w')(q:V.stop)(G:Bool)(am:GoStatus)(aj:Option (Array CommCase×CommShape)):
 ∃v u ai bW e3,R v (c9 V.w (gF V.w w'))/\aM ai v u/\cs' = []/\bg.kind=.normal/\bg.fn=f0/\
  stepG P G ⟨bg,cs'++base,am,none,aj⟩ w'=GStep.after e3 (doReturn P G bg base none u bW)/\
  Eff ρ ai (c9 V.w (gF V.w w')) (c9 V.w (gF V.w w')) w' bW/\dp ai (c9 V.w (gF V.w w')) bW/\(∀e∈e3,fe ai V.w e):=by
 obtain⟨ad,ae,fn,af⟩:=T.known q;obtain⟨v,M,Y,U⟩:=(L.gm (aL:=gF V.w w') yq).stopped q ad ae af;obtain⟨F,ar,d,z,W⟩:=Z;obtain⟨s1,s2,al⟩:=q;have aa:=d.ret s2;obtain⟨f,g7,q1,H,ak⟩:=d.known aa;obtain⟨av,aw,ag,J,ah,r⟩:=Y;have E:Q.funcs[V.fr.fn]?=some J:=ah;rw[q1]at E;cases E;rw[s1]at z;cases z;have j:=d.fn;have o:=d.defers;have p:=d.mode;rw[al]at o;rw[s2]at p;have X:=d.kind;rcases mA (yC S ak d.tmps) W.vF with⟨a,I,aG,bW,ai,bd,w,g,l,he,D,C,B⟩|⟨v,u,aG,bW,ai,bd,w,g,l,he,D,C,B⟩|⟨x,aG,bd,g,aq⟩
 .have c:(results f V.fr.tmps).run Q (c9 V.w (gF V.w w'))=.ok a aG:=by rw[<-Sem.runT_fst Q _ _ #[],g]
  have i:(results f V.fr.tmps).run Q (c9 V.w (gF V.w w'))=.ok v (c9 V.w (gF V.w w')):=r;rw[i]at c;cases c;refine⟨v,I,ai,bW,seen P bg.fn w,M,C,rfl,by rw[<-X];exact ag,by rw[<-j];exact U,?_,he,D,λe h=>(B e (lX _ _ _ e h)).DK⟩;obtain⟨ap,az,aA,ao,ax,au,ay⟩:=bg;dsimp only at j o p l;cases o;cases p;rw[j]at H;simp only[stepG,unwind,H,l,List.nil_append]
 .have c:(results f V.fr.tmps).run Q (c9 V.w (gF V.w w'))=.halt (.panic v) aG:=by rw[<-Sem.runT_fst Q _ _ #[],g]
  have i:(results f V.fr.tmps).run Q (c9 V.w (gF V.w w'))=.ok _ (c9 V.w (gF V.w w')):=r;rw[i]at c;cases c
 .have c:(results f V.fr.tmps).run Q (c9 V.w (gF V.w w'))=.halt x aG:=by rw[<-Sem.runT_fst Q _ _ #[],g]
  have i:(results f V.fr.tmps).run Q (c9 V.w (gF V.w w'))=.ok _ (c9 V.w (gF V.w w')):=r;rw[i]at c;cases c
end
end Go.aN
