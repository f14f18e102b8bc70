/- A part; no conditions. -/
import Derived.Test.YtkifbmfagkjikaaGreatDoorP10
set_option maxHeartbeats 8000000
set_option maxRecDepth 100000
set_option linter.all false
namespace Go.aO
attribute [-simp] Go.Sem.runT_eq
open Go.Proofs Go.Conc Go.ConcN
variable{n:Int}{l:List Event}{b bq bw c9 i o:Nat}{Q:Program}{q to:h5}
section
variable{X:et}{Z:Stat}{G aB:bX}{u aC w:World}{t bh:Trace}{B gX:Nat}
inductive iv(Z:Stat)(B:Nat):Event->Prop
 |mark {m:Mark} (I:(MemAct.mark m).touch?=none) (J:(MemAct.mark m).low B):iv Z B ⟨.mark m,false,true⟩
 |bM {o:Nat} {wr:Bool} (I:4<=o) (J:o<13) (ax:o=4->wr=false):iv Z B ⟨.cell ⟨Z.z.T,o,none⟩,wr,true⟩
 |wg {o:Nat} {wr:Bool}:iv Z B ⟨.cell ⟨Z.W,o,none⟩,wr,true⟩
def iv.zb{e:Event}(A:Apart Z G)(l:Z.z.T<B)(hW:Z.W<B)(h:iv Z B e)(t:Trace):vq Z G t i B e/\(∀b,(MemAct.ofEvent e).touch?=some b->¬(pl Z G).ik b.loc)/\(∀b,(MemAct.ofEvent e).touch?=some b->b.kind=.atomic):=by
 cases h with
 |mark d g=>exact⟨⟨g,λb c=>(by rw[show MemAct.ofEvent ⟨.mark _,false,true⟩=MemAct.mark _ from rfl,d]at c;cases c),λe=>((by cases e))⟩,λb c=>(by rw[show MemAct.ofEvent ⟨.mark _,false,true⟩=MemAct.mark _ from rfl,d]at c;cases c),λb c=>(by rw[show MemAct.ofEvent ⟨.mark _,false,true⟩=MemAct.mark _ from rfl,d]at c;cases c)⟩
 |@bM o wr d g j=>
  have f:(pl Z G).jy (.cell ⟨Z.z.T,o,none⟩):=.inl ⟨o,rfl,d,g⟩;refine⟨⟨l,λb c _=>?_,λe=>?_⟩,λb c=>?_,λb c=>?_⟩
  .cases c;exact .inl (.inl ⟨f,aF⟩)
  .injection e with e;injection e with _ e;exact j e
  .cases c;exact λk=>A.lU.oi _ k f
  .cases c;rfl
 |@wg o wr=>
  have f:(pl Z G).jy (.cell ⟨Z.W,o,none⟩):=.inr (.inl ⟨_,rfl,rfl⟩);refine⟨⟨hW,λb c _=>?_,λe=>?_⟩,λb c=>?_,λb c=>?_⟩
  .cases c;exact .inl (.inl ⟨f,aF⟩)
  .injection e with e;injection e with e _;exact absurd e.symm A.bM
  .cases c;exact λk=>A.lU.oi _ k f
  .cases c;rfl
def Base.fv(h:Base Z G u t):Z.z.T<u.heap.size/\Z.W<u.heap.size/\Z.ch<u.heap.size:=⟨bu h.ww.T,bu h.ww.W,bu h.ww.ch⟩
def Apart.same(h:Apart Z G)(d:aB.b1=G.b1)(c:aB.ro=G.ro):Apart Z aB:=⟨h.bM,h.rC,h.wc,h.pos,by rw[d,c];exact h.xF,by rw[c];exact h.Fi⟩
def e0.same(m:aB.b1=G.b1)(d:aB.ro=G.ro)(n:aC.heap.size=u.heap.size)(l:∀b,b≠Z.z.T->b≠Z.W->b≠Z.ch->aC.heap[b]?=u.heap[b]?)(o:ea Z aB aC):e0 Z G aB i u aC:=
 ⟨Nat.le_of_eq n.symm,λb _=>by rw[m],λh b c=>by rw[d];exact c,λh b _ c=>.inl (by rw[d]at c;exact c),λb _ f g j _ _=>l b f g j,⟨_,_,_,_,o.T⟩⟩
def Base.rest(h:Base Z G u t)(d:aB.b1=G.b1)(c:aB.ro=G.ro)(l:aB.bP=G.bP)(f:aC.heap.size=u.heap.size)(n:ea Z aB aC)(g:g5 aB)(m:e5 Z aB bh aC.heap.size):Base Z aB aC bh:=
 ⟨n,g,h.ap.same d c,m,by rw[c,f];exact h.oc,by rw[f];exact h.s0,by rw[d,c];exact h.hold,by rw[f];exact h.old,h.o4,(h.iA.grow λi b j=>by rw[c];exact j),(by rw[d,c];exact h.rn),by rw[l];exact h.cfg⟩
def Base.sync(h:Base Z G u t)(cl:eF)(B:cl.ig G)(f:aB.b1=G.b1)(g:aB.ro=G.ro)(w:aB.bP=G.bP)(o:ea Z aB aC)(q:g5 aB)(d:aC.heap.size=u.heap.size)(C:∀b,b≠Z.z.T->b≠Z.W->b≠Z.ch->aC.heap[b]?=u.heap[b]?)(cI:∀e∈l,iv Z u.heap.size e)(ee:eX Z aB=eX Z G)(M:∀a:eF,a.ig aB↔a.ig G)(y:cl.deaf aB=deafBehind (cl.deaf G) l.toArray)(z:∀a:eF,a≠cl->a.deaf aB=a.deaf G)(fn:FuncId)(pos:String)(F:∀k,(aB.s k).eC=true->(G.s k).eC=true\/iH (pl Z aB) (t++MemOp.ofEvents (cl.num Z) fn pos l.toArray) (Z.wk k))(I:∀k,(aB.s k).da=true->(G.s k).da=true/\(cl=.dN k->(n0 l=true/\(0<cl.deaf G\/∀e∈l,(MemAct.ofEvent e).touch?=none))/\∀e∈l,∀b,(MemAct.ofEvent e).touch?=some b->(∃bO,b.loc=.cell bO/\bO.block=Z.W)))(J:aB.k.shut=true->G.k.shut=true/\(cl=.eu->∀e∈l,(MemAct.ofEvent e).touch?=none))(H:aB.k.said=false->G.k.said=false):
 Base Z aB aC (t++MemOp.ofEvents (cl.num Z) fn pos l.toArray)/\∀i,e0 Z G aB i u aC:=by
 have m:=h.ap.same f g;have r:Grow G aB u.heap.size:=⟨λb _=>by rw[f],g⟩
 obtain⟨P,Q,R⟩:=h.fv;have E:=λe he=>(cI e he).zb (i:=cl.num Z) m P Q t
 have L:fp (pl Z aB) t (eX Z aB) u.heap.size:=by rw[ee];exact h.dy.dy.oa r
 refine⟨h.rest f g w d o q ?_,λi=>e0.same f g d C o⟩;rw[d];refine e5.app m h.dy r bg cl B L (λe he=>(E e he).1) M y z F (λe he b c K=>absurd K ((E e he).2.1 b c)) (λk D=>?_) J (λe he b c d=>?_) H
 .obtain⟨p,j⟩:=I k D
  exact⟨p,λn=>⟨(j n).1,λe he b c=>⟨(j n).2 e he b c,(E e he).2.2 b c⟩⟩⟩
 .rw[(E e he).2.2 b c]at d;cases d
def QQ(z:eG)(mu ms:Int)(aY bc:Bool):(eN z mu ms aY bc)[4]?=some (.int .u32 (mj aY)):=by cases bc<;>simp[eN,kP,mj]
def QR(z:eG)(mu ms:Int)(aY bc:Bool):(eN z mu ms aY bc)[5]?=some (.int .i32 mu):=by cases bc<;>simp[eN,kP,mj]
def QS(z:eG)(mu ms:Int)(aY bc:Bool):(eN z mu ms aY bc)[6]?=some (.int .u32 ms):=by cases bc<;>simp[eN,kP,mj]
def xZ(z:eG)(mu ms:Int)(aY bc:Bool):(eN z mu ms aY bc).size=28:=by cases bc<;>simp[eN,kP,mj]
def QT(z:eG)(mu ms:Int)(aY bc:Bool):(eN z mu ms aY bc).setIfInBounds 4 (.int .u32 1)=eN z mu ms true bc:=by cases bc<;>simp[eN,kP,mj]
def x0(z:eG)(mu c ms:Int)(aY bc:Bool):(eN z mu ms aY bc).setIfInBounds 5 (.int .i32 c)=eN z c ms aY bc:=by cases bc<;>simp[eN,kP,mj]
def Gq(z:eG)(mu ms c:Int)(aY bc:Bool):(eN z mu ms aY bc).setIfInBounds 6 (.int .u32 c)=eN z mu c aY bc:=by cases bc<;>simp[eN,kP,mj]
def ea.r8(h:ea Z G u){v:Value}(c:(eN Z.z G.mu G.ms G.aY G.bc)[o]?=some v):u.cell? ⟨Z.z.T,o,none⟩=some v:=by rw[aU h.T];exact c
def ea.nV(h:ea Z G u)(o:Nat):u.frozen? ⟨Z.z.T,o,none⟩=false:=b3 h.T
def ea.rr(h:ea Z G u):u.shape? Z.z.T=some (94,28):=by rw[AI h.T,xZ]
def ea.ml(h:ea Z G u)(c:G.mu=n):u.cell? ⟨Z.z.T,5,none⟩=some (.int .i32 n):=by rw[h.r8 (QR ..),c]
def ea.tS(h:ea Z G u)(c:G.ms=n):u.cell? ⟨Z.z.T,6,none⟩=some (.int .u32 n):=by rw[h.r8 (QS ..),c]
def ea.Cd(h:ea Z G u){n:Bool}(c:G.aY=n):u.cell? ⟨Z.z.T,4,none⟩=some (.int .u32 (mj n)):=by rw[h.r8 (QQ ..),c]
def ea.gH(h:ea Z G u)(c:G.v=n):u.cell? ⟨Z.W,0,none⟩=some (.int .u64 n):=by rw[aU h.W,c];rfl
def ea.fK(h:ea Z G u)(c:G.m=n):u.cell? ⟨Z.W,1,none⟩=some (.int .u32 n):=by rw[aU h.W,c];rfl
def ea.pS(h:ea Z G u)(o:Nat):u.frozen? ⟨Z.W,o,none⟩=false:=b3 h.W
def ea.ny(h:ea Z G u):u.shape? Z.W=some (201,2):=by rw[AI h.W];rfl
structure Word(Z:Stat)(u aC:World):Prop where
 size:aC.heap.size=u.heap.size
 keep:∀b,b≠Z.z.T->b≠Z.W->aC.heap[b]?=u.heap[b]?
 calm:Calm u aC
def Word.refl(Z:Stat)(u:World):Word Z u u:=⟨rfl,λ_ _ _=>rfl,Calm.refl u⟩
def Word.set(o:Nat)(v:Value)(d:b=Z.z.T\/b=Z.W):Word Z u (u.setCell ⟨b,o,none⟩ v):=
 ⟨aF,λc f g=>e1 (a:=⟨b,o,none⟩) (by rcases d with rfl|rfl<;>assumption),AF _ _ _⟩
def Word.trans{f g:World}(h:Word Z u f)(k:Word Z f g):Word Z u g:=⟨k.size.trans h.size,λb c d=>(k.keep b c d).trans (h.keep b c d),h.calm.trans k.calm⟩
def ea.of(h:Base Z G u t)(wd:Word Z u aC)(c:aC.heap[Z.z.T]?=some (.cells (eN Z.z aB.mu aB.ms aB.aY aB.bc) 94 (0,0)))(hW:aC.heap[Z.W]?=some (.cells #[.int .u64 aB.v,.int .u32 aB.m] 201 (0,0)))(f:aB.k.shut=G.k.shut)(g:dF aB.l=dF G.l):ea Z aB aC:=
 ⟨c,hW,by rw[f,g,wd.keep _ (Ne.symm h.ap.rC) (Ne.symm h.ap.wc)];exact h.ww.ch,λb d c=>by rw[wd.keep b c (by have:=h.o4.1;omega)];exact h.ww.old b d c,h.ww.calm.trans wd.calm⟩
def Word.T(h:Base Z G u t){v:Value}(c:(eN Z.z G.mu G.ms G.aY G.bc).setIfInBounds o v=eN Z.z aB.mu aB.ms aB.aY aB.bc):(u.setCell ⟨Z.z.T,o,none⟩ v).heap[Z.z.T]?=some (.cells (eN Z.z aB.mu aB.ms aB.aY aB.bc) 94 (0,0)):=by rw[cU h.ww.T,c]
def Word.W(h:Base Z G u t)(o:Nat)(v:Value):(u.setCell ⟨Z.z.T,o,none⟩ v).heap[Z.W]?=some (.cells #[.int .u64 G.v,.int .u32 G.m] 201 (0,0)):=by rw[e1 (a:=⟨Z.z.T,o,none⟩) (Ne.symm h.ap.bM)];exact h.ww.W
def Word.fo(h:Base Z G u t)(o:Nat)(v:Value):(u.setCell ⟨Z.W,o,none⟩ v).heap[Z.z.T]?=some (.cells (eN Z.z G.mu G.ms G.aY G.bc) 94 (0,0)):=by rw[e1 (a:=⟨Z.W,o,none⟩) h.ap.bM];exact h.ww.T
def Word.d'(h:Base Z G u t){v:Value}{c dd:Int}(d:(#[.int .u64 G.v,.int .u32 G.m]:Array Value).setIfInBounds o v=#[.int .u64 c,.int .u32 dd]):(u.setCell ⟨Z.W,o,none⟩ v).heap[Z.W]?=some (.cells #[.int .u64 c,.int .u32 dd] 201 (0,0)):=by rw[cU h.ww.W,d]
end
section
variable{X:et}{Z:Stat}{G aB:bX}{u aC w:World}{t bh:Trace}{B gX:Nat}{k:Bool}{g g':Goroutine}{s aX:ck}
def yI(Q:Program)(a b:lP Q):Prop:=dZ Q a.1 b.1
def HL(Q:Program):WellFounded (yI Q):=by
 refine⟨λ⟨V,c⟩=>?_⟩;have:∀V,Acc (dZ Q) V->∀d:Acc (dZ Q) V,Acc (yI Q) ⟨V,d⟩:=by
  intro V h;induction h with
  |intro V _ i=>exact λd=>Acc.intro _ λ⟨b4,f⟩ g=>i b4 g f
 exact this V c c
def eQ(Q:Program):gQ Q->gQ Q->Prop:=Prod.Lex (· < ·) (Prod.Lex (yI Q) (· < ·))
def G9(Q:Program):WellFounded (eQ Q):=(Prod.lex ⟨_,Nat.lt_wfRel.wf⟩ (Prod.lex ⟨_,HL Q⟩ ⟨_,Nat.lt_wfRel.wf⟩)).wf
def eQ.last{a:Nat}{v:lP Q}{m n:Nat}(h:m<n):eQ Q (a,v,m) (a,v,n):=.right _ (.right _ h)
def eQ.mid{a:Nat}{v c:lP Q}{m n:Nat}(h:dZ Q c.1 v.1):eQ Q (a,c,m) (a,v,n):=.right _ (.left _ _ h)
def eQ.head{a:Nat}{x y:lP Q×Nat}(h:a<b):eQ Q (a,x) (b,y):=.left _ _ h
def rG(f:Bool->ck)(k:Bool)(s:ck):Bool->ck:=λj=>if j=k then s else f j
def RP(f:Bool->ck)(k:Bool)(s:ck):rG f k s k=s:=if_pos rfl
def RO(f:Bool->ck){j k:Bool}(s:ck)(h:j≠k):rG f k s j=f j:=if_neg h
def bX.grow(G:bX)(n i:Nat):bX:={G with b1:=λb=>if b<n then G.b1 b else i}
def bX.st(G:bX)(k:Bool)(s:ck):bX:={G with s:=rG G.s k s}
structure g7(s aX:ck):Prop where
 role:aX.role=s.role
 cR:aX.cR=s.cR
 da:aX.da=s.da
 deaf:aX.deaf=s.deaf
 eC:aX.eC=true->s.eC=true
 un:aX.c=.un↔s.c=.un
def g7.refl(s:ck):g7 s s:=⟨rfl,rfl,rfl,rfl,id,Iff.rfl⟩
def g7.alike(h:g7 (G.s k) aX)(d:17<=G.l)(n i:Nat):Alike G ((G.grow n i).st k aX):=by
 have e:∀j,((G.grow n i).st k aX).s j=if j=k then aX else G.s j:=λ_=>rfl
 refine⟨λj=>?_,λj=>?_,λj=>?_,λj=>?_,λj=>?_,λj=>?_,rfl,rfl,bg,rfl,rfl,Iff.rfl,Iff.rfl,Iff.rfl,Iff.rfl,d,rfl,rfl,rfl,rfl,rfl,rfl,rfl,rfl,rfl,rfl⟩;all_goals rw[e];split
 .rename_i c;subst c;exact h.role
 .rfl
 .rename_i c;subst c;exact h.cR
 .rfl
 .rename_i c;subst c;exact h.da
 .rfl
 .rename_i c;subst c;exact h.deaf
 .rfl
 .rename_i c;subst c;exact h.eC
 .exact id
 .rename_i c;subst c;exact h.un
 .exact Iff.rfl
inductive cZ(X:et)(Z:Stat)(G:bX)(k:Bool)(g:Goroutine)(u:World)(t:Trace)(bt:gQ X.Q):Prop
 |go (aB:bX) (aX:ck) (aC:World) (l:List Event) (g':Goroutine) (ga:gQ X.Q) (aW:stepG aK false g u=.go g' aC l.toArray) (af:aB.s=rG G.s k aX) (aa:aB.k=G.k) (aj:aB.l=G.l) (iP:aB.bP=G.bP) (jM:aB.cy=G.cy)
  (hb:Base Z aB aC (t++MemOp.ofEvents (Z.wk k) g.frame.fn g.frame.place l.toArray)) (au:∀i,i≠Z.wk k->e0 Z G aB i u aC) (hw:fz X Z aB k g' aC aX ga) (aS:eQ X.Q ga bt) (cS:g'.status=.running)
  (fN:aB.ms=G.ms\/aB.ms=0\/mayWake aK g=true) (hm:aB.m=G.m\/aB.m=0\/mayWake aK g=true):cZ X Z G k g u t bt
 |wait (aW:stepG aK false g u=.go ⟨g.frame,g.callers,.blocked,none,none⟩ u) (ar:∃a,(G.s k).c=.lock (.qf a)) (fN:G.ms=0):cZ X Z G k g u t bt
 |fin (aW:stepG aK false g u=.go ⟨g.frame,g.callers,.finished,none,none⟩ u) (ar:(G.s k).c=.out .fin):cZ X Z G k g u t bt
 |comm (v:Nat×Nat) (x:bA) (n j m:Nat) (ar:g7 (G.s k) ⟨.out (.snd v),(G.s k).bb⟩) (aA:cB (fP (G.bP k)) Z G (Z.wk k) (.snd v) [] x g u n j) (ae:At (fP (G.bP k)) m (.snd v) x) (ak:n=m+1) (hO:(∀(n:Nat) own b o,(ib (G.bP k))[n]?=some (own,b,o)->G.b1 b≠Z.wk k)/\kA Z G (Z.wk k) u v):cZ X Z G k g u t bt
def qe(d:Base Z G u t)(calm:Calm u aC)(keep:∀b,b<u.heap.size->aC.heap[b]?≠u.heap[b]?->gY Z G i b/\bq<=b)(l:∀b,b<u.heap.size->aB.b1 b=G.b1 b)(g:aB.ro=G.ro):jV Z G aB i bq u aC:=by
 have f:∀b,b<u.heap.size->¬(gY Z G i b/\bq<=b)->aC.heap[b]?=u.heap[b]?:=λb c hm=>Classical.byContradiction λm=>hm (keep b c m)
 refine⟨calm.size,l,λh b c=>by rw[g];exact c,λh b _ c=>.inl (by rw[g]at c;exact c),λb c _ _ _ _ ar=>f b c λ⟨j,n⟩=>?_,⟨_,_,_,_,(f _ (bu d.ww.T) λh=>h.1.1.1 rfl).trans d.ww.T⟩⟩;rcases ar with ar|ar
 .omega
 .exact ar j.2.1
def cZ.l3{bt ga:gQ X.Q}(c:Base Z G u t)(r:G.s k=s)(h:s.c≠.un)(B:g7 s aX)(y:stepG aK false g u=.go g' aC l.toArray)(q:g'.status=.running)(calm:Calm u aC)(keep:∀b,b<u.heap.size->aC.heap[b]?≠u.heap[b]?->gY Z G (Z.wk k) b)(cI:∀e∈l,lx Z ((G.grow u.heap.size (Z.wk k)).st k aX) t (Z.wk k) aC.heap.size e)(p:s.da=true->∀e∈l,(MemAct.ofEvent e).touch?=none)(z:fz X Z ((G.grow u.heap.size (Z.wk k)).st k aX) k g' aC aX ga)(o:eQ X.Q ga bt):cZ X Z G k g u t bt:=by subst r;obtain⟨d,f⟩:=c.l3 (.dN k) h (B.alike c.b9.bY u.heap.size (Z.wk k)) (λb=>rfl) calm keep cI (λj n w=>by cases n;exact p w) bR g.frame.fn g.frame.place;exact .go ((G.grow u.heap.size (Z.wk k)).st k aX) aX aC l g' ga y rfl rfl rfl rfl rfl d (λi m=>f i m) z o q (.inl rfl) (.inl rfl)
def cZ.still{bt ga:gQ X.Q}(c:Base Z G u t)(j:G.s k=s)(d:s.c≠.un)(p:g7 s aX){n:Nat}(m:stepG aK false g u=.go g' (u.at n))(i:g'.status=.running)(o:fz X Z ((G.grow u.heap.size (Z.wk k)).st k aX) k g' (u.at n) aX ga)(f:eQ X.Q ga bt):cZ X Z G k g u t bt:=
 cZ.l3 (l:=[]) c j d p m i (Calm.at u n) (λb _ h=>absurd rfl h) (λe he=>(by cases he)) (λ_ e he=>(by cases he)) o f
def kN(c:Base Z G u t)(k:Bool)(aX:ck)(bq n:Nat):jV Z G ((G.grow u.heap.size (Z.wk k)).st k aX) (Z.wk k) bq u (u.at n):=
 qe c (Calm.at u n) (λb _ h=>absurd rfl h) (λb d=>if_pos d) rfl
end
section
variable{X:et}{Z:Stat}{G aB:bX}{u aC w:World}{t bh:Trace}{B gX:Nat}{k:Bool}{g g':Goroutine}{s aX:ck}{mu ms v m:Int}{aY bc:Bool}
def bX.wk(G:bX)(k:Bool)(s:ck)(mu ms:Int)(aY bc:Bool)(v m:Int):bX:={G with s:=rG G.s k s,mu:=mu,ms:=ms,aY:=aY,bc:=bc,v:=v,m:=m}
def g5.side(a:g5 G)(k:Bool):cO (G.s k).role (G.s (!k)).role G.mu G.ms G.aY G.bc:=by
 cases k
 .exact a.once
 .exact a.once.symm
def g5.tn(a:g5 G)(k:Bool):ey (decide (24<=G.l)) (G.s k).cR (G.s (!k)).cR G.k.ph=some (G.v,G.m):=by
 cases k
 .exact a.wg
 .rw[G2];exact a.wg
def DI(a b:mX):left a b=left b a:=by unfold left;omega
def DH{a c b:mX}(h:a.dec=true->c.dec=true):left c b<=left a b:=by
 unfold left;rcases e:a.dec<;>rcases d:c.dec
 .simp
 .simp
 .rw[h e]at d;cases d
 .simp
def g5.wk(a:g5 G)(q:G.s k=s)(o:cO aX.role (G.s (!k)).role mu ms aY bc)(wg:ey (decide (24<=G.l)) aX.cR (G.s (!k)).cR G.k.ph=some (v,m))(i:s.cR.dec=true->aX.cR.dec=true)(l:aX.da=s.da)(n:aX.c=.un↔s.c=.un)(r:aX.eC=true->aY=true)(p:G.aY=true->aY=true):g5 (G.wk k aX mu ms aY bc v m):=by
 subst q;obtain⟨_,_,a3,a4,a5,d,f,g,a9⟩:=a;have e:∀j,(G.wk k aX mu ms aY bc v m).s j=if j=k then aX else G.s j:=λ_=>rfl
 have h:∀j,((G.wk k aX mu ms aY bc v m).s j).eC=true->aY=true:=λj c=>by
  rw[e]at c;split at c
  .exact r c
  .exact p (a9 j c)
 clear e;cases k
 .refine⟨o,wg,cL (DH (b:=(G.s true).cR) i) a3,?_,a5,d,λe=>f (n.1 e),g,h⟩
  show dF G.l=(if aX.da then 1 else 0)+_;rw[l];exact a4
 .refine⟨o.symm,by rw[G2];exact wg,?_,?_,?_,d,f,g,h⟩
  .refine cL ?_ a3
   show left (G.s false).cR aX.cR<=_;rw[DI,DI (G.s false).cR];exact DH i
  .show dF G.l=_+(if aX.da then 1 else 0)
   rw[l];exact a4
  .show G.l<26↔aX.c=.un
   rw[n];exact a5
def cZ.sync{bt ga:gQ X.Q}(f:Base Z G u t)(o:G.s k=s)(I:s.c≠.un)(T:stepG aK false g u=.go g' aC l.toArray)(Q:g'.status=.running)(wd:Word Z u aC)(E:aC.heap[Z.z.T]?=some (.cells (eN Z.z mu ms aY bc) 94 (0,0)))(hW:aC.heap[Z.W]?=some (.cells #[.int .u64 v,.int .u32 m] 201 (0,0)))(W:cO aX.role (G.s (!k)).role mu ms aY bc)(wg:ey (decide (24<=G.l)) aX.cR (G.s (!k)).cR G.k.ph=some (v,m))(K:s.cR.dec=true->aX.cR.dec=true)(r:aX.da=s.da)(w:aX.c=.un↔s.c=.un)(L:aX.role.gC=s.role.gC)(n:aY=G.aY)(cI:∀e∈l,iv Z u.heap.size e)(J:aX.deaf=deafBehind s.deaf l.toArray)(U:aX.eC=true->s.eC=true\/G.aY=true)(R:aX.eC=true->s.eC=true\/iH (pl Z G) (t++MemOp.ofEvents (Z.wk k) g.frame.fn g.frame.place l.toArray) (Z.wk k))(S:aX.da=true->(n0 l=true/\(0<s.deaf\/∀e∈l,(MemAct.ofEvent e).touch?=none))/\∀e∈l,∀b,(MemAct.ofEvent e).touch?=some b->(∃bO,b.loc=.cell bO/\bO.block=Z.W))(V:fz X Z (G.wk k aX mu ms aY bc v m) k g' aC aX ga)(M:eQ X.Q ga bt)(P:ms=G.ms\/ms=0\/mayWake aK g=true)(hm:m=G.m\/m=0\/mayWake aK g=true):cZ X Z G k g u t bt:=by
 have y:=f.b9.wk o W wg K r w (λe=>by
  rw[n];rcases U e with e|e
  .exact f.b9.eC k (by rw[o];exact e)
  .exact e) (λe=>by rw[n];exact e)
 subst o;have e:∀j,(G.wk k aX mu ms aY bc v m).s j=if j=k then aX else G.s j:=λ_=>rfl
 have Y:ea Z (G.wk k aX mu ms aY bc v m) aC:=ea.of f wd E hW rfl rfl;have ee:eX Z (G.wk k aX mu ms aY bc v m)=eX Z G:=by
  have q:∀j,((G.wk k aX mu ms aY bc v m).s j).role.gC=(G.s j).role.gC:=λj=>by
   rw[e];split
   .rename_i c;subst c;exact L
   .rfl
  unfold eX;rw[q,q];show(if aY then _ else _)=_;rw[n]
 have H:∀a:eF,a.ig (G.wk k aX mu ms aY bc v m)↔a.ig G:=by
  intro a;cases a with
  |main=>exact Iff.rfl
  |dN j=>
   show((G.wk k aX mu ms aY bc v m).s j).c≠.un↔(G.s j).c≠.un;rw[e];split
   .rename_i c;subst c;exact not_congr w
   .exact Iff.rfl
  |eu=>exact Iff.rfl
 obtain⟨z,B⟩:=f.sync (aB:=G.wk k aX mu ms aY bc v m) (.dN k) I rfl rfl rfl Y y wd.size (λb C D _=>wd.keep b C D) cI ee H (by
  show((G.wk k aX mu ms aY bc v m).s k).deaf=_;rw[e,if_pos rfl];exact J) (λa F=>by
  cases a with
  |main=>rfl
  |dN j=>
   show((G.wk k aX mu ms aY bc v m).s j).deaf=_;rw[e,if_neg (λc=>F (by rw[c]))];rfl
  |eu=>rfl) g.frame.fn g.frame.place (λj c=>by
  rw[e]at c;split at c
  .rename_i d;subst d;exact R c
  .exact .inl c) (λj c=>by
  rw[e]at c;split at c
  .rename_i d;subst d
   exact⟨r ▸ c,λ_=>S c⟩
  .rename_i d
   exact⟨c,λp=>by cases p;exact absurd rfl d⟩) (λh=>⟨h,λp=>by cases p⟩) id
 exact .go (G.wk k aX mu ms aY bc v m) aX aC l g' ga T rfl rfl rfl rfl rfl z (λi _=>B i) V M Q P hm
def pa(m:Base Z G u t)(wd:Word Z u aC)(j:aC.heap[Z.z.T]?=some (.cells (eN Z.z mu ms aY bc) 94 (0,0))){aB:bX}(l:aB.b1=G.b1)(d:aB.ro=G.ro)(i:Nat):e0 Z G aB i u aC:=
 ⟨Nat.le_of_eq wd.size.symm,λb _=>by rw[l],λh b c=>by rw[d];exact c,λh b _ c=>.inl (by rw[d]at c;exact c),λb _ f g _ _ _=>wd.keep b f g,⟨_,_,_,_,j⟩⟩
end
section
variable{X:et}{Z:Stat}{G aB:bX}{u aC w:World}{t bh:Trace}{B gX:Nat}{k:Bool}{g g':Goroutine}{s aX:ck}{mu ms v m:Int}{aY bc bb:Bool}{x:bA}{n j a:Nat}{p:h5}{gA:lP X.Q}
def wA(c:mi)(p:h5):(fP c).dh p<=400:=bg
def pr(c:mi):dn (fP c).P (fP c).ext:=by unfold fP;exact j8
def vb{p:h5}{bb:Bool}:(⟨.out p,bb⟩:ck).c≠.un:=by intro h;cases h
def AB{p:h5}{bb:Bool}(c:pk q=pk p)(d:nF q=nF p)(f:(⟨.out q,bb⟩:ck).deaf=(⟨.out p,bb⟩:ck).deaf):g7 ⟨.out p,bb⟩ ⟨.out q,bb⟩:=
 ⟨rfl,c,d,f,id,⟨bR,bR⟩⟩
structure nL(Z:Stat)(G:bX)(k:Bool)(u:World)(p:h5):Prop where
 ok:tm p=true
 ak:∀(n:Nat) own b o,(ib (G.bP k))[n]?=some (own,b,o)->G.b1 b≠Z.wk k
 aJ:∀v,mU (G.cy k) p=some v->kA Z G (Z.wk k) u v
def nL.rely(h:nL Z G k u p)(hm:gN (ib (G.bP k)) u)(j:aB.bP k=G.bP k)(w:aB.cy k=G.cy k)(r:jV Z G aB (Z.wk k) bq u aC)(z:u.heap.size<=bq)(m:tm q=true)(y:∀v,mU (G.cy k) q=some v->mU (G.cy k) p=some v):nL Z aB k aC q:=by
 refine⟨m,λn own b o e=>?_,λv e=>?_⟩
 .rw[j]at e;rw[r.b1 b (gL hm e)];exact h.ak n own b o e
 .rw[w]at e
  obtain⟨⟨l,d,i⟩,c,f⟩:=h.aJ v (y v e);have g:=bu d;exact⟨⟨l,(r.keep _ g c.1 c.2.1 c.2.2 (.inl f) (.inl U)).trans d,i⟩,c,(r.b1 _ g).trans f⟩
def Av(c:Base Z G u t)(k:Bool)(aX:ck)(n:Nat):e0 Z G ((G.grow u.heap.size (Z.wk k)).st k aX) (Z.wk k) u (u.at n):=kN c k aX _ n
def sR(q:Base Z G u t)(I:G.s k=⟨.out p,bb⟩)(h:cB (fP (G.bP k)) Z G (Z.wk k) p [] x g u n j){m:Nat}(F:n=m+1)(C:At (fP (G.bP k)) m p x)(H:nL Z G k u p)(E:hQ p=true->bb=false){ops:List gZ}(he:Edge.bL ops to∈(fP (G.bP k)).cz p)(L:tm to=true)(w:hQ to=hQ p)(hd:pk to=pk p)(z:nF p=false)(J:nF to=false)(D:(⟨.out to,bb⟩:ck).deaf=(⟨.out p,bb⟩:ck).deaf)(M:∀v,mU (G.cy k) to=some v->mU (G.cy k) p=some v):cZ X Z G k g u t (if hQ p then 3 else 1,gA,n*500+j):=by
 subst F;obtain⟨y,aC,l,bw,B,K,calm,keep,cI,Q⟩:=h.bL (aB:=(G.grow u.heap.size (Z.wk k)).st k ⟨.out to,bb⟩) (pr _) (wA _) C he (λb=>rfl) rfl;have P:∀b,b<u.heap.size->aC.heap[b]?≠u.heap[b]?->gY Z G (Z.wk k) b/\u.heap.size<=b:=λb c f=>by obtain⟨_,i,o,e⟩:=keep b c f;have e:(ib (G.bP k))[i]?=some (true,b,o):=e;exfalso;unfold ib at e;rcases i with _|_|_|_|i<;>simp at e
 have r:e0 Z G ((G.grow u.heap.size (Z.wk k)).st k ⟨.out to,bb⟩) (Z.wk k) u aC:=qe q calm P (λb c=>if_pos c) rfl;have d:nL Z ((G.grow u.heap.size (Z.wk k)).st k ⟨.out to,bb⟩) k aC to:=H.rely h.mem rfl rfl r bg L M;exact cZ.l3 (aX:=⟨.out to,bb⟩) q I vb (AB hd (J.trans z.symm) D) (K false) rfl calm (λb c f=>(keep b c f).1) cI (λe=>by rw[show(⟨.out p,bb⟩:ck).da=nF p from rfl,z]at e;cases e)
  (.out gA d.ok B (by rw[w];exact E) d.ak d.aJ) (by rw[w];exact eQ.last (by have:=B.le;omega))
def qa(i:Base Z G u t)(w:G.s k=⟨.out p,bb⟩)(h:cB (fP (G.bP k)) Z G (Z.wk k) p [] x g u n j){a:Nat}(F:n=a+1)(B:At (fP (G.bP k)) a p x)(H:nL Z G k u p){wk:Bool}{an:List dO}{c:List cD}(he:Edge.fix true wk an c to∈(fP (G.bP k)).cz p){es:Array Event}(hd:Does u c aC es)(wd:Word Z u aC)(l:aC.heap[Z.z.T]?=some (.cells (eN Z.z G.mu G.ms G.aY G.bc) 94 (0,0)))(hW:aC.heap[Z.W]?=some (.cells #[.int .u64 v,.int .u32 m] 201 (0,0)))(hp:nF p=true)(d:nF to=true)(wg:ey (decide (24<=G.l)) (pk to) (G.s (!k)).cR G.k.ph=some (v,m))(D:(pk p).dec=true->(pk to).dec=true)(E:∀e∈hZ true (cI c),iv Z u.heap.size e)(C:(⟨.out to,bb⟩:ck).deaf=deafBehind (⟨.out p,bb⟩:ck).deaf (hZ true (cI c)).toArray)(K:(n0 (hZ true (cI c))=true/\(0<(⟨.out p,bb⟩:ck).deaf\/∀e∈hZ true (cI c),(MemAct.ofEvent e).touch?=none))/\∀e∈hZ true (cI c),∀b,(MemAct.ofEvent e).touch?=some b->(∃bO,b.loc=.cell bO/\bO.block=Z.W))(hm:m=G.m\/m=0\/wk=true):cZ X Z G k g u t (if hQ p then 3 else 1,gA,n*500+j):=by
 subst F;have r:=pa i wd l (aB:=G.wk k ⟨.out to,bb⟩ G.mu G.ms G.aY G.bc v m) rfl rfl (Z.wk k);obtain⟨y,bw,z,P,L⟩:=h.mr (aB:=G.wk k ⟨.out to,bb⟩ G.mu G.ms G.aY G.bc v m) (pr _) (wA _) B he hd ⟨h.mem.rely h.own r h.mem.floor,h.own.rely h.mem r⟩;have J:hQ p=false:=by cases p<;>first|rfl|cases hp
 have q:hQ to=false:=by cases to<;>first|rfl|cases d
 have I:tm to=true:=by cases to<;>first|rfl|cases d
 have M:∀v,mU (G.cy k) to=some v->mU (G.cy k) p=some v:=λv e=>by cases to<;>first|(cases d;done)|(cases p<;>first|(cases hp;done)|exact e)
 have f:nL Z (G.wk k ⟨.out to,bb⟩ G.mu G.ms G.aY G.bc v m) k aC to:=H.rely h.mem rfl rfl r bg I M;have o:=i.b9.side k;rw[w]at o;exact cZ.sync (aX:=⟨.out to,bb⟩) i w vb (L false) rfl wd l hW o wg D (d.trans hp.symm) ⟨bR,bR⟩ rfl rfl E C bR bR (λ_=>K)
  (.out gA f.ok z (λe=>by rw[q]at e;cases e) f.ak f.aJ) (by rw[J,q];exact eQ.last (by have:=z.le;omega)) (.inl rfl) (hm.imp id λx=>x.imp id P)
def g5.km(a:g5 G)(h:(G.s k).da=true):decide (24<=G.l)=true:=by
 have:=a.cnt;have c:1<=dF G.l:=by cases k<;>rw[h]at this<;>simp at this<;>omega
 unfold dF at c;split at c
 .omega
 .exact decide_eq_true U
end
section
variable{X:et}{Z:Stat}[hi X Z]{G aB:bX}{u aC w:World}{t bh:Trace}{B gX:Nat}{k:Bool}{g g':Goroutine}{s aX:ck}{mu ms v m:Int}{aY bc bb:Bool}{x:bA}{n j a:Nat}{p:h5}{gA:lP X.Q}
def Sg(X:et)(Z:Stat)(h:Z.z.F≠Z.z.T)(f:X.Q.globals.size<=Z.z.T/\X.Q.globals.size<=Z.z.F):Ren where
 r a b:=(a=X.ht/\b=Z.z.T)\/(a=X.fI/\b=Z.z.F)
 fwd:=by
  rintro a b c (⟨rfl,rfl⟩|⟨rfl,rfl⟩) (⟨d,rfl⟩|⟨d,rfl⟩)
  .rfl
  .exact absurd d X.tj.2.2
  .exact absurd d.symm X.tj.2.2
  .rfl
 bwd:=by
  rintro a b c (⟨rfl,rfl⟩|⟨rfl,rfl⟩) (⟨rfl,d⟩|⟨rfl,d⟩)
  .rfl
  .exact absurd d.symm h
  .exact absurd d h
  .rfl
 lim:=X.Q.globals.size
 low:=by have d:=X.tj.1;have g:=X.tj.2.1;have i:=f.1;have j:=f.2;rintro a b (⟨rfl,rfl⟩|⟨rfl,rfl⟩)<;>omega
 exact:=false
 cells:=X.Q.cellsOf
 cW:=λc=>codeOk X.Q true c=true
 room:=true
 eb:=eK X.Q
 fu:=ni X.Q
def R0{ρ:Ren}{a b:Array Value}(c:a.size=b.size)(d:∀(i:Nat) x y,a[i]?=some x->b[i]?=some y->aQ ρ x y):bQ ρ a b:=⟨c,d⟩
def Gc(ρ:Ren):aQ ρ (.agg dC) (.agg dC):=by
 refine .agg rfl λi x y c d=>?_
 rw[c]at d;cases d;unfold dC at c;rcases i with _|_|_|_|_|i<;>simp at c<;>subst c<;>exact .int _ _
def Of(d:Base Z G u t)(k:Bool)(o:m1)(H:o.Ok Z G k u):∃c:LCtx,c.V=⟨Frame.enter X.Q 38 #[pt X.ht,.agg dC] .normal,[],X.v0⟩/\c.cs = []/\c.o=o/\c.rX X Z G k (Frame.enter aK 38 #[pt Z.z.T,.agg dC] .normal) u:=by
 have hF:=d.iA.gB _ (.inl rfl);have r:X.Q.globals.size<=Z.z.T/\X.Q.globals.size<=Z.z.F:=by rw[X.S.globals];exact d.iA.wD
 let ρ:=Sg X Z hF.1.1 r;have fit:Fit X.Q ρ:=⟨⟨rfl,λ_=>bg,rfl,rfl⟩,rfl,λb e=>.inl (hi.je b e)⟩
 have z:ρ.r X.ht Z.z.T:=.inl ⟨rfl,rfl⟩;have w:ρ.r X.fI Z.z.F:=.inr ⟨rfl,rfl⟩;have C:u.heap[Z.z.F]?=some (.cells #[ah 2,ah 1] 3 (0,0)):=(d.ww.old _ hF.2 hF.1.1).trans d.iA.hF;have ht:=bu X.ui;have F:gm ρ X.v0 u:=by
  refine⟨?_,?_,?_⟩
  .rintro b m (⟨rfl,rfl⟩|⟨rfl,rfl⟩)
   .exact⟨_,_,X.ui,d.ww.T,Gp (X:=X) fit.fits rfl w _ _ _ _⟩
   .refine⟨_,_,X.zw,C,.cells (.inl rfl) (λi x y g j=>?_) (.inr ⟨rfl,rfl,bg,Nat.zero_le _⟩)⟩
    rw[g]at j;cases j;rcases i with _|_|i<;>simp at g<;>subst g<;>exact .int _ _
  .have:=X.tj.1;show X.Q.globals.size<=_;omega
  .have:=r.1;have:=d.fv.1;show X.Q.globals.size<=_;omega
 have D:bQ ρ #[pt X.ht,.agg dC] #[pt Z.z.T,.agg dC]:=R0 rfl λi x y g j=>by
  rcases i with _|_|i<;>simp at g j
  .subst g;subst j;exact .ptr ⟨z,rfl,rfl⟩
  .subst g;subst j;exact Gc ρ
 have l:=pP (K:=X.K) X.H 38 D (λn e=>by have e:eK X.Q 38=some n:=e;rw[X.eb.2]at e;cases e) .normal (.inl rfl);have E:cN X.K ρ (Frame.enter X.Q 38 #[pt X.ht,.agg dC] .normal) (Frame.enter aK 38 #[pt Z.z.T,.agg dC] .normal):=by
  generalize p:Frame.enter X.Q 38 #[pt X.ht,.agg dC] .normal=f1 at l;generalize I:Frame.enter aK 38 #[pt Z.z.T,.agg dC] .normal=f2 at l;cases l with
  |plain h=>exact h
  |refused R h hm=>
   exfalso;obtain⟨o,w2,J,B⟩:=rm (Q:=X.Q) (V:=⟨f1,[],X.v0⟩) h hm X.v0;have q:=X.going;rw[p]at q;exact q.live (aR:=X.v0.tape) (λ_ _=>rfl) (p8 hm) B
  |@sh f a b kind h P L M=>
   exfalso;have e:38=f:=congrArg Frame.fn p;rw[X.fn f h]at e;exact absurd e a6
 refine⟨⟨⟨Frame.enter X.Q 38 #[pt X.ht,.agg dC] .normal,[],X.v0⟩,ρ,[],o⟩,rfl,rfl,rfl,⟨X.going,X.self,⟨fit,rfl,E,.nil,F⟩,⟨?_,?_,X.ui,z,w,rfl,fit.fits⟩,H⟩⟩
 .rintro b m (⟨rfl,rfl⟩|⟨rfl,rfl⟩)
  .exact⟨d.ap.bM,d.ap.rC,λ_=>rfl⟩
  .exact⟨hF.1.2.1,hF.1.2.2,λe=>absurd e hF.1.1⟩
 .rintro b m (⟨rfl,rfl⟩|⟨rfl,rfl⟩)
  .exact .inr ⟨d.iA.ro k _ (.inl rfl),_,_,_,X.ui,bg⟩
  .exact .inr ⟨d.iA.ro k _ (.inr (.inl rfl)),_,_,_,X.zw,bg⟩
end
section
variable{X:et}{Z:Stat}[hi X Z]{G aB:bX}{u aC w:World}{t bh:Trace}{B gX:Nat}{k:Bool}{g g':Goroutine}{s aX:ck}{mu ms v m:Int}{aY bc bb:Bool}{x:bA}{N n j a:Nat}{p:h5}{gA:lP X.Q}
def KX{l:List Nat}(h:nY l=true):(∃r,l=0::r/\nY r=true)\/(∃r,l=1::r/\nY r=true)\/(∃r,l=2::r/\nY r=true)\/(∃r,l=3::r/\nY r=true)\/∃r,l=4::r/\oQ (r.filter (λn=>!(n == 5)))=true:=by
 unfold nY at h;split at h
 .exact .inl ⟨_,rfl,h⟩
 .exact .inr (.inl ⟨_,rfl,h⟩)
 .exact .inr (.inr (.inl ⟨_,rfl,h⟩))
 .exact .inr (.inr (.inr (.inl ⟨_,rfl,h⟩)))
 .exact .inr (.inr (.inr (.inr ⟨_,rfl,h⟩)))
 .cases h
def K1{l:List Nat}(h:oQ l=true):(∃r,l=0::r/\oQ r=true)\/(∃r,l=1::r/\oQ r=true)\/∃r,l=6::r:=by
 unfold oQ at h;split at h
 .exact .inr (.inr ⟨_,rfl⟩)
 .exact .inl ⟨_,rfl,h⟩
 .exact .inr (.inl ⟨_,rfl,h⟩)
 .cases h
def Ey(f:Base Z G u t)(m:G.s k=⟨.out p,bb⟩)(z:g7 ⟨.out p,bb⟩ ⟨.out q,bb⟩){y:bA}(h:cB (fP (G.bP k)) Z G (Z.wk k) q [] y (bW y []) u c9 bw)(H:nL Z G k u p)(l:tm q=true)(w:∀v,mU (G.cy k) q=some v->mU (G.cy k) p=some v)(j:hQ q=true->bb=false)(o:∀main (u:World),stepG (fP (G.bP k)).P main g u=.go (bW y []) u){a:Nat}(c:(a<b)\/(a=b/\c9*500+bw<n))(i:a=if hQ q then 3 else 1):cZ X Z G k g u t (b,gA,n):=by
 have r:=Av f k ⟨.out q,bb⟩ u.drawn;have d:=H.rely (q:=q) (aB:=(G.grow u.heap.size (Z.wk k)).st k ⟨.out q,bb⟩) h.mem rfl rfl r bg l w;refine cZ.still (aX:=⟨.out q,bb⟩) (n:=u.drawn) f m vb z (o false u) rfl (.out gA d.ok (h.rely r rfl rfl rfl) j d.ak d.aJ) ?_;rw[<-i];rcases c with c|⟨rfl,c⟩
 .exact eQ.head c
 .exact eQ.last c
def Ez(j:Base Z G u t){N:Nat}{c:Nat×Nat}(d:G.s k=⟨.out q,bb⟩)(i:g7 ⟨.out q,bb⟩ ⟨.out (.snd c),bb⟩)(f:cB (fP (G.bP k)) Z G (Z.wk k) (.snd c) [] x g u c9 bw)(H:nL Z G k u q)(h:∀v,mU (G.cy k) (.snd c)=some v->mU (G.cy k) q=some v)(hm:(1<b)\/(1=b/\c9*500+bw<=N)):cZ X Z G k g u t (b,gA,N):=by
 rcases f.quiet (pr _)with⟨a,m,l⟩|⟨y,w,r,o,n⟩
 .exact .comm c x c9 bw a (by rw[d];exact i) f l m ⟨H.ak,H.aJ c (h c rfl)⟩
 .exact Ey j d i o H rfl h bR n (hm.imp id λ⟨e,p⟩=>⟨e,U⟩) rfl
def M4(d:Base Z G u t)(i:G.s k=⟨.out p,bb⟩)(h:cB (fP (G.bP k)) Z G (Z.wk k) p [] x g u N j)(H:nL Z G k u p)(E:hQ p=true->bb=false):cZ X Z G k g u t (if hQ p then 3 else 1,gA,N*500+j):=by
 rcases h.quiet (pr _)with⟨a,B,o⟩|⟨y,bw,al,F,I⟩
 case inr=>exact Ey d i (g7.refl _) F H H.ok (λ_ e=>e) E I (.inr ⟨rfl,U⟩) rfl
 have fv:=d.fv;obtain⟨m,R,c3,ah,ai⟩:=d.cfg k;have Q:u.shape? (G.bP k).W=some oo:=by rw[m];exact d.ww.ny
 have ak:=d.b9.side k;have z:=d.b9.tn k;have J:∀{q:h5},G.s k=⟨.out q,bb⟩->nF q=true->decide (24<=G.l)=true:=λe h=>d.b9.km (k:=k) (by rw[e];exact h)
 cases p with
 |b6=>
  obtain⟨l,y,bw,W,F,I⟩:=h.xi (pr _) (wA _) o bI;have r:=Av d k ⟨.out (.g l),bb⟩ (u.drawn+1);have ad:nY l=true:=(List.all_eq_true.1 (by decide:Ex.all nY=true)) l W;have L:=H.rely (q:=.g l) (aB:=(G.grow u.heap.size (Z.wk k)).st k ⟨.out (.g l),bb⟩) h.mem rfl rfl r bg ad (λ_ e=>by cases e);exact cZ.still (aX:=⟨.out (.g l),bb⟩) (n:=u.drawn+1) d i vb (AB rfl rfl rfl) (I false) rfl (.out gA L.ok
   (show cB (fP (G.bP k)) Z _ (Z.wk k) (.g l) [] y (bW y []) _ _ _ from⟨F.on,F.le,rfl,rfl,rfl,F.mem,(h.own.rely h.mem r)⟩) (λ_=>E rfl) L.ak L.aJ) (eQ.last (by have:=F.le;omega))
 |g rem=>
  rcases KX H.ok with⟨r,rfl,D⟩|⟨r,rfl,D⟩|⟨r,rfl,D⟩|⟨r,rfl,D⟩|⟨r,rfl,D⟩
  .exact sR d i h B o H E (to:=.g r) bI D rfl rfl rfl rfl rfl λ_ e=>e
  .exact sR d i h B o H E (to:=.g r) bI D rfl rfl rfl rfl rfl λ_ e=>e
  .exact sR d i h B o H E (to:=.g r) bI D rfl rfl rfl rfl rfl λ_ e=>e
  .exact sR d i h B o H E (to:=.g r) bI D rfl rfl rfl rfl rfl λ_ e=>e
  .obtain⟨V,M⟩:=o.lift (pr _) (f:=38) (args:=#[pt (G.bP k).T,.agg dC]) (cy:=four) (to:=.h (r.filter (λn=>!(n == 5)))) bI
   have am:=E rfl;obtain⟨c,aj,S,T,P⟩:=Of (X:=X) d k ⟨x,r.filter (λn=>!(n == 5)),a⟩ ⟨λv=>(V v).1,h.mem,h.own,H.ak,D⟩;have ag:=Av d k ⟨.lift,bb⟩ u.drawn;have I:stepG aK false g u=.go ⟨Frame.enter aK 38 #[pt Z.z.T,.agg dC] .normal,c.base,.running,none,none⟩ u:=by obtain⟨st,off,rfl⟩:=h.shape;have:=M false [] st off u;rw[R]at this;rw[show c.base=x.1::x.2++[] by unfold LCtx.base;rw[S,T];simp[m1.base]];exact this
   exact cZ.still (aX:=⟨.lift,bb⟩) (n:=u.drawn) d i vb ⟨rfl,rfl,rfl,rfl,id,⟨bR,bR⟩⟩ I rfl (.lift c rfl rfl rfl (P.rely (dP:=(G.grow u.heap.size (Z.wk k)).st k ⟨.lift,bb⟩) rfl ag) (dZ.acc P.going.acc)) (eQ.head (Nat.lt_succ_self 2))
 |h rem v=>
  rcases K1 H.ok with⟨r,rfl,D⟩|⟨r,rfl,D⟩|⟨r,rfl⟩
  .exact sR d i h B o H E (to:=.h r v) bI D rfl rfl rfl rfl rfl λ_ e=>e
  .exact sR d i h B o H E (to:=.h r v) bI D rfl rfl rfl rfl rfl λ_ e=>e
  .obtain⟨bw,F⟩:=h.Lb (wA _) o (to:=.snd v) (Y:=Bx (G.bP k) v) bI
   exact Ez d i (AB rfl rfl rfl) F H (λ_ e=>e) (.inr ⟨rfl,by have:=F.le;omega⟩)
 |snd v=>exact Ez d i (g7.refl _) h H (λ_ e=>e) (.inr ⟨rfl,bg⟩)
 |d0=>
  have wd:=Word.refl Z u;rw[i]at z;exact qa d i h B o H (to:=.d1) bI (.shape Q (.shape Q (.nil _))) wd d.ww.T d.ww.W rfl rfl z id (λe he=>(by cases he)) rfl ⟨⟨rfl,.inr λe he=>(by cases he)⟩,λe he=>(by cases he)⟩ (.inl rfl)
 |d1=>
  rw[i]at z;refine qa d i h B o H (to:=.d2) bI (.mark (.mark (.nil _))) (Word.refl Z u) d.ww.T d.ww.W rfl rfl z id (λe he=>?_) rfl ⟨⟨rfl,.inr λe he=>?_⟩,λe he b w=>?_⟩ (.inl rfl)
  .rw[ev he];exact .mark rfl (by rw[m];exact fv.2.1)
  .rw[ev he];rfl
  .rw[ev he]at w;cases w
 |d2=>
  rw[i]at z;refine qa d i h B o H (to:=.d3) bI (.mark (.mark (.nil _))) (Word.refl Z u) d.ww.T d.ww.W rfl rfl z id (λe he=>?_) rfl ⟨⟨rfl,.inr λe he=>?_⟩,λe he b w=>?_⟩ (.inl rfl)
  .rw[ev he];exact .mark rfl trivial
  .rw[ev he];rfl
  .rw[ev he]at w;cases w
 |d3=>
  have km:=J i rfl;rw[i,km]at z;have add:∀{K n:Int} {to:h5},G.v=K->Edge.fix true false [.val (.int .u64 K)] (q2 (G.bP k).W K n) to∈(fP (G.bP k)).cz .d3->nF to=true->(⟨.out to,bb⟩:ck).deaf=1->ey true (pk to) (G.s (!k)).cR G.k.ph=some (n,G.m)->cZ X Z G k g u t (if hQ .d3 then 3 else 1,gA,N*500+j):=by
   intro K n to C he ae aa wg;refine qa d i h B o H he (.mark (.load (by rw[m];exact d.ww.gH C) (.store (by rw[m];exact d.ww.gH C) (by rw[m];exact d.ww.pS 0) (.nil _)))) (Word.set 0 _ (.inr m)) (by rw[m];exact Word.fo d 0 _) (by rw[m];exact Word.d' d rfl) rfl ae (by rw[km];exact wg) bR (λe he=>?_) aa.symm.symm ⟨⟨rfl,.inl Nat.one_pos⟩,λe he b w=>?_⟩ (.inl rfl)
   .have he:e∈[(⟨.cell (gr (G.bP k).W),false,true⟩:Event),⟨.cell (gr (G.bP k).W),true,true⟩]:=he
    rw[m]at he;simp only[List.mem_cons,iN,or_false]at he;rcases he with rfl|rfl<;>exact .wg
   .have he:e∈[(⟨.cell (gr (G.bP k).W),false,true⟩:Event),⟨.cell (gr (G.bP k).W),true,true⟩]:=he
    rw[m]at he;simp only[List.mem_cons,iN,or_false]at he;rcases he with rfl|rfl<;>(cases w;exact⟨_,rfl,rfl⟩)
  rcases R' z with⟨C,wg⟩|⟨C,wg⟩|⟨C,wg⟩|⟨C,wg⟩
  .exact add C (.head _) rfl rfl wg
  .exact add C (.tail _ (.head _)) rfl rfl wg
  .exact add C (.tail _ (.tail _ (.head _))) rfl rfl wg
  .exact add C (.tail _ (.tail _ (.tail _ (.head _)))) rfl rfl wg
 |d4=>
  have km:=J i rfl;rw[i,km]at z;obtain⟨C,wg⟩:=Sa z;refine qa d i h B o H (to:=.d5) bI (.mark (.load (by rw[m];exact d.ww.gH C) (.nil _))) (Word.refl Z u) d.ww.T (by rw[<-C]at wg;exact d.ww.W) rfl rfl (by rw[km,C];exact wg) id (λe he=>?_) rfl ⟨⟨rfl,.inl Nat.one_pos⟩,λe he b w=>?_⟩ (.inl rfl)
  .rw[ev he,m];exact .wg
  .rw[ev he,m]at w;cases w;exact⟨_,rfl,rfl⟩
 |d5=>
  have km:=J i rfl;rw[i,km]at z;have wg:=Sb z;refine qa d i h B o H (to:=.d7) bI (.mark (.store (by rw[m];exact d.ww.gH rfl) (by rw[m];exact d.ww.pS 0) (.nil _))) (Word.set 0 _ (.inr m)) (by rw[m];exact Word.fo d 0 _) (by rw[m];exact Word.d' d rfl) rfl rfl (by rw[km];exact wg) id (λe he=>?_) rfl ⟨⟨rfl,.inl Nat.one_pos⟩,λe he b w=>?_⟩ (.inl rfl)
  .rw[ev he,m];exact .wg
  .rw[ev he,m]at w;cases w;exact⟨_,rfl,rfl⟩
 |d7=>
  have km:=J i rfl;rw[i,km]at z;obtain⟨hm,wg⟩:=Sc z;refine qa d i h B o H (to:=.d6) bI (.mark (.mark (.load (by rw[m];exact d.ww.fK hm) (.store (by rw[m];exact d.ww.fK hm) (by rw[m];exact d.ww.pS 1) (.mark (.nil _)))))) (Word.set 1 _ (.inr m)) (by rw[m];exact Word.fo d 1 _) (by rw[m];exact Word.d' d rfl) rfl rfl (by rw[km];exact wg) id (λe he=>?_) rfl ⟨⟨rfl,.inl Nat.one_pos⟩,λe he b w=>?_⟩ (.inr (.inr rfl))
  .have he:e∈[(⟨.mark .disable,false,true⟩:Event),⟨.cell (hn (G.bP k).W),false,true⟩,⟨.cell (hn (G.bP k).W),true,true⟩,⟨.mark .enable,false,true⟩]:=he
   rw[m]at he;simp only[List.mem_cons,iN,or_false]at he;rcases he with rfl|rfl|rfl|rfl
   .exact .mark rfl trivial
   .exact .wg
   .exact .wg
   .exact .mark rfl trivial
  .have he:e∈[(⟨.mark .disable,false,true⟩:Event),⟨.cell (hn (G.bP k).W),false,true⟩,⟨.cell (hn (G.bP k).W),true,true⟩,⟨.mark .enable,false,true⟩]:=he
   rw[m]at he;simp only[List.mem_cons,iN,or_false]at he;rcases he with rfl|rfl|rfl|rfl<;>(cases w;try exact⟨_,rfl,rfl⟩)
 |d6=>
  rw[i]at z;refine qa d i h B o H (to:=.fin) bI (.mark (.mark (.nil _))) (Word.refl Z u) d.ww.T d.ww.W rfl rfl z id (λe he=>?_) rfl ⟨⟨rfl,.inr λe he=>?_⟩,λe he b w=>?_⟩ (.inl rfl)
  .rw[ev he];exact .mark rfl trivial
  .rw[ev he];rfl
  .rw[ev he]at w;cases w
 |fin=>
  obtain⟨_,M⟩:=o.done bI;obtain⟨st,off,rfl⟩:=h.shape;have af:x.2 = []:=(o.done bI).1;exact .fin (by rw[af];exact M false st off u) (by rw[i])
end
section
variable{X:et}{Z:Stat}[hi X Z]{G aB:bX}{u aC w:World}{t bh:Trace}{k:Bool}{g g':Goroutine}{s aX:ck}{bb:Bool}{ρ ai:Ren}{V b4:dt}{aG dI:World}{aR:Tape}
def Ff(h:m5 X Z G i ρ V){c:Nat}(f:ρ.r b c)(l:¬jk V.w b):gY Z G i c:=by
 rcases h.own b c f with⟨g,d,j⟩|⟨_,d⟩
 .exact⟨⟨g,(h.gB b c f).1,(h.gB b c f).2.1⟩,d,j⟩
 .exact absurd d l
def CP(w:Base Z G u t)(h:m5 X Z G (Z.wk k) ρ V)(F:gm ρ V.w u)(E:Eff ρ ai (dM V.w aR) dI u aG)(L:gm ai dI aG)(z:b4.w=dI)(aX:ck):
 Calm u aG/\(∀b,b<u.heap.size->aG.heap[b]?≠u.heap[b]?->gY Z G (Z.wk k) b)/\(∀e,fc ai V.w e->lx Z ((G.grow u.heap.size (Z.wk k)).st k aX) t (Z.wk k) aG.heap.size e)/\m5 X Z ((G.grow u.heap.size (Z.wk k)).st k aX) (Z.wk k) ai b4:=by
 have fv:=w.fv;have o:∀b aE,ai.r b aE->ρ.r b aE\/(V.w.heap.size<=b/\u.heap.size<=aE):=λb aE x=>E.new b aE x
 have B:∀b,b<u.heap.size->((G.grow u.heap.size (Z.wk k)).st k aX).b1 b=G.b1 b:=λb d=>if_pos d
 have own:∀b,¬b<u.heap.size->((G.grow u.heap.size (Z.wk k)).st k aX).b1 b=Z.wk k:=λb d=>if_neg d
 have old:∀{b aE},ρ.r b aE->aE<u.heap.size:=λx=>F.floor _ _ x
 have m:∀aE,u.heap.size<=aE->gY Z ((G.grow u.heap.size (Z.wk k)).st k aX) (Z.wk k) aE:=λaE d=>⟨⟨U,U,U⟩,own aE U,λi _ K=>absurd (w.oc i aE K) U⟩
 have M:∀{aE},aE<u.heap.size->gY Z G (Z.wk k) aE->gY Z ((G.grow u.heap.size (Z.wk k)).st k aX) (Z.wk k) aE:=λd h=>⟨h.1,(B _ d).trans h.2.1,h.2.2⟩
 refine⟨⟨E.size,E.tape,E.output,by rw[E.os];exact Go.ConcM.OsLater.refl _⟩,λaE d I=>?_,λe he=>?_,⟨λb aE x=>?_,λb aE x=>?_,?_,E.le.sub _ _ h.uI,E.le.sub _ _ h.xo,E.le.exact.trans h.inexact,h.fits.mono E.le⟩⟩
 .refine Classical.byContradiction λhm=>I (Classical.byContradiction λp=>?_)
  by_cases hp:∃b,ρ.r b aE
  .obtain⟨b,hp⟩:=hp
   by_cases l:jk V.w b
   .exact p (E.guard b aE hp l).2
   .exact hm (Ff h hp l)
  .exact p (E.out aE d λb J=>hp ⟨b,J⟩)
 .have lt:∀{b aE},ai.r b aE->aE<aG.heap.size:=λx=>L.floor _ _ x
  have C:∀{b aE:Nat},ai.r b aE->(blk (.obj aE)≠Z.W/\aE≠Z.ch)/\(gY Z ((G.grow u.heap.size (Z.wk k)).st k aX) (Z.wk k) aE\/(G.ro (Z.wk k) aE/\jk V.w b/\ρ.r b aE)):=λ{b aE} x=>by
   rcases o b aE x with y|⟨_,y⟩
   .refine⟨⟨(h.gB b aE y).1,(h.gB b aE y).2.1⟩,?_⟩
    rcases h.own b aE y with⟨f,c,q⟩|⟨f,c⟩
    .exact .inl (M (old y) ⟨⟨f,(h.gB b aE y).1,(h.gB b aE y).2.1⟩,c,q⟩)
    .exact .inr ⟨f,c,y⟩
   .exact⟨(m aE y).1.2,.inl (m aE y)⟩
  cases he with
  |@cell b n d wr Q l H=>
   obtain⟨gB,j⟩:=C d;refine .mem rfl (lt d) (λ_=>⟨n,rfl⟩) gB (λg=>?_) ?_
   .have g:n.block=Z.z.T:=g
    rcases o b n.block d with y|⟨_,y⟩
    .rw[g]at y
     have D:=(h.gB _ _ y).2.2 rfl;subst D;obtain⟨f,c⟩:=H _ _ _ h.T bg;obtain⟨ab,r,P⟩:=n;dsimp only at g f c;subst g;subst c;exact .inr ⟨r,rfl,by have:r<2:=f;omega⟩
    .omega
   .rcases j with j|⟨f,c,_⟩
    .exact .inl j
    .refine .inr ⟨.inl f,?_⟩
     cases wr with
     |true=>exact absurd c (l rfl)
     |false=>rfl
  |@obj b aE d wr l=>
   obtain⟨gB,j⟩:=C d;refine .mem rfl (lt d) (λp=>by cases p) gB (λg=>?_) ?_
   .have g:aE=Z.z.T:=g
    exact .inl (by rw[g])
   .rcases j with j|⟨f,c,_⟩
    .exact .inl j
    .refine .inr ⟨.inl f,?_⟩
     cases wr with
     |true=>exact absurd c (l rfl)
     |false=>rfl
  |mark hm=>exact .mark hm
 .rcases o b aE x with y|⟨_,y⟩
  .exact h.gB b aE y
  .exact⟨U,U,λe=>U⟩
 .rcases o b aE x with y|⟨_,y⟩
  .rcases h.own b aE y with⟨f,c,q⟩|⟨f,c⟩
   .exact .inl ⟨f,(B aE (old y)).trans c,q⟩
   .refine .inr ⟨f,?_⟩
    rw[z];exact c.of_eq (E.guard b aE y c).1
  .exact .inl ⟨(m aE y).1.1,(m aE y).2.1,(m aE y).2.2⟩
 .rw[z]
  exact(E.guard _ _ h.uI ⟨_,_,_,h.T,bg⟩).1.trans h.T
def pD{a b c d:Value}(l:Array Value)(h:i<4):(#[a,b,c,d]++l)[i]?=#[a,b,c,d][i]?:=Array.getElem?_append_left (by simpa using h)
def E9{v D:Value}(hF:Fits X.Q ai)(B:m5 X Z G i ai V)(S:gm ai V.w w)(M:X.R v V.w)(C:aQ ai v D):∃r,D=four r/\kA Z G i w r:=by
 obtain⟨b,c,l,rfl,p,P⟩:=X.res v V.w M;unfold four at C;cases C with
 |@slice a E h _ _=>
  obtain⟨o,af,q1,Y,aa⟩:=S.obj _ _ h.block;rw[p]at q1;cases q1;obtain⟨ab,F,H⟩:=E;have J:(0:Nat)=F:=h.off;have K:(none:Option Nat)=H:=h.spot;subst J;subst K;cases aa with
  |@cells _ d _ _ f m I Q=>
   have j:(#[ah 2,ah 3,ah 5,ah 6]++l).size<=d.size:=by rcases m with m|⟨m,_⟩<;>omega
   have R:f=(0,0):=w5 Q cH;subst R;have g:∀(i:Nat) (n:Int),(#[ah 2,ah 3,ah 5,ah 6]++l)[i]?=some (ah n)->d[i]?=some (ah n):=λi n u=>by have z:i<d.size:=gu (bu u) j;have:=I i _ _ u (fb z);rw[fb z];generalize d[i]=y at this;cases this;rfl
   have d0:=g 0 2 (by rw[pD l U];rfl);have d1:=g 1 3 (by rw[pD l U];rfl);have d2:=g 2 5 (by rw[pD l U];rfl);have d3:=g 3 6 (by rw[pD l U];rfl);have hd:d=#[ah 2,ah 3,ah 5,ah 6]++d.extract 4 d.size:=by
    apply Array.ext_getElem?;intro i;have ae:4<=d.size:=by have:=j;simp at this;omega
    rcases i with _|_|_|_|i
    .rw[d0,pD _ U];rfl
    .rw[d1,pD _ U];rfl
    .rw[d2,pD _ U];rfl
    .rw[d3,pD _ U];rfl
    .rw[Array.getElem?_append_right aF]
     rw[Array.getElem?_extract];simp only[Nat.min_self];have e:i+1+1+1+1-(#[ah 2,ah 3,ah 5,ah 6]:Array Value).size=i:=aF;rw[e];split
     .rw[Nat.add_comm 4 i]
     .rw[Array.getElem?_eq_none U]
   have gB:=B.gB _ _ h.block;have W:¬jk V.w b:=by rintro⟨bp,ad,N,q,L⟩;rw[p]at q;cases q;simp at L
   have hm:=Ff B h.block W;refine⟨(ab,c),rfl,⟨d.extract 4 d.size,by rw[Y];exact congrArg some (by rw[<-hd]),?_⟩,hm.1,hm.2.1⟩;rw[P,Array.size_extract];have T:=j;simp at T;simp at j;omega
def DQ(es:Array Event):es.toList.toArray=es:=aF
def OH{l:Nat}(h:l<14):g7 ⟨.lift,bb⟩ ⟨.fx l,bb⟩:=⟨rfl,rfl,rfl,rfl,λe=>(by have e:decide (14<=l)=true:=e;have:=of_decide_eq_true e;omega),⟨bR,bR⟩⟩
def LA(z:Base Z G u t)(ae:G.s k=⟨.lift,bb⟩)(c:LCtx)(H:g.callers=c.base)(ap:g.dying=none)(h:c.rX X Z G k g.frame u)(L:Acc (dZ X.Q) c.V):cZ X Z G k g u t (2,⟨c.V,L⟩,0):=by
 obtain⟨fr,aZ,st,a0,off⟩:=g;dsimp only at H ap h;subst H;subst ap;have ag:(⟨.lift,bb⟩:ck).c≠.un:=by intro e;cases e
 have ad:=h.o;by_cases av:c.V.stop
 .obtain⟨v,a7,ai,aG,es,am,B,a1,aM,a2,af,E,aQ,M⟩:=Aj (base:=c.o.base) X.S h.going h.self h.pair av false st off
  have C:=aQ.hrel;have w:=CP z h.ll h.pair.heap E C (b4:=c.V.iF (hU c.V.w u)) rfl;have ak:Fits X.Q ai:=h.pair.fit.fits.mono E.le;obtain⟨r,rfl,_⟩:=E9 (G:=(G.grow u.heap.size (Z.wk k)).st k ⟨.lift,bb⟩) (i:=Z.wk k) (V:=c.V.iF (hU c.V.w u)) ak ((w ⟨.lift,bb⟩).2.2.2) C am B;obtain⟨calm,keep,cI,J⟩:=w ⟨.out (.h c.o.rem r),bb⟩;obtain⟨F,aO,aP⟩:=E9 (V:=c.V.iF (hU c.V.w u)) ak J C am B;have:F=r:=by
   have e:=aO;unfold four at e;injection e with q aj aA
   injection q with q
   injection q with q
   exact(Prod.ext q aA).symm
  subst this;have Q:jV Z G ((G.grow u.heap.size (Z.wk k)).st k ⟨.out (.h c.o.rem F),bb⟩) (Z.wk k) 0 u aG:=qe z calm (λb p D=>⟨keep b p D,Nat.zero_le _⟩) (λb p=>if_pos p) rfl;obtain⟨aS,aT,aU,aV,aW⟩:=ad.rely (dP:=(G.grow u.heap.size (Z.wk k)).st k ⟨.out (.h c.o.rem F),bb⟩) rfl Q;have Y:c.base=c.cs++c.o.base:=rfl;have P:stepG aK false ⟨fr,c.base,st,none,off⟩ u=.go ⟨c.o.x.1.finish (four F),c.o.x.2,.running,none,none⟩ aG es.toList.toArray:=by rw[Y,af,DQ];simp[m1.base,doReturn,aM,GStep.after]
  exact cZ.l3 (aX:=⟨.out (.h c.o.rem F),bb⟩) (l:=es.toList) z ae ag ⟨rfl,rfl,rfl,rfl,(bR),⟨bR,bR⟩⟩ P rfl calm keep (λe he=>cI e (M e (by simpa using he))) (bR)
   (.out ⟨c.V,L⟩ aW ⟨aS F,bg,rfl,aF,rfl,aT,aU⟩ bR aV (λv e=>by cases e;exact aP)) (eQ.head (Nat.lt_succ_self 1))
 .obtain⟨b4,ai,T,R,aG,es,af,B,W,ao,E,M,au⟩:=EE (base:=c.o.base) X.S X.ek X.H h.going h.self h.pair av (λ_ id ops a5 d k a3 _ _ h=>absurd h (X.db _ _ _)) false st off
  have C:gm ai b4.w aG:=by
   rcases au with h|h
   .exact h.heap
   .exact h.heap
  have w:=CP z h.ll h.pair.heap E C rfl;have Y:c.base=c.cs++c.o.base:=rfl;have Q:∀aX,jV Z G ((G.grow u.heap.size (Z.wk k)).st k aX) (Z.wk k) 0 u aG:=λaX=>qe z (w aX).1 (λb p D=>⟨(w aX).2.1 b p D,Nat.zero_le _⟩) (λb p=>if_pos p) rfl
  have P:stepG aK false ⟨fr,c.base,st,none,off⟩ u=.go ⟨T,R++c.o.base,.running,none,none⟩ aG es.toList.toArray:=by rw[Y,af,DQ]
  rcases au with hp|he
  .have aX:ck:=⟨.lift,bb⟩
   obtain⟨calm,keep,cI,J⟩:=w ⟨.lift,bb⟩;exact cZ.l3 (aX:=⟨.lift,bb⟩) (l:=es.toList) z ae ag (g7.refl _) P rfl calm keep (λe he=>cI e (M e (by simpa using he))) (bR)
    (.lift (bb:=bb) (fr:=T) ⟨b4,ai,R,c.o⟩ rfl rfl rfl ⟨W,ao,hp,J,ad.rely (dP:=(G.grow u.heap.size (Z.wk k)).st k ⟨.lift,bb⟩) rfl (Q _)⟩ (L.inv (.one B))) (eQ.mid (.one B))
  .obtain⟨f,a,b,kind,aL,aa,aI,q,aj,aJ⟩:=he.fr
   obtain rfl:=X.fn f aL;obtain⟨aB,S,aH,aE⟩:∃c3 S,b4.cs=c3::S/\Kept c3:=by
    have D:=he.some;have H:=he.cs;generalize b4.cs=l at D H;cases H with
    |nil=>exact absurd rfl D
    |@cons x y l m aR ar=>
     refine⟨x,l,rfl,λe a4 hm=>?_⟩;have:=aR.mode;rw[hm]at this;generalize y.mode=a8 at this;cases this with
     |panicking ar=>
      cases ar with
      |cons I _=>exact I.recovered.1
   obtain⟨rfl,_⟩:=X.stub b4 W a kind aB S aa (aJ 2 X.eb.1) q aH aE;obtain⟨calm,keep,cI,J⟩:=w ⟨.fx 0,bb⟩;have p:b=#[pt Z.z.T,ah 0]:=by
    obtain⟨aw,aq⟩:=aI;have aw:b.size=2:=aw.symm;have al:=aq 0 _ _ rfl (fb (by omega:0<b.size));have K:=aq 1 _ _ rfl (fb (by omega:1<b.size));have aY:b[0]=pt Z.z.T:=by
     generalize b[0]=y at al;cases al with
     |@ptr _ ax I=>
      obtain⟨ab,ay,az⟩:=ax;have K:(0:Nat)=ay:=I.off;have aC:(none:Option Nat)=az:=I.spot;have aD:ai.r X.ht ab:=I.block;subst K;subst aC;have:=ai.fwd aD (E.le.sub _ _ h.ll.uI);subst this;rfl
    have q1:b[1]=ah 0:=by generalize b[1]=y at K;cases K;rfl
    apply Array.ext_getElem?;intro i;rcases i with _|_|i
    .rw[fb (by omega:0<b.size),aY];rfl
    .rw[fb (by omega:0+1<b.size)]
     show some b[1]=_;rw[q1];rfl
    .rw[Array.getElem?_eq_none U,Array.getElem?_eq_none aF]
   subst p;have aN:=NP Z.z.T kind aa;refine cZ.l3 (aX:=⟨.fx 0,bb⟩) (l:=es.toList) z ae ag (OH a6) P rfl calm keep (λe he=>cI e (M e (by simpa using he))) (bR)
    (.fx (n:=40) (j:=400) (x:=(T,[])) ⟨b4,ai,R,c.o⟩ kind 0 0 0 [] [] aG.heap.size rfl (λi b o e=>by simp at e) C.floor bg (λ_=>rfl)
     ⟨W,ao,aa,q,he.some,he.cs,he.fit,he.room,C,J,ad.rely (dP:=(G.grow u.heap.size (Z.wk k)).st k ⟨.fx 0,bb⟩) rfl (Q _)⟩ (L.inv (.one B)) ⟨⟨_,aN,by rw[aj];rfl⟩,bg,rfl,rfl,rfl,⟨λi _ _ _ e=>?_,λi _ _ _ _ _ _ _ e=>?_⟩,λi _ _ _ e=>?_⟩) (eQ.mid (.one B))
   .have e:([]:Mem)[i]?=_:=e
    simp at e
   .have e:([]:Mem)[i]?=_:=e
    simp at e
   .have e:([]:Mem)[i]?=_:=e
    simp at e
end
section
variable{X:et}{Z:Stat}[hi X Z]{G aB:bX}{u aC w:World}{t bh:Trace}{k:Bool}{g g':Goroutine}{s aX:ck}{bb:Bool}{ρ ai:Ren}{V b4:dt}{aG dI:World}{aR:Tape}{kd:CallKind}{x y:bA}{n j c9 bw l aN:Nat}{rem lk:List Nat}{bG bH df pH pE pF bq:Nat}{M b7:Mem}
def B7{P:Program}{ext:Ext}{x:bA}{y:FuncId×Array Value}(h:r9 P ext x=some y):x.1.mode=.run:=by
 unfold r9 at h;split at h
 .assumption
 .assumption
 .cases h
def At.DL{Pos:Type}{A:de Pos}{n:Nat}{p:Pos}{x:bA}(h:At A n p x){f:FuncId}{args:Array Value}{α:Type}{cy:α->Value}{to:α->Pos}(he:Edge.lift f args cy to∈A.cz p):x.1.mode=.run:=by obtain⟨z,d,rfl⟩:=h;obtain⟨c,_⟩:=hK.mem d _ he;exact B7 c
def uu{c:Frame}(h:c.mode=.run):Kept c:=λe d hm=>by rw[h]at hm;cases hm
def tr(T:Nat)(kd:CallKind):dn (iD T kd).P (iD T kd).ext:=by unfold iD;exact j8
def wz(T:Nat)(kd:CallKind)(p:tE):(iD T kd).dh p<=400:=bg
def OG(h:14<=aN->14<=l):g7 ⟨.fx l,bb⟩ ⟨.fx aN,bb⟩:=⟨rfl,rfl,rfl,rfl,λe=>decide_eq_true (h (of_decide_eq_true e)),⟨bR,bR⟩⟩
def Bs:(⟨.fx l,bb⟩:ck).c≠.un:=by intro h;cases h
structure pz(X:et)(Z:Stat)(G:bX)(k:Bool)(u:World)(c:LCtx)(kd:CallKind)(bq:Nat):Prop where
 wait:c.rZ X Z G k kd u
 bY:∀b aE,c.ρ.r b aE->aE<bq
 dh:bq<=u.heap.size
def uL{bz:List Event}(f:Base Z G u t)(w:G.s k=⟨.fx l,bb⟩)(c:LCtx)(H:pz X Z G k u c kd bq)(h:Acc (dZ X.Q) c.V)(p:14<=aN->14<=l)(z:stepG aK false g u=.go (bW y c.base) aC bz.toArray)(calm:Calm u aC)(keep:∀b,b<u.heap.size->aC.heap[b]?≠u.heap[b]?->gY Z G (Z.wk k) b/\bq<=b)(cI:∀e∈bz,lx Z ((G.grow u.heap.size (Z.wk k)).st k ⟨.fx aN,bb⟩) t (Z.wk k) aC.heap.size e)(ok:mK aN lk=true)(m:∀(i:Nat) b o,b7[i]?=some (true,b,o)->bq<=b)(j:aN<=16->b7=o9 Z.z.T pH pE pF aN)(B:cB (iD Z.z.T kd) Z ((G.grow u.heap.size (Z.wk k)).st k ⟨.fx aN,bb⟩) (Z.wk k) ⟨aN,lk,pH,pE,pF,b7⟩ c.base y (bW y c.base) aC c9 bw)(q:c9*500+bw<n):
 cZ X Z G k g u t (2,⟨c.V,h⟩,n*10000000000):=by
 have C:jV Z G ((G.grow u.heap.size (Z.wk k)).st k ⟨.fx aN,bb⟩) (Z.wk k) bq u aC:=qe f calm keep (λb d=>if_pos d) rfl;exact cZ.l3 (aX:=⟨.fx aN,bb⟩) f w Bs (OG p) z rfl calm (λb d r=>(keep b d r).1) cI (bR)
  (.fx c kd pH pE pF b7 lk bq ok m H.bY (cL H.dh calm.size) j (H.wait.rely (dP:=(G.grow u.heap.size (Z.wk k)).st k ⟨.fx aN,bb⟩) rfl C H.bY) h B) (eQ.last (Nat.mul_lt_mul_of_pos_right q (Nat.zero_lt_succ _)))
def NK(h:mK l rem=true):l=0\/l=1\/l=2\/l=3\/(l=4/\(rem = []\/(∃r,rem=0::r/\mK 4 r=true)\/∃r,rem=1::r/\mK 4 r=true))\/l=14\/(l=15/\(rem = []\/(∃r,rem=0::r/\mK 15 r=true)\/∃r,rem=1::r/\mK 15 r=true))\/l=16\/l=17:=by
 have two:∀rem:List Nat,rem.all (· < 2)=true->(rem = []\/(∃r,rem=0::r/\r.all (· < 2)=true)\/∃r,rem=1::r/\r.all (· < 2)=true):=by
  intro rem h;rcases rem with _|⟨a,r⟩
  .exact .inl rfl
  .simp only[List.all_cons,Bool.and_eq_true,decide_eq_true_eq]at h
   obtain⟨d,c⟩:=h;rcases a with _|_|a
   .exact .inr (.inl ⟨r,rfl,c⟩)
   .exact .inr (.inr ⟨r,rfl,c⟩)
   .omega
 unfold mK at h;split at h
 .exact .inl rfl
 .exact .inr (.inl rfl)
 .exact .inr (.inr (.inl rfl))
 .exact .inr (.inr (.inr (.inl rfl)))
 .exact .inr (.inr (.inr (.inr (.inr (.inl rfl)))))
 .exact .inr (.inr (.inr (.inr (.inr (.inr (.inr (.inl rfl)))))))
 .exact .inr (.inr (.inr (.inr (.inr (.inr (.inr (.inr rfl)))))))
 .exact .inr (.inr (.inr (.inr (.inl ⟨rfl,two rem h⟩))))
 .exact .inr (.inr (.inr (.inr (.inr (.inr (.inl ⟨rfl,two rem h⟩))))))
 .cases h
def Q0(ρ:Ren):aQ ρ iT iT:=by
 unfold iT;refine .agg rfl λi x y c d=>?_
 rw[c]at d;cases d;rcases i with _|_|_|_|_|i<;>simp at c<;>subst c<;>exact .int _ _
def Base.bc(c:Base Z G u t)(h:G.aY=true):G.bc=true:=by have:=c.b9.once;rw[this.bc];unfold u2;rw[<-this.aY,h];rfl
def Base.done(h:G.aY=true):eX Z G=.done:=by unfold eX;rw[h];rfl
def Base.cells(d:Base Z G u t)(h:G.aY=true)(o:Nat)(v:Value)(c:(kP true)[o]?=some v):u.cell? ⟨Z.z.T,13+o,none⟩=some v:=by
 refine d.ww.r8 ?_;rw[d.bc h];unfold kP at c;rcases o with _|_|_|_|_|o
 all_goals simp at c
 all_goals (subst c;simp[eN,kP])
end
end Go.aO
