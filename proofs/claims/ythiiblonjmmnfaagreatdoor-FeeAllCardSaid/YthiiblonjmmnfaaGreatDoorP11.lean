/- Part 12 of a law on fees: no conditions. -/
import Derived.Test.YthiiblonjmmnfaaGreatDoorP10
set_option maxHeartbeats 8000000
set_option maxRecDepth 100000
set_option linter.all false
namespace Go.aN
attribute [-simp] Go.Sem.runT_eq
open Go.Proofs Go.Conc Go.ConcN
section
variable{X:dJ}{Z:Stat}{G au:bI}{u ay w:World}{t a':Trace}{B ej:Nat}
inductive hf(Z:Stat)(B:Nat):Event->Prop
 |mark {m:Mark} (I:(MemAct.mark m).touch?=none) (J:(MemAct.mark m).low B):hf Z B ⟨.mark m,false,true⟩
 |bM {o:Nat} {wr:Bool} (I:4<=o) (J:o<13) (ax:o=4->wr=false):hf Z B ⟨.cell ⟨Z.z.T,o,none⟩,wr,true⟩
 |wg {o:Nat} {wr:Bool}:hf Z B ⟨.cell ⟨Z.W,o,none⟩,wr,true⟩
def hf.wS{i:Nat}{e:Event}(A:Apart Z G)(l:Z.z.T<B)(hW:Z.W<B)(h:hf Z B e)(t:Trace):tg Z G t i B e/\(∀b,(MemAct.ofEvent e).touch?=some b->¬(pl Z G).g4 b.loc)/\(∀b,(MemAct.ofEvent e).touch?=some b->b.kind=.atomic):=by
 cases h with
 |mark d g=>exact⟨⟨g,λb c=>(by rw[show MemAct.ofEvent ⟨.mark _,false,true⟩=MemAct.mark _ from rfl,d]at c;cases c),λe=>((by cases e))⟩,λb c=>(by rw[show MemAct.ofEvent ⟨.mark _,false,true⟩=MemAct.mark _ from rfl,d]at c;cases c),λb c=>(by rw[show MemAct.ofEvent ⟨.mark _,false,true⟩=MemAct.mark _ from rfl,d]at c;cases c)⟩
 |@bM o wr d g j=>
  have f:(pl Z G).h7 (.cell ⟨Z.z.T,o,none⟩):=.inl ⟨o,rfl,d,g⟩;refine⟨⟨l,λb c _=>?_,λe=>?_⟩,λb c=>?_,λb c=>?_⟩
  .cases c;exact .inl (.inl ⟨f,by simp⟩)
  .injection e with e;injection e with _ e;exact j e
  .cases c;exact λk=>A.kB.mF _ k f
  .cases c;rfl
 |@wg o wr=>
  have f:(pl Z G).h7 (.cell ⟨Z.W,o,none⟩):=.inr (.inl ⟨_,rfl,rfl⟩);refine⟨⟨hW,λb c _=>?_,λe=>?_⟩,λb c=>?_,λb c=>?_⟩
  .cases c;exact .inl (.inl ⟨f,by simp⟩)
  .injection e with e;injection e with e _;exact absurd e.symm A.bM
  .cases c;exact λk=>A.kB.mF _ k f
  .cases c;rfl
def Base.eJ(h:Base Z G u t):Z.z.T<u.heap.size/\Z.W<u.heap.size/\Z.ch<u.heap.size:=⟨bp h.ww.T,bp h.ww.W,bp h.ww.ch⟩
def Apart.same(h:Apart Z G)(d:au.bO=G.bO)(c:au.ro=G.ro):Apart Z au:=⟨h.bM,h.pO,h.wc,h.pos,by rw[d,c];exact h.u5,by rw[c];exact h.Cm⟩
def eh.same{i:Nat}(o:au.bO=G.bO)(d:au.ro=G.ro)(p:ay.heap.size=u.heap.size)(l:∀b,b≠Z.z.T->b≠Z.W->b≠Z.ch->ay.heap[b]?=u.heap[b]?)(q:dv Z au ay):eh Z G au i u ay:=
 ⟨Nat.le_of_eq p.symm,λb _=>by rw[o],λh b c=>by rw[d];exact c,λh b _ c=>.inl (by rw[d]at c;exact c),λb _ f g j _ _=>l b f g j,⟨_,_,_,_,q.T⟩⟩
def Base.rest(h:Base Z G u t)(d:au.bO=G.bO)(c:au.ro=G.ro)(l:au.bC=G.bC)(f:ay.heap.size=u.heap.size)(p:dv Z au ay)(g:fT au)(o:ep Z au a' ay.heap.size):Base Z au ay a':=
 ⟨p,g,h.ap.same d c,o,by rw[c,f];exact h.mz,by rw[f];exact h.q3,by rw[d,c];exact h.hold,by rw[f];exact h.old,h.ni,(h.hi.grow λi b j=>by rw[c];exact j),(by rw[d,c];exact h.pF),by rw[l];exact h.cfg⟩
def Base.sync(h:Base Z G u t)(b3:dR)(H:b3.g0 G)(f:au.bO=G.bO)(g:au.ro=G.ro)(C:au.bC=G.bC)(w:dv Z au ay)(B:fT au)(d:ay.heap.size=u.heap.size)(I:∀b,b≠Z.z.T->b≠Z.W->b≠Z.ch->ay.heap[b]?=u.heap[b]?){l:List Event}(cB:∀e∈l,hf Z u.heap.size e)(ei:ef Z au=ef Z G)(S:∀a:dR,a.g0 au↔a.g0 G)(D:b3.deaf au=deafBehind (b3.deaf G) l.toArray)(F:∀a:dR,a≠b3->a.deaf au=a.deaf G)(fn:FuncId)(pos:String)(K:∀k,(au.s k).dO=true->(G.s k).dO=true\/hr (pl Z au) (t++MemOp.ofEvents (b3.num Z) fn pos l.toArray) (Z.wk k))(M:∀k,(au.s k).cI=true->(G.s k).cI=true/\(b3=.de k->(mo l=true/\(0<b3.deaf G\/∀e∈l,(MemAct.ofEvent e).touch?=none))/\∀e∈l,∀b,(MemAct.ofEvent e).touch?=some b->(∃o,b.loc=.cell o/\o.block=Z.W)))(P:au.k.shut=true->G.k.shut=true/\(b3=.dK->∀e∈l,(MemAct.ofEvent e).touch?=none))(L:au.k.said=false->G.k.said=false):
 Base Z au ay (t++MemOp.ofEvents (b3.num Z) fn pos l.toArray)/\∀i,eh Z G au i u ay:=by
 have p:=h.ap.same f g;have r:Grow G au u.heap.size:=⟨λb _=>by rw[f],g⟩
 obtain⟨T,U,V⟩:=h.eJ;have E:=λe he=>(cB e he).wS (i:=b3.num Z) p T U t
 have R:eF (pl Z au) t (ef Z au) u.heap.size:=by rw[ei];exact h.c6.c6.mx r
 refine⟨h.rest f g C d w B ?_,λi=>eh.same f g d I w⟩;rw[d];refine ep.app p h.c6 r Pk b3 H R (λe he=>(E e he).1) S D F K (λe he b c Q=>absurd Q ((E e he).2.1 b c)) (λk J=>?_) P (λe he b c d=>?_) L
 .obtain⟨z,j⟩:=M k J
  exact⟨z,λq=>⟨(j q).1,λe he b c=>⟨(j q).2 e he b c,(E e he).2.2 b c⟩⟩⟩
 .rw[(E e he).2.2 b c]at d;cases d
def Nq(z:dr)(mu ms:Int)(aU a7:Bool):(dW z mu ms aU a7)[4]?=some (.int .u32 (kU aU)):=by cases a7<;>simp[dW,jx,kU]
def Nr(z:dr)(mu ms:Int)(aU a7:Bool):(dW z mu ms aU a7)[5]?=some (.int .i32 mu):=by cases a7<;>simp[dW,jx,kU]
def Ns(z:dr)(mu ms:Int)(aU a7:Bool):(dW z mu ms aU a7)[6]?=some (.int .u32 ms):=by cases a7<;>simp[dW,jx,kU]
def vn(z:dr)(mu ms:Int)(aU a7:Bool):(dW z mu ms aU a7).size=28:=by cases a7<;>simp[dW,jx,kU]
def Nt(z:dr)(mu ms:Int)(aU a7:Bool):(dW z mu ms aU a7).setIfInBounds 4 (.int .u32 1)=dW z mu ms true a7:=by cases a7<;>simp[dW,jx,kU]
def vo(z:dr)(mu c ms:Int)(aU a7:Bool):(dW z mu ms aU a7).setIfInBounds 5 (.int .i32 c)=dW z c ms aU a7:=by cases a7<;>simp[dW,jx,kU]
def Dq(z:dr)(mu ms c:Int)(aU a7:Bool):(dW z mu ms aU a7).setIfInBounds 6 (.int .u32 c)=dW z mu c aU a7:=by cases a7<;>simp[dW,jx,kU]
def dv.qh(h:dv Z G u){o:Nat}{v:Value}(c:(dW Z.z G.mu G.ms G.aU G.a7)[o]?=some v):u.cell? ⟨Z.z.T,o,none⟩=some v:=by rw[aT h.T];exact c
def dv.mi(h:dv Z G u)(o:Nat):u.frozen? ⟨Z.z.T,o,none⟩=false:=b1 h.T
def dv.pJ(h:dv Z G u):u.shape? Z.z.T=some (105,28):=by rw[yk h.T,vn]
def dv.kV(h:dv Z G u){n:Int}(c:G.mu=n):u.cell? ⟨Z.z.T,5,none⟩=some (.int .i32 n):=by rw[h.qh (Nr ..),c]
def dv.rW(h:dv Z G u){n:Int}(c:G.ms=n):u.cell? ⟨Z.z.T,6,none⟩=some (.int .u32 n):=by rw[h.qh (Ns ..),c]
def dv.zJ(h:dv Z G u){n:Bool}(c:G.aU=n):u.cell? ⟨Z.z.T,4,none⟩=some (.int .u32 (kU n)):=by rw[h.qh (Nq ..),c]
def dv.fz(h:dv Z G u){n:Int}(c:G.v=n):u.cell? ⟨Z.W,0,none⟩=some (.int .u64 n):=by rw[aT h.W,c];rfl
def dv.eU(h:dv Z G u){n:Int}(c:G.m=n):u.cell? ⟨Z.W,1,none⟩=some (.int .u32 n):=by rw[aT h.W,c];rfl
def dv.nZ(h:dv Z G u)(o:Nat):u.frozen? ⟨Z.W,o,none⟩=false:=b1 h.W
def dv.lY(h:dv Z G u):u.shape? Z.W=some (199,2):=by rw[yk h.W];rfl
structure Word(Z:Stat)(u ay:World):Prop where
 size:ay.heap.size=u.heap.size
 keep:∀b,b≠Z.z.T->b≠Z.W->ay.heap[b]?=u.heap[b]?
 calm:Calm u ay
def Word.refl(Z:Stat)(u:World):Word Z u u:=⟨rfl,λ_ _ _=>rfl,Calm.refl u⟩
def Word.set(o:Nat)(v:Value){b:Nat}(d:b=Z.z.T\/b=Z.W):Word Z u (u.setCell ⟨b,o,none⟩ v):=
 ⟨by simp,λc f g=>ft (a:=⟨b,o,none⟩) (by rcases d with rfl|rfl<;>assumption),yi _ _ _⟩
def Word.trans{f g:World}(h:Word Z u f)(k:Word Z f g):Word Z u g:=⟨k.size.trans h.size,λb c d=>(k.keep b c d).trans (h.keep b c d),h.calm.trans k.calm⟩
def dv.of(h:Base Z G u t)(wd:Word Z u ay)(c:ay.heap[Z.z.T]?=some (.cells (dW Z.z au.mu au.ms au.aU au.a7) 105 (0,0)))(hW:ay.heap[Z.W]?=some (.cells #[.int .u64 au.v,.int .u32 au.m] 199 (0,0)))(f:au.k.shut=G.k.shut)(g:da au.l=da G.l):dv Z au ay:=
 ⟨c,hW,by rw[f,g,wd.keep _ (Ne.symm h.ap.pO) (Ne.symm h.ap.wc)];exact h.ww.ch,λb d c=>by rw[wd.keep b c (by have:=h.ni.1;omega)];exact h.ww.old b d c,h.ww.calm.trans wd.calm⟩
def Word.T(h:Base Z G u t){o:Nat}{v:Value}(c:(dW Z.z G.mu G.ms G.aU G.a7).setIfInBounds o v=dW Z.z au.mu au.ms au.aU au.a7):(u.setCell ⟨Z.z.T,o,none⟩ v).heap[Z.z.T]?=some (.cells (dW Z.z au.mu au.ms au.aU au.a7) 105 (0,0)):=by rw[cQ h.ww.T,c]
def Word.W(h:Base Z G u t)(o:Nat)(v:Value):(u.setCell ⟨Z.z.T,o,none⟩ v).heap[Z.W]?=some (.cells #[.int .u64 G.v,.int .u32 G.m] 199 (0,0)):=by rw[ft (a:=⟨Z.z.T,o,none⟩) (Ne.symm h.ap.bM)];exact h.ww.W
def Word.jk(h:Base Z G u t)(o:Nat)(v:Value):(u.setCell ⟨Z.W,o,none⟩ v).heap[Z.z.T]?=some (.cells (dW Z.z G.mu G.ms G.aU G.a7) 105 (0,0)):=by rw[ft (a:=⟨Z.W,o,none⟩) h.ap.bM];exact h.ww.T
def Word.dt(h:Base Z G u t){o:Nat}{v:Value}{c cP:Int}(d:(#[.int .u64 G.v,.int .u32 G.m]:Array Value).setIfInBounds o v=#[.int .u64 c,.int .u32 cP]):(u.setCell ⟨Z.W,o,none⟩ v).heap[Z.W]?=some (.cells #[.int .u64 c,.int .u32 cP] 199 (0,0)):=by rw[cQ h.ww.W,d]
end
section
variable{X:dJ}{Z:Stat}{G au:bI}{u ay w:World}{t a':Trace}{B ej:Nat}{k:Bool}{g g':Goroutine}{s a6:bZ}
def we(Q:Program)(a b:ku Q):Prop:=ds Q a.1 b.1
def EC(Q:Program):WellFounded (we Q):=by
 refine⟨λ⟨V,c⟩=>?_⟩;have:∀V,Acc (ds Q) V->∀d:Acc (ds Q) V,Acc (we Q) ⟨V,d⟩:=by
  intro V h;induction h with
  |intro V _ i=>exact λd=>Acc.intro _ λ⟨b6,f⟩ g=>i b6 g f
 exact this V c c
def dZ(Q:Program):fI Q->fI Q->Prop:=Prod.Lex (· < ·) (Prod.Lex (we Q) (· < ·))
def D5(Q:Program):WellFounded (dZ Q):=(Prod.lex ⟨_,Nat.lt_wfRel.wf⟩ (Prod.lex ⟨_,EC Q⟩ ⟨_,Nat.lt_wfRel.wf⟩)).wf
def dZ.last{Q:Program}{a:Nat}{v:ku Q}{m n:Nat}(h:m<n):dZ Q (a,v,m) (a,v,n):=.right _ (.right _ h)
def dZ.mid{Q:Program}{a:Nat}{v c:ku Q}{m n:Nat}(h:ds Q c.1 v.1):dZ Q (a,c,m) (a,v,n):=.right _ (.left _ _ h)
def dZ.head{Q:Program}{a b:Nat}{x y:ku Q×Nat}(h:a<b):dZ Q (a,x) (b,y):=.left _ _ h
def pS(f:Bool->bZ)(k:Bool)(s:bZ):Bool->bZ:=λj=>if j=k then s else f j
def Oq(f:Bool->bZ)(k:Bool)(s:bZ):pS f k s k=s:=if_pos rfl
def Oo(f:Bool->bZ){j k:Bool}(s:bZ)(h:j≠k):pS f k s j=f j:=if_neg h
def bI.grow(G:bI)(n i:Nat):bI:={G with bO:=λb=>if b<n then G.bO b else i}
def bI.st(G:bI)(k:Bool)(s:bZ):bI:={G with s:=pS G.s k s}
structure fU(s a6:bZ):Prop where
 role:a6.role=s.role
 cy:a6.cy=s.cy
 cI:a6.cI=s.cI
 deaf:a6.deaf=s.deaf
 dO:a6.dO=true->s.dO=true
 un:a6.c=.un↔s.c=.un
def fU.refl(s:bZ):fU s s:=⟨rfl,rfl,rfl,rfl,id,Iff.rfl⟩
def fU.alike(h:fU (G.s k) a6)(d:17<=G.l)(n i:Nat):Alike G ((G.grow n i).st k a6):=by
 have e:∀j,((G.grow n i).st k a6).s j=if j=k then a6 else G.s j:=λ_=>rfl
 refine⟨λj=>?_,λj=>?_,λj=>?_,λj=>?_,λj=>?_,λj=>?_,rfl,rfl,Pk,rfl,rfl,Iff.rfl,Iff.rfl,Iff.rfl,Iff.rfl,d,rfl,rfl,rfl,rfl,rfl,rfl,rfl,rfl,rfl,rfl⟩;all_goals rw[e];split
 .rename_i c;subst c;exact h.role
 .rfl
 .rename_i c;subst c;exact h.cy
 .rfl
 .rename_i c;subst c;exact h.cI
 .rfl
 .rename_i c;subst c;exact h.deaf
 .rfl
 .rename_i c;subst c;exact h.dO
 .exact id
 .rename_i c;subst c;exact h.un
 .exact Iff.rfl
inductive cD(X:dJ)(Z:Stat)(G:bI)(k:Bool)(g:Goroutine)(u:World)(t:Trace)(bl:fI X.Q):Prop
 |go (au:bI) (a6:bZ) (ay:World) (l:List Event) (g':Goroutine) (e':fI X.Q) (aR:stepG aF false g u=.go g' ay l.toArray) (af:au.s=pS G.s k a6) (U:au.k=G.k) (ah:au.l=G.l) (hA:au.bC=G.bC) (iq:au.cl=G.cl)
  (hb:Base Z au ay (t++MemOp.ofEvents (Z.wk k) g.frame.fn g.frame.place l.toArray)) (ao:∀i,i≠Z.wk k->eh Z G au i u ay) (hw:eM X Z au k g' ay a6 e') (aO:dZ X.Q e' bl) (cz:g'.status=.running)
  (eW:au.ms=G.ms\/au.ms=0\/mayWake aF g=true) (hm:au.m=G.m\/au.m=0\/mayWake aF g=true):cD X Z G k g u t bl
 |wait (aR:stepG aF false g u=.go ⟨g.frame,g.callers,.blocked,none,none⟩ u) (al:∃a,(G.s k).c=.lock (.ow a)) (eW:G.ms=0):cD X Z G k g u t bl
 |fin (aR:stepG aF false g u=.go ⟨g.frame,g.callers,.finished,none,none⟩ u) (al:(G.s k).c=.out .fin):cD X Z G k g u t bl
 |comm (v:Nat×Nat) (x:bs) (n j m:Nat) (al:fU (G.s k) ⟨.out (.snd v),(G.s k).a2⟩) (az:cn (eZ (G.bC k)) Z G (Z.wk k) (.snd v) [] x g u n j) (aa:At (eZ (G.bC k)) m (.snd v) x) (ak:n=m+1) (gz:(∀(n:Nat) own b o,(gZ (G.bC k))[n]?=some (own,b,o)->G.bO b≠Z.wk k)/\jh Z G (Z.wk k) u v):cD X Z G k g u t bl
def ov(d:Base Z G u t)(calm:Calm u ay){i bh:Nat}(keep:∀b,b<u.heap.size->ay.heap[b]?≠u.heap[b]?->fO Z G i b/\bh<=b)(l:∀b,b<u.heap.size->au.bO b=G.bO b)(g:au.ro=G.ro):iE Z G au i bh u ay:=by
 have f:∀b,b<u.heap.size->¬(fO Z G i b/\bh<=b)->ay.heap[b]?=u.heap[b]?:=λb c hm=>Classical.byContradiction λo=>hm (keep b c o)
 refine⟨calm.size,l,λh b c=>by rw[g];exact c,λh b _ c=>.inl (by rw[g]at c;exact c),λb c _ _ _ _ al=>f b c λ⟨j,p⟩=>?_,⟨_,_,_,_,(f _ (bp d.ww.T) λh=>h.1.1.1 rfl).trans d.ww.T⟩⟩;rcases al with al|al
 .omega
 .exact al j.2.1
def cD.kI{bl e':fI X.Q}{l:List Event}(c:Base Z G u t)(z:G.s k=s)(h:s.c≠.un)(E:fU s a6)(C:stepG aF false g u=.go g' ay l.toArray)(w:g'.status=.running)(calm:Calm u ay)(keep:∀b,b<u.heap.size->ay.heap[b]?≠u.heap[b]?->fO Z G (Z.wk k) b)(cB:∀e∈l,j3 Z ((G.grow u.heap.size (Z.wk k)).st k a6) t (Z.wk k) ay.heap.size e)(r:s.cI=true->∀e∈l,(MemAct.ofEvent e).touch?=none)(D:eM X Z ((G.grow u.heap.size (Z.wk k)).st k a6) k g' ay a6 e')(q:dZ X.Q e' bl):cD X Z G k g u t bl:=by subst z;obtain⟨d,f⟩:=c.kI (.de k) h (E.alike c.bT.b4 u.heap.size (Z.wk k)) (λb=>rfl) calm keep cB (λj p B=>by cases p;exact r B) (λe=>by cases e) g.frame.fn g.frame.place;exact .go ((G.grow u.heap.size (Z.wk k)).st k a6) a6 ay l g' e' C rfl rfl rfl rfl rfl d (λi o=>f i o) D q w (.inl rfl) (.inl rfl)
def cD.still{bl e':fI X.Q}(c:Base Z G u t)(j:G.s k=s)(d:s.c≠.un)(q:fU s a6){n:Nat}(o:stepG aF false g u=.go g' (u.at n))(i:g'.status=.running)(p:eM X Z ((G.grow u.heap.size (Z.wk k)).st k a6) k g' (u.at n) a6 e')(f:dZ X.Q e' bl):cD X Z G k g u t bl:=
 cD.kI (l:=[]) c j d q o i (Calm.at u n) (λb _ h=>absurd rfl h) (λe he=>(by cases he)) (λ_ e he=>(by cases he)) p f
def jv(c:Base Z G u t)(k:Bool)(a6:bZ)(bh n:Nat):iE Z G ((G.grow u.heap.size (Z.wk k)).st k a6) (Z.wk k) bh u (u.at n):=
 ov c (Calm.at u n) (λb _ h=>absurd rfl h) (λb d=>if_pos d) rfl
end
section
variable{X:dJ}{Z:Stat}{G au:bI}{u ay w:World}{t a':Trace}{B ej:Nat}{k:Bool}{g g':Goroutine}{s a6:bZ}{mu ms v m:Int}{aU a7:Bool}
def bI.wk(G:bI)(k:Bool)(s:bZ)(mu ms:Int)(aU a7:Bool)(v m:Int):bI:={G with s:=pS G.s k s,mu:=mu,ms:=ms,aU:=aU,a7:=a7,v:=v,m:=m}
def fT.side(a:fT G)(k:Bool):cx (G.s k).role (G.s (!k)).role G.mu G.ms G.aU G.a7:=by
 cases k
 .exact a.once
 .exact a.once.symm
def fT.rq(a:fT G)(k:Bool):dM (decide (24<=G.l)) (G.s k).cy (G.s (!k)).cy G.k.ph=some (G.v,G.m):=by
 cases k
 .exact a.wg
 .rw[DX];exact a.wg
def Bc(a b:lz):left a b=left b a:=by unfold left;omega
def Bb{a c b:lz}(h:a.dec=true->c.dec=true):left c b<=left a b:=by
 unfold left;rcases e:a.dec<;>rcases d:c.dec
 .simp
 .simp
 .rw[h e]at d;cases d
 .simp
def fT.wk(a:fT G)(q:G.s k=s)(once:cx a6.role (G.s (!k)).role mu ms aU a7)(wg:dM (decide (24<=G.l)) a6.cy (G.s (!k)).cy G.k.ph=some (v,m))(i:s.cy.dec=true->a6.cy.dec=true)(l:a6.cI=s.cI)(o:a6.c=.un↔s.c=.un)(r:a6.dO=true->aU=true)(p:G.aU=true->aU=true):fT (G.wk k a6 mu ms aU a7 v m):=by
 subst q;obtain⟨_,_,a3,a4,a5,d,f,g,a9⟩:=a;have e:∀j,(G.wk k a6 mu ms aU a7 v m).s j=if j=k then a6 else G.s j:=λ_=>rfl
 have h:∀j,((G.wk k a6 mu ms aU a7 v m).s j).dO=true->aU=true:=λj c=>by
  rw[e]at c;split at c
  .exact r c
  .exact p (a9 j c)
 clear e;cases k
 .refine⟨once,wg,Po (Bb (b:=(G.s true).cy) i) a3,?_,a5,d,λe=>f (o.1 e),g,h⟩
  show da G.l=(if a6.cI then 1 else 0)+_;rw[l];exact a4
 .refine⟨once.symm,by rw[DX];exact wg,?_,?_,?_,d,f,g,h⟩
  .refine Po ?_ a3
   show left (G.s false).cy a6.cy<=_;rw[Bc,Bc (G.s false).cy];exact Bb i
  .show da G.l=_+(if a6.cI then 1 else 0)
   rw[l];exact a4
  .show G.l<26↔a6.c=.un
   rw[o];exact a5
def cD.sync{bl e':fI X.Q}{l:List Event}(f:Base Z G u t)(p:G.s k=s)(L:s.c≠.un)(W:stepG aF false g u=.go g' ay l.toArray)(T:g'.status=.running)(wd:Word Z u ay)(I:ay.heap[Z.z.T]?=some (.cells (dW Z.z mu ms aU a7) 105 (0,0)))(hW:ay.heap[Z.W]?=some (.cells #[.int .u64 v,.int .u32 m] 199 (0,0)))(once:cx a6.role (G.s (!k)).role mu ms aU a7)(wg:dM (decide (24<=G.l)) a6.cy (G.s (!k)).cy G.k.ph=some (v,m))(P:s.cy.dec=true->a6.cy.dec=true)(z:a6.cI=s.cI)(B:a6.c=.un↔s.c=.un)(Q:a6.role.fs=s.role.fs)(o:aU=G.aU)(cB:∀e∈l,hf Z u.heap.size e)(M:a6.deaf=deafBehind s.deaf l.toArray)(Y:a6.dO=true->s.dO=true\/G.aU=true)(U:a6.dO=true->s.dO=true\/hr (pl Z G) (t++MemOp.ofEvents (Z.wk k) g.frame.fn g.frame.place l.toArray) (Z.wk k))(V:a6.cI=true->(mo l=true/\(0<s.deaf\/∀e∈l,(MemAct.ofEvent e).touch?=none))/\∀e∈l,∀b,(MemAct.ofEvent e).touch?=some b->(∃r,b.loc=.cell r/\r.block=Z.W))(aa:eM X Z (G.wk k a6 mu ms aU a7 v m) k g' ay a6 e')(R:dZ X.Q e' bl)(S:ms=G.ms\/ms=0\/mayWake aF g=true)(hm:m=G.m\/m=0\/mayWake aF g=true):cD X Z G k g u t bl:=by
 have C:=f.bT.wk p once wg P z B (λe=>by
  rw[o];rcases Y e with e|e
  .exact f.bT.dO k (by rw[p];exact e)
  .exact e) (λe=>by rw[o];exact e)
 subst p;have e:∀j,(G.wk k a6 mu ms aU a7 v m).s j=if j=k then a6 else G.s j:=λ_=>rfl
 have ad:dv Z (G.wk k a6 mu ms aU a7 v m) ay:=dv.of f wd I hW rfl rfl;have ei:ef Z (G.wk k a6 mu ms aU a7 v m)=ef Z G:=by
  have w:∀j,((G.wk k a6 mu ms aU a7 v m).s j).role.fs=(G.s j).role.fs:=λj=>by
   rw[e];split
   .rename_i c;subst c;exact Q
   .rfl
  unfold ef;rw[w,w];show(if aU then _ else _)=_;rw[o]
 have K:∀a:dR,a.g0 (G.wk k a6 mu ms aU a7 v m)↔a.g0 G:=by
  intro a;cases a with
  |main=>exact Iff.rfl
  |de j=>
   show((G.wk k a6 mu ms aU a7 v m).s j).c≠.un↔(G.s j).c≠.un;rw[e];split
   .rename_i c;subst c;exact not_congr B
   .exact Iff.rfl
  |dK=>exact Iff.rfl
 obtain⟨D,E⟩:=f.sync (au:=G.wk k a6 mu ms aU a7 v m) (.de k) L rfl rfl rfl ad C wd.size (λb F H _=>wd.keep b F H) cB ei K (by
  show((G.wk k a6 mu ms aU a7 v m).s k).deaf=_;rw[e,if_pos rfl];exact M) (λa J=>by
  cases a with
  |main=>rfl
  |de j=>
   show((G.wk k a6 mu ms aU a7 v m).s j).deaf=_;rw[e,if_neg (λc=>J (by rw[c]))];rfl
  |dK=>rfl) g.frame.fn g.frame.place (λj c=>by
  rw[e]at c;split at c
  .rename_i d;subst d;exact U c
  .exact .inl c) (λj c=>by
  rw[e]at c;split at c
  .rename_i d;subst d
   exact⟨z ▸ c,λ_=>V c⟩
  .rename_i d
   exact⟨c,λq=>by cases q;exact absurd rfl d⟩) (λh=>⟨h,λq=>by cases q⟩) id
 exact .go (G.wk k a6 mu ms aU a7 v m) a6 ay l g' e' W rfl rfl rfl rfl rfl D (λi _=>E i) aa R T S hm
def ns(o:Base Z G u t)(wd:Word Z u ay)(j:ay.heap[Z.z.T]?=some (.cells (dW Z.z mu ms aU a7) 105 (0,0))){au:bI}(l:au.bO=G.bO)(d:au.ro=G.ro)(i:Nat):eh Z G au i u ay:=
 ⟨Nat.le_of_eq wd.size.symm,λb _=>by rw[l],λh b c=>by rw[d];exact c,λh b _ c=>.inl (by rw[d]at c;exact c),λb _ f g _ _ _=>wd.keep b f g,⟨_,_,_,_,j⟩⟩
end
section
variable{X:dJ}{Z:Stat}{G au:bI}{u ay w:World}{t a':Trace}{B ej:Nat}{k:Bool}{g g':Goroutine}{s a6:bZ}{mu ms v m:Int}{aU a7 a2:Bool}{x:bs}{n j a:Nat}{p:gR}{fp:ku X.Q}
def ub(c:kT)(p:gR):(eZ c).dA p<=400:=Pk
def nE(c:kT):dk (eZ c).P (eZ c).ext:=by unfold eZ;exact iQ
def s4{p:gR}{a2:Bool}:(⟨.out p,a2⟩:bZ).c≠.un:=by intro h;cases h
def yf{p q:gR}{a2:Bool}(c:nA q=nA p)(d:l5 q=l5 p)(f:(⟨.out q,a2⟩:bZ).deaf=(⟨.out p,a2⟩:bZ).deaf):fU ⟨.out p,a2⟩ ⟨.out q,a2⟩:=
 ⟨rfl,c,d,f,id,⟨λe=>(by cases e),λe=>(by cases e)⟩⟩
structure l'(Z:Stat)(G:bI)(k:Bool)(u:World)(p:gR):Prop where
 ok:rp p=true
 ak:∀(n:Nat) own b o,(gZ (G.bC k))[n]?=some (own,b,o)->G.bO b≠Z.wk k
 aD:∀v,lv (G.cl k) p=some v->jh Z G (Z.wk k) u v
def l'.rely{q:gR}{bh:Nat}(h:l' Z G k u p)(hm:fF (gZ (G.bC k)) u)(j:au.bC k=G.bC k)(z:au.cl k=G.cl k)(r:iE Z G au (Z.wk k) bh u ay)(C:u.heap.size<=bh)(w:rp q=true)(B:∀v,lv (G.cl k) q=some v->lv (G.cl k) p=some v):l' Z au k ay q:=by
 refine⟨w,λn own b o e=>?_,λv e=>?_⟩
 .rw[j]at e;rw[r.bO b (fB hm e)];exact h.ak n own b o e
 .rw[z]at e
  obtain⟨⟨l,d,i⟩,c,f⟩:=h.aD v (B v e);have g:=bp d;exact⟨⟨l,(r.keep _ g c.1 c.2.1 c.2.2 (.inl f) (.inl (by omega))).trans d,i⟩,c,(r.bO _ g).trans f⟩
def ya(c:Base Z G u t)(k:Bool)(a6:bZ)(n:Nat):eh Z G ((G.grow u.heap.size (Z.wk k)).st k a6) (Z.wk k) u (u.at n):=jv c k a6 _ n
def qT(q:Base Z G u t)(I:G.s k=⟨.out p,a2⟩)(h:cn (eZ (G.bC k)) Z G (Z.wk k) p [] x g u n j){m:Nat}(F:n=m+1)(C:At (eZ (G.bC k)) m p x)(H:l' Z G k u p)(E:gC p=true->a2=false){ops:List gO}{to:gR}(he:Edge.bH ops to∈(eZ (G.bC k)).cq p)(L:rp to=true)(w:gC to=gC p)(hd:nA to=nA p)(z:l5 p=false)(J:l5 to=false)(D:(⟨.out to,a2⟩:bZ).deaf=(⟨.out p,a2⟩:bZ).deaf)(M:∀v,lv (G.cl k) to=some v->lv (G.cl k) p=some v):cD X Z G k g u t (if gC p then 3 else 1,fp,n*500+j):=by
 subst F;obtain⟨y,ay,l,bn,B,K,calm,keep,cB,Q⟩:=h.bH (au:=(G.grow u.heap.size (Z.wk k)).st k ⟨.out to,a2⟩) (nE _) (ub _) C he (λb=>rfl) rfl;have P:∀b,b<u.heap.size->ay.heap[b]?≠u.heap[b]?->fO Z G (Z.wk k) b/\u.heap.size<=b:=λb c f=>by obtain⟨_,i,o,e⟩:=keep b c f;have e:(gZ (G.bC k))[i]?=some (true,b,o):=e;exfalso;unfold gZ at e;rcases i with _|_|_|_|i<;>simp at e
 have r:eh Z G ((G.grow u.heap.size (Z.wk k)).st k ⟨.out to,a2⟩) (Z.wk k) u ay:=ov q calm P (λb c=>if_pos c) rfl;have d:l' Z ((G.grow u.heap.size (Z.wk k)).st k ⟨.out to,a2⟩) k ay to:=H.rely h.mem rfl rfl r Pk L M;exact cD.kI (a6:=⟨.out to,a2⟩) q I s4 (yf hd (J.trans z.symm) D) (K false) rfl calm (λb c f=>(keep b c f).1) cB (λe=>by rw[show(⟨.out p,a2⟩:bZ).cI=l5 p from rfl,z]at e;cases e)
  (.out fp d.ok B (by rw[w];exact E) d.ak d.aD) (by rw[w];exact dZ.last (by have:=B.le;omega))
def oo(i:Base Z G u t)(B:G.s k=⟨.out p,a2⟩)(h:cn (eZ (G.bC k)) Z G (Z.wk k) p [] x g u n j){a:Nat}(J:n=a+1)(D:At (eZ (G.bC k)) a p x)(H:l' Z G k u p){wk:Bool}{an:List df}{c:List cr}{to:gR}(he:Edge.fix true wk an c to∈(eZ (G.bC k)).cq p){es:Array Event}(hd:Does u c ay es)(wd:Word Z u ay)(q:ay.heap[Z.z.T]?=some (.cells (dW Z.z G.mu G.ms G.aU G.a7) 105 (0,0)))(hW:ay.heap[Z.W]?=some (.cells #[.int .u64 v,.int .u32 m] 199 (0,0)))(l:l5 p=true)(d:l5 to=true)(wg:dM (decide (24<=G.l)) (nA to) (G.s (!k)).cy G.k.ph=some (v,m))(F:(nA p).dec=true->(nA to).dec=true)(I:∀e∈gY true (cB c),hf Z u.heap.size e)(E:(⟨.out to,a2⟩:bZ).deaf=deafBehind (⟨.out p,a2⟩:bZ).deaf (gY true (cB c)).toArray)(M:(mo (gY true (cB c))=true/\(0<(⟨.out p,a2⟩:bZ).deaf\/∀e∈gY true (cB c),(MemAct.ofEvent e).touch?=none))/\∀e∈gY true (cB c),∀b,(MemAct.ofEvent e).touch?=some b->(∃o,b.loc=.cell o/\o.block=Z.W))(hm:m=G.m\/m=0\/wk=true):cD X Z G k g u t (if gC p then 3 else 1,fp,n*500+j):=by
 subst J;have r:=ns i wd q (au:=G.wk k ⟨.out to,a2⟩ G.mu G.ms G.aU G.a7 v m) rfl rfl (Z.wk k);obtain⟨y,bn,C,R,P⟩:=h.k0 (au:=G.wk k ⟨.out to,a2⟩ G.mu G.ms G.aU G.a7 v m) (nE _) (ub _) D he hd ⟨h.mem.rely h.own r h.mem.floor,h.own.rely h.mem r⟩;have L:gC p=false:=by cases p<;>first|rfl|cases l
 have z:gC to=false:=by cases to<;>first|rfl|cases d
 have K:rp to=true:=by cases to<;>first|rfl|cases d
 have Q:∀v,lv (G.cl k) to=some v->lv (G.cl k) p=some v:=λv e=>by cases to<;>first|(cases d;done)|(cases p<;>first|(cases l;done)|exact e)
 have f:l' Z (G.wk k ⟨.out to,a2⟩ G.mu G.ms G.aU G.a7 v m) k ay to:=H.rely h.mem rfl rfl r Pk K Q;have w:=i.bT.side k;rw[B]at w;exact cD.sync (a6:=⟨.out to,a2⟩) i B s4 (P false) rfl wd q hW w wg F (d.trans l.symm) ⟨λe=>(by cases e),λe=>(by cases e)⟩ rfl rfl I E (λe=>by cases e) (λe=>by cases e) (λ_=>M)
  (.out fp f.ok C (λe=>by rw[z]at e;cases e) f.ak f.aD) (by rw[L,z];exact dZ.last (by have:=C.le;omega)) (.inl rfl) (hm.imp id λx=>x.imp id R)
def fT.iW(a:fT G)(h:(G.s k).cI=true):decide (24<=G.l)=true:=by
 have:=a.cnt;have c:1<=da G.l:=by cases k<;>rw[h]at this<;>simp at this<;>omega
 unfold da at c;split at c
 .omega
 .exact decide_eq_true (by omega)
end
section
variable{X:dJ}{Z:Stat}[gh X Z]{G au:bI}{u ay w:World}{t a':Trace}{B ej:Nat}{k:Bool}{g g':Goroutine}{s a6:bZ}{mu ms v m:Int}{aU a7 a2:Bool}{x:bs}{n j a:Nat}{p:gR}{fp:ku X.Q}
def OU(X:dJ)(Z:Stat)(h:Z.z.F≠Z.z.T)(f:X.Q.globals.size<=Z.z.T/\X.Q.globals.size<=Z.z.F):Ren where
 r a b:=(a=X.ha/\b=Z.z.T)\/(a=X.e9/\b=Z.z.F)
 fwd:=by
  rintro a b c (⟨rfl,rfl⟩|⟨rfl,rfl⟩) (⟨d,rfl⟩|⟨d,rfl⟩)
  .rfl
  .exact absurd d X.rk.2.2
  .exact absurd d.symm X.rk.2.2
  .rfl
 bwd:=by
  rintro a b c (⟨rfl,rfl⟩|⟨rfl,rfl⟩) (⟨rfl,d⟩|⟨rfl,d⟩)
  .rfl
  .exact absurd d.symm h
  .exact absurd d h
  .rfl
 lim:=X.Q.globals.size
 low:=by have d:=X.rk.1;have g:=X.rk.2.1;have i:=f.1;have j:=f.2;rintro a b (⟨rfl,rfl⟩|⟨rfl,rfl⟩)<;>omega
 exact:=false
 cells:=X.Q.cellsOf
 dw:=λc=>codeOk X.Q true c=true
 room:=true
 dy:=dX X.Q
 dC:=km X.Q
def OB{ρ:Ren}{a b:Array Value}(c:a.size=b.size)(d:∀(i:Nat) x y,a[i]?=some x->b[i]?=some y->aM ρ x y):bE ρ a b:=⟨c,d⟩
def Dc(ρ:Ren):aM ρ (.agg c8) (.agg c8):=by
 refine .agg rfl λi x y c d=>?_
 rw[c]at d;cases d;unfold c8 at c;rcases i with _|_|_|_|_|i<;>simp at c<;>subst c<;>exact .int _ _
def K0(d:Base Z G u t)(k:Bool)(o:lC)(J:o.Ok Z G k u):∃c:LCtx,c.V=⟨Frame.enter X.Q 23 #[pt X.ha,.agg c8] .normal,[],X.v0⟩/\c.cs = []/\c.o=o/\c.qb X Z G k (Frame.enter aF 23 #[pt Z.z.T,.agg c8] .normal) u:=by
 have hF:=d.hi.fq _ (.inl rfl);have z:X.Q.globals.size<=Z.z.T/\X.Q.globals.size<=Z.z.F:=by rw[X.S.globals];exact d.hi.uh
 let ρ:=OU X Z hF.1.1 z;have l:Fit X.Q ρ:=⟨⟨rfl,λ_=>Pk,rfl,rfl⟩,rfl,λb e=>.inl (gh.hR b e)⟩
 have C:ρ.r X.ha Z.z.T:=.inl ⟨rfl,rfl⟩;have B:ρ.r X.e9 Z.z.F:=.inr ⟨rfl,rfl⟩;have E:u.heap[Z.z.F]?=some (.cells #[ad 2,ad 1] 3 (0,0)):=(d.ww.old _ hF.2 hF.1.1).trans d.hi.hF;have T:=bp X.sd;have I:gb ρ X.v0 u:=by
  refine⟨?_,?_,?_⟩
  .rintro b q (⟨rfl,rfl⟩|⟨rfl,rfl⟩)
   .exact⟨_,_,X.sd,d.ww.T,Dp (X:=X) l.fits rfl B _ _ _ _⟩
   .refine⟨_,_,X.xg,E,.cells (.inl rfl) (λi x y g j=>?_) (.inr ⟨rfl,rfl,Pk,Nat.zero_le _⟩)⟩
    rw[g]at j;cases j;rcases i with _|_|i<;>simp at g<;>subst g<;>exact .int _ _
  .have:=X.rk.1;show X.Q.globals.size<=_;omega
  .have:=z.1;have:=d.eJ.1;show X.Q.globals.size<=_;omega
 have F:bE ρ #[pt X.ha,.agg c8] #[pt Z.z.T,.agg c8]:=OB rfl λi x y g j=>by
  rcases i with _|_|i<;>simp at g j
  .subst g;subst j;exact .ptr ⟨C,rfl,rfl⟩
  .subst g;subst j;exact Dc ρ
 have p:=nX (K:=X.K) X.H 23 F (λn e=>by have e:dX X.Q 23=some n:=e;rw[X.dy.2]at e;cases e) .normal (.inl rfl);have H:cG X.K ρ (Frame.enter X.Q 23 #[pt X.ha,.agg c8] .normal) (Frame.enter aF 23 #[pt Z.z.T,.agg c8] .normal):=by
  generalize r:Frame.enter X.Q 23 #[pt X.ha,.agg c8] .normal=f1 at p;generalize L:Frame.enter aF 23 #[pt Z.z.T,.agg c8] .normal=f2 at p;cases p with
  |plain h=>exact h
  |refused U h hm=>
   exfalso;obtain⟨o,w2,M,D⟩:=pE (Q:=X.Q) (V:=⟨f1,[],X.v0⟩) h hm X.v0;have w:=X.going;rw[r]at w;exact w.live (aL:=X.v0.tape) (λ_ _=>rfl) (oi hm) D
  |@qq f a b kind h S P R=>
   exfalso;have e:23=f:=congrArg Frame.fn r;rw[X.fn f h]at e;exact absurd e (by decide)
 refine⟨⟨⟨Frame.enter X.Q 23 #[pt X.ha,.agg c8] .normal,[],X.v0⟩,ρ,[],o⟩,rfl,rfl,rfl,⟨X.going,X.self,⟨l,rfl,H,.nil,I⟩,⟨?_,?_,X.sd,C,B,rfl,l.fits⟩,J⟩⟩
 .rintro b q (⟨rfl,rfl⟩|⟨rfl,rfl⟩)
  .exact⟨d.ap.bM,d.ap.pO,λ_=>rfl⟩
  .exact⟨hF.1.2.1,hF.1.2.2,λe=>absurd e hF.1.1⟩
 .rintro b q (⟨rfl,rfl⟩|⟨rfl,rfl⟩)
  .exact .inr ⟨d.hi.ro k _ (.inl rfl),_,_,_,X.sd,Pk⟩
  .exact .inr ⟨d.hi.ro k _ (.inr (.inl rfl)),_,_,_,X.xg,Pk⟩
end
section
variable{X:dJ}{Z:Stat}[gh X Z]{G au:bI}{u ay w:World}{t a':Trace}{B ej:Nat}{k:Bool}{g g':Goroutine}{s a6:bZ}{mu ms v m:Int}{aU a7 a2:Bool}{x:bs}{N n j a:Nat}{p:gR}{fp:ku X.Q}
def HL{l:List Nat}(h:ml l=true):(∃r,l=0::r/\ml r=true)\/(∃r,l=1::r/\ml r=true)\/(∃r,l=2::r/\ml r=true)\/(∃r,l=3::r/\ml r=true)\/∃r,l=4::r/\m7 (r.filter (λn=>!(n == 5)))=true:=by
 unfold ml at h;split at h
 .exact .inl ⟨_,rfl,h⟩
 .exact .inr (.inl ⟨_,rfl,h⟩)
 .exact .inr (.inr (.inl ⟨_,rfl,h⟩))
 .exact .inr (.inr (.inr (.inl ⟨_,rfl,h⟩)))
 .exact .inr (.inr (.inr (.inr ⟨_,rfl,h⟩)))
 .cases h
def HP{l:List Nat}(h:m7 l=true):(∃r,l=0::r/\m7 r=true)\/(∃r,l=1::r/\m7 r=true)\/∃r,l=6::r:=by
 unfold m7 at h;split at h
 .exact .inr (.inr ⟨_,rfl⟩)
 .exact .inl ⟨_,rfl,h⟩
 .exact .inr (.inl ⟨_,rfl,h⟩)
 .cases h
def BO{q:gR}(f:Base Z G u t)(o:G.s k=⟨.out p,a2⟩)(B:fU ⟨.out p,a2⟩ ⟨.out q,a2⟩){cM bn:Nat}{y:bs}(h:cn (eZ (G.bC k)) Z G (Z.wk k) q [] y (bQ y []) u cM bn)(H:l' Z G k u p)(l:rp q=true)(z:∀v,lv (G.cl k) q=some v->lv (G.cl k) p=some v)(j:gC q=true->a2=false)(w:∀main (u:World),stepG (eZ (G.bC k)).P main g u=.go (bQ y []) u){a b:Nat}(c:(a<b)\/(a=b/\cM*500+bn<n))(i:a=if gC q then 3 else 1):cD X Z G k g u t (b,fp,n):=by
 have r:=ya f k ⟨.out q,a2⟩ u.drawn;have d:=H.rely (q:=q) (au:=(G.grow u.heap.size (Z.wk k)).st k ⟨.out q,a2⟩) h.mem rfl rfl r Pk l z;refine cD.still (a6:=⟨.out q,a2⟩) (n:=u.drawn) f o s4 B (w false u) rfl (.out fp d.ok (h.rely r rfl rfl rfl) j d.ak d.aD) ?_;rw[<-i];rcases c with c|⟨rfl,c⟩
 .exact dZ.head c
 .exact dZ.last c
def BP(j:Base Z G u t){q:gR}{b N:Nat}{c:Nat×Nat}(d:G.s k=⟨.out q,a2⟩)(i:fU ⟨.out q,a2⟩ ⟨.out (.snd c),a2⟩){cM bn:Nat}(f:cn (eZ (G.bC k)) Z G (Z.wk k) (.snd c) [] x g u cM bn)(H:l' Z G k u q)(h:∀v,lv (G.cl k) (.snd c)=some v->lv (G.cl k) q=some v)(hm:(1<b)\/(1=b/\cM*500+bn<=N)):cD X Z G k g u t (b,fp,N):=by
 rcases f.quiet (nE _)with⟨a,o,l⟩|⟨y,B,z,r,p⟩
 .exact .comm c x cM bn a (by rw[d];exact i) f l o ⟨H.ak,H.aD c (h c rfl)⟩
 .exact BO j d i r H rfl h (λe=>by cases e) p (hm.imp id λ⟨e,w⟩=>⟨e,by omega⟩) rfl
def JV(d:Base Z G u t)(i:G.s k=⟨.out p,a2⟩)(h:cn (eZ (G.bC k)) Z G (Z.wk k) p [] x g u N j)(H:l' Z G k u p)(F:gC p=true->a2=false):cD X Z G k g u t (if gC p then 3 else 1,fp,N*500+j):=by
 rcases h.quiet (nE _)with⟨a,C,w⟩|⟨y,bn,al,I,J⟩
 case inr=>exact BO d i (fU.refl _) I H H.ok (λ_ e=>e) F J (.inr ⟨rfl,by omega⟩) rfl
 have eJ:=d.eJ;obtain⟨o,S,c3,ah,ai⟩:=d.cfg k;have R:u.shape? (G.bC k).W=some mI:=by rw[o];exact d.ww.lY
 have ak:=d.bT.side k;have B:=d.bT.rq k;have K:∀{q:gR},G.s k=⟨.out q,a2⟩->l5 q=true->decide (24<=G.l)=true:=λe h=>d.bT.iW (k:=k) (by rw[e];exact h)
 cases p with
 |bP=>
  obtain⟨l,y,bn,W,I,J⟩:=h.uQ (nE _) (ub _) w Pl;have r:=ya d k ⟨.out (.g l),a2⟩ (u.drawn+1);have ad:ml l=true:=(List.all_eq_true.1 (by decide:BN.all ml=true)) l W;have M:=H.rely (q:=.g l) (au:=(G.grow u.heap.size (Z.wk k)).st k ⟨.out (.g l),a2⟩) h.mem rfl rfl r Pk ad (λ_ e=>by cases e);exact cD.still (a6:=⟨.out (.g l),a2⟩) (n:=u.drawn+1) d i s4 (yf rfl rfl rfl) (J false) rfl (.out fp M.ok
   (show cn (eZ (G.bC k)) Z _ (Z.wk k) (.g l) [] y (bQ y []) _ _ _ from⟨I.on,I.le,rfl,rfl,rfl,I.mem,(h.own.rely h.mem r)⟩) (λ_=>F rfl) M.ak M.aD) (dZ.last (by have:=I.le;omega))
 |g rem=>
  rcases HL H.ok with⟨r,rfl,E⟩|⟨r,rfl,E⟩|⟨r,rfl,E⟩|⟨r,rfl,E⟩|⟨r,rfl,E⟩
  .exact qT d i h C w H F (to:=.g r) Pl E rfl rfl rfl rfl rfl λ_ e=>e
  .exact qT d i h C w H F (to:=.g r) Pl E rfl rfl rfl rfl rfl λ_ e=>e
  .exact qT d i h C w H F (to:=.g r) Pl E rfl rfl rfl rfl rfl λ_ e=>e
  .exact qT d i h C w H F (to:=.g r) Pl E rfl rfl rfl rfl rfl λ_ e=>e
  .obtain⟨V,P⟩:=w.lift (nE _) (f:=23) (args:=#[pt (G.bC k).T,.agg c8]) (cl:=four) (to:=.h (r.filter (λn=>!(n == 5)))) Pl
   have am:=F rfl;obtain⟨c,aj,T,U,Q⟩:=K0 (X:=X) d k ⟨x,r.filter (λn=>!(n == 5)),a⟩ ⟨λv=>(V v).1,h.mem,h.own,H.ak,E⟩;have ag:=ya d k ⟨.lift,a2⟩ u.drawn;have J:stepG aF false g u=.go ⟨Frame.enter aF 23 #[pt Z.z.T,.agg c8] .normal,c.base,.running,none,none⟩ u:=by obtain⟨st,off,rfl⟩:=h.shape;have:=P false [] st off u;rw[S]at this;rw[show c.base=x.1::x.2++[] by unfold LCtx.base;rw[T,U];simp[lC.base]];exact this
   exact cD.still (a6:=⟨.lift,a2⟩) (n:=u.drawn) d i s4 ⟨rfl,rfl,rfl,rfl,id,⟨λe=>(by cases e),λe=>(by cases e)⟩⟩ J rfl (.lift c rfl rfl rfl (Q.rely (dh:=(G.grow u.heap.size (Z.wk k)).st k ⟨.lift,a2⟩) rfl ag) (ds.acc Q.going.acc)) (dZ.head (Nat.lt_succ_self 2))
 |h rem v=>
  rcases HP H.ok with⟨r,rfl,E⟩|⟨r,rfl,E⟩|⟨r,rfl⟩
  .exact qT d i h C w H F (to:=.h r v) Pl E rfl rfl rfl rfl rfl λ_ e=>e
  .exact qT d i h C w H F (to:=.h r v) Pl E rfl rfl rfl rfl rfl λ_ e=>e
  .obtain⟨bn,I⟩:=h.H2 (ub _) w (to:=.snd v) (Y:=y5 (G.bC k) v) Pl
   exact BP d i (yf rfl rfl rfl) I H (λ_ e=>e) (.inr ⟨rfl,by have:=I.le;omega⟩)
 |snd v=>exact BP d i (fU.refl _) h H (λ_ e=>e) (.inr ⟨rfl,Pk⟩)
 |d0=>
  have wd:=Word.refl Z u;rw[i]at B;exact oo d i h C w H (to:=.d1) Pl (.shape R (.shape R (.nil _))) wd d.ww.T d.ww.W rfl rfl B id (λe he=>(by cases he)) rfl ⟨⟨rfl,.inr λe he=>(by cases he)⟩,λe he=>(by cases he)⟩ (.inl rfl)
 |d1=>
  rw[i]at B;refine oo d i h C w H (to:=.d2) Pl (.mark (.mark (.nil _))) (Word.refl Z u) d.ww.T d.ww.W rfl rfl B id (λe he=>?_) rfl ⟨⟨rfl,.inr λe he=>?_⟩,λe he b z=>?_⟩ (.inl rfl)
  .rw[Ps he];exact .mark rfl (by rw[o];exact eJ.2.1)
  .rw[Ps he];rfl
  .rw[Ps he]at z;cases z
 |d2=>
  rw[i]at B;refine oo d i h C w H (to:=.d3) Pl (.mark (.mark (.nil _))) (Word.refl Z u) d.ww.T d.ww.W rfl rfl B id (λe he=>?_) rfl ⟨⟨rfl,.inr λe he=>?_⟩,λe he b z=>?_⟩ (.inl rfl)
  .rw[Ps he];exact .mark rfl trivial
  .rw[Ps he];rfl
  .rw[Ps he]at z;cases z
 |d3=>
  have iW:=K i rfl;rw[i,iW]at B;have add:∀{L n:Int} {to:gR},G.v=L->Edge.fix true false [.val (.int .u64 L)] (pd (G.bC k).W L n) to∈(eZ (G.bC k)).cq .d3->l5 to=true->(⟨.out to,a2⟩:bZ).deaf=1->dM true (nA to) (G.s (!k)).cy G.k.ph=some (n,G.m)->cD X Z G k g u t (if gC .d3 then 3 else 1,fp,N*500+j):=by
   intro L n to D he ae aa wg;refine oo d i h C w H he (.mark (.load (by rw[o];exact d.ww.fz D) (.store (by rw[o];exact d.ww.fz D) (by rw[o];exact d.ww.nZ 0) (.nil _)))) (Word.set 0 _ (.inr o)) (by rw[o];exact Word.jk d 0 _) (by rw[o];exact Word.dt d rfl) rfl ae (by rw[iW];exact wg) (λe=>by cases e) (λe he=>?_) aa.symm.symm ⟨⟨rfl,.inl Nat.one_pos⟩,λe he b z=>?_⟩ (.inl rfl)
   .have he:e∈[(⟨.cell (fj (G.bC k).W),false,true⟩:Event),⟨.cell (fj (G.bC k).W),true,true⟩]:=he
    rw[o]at he;simp only[List.mem_cons,PD,or_false]at he;rcases he with rfl|rfl<;>exact .wg
   .have he:e∈[(⟨.cell (fj (G.bC k).W),false,true⟩:Event),⟨.cell (fj (G.bC k).W),true,true⟩]:=he
    rw[o]at he;simp only[List.mem_cons,PD,or_false]at he;rcases he with rfl|rfl<;>(cases z;exact⟨_,rfl,rfl⟩)
  rcases OM B with⟨D,wg⟩|⟨D,wg⟩|⟨D,wg⟩|⟨D,wg⟩
  .exact add D (.head _) rfl rfl wg
  .exact add D (.tail _ (.head _)) rfl rfl wg
  .exact add D (.tail _ (.tail _ (.head _))) rfl rfl wg
  .exact add D (.tail _ (.tail _ (.tail _ (.head _)))) rfl rfl wg
 |d4=>
  have iW:=K i rfl;rw[i,iW]at B;obtain⟨D,wg⟩:=OO B;refine oo d i h C w H (to:=.d5) Pl (.mark (.load (by rw[o];exact d.ww.fz D) (.nil _))) (Word.refl Z u) d.ww.T (by rw[<-D]at wg;exact d.ww.W) rfl rfl (by rw[iW,D];exact wg) id (λe he=>?_) rfl ⟨⟨rfl,.inl Nat.one_pos⟩,λe he b z=>?_⟩ (.inl rfl)
  .rw[Ps he,o];exact .wg
  .rw[Ps he,o]at z;cases z;exact⟨_,rfl,rfl⟩
 |d5=>
  have iW:=K i rfl;rw[i,iW]at B;have wg:=OP B;refine oo d i h C w H (to:=.d7) Pl (.mark (.store (by rw[o];exact d.ww.fz rfl) (by rw[o];exact d.ww.nZ 0) (.nil _))) (Word.set 0 _ (.inr o)) (by rw[o];exact Word.jk d 0 _) (by rw[o];exact Word.dt d rfl) rfl rfl (by rw[iW];exact wg) id (λe he=>?_) rfl ⟨⟨rfl,.inl Nat.one_pos⟩,λe he b z=>?_⟩ (.inl rfl)
  .rw[Ps he,o];exact .wg
  .rw[Ps he,o]at z;cases z;exact⟨_,rfl,rfl⟩
 |d7=>
  have iW:=K i rfl;rw[i,iW]at B;obtain⟨hm,wg⟩:=OQ B;refine oo d i h C w H (to:=.d6) Pl (.mark (.mark (.load (by rw[o];exact d.ww.eU hm) (.store (by rw[o];exact d.ww.eU hm) (by rw[o];exact d.ww.nZ 1) (.mark (.nil _)))))) (Word.set 1 _ (.inr o)) (by rw[o];exact Word.jk d 1 _) (by rw[o];exact Word.dt d rfl) rfl rfl (by rw[iW];exact wg) id (λe he=>?_) rfl ⟨⟨rfl,.inl Nat.one_pos⟩,λe he b z=>?_⟩ (.inr (.inr rfl))
  .have he:e∈[(⟨.mark .disable,false,true⟩:Event),⟨.cell (gS (G.bC k).W),false,true⟩,⟨.cell (gS (G.bC k).W),true,true⟩,⟨.mark .enable,false,true⟩]:=he
   rw[o]at he;simp only[List.mem_cons,PD,or_false]at he;rcases he with rfl|rfl|rfl|rfl
   .exact .mark rfl trivial
   .exact .wg
   .exact .wg
   .exact .mark rfl trivial
  .have he:e∈[(⟨.mark .disable,false,true⟩:Event),⟨.cell (gS (G.bC k).W),false,true⟩,⟨.cell (gS (G.bC k).W),true,true⟩,⟨.mark .enable,false,true⟩]:=he
   rw[o]at he;simp only[List.mem_cons,PD,or_false]at he;rcases he with rfl|rfl|rfl|rfl<;>(cases z;try exact⟨_,rfl,rfl⟩)
 |d6=>
  rw[i]at B;refine oo d i h C w H (to:=.fin) Pl (.mark (.mark (.nil _))) (Word.refl Z u) d.ww.T d.ww.W rfl rfl B id (λe he=>?_) rfl ⟨⟨rfl,.inr λe he=>?_⟩,λe he b z=>?_⟩ (.inl rfl)
  .rw[Ps he];exact .mark rfl trivial
  .rw[Ps he];rfl
  .rw[Ps he]at z;cases z
 |fin=>
  obtain⟨_,P⟩:=w.done Pl;obtain⟨st,off,rfl⟩:=h.shape;have af:x.2 = []:=(w.done Pl).1;exact .fin (by rw[af];exact P false st off u) (by rw[i])
end
section
variable{X:dJ}{Z:Stat}[gh X Z]{G au:bI}{u ay w:World}{t a':Trace}{k:Bool}{g g':Goroutine}{s a6:bZ}{a2:Bool}{ρ ai:Ren}{V b6:cY}{aG dc:World}{aL:Tape}
def Ck{i:Nat}(h:lG X Z G i ρ V){b c:Nat}(f:ρ.r b c)(l:¬hY V.w b):fO Z G i c:=by
 rcases h.own b c f with⟨g,d,j⟩|⟨_,d⟩
 .exact⟨⟨g,(h.fq b c f).1,(h.fq b c f).2.1⟩,d,j⟩
 .exact absurd d l
def Ag(C:Base Z G u t)(h:lG X Z G (Z.wk k) ρ V)(J:gb ρ V.w u)(E:Eff ρ ai (c9 V.w aL) dc u aG)(Q:gb ai dc aG)(D:b6.w=dc)(a6:bZ):
 Calm u aG/\(∀b,b<u.heap.size->aG.heap[b]?≠u.heap[b]?->fO Z G (Z.wk k) b)/\(∀e,fe ai V.w e->j3 Z ((G.grow u.heap.size (Z.wk k)).st k a6) t (Z.wk k) aG.heap.size e)/\lG X Z ((G.grow u.heap.size (Z.wk k)).st k a6) (Z.wk k) ai b6:=by
 have eJ:=C.eJ;have r:∀b aA,ai.r b aA->ρ.r b aA\/(V.w.heap.size<=b/\u.heap.size<=aA):=λb aA x=>E.new b aA x
 have F:∀b,b<u.heap.size->((G.grow u.heap.size (Z.wk k)).st k a6).bO b=G.bO b:=λb d=>if_pos d
 have own:∀b,¬b<u.heap.size->((G.grow u.heap.size (Z.wk k)).st k a6).bO b=Z.wk k:=λb d=>if_neg d
 have old:∀{b aA},ρ.r b aA->aA<u.heap.size:=λx=>J.floor _ _ x
 have p:∀aA,u.heap.size<=aA->fO Z ((G.grow u.heap.size (Z.wk k)).st k a6) (Z.wk k) aA:=λaA d=>⟨⟨by omega,by omega,by omega⟩,own aA (by omega),λi _ P=>absurd (C.mz i aA P) (by omega)⟩
 have R:∀{aA},aA<u.heap.size->fO Z G (Z.wk k) aA->fO Z ((G.grow u.heap.size (Z.wk k)).st k a6) (Z.wk k) aA:=λd h=>⟨h.1,(F _ d).trans h.2.1,h.2.2⟩
 refine⟨⟨E.size,E.tape,E.output,by rw[E.os];exact Go.ConcM.OsLater.refl _⟩,λaA d L=>?_,λe he=>?_,⟨λb aA x=>?_,λb aA x=>?_,?_,E.le.sub _ _ h.sB,E.le.sub _ _ h.uS,E.le.exact.trans h.inexact,h.fits.mono E.le⟩⟩
 .refine Classical.byContradiction λhm=>L (Classical.byContradiction λw=>?_)
  by_cases o:∃b,ρ.r b aA
  .obtain⟨b,o⟩:=o
   by_cases l:hY V.w b
   .exact w (E.guard b aA o l).2
   .exact hm (Ck h o l)
  .exact w (E.out aA d λb M=>o ⟨b,M⟩)
 .have lt:∀{b aA},ai.r b aA->aA<aG.heap.size:=λx=>Q.floor _ _ x
  have H:∀{b aA:Nat},ai.r b aA->(blk (.obj aA)≠Z.W/\aA≠Z.ch)/\(fO Z ((G.grow u.heap.size (Z.wk k)).st k a6) (Z.wk k) aA\/(G.ro (Z.wk k) aA/\hY V.w b/\ρ.r b aA)):=λ{b aA} x=>by
   rcases r b aA x with y|⟨_,y⟩
   .refine⟨⟨(h.fq b aA y).1,(h.fq b aA y).2.1⟩,?_⟩
    rcases h.own b aA y with⟨f,c,z⟩|⟨f,c⟩
    .exact .inl (R (old y) ⟨⟨f,(h.fq b aA y).1,(h.fq b aA y).2.1⟩,c,z⟩)
    .exact .inr ⟨f,c,y⟩
   .exact⟨(p aA y).1.2,.inl (p aA y)⟩
  cases he with
  |@cell b q d wr T l K=>
   obtain⟨fq,j⟩:=H d;refine .mem rfl (lt d) (λ_=>⟨q,rfl⟩) fq (λg=>?_) ?_
   .have g:q.block=Z.z.T:=g
    rcases r b q.block d with y|⟨_,y⟩
    .rw[g]at y
     have I:=(h.fq _ _ y).2.2 rfl;subst I;obtain⟨f,c⟩:=K _ _ _ h.T Pk;obtain⟨ab,B,S⟩:=q;dsimp only at g f c;subst g;subst c;exact .inr ⟨B,rfl,by have:B<2:=f;omega⟩
    .omega
   .rcases j with j|⟨f,c,_⟩
    .exact .inl j
    .refine .inr ⟨.inl f,?_⟩
     cases wr with
     |true=>exact absurd c (l rfl)
     |false=>rfl
  |@obj b aA d wr l=>
   obtain⟨fq,j⟩:=H d;refine .mem rfl (lt d) (λw=>by cases w) fq (λg=>?_) ?_
   .have g:aA=Z.z.T:=g
    exact .inl (by rw[g])
   .rcases j with j|⟨f,c,_⟩
    .exact .inl j
    .refine .inr ⟨.inl f,?_⟩
     cases wr with
     |true=>exact absurd c (l rfl)
     |false=>rfl
  |mark hm=>exact .mark hm
 .rcases r b aA x with y|⟨_,y⟩
  .exact h.fq b aA y
  .exact⟨by omega,by omega,λe=>by omega⟩
 .rcases r b aA x with y|⟨_,y⟩
  .rcases h.own b aA y with⟨f,c,z⟩|⟨f,c⟩
   .exact .inl ⟨f,(F aA (old y)).trans c,z⟩
   .refine .inr ⟨f,?_⟩
    rw[D];exact c.of_eq (E.guard b aA y c).1
  .exact .inl ⟨(p aA y).1.1,(p aA y).2.1,(p aA y).2.2⟩
 .rw[D]
  exact(E.guard _ _ h.sB ⟨_,_,_,h.T,Pk⟩).1.trans h.T
def nN{a b c d:Value}(l:Array Value){i:Nat}(h:i<4):(#[a,b,c,d]++l)[i]?=#[a,b,c,d][i]?:=Array.getElem?_append_left (by simpa using h)
def Cd{v E:Value}{i:Nat}(hF:Fits X.Q ai)(C:lG X Z G i ai V)(T:gb ai V.w w)(P:X.R v V.w)(D:aM ai v E):∃r,E=four r/\jh Z G i w r:=by
 obtain⟨b,c,l,rfl,q,Q⟩:=X.res v V.w P;unfold four at D;cases D with
 |@slice a F h _ _=>
  obtain⟨o,ag,q1,Y,aa⟩:=T.obj _ _ h.block;rw[q]at q1;cases q1;obtain⟨ab,H,I⟩:=F;have K:(0:Nat)=H:=h.off;have L:(none:Option Nat)=I:=h.spot;subst K;subst L;cases aa with
  |@cells _ d _ _ f p J R=>
   have j:(#[ad 2,ad 3,ad 5,ad 6]++l).size<=d.size:=by rcases p with p|⟨p,_⟩<;>omega
   have S:f=(0,0):=uF R (by simp;omega);subst S;have g:∀(i:Nat) (n:Int),(#[ad 2,ad 3,ad 5,ad 6]++l)[i]?=some (ad n)->d[i]?=some (ad n):=λi n z=>by have B:i<d.size:=Px (bp z) j;have:=J i _ _ z (Pu B);rw[Pu B];generalize d[i]=y at this;cases this;rfl
   have d0:=g 0 2 (by rw[nN l (by omega)];rfl);have d1:=g 1 3 (by rw[nN l (by omega)];rfl);have d2:=g 2 5 (by rw[nN l (by omega)];rfl);have d3:=g 3 6 (by rw[nN l (by omega)];rfl);have hd:d=#[ad 2,ad 3,ad 5,ad 6]++d.extract 4 d.size:=by
    apply Array.ext_getElem?;intro i;have af:4<=d.size:=by have:=j;simp at this;omega
    rcases i with _|_|_|_|i
    .rw[d0,nN _ (by omega)];rfl
    .rw[d1,nN _ (by omega)];rfl
    .rw[d2,nN _ (by omega)];rfl
    .rw[d3,nN _ (by omega)];rfl
    .rw[Array.getElem?_append_right (by simp)]
     rw[Array.getElem?_extract];simp only[Nat.min_self];have e:i+1+1+1+1-(#[ad 2,ad 3,ad 5,ad 6]:Array Value).size=i:=by simp
     rw[e];split
     .rw[Nat.add_comm 4 i]
     .rw[Array.getElem?_eq_none (by omega)]
   have fq:=C.fq _ _ h.block;have W:¬hY V.w b:=by rintro⟨bo,ae,N,u,M⟩;rw[q]at u;cases u;simp at M
   have hm:=Ck C h.block W;refine⟨(ab,c),rfl,⟨d.extract 4 d.size,by rw[Y];exact congrArg some (by rw[<-hd]),?_⟩,hm.1,hm.2.1⟩;rw[Q,Array.size_extract];have U:=j;simp at U;simp at j;omega
end
section
variable{X:dJ}{Z:Stat}[gh X Z]{G au:bI}{u ay w:World}{t a':Trace}{k:Bool}{g g':Goroutine}{s a6:bZ}{a2:Bool}{ρ ai:Ren}{V b6:cY}{aG dc:World}{aL:Tape}
def Bi(es:Array Event):es.toList.toArray=es:=by simp
def Lk{l:Nat}(h:l<14):fU ⟨.lift,a2⟩ ⟨.eK l,a2⟩:=⟨rfl,rfl,rfl,rfl,λe=>(by have e:decide (14<=l)=true:=e;have:=of_decide_eq_true e;omega),⟨λe=>(by cases e),λe=>(by cases e)⟩⟩
def Iq(z:Base Z G u t)(ae:G.s k=⟨.lift,a2⟩)(c:LCtx)(H:g.callers=c.base)(ao:g.dying=none)(h:c.qb X Z G k g.frame u)(L:Acc (ds X.Q) c.V):cD X Z G k g u t (2,⟨c.V,L⟩,0):=by
 obtain⟨fr,aX,st,aY,off⟩:=g;dsimp only at H ao h;subst H;subst ao;have ag:(⟨.lift,a2⟩:bZ).c≠.un:=by intro e;cases e
 have aa:=h.o;by_cases au:c.V.stop
 .obtain⟨v,a5,ai,aG,es,al,B,aZ,aK,a0,af,E,aP,M⟩:=xZ (base:=c.o.base) X.S h.going h.self h.pair au false st off
  have C:=aP.hrel;have w:=Ag z h.jV h.pair.heap E C (b6:=c.V.gm (gF c.V.w u)) rfl;have aj:Fits X.Q ai:=h.pair.fit.fits.mono E.le;obtain⟨r,rfl,_⟩:=Cd (G:=(G.grow u.heap.size (Z.wk k)).st k ⟨.lift,a2⟩) (i:=Z.wk k) (V:=c.V.gm (gF c.V.w u)) aj ((w ⟨.lift,a2⟩).2.2.2) C al B;obtain⟨calm,keep,cB,J⟩:=w ⟨.out (.h c.o.rem r),a2⟩;obtain⟨F,aN,aO⟩:=Cd (V:=c.V.gm (gF c.V.w u)) aj J C al B;have:F=r:=by
   have e:=aN;unfold four at e;injection e with q ah az
   injection q with q
   injection q with q
   exact(Prod.ext q az).symm
  subst this;have Q:iE Z G ((G.grow u.heap.size (Z.wk k)).st k ⟨.out (.h c.o.rem F),a2⟩) (Z.wk k) 0 u aG:=ov z calm (λb p D=>⟨keep b p D,Nat.zero_le _⟩) (λb p=>if_pos p) rfl;obtain⟨aR,aS,aT,aU,aV⟩:=aa.rely (dh:=(G.grow u.heap.size (Z.wk k)).st k ⟨.out (.h c.o.rem F),a2⟩) rfl Q;have W:c.base=c.cs++c.o.base:=rfl;have P:stepG aF false ⟨fr,c.base,st,none,off⟩ u=.go ⟨c.o.x.1.finish (four F),c.o.x.2,.running,none,none⟩ aG es.toList.toArray:=by rw[W,af,Bi];simp[lC.base,doReturn,aK,GStep.after]
  exact cD.kI (a6:=⟨.out (.h c.o.rem F),a2⟩) (l:=es.toList) z ae ag ⟨rfl,rfl,rfl,rfl,(λe=>by cases e),⟨λe=>(by cases e),λe=>(by cases e)⟩⟩ P rfl calm keep (λe he=>cB e (M e (by simpa using he))) (λe=>by cases e)
   (.out ⟨c.V,L⟩ aV ⟨aR F,Pk,rfl,by simp,rfl,aS,aT⟩ (λe=>by cases e) aU (λv e=>by cases e;exact aO)) (dZ.head (Nat.lt_succ_self 1))
 .obtain⟨b6,ai,T,R,aG,es,af,B,U,am,E,M,ar⟩:=BU (base:=c.o.base) X.S X.eo X.H h.going h.self h.pair au (λ_ id ops a4 d k a1 _ _ h=>absurd h (X.cJ _ _ _)) false st off
  have C:gb ai b6.w aG:=by
   rcases ar with h|h
   .exact h.heap
   .exact h.heap
  have w:=Ag z h.jV h.pair.heap E C rfl;have W:c.base=c.cs++c.o.base:=rfl;have Q:∀a6,iE Z G ((G.grow u.heap.size (Z.wk k)).st k a6) (Z.wk k) 0 u aG:=λa6=>ov z (w a6).1 (λb p D=>⟨(w a6).2.1 b p D,Nat.zero_le _⟩) (λb p=>if_pos p) rfl
  have P:stepG aF false ⟨fr,c.base,st,none,off⟩ u=.go ⟨T,R++c.o.base,.running,none,none⟩ aG es.toList.toArray:=by rw[W,af,Bi]
  rcases ar with aM|he
  .have a6:bZ:=⟨.lift,a2⟩
   obtain⟨calm,keep,cB,J⟩:=w ⟨.lift,a2⟩;exact cD.kI (a6:=⟨.lift,a2⟩) (l:=es.toList) z ae ag (fU.refl _) P rfl calm keep (λe he=>cB e (M e (by simpa using he))) (λe=>by cases e)
    (.lift (a2:=a2) (fr:=T) ⟨b6,ai,R,c.o⟩ rfl rfl rfl ⟨U,am,aM,J,aa.rely (dh:=(G.grow u.heap.size (Z.wk k)).st k ⟨.lift,a2⟩) rfl (Q _)⟩ (L.inv (.one B))) (dZ.mid (.one B))
  .obtain⟨f,a,b,kind,aJ,Y,aH,q,ah,aI⟩:=he.fr
   obtain rfl:=X.fn f aJ;obtain⟨aA,S,aE,aD⟩:∃c3 S,b6.cs=c3::S/\Kept c3:=by
    have D:=he.some;have H:=he.cs;generalize b6.cs=l at D H;cases H with
    |nil=>exact absurd rfl D
    |@cons x y l m aQ aq=>
     refine⟨x,l,rfl,λe a3 hm=>?_⟩;have:=aQ.mode;rw[hm]at this;generalize y.mode=a7 at this;cases this with
     |panicking aq=>
      cases aq with
      |cons I _=>exact I.recovered.1
   obtain⟨rfl,_⟩:=X.stub b6 U a kind aA S Y (aI 2 X.dy.1) q aE aD;obtain⟨calm,keep,cB,J⟩:=w ⟨.eK 0,a2⟩;have p:b=#[pt Z.z.T,ad 0]:=by
    obtain⟨av,ap⟩:=aH;have av:b.size=2:=av.symm;have ak:=ap 0 _ _ rfl (Pu (by omega:0<b.size));have K:=ap 1 _ _ rfl (Pu (by omega:1<b.size));have aW:b[0]=pt Z.z.T:=by
     generalize b[0]=y at ak;cases ak with
     |@ptr _ aw I=>
      obtain⟨ab,ax,ay⟩:=aw;have K:(0:Nat)=ax:=I.off;have aB:(none:Option Nat)=ay:=I.spot;have aC:ai.r X.ha ab:=I.block;subst K;subst aB;have:=ai.fwd aC (E.le.sub _ _ h.jV.sB);subst this;rfl
    have q1:b[1]=ad 0:=by generalize b[1]=y at K;cases K;rfl
    apply Array.ext_getElem?;intro i;rcases i with _|_|i
    .rw[Pu (by omega:0<b.size),aW];rfl
    .rw[Pu (by omega:0+1<b.size)]
     show some b[1]=_;rw[q1];rfl
    .rw[Array.getElem?_eq_none (by omega),Array.getElem?_eq_none (by simp)]
   subst p;have aL:=KD Z.z.T kind Y;refine cD.kI (a6:=⟨.eK 0,a2⟩) (l:=es.toList) z ae ag (Lk (by decide)) P rfl calm keep (λe he=>cB e (M e (by simpa using he))) (λe=>by cases e)
    (.eK (n:=40) (j:=400) (x:=(T,[])) ⟨b6,ai,R,c.o⟩ kind 0 0 0 [] [] aG.heap.size rfl (λi b o e=>by simp at e) C.floor Pk (λ_=>rfl)
     ⟨U,am,Y,q,he.some,he.cs,he.fit,he.room,C,J,aa.rely (dh:=(G.grow u.heap.size (Z.wk k)).st k ⟨.eK 0,a2⟩) rfl (Q _)⟩ (L.inv (.one B)) ⟨⟨_,aL,by rw[ah];rfl⟩,Pk,rfl,rfl,rfl,⟨λi _ _ _ e=>?_,λi _ _ _ _ _ _ _ e=>?_⟩,λi _ _ _ e=>?_⟩) (dZ.mid (.one B))
   .have e:([]:Mem)[i]?=_:=e
    simp at e
   .have e:([]:Mem)[i]?=_:=e
    simp at e
   .have e:([]:Mem)[i]?=_:=e
    simp at e
end
section
variable{X:dJ}{Z:Stat}[gh X Z]{G au:bI}{u ay w:World}{t a':Trace}{k:Bool}{g g':Goroutine}{s a6:bZ}{a2:Bool}{ρ ai:Ren}{V b6:cY}{aG dc:World}{aL:Tape}{kd:CallKind}{x y:bs}{n j cM bn l aH:Nat}{rem jU:List Nat}{bz bA cL nR nO nP bh:Nat}{M bR:Mem}
def zD{P:Program}{ext:Ext}{x:bs}{y:FuncId×Array Value}(h:qi P ext x=some y):x.1.mode=.run:=by
 unfold qi at h;split at h
 .assumption
 .assumption
 .cases h
def At.Bf{Pos:Type}{A:cS Pos}{n:Nat}{p:Pos}{x:bs}(h:At A n p x){f:FuncId}{args:Array Value}{α:Type}{cl:α->Value}{to:α->Pos}(he:Edge.lift f args cl to∈A.cq p):x.1.mode=.run:=by obtain⟨z,d,rfl⟩:=h;obtain⟨c,_⟩:=g2.mem d _ he;exact zD c
def sj{c:Frame}(h:c.mode=.run):Kept c:=λe d hm=>by rw[h]at hm;cases hm
def ru(T:Nat)(kd:CallKind):dk (hn T kd).P (hn T kd).ext:=by unfold hn;exact iQ
def ua(T:Nat)(kd:CallKind)(p:rH):(hn T kd).dA p<=400:=Pk
def Lj(h:14<=aH->14<=l):fU ⟨.eK l,a2⟩ ⟨.eK aH,a2⟩:=⟨rfl,rfl,rfl,rfl,λe=>decide_eq_true (h (of_decide_eq_true e)),⟨λe=>(by cases e),λe=>(by cases e)⟩⟩
def y2:(⟨.eK l,a2⟩:bZ).c≠.un:=by intro h;cases h
structure nI(X:dJ)(Z:Stat)(G:bI)(k:Bool)(u:World)(c:LCtx)(kd:CallKind)(bh:Nat):Prop where
 wait:c.qd X Z G k kd u
 b4:∀b aA,c.ρ.r b aA->aA<bh
 dA:bh<=u.heap.size
def sF{bx:List Event}(f:Base Z G u t)(z:G.s k=⟨.eK l,a2⟩)(c:LCtx)(H:nI X Z G k u c kd bh)(h:Acc (ds X.Q) c.V)(q:14<=aH->14<=l)(B:stepG aF false g u=.go (bQ y c.base) ay bx.toArray)(calm:Calm u ay)(keep:∀b,b<u.heap.size->ay.heap[b]?≠u.heap[b]?->fO Z G (Z.wk k) b/\bh<=b)(cB:∀e∈bx,j3 Z ((G.grow u.heap.size (Z.wk k)).st k ⟨.eK aH,a2⟩) t (Z.wk k) ay.heap.size e)(ok:lk aH jU=true)(p:∀(i:Nat) b o,bR[i]?=some (true,b,o)->bh<=b)(j:aH<=16->bR=np Z.z.T nR nO nP aH)(C:cn (hn Z.z.T kd) Z ((G.grow u.heap.size (Z.wk k)).st k ⟨.eK aH,a2⟩) (Z.wk k) ⟨aH,jU,nR,nO,nP,bR⟩ c.base y (bQ y c.base) ay cM bn)(r:cM*500+bn<n):
 cD X Z G k g u t (2,⟨c.V,h⟩,n*10000000000):=by
 have D:iE Z G ((G.grow u.heap.size (Z.wk k)).st k ⟨.eK aH,a2⟩) (Z.wk k) bh u ay:=ov f calm keep (λb d=>if_pos d) rfl;exact cD.kI (a6:=⟨.eK aH,a2⟩) f z y2 (Lj q) B rfl calm (λb d w=>(keep b d w).1) cB (λe=>by cases e)
  (.eK c kd nR nO nP bR jU bh ok p H.b4 (Po H.dA calm.size) j (H.wait.rely (dh:=(G.grow u.heap.size (Z.wk k)).st k ⟨.eK aH,a2⟩) rfl D H.b4) h C) (dZ.last (Nat.mul_lt_mul_of_pos_right r (Nat.zero_lt_succ _)))
def Kz(h:lk l rem=true):l=0\/l=1\/l=2\/l=3\/(l=4/\(rem = []\/(∃r,rem=0::r/\lk 4 r=true)\/∃r,rem=1::r/\lk 4 r=true))\/l=14\/(l=15/\(rem = []\/(∃r,rem=0::r/\lk 15 r=true)\/∃r,rem=1::r/\lk 15 r=true))\/l=16\/l=17:=by
 have two:∀rem:List Nat,rem.all (· < 2)=true->(rem = []\/(∃r,rem=0::r/\r.all (· < 2)=true)\/∃r,rem=1::r/\r.all (· < 2)=true):=by
  intro rem h;rcases rem with _|⟨a,r⟩
  .exact .inl rfl
  .simp only[List.all_cons,Bool.and_eq_true,decide_eq_true_eq]at h
   obtain⟨d,c⟩:=h;rcases a with _|_|a
   .exact .inr (.inl ⟨r,rfl,c⟩)
   .exact .inr (.inr ⟨r,rfl,c⟩)
   .omega
 unfold lk at h;split at h
 .exact .inl rfl
 .exact .inr (.inl rfl)
 .exact .inr (.inr (.inl rfl))
 .exact .inr (.inr (.inr (.inl rfl)))
 .exact .inr (.inr (.inr (.inr (.inr (.inl rfl)))))
 .exact .inr (.inr (.inr (.inr (.inr (.inr (.inr (.inl rfl)))))))
 .exact .inr (.inr (.inr (.inr (.inr (.inr (.inr (.inr rfl)))))))
 .exact .inr (.inr (.inr (.inr (.inl ⟨rfl,two rem h⟩))))
 .exact .inr (.inr (.inr (.inr (.inr (.inr (.inl ⟨rfl,two rem h⟩))))))
 .cases h
def NA(ρ:Ren):aM ρ gX gX:=by
 unfold gX;refine .agg rfl λi x y c d=>?_
 rw[c]at d;cases d;rcases i with _|_|_|_|_|i<;>simp at c<;>subst c<;>exact .int _ _
def Base.a7(c:Base Z G u t)(h:G.aU=true):G.a7=true:=by have:=c.bT.once;rw[this.a7];unfold sW;rw[<-this.aU,h];rfl
def Base.done(h:G.aU=true):ef Z G=.done:=by unfold ef;rw[h];rfl
def Base.cells(d:Base Z G u t)(h:G.aU=true)(o:Nat)(v:Value)(c:(jx true)[o]?=some v):u.cell? ⟨Z.z.T,13+o,none⟩=some v:=by
 refine d.ww.qh ?_;rw[d.a7 h];unfold jx at c;rcases o with _|_|_|_|_|o
 all_goals simp at c
 all_goals (subst c;simp[dW,jx])
end
end Go.aN
