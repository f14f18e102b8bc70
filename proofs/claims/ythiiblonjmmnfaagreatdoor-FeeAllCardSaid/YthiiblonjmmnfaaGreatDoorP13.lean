/- Part 14 of a law on fees: no conditions. -/
import Derived.Test.YthiiblonjmmnfaaGreatDoorP12
set_option maxHeartbeats 8000000
set_option maxRecDepth 100000
set_option linter.all false
namespace Go.aN
attribute [-simp] Go.Sem.runT_eq
open Go.Proofs Go.Conc Go.ConcN
section
variable{X:dJ}{Z:Stat}[gh X Z]{G au:bI}{u ay w:World}{t a':Trace}{k:Bool}{g g':Goroutine}{s a6:bZ}{a2:Bool}{x y:bs}{n j cM bn l aH a:Nat}{rem jU:List Nat}{M bR:Mem}
noncomputable abbrev hx(z:dr):cS pY:=tH z
def rr(z:dr):dk (hx z).P (hx z).ext:=by unfold hx tH;exact iQ
def r9(z:dr)(p:pY):(hx z).dA p<=400:=Pk
def vC:(⟨.c7 l,a2⟩:bZ).c≠.un:=by intro h;cases h
def zS(h:l<49):(⟨.c7 l,false⟩:bZ).role=.I:=if_pos h
def Li(h:l<49)(c:aH<49):fU ⟨.c7 l,false⟩ ⟨.c7 aH,false⟩:=⟨(zS c).trans (zS h).symm,rfl,rfl,rfl,id,⟨λe=>(by cases e),λe=>(by cases e)⟩⟩
def tI{bx:List Event}(j:Base Z G u t)(E:G.s k=⟨.c7 l,false⟩)(c:gL)(bh:Nat)(w:∀b f,c.ρ.r b f->f<bh)(r:∀(i:Nat) own b o,c.M[i]?=some (own,b,o)->b<bh)(B:bh<=u.heap.size)(h:c.Ok X Z G k 4 u)(p:Acc (ds X.Q) c.V)(q:l<49/\aH<49)(F:stepG aF false g u=.go (bQ y c.hL) ay bx.toArray)(calm:Calm u ay)(keep:∀b,b<u.heap.size->ay.heap[b]?≠u.heap[b]?->fO Z G (Z.wk k) b/\bh<=b)(cB:∀e∈bx,j3 Z ((G.grow u.heap.size (Z.wk k)).st k ⟨.c7 aH,false⟩) t (Z.wk k) ay.heap.size e)(ok:nW aH jU=true)(z:∀(i:Nat) b o,bR[i]?=some (true,b,o)->bh<=b)(H:cn (hx Z.z) Z ((G.grow u.heap.size (Z.wk k)).st k ⟨.c7 aH,false⟩) (Z.wk k) ⟨aH,jU,bR⟩ c.hL y (bQ y c.hL) ay cM bn)(C:cM*500+bn<n):
 cD X Z G k g u t (2,⟨c.V,p⟩,(c.nr*500+450)*10000000000+(c.bJ*500+450)*100000+n):=by
 have I:iE Z G ((G.grow u.heap.size (Z.wk k)).st k ⟨.c7 aH,false⟩) (Z.wk k) bh u ay:=ov j calm keep (λb d=>if_pos d) rfl;exact cD.kI (a6:=⟨.c7 aH,false⟩) j E vC (Li q.1 q.2) F rfl calm (λb d D=>(keep b d D).1) cB (λe=>by cases e)
  (.c7 c bh ok z w r (Po B calm.size) (h.rely (dh:=(G.grow u.heap.size (Z.wk k)).st k ⟨.c7 aH,false⟩) rfl I w r) p H) (dZ.last (o1 _ _ _ C))
def ec(z:Base Z G u t)(L:G.s k=⟨.c7 l,false⟩)(c:gL)(bh:Nat)(p:∀(i:Nat) b o,M[i]?=some (true,b,o)->bh<=b)(I:∀b d,c.ρ.r b d->d<bh)(H:∀(i:Nat) own b o,c.M[i]?=some (own,b,o)->b<bh)(E:bh<=u.heap.size)(h:c.Ok X Z G k 4 u)(f:Acc (ds X.Q) c.V)(Q:cn (hx Z.z) Z G (Z.wk k) ⟨l,rem,M⟩ c.hL x g u n j)(J:n=a+1)(B:At (hx Z.z) a ⟨l,rem,M⟩ x){ops:List gO}(he:Edge.bH ops ⟨aH,jU,bR⟩∈(hx Z.z).cq ⟨l,rem,M⟩)(F:l<49/\aH<49)(ok:nW aH jU=true):
 cD X Z G k g u t (2,⟨c.V,f⟩,(c.nr*500+450)*10000000000+(c.bJ*500+450)*100000+(n*500+j)):=by
 subst J;obtain⟨y,ay,bx,bn,q,P,calm,keep,cB,D⟩:=Q.bH (au:=(G.grow u.heap.size (Z.wk k)).st k ⟨.c7 aH,false⟩) (t:=t) (rr _) (r9 _) B he (λb=>rfl) rfl;refine tI z L c bh I H E h f F (P false) calm (λb C K=>?_) cB ok (λi b o e=>?_) q (by have:=q.le;omega)
 .obtain⟨w,i,o,e⟩:=keep b C K
  exact⟨w,p i b o e⟩
 .obtain⟨R,r⟩:=D i true b o e
  exact p i b R r
def wD(d:Base Z G u t)(K:G.s k=⟨.c7 l,false⟩)(c:gL)(bh:Nat)(D:∀(i:Nat) b o,M[i]?=some (true,b,o)->bh<=b)(H:∀b p,c.ρ.r b p->p<bh)(F:∀(i:Nat) own b o,c.M[i]?=some (own,b,o)->b<bh)(w:bh<=u.heap.size)(h:c.Ok X Z G k 4 u)(r:Acc (ds X.Q) c.V)(P:cn (hx Z.z) Z G (Z.wk k) ⟨l,rem,M⟩ c.hL x g u n j)(I:n=a+1)(B:At (hx Z.z) a ⟨l,rem,M⟩ x){o:Obj}{to:Nat->pY}(he:Edge.new true o to∈(hx Z.z).cq ⟨l,rem,M⟩)(Q:to u.heap.size=⟨aH,[],M++[(true,u.heap.size,o)]⟩)(E:l<49/\aH<49)(ok:nW aH []=true):
 cD X Z G k g u t (2,⟨c.V,r⟩,(c.nr*500+450)*10000000000+(c.bJ*500+450)*100000+(n*500+j)):=by
 subst I;obtain⟨y,ay,bn,f,L,calm,keep,S⟩:=P.xK (au:=(G.grow u.heap.size (Z.wk k)).st k ⟨.c7 aH,false⟩) (rr _) (r9 _) B he (λb=>rfl) rfl d.mz d.eJ;rw[Q]at f;refine tI (bx:=[]) d K c bh H F w h r E (L false) calm (λb C J=>absurd (keep b C) J) (λe he=>(by cases he)) ok (λi b R e=>?_) f (by have:=f.le;omega);rcases Nat.lt_or_ge i M.length with aj|aj
 .rw[PF aj]at e
  exact D i b R e
 .rw[PE aj]at e
  rcases z:i-M.length with _|q
  .rw[z]at e
   simp at e;rw[<-e.1];exact w
  .rw[z]at e;simp at e
def zV(d:Base Z G u t)(K:G.s k=⟨.c7 l,false⟩)(c:gL)(bh:Nat)(B:∀(i:Nat) b o,M[i]?=some (true,b,o)->bh<=b)(F:∀b p,c.ρ.r b p->p<bh)(E:∀(i:Nat) own b o,c.M[i]?=some (own,b,o)->b<bh)(C:bh<=u.heap.size)(h:c.Ok X Z G k 4 u)(q:Acc (ds X.Q) c.V)(f:cn (hx Z.z) Z G (Z.wk k) ⟨l,rem,M⟩ c.hL x g u n j)(H:n=a+1)(z:At (hx Z.z) a ⟨l,rem,M⟩ x){o:Nat}{v:Value}(J:o<4)(he:Edge.fix false false [.val v] [.load .plain ⟨Z.z.T,o,none⟩ v] ⟨aH,[],M⟩∈(hx Z.z).cq ⟨l,rem,M⟩)(P:u.cell? ⟨Z.z.T,o,none⟩=some v)(D:l<49/\aH<49)(ok:nW aH []=true):
 cD X Z G k g u t (2,⟨c.V,q⟩,(c.nr*500+450)*10000000000+(c.bJ*500+450)*100000+(n*500+j)):=by
 subst H;have r:=jv d k ⟨.c7 aH,false⟩ u.heap.size u.drawn;obtain⟨y,bn,w,_,L⟩:=f.k0 (au:=(G.grow u.heap.size (Z.wk k)).st k ⟨.c7 aH,false⟩) (rr _) (r9 _) z he (.load P (.nil _)) ⟨f.mem,f.own.rely f.mem r⟩;refine tI (bx:=[⟨.cell ⟨Z.z.T,o,none⟩,false,false⟩]) d K c bh F E C h q D (L false) (Calm.refl u) (λb Q I=>absurd rfl I) (λe he=>?_) ok B w (by have:=w.le;omega);rw[Ps he];exact .mem rfl d.eJ.1 (λe=>by cases e) ⟨d.ap.bM,d.ap.pO⟩ (λ_=>.inr ⟨o,rfl,J⟩) (.inr ⟨.inl (d.hi.ro k _ (.inl rfl)),rfl⟩)
def Hq(r:List Nat):(r.filter (· < 3)).all (· < 3)=true:=by rw[List.all_eq_true];intro a c;exact(List.mem_filter.1 c).2
def Fz(p:Base Z G u t)(I:G.s k=⟨.c7 47,false⟩)(c:gL)(bh:Nat)(B:∀(i:Nat) b o,M[i]?=some (true,b,o)->bh<=b)(E:∀b l,c.ρ.r b l->l<bh)(D:∀(i:Nat) own b o,c.M[i]?=some (own,b,o)->b<bh)(C:bh<=u.heap.size)(h:c.Ok X Z G k 4 u)(q:Acc (ds X.Q) c.V)(f:cn (hx Z.z) Z G (Z.wk k) ⟨47,rem,M⟩ c.hL x g u n j)(F:n=a+1)(z:At (hx Z.z) a ⟨47,rem,M⟩ x):
 cD X Z G k g u t (2,⟨c.V,q⟩,(c.nr*500+450)*10000000000+(c.bJ*500+450)*100000+(n*500+j)):=by
 subst F;obtain⟨w,y,bn,K,d,J⟩:=f.uQ (rr _) (r9 _) z (to:=λr=>⟨48,r.filter (· < 3),M⟩) Pl;have r:=jv p k ⟨.c7 48,false⟩ u.heap.size (u.drawn+1);exact tI (aH:=48) (bx:=[]) p I c bh E D C h q (by decide) (J false) (Calm.at u _) (λb L H=>absurd rfl H) (λe he=>(by cases he)) (Hq w) B ⟨d.on,d.le,rfl,rfl,rfl,d.mem,f.own.rely f.mem r⟩ (by have:=d.le;omega)
def Fx(d:Base Z G u t)(o:G.s k=⟨.c7 49,false⟩)(c:gL)(h:c.Ok X Z G k 4 u)(f:Acc (ds X.Q) c.V)(w:cn (hx Z.z) Z G (Z.wk k) ⟨49,rem,M⟩ c.hL x g u n j)(i:At (hx Z.z) a ⟨49,rem,M⟩ x):
 cD X Z G k g u t (2,⟨c.V,f⟩,(c.nr*500+450)*10000000000+(c.bJ*500+450)*100000+(n*500+j)):=by
 obtain⟨z,p⟩:=i.leave Pl;have r:=jv d k ⟨.db 4,false⟩ u.heap.size u.drawn;have q:stepG aF false g u=.go ⟨c.iP.1.finish unit,c.iP.2++c.jT,.running,none,none⟩ u:=by obtain⟨st,off,rfl⟩:=w.shape;have:=p false st off c.iP.1 (c.iP.2++c.jT) u (sj h.run);rw[z];exact this
 exact cD.still (a6:=⟨.db 4,false⟩) (n:=u.drawn) d o vC ⟨rfl,rfl,rfl,rfl,(λe=>by cases e),⟨λe=>(by cases e),λe=>(by cases e)⟩⟩ q rfl
  (.db (l:=4) c.toRCtx rfl (λ_ _=>rfl) (h.r.rely (dh:=(G.grow u.heap.size (Z.wk k)).st k ⟨.db 4,false⟩) rfl r h.r.l.heap.floor h.jJ) f ⟨h.on,Pk,rfl,rfl,rfl,kF _,kL _ _ _⟩) (dZ.last (by have:=rQ ((c.nr*500+450)*10000000000) (c.bJ*500+400) (c.bJ*500+450) (by omega);exact Px this (Nat.le_add_right _ _)))
def G9{i B o:Nat}(f:13<=o)(d:Z.z.T<B)(ei:ef Z G=.written i):tg Z G t i B ⟨.cell ⟨Z.z.T,o,none⟩,true,false⟩:=by
 refine⟨d,λb c _=>?_,λe=>?_⟩
 .have c:some (⟨.cell ⟨Z.z.T,o,none⟩,true,.plain⟩:Touch)=some b:=c
  rw[<-Pm c];exact .inr ⟨⟨o,rfl,f⟩,.inl ei⟩
 .have e:(Loc.cell ⟨Z.z.T,o,none⟩)=.cell ⟨Z.z.T,4,none⟩:=e
  injection e with e
  injection e with _ e
  omega
def rZ{w w':World}{b o:Nat}{c:Array Value}{e:TypeId}{v:Value}{l:List cr}{es:Array Event}(h:w.heap[b]?=some (.cells c e (0,0)))(d:o<c.size)(k:Does (w.setCell ⟨b,o,none⟩ v) l w' es):Does w (.store .plain ⟨b,o,none⟩ v::l) w' (#[⟨.cell ⟨b,o,none⟩,true,false⟩]++es):=
 .store (x:=c[o]) (by rw[aT h];simp[d]) (b1 h) k
def sU(T:Nat):List Event:=[⟨.cell ⟨T,13,none⟩,true,false⟩,⟨.cell ⟨T,14,none⟩,true,false⟩,⟨.cell ⟨T,15,none⟩,true,false⟩,⟨.cell ⟨T,16,none⟩,true,false⟩,⟨.cell ⟨T,17,none⟩,true,false⟩]
def Nw(T:Nat):gY false (cB (r' true T))=sU T:=rfl
def Nz(z:dr)(mu ms:Int)(aU:Bool):(((((dW z mu ms aU false).setIfInBounds 13 (ad 1)).setIfInBounds 14 (ad 1)).setIfInBounds 15 (ad 3)).setIfInBounds 16 (ad 0)).setIfInBounds 17 (ad 3)=dW z mu ms aU true:=by simp[dW,jx]
def FB(f:Base Z G u t)(z:G.s k=⟨.c7 48,false⟩)(c:gL)(bh:Nat)(am:∀(i:Nat) b o,M[i]?=some (true,b,o)->bh<=b)(ar:∀b Q,c.ρ.r b Q->Q<bh)(aq:∀(i:Nat) own b o,c.M[i]?=some (own,b,o)->b<bh)(ao:bh<=u.heap.size)(h:c.Ok X Z G k 4 u)(D:Acc (ds X.Q) c.V)(B:cn (hx Z.z) Z G (Z.wk k) ⟨48,[],M⟩ c.hL x g u n j)(av:n=a+1)(aj:At (hx Z.z) a ⟨48,[],M⟩ x):
 cD X Z G k g u t (2,⟨c.V,D⟩,(c.nr*500+450)*10000000000+(c.bJ*500+450)*100000+(n*500+j)):=by
 subst av;have E:=f.bT.side k;rw[z]at E;have E:cx .I (G.s (!k)).role G.mu G.ms G.aU G.a7:=E;obtain⟨F,az,p,H⟩:=cx.write E;have aw:∀j,(G.s j).dO=false:=λj=>by
  rcases d:(G.s j).dO with _|_
  .rfl
  .rw[f.bT.dO j d]at F;cases F
 have e:∀j,(G.wk k ⟨.c7 49,false⟩ G.mu G.ms G.aU true G.v G.m).s j=if j=k then⟨.c7 49,false⟩else G.s j:=λ_=>rfl
 have I:=f.ww.T;rw[az]at I;have bP:∀{c:Array Value},c.size=28->∀o v,(c.setIfInBounds o v).size=28:=λh o v=>by simpa using h
 have z0:=vn Z.z G.mu G.ms G.aU false;have J:=cQ (o:=13) (v:=ad 1) I;have K:=cQ (o:=14) (v:=ad 1) J;have L:=cQ (o:=15) (v:=ad 3) K;have P:=cQ (o:=16) (v:=ad 0) L;have C:=cQ (o:=17) (v:=ad 3) P;have hd:=rZ (v:=ad 1) I (by rw[z0];decide:13<_) (rZ (v:=ad 1) J (by rw[bP z0];decide:14<_) (rZ (v:=ad 3) K (by rw[bP (bP z0 _ _)];decide:15<_) (rZ (v:=ad 0) L (by rw[bP (bP (bP z0 _ _) _ _)];decide:16<_) (rZ (v:=ad 3) P (by rw[bP (bP (bP (bP z0 _ _) _ _) _ _)];decide:17<_) (.nil _)))));have wd:Word Z u (((((u.setCell ⟨Z.z.T,13,none⟩ (ad 1)).setCell ⟨Z.z.T,14,none⟩ (ad 1)).setCell ⟨Z.z.T,15,none⟩ (ad 3)).setCell ⟨Z.z.T,16,none⟩ (ad 0)).setCell ⟨Z.z.T,17,none⟩ (ad 3)):=
  (((((Word.refl Z u).trans (Word.set 13 _ (.inl rfl))).trans (Word.set 14 _ (.inl rfl))).trans (Word.set 15 _ (.inl rfl))).trans (Word.set 16 _ (.inl rfl))).trans (Word.set 17 _ (.inl rfl))
 rw[Nz]at C;generalize aB:((((u.setCell ⟨Z.z.T,13,none⟩ (ad 1)).setCell ⟨Z.z.T,14,none⟩ (ad 1)).setCell ⟨Z.z.T,15,none⟩ (ad 3)).setCell ⟨Z.z.T,16,none⟩ (ad 0)).setCell ⟨Z.z.T,17,none⟩ (ad 3)=ay at hd wd C;have hW:ay.heap[Z.W]?=some (.cells #[.int .u64 G.v,.int .u32 G.m] 199 (0,0)):=by
  have q:∀(w:World) o v,(w.setCell ⟨Z.z.T,o,none⟩ v).heap[Z.W]?=w.heap[Z.W]?:=λw o v=>ft (a:=⟨Z.z.T,o,none⟩) (Ne.symm f.ap.bM)
  rw[<-aB,q,q,q,q,q];exact f.ww.W
 have r:=ns f wd C (au:=G.wk k ⟨.c7 49,false⟩ G.mu G.ms G.aU true G.v G.m) rfl rfl (Z.wk k);obtain⟨y,bn,T,_,S⟩:=B.k0 (au:=G.wk k ⟨.c7 49,false⟩ G.mu G.ms G.aU true G.v G.m) (to:=⟨49,[],M⟩) (rr _) (r9 _) aj Pl hd ⟨B.mem.rely B.own r B.mem.floor,B.own.rely B.mem r⟩;have Y:=f.bT.rq k;rw[z]at Y;have W:(⟨.c7 49,false⟩:bZ).c=.un↔(⟨.c7 48,false⟩:bZ).c=.un:=⟨λe=>(by cases e),λe=>(by cases e)⟩
 have ae:=f.bT.wk z (a6:=⟨.c7 49,false⟩) H Y (λe=>by cases e) rfl W (λe=>by cases e) id;have aa:dv Z (G.wk k ⟨.c7 49,false⟩ G.mu G.ms G.aU true G.v G.m) ay:=dv.of f wd C hW rfl rfl;have al:∀a:dR,a.g0 (G.wk k ⟨.c7 49,false⟩ G.mu G.ms G.aU true G.v G.m)↔a.g0 G:=by
  intro a;cases a with
  |main=>exact Iff.rfl
  |de j=>
   show((G.wk k ⟨.c7 49,false⟩ G.mu G.ms G.aU true G.v G.m).s j).c≠.un↔(G.s j).c≠.un;rw[e];split
   .rename_i d;subst d;rw[z];exact not_congr W
   .exact Iff.rfl
  |dK=>exact Iff.rfl
 have aE:ef Z G=.fresh:=by
  unfold ef;rw[F];cases k with
  |false=>
   have p:(G.s true).role.fs=false:=p;rw[z,p];rfl
  |true=>
   have p:(G.s false).role.fs=false:=p;rw[p,z];rfl
 have V:ef Z (G.wk k ⟨.c7 49,false⟩ G.mu G.ms G.aU true G.v G.m)=.written (Z.wk k):=by
  unfold ef;rw[e,e];show(if G.aU then _ else _)=_;rw[F];cases k with
  |false=>rfl
  |true=>
   have p:(G.s false).role.fs=false:=p;simp[p];rfl
 have af:Apart Z (G.wk k ⟨.c7 49,false⟩ G.mu G.ms G.aU true G.v G.m):=f.ap.same rfl rfl;have U:Grow G (G.wk k ⟨.c7 49,false⟩ G.mu G.ms G.aU true G.v G.m) u.heap.size:=⟨λb _=>rfl,rfl⟩
 have aA:eF (pl Z (G.wk k ⟨.c7 49,false⟩ G.mu G.ms G.aU true G.v G.m)) t (ef Z (G.wk k ⟨.c7 49,false⟩ G.mu G.ms G.aU true G.v G.m)) u.heap.size:=by have:=f.c6.c6;rw[aE]at this;rw[V];exact(this.begin _).mx U
 have R:∀e∈sU Z.z.T,∃o,13<=o/\e=⟨.cell ⟨Z.z.T,o,none⟩,true,false⟩:=λe he=>by simp only[sU,List.mem_cons,PD,or_false]at he;rcases he with rfl|rfl|rfl|rfl|rfl<;>exact⟨_,by decide,rfl⟩
 have aD:ep Z (G.wk k ⟨.c7 49,false⟩ G.mu G.ms G.aU true G.v G.m) (t++MemOp.ofEvents (Z.wk k) g.frame.fn g.frame.place (sU Z.z.T).toArray) u.heap.size:=by
  refine ep.app (l:=sU Z.z.T) af f.c6 U Pk (.de k) (by show(G.s k).c≠.un;rw[z];exact vC) aA (λe he=>?_) al ?_ (λa D=>?_) (λj d=>?_) (λ_ _ _ _ _ _ j=>?_) (λj d=>?_) (λd=>⟨d,λe=>by cases e⟩) (λbx he b ak ax=>?_) id
  .obtain⟨o,H,rfl⟩:=R e he
   exact G9 H f.eJ.1 V
  .show(((G.wk k ⟨.c7 49,false⟩ G.mu G.ms G.aU true G.v G.m).s k).deaf)=deafBehind (G.s k).deaf _
   rw[e,if_pos rfl,z];rfl
  .cases a with
   |main=>rfl
   |de j=>
    show((G.wk k ⟨.c7 49,false⟩ G.mu G.ms G.aU true G.v G.m).s j).deaf=(G.s j).deaf;rw[e,if_neg (λd=>D (by rw[d]))]
   |dK=>rfl
  .rw[e]at d
   split at d
   .cases d
   .exact .inl d
  .rw[e]
   split
   .rfl
   .exact aw j
  .rw[e]at d
   split at d
   .cases d
   .rename_i ap
    exact⟨d,λaC=>by cases aC;exact absurd rfl ap⟩
  .obtain⟨o,H,rfl⟩:=R bx he
   cases ak;cases ax
 have ag:Base Z (G.wk k ⟨.c7 49,false⟩ G.mu G.ms G.aU true G.v G.m) _ _:=f.rest rfl rfl rfl wd.size aa ae (by rw[wd.size];exact aD);rw[Nw]at S;exact .go (G.wk k ⟨.c7 49,false⟩ G.mu G.ms G.aU true G.v G.m) ⟨.c7 49,false⟩ _ _ _ _ (S false) rfl rfl rfl rfl rfl ag (λi _=>eh.same (au:=G.wk k ⟨.c7 49,false⟩ G.mu G.ms G.aU true G.v G.m) rfl rfl wd.size (λb ah ai _=>wd.keep b ah ai) aa)
  (.c7 (l:=49) (rem:=[]) c bh rfl am ar aq (by rw[wd.size];exact ao) (h.rely (dh:=G.wk k ⟨.c7 49,false⟩ G.mu G.ms G.aU true G.v G.m) rfl r h.r.l.heap.floor h.jJ) D T) (dZ.last (o1 _ _ ((a+1)*500+j) (by have:=T.le;omega))) rfl (.inl rfl) (.inl rfl)
def Fv(f:Base Z G u t)(C:G.s k=⟨.c7 48,false⟩)(c:gL)(bh:Nat)(ok:nW 48 rem=true)(p:∀(i:Nat) b o,M[i]?=some (true,b,o)->bh<=b)(z:∀b F,c.ρ.r b F->F<bh)(w:∀(i:Nat) own b o,c.M[i]?=some (own,b,o)->b<bh)(q:bh<=u.heap.size)(h:c.Ok X Z G k 4 u)(d:Acc (ds X.Q) c.V)(D:cn (hx Z.z) Z G (Z.wk k) ⟨48,rem,M⟩ c.hL x g u n j)(B:n=a+1)(l:At (hx Z.z) a ⟨48,rem,M⟩ x):
 cD X Z G k g u t (2,⟨c.V,d⟩,(c.nr*500+450)*10000000000+(c.bJ*500+450)*100000+(n*500+j)):=by
 rcases rem with _|⟨b,r⟩
 .exact FB f C c bh p z w q h d D B l
 .have ok:(b::r).all (· < 3)=true:=ok
  simp only[List.all_cons,Bool.and_eq_true,decide_eq_true_eq]at ok;obtain⟨H,E⟩:=ok;rcases b with _|_|_|b
  .exact ec f C c bh p z w q h d D B l (aH:=48) (jU:=r) (bR:=M) Pl (by decide) E
  .exact ec f C c bh p z w q h d D B l (aH:=48) (jU:=r) (bR:=M) Pl (by decide) E
  .exact ec f C c bh p z w q h d D B l (aH:=48) (jU:=r) (bR:=M) Pl (by decide) E
  .omega
def FA(d:Base Z G u t)(q:G.s k=⟨.c7 l,false⟩)(c:gL)(bh:Nat)(ok:nW l rem=true)(z:∀(i:Nat) b o,M[i]?=some (true,b,o)->bh<=b)(D:∀b H,c.ρ.r b H->H<bh)(C:∀(i:Nat) own b o,c.M[i]?=some (own,b,o)->b<bh)(B:bh<=u.heap.size)(h:c.Ok X Z G k 4 u)(p:Acc (ds X.Q) c.V)(f:cn (hx Z.z) Z G (Z.wk k) ⟨l,rem,M⟩ c.hL x g u n j):
 cD X Z G k g u t (2,⟨c.V,p⟩,(c.nr*500+450)*10000000000+(c.bJ*500+450)*100000+(n*500+j)):=by
 rcases f.quiet (rr _)with⟨a,E,w⟩|⟨y,bn,K,F,J⟩
 case inr=>
  have r:=jv d k ⟨.c7 l,false⟩ u.heap.size u.drawn;exact cD.still (a6:=⟨.c7 l,false⟩) (n:=u.drawn) d q vC (fU.refl _) (J false u) rfl
   (.c7 c bh ok z D C B (h.rely (dh:=(G.grow u.heap.size (Z.wk k)).st k ⟨.c7 l,false⟩) rfl r h.r.l.heap.floor h.jJ) p ⟨F.on,F.le,rfl,rfl,rfl,F.mem,f.own.rely f.mem r⟩) (dZ.last (o1 _ _ _ (by omega)))
 have I:l<=49:=by
  unfold nW at ok;split at ok
  .omega
  .exact of_decide_eq_true ok
 have I:l=0\/l=1\/l=2\/l=3\/l=4\/l=5\/l=6\/l=7\/l=8\/l=9\/l=10\/l=11\/l=12\/l=13\/l=14\/l=15\/l=16\/l=17\/l=18\/l=19\/l=20\/l=21\/l=22\/l=23\/l=24\/l=25\/l=26\/l=27\/l=28\/l=29\/l=30\/l=31\/l=32\/l=33\/l=34\/l=35\/l=36\/l=37\/l=38\/l=39\/l=40\/l=41\/l=42\/l=43\/l=44\/l=45\/l=46\/l=47\/l=48\/l=49:=by omega
 rcases I with rfl|rfl|rfl|rfl|rfl|rfl|rfl|rfl|rfl|rfl|rfl|rfl|rfl|rfl|rfl|rfl|rfl|rfl|rfl|rfl|rfl|rfl|rfl|rfl|rfl|rfl|rfl|rfl|rfl|rfl|rfl|rfl|rfl|rfl|rfl|rfl|rfl|rfl|rfl|rfl|rfl|rfl|rfl|rfl|rfl|rfl|rfl|rfl|rfl|rfl
 .exact wD d q c bh z D C B h p f E w (aH:=1) Pl rfl (by decide) rfl
 .exact ec d q c bh z D C B h p f E w (aH:=2) Pl (by decide) rfl
 .exact zV d q c bh z D C B h p f E w (aH:=3) (o:=2) (v:=sl Z.z.R 2) (by decide) Pl (d.ww.qh (by cases G.a7<;>simp[dW,jx])) (by decide) rfl
 .exact ec d q c bh z D C B h p f E w (aH:=4) Pl (by decide) rfl
 .exact wD d q c bh z D C B h p f E w (aH:=5) Pl rfl (by decide) rfl
 .exact ec d q c bh z D C B h p f E w (aH:=6) Pl (by decide) rfl
 .exact ec d q c bh z D C B h p f E w (aH:=7) Pl (by decide) rfl
 .exact ec d q c bh z D C B h p f E w (aH:=8) Pl (by decide) rfl
 .exact ec d q c bh z D C B h p f E w (aH:=9) Pl (by decide) rfl
 .exact ec d q c bh z D C B h p f E w (aH:=10) Pl (by decide) rfl
 .exact ec d q c bh z D C B h p f E w (aH:=11) Pl (by decide) rfl
 .exact ec d q c bh z D C B h p f E w (aH:=12) Pl (by decide) rfl
 .exact ec d q c bh z D C B h p f E w (aH:=13) Pl (by decide) rfl
 .exact ec d q c bh z D C B h p f E w (aH:=14) Pl (by decide) rfl
 .exact ec d q c bh z D C B h p f E w (aH:=15) Pl (by decide) rfl
 .exact ec d q c bh z D C B h p f E w (aH:=16) Pl (by decide) rfl
 .exact ec d q c bh z D C B h p f E w (aH:=17) Pl (by decide) rfl
 .exact ec d q c bh z D C B h p f E w (aH:=18) Pl (by decide) rfl
 .exact ec d q c bh z D C B h p f E w (aH:=19) Pl (by decide) rfl
 .exact ec d q c bh z D C B h p f E w (aH:=20) Pl (by decide) rfl
 .exact ec d q c bh z D C B h p f E w (aH:=21) Pl (by decide) rfl
 .exact ec d q c bh z D C B h p f E w (aH:=22) Pl (by decide) rfl
 .exact ec d q c bh z D C B h p f E w (aH:=23) Pl (by decide) rfl
 .exact ec d q c bh z D C B h p f E w (aH:=24) Pl (by decide) rfl
 .exact ec d q c bh z D C B h p f E w (aH:=25) Pl (by decide) rfl
 .exact ec d q c bh z D C B h p f E w (aH:=26) Pl (by decide) rfl
 .exact ec d q c bh z D C B h p f E w (aH:=27) Pl (by decide) rfl
 .exact ec d q c bh z D C B h p f E w (aH:=28) Pl (by decide) rfl
 .exact wD d q c bh z D C B h p f E w (aH:=29) Pl rfl (by decide) rfl
 .exact ec d q c bh z D C B h p f E w (aH:=30) Pl (by decide) rfl
 .exact ec d q c bh z D C B h p f E w (aH:=31) Pl (by decide) rfl
 .exact ec d q c bh z D C B h p f E w (aH:=32) Pl (by decide) rfl
 .exact ec d q c bh z D C B h p f E w (aH:=33) Pl (by decide) rfl
 .exact ec d q c bh z D C B h p f E w (aH:=34) Pl (by decide) rfl
 .exact ec d q c bh z D C B h p f E w (aH:=35) Pl (by decide) rfl
 .exact ec d q c bh z D C B h p f E w (aH:=36) Pl (by decide) rfl
 .exact ec d q c bh z D C B h p f E w (aH:=37) Pl (by decide) rfl
 .exact ec d q c bh z D C B h p f E w (aH:=38) Pl (by decide) rfl
 .exact ec d q c bh z D C B h p f E w (aH:=39) Pl (by decide) rfl
 .exact ec d q c bh z D C B h p f E w (aH:=40) Pl (by decide) rfl
 .exact ec d q c bh z D C B h p f E w (aH:=41) Pl (by decide) rfl
 .exact ec d q c bh z D C B h p f E w (aH:=42) Pl (by decide) rfl
 .exact ec d q c bh z D C B h p f E w (aH:=43) Pl (by decide) rfl
 .exact ec d q c bh z D C B h p f E w (aH:=44) Pl (by decide) rfl
 .exact zV d q c bh z D C B h p f E w (aH:=45) (o:=3) (v:=sl Z.z.Fr 1) (by decide) Pl (d.ww.qh (by cases G.a7<;>simp[dW,jx])) (by decide) rfl
 .exact ec d q c bh z D C B h p f E w (aH:=46) Pl (by decide) rfl
 .exact ec d q c bh z D C B h p f E w (aH:=47) Pl (by decide) rfl
 .exact Fz d q c bh z D C B h p f E w
 .exact Fv d q c bh ok z D C B h p f E w
 .exact Fx d q c h p f w
end
section
variable{X:dJ}{Z:Stat}[gh X Z]{G au:bI}{u ay w:World}{t a':Trace}{k:Bool}{g g':Goroutine}{s a6:bZ}{a2:Bool}{x y:bs}{n j cM bn l aH a:Nat}{B:Nat}
def O0{bl:fI X.Q}(j:Base Z G u t)(q:(G.s k).c≠.un)(J:bl.1≠0)(w:eM X Z G k g u (G.s k) bl):cD X Z G k g u t bl:=by
 generalize i:G.s k=s at w;cases w with
 |un a2 bl=>rw[i]at q;exact absurd rfl q
 |gone fp K r=>exact absurd rfl J
 |out fp ok h E I r=>exact JV j i h ⟨ok,I,r⟩ E
 |lift c D B C h d=>subst D;exact Iq j i c B C h d
 |eK c kd bz bA cL M rem bh ok l p o z h d f=>exact KE j i c ⟨h,p,o⟩ d ok l z f
 |db c ok H h d f=>exact FT j i c h d ok H f
 |lock c h d f=>exact II j i c h d f
 |c7 c bh ok l p F o h d f=>exact FA j i c bh ok l p F o h d f
 |g9 c h d f=>exact N9 j i c h d f
noncomputable abbrev ic(Z:Stat):cS fG:=wE ⟨Z.W,Z.bX,Z.ch⟩
def pW(Z:Stat):dk (ic Z).P (ic Z).ext:=by unfold ic wE;exact iQ
def t'(Z:Stat)(p:fG):(ic Z).dA p<=400:=Pk
def bI.dL(G:bI)(p:fG)(v m:Int):bI:={G with k:=.at p,v:=v,m:=m}
inductive lA(Z:Stat)(G:bI)(p:fG)(g:Goroutine)(u:World)(t:Trace)(bl:Nat):Prop
 |go (au:bI) (hD:fG) (ay:World) (l:List Event) (g':Goroutine) (c5:bs) (cM bn:Nat) (aR:stepG aF false g u=.go g' ay l.toArray) (U:au.k=.at hD) (af:au.s=G.s) (ah:au.l=G.l) (hA:au.bC=G.bC) (iq:au.cl=G.cl)
  (hb:Base Z au ay (t++MemOp.ofEvents (Z.N+2) g.frame.fn g.frame.place l.toArray)) (ao:∀i,i≠Z.N+2->eh Z G au i u ay) (az:cn (ic Z) Z au (Z.N+2) hD [] c5 g' ay cM bn) (aO:cM*500+bn<bl) (cz:g'.status=.running)
  (eW:au.ms=G.ms) (hm:au.m=G.m\/au.m=0) (dd:au.k.shut=G.k.shut\/mayWake aF g=true):lA Z G p g u t bl
 |wait (aR:stepG aF false g u=.go ⟨g.frame,g.callers,.blocked,none,none⟩ u) (al:p=.fi) (hm:G.m=0):lA Z G p g u t bl
 |fin (aR:stepG aF false g u=.go ⟨g.frame,g.callers,.finished,none,none⟩ u) (al:p=.fin):lA Z G p g u t bl
def fT.A3(a:fT G){p:fG}(h:G.k=.at p):decide (24<=G.l)=true:=by
 have:¬G.l<27:=λc=>by rw[a.lr.1 c]at h;cases h
 exact decide_eq_true (by omega)
def fT.dL(a:fT G){p q:fG}{v m:Int}(h:G.k=.at p)(wg:dM true (G.s false).cy (G.s true).cy (c'.at q).ph=some (v,m))(c:left (G.s false).cy (G.s true).cy<=(c'.at q).bound):fT (G.dL q v m):=
 ⟨a.once,by show dM (decide (24<=G.l)) _ _ _=_;rw[a.A3 h];exact wg,c,a.cnt,a.kN,⟨λd=>absurd (a.lr.1 d) (by rw[h];intro e;cases e),λe=>(by cases e)⟩,a.nQ,a.b4,a.dO⟩
def fT.pk(a:fT G){p:fG}(h:G.k=.at p):dM true (G.s false).cy (G.s true).cy (c'.at p).ph=some (G.v,G.m):=by have:=a.wg;rw[a.A3 h,h]at this;exact this
def s7(Z:Stat)(k:Bool):Z.wk k≠Z.N+2:=by cases k<;>simp[Stat.wk]
def A4{p q:fG}{v m:Int}(h:G.k=.at p)(a:dR):a.g0 (G.dL q v m)↔a.g0 G:=by
 cases a with
 |main=>exact Iff.rfl
 |de j=>exact Iff.rfl
 |dK=>exact⟨λ_=>(by show G.k≠.un;rw[h];intro e;cases e),λ_ e=>(by cases e)⟩
def uv{p:fG}(h:G.k=.at p):dR.g0 G .dK:=by show G.k≠.un;rw[h];intro e;cases e
def mY{p to:fG}{v m:Int}(l:Base Z G u t)(c:G.k=.at p)(d:cn (ic Z) Z G (Z.N+2) p [] x g u n j)(L:n=a+1)(H:At (ic Z) a p x){wk:Bool}{an:List df}{h:List cr}(he:Edge.fix true wk an h to∈(ic Z).cq p){es:Array Event}(hd:Does u h ay es)(wd:Word Z u ay)(q:ay.heap[Z.z.T]?=some (.cells (dW Z.z G.mu G.ms G.aU G.a7) 105 (0,0)))(hW:ay.heap[Z.W]?=some (.cells #[.int .u64 v,.int .u32 m] 199 (0,0)))(wg:dM true (G.s false).cy (G.s true).cy (c'.at to).ph=some (v,m))(I:left (G.s false).cy (G.s true).cy<=(c'.at to).bound)(f:(c'.at to).shut=false/\(c'.at p).shut=false)(M:(c'.at to).said=false->(c'.at p).said=false)(K:∀e∈gY true (cB h),hf Z u.heap.size e)(J:(c'.at to).deaf=deafBehind (c'.at p).deaf (gY true (cB h)).toArray)(hm:m=G.m\/m=0):lA Z G p g u t (n*500+j):=by
 subst L;have r:=ns l wd q (au:=G.dL to v m) rfl rfl (Z.N+2);obtain⟨y,bn,w,_,P⟩:=d.k0 (au:=G.dL to v m) (pW _) (t' _) H he hd ⟨d.mem.rely d.own r d.mem.floor,d.own.rely d.mem r⟩;have z:=l.bT.dL c wg I;have Q:dv Z (G.dL to v m) ay:=dv.of l wd q hW (by rw[c];exact f.1.trans f.2.symm) rfl;obtain⟨B,C⟩:=l.sync (au:=G.dL to v m) .dK (uv c) rfl rfl rfl Q z wd.size (λb D E _=>wd.keep b D E) K rfl (A4 c) (by show(c'.at to).deaf=deafBehind G.k.deaf _;rw[c];exact J) (λa F=>by
  cases a with
  |main=>rfl
  |de j=>rfl
  |dK=>exact absurd rfl F) g.frame.fn g.frame.place (λj o=>.inl o) (λj o=>⟨o,λe=>by cases e⟩) (λe=>by
  have e:(c'.at to).shut=true:=e;rw[f.1]at e;cases e) (λe=>by rw[c];exact M e)
 exact .go (G.dL to v m) to ay _ _ y a bn (P false) rfl rfl rfl rfl rfl B (λi _=>C i) w (by have:=w.le;omega) rfl rfl hm (.inl (by rw[c];exact f.1.trans f.2.symm))
def Ee(l:Base Z G u t){p q:fG}(h:G.k=.at p)(c:(c'.at q).ph=(c'.at p).ph)(d:(c'.at q).deaf=(c'.at p).deaf)(f:(c'.at p).bound<=(c'.at q).bound)(g:(c'.at q).shut=(c'.at p).shut)(j:(c'.at q).said=(c'.at p).said)(n i:Nat):Alike G ((G.grow n i).dL q G.v G.m):=by
 refine⟨λ_=>rfl,λ_=>rfl,λ_=>rfl,λ_=>rfl,λ_=>id,λ_=>Iff.rfl,?_,?_,?_,?_,?_,⟨λe=>(by cases e),λe=>(by rw[h]at e;cases e)⟩,Iff.rfl,Iff.rfl,Iff.rfl,l.bT.b4,rfl,rfl,rfl,rfl,rfl,rfl,rfl,rfl,rfl,rfl⟩
 .rw[h];exact c
 .rw[h];exact d
 .rw[h];exact f
 .rw[h];exact g
 .rw[h];exact j
def Fo{p q:fG}{bx:List Event}(h:Base Z G u t)(c:G.k=.at p)(eS:Alike G ((G.grow u.heap.size (Z.N+2)).dL q G.v G.m))(z:(c'.at p).shut=false)(B:stepG aF false g u=.go g' ay bx.toArray)(w:g'.status=.running)(calm:Calm u ay)(keep:∀b,b<u.heap.size->ay.heap[b]?≠u.heap[b]?->fO Z G (Z.N+2) b)(cB:∀e∈bx,j3 Z ((G.grow u.heap.size (Z.N+2)).dL q G.v G.m) t (Z.N+2) ay.heap.size e)(C:cn (ic Z) Z ((G.grow u.heap.size (Z.N+2)).dL q G.v G.m) (Z.N+2) q [] y g' ay cM bn)(r:cM*500+bn<n):lA Z G p g u t n:=by obtain⟨d,f⟩:=h.kI .dK (uv c) eS (λb=>rfl) calm keep cB (λj o=>by cases o) (λ_ e=>by rw[c,z]at e;cases e) g.frame.fn g.frame.place;exact .go ((G.grow u.heap.size (Z.N+2)).dL q G.v G.m) q ay bx g' y cM bn B rfl rfl rfl rfl rfl d (λi l=>f i l) C r w rfl (.inl rfl) (.inl eS.xn)
end
section
variable{X:dJ}{Z:Stat}[gh X Z]{G au:bI}{u ay w:World}{t a':Trace}{k:Bool}{g g':Goroutine}{s a6:bZ}{a2:Bool}{x y:bs}{n j cM bn l aH a:Nat}{B:Nat}
def Fp(c:Base Z G u t)(f:G.k=.at .c4)(h:cn (ic Z) Z G (Z.N+2) .c4 [] x g u n j)(H:n=a+1)(F:At (ic Z) a .c4 x):lA Z G .c4 g u t (n*500+j):=by
 subst H;have wd:=Word.refl Z u;have r:=ns c wd c.ww.T (au:=G.dL .fi G.v G.m) rfl rfl (Z.N+2);obtain⟨y,bn,q,_,I⟩:=h.k0 (au:=G.dL .fi G.v G.m) (to:=.fi) (pW _) (t' _) F Pl (.mark (.mark (.nil u))) ⟨h.mem,h.own.rely h.mem r⟩;have wg:=c.bT.pk f;have C:fT (G.dL .fi G.v G.m):=c.bT.dL f wg (by have:=c.bT.bound;rw[f]at this;exact this);have B:dv Z (G.dL .fi G.v G.m) u:=dv.of c wd c.ww.T c.ww.W (by rw[f];rfl) rfl;have o:Apart Z (G.dL .fi G.v G.m):=c.ap.same rfl rfl;have p:(pl Z (G.dL .fi G.v G.m)).h7 (.cell (gS Z.W)):=.inr (.inl ⟨_,rfl,rfl⟩);have z:∀{b:Touch},(MemAct.ofEvent ⟨.mark (.write (gS Z.W)),false,true⟩).touch?=some b->b=⟨.cell (gS Z.W),true,.said⟩:=λ{b} d=>by have d:some (⟨.cell (gS Z.W),true,.said⟩:Touch)=some b:=d;exact(Pm d).symm
 have J:ep Z (G.dL .fi G.v G.m) (t++MemOp.ofEvents (Z.N+2) g.frame.fn g.frame.place [⟨.mark (.write (gS Z.W)),false,true⟩].toArray) u.heap.size:=by
  refine ep.app o c.c6 ⟨λb _=>rfl,rfl⟩ Pk .dK (uv f) c.c6.c6 (λe he=>?_) (A4 f) (by show _=deafBehind G.k.deaf _;rw[f];rfl) (λa E=>by
   cases a with
   |main=>rfl
   |de j=>rfl
   |dK=>exact absurd rfl E) (λj l=>.inl l) (λe he b d w=>?_) (λj l=>⟨l,λe=>by cases e⟩) (λe=>by cases e) (λe he b d _=>⟨by rw[f];rfl,rfl⟩) (λe=>by cases e)
  .rw[Ps he]
   exact⟨c.eJ.2.1,λb d _=>by rw[z d];exact .inl (.inl ⟨p,by simp⟩),λe=>by cases e⟩
  .rw[Ps he]at d
   rw[z d]at w;exact absurd p (o.kB.mF _ w)
 have D:Base Z (G.dL .fi G.v G.m) u _:=c.rest rfl rfl rfl rfl B C J;exact .go (G.dL .fi G.v G.m) .fi u _ _ y a bn (I false) rfl rfl rfl rfl rfl D (λi _=>eh.same (au:=G.dL .fi G.v G.m) rfl rfl rfl (λ_ _ _ _=>rfl) B) q (by have:=q.le;omega) rfl rfl (.inl rfl) (.inl (by rw[f];rfl))
def n3{t u:Trace}{i:Nat}(h:i<t.size):(t++u).g? i=t.g? i:=by unfold Trace.g?;rw[getElem?_append_old h]
def ep.LD(h:ep Z G t B)(C:G.k=.at .cc){y:MemOp}(o:y.g=Z.N+2/\y.act=.close Z.ch)(I:Z.ch<B):ep Z (G.dL .fin G.v G.m) (t++#[y]) B:=by
 have d:y.act.touch?=none:=by rw[o.2];rfl
 have L:y.act.low B:=by rw[o.2];exact I
 have f:∀g,Deaf (t++#[y]) g=Deaf t g:=λg=>by rw[Deaf_push];unfold deafStep;rw[o.2]
 have E:∀g,gp Z (G.dL .fin G.v G.m) g↔gp Z G g:=λg=>by
  constructor
  .rintro(h|⟨k,e,c⟩|⟨e,c⟩)
   .exact .inl h
   .exact .inr (.inl ⟨k,e,c⟩)
   .exact .inr (.inr ⟨e,by rw[C];intro e;cases e⟩)
  .rintro(h|⟨k,e,c⟩|⟨e,c⟩)
   .exact .inl h
   .exact .inr (.inl ⟨k,e,c⟩)
   .exact .inr (.inr ⟨e,λe=>by cases e⟩)
 have p:=h.m1;rw[C]at p;refine⟨h.c6.one y d L,λg q=>(h.st g ((E g).1 q)).one y d h.c6.size,λk c=>(h.sI k c).one y d,?_,λk=>?_,?_,λj l=>?_,λk c=>(h.told k c).other λop R _=>?_,λ_=>LG o p,λe=>?_,λi op r P w=>?_,λi g r q M H=>?_⟩
 .rw[f];exact h.d0
 .rw[f];exact h.o8 k
 .rw[f];exact p
 .rw[f];exact h.above j l
 .have:op=y:=by simpa using R
  rw[this];exact d
 .cases e
 .rcases getElem?_append_cases P with⟨_,Q⟩|⟨_,S⟩
  .exact(E _).2 (h.l7 i op r Q w)
  .have:op=y:=by simpa using S
   rw[this]at w;exact absurd d w
 .have D:i<t.size:=by have:=h.c6.size;have:(pl Z G).cH=Z.cH:=rfl;omega
  have J:t.g? i=some g:=by rw[<-n3 (u:=#[y]) D];exact q
  obtain⟨j,l,F⟩:=h.over i g r J M ((counts_old D).1 H);have K:j<t.size:=by have:(t[j]?).map (·.g)=some 0:=l;obtain⟨z,T,_⟩:=Option.map_eq_some_iff.1 this;exact lt_size_of_getElem? T
  exact⟨j,by rw[n3 K];exact l,hb_app _ F⟩
def tQ{s:bZ}(h:s.cy=.yes):s.cI=true:=by
 obtain⟨c,a2⟩:=s;cases c with
 |out p=>cases p<;>first|rfl|cases h
 |_=>cases h
def Fl(c:Base Z G u t)(f:G.k=.at .cc)(l:cn (ic Z) Z G (Z.N+2) .cc [] x g u n j)(Q:n=a+1)(P:At (ic Z) a .cc x):lA Z G .cc g u t (n*500+j):=by
 subst Q;have wg:=c.bT.pk f;obtain⟨_,V,W⟩:=s5 wg;have o:=c.bT.cnt;rw[tQ V,tQ W]at o;have o:da G.l=2:=o;have h:=c.ww.ch;rw[f,o]at h;have h:u.heap[Z.ch]?=some (.chan 0 #[] false 2 2 false):=h;have B:=bp h;let ay:World:={u with heap:=u.heap.setIfInBounds Z.ch (.chan 0 #[] true 2 2 false)}
 have p:∀b,b≠Z.ch->ay.heap[b]?=u.heap[b]?:=λb d=>PB (Ne.symm d)
 have q:ay.heap.size=u.heap.size:=by simp[ay]
 have D:dv Z (G.dL .fin G.v G.m) ay:=by refine⟨(p _ c.ap.pO).trans c.ww.T,(p _ c.ap.wc).trans c.ww.W,?_,λb d M=>(p b (by have:=c.ni.2;omega)).trans (c.ww.old b d M),c.ww.calm.trans ⟨Nat.le_of_eq q.symm,rfl,rfl,Go.ConcM.OsLater.refl _⟩⟩;show ay.heap[Z.ch]?=some (.chan 0 #[] true (da G.l) (da G.l) false);rw[o];exact PC B
 have J:fT (G.dL .fin G.v G.m):=c.bT.dL f wg (by have:=c.bT.bound;rw[f]at this;exact this);have r:eh Z G (G.dL .fin G.v G.m) (Z.N+2) u ay:=eh.same rfl rfl q (λb _ _ w=>p b w) D;obtain⟨y,bn,H,S,R⟩:=l.k0 (au:=G.dL .fin G.v G.m) (ay:=ay) (to:=.fin) (pW _) (t' _) P Pl (.getObj h trivial (.setObj h trivial (.nil _))) ⟨l.mem.rely l.own r l.mem.floor,l.own.rely l.mem r⟩;have E:(pl Z G).h7 (.obj Z.ch):=.inr (.inr rfl);have T:ep Z G (t++MemOp.ofEvents (Z.N+2) g.frame.fn g.frame.place [⟨.obj Z.ch,false,true⟩].toArray) u.heap.size:=by
  have C:∀{b:Touch},(MemAct.ofEvent ⟨.obj Z.ch,false,true⟩).touch?=some b->b=⟨.obj Z.ch,false,.atomic⟩:=λ{b} d=>by have d:some (⟨.obj Z.ch,false,.atomic⟩:Touch)=some b:=d;exact(Pm d).symm
  refine ep.app c.ap c.c6 ⟨λb _=>rfl,rfl⟩ Pk .dK (uv f) c.c6.c6 (λe he=>?_) (λ_=>Iff.rfl) (by show G.k.deaf=deafBehind G.k.deaf _;rw[f];rfl) (λa X=>rfl) (λj z=>.inl z) (λe he b d I=>?_) (λj z=>⟨z,λe=>by cases e⟩) (λe=>by rw[f]at e;cases e) (λe he b d F=>?_) id
  .rw[Ps he]
   exact⟨B,λb d _=>by rw[C d];exact .inl (.inl ⟨E,by simp⟩),λe=>by cases e⟩
  .rw[Ps he]at d
   rw[C d]at I;exact absurd E (c.ap.kB.mF _ I)
  .rw[Ps he]at d
   rw[C d]at F;cases F
 have U:=T.LD f (y:={g:=Z.N+2,fn:=g.frame.fn,pos:=g.frame.place,act:=.close Z.ch}) ⟨rfl,rfl⟩ B;have L:t++MemOp.ofEvents (Z.N+2) g.frame.fn g.frame.place [(⟨.obj Z.ch,false,true⟩:Event),⟨.obj Z.ch,true,true⟩].toArray=(t++MemOp.ofEvents (Z.N+2) g.frame.fn g.frame.place [(⟨.obj Z.ch,false,true⟩:Event)].toArray)++#[{g:=Z.N+2,fn:=g.frame.fn,pos:=g.frame.place,act:=.close Z.ch}]:=by rw[ofEvents_eq,ofEvents_eq];apply Array.ext';simp[MemAct.ofEvent]
 have K:Base Z (G.dL .fin G.v G.m) ay (t++MemOp.ofEvents (Z.N+2) g.frame.fn g.frame.place [(⟨.obj Z.ch,false,true⟩:Event),⟨.obj Z.ch,true,true⟩].toArray):=c.rest rfl rfl rfl q D J (by rw[q,L];exact U);exact .go (G.dL .fin G.v G.m) .fin ay [⟨.obj Z.ch,false,true⟩,⟨.obj Z.ch,true,true⟩] _ y a bn (R false) rfl rfl rfl rfl rfl K (λi _=>eh.same (au:=G.dL .fin G.v G.m) rfl rfl q (λb _ _ w=>p b w) D) H (by have:=H.le;omega) rfl rfl (.inl rfl) (.inr (S rfl))
def Fq{p:fG}(f:Base Z G u t)(w:G.k=.at p)(z:cn (ic Z) Z G (Z.N+2) p [] x g u n j):lA Z G p g u t (n*500+j):=by
 rcases z.quiet (pW _)with⟨a,E,C⟩|⟨y,bn,aa,T,K⟩
 case inr=>
  exact .go G p u [] (bQ y []) y n bn (K false u) w rfl rfl rfl rfl (by
   have:t++MemOp.ofEvents (Z.N+2) g.frame.fn g.frame.place ([]:List Event).toArray=t:=by rw[ofEvents_eq];simp
   rw[this];exact f) (λi _=>eh.at Z G i f.ww u.drawn) T (by omega) rfl rfl (.inl rfl) (.inl rfl)
 have L:=Word.refl Z u;have H:=f.ww.T;have I:=f.ww.W;have eJ:=f.eJ;have wg:=f.bT.pk w;have D:=f.bT.bound;rw[w]at D;have F:left (G.s false).cy (G.s true).cy<=2:=by unfold left;split<;>split<;>omega
 have M:∀{o:Nat} {wr:Bool},hf Z u.heap.size ⟨.cell ⟨Z.W,o,none⟩,wr,true⟩:=.wg;have look:∀{v:Int} {an:List df} {q:fG},G.v=v->Edge.fix true false an (m5 Z.W v) q∈(ic Z).cq p->dM true (G.s false).cy (G.s true).cy (c'.at q).ph=some (v,G.m)->left (G.s false).cy (G.s true).cy<=(c'.at q).bound->
  ((c'.at q).shut=false/\(c'.at p).shut=false)->((c'.at q).said=false->(c'.at p).said=false)->(c'.at q).deaf=(c'.at p).deaf->lA Z G p g u t (n*500+j):=by
  intro v an q l he B J Q R S;exact mY f w z E C he (.mark (.load (f.ww.fz l) (.nil _))) L H I (by rw[l];exact B) J Q R (hG M) S (.inl rfl)
 have fR:∀{v P:Int} {an:List df} {q:fG},G.v=v->Edge.fix true false an (xd Z.W v P) q∈(ic Z).cq p->dM true (G.s false).cy (G.s true).cy (c'.at q).ph=some (P,G.m)->left (G.s false).cy (G.s true).cy<=(c'.at q).bound->
  ((c'.at q).shut=false/\(c'.at p).shut=false)->((c'.at q).said=false->(c'.at p).said=false)->(c'.at q).deaf=(c'.at p).deaf->lA Z G p g u t (n*500+j):=by
  intro v P an q l he B J Q R S;exact mY f w z E C he (.mark (.shape f.ww.lY (.frozen (f.ww.nZ 0) (.load (f.ww.fz l) (.store (f.ww.fz l) (f.ww.nZ 0) (.nil _)))))) (Word.set 0 _ (.inr rfl)) (Word.jk f 0 _) (Word.dt f rfl) B J Q R (jX M (hG M)) S (.inl rfl)
 have U:∀{v:Int} {an:List df} {q:fG},G.v=v->Edge.fix true false an (uf Z.W v) q∈(ic Z).cq p->dM true (G.s false).cy (G.s true).cy (c'.at q).ph=some (v,G.m)->left (G.s false).cy (G.s true).cy<=(c'.at q).bound->
  ((c'.at q).shut=false/\(c'.at p).shut=false)->((c'.at q).said=false->(c'.at p).said=false)->(c'.at q).deaf=(c'.at p).deaf->lA Z G p g u t (n*500+j):=by
  intro v an q l he B J Q R S;exact mY f w z E C he (.mark (.shape f.ww.lY (.frozen (f.ww.nZ 0) (.load (f.ww.fz l) (.nil _))))) L H I (by rw[l];exact B) J Q R (hG M) S (.inl rfl)
 have cut:∀{m cP:Int} {v P:Int} {a b c d},dM a b c d=some (v,m)->v=P->m=cP->dM a b c d=some (P,cP):=λh V W=>by rw[h,V,W]
 cases p with
 |bu=>exact mY f w z E C (to:=.c1 2) Pl (.mark (.mark (.nil _))) L H I wg F ⟨rfl,rfl⟩ (λ_=>rfl) (hG o7) rfl (.inl rfl)
 |c1 m=>
  rcases DY wg with⟨r,l,B⟩|⟨r,l,_⟩|⟨r,l,_⟩
  .rcases m with _|_|m
   .exact look l (.head _) B (by rw[r];exact Nat.zero_le _) ⟨rfl,rfl⟩ (λe=>by cases e) rfl
   .exact look l (.head _) B (by rw[r];exact Nat.zero_le _) ⟨rfl,rfl⟩ (λe=>by cases e) rfl
   .exact look l (.head _) B (by rw[r];exact Nat.zero_le _) ⟨rfl,rfl⟩ (λe=>by cases e) rfl
  .rcases m with _|_|m
   .rw[r]at D;exact absurd D (by decide)
   .exact look l (.tail _ (.head _)) (cut wg l rfl) (by rw[r];exact Pk) ⟨rfl,rfl⟩ (λ_=>rfl) rfl
   .exact look l (.tail _ (.head _)) (cut wg l rfl) (by rw[r];exact Pk) ⟨rfl,rfl⟩ (λ_=>rfl) rfl
  .rcases m with _|_|m
   .rw[r]at D;exact absurd D (by decide)
   .rw[r]at D;exact absurd D (by decide)
   .exact look l (.tail _ (.tail _ (.head _))) (cut wg l rfl) (by rw[r];exact Pk) ⟨rfl,rfl⟩ (λ_=>rfl) rfl
 |c2 m=>
  rcases DY wg with⟨r,l,_⟩|⟨r,l,B⟩|⟨r,l,B⟩
  .rcases m with _|_|m
   .exact U l (.tail _ (.tail _ (.head _))) (cut wg l rfl) (by rw[r];exact Pk) ⟨rfl,rfl⟩ (λ_=>rfl) rfl
   .exact U l (.tail _ (.head _)) (cut wg l rfl) (by rw[r];exact Pk) ⟨rfl,rfl⟩ (λ_=>rfl) rfl
   .exact U l (.tail _ (.tail _ (.head _))) (cut wg l rfl) (by rw[r];exact Pk) ⟨rfl,rfl⟩ (λ_=>rfl) rfl
  .rcases m with _|_|m
   .rw[r]at D;exact absurd D (by decide)
   .exact fR l (.head _) B F ⟨rfl,rfl⟩ (λ_=>rfl) rfl
   .exact U l (.tail _ (.head _)) (cut wg l rfl) (by rw[r];exact Pk) ⟨rfl,rfl⟩ (λ_=>rfl) rfl
  .rcases m with _|_|m
   .rw[r]at D;exact absurd D (by decide)
   .rw[r]at D;exact absurd D (by decide)
   .exact fR l (.head _) B F ⟨rfl,rfl⟩ (λ_=>rfl) rfl
 |c3=>exact mY f w z E C (to:=.c4) Pl (.shape f.ww.lY (.shape f.ww.lY (.nil _))) L H I wg F ⟨rfl,rfl⟩ (λ_=>rfl) l3 rfl (.inl rfl)
 |c4=>exact Fp f w z E C
 |fi=>
  rcases DZ wg with⟨hm,_⟩|⟨hm,B⟩
  .have K:=C.wait (pW _) (.head _)
   obtain⟨st,off,rfl⟩:=z.shape;exact .wait (K false _ st off u _ (.mark (.mark (.load (f.ww.eU hm) (.nil _))))) rfl hm
  .exact mY f w z E C (to:=.nS) (.tail _ (.head _)) (.mark (.mark (.load (f.ww.eU hm) (.store (f.ww.eU hm) (f.ww.nZ 1) (.mark (.nil _)))))) (Word.set 1 _ (.inr rfl)) (Word.jk f 1 _) (Word.dt f rfl) B F ⟨rfl,rfl⟩ (λe=>by cases e) (jX o7 (jX M (jX M (hG o9)))) rfl (.inr rfl)
 |nS=>
  obtain⟨l,_,_⟩:=s5 wg;exact look l (.head _) (cut wg l rfl) F ⟨rfl,rfl⟩ (λe=>by cases e) rfl
 |nT=>exact mY f w z E C (to:=.tD) Pl (.mark (.mark (.nil _))) L H I wg F ⟨rfl,rfl⟩ (λe=>by cases e) (hG o9) rfl (.inl rfl)
 |tD=>exact mY f w z E C (to:=.bX) Pl (.shape f.ww.lY (.shape f.ww.lY (.nil _))) L H I wg F ⟨rfl,rfl⟩ (λe=>by cases e) l3 rfl (.inl rfl)
 |bX=>exact mY f w z E C (to:=.k1) Pl (.mark (.mark (.nil _))) L H I wg F ⟨rfl,rfl⟩ (λe=>by cases e) (hG (.mark rfl eJ.2.1)) rfl (.inl rfl)
 |k1=>
  subst E;have eS:=Ee f w (q:=.cc) rfl rfl Pk rfl rfl u.heap.size (Z.N+2);obtain⟨y,ay,bx,bn,T,K,calm,keep,cB,_⟩:=z.bH (au:=(G.grow u.heap.size (Z.N+2)).dL .cc G.v G.m) (t:=t) (pW _) (t' _) C Pl (λb=>rfl) rfl;exact Fo f w eS rfl (K false) rfl calm (λb J X=>(keep b J X).1) cB T (by have:=T.le;omega)
 |cc=>exact Fl f w z E C
 |fin=>
  obtain⟨Y,K⟩:=C.done Pl;obtain⟨st,off,rfl⟩:=z.shape;exact .fin (by rw[Y];exact K false st off u) rfl
end
section
variable{X:dJ}{Z:Stat}[gh X Z]{G au:bI}{u ay w:World}{t a':Trace}{k:Bool}{g g':Goroutine}{x y:bs}{n j cM bn l aH a:Nat}{B:Nat}{c bo:e0}{M bR:Mem}
noncomputable abbrev gB(Z:Stat):cS eg:=iX Z.kd
def nC(Z:Stat):dk (gB Z).P (gB Z).ext:=by unfold gB iX;exact iQ
def xc(Z:Stat)(p:eg):(gB Z).dA p<=400:=Pk
def lZ(c:e0):Mem:=[(false,c.L,fZ),(false,c.a7,.cells #[pt c.T] 60 (0,0)),(true,c.O,.cells #[cN,cN] 22 (0,0)),(false,c.bX,.cells #[.chan (some c.ch)] 194 (0,0)),(false,c.iH,.cells #[ad 0] 3 (0,0)),(false,c.ja,.cells c8 32 (0,0))]
def jQ(c:e0):Nat->Mem
 | 17|18=>lZ c
 | 19=>lZ c++[(true,c.ib,.cells #[i0] 3 (0,0))]
 | 20=>lZ c++[(true,c.ib,.cells #[i0] 3 (0,0)),(true,c.ix,.cells #[i0,i0,i0,i0,i0] 32 (0,0))]
 | 21=>lZ c++[(true,c.ib,.cells #[ad 1] 3 (0,0)),(true,c.ix,.cells #[i0,i0,i0,i0,i0] 32 (0,0))]
 | 26=>lZ c++[(false,c.ib,.cells #[ad 1] 3 (0,0)),(false,c.ix,.cells c8 32 (0,0))]
 |_=>lZ c++[(true,c.ib,.cells #[ad 1] 3 (0,0)),(true,c.ix,.cells c8 32 (0,0))]
def jS(l:Nat):Bool:=decide (29<=l/\l<=33)||decide (35<=l/\l<=39)
def hk(G:bI)(c:e0)(k:Bool):Value:=if (G.s k).cI && !(jS G.l && (c.k == k))then four (G.cl k)else cN
structure ky(Z:Stat)(G:bI)(c:e0)(M:Mem):Prop where
 cfg:c.T=Z.z.T/\c.O=Z.O/\c.ch=Z.ch/\c.bX=Z.bX/\c.W=Z.W/\c.a7=Z.a7
 early:G.l<=26->M=jQ c G.l
 out:M[2]?=some (true,Z.O,.cells #[hk G c false,hk G c true] 22 (0,0))
 pend:jS G.l=true->(G.s c.k).cI=true/\c.r=G.cl c.k
 lim:G.l<=40
structure hZ(Z:Stat)(G:bI)(g:Goroutine)(w:World)(c:e0)(M:Mem)(x:bs)(n j:Nat):Prop where
 at_:cn (gB Z) Z G 0 ⟨G.l,c,M⟩ Z.base x g w n j
 ok:ky Z G c M
inductive oP(Z:Stat)(G:bI)(g:Goroutine)(u:World)(t:Trace)(bl:Nat):Prop
 |go (au:bI) (ay:World) (l:List Event) (g':Goroutine) (bo:e0) (bR:Mem) (c5:bs) (cM bn:Nat) (aR:stepG aF true g u=.go g' ay l.toArray) (af:au.s=G.s) (U:au.k=G.k) (hA:au.bC=G.bC) (iq:au.cl=G.cl)
  (hb:Base Z au ay (t++MemOp.ofEvents 0 g.frame.fn g.frame.place l.toArray)) (ao:∀i,i≠0->eh Z G au i u ay) (hm:hZ Z au g' ay bo bR c5 cM bn) (aO:cM*500+bn<bl) (cz:g'.status=.running) (eW:au.ms=G.ms) (fS:au.m=G.m):oP Z G g u t bl
 |stop (c:e0) (M:Mem) (x:bs) (n j a:Nat) (ah:G.l=25\/G.l=26\/G.l=28\/G.l=34\/G.l=40) (hm:hZ Z G g u c M x n j) (aJ:At (gB Z) a ⟨G.l,c,M⟩ x) (ak:n=a+1) (jM:bl=n*500+j):oP Z G g u t bl
def bI.gu(G:bI)(l:Nat)(v:Int):bI:={G with l:=l,v:=v}
structure p7(l aH:Nat):Prop where
 iW:24<=aH↔24<=l
 xp:aH<26↔l<26
 xq:aH<27↔l<27
 xo:17<=aH
 cnt:da aH=da l
 deaf:iJ aH=iJ l
def p7.alike(h:p7 G.l aH)(n i:Nat):Alike G ((G.grow n i).gu aH G.v):=
 ⟨λ_=>rfl,λ_=>rfl,λ_=>rfl,λ_=>rfl,λ_=>id,λ_=>Iff.rfl,rfl,rfl,Pk,rfl,rfl,Iff.rfl,h.iW,h.xp,h.xq,h.xo,h.cnt,h.deaf,rfl,rfl,rfl,rfl,rfl,rfl,rfl,rfl⟩
def Bn{bx:List Event}(f:Base Z G u t)(r:p7 G.l aH)(p:stepG aF true g u=.go (bQ y Z.base) ay bx.toArray)(calm:Calm u ay)(keep:∀b,b<u.heap.size->ay.heap[b]?≠u.heap[b]?->fO Z G 0 b)(cB:∀e∈bx,j3 Z ((G.grow u.heap.size 0).gu aH G.v) t 0 ay.heap.size e)(q:cn (gB Z) Z ((G.grow u.heap.size 0).gu aH G.v) 0 ⟨aH,bo,bR⟩ Z.base y (bQ y Z.base) ay cM bn)(ok:ky Z ((G.grow u.heap.size 0).gu aH G.v) bo bR)(o:cM*500+bn<n):oP Z G g u t n:=by obtain⟨c,d⟩:=f.kI .main trivial (r.alike u.heap.size 0) (λb=>rfl) calm keep cB (λj l=>by cases l) (λe=>by cases e) g.frame.fn g.frame.place;exact .go ((G.grow u.heap.size 0).gu aH G.v) ay bx _ bo bR y cM bn p rfl rfl rfl rfl c (λi h=>d i h) ⟨q,ok⟩ o rfl rfl rfl
def k'(f:Base Z G u t)(p:G.l=l)(h:hZ Z G g u c M x n j)(q:n=a+1)(i:At (gB Z) a ⟨l,c,M⟩ x){ops:List gO}(he:(gB Z).cq ⟨l,c,M⟩ = [.bH ops ⟨aH,c,bR⟩])(z:p7 l aH)(ok:ky Z ((G.grow u.heap.size 0).gu aH G.v) c bR):oP Z G g u t (n*500+j):=by subst q;subst p;obtain⟨y,ay,bx,bn,d,w,calm,keep,cB,_⟩:=h.at_.bH (au:=(G.grow u.heap.size 0).gu aH G.v) (t:=t) (nC _) (xc _) i (by rw[he];exact .head _) (λb=>rfl) rfl;exact Bn f z (w true) calm (λb o r=>(keep b o r).1) cB d ok (by have:=d.le;omega)
def uE(d:Base Z G u t)(q:G.l=l)(h:hZ Z G g u c M x n j)(r:n=a+1)(i:At (gB Z) a ⟨l,c,M⟩ x){o:Obj}{to:Nat->eg}(he:Edge.new true o to∈(gB Z).cq ⟨l,c,M⟩)(B:to u.heap.size=⟨aH,bo,bR⟩)(C:p7 l aH)(ok:ky Z ((G.grow u.heap.size 0).gu aH G.v) bo bR):oP Z G g u t (n*500+j):=by subst r;subst q;obtain⟨y,ay,bn,f,z,calm,keep,D⟩:=h.at_.xK (au:=(G.grow u.heap.size 0).gu aH G.v) (nC _) (xc _) i he (λb=>rfl) rfl d.mz d.eJ;rw[B]at f;exact Bn (bx:=[]) d C (z true) calm (λb p w=>absurd (keep b p) w) (λe he=>(by cases he)) f ok (by have:=f.le;omega)
def xz{v:Int}(o:Base Z G u t)(P:G.l=l)(h:hZ Z G g u c M x n j)(Q:n=a+1)(J:At (gB Z) a ⟨l,c,M⟩ x){an:List df}{f:List cr}(he:Edge.fix true false an f ⟨aH,c,M⟩∈(gB Z).cq ⟨l,c,M⟩){es:Array Event}(hd:Does u f ay es)(wd:Word Z u ay)(q:ay.heap[Z.z.T]?=some (.cells (dW Z.z G.mu G.ms G.aU G.a7) 105 (0,0)))(hW:ay.heap[Z.W]?=some (.cells #[.int .u64 v,.int .u32 G.m] 199 (0,0)))(wg:dM (decide (24<=aH)) (G.s false).cy (G.s true).cy G.k.ph=some (v,G.m))(H:l<26/\aH<26/\17<=aH)(w:da aH=da l)(L:∀e∈gY true (cB f),hf Z u.heap.size e)(K:iJ aH=deafBehind (iJ l) (gY true (cB f)).toArray)(ok:ky Z (G.gu aH v) c M):oP Z G g u t (n*500+j):=by
 subst Q;subst P;have r:=ns o wd q (au:=G.gu aH v) rfl rfl 0;obtain⟨y,bn,z,_,R⟩:=h.at_.k0 (au:=G.gu aH v) (nC _) (xc _) J he hd ⟨h.at_.mem.rely h.at_.own r h.at_.mem.floor,h.at_.own.rely h.at_.mem r⟩;have d:=o.bT;have B:fT (G.gu aH v):=⟨d.once,wg,d.bound,by show da aH=_;rw[w];exact d.cnt,(by show aH<26↔(G.s true).c=.un;rw[<-d.kN];omega),(by show aH<27↔G.k=.un;rw[<-d.lr];omega),d.nQ,H.2.2,d.dO⟩
 have S:dv Z (G.gu aH v) ay:=dv.of o wd q hW rfl w;obtain⟨C,D⟩:=o.sync (au:=G.gu aH v) .main trivial rfl rfl rfl S B wd.size (λb E F _=>wd.keep b E F) L rfl (λa=>by cases a<;>exact Iff.rfl) K (λa I=>by
  cases a with
  |main=>exact absurd rfl I
  |de j=>rfl
  |dK=>rfl) g.frame.fn g.frame.place (λj p=>.inl p) (λj p=>⟨p,λe=>by cases e⟩) (λe=>⟨e,λe=>by cases e⟩) id
 exact .go (G.gu aH v) ay _ _ c M y a bn (R true) rfl rfl rfl rfl C (λi _=>D i) ⟨z,ok⟩ (by have:=z.le;omega) rfl rfl rfl
def JU{au:bI}(h:au.s=G.s)(g:au.cl=G.cl)(d:bo.k=c.k)(f:jS au.l=jS G.l):hk au bo=hk G c:=by funext k;unfold hk;rw[h,g,d,f]
def wN(g:Base Z G u t)(h:G.l<=28)(k:Bool):(G.s k).cI=false:=by
 have:=g.bT.cnt;have f:da G.l=0:=by unfold da;rw[if_pos h]
 rw[f]at this;rcases c:(G.s false).cI with _|_<;>rcases d:(G.s true).cI with _|_<;>rw[c,d]at this<;>simp at this
 cases k<;>assumption
def Ke{l:Nat}(h:l<=28):jS l=false:=by unfold jS;rw[decide_eq_false (by omega),decide_eq_false (by omega)];rfl
def tS{au:bI}(i:∀k,(au.s k).cI=false)(g:au.l<=28)(c:bo.T=Z.z.T/\bo.O=Z.O/\bo.ch=Z.ch/\bo.bX=Z.bX/\bo.W=Z.W/\bo.a7=Z.a7)(f:au.l<=26->bR=jQ bo au.l)(d:bR[2]?=some (true,bo.O,.cells #[cN,cN] 22 (0,0))):ky Z au bo bR:=by
 have e:∀k,hk au bo k=cN:=λk=>by unfold hk;rw[i k];rfl
 refine⟨c,f,?_,(λh=>by rw[Ke g]at h;cases h),by omega⟩;rw[e,e,d,c.2.1]
def tR{au:bI}(f:Base Z G u t)(h:G.l<=28)(j:au.s=G.s)(i:au.l<=28)(c:bo.T=Z.z.T/\bo.O=Z.O/\bo.ch=Z.ch/\bo.bX=Z.bX/\bo.W=Z.W/\bo.a7=Z.a7)(g:au.l<=26->bR=jQ bo au.l)(d:bR[2]?=some (true,bo.O,.cells #[cN,cN] 22 (0,0))):ky Z au bo bR:=
 tS (λk=>by rw[j];exact wN f h k) i c g d
def xr{au:bI}(h:ky Z G c M)(i:au.s=G.s)(g:au.cl=G.cl)(d:bo.k=c.k)(z:bo.r=c.r)(w:bo.T=c.T/\bo.O=c.O/\bo.ch=c.ch/\bo.bX=c.bX/\bo.W=c.W/\bo.a7=c.a7)(B:26<au.l/\au.l<=40)(f:jS au.l=jS G.l)(u:bR[2]?=M[2]?):ky Z au bo bR:=by
 obtain⟨j,l,o,p,q,r⟩:=w;refine⟨by rw[j,l,o,p,q,r];exact h.cfg,λe=>by omega,?_,λe=>?_,B.2⟩
 .rw[u,JU i g d f];exact h.out
 .rw[f]at e
  rw[i,g,d,z];exact h.pend e
def Kn{M:Mem}{l:List gO}(h:(prun M l).isSome=true)(c:∀x∈l,∀i o v,x=.st i o v->i≠2):(cK M l)[2]?=M[2]?:=by
 have key:∀(l:List gO) (M:Mem) r,prun M l=some r->(∀x∈l,∀i o v,x=.st i o v->i≠2)->r.2.2[2]?=M[2]?:=by
  intro l;induction l with
  |nil=>intro M r h _;cases h;rfl
  |cons x l g=>
   intro M r h c;have f:∀y∈l,∀i o v,y=.st i o v->i≠2:=λy p=>c y (List.mem_cons_of_mem _ p)
   cases x with
   |ld i o=>
    unfold prun at h;split at h
    .split at h
     .obtain⟨q,d,rfl⟩:=Option.map_eq_some_iff.1 h
      exact g M q d f
     .cases h
    .cases h
   |st i o v=>
    have j:=c _ List.mem_cons_self i o v rfl;unfold prun at h;split at h
    .split at h
     .obtain⟨q,d,rfl⟩:=Option.map_eq_some_iff.1 h
      have:=g _ q d f;rw[List.getElem?_set_ne j]at this;exact this
     .cases h
    .cases h
 exact key l M _ (x4 h) c
def nn(Z:Stat){l:Nat}{ops:List gO}{to:eg}(d:At (gB Z) a ⟨l,c,M⟩ x)(he:(gB Z).cq ⟨l,c,M⟩ = [.bH ops to]):(prun M ops).isSome=true:=by obtain⟨y,_,h,_⟩:=d.bH (nC Z) (ops:=ops) (to:=to) (by rw[he];exact .head _);have h:prun M ops=some _:=h;rw[h];rfl
def Dk{au:bI}(h:ky Z G c M)(B:(prun M [.st 2 (og c.k) (four c.r)]).isSome=true)(o:au.s=G.s)(l:au.cl=G.cl)(u:26<au.l/\au.l<=40)(r:jS G.l=true)(j:jS au.l=false):ky Z au c (cK M [.st 2 (og c.k) (four c.r)]):=by
 obtain⟨p,q⟩:=h.pend r;refine⟨h.cfg,λe=>by omega,?_,(λe=>by rw[j]at e;cases e),u.2⟩;have i:=h.out;have e:cK M [.st 2 (og c.k) (four c.r)]=M.set 2 (true,Z.O,.cells ((#[hk G c false,hk G c true]:Array Value).setIfInBounds (og c.k) (four c.r)) 22 (0,0)):=by
  have z:og c.k<(#[hk G c false,hk G c true]:Array Value).size:=by cases c.k<;>simp[og]
  unfold cK prun;rw[i];simp only[if_pos z];rfl
 have w:2<M.length:=(List.getElem?_eq_some_iff.1 i).1;rw[e,List.getElem?_set_self w];have f:∀k,k≠c.k->hk au c k=hk G c k:=λk d=>by
  have:(c.k == k)=false:=by simp[Ne.symm d]
  unfold hk;rw[o,l,this];simp
 have g:hk au c c.k=four c.r:=by unfold hk;rw[o,l,j,p,<-q];rfl
 cases d:c.k with
 |false=>
  rw[d]at g f;rw[g,f true (by simp)];rfl
 |true=>
  rw[d]at g f;rw[g,f false (by simp)];rfl
end
section
variable{X:dJ}{Z:Stat}[gh X Z]{G au:bI}{u ay w:World}{t a':Trace}{k:Bool}{g g':Goroutine}{x y:bs}{n j cM bn l aH a:Nat}{B:Nat}{c bo:e0}{M bR:Mem}
def jr{l aH:Nat}(h:(decide (24<=aH)=decide (24<=l)/\decide (aH<26)=decide (l<26)/\decide (aH<27)=decide (l<27))/\17<=aH/\da aH=da l/\iJ aH=iJ l):p7 l aH:=
 ⟨decide_eq_decide.1 h.1.1,decide_eq_decide.1 h.1.2.1,decide_eq_decide.1 h.1.2.2,h.2.1,h.2.2.1,h.2.2.2⟩
def DG{M N:Mem}{z:Bool×Nat×Obj}(h:M[2]?=some z):(M++N)[2]?=M[2]?:=PF (List.getElem?_eq_some_iff.1 h).1
def IY(f:Base Z G u t)(h:hZ Z G g u c M x n j):oP Z G g u t (n*500+j):=by
 rcases h.at_.quiet (nC Z)with⟨a,p,d⟩|⟨y,bn,R,L,K⟩
 case inr=>
  exact .go G u [] (bQ y Z.base) c M y n bn (K true u) rfl rfl rfl rfl (by
   have:t++MemOp.ofEvents 0 g.frame.fn g.frame.place ([]:List Event).toArray=t:=by rw[ofEvents_eq];simp
   rw[this];exact f) (λi _=>eh.at Z G i f.ww u.drawn) ⟨L,h.ok⟩ (by omega) rfl rfl rfl
 have ok:=h.ok;have S:=f.bT.b4;have Q:=ok.lim;have I:=Word.refl Z u;have D:=f.ww.T;have E:=f.ww.W;have q:c.W=Z.W:=ok.cfg.2.2.2.2.1;have hW:∀{b:Nat},b=Z.W->u.shape? b=some mI:=λe=>by rw[e];exact f.ww.lY
 have r:=f.bT;have early:∀{aH:Nat} {v:Int} {bR:Mem} {bo:e0},G.l<=28->aH<=28->(bo.T=Z.z.T/\bo.O=Z.O/\bo.ch=Z.ch/\bo.bX=Z.bX/\bo.W=Z.W/\bo.a7=Z.a7)->(aH<=26->bR=jQ bo aH)->bR[2]?=some (true,bo.O,.cells #[cN,cN] 22 (0,0))->∀n,ky Z ((G.grow n 0).gu aH v) bo bR:=λw z B C J n=>tR f w rfl z B C J
 have late:∀{aH:Nat} {v:Int} {ops:List gO},(prun M ops).isSome=true->(∀x∈ops,∀i o v,x=.st i o v->i≠2)->26<aH/\aH<=40->jS aH=jS G.l->∀n,ky Z ((G.grow n 0).gu aH v) c (cK M ops):=λw z B C n=>xr ok rfl rfl rfl rfl ⟨rfl,rfl,rfl,rfl,rfl,rfl⟩ B C (Kn w z)
 have ah:G.l=17\/G.l=18\/G.l=19\/G.l=20\/G.l=21\/G.l=22\/G.l=23\/G.l=24\/G.l=27\/G.l=29\/G.l=30\/G.l=31\/G.l=32\/G.l=33\/G.l=35\/G.l=36\/G.l=37\/G.l=38\/G.l=39\/(G.l=25\/G.l=26\/G.l=28\/G.l=34\/G.l=40):=by omega
 rcases ah with ah|ah|ah|ah|ah|ah|ah|ah|ah|ah|ah|ah|ah|ah|ah|ah|ah|ah|ah|ah
 .rw[ah]at d
  have l:=ok.early (by omega);rw[ah]at l;subst l;exact k' f ah h p d (aH:=18) rfl (jr (by decide)) (early (by omega) (by decide) ok.cfg (λ_=>rfl) rfl _)
 .rw[ah]at d
  have l:=ok.early (by omega);rw[ah]at l;subst l;exact uE f ah h p d (aH:=19) Pl rfl (jr (by decide)) (early (aH:=19) (bo:={c with ib:=u.heap.size}) (bR:=jQ {c with ib:=u.heap.size} 19) (by omega) (by decide) ok.cfg (λ_=>rfl) rfl _)
 .rw[ah]at d
  have l:=ok.early (by omega);rw[ah]at l;subst l;exact uE f ah h p d (aH:=20) Pl rfl (jr (by decide)) (early (aH:=20) (bo:={c with ix:=u.heap.size}) (bR:=jQ {c with ix:=u.heap.size} 20) (by omega) (by decide) ok.cfg (λ_=>rfl) rfl _)
 .rw[ah]at d
  have l:=ok.early (by omega);rw[ah]at l;subst l;exact k' f ah h p d (aH:=21) rfl (jr (by decide)) (early (by omega) (by decide) ok.cfg (λ_=>rfl) rfl _)
 .rw[ah]at d
  have l:=ok.early (by omega);rw[ah]at l;subst l;exact k' f ah h p d (aH:=22) rfl (jr (by decide)) (early (by omega) (by decide) ok.cfg (λ_=>rfl) rfl _)
 .rw[ah]at d
  have l:=ok.early (by omega);rw[ah]at l;subst l;have wg:=r.wg;rw[ah]at wg;exact xz f ah h p d (aH:=23) Pl (.mark (.mark (.nil _))) I D E wg (by decide) rfl (hG o7) rfl (tR f (by omega) rfl (show(23:Nat)<=28 by decide) ok.cfg (λ_=>rfl) rfl)
 .rw[ah]at d
  have l:=ok.early (by omega);rw[ah]at l;subst l;have wg:=r.wg;rw[ah]at wg;obtain⟨H,P⟩:=OL wg;have F:∀{wr:Bool},hf Z u.heap.size ⟨.cell ⟨c.W,0,none⟩,wr,true⟩:=λ{wr}=>by rw[q];exact .wg
  exact xz f ah h p d (aH:=24) (v:=8589934592) Pl (.mark (.load (by rw[q];exact f.ww.fz H) (.store (by rw[q];exact f.ww.fz H) (by rw[q];exact f.ww.nZ 0) (.nil _)))) (Word.set 0 _ (.inr q)) (by rw[q];exact Word.jk f 0 _) (by rw[q];exact Word.dt f rfl) P (by decide) rfl (jX F (hG F)) rfl (tR f (by omega) rfl (show(24:Nat)<=28 by decide) ok.cfg (λ_=>rfl) rfl)
 .rw[ah]at d
  have l:=ok.early (by omega);rw[ah]at l;subst l;have wg:=r.wg;rw[ah]at wg;exact xz f ah h p d (aH:=25) Pl (.mark (.mark (.nil _))) I D E wg (by decide) rfl (hG o9) rfl (tR f (by omega) rfl (show(25:Nat)<=28 by decide) ok.cfg (λ_=>rfl) rfl)
 .rw[ah]at d
  exact k' f ah h p d (aH:=28) rfl (jr (by decide)) (late (nn Z d rfl) (by simp) (by decide) (by rw[ah];rfl) _)
 .rw[ah]at d
  exact uE f ah h p d (aH:=30) Pl rfl (jr (by decide)) (xr ok rfl rfl rfl rfl ⟨rfl,rfl,rfl,rfl,rfl,rfl⟩ (by decide:26<30/\30<=40) (by rw[ah];rfl) (DG ok.out))
 .rw[ah]at d
  exact k' f ah h p d (aH:=31) rfl (jr (by decide)) (late (nn Z d rfl) (by simp) (by decide) (by rw[ah];rfl) _)
 .rw[ah]at d
  exact k' f ah h p d (aH:=32) rfl (jr (by decide)) (late (nn Z d rfl) (by simp) (by decide) (by rw[ah];rfl) _)
 .rw[ah]at d
  exact k' f ah h p d (aH:=33) rfl (jr (by decide)) (late (nn Z d rfl) (by simp) (by decide) (by rw[ah];rfl) _)
 .rw[ah]at d
  exact k' f ah h p d (aH:=34) rfl (jr (by decide)) (Dk ok (nn Z d rfl) rfl rfl (by decide:26<34/\34<=40) (by rw[ah];rfl) rfl)
 .rw[ah]at d
  exact uE f ah h p d (aH:=36) Pl rfl (jr (by decide)) (xr ok rfl rfl rfl rfl ⟨rfl,rfl,rfl,rfl,rfl,rfl⟩ (by decide:26<36/\36<=40) (by rw[ah];rfl) (DG ok.out))
 .rw[ah]at d
  exact k' f ah h p d (aH:=37) rfl (jr (by decide)) (late (nn Z d rfl) (by simp) (by decide) (by rw[ah];rfl) _)
 .rw[ah]at d
  exact k' f ah h p d (aH:=38) rfl (jr (by decide)) (late (nn Z d rfl) (by simp) (by decide) (by rw[ah];rfl) _)
 .rw[ah]at d
  exact k' f ah h p d (aH:=39) rfl (jr (by decide)) (late (nn Z d rfl) (by simp) (by decide) (by rw[ah];rfl) _)
 .rw[ah]at d
  exact k' f ah h p d (aH:=40) rfl (jr (by decide)) (Dk ok (nn Z d rfl) rfl rfl (by decide:26<40/\40<=40) (by rw[ah];rfl) rfl)
 .exact .stop c M x n j a ah h d p rfl
end
end Go.aN
