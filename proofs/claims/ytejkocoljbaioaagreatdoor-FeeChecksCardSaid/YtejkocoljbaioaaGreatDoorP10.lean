/- A part. -/
import Derived.Test.YtejkocoljbaioaaGreatDoorP9
import Derived.Conc.CrowdComm
set_option maxHeartbeats 8000000
set_option maxRecDepth 100000
set_option linter.all false
namespace Go.aO
attribute [-simp] Go.Sem.runT_eq
open Go.Proofs Go.Conc Go.ConcN
variable{es:Array Event}{fH wk:Bool}{f:Goroutine->Goroutine}{m:Int}{an:List dO}{ops:List gZ}{M:Mem}{x y:MemOp}{cap j o s:Nat}{c:fR}{p:gO}
section
variable{X:et}{Z:Stat}[hi X Z]{G aB:bX}{u aC w:World}{t bh:Trace}{k:Bool}{g g':Goroutine}{s aX:ck}{bb:Bool}{x y:bA}{n j c9 bw l aN a:Nat}{rem lk:List Nat}{M b7:Mem}
noncomputable abbrev iL(z:eG):de rM:=vO z
def tq(z:eG):dn (iL z).P (iL z).ext:=by unfold iL vO;exact j8
def t'(z:eG)(p:rM):(iL z).dh p<=400:=bg
def yd:(⟨.dB l,bb⟩:ck).c≠.un:=by intro h;cases h
def Cs(h:l<49):(⟨.dB l,false⟩:ck).role=.I:=if_pos h
def OE(h:l<49)(c:aN<49):g7 ⟨.dB l,false⟩ ⟨.dB aN,false⟩:=⟨(Cs c).trans (Cs h).symm,rfl,rfl,rfl,id,⟨bR,bR⟩⟩
def vP{bz:List Event}(j:Base Z G u t)(E:G.s k=⟨.dB l,false⟩)(c:h0)(bq:Nat)(w:∀b f,c.ρ.r b f->f<bq)(r:∀(i:Nat) own b o,c.M[i]?=some (own,b,o)->b<bq)(B:bq<=u.heap.size)(h:c.Ok X Z G k 4 u)(p:Acc (dZ X.Q) c.V)(q:l<49/\aN<49)(F:stepG aK false g u=.go (bW y c.ja) aC bz.toArray)(calm:Calm u aC)(keep:∀b,b<u.heap.size->aC.heap[b]?≠u.heap[b]?->gY Z G (Z.wk k) b/\bq<=b)(cI:∀e∈bz,lx Z (G.gk u Z k ⟨.dB aN,false⟩) t (Z.wk k) aC.heap.size e)(ok:pO aN lk=true)(z:∀(i:Nat) b o,b7[i]?=some (true,b,o)->bq<=b)(H:cB (iL Z.z) Z (G.gk u Z k ⟨.dB aN,false⟩) (Z.wk k) ⟨aN,lk,b7⟩ c.ja y (bW y c.ja) aC c9 bw)(C:c9*500+bw<n):
 cZ X Z G k g u t (2,⟨c.V,p⟩,(c.nr*500+450)*10000000000+(c.bZ*500+450)*100000+n):=by
 have I:jV Z G (G.gk u Z k ⟨.dB aN,false⟩) (Z.wk k) bq u aC:=qe j calm keep (λb d=>if_pos d) rfl;exact cZ.l3 (aX:=⟨.dB aN,false⟩) j E yd (OE q.1 q.2) F rfl calm (λb d D=>(keep b d D).1) cI (bR)
  (.dB c bq ok z w r (cL B calm.size) (h.rely (dP:=G.gk u Z k ⟨.dB aN,false⟩) rfl I w r) p H) (eQ.last (qM _ _ _ C))
def eV(z:Base Z G u t)(L:G.s k=⟨.dB l,false⟩)(c:h0)(bq:Nat)(p:∀(i:Nat) b o,M[i]?=some (true,b,o)->bq<=b)(I:∀b d,c.ρ.r b d->d<bq)(H:∀(i:Nat) own b o,c.M[i]?=some (own,b,o)->b<bq)(E:bq<=u.heap.size)(h:c.Ok X Z G k 4 u)(f:Acc (dZ X.Q) c.V)(Q:cB (iL Z.z) Z G (Z.wk k) ⟨l,rem,M⟩ c.ja x g u n j)(J:n=a+1)(B:At (iL Z.z) a ⟨l,rem,M⟩ x)(he:Edge.bL ops ⟨aN,lk,b7⟩∈(iL Z.z).cz ⟨l,rem,M⟩)(F:l<49/\aN<49)(ok:pO aN lk=true):
 cZ X Z G k g u t (2,⟨c.V,f⟩,(c.nr*500+450)*10000000000+(c.bZ*500+450)*100000+(n*500+j)):=by
 subst J;obtain⟨y,aC,bz,bw,q,P,calm,keep,cI,D⟩:=Q.bL (aB:=G.gk u Z k ⟨.dB aN,false⟩) (t:=t) (tq _) (t' _) B he (λb=>rfl) rfl;refine vP z L c bq I H E h f F (P false) calm (λb C K=>?_) cI ok (λi b o e=>?_) q (by have:=q.le;omega)
 .obtain⟨w,i,o,e⟩:=keep b C K
  exact⟨w,p i b o e⟩
 .obtain⟨R,r⟩:=D i true b o e
  exact p i b R r
def yX(d:Base Z G u t)(K:G.s k=⟨.dB l,false⟩)(c:h0)(bq:Nat)(D:∀(i:Nat) b o,M[i]?=some (true,b,o)->bq<=b)(H:∀b p,c.ρ.r b p->p<bq)(F:∀(i:Nat) own b o,c.M[i]?=some (own,b,o)->b<bq)(w:bq<=u.heap.size)(h:c.Ok X Z G k 4 u)(r:Acc (dZ X.Q) c.V)(P:cB (iL Z.z) Z G (Z.wk k) ⟨l,rem,M⟩ c.ja x g u n j)(I:n=a+1)(B:At (iL Z.z) a ⟨l,rem,M⟩ x){o:Obj}{to:Nat->rM}(he:Edge.new true o to∈(iL Z.z).cz ⟨l,rem,M⟩)(Q:to u.heap.size=⟨aN,[],M++[(true,u.heap.size,o)]⟩)(E:l<49/\aN<49)(ok:pO aN []=true):
 cZ X Z G k g u t (2,⟨c.V,r⟩,(c.nr*500+450)*10000000000+(c.bZ*500+450)*100000+(n*500+j)):=by
 subst I;obtain⟨y,aC,bw,f,L,calm,keep,S⟩:=P.z2 (aB:=G.gk u Z k ⟨.dB aN,false⟩) (tq _) (t' _) B he (λb=>rfl) rfl d.oc d.fv;rw[Q]at f;refine vP (bz:=[]) d K c bq H F w h r E (L false) calm (λb C J=>absurd (keep b C) J) (λe he=>(by cases he)) ok (λi b R e=>?_) f (by have:=f.le;omega);rcases Nat.lt_or_ge i M.length with ad|ad
 .rw[jz ad]at e
  exact D i b R e
 .rw[jb ad]at e
  rcases z:i-M.length with _|q
  .rw[z]at e
   simp at e;rw[<-e.1];exact w
  .rw[z]at e;simp at e
def Cv(d:Base Z G u t)(K:G.s k=⟨.dB l,false⟩)(c:h0)(bq:Nat)(B:∀(i:Nat) b o,M[i]?=some (true,b,o)->bq<=b)(F:∀b p,c.ρ.r b p->p<bq)(E:∀(i:Nat) own b o,c.M[i]?=some (own,b,o)->b<bq)(C:bq<=u.heap.size)(h:c.Ok X Z G k 4 u)(q:Acc (dZ X.Q) c.V)(f:cB (iL Z.z) Z G (Z.wk k) ⟨l,rem,M⟩ c.ja x g u n j)(H:n=a+1)(z:At (iL Z.z) a ⟨l,rem,M⟩ x){v:Value}(J:o<4)(he:Edge.fix false false [.val v] [.load .plain ⟨Z.z.T,o,none⟩ v] ⟨aN,[],M⟩∈(iL Z.z).cz ⟨l,rem,M⟩)(P:u.cell? ⟨Z.z.T,o,none⟩=some v)(D:l<49/\aN<49)(ok:pO aN []=true):
 cZ X Z G k g u t (2,⟨c.V,q⟩,(c.nr*500+450)*10000000000+(c.bZ*500+450)*100000+(n*500+j)):=by
 subst H;have r:=kN d k ⟨.dB aN,false⟩ u.heap.size u.drawn;obtain⟨y,bw,w,_,L⟩:=f.mr (aB:=G.gk u Z k ⟨.dB aN,false⟩) (tq _) (t' _) z he (.load P (.nil _)) ⟨f.mem,f.own.rely f.mem r⟩;refine vP (bz:=[⟨.cell ⟨Z.z.T,o,none⟩,false,false⟩]) d K c bq F E C h q D (L false) (Calm.refl u) (λb Q I=>absurd rfl I) (λe he=>?_) ok B w (by have:=w.le;omega);rw[ev he];exact .mem rfl d.fv.1 bR ⟨d.ap.bM,d.ap.rC⟩ (λ_=>.inr ⟨o,rfl,J⟩) (.inr ⟨.inl (d.iA.ro k _ (.inl rfl)),rfl⟩)
def KD(r:List Nat):(r.filter (· < 3)).all (· < 3)=true:=by rw[List.all_eq_true];intro a c;exact(List.mem_filter.1 c).2
def IU(p:Base Z G u t)(I:G.s k=⟨.dB 47,false⟩)(c:h0)(bq:Nat)(B:∀(i:Nat) b o,M[i]?=some (true,b,o)->bq<=b)(E:∀b l,c.ρ.r b l->l<bq)(D:∀(i:Nat) own b o,c.M[i]?=some (own,b,o)->b<bq)(C:bq<=u.heap.size)(h:c.Ok X Z G k 4 u)(q:Acc (dZ X.Q) c.V)(f:cB (iL Z.z) Z G (Z.wk k) ⟨47,rem,M⟩ c.ja x g u n j)(F:n=a+1)(z:At (iL Z.z) a ⟨47,rem,M⟩ x):
 cZ X Z G k g u t (2,⟨c.V,q⟩,(c.nr*500+450)*10000000000+(c.bZ*500+450)*100000+(n*500+j)):=by
 subst F;obtain⟨w,y,bw,K,d,J⟩:=f.xi (tq _) (t' _) z (to:=λr=>⟨48,r.filter (· < 3),M⟩) bI;have r:=kN p k ⟨.dB 48,false⟩ u.heap.size (u.drawn+1);exact vP (aN:=48) (bz:=[]) p I c bq E D C h q a6 (J false) (Calm.at u _) (λb L H=>absurd rfl H) (λe he=>(by cases he)) (KD w) B ⟨d.on,d.le,rfl,rfl,rfl,d.mem,f.own.rely f.mem r⟩ (by have:=d.le;omega)
def IQ(d:Base Z G u t)(o:G.s k=⟨.dB 49,false⟩)(c:h0)(h:c.Ok X Z G k 4 u)(f:Acc (dZ X.Q) c.V)(w:cB (iL Z.z) Z G (Z.wk k) ⟨49,rem,M⟩ c.ja x g u n j)(i:At (iL Z.z) a ⟨49,rem,M⟩ x):
 cZ X Z G k g u t (2,⟨c.V,f⟩,(c.nr*500+450)*10000000000+(c.bZ*500+450)*100000+(n*500+j)):=by
 obtain⟨z,p⟩:=i.leave bI;have r:=kN d k ⟨.dG 4,false⟩ u.heap.size u.drawn;have q:stepG aK false g u=.go (S6 (c.j7.1.finish unit) (c.j7.2++c.lj)) u:=by obtain⟨st,off,rfl⟩:=w.shape;have:=p false st off c.j7.1 (c.j7.2++c.lj) u (uu h.run);rw[z];exact this
 exact cZ.still (aX:=⟨.dG 4,false⟩) (n:=u.drawn) d o yd ⟨rfl,rfl,rfl,rfl,(bR),⟨bR,bR⟩⟩ q rfl
  (.dG (l:=4) c.toRCtx rfl (λ_ _=>rfl) (h.r.rely (dP:=G.gk u Z k ⟨.dG 4,false⟩) rfl r h.r.l.heap.floor h.k2) f ⟨h.on,bg,rfl,rfl,rfl,lY _,l6 _ _ _⟩) (eQ.last (by have:=tN ((c.nr*500+450)*10000000000) (c.bZ*500+400) (c.bZ*500+450) U;exact gu this (Nat.le_add_right _ _)))
def Kk{i B:Nat}(f:13<=o)(d:Z.z.T<B)(ee:eX Z G=.written i):vq Z G t i B ⟨.cell ⟨Z.z.T,o,none⟩,true,false⟩:=by
 refine⟨d,λb c _=>?_,λe=>?_⟩
 .have c:some (⟨.cell ⟨Z.z.T,o,none⟩,true,.plain⟩:Touch)=some b:=c
  rw[<-bD c];exact .inr ⟨⟨o,rfl,f⟩,.inl ee⟩
 .have e:(Loc.cell ⟨Z.z.T,o,none⟩)=.cell ⟨Z.z.T,4,none⟩:=e
  injection e with e
  injection e with _ e
  omega
def tV{w w':World}{b:Nat}{c:Array Value}{e:TypeId}{v:Value}{l:List cD}(h:w.heap[b]?=some (.cells c e (0,0)))(d:o<c.size)(k:Does (w.setCell ⟨b,o,none⟩ v) l w' es):Does w (.store .plain ⟨b,o,none⟩ v::l) w' (#[⟨.cell ⟨b,o,none⟩,true,false⟩]++es):=
 .store (x:=c[o]) (by rw[aU h];simp[d]) (b3 h) k
def u1(T:Nat):List Event:=[⟨.cell ⟨T,13,none⟩,true,false⟩,⟨.cell ⟨T,14,none⟩,true,false⟩,⟨.cell ⟨T,15,none⟩,true,false⟩,⟨.cell ⟨T,16,none⟩,true,false⟩,⟨.cell ⟨T,17,none⟩,true,false⟩]
def QW(T:Nat):hZ false (cI (ua true T))=u1 T:=rfl
def QZ(z:eG)(mu ms:Int)(aY:Bool):(((((eN z mu ms aY false).setIfInBounds 13 (ah 1)).setIfInBounds 14 (ah 1)).setIfInBounds 15 (ah 3)).setIfInBounds 16 (ah 0)).setIfInBounds 17 (ah 3)=eN z mu ms aY true:=by simp[eN,kP]
def IW(f:Base Z G u t)(z:G.s k=⟨.dB 48,false⟩)(c:h0)(bq:Nat)(ak:∀(i:Nat) b o,M[i]?=some (true,b,o)->bq<=b)(ap:∀b Q,c.ρ.r b Q->Q<bq)(ao:∀(i:Nat) own b o,c.M[i]?=some (own,b,o)->b<bq)(al:bq<=u.heap.size)(h:c.Ok X Z G k 4 u)(D:Acc (dZ X.Q) c.V)(B:cB (iL Z.z) Z G (Z.wk k) ⟨48,[],M⟩ c.ja x g u n j)(aq:n=a+1)(ag:At (iL Z.z) a ⟨48,[],M⟩ x):
 cZ X Z G k g u t (2,⟨c.V,D⟩,(c.nr*500+450)*10000000000+(c.bZ*500+450)*100000+(n*500+j)):=by
 subst aq;have E:=f.b9.side k;rw[z]at E;have E:cO .I (G.s (!k)).role G.mu G.ms G.aY G.bc:=E;obtain⟨F,av,p,H⟩:=cO.write E;have ar:∀j,(G.s j).eC=false:=λj=>by
  rcases d:(G.s j).eC with _|_
  .rfl
  .rw[f.b9.eC j d]at F;cases F
 have e:∀j,(G.wk k ⟨.dB 49,false⟩ G.mu G.ms G.aY true G.v G.m).s j=if j=k then⟨.dB 49,false⟩else G.s j:=λ_=>rfl
 have I:=f.ww.T;rw[av]at I;have b6:∀{c:Array Value},c.size=28->∀o v,(c.setIfInBounds o v).size=28:=λh o v=>by simpa using h
 have z0:=xZ Z.z G.mu G.ms G.aY false;have J:=cU (o:=13) (v:=ah 1) I;have K:=cU (o:=14) (v:=ah 1) J;have L:=cU (o:=15) (v:=ah 3) K;have P:=cU (o:=16) (v:=ah 0) L;have C:=cU (o:=17) (v:=ah 3) P;have hd:=tV (v:=ah 1) I (by rw[z0];decide:13<_) (tV (v:=ah 1) J (by rw[b6 z0];decide:14<_) (tV (v:=ah 3) K (by rw[b6 (b6 z0 _ _)];decide:15<_) (tV (v:=ah 0) L (by rw[b6 (b6 (b6 z0 _ _) _ _)];decide:16<_) (tV (v:=ah 3) P (by rw[b6 (b6 (b6 (b6 z0 _ _) _ _) _ _)];decide:17<_) (.nil _)))));have wd:Word Z u (((((u.setCell ⟨Z.z.T,13,none⟩ (ah 1)).setCell ⟨Z.z.T,14,none⟩ (ah 1)).setCell ⟨Z.z.T,15,none⟩ (ah 3)).setCell ⟨Z.z.T,16,none⟩ (ah 0)).setCell ⟨Z.z.T,17,none⟩ (ah 3)):=
  (((((Word.refl Z u).trans (Word.set 13 _ (.inl rfl))).trans (Word.set 14 _ (.inl rfl))).trans (Word.set 15 _ (.inl rfl))).trans (Word.set 16 _ (.inl rfl))).trans (Word.set 17 _ (.inl rfl))
 rw[QZ]at C;generalize ax:((((u.setCell ⟨Z.z.T,13,none⟩ (ah 1)).setCell ⟨Z.z.T,14,none⟩ (ah 1)).setCell ⟨Z.z.T,15,none⟩ (ah 3)).setCell ⟨Z.z.T,16,none⟩ (ah 0)).setCell ⟨Z.z.T,17,none⟩ (ah 3)=aC at hd wd C;have hW:aC.heap[Z.W]?=some (.cells #[.int .u64 G.v,.int .u32 G.m] 204 (0,0)):=by
  have q:∀(w:World) o v,(w.setCell ⟨Z.z.T,o,none⟩ v).heap[Z.W]?=w.heap[Z.W]?:=λw o v=>e1 (a:=⟨Z.z.T,o,none⟩) (Ne.symm f.ap.bM)
  rw[<-ax,q,q,q,q,q];exact f.ww.W
 have r:=pa f wd C (aB:=G.wk k ⟨.dB 49,false⟩ G.mu G.ms G.aY true G.v G.m) rfl rfl (Z.wk k);obtain⟨y,bw,T,_,S⟩:=B.mr (aB:=G.wk k ⟨.dB 49,false⟩ G.mu G.ms G.aY true G.v G.m) (to:=⟨49,[],M⟩) (tq _) (t' _) ag bI hd ⟨B.mem.rely B.own r B.mem.floor,B.own.rely B.mem r⟩;have V:=f.b9.tn k;rw[z]at V;have un:(⟨.dB 49,false⟩:ck).c=.un↔(⟨.dB 48,false⟩:ck).c=.un:=⟨bR,bR⟩
 have Y:=f.b9.wk z (aX:=⟨.dB 49,false⟩) H V bR rfl un bR id;have W:ea Z (G.wk k ⟨.dB 49,false⟩ G.mu G.ms G.aY true G.v G.m) aC:=ea.of f wd C hW rfl rfl;have aj:∀a:eF,a.ig (G.wk k ⟨.dB 49,false⟩ G.mu G.ms G.aY true G.v G.m)↔a.ig G:=by
  intro a;cases a with
  |main=>exact Iff.rfl
  |dN j=>
   show((G.wk k ⟨.dB 49,false⟩ G.mu G.ms G.aY true G.v G.m).s j).c≠.un↔(G.s j).c≠.un;rw[e];split
   .rename_i d;subst d;rw[z];exact not_congr un
   .exact Iff.rfl
  |eu=>exact Iff.rfl
 have aA:eX Z G=.fresh:=by
  unfold eX;rw[F];cases k with
  |false=>
   have p:(G.s true).role.gC=false:=p;rw[z,p];rfl
  |true=>
   have p:(G.s false).role.gC=false:=p;rw[p,z];rfl
 have U:eX Z (G.wk k ⟨.dB 49,false⟩ G.mu G.ms G.aY true G.v G.m)=.written (Z.wk k):=by
  unfold eX;rw[e,e];show(if G.aY then _ else _)=_;rw[F];cases k with
  |false=>rfl
  |true=>
   have p:(G.s false).role.gC=false:=p;simp[p];rfl
 have aa:Apart Z (G.wk k ⟨.dB 49,false⟩ G.mu G.ms G.aY true G.v G.m):=f.ap.same rfl rfl;have rg:Grow G (G.wk k ⟨.dB 49,false⟩ G.mu G.ms G.aY true G.v G.m) u.heap.size:=⟨λb _=>rfl,rfl⟩
 have aw:fp (pl Z (G.wk k ⟨.dB 49,false⟩ G.mu G.ms G.aY true G.v G.m)) t (eX Z (G.wk k ⟨.dB 49,false⟩ G.mu G.ms G.aY true G.v G.m)) u.heap.size:=by have:=f.dy.dy;rw[aA]at this;rw[U];exact(this.begin _).oa rg
 have R:∀e∈u1 Z.z.T,∃o,13<=o/\e=⟨.cell ⟨Z.z.T,o,none⟩,true,false⟩:=λe he=>by simp only[u1,List.mem_cons,iN,or_false]at he;rcases he with rfl|rfl|rfl|rfl|rfl<;>exact⟨_,a6,rfl⟩
 have az:e5 Z (G.wk k ⟨.dB 49,false⟩ G.mu G.ms G.aY true G.v G.m) (t++MemOp.ofEvents (Z.wk k) g.frame.fn g.frame.place (u1 Z.z.T).toArray) u.heap.size:=by
  refine e5.app (l:=u1 Z.z.T) aa f.dy rg bg (.dN k) (by show(G.s k).c≠.un;rw[z];exact yd) aw (λe he=>?_) aj ?_ (λa D=>?_) (λj d=>?_) (λ_ _ _ _ _ _ j=>?_) (λj d=>?_) (λd=>⟨d,bR⟩) (λbz he b ai au=>?_) id
  .obtain⟨o,H,rfl⟩:=R e he
   exact Kk H f.fv.1 U
  .show(((G.wk k ⟨.dB 49,false⟩ G.mu G.ms G.aY true G.v G.m).s k).deaf)=deafBehind (G.s k).deaf _
   rw[e,if_pos rfl,z];rfl
  .cases a with
   |main=>rfl
   |dN j=>
    show((G.wk k ⟨.dB 49,false⟩ G.mu G.ms G.aY true G.v G.m).s j).deaf=(G.s j).deaf;rw[e,if_neg (λd=>D (by rw[d]))]
   |eu=>rfl
  .rw[e]at d
   split at d
   .cases d
   .exact .inl d
  .rw[e]
   split
   .rfl
   .exact ar j
  .rw[e]at d
   split at d
   .cases d
   .rename_i am
    exact⟨d,λay=>by cases ay;exact absurd rfl am⟩
  .obtain⟨o,H,rfl⟩:=R bz he
   cases ai;cases au
 have ad:Base Z (G.wk k ⟨.dB 49,false⟩ G.mu G.ms G.aY true G.v G.m) _ _:=f.rest rfl rfl rfl wd.size W Y (by rw[wd.size];exact az);rw[QW]at S;exact .go (G.wk k ⟨.dB 49,false⟩ G.mu G.ms G.aY true G.v G.m) ⟨.dB 49,false⟩ _ _ _ _ (S false) rfl rfl rfl rfl rfl ad (λi _=>e0.same (aB:=G.wk k ⟨.dB 49,false⟩ G.mu G.ms G.aY true G.v G.m) rfl rfl wd.size (λb ae af _=>wd.keep b ae af) W)
  (.dB (l:=49) (rem:=[]) c bq rfl ak ap ao (by rw[wd.size];exact al) (h.rely (dP:=G.wk k ⟨.dB 49,false⟩ G.mu G.ms G.aY true G.v G.m) rfl r h.r.l.heap.floor h.k2) D T) (eQ.last (qM _ _ ((a+1)*500+j) (by have:=T.le;omega))) rfl (.inl rfl) (.inl rfl)
def IM(f:Base Z G u t)(C:G.s k=⟨.dB 48,false⟩)(c:h0)(bq:Nat)(ok:pO 48 rem=true)(p:∀(i:Nat) b o,M[i]?=some (true,b,o)->bq<=b)(z:∀b F,c.ρ.r b F->F<bq)(w:∀(i:Nat) own b o,c.M[i]?=some (own,b,o)->b<bq)(q:bq<=u.heap.size)(h:c.Ok X Z G k 4 u)(d:Acc (dZ X.Q) c.V)(D:cB (iL Z.z) Z G (Z.wk k) ⟨48,rem,M⟩ c.ja x g u n j)(B:n=a+1)(l:At (iL Z.z) a ⟨48,rem,M⟩ x):
 cZ X Z G k g u t (2,⟨c.V,d⟩,(c.nr*500+450)*10000000000+(c.bZ*500+450)*100000+(n*500+j)):=by
 rcases rem with _|⟨b,r⟩
 .exact IW f C c bq p z w q h d D B l
 .have ok:(b::r).all (· < 3)=true:=ok
  simp only[List.all_cons,Bool.and_eq_true,decide_eq_true_eq]at ok;obtain⟨H,E⟩:=ok;rcases b with _|_|_|b
  .exact eV f C c bq p z w q h d D B l (aN:=48) (lk:=r) (b7:=M) bI a6 E
  .exact eV f C c bq p z w q h d D B l (aN:=48) (lk:=r) (b7:=M) bI a6 E
  .exact eV f C c bq p z w q h d D B l (aN:=48) (lk:=r) (b7:=M) bI a6 E
  .omega
def IV(f:Base Z G u t)(w:G.s k=⟨.dB l,false⟩)(c:h0)(bq:Nat)(ok:pO l rem=true)(B:∀(i:Nat) b o,M[i]?=some (true,b,o)->bq<=b)(E:∀b I,c.ρ.r b I->I<bq)(D:∀(i:Nat) own b o,c.M[i]?=some (own,b,o)->b<bq)(C:bq<=u.heap.size)(h:c.Ok X Z G k 4 u)(q:Acc (dZ X.Q) c.V)(p:cB (iL Z.z) Z G (Z.wk k) ⟨l,rem,M⟩ c.ja x g u n j):
 cZ X Z G k g u t (2,⟨c.V,q⟩,(c.nr*500+450)*10000000000+(c.bZ*500+450)*100000+(n*500+j)):=by
 rcases p.quiet (tq _)with⟨a,F,z⟩|⟨y,bw,L,H,K⟩
 case inr=>
  have r:=kN f k ⟨.dB l,false⟩ u.heap.size u.drawn;exact cZ.still (aX:=⟨.dB l,false⟩) (n:=u.drawn) f w yd (g7.refl _) (K false u) rfl
   (.dB c bq ok B E D C (h.rely (dP:=G.gk u Z k ⟨.dB l,false⟩) rfl r h.r.l.heap.floor h.k2) q ⟨H.on,H.le,rfl,rfl,rfl,H.mem,p.own.rely p.mem r⟩) (eQ.last (qM _ _ _ U))
 have J:l<=49:=by
  unfold pO at ok;split at ok
  .omega
  .exact of_decide_eq_true ok
 have J:l=0\/l=1\/l=2\/l=3\/l=4\/l=5\/l=6\/l=7\/l=8\/l=9\/l=10\/l=11\/l=12\/l=13\/l=14\/l=15\/l=16\/l=17\/l=18\/l=19\/l=20\/l=21\/l=22\/l=23\/l=24\/l=25\/l=26\/l=27\/l=28\/l=29\/l=30\/l=31\/l=32\/l=33\/l=34\/l=35\/l=36\/l=37\/l=38\/l=39\/l=40\/l=41\/l=42\/l=43\/l=44\/l=45\/l=46\/l=47\/l=48\/l=49:=U;have cq:=λ{aN:Nat} {lk:List Nat} {b7:Mem} {ops:List gZ} he b d=>eV (aN:=aN) (lk:=lk) (b7:=b7) (ops:=ops) f w c bq B E D C h q p F z he b d
 rcases J with rfl|rfl|rfl|rfl|rfl|rfl|rfl|rfl|rfl|rfl|rfl|rfl|rfl|rfl|rfl|rfl|rfl|rfl|rfl|rfl|rfl|rfl|rfl|rfl|rfl|rfl|rfl|rfl|rfl|rfl|rfl|rfl|rfl|rfl|rfl|rfl|rfl|rfl|rfl|rfl|rfl|rfl|rfl|rfl|rfl|rfl|rfl|rfl|rfl|rfl
 .exact yX f w c bq B E D C h q p F z (aN:=1) bI rfl a6 rfl
 .exact cq (aN:=2) bI a6 rfl
 .exact Cv f w c bq B E D C h q p F z (aN:=3) (o:=2) (v:=sl Z.z.R 2) a6 bI (f.ww.r8 (by cases G.bc<;>simp[eN,kP])) a6 rfl
 .exact cq (aN:=4) bI a6 rfl
 .exact yX f w c bq B E D C h q p F z (aN:=5) bI rfl a6 rfl
 .exact cq (aN:=6) bI a6 rfl
 .exact cq (aN:=7) bI a6 rfl
 .exact cq (aN:=8) bI a6 rfl
 .exact cq (aN:=9) bI a6 rfl
 .exact cq (aN:=10) bI a6 rfl
 .exact cq (aN:=11) bI a6 rfl
 .exact cq (aN:=12) bI a6 rfl
 .exact cq (aN:=13) bI a6 rfl
 .exact cq (aN:=14) bI a6 rfl
 .exact cq (aN:=15) bI a6 rfl
 .exact cq (aN:=16) bI a6 rfl
 .exact cq (aN:=17) bI a6 rfl
 .exact cq (aN:=18) bI a6 rfl
 .exact cq (aN:=19) bI a6 rfl
 .exact cq (aN:=20) bI a6 rfl
 .exact cq (aN:=21) bI a6 rfl
 .exact cq (aN:=22) bI a6 rfl
 .exact cq (aN:=23) bI a6 rfl
 .exact cq (aN:=24) bI a6 rfl
 .exact cq (aN:=25) bI a6 rfl
 .exact cq (aN:=26) bI a6 rfl
 .exact cq (aN:=27) bI a6 rfl
 .exact cq (aN:=28) bI a6 rfl
 .exact yX f w c bq B E D C h q p F z (aN:=29) bI rfl a6 rfl
 .exact cq (aN:=30) bI a6 rfl
 .exact cq (aN:=31) bI a6 rfl
 .exact cq (aN:=32) bI a6 rfl
 .exact cq (aN:=33) bI a6 rfl
 .exact cq (aN:=34) bI a6 rfl
 .exact cq (aN:=35) bI a6 rfl
 .exact cq (aN:=36) bI a6 rfl
 .exact cq (aN:=37) bI a6 rfl
 .exact cq (aN:=38) bI a6 rfl
 .exact cq (aN:=39) bI a6 rfl
 .exact cq (aN:=40) bI a6 rfl
 .exact cq (aN:=41) bI a6 rfl
 .exact cq (aN:=42) bI a6 rfl
 .exact cq (aN:=43) bI a6 rfl
 .exact cq (aN:=44) bI a6 rfl
 .exact Cv f w c bq B E D C h q p F z (aN:=45) (o:=3) (v:=sl Z.z.Fr 1) a6 bI (f.ww.r8 (by cases G.bc<;>simp[eN,kP])) a6 rfl
 .exact cq (aN:=46) bI a6 rfl
 .exact cq (aN:=47) bI a6 rfl
 .exact IU f w c bq B E D C h q p F z
 .exact IM f w c bq ok B E D C h q p F z
 .exact IQ f w c h q p z
end
section
variable{X:et}{Z:Stat}[hi X Z]{G aB:bX}{u aC w:World}{t bh:Trace}{k:Bool}{g g':Goroutine}{s aX:ck}{bb:Bool}{x y:bA}{n j c9 bw l aN a:Nat}{B:Nat}
def Sn{bt:gQ X.Q}(j:Base Z G u t)(q:(G.s k).c≠.un)(J:bt.1≠0)(w:fz X Z G k g u (G.s k) bt):cZ X Z G k g u t bt:=by
 generalize i:G.s k=s at w;cases w with
 |un bb bt=>rw[i]at q;exact absurd rfl q
 |gone gA K r=>exact absurd rfl J
 |out gA ok h E I r=>exact M4 j i h ⟨ok,I,r⟩ E
 |lift c D B C h d=>subst D;exact LA j i c B C h d
 |fx c kd bG bH df M rem bq ok l p o z h d f=>exact NQ j i c ⟨h,p,o⟩ d ok l z f
 |dG c ok H h d f=>exact Jc j i c h d ok H f
 |lock c h d f=>exact LR j i c h d f
 |dB c bq ok l p F o h d f=>exact IV j i c bq ok l p F o h d f
 |iu c h d f=>exact Rx j i c h d f
noncomputable abbrev jD(Z:Stat):de gO:=yY ⟨Z.W,Z.cg,Z.ch⟩
def rK(Z:Stat):dn (jD Z).P (jD Z).ext:=by unfold jD yY;exact j8
def wy(Z:Stat)(p:gO):(jD Z).dh p<=400:=bg
def bX.ew(G:bX)(p:gO)(v m:Int):bX:={G with k:=.at p,v:=v,m:=m}
inductive mY(Z:Stat)(G:bX)(p:gO)(g:Goroutine)(u:World)(t:Trace)(bt:Nat):Prop
 |go (aB:bX) (ia:gO) (aC:World) (l:List Event) (g':Goroutine) (di:bA) (c9 bw:Nat) (aW:stepG aK false g u=.go g' aC l.toArray) (aa:aB.k=.at ia) (af:aB.s=G.s) (aj:aB.l=G.l) (iP:aB.bP=G.bP) (jM:aB.cy=G.cy)
  (hb:Base Z aB aC (t++MemOp.ofEvents (Z.N+2) g.frame.fn g.frame.place l.toArray)) (au:∀i,i≠Z.N+2->e0 Z G aB i u aC) (aA:cB (jD Z) Z aB (Z.N+2) ia [] di g' aC c9 bw) (aS:c9*500+bw<bt) (cS:g'.status=.running)
  (fN:aB.ms=G.ms) (hm:aB.m=G.m\/aB.m=0) (dX:aB.k.shut=G.k.shut\/mayWake aK g=true):mY Z G p g u t bt
 |wait (aW:stepG aK false g u=.go ⟨g.frame,g.callers,.blocked,none,none⟩ u) (ar:p=.gq) (hm:G.m=0):mY Z G p g u t bt
 |fin (aW:stepG aK false g u=.go ⟨g.frame,g.callers,.finished,none,none⟩ u) (ar:p=.fin):mY Z G p g u t bt
def g5.Du(a:g5 G)(h:G.k=.at p):decide (24<=G.l)=true:=by
 have:¬G.l<27:=λc=>by rw[a.mS.1 c]at h;cases h
 exact decide_eq_true U
def g5.ew(a:g5 G){q:gO}{v:Int}(h:G.k=.at p)(wg:ey true (G.s false).cR (G.s true).cR (dE.at q).ph=some (v,m))(c:left (G.s false).cR (G.s true).cR<=(dE.at q).bound):g5 (G.ew q v m):=
 ⟨a.once,by show ey (decide (24<=G.l)) _ _ _=_;rw[a.Du h];exact wg,c,a.cnt,a.l9,⟨λd=>absurd (a.mS.1 d) (by rw[h];intro e;cases e),bR⟩,a.pG,a.bY,a.eC⟩
def g5.q6(a:g5 G)(h:G.k=.at p):ey true (G.s false).cR (G.s true).cR (dE.at p).ph=some (G.v,G.m):=by have:=a.wg;rw[a.Du h,h]at this;exact this
def vf(Z:Stat)(k:Bool):Z.wk k≠Z.N+2:=by cases k<;>simp[Stat.wk]
def Dv{q:gO}{v:Int}(h:G.k=.at p)(a:eF):a.ig (G.ew q v m)↔a.ig G:=by
 cases a with
 |main=>exact Iff.rfl
 |dN j=>exact Iff.rfl
 |eu=>exact⟨λ_=>(by show G.k≠.un;rw[h];intro e;cases e),λ_ e=>(by cases e)⟩
def wO(h:G.k=.at p):eF.ig G .eu:=by show G.k≠.un;rw[h];intro e;cases e
def oG{to:gO}{v:Int}(l:Base Z G u t)(c:G.k=.at p)(d:cB (jD Z) Z G (Z.N+2) p [] x g u n j)(L:n=a+1)(H:At (jD Z) a p x){h:List cD}(he:Edge.fix true wk an h to∈(jD Z).cz p)(hd:Does u h aC es)(wd:Word Z u aC)(q:aC.heap[Z.z.T]?=some (.cells (eN Z.z G.mu G.ms G.aY G.bc) 100 (0,0)))(hW:aC.heap[Z.W]?=some (.cells #[.int .u64 v,.int .u32 m] 204 (0,0)))(wg:ey true (G.s false).cR (G.s true).cR (dE.at to).ph=some (v,m))(I:left (G.s false).cR (G.s true).cR<=(dE.at to).bound)(f:(dE.at to).shut=false/\(dE.at p).shut=false)(M:(dE.at to).said=false->(dE.at p).said=false)(K:∀e∈hZ true (cI h),iv Z u.heap.size e)(J:(dE.at to).deaf=deafBehind (dE.at p).deaf (hZ true (cI h)).toArray)(hm:m=G.m\/m=0):mY Z G p g u t (n*500+j):=by
 subst L;have r:=pa l wd q (aB:=G.ew to v m) rfl rfl (Z.N+2);obtain⟨y,bw,w,_,P⟩:=d.mr (aB:=G.ew to v m) (rK _) (wy _) H he hd ⟨d.mem.rely d.own r d.mem.floor,d.own.rely d.mem r⟩;have z:=l.b9.ew c wg I;have Q:ea Z (G.ew to v m) aC:=ea.of l wd q hW (by rw[c];exact f.1.trans f.2.symm) rfl;obtain⟨B,C⟩:=l.sync (aB:=G.ew to v m) .eu (wO c) rfl rfl rfl Q z wd.size (λb D E _=>wd.keep b D E) K rfl (Dv c) (by show(dE.at to).deaf=deafBehind G.k.deaf _;rw[c];exact J) (λa F=>by
  cases a with
  |main=>rfl
  |dN j=>rfl
  |eu=>exact absurd rfl F) g.frame.fn g.frame.place (λj o=>.inl o) (λj o=>⟨o,bR⟩) (λe=>by
  have e:(dE.at to).shut=true:=e;rw[f.1]at e;cases e) (λe=>by rw[c];exact M e)
 exact .go (G.ew to v m) to aC _ _ y a bw (P false) rfl rfl rfl rfl rfl B (λi _=>C i) w (by have:=w.le;omega) rfl rfl hm (.inl (by rw[c];exact f.1.trans f.2.symm))
def Hm(l:Base Z G u t){q:gO}(h:G.k=.at p)(c:(dE.at q).ph=(dE.at p).ph)(d:(dE.at q).deaf=(dE.at p).deaf)(f:(dE.at p).bound<=(dE.at q).bound)(g:(dE.at q).shut=(dE.at p).shut)(j:(dE.at q).said=(dE.at p).said)(n i:Nat):Alike G ((G.grow n i).ew q G.v G.m):=by
 refine⟨λ_=>rfl,λ_=>rfl,λ_=>rfl,λ_=>rfl,λ_=>id,λ_=>Iff.rfl,?_,?_,?_,?_,?_,⟨bR,λe=>(by rw[h]at e;cases e)⟩,Iff.rfl,Iff.rfl,Iff.rfl,l.b9.bY,rfl,rfl,rfl,rfl,rfl,rfl,rfl,rfl,rfl,rfl⟩
 .rw[h];exact c
 .rw[h];exact d
 .rw[h];exact f
 .rw[h];exact g
 .rw[h];exact j
def IG{q:gO}{bz:List Event}(h:Base Z G u t)(c:G.k=.at p)(fA:Alike G ((G.grow u.heap.size (Z.N+2)).ew q G.v G.m))(z:(dE.at p).shut=false)(B:stepG aK false g u=.go g' aC bz.toArray)(w:g'.status=.running)(calm:Calm u aC)(keep:∀b,b<u.heap.size->aC.heap[b]?≠u.heap[b]?->gY Z G (Z.N+2) b)(cI:∀e∈bz,lx Z ((G.grow u.heap.size (Z.N+2)).ew q G.v G.m) t (Z.N+2) aC.heap.size e)(C:cB (jD Z) Z ((G.grow u.heap.size (Z.N+2)).ew q G.v G.m) (Z.N+2) q [] y g' aC c9 bw)(r:c9*500+bw<n):mY Z G p g u t n:=by obtain⟨d,f⟩:=h.l3 .eu (wO c) fA (λb=>rfl) calm keep cI (λj o=>by cases o) (λ_ e=>by rw[c,z]at e;cases e) g.frame.fn g.frame.place;exact .go ((G.grow u.heap.size (Z.N+2)).ew q G.v G.m) q aC bz g' y c9 bw B rfl rfl rfl rfl rfl d (λi l=>f i l) C r w rfl (.inl rfl) (.inl fA.zE)
def IH(c:Base Z G u t)(f:G.k=.at .c4)(h:cB (jD Z) Z G (Z.N+2) .c4 [] x g u n j)(H:n=a+1)(F:At (jD Z) a .c4 x):mY Z G .c4 g u t (n*500+j):=by
 subst H;have wd:=Word.refl Z u;have r:=pa c wd c.ww.T (aB:=G.ew .gq G.v G.m) rfl rfl (Z.N+2);obtain⟨y,bw,q,_,I⟩:=h.mr (aB:=G.ew .gq G.v G.m) (to:=.gq) (rK _) (wy _) F bI (.mark (.mark (.nil u))) ⟨h.mem,h.own.rely h.mem r⟩;have wg:=c.b9.q6 f;have C:g5 (G.ew .gq G.v G.m):=c.b9.ew f wg (by have:=c.b9.bound;rw[f]at this;exact this);have B:ea Z (G.ew .gq G.v G.m) u:=ea.of c wd c.ww.T c.ww.W (by rw[f];rfl) rfl;have o:Apart Z (G.ew .gq G.v G.m):=c.ap.same rfl rfl;have p:(pl Z (G.ew .gq G.v G.m)).jy (.cell (hn Z.W)):=.inr (.inl ⟨_,rfl,rfl⟩);have z:∀{b:Touch},(MemAct.ofEvent ⟨.mark (.write (hn Z.W)),false,true⟩).touch?=some b->b=⟨.cell (hn Z.W),true,.said⟩:=λ{b} d=>by have d:some (⟨.cell (hn Z.W),true,.said⟩:Touch)=some b:=d;exact(bD d).symm
 have J:e5 Z (G.ew .gq G.v G.m) (t++MemOp.ofEvents (Z.N+2) g.frame.fn g.frame.place [⟨.mark (.write (hn Z.W)),false,true⟩].toArray) u.heap.size:=by
  refine e5.app o c.dy ⟨λb _=>rfl,rfl⟩ bg .eu (wO f) c.dy.dy (λe he=>?_) (Dv f) (by show _=deafBehind G.k.deaf _;rw[f];rfl) (λa E=>by
   cases a with
   |main=>rfl
   |dN j=>rfl
   |eu=>exact absurd rfl E) (λj l=>.inl l) (λe he b d w=>?_) (λj l=>⟨l,bR⟩) bR (λe he b d _=>⟨by rw[f];rfl,rfl⟩) (bR)
  .rw[ev he]
   exact⟨c.fv.2.1,λb d _=>by rw[z d];exact .inl (.inl ⟨p,aF⟩),bR⟩
  .rw[ev he]at d
   rw[z d]at w;exact absurd p (o.lU.oi _ w)
 have D:Base Z (G.ew .gq G.v G.m) u _:=c.rest rfl rfl rfl rfl B C J;exact .go (G.ew .gq G.v G.m) .gq u _ _ y a bw (I false) rfl rfl rfl rfl rfl D (λi _=>e0.same (aB:=G.ew .gq G.v G.m) rfl rfl rfl (λ_ _ _ _=>rfl) B) q (by have:=q.le;omega) rfl rfl (.inl rfl) (.inl (by rw[f];rfl))
def pV{t u:Trace}{i:Nat}(h:i<t.size):(t++u).g? i=t.g? i:=by unfold Trace.g?;rw[getElem?_append_old h]
def e5.O1(h:e5 Z G t B)(C:G.k=.at .cn){y:MemOp}(o:y.g=Z.N+2/\y.act=.close Z.ch)(I:Z.ch<B):e5 Z (G.ew .fin G.v G.m) (t++#[y]) B:=by
 have d:y.act.touch?=none:=by rw[o.2];rfl
 have L:y.act.low B:=by rw[o.2];exact I
 have f:∀g,Deaf (t++#[y]) g=Deaf t g:=λg=>by rw[Deaf_push];unfold deafStep;rw[o.2]
 have E:∀g,hy Z (G.ew .fin G.v G.m) g↔hy Z G g:=λg=>by
  constructor
  .rintro(h|⟨k,e,c⟩|⟨e,c⟩)
   .exact .inl h
   .exact .inr (.inl ⟨k,e,c⟩)
   .exact .inr (.inr ⟨e,by rw[C];intro e;cases e⟩)
  .rintro(h|⟨k,e,c⟩|⟨e,c⟩)
   .exact .inl h
   .exact .inr (.inl ⟨k,e,c⟩)
   .exact .inr (.inr ⟨e,bR⟩)
 have p:=h.oJ;rw[C]at p;refine⟨h.dy.one y d L,λg q=>(h.st g ((E g).1 q)).one y d h.dy.size,λk c=>(h.uQ k c).one y d,?_,λk=>?_,?_,λj l=>?_,λk c=>(h.told k c).other λop R _=>?_,λ_=>O3 o p,λe=>?_,λi op r P w=>?_,λi g r q M H=>?_⟩
 .rw[f];exact h.d0
 .rw[f];exact h.qU k
 .rw[f];exact p
 .rw[f];exact h.above j l
 .have:op=y:=by simpa using R
  rw[this];exact d
 .cases e
 .rcases getElem?_append_cases P with⟨_,Q⟩|⟨_,S⟩
  .exact(E _).2 (h.nH i op r Q w)
  .have:op=y:=by simpa using S
   rw[this]at w;exact absurd d w
 .have D:i<t.size:=by have:=h.dy.size;have:(pl Z G).cT=Z.cT:=rfl;omega
  have J:t.g? i=some g:=by rw[<-pV (u:=#[y]) D];exact q
  obtain⟨j,l,F⟩:=h.over i g r J M ((counts_old D).1 H);have K:j<t.size:=by have:(t[j]?).map (·.g)=some 0:=l;obtain⟨z,T,_⟩:=Option.map_eq_some_iff.1 this;exact lt_size_of_getElem? T
  exact⟨j,by rw[pV K];exact l,hb_app _ F⟩
def vX{s:ck}(h:s.cR=.yes):s.da=true:=by
 obtain⟨c,bb⟩:=s;cases c with
 |out p=>cases p<;>first|rfl|cases h
 |_=>cases h
def IF(c:Base Z G u t)(f:G.k=.at .cn)(l:cB (jD Z) Z G (Z.N+2) .cn [] x g u n j)(Q:n=a+1)(P:At (jD Z) a .cn x):mY Z G .cn g u t (n*500+j):=by
 subst Q;have wg:=c.b9.q6 f;obtain⟨_,V,W⟩:=vc wg;have o:=c.b9.cnt;rw[vX V,vX W]at o;have o:dF G.l=2:=o;have h:=c.ww.ch;rw[f,o]at h;have h:u.heap[Z.ch]?=some (.chan 0 #[] false 2 2 false):=h;have B:=bu h;let aC:World:={u with heap:=u.heap.setIfInBounds Z.ch (.chan 0 #[] true 2 2 false)}
 have p:∀b,b≠Z.ch->aC.heap[b]?=u.heap[b]?:=λb d=>h7 (Ne.symm d)
 have q:aC.heap.size=u.heap.size:=by simp[aC]
 have D:ea Z (G.ew .fin G.v G.m) aC:=by refine⟨(p _ c.ap.rC).trans c.ww.T,(p _ c.ap.wc).trans c.ww.W,?_,λb d M=>(p b (by have:=c.o4.2;omega)).trans (c.ww.old b d M),c.ww.calm.trans ⟨Nat.le_of_eq q.symm,rfl,rfl,Go.ConcM.OsLater.refl _⟩⟩;show aC.heap[Z.ch]?=some (.chan 0 #[] true (dF G.l) (dF G.l) false);rw[o];exact iO B
 have J:g5 (G.ew .fin G.v G.m):=c.b9.ew f wg (by have:=c.b9.bound;rw[f]at this;exact this);have r:e0 Z G (G.ew .fin G.v G.m) (Z.N+2) u aC:=e0.same rfl rfl q (λb _ _ w=>p b w) D;obtain⟨y,bw,H,S,R⟩:=l.mr (aB:=G.ew .fin G.v G.m) (aC:=aC) (to:=.fin) (rK _) (wy _) P bI (.getObj h trivial (.setObj h trivial (.nil _))) ⟨l.mem.rely l.own r l.mem.floor,l.own.rely l.mem r⟩;have E:(pl Z G).jy (.obj Z.ch):=.inr (.inr rfl);have T:e5 Z G (t++MemOp.ofEvents (Z.N+2) g.frame.fn g.frame.place [⟨.obj Z.ch,false,true⟩].toArray) u.heap.size:=by
  have C:∀{b:Touch},(MemAct.ofEvent ⟨.obj Z.ch,false,true⟩).touch?=some b->b=⟨.obj Z.ch,false,.atomic⟩:=λ{b} d=>by have d:some (⟨.obj Z.ch,false,.atomic⟩:Touch)=some b:=d;exact(bD d).symm
  refine e5.app c.ap c.dy ⟨λb _=>rfl,rfl⟩ bg .eu (wO f) c.dy.dy (λe he=>?_) (λ_=>Iff.rfl) (by show G.k.deaf=deafBehind G.k.deaf _;rw[f];rfl) (λa X=>rfl) (λj z=>.inl z) (λe he b d I=>?_) (λj z=>⟨z,bR⟩) (λe=>by rw[f]at e;cases e) (λe he b d F=>?_) id
  .rw[ev he]
   exact⟨B,λb d _=>by rw[C d];exact .inl (.inl ⟨E,aF⟩),bR⟩
  .rw[ev he]at d
   rw[C d]at I;exact absurd E (c.ap.lU.oi _ I)
  .rw[ev he]at d
   rw[C d]at F;cases F
 have U:=T.O1 f (y:={g:=Z.N+2,fn:=g.frame.fn,pos:=g.frame.place,act:=.close Z.ch}) ⟨rfl,rfl⟩ B;have L:t++MemOp.ofEvents (Z.N+2) g.frame.fn g.frame.place [(⟨.obj Z.ch,false,true⟩:Event),⟨.obj Z.ch,true,true⟩].toArray=(t++MemOp.ofEvents (Z.N+2) g.frame.fn g.frame.place [(⟨.obj Z.ch,false,true⟩:Event)].toArray)++#[{g:=Z.N+2,fn:=g.frame.fn,pos:=g.frame.place,act:=.close Z.ch}]:=by rw[ofEvents_eq,ofEvents_eq];apply Array.ext';simp[MemAct.ofEvent]
 have K:Base Z (G.ew .fin G.v G.m) aC (t++MemOp.ofEvents (Z.N+2) g.frame.fn g.frame.place [(⟨.obj Z.ch,false,true⟩:Event),⟨.obj Z.ch,true,true⟩].toArray):=c.rest rfl rfl rfl q D J (by rw[q,L];exact U);exact .go (G.ew .fin G.v G.m) .fin aC [⟨.obj Z.ch,false,true⟩,⟨.obj Z.ch,true,true⟩] _ y a bw (R false) rfl rfl rfl rfl rfl K (λi _=>e0.same (aB:=G.ew .fin G.v G.m) rfl rfl q (λb _ _ w=>p b w) D) H (by have:=H.le;omega) rfl rfl (.inl rfl) (.inr (S rfl))
def II(f:Base Z G u t)(w:G.k=.at p)(z:cB (jD Z) Z G (Z.N+2) p [] x g u n j):mY Z G p g u t (n*500+j):=by
 rcases z.quiet (rK _)with⟨a,E,C⟩|⟨y,bw,ad,T,K⟩
 case inr=>
  exact .go G p u [] (bW y []) y n bw (K false u) w rfl rfl rfl rfl (by
   have:t++MemOp.ofEvents (Z.N+2) g.frame.fn g.frame.place ([]:List Event).toArray=t:=by rw[ofEvents_eq];simp
   rw[this];exact f) (λi _=>e0.at Z G i f.ww u.drawn) T U rfl rfl (.inl rfl) (.inl rfl)
 have L:=Word.refl Z u;have H:=f.ww.T;have I:=f.ww.W;have fv:=f.fv;have wg:=f.b9.q6 w;have D:=f.b9.bound;rw[w]at D;have F:left (G.s false).cR (G.s true).cR<=2:=by unfold left;split<;>split<;>omega
 have M:∀{o:Nat} {wr:Bool},iv Z u.heap.size ⟨.cell ⟨Z.W,o,none⟩,wr,true⟩:=.wg;have look:∀{v:Int} {an:List dO} {q:gO},G.v=v->Edge.fix true false an (oN Z.W v) q∈(jD Z).cz p->ey true (G.s false).cR (G.s true).cR (dE.at q).ph=some (v,G.m)->left (G.s false).cR (G.s true).cR<=(dE.at q).bound->
  ((dE.at q).shut=false/\(dE.at p).shut=false)->((dE.at q).said=false->(dE.at p).said=false)->(dE.at q).deaf=(dE.at p).deaf->mY Z G p g u t (n*500+j):=by
  intro v an q l he B J Q R S;exact oG f w z E C he (.mark (.load (f.ww.gH l) (.nil _))) L H I (by rw[l];exact B) J Q R (iS M) S (.inl rfl)
 have g0:∀{v P:Int} {an:List dO} {q:gO},G.v=v->Edge.fix true false an (zt Z.W v P) q∈(jD Z).cz p->ey true (G.s false).cR (G.s true).cR (dE.at q).ph=some (P,G.m)->left (G.s false).cR (G.s true).cR<=(dE.at q).bound->
  ((dE.at q).shut=false/\(dE.at p).shut=false)->((dE.at q).said=false->(dE.at p).said=false)->(dE.at q).deaf=(dE.at p).deaf->mY Z G p g u t (n*500+j):=by
  intro v P an q l he B J Q R S;exact oG f w z E C he (.mark (.shape f.ww.ny (.frozen (f.ww.pS 0) (.load (f.ww.gH l) (.store (f.ww.gH l) (f.ww.pS 0) (.nil _)))))) (Word.set 0 _ (.inr rfl)) (Word.fo f 0 _) (Word.d' f rfl) B J Q R (lo M (iS M)) S (.inl rfl)
 have V:∀{v:Int} {an:List dO} {q:gO},G.v=v->Edge.fix true false an (wB Z.W v) q∈(jD Z).cz p->ey true (G.s false).cR (G.s true).cR (dE.at q).ph=some (v,G.m)->left (G.s false).cR (G.s true).cR<=(dE.at q).bound->
  ((dE.at q).shut=false/\(dE.at p).shut=false)->((dE.at q).said=false->(dE.at p).said=false)->(dE.at q).deaf=(dE.at p).deaf->mY Z G p g u t (n*500+j):=by
  intro v an q l he B J Q R S;exact oG f w z E C he (.mark (.shape f.ww.ny (.frozen (f.ww.pS 0) (.load (f.ww.gH l) (.nil _))))) L H I (by rw[l];exact B) J Q R (iS M) S (.inl rfl)
 have cut:∀{m dd:Int} {v P:Int} {a b c d},ey a b c d=some (v,m)->v=P->m=dd->ey a b c d=some (P,dd):=λh W X=>by rw[h,W,X]
 cases p with
 |bx=>exact oG f w z E C (to:=.c1 2) bI (.mark (.mark (.nil _))) L H I wg F ⟨rfl,rfl⟩ (λ_=>rfl) (iS qT) rfl (.inl rfl)
 |c1 m=>
  rcases G3 wg with⟨r,l,B⟩|⟨r,l,_⟩|⟨r,l,_⟩
  .rcases m with _|_|m
   .exact look l (.head _) B (by rw[r];exact Nat.zero_le _) ⟨rfl,rfl⟩ bR rfl
   .exact look l (.head _) B (by rw[r];exact Nat.zero_le _) ⟨rfl,rfl⟩ bR rfl
   .exact look l (.head _) B (by rw[r];exact Nat.zero_le _) ⟨rfl,rfl⟩ bR rfl
  .rcases m with _|_|m
   .rw[r]at D;exact absurd D a6
   .exact look l (.tail _ (.head _)) (cut wg l rfl) (by rw[r];exact bg) ⟨rfl,rfl⟩ (λ_=>rfl) rfl
   .exact look l (.tail _ (.head _)) (cut wg l rfl) (by rw[r];exact bg) ⟨rfl,rfl⟩ (λ_=>rfl) rfl
  .rcases m with _|_|m
   .rw[r]at D;exact absurd D a6
   .rw[r]at D;exact absurd D a6
   .exact look l (.tail _ (.tail _ (.head _))) (cut wg l rfl) (by rw[r];exact bg) ⟨rfl,rfl⟩ (λ_=>rfl) rfl
 |c2 m=>
  rcases G3 wg with⟨r,l,_⟩|⟨r,l,B⟩|⟨r,l,B⟩
  .rcases m with _|_|m
   .exact V l (.tail _ (.tail _ (.head _))) (cut wg l rfl) (by rw[r];exact bg) ⟨rfl,rfl⟩ (λ_=>rfl) rfl
   .exact V l (.tail _ (.head _)) (cut wg l rfl) (by rw[r];exact bg) ⟨rfl,rfl⟩ (λ_=>rfl) rfl
   .exact V l (.tail _ (.tail _ (.head _))) (cut wg l rfl) (by rw[r];exact bg) ⟨rfl,rfl⟩ (λ_=>rfl) rfl
  .rcases m with _|_|m
   .rw[r]at D;exact absurd D a6
   .exact g0 l (.head _) B F ⟨rfl,rfl⟩ (λ_=>rfl) rfl
   .exact V l (.tail _ (.head _)) (cut wg l rfl) (by rw[r];exact bg) ⟨rfl,rfl⟩ (λ_=>rfl) rfl
  .rcases m with _|_|m
   .rw[r]at D;exact absurd D a6
   .rw[r]at D;exact absurd D a6
   .exact g0 l (.head _) B F ⟨rfl,rfl⟩ (λ_=>rfl) rfl
 |c3=>exact oG f w z E C (to:=.c4) bI (.shape f.ww.ny (.shape f.ww.ny (.nil _))) L H I wg F ⟨rfl,rfl⟩ (λ_=>rfl) nB rfl (.inl rfl)
 |c4=>exact IH f w z E C
 |gq=>
  rcases G4 wg with⟨hm,_⟩|⟨hm,B⟩
  .have K:=C.wait (rK _) (.head _)
   obtain⟨st,off,rfl⟩:=z.shape;exact .wait (K false _ st off u _ (.mark (.mark (.load (f.ww.fK hm) (.nil _))))) rfl hm
  .exact oG f w z E C (to:=.pI) (.tail _ (.head _)) (.mark (.mark (.load (f.ww.fK hm) (.store (f.ww.fK hm) (f.ww.pS 1) (.mark (.nil _)))))) (Word.set 1 _ (.inr rfl)) (Word.fo f 1 _) (Word.d' f rfl) B F ⟨rfl,rfl⟩ bR (lo qT (lo M (lo M (iS qV)))) rfl (.inr rfl)
 |pI=>
  obtain⟨l,_,_⟩:=vc wg;exact look l (.head _) (cut wg l rfl) F ⟨rfl,rfl⟩ bR rfl
 |pK=>exact oG f w z E C (to:=.vK) bI (.mark (.mark (.nil _))) L H I wg F ⟨rfl,rfl⟩ bR (iS qV) rfl (.inl rfl)
 |vK=>exact oG f w z E C (to:=.cg) bI (.shape f.ww.ny (.shape f.ww.ny (.nil _))) L H I wg F ⟨rfl,rfl⟩ bR nB rfl (.inl rfl)
 |cg=>exact oG f w z E C (to:=.k1) bI (.mark (.mark (.nil _))) L H I wg F ⟨rfl,rfl⟩ bR (iS (.mark rfl fv.2.1)) rfl (.inl rfl)
 |k1=>
  subst E;have fA:=Hm f w (q:=.cn) rfl rfl bg rfl rfl u.heap.size (Z.N+2);obtain⟨y,aC,bz,bw,T,K,calm,keep,cI,_⟩:=z.bL (aB:=(G.grow u.heap.size (Z.N+2)).ew .cn G.v G.m) (t:=t) (rK _) (wy _) C bI (λb=>rfl) rfl;exact IG f w fA rfl (K false) rfl calm (λb J Y=>(keep b J Y).1) cI T (by have:=T.le;omega)
 |cn=>exact IF f w z E C
 |fin=>
  obtain⟨aa,K⟩:=C.done bI;obtain⟨st,off,rfl⟩:=z.shape;exact .fin (by rw[aa];exact K false st off u) rfl
end
section
variable{X:et}{Z:Stat}[hi X Z]{G aB:bX}{u aC w:World}{t bh:Trace}{k:Bool}{g g':Goroutine}{x y:bA}{n j c9 bw l aN a:Nat}{B:Nat}{c bp:fR}{M b7:Mem}
noncomputable abbrev hP(Z:Stat):de eY:=kn Z.kd
def po(Z:Stat):dn (hP Z).P (hP Z).ext:=by unfold hP kn;exact j8
def zs(Z:Stat)(p:eY):(hP Z).dh p<=400:=bg
def nz(c:fR):Mem:=[(false,c.L,hf),(false,c.bc,.cells #[pt c.T] 76 (0,0)),(true,c.O,.cells #[dg,dg] 22 (0,0)),(false,c.cg,.cells #[.chan (some c.ch)] 199 (0,0)),(false,c.j0,.cells #[ah 0] 3 (0,0)),(false,c.kq,.cells dC 31 (0,0))]
def lf(c:fR):Nat->Mem
 | 17|18=>nz c
 | 19=>nz c++[(true,c.jC,.cells #[i0] 3 (0,0))]
 | 20=>nz c++[(true,c.jC,.cells #[i0] 3 (0,0)),(true,c.jP,.cells #[i0,i0,i0,i0,i0] 31 (0,0))]
 | 21=>nz c++[(true,c.jC,.cells #[ah 1] 3 (0,0)),(true,c.jP,.cells #[i0,i0,i0,i0,i0] 31 (0,0))]
 | 26=>nz c++[(false,c.jC,.cells #[ah 1] 3 (0,0)),(false,c.jP,.cells dC 31 (0,0))]
 |_=>nz c++[(true,c.jC,.cells #[ah 1] 3 (0,0)),(true,c.jP,.cells dC 31 (0,0))]
def lh(l:Nat):Bool:=decide (29<=l/\l<=33)||decide (35<=l/\l<=39)
def iB(G:bX)(c:fR)(k:Bool):Value:=if (G.s k).da && !(lh G.l && (c.k == k))then four (G.cy k)else dg
structure lR(Z:Stat)(G:bX)(c:fR)(M:Mem):Prop where
 cfg:c.T=Z.z.T/\c.O=Z.O/\c.ch=Z.ch/\c.cg=Z.cg/\c.W=Z.W/\c.bc=Z.bc
 early:G.l<=26->M=lf c G.l
 out:M[2]?=some (true,Z.O,.cells #[iB G c false,iB G c true] 22 (0,0))
 pend:lh G.l=true->(G.s c.k).da=true/\c.r=G.cy c.k
 lim:G.l<=40
structure jl(Z:Stat)(G:bX)(g:Goroutine)(w:World)(c:fR)(M:Mem)(x:bA)(n j:Nat):Prop where
 at_:cB (hP Z) Z G 0 ⟨G.l,c,M⟩ Z.base x g w n j
 ok:lR Z G c M
inductive qz(Z:Stat)(G:bX)(g:Goroutine)(u:World)(t:Trace)(bt:Nat):Prop
 |go (aB:bX) (aC:World) (l:List Event) (g':Goroutine) (bp:fR) (b7:Mem) (di:bA) (c9 bw:Nat) (aW:stepG aK true g u=.go g' aC l.toArray) (af:aB.s=G.s) (aa:aB.k=G.k) (iP:aB.bP=G.bP) (jM:aB.cy=G.cy)
  (hb:Base Z aB aC (t++MemOp.ofEvents 0 g.frame.fn g.frame.place l.toArray)) (au:∀i,i≠0->e0 Z G aB i u aC) (hm:jl Z aB g' aC bp b7 di c9 bw) (aS:c9*500+bw<bt) (cS:g'.status=.running) (fN:aB.ms=G.ms) (g1:aB.m=G.m):qz Z G g u t bt
 |stop (c:fR) (M:Mem) (x:bA) (n j a:Nat) (aj:G.l=25\/G.l=26\/G.l=28\/G.l=34\/G.l=40) (hm:jl Z G g u c M x n j) (aM:At (hP Z) a ⟨G.l,c,M⟩ x) (ak:n=a+1) (k7:bt=n*500+j):qz Z G g u t bt
def bX.hE(G:bX)(l:Nat)(v:Int):bX:={G with l:=l,v:=v}
structure rS(l aN:Nat):Prop where
 km:24<=aN↔24<=l
 zG:aN<26↔l<26
 zH:aN<27↔l<27
 zF:17<=aN
 cnt:dF aN=dF l
 deaf:j1 aN=j1 l
def rS.alike(h:rS G.l aN)(n i:Nat):Alike G ((G.grow n i).hE aN G.v):=
 ⟨λ_=>rfl,λ_=>rfl,λ_=>rfl,λ_=>rfl,λ_=>id,λ_=>Iff.rfl,rfl,rfl,bg,rfl,rfl,Iff.rfl,h.km,h.zG,h.zH,h.zF,h.cnt,h.deaf,rfl,rfl,rfl,rfl,rfl,rfl,rfl,rfl⟩
def DV{bz:List Event}(f:Base Z G u t)(r:rS G.l aN)(p:stepG aK true g u=.go (bW y Z.base) aC bz.toArray)(calm:Calm u aC)(keep:∀b,b<u.heap.size->aC.heap[b]?≠u.heap[b]?->gY Z G 0 b)(cI:∀e∈bz,lx Z ((G.grow u.heap.size 0).hE aN G.v) t 0 aC.heap.size e)(q:cB (hP Z) Z ((G.grow u.heap.size 0).hE aN G.v) 0 ⟨aN,bp,b7⟩ Z.base y (bW y Z.base) aC c9 bw)(ok:lR Z ((G.grow u.heap.size 0).hE aN G.v) bp b7)(o:c9*500+bw<n):qz Z G g u t n:=by obtain⟨c,d⟩:=f.l3 .main trivial (r.alike u.heap.size 0) (λb=>rfl) calm keep cI (λj l=>by cases l) bR g.frame.fn g.frame.place;exact .go ((G.grow u.heap.size 0).hE aN G.v) aC bz _ bp b7 y c9 bw p rfl rfl rfl rfl c (λi h=>d i h) ⟨q,ok⟩ o rfl rfl rfl
def mD(f:Base Z G u t)(p:G.l=l)(h:jl Z G g u c M x n j)(q:n=a+1)(i:At (hP Z) a ⟨l,c,M⟩ x)(he:(hP Z).cz ⟨l,c,M⟩ = [.bL ops ⟨aN,c,b7⟩])(z:rS l aN)(ok:lR Z ((G.grow u.heap.size 0).hE aN G.v) c b7):qz Z G g u t (n*500+j):=by subst q;subst p;obtain⟨y,aC,bz,bw,d,w,calm,keep,cI,_⟩:=h.at_.bL (aB:=(G.grow u.heap.size 0).hE aN G.v) (t:=t) (po _) (zs _) i (by rw[he];exact .head _) (λb=>rfl) rfl;exact DV f z (w true) calm (λb o r=>(keep b o r).1) cI d ok (by have:=d.le;omega)
def w0(d:Base Z G u t)(q:G.l=l)(h:jl Z G g u c M x n j)(r:n=a+1)(i:At (hP Z) a ⟨l,c,M⟩ x){o:Obj}{to:Nat->eY}(he:Edge.new true o to∈(hP Z).cz ⟨l,c,M⟩)(B:to u.heap.size=⟨aN,bp,b7⟩)(C:rS l aN)(ok:lR Z ((G.grow u.heap.size 0).hE aN G.v) bp b7):qz Z G g u t (n*500+j):=by subst r;subst q;obtain⟨y,aC,bw,f,z,calm,keep,D⟩:=h.at_.z2 (aB:=(G.grow u.heap.size 0).hE aN G.v) (po _) (zs _) i he (λb=>rfl) rfl d.oc d.fv;rw[B]at f;exact DV (bz:=[]) d C (z true) calm (λb p w=>absurd (keep b p) w) (λe he=>(by cases he)) f ok (by have:=f.le;omega)
def zP{v:Int}(o:Base Z G u t)(P:G.l=l)(h:jl Z G g u c M x n j)(Q:n=a+1)(J:At (hP Z) a ⟨l,c,M⟩ x){f:List cD}(he:Edge.fix true false an f ⟨aN,c,M⟩∈(hP Z).cz ⟨l,c,M⟩)(hd:Does u f aC es)(wd:Word Z u aC)(q:aC.heap[Z.z.T]?=some (.cells (eN Z.z G.mu G.ms G.aY G.bc) 100 (0,0)))(hW:aC.heap[Z.W]?=some (.cells #[.int .u64 v,.int .u32 G.m] 204 (0,0)))(wg:ey (decide (24<=aN)) (G.s false).cR (G.s true).cR G.k.ph=some (v,G.m))(H:l<26/\aN<26/\17<=aN)(w:dF aN=dF l)(L:∀e∈hZ true (cI f),iv Z u.heap.size e)(K:j1 aN=deafBehind (j1 l) (hZ true (cI f)).toArray)(ok:lR Z (G.hE aN v) c M):qz Z G g u t (n*500+j):=by
 subst Q;subst P;have r:=pa o wd q (aB:=G.hE aN v) rfl rfl 0;obtain⟨y,bw,z,_,R⟩:=h.at_.mr (aB:=G.hE aN v) (po _) (zs _) J he hd ⟨h.at_.mem.rely h.at_.own r h.at_.mem.floor,h.at_.own.rely h.at_.mem r⟩;have d:=o.b9;have B:g5 (G.hE aN v):=⟨d.once,wg,d.bound,by show dF aN=_;rw[w];exact d.cnt,(by show aN<26↔(G.s true).c=.un;rw[<-d.l9];omega),(by show aN<27↔G.k=.un;rw[<-d.mS];omega),d.pG,H.2.2,d.eC⟩
 have S:ea Z (G.hE aN v) aC:=ea.of o wd q hW rfl w;obtain⟨C,D⟩:=o.sync (aB:=G.hE aN v) .main trivial rfl rfl rfl S B wd.size (λb E F _=>wd.keep b E F) L rfl (λa=>by cases a<;>exact Iff.rfl) K (λa I=>by
  cases a with
  |main=>exact absurd rfl I
  |dN j=>rfl
  |eu=>rfl) g.frame.fn g.frame.place (λj p=>.inl p) (λj p=>⟨p,bR⟩) (λe=>⟨e,bR⟩) id
 exact .go (G.hE aN v) aC _ _ c M y a bw (R true) rfl rfl rfl rfl C (λi _=>D i) ⟨z,ok⟩ (by have:=z.le;omega) rfl rfl rfl
def M3{aB:bX}(g:aB.s=G.s)(f:aB.cy=G.cy)(d:bp.k=c.k)(hp:lh aB.l=lh G.l):iB aB bp=iB G c:=by funext k;unfold iB;rw[g,f,d,hp]
def y8(g:Base Z G u t)(h:G.l<=28)(k:Bool):(G.s k).da=false:=by
 have:=g.b9.cnt;have f:dF G.l=0:=by unfold dF;rw[if_pos h]
 rw[f]at this;rcases c:(G.s false).da with _|_<;>rcases d:(G.s true).da with _|_<;>rw[c,d]at this<;>simp at this
 cases k<;>assumption
def No{l:Nat}(h:l<=28):lh l=false:=by unfold lh;rw[decide_eq_false U,decide_eq_false U];rfl
def vZ{aB:bX}(i:∀k,(aB.s k).da=false)(g:aB.l<=28)(c:bp.T=Z.z.T/\bp.O=Z.O/\bp.ch=Z.ch/\bp.cg=Z.cg/\bp.W=Z.W/\bp.bc=Z.bc)(f:aB.l<=26->b7=lf bp aB.l)(d:b7[2]?=some (true,bp.O,.cells #[dg,dg] 22 (0,0))):lR Z aB bp b7:=by
 have e:∀k,iB aB bp k=dg:=λk=>by unfold iB;rw[i k];rfl
 refine⟨c,f,?_,(λh=>by rw[No g]at h;cases h),U⟩;rw[e,e,d,c.2.1]
def vY{aB:bX}(f:Base Z G u t)(h:G.l<=28)(j:aB.s=G.s)(i:aB.l<=28)(c:bp.T=Z.z.T/\bp.O=Z.O/\bp.ch=Z.ch/\bp.cg=Z.cg/\bp.W=Z.W/\bp.bc=Z.bc)(g:aB.l<=26->b7=lf bp aB.l)(d:b7[2]?=some (true,bp.O,.cells #[dg,dg] 22 (0,0))):lR Z aB bp b7:=
 vZ (λk=>by rw[j];exact y8 f h k) i c g d
def zI{aB:bX}(h:lR Z G c M)(g:aB.s=G.s)(f:aB.cy=G.cy)(d:bp.k=c.k)(w:bp.r=c.r)(u:bp.T=c.T/\bp.O=c.O/\bp.ch=c.ch/\bp.cg=c.cg/\bp.W=c.W/\bp.bc=c.bc)(z:26<aB.l/\aB.l<=40)(hp:lh aB.l=lh G.l)(r:b7[2]?=M[2]?):lR Z aB bp b7:=by
 obtain⟨i,j,l,o,p,q⟩:=u;refine⟨by rw[i,j,l,o,p,q];exact h.cfg,λe=>U,?_,λe=>?_,z.2⟩
 .rw[r,M3 g f d hp];exact h.out
 .rw[hp]at e
  rw[g,f,d,w];exact h.pend e
def Nx{M:Mem}{l:List gZ}(h:(prun M l).isSome=true)(c:∀x∈l,∀i o v,x=.st i o v->i≠2):(c0 M l)[2]?=M[2]?:=by
 have key:∀(l:List gZ) (M:Mem) r,prun M l=some r->(∀x∈l,∀i o v,x=.st i o v->i≠2)->r.2.2[2]?=M[2]?:=by
  intro l;induction l with
  |nil=>intro M r h _;cases h;rfl
  |cons x l g=>
   intro M r h c;have f:∀y∈l,∀i o v,y=.st i o v->i≠2:=λy p=>c y (List.mem_cons_of_mem _ p)
   cases x with
   |ld i o=>
    unfold prun at h;split at h
    .split at h
     .obtain⟨q,d,rfl⟩:=Option.map_eq_some_iff.1 h
      exact g M q d f
     .cases h
    .cases h
   |st i o v=>
    have j:=c _ List.mem_cons_self i o v rfl;unfold prun at h;split at h
    .split at h
     .obtain⟨q,d,rfl⟩:=Option.map_eq_some_iff.1 h
      have:=g _ q d f;rw[List.getElem?_set_ne j]at this;exact this
     .cases h
    .cases h
 exact key l M _ (xp h) c
def o8(Z:Stat){l:Nat}{to:eY}(d:At (hP Z) a ⟨l,c,M⟩ x)(he:(hP Z).cz ⟨l,c,M⟩ = [.bL ops to]):(prun M ops).isSome=true:=by obtain⟨y,_,h,_⟩:=d.bL (po Z) (ops:=ops) (to:=to) (by rw[he];exact .head _);have h:prun M ops=some _:=h;rw[h];rfl
def Gj{aB:bX}(h:lR Z G c M)(hp:(prun M [.st 2 (p7 c.k) (four c.r)]).isSome=true)(o:aB.s=G.s)(l:aB.cy=G.cy)(u:26<aB.l/\aB.l<=40)(r:lh G.l=true)(j:lh aB.l=false):lR Z aB c (c0 M [.st 2 (p7 c.k) (four c.r)]):=by
 obtain⟨p,q⟩:=h.pend r;refine⟨h.cfg,λe=>U,?_,(λe=>by rw[j]at e;cases e),u.2⟩;have i:=h.out;have e:c0 M [.st 2 (p7 c.k) (four c.r)]=M.set 2 (true,Z.O,.cells ((#[iB G c false,iB G c true]:Array Value).setIfInBounds (p7 c.k) (four c.r)) 22 (0,0)):=by
  have z:p7 c.k<(#[iB G c false,iB G c true]:Array Value).size:=by cases c.k<;>simp[p7]
  unfold c0 prun;rw[i];simp only[if_pos z];rfl
 have w:2<M.length:=(List.getElem?_eq_some_iff.1 i).1;rw[e,List.getElem?_set_self w];have f:∀k,k≠c.k->iB aB c k=iB G c k:=λk d=>by
  have:(c.k == k)=false:=by simp[Ne.symm d]
  unfold iB;rw[o,l,this];simp
 have g:iB aB c c.k=four c.r:=by unfold iB;rw[o,l,j,p,<-q];rfl
 cases d:c.k with
 |false=>
  rw[d]at g f;rw[g,f true aF];rfl
 |true=>
  rw[d]at g f;rw[g,f false aF];rfl
def kJ{l aN:Nat}(h:(decide (24<=aN)=decide (24<=l)/\decide (aN<26)=decide (l<26)/\decide (aN<27)=decide (l<27))/\17<=aN/\dF aN=dF l/\j1 aN=j1 l):rS l aN:=
 ⟨decide_eq_decide.1 h.1.1,decide_eq_decide.1 h.1.2.1,decide_eq_decide.1 h.1.2.2,h.2.1,h.2.2.1,h.2.2.2⟩
def GJ{M N:Mem}{z:Bool×Nat×Obj}(h:M[2]?=some z):(M++N)[2]?=M[2]?:=jz (List.getElem?_eq_some_iff.1 h).1
def L3(f:Base Z G u t)(h:jl Z G g u c M x n j):qz Z G g u t (n*500+j):=by
 rcases h.at_.quiet (po Z)with⟨a,p,d⟩|⟨y,bw,R,L,K⟩
 case inr=>
  exact .go G u [] (bW y Z.base) c M y n bw (K true u) rfl rfl rfl rfl (by
   have:t++MemOp.ofEvents 0 g.frame.fn g.frame.place ([]:List Event).toArray=t:=by rw[ofEvents_eq];simp
   rw[this];exact f) (λi _=>e0.at Z G i f.ww u.drawn) ⟨L,h.ok⟩ U rfl rfl rfl
 have ok:=h.ok;have S:=f.b9.bY;have Q:=ok.lim;have I:=Word.refl Z u;have D:=f.ww.T;have E:=f.ww.W;have q:c.W=Z.W:=ok.cfg.2.2.2.2.1;have r:=f.b9;have early:∀{aN:Nat} {v:Int} {b7:Mem} {bp:fR},G.l<=28->aN<=28->(bp.T=Z.z.T/\bp.O=Z.O/\bp.ch=Z.ch/\bp.cg=Z.cg/\bp.W=Z.W/\bp.bc=Z.bc)->(aN<=26->b7=lf bp aN)->b7[2]?=some (true,bp.O,.cells #[dg,dg] 22 (0,0))->∀n,lR Z ((G.grow n 0).hE aN v) bp b7:=λw z B C J n=>vY f w rfl z B C J
 have late:∀{aN:Nat} {v:Int} {ops:List gZ},(prun M ops).isSome=true->(∀x∈ops,∀i o v,x=.st i o v->i≠2)->26<aN/\aN<=40->lh aN=lh G.l->∀n,lR Z ((G.grow n 0).hE aN v) c (c0 M ops):=λw z B C n=>zI ok rfl rfl rfl rfl ⟨rfl,rfl,rfl,rfl,rfl,rfl⟩ B C (Nx w z)
 have aj:G.l=17\/G.l=18\/G.l=19\/G.l=20\/G.l=21\/G.l=22\/G.l=23\/G.l=24\/G.l=27\/G.l=29\/G.l=30\/G.l=31\/G.l=32\/G.l=33\/G.l=35\/G.l=36\/G.l=37\/G.l=38\/G.l=39\/(G.l=25\/G.l=26\/G.l=28\/G.l=34\/G.l=40):=U;rcases aj with aj|aj|aj|aj|aj|aj|aj|aj|aj|aj|aj|aj|aj|aj|aj|aj|aj|aj|aj|aj
 .rw[aj]at d
  have l:=ok.early U;rw[aj]at l;subst l;exact mD f aj h p d (aN:=18) rfl (kJ a6) (early U a6 ok.cfg (λ_=>rfl) rfl _)
 .rw[aj]at d
  have l:=ok.early U;rw[aj]at l;subst l;exact w0 f aj h p d (aN:=19) bI rfl (kJ a6) (early (aN:=19) (bp:={c with jC:=u.heap.size}) (b7:=lf {c with jC:=u.heap.size} 19) U a6 ok.cfg (λ_=>rfl) rfl _)
 .rw[aj]at d
  have l:=ok.early U;rw[aj]at l;subst l;exact w0 f aj h p d (aN:=20) bI rfl (kJ a6) (early (aN:=20) (bp:={c with jP:=u.heap.size}) (b7:=lf {c with jP:=u.heap.size} 20) U a6 ok.cfg (λ_=>rfl) rfl _)
 .rw[aj]at d
  have l:=ok.early U;rw[aj]at l;subst l;exact mD f aj h p d (aN:=21) rfl (kJ a6) (early U a6 ok.cfg (λ_=>rfl) rfl _)
 .rw[aj]at d
  have l:=ok.early U;rw[aj]at l;subst l;exact mD f aj h p d (aN:=22) rfl (kJ a6) (early U a6 ok.cfg (λ_=>rfl) rfl _)
 .rw[aj]at d
  have l:=ok.early U;rw[aj]at l;subst l;have wg:=r.wg;rw[aj]at wg;exact zP f aj h p d (aN:=23) bI (.mark (.mark (.nil _))) I D E wg a6 rfl (iS qT) rfl (vY f U rfl (show(23:Nat)<=28 by decide) ok.cfg (λ_=>rfl) rfl)
 .rw[aj]at d
  have l:=ok.early U;rw[aj]at l;subst l;have wg:=r.wg;rw[aj]at wg;obtain⟨H,P⟩:=R9 wg;have F:∀{wr:Bool},iv Z u.heap.size ⟨.cell ⟨c.W,0,none⟩,wr,true⟩:=λ{wr}=>by rw[q];exact .wg
  exact zP f aj h p d (aN:=24) (v:=8589934592) bI (.mark (.load (by rw[q];exact f.ww.gH H) (.store (by rw[q];exact f.ww.gH H) (by rw[q];exact f.ww.pS 0) (.nil _)))) (Word.set 0 _ (.inr q)) (by rw[q];exact Word.fo f 0 _) (by rw[q];exact Word.d' f rfl) P a6 rfl (lo F (iS F)) rfl (vY f U rfl (show(24:Nat)<=28 by decide) ok.cfg (λ_=>rfl) rfl)
 .rw[aj]at d
  have l:=ok.early U;rw[aj]at l;subst l;have wg:=r.wg;rw[aj]at wg;exact zP f aj h p d (aN:=25) bI (.mark (.mark (.nil _))) I D E wg a6 rfl (iS qV) rfl (vY f U rfl (show(25:Nat)<=28 by decide) ok.cfg (λ_=>rfl) rfl)
 .rw[aj]at d
  exact mD f aj h p d (aN:=28) rfl (kJ a6) (late (o8 Z d rfl) aF a6 (by rw[aj];rfl) _)
 .rw[aj]at d
  exact w0 f aj h p d (aN:=30) bI rfl (kJ a6) (zI ok rfl rfl rfl rfl ⟨rfl,rfl,rfl,rfl,rfl,rfl⟩ (by decide:26<30/\30<=40) (by rw[aj];rfl) (GJ ok.out))
 .rw[aj]at d
  exact mD f aj h p d (aN:=31) rfl (kJ a6) (late (o8 Z d rfl) aF a6 (by rw[aj];rfl) _)
 .rw[aj]at d
  exact mD f aj h p d (aN:=32) rfl (kJ a6) (late (o8 Z d rfl) aF a6 (by rw[aj];rfl) _)
 .rw[aj]at d
  exact mD f aj h p d (aN:=33) rfl (kJ a6) (late (o8 Z d rfl) aF a6 (by rw[aj];rfl) _)
 .rw[aj]at d
  exact mD f aj h p d (aN:=34) rfl (kJ a6) (Gj ok (o8 Z d rfl) rfl rfl (by decide:26<34/\34<=40) (by rw[aj];rfl) rfl)
 .rw[aj]at d
  exact w0 f aj h p d (aN:=36) bI rfl (kJ a6) (zI ok rfl rfl rfl rfl ⟨rfl,rfl,rfl,rfl,rfl,rfl⟩ (by decide:26<36/\36<=40) (by rw[aj];rfl) (GJ ok.out))
 .rw[aj]at d
  exact mD f aj h p d (aN:=37) rfl (kJ a6) (late (o8 Z d rfl) aF a6 (by rw[aj];rfl) _)
 .rw[aj]at d
  exact mD f aj h p d (aN:=38) rfl (kJ a6) (late (o8 Z d rfl) aF a6 (by rw[aj];rfl) _)
 .rw[aj]at d
  exact mD f aj h p d (aN:=39) rfl (kJ a6) (late (o8 Z d rfl) aF a6 (by rw[aj];rfl) _)
 .rw[aj]at d
  exact mD f aj h p d (aN:=40) rfl (kJ a6) (Gj ok (o8 Z d rfl) rfl rfl (by decide:26<40/\40<=40) (by rw[aj];rfl) rfl)
 .exact .stop c M x n j a aj h d p rfl
end
section
variable{X:et}{Z:Stat}[hi X Z]{G aB:bX}{u aC w:World}{t bh v:Trace}{k:Bool}{B:Nat}
def qC(B:Nat)(v:Trace):Prop:=∀op∈v,op.act.touch?=none/\op.act≠.mark .disable/\op.act≠.mark .enable/\op.act.low B
def ra{M:Trace->Prop}(g:M t)(c:∀(s:Trace) (y:MemOp),y∈v->t.size<=s.size->M s->M (s++#[y])):M (t++v):=by
 obtain⟨l⟩:=v;have key:∀(l:List MemOp) (s:Trace),t.size<=s.size->M s->(∀y∈l,∀s:Trace,t.size<=s.size->M s->M (s++#[y]))->M (s++l.toArray):=by
  intro l;induction l with
  |nil=>intro s _ h _;simpa using h
  |cons a l i=>
   intro s f h c;have e:s++(a::l).toArray=(s++#[a])++l.toArray:=by apply Array.ext';simp
   rw[e];exact i _ cH (c a aF s f h) λy d=>c y (by simp[d])
 exact key l t bg g λy d s f h=>c s y (by simpa using d) f h
def oI(c:qC B v)(g:Nat):Deaf (t++v) g=Deaf t g:=by
 refine ra (M:=λs=>Deaf s g=Deaf t g) rfl λs y d _ h=>?_
 rw[Deaf_push];unfold deafStep;have:=c y d;split
 .rename_i e;exact absurd e this.2.1
 .rename_i e;exact absurd e this.2.2.1
 .exact h
def e5.D6(h:e5 Z G t B)(c:qC B v)(W:fp (pl Z aB) t (eX Z aB) B)(V:∀g,hy Z aB g->Started (pl Z aB) (t++v) g)(J:∀g,hy Z G g->hy Z aB g)(p:∀a:eF,a.deaf aB=a.deaf G)(S:∀k,(aB.s k).eC=true->(G.s k).eC=true)(T:∀k,(aB.s k).da=true->(G.s k).da=true\/Told (pl Z aB) (· = Z.W) (t++v) (Z.wk k))(U:aB.k.shut=true->G.k.shut=true)(R:aB.k.said=false->G.k.said=false):e5 Z aB (t++v) B:=by
 have hu:∀op∈v,op.act.touch?=none:=λop f=>(c op f).1
 refine⟨?_,V,λk aa=>?_,?_,λk=>?_,?_,λj l=>?_,λk aa=>?_,λaa=>?_,λe i a d w=>?_,λi op d L r=>?_,λi g d F K E=>?_⟩
 .exact ra (M:=λs=>fp (pl Z aB) s (eX Z aB) B) W λs y o _ h=>h.one y (c y o).1 (c y o).2.2.2
 .exact ra (M:=λs=>iH (pl Z aB) s (Z.wk k)) (h.uQ k (S k aa)) λs y o _ h=>h.one y (c y o).1
 .rw[oI c];exact h.d0.trans (p .main).symm
 .rw[oI c];exact(h.qU k).trans (p (.dN k)).symm
 .rw[oI c];exact h.oJ.trans (p .eu).symm
 .rw[oI c];exact h.above j l
 .rcases T k aa with aa|aa
  .exact(h.told k aa).other λop f _=>hu op f
  .exact aa
 .exact(h.shut (U aa)).app λop f _=>hu op f
 .obtain⟨_,C⟩:=uF hu w
  exact h.said (R e) i a d C
 .rcases getElem?_append_cases L with⟨_,P⟩|⟨_,Q⟩
  .exact J _ (h.nH i op d P r)
  .exact absurd (hu op Q) r
 .have q:i<t.size:=by have Y:=h.dy.size;have ad:(pl Z G).cT=Z.cT:=rfl;omega
  have H:t.g? i=some g:=by rw[<-pV (u:=v) q];exact F
  obtain⟨j,l,D⟩:=h.over i g d H K ((counts_old q).1 E);have I:j<t.size:=by have:(t[j]?).map (·.g)=some 0:=l;obtain⟨z,X,_⟩:=Option.map_eq_some_iff.1 this;exact lt_size_of_getElem? X
  exact⟨j,by rw[pV I];exact l,hb_app _ D⟩
def Qu{L:qE}{g:Nat}(h:Started L t g)(c:L.cT<=t.size)(d:qC B v):Started L (t++v) g:=by
 have:=ra (t:=t) (v:=v) (M:=λs=>Started L s g/\L.cT<=s.size) ⟨h,c⟩ λs y f _ h=>⟨h.1.one y (d y f).1 h.2,cH⟩
 exact this.1
def D5{c r:Nat}{p q:MemOp}(d:c<B)(h:x.act=.send c s)(i:y.act=.recv c r cap)(hp:p.act=.sendDone c s)(g:q.act=.recvDone c r):qC B #[x,y,p,q]:=by
 intro op f;simp only[List.mem_toArray,List.mem_cons,iN,or_false]at f;rcases f with rfl|rfl|rfl|rfl
 .rw[h];exact⟨rfl,aF,aF,d⟩
 .rw[i];exact⟨rfl,aF,aF,d⟩
 .rw[hp];exact⟨rfl,aF,aF,d⟩
 .rw[g];exact⟨rfl,aF,aF,d⟩
def e5.comm(h:e5 Z G t B)(k:Bool)(z:Z.ch<B)(hd:(G.s k).deaf=0)(hm:j1 G.l=0)(E:aB.b1=G.b1)(F:aB.ro=G.ro)(l:∀j,j≠k->aB.s j=G.s j)(i:aB.k=G.k)(C:(aB.s k).deaf=0)(H:(aB.s k).eC=true->(G.s k).eC=true)(un:(aB.s k).c=.un↔(G.s k).c=.un)(D:j1 aB.l=0)(ee:eX Z aB=eX Z G){p q:MemOp}(w:x.g=Z.wk k/\x.act=.send Z.ch s)(J:y.act=.recv Z.ch s cap)(hp:p.act=.sendDone Z.ch s)(u:q.g=0/\q.act=.recvDone Z.ch s):e5 Z aB (t++#[x,y,p,q]) B:=by
 have f:qC B #[x,y,p,q]:=D5 z w.2 J hp u.2;have rg:Grow G aB B:=⟨λb _=>by rw[E],F⟩
 have mt:∀g,hy Z aB g↔hy Z G g:=by
  intro g;have I:∀j,(aB.s j).c≠.un↔(G.s j).c≠.un:=λj=>by
   by_cases c:j=k
   .subst c;exact not_congr un
   .rw[l j c]
  unfold hy;rw[i];simp only[I]
 refine h.D6 f (by rw[ee];exact h.dy.oa rg) (λg o=>?_) (λg o=>(mt g).2 o) (λa=>?_) (λj c=>?_) (λj c=>?_) (by rw[i];exact id) (by rw[i];exact id)
 .exact Qu ((h.st g ((mt g).1 o)).oa rg) h.dy.size f
 .cases a with
  |main=>exact D.trans hm.symm
  |dN j=>
   show(aB.s j).deaf=(G.s j).deaf;by_cases c:j=k
   .subst c;rw[hd,C]
   .rw[l j c]
  |eu=>show aB.k.deaf=G.k.deaf;rw[i]
 .by_cases d:j=k
  .subst d;exact H c
  .rw[l j d]at c;exact c
 .by_cases d:j=k
  .subst d
   refine .inr (Rf (i1:=0) (i2:=3) ⟨rfl,w.1,w.2⟩ ⟨rfl,u.1,u.2⟩ (λop r=>⟨(f op r).1,(f op r).2.1,(f op r).2.2.1⟩) ?_ ?_)
   .rw[h.qU];exact hd
   .rw[h.d0];exact hm
  .rw[l j d]at c;exact .inl c
def fp.sW{s:qI}(h:fp (pl Z G) t s B)(o:aB.b1=G.b1)(p:∀g b,G.ro g b->aB.ro g b):fp (pl Z aB) t s B:=by
 refine⟨h.clean,h.size,h.hX,λi op a j l f hm c d=>?_,?_,h.seen⟩
 .refine(h.own i op a j l f hm c d).imp (λx=>?_) λx=>⟨x.1,p _ _ x.2.1,x.2.2⟩
  show op.g=aB.b1 _;rw[o];exact x
 .have:=h.cz
  cases s<;>exact this
def e5.spawn{cl:eF}(h:e5 Z G t B)(D:0<Z.N)(hm:j1 G.l=0)(I:j1 aB.l=0)(H:cl≠.main)(E:cl.deaf G=0)(K:aB.b1=G.b1)(L:∀g b,G.ro g b->aB.ro g b)(M:∀g b,g≠cl.num Z->aB.ro g b->G.ro g b)(P:∀b,aB.ro (cl.num Z) b->aB.b1 b=0)(F:qu (pl Z aB))(p:∀j,(aB.s j).deaf=(G.s j).deaf/\((aB.s j).eC=true->(G.s j).eC=true)/\((aB.s j).da=true->(G.s j).da=true))(o:aB.k.deaf=G.k.deaf/\(aB.k.shut=true->G.k.shut=true)/\(aB.k.said=false->G.k.said=false))(u:∀g,hy Z aB g↔(hy Z G g\/g=cl.num Z))(ee:eX Z aB=eX Z G)(q:x.g=0/\x.act=.go (cl.num Z))(r:y.g=cl.num Z/\y.act=.start):e5 Z aB (t++#[x,y]) B:=by
 have Q:qC B #[x,y]:=by
  intro op w;simp only[List.mem_toArray,List.mem_cons,iN,or_false]at w;rcases w with rfl|rfl
  .rw[q.2];exact⟨rfl,aF,aF,trivial⟩
  .rw[r.2];exact⟨rfl,aF,aF,trivial⟩
 have z:fp (pl Z aB) t (eX Z aB) B:=by rw[ee];exact h.dy.sW K L
 have old:∀g,hy Z G g->g≠cl.num Z->Started (pl Z aB) t g:=λg c J=>by have:=h.st g c;exact⟨this.old,λl d=>this.ro l ⟨M g _ J d.1,d.2⟩⟩
 have C:cl.num Z≠0:=λe=>H (eF.xb D (a:=cl) (b:=.main) e)
 refine h.D6 Q z (λg c=>?_) (λg c=>(u g).2 (.inl c)) (λa=>?_) (λj i=>(p j).2.1 i) (λj i=>.inl ((p j).2.2 i)) o.2.1 o.2.2
 .by_cases f:g=cl.num Z
  .subst f
   refine(old 0 (.inl rfl) (Ne.symm C)).child z q r (h.d0.trans hm) ((h.tT cl).trans E) F λl d=>?_
   have:=P _ d.1;exact⟨d.2.1,this,λ_ _ _=>this⟩
  .exact(old g (((u g).1 c).resolve_right f) f).Ph h.dy.size q r
 .cases a with
  |main=>exact I.trans hm.symm
  |dN j=>exact(p j).1
  |eu=>exact o.1
def e5.finish(h:e5 Z G t B)(ad:0<Z.N)(F:Z.ch<B)(R:∀k,(G.s k).da=true)(S:G.k.shut=true)(hm:j1 G.l=0)(o:y.g=0/\y.act=.recvClosed Z.ch):kB (λb=>Z.aH b\/b=Z.W) B (t++#[y]):=by
 have f:y.act.touch?=none:=by rw[o.2];rfl
 have K:y.act.low B:=by rw[o.2];exact F
 have hu:∀op∈#[y],op.act.touch?=none:=λop l=>by
  have e:op=y:=by simpa using l
  rw[e];exact f
 have d0:Deaf t 0=0:=h.d0.trans hm;refine(h.dy.one y f K).sS (W:=(· = Z.W)) ((h.st 0 (.inl rfl)).one y f h.dy.size) (λi op p ae=>?_) (λi g p H L E=>?_)
 .by_cases w:hy Z G op.g
  .rcases w with e|⟨k,e,_⟩|⟨e,_⟩
   .exact .inl e
   .rw[e];exact .inr ((h.told k (R k)).other λop l _=>hu op l)
   .rw[e];exact .inr ((h.shut S).told o d0 U)
  .refine .inr λV C X I M d c _=>?_
   rcases getElem?_append_cases M with⟨_,P⟩|⟨_,Q⟩
   .exact absurd (d ▸ h.nH V C I P (by rw[c];simp)) w
   .rw[hu C Q]at c;cases c
 .have r:i<t.size:=by have Y:=h.dy.size;have aa:(pl Z G).cT=Z.cT:=rfl;omega
  have d:t.g? i=some g:=by rw[<-pV (u:=#[y]) r];exact H
  obtain⟨j,q,D⟩:=h.over i g p d L ((counts_old r).1 E);have J:j<t.size:=by have:(t[j]?).map (·.g)=some 0:=q;obtain⟨z,T,_⟩:=Option.map_eq_some_iff.1 this;exact lt_size_of_getElem? T
  exact⟨j,by rw[pV J];exact q,hb_app _ D⟩
end
section
variable{X:et}{Z:Stat}[hi X Z]{G aB:bX}{u aC w:World}{t bh:Trace}{k:Bool}{g g':Goroutine}{c:fR}{M:Mem}{x:bA}{n j:Nat}{p:gO}
def z0:Value:=.agg #[i0,dg]
def j5(k:Bool)(v:Nat×Nat):Value:=.agg #[ah (if k then 1 else 0),four v]
inductive qA(Z:Stat)(G:bX)(g:Goroutine)(c:fR)(M:Mem)(x:bA)(n:Nat):Bool->Prop
 |run (h:g.status=.running):qA Z G g c M x n true
 |ri (a:Nat) (ag:∃b8,g=parked b8 #[rcase Z.ch z0] (.recv true)) (aj:G.l=28\/G.l=34\/G.l=40) (ak:n=a+1) (aM:At (hP Z) a ⟨G.l,c,M⟩ x) (dX:G.k.shut=false):qA Z G g c M x n false
inductive iJ(Z:Stat)(G:bX)(k:Bool)(g:Goroutine)(w:World)(cx:Bool):Nat->Bool->Prop
 |run {a} (h:g.status=.running) (ae:a≠0):iJ Z G k g w cx a true
 |sema {a} (h:g.status=.blocked) (az:g.offers=none) (ar:∃b,(G.s k).c=.lock (.qf b)) (fN:G.ms=0) (ae:a≠0):iJ Z G k g w cx a false
 |snd {a} (v:Nat×Nat) (x:bA) (n j b:Nat) (ag:∃b8,g=parked b8 #[scase Z.ch (j5 k v) (.tuple #[])] .send) (ar:g7 (G.s k) ⟨.out (.snd v),(G.s k).bb⟩) (aA:cB (fP (G.bP k)) Z G (Z.wk k) (.snd v) [] x g w n j) (aM:At (fP (G.bP k)) b (.snd v) x) (ak:n=b+1)
  (hO:(∀(n:Nat) own b o,(ib (G.bP k))[n]?=some (own,b,o)->G.b1 b≠Z.wk k)/\kA Z G (Z.wk k) w v) (jB:cx=true) (ae:a≠0):iJ Z G k g w cx a false
 |gone {a} (h:g.status=.finished) (ar:(G.s k).c=.out .fin) (ae:a=0):iJ Z G k g w cx a false
inductive lr(Z:Stat)(G:bX)(p:gO)(g:Goroutine)(w:World):Nat->Bool->Prop
 |run (x:bA) (n j:Nat) (aA:cB (jD Z) Z G (Z.N+2) p [] x g w n j) (h:g.status=.running):lr Z G p g w (n*500+j+1) true
 |wait (x:bA) (n j:Nat) (aA:cB (jD Z) Z G (Z.N+2) p [] x g w n j) (h:g.status=.blocked) (az:g.offers=none) (hp:p=.gq) (hm:G.m=0):lr Z G p g w (n*500+j+1) false
 |gone (hp:p=.fin) (h:g.status=.finished):lr Z G p g w 0 false
structure kS(Z:Stat)(aC:World)(wk:Bool)(f:Goroutine->Goroutine):Prop where
 rest:∀o,o.status=.running\/o.status=.finished->f o=o
 alt:∀o:Goroutine,o.status=.blocked->o.offers=none->f o=o\/f o={o with status:=.running}
 GX:wk=true->∀o:Goroutine,o.status=.blocked->o.offers=none->f o={o with status:=.running}
 MP:∀b8 z bK,(∃s r,aC.heap[Z.ch]?=some (.chan 0 #[] false s r false))->f (parked b8 #[rcase Z.ch z] bK)=parked b8 #[rcase Z.ch z] bK
 MQ:∀b8 v z bK,(∃s r,aC.heap[Z.ch]?=some (.chan 0 #[] false s r false))->f (parked b8 #[scase Z.ch v z] bK)=parked b8 #[scase Z.ch v z] bK
 O2:wk=true->∀b8 z bK,(∃s r,aC.heap[Z.ch]?=some (.chan 0 #[] true s r false))->f (parked b8 #[rcase Z.ch z] bK)={parked b8 #[rcase Z.ch z] bK with status:=.running}
def kS.id(Z:Stat)(aC:World):kS Z aC false (λo=>o):=⟨λ_ _=>rfl,λ_ _ _=>.inl rfl,λh=>(by cases h),λ_ _ _ _=>rfl,λ_ _ _ _ _=>rfl,λh=>(by cases h)⟩
def kS.woken(Z:Stat)(a c:Goroutine)(aC:World)(h:c.status=.running\/c.status=.finished):kS Z aC (mayWake aK a) (woken aK a c aC):=by
 have q:(c.status !=.blocked && c.status !=.waiting)=true:=by rcases h with h|h<;>rw[h]<;>rfl
 have d:∀o,Go.Conc.woken aK a c aC o=if mayWake aK a then o.again aC else o:=λo=>by
  unfold Go.Conc.woken;rcases hm:mayWake aK a with _|_
  .simp
  .rw[Bool.and_assoc,q];rfl
 have j:∀o:Goroutine,o.status=.blocked->o.offers=none->o.again aC={o with status:=.running}:=λo f g=>by unfold Goroutine.again;rw[f,g]
 refine⟨λo p=>?_,λo f g=>?_,λhm o f g=>?_,λl z bK ⟨s,r,i⟩=>?_,λl v z bK ⟨s,r,i⟩=>?_,λhm l z bK ⟨s,r,i⟩=>?_⟩
 .rw[d];split
  .exact again_running _ p
  .rfl
 .rw[d];split
  .exact .inr (j o f g)
  .exact .inl rfl
 .rw[d,if_pos hm];exact j o f g
 .rw[d];split
  .exact again_recv_open i
  .rfl
 .rw[d];split
  .exact again_send_open i
  .rfl
 .rw[d,if_pos hm];exact again_recv_closed i
def jl.rely(h:jl Z G g w c M x n j)(d:aB.l=G.l)(i:∀k,(aB.s k).da=(G.s k).da)(f:aB.cy=G.cy)(r:e0 Z G aB 0 w aC)(l:g'.frame=g.frame)(o:g'.callers=g.callers)(p:g'.dying=g.dying):jl Z aB g' aC c M x n j:=by
 refine⟨by rw[d];exact h.at_.rely r l o p,?_⟩;obtain⟨q,u,z,B,C⟩:=h.ok;have e:iB aB c=iB G c:=by funext k;unfold iB;rw[i,f,d]
 exact⟨q,by rw[d];exact u,by rw[e];exact z,by rw[d,i,f];exact B,by rw[d];exact C⟩
def qA.lp{b:Bool}(h:qA Z G g c M x n b)(F:kS Z aC wk f)(l:aB.l=G.l)(o:ea Z aB aC)(z:aB.k.shut=G.k.shut\/wk=true):∃j,qA Z aB (f g) c M x n j/\(f g).frame=g.frame/\(f g).callers=g.callers/\(f g).dying=g.dying/\(b=true->j=true):=by
 cases h with
 |run h=>exact⟨true,.run (by rw[F.rest g (.inl h)];exact h),by rw[F.rest g (.inl h)],by rw[F.rest g (.inl h)],by rw[F.rest g (.inl h)],id⟩
 |ri a q r u p w=>
  obtain⟨i,rfl⟩:=q;rcases d:aB.k.shut with _|_
  .have e:=F.MP i z0 (.recv true) ⟨_,_,by have:=o.ch;rw[d]at this;exact this⟩
   exact⟨false,.ri a ⟨i,e⟩ (by rw[l];exact r) u (by rw[l];exact p) d,by rw[e],by rw[e],by rw[e],λh=>by cases h⟩
  .have B:wk=true:=by
    rcases z with h|h
    .rw[d,w]at h;cases h
    .exact h
   have e:=F.O2 B i z0 (.recv true) ⟨_,_,by have:=o.ch;rw[d]at this;exact this⟩;exact⟨true,.run (by rw[e]),by rw[e],by rw[e],by rw[e],λ_=>rfl⟩
def xg(f:Base Z G w t)(h:(G.s k).cR=.no):G.k.shut=false:=by
 rcases g:G.k with _|p
 .rfl
 .cases p with
  |fin=>
   have:=f.b9.q6 g;obtain⟨_,c,d⟩:=vc this;cases k
   .rw[c]at h;cases h
   .rw[d]at h;cases h
  |_=>rfl
def iJ.lp{b cx:Bool}{m:Nat}(h:iJ Z G k g w cx m b)(F:kS Z aC wk f)(B:Base Z aB aC bh)(l:aB.s k=G.s k)(p:aB.bP k=G.bP k)(W:aB.cy k=G.cy k)(r:e0 Z G aB (Z.wk k) w aC)(P:aB.ms=G.ms\/aB.ms=0\/wk=true)(T:cx=true->fH=true):
 ∃H,iJ Z aB k (f g) aC fH m H/\(f g).frame=g.frame/\(f g).callers=g.callers/\(f g).dying=g.dying:=by
 cases h with
 |run h c=>exact⟨true,.run (by rw[F.rest g (.inl h)];exact h) c,by rw[F.rest g (.inl h)],by rw[F.rest g (.inl h)],by rw[F.rest g (.inl h)]⟩
 |sema h q d hm c=>
  rcases F.alt g h q with e|e
  .by_cases u:aB.ms=0
   .exact⟨false,.sema (by rw[e];exact h) (by rw[e];exact q) (by rw[l];exact d) u c,by rw[e],by rw[e],by rw[e]⟩
   .have V:wk=true:=by
     rcases P with I|I|I
     .rw[hm]at I;exact absurd I u
     .exact absurd I u
     .exact I
    have i:=F.GX V g h q;exact⟨true,.run (by rw[i]) c,by rw[i],by rw[i],by rw[i]⟩
  .exact⟨true,.run (by rw[e]) c,by rw[e],by rw[e],by rw[e]⟩
 |snd v x n j b K d E J Q C U c=>
  obtain⟨z,rfl⟩:=K;have R:(aB.s k).cR=.no:=by rw[l,<-d.cR];rfl
  have S:=xg B R;have D:=B.ww.ch;rw[S]at D;have e:=F.MQ z (j5 k v) (.tuple #[]) .send ⟨_,_,D⟩;refine⟨false,.snd v x n j b ⟨z,e⟩ (by rw[l];exact d) (by rw[p];exact E.rely r (by rw[e]) (by rw[e]) (by rw[e])) (by rw[p];exact J) Q ⟨λn own b o he=>?_,C.2.rely r⟩ (T U) c,by rw[e],by rw[e],by rw[e]⟩;rw[p]at he;have L:=gL (M:=ib (G.bP k)) E.mem he;rw[r.b1 b L];exact C.1 n own b o he
 |gone h d c=>exact⟨false,.gone (by rw[F.rest g (.inr h)];exact h) (by rw[l];exact d) c,by rw[F.rest g (.inr h)],by rw[F.rest g (.inr h)],by rw[F.rest g (.inr h)]⟩
def lr.lp{b:Bool}{m:Nat}(h:lr Z G p g w m b)(F:kS Z aC wk f)(r:e0 Z G aB (Z.N+2) w aC)(hm:aB.m=G.m\/aB.m=0\/wk=true):∃o,lr Z aB p (f g) aC m o:=by
 cases h with
 |run x n j c h=>
  have e:=F.rest g (.inl h);exact⟨true,.run x n j (c.rely r (by rw[e]) (by rw[e]) (by rw[e])) (by rw[e];exact h)⟩
 |wait x n j c h i hp q=>
  rcases F.alt g h i with e|e
  .by_cases l:aB.m=0
   .exact⟨false,.wait x n j (c.rely r (by rw[e]) (by rw[e]) (by rw[e])) (by rw[e];exact h) (by rw[e];exact i) hp l⟩
   .have u:wk=true:=by
     rcases hm with I|I|I
     .rw[q]at I;exact absurd I l
     .exact absurd I l
     .exact I
    have d:=F.GX u g h i;exact⟨true,.run x n j (c.rely r (by rw[d]) (by rw[d]) (by rw[d])) (by rw[d])⟩
  .exact⟨true,.run x n j (c.rely r (by rw[e]) (by rw[e]) (by rw[e])) (by rw[e])⟩
 |gone hp h=>exact⟨false,.gone hp (by rw[F.rest g (.inr h)];exact h)⟩
end
section
variable{X:et}{Z:Stat}[hi X Z]{G aB:bX}{gs bm:Array Goroutine}{u aC w:World}{t bh:Trace}{k:Bool}{g g':Goroutine}{m dd cb iz:Nat}{bt:Bool->gQ X.Q}{q:Nat->Nat}{cx du:Bool}{hS rw:Bool->Bool}
structure eD(X:et)(Z:Stat)(G:bX)(gs:Array Goroutine)(w:World)(t:Trace)(m:Nat)(bt:Bool->gQ X.Q)(cb:Nat)(q:Nat->Nat)(cx:Bool)(rw:Bool->Bool)(du:Bool):Prop where
 base:Base Z G w t
 size:gs.size=Z.N+(if G.l<26 then 1 else if G.l<27 then 2 else 3)
 main:∃g c M x n j,gs[0]?=some g/\jl Z G g w c M x n j/\m=n*500+j/\qA Z G g c M x n cx
 dN:∀k,(G.s k).c≠.un->∃g,gs[Z.wk k]?=some g/\fz X Z G k g w (G.s k) (bt k)/\iJ Z G k g w cx (bt k).1 (rw k)
 eu:∀p,G.k=.at p->∃g,gs[Z.N+2]?=some g/\lr Z G p g w cb du
 old:∀i g,0<i->i<Z.N->gs[i]?=some g->QuitsD aK (q i) (Deaf t i) g
def gN.at(h:gN M w)(n:Nat):gN M (w.at n):=⟨h.has,h.fL⟩
def fz.at{s:ck}{bt:gQ X.Q}(c:Base Z G w t)(h:fz X Z G k g w s bt)(n:Nat):fz X Z G k g (w.at n) s bt:=h.rely rfl rfl (e0.at Z G _ c.ww n) rfl rfl rfl id
def cB.at{Pos:Type}{A:de Pos}{i:Nat}{p:Pos}{base:List Frame}{x:bA}{n:Nat}(h:cB A Z G i p base x g w n j)(d:Nat):cB A Z G i p base x g (w.at d) n j:=⟨h.on,h.le,h.fr,h.cs,h.m',h.mem.at d,h.own⟩
def eD.at(h:eD X Z G gs w t m bt cb q cx rw du)(d:Nat):eD X Z G gs (w.at d) t m bt cb q cx rw du:=by
 refine⟨h.base.at d,h.size,?_,λk I=>?_,λp hp=>?_,h.old⟩
 .obtain⟨g,c,M,x,n,j,l,i,o,E⟩:=h.main
  exact⟨g,c,M,x,n,j,l,⟨i.at_.at d,i.ok⟩,o,E⟩
 .obtain⟨g,l,i,o⟩:=h.dN k I
  refine⟨g,l,i.at h.base d,?_⟩;generalize rw k=r at o ⊢;generalize (bt k).1=mk at o ⊢;cases o with
  |run h f=>exact .run h f
  |sema h D u J f=>exact .sema h D u J f
  |snd v x n j b H u B F K C L f=>exact .snd v x n j b H u (B.at d) F K ⟨C.1,C.2.1,C.2.2,C.2.3⟩ L f
  |gone h u f=>exact .gone h u f
 .obtain⟨g,l,i⟩:=h.eu p hp
  refine⟨g,l,?_⟩;clear h;cases i with
  |run x n j B z=>exact .run x n j (B.at d) z
  |wait x n j B z D hp hm=>exact .wait x n j (B.at d) z D hp hm
  |gone hp z=>exact .gone hp z
def eD.live(h:eD X Z G gs w t m bt cb q cx rw du):∃(i:Nat) (g:Goroutine),gs[i]?=some g/\g.status=.running:=by
 obtain⟨g,c,M,x,n,j,S,al,am,T⟩:=h.main;cases T with
 |run d=>exact⟨0,g,S,d⟩
 |ri a ad ap I ao K=>
  have ag:¬G.l<27:=U;have af:¬G.l<26:=U;have Q:(G.s true).c≠.un:=λe=>af (h.base.b9.l9.2 e)
  have P:=h.base.b9.pG;have bH:∃p,G.k=.at p:=by
   rcases ae:G.k with _|p
   .exact absurd (h.base.b9.mS.2 ae) ag
   .exact⟨p,rfl⟩
  obtain⟨p,hp⟩:=bH;obtain⟨gk,ai,aj⟩:=h.eu p hp;obtain⟨D,L,w2,w3⟩:=h.dN false P;obtain⟨E,v1,v2,v3⟩:=h.dN true Q;have sema:∀k,(∀j,∃g,gs[Z.wk j]?=some g/\iJ Z G j g w false (bt j).1 (rw j))->(∃b,(G.s k).c=.lock (.qf b))->G.ms=0->∃(i:Nat) (g:Goroutine),gs[i]?=some g/\g.status=.running:=by
   intro k u ⟨b,V⟩ l;obtain⟨g',R,z⟩:=u (!k);have B:=h.base.b9.side k;have d:(G.s k).role=.q:=by unfold ck.role;rw[V];rfl
   rw[d]at B;have ah:(G.s (!k)).role≠.fin:=by
    rcases cO.sema B with⟨_,e⟩|⟨e,_⟩
    .exact e
    .rw[l]at e;cases e
   have J:(G.s (!k)).role≠.idle/\(G.s (!k)).role≠.q:=by have:=B.mu;constructor<;>(intro e;rw[e]at this;simp[jO,j2]at this)
   generalize rw (!k)=r at z;generalize (bt (!k)).1=mk at z;cases z with
   |run d _=>exact⟨_,g',R,d⟩
   |sema _ _ f _ _=>
    obtain⟨ak,W⟩:=f;exact absurd (by unfold ck.role;rw[W];rfl) J.2
   |snd v x n j b ad f _ _ _ _ o _=>cases o
   |gone _ f _=>
    exfalso;rcases F:(G.s (!k)).bb with _|_
    .exact J.1 (by unfold ck.role;rw[f,F];rfl)
    .exact ah (by unfold ck.role;rw[f,F];rfl)
  have u:∀j,∃g,gs[Z.wk j]?=some g/\iJ Z G j g w false (bt j).1 (rw j):=λj=>by
   cases j
   .exact⟨D,L,w3⟩
   .exact⟨E,v1,v3⟩
  clear w2 v2;generalize rw false=r0 at w3;generalize rw true=r1 at v3;generalize (bt false).1=aq at w3;generalize (bt true).1=ar at v3;cases w3 with
  |run d _=>exact⟨_,D,L,d⟩
  |sema _ _ f l _=>exact sema false u f l
  |snd _ _ _ _ _ _ _ _ _ _ _ o _=>cases o
  |gone _ Y _=>
   cases v3 with
   |run d _=>exact⟨_,E,v1,d⟩
   |sema _ _ f l _=>exact sema true u f l
   |snd _ _ _ _ _ _ _ _ _ _ _ o _=>cases o
   |gone _ aa _=>
    cases aj with
    |run _ _ _ _ d=>exact⟨_,gk,ai,d⟩
    |wait _ _ _ _ _ _ C hm=>
     exfalso;subst C;have wg:=h.base.b9.q6 hp;rcases G4 wg with⟨_,I⟩|⟨H,_⟩
     .exact I ⟨by unfold ck.cR;rw[Y];rfl,by unfold ck.cR;rw[aa];rfl⟩
     .rw[hm]at H;cases H
    |gone C _=>
     exfalso;subst C;rw[hp]at K;cases K
abbrev rT(Q:Program):=Nat×gQ Q×gQ Q×Nat×Nat×Nat
def q'(Q:Program):rT Q->rT Q->Prop:=Prod.Lex (· < ·) (Prod.Lex (eQ Q) (Prod.Lex (eQ Q) (Prod.Lex (· < ·) (Prod.Lex (· < ·) (· < ·)))))
def Md(Q:Program):WellFounded (q' Q):=
 (Prod.lex ⟨_,Nat.lt_wfRel.wf⟩ (Prod.lex ⟨_,G9 Q⟩ (Prod.lex ⟨_,G9 Q⟩ (Prod.lex ⟨_,Nat.lt_wfRel.wf⟩ (Prod.lex ⟨_,Nat.lt_wfRel.wf⟩ ⟨_,Nat.lt_wfRel.wf⟩))))).wf
def kW(b:Bool):Nat:=if b then 1 else 0
def h'(Z:Stat)(m:Nat)(bt:Bool->gQ X.Q)(cb:Nat)(q:Nat->Nat)(cx:Bool)(rw:Bool->Bool)(du:Bool):rT X.Q:=(m,bt false,bt true,cb,sumTo Z.N q,kW cx+kW (rw false)+kW (rw true)+kW du)
def hY{α:Type}(f:Bool->α)(k:Bool)(x:α):Bool->α:=λj=>if j=k then x else f j
def uD{x:rT X.Q}(h:dd<m)(e:x.1=dd):q' X.Q x (h' Z m bt cb q cx rw du):=by obtain⟨a,b⟩:=x;subst e;exact .left _ _ h
def Mh{ga:gQ X.Q}(k:Bool)(h:eQ X.Q ga (bt k))(iz:Nat)(g2:Nat->Nat)(fH:Bool)(hS:Bool->Bool)(c:Bool):q' X.Q (h' Z m (hY bt k ga) iz g2 fH hS c) (h' Z m bt cb q cx rw du):=by
 unfold h' hY;cases k
 .exact .right _ (.left _ _ h)
 .exact .right _ (.right _ (.left _ _ h))
def Mf(h:iz<cb)(g2:Nat->Nat)(fH:Bool)(hS:Bool->Bool)(c:Bool):q' X.Q (h' Z m bt iz g2 fH hS c) (h' Z m bt cb q cx rw du):=.right _ (.right _ (.right _ (.left _ _ h)))
def Mg{g2:Nat->Nat}(h:sumTo Z.N g2<sumTo Z.N q)(fH:Bool)(hS:Bool->Bool)(c:Bool):q' X.Q (h' Z m bt cb g2 fH hS c) (h' Z m bt cb q cx rw du):=.right _ (.right _ (.right _ (.right _ (.left _ _ h))))
def zW{hS:Bool->Bool}{c:Bool}(h:kW fH+kW (hS false)+kW (hS true)+kW c<kW cx+kW (rw false)+kW (rw true)+kW du):q' X.Q (h' Z m bt cb q fH hS c) (h' Z m bt cb q cx rw du):=.right _ (.right _ (.right _ (.right _ (.right _ h))))
def OV(a:g5 G)(i:g5 aB)(l:aB.l=G.l)(k:Bool)(g:∀j,j≠k->aB.s j=G.s j):∀j,(aB.s j).da=(G.s j).da:=by
 have d:=a.cnt;have c:=i.cnt;rw[l]at c;intro j;by_cases h:j=k
 .subst h
  cases j
  .rw[g true aF]at c
   rcases e:(G.s false).da with _|_<;>rcases f:(aB.s false).da with _|_<;>rw[e]at d<;>rw[f]at c<;>simp at d c<;>first|rfl|omega
  .rw[g false aF]at c
   rcases e:(G.s true).da with _|_<;>rcases f:(aB.s true).da with _|_<;>rw[e]at d<;>rw[f]at c<;>simp at d c<;>first|rfl|omega
 .rw[g j h]
end
section
variable{X:et}{Z:Stat}[hi X Z]{G aB:bX}{gs bm:Array Goroutine}{u aC w:World}{t bh:Trace}{k:Bool}{g g':Goroutine}{m dd cb iz:Nat}{bt:Bool->gQ X.Q}{q:Nat->Nat}{cx du:Bool}{hS rw:Bool->Bool}{sl:Option (Nat×Nat)}{es:Array Event}
def lz(X:et)(Z:Stat)(gs:Array Goroutine)(u:World)(sl:Option (Nat×Nat))(t:Trace)(i:Nat)(d:rT X.Q):Prop:=
 ∃(aB:bX) (bm:Array Goroutine) (aC:World) (ops:Array MemOp) (dd:Nat) (ga:Bool->gQ X.Q) (iz:Nat) (g2:Nat->Nat) (fH:Bool) (hS:Bool->Bool) (c:Bool),
  runT aK (crowd gs u sl) i=(.next (crowd bm aC sl),ops)/\eD X Z aB bm aC (t++ops) dd ga iz g2 fH hS c/\q' X.Q (h' Z dd ga iz g2 fH hS c) d
def so{i:Nat}{x:Goroutine}(h:j≠i):((gs.map f).setIfInBounds i x)[j]?=(gs[j]?).map f:=by rw[h7 (Ne.symm h),Array.getElem?_map]
def ug{i:Nat}{x g:Goroutine}(h:gs[i]?=some g):((gs.map f).setIfInBounds i x)[i]?=some x:=by rw[iO (by simpa using bu h)]
def ji(c:0<Z.N)(k:Bool):Z.wk k≠0:=by cases k<;>simp[Stat.wk]<;>omega
def G6(k:Bool):Z.wk (!k)≠Z.wk k:=by cases k<;>simp[Stat.wk]
def By{a:Nat}{b:Bool}(h:iJ Z G k g w cx a b)(c:g.status=.running):b=true/\a≠0:=by
 cases h with
 |run _ d=>exact⟨rfl,d⟩
 |sema h _ _ _ _=>rw[c]at h;cases h
 |snd _ _ _ _ _ f _ _ _ _ _ _ _=>obtain⟨i,rfl⟩:=f;cases c
 |gone h _ _=>rw[c]at h;cases h
def fz.res{s:ck}{p:h5}{bt:gQ X.Q}(h:fz X Z G k g w s bt)(d:s.c=.out p)(hp:nF p=true):kA Z G (Z.wk k) w (G.cy k):=by
 cases h with
 |out gA ok h i j c=>
  cases d;exact c _ (by cases p<;>first|rfl|cases hp)
 |gone gA f c=>exact c
 |_=>cases d
def CS(t:Trace)(g:Nat)(fn:FuncId)(pos:String):t++MemOp.ofEvents g fn pos #[]=t:=by rw[ofEvents_eq];simp
def eD.others(h:eD X Z G gs u t m bt cb q cx rw du)(i0:Nat)(F:kS Z aC wk f)(H:Base Z aB aC bh)(z:aB.l=G.l)(I:aB.bP=G.bP)(B:aB.cy=G.cy)(aj:∀j,Z.wk j≠i0->aB.s j=G.s j)(ah:i0≠Z.N+2->aB.k=G.k)(ak:∀k,(aB.s k).da=(G.s k).da)(r:∀i,i≠i0->e0 Z G aB i u aC)(am:bm.size=gs.size)(o:∀i,i≠i0->bm[i]?=(gs[i]?).map f)(ai:aB.ms=G.ms\/aB.ms=0\/wk=true)(hm:aB.m=G.m\/aB.m=0\/wk=true)(al:aB.k.shut=G.k.shut\/wk=true)(ag:∀i,i≠i0->Deaf bh i=Deaf t i):
 ∃fH,(i0≠0->∃g c M x n j,bm[0]?=some g/\jl Z aB g aC c M x n j/\m=n*500+j/\qA Z aB g c M x n fH)/\(cx=true->fH=true)/\
  (∀k,Z.wk k≠i0->(G.s k).c≠.un->∃g b,bm[Z.wk k]?=some g/\fz X Z aB k g aC (aB.s k) (bt k)/\iJ Z aB k g aC fH (bt k).1 b)/\(i0≠Z.N+2->∀p,aB.k=.at p->∃g b,bm[Z.N+2]?=some g/\lr Z aB p g aC cb b)/\
  (∀i g,i≠i0->0<i->i<Z.N->bm[i]?=some g->QuitsD aK (q i) (Deaf bh i) g)/\bm.size=Z.N+(if aB.l<26 then 1 else if aB.l<27 then 2 else 3):=by
 obtain⟨g,c,M,x,n,j,W,Y,aa,ad⟩:=h.main;obtain⟨fH,t1,t2,t3,t4,t5⟩:=ad.lp F z H.ww al;refine⟨fH,λd=>?_,t5,λk l af=>?_,λd p hp=>?_,λi g d V ae K=>?_,by rw[am,z];exact h.size⟩
 .exact⟨f g,c,M,x,n,j,by rw[o 0 (Ne.symm d),W];rfl,Y.rely z ak B (r 0 (Ne.symm d)) t2 t3 t4,aa,t1⟩
 .obtain⟨gk,C,D,ao⟩:=h.dN k af
  have P:=aj k l;obtain⟨w,R,S,T,U⟩:=ao.lp F H P (by rw[I]) (by rw[B]) (r _ l) ai t5;refine⟨f gk,w,by rw[o _ l,C];rfl,?_,R⟩;rw[P];exact D.rely (by rw[I]) (by rw[B]) (r _ l) S T U λJ=>by rw[F.rest gk (.inr J)];exact J
 .rw[ah d]at hp
  obtain⟨gk,C,D⟩:=h.eu p hp;obtain⟨w,e⟩:=D.lp F (r _ (Ne.symm d)) hm;exact⟨f gk,w,by rw[o _ (Ne.symm d),C];rfl,e⟩
 .rw[o i d]at K
  obtain⟨E,Q,rfl⟩:=Option.map_eq_some_iff.1 K;have L:=h.old i E V ae Q;rw[F.rest E L.status,ag i d];exact L
def G7{k j:Bool}(h:j≠k):Z.wk j≠Z.wk k:=λe=>h (Bw e)
def eD.B3(h:eD X Z G gs u t m bt cb q cx rw du)(k:Bool)(ao:(G.s k).c≠.un)(B:gs[Z.wk k]?=some g){ga:gQ X.Q}(al:stepG aK false g u=.go g' aC es)(z:Base Z aB aC (t++MemOp.ofEvents (Z.wk k) g.frame.fn g.frame.place es))(ah:g'.status=.running\/g'.status=.finished)(D:∀j,j≠k->aB.s j=G.s j)(J:aB.k=G.k)(K:aB.l=G.l)(V:aB.bP=G.bP)(aj:aB.cy=G.cy)(af:∀i,i≠Z.wk k->e0 Z G aB i u aC)(M:fz X Z aB k g' aC (aB.s k) ga){b:Bool}(L:∀fH,iJ Z aB k g' aC fH ga.1 b)(ad:aB.ms=G.ms\/aB.ms=0\/mayWake aK g=true)(hm:aB.m=G.m\/aB.m=0\/mayWake aK g=true)(aa:eQ X.Q ga (bt k)):lz X Z gs u sl t (Z.wk k) (h' Z m bt cb q cx rw du):=by
 have I:=h.base.ap.pos;have ai:=runT_crowd_go (P:=aK) (sl:=sl) B (show stepG aK (Z.wk k == 0) g u=_ by rw[show(Z.wk k == 0)=false by simpa using ji I k];exact al);have F:=kS.woken Z g g' aC ah;obtain⟨fH,Q,am,a3,a4,a5,R⟩:=h.others (bm:=(gs.map (woken aK g g' aC)).setIfInBounds (Z.wk k) g') (Z.wk k) F z K V aj (λj d=>D j λe=>d (by rw[e])) (λ_=>J) (OV h.base.b9 z.b9 K k D) af aF (λi C=>so C) ad hm (.inl (by rw[J]))
  (λi C=>Deaf_other t (g':=Z.wk k) (Ne.symm C) _ λop ae=>by obtain⟨e,_,rfl⟩:=Go.Conc.mem_ofEvents ae;rfl)
 have un:∀j,j≠k->(aB.s j).c≠.un->(G.s j).c≠.un:=λj d hu=>by rw[<-D j d];exact hu
 obtain⟨H,ak⟩:∃H:Bool->Bool,∀j,(aB.s j).c≠.un->∃c,((gs.map (woken aK g g' aC)).setIfInBounds (Z.wk k) g')[Z.wk j]?=some c/\fz X Z aB j c aC (aB.s j) (hY bt k ga j)/\iJ Z aB j c aC fH (hY bt k ga j).1 (H j):=by
  by_cases hu:(G.s (!k)).c=.un
  .refine⟨λ_=>b,λj d=>?_⟩
   by_cases f:j=k
   .subst f
    exact⟨g',ug B,by unfold hY;rw[if_pos rfl];exact M,by unfold hY;rw[if_pos rfl];exact L fH⟩
   .have:j = !k:=by cases j<;>cases k<;>simp_all
    subst this;exact absurd hu (un _ f d)
  .obtain⟨w,l,o,r,S⟩:=a3 (!k) (G6 k) hu
   refine⟨λj=>if j=k then b else l,λj d=>?_⟩;by_cases f:j=k
   .subst f
    refine⟨g',ug B,by unfold hY;rw[if_pos rfl];exact M,?_⟩;unfold hY;simp only[if_true];exact L fH
   .have:j = !k:=by cases j<;>cases k<;>simp_all
    subst this;refine⟨w,o,?_,?_⟩
    .unfold hY;rw[if_neg f];exact r
    .unfold hY;simp only[if_neg f];exact S
 obtain⟨E,ag⟩:∃E,∀p,aB.k=.at p->∃c,((gs.map (woken aK g g' aC)).setIfInBounds (Z.wk k) g')[Z.N+2]?=some c/\lr Z aB p c aC cb E:=by
  rcases Y:aB.k with _|p
  .exact⟨false,λp hp=>by cases hp⟩
  .obtain⟨w,l,o,r⟩:=a4 (vf Z k) p Y
   exact⟨l,λia hp=>by cases hp;exact⟨w,o,r⟩⟩
 exact⟨aB,_,aC,_,m,hY bt k ga,cb,q,fH,H,E,ai,⟨z,R,Q (ji I k),ak,ag,λi g T U W=>a5 i g (by cases k<;>simp[Stat.wk]<;>omega) T U W⟩,Mh k aa _ _ _ _ _⟩
end
section
variable{X:et}{Z:Stat}[hi X Z]{G aB:bX}{gs bm:Array Goroutine}{u aC w:World}{t bh:Trace}{k:Bool}{g g':Goroutine}{m dd cb iz:Nat}{bt:Bool->gQ X.Q}{q:Nat->Nat}{cx du:Bool}{hS rw:Bool->Bool}{sl:Option (Nat×Nat)}{es:Array Event}{p ia:gO}
def sT{P:Bool->Bool->Prop}{D:Bool->Prop}(h:∀k,D k->∃b,P k b):∃rw:Bool->Bool,∀k,D k->P k (rw k):=by refine⟨λk=>Classical.epsilon λb=>P k b,λk c=>?_⟩;exact Classical.epsilon_spec (h k c)
def eD.B2(h:eD X Z G gs u t m bt cb q cx rw du)(o:gs[Z.N+2]?=some g)(Y:stepG aK false g u=.go g' aC es)(l:Base Z aB aC (t++MemOp.ofEvents (Z.N+2) g.frame.fn g.frame.place es))(R:g'.status=.running\/g'.status=.finished)(I:aB.k=.at ia)(f:aB.s=G.s)(J:aB.l=G.l)(E:aB.bP=G.bP)(T:aB.cy=G.cy)(Q:∀i,i≠Z.N+2->e0 Z G aB i u aC){b:Bool}(aa:lr Z aB ia g' aC iz b)(L:aB.ms=G.ms)(hm:aB.m=G.m\/aB.m=0)(W:aB.k.shut=G.k.shut\/mayWake aK g=true)(K:iz<cb):lz X Z gs u sl t (Z.N+2) (h' Z m bt cb q cx rw du):=by
 have af:=h.base.ap.pos;have S:=runT_crowd_go (P:=aK) (sl:=sl) o (show stepG aK (Z.N+2 == 0) g u=_ by rw[show(Z.N+2 == 0)=false by simp];exact Y);have F:=kS.woken Z g g' aC R;obtain⟨fH,w,ae,a3,a4,a5,z⟩:=h.others (bm:=(gs.map (woken aK g g' aC)).setIfInBounds (Z.N+2) g') (Z.N+2) F l J E T (λj _=>by rw[f]) (λe=>absurd rfl e) (λj=>by rw[f]) Q aF (λi d=>so d) (.inl L) (hm.imp id .inl) W
  (λi d=>Deaf_other t (g':=Z.N+2) (Ne.symm d) _ λop M=>by obtain⟨e,_,rfl⟩:=Go.Conc.mem_ofEvents M;rfl)
 obtain⟨ad,V⟩:=sT (P:=λk b=>∃c,((gs.map (woken aK g g' aC)).setIfInBounds (Z.N+2) g')[Z.wk k]?=some c/\fz X Z aB k c aC (aB.s k) (bt k)/\iJ Z aB k c aC fH (bt k).1 b) (D:=λk=>(aB.s k).c≠.un) λk r=>by obtain⟨c,b,e⟩:=a3 k (vf Z k) (by rw[f]at r;exact r);exact⟨b,c,e⟩
 exact⟨aB,_,aC,_,m,bt,iz,q,fH,ad,b,S,⟨l,z,w U,V,λp hp=>by rw[I]at hp;cases hp;exact⟨g',ug o,aa⟩,λi g B C H=>a5 i g U B C H⟩,Mf K _ _ _ _⟩
def eD.Ic(h:eD X Z G gs u t m bt cb q cx rw du){i:Nat}(al:0<i)(T:i<Z.N)(I:gs[i]?=some g)(H:g.status=.running):lz X Z gs u sl t i (h' Z m bt cb q cx rw du):=by
 have E:=h.old i g al T I;have ax:(i == 0)=false:=cH;cases L:q i with
 |zero=>rw[L]at E;rw[E.1]at H;cases H
 |succ a=>
  rw[L]at E;rcases E with⟨ar,_⟩|⟨_,g',es,W,aN,Y⟩
  .rw[ar]at H;cases H
  have aI:=Y.status;have aL:=runT_crowd_go (P:=aK) (sl:=sl) I (show stepG aK (i == 0) g u=_ by rw[ax];exact aN u);have F:=kS.woken Z g g' u aI;have aV:qC u.heap.size (MemOp.ofEvents i g.frame.fn g.frame.place es)\/True:=.inr trivial;have hE:∀op∈MemOp.ofEvents i g.frame.fn g.frame.place es,op.g=i/\op.act.touch?=none/\op.act.low u.heap.size:=λop f=>by obtain⟨e,he,rfl⟩:=Go.Conc.mem_ofEvents f;exact⟨rfl,touch_mute (W e he),low_mute (W e he) _⟩
  have C:∀j,j≠i->Deaf (t++MemOp.ofEvents i g.frame.fn g.frame.place es) j=Deaf t j:=λj d=>Deaf_other t (g':=i) (Ne.symm d) _ λop f=>(hE op f).1
  have c:=h.base.dy;have S:Base Z G u (t++MemOp.ofEvents i g.frame.fn g.frame.place es):=by
   refine⟨h.base.ww,h.base.b9,h.base.ap,?_,h.base.oc,h.base.s0,h.base.hold,h.base.old,h.base.o4,h.base.iA,h.base.rn,h.base.cfg⟩;have aQ:∀k,Z.wk k≠i:=λk=>by cases k<;>simp[Stat.wk]<;>omega
   refine⟨?_,λg' au=>?_,λk B=>?_,?_,λk=>?_,?_,λj d=>?_,λk B=>?_,λB=>?_,λe o ad w am=>?_,λo op w aE aa=>?_,λo R w av aD aq=>?_⟩
   .exact ra (M:=λs=>fp (pl Z G) s (eX Z G) u.heap.size) c.dy λs y r _ h=>h.one y (hE y r).2.1 (hE y r).2.2
   .have:=ra (t:=t) (v:=MemOp.ofEvents i g.frame.fn g.frame.place es) (M:=λs=>Started (pl Z G) s g'/\(pl Z G).cT<=s.size) ⟨c.st g' au,c.dy.size⟩ λs y r _ h=>⟨h.1.one y (hE y r).2.1 h.2,cH⟩
    exact this.1
   .exact ra (M:=λs=>iH (pl Z G) s (Z.wk k)) (c.uQ k B) λs y r _ h=>h.one y (hE y r).2.1
   .rw[C 0 U];exact c.d0
   .rw[C _ (aQ k)];exact c.qU k
   .rw[C _ U];exact c.oJ
   .rw[C _ U];exact c.above j d
   .exact(c.told k B).other λop f _=>(hE op f).2.1
   .exact(c.shut B).app λop f _=>(hE op f).2.1
   .obtain⟨_,ao⟩:=uF (λop f=>(hE op f).2.1) am
    exact c.said e o ad w ao
   .rcases getElem?_append_cases aE with⟨_,aG⟩|⟨_,aH⟩
    .exact c.nH o op w aG aa
    .exact absurd (hE op aH).2.1 aa
   .have V:o<t.size:=by have aS:=c.dy.size;have aT:(pl Z G).cT=Z.cT:=rfl;omega
    have aw:t.g? o=some R:=by rw[<-pV (u:=MemOp.ofEvents i g.frame.fn g.frame.place es) V];exact av
    obtain⟨j,d,ap⟩:=c.over o R w aw aD ((counts_old V).1 aq);have aA:j<t.size:=by have:(t[j]?).map (·.g)=some 0:=d;obtain⟨z,aO,_⟩:=Option.map_eq_some_iff.1 this;exact lt_size_of_getElem? aO
    exact⟨j,by rw[pV aA];exact d,hb_app _ ap⟩
  obtain⟨fH,ae,aR,a3,a4,a5,af⟩:=h.others (bm:=(gs.map (woken aK g g' u)).setIfInBounds i g') i F S rfl rfl rfl (λ_ _=>rfl) (λ_=>rfl) (λ_=>rfl) (λj _=>e0.at Z G j h.base.ww u.drawn) aF (λj d=>so d) (.inl rfl) (.inl rfl) (.inl rfl) (λj d=>C j d);obtain⟨aP,aM⟩:=sT (P:=λk b=>∃l,((gs.map (woken aK g g' u)).setIfInBounds i g')[Z.wk k]?=some l/\fz X Z G k l u (G.s k) (bt k)/\iJ Z G k l u fH (bt k).1 b) (D:=λk=>(G.s k).c≠.un) λk aB=>by obtain⟨l,b,e⟩:=a3 k (by cases k<;>simp[Stat.wk]<;>omega) aB;exact⟨b,l,e⟩
  obtain⟨Q,aJ⟩:∃Q,∀p,G.k=.at p->∃l,((gs.map (woken aK g g' u)).setIfInBounds i g')[Z.N+2]?=some l/\lr Z G p l u cb Q:=by
   rcases aC:G.k with _|p
   .exact⟨false,λp hp=>by cases hp⟩
   .obtain⟨aj,ag,ah,ai⟩:=a4 U p aC
    exact⟨ag,λia hp=>by cases hp;exact⟨aj,ah,ai⟩⟩
  refine⟨G,_,u,_,m,bt,cb,upd q i a,fH,aP,Q,aL,⟨S,af,ae U,aM,aJ,λj ak ay az J=>?_⟩,Mg ?_ _ _ _⟩
  .by_cases K:j=i
   .subst K
    rw[ug I]at J;obtain rfl:=bD J;rw[upd_same,Deaf_own];exact Y
   .rw[upd_ne q a K]
    exact a5 j ak K ay az J
  .have aU:sumTo Z.N (upd q i a)+(a+1)=sumTo Z.N q+a:=by have:=sumTo_upd q a _root_.id T;simpa [L]using this
   omega
def Fb{i:Nat}(c:gs[i]?=some g)(d:stepG aK (i == 0) g u=.go ⟨g.frame,g.callers,.blocked,none,none⟩ u)(sl:Option (Nat×Nat)):runT aK (crowd gs u sl) i=(.next (crowd (gs.setIfInBounds i ⟨g.frame,g.callers,.blocked,none,none⟩) u sl),#[]):=by
 have:=runT_crowd_go (P:=aK) (sl:=sl) c d;have e:gs.map (woken aK g ⟨g.frame,g.callers,.blocked,none,none⟩ u)=gs:=by
  apply Array.ext_getElem?;intro j;rw[Array.getElem?_map];cases gs[j]? with
  |none=>rfl
  |some o=>simp[woken]
 rw[e]at this;rw[this,ofEvents_eq];simp
def eD.Fa(h:eD X Z G gs u t m bt cb q cx rw du)(k:Bool)(L:(G.s k).c≠.un)(z:gs[Z.wk k]?=some g)(D:g.status=.running)(W:fz X Z G k g u (G.s k) (bt k))(Q:g'.frame=g.frame)(P:g'.callers=g.callers)(hd:g'.dying=g.dying)(V:iJ Z G k g' u cx (bt k).1 false)(U:runT aK (crowd gs u sl) (Z.wk k)=(.next (crowd (gs.setIfInBounds (Z.wk k) g') u sl),#[])):lz X Z gs u sl t (Z.wk k) (h' Z m bt cb q cx rw du):=by
 have J:=h.base.ap.pos;have T:=bu z;obtain⟨d,w,_,F⟩:=h.dN k L;rw[z]at w;obtain rfl:=bD w;obtain⟨C,_⟩:=By F D;have o:∀i,i≠Z.wk k->(gs.setIfInBounds (Z.wk k) g')[i]?=gs[i]?:=λi R=>h7 (Ne.symm R)
 refine⟨G,_,u,#[],m,bt,cb,q,cx,hY rw k false,du,U,⟨by simpa using h.base,by rw[Array.size_setIfInBounds];exact h.size,?_,λj S=>?_,λp hp=>?_,λi H I K B=>?_⟩,zW ?_⟩
 .obtain⟨d,c,M,x,n,j,f,l⟩:=h.main
  exact⟨d,c,M,x,n,j,by rw[o 0 (Ne.symm (ji J k))];exact f,l⟩
 .by_cases r:j=k
  .subst r
   refine⟨g',by rw[iO T],W.rely rfl rfl (e0.at Z G _ h.base.ww u.drawn) Q P hd (λE=>by rw[D]at E;cases E),?_⟩;unfold hY;rw[if_pos rfl];exact V
  .obtain⟨d,f,l⟩:=h.dN j S
   refine⟨d,by rw[o _ (G7 r)];exact f,?_⟩;unfold hY;rw[if_neg r];exact l
 .obtain⟨d,f,l⟩:=h.eu p hp
  exact⟨d,by rw[o _ (Ne.symm (vf Z k))];exact f,l⟩
 .rw[o i (by cases k<;>simp[Stat.wk]<;>omega)]at B
  simpa using h.old i H I K B
 .unfold hY kW
  cases k
  .rw[C];simp
  .rw[C];simp
def eD.Rh(h:eD X Z G gs u t m bt cb q cx rw du)(hp:G.k=.at p)(f:gs[Z.N+2]?=some g)(L:g.status=.running):lz X Z gs u sl t (Z.N+2) (h' Z m bt cb q cx rw du):=by
 obtain⟨w,H,Q⟩:=h.eu p hp;rw[f]at H;obtain rfl:=bD H;have al:=h.base.ap.pos;have Y:(Z.N+2 == 0)=false:=aF;cases Q with
 |wait _ _ _ _ z _ _ _=>rw[L]at z;cases z
 |gone _ I=>rw[L]at I;cases I
 |run x n j d _=>
  rcases II h.base hp d with⟨aB,ia,aC,l,g',ak,c9,bw,r,ad,ah,ae,V,ag,z,o,aj,E,P,af,hm,ai⟩|⟨r,D,hm⟩|⟨r,D⟩
  .exact h.B2 (iz:=c9*500+bw+1) (b:=true) f r z (.inl P) ad ah ae V ag o (.run ak c9 bw aj P) af hm ai (Nat.succ_lt_succ E)
  .have o:=Fb f (show stepG aK (Z.N+2 == 0) g u=_ by rw[Y];exact r) sl
   have E:=bu f;have F:∀i,i≠Z.N+2->(gs.setIfInBounds (Z.N+2) (⟨g.frame,g.callers,.blocked,none,none⟩:Goroutine))[i]?=gs[i]?:=λi W=>h7 (Ne.symm W)
   refine⟨G,_,u,#[],m,bt,_,q,cx,rw,false,o,⟨by simpa using h.base,by rw[Array.size_setIfInBounds];exact h.size,?_,λj aa=>?_,λam K=>?_,λi R S T J=>?_⟩,zW (by simp[kW])⟩
   .obtain⟨w,c,M,x,n,j,B,C⟩:=h.main
    exact⟨w,c,M,x,n,j,by rw[F 0 U];exact B,C⟩
   .obtain⟨w,B,C⟩:=h.dN j aa
    exact⟨w,by rw[F _ (vf Z j)];exact B,C⟩
   .rw[hp]at K
    cases K;exact⟨(⟨g.frame,g.callers,.blocked,none,none⟩:Goroutine),by rw[iO E],.wait x n j ⟨d.on,d.le,d.fr,d.cs,rfl,d.mem,d.own⟩ rfl rfl D hm⟩
   .rw[F i U]at J
    simpa using h.old i R S T J
  .subst D
   have o:∀i,i≠Z.N+2->e0 Z G G i u u:=λi _=>e0.at Z G i h.base.ww u.drawn
   exact h.B2 (es:=#[]) (aB:=G) (iz:=0) f r (by rw[CS];exact h.base) (.inr rfl) hp rfl rfl rfl rfl o (.gone rfl rfl) rfl (.inl rfl) (.inl rfl) U
def eD.Rj(h:eD X Z G gs u t m bt cb q cx rw du)(r:(G.s k).c≠.un)(w:gs[Z.wk k]?=some g)(Q:g.status=.running)
 (Y:∀(v:Nat×Nat) (x:bA) (n j a:Nat),g7 (G.s k) ⟨.out (.snd v),(G.s k).bb⟩->cB (fP (G.bP k)) Z G (Z.wk k) (.snd v) [] x g u n j->At (fP (G.bP k)) a (.snd v) x->n=a+1->
  ((∀(n:Nat) own b o,(ib (G.bP k))[n]?=some (own,b,o)->G.b1 b≠Z.wk k)/\kA Z G (Z.wk k) u v)->lz X Z gs u sl t (Z.wk k) (h' Z m bt cb q cx rw du)):lz X Z gs u sl t (Z.wk k) (h' Z m bt cb q cx rw du):=by
 obtain⟨al,K,f,T⟩:=h.dN k r;rw[w]at K;obtain rfl:=bD K;obtain⟨_,J⟩:=By T Q;have V:=h.base.ap.pos;have ad:(Z.wk k == 0)=false:=by simpa using ji V k
 rcases Sn h.base r J f with⟨aB,aX,aC,l,g',ga,B,R,af,E,W,ai,D,z,S,ag,H,F,hm⟩|⟨B,d,F⟩|⟨B,d⟩|⟨v,x,n,j,a,d,I,L,P,U⟩
 .have C:aB.s k=aX:=by rw[R];exact RP _ _ _
  have ak:ga.1≠0:=by
   cases S with
   |gone gA M aj=>rw[H]at M;cases M
   |@out p bb x n j gA ok h E P aj=>
    show(if hQ p then 3 else 1)≠0;split<;>decide
   |un bb bt=>
    exfalso;have e:(aB.s k).c=.un:=by rw[C]
    cases k with
    |false=>exact D.b9.pG e
    |true=>exact r (h.base.b9.l9.1 (by rw[<-E];exact D.b9.l9.2 e))
   |_=>exact Nat.succ_ne_zero _
  exact h.B3 k r w B D (.inl H) (λj ae=>by rw[R];exact RO _ _ ae) af E W ai z (by rw[C];exact S) (λfH=>.run H ak) F hm ag
 .have z:=Fb w (show stepG aK (Z.wk k == 0) g u=_ by rw[ad];exact B) sl
  have aa:g.dying=none:=by
   obtain⟨b,d⟩:=d;generalize C:G.s k=s at f d;generalize bt k=mk at f;cases f with
   |lock c h L I=>exact I.m'
   |un bb bt=>cases d
   |_=>cases d
  exact h.Fa (g':=(⟨g.frame,g.callers,.blocked,none,none⟩:Goroutine)) k r w Q f rfl rfl aa.symm (.sema rfl rfl d F J) z
 .have ah:=f.res d rfl
  have hgo:fz X Z G k (⟨g.frame,g.callers,.finished,none,none⟩:Goroutine) u (G.s k) (0,(bt k).2.1,0):=by generalize C:G.s k=s at d;obtain⟨c,bb⟩:=s;cases d;exact .gone _ rfl ah
  have z:∀i,i≠Z.wk k->e0 Z G G i u u:=λi _=>e0.at Z G i h.base.ww u.drawn
  refine h.B3 (es:=#[]) (aB:=G) (ga:=(0,(bt k).2.1,0)) (b:=false) k r w B (by rw[CS];exact h.base) (.inr rfl) (λ_ _=>rfl) rfl rfl rfl rfl z hgo (λfH=>.gone rfl d rfl) (.inl rfl) (.inl rfl) ?_;have e:bt k=((bt k).1,(bt k).2):=rfl;rw[e];exact eQ.head (Nat.pos_of_ne_zero J)
 .exact Y v x n j a d I L P U
def eD.nH(h:eD X Z G gs u t m bt cb q cx rw du){i:Nat}(w:gs[i]?=some g):i=0\/(0<i/\i<Z.N)\/(∃k,i=Z.wk k/\(G.s k).c≠.un)\/(i=Z.N+2/\∃p,G.k=.at p):=by
 have B:=bu w;have c:=h.size;by_cases f:i=0
 .exact .inl f
 by_cases j:i<Z.N
 .exact .inr (.inl ⟨U,j⟩)
 by_cases l:i=Z.N
 .exact .inr (.inr (.inl ⟨false,l,h.base.b9.pG⟩))
 by_cases o:i=Z.N+1
 .refine .inr (.inr (.inl ⟨true,o,λe=>?_⟩))
  have:=h.base.b9.l9.2 e;rw[if_pos this]at c;omega
 have d:¬G.l<27:=by intro e;split at c<;>omega
 have r:¬G.l<26:=U;rw[if_neg r,if_neg d]at c;refine .inr (.inr (.inr ⟨U,?_⟩));rcases z:G.k with _|p
 .exact absurd (h.base.b9.mS.2 z) d
 .exact⟨p,rfl⟩
def xf{g:Goroutine}(h:g.offers=none)(r:Nat)(s:Bool):offersAt g r s = []:=by
 unfold offersAt;rw[h];split
 .rename_i d c;cases c
 .rfl
def eD.Eg(h:eD X Z G gs u t m bt cb q cx rw du){i:Nat}(H:i≠0)(c:gs[i]?=some g)(r:Nat):offersAt g r false = []:=by
 rcases h.nH c with e|⟨D,E⟩|⟨k,rfl,F⟩|⟨rfl,p,hp⟩
 .exact absurd e H
 .have:=(h.old i g D E c).status
  exact offersAt_of_not_blocked (by rcases this with e|e<;>rw[e]<;>simp) r false
 .obtain⟨C,d,_,f⟩:=h.dN k F
  rw[c]at d;obtain rfl:=bD d;generalize rw k=b at f;generalize (bt k).1=a at f;cases f with
  |run w _=>exact offersAt_of_not_blocked (by rw[w];simp) r false
  |sema _ o _ _ _=>exact xf o r false
  |snd v x n j b c L Q K M I P J=>
   obtain⟨B,rfl⟩:=c;exact offersAt_parked_send' B Z.ch _ _ _ r
  |gone l _ _=>exact offersAt_of_not_blocked (by rw[l];simp) r false
 .obtain⟨C,d,z⟩:=h.eu p hp
  rw[c]at d;obtain rfl:=bD d;clear h;cases z with
  |run _ _ _ _ w=>exact offersAt_of_not_blocked (by rw[w];simp) r false
  |wait _ _ _ _ _ o _ _=>exact xf o r false
  |gone _ l=>exact offersAt_of_not_blocked (by rw[l];simp) r false
def eD.sends(h:eD X Z G gs u t m bt cb q cx rw du){i a:Nat}(f:gs[i]?=some g)(c:a∈offersAt g Z.ch true)(H:i≠0):
 a=0/\∃k v x n j b,i=Z.wk k/\(G.s k).c≠.un/\(∃B,g=parked B #[scase Z.ch (j5 k v) (.tuple #[])] .send)/\g7 (G.s k) ⟨.out (.snd v),(G.s k).bb⟩/\cB (fP (G.bP k)) Z G (Z.wk k) (.snd v) [] x g u n j/\At (fP (G.bP k)) b (.snd v) x/\n=b+1/\
  ((∀(n:Nat) own b o,(ib (G.bP k))[n]?=some (own,b,o)->G.b1 b≠Z.wk k)/\kA Z G (Z.wk k) u v):=by
 rcases h.nH f with e|⟨I,K⟩|⟨k,rfl,C⟩|⟨rfl,p,hp⟩
 .exact absurd e H
 .have:=(h.old i g I K f).status
  rw[offersAt_of_not_blocked (by rcases this with e|e<;>rw[e]<;>simp) Z.ch true]at c;cases c
 .obtain⟨F,d,_,l⟩:=h.dN k C
  rw[f]at d;obtain rfl:=bD d;generalize rw k=b at l;generalize (bt k).1=S at l;cases l with
  |run z _=>rw[offersAt_of_not_blocked (by rw[z];simp) Z.ch true]at c;cases c
  |sema _ w _ _ _=>rw[xf w Z.ch true]at c;cases c
  |snd v x n j b D M R L Q J U T=>
   have P:=D;obtain⟨B,e⟩:=P;rw[e,offersAt_parked_send,if_pos rfl]at c;exact⟨by simpa using c,k,v,x,n,j,b,rfl,C,D,M,R,L,Q,J⟩
  |gone r _ _=>rw[offersAt_of_not_blocked (by rw[r];simp) Z.ch true]at c;cases c
 .obtain⟨F,d,E⟩:=h.eu p hp
  rw[f]at d;obtain rfl:=bD d;clear h;cases E with
  |run _ _ _ _ z=>rw[offersAt_of_not_blocked (by rw[z];simp) Z.ch true]at c;cases c
  |wait _ _ _ _ _ w _ _=>rw[xf w Z.ch true]at c;cases c
  |gone _ r=>rw[offersAt_of_not_blocked (by rw[r];simp) Z.ch true]at c;cases c
def bX.fK(G:bX)(k:Bool)(bb:Bool)(v:Nat×Nat):bX:={G with s:=rG G.s k ⟨.out .d0,bb⟩,l:=G.l+1,cy:=hY G.cy k v}
def vL(c:Base Z G u t)(h:G.k.shut=false):u.heap[Z.ch]?=some (.chan 0 #[] false (dF G.l) (dF G.l) false):=by have:=c.ww.ch;rw[h]at this;exact this
def Base.meet(c:Base Z G u t)(g:(G.s k).c≠.un){v:Nat×Nat}(l:g7 (G.s k) ⟨.out (.snd v),(G.s k).bb⟩)(aj:G.l=28\/G.l=34)(d:Nat){p q:MemOp}(W:x.g=Z.wk k/\x.act=.send Z.ch (dF G.l))(X:y.act=.recv Z.ch (dF G.l) cap)(hp:p.act=.sendDone Z.ch (dF G.l))(V:q.g=0/\q.act=.recvDone Z.ch (dF G.l)):
 Base Z (G.fK k (G.s k).bb v) ((u.at d).setChan Z.ch 0 #[] false (dF G.l+1) (dF G.l+1) false) (t++#[x,y,p,q])/\∀i,e0 Z G (G.fK k (G.s k).bb v) i u ((u.at d).setChan Z.ch 0 #[] false (dF G.l+1) (dF G.l+1) false):=by
 have E:(G.s k).cR=.no:=by rw[<-l.cR];rfl
 have I:(G.s k).da=false:=by rw[<-l.da];rfl
 have H:=xg c E;have Q:=vL c H;have F:=bu Q;have e:∀j,(G.fK k (G.s k).bb v).s j=if j=k then⟨.out .d0,(G.s k).bb⟩else G.s j:=λ_=>rfl
 have D:dF (G.l+1)=dF G.l+1:=by rcases aj with aj|aj<;>rw[aj]<;>rfl
 generalize z:(u.at d).setChan Z.ch 0 #[] false (dF G.l+1) (dF G.l+1) false=aC;have r:∀b,b≠Z.ch->aC.heap[b]?=u.heap[b]?:=λb g=>by rw[<-z];exact h7 (Ne.symm g)
 have B:aC.heap.size=u.heap.size:=by rw[<-z];simp[World.setChan];rfl
 have R:Calm u aC:=by rw[<-z];exact⟨by simp[World.setChan];exact bg,rfl,rfl,Go.ConcM.OsLater.refl _⟩
 have K:ea Z (G.fK k (G.s k).bb v) aC:=by refine⟨(r _ c.ap.rC).trans c.ww.T,(r _ c.ap.wc).trans c.ww.W,?_,λb g P=>(r b (by have:=c.o4.2;omega)).trans (c.ww.old b g P),c.ww.calm.trans R⟩;show aC.heap[Z.ch]?=some (.chan 0 #[] G.k.shut (dF (G.l+1)) (dF (G.l+1)) false);rw[H,D,<-z];exact iO F
 have a:=c.b9;have w:∀j,((G.fK k (G.s k).bb v).s j).role=(G.s j).role:=λj=>by
  rw[e];split
  .rename_i f;subst f;rw[<-l.role];rfl
  .rfl
 have o:∀j,((G.fK k (G.s k).bb v).s j).cR=(G.s j).cR:=λj=>by
  rw[e];split
  .rename_i f;subst f;rw[E];rfl
  .rfl
 have C:∀j,((G.fK k (G.s k).bb v).s j).c=.un↔(G.s j).c=.un:=λj=>by
  rw[e];split
  .rename_i f;subst f;exact⟨λh=>(by cases h),λh=>absurd h g⟩
  .exact Iff.rfl
 have J:∀j,((G.fK k (G.s k).bb v).s j).eC=true->(G.s j).eC=true:=λj=>by
  rw[e];split
  .intro h;cases h
  .exact id
 have L:g5 (G.fK k (G.s k).bb v):=by
  refine⟨by rw[w,w];exact a.once,?_,by rw[o,o];exact a.bound,?_,?_,?_,λh=>a.pG ((C false).1 h),?_,λj f=>a.eC j (J j f)⟩
  .rw[o,o]
   have:=a.wg;show ey (decide (24<=G.l+1)) _ _ _=_;rw[show decide (24<=G.l+1)=decide (24<=G.l) by rcases aj with aj|aj<;>rw[aj]<;>rfl];exact this
  .show dF (G.l+1)=_
   rw[D,a.cnt,e,e];have s1:(⟨.out .d0,(G.s k).bb⟩:ck).da=true:=rfl;cases k
   .rw[I,if_pos rfl,s1,if_neg (show ¬(true=false) by simp)]
    simp;exact Nat.add_comm _ _
   .rw[I,if_pos rfl,s1,if_neg (show ¬(false=true) by simp)]
    simp
  .rw[C]
   show G.l+1<26↔_;rw[<-a.l9];omega
  .show G.l+1<27↔G.k=.un
   rw[<-a.mS];omega
  .show 17<=G.l+1
   have:=a.bY;omega
 have ee:eX Z (G.fK k (G.s k).bb v)=eX Z G:=by unfold eX;rw[w,w];rfl
 have T:j1 G.l=0:=by rcases aj with aj|aj<;>rw[aj]<;>rfl
 have U:j1 (G.l+1)=0:=by rcases aj with aj|aj<;>rw[aj]<;>rfl
 have S:(G.s k).deaf=0:=by rw[<-l.deaf];rfl
 have Y:=c.dy.comm (aB:=G.fK k (G.s k).bb v) k F S T rfl rfl (λj f=>by rw[e,if_neg f]) rfl (by rw[e,if_pos rfl];rfl) (J k) (C k) U ee W X hp V;exact⟨c.rest rfl rfl rfl B K L (by rw[B];exact Y),λi=>e0.same rfl rfl B (λb _ _ M=>r b M) K⟩
abbrev g3(Z:Stat):Array CommCase:=#[rcase Z.ch z0]
def DW{x:bA}{a:Nat}(aj:G.l=28\/G.l=34\/G.l=40)(h:c.ch=Z.ch)(g:At (hP Z) a ⟨G.l,c,M⟩ x):
 (∀r,eJ (hP Z) a (toGot G.l c M r) 400 (x.1.finish (oP r),x.2))/\∀main C st off (w:World),stepG aK main ⟨x.1,C,st,none,off⟩ w=.comm (S6 x.1 C) (g3 Z) true (.recv true) w:=by
 have he:Edge.comm #[{chan:=.chan (some c.ch),send:=none,zero:=.agg #[ah 0,dg]}] true (.recv true) oP (toGot G.l c M)∈(hP Z).cz ⟨G.l,c,M⟩:=by rcases aj with aj|aj|aj<;>rw[aj]<;>exact bI
 obtain⟨d,f⟩:=g.comm (po Z) he;refine⟨λr=>(d r).1,λmain C st off w=>?_⟩;have:=f main C st off w;rw[h]at this;exact this
def Ha{bP:mi}{v:Nat×Nat}{x:bA}{a:Nat}(g:bP.ch=Z.ch)(h:bP.i=if k then 1 else 0)(f:At (fP bP) a (.snd v) x):
 eJ (fP bP) a .d0 400 (x.1.finish undef,x.2)/\∀main C st off (w:World),stepG aK main ⟨x.1,C,st,none,off⟩ w=.comm (S6 x.1 C) #[scase Z.ch (j5 k v) (.tuple #[])] true .send w:=by
 obtain⟨c,d⟩:=f.comm (pr _) (cases:=#[{chan:=.chan (some bP.ch),send:=some (.agg #[ah bP.i,four v]),zero:=.tuple #[]}]) (b:=true) (bK:=.send) (cy:=λ_:Unit=>undef) (to:=λ_=>.d0) bI;refine⟨(c ()).1,λmain C st off w=>?_⟩;have:=d main C st off w;rw[g,h]at this;exact this
def eD.meet(h:eD X Z G gs u t m bt cb q cx rw du)(aE:(G.s k).c≠.un){v:Nat×Nat}(af:g7 (G.s k) ⟨.out (.snd v),(G.s k).bb⟩)(aj:G.l=28\/G.l=34){C:bA}{ax su:Goroutine}{nw aS E:Nat}(z:cB (fP (G.bP k)) Z G (Z.wk k) (.snd v) [] C ax u nw aS)(aD:At (fP (G.bP k)) E (.snd v) C)(ae:(∀(n:Nat) own b o,(ib (G.bP k))[n]?=some (own,b,o)->G.b1 b≠Z.wk k)/\kA Z G (Z.wk k) u v){B:bA}{aw sr:Goroutine}{aa ap am:Nat}(hm:jl Z G aw u c M B aa ap)(aB:At (hP Z) am ⟨G.l,c,M⟩ B)(a3:aa=am+1)(a2:m=aa*500+ap)(K:su=(S6 (C.1.finish undef) C.2))(J:sr=(S6 (B.1.finish (oP (some (k,v)))) (B.2++Z.base)))(aO:bm.size=gs.size)(ay:bm[0]?=some sr)(aQ:bm[Z.wk k]?=some su)(Y:∀i,i≠0->i≠Z.wk k->bm[i]?=gs[i]?)(d:Nat){p g2:MemOp}(al:x.g=Z.wk k/\x.act=.send Z.ch (dF G.l))(ao:y.act=.recv Z.ch (dF G.l) cap)(hp:p.act=.sendDone Z.ch (dF G.l))(ak:g2.g=0/\g2.act=.recvDone Z.ch (dF G.l)):
 ∃dd ga hS H,eD X Z (G.fK k (G.s k).bb v) bm ((u.at d).setChan Z.ch 0 #[] false (dF G.l+1) (dF G.l+1) false) (t++#[x,y,p,g2]) dd ga cb q true hS H/\dd<m:=by
 have aA:=h.base.ap.pos;obtain⟨V,f⟩:=h.base.meet aE af aj d al ao hp ak;generalize a4:(u.at d).setChan Z.ch 0 #[] false (dF G.l+1) (dF G.l+1) false=aC at V f;have e:∀j,(G.fK k (G.s k).bb v).s j=if j=k then⟨.out .d0,(G.s k).bb⟩else G.s j:=λ_=>rfl
 have I:∀j,(G.fK k (G.s k).bb v).cy j=if j=k then v else G.cy j:=λ_=>rfl
 obtain⟨aY,aZ,c3,a0,aq⟩:=h.base.cfg k;have aI:G.l=28\/G.l=34\/G.l=40:=aj.imp id .inl;obtain⟨aK,_⟩:=DW aI hm.ok.cfg.2.2.1 aB;obtain⟨aR,_⟩:=Ha (k:=k) c3 aq aD;have F:=kS.id Z aC;have aJ:¬G.l=40:=U;have aP:toGot G.l c M (some (k,v))=⟨G.l+1,{c with k:=k,r:=v},M⟩:=by show(if G.l=40 then _ else _)=_;rw[if_neg aJ]
 have aN:(G.s k).da=false:=by rw[<-af.da];rfl
 have aF:∀j,Deaf (t++#[x,y,p,g2]) j=Deaf t j:=λj=>oI (D5 h.base.fv.2.2 al.2 ao hp ak.2) j
 have a1:(Z.wk (!k))≠Z.wk k:=G6 k;have az:jl Z (G.fK k (G.s k).bb v) sr aC {c with k:=k,r:=v} M (B.1.finish (oP (some (k,v))),B.2) am 400:=by
  have ai:=aK (some (k,v));rw[aP]at ai;refine⟨⟨ai,bg,by rw[J],by rw[J],by rw[J],hm.at_.mem.rely hm.at_.own (f 0) hm.at_.mem.floor,hm.at_.own.rely hm.at_.mem (f 0)⟩,?_⟩;obtain⟨aT,a5,aU,a6,a7⟩:=hm.ok;refine⟨aT,λhle=>?_,?_,λ_=>⟨by rw[e,if_pos rfl];rfl,by rw[I,if_pos rfl]⟩,?_⟩
  .have:(G.fK k (G.s k).bb v).l=G.l+1:=rfl
   omega
  .rw[aU]
   have aV:lh G.l=false:=by rcases aj with aj|aj<;>rw[aj]<;>rfl
   have aW:lh (G.fK k (G.s k).bb v).l=true:=by show lh (G.l+1)=true;rcases aj with aj|aj<;>rw[aj]<;>rfl
   have ar:iB (G.fK k (G.s k).bb v) {c with k:=k,r:=v}=iB G c:=by
    funext j;unfold iB;rw[aV,aW,e,I];by_cases l:j=k
    .subst l;rw[aN];simp
    .rw[if_neg l,if_neg l]
     have:(k == j)=false:=by simp[Ne.symm l]
     simp[this]
   rw[ar]
  .show G.l+1<=40
   omega
 have hW:fz X Z (G.fK k (G.s k).bb v) k su aC ((G.fK k (G.s k).bb v).s k) (if hQ .d0 then 3 else 1,(bt k).2.1,E*500+400):=by
  rw[e,if_pos rfl];refine .out (x:=(C.1.finish undef,C.2)) (bt k).2.1 rfl ⟨aR,bg,by rw[K],by rw[K];simp,by rw[K],z.mem.rely z.own (f _) z.mem.floor,z.own.rely z.mem (f _)⟩ (λh=>by cases h) (λn own b o he=>?_) (λr L=>?_)
  .rw[(f (Z.wk k)).b1 b (gL (M:=ib (G.bP k)) z.mem he)]
   exact ae.1 n own b o he
  .have:r=v:=by have L:some ((G.fK k (G.s k).bb v).cy k)=some r:=L;rw[I,if_pos rfl]at L;exact(bD L).symm
   subst this;exact ae.2.rely (f _)
 obtain⟨aX,aM⟩:=sT (P:=λj b=>∃g,bm[Z.wk j]?=some g/\fz X Z (G.fK k (G.s k).bb v) j g aC ((G.fK k (G.s k).bb v).s j) (hY bt k (if hQ .d0 then 3 else 1,(bt k).2.1,E*500+400) j)/\iJ Z (G.fK k (G.s k).bb v) j g aC true (hY bt k (if hQ .d0 then 3 else 1,(bt k).2.1,E*500+400) j).1 b) (D:=λj=>((G.fK k (G.s k).bb v).s j).c≠.un) λj l=>by
  by_cases w:j=k
  .subst w
   refine⟨true,su,aQ,?_,?_⟩
   .unfold hY;rw[if_pos rfl];exact hW
   .unfold hY;rw[if_pos rfl];exact .run (by rw[K]) (Nat.succ_ne_zero 0)
  .rw[e,if_neg w]at l
   obtain⟨g,R,S,T⟩:=h.dN j l;have es:(G.fK k (G.s k).bb v).s j=G.s j:=by rw[e,if_neg w]
   have ad:(G.fK k (G.s k).bb v).cy j=G.cy j:=by rw[I,if_neg w]
   obtain⟨Q,s1,s2,a8,a9⟩:=T.lp F V es rfl ad (f _) (.inl rfl) (λ_=>rfl);refine⟨Q,g,by rw[Y _ (ji aA j) (G7 w)];exact R,?_,?_⟩
   .rw[es];unfold hY;rw[if_neg w];exact S.rely rfl ad (f _) rfl rfl rfl id
   .unfold hY;rw[if_neg w];exact s1
 obtain⟨H,aL⟩:∃H,∀p,(G.fK k (G.s k).bb v).k=.at p->∃g,bm[Z.N+2]?=some g/\lr Z (G.fK k (G.s k).bb v) p g aC cb H:=by
  have ah:(G.fK k (G.s k).bb v).k=G.k:=rfl;rcases W:G.k with _|p
  .exact⟨false,λp hp=>by rw[ah,W]at hp;cases hp⟩
  .obtain⟨au,R,S⟩:=h.eu p W
   obtain⟨Q,T⟩:=S.lp F (f _) (.inl rfl);exact⟨Q,λia hp=>by rw[ah,W]at hp;cases hp;exact⟨au,by rw[Y _ U (Ne.symm (vf Z k))];exact R,T⟩⟩
 refine⟨am*500+400,hY bt k (if hQ .d0 then 3 else 1,(bt k).2.1,E*500+400),aX,H,⟨V,?_,⟨sr,_,M,_,am,400,ay,az,rfl,.run (by rw[J])⟩,aM,aL,λi av aG aH ag=>?_⟩,U⟩
 .rw[aO,h.size]
  show _=Z.N+(if G.l+1<26 then 1 else if G.l+1<27 then 2 else 3)
  rw[if_neg U,if_neg U,if_neg U,if_neg U]
 .rw[Y i U (by cases k<;>simp[Stat.wk]<;>omega)]at ag
  rw[aF];exact h.old i av aG aH ag
end
end Go.aO
