/- A part; no conditions. -/
import Derived.Test.YtkifbmfagkjikaaGreatDoorP12
set_option maxHeartbeats 8000000
set_option maxRecDepth 100000
set_option linter.all false
namespace Go.aO
attribute [-simp] Go.Sem.runT_eq
open Go.Proofs Go.Conc Go.ConcN
variable{es:Array Event}{m v:Int}{an:List dO}{ops:List gZ}{i o:Nat}{p q:gO}
section
variable{X:et}{Z:Stat}[hi X Z]{G aB:bX}{u aC w:World}{t bh:Trace}{k:Bool}{g g':Goroutine}{s aX:ck}{bb:Bool}{x y:bA}{n j c9 bw l aN a:Nat}{rem lk:List Nat}{M b7:Mem}
noncomputable abbrev iL(z:eG):de rM:=vO z
def tq(z:eG):dn (iL z).P (iL z).ext:=by unfold iL vO;exact j8
def t'(z:eG)(p:rM):(iL z).dh p<=400:=bg
def yd:(⟨.dB l,bb⟩:ck).c≠.un:=by intro h;cases h
def Cs(h:l<49):(⟨.dB l,false⟩:ck).role=.I:=if_pos h
def OE(h:l<49)(c:aN<49):g7 ⟨.dB l,false⟩ ⟨.dB aN,false⟩:=⟨(Cs c).trans (Cs h).symm,rfl,rfl,rfl,id,⟨bR,bR⟩⟩
def vP{bz:List Event}(j:Base Z G u t)(D:G.s k=⟨.dB l,false⟩)(c:h0)(bq:Nat)(r:∀b f,c.ρ.r b f->f<bq)(q:∀(i:Nat) own b o,c.M[i]?=some (own,b,o)->b<bq)(z:bq<=u.heap.size)(h:c.Ok X Z G k 4 u)(m:Acc (dZ X.Q) c.V)(p:l<49/\aN<49)(E:stepG aK false g u=.go (bW y c.ja) aC bz.toArray)(calm:Calm u aC)(keep:∀b,b<u.heap.size->aC.heap[b]?≠u.heap[b]?->gY Z G (Z.wk k) b/\bq<=b)(cI:∀e∈bz,lx Z ((G.grow u.heap.size (Z.wk k)).st k ⟨.dB aN,false⟩) t (Z.wk k) aC.heap.size e)(ok:pO aN lk=true)(w:∀(i:Nat) b o,b7[i]?=some (true,b,o)->bq<=b)(F:cB (iL Z.z) Z ((G.grow u.heap.size (Z.wk k)).st k ⟨.dB aN,false⟩) (Z.wk k) ⟨aN,lk,b7⟩ c.ja y (bW y c.ja) aC c9 bw)(B:c9*500+bw<n):
 cZ X Z G k g u t (2,⟨c.V,m⟩,(c.nr*500+450)*10000000000+(c.bZ*500+450)*100000+n):=by
 have H:jV Z G ((G.grow u.heap.size (Z.wk k)).st k ⟨.dB aN,false⟩) (Z.wk k) bq u aC:=qe j calm keep (λb d=>if_pos d) rfl;exact cZ.l3 (aX:=⟨.dB aN,false⟩) j D yd (OE p.1 p.2) E rfl calm (λb d C=>(keep b d C).1) cI (bR)
  (.dB c bq ok w r q (cL z calm.size) (h.rely (dP:=(G.grow u.heap.size (Z.wk k)).st k ⟨.dB aN,false⟩) rfl H r q) m F) (eQ.last (qM _ _ _ B))
def eV(w:Base Z G u t)(K:G.s k=⟨.dB l,false⟩)(c:h0)(bq:Nat)(m:∀(i:Nat) b o,M[i]?=some (true,b,o)->bq<=b)(H:∀b d,c.ρ.r b d->d<bq)(F:∀(i:Nat) own b o,c.M[i]?=some (own,b,o)->b<bq)(D:bq<=u.heap.size)(h:c.Ok X Z G k 4 u)(f:Acc (dZ X.Q) c.V)(P:cB (iL Z.z) Z G (Z.wk k) ⟨l,rem,M⟩ c.ja x g u n j)(I:n=a+1)(z:At (iL Z.z) a ⟨l,rem,M⟩ x)(he:Edge.bL ops ⟨aN,lk,b7⟩∈(iL Z.z).cz ⟨l,rem,M⟩)(E:l<49/\aN<49)(ok:pO aN lk=true):
 cZ X Z G k g u t (2,⟨c.V,f⟩,(c.nr*500+450)*10000000000+(c.bZ*500+450)*100000+(n*500+j)):=by
 subst I;obtain⟨y,aC,bz,bw,p,L,calm,keep,cI,C⟩:=P.bL (aB:=(G.grow u.heap.size (Z.wk k)).st k ⟨.dB aN,false⟩) (t:=t) (tq _) (t' _) z he (λb=>rfl) rfl;refine vP w K c bq H F D h f E (L false) calm (λb B J=>?_) cI ok (λi b o e=>?_) p (by have:=p.le;omega)
 .obtain⟨r,i,o,e⟩:=keep b B J
  exact⟨r,m i b o e⟩
 .obtain⟨Q,q⟩:=C i true b o e
  exact m i b Q q
def yX(d:Base Z G u t)(J:G.s k=⟨.dB l,false⟩)(c:h0)(bq:Nat)(C:∀(i:Nat) b o,M[i]?=some (true,b,o)->bq<=b)(F:∀b m,c.ρ.r b m->m<bq)(E:∀(i:Nat) own b o,c.M[i]?=some (own,b,o)->b<bq)(r:bq<=u.heap.size)(h:c.Ok X Z G k 4 u)(p:Acc (dZ X.Q) c.V)(L:cB (iL Z.z) Z G (Z.wk k) ⟨l,rem,M⟩ c.ja x g u n j)(H:n=a+1)(z:At (iL Z.z) a ⟨l,rem,M⟩ x){o:Obj}{to:Nat->rM}(he:Edge.new true o to∈(iL Z.z).cz ⟨l,rem,M⟩)(P:to u.heap.size=⟨aN,[],M++[(true,u.heap.size,o)]⟩)(D:l<49/\aN<49)(ok:pO aN []=true):
 cZ X Z G k g u t (2,⟨c.V,p⟩,(c.nr*500+450)*10000000000+(c.bZ*500+450)*100000+(n*500+j)):=by
 subst H;obtain⟨y,aC,bw,f,K,calm,keep,R⟩:=L.z2 (aB:=(G.grow u.heap.size (Z.wk k)).st k ⟨.dB aN,false⟩) (tq _) (t' _) z he (λb=>rfl) rfl d.oc d.fv;rw[P]at f;refine vP (bz:=[]) d J c bq F E r h p D (K false) calm (λb B I=>absurd (keep b B) I) (λe he=>(by cases he)) ok (λi b Q e=>?_) f (by have:=f.le;omega);rcases Nat.lt_or_ge i M.length with ad|ad
 .rw[jz ad]at e
  exact C i b Q e
 .rw[jb ad]at e
  rcases w:i-M.length with _|q
  .rw[w]at e
   simp at e;rw[<-e.1];exact r
  .rw[w]at e;simp at e
def Cv(d:Base Z G u t)(J:G.s k=⟨.dB l,false⟩)(c:h0)(bq:Nat)(z:∀(i:Nat) b o,M[i]?=some (true,b,o)->bq<=b)(E:∀b m,c.ρ.r b m->m<bq)(D:∀(i:Nat) own b o,c.M[i]?=some (own,b,o)->b<bq)(B:bq<=u.heap.size)(h:c.Ok X Z G k 4 u)(p:Acc (dZ X.Q) c.V)(f:cB (iL Z.z) Z G (Z.wk k) ⟨l,rem,M⟩ c.ja x g u n j)(F:n=a+1)(w:At (iL Z.z) a ⟨l,rem,M⟩ x){v:Value}(I:o<4)(he:Edge.fix false false [.val v] [.load .plain ⟨Z.z.T,o,none⟩ v] ⟨aN,[],M⟩∈(iL Z.z).cz ⟨l,rem,M⟩)(L:u.cell? ⟨Z.z.T,o,none⟩=some v)(C:l<49/\aN<49)(ok:pO aN []=true):
 cZ X Z G k g u t (2,⟨c.V,p⟩,(c.nr*500+450)*10000000000+(c.bZ*500+450)*100000+(n*500+j)):=by
 subst F;have r:=kN d k ⟨.dB aN,false⟩ u.heap.size u.drawn;obtain⟨y,bw,q,_,K⟩:=f.mr (aB:=(G.grow u.heap.size (Z.wk k)).st k ⟨.dB aN,false⟩) (tq _) (t' _) w he (.load L (.nil _)) ⟨f.mem,f.own.rely f.mem r⟩;refine vP (bz:=[⟨.cell ⟨Z.z.T,o,none⟩,false,false⟩]) d J c bq E D B h p C (K false) (Calm.refl u) (λb P H=>absurd rfl H) (λe he=>?_) ok z q (by have:=q.le;omega);rw[ev he];exact .mem rfl d.fv.1 bR ⟨d.ap.bM,d.ap.rC⟩ (λ_=>.inr ⟨o,rfl,I⟩) (.inr ⟨.inl (d.iA.ro k _ (.inl rfl)),rfl⟩)
def KD(r:List Nat):(r.filter (· < 3)).all (· < 3)=true:=by rw[List.all_eq_true];intro a c;exact(List.mem_filter.1 c).2
def IU(m:Base Z G u t)(H:G.s k=⟨.dB 47,false⟩)(c:h0)(bq:Nat)(z:∀(i:Nat) b o,M[i]?=some (true,b,o)->bq<=b)(D:∀b l,c.ρ.r b l->l<bq)(C:∀(i:Nat) own b o,c.M[i]?=some (own,b,o)->b<bq)(B:bq<=u.heap.size)(h:c.Ok X Z G k 4 u)(p:Acc (dZ X.Q) c.V)(f:cB (iL Z.z) Z G (Z.wk k) ⟨47,rem,M⟩ c.ja x g u n j)(E:n=a+1)(w:At (iL Z.z) a ⟨47,rem,M⟩ x):
 cZ X Z G k g u t (2,⟨c.V,p⟩,(c.nr*500+450)*10000000000+(c.bZ*500+450)*100000+(n*500+j)):=by
 subst E;obtain⟨q,y,bw,J,d,I⟩:=f.xi (tq _) (t' _) w (to:=λr=>⟨48,r.filter (· < 3),M⟩) bI;have r:=kN m k ⟨.dB 48,false⟩ u.heap.size (u.drawn+1);exact vP (aN:=48) (bz:=[]) m H c bq D C B h p a6 (I false) (Calm.at u _) (λb K F=>absurd rfl F) (λe he=>(by cases he)) (KD q) z ⟨d.on,d.le,rfl,rfl,rfl,d.mem,f.own.rely f.mem r⟩ (by have:=d.le;omega)
def IQ(d:Base Z G u t)(m:G.s k=⟨.dB 49,false⟩)(c:h0)(h:c.Ok X Z G k 4 u)(f:Acc (dZ X.Q) c.V)(q:cB (iL Z.z) Z G (Z.wk k) ⟨49,rem,M⟩ c.ja x g u n j)(i:At (iL Z.z) a ⟨49,rem,M⟩ x):
 cZ X Z G k g u t (2,⟨c.V,f⟩,(c.nr*500+450)*10000000000+(c.bZ*500+450)*100000+(n*500+j)):=by
 obtain⟨w,o⟩:=i.leave bI;have r:=kN d k ⟨.dG 4,false⟩ u.heap.size u.drawn;have p:stepG aK false g u=.go ⟨c.j7.1.finish unit,c.j7.2++c.lj,.running,none,none⟩ u:=by obtain⟨st,off,rfl⟩:=q.shape;have:=o false st off c.j7.1 (c.j7.2++c.lj) u (uu h.run);rw[w];exact this
 exact cZ.still (aX:=⟨.dG 4,false⟩) (n:=u.drawn) d m yd ⟨rfl,rfl,rfl,rfl,(bR),⟨bR,bR⟩⟩ p rfl
  (.dG (l:=4) c.toRCtx rfl (λ_ _=>rfl) (h.r.rely (dP:=(G.grow u.heap.size (Z.wk k)).st k ⟨.dG 4,false⟩) rfl r h.r.l.heap.floor h.k2) f ⟨h.on,bg,rfl,rfl,rfl,lY _,l6 _ _ _⟩) (eQ.last (by have:=tN ((c.nr*500+450)*10000000000) (c.bZ*500+400) (c.bZ*500+450) U;exact gu this (Nat.le_add_right _ _)))
def Kk{B:Nat}(f:13<=o)(d:Z.z.T<B)(ee:eX Z G=.written i):vq Z G t i B ⟨.cell ⟨Z.z.T,o,none⟩,true,false⟩:=by
 refine⟨d,λb c _=>?_,λe=>?_⟩
 .have c:some (⟨.cell ⟨Z.z.T,o,none⟩,true,.plain⟩:Touch)=some b:=c
  rw[<-bD c];exact .inr ⟨⟨o,rfl,f⟩,.inl ee⟩
 .have e:(Loc.cell ⟨Z.z.T,o,none⟩)=.cell ⟨Z.z.T,4,none⟩:=e
  injection e with e
  injection e with _ e
  omega
def tV{w w':World}{b:Nat}{c:Array Value}{e:TypeId}{v:Value}{l:List cD}(h:w.heap[b]?=some (.cells c e (0,0)))(d:o<c.size)(k:Does (w.setCell ⟨b,o,none⟩ v) l w' es):Does w (.store .plain ⟨b,o,none⟩ v::l) w' (#[⟨.cell ⟨b,o,none⟩,true,false⟩]++es):=
 .store (x:=c[o]) (by rw[aU h];simp[d]) (b3 h) k
def u1(T:Nat):List Event:=[⟨.cell ⟨T,13,none⟩,true,false⟩,⟨.cell ⟨T,14,none⟩,true,false⟩,⟨.cell ⟨T,15,none⟩,true,false⟩,⟨.cell ⟨T,16,none⟩,true,false⟩,⟨.cell ⟨T,17,none⟩,true,false⟩]
def QW(T:Nat):hZ false (cI (ua true T))=u1 T:=rfl
def QZ(z:eG)(mu ms:Int)(aY:Bool):(((((eN z mu ms aY false).setIfInBounds 13 (ah 1)).setIfInBounds 14 (ah 1)).setIfInBounds 15 (ah 3)).setIfInBounds 16 (ah 0)).setIfInBounds 17 (ah 3)=eN z mu ms aY true:=by simp[eN,kP]
def IW(f:Base Z G u t)(p:G.s k=⟨.dB 48,false⟩)(c:h0)(bq:Nat)(aj:∀(i:Nat) b o,M[i]?=some (true,b,o)->bq<=b)(ao:∀b P,c.ρ.r b P->P<bq)(am:∀(i:Nat) own b o,c.M[i]?=some (own,b,o)->b<bq)(ak:bq<=u.heap.size)(h:c.Ok X Z G k 4 u)(C:Acc (dZ X.Q) c.V)(z:cB (iL Z.z) Z G (Z.wk k) ⟨48,[],M⟩ c.ja x g u n j)(ap:n=a+1)(af:At (iL Z.z) a ⟨48,[],M⟩ x):
 cZ X Z G k g u t (2,⟨c.V,C⟩,(c.nr*500+450)*10000000000+(c.bZ*500+450)*100000+(n*500+j)):=by
 subst ap;have D:=f.b9.side k;rw[p]at D;have D:cO .I (G.s (!k)).role G.mu G.ms G.aY G.bc:=D;obtain⟨E,au,m,F⟩:=cO.write D;have aq:∀j,(G.s j).eC=false:=λj=>by
  rcases d:(G.s j).eC with _|_
  .rfl
  .rw[f.b9.eC j d]at E;cases E
 have e:∀j,(G.wk k ⟨.dB 49,false⟩ G.mu G.ms G.aY true G.v G.m).s j=if j=k then⟨.dB 49,false⟩else G.s j:=λ_=>rfl
 have H:=f.ww.T;rw[au]at H;have b6:∀{c:Array Value},c.size=28->∀o v,(c.setIfInBounds o v).size=28:=λh o v=>by simpa using h
 have z0:=xZ Z.z G.mu G.ms G.aY false;have I:=cU (o:=13) (v:=ah 1) H;have J:=cU (o:=14) (v:=ah 1) I;have K:=cU (o:=15) (v:=ah 3) J;have L:=cU (o:=16) (v:=ah 0) K;have B:=cU (o:=17) (v:=ah 3) L;have hd:=tV (v:=ah 1) H (by rw[z0];decide:13<_) (tV (v:=ah 1) I (by rw[b6 z0];decide:14<_) (tV (v:=ah 3) J (by rw[b6 (b6 z0 _ _)];decide:15<_) (tV (v:=ah 0) K (by rw[b6 (b6 (b6 z0 _ _) _ _)];decide:16<_) (tV (v:=ah 3) L (by rw[b6 (b6 (b6 (b6 z0 _ _) _ _) _ _)];decide:17<_) (.nil _)))));have wd:Word Z u (((((u.setCell ⟨Z.z.T,13,none⟩ (ah 1)).setCell ⟨Z.z.T,14,none⟩ (ah 1)).setCell ⟨Z.z.T,15,none⟩ (ah 3)).setCell ⟨Z.z.T,16,none⟩ (ah 0)).setCell ⟨Z.z.T,17,none⟩ (ah 3)):=
  (((((Word.refl Z u).trans (Word.set 13 _ (.inl rfl))).trans (Word.set 14 _ (.inl rfl))).trans (Word.set 15 _ (.inl rfl))).trans (Word.set 16 _ (.inl rfl))).trans (Word.set 17 _ (.inl rfl))
 rw[QZ]at B;generalize aw:((((u.setCell ⟨Z.z.T,13,none⟩ (ah 1)).setCell ⟨Z.z.T,14,none⟩ (ah 1)).setCell ⟨Z.z.T,15,none⟩ (ah 3)).setCell ⟨Z.z.T,16,none⟩ (ah 0)).setCell ⟨Z.z.T,17,none⟩ (ah 3)=aC at hd wd B;have hW:aC.heap[Z.W]?=some (.cells #[.int .u64 G.v,.int .u32 G.m] 201 (0,0)):=by
  have q:∀(w:World) o v,(w.setCell ⟨Z.z.T,o,none⟩ v).heap[Z.W]?=w.heap[Z.W]?:=λw o v=>e1 (a:=⟨Z.z.T,o,none⟩) (Ne.symm f.ap.bM)
  rw[<-aw,q,q,q,q,q];exact f.ww.W
 have r:=pa f wd B (aB:=G.wk k ⟨.dB 49,false⟩ G.mu G.ms G.aY true G.v G.m) rfl rfl (Z.wk k);obtain⟨y,bw,S,_,R⟩:=z.mr (aB:=G.wk k ⟨.dB 49,false⟩ G.mu G.ms G.aY true G.v G.m) (to:=⟨49,[],M⟩) (tq _) (t' _) af bI hd ⟨z.mem.rely z.own r z.mem.floor,z.own.rely z.mem r⟩;have U:=f.b9.tn k;rw[p]at U;have un:(⟨.dB 49,false⟩:ck).c=.un↔(⟨.dB 48,false⟩:ck).c=.un:=⟨bR,bR⟩
 have W:=f.b9.wk p (aX:=⟨.dB 49,false⟩) F U bR rfl un bR id;have V:ea Z (G.wk k ⟨.dB 49,false⟩ G.mu G.ms G.aY true G.v G.m) aC:=ea.of f wd B hW rfl rfl;have ai:∀a:eF,a.ig (G.wk k ⟨.dB 49,false⟩ G.mu G.ms G.aY true G.v G.m)↔a.ig G:=by
  intro a;cases a with
  |main=>exact Iff.rfl
  |dN j=>
   show((G.wk k ⟨.dB 49,false⟩ G.mu G.ms G.aY true G.v G.m).s j).c≠.un↔(G.s j).c≠.un;rw[e];split
   .rename_i d;subst d;rw[p];exact not_congr un
   .exact Iff.rfl
  |eu=>exact Iff.rfl
 have az:eX Z G=.fresh:=by
  unfold eX;rw[E];cases k with
  |false=>
   have m:(G.s true).role.gC=false:=m;rw[p,m];rfl
  |true=>
   have m:(G.s false).role.gC=false:=m;rw[m,p];rfl
 have T:eX Z (G.wk k ⟨.dB 49,false⟩ G.mu G.ms G.aY true G.v G.m)=.written (Z.wk k):=by
  unfold eX;rw[e,e];show(if G.aY then _ else _)=_;rw[E];cases k with
  |false=>rfl
  |true=>
   have m:(G.s false).role.gC=false:=m;simp[m];rfl
 have Y:Apart Z (G.wk k ⟨.dB 49,false⟩ G.mu G.ms G.aY true G.v G.m):=f.ap.same rfl rfl;have rg:Grow G (G.wk k ⟨.dB 49,false⟩ G.mu G.ms G.aY true G.v G.m) u.heap.size:=⟨λb _=>rfl,rfl⟩
 have av:fp (pl Z (G.wk k ⟨.dB 49,false⟩ G.mu G.ms G.aY true G.v G.m)) t (eX Z (G.wk k ⟨.dB 49,false⟩ G.mu G.ms G.aY true G.v G.m)) u.heap.size:=by have:=f.dy.dy;rw[az]at this;rw[T];exact(this.begin _).oa rg
 have Q:∀e∈u1 Z.z.T,∃o,13<=o/\e=⟨.cell ⟨Z.z.T,o,none⟩,true,false⟩:=λe he=>by simp only[u1,List.mem_cons,iN,or_false]at he;rcases he with rfl|rfl|rfl|rfl|rfl<;>exact⟨_,a6,rfl⟩
 have ay:e5 Z (G.wk k ⟨.dB 49,false⟩ G.mu G.ms G.aY true G.v G.m) (t++MemOp.ofEvents (Z.wk k) g.frame.fn g.frame.place (u1 Z.z.T).toArray) u.heap.size:=by
  refine e5.app (l:=u1 Z.z.T) Y f.dy rg bg (.dN k) (by show(G.s k).c≠.un;rw[p];exact yd) av (λe he=>?_) ai ?_ (λa C=>?_) (λj d=>?_) (λ_ _ _ _ _ _ j=>?_) (λj d=>?_) (λd=>⟨d,bR⟩) (λbz he b ag ar=>?_) id
  .obtain⟨o,F,rfl⟩:=Q e he
   exact Kk F f.fv.1 T
  .show(((G.wk k ⟨.dB 49,false⟩ G.mu G.ms G.aY true G.v G.m).s k).deaf)=deafBehind (G.s k).deaf _
   rw[e,if_pos rfl,p];rfl
  .cases a with
   |main=>rfl
   |dN j=>
    show((G.wk k ⟨.dB 49,false⟩ G.mu G.ms G.aY true G.v G.m).s j).deaf=(G.s j).deaf;rw[e,if_neg (λd=>C (by rw[d]))]
   |eu=>rfl
  .rw[e]at d
   split at d
   .cases d
   .exact .inl d
  .rw[e]
   split
   .rfl
   .exact aq j
  .rw[e]at d
   split at d
   .cases d
   .rename_i al
    exact⟨d,λax=>by cases ax;exact absurd rfl al⟩
  .obtain⟨o,F,rfl⟩:=Q bz he
   cases ag;cases ar
 have aa:Base Z (G.wk k ⟨.dB 49,false⟩ G.mu G.ms G.aY true G.v G.m) _ _:=f.rest rfl rfl rfl wd.size V W (by rw[wd.size];exact ay);rw[QW]at R;exact .go (G.wk k ⟨.dB 49,false⟩ G.mu G.ms G.aY true G.v G.m) ⟨.dB 49,false⟩ _ _ _ _ (R false) rfl rfl rfl rfl rfl aa (λi _=>e0.same (aB:=G.wk k ⟨.dB 49,false⟩ G.mu G.ms G.aY true G.v G.m) rfl rfl wd.size (λb ad ae _=>wd.keep b ad ae) V)
  (.dB (l:=49) (rem:=[]) c bq rfl aj ao am (by rw[wd.size];exact ak) (h.rely (dP:=G.wk k ⟨.dB 49,false⟩ G.mu G.ms G.aY true G.v G.m) rfl r h.r.l.heap.floor h.k2) C S) (eQ.last (qM _ _ ((a+1)*500+j) (by have:=S.le;omega))) rfl (.inl rfl) (.inl rfl)
def IM(f:Base Z G u t)(z:G.s k=⟨.dB 48,false⟩)(c:h0)(bq:Nat)(ok:pO 48 rem=true)(m:∀(i:Nat) b o,M[i]?=some (true,b,o)->bq<=b)(w:∀b D,c.ρ.r b D->D<bq)(q:∀(i:Nat) own b o,c.M[i]?=some (own,b,o)->b<bq)(p:bq<=u.heap.size)(h:c.Ok X Z G k 4 u)(d:Acc (dZ X.Q) c.V)(B:cB (iL Z.z) Z G (Z.wk k) ⟨48,rem,M⟩ c.ja x g u n j)(y:n=a+1)(l:At (iL Z.z) a ⟨48,rem,M⟩ x):
 cZ X Z G k g u t (2,⟨c.V,d⟩,(c.nr*500+450)*10000000000+(c.bZ*500+450)*100000+(n*500+j)):=by
 rcases rem with _|⟨b,r⟩
 .exact IW f z c bq m w q p h d B y l
 .have ok:(b::r).all (· < 3)=true:=ok
  simp only[List.all_cons,Bool.and_eq_true,decide_eq_true_eq]at ok;obtain⟨E,C⟩:=ok;rcases b with _|_|_|b
  .exact eV f z c bq m w q p h d B y l (aN:=48) (lk:=r) (b7:=M) bI a6 C
  .exact eV f z c bq m w q p h d B y l (aN:=48) (lk:=r) (b7:=M) bI a6 C
  .exact eV f z c bq m w q p h d B y l (aN:=48) (lk:=r) (b7:=M) bI a6 C
  .omega
def IV(d:Base Z G u t)(p:G.s k=⟨.dB l,false⟩)(c:h0)(bq:Nat)(ok:pO l rem=true)(w:∀(i:Nat) b o,M[i]?=some (true,b,o)->bq<=b)(C:∀b F,c.ρ.r b F->F<bq)(B:∀(i:Nat) own b o,c.M[i]?=some (own,b,o)->b<bq)(z:bq<=u.heap.size)(h:c.Ok X Z G k 4 u)(m:Acc (dZ X.Q) c.V)(f:cB (iL Z.z) Z G (Z.wk k) ⟨l,rem,M⟩ c.ja x g u n j):
 cZ X Z G k g u t (2,⟨c.V,m⟩,(c.nr*500+450)*10000000000+(c.bZ*500+450)*100000+(n*500+j)):=by
 rcases f.quiet (tq _)with⟨a,D,q⟩|⟨y,bw,J,E,I⟩
 case inr=>
  have r:=kN d k ⟨.dB l,false⟩ u.heap.size u.drawn;exact cZ.still (aX:=⟨.dB l,false⟩) (n:=u.drawn) d p yd (g7.refl _) (I false u) rfl
   (.dB c bq ok w C B z (h.rely (dP:=(G.grow u.heap.size (Z.wk k)).st k ⟨.dB l,false⟩) rfl r h.r.l.heap.floor h.k2) m ⟨E.on,E.le,rfl,rfl,rfl,E.mem,f.own.rely f.mem r⟩) (eQ.last (qM _ _ _ U))
 have H:l<=49:=by
  unfold pO at ok;split at ok
  .omega
  .exact of_decide_eq_true ok
 have H:l=0\/l=1\/l=2\/l=3\/l=4\/l=5\/l=6\/l=7\/l=8\/l=9\/l=10\/l=11\/l=12\/l=13\/l=14\/l=15\/l=16\/l=17\/l=18\/l=19\/l=20\/l=21\/l=22\/l=23\/l=24\/l=25\/l=26\/l=27\/l=28\/l=29\/l=30\/l=31\/l=32\/l=33\/l=34\/l=35\/l=36\/l=37\/l=38\/l=39\/l=40\/l=41\/l=42\/l=43\/l=44\/l=45\/l=46\/l=47\/l=48\/l=49:=U;rcases H with rfl|rfl|rfl|rfl|rfl|rfl|rfl|rfl|rfl|rfl|rfl|rfl|rfl|rfl|rfl|rfl|rfl|rfl|rfl|rfl|rfl|rfl|rfl|rfl|rfl|rfl|rfl|rfl|rfl|rfl|rfl|rfl|rfl|rfl|rfl|rfl|rfl|rfl|rfl|rfl|rfl|rfl|rfl|rfl|rfl|rfl|rfl|rfl|rfl|rfl
 .exact yX d p c bq w C B z h m f D q (aN:=1) bI rfl a6 rfl
 .exact eV d p c bq w C B z h m f D q (aN:=2) bI a6 rfl
 .exact Cv d p c bq w C B z h m f D q (aN:=3) (o:=2) (v:=sl Z.z.R 2) a6 bI (d.ww.r8 (by cases G.bc<;>simp[eN,kP])) a6 rfl
 .exact eV d p c bq w C B z h m f D q (aN:=4) bI a6 rfl
 .exact yX d p c bq w C B z h m f D q (aN:=5) bI rfl a6 rfl
 .exact eV d p c bq w C B z h m f D q (aN:=6) bI a6 rfl
 .exact eV d p c bq w C B z h m f D q (aN:=7) bI a6 rfl
 .exact eV d p c bq w C B z h m f D q (aN:=8) bI a6 rfl
 .exact eV d p c bq w C B z h m f D q (aN:=9) bI a6 rfl
 .exact eV d p c bq w C B z h m f D q (aN:=10) bI a6 rfl
 .exact eV d p c bq w C B z h m f D q (aN:=11) bI a6 rfl
 .exact eV d p c bq w C B z h m f D q (aN:=12) bI a6 rfl
 .exact eV d p c bq w C B z h m f D q (aN:=13) bI a6 rfl
 .exact eV d p c bq w C B z h m f D q (aN:=14) bI a6 rfl
 .exact eV d p c bq w C B z h m f D q (aN:=15) bI a6 rfl
 .exact eV d p c bq w C B z h m f D q (aN:=16) bI a6 rfl
 .exact eV d p c bq w C B z h m f D q (aN:=17) bI a6 rfl
 .exact eV d p c bq w C B z h m f D q (aN:=18) bI a6 rfl
 .exact eV d p c bq w C B z h m f D q (aN:=19) bI a6 rfl
 .exact eV d p c bq w C B z h m f D q (aN:=20) bI a6 rfl
 .exact eV d p c bq w C B z h m f D q (aN:=21) bI a6 rfl
 .exact eV d p c bq w C B z h m f D q (aN:=22) bI a6 rfl
 .exact eV d p c bq w C B z h m f D q (aN:=23) bI a6 rfl
 .exact eV d p c bq w C B z h m f D q (aN:=24) bI a6 rfl
 .exact eV d p c bq w C B z h m f D q (aN:=25) bI a6 rfl
 .exact eV d p c bq w C B z h m f D q (aN:=26) bI a6 rfl
 .exact eV d p c bq w C B z h m f D q (aN:=27) bI a6 rfl
 .exact eV d p c bq w C B z h m f D q (aN:=28) bI a6 rfl
 .exact yX d p c bq w C B z h m f D q (aN:=29) bI rfl a6 rfl
 .exact eV d p c bq w C B z h m f D q (aN:=30) bI a6 rfl
 .exact eV d p c bq w C B z h m f D q (aN:=31) bI a6 rfl
 .exact eV d p c bq w C B z h m f D q (aN:=32) bI a6 rfl
 .exact eV d p c bq w C B z h m f D q (aN:=33) bI a6 rfl
 .exact eV d p c bq w C B z h m f D q (aN:=34) bI a6 rfl
 .exact eV d p c bq w C B z h m f D q (aN:=35) bI a6 rfl
 .exact eV d p c bq w C B z h m f D q (aN:=36) bI a6 rfl
 .exact eV d p c bq w C B z h m f D q (aN:=37) bI a6 rfl
 .exact eV d p c bq w C B z h m f D q (aN:=38) bI a6 rfl
 .exact eV d p c bq w C B z h m f D q (aN:=39) bI a6 rfl
 .exact eV d p c bq w C B z h m f D q (aN:=40) bI a6 rfl
 .exact eV d p c bq w C B z h m f D q (aN:=41) bI a6 rfl
 .exact eV d p c bq w C B z h m f D q (aN:=42) bI a6 rfl
 .exact eV d p c bq w C B z h m f D q (aN:=43) bI a6 rfl
 .exact eV d p c bq w C B z h m f D q (aN:=44) bI a6 rfl
 .exact Cv d p c bq w C B z h m f D q (aN:=45) (o:=3) (v:=sl Z.z.Fr 1) a6 bI (d.ww.r8 (by cases G.bc<;>simp[eN,kP])) a6 rfl
 .exact eV d p c bq w C B z h m f D q (aN:=46) bI a6 rfl
 .exact eV d p c bq w C B z h m f D q (aN:=47) bI a6 rfl
 .exact IU d p c bq w C B z h m f D q
 .exact IM d p c bq ok w C B z h m f D q
 .exact IQ d p c h m f q
end
section
variable{X:et}{Z:Stat}[hi X Z]{G aB:bX}{u aC w:World}{t bh:Trace}{k:Bool}{g g':Goroutine}{s aX:ck}{bb:Bool}{x y:bA}{n j c9 bw l aN a:Nat}{B:Nat}
def Sn{bt:gQ X.Q}(j:Base Z G u t)(o:(G.s k).c≠.un)(F:bt.1≠0)(q:fz X Z G k g u (G.s k) bt):cZ X Z G k g u t bt:=by
 generalize i:G.s k=s at q;cases q with
 |un bb bt=>rw[i]at o;exact absurd rfl o
 |gone gA H p=>exact absurd rfl F
 |out gA ok h B E p=>exact M4 j i h ⟨ok,E,p⟩ B
 |lift c z w y h d=>subst z;exact LA j i c w y h d
 |fx c kd bG bH df M rem bq ok l n m r h d f=>exact NQ j i c ⟨h,n,m⟩ d ok l r f
 |dG c ok D h d f=>exact Jc j i c h d ok D f
 |lock c h d f=>exact LR j i c h d f
 |dB c bq ok l n C m h d f=>exact IV j i c bq ok l n C m h d f
 |iu c h d f=>exact Rx j i c h d f
noncomputable abbrev jD(Z:Stat):de gO:=yY ⟨Z.W,Z.cg,Z.ch⟩
def rK(Z:Stat):dn (jD Z).P (jD Z).ext:=by unfold jD yY;exact j8
def wy(Z:Stat)(p:gO):(jD Z).dh p<=400:=bg
def bX.ew(G:bX)(p:gO)(v m:Int):bX:={G with k:=.at p,v:=v,m:=m}
inductive mY(Z:Stat)(G:bX)(p:gO)(g:Goroutine)(u:World)(t:Trace)(bt:Nat):Prop
 |go (aB:bX) (ia:gO) (aC:World) (l:List Event) (g':Goroutine) (di:bA) (c9 bw:Nat) (aW:stepG aK false g u=.go g' aC l.toArray) (aa:aB.k=.at ia) (af:aB.s=G.s) (aj:aB.l=G.l) (iP:aB.bP=G.bP) (jM:aB.cy=G.cy)
  (hb:Base Z aB aC (t++MemOp.ofEvents (Z.N+2) g.frame.fn g.frame.place l.toArray)) (au:∀i,i≠Z.N+2->e0 Z G aB i u aC) (aA:cB (jD Z) Z aB (Z.N+2) ia [] di g' aC c9 bw) (aS:c9*500+bw<bt) (cS:g'.status=.running)
  (fN:aB.ms=G.ms) (hm:aB.m=G.m\/aB.m=0) (dX:aB.k.shut=G.k.shut\/mayWake aK g=true):mY Z G p g u t bt
 |wait (aW:stepG aK false g u=.go ⟨g.frame,g.callers,.blocked,none,none⟩ u) (ar:p=.gq) (hm:G.m=0):mY Z G p g u t bt
 |fin (aW:stepG aK false g u=.go ⟨g.frame,g.callers,.finished,none,none⟩ u) (ar:p=.fin):mY Z G p g u t bt
def g5.Du(a:g5 G)(h:G.k=.at p):decide (24<=G.l)=true:=by
 have:¬G.l<27:=λc=>by rw[a.mS.1 c]at h;cases h
 exact decide_eq_true U
def g5.ew(a:g5 G)(h:G.k=.at p)(wg:ey true (G.s false).cR (G.s true).cR (dE.at q).ph=some (v,m))(c:left (G.s false).cR (G.s true).cR<=(dE.at q).bound):g5 (G.ew q v m):=
 ⟨a.once,by show ey (decide (24<=G.l)) _ _ _=_;rw[a.Du h];exact wg,c,a.cnt,a.l9,⟨λd=>absurd (a.mS.1 d) (by rw[h];intro e;cases e),bR⟩,a.pG,a.bY,a.eC⟩
def g5.q6(a:g5 G)(h:G.k=.at p):ey true (G.s false).cR (G.s true).cR (dE.at p).ph=some (G.v,G.m):=by have:=a.wg;rw[a.Du h,h]at this;exact this
def vf(Z:Stat)(k:Bool):Z.wk k≠Z.N+2:=by cases k<;>simp[Stat.wk]
def Dv(h:G.k=.at p)(a:eF):a.ig (G.ew q v m)↔a.ig G:=by
 cases a with
 |main=>exact Iff.rfl
 |dN j=>exact Iff.rfl
 |eu=>exact⟨λ_=>(by show G.k≠.un;rw[h];intro e;cases e),λ_ e=>(by cases e)⟩
def wO(h:G.k=.at p):eF.ig G .eu:=by show G.k≠.un;rw[h];intro e;cases e
def oG{to:gO}(l:Base Z G u t)(c:G.k=.at p)(d:cB (jD Z) Z G (Z.N+2) p [] x g u n j)(L:n=a+1)(H:At (jD Z) a p x){wk:Bool}{h:List cD}(he:Edge.fix true wk an h to∈(jD Z).cz p)(hd:Does u h aC es)(wd:Word Z u aC)(q:aC.heap[Z.z.T]?=some (.cells (eN Z.z G.mu G.ms G.aY G.bc) 94 (0,0)))(hW:aC.heap[Z.W]?=some (.cells #[.int .u64 v,.int .u32 m] 201 (0,0)))(wg:ey true (G.s false).cR (G.s true).cR (dE.at to).ph=some (v,m))(I:left (G.s false).cR (G.s true).cR<=(dE.at to).bound)(f:(dE.at to).shut=false/\(dE.at p).shut=false)(M:(dE.at to).said=false->(dE.at p).said=false)(K:∀e∈hZ true (cI h),iv Z u.heap.size e)(J:(dE.at to).deaf=deafBehind (dE.at p).deaf (hZ true (cI h)).toArray)(hm:m=G.m\/m=0):mY Z G p g u t (n*500+j):=by
 subst L;have r:=pa l wd q (aB:=G.ew to v m) rfl rfl (Z.N+2);obtain⟨y,bw,w,_,P⟩:=d.mr (aB:=G.ew to v m) (rK _) (wy _) H he hd ⟨d.mem.rely d.own r d.mem.floor,d.own.rely d.mem r⟩;have z:=l.b9.ew c wg I;have Q:ea Z (G.ew to v m) aC:=ea.of l wd q hW (by rw[c];exact f.1.trans f.2.symm) rfl;obtain⟨B,C⟩:=l.sync (aB:=G.ew to v m) .eu (wO c) rfl rfl rfl Q z wd.size (λb D E _=>wd.keep b D E) K rfl (Dv c) (by show(dE.at to).deaf=deafBehind G.k.deaf _;rw[c];exact J) (λa F=>by
  cases a with
  |main=>rfl
  |dN j=>rfl
  |eu=>exact absurd rfl F) g.frame.fn g.frame.place (λj o=>.inl o) (λj o=>⟨o,bR⟩) (λe=>by
  have e:(dE.at to).shut=true:=e;rw[f.1]at e;cases e) (λe=>by rw[c];exact M e)
 exact .go (G.ew to v m) to aC _ _ y a bw (P false) rfl rfl rfl rfl rfl B (λi _=>C i) w (by have:=w.le;omega) rfl rfl hm (.inl (by rw[c];exact f.1.trans f.2.symm))
def Hm(l:Base Z G u t)(h:G.k=.at p)(c:(dE.at q).ph=(dE.at p).ph)(d:(dE.at q).deaf=(dE.at p).deaf)(f:(dE.at p).bound<=(dE.at q).bound)(g:(dE.at q).shut=(dE.at p).shut)(j:(dE.at q).said=(dE.at p).said)(n i:Nat):Alike G ((G.grow n i).ew q G.v G.m):=by
 refine⟨λ_=>rfl,λ_=>rfl,λ_=>rfl,λ_=>rfl,λ_=>id,λ_=>Iff.rfl,?_,?_,?_,?_,?_,⟨bR,λe=>(by rw[h]at e;cases e)⟩,Iff.rfl,Iff.rfl,Iff.rfl,l.b9.bY,rfl,rfl,rfl,rfl,rfl,rfl,rfl,rfl,rfl,rfl⟩
 .rw[h];exact c
 .rw[h];exact d
 .rw[h];exact f
 .rw[h];exact g
 .rw[h];exact j
def IG{bz:List Event}(h:Base Z G u t)(c:G.k=.at p)(fA:Alike G ((G.grow u.heap.size (Z.N+2)).ew q G.v G.m))(w:(dE.at p).shut=false)(z:stepG aK false g u=.go g' aC bz.toArray)(r:g'.status=.running)(calm:Calm u aC)(keep:∀b,b<u.heap.size->aC.heap[b]?≠u.heap[b]?->gY Z G (Z.N+2) b)(cI:∀e∈bz,lx Z ((G.grow u.heap.size (Z.N+2)).ew q G.v G.m) t (Z.N+2) aC.heap.size e)(B:cB (jD Z) Z ((G.grow u.heap.size (Z.N+2)).ew q G.v G.m) (Z.N+2) q [] y g' aC c9 bw)(o:c9*500+bw<n):mY Z G p g u t n:=by obtain⟨d,f⟩:=h.l3 .eu (wO c) fA (λb=>rfl) calm keep cI (λj m=>by cases m) (λ_ e=>by rw[c,w]at e;cases e) g.frame.fn g.frame.place;exact .go ((G.grow u.heap.size (Z.N+2)).ew q G.v G.m) q aC bz g' y c9 bw z rfl rfl rfl rfl rfl d (λi l=>f i l) B o r rfl (.inl rfl) (.inl fA.zE)
def IH(c:Base Z G u t)(f:G.k=.at .c4)(h:cB (jD Z) Z G (Z.N+2) .c4 [] x g u n j)(F:n=a+1)(E:At (jD Z) a .c4 x):mY Z G .c4 g u t (n*500+j):=by
 subst F;have wd:=Word.refl Z u;have r:=pa c wd c.ww.T (aB:=G.ew .gq G.v G.m) rfl rfl (Z.N+2);obtain⟨y,bw,p,_,H⟩:=h.mr (aB:=G.ew .gq G.v G.m) (to:=.gq) (rK _) (wy _) E bI (.mark (.mark (.nil u))) ⟨h.mem,h.own.rely h.mem r⟩;have wg:=c.b9.q6 f;have B:g5 (G.ew .gq G.v G.m):=c.b9.ew f wg (by have:=c.b9.bound;rw[f]at this;exact this);have z:ea Z (G.ew .gq G.v G.m) u:=ea.of c wd c.ww.T c.ww.W (by rw[f];rfl) rfl;have m:Apart Z (G.ew .gq G.v G.m):=c.ap.same rfl rfl;have o:(pl Z (G.ew .gq G.v G.m)).jy (.cell (hn Z.W)):=.inr (.inl ⟨_,rfl,rfl⟩);have w:∀{b:Touch},(MemAct.ofEvent ⟨.mark (.write (hn Z.W)),false,true⟩).touch?=some b->b=⟨.cell (hn Z.W),true,.said⟩:=λ{b} d=>by have d:some (⟨.cell (hn Z.W),true,.said⟩:Touch)=some b:=d;exact(bD d).symm
 have I:e5 Z (G.ew .gq G.v G.m) (t++MemOp.ofEvents (Z.N+2) g.frame.fn g.frame.place [⟨.mark (.write (hn Z.W)),false,true⟩].toArray) u.heap.size:=by
  refine e5.app m c.dy ⟨λb _=>rfl,rfl⟩ bg .eu (wO f) c.dy.dy (λe he=>?_) (Dv f) (by show _=deafBehind G.k.deaf _;rw[f];rfl) (λa D=>by
   cases a with
   |main=>rfl
   |dN j=>rfl
   |eu=>exact absurd rfl D) (λj l=>.inl l) (λe he b d q=>?_) (λj l=>⟨l,bR⟩) bR (λe he b d _=>⟨by rw[f];rfl,rfl⟩) (bR)
  .rw[ev he]
   exact⟨c.fv.2.1,λb d _=>by rw[w d];exact .inl (.inl ⟨o,aF⟩),bR⟩
  .rw[ev he]at d
   rw[w d]at q;exact absurd o (m.lU.oi _ q)
 have C:Base Z (G.ew .gq G.v G.m) u _:=c.rest rfl rfl rfl rfl z B I;exact .go (G.ew .gq G.v G.m) .gq u _ _ y a bw (H false) rfl rfl rfl rfl rfl C (λi _=>e0.same (aB:=G.ew .gq G.v G.m) rfl rfl rfl (λ_ _ _ _=>rfl) z) p (by have:=p.le;omega) rfl rfl (.inl rfl) (.inl (by rw[f];rfl))
def pV{t u:Trace}(h:i<t.size):(t++u).g? i=t.g? i:=by unfold Trace.g?;rw[getElem?_append_old h]
def e5.O1(h:e5 Z G t B)(r:G.k=.at .cn){y:MemOp}(m:y.g=Z.N+2/\y.act=.close Z.ch)(F:Z.ch<B):e5 Z (G.ew .fin G.v G.m) (t++#[y]) B:=by
 have d:y.act.touch?=none:=by rw[m.2];rfl
 have J:y.act.low B:=by rw[m.2];exact F
 have f:∀g,Deaf (t++#[y]) g=Deaf t g:=λg=>by rw[Deaf_push];unfold deafStep;rw[m.2]
 have C:∀g,hy Z (G.ew .fin G.v G.m) g↔hy Z G g:=λg=>by
  constructor
  .rintro(h|⟨k,e,c⟩|⟨e,c⟩)
   .exact .inl h
   .exact .inr (.inl ⟨k,e,c⟩)
   .exact .inr (.inr ⟨e,by rw[r];intro e;cases e⟩)
  .rintro(h|⟨k,e,c⟩|⟨e,c⟩)
   .exact .inl h
   .exact .inr (.inl ⟨k,e,c⟩)
   .exact .inr (.inr ⟨e,bR⟩)
 have n:=h.oJ;rw[r]at n;refine⟨h.dy.one y d J,λg o=>(h.st g ((C g).1 o)).one y d h.dy.size,λk c=>(h.uQ k c).one y d,?_,λk=>?_,?_,λj l=>?_,λk c=>(h.told k c).other λop P _=>?_,λ_=>O3 m n,λe=>?_,λi op p L q=>?_,λi g p o K E=>?_⟩
 .rw[f];exact h.d0
 .rw[f];exact h.qU k
 .rw[f];exact n
 .rw[f];exact h.above j l
 .have:op=y:=by simpa using P
  rw[this];exact d
 .cases e
 .rcases getElem?_append_cases L with⟨_,M⟩|⟨_,Q⟩
  .exact(C _).2 (h.nH i op p M q)
  .have:op=y:=by simpa using Q
   rw[this]at q;exact absurd d q
 .have w:i<t.size:=by have:=h.dy.size;have:(pl Z G).cT=Z.cT:=rfl;omega
  have H:t.g? i=some g:=by rw[<-pV (u:=#[y]) w];exact o
  obtain⟨j,l,D⟩:=h.over i g p H K ((counts_old w).1 E);have I:j<t.size:=by have:(t[j]?).map (·.g)=some 0:=l;obtain⟨z,R,_⟩:=Option.map_eq_some_iff.1 this;exact lt_size_of_getElem? R
  exact⟨j,by rw[pV I];exact l,hb_app _ D⟩
def vX{s:ck}(h:s.cR=.yes):s.da=true:=by
 obtain⟨c,bb⟩:=s;cases c with
 |out p=>cases p<;>first|rfl|cases h
 |_=>cases h
def IF(c:Base Z G u t)(f:G.k=.at .cn)(l:cB (jD Z) Z G (Z.N+2) .cn [] x g u n j)(P:n=a+1)(M:At (jD Z) a .cn x):mY Z G .cn g u t (n*500+j):=by
 subst P;have wg:=c.b9.q6 f;obtain⟨_,U,V⟩:=vc wg;have m:=c.b9.cnt;rw[vX U,vX V]at m;have m:dF G.l=2:=m;have h:=c.ww.ch;rw[f,m]at h;have h:u.heap[Z.ch]?=some (.chan 0 #[] false 2 2 false):=h;have z:=bu h;let aC:World:={u with heap:=u.heap.setIfInBounds Z.ch (.chan 0 #[] true 2 2 false)}
 have o:∀b,b≠Z.ch->aC.heap[b]?=u.heap[b]?:=λb d=>h7 (Ne.symm d)
 have p:aC.heap.size=u.heap.size:=by simp[aC]
 have C:ea Z (G.ew .fin G.v G.m) aC:=by refine⟨(o _ c.ap.rC).trans c.ww.T,(o _ c.ap.wc).trans c.ww.W,?_,λb d L=>(o b (by have:=c.o4.2;omega)).trans (c.ww.old b d L),c.ww.calm.trans ⟨Nat.le_of_eq p.symm,rfl,rfl,Go.ConcM.OsLater.refl _⟩⟩;show aC.heap[Z.ch]?=some (.chan 0 #[] true (dF G.l) (dF G.l) false);rw[m];exact iO z
 have I:g5 (G.ew .fin G.v G.m):=c.b9.ew f wg (by have:=c.b9.bound;rw[f]at this;exact this);have r:e0 Z G (G.ew .fin G.v G.m) (Z.N+2) u aC:=e0.same rfl rfl p (λb _ _ q=>o b q) C;obtain⟨y,bw,F,R,Q⟩:=l.mr (aB:=G.ew .fin G.v G.m) (aC:=aC) (to:=.fin) (rK _) (wy _) M bI (.getObj h trivial (.setObj h trivial (.nil _))) ⟨l.mem.rely l.own r l.mem.floor,l.own.rely l.mem r⟩;have D:(pl Z G).jy (.obj Z.ch):=.inr (.inr rfl);have S:e5 Z G (t++MemOp.ofEvents (Z.N+2) g.frame.fn g.frame.place [⟨.obj Z.ch,false,true⟩].toArray) u.heap.size:=by
  have B:∀{b:Touch},(MemAct.ofEvent ⟨.obj Z.ch,false,true⟩).touch?=some b->b=⟨.obj Z.ch,false,.atomic⟩:=λ{b} d=>by have d:some (⟨.obj Z.ch,false,.atomic⟩:Touch)=some b:=d;exact(bD d).symm
  refine e5.app c.ap c.dy ⟨λb _=>rfl,rfl⟩ bg .eu (wO f) c.dy.dy (λe he=>?_) (λ_=>Iff.rfl) (by show G.k.deaf=deafBehind G.k.deaf _;rw[f];rfl) (λa W=>rfl) (λj w=>.inl w) (λe he b d H=>?_) (λj w=>⟨w,bR⟩) (λe=>by rw[f]at e;cases e) (λe he b d E=>?_) id
  .rw[ev he]
   exact⟨z,λb d _=>by rw[B d];exact .inl (.inl ⟨D,aF⟩),bR⟩
  .rw[ev he]at d
   rw[B d]at H;exact absurd D (c.ap.lU.oi _ H)
  .rw[ev he]at d
   rw[B d]at E;cases E
 have T:=S.O1 f (y:={g:=Z.N+2,fn:=g.frame.fn,pos:=g.frame.place,act:=.close Z.ch}) ⟨rfl,rfl⟩ z;have K:t++MemOp.ofEvents (Z.N+2) g.frame.fn g.frame.place [(⟨.obj Z.ch,false,true⟩:Event),⟨.obj Z.ch,true,true⟩].toArray=(t++MemOp.ofEvents (Z.N+2) g.frame.fn g.frame.place [(⟨.obj Z.ch,false,true⟩:Event)].toArray)++#[{g:=Z.N+2,fn:=g.frame.fn,pos:=g.frame.place,act:=.close Z.ch}]:=by rw[ofEvents_eq,ofEvents_eq];apply Array.ext';simp[MemAct.ofEvent]
 have J:Base Z (G.ew .fin G.v G.m) aC (t++MemOp.ofEvents (Z.N+2) g.frame.fn g.frame.place [(⟨.obj Z.ch,false,true⟩:Event),⟨.obj Z.ch,true,true⟩].toArray):=c.rest rfl rfl rfl p C I (by rw[p,K];exact T);exact .go (G.ew .fin G.v G.m) .fin aC [⟨.obj Z.ch,false,true⟩,⟨.obj Z.ch,true,true⟩] _ y a bw (Q false) rfl rfl rfl rfl rfl J (λi _=>e0.same (aB:=G.ew .fin G.v G.m) rfl rfl p (λb _ _ q=>o b q) C) F (by have:=F.le;omega) rfl rfl (.inl rfl) (.inr (R rfl))
def II(f:Base Z G u t)(w:G.k=.at p)(z:cB (jD Z) Z G (Z.N+2) p [] x g u n j):mY Z G p g u t (n*500+j):=by
 rcases z.quiet (rK _)with⟨a,E,C⟩|⟨y,bw,ad,T,K⟩
 case inr=>
  exact .go G p u [] (bW y []) y n bw (K false u) w rfl rfl rfl rfl (by
   have:t++MemOp.ofEvents (Z.N+2) g.frame.fn g.frame.place ([]:List Event).toArray=t:=by rw[ofEvents_eq];simp
   rw[this];exact f) (λi _=>e0.at Z G i f.ww u.drawn) T U rfl rfl (.inl rfl) (.inl rfl)
 have L:=Word.refl Z u;have H:=f.ww.T;have I:=f.ww.W;have fv:=f.fv;have wg:=f.b9.q6 w;have D:=f.b9.bound;rw[w]at D;have F:left (G.s false).cR (G.s true).cR<=2:=by unfold left;split<;>split<;>omega
 have M:∀{o:Nat} {wr:Bool},iv Z u.heap.size ⟨.cell ⟨Z.W,o,none⟩,wr,true⟩:=.wg;have look:∀{v:Int} {an:List dO} {q:gO},G.v=v->Edge.fix true false an (oN Z.W v) q∈(jD Z).cz p->ey true (G.s false).cR (G.s true).cR (dE.at q).ph=some (v,G.m)->left (G.s false).cR (G.s true).cR<=(dE.at q).bound->
  ((dE.at q).shut=false/\(dE.at p).shut=false)->((dE.at q).said=false->(dE.at p).said=false)->(dE.at q).deaf=(dE.at p).deaf->mY Z G p g u t (n*500+j):=by
  intro v an q l he B J Q R S;exact oG f w z E C he (.mark (.load (f.ww.gH l) (.nil _))) L H I (by rw[l];exact B) J Q R (iS M) S (.inl rfl)
 have g0:∀{v P:Int} {an:List dO} {q:gO},G.v=v->Edge.fix true false an (zt Z.W v P) q∈(jD Z).cz p->ey true (G.s false).cR (G.s true).cR (dE.at q).ph=some (P,G.m)->left (G.s false).cR (G.s true).cR<=(dE.at q).bound->
  ((dE.at q).shut=false/\(dE.at p).shut=false)->((dE.at q).said=false->(dE.at p).said=false)->(dE.at q).deaf=(dE.at p).deaf->mY Z G p g u t (n*500+j):=by
  intro v P an q l he B J Q R S;exact oG f w z E C he (.mark (.shape f.ww.ny (.frozen (f.ww.pS 0) (.load (f.ww.gH l) (.store (f.ww.gH l) (f.ww.pS 0) (.nil _)))))) (Word.set 0 _ (.inr rfl)) (Word.fo f 0 _) (Word.d' f rfl) B J Q R (lo M (iS M)) S (.inl rfl)
 have V:∀{v:Int} {an:List dO} {q:gO},G.v=v->Edge.fix true false an (wB Z.W v) q∈(jD Z).cz p->ey true (G.s false).cR (G.s true).cR (dE.at q).ph=some (v,G.m)->left (G.s false).cR (G.s true).cR<=(dE.at q).bound->
  ((dE.at q).shut=false/\(dE.at p).shut=false)->((dE.at q).said=false->(dE.at p).said=false)->(dE.at q).deaf=(dE.at p).deaf->mY Z G p g u t (n*500+j):=by
  intro v an q l he B J Q R S;exact oG f w z E C he (.mark (.shape f.ww.ny (.frozen (f.ww.pS 0) (.load (f.ww.gH l) (.nil _))))) L H I (by rw[l];exact B) J Q R (iS M) S (.inl rfl)
 have cut:∀{m dd:Int} {v P:Int} {a b c d},ey a b c d=some (v,m)->v=P->m=dd->ey a b c d=some (P,dd):=λh W X=>by rw[h,W,X]
 cases p with
 |bx=>exact oG f w z E C (to:=.c1 2) bI (.mark (.mark (.nil _))) L H I wg F ⟨rfl,rfl⟩ (λ_=>rfl) (iS qT) rfl (.inl rfl)
 |c1 m=>
  rcases G3 wg with⟨r,l,B⟩|⟨r,l,_⟩|⟨r,l,_⟩
  .rcases m with _|_|m
   .exact look l (.head _) B (by rw[r];exact Nat.zero_le _) ⟨rfl,rfl⟩ bR rfl
   .exact look l (.head _) B (by rw[r];exact Nat.zero_le _) ⟨rfl,rfl⟩ bR rfl
   .exact look l (.head _) B (by rw[r];exact Nat.zero_le _) ⟨rfl,rfl⟩ bR rfl
  .rcases m with _|_|m
   .rw[r]at D;exact absurd D a6
   .exact look l (.tail _ (.head _)) (cut wg l rfl) (by rw[r];exact bg) ⟨rfl,rfl⟩ (λ_=>rfl) rfl
   .exact look l (.tail _ (.head _)) (cut wg l rfl) (by rw[r];exact bg) ⟨rfl,rfl⟩ (λ_=>rfl) rfl
  .rcases m with _|_|m
   .rw[r]at D;exact absurd D a6
   .rw[r]at D;exact absurd D a6
   .exact look l (.tail _ (.tail _ (.head _))) (cut wg l rfl) (by rw[r];exact bg) ⟨rfl,rfl⟩ (λ_=>rfl) rfl
 |c2 m=>
  rcases G3 wg with⟨r,l,_⟩|⟨r,l,B⟩|⟨r,l,B⟩
  .rcases m with _|_|m
   .exact V l (.tail _ (.tail _ (.head _))) (cut wg l rfl) (by rw[r];exact bg) ⟨rfl,rfl⟩ (λ_=>rfl) rfl
   .exact V l (.tail _ (.head _)) (cut wg l rfl) (by rw[r];exact bg) ⟨rfl,rfl⟩ (λ_=>rfl) rfl
   .exact V l (.tail _ (.tail _ (.head _))) (cut wg l rfl) (by rw[r];exact bg) ⟨rfl,rfl⟩ (λ_=>rfl) rfl
  .rcases m with _|_|m
   .rw[r]at D;exact absurd D a6
   .exact g0 l (.head _) B F ⟨rfl,rfl⟩ (λ_=>rfl) rfl
   .exact V l (.tail _ (.head _)) (cut wg l rfl) (by rw[r];exact bg) ⟨rfl,rfl⟩ (λ_=>rfl) rfl
  .rcases m with _|_|m
   .rw[r]at D;exact absurd D a6
   .rw[r]at D;exact absurd D a6
   .exact g0 l (.head _) B F ⟨rfl,rfl⟩ (λ_=>rfl) rfl
 |c3=>exact oG f w z E C (to:=.c4) bI (.shape f.ww.ny (.shape f.ww.ny (.nil _))) L H I wg F ⟨rfl,rfl⟩ (λ_=>rfl) nB rfl (.inl rfl)
 |c4=>exact IH f w z E C
 |gq=>
  rcases G4 wg with⟨hm,_⟩|⟨hm,B⟩
  .have K:=C.wait (rK _) (.head _)
   obtain⟨st,off,rfl⟩:=z.shape;exact .wait (K false _ st off u _ (.mark (.mark (.load (f.ww.fK hm) (.nil _))))) rfl hm
  .exact oG f w z E C (to:=.pI) (.tail _ (.head _)) (.mark (.mark (.load (f.ww.fK hm) (.store (f.ww.fK hm) (f.ww.pS 1) (.mark (.nil _)))))) (Word.set 1 _ (.inr rfl)) (Word.fo f 1 _) (Word.d' f rfl) B F ⟨rfl,rfl⟩ bR (lo qT (lo M (lo M (iS qV)))) rfl (.inr rfl)
 |pI=>
  obtain⟨l,_,_⟩:=vc wg;exact look l (.head _) (cut wg l rfl) F ⟨rfl,rfl⟩ bR rfl
 |pK=>exact oG f w z E C (to:=.vK) bI (.mark (.mark (.nil _))) L H I wg F ⟨rfl,rfl⟩ bR (iS qV) rfl (.inl rfl)
 |vK=>exact oG f w z E C (to:=.cg) bI (.shape f.ww.ny (.shape f.ww.ny (.nil _))) L H I wg F ⟨rfl,rfl⟩ bR nB rfl (.inl rfl)
 |cg=>exact oG f w z E C (to:=.k1) bI (.mark (.mark (.nil _))) L H I wg F ⟨rfl,rfl⟩ bR (iS (.mark rfl fv.2.1)) rfl (.inl rfl)
 |k1=>
  subst E;have fA:=Hm f w (q:=.cn) rfl rfl bg rfl rfl u.heap.size (Z.N+2);obtain⟨y,aC,bz,bw,T,K,calm,keep,cI,_⟩:=z.bL (aB:=(G.grow u.heap.size (Z.N+2)).ew .cn G.v G.m) (t:=t) (rK _) (wy _) C bI (λb=>rfl) rfl;exact IG f w fA rfl (K false) rfl calm (λb J Y=>(keep b J Y).1) cI T (by have:=T.le;omega)
 |cn=>exact IF f w z E C
 |fin=>
  obtain⟨aa,K⟩:=C.done bI;obtain⟨st,off,rfl⟩:=z.shape;exact .fin (by rw[aa];exact K false st off u) rfl
end
section
variable{X:et}{Z:Stat}[hi X Z]{G aB:bX}{u aC w:World}{t bh:Trace}{k:Bool}{g g':Goroutine}{x y:bA}{n j c9 bw l aN a:Nat}{B:Nat}{c bp:fR}{M b7:Mem}
noncomputable abbrev hP(Z:Stat):de eY:=kn Z.kd
def po(Z:Stat):dn (hP Z).P (hP Z).ext:=by unfold hP kn;exact j8
def zs(Z:Stat)(p:eY):(hP Z).dh p<=400:=bg
def nz(c:fR):Mem:=[(false,c.L,hf),(false,c.bc,.cells #[pt c.T] 70 (0,0)),(true,c.O,.cells #[dg,dg] 22 (0,0)),(false,c.cg,.cells #[.chan (some c.ch)] 196 (0,0)),(false,c.j0,.cells #[ah 0] 3 (0,0)),(false,c.kq,.cells dC 47 (0,0))]
def lf(c:fR):Nat->Mem
 | 17|18=>nz c
 | 19=>nz c++[(true,c.jC,.cells #[i0] 3 (0,0))]
 | 20=>nz c++[(true,c.jC,.cells #[i0] 3 (0,0)),(true,c.jP,.cells #[i0,i0,i0,i0,i0] 47 (0,0))]
 | 21=>nz c++[(true,c.jC,.cells #[ah 1] 3 (0,0)),(true,c.jP,.cells #[i0,i0,i0,i0,i0] 47 (0,0))]
 | 26=>nz c++[(false,c.jC,.cells #[ah 1] 3 (0,0)),(false,c.jP,.cells dC 47 (0,0))]
 |_=>nz c++[(true,c.jC,.cells #[ah 1] 3 (0,0)),(true,c.jP,.cells dC 47 (0,0))]
def lh(l:Nat):Bool:=decide (29<=l/\l<=33)||decide (35<=l/\l<=39)
def iB(G:bX)(c:fR)(k:Bool):Value:=if (G.s k).da && !(lh G.l && (c.k == k))then four (G.cy k)else dg
structure lR(Z:Stat)(G:bX)(c:fR)(M:Mem):Prop where
 cfg:c.T=Z.z.T/\c.O=Z.O/\c.ch=Z.ch/\c.cg=Z.cg/\c.W=Z.W/\c.bc=Z.bc
 early:G.l<=26->M=lf c G.l
 out:M[2]?=some (true,Z.O,.cells #[iB G c false,iB G c true] 22 (0,0))
 pend:lh G.l=true->(G.s c.k).da=true/\c.r=G.cy c.k
 lim:G.l<=40
structure jl(Z:Stat)(G:bX)(g:Goroutine)(w:World)(c:fR)(M:Mem)(x:bA)(n j:Nat):Prop where
 at_:cB (hP Z) Z G 0 ⟨G.l,c,M⟩ Z.base x g w n j
 ok:lR Z G c M
inductive qz(Z:Stat)(G:bX)(g:Goroutine)(u:World)(t:Trace)(bt:Nat):Prop
 |go (aB:bX) (aC:World) (l:List Event) (g':Goroutine) (bp:fR) (b7:Mem) (di:bA) (c9 bw:Nat) (aW:stepG aK true g u=.go g' aC l.toArray) (af:aB.s=G.s) (aa:aB.k=G.k) (iP:aB.bP=G.bP) (jM:aB.cy=G.cy)
  (hb:Base Z aB aC (t++MemOp.ofEvents 0 g.frame.fn g.frame.place l.toArray)) (au:∀i,i≠0->e0 Z G aB i u aC) (hm:jl Z aB g' aC bp b7 di c9 bw) (aS:c9*500+bw<bt) (cS:g'.status=.running) (fN:aB.ms=G.ms) (g1:aB.m=G.m):qz Z G g u t bt
 |stop (c:fR) (M:Mem) (x:bA) (n j a:Nat) (aj:G.l=25\/G.l=26\/G.l=28\/G.l=34\/G.l=40) (hm:jl Z G g u c M x n j) (aM:At (hP Z) a ⟨G.l,c,M⟩ x) (ak:n=a+1) (k7:bt=n*500+j):qz Z G g u t bt
def bX.hE(G:bX)(l:Nat)(v:Int):bX:={G with l:=l,v:=v}
structure rS(l aN:Nat):Prop where
 km:24<=aN↔24<=l
 zG:aN<26↔l<26
 zH:aN<27↔l<27
 zF:17<=aN
 cnt:dF aN=dF l
 deaf:j1 aN=j1 l
def rS.alike(h:rS G.l aN)(n i:Nat):Alike G ((G.grow n i).hE aN G.v):=
 ⟨λ_=>rfl,λ_=>rfl,λ_=>rfl,λ_=>rfl,λ_=>id,λ_=>Iff.rfl,rfl,rfl,bg,rfl,rfl,Iff.rfl,h.km,h.zG,h.zH,h.zF,h.cnt,h.deaf,rfl,rfl,rfl,rfl,rfl,rfl,rfl,rfl⟩
def DV{bz:List Event}(f:Base Z G u t)(q:rS G.l aN)(o:stepG aK true g u=.go (bW y Z.base) aC bz.toArray)(calm:Calm u aC)(keep:∀b,b<u.heap.size->aC.heap[b]?≠u.heap[b]?->gY Z G 0 b)(cI:∀e∈bz,lx Z ((G.grow u.heap.size 0).hE aN G.v) t 0 aC.heap.size e)(p:cB (hP Z) Z ((G.grow u.heap.size 0).hE aN G.v) 0 ⟨aN,bp,b7⟩ Z.base y (bW y Z.base) aC c9 bw)(ok:lR Z ((G.grow u.heap.size 0).hE aN G.v) bp b7)(m:c9*500+bw<n):qz Z G g u t n:=by obtain⟨c,d⟩:=f.l3 .main trivial (q.alike u.heap.size 0) (λb=>rfl) calm keep cI (λj l=>by cases l) bR g.frame.fn g.frame.place;exact .go ((G.grow u.heap.size 0).hE aN G.v) aC bz _ bp b7 y c9 bw o rfl rfl rfl rfl c (λi h=>d i h) ⟨p,ok⟩ m rfl rfl rfl
def mD(f:Base Z G u t)(o:G.l=l)(h:jl Z G g u c M x n j)(p:n=a+1)(i:At (hP Z) a ⟨l,c,M⟩ x)(he:(hP Z).cz ⟨l,c,M⟩ = [.bL ops ⟨aN,c,b7⟩])(w:rS l aN)(ok:lR Z ((G.grow u.heap.size 0).hE aN G.v) c b7):qz Z G g u t (n*500+j):=by subst p;subst o;obtain⟨y,aC,bz,bw,d,r,calm,keep,cI,_⟩:=h.at_.bL (aB:=(G.grow u.heap.size 0).hE aN G.v) (t:=t) (po _) (zs _) i (by rw[he];exact .head _) (λb=>rfl) rfl;exact DV f w (r true) calm (λb m q=>(keep b m q).1) cI d ok (by have:=d.le;omega)
def w0(d:Base Z G u t)(p:G.l=l)(h:jl Z G g u c M x n j)(q:n=a+1)(i:At (hP Z) a ⟨l,c,M⟩ x){o:Obj}{to:Nat->eY}(he:Edge.new true o to∈(hP Z).cz ⟨l,c,M⟩)(z:to u.heap.size=⟨aN,bp,b7⟩)(B:rS l aN)(ok:lR Z ((G.grow u.heap.size 0).hE aN G.v) bp b7):qz Z G g u t (n*500+j):=by subst q;subst p;obtain⟨y,aC,bw,f,w,calm,keep,C⟩:=h.at_.z2 (aB:=(G.grow u.heap.size 0).hE aN G.v) (po _) (zs _) i he (λb=>rfl) rfl d.oc d.fv;rw[z]at f;exact DV (bz:=[]) d B (w true) calm (λb m r=>absurd (keep b m) r) (λe he=>(by cases he)) f ok (by have:=f.le;omega)
def zP(m:Base Z G u t)(L:G.l=l)(h:jl Z G g u c M x n j)(P:n=a+1)(I:At (hP Z) a ⟨l,c,M⟩ x){f:List cD}(he:Edge.fix true false an f ⟨aN,c,M⟩∈(hP Z).cz ⟨l,c,M⟩)(hd:Does u f aC es)(wd:Word Z u aC)(p:aC.heap[Z.z.T]?=some (.cells (eN Z.z G.mu G.ms G.aY G.bc) 94 (0,0)))(hW:aC.heap[Z.W]?=some (.cells #[.int .u64 v,.int .u32 G.m] 201 (0,0)))(wg:ey (decide (24<=aN)) (G.s false).cR (G.s true).cR G.k.ph=some (v,G.m))(F:l<26/\aN<26/\17<=aN)(q:dF aN=dF l)(K:∀e∈hZ true (cI f),iv Z u.heap.size e)(J:j1 aN=deafBehind (j1 l) (hZ true (cI f)).toArray)(ok:lR Z (G.hE aN v) c M):qz Z G g u t (n*500+j):=by
 subst P;subst L;have r:=pa m wd p (aB:=G.hE aN v) rfl rfl 0;obtain⟨y,bw,w,_,Q⟩:=h.at_.mr (aB:=G.hE aN v) (po _) (zs _) I he hd ⟨h.at_.mem.rely h.at_.own r h.at_.mem.floor,h.at_.own.rely h.at_.mem r⟩;have d:=m.b9;have z:g5 (G.hE aN v):=⟨d.once,wg,d.bound,by show dF aN=_;rw[q];exact d.cnt,(by show aN<26↔(G.s true).c=.un;rw[<-d.l9];omega),(by show aN<27↔G.k=.un;rw[<-d.mS];omega),d.pG,F.2.2,d.eC⟩
 have R:ea Z (G.hE aN v) aC:=ea.of m wd p hW rfl q;obtain⟨B,C⟩:=m.sync (aB:=G.hE aN v) .main trivial rfl rfl rfl R z wd.size (λb D E _=>wd.keep b D E) K rfl (λa=>by cases a<;>exact Iff.rfl) J (λa H=>by
  cases a with
  |main=>exact absurd rfl H
  |dN j=>rfl
  |eu=>rfl) g.frame.fn g.frame.place (λj o=>.inl o) (λj o=>⟨o,bR⟩) (λe=>⟨e,bR⟩) id
 exact .go (G.hE aN v) aC _ _ c M y a bw (Q true) rfl rfl rfl rfl B (λi _=>C i) ⟨w,ok⟩ (by have:=w.le;omega) rfl rfl rfl
def M3{aB:bX}(g:aB.s=G.s)(f:aB.cy=G.cy)(d:bp.k=c.k)(hp:lh aB.l=lh G.l):iB aB bp=iB G c:=by funext k;unfold iB;rw[g,f,d,hp]
def y8(g:Base Z G u t)(h:G.l<=28)(k:Bool):(G.s k).da=false:=by
 have:=g.b9.cnt;have f:dF G.l=0:=by unfold dF;rw[if_pos h]
 rw[f]at this;rcases c:(G.s false).da with _|_<;>rcases d:(G.s true).da with _|_<;>rw[c,d]at this<;>simp at this
 cases k<;>assumption
def No{l:Nat}(h:l<=28):lh l=false:=by unfold lh;rw[decide_eq_false U,decide_eq_false U];rfl
def vZ{aB:bX}(i:∀k,(aB.s k).da=false)(g:aB.l<=28)(c:bp.T=Z.z.T/\bp.O=Z.O/\bp.ch=Z.ch/\bp.cg=Z.cg/\bp.W=Z.W/\bp.bc=Z.bc)(f:aB.l<=26->b7=lf bp aB.l)(d:b7[2]?=some (true,bp.O,.cells #[dg,dg] 22 (0,0))):lR Z aB bp b7:=by
 have e:∀k,iB aB bp k=dg:=λk=>by unfold iB;rw[i k];rfl
 refine⟨c,f,?_,(λh=>by rw[No g]at h;cases h),U⟩;rw[e,e,d,c.2.1]
def vY{aB:bX}(f:Base Z G u t)(h:G.l<=28)(j:aB.s=G.s)(i:aB.l<=28)(c:bp.T=Z.z.T/\bp.O=Z.O/\bp.ch=Z.ch/\bp.cg=Z.cg/\bp.W=Z.W/\bp.bc=Z.bc)(g:aB.l<=26->b7=lf bp aB.l)(d:b7[2]?=some (true,bp.O,.cells #[dg,dg] 22 (0,0))):lR Z aB bp b7:=
 vZ (λk=>by rw[j];exact y8 f h k) i c g d
def zI{aB:bX}(h:lR Z G c M)(g:aB.s=G.s)(f:aB.cy=G.cy)(d:bp.k=c.k)(r:bp.r=c.r)(q:bp.T=c.T/\bp.O=c.O/\bp.ch=c.ch/\bp.cg=c.cg/\bp.W=c.W/\bp.bc=c.bc)(u:26<aB.l/\aB.l<=40)(hp:lh aB.l=lh G.l)(p:b7[2]?=M[2]?):lR Z aB bp b7:=by
 obtain⟨i,j,l,m,n,o⟩:=q;refine⟨by rw[i,j,l,m,n,o];exact h.cfg,λe=>U,?_,λe=>?_,u.2⟩
 .rw[p,M3 g f d hp];exact h.out
 .rw[hp]at e
  rw[g,f,d,r];exact h.pend e
def Nx{M:Mem}{l:List gZ}(h:(prun M l).isSome=true)(c:∀x∈l,∀i o v,x=.st i o v->i≠2):(c0 M l)[2]?=M[2]?:=by
 have key:∀(l:List gZ) (M:Mem) r,prun M l=some r->(∀x∈l,∀i o v,x=.st i o v->i≠2)->r.2.2[2]?=M[2]?:=by
  intro l;induction l with
  |nil=>intro M r h _;cases h;rfl
  |cons x l g=>
   intro M r h c;have f:∀y∈l,∀i o v,y=.st i o v->i≠2:=λy m=>c y (List.mem_cons_of_mem _ m)
   cases x with
   |ld i o=>
    unfold prun at h;split at h
    .split at h
     .obtain⟨q,d,rfl⟩:=Option.map_eq_some_iff.1 h
      exact g M q d f
     .cases h
    .cases h
   |st i o v=>
    have j:=c _ List.mem_cons_self i o v rfl;unfold prun at h;split at h
    .split at h
     .obtain⟨q,d,rfl⟩:=Option.map_eq_some_iff.1 h
      have:=g _ q d f;rw[List.getElem?_set_ne j]at this;exact this
     .cases h
    .cases h
 exact key l M _ (xp h) c
def o8(Z:Stat){l:Nat}{to:eY}(d:At (hP Z) a ⟨l,c,M⟩ x)(he:(hP Z).cz ⟨l,c,M⟩ = [.bL ops to]):(prun M ops).isSome=true:=by obtain⟨y,_,h,_⟩:=d.bL (po Z) (ops:=ops) (to:=to) (by rw[he];exact .head _);have h:prun M ops=some _:=h;rw[h];rfl
def Gj{aB:bX}(h:lR Z G c M)(hp:(prun M [.st 2 (p7 c.k) (four c.r)]).isSome=true)(m:aB.s=G.s)(l:aB.cy=G.cy)(q:26<aB.l/\aB.l<=40)(p:lh G.l=true)(j:lh aB.l=false):lR Z aB c (c0 M [.st 2 (p7 c.k) (four c.r)]):=by
 obtain⟨n,o⟩:=h.pend p;refine⟨h.cfg,λe=>U,?_,(λe=>by rw[j]at e;cases e),q.2⟩;have i:=h.out;have e:c0 M [.st 2 (p7 c.k) (four c.r)]=M.set 2 (true,Z.O,.cells ((#[iB G c false,iB G c true]:Array Value).setIfInBounds (p7 c.k) (four c.r)) 22 (0,0)):=by
  have u:p7 c.k<(#[iB G c false,iB G c true]:Array Value).size:=by cases c.k<;>simp[p7]
  unfold c0 prun;rw[i];simp only[if_pos u];rfl
 have r:2<M.length:=(List.getElem?_eq_some_iff.1 i).1;rw[e,List.getElem?_set_self r];have f:∀k,k≠c.k->iB aB c k=iB G c k:=λk d=>by
  have:(c.k == k)=false:=by simp[Ne.symm d]
  unfold iB;rw[m,l,this];simp
 have g:iB aB c c.k=four c.r:=by unfold iB;rw[m,l,j,n,<-o];rfl
 cases d:c.k with
 |false=>
  rw[d]at g f;rw[g,f true aF];rfl
 |true=>
  rw[d]at g f;rw[g,f false aF];rfl
def kJ{l aN:Nat}(h:(decide (24<=aN)=decide (24<=l)/\decide (aN<26)=decide (l<26)/\decide (aN<27)=decide (l<27))/\17<=aN/\dF aN=dF l/\j1 aN=j1 l):rS l aN:=
 ⟨decide_eq_decide.1 h.1.1,decide_eq_decide.1 h.1.2.1,decide_eq_decide.1 h.1.2.2,h.2.1,h.2.2.1,h.2.2.2⟩
def GJ{M N:Mem}{z:Bool×Nat×Obj}(h:M[2]?=some z):(M++N)[2]?=M[2]?:=jz (List.getElem?_eq_some_iff.1 h).1
def L3(f:Base Z G u t)(h:jl Z G g u c M x n j):qz Z G g u t (n*500+j):=by
 rcases h.at_.quiet (po Z)with⟨a,m,d⟩|⟨y,bw,Q,K,J⟩
 case inr=>
  exact .go G u [] (bW y Z.base) c M y n bw (J true u) rfl rfl rfl rfl (by
   have:t++MemOp.ofEvents 0 g.frame.fn g.frame.place ([]:List Event).toArray=t:=by rw[ofEvents_eq];simp
   rw[this];exact f) (λi _=>e0.at Z G i f.ww u.drawn) ⟨K,h.ok⟩ U rfl rfl rfl
 have ok:=h.ok;have R:=f.b9.bY;have P:=ok.lim;have H:=Word.refl Z u;have C:=f.ww.T;have D:=f.ww.W;have p:c.W=Z.W:=ok.cfg.2.2.2.2.1;have hW:∀{b:Nat},b=Z.W->u.shape? b=some oo:=λe=>by rw[e];exact f.ww.ny
 have q:=f.b9;have early:∀{aN:Nat} {v:Int} {b7:Mem} {bp:fR},G.l<=28->aN<=28->(bp.T=Z.z.T/\bp.O=Z.O/\bp.ch=Z.ch/\bp.cg=Z.cg/\bp.W=Z.W/\bp.bc=Z.bc)->(aN<=26->b7=lf bp aN)->b7[2]?=some (true,bp.O,.cells #[dg,dg] 22 (0,0))->∀n,lR Z ((G.grow n 0).hE aN v) bp b7:=λr w z B I n=>vY f r rfl w z B I
 have late:∀{aN:Nat} {v:Int} {ops:List gZ},(prun M ops).isSome=true->(∀x∈ops,∀i o v,x=.st i o v->i≠2)->26<aN/\aN<=40->lh aN=lh G.l->∀n,lR Z ((G.grow n 0).hE aN v) c (c0 M ops):=λr w z B n=>zI ok rfl rfl rfl rfl ⟨rfl,rfl,rfl,rfl,rfl,rfl⟩ z B (Nx r w)
 have aj:G.l=17\/G.l=18\/G.l=19\/G.l=20\/G.l=21\/G.l=22\/G.l=23\/G.l=24\/G.l=27\/G.l=29\/G.l=30\/G.l=31\/G.l=32\/G.l=33\/G.l=35\/G.l=36\/G.l=37\/G.l=38\/G.l=39\/(G.l=25\/G.l=26\/G.l=28\/G.l=34\/G.l=40):=U;rcases aj with aj|aj|aj|aj|aj|aj|aj|aj|aj|aj|aj|aj|aj|aj|aj|aj|aj|aj|aj|aj
 .rw[aj]at d
  have l:=ok.early U;rw[aj]at l;subst l;exact mD f aj h m d (aN:=18) rfl (kJ a6) (early U a6 ok.cfg (λ_=>rfl) rfl _)
 .rw[aj]at d
  have l:=ok.early U;rw[aj]at l;subst l;exact w0 f aj h m d (aN:=19) bI rfl (kJ a6) (early (aN:=19) (bp:={c with jC:=u.heap.size}) (b7:=lf {c with jC:=u.heap.size} 19) U a6 ok.cfg (λ_=>rfl) rfl _)
 .rw[aj]at d
  have l:=ok.early U;rw[aj]at l;subst l;exact w0 f aj h m d (aN:=20) bI rfl (kJ a6) (early (aN:=20) (bp:={c with jP:=u.heap.size}) (b7:=lf {c with jP:=u.heap.size} 20) U a6 ok.cfg (λ_=>rfl) rfl _)
 .rw[aj]at d
  have l:=ok.early U;rw[aj]at l;subst l;exact mD f aj h m d (aN:=21) rfl (kJ a6) (early U a6 ok.cfg (λ_=>rfl) rfl _)
 .rw[aj]at d
  have l:=ok.early U;rw[aj]at l;subst l;exact mD f aj h m d (aN:=22) rfl (kJ a6) (early U a6 ok.cfg (λ_=>rfl) rfl _)
 .rw[aj]at d
  have l:=ok.early U;rw[aj]at l;subst l;have wg:=q.wg;rw[aj]at wg;exact zP f aj h m d (aN:=23) bI (.mark (.mark (.nil _))) H C D wg a6 rfl (iS qT) rfl (vY f U rfl (show(23:Nat)<=28 by decide) ok.cfg (λ_=>rfl) rfl)
 .rw[aj]at d
  have l:=ok.early U;rw[aj]at l;subst l;have wg:=q.wg;rw[aj]at wg;obtain⟨F,L⟩:=R9 wg;have E:∀{wr:Bool},iv Z u.heap.size ⟨.cell ⟨c.W,0,none⟩,wr,true⟩:=λ{wr}=>by rw[p];exact .wg
  exact zP f aj h m d (aN:=24) (v:=8589934592) bI (.mark (.load (by rw[p];exact f.ww.gH F) (.store (by rw[p];exact f.ww.gH F) (by rw[p];exact f.ww.pS 0) (.nil _)))) (Word.set 0 _ (.inr p)) (by rw[p];exact Word.fo f 0 _) (by rw[p];exact Word.d' f rfl) L a6 rfl (lo E (iS E)) rfl (vY f U rfl (show(24:Nat)<=28 by decide) ok.cfg (λ_=>rfl) rfl)
 .rw[aj]at d
  have l:=ok.early U;rw[aj]at l;subst l;have wg:=q.wg;rw[aj]at wg;exact zP f aj h m d (aN:=25) bI (.mark (.mark (.nil _))) H C D wg a6 rfl (iS qV) rfl (vY f U rfl (show(25:Nat)<=28 by decide) ok.cfg (λ_=>rfl) rfl)
 .rw[aj]at d
  exact mD f aj h m d (aN:=28) rfl (kJ a6) (late (o8 Z d rfl) aF a6 (by rw[aj];rfl) _)
 .rw[aj]at d
  exact w0 f aj h m d (aN:=30) bI rfl (kJ a6) (zI ok rfl rfl rfl rfl ⟨rfl,rfl,rfl,rfl,rfl,rfl⟩ (by decide:26<30/\30<=40) (by rw[aj];rfl) (GJ ok.out))
 .rw[aj]at d
  exact mD f aj h m d (aN:=31) rfl (kJ a6) (late (o8 Z d rfl) aF a6 (by rw[aj];rfl) _)
 .rw[aj]at d
  exact mD f aj h m d (aN:=32) rfl (kJ a6) (late (o8 Z d rfl) aF a6 (by rw[aj];rfl) _)
 .rw[aj]at d
  exact mD f aj h m d (aN:=33) rfl (kJ a6) (late (o8 Z d rfl) aF a6 (by rw[aj];rfl) _)
 .rw[aj]at d
  exact mD f aj h m d (aN:=34) rfl (kJ a6) (Gj ok (o8 Z d rfl) rfl rfl (by decide:26<34/\34<=40) (by rw[aj];rfl) rfl)
 .rw[aj]at d
  exact w0 f aj h m d (aN:=36) bI rfl (kJ a6) (zI ok rfl rfl rfl rfl ⟨rfl,rfl,rfl,rfl,rfl,rfl⟩ (by decide:26<36/\36<=40) (by rw[aj];rfl) (GJ ok.out))
 .rw[aj]at d
  exact mD f aj h m d (aN:=37) rfl (kJ a6) (late (o8 Z d rfl) aF a6 (by rw[aj];rfl) _)
 .rw[aj]at d
  exact mD f aj h m d (aN:=38) rfl (kJ a6) (late (o8 Z d rfl) aF a6 (by rw[aj];rfl) _)
 .rw[aj]at d
  exact mD f aj h m d (aN:=39) rfl (kJ a6) (late (o8 Z d rfl) aF a6 (by rw[aj];rfl) _)
 .rw[aj]at d
  exact mD f aj h m d (aN:=40) rfl (kJ a6) (Gj ok (o8 Z d rfl) rfl rfl (by decide:26<40/\40<=40) (by rw[aj];rfl) rfl)
 .exact .stop c M x n j a aj h d m rfl
end
end Go.aO
