/- A part. -/
import Derived.Test.YtoebddanaobpaaaGreatDoorP9
import Derived.Conc.CrowdComm
set_option maxHeartbeats 8000000
set_option maxRecDepth 100000
set_option linter.all false
namespace Go.aO
attribute [-simp] Go.Sem.runT_eq
open Go.Proofs Tryz Go.Conc Go.ConcN
variable{m:Int}{M:Mem}{x y:MemOp}{cap j o s:Nat}{f:TC->TC}{es:TE}{fH wk:Ta}{an:Tb dO}{ops:Tb gZ}{c:fR}{p:gO}
section
variable{X:et}{Z:Stat}[hi X Z]{G aB:bX}{u aC w:S7}{t bh:Tt}{k:Ta}{g g':TC}{s aX:ck}{bb:Ta}{x y:bA}{n j c9 bw l aN a:Nat}{rem lk:TA}{M b7:Mem}
noncomputable abbrev iL(z:eG):de rM:=vO z
def tq(z:eG):dn (iL z).P (iL z).ext:=by unfold iL vO;exact j8
def t'(z:eG)(p:rM):(iL z).dh p<=400:=bg
def yd:(⟨.dB l,bb⟩:ck).c≠.un:=by intro h;cases h
def Cs(h:l<49):(⟨.dB l,false⟩:ck).role=.I:=Tq h
def OE(h:l<49)(c:aN<49):g7 ⟨.dB l,false⟩ ⟨.dB aN,false⟩:=⟨(Cs c).trans (Cs h).symm,S6,S6,S6,id,⟨bR,bR⟩⟩
def vP{bz:Tb TL}(j:Base Z G u t)(D:G.s k=⟨.dB l,false⟩)(c:h0)(bq:Nat)(r:∀b f,c.ρ.r b f->f<bq)(q:∀(i:Nat) own b o,c.M[i]?=some (own,b,o)->b<bq)(z:bq<=u.heap.size)(h:c.Ok X Z G k 4 u)(m:Acc (dZ X.Q) c.V)(p:l<49/\aN<49)(E:stepG aK false g u=.go (bW y c.ja) aC bz.toArray)(calm:Calm u aC)(keep:∀b,b<u.heap.size->aC.heap[b]?≠u.heap[b]?->gY Z G (Z.wk k) b/\bq<=b)(cI:∀e∈bz,lx Z (G.gk u Z k ⟨.dB aN,false⟩) t (Z.wk k) aC.heap.size e)(ok:pO aN lk=true)(w:∀(i:Nat) b o,b7[i]?=some (true,b,o)->bq<=b)(F:cB (iL Z.z) Z (G.gk u Z k ⟨.dB aN,false⟩) (Z.wk k) ⟨aN,lk,b7⟩ c.ja y (bW y c.ja) aC c9 bw)(B:c9*500+bw<n):
 cZ X Z G k g u t (2,⟨c.V,m⟩,(c.nr*500+450)*10000000000+(c.bZ*500+450)*100000+n):=by
 have H:jV Z G (G.gk u Z k ⟨.dB aN,false⟩) (Z.wk k) bq u aC:=qe j calm keep (λb d=>Tq d) S6;exact cZ.l3 (aX:=⟨.dB aN,false⟩) j D yd (OE p.1 p.2) E S6 calm (λb d C=>(keep b d C).1) cI (bR)
  (.dB c bq ok w r q (cL z calm.size) (h.rely (dP:=G.gk u Z k ⟨.dB aN,false⟩) S6 H r q) m F) (eQ.last (qM _ _ _ B))
def eV(w:Base Z G u t)(K:G.s k=⟨.dB l,false⟩)(c:h0)(bq:Nat)(m:∀(i:Nat) b o,M[i]?=some (true,b,o)->bq<=b)(H:∀b d,c.ρ.r b d->d<bq)(F:∀(i:Nat) own b o,c.M[i]?=some (own,b,o)->b<bq)(D:bq<=u.heap.size)(h:c.Ok X Z G k 4 u)(f:Acc (dZ X.Q) c.V)(P:cB (iL Z.z) Z G (Z.wk k) ⟨l,rem,M⟩ c.ja x g u n j)(I:n=a+1)(z:At (iL Z.z) a ⟨l,rem,M⟩ x)(he:Edge.bL ops ⟨aN,lk,b7⟩∈(iL Z.z).cz ⟨l,rem,M⟩)(E:l<49/\aN<49)(ok:pO aN lk=true):
 cZ X Z G k g u t (2,⟨c.V,f⟩,(c.nr*500+450)*10000000000+(c.bZ*500+450)*100000+(n*500+j)):=by
 subst I;let⟨y,aC,bz,bw,p,L,calm,keep,cI,C⟩:=P.bL (aB:=G.gk u Z k ⟨.dB aN,false⟩) (t:=t) (tq _) (t' _) z he (λb=>S6) S6;refine vP w K c bq H F D h f E (L false) calm (λb B J=>?_) cI ok (λi b o e=>?_) p (by have:=p.le;omega)
 .let⟨r,i,o,e⟩:=keep b B J
  exact⟨r,m i b o e⟩
 .let⟨Q,q⟩:=C i true b o e
  exact m i b Q q
def yX(d:Base Z G u t)(J:G.s k=⟨.dB l,false⟩)(c:h0)(bq:Nat)(C:∀(i:Nat) b o,M[i]?=some (true,b,o)->bq<=b)(F:∀b m,c.ρ.r b m->m<bq)(E:∀(i:Nat) own b o,c.M[i]?=some (own,b,o)->b<bq)(r:bq<=u.heap.size)(h:c.Ok X Z G k 4 u)(p:Acc (dZ X.Q) c.V)(L:cB (iL Z.z) Z G (Z.wk k) ⟨l,rem,M⟩ c.ja x g u n j)(H:n=a+1)(z:At (iL Z.z) a ⟨l,rem,M⟩ x){o:Obj}{to:Nat->rM}(he:Edge.new true o to∈(iL Z.z).cz ⟨l,rem,M⟩)(P:to u.heap.size=⟨aN,[],M++[(true,u.heap.size,o)]⟩)(D:l<49/\aN<49)(ok:pO aN []=true):
 cZ X Z G k g u t (2,⟨c.V,p⟩,(c.nr*500+450)*10000000000+(c.bZ*500+450)*100000+(n*500+j)):=by
 subst H;let⟨y,aC,bw,f,K,calm,keep,R⟩:=L.z2 (aB:=G.gk u Z k ⟨.dB aN,false⟩) (tq _) (t' _) z he (λb=>S6) S6 d.oc d.fv;rw[P]at f;refine vP (bz:=[]) d J c bq F E r h p D (K false) calm (λb B I=>Td (keep b B) I) (λe he=>(by cases he)) ok (λi b Q e=>?_) f (by have:=f.le;omega);rcases Ub i M.length with ad|ad
 .rw[jz ad]at e
  exact C i b Q e
 .rw[jb ad]at e
  rcases w:i-M.length with _|q
  .rw[w]at e
   simp at e;rw[<-e.1];exact r
  .rw[w]at e;simp at e
def Cv(d:Base Z G u t)(J:G.s k=⟨.dB l,false⟩)(c:h0)(bq:Nat)(z:∀(i:Nat) b o,M[i]?=some (true,b,o)->bq<=b)(E:∀b m,c.ρ.r b m->m<bq)(D:∀(i:Nat) own b o,c.M[i]?=some (own,b,o)->b<bq)(B:bq<=u.heap.size)(h:c.Ok X Z G k 4 u)(p:Acc (dZ X.Q) c.V)(f:cB (iL Z.z) Z G (Z.wk k) ⟨l,rem,M⟩ c.ja x g u n j)(F:n=a+1)(w:At (iL Z.z) a ⟨l,rem,M⟩ x){v:S9}(I:o<4)(he:Edge.fix false false [.val v] [.load .plain (S8 Z.z.T o) v] ⟨aN,[],M⟩∈(iL Z.z).cz ⟨l,rem,M⟩)(L:u.cell? (S8 Z.z.T o)=some v)(C:l<49/\aN<49)(ok:pO aN []=true):
 cZ X Z G k g u t (2,⟨c.V,p⟩,(c.nr*500+450)*10000000000+(c.bZ*500+450)*100000+(n*500+j)):=by
 subst F;have r:=kN d k ⟨.dB aN,false⟩ u.heap.size u.drawn;let⟨y,bw,q,_,K⟩:=f.mr (aB:=G.gk u Z k ⟨.dB aN,false⟩) (tq _) (t' _) w he (.load L (.nil _)) ⟨f.mem,f.own.rely f.mem r⟩;refine vP (bz:=[⟨.cell (S8 Z.z.T o),false,false⟩]) d J c bq E D B h p C (K false) (Calm.refl u) (λb P H=>Td S6 H) (λe he=>?_) ok z q (by have:=q.le;omega);rw[ev he];exact .mem S6 d.fv.1 bR ⟨d.ap.bM,d.ap.rC⟩ (λ_=>.inr ⟨o,S6,I⟩) (.inr ⟨.inl (d.iA.ro k _ (.inl S6)),S6⟩)
def KD(r:TA):(r.filter (· < 3)).all (· < 3)=true:=by rw[Un];intro a c;exact(List.mem_filter.1 c).2
def IU(m:Base Z G u t)(H:G.s k=⟨.dB 47,false⟩)(c:h0)(bq:Nat)(z:∀(i:Nat) b o,M[i]?=some (true,b,o)->bq<=b)(D:∀b l,c.ρ.r b l->l<bq)(C:∀(i:Nat) own b o,c.M[i]?=some (own,b,o)->b<bq)(B:bq<=u.heap.size)(h:c.Ok X Z G k 4 u)(p:Acc (dZ X.Q) c.V)(f:cB (iL Z.z) Z G (Z.wk k) ⟨47,rem,M⟩ c.ja x g u n j)(E:n=a+1)(w:At (iL Z.z) a ⟨47,rem,M⟩ x):
 cZ X Z G k g u t (2,⟨c.V,p⟩,(c.nr*500+450)*10000000000+(c.bZ*500+450)*100000+(n*500+j)):=by
 subst E;let⟨q,y,bw,J,d,I⟩:=f.xi (tq _) (t' _) w (to:=λr=>⟨48,r.filter (· < 3),M⟩) bI;have r:=kN m k ⟨.dB 48,false⟩ u.heap.size (u.drawn+1);exact vP (aN:=48) (bz:=[]) m H c bq D C B h p a6 (I false) (Calm.at u _) (λb K F=>Td S6 F) (λe he=>(by cases he)) (KD q) z ⟨d.on,d.le,S6,S6,S6,d.mem,f.own.rely f.mem r⟩ (by have:=d.le;omega)
def IQ(d:Base Z G u t)(m:G.s k=⟨.dB 49,false⟩)(c:h0)(h:c.Ok X Z G k 4 u)(f:Acc (dZ X.Q) c.V)(q:cB (iL Z.z) Z G (Z.wk k) ⟨49,rem,M⟩ c.ja x g u n j)(i:At (iL Z.z) a ⟨49,rem,M⟩ x):
 cZ X Z G k g u t (2,⟨c.V,f⟩,(c.nr*500+450)*10000000000+(c.bZ*500+450)*100000+(n*500+j)):=by
 let⟨w,o⟩:=i.leave bI;have r:=kN d k ⟨.dG 4,false⟩ u.heap.size u.drawn;have p:stepG aK false g u=.go (Tk (c.j7.1.finish unit) (c.j7.2++c.lj)) u:=by obtain⟨st,off,rfl⟩:=q.shape;have:=o false st off c.j7.1 (c.j7.2++c.lj) u (uu h.run);rw[w];exact this
 exact cZ.still (aX:=⟨.dG 4,false⟩) (n:=u.drawn) d m yd ⟨S6,S6,S6,S6,(bR),⟨bR,bR⟩⟩ p S6
  (.dG (l:=4) c.toRCtx S6 (λ_ _=>S6) (h.r.rely (dP:=G.gk u Z k ⟨.dG 4,false⟩) S6 r h.r.l.heap.floor h.k2) f ⟨h.on,bg,S6,S6,S6,lY _,l6 _ _ _⟩) (eQ.last (by have:=tN ((c.nr*500+450)*10000000000) (c.bZ*500+400) (c.bZ*500+450) U;exact gu this (Nat.le_add_right _ _)))
def Kk{i B:Nat}(f:13<=o)(d:Z.z.T<B)(ee:eX Z G=.written i):vq Z G t i B ⟨.cell (S8 Z.z.T o),true,false⟩:=by
 refine⟨d,λb c _=>?_,λe=>?_⟩
 .have c:some (⟨.cell ⟨Z.z.T,o,none⟩,true,.plain⟩:Touch)=some b:=c
  rw[<-bD c];exact .inr ⟨⟨o,S6,f⟩,.inl ee⟩
 .have e:(Loc.cell ⟨Z.z.T,o,none⟩)=.cell ⟨Z.z.T,4,none⟩:=e
  injection e with e
  injection e with _ e
  omega
def tV{w w':S7}{b:Nat}{c:Te}{e:Tg}{v:S9}{l:Tb cD}(h:w.heap[b]?=some (.cells c e (0,0)))(d:o<c.size)(k:Does (w.setCell (S8 b o) v) l w' es):Does w (.store .plain (S8 b o) v::l) w' (#[⟨.cell (S8 b o),true,false⟩]++es):=
 .store (x:=c[o]) (by rw[aU h];simp[d]) (b3 h) k
def u1(T:Nat):Tb TL:=[⟨.cell (S8 T 13),true,false⟩,⟨.cell (S8 T 14),true,false⟩,⟨.cell (S8 T 15),true,false⟩,⟨.cell (S8 T 16),true,false⟩,⟨.cell (S8 T 17),true,false⟩]
def QW(T:Nat):hZ false (cI (ua true T))=u1 T:=S6
def QZ(z:eG)(mu ms:Int)(aY:Ta):(((((eN z mu ms aY false).setIfInBounds 13 (ah 1)).setIfInBounds 14 (ah 1)).setIfInBounds 15 (ah 3)).setIfInBounds 16 (ah 0)).setIfInBounds 17 (ah 3)=eN z mu ms aY true:=by simp[eN,kP]
def IW(f:Base Z G u t)(p:G.s k=⟨.dB 48,false⟩)(c:h0)(bq:Nat)(aj:∀(i:Nat) b o,M[i]?=some (true,b,o)->bq<=b)(ao:∀b P,c.ρ.r b P->P<bq)(am:∀(i:Nat) own b o,c.M[i]?=some (own,b,o)->b<bq)(ak:bq<=u.heap.size)(h:c.Ok X Z G k 4 u)(C:Acc (dZ X.Q) c.V)(z:cB (iL Z.z) Z G (Z.wk k) ⟨48,[],M⟩ c.ja x g u n j)(ap:n=a+1)(af:At (iL Z.z) a ⟨48,[],M⟩ x):
 cZ X Z G k g u t (2,⟨c.V,C⟩,(c.nr*500+450)*10000000000+(c.bZ*500+450)*100000+(n*500+j)):=by
 subst ap;have D:=f.b9.side k;rw[p]at D;have D:cO .I (G.s (!k)).role G.mu G.ms G.aY G.bc:=D;let⟨E,au,m,F⟩:=cO.write D;have aq:∀j,(G.s j).eC=false:=λj=>by
  rcases d:(G.s j).eC with _|_
  .rfl
  .rw[f.b9.eC j d]at E;cases E
 have e:∀j,(G.wk k ⟨.dB 49,false⟩ G.mu G.ms G.aY true G.v G.m).s j=if j=k then⟨.dB 49,false⟩else G.s j:=λ_=>S6
 have H:=f.ww.T;rw[au]at H;have b6:∀{c:Te},c.size=28->∀o v,(c.setIfInBounds o v).size=28:=λh o v=>by simpa using h
 have z0:=xZ Z.z G.mu G.ms G.aY false;have I:=cU (o:=13) (v:=ah 1) H;have J:=cU (o:=14) (v:=ah 1) I;have K:=cU (o:=15) (v:=ah 3) J;have L:=cU (o:=16) (v:=ah 0) K;have B:=cU (o:=17) (v:=ah 3) L;have hd:=tV (v:=ah 1) H (by rw[z0];decide:13<_) (tV (v:=ah 1) I (by rw[b6 z0];decide:14<_) (tV (v:=ah 3) J (by rw[b6 (b6 z0 _ _)];decide:15<_) (tV (v:=ah 0) K (by rw[b6 (b6 (b6 z0 _ _) _ _)];decide:16<_) (tV (v:=ah 3) L (by rw[b6 (b6 (b6 (b6 z0 _ _) _ _) _ _)];decide:17<_) (.nil _)))));have wd:Word Z u (((((u.setCell (S8 Z.z.T 13) (ah 1)).setCell (S8 Z.z.T 14) (ah 1)).setCell (S8 Z.z.T 15) (ah 3)).setCell (S8 Z.z.T 16) (ah 0)).setCell (S8 Z.z.T 17) (ah 3)):=
  (((((Word.refl Z u).trans (Word.set 13 _ (.inl rfl))).trans (Word.set 14 _ (.inl rfl))).trans (Word.set 15 _ (.inl rfl))).trans (Word.set 16 _ (.inl rfl))).trans (Word.set 17 _ (.inl rfl))
 rw[QZ]at B;generalize aw:((((u.setCell (S8 Z.z.T 13) (ah 1)).setCell (S8 Z.z.T 14) (ah 1)).setCell (S8 Z.z.T 15) (ah 3)).setCell (S8 Z.z.T 16) (ah 0)).setCell (S8 Z.z.T 17) (ah 3)=aC at hd wd B;have hW:aC.heap[Z.W]?=some (.cells #[.int .u64 G.v,.int .u32 G.m] 208 (0,0)):=by
  have q:∀(w:S7) o v,(w.setCell (S8 Z.z.T o) v).heap[Z.W]?=w.heap[Z.W]?:=λw o v=>e1 (a:=(S8 Z.z.T o)) (TT f.ap.bM)
  rw[<-aw,q,q,q,q,q];exact f.ww.W
 have r:=pa f wd B (aB:=G.wk k ⟨.dB 49,false⟩ G.mu G.ms G.aY true G.v G.m) S6 S6 (Z.wk k);let⟨y,bw,S,_,R⟩:=z.mr (aB:=G.wk k ⟨.dB 49,false⟩ G.mu G.ms G.aY true G.v G.m) (to:=⟨49,[],M⟩) (tq _) (t' _) af bI hd ⟨z.mem.rely z.own r z.mem.floor,z.own.rely z.mem r⟩;have U:=f.b9.tn k;rw[p]at U;have un:(⟨.dB 49,false⟩:ck).c=.un↔(⟨.dB 48,false⟩:ck).c=.un:=⟨bR,bR⟩
 have W:=f.b9.wk p (aX:=⟨.dB 49,false⟩) F U bR S6 un bR id;have V:ea Z (G.wk k ⟨.dB 49,false⟩ G.mu G.ms G.aY true G.v G.m) aC:=ea.of f wd B hW S6 S6;have ai:∀a:eF,a.ig (G.wk k ⟨.dB 49,false⟩ G.mu G.ms G.aY true G.v G.m)↔a.ig G:=by
  intro a;cases a with
  |main=>exact T4
  |dN j=>
   show((G.wk k ⟨.dB 49,false⟩ G.mu G.ms G.aY true G.v G.m).s j).c≠.un↔(G.s j).c≠.un;rw[e];split
   .rename_i d;subst d;rw[p];exact not_congr un
   .exact T4
  |eu=>exact T4
 have az:eX Z G=.fresh:=by
  unfold eX;rw[E];cases k with
  |false=>
   have m:(G.s true).role.gC=false:=m;rw[p,m];rfl
  |true=>
   have m:(G.s false).role.gC=false:=m;rw[m,p];rfl
 have T:eX Z (G.wk k ⟨.dB 49,false⟩ G.mu G.ms G.aY true G.v G.m)=.written (Z.wk k):=by
  unfold eX;rw[e,e];show(if G.aY then _ else _)=_;rw[E];cases k with
  |false=>rfl
  |true=>
   have m:(G.s false).role.gC=false:=m;simp[m];rfl
 have Y:Apart Z (G.wk k ⟨.dB 49,false⟩ G.mu G.ms G.aY true G.v G.m):=f.ap.same S6 S6;have rg:Grow G (G.wk k ⟨.dB 49,false⟩ G.mu G.ms G.aY true G.v G.m) u.heap.size:=⟨λb _=>S6,S6⟩
 have av:fp (pl Z (G.wk k ⟨.dB 49,false⟩ G.mu G.ms G.aY true G.v G.m)) t (eX Z (G.wk k ⟨.dB 49,false⟩ G.mu G.ms G.aY true G.v G.m)) u.heap.size:=by have:=f.dy.dy;rw[az]at this;rw[T];exact(this.begin _).oa rg
 have Q:∀e∈u1 Z.z.T,∃o,13<=o/\e=⟨.cell (S8 Z.z.T o),true,false⟩:=λe he=>by simp only[u1,T7,iN,or_false]at he;rcases he with rfl|rfl|rfl|rfl|rfl<;>exact⟨_,a6,S6⟩
 have ay:e5 Z (G.wk k ⟨.dB 49,false⟩ G.mu G.ms G.aY true G.v G.m) (t++MemOp.ofEvents (Z.wk k) g.frame.fn g.frame.place (u1 Z.z.T).toArray) u.heap.size:=by
  refine e5.app (l:=u1 Z.z.T) Y f.dy rg bg (.dN k) (by show(G.s k).c≠.un;rw[p];exact yd) av (λe he=>?_) ai ?_ (λa C=>?_) (λj d=>?_) (λ_ _ _ _ _ _ j=>?_) (λj d=>?_) (λd=>⟨d,bR⟩) (λbz he b ag ar=>?_) id
  .obtain⟨o,F,rfl⟩:=Q e he
   exact Kk F f.fv.1 T
  .show(((G.wk k ⟨.dB 49,false⟩ G.mu G.ms G.aY true G.v G.m).s k).deaf)=deafBehind (G.s k).deaf _
   rw[e,Tq S6,p];rfl
  .cases a with
   |main=>rfl
   |dN j=>
    show((G.wk k ⟨.dB 49,false⟩ G.mu G.ms G.aY true G.v G.m).s j).deaf=(G.s j).deaf;rw[e,Tm (λd=>C (by rw[d]))]
   |eu=>rfl
  .rw[e]at d
   split at d
   .cases d
   .exact .inl d
  .rw[e]
   split
   .rfl
   .exact aq j
  .rw[e]at d
   split at d
   .cases d
   .rename_i al
    exact⟨d,λax=>by cases ax;exact Td S6 al⟩
  .obtain⟨o,F,rfl⟩:=Q bz he
   cases ag;cases ar
 have aa:Base Z (G.wk k ⟨.dB 49,false⟩ G.mu G.ms G.aY true G.v G.m) _ _:=f.rest S6 S6 S6 wd.size V W (by rw[wd.size];exact ay);rw[QW]at R;exact .go (G.wk k ⟨.dB 49,false⟩ G.mu G.ms G.aY true G.v G.m) ⟨.dB 49,false⟩ _ _ _ _ (R false) S6 S6 S6 S6 S6 aa (λi _=>e0.same (aB:=G.wk k ⟨.dB 49,false⟩ G.mu G.ms G.aY true G.v G.m) S6 S6 wd.size (λb ad ae _=>wd.keep b ad ae) V)
  (.dB (l:=49) (rem:=[]) c bq S6 aj ao am (by rw[wd.size];exact ak) (h.rely (dP:=G.wk k ⟨.dB 49,false⟩ G.mu G.ms G.aY true G.v G.m) S6 r h.r.l.heap.floor h.k2) C S) (eQ.last (qM _ _ ((a+1)*500+j) (by have:=S.le;omega))) S6 (.inl S6) (.inl S6)
def IM(f:Base Z G u t)(z:G.s k=⟨.dB 48,false⟩)(c:h0)(bq:Nat)(ok:pO 48 rem=true)(m:∀(i:Nat) b o,M[i]?=some (true,b,o)->bq<=b)(w:∀b D,c.ρ.r b D->D<bq)(q:∀(i:Nat) own b o,c.M[i]?=some (own,b,o)->b<bq)(p:bq<=u.heap.size)(h:c.Ok X Z G k 4 u)(d:Acc (dZ X.Q) c.V)(B:cB (iL Z.z) Z G (Z.wk k) ⟨48,rem,M⟩ c.ja x g u n j)(y:n=a+1)(l:At (iL Z.z) a ⟨48,rem,M⟩ x):
 cZ X Z G k g u t (2,⟨c.V,d⟩,(c.nr*500+450)*10000000000+(c.bZ*500+450)*100000+(n*500+j)):=by
 rcases rem with _|⟨b,r⟩
 .exact IW f z c bq m w q p h d B y l
 .have ok:(b::r).all (· < 3)=true:=ok
  simp only[List.all_cons,TS,decide_eq_true_eq]at ok;obtain⟨E,C⟩:=ok;rcases b with _|_|_|b
  .exact eV f z c bq m w q p h d B y l (aN:=48) (lk:=r) (b7:=M) bI a6 C
  .exact eV f z c bq m w q p h d B y l (aN:=48) (lk:=r) (b7:=M) bI a6 C
  .exact eV f z c bq m w q p h d B y l (aN:=48) (lk:=r) (b7:=M) bI a6 C
  .omega
def IV(f:Base Z G u t)(q:G.s k=⟨.dB l,false⟩)(c:h0)(bq:Nat)(ok:pO l rem=true)(z:∀(i:Nat) b o,M[i]?=some (true,b,o)->bq<=b)(D:∀b H,c.ρ.r b H->H<bq)(C:∀(i:Nat) own b o,c.M[i]?=some (own,b,o)->b<bq)(B:bq<=u.heap.size)(h:c.Ok X Z G k 4 u)(p:Acc (dZ X.Q) c.V)(m:cB (iL Z.z) Z G (Z.wk k) ⟨l,rem,M⟩ c.ja x g u n j):
 cZ X Z G k g u t (2,⟨c.V,p⟩,(c.nr*500+450)*10000000000+(c.bZ*500+450)*100000+(n*500+j)):=by
 rcases m.quiet (tq _)with⟨a,E,w⟩|⟨y,bw,K,F,J⟩
 case inr=>
  have r:=kN f k ⟨.dB l,false⟩ u.heap.size u.drawn;exact cZ.still (aX:=⟨.dB l,false⟩) (n:=u.drawn) f q yd (g7.refl _) (J false u) S6
   (.dB c bq ok z D C B (h.rely (dP:=G.gk u Z k ⟨.dB l,false⟩) S6 r h.r.l.heap.floor h.k2) p ⟨F.on,F.le,S6,S6,S6,F.mem,m.own.rely m.mem r⟩) (eQ.last (qM _ _ _ U))
 have I:l<=49:=by
  unfold pO at ok;split at ok
  .omega
  .exact Uu ok
 have I:l=0\/l=1\/l=2\/l=3\/l=4\/l=5\/l=6\/l=7\/l=8\/l=9\/l=10\/l=11\/l=12\/l=13\/l=14\/l=15\/l=16\/l=17\/l=18\/l=19\/l=20\/l=21\/l=22\/l=23\/l=24\/l=25\/l=26\/l=27\/l=28\/l=29\/l=30\/l=31\/l=32\/l=33\/l=34\/l=35\/l=36\/l=37\/l=38\/l=39\/l=40\/l=41\/l=42\/l=43\/l=44\/l=45\/l=46\/l=47\/l=48\/l=49:=U;have cq:=λ{aN:Nat} {lk:TA} {b7:Mem} {ops:Tb gZ} he b d=>eV (aN:=aN) (lk:=lk) (b7:=b7) (ops:=ops) f q c bq z D C B h p m E w he b d
 rcases I with rfl|rfl|rfl|rfl|rfl|rfl|rfl|rfl|rfl|rfl|rfl|rfl|rfl|rfl|rfl|rfl|rfl|rfl|rfl|rfl|rfl|rfl|rfl|rfl|rfl|rfl|rfl|rfl|rfl|rfl|rfl|rfl|rfl|rfl|rfl|rfl|rfl|rfl|rfl|rfl|rfl|rfl|rfl|rfl|rfl|rfl|rfl|rfl|rfl|rfl
 .exact yX f q c bq z D C B h p m E w (aN:=1) bI S6 a6 S6
 .exact cq (aN:=2) bI a6 S6
 .exact Cv f q c bq z D C B h p m E w (aN:=3) (o:=2) (v:=sl Z.z.R 2) a6 bI (f.ww.r8 (by cases G.bc<;>simp[eN,kP])) a6 S6
 .exact cq (aN:=4) bI a6 S6
 .exact yX f q c bq z D C B h p m E w (aN:=5) bI S6 a6 S6
 .exact cq (aN:=6) bI a6 S6
 .exact cq (aN:=7) bI a6 S6
 .exact cq (aN:=8) bI a6 S6
 .exact cq (aN:=9) bI a6 S6
 .exact cq (aN:=10) bI a6 S6
 .exact cq (aN:=11) bI a6 S6
 .exact cq (aN:=12) bI a6 S6
 .exact cq (aN:=13) bI a6 S6
 .exact cq (aN:=14) bI a6 S6
 .exact cq (aN:=15) bI a6 S6
 .exact cq (aN:=16) bI a6 S6
 .exact cq (aN:=17) bI a6 S6
 .exact cq (aN:=18) bI a6 S6
 .exact cq (aN:=19) bI a6 S6
 .exact cq (aN:=20) bI a6 S6
 .exact cq (aN:=21) bI a6 S6
 .exact cq (aN:=22) bI a6 S6
 .exact cq (aN:=23) bI a6 S6
 .exact cq (aN:=24) bI a6 S6
 .exact cq (aN:=25) bI a6 S6
 .exact cq (aN:=26) bI a6 S6
 .exact cq (aN:=27) bI a6 S6
 .exact cq (aN:=28) bI a6 S6
 .exact yX f q c bq z D C B h p m E w (aN:=29) bI S6 a6 S6
 .exact cq (aN:=30) bI a6 S6
 .exact cq (aN:=31) bI a6 S6
 .exact cq (aN:=32) bI a6 S6
 .exact cq (aN:=33) bI a6 S6
 .exact cq (aN:=34) bI a6 S6
 .exact cq (aN:=35) bI a6 S6
 .exact cq (aN:=36) bI a6 S6
 .exact cq (aN:=37) bI a6 S6
 .exact cq (aN:=38) bI a6 S6
 .exact cq (aN:=39) bI a6 S6
 .exact cq (aN:=40) bI a6 S6
 .exact cq (aN:=41) bI a6 S6
 .exact cq (aN:=42) bI a6 S6
 .exact cq (aN:=43) bI a6 S6
 .exact cq (aN:=44) bI a6 S6
 .exact Cv f q c bq z D C B h p m E w (aN:=45) (o:=3) (v:=sl Z.z.Fr 1) a6 bI (f.ww.r8 (by cases G.bc<;>simp[eN,kP])) a6 S6
 .exact cq (aN:=46) bI a6 S6
 .exact cq (aN:=47) bI a6 S6
 .exact IU f q c bq z D C B h p m E w
 .exact IM f q c bq ok z D C B h p m E w
 .exact IQ f q c h p m w
end
section
variable{X:et}{Z:Stat}[hi X Z]{G aB:bX}{u aC w:S7}{t bh:Tt}{k:Ta}{g g':TC}{s aX:ck}{bb:Ta}{x y:bA}{n j c9 bw l aN a:Nat}{B:Nat}
def Sn{bt:gQ X.Q}(j:Base Z G u t)(o:(G.s k).c≠.un)(F:bt.1≠0)(q:fz X Z G k g u (G.s k) bt):cZ X Z G k g u t bt:=by
 generalize i:G.s k=s at q;cases q with
 |un bb bt=>rw[i]at o;exact Td S6 o
 |gone gA H p=>exact Td S6 F
 |out gA ok h B E p=>exact M4 j i h ⟨ok,E,p⟩ B
 |lift c z w y h d=>subst z;exact LA j i c w y h d
 |fx c kd bG bH df M rem bq ok l n m r h d f=>exact NQ j i c ⟨h,n,m⟩ d ok l r f
 |dG c ok D h d f=>exact Jc j i c h d ok D f
 |lock c h d f=>exact LR j i c h d f
 |dB c bq ok l n C m h d f=>exact IV j i c bq ok l n C m h d f
 |iu c h d f=>exact Rx j i c h d f
noncomputable abbrev jD(Z:Stat):de gO:=yY ⟨Z.W,Z.cg,Z.ch⟩
def rK(Z:Stat):dn (jD Z).P (jD Z).ext:=by unfold jD yY;exact j8
def wy(Z:Stat)(p:gO):(jD Z).dh p<=400:=bg
def bX.ew(G:bX)(p:gO)(v m:Int):bX:={G with k:=.at p,v:=v,m:=m}
inductive mY(Z:Stat)(G:bX)(p:gO)(g:TC)(u:S7)(t:Tt)(bt:Nat):Prop
 |go (aB:bX) (ia:gO) (aC:S7) (l:Tb TL) (g':TC) (di:bA) (c9 bw:Nat) (aW:stepG aK false g u=.go g' aC l.toArray) (aa:aB.k=.at ia) (af:aB.s=G.s) (aj:aB.l=G.l) (iP:aB.bP=G.bP) (jM:aB.cy=G.cy)
  (hb:Base Z aB aC (t++MemOp.ofEvents (Z.N+2) g.frame.fn g.frame.place l.toArray)) (au:∀i,i≠Z.N+2->e0 Z G aB i u aC) (aA:cB (jD Z) Z aB (Z.N+2) ia [] di g' aC c9 bw) (aS:c9*500+bw<bt) (cS:g'.status=.running)
  (fN:aB.ms=G.ms) (hm:aB.m=G.m\/aB.m=0) (dX:aB.k.shut=G.k.shut\/mayWake aK g=true):mY Z G p g u t bt
 |wait (aW:stepG aK false g u=.go ⟨g.frame,g.callers,.blocked,none,none⟩ u) (ar:p=.gq) (hm:G.m=0):mY Z G p g u t bt
 |fin (aW:stepG aK false g u=.go ⟨g.frame,g.callers,.finished,none,none⟩ u) (ar:p=.fin):mY Z G p g u t bt
def g5.Du(a:g5 G)(h:G.k=.at p):decide (24<=G.l)=true:=by
 have:¬G.l<27:=λc=>by rw[a.mS.1 c]at h;cases h
 exact Uc U
def g5.ew(a:g5 G){q:gO}{v:Int}(h:G.k=.at p)(wg:ey true (G.s false).cR (G.s true).cR (dE.at q).ph=some (v,m))(c:S' (G.s false).cR (G.s true).cR<=(dE.at q).bound):g5 (G.ew q v m):=
 ⟨a.once,by show ey (decide (24<=G.l)) _ _ _=_;rw[a.Du h];exact wg,c,a.cnt,a.l9,⟨λd=>Td (a.mS.1 d) (by rw[h];intro e;cases e),bR⟩,a.pG,a.bY,a.eC⟩
def g5.q6(a:g5 G)(h:G.k=.at p):ey true (G.s false).cR (G.s true).cR (dE.at p).ph=some (G.v,G.m):=by have:=a.wg;rw[a.Du h,h]at this;exact this
def vf(Z:Stat)(k:Ta):Z.wk k≠Z.N+2:=by cases k<;>simp[Stat.wk]
def Dv{q:gO}{v:Int}(h:G.k=.at p)(a:eF):a.ig (G.ew q v m)↔a.ig G:=by
 cases a with
 |main=>exact T4
 |dN j=>exact T4
 |eu=>exact⟨λ_=>(by show G.k≠.un;rw[h];intro e;cases e),λ_ e=>(by cases e)⟩
def wO(h:G.k=.at p):eF.ig G .eu:=by show G.k≠.un;rw[h];intro e;cases e
def oG{to:gO}{v:Int}(l:Base Z G u t)(c:G.k=.at p)(d:cB (jD Z) Z G (Z.N+2) p [] x g u n j)(L:n=a+1)(H:At (jD Z) a p x){h:Tb cD}(he:Edge.fix true wk an h to∈(jD Z).cz p)(hd:Does u h aC es)(wd:Word Z u aC)(q:aC.heap[Z.z.T]?=some (.cells (eN Z.z G.mu G.ms G.aY G.bc) 132 (0,0)))(hW:aC.heap[Z.W]?=some (.cells #[.int .u64 v,.int .u32 m] 208 (0,0)))(wg:ey true (G.s false).cR (G.s true).cR (dE.at to).ph=some (v,m))(I:S' (G.s false).cR (G.s true).cR<=(dE.at to).bound)(f:(dE.at to).shut=false/\(dE.at p).shut=false)(M:(dE.at to).said=false->(dE.at p).said=false)(K:∀e∈hZ true (cI h),iv Z u.heap.size e)(J:(dE.at to).deaf=deafBehind (dE.at p).deaf (hZ true (cI h)).toArray)(hm:m=G.m\/m=0):mY Z G p g u t (n*500+j):=by
 subst L;have r:=pa l wd q (aB:=G.ew to v m) S6 S6 (Z.N+2);let⟨y,bw,w,_,P⟩:=d.mr (aB:=G.ew to v m) (rK _) (wy _) H he hd ⟨d.mem.rely d.own r d.mem.floor,d.own.rely d.mem r⟩;have z:=l.b9.ew c wg I;have Q:ea Z (G.ew to v m) aC:=ea.of l wd q hW (by rw[c];exact f.1.trans f.2.symm) S6;obtain⟨B,C⟩:=l.sync (aB:=G.ew to v m) .eu (wO c) S6 S6 S6 Q z wd.size (λb D E _=>wd.keep b D E) K S6 (Dv c) (by show(dE.at to).deaf=deafBehind G.k.deaf _;rw[c];exact J) (λa F=>by
  cases a with
  |main=>rfl
  |dN j=>rfl
  |eu=>exact Td S6 F) g.frame.fn g.frame.place (λj o=>.inl o) (λj o=>⟨o,bR⟩) (λe=>by
  have e:(dE.at to).shut=true:=e;rw[f.1]at e;cases e) (λe=>by rw[c];exact M e)
 exact .go (G.ew to v m) to aC _ _ y a bw (P false) S6 S6 S6 S6 S6 B (λi _=>C i) w (by have:=w.le;omega) S6 S6 hm (.inl (by rw[c];exact f.1.trans f.2.symm))
def Hm(l:Base Z G u t){q:gO}(h:G.k=.at p)(c:(dE.at q).ph=(dE.at p).ph)(d:(dE.at q).deaf=(dE.at p).deaf)(f:(dE.at p).bound<=(dE.at q).bound)(g:(dE.at q).shut=(dE.at p).shut)(j:(dE.at q).said=(dE.at p).said)(n i:Nat):Alike G ((G.grow n i).ew q G.v G.m):=by
 refine⟨λ_=>S6,λ_=>S6,λ_=>S6,λ_=>S6,λ_=>id,λ_=>T4,?_,?_,?_,?_,?_,⟨bR,λe=>(by rw[h]at e;cases e)⟩,T4,T4,T4,l.b9.bY,S6,S6,S6,S6,S6,S6,S6,S6,S6,S6⟩
 .rw[h];exact c
 .rw[h];exact d
 .rw[h];exact f
 .rw[h];exact g
 .rw[h];exact j
def IG{q:gO}{bz:Tb TL}(h:Base Z G u t)(c:G.k=.at p)(fA:Alike G ((G.grow u.heap.size (Z.N+2)).ew q G.v G.m))(w:(dE.at p).shut=false)(z:stepG aK false g u=.go g' aC bz.toArray)(r:g'.status=.running)(calm:Calm u aC)(keep:∀b,b<u.heap.size->aC.heap[b]?≠u.heap[b]?->gY Z G (Z.N+2) b)(cI:∀e∈bz,lx Z ((G.grow u.heap.size (Z.N+2)).ew q G.v G.m) t (Z.N+2) aC.heap.size e)(B:cB (jD Z) Z ((G.grow u.heap.size (Z.N+2)).ew q G.v G.m) (Z.N+2) q [] y g' aC c9 bw)(o:c9*500+bw<n):mY Z G p g u t n:=by let⟨d,f⟩:=h.l3 .eu (wO c) fA (λb=>S6) calm keep cI (λj m=>by cases m) (λ_ e=>by rw[c,w]at e;cases e) g.frame.fn g.frame.place;exact .go ((G.grow u.heap.size (Z.N+2)).ew q G.v G.m) q aC bz g' y c9 bw z S6 S6 S6 S6 S6 d (λi l=>f i l) B o r S6 (.inl S6) (.inl fA.zE)
def IH(c:Base Z G u t)(f:G.k=.at .c4)(h:cB (jD Z) Z G (Z.N+2) .c4 [] x g u n j)(F:n=a+1)(E:At (jD Z) a .c4 x):mY Z G .c4 g u t (n*500+j):=by
 subst F;have wd:=Word.refl Z u;have r:=pa c wd c.ww.T (aB:=G.ew .gq G.v G.m) S6 S6 (Z.N+2);let⟨y,bw,p,_,H⟩:=h.mr (aB:=G.ew .gq G.v G.m) (to:=.gq) (rK _) (wy _) E bI (.mark (.mark (.nil u))) ⟨h.mem,h.own.rely h.mem r⟩;have wg:=c.b9.q6 f;have B:g5 (G.ew .gq G.v G.m):=c.b9.ew f wg (by have:=c.b9.bound;rw[f]at this;exact this);have z:ea Z (G.ew .gq G.v G.m) u:=ea.of c wd c.ww.T c.ww.W (by rw[f];rfl) S6;have m:Apart Z (G.ew .gq G.v G.m):=c.ap.same S6 S6;have o:(pl Z (G.ew .gq G.v G.m)).jy (.cell (hn Z.W)):=.inr (.inl ⟨_,S6,S6⟩);have w:∀{b:Touch},(MemAct.ofEvent ⟨.mark (.write (hn Z.W)),false,true⟩).touch?=some b->b=⟨.cell (hn Z.W),true,.said⟩:=λ{b} d=>by have d:some (⟨.cell (hn Z.W),true,.said⟩:Touch)=some b:=d;exact(bD d).symm
 have I:e5 Z (G.ew .gq G.v G.m) (t++MemOp.ofEvents (Z.N+2) g.frame.fn g.frame.place [⟨.mark (.write (hn Z.W)),false,true⟩].toArray) u.heap.size:=by
  refine e5.app m c.dy ⟨λb _=>S6,S6⟩ bg .eu (wO f) c.dy.dy (λe he=>?_) (Dv f) (by show _=deafBehind G.k.deaf _;rw[f];rfl) (λa D=>by
   cases a with
   |main=>rfl
   |dN j=>rfl
   |eu=>exact Td S6 D) (λj l=>.inl l) (λe he b d q=>?_) (λj l=>⟨l,bR⟩) bR (λe he b d _=>⟨by rw[f];rfl,S6⟩) (bR)
  .rw[ev he]
   exact⟨c.fv.2.1,λb d _=>by rw[w d];exact .inl (.inl ⟨o,aF⟩),bR⟩
  .rw[ev he]at d
   rw[w d]at q;exact Td o (m.lU.oi _ q)
 have C:Base Z (G.ew .gq G.v G.m) u _:=c.rest S6 S6 S6 S6 z B I;exact .go (G.ew .gq G.v G.m) .gq u _ _ y a bw (H false) S6 S6 S6 S6 S6 C (λi _=>e0.same (aB:=G.ew .gq G.v G.m) S6 S6 S6 (λ_ _ _ _=>S6) z) p (by have:=p.le;omega) S6 S6 (.inl S6) (.inl (by rw[f];rfl))
def pV{t u:Tt}{i:Nat}(h:i<t.size):(t++u).g? i=t.g? i:=by unfold Trace.g?;rw[getElem?_append_old h]
def e5.O1(h:e5 Z G t B)(r:G.k=.at .cn){y:MemOp}(m:y.g=Z.N+2/\y.act=.close Z.ch)(F:Z.ch<B):e5 Z (G.ew .fin G.v G.m) (t++#[y]) B:=by
 have d:y.act.touch?=none:=by rw[m.2];rfl
 have J:y.act.low B:=by rw[m.2];exact F
 have f:∀g,Deaf (t++#[y]) g=Deaf t g:=λg=>by rw[Deaf_push];unfold deafStep;rw[m.2]
 have C:∀g,hy Z (G.ew .fin G.v G.m) g↔hy Z G g:=λg=>by
  constructor
  .rintro(h|⟨k,e,c⟩|⟨e,c⟩)
   .exact .inl h
   .exact .inr (.inl ⟨k,e,c⟩)
   .exact .inr (.inr ⟨e,by rw[r];intro e;cases e⟩)
  .rintro(h|⟨k,e,c⟩|⟨e,c⟩)
   .exact .inl h
   .exact .inr (.inl ⟨k,e,c⟩)
   .exact .inr (.inr ⟨e,bR⟩)
 have n:=h.oJ;rw[r]at n;refine⟨h.dy.one y d J,λg o=>(h.st g ((C g).1 o)).one y d h.dy.size,λk c=>(h.uQ k c).one y d,?_,λk=>?_,?_,λj l=>?_,λk c=>(h.told k c).other λop P _=>?_,λ_=>O3 m n,λe=>?_,λi op p L q=>?_,λi g p o K E=>?_⟩
 .rw[f];exact h.d0
 .rw[f];exact h.qU k
 .rw[f];exact n
 .rw[f];exact h.above j l
 .have:op=y:=by simpa using P
  rw[this];exact d
 .cases e
 .rcases getElem?_append_cases L with⟨_,M⟩|⟨_,Q⟩
  .exact(C _).2 (h.nH i op p M q)
  .have:op=y:=by simpa using Q
   rw[this]at q;exact Td d q
 .have w:i<t.size:=by have:=h.dy.size;have:(pl Z G).cT=Z.cT:=S6;omega
  have H:t.g? i=some g:=by rw[<-pV (u:=#[y]) w];exact o
  let⟨j,l,D⟩:=h.over i g p H K ((counts_old w).1 E);have I:j<t.size:=by have:(t[j]?).map (·.g)=some 0:=l;let⟨z,R,_⟩:=Option.map_eq_some_iff.1 this;exact lt_size_of_getElem? R
  exact⟨j,by rw[pV I];exact l,hb_app _ D⟩
def vX{s:ck}(h:s.cR=.yes):s.da=true:=by
 obtain⟨c,bb⟩:=s;cases c with
 |out p=>cases p<;>first|rfl|cases h
 |_=>cases h
def IF(c:Base Z G u t)(f:G.k=.at .cn)(l:cB (jD Z) Z G (Z.N+2) .cn [] x g u n j)(P:n=a+1)(M:At (jD Z) a .cn x):mY Z G .cn g u t (n*500+j):=by
 subst P;have wg:=c.b9.q6 f;let⟨_,U,V⟩:=vc wg;have m:=c.b9.cnt;rw[vX U,vX V]at m;have m:dF G.l=2:=m;have h:=c.ww.ch;rw[f,m]at h;have h:u.heap[Z.ch]?=some (.chan 0 #[] false 2 2 false):=h;have z:=bu h;let aC:S7:={u with heap:=u.heap.setIfInBounds Z.ch (.chan 0 #[] true 2 2 false)}
 have o:∀b,b≠Z.ch->aC.heap[b]?=u.heap[b]?:=λb d=>h7 (TT d)
 have p:aC.heap.size=u.heap.size:=by simp[aC]
 have C:ea Z (G.ew .fin G.v G.m) aC:=by refine⟨(o _ c.ap.rC).trans c.ww.T,(o _ c.ap.wc).trans c.ww.W,?_,λb d L=>(o b (by have:=c.o4.2;omega)).trans (c.ww.old b d L),c.ww.calm.trans ⟨Nat.le_of_eq p.symm,S6,S6,Go.ConcM.OsLater.refl _⟩⟩;show aC.heap[Z.ch]?=some (.chan 0 #[] true (dF G.l) (dF G.l) false);rw[m];exact iO z
 have I:g5 (G.ew .fin G.v G.m):=c.b9.ew f wg (by have:=c.b9.bound;rw[f]at this;exact this);have r:e0 Z G (G.ew .fin G.v G.m) (Z.N+2) u aC:=e0.same S6 S6 p (λb _ _ q=>o b q) C;let⟨y,bw,F,R,Q⟩:=l.mr (aB:=G.ew .fin G.v G.m) (aC:=aC) (to:=.fin) (rK _) (wy _) M bI (.getObj h Tf (.setObj h Tf (.nil _))) ⟨l.mem.rely l.own r l.mem.floor,l.own.rely l.mem r⟩;have D:(pl Z G).jy (.obj Z.ch):=.inr (.inr S6);have S:e5 Z G (t++MemOp.ofEvents (Z.N+2) g.frame.fn g.frame.place [⟨.obj Z.ch,false,true⟩].toArray) u.heap.size:=by
  have B:∀{b:Touch},(MemAct.ofEvent ⟨.obj Z.ch,false,true⟩).touch?=some b->b=⟨.obj Z.ch,false,.atomic⟩:=λ{b} d=>by have d:some (⟨.obj Z.ch,false,.atomic⟩:Touch)=some b:=d;exact(bD d).symm
  refine e5.app c.ap c.dy ⟨λb _=>S6,S6⟩ bg .eu (wO f) c.dy.dy (λe he=>?_) (λ_=>T4) (by show G.k.deaf=deafBehind G.k.deaf _;rw[f];rfl) (λa W=>S6) (λj w=>.inl w) (λe he b d H=>?_) (λj w=>⟨w,bR⟩) (λe=>by rw[f]at e;cases e) (λe he b d E=>?_) id
  .rw[ev he]
   exact⟨z,λb d _=>by rw[B d];exact .inl (.inl ⟨D,aF⟩),bR⟩
  .rw[ev he]at d
   rw[B d]at H;exact Td D (c.ap.lU.oi _ H)
  .rw[ev he]at d
   rw[B d]at E;cases E
 have T:=S.O1 f (y:={g:=Z.N+2,fn:=g.frame.fn,pos:=g.frame.place,act:=.close Z.ch}) ⟨S6,S6⟩ z;have K:t++MemOp.ofEvents (Z.N+2) g.frame.fn g.frame.place [(⟨.obj Z.ch,false,true⟩:TL),⟨.obj Z.ch,true,true⟩].toArray=(t++MemOp.ofEvents (Z.N+2) g.frame.fn g.frame.place [(⟨.obj Z.ch,false,true⟩:TL)].toArray)++#[{g:=Z.N+2,fn:=g.frame.fn,pos:=g.frame.place,act:=.close Z.ch}]:=by rw[ofEvents_eq,ofEvents_eq];apply Array.ext';simp[MemAct.ofEvent]
 have J:Base Z (G.ew .fin G.v G.m) aC (t++MemOp.ofEvents (Z.N+2) g.frame.fn g.frame.place [(⟨.obj Z.ch,false,true⟩:TL),⟨.obj Z.ch,true,true⟩].toArray):=c.rest S6 S6 S6 p C I (by rw[p,K];exact T);exact .go (G.ew .fin G.v G.m) .fin aC [⟨.obj Z.ch,false,true⟩,⟨.obj Z.ch,true,true⟩] _ y a bw (Q false) S6 S6 S6 S6 S6 J (λi _=>e0.same (aB:=G.ew .fin G.v G.m) S6 S6 p (λb _ _ q=>o b q) C) F (by have:=F.le;omega) S6 S6 (.inl S6) (.inr (R S6))
def II(f:Base Z G u t)(w:G.k=.at p)(z:cB (jD Z) Z G (Z.N+2) p [] x g u n j):mY Z G p g u t (n*500+j):=by
 rcases z.quiet (rK _)with⟨a,E,C⟩|⟨y,bw,ad,T,K⟩
 case inr=>
  exact .go G p u [] (bW y []) y n bw (K false u) w S6 S6 S6 S6 (by
   have:t++MemOp.ofEvents (Z.N+2) g.frame.fn g.frame.place ([]:Tb TL).toArray=t:=by rw[ofEvents_eq];simp
   rw[this];exact f) (λi _=>e0.at Z G i f.ww u.drawn) T U S6 S6 (.inl S6) (.inl S6)
 have L:=Word.refl Z u;have H:=f.ww.T;have I:=f.ww.W;have fv:=f.fv;have wg:=f.b9.q6 w;have D:=f.b9.bound;rw[w]at D;have F:S' (G.s false).cR (G.s true).cR<=2:=by unfold S';split<;>split<;>omega
 have M:∀{o:Nat} {wr:Ta},iv Z u.heap.size ⟨.cell (S8 Z.W o),wr,true⟩:=.wg;have look:∀{v:Int} {an:Tb dO} {q:gO},G.v=v->Edge.fix true false an (oN Z.W v) q∈(jD Z).cz p->ey true (G.s false).cR (G.s true).cR (dE.at q).ph=some (v,G.m)->S' (G.s false).cR (G.s true).cR<=(dE.at q).bound->
  ((dE.at q).shut=false/\(dE.at p).shut=false)->((dE.at q).said=false->(dE.at p).said=false)->(dE.at q).deaf=(dE.at p).deaf->mY Z G p g u t (n*500+j):=by
  intro v an q l he B J Q R S;exact oG f w z E C he (.mark (.load (f.ww.gH l) (.nil _))) L H I (by rw[l];exact B) J Q R (iS M) S (.inl S6)
 have g0:∀{v P:Int} {an:Tb dO} {q:gO},G.v=v->Edge.fix true false an (zt Z.W v P) q∈(jD Z).cz p->ey true (G.s false).cR (G.s true).cR (dE.at q).ph=some (P,G.m)->S' (G.s false).cR (G.s true).cR<=(dE.at q).bound->
  ((dE.at q).shut=false/\(dE.at p).shut=false)->((dE.at q).said=false->(dE.at p).said=false)->(dE.at q).deaf=(dE.at p).deaf->mY Z G p g u t (n*500+j):=by
  intro v P an q l he B J Q R S;exact oG f w z E C he (.mark (.shape f.ww.ny (.frozen (f.ww.pS 0) (.load (f.ww.gH l) (.store (f.ww.gH l) (f.ww.pS 0) (.nil _)))))) (Word.set 0 _ (.inr S6)) (Word.fo f 0 _) (Word.d' f S6) B J Q R (lo M (iS M)) S (.inl S6)
 have V:∀{v:Int} {an:Tb dO} {q:gO},G.v=v->Edge.fix true false an (wB Z.W v) q∈(jD Z).cz p->ey true (G.s false).cR (G.s true).cR (dE.at q).ph=some (v,G.m)->S' (G.s false).cR (G.s true).cR<=(dE.at q).bound->
  ((dE.at q).shut=false/\(dE.at p).shut=false)->((dE.at q).said=false->(dE.at p).said=false)->(dE.at q).deaf=(dE.at p).deaf->mY Z G p g u t (n*500+j):=by
  intro v an q l he B J Q R S;exact oG f w z E C he (.mark (.shape f.ww.ny (.frozen (f.ww.pS 0) (.load (f.ww.gH l) (.nil _))))) L H I (by rw[l];exact B) J Q R (iS M) S (.inl S6)
 have cut:∀{m dd:Int} {v P:Int} {a b c d},ey a b c d=some (v,m)->v=P->m=dd->ey a b c d=some (P,dd):=λh W X=>by rw[h,W,X]
 cases p with
 |bx=>exact oG f w z E C (to:=.c1 2) bI (.mark (.mark (.nil _))) L H I wg F ⟨S6,S6⟩ (λ_=>S6) (iS qT) S6 (.inl S6)
 |c1 m=>
  rcases G3 wg with⟨r,l,B⟩|⟨r,l,_⟩|⟨r,l,_⟩
  .rcases m with _|_|m
   .exact look l (.head _) B (by rw[r];exact T' _) ⟨S6,S6⟩ bR S6
   .exact look l (.head _) B (by rw[r];exact T' _) ⟨S6,S6⟩ bR S6
   .exact look l (.head _) B (by rw[r];exact T' _) ⟨S6,S6⟩ bR S6
  .rcases m with _|_|m
   .rw[r]at D;exact Td D a6
   .exact look l (.tail _ (.head _)) (cut wg l S6) (by rw[r];exact bg) ⟨S6,S6⟩ (λ_=>S6) S6
   .exact look l (.tail _ (.head _)) (cut wg l S6) (by rw[r];exact bg) ⟨S6,S6⟩ (λ_=>S6) S6
  .rcases m with _|_|m
   .rw[r]at D;exact Td D a6
   .rw[r]at D;exact Td D a6
   .exact look l (.tail _ (.tail _ (.head _))) (cut wg l S6) (by rw[r];exact bg) ⟨S6,S6⟩ (λ_=>S6) S6
 |c2 m=>
  rcases G3 wg with⟨r,l,_⟩|⟨r,l,B⟩|⟨r,l,B⟩
  .rcases m with _|_|m
   .exact V l (.tail _ (.tail _ (.head _))) (cut wg l S6) (by rw[r];exact bg) ⟨S6,S6⟩ (λ_=>S6) S6
   .exact V l (.tail _ (.head _)) (cut wg l S6) (by rw[r];exact bg) ⟨S6,S6⟩ (λ_=>S6) S6
   .exact V l (.tail _ (.tail _ (.head _))) (cut wg l S6) (by rw[r];exact bg) ⟨S6,S6⟩ (λ_=>S6) S6
  .rcases m with _|_|m
   .rw[r]at D;exact Td D a6
   .exact g0 l (.head _) B F ⟨S6,S6⟩ (λ_=>S6) S6
   .exact V l (.tail _ (.head _)) (cut wg l S6) (by rw[r];exact bg) ⟨S6,S6⟩ (λ_=>S6) S6
  .rcases m with _|_|m
   .rw[r]at D;exact Td D a6
   .rw[r]at D;exact Td D a6
   .exact g0 l (.head _) B F ⟨S6,S6⟩ (λ_=>S6) S6
 |c3=>exact oG f w z E C (to:=.c4) bI (.shape f.ww.ny (.shape f.ww.ny (.nil _))) L H I wg F ⟨S6,S6⟩ (λ_=>S6) nB S6 (.inl S6)
 |c4=>exact IH f w z E C
 |gq=>
  rcases G4 wg with⟨hm,_⟩|⟨hm,B⟩
  .have K:=C.wait (rK _) (.head _)
   obtain⟨st,off,rfl⟩:=z.shape;exact .wait (K false _ st off u _ (.mark (.mark (.load (f.ww.fK hm) (.nil _))))) S6 hm
  .exact oG f w z E C (to:=.pI) (.tail _ (.head _)) (.mark (.mark (.load (f.ww.fK hm) (.store (f.ww.fK hm) (f.ww.pS 1) (.mark (.nil _)))))) (Word.set 1 _ (.inr S6)) (Word.fo f 1 _) (Word.d' f S6) B F ⟨S6,S6⟩ bR (lo qT (lo M (lo M (iS qV)))) S6 (.inr S6)
 |pI=>
  let⟨l,_,_⟩:=vc wg;exact look l (.head _) (cut wg l S6) F ⟨S6,S6⟩ bR S6
 |pK=>exact oG f w z E C (to:=.vK) bI (.mark (.mark (.nil _))) L H I wg F ⟨S6,S6⟩ bR (iS qV) S6 (.inl S6)
 |vK=>exact oG f w z E C (to:=.cg) bI (.shape f.ww.ny (.shape f.ww.ny (.nil _))) L H I wg F ⟨S6,S6⟩ bR nB S6 (.inl S6)
 |cg=>exact oG f w z E C (to:=.k1) bI (.mark (.mark (.nil _))) L H I wg F ⟨S6,S6⟩ bR (iS (.mark S6 fv.2.1)) S6 (.inl S6)
 |k1=>
  subst E;have fA:=Hm f w (q:=.cn) S6 S6 bg S6 S6 u.heap.size (Z.N+2);let⟨y,aC,bz,bw,T,K,calm,keep,cI,_⟩:=z.bL (aB:=(G.grow u.heap.size (Z.N+2)).ew .cn G.v G.m) (t:=t) (rK _) (wy _) C bI (λb=>S6) S6;exact IG f w fA S6 (K false) S6 calm (λb J Y=>(keep b J Y).1) cI T (by have:=T.le;omega)
 |cn=>exact IF f w z E C
 |fin=>
  let⟨aa,K⟩:=C.done bI;obtain⟨st,off,rfl⟩:=z.shape;exact .fin (by rw[aa];exact K false st off u) S6
end
section
variable{X:et}{Z:Stat}[hi X Z]{G aB:bX}{u aC w:S7}{t bh:Tt}{k:Ta}{g g':TC}{x y:bA}{n j c9 bw l aN a:Nat}{B:Nat}{c bp:fR}{M b7:Mem}
noncomputable abbrev hP(Z:Stat):de eY:=kn Z.kd
def po(Z:Stat):dn (hP Z).P (hP Z).ext:=by unfold hP kn;exact j8
def zs(Z:Stat)(p:eY):(hP Z).dh p<=400:=bg
def nz(c:fR):Mem:=[(false,c.L,hf),(false,c.bc,.cells #[pt c.T] 71 (0,0)),(true,c.O,.cells #[dg,dg] 22 (0,0)),(false,c.cg,.cells #[.chan (some c.ch)] 203 (0,0)),(false,c.j0,.cells #[ah 0] 3 (0,0)),(false,c.kq,.cells dC 52 (0,0))]
def lf(c:fR):Nat->Mem
 | 17|18=>nz c
 | 19=>nz c++[(true,c.jC,.cells #[i0] 3 (0,0))]
 | 20=>nz c++[(true,c.jC,.cells #[i0] 3 (0,0)),(true,c.jP,.cells #[i0,i0,i0,i0,i0] 52 (0,0))]
 | 21=>nz c++[(true,c.jC,.cells #[ah 1] 3 (0,0)),(true,c.jP,.cells #[i0,i0,i0,i0,i0] 52 (0,0))]
 | 26=>nz c++[(false,c.jC,.cells #[ah 1] 3 (0,0)),(false,c.jP,.cells dC 52 (0,0))]
 |_=>nz c++[(true,c.jC,.cells #[ah 1] 3 (0,0)),(true,c.jP,.cells dC 52 (0,0))]
def lh(l:Nat):Ta:=decide (29<=l/\l<=33)||decide (35<=l/\l<=39)
def iB(G:bX)(c:fR)(k:Ta):S9:=if (G.s k).da && !(lh G.l && (c.k == k))then four (G.cy k)else dg
structure lR(Z:Stat)(G:bX)(c:fR)(M:Mem):Prop where
 cfg:c.T=Z.z.T/\c.O=Z.O/\c.ch=Z.ch/\c.cg=Z.cg/\c.W=Z.W/\c.bc=Z.bc
 early:G.l<=26->M=lf c G.l
 out:M[2]?=some (true,Z.O,.cells #[iB G c false,iB G c true] 22 (0,0))
 pend:lh G.l=true->(G.s c.k).da=true/\c.r=G.cy c.k
 lim:G.l<=40
structure jl(Z:Stat)(G:bX)(g:TC)(w:S7)(c:fR)(M:Mem)(x:bA)(n j:Nat):Prop where
 at_:cB (hP Z) Z G 0 ⟨G.l,c,M⟩ Z.base x g w n j
 ok:lR Z G c M
inductive qz(Z:Stat)(G:bX)(g:TC)(u:S7)(t:Tt)(bt:Nat):Prop
 |go (aB:bX) (aC:S7) (l:Tb TL) (g':TC) (bp:fR) (b7:Mem) (di:bA) (c9 bw:Nat) (aW:stepG aK true g u=.go g' aC l.toArray) (af:aB.s=G.s) (aa:aB.k=G.k) (iP:aB.bP=G.bP) (jM:aB.cy=G.cy)
  (hb:Base Z aB aC (t++MemOp.ofEvents 0 g.frame.fn g.frame.place l.toArray)) (au:∀i,i≠0->e0 Z G aB i u aC) (hm:jl Z aB g' aC bp b7 di c9 bw) (aS:c9*500+bw<bt) (cS:g'.status=.running) (fN:aB.ms=G.ms) (g1:aB.m=G.m):qz Z G g u t bt
 |stop (c:fR) (M:Mem) (x:bA) (n j a:Nat) (aj:G.l=25\/G.l=26\/G.l=28\/G.l=34\/G.l=40) (hm:jl Z G g u c M x n j) (aM:At (hP Z) a ⟨G.l,c,M⟩ x) (ak:n=a+1) (k7:bt=n*500+j):qz Z G g u t bt
def bX.hE(G:bX)(l:Nat)(v:Int):bX:={G with l:=l,v:=v}
structure rS(l aN:Nat):Prop where
 km:24<=aN↔24<=l
 zG:aN<26↔l<26
 zH:aN<27↔l<27
 zF:17<=aN
 cnt:dF aN=dF l
 deaf:j1 aN=j1 l
def rS.alike(h:rS G.l aN)(n i:Nat):Alike G ((G.grow n i).hE aN G.v):=
 ⟨λ_=>S6,λ_=>S6,λ_=>S6,λ_=>S6,λ_=>id,λ_=>T4,S6,S6,bg,S6,S6,T4,h.km,h.zG,h.zH,h.zF,h.cnt,h.deaf,S6,S6,S6,S6,S6,S6,S6,S6⟩
def DV{bz:Tb TL}(f:Base Z G u t)(q:rS G.l aN)(o:stepG aK true g u=.go (bW y Z.base) aC bz.toArray)(calm:Calm u aC)(keep:∀b,b<u.heap.size->aC.heap[b]?≠u.heap[b]?->gY Z G 0 b)(cI:∀e∈bz,lx Z ((G.grow u.heap.size 0).hE aN G.v) t 0 aC.heap.size e)(p:cB (hP Z) Z ((G.grow u.heap.size 0).hE aN G.v) 0 ⟨aN,bp,b7⟩ Z.base y (bW y Z.base) aC c9 bw)(ok:lR Z ((G.grow u.heap.size 0).hE aN G.v) bp b7)(m:c9*500+bw<n):qz Z G g u t n:=by let⟨c,d⟩:=f.l3 .main Tf (q.alike u.heap.size 0) (λb=>S6) calm keep cI (λj l=>by cases l) bR g.frame.fn g.frame.place;exact .go ((G.grow u.heap.size 0).hE aN G.v) aC bz _ bp b7 y c9 bw o S6 S6 S6 S6 c (λi h=>d i h) ⟨p,ok⟩ m S6 S6 S6
def mD(f:Base Z G u t)(o:G.l=l)(h:jl Z G g u c M x n j)(p:n=a+1)(i:At (hP Z) a ⟨l,c,M⟩ x)(he:(hP Z).cz ⟨l,c,M⟩ = [.bL ops ⟨aN,c,b7⟩])(w:rS l aN)(ok:lR Z ((G.grow u.heap.size 0).hE aN G.v) c b7):qz Z G g u t (n*500+j):=by subst p;subst o;obtain⟨y,aC,bz,bw,d,r,calm,keep,cI,_⟩:=h.at_.bL (aB:=(G.grow u.heap.size 0).hE aN G.v) (t:=t) (po _) (zs _) i (by rw[he];exact .head _) (λb=>S6) S6;exact DV f w (r true) calm (λb m q=>(keep b m q).1) cI d ok (by have:=d.le;omega)
def w0(d:Base Z G u t)(p:G.l=l)(h:jl Z G g u c M x n j)(q:n=a+1)(i:At (hP Z) a ⟨l,c,M⟩ x){o:Obj}{to:Nat->eY}(he:Edge.new true o to∈(hP Z).cz ⟨l,c,M⟩)(z:to u.heap.size=⟨aN,bp,b7⟩)(B:rS l aN)(ok:lR Z ((G.grow u.heap.size 0).hE aN G.v) bp b7):qz Z G g u t (n*500+j):=by subst q;subst p;let⟨y,aC,bw,f,w,calm,keep,C⟩:=h.at_.z2 (aB:=(G.grow u.heap.size 0).hE aN G.v) (po _) (zs _) i he (λb=>S6) S6 d.oc d.fv;rw[z]at f;exact DV (bz:=[]) d B (w true) calm (λb m r=>Td (keep b m) r) (λe he=>(by cases he)) f ok (by have:=f.le;omega)
def zP{v:Int}(m:Base Z G u t)(L:G.l=l)(h:jl Z G g u c M x n j)(P:n=a+1)(I:At (hP Z) a ⟨l,c,M⟩ x){f:Tb cD}(he:Edge.fix true false an f ⟨aN,c,M⟩∈(hP Z).cz ⟨l,c,M⟩)(hd:Does u f aC es)(wd:Word Z u aC)(p:aC.heap[Z.z.T]?=some (.cells (eN Z.z G.mu G.ms G.aY G.bc) 132 (0,0)))(hW:aC.heap[Z.W]?=some (.cells #[.int .u64 v,.int .u32 G.m] 208 (0,0)))(wg:ey (decide (24<=aN)) (G.s false).cR (G.s true).cR G.k.ph=some (v,G.m))(F:l<26/\aN<26/\17<=aN)(q:dF aN=dF l)(K:∀e∈hZ true (cI f),iv Z u.heap.size e)(J:j1 aN=deafBehind (j1 l) (hZ true (cI f)).toArray)(ok:lR Z (G.hE aN v) c M):qz Z G g u t (n*500+j):=by
 subst P;subst L;have r:=pa m wd p (aB:=G.hE aN v) S6 S6 0;let⟨y,bw,w,_,Q⟩:=h.at_.mr (aB:=G.hE aN v) (po _) (zs _) I he hd ⟨h.at_.mem.rely h.at_.own r h.at_.mem.floor,h.at_.own.rely h.at_.mem r⟩;have d:=m.b9;have z:g5 (G.hE aN v):=⟨d.once,wg,d.bound,by show dF aN=_;rw[q];exact d.cnt,(by show aN<26↔(G.s true).c=.un;rw[<-d.l9];omega),(by show aN<27↔G.k=.un;rw[<-d.mS];omega),d.pG,F.2.2,d.eC⟩
 have R:ea Z (G.hE aN v) aC:=ea.of m wd p hW S6 q;obtain⟨B,C⟩:=m.sync (aB:=G.hE aN v) .main Tf S6 S6 S6 R z wd.size (λb D E _=>wd.keep b D E) K S6 (λa=>by cases a<;>exact T4) J (λa H=>by
  cases a with
  |main=>exact Td S6 H
  |dN j=>rfl
  |eu=>rfl) g.frame.fn g.frame.place (λj o=>.inl o) (λj o=>⟨o,bR⟩) (λe=>⟨e,bR⟩) id
 exact .go (G.hE aN v) aC _ _ c M y a bw (Q true) S6 S6 S6 S6 B (λi _=>C i) ⟨w,ok⟩ (by have:=w.le;omega) S6 S6 S6
def M3{aB:bX}(g:aB.s=G.s)(f:aB.cy=G.cy)(d:bp.k=c.k)(hp:lh aB.l=lh G.l):iB aB bp=iB G c:=by funext k;unfold iB;rw[g,f,d,hp]
def y8(g:Base Z G u t)(h:G.l<=28)(k:Ta):(G.s k).da=false:=by
 have:=g.b9.cnt;have f:dF G.l=0:=by unfold dF;rw[Tq h]
 rw[f]at this;rcases c:(G.s false).da with _|_<;>rcases d:(G.s true).da with _|_<;>rw[c,d]at this<;>simp at this
 cases k<;>assumption
def No{l:Nat}(h:l<=28):lh l=false:=by unfold lh;rw[Ua U,Ua U];rfl
def vZ{aB:bX}(i:∀k,(aB.s k).da=false)(g:aB.l<=28)(c:bp.T=Z.z.T/\bp.O=Z.O/\bp.ch=Z.ch/\bp.cg=Z.cg/\bp.W=Z.W/\bp.bc=Z.bc)(f:aB.l<=26->b7=lf bp aB.l)(d:b7[2]?=some (true,bp.O,.cells #[dg,dg] 22 (0,0))):lR Z aB bp b7:=by
 have e:∀k,iB aB bp k=dg:=λk=>by unfold iB;rw[i k];rfl
 refine⟨c,f,?_,(λh=>by rw[No g]at h;cases h),U⟩;rw[e,e,d,c.2.1]
def vY{aB:bX}(f:Base Z G u t)(h:G.l<=28)(j:aB.s=G.s)(i:aB.l<=28)(c:bp.T=Z.z.T/\bp.O=Z.O/\bp.ch=Z.ch/\bp.cg=Z.cg/\bp.W=Z.W/\bp.bc=Z.bc)(g:aB.l<=26->b7=lf bp aB.l)(d:b7[2]?=some (true,bp.O,.cells #[dg,dg] 22 (0,0))):lR Z aB bp b7:=
 vZ (λk=>by rw[j];exact y8 f h k) i c g d
def zI{aB:bX}(h:lR Z G c M)(g:aB.s=G.s)(f:aB.cy=G.cy)(d:bp.k=c.k)(r:bp.r=c.r)(q:bp.T=c.T/\bp.O=c.O/\bp.ch=c.ch/\bp.cg=c.cg/\bp.W=c.W/\bp.bc=c.bc)(u:26<aB.l/\aB.l<=40)(hp:lh aB.l=lh G.l)(p:b7[2]?=M[2]?):lR Z aB bp b7:=by
 obtain⟨i,j,l,m,n,o⟩:=q;refine⟨by rw[i,j,l,m,n,o];exact h.cfg,λe=>U,?_,λe=>?_,u.2⟩
 .rw[p,M3 g f d hp];exact h.out
 .rw[hp]at e
  rw[g,f,d,r];exact h.pend e
def Nx{M:Mem}{l:Tb gZ}(h:(prun M l).isSome=true)(c:∀x∈l,∀i o v,x=.st i o v->i≠2):(c0 M l)[2]?=M[2]?:=by
 have key:∀(l:Tb gZ) (M:Mem) r,prun M l=some r->(∀x∈l,∀i o v,x=.st i o v->i≠2)->r.2.2[2]?=M[2]?:=by
  intro l;induction l with
  |nil=>intro M r h _;cases h;rfl
  |cons x l g=>
   intro M r h c;have f:∀y∈l,∀i o v,y=.st i o v->i≠2:=λy m=>c y (Ur _ m)
   cases x with
   |ld i o=>
    unfold prun at h;split at h
    .split at h
     .obtain⟨q,d,rfl⟩:=Option.map_eq_some_iff.1 h
      exact g M q d f
     .cases h
    .cases h
   |st i o v=>
    have j:=c _ List.mem_cons_self i o v S6;unfold prun at h;split at h
    .split at h
     .obtain⟨q,d,rfl⟩:=Option.map_eq_some_iff.1 h
      have:=g _ q d f;rw[List.getElem?_set_ne j]at this;exact this
     .cases h
    .cases h
 exact key l M _ (xp h) c
def o8(Z:Stat){l:Nat}{to:eY}(d:At (hP Z) a ⟨l,c,M⟩ x)(he:(hP Z).cz ⟨l,c,M⟩ = [.bL ops to]):(prun M ops).isSome=true:=by let⟨y,_,h,_⟩:=d.bL (po Z) (ops:=ops) (to:=to) (by rw[he];exact .head _);have h:prun M ops=some _:=h;rw[h];rfl
def Gj{aB:bX}(h:lR Z G c M)(hp:(prun M [.st 2 (p7 c.k) (four c.r)]).isSome=true)(m:aB.s=G.s)(l:aB.cy=G.cy)(q:26<aB.l/\aB.l<=40)(p:lh G.l=true)(j:lh aB.l=false):lR Z aB c (c0 M [.st 2 (p7 c.k) (four c.r)]):=by
 let⟨n,o⟩:=h.pend p;refine⟨h.cfg,λe=>U,?_,(λe=>by rw[j]at e;cases e),q.2⟩;have i:=h.out;have e:c0 M [.st 2 (p7 c.k) (four c.r)]=M.set 2 (true,Z.O,.cells ((#[iB G c false,iB G c true]:Te).setIfInBounds (p7 c.k) (four c.r)) 22 (0,0)):=by
  have u:p7 c.k<(#[iB G c false,iB G c true]:Te).size:=by cases c.k<;>simp[p7]
  unfold c0 prun;rw[i];simp only[Tq u];rfl
 have r:2<M.length:=(List.getElem?_eq_some_iff.1 i).1;rw[e,List.getElem?_set_self r];have f:∀k,k≠c.k->iB aB c k=iB G c k:=λk d=>by
  have:(c.k == k)=false:=by simp[TT d]
  unfold iB;rw[m,l,this];simp
 have g:iB aB c c.k=four c.r:=by unfold iB;rw[m,l,j,n,<-o];rfl
 cases d:c.k with
 |false=>
  rw[d]at g f;rw[g,f true aF];rfl
 |true=>
  rw[d]at g f;rw[g,f false aF];rfl
def kJ{l aN:Nat}(h:(decide (24<=aN)=decide (24<=l)/\decide (aN<26)=decide (l<26)/\decide (aN<27)=decide (l<27))/\17<=aN/\dF aN=dF l/\j1 aN=j1 l):rS l aN:=
 ⟨decide_eq_decide.1 h.1.1,decide_eq_decide.1 h.1.2.1,decide_eq_decide.1 h.1.2.2,h.2.1,h.2.2.1,h.2.2.2⟩
def GJ{M N:Mem}{z:Ta×Nat×Obj}(h:M[2]?=some z):(M++N)[2]?=M[2]?:=jz (List.getElem?_eq_some_iff.1 h).1
def L3(f:Base Z G u t)(h:jl Z G g u c M x n j):qz Z G g u t (n*500+j):=by
 rcases h.at_.quiet (po Z)with⟨a,m,d⟩|⟨y,bw,Q,K,J⟩
 case inr=>
  exact .go G u [] (bW y Z.base) c M y n bw (J true u) S6 S6 S6 S6 (by
   have:t++MemOp.ofEvents 0 g.frame.fn g.frame.place ([]:Tb TL).toArray=t:=by rw[ofEvents_eq];simp
   rw[this];exact f) (λi _=>e0.at Z G i f.ww u.drawn) ⟨K,h.ok⟩ U S6 S6 S6
 have ok:=h.ok;have R:=f.b9.bY;have P:=ok.lim;have H:=Word.refl Z u;have C:=f.ww.T;have D:=f.ww.W;have p:c.W=Z.W:=ok.cfg.2.2.2.2.1;have q:=f.b9;have early:∀{aN:Nat} {v:Int} {b7:Mem} {bp:fR},G.l<=28->aN<=28->(bp.T=Z.z.T/\bp.O=Z.O/\bp.ch=Z.ch/\bp.cg=Z.cg/\bp.W=Z.W/\bp.bc=Z.bc)->(aN<=26->b7=lf bp aN)->b7[2]?=some (true,bp.O,.cells #[dg,dg] 22 (0,0))->∀n,lR Z ((G.grow n 0).hE aN v) bp b7:=λr w z B I n=>vY f r S6 w z B I
 have late:∀{aN:Nat} {v:Int} {ops:Tb gZ},(prun M ops).isSome=true->(∀x∈ops,∀i o v,x=.st i o v->i≠2)->26<aN/\aN<=40->lh aN=lh G.l->∀n,lR Z ((G.grow n 0).hE aN v) c (c0 M ops):=λr w z B n=>zI ok S6 S6 S6 S6 ⟨S6,S6,S6,S6,S6,S6⟩ z B (Nx r w)
 have aj:G.l=17\/G.l=18\/G.l=19\/G.l=20\/G.l=21\/G.l=22\/G.l=23\/G.l=24\/G.l=27\/G.l=29\/G.l=30\/G.l=31\/G.l=32\/G.l=33\/G.l=35\/G.l=36\/G.l=37\/G.l=38\/G.l=39\/(G.l=25\/G.l=26\/G.l=28\/G.l=34\/G.l=40):=U;rcases aj with aj|aj|aj|aj|aj|aj|aj|aj|aj|aj|aj|aj|aj|aj|aj|aj|aj|aj|aj|aj
 .rw[aj]at d
  have l:=ok.early U;rw[aj]at l;subst l;exact mD f aj h m d (aN:=18) S6 (kJ a6) (early U a6 ok.cfg (λ_=>S6) S6 _)
 .rw[aj]at d
  have l:=ok.early U;rw[aj]at l;subst l;exact w0 f aj h m d (aN:=19) bI S6 (kJ a6) (early (aN:=19) (bp:={c with jC:=u.heap.size}) (b7:=lf {c with jC:=u.heap.size} 19) U a6 ok.cfg (λ_=>S6) S6 _)
 .rw[aj]at d
  have l:=ok.early U;rw[aj]at l;subst l;exact w0 f aj h m d (aN:=20) bI S6 (kJ a6) (early (aN:=20) (bp:={c with jP:=u.heap.size}) (b7:=lf {c with jP:=u.heap.size} 20) U a6 ok.cfg (λ_=>S6) S6 _)
 .rw[aj]at d
  have l:=ok.early U;rw[aj]at l;subst l;exact mD f aj h m d (aN:=21) S6 (kJ a6) (early U a6 ok.cfg (λ_=>S6) S6 _)
 .rw[aj]at d
  have l:=ok.early U;rw[aj]at l;subst l;exact mD f aj h m d (aN:=22) S6 (kJ a6) (early U a6 ok.cfg (λ_=>S6) S6 _)
 .rw[aj]at d
  have l:=ok.early U;rw[aj]at l;subst l;have wg:=q.wg;rw[aj]at wg;exact zP f aj h m d (aN:=23) bI (.mark (.mark (.nil _))) H C D wg a6 S6 (iS qT) S6 (vY f U S6 (show(23:Nat)<=28 by decide) ok.cfg (λ_=>S6) S6)
 .rw[aj]at d
  have l:=ok.early U;rw[aj]at l;subst l;have wg:=q.wg;rw[aj]at wg;let⟨F,L⟩:=R9 wg;have E:∀{wr:Ta},iv Z u.heap.size ⟨.cell (Ti c.W),wr,true⟩:=λ{wr}=>by rw[p];exact .wg
  exact zP f aj h m d (aN:=24) (v:=8589934592) bI (.mark (.load (by rw[p];exact f.ww.gH F) (.store (by rw[p];exact f.ww.gH F) (by rw[p];exact f.ww.pS 0) (.nil _)))) (Word.set 0 _ (.inr p)) (by rw[p];exact Word.fo f 0 _) (by rw[p];exact Word.d' f S6) L a6 S6 (lo E (iS E)) S6 (vY f U S6 (show(24:Nat)<=28 by decide) ok.cfg (λ_=>S6) S6)
 .rw[aj]at d
  have l:=ok.early U;rw[aj]at l;subst l;have wg:=q.wg;rw[aj]at wg;exact zP f aj h m d (aN:=25) bI (.mark (.mark (.nil _))) H C D wg a6 S6 (iS qV) S6 (vY f U S6 (show(25:Nat)<=28 by decide) ok.cfg (λ_=>S6) S6)
 .rw[aj]at d
  exact mD f aj h m d (aN:=28) S6 (kJ a6) (late (o8 Z d S6) aF a6 (by rw[aj];rfl) _)
 .rw[aj]at d
  exact w0 f aj h m d (aN:=30) bI S6 (kJ a6) (zI ok S6 S6 S6 S6 ⟨S6,S6,S6,S6,S6,S6⟩ (by decide:26<30/\30<=40) (by rw[aj];rfl) (GJ ok.out))
 .rw[aj]at d
  exact mD f aj h m d (aN:=31) S6 (kJ a6) (late (o8 Z d S6) aF a6 (by rw[aj];rfl) _)
 .rw[aj]at d
  exact mD f aj h m d (aN:=32) S6 (kJ a6) (late (o8 Z d S6) aF a6 (by rw[aj];rfl) _)
 .rw[aj]at d
  exact mD f aj h m d (aN:=33) S6 (kJ a6) (late (o8 Z d S6) aF a6 (by rw[aj];rfl) _)
 .rw[aj]at d
  exact mD f aj h m d (aN:=34) S6 (kJ a6) (Gj ok (o8 Z d S6) S6 S6 (by decide:26<34/\34<=40) (by rw[aj];rfl) S6)
 .rw[aj]at d
  exact w0 f aj h m d (aN:=36) bI S6 (kJ a6) (zI ok S6 S6 S6 S6 ⟨S6,S6,S6,S6,S6,S6⟩ (by decide:26<36/\36<=40) (by rw[aj];rfl) (GJ ok.out))
 .rw[aj]at d
  exact mD f aj h m d (aN:=37) S6 (kJ a6) (late (o8 Z d S6) aF a6 (by rw[aj];rfl) _)
 .rw[aj]at d
  exact mD f aj h m d (aN:=38) S6 (kJ a6) (late (o8 Z d S6) aF a6 (by rw[aj];rfl) _)
 .rw[aj]at d
  exact mD f aj h m d (aN:=39) S6 (kJ a6) (late (o8 Z d S6) aF a6 (by rw[aj];rfl) _)
 .rw[aj]at d
  exact mD f aj h m d (aN:=40) S6 (kJ a6) (Gj ok (o8 Z d S6) S6 S6 (by decide:26<40/\40<=40) (by rw[aj];rfl) S6)
 .exact .stop c M x n j a aj h d m S6
end
section
variable{X:et}{Z:Stat}[hi X Z]{G aB:bX}{u aC w:S7}{t bh v:Tt}{k:Ta}{B:Nat}
def qC(B:Nat)(v:Tt):Prop:=∀op∈v,op.act.touch?=none/\op.act≠.mark .disable/\op.act≠.mark .enable/\op.act.low B
def ra{M:Tt->Prop}(g:M t)(c:∀(s:Tt) (y:MemOp),y∈v->t.size<=s.size->M s->M (s++#[y])):M (t++v):=by
 obtain⟨l⟩:=v;have key:∀(l:Tb MemOp) (s:Tt),t.size<=s.size->M s->(∀y∈l,∀s:Tt,t.size<=s.size->M s->M (s++#[y]))->M (s++l.toArray):=by
  intro l;induction l with
  |nil=>intro s _ h _;simpa using h
  |cons a l i=>
   intro s f h c;have e:s++(a::l).toArray=(s++#[a])++l.toArray:=by apply Array.ext';simp
   rw[e];exact i _ cH (c a aF s f h) λy d=>c y (by simp[d])
 exact key l t bg g λy d s f h=>c s y (by simpa using d) f h
def oI(c:qC B v)(g:Nat):Deaf (t++v) g=Deaf t g:=by
 refine ra (M:=λs=>Deaf s g=Deaf t g) S6 λs y d _ h=>?_
 rw[Deaf_push];unfold deafStep;have:=c y d;split
 .rename_i e;exact Td e this.2.1
 .rename_i e;exact Td e this.2.2.1
 .exact h
def e5.D6(h:e5 Z G t B)(c:qC B v)(U:fp (pl Z aB) t (eX Z aB) B)(T:∀g,hy Z aB g->Started (pl Z aB) (t++v) g)(H:∀g,hy Z G g->hy Z aB g)(n:∀a:eF,a.deaf aB=a.deaf G)(Q:∀k,(aB.s k).eC=true->(G.s k).eC=true)(R:∀k,(aB.s k).da=true->(G.s k).da=true\/Told (pl Z aB) (· = Z.W) (t++v) (Z.wk k))(S:aB.k.shut=true->G.k.shut=true)(P:aB.k.said=false->G.k.said=false):e5 Z aB (t++v) B:=by
 have hu:∀op∈v,op.act.touch?=none:=λop f=>(c op f).1
 refine⟨?_,T,λk aa=>?_,?_,λk=>?_,?_,λj l=>?_,λk aa=>?_,λaa=>?_,λe i a d q=>?_,λi op d J p=>?_,λi g d D I C=>?_⟩
 .exact ra (M:=λs=>fp (pl Z aB) s (eX Z aB) B) U λs y m _ h=>h.one y (c y m).1 (c y m).2.2.2
 .exact ra (M:=λs=>iH (pl Z aB) s (Z.wk k)) (h.uQ k (Q k aa)) λs y m _ h=>h.one y (c y m).1
 .rw[oI c];exact h.d0.trans (n .main).symm
 .rw[oI c];exact(h.qU k).trans (n (.dN k)).symm
 .rw[oI c];exact h.oJ.trans (n .eu).symm
 .rw[oI c];exact h.above j l
 .rcases R k aa with aa|aa
  .exact(h.told k aa).other λop f _=>hu op f
  .exact aa
 .exact(h.shut (S aa)).app λop f _=>hu op f
 .let⟨_,r⟩:=uF hu q
  exact h.said (P e) i a d r
 .rcases getElem?_append_cases J with⟨_,K⟩|⟨_,L⟩
  .exact H _ (h.nH i op d K p)
  .exact Td (hu op L) p
 .have o:i<t.size:=by have W:=h.dy.size;have X:(pl Z G).cT=Z.cT:=S6;omega
  have E:t.g? i=some g:=by rw[<-pV (u:=v) o];exact D
  let⟨j,l,w⟩:=h.over i g d E I ((counts_old o).1 C);have F:j<t.size:=by have:(t[j]?).map (·.g)=some 0:=l;let⟨z,V,_⟩:=Option.map_eq_some_iff.1 this;exact lt_size_of_getElem? V
  exact⟨j,by rw[pV F];exact l,hb_app _ w⟩
def Qu{L:qE}{g:Nat}(h:Started L t g)(c:L.cT<=t.size)(d:qC B v):Started L (t++v) g:=by
 have:=ra (t:=t) (v:=v) (M:=λs=>Started L s g/\L.cT<=s.size) ⟨h,c⟩ λs y f _ h=>⟨h.1.one y (d y f).1 h.2,cH⟩
 exact this.1
def D5{c r:Nat}{p q:MemOp}(d:c<B)(h:x.act=.send c s)(i:y.act=.recv c r cap)(hp:p.act=.sendDone c s)(g:q.act=.recvDone c r):qC B #[x,y,p,q]:=by
 intro op f;simp only[List.mem_toArray,T7,iN,or_false]at f;rcases f with rfl|rfl|rfl|rfl
 .rw[h];exact⟨S6,aF,aF,d⟩
 .rw[i];exact⟨S6,aF,aF,d⟩
 .rw[hp];exact⟨S6,aF,aF,d⟩
 .rw[g];exact⟨S6,aF,aF,d⟩
def e5.comm(h:e5 Z G t B)(k:Ta)(u:Z.ch<B)(hd:(G.s k).deaf=0)(hm:j1 G.l=0)(C:aB.b1=G.b1)(D:aB.ro=G.ro)(l:∀j,j≠k->aB.s j=G.s j)(i:aB.k=G.k)(w:(aB.s k).deaf=0)(E:(aB.s k).eC=true->(G.s k).eC=true)(un:(aB.s k).c=.un↔(G.s k).c=.un)(z:j1 aB.l=0)(ee:eX Z aB=eX Z G){p q:MemOp}(r:x.g=Z.wk k/\x.act=.send Z.ch s)(H:y.act=.recv Z.ch s cap)(hp:p.act=.sendDone Z.ch s)(o:q.g=0/\q.act=.recvDone Z.ch s):e5 Z aB (t++#[x,y,p,q]) B:=by
 have f:qC B #[x,y,p,q]:=D5 u r.2 H hp o.2;have rg:Grow G aB B:=⟨λb _=>by rw[C],D⟩
 have mt:∀g,hy Z aB g↔hy Z G g:=by
  intro g;have F:∀j,(aB.s j).c≠.un↔(G.s j).c≠.un:=λj=>by
   by_cases c:j=k
   .subst c;exact not_congr un
   .rw[l j c]
  unfold hy;rw[i];simp only[F]
 refine h.D6 f (by rw[ee];exact h.dy.oa rg) (λg m=>?_) (λg m=>(mt g).2 m) (λa=>?_) (λj c=>?_) (λj c=>?_) (by rw[i];exact id) (by rw[i];exact id)
 .exact Qu ((h.st g ((mt g).1 m)).oa rg) h.dy.size f
 .cases a with
  |main=>exact z.trans hm.symm
  |dN j=>
   show(aB.s j).deaf=(G.s j).deaf;by_cases c:j=k
   .subst c;rw[hd,w]
   .rw[l j c]
  |eu=>show aB.k.deaf=G.k.deaf;rw[i]
 .by_cases d:j=k
  .subst d;exact E c
  .rw[l j d]at c;exact c
 .by_cases d:j=k
  .subst d
   refine .inr (Rf (i1:=0) (i2:=3) ⟨S6,r.1,r.2⟩ ⟨S6,o.1,o.2⟩ (λop n=>⟨(f op n).1,(f op n).2.1,(f op n).2.2.1⟩) ?_ ?_)
   .rw[h.qU];exact hd
   .rw[h.d0];exact hm
  .rw[l j d]at c;exact .inl c
def fp.sW{s:qI}(h:fp (pl Z G) t s B)(m:aB.b1=G.b1)(n:∀g b,G.ro g b->aB.ro g b):fp (pl Z aB) t s B:=by
 refine⟨h.clean,h.size,h.hX,λi op a j l f hm c d=>?_,?_,h.seen⟩
 .refine(h.own i op a j l f hm c d).imp (λx=>?_) λx=>⟨x.1,n _ _ x.2.1,x.2.2⟩
  show op.g=aB.b1 _;rw[m];exact x
 .have:=h.cz
  cases s<;>exact this
def e5.spawn{cl:eF}(h:e5 Z G t B)(z:0<Z.N)(hm:j1 G.l=0)(E:j1 aB.l=0)(D:cl≠.main)(C:cl.deaf G=0)(I:aB.b1=G.b1)(J:∀g b,G.ro g b->aB.ro g b)(K:∀g b,g≠cl.num Z->aB.ro g b->G.ro g b)(L:∀b,aB.ro (cl.num Z) b->aB.b1 b=0)(F:qu (pl Z aB))(n:∀j,(aB.s j).deaf=(G.s j).deaf/\((aB.s j).eC=true->(G.s j).eC=true)/\((aB.s j).da=true->(G.s j).da=true))(m:aB.k.deaf=G.k.deaf/\(aB.k.shut=true->G.k.shut=true)/\(aB.k.said=false->G.k.said=false))(q:∀g,hy Z aB g↔(hy Z G g\/g=cl.num Z))(ee:eX Z aB=eX Z G)(o:x.g=0/\x.act=.go (cl.num Z))(p:y.g=cl.num Z/\y.act=.start):e5 Z aB (t++#[x,y]) B:=by
 have M:qC B #[x,y]:=by
  intro op r;simp only[List.mem_toArray,T7,iN,or_false]at r;rcases r with rfl|rfl
  .rw[o.2];exact⟨S6,aF,aF,Tf⟩
  .rw[p.2];exact⟨S6,aF,aF,Tf⟩
 have u:fp (pl Z aB) t (eX Z aB) B:=by rw[ee];exact h.dy.sW I J
 have old:∀g,hy Z G g->g≠cl.num Z->Started (pl Z aB) t g:=λg c H=>by have:=h.st g c;exact⟨this.old,λl d=>this.ro l ⟨K g _ H d.1,d.2⟩⟩
 have w:cl.num Z≠0:=λe=>D (eF.xb z (a:=cl) (b:=.main) e)
 refine h.D6 M u (λg c=>?_) (λg c=>(q g).2 (.inl c)) (λa=>?_) (λj i=>(n j).2.1 i) (λj i=>.inl ((n j).2.2 i)) m.2.1 m.2.2
 .by_cases f:g=cl.num Z
  .subst f
   refine(old 0 (.inl S6) (TT w)).child u o p (h.d0.trans hm) ((h.tT cl).trans C) F λl d=>?_
   have:=L _ d.1;exact⟨d.2.1,this,λ_ _ _=>this⟩
  .exact(old g (((q g).1 c).resolve_right f) f).Ph h.dy.size o p
 .cases a with
  |main=>exact E.trans hm.symm
  |dN j=>exact(n j).1
  |eu=>exact m.1
def e5.finish(h:e5 Z G t B)(Y:0<Z.N)(D:Z.ch<B)(P:∀k,(G.s k).da=true)(Q:G.k.shut=true)(hm:j1 G.l=0)(m:y.g=0/\y.act=.recvClosed Z.ch):kB (λb=>Z.aH b\/b=Z.W) B (t++#[y]):=by
 have f:y.act.touch?=none:=by rw[m.2];rfl
 have I:y.act.low B:=by rw[m.2];exact D
 have hu:∀op∈#[y],op.act.touch?=none:=λop l=>by
  have e:op=y:=by simpa using l
  rw[e];exact f
 have d0:Deaf t 0=0:=h.d0.trans hm;refine(h.dy.one y f I).sS (W:=(· = Z.W)) ((h.st 0 (.inl rfl)).one y f h.dy.size) (λi op n aa=>?_) (λi g n E J C=>?_)
 .by_cases q:hy Z G op.g
  .rcases q with e|⟨k,e,_⟩|⟨e,_⟩
   .exact .inl e
   .rw[e];exact .inr ((h.told k (P k)).other λop l _=>hu op l)
   .rw[e];exact .inr ((h.shut Q).told m d0 U)
  .refine .inr λS r T F K d c _=>?_
   rcases getElem?_append_cases K with⟨_,L⟩|⟨_,M⟩
   .exact Td (d ▸ h.nH S r F L (by rw[c];simp)) q
   .rw[hu r M]at c;cases c
 .have p:i<t.size:=by have V:=h.dy.size;have X:(pl Z G).cT=Z.cT:=S6;omega
  have d:t.g? i=some g:=by rw[<-pV (u:=#[y]) p];exact E
  let⟨j,o,w⟩:=h.over i g n d J ((counts_old p).1 C);have H:j<t.size:=by have:(t[j]?).map (·.g)=some 0:=o;let⟨z,R,_⟩:=Option.map_eq_some_iff.1 this;exact lt_size_of_getElem? R
  exact⟨j,by rw[pV H];exact o,hb_app _ w⟩
end
section
variable{X:et}{Z:Stat}[hi X Z]{G aB:bX}{u aC w:S7}{t bh:Tt}{k:Ta}{g g':TC}{c:fR}{M:Mem}{x:bA}{n j:Nat}{p:gO}
def z0:S9:=.agg #[i0,dg]
def j5(k:Ta)(v:Nat×Nat):S9:=.agg #[ah (if k then 1 else 0),four v]
inductive qA(Z:Stat)(G:bX)(g:TC)(c:fR)(M:Mem)(x:bA)(n:Nat):Ta->Prop
 |run (h:g.status=.running):qA Z G g c M x n true
 |ri (a:Nat) (ag:∃b8,g=parked b8 #[rcase Z.ch z0] (.recv true)) (aj:G.l=28\/G.l=34\/G.l=40) (ak:n=a+1) (aM:At (hP Z) a ⟨G.l,c,M⟩ x) (dX:G.k.shut=false):qA Z G g c M x n false
inductive iJ(Z:Stat)(G:bX)(k:Ta)(g:TC)(w:S7)(cx:Ta):Nat->Ta->Prop
 |run {a} (h:g.status=.running) (ae:a≠0):iJ Z G k g w cx a true
 |sema {a} (h:g.status=.blocked) (az:g.offers=none) (ar:∃b,(G.s k).c=.lock (.qf b)) (fN:G.ms=0) (ae:a≠0):iJ Z G k g w cx a false
 |snd {a} (v:Nat×Nat) (x:bA) (n j b:Nat) (ag:∃b8,g=parked b8 #[scase Z.ch (j5 k v) (.tuple #[])] .send) (ar:g7 (G.s k) ⟨.out (.snd v),(G.s k).bb⟩) (aA:cB (fP (G.bP k)) Z G (Z.wk k) (.snd v) [] x g w n j) (aM:At (fP (G.bP k)) b (.snd v) x) (ak:n=b+1)
  (hO:(∀(n:Nat) own b o,(ib (G.bP k))[n]?=some (own,b,o)->G.b1 b≠Z.wk k)/\kA Z G (Z.wk k) w v) (jB:cx=true) (ae:a≠0):iJ Z G k g w cx a false
 |gone {a} (h:g.status=.finished) (ar:(G.s k).c=.out .fin) (ae:a=0):iJ Z G k g w cx a false
inductive lr(Z:Stat)(G:bX)(p:gO)(g:TC)(w:S7):Nat->Ta->Prop
 |run (x:bA) (n j:Nat) (aA:cB (jD Z) Z G (Z.N+2) p [] x g w n j) (h:g.status=.running):lr Z G p g w (n*500+j+1) true
 |wait (x:bA) (n j:Nat) (aA:cB (jD Z) Z G (Z.N+2) p [] x g w n j) (h:g.status=.blocked) (az:g.offers=none) (hp:p=.gq) (hm:G.m=0):lr Z G p g w (n*500+j+1) false
 |gone (hp:p=.fin) (h:g.status=.finished):lr Z G p g w 0 false
structure kS(Z:Stat)(aC:S7)(wk:Ta)(f:TC->TC):Prop where
 rest:∀o,o.status=.running\/o.status=.finished->f o=o
 alt:∀o:TC,o.status=.blocked->o.offers=none->f o=o\/f o={o with status:=.running}
 GX:wk=true->∀o:TC,o.status=.blocked->o.offers=none->f o={o with status:=.running}
 MP:∀b8 z bK,(∃s r,aC.heap[Z.ch]?=some (.chan 0 #[] false s r false))->f (parked b8 #[rcase Z.ch z] bK)=parked b8 #[rcase Z.ch z] bK
 MQ:∀b8 v z bK,(∃s r,aC.heap[Z.ch]?=some (.chan 0 #[] false s r false))->f (parked b8 #[scase Z.ch v z] bK)=parked b8 #[scase Z.ch v z] bK
 O2:wk=true->∀b8 z bK,(∃s r,aC.heap[Z.ch]?=some (.chan 0 #[] true s r false))->f (parked b8 #[rcase Z.ch z] bK)={parked b8 #[rcase Z.ch z] bK with status:=.running}
def kS.id(Z:Stat)(aC:S7):kS Z aC false (λo=>o):=⟨λ_ _=>S6,λ_ _ _=>.inl S6,λh=>(by cases h),λ_ _ _ _=>S6,λ_ _ _ _ _=>S6,λh=>(by cases h)⟩
def kS.woken(Z:Stat)(a c:TC)(aC:S7)(h:c.status=.running\/c.status=.finished):kS Z aC (mayWake aK a) (woken aK a c aC):=by
 have n:(c.status !=.blocked && c.status !=.waiting)=true:=by rcases h with h|h<;>rw[h]<;>rfl
 have d:∀o,Go.Conc.woken aK a c aC o=if mayWake aK a then o.again aC else o:=λo=>by
  unfold Go.Conc.woken;rcases hm:mayWake aK a with _|_
  .simp
  .rw[Bool.and_assoc,n];rfl
 have j:∀o:TC,o.status=.blocked->o.offers=none->o.again aC={o with status:=.running}:=λo f g=>by unfold Goroutine.again;rw[f,g]
 refine⟨λo m=>?_,λo f g=>?_,λhm o f g=>?_,λl z bK ⟨s,r,i⟩=>?_,λl v z bK ⟨s,r,i⟩=>?_,λhm l z bK ⟨s,r,i⟩=>?_⟩
 .rw[d];split
  .exact again_running _ m
  .rfl
 .rw[d];split
  .exact .inr (j o f g)
  .exact .inl S6
 .rw[d,Tq hm];exact j o f g
 .rw[d];split
  .exact again_recv_open i
  .rfl
 .rw[d];split
  .exact again_send_open i
  .rfl
 .rw[d,Tq hm];exact again_recv_closed i
def jl.rely(h:jl Z G g w c M x n j)(d:aB.l=G.l)(i:∀k,(aB.s k).da=(G.s k).da)(f:aB.cy=G.cy)(r:e0 Z G aB 0 w aC)(l:g'.frame=g.frame)(m:g'.callers=g.callers)(o:g'.dying=g.dying):jl Z aB g' aC c M x n j:=by
 refine⟨by rw[d];exact h.at_.rely r l m o,?_⟩;let⟨p,q,u,y,z⟩:=h.ok;have e:iB aB c=iB G c:=by funext k;unfold iB;rw[i,f,d]
 exact⟨p,by rw[d];exact q,by rw[e];exact u,by rw[d,i,f];exact y,by rw[d];exact z⟩
def qA.lp{b:Ta}(h:qA Z G g c M x n b)(F:kS Z aC wk f)(l:aB.l=G.l)(m:ea Z aB aC)(w:aB.k.shut=G.k.shut\/wk=true):∃j,qA Z aB (f g) c M x n j/\(f g).frame=g.frame/\(f g).callers=g.callers/\(f g).dying=g.dying/\(b=true->j=true):=by
 cases h with
 |run h=>exact⟨true,.run (by rw[F.rest g (.inl h)];exact h),by rw[F.rest g (.inl h)],by rw[F.rest g (.inl h)],by rw[F.rest g (.inl h)],id⟩
 |ri a p q r o u=>
  obtain⟨i,rfl⟩:=p;rcases d:aB.k.shut with _|_
  .have e:=F.MP i z0 (.recv true) ⟨_,_,by have:=m.ch;rw[d]at this;exact this⟩
   exact⟨false,.ri a ⟨i,e⟩ (by rw[l];exact q) r (by rw[l];exact o) d,by rw[e],by rw[e],by rw[e],λh=>by cases h⟩
  .have y:wk=true:=by
    rcases w with h|h
    .rw[d,u]at h;cases h
    .exact h
   have e:=F.O2 y i z0 (.recv true) ⟨_,_,by have:=m.ch;rw[d]at this;exact this⟩;exact⟨true,.run (by rw[e]),by rw[e],by rw[e],by rw[e],λ_=>S6⟩
def xg(f:Base Z G w t)(h:(G.s k).cR=.no):G.k.shut=false:=by
 rcases g:G.k with _|p
 .rfl
 .cases p with
  |fin=>
   have:=f.b9.q6 g;let⟨_,c,d⟩:=vc this;cases k
   .rw[c]at h;cases h
   .rw[d]at h;cases h
  |_=>rfl
def iJ.lp{b cx:Ta}{m:Nat}(h:iJ Z G k g w cx m b)(F:kS Z aC wk f)(z:Base Z aB aC bh)(l:aB.s k=G.s k)(p:aB.bP k=G.bP k)(V:aB.cy k=G.cy k)(r:e0 Z G aB (Z.wk k) w aC)(L:aB.ms=G.ms\/aB.ms=0\/wk=true)(S:cx=true->fH=true):
 ∃E,iJ Z aB k (f g) aC fH m E/\(f g).frame=g.frame/\(f g).callers=g.callers/\(f g).dying=g.dying:=by
 cases h with
 |run h c=>exact⟨true,.run (by rw[F.rest g (.inl h)];exact h) c,by rw[F.rest g (.inl h)],by rw[F.rest g (.inl h)],by rw[F.rest g (.inl h)]⟩
 |sema h q d hm c=>
  rcases F.alt g h q with e|e
  .by_cases u:aB.ms=0
   .exact⟨false,.sema (by rw[e];exact h) (by rw[e];exact q) (by rw[l];exact d) u c,by rw[e],by rw[e],by rw[e]⟩
   .have U:wk=true:=by
     rcases L with I|I|I
     .rw[hm]at I;exact Td I u
     .exact Td I u
     .exact I
    have i:=F.GX U g h q;exact⟨true,.run (by rw[i]) c,by rw[i],by rw[i],by rw[i]⟩
  .exact⟨true,.run (by rw[e]) c,by rw[e],by rw[e],by rw[e]⟩
 |snd v x n j b J d D H P B T c=>
  obtain⟨y,rfl⟩:=J;have Q:(aB.s k).cR=.no:=by rw[l,<-d.cR];rfl
  have R:=xg z Q;have C:=z.ww.ch;rw[R]at C;have e:=F.MQ y (j5 k v) (.tuple #[]) .send ⟨_,_,C⟩;refine⟨false,.snd v x n j b ⟨y,e⟩ (by rw[l];exact d) (by rw[p];exact D.rely r (by rw[e]) (by rw[e]) (by rw[e])) (by rw[p];exact H) P ⟨λn own b o he=>?_,B.2.rely r⟩ (S T) c,by rw[e],by rw[e],by rw[e]⟩;rw[p]at he;have K:=gL (M:=ib (G.bP k)) D.mem he;rw[r.b1 b K];exact B.1 n own b o he
 |gone h d c=>exact⟨false,.gone (by rw[F.rest g (.inr h)];exact h) (by rw[l];exact d) c,by rw[F.rest g (.inr h)],by rw[F.rest g (.inr h)],by rw[F.rest g (.inr h)]⟩
def lr.lp{b:Ta}{m:Nat}(h:lr Z G p g w m b)(F:kS Z aC wk f)(r:e0 Z G aB (Z.N+2) w aC)(hm:aB.m=G.m\/aB.m=0\/wk=true):∃o,lr Z aB p (f g) aC m o:=by
 cases h with
 |run x n j c h=>
  have e:=F.rest g (.inl h);exact⟨true,.run x n j (c.rely r (by rw[e]) (by rw[e]) (by rw[e])) (by rw[e];exact h)⟩
 |wait x n j c h i hp q=>
  rcases F.alt g h i with e|e
  .by_cases l:aB.m=0
   .exact⟨false,.wait x n j (c.rely r (by rw[e]) (by rw[e]) (by rw[e])) (by rw[e];exact h) (by rw[e];exact i) hp l⟩
   .have u:wk=true:=by
     rcases hm with I|I|I
     .rw[q]at I;exact Td I l
     .exact Td I l
     .exact I
    have d:=F.GX u g h i;exact⟨true,.run x n j (c.rely r (by rw[d]) (by rw[d]) (by rw[d])) (by rw[d])⟩
  .exact⟨true,.run x n j (c.rely r (by rw[e]) (by rw[e]) (by rw[e])) (by rw[e])⟩
 |gone hp h=>exact⟨false,.gone hp (by rw[F.rest g (.inr h)];exact h)⟩
end
section
variable{X:et}{Z:Stat}[hi X Z]{G aB:bX}{gs bm:TR}{u aC w:S7}{t bh:Tt}{k:Ta}{g g':TC}{m dd cb iz:Nat}{bt:Ta->gQ X.Q}{q:T2}{cx du:Ta}{hS rw:T9}
structure eD(X:et)(Z:Stat)(G:bX)(gs:TR)(w:S7)(t:Tt)(m:Nat)(bt:Ta->gQ X.Q)(cb:Nat)(q:T2)(cx:Ta)(rw:T9)(du:Ta):Prop where
 base:Base Z G w t
 size:gs.size=Z.N+(if G.l<26 then 1 else if G.l<27 then 2 else 3)
 main:∃g c M x n j,gs[0]?=some g/\jl Z G g w c M x n j/\m=n*500+j/\qA Z G g c M x n cx
 dN:∀k,(G.s k).c≠.un->∃g,gs[Z.wk k]?=some g/\fz X Z G k g w (G.s k) (bt k)/\iJ Z G k g w cx (bt k).1 (rw k)
 eu:∀p,G.k=.at p->∃g,gs[Z.N+2]?=some g/\lr Z G p g w cb du
 old:∀i g,0<i->i<Z.N->gs[i]?=some g->QuitsD aK (q i) (Deaf t i) g
def gN.at(h:gN M w)(n:Nat):gN M (w.at n):=⟨h.has,h.fL⟩
def fz.at{s:ck}{bt:gQ X.Q}(c:Base Z G w t)(h:fz X Z G k g w s bt)(n:Nat):fz X Z G k g (w.at n) s bt:=h.rely S6 S6 (e0.at Z G _ c.ww n) S6 S6 S6 id
def cB.at{Pos:Type}{A:de Pos}{i:Nat}{p:Pos}{Tc:Tz}{x:bA}{n:Nat}(h:cB A Z G i p Tc x g w n j)(d:Nat):cB A Z G i p Tc x g (w.at d) n j:=⟨h.on,h.le,h.fr,h.cs,h.m',h.mem.at d,h.own⟩
def eD.at(h:eD X Z G gs w t m bt cb q cx rw du)(d:Nat):eD X Z G gs (w.at d) t m bt cb q cx rw du:=by
 refine⟨h.base.at d,h.size,?_,λk H=>?_,λp hp=>?_,h.old⟩
 .let⟨g,c,M,x,n,j,l,i,o,D⟩:=h.main
  exact⟨g,c,M,x,n,j,l,⟨i.at_.at d,i.ok⟩,o,D⟩
 .let⟨g,l,i,o⟩:=h.dN k H
  refine⟨g,l,i.at h.base d,?_⟩;generalize rw k=r at o ⊢;generalize (bt k).1=mk at o ⊢;cases o with
  |run h f=>exact .run h f
  |sema h C u I f=>exact .sema h C u I f
  |snd v x n j b F u z E J B K f=>exact .snd v x n j b F u (z.at d) E J ⟨B.1,B.2.1,B.2.2,B.2.3⟩ K f
  |gone h u f=>exact .gone h u f
 .let⟨g,l,i⟩:=h.eu p hp
  refine⟨g,l,?_⟩;clear h;cases i with
  |run x n j z y=>exact .run x n j (z.at d) y
  |wait x n j z y C hp hm=>exact .wait x n j (z.at d) y C hp hm
  |gone hp y=>exact .gone hp y
def eD.live(h:eD X Z G gs w t m bt cb q cx rw du):∃(i:Nat) (g:TC),gs[i]?=some g/\g.status=.running:=by
 let⟨g,c,M,x,n,j,R,ak,al,S⟩:=h.main;cases S with
 |run d=>exact⟨0,g,R,d⟩
 |ri a aa ao H am J=>
  have af:¬G.l<27:=U;have ae:¬G.l<26:=U;have P:(G.s true).c≠.un:=λe=>ae (h.base.b9.l9.2 e)
  have L:=h.base.b9.pG;have bH:∃p,G.k=.at p:=by
   rcases ad:G.k with _|p
   .exact Td (h.base.b9.mS.2 ad) af
   .exact⟨p,S6⟩
  obtain⟨p,hp⟩:=bH;let⟨gk,ah,ai⟩:=h.eu p hp;let⟨C,K,w2,w3⟩:=h.dN false L;let⟨D,v1,v2,v3⟩:=h.dN true P;have sema:∀k,(∀j,∃g,gs[Z.wk j]?=some g/\iJ Z G j g w false (bt j).1 (rw j))->(∃b,(G.s k).c=.lock (.qf b))->G.ms=0->∃(i:Nat) (g:TC),gs[i]?=some g/\g.status=.running:=by
   intro k u ⟨b,T⟩ l;let⟨g',Q,y⟩:=u (!k);have z:=h.base.b9.side k;have d:(G.s k).role=.q:=by unfold ck.role;rw[T];rfl
   rw[d]at z;have ag:(G.s (!k)).role≠.fin:=by
    rcases cO.sema z with⟨_,e⟩|⟨e,_⟩
    .exact e
    .rw[l]at e;cases e
   have I:(G.s (!k)).role≠.idle/\(G.s (!k)).role≠.q:=by have:=z.mu;constructor<;>(intro e;rw[e]at this;simp[jO,j2]at this)
   generalize rw (!k)=r at y;generalize (bt (!k)).1=mk at y;cases y with
   |run d _=>exact⟨_,g',Q,d⟩
   |sema _ _ f _ _=>
    obtain⟨aj,V⟩:=f;exact Td (by unfold ck.role;rw[V];rfl) I.2
   |snd v x n j b aa f _ _ _ _ o _=>cases o
   |gone _ f _=>
    exfalso;rcases E:(G.s (!k)).bb with _|_
    .exact I.1 (by unfold ck.role;rw[f,E];rfl)
    .exact ag (by unfold ck.role;rw[f,E];rfl)
  have u:∀j,∃g,gs[Z.wk j]?=some g/\iJ Z G j g w false (bt j).1 (rw j):=λj=>by
   cases j
   .exact⟨C,K,w3⟩
   .exact⟨D,v1,v3⟩
  clear w2 v2;generalize rw false=r0 at w3;generalize rw true=r1 at v3;generalize (bt false).1=ap at w3;generalize (bt true).1=aq at v3;cases w3 with
  |run d _=>exact⟨_,C,K,d⟩
  |sema _ _ f l _=>exact sema false u f l
  |snd _ _ _ _ _ _ _ _ _ _ _ o _=>cases o
  |gone _ W _=>
   cases v3 with
   |run d _=>exact⟨_,D,v1,d⟩
   |sema _ _ f l _=>exact sema true u f l
   |snd _ _ _ _ _ _ _ _ _ _ _ o _=>cases o
   |gone _ Y _=>
    cases ai with
    |run _ _ _ _ d=>exact⟨_,gk,ah,d⟩
    |wait _ _ _ _ _ _ B hm=>
     exfalso;subst B;have wg:=h.base.b9.q6 hp;rcases G4 wg with⟨_,H⟩|⟨F,_⟩
     .exact H ⟨by unfold ck.cR;rw[W];rfl,by unfold ck.cR;rw[Y];rfl⟩
     .rw[hm]at F;cases F
    |gone B _=>
     exfalso;subst B;rw[hp]at J;cases J
abbrev rT(Q:To):=Nat×gQ Q×gQ Q×Nat×Nat×Nat
def q'(Q:To):rT Q->rT Q->Prop:=Prod.Lex (· < ·) (Prod.Lex (eQ Q) (Prod.Lex (eQ Q) (Prod.Lex (· < ·) (Prod.Lex (· < ·) (· < ·)))))
def Md(Q:To):WellFounded (q' Q):=
 (Prod.lex ⟨_,Nat.lt_wfRel.wf⟩ (Prod.lex ⟨_,G9 Q⟩ (Prod.lex ⟨_,G9 Q⟩ (Prod.lex ⟨_,Nat.lt_wfRel.wf⟩ (Prod.lex ⟨_,Nat.lt_wfRel.wf⟩ ⟨_,Nat.lt_wfRel.wf⟩))))).wf
def kW(b:Ta):Nat:=if b then 1 else 0
def h'(Z:Stat)(m:Nat)(bt:Ta->gQ X.Q)(cb:Nat)(q:T2)(cx:Ta)(rw:T9)(du:Ta):rT X.Q:=(m,bt false,bt true,cb,sumTo Z.N q,kW cx+kW (rw false)+kW (rw true)+kW du)
def hY{α:Type}(f:Ta->α)(k:Ta)(x:α):Ta->α:=λj=>if j=k then x else f j
def uD{x:rT X.Q}(h:dd<m)(e:x.1=dd):q' X.Q x (h' Z m bt cb q cx rw du):=by obtain⟨a,b⟩:=x;subst e;exact .left _ _ h
def Mh{ga:gQ X.Q}(k:Ta)(h:eQ X.Q ga (bt k))(iz:Nat)(g2:T2)(fH:Ta)(hS:T9)(c:Ta):q' X.Q (h' Z m (hY bt k ga) iz g2 fH hS c) (h' Z m bt cb q cx rw du):=by
 unfold h' hY;cases k
 .exact .right _ (.left _ _ h)
 .exact .right _ (.right _ (.left _ _ h))
def Mf(h:iz<cb)(g2:T2)(fH:Ta)(hS:T9)(c:Ta):q' X.Q (h' Z m bt iz g2 fH hS c) (h' Z m bt cb q cx rw du):=.right _ (.right _ (.right _ (.left _ _ h)))
def Mg{g2:T2}(h:sumTo Z.N g2<sumTo Z.N q)(fH:Ta)(hS:T9)(c:Ta):q' X.Q (h' Z m bt cb g2 fH hS c) (h' Z m bt cb q cx rw du):=.right _ (.right _ (.right _ (.right _ (.left _ _ h))))
def zW{hS:T9}{c:Ta}(h:kW fH+kW (hS false)+kW (hS true)+kW c<kW cx+kW (rw false)+kW (rw true)+kW du):q' X.Q (h' Z m bt cb q fH hS c) (h' Z m bt cb q cx rw du):=.right _ (.right _ (.right _ (.right _ (.right _ h))))
def OV(a:g5 G)(i:g5 aB)(l:aB.l=G.l)(k:Ta)(g:∀j,j≠k->aB.s j=G.s j):∀j,(aB.s j).da=(G.s j).da:=by
 have d:=a.cnt;have c:=i.cnt;rw[l]at c;intro j;by_cases h:j=k
 .subst h
  cases j
  .rw[g true aF]at c
   rcases e:(G.s false).da with _|_<;>rcases f:(aB.s false).da with _|_<;>rw[e]at d<;>rw[f]at c<;>simp at d c<;>first|rfl|omega
  .rw[g false aF]at c
   rcases e:(G.s true).da with _|_<;>rcases f:(aB.s true).da with _|_<;>rw[e]at d<;>rw[f]at c<;>simp at d c<;>first|rfl|omega
 .rw[g j h]
end
section
variable{X:et}{Z:Stat}[hi X Z]{G aB:bX}{gs bm:TR}{u aC w:S7}{t bh:Tt}{k:Ta}{g g':TC}{m dd cb iz:Nat}{bt:Ta->gQ X.Q}{q:T2}{cx du:Ta}{hS rw:T9}{sl:T8}{es:TE}
def lz(X:et)(Z:Stat)(gs:TR)(u:S7)(sl:T8)(t:Tt)(i:Nat)(d:rT X.Q):Prop:=
 ∃(aB:bX) (bm:TR) (aC:S7) (ops:Tv MemOp) (dd:Nat) (ga:Ta->gQ X.Q) (iz:Nat) (g2:T2) (fH:Ta) (hS:T9) (c:Ta),
  runT aK (crowd gs u sl) i=(.next (crowd bm aC sl),ops)/\eD X Z aB bm aC (t++ops) dd ga iz g2 fH hS c/\q' X.Q (h' Z dd ga iz g2 fH hS c) d
def so{i:Nat}{x:TC}(h:j≠i):((gs.map f).setIfInBounds i x)[j]?=(gs[j]?).map f:=by rw[h7 (TT h),Uk]
def ug{i:Nat}{x g:TC}(h:gs[i]?=some g):((gs.map f).setIfInBounds i x)[i]?=some x:=by rw[iO (by simpa using bu h)]
def ji(c:0<Z.N)(k:Ta):Z.wk k≠0:=by cases k<;>simp[Stat.wk]<;>omega
def G6(k:Ta):Z.wk (!k)≠Z.wk k:=by cases k<;>simp[Stat.wk]
def By{a:Nat}{b:Ta}(h:iJ Z G k g w cx a b)(c:g.status=.running):b=true/\a≠0:=by
 cases h with
 |run _ d=>exact⟨S6,d⟩
 |sema h _ _ _ _=>rw[c]at h;cases h
 |snd _ _ _ _ _ f _ _ _ _ _ _ _=>obtain⟨i,rfl⟩:=f;cases c
 |gone h _ _=>rw[c]at h;cases h
def fz.res{s:ck}{p:h5}{bt:gQ X.Q}(h:fz X Z G k g w s bt)(d:s.c=.out p)(hp:nF p=true):kA Z G (Z.wk k) w (G.cy k):=by
 cases h with
 |out gA ok h i j c=>
  cases d;exact c _ (by cases p<;>first|rfl|cases hp)
 |gone gA f c=>exact c
 |_=>cases d
def CS(t:Tt)(g:Nat)(fn:Tw)(pos:T6):t++MemOp.ofEvents g fn pos #[]=t:=by rw[ofEvents_eq];simp
def eD.others(h:eD X Z G gs u t m bt cb q cx rw du)(i0:Nat)(F:kS Z aC wk f)(E:Base Z aB aC bh)(y:aB.l=G.l)(H:aB.bP=G.bP)(z:aB.cy=G.cy)(ai:∀j,Z.wk j≠i0->aB.s j=G.s j)(ag:i0≠Z.N+2->aB.k=G.k)(aj:∀k,(aB.s k).da=(G.s k).da)(r:∀i,i≠i0->e0 Z G aB i u aC)(al:bm.size=gs.size)(o:∀i,i≠i0->bm[i]?=(gs[i]?).map f)(ah:aB.ms=G.ms\/aB.ms=0\/wk=true)(hm:aB.m=G.m\/aB.m=0\/wk=true)(ak:aB.k.shut=G.k.shut\/wk=true)(af:∀i,i≠i0->Deaf bh i=Deaf t i):
 ∃fH,(i0≠0->∃g c M x n j,bm[0]?=some g/\jl Z aB g aC c M x n j/\m=n*500+j/\qA Z aB g c M x n fH)/\(cx=true->fH=true)/\
  (∀k,Z.wk k≠i0->(G.s k).c≠.un->∃g b,bm[Z.wk k]?=some g/\fz X Z aB k g aC (aB.s k) (bt k)/\iJ Z aB k g aC fH (bt k).1 b)/\(i0≠Z.N+2->∀p,aB.k=.at p->∃g b,bm[Z.N+2]?=some g/\lr Z aB p g aC cb b)/\
  (∀i g,i≠i0->0<i->i<Z.N->bm[i]?=some g->QuitsD aK (q i) (Deaf bh i) g)/\bm.size=Z.N+(if aB.l<26 then 1 else if aB.l<27 then 2 else 3):=by
 let⟨g,c,M,x,n,j,V,W,Y,aa⟩:=h.main;let⟨fH,t1,t2,t3,t4,t5⟩:=aa.lp F y E.ww ak;refine⟨fH,λd=>?_,t5,λk l ae=>?_,λd p hp=>?_,λi g d U ad J=>?_,by rw[al,y];exact h.size⟩
 .exact⟨f g,c,M,x,n,j,by rw[o 0 (TT d),V];rfl,W.rely y aj z (r 0 (TT d)) t2 t3 t4,Y,t1⟩
 .let⟨gk,B,C,am⟩:=h.dN k ae
  have L:=ai k l;let⟨w,Q,R,S,T⟩:=am.lp F E L (by rw[H]) (by rw[z]) (r _ l) ah t5;refine⟨f gk,w,by rw[o _ l,B];rfl,?_,Q⟩;rw[L];exact C.rely (by rw[H]) (by rw[z]) (r _ l) R S T λI=>by rw[F.rest gk (.inr I)];exact I
 .rw[ag d]at hp
  let⟨gk,B,C⟩:=h.eu p hp;let⟨w,e⟩:=C.lp F (r _ (TT d)) hm;exact⟨f gk,w,by rw[o _ (TT d),B];rfl,e⟩
 .rw[o i d]at J
  obtain⟨D,P,rfl⟩:=Option.map_eq_some_iff.1 J;have K:=h.old i D U ad P;rw[F.rest D K.status,af i d];exact K
def G7{k j:Ta}(h:j≠k):Z.wk j≠Z.wk k:=λe=>h (Bw e)
def eD.B3(h:eD X Z G gs u t m bt cb q cx rw du)(k:Ta)(al:(G.s k).c≠.un)(y:gs[Z.wk k]?=some g){ga:gQ X.Q}(aj:stepG aK false g u=.go g' aC es)(w:Base Z aB aC (t++MemOp.ofEvents (Z.wk k) g.frame.fn g.frame.place es))(af:g'.status=.running\/g'.status=.finished)(B:∀j,j≠k->aB.s j=G.s j)(H:aB.k=G.k)(I:aB.l=G.l)(T:aB.bP=G.bP)(ah:aB.cy=G.cy)(ad:∀i,i≠Z.wk k->e0 Z G aB i u aC)(K:fz X Z aB k g' aC (aB.s k) ga){b:Ta}(J:∀fH,iJ Z aB k g' aC fH ga.1 b)(Y:aB.ms=G.ms\/aB.ms=0\/mayWake aK g=true)(hm:aB.m=G.m\/aB.m=0\/mayWake aK g=true)(W:eQ X.Q ga (bt k)):lz X Z gs u sl t (Z.wk k) (h' Z m bt cb q cx rw du):=by
 have E:=h.base.ap.pos;have ag:=runT_crowd_go (P:=aK) (sl:=sl) y (show stepG aK (Z.wk k == 0) g u=_ by rw[show(Z.wk k == 0)=false by simpa using ji E k];exact aj);have F:=kS.woken Z g g' aC af;let⟨fH,L,ak,a3,a4,a5,M⟩:=h.others (bm:=(gs.map (woken aK g g' aC)).setIfInBounds (Z.wk k) g') (Z.wk k) F w I T ah (λj d=>B j λe=>d (by rw[e])) (λ_=>H) (OV h.base.b9 w.b9 I k B) ad aF (λi z=>so z) Y hm (.inl (by rw[H]))
  (λi z=>Deaf_other t (g':=Z.wk k) (TT z) _ λop aa=>by obtain⟨e,_,rfl⟩:=Go.Conc.mem_ofEvents aa;rfl)
 have un:∀j,j≠k->(aB.s j).c≠.un->(G.s j).c≠.un:=λj d hu=>by rw[<-B j d];exact hu
 obtain⟨D,ai⟩:∃D:T9,∀j,(aB.s j).c≠.un->∃c,((gs.map (woken aK g g' aC)).setIfInBounds (Z.wk k) g')[Z.wk j]?=some c/\fz X Z aB j c aC (aB.s j) (hY bt k ga j)/\iJ Z aB j c aC fH (hY bt k ga j).1 (D j):=by
  by_cases hu:(G.s (!k)).c=.un
  .refine⟨λ_=>b,λj d=>?_⟩
   by_cases f:j=k
   .subst f
    exact⟨g',ug y,by unfold hY;rw[Tq S6];exact K,by unfold hY;rw[Tq S6];exact J fH⟩
   .have:j = !k:=by cases j<;>cases k<;>simp_all
    subst this;exact Td hu (un _ f d)
  .let⟨r,l,n,o,Q⟩:=a3 (!k) (G6 k) hu
   refine⟨λj=>if j=k then b else l,λj d=>?_⟩;by_cases f:j=k
   .subst f
    refine⟨g',ug y,by unfold hY;rw[Tq S6];exact K,?_⟩;unfold hY;simp only[if_true];exact J fH
   .have:j = !k:=by cases j<;>cases k<;>simp_all
    subst this;refine⟨r,n,?_,?_⟩
    .unfold hY;rw[Tm f];exact o
    .unfold hY;simp only[Tm f];exact Q
 obtain⟨C,ae⟩:∃C,∀p,aB.k=.at p->∃c,((gs.map (woken aK g g' aC)).setIfInBounds (Z.wk k) g')[Z.N+2]?=some c/\lr Z aB p c aC cb C:=by
  rcases V:aB.k with _|p
  .exact⟨false,λp hp=>by cases hp⟩
  .let⟨r,l,n,o⟩:=a4 (vf Z k) p V
   exact⟨l,λia hp=>by cases hp;exact⟨r,n,o⟩⟩
 exact⟨aB,_,aC,_,m,hY bt k ga,cb,q,fH,D,C,ag,⟨w,M,L (ji E k),ai,ae,λi g R S U=>a5 i g (by cases k<;>simp[Stat.wk]<;>omega) R S U⟩,Mh k W _ _ _ _ _⟩
end
section
variable{X:et}{Z:Stat}[hi X Z]{G aB:bX}{gs bm:TR}{u aC w:S7}{t bh:Tt}{k:Ta}{g g':TC}{m dd cb iz:Nat}{bt:Ta->gQ X.Q}{q:T2}{cx du:Ta}{hS rw:T9}{sl:T8}{es:TE}{p ia:gO}
def sT{P:Ta->Ta->Prop}{D:Ta->Prop}(h:∀k,D k->∃b,P k b):∃rw:T9,∀k,D k->P k (rw k):=by refine⟨λk=>Classical.epsilon λb=>P k b,λk c=>?_⟩;exact Classical.epsilon_spec (h k c)
def eD.B2(h:eD X Z G gs u t m bt cb q cx rw du)(n:gs[Z.N+2]?=some g)(V:stepG aK false g u=.go g' aC es)(l:Base Z aB aC (t++MemOp.ofEvents (Z.N+2) g.frame.fn g.frame.place es))(M:g'.status=.running\/g'.status=.finished)(E:aB.k=.at ia)(f:aB.s=G.s)(H:aB.l=G.l)(B:aB.bP=G.bP)(R:aB.cy=G.cy)(L:∀i,i≠Z.N+2->e0 Z G aB i u aC){b:Ta}(W:lr Z aB ia g' aC iz b)(J:aB.ms=G.ms)(hm:aB.m=G.m\/aB.m=0)(T:aB.k.shut=G.k.shut\/mayWake aK g=true)(I:iz<cb):lz X Z gs u sl t (Z.N+2) (h' Z m bt cb q cx rw du):=by
 have ad:=h.base.ap.pos;have Q:=runT_crowd_go (P:=aK) (sl:=sl) n (show stepG aK (Z.N+2 == 0) g u=_ by rw[show(Z.N+2 == 0)=false by simp];exact V);have F:=kS.woken Z g g' aC M;let⟨fH,r,aa,a3,a4,a5,w⟩:=h.others (bm:=(gs.map (woken aK g g' aC)).setIfInBounds (Z.N+2) g') (Z.N+2) F l H B R (λj _=>by rw[f]) (λe=>Td S6 e) (λj=>by rw[f]) L aF (λi d=>so d) (.inl J) (hm.imp id .inl) T
  (λi d=>Deaf_other t (g':=Z.N+2) (TT d) _ λop K=>by obtain⟨e,_,rfl⟩:=Go.Conc.mem_ofEvents K;rfl)
 let⟨Y,S⟩:=sT (P:=λk b=>∃c,((gs.map (woken aK g g' aC)).setIfInBounds (Z.N+2) g')[Z.wk k]?=some c/\fz X Z aB k c aC (aB.s k) (bt k)/\iJ Z aB k c aC fH (bt k).1 b) (D:=λk=>(aB.s k).c≠.un) λk o=>by let⟨c,b,e⟩:=a3 k (vf Z k) (by rw[f]at o;exact o);exact⟨b,c,e⟩
 exact⟨aB,_,aC,_,m,bt,iz,q,fH,Y,b,Q,⟨l,w,r U,S,λp hp=>by rw[E]at hp;cases hp;exact⟨g',ug n,W⟩,λi g y z C=>a5 i g U y z C⟩,Mf I _ _ _ _⟩
def eD.Ic(h:eD X Z G gs u t m bt cb q cx rw du){i:Nat}(ak:0<i)(S:i<Z.N)(H:gs[i]?=some g)(E:g.status=.running):lz X Z gs u sl t i (h' Z m bt cb q cx rw du):=by
 have C:=h.old i g ak S H;have aw:(i == 0)=false:=cH;cases K:q i with
 |zero=>rw[K]at C;rw[C.1]at E;cases E
 |succ a=>
  rw[K]at C;rcases C with⟨aq,_⟩|⟨_,g',es,V,aM,W⟩
  .rw[aq]at E;cases E
  have aH:=W.status;have aJ:=runT_crowd_go (P:=aK) (sl:=sl) H (show stepG aK (i == 0) g u=_ by rw[aw];exact aM u);have F:=kS.woken Z g g' u aH;have aU:qC u.heap.size (MemOp.ofEvents i g.frame.fn g.frame.place es)\/True:=.inr Tf;have hE:∀op∈MemOp.ofEvents i g.frame.fn g.frame.place es,op.g=i/\op.act.touch?=none/\op.act.low u.heap.size:=λop f=>by obtain⟨e,he,rfl⟩:=Go.Conc.mem_ofEvents f;exact⟨S6,touch_mute (V e he),low_mute (V e he) _⟩
  have B:∀j,j≠i->Deaf (t++MemOp.ofEvents i g.frame.fn g.frame.place es) j=Deaf t j:=λj d=>Deaf_other t (g':=i) (TT d) _ λop f=>(hE op f).1
  have c:=h.base.dy;have R:Base Z G u (t++MemOp.ofEvents i g.frame.fn g.frame.place es):=by
   refine⟨h.base.ww,h.base.b9,h.base.ap,?_,h.base.oc,h.base.s0,h.base.hold,h.base.old,h.base.o4,h.base.iA,h.base.rn,h.base.cfg⟩;have aP:∀k,Z.wk k≠i:=λk=>by cases k<;>simp[Stat.wk]<;>omega
   refine⟨?_,λg' ar=>?_,λk w=>?_,?_,λk=>?_,?_,λj d=>?_,λk w=>?_,λw=>?_,λe n aa r al=>?_,λn op r aD Y=>?_,λn Q r au aC ap=>?_⟩
   .exact ra (M:=λs=>fp (pl Z G) s (eX Z G) u.heap.size) c.dy λs y o _ h=>h.one y (hE y o).2.1 (hE y o).2.2
   .have:=ra (t:=t) (v:=MemOp.ofEvents i g.frame.fn g.frame.place es) (M:=λs=>Started (pl Z G) s g'/\(pl Z G).cT<=s.size) ⟨c.st g' ar,c.dy.size⟩ λs y o _ h=>⟨h.1.one y (hE y o).2.1 h.2,cH⟩
    exact this.1
   .exact ra (M:=λs=>iH (pl Z G) s (Z.wk k)) (c.uQ k w) λs y o _ h=>h.one y (hE y o).2.1
   .rw[B 0 U];exact c.d0
   .rw[B _ (aP k)];exact c.qU k
   .rw[B _ U];exact c.oJ
   .rw[B _ U];exact c.above j d
   .exact(c.told k w).other λop f _=>(hE op f).2.1
   .exact(c.shut w).app λop f _=>(hE op f).2.1
   .let⟨_,am⟩:=uF (λop f=>(hE op f).2.1) al
    exact c.said e n aa r am
   .rcases getElem?_append_cases aD with⟨_,aE⟩|⟨_,aG⟩
    .exact c.nH n op r aE Y
    .exact Td (hE op aG).2.1 Y
   .have T:n<t.size:=by have aR:=c.dy.size;have aS:(pl Z G).cT=Z.cT:=S6;omega
    have av:t.g? n=some Q:=by rw[<-pV (u:=MemOp.ofEvents i g.frame.fn g.frame.place es) T];exact au
    let⟨j,d,ao⟩:=c.over n Q r av aC ((counts_old T).1 ap);have az:j<t.size:=by have:(t[j]?).map (·.g)=some 0:=d;let⟨z,aN,_⟩:=Option.map_eq_some_iff.1 this;exact lt_size_of_getElem? aN
    exact⟨j,by rw[pV az];exact d,hb_app _ ao⟩
  let⟨fH,ad,aQ,a3,a4,a5,ae⟩:=h.others (bm:=(gs.map (woken aK g g' u)).setIfInBounds i g') i F R S6 S6 S6 (λ_ _=>S6) (λ_=>S6) (λ_=>S6) (λj _=>e0.at Z G j h.base.ww u.drawn) aF (λj d=>so d) (.inl S6) (.inl S6) (.inl S6) (λj d=>B j d);let⟨aO,aL⟩:=sT (P:=λk b=>∃l,((gs.map (woken aK g g' u)).setIfInBounds i g')[Z.wk k]?=some l/\fz X Z G k l u (G.s k) (bt k)/\iJ Z G k l u fH (bt k).1 b) (D:=λk=>(G.s k).c≠.un) λk aA=>by let⟨l,b,e⟩:=a3 k (by cases k<;>simp[Stat.wk]<;>omega) aA;exact⟨b,l,e⟩
  obtain⟨L,aI⟩:∃L,∀p,G.k=.at p->∃l,((gs.map (woken aK g g' u)).setIfInBounds i g')[Z.N+2]?=some l/\lr Z G p l u cb L:=by
   rcases aB:G.k with _|p
   .exact⟨false,λp hp=>by cases hp⟩
   .let⟨ai,af,ag,ah⟩:=a4 U p aB
    exact⟨af,λia hp=>by cases hp;exact⟨ai,ag,ah⟩⟩
  refine⟨G,_,u,_,m,bt,cb,upd q i a,fH,aO,L,aJ,⟨R,ae,ad U,aL,aI,λj aj ax ay I=>?_⟩,Mg ?_ _ _ _⟩
  .by_cases J:j=i
   .subst J
    rw[ug H]at I;obtain rfl:=bD I;rw[upd_same,Deaf_own];exact W
   .rw[upd_ne q a J]
    exact a5 j aj J ax ay I
  .have aT:sumTo Z.N (upd q i a)+(a+1)=sumTo Z.N q+a:=by have:=sumTo_upd q a _root_.id S;simpa [K]using this
   omega
def Fb{i:Nat}(c:gs[i]?=some g)(d:stepG aK (i == 0) g u=.go ⟨g.frame,g.callers,.blocked,none,none⟩ u)(sl:T8):runT aK (crowd gs u sl) i=(.next (crowd (gs.setIfInBounds i ⟨g.frame,g.callers,.blocked,none,none⟩) u sl),#[]):=by
 have:=runT_crowd_go (P:=aK) (sl:=sl) c d;have e:gs.map (woken aK g ⟨g.frame,g.callers,.blocked,none,none⟩ u)=gs:=by
  apply Array.ext_getElem?;intro j;rw[Uk];cases gs[j]? with
  |none=>rfl
  |some o=>simp[woken]
 rw[e]at this;rw[this,ofEvents_eq];simp
def eD.Fa(h:eD X Z G gs u t m bt cb q cx rw du)(k:Ta)(K:(G.s k).c≠.un)(y:gs[Z.wk k]?=some g)(C:g.status=.running)(V:fz X Z G k g u (G.s k) (bt k))(P:g'.frame=g.frame)(L:g'.callers=g.callers)(hd:g'.dying=g.dying)(U:iJ Z G k g' u cx (bt k).1 false)(T:runT aK (crowd gs u sl) (Z.wk k)=(.next (crowd (gs.setIfInBounds (Z.wk k) g') u sl),#[])):lz X Z gs u sl t (Z.wk k) (h' Z m bt cb q cx rw du):=by
 have I:=h.base.ap.pos;have S:=bu y;let⟨d,w,_,E⟩:=h.dN k K;rw[y]at w;obtain rfl:=bD w;let⟨B,_⟩:=By E C;have o:∀i,i≠Z.wk k->(gs.setIfInBounds (Z.wk k) g')[i]?=gs[i]?:=λi Q=>h7 (TT Q)
 refine⟨G,_,u,#[],m,bt,cb,q,cx,hY rw k false,du,T,⟨by simpa using h.base,by rw[Up];exact h.size,?_,λj R=>?_,λp hp=>?_,λi F H J z=>?_⟩,zW ?_⟩
 .let⟨d,c,M,x,n,j,f,l⟩:=h.main
  exact⟨d,c,M,x,n,j,by rw[o 0 (TT (ji I k))];exact f,l⟩
 .by_cases r:j=k
  .subst r
   refine⟨g',by rw[iO S],V.rely S6 S6 (e0.at Z G _ h.base.ww u.drawn) P L hd (λD=>by rw[C]at D;cases D),?_⟩;unfold hY;rw[Tq S6];exact U
  .let⟨d,f,l⟩:=h.dN j R
   refine⟨d,by rw[o _ (G7 r)];exact f,?_⟩;unfold hY;rw[Tm r];exact l
 .let⟨d,f,l⟩:=h.eu p hp
  exact⟨d,by rw[o _ (TT (vf Z k))];exact f,l⟩
 .rw[o i (by cases k<;>simp[Stat.wk]<;>omega)]at z
  simpa using h.old i F H J z
 .unfold hY kW
  cases k
  .rw[B];simp
  .rw[B];simp
def eD.Rh(h:eD X Z G gs u t m bt cb q cx rw du)(hp:G.k=.at p)(f:gs[Z.N+2]?=some g)(K:g.status=.running):lz X Z gs u sl t (Z.N+2) (h' Z m bt cb q cx rw du):=by
 let⟨w,F,P⟩:=h.eu p hp;rw[f]at F;obtain rfl:=bD F;have ak:=h.base.ap.pos;have W:(Z.N+2 == 0)=false:=aF;cases P with
 |wait _ _ _ _ y _ _ _=>rw[K]at y;cases y
 |gone _ H=>rw[K]at H;cases H
 |run x n j d _=>
  rcases II h.base hp d with⟨aB,ia,aC,l,g',aj,c9,bw,r,aa,ag,ad,T,af,y,o,ai,D,L,ae,hm,ah⟩|⟨r,C,hm⟩|⟨r,C⟩
  .exact h.B2 (iz:=c9*500+bw+1) (b:=true) f r y (.inl L) aa ag ad T af o (.run aj c9 bw ai L) ae hm ah (Nat.succ_lt_succ D)
  .have o:=Fb f (show stepG aK (Z.N+2 == 0) g u=_ by rw[W];exact r) sl
   have D:=bu f;have E:∀i,i≠Z.N+2->(gs.setIfInBounds (Z.N+2) (⟨g.frame,g.callers,.blocked,none,none⟩:TC))[i]?=gs[i]?:=λi V=>h7 (TT V)
   refine⟨G,_,u,#[],m,bt,_,q,cx,rw,false,o,⟨by simpa using h.base,by rw[Up];exact h.size,?_,λj Y=>?_,λal J=>?_,λi Q R S I=>?_⟩,zW (by simp[kW])⟩
   .let⟨w,c,M,x,n,j,z,B⟩:=h.main
    exact⟨w,c,M,x,n,j,by rw[E 0 U];exact z,B⟩
   .let⟨w,z,B⟩:=h.dN j Y
    exact⟨w,by rw[E _ (vf Z j)];exact z,B⟩
   .rw[hp]at J
    cases J;exact⟨(⟨g.frame,g.callers,.blocked,none,none⟩:TC),by rw[iO D],.wait x n j ⟨d.on,d.le,d.fr,d.cs,S6,d.mem,d.own⟩ S6 S6 C hm⟩
   .rw[E i U]at I
    simpa using h.old i Q R S I
  .subst C
   have o:∀i,i≠Z.N+2->e0 Z G G i u u:=λi _=>e0.at Z G i h.base.ww u.drawn
   exact h.B2 (es:=#[]) (aB:=G) (iz:=0) f r (by rw[CS];exact h.base) (.inr S6) hp S6 S6 S6 S6 o (.gone S6 S6) S6 (.inl S6) (.inl S6) U
def eD.Rj(h:eD X Z G gs u t m bt cb q cx rw du)(r:(G.s k).c≠.un)(w:gs[Z.wk k]?=some g)(P:g.status=.running)
 (W:∀(v:Nat×Nat) (x:bA) (n j a:Nat),g7 (G.s k) ⟨.out (.snd v),(G.s k).bb⟩->cB (fP (G.bP k)) Z G (Z.wk k) (.snd v) [] x g u n j->At (fP (G.bP k)) a (.snd v) x->n=a+1->
  ((∀(n:Nat) own b o,(ib (G.bP k))[n]?=some (own,b,o)->G.b1 b≠Z.wk k)/\kA Z G (Z.wk k) u v)->lz X Z gs u sl t (Z.wk k) (h' Z m bt cb q cx rw du)):lz X Z gs u sl t (Z.wk k) (h' Z m bt cb q cx rw du):=by
 let⟨ak,J,f,S⟩:=h.dN k r;rw[w]at J;obtain rfl:=bD J;let⟨_,I⟩:=By S P;have U:=h.base.ap.pos;have aa:(Z.wk k == 0)=false:=by simpa using ji U k
 rcases Sn h.base r I f with⟨aB,aX,aC,l,g',ga,z,Q,ae,D,V,ah,C,y,R,af,F,E,hm⟩|⟨z,d,E⟩|⟨z,d⟩|⟨v,x,n,j,a,d,H,K,M,T⟩
 .have B:aB.s k=aX:=by rw[Q];exact RP _ _ _
  have aj:ga.1≠0:=by
   cases R with
   |gone gA L ai=>rw[F]at L;cases L
   |@out p bb x n j gA ok h D M ai=>
    show(if hQ p then 3 else 1)≠0;split<;>decide
   |un bb bt=>
    exfalso;have e:(aB.s k).c=.un:=by rw[B]
    cases k with
    |false=>exact C.b9.pG e
    |true=>exact r (h.base.b9.l9.1 (by rw[<-D];exact C.b9.l9.2 e))
   |_=>exact Nat.succ_ne_zero _
  exact h.B3 k r w z C (.inl F) (λj ad=>by rw[Q];exact RO _ _ ad) ae D V ah y (by rw[B];exact R) (λfH=>.run F aj) E hm af
 .have y:=Fb w (show stepG aK (Z.wk k == 0) g u=_ by rw[aa];exact z) sl
  have Y:g.dying=none:=by
   obtain⟨b,d⟩:=d;generalize B:G.s k=s at f d;generalize bt k=mk at f;cases f with
   |lock c h K H=>exact H.m'
   |un bb bt=>cases d
   |_=>cases d
  exact h.Fa (g':=(⟨g.frame,g.callers,.blocked,none,none⟩:TC)) k r w P f S6 S6 Y.symm (.sema S6 S6 d E I) y
 .have ag:=f.res d S6
  have hgo:fz X Z G k (⟨g.frame,g.callers,.finished,none,none⟩:TC) u (G.s k) (0,(bt k).2.1,0):=by generalize B:G.s k=s at d;obtain⟨c,bb⟩:=s;cases d;exact .gone _ S6 ag
  have y:∀i,i≠Z.wk k->e0 Z G G i u u:=λi _=>e0.at Z G i h.base.ww u.drawn
  refine h.B3 (es:=#[]) (aB:=G) (ga:=(0,(bt k).2.1,0)) (b:=false) k r w z (by rw[CS];exact h.base) (.inr S6) (λ_ _=>S6) S6 S6 S6 S6 y hgo (λfH=>.gone S6 d S6) (.inl S6) (.inl S6) ?_;have e:bt k=((bt k).1,(bt k).2):=S6;rw[e];exact eQ.head (Nat.pos_of_ne_zero I)
 .exact W v x n j a d H K M T
def eD.nH(h:eD X Z G gs u t m bt cb q cx rw du){i:Nat}(r:gs[i]?=some g):i=0\/(0<i/\i<Z.N)\/(∃k,i=Z.wk k/\(G.s k).c≠.un)\/(i=Z.N+2/\∃p,G.k=.at p):=by
 have y:=bu r;have c:=h.size;by_cases f:i=0
 .exact .inl f
 by_cases j:i<Z.N
 .exact .inr (.inl ⟨U,j⟩)
 by_cases l:i=Z.N
 .exact .inr (.inr (.inl ⟨false,l,h.base.b9.pG⟩))
 by_cases n:i=Z.N+1
 .refine .inr (.inr (.inl ⟨true,n,λe=>?_⟩))
  have:=h.base.b9.l9.2 e;rw[Tq this]at c;omega
 have d:¬G.l<27:=by intro e;split at c<;>omega
 have o:¬G.l<26:=U;rw[Tm o,Tm d]at c;refine .inr (.inr (.inr ⟨U,?_⟩));rcases w:G.k with _|p
 .exact Td (h.base.b9.mS.2 w) d
 .exact⟨p,S6⟩
def xf{g:TC}(h:g.offers=none)(r:Nat)(s:Ta):offersAt g r s = []:=by
 unfold offersAt;rw[h];split
 .rename_i d c;cases c
 .rfl
def eD.Eg(h:eD X Z G gs u t m bt cb q cx rw du){i:Nat}(F:i≠0)(c:gs[i]?=some g)(r:Nat):offersAt g r false = []:=by
 rcases h.nH c with e|⟨C,D⟩|⟨k,rfl,E⟩|⟨rfl,p,hp⟩
 .exact Td e F
 .have:=(h.old i g C D c).status
  exact offersAt_of_not_blocked (by rcases this with e|e<;>rw[e]<;>simp) r false
 .let⟨B,d,_,f⟩:=h.dN k E
  rw[c]at d;obtain rfl:=bD d;generalize rw k=b at f;generalize (bt k).1=a at f;cases f with
  |run w _=>exact offersAt_of_not_blocked (by rw[w];simp) r false
  |sema _ o _ _ _=>exact xf o r false
  |snd v x n j b c K P J L H M I=>
   obtain⟨z,rfl⟩:=c;exact offersAt_parked_send' z Z.ch _ _ _ r
  |gone l _ _=>exact offersAt_of_not_blocked (by rw[l];simp) r false
 .let⟨B,d,y⟩:=h.eu p hp
  rw[c]at d;obtain rfl:=bD d;clear h;cases y with
  |run _ _ _ _ w=>exact offersAt_of_not_blocked (by rw[w];simp) r false
  |wait _ _ _ _ _ o _ _=>exact xf o r false
  |gone _ l=>exact offersAt_of_not_blocked (by rw[l];simp) r false
def eD.sends(h:eD X Z G gs u t m bt cb q cx rw du){i a:Nat}(f:gs[i]?=some g)(c:a∈offersAt g Z.ch true)(F:i≠0):
 a=0/\∃k v x n j b,i=Z.wk k/\(G.s k).c≠.un/\(∃z,g=parked z #[scase Z.ch (j5 k v) (.tuple #[])] .send)/\g7 (G.s k) ⟨.out (.snd v),(G.s k).bb⟩/\cB (fP (G.bP k)) Z G (Z.wk k) (.snd v) [] x g u n j/\At (fP (G.bP k)) b (.snd v) x/\n=b+1/\
  ((∀(n:Nat) own b o,(ib (G.bP k))[n]?=some (own,b,o)->G.b1 b≠Z.wk k)/\kA Z G (Z.wk k) u v):=by
 rcases h.nH f with e|⟨H,J⟩|⟨k,rfl,B⟩|⟨rfl,p,hp⟩
 .exact Td e F
 .have:=(h.old i g H J f).status
  rw[offersAt_of_not_blocked (by rcases this with e|e<;>rw[e]<;>simp) Z.ch true]at c;cases c
 .let⟨E,d,_,l⟩:=h.dN k B
  rw[f]at d;obtain rfl:=bD d;generalize rw k=b at l;generalize (bt k).1=R at l;cases l with
  |run y _=>rw[offersAt_of_not_blocked (by rw[y];simp) Z.ch true]at c;cases c
  |sema _ w _ _ _=>rw[xf w Z.ch true]at c;cases c
  |snd v x n j b C L Q K P I T S=>
   have M:=C;obtain⟨z,e⟩:=M;rw[e,offersAt_parked_send,Tq S6]at c;exact⟨by simpa using c,k,v,x,n,j,b,S6,B,C,L,Q,K,P,I⟩
  |gone r _ _=>rw[offersAt_of_not_blocked (by rw[r];simp) Z.ch true]at c;cases c
 .let⟨E,d,D⟩:=h.eu p hp
  rw[f]at d;obtain rfl:=bD d;clear h;cases D with
  |run _ _ _ _ y=>rw[offersAt_of_not_blocked (by rw[y];simp) Z.ch true]at c;cases c
  |wait _ _ _ _ _ w _ _=>rw[xf w Z.ch true]at c;cases c
  |gone _ r=>rw[offersAt_of_not_blocked (by rw[r];simp) Z.ch true]at c;cases c
def bX.fK(G:bX)(k:Ta)(bb:Ta)(v:Nat×Nat):bX:={G with s:=rG G.s k ⟨.out .d0,bb⟩,l:=G.l+1,cy:=hY G.cy k v}
def vL(c:Base Z G u t)(h:G.k.shut=false):u.heap[Z.ch]?=some (.chan 0 #[] false (dF G.l) (dF G.l) false):=by have:=c.ww.ch;rw[h]at this;exact this
def Base.meet(c:Base Z G u t)(g:(G.s k).c≠.un){v:Nat×Nat}(l:g7 (G.s k) ⟨.out (.snd v),(G.s k).bb⟩)(aj:G.l=28\/G.l=34)(d:Nat){p q:MemOp}(U:x.g=Z.wk k/\x.act=.send Z.ch (dF G.l))(V:y.act=.recv Z.ch (dF G.l) cap)(hp:p.act=.sendDone Z.ch (dF G.l))(T:q.g=0/\q.act=.recvDone Z.ch (dF G.l)):
 Base Z (G.fK k (G.s k).bb v) ((u.at d).setChan Z.ch 0 #[] false (dF G.l+1) (dF G.l+1) false) (t++#[x,y,p,q])/\∀i,e0 Z G (G.fK k (G.s k).bb v) i u ((u.at d).setChan Z.ch 0 #[] false (dF G.l+1) (dF G.l+1) false):=by
 have C:(G.s k).cR=.no:=by rw[<-l.cR];rfl
 have F:(G.s k).da=false:=by rw[<-l.da];rfl
 have E:=xg c C;have M:=vL c E;have D:=bu M;have e:∀j,(G.fK k (G.s k).bb v).s j=if j=k then⟨.out .d0,(G.s k).bb⟩else G.s j:=λ_=>S6
 have B:dF (G.l+1)=dF G.l+1:=by rcases aj with aj|aj<;>rw[aj]<;>rfl
 generalize r:(u.at d).setChan Z.ch 0 #[] false (dF G.l+1) (dF G.l+1) false=aC;have n:∀b,b≠Z.ch->aC.heap[b]?=u.heap[b]?:=λb g=>by rw[<-r];exact h7 (TT g)
 have w:aC.heap.size=u.heap.size:=by rw[<-r];simp[World.setChan];rfl
 have P:Calm u aC:=by rw[<-r];exact⟨by simp[World.setChan];exact bg,S6,S6,Go.ConcM.OsLater.refl _⟩
 have I:ea Z (G.fK k (G.s k).bb v) aC:=by refine⟨(n _ c.ap.rC).trans c.ww.T,(n _ c.ap.wc).trans c.ww.W,?_,λb g L=>(n b (by have:=c.o4.2;omega)).trans (c.ww.old b g L),c.ww.calm.trans P⟩;show aC.heap[Z.ch]?=some (.chan 0 #[] G.k.shut (dF (G.l+1)) (dF (G.l+1)) false);rw[E,B,<-r];exact iO D
 have a:=c.b9;have o:∀j,((G.fK k (G.s k).bb v).s j).role=(G.s j).role:=λj=>by
  rw[e];split
  .rename_i f;subst f;rw[<-l.role];rfl
  .rfl
 have m:∀j,((G.fK k (G.s k).bb v).s j).cR=(G.s j).cR:=λj=>by
  rw[e];split
  .rename_i f;subst f;rw[C];rfl
  .rfl
 have z:∀j,((G.fK k (G.s k).bb v).s j).c=.un↔(G.s j).c=.un:=λj=>by
  rw[e];split
  .rename_i f;subst f;exact⟨λh=>(by cases h),λh=>Td h g⟩
  .exact T4
 have H:∀j,((G.fK k (G.s k).bb v).s j).eC=true->(G.s j).eC=true:=λj=>by
  rw[e];split
  .intro h;cases h
  .exact id
 have J:g5 (G.fK k (G.s k).bb v):=by
  refine⟨by rw[o,o];exact a.once,?_,by rw[m,m];exact a.bound,?_,?_,?_,λh=>a.pG ((z false).1 h),?_,λj f=>a.eC j (H j f)⟩
  .rw[m,m]
   have:=a.wg;show ey (decide (24<=G.l+1)) _ _ _=_;rw[show decide (24<=G.l+1)=decide (24<=G.l) by rcases aj with aj|aj<;>rw[aj]<;>rfl];exact this
  .show dF (G.l+1)=_
   rw[B,a.cnt,e,e];have s1:(⟨.out .d0,(G.s k).bb⟩:ck).da=true:=S6;cases k
   .rw[F,Tq S6,s1,Tm (show ¬(true=false) by simp)]
    simp;exact Nat.add_comm _ _
   .rw[F,Tq S6,s1,Tm (show ¬(false=true) by simp)]
    simp
  .rw[z]
   show G.l+1<26↔_;rw[<-a.l9];omega
  .show G.l+1<27↔G.k=.un
   rw[<-a.mS];omega
  .show 17<=G.l+1
   have:=a.bY;omega
 have ee:eX Z (G.fK k (G.s k).bb v)=eX Z G:=by unfold eX;rw[o,o];rfl
 have R:j1 G.l=0:=by rcases aj with aj|aj<;>rw[aj]<;>rfl
 have S:j1 (G.l+1)=0:=by rcases aj with aj|aj<;>rw[aj]<;>rfl
 have Q:(G.s k).deaf=0:=by rw[<-l.deaf];rfl
 have W:=c.dy.comm (aB:=G.fK k (G.s k).bb v) k D Q R S6 S6 (λj f=>by rw[e,Tm f]) S6 (by rw[e,Tq S6];rfl) (H k) (z k) S ee U V hp T;exact⟨c.rest S6 S6 S6 w I J (by rw[w];exact W),λi=>e0.same S6 S6 w (λb _ _ K=>n b K) I⟩
abbrev g3(Z:Stat):Tv CommCase:=#[rcase Z.ch z0]
def DW{x:bA}{a:Nat}(aj:G.l=28\/G.l=34\/G.l=40)(h:c.ch=Z.ch)(g:At (hP Z) a ⟨G.l,c,M⟩ x):
 (∀r,eJ (hP Z) a (toGot G.l c M r) 400 (x.1.finish (oP r),x.2))/\∀main C st off (w:S7),stepG aK main ⟨x.1,C,st,none,off⟩ w=.comm (Tk x.1 C) (g3 Z) true (.recv true) w:=by
 have he:Edge.comm #[{chan:=.chan (some c.ch),send:=none,zero:=.agg #[ah 0,dg]}] true (.recv true) oP (toGot G.l c M)∈(hP Z).cz ⟨G.l,c,M⟩:=by rcases aj with aj|aj|aj<;>rw[aj]<;>exact bI
 let⟨d,f⟩:=g.comm (po Z) he;refine⟨λr=>(d r).1,λmain C st off w=>?_⟩;have:=f main C st off w;rw[h]at this;exact this
def Ha{bP:mi}{v:Nat×Nat}{x:bA}{a:Nat}(g:bP.ch=Z.ch)(h:bP.i=if k then 1 else 0)(f:At (fP bP) a (.snd v) x):
 eJ (fP bP) a .d0 400 (x.1.finish undef,x.2)/\∀main C st off (w:S7),stepG aK main ⟨x.1,C,st,none,off⟩ w=.comm (Tk x.1 C) #[scase Z.ch (j5 k v) (.tuple #[])] true .send w:=by
 let⟨c,d⟩:=f.comm (pr _) (cases:=#[{chan:=.chan (some bP.ch),send:=some (.agg #[ah bP.i,four v]),zero:=.tuple #[]}]) (b:=true) (bK:=.send) (cy:=λ_:Unit=>undef) (to:=λ_=>.d0) bI;refine⟨(c ()).1,λmain C st off w=>?_⟩;have:=d main C st off w;rw[g,h]at this;exact this
def eD.meet(h:eD X Z G gs u t m bt cb q cx rw du)(aE:(G.s k).c≠.un){v:Nat×Nat}(af:g7 (G.s k) ⟨.out (.snd v),(G.s k).bb⟩)(aj:G.l=28\/G.l=34){C:bA}{ax su:TC}{nw aS E:Nat}(z:cB (fP (G.bP k)) Z G (Z.wk k) (.snd v) [] C ax u nw aS)(aD:At (fP (G.bP k)) E (.snd v) C)(ae:(∀(n:Nat) own b o,(ib (G.bP k))[n]?=some (own,b,o)->G.b1 b≠Z.wk k)/\kA Z G (Z.wk k) u v){B:bA}{aw sr:TC}{aa ap am:Nat}(hm:jl Z G aw u c M B aa ap)(aB:At (hP Z) am ⟨G.l,c,M⟩ B)(a3:aa=am+1)(a2:m=aa*500+ap)(K:su=(Tk (C.1.finish undef) C.2))(J:sr=(Tk (B.1.finish (oP (some (k,v)))) (B.2++Z.base)))(aO:bm.size=gs.size)(ay:bm[0]?=some sr)(aQ:bm[Z.wk k]?=some su)(Y:∀i,i≠0->i≠Z.wk k->bm[i]?=gs[i]?)(d:Nat){p g2:MemOp}(al:x.g=Z.wk k/\x.act=.send Z.ch (dF G.l))(ao:y.act=.recv Z.ch (dF G.l) cap)(hp:p.act=.sendDone Z.ch (dF G.l))(ak:g2.g=0/\g2.act=.recvDone Z.ch (dF G.l)):
 ∃dd ga hS H,eD X Z (G.fK k (G.s k).bb v) bm ((u.at d).setChan Z.ch 0 #[] false (dF G.l+1) (dF G.l+1) false) (t++#[x,y,p,g2]) dd ga cb q true hS H/\dd<m:=by
 have aA:=h.base.ap.pos;let⟨V,f⟩:=h.base.meet aE af aj d al ao hp ak;generalize a4:(u.at d).setChan Z.ch 0 #[] false (dF G.l+1) (dF G.l+1) false=aC at V f;have e:∀j,(G.fK k (G.s k).bb v).s j=if j=k then⟨.out .d0,(G.s k).bb⟩else G.s j:=λ_=>S6
 have I:∀j,(G.fK k (G.s k).bb v).cy j=if j=k then v else G.cy j:=λ_=>S6
 let⟨aY,aZ,c3,a0,aq⟩:=h.base.cfg k;have aI:G.l=28\/G.l=34\/G.l=40:=aj.imp id .inl;let⟨aK,_⟩:=DW aI hm.ok.cfg.2.2.1 aB;let⟨aR,_⟩:=Ha (k:=k) c3 aq aD;have F:=kS.id Z aC;have aJ:¬G.l=40:=U;have aP:toGot G.l c M (some (k,v))=⟨G.l+1,{c with k:=k,r:=v},M⟩:=by show(if G.l=40 then _ else _)=_;rw[Tm aJ]
 have aN:(G.s k).da=false:=by rw[<-af.da];rfl
 have aF:∀j,Deaf (t++#[x,y,p,g2]) j=Deaf t j:=λj=>oI (D5 h.base.fv.2.2 al.2 ao hp ak.2) j
 have a1:(Z.wk (!k))≠Z.wk k:=G6 k;have az:jl Z (G.fK k (G.s k).bb v) sr aC {c with k:=k,r:=v} M (B.1.finish (oP (some (k,v))),B.2) am 400:=by
  have ai:=aK (some (k,v));rw[aP]at ai;refine⟨⟨ai,bg,by rw[J],by rw[J],by rw[J],hm.at_.mem.rely hm.at_.own (f 0) hm.at_.mem.floor,hm.at_.own.rely hm.at_.mem (f 0)⟩,?_⟩;let⟨aT,a5,aU,a6,a7⟩:=hm.ok;refine⟨aT,λhle=>?_,?_,λ_=>⟨by rw[e,Tq S6];rfl,by rw[I,Tq S6]⟩,?_⟩
  .have:(G.fK k (G.s k).bb v).l=G.l+1:=S6
   omega
  .rw[aU]
   have aV:lh G.l=false:=by rcases aj with aj|aj<;>rw[aj]<;>rfl
   have aW:lh (G.fK k (G.s k).bb v).l=true:=by show lh (G.l+1)=true;rcases aj with aj|aj<;>rw[aj]<;>rfl
   have ar:iB (G.fK k (G.s k).bb v) {c with k:=k,r:=v}=iB G c:=by
    funext j;unfold iB;rw[aV,aW,e,I];by_cases l:j=k
    .subst l;rw[aN];simp
    .rw[Tm l,Tm l]
     have:(k == j)=false:=by simp[TT l]
     simp[this]
   rw[ar]
  .show G.l+1<=40
   omega
 have hW:fz X Z (G.fK k (G.s k).bb v) k su aC ((G.fK k (G.s k).bb v).s k) (if hQ .d0 then 3 else 1,(bt k).2.1,E*500+400):=by
  rw[e,Tq S6];refine .out (x:=(C.1.finish undef,C.2)) (bt k).2.1 S6 ⟨aR,bg,by rw[K],by rw[K];simp,by rw[K],z.mem.rely z.own (f _) z.mem.floor,z.own.rely z.mem (f _)⟩ (λh=>by cases h) (λn own b o he=>?_) (λr L=>?_)
  .rw[(f (Z.wk k)).b1 b (gL (M:=ib (G.bP k)) z.mem he)]
   exact ae.1 n own b o he
  .have:r=v:=by have L:some ((G.fK k (G.s k).bb v).cy k)=some r:=L;rw[I,Tq S6]at L;exact(bD L).symm
   subst this;exact ae.2.rely (f _)
 let⟨aX,aM⟩:=sT (P:=λj b=>∃g,bm[Z.wk j]?=some g/\fz X Z (G.fK k (G.s k).bb v) j g aC ((G.fK k (G.s k).bb v).s j) (hY bt k (if hQ .d0 then 3 else 1,(bt k).2.1,E*500+400) j)/\iJ Z (G.fK k (G.s k).bb v) j g aC true (hY bt k (if hQ .d0 then 3 else 1,(bt k).2.1,E*500+400) j).1 b) (D:=λj=>((G.fK k (G.s k).bb v).s j).c≠.un) λj l=>by
  by_cases w:j=k
  .subst w
   refine⟨true,su,aQ,?_,?_⟩
   .unfold hY;rw[Tq S6];exact hW
   .unfold hY;rw[Tq S6];exact .run (by rw[K]) (Nat.succ_ne_zero 0)
  .rw[e,Tm w]at l
   let⟨g,R,S,T⟩:=h.dN j l;have es:(G.fK k (G.s k).bb v).s j=G.s j:=by rw[e,Tm w]
   have ad:(G.fK k (G.s k).bb v).cy j=G.cy j:=by rw[I,Tm w]
   let⟨Q,s1,s2,a8,a9⟩:=T.lp F V es S6 ad (f _) (.inl S6) (λ_=>S6);refine⟨Q,g,by rw[Y _ (ji aA j) (G7 w)];exact R,?_,?_⟩
   .rw[es];unfold hY;rw[Tm w];exact S.rely S6 ad (f _) S6 S6 S6 id
   .unfold hY;rw[Tm w];exact s1
 obtain⟨H,aL⟩:∃H,∀p,(G.fK k (G.s k).bb v).k=.at p->∃g,bm[Z.N+2]?=some g/\lr Z (G.fK k (G.s k).bb v) p g aC cb H:=by
  have ah:(G.fK k (G.s k).bb v).k=G.k:=S6;rcases W:G.k with _|p
  .exact⟨false,λp hp=>by rw[ah,W]at hp;cases hp⟩
  .let⟨au,R,S⟩:=h.eu p W
   let⟨Q,T⟩:=S.lp F (f _) (.inl S6);exact⟨Q,λia hp=>by rw[ah,W]at hp;cases hp;exact⟨au,by rw[Y _ U (TT (vf Z k))];exact R,T⟩⟩
 refine⟨am*500+400,hY bt k (if hQ .d0 then 3 else 1,(bt k).2.1,E*500+400),aX,H,⟨V,?_,⟨sr,_,M,_,am,400,ay,az,S6,.run (by rw[J])⟩,aM,aL,λi av aG aH ag=>?_⟩,U⟩
 .rw[aO,h.size]
  show _=Z.N+(if G.l+1<26 then 1 else if G.l+1<27 then 2 else 3)
  rw[Tm U,Tm U,Tm U,Tm U]
 .rw[Y i U (by cases k<;>simp[Stat.wk]<;>omega)]at ag
  rw[aF];exact h.old i av aG aH ag
end
end Go.aO
