/- Part 13 of a law on fees: no conditions. -/
import Derived.Test.YthiiblonjmmnfaaGreatDoorP11
import Derived.Conc.ClockLaws
set_option maxHeartbeats 8000000
set_option maxRecDepth 100000
set_option linter.all false
namespace Go.aN
attribute [-simp] Go.Sem.runT_eq
open Go.Proofs Go.Conc Go.ConcN
section
variable{X:dJ}{Z:Stat}[gh X Z]{G au:bI}{u ay w:World}{t a':Trace}{k:Bool}{g g':Goroutine}{s a6:bZ}{a2:Bool}{ρ ai:Ren}{V b6:cY}{aG dc:World}{aL:Tape}{kd:CallKind}{x y:bs}{n j cM bn l aH:Nat}{rem jU:List Nat}{bz bA cL nR nO nP bh:Nat}{M bR:Mem}
def sG(r:Base Z G u t)(I:G.s k=⟨.eK l,a2⟩)(c:LCtx)(H:nI X Z G k u c kd bh)(d:Acc (ds X.Q) c.V)(f:∀(i:Nat) b o,M[i]?=some (true,b,o)->bh<=b)(K:cn (hn Z.z.T kd) Z G (Z.wk k) ⟨l,rem,bz,bA,cL,M⟩ c.base x g u n j){a:Nat}(E:n=a+1)(z:At (hn Z.z.T kd) a ⟨l,rem,bz,bA,cL,M⟩ x){ops:List gO}(he:Edge.bH ops ⟨aH,jU,bz,bA,cL,bR⟩∈(hn Z.z.T kd).cq ⟨l,rem,bz,bA,cL,M⟩)(D:14<=aH->14<=l)(ok:lk aH jU=true)(w:aH<=16->bR=np Z.z.T bz bA cL aH):
 cD X Z G k g u t (2,⟨c.V,d⟩,(n*500+j)*10000000000):=by
 subst E;obtain⟨y,ay,bx,bn,h,J,calm,keep,cB,C⟩:=K.bH (au:=(G.grow u.heap.size (Z.wk k)).st k ⟨.eK aH,a2⟩) (t:=t) (ru _ _) (ua _ _) z he (λb=>rfl) rfl;refine sF r I c H d D (J false) calm (λb B F=>?_) cB ok (λi b o e=>?_) w h (by have:=h.le;omega)
 .obtain⟨q,i,o,e⟩:=keep b B F
  exact⟨q,f i b o e⟩
 .obtain⟨L,p⟩:=C i true b o e
  exact f i b L p
def x'(d:Base Z G u t)(F:G.s k=⟨.eK l,a2⟩)(c:LCtx)(H:nI X Z G k u c kd bh)(h:Acc (ds X.Q) c.V)(B:∀(i:Nat) b o,M[i]?=some (true,b,o)->bh<=b)(J:cn (hn Z.z.T kd) Z G (Z.wk k) ⟨l,rem,bz,bA,cL,M⟩ c.base x g u n j){a:Nat}(D:n=a+1)(w:At (hn Z.z.T kd) a ⟨l,rem,bz,bA,cL,M⟩ x){o:Obj}{to:Nat->rH}(he:Edge.new true o to∈(hn Z.z.T kd).cq ⟨l,rem,bz,bA,cL,M⟩){nR nO nP:Nat}(K:to u.heap.size=⟨aH,[],nR,nO,nP,M++[(true,u.heap.size,o)]⟩)(C:14<=aH->14<=l)(ok:lk aH []=true)(r:M++[(true,u.heap.size,o)]=np Z.z.T nR nO nP aH):
 cD X Z G k g u t (2,⟨c.V,h⟩,(n*500+j)*10000000000):=by
 subst D;obtain⟨y,ay,bn,f,I,calm,keep,P⟩:=J.xK (au:=(G.grow u.heap.size (Z.wk k)).st k ⟨.eK aH,a2⟩) (ru _ _) (ua _ _) w he (λb=>rfl) rfl d.mz d.eJ;rw[K]at f;refine sF (bx:=[]) d F c H h C (I false) calm (λb z E=>absurd (keep b z) E) (λe he=>(by cases he)) ok (λi b L e=>?_) (λ_=>r) f (by have:=f.le;omega);rcases Nat.lt_or_ge i M.length with aj|aj
 .rw[PF aj]at e
  exact B i b L e
 .rw[PE aj]at e
  rcases p:i-M.length with _|q
  .rw[p]at e
   simp at e;rw[<-e.1];exact H.dA
  .rw[p]at e;simp at e
def Cb(p:Base Z G u t)(I:G.s k=⟨.eK l,a2⟩)(c:LCtx)(H:nI X Z G k u c kd bh)(q:Acc (ds X.Q) c.V)(C:∀(i:Nat) b o,M[i]?=some (true,b,o)->bh<=b)(h:cn (hn Z.z.T kd) Z G (Z.wk k) ⟨l,rem,bz,bA,cL,M⟩ c.base x g u n j){a:Nat}(E:n=a+1)(B:At (hn Z.z.T kd) a ⟨l,rem,bz,bA,cL,M⟩ x){f:FuncId}{id:Nat}{ops:Array Oper}{L:List (List Nat)}(he:Edge.ord f id ops L (λr=>⟨aH,r.filter (· < 2),bz,bA,cL,M⟩)∈(hn Z.z.T kd).cq ⟨l,rem,bz,bA,cL,M⟩)(D:14<=aH->14<=l)(ok:∀r:List Nat,lk aH (r.filter (· < 2))=true)(z:M=np Z.z.T bz bA cL aH):
 cD X Z G k g u t (2,⟨c.V,q⟩,(n*500+j)*10000000000):=by
 subst E;obtain⟨w,y,bn,K,d,J⟩:=h.uQ (ru _ _) (ua _ _) B he;have r:=jv p k ⟨.eK aH,a2⟩ u.heap.size (u.drawn+1);exact sF (bx:=[]) p I c H q D (J false) (Calm.at u _) (λb P F=>absurd rfl F) (λe he=>(by cases he)) (ok w) C (λ_=>z) ⟨d.on,d.le,rfl,rfl,rfl,d.mem,h.own.rely h.mem r⟩ (by have:=d.le;omega)
def Ay(r:List Nat):(r.filter (· < 2)).all (· < 2)=true:=by rw[List.all_eq_true];intro a c;exact(List.mem_filter.1 c).2
def Hc(T:Nat):gY false (cB (r' false T)) = [⟨.cell ⟨T,13,none⟩,false,false⟩,⟨.cell ⟨T,14,none⟩,false,false⟩,⟨.cell ⟨T,15,none⟩,false,false⟩,⟨.cell ⟨T,16,none⟩,false,false⟩,⟨.cell ⟨T,17,none⟩,false,false⟩]:=rfl
def ES(a j m:Nat)(h:m<100000):(a*500+450)*10000000000+m*100000<((a+1)*500+j)*10000000000:=by omega
def kF(u:World):fF [] u:=⟨λi _ _ _ e=>by simp at e,λi _ _ _ _ _ _ _ e=>by simp at e⟩
def kL(Z:Stat)(G:bI)(i:Nat):Own Z G i []:=λi _ _ _ e=>by simp at e
def KC(l:Base Z G u t)(F:G.s k=⟨.eK 4,a2⟩)(c:LCtx)(H:nI X Z G k u c kd bh)(p:Acc (ds X.Q) c.V)(D:∀(i:Nat) b o,M[i]?=some (true,b,o)->bh<=b)(B:M=np Z.z.T bz bA cL 3)(d:cn (hn Z.z.T kd) Z G (Z.wk k) ⟨4,[],bz,bA,cL,M⟩ c.base x g u n j){a:Nat}(E:n=a+1)(q:At (hn Z.z.T kd) a ⟨4,[],bz,bA,cL,M⟩ x):
 cD X Z G k g u t (2,⟨c.V,p⟩,(n*500+j)*10000000000):=by
 subst E;obtain⟨w,z⟩:=q.lift (ru _ _) (f:=56) (args:=qO Z.z.T bz bA) (cl:=λ_:Unit=>unit) (to:=λ_=>⟨14,[],bz,bA,cL,M⟩) Pl;have r:=jv l k ⟨.db 0,a2⟩ u.heap.size u.drawn;let bo:RCtx:={toLCtx:=c,kd:=kd,bz:=bz,bA:=bA,cL:=cL,M:=M,mJ:=x,nr:=a,bh:=bh}
 have C:bo.Ok X Z ((G.grow u.heap.size (Z.wk k)).st k ⟨.db 0,a2⟩) k (u.at u.drawn):=
  ⟨H.wait.rely (dh:=(G.grow u.heap.size (Z.wk k)).st k ⟨.db 0,a2⟩) rfl r H.wait.heap.floor,(w ()).1,d.mem,d.own.rely d.mem r,B,q.Bf (f:=56) (args:=qO Z.z.T bz bA) (cl:=λ_:Unit=>unit) (to:=λ_=>⟨14,[],bz,bA,cL,M⟩) Pl,H.b4,D,H.dA⟩
 have I:stepG aF false g u=.go ⟨Frame.enter aF 56 (qO Z.z.T bz bA) .normal,bo.jT,.running,none,none⟩ u:=by obtain⟨st,off,rfl⟩:=d.shape;exact z false c.base st off u
 have hd:=FQ Z.z.T bz bA;exact cD.still (a6:=⟨.db 0,a2⟩) (n:=u.drawn) l F y2 ⟨rfl,rfl,rfl,rfl,(λe=>by cases e),⟨λe=>(by cases e),λe=>(by cases e)⟩⟩ I rfl
  (.db (n:=20) (j:=400) (x:=(Frame.enter aF 56 (qO Z.z.T bz bA) .normal,[])) bo rfl (λh=>absurd h (by decide)) C p ⟨⟨_,hd,rfl⟩,Pk,rfl,rfl,rfl,kF _,kL _ _ _⟩) (dZ.last (ES a j _ (by decide)))
def KF(d:Base Z G u t)(p:G.s k=⟨.eK 15,a2⟩)(c:LCtx)(H:nI X Z G k u c kd bh)(q:Acc (ds X.Q) c.V)(C:∀(i:Nat) b o,M[i]?=some (true,b,o)->bh<=b)(z:M=np Z.z.T bz bA cL 3)(l:cn (hn Z.z.T kd) Z G (Z.wk k) ⟨15,[],bz,bA,cL,M⟩ c.base x g u n j){a:Nat}(D:n=a+1)(B:At (hn Z.z.T kd) a ⟨15,[],bz,bA,cL,M⟩ x):
 cD X Z G k g u t (2,⟨c.V,q⟩,(n*500+j)*10000000000):=by
 subst D;have f:G.aU=true:=d.bT.dO k (by rw[p];rfl);have F:=d.c6.sI k (by rw[p];rfl);have r:=jv d k ⟨.eK 16,a2⟩ u.heap.size u.drawn;have hd:Does u (r' false Z.z.T) u (#[⟨.cell ⟨Z.z.T,13,none⟩,false,false⟩]++(#[⟨.cell ⟨Z.z.T,14,none⟩,false,false⟩]++(#[⟨.cell ⟨Z.z.T,15,none⟩,false,false⟩]++(#[⟨.cell ⟨Z.z.T,16,none⟩,false,false⟩]++(#[⟨.cell ⟨Z.z.T,17,none⟩,false,false⟩]++#[]))))):=
  .load (d.cells f 0 _ rfl) (.load (d.cells f 1 _ rfl) (.load (d.cells f 2 _ rfl) (.load (d.cells f 3 _ rfl) (.load (d.cells f 4 _ rfl) (.nil _)))))
 obtain⟨y,bn,w,_,I⟩:=l.k0 (au:=(G.grow u.heap.size (Z.wk k)).st k ⟨.eK 16,a2⟩) (to:=⟨16,[],bz,bA,cL,M⟩) (ru _ _) (ua _ _) B Pl hd ⟨l.mem,l.own.rely l.mem r⟩;refine sF (aH:=16) d p c H q (λ_=>by decide) (I false) (Calm.refl u) (λb K E=>absurd rfl E) (λe he=>?_) rfl C (λ_=>z) w (by have:=w.le;omega);rw[Hc]at he;have J:ef Z ((G.grow u.heap.size (Z.wk k)).st k ⟨.eK 16,a2⟩)=.done:=Base.done f;have T:=λo h=>@j3.cq Z ((G.grow u.heap.size (Z.wk k)).st k ⟨.eK 16,a2⟩) t (Z.wk k) u.heap.size o h d.eJ.1 J F
 simp only[List.mem_cons,PD,or_false]at he;rcases he with rfl|rfl|rfl|rfl|rfl<;>exact T _ (by decide)
def KB(P:Base Z G u t)(am:G.s k=⟨.eK 17,a2⟩)(c:LCtx)(H:nI X Z G k u c kd bh)(E:Acc (ds X.Q) c.V)(ag:∀(i:Nat) b o,M[i]?=some (true,b,o)->bh<=b)(w:cn (hn Z.z.T kd) Z G (Z.wk k) ⟨17,rem,bz,bA,cL,M⟩ c.base x g u n j){a:Nat}(aj:n=a+1)(aa:At (hn Z.z.T kd) a ⟨17,rem,bz,bA,cL,M⟩ x):
 cD X Z G k g u t (2,⟨c.V,E⟩,(n*500+j)*10000000000):=by
 subst aj;obtain⟨bR,ak,z,ao⟩:=aa.jP (ops:=qD 2 0) (v:=gX) Pl;obtain⟨ay,hd,hm,Q,mn,aq,ah,af,aE,_⟩:=sC ak w.mem;have ar:=z ⟨_,_,_,hd⟩;obtain⟨V,ρ,cs,o⟩:=c;have W:=H.wait;obtain⟨L,aD⟩:∃L,L=V:=⟨_,rfl⟩
 have F:=W.cs;have q:=W.some;dsimp only at F q;obtain⟨f,h,d,gW,S,T,C,ae⟩:∃f h d gW,V.cs=f::h/\cs=d::gW/\cG X.K ρ f d/\cA (cG X.K ρ) h gW:=by
  generalize V.cs=l at F q;cases F with
  |nil=>exact absurd rfl q
  |@cons x y l m z r=>exact⟨_,_,_,_,rfl,rfl,z,r⟩
 subst T;have cu:Kept f:=λe aw J=>by
  have:=C.mode;rw[J]at this;generalize d.mode=aB at this;cases this with
  |panicking r=>
   cases r with
   |cons I _=>exact I.recovered.1
 have av:Kept d:=λe aw J=>by
  have:=C.mode;rw[J]at this;generalize f.mode=aB at this;cases this with
  |panicking r=>
   cases r with
   |cons I _=>exact I.recovered.2
 obtain⟨_,N,Y⟩:=X.stub V W.going _ kd f h W.xl rfl W.fr S cu;obtain⟨B,U,aC,g4⟩:=Cw X.eo N W.going W.self rfl Y;have ad:cG X.K ρ (er kd f gX) (er kd d gX):=by
  unfold er;rcases W.xl with rfl|rfl
  .exact pa C (NA ρ)
  .exact C
 have keep:∀b,b<u.heap.size->ay.heap[b]?≠u.heap[b]?->fO Z G (Z.wk k) b/\bh<=b:=λb p q=>Classical.byContradiction λz=>q (ah b λi o e=>by have e:M[i]?=some (true,b,o):=e;obtain⟨q1,_,K⟩:=w.own i true b o e;exact z ⟨⟨q1,K rfl⟩,ag i b o e⟩)
 have aA:iE Z G ((G.grow u.heap.size (Z.wk k)).st k ⟨.lift,a2⟩) (Z.wk k) bh u ay:=ov P Q keep (λb p=>if_pos p) rfl;have dt:=W.rely (dh:=(G.grow u.heap.size (Z.wk k)).st k ⟨.lift,a2⟩) rfl aA H.b4;have ap:stepG aF false g u=.go ⟨er kd d gX,gW++o.base,.running,none,none⟩ ay (cB (ih M (qD 2 0))).toArray:=by obtain⟨st,off,rfl⟩:=w.shape;have:=ao false st off d (gW++o.base) u ay _ av hd;rw[show x.2++(LCtx.base ⟨V,ρ,d::gW,o⟩)=d::(gW++o.base) by rw[ar];rfl];exact this
 have al:lG X Z ((G.grow u.heap.size (Z.wk k)).st k ⟨.lift,a2⟩) (Z.wk k) ρ ⟨er kd f gX,h,V.w⟩:=⟨dt.jV.fq,dt.jV.own,dt.jV.T,dt.jV.sB,dt.jV.uS,dt.jV.inexact,dt.jV.fits⟩
 have ai:dZ X.Q (2,(⟨⟨er kd f gX,h,V.w⟩,ds.acc B.acc⟩:ku X.Q),0) (2,⟨V,E⟩,((a+1)*500+j)*10000000000):=by
  rcases g4 with g4|g4
  .refine .right _ ?_
   have e:(⟨⟨er kd f gX,h,V.w⟩,ds.acc B.acc⟩:ku X.Q)=⟨V,E⟩:=Subtype.ext g4.symm;rw[e];exact .right _ (by omega)
  .exact dZ.mid g4
 refine cD.kI (a6:=⟨.lift,a2⟩) P am y2 ⟨rfl,rfl,rfl,rfl,(λe=>by cases e),⟨λe=>(by cases e),λe=>(by cases e)⟩⟩ ap rfl Q (λb p q=>(keep b p q).1) (λe he=>?_) (λe=>by cases e)
  (.lift (a2:=a2) (fr:=er kd d gX) ⟨⟨er kd f gX,h,V.w⟩,ρ,gW,o⟩ rfl rfl rfl ⟨B,U,⟨dt.fit,dt.room,ad,ae,dt.heap⟩,al,dt.o⟩ (ds.acc B.acc)) ai
 obtain⟨i,own,b,R,aG,wr,D,rfl,au⟩:=af e he;have D:M[i]?=some (own,b,R):=D;obtain⟨q1,az,K⟩:=w.own i own b R D;have p:=fB w.mem D;have ax:((G.grow u.heap.size (Z.wk k)).st k ⟨.lift,a2⟩).bO b=G.bO b:=if_pos p;refine .mem rfl (by rw[aq];exact p) (by simp) ⟨q1.2.1,q1.2.2⟩ (λe=>absurd e q1.1) ?_;show fO Z ((G.grow u.heap.size (Z.wk k)).st k ⟨.lift,a2⟩) (Z.wk k) b\/((G.ro (Z.wk k) b\/(((G.grow u.heap.size (Z.wk k)).st k ⟨.lift,a2⟩).bO b=Z.wk k/\b≠Z.z.T))/\wr=false)
 unfold fO;rw[ax];cases wr with
 |true=>exact .inl ⟨q1,K (au rfl)⟩
 |false=>exact .inr ⟨az.symm.imp id λx=>⟨x,q1.1⟩,rfl⟩
def KE(f:Base Z G u t)(w:G.s k=⟨.eK l,a2⟩)(c:LCtx)(H:nI X Z G k u c kd bh)(p:Acc (ds X.Q) c.V)(ok:lk l rem=true)(q:∀(i:Nat) b o,M[i]?=some (true,b,o)->bh<=b)(C:l<=16->M=np Z.z.T bz bA cL l)(d:cn (hn Z.z.T kd) Z G (Z.wk k) ⟨l,rem,bz,bA,cL,M⟩ c.base x g u n j):
 cD X Z G k g u t (2,⟨c.V,p⟩,(n*500+j)*10000000000):=by
 rcases d.quiet (ru _ _)with⟨a,B,z⟩|⟨y,bn,K,E,I⟩
 case inr=>
  have r:=jv f k ⟨.eK l,a2⟩ u.heap.size u.drawn;exact sF (bx:=[]) f w c H p id (I false u) (Calm.refl u) (λb J F=>absurd rfl F) (λe he=>(by cases he)) ok q C ⟨E.on,E.le,rfl,rfl,rfl,E.mem,d.own.rely d.mem r⟩ (by omega)
 rcases Kz ok with rfl|rfl|rfl|rfl|⟨rfl,rfl|⟨r,rfl,D⟩|⟨r,rfl,D⟩⟩|rfl|⟨rfl,rfl|⟨r,rfl,D⟩|⟨r,rfl,D⟩⟩|rfl|rfl
 .obtain rfl:=C (by decide)
  exact x' f w c H p q d B z (aH:=1) Pl rfl (λh=>absurd h (by decide)) rfl rfl
 .obtain rfl:=C (by decide)
  exact x' f w c H p q d B z (aH:=2) Pl rfl (λh=>absurd h (by decide)) rfl rfl
 .obtain rfl:=C (by decide)
  exact x' f w c H p q d B z (aH:=3) Pl rfl (λh=>absurd h (by decide)) rfl rfl
 .exact Cb f w c H p q d B z (aH:=4) Pl (λh=>absurd h (by decide)) (λr=>Ay r) (C (by decide))
 .exact KC f w c H p q (C (by decide)) d B z
 .exact sG f w c H p q d B z (aH:=4) Pl id D C
 .exact sG f w c H p q d B z (aH:=4) Pl id D C
 .exact Cb f w c H p q d B z (aH:=15) Pl (λ_=>by decide) (λr=>Ay r) (C (by decide))
 .exact KF f w c H p q (C (by decide)) d B z
 .exact sG f w c H p q d B z (aH:=15) Pl id D C
 .exact sG f w c H p q d B z (aH:=15) Pl id D C
 .exact sG f w c H p q d B z (aH:=17) (bR:=cK M x8) Pl (λ_=>by decide) rfl (λh=>absurd h (by decide))
 .exact KB f w c H p q d B z
end
section
variable{X:dJ}{Z:Stat}[gh X Z]{G au:bI}{u ay w:World}{t a':Trace}{k:Bool}{g g':Goroutine}{s a6:bZ}{a2:Bool}{ρ ai:Ren}{V b6:cY}{aG dc:World}{aL:Tape}{kd:CallKind}{x y:bs}{n j cM bn l aH:Nat}{rem jU:List Nat}{bz bA cL nR nO nP bh:Nat}{M bR:Mem}
def rQ(q cP m:Nat)(h:cP<m):q+cP*100000<q+m*100000:=by omega
def s9(T:Nat):dk (iV T).P (iV T).ext:=by unfold iV;exact iQ
def xb(T:Nat)(p:DP):(iV T).dA p<=400:=Pk
def oI:(⟨.db l,a2⟩:bZ).c≠.un:=by intro h;cases h
def RCtx.Ok.jJ{c:RCtx}(h:c.Ok X Z G k u):∀(i:Nat) own b o,c.M[i]?=some (own,b,o)->b<u.heap.size:=λ_ _ _ _ e=>fB h.mem e
def z'(d:Base Z G u t)(q:G.s k=⟨.db l,a2⟩)(c:RCtx)(h:c.Ok X Z G k u)(f:Acc (ds X.Q) c.V){cH:Nat}(z:fU ⟨.db l,a2⟩ ⟨.db aH,a2⟩)(w:stepG aF false g u=.go (bQ y c.jT) (u.at cH))(ok:ql aH=true)(j:1<=aH->aH<=7->a2=false)(p:eA (iV Z.z.T) cM ⟨aH,c.bz,c.bA⟩ bn y)(i:bn<=400){m:Nat}(o:cM*500+bn<m):cD X Z G k g u t (2,⟨c.V,f⟩,(c.nr*500+450)*10000000000+m*100000):=by
 have r:=jv d k ⟨.db aH,a2⟩ u.heap.size cH;exact cD.still (a6:=⟨.db aH,a2⟩) (n:=cH) d q oI z w rfl
  (.db c ok j (h.rely (dh:=(G.grow u.heap.size (Z.wk k)).st k ⟨.db aH,a2⟩) rfl r h.l.heap.floor h.jJ) f ⟨p,i,rfl,rfl,rfl,kF _,kL _ _ _⟩) (dZ.last (rQ _ _ _ o))
def Ot(T:Nat)(v:Int):gY true (cB (qv T v)) = [⟨.cell ⟨T,4,none⟩,false,true⟩]:=rfl
def Base.yg(c:Base Z G u t)(f:(G.s k).c≠.un)(hd:(G.s k).deaf=0)(h:G.aU=true)(fn:FuncId)(pos:String):hr (pl Z G) (t++MemOp.ofEvents (Z.wk k) fn pos #[⟨.cell ⟨Z.z.T,4,none⟩,false,true⟩]) (Z.wk k):=by
 have d:=c.c6.c6;rw[Base.done h]at d;have e:MemOp.ofEvents (Z.wk k) fn pos #[⟨.cell ⟨Z.z.T,4,none⟩,false,true⟩]=#[{g:=Z.wk k,fn,pos,act:=.access ⟨.cell ⟨Z.z.T,4,none⟩,false,true⟩}]:=by rw[ofEvents_eq];simp[MemAct.ofEvent]
 rw[e];exact d.yg c.ap.kB (c.c6.st _ (.inr (.inl ⟨k,rfl,f⟩))) ⟨rfl,rfl⟩ ((c.c6.o8 k).trans hd) (.inl ⟨4,rfl,by omega,by omega⟩)
def tP(d:Base Z G u t)(f:G.s k=⟨.db l,a2⟩)(c:RCtx)(h:c.Ok X Z G k u)(i:Acc (ds X.Q) c.V)(H:cn (iV Z.z.T) Z G (Z.wk k) ⟨l,c.bz,c.bA⟩ c.jT x g u n j){a:Nat}(F:n=a+1)(D:At (iV Z.z.T) a ⟨l,c.bz,c.bA⟩ x)(b:Bool)(o:G.aU=b)(he:Edge.fix true false [.val (.int .u32 (kU b))] (qv Z.z.T (kU b)) ⟨aH,c.bz,c.bA⟩∈(iV Z.z.T).cq ⟨l,c.bz,c.bA⟩)(ok:ql aH=true)(E:1<=aH->aH<=7->a2=false)(once:cx (tO a2 aH) (G.s (!k)).role G.mu G.ms G.aU G.a7)(C:(tO a2 aH).fs=(tO a2 l).fs)(B:7<=aH->b=true):
 cD X Z G k g u t (2,⟨c.V,i⟩,(c.nr*500+450)*10000000000+(n*500+j)*100000):=by
 subst F;have wd:=Word.refl Z u;have r:=ns d wd d.ww.T (au:=G.wk k ⟨.db aH,a2⟩ G.mu G.ms G.aU G.a7 G.v G.m) rfl rfl (Z.wk k);obtain⟨y,bn,q,_,p⟩:=H.k0 (au:=G.wk k ⟨.db aH,a2⟩ G.mu G.ms G.aU G.a7 G.v G.m) (s9 _) (xb _) D he (.mark (.load (d.ww.zJ o) (.nil _))) ⟨kF _,kL _ _ _⟩;have z:=d.bT.rq k;rw[f]at z;rw[Ot]at p;have w:(⟨.db aH,a2⟩:bZ).dO=true->G.aU=true:=λe=>by rw[o];exact B (of_decide_eq_true e)
 refine cD.sync (a6:=⟨.db aH,a2⟩) (l:=[⟨.cell ⟨Z.z.T,4,none⟩,false,true⟩]) d f oI (p false) rfl wd d.ww.T d.ww.W once z (λe=>by cases e) rfl ⟨λe=>(by cases e),λe=>(by cases e)⟩ C rfl (λe he=>?_) rfl (λe=>.inr (w e)) (λe=>.inr ?_) (λe=>by cases e)
  (.db c ok E (h.rely (dh:=G.wk k ⟨.db aH,a2⟩ G.mu G.ms G.aU G.a7 G.v G.m) rfl r h.l.heap.floor h.jJ) i q) (dZ.last (by have:=q.le;omega)) (.inl rfl) (.inl rfl)
 .rw[Ps he];exact .bM (by decide) (by decide) (λ_=>rfl)
 .exact d.yg (by rw[f];exact oI) (by rw[f];rfl) (w e) _ _
def Ft(P:Base Z G u t)(c:RCtx)(h:c.Ok X Z G k u):fF (o4 Z.z c.bz c.bA) u/\Own Z G (Z.wk k) (o4 Z.z c.bz c.bA):=by
 have L:=P.hi;have cur:∀b o,(b=Z.z.R\/b=Z.z.fl\/b=Z.z.fo\/b=Z.z.Fr)->Z.aI.heap[b]?=some o->u.heap[b]?=some o:=λb o d e=>(P.ww.old b (L.fq b (.inr d)).2 (L.fq b (.inr d)).1.1).trans e
 have q:=cur _ _ (.inl rfl) L.cT;have l:=cur _ _ (.inr (.inl rfl)) L.kE;have p:=cur _ _ (.inr (.inr (.inl rfl))) L.kk;have g:=cur _ _ (.inr (.inr (.inr rfl))) L.kD;have b8:c.M[0]?=some (true,c.bz,.cells #[pt Z.z.T] 60 (0,0)):=by rw[h.tA];rfl
 have H:c.M[1]?=some (true,c.bA,.cells #[i0] 3 (0,0)):=by rw[h.tA];rfl
 have T:=h.mem.has 0 _ _ _ b8;have S:=h.mem.has 1 _ _ _ H;have K:=h.own 0 _ _ _ b8;have J:=h.own 1 _ _ _ H;have Y:=h.mem.eV 0 1 _ _ _ _ _ _ b8 H (by decide);have ro:∀b,(b=Z.z.R\/b=Z.z.fl\/b=Z.z.fo\/b=Z.z.Fr)->G.ro (Z.wk (!k)) b/\G.ro (Z.wk k) b:=λb d=>⟨L.ro _ b (.inr (.inr d)),L.ro _ b (.inr (.inr d))⟩
 have Q:Z.wk (!k)≠Z.wk k:=by cases k<;>simp[Stat.wk]
 have r:∀b,(b=Z.z.R\/b=Z.z.fl\/b=Z.z.fo\/b=Z.z.Fr)->c.bz≠b/\c.bA≠b:=λb d=>⟨λe=>(K.2.2 rfl).2 _ Q (e ▸ (ro b d).1),λe=>(J.2.2 rfl).2 _ Q (e ▸ (ro b d).1)⟩
 have C:=r _ (.inl rfl);have z:=r _ (.inr (.inl rfl));have B:=r _ (.inr (.inr (.inl rfl)));have w:=r _ (.inr (.inr (.inr rfl)));have bJ:∀{b D:Nat} {o I:Obj},u.heap[b]?=some o->u.heap[D]?=some I->o≠I->b≠D:=λR M F e=>by subst e;rw[R]at M;exact F (Pm M)
 have U:Z.z.R≠Z.z.fl:=bJ q l (by simp);have V:Z.z.R≠Z.z.fo:=bJ q p (by simp);have a3:Z.z.R≠Z.z.Fr:=bJ q g (by simp);have a4:Z.z.fl≠Z.z.fo:=bJ l p (by simp);have a5:Z.z.fl≠Z.z.Fr:=bJ l g (by simp);have W:Z.z.fo≠Z.z.Fr:=bJ p g (by simp);refine⟨⟨λi own b o e=>?_,λi j own b o aa D I e E F=>?_⟩,λi own b o e=>?_⟩
 .unfold o4 at e
  rcases i with _|_|_|_|_|_|i<;>simp at e<;>obtain⟨_,rfl,rfl⟩:=e
  .exact T
  .exact S
  .exact q
  .exact l
  .exact p
  .exact g
 .unfold o4 at e E
  rcases i with _|_|_|_|_|_|i<;>simp at e<;>obtain⟨_,rfl,_⟩:=e<;>rcases j with _|_|_|_|_|_|j<;>simp at E<;>obtain⟨_,rfl,_⟩:=E<;>first|(exact absurd rfl F)|assumption|exact Ne.symm (by assumption)|exact C.1|exact C.2|exact z.1|exact z.2|exact B.1|exact B.2|exact w.1|exact w.2|exact C.1.symm|exact C.2.symm|exact z.1.symm|exact z.2.symm|exact B.1.symm|exact B.2.symm|exact w.1.symm|exact w.2.symm
 .have f:∀b,(b=Z.z.R\/b=Z.z.fl\/b=Z.z.fo\/b=Z.z.Fr)->(b≠Z.z.T/\b≠Z.W/\b≠Z.ch)/\(G.bO b=Z.wk k\/G.ro (Z.wk k) b):=λb d=>⟨(L.fq b (.inr d)).1,.inr (ro b d).2⟩
  unfold o4 at e;rcases i with _|_|_|_|_|_|i<;>simp at e<;>obtain⟨rfl,rfl,_⟩:=e
  .exact⟨K.1,K.2.1,λe=>by cases e⟩
  .exact⟨J.1,J.2.1,λe=>by cases e⟩
  .exact⟨(f _ (.inl rfl)).1,(f _ (.inl rfl)).2,λe=>by cases e⟩
  .exact⟨(f _ (.inr (.inl rfl))).1,(f _ (.inr (.inl rfl))).2,λe=>by cases e⟩
  .exact⟨(f _ (.inr (.inr (.inl rfl)))).1,(f _ (.inr (.inr (.inl rfl)))).2,λe=>by cases e⟩
  .exact⟨(f _ (.inr (.inr (.inr rfl)))).1,(f _ (.inr (.inr (.inr rfl)))).2,λe=>by cases e⟩
def wJ(p:Base Z G u t)(w:G.s k=⟨.db l,a2⟩)(c:RCtx)(h:c.Ok X Z G k u)(q:cn (iV Z.z.T) Z G (Z.wk k) ⟨l,c.bz,c.bA⟩ c.jT x g u n j){a:Nat}(d:At (iV Z.z.T) a ⟨l,c.bz,c.bA⟩ x){f:FuncId}{args:Array Value}{to:Nat}(he:Edge.lift f args (λ_:Unit=>unit) (λ_=>⟨to,c.bz,c.bA⟩)∈(iV Z.z.T).cq ⟨l,c.bz,c.bA⟩)(a6:bZ):
 ∃bo:gL,bo.toRCtx=c/\bo.bJ=a/\bo.Ok X Z ((G.grow u.heap.size (Z.wk k)).st k a6) k to (u.at u.drawn)/\stepG aF false g u=.go ⟨Frame.enter aF f args .normal,bo.hL,.running,none,none⟩ u:=by
 obtain⟨i,o⟩:=d.lift (s9 _) he;have r:=jv p k a6 u.heap.size u.drawn;refine⟨{toRCtx:=c,iP:=x,bJ:=a},rfl,rfl,⟨h.rely (dh:=(G.grow u.heap.size (Z.wk k)).st k a6) rfl r h.l.heap.floor h.jJ,(i ()).1,d.Bf he⟩,?_⟩;obtain⟨st,off,rfl⟩:=q.shape;exact o false c.jT st off u
def wi(q a j m:Nat)(h:m<5000000):q+(a*500+450)*100000+m<q+((a+1)*500+j)*100000:=by omega
def ET(q m:Nat):(q*500+400)*10000000000<(q*500+450)*10000000000+m:=by omega
def FR(f:Base Z G u t)(l:G.s k=⟨.db 5,false⟩)(c:RCtx)(h:c.Ok X Z G k u)(C:Acc (ds X.Q) c.V)(T:cn (iV Z.z.T) Z G (Z.wk k) ⟨5,c.bz,c.bA⟩ c.jT x g u n j){a:Nat}(P:n=a+1)(L:At (iV Z.z.T) a ⟨5,c.bz,c.bA⟩ x):
 cD X Z G k g u t (2,⟨c.V,C⟩,(c.nr*500+450)*10000000000+(n*500+j)*100000):=by
 subst P;have o:=f.bT.side k;rw[l]at o;have o:cx .J (G.s (!k)).role G.mu G.ms G.aU G.a7:=o;obtain⟨q,Y,R⟩:=cx.raise o;have z:(G.s (!k)).role.fs=false:=by have p:=o.mu;generalize (G.s (!k)).role=b at p;cases b<;>first|rfl|(simp[iw,iK]at p)
 have Q:∀j,(G.s j).dO=false:=λj=>by
  rcases d:(G.s j).dO with _|_
  .rfl
  .rw[f.bT.dO j d]at q;cases q
 have e:∀j,(G.wk k ⟨.db 7,false⟩ G.mu G.ms true G.a7 G.v G.m).s j=if j=k then⟨.db 7,false⟩else G.s j:=λ_=>rfl
 have wd:Word Z u (u.setCell ⟨Z.z.T,4,none⟩ (.int .u32 1)):=Word.set 4 _ (.inl rfl);have B:(u.setCell ⟨Z.z.T,4,none⟩ (.int .u32 1)).heap[Z.z.T]?=some (.cells (dW Z.z G.mu G.ms true G.a7) 105 (0,0)):=Word.T (au:={G with aU:=true}) f (Nt ..);have hW:=Word.W f 4 (.int .u32 1);have r:=ns f wd B (au:=G.wk k ⟨.db 7,false⟩ G.mu G.ms true G.a7 G.v G.m) rfl rfl (Z.wk k);obtain⟨y,bn,D,_,S⟩:=T.k0 (au:=G.wk k ⟨.db 7,false⟩ G.mu G.ms true G.a7 G.v G.m) (to:=⟨7,c.bz,c.bA⟩) (s9 _) (xb _) L Pl (.mark (.store (f.ww.zJ rfl) (f.ww.mi 4) (.nil _))) ⟨kF _,kL _ _ _⟩;have F:=f.bT.rq k;rw[l]at F;have E:(⟨.db 7,false⟩:bZ).c=.un↔(⟨.db 5,false⟩:bZ).c=.un:=⟨λe=>(by cases e),λe=>(by cases e)⟩
 have I:=f.bT.wk l (a6:=⟨.db 7,false⟩) R F (λe=>by cases e) rfl E (λ_=>rfl) (λ_=>rfl);have H:dv Z (G.wk k ⟨.db 7,false⟩ G.mu G.ms true G.a7 G.v G.m) _:=dv.of f wd B hW rfl rfl;have M:∀a:dR,a.g0 (G.wk k ⟨.db 7,false⟩ G.mu G.ms true G.a7 G.v G.m)↔a.g0 G:=by
  intro a;cases a with
  |main=>exact Iff.rfl
  |de j=>
   show((G.wk k ⟨.db 7,false⟩ G.mu G.ms true G.a7 G.v G.m).s j).c≠.un↔(G.s j).c≠.un;rw[e];split
   .rename_i d;subst d;rw[l];exact not_congr E
   .exact Iff.rfl
  |dK=>exact Iff.rfl
 have W:ef Z G=.written (Z.wk k):=by
  unfold ef;rw[q];cases k with
  |false=>rw[l];rfl
  |true=>
   have z:(G.s false).role.fs=false:=z;rw[z,l];rfl
 have V:ep Z (G.wk k ⟨.db 7,false⟩ G.mu G.ms true G.a7 G.v G.m) (t++MemOp.ofEvents (Z.wk k) g.frame.fn g.frame.place #[⟨.cell ⟨Z.z.T,4,none⟩,true,true⟩]) u.heap.size:=by
  refine ep.raise (au:=G.wk k ⟨.db 7,false⟩ G.mu G.ms true G.a7 G.v G.m) (f.ap.same rfl rfl) f.c6 ⟨λb _=>rfl,rfl⟩ (.de k) (by show(G.s k).c≠.un;rw[l];exact oI) W rfl f.eJ.1 M (by show(G.s k).deaf=0;rw[l];rfl) (λa=>?_) (λj d=>?_) (λj d=>?_) (λd=>⟨d,by simp⟩) id
  .cases a with
   |main=>rfl
   |de j=>
    show((G.wk k ⟨.db 7,false⟩ G.mu G.ms true G.a7 G.v G.m).s j).deaf=(G.s j).deaf;rw[e];split
    .rename_i d;subst d;rw[l];rfl
    .rfl
   |dK=>rfl
  .rw[e]at d
   split at d
   .rename_i w;rw[w]
   .rw[Q j]at d;cases d
  .rw[e]at d
   split at d
   .cases d
   .rename_i w
    exact⟨d,λU=>by cases U;exact w rfl⟩
 have J:Base Z (G.wk k ⟨.db 7,false⟩ G.mu G.ms true G.a7 G.v G.m) _ _:=f.rest rfl rfl rfl wd.size H I (by rw[wd.size];exact V);exact .go (G.wk k ⟨.db 7,false⟩ G.mu G.ms true G.a7 G.v G.m) ⟨.db 7,false⟩ _ [⟨.cell ⟨Z.z.T,4,none⟩,true,true⟩] _ _ (S false) rfl rfl rfl rfl rfl J (λi _=>eh.same (au:=G.wk k ⟨.db 7,false⟩ G.mu G.ms true G.a7 G.v G.m) rfl rfl wd.size (λb p K _=>wd.keep b p K) H)
  (.db c rfl (λ_ _=>rfl) (h.rely (dh:=G.wk k ⟨.db 7,false⟩ G.mu G.ms true G.a7 G.v G.m) rfl r h.l.heap.floor h.jJ) C D) (dZ.last (rQ _ _ ((a+1)*500+j) (by have:=D.le;omega))) rfl (.inl rfl) (.inl rfl)
def FM(h:ql l=true):l=0\/l=1\/l=2\/l=3\/l=4\/l=5\/l=7\/l=8:=by unfold ql at h;split at h<;>first|(cases h;done)|simp
def FT(d:Base Z G u t)(f:G.s k=⟨.db l,a2⟩)(c:RCtx)(h:c.Ok X Z G k u)(p:Acc (ds X.Q) c.V)(ok:ql l=true)(E:1<=l->l<=7->a2=false)(w:cn (iV Z.z.T) Z G (Z.wk k) ⟨l,c.bz,c.bA⟩ c.jT x g u n j):
 cD X Z G k g u t (2,⟨c.V,p⟩,(c.nr*500+450)*10000000000+(n*500+j)*100000):=by
 rcases w.quiet (s9 _)with⟨a,B,z⟩|⟨y,bn,S,F,q⟩
 case inr=>exact z' (cH:=u.drawn) d f c h p (fU.refl _) (q false u) ok E F.on F.le (by omega)
 have H:=d.bT.side k;rw[f]at H;rcases FM ok with rfl|rfl|rfl|rfl|rfl|rfl|rfl|rfl
 .rcases C:G.aU with _|_
  .have D:a2=false:=by
    cases a2 with
    |false=>rfl
    |true=>have:=cx.Hz H;rw[C]at this;cases this
   subst D;exact tP d f c h p w B z (aH:=1) false C (.head _) rfl (λ_ _=>rfl) H rfl (λh=>absurd h (by decide))
  .exact tP d f c h p w B z (aH:=8) true C (.tail _ (.head _)) rfl (λ_ h=>absurd h (by decide)) H rfl (λ_=>rfl)
 .obtain rfl:=E (by decide) (by decide)
  obtain⟨bo,rfl,rfl,I,q⟩:=wJ d f c h w z (to:=2) Pl ⟨.lock .h4,false⟩;have D:=IG Z.z.T .normal (.inl rfl);subst B;exact cD.still (a6:=⟨.lock .h4,false⟩) (n:=u.drawn) d f oI ⟨rfl,rfl,rfl,rfl,(λe=>by cases e),⟨λe=>(by cases e),λe=>(by cases e)⟩⟩ q rfl
   (.lock (n:=40) (j:=400) (x:=(Frame.enter aF 121 (uH Z.z.T) .normal,[])) bo I p ⟨⟨_,D,rfl⟩,Pk,rfl,rfl,rfl,kF _,kL _ _ _⟩) (dZ.last (wi _ _ _ _ (by decide)))
 .obtain rfl:=E (by decide) (by decide)
  rcases cx.Hy H with⟨C,J⟩|⟨C,J⟩
  .exact tP d f c h p w B z (aH:=3) false C (.head _) rfl (λ_ _=>rfl) J rfl (λh=>absurd h (by decide))
  .exact tP d f c h p w B z (aH:=7) true C (.tail _ (.head _)) rfl (λ_ _=>rfl) J rfl (λ_=>rfl)
 .obtain rfl:=E (by decide) (by decide)
  obtain⟨bo,rfl,rfl,I,q⟩:=wJ d f c h w z (to:=4) Pl ⟨.c7 0,false⟩;obtain⟨K,P⟩:=Ft d bo.toRCtx h;have D:=Fy Z.z.T Z.z.F Z.z.R Z.z.fl Z.z.fo Z.z.Fr bo.bz bo.bA;have r:=jv d k ⟨.c7 0,false⟩ u.heap.size u.drawn;subst B;refine cD.still (a6:=⟨.c7 0,false⟩) (n:=u.drawn) d f oI ⟨rfl,rfl,rfl,rfl,(λe=>by cases e),⟨λe=>(by cases e),λe=>(by cases e)⟩⟩ q rfl
   (.c7 (n:=60) (j:=400) (x:=(Frame.enter aF 57 #[pt bo.bz,pt bo.bA] .normal,[])) bo u.heap.size rfl (λi b o e=>?_) h.l.heap.floor h.jJ Pk I p ⟨⟨_,D,rfl⟩,Pk,rfl,rfl,rfl,K,P.rely K r⟩) (dZ.last (wi _ _ _ _ (by decide)))
  unfold o4 at e;rcases i with _|_|_|_|_|_|i<;>simp at e
 .obtain⟨Q,y,bn,R,F,q⟩:=w.uQ (s9 _) (xb _) z (to:=λ_=>⟨5,c.bz,c.bA⟩) Pl
  exact z' (aH:=5) (cH:=u.drawn+1) d f c h p ⟨rfl,rfl,rfl,rfl,(λe=>by cases e),⟨λe=>(by cases e),λe=>(by cases e)⟩⟩ (q false) rfl (λ_ _=>E (by decide) (by decide)) F.on F.le (by have:=F.le;omega)
 .obtain rfl:=E (by decide) (by decide)
  exact FR d f c h p w B z
 .obtain rfl:=E (by decide) (by decide)
  obtain⟨bo,rfl,rfl,I,q⟩:=wJ d f c h w z (to:=8) Pl ⟨.g9 .ld,false⟩;have D:=Og Z.z.T .normal (.inl rfl);subst B;exact cD.still (a6:=⟨.g9 .ld,false⟩) (n:=u.drawn) d f oI ⟨rfl,rfl,rfl,rfl,(λe=>rfl),⟨λe=>(by cases e),λe=>(by cases e)⟩⟩ q rfl
   (.g9 (n:=20) (j:=400) (x:=(Frame.enter aF 122 (uH Z.z.T) .normal,[])) bo I p ⟨⟨_,D,rfl⟩,Pk,rfl,rfl,rfl,kF _,kL _ _ _⟩) (dZ.last (wi _ _ _ _ (by decide)))
 .obtain⟨M,q⟩:=z.leave Pl
  have r:=jv d k ⟨.eK 14,a2⟩ u.heap.size u.drawn;have L:stepG aF false g u=.go ⟨c.mJ.1.finish unit,c.mJ.2++c.base,.running,none,none⟩ u:=by obtain⟨st,off,rfl⟩:=w.shape;have:=q false st off c.mJ.1 (c.mJ.2++c.base) u (sj h.run);rw[M];exact this
  exact cD.still (a6:=⟨.eK 14,a2⟩) (n:=u.drawn) d f oI ⟨rfl,rfl,rfl,rfl,(λe=>rfl),⟨λe=>(by cases e),λe=>(by cases e)⟩⟩ L rfl
   (.eK (l:=14) c.toLCtx c.kd c.bz c.bA c.cL c.M [] c.bh rfl h.aj h.b4 h.dA (λ_=>h.tA) (h.l.rely (dh:=(G.grow u.heap.size (Z.wk k)).st k ⟨.eK 14,a2⟩) rfl r h.l.heap.floor) p ⟨h.on,Pk,rfl,rfl,rfl,h.mem,h.own.rely h.mem r⟩) (dZ.last (ET _ _))
end
section
variable{X:dJ}{Z:Stat}[gh X Z]{G au:bI}{u ay w:World}{t a':Trace}{k:Bool}{g g':Goroutine}{s a6:bZ}{a2:Bool}{x y:bs}{n j cM bn l aH:Nat}{mu ms:Int}
noncomputable abbrev k7(T:Nat):cS iT:=uC T 4 (105,28) .normal
def s'(T:Nat):dk (k7 T).P (k7 T).ext:=by unfold k7 uC;exact iQ
def HJ(T:Nat)(p:iT):(k7 T).dA p<=400:=by cases p<;>first|exact Pk|(show(2:Nat)<=400;omega)
def y1{p:iT}:(⟨.lock p,a2⟩:bZ).c≠.un:=by intro h;cases h
def Bj(p:iT):(oa p).fs=false:=by cases p<;>rfl
def Ct{p q:iT}(c:oa q=oa p)(d:(⟨.lock q,false⟩:bZ).deaf=(⟨.lock p,false⟩:bZ).deaf):fU ⟨.lock p,false⟩ ⟨.lock q,false⟩:=
 ⟨c,rfl,rfl,d,id,⟨λe=>(by cases e),λe=>(by cases e)⟩⟩
def o1(q cP m:Nat)(h:cP<m):q+cP<q+m:=by omega
def gL.Ok.jJ{c:gL}{to:Nat}(h:c.Ok X Z G k to u):∀(i:Nat) own b o,c.M[i]?=some (own,b,o)->b<u.heap.size:=λ_ _ _ _ e=>fB h.r.mem e
def xx{p q:iT}(i:Base Z G u t)(C:G.s k=⟨.lock p,false⟩)(c:gL)(h:c.Ok X Z G k 2 u)(j:Acc (ds X.Q) c.V)(E:fU ⟨.lock p,false⟩ ⟨.lock q,false⟩)(D:stepG aF false g u=.go (bQ y c.hL) ay)(calm:Calm u ay)(o:ay.heap=u.heap)(B:eA (k7 Z.z.T) cM q bn y)(w:bn<=400){m:Nat}(z:cM*500+bn<m):cD X Z G k g u t (2,⟨c.V,j⟩,(c.nr*500+450)*10000000000+(c.bJ*500+450)*100000+m):=by
 have keep:∀b,b<u.heap.size->ay.heap[b]?≠u.heap[b]?->fO Z G (Z.wk k) b/\u.heap.size<=b:=λb _ f=>absurd (by rw[o]) f
 have r:iE Z G ((G.grow u.heap.size (Z.wk k)).st k ⟨.lock q,false⟩) (Z.wk k) u.heap.size u ay:=ov i calm keep (λb d=>if_pos d) rfl;exact cD.kI (a6:=⟨.lock q,false⟩) (l:=[]) i C y1 E D rfl calm (λb d f=>(keep b d f).1) (λe he=>(by cases he)) (λ_ e he=>(by cases he))
  (.lock c (h.rely (dh:=(G.grow u.heap.size (Z.wk k)).st k ⟨.lock q,false⟩) rfl r h.r.l.heap.floor h.jJ) j ⟨B,w,rfl,rfl,rfl,kF _,kL _ _ _⟩) (dZ.last (o1 _ _ _ z))
def k9{p to:iT}(f:Base Z G u t)(o:G.s k=⟨.lock p,false⟩)(c:gL)(h:c.Ok X Z G k 2 u)(l:Acc (ds X.Q) c.V)(H:cn (k7 Z.z.T) Z G (Z.wk k) p c.hL x g u n j){a:Nat}(E:n=a+1)(z:At (k7 Z.z.T) a p x){an:List df}{d:List cr}(he:Edge.fix true false an d to∈(k7 Z.z.T).cq p){es:Array Event}(hd:Does u d ay es)(wd:Word Z u ay)(i:ay.heap[Z.z.T]?=some (.cells (dW Z.z mu ms G.aU G.a7) 105 (0,0)))(hW:ay.heap[Z.W]?=some (.cells #[.int .u64 G.v,.int .u32 G.m] 199 (0,0)))(once:cx (oa to) (G.s (!k)).role mu ms G.aU G.a7)(C:∀e∈gY true (cB d),hf Z u.heap.size e)(B:(⟨.lock to,false⟩:bZ).deaf=deafBehind (⟨.lock p,false⟩:bZ).deaf (gY true (cB d)).toArray)(D:ms=G.ms\/ms=0):
 cD X Z G k g u t (2,⟨c.V,l⟩,(c.nr*500+450)*10000000000+(c.bJ*500+450)*100000+(n*500+j)):=by
 subst E;have r:=ns f wd i (au:=G.wk k ⟨.lock to,false⟩ mu ms G.aU G.a7 G.v G.m) rfl rfl (Z.wk k);obtain⟨y,bn,q,_,F⟩:=H.k0 (au:=G.wk k ⟨.lock to,false⟩ mu ms G.aU G.a7 G.v G.m) (s' _) (HJ _) z he hd ⟨kF _,kL _ _ _⟩;have w:=f.bT.rq k;rw[o]at w;exact cD.sync (a6:=⟨.lock to,false⟩) f o y1 (F false) rfl wd i hW once w (λe=>by cases e) rfl ⟨λe=>(by cases e),λe=>(by cases e)⟩ ((Bj to).trans (Bj p).symm) rfl C B (λe=>by cases e) (λe=>by cases e) (λe=>by cases e)
  (.lock c (h.rely (dh:=G.wk k ⟨.lock to,false⟩ mu ms G.aU G.a7 G.v G.m) rfl r h.r.l.heap.floor h.jJ) l q) (dZ.last (o1 _ _ _ (by have:=q.le;omega))) (D.imp id .inl) (.inl rfl)
def l3{B:Nat}:∀e∈([]:List Event),hf Z B e:=λe he=>(by cases he)
def hG{B:Nat}{e:Event}(h:hf Z B e):∀c∈[e],hf Z B c:=λc he=>by rw[Ps he];exact h
def jX{B:Nat}{e:Event}{l:List Event}(h:hf Z B e)(k:∀c∈l,hf Z B c):∀c∈e::l,hf Z B c:=λc he=>by
 rcases List.mem_cons.1 he with rfl|he
 .exact h
 .exact k _ he
def ny{B:Nat}{wr:Bool}:hf Z B ⟨.cell ⟨Z.z.T,5,none⟩,wr,true⟩:=.bM (by decide) (by decide) (λe=>by cases e)
def vu{B:Nat}{wr:Bool}:hf Z B ⟨.cell ⟨Z.z.T,6,none⟩,wr,true⟩:=.bM (by decide) (by decide) (λe=>by cases e)
def o7{B:Nat}:hf Z B ⟨.mark .disable,false,true⟩:=.mark rfl trivial
def o9{B:Nat}:hf Z B ⟨.mark .enable,false,true⟩:=.mark rfl trivial
def zT(u:World):Calm u (u.sys (.clock 1)).2:=by rw[sys_clock1];exact⟨Pk,rfl,rfl,_,rfl⟩
def zU(u:World):(u.sys (.clock 1)).2.heap=u.heap:=by rw[sys_clock1];rfl
def II{p:iT}(f:Base Z G u t)(B:G.s k=⟨.lock p,false⟩)(c:gL)(h:c.Ok X Z G k 2 u)(z:Acc (ds X.Q) c.V)(C:cn (k7 Z.z.T) Z G (Z.wk k) p c.hL x g u n j):
 cD X Z G k g u t (2,⟨c.V,z⟩,(c.nr*500+450)*10000000000+(c.bJ*500+450)*100000+(n*500+j)):=by
 rcases C.quiet (s' _)with⟨a,E,D⟩|⟨y,bn,W,S,I⟩
 case inr=>exact xx f B c h z (fU.refl _) (I false u) (Calm.refl u) rfl S.on S.le (by omega)
 have o:=f.bT.side k;rw[B]at o;have J:=Word.refl Z u;have F:=f.ww.T;have H:=f.ww.W;have eJ:=f.eJ;have L:∀{v M:Int} {to:iT},G.mu=v->Edge.fix true false (nM (105,28) v) (qu Z.z.T 4 (105,28) 136 v M) to∈(k7 Z.z.T).cq p->cx (oa to) (G.s (!k)).role M G.ms G.aU G.a7->(⟨.lock to,false⟩:bZ).deaf=(⟨.lock p,false⟩:bZ).deaf->cD X Z G k g u t (2,⟨c.V,z⟩,(c.nr*500+450)*10000000000+(c.bJ*500+450)*100000+(n*500+j)):=by intro v M to i he w K;exact k9 f B c h z C E D he (.mark (.shape f.ww.pJ (.frozen (f.ww.mi 5) (.load (f.ww.kV i) (.store (f.ww.kV i) (f.ww.mi 5) (.nil _)))))) (Word.set 5 _ (.inl rfl)) (Word.T (au:={G with mu:=M}) f (vo ..)) (Word.W f 5 _) w (jX ny (hG ny)) K (.inl rfl)
 have Q:∀{v:Int} {an:List df} {to:iT},G.mu=v->Edge.fix true false an (xe Z.z.T 4 (105,28) 136 v) to∈(k7 Z.z.T).cq p->cx (oa to) (G.s (!k)).role G.mu G.ms G.aU G.a7->(⟨.lock to,false⟩:bZ).deaf=(⟨.lock p,false⟩:bZ).deaf->cD X Z G k g u t (2,⟨c.V,z⟩,(c.nr*500+450)*10000000000+(c.bJ*500+450)*100000+(n*500+j)):=by intro v an to i he w K;exact k9 f B c h z C E D he (.mark (.shape f.ww.pJ (.frozen (f.ww.mi 5) (.load (f.ww.kV i) (.nil _))))) J F H w (hG ny) K (.inl rfl)
 have ld:∀{v:Int} {an:List df} {to:iT},G.mu=v->Edge.fix true false an [.load .plain (ie Z.z.T 4) (.int .i32 v)] to∈(k7 Z.z.T).cq p->cx (oa to) (G.s (!k)).role G.mu G.ms G.aU G.a7->(⟨.lock to,false⟩:bZ).deaf=(⟨.lock p,false⟩:bZ).deaf->cD X Z G k g u t (2,⟨c.V,z⟩,(c.nr*500+450)*10000000000+(c.bJ*500+450)*100000+(n*500+j)):=by intro v an to i he w K;exact k9 f B c h z C E D he (.load (f.ww.kV i) (.nil _)) J F H w l3 K (.inl rfl)
 cases p with
 |h4=>exact k9 f B c h z C E D (to:=.iF) Pl (.mark (.mark (.nil _))) J F H o (hG o7) rfl (.inl rfl)
 |iF=>
  rcases cx.iF o with⟨i,w⟩|⟨i,w⟩
  .exact L i (.head _) w rfl
  .exact Q i (.tail _ (.head _)) (by rw[i];exact w) rfl
 |hy=>exact k9 f B c h z C E D (to:=.fz) Pl (.mark (.mark (.nil _))) J F H o (hG o9) rfl (.inl rfl)
 |fz=>exact k9 f B c h z C E D (to:=.aq) Pl (.shape f.ww.pJ (.shape f.ww.pJ (.nil _))) J F H o l3 rfl (.inl rfl)
 |aq=>exact k9 f B c h z C E D (to:=.fin) Pl (.mark (.mark (.nil _))) J F H o (hG (.mark rfl eJ.1)) rfl (.inl rfl)
 |fin=>
  obtain⟨V,I⟩:=D.leave Pl;have r:=jv f k ⟨.db 2,false⟩ u.heap.size u.drawn;have U:stepG aF false g u=.go ⟨c.iP.1.finish unit,c.iP.2++c.jT,.running,none,none⟩ u:=by obtain⟨st,off,rfl⟩:=C.shape;have:=I false st off c.iP.1 (c.iP.2++c.jT) u (sj h.run);rw[V];exact this
  exact cD.still (a6:=⟨.db 2,false⟩) (n:=u.drawn) f B y1 ⟨rfl,rfl,rfl,rfl,(λe=>by cases e),⟨λe=>(by cases e),λe=>(by cases e)⟩⟩ U rfl
   (.db (l:=2) c.toRCtx rfl (λ_ _=>rfl) (h.r.rely (dh:=(G.grow u.heap.size (Z.wk k)).st k ⟨.db 2,false⟩) rfl r h.r.l.heap.floor h.jJ) z ⟨h.on,Pk,rfl,rfl,rfl,kF _,kL _ _ _⟩) (dZ.last (by have:=rQ ((c.nr*500+450)*10000000000) (c.bJ*500+400) (c.bJ*500+450) (by omega);exact Px this (Nat.le_add_right _ _)))
 |ld=>
  rcases cx.look o with i|⟨i,w⟩
  .exact ld i (.head _) o rfl
  .exact ld i (.tail _ (.head _)) (by rw[i];exact w) rfl
 |sp it=>
  have T:(Question.extern "runtime_canSpin" 2).cut (u.tape u.drawn (.extern "runtime_canSpin" 2))<2:=by simp only[Question.cut];rw[if_neg (by decide)];exact Nat.mod_lt _ (by decide)
  have wd:Word Z u (u.at (u.drawn+1)):=⟨rfl,λ_ _ _=>rfl,Calm.at u _⟩
  rcases i:(Question.extern "runtime_canSpin" 2).cut (u.tape u.drawn (.extern "runtime_canSpin" 2))with _|_|m
  .exact k9 f B c h z C E D (ay:=u.at (u.drawn+1)) (to:=.pC) (.head _) (.mark (.choose i (.nil _))) wd F H o l3 rfl (.inl rfl)
  .exact k9 f B c h z C E D (ay:=u.at (u.drawn+1)) (to:=.rs it) (.tail _ (.head _)) (.mark (.choose i (.nil _))) wd F H o l3 rfl (.inl rfl)
  .rw[i]at T;omega
 |rs it=>
  rcases cx.look o with i|⟨i,w⟩
  .by_cases R:it<3
   .exact ld (to:=.sp (it+1)) i (by show _∈[_,_];rw[if_pos R];exact .head _) o rfl
   .exact ld (to:=.pC) i (by show _∈[_,_];rw[if_neg R];exact .head _) o rfl
  .exact ld i (.tail _ (.head _)) (by rw[i];exact w) rfl
 |pC=>
  rcases cx.queue o with⟨i,w⟩|⟨i,w⟩
  .exact L i (.head _) w rfl
  .exact Q i (.tail _ (.head _)) (by rw[i];exact w) rfl
 |jW=>
  have:=(cx.bP o).1;exact ld this (.head _) o rfl
 |bu=>
  obtain⟨i,w⟩:=cx.bP o;exact L i (.head _) w rfl
 |t1=>
  obtain⟨y,P,_,I⟩:=D.clock (s' _) Pl ((u.os.mono+u.tick:Nat):Int);obtain⟨st,off,rfl⟩:=C.shape;exact xx (q:=.ow _) (cM:=a) (bn:=400) f B c h z (Ct rfl rfl) (I false c.hL st off u rfl) (zT u) (zU u) P Pk (by omega)
 |ow b=>
  rcases cx.sema o with⟨hm,_⟩|⟨hm,w⟩
  .have I:=D.wait (s' _) (.head _)
   obtain⟨st,off,rfl⟩:=C.shape;exact .wait (I false _ st off u _ (.mark (.mark (.load (f.ww.rW hm) (.nil _))))) ⟨b,by rw[B]⟩ hm
  .exact k9 f B c h z C E D (to:=.t2 b) (.tail _ (.head _)) (.mark (.mark (.load (f.ww.rW hm) (.store (f.ww.rW hm) (f.ww.mi 6) (.mark (.nil _)))))) (Word.set 6 _ (.inl rfl)) (Word.T (au:={G with ms:=0}) f (Dq ..)) (Word.W f 6 _) w (jX o7 (jX vu (jX vu (hG o9)))) rfl (.inr rfl)
 |t2 b=>
  obtain⟨y,P,_,I⟩:=D.clock (s' _) Pl ((u.os.mono+u.tick:Nat):Int);obtain⟨st,off,rfl⟩:=C.shape;exact xx (q:=.mZ b _) (cM:=a) (bn:=2) f B c h z (Ct rfl rfl) (I false c.hL st off u rfl) (zT u) (zU u) P (by decide) (by omega)
 |mZ b d=>
  rcases i:decide (1000000<IntKind.i64.wrap (d-b))with _|_
  .exact k9 f B c h z C E D (to:=.rw) (.tail _ (.head _)) (.nV i (.nil _)) J F H o l3 rfl (.inl rfl)
  .exact k9 f B c h z C E D (to:=.rw) (.head _) (.nV i (.nil _)) J F H o l3 rfl (.inl rfl)
 |rw=>
  have:=(cx.w2 o).1;exact ld this (.head _) o rfl
 |c2=>
  obtain⟨i,w⟩:=cx.w2 o;exact L i (.head _) w rfl
end
section
variable{X:dJ}{Z:Stat}[gh X Z]{G au:bI}{u ay w:World}{t a':Trace}{k:Bool}{g g':Goroutine}{s a6:bZ}{a2:Bool}{x y:bs}{n j cM bn l aH:Nat}{mu ms:Int}
noncomputable abbrev oF(T:Nat):cS lI:=vw T 4 (105,28) .normal
def D9(T:Nat):dk (oF T).P (oF T).ext:=by unfold oF vw;exact iQ
def HK(T:Nat)(p:lI):(oF T).dA p<=400:=Pk
def y3{p:lI}:(⟨.g9 p,a2⟩:bZ).c≠.un:=by intro h;cases h
def DI(p:lI):(yR p).fs=false:=by cases p<;>rfl
def mG{p to:lI}(f:Base Z G u t)(o:G.s k=⟨.g9 p,a2⟩)(c:gL)(h:c.Ok X Z G k 8 u)(l:Acc (ds X.Q) c.V)(H:cn (oF Z.z.T) Z G (Z.wk k) p c.hL x g u n j){a:Nat}(E:n=a+1)(z:At (oF Z.z.T) a p x){wk:Bool}{an:List df}{d:List cr}(he:Edge.fix true wk an d to∈(oF Z.z.T).cq p){es:Array Event}(hd:Does u d ay es)(wd:Word Z u ay)(i:ay.heap[Z.z.T]?=some (.cells (dW Z.z mu ms G.aU G.a7) 105 (0,0)))(hW:ay.heap[Z.W]?=some (.cells #[.int .u64 G.v,.int .u32 G.m] 199 (0,0)))(once:cx (yR to) (G.s (!k)).role mu ms G.aU G.a7)(C:∀e∈gY true (cB d),hf Z u.heap.size e)(B:(⟨.g9 to,a2⟩:bZ).deaf=deafBehind (⟨.g9 p,a2⟩:bZ).deaf (gY true (cB d)).toArray)(D:ms=G.ms\/wk=true):
 cD X Z G k g u t (2,⟨c.V,l⟩,(c.nr*500+450)*10000000000+(c.bJ*500+450)*100000+(n*500+j)):=by
 subst E;have r:=ns f wd i (au:=G.wk k ⟨.g9 to,a2⟩ mu ms G.aU G.a7 G.v G.m) rfl rfl (Z.wk k);obtain⟨y,bn,q,I,F⟩:=H.k0 (au:=G.wk k ⟨.g9 to,a2⟩ mu ms G.aU G.a7 G.v G.m) (D9 _) (HK _) z he hd ⟨kF _,kL _ _ _⟩;have w:=f.bT.rq k;rw[o]at w;exact cD.sync (a6:=⟨.g9 to,a2⟩) f o y3 (F false) rfl wd i hW once w (λe=>by cases e) rfl ⟨λe=>(by cases e),λe=>(by cases e)⟩ ((DI to).trans (DI p).symm) rfl C B (λe=>.inl rfl) (λe=>.inl rfl) (λe=>by cases e)
  (.g9 c (h.rely (dh:=G.wk k ⟨.g9 to,a2⟩ mu ms G.aU G.a7 G.v G.m) rfl r h.r.l.heap.floor h.jJ) l q) (dZ.last (o1 _ _ _ (by have:=q.le;omega))) (D.imp id λe=>.inr (I e)) (.inl rfl)
def N9{p:lI}(d:Base Z G u t)(i:G.s k=⟨.g9 p,a2⟩)(c:gL)(h:c.Ok X Z G k 8 u)(f:Acc (ds X.Q) c.V)(o:cn (oF Z.z.T) Z G (Z.wk k) p c.hL x g u n j):
 cD X Z G k g u t (2,⟨c.V,f⟩,(c.nr*500+450)*10000000000+(c.bJ*500+450)*100000+(n*500+j)):=by
 rcases o.quiet (D9 _)with⟨a,z,w⟩|⟨y,bn,K,H,F⟩
 case inr=>
  have r:=jv d k ⟨.g9 p,a2⟩ u.heap.size u.drawn;exact cD.still (a6:=⟨.g9 p,a2⟩) (n:=u.drawn) d i y3 (fU.refl _) (F false u) rfl
   (.g9 c (h.rely (dh:=(G.grow u.heap.size (Z.wk k)).st k ⟨.g9 p,a2⟩) rfl r h.r.l.heap.floor h.jJ) f ⟨H.on,H.le,rfl,rfl,rfl,kF _,kL _ _ _⟩) (dZ.last (o1 _ _ _ (by omega)))
 have q:=d.bT.side k;rw[i]at q;have E:=Word.refl Z u;have C:=d.ww.T;have D:=d.ww.W;have eJ:=d.eJ;cases p with
 |ld=>
  rcases cx.held q with aD|aD
  .exact mG d i c h f o z w (to:=.fz) (.head _) (.load (d.ww.kV aD) (.nil _)) E C D q l3 rfl (.inl rfl)
  .exact mG d i c h f o z w (to:=.fz) (.tail _ (.head _)) (.load (d.ww.kV aD) (.nil _)) E C D q l3 rfl (.inl rfl)
 |fz=>exact mG d i c h f o z w (to:=.ck) Pl (.shape d.ww.pJ (.shape d.ww.pJ (.nil _))) E C D q l3 rfl (.inl rfl)
 |ck=>exact mG d i c h f o z w (to:=.h4) Pl (.mark (.mark (.nil _))) E C D q (hG (.mark rfl eJ.1)) rfl (.inl rfl)
 |h4=>exact mG d i c h f o z w (to:=.add) Pl (.mark (.mark (.nil _))) E C D q (hG o7) rfl (.inl rfl)
 |add=>
  rcases cx.add q with⟨aD,B⟩|⟨aD,B⟩
  .exact mG d i c h f o z w (to:=.hy) (.head _) (.mark (.load (d.ww.kV aD) (.store (d.ww.kV aD) (d.ww.mi 5) (.nil _)))) (Word.set 5 _ (.inl rfl)) (Word.T (au:={G with mu:=0}) d (vo ..)) (Word.W d 5 _) B (jX ny (hG ny)) rfl (.inl rfl)
  .exact mG d i c h f o z w (to:=.iF) (.tail _ (.head _)) (.mark (.load (d.ww.kV aD) (.store (d.ww.kV aD) (d.ww.mi 5) (.nil _)))) (Word.set 5 _ (.inl rfl)) (Word.T (au:={G with mu:=8}) d (vo ..)) (Word.W d 5 _) B (jX ny (hG ny)) rfl (.inl rfl)
 |iF=>
  obtain⟨aD,B⟩:=cx.E7 q;exact mG d i c h f o z w (to:=.cJ) Pl (.mark (.shape d.ww.pJ (.frozen (d.ww.mi 5) (.load (d.ww.kV aD) (.store (d.ww.kV aD) (d.ww.mi 5) (.nil _)))))) (Word.set 5 _ (.inl rfl)) (Word.T (au:={G with mu:=2}) d (vo ..)) (Word.W d 5 _) B (jX ny (hG ny)) rfl (.inl rfl)
 |cJ=>
  obtain⟨hm,B⟩:=cx.post q;exact mG d i c h f o z w (to:=.hy) Pl (.mark (.mark (.load (d.ww.rW hm) (.store (d.ww.rW hm) (d.ww.mi 6) (.mark (.nil _)))))) (Word.set 6 _ (.inl rfl)) (Word.T (au:={G with ms:=1}) d (Dq ..)) (Word.W d 6 _) B (jX o7 (jX vu (jX vu (hG o9)))) rfl (.inr rfl)
 |hy=>exact mG d i c h f o z w (to:=.fin) Pl (.mark (.mark (.nil _))) E C D q (hG o9) rfl (.inl rfl)
 |fin=>
  obtain⟨J,F⟩:=w.leave Pl;have r:=jv d k ⟨.db 8,true⟩ u.heap.size u.drawn;have I:stepG aF false g u=.go ⟨c.iP.1.finish unit,c.iP.2++c.jT,.running,none,none⟩ u:=by obtain⟨st,off,rfl⟩:=o.shape;have:=F false st off c.iP.1 (c.iP.2++c.jT) u (sj h.run);rw[J];exact this
  exact cD.still (a6:=⟨.db 8,true⟩) (n:=u.drawn) d i y3 ⟨rfl,rfl,rfl,rfl,(λe=>rfl),⟨λe=>(by cases e),λe=>(by cases e)⟩⟩ I rfl
   (.db (l:=8) c.toRCtx rfl (λ_ h=>absurd h (by decide)) (h.r.rely (dh:=(G.grow u.heap.size (Z.wk k)).st k ⟨.db 8,true⟩) rfl r h.r.l.heap.floor h.jJ) f ⟨h.on,Pk,rfl,rfl,rfl,kF _,kL _ _ _⟩) (dZ.last (by have:=rQ ((c.nr*500+450)*10000000000) (c.bJ*500+400) (c.bJ*500+450) (by omega);exact Px this (Nat.le_add_right _ _)))
end
end Go.aN
