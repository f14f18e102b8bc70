/- A part; no conditions. -/
import Derived.Test.YtkifbmfagkjikaaGreatDoorP11
import Derived.Conc.ClockLaws
set_option maxHeartbeats 8000000
set_option maxRecDepth 100000
set_option linter.all false
namespace Go.aO
attribute [-simp] Go.Sem.runT_eq
open Go.Proofs Go.Conc Go.ConcN
variable{es:Array Event}{wr:Bool}{e:Event}{f:FuncId}{d:List cD}{an:List dO}{B a m to:Nat}{p q:kg}
section
variable{X:et}{Z:Stat}[hi X Z]{G aB:bX}{u aC w:World}{t bh:Trace}{k:Bool}{g g':Goroutine}{s aX:ck}{bb:Bool}{ρ ai:Ren}{V b4:dt}{aG dI:World}{aR:Tape}{kd:CallKind}{x y:bA}{n j c9 bw l aN:Nat}{rem lk:List Nat}{bG bH df pH pE pF bq:Nat}{M b7:Mem}
def uM(q:Base Z G u t)(F:G.s k=⟨.fx l,bb⟩)(c:LCtx)(H:pz X Z G k u c kd bq)(d:Acc (dZ X.Q) c.V)(f:∀(i:Nat) b o,M[i]?=some (true,b,o)->bq<=b)(J:cB (iD Z.z.T kd) Z G (Z.wk k) ⟨l,rem,bG,bH,df,M⟩ c.base x g u n j)(D:n=a+1)(w:At (iD Z.z.T kd) a ⟨l,rem,bG,bH,df,M⟩ x){ops:List gZ}(he:Edge.bL ops ⟨aN,lk,bG,bH,df,b7⟩∈(iD Z.z.T kd).cz ⟨l,rem,bG,bH,df,M⟩)(C:14<=aN->14<=l)(ok:mK aN lk=true)(r:aN<=16->b7=o9 Z.z.T bG bH df aN):
 cZ X Z G k g u t (2,⟨c.V,d⟩,(n*500+j)*10000000000):=by
 subst D;obtain⟨y,aC,bz,bw,h,I,calm,keep,cI,B⟩:=J.bL (aB:=(G.grow u.heap.size (Z.wk k)).st k ⟨.fx aN,bb⟩) (t:=t) (tr _ _) (wz _ _) w he (λb=>rfl) rfl;refine uL q F c H d C (I false) calm (λb z E=>?_) cI ok (λi b o e=>?_) r h (by have:=h.le;omega)
 .obtain⟨p,i,o,e⟩:=keep b z E
  exact⟨p,f i b o e⟩
 .obtain⟨K,m⟩:=B i true b o e
  exact f i b K m
def Au(d:Base Z G u t)(E:G.s k=⟨.fx l,bb⟩)(c:LCtx)(H:pz X Z G k u c kd bq)(h:Acc (dZ X.Q) c.V)(z:∀(i:Nat) b o,M[i]?=some (true,b,o)->bq<=b)(I:cB (iD Z.z.T kd) Z G (Z.wk k) ⟨l,rem,bG,bH,df,M⟩ c.base x g u n j)(C:n=a+1)(r:At (iD Z.z.T kd) a ⟨l,rem,bG,bH,df,M⟩ x){o:Obj}{to:Nat->tE}(he:Edge.new true o to∈(iD Z.z.T kd).cz ⟨l,rem,bG,bH,df,M⟩){pH pE pF:Nat}(J:to u.heap.size=⟨aN,[],pH,pE,pF,M++[(true,u.heap.size,o)]⟩)(B:14<=aN->14<=l)(ok:mK aN []=true)(p:M++[(true,u.heap.size,o)]=o9 Z.z.T pH pE pF aN):
 cZ X Z G k g u t (2,⟨c.V,h⟩,(n*500+j)*10000000000):=by
 subst C;obtain⟨y,aC,bw,f,F,calm,keep,L⟩:=I.z2 (aB:=(G.grow u.heap.size (Z.wk k)).st k ⟨.fx aN,bb⟩) (tr _ _) (wz _ _) r he (λb=>rfl) rfl d.oc d.fv;rw[J]at f;refine uL (bz:=[]) d E c H h B (F false) calm (λb w D=>absurd (keep b w) D) (λe he=>(by cases he)) ok (λi b K e=>?_) (λ_=>p) f (by have:=f.le;omega);rcases Nat.lt_or_ge i M.length with ad|ad
 .rw[jz ad]at e
  exact z i b K e
 .rw[jb ad]at e
  rcases m:i-M.length with _|q
  .rw[m]at e
   simp at e;rw[<-e.1];exact H.dh
  .rw[m]at e;simp at e
def E6(m:Base Z G u t)(F:G.s k=⟨.fx l,bb⟩)(c:LCtx)(H:pz X Z G k u c kd bq)(p:Acc (dZ X.Q) c.V)(B:∀(i:Nat) b o,M[i]?=some (true,b,o)->bq<=b)(h:cB (iD Z.z.T kd) Z G (Z.wk k) ⟨l,rem,bG,bH,df,M⟩ c.base x g u n j)(D:n=a+1)(z:At (iD Z.z.T kd) a ⟨l,rem,bG,bH,df,M⟩ x){id:Nat}{ops:Array Oper}{L:List (List Nat)}(he:Edge.ord f id ops L (λr=>⟨aN,r.filter (· < 2),bG,bH,df,M⟩)∈(iD Z.z.T kd).cz ⟨l,rem,bG,bH,df,M⟩)(C:14<=aN->14<=l)(ok:∀r:List Nat,mK aN (r.filter (· < 2))=true)(w:M=o9 Z.z.T bG bH df aN):
 cZ X Z G k g u t (2,⟨c.V,p⟩,(n*500+j)*10000000000):=by
 subst D;obtain⟨q,y,bw,J,d,I⟩:=h.xi (tr _ _) (wz _ _) z he;have r:=kN m k ⟨.fx aN,bb⟩ u.heap.size (u.drawn+1);exact uL (bz:=[]) m F c H p C (I false) (Calm.at u _) (λb K E=>absurd rfl E) (λe he=>(by cases he)) (ok q) B (λ_=>w) ⟨d.on,d.le,rfl,rfl,rfl,d.mem,h.own.rely h.mem r⟩ (by have:=d.le;omega)
def C5(r:List Nat):(r.filter (· < 2)).all (· < 2)=true:=by rw[List.all_eq_true];intro a c;exact(List.mem_filter.1 c).2
def Kn(T:Nat):hZ false (cI (ua false T)) = [⟨.cell ⟨T,13,none⟩,false,false⟩,⟨.cell ⟨T,14,none⟩,false,false⟩,⟨.cell ⟨T,15,none⟩,false,false⟩,⟨.cell ⟨T,16,none⟩,false,false⟩,⟨.cell ⟨T,17,none⟩,false,false⟩]:=rfl
def H0(a j m:Nat)(h:m<100000):(a*500+450)*10000000000+m*100000<((a+1)*500+j)*10000000000:=U
def lY(u:World):gN [] u:=⟨λi _ _ _ e=>by simp at e,λi _ _ _ _ _ _ _ e=>by simp at e⟩
def l6(Z:Stat)(G:bX)(i:Nat):Own Z G i []:=λi _ _ _ e=>by simp at e
def NN(l:Base Z G u t)(D:G.s k=⟨.fx 4,bb⟩)(c:LCtx)(H:pz X Z G k u c kd bq)(m:Acc (dZ X.Q) c.V)(B:∀(i:Nat) b o,M[i]?=some (true,b,o)->bq<=b)(y:M=o9 Z.z.T bG bH df 3)(d:cB (iD Z.z.T kd) Z G (Z.wk k) ⟨4,[],bG,bH,df,M⟩ c.base x g u n j)(C:n=a+1)(p:At (iD Z.z.T kd) a ⟨4,[],bG,bH,df,M⟩ x):
 cZ X Z G k g u t (2,⟨c.V,m⟩,(n*500+j)*10000000000):=by
 subst C;obtain⟨q,w⟩:=p.lift (tr _ _) (f:=58) (args:=sM Z.z.T bG bH) (cy:=λ_:Unit=>unit) (to:=λ_=>⟨14,[],bG,bH,df,M⟩) bI;have r:=kN l k ⟨.dG 0,bb⟩ u.heap.size u.drawn;let bp:RCtx:={toLCtx:=c,kd:=kd,bG:=bG,bH:=bH,df:=df,M:=M,oq:=x,nr:=a,bq:=bq}
 have z:bp.Ok X Z ((G.grow u.heap.size (Z.wk k)).st k ⟨.dG 0,bb⟩) k (u.at u.drawn):=
  ⟨H.wait.rely (dP:=(G.grow u.heap.size (Z.wk k)).st k ⟨.dG 0,bb⟩) rfl r H.wait.heap.floor,(q ()).1,d.mem,d.own.rely d.mem r,y,p.DL (f:=58) (args:=sM Z.z.T bG bH) (cy:=λ_:Unit=>unit) (to:=λ_=>⟨14,[],bG,bH,df,M⟩) bI,H.bY,B,H.dh⟩
 have E:stepG aK false g u=.go ⟨Frame.enter aK 58 (sM Z.z.T bG bH) .normal,bp.lj,.running,none,none⟩ u:=by obtain⟨st,off,rfl⟩:=d.shape;exact w false c.base st off u
 have hd:=Ja Z.z.T bG bH;exact cZ.still (aX:=⟨.dG 0,bb⟩) (n:=u.drawn) l D Bs ⟨rfl,rfl,rfl,rfl,(bR),⟨bR,bR⟩⟩ E rfl
  (.dG (n:=20) (j:=400) (x:=(Frame.enter aK 58 (sM Z.z.T bG bH) .normal,[])) bp rfl (λh=>absurd h a6) z m ⟨⟨_,hd,rfl⟩,bg,rfl,rfl,rfl,lY _,l6 _ _ _⟩) (eQ.last (H0 a j _ a6))
def NR(d:Base Z G u t)(m:G.s k=⟨.fx 15,bb⟩)(c:LCtx)(H:pz X Z G k u c kd bq)(p:Acc (dZ X.Q) c.V)(B:∀(i:Nat) b o,M[i]?=some (true,b,o)->bq<=b)(w:M=o9 Z.z.T bG bH df 3)(l:cB (iD Z.z.T kd) Z G (Z.wk k) ⟨15,[],bG,bH,df,M⟩ c.base x g u n j)(C:n=a+1)(z:At (iD Z.z.T kd) a ⟨15,[],bG,bH,df,M⟩ x):
 cZ X Z G k g u t (2,⟨c.V,p⟩,(n*500+j)*10000000000):=by
 subst C;have f:G.aY=true:=d.b9.eC k (by rw[m];rfl);have E:=d.dy.uQ k (by rw[m];rfl);have r:=kN d k ⟨.fx 16,bb⟩ u.heap.size u.drawn;have hd:Does u (ua false Z.z.T) u (#[⟨.cell ⟨Z.z.T,13,none⟩,false,false⟩]++(#[⟨.cell ⟨Z.z.T,14,none⟩,false,false⟩]++(#[⟨.cell ⟨Z.z.T,15,none⟩,false,false⟩]++(#[⟨.cell ⟨Z.z.T,16,none⟩,false,false⟩]++(#[⟨.cell ⟨Z.z.T,17,none⟩,false,false⟩]++#[]))))):=
  .load (d.cells f 0 _ rfl) (.load (d.cells f 1 _ rfl) (.load (d.cells f 2 _ rfl) (.load (d.cells f 3 _ rfl) (.load (d.cells f 4 _ rfl) (.nil _)))))
 obtain⟨y,bw,q,_,F⟩:=l.mr (aB:=(G.grow u.heap.size (Z.wk k)).st k ⟨.fx 16,bb⟩) (to:=⟨16,[],bG,bH,df,M⟩) (tr _ _) (wz _ _) z bI hd ⟨l.mem,l.own.rely l.mem r⟩;refine uL (aN:=16) d m c H p (λ_=>a6) (F false) (Calm.refl u) (λb J D=>absurd rfl D) (λe he=>?_) rfl B (λ_=>w) q (by have:=q.le;omega);rw[Kn]at he;have I:eX Z ((G.grow u.heap.size (Z.wk k)).st k ⟨.fx 16,bb⟩)=.done:=Base.done f;have T:=λo h=>@lx.cz Z ((G.grow u.heap.size (Z.wk k)).st k ⟨.fx 16,bb⟩) t (Z.wk k) u.heap.size o h d.fv.1 I E
 simp only[List.mem_cons,iN,or_false]at he;rcases he with rfl|rfl|rfl|rfl|rfl<;>exact T _ a6
def NM(P:Base Z G u t)(ao:G.s k=⟨.fx 17,bb⟩)(c:LCtx)(H:pz X Z G k u c kd bq)(E:Acc (dZ X.Q) c.V)(ah:∀(i:Nat) b o,M[i]?=some (true,b,o)->bq<=b)(w:cB (iD Z.z.T kd) Z G (Z.wk k) ⟨17,rem,bG,bH,df,M⟩ c.base x g u n j)(ak:n=a+1)(ad:At (iD Z.z.T kd) a ⟨17,rem,bG,bH,df,M⟩ x):
 cZ X Z G k g u t (2,⟨c.V,E⟩,(n*500+j)*10000000000):=by
 subst ak;obtain⟨b7,al,z,ap⟩:=ad.k' (ops:=sA 2 0) (v:=iT) bI;obtain⟨aC,hd,hm,Q,k5,ar,ai,ag,aG,_⟩:=uJ al w.mem;have au:=z ⟨_,_,_,hd⟩;obtain⟨V,ρ,cs,o⟩:=c;have W:=H.wait;obtain⟨L,aE⟩:∃L,L=V:=⟨_,rfl⟩
 have F:=W.cs;have q:=W.some;dsimp only at F q;obtain⟨f,h,d,g3,S,T,C,af⟩:∃f h d g3,V.cs=f::h/\cs=d::g3/\cN X.K ρ f d/\cK (cN X.K ρ) h g3:=by
  generalize V.cs=l at F q;cases F with
  |nil=>exact absurd rfl q
  |@cons x y l m z r=>exact⟨_,_,_,_,rfl,rfl,z,r⟩
 subst T;have cF:Kept f:=λe ax J=>by
  have:=C.mode;rw[J]at this;generalize d.mode=aB at this;cases this with
  |panicking r=>
   cases r with
   |cons I _=>exact I.recovered.1
 have aw:Kept d:=λe ax J=>by
  have:=C.mode;rw[J]at this;generalize f.mode=aB at this;cases this with
  |panicking r=>
   cases r with
   |cons I _=>exact I.recovered.2
 obtain⟨_,N,aa⟩:=X.stub V W.going _ kd f h W.zB rfl W.fr S cF;obtain⟨B,Y,aD,g4⟩:=Fx X.ek N W.going W.self rfl aa;have ae:cN X.K ρ (eU kd f iT) (eU kd d iT):=by
  unfold eU;rcases W.zB with rfl|rfl
  .exact qX C (Q0 ρ)
  .exact C
 have keep:∀b,b<u.heap.size->aC.heap[b]?≠u.heap[b]?->gY Z G (Z.wk k) b/\bq<=b:=λb p q=>Classical.byContradiction λz=>q (ai b λi o e=>by have e:M[i]?=some (true,b,o):=e;obtain⟨q1,_,K⟩:=w.own i true b o e;exact z ⟨⟨q1,K rfl⟩,ah i b o e⟩)
 have aA:jV Z G ((G.grow u.heap.size (Z.wk k)).st k ⟨.lift,bb⟩) (Z.wk k) bq u aC:=qe P Q keep (λb p=>if_pos p) rfl;have d':=W.rely (dP:=(G.grow u.heap.size (Z.wk k)).st k ⟨.lift,bb⟩) rfl aA H.bY;have aq:stepG aK false g u=.go ⟨eU kd d iT,g3++o.base,.running,none,none⟩ aC (cI (eh M (sA 2 0))).toArray:=by obtain⟨st,off,rfl⟩:=w.shape;have:=ap false st off d (g3++o.base) u aC _ aw hd;rw[show x.2++(LCtx.base ⟨V,ρ,d::g3,o⟩)=d::(g3++o.base) by rw[au];rfl];exact this
 have am:m5 X Z ((G.grow u.heap.size (Z.wk k)).st k ⟨.lift,bb⟩) (Z.wk k) ρ ⟨eU kd f iT,h,V.w⟩:=⟨d'.ll.gB,d'.ll.own,d'.ll.T,d'.ll.uI,d'.ll.xo,d'.ll.inexact,d'.ll.fits⟩
 have aj:eQ X.Q (2,(⟨⟨eU kd f iT,h,V.w⟩,dZ.acc B.acc⟩:lP X.Q),0) (2,⟨V,E⟩,((a+1)*500+j)*10000000000):=by
  rcases g4 with g4|g4
  .refine .right _ ?_
   have e:(⟨⟨eU kd f iT,h,V.w⟩,dZ.acc B.acc⟩:lP X.Q)=⟨V,E⟩:=Subtype.ext g4.symm;rw[e];exact .right _ U
  .exact eQ.mid g4
 refine cZ.l3 (aX:=⟨.lift,bb⟩) P ao Bs ⟨rfl,rfl,rfl,rfl,(bR),⟨bR,bR⟩⟩ aq rfl Q (λb p q=>(keep b p q).1) (λe he=>?_) (bR)
  (.lift (bb:=bb) (fr:=eU kd d iT) ⟨⟨eU kd f iT,h,V.w⟩,ρ,g3,o⟩ rfl rfl rfl ⟨B,Y,⟨d'.fit,d'.room,ae,af,d'.heap⟩,am,d'.o⟩ (dZ.acc B.acc)) aj
 obtain⟨i,own,b,R,aH,wr,D,rfl,av⟩:=ag e he;have D:M[i]?=some (own,b,R):=D;obtain⟨q1,az,K⟩:=w.own i own b R D;have p:=gL w.mem D;have ay:((G.grow u.heap.size (Z.wk k)).st k ⟨.lift,bb⟩).b1 b=G.b1 b:=if_pos p;refine .mem rfl (by rw[ar];exact p) aF ⟨q1.2.1,q1.2.2⟩ (λe=>absurd e q1.1) ?_;show gY Z ((G.grow u.heap.size (Z.wk k)).st k ⟨.lift,bb⟩) (Z.wk k) b\/((G.ro (Z.wk k) b\/(((G.grow u.heap.size (Z.wk k)).st k ⟨.lift,bb⟩).b1 b=Z.wk k/\b≠Z.z.T))/\wr=false)
 unfold gY;rw[ay];cases wr with
 |true=>exact .inl ⟨q1,K (av rfl)⟩
 |false=>exact .inr ⟨az.symm.imp id λx=>⟨x,q1.1⟩,rfl⟩
def NQ(f:Base Z G u t)(q:G.s k=⟨.fx l,bb⟩)(c:LCtx)(H:pz X Z G k u c kd bq)(m:Acc (dZ X.Q) c.V)(ok:mK l rem=true)(p:∀(i:Nat) b o,M[i]?=some (true,b,o)->bq<=b)(B:l<=16->M=o9 Z.z.T bG bH df l)(d:cB (iD Z.z.T kd) Z G (Z.wk k) ⟨l,rem,bG,bH,df,M⟩ c.base x g u n j):
 cZ X Z G k g u t (2,⟨c.V,m⟩,(n*500+j)*10000000000):=by
 rcases d.quiet (tr _ _)with⟨a,z,w⟩|⟨y,bw,J,D,F⟩
 case inr=>
  have r:=kN f k ⟨.fx l,bb⟩ u.heap.size u.drawn;exact uL (bz:=[]) f q c H m id (F false u) (Calm.refl u) (λb I E=>absurd rfl E) (λe he=>(by cases he)) ok p B ⟨D.on,D.le,rfl,rfl,rfl,D.mem,d.own.rely d.mem r⟩ U
 rcases NK ok with rfl|rfl|rfl|rfl|⟨rfl,rfl|⟨r,rfl,C⟩|⟨r,rfl,C⟩⟩|rfl|⟨rfl,rfl|⟨r,rfl,C⟩|⟨r,rfl,C⟩⟩|rfl|rfl
 .obtain rfl:=B a6
  exact Au f q c H m p d z w (aN:=1) bI rfl (λh=>absurd h a6) rfl rfl
 .obtain rfl:=B a6
  exact Au f q c H m p d z w (aN:=2) bI rfl (λh=>absurd h a6) rfl rfl
 .obtain rfl:=B a6
  exact Au f q c H m p d z w (aN:=3) bI rfl (λh=>absurd h a6) rfl rfl
 .exact E6 f q c H m p d z w (aN:=4) bI (λh=>absurd h a6) (λr=>C5 r) (B a6)
 .exact NN f q c H m p (B a6) d z w
 .exact uM f q c H m p d z w (aN:=4) bI id C B
 .exact uM f q c H m p d z w (aN:=4) bI id C B
 .exact E6 f q c H m p d z w (aN:=15) bI (λ_=>a6) (λr=>C5 r) (B a6)
 .exact NR f q c H m p (B a6) d z w
 .exact uM f q c H m p d z w (aN:=15) bI id C B
 .exact uM f q c H m p d z w (aN:=15) bI id C B
 .exact uM f q c H m p d z w (aN:=17) (b7:=c0 M Aq) bI (λ_=>a6) rfl (λh=>absurd h a6)
 .exact NM f q c H m p d z w
def tN(q dd m:Nat)(h:dd<m):q+dd*100000<q+m*100000:=U
def vi(T:Nat):dn (ki T).P (ki T).ext:=by unfold ki;exact j8
def zr(T:Nat)(p:DP):(ki T).dh p<=400:=bg
def qq:(⟨.dG l,bb⟩:ck).c≠.un:=by intro h;cases h
def RCtx.Ok.k2{c:RCtx}(h:c.Ok X Z G k u):∀(i:Nat) own b o,c.M[i]?=some (own,b,o)->b<u.heap.size:=λ_ _ _ _ e=>gL h.mem e
def CH(d:Base Z G u t)(q:G.s k=⟨.dG l,bb⟩)(c:RCtx)(h:c.Ok X Z G k u)(f:Acc (dZ X.Q) c.V){cT:Nat}(z:g7 ⟨.dG l,bb⟩ ⟨.dG aN,bb⟩)(w:stepG aK false g u=.go (bW y c.lj) (u.at cT))(ok:sb aN=true)(j:1<=aN->aN<=7->bb=false)(p:eJ (ki Z.z.T) c9 ⟨aN,c.bG,c.bH⟩ bw y)(i:bw<=400)(o:c9*500+bw<m):cZ X Z G k g u t (2,⟨c.V,f⟩,(c.nr*500+450)*10000000000+m*100000):=by
 have r:=kN d k ⟨.dG aN,bb⟩ u.heap.size cT;exact cZ.still (aX:=⟨.dG aN,bb⟩) (n:=cT) d q qq z w rfl
  (.dG c ok j (h.rely (dP:=(G.grow u.heap.size (Z.wk k)).st k ⟨.dG aN,bb⟩) rfl r h.l.heap.floor h.k2) f ⟨p,i,rfl,rfl,rfl,lY _,l6 _ _ _⟩) (eQ.last (tN _ _ _ o))
def RQ(T:Nat)(v:Int):hZ true (cI (sn T v)) = [⟨.cell ⟨T,4,none⟩,false,true⟩]:=rfl
def Base.AD(c:Base Z G u t)(f:(G.s k).c≠.un)(hd:(G.s k).deaf=0)(h:G.aY=true)(fn:FuncId)(pos:String):iH (pl Z G) (t++MemOp.ofEvents (Z.wk k) fn pos #[⟨.cell ⟨Z.z.T,4,none⟩,false,true⟩]) (Z.wk k):=by
 have d:=c.dy.dy;rw[Base.done h]at d;have e:MemOp.ofEvents (Z.wk k) fn pos #[⟨.cell ⟨Z.z.T,4,none⟩,false,true⟩]=#[{g:=Z.wk k,fn,pos,act:=.access ⟨.cell ⟨Z.z.T,4,none⟩,false,true⟩}]:=by rw[ofEvents_eq];simp[MemAct.ofEvent]
 rw[e];exact d.AD c.ap.lU (c.dy.st _ (.inr (.inl ⟨k,rfl,f⟩))) ⟨rfl,rfl⟩ ((c.dy.qU k).trans hd) (.inl ⟨4,rfl,U,U⟩)
def vW(d:Base Z G u t)(f:G.s k=⟨.dG l,bb⟩)(c:RCtx)(h:c.Ok X Z G k u)(i:Acc (dZ X.Q) c.V)(F:cB (ki Z.z.T) Z G (Z.wk k) ⟨l,c.bG,c.bH⟩ c.lj x g u n j)(E:n=a+1)(C:At (ki Z.z.T) a ⟨l,c.bG,c.bH⟩ x)(b:Bool)(m:G.aY=b)(he:Edge.fix true false [.val (.int .u32 (mj b))] (sn Z.z.T (mj b)) ⟨aN,c.bG,c.bH⟩∈(ki Z.z.T).cz ⟨l,c.bG,c.bH⟩)(ok:sb aN=true)(D:1<=aN->aN<=7->bb=false)(H:cO (vV bb aN) (G.s (!k)).role G.mu G.ms G.aY G.bc)(B:(vV bb aN).gC=(vV bb l).gC)(z:7<=aN->b=true):
 cZ X Z G k g u t (2,⟨c.V,i⟩,(c.nr*500+450)*10000000000+(n*500+j)*100000):=by
 subst E;have wd:=Word.refl Z u;have r:=pa d wd d.ww.T (aB:=G.wk k ⟨.dG aN,bb⟩ G.mu G.ms G.aY G.bc G.v G.m) rfl rfl (Z.wk k);obtain⟨y,bw,p,_,o⟩:=F.mr (aB:=G.wk k ⟨.dG aN,bb⟩ G.mu G.ms G.aY G.bc G.v G.m) (vi _) (zr _) C he (.mark (.load (d.ww.Cd m) (.nil _))) ⟨lY _,l6 _ _ _⟩;have w:=d.b9.tn k;rw[f]at w;rw[RQ]at o;have q:(⟨.dG aN,bb⟩:ck).eC=true->G.aY=true:=λe=>by rw[m];exact z (of_decide_eq_true e)
 refine cZ.sync (aX:=⟨.dG aN,bb⟩) (l:=[⟨.cell ⟨Z.z.T,4,none⟩,false,true⟩]) d f qq (o false) rfl wd d.ww.T d.ww.W H w bR rfl ⟨bR,bR⟩ B rfl (λe he=>?_) rfl (λe=>.inr (q e)) (λe=>.inr ?_) (bR)
  (.dG c ok D (h.rely (dP:=G.wk k ⟨.dG aN,bb⟩ G.mu G.ms G.aY G.bc G.v G.m) rfl r h.l.heap.floor h.k2) i p) (eQ.last (by have:=p.le;omega)) (.inl rfl) (.inl rfl)
 .rw[ev he];exact .bM a6 a6 (λ_=>rfl)
 .exact d.AD (by rw[f];exact qq) (by rw[f];rfl) (q e) _ _
def IK(J:Base Z G u t)(c:RCtx)(h:c.Ok X Z G k u):gN (qQ Z.z c.bG c.bH) u/\Own Z G (Z.wk k) (qQ Z.z c.bG c.bH):=by
 have L:=J.iA;have cur:∀b o,(b=Z.z.R\/b=Z.z.gx\/b=Z.z.gy\/b=Z.z.Fr)->Z.aL.heap[b]?=some o->u.heap[b]?=some o:=λb o d e=>(J.ww.old b (L.gB b (.inr d)).2 (L.gB b (.inr d)).1.1).trans e
 have n:=cur _ _ (.inl rfl) L.c5;have l:=cur _ _ (.inr (.inl rfl)) L.kI;have m:=cur _ _ (.inr (.inr (.inl rfl))) L.kk;have g:=cur _ _ (.inr (.inr (.inr rfl))) L.lX;have dx:c.M[0]?=some (true,c.bG,.cells #[pt Z.z.T] 70 (0,0)):=by rw[h.vH];rfl
 have D:c.M[1]?=some (true,c.bH,.cells #[i0] 3 (0,0)):=by rw[h.vH];rfl
 have Q:=h.mem.has 0 _ _ _ dx;have P:=h.mem.has 1 _ _ _ D;have H:=h.own 0 _ _ _ dx;have F:=h.own 1 _ _ _ D;have U:=h.mem.fL 0 1 _ _ _ _ _ _ dx D a6;have ro:∀b,(b=Z.z.R\/b=Z.z.gx\/b=Z.z.gy\/b=Z.z.Fr)->G.ro (Z.wk (!k)) b/\G.ro (Z.wk k) b:=λb d=>⟨L.ro _ b (.inr (.inr d)),L.ro _ b (.inr (.inr d))⟩
 have K:Z.wk (!k)≠Z.wk k:=by cases k<;>simp[Stat.wk]
 have p:∀b,(b=Z.z.R\/b=Z.z.gx\/b=Z.z.gy\/b=Z.z.Fr)->c.bG≠b/\c.bH≠b:=λb d=>⟨λe=>(H.2.2 rfl).2 _ K (e ▸ (ro b d).1),λe=>(F.2.2 rfl).2 _ K (e ▸ (ro b d).1)⟩
 have y:=p _ (.inl rfl);have r:=p _ (.inr (.inl rfl));have w:=p _ (.inr (.inr (.inl rfl)));have q:=p _ (.inr (.inr (.inr rfl)));have bZ:∀{b z:Nat} {o E:Obj},u.heap[b]?=some o->u.heap[z]?=some E->o≠E->b≠z:=λM I C e=>by subst e;rw[M]at I;exact C (bD I)
 have R:Z.z.R≠Z.z.gx:=bZ n l aF;have S:Z.z.R≠Z.z.gy:=bZ n m aF;have a3:Z.z.R≠Z.z.Fr:=bZ n g aF;have a4:Z.z.gx≠Z.z.gy:=bZ l m aF;have a5:Z.z.gx≠Z.z.Fr:=bZ l g aF;have T:Z.z.gy≠Z.z.Fr:=bZ m g aF;refine⟨⟨λi own b o e=>?_,λi j own b o V z E e B C=>?_⟩,λi own b o e=>?_⟩
 .unfold qQ at e
  rcases i with _|_|_|_|_|_|i<;>simp at e<;>obtain⟨_,rfl,rfl⟩:=e
  .exact Q
  .exact P
  .exact n
  .exact l
  .exact m
  .exact g
 .unfold qQ at e B
  rcases i with _|_|_|_|_|_|i<;>simp at e<;>obtain⟨_,rfl,_⟩:=e<;>rcases j with _|_|_|_|_|_|j<;>simp at B<;>obtain⟨_,rfl,_⟩:=B<;>first|(exact absurd rfl C)|assumption|exact Ne.symm (by assumption)|exact y.1|exact y.2|exact r.1|exact r.2|exact w.1|exact w.2|exact q.1|exact q.2|exact y.1.symm|exact y.2.symm|exact r.1.symm|exact r.2.symm|exact w.1.symm|exact w.2.symm|exact q.1.symm|exact q.2.symm
 .have f:∀b,(b=Z.z.R\/b=Z.z.gx\/b=Z.z.gy\/b=Z.z.Fr)->(b≠Z.z.T/\b≠Z.W/\b≠Z.ch)/\(G.b1 b=Z.wk k\/G.ro (Z.wk k) b):=λb d=>⟨(L.gB b (.inr d)).1,.inr (ro b d).2⟩
  unfold qQ at e;rcases i with _|_|_|_|_|_|i<;>simp at e<;>obtain⟨rfl,rfl,_⟩:=e
  .exact⟨H.1,H.2.1,bR⟩
  .exact⟨F.1,F.2.1,bR⟩
  .exact⟨(f _ (.inl rfl)).1,(f _ (.inl rfl)).2,bR⟩
  .exact⟨(f _ (.inr (.inl rfl))).1,(f _ (.inr (.inl rfl))).2,bR⟩
  .exact⟨(f _ (.inr (.inr (.inl rfl)))).1,(f _ (.inr (.inr (.inl rfl)))).2,bR⟩
  .exact⟨(f _ (.inr (.inr (.inr rfl)))).1,(f _ (.inr (.inr (.inr rfl)))).2,bR⟩
def y4(o:Base Z G u t)(q:G.s k=⟨.dG l,bb⟩)(c:RCtx)(h:c.Ok X Z G k u)(p:cB (ki Z.z.T) Z G (Z.wk k) ⟨l,c.bG,c.bH⟩ c.lj x g u n j)(d:At (ki Z.z.T) a ⟨l,c.bG,c.bH⟩ x){args:Array Value}(he:Edge.lift f args (λ_:Unit=>unit) (λ_=>⟨to,c.bG,c.bH⟩)∈(ki Z.z.T).cz ⟨l,c.bG,c.bH⟩)(aX:ck):
 ∃bp:h0,bp.toRCtx=c/\bp.bZ=a/\bp.Ok X Z ((G.grow u.heap.size (Z.wk k)).st k aX) k to (u.at u.drawn)/\stepG aK false g u=.go ⟨Frame.enter aK f args .normal,bp.ja,.running,none,none⟩ u:=by
 obtain⟨i,m⟩:=d.lift (vi _) he;have r:=kN o k aX u.heap.size u.drawn;refine⟨{toRCtx:=c,j7:=x,bZ:=a},rfl,rfl,⟨h.rely (dP:=(G.grow u.heap.size (Z.wk k)).st k aX) rfl r h.l.heap.floor h.k2,(i ()).1,d.DL he⟩,?_⟩;obtain⟨st,off,rfl⟩:=p.shape;exact m false c.lj st off u
def yK(q a j m:Nat)(h:m<5000000):q+(a*500+450)*100000+m<q+((a+1)*500+j)*100000:=U
def H2(q m:Nat):(q*500+400)*10000000000<(q*500+450)*10000000000+m:=U
def Jb(f:Base Z G u t)(l:G.s k=⟨.dG 5,false⟩)(c:RCtx)(h:c.Ok X Z G k u)(B:Acc (dZ X.Q) c.V)(R:cB (ki Z.z.T) Z G (Z.wk k) ⟨5,c.bG,c.bH⟩ c.lj x g u n j)(L:n=a+1)(J:At (ki Z.z.T) a ⟨5,c.bG,c.bH⟩ x):
 cZ X Z G k g u t (2,⟨c.V,B⟩,(c.nr*500+450)*10000000000+(n*500+j)*100000):=by
 subst L;have m:=f.b9.side k;rw[l]at m;have m:cO .J (G.s (!k)).role G.mu G.ms G.aY G.bc:=m;obtain⟨p,V,P⟩:=cO.raise m;have w:(G.s (!k)).role.gC=false:=by have o:=m.mu;generalize (G.s (!k)).role=b at o;cases b<;>first|rfl|(simp[jO,j2]at o)
 have M:∀j,(G.s j).eC=false:=λj=>by
  rcases d:(G.s j).eC with _|_
  .rfl
  .rw[f.b9.eC j d]at p;cases p
 have e:∀j,(G.wk k ⟨.dG 7,false⟩ G.mu G.ms true G.bc G.v G.m).s j=if j=k then⟨.dG 7,false⟩else G.s j:=λ_=>rfl
 have wd:Word Z u (u.setCell ⟨Z.z.T,4,none⟩ (.int .u32 1)):=Word.set 4 _ (.inl rfl);have z:(u.setCell ⟨Z.z.T,4,none⟩ (.int .u32 1)).heap[Z.z.T]?=some (.cells (eN Z.z G.mu G.ms true G.bc) 94 (0,0)):=Word.T (aB:={G with aY:=true}) f (QT ..);have hW:=Word.W f 4 (.int .u32 1);have r:=pa f wd z (aB:=G.wk k ⟨.dG 7,false⟩ G.mu G.ms true G.bc G.v G.m) rfl rfl (Z.wk k);obtain⟨y,bw,C,_,Q⟩:=R.mr (aB:=G.wk k ⟨.dG 7,false⟩ G.mu G.ms true G.bc G.v G.m) (to:=⟨7,c.bG,c.bH⟩) (vi _) (zr _) J bI (.mark (.store (f.ww.Cd rfl) (f.ww.nV 4) (.nil _))) ⟨lY _,l6 _ _ _⟩;have D:=f.b9.tn k;rw[l]at D;have un:(⟨.dG 7,false⟩:ck).c=.un↔(⟨.dG 5,false⟩:ck).c=.un:=⟨bR,bR⟩
 have F:=f.b9.wk l (aX:=⟨.dG 7,false⟩) P D bR rfl un (λ_=>rfl) (λ_=>rfl);have E:ea Z (G.wk k ⟨.dG 7,false⟩ G.mu G.ms true G.bc G.v G.m) _:=ea.of f wd z hW rfl rfl;have K:∀a:eF,a.ig (G.wk k ⟨.dG 7,false⟩ G.mu G.ms true G.bc G.v G.m)↔a.ig G:=by
  intro a;cases a with
  |main=>exact Iff.rfl
  |dN j=>
   show((G.wk k ⟨.dG 7,false⟩ G.mu G.ms true G.bc G.v G.m).s j).c≠.un↔(G.s j).c≠.un;rw[e];split
   .rename_i d;subst d;rw[l];exact not_congr un
   .exact Iff.rfl
  |eu=>exact Iff.rfl
 have U:eX Z G=.written (Z.wk k):=by
  unfold eX;rw[p];cases k with
  |false=>rw[l];rfl
  |true=>
   have w:(G.s false).role.gC=false:=w;rw[w,l];rfl
 have T:e5 Z (G.wk k ⟨.dG 7,false⟩ G.mu G.ms true G.bc G.v G.m) (t++MemOp.ofEvents (Z.wk k) g.frame.fn g.frame.place #[⟨.cell ⟨Z.z.T,4,none⟩,true,true⟩]) u.heap.size:=by
  refine e5.raise (aB:=G.wk k ⟨.dG 7,false⟩ G.mu G.ms true G.bc G.v G.m) (f.ap.same rfl rfl) f.dy ⟨λb _=>rfl,rfl⟩ (.dN k) (by show(G.s k).c≠.un;rw[l];exact qq) U rfl f.fv.1 K (by show(G.s k).deaf=0;rw[l];rfl) (λa=>?_) (λj d=>?_) (λj d=>?_) (λd=>⟨d,aF⟩) id
  .cases a with
   |main=>rfl
   |dN j=>
    show((G.wk k ⟨.dG 7,false⟩ G.mu G.ms true G.bc G.v G.m).s j).deaf=(G.s j).deaf;rw[e];split
    .rename_i d;subst d;rw[l];rfl
    .rfl
   |eu=>rfl
  .rw[e]at d
   split at d
   .rename_i q;rw[q]
   .rw[M j]at d;cases d
  .rw[e]at d
   split at d
   .cases d
   .rename_i q
    exact⟨d,λS=>by cases S;exact q rfl⟩
 have H:Base Z (G.wk k ⟨.dG 7,false⟩ G.mu G.ms true G.bc G.v G.m) _ _:=f.rest rfl rfl rfl wd.size E F (by rw[wd.size];exact T);exact .go (G.wk k ⟨.dG 7,false⟩ G.mu G.ms true G.bc G.v G.m) ⟨.dG 7,false⟩ _ [⟨.cell ⟨Z.z.T,4,none⟩,true,true⟩] _ _ (Q false) rfl rfl rfl rfl rfl H (λi _=>e0.same (aB:=G.wk k ⟨.dG 7,false⟩ G.mu G.ms true G.bc G.v G.m) rfl rfl wd.size (λb o I _=>wd.keep b o I) E)
  (.dG c rfl (λ_ _=>rfl) (h.rely (dP:=G.wk k ⟨.dG 7,false⟩ G.mu G.ms true G.bc G.v G.m) rfl r h.l.heap.floor h.k2) B C) (eQ.last (tN _ _ ((a+1)*500+j) (by have:=C.le;omega))) rfl (.inl rfl) (.inl rfl)
def I7(h:sb l=true):l=0\/l=1\/l=2\/l=3\/l=4\/l=5\/l=7\/l=8:=by unfold sb at h;split at h<;>first|(cases h;done)|simp
def Jc(d:Base Z G u t)(f:G.s k=⟨.dG l,bb⟩)(c:RCtx)(h:c.Ok X Z G k u)(m:Acc (dZ X.Q) c.V)(ok:sb l=true)(D:1<=l->l<=7->bb=false)(q:cB (ki Z.z.T) Z G (Z.wk k) ⟨l,c.bG,c.bH⟩ c.lj x g u n j):
 cZ X Z G k g u t (2,⟨c.V,m⟩,(c.nr*500+450)*10000000000+(n*500+j)*100000):=by
 rcases q.quiet (vi _)with⟨a,z,w⟩|⟨y,bw,R,E,p⟩
 case inr=>exact CH (cT:=u.drawn) d f c h m (g7.refl _) (p false u) ok D E.on E.le U
 have F:=d.b9.side k;rw[f]at F;rcases I7 ok with rfl|rfl|rfl|rfl|rfl|rfl|rfl|rfl
 .rcases B:G.aY with _|_
  .have C:bb=false:=by
    cases bb with
    |false=>rfl
    |true=>have:=cO.KN F;rw[B]at this;cases this
   subst C;exact vW d f c h m q z w (aN:=1) false B (.head _) rfl (λ_ _=>rfl) F rfl (λh=>absurd h a6)
  .exact vW d f c h m q z w (aN:=8) true B (.tail _ (.head _)) rfl (λ_ h=>absurd h a6) F rfl (λ_=>rfl)
 .obtain rfl:=D a6 a6
  obtain⟨bp,rfl,rfl,H,p⟩:=y4 d f c h q w (to:=2) bI ⟨.lock .jr,false⟩;have C:=LP Z.z.T .normal (.inl rfl);subst z;exact cZ.still (aX:=⟨.lock .jr,false⟩) (n:=u.drawn) d f qq ⟨rfl,rfl,rfl,rfl,(bR),⟨bR,bR⟩⟩ p rfl
   (.lock (n:=40) (j:=400) (x:=(Frame.enter aK 120 (w8 Z.z.T) .normal,[])) bp H m ⟨⟨_,C,rfl⟩,bg,rfl,rfl,rfl,lY _,l6 _ _ _⟩) (eQ.last (yK _ _ _ _ a6))
 .obtain rfl:=D a6 a6
  rcases cO.KM F with⟨B,I⟩|⟨B,I⟩
  .exact vW d f c h m q z w (aN:=3) false B (.head _) rfl (λ_ _=>rfl) I rfl (λh=>absurd h a6)
  .exact vW d f c h m q z w (aN:=7) true B (.tail _ (.head _)) rfl (λ_ _=>rfl) I rfl (λ_=>rfl)
 .obtain rfl:=D a6 a6
  obtain⟨bp,rfl,rfl,H,p⟩:=y4 d f c h q w (to:=4) bI ⟨.dB 0,false⟩;obtain⟨J,M⟩:=IK d bp.toRCtx h;have C:=IT Z.z.T Z.z.F Z.z.R Z.z.gx Z.z.gy Z.z.Fr bp.bG bp.bH;have r:=kN d k ⟨.dB 0,false⟩ u.heap.size u.drawn;subst z;refine cZ.still (aX:=⟨.dB 0,false⟩) (n:=u.drawn) d f qq ⟨rfl,rfl,rfl,rfl,(bR),⟨bR,bR⟩⟩ p rfl
   (.dB (n:=60) (j:=400) (x:=(Frame.enter aK 59 #[pt bp.bG,pt bp.bH] .normal,[])) bp u.heap.size rfl (λi b o e=>?_) h.l.heap.floor h.k2 bg H m ⟨⟨_,C,rfl⟩,bg,rfl,rfl,rfl,J,M.rely J r⟩) (eQ.last (yK _ _ _ _ a6))
  unfold qQ at e;rcases i with _|_|_|_|_|_|i<;>simp at e
 .obtain⟨P,y,bw,Q,E,p⟩:=q.xi (vi _) (zr _) w (to:=λ_=>⟨5,c.bG,c.bH⟩) bI
  exact CH (aN:=5) (cT:=u.drawn+1) d f c h m ⟨rfl,rfl,rfl,rfl,(bR),⟨bR,bR⟩⟩ (p false) rfl (λ_ _=>D a6 a6) E.on E.le (by have:=E.le;omega)
 .obtain rfl:=D a6 a6
  exact Jb d f c h m q z w
 .obtain rfl:=D a6 a6
  obtain⟨bp,rfl,rfl,H,p⟩:=y4 d f c h q w (to:=8) bI ⟨.iu .ld,false⟩;have C:=RG Z.z.T .normal (.inl rfl);subst z;exact cZ.still (aX:=⟨.iu .ld,false⟩) (n:=u.drawn) d f qq ⟨rfl,rfl,rfl,rfl,(λe=>rfl),⟨bR,bR⟩⟩ p rfl
   (.iu (n:=20) (j:=400) (x:=(Frame.enter aK 121 (w8 Z.z.T) .normal,[])) bp H m ⟨⟨_,C,rfl⟩,bg,rfl,rfl,rfl,lY _,l6 _ _ _⟩) (eQ.last (yK _ _ _ _ a6))
 .obtain⟨L,p⟩:=w.leave bI
  have r:=kN d k ⟨.fx 14,bb⟩ u.heap.size u.drawn;have K:stepG aK false g u=.go ⟨c.oq.1.finish unit,c.oq.2++c.base,.running,none,none⟩ u:=by obtain⟨st,off,rfl⟩:=q.shape;have:=p false st off c.oq.1 (c.oq.2++c.base) u (uu h.run);rw[L];exact this
  exact cZ.still (aX:=⟨.fx 14,bb⟩) (n:=u.drawn) d f qq ⟨rfl,rfl,rfl,rfl,(λe=>rfl),⟨bR,bR⟩⟩ K rfl
   (.fx (l:=14) c.toLCtx c.kd c.bG c.bH c.df c.M [] c.bq rfl h.ad h.bY h.dh (λ_=>h.vH) (h.l.rely (dP:=(G.grow u.heap.size (Z.wk k)).st k ⟨.fx 14,bb⟩) rfl r h.l.heap.floor) m ⟨h.on,bg,rfl,rfl,rfl,h.mem,h.own.rely h.mem r⟩) (eQ.last (H2 _ _))
end
section
variable{X:et}{Z:Stat}[hi X Z]{G aB:bX}{u aC w:World}{t bh:Trace}{k:Bool}{g g':Goroutine}{s aX:ck}{bb:Bool}{x y:bA}{n j c9 bw l aN:Nat}{mu ms:Int}
noncomputable abbrev mA(T:Nat):de kg:=wY T 4 (94,28) .normal
def vj(T:Nat):dn (mA T).P (mA T).ext:=by unfold mA wY;exact j8
def KV(T:Nat)(p:kg):(mA T).dh p<=400:=by cases p<;>first|exact bg|(show(2:Nat)<=400;omega)
def Br:(⟨.lock p,bb⟩:ck).c≠.un:=by intro h;cases h
def DR(p:kg):(pY p).gC=false:=by cases p<;>rfl
def Fu(c:pY q=pY p)(d:(⟨.lock q,false⟩:ck).deaf=(⟨.lock p,false⟩:ck).deaf):g7 ⟨.lock p,false⟩ ⟨.lock q,false⟩:=
 ⟨c,rfl,rfl,d,id,⟨bR,bR⟩⟩
def qM(q dd m:Nat)(h:dd<m):q+dd<q+m:=U
def h0.Ok.k2{c:h0}(h:c.Ok X Z G k to u):∀(i:Nat) own b o,c.M[i]?=some (own,b,o)->b<u.heap.size:=λ_ _ _ _ e=>gL h.r.mem e
def zN(i:Base Z G u t)(B:G.s k=⟨.lock p,false⟩)(c:h0)(h:c.Ok X Z G k 2 u)(j:Acc (dZ X.Q) c.V)(D:g7 ⟨.lock p,false⟩ ⟨.lock q,false⟩)(C:stepG aK false g u=.go (bW y c.ja) aC)(calm:Calm u aC)(n:aC.heap=u.heap)(z:eJ (mA Z.z.T) c9 q bw y)(o:bw<=400)(w:c9*500+bw<m):cZ X Z G k g u t (2,⟨c.V,j⟩,(c.nr*500+450)*10000000000+(c.bZ*500+450)*100000+m):=by
 have keep:∀b,b<u.heap.size->aC.heap[b]?≠u.heap[b]?->gY Z G (Z.wk k) b/\u.heap.size<=b:=λb _ f=>absurd (by rw[n]) f
 have r:jV Z G ((G.grow u.heap.size (Z.wk k)).st k ⟨.lock q,false⟩) (Z.wk k) u.heap.size u aC:=qe i calm keep (λb d=>if_pos d) rfl;exact cZ.l3 (aX:=⟨.lock q,false⟩) (l:=[]) i B Br D C rfl calm (λb d f=>(keep b d f).1) (λe he=>(by cases he)) (λ_ e he=>(by cases he))
  (.lock c (h.rely (dP:=(G.grow u.heap.size (Z.wk k)).st k ⟨.lock q,false⟩) rfl r h.r.l.heap.floor h.k2) j ⟨z,o,rfl,rfl,rfl,lY _,l6 _ _ _⟩) (eQ.last (qM _ _ _ w))
def mC{to:kg}(f:Base Z G u t)(m:G.s k=⟨.lock p,false⟩)(c:h0)(h:c.Ok X Z G k 2 u)(l:Acc (dZ X.Q) c.V)(F:cB (mA Z.z.T) Z G (Z.wk k) p c.ja x g u n j)(D:n=a+1)(w:At (mA Z.z.T) a p x)(he:Edge.fix true false an d to∈(mA Z.z.T).cz p)(hd:Does u d aC es)(wd:Word Z u aC)(i:aC.heap[Z.z.T]?=some (.cells (eN Z.z mu ms G.aY G.bc) 94 (0,0)))(hW:aC.heap[Z.W]?=some (.cells #[.int .u64 G.v,.int .u32 G.m] 201 (0,0)))(H:cO (pY to) (G.s (!k)).role mu ms G.aY G.bc)(B:∀e∈hZ true (cI d),iv Z u.heap.size e)(z:(⟨.lock to,false⟩:ck).deaf=deafBehind (⟨.lock p,false⟩:ck).deaf (hZ true (cI d)).toArray)(C:ms=G.ms\/ms=0):
 cZ X Z G k g u t (2,⟨c.V,l⟩,(c.nr*500+450)*10000000000+(c.bZ*500+450)*100000+(n*500+j)):=by
 subst D;have r:=pa f wd i (aB:=G.wk k ⟨.lock to,false⟩ mu ms G.aY G.bc G.v G.m) rfl rfl (Z.wk k);obtain⟨y,bw,o,_,E⟩:=F.mr (aB:=G.wk k ⟨.lock to,false⟩ mu ms G.aY G.bc G.v G.m) (vj _) (KV _) w he hd ⟨lY _,l6 _ _ _⟩;have q:=f.b9.tn k;rw[m]at q;exact cZ.sync (aX:=⟨.lock to,false⟩) f m Br (E false) rfl wd i hW H q bR rfl ⟨bR,bR⟩ ((DR to).trans (DR p).symm) rfl B z bR bR (bR)
  (.lock c (h.rely (dP:=G.wk k ⟨.lock to,false⟩ mu ms G.aY G.bc G.v G.m) rfl r h.r.l.heap.floor h.k2) l o) (eQ.last (qM _ _ _ (by have:=o.le;omega))) (C.imp id .inl) (.inl rfl)
def nB:∀e∈([]:List Event),iv Z B e:=λe he=>(by cases he)
def iS(h:iv Z B e):∀c∈[e],iv Z B c:=λc he=>by rw[ev he];exact h
def lo{l:List Event}(h:iv Z B e)(k:∀c∈l,iv Z B c):∀c∈e::l,iv Z B c:=λc he=>by
 rcases List.mem_cons.1 he with rfl|he
 .exact h
 .exact k _ he
def pj:iv Z B ⟨.cell ⟨Z.z.T,5,none⟩,wr,true⟩:=.bM a6 a6 (bR)
def x5:iv Z B ⟨.cell ⟨Z.z.T,6,none⟩,wr,true⟩:=.bM a6 a6 (bR)
def qT:iv Z B ⟨.mark .disable,false,true⟩:=.mark rfl trivial
def qV:iv Z B ⟨.mark .enable,false,true⟩:=.mark rfl trivial
def Ct(u:World):Calm u (u.sys (.clock 1)).2:=by rw[sys_clock1];exact⟨bg,rfl,rfl,_,rfl⟩
def Cu(u:World):(u.sys (.clock 1)).2.heap=u.heap:=by rw[sys_clock1];rfl
def LR(f:Base Z G u t)(B:G.s k=⟨.lock p,false⟩)(c:h0)(h:c.Ok X Z G k 2 u)(z:Acc (dZ X.Q) c.V)(C:cB (mA Z.z.T) Z G (Z.wk k) p c.ja x g u n j):
 cZ X Z G k g u t (2,⟨c.V,z⟩,(c.nr*500+450)*10000000000+(c.bZ*500+450)*100000+(n*500+j)):=by
 rcases C.quiet (vj _)with⟨a,E,D⟩|⟨y,bw,Y,S,I⟩
 case inr=>exact zN f B c h z (g7.refl _) (I false u) (Calm.refl u) rfl S.on S.le U
 have o:=f.b9.side k;rw[B]at o;have J:=Word.refl Z u;have F:=f.ww.T;have H:=f.ww.W;have fv:=f.fv;have L:∀{v M:Int} {to:kg},G.mu=v->Edge.fix true false (pC (94,28) v) (sm Z.z.T 4 (94,28) 140 v M) to∈(mA Z.z.T).cz p->cO (pY to) (G.s (!k)).role M G.ms G.aY G.bc->(⟨.lock to,false⟩:ck).deaf=(⟨.lock p,false⟩:ck).deaf->cZ X Z G k g u t (2,⟨c.V,z⟩,(c.nr*500+450)*10000000000+(c.bZ*500+450)*100000+(n*500+j)):=by intro v M to i he w K;exact mC f B c h z C E D he (.mark (.shape f.ww.rr (.frozen (f.ww.nV 5) (.load (f.ww.ml i) (.store (f.ww.ml i) (f.ww.nV 5) (.nil _)))))) (Word.set 5 _ (.inl rfl)) (Word.T (aB:={G with mu:=M}) f (x0 ..)) (Word.W f 5 _) w (lo pj (iS pj)) K (.inl rfl)
 have Q:∀{v:Int} {an:List dO} {to:kg},G.mu=v->Edge.fix true false an (zu Z.z.T 4 (94,28) 140 v) to∈(mA Z.z.T).cz p->cO (pY to) (G.s (!k)).role G.mu G.ms G.aY G.bc->(⟨.lock to,false⟩:ck).deaf=(⟨.lock p,false⟩:ck).deaf->cZ X Z G k g u t (2,⟨c.V,z⟩,(c.nr*500+450)*10000000000+(c.bZ*500+450)*100000+(n*500+j)):=by intro v an to i he w K;exact mC f B c h z C E D he (.mark (.shape f.ww.rr (.frozen (f.ww.nV 5) (.load (f.ww.ml i) (.nil _))))) J F H w (iS pj) K (.inl rfl)
 have ld:∀{v:Int} {an:List dO} {to:kg},G.mu=v->Edge.fix true false an [.load .plain (jE Z.z.T 4) (.int .i32 v)] to∈(mA Z.z.T).cz p->cO (pY to) (G.s (!k)).role G.mu G.ms G.aY G.bc->(⟨.lock to,false⟩:ck).deaf=(⟨.lock p,false⟩:ck).deaf->cZ X Z G k g u t (2,⟨c.V,z⟩,(c.nr*500+450)*10000000000+(c.bZ*500+450)*100000+(n*500+j)):=by intro v an to i he w K;exact mC f B c h z C E D he (.load (f.ww.ml i) (.nil _)) J F H w nB K (.inl rfl)
 cases p with
 |jr=>exact mC f B c h z C E D (to:=.jX) bI (.mark (.mark (.nil _))) J F H o (iS qT) rfl (.inl rfl)
 |jX=>
  rcases cO.jX o with⟨i,w⟩|⟨i,w⟩
  .exact L i (.head _) w rfl
  .exact Q i (.tail _ (.head _)) (by rw[i];exact w) rfl
 |h6=>exact mC f B c h z C E D (to:=.gH) bI (.mark (.mark (.nil _))) J F H o (iS qV) rfl (.inl rfl)
 |gH=>exact mC f B c h z C E D (to:=.aq) bI (.shape f.ww.rr (.shape f.ww.rr (.nil _))) J F H o nB rfl (.inl rfl)
 |aq=>exact mC f B c h z C E D (to:=.fin) bI (.mark (.mark (.nil _))) J F H o (iS (.mark rfl fv.1)) rfl (.inl rfl)
 |fin=>
  obtain⟨W,I⟩:=D.leave bI;have r:=kN f k ⟨.dG 2,false⟩ u.heap.size u.drawn;have V:stepG aK false g u=.go ⟨c.j7.1.finish unit,c.j7.2++c.lj,.running,none,none⟩ u:=by obtain⟨st,off,rfl⟩:=C.shape;have:=I false st off c.j7.1 (c.j7.2++c.lj) u (uu h.run);rw[W];exact this
  exact cZ.still (aX:=⟨.dG 2,false⟩) (n:=u.drawn) f B Br ⟨rfl,rfl,rfl,rfl,(bR),⟨bR,bR⟩⟩ V rfl
   (.dG (l:=2) c.toRCtx rfl (λ_ _=>rfl) (h.r.rely (dP:=(G.grow u.heap.size (Z.wk k)).st k ⟨.dG 2,false⟩) rfl r h.r.l.heap.floor h.k2) z ⟨h.on,bg,rfl,rfl,rfl,lY _,l6 _ _ _⟩) (eQ.last (by have:=tN ((c.nr*500+450)*10000000000) (c.bZ*500+400) (c.bZ*500+450) U;exact gu this (Nat.le_add_right _ _)))
 |ld=>
  rcases cO.look o with i|⟨i,w⟩
  .exact ld i (.head _) o rfl
  .exact ld i (.tail _ (.head _)) (by rw[i];exact w) rfl
 |sp it=>
  have T:(Question.extern "runtime_canSpin" 2).cut (u.tape u.drawn (.extern "runtime_canSpin" 2))<2:=by simp only[Question.cut];rw[if_neg a6];exact Nat.mod_lt _ a6
  have wd:Word Z u (u.at (u.drawn+1)):=⟨rfl,λ_ _ _=>rfl,Calm.at u _⟩
  rcases i:(Question.extern "runtime_canSpin" 2).cut (u.tape u.drawn (.extern "runtime_canSpin" 2))with _|_|m
  .exact mC f B c h z C E D (aC:=u.at (u.drawn+1)) (to:=.rj) (.head _) (.mark (.choose i (.nil _))) wd F H o nB rfl (.inl rfl)
  .exact mC f B c h z C E D (aC:=u.at (u.drawn+1)) (to:=.rs it) (.tail _ (.head _)) (.mark (.choose i (.nil _))) wd F H o nB rfl (.inl rfl)
  .rw[i]at T;omega
 |rs it=>
  rcases cO.look o with i|⟨i,w⟩
  .by_cases R:it<3
   .exact ld (to:=.sp (it+1)) i (by show _∈[_,_];rw[if_pos R];exact .head _) o rfl
   .exact ld (to:=.rj) i (by show _∈[_,_];rw[if_neg R];exact .head _) o rfl
  .exact ld i (.tail _ (.head _)) (by rw[i];exact w) rfl
 |rj=>
  rcases cO.queue o with⟨i,w⟩|⟨i,w⟩
  .exact L i (.head _) w rfl
  .exact Q i (.tail _ (.head _)) (by rw[i];exact w) rfl
 |ln=>
  have:=(cO.b6 o).1;exact ld this (.head _) o rfl
 |bx=>
  obtain⟨i,w⟩:=cO.b6 o;exact L i (.head _) w rfl
 |t1=>
  obtain⟨y,P,_,I⟩:=D.clock (vj _) bI ((u.os.mono+u.tick:Nat):Int);obtain⟨st,off,rfl⟩:=C.shape;exact zN (q:=.qf _) (c9:=a) (bw:=400) f B c h z (Fu rfl rfl) (I false c.ja st off u rfl) (Ct u) (Cu u) P bg U
 |qf b=>
  rcases cO.sema o with⟨hm,_⟩|⟨hm,w⟩
  .have I:=D.wait (vj _) (.head _)
   obtain⟨st,off,rfl⟩:=C.shape;exact .wait (I false _ st off u _ (.mark (.mark (.load (f.ww.tS hm) (.nil _))))) ⟨b,by rw[B]⟩ hm
  .exact mC f B c h z C E D (to:=.t2 b) (.tail _ (.head _)) (.mark (.mark (.load (f.ww.tS hm) (.store (f.ww.tS hm) (f.ww.nV 6) (.mark (.nil _)))))) (Word.set 6 _ (.inl rfl)) (Word.T (aB:={G with ms:=0}) f (Gq ..)) (Word.W f 6 _) w (lo qT (lo x5 (lo x5 (iS qV)))) rfl (.inr rfl)
 |t2 b=>
  obtain⟨y,P,_,I⟩:=D.clock (vj _) bI ((u.os.mono+u.tick:Nat):Int);obtain⟨st,off,rfl⟩:=C.shape;exact zN (q:=.oH b _) (c9:=a) (bw:=2) f B c h z (Fu rfl rfl) (I false c.ja st off u rfl) (Ct u) (Cu u) P a6 U
 |oH b d=>
  rcases i:decide (1000000<IntKind.i64.wrap (d-b))with _|_
  .exact mC f B c h z C E D (to:=.rw) (.tail _ (.head _)) (.pN i (.nil _)) J F H o nB rfl (.inl rfl)
  .exact mC f B c h z C E D (to:=.rw) (.head _) (.pN i (.nil _)) J F H o nB rfl (.inl rfl)
 |rw=>
  have:=(cO.w2 o).1;exact ld this (.head _) o rfl
 |c2=>
  obtain⟨i,w⟩:=cO.w2 o;exact L i (.head _) w rfl
noncomputable abbrev qn(T:Nat):de m7:=x8 T 4 (94,28) .normal
def He(T:Nat):dn (qn T).P (qn T).ext:=by unfold qn x8;exact j8
def KW(T:Nat)(p:m7):(qn T).dh p<=400:=bg
def Bt{p:m7}:(⟨.iu p,bb⟩:ck).c≠.un:=by intro h;cases h
def GM(p:m7):(Be p).gC=false:=by cases p<;>rfl
def oj{p to:m7}(f:Base Z G u t)(m:G.s k=⟨.iu p,bb⟩)(c:h0)(h:c.Ok X Z G k 8 u)(l:Acc (dZ X.Q) c.V)(F:cB (qn Z.z.T) Z G (Z.wk k) p c.ja x g u n j)(D:n=a+1)(w:At (qn Z.z.T) a p x){wk:Bool}(he:Edge.fix true wk an d to∈(qn Z.z.T).cz p)(hd:Does u d aC es)(wd:Word Z u aC)(i:aC.heap[Z.z.T]?=some (.cells (eN Z.z mu ms G.aY G.bc) 94 (0,0)))(hW:aC.heap[Z.W]?=some (.cells #[.int .u64 G.v,.int .u32 G.m] 201 (0,0)))(I:cO (Be to) (G.s (!k)).role mu ms G.aY G.bc)(B:∀e∈hZ true (cI d),iv Z u.heap.size e)(z:(⟨.iu to,bb⟩:ck).deaf=deafBehind (⟨.iu p,bb⟩:ck).deaf (hZ true (cI d)).toArray)(C:ms=G.ms\/wk=true):
 cZ X Z G k g u t (2,⟨c.V,l⟩,(c.nr*500+450)*10000000000+(c.bZ*500+450)*100000+(n*500+j)):=by
 subst D;have r:=pa f wd i (aB:=G.wk k ⟨.iu to,bb⟩ mu ms G.aY G.bc G.v G.m) rfl rfl (Z.wk k);obtain⟨y,bw,o,H,E⟩:=F.mr (aB:=G.wk k ⟨.iu to,bb⟩ mu ms G.aY G.bc G.v G.m) (He _) (KW _) w he hd ⟨lY _,l6 _ _ _⟩;have q:=f.b9.tn k;rw[m]at q;exact cZ.sync (aX:=⟨.iu to,bb⟩) f m Bt (E false) rfl wd i hW I q bR rfl ⟨bR,bR⟩ ((GM to).trans (GM p).symm) rfl B z (λe=>.inl rfl) (λe=>.inl rfl) (bR)
  (.iu c (h.rely (dP:=G.wk k ⟨.iu to,bb⟩ mu ms G.aY G.bc G.v G.m) rfl r h.r.l.heap.floor h.k2) l o) (eQ.last (qM _ _ _ (by have:=o.le;omega))) (C.imp id λe=>.inr (H e)) (.inl rfl)
def Rx{p:m7}(d:Base Z G u t)(i:G.s k=⟨.iu p,bb⟩)(c:h0)(h:c.Ok X Z G k 8 u)(f:Acc (dZ X.Q) c.V)(m:cB (qn Z.z.T) Z G (Z.wk k) p c.ja x g u n j):
 cZ X Z G k g u t (2,⟨c.V,f⟩,(c.nr*500+450)*10000000000+(c.bZ*500+450)*100000+(n*500+j)):=by
 rcases m.quiet (He _)with⟨a,w,q⟩|⟨y,bw,J,F,E⟩
 case inr=>
  have r:=kN d k ⟨.iu p,bb⟩ u.heap.size u.drawn;exact cZ.still (aX:=⟨.iu p,bb⟩) (n:=u.drawn) d i Bt (g7.refl _) (E false u) rfl
   (.iu c (h.rely (dP:=(G.grow u.heap.size (Z.wk k)).st k ⟨.iu p,bb⟩) rfl r h.r.l.heap.floor h.k2) f ⟨F.on,F.le,rfl,rfl,rfl,lY _,l6 _ _ _⟩) (eQ.last (qM _ _ _ U))
 have o:=d.b9.side k;rw[i]at o;have D:=Word.refl Z u;have B:=d.ww.T;have C:=d.ww.W;have fv:=d.fv;cases p with
 |ld=>
  rcases cO.held o with aJ|aJ
  .exact oj d i c h f m w q (to:=.gH) (.head _) (.load (d.ww.ml aJ) (.nil _)) D B C o nB rfl (.inl rfl)
  .exact oj d i c h f m w q (to:=.gH) (.tail _ (.head _)) (.load (d.ww.ml aJ) (.nil _)) D B C o nB rfl (.inl rfl)
 |gH=>exact oj d i c h f m w q (to:=.cx) bI (.shape d.ww.rr (.shape d.ww.rr (.nil _))) D B C o nB rfl (.inl rfl)
 |cx=>exact oj d i c h f m w q (to:=.jr) bI (.mark (.mark (.nil _))) D B C o (iS (.mark rfl fv.1)) rfl (.inl rfl)
 |jr=>exact oj d i c h f m w q (to:=.add) bI (.mark (.mark (.nil _))) D B C o (iS qT) rfl (.inl rfl)
 |add=>
  rcases cO.add o with⟨aJ,z⟩|⟨aJ,z⟩
  .exact oj d i c h f m w q (to:=.h6) (.head _) (.mark (.load (d.ww.ml aJ) (.store (d.ww.ml aJ) (d.ww.nV 5) (.nil _)))) (Word.set 5 _ (.inl rfl)) (Word.T (aB:={G with mu:=0}) d (x0 ..)) (Word.W d 5 _) z (lo pj (iS pj)) rfl (.inl rfl)
  .exact oj d i c h f m w q (to:=.jX) (.tail _ (.head _)) (.mark (.load (d.ww.ml aJ) (.store (d.ww.ml aJ) (d.ww.nV 5) (.nil _)))) (Word.set 5 _ (.inl rfl)) (Word.T (aB:={G with mu:=8}) d (x0 ..)) (Word.W d 5 _) z (lo pj (iS pj)) rfl (.inl rfl)
 |jX=>
  obtain⟨aJ,z⟩:=cO.Im o;exact oj d i c h f m w q (to:=.db) bI (.mark (.shape d.ww.rr (.frozen (d.ww.nV 5) (.load (d.ww.ml aJ) (.store (d.ww.ml aJ) (d.ww.nV 5) (.nil _)))))) (Word.set 5 _ (.inl rfl)) (Word.T (aB:={G with mu:=2}) d (x0 ..)) (Word.W d 5 _) z (lo pj (iS pj)) rfl (.inl rfl)
 |db=>
  obtain⟨hm,z⟩:=cO.post o;exact oj d i c h f m w q (to:=.h6) bI (.mark (.mark (.load (d.ww.tS hm) (.store (d.ww.tS hm) (d.ww.nV 6) (.mark (.nil _)))))) (Word.set 6 _ (.inl rfl)) (Word.T (aB:={G with ms:=1}) d (Gq ..)) (Word.W d 6 _) z (lo qT (lo x5 (lo x5 (iS qV)))) rfl (.inr rfl)
 |h6=>exact oj d i c h f m w q (to:=.fin) bI (.mark (.mark (.nil _))) D B C o (iS qV) rfl (.inl rfl)
 |fin=>
  obtain⟨I,E⟩:=q.leave bI;have r:=kN d k ⟨.dG 8,true⟩ u.heap.size u.drawn;have H:stepG aK false g u=.go ⟨c.j7.1.finish unit,c.j7.2++c.lj,.running,none,none⟩ u:=by obtain⟨st,off,rfl⟩:=m.shape;have:=E false st off c.j7.1 (c.j7.2++c.lj) u (uu h.run);rw[I];exact this
  exact cZ.still (aX:=⟨.dG 8,true⟩) (n:=u.drawn) d i Bt ⟨rfl,rfl,rfl,rfl,(λe=>rfl),⟨bR,bR⟩⟩ H rfl
   (.dG (l:=8) c.toRCtx rfl (λ_ h=>absurd h a6) (h.r.rely (dP:=(G.grow u.heap.size (Z.wk k)).st k ⟨.dG 8,true⟩) rfl r h.r.l.heap.floor h.k2) f ⟨h.on,bg,rfl,rfl,rfl,lY _,l6 _ _ _⟩) (eQ.last (by have:=tN ((c.nr*500+450)*10000000000) (c.bZ*500+400) (c.bZ*500+450) U;exact gu this (Nat.le_add_right _ _)))
end
end Go.aO
