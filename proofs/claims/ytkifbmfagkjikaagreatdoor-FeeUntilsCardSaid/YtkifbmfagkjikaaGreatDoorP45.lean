/- A part; no conditions. -/
import Derived.Test.YtkifbmfagkjikaaGreatDoorP41
import Derived.Test.YtkifbmfagkjikaaGreatDoorP44
import Derived.Conc.HoldsTime
import Derived.ChangeSlices
import Derived.Deep.Slices
import Derived.Lib.SmallJoins
set_option maxHeartbeats 8000000
set_option maxRecDepth 100000
set_option linter.all false
namespace Go.aO
attribute [-simp] Go.Sem.runT_eq
open Go.ConcM (OsLater)
open Go.Proofs Go.Conc Go.ConcN
variable{kd:CallKind}{b o:Nat}{S:Nat->Prop}{ie ρ:Ren}{q v:Value}{V W aL u v0 w:World}
section
variable{R:Value->World->Prop}{f0:FuncId}{G:Machine->Outcome->World->Trace->Prop}
def bC.f49:bC.list.toArray[29]?=some l7:=av
instance bC.sp:hA bC.list.toArray:=⟨by kernel_rfl,by kernel_rfl,by kernel_rfl,by kernel_rfl,by kernel_rfl,by kernel_rfl,Oi bC.f49⟩
instance bC.h6:Hi bC.list.toArray:=⟨λk c w h=>Oh bC.f49 k c w h⟩
def bC.rv:lA bC:=⟨bC.S,bC.ek,bC.sp.f75,bC.sp.f141,bC.sp.f142,bC.eb.1,bC.eb.2.1,bC.eb.2.2.1⟩
def bC.f16:bC.funcs[5]?=some xD:=av
def JX(kd:CallKind):Frame.enter bC 5 #[] kd=⟨5,Array.replicate 131 undef,[.code xX],[],.run,kd,none⟩:=by unfold Frame.enter;rw[bC.f16];kernel_rfl
def QF{dx:Machine}{C:List Frame}(h:dz bC dx (lone ⟨5,Array.replicate 131 undef,[.code xX],[],.run,kd,none⟩ C w))(hC:2<=C.length)(c:kd=.normal\/kd=.deferred):
 dz bC dx (lone ⟨5,(Array.replicate 131 undef).setIfInBounds 0 (.bool true),[.code .ret],[],.returning,kd,none⟩ C w):=by
 obtain⟨_,_,⟨rfl,rfl⟩,h⟩:=(h.reg (l:=[0]) hC rfl).n3 hC c rfl rfl rfl (dJ.ok (cW:=λv aG=>v=.bool true/\w=aG) (acc:=#[]) ⟨rfl,rfl⟩ rfl);exact(h.gM hC).rt hC
def Kt(h:fQ ie ρ v0 V aL w)(old:∀b,b<w.heap.size->u.heap[b]?=w.heap[b]?)(calm:Calm w u)(lt:∀b c,ρ.r b c->c<w.heap.size):fQ ie ρ v0 V aL u:=
 h.trans ⟨Ren.le_refl ρ,λ_ _ h=>.inl h,calm.size,λb d _=>old b d,λb c d _=>⟨rfl,old c (lt b c d)⟩,calm.tape,calm.output,calm.os⟩
def La{k:IntKind}{n:Int}(h:aQ ρ (.int k n) q):q=.int k n:=by
 cases h with
 |int=>rfl
def JY(kd:CallKind)(x:Value):Frame.enter bC 29 #[x] kd=⟨29,#[x]++Array.replicate 8 undef,[.code uY],[],.run,kd,none⟩:=by unfold Frame.enter;rw[show bC.funcs[29]?=some l7 from bC.f49];kernel_rfl
def Ku{b4:World}(h:fQ ie ρ v0 V aL w)(g:yx V b4)(old:∀b,b<w.heap.size->u.heap[b]?=w.heap[b]?)(calm:Calm w u)(f:gm ρ V w):fQ ie ρ v0 b4 aL u/\gm ρ b4 u:=by
 have lt:∀b c,ρ.r b c->b<V.heap.size/\c<w.heap.size:=λb c d=>by obtain⟨_,_,l,m,_⟩:=f.obj b c d;exact⟨bu l,bu m⟩
 refine⟨h.trans ⟨Ren.le_refl ρ,λ_ _ h=>.inl h,calm.size,λb d _=>old b d,λb c d _=>⟨g.1 b (lt b c d).1,old c (lt b c d).2⟩,calm.tape,calm.output,calm.os⟩,⟨λb c d=>?_,cL f.lim g.2.1,cL f.js calm.size⟩⟩;obtain⟨o,p,i,j,n⟩:=f.obj b c d;exact⟨o,p,(g.1 b (lt b c d).1).trans i,(old c (lt b c d).2).trans j,n⟩
def Ss{k:Int}(h:aQ ρ (.iface 143 (.agg #[.int .i64 k])) q):q=.iface 143 (.agg #[.int .i64 k]):=by
 cases h with
 |iface t h=>
  cases h with
  |@agg c d f g=>
   obtain⟨y,rfl⟩:∃y,d=#[y]:=⟨_,sN d (f.symm.trans rfl)⟩
   have i:aQ ρ (.int .i64 k) y:=g 0 _ _ rfl rfl;rw[La i]
def Ls(c:kd=.normal\/kd=.deferred){T:Array Value}(h:T.getD 2 undef=v):l2 bC kd (⟨29,T,[.code .ret],[],.returning,kd,none⟩,[]) []=some (v,[]):=by
 have e:kZ bC (results l7 T) []=some (v,[]):=by rw[<-h];unfold results;rw[show l7.results=#[.tmp 2]from rfl];kernel_rfl
 unfold l2;rcases c with rfl|rfl
 .simp only[show bC.funcs[29]?=some l7 from bC.f49]
  exact e
 .simp only[show bC.funcs[29]?=some l7 from bC.f49]
  exact e
def bC.specs{base:List Frame}(S:aL.cell? ⟨0,0,none⟩=some oO)(aT:∀a,¬ie.r a 0):BL bC.K f0 R G base ie v0 aL (λaH=>¬aH 0):=by
 intro aH ρ V bo cs' gs w t Y d he W cont;have aE:=he;obtain⟨ah,ax,⟨f,a,b,kd,aX,r,ae,P,rfl,au⟩,X,U,E⟩:=he;by_cases am:f=5
 .subst am
  have aD:a=#[]:=Array.eq_empty_of_size_eq_zero (au 0 bC.eb.2.2.2.1);subst aD;have af:b=#[]:=Array.eq_empty_of_size_eq_zero ae.1.symm;subst af;obtain⟨z,i,B,g3,j,rfl,M,ag⟩:∃z i B g3,V.cs=z::i/\cs'=B::g3/\cN bC.K ρ z B/\cK (cN bC.K ρ) i g3:=by
   generalize V.cs=l at U X;cases U with
   |nil=>exact absurd rfl X
   |@cons x y l m ak al=>exact⟨_,_,_,_,rfl,rfl,ak,al⟩
  obtain⟨cF,Z⟩:=zC M;have ai:V.fr.mode=.run:=by rw[P];rfl
  have hC:2<=(V.cs++[wall]).length:=by rw[j];simp
  have A:=d.going.fA (aR:=V.w.tape) (λ_ _=>rfl);have F:dz bC V.m (lone (Frame.enter bC 5 #[] kd) (V.cs++[wall]) V.w):=by rw[<-P];exact A
  rw[JX]at F;have n:=QF F hC r;have aP:l2 bC kd (⟨5,(Array.replicate 131 undef).setIfInBounds 0 (.bool true),[.code .ret],[],.returning,kd,none⟩,[]) []=some (.bool true,[]):=by
   unfold l2;rcases r with rfl|rfl
   .simp only[bC.f16]
    kernel_rfl
   .simp only[bC.f16]
    kernel_rfl
  have K:V.cs++[wall]=z::(i++[wall]):=by rw[j];rfl
  rw[K]at n;have aj:=(oY (main:=true) (st:=.running) (off:=none) aP (rest:=i++[wall]) cF (Does.nil V.w)).2;obtain⟨N,aa⟩:=(n.go (by rw[<-K];exact hC) aj).1;have aM:aK.globals.size<=w.heap.size:=by have aA:=E.js;have J:ρ.lim=bC.globals.size:=ah.fits.lim;have ao:bC.globals.size=aK.globals.size:=rfl;omega
  have lt:∀b g,ρ.r b g->g<w.heap.size:=λb g C=>by obtain⟨_,_,_,J,_⟩:=E.obj b g C;exact bu J
  refine Na r Z aM d.low d.st λen gs u t aA J ao ap ar D=>?_
  refine xO (w:=u) bC.rv d.going d.self ai j (λb g C aU=>?_) ao ah ax M ag r (aQ.bool _) bg ⟨λb g C=>?_,E.lim,cL E.js ar.size⟩ (Kt W ap ar lt) aa D (λQ b4 I H bm w' bh=>cont en Q b4 I H bm w' bh (λh=>by
   rcases J 0 h with h|h
   .exact Y h
   .have j:aK.globals.size=1:=av
    omega))
  .rcases J g aU with h|h
   .exact d.rel b g C h
   .have:=lt b g C;omega
  .obtain⟨o,aV,j,ay,aS⟩:=E.obj b g C
   exact⟨o,aV,j,(ap g (lt b g C)).trans ay,aS⟩
 by_cases aq:f=29
 .subst aq
  obtain⟨p,rfl⟩:∃x,a=#[x]:=⟨_,sN a (au 1 bC.eb.2.2.2.2)⟩
  obtain⟨q,rfl⟩:∃x,b=#[x]:=⟨_,sN b (by rw[<-ae.1];rfl)⟩
  have aw:aQ ρ p q:=ae.2 0 p q rfl rfl;obtain⟨z,i,B,g3,j,rfl,M,ag⟩:∃z i B g3,V.cs=z::i/\cs'=B::g3/\cN bC.K ρ z B/\cK (cN bC.K ρ) i g3:=by
   generalize V.cs=l at U X;cases U with
   |nil=>exact absurd rfl X
   |@cons x y l m ak al=>exact⟨_,_,_,_,rfl,rfl,ak,al⟩
  obtain⟨cF,Z⟩:=zC M;have ai:V.fr.mode=.run:=by rw[P];rfl
  have hC:2<=(V.cs++[wall]).length:=by rw[j];simp
  have A:=d.going.fA (aR:=V.w.tape) (λ_ _=>rfl);have F:dz bC V.m (lone (Frame.enter bC 29 #[p] kd) (V.cs++[wall]) V.w):=by rw[<-P];exact A
  rw[JY]at F;have K:V.cs++[wall]=z::(i++[wall]):=by rw[j];rfl
  have fin:∀(c:Int) (T:Array Value) (b4:World),T.getD 2 undef=.int .i64 c->yx V.w b4->dz bC V.m (lone ⟨29,T,[.code .ret],[],.returning,kd,none⟩ (V.cs++[wall]) b4)->∀gs u t,(∀b,b<w.heap.size->u.heap[b]?=w.heap[b]?)->Calm w u->
   cc aK aH gs ⟨eU kd B (.int .i64 c),g3++base,.running,none,none⟩ u t 0->∀sl,Ends aK G (crowd gs u sl) t:=by
   intro c T b4 L ad n gs u t old calm D;rw[K]at n;have aj:=(oY (main:=true) (st:=.running) (off:=none) (Ls r L) (rest:=i++[wall]) cF (Does.nil b4)).2;obtain⟨N,aa⟩:=(n.go (by rw[<-K];exact hC) aj).1;obtain⟨aI,aN⟩:=Ku W ad old calm E;exact xO bC.rv d.going d.self ai j d.rel d.low ah ax M ag r (aQ.int .i64 c) calm.size aN aI aa D (λQ b4 I H bm w' bh=>cont aH Q b4 I H bm w' bh Y)
  have hu:∃m,bC.underlying 75=some (.interface m):=bC.rv.x7;have aB:9<=(#[p]++Array.replicate 8 undef:Array Value).size:=aF;rcases QE bC.S hu (x:=p) rfl aB hC r F with⟨rfl,T,L,n⟩|⟨k,c,T,b4,hm,rfl,L,ad,n⟩
  .cases aw
   exact Mt r Z d.low d.st λgs u t old calm D=>fin 0 T V.w L ⟨λ_ _=>rfl,bg,rfl,rfl,rfl⟩ n gs u t old calm D
  .obtain rfl:=Ss aw
   have aO:(k=0/\c=3)\/(k=1/\c=1)\/(k=2/\c=1)\/(k=3/\c=1)\/(k=4/\c=5):=by simpa [pQ]using hm
   have af:0<aL.heap.size:=by
    unfold World.cell? at S;split at S
    .rename_i e;exact bu e
    .cases S
   have aC:w.cell? ⟨0,0,none⟩=some oO:=by rw[<-S];unfold World.cell?;rw[show w.heap[(⟨0,0,none⟩:Addr).block]?=aL.heap[(⟨0,0,none⟩:Addr).block]? from W.out 0 af aT]
   exact Jx r Z aO aC Y d.low d.st λgs u t old calm D=>fin c T b4 L ad n gs u t old calm D
 .refine FE bC.rv aH ρ V _ cs' gs w t (λaz aW aY aG aJ=>?_) d aE W (λQ b4 I H bm w' bh=>cont aH Q b4 I H bm w' bh Y)
  have:az=f:=by have:=congrArg Frame.fn (aJ.symm.trans P);exact this
  subst this;rcases aG with h|h|h|h|h
  .exact .inl h
  .exact .inr (.inl h)
  .exact .inr (.inr h)
  .exact absurd h am
  .exact absurd h aq
end
noncomputable def gT(S:Nat->Prop):Ren where
 r a b:=a=b/\S a
 fwd:=by rintro a b c ⟨rfl,_⟩ ⟨rfl,_⟩;rfl
 bwd:=by rintro a b c ⟨rfl,_⟩ ⟨rfl,_⟩;rfl
 lim:=bC.globals.size
 low:=by rintro a b ⟨rfl,_⟩;exact Iff.rfl
 exact:=false
 cells:=bC.cellsOf
 cW:=λc=>codeOk bC true c=true
 room:=true
 eb:=eK bC
 fu:=ni bC
def Dz(S:Nat->Prop):Fit bC (gT S):=⟨⟨rfl,λ_=>bg,rfl,rfl⟩,rfl,λb e=>by rw[bC.o5]at e;cases e⟩
def Qt{aH:Nat->Prop}{B:Nat}:kB aH B #[]:=
 ⟨λsaid=>by rintro⟨i,j,_,⟨a,b,c,_⟩,_⟩;simp[Trace.act?]at c,λi a c=>by simp[touchAt,Trace.act?]at c,λi g d=>by simp[Trace.g?]at d,λop h=>by simp at h⟩
def Lp{g:Goroutine}(c:g.status=.running):cc aK (λ_=>False) #[g] g W #[] 0:=
 ⟨rfl,c,⟨λ_=>0,leavers_one aK g⟩,Qt,rfl⟩
def Lm{f:FuncId}(m:f≠2)(ae:¬bC.K.fn f)(F:eK bC f=none){c:World}{us p:Array Value}(T:W.cell? ⟨0,0,none⟩=some oO)(Y:¬S 0)(hW:aK.globals.size<=W.heap.size)(ap:c.heap.size=W.heap.size)(C:∀b,S b->∃o j,c.heap[b]?=some o/\W.heap[b]?=some j/\eZ (gT S) o j/\eZ (gT S) o o/\jk c b)(H:bQ (gT S) us p)(aa:∀w:World,w.heap=c.heap->Calls bC f us w λe _=>e=.returned (.bool true))(sl:Option (Nat×Nat)):
 Ends aK (Go.Conc.Good aK λv w'=>v=.bool true/\Calm W w'/\∀b,b<W.heap.size->w'.heap[b]?=W.heap[b]?) (crowd #[⟨Frame.enter aK f p .normal,[],.running,none,none⟩] W sl) #[]:=by
 have u:e3 bC f (λv _=>v=.bool true) ⟨Frame.enter bC f us .normal,[],c⟩:=e3.z8 λaR _=>(aa (dM c aR) rfl).mono λe w' he=>⟨_,he,rfl⟩
 have B:(gT S).lim<=c.heap.size:=by show bC.globals.size<=_;rw[ap];exact hW
 have ak:(gT S).lim<=W.heap.size:=hW;have X:Self bC ⟨Frame.enter bC f us .normal,[],c⟩:=by
  refine⟨gT S,Dz S,rfl,?_,.nil,?_,λ_ _=>rfl,B,B⟩
  .rcases x4 (pP (K:=jv bC) bC.ek f (Bl (ρ:=gT S) (ai:=gT S) (λa b h=>⟨rfl,h.2⟩) ⟨rfl,rfl⟩ H) (λn e=>by have e:eK bC f=some n:=e;rw[F]at e;cases e) .normal (.inl rfl))with h|⟨au,h,hm⟩
   .exact h
   .obtain⟨o,w2,J,q⟩:=rm (Q:=bC) (V:=⟨Frame.enter bC f us .normal,[],c⟩) h hm c
    exact(u.live (aR:=c.tape) (λ_ _=>rfl) (p8 hm) q).elim
  .rintro b D ⟨rfl,i⟩
   obtain⟨o,j,l,m,E,P,_⟩:=C b i;exact⟨o,o,l,l,P⟩
 have ag:cN bC.K (gT S) (Frame.enter bC f us .normal) (Frame.enter aK f p .normal):=by
  have r:=pP (K:=bC.K) bC.H f H (λn e=>by have e:eK bC f=some n:=e;rw[F]at e;cases e) .normal (.inl rfl);generalize I:Frame.enter bC f us .normal=x at r;generalize aD:Frame.enter aK f p .normal=y at r;cases r with
  |plain h=>exact h
  |refused au h hm=>
   rw[<-I]at h hm;obtain⟨o,w2,J,q⟩:=rm (Q:=bC) (V:=⟨Frame.enter bC f us .normal,[],c⟩) h hm c;exact(u.live (aR:=c.tape) (λ_ _=>rfl) (p8 hm) q).elim
  |@sh L av D kd h G _ _=>
   have e:=congrArg Frame.fn I;have:f=L:=e;subst this;exact(ae h).elim
 have aj:gm (gT S) c W:=by refine⟨?_,B,ak⟩;rintro b D ⟨rfl,i⟩;obtain⟨o,j,l,m,E,_⟩:=C b i;exact⟨o,j,l,m,E⟩
 refine m0.go (base:=[]) (ie:=gT S) (v0:=c) (aL:=W) (R:=λv _=>v=.bool true) bC.S bC.ek bC.H (λ_ _ _ h=>h) (Ok:=λaH=>¬aH 0) (bC.specs T λa h=>Y (by obtain⟨rfl,h⟩:=h;exact h)) ?_ (λh=>h)
  (aH:=λ_=>False) (cs':=[]) ⟨u,X,λ_ _ _ h=>h,λ_ h=>h.elim,Lp rfl⟩ ⟨Dz S,rfl,ag,.nil,aj⟩ (fQ.refl _ _ _) sl
 intro aH ρ V bo gs w t _ ay aB aA ax am G af al sl;refine am.ended (λd=>?_) sl;obtain⟨v,aE,ai,dI,aG,es,U,ar,ao,az,g,aC,aq,ad,aw⟩:=al d;subst U;cases ar;refine⟨.bool true,aG,es,?_,aq,ad,rfl,⟨g.size,g.tape,g.output,g.os⟩,λb i=>?_⟩
 .rw[ao]
  have M:¬2=f:=λe=>m e.symm
  simp[GStep.after,doReturn,G,af,M]
 .by_cases z:S b
  .obtain⟨_,_,_,_,_,_,ah⟩:=C b z
   exact(g.guard b b ⟨rfl,z⟩ ah).2
  .exact g.out b i λa Z=>z (by obtain⟨rfl,h⟩:=Z;exact h)
def fE(W:World)(b:Nat):Prop:=1<=b/\∃d e g,W.heap[b]?=some (.cells d e g)
def yt(W:World)(v:Value):Prop:=(∃k n,v=.int k n)\/(∃l c,v=.slice none l c)\/(∃b o l c,v=.slice (some ⟨b,o,none⟩) l c/\fE W b)\/∃q,v=.slice q 0 0
def bC.lJ:(gT S).fu=true:=by show ni bC=true;kernel_rfl
open Classical in
noncomputable def uB(W:World)(a:Addr):Addr:=if a.spot=none/\fE W a.block then a else⟨0,0,some 0⟩
noncomputable def mH(W:World)(q:Option Addr):Option Addr:=q.map (uB W)
noncomputable def xa(W:World):Value->Value
 |.slice q l c=>.slice (mH W q) l c
 |v=>v
def zV{a:Addr}(h:a.spot=none/\fE W a.block):uB W a=a:=if_pos h
def uC(h:fE W b):mH W (some ⟨b,o,none⟩)=some ⟨b,o,none⟩:=congrArg some (zV ⟨rfl,h⟩)
def Bi(q:Option Addr):aQ (gT (fE W)) (.slice (mH W q) 0 0) (.slice q 0 0):=by
 rcases q with _|a
 .exact .kr _ _
 .show aQ (gT (fE W)) (.slice (some (uB W a)) 0 0) (.slice (some a) 0 0)
  rcases Classical.em (a.spot=none/\fE W a.block)with h|h
  .rw[zV h]
   exact .slice (ρ:=gT (fE W)) (a:=a) (b:=a) ⟨⟨rfl,h.2⟩,rfl,rfl⟩ 0 0
  .rw[show uB W a=⟨0,0,some 0⟩from if_neg h]
   exact .ju bC.lJ rfl
def masked{W:World}:∀v:Value,∃u,aQ (gT (fE W)) u v/\(yt W v->u=xa W v)
 |.bool b=>⟨_,.bool b,λ_=>rfl⟩
 |.int k n=>⟨_,.int k n,λ_=>rfl⟩
 |.float k n=>⟨_,.gI bC.lJ trivial,λh=>by rcases h with⟨_,_,h⟩|⟨_,_,h⟩|⟨_,_,_,_,h,_⟩|⟨_,h⟩<;>cases h⟩
 |.complex k n m=>⟨_,.gI bC.lJ trivial,λh=>by rcases h with⟨_,_,h⟩|⟨_,_,h⟩|⟨_,_,_,_,h,_⟩|⟨_,h⟩<;>cases h⟩
 |.string s=>⟨_,.string s,λ_=>rfl⟩
 |.pointer none=>⟨_,.jH,λ_=>rfl⟩
 |.pointer (some a)=>⟨_,.gI bC.lJ trivial,λh=>by rcases h with⟨_,_,h⟩|⟨_,_,h⟩|⟨_,_,_,_,h,_⟩|⟨_,h⟩<;>cases h⟩
 |.slice none l c=>⟨_,.kr l c,λ_=>rfl⟩
 |.slice (some a) l c=>by
  rcases Classical.em (a.spot=none/\fE W a.block)with⟨C,B⟩|h
  .exact⟨.slice (some a) l c,.slice (ρ:=gT (fE W)) (a:=a) (b:=a) ⟨⟨rfl,B⟩,rfl,rfl⟩ l c,λ_=>by show _=Value.slice (some (uB W a)) l c;rw[zV ⟨C,B⟩]⟩
  .rcases Classical.em (l=0/\c=0)with⟨rfl,rfl⟩|aT
   .exact⟨_,Bi (some a),λ_=>rfl⟩
   .refine⟨_,.gI bC.lJ trivial,λk=>(h ?_).elim⟩
    rcases k with⟨_,_,k⟩|⟨_,_,k⟩|⟨b,o,_,_,k,D⟩|⟨_,k⟩
    .cases k
    .cases k
    .cases k;exact⟨rfl,D⟩
    .cases k;exact(aT ⟨rfl,rfl⟩).elim
 |.map none=>⟨_,.p5,λ_=>rfl⟩
 |.map (some r)=>⟨_,.gI bC.lJ trivial,λh=>by rcases h with⟨_,_,h⟩|⟨_,_,h⟩|⟨_,_,_,_,h,_⟩|⟨_,h⟩<;>cases h⟩
 |.chan none=>⟨_,.qP,λ_=>rfl⟩
 |.chan (some r)=>⟨_,.gI bC.lJ trivial,λh=>by rcases h with⟨_,_,h⟩|⟨_,_,h⟩|⟨_,_,_,_,h,_⟩|⟨_,h⟩<;>cases h⟩
 |.func (.method n) b d=>⟨_,.k9 bC.lJ,λh=>by rcases h with⟨_,_,h⟩|⟨_,_,h⟩|⟨_,_,_,_,h,_⟩|⟨_,h⟩<;>cases h⟩
 |.func (.func f) b d=>⟨_,.gI bC.lJ trivial,λh=>by rcases h with⟨_,_,h⟩|⟨_,_,h⟩|⟨_,_,_,_,h,_⟩|⟨_,h⟩<;>cases h⟩
 |.func (.methodOf t n) b d=>⟨_,.gI bC.lJ trivial,λh=>by rcases h with⟨_,_,h⟩|⟨_,_,h⟩|⟨_,_,_,_,h,_⟩|⟨_,h⟩<;>cases h⟩
 |.func (.via t p f q) b d=>⟨_,.gI bC.lJ trivial,λh=>by rcases h with⟨_,_,h⟩|⟨_,_,h⟩|⟨_,_,_,_,h,_⟩|⟨_,h⟩<;>cases h⟩
 |.func (.yield l) b d=>⟨_,.gI bC.lJ trivial,λh=>by rcases h with⟨_,_,h⟩|⟨_,_,h⟩|⟨_,_,_,_,h,_⟩|⟨_,h⟩<;>cases h⟩
 |.nilFunc=>⟨_,.nilFunc,λ_=>rfl⟩
 |.iface t w=>⟨_,.gI bC.lJ trivial,λh=>by rcases h with⟨_,_,h⟩|⟨_,_,h⟩|⟨_,_,_,_,h,_⟩|⟨_,h⟩<;>cases h⟩
 |.nilIface=>⟨_,.nilIface,λ_=>rfl⟩
 |.tuple E=>⟨_,.gI bC.lJ trivial,λh=>by rcases h with⟨_,_,h⟩|⟨_,_,h⟩|⟨_,_,_,_,h,_⟩|⟨_,h⟩<;>cases h⟩
 |.agg c=>by
  have h:∀i:Fin c.size,∃u,aQ (gT (fE W)) u c[i]:=λi=>(masked c[i]).imp λ_ h=>h.1
  refine⟨.agg (Array.ofFn λi=>Classical.choose (h i)),.agg aF λi x y g j=>?_,λh=>by rcases h with⟨_,_,h⟩|⟨_,_,h⟩|⟨_,_,_,_,h,_⟩|⟨_,h⟩<;>cases h⟩;have z:=bu j;rw[fb (by simpa using z)]at g;rw[fb z]at j;have g:=bD g;have j:=bD j;rw[Array.getElem_ofFn]at g;subst g;subst j;exact Classical.choose_spec (h ⟨i,z⟩)
noncomputable def mE(W:World)(d:Array Value):Array Value:=d.map λv=>Classical.choose (masked (W:=W) v)
def L5(W:World)(d:Array Value):bQ (gT (fE W)) (mE W d) d:=by refine⟨by simp[mE],λi x y c f=>?_⟩;have g:=bu f;unfold mE at c;rw[Array.getElem?_map,f]at c;have c:Classical.choose (masked (W:=W) y)=x:=bD c;rw[<-c];exact(Classical.choose_spec (masked (W:=W) y)).1
open Classical in
noncomputable def mF(W:World):World:={W with heap:=W.heap.mapIdx λb o=>match o with
 |.cells d e g=>if 1<=b then .cells (mE W d) e (0,max d.size g.2)else o
 |o=>o}
def DZ{d:Array Value}{e:TypeId}{g:Nat×Nat}(c:1<=b)(h:W.heap[b]?=some (.cells d e g)):(mF W).heap[b]?=some (.cells (mE W d) e (0,max d.size g.2)):=by show(W.heap.mapIdx _)[b]?=_;rw[Array.getElem?_mapIdx,h];simp only[Option.map_some,if_pos c]
def L7(W:World)(b:Nat)(m:fE W b):∃o j,(mF W).heap[b]?=some o/\W.heap[b]?=some j/\eZ (gT (fE W)) o j/\eZ (gT (fE W)) o o/\jk (mF W) b:=by
 obtain⟨l,d,e,g,hd⟩:=m;have f:=DZ l hd;have c:=L5 W d;have n:bQ (gT (fE W)) (mE W d) (mE W d):=Bl (ρ:=gT (fE W)) (ai:=gT (fE W)) (λa b h=>⟨rfl,h.2⟩) ⟨rfl,rfl⟩ c;have i:(mE W d).size=d.size:=by simp[mE]
 exact⟨_,_,f,hd,.cells (.inl c.1) c.2 (.inr ⟨rfl,rfl,by rw[i];exact Nat.le_max_left _ _,Nat.le_max_right _ _⟩),.cells (.inl rfl) n.2 (.inl rfl),mE W d,e,_,f,by rw[i];exact Nat.le_max_left _ _⟩
def L6(c:1<=b)(h:W.cell? ⟨b,o,none⟩=some v)(f:yt W v):(mF W).cell? ⟨b,o,none⟩=some (xa W v):=by
 unfold World.cell? at h;dsimp only at h;split at h
 .rename_i d e g hd
  have h:d[o]?=some v:=by simpa using h
  unfold World.cell?;dsimp only;rw[DZ c hd];show(mE W d)[o]?=some (xa W v);unfold mE;rw[Array.getElem?_map,h];exact congrArg some ((Classical.choose_spec (masked (W:=W) v)).2 f)
 .cases h
def D1(W:World):(mF W).heap.size=W.heap.size:=by simp[mF]
end Go.aO
namespace Go.aO
attribute [-simp] Go.Sem.runT_eq
open Go.ConcM (OsLater)
open Go.Proofs Go.Conc Go.ConcN Go.ChangeShapes Go.Deep Go.Joins
variable{a:Addr}{cs:List Value}{c fuel n:Nat}{f:Nat->Int}{q:Option Addr}{v:Value}{W w:World}{d:dw}{p:gz}
section
def kV(W:World)(q:Option Addr)(n c:Nat)(f:Nat->Int):Prop:=(n=0/\c=0)\/∃b o,q=some ⟨b,o,none⟩/\fE W b/\∀j,j<n->W.cell? ⟨b,o+j,none⟩=some (.int .i64 (f j))
structure rW(W:World)(d:dw)(p:gz):Prop where
 first:kV W p.eh d.c' p.cA d.first
 kM:(d.bk=0/\p.dq=0)\/∃b o,p.hH=some ⟨b,o,none⟩/\fE W b/\∀i,i<d.bk->W.cell? ⟨b,o+i*2,none⟩=some (.int .i64 (d.bV i))/\W.cell? ⟨b,o+i*2+1,none⟩=some (.slice (p.fh i) (d.eP i) (p.cq i))
 cQ:∀i,i<d.bk->kV W (p.fh i) (d.eP i) (p.cq i) (d.cQ i)
 free:kV W p.ei d.b' p.dc d.free
def lS(W:World):Prop:=∃e g,W.heap[0]?=some (.cells #[oO] e g)
def Is(h:W.cell? a=some v):a.spot=none/\∃d e g,W.heap[a.block]?=some (.cells d e g)/\d[a.off]?=some v:=by
 unfold World.cell? at h;split at h
 .rename_i d e g hd
  split at h
  .cases h
  .rename_i c
   exact⟨by simpa using c,d,e,g,hd,h⟩
 .cases h
def Cf(z:lS W){k:IntKind}{n:Int}(h:W.cell? a=some (.int k n)):a.spot=none/\fE W a.block:=by
 obtain⟨j,d,e,g,f,c⟩:=Is h;refine⟨j,?_,d,e,g,f⟩;rcases Nat.eq_zero_or_pos a.block with aT|aT
 .obtain⟨m,g',l⟩:=z
  rw[aT,l]at f;cases f;rcases i:a.off with _|o
  .rw[i]at c;cases c
  .rw[i]at c;simp at c
 .exact aT
section
variable{H:Type}{enc:TypeId×Value->H}{W:World}
def g9.nE:Tryz.prog.underlying 3=some (.int .i64):=av
def g9.ti:Tryz.prog.underlying 22=some (.slice 3):=av
def g9.u6:Tryz.prog.underlying 23=some (.slice 27):=av
def g9.c3:Tryz.prog.cellsOf 3=1:=av
def g9.yP:Tryz.prog.cellsOf 22=1:=av
def g9.Ig:Tryz.prog.cellsOf 23=1:=av
def g9.B6:Tryz.prog.cellsOf 27=2:=av
def g9.Ih:Tryz.prog.cellsOf 25=4:=av
noncomputable def fieldsOf(t:TypeId):Option (List (TypeId×Nat)):=match Tryz.prog.underlying t with
 |some (.struct ba)=>some (ba.toList.map λf=>(f.type,f.offset))
 |_=>none
def zg{t:TypeId}{l:List (TypeId×Nat)}(h:fieldsOf t=some l):∃ba:Array Field,Tryz.prog.underlying t=some (.struct ba)/\ba.toList.map (λf=>(f.type,f.offset))=l:=by
 unfold fieldsOf at h;split at h
 .rename_i ba hu
  exact⟨ba,hu,bD h⟩
 .cases h
def xK(z:lS W){x:DataW H×List MemPlace}(h:DataW.trod enc Tryz.prog W 0 (λ_=>true) true fuel 22 cs=some x):∃q n c f,cs = [.slice q n c]/\kV W q n c f/\n<=maxLen/\∀j,j<n->-9223372036854775808<=f j/\f j<=9223372036854775807:=by
 rcases open_ints g9.ti g9.nE g9.c3 h with⟨rfl,_⟩|⟨a,n,c,d,rfl,_,B,hm,g,_,m,y⟩
 .exact⟨none,0,0,λ_=>0,rfl,.inl ⟨rfl,rfl⟩,Nat.zero_le _,λj p=>U⟩
 .have g:d.length=c:=by simpa using g
  refine⟨some a,n,c,λj=>d.getD j 0,rfl,?_,U,λj p=>?_⟩;rotate_left
  .have r:j<d.length:=U
   have w:d.getD j 0∈d:=by rw[List.getD_eq_getElem?_getD,List.getElem?_eq_getElem r];exact List.getElem_mem r
   have key:∀z∈d,-9223372036854775808<=z/\z<=9223372036854775807:=λz g=>by have:=y z g;simp[Lit.wf,IntKind.min,IntKind.max,IntKind.signed,IntKind.bits]at this;omega
   exact key _ w
  rcases Nat.eq_zero_or_pos c with aT|aT
  .exact .inl ⟨U,aT⟩
  .have u:=m 0 U
   obtain⟨i,l⟩:=Cf z (show W.cell? a=_ from u);obtain⟨b,o,s⟩:=a;dsimp only at i l;subst i;refine .inr ⟨b,o,rfl,l,λj p=>?_⟩;have:=m j U;rwa [show(⟨b,o,none⟩:Addr).add j=⟨b,o+j,none⟩ by unfold Addr.add;split<;>simp_all]at this
def E5(z:lS W){x:DataW H×List MemPlace}(h:DataW.trod enc Tryz.prog W 0 (λ_=>true) true fuel 27 cs=some x):∃k q n c f,cs = [.int .i64 k,.slice q n c]/\kV W q n c f:=by
 obtain⟨⟨ba⟩,hu,d⟩:=zg (t:=27) (l:=[(3,0),(22,1)]) av;match ba,d with
 | [f0,f1],d=>
  simp only[List.map_cons,List.map_nil,List.cons.injEq,Prod.mk.injEq,and_true]at d;obtain⟨⟨t0,w⟩,t1,y⟩:=d;obtain⟨B,C,n,_,p,j,o⟩:=trod_struct2 hu h;rw[g9.B6]at p;match cs,p with
  | [bx,r],_=>
   rw[t0,w,g9.c3]at j;rw[t1,y,g9.yP]at o;obtain⟨k,g,_,_⟩:=DataW.trod_int g9.nE j;obtain⟨q,m,c,f,i,u,_,_⟩:=xK z o;have g:[bx] = [.int .i64 k]:=g;have i:[r] = [.slice q m c]:=i;cases g;cases i;exact⟨k,q,m,c,f,rfl,u⟩
def NU(z:lS W){x:DataW H×List MemPlace}(h:DataW.trod enc Tryz.prog W 0 (λ_=>true) true fuel 23 cs=some x):∃(q:Option Addr) (n c:Nat) (K:Nat->Int) (G:Nat->Option Addr) (F cq:Nat->Nat) (Q:Nat->Nat->Int),cs = [.slice q n c]/\
 ((n=0/\c=0)\/∃b o,q=some ⟨b,o,none⟩/\fE W b/\∀i,i<n->W.cell? ⟨b,o+i*2,none⟩=some (.int .i64 (K i))/\W.cell? ⟨b,o+i*2+1,none⟩=some (.slice (G i) (F i) (cq i)))/\∀i,i<n->kV W (G i) (F i) (cq i) (Q i):=by
 rcases open_slice g9.u6 h with⟨rfl,_⟩|⟨a,n,c,m,k,D,R,rfl,_,S,hm,E,_,M⟩
 .exact⟨none,0,0,λ_=>0,λ_=>none,λ_=>0,λ_=>0,λ_ _=>0,rfl,.inl ⟨rfl,rfl⟩,λi p=>U⟩
 .have E:m=c:=by simpa using E
  have each:∀i,i<m->∃y:Int×Option Addr×Nat×Nat×(Nat->Int),W.cell? (a.add (i*2))=some (.int .i64 y.1)/\W.cell? (a.add (i*2+1))=some (.slice y.2.1 y.2.2.1 y.2.2.2.1)/\kV W y.2.1 y.2.2.1 y.2.2.2.1 y.2.2.2.2:=λi p=>by obtain⟨cs',g,l⟩:=M i p;rw[g9.B6]at g;obtain⟨cb,q,P,I,f,rfl,L⟩:=E5 z l;obtain⟨_,_,C⟩:=World.cells?_some g;have d:=C 0 U;have B:=C 1 U;rw[add_add]at d B;exact⟨(cb,q,P,I,f),d,B,L⟩
  obtain⟨y,r⟩:=choose_lt each;refine⟨some a,n,c,λi=>(y i).1,λi=>(y i).2.1,λi=>(y i).2.2.1,λi=>(y i).2.2.2.1,λi=>(y i).2.2.2.2,rfl,?_,λi p=>(r i U).2.2⟩;rcases Nat.eq_zero_or_pos c with aT|aT
  .exact .inl ⟨U,aT⟩
  .have g:=(r 0 U).1
   obtain⟨l,d⟩:=Cf z (show W.cell? a=_ from g);obtain⟨b,o,s⟩:=a;dsimp only at l d;subst l;have J:∀j,(⟨b,o,none⟩:Addr).add j=⟨b,o+j,none⟩:=λj=>by unfold Addr.add;split<;>simp_all
   refine .inr ⟨b,o,rfl,d,λi p=>?_⟩;obtain⟨u,w,_⟩:=r i U;rw[J]at u w;exact⟨u,w⟩
def NV(z:lS W){x:DataW H×List MemPlace}(h:DataW.trod enc Tryz.prog W 0 (λ_=>true) true fuel 25 cs=some x):∃d p,cs=(eB d p).toList/\rW W d p:=by
 obtain⟨⟨ba⟩,hu,c⟩:=zg (t:=25) (l:=[(3,0),(22,1),(23,2),(22,3)]) av;match ba,c with
 | [f0,f1,f2,f3],c=>
  simp only[List.map_cons,List.map_nil,List.cons.injEq,Prod.mk.injEq,and_true]at c;obtain⟨⟨t0,Q⟩,⟨t1,R⟩,⟨t2,S⟩,t3,T⟩:=c;obtain⟨Z,aa,ad,ae,n,_,u,m,o,q,r⟩:=trod_struct4 hu h;rw[g9.Ih]at u;match cs,u with
  | [bx,I,J,c3],_=>
   rw[t0,Q,g9.c3]at m;rw[t1,R,g9.yP]at o;rw[t2,S,g9.Ig]at q;rw[t3,T,g9.yP]at r;obtain⟨k,f,_,_⟩:=DataW.trod_int g9.nE m;obtain⟨q1,C,w,L,g,s1,_,_⟩:=xK z o;obtain⟨F,D,y,K,U,P,cq,V,i,s2,X⟩:=NU z q;obtain⟨G,E,B,M,j,Y,_,_⟩:=xK z r;have f:[bx] = [.int .i64 k]:=f;have g:[I] = [.slice q1 C w]:=g;have i:[J] = [.slice F D y]:=i;have j:[c3] = [.slice G E B]:=j;cases f;cases g;cases i;cases j;exact⟨⟨k,C,L,D,K,P,V,E,M⟩,⟨q1,w,F,y,U,cq,G,B⟩,rfl,⟨s1,s2,X,Y⟩⟩
end
noncomputable def D4(W:World)(p:gz):gz:=⟨mH W p.eh,p.cA,mH W p.hH,p.dq,λi=>mH W (p.fh i),p.cq,mH W p.ei,p.dc⟩
def w6(f:w.heap=(mF W).heap){b o:Nat}(c:fE W b)(h:W.cell? ⟨b,o,none⟩=some v)(d:yt W v):w.cell? ⟨b,o,none⟩=some (xa W v):=by have:=L6 c.1 h d;unfold World.cell? at this ⊢;rw[f];exact this
def kV.mask(m:w.heap=(mF W).heap)(h:kV W q n c f):kU w (mH W q) n f:=λl=>by
 rcases h with⟨h,_⟩|⟨b,o,rfl,d,g⟩
 .exact(l h).elim
 .exact⟨b,o,uC d,λj i=>w6 m d (g j i) (.inl ⟨_,_,rfl⟩)⟩
def kV.Bg(h:kV W q n c f):aQ (gT (fE W)) (.slice (mH W q) n c) (.slice q n c):=by
 rcases h with⟨rfl,rfl⟩|⟨b,o,rfl,d,_⟩
 .exact Bi q
 .rw[uC d]
  exact .slice (ρ:=gT (fE W)) (a:=⟨b,o,none⟩) (b:=⟨b,o,none⟩) ⟨⟨rfl,d⟩,rfl,rfl⟩ n c
def rW.mask(c:w.heap=(mF W).heap)(h:rW W d p):iZ w d (D4 W p):=by
 refine⟨h.first.mask c,λB=>?_,λi f=>(h.cQ i f).mask c,h.free.mask c⟩;rcases h.kM with⟨n,_⟩|⟨b,o,u,g,z⟩
 .exact(B n).elim
 .refine⟨b,o,by show mH W p.hH=_;rw[u,uC g],λi f=>?_⟩
  obtain⟨q,r⟩:=z i f;refine⟨w6 c g q (.inl ⟨_,_,rfl⟩),w6 c g r ?_⟩;rcases h.cQ i f with⟨l,m⟩|⟨j,C,e,y,_⟩
  .rw[l,m];exact .inr (.inr (.inr ⟨_,rfl⟩))
  .rw[e];exact .inr (.inr (.inl ⟨j,C,_,_,rfl,y⟩))
def rW.Bg(h:rW W d p):aQ (gT (fE W)) (.agg (eB d (D4 W p))) (.agg (eB d p)):=by
 refine .agg rfl λi x y c f=>?_
 match i with
 | 0=>cases c;cases f;exact .int _ _
 | 1=>cases c;cases f;exact h.first.Bg
 | 2=>
  cases c;cases f;show aQ (gT (fE W)) (.slice (mH W p.hH) d.bk p.dq) (.slice p.hH d.bk p.dq);rcases h.kM with⟨j,l⟩|⟨b,o,e,g,_⟩
  .rw[j,l];exact Bi p.hH
  .rw[e,uC g]
   exact .slice (ρ:=gT (fE W)) (a:=⟨b,o,none⟩) (b:=⟨b,o,none⟩) ⟨⟨rfl,g⟩,rfl,rfl⟩ _ _
 | 3=>cases c;cases f;exact h.free.Bg
 |n+4=>simp at c
end
end Go.aO
