/- A part. -/
import Derived.Test.YtejkocoljbaioaaGreatDoorP32
import Derived.Test.YtejkocoljbaioaaGreatDoorP35
import Derived.Test.YtejkocoljbaioaaGreatDoorP38
import Derived.Conc.HoldsTime
import Derived.ChangeSlices
import Derived.Deep.Slices
import Derived.Lib.SmallJoins
import Derived.Test.YtejkocoljbaioaaGreatDoorRows
import Derived.Test.YtejkocoljbaioaaGreatDoorTie
import Derived.SevenTiedAt
set_option maxHeartbeats 8000000
set_option maxRecDepth 100000
set_option linter.all false
namespace Go.aO
attribute [-simp] Go.Sem.runT_eq
open Go.ConcM (OsLater)
open Go.Proofs Go.Conc Go.ConcN
variable{kd:CallKind}{b o:Nat}{S:Nat->Prop}{ie ρ:Ren}{q v:Value}{V W aL u v0 w:World}
section
variable{R:Value->World->Prop}{f0:FuncId}{G:Machine->Outcome->World->Trace->Prop}
def bC.f49:bC.list.toArray[40]?=some l7:=av
instance bC.sp:hA bC.list.toArray:=⟨by kernel_rfl,by kernel_rfl,by kernel_rfl,by kernel_rfl,by kernel_rfl,by kernel_rfl,Oi bC.f49⟩
instance bC.h6:Hi bC.list.toArray:=⟨λk c w h=>Oh bC.f49 k c w h⟩
def bC.rv:lA bC:=⟨bC.S,bC.ek,bC.sp.f75,bC.sp.f141,bC.sp.f142,bC.eb.1,bC.eb.2.1,bC.eb.2.2.1⟩
def bC.f16:bC.funcs[5]?=some xD:=av
def JX(kd:CallKind):Frame.enter bC 5 #[] kd=⟨5,Array.replicate 131 undef,[.code xX],[],.run,kd,none⟩:=by unfold Frame.enter;rw[bC.f16];kernel_rfl
def QF{dx:Machine}{C:List Frame}(h:dz bC dx (lone ⟨5,Array.replicate 131 undef,[.code xX],[],.run,kd,none⟩ C w))(hC:2<=C.length)(c:S8 kd):
 dz bC dx (lone ⟨5,(Array.replicate 131 undef).setIfInBounds 0 (.bool true),[.code .ret],[],.returning,kd,none⟩ C w):=by
 obtain⟨_,_,⟨rfl,rfl⟩,h⟩:=(h.reg (l:=[0]) hC rfl).n3 hC c rfl rfl rfl (dJ.ok (cW:=λv aG=>v=.bool true/\w=aG) (acc:=#[]) ⟨rfl,rfl⟩ rfl);exact(h.gM hC).rt hC
def Kt(h:fQ ie ρ v0 V aL w)(old:∀b,b<w.heap.size->u.heap[b]?=w.heap[b]?)(calm:Calm w u)(lt:∀b c,ρ.r b c->c<w.heap.size):fQ ie ρ v0 V aL u:=
 h.trans ⟨Ren.le_refl ρ,λ_ _ h=>.inl h,calm.size,λb d _=>old b d,λb c d _=>⟨rfl,old c (lt b c d)⟩,calm.tape,calm.output,calm.os⟩
def La{k:IntKind}{n:Int}(h:aQ ρ (.int k n) q):q=.int k n:=by
 cases h with
 |int=>rfl
def JY(kd:CallKind)(x:Value):Frame.enter bC 40 #[x] kd=⟨40,#[x]++Array.replicate 8 undef,[.code uY],[],.run,kd,none⟩:=by unfold Frame.enter;rw[show bC.funcs[40]?=some l7 from bC.f49];kernel_rfl
def Ku{b4:World}(h:fQ ie ρ v0 V aL w)(g:yx V b4)(old:∀b,b<w.heap.size->u.heap[b]?=w.heap[b]?)(calm:Calm w u)(f:gm ρ V w):fQ ie ρ v0 b4 aL u/\gm ρ b4 u:=by
 have lt:∀b c,ρ.r b c->b<V.heap.size/\c<w.heap.size:=λb c d=>by obtain⟨_,_,l,p,_⟩:=f.obj b c d;exact⟨bu l,bu p⟩
 refine⟨h.trans ⟨Ren.le_refl ρ,λ_ _ h=>.inl h,calm.size,λb d _=>old b d,λb c d _=>⟨g.1 b (lt b c d).1,old c (lt b c d).2⟩,calm.tape,calm.output,calm.os⟩,⟨λb c d=>?_,cL f.lim g.2.1,cL f.js calm.size⟩⟩;obtain⟨o,r,i,j,q⟩:=f.obj b c d;exact⟨o,r,(g.1 b (lt b c d).1).trans i,(old c (lt b c d).2).trans j,q⟩
def Ss{k:Int}(h:aQ ρ (.iface 152 (.agg #[ah k])) q):q=.iface 152 (.agg #[ah k]):=by
 cases h with
 |iface t h=>
  cases h with
  |@agg c d f g=>
   obtain⟨y,rfl⟩:∃y,d=#[y]:=⟨_,sN d (f.symm.trans rfl)⟩
   have i:aQ ρ (ah k) y:=g 0 _ _ rfl rfl;rw[La i]
def Ls(c:S8 kd){T:Array Value}(h:T.getD 2 undef=v):l2 bC kd (⟨40,T,[.code .ret],[],.returning,kd,none⟩,[]) []=some (v,[]):=by
 have e:kZ bC (results l7 T) []=some (v,[]):=by rw[<-h];unfold results;rw[show l7.results=#[.tmp 2]from rfl];kernel_rfl
 unfold l2;rcases c with rfl|rfl
 .simp only[show bC.funcs[40]?=some l7 from bC.f49]
  exact e
 .simp only[show bC.funcs[40]?=some l7 from bC.f49]
  exact e
def bC.specs{base:List Frame}(U:aL.cell? ⟨0,0,none⟩=some oO)(aV:∀a,¬ie.r a 0):BL bC.K f0 R G base ie v0 aL (λaH=>¬aH 0):=by
 intro aH ρ V bo cs' gs w t Z d he X cont;have aI:=he;obtain⟨aj,az,⟨f,a,b,kd,aZ,z,af,Q,rfl,ax⟩,Y,W,F⟩:=he;by_cases ap:f=5
 .subst ap
  have aG:a=#[]:=Array.eq_empty_of_size_eq_zero (ax 0 bC.eb.2.2.2.1);subst aG;have ag:b=#[]:=Array.eq_empty_of_size_eq_zero af.1.symm;subst ag;obtain⟨B,i,C,g3,j,rfl,P,ai⟩:∃B i C g3,V.cs=B::i/\cs'=C::g3/\cN bC.K ρ B C/\cK (cN bC.K ρ) i g3:=by
   generalize V.cs=l at W Y;cases W with
   |nil=>exact absurd rfl Y
   |@cons x y l m am ao=>exact⟨_,_,_,_,rfl,rfl,am,ao⟩
  obtain⟨cF,aa⟩:=zC P;have ak:V.fr.mode=.run:=by rw[Q];rfl
  have hC:2<=(V.cs++[wall]).length:=by rw[j];simp
  have A:=d.going.fA (aR:=V.w.tape) (λ_ _=>rfl);have H:dz bC V.m (lone (Frame.enter bC 5 #[] kd) (V.cs++[wall]) V.w):=by rw[<-Q];exact A
  rw[JX]at H;have r:=QF H hC z;have aT:l2 bC kd (⟨5,(Array.replicate 131 undef).setIfInBounds 0 (.bool true),[.code .ret],[],.returning,kd,none⟩,[]) []=some (.bool true,[]):=by
   unfold l2;rcases z with rfl|rfl
   .simp only[bC.f16]
    kernel_rfl
   .simp only[bC.f16]
    kernel_rfl
  have L:V.cs++[wall]=B::(i++[wall]):=by rw[j];rfl
  rw[L]at r;have al:=(oY (main:=true) (st:=.running) (off:=none) aT (rest:=i++[wall]) cF (Does.nil V.w)).2;obtain⟨N,ad⟩:=(r.go (by rw[<-L];exact hC) al).1;have aO:aK.globals.size<=w.heap.size:=by have aC:=F.js;have K:ρ.lim=bC.globals.size:=aj.fits.lim;have aq:bC.globals.size=aK.globals.size:=rfl;omega
  have lt:∀b g,ρ.r b g->g<w.heap.size:=λb g D=>by obtain⟨_,_,_,K,_⟩:=F.obj b g D;exact bu K
  refine Na z aa aO d.low d.st λen gs u t aC K aq ar aw E=>?_
  refine xO (w:=u) bC.rv d.going d.self ak j (λb g D aW=>?_) aq aj az P ai z (aQ.bool _) bg ⟨λb g D=>?_,F.lim,cL F.js aw.size⟩ (Kt X ar aw lt) ad E (λS b4 J I bm w' bh=>cont en S b4 J I bm w' bh (λh=>by
   rcases K 0 h with h|h
   .exact Z h
   .have j:aK.globals.size=1:=av
    omega))
  .rcases K g aW with h|h
   .exact d.rel b g D h
   .have:=lt b g D;omega
  .obtain⟨o,aX,j,aA,aU⟩:=F.obj b g D
   exact⟨o,aX,j,(ar g (lt b g D)).trans aA,aU⟩
 by_cases au:f=40
 .subst au
  obtain⟨p,rfl⟩:∃x,a=#[x]:=⟨_,sN a (ax 1 bC.eb.2.2.2.2)⟩
  obtain⟨q,rfl⟩:∃x,b=#[x]:=⟨_,sN b (by rw[<-af.1];rfl)⟩
  have ay:aQ ρ p q:=af.2 0 p q rfl rfl;obtain⟨B,i,C,g3,j,rfl,P,ai⟩:∃B i C g3,V.cs=B::i/\cs'=C::g3/\cN bC.K ρ B C/\cK (cN bC.K ρ) i g3:=by
   generalize V.cs=l at W Y;cases W with
   |nil=>exact absurd rfl Y
   |@cons x y l m am ao=>exact⟨_,_,_,_,rfl,rfl,am,ao⟩
  obtain⟨cF,aa⟩:=zC P;have ak:V.fr.mode=.run:=by rw[Q];rfl
  have hC:2<=(V.cs++[wall]).length:=by rw[j];simp
  have A:=d.going.fA (aR:=V.w.tape) (λ_ _=>rfl);have H:dz bC V.m (lone (Frame.enter bC 40 #[p] kd) (V.cs++[wall]) V.w):=by rw[<-Q];exact A
  rw[JY]at H;have L:V.cs++[wall]=B::(i++[wall]):=by rw[j];rfl
  have fin:∀(c:Int) (T:Array Value) (b4:World),T.getD 2 undef=ah c->yx V.w b4->dz bC V.m (lone ⟨40,T,[.code .ret],[],.returning,kd,none⟩ (V.cs++[wall]) b4)->∀gs u t,(∀b,b<w.heap.size->u.heap[b]?=w.heap[b]?)->Calm w u->
   cc aK aH gs (S6 (eU kd C (ah c)) (g3++base)) u t 0->S7 aK G gs u t:=by
   intro c T b4 M ae r gs u t old calm E;rw[L]at r;have al:=(oY (main:=true) (st:=.running) (off:=none) (Ls z M) (rest:=i++[wall]) cF (Does.nil b4)).2;obtain⟨N,ad⟩:=(r.go (by rw[<-L];exact hC) al).1;obtain⟨aM,aP⟩:=Ku X ae old calm F;exact xO bC.rv d.going d.self ak j d.rel d.low aj az P ai z (aQ.int .i64 c) calm.size aP aM ad E (λS b4 J I bm w' bh=>cont aH S b4 J I bm w' bh Z)
  have hu:∃m,bC.underlying 81=some (.interface m):=bC.rv.x7;have aD:9<=(#[p]++Array.replicate 8 undef:Array Value).size:=aF;rcases QE bC.S hu (x:=p) rfl aD hC z H with⟨rfl,T,M,r⟩|⟨k,c,T,b4,hm,rfl,M,ae,r⟩
  .cases ay
   exact Mt z aa d.low d.st λgs u t old calm E=>fin 0 T V.w M ⟨λ_ _=>rfl,bg,rfl,rfl,rfl⟩ r gs u t old calm E
  .obtain rfl:=Ss ay
   have aS:(k=0/\c=3)\/(k=1/\c=1)\/(k=2/\c=1)\/(k=3/\c=1)\/(k=4/\c=5):=by simpa [pQ]using hm
   have ag:0<aL.heap.size:=by
    unfold World.cell? at U;split at U
    .rename_i e;exact bu e
    .cases U
   have aE:w.cell? ⟨0,0,none⟩=some oO:=by rw[<-U];unfold World.cell?;rw[show w.heap[(⟨0,0,none⟩:Addr).block]?=aL.heap[(⟨0,0,none⟩:Addr).block]? from X.out 0 ag aV]
   exact Jx z aa aS aE Z d.low d.st λgs u t old calm E=>fin c T b4 M ae r gs u t old calm E
 .refine FE bC.rv aH ρ V _ cs' gs w t (λaB aY a0 aJ aN=>?_) d aI X (λS b4 J I bm w' bh=>cont aH S b4 J I bm w' bh Z)
  have:aB=f:=by have:=congrArg Frame.fn (aN.symm.trans Q);exact this
  subst this;rcases aJ with h|h|h|h|h
  .exact .inl h
  .exact .inr (.inl h)
  .exact .inr (.inr h)
  .exact absurd h ap
  .exact absurd h au
end
noncomputable def gT(S:Nat->Prop):Ren where
 r a b:=a=b/\S a
 fwd:=by rintro a b c ⟨rfl,_⟩ ⟨rfl,_⟩;rfl
 bwd:=by rintro a b c ⟨rfl,_⟩ ⟨rfl,_⟩;rfl
 lim:=bC.globals.size
 low:=by rintro a b ⟨rfl,_⟩;exact Iff.rfl
 exact:=false
 cells:=bC.cellsOf
 cW:=λc=>codeOk bC true c=true
 room:=true
 eb:=eK bC
 fu:=ni bC
def Dz(S:Nat->Prop):Fit bC (gT S):=⟨⟨rfl,λ_=>bg,rfl,rfl⟩,rfl,λb e=>by rw[bC.o5]at e;cases e⟩
def Qt{aH:Nat->Prop}{B:Nat}:kB aH B #[]:=
 ⟨λsaid=>by rintro⟨i,j,_,⟨a,b,c,_⟩,_⟩;simp[Trace.act?]at c,λi a c=>by simp[touchAt,Trace.act?]at c,λi g d=>by simp[Trace.g?]at d,λop h=>by simp at h⟩
def Lp{g:Goroutine}(c:g.status=.running):cc aK (λ_=>False) #[g] g W #[] 0:=
 ⟨rfl,c,⟨λ_=>0,leavers_one aK g⟩,Qt,rfl⟩
def Lm{f:FuncId}(p:f≠2)(af:¬bC.K.fn f)(G:eK bC f=none){c:World}{us q:Array Value}(U:W.cell? ⟨0,0,none⟩=some oO)(Z:¬S 0)(hW:aK.globals.size<=W.heap.size)(aq:c.heap.size=W.heap.size)(D:∀b,S b->∃o j,c.heap[b]?=some o/\W.heap[b]?=some j/\eZ (gT S) o j/\eZ (gT S) o o/\jk c b)(I:bQ (gT S) us q)(ad:∀w:World,w.heap=c.heap->Calls bC f us w λe _=>e=.returned (.bool true))(sl:Option (Nat×Nat)):
 Ends aK (Go.Conc.Good aK λv w'=>v=.bool true/\Calm W w'/\∀b,b<W.heap.size->w'.heap[b]?=W.heap[b]?) (crowd #[(S6 (Frame.enter aK f q .normal) [])] W sl) #[]:=by
 have z:e3 bC f (λv _=>v=.bool true) ⟨Frame.enter bC f us .normal,[],c⟩:=e3.z8 λaR _=>(ad (dM c aR) rfl).mono λe w' he=>⟨_,he,rfl⟩
 have C:(gT S).lim<=c.heap.size:=by show bC.globals.size<=_;rw[aq];exact hW
 have al:(gT S).lim<=W.heap.size:=hW;have Y:Self bC ⟨Frame.enter bC f us .normal,[],c⟩:=by
  refine⟨gT S,Dz S,rfl,?_,.nil,?_,λ_ _=>rfl,C,C⟩
  .rcases x4 (pP (K:=jv bC) bC.ek f (Bl (ρ:=gT S) (ai:=gT S) (λa b h=>⟨rfl,h.2⟩) ⟨rfl,rfl⟩ I) (λn e=>by have e:eK bC f=some n:=e;rw[G]at e;cases e) .normal (.inl rfl))with h|⟨av,h,hm⟩
   .exact h
   .obtain⟨o,w2,L,r⟩:=rm (Q:=bC) (V:=⟨Frame.enter bC f us .normal,[],c⟩) h hm c
    exact(z.live (aR:=c.tape) (λ_ _=>rfl) (p8 hm) r).elim
  .rintro b E ⟨rfl,i⟩
   obtain⟨o,j,l,p,F,T,_⟩:=D b i;exact⟨o,o,l,l,T⟩
 have ah:cN bC.K (gT S) (Frame.enter bC f us .normal) (Frame.enter aK f q .normal):=by
  have u:=pP (K:=bC.K) bC.H f I (λn e=>by have e:eK bC f=some n:=e;rw[G]at e;cases e) .normal (.inl rfl);generalize J:Frame.enter bC f us .normal=x at u;generalize aE:Frame.enter aK f q .normal=y at u;cases u with
  |plain h=>exact h
  |refused av h hm=>
   rw[<-J]at h hm;obtain⟨o,w2,L,r⟩:=rm (Q:=bC) (V:=⟨Frame.enter bC f us .normal,[],c⟩) h hm c;exact(z.live (aR:=c.tape) (λ_ _=>rfl) (p8 hm) r).elim
  |@sh M aw E kd h H _ _=>
   have e:=congrArg Frame.fn J;have:f=M:=e;subst this;exact(af h).elim
 have ak:gm (gT S) c W:=by refine⟨?_,C,al⟩;rintro b E ⟨rfl,i⟩;obtain⟨o,j,l,p,F,_⟩:=D b i;exact⟨o,j,l,p,F⟩
 refine m0.go (base:=[]) (ie:=gT S) (v0:=c) (aL:=W) (R:=λv _=>v=.bool true) bC.S bC.ek bC.H (λ_ _ _ h=>h) (Ok:=λaH=>¬aH 0) (bC.specs U λa h=>Z (by obtain⟨rfl,h⟩:=h;exact h)) ?_ (λh=>h)
  (aH:=λ_=>False) (cs':=[]) ⟨z,Y,λ_ _ _ h=>h,λ_ h=>h.elim,Lp rfl⟩ ⟨Dz S,rfl,ah,.nil,ak⟩ (fQ.refl _ _ _) sl
 intro aH ρ V bo gs w t _ az aC aB ay ao H ag am sl;refine ao.ended (λd=>?_) sl;obtain⟨v,aF,ai,dI,aG,es,X,au,ap,aA,g,aD,ar,ae,ax⟩:=am d;subst X;cases au;refine⟨.bool true,aG,es,?_,ar,ae,rfl,⟨g.size,g.tape,g.output,g.os⟩,λb i=>?_⟩
 .rw[ap]
  have P:¬2=f:=λe=>p e.symm
  simp[GStep.after,doReturn,H,ag,P]
 .by_cases B:S b
  .obtain⟨_,_,_,_,_,_,aj⟩:=D b B
   exact(g.guard b b ⟨rfl,B⟩ aj).2
  .exact g.out b i λa aa=>B (by obtain⟨rfl,h⟩:=aa;exact h)
def fE(W:World)(b:Nat):Prop:=1<=b/\∃d e g,W.heap[b]?=some (.cells d e g)
def yt(W:World)(v:Value):Prop:=(∃k n,v=.int k n)\/(∃l c,v=.slice none l c)\/(∃b o l c,v=.slice (some ⟨b,o,none⟩) l c/\fE W b)\/∃q,v=.slice q 0 0
def bC.lJ:(gT S).fu=true:=by show ni bC=true;kernel_rfl
open Classical in
noncomputable def uB(W:World)(a:Addr):Addr:=if a.spot=none/\fE W a.block then a else⟨0,0,some 0⟩
noncomputable def mH(W:World)(q:Option Addr):Option Addr:=q.map (uB W)
noncomputable def xa(W:World):Value->Value
 |.slice q l c=>.slice (mH W q) l c
 |v=>v
def zV{a:Addr}(h:a.spot=none/\fE W a.block):uB W a=a:=if_pos h
def uC(h:fE W b):mH W (some ⟨b,o,none⟩)=some ⟨b,o,none⟩:=congrArg some (zV ⟨rfl,h⟩)
def Bi(q:Option Addr):aQ (gT (fE W)) (.slice (mH W q) 0 0) (.slice q 0 0):=by
 rcases q with _|a
 .exact .kr _ _
 .show aQ (gT (fE W)) (.slice (some (uB W a)) 0 0) (.slice (some a) 0 0)
  rcases Classical.em (a.spot=none/\fE W a.block)with h|h
  .rw[zV h]
   exact .slice (ρ:=gT (fE W)) (a:=a) (b:=a) ⟨⟨rfl,h.2⟩,rfl,rfl⟩ 0 0
  .rw[show uB W a=⟨0,0,some 0⟩from if_neg h]
   exact .ju bC.lJ rfl
def masked{W:World}:∀v:Value,∃u,aQ (gT (fE W)) u v/\(yt W v->u=xa W v)
 |.bool b=>⟨_,.bool b,λ_=>rfl⟩
 |.int k n=>⟨_,.int k n,λ_=>rfl⟩
 |.float k n=>⟨_,.gI bC.lJ trivial,λh=>by rcases h with⟨_,_,h⟩|⟨_,_,h⟩|⟨_,_,_,_,h,_⟩|⟨_,h⟩<;>cases h⟩
 |.complex k n m=>⟨_,.gI bC.lJ trivial,λh=>by rcases h with⟨_,_,h⟩|⟨_,_,h⟩|⟨_,_,_,_,h,_⟩|⟨_,h⟩<;>cases h⟩
 |.string s=>⟨_,.string s,λ_=>rfl⟩
 |.pointer none=>⟨_,.jH,λ_=>rfl⟩
 |.pointer (some a)=>⟨_,.gI bC.lJ trivial,λh=>by rcases h with⟨_,_,h⟩|⟨_,_,h⟩|⟨_,_,_,_,h,_⟩|⟨_,h⟩<;>cases h⟩
 |.slice none l c=>⟨_,.kr l c,λ_=>rfl⟩
 |.slice (some a) l c=>by
  rcases Classical.em (a.spot=none/\fE W a.block)with⟨C,B⟩|h
  .exact⟨.slice (some a) l c,.slice (ρ:=gT (fE W)) (a:=a) (b:=a) ⟨⟨rfl,B⟩,rfl,rfl⟩ l c,λ_=>by show _=Value.slice (some (uB W a)) l c;rw[zV ⟨C,B⟩]⟩
  .rcases Classical.em (l=0/\c=0)with⟨rfl,rfl⟩|aT
   .exact⟨_,Bi (some a),λ_=>rfl⟩
   .refine⟨_,.gI bC.lJ trivial,λk=>(h ?_).elim⟩
    rcases k with⟨_,_,k⟩|⟨_,_,k⟩|⟨b,o,_,_,k,D⟩|⟨_,k⟩
    .cases k
    .cases k
    .cases k;exact⟨rfl,D⟩
    .cases k;exact(aT ⟨rfl,rfl⟩).elim
 |.map none=>⟨_,.p5,λ_=>rfl⟩
 |.map (some r)=>⟨_,.gI bC.lJ trivial,λh=>by rcases h with⟨_,_,h⟩|⟨_,_,h⟩|⟨_,_,_,_,h,_⟩|⟨_,h⟩<;>cases h⟩
 |.chan none=>⟨_,.qP,λ_=>rfl⟩
 |.chan (some r)=>⟨_,.gI bC.lJ trivial,λh=>by rcases h with⟨_,_,h⟩|⟨_,_,h⟩|⟨_,_,_,_,h,_⟩|⟨_,h⟩<;>cases h⟩
 |.func (.method n) b d=>⟨_,.k9 bC.lJ,λh=>by rcases h with⟨_,_,h⟩|⟨_,_,h⟩|⟨_,_,_,_,h,_⟩|⟨_,h⟩<;>cases h⟩
 |.func (.func f) b d=>⟨_,.gI bC.lJ trivial,λh=>by rcases h with⟨_,_,h⟩|⟨_,_,h⟩|⟨_,_,_,_,h,_⟩|⟨_,h⟩<;>cases h⟩
 |.func (.methodOf t n) b d=>⟨_,.gI bC.lJ trivial,λh=>by rcases h with⟨_,_,h⟩|⟨_,_,h⟩|⟨_,_,_,_,h,_⟩|⟨_,h⟩<;>cases h⟩
 |.func (.via t p f q) b d=>⟨_,.gI bC.lJ trivial,λh=>by rcases h with⟨_,_,h⟩|⟨_,_,h⟩|⟨_,_,_,_,h,_⟩|⟨_,h⟩<;>cases h⟩
 |.func (.yield l) b d=>⟨_,.gI bC.lJ trivial,λh=>by rcases h with⟨_,_,h⟩|⟨_,_,h⟩|⟨_,_,_,_,h,_⟩|⟨_,h⟩<;>cases h⟩
 |.nilFunc=>⟨_,.nilFunc,λ_=>rfl⟩
 |.iface t w=>⟨_,.gI bC.lJ trivial,λh=>by rcases h with⟨_,_,h⟩|⟨_,_,h⟩|⟨_,_,_,_,h,_⟩|⟨_,h⟩<;>cases h⟩
 |.nilIface=>⟨_,.nilIface,λ_=>rfl⟩
 |.tuple E=>⟨_,.gI bC.lJ trivial,λh=>by rcases h with⟨_,_,h⟩|⟨_,_,h⟩|⟨_,_,_,_,h,_⟩|⟨_,h⟩<;>cases h⟩
 |.agg c=>by
  have h:∀i:Fin c.size,∃u,aQ (gT (fE W)) u c[i]:=λi=>(masked c[i]).imp λ_ h=>h.1
  refine⟨.agg (Array.ofFn λi=>Classical.choose (h i)),.agg aF λi x y g j=>?_,λh=>by rcases h with⟨_,_,h⟩|⟨_,_,h⟩|⟨_,_,_,_,h,_⟩|⟨_,h⟩<;>cases h⟩;have z:=bu j;rw[fb (by simpa using z)]at g;rw[fb z]at j;have g:=bD g;have j:=bD j;rw[Array.getElem_ofFn]at g;subst g;subst j;exact Classical.choose_spec (h ⟨i,z⟩)
noncomputable def mE(W:World)(d:Array Value):Array Value:=d.map λv=>Classical.choose (masked (W:=W) v)
def L5(W:World)(d:Array Value):bQ (gT (fE W)) (mE W d) d:=by refine⟨by simp[mE],λi x y c f=>?_⟩;unfold mE at c;rw[Array.getElem?_map,f]at c;have c:Classical.choose (masked (W:=W) y)=x:=bD c;rw[<-c];exact(Classical.choose_spec (masked (W:=W) y)).1
open Classical in
noncomputable def mF(W:World):World:={W with heap:=W.heap.mapIdx λb o=>match o with
 |.cells d e g=>if 1<=b then .cells (mE W d) e (0,max d.size g.2)else o
 |o=>o}
def DZ{d:Array Value}{e:TypeId}{g:Nat×Nat}(c:1<=b)(h:W.heap[b]?=some (.cells d e g)):(mF W).heap[b]?=some (.cells (mE W d) e (0,max d.size g.2)):=by show(W.heap.mapIdx _)[b]?=_;rw[Array.getElem?_mapIdx,h];simp only[Option.map_some,if_pos c]
def L7(W:World)(b:Nat)(p:fE W b):∃o j,(mF W).heap[b]?=some o/\W.heap[b]?=some j/\eZ (gT (fE W)) o j/\eZ (gT (fE W)) o o/\jk (mF W) b:=by
 obtain⟨l,d,e,g,hd⟩:=p;have f:=DZ l hd;have c:=L5 W d;have q:bQ (gT (fE W)) (mE W d) (mE W d):=Bl (ρ:=gT (fE W)) (ai:=gT (fE W)) (λa b h=>⟨rfl,h.2⟩) ⟨rfl,rfl⟩ c;have i:(mE W d).size=d.size:=by simp[mE]
 exact⟨_,_,f,hd,.cells (.inl c.1) c.2 (.inr ⟨rfl,rfl,by rw[i];exact Nat.le_max_left _ _,Nat.le_max_right _ _⟩),.cells (.inl rfl) q.2 (.inl rfl),mE W d,e,_,f,by rw[i];exact Nat.le_max_left _ _⟩
def L6(c:1<=b)(h:W.cell? ⟨b,o,none⟩=some v)(f:yt W v):(mF W).cell? ⟨b,o,none⟩=some (xa W v):=by
 unfold World.cell? at h;dsimp only at h;split at h
 .rename_i d e g hd
  have h:d[o]?=some v:=by simpa using h
  unfold World.cell?;dsimp only;rw[DZ c hd];show(mE W d)[o]?=some (xa W v);unfold mE;rw[Array.getElem?_map,h];exact congrArg some ((Classical.choose_spec (masked (W:=W) v)).2 f)
 .cases h
def D1(W:World):(mF W).heap.size=W.heap.size:=by simp[mF]
end Go.aO
namespace Go.aO
attribute [-simp] Go.Sem.runT_eq
open Go.ConcM (OsLater)
open Go.Proofs Go.Conc Go.ConcN Go.ChangeShapes Go.Deep Go.Joins
variable{a:Addr}{cs:List Value}{c fuel n:Nat}{f:Nat->Int}{q:Option Addr}{v:Value}{W w:World}{d:dw}{p:gz}
section
def kV(W:World)(q:Option Addr)(n c:Nat)(f:Nat->Int):Prop:=(n=0/\c=0)\/∃b o,q=some ⟨b,o,none⟩/\fE W b/\∀j,j<n->W.cell? ⟨b,o+j,none⟩=some (ah (f j))
structure rW(W:World)(d:dw)(p:gz):Prop where
 first:kV W p.eh d.c' p.cA d.first
 kM:(d.bk=0/\p.dq=0)\/∃b o,p.hH=some ⟨b,o,none⟩/\fE W b/\∀i,i<d.bk->W.cell? ⟨b,o+i*2,none⟩=some (ah (d.bV i))/\W.cell? ⟨b,o+i*2+1,none⟩=some (.slice (p.fh i) (d.eP i) (p.cq i))
 cQ:∀i,i<d.bk->kV W (p.fh i) (d.eP i) (p.cq i) (d.cQ i)
 free:kV W p.ei d.b' p.dc d.free
def lS(W:World):Prop:=∃e g,W.heap[0]?=some (.cells #[oO] e g)
def Is(h:W.cell? a=some v):a.spot=none/\∃d e g,W.heap[a.block]?=some (.cells d e g)/\d[a.off]?=some v:=by
 unfold World.cell? at h;split at h
 .rename_i d e g hd
  split at h
  .cases h
  .rename_i c
   exact⟨by simpa using c,d,e,g,hd,h⟩
 .cases h
def Cf(z:lS W){k:IntKind}{n:Int}(h:W.cell? a=some (.int k n)):a.spot=none/\fE W a.block:=by
 obtain⟨j,d,e,g,f,c⟩:=Is h;refine⟨j,?_,d,e,g,f⟩;rcases Nat.eq_zero_or_pos a.block with aT|aT
 .obtain⟨p,g',l⟩:=z
  rw[aT,l]at f;cases f;rcases i:a.off with _|o
  .rw[i]at c;cases c
  .rw[i]at c;simp at c
 .exact aT
section
variable{H:Type}{enc:TypeId×Value->H}{W:World}
def g9.nE:Tryz.prog.underlying 3=some (.int .i64):=av
def g9.ti:Tryz.prog.underlying 22=some (.slice 3):=av
def g9.u6:Tryz.prog.underlying 23=some (.slice 27):=av
def g9.c3:Tryz.prog.cellsOf 3=1:=av
def g9.yP:Tryz.prog.cellsOf 22=1:=av
def g9.Ig:Tryz.prog.cellsOf 23=1:=av
def g9.B6:Tryz.prog.cellsOf 27=2:=av
def g9.Ih:Tryz.prog.cellsOf 25=4:=av
noncomputable def fieldsOf(t:TypeId):Option (List (TypeId×Nat)):=match Tryz.prog.underlying t with
 |some (.struct ba)=>some (ba.toList.map λf=>(f.type,f.offset))
 |_=>none
def zg{t:TypeId}{l:List (TypeId×Nat)}(h:fieldsOf t=some l):∃ba:Array Field,Tryz.prog.underlying t=some (.struct ba)/\ba.toList.map (λf=>(f.type,f.offset))=l:=by
 unfold fieldsOf at h;split at h
 .rename_i ba hu
  exact⟨ba,hu,bD h⟩
 .cases h
def xK(z:lS W){x:DataW H×List MemPlace}(h:DataW.trod enc Tryz.prog W 0 (λ_=>true) true fuel 22 cs=some x):∃q n c f,cs = [.slice q n c]/\kV W q n c f/\n<=maxLen/\∀j,j<n->-9223372036854775808<=f j/\f j<=9223372036854775807:=by
 rcases open_ints g9.ti g9.nE g9.c3 h with⟨rfl,_⟩|⟨a,n,c,d,rfl,_,D,hm,g,_,p,C⟩
 .exact⟨none,0,0,λ_=>0,rfl,.inl ⟨rfl,rfl⟩,Nat.zero_le _,λj r=>U⟩
 .have g:d.length=c:=by simpa using g
  refine⟨some a,n,c,λj=>d.getD j 0,rfl,?_,U,λj r=>?_⟩;rotate_left
  .have u:j<d.length:=U
   have B:d.getD j 0∈d:=by rw[List.getD_eq_getElem?_getD,List.getElem?_eq_getElem u];exact List.getElem_mem u
   have key:∀z∈d,-9223372036854775808<=z/\z<=9223372036854775807:=λz g=>by have:=C z g;simp[Lit.wf,IntKind.min,IntKind.max,IntKind.signed,IntKind.bits]at this;omega
   exact key _ B
  rcases Nat.eq_zero_or_pos c with aT|aT
  .exact .inl ⟨U,aT⟩
  .have w:=p 0 U
   obtain⟨i,l⟩:=Cf z (show W.cell? a=_ from w);obtain⟨b,o,s⟩:=a;dsimp only at i l;subst i;refine .inr ⟨b,o,rfl,l,λj r=>?_⟩;have:=p j U;rwa [show(⟨b,o,none⟩:Addr).add j=⟨b,o+j,none⟩ by unfold Addr.add;split<;>simp_all]at this
def E5(z:lS W){x:DataW H×List MemPlace}(h:DataW.trod enc Tryz.prog W 0 (λ_=>true) true fuel 27 cs=some x):∃k q n c f,cs = [ah k,.slice q n c]/\kV W q n c f:=by
 obtain⟨⟨ba⟩,hu,d⟩:=zg (t:=27) (l:=[(3,0),(22,1)]) av;match ba,d with
 | [f0,f1],d=>
  simp only[List.map_cons,List.map_nil,List.cons.injEq,Prod.mk.injEq,and_true]at d;obtain⟨⟨t0,w⟩,t1,B⟩:=d;obtain⟨C,D,n,_,p,j,o⟩:=trod_struct2 hu h;rw[g9.B6]at p;match cs,p with
  | [bx,r],_=>
   rw[t0,w,g9.c3]at j;rw[t1,B,g9.yP]at o;obtain⟨k,g,_,_⟩:=DataW.trod_int g9.nE j;obtain⟨q,m,c,f,i,u,_,_⟩:=xK z o;have g:[bx] = [ah k]:=g;have i:[r] = [.slice q m c]:=i;cases g;cases i;exact⟨k,q,m,c,f,rfl,u⟩
def NU(z:lS W){x:DataW H×List MemPlace}(h:DataW.trod enc Tryz.prog W 0 (λ_=>true) true fuel 23 cs=some x):∃(q:Option Addr) (n c:Nat) (K:Nat->Int) (G:Nat->Option Addr) (F cq:Nat->Nat) (Q:Nat->Nat->Int),cs = [.slice q n c]/\
 ((n=0/\c=0)\/∃b o,q=some ⟨b,o,none⟩/\fE W b/\∀i,i<n->W.cell? ⟨b,o+i*2,none⟩=some (ah (K i))/\W.cell? ⟨b,o+i*2+1,none⟩=some (.slice (G i) (F i) (cq i)))/\∀i,i<n->kV W (G i) (F i) (cq i) (Q i):=by
 rcases open_slice g9.u6 h with⟨rfl,_⟩|⟨a,n,c,m,k,D,R,rfl,_,S,hm,E,_,M⟩
 .exact⟨none,0,0,λ_=>0,λ_=>none,λ_=>0,λ_=>0,λ_ _=>0,rfl,.inl ⟨rfl,rfl⟩,λi p=>U⟩
 .have E:m=c:=by simpa using E
  have each:∀i,i<m->∃y:Int×Option Addr×Nat×Nat×(Nat->Int),W.cell? (a.add (i*2))=some (ah y.1)/\W.cell? (a.add (i*2+1))=some (.slice y.2.1 y.2.2.1 y.2.2.2.1)/\kV W y.2.1 y.2.2.1 y.2.2.2.1 y.2.2.2.2:=λi p=>by obtain⟨cs',g,l⟩:=M i p;rw[g9.B6]at g;obtain⟨cb,q,P,I,f,rfl,L⟩:=E5 z l;obtain⟨_,_,C⟩:=World.cells?_some g;have d:=C 0 U;have B:=C 1 U;rw[add_add]at d B;exact⟨(cb,q,P,I,f),d,B,L⟩
  obtain⟨y,r⟩:=choose_lt each;refine⟨some a,n,c,λi=>(y i).1,λi=>(y i).2.1,λi=>(y i).2.2.1,λi=>(y i).2.2.2.1,λi=>(y i).2.2.2.2,rfl,?_,λi p=>(r i U).2.2⟩;rcases Nat.eq_zero_or_pos c with aT|aT
  .exact .inl ⟨U,aT⟩
  .have g:=(r 0 U).1
   obtain⟨l,d⟩:=Cf z (show W.cell? a=_ from g);obtain⟨b,o,s⟩:=a;dsimp only at l d;subst l;have J:∀j,(⟨b,o,none⟩:Addr).add j=⟨b,o+j,none⟩:=λj=>by unfold Addr.add;split<;>simp_all
   refine .inr ⟨b,o,rfl,d,λi p=>?_⟩;obtain⟨u,w,_⟩:=r i U;rw[J]at u w;exact⟨u,w⟩
def NV(z:lS W){x:DataW H×List MemPlace}(h:DataW.trod enc Tryz.prog W 0 (λ_=>true) true fuel 25 cs=some x):∃d p,cs=(eB d p).toList/\rW W d p:=by
 obtain⟨⟨ba⟩,hu,c⟩:=zg (t:=25) (l:=[(3,0),(22,1),(23,2),(22,3)]) av;match ba,c with
 | [f0,f1,f2,f3],c=>
  simp only[List.map_cons,List.map_nil,List.cons.injEq,Prod.mk.injEq,and_true]at c;obtain⟨⟨t0,S⟩,⟨t1,T⟩,⟨t2,U⟩,t3,V⟩:=c;obtain⟨ad,ae,af,ag,n,_,w,o,q,r,u⟩:=trod_struct4 hu h;rw[g9.Ih]at w;match cs,w with
  | [bx,K,L,c3],_=>
   rw[t0,S,g9.c3]at o;rw[t1,T,g9.yP]at q;rw[t2,U,g9.Ig]at r;rw[t3,V,g9.yP]at u;obtain⟨k,f,_,_⟩:=DataW.trod_int g9.nE o;obtain⟨q1,E,B,P,g,s1,_,_⟩:=xK z q;obtain⟨I,F,C,M,X,R,cq,Y,i,s2,Z⟩:=NU z r;obtain⟨J,G,D,Q,j,aa,_,_⟩:=xK z u;have f:[bx] = [ah k]:=f;have g:[K] = [.slice q1 E B]:=g;have i:[L] = [.slice I F C]:=i;have j:[c3] = [.slice J G D]:=j;cases f;cases g;cases i;cases j;exact⟨⟨k,E,P,F,M,R,Y,G,Q⟩,⟨q1,B,I,C,X,cq,J,D⟩,rfl,⟨s1,s2,Z,aa⟩⟩
end
noncomputable def D4(W:World)(p:gz):gz:=⟨mH W p.eh,p.cA,mH W p.hH,p.dq,λi=>mH W (p.fh i),p.cq,mH W p.ei,p.dc⟩
def w6(f:w.heap=(mF W).heap){b o:Nat}(c:fE W b)(h:W.cell? ⟨b,o,none⟩=some v)(d:yt W v):w.cell? ⟨b,o,none⟩=some (xa W v):=by have:=L6 c.1 h d;unfold World.cell? at this ⊢;rw[f];exact this
def kV.mask(p:w.heap=(mF W).heap)(h:kV W q n c f):kU w (mH W q) n f:=λl=>by
 rcases h with⟨h,_⟩|⟨b,o,rfl,d,g⟩
 .exact(l h).elim
 .exact⟨b,o,uC d,λj i=>w6 p d (g j i) (.inl ⟨_,_,rfl⟩)⟩
def kV.Bg(h:kV W q n c f):aQ (gT (fE W)) (.slice (mH W q) n c) (.slice q n c):=by
 rcases h with⟨rfl,rfl⟩|⟨b,o,rfl,d,_⟩
 .exact Bi q
 .rw[uC d]
  exact .slice (ρ:=gT (fE W)) (a:=⟨b,o,none⟩) (b:=⟨b,o,none⟩) ⟨⟨rfl,d⟩,rfl,rfl⟩ n c
def rW.mask(c:w.heap=(mF W).heap)(h:rW W d p):iZ w d (D4 W p):=by
 refine⟨h.first.mask c,λE=>?_,λi f=>(h.cQ i f).mask c,h.free.mask c⟩;rcases h.kM with⟨r,_⟩|⟨b,o,B,g,D⟩
 .exact(E r).elim
 .refine⟨b,o,by show mH W p.hH=_;rw[B,uC g],λi f=>?_⟩
  obtain⟨u,z⟩:=D i f;refine⟨w6 c g u (.inl ⟨_,_,rfl⟩),w6 c g z ?_⟩;rcases h.cQ i f with⟨l,q⟩|⟨j,F,e,C,_⟩
  .rw[l,q];exact .inr (.inr (.inr ⟨_,rfl⟩))
  .rw[e];exact .inr (.inr (.inl ⟨j,F,_,_,rfl,C⟩))
def rW.Bg(h:rW W d p):aQ (gT (fE W)) (.agg (eB d (D4 W p))) (.agg (eB d p)):=by
 refine .agg rfl λi x y c f=>?_
 match i with
 | 0=>cases c;cases f;exact .int _ _
 | 1=>cases c;cases f;exact h.first.Bg
 | 2=>
  cases c;cases f;show aQ (gT (fE W)) (.slice (mH W p.hH) d.bk p.dq) (.slice p.hH d.bk p.dq);rcases h.kM with⟨j,l⟩|⟨b,o,e,g,_⟩
  .rw[j,l];exact Bi p.hH
  .rw[e,uC g]
   exact .slice (ρ:=gT (fE W)) (a:=⟨b,o,none⟩) (b:=⟨b,o,none⟩) ⟨⟨rfl,g⟩,rfl,rfl⟩ _ _
 | 3=>cases c;cases f;exact h.free.Bg
 |n+4=>simp at c
end
end Go.aO
namespace Go.aO
attribute [-simp] Go.Sem.runT_eq
open Go.ChangeShapes Go.WideShapes Go.ChangeAt Go.RowKit Go.Proofs Go.Conc Go.ConcN
open Go.ConcM (OsLater)
variable{spec:ChangeSpec}{fn:Func}{f:FuncId}{W:World}
def g9.own:ownKnob Tryz.prog.godebug=none:=av
def g9.laidOut:laidOutB Tryz.prog=true:=av
def g9.underlying4:Tryz.prog.underlying 4=some .bool:=av
abbrev uw:List (String×DataW Unit):=[("errors.errorType",Go.Proofs.YtejkocoljbaioaaGreatDoor.Rows.laid_errors_errorType)]
noncomputable def q7(os:Os):World:=
 let aL:=World.holding Tryz.prog os ⟨#[],#[],[]⟩
 {aL with heap:=aL.heap.modify 0 fun
  |.cells _ t frozen=>.cells #[oO] t frozen
  |o=>o}
def Ll(os:Os)(args:Array Value):laidMetH Tryz.prog uw ((q7 os).forCall (λ_ _=>0) ⟨#[],args,[]⟩).memory:=
 laidMetH_of_parts (laidMet_nil _ _) av
def Sz{w:World}(h:laidMetH Tryz.prog uw w):lS w:=by
 have e:(uw.filter λx=>x.2.handleName?.isSome)=uw:=av;unfold laidMetH at h;rw[e]at h;have h:=h.2 _ bI;have i:(Go.Proofs.YtejkocoljbaioaaGreatDoor.Rows.laid_errors_errorType:DataW Unit).funcsIn?=none:=av;rw[i]at h;obtain⟨name,u,d,q,r,z,B,c⟩:=h;have f:(Go.Proofs.YtejkocoljbaioaaGreatDoor.Rows.laid_errors_errorType:DataW Unit).handleName?=some [101,114,114,111,114]:=av;have C:name = [101,114,114,111,114]:=bD (q.symm.trans f);have j:(Tryz.prog.cutTypes.find? (·.1 == "internal/reflectlite.rtype")).map (·.2)=some 209:=av;have hu:u=209:=bD (r.symm.trans j);have l:((List.range Tryz.prog.types.size).all λt=>!(Tryz.prog.rowNamed t [101,114,114,111,114])||t == 81)=true:=av;have D:d=81:=by have:=List.all_eq_true.1 l d (List.mem_range.2 z);rw[<-C,B]at this;simpa using this
 have o:Tryz.prog.globalNamed "errors.errorType" = some 0:=av;have p:typeHandle Tryz.prog 81=.pointer (some ⟨1,81,none⟩):=av;rw[hu,D,p]at c;unfold World.var? at c;rw[o]at c;simp only[Option.bind_some]at c;split at c
 .rename_i cs t g E
  exact⟨t,g,by rw[E,bD c]⟩
 .cases c
def GG{H:Type}{enc:TypeId×Value->H}{W d':World}(j:Below W.heap.size W d'):∀{ee:List TypeId} {i:List Value} {c:List (DataW H)} {e9:List MemPlace},(∀t∈ee,Tryz.prog.readableRec t=true/\t<Tryz.prog.types.size)->DataW.TrodAll enc Tryz.prog W 0 (λ_=>true) true ee i c e9->
 (∀x∈e9,x.block<W.heap.size)->DataW.TrodAll enc Tryz.prog d' 0 (λb=>decide (b<W.heap.size)) true ee i c e9
 | [],[],[],_,_,h,_=>h
 |t::ee,v::i,d::c,e9,f,h,l=>by obtain⟨p,q,o,r,rfl⟩:=h;exact⟨p,q,Below.trod g9.laidOut (f t List.mem_cons_self).1 (f t List.mem_cons_self).2 o j (λx g=>l x (List.mem_append_left _ g)),GG j (λt u=>f t (List.mem_cons_of_mem _ u)) r (λx g=>l x (List.mem_append_right _ g)),rfl⟩
def Lo(p:f≠2)(l:¬bC.K.fn f)(i:eK bC f=none){us c:Array Value}(hW:aK.globals.size<=W.heap.size)(z:lS W)(q:bQ (gT (fE W)) us c)(j:∀w:World,w.heap=(mF W).heap->Calls bC f us w λe _=>e=.returned (.bool true)):
 ∃M last o w' bh,runNT aK (M+1) (solo (G (Frame.enter aK f c .normal) []) W) #[]=(.ended o w',bh)/\runN aK M (solo (G (Frame.enter aK f c .normal) []) W)=.next last/\step aK last=.ended o w'/\
  Go.Conc.Good aK (λv w'=>v=.bool true/\Calm W w'/\∀b,b<W.heap.size->w'.heap[b]?=W.heap[b]?) last o w' bh:=by
 obtain⟨e,g,r⟩:=z;have d:W.cell? ⟨0,0,none⟩=some oO:=by unfold World.cell?;rw[show W.heap[(⟨0,0,none⟩:Addr).block]?=_ from r];rfl
 obtain⟨n,last,o,w',bh,r1,u,B,C⟩:=(Lm p l i d (S:=fE W) (λh=>by have:=h.1;omega) hW (D1 W) (L7 W) q j none).run;exact⟨n,last,o,w',bh,r1,u,B,C⟩
def BG(f:FuncId)(fn:Func):Prop:=∀{H:Type} {enc:TypeId×Value->H} {W:World} {args:Array Value} {c:List (DataW H)} {e9:List MemPlace},lS W->(∀(j:Nat) t v,fn.params[j]?=some t->args[j]?=some v->∃base,Value.okWide Tryz.prog W .any base t v)->
 DataW.TrodAll enc Tryz.prog W 0 (λ_=>true) true fn.params.toList args.toList c e9->∃us,bQ (gT (fE W)) us args/\∀w:World,w.heap=(mF W).heap->Calls bC f us w λe _=>e=.returned (.bool true)
def GH{H:Type}{enc:TypeId×Value->H}{P:Program}{W:World}{b:Nat}{sp:Nat->Bool}{hd:Bool}:∀{ee:List TypeId} {f:List Value} {c:List (DataW H)} {e9:List MemPlace},DataW.TrodAll enc P W b sp hd ee f c e9->c.length=ee.length
 | [],[],[],_,_=>rfl
 |t::ee,v::f,d::c,e9,h=>by obtain⟨p,q,i,g,rfl⟩:=h;exact congrArg (·+1) (GH g)
def Ln(U:∀t∈fn.params.toList,Tryz.prog.readableRec t=true/\t<Tryz.prog.types.size)(R:fn.resultTypes=#[4])(u:spec.vars = [])(T:∀(H:Type) (c:List (DataW H)),c.length=fn.params.size->spec.fn H c={results:=[.lit (.bool true)],args:=c})(I:f≠2)(D:¬bC.K.fn f)(E:eK bC f=none)(L:BG f fn){H:Type}{enc:TypeId×Value->H}{base:Nat}{args:Array Value}{c gs:List (DataW H)}{w:List MemPlace}(J:Tryz.prog.globals.size<=W.heap.size)(z:lS W)(V:∀(j:Nat) t v,fn.params[j]?=some t->args[j]?=some v->Value.okWide Tryz.prog W .any base t v)(hW:DataW.Whole enc Tryz.prog fn.params.toList spec.vars false W args.toList c gs w):
 ∃M last o w' bh,runNT Tryz.prog (M+1) (solo (G (Frame.enter Tryz.prog f args .normal) []) W) #[]=(.ended o w',bh)/\runN Tryz.prog M (solo (G (Frame.enter Tryz.prog f args .normal) []) W)=.next last/\
  step Tryz.prog last=.ended o w'/\Conc.Good Tryz.prog (λv d'=>spec.post enc Tryz.prog fn false true false false W args v {d' with os:=W.os}/\OsLater W.os d'.os) last o w' bh:=by
 have i:=hW;obtain⟨p,q,hn,l,rfl,_,_⟩:=hW;rw[u]at l;obtain⟨rfl,rfl⟩:=trodVars_none l;have hlen:c.length=fn.params.size:=(GH hn).trans aF;simp only[List.append_nil]at i;have K:∀x∈p,x.block<W.heap.size:=λx X=>by simpa using i.lt x X
 obtain⟨us,hu,F⟩:=L z (λj t v B C=>⟨base,V j t v B C⟩) hn;obtain⟨M,last,o,w',bh,r1,Y,Z,aa⟩:=Lo I D E J z hu F;obtain⟨v,P,⟨rfl,d,Q⟩,S⟩:=aa;refine⟨M,last,o,w',bh,r1,Y,Z,_,P,⟨?_,d.os⟩,S⟩;have r:Below W.heap.size W {w' with os:=W.os}:=⟨rfl,d.tape,d.output,d.size,Q⟩
 have g:spec.fn H (c++[])={results:=[.lit (.bool true)],args:=c}:=by rw[List.append_nil];exact T H c hlen
 refine⟨_,_,_,[],p,[],i,?_,?_,?_,r.frame _,λh=>by cases h⟩
 .rw[g,R];exact trodAll_mk1 (shut_bool g9.underlying4 true)
 .rw[g];exact GG r U hn K
 .rw[g,u];rfl
def SW(P:Tryz.prog.funcs[f]?=some fn)(Y:∀t∈fn.params.toList,Tryz.prog.readableRec t=true/\t<Tryz.prog.types.size)(V:fn.resultTypes=#[4])(ad:spec.vars = [])(W:∀(H:Type) (d:List (DataW H)),d.length=fn.params.size->spec.fn H d={results:=[.lit (.bool true)],args:=d})(L:f≠2)(J:¬bC.K.fn f)(K:eK bC f=none)(T:BG f fn)(c:Array Value)(os:Os)(ag:os.Started)(H:Type)(enc:TypeId×Value->H)(F:Stop.Interp)(Z:((q7 os).forCall (λ_ _=>0) ⟨#[],c,[]⟩).variablesB Tryz.prog=true)(U:(((q7 os).forCall (λ_ _=>0) ⟨#[],c,[]⟩).heap.toList.drop Tryz.prog.globals.size).take ((begin Tryz.prog (λ_ _=>0) default).world.heap.size-Tryz.prog.globals.size)=(begin Tryz.prog (λ_ _=>0) default).world.heap.toList.drop Tryz.prog.globals.size)(j:Input.okWideB Tryz.prog ((q7 os).forCall (λ_ _=>0) ⟨#[],c,[]⟩) f ⟨#[],c,[]⟩=true)(l:spec.preB enc Tryz.prog fn [] false ((q7 os).forCall (λ_ _=>0) ⟨#[],c,[]⟩).memory c 8=true)(X:spec.sizedB enc Tryz.prog fn false ((q7 os).forCall (λ_ _=>0) ⟨#[],c,[]⟩).memory c 8=true):
 ReturnsInLeavingWide {calm:=true} Tryz.checked os f .any (λw args=>(spec.pre enc Tryz.prog fn [] false w args/\laidMetH Tryz.prog uw w)/\sizedMet enc Tryz.prog fn (OpenSpec.ofChange spec) false w args)
  ((OpenSpec.ofChange spec).postWith enc Tryz.prog fn F (outsideKept [.timePasses]) false true false):=by
 refine returnsInLeavingWide_of_good (C:=Tryz.checked) g9.own ag ⟨q7 os,λ_ _=>0,⟨#[],c,[]⟩,rfl,World.shaped_of_B Z U,(Input.okWide_of_okWideB (base:=0) j).1,(Input.okWide_of_okWideB j).2,⟨⟨ChangeSpec.pre_of_preB l,Ll os _⟩,sizedMet_of_sizedB X⟩,by simp only[Assume.holds];exact⟨aF,λ_ _ _ _=>rfl,aF,aF,aF⟩⟩ ?_
 intro w tape i _ ak _ j l _;obtain⟨_,_,_,p,Q,_,_,_,_,aa⟩:=j;have e:p=fn:=bD (Q.symm.trans P);subst e;obtain⟨⟨⟨d,gs,ah,ae,aj⟩,S⟩,_⟩:=l;have af:=DataW.Whole.of_heap (w':=w.forCall tape i) (by rfl) ae;have z:lS (w.forCall tape i):=by obtain⟨t,g,h⟩:=Sz S;exact⟨t,g,h⟩
 have R:Tryz.prog.globals.size<=(w.forCall tape i).heap.size:=by have ai:Tryz.prog.globals.size=1:=av;obtain⟨t,g,h⟩:=z;have:=bu h;omega
 obtain⟨M,last,o,w',bh,D,E,G,I⟩:=Ln Y V ad W L J K T R z aa af;obtain⟨v,e,hp,q,r,u,B⟩:=I;exact⟨M,last,o,w',bh,D,E,G,v,e,postWith_blind (postWith_of_post hp.1 hp.2),q,r,u,B⟩
def SR{p:Pinned}{s:OpenSpec}{c:OpenClaim}(d:Bool×String)(o:c.holds p s)(C:c.wfByText s=true)(B:c.laidByTextAt .later p [.handle] true)(z:c.start=.entering)(w:c.noBlocks=false/\c.again=false)(hm:p.checked.prog.mainIs=some (d.1,d.2.toList))(g:(!d.1 && d.2.isEmpty && !true)=false)(u:∀f fn,p.checked.prog.funcNamed c.func=some f->p.checked.prog.funcs[f]?=some fn->true=p.checked.prog.looks []/\∀(j:Nat) t,fn.params[j]?=some t->p.checked.prog.wantsStandIn t=false)(q:true=c.goesBy p.checked.prog):
 Claim7.holds p (.plain s) {stood:={row:=c,standIns:=[],harness:=d,looks:=true},kinds:=[],alts:=[],goes:=true,laidByText:=true,laidKinds:=[.handle],laidTests:=true,laidLooks:=.later}:=by
 have i:∀r:OpenClaim,Claim7.isSixth {stood:={row:=r,standIns:=[],harness:=d,looks:=true},kinds:=[]}=false:=λr=>by simp[Claim7.isSixth]at g ⊢<;>exact g
 exact⟨Claim7.tied_new_at .later [.handle] true (Claim7.new_of_sixth o d true z w hm (i c) u) C,(λD l=>by cases l),B,(λh=>by cases h),q⟩
end Go.aO
namespace Go.aO
attribute [-simp] Go.Sem.runT_eq
open Go.ChangeShapes Go.WideShapes Go.ChangeAt Go.RowKit Go.Proofs Go.Conc Go.ConcN Go.Deep Go.Joins
open Go.ConcM (OsLater)
section
def bC.HK:bC.list.toArray[5]?=some xD:=av
def Og:xD.ntmps=131:=av
def SZ(w:World):Calls (ao bC.list.toArray) 5 #[] w λe w'=>e=.returned (.bool true)/\w=w':=by go_enter bC.HK,Og;go_wp2;unfold xX Eu;go_wp2;go_ret;exact⟨rfl,rfl⟩
section
variable{H:Type}{enc:TypeId×Value->H}{W:World}{base:Nat}{v:Value}{d:DataW H}{e9:List MemPlace}
def Em{t:TypeId}{l:List (TypeId×Nat)}(c:fieldsOf t=some l)(h:Value.okWide Tryz.prog W .any base t v):∃cs,v=.agg cs:=by obtain⟨ba,hu,_⟩:=zg c;unfold Value.okWide at h;rw[hu]at h;obtain⟨cs,h,_⟩:=h;exact⟨cs,h⟩
def SE(z:lS W)(g:Value.okWide Tryz.prog W .any base 25 v)(h:DataW.Trod enc Tryz.prog W 0 (λ_=>true) true 25 v d e9):∃c p,v=.agg (eB c p)/\rW W c p:=by obtain⟨cs,rfl⟩:=Em (l:=[(3,0),(22,1),(23,2),(22,3)]) av g;obtain⟨fuel,h⟩:=h;obtain⟨c,p,e,f⟩:=NV z h;have e:cs.toList=(eB c p).toList:=e;exact⟨c,p,congrArg _ (Array.ext' e),f⟩
def SD(z:lS W)(i:Value.okWide Tryz.prog W .any base 27 v)(h:DataW.Trod enc Tryz.prog W 0 (λ_=>true) true 27 v d e9):∃k q n c f,v=.agg #[ah k,.slice q n c]/\kV W q n c f:=by obtain⟨cs,rfl⟩:=Em (l:=[(3,0),(22,1)]) av i;obtain⟨fuel,h⟩:=h;obtain⟨k,q,n,c,f,e,g⟩:=E5 z h;have e:cs.toList=(#[ah k,.slice q n c]:Array Value).toList:=e;exact⟨k,q,n,c,f,congrArg _ (Array.ext' e),g⟩
def SB(c:Value.okWide Tryz.prog W .any base 3 v)(h:DataW.Trod enc Tryz.prog W 0 (λ_=>true) true 3 v d e9):∃k,v=ah k:=by obtain⟨k,e,_⟩:=open_int g9.nE c h;exact⟨k,e⟩
def SC(z:lS W)(i:Value.okWide Tryz.prog W .any base 22 v)(h:DataW.Trod enc Tryz.prog W 0 (λ_=>true) true 22 v d e9):∃q n c f,v=.slice q n c/\kV W q n c f/\n<=maxLen/\∀j,j<n->-9223372036854775808<=f j/\f j<=9223372036854775807:=by obtain⟨q,n,c,rfl⟩:=okWide_slice g9.ti i;obtain⟨fuel,h⟩:=h;obtain⟨g2,c9,bp,f,e,g⟩:=xK z h;have e:[Value.slice q n c] = [.slice g2 c9 bp]:=e;cases e;exact⟨q,n,c,f,rfl,g⟩
end
def kV.rD{W w:World}(p:w.heap=(mF W).heap){q:Option Addr}{n c:Nat}{f:Nat->Int}(h:kV W q n c f)(B:n<=maxLen)(z:∀j,j<n->-9223372036854775808<=f j/\f j<=9223372036854775807)(w':World)(g:w.grownBy w' none):ly w' (.slice (mH W q) n c) w'.heap.size:=by
 rcases h with⟨rfl,rfl⟩|⟨b,o,rfl,i,u⟩
 .exact .inl ⟨_,rfl⟩
 .rw[uC i]
  have F:b<w'.heap.size:=by obtain⟨_,d,e,C,h⟩:=i;have D:=bu h;have E:=D1 W;have r:=g.size;rw[p]at r;omega
  exact .inr ⟨b,o,n,c,f,rfl,by unfold maxLen at B;omega,U,λj l=>⟨g.cell (w6 p i (u j l) (.inl ⟨_,_,rfl⟩)) aF,z j l⟩⟩
end
end Go.aO
