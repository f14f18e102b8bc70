/- A part. -/
import Derived.Test.YtoebddanaobpaaaGreatDoorP32
import Derived.Test.YtoebddanaobpaaaGreatDoorP35
import Derived.Test.YtoebddanaobpaaaGreatDoorP38
import Derived.Conc.HoldsTime
import Derived.ChangeSlices
import Derived.Deep.Slices
import Derived.Lib.SmallJoins
import Derived.Test.YtoebddanaobpaaaGreatDoorRows
import Derived.Test.YtoebddanaobpaaaGreatDoorTie
import Derived.SevenTiedAt
set_option maxHeartbeats 8000000
set_option maxRecDepth 100000
set_option linter.all false
namespace Go.aO
attribute [-simp] Go.Sem.runT_eq
open Go.ConcM (OsLater)
open Go.Proofs Tryz Go.Conc Go.ConcN
variable{ie ρ:Ren}{V W aL u v0 w:S7}{q v:S9}{S:TM}{kd:Tx}
section
variable{R:S9->S7->Prop}{f0:Tw}{G:TU->T0->S7->Tt->Prop}
def bC.f49:bC.list.toArray[44]?=some l7:=av
instance bC.sp:hA bC.list.toArray:=⟨by kernel_rfl,by kernel_rfl,by kernel_rfl,by kernel_rfl,by kernel_rfl,by kernel_rfl,Oi bC.f49⟩
instance bC.h6:Hi bC.list.toArray:=⟨λk c w h=>Oh bC.f49 k c w h⟩
def bC.rv:lA bC:=⟨bC.S,bC.ek,bC.sp.f75,bC.sp.f141,bC.sp.f142,bC.eb.1,bC.eb.2.1,bC.eb.2.2.1⟩
def bC.f16:bC.funcs[5]?=some xD:=av
def JX(kd:Tx):Frame.enter bC 5 #[] kd=⟨5,Array.replicate 131 undef,[.code xX],[],.run,kd,none⟩:=by unfold Frame.enter;rw[bC.f16];kernel_rfl
def QF{dx:TU}{C:Tz}(h:dz bC dx (lone ⟨5,Array.replicate 131 undef,[.code xX],[],.run,kd,none⟩ C w))(hC:2<=C.length)(c:TG kd):
 dz bC dx (lone ⟨5,(Array.replicate 131 undef).setIfInBounds 0 (.bool true),[.code .ret],[],.returning,kd,none⟩ C w):=by
 obtain⟨_,_,⟨rfl,rfl⟩,h⟩:=(h.reg (l:=[0]) hC S6).n3 hC c S6 S6 S6 (dJ.ok (cW:=λv aG=>v=.bool true/\w=aG) (acc:=#[]) ⟨S6,S6⟩ S6);exact(h.gM hC).rt hC
def Kt(h:fQ ie ρ v0 V aL w)(old:∀b,b<w.heap.size->u.heap[b]?=w.heap[b]?)(calm:Calm w u)(lt:∀b c,ρ.r b c->c<w.heap.size):fQ ie ρ v0 V aL u:=
 h.trans ⟨Ren.le_refl ρ,λ_ _ h=>.inl h,calm.size,λb d _=>old b d,λb c d _=>⟨S6,old c (lt b c d)⟩,calm.tape,calm.output,calm.os⟩
def La{k:IntKind}{n:Int}(h:aQ ρ (.int k n) q):q=.int k n:=by
 cases h with
 |int=>rfl
def JY(kd:Tx)(x:S9):Frame.enter bC 44 #[x] kd=⟨44,#[x]++Array.replicate 8 undef,[.code uY],[],.run,kd,none⟩:=by unfold Frame.enter;rw[show bC.funcs[44]?=some l7 from bC.f49];kernel_rfl
def Ku{b4:S7}(h:fQ ie ρ v0 V aL w)(g:yx V b4)(old:∀b,b<w.heap.size->u.heap[b]?=w.heap[b]?)(calm:Calm w u)(f:gm ρ V w):fQ ie ρ v0 b4 aL u/\gm ρ b4 u:=by
 have lt:∀b c,ρ.r b c->b<V.heap.size/\c<w.heap.size:=λb c d=>by let⟨_,_,l,m,_⟩:=f.obj b c d;exact⟨bu l,bu m⟩
 refine⟨h.trans ⟨Ren.le_refl ρ,λ_ _ h=>.inl h,calm.size,λb d _=>old b d,λb c d _=>⟨g.1 b (lt b c d).1,old c (lt b c d).2⟩,calm.tape,calm.output,calm.os⟩,⟨λb c d=>?_,cL f.lim g.2.1,cL f.js calm.size⟩⟩;let⟨o,p,i,j,n⟩:=f.obj b c d;exact⟨o,p,(g.1 b (lt b c d).1).trans i,(old c (lt b c d).2).trans j,n⟩
def Ss{k:Int}(h:aQ ρ (.iface 146 (.agg #[ah k])) q):q=.iface 146 (.agg #[ah k]):=by
 cases h with
 |iface t h=>
  cases h with
  |@agg c d f g=>
   obtain⟨y,rfl⟩:∃y,d=#[y]:=⟨_,sN d (f.symm.trans S6)⟩
   have i:aQ ρ (ah k) y:=g 0 _ _ S6 S6;rw[La i]
def Ls(c:TG kd){T:Te}(h:T.getD 2 undef=v):l2 bC kd (⟨44,T,[.code .ret],[],.returning,kd,none⟩,[]) []=some (v,[]):=by
 have e:kZ bC (results l7 T) []=some (v,[]):=by rw[<-h];unfold results;rw[show l7.results=#[.tmp 2]from S6];kernel_rfl
 unfold l2;rcases c with rfl|rfl
 .simp only[show bC.funcs[44]?=some l7 from bC.f49]
  exact e
 .simp only[show bC.funcs[44]?=some l7 from bC.f49]
  exact e
def bC.specs{Tc:Tz}(S:aL.cell? (Ti 0)=some oO)(aU:∀a,¬ie.r a 0):BL bC.K f0 R G Tc ie v0 aL (λaH=>¬aH 0):=by
 intro aH ρ V bo cs' gs w t Y d he W cont;have aG:=he;obtain⟨ai,ay,⟨f,a,b,kd,aY,r,ae,P,rfl,aw⟩,X,U,E⟩:=he;by_cases ao:f=5
 .subst ao
  have aE:a=#[]:=Array.eq_empty_of_size_eq_zero (aw 0 bC.eb.2.2.2.1);subst aE;have af:b=#[]:=Array.eq_empty_of_size_eq_zero ae.1.symm;subst af;obtain⟨z,i,B,g3,j,rfl,M,ag⟩:∃z i B g3,V.cs=z::i/\cs'=B::g3/\cN bC.K ρ z B/\cK (cN bC.K ρ) i g3:=by
   generalize V.cs=l at U X;cases U with
   |nil=>exact Td S6 X
   |@cons x y l m al am=>exact⟨_,_,_,_,S6,S6,al,am⟩
  let⟨cF,Z⟩:=zC M;have aj:V.fr.mode=.run:=by rw[P];rfl
  have hC:2<=(V.cs++[wall]).length:=by rw[j];simp
  have A:=d.going.fA (aR:=V.w.tape) (λ_ _=>S6);have F:dz bC V.m (lone (Frame.enter bC 5 #[] kd) (V.cs++[wall]) V.w):=by rw[<-P];exact A
  rw[JX]at F;have n:=QF F hC r;have aS:l2 bC kd (⟨5,(Array.replicate 131 undef).setIfInBounds 0 (.bool true),[.code .ret],[],.returning,kd,none⟩,[]) []=some (.bool true,[]):=by
   unfold l2;rcases r with rfl|rfl
   .simp only[bC.f16]
    kernel_rfl
   .simp only[bC.f16]
    kernel_rfl
  have K:V.cs++[wall]=z::(i++[wall]):=by rw[j];rfl
  rw[K]at n;have ak:=(oY (main:=true) (st:=.running) (off:=none) aS (Tp:=i++[wall]) cF (Does.nil V.w)).2;let⟨N,aa⟩:=(n.go (by rw[<-K];exact hC) ak).1;have aN:aK.globals.size<=w.heap.size:=by have aB:=E.js;have J:ρ.lim=bC.globals.size:=ai.fits.lim;have ap:bC.globals.size=aK.globals.size:=S6;omega
  have lt:∀b g,ρ.r b g->g<w.heap.size:=λb g C=>by let⟨_,_,_,J,_⟩:=E.obj b g C;exact bu J
  refine Na r Z aN d.low d.st λen gs u t aB J ap aq au D=>?_
  refine xO (w:=u) bC.rv d.going d.self aj j (λb g C aV=>?_) ap ai ay M ag r (aQ.bool _) bg ⟨λb g C=>?_,E.lim,cL E.js au.size⟩ (Kt W aq au lt) aa D (λQ b4 I H bm w' bh=>cont en Q b4 I H bm w' bh (λh=>by
   rcases J 0 h with h|h
   .exact Y h
   .have j:aK.globals.size=1:=av
    omega))
  .rcases J g aV with h|h
   .exact d.rel b g C h
   .have:=lt b g C;omega
  .let⟨o,aW,j,az,aT⟩:=E.obj b g C
   exact⟨o,aW,j,(aq g (lt b g C)).trans az,aT⟩
 by_cases ar:f=44
 .subst ar
  obtain⟨p,rfl⟩:∃x,a=#[x]:=⟨_,sN a (aw 1 bC.eb.2.2.2.2)⟩
  obtain⟨q,rfl⟩:∃x,b=#[x]:=⟨_,sN b (by rw[<-ae.1];rfl)⟩
  have ax:aQ ρ p q:=ae.2 0 p q S6 S6;obtain⟨z,i,B,g3,j,rfl,M,ag⟩:∃z i B g3,V.cs=z::i/\cs'=B::g3/\cN bC.K ρ z B/\cK (cN bC.K ρ) i g3:=by
   generalize V.cs=l at U X;cases U with
   |nil=>exact Td S6 X
   |@cons x y l m al am=>exact⟨_,_,_,_,S6,S6,al,am⟩
  let⟨cF,Z⟩:=zC M;have aj:V.fr.mode=.run:=by rw[P];rfl
  have hC:2<=(V.cs++[wall]).length:=by rw[j];simp
  have A:=d.going.fA (aR:=V.w.tape) (λ_ _=>S6);have F:dz bC V.m (lone (Frame.enter bC 44 #[p] kd) (V.cs++[wall]) V.w):=by rw[<-P];exact A
  rw[JY]at F;have K:V.cs++[wall]=z::(i++[wall]):=by rw[j];rfl
  have fin:∀(c:Int) (T:Te) (b4:S7),T.getD 2 undef=ah c->yx V.w b4->dz bC V.m (lone ⟨44,T,[.code .ret],[],.returning,kd,none⟩ (V.cs++[wall]) b4)->∀gs u t,(∀b,b<w.heap.size->u.heap[b]?=w.heap[b]?)->Calm w u->
   cc aK aH gs (Tk (eU kd B (ah c)) (g3++Tc)) u t 0->Tu aK G gs u t:=by
   intro c T b4 L ad n gs u t old calm D;rw[K]at n;have ak:=(oY (main:=true) (st:=.running) (off:=none) (Ls r L) (Tp:=i++[wall]) cF (Does.nil b4)).2;let⟨N,aa⟩:=(n.go (by rw[<-K];exact hC) ak).1;let⟨aJ,aO⟩:=Ku W ad old calm E;exact xO bC.rv d.going d.self aj j d.rel d.low ai ay M ag r (aQ.int .i64 c) calm.size aO aJ aa D (λQ b4 I H bm w' bh=>cont aH Q b4 I H bm w' bh Y)
  have hu:∃m,bC.underlying 114=some (.interface m):=bC.rv.x7;have aC:9<=(#[p]++Array.replicate 8 undef:Te).size:=aF;rcases QE bC.S hu (x:=p) S6 aC hC r F with⟨rfl,T,L,n⟩|⟨k,c,T,b4,hm,rfl,L,ad,n⟩
  .cases ax
   exact Mt r Z d.low d.st λgs u t old calm D=>fin 0 T V.w L ⟨λ_ _=>S6,bg,S6,S6,S6⟩ n gs u t old calm D
  .obtain rfl:=Ss ax
   have aP:(k=0/\c=3)\/(k=1/\c=1)\/(k=2/\c=1)\/(k=3/\c=1)\/(k=4/\c=5):=by simpa [pQ]using hm
   have af:0<aL.heap.size:=by
    unfold World.cell? at S;split at S
    .rename_i e;exact bu e
    .cases S
   have aD:w.cell? (Ti 0)=some oO:=by rw[<-S];unfold World.cell?;rw[show w.heap[((Ti 0):TD).block]?=aL.heap[((Ti 0):TD).block]? from W.out 0 af aU]
   exact Jx r Z aP aD Y d.low d.st λgs u t old calm D=>fin c T b4 L ad n gs u t old calm D
 .refine FE bC.rv aH ρ V _ cs' gs w t (λaA aX aZ aI aM=>?_) d aG W (λQ b4 I H bm w' bh=>cont aH Q b4 I H bm w' bh Y)
  have:aA=f:=by have:=congrArg Frame.fn (aM.symm.trans P);exact this
  subst this;rcases aI with h|h|h|h|h
  .exact .inl h
  .exact .inr (.inl h)
  .exact .inr (.inr h)
  .exact Td h ao
  .exact Td h ar
end
noncomputable def gT(S:TM):Ren where
 r a b:=a=b/\S a
 fwd:=by rintro a b c ⟨rfl,_⟩ ⟨rfl,_⟩;rfl
 bwd:=by rintro a b c ⟨rfl,_⟩ ⟨rfl,_⟩;rfl
 lim:=bC.globals.size
 low:=by rintro a b ⟨rfl,_⟩;exact T4
 exact:=false
 cells:=bC.cellsOf
 cW:=λc=>codeOk bC true c=true
 room:=true
 eb:=eK bC
 fu:=ni bC
def Dz(S:TM):Fit bC (gT S):=⟨⟨S6,λ_=>bg,S6,S6⟩,S6,λb e=>by rw[bC.o5]at e;cases e⟩
def Qt{aH:TM}{B:Nat}:kB aH B #[]:=
 ⟨λsaid=>by rintro⟨i,j,_,⟨a,b,c,_⟩,_⟩;simp[Trace.act?]at c,λi a c=>by simp[touchAt,Trace.act?]at c,λi g d=>by simp[Trace.g?]at d,λop h=>by simp at h⟩
def Lp{g:TC}(c:g.status=.running):cc aK (λ_=>False) #[g] g W #[] 0:=
 ⟨rfl,c,⟨λ_=>0,leavers_one aK g⟩,Qt,S6⟩
def Lm{f:Tw}(m:f≠2)(ae:¬bC.K.fn f)(F:eK bC f=none){c:S7}{us p:Te}(T:W.cell? (Ti 0)=some oO)(Y:¬S 0)(hW:aK.globals.size<=W.heap.size)(ap:c.heap.size=W.heap.size)(C:∀b,S b->∃o j,c.heap[b]?=some o/\W.heap[b]?=some j/\eZ (gT S) o j/\eZ (gT S) o o/\jk c b)(H:bQ (gT S) us p)(aa:∀w:S7,w.heap=c.heap->Calls bC f us w λe _=>e=.returned (.bool true))(sl:T8):
 Ends aK (Go.Conc.Good aK λv w'=>v=.bool true/\Calm W w'/\∀b,b<W.heap.size->w'.heap[b]?=W.heap[b]?) (crowd #[(Tk (Frame.enter aK f p .normal) [])] W sl) #[]:=by
 have u:e3 bC f (λv _=>v=.bool true) ⟨Frame.enter bC f us .normal,[],c⟩:=e3.z8 λaR _=>(aa (dM c aR) S6).mono λe w' he=>⟨_,he,S6⟩
 have B:(gT S).lim<=c.heap.size:=by show bC.globals.size<=_;rw[ap];exact hW
 have ak:(gT S).lim<=W.heap.size:=hW;have X:Self bC ⟨Frame.enter bC f us .normal,[],c⟩:=by
  refine⟨gT S,Dz S,S6,?_,.nil,?_,λ_ _=>S6,B,B⟩
  .rcases x4 (pP (K:=jv bC) bC.ek f (Bl (ρ:=gT S) (ai:=gT S) (λa b h=>⟨S6,h.2⟩) ⟨S6,S6⟩ H) (λn e=>by have e:eK bC f=some n:=e;rw[F]at e;cases e) .normal (.inl S6))with h|⟨au,h,hm⟩
   .exact h
   .let⟨o,w2,J,q⟩:=rm (Q:=bC) (V:=⟨Frame.enter bC f us .normal,[],c⟩) h hm c
    exact(u.live (aR:=c.tape) (λ_ _=>S6) (p8 hm) q).elim
  .rintro b D ⟨rfl,i⟩
   let⟨o,j,l,m,E,P,_⟩:=C b i;exact⟨o,o,l,l,P⟩
 have ag:cN bC.K (gT S) (Frame.enter bC f us .normal) (Frame.enter aK f p .normal):=by
  have r:=pP (K:=bC.K) bC.H f H (λn e=>by have e:eK bC f=some n:=e;rw[F]at e;cases e) .normal (.inl S6);generalize I:Frame.enter bC f us .normal=x at r;generalize aD:Frame.enter aK f p .normal=y at r;cases r with
  |plain h=>exact h
  |refused au h hm=>
   rw[<-I]at h hm;let⟨o,w2,J,q⟩:=rm (Q:=bC) (V:=⟨Frame.enter bC f us .normal,[],c⟩) h hm c;exact(u.live (aR:=c.tape) (λ_ _=>S6) (p8 hm) q).elim
  |@sh L av D kd h G _ _=>
   have e:=congrArg Frame.fn I;have:f=L:=e;subst this;exact(ae h).elim
 have aj:gm (gT S) c W:=by refine⟨?_,B,ak⟩;rintro b D ⟨rfl,i⟩;let⟨o,j,l,m,E,_⟩:=C b i;exact⟨o,j,l,m,E⟩
 refine m0.go (Tc:=[]) (ie:=gT S) (v0:=c) (aL:=W) (R:=λv _=>v=.bool true) bC.S bC.ek bC.H (λ_ _ _ h=>h) (Ok:=λaH=>¬aH 0) (bC.specs T λa h=>Y (by obtain⟨rfl,h⟩:=h;exact h)) ?_ (λh=>h)
  (aH:=λ_=>False) (cs':=[]) ⟨u,X,λ_ _ _ h=>h,λ_ h=>h.elim,Lp S6⟩ ⟨Dz S,S6,ag,.nil,aj⟩ (fQ.refl _ _ _) sl
 intro aH ρ V bo gs w t _ ay aB aA ax am G af al sl;refine am.ended (λd=>?_) sl;let⟨v,aE,ai,dI,aG,es,U,ar,ao,az,g,aC,aq,ad,aw⟩:=al d;subst U;cases ar;refine⟨.bool true,aG,es,?_,aq,ad,S6,⟨g.size,g.tape,g.output,g.os⟩,λb i=>?_⟩
 .rw[ao]
  have M:¬2=f:=λe=>m e.symm
  simp[GStep.after,doReturn,G,af,M]
 .by_cases z:S b
  .let⟨_,_,_,_,_,_,ah⟩:=C b z
   exact(g.guard b b ⟨S6,z⟩ ah).2
  .exact g.out b i λa Z=>z (by obtain⟨rfl,h⟩:=Z;exact h)
def fE(W:S7)(b:Nat):Prop:=1<=b/\∃d e g,W.heap[b]?=some (.cells d e g)
def yt(W:S7)(v:S9):Prop:=(∃k n,v=.int k n)\/(∃l c,v=.slice none l c)\/(∃b o l c,v=TW b o l c/\fE W b)\/∃q,v=.slice q 0 0
def bC.lJ:(gT S).fu=true:=by show ni bC=true;kernel_rfl
open Classical in
noncomputable def uB(W:S7)(a:TD):TD:=if a.spot=none/\fE W a.block then a else⟨0,0,some 0⟩
noncomputable def mH(W:S7)(q:TV):TV:=q.map (uB W)
noncomputable def xa(W:S7):S9->S9
 |.slice q l c=>.slice (mH W q) l c
 |v=>v
def zV{a:TD}(h:a.spot=none/\fE W a.block):uB W a=a:=Tq h
def uC{b o:Nat}(h:fE W b):mH W (some (S8 b o))=some (S8 b o):=congrArg some (zV ⟨S6,h⟩)
def Bi(q:TV):aQ (gT (fE W)) (.slice (mH W q) 0 0) (.slice q 0 0):=by
 rcases q with _|a
 .exact .kr _ _
 .show aQ (gT (fE W)) (.slice (some (uB W a)) 0 0) (.slice (some a) 0 0)
  rcases Classical.em (a.spot=none/\fE W a.block)with h|h
  .rw[zV h]
   exact .slice (ρ:=gT (fE W)) (a:=a) (b:=a) ⟨⟨S6,h.2⟩,S6,S6⟩ 0 0
  .rw[show uB W a=⟨0,0,some 0⟩from Tm h]
   exact .ju bC.lJ S6
def masked{W:S7}:∀v:S9,∃u,aQ (gT (fE W)) u v/\(yt W v->u=xa W v)
 |.bool b=>⟨_,.bool b,λ_=>S6⟩
 |.int k n=>⟨_,.int k n,λ_=>S6⟩
 |.float k n=>⟨_,.gI bC.lJ Tf,λh=>by rcases h with⟨_,_,h⟩|⟨_,_,h⟩|⟨_,_,_,_,h,_⟩|⟨_,h⟩<;>cases h⟩
 |.complex k n m=>⟨_,.gI bC.lJ Tf,λh=>by rcases h with⟨_,_,h⟩|⟨_,_,h⟩|⟨_,_,_,_,h,_⟩|⟨_,h⟩<;>cases h⟩
 |.string s=>⟨_,.string s,λ_=>S6⟩
 |.pointer none=>⟨_,.jH,λ_=>S6⟩
 |.pointer (some a)=>⟨_,.gI bC.lJ Tf,λh=>by rcases h with⟨_,_,h⟩|⟨_,_,h⟩|⟨_,_,_,_,h,_⟩|⟨_,h⟩<;>cases h⟩
 |.slice none l c=>⟨_,.kr l c,λ_=>S6⟩
 |.slice (some a) l c=>by
  rcases Classical.em (a.spot=none/\fE W a.block)with⟨C,B⟩|h
  .exact⟨.slice (some a) l c,.slice (ρ:=gT (fE W)) (a:=a) (b:=a) ⟨⟨S6,B⟩,S6,S6⟩ l c,λ_=>by show _=Value.slice (some (uB W a)) l c;rw[zV ⟨C,B⟩]⟩
  .rcases Classical.em (l=0/\c=0)with⟨rfl,rfl⟩|aT
   .exact⟨_,Bi (some a),λ_=>S6⟩
   .refine⟨_,.gI bC.lJ Tf,λk=>(h ?_).elim⟩
    rcases k with⟨_,_,k⟩|⟨_,_,k⟩|⟨b,o,_,_,k,D⟩|⟨_,k⟩
    .cases k
    .cases k
    .cases k;exact⟨S6,D⟩
    .cases k;exact(aT ⟨S6,S6⟩).elim
 |.map none=>⟨_,.p5,λ_=>S6⟩
 |.map (some r)=>⟨_,.gI bC.lJ Tf,λh=>by rcases h with⟨_,_,h⟩|⟨_,_,h⟩|⟨_,_,_,_,h,_⟩|⟨_,h⟩<;>cases h⟩
 |.chan none=>⟨_,.qP,λ_=>S6⟩
 |.chan (some r)=>⟨_,.gI bC.lJ Tf,λh=>by rcases h with⟨_,_,h⟩|⟨_,_,h⟩|⟨_,_,_,_,h,_⟩|⟨_,h⟩<;>cases h⟩
 |.func (.method n) b d=>⟨_,.k9 bC.lJ,λh=>by rcases h with⟨_,_,h⟩|⟨_,_,h⟩|⟨_,_,_,_,h,_⟩|⟨_,h⟩<;>cases h⟩
 |.func (.func f) b d=>⟨_,.gI bC.lJ Tf,λh=>by rcases h with⟨_,_,h⟩|⟨_,_,h⟩|⟨_,_,_,_,h,_⟩|⟨_,h⟩<;>cases h⟩
 |.func (.methodOf t n) b d=>⟨_,.gI bC.lJ Tf,λh=>by rcases h with⟨_,_,h⟩|⟨_,_,h⟩|⟨_,_,_,_,h,_⟩|⟨_,h⟩<;>cases h⟩
 |.func (.via t p f q) b d=>⟨_,.gI bC.lJ Tf,λh=>by rcases h with⟨_,_,h⟩|⟨_,_,h⟩|⟨_,_,_,_,h,_⟩|⟨_,h⟩<;>cases h⟩
 |.func (.yield l) b d=>⟨_,.gI bC.lJ Tf,λh=>by rcases h with⟨_,_,h⟩|⟨_,_,h⟩|⟨_,_,_,_,h,_⟩|⟨_,h⟩<;>cases h⟩
 |.nilFunc=>⟨_,.nilFunc,λ_=>S6⟩
 |.iface t w=>⟨_,.gI bC.lJ Tf,λh=>by rcases h with⟨_,_,h⟩|⟨_,_,h⟩|⟨_,_,_,_,h,_⟩|⟨_,h⟩<;>cases h⟩
 |.nilIface=>⟨_,.nilIface,λ_=>S6⟩
 |.tuple E=>⟨_,.gI bC.lJ Tf,λh=>by rcases h with⟨_,_,h⟩|⟨_,_,h⟩|⟨_,_,_,_,h,_⟩|⟨_,h⟩<;>cases h⟩
 |.agg c=>by
  have h:∀i:Fin c.size,∃u,aQ (gT (fE W)) u c[i]:=λi=>(masked c[i]).imp λ_ h=>h.1
  refine⟨.agg (Array.ofFn λi=>Classical.choose (h i)),.agg aF λi x y g j=>?_,λh=>by rcases h with⟨_,_,h⟩|⟨_,_,h⟩|⟨_,_,_,_,h,_⟩|⟨_,h⟩<;>cases h⟩;have z:=bu j;rw[fb (by simpa using z)]at g;rw[fb z]at j;have g:=bD g;have j:=bD j;rw[Array.getElem_ofFn]at g;subst g;subst j;exact Classical.choose_spec (h ⟨i,z⟩)
noncomputable def mE(W:S7)(d:Te):Te:=d.map λv=>Classical.choose (masked (W:=W) v)
def L5(W:S7)(d:Te):bQ (gT (fE W)) (mE W d) d:=by refine⟨by simp[mE],λi x y c f=>?_⟩;unfold mE at c;rw[Uk,f]at c;have c:Classical.choose (masked (W:=W) y)=x:=bD c;rw[<-c];exact(Classical.choose_spec (masked (W:=W) y)).1
open Classical in
noncomputable def mF(W:S7):S7:={W with heap:=W.heap.mapIdx λb o=>match o with
 |.cells d e g=>if 1<=b then .cells (mE W d) e (0,max d.size g.2)else o
 |o=>o}
def DZ{b:Nat}{d:Te}{e:Tg}{g:Nat×Nat}(c:1<=b)(h:W.heap[b]?=some (.cells d e g)):(mF W).heap[b]?=some (.cells (mE W d) e (0,max d.size g.2)):=by show(W.heap.mapIdx _)[b]?=_;rw[Array.getElem?_mapIdx,h];simp only[Option.map_some,Tq c]
def L7(W:S7)(b:Nat)(m:fE W b):∃o j,(mF W).heap[b]?=some o/\W.heap[b]?=some j/\eZ (gT (fE W)) o j/\eZ (gT (fE W)) o o/\jk (mF W) b:=by
 obtain⟨l,d,e,g,hd⟩:=m;have f:=DZ l hd;have c:=L5 W d;have n:bQ (gT (fE W)) (mE W d) (mE W d):=Bl (ρ:=gT (fE W)) (ai:=gT (fE W)) (λa b h=>⟨S6,h.2⟩) ⟨S6,S6⟩ c;have i:(mE W d).size=d.size:=by simp[mE]
 exact⟨_,_,f,hd,.cells (.inl c.1) c.2 (.inr ⟨S6,S6,by rw[i];exact Nat.le_max_left _ _,Nat.le_max_right _ _⟩),.cells (.inl S6) n.2 (.inl S6),mE W d,e,_,f,by rw[i];exact Nat.le_max_left _ _⟩
def L6{b o:Nat}(c:1<=b)(h:W.cell? (S8 b o)=some v)(f:yt W v):(mF W).cell? (S8 b o)=some (xa W v):=by
 unfold World.cell? at h;dsimp only at h;split at h
 .rename_i d e g hd
  have h:d[o]?=some v:=by simpa using h
  unfold World.cell?;dsimp only;rw[DZ c hd];show(mE W d)[o]?=some (xa W v);unfold mE;rw[Uk,h];exact congrArg some ((Classical.choose_spec (masked (W:=W) v)).2 f)
 .cases h
def D1(W:S7):(mF W).heap.size=W.heap.size:=by simp[mF]
end Go.aO
namespace Go.aO
attribute [-simp] Go.Sem.runT_eq
open Go.ConcM (OsLater)
open Go.Proofs Tryz Go.Conc Go.ConcN Go.ChangeShapes Go.Deep Go.Joins
variable{c fuel n:Nat}{W w:S7}{v:S9}{a:TD}{cs:TP}{q:TV}{f:Ty}{d:dw}{p:gz}
section
def kV(W:S7)(q:TV)(n c:Nat)(f:Ty):Prop:=(n=0/\c=0)\/∃b o,q=some (S8 b o)/\fE W b/\∀j,j<n->W.cell? (S8 b (o+j))=Tn (f j)
structure rW(W:S7)(d:dw)(p:gz):Prop where
 first:kV W p.eh d.c' p.cA d.first
 kM:(d.bk=0/\p.dq=0)\/∃b o,p.hH=some (S8 b o)/\fE W b/\∀i,i<d.bk->W.cell? (S8 b (o+i*2))=Tn (d.bV i)/\W.cell? (S8 b (o+i*2+1))=some (.slice (p.fh i) (d.eP i) (p.cq i))
 cQ:∀i,i<d.bk->kV W (p.fh i) (d.eP i) (p.cq i) (d.cQ i)
 free:kV W p.ei d.b' p.dc d.free
def lS(W:S7):Prop:=∃e g,W.heap[0]?=some (.cells #[oO] e g)
def Is(h:W.cell? a=some v):a.spot=none/\∃d e g,W.heap[a.block]?=some (.cells d e g)/\d[a.off]?=some v:=by
 unfold World.cell? at h;split at h
 .rename_i d e g hd
  split at h
  .cases h
  .rename_i c
   exact⟨by simpa using c,d,e,g,hd,h⟩
 .cases h
def Cf(z:lS W){k:IntKind}{n:Int}(h:W.cell? a=some (.int k n)):a.spot=none/\fE W a.block:=by
 let⟨j,d,e,g,f,c⟩:=Is h;refine⟨j,?_,d,e,g,f⟩;rcases Uq a.block with aT|aT
 .obtain⟨m,g',l⟩:=z
  rw[aT,l]at f;cases f;rcases i:a.off with _|o
  .rw[i]at c;cases c
  .rw[i]at c;simp at c
 .exact aT
section
variable{H:Type}{enc:Tg×S9->H}{W:S7}
def g9.nE:prog.underlying 3=some (.int .i64):=av
def g9.ti:prog.underlying 22=some (.slice 3):=av
def g9.u6:prog.underlying 23=some (.slice 27):=av
def g9.c3:prog.cellsOf 3=1:=av
def g9.yP:prog.cellsOf 22=1:=av
def g9.Ig:prog.cellsOf 23=1:=av
def g9.B6:prog.cellsOf 27=2:=av
def g9.Ih:prog.cellsOf 25=4:=av
noncomputable def fieldsOf(t:Tg):TI (Tb (Tg×Nat)):=match prog.underlying t with
 |some (.struct ba)=>some (ba.toList.map λf=>(f.type,f.offset))
 |_=>none
def zg{t:Tg}{l:Tb (Tg×Nat)}(h:fieldsOf t=some l):∃ba:Tv Field,prog.underlying t=some (.struct ba)/\ba.toList.map (λf=>(f.type,f.offset))=l:=by
 unfold fieldsOf at h;split at h
 .rename_i ba hu
  exact⟨ba,hu,bD h⟩
 .cases h
def xK(z:lS W){x:DataW H×Tb MemPlace}(h:DataW.trod enc prog W 0 (λ_=>true) true fuel 22 cs=some x):∃q n c f,cs = [.slice q n c]/\kV W q n c f/\n<=maxLen/\∀j,j<n->-9223372036854775808<=f j/\f j<=9223372036854775807:=by
 rcases open_ints g9.ti g9.nE g9.c3 h with⟨rfl,_⟩|⟨a,n,c,d,rfl,_,B,hm,g,_,m,y⟩
 .exact⟨none,0,0,λ_=>0,S6,.inl ⟨S6,S6⟩,T' _,λj p=>U⟩
 .have g:d.length=c:=by simpa using g
  refine⟨some a,n,c,λj=>d.getD j 0,S6,?_,U,λj p=>?_⟩;rotate_left
  .have r:j<d.length:=U
   have w:d.getD j 0∈d:=by rw[List.getD_eq_getElem?_getD,Ui r];exact List.getElem_mem r
   have key:∀z∈d,-9223372036854775808<=z/\z<=9223372036854775807:=λz g=>by have:=y z g;simp[Lit.wf,IntKind.min,IntKind.max,IntKind.signed,IntKind.bits]at this;omega
   exact key _ w
  rcases Uq c with aT|aT
  .exact .inl ⟨U,aT⟩
  .have u:=m 0 U
   let⟨i,l⟩:=Cf z (show W.cell? a=_ from u);obtain⟨b,o,s⟩:=a;dsimp only at i l;subst i;refine .inr ⟨b,o,S6,l,λj p=>?_⟩;have:=m j U;rwa [show((S8 b o):TD).add j=(S8 b (o+j)) by unfold Addr.add;split<;>simp_all]at this
def E5(z:lS W){x:DataW H×Tb MemPlace}(h:DataW.trod enc prog W 0 (λ_=>true) true fuel 27 cs=some x):∃k q n c f,cs = [ah k,.slice q n c]/\kV W q n c f:=by
 let⟨⟨ba⟩,hu,d⟩:=zg (t:=27) (l:=[(3,0),(22,1)]) av;match ba,d with
 | [f0,f1],d=>
  simp only[List.map_cons,List.map_nil,List.cons.injEq,Prod.mk.injEq,and_true]at d;obtain⟨⟨t0,w⟩,t1,y⟩:=d;let⟨B,C,n,_,p,j,o⟩:=trod_struct2 hu h;rw[g9.B6]at p;match cs,p with
  | [bx,r],_=>
   rw[t0,w,g9.c3]at j;rw[t1,y,g9.yP]at o;let⟨k,g,_,_⟩:=DataW.trod_int g9.nE j;let⟨q,m,c,f,i,u,_,_⟩:=xK z o;have g:[bx] = [ah k]:=g;have i:[r] = [.slice q m c]:=i;cases g;cases i;exact⟨k,q,m,c,f,S6,u⟩
def NU(z:lS W){x:DataW H×Tb MemPlace}(h:DataW.trod enc prog W 0 (λ_=>true) true fuel 23 cs=some x):∃(q:TV) (n c:Nat) (K:Ty) (G:Nat->TV) (F cq:T2) (Q:Nat->Nat->Int),cs = [.slice q n c]/\
 ((n=0/\c=0)\/∃b o,q=some (S8 b o)/\fE W b/\∀i,i<n->W.cell? (S8 b (o+i*2))=Tn (K i)/\W.cell? (S8 b (o+i*2+1))=some (.slice (G i) (F i) (cq i)))/\∀i,i<n->kV W (G i) (F i) (cq i) (Q i):=by
 rcases open_slice g9.u6 h with⟨rfl,_⟩|⟨a,n,c,m,k,D,R,rfl,_,S,hm,E,_,M⟩
 .exact⟨none,0,0,λ_=>0,λ_=>none,λ_=>0,λ_=>0,λ_ _=>0,S6,.inl ⟨S6,S6⟩,λi p=>U⟩
 .have E:m=c:=by simpa using E
  have each:∀i,i<m->∃y:Int×TV×Nat×Nat×(Nat->Int),W.cell? (a.add (i*2))=Tn y.1/\W.cell? (a.add (i*2+1))=some (.slice y.2.1 y.2.2.1 y.2.2.2.1)/\kV W y.2.1 y.2.2.1 y.2.2.2.1 y.2.2.2.2:=λi p=>by let⟨cs',g,l⟩:=M i p;rw[g9.B6]at g;obtain⟨cb,q,P,I,f,rfl,L⟩:=E5 z l;let⟨_,_,C⟩:=World.cells?_some g;have d:=C 0 U;have B:=C 1 U;rw[add_add]at d B;exact⟨(cb,q,P,I,f),d,B,L⟩
  let⟨y,r⟩:=choose_lt each;refine⟨some a,n,c,λi=>(y i).1,λi=>(y i).2.1,λi=>(y i).2.2.1,λi=>(y i).2.2.2.1,λi=>(y i).2.2.2.2,S6,?_,λi p=>(r i U).2.2⟩;rcases Uq c with aT|aT
  .exact .inl ⟨U,aT⟩
  .have g:=(r 0 U).1
   let⟨l,d⟩:=Cf z (show W.cell? a=_ from g);obtain⟨b,o,s⟩:=a;dsimp only at l d;subst l;have J:∀j,((S8 b o):TD).add j=(S8 b (o+j)):=λj=>by unfold Addr.add;split<;>simp_all
   refine .inr ⟨b,o,S6,d,λi p=>?_⟩;let⟨u,w,_⟩:=r i U;rw[J]at u w;exact⟨u,w⟩
def NV(z:lS W){x:DataW H×Tb MemPlace}(h:DataW.trod enc prog W 0 (λ_=>true) true fuel 25 cs=some x):∃d p,cs=(eB d p).toList/\rW W d p:=by
 let⟨⟨ba⟩,hu,c⟩:=zg (t:=25) (l:=[(3,0),(22,1),(23,2),(22,3)]) av;match ba,c with
 | [f0,f1,f2,f3],c=>
  simp only[List.map_cons,List.map_nil,List.cons.injEq,Prod.mk.injEq,and_true]at c;obtain⟨⟨t0,Q⟩,⟨t1,R⟩,⟨t2,S⟩,t3,T⟩:=c;let⟨Z,aa,ad,ae,n,_,u,m,o,q,r⟩:=trod_struct4 hu h;rw[g9.Ih]at u;match cs,u with
  | [bx,I,J,c3],_=>
   rw[t0,Q,g9.c3]at m;rw[t1,R,g9.yP]at o;rw[t2,S,g9.Ig]at q;rw[t3,T,g9.yP]at r;let⟨k,f,_,_⟩:=DataW.trod_int g9.nE m;let⟨q1,C,w,L,g,s1,_,_⟩:=xK z o;let⟨F,D,y,K,U,P,cq,V,i,s2,X⟩:=NU z q;let⟨G,E,B,M,j,Y,_,_⟩:=xK z r;have f:[bx] = [ah k]:=f;have g:[I] = [.slice q1 C w]:=g;have i:[J] = [.slice F D y]:=i;have j:[c3] = [.slice G E B]:=j;cases f;cases g;cases i;cases j;exact⟨⟨k,C,L,D,K,P,V,E,M⟩,⟨q1,w,F,y,U,cq,G,B⟩,S6,⟨s1,s2,X,Y⟩⟩
end
noncomputable def D4(W:S7)(p:gz):gz:=⟨mH W p.eh,p.cA,mH W p.hH,p.dq,λi=>mH W (p.fh i),p.cq,mH W p.ei,p.dc⟩
def w6(f:w.heap=(mF W).heap){b o:Nat}(c:fE W b)(h:W.cell? (S8 b o)=some v)(d:yt W v):w.cell? (S8 b o)=some (xa W v):=by have:=L6 c.1 h d;unfold World.cell? at this ⊢;rw[f];exact this
def kV.mask(m:w.heap=(mF W).heap)(h:kV W q n c f):kU w (mH W q) n f:=λl=>by
 rcases h with⟨h,_⟩|⟨b,o,rfl,d,g⟩
 .exact(l h).elim
 .exact⟨b,o,uC d,λj i=>w6 m d (g j i) (.inl ⟨_,_,S6⟩)⟩
def kV.Bg(h:kV W q n c f):aQ (gT (fE W)) (.slice (mH W q) n c) (.slice q n c):=by
 rcases h with⟨rfl,rfl⟩|⟨b,o,rfl,d,_⟩
 .exact Bi q
 .rw[uC d]
  exact .slice (ρ:=gT (fE W)) (a:=(S8 b o)) (b:=(S8 b o)) ⟨⟨S6,d⟩,S6,S6⟩ n c
def rW.mask(c:w.heap=(mF W).heap)(h:rW W d p):iZ w d (D4 W p):=by
 refine⟨h.first.mask c,λB=>?_,λi f=>(h.cQ i f).mask c,h.free.mask c⟩;rcases h.kM with⟨n,_⟩|⟨b,o,u,g,z⟩
 .exact(B n).elim
 .refine⟨b,o,by show mH W p.hH=_;rw[u,uC g],λi f=>?_⟩
  let⟨q,r⟩:=z i f;refine⟨w6 c g q (.inl ⟨_,_,S6⟩),w6 c g r ?_⟩;rcases h.cQ i f with⟨l,m⟩|⟨j,C,e,y,_⟩
  .rw[l,m];exact .inr (.inr (.inr ⟨_,S6⟩))
  .rw[e];exact .inr (.inr (.inl ⟨j,C,_,_,S6,y⟩))
def rW.Bg(h:rW W d p):aQ (gT (fE W)) (.agg (eB d (D4 W p))) (.agg (eB d p)):=by
 refine .agg S6 λi x y c f=>?_
 match i with
 | 0=>cases c;cases f;exact .int _ _
 | 1=>cases c;cases f;exact h.first.Bg
 | 2=>
  cases c;cases f;show aQ (gT (fE W)) (.slice (mH W p.hH) d.bk p.dq) (.slice p.hH d.bk p.dq);rcases h.kM with⟨j,l⟩|⟨b,o,e,g,_⟩
  .rw[j,l];exact Bi p.hH
  .rw[e,uC g]
   exact .slice (ρ:=gT (fE W)) (a:=(S8 b o)) (b:=(S8 b o)) ⟨⟨S6,g⟩,S6,S6⟩ _ _
 | 3=>cases c;cases f;exact h.free.Bg
 |n+4=>simp at c
end
end Go.aO
namespace Go.aO
attribute [-simp] Go.Sem.runT_eq
open Go.ChangeShapes Go.WideShapes Go.ChangeAt Go.RowKit Go.Proofs Go.Conc Go.ConcN
open Go.ConcM (OsLater)
variable{spec:ChangeSpec}{W:S7}{fn:TF}{f:Tw}
def g9.own:ownKnob Tryz.prog.godebug=none:=av
def g9.laidOut:laidOutB Tryz.prog=true:=av
def g9.underlying4:Tryz.prog.underlying 4=some .bool:=av
abbrev uw:Tb (T6×DataW Unit):=[("errors.errorType",Go.Proofs.YtoebddanaobpaaaGreatDoor.Rows.laid_errors_errorType)]
noncomputable def q7(os:Os):S7:=
 let aL:=World.holding Tryz.prog os ⟨#[],#[],[]⟩
 {aL with heap:=aL.heap.modify 0 fun
  |.cells _ t frozen=>.cells #[oO] t frozen
  |o=>o}
def Ll(os:Os)(args:Te):laidMetH Tryz.prog uw ((q7 os).forCall (λ_ _=>0) ⟨#[],args,[]⟩).memory:=
 laidMetH_of_parts (laidMet_nil _ _) av
def Sz{w:S7}(h:laidMetH Tryz.prog uw w):lS w:=by
 have e:(uw.filter λx=>x.2.handleName?.isSome)=uw:=av;unfold laidMetH at h;rw[e]at h;have h:=h.2 _ bI;have i:(Go.Proofs.YtoebddanaobpaaaGreatDoor.Rows.laid_errors_errorType:DataW Unit).funcsIn?=none:=av;rw[i]at h;obtain⟨name,u,d,o,p,q,r,c⟩:=h;have f:(Go.Proofs.YtoebddanaobpaaaGreatDoor.Rows.laid_errors_errorType:DataW Unit).handleName?=some [101,114,114,111,114]:=av;have y:name = [101,114,114,111,114]:=bD (o.symm.trans f);have j:(Tryz.prog.cutTypes.find? (·.1 == "internal/reflectlite.rtype")).map (·.2)=some 215:=av;have hu:u=215:=bD (p.symm.trans j);have l:((List.range Tryz.prog.types.size).all λt=>!(Tryz.prog.rowNamed t [101,114,114,111,114])||t == 114)=true:=av;have z:d=114:=by have:=List.all_eq_true.1 l d (List.mem_range.2 q);rw[<-y,r]at this;simpa using this
 have m:Tryz.prog.globalNamed "errors.errorType" = some 0:=av;have n:typeHandle Tryz.prog 114=T1 1 114:=av;rw[hu,z,n]at c;unfold World.var? at c;rw[m]at c;simp only[Option.bind_some]at c;split at c
 .rename_i cs t g B
  exact⟨t,g,by rw[B,bD c]⟩
 .cases c
def GG{H:Type}{enc:Tg×S9->H}{W d':S7}(j:Below W.heap.size W d'):∀{ee:Tb Tg} {i:TP} {c:Tb (DataW H)} {e9:Tb MemPlace},(∀t∈ee,Tryz.prog.readableRec t=true/\t<Tryz.prog.types.size)->DataW.TrodAll enc Tryz.prog W 0 (λ_=>true) true ee i c e9->
 (∀x∈e9,x.block<W.heap.size)->DataW.TrodAll enc Tryz.prog d' 0 (λb=>decide (b<W.heap.size)) true ee i c e9
 | [],[],[],_,_,h,_=>h
 |t::ee,v::i,d::c,e9,f,h,l=>by obtain⟨p,q,m,n,rfl⟩:=h;exact⟨p,q,Below.trod g9.laidOut (f t List.mem_cons_self).1 (f t List.mem_cons_self).2 m j (λx g=>l x (List.mem_append_left _ g)),GG j (λt o=>f t (Ur _ o)) n (λx g=>l x (List.mem_append_right _ g)),S6⟩
def Lo(m:f≠2)(l:¬bC.K.fn f)(i:eK bC f=none){us c:Te}(hW:aK.globals.size<=W.heap.size)(z:lS W)(p:bQ (gT (fE W)) us c)(j:∀w:S7,w.heap=(mF W).heap->Calls bC f us w λe _=>e=.returned (.bool true)):
 ∃M last o w' bh,runNT aK (M+1) (solo (G (Frame.enter aK f c .normal) []) W) #[]=(.ended o w',bh)/\runN aK M (solo (G (Frame.enter aK f c .normal) []) W)=.next last/\step aK last=.ended o w'/\
  Go.Conc.Good aK (λv w'=>v=.bool true/\Calm W w'/\∀b,b<W.heap.size->w'.heap[b]?=W.heap[b]?) last o w' bh:=by
 obtain⟨e,g,q⟩:=z;have d:W.cell? (Ti 0)=some oO:=by unfold World.cell?;rw[show W.heap[((Ti 0):TD).block]?=_ from q];rfl
 let⟨n,last,o,w',bh,r1,r,u,y⟩:=(Lm m l i d (S:=fE W) (λh=>by have:=h.1;omega) hW (D1 W) (L7 W) p j none).run;exact⟨n,last,o,w',bh,r1,r,u,y⟩
def BG(f:Tw)(fn:TF):Prop:=∀{H:Type} {enc:Tg×S9->H} {W:S7} {args:Te} {c:Tb (DataW H)} {e9:Tb MemPlace},lS W->(∀(j:Nat) t v,fn.params[j]?=some t->args[j]?=some v->∃Tc,Value.okWide Tryz.prog W .any Tc t v)->
 DataW.TrodAll enc Tryz.prog W 0 (λ_=>true) true fn.params.toList args.toList c e9->∃us,bQ (gT (fE W)) us args/\∀w:S7,w.heap=(mF W).heap->Calls bC f us w λe _=>e=.returned (.bool true)
def GH{H:Type}{enc:Tg×S9->H}{P:To}{W:S7}{b:Nat}{sp:Nat->Ta}{hd:Ta}:∀{ee:Tb Tg} {f:TP} {c:Tb (DataW H)} {e9:Tb MemPlace},DataW.TrodAll enc P W b sp hd ee f c e9->c.length=ee.length
 | [],[],[],_,_=>rfl
 |t::ee,v::f,d::c,e9,h=>by obtain⟨p,q,i,g,rfl⟩:=h;exact congrArg (·+1) (GH g)
def Ln(R:∀t∈fn.params.toList,Tryz.prog.readableRec t=true/\t<Tryz.prog.types.size)(L:fn.resultTypes=#[4])(n:spec.vars = [])(Q:∀(H:Type) (c:Tb (DataW H)),c.length=fn.params.size->spec.fn H c={results:=[.lit (.bool true)],args:=c})(D:f≠2)(y:¬bC.K.fn f)(B:eK bC f=none)(I:BG f fn){H:Type}{enc:Tg×S9->H}{Tc:Nat}{args:Te}{c gs:Tb (DataW H)}{r:Tb MemPlace}(E:Tryz.prog.globals.size<=W.heap.size)(z:lS W)(S:∀(j:Nat) t v,fn.params[j]?=some t->args[j]?=some v->Value.okWide Tryz.prog W .any Tc t v)(hW:DataW.Whole enc Tryz.prog fn.params.toList spec.vars false W args.toList c gs r):
 ∃M last o w' bh,runNT Tryz.prog (M+1) (solo (G (Frame.enter Tryz.prog f args .normal) []) W) #[]=(.ended o w',bh)/\runN Tryz.prog M (solo (G (Frame.enter Tryz.prog f args .normal) []) W)=.next last/\
  step Tryz.prog last=.ended o w'/\Conc.Good Tryz.prog (λv d'=>spec.post enc Tryz.prog fn false true false false W args v {d' with os:=W.os}/\OsLater W.os d'.os) last o w' bh:=by
 have i:=hW;obtain⟨p,q,hn,l,rfl,_,_⟩:=hW;rw[n]at l;obtain⟨rfl,rfl⟩:=trodVars_none l;have hlen:c.length=fn.params.size:=(GH hn).trans aF;simp only[List.append_nil]at i;have F:∀x∈p,x.block<W.heap.size:=λx T=>by simpa using i.lt x T
 let⟨us,hu,C⟩:=I z (λj t v u w=>⟨Tc,S j t v u w⟩) hn;let⟨M,last,o,w',bh,r1,U,V,X⟩:=Lo D y B E z hu C;obtain⟨v,J,⟨rfl,d,K⟩,P⟩:=X;refine⟨M,last,o,w',bh,r1,U,V,_,J,⟨?_,d.os⟩,P⟩;have m:Below W.heap.size W {w' with os:=W.os}:=⟨S6,d.tape,d.output,d.size,K⟩
 have g:spec.fn H (c++[])={results:=[.lit (.bool true)],args:=c}:=by rw[List.append_nil];exact Q H c hlen
 refine⟨_,_,_,[],p,[],i,?_,?_,?_,m.frame _,λh=>by cases h⟩
 .rw[g,L];exact trodAll_mk1 (shut_bool g9.underlying4 true)
 .rw[g];exact GG m R hn F
 .rw[g,n];rfl
def SW(J:Tryz.prog.funcs[f]?=some fn)(V:∀t∈fn.params.toList,Tryz.prog.readableRec t=true/\t<Tryz.prog.types.size)(S:fn.resultTypes=#[4])(Y:spec.vars = [])(T:∀(H:Type) (d:Tb (DataW H)),d.length=fn.params.size->spec.fn H d={results:=[.lit (.bool true)],args:=d})(I:f≠2)(E:¬bC.K.fn f)(G:eK bC f=none)(Q:BG f fn)(c:Te)(os:Os)(ad:os.Started)(H:Type)(enc:Tg×S9->H)(F:Stop.Interp)(W:((q7 os).forCall (λ_ _=>0) ⟨#[],c,[]⟩).variablesB Tryz.prog=true)(R:(((q7 os).forCall (λ_ _=>0) ⟨#[],c,[]⟩).heap.toList.drop Tryz.prog.globals.size).take ((begin Tryz.prog (λ_ _=>0) default).world.heap.size-Tryz.prog.globals.size)=(begin Tryz.prog (λ_ _=>0) default).world.heap.toList.drop Tryz.prog.globals.size)(j:Input.okWideB Tryz.prog ((q7 os).forCall (λ_ _=>0) ⟨#[],c,[]⟩) f ⟨#[],c,[]⟩=true)(l:spec.preB enc Tryz.prog fn [] false ((q7 os).forCall (λ_ _=>0) ⟨#[],c,[]⟩).memory c 8=true)(U:spec.sizedB enc Tryz.prog fn false ((q7 os).forCall (λ_ _=>0) ⟨#[],c,[]⟩).memory c 8=true):
 ReturnsInLeavingWide {calm:=true} Tryz.checked os f .any (λw args=>(spec.pre enc Tryz.prog fn [] false w args/\laidMetH Tryz.prog uw w)/\sizedMet enc Tryz.prog fn (OpenSpec.ofChange spec) false w args)
  ((OpenSpec.ofChange spec).postWith enc Tryz.prog fn F (outsideKept [.timePasses]) false true false):=by
 refine returnsInLeavingWide_of_good (C:=Tryz.checked) g9.own ad ⟨q7 os,λ_ _=>0,⟨#[],c,[]⟩,S6,World.shaped_of_B W R,(Input.okWide_of_okWideB (base:=0) j).1,(Input.okWide_of_okWideB j).2,⟨⟨ChangeSpec.pre_of_preB l,Ll os _⟩,sizedMet_of_sizedB U⟩,by simp only[Assume.holds];exact⟨aF,λ_ _ _ _=>S6,aF,aF,aF⟩⟩ ?_
 intro w tape i _ ah _ j l _;obtain⟨_,_,_,m,K,_,_,_,_,X⟩:=j;have e:m=fn:=bD (K.symm.trans J);subst e;obtain⟨⟨⟨d,gs,ae,Z,ag⟩,P⟩,_⟩:=l;have aa:=DataW.Whole.of_heap (w':=w.forCall tape i) (by rfl) Z;have z:lS (w.forCall tape i):=by let⟨t,g,h⟩:=Sz P;exact⟨t,g,h⟩
 have L:Tryz.prog.globals.size<=(w.forCall tape i).heap.size:=by have af:Tryz.prog.globals.size=1:=av;obtain⟨t,g,h⟩:=z;have:=bu h;omega
 let⟨M,last,o,w',bh,u,y,B,D⟩:=Ln V S Y T I E G Q L z X aa;obtain⟨v,e,hp,n,p,q,r⟩:=D;exact⟨M,last,o,w',bh,u,y,B,v,e,postWith_blind (postWith_of_post hp.1 hp.2),n,p,q,r⟩
def SR{p:Pinned}{s:OpenSpec}{c:OpenClaim}(d:Ta×T6)(m:c.holds p s)(y:c.wfByText s=true)(w:c.laidByTextAt .later p [.handle] true)(u:c.start=.entering)(q:c.noBlocks=false/\c.again=false)(hm:p.checked.prog.mainIs=some (d.1,d.2.toList))(g:(!d.1 && d.2.isEmpty && !true)=false)(o:∀f fn,p.checked.prog.funcNamed c.func=some f->p.checked.prog.funcs[f]?=some fn->true=p.checked.prog.looks []/\∀(j:Nat) t,fn.params[j]?=some t->p.checked.prog.wantsStandIn t=false)(n:true=c.goesBy p.checked.prog):
 Claim7.holds p (.plain s) {stood:={row:=c,standIns:=[],harness:=d,looks:=true},kinds:=[],alts:=[],goes:=true,laidByText:=true,laidKinds:=[.handle],laidTests:=true,laidLooks:=.later}:=by
 have i:∀r:OpenClaim,Claim7.isSixth {stood:={row:=r,standIns:=[],harness:=d,looks:=true},kinds:=[]}=false:=λr=>by simp[Claim7.isSixth]at g ⊢<;>exact g
 exact⟨Claim7.tied_new_at .later [.handle] true (Claim7.new_of_sixth m d true u q hm (i c) o) y,(λD l=>by cases l),w,(λh=>by cases h),n⟩
end Go.aO
namespace Go.aO
attribute [-simp] Go.Sem.runT_eq
open Go.ChangeShapes Go.WideShapes Go.ChangeAt Go.RowKit Go.Proofs Go.Conc Go.ConcN Go.Deep Go.Joins
open Go.ConcM (OsLater)
section
def bC.HK:bC.list.toArray[5]?=some xD:=av
def Og:xD.ntmps=131:=av
def SZ(w:S7):Calls (ao bC.list.toArray) 5 #[] w λe w'=>e=.returned (.bool true)/\w=w':=by go_enter bC.HK,Og;go_wp2;unfold xX Eu;go_wp2;go_ret;exact⟨S6,S6⟩
section
variable{H:Type}{enc:Tg×S9->H}{W:S7}{Tc:Nat}{v:S9}{d:DataW H}{e9:Tb MemPlace}
def Em{t:Tg}{l:Tb (Tg×Nat)}(c:fieldsOf t=some l)(h:Value.okWide Tryz.prog W .any Tc t v):∃cs,v=.agg cs:=by let⟨ba,hu,_⟩:=zg c;unfold Value.okWide at h;rw[hu]at h;obtain⟨cs,h,_⟩:=h;exact⟨cs,h⟩
def SE(z:lS W)(g:Value.okWide Tryz.prog W .any Tc 25 v)(h:DataW.Trod enc Tryz.prog W 0 (λ_=>true) true 25 v d e9):∃c p,v=.agg (eB c p)/\rW W c p:=by obtain⟨cs,rfl⟩:=Em (l:=[(3,0),(22,1),(23,2),(22,3)]) av g;obtain⟨fuel,h⟩:=h;let⟨c,p,e,f⟩:=NV z h;have e:cs.toList=(eB c p).toList:=e;exact⟨c,p,congrArg _ (Array.ext' e),f⟩
def SD(z:lS W)(i:Value.okWide Tryz.prog W .any Tc 27 v)(h:DataW.Trod enc Tryz.prog W 0 (λ_=>true) true 27 v d e9):∃k q n c f,v=.agg #[ah k,.slice q n c]/\kV W q n c f:=by obtain⟨cs,rfl⟩:=Em (l:=[(3,0),(22,1)]) av i;obtain⟨fuel,h⟩:=h;let⟨k,q,n,c,f,e,g⟩:=E5 z h;have e:cs.toList=(#[ah k,.slice q n c]:Te).toList:=e;exact⟨k,q,n,c,f,congrArg _ (Array.ext' e),g⟩
def SB(c:Value.okWide Tryz.prog W .any Tc 3 v)(h:DataW.Trod enc Tryz.prog W 0 (λ_=>true) true 3 v d e9):∃k,v=ah k:=by let⟨k,e,_⟩:=open_int g9.nE c h;exact⟨k,e⟩
def SC(z:lS W)(i:Value.okWide Tryz.prog W .any Tc 22 v)(h:DataW.Trod enc Tryz.prog W 0 (λ_=>true) true 22 v d e9):∃q n c f,v=.slice q n c/\kV W q n c f/\n<=maxLen/\∀j,j<n->-9223372036854775808<=f j/\f j<=9223372036854775807:=by obtain⟨q,n,c,rfl⟩:=okWide_slice g9.ti i;obtain⟨fuel,h⟩:=h;let⟨g2,c9,bp,f,e,g⟩:=xK z h;have e:[Value.slice q n c] = [.slice g2 c9 bp]:=e;cases e;exact⟨q,n,c,f,S6,g⟩
end
def kV.rD{W w:S7}(m:w.heap=(mF W).heap){q:TV}{n c:Nat}{f:Ty}(h:kV W q n c f)(y:n<=maxLen)(u:∀j,j<n->-9223372036854775808<=f j/\f j<=9223372036854775807)(w':S7)(g:w.grownBy w' none):ly w' (.slice (mH W q) n c) w'.heap.size:=by
 rcases h with⟨rfl,rfl⟩|⟨b,o,rfl,i,r⟩
 .exact .inl ⟨_,S6⟩
 .rw[uC i]
  have D:b<w'.heap.size:=by obtain⟨_,d,e,z,h⟩:=i;have B:=bu h;have C:=D1 W;have p:=g.size;rw[m]at p;omega
  exact .inr ⟨b,o,n,c,f,S6,by unfold maxLen at y;omega,U,λj l=>⟨g.cell (w6 m i (r j l) (.inl ⟨_,_,S6⟩)) aF,u j l⟩⟩
end
end Go.aO
