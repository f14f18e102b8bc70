/- Part 41 of a law on fees: no conditions. -/
import Derived.Test.YthiiblonjmmnfaaGreatDoorP35
import Derived.Test.YthiiblonjmmnfaaGreatDoorP39
import Derived.Conc.HoldsTime
import Derived.ChangeSlices
set_option maxHeartbeats 8000000
set_option maxRecDepth 100000
set_option linter.all false
namespace Go.aN
attribute [-simp] Go.Sem.runT_eq
open Go.ConcM (OsLater)
open Go.Proofs Go.Conc Go.ConcN
section
variable{R:Value->World->Prop}{f0:FuncId}{G:Machine->Outcome->World->Trace->Prop}
instance bS.sp:gg bS.list.toArray:=⟨by kernel_rfl,by kernel_rfl,by kernel_rfl,by kernel_rfl,by kernel_rfl,by kernel_rfl⟩
def bS.sJ:j6 bS:=⟨bS.S,bS.eo,bS.sp.f75,bS.sp.f141,bS.sp.f142,bS.dy.1,bS.dy.2.1,bS.dy.2.2.1⟩
def bS.f16:bS.funcs[14]?=some u3:=by kernel_rfl
def GC(kd:CallKind):Frame.enter bS 14 #[] kd=⟨14,Array.replicate 131 undef,[.code vl],[],.run,kd,none⟩:=by unfold Frame.enter;rw[bS.f16];kernel_rfl
def Ng{b8:Machine}{C:List Frame}{w:World}{kd:CallKind}(h:cj bS b8 (lone ⟨14,Array.replicate 131 undef,[.code vl],[],.run,kd,none⟩ C w))(hC:2<=C.length)(i:kd=.normal\/kd=.deferred):
 cj bS b8 (lone ⟨14,(Array.replicate 131 undef).setIfInBounds 0 (.bool true),[.code .ret],[],.returning,kd,none⟩ C w):=by
 have c:cj bS b8 (lone ⟨14,Array.replicate 131 undef,[.code (.region 0 sz false),.code .ret],[],.run,kd,none⟩ C w):=h.go (es:=#[]) hC rfl;have d:cj bS b8 (lone ⟨14,Array.replicate 131 undef,[.inRegion sz [0],.code .ret],[],.run,kd,none⟩ C w):=c.go (es:=#[]) hC rfl;have f:cj bS b8 (lone ⟨14,(Array.replicate 131 undef).setIfInBounds 0 (.bool true),[.inRegion sz [],.code .ret],[],.run,kd,none⟩ C w):=d.op (es:=#[]) (aG:=w) (v:=.bool true) hC i rfl rfl rfl;have g:cj bS b8 (lone ⟨14,(Array.replicate 131 undef).setIfInBounds 0 (.bool true),[.code .ret],[],.run,kd,none⟩ C w):=f.go (es:=#[]) hC rfl;exact g.go (es:=#[]) hC rfl
def Hi{hX ρ:Ren}{v0 V aI w u:World}(h:ff hX ρ v0 V aI w)(old:∀b,b<w.heap.size->u.heap[b]?=w.heap[b]?)(calm:Calm w u)(lt:∀b c,ρ.r b c->c<w.heap.size):ff hX ρ v0 V aI u:=
 h.trans ⟨Ren.le_refl ρ,λ_ _ h=>.inl h,calm.size,λb d _=>old b d,λb c d _=>⟨rfl,old c (lt b c d)⟩,calm.tape,calm.output,calm.os⟩
def bS.specs{base:List Frame}{hX:Ren}{v0 aI:World}:zh bS.K f0 R G base hX v0 aI (λ_=>True):=by
 intro aE ρ V bg cs' gs w t _ g he T cont;have ai:=he;obtain⟨U,aq,⟨f,a,b,kd,aB,r,ae,D,rfl,af⟩,W,S,j⟩:=he;by_cases J:f=14
 .subst J
  have ad:a=#[]:=Array.eq_empty_of_size_eq_zero (af 0 bS.dy.2.2.2);subst ad;have ag:b=#[]:=Array.eq_empty_of_size_eq_zero ae.1.symm;subst ag;obtain⟨z,p,E,gW,i,rfl,Q,ah⟩:∃z p E gW,V.cs=z::p/\cs'=E::gW/\cG bS.K ρ z E/\cA (cG bS.K ρ) p gW:=by
   generalize V.cs=l at S W;cases S with
   |nil=>exact absurd rfl W
   |@cons x y l m aw ax=>exact⟨_,_,_,_,rfl,rfl,aw,ax⟩
  obtain⟨cu,ay⟩:=AZ Q;have ao:V.fr.mode=.run:=by rw[D];rfl
  have hC:2<=(V.cs++[wall]).length:=by rw[i];simp
  have A:=g.going.eS (aL:=V.w.tape) (λ_ _=>rfl);have H:cj bS V.m (lone (Frame.enter bS 14 #[] kd) (V.cs++[wall]) V.w):=by rw[<-D];exact A
  rw[GC]at H;have I:=Ng H hC r;have am:lQ bS kd (⟨14,(Array.replicate 131 undef).setIfInBounds 0 (.bool true),[.code .ret],[],.returning,kd,none⟩,[]) []=some (.bool true,[]):=by
   unfold lQ;rcases r with rfl|rfl
   .simp only[bS.f16]
    kernel_rfl
   .simp only[bS.f16]
    kernel_rfl
  have P:V.cs++[wall]=z::(p++[wall]):=by rw[i];rfl
  rw[P]at I;have av:=(n' (main:=true) (st:=.running) (off:=none) am (rest:=p++[wall]) cu (Does.nil V.w)).2;obtain⟨N,aa⟩:=(I.go (by rw[<-P];exact hC) av).1;have al:aF.globals.size<=w.heap.size:=by have Z:=j.iI;have q:ρ.lim=bS.globals.size:=U.fits.lim;have K:bS.globals.size=aF.globals.size:=rfl;omega
  have lt:∀b c,ρ.r b c->c<w.heap.size:=λb c d=>by obtain⟨_,_,_,q,_⟩:=j.obj b c d;exact bp q
  refine J2 r ay al g.low g.st λdE gs u t Z q K L M au=>?_
  refine yp (w:=u) bS.sJ g.going g.self ao i (λb c d ar=>?_) K U aq Q ah r (aM.bool _) Pk ⟨λb c d=>?_,j.lim,Po j.iI M.size⟩ (Hi T L M lt) aa au (λF b6 C B bf w' a'=>cont dE F b6 C B bf w' a' trivial)
  .rcases q c ar with h|h
   .exact g.rel b c d h
   .have:=lt b c d;omega
  .obtain⟨o,az,i,X,ap⟩:=j.obj b c d
   exact⟨o,az,i,(L c (lt b c d)).trans X,ap⟩
 .refine CG bS.sJ aE ρ V _ cs' gs w t (λY aA aC aj ak=>?_) g ai T (λF b6 C B bf w' a'=>cont aE F b6 C B bf w' a' trivial)
  have:Y=f:=by have:=congrArg Frame.fn (ak.symm.trans D);exact this
  subst this;rcases aj with h|h|h|h
  .exact .inl h
  .exact .inr (.inl h)
  .exact .inr (.inr h)
  .exact absurd h J
end
noncomputable def iv(S:Nat->Prop):Ren where
 r a b:=a=b/\S a
 fwd:=by rintro a b c ⟨rfl,_⟩ ⟨rfl,_⟩;rfl
 bwd:=by rintro a b c ⟨rfl,_⟩ ⟨rfl,_⟩;rfl
 lim:=bS.globals.size
 low:=by rintro a b ⟨rfl,_⟩;exact Iff.rfl
 exact:=false
 cells:=bS.cellsOf
 dw:=λc=>codeOk bS true c=true
 room:=true
 dy:=dX bS
 dC:=km bS
def A9(S:Nat->Prop):Fit bS (iv S):=⟨⟨rfl,λ_=>Pk,rfl,rfl⟩,rfl,λb e=>by rw[bS.nj]at e;cases e⟩
def M5{aE:Nat->Prop}{B:Nat}:ji aE B #[]:=
 ⟨λsaid=>by rintro⟨i,j,_,⟨a,b,c,_⟩,_⟩;simp[Trace.act?]at c,λi a c=>by simp[touchAt,Trace.act?]at c,λi g d=>by simp[Trace.g?]at d,λop h=>by simp at h⟩
def Ig{g:Goroutine}{W:World}(c:g.status=.running):b5 aF (λ_=>False) #[g] g W #[] 0:=
 ⟨rfl,c,⟨λ_=>0,leavers_one aF g⟩,M5,rfl⟩
def Ib{f:FuncId}(r:f≠2)(ae:¬bS.K.fn f)(I:dX bS f=none){S:Nat->Prop}{c W:World}{v:Value}(hW:aF.globals.size<=W.heap.size)(ap:c.heap.size=W.heap.size)(E:∀b,S b->∃o p,c.heap[b]?=some o/\W.heap[b]?=some p/\ev (iv S) o p/\ev (iv S) o o/\hY c b)(ar:aM (iv S) v v)(aa:∀w:World,w.heap=c.heap->Calls bS f #[v] w λe _=>e=.returned (.bool true))(sl:Option (Nat×Nat)):
 Ends aF (Go.Conc.Good aF λv w'=>v=.bool true/\Calm W w'/\∀b,b<W.heap.size->w'.heap[b]?=W.heap[b]?) (crowd #[⟨Frame.enter aF f #[v] .normal,[],.running,none,none⟩] W sl) #[]:=by
 have L:bE (iv S) #[v] #[v]:=⟨rfl,λi x y j F=>by
  rcases i with _|i
  .simp at j F;subst j;subst F;exact ar
  .simp at j⟩
 have B:en bS f (λv _=>v=.bool true) ⟨Frame.enter bS f #[v] .normal,[],c⟩:=en.xO λaL _=>(aa (c9 c aL) rfl).mono λe w' he=>⟨_,he,rfl⟩
 have D:(iv S).lim<=c.heap.size:=by show bS.globals.size<=_;rw[ap];exact hW
 have ak:(iv S).lim<=W.heap.size:=hW;have Y:Self bS ⟨Frame.enter bS f #[v] .normal,[],c⟩:=by
  refine⟨iv S,A9 S,rfl,?_,.nil,?_,λ_ _=>rfl,D,D⟩
  .rcases vt (nX (K:=h5 bS) bS.eo f L (λn e=>by have e:dX bS f=some n:=e;rw[I]at e;cases e) .normal (.inl rfl))with h|⟨av,h,hm⟩
   .exact h
   .obtain⟨o,w2,M,u⟩:=pE (Q:=bS) (V:=⟨Frame.enter bS f #[v] .normal,[],c⟩) h hm c
    exact(B.live (aL:=c.tape) (λ_ _=>rfl) (oi hm) u).elim
  .rintro b G ⟨rfl,l⟩
   obtain⟨o,p,q,r,H,U,_⟩:=E b l;exact⟨o,o,q,q,U⟩
 have ag:cG bS.K (iv S) (Frame.enter bS f #[v] .normal) (Frame.enter aF f #[v] .normal):=by
  have z:=nX (K:=bS.K) bS.H f L (λn e=>by have e:dX bS f=some n:=e;rw[I]at e;cases e) .normal (.inl rfl);generalize j:Frame.enter bS f #[v] .normal=x at z;generalize F:Frame.enter aF f #[v] .normal=y at z;cases z with
  |plain h=>exact h
  |refused av h hm=>
   rw[<-j]at h hm;obtain⟨o,w2,M,u⟩:=pE (Q:=bS) (V:=⟨Frame.enter bS f #[v] .normal,[],c⟩) h hm c;exact(B.live (aL:=c.tape) (λ_ _=>rfl) (oi hm) u).elim
  |@qq P aw G kd h J _ _=>
   have e:=congrArg Frame.fn j;have:f=P:=e;subst this;exact(ae h).elim
 have aj:gb (iv S) c W:=by refine⟨?_,D,ak⟩;rintro b G ⟨rfl,l⟩;obtain⟨o,p,q,r,H,_⟩:=E b l;exact⟨o,p,q,r,H⟩
 refine lB.go (base:=[]) (hX:=iv S) (v0:=c) (aI:=W) (R:=λv _=>v=.bool true) bS.S bS.eo bS.H (λ_ _ _ h=>h) (Ok:=λ_=>True) bS.specs ?_ trivial
  (aE:=λ_=>False) (cs':=[]) ⟨B,Y,λ_ _ _ h=>h,λ_ h=>h.elim,Ig rfl⟩ ⟨A9 S,rfl,ag,.nil,aj⟩ (ff.refl _ _ _) sl
 intro aE ρ V bg gs w t _ az aC aB ay am J af al sl;refine am.ended (λd=>?_) sl;obtain⟨v,aH,ai,dc,aG,es,X,au,ao,aA,g,aD,aq,ad,ax⟩:=al d;subst X;cases au;refine⟨.bool true,aG,es,?_,aq,ad,rfl,⟨g.size,g.tape,g.output,g.os⟩,λb l=>?_⟩
 .rw[ao]
  have T:¬2=f:=λe=>r e.symm
  simp[GStep.after,doReturn,J,af,T]
 .by_cases C:S b
  .obtain⟨_,_,_,_,_,_,ah⟩:=E b C
   exact(g.guard b b ⟨rfl,C⟩ ah).2
  .exact g.out b l λa Z=>C (by obtain⟨rfl,h⟩:=Z;exact h)
def masked{ρ:Ren}(g:ρ.dC=true)(v:Value):∃u,aM ρ u v:=by
 match v with
 |.bool b=>exact⟨_,.bool b⟩
 |.int k n=>exact⟨_,.int k n⟩
 |.float k n=>exact⟨_,.fM g trivial⟩
 |.complex k n m=>exact⟨_,.fM g trivial⟩
 |.string s=>exact⟨_,.string s⟩
 |.pointer none=>exact⟨_,.iL⟩
 |.pointer (some a)=>exact⟨_,.fM g trivial⟩
 |.slice none l c=>exact⟨_,.jw l c⟩
 |.slice (some a) l c=>exact⟨_,.fM g trivial⟩
 |.map none=>exact⟨_,.oe⟩
 |.map (some r)=>exact⟨_,.fM g trivial⟩
 |.chan none=>exact⟨_,.rV⟩
 |.chan (some r)=>exact⟨_,.fM g trivial⟩
 |.func (.method n) b d=>exact⟨_,.jO g⟩
 |.func (.func f) b d=>exact⟨_,.fM g trivial⟩
 |.func (.methodOf t n) b d=>exact⟨_,.fM g trivial⟩
 |.func (.via t p f q) b d=>exact⟨_,.fM g trivial⟩
 |.func (.yield l) b d=>exact⟨_,.fM g trivial⟩
 |.nilFunc=>exact⟨_,.nilFunc⟩
 |.iface t w=>exact⟨_,.fM g trivial⟩
 |.nilIface=>exact⟨_,.nilIface⟩
 |.tuple B=>exact⟨_,.fM g trivial⟩
 |.agg c=>
  have h:∀i:Fin c.size,∃u,aM ρ u c[i]:=λi=>masked g c[i]
  refine⟨.agg (Array.ofFn λi=>Classical.choose (h i)),.agg (by simp) λi x y j o=>?_⟩;have z:=bp o;rw[Pu (by simpa using z)]at j;rw[Pu z]at o;have j:=Pm j;have o:=Pm o;rw[Array.getElem_ofFn]at j;subst j;subst o;exact Classical.choose_spec (h ⟨i,z⟩)
def I0{ρ:Ren}(i:ρ.dC=true)(d:Array Value):∃c:Array Value,bE ρ c d:=by
 obtain⟨u,hu⟩:=masked i (.agg d);cases hu with
 |agg f g=>exact⟨_,f,g⟩
 |fM _ h=>exact h.elim
def H0{ρ:Ren}{u:Value}{k:IntKind}{n:Int}(h:aM ρ u (.int k n)):u=.int k n:=by
 cases h with
 |int=>rfl
 |fM _ h=>exact h.elim
def mP(w:World)(L:Value):Prop:=L=.slice none 0 0\/∃(b off n c:Nat) (z:Nat->Int),L=.slice (some ⟨b,off,none⟩) n c/\n<=c/\c<=maxLen/\b<w.heap.size/\
 ∀j,j<n->w.cell? ⟨b,off+j,none⟩=some (.int .i64 (z j))/\-9223372036854775808<=z j/\z j<=9223372036854775807
def bS.dC:km bS=true:=by kernel_rfl
def Jt{W:World}{v:Value}(h:mP W v)(G:∀b off n c,v=.slice (some ⟨b,off,none⟩) n c->∃d e g,W.heap[b]?=some (.cells d e g)):
 ∃(S:Nat->Prop) (l:World),l.heap.size=W.heap.size/\(∀b,S b->∃o w,l.heap[b]?=some o/\W.heap[b]?=some w/\ev (iv S) o w/\ev (iv S) o o/\hY l b)/\aM (iv S) v v/\mP l v:=by
 rcases h with rfl|⟨b,off,n,c,z,rfl,F,C,q,I⟩
 .exact⟨λ_=>False,W,rfl,λ_ h=>h.elim,.jw _ _,.inl rfl⟩
 .obtain⟨d,e,g,hd⟩:=G b off n c rfl
  obtain⟨r,i⟩:=I0 (ρ:=iv (· = b)) bS.dC d;have H:bE (iv (· = b)) r r:=DQ (ρ:=iv (· = b)) (ai:=iv (· = b)) (λa b h=>⟨rfl,h.2⟩) ⟨rfl,rfl⟩ i;have p:(W.heap.setIfInBounds b (.cells r e (0,max r.size g.2)))[b]?=some (.cells r e (0,max r.size g.2)):=PC q;refine⟨(· = b),{W with heap:=W.heap.setIfInBounds b (.cells r e (0,max r.size g.2))},by simp,?_,.slice (ρ:=iv (· = b)) (a:=⟨b,off,none⟩) (b:=⟨b,off,none⟩) ⟨⟨rfl,rfl⟩,rfl,rfl⟩ n c,.inr ⟨b,off,n,c,z,rfl,F,C,by simpa using q,λj D=>?_⟩⟩
  .rintro J rfl
   exact⟨_,_,p,hd,.cells (.inl i.1) i.2 (.inr ⟨rfl,rfl,Nat.le_max_left _ _,Nat.le_max_right _ _⟩),.cells (.inl rfl) H.2 (.inl rfl),r,e,_,p,Nat.le_max_left _ _⟩
  .obtain⟨f,B⟩:=I j D
   refine⟨?_,B⟩;unfold World.cell? at f ⊢;rw[hd]at f;show(match (W.heap.setIfInBounds b (.cells r e (0,max r.size g.2)))[b]? with|some (.cells c _ _)=>if (none:Option Nat).isSome then none else c[off+j]?|_=>none)=_;rw[p];have f:d[off+j]?=some (.int .i64 (z j)):=f;have E:=bp f;obtain⟨x,u⟩:∃x,r[off+j]?=some x:=⟨_,Pu (by rw[i.1];exact E)⟩
   have:=H0 (i.2 _ _ _ u f);subst this;exact u
def Ie{f:FuncId}(F:f≠2)(E:¬bS.K.fn f)(C:dX bS f=none){W:World}{v:Value}(hW:aF.globals.size<=W.heap.size)(h:mP W v)(H:∀b off n c,v=.slice (some ⟨b,off,none⟩) n c->∃d e g,W.heap[b]?=some (.cells d e g))(D:∀(w:World) (L:Value),mP w L->Calls bS f #[L] w λe _=>e=.returned (.bool true)):
 ∃M last o w' a',runNT aF (M+1) (solo (G (Frame.enter aF f #[v] .normal) []) W) #[]=(.ended o w',a')/\runN aF M (solo (G (Frame.enter aF f #[v] .normal) []) W)=.next last/\step aF last=.ended o w'/\
  Go.Conc.Good aF (λv w'=>v=.bool true/\Calm W w'/\∀b,b<W.heap.size->w'.heap[b]?=W.heap[b]?) last o w' a':=by
 obtain⟨S,R,r,u,B,i⟩:=Jt h H;obtain⟨n,last,o,w',a',r1,K,P,Q⟩:=(Ib F E C hW r u B (λw p=>D w v (by
  rcases i with i|⟨b,off,n,c,z,e,q1,I,J,q⟩
  .exact .inl i
  .refine .inr ⟨b,off,n,c,z,e,q1,I,by rw[p];exact J,λj l=>⟨?_,(q j l).2⟩⟩
   have:=(q j l).1;unfold World.cell? at this ⊢;rw[p];exact this)) none).run
 exact⟨n,last,o,w',a',r1,K,P,Q⟩
end Go.aN
namespace Go.aN
open Go.Proofs Go.RowKit
def bS.EB:bS.list.toArray[14]?=some u3:=by kernel_rfl
def K1:u3.ntmps=131:=by kernel_rfl
def Pa(w:World):Calls (ag bS.list.toArray) 14 #[] w λe w'=>e=.returned (.bool true)/\w=w':=by go_enter bS.EB,K1;go_wp2;unfold vl sz;go_wp2;go_ret;exact⟨rfl,rfl⟩
def mP.to{w:World}{L:Value}(h:mP w L):j4 w L w.heap.size/\L.oneCell'=true:=by
 rcases h with rfl|⟨b,off,n,c,z,rfl,g,d,i,f⟩
 .exact⟨.inl rfl,rfl⟩
 .exact⟨.inr ⟨b,off,n,c,z,rfl,by unfold maxLen at d;omega,by omega,f⟩,rfl⟩
end Go.aN
