/- Part 41 of a law on fees: no conditions. -/
import Derived.Test.YtalhadgndijcmaaGreatDoorP35
import Derived.Test.YtalhadgndijcmaaGreatDoorP39
import Derived.Conc.HoldsTime
import Derived.ChangeSlices
set_option maxHeartbeats 8000000
set_option maxRecDepth 100000
set_option linter.all false
namespace Go.aN
attribute [-simp] Go.Sem.runT_eq
open Go.ConcM (OsLater)
open Go.Proofs Go.Conc Go.ConcN
section
variable{R:Value->World->Prop}{f0:FuncId}{G:Machine->Outcome->World->Trace->Prop}
instance bS.sp:gg bS.list.toArray:=⟨by kernel_rfl,by kernel_rfl,by kernel_rfl,by kernel_rfl,by kernel_rfl,by kernel_rfl⟩
theorem bS.sJ:j6 bS:=⟨bS.S,bS.eo,bS.sp.f75,bS.sp.f141,bS.sp.f142,bS.dy.1,bS.dy.2.1,bS.dy.2.2.1⟩
theorem bS.f16:bS.funcs[16]?=some u3:=by kernel_rfl
theorem GC(kd:CallKind): Frame.enter bS 16 #[] kd=⟨16,Array.replicate 131 undef,[.code vl],[],.run,kd,none⟩:=by unfold Frame.enter;rw[bS.f16];kernel_rfl
theorem Ng{b8:Machine}{C:List Frame}{w:World}{kd:CallKind}(h:cj bS b8 (lone ⟨16,Array.replicate 131 undef,[.code vl],[],.run,kd,none⟩ C w))(hC:2<=C.length)(i:kd=.normal\/kd=.deferred):
 cj bS b8 (lone ⟨16,(Array.replicate 131 undef).setIfInBounds 0 (.bool true),[.code .ret],[],.returning,kd,none⟩ C w):=by
 have c:cj bS b8 (lone ⟨16,Array.replicate 131 undef,[.code (.region 0 sz false),.code .ret],[],.run,kd,none⟩ C w):=h.go (es:=#[]) hC rfl;have d:cj bS b8 (lone ⟨16,Array.replicate 131 undef,[.inRegion sz [0],.code .ret],[],.run,kd,none⟩ C w):=c.go (es:=#[]) hC rfl;have f:cj bS b8 (lone ⟨16,(Array.replicate 131 undef).setIfInBounds 0 (.bool true),[.inRegion sz [],.code .ret],[],.run,kd,none⟩ C w):=d.op (es:=#[]) (aG:=w) (v:=.bool true) hC i rfl rfl rfl;have g:cj bS b8 (lone ⟨16,(Array.replicate 131 undef).setIfInBounds 0 (.bool true),[.code .ret],[],.run,kd,none⟩ C w):=f.go (es:=#[]) hC rfl;exact g.go (es:=#[]) hC rfl
theorem Hi{hX ρ:Ren}{v0 V aI w u:World}(h:ff hX ρ v0 V aI w)(old:∀b,b<w.heap.size->u.heap[b]?=w.heap[b]?)(calm:Calm w u)(lt:∀b c,ρ.r b c->c<w.heap.size): ff hX ρ v0 V aI u:=
 h.trans ⟨Ren.le_refl ρ,λ_ _ h=>.inl h,calm.size,λb d _=>old b d,λb c d _=>⟨rfl,old c (lt b c d)⟩,calm.tape,calm.output,calm.os⟩
theorem bS.specs{base:List Frame}{hX:Ren}{v0 aI:World}: zh bS.K f0 R G base hX v0 aI (λ_=>True):=by
 intro aE ρ V bg cs' gs w t _ g he S cont;have ah:=he;obtain⟨T,ap,⟨f,a,b,kd,aA,q,ad,C,rfl,ae⟩,U,Q,j⟩:=he;by_cases I:f=16
 . subst I
   have aa:a=#[]:=Array.eq_empty_of_size_eq_zero (ae 0 bS.dy.2.2.2);subst aa;have af:b=#[]:=Array.eq_empty_of_size_eq_zero ad.1.symm;subst af;obtain⟨r,n,D,gW,i,rfl,P,ag⟩ : ∃r n D gW,V.cs=r::n/\cs'=D::gW/\cG bS.K ρ r D/\cA (cG bS.K ρ) n gW:=by
    generalize V.cs=l at Q U;cases Q with
    | nil=>exact absurd rfl U
    | @cons x y l m av aw=>exact⟨_,_,_,_,rfl,rfl,av,aw⟩
   obtain⟨cu,ax⟩:=AZ P;have am:V.fr.mode=.run:=by rw[C];rfl
   have hC:2<=(V.cs++[wall]).length:=by rw[i];simp
   have A:=g.going.eS (aL:=V.w.tape) (λ_ _=>rfl);have F:cj bS V.m (lone (Frame.enter bS 16 #[] kd) (V.cs++[wall]) V.w):=by rw[<-C];exact A
   rw[GC] at F;have H:=Ng F hC q;have al:lQ bS kd (⟨16,(Array.replicate 131 undef).setIfInBounds 0 (.bool true),[.code .ret],[],.returning,kd,none⟩,[]) []=some (.bool true,[]):=by
    unfold lQ;rcases q with rfl|rfl
    . simp only[bS.f16]
      kernel_rfl
    . simp only[bS.f16]
      kernel_rfl
   have M:V.cs++[wall]=r::(n++[wall]):=by rw[i];rfl
   rw[M] at H;have au:=(n' (main:=true) (st:=.running) (off:=none) al (rest:=n++[wall]) cu (Does.nil V.w)).2;obtain⟨N,Z⟩:=(H.go (by rw[<-M];exact hC) au).1;have ak:aF.globals.size<=w.heap.size:=by have Y:=j.iI;have p:ρ.lim=bS.globals.size:=T.fits.lim;have J:bS.globals.size=aF.globals.size:=rfl;omega
   have lt:∀b c,ρ.r b c->c<w.heap.size:=λb c d=>by obtain⟨_,_,_,p,_⟩:=j.obj b c d;exact bp p
   refine J2 q ax ak g.low g.st λdE gs u t Y p J K L ar=>?_
   refine yp (w:=u) bS.sJ g.going g.self am i (λb c d aq=>?_) J T ap P ag q (aM.bool _) Pk ⟨λb c d=>?_,j.lim,Po j.iI L.size⟩ (Hi S K L lt) Z ar (λE b6 B z bf w' a'=>cont dE E b6 B z bf w' a' trivial)
   . rcases p c aq with h|h
     . exact g.rel b c d h
     . have:=lt b c d;omega
   . obtain⟨o,ay,i,W,ao⟩:=j.obj b c d
     exact⟨o,ay,i,(K c (lt b c d)).trans W,ao⟩
 . refine CG bS.sJ aE ρ V _ cs' gs w t (λX az aB ai aj=>?_) g ah S (λE b6 B z bf w' a'=>cont aE E b6 B z bf w' a' trivial)
   have:X=f:=by have:=congrArg Frame.fn (aj.symm.trans C);exact this
   subst this;rcases ai with h|h|h|h
   . exact .inl h
   . exact .inr (.inl h)
   . exact .inr (.inr h)
   . exact absurd h I
end
noncomputable def iv(S:Nat->Prop): Ren where
 r a b:=a=b/\S a
 fwd:=by rintro a b c ⟨rfl,_⟩ ⟨rfl,_⟩;rfl
 bwd:=by rintro a b c ⟨rfl,_⟩ ⟨rfl,_⟩;rfl
 lim:=bS.globals.size
 low:=by rintro a b ⟨rfl,_⟩;exact Iff.rfl
 exact:=false
 cells:=bS.cellsOf
 dw:=λc=>codeOk bS true c=true
 room:=true
 dy:=dX bS
 dC:=km bS
theorem A9(S:Nat->Prop): Fit bS (iv S):=⟨⟨rfl,λ_=>Pk,rfl,rfl⟩,rfl,λb e=>by rw[bS.nj] at e;cases e⟩
theorem M5{aE:Nat->Prop}{B:Nat}: ji aE B #[]:=
 ⟨λsaid=>by rintro⟨i,j,_,⟨a,b,c,_⟩,_⟩;simp[Trace.act?] at c,λi a c=>by simp[touchAt,Trace.act?] at c,λi g d=>by simp[Trace.g?] at d,λop h=>by simp at h⟩
theorem Ig{g:Goroutine}{W:World}(c:g.status=.running): b5 aF (λ_=>False) #[g] g W #[] 0:=
 ⟨rfl,c,⟨λ_=>0,leavers_one aF g⟩,M5,rfl⟩
theorem Ib{f:FuncId}(q:f≠2)(ad:¬ bS.K.fn f)(H:dX bS f=none){S:Nat->Prop}{c W:World}{v:Value}(hW:aF.globals.size<=W.heap.size)(ao:c.heap.size=W.heap.size)(D:∀b,S b->∃o m,c.heap[b]?=some o/\W.heap[b]?=some m/\ev (iv S) o m/\ev (iv S) o o/\hY c b)(aq:aM (iv S) v v)(Z:∀w:World,w.heap=c.heap->Calls bS f #[v] w λe _=>e=.returned (.bool true))(sl:Option (Nat×Nat)):
 Ends aF (Go.Conc.Good aF λv w'=>v=.bool true/\Calm W w'/\∀b,b<W.heap.size->w'.heap[b]?=W.heap[b]?) (crowd #[{frame:=Frame.enter aF f #[v] .normal,callers:=[],status:=.running,dying:=none}] W sl) #[]:=by
 have J:bE (iv S) #[v] #[v]:=⟨rfl,λi x y j E=>by
  rcases i with _|i
  . simp at j E;subst j;subst E;exact aq
  . simp at j⟩
 have z:en bS f (λv _=>v=.bool true) ⟨Frame.enter bS f #[v] .normal,[],c⟩:=en.xO λaL _=>(Z (c9 c aL) rfl).mono λe w' he=>⟨_,he,rfl⟩
 have C:(iv S).lim<=c.heap.size:=by show bS.globals.size<=_;rw[ao];exact hW
 have aj:(iv S).lim<=W.heap.size:=hW;have X:Self bS ⟨Frame.enter bS f #[v] .normal,[],c⟩:=by
  refine⟨iv S,A9 S,rfl,?_,.nil,?_,λ_ _=>rfl,C,C⟩
  . rcases vt (nX (K:=h5 bS) bS.eo f J (λn e=>by have e:dX bS f=some n:=e;rw[H] at e;cases e) .normal (.inl rfl)) with h|⟨au,h,hm⟩
    . exact h
    . obtain⟨o,w2,L,r⟩:=pE (Q:=bS) (V:=⟨Frame.enter bS f #[v] .normal,[],c⟩) h hm c
      exact(z.live (aL:=c.tape) (λ_ _=>rfl) (oi hm) r).elim
  . rintro b F ⟨rfl,l⟩
    obtain⟨o,m,p,q,G,T,_⟩:=D b l;exact⟨o,o,p,p,T⟩
 have af:cG bS.K (iv S) (Frame.enter bS f #[v] .normal) (Frame.enter aF f #[v] .normal):=by
  have u:=nX (K:=bS.K) bS.H f J (λn e=>by have e:dX bS f=some n:=e;rw[H] at e;cases e) .normal (.inl rfl);generalize j:Frame.enter bS f #[v] .normal=x at u;generalize E:Frame.enter aF f #[v] .normal=y at u;cases u with
  | plain h=>exact h
  | refused au h hm=>
   rw[<-j] at h hm;obtain⟨o,w2,L,r⟩:=pE (Q:=bS) (V:=⟨Frame.enter bS f #[v] .normal,[],c⟩) h hm c;exact(z.live (aL:=c.tape) (λ_ _=>rfl) (oi hm) r).elim
  | @qq M av F kd h I _ _=>
   have e:=congrArg Frame.fn j;have:f=M:=e;subst this;exact(ad h).elim
 have ah:gb (iv S) c W:=by refine⟨?_,C,aj⟩;rintro b F ⟨rfl,l⟩;obtain⟨o,m,p,q,G,_⟩:=D b l;exact⟨o,m,p,q,G⟩
 refine lB.go (base:=[]) (hX:=iv S) (v0:=c) (aI:=W) (R:=λv _=>v=.bool true) bS.S bS.eo bS.H (λ_ _ _ h=>h) (Ok:=λ_=>True) bS.specs ?_ trivial
  (aE:=λ_=>False) (cs':=[]) ⟨z,X,λ_ _ _ h=>h,λ_ h=>h.elim,Ig rfl⟩ ⟨A9 S,rfl,af,.nil,ah⟩ (ff.refl _ _ _) sl
 intro aE ρ V bg gs w t _ ay aB aA ax al I ae ak sl;refine al.ended (λd=>?_) sl;obtain⟨v,aD,ai,dc,aG,es,U,ar,am,az,g,aC,ap,aa,aw⟩:=ak d;subst U;cases ar;refine⟨.bool true,aG,es,?_,ap,aa,rfl,⟨g.size,g.tape,g.output,g.os⟩,λb l=>?_⟩
 . rw[am]
   have P:¬ 2=f:=λe=>q e.symm
   simp[GStep.after,doReturn,I,ae,P]
 . by_cases B:S b
   . obtain⟨_,_,_,_,_,_,ag⟩:=D b B
     exact(g.guard b b ⟨rfl,B⟩ ag).2
   . exact g.out b l λa Y=>B (by obtain⟨rfl,h⟩:=Y;exact h)
theorem masked{ρ:Ren}(g:ρ.dC=true)(v:Value): ∃u,aM ρ u v:=by
 match v with
 | .bool b=>exact⟨_,.bool b⟩
 | .int k n=>exact⟨_,.int k n⟩
 | .float k n=>exact⟨_,.fM g trivial⟩
 | .complex k n m=>exact⟨_,.fM g trivial⟩
 | .string s=>exact⟨_,.string s⟩
 | .pointer none=>exact⟨_,.iL⟩
 | .pointer (some a)=>exact⟨_,.fM g trivial⟩
 | .slice none l c=>exact⟨_,.jw l c⟩
 | .slice (some a) l c=>exact⟨_,.fM g trivial⟩
 | .map none=>exact⟨_,.oe⟩
 | .map (some r)=>exact⟨_,.fM g trivial⟩
 | .chan none=>exact⟨_,.rV⟩
 | .chan (some r)=>exact⟨_,.fM g trivial⟩
 | .func (.method n) b d=>exact⟨_,.jO g⟩
 | .func (.func f) b d=>exact⟨_,.fM g trivial⟩
 | .func (.methodOf t n) b d=>exact⟨_,.fM g trivial⟩
 | .func (.via t p f q) b d=>exact⟨_,.fM g trivial⟩
 | .func (.yield l) b d=>exact⟨_,.fM g trivial⟩
 | .nilFunc=>exact⟨_,.nilFunc⟩
 | .iface t w=>exact⟨_,.fM g trivial⟩
 | .nilIface=>exact⟨_,.nilIface⟩
 | .tuple B=>exact⟨_,.fM g trivial⟩
 | .agg c=>
  have h:∀i:Fin c.size,∃u,aM ρ u c[i]:=λi=>masked g c[i]
  refine⟨.agg (Array.ofFn λi=>Classical.choose (h i)),.agg (by simp) λi x y j o=>?_⟩;have z:=bp o;rw[Pu (by simpa using z)] at j;rw[Pu z] at o;have j:=Pm j;have o:=Pm o;rw[Array.getElem_ofFn] at j;subst j;subst o;exact Classical.choose_spec (h ⟨i,z⟩)
theorem I0{ρ:Ren}(i:ρ.dC=true)(d:Array Value): ∃c:Array Value,bE ρ c d:=by
 obtain⟨u,hu⟩:=masked i (.agg d);cases hu with
 | agg f g=>exact⟨_,f,g⟩
 | fM _ h=>exact h.elim
theorem H0{ρ:Ren}{u:Value}{k:IntKind}{n:Int}(h:aM ρ u (.int k n)): u=.int k n:=by
 cases h with
 | int=>rfl
 | fM _ h=>exact h.elim
def mP(w:World)(L:Value): Prop:=L=.slice none 0 0\/∃(b off n c:Nat) (z:Nat->Int),L=.slice (some ⟨b,off,none⟩) n c/\n<=c/\c<=maxLen/\b<w.heap.size/\
 ∀j,j<n->w.cell? ⟨b,off+j,none⟩=some (.int .i64 (z j))/\-9223372036854775808<=z j/\z j<=9223372036854775807
theorem bS.dC:km bS=true:=by kernel_rfl
theorem Jt{W:World}{v:Value}(h:mP W v)(E:∀b off n c,v=.slice (some ⟨b,off,none⟩) n c->∃d e g,W.heap[b]?=some (.cells d e g)):
 ∃(S:Nat->Prop) (l:World),l.heap.size=W.heap.size/\(∀b,S b->∃o u,l.heap[b]?=some o/\W.heap[b]?=some u/\ev (iv S) o u/\ev (iv S) o o/\hY l b)/\aM (iv S) v v/\mP l v:=by
 rcases h with rfl|⟨b,off,n,c,z,rfl,D,y,p,G⟩
 . exact⟨λ_=>False,W,rfl,λ_ h=>h.elim,.jw _ _,.inl rfl⟩
 . obtain⟨d,e,g,hd⟩:=E b off n c rfl
   obtain⟨r,i⟩:=I0 (ρ:=iv (· = b)) bS.dC d;have F:bE (iv (· = b)) r r:=DQ (ρ:=iv (· = b)) (ai:=iv (· = b)) (λa b h=>⟨rfl,h.2⟩) ⟨rfl,rfl⟩ i;have m:(W.heap.setIfInBounds b (.cells r e (0,max r.size g.2)))[b]?=some (.cells r e (0,max r.size g.2)):=PC p;refine⟨(· = b),{W with heap:=W.heap.setIfInBounds b (.cells r e (0,max r.size g.2))},by simp,?_,.slice (ρ:=iv (· = b)) (a:=⟨b,off,none⟩) (b:=⟨b,off,none⟩) ⟨⟨rfl,rfl⟩,rfl,rfl⟩ n c,.inr ⟨b,off,n,c,z,rfl,D,y,by simpa using p,λj B=>?_⟩⟩
   . rintro H rfl
     exact⟨_,_,m,hd,.cells (.inl i.1) i.2 (.inr ⟨rfl,rfl,Nat.le_max_left _ _,Nat.le_max_right _ _⟩),.cells (.inl rfl) F.2 (.inl rfl),r,e,_,m,Nat.le_max_left _ _⟩
   . obtain⟨f,w⟩:=G j B
     refine⟨?_,w⟩;unfold World.cell? at f ⊢;rw[hd] at f;show(match (W.heap.setIfInBounds b (.cells r e (0,max r.size g.2)))[b]? with|some (.cells c _ _)=>if (none:Option Nat).isSome then none else c[off+j]?|_=>none)=_;rw[m];have f:d[off+j]?=some (.int .i64 (z j)):=f;have C:=bp f;obtain⟨x,q⟩ : ∃x,r[off+j]?=some x:=⟨_,Pu (by rw[i.1];exact C)⟩
     have:=H0 (i.2 _ _ _ q f);subst this;exact q
theorem Ie{f:FuncId}(D:f≠2)(C:¬ bS.K.fn f)(y:dX bS f=none){W:World}{v:Value}(hW:aF.globals.size<=W.heap.size)(h:mP W v)(E:∀b off n c,v=.slice (some ⟨b,off,none⟩) n c->∃d e g,W.heap[b]?=some (.cells d e g))(B:∀(w:World) (L:Value),mP w L->Calls bS f #[L] w λe _=>e=.returned (.bool true)):
 ∃M last o w' a',runNT aF (M+1) (solo (G (Frame.enter aF f #[v] .normal) []) W) #[]=(.ended o w',a')/\runN aF M (solo (G (Frame.enter aF f #[v] .normal) []) W)=.next last/\step aF last=.ended o w'/\
  Go.Conc.Good aF (λv w'=>v=.bool true/\Calm W w'/\∀b,b<W.heap.size->w'.heap[b]?=W.heap[b]?) last o w' a':=by
 obtain⟨S,P,q,r,u,i⟩:=Jt h E;obtain⟨n,last,o,w',a',r1,I,J,K⟩:=(Ib D C y hW q r u (λw m=>B w v (by
  rcases i with i|⟨b,off,n,c,z,e,q1,F,H,p⟩
  . exact .inl i
  . refine .inr ⟨b,off,n,c,z,e,q1,F,by rw[m];exact H,λj l=>⟨?_,(p j l).2⟩⟩
    have:=(p j l).1;unfold World.cell? at this ⊢;rw[m];exact this)) none).run
 exact⟨n,last,o,w',a',r1,I,J,K⟩
end Go.aN
namespace Go.aN
open Go.Proofs Go.RowKit
theorem bS.EB:bS.list.toArray[16]?=some u3:=by kernel_rfl
theorem K1:u3.ntmps=131:=by kernel_rfl
theorem Pa(w:World): Calls (ag bS.list.toArray) 16 #[] w λe w'=>e=.returned (.bool true)/\w=w':=by go_enter bS.EB,K1;go_wp2;unfold vl sz;go_wp2;go_ret;exact⟨rfl,rfl⟩
theorem mP.to{w:World}{L:Value}(h:mP w L): j4 w L w.heap.size/\L.oneCell'=true:=by
 rcases h with rfl|⟨b,off,n,c,z,rfl,g,d,i,f⟩
 . exact⟨.inl rfl,rfl⟩
 . exact⟨.inr ⟨b,off,n,c,z,rfl,by unfold maxLen at d;omega,by omega,f⟩,rfl⟩
end Go.aN
