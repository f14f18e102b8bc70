/- A part. -/
import Derived.Test.YtoebddanaobpaaaGreatDoorP17
import Derived.WalkMore
import Derived.ScopeJumps
import Derived.ChangeKeysEq
set_option maxHeartbeats 8000000
set_option maxRecDepth 100000
set_option linter.all false
namespace Go.aO
open Go.Proofs Tryz Go.RowKit
variable{cm:Int}{B T h n:Nat}{w:S7}{g:Ty}{d:cC}{p:eg}
section
variable{A:TJ}
def l'(g:Ty)(cm:Int):Nat->Nat->Nat
 | 0,h=>h
 |n+1,h=>if h+1<120/\g (h+1)<=cm then l' g cm n (h+1)else h
def HH[S:Std A](w:S7)(cT dx f0 d j f1 f l f2:Int)(m:0<=cT/\cT<=dx)(n:0<=d/\d<=j)(o:0<=f/\f<=l)(b c:Nat)(g:w.heap[b]?=some (.cells #[ah cT,ah dx,ah f0,ah d,ah j,ah f1,ah f,ah l,ah f2] 76)):
 Calls (ao A) 45 #[Ts b 3 c] w λe w'=>e=.returned .nilIface/\w.grownBy w' none:=by
 refine vG b 0 3 c U w (λi=>match i with|0=>cT|1=>d|_=>f) (λi=>match i with|0=>dx|1=>j|_=>l) (λi=>match i with|0=>f0|1=>f1|_=>f2) (λi h=>?_) (λi h=>?_) (λi h=>?_) (λi h=>?_)
 .rw[aU g];rcases i with _|_|_|i<;>first|rfl|omega
 .rw[aU g];rcases i with _|_|_|i<;>first|rfl|omega
 .rw[aU g];rcases i with _|_|_|i<;>first|rfl|omega
 .rcases i with _|_|_|i
  .exact m
  .exact n
  .exact o
  .omega
def GO(c:h+1<120)(d:g (h+1)<=cm):l' g cm (n+1) h=l' g cm n (h+1):=by rw[l',Tq ⟨c,d⟩]
def x9(c:¬(h+1<120/\g (h+1)<=cm)):l' g cm n h=h:=by
 cases n with
 |zero=>rfl
 |succ n=>rw[l',Tm c]
def RI(g:Ty)(cm:Int)(c:∀f,f<120->g f<=cm):∀n h,120<=n+h->h<120->l' g cm n h=119:=by
 intro n;induction n with
 |zero=>intro h a b;rw[l'];omega
 |succ n d=>
  intro h a b;rw[l'];by_cases e:h+1<120
  .rw[Tq ⟨e,c _ e⟩]
   exact d _ U e
  .rw[Tm (λx=>e x.1)]
   omega
def QJ{bj:Ty}(c:∀d,d<5->bj d=0)(a n:Nat)(h:a+n<=5):ks bj a n=0:=by
 induction n with
 |zero=>rfl
 |succ n f=>rw[ks,f U,c _ U];rfl
def gp.more(ok:d.ok){w':S7}(j:gp d p T B w)(f:p.below d B)(c:T<B)(g:w.grownBy w' none):gp d p T B w':=
 (pg ok f c).keep _ _ _ j g (λb e=>by cases e)
def gp.k5(j:gp d p T B w):w.cell? (S8 T 1)=some (TW p.gg p.hG d.kinds p.cA):=by let⟨aY,e⟩:=j.st;rw[aU e];rfl
def Iw:(ao A).cellsOf 3=1:=av
def K9:∃i,(ao A).info? 3=some i:=⟨_,S6⟩
def J2(t:Ty)(w:S7):(Op.equalIn 10000 129 (.agg #[ah (t 0),ah (t 1),ah (t 2),ah (t 3),ah (t 4)]) (.agg #[ah 0,ah 0,ah 0,ah 0,ah 0])).run (ao A) w=.ok (t 0 == 0 && (t 1 == 0 && (t 2 == 0 && (t 3 == 0 && t 4 == 0)))) w:=by
 let⟨i,j⟩:=K9 (A:=A);rw[run_equalIn_array w 9999 _ _ (ao.underlying103 A) j,Iw];have e:∀a b:Int,(Op.equalIn 9999 3 (ah a) (ah b)).run (ao A) w=.ok (a == b) w:=λa b=>run_equalIn_int w 9998 3 .i64 .i64 a b (ao.underlying3 A)
 have l:List.range 5 = [0,1,2,3,4]:=S6;rw[l];have h:=ao.underlying3 A;have pt:∀(v0 v1 v2 v3 v4:S9),((part 3 #[v0,v1,v2,v3,v4] (0*1)).run (ao A) w=.ok v0 w/\(part 3 #[v0,v1,v2,v3,v4] (1*1)).run (ao A) w=.ok v1 w/\(part 3 #[v0,v1,v2,v3,v4] (2*1)).run (ao A) w=.ok v2 w)/\(part 3 #[v0,v1,v2,v3,v4] (3*1)).run (ao A) w=.ok v3 w/\(part 3 #[v0,v1,v2,v3,v4] (4*1)).run (ao A) w=.ok v4 w:=λv0 v1 v2 v3 v4=>by simp[part,isAgg,run_underlying h]
 simp only[Op.eqItems,Sem.run_bind,Sem.run_ite,Sem.run_pure,Result.andThen_ok,(pt _ _ _ _ _).1.1,(pt _ _ _ _ _).1.2.1,(pt _ _ _ _ _).1.2.2,(pt _ _ _ _ _).2.1,(pt _ _ _ _ _).2.2,e];generalize (t 0 == 0)=c;generalize (t 1 == 0)=d;generalize (t 2 == 0)=f;generalize (t 3 == 0)=cG;generalize (t 4 == 0)=g;cases c<;>cases d<;>cases f<;>cases cG<;>cases g<;>rfl
def RJ[S:Std A][P:hA A](d:cC)(ok:d.ok)(p:eg)(k:Nat)(E:k<d.kinds)(S':Nat)(bF:S'<120)(cm:Nat)(hp:cm<=999)(b1:d.first k<=cm)(w:S7)(h:e' w d p):
 Calls (ao A) 21 #[.agg (dv d p),ah k,ah S',ah cm] w λe w'=>e=.returned (.tuple #[ah (l' (λf=>ha (d.first k) (cX d k) S' f) cm 120 S'),ah 0])/\w.grownBy w' none:=by
 have bY:=ok.kinds;have aa:w.grownBy (w.alloc (.cells (dv d p) 25)) none:=bT;have bQ:=al (Ab (A:=A) d ok p _ (h.keep aa));have Q:=al aa;have H:=al h;clear aa h;have bR:=al λ(T:Nat) (w3:S7) (m:(w.alloc (.cells (dv d p) 25)).heap.size<=T) (i:w3.heap[T]?=some (.cells (nD d p) 132)) (z:(w.alloc (.cells (dv d p) 25)).grownBy w3 none)=>
  have x:=sO ok (H.out.keep Q.out) m i z;Ud x (rk (A:=A) ok x.2.2.1 x.2.1 E)
 have bP:=al (v' (A:=A));have bK:=al λ(w:S7) (b c:Nat) i=>HH (A:=A) w k (d.kinds-1) 0 S' 119 2 cm 999 3 U U U b c i
 have b2:decide (d.first k>(cm:Int))=false:=cH;obtain⟨g,K⟩:∃g:Ty,g=λf=>ha (d.first k) (cX d k) S' f:=⟨_,S6⟩
 have bN:=al K;have bs:=al λ(T B h:Nat) (M:S7) (i:p.below d B) (m:T<B) (L:pA A (gp d p T B) T k (cX d k)) (bC:h<120) (j:gp d p T B M)=>
  show Calls (ao A) 36 #[Tj T,ah k,.agg #[ah S',ah h]] M λe w'=>e=.returned (ah (g h))/\gp d p T B w'/\M.grownBy w' (some T) by have:=si (F:=A) (pg ok i m) (k:=k) E U (bj:=cX d k) (λday=>by have:=ql ok E day;omega) L S' h bF bC M j;rw[pT E]at this;rw[K];exact this
 rw[<-K];clear K;go_enter (S.f func21),ntmps21;go_wp2;obtain⟨W,bx⟩:∃W:Act->S7->Prop,W=λJ w'=>∃(T B h:Nat) (aK aW a7 bk bp bq af ag ai aj ak am ap aq ar rF ti u6 au av aw ax ay az aA aB aC aD aE aF aG aH aI aJ aL aM aN aO aP aQ aR aS aT aV aX aY aZ a0 a1 a2 a3 a4 a5 a6 a8 a9 ba bb bc bd bf bg bh bi bl bm bn bo:S9),J={tmps:=#[.agg (dv d p),ah k,ah S',ah cm,aK,aW,a7,bk,bp,bq,Tj T,af,ag,ah h,ai,aj,ak,am,ap,aq,ar,rF,ti,u6,au,av,aw,ax,ay,az,aA,aB,aC,aD,aE,aF,aG,aH,aI,aJ,aL,aM,aN,aO,aP,aQ,aR,aS,aT,aV,aX,aY,aZ,a0,a1,a2,a3,a4,a5,a6,a8,a9,ba,bb,bc,bd,bf,bg,bh,bi,bl,bm,bn,bo],defers:=[]}/\(gp d p T B w'/\p.below d B/\T<B/\pA A (gp d p T B) T k (cX d k))/\(w.grownBy w' none/\w.heap.size<=T)/\h<120/\∃n,120<=n+h/\l' g cm n h=l' g cm 120 S':=⟨_,S6⟩
 obtain⟨bt,bG⟩:∃bt:Act->S7->Nat,bt=λJ _=>120-(intOf (J.tmps.getD 13 undef)).toNat:=⟨_,S6⟩
 have V:=al bx;have bU:=al bG;clear bx bG;refine wp_scope_jumps 0 W bt S6 ?_ ?_
 .go_wp2_with (first|(go_at_call 37;refine bQ.out.mono ?_;rintro e w3 ⟨T,rfl,m,i,z⟩;have t0:w3.cell? ⟨T,0,none⟩=some (ah d.kinds):=(aU i).trans S6;have l:=al (bR.out T w3 m i z);have bL:=al z;have bS:=al m;clear i z m)|(go_at_call 45;refine(bK.out _ _ _ (fM _ _)).mono ?_;rintro e b4 ⟨rfl,bz⟩;have bM:=al bz;clear bz)|(go_at_call 44;refine(bP.out _).mono ?_;rintro e b5 ⟨rfl,bA⟩;clear t0;have ad:=((dU w3 _ _).trans bM.out).trans bA;have I:=l.out.1.1.more ok l.out.1.2.2.1 l.out.1.2.2.2 ad;have t1:=I.k5;have t2:=I.tf.first k E;have bV:=al I;have bI:=al ad;clear I ad bA)|(go_at_call 46;refine(l.out.2 _ bV.out).mono ?_;rintro e bW ⟨rfl,bE,bB⟩;clear t1 t2;have X:=al bE;have bJ:=al bB;clear bE bB))
  rw[J2 (A:=A) (cX d k)];simp only[Result.andThen_ok];have r:w.heap.size<=T:=by have:=bS.out;have e:=Q.out.size;omega
  have bw:w.grownBy bW none:=kH (Q.out.trans (bL.out.trans bI.out)) bJ.out r;have Z:=al r;have G:=al bw;clear r bw;cases u:(cX d k 0 == 0 && (cX d k 1 == 0 && (cX d k 2 == 0 && (cX d k 3 == 0 && cX d k 4 == 0))))
  case true=>
   go_wp2;simp only[Exit.jump];go_ret2
   refine⟨?_,G.out⟩;rw[RI g cm _ 120 S' U bF]
   .rfl
   .intro f b0
    simp only[TS,beq_iff_eq]at u;rw[bN.out];show d.first k+ks (cX d k) (S' / 24+1) (f / 24-S' / 24)<=_
    rw[QJ (λdd bZ=>?_) _ _ U]
    .omega
    .rcases dd with _|_|_|_|_|dd
     .exact u.1
     .exact u.2.1
     .exact u.2.2.1
     .exact u.2.2.2.1
     .exact u.2.2.2.2
     .omega
  case false=>
   go_wp2;go_step3
   by_cases o:S'+1<120
   .have hd:decide ((S':Int)+1<120)=true:=cH
    go_wp2_with (first|(go_at_call 36;refine(bs.out _ _ (S'+1) _ l.out.1.2.2.1 l.out.1.2.2.2 l.out.2 o X.out).mono ?_;rintro e bX ⟨rfl,D,C⟩;have Y:=al D;have y:=al C;clear D C)|(go_at_call 31;refine(oT _ _).mono ?_;rintro e w' ⟨rfl,rfl⟩))
    .go_step3
     simp only[Exit.then,Exit.jump];refine⟨Tf,?_⟩;rw[V.out];exact⟨T,_,S'+1,_,_,_,_,_,_,_,_,_,_,_,_,_,_,_,_,_,_,_,_,_,_,_,_,_,_,_,_,_,_,_,_,_,_,_,_,_,_,_,_,_,_,_,_,_,_,_,_,_,_,_,_,_,_,_,_,_,_,_,_,_,_,_,_,_,_,_,_,S6,⟨Y.out,l.out.1.2.2.1,l.out.1.2.2.2,l.out.2⟩,⟨kH G.out y.out Z.out,Z.out⟩,o,119,U,(GO o (by assumption)).symm⟩
    .simp only[Exit.jump]
     go_ret2
     refine⟨?_,kH G.out y.out Z.out⟩;rw[x9 (g:=g) (cm:=cm) (n:=120) (h:=S') (λx=>by have:=x.2;omega)];rfl
   .have hd:decide ((S':Int)+1<120)=false:=cH
    go_wp2;simp only[Exit.jump];go_ret2
    refine⟨?_,G.out⟩;rw[x9 (g:=g) (cm:=cm) (n:=120) (h:=S') (λx=>o x.1)];rfl
 .intro J w' bD
  rw[V.out]at bD;obtain⟨T,B,h,aK,aW,a7,bk,bp,bq,af,ag,ai,aj,ak,am,ap,aq,ar,rF,ti,u6,au,av,aw,ax,ay,az,aA,aB,aC,aD,aE,aF,aG,aH,aI,aJ,aL,aM,aN,aO,aP,aQ,aR,aS,aT,aV,aX,aY,aZ,a0,a1,a2,a3,a4,a5,a6,a8,a9,ba,bb,bc,bd,bf,bg,bh,bi,bl,bm,bn,bo,rfl,⟨bH,i,m,L⟩,⟨bv,r⟩,bC,n,b3,hgo⟩:=bD;obtain⟨dx,ae⟩:∃dx,bt {tmps:=#[.agg (dv d p),ah k,ah S',ah cm,aK,aW,a7,bk,bp,bq,Tj T,af,ag,ah h,ai,aj,ak,am,ap,aq,ar,rF,ti,u6,au,av,aw,ax,ay,az,aA,aB,aC,aD,aE,aF,aG,aH,aI,aJ,aL,aM,aN,aO,aP,aQ,aR,aS,aT,aV,aX,aY,aZ,a0,a1,a2,a3,a4,a5,a6,a8,a9,ba,bb,bc,bd,bf,bg,bh,bi,bl,bm,bn,bo],defers:=[]} w'=dx:=⟨_,S6⟩
  have bO:=al ae;rw[ae];clear ae;have X:=al bH;have br:=al i;have bu:=al L;have GW:=al bv;have R:=al hgo;clear bH i L bv hgo;by_cases o:h+1<120
  .have hd:decide ((h:Int)+1<120)=true:=cH
   go_wp2_with (first|(go_at_call 36;refine(bs.out _ _ (h+1) _ br.out m bu.out o X.out).mono ?_;rintro e bX ⟨rfl,D,C⟩;have Y:=al D;have y:=al C;clear D C)|(go_at_call 31;refine(oT _ _).mono ?_;rintro e w' ⟨rfl,rfl⟩))
   .go_step3
    simp only[Exit.then,Exit.jump];refine⟨S6,?_,?_⟩
    .rw[V.out]
     obtain⟨n,rfl⟩:∃q,n=q+1:=⟨n-1,U⟩
     exact⟨T,_,h+1,_,_,_,_,_,_,_,_,_,_,_,_,_,_,_,_,_,_,_,_,_,_,_,_,_,_,_,_,_,_,_,_,_,_,_,_,_,_,_,_,_,_,_,_,_,_,_,_,_,_,_,_,_,_,_,_,_,_,_,_,_,_,_,_,_,_,_,_,S6,⟨Y.out,br.out,m,bu.out⟩,⟨kH GW.out y.out r,r⟩,o,n,U,by rw[<-R.out];exact(GO o (by assumption)).symm⟩
    .rw[<-bO.out,bU.out]
     simp[intOf];omega
   .simp only[Exit.jump]
    go_ret2
    refine⟨?_,kH GW.out y.out r⟩;rw[<-R.out,x9 (g:=g) (cm:=cm) (n:=n) (h:=h) (λx=>by have:=x.2;omega)];rfl
  .have hd:decide ((h:Int)+1<120)=false:=cH
   go_wp2;simp only[Exit.jump];go_ret2
   refine⟨?_,GW.out⟩;rw[<-R.out,x9 (g:=g) (cm:=cm) (n:=n) (h:=h) (λx=>o x.1)];rfl
end
end Go.aO
