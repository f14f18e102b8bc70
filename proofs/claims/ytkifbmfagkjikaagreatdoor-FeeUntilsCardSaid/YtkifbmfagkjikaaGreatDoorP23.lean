/- A part; no conditions. -/
import Derived.Test.YtkifbmfagkjikaaGreatDoorP22
import Derived.WalkMore
import Derived.ScopeJumps
import Derived.ChangeKeysEq
set_option maxHeartbeats 8000000
set_option maxRecDepth 100000
set_option linter.all false
namespace Go.aO
open Go.Proofs Go.RowKit
variable{cm:Int}{B T h n:Nat}{g:Nat->Int}{w:World}{d:cC}{p:eg}
section
variable{A:Array Func}
def l'(g:Nat->Int)(cm:Int):Nat->Nat->Nat
 | 0,h=>h
 |n+1,h=>if h+1<120/\g (h+1)<=cm then l' g cm n (h+1)else h
def HH[S:Std A](w:World)(cT dx f0 d j f1 f l f2:Int)(m:0<=cT/\cT<=dx)(n:0<=d/\d<=j)(o:0<=f/\f<=l)(b c:Nat)(g:w.heap[b]?=some (.cells #[.int .i64 cT,.int .i64 dx,.int .i64 f0,.int .i64 d,.int .i64 j,.int .i64 f1,.int .i64 f,.int .i64 l,.int .i64 f2] 97)):
 Calls (ao A) 30 #[.slice (some ⟨b,0,none⟩) 3 c] w λe w'=>e=.returned .nilIface/\w.grownBy w' none:=by
 refine vG b 0 3 c U w (λi=>match i with|0=>cT|1=>d|_=>f) (λi=>match i with|0=>dx|1=>j|_=>l) (λi=>match i with|0=>f0|1=>f1|_=>f2) (λi h=>?_) (λi h=>?_) (λi h=>?_) (λi h=>?_)
 .rw[aU g];rcases i with _|_|_|i<;>first|rfl|omega
 .rw[aU g];rcases i with _|_|_|i<;>first|rfl|omega
 .rw[aU g];rcases i with _|_|_|i<;>first|rfl|omega
 .rcases i with _|_|_|i
  .exact m
  .exact n
  .exact o
  .omega
def GO(c:h+1<120)(d:g (h+1)<=cm):l' g cm (n+1) h=l' g cm n (h+1):=by rw[l',if_pos ⟨c,d⟩]
def x9(c:¬(h+1<120/\g (h+1)<=cm)):l' g cm n h=h:=by
 cases n with
 |zero=>rfl
 |succ n=>rw[l',if_neg c]
def RI(g:Nat->Int)(cm:Int)(c:∀f,f<120->g f<=cm):∀n h,120<=n+h->h<120->l' g cm n h=119:=by
 intro n;induction n with
 |zero=>intro h a b;rw[l'];omega
 |succ n d=>
  intro h a b;rw[l'];by_cases e:h+1<120
  .rw[if_pos ⟨e,c _ e⟩]
   exact d _ U e
  .rw[if_neg (λx=>e x.1)]
   omega
def QJ{bj:Nat->Int}(c:∀d,d<5->bj d=0)(a n:Nat)(h:a+n<=5):ks bj a n=0:=by
 induction n with
 |zero=>rfl
 |succ n f=>rw[ks,f U,c _ U];rfl
def gp.more(ok:d.ok){w':World}(j:gp d p T B w)(f:p.below d B)(c:T<B)(g:w.grownBy w' none):gp d p T B w':=
 (pg ok f c).keep _ _ _ j g (λb e=>by cases e)
def gp.k5(j:gp d p T B w):w.cell? ⟨T,1,none⟩=some (.slice (some ⟨p.gg,p.hG,none⟩) d.kinds p.cA):=by obtain⟨aY,e⟩:=j.st;rw[aU e];rfl
def Iw:(ao A).cellsOf 3=1:=av
def K9:∃i,(ao A).info? 3=some i:=⟨_,rfl⟩
def J2(t:Nat->Int)(w:World):(Op.equalIn 10000 91 (.agg #[.int .i64 (t 0),.int .i64 (t 1),.int .i64 (t 2),.int .i64 (t 3),.int .i64 (t 4)]) (.agg #[.int .i64 0,.int .i64 0,.int .i64 0,.int .i64 0,.int .i64 0])).run (ao A) w=.ok (t 0 == 0 && (t 1 == 0 && (t 2 == 0 && (t 3 == 0 && t 4 == 0)))) w:=by
 obtain⟨i,j⟩:=K9 (A:=A);rw[run_equalIn_array w 9999 _ _ (ao.underlying103 A) j,Iw];have e:∀a b:Int,(Op.equalIn 9999 3 (.int .i64 a) (.int .i64 b)).run (ao A) w=.ok (a == b) w:=λa b=>run_equalIn_int w 9998 3 .i64 .i64 a b (ao.underlying3 A)
 have l:List.range 5 = [0,1,2,3,4]:=rfl;rw[l];have h:=ao.underlying3 A;have pt:∀(v0 v1 v2 v3 v4:Value),((part 3 #[v0,v1,v2,v3,v4] (0*1)).run (ao A) w=.ok v0 w/\(part 3 #[v0,v1,v2,v3,v4] (1*1)).run (ao A) w=.ok v1 w/\(part 3 #[v0,v1,v2,v3,v4] (2*1)).run (ao A) w=.ok v2 w)/\(part 3 #[v0,v1,v2,v3,v4] (3*1)).run (ao A) w=.ok v3 w/\(part 3 #[v0,v1,v2,v3,v4] (4*1)).run (ao A) w=.ok v4 w:=λv0 v1 v2 v3 v4=>by simp[part,isAgg,run_underlying h]
 simp only[Op.eqItems,Sem.run_bind,Sem.run_ite,Sem.run_pure,Result.andThen_ok,(pt _ _ _ _ _).1.1,(pt _ _ _ _ _).1.2.1,(pt _ _ _ _ _).1.2.2,(pt _ _ _ _ _).2.1,(pt _ _ _ _ _).2.2,e];generalize (t 0 == 0)=c;generalize (t 1 == 0)=d;generalize (t 2 == 0)=f;generalize (t 3 == 0)=cG;generalize (t 4 == 0)=g;cases c<;>cases d<;>cases f<;>cases cG<;>cases g<;>rfl
def RJ[S:Std A][P:hA A](d:cC)(ok:d.ok)(p:eg)(k:Nat)(E:k<d.kinds)(left:Nat)(bE:left<120)(cm:Nat)(hp:cm<=999)(b0:d.first k<=cm)(w:World)(h:e' w d p):
 Calls (ao A) 10 #[.agg (dv d p),.int .i64 k,.int .i64 left,.int .i64 cm] w λe w'=>e=.returned (.tuple #[.int .i64 (l' (λf=>ha (d.first k) (cX d k) left f) cm 120 left),.int .i64 0])/\w.grownBy w' none:=by
 have bX:=ok.kinds;have aa:w.grownBy (w.alloc (.cells (dv d p) 25)) none:=bT;have bP:=al (Ab (A:=A) d ok p _ (h.keep aa));have Q:=al aa;have H:=al h;clear aa h;have bQ:=al λ(T:Nat) (w3:World) (m:(w.alloc (.cells (dv d p) 25)).heap.size<=T) (i:w3.heap[T]?=some (.cells (nD d p) 94)) (z:(w.alloc (.cells (dv d p) 25)).grownBy w3 none)=>
  have x:=sO ok (H.out.keep Q.out) m i z;And.intro x (rk (A:=A) ok x.2.2.1 x.2.1 E)
 have bO:=al (v' (A:=A));have bJ:=al λ(w:World) (b c:Nat) i=>HH (A:=A) w k (d.kinds-1) 0 left 119 2 cm 999 3 U U U b c i
 have b1:decide (d.first k>(cm:Int))=false:=cH;obtain⟨g,K⟩:∃g:Nat->Int,g=λf=>ha (d.first k) (cX d k) left f:=⟨_,rfl⟩
 have bM:=al K;have br:=al λ(T B h:Nat) (M:World) (i:p.below d B) (m:T<B) (L:pA A (gp d p T B) T k (cX d k)) (bB:h<120) (j:gp d p T B M)=>
  show Calls (ao A) 32 #[.pointer (some ⟨T,0,none⟩),.int .i64 k,.agg #[.int .i64 left,.int .i64 h]] M λe w'=>e=.returned (.int .i64 (g h))/\gp d p T B w'/\M.grownBy w' (some T) by have:=si (F:=A) (pg ok i m) (k:=k) E U (bj:=cX d k) (λday=>by have:=ql ok E day;omega) L left h bE bB M j;rw[pT E]at this;rw[K];exact this
 rw[<-K];clear K;go_enter (S.f Tryz.func10),Tryz.ntmps10;go_wp2;obtain⟨W,bw⟩:∃W:Act->World->Prop,W=λJ w'=>∃(T B h:Nat) (aJ aV a6 bi bo bp af ag ah ai aj ak am ap aq rF ti u6 ar au av aw ax ay az aA aB aC aD aE aF aG aH aI aK aL aM aN aO aP aQ aR aS aT aW aX aY aZ a0 a1 a2 a3 a4 a5 a7 a8 a9 ba bb bc bd bf bg bh bk bl bm bn:Value),J={tmps:=#[.agg (dv d p),.int .i64 k,.int .i64 left,.int .i64 cm,aJ,aV,a6,bi,bo,bp,.pointer (some ⟨T,0,none⟩),af,ag,.int .i64 h,ah,ai,aj,ak,am,ap,aq,rF,ti,u6,ar,au,av,aw,ax,ay,az,aA,aB,aC,aD,aE,aF,aG,aH,aI,aK,aL,aM,aN,aO,aP,aQ,aR,aS,aT,aW,aX,aY,aZ,a0,a1,a2,a3,a4,a5,a7,a8,a9,ba,bb,bc,bd,bf,bg,bh,bk,bl,bm,bn],defers:=[]}/\(gp d p T B w'/\p.below d B/\T<B/\pA A (gp d p T B) T k (cX d k))/\(w.grownBy w' none/\w.heap.size<=T)/\h<120/\∃n,120<=n+h/\l' g cm n h=l' g cm 120 left:=⟨_,rfl⟩
 obtain⟨bt,bF⟩:∃bt:Act->World->Nat,bt=λJ _=>120-(intOf (J.tmps.getD 13 undef)).toNat:=⟨_,rfl⟩
 have V:=al bw;have bS:=al bF;clear bw bF;refine wp_scope_jumps 0 W bt rfl ?_ ?_
 .go_wp2_with (first|(go_at_call 28;refine bP.out.mono ?_;rintro e w3 ⟨T,rfl,m,i,z⟩;have t0:w3.cell? ⟨T,0,none⟩=some (.int .i64 d.kinds):=(aU i).trans rfl;have l:=al (bQ.out T w3 m i z);have bK:=al z;have bR:=al m;clear i z m)|(go_at_call 30;refine(bJ.out _ _ _ (fM _ _)).mono ?_;rintro e b3 ⟨rfl,bx⟩;have bL:=al bx;clear bx)|(go_at_call 29;refine(bO.out _).mono ?_;rintro e b4 ⟨rfl,bz⟩;clear t0;have ad:=((dU w3 _ _).trans bL.out).trans bz;have I:=l.out.1.1.more ok l.out.1.2.2.1 l.out.1.2.2.2 ad;have t1:=I.k5;have t2:=I.tf.first k E;have bU:=al I;have bH:=al ad;clear I ad bz)|(go_at_call 31;refine(l.out.2 _ bU.out).mono ?_;rintro e bV ⟨rfl,bD,bA⟩;clear t1 t2;have X:=al bD;have bI:=al bA;clear bD bA))
  rw[J2 (A:=A) (cX d k)];simp only[Result.andThen_ok];have r:w.heap.size<=T:=by have:=bR.out;have e:=Q.out.size;omega
  have bv:w.grownBy bV none:=kH (Q.out.trans (bK.out.trans bH.out)) bI.out r;have Z:=al r;have G:=al bv;clear r bv;cases u:(cX d k 0 == 0 && (cX d k 1 == 0 && (cX d k 2 == 0 && (cX d k 3 == 0 && cX d k 4 == 0))))
  case true=>
   go_wp2;simp only[Exit.jump];go_ret2
   refine⟨?_,G.out⟩;rw[RI g cm _ 120 left U bE]
   .rfl
   .intro f bZ
    simp only[Bool.and_eq_true,beq_iff_eq]at u;rw[bM.out];show d.first k+ks (cX d k) (left / 24+1) (f / 24-left / 24)<=_
    rw[QJ (λdd bY=>?_) _ _ U]
    .omega
    .rcases dd with _|_|_|_|_|dd
     .exact u.1
     .exact u.2.1
     .exact u.2.2.1
     .exact u.2.2.2.1
     .exact u.2.2.2.2
     .omega
  case false=>
   go_wp2;go_step3
   by_cases o:left+1<120
   .have hd:decide ((left:Int)+1<120)=true:=cH
    go_wp2_with (first|(go_at_call 32;refine(br.out _ _ (left+1) _ l.out.1.2.2.1 l.out.1.2.2.2 l.out.2 o X.out).mono ?_;rintro e bW ⟨rfl,D,C⟩;have Y:=al D;have y:=al C;clear D C)|(go_at_call 33;refine(oT _ _).mono ?_;rintro e w' ⟨rfl,rfl⟩))
    .go_step3
     simp only[Exit.then,Exit.jump];refine⟨trivial,?_⟩;rw[V.out];exact⟨T,_,left+1,_,_,_,_,_,_,_,_,_,_,_,_,_,_,_,_,_,_,_,_,_,_,_,_,_,_,_,_,_,_,_,_,_,_,_,_,_,_,_,_,_,_,_,_,_,_,_,_,_,_,_,_,_,_,_,_,_,_,_,_,_,_,_,_,_,_,_,_,rfl,⟨Y.out,l.out.1.2.2.1,l.out.1.2.2.2,l.out.2⟩,⟨kH G.out y.out Z.out,Z.out⟩,o,119,U,(GO o (by assumption)).symm⟩
    .simp only[Exit.jump]
     go_ret2
     refine⟨?_,kH G.out y.out Z.out⟩;rw[x9 (g:=g) (cm:=cm) (n:=120) (h:=left) (λx=>by have:=x.2;omega)];rfl
   .have hd:decide ((left:Int)+1<120)=false:=cH
    go_wp2;simp only[Exit.jump];go_ret2
    refine⟨?_,G.out⟩;rw[x9 (g:=g) (cm:=cm) (n:=120) (h:=left) (λx=>o x.1)];rfl
 .intro J w' bC
  rw[V.out]at bC;obtain⟨T,B,h,aJ,aV,a6,bi,bo,bp,af,ag,ah,ai,aj,ak,am,ap,aq,rF,ti,u6,ar,au,av,aw,ax,ay,az,aA,aB,aC,aD,aE,aF,aG,aH,aI,aK,aL,aM,aN,aO,aP,aQ,aR,aS,aT,aW,aX,aY,aZ,a0,a1,a2,a3,a4,a5,a7,a8,a9,ba,bb,bc,bd,bf,bg,bh,bk,bl,bm,bn,rfl,⟨bG,i,m,L⟩,⟨bu,r⟩,bB,n,b2,hgo⟩:=bC;obtain⟨dx,ae⟩:∃dx,bt {tmps:=#[.agg (dv d p),.int .i64 k,.int .i64 left,.int .i64 cm,aJ,aV,a6,bi,bo,bp,.pointer (some ⟨T,0,none⟩),af,ag,.int .i64 h,ah,ai,aj,ak,am,ap,aq,rF,ti,u6,ar,au,av,aw,ax,ay,az,aA,aB,aC,aD,aE,aF,aG,aH,aI,aK,aL,aM,aN,aO,aP,aQ,aR,aS,aT,aW,aX,aY,aZ,a0,a1,a2,a3,a4,a5,a7,a8,a9,ba,bb,bc,bd,bf,bg,bh,bk,bl,bm,bn],defers:=[]} w'=dx:=⟨_,rfl⟩
  have bN:=al ae;rw[ae];clear ae;have X:=al bG;have bq:=al i;have bs:=al L;have GW:=al bu;have R:=al hgo;clear bG i L bu hgo;by_cases o:h+1<120
  .have hd:decide ((h:Int)+1<120)=true:=cH
   go_wp2_with (first|(go_at_call 32;refine(br.out _ _ (h+1) _ bq.out m bs.out o X.out).mono ?_;rintro e bW ⟨rfl,D,C⟩;have Y:=al D;have y:=al C;clear D C)|(go_at_call 33;refine(oT _ _).mono ?_;rintro e w' ⟨rfl,rfl⟩))
   .go_step3
    simp only[Exit.then,Exit.jump];refine⟨rfl,?_,?_⟩
    .rw[V.out]
     obtain⟨n,rfl⟩:∃q,n=q+1:=⟨n-1,U⟩
     exact⟨T,_,h+1,_,_,_,_,_,_,_,_,_,_,_,_,_,_,_,_,_,_,_,_,_,_,_,_,_,_,_,_,_,_,_,_,_,_,_,_,_,_,_,_,_,_,_,_,_,_,_,_,_,_,_,_,_,_,_,_,_,_,_,_,_,_,_,_,_,_,_,_,rfl,⟨Y.out,bq.out,m,bs.out⟩,⟨kH GW.out y.out r,r⟩,o,n,U,by rw[<-R.out];exact(GO o (by assumption)).symm⟩
    .rw[<-bN.out,bS.out]
     simp[intOf];omega
   .simp only[Exit.jump]
    go_ret2
    refine⟨?_,kH GW.out y.out r⟩;rw[<-R.out,x9 (g:=g) (cm:=cm) (n:=n) (h:=h) (λx=>by have:=x.2;omega)];rfl
  .have hd:decide ((h:Int)+1<120)=false:=cH
   go_wp2;simp only[Exit.jump];go_ret2
   refine⟨?_,GW.out⟩;rw[<-R.out,x9 (g:=g) (cm:=cm) (n:=n) (h:=h) (λx=>o x.1)];rfl
end
end Go.aO
