/- A part. -/
import Derived.Test.YtejkocoljbaioaaGreatDoorP17
import Derived.WalkMore
import Derived.ScopeJumps
import Derived.ChangeKeysEq
set_option maxHeartbeats 8000000
set_option maxRecDepth 100000
set_option linter.all false
namespace Go.aO
open Go.Proofs Go.RowKit
variable{cm:Int}{B T h n:Nat}{g:Nat->Int}{w:World}{d:cC}{p:eg}
section
variable{A:Array Func}
def l'(g:Nat->Int)(cm:Int):Nat->Nat->Nat
 | 0,h=>h
 |n+1,h=>if h+1<120/\g (h+1)<=cm then l' g cm n (h+1)else h
def HH[S:Std A](w:World)(cT dx f0 d j f1 f l f2:Int)(o:0<=cT/\cT<=dx)(p:0<=d/\d<=j)(q:0<=f/\f<=l)(b c:Nat)(g:w.heap[b]?=some (.cells #[ah cT,ah dx,ah f0,ah d,ah j,ah f1,ah f,ah l,ah f2] 103)):
 Calls (ao A) 41 #[.slice (some ⟨b,0,none⟩) 3 c] w λe w'=>e=.returned .nilIface/\w.grownBy w' none:=by
 refine vG b 0 3 c U w (λi=>match i with|0=>cT|1=>d|_=>f) (λi=>match i with|0=>dx|1=>j|_=>l) (λi=>match i with|0=>f0|1=>f1|_=>f2) (λi h=>?_) (λi h=>?_) (λi h=>?_) (λi h=>?_)
 .rw[aU g];rcases i with _|_|_|i<;>first|rfl|omega
 .rw[aU g];rcases i with _|_|_|i<;>first|rfl|omega
 .rw[aU g];rcases i with _|_|_|i<;>first|rfl|omega
 .rcases i with _|_|_|i
  .exact o
  .exact p
  .exact q
  .omega
def GO(c:h+1<120)(d:g (h+1)<=cm):l' g cm (n+1) h=l' g cm n (h+1):=by rw[l',if_pos ⟨c,d⟩]
def x9(c:¬(h+1<120/\g (h+1)<=cm)):l' g cm n h=h:=by
 cases n with
 |zero=>rfl
 |succ n=>rw[l',if_neg c]
def RI(g:Nat->Int)(cm:Int)(c:∀f,f<120->g f<=cm):∀n h,120<=n+h->h<120->l' g cm n h=119:=by
 intro n;induction n with
 |zero=>intro h a b;rw[l'];omega
 |succ n d=>
  intro h a b;rw[l'];by_cases e:h+1<120
  .rw[if_pos ⟨e,c _ e⟩]
   exact d _ U e
  .rw[if_neg (λx=>e x.1)]
   omega
def QJ{bj:Nat->Int}(c:∀d,d<5->bj d=0)(a n:Nat)(h:a+n<=5):ks bj a n=0:=by
 induction n with
 |zero=>rfl
 |succ n f=>rw[ks,f U,c _ U];rfl
def gp.more(ok:d.ok){w':World}(j:gp d p T B w)(f:p.below d B)(c:T<B)(g:w.grownBy w' none):gp d p T B w':=
 (pg ok f c).keep _ _ _ j g (λb e=>by cases e)
def gp.k5(j:gp d p T B w):w.cell? ⟨T,1,none⟩=some (.slice (some ⟨p.gg,p.hG,none⟩) d.kinds p.cA):=by obtain⟨aY,e⟩:=j.st;rw[aU e];rfl
def Iw:(ao A).cellsOf 3=1:=av
def K9:∃i,(ao A).info? 3=some i:=⟨_,rfl⟩
def J2(t:Nat->Int)(w:World):(Op.equalIn 10000 97 (.agg #[ah (t 0),ah (t 1),ah (t 2),ah (t 3),ah (t 4)]) (.agg #[ah 0,ah 0,ah 0,ah 0,ah 0])).run (ao A) w=.ok (t 0 == 0 && (t 1 == 0 && (t 2 == 0 && (t 3 == 0 && t 4 == 0)))) w:=by
 obtain⟨i,j⟩:=K9 (A:=A);rw[run_equalIn_array w 9999 _ _ (ao.underlying103 A) j,Iw];have e:∀a b:Int,(Op.equalIn 9999 3 (ah a) (ah b)).run (ao A) w=.ok (a == b) w:=λa b=>run_equalIn_int w 9998 3 .i64 .i64 a b (ao.underlying3 A)
 have l:List.range 5 = [0,1,2,3,4]:=rfl;rw[l];have h:=ao.underlying3 A;have pt:∀(v0 v1 v2 v3 v4:Value),((part 3 #[v0,v1,v2,v3,v4] (0*1)).run (ao A) w=.ok v0 w/\(part 3 #[v0,v1,v2,v3,v4] (1*1)).run (ao A) w=.ok v1 w/\(part 3 #[v0,v1,v2,v3,v4] (2*1)).run (ao A) w=.ok v2 w)/\(part 3 #[v0,v1,v2,v3,v4] (3*1)).run (ao A) w=.ok v3 w/\(part 3 #[v0,v1,v2,v3,v4] (4*1)).run (ao A) w=.ok v4 w:=λv0 v1 v2 v3 v4=>by simp[part,isAgg,run_underlying h]
 simp only[Op.eqItems,Sem.run_bind,Sem.run_ite,Sem.run_pure,Result.andThen_ok,(pt _ _ _ _ _).1.1,(pt _ _ _ _ _).1.2.1,(pt _ _ _ _ _).1.2.2,(pt _ _ _ _ _).2.1,(pt _ _ _ _ _).2.2,e];generalize (t 0 == 0)=c;generalize (t 1 == 0)=d;generalize (t 2 == 0)=f;generalize (t 3 == 0)=cG;generalize (t 4 == 0)=g;cases c<;>cases d<;>cases f<;>cases cG<;>cases g<;>rfl
def RJ[S:Std A][P:hA A](d:cC)(ok:d.ok)(p:eg)(k:Nat)(I:k<d.kinds)(left:Nat)(bH:left<120)(cm:Nat)(hp:cm<=999)(b3:d.first k<=cm)(w:World)(h:e' w d p):
 Calls (ao A) 26 #[.agg (dv d p),ah k,ah left,ah cm] w λe w'=>e=.returned (.tuple #[ah (l' (λf=>ha (d.first k) (cX d k) left f) cm 120 left),ah 0])/\w.grownBy w' none:=by
 have b0:=ok.kinds;have ae:w.grownBy (w.alloc (.cells (dv d p) 25)) none:=bT;have bS:=al (Ab (A:=A) d ok p _ (h.keep ae));have V:=al ae;have H:=al h;clear ae h;have bU:=al λ(T:Nat) (w3:World) (o:(w.alloc (.cells (dv d p) 25)).heap.size<=T) (i:w3.heap[T]?=some (.cells (nD d p) 100)) (D:(w.alloc (.cells (dv d p) 25)).grownBy w3 none)=>
  have x:=sO ok (H.out.keep V.out) o i D;And.intro x (rk (A:=A) ok x.2.2.1 x.2.1 I)
 have bR:=al (v' (A:=A));have bM:=al λ(w:World) (b c:Nat) i=>HH (A:=A) w k (d.kinds-1) 0 left 119 2 cm 999 3 U U U b c i
 have b4:decide (d.first k>(cm:Int))=false:=cH;obtain⟨g,M⟩:∃g:Nat->Int,g=λf=>ha (d.first k) (cX d k) left f:=⟨_,rfl⟩
 have bP:=al M;have bv:=al λ(T B h:Nat) (R:World) (i:p.below d B) (o:T<B) (Q:pA A (gp d p T B) T k (cX d k)) (bE:h<120) (j:gp d p T B R)=>
  show Calls (ao A) 47 #[.pointer (some ⟨T,0,none⟩),ah k,.agg #[ah left,ah h]] R λe w'=>e=.returned (ah (g h))/\gp d p T B w'/\R.grownBy w' (some T) by have:=si (F:=A) (pg ok i o) (k:=k) I U (bj:=cX d k) (λday=>by have:=ql ok I day;omega) Q left h bH bE R j;rw[pT I]at this;rw[M];exact this
 rw[<-M];clear M;go_enter (S.f Tryz.func26),Tryz.ntmps26;go_wp2;obtain⟨Y,bA⟩:∃Y:Act->World->Prop,Y=λL w'=>∃(T B h:Nat) (aM aY a9 bm br bs ai aj ak am ap aq ar au av rF ti u6 aw ax ay az aA aB aC aD aE aF aG aH aI aJ aK aL aN aO aP aQ aR aS aT aV aW aX aZ a0 a1 a2 a3 a4 a5 a6 a7 a8 ba bb bc bd bf bg bh bi bk bl bn bo bp bq:Value),L={tmps:=#[.agg (dv d p),ah k,ah left,ah cm,aM,aY,a9,bm,br,bs,.pointer (some ⟨T,0,none⟩),ai,aj,ah h,ak,am,ap,aq,ar,au,av,rF,ti,u6,aw,ax,ay,az,aA,aB,aC,aD,aE,aF,aG,aH,aI,aJ,aK,aL,aN,aO,aP,aQ,aR,aS,aT,aV,aW,aX,aZ,a0,a1,a2,a3,a4,a5,a6,a7,a8,ba,bb,bc,bd,bf,bg,bh,bi,bk,bl,bn,bo,bp,bq],defers:=[]}/\(gp d p T B w'/\p.below d B/\T<B/\pA A (gp d p T B) T k (cX d k))/\(w.grownBy w' none/\w.heap.size<=T)/\h<120/\∃n,120<=n+h/\l' g cm n h=l' g cm 120 left:=⟨_,rfl⟩
 obtain⟨bt,bI⟩:∃bt:Act->World->Nat,bt=λL _=>120-(intOf (L.tmps.getD 13 undef)).toNat:=⟨_,rfl⟩
 have X:=al bA;have bW:=al bI;clear bA bI;refine wp_scope_jumps 0 Y bt rfl ?_ ?_
 .go_wp2_with (first|(go_at_call 39;refine bS.out.mono ?_;rintro e w3 ⟨T,rfl,o,i,D⟩;have t0:w3.cell? ⟨T,0,none⟩=some (ah d.kinds):=(aU i).trans rfl;have l:=al (bU.out T w3 o i D);have bN:=al D;have bV:=al o;clear i D o)|(go_at_call 41;refine(bM.out _ _ _ (fM _ _)).mono ?_;rintro e b6 ⟨rfl,bB⟩;have bO:=al bB;clear bB)|(go_at_call 40;refine(bR.out _).mono ?_;rintro e b7 ⟨rfl,bC⟩;clear t0;have af:=((dU w3 _ _).trans bO.out).trans bC;have K:=l.out.1.1.more ok l.out.1.2.2.1 l.out.1.2.2.2 af;have t1:=K.k5;have t2:=K.tf.first k I;have bX:=al K;have bK:=al af;clear K af bC)|(go_at_call 42;refine(l.out.2 _ bX.out).mono ?_;rintro e bY ⟨rfl,bG,bD⟩;clear t1 t2;have Z:=al bG;have bL:=al bD;clear bG bD))
  rw[J2 (A:=A) (cX d k)];simp only[Result.andThen_ok];have u:w.heap.size<=T:=by have:=bV.out;have e:=V.out.size;omega
  have bz:w.grownBy bY none:=kH (V.out.trans (bN.out.trans bK.out)) bL.out u;have ad:=al u;have J:=al bz;clear u bz;cases z:(cX d k 0 == 0 && (cX d k 1 == 0 && (cX d k 2 == 0 && (cX d k 3 == 0 && cX d k 4 == 0))))
  case true=>
   go_wp2;simp only[Exit.jump];go_ret2
   refine⟨?_,J.out⟩;rw[RI g cm _ 120 left U bH]
   .rfl
   .intro f b2
    simp only[Bool.and_eq_true,beq_iff_eq]at z;rw[bP.out];show d.first k+ks (cX d k) (left / 24+1) (f / 24-left / 24)<=_
    rw[QJ (λdd b1=>?_) _ _ U]
    .omega
    .rcases dd with _|_|_|_|_|dd
     .exact z.1
     .exact z.2.1
     .exact z.2.2.1
     .exact z.2.2.2.1
     .exact z.2.2.2.2
     .omega
  case false=>
   go_wp2;go_step3
   by_cases r:left+1<120
   .have hd:decide ((left:Int)+1<120)=true:=cH
    go_wp2_with (first|(go_at_call 47;refine(bv.out _ _ (left+1) _ l.out.1.2.2.1 l.out.1.2.2.2 l.out.2 r Z.out).mono ?_;rintro e bZ ⟨rfl,G,E⟩;have aa:=al G;have C:=al E;clear G E)|(go_at_call 48;refine(oT _ _).mono ?_;rintro e w' ⟨rfl,rfl⟩))
    .go_step3
     simp only[Exit.then,Exit.jump];refine⟨trivial,?_⟩;rw[X.out];exact⟨T,_,left+1,_,_,_,_,_,_,_,_,_,_,_,_,_,_,_,_,_,_,_,_,_,_,_,_,_,_,_,_,_,_,_,_,_,_,_,_,_,_,_,_,_,_,_,_,_,_,_,_,_,_,_,_,_,_,_,_,_,_,_,_,_,_,_,_,_,_,_,_,rfl,⟨aa.out,l.out.1.2.2.1,l.out.1.2.2.2,l.out.2⟩,⟨kH J.out C.out ad.out,ad.out⟩,r,119,U,(GO r (by assumption)).symm⟩
    .simp only[Exit.jump]
     go_ret2
     refine⟨?_,kH J.out C.out ad.out⟩;rw[x9 (g:=g) (cm:=cm) (n:=120) (h:=left) (λx=>by have:=x.2;omega)];rfl
   .have hd:decide ((left:Int)+1<120)=false:=cH
    go_wp2;simp only[Exit.jump];go_ret2
    refine⟨?_,J.out⟩;rw[x9 (g:=g) (cm:=cm) (n:=120) (h:=left) (λx=>r x.1)];rfl
 .intro L w' bF
  rw[X.out]at bF;obtain⟨T,B,h,aM,aY,a9,bm,br,bs,ai,aj,ak,am,ap,aq,ar,au,av,rF,ti,u6,aw,ax,ay,az,aA,aB,aC,aD,aE,aF,aG,aH,aI,aJ,aK,aL,aN,aO,aP,aQ,aR,aS,aT,aV,aW,aX,aZ,a0,a1,a2,a3,a4,a5,a6,a7,a8,ba,bb,bc,bd,bf,bg,bh,bi,bk,bl,bn,bo,bp,bq,rfl,⟨bJ,i,o,Q⟩,⟨bx,u⟩,bE,n,b5,hgo⟩:=bF;obtain⟨dx,ag⟩:∃dx,bt {tmps:=#[.agg (dv d p),ah k,ah left,ah cm,aM,aY,a9,bm,br,bs,.pointer (some ⟨T,0,none⟩),ai,aj,ah h,ak,am,ap,aq,ar,au,av,rF,ti,u6,aw,ax,ay,az,aA,aB,aC,aD,aE,aF,aG,aH,aI,aJ,aK,aL,aN,aO,aP,aQ,aR,aS,aT,aV,aW,aX,aZ,a0,a1,a2,a3,a4,a5,a6,a7,a8,ba,bb,bc,bd,bf,bg,bh,bi,bk,bl,bn,bo,bp,bq],defers:=[]} w'=dx:=⟨_,rfl⟩
  have bQ:=al ag;rw[ag];clear ag;have Z:=al bJ;have bu:=al i;have bw:=al Q;have GW:=al bx;have W:=al hgo;clear bJ i Q bx hgo;by_cases r:h+1<120
  .have hd:decide ((h:Int)+1<120)=true:=cH
   go_wp2_with (first|(go_at_call 47;refine(bv.out _ _ (h+1) _ bu.out o bw.out r Z.out).mono ?_;rintro e bZ ⟨rfl,G,E⟩;have aa:=al G;have C:=al E;clear G E)|(go_at_call 48;refine(oT _ _).mono ?_;rintro e w' ⟨rfl,rfl⟩))
   .go_step3
    simp only[Exit.then,Exit.jump];refine⟨rfl,?_,?_⟩
    .rw[X.out]
     obtain⟨n,rfl⟩:∃q,n=q+1:=⟨n-1,U⟩
     exact⟨T,_,h+1,_,_,_,_,_,_,_,_,_,_,_,_,_,_,_,_,_,_,_,_,_,_,_,_,_,_,_,_,_,_,_,_,_,_,_,_,_,_,_,_,_,_,_,_,_,_,_,_,_,_,_,_,_,_,_,_,_,_,_,_,_,_,_,_,_,_,_,_,rfl,⟨aa.out,bu.out,o,bw.out⟩,⟨kH GW.out C.out u,u⟩,r,n,U,by rw[<-W.out];exact(GO r (by assumption)).symm⟩
    .rw[<-bQ.out,bW.out]
     simp[intOf];omega
   .simp only[Exit.jump]
    go_ret2
    refine⟨?_,kH GW.out C.out u⟩;rw[<-W.out,x9 (g:=g) (cm:=cm) (n:=n) (h:=h) (λx=>by have:=x.2;omega)];rfl
  .have hd:decide ((h:Int)+1<120)=false:=cH
   go_wp2;simp only[Exit.jump];go_ret2
   refine⟨?_,GW.out⟩;rw[<-W.out,x9 (g:=g) (cm:=cm) (n:=n) (h:=h) (λx=>r x.1)];rfl
end
end Go.aO
