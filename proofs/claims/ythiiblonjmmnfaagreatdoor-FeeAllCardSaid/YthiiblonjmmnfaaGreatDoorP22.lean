/- Part 23 of a law on fees: no conditions. -/
import Derived.Test.YthiiblonjmmnfaaGreatDoorP21
import Derived.WalkMore
import Derived.ScopeJumps
import Derived.ChangeKeysEq
set_option maxHeartbeats 8000000
set_option maxRecDepth 100000
set_option linter.all false
namespace Go.aN
open Go.Proofs Go.RowKit
section
variable{A:Array Func}
def kO(g:Nat->Int)(b9:Int):Nat->Nat->Nat
 | 0,h=>h
 |n+1,h=>if h+1<120/\g (h+1)<=b9 then kO g b9 n (h+1)else h
def Ez[S:Std A](w:World)(cH b8 f0 d j f1 f l f2:Int)(o:0<=cH/\cH<=b8)(p:0<=d/\d<=j)(q:0<=f/\f<=l)(b c:Nat)(g:w.heap[b]?=some (.cells #[.int .i64 cH,.int .i64 b8,.int .i64 f0,.int .i64 d,.int .i64 j,.int .i64 f1,.int .i64 f,.int .i64 l,.int .i64 f2] 108)):
 Calls (ag A) 35 #[.slice (some ⟨b,0,none⟩) 3 c] w λe w'=>e=.returned .nilIface/\w.grownBy w' none:=by
 refine tz b 0 3 c (by omega) w (λi=>match i with|0=>cH|1=>d|_=>f) (λi=>match i with|0=>b8|1=>j|_=>l) (λi=>match i with|0=>f0|1=>f1|_=>f2) (λi h=>?_) (λi h=>?_) (λi h=>?_) (λi h=>?_)
 .rw[aT g];rcases i with _|_|_|i<;>first|rfl|omega
 .rw[aT g];rcases i with _|_|_|i<;>first|rfl|omega
 .rw[aT g];rcases i with _|_|_|i<;>first|rfl|omega
 .rcases i with _|_|_|i
  .exact o
  .exact p
  .exact q
  .omega
def DL{g:Nat->Int}{b9:Int}{n h:Nat}(c:h+1<120)(d:g (h+1)<=b9):kO g b9 (n+1) h=kO g b9 n (h+1):=by rw[kO,if_pos ⟨c,d⟩]
def vx{g:Nat->Int}{b9:Int}{n h:Nat}(c:¬(h+1<120/\g (h+1)<=b9)):kO g b9 n h=h:=by
 cases n with
 |zero=>rfl
 |succ n=>rw[kO,if_neg c]
def Oi(g:Nat->Int)(b9:Int)(c:∀f,f<120->g f<=b9):∀n h,120<=n+h->h<120->kO g b9 n h=119:=by
 intro n;induction n with
 |zero=>intro h a b;rw[kO];omega
 |succ n d=>
  intro h a b;rw[kO];by_cases e:h+1<120
  .rw[if_pos ⟨e,c _ e⟩]
   exact d _ (by omega) e
  .rw[if_neg (λx=>e x.1)]
   omega
def Nj{ba:Nat->Int}(c:∀d,d<5->ba d=0)(a n:Nat)(h:a+n<=5):jb ba a n=0:=by
 induction n with
 |zero=>rfl
 |succ n f=>rw[jb,f (by omega),c _ (by omega)];rfl
def fh.more{d:cR}(ok:d.ok){p:dU}{T B:Nat}{w w':World}(j:fh d p T B w)(f:p.below d B)(c:T<B)(g:w.grownBy w' none):fh d p T B w':=
 (nx ok f c).keep _ _ _ j g (λb e=>by cases e)
def fh.mn{d:cR}{p:dU}{T B:Nat}{w:World}(j:fh d p T B w):w.cell? ⟨T,1,none⟩=some (.slice (some ⟨p.gv,p.hj,none⟩) d.kinds p.eT):=by obtain⟨aU,e⟩:=j.st;rw[aT e];rfl
def Ff:(ag A).cellsOf 3=1:=by kernel_rfl
def HY:∃i,(ag A).info? 3=some i:=⟨_,rfl⟩
def GH(t:Nat->Int)(w:World):(Op.equalIn 10000 102 (.agg #[.int .i64 (t 0),.int .i64 (t 1),.int .i64 (t 2),.int .i64 (t 3),.int .i64 (t 4)]) (.agg #[.int .i64 0,.int .i64 0,.int .i64 0,.int .i64 0,.int .i64 0])).run (ag A) w=.ok (t 0 == 0 && (t 1 == 0 && (t 2 == 0 && (t 3 == 0 && t 4 == 0)))) w:=by
 obtain⟨i,l⟩:=HY (A:=A);rw[run_equalIn_array w 9999 _ _ (ag.underlying103 A) l,Ff];have e:∀a b:Int,(Op.equalIn 9999 3 (.int .i64 a) (.int .i64 b)).run (ag A) w=.ok (a == b) w:=λa b=>run_equalIn_int w 9998 3 .i64 .i64 a b (ag.underlying3 A)
 have o:List.range 5 = [0,1,2,3,4]:=rfl;rw[o];have j:=ag.underlying3 A;have pt:∀(v0 v1 v2 v3 v4:Value),((part 3 #[v0,v1,v2,v3,v4] (0*1)).run (ag A) w=.ok v0 w/\(part 3 #[v0,v1,v2,v3,v4] (1*1)).run (ag A) w=.ok v1 w/\(part 3 #[v0,v1,v2,v3,v4] (2*1)).run (ag A) w=.ok v2 w)/\(part 3 #[v0,v1,v2,v3,v4] (3*1)).run (ag A) w=.ok v3 w/\(part 3 #[v0,v1,v2,v3,v4] (4*1)).run (ag A) w=.ok v4 w:=λv0 v1 v2 v3 v4=>by simp[part,isAgg,run_underlying j]
 simp only[Op.eqItems,Sem.run_bind,Sem.run_ite,Sem.run_pure,Result.andThen_ok,(pt _ _ _ _ _).1.1,(pt _ _ _ _ _).1.2.1,(pt _ _ _ _ _).1.2.2,(pt _ _ _ _ _).2.1,(pt _ _ _ _ _).2.2,e];generalize (t 0 == 0)=c;generalize (t 1 == 0)=d;generalize (t 2 == 0)=f;generalize (t 3 == 0)=g;generalize (t 4 == 0)=h;cases c<;>cases d<;>cases f<;>cases g<;>cases h<;>rfl
def Oj[S:Std A][P:gg A](d:cR)(ok:d.ok)(p:dU)(k:Nat)(I:k<d.kinds)(left:Nat)(bG:left<120)(b9:Nat)(b4:b9<=999)(b1:d.first k<=b9)(w:World)(h:fy w d p):
 Calls (ag A) 30 #[.agg (cO d p),.int .i64 k,.int .i64 left,.int .i64 b9] w λe w'=>e=.returned (.tuple #[.int .i64 (kO (λf=>fP (d.first k) (cC d k) left f) b9 120 left),.int .i64 0])/\w.grownBy w' none:=by
 have bY:=ok.kinds;have ad:w.grownBy (w.alloc (.cells (cO d p) 27)) none:=Pn;have bR:=Pj (xS (A:=A) d ok p _ (h.keep ad));have U:=Pj ad;have H:=Pj h;clear ad h;have bS:=Pj λ(T:Nat) (w3:World) (o:(w.alloc (.cells (cO d p) 27)).heap.size<=T) (i:w3.heap[T]?=some (.cells (l4 d p) 105)) (D:(w.alloc (.cells (cO d p) 27)).grownBy w3 none)=>
  have x:=qP ok (H.out.keep U.out) o i D;And.intro x (pD (A:=A) ok x.2.2.1 x.2.1 I)
 have bQ:=Pj (tV (A:=A));have bL:=Pj λ(w:World) (b c:Nat) i=>Ez (A:=A) w k (d.kinds-1) 0 left 119 2 b9 999 3 (by omega) (by omega) (by omega) b c i
 have b2:decide (d.first k>(b9:Int))=false:=by simp;omega
 obtain⟨g,M⟩:∃g:Nat->Int,g=λf=>fP (d.first k) (cC d k) left f:=⟨_,rfl⟩
 have bO:=Pj M;have bu:=Pj λ(T B h:Nat) (R:World) (i:p.below d B) (o:T<B) (Q:nJ A (fh d p T B) T k (cC d k)) (bD:h<120) (j:fh d p T B R)=>
  show Calls (ag A) 20 #[.pointer (some ⟨T,0,none⟩),.int .i64 k,.agg #[.int .i64 left,.int .i64 h]] R λe w'=>e=.returned (.int .i64 (g h))/\fh d p T B w'/\R.grownBy w' (some T) by have:=qs (F:=A) (nx ok i o) (k:=k) I (by omega) (ba:=cC d k) (λday=>by have:=oD ok I day;omega) Q left h bG bD R j;rw[n0 I]at this;rw[M];exact this
 rw[<-M];clear M;go_enter (S.f Tryz.func30),Tryz.ntmps30;go_wp2;obtain⟨X,bz⟩:∃X:Act->World->Prop,X=λL w'=>∃(T B h:Nat) (aL aX a8 bm br bs ah ai aj ak al am ao ap aq pQ ar au av aw ax ay az aA aB aC aD aE aF aG aH aI aJ aK aM aN aO aP aQ aR aS aU aV aW aY aZ a0 a1 a2 a3 a4 a5 a6 a7 a9 bb bc bd bf bg bh bi bj bk bn bo bp bq:Value),L={tmps:=#[.agg (cO d p),.int .i64 k,.int .i64 left,.int .i64 b9,aL,aX,a8,bm,br,bs,.pointer (some ⟨T,0,none⟩),ah,ai,.int .i64 h,aj,ak,al,am,ao,ap,aq,pQ,ar,au,av,aw,ax,ay,az,aA,aB,aC,aD,aE,aF,aG,aH,aI,aJ,aK,aM,aN,aO,aP,aQ,aR,aS,aU,aV,aW,aY,aZ,a0,a1,a2,a3,a4,a5,a6,a7,a9,bb,bc,bd,bf,bg,bh,bi,bj,bk,bn,bo,bp,bq],defers:=[]}/\(fh d p T B w'/\p.below d B/\T<B/\nJ A (fh d p T B) T k (cC d k))/\(w.grownBy w' none/\w.heap.size<=T)/\h<120/\∃n,120<=n+h/\kO g b9 n h=kO g b9 120 left:=⟨_,rfl⟩
 obtain⟨bl,bH⟩:∃bl:Act->World->Nat,bl=λL _=>120-(intOf (L.tmps.getD 13 undef)).toNat:=⟨_,rfl⟩
 have W:=Pj bz;have bU:=Pj bH;clear bz bH;refine wp_scope_jumps 0 X bl rfl ?_ ?_
 .go_wp2_with (first|(go_at_call 22;refine bR.out.mono ?_;rintro e w3 ⟨T,rfl,o,i,D⟩;have t0:w3.cell? ⟨T,0,none⟩=some (.int .i64 d.kinds):=(aT i).trans rfl;have l:=Pj (bS.out T w3 o i D);have bM:=Pj D;have bT:=Pj o;clear i D o)|(go_at_call 35;refine(bL.out _ _ _ (gA _ _)).mono ?_;rintro e b5 ⟨rfl,bA⟩;have bN:=Pj bA;clear bA)|(go_at_call 36;refine(bQ.out _).mono ?_;rintro e b6 ⟨rfl,bB⟩;clear t0;have ae:=((Pv w3 _ _).trans bN.out).trans bB;have K:=l.out.1.1.more ok l.out.1.2.2.1 l.out.1.2.2.2 ae;have t1:=K.mn;have t2:=K.sV.first k I;have bV:=Pj K;have bJ:=Pj ae;clear K ae bB)|(go_at_call 37;refine(l.out.2 _ bV.out).mono ?_;rintro e bW ⟨rfl,bF,bC⟩;clear t1 t2;have Y:=Pj bF;have bK:=Pj bC;clear bF bC))
  rw[GH (A:=A) (cC d k)];simp only[Result.andThen_ok];have u:w.heap.size<=T:=by have:=bT.out;have e:=U.out.size;omega
  have bx:w.grownBy bW none:=jq (U.out.trans (bM.out.trans bJ.out)) bK.out u;have aa:=Pj u;have J:=Pj bx;clear u bx;cases z:(cC d k 0 == 0 && (cC d k 1 == 0 && (cC d k 2 == 0 && (cC d k 3 == 0 && cC d k 4 == 0))))
  case true=>
   go_wp2;simp only[Exit.jump];go_ret2
   refine⟨?_,J.out⟩;rw[Oi g b9 _ 120 left (by omega) bG]
   .rfl
   .intro f b0
    simp only[Bool.and_eq_true,beq_iff_eq]at z;rw[bO.out];show d.first k+jb (cC d k) (left / 24+1) (f / 24-left / 24)<=_
    rw[Nj (λdd bZ=>?_) _ _ (by omega)]
    .omega
    .rcases dd with _|_|_|_|_|dd
     .exact z.1
     .exact z.2.1
     .exact z.2.2.1
     .exact z.2.2.2.1
     .exact z.2.2.2.2
     .omega
  case false=>
   go_wp2;go_step3
   by_cases r:left+1<120
   .have hd:decide ((left:Int)+1<120)=true:=by simp;omega
    go_wp2_with (first|(go_at_call 20;refine(bu.out _ _ (left+1) _ l.out.1.2.2.1 l.out.1.2.2.2 l.out.2 r Y.out).mono ?_;rintro e bX ⟨rfl,G,E⟩;have Z:=Pj G;have C:=Pj E;clear G E)|(go_at_call 21;refine(m' _ _).mono ?_;rintro e w' ⟨rfl,rfl⟩))
    .go_step3
     simp only[Exit.then,Exit.jump];refine⟨trivial,?_⟩;rw[W.out];exact⟨T,_,left+1,_,_,_,_,_,_,_,_,_,_,_,_,_,_,_,_,_,_,_,_,_,_,_,_,_,_,_,_,_,_,_,_,_,_,_,_,_,_,_,_,_,_,_,_,_,_,_,_,_,_,_,_,_,_,_,_,_,_,_,_,_,_,_,_,_,_,_,_,rfl,⟨Z.out,l.out.1.2.2.1,l.out.1.2.2.2,l.out.2⟩,⟨jq J.out C.out aa.out,aa.out⟩,r,119,by omega,(DL r (by assumption)).symm⟩
    .simp only[Exit.jump]
     go_ret2
     refine⟨?_,jq J.out C.out aa.out⟩;rw[vx (g:=g) (b9:=b9) (n:=120) (h:=left) (λx=>by have:=x.2;omega)];rfl
   .have hd:decide ((left:Int)+1<120)=false:=by simp;omega
    go_wp2;simp only[Exit.jump];go_ret2
    refine⟨?_,J.out⟩;rw[vx (g:=g) (b9:=b9) (n:=120) (h:=left) (λx=>r x.1)];rfl
 .intro L w' bE
  rw[W.out]at bE;obtain⟨T,B,h,aL,aX,a8,bm,br,bs,ah,ai,aj,ak,al,am,ao,ap,aq,pQ,ar,au,av,aw,ax,ay,az,aA,aB,aC,aD,aE,aF,aG,aH,aI,aJ,aK,aM,aN,aO,aP,aQ,aR,aS,aU,aV,aW,aY,aZ,a0,a1,a2,a3,a4,a5,a6,a7,a9,bb,bc,bd,bf,bg,bh,bi,bj,bk,bn,bo,bp,bq,rfl,⟨bI,i,o,Q⟩,⟨bw,u⟩,bD,n,b3,hgo⟩:=bE;obtain⟨b8,af⟩:∃b8,bl {tmps:=#[.agg (cO d p),.int .i64 k,.int .i64 left,.int .i64 b9,aL,aX,a8,bm,br,bs,.pointer (some ⟨T,0,none⟩),ah,ai,.int .i64 h,aj,ak,al,am,ao,ap,aq,pQ,ar,au,av,aw,ax,ay,az,aA,aB,aC,aD,aE,aF,aG,aH,aI,aJ,aK,aM,aN,aO,aP,aQ,aR,aS,aU,aV,aW,aY,aZ,a0,a1,a2,a3,a4,a5,a6,a7,a9,bb,bc,bd,bf,bg,bh,bi,bj,bk,bn,bo,bp,bq],defers:=[]} w'=b8:=⟨_,rfl⟩
  have bP:=Pj af;rw[af];clear af;have Y:=Pj bI;have bt:=Pj i;have bv:=Pj Q;have GW:=Pj bw;have V:=Pj hgo;clear bI i Q bw hgo;by_cases r:h+1<120
  .have hd:decide ((h:Int)+1<120)=true:=by simp;omega
   go_wp2_with (first|(go_at_call 20;refine(bu.out _ _ (h+1) _ bt.out o bv.out r Y.out).mono ?_;rintro e bX ⟨rfl,G,E⟩;have Z:=Pj G;have C:=Pj E;clear G E)|(go_at_call 21;refine(m' _ _).mono ?_;rintro e w' ⟨rfl,rfl⟩))
   .go_step3
    simp only[Exit.then,Exit.jump];refine⟨rfl,?_,?_⟩
    .rw[W.out]
     obtain⟨n,rfl⟩:∃q,n=q+1:=⟨n-1,by omega⟩
     exact⟨T,_,h+1,_,_,_,_,_,_,_,_,_,_,_,_,_,_,_,_,_,_,_,_,_,_,_,_,_,_,_,_,_,_,_,_,_,_,_,_,_,_,_,_,_,_,_,_,_,_,_,_,_,_,_,_,_,_,_,_,_,_,_,_,_,_,_,_,_,_,_,_,rfl,⟨Z.out,bt.out,o,bv.out⟩,⟨jq GW.out C.out u,u⟩,r,n,by omega,by rw[<-V.out];exact(DL r (by assumption)).symm⟩
    .rw[<-bP.out,bU.out]
     simp[intOf];omega
   .simp only[Exit.jump]
    go_ret2
    refine⟨?_,jq GW.out C.out u⟩;rw[<-V.out,vx (g:=g) (b9:=b9) (n:=n) (h:=h) (λx=>by have:=x.2;omega)];rfl
  .have hd:decide ((h:Int)+1<120)=false:=by simp;omega
   go_wp2;simp only[Exit.jump];go_ret2
   refine⟨?_,GW.out⟩;rw[<-V.out,vx (g:=g) (b9:=b9) (n:=n) (h:=h) (λx=>r x.1)];rfl
end
end Go.aN
