/- Part 23 of a law on fees: no conditions. -/
import Derived.Test.YtalhadgndijcmaaGreatDoorP21
import Derived.WalkMore
import Derived.ScopeJumps
import Derived.ChangeKeysEq
set_option maxHeartbeats 8000000
set_option maxRecDepth 100000
set_option linter.all false
namespace Go.aN
open Go.Proofs Go.RowKit
section
variable{A:Array Func}
def kO(g:Nat->Int)(b9:Int): Nat->Nat->Nat
 | 0,h=>h
 | n+1,h=>if h+1<120/\g (h+1)<=b9 then kO g b9 n (h+1) else h
theorem Ez[S:Std A](w:World)(cH b8 f0 d j f1 f l f2:Int)(m:0<=cH/\cH<=b8)(n:0<=d/\d<=j)(o:0<=f/\f<=l)(b c:Nat)(g:w.heap[b]?=some (.cells #[.int .i64 cH,.int .i64 b8,.int .i64 f0,.int .i64 d,.int .i64 j,.int .i64 f1,.int .i64 f,.int .i64 l,.int .i64 f2] 109)):
 Calls (ag A) 50 #[.slice (some ⟨b,0,none⟩) 3 c] w λe w'=>e=.returned .nilIface/\w.grownBy w' none:=by
 refine tz b 0 3 c (by omega) w (λi=>match i with|0=>cH|1=>d|_=>f) (λi=>match i with|0=>b8|1=>j|_=>l) (λi=>match i with|0=>f0|1=>f1|_=>f2) (λi h=>?_) (λi h=>?_) (λi h=>?_) (λi h=>?_)
 . rw[aT g];rcases i with _|_|_|i<;>first|rfl|omega
 . rw[aT g];rcases i with _|_|_|i<;>first|rfl|omega
 . rw[aT g];rcases i with _|_|_|i<;>first|rfl|omega
 . rcases i with _|_|_|i
   . exact m
   . exact n
   . exact o
   . omega
theorem DL{g:Nat->Int}{b9:Int}{n h:Nat}(c:h+1<120)(d:g (h+1)<=b9): kO g b9 (n+1) h=kO g b9 n (h+1):=by rw[kO,if_pos ⟨c,d⟩]
theorem vx{g:Nat->Int}{b9:Int}{n h:Nat}(c:¬ (h+1<120/\g (h+1)<=b9)): kO g b9 n h=h:=by
 cases n with
 | zero=>rfl
 | succ n=>rw[kO,if_neg c]
theorem Oi(g:Nat->Int)(b9:Int)(c:∀f,f<120->g f<=b9): ∀n h,120<=n+h->h<120->kO g b9 n h=119:=by
 intro n;induction n with
 | zero=>intro h a b;rw[kO];omega
 | succ n d=>
  intro h a b;rw[kO];by_cases e:h+1<120
  . rw[if_pos ⟨e,c _ e⟩]
    exact d _ (by omega) e
  . rw[if_neg (λx=>e x.1)]
    omega
theorem Nj{ba:Nat->Int}(c:∀d,d<5->ba d=0)(a n:Nat)(h:a+n<=5): jb ba a n=0:=by
 induction n with
 | zero=>rfl
 | succ n f=>rw[jb,f (by omega),c _ (by omega)];rfl
theorem fh.more{d:cR}(ok:d.ok){p:dU}{T B:Nat}{w w':World}(j:fh d p T B w)(f:p.below d B)(c:T<B)(g:w.grownBy w' none): fh d p T B w':=
 (nx ok f c).keep _ _ _ j g (λb e=>by cases e)
theorem fh.mn{d:cR}{p:dU}{T B:Nat}{w:World}(j:fh d p T B w): w.cell? ⟨T,1,none⟩=some (.slice (some ⟨p.gv,p.hj,none⟩) d.kinds p.eT):=by obtain⟨aU,e⟩:=j.st;rw[aT e];rfl
theorem Ff:(ag A).cellsOf 3=1:=by kernel_rfl
theorem HY:∃i,(ag A).info? 3=some i:=⟨_,rfl⟩
theorem GH(t:Nat->Int)(w:World): (Op.equalIn 10000 103 (.agg #[.int .i64 (t 0),.int .i64 (t 1),.int .i64 (t 2),.int .i64 (t 3),.int .i64 (t 4)]) (.agg #[.int .i64 0,.int .i64 0,.int .i64 0,.int .i64 0,.int .i64 0])).run (ag A) w=.ok (t 0 == 0 && (t 1 == 0 && (t 2 == 0 && (t 3 == 0 && t 4 == 0)))) w:=by
 obtain⟨i,l⟩:=HY (A:=A);rw[run_equalIn_array w 9999 _ _ (ag.underlying103 A) l,Ff];have e:∀a b:Int,(Op.equalIn 9999 3 (.int .i64 a) (.int .i64 b)).run (ag A) w=.ok (a == b) w:=λa b=>run_equalIn_int w 9998 3 .i64 .i64 a b (ag.underlying3 A)
 have m:List.range 5 = [0,1,2,3,4]:=rfl;rw[m];have j:=ag.underlying3 A;have pt:∀(v0 v1 v2 v3 v4:Value),((part 3 #[v0,v1,v2,v3,v4] (0*1)).run (ag A) w=.ok v0 w/\(part 3 #[v0,v1,v2,v3,v4] (1*1)).run (ag A) w=.ok v1 w/\(part 3 #[v0,v1,v2,v3,v4] (2*1)).run (ag A) w=.ok v2 w)/\(part 3 #[v0,v1,v2,v3,v4] (3*1)).run (ag A) w=.ok v3 w/\(part 3 #[v0,v1,v2,v3,v4] (4*1)).run (ag A) w=.ok v4 w:=λv0 v1 v2 v3 v4=>by simp[part,isAgg,run_underlying j]
 simp only[Op.eqItems,Sem.run_bind,Sem.run_ite,Sem.run_pure,Result.andThen_ok,(pt _ _ _ _ _).1.1,(pt _ _ _ _ _).1.2.1,(pt _ _ _ _ _).1.2.2,(pt _ _ _ _ _).2.1,(pt _ _ _ _ _).2.2,e];generalize (t 0 == 0)=c;generalize (t 1 == 0)=d;generalize (t 2 == 0)=f;generalize (t 3 == 0)=g;generalize (t 4 == 0)=h;cases c<;>cases d<;>cases f<;>cases g<;>cases h<;>rfl
theorem Oj[S:Std A][P:gg A](d:cR)(ok:d.ok)(p:dU)(k:Nat)(E:k<d.kinds)(left:Nat)(bE:left<120)(b9:Nat)(b2:b9<=999)(bZ:d.first k<=b9)(w:World)(h:fy w d p):
 Calls (ag A) 21 #[.agg (cO d p),.int .i64 k,.int .i64 left,.int .i64 b9] w λe w'=>e=.returned (.tuple #[.int .i64 (kO (λf=>fP (d.first k) (cC d k) left f) b9 120 left),.int .i64 0])/\w.grownBy w' none:=by
 have bW:=ok.kinds;have Z:w.grownBy (w.alloc (.cells (cO d p) 25)) none:=Pn;have bP:=Pj (xS (A:=A) d ok p _ (h.keep Z));have Q:=Pj Z;have H:=Pj h;clear Z h;have bQ:=Pj λ(T:Nat) (w3:World) (m:(w.alloc (.cells (cO d p) 25)).heap.size<=T) (i:w3.heap[T]?=some (.cells (l4 d p) 106)) (z:(w.alloc (.cells (cO d p) 25)).grownBy w3 none)=>
  have x:=qP ok (H.out.keep Q.out) m i z;And.intro x (pD (A:=A) ok x.2.2.1 x.2.1 E)
 have bO:=Pj (tV (A:=A));have bJ:=Pj λ(w:World) (b c:Nat) i=>Ez (A:=A) w k (d.kinds-1) 0 left 119 2 b9 999 3 (by omega) (by omega) (by omega) b c i
 have b0:decide (d.first k>(b9:Int))=false:=by simp;omega
 obtain⟨g,K⟩ : ∃g:Nat->Int,g=λf=>fP (d.first k) (cC d k) left f:=⟨_,rfl⟩
 have bM:=Pj K;have bs:=Pj λ(T B h:Nat) (M:World) (i:p.below d B) (m:T<B) (L:nJ A (fh d p T B) T k (cC d k)) (bB:h<120) (j:fh d p T B M)=>
  show Calls (ag A) 52 #[.pointer (some ⟨T,0,none⟩),.int .i64 k,.agg #[.int .i64 left,.int .i64 h]] M λe w'=>e=.returned (.int .i64 (g h))/\fh d p T B w'/\M.grownBy w' (some T) by have:=qs (F:=A) (nx ok i m) (k:=k) E (by omega) (ba:=cC d k) (λday=>by have:=oD ok E day;omega) L left h bE bB M j;rw[n0 E] at this;rw[K];exact this
 rw[<-K];clear K;go_enter (S.f Tryz.func21),Tryz.ntmps21;go_wp2;obtain⟨V,bw⟩ : ∃V:Act->World->Prop,V=λJ w'=>∃(T B h:Nat) (aJ aV a6 bj bp bq ae af ah ai aj ak al am ao pQ ap aq ar au av aw ax ay az aA aB aC aD aE aF aG aH aI aK aL aM aN aO aP aQ aR aS aU aW aX aY aZ a0 a1 a2 a3 a4 a5 a7 a8 a9 bb bc bd bf bg bh bi bk bm bn bo:Value),J={tmps:=#[.agg (cO d p),.int .i64 k,.int .i64 left,.int .i64 b9,aJ,aV,a6,bj,bp,bq,.pointer (some ⟨T,0,none⟩),ae,af,.int .i64 h,ah,ai,aj,ak,al,am,ao,pQ,ap,aq,ar,au,av,aw,ax,ay,az,aA,aB,aC,aD,aE,aF,aG,aH,aI,aK,aL,aM,aN,aO,aP,aQ,aR,aS,aU,aW,aX,aY,aZ,a0,a1,a2,a3,a4,a5,a7,a8,a9,bb,bc,bd,bf,bg,bh,bi,bk,bm,bn,bo],defers:=[]}/\(fh d p T B w'/\p.below d B/\T<B/\nJ A (fh d p T B) T k (cC d k))/\(w.grownBy w' none/\w.heap.size<=T)/\h<120/\∃n,120<=n+h/\kO g b9 n h=kO g b9 120 left:=⟨_,rfl⟩
 obtain⟨bl,bF⟩ : ∃bl:Act->World->Nat,bl=λJ _=>120-(intOf (J.tmps.getD 13 undef)).toNat:=⟨_,rfl⟩
 have U:=Pj bw;have bS:=Pj bF;clear bw bF;refine wp_scope_jumps 0 V bl rfl ?_ ?_
 . go_wp2_with (first|(go_at_call 48;refine bP.out.mono ?_;rintro e w3 ⟨T,rfl,m,i,z⟩;have t0:w3.cell? ⟨T,0,none⟩=some (.int .i64 d.kinds):=(aT i).trans rfl;have l:=Pj (bQ.out T w3 m i z);have bK:=Pj z;have bR:=Pj m;clear i z m)|(go_at_call 50;refine(bJ.out _ _ _ (gA _ _)).mono ?_;rintro e b3 ⟨rfl,bx⟩;have bL:=Pj bx;clear bx)|(go_at_call 49;refine(bO.out _).mono ?_;rintro e b4 ⟨rfl,bz⟩;clear t0;have aa:=((Pv w3 _ _).trans bL.out).trans bz;have I:=l.out.1.1.more ok l.out.1.2.2.1 l.out.1.2.2.2 aa;have t1:=I.mn;have t2:=I.sV.first k E;have bT:=Pj I;have bH:=Pj aa;clear I aa bz)|(go_at_call 51;refine(l.out.2 _ bT.out).mono ?_;rintro e bU ⟨rfl,bD,bA⟩;clear t1 t2;have W:=Pj bD;have bI:=Pj bA;clear bD bA))
   rw[GH (A:=A) (cC d k)];simp only[Result.andThen_ok];have r:w.heap.size<=T:=by have:=bR.out;have e:=Q.out.size;omega
   have bv:w.grownBy bU none:=jq (Q.out.trans (bK.out.trans bH.out)) bI.out r;have Y:=Pj r;have G:=Pj bv;clear r bv;cases u:(cC d k 0 == 0 && (cC d k 1 == 0 && (cC d k 2 == 0 && (cC d k 3 == 0 && cC d k 4 == 0))))
   case true=>
    go_wp2;simp only[Exit.jump];go_ret2
    refine⟨?_,G.out⟩;rw[Oi g b9 _ 120 left (by omega) bE]
    . rfl
    . intro f bY
      simp only[Bool.and_eq_true,beq_iff_eq] at u;rw[bM.out];show d.first k+jb (cC d k) (left / 24+1) (f / 24-left / 24)<=_
      rw[Nj (λdd bX=>?_) _ _ (by omega)]
      . omega
      . rcases dd with _|_|_|_|_|dd
        . exact u.1
        . exact u.2.1
        . exact u.2.2.1
        . exact u.2.2.2.1
        . exact u.2.2.2.2
        . omega
   case false=>
    go_wp2;go_step3
    by_cases o:left+1<120
    . have hd:decide ((left:Int)+1<120)=true:=by simp;omega
      go_wp2_with (first|(go_at_call 52;refine(bs.out _ _ (left+1) _ l.out.1.2.2.1 l.out.1.2.2.2 l.out.2 o W.out).mono ?_;rintro e bV ⟨rfl,D,C⟩;have X:=Pj D;have y:=Pj C;clear D C)|(go_at_call 53;refine(m' _ _).mono ?_;rintro e w' ⟨rfl,rfl⟩))
      . go_step3
        simp only[Exit.then,Exit.jump];refine⟨trivial,?_⟩;rw[U.out];exact⟨T,_,left+1,_,_,_,_,_,_,_,_,_,_,_,_,_,_,_,_,_,_,_,_,_,_,_,_,_,_,_,_,_,_,_,_,_,_,_,_,_,_,_,_,_,_,_,_,_,_,_,_,_,_,_,_,_,_,_,_,_,_,_,_,_,_,_,_,_,_,_,_,rfl,⟨X.out,l.out.1.2.2.1,l.out.1.2.2.2,l.out.2⟩,⟨jq G.out y.out Y.out,Y.out⟩,o,119,by omega,(DL o (by assumption)).symm⟩
      . simp only[Exit.jump]
        go_ret2
        refine⟨?_,jq G.out y.out Y.out⟩;rw[vx (g:=g) (b9:=b9) (n:=120) (h:=left) (λx=>by have:=x.2;omega)];rfl
    . have hd:decide ((left:Int)+1<120)=false:=by simp;omega
      go_wp2;simp only[Exit.jump];go_ret2
      refine⟨?_,G.out⟩;rw[vx (g:=g) (b9:=b9) (n:=120) (h:=left) (λx=>o x.1)];rfl
 . intro J w' bC
   rw[U.out] at bC;obtain⟨T,B,h,aJ,aV,a6,bj,bp,bq,ae,af,ah,ai,aj,ak,al,am,ao,pQ,ap,aq,ar,au,av,aw,ax,ay,az,aA,aB,aC,aD,aE,aF,aG,aH,aI,aK,aL,aM,aN,aO,aP,aQ,aR,aS,aU,aW,aX,aY,aZ,a0,a1,a2,a3,a4,a5,a7,a8,a9,bb,bc,bd,bf,bg,bh,bi,bk,bm,bn,bo,rfl,⟨bG,i,m,L⟩,⟨bu,r⟩,bB,n,b1,hgo⟩:=bC;obtain⟨b8,ad⟩ : ∃b8,bl {tmps:=#[.agg (cO d p),.int .i64 k,.int .i64 left,.int .i64 b9,aJ,aV,a6,bj,bp,bq,.pointer (some ⟨T,0,none⟩),ae,af,.int .i64 h,ah,ai,aj,ak,al,am,ao,pQ,ap,aq,ar,au,av,aw,ax,ay,az,aA,aB,aC,aD,aE,aF,aG,aH,aI,aK,aL,aM,aN,aO,aP,aQ,aR,aS,aU,aW,aX,aY,aZ,a0,a1,a2,a3,a4,a5,a7,a8,a9,bb,bc,bd,bf,bg,bh,bi,bk,bm,bn,bo],defers:=[]} w'=b8:=⟨_,rfl⟩
   have bN:=Pj ad;rw[ad];clear ad;have W:=Pj bG;have br:=Pj i;have bt:=Pj L;have GW:=Pj bu;have R:=Pj hgo;clear bG i L bu hgo;by_cases o:h+1<120
   . have hd:decide ((h:Int)+1<120)=true:=by simp;omega
     go_wp2_with (first|(go_at_call 52;refine(bs.out _ _ (h+1) _ br.out m bt.out o W.out).mono ?_;rintro e bV ⟨rfl,D,C⟩;have X:=Pj D;have y:=Pj C;clear D C)|(go_at_call 53;refine(m' _ _).mono ?_;rintro e w' ⟨rfl,rfl⟩))
     . go_step3
       simp only[Exit.then,Exit.jump];refine⟨rfl,?_,?_⟩
       . rw[U.out]
         obtain⟨n,rfl⟩ : ∃q,n=q+1:=⟨n-1,by omega⟩
         exact⟨T,_,h+1,_,_,_,_,_,_,_,_,_,_,_,_,_,_,_,_,_,_,_,_,_,_,_,_,_,_,_,_,_,_,_,_,_,_,_,_,_,_,_,_,_,_,_,_,_,_,_,_,_,_,_,_,_,_,_,_,_,_,_,_,_,_,_,_,_,_,_,_,rfl,⟨X.out,br.out,m,bt.out⟩,⟨jq GW.out y.out r,r⟩,o,n,by omega,by rw[<-R.out];exact(DL o (by assumption)).symm⟩
       . rw[<-bN.out,bS.out]
         simp[intOf];omega
     . simp only[Exit.jump]
       go_ret2
       refine⟨?_,jq GW.out y.out r⟩;rw[<-R.out,vx (g:=g) (b9:=b9) (n:=n) (h:=h) (λx=>by have:=x.2;omega)];rfl
   . have hd:decide ((h:Int)+1<120)=false:=by simp;omega
     go_wp2;simp only[Exit.jump];go_ret2
     refine⟨?_,GW.out⟩;rw[<-R.out,vx (g:=g) (b9:=b9) (n:=n) (h:=h) (λx=>o x.1)];rfl
end
end Go.aN
