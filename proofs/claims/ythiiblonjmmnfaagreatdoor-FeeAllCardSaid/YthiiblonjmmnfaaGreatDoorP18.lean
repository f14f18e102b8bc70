/- Part 19 of a law on fees: no conditions. -/
import Derived.Test.YthiiblonjmmnfaaGreatDoorP17
import Derived.Shelf.RegionOpenPlain
import Derived.BigQuiet
import Derived.IntWalk
set_option maxHeartbeats 8000000
set_option maxRecDepth 100000
set_option linter.all false
namespace Go.aN
open Go.Proofs Go.RowKit
section
variable{A:Array Func}
structure cR where
 kinds:Nat
 first:Nat->Int
 eY:Nat
 dz:Nat->Int
 fD:Nat->Nat->Int
 fC:Nat
 free:Nat->Int
structure dU where
 gv:Nat
 hj:Nat
 eT:Nat
 j9:Nat
 lg:Nat
 h8:Nat
 im:Nat->Nat
 sy:Nat->Nat
 j':Nat->Nat
 hE:Option Addr
 h9:Nat
structure cR.ok(d:cR):Prop where
 kinds:1<=d.kinds/\d.kinds<=3
 first:∀k,k<d.kinds->0<=d.first k/\d.first k<=9
 eY:1<=d.eY/\d.eY<=3
 zero:d.dz 0=0
 dz:∀i,i<d.eY->0<=d.dz i/\d.dz i<=4
 rP:∀i,i+1<d.eY->d.dz i<d.dz (i+1)
 fD:∀i,i<d.eY->∀k,k<d.kinds->0<=d.fD i k/\d.fD i k<=9
 fC:d.fC<=5
 free:∀i,i<d.fC->0<=d.free i/\d.free i<=4
 Av:∀i,i+1<d.fC->d.free i<d.free (i+1)
abbrev cO(d:cR)(p:dU):Array Value:=#[.int .i64 d.kinds,.slice (some ⟨p.gv,p.hj,none⟩) d.kinds p.eT,.slice (some ⟨p.j9,p.lg,none⟩) d.eY p.h8,.slice p.hE d.fC p.h9]
structure fy(w:World)(d:cR)(p:dU):Prop where
 first:iD w p.gv p.hj d.kinds d.first
 dz:∀i,i<d.eY->w.cell? ⟨p.j9,p.lg+i*2,none⟩=some (.int .i64 (d.dz i))
 rows:∀i,i<d.eY->w.cell? ⟨p.j9,p.lg+i*2+1,none⟩=some (.slice (some ⟨p.im i,p.sy i,none⟩) d.kinds (p.j' i))
 fD:∀i,i<d.eY->iD w (p.im i) (p.sy i) d.kinds (d.fD i)
 free:d.fC≠0->∃b o,p.hE=some ⟨b,o,none⟩/\iD w b o d.fC d.free
def iD.keep{w w':World}{b o n:Nat}{f:Nat->Int}{row:Option Nat}(h:iD w b o n f)(g:w.grownBy w' row)(d:some b≠row):iD w' b o n f:=λk c=>g.cell (h k c) d
def fy.keep{w w':World}{d:cR}{p:dU}(h:fy w d p)(g:w.grownBy w' none):fy w' d p where
 first:=h.first.keep g (by simp)
 dz i c:=g.cell (h.dz i c) (by simp)
 rows i c:=g.cell (h.rows i c) (by simp)
 fD i c:=(h.fD i c).keep g (by simp)
 free f:=by obtain⟨b,o,e,k⟩:=h.free f;exact⟨b,o,e,k.keep g (by simp)⟩
def hM(w:World)(n:Nat):w.grownBy (w.drewN n) none:=⟨rfl,rfl,rfl,Pk,λ_ _ _=>rfl⟩
def wB[S:Std A](d:cR)(ok:d.ok)(p:dU)(w:World)(h:fy w d p):
 Calls (ag A) 39 #[.agg (cO d p)] w λe w'=>e=.returned (.int .i64 0)/\w.grownBy w' none:=by
 have q:=ok.kinds;have ae:=ok.eY;have af:=ok.fC;have M:decide ((1:Int)<=d.kinds/\(d.kinds:Int)<=3)=true:=by simp;omega
 have s1:l1 d.eY 1 3=0:=by simp[l1];omega
 have g:=Pj ok;have mixed:(ag A).follows .mixedOrders=true:=by kernel_rfl
 clear ok;have B:=Pv w (.cells (cO d p) 27) none;have D:=h.keep B;have hF:=D.first
 have eo:=Pj D;clear h D;have K:=Pj B;clear B;have L:=Pj hF;clear hF;go_enter (S.f Tryz.func39),Tryz.ntmps39;go_wp2_with (first|(go_at_call 53;refine(mH _ _ _ _).mono ?_;rintro e w' ⟨rfl,rfl⟩;rw[M])|(go_at_call 58;refine(x3 _ _ _ _ (by omega) d.first _ L.out (λk q=>g.out.first k q)).mono ?_;rintro e w' ⟨rfl,rfl⟩)|(go_at_call 59;refine(CC _ _ _ _).mono ?_;rintro e w' ⟨rfl,rfl⟩;rw[s1]))
 go_loopw [32] (λi wr=>∃k:Nat,k<=d.eY/\i=.int .i64 k/\(w.alloc (.cells (cO d p) 27)).grownBy wr none) (λi _=>d.eY-(intOf i).toNat)
 case atStart=>exact⟨0,by omega,by go_num,Pw _ _⟩
 case round=>
  obtain⟨k,q,rfl,c⟩:=hrel;have Z:wr.cell? ⟨w.heap.size,0,none⟩=some (.int .i64 d.kinds):=c.cell (a:=⟨w.heap.size,0,none⟩) (Pr rfl) (by simp);have aa:wr.cell? ⟨w.heap.size,2,none⟩=some (.slice (some ⟨p.j9,p.lg,none⟩) d.eY p.h8):=c.cell (a:=⟨w.heap.size,2,none⟩) (Pr rfl) (by simp);have ah:w.heap.size<wr.heap.size:=by have:=c.size;rw[Pp]at this;omega
  by_cases f:k<d.eY
  .have u:=(eo.out.keep c).dz k f
   have P:=(eo.out.keep c).rows k f;have V:=g.out.dz k f;have l:decide (0<=d.dz k/\d.dz k<=4)=true:=by simp;omega
   have C:=c.trans (Pv wr (.cells #[.int .i64 (d.dz k),.slice (some ⟨p.im k,p.sy k,none⟩) d.kinds (p.j' k)] 55) none);have J:=(eo.out.keep C).fD k f;have z:=Pj J;have r:=Pj C;clear J C;have Y:=Pj c;clear c;rcases k with _|k
   .have z0:d.dz 0=0:=g.out.zero
    rw[z0]at u l;simp only[Nat.zero_mul,Nat.add_zero]at u P;rw[z0]at z r;go_wp2_with (go_at_call 53;refine(mH _ _ _ _).mono ?_;rintro e w' ⟨rfl,rfl⟩;rw[l])
    go_quiet (fail);go_wp2_with (go_at_call 58;refine(x3 _ _ _ _ (by omega) (d.fD 0) _ (z.out.keep (hM _ _) (by simp)) (λk q=>g.out.fD 0 f k q)).mono ?_;rintro e w' ⟨rfl,rfl⟩)
    go_roundw
    case rel=>exact⟨1,by omega,by go_num,r.out.trans (hM _ _)⟩
    case measure=>simp[intOf];omega
   .have Q:=(eo.out.keep r.out).dz k (by omega)
    have R:=g.out.rP k f;have ad:=g.out.dz k (by omega);have T:IntKind.i64.wrap (k:Int)=(k:Int):=IntWalk.i64_in _ (by omega);have W:k<d.eY:=by omega
    have ai:(k:Int)<(d.eY:Int):=by omega
    have aj:(0:Int)<=k:=by omega
    have ak:((k:Int)+1 == 0)=false:=by rw[beq_eq_false_iff_ne];omega
    have X:decide ((0:Int)<(k:Int)+1)=true:=by rw[decide_eq_true_iff];omega
    have z3:decide (d.dz (k+1)<=d.dz k)=false:=by rw[decide_eq_false_iff_not];omega
    go_wp2_with (go_at_call 53;refine(mH _ _ _ _).mono ?_;rintro e w' ⟨rfl,rfl⟩;rw[l])
    go_quiet (fail);go_wp2_with (go_at_call 58;refine(x3 _ _ _ _ (by omega) (d.fD (k+1)) _ (z.out.keep (hM _ _) (by simp)) (λj U=>g.out.fD (k+1) f j U)).mono ?_;rintro e w' ⟨rfl,rfl⟩)
    go_roundw
    case rel=>exact⟨k+2,by omega,by go_num,r.out.trans (hM _ _)⟩
    case measure=>simp[intOf];omega
  .have F:wr.cell? ⟨w.heap.size,3,none⟩=some (.slice p.hE d.fC p.h9):=c.cell (a:=⟨w.heap.size,3,none⟩) (Pr rfl) (by simp)
   have fr:=(eo.out.keep c).free;have G:=K.out.trans c;have GW:=Pj G;clear G c;by_cases H:d.fC=0
   .rw[H]at F
    go_wp2;go_loop [76] (λi=>i=.int .i64 0) (λ_=>0)
    case atStart=>rfl
    case round=>
     subst hrel;go_wp2;go_ret;exact⟨rfl,GW.out⟩
   .obtain⟨b,o,e,I⟩:=fr H
    rw[e]at F;have E:=Pj I;clear I fr e;go_wp2;go_loop [76] (λi=>∃k:Nat,k<=d.fC/\i=.int .i64 k) (λi=>d.fC-(intOf i).toNat)
    case atStart=>exact⟨0,by omega,by go_num⟩
    case round=>
     obtain⟨k,q,rfl⟩:=hrel;by_cases f:k<d.fC
     .have u:=E.out k f
      have V:=g.out.free k f;have l:decide (0<=d.free k/\d.free k<=4)=true:=by simp;omega
      rcases k with _|k
      .simp only[Nat.add_zero]at u
       go_wp2_with (go_at_call 53;refine(mH _ _ _ _).mono ?_;rintro e w' ⟨rfl,rfl⟩;rw[l])
       go_round
       case rel=>exact⟨1,by omega,by go_num⟩
       case measure=>simp[intOf];omega
      .have Q:=E.out k (by omega)
       have R:=g.out.Av k f;have T:IntKind.i64.wrap (k:Int)=(k:Int):=IntWalk.i64_in _ (by omega);have W:k<d.fC:=by omega
       have X:decide ((0:Int)<(k:Int)+1)=true:=by rw[decide_eq_true_iff];omega
       have z3:decide (d.free (k+1)<=d.free k)=false:=by rw[decide_eq_false_iff_not];omega
       go_wp2_with (go_at_call 53;refine(mH _ _ _ _).mono ?_;rintro e w' ⟨rfl,rfl⟩;rw[l])
       go_round
       case rel=>exact⟨k+2,by omega,by go_num⟩
       case measure=>simp[intOf];omega
     .go_wp2
      go_ret;exact⟨rfl,GW.out⟩
end
section
variable{A:Array Func}
def AU[S:Std A](b4 c:Nat)(h:b4<=c)(g:c<120)(w:World):Calls (ag A) 60 #[.agg #[.int .i64 b4,.int .i64 c]] w λe w'=>e=.returned (.int .i64 0)/\w.grownBy w' none:=by
 have d:decide ((0:Int)<=b4/\(b4:Int)<=119)=true:=by simp;omega
 have f:decide ((0:Int)<=c/\(c:Int)<=119)=true:=by simp;omega
 go_enter (S.f Tryz.func60),Tryz.ntmps60;go_wp2_with (first|(go_at_call_of 53 (Value.int .i64 (b4:Int));refine(mH _ _ _ _).mono ?_;rintro e w' ⟨rfl,rfl⟩;rw[d])|(go_at_call_of 53 (Value.int .i64 (c:Int));refine(mH _ _ _ _).mono ?_;rintro e w' ⟨rfl,rfl⟩;rw[f]))
 go_ret;exact⟨rfl,Pn⟩
abbrev sQ(k f d fm c:Nat):Array Value:=#[.int .i64 k,.int .i64 f,.int .i64 d,.int .i64 fm,.int .i64 c]
def M7[S:Std A](d:cR)(L:d.kinds<=3)(p:dU)(k g f fm c:Nat)(P:k<d.kinds)(G:g<=f)(E:f<120)(F:fm<=c)(hF:c<120)(Q:g<=c)(w:World):
 Calls (ag A) 40 #[.agg (cO d p),.agg (sQ k g f fm c)] w λe w'=>e=.returned (.int .i64 0)/\w.grownBy w' none:=by
 have z:decide ((0:Int)<=k/\(k:Int)<=(d.kinds:Int)-1)=true:=by simp;omega
 go_enter (S.f Tryz.func40),Tryz.ntmps40;go_wp2_with (go_at_call 53;refine(mH _ _ _ _).mono ?_;rintro e w' ⟨rfl,rfl⟩;rw[z])
 have C:w.grownBy (((w.alloc (.cells (cO d p) 27)).alloc (.cells (sQ k g f fm c) 32)).alloc (.cells #[.int .i64 g,.int .i64 f,.int .i64 fm,.int .i64 c] 30)) none:=(Pn.trans Pn).trans Pn;have D:=Pj C;clear C;go_loopw [21] (λi wr=>∃j:Nat,j<=2/\i=.int .i64 j/\(((w.alloc (.cells (cO d p) 27)).alloc (.cells (sQ k g f fm c) 32)).alloc (.cells #[.int .i64 g,.int .i64 f,.int .i64 fm,.int .i64 c] 30)).grownBy wr none) (λi _=>2-(intOf i).toNat)
 case atStart=>exact⟨0,by omega,by go_num,Pw _ _⟩
 case round=>
  obtain⟨j,M,rfl,h⟩:=hrel;have bu:wr.cell? ⟨w.heap.size+1+1,0,none⟩=some (.int .i64 g):=h.cell (a:=⟨w.heap.size+1+1,0,none⟩) (Pr (by simp)) (by simp);have J:wr.cell? ⟨w.heap.size+1+1,1,none⟩=some (.int .i64 f):=h.cell (a:=⟨w.heap.size+1+1,1,none⟩) (Pr (by simp)) (by simp);have K:wr.cell? ⟨w.heap.size+1+1,2,none⟩=some (.int .i64 fm):=h.cell (a:=⟨w.heap.size+1+1,2,none⟩) (Pr (by simp)) (by simp);have c3:wr.cell? ⟨w.heap.size+1+1,3,none⟩=some (.int .i64 c):=h.cell (a:=⟨w.heap.size+1+1,3,none⟩) (Pr (by simp)) (by simp);have b:∀o v,o<5->(sQ k g f fm c)[o]?=some v->wr.cell? ⟨w.heap.size+1,o,none⟩=some v:=λo v _ e=>h.cell (a:=⟨w.heap.size+1,o,none⟩) ((Pz _ _ _ (by simp)).trans ((Pr (by simp)).trans e)) (by simp)
  have B:=Pj b;clear b;have u:=Pj h;clear h;rcases j with _|_|_|j
  .go_wp2_with (go_at_call 60;refine(AU g f G E _).mono ?_;rintro e H ⟨rfl,q⟩;have l:=(u.out.trans Pn).trans q;have r:=Pj l;clear q l)
   go_roundw
   case rel=>exact⟨1,by omega,by go_num,r.out⟩
   case measure=>simp[intOf]
  .go_wp2_with (go_at_call 60;refine(AU fm c F hF _).mono ?_;rintro e H ⟨rfl,q⟩;have l:=(u.out.trans Pn).trans q;have r:=Pj l;clear q l)
   go_roundw
   case rel=>exact⟨2,by omega,by go_num,r.out⟩
   case measure=>simp[intOf]
  .have z:=B.out 4 _ (by omega) rfl
   have I:=B.out 1 _ (by omega) rfl;go_wp2;go_ret;exact⟨rfl,D.out.trans u.out⟩
  .omega
end
section
variable{A:Array Func}
abbrev l4(d:cR)(p:dU):Array Value:=#[.int .i64 d.kinds,.slice (some ⟨p.gv,p.hj,none⟩) d.kinds p.eT,.slice (some ⟨p.j9,p.lg,none⟩) d.eY p.h8,.slice p.hE d.fC p.h9,
 .int .u32 0,.int .i32 0,.int .u32 0,.int .u32 0,.int .i32 0,.int .u32 0,.int .u32 0,.int .i32 0,.int .u32 0,
 .int .i64 0,.int .i64 0,.int .i64 0,.int .i64 0,.int .i64 0,.int .i64 0,.int .i64 0,.int .i64 0,.int .i64 0,.int .i64 0,.int .i64 0,.int .i64 0,.int .i64 0,.int .i64 0,.int .i64 0]
structure gP where
 k:Nat
 lm:Nat
 bV:Nat
 fm:Nat
 bN:Nat
structure gP.ok(s:gP)(d:cR):Prop where
 k:s.k<d.kinds
 l:s.lm<=s.bV
 bw:s.bV<120
 f:s.fm<=s.bN
 hF:s.bN<120
 x:s.lm<=s.bN
abbrev gP.a(s:gP):Array Value:=sQ s.k s.lm s.bV s.fm s.bN
structure oW(w:World)(b o n:Nat)(f:Nat->gP):Prop where
 bu:∀i,i<n->w.cell? ⟨b,o+i*5,none⟩=some (.int .i64 (f i).k)
 c1:∀i,i<n->w.cell? ⟨b,o+i*5+1,none⟩=some (.int .i64 (f i).lm)
 c2:∀i,i<n->w.cell? ⟨b,o+i*5+2,none⟩=some (.int .i64 (f i).bV)
 c3:∀i,i<n->w.cell? ⟨b,o+i*5+3,none⟩=some (.int .i64 (f i).fm)
 c4:∀i,i<n->w.cell? ⟨b,o+i*5+4,none⟩=some (.int .i64 (f i).bN)
def oW.keep{w w':World}{b o n:Nat}{f:Nat->gP}(h:oW w b o n f)(g:w.grownBy w' none):oW w' b o n f:=
 ⟨λi c=>g.cell (h.bu i c) (by simp),λi c=>g.cell (h.c1 i c) (by simp),λi c=>g.cell (h.c2 i c) (by simp),λi c=>g.cell (h.c3 i c) (by simp),λi c=>g.cell (h.c4 i c) (by simp)⟩
def p'(d:cR)(p:dU)(w:World)(e:Ending)(w':World):Prop:=∃T,e=.returned (.tuple #[.pointer (some ⟨T,0,none⟩),.int .i64 0])/\w.heap.size<=T/\w'.heap[T]?=some (.cells (l4 d p) 105)/\w.grownBy w' none
def wq{w w2:World}{a0 d f a3:Value}{t:TypeId}(c:(w.alloc (.cells #[a0,d,f,a3] t)).grownBy w2 none):w2.cell? ⟨w.heap.size,0,none⟩=some a0/\w2.cell? ⟨w.heap.size,1,none⟩=some d/\w2.cell? ⟨w.heap.size,2,none⟩=some f/\w2.cell? ⟨w.heap.size,3,none⟩=some a3/\w.heap.size<w2.heap.size:=
 ⟨c.cell (a:=⟨w.heap.size,0,none⟩) (Pr rfl) (by simp),c.cell (a:=⟨w.heap.size,1,none⟩) (Pr rfl) (by simp),c.cell (a:=⟨w.heap.size,2,none⟩) (Pr rfl) (by simp),c.cell (a:=⟨w.heap.size,3,none⟩) (Pr rfl) (by simp),by have:=c.size;rw[Pp]at this;omega⟩
def gA(w:World)(o:Obj):(w.alloc o).heap[w.heap.size]?=some o:=by show(w.heap.push o)[w.heap.size]?=_;rw[PA,if_pos rfl]
def xS[S:Std A](d:cR)(ok:d.ok)(p:dU)(w:World)(h:fy w d p):Calls (ag A) 22 #[.agg (cO d p),.slice none 0 0] w (p' d p w):=by
 have g:=h.keep (Pv w (.cells (cO d p) 27) none);go_enter (S.f Tryz.func22),Tryz.ntmps22;go_wp2_with (go_at_call 39;refine(wB d ok p _ g).mono ?_;rintro e w2 ⟨rfl,c⟩;obtain⟨j,l,o,q,r⟩:=wq c;have f:=Pj ((Pv w (.cells (cO d p) 27) none).trans c);clear c)
 go_loop [17] (λi=>i=.int .i64 0) (λ_=>0)
 case atStart=>rfl
 case round=>
  subst hrel;go_wp2;go_ret2
  exact⟨w2.heap.size,rfl,by omega,gA _ _,f.out.trans Pn⟩
def xT[S:Std A](d:cR)(ok:d.ok)(p:dU)(w:World)(h:fy w d p)(b o n c:Nat)(U:n<=4)(f:Nat->gP)(j:oW w b o n f)(I:∀i,i<n->(f i).ok d):
 Calls (ag A) 22 #[.agg (cO d p),.slice (some ⟨b,o,none⟩) n c] w (p' d p w):=by
 have F:=h.keep (Pv w (.cells (cO d p) 27) none);have H:=ok.kinds;have E:=Pj j;clear j;go_enter (S.f Tryz.func22),Tryz.ntmps22;go_wp2_with (go_at_call 39;refine(wB d ok p _ F).mono ?_;rintro e w2 ⟨rfl,u⟩;have B:=Pj u;clear u)
 go_loopw [17] (λi wr=>∃k:Nat,k<=n/\i=.int .i64 k/\(w.alloc (.cells (cO d p) 27)).grownBy wr none) (λi _=>n-(intOf i).toNat)
 case atStart=>exact⟨0,by omega,by go_num,B.out⟩
 case round=>
  obtain⟨k,T,rfl,q⟩:=hrel;obtain⟨M,P,Q,R,V⟩:=wq q;have g:=(Pv w (.cells (cO d p) 27) none).trans q;have j:=E.out.keep g;have D:=Pj q;clear q;by_cases l:k<n
  .have bu:=j.bu k l
   have J:=j.c1 k l;have K:=j.c2 k l;have c3:=j.c3 k l;have L:=j.c4 k l;have O:=I k l;clear j g;go_wp2_with (go_at_call 40;refine(M7 d H.2 p (f k).k (f k).lm (f k).bV (f k).fm (f k).bN O.k O.l O.bw O.f O.hF O.x _).mono ?_;rintro e W ⟨rfl,z⟩;have r:=(D.out.trans Pn).trans z;have C:=Pj r;clear z r)
   go_roundw
   case rel=>exact⟨k+1,by omega,by go_num,C.out⟩
   case measure=>simp[intOf];omega
  .have G:=Pj g
   clear j g;go_wp2;go_ret2
   exact⟨wr.heap.size,rfl,by omega,gA _ _,G.out.trans Pn⟩
end
section
variable{A:Array Func}
def cu(a b:Int):Value:=.agg #[.int .i64 a,.int .i64 b]
def sk{a b c d:Int}(h:cu a b=cu c d):a=c/\b=d:=by simpa [cu]using h
def l9(k:TypeId):Prop:=k=59\/k=139\/k=164
def GO(n:Nat)(x y:Int)(w:World):Sem.run (ag A) (Op.equalIn (n+1) 3 (.int .i64 x) (.int .i64 y)) w=.ok (x == y) w:=by unfold Op.equalIn;kernel_rfl
def J3(x y:Value)(w:World):Sem.run (ag A) (part 3 #[x,y] 0) w=.ok x w:=by kernel_rfl
def J4(x y:Value)(w:World):Sem.run (ag A) (part 3 #[x,y] 1) w=.ok y w:=by kernel_rfl
def GQ{k:TypeId}(h:l9 k)(a b c d:Int)(w:World):Sem.run (ag A) (Op.equal k (cu a b) (cu c d)) w=.ok (a == c && b == d) w:=by
 simp only[Op.equal,Op.maxDepth];rw[show(10000:Nat)=9998+1+1 from rfl];unfold Op.equalIn;rcases h with rfl|rfl|rfl
 all_goals
  by_cases f:a=c<;>by_cases g:b=d<;>simp[cu,J3,J4,GO 9998,Result.andThen,f,g]
def wC{k:TypeId}(c:l9 k)(e:Bool)(a b:Int)(w:World):Sem.run (ag A) (Instr.checkKey e 10000 k (cu a b)) w=.ok () w:=by
 rcases c with rfl|rfl|rfl
 all_goals kernel_rfl
def N8{k:TypeId}(c:l9 k):∃bd,(ag A).underlying k=some (.struct bd):=by
 rcases c with rfl|rfl|rfl
 .exact⟨_,ag.underlying64 A⟩
 .exact⟨_,ag.underlying151 A⟩
 .exact⟨_,ag.underlying182 A⟩
def vP(es:List MapEntry):Prop:=∀e∈es,∃a b,e.key=cu a b
noncomputable def fR(a b:Int)(e:MapEntry):Bool:=@decide (e.key=cu a b) (Classical.propDecidable _)
def pf{a b:Int}{e:MapEntry}:fR a b e=true↔e.key=cu a b:=by unfold fR;exact @decide_eq_true_iff _ (Classical.propDecidable _)
def sg{a b:Int}{e:MapEntry}:fR a b e=false↔e.key≠cu a b:=by unfold fR;exact @decide_eq_false_iff_not _ (Classical.propDecidable _)
def EA{k:TypeId}(F:l9 k)(a b:Int)(w:World):∀(es:List MapEntry) (i:Nat),vP es->
 (Sem.run (ag A) (Instr.findAsking k (cu a b) es i) w=.ok none w/\es.find? (fR a b)=none)\/∃j e,Sem.run (ag A) (Instr.findAsking k (cu a b) es i) w=.ok (some (i+j,e.val)) w/\es[j]?=some e/\fR a b e=true/\(∀bn g,bn<j->es[bn]?=some g->fR a b g=false)/\es.find? (fR a b)=some e:=by
 intro es;induction es with
 |nil=>intro i _;exact .inl ⟨rfl,rfl⟩
 |cons e es H=>
  intro i h;obtain⟨c,d,q⟩:=h e (by simp);have run:Sem.run (ag A) (Instr.findAsking k (cu a b) (e::es) i) w=Sem.run (ag A) ((Op.equal k (cu a b) e.key).bind λr=>if r then pure (some (i,e.val))else Instr.findAsking k (cu a b) es (i+1)) w:=rfl;rw[run,Pt,q,GQ F];show(Sem.run (ag A) (if (a == c && b == d)then pure (some (i,e.val))else Instr.findAsking k (cu a b) es (i+1)) w=_/\_)\/∃j u,Sem.run (ag A) (if (a == c && b == d)then pure (some (i,e.val))else Instr.findAsking k (cu a b) es (i+1)) w=_/\_;by_cases p:(a == c && b == d)=true
  .have f:fR a b e=true:=by simp at p;rw[pf,q,p.1,p.2]
   rw[p];refine .inr ⟨0,e,rfl,rfl,f,λbn g E=>by omega,?_⟩;simp[List.find?,f]
  .have z:(a == c && b == d)=false:=by simpa using p
   have f:fR a b e=false:=by rw[sg,q];intro e;obtain⟨l,o⟩:=sk e;subst l;subst o;simp at z
   rw[z];rcases H (i+1) (λy G=>h y (by simp[G]))with⟨l,o⟩|⟨j,u,l,o,B,C,D⟩
   .exact .inl ⟨l,by simp[List.find?,f,o]⟩
   .refine .inr ⟨j+1,u,?_,by simpa using o,B,λbn g E he=>?_,by simp[List.find?,f,D]⟩
    .show Sem.run (ag A) (Instr.findAsking k (cu a b) es (i+1)) w=_
     rw[l];congr 3;omega
    .rcases bn with _|bn
     .simp at he;subst he;exact f
     .exact C bn g (by omega) (by simpa using he)
def wZ{k:TypeId}(i:l9 k)(a b:Int)(w:World)(es:List MapEntry)(h:vP es):
 (Sem.run (ag A) (Instr.findKey k (cu a b) es) w=.ok none w/\es.find? (fR a b)=none)\/∃j e,Sem.run (ag A) (Instr.findKey k (cu a b) es) w=.ok (some (j,e.val)) w/\es[j]?=some e/\fR a b e=true/\(∀bn g,bn<j->es[bn]?=some g->fR a b g=false)/\es.find? (fR a b)=some e:=by
 obtain⟨bd,hu⟩:=N8 (A:=A) i;have p:Sem.run (ag A) (Instr.findKey k (cu a b) es) w=Sem.run (ag A) (Instr.findAsking k (cu a b) es) w:=by
  show Sem.run (ag A) ((underlying k).bind λd=>match Instr.findNow d (cu a b) es 0 with|some r=>pure r|none=>Instr.findAsking k (cu a b) es) w=_;rw[Pt,run_underlying hu];cases es with
  |nil=>rfl
  |cons e es=>
   obtain⟨c,d,o⟩:=h e (by simp);have:Instr.findNow (.struct bd) (cu a b) (e::es) 0=none:=by unfold Instr.findNow;rw[o];rfl
   show Sem.run (ag A) (match Instr.findNow (.struct bd) (cu a b) (e::es) 0 with|some r=>pure r|none=>Instr.findAsking k (cu a b) (e::es)) w=_;rw[this]
 rw[p];rcases EA i a b w es 0 h with f|⟨j,e,f,l⟩
 .exact .inl f
 .exact .inr ⟨j,e,by rw[f,Nat.zero_add],l⟩
end
section
variable{A:Array Func}
def g3(w:World)(m:Nat)(M:Int->Int->Option Value):Prop:=∃es clock,w.heap[m]?=some (.map es clock)/\vP es.toList/\∀a b,M a b=(es.toList.find? (fR a b)).map (·.val)
def kH(M:Int->Int->Option Value)(a b:Int)(v:Value)(c d:Int):Option Value:=if c=a/\d=b then some v else M c d
def g3.new(w:World)(m:Nat)(c:Nat)(h:w.heap[m]?=some (.map #[] c)):g3 w m (λ_ _=>none):=⟨#[],c,h,λe he=>by simp at he,λa b=>rfl⟩
def g3.keep{w w':World}{m:Nat}{M:Int->Int->Option Value}{row:Option Nat}(h:g3 w m M)(g:w.grownBy w' row)(j:some m≠row):g3 w' m M:=by obtain⟨es,c,d,f,i⟩:=h;exact⟨es,c,(g.block m (bp d) j).trans d,f,i⟩
def A0(a b:Int)(w:World):Sem.run (ag A) (Instr.keyThatStays (cu a b) (cu a b)) w=.ok (cu a b) w:=by
 have h:Instr.sameBits 10000 (cu a b) (cu a b)=true:=by show Instr.sameBits (9998+1+1) (cu a b) (cu a b)=true;unfold cu;simp[Instr.sameBits]
 unfold Instr.keyThatStays;rw[h];rfl
def sa{w:World}{m:Nat}{o:Obj}(h:w.heap[m]?=some o)(hm:∃es c,o=.map es c):Sem.run (ag A) (getObj m) w=.ok o w:=by obtain⟨es,c,rfl⟩:=hm;unfold getObj;simp[Sem.run,h]
def qB{mt k el:TypeId}(u:(ag A).underlying mt=some (.map k el))(f:l9 k){z:Value}(g:∀w,Sem.run (ag A) (zeroValue el) w=.ok z w){w:World}{m:Nat}{M:Int->Int->Option Value}(h:g3 w m M)(a b:Int)(c:Bool):
 Sem.run (ag A) (Instr.lookup mt (.map (some m)) (cu a b) c) w=.ok (if c then .tuple #[(M a b).getD z,.bool (M a b).isSome]else(M a b).getD z) w:=by
 obtain⟨es,clock,o,p,q⟩:=h;have l:Sem.run (ag A) (Instr.lookup mt (.map (some m)) (cu a b) c) w=Sem.run (ag A) ((Instr.findKey k (cu a b) es.toList).bind λr=>(match r with|some (_,v)=>(pure (v,true):Sem (Value×Bool))|none=>(zeroValue el).bind λz=>pure (z,false)).bind λx=>pure (if c then .tuple #[x.1,.bool x.2]else x.1)) w:=by
  unfold Instr.lookup;show Sem.run (ag A) ((underlying mt).bind _) w=_;rw[Pt,run_underlying u];show Sem.run (ag A) (((getObj m).bind _).bind _) w=_;rw[Pt,Pt,sa o ⟨_,_,rfl⟩];show Sem.run (ag A) ((Instr.checkKey es.isEmpty 10000 k (cu a b)).bind _) w=_;rw[Pt,wC f];show Sem.run (ag A) ((Instr.findKey k (cu a b) es.toList).bind _) w=_;rw[Pt,Pt];cases Sem.run (ag A) (Instr.findKey k (cu a b) es.toList) w with
  |halt h w=>rfl
  |ok r w=>
   rcases r with _|⟨i,v⟩
   .show Sem.run (ag A) ((zeroValue el).bind _) w=Sem.run (ag A) (((zeroValue el).bind _).bind _) w
    rw[Pt,Pt,Pt,g];rfl
   .rfl
 rw[l,Pt,q];rcases wZ f a b w es.toList p with⟨r,d⟩|⟨j,e,r,_,_,_,d⟩
 .rw[r,d]
  show Sem.run (ag A) (((zeroValue el).bind _).bind _) w=_;rw[Pt,Pt,g];rfl
 .rw[r,d]
  rfl
def Az(a b:Int)(v:Value)(c d:Int):∀(es:List MapEntry) (j:Nat) (e:MapEntry),es[j]?=some e->fR a b e=true->(∀bn g,bn<j->es[bn]?=some g->fR a b g=false)->
 ((es.modify j λx=>{x with key:=cu a b,val:=v}).find? (fR c d)).map (·.val)=if c=a/\d=b then some v else(es.find? (fR c d)).map (·.val):=by
 intro es;induction es with
 |nil=>intro j e h;simp at h
 |cons x es q=>
  intro j e h p o;rcases j with _|j
  .simp at h
   subst h;simp only[List.modify_zero_cons,List.find?_cons];by_cases f:c=a/\d=b
   .obtain⟨rfl,rfl⟩:=f
    have:fR c d {x with key:=cu c d,val:=v}=true:=pf.2 rfl;simp[this]
   .have i:fR c d {x with key:=cu a b,val:=v}=false:=sg.2 λe=>f (by obtain⟨i,l⟩:=sk e;exact⟨i.symm,l.symm⟩)
    have l:fR c d x=false:=sg.2 λe=>f (by rw[pf.1 p]at e;obtain⟨i,l⟩:=sk e;exact⟨i.symm,l.symm⟩)
    simp[i,l,f]
  .have u:fR a b x=false:=o 0 x (by omega) rfl
   simp only[List.modify_succ_cons,List.find?_cons];by_cases f:c=a/\d=b
   .obtain⟨rfl,rfl⟩:=f
    rw[u];have:=q j e (by simpa using h) p λbn g r he=>o (bn+1) g (by omega) (by simpa using he)
    simpa using this
   .cases w:fR c d x with
    |true=>simp[f]
    |false=>
     have:=q j e (by simpa using h) p λbn g r he=>o (bn+1) g (by omega) (by simpa using he)
     simpa [f]using this
def A6{mt k el:TypeId}(J:(ag A).underlying mt=some (.map k el))(D:l9 k){w:World}{m:Nat}{M:Int->Int->Option Value}(h:g3 w m M)(a b:Int)(v:Value):
 ∃w',Sem.run (ag A) (Instr.mapUpdate mt (.map (some m)) (cu a b) v) w=.ok () w'/\g3 w' m (kH M a b v)/\w.grownBy w' (some m)/\w'.heap.size=w.heap.size:=by
 obtain⟨es,clock,g,l,B⟩:=h;have I:=bp g;have F:Sem.run (ag A) (Instr.mapUpdate mt (.map (some m)) (cu a b) v) w=Sem.run (ag A) ((Instr.findKey k (cu a b) es.toList).bind λr=>match r with
  |some (i,_)=>(Instr.keyThatStays (((es[i]?).map (·.key)).getD (cu a b)) (cu a b)).bind λkey=>setObj m (.map (es.modify i λe=>{e with key,val:=v}) clock)
  |none=>setObj m (.map (es.push {key:=cu a b,val:=v,born:=clock}) (clock+1))) w:=by
  unfold Instr.mapUpdate;show Sem.run (ag A) ((underlying mt).bind _) w=_;rw[Pt,run_underlying J];show Sem.run (ag A) ((getObj m).bind _) w=_;rw[Pt,sa g ⟨_,_,rfl⟩];show Sem.run (ag A) ((Instr.checkKey false 10000 k (cu a b)).bind _) w=_;rw[Pt,wC D];rfl
 have st:∀o,Sem.run (ag A) (setObj m o) w=.ok () {w with heap:=w.heap.setIfInBounds m o}:=λo=>by unfold setObj;simp[Sem.run,g]
 have z:∀o,w.grownBy {w with heap:=w.heap.setIfInBounds m o} (some m):=λo=>⟨rfl,rfl,rfl,by simp,λj _ p=>by show(w.heap.setIfInBounds m o)[j]?=_;rw[PB (λe=>p (by rw[e]))]⟩
 have at_:∀o,(w.heap.setIfInBounds m o)[m]?=some o:=λo=>by rw[PC I]
 rw[F,Pt];rcases wZ D a b w es.toList l with⟨r,E⟩|⟨j,e,r,p,C,G,E⟩
 .rw[r]
  refine⟨_,st _,⟨_,_,at_ _,λx hx=>?_,λc d=>?_⟩,z _,by simp⟩
  .rw[Array.toList_push]at hx
   rcases List.mem_append.1 hx with hx|hx
   .exact l x hx
   .rw[Ps hx];exact⟨a,b,rfl⟩
  .rw[Array.toList_push,List.find?_append,kH]
   by_cases q:c=a/\d=b
   .obtain⟨rfl,rfl⟩:=q
    have:fR c d {key:=cu c d,val:=v,born:=clock}=true:=pf.2 rfl;simp[E,this]
   .have:fR c d {key:=cu a b,val:=v,born:=clock}=false:=sg.2 λe=>q (by obtain⟨g,l⟩:=sk e;exact⟨g.symm,l.symm⟩)
    rw[if_neg q,B];simp[this]
 .rw[r]
  have H:((es[j]?).map (·.key)).getD (cu a b)=cu a b:=by
   have:es[j]?=some e:=by rw[<-Array.getElem?_toList];exact p
   rw[this];exact pf.1 C
  show ∃w',Sem.run (ag A) ((Instr.keyThatStays (((es[j]?).map (·.key)).getD (cu a b)) (cu a b)).bind _) w=_/\_;rw[H,Pt,A0];refine⟨_,st _,⟨_,_,at_ _,λx hx=>?_,λc d=>?_⟩,z _,by simp⟩
  .rw[Array.toList_modify]at hx
   obtain⟨i,f⟩:=List.mem_iff_getElem?.1 hx;rw[List.getElem?_modify]at f;cases u:es.toList[i]? with
   |none=>rw[u]at f;cases f
   |some y=>
    rw[u]at f;simp at f;split at f
    .subst f;exact⟨a,b,rfl⟩
    .subst f;exact l y (Py u)
  .rw[Array.toList_modify,Az a b v c d es.toList j e p C G,kH,B]
end
section
variable{A:Array Func}
def dG(a:Int):Value:=.int .i64 a
def uz{a c:Int}(h:dG a=dG c):a=c:=by simpa [dG]using h
def zO{k:TypeId}(c:k=3)(e:Bool)(a:Int)(w:World):Sem.run (ag A) (Instr.checkKey e 10000 k (dG a)) w=.ok () w:=by subst c;kernel_rfl
def vO(es:List MapEntry):Prop:=∀e∈es,∃a,e.key=dG a
noncomputable def gT(a:Int)(e:MapEntry):Bool:=@decide (e.key=dG a) (Classical.propDecidable _)
def sf{a:Int}{e:MapEntry}:gT a e=true↔e.key=dG a:=by unfold gT;exact @decide_eq_true_iff _ (Classical.propDecidable _)
def uj{a:Int}{e:MapEntry}:gT a e=false↔e.key≠dG a:=by unfold gT;exact @decide_eq_false_iff_not _ (Classical.propDecidable _)
def Jo(a:Int):∀(es:List MapEntry) (i:Nat),vO es->
 (Instr.findNow (.int .i64) (dG a) es i=some none/\es.find? (gT a)=none)\/∃j e,Instr.findNow (.int .i64) (dG a) es i=some (some (i+j,e.val))/\es[j]?=some e/\gT a e=true/\(∀bn g,bn<j->es[bn]?=some g->gT a g=false)/\es.find? (gT a)=some e:=by
 intro es;induction es with
 |nil=>intro i _;exact .inl ⟨rfl,rfl⟩
 |cons e es C=>
  intro i h;obtain⟨c,p⟩:=h e (by simp);have run:Instr.findNow (.int .i64) (dG a) (e::es) i=if a=c then some (some (i,e.val))else Instr.findNow (.int .i64) (dG a) es (i+1):=by
   rw[Instr.findNow,p];by_cases d:a=c
   .simp[Instr.sameNow,dG,d]
   .have:(a == c)=false:=by simpa using d
    rw[if_neg d];simp[Instr.sameNow,dG,this]
  rw[run];by_cases d:a=c
  .have f:gT a e=true:=by rw[sf,p,d]
   rw[if_pos d];refine .inr ⟨0,e,rfl,rfl,f,λbn g z=>by omega,?_⟩;simp[List.find?,f]
  .have f:gT a e=false:=by rw[uj,p];intro e;exact d (uz e).symm
   rw[if_neg d];rcases C (i+1) (λy B=>h y (by simp[B]))with⟨l,o⟩|⟨j,q,l,o,r,u,w⟩
   .exact .inl ⟨l,by simp[List.find?,f,o]⟩
   .refine .inr ⟨j+1,q,?_,by simpa using o,r,λbn g z he=>?_,by simp[List.find?,f,w]⟩
    .rw[l]
     congr 3;omega
    .rcases bn with _|bn
     .simp at he;subst he;exact f
     .exact u bn g (by omega) (by simpa using he)
def AA{k:TypeId}(i:k=3)(a:Int)(w:World)(es:List MapEntry)(h:vO es):
 (Sem.run (ag A) (Instr.findKey k (dG a) es) w=.ok none w/\es.find? (gT a)=none)\/∃j e,Sem.run (ag A) (Instr.findKey k (dG a) es) w=.ok (some (j,e.val)) w/\es[j]?=some e/\gT a e=true/\(∀bn g,bn<j->es[bn]?=some g->gT a g=false)/\es.find? (gT a)=some e:=by
 subst i;have l:Sem.run (ag A) (Instr.findKey 3 (dG a) es) w=Sem.run (ag A) (match Instr.findNow (.int .i64) (dG a) es 0 with|some r=>pure r|none=>Instr.findAsking 3 (dG a) es) w:=by show Sem.run (ag A) ((underlying 3).bind λd=>match Instr.findNow d (dG a) es 0 with|some r=>pure r|none=>Instr.findAsking 3 (dG a) es) w=_;rw[Pt,run_underlying (ag.underlying3 A)];rfl
 rw[l];rcases Jo a es 0 h with⟨c,f⟩|⟨j,e,c,f⟩
 .exact .inl ⟨by rw[c];rfl,f⟩
 .exact .inr ⟨j,e,by rw[c,Nat.zero_add];rfl,f⟩
def iS(w:World)(m:Nat)(M:Int->Option Value):Prop:=∃es clock,w.heap[m]?=some (.map es clock)/\vO es.toList/\∀a,M a=(es.toList.find? (gT a)).map (·.val)
def nb(M:Int->Option Value)(a:Int)(v:Value)(c:Int):Option Value:=if c=a then some v else M c
def iS.new(w:World)(m:Nat)(c:Nat)(h:w.heap[m]?=some (.map #[] c)):iS w m (λ_=>none):=⟨#[],c,h,λe he=>by simp at he,λa=>rfl⟩
def iS.keep{w w':World}{m:Nat}{M:Int->Option Value}{row:Option Nat}(h:iS w m M)(g:w.grownBy w' row)(j:some m≠row):iS w' m M:=by obtain⟨es,c,d,f,i⟩:=h;exact⟨es,c,(g.block m (bp d) j).trans d,f,i⟩
def H5(a:Int)(w:World):Sem.run (ag A) (Instr.keyThatStays (dG a) (dG a)) w=.ok (dG a) w:=by
 have h:Instr.sameBits 10000 (dG a) (dG a)=true:=by show Instr.sameBits (9999+1) (dG a) (dG a)=true;unfold dG;simp[Instr.sameBits]
 unfold Instr.keyThatStays;rw[h];rfl
def uA{mt k el:TypeId}(u:(ag A).underlying mt=some (.map k el))(f:k=3){z:Value}(g:∀w,Sem.run (ag A) (zeroValue el) w=.ok z w){w:World}{m:Nat}{M:Int->Option Value}(h:iS w m M)(a:Int)(c:Bool):
 Sem.run (ag A) (Instr.lookup mt (.map (some m)) (dG a) c) w=.ok (if c then .tuple #[(M a).getD z,.bool (M a).isSome]else(M a).getD z) w:=by
 obtain⟨es,clock,o,p,q⟩:=h;have l:Sem.run (ag A) (Instr.lookup mt (.map (some m)) (dG a) c) w=Sem.run (ag A) ((Instr.findKey k (dG a) es.toList).bind λr=>(match r with|some (_,v)=>(pure (v,true):Sem (Value×Bool))|none=>(zeroValue el).bind λz=>pure (z,false)).bind λx=>pure (if c then .tuple #[x.1,.bool x.2]else x.1)) w:=by
  unfold Instr.lookup;show Sem.run (ag A) ((underlying mt).bind _) w=_;rw[Pt,run_underlying u];show Sem.run (ag A) (((getObj m).bind _).bind _) w=_;rw[Pt,Pt,sa o ⟨_,_,rfl⟩];show Sem.run (ag A) ((Instr.checkKey es.isEmpty 10000 k (dG a)).bind _) w=_;rw[Pt,zO f];show Sem.run (ag A) ((Instr.findKey k (dG a) es.toList).bind _) w=_;rw[Pt,Pt];cases Sem.run (ag A) (Instr.findKey k (dG a) es.toList) w with
  |halt h w=>rfl
  |ok r w=>
   rcases r with _|⟨i,v⟩
   .show Sem.run (ag A) ((zeroValue el).bind _) w=Sem.run (ag A) (((zeroValue el).bind _).bind _) w
    rw[Pt,Pt,Pt,g];rfl
   .rfl
 rw[l,Pt,q];rcases AA f a w es.toList p with⟨r,d⟩|⟨j,e,r,_,_,_,d⟩
 .rw[r,d]
  show Sem.run (ag A) (((zeroValue el).bind _).bind _) w=_;rw[Pt,Pt,g];rfl
 .rw[r,d]
  rfl
def Hu(a:Int)(v:Value)(c:Int):∀(es:List MapEntry) (j:Nat) (e:MapEntry),es[j]?=some e->gT a e=true->(∀bn f,bn<j->es[bn]?=some f->gT a f=false)->
 ((es.modify j λx=>{x with key:=dG a,val:=v}).find? (gT c)).map (·.val)=if c=a then some v else(es.find? (gT c)).map (·.val):=by
 intro es;induction es with
 |nil=>intro j e h;simp at h
 |cons x es l=>
  intro j e h i g;rcases j with _|j
  .simp at h
   subst h;simp only[List.modify_zero_cons,List.find?_cons];by_cases d:c=a
   .subst d
    have:gT c {x with key:=dG c,val:=v}=true:=sf.2 rfl;simp[this]
   .have o:gT c {x with key:=dG a,val:=v}=false:=uj.2 λe=>d (by exact(uz e).symm)
    have p:gT c x=false:=uj.2 λe=>d (by rw[sf.1 i]at e;exact(uz e).symm)
    simp[o,p,d]
  .have r:gT a x=false:=g 0 x (by omega) rfl
   simp only[List.modify_succ_cons,List.find?_cons];by_cases d:c=a
   .subst d
    rw[r];have:=l j e (by simpa using h) i λbn f q he=>g (bn+1) f (by omega) (by simpa using he)
    simpa using this
   .cases u:gT c x with
    |true=>simp[d]
    |false=>
     have:=l j e (by simpa using h) i λbn f q he=>g (bn+1) f (by omega) (by simpa using he)
     simpa [d]using this
def A2{mt k el:TypeId}(I:(ag A).underlying mt=some (.map k el))(C:k=3){w:World}{m:Nat}{M:Int->Option Value}(h:iS w m M)(a:Int)(v:Value):
 ∃w',Sem.run (ag A) (Instr.mapUpdate mt (.map (some m)) (dG a) v) w=.ok () w'/\iS w' m (nb M a v)/\w.grownBy w' (some m)/\w'.heap.size=w.heap.size:=by
 obtain⟨es,clock,g,l,z⟩:=h;have H:=bp g;have E:Sem.run (ag A) (Instr.mapUpdate mt (.map (some m)) (dG a) v) w=Sem.run (ag A) ((Instr.findKey k (dG a) es.toList).bind λr=>match r with
  |some (i,_)=>(Instr.keyThatStays (((es[i]?).map (·.key)).getD (dG a)) (dG a)).bind λkey=>setObj m (.map (es.modify i λe=>{e with key,val:=v}) clock)
  |none=>setObj m (.map (es.push {key:=dG a,val:=v,born:=clock}) (clock+1))) w:=by
  unfold Instr.mapUpdate;show Sem.run (ag A) ((underlying mt).bind _) w=_;rw[Pt,run_underlying I];show Sem.run (ag A) ((getObj m).bind _) w=_;rw[Pt,sa g ⟨_,_,rfl⟩];show Sem.run (ag A) ((Instr.checkKey false 10000 k (dG a)).bind _) w=_;rw[Pt,zO C];rfl
 have st:∀o,Sem.run (ag A) (setObj m o) w=.ok () {w with heap:=w.heap.setIfInBounds m o}:=λo=>by unfold setObj;simp[Sem.run,g]
 have u:∀o,w.grownBy {w with heap:=w.heap.setIfInBounds m o} (some m):=λo=>⟨rfl,rfl,rfl,by simp,λj _ f=>by show(w.heap.setIfInBounds m o)[j]?=_;rw[PB (λe=>f (by rw[e]))]⟩
 have at_:∀o,(w.heap.setIfInBounds m o)[m]?=some o:=λo=>by rw[PC H]
 rw[E,Pt];rcases AA C a w es.toList l with⟨r,D⟩|⟨j,e,r,f,B,F,D⟩
 .rw[r]
  refine⟨_,st _,⟨_,_,at_ _,λx hx=>?_,λc=>?_⟩,u _,by simp⟩
  .rw[Array.toList_push]at hx
   rcases List.mem_append.1 hx with hx|hx
   .exact l x hx
   .rw[Ps hx];exact⟨a,rfl⟩
  .rw[Array.toList_push,List.find?_append,nb]
   by_cases p:c=a
   .subst p
    have:gT c {key:=dG c,val:=v,born:=clock}=true:=sf.2 rfl;simp[D,this]
   .have:gT c {key:=dG a,val:=v,born:=clock}=false:=uj.2 λe=>p (by exact(uz e).symm)
    rw[if_neg p,z];simp[this]
 .rw[r]
  have G:((es[j]?).map (·.key)).getD (dG a)=dG a:=by
   have:es[j]?=some e:=by rw[<-Array.getElem?_toList];exact f
   rw[this];exact sf.1 B
  show ∃w',Sem.run (ag A) ((Instr.keyThatStays (((es[j]?).map (·.key)).getD (dG a)) (dG a)).bind _) w=_/\_;rw[G,Pt,H5];refine⟨_,st _,⟨_,_,at_ _,λx hx=>?_,λc=>?_⟩,u _,by simp⟩
  .rw[Array.toList_modify]at hx
   obtain⟨i,d⟩:=List.mem_iff_getElem?.1 hx;rw[List.getElem?_modify]at d;cases q:es.toList[i]? with
   |none=>rw[q]at d;cases d
   |some y=>
    rw[q]at d;simp at d;split at d
    .subst d;exact⟨a,rfl⟩
    .subst d;exact l y (Py q)
  .rw[Array.toList_modify,Hu a v c es.toList j e f B F,nb,z]
end
section
variable{A:Array Func}
def H9{mt k el:TypeId}(L:(ag A).underlying mt=some (.map k el))(E:l9 k){w:World}{m:Nat}{M:Int->Int->Option Value}(h:g3 w m M)(a b:Int)(v:Value):
 ∃w',Sem.run (ag A) (Instr.mapUpdate mt (.map (some m)) (cu a b) v) w=.ok () w'/\g3 w' m (kH M a b v)/\w.grownBy w' (some m)/\w'.heap.size=w.heap.size/\∀es c,w'.heap[m]?=some (.map es c)->∀e∈es.toList,e.val=v\/∃z bu,w.heap[m]?=some (.map z bu)/\∃G∈z.toList,G.val=e.val:=by
 obtain⟨es,clock,g,p,C⟩:=h;have K:=bp g;have H:Sem.run (ag A) (Instr.mapUpdate mt (.map (some m)) (cu a b) v) w=Sem.run (ag A) ((Instr.findKey k (cu a b) es.toList).bind λr=>match r with
  |some (i,_)=>(Instr.keyThatStays (((es[i]?).map (·.key)).getD (cu a b)) (cu a b)).bind λkey=>setObj m (.map (es.modify i λe=>{e with key,val:=v}) clock)
  |none=>setObj m (.map (es.push {key:=cu a b,val:=v,born:=clock}) (clock+1))) w:=by
  unfold Instr.mapUpdate;show Sem.run (ag A) ((underlying mt).bind _) w=_;rw[Pt,run_underlying L];show Sem.run (ag A) ((getObj m).bind _) w=_;rw[Pt,sa g ⟨_,_,rfl⟩];show Sem.run (ag A) ((Instr.checkKey false 10000 k (cu a b)).bind _) w=_;rw[Pt,wC E];rfl
 have st:∀o,Sem.run (ag A) (setObj m o) w=.ok () {w with heap:=w.heap.setIfInBounds m o}:=λo=>by unfold setObj;simp[Sem.run,g]
 have B:∀o,w.grownBy {w with heap:=w.heap.setIfInBounds m o} (some m):=λo=>⟨rfl,rfl,rfl,by simp,λj _ q=>by show(w.heap.setIfInBounds m o)[j]?=_;rw[PB (λe=>q (by rw[e]))]⟩
 have at_:∀o,(w.heap.setIfInBounds m o)[m]?=some o:=λo=>by rw[PC K]
 rw[H,Pt];rcases wZ E a b w es.toList p with⟨r,F⟩|⟨j,e,r,q,D,I,F⟩
 .rw[r]
  refine⟨_,st _,⟨_,_,at_ _,λx hx=>?_,λc d=>?_⟩,B _,by simp,λe3 bo he x hx=>?_⟩
  .rw[Array.toList_push]at hx
   rcases List.mem_append.1 hx with hx|hx
   .exact p x hx
   .rw[Ps hx];exact⟨a,b,rfl⟩
  .rw[Array.toList_push,List.find?_append,kH]
   by_cases u:c=a/\d=b
   .obtain⟨rfl,rfl⟩:=u
    have:fR c d {key:=cu c d,val:=v,born:=clock}=true:=pf.2 rfl;simp[F,this]
   .have:fR c d {key:=cu a b,val:=v,born:=clock}=false:=sg.2 λe=>u (by obtain⟨g,p⟩:=sk e;exact⟨g.symm,p.symm⟩)
    rw[if_neg u,C];simp[this]
  .rw[at_ _]at he
   cases he;rw[Array.toList_push]at hx;rcases List.mem_append.1 hx with hx|hx
   .exact .inr ⟨_,_,g,x,hx,rfl⟩
   .rw[Ps hx];exact .inl rfl
 .rw[r]
  have J:((es[j]?).map (·.key)).getD (cu a b)=cu a b:=by
   have:es[j]?=some e:=by rw[<-Array.getElem?_toList];exact q
   rw[this];exact pf.1 D
  show ∃w',Sem.run (ag A) ((Instr.keyThatStays (((es[j]?).map (·.key)).getD (cu a b)) (cu a b)).bind _) w=_/\_;rw[J,Pt,A0];refine⟨_,st _,⟨_,_,at_ _,λx hx=>?_,λc d=>?_⟩,B _,by simp,λe3 bo he x hx=>?_⟩
  .rw[Array.toList_modify]at hx
   obtain⟨i,f⟩:=List.mem_iff_getElem?.1 hx;rw[List.getElem?_modify]at f;cases l:es.toList[i]? with
   |none=>rw[l]at f;cases f
   |some y=>
    rw[l]at f;simp at f;split at f
    .subst f;exact⟨a,b,rfl⟩
    .subst f;exact p y (Py l)
  .rw[Array.toList_modify,Az a b v c d es.toList j e q D I,kH,C]
  .rw[at_ _]at he
   cases he;rw[Array.toList_modify]at hx;obtain⟨i,f⟩:=List.mem_iff_getElem?.1 hx;rw[List.getElem?_modify]at f;cases l:es.toList[i]? with
   |none=>rw[l]at f;cases f
   |some y=>
    rw[l]at f;simp at f;split at f
    .subst f;exact .inl rfl
    .subst f;exact .inr ⟨_,_,g,y,Py l,rfl⟩
def j1(w:World)(m:Nat)(M:Int->Int->Option Value):Prop:=g3 w m M/\∀es c,w.heap[m]?=some (.map es c)->∀e∈es.toList,∃n:Int,e.val=.int .i64 n
def j1.new(w:World)(m:Nat)(c:Nat)(h:w.heap[m]?=some (.map #[] c)):j1 w m (λ_ _=>none):=⟨g3.new w m c h,λes bo d e he=>by rw[h]at d;cases d;simp at he⟩
def j1.keep{w w':World}{m:Nat}{M:Int->Int->Option Value}{row:Option Nat}(h:j1 w m M)(g:w.grownBy w' row)(d:some m≠row):j1 w' m M:=by refine⟨h.1.keep g d,λes c e=>?_⟩;obtain⟨i,bu,f,_⟩:=h.1;have:=g.block m (bp f) d;rw[this]at e;exact h.2 es c e
def H'{mt k el:TypeId}(q:(ag A).underlying mt=some (.map k el))(p:l9 k){w:World}{m:Nat}{M:Int->Int->Option Value}(h:j1 w m M)(a b n:Int):
 ∃w',Sem.run (ag A) (Instr.mapUpdate mt (.map (some m)) (cu a b) (.int .i64 n)) w=.ok () w'/\j1 w' m (kH M a b (.int .i64 n))/\w.grownBy w' (some m)/\w'.heap.size=w.heap.size:=by
 obtain⟨w',g,i,j,l,o⟩:=H9 q p h.1 a b (.int .i64 n);refine⟨w',g,⟨i,λes c e x z=>?_⟩,j,l⟩;rcases o es c e x z with h|⟨f,bu,d,C,B,u⟩
 .exact⟨n,h⟩
 .obtain⟨cM,r⟩:=h.2 f bu d C B
  exact⟨cM,u.symm.trans r⟩
end
end Go.aN
namespace Go.aN
attribute [-simp] Go.Sem.runT_eq
open Go.Proofs
def py:Array Oper:=#[⟨some 2,.binOp .eql 110 (.tmp 0) (.const .nilIface) 110,4,"",#[],none⟩]
def qQ:Array Oper:=#[⟨some 4,.assign (.const (.bool false)),4,"",#[],none⟩]
def kA:Code:=.cond (.tmp 2) (.seq (.region 1 qQ false) .ret) (.refuse "")
def vk:Code:=.seq (.region 0 py false) kA
def lh:Array Oper:=#[⟨some 3,.binOp .eql 257 (.tmp 0) (.const (.pointer none)) 257,4,"",#[],none⟩]
def kn(a:Int):Array Oper:=#[⟨some 1,.load 21 (.tmp 0),21,"",#[],none⟩,⟨some 2,.binOp .eql 21 (.tmp 1) (.const (.int .i32 a)) 21,4,"",#[⟨0,.data⟩],none⟩]
def g8(b:Int):Array Oper:=#[⟨none,.store 21 (.tmp 0) (.const (.int .i32 b)),0,"",#[],none⟩]
def jF(a b:Int):Code:=.seq (.region 1 (kn a) false) (.cond (.tmp 2) (.seq (.region 2 (g8 b) false) .ret) (.refuse ""))
def oB(a b:Int):Code:=.seq (.region 0 lh false) (.cond (.tmp 3) (.refuse "") (jF a b))
noncomputable def q0:Func:={Tryz.f54 with body:=some vk,results:=#[.tmp 4],nfree:=2,endLine:=1000000007}
noncomputable def pG:Func:={Tryz.f121 with body:=some (oB 0 1),results:=#[],nfree:=1,endLine:=1000000007}
noncomputable def pH:Func:={Tryz.f122 with body:=some (oB 1 0),results:=#[],nfree:=1,endLine:=1000000007}
noncomputable def vc:List (Nat×Func):=[(54,q0),(88,Tryz.f88),(121,pG),(122,pH),(123,Tryz.f123)]
def ye:List Nat:=[64,79,80,82,83,137,187]
end Go.aN
