/- Part 22 of a law on fees: no conditions. -/
import Derived.Test.YthiiblonjmmnfaaGreatDoorP20
set_option maxHeartbeats 8000000
set_option maxRecDepth 100000
set_option linter.all false
namespace Go.aN
open Go.Proofs Go.RowKit
section
variable{A:Array Func}
def tN(b:Bool):Value:=.int .u32 (if b then 1 else 0)
def iO(d:cR)(aU:Nat->Bool)(k day:Nat):Value:=.int .i64 (if aU k then cC d k day else 0)
def hH(d:cR)(p:dU)(aU:Nat->Bool):Array Value:=#[.int .i64 d.kinds,.slice (some ⟨p.gv,p.hj,none⟩) d.kinds p.eT,.slice (some ⟨p.j9,p.lg,none⟩) d.eY p.h8,.slice p.hE d.fC p.h9,
 tN (aU 0),.int .i32 0,.int .u32 0,tN (aU 1),.int .i32 0,.int .u32 0,tN (aU 2),.int .i32 0,.int .u32 0,
 iO d aU 0 0,iO d aU 0 1,iO d aU 0 2,iO d aU 0 3,iO d aU 0 4,iO d aU 1 0,iO d aU 1 1,iO d aU 1 2,iO d aU 1 3,iO d aU 1 4,iO d aU 2 0,iO d aU 2 1,iO d aU 2 2,iO d aU 2 3,iO d aU 2 4]
def NY(d:cR)(p:dU):hH d p (λ_=>false)=l4 d p:=rfl
def pT(aU:Nat->Bool)(k:Nat)(j:Nat):Bool:=if j=k then true else aU j
def x6(d:cR)(k:Nat)(c:Array Value):Array Value:=((((c.setIfInBounds (13+k*5) (.int .i64 (cC d k 0))).setIfInBounds (13+k*5+1) (.int .i64 (cC d k 1))).setIfInBounds (13+k*5+2) (.int .i64 (cC d k 2))).setIfInBounds (13+k*5+3) (.int .i64 (cC d k 3))).setIfInBounds (13+k*5+4) (.int .i64 (cC d k 4))
def B3{d:cR}{k j:Nat}{c:Array Value}{x:Value}(h:c[j]?=some x)(f:j<13):(x6 d k c)[j]?=some x:=
 mB (mB (mB (mB (mB h (by omega)) (by omega)) (by omega)) (by omega)) (by omega)
def NZ(d:cR)(p:dU)(aU:Nat->Bool){k:Nat}(c:k<3):((x6 d k ((hH d p aU).setIfInBounds (4+k*3+1) (.int .i32 1))).setIfInBounds (4+k*3) (.int .u32 1)).setIfInBounds (4+k*3+1) (.int .i32 0)=hH d p (pT aU k):=by
 rcases k with _|_|_|k
 .kernel_rfl
 .kernel_rfl
 .kernel_rfl
 .omega
def N0(d:cR)(p:dU)(aU:Nat->Bool){k:Nat}(c:k<3):(hH d p aU)[4+k*3]?=some (tN (aU k))/\(hH d p aU)[4+k*3+1]?=some (.int .i32 0)/\(hH d p aU)[2]?=some (.slice (some ⟨p.j9,p.lg,none⟩) d.eY p.h8)/\(hH d p aU)[3]?=some (.slice p.hE d.fC p.h9)/\(hH d p aU).size=28:=by
 rcases k with _|_|_|k
 .exact⟨rfl,rfl,rfl,rfl,rfl⟩
 .exact⟨rfl,rfl,rfl,rfl,rfl⟩
 .exact⟨rfl,rfl,rfl,rfl,rfl⟩
 .omega
def N2(d:cR)(p:dU)(aU:Nat->Bool){k:Nat}(c:k<3)(hd:aU k=true):(hH d p aU)[13+k*5]?=some (.int .i64 (cC d k 0))/\(hH d p aU)[13+k*5+1]?=some (.int .i64 (cC d k 1))/\(hH d p aU)[13+k*5+2]?=some (.int .i64 (cC d k 2))/\(hH d p aU)[13+k*5+3]?=some (.int .i64 (cC d k 3))/\(hH d p aU)[13+k*5+4]?=some (.int .i64 (cC d k 4)):=by
 rcases k with _|_|_|k
 .simp[hH,iO,hd]
 .simp[hH,iO,hd]
 .simp[hH,iO,hd]
 .omega
structure dU.off(p:dU)(d:cR)(T:Nat):Prop where
 F:p.gv≠T
 R:p.j9≠T
 P:∀i,i<d.eY->p.im i≠T
 rL:∀b o,d.fC≠0->p.hE=some ⟨b,o,none⟩->b≠T
def fy.uw{w w':World}{d:cR}{p:dU}{T:Nat}(h:fy w d p)(g:w.grownBy w' (some T))(f:p.off d T):fy w' d p where
 first:=h.first.keep g (by have:=f.F;simpa using this)
 dz i c:=g.cell (h.dz i c) (by have:=f.R;simpa using this)
 rows i c:=g.cell (h.rows i c) (by have:=f.R;simpa using this)
 fD i c:=(h.fD i c).keep g (by have:=f.P i c;simpa using this)
 free j:=by obtain⟨b,o,e,k⟩:=h.free j;exact⟨b,o,e,k.keep g (by have:=f.rL b o j e;simpa using this)⟩
def Kq{c:World}{B:Nat}(t:Nat->Int)(h:c.heap[B]?=some (.cells #[.int .i64 0,.int .i64 0,.int .i64 0,.int .i64 0,.int .i64 0] 102)):(((((c.setCell ⟨B,0,none⟩ (.int .i64 (t 0))).setCell ⟨B,1,none⟩ (.int .i64 (t 1))).setCell ⟨B,2,none⟩ (.int .i64 (t 2))).setCell ⟨B,3,none⟩ (.int .i64 (t 3))).setCell ⟨B,4,none⟩ (.int .i64 (t 4))).drew.heap[B]?=some (.cells (hT t) 102):=by have d:=cQ (o:=0) (v:=.int .i64 (t 0)) h;have kQ:=cQ (o:=1) (v:=.int .i64 (t 1)) d;have f:=cQ (o:=2) (v:=.int .i64 (t 2)) kQ;have g:=cQ (o:=3) (v:=.int .i64 (t 3)) f;have i:=cQ (o:=4) (v:=.int .i64 (t 4)) g;rw[m3,i];rfl
def Kp{d:World}{B b:Nat}(t:Nat->Int)(c:b≠B):(((((d.setCell ⟨B,0,none⟩ (.int .i64 (t 0))).setCell ⟨B,1,none⟩ (.int .i64 (t 1))).setCell ⟨B,2,none⟩ (.int .i64 (t 2))).setCell ⟨B,3,none⟩ (.int .i64 (t 3))).setCell ⟨B,4,none⟩ (.int .i64 (t 4))).drew.heap[b]?=d.heap[b]?:=by rw[m3,ft c,ft c,ft c,ft c,ft c]
def Ko{w d:World}{B:Nat}{row:Option Nat}(t:Nat->Int)(h:w.grownBy d row)(c:w.heap.size<=B):w.grownBy (((((d.setCell ⟨B,0,none⟩ (.int .i64 (t 0))).setCell ⟨B,1,none⟩ (.int .i64 (t 1))).setCell ⟨B,2,none⟩ (.int .i64 (t 2))).setCell ⟨B,3,none⟩ (.int .i64 (t 3))).setCell ⟨B,4,none⟩ (.int .i64 (t 4))).drew row:=
 fQ (kC (kC (kC (kC (kC h c) c) c) c) c)
def LH:((ag A).info? 102).map (·.size)=some 5:=by kernel_rfl
def KH[S:Std A][P:gg A](d:cR)(ok:d.ok)(p:dU)(k:Nat)(aa:k<d.kinds)(T:Nat)(ad:p.off d T)(aU:Nat->Bool)(w:World)(h:fy w d p)(E:w.heap[T]?=some (.cells (hH d p aU) 105)):
 Calls (ag A) 37 #[.pointer (some ⟨T,0,none⟩),.int .i64 k] w λe w'=>e=.returned (.agg #[.int .i64 (cC d k 0),.int .i64 (cC d k 1),.int .i64 (cC d k 2),.int .i64 (cC d k 3),.int .i64 (cC d k 4)])/\w'.heap[T]?=some (.cells (hH d p (pT aU k)) 105)/\w.grownBy w' (some T):=by
 have al:=ok.kinds;have G:k<3:=by omega
 have Z:=bp E;obtain⟨c,l⟩:∃W,W=((w.alloc (.cells #[.pointer (some ⟨T,0,none⟩)] 60)).alloc (.cells #[.int .i64 k] 3)).alloc (.cells #[.int .i64 0,.int .i64 0,.int .i64 0,.int .i64 0,.int .i64 0] 102):=⟨_,rfl⟩
 have C:w.grownBy c none:=by rw[l];exact(Pn.trans Pn).trans Pn
 have B:c.cell? ⟨w.heap.size,0,none⟩=some (.pointer (some ⟨T,0,none⟩)):=by rw[l,Pz _ _ _ (by simp;omega),Pz _ _ _ (by simp),Pr rfl];rfl
 have D:c.cell? ⟨w.heap.size+1,0,none⟩=some (.int .i64 k):=by rw[l,Pz _ _ _ (by simp),Pr (by simp)];rfl
 have I:c.heap[w.heap.size+1+1]?=some (.cells #[.int .i64 0,.int .i64 0,.int .i64 0,.int .i64 0,.int .i64 0] 102):=by rw[l,show w.heap.size+1+1=((w.alloc (.cells #[.pointer (some ⟨T,0,none⟩)] 60)).alloc (.cells #[.int .i64 k] 3)).heap.size by simp];exact gA _ _
 have M:c.heap.size=w.heap.size+1+1+1:=by rw[l];simp
 have J:=(C.block T Z (by simp)).trans E;have H:Calls (ag A) 56 #[.pointer (some ⟨T,4+k*3,none⟩),.func (.func 57) #[] #[.pointer (some ⟨w.heap.size,0,none⟩),.pointer (some ⟨w.heap.size+1,0,none⟩)]] c.drew λe w'=>e=.returned (.tuple #[])/\w'.heap[T]?=some (.cells (hH d p (pT aU k)) 105)/\c.drew.grownBy w' (some T):=by
  obtain⟨u,q1,ae,af,ah⟩:=N0 d p aU G;have F:c.drew.heap[T]?=some (.cells (hH d p aU) 105):=J;cases hd:aU k with
  |true=>
   rw[hd]at u;refine(FO ⟨T,4+k*3,none⟩ _ c.drew (by rw[aT F];exact u)).mono ?_;rintro e w' ⟨rfl,rfl⟩;have X:pT aU k=aU:=funext λj=>by unfold pT;split<;>simp_all
   rw[X];exact⟨rfl,F,Pw _ _⟩
  |false=>
   rw[hd]at u;have:=FP (A:=A) T (4+k*3) w.heap.size (w.heap.size+1) (hH d p aU) (x6 d k ((hH d p aU).setIfInBounds (4+k*3+1) (.int .i32 1))) c.drew F u q1 (B3 (mB u (by omega)) (by omega)) (B3 (by rw[PC (by omega)]) (by omega)) λW hW r=>?_
   .rw[NZ d p aU G]at this
    exact this
   .have Y:w.grownBy W (some T):=(lO (some T) (C.trans (fQ (Pw _ _)))).trans r
    exact Fw d ok p k aa T w.heap.size (w.heap.size+1) W (h.uw Y ad) (r.cell (w:=c.drew) B (by simp;omega)) (r.cell (w:=c.drew) D (by simp;omega)) (by have:=r.size;have e:c.drew.heap.size=c.heap.size:=rfl;omega) (by have:=r.size;have e:c.drew.heap.size=c.heap.size:=rfl;omega) _ (by rw[Array.size_setIfInBounds];exact ah) hW (mB ae (by omega)) (mB af (by omega))
 subst l;have R:=Pj H;have V:=Pj C;have Q:=Pj I;clear H C I J h E;go_enter P.f51,Tryz.ntmps37;go_wp2;go_region_with (go_at_call 56;refine R.out.mono ?_;rintro e g ⟨rfl,K,L⟩;have i:=Pj K;have z:=Pj L;clear K L)
 all_goals (
  have aj:=z.out.cell (w:=World.drew _) B (by simp;omega);have ak:=z.out.cell (w:=World.drew _) D (by simp;omega);have f:=(z.out.block (w.heap.size+1+1) (by rw[m3,M];omega) (by simp;omega)).trans Q.out;have q:=N2 d p (pT aU k) G (by simp[pT]);have am:g.cell? ⟨T,13+k*5,none⟩=_:=(aT i.out).trans q.1;have ao:g.cell? ⟨T,13+k*5+1,none⟩=_:=(aT i.out).trans q.2.1;have ap:g.cell? ⟨T,13+k*5+2,none⟩=_:=(aT i.out).trans q.2.2.1;have aq:g.cell? ⟨T,13+k*5+3,none⟩=_:=(aT i.out).trans q.2.2.2.1;have ar:g.cell? ⟨T,13+k*5+4,none⟩=_:=(aT i.out).trans q.2.2.2.2;have z0:g.cell? ⟨w.heap.size+1+1,0,none⟩=_:=aT f;have au:g.cell? ⟨w.heap.size+1+1,1,none⟩=_:=aT f;have av:g.cell? ⟨w.heap.size+1+1,2,none⟩=_:=aT f;have z3:g.cell? ⟨w.heap.size+1+1,3,none⟩=_:=aT f;have z4:g.cell? ⟨w.heap.size+1+1,4,none⟩=_:=aT f;have f0:=b1 (o:=0) f;have f1:=b1 (o:=1) f;have f2:=b1 (o:=2) f;have f3:=b1 (o:=3) f;have f4:=b1 (o:=4) f;have U:=Pj f;have ai:=Pj B;clear q f B D M)
 all_goals (
  go_wp2;go_region
  go_wp2;refine bodyPost_ret (results_cell_row rfl _ _ (w.heap.size+1+1) 102 (hT (cC d k)) (0,0) _ rfl (Kq (cC d k) U.out) (ag.underlying103 A) rfl LH) rfl ?_;exact⟨rfl,(Kp (cC d k) (by omega)).trans i.out,Ko (cC d k) (((lO (some T) V.out).trans (fQ (Pw _ _))).trans z.out) (by omega)⟩)
end
section
variable{A:Array Func}
def Ny{d:cR}(ok:d.ok){k:Nat}(c:k<d.kinds)(day:Nat):∀i,i<=d.eY->0<=lp d k i day/\lp d k i day<=9:=by
 intro i;induction i with
 |zero=>intro _;simp[lp]
 |succ i f=>
  intro g;rw[lp];split
  .exact ok.fD i (by omega) k c
  .exact f (by omega)
def oD{d:cR}(ok:d.ok){k:Nat}(c:k<d.kinds)(day:Nat):0<=cC d k day/\cC d k day<=9:=by
 unfold cC;generalize d.fC=n;induction n with
 |zero=>exact Ny ok c day _ Pk
 |succ n f=>
  rw[rf];split
  .simp
  .exact f
def mV{w:World}{a:Addr}{v:Value}(h:w.cell? a=some v):a.block<w.heap.size:=by
 refine Nat.lt_of_not_le λc=>?_
 have e:w.heap[a.block]?=none:=Array.getElem?_eq_none c;simp[World.cell?,e]at h
structure dU.below(p:dU)(d:cR)(B:Nat):Prop where
 F:p.gv<B
 R:p.j9<B
 P:∀i,i<d.eY->p.im i<B
 rL:∀b o,d.fC≠0->p.hE=some ⟨b,o,none⟩->b<B
def fy.below{w:World}{d:cR}{p:dU}(ok:d.ok)(h:fy w d p):p.below d w.heap.size where
 F:=mV (h.first 0 (by have:=ok.kinds;omega))
 R:=mV (h.dz 0 (by have:=ok.eY;omega))
 P i g:=mV (h.fD i g 0 (by have:=ok.kinds;omega))
 rL b o j e:=by
  obtain⟨l,u,c,k⟩:=h.free j;rw[e]at c;injection c with c
  injection c with f q r
  subst f;exact mV (k 0 (by omega))
def fy.si{w w':World}{d:cR}{p:dU}{B:Nat}{row:Option Nat}(h:fy w d p)(g:w.grownBy w' row)(c:p.below d B)(q:∀b,row=some b->B<=b):fy w' d p:=by
 have j:∀b,b<B->some b≠row:=λb c e=>by have:=q b e.symm;omega
 refine⟨h.first.keep g (j _ c.F),λi f=>g.cell (h.dz i f) (j _ c.R),λi f=>g.cell (h.rows i f) (j _ c.R),λi f=>(h.fD i f).keep g (j _ (c.P i f)),λl=>?_⟩;obtain⟨b,o,e,k⟩:=h.free l;exact⟨b,o,e,k.keep g (j _ (c.rL b o l e))⟩
structure fh(d:cR)(p:dU)(T B:Nat)(w:World):Prop where
 sV:fy w d p
 st:∃aU,w.heap[T]?=some (.cells (hH d p aU) 105)
 dm:B<=w.heap.size
def w0(d:cR)(k:Nat):Int:=if k<d.kinds then d.first k else 0
def n0{d:cR}{k:Nat}(h:k<d.kinds):w0 d k=d.first k:=if_pos h
def nx{d:cR}(ok:d.ok){p:dU}{T B:Nat}(f:p.below d B)(j:T<B):nK (fh d p T B) T B p.gv p.hj d.kinds p.eT (w0 d) where
 lt:=⟨j,f.F⟩
 keep w w' row h g i:=⟨h.sV.si g f i,by obtain⟨aU,e⟩:=h.st;exact⟨aU,(g.block T (by have:=h.dm;omega) (λe=>by have:=i T e.symm;omega)).trans e⟩,Po h.dm g.size⟩
 size w h:=h.dm
 mn w h:=by obtain⟨aU,e⟩:=h.st;rw[aT e];rfl
 cell w h k c:=by rw[n0 c];exact h.sV.first k c
 gw k:=by
  unfold w0;split
  .rename_i c
   have:=ok.first k c
   omega
  .simp
def pD[S:Std A][P:gg A]{d:cR}(ok:d.ok){p:dU}{T B:Nat}(j:p.below d B)(f:p.off d T){k:Nat}(i:k<d.kinds):nJ A (fh d p T B) T k (cC d k):=λw h=>by obtain⟨aU,e⟩:=h.st;refine(KH d ok p k i T f aU w h.sV e).mono ?_;rintro e w' ⟨rfl,g,c⟩;exact⟨rfl,⟨h.sV.uw c f,⟨_,g⟩,Po h.dm c.size⟩,c⟩
def qP{d:cR}(ok:d.ok){p:dU}{w w':World}{T:Nat}(h:fy w d p)(r:w.heap.size<=T)(g:w'.heap[T]?=some (.cells (l4 d p) 105))(j:w.grownBy w' none):
 fh d p T w'.heap.size w'/\p.off d T/\p.below d w'.heap.size/\T<w'.heap.size:=by
 have c:=h.below ok;have f:=h.keep j;refine⟨⟨f,⟨λ_=>false,by rw[NY];exact g⟩,Pk⟩,⟨?_,?_,λi l=>?_,λb o q e=>?_⟩,f.below ok,bp g⟩
 .have:=c.F;omega
 .have:=c.R;omega
 .have:=c.P i l;omega
 .have:=c.rL b o q e;omega
def jq{w w3 d:World}{T:Nat}(h:w.grownBy w3 none)(k:w3.grownBy d (some T))(f:w.heap.size<=T):w.grownBy d none:=
 ⟨h.os ▸ k.os,k.tape.trans h.tape,k.output.trans h.output,Po h.size k.size,λi c _=>(k.block i (Px c h.size) (λe=>by cases e;omega)).trans (h.block i c (by simp))⟩
def NK[S:Std A][P:gg A](d:cR)(ok:d.ok)(p:dU)(k:Nat)(Y:k<d.kinds)(left aK:Nat)(Z:left<=aK)(X:aK<120)(w:World)(h:fy w d p):
 Calls (ag A) 19 #[.agg (cO d p),.int .i64 k,.agg #[.int .i64 left,.int .i64 aK],.slice none 0 0] w (p' d p w):=by
 have W:=ok.kinds;have o:w.grownBy ((w.alloc (.cells (cO d p) 27)).alloc (.cells #[.int .i64 left,.int .i64 aK] 59)) none:=Pn.trans Pn;have M:=Pj (xS (A:=A) d ok p _ (h.keep o));have B:=Pj o;have c:((w.alloc (.cells (cO d p) 27)).alloc (.cells #[.int .i64 left,.int .i64 aK] 59)).cell? ⟨w.heap.size+1,0,none⟩=some (.int .i64 left):=by rw[Pr (by simp)];rfl
 have g:((w.alloc (.cells (cO d p) 27)).alloc (.cells #[.int .i64 left,.int .i64 aK] 59)).cell? ⟨w.heap.size+1,1,none⟩=some (.int .i64 aK):=by rw[Pr (by simp)];rfl
 have R:=Pj c;have U:=Pj g;clear o h c g;go_enter (S.f Tryz.func19),Tryz.ntmps19;go_wp2_with (go_at_call 22;refine M.out.mono ?_;rintro e w3 ⟨T,rfl,E,q,j⟩;have c:=j.cell R.out (by simp);have g:=j.cell U.out (by simp);have t0:w3.cell? ⟨T,0,none⟩=some (.int .i64 d.kinds):=(aT q).trans rfl;have C:=Pj q;have I:=Pj j;have Q:=Pj E;clear q j E)
 go_region
 obtain⟨num,z⟩:∃f:Nat->Int,f=λi=>match i with|0=>(k:Int)|1=>left|_=>aK:=⟨_,rfl⟩
 obtain⟨most,u⟩:∃f:Nat->Int,f=λi=>match i with|0=>(d.kinds:Int)-1|_=>119:=⟨_,rfl⟩
 obtain⟨bh,F⟩:∃f:Nat->Int,f=λi=>match i with|0=>(0:Int)|_=>2:=⟨_,rfl⟩
 have H:=Pj (tz (A:=A) w3.heap.size 0 3 3 (by omega) (w3.alloc (.cells #[.int .i64 k,.int .i64 (d.kinds-1),.int .i64 0,.int .i64 left,.int .i64 119,.int .i64 2,.int .i64 aK,.int .i64 119,.int .i64 2] 108)).drew num most bh
  (λi r=>by subst z;rcases i with _|_|_|i<;>first|omega|(rw[World.cell?_drew,Pr rfl];rfl))
  (λi r=>by subst u;rcases i with _|_|_|i<;>first|omega|(rw[World.cell?_drew,Pr rfl];rfl))
  (λi r=>by subst F;rcases i with _|_|_|i<;>first|omega|(rw[World.cell?_drew,Pr rfl];rfl))
  (λi r=>by subst z;subst u;rcases i with _|_|_|i<;>first|omega|(simp;omega)))
 clear z u F;have L:=Pj (tV (A:=A));go_wp2_with (first|(go_at_call 35;refine H.out.mono ?_;rintro e aa ⟨rfl,l⟩;have c:=l.cell (w:=World.drew _) (a:=⟨w.heap.size+1,0,none⟩) (((Pz _ _ _ (mV c)).trans c)) (by simp);have g:=l.cell (w:=World.drew _) (a:=⟨w.heap.size+1,1,none⟩) (((Pz _ _ _ (mV g)).trans g)) (by simp);have J:=Pj l;clear l)|(go_at_call 36;refine(L.out _).mono ?_;rintro e V ⟨rfl,G⟩;have K:=Pj G;clear G))
 go_ret2
 have D:w3.grownBy V none:=((fQ Pn).trans J.out).trans K.out;refine⟨T,rfl,?_,(D.block T (bp C.out) (by simp)).trans C.out,(B.out.trans I.out).trans D⟩;have:=Q.out;have e:=B.out.size;omega
def Hl[S:Std A][P:gg A](d:cR)(ok:d.ok)(p:dU)(k:Nat)(g:k<d.kinds)(left aK:Nat)(L:left<=aK)(z:aK<120)(w:World)(h:fy w d p):
 Calls (ag A) 9 #[.agg (cO d p),.int .i64 k,.int .i64 left,.int .i64 aK] w λe w'=>e=.returned (.tuple #[.int .i64 (fP (d.first k) (cC d k) left aK),.int .i64 0])/\w.grownBy w' none:=by
 have M:=ok.kinds;have l:w.grownBy ((w.alloc (.cells (cO d p) 27)).alloc (.cells #[.int .i64 left,.int .i64 aK] 59)) none:=Pn.trans Pn;have G:=Pj (NK (A:=A) d ok p k g left aK L z _ (h.keep l));have j:=Pj l;have o:((w.alloc (.cells (cO d p) 27)).alloc (.cells #[.int .i64 left,.int .i64 aK] 59)).cell? ⟨w.heap.size+1,0,none⟩=some (.int .i64 left):=by rw[Pr (by simp)];rfl
 have q:((w.alloc (.cells (cO d p) 27)).alloc (.cells #[.int .i64 left,.int .i64 aK] 59)).cell? ⟨w.heap.size+1,1,none⟩=some (.int .i64 aK):=by rw[Pr (by simp)];rfl
 have I:=Pj o;have J:=Pj q;have H:=Pj h;clear l h o q;have D:=Pj λ(T:Nat) (w3:World) (f:((w.alloc (.cells (cO d p) 27)).alloc (.cells #[.int .i64 left,.int .i64 aK] 59)).heap.size<=T) (i:w3.heap[T]?=some (.cells (l4 d p) 105)) (c:((w.alloc (.cells (cO d p) 27)).alloc (.cells #[.int .i64 left,.int .i64 aK] 59)).grownBy w3 none)=>
  have x:=qP ok (H.out.keep j.out) f i c;qs (F:=A) (nx ok x.2.2.1 x.2.2.2) (k:=k) g (by omega) (ba:=cC d k) (λday=>by have:=oD ok g day;omega) (pD ok x.2.2.1 x.2.1 g) left aK (by omega) z w3 x.1
 go_enter (S.f Tryz.func9),Tryz.ntmps9;go_wp2_with (first|(go_at_call 19;refine G.out.mono ?_;rintro e w3 ⟨T,rfl,f,i,c⟩;have o:=c.cell I.out (by simp);have q:=c.cell J.out (by simp);have C:=Pj i;have r:=Pj c;have u:=Pj f;clear i c f)|(go_at_call 21;refine(m' _ _).mono ?_;rintro e w' ⟨rfl,rfl⟩))
 refine(D.out T w3 u.out C.out r.out).mono ?_;rintro e Q ⟨rfl,K,B⟩;have E:=Pj B;clear B K;go_wp2_with (go_at_call 21;refine(m' _ _).mono ?_;rintro e w' ⟨rfl,rfl⟩)
 go_ret2
 rw[n0 g];refine⟨rfl,?_⟩;have f:=u.out;have e:=j.out.size;exact jq (j.out.trans r.out) E.out (by omega)
end
end Go.aN
