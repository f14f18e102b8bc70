/- A part. -/
import Derived.Test.YtejkocoljbaioaaGreatDoorP16
set_option maxHeartbeats 8000000
set_option maxRecDepth 100000
set_option linter.all false
namespace Go.aO
open Go.Proofs Go.RowKit
variable{B T k:Nat}{row:Option Nat}{w w':World}
section
variable{A:Array Func}
def vU(b:Bool):Value:=.int .u32 (if b then 1 else 0)
def j6(d:cC)(aY:Nat->Bool)(k day:Nat):Value:=ah (if aY k then cX d k day else 0)
def iU(d:cC)(p:eg)(aY:Nat->Bool):Array Value:=#[ah d.kinds,.slice (some ⟨p.gg,p.hG,none⟩) d.kinds p.cA,.slice (some ⟨p.fV,p.gU,none⟩) d.bk p.dq,.slice p.ei d.b' p.dc,
 vU (aY 0),.int .i32 0,.int .u32 0,vU (aY 1),.int .i32 0,.int .u32 0,vU (aY 2),.int .i32 0,.int .u32 0,
 j6 d aY 0 0,j6 d aY 0 1,j6 d aY 0 2,j6 d aY 0 3,j6 d aY 0 4,j6 d aY 1 0,j6 d aY 1 1,j6 d aY 1 2,j6 d aY 1 3,j6 d aY 1 4,j6 d aY 2 0,j6 d aY 2 1,j6 d aY 2 2,j6 d aY 2 3,j6 d aY 2 4]
def Rl(d:cC)(p:eg):iU d p (λ_=>false)=nD d p:=rfl
def rH(aY:Nat->Bool)(k:Nat)(j:Nat):Bool:=if j=k then true else aY j
def Ao(d:cC)(k:Nat)(c:Array Value):Array Value:=((((c.setIfInBounds (13+k*5) (ah (cX d k 0))).setIfInBounds (13+k*5+1) (ah (cX d k 1))).setIfInBounds (13+k*5+2) (ah (cX d k 2))).setIfInBounds (13+k*5+3) (ah (cX d k 3))).setIfInBounds (13+k*5+4) (ah (cX d k 4))
def EV{d:cC}{j:Nat}{c:Array Value}{x:Value}(h:c[j]?=some x)(f:j<13):(Ao d k c)[j]?=some x:=
 od (od (od (od (od h U) U) U) U) U
def Rm(d:cC)(p:eg)(aY:Nat->Bool)(c:k<3):((Ao d k ((iU d p aY).setIfInBounds (4+k*3+1) (.int .i32 1))).setIfInBounds (4+k*3) (.int .u32 1)).setIfInBounds (4+k*3+1) (.int .i32 0)=iU d p (rH aY k):=by
 rcases k with _|_|_|k
 .kernel_rfl
 .kernel_rfl
 .kernel_rfl
 .omega
def Rn(d:cC)(p:eg)(aY:Nat->Bool)(c:k<3):(iU d p aY)[4+k*3]?=some (vU (aY k))/\(iU d p aY)[4+k*3+1]?=some (.int .i32 0)/\(iU d p aY)[2]?=some (.slice (some ⟨p.fV,p.gU,none⟩) d.bk p.dq)/\(iU d p aY)[3]?=some (.slice p.ei d.b' p.dc)/\(iU d p aY).size=28:=by
 rcases k with _|_|_|k
 .exact⟨rfl,rfl,rfl,rfl,rfl⟩
 .exact⟨rfl,rfl,rfl,rfl,rfl⟩
 .exact⟨rfl,rfl,rfl,rfl,rfl⟩
 .omega
def Rp(d:cC)(p:eg)(aY:Nat->Bool)(c:k<3)(hd:aY k=true):(iU d p aY)[13+k*5]?=some (ah (cX d k 0))/\(iU d p aY)[13+k*5+1]?=some (ah (cX d k 1))/\(iU d p aY)[13+k*5+2]?=some (ah (cX d k 2))/\(iU d p aY)[13+k*5+3]?=some (ah (cX d k 3))/\(iU d p aY)[13+k*5+4]?=some (ah (cX d k 4)):=by
 rcases k with _|_|_|k
 .simp[iU,j6,hd]
 .simp[iU,j6,hd]
 .simp[iU,j6,hd]
 .omega
structure eg.off(p:eg)(d:cC)(T:Nat):Prop where
 F:p.gg≠T
 R:p.fV≠T
 P:∀i,i<d.bk->p.dj i≠T
 h4:∀b o,d.b'≠0->p.ei=some ⟨b,o,none⟩->b≠T
def e'.wQ{d:cC}{p:eg}(h:e' w d p)(g:w.grownBy w' (some T))(f:p.off d T):e' w' d p where
 first:=h.first.keep g (by have:=f.F;simpa using this)
 bV i c:=g.cell (h.bV i c) (by have:=f.R;simpa using this)
 rows i c:=g.cell (h.rows i c) (by have:=f.R;simpa using this)
 cQ i c:=(h.cQ i c).keep g (by have:=f.P i c;simpa using this)
 free j:=by obtain⟨b,o,e,k⟩:=h.free j;exact⟨b,o,e,k.keep g (by have:=f.h4 b o j e;simpa using this)⟩
def NA{c:World}(t:Nat->Int)(h:c.heap[B]?=some (.cells #[ah 0,ah 0,ah 0,ah 0,ah 0] 97)):(((((c.setCell ⟨B,0,none⟩ (ah (t 0))).setCell ⟨B,1,none⟩ (ah (t 1))).setCell ⟨B,2,none⟩ (ah (t 2))).setCell ⟨B,3,none⟩ (ah (t 3))).setCell ⟨B,4,none⟩ (ah (t 4))).drew.heap[B]?=some (.cells (jg t) 97):=by have d:=cU (o:=0) (v:=ah (t 0)) h;have mf:=cU (o:=1) (v:=ah (t 1)) d;have f:=cU (o:=2) (v:=ah (t 2)) mf;have g:=cU (o:=3) (v:=ah (t 3)) f;have i:=cU (o:=4) (v:=ah (t 4)) g;rw[oL,i];rfl
def Nz{d:World}{b:Nat}(t:Nat->Int)(c:b≠B):(((((d.setCell ⟨B,0,none⟩ (ah (t 0))).setCell ⟨B,1,none⟩ (ah (t 1))).setCell ⟨B,2,none⟩ (ah (t 2))).setCell ⟨B,3,none⟩ (ah (t 3))).setCell ⟨B,4,none⟩ (ah (t 4))).drew.heap[b]?=d.heap[b]?:=by rw[oL,e1 c,e1 c,e1 c,e1 c,e1 c]
def Ny{d:World}(t:Nat->Int)(h:w.grownBy d row)(c:w.heap.size<=B):w.grownBy (((((d.setCell ⟨B,0,none⟩ (ah (t 0))).setCell ⟨B,1,none⟩ (ah (t 1))).setCell ⟨B,2,none⟩ (ah (t 2))).setCell ⟨B,3,none⟩ (ah (t 3))).setCell ⟨B,4,none⟩ (ah (t 4))).drew row:=
 gv (lW (lW (lW (lW (lW h c) c) c) c) c)
def O4:((ao A).info? 97).map (·.size)=some 5:=av
def NT[S:Std A][P:hA A](d:cC)(ok:d.ok)(p:eg)(k:Nat)(ad:k<d.kinds)(T:Nat)(ae:p.off d T)(aY:Nat->Bool)(w:World)(h:e' w d p)(E:w.heap[T]?=some (.cells (iU d p aY) 100)):
 Calls (ao A) 42 #[.pointer (some ⟨T,0,none⟩),ah k] w λe w'=>e=.returned (.agg #[ah (cX d k 0),ah (cX d k 1),ah (cX d k 2),ah (cX d k 3),ah (cX d k 4)])/\w'.heap[T]?=some (.cells (iU d p (rH aY k)) 100)/\w.grownBy w' (some T):=by
 have am:=ok.kinds;have G:k<3:=U;have aa:=bu E;obtain⟨c,l⟩:∃W,W=((w.alloc (.cells #[.pointer (some ⟨T,0,none⟩)] 76)).alloc (.cells #[ah k] 3)).alloc (.cells #[ah 0,ah 0,ah 0,ah 0,ah 0] 97):=⟨_,rfl⟩
 have B:w.grownBy c none:=by rw[l];exact(bT.trans bT).trans bT
 have C:c.cell? ⟨w.heap.size,0,none⟩=some (.pointer (some ⟨T,0,none⟩)):=by rw[l,hD _ _ _ cH,hD _ _ _ aF,dR rfl];rfl
 have D:c.cell? ⟨w.heap.size+1,0,none⟩=some (ah k):=by rw[l,hD _ _ _ aF,dR aF];rfl
 have I:c.heap[w.heap.size+1+1]?=some (.cells #[ah 0,ah 0,ah 0,ah 0,ah 0] 97):=by rw[l,show w.heap.size+1+1=((w.alloc (.cells #[.pointer (some ⟨T,0,none⟩)] 76)).alloc (.cells #[ah k] 3)).heap.size by simp];exact fM _ _
 have M:c.heap.size=w.heap.size+1+1+1:=by rw[l];simp
 have J:=(B.block T aa aF).trans E;have H:Calls (ao A) 73 #[.pointer (some ⟨T,4+k*3,none⟩),.func (.func 74) #[] #[.pointer (some ⟨w.heap.size,0,none⟩),.pointer (some ⟨w.heap.size+1,0,none⟩)]] c.drew λe w'=>e=.returned (.tuple #[])/\w'.heap[T]?=some (.cells (iU d p (rH aY k)) 100)/\c.drew.grownBy w' (some T):=by
  obtain⟨u,q1,af,ag,ai⟩:=Rn d p aY G;have F:c.drew.heap[T]?=some (.cells (iU d p aY) 100):=J;cases hd:aY k with
  |true=>
   rw[hd]at u;refine(I9 ⟨T,4+k*3,none⟩ _ c.drew (by rw[aU F];exact u)).mono ?_;rintro e w' ⟨rfl,rfl⟩;have Y:rH aY k=aY:=funext λj=>by unfold rH;split<;>simp_all
   rw[Y];exact⟨rfl,F,e6 _ _⟩
  |false=>
   rw[hd]at u;have:=I' (A:=A) T (4+k*3) w.heap.size (w.heap.size+1) (iU d p aY) (Ao d k ((iU d p aY).setIfInBounds (4+k*3+1) (.int .i32 1))) c.drew F u q1 (EV (od u U) U) (EV (by rw[iO U]) U) λW hW r=>?_
   .rw[Rm d p aY G]at this
    exact this
   .have Z:w.grownBy W (some T):=(nf (some T) (B.trans (gv (e6 _ _)))).trans r
    exact IP d ok p k ad T w.heap.size (w.heap.size+1) W (h.wQ Z ae) (r.cell (w:=c.drew) C cH) (r.cell (w:=c.drew) D cH) (by have:=r.size;have e:c.drew.heap.size=c.heap.size:=rfl;omega) (by have:=r.size;have e:c.drew.heap.size=c.heap.size:=rfl;omega) _ (by rw[Array.size_setIfInBounds];exact ai) hW (od af U) (od ag U)
 subst l;have R:=al H;have X:=al B;have Q:=al I;clear H B I J h E;go_enter P.f51,Tryz.ntmps42;go_wp2;go_region_with (go_at_call 73;refine R.out.mono ?_;rintro e g ⟨rfl,K,L⟩;have i:=al K;have z:=al L;clear K L)
 all_goals (
  have aj:=z.out.cell (w:=World.drew _) C cH;have ak:=z.out.cell (w:=World.drew _) D cH;have f:=(z.out.block (w.heap.size+1+1) (by rw[oL,M];omega) cH).trans Q.out;have q:=Rp d p (rH aY k) G (by simp[rH]);have ap:g.cell? ⟨T,13+k*5,none⟩=_:=(aU i.out).trans q.1;have aq:g.cell? ⟨T,13+k*5+1,none⟩=_:=(aU i.out).trans q.2.1;have ar:g.cell? ⟨T,13+k*5+2,none⟩=_:=(aU i.out).trans q.2.2.1;have au:g.cell? ⟨T,13+k*5+3,none⟩=_:=(aU i.out).trans q.2.2.2.1;have av:g.cell? ⟨T,13+k*5+4,none⟩=_:=(aU i.out).trans q.2.2.2.2;have z0:g.cell? ⟨w.heap.size+1+1,0,none⟩=_:=aU f;have aw:g.cell? ⟨w.heap.size+1+1,1,none⟩=_:=aU f;have ax:g.cell? ⟨w.heap.size+1+1,2,none⟩=_:=aU f;have z3:g.cell? ⟨w.heap.size+1+1,3,none⟩=_:=aU f;have z4:g.cell? ⟨w.heap.size+1+1,4,none⟩=_:=aU f;have f0:=b3 (o:=0) f;have f1:=b3 (o:=1) f;have f2:=b3 (o:=2) f;have f3:=b3 (o:=3) f;have f4:=b3 (o:=4) f;have V:=al f;clear q f C D M)
 all_goals (
  go_wp2;go_region
  go_wp2;refine bodyPost_ret (results_cell_row rfl _ _ (w.heap.size+1+1) 97 (jg (cX d k)) (0,0) _ rfl (NA (cX d k) V.out) (ao.underlying103 A) rfl O4) rfl ?_;exact⟨rfl,(Nz (cX d k) U).trans i.out,Ny (cX d k) (((nf (some T) X.out).trans (gv (e6 _ _))).trans z.out) U⟩)
def QY{d:cC}(ok:d.ok)(c:k<d.kinds)(day:Nat):∀i,i<=d.bk->0<=mQ d k i day/\mQ d k i day<=9:=by
 intro i;induction i with
 |zero=>intro _;simp[mQ]
 |succ i f=>
  intro g;rw[mQ];split
  .exact ok.cQ i U k c
  .exact f U
def ql{d:cC}(ok:d.ok)(c:k<d.kinds)(day:Nat):0<=cX d k day/\cX d k day<=9:=by
 unfold cX;generalize d.b'=n;induction n with
 |zero=>exact QY ok c day _ bg
 |succ n f=>
  rw[te];split
  .simp
  .exact f
def lD{a:Addr}{v:Value}(h:w.cell? a=some v):a.block<w.heap.size:=by
 refine Nat.lt_of_not_le λc=>?_
 have e:w.heap[a.block]?=none:=Array.getElem?_eq_none c;simp[World.cell?,e]at h
structure eg.below(p:eg)(d:cC)(B:Nat):Prop where
 F:p.gg<B
 R:p.fV<B
 P:∀i,i<d.bk->p.dj i<B
 h4:∀b o,d.b'≠0->p.ei=some ⟨b,o,none⟩->b<B
def e'.below{d:cC}{p:eg}(ok:d.ok)(h:e' w d p):p.below d w.heap.size where
 F:=lD (h.first 0 (by have:=ok.kinds;omega))
 R:=lD (h.bV 0 (by have:=ok.bk;omega))
 P i g:=lD (h.cQ i g 0 (by have:=ok.kinds;omega))
 h4 b o j e:=by
  obtain⟨l,u,c,k⟩:=h.free j;rw[e]at c;injection c with c
  injection c with f q r
  subst f;exact lD (k 0 U)
def e'.uq{d:cC}{p:eg}(h:e' w d p)(g:w.grownBy w' row)(c:p.below d B)(q:∀b,row=some b->B<=b):e' w' d p:=by
 have j:∀b,b<B->some b≠row:=λb c e=>by have:=q b e.symm;omega
 refine⟨h.first.keep g (j _ c.F),λi f=>g.cell (h.bV i f) (j _ c.R),λi f=>g.cell (h.rows i f) (j _ c.R),λi f=>(h.cQ i f).keep g (j _ (c.P i f)),λl=>?_⟩;obtain⟨b,o,e,k⟩:=h.free l;exact⟨b,o,e,k.keep g (j _ (c.h4 b o l e))⟩
structure gp(d:cC)(p:eg)(T B:Nat)(w:World):Prop where
 tf:e' w d p
 st:∃aY,w.heap[T]?=some (.cells (iU d p aY) 100)
 dD:B<=w.heap.size
def zj(d:cC)(k:Nat):Int:=if k<d.kinds then d.first k else 0
def pT{d:cC}(h:k<d.kinds):zj d k=d.first k:=if_pos h
def pg{d:cC}(ok:d.ok){p:eg}(f:p.below d B)(j:T<B):pB (gp d p T B) T B p.gg p.hG d.kinds p.cA (zj d) where
 lt:=⟨j,f.F⟩
 keep w w' row h g i:=⟨h.tf.uq g f i,by obtain⟨aY,e⟩:=h.st;exact⟨aY,(g.block T (by have:=h.dD;omega) (λe=>by have:=i T e.symm;omega)).trans e⟩,cL h.dD g.size⟩
 size w h:=h.dD
 k5 w h:=by obtain⟨aY,e⟩:=h.st;rw[aU e];rfl
 cell w h k c:=by rw[pT c];exact h.tf.first k c
 hL k:=by
  unfold zj;split
  .rename_i c
   have:=ok.first k c
   omega
  .simp
def rk[S:Std A][P:hA A]{d:cC}(ok:d.ok){p:eg}(j:p.below d B)(f:p.off d T)(i:k<d.kinds):pA A (gp d p T B) T k (cX d k):=λw h=>by obtain⟨aY,e⟩:=h.st;refine(NT d ok p k i T f aY w h.tf e).mono ?_;rintro e w' ⟨rfl,g,c⟩;exact⟨rfl,⟨h.tf.wQ c f,⟨_,g⟩,cL h.dD c.size⟩,c⟩
def sO{d:cC}(ok:d.ok){p:eg}(h:e' w d p)(r:w.heap.size<=T)(g:w'.heap[T]?=some (.cells (nD d p) 100))(j:w.grownBy w' none):
 gp d p T w'.heap.size w'/\p.off d T/\p.below d w'.heap.size/\T<w'.heap.size:=by
 have c:=h.below ok;have f:=h.keep j;refine⟨⟨f,⟨λ_=>false,by rw[Rl];exact g⟩,bg⟩,⟨?_,?_,λi l=>?_,λb o q e=>?_⟩,f.below ok,bu g⟩
 .have:=c.F;omega
 .have:=c.R;omega
 .have:=c.P i l;omega
 .have:=c.h4 b o q e;omega
def kH{w3 d:World}(h:w.grownBy w3 none)(k:w3.grownBy d (some T))(f:w.heap.size<=T):w.grownBy d none:=
 ⟨h.os ▸ k.os,k.tape.trans h.tape,k.output.trans h.output,cL h.size k.size,λi c _=>(k.block i (gu c h.size) (λe=>by cases e;omega)).trans (h.block i c aF)⟩
def Q'[S:Std A][P:hA A](d:cC)(ok:d.ok)(p:eg)(k:Nat)(Z:k<d.kinds)(left aP:Nat)(aa:left<=aP)(Y:aP<120)(w:World)(h:e' w d p):
 Calls (ao A) 46 #[.agg (dv d p),ah k,.agg #[ah left,ah aP],.slice none 0 0] w (rU d p w):=by
 have X:=ok.kinds;have o:w.grownBy ((w.alloc (.cells (dv d p) 25)).alloc (.cells #[ah left,ah aP] 67)) none:=bT.trans bT;have M:=al (Ab (A:=A) d ok p _ (h.keep o));have B:=al o;have c:((w.alloc (.cells (dv d p) 25)).alloc (.cells #[ah left,ah aP] 67)).cell? ⟨w.heap.size+1,0,none⟩=some (ah left):=by rw[dR aF];rfl
 have g:((w.alloc (.cells (dv d p) 25)).alloc (.cells #[ah left,ah aP] 67)).cell? ⟨w.heap.size+1,1,none⟩=some (ah aP):=by rw[dR aF];rfl
 have R:=al c;have V:=al g;clear o h c g;go_enter (S.f Tryz.func46),Tryz.ntmps46;go_wp2_with (go_at_call 39;refine M.out.mono ?_;rintro e w3 ⟨T,rfl,E,q,j⟩;have c:=j.cell R.out aF;have g:=j.cell V.out aF;have t0:w3.cell? ⟨T,0,none⟩=some (ah d.kinds):=(aU q).trans rfl;have C:=al q;have I:=al j;have Q:=al E;clear q j E)
 go_region
 obtain⟨num,z⟩:∃f:Nat->Int,f=λi=>match i with|0=>(k:Int)|1=>left|_=>aP:=⟨_,rfl⟩
 obtain⟨most,u⟩:∃f:Nat->Int,f=λi=>match i with|0=>(d.kinds:Int)-1|_=>119:=⟨_,rfl⟩
 obtain⟨bq,F⟩:∃f:Nat->Int,f=λi=>match i with|0=>(0:Int)|_=>2:=⟨_,rfl⟩
 have H:=al (vG (A:=A) w3.heap.size 0 3 3 U (w3.alloc (.cells #[ah k,ah (d.kinds-1),ah 0,ah left,ah 119,ah 2,ah aP,ah 119,ah 2] 103)).drew num most bq
  (λi r=>by subst z;rcases i with _|_|_|i<;>first|omega|(rw[World.cell?_drew,dR rfl];rfl))
  (λi r=>by subst u;rcases i with _|_|_|i<;>first|omega|(rw[World.cell?_drew,dR rfl];rfl))
  (λi r=>by subst F;rcases i with _|_|_|i<;>first|omega|(rw[World.cell?_drew,dR rfl];rfl))
  (λi r=>by subst z;subst u;rcases i with _|_|_|i<;>first|omega|(simp;omega)))
 clear z u F;have L:=al (v' (A:=A));go_wp2_with (first|(go_at_call 41;refine H.out.mono ?_;rintro e ad ⟨rfl,l⟩;have c:=l.cell (w:=World.drew _) (a:=⟨w.heap.size+1,0,none⟩) (((hD _ _ _ (lD c)).trans c)) aF;have g:=l.cell (w:=World.drew _) (a:=⟨w.heap.size+1,1,none⟩) (((hD _ _ _ (lD g)).trans g)) aF;have J:=al l;clear l)|(go_at_call 40;refine(L.out _).mono ?_;rintro e W ⟨rfl,G⟩;have K:=al G;clear G))
 go_ret2
 have D:w3.grownBy W none:=((gv bT).trans J.out).trans K.out;refine⟨T,rfl,?_,(D.block T (bu C.out) aF).trans C.out,(B.out.trans I.out).trans D⟩;have:=Q.out;have e:=B.out.size;omega
def Kx[S:Std A][P:hA A](d:cC)(ok:d.ok)(p:eg)(k:Nat)(g:k<d.kinds)(left aP:Nat)(L:left<=aP)(z:aP<120)(w:World)(h:e' w d p):
 Calls (ao A) 16 #[.agg (dv d p),ah k,ah left,ah aP] w λe w'=>e=.returned (.tuple #[ah (ha (d.first k) (cX d k) left aP),ah 0])/\w.grownBy w' none:=by
 have M:=ok.kinds;have l:w.grownBy ((w.alloc (.cells (dv d p) 25)).alloc (.cells #[ah left,ah aP] 67)) none:=bT.trans bT;have G:=al (Q' (A:=A) d ok p k g left aP L z _ (h.keep l));have j:=al l;have o:((w.alloc (.cells (dv d p) 25)).alloc (.cells #[ah left,ah aP] 67)).cell? ⟨w.heap.size+1,0,none⟩=some (ah left):=by rw[dR aF];rfl
 have q:((w.alloc (.cells (dv d p) 25)).alloc (.cells #[ah left,ah aP] 67)).cell? ⟨w.heap.size+1,1,none⟩=some (ah aP):=by rw[dR aF];rfl
 have I:=al o;have J:=al q;have H:=al h;clear l h o q;have D:=al λ(T:Nat) (w3:World) (f:((w.alloc (.cells (dv d p) 25)).alloc (.cells #[ah left,ah aP] 67)).heap.size<=T) (i:w3.heap[T]?=some (.cells (nD d p) 100)) (c:((w.alloc (.cells (dv d p) 25)).alloc (.cells #[ah left,ah aP] 67)).grownBy w3 none)=>
  have x:=sO ok (H.out.keep j.out) f i c;si (F:=A) (pg ok x.2.2.1 x.2.2.2) (k:=k) g U (bj:=cX d k) (λday=>by have:=ql ok g day;omega) (rk ok x.2.2.1 x.2.1 g) left aP U z w3 x.1
 go_enter (S.f Tryz.func16),Tryz.ntmps16;go_wp2_with (first|(go_at_call 46;refine G.out.mono ?_;rintro e w3 ⟨T,rfl,f,i,c⟩;have o:=c.cell I.out aF;have q:=c.cell J.out aF;have C:=al i;have r:=al c;have u:=al f;clear i c f)|(go_at_call 48;refine(oT _ _).mono ?_;rintro e w' ⟨rfl,rfl⟩))
 refine(D.out T w3 u.out C.out r.out).mono ?_;rintro e Q ⟨rfl,K,B⟩;have E:=al B;clear B K;go_wp2_with (go_at_call 48;refine(oT _ _).mono ?_;rintro e w' ⟨rfl,rfl⟩)
 go_ret2
 rw[pT g];refine⟨rfl,?_⟩;have f:=u.out;have e:=j.out.size;exact kH (j.out.trans r.out) E.out U
end
end Go.aO
