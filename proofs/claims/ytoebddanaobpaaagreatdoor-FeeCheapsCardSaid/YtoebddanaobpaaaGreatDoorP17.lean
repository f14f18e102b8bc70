/- A part. -/
import Derived.Test.YtoebddanaobpaaaGreatDoorP16
set_option maxHeartbeats 8000000
set_option maxRecDepth 100000
set_option linter.all false
namespace Go.aO
open Go.Proofs Tryz Go.RowKit
variable{B T k:Nat}{w w':S7}{row:TN}
section
variable{A:TJ}
def vU(b:Ta):S9:=.int .u32 (if b then 1 else 0)
def j6(d:cC)(aY:Nat->Ta)(k day:Nat):S9:=ah (if aY k then cX d k day else 0)
def iU(d:cC)(p:eg)(aY:Nat->Ta):Te:=#[ah d.kinds,TW p.gg p.hG d.kinds p.cA,TW p.fV p.gU d.bk p.dq,.slice p.ei d.b' p.dc,
 vU (aY 0),.int .i32 0,.int .u32 0,vU (aY 1),.int .i32 0,.int .u32 0,vU (aY 2),.int .i32 0,.int .u32 0,
 j6 d aY 0 0,j6 d aY 0 1,j6 d aY 0 2,j6 d aY 0 3,j6 d aY 0 4,j6 d aY 1 0,j6 d aY 1 1,j6 d aY 1 2,j6 d aY 1 3,j6 d aY 1 4,j6 d aY 2 0,j6 d aY 2 1,j6 d aY 2 2,j6 d aY 2 3,j6 d aY 2 4]
def Rl(d:cC)(p:eg):iU d p (λ_=>false)=nD d p:=S6
def rH(aY:Nat->Ta)(k:Nat)(j:Nat):Ta:=if j=k then true else aY j
def Ao(d:cC)(k:Nat)(c:Te):Te:=((((c.setIfInBounds (13+k*5) (ah (cX d k 0))).setIfInBounds (13+k*5+1) (ah (cX d k 1))).setIfInBounds (13+k*5+2) (ah (cX d k 2))).setIfInBounds (13+k*5+3) (ah (cX d k 3))).setIfInBounds (13+k*5+4) (ah (cX d k 4))
def EV{d:cC}{j:Nat}{c:Te}{x:S9}(h:c[j]?=some x)(f:j<13):(Ao d k c)[j]?=some x:=
 od (od (od (od (od h U) U) U) U) U
def Rm(d:cC)(p:eg)(aY:Nat->Ta)(c:k<3):((Ao d k ((iU d p aY).setIfInBounds (4+k*3+1) (.int .i32 1))).setIfInBounds (4+k*3) (.int .u32 1)).setIfInBounds (4+k*3+1) (.int .i32 0)=iU d p (rH aY k):=by
 rcases k with _|_|_|k
 .kernel_rfl
 .kernel_rfl
 .kernel_rfl
 .omega
def Rn(d:cC)(p:eg)(aY:Nat->Ta)(c:k<3):(iU d p aY)[4+k*3]?=some (vU (aY k))/\(iU d p aY)[4+k*3+1]?=some (.int .i32 0)/\(iU d p aY)[2]?=some (TW p.fV p.gU d.bk p.dq)/\(iU d p aY)[3]?=some (.slice p.ei d.b' p.dc)/\(iU d p aY).size=28:=by
 rcases k with _|_|_|k
 .exact⟨S6,S6,S6,S6,S6⟩
 .exact⟨S6,S6,S6,S6,S6⟩
 .exact⟨S6,S6,S6,S6,S6⟩
 .omega
def Rp(d:cC)(p:eg)(aY:Nat->Ta)(c:k<3)(hd:aY k=true):(iU d p aY)[13+k*5]?=Tn (cX d k 0)/\(iU d p aY)[13+k*5+1]?=Tn (cX d k 1)/\(iU d p aY)[13+k*5+2]?=Tn (cX d k 2)/\(iU d p aY)[13+k*5+3]?=Tn (cX d k 3)/\(iU d p aY)[13+k*5+4]?=Tn (cX d k 4):=by
 rcases k with _|_|_|k
 .simp[iU,j6,hd]
 .simp[iU,j6,hd]
 .simp[iU,j6,hd]
 .omega
structure eg.off(p:eg)(d:cC)(T:Nat):Prop where
 F:p.gg≠T
 R:p.fV≠T
 P:∀i,i<d.bk->p.dj i≠T
 h4:∀b o,d.b'≠0->p.ei=some (S8 b o)->b≠T
def e'.wQ{d:cC}{p:eg}(h:e' w d p)(g:w.grownBy w' (some T))(f:p.off d T):e' w' d p where
 first:=h.first.keep g (by have:=f.F;simpa using this)
 bV i c:=g.cell (h.bV i c) (by have:=f.R;simpa using this)
 rows i c:=g.cell (h.rows i c) (by have:=f.R;simpa using this)
 cQ i c:=(h.cQ i c).keep g (by have:=f.P i c;simpa using this)
 free j:=by let⟨b,o,e,k⟩:=h.free j;exact⟨b,o,e,k.keep g (by have:=f.h4 b o j e;simpa using this)⟩
def NA{c:S7}(t:Ty)(h:c.heap[B]?=some (.cells #[ah 0,ah 0,ah 0,ah 0,ah 0] 129)):(((((c.setCell (Ti B) (ah (t 0))).setCell (S8 B 1) (ah (t 1))).setCell (S8 B 2) (ah (t 2))).setCell (S8 B 3) (ah (t 3))).setCell (S8 B 4) (ah (t 4))).drew.heap[B]?=some (.cells (jg t) 129):=by have d:=cU (o:=0) (v:=ah (t 0)) h;have mf:=cU (o:=1) (v:=ah (t 1)) d;have f:=cU (o:=2) (v:=ah (t 2)) mf;have g:=cU (o:=3) (v:=ah (t 3)) f;have i:=cU (o:=4) (v:=ah (t 4)) g;rw[oL,i];rfl
def Nz{d:S7}{b:Nat}(t:Ty)(c:b≠B):(((((d.setCell (Ti B) (ah (t 0))).setCell (S8 B 1) (ah (t 1))).setCell (S8 B 2) (ah (t 2))).setCell (S8 B 3) (ah (t 3))).setCell (S8 B 4) (ah (t 4))).drew.heap[b]?=d.heap[b]?:=by rw[oL,e1 c,e1 c,e1 c,e1 c,e1 c]
def Ny{d:S7}(t:Ty)(h:w.grownBy d row)(c:w.heap.size<=B):w.grownBy (((((d.setCell (Ti B) (ah (t 0))).setCell (S8 B 1) (ah (t 1))).setCell (S8 B 2) (ah (t 2))).setCell (S8 B 3) (ah (t 3))).setCell (S8 B 4) (ah (t 4))).drew row:=
 gv (lW (lW (lW (lW (lW h c) c) c) c) c)
def O4:((ao A).info? 129).map (·.size)=some 5:=av
def NT[S:Std A][P:hA A](d:cC)(ok:d.ok)(p:eg)(k:Nat)(Y:k<d.kinds)(T:Nat)(Z:p.off d T)(aY:Nat->Ta)(w:S7)(h:e' w d p)(B:w.heap[T]?=some (.cells (iU d p aY) 132)):
 Calls (ao A) 46 #[Tj T,ah k] w λe w'=>e=.returned (.agg #[ah (cX d k 0),ah (cX d k 1),ah (cX d k 2),ah (cX d k 3),ah (cX d k 4)])/\w'.heap[T]?=some (.cells (iU d p (rH aY k)) 132)/\w.grownBy w' (some T):=by
 have ai:=ok.kinds;have D:k<3:=U;have X:=bu B;obtain⟨c,l⟩:∃W,W=((w.alloc (.cells #[.pointer (some ⟨T,0,none⟩)] 71)).alloc (.cells #[ah k] 3)).alloc (.cells #[ah 0,ah 0,ah 0,ah 0,ah 0] 129):=⟨_,S6⟩
 have u:w.grownBy c none:=by rw[l];exact(bT.trans bT).trans bT
 have y:c.cell? (Ti w.heap.size)=some (Tj T):=by rw[l,hD _ _ _ cH,hD _ _ _ aF,dR S6];rfl
 have z:c.cell? (Ti (w.heap.size+1))=Tn k:=by rw[l,hD _ _ _ aF,dR aF];rfl
 have F:c.heap[w.heap.size+1+1]?=some (.cells #[ah 0,ah 0,ah 0,ah 0,ah 0] 129):=by rw[l,show w.heap.size+1+1=((w.alloc (.cells #[Tj T] 71)).alloc (.cells #[ah k] 3)).heap.size by simp];exact fM _ _
 have J:c.heap.size=w.heap.size+1+1+1:=by rw[l];simp
 have G:=(u.block T X aF).trans B;have E:Calls (ao A) 69 #[T1 T (4+k*3),.func (.func 70) #[] #[Tj w.heap.size,Tj (w.heap.size+1)]] c.drew λe w'=>e=.returned (.tuple #[])/\w'.heap[T]?=some (.cells (iU d p (rH aY k)) 132)/\c.drew.grownBy w' (some T):=by
  let⟨q,q1,aa,ad,ae⟩:=Rn d p aY D;have C:c.drew.heap[T]?=some (.cells (iU d p aY) 132):=G;cases hd:aY k with
  |true=>
   rw[hd]at q;refine(I9 (S8 T (4+k*3)) _ c.drew (by rw[aU C];exact q)).mono ?_;rintro e w' ⟨rfl,rfl⟩;have R:rH aY k=aY:=funext λj=>by unfold rH;split<;>simp_all
   rw[R];exact⟨S6,C,e6 _ _⟩
  |false=>
   rw[hd]at q;have:=I' (A:=A) T (4+k*3) w.heap.size (w.heap.size+1) (iU d p aY) (Ao d k ((iU d p aY).setIfInBounds (4+k*3+1) (.int .i32 1))) c.drew C q q1 (EV (od q U) U) (EV (by rw[iO U]) U) λW hW n=>?_
   .rw[Rm d p aY D]at this
    exact this
   .have V:w.grownBy W (some T):=(nf (some T) (u.trans (gv (e6 _ _)))).trans n
    exact IP d ok p k Y T w.heap.size (w.heap.size+1) W (h.wQ V Z) (n.cell (w:=c.drew) y cH) (n.cell (w:=c.drew) z cH) (by have:=n.size;have e:c.drew.heap.size=c.heap.size:=S6;omega) (by have:=n.size;have e:c.drew.heap.size=c.heap.size:=S6;omega) _ (by rw[Up];exact ae) hW (od aa U) (od ad U)
 subst l;have L:=al E;have Q:=al u;have K:=al F;clear E u F G h B;go_enter P.f51,ntmps46;go_wp2;go_region_with (go_at_call 69;refine L.out.mono ?_;rintro e g ⟨rfl,H,I⟩;have i:=al H;have r:=al I;clear H I)
 all_goals (
  have af:=r.out.cell (w:=World.drew _) y cH;have ag:=r.out.cell (w:=World.drew _) z cH;have f:=(r.out.block (w.heap.size+1+1) (by rw[oL,J];omega) cH).trans K.out;have m:=Rp d p (rH aY k) D (by simp[rH]);have aj:g.cell? (S8 T (13+k*5))=_:=(aU i.out).trans m.1;have ak:g.cell? (S8 T (13+k*5+1))=_:=(aU i.out).trans m.2.1;have am:g.cell? (S8 T (13+k*5+2))=_:=(aU i.out).trans m.2.2.1;have ap:g.cell? (S8 T (13+k*5+3))=_:=(aU i.out).trans m.2.2.2.1;have aq:g.cell? (S8 T (13+k*5+4))=_:=(aU i.out).trans m.2.2.2.2;have z0:g.cell? (Ti (w.heap.size+1+1))=_:=aU f;have ar:g.cell? (S8 (w.heap.size+1+1) 1)=_:=aU f;have au:g.cell? (S8 (w.heap.size+1+1) 2)=_:=aU f;have z3:g.cell? (S8 (w.heap.size+1+1) 3)=_:=aU f;have z4:g.cell? (S8 (w.heap.size+1+1) 4)=_:=aU f;have f0:=b3 (o:=0) f;have f1:=b3 (o:=1) f;have f2:=b3 (o:=2) f;have f3:=b3 (o:=3) f;have f4:=b3 (o:=4) f;have M:=al f;clear m f y z J)
 all_goals (
  go_wp2;go_region
  go_wp2;refine bodyPost_ret (results_cell_row S6 _ _ (w.heap.size+1+1) 129 (jg (cX d k)) (0,0) _ S6 (NA (cX d k) M.out) (ao.underlying103 A) S6 O4) S6 ?_;exact⟨S6,(Nz (cX d k) U).trans i.out,Ny (cX d k) (((nf (some T) Q.out).trans (gv (e6 _ _))).trans r.out) U⟩)
def QY{d:cC}(ok:d.ok)(c:k<d.kinds)(day:Nat):∀i,i<=d.bk->0<=mQ d k i day/\mQ d k i day<=9:=by
 intro i;induction i with
 |zero=>intro _;simp[mQ]
 |succ i f=>
  intro g;rw[mQ];split
  .exact ok.cQ i U k c
  .exact f U
def ql{d:cC}(ok:d.ok)(c:k<d.kinds)(day:Nat):0<=cX d k day/\cX d k day<=9:=by
 unfold cX;generalize d.b'=n;induction n with
 |zero=>exact QY ok c day _ bg
 |succ n f=>
  rw[te];split
  .simp
  .exact f
def lD{a:TD}{v:S9}(h:w.cell? a=some v):a.block<w.heap.size:=by
 refine Nat.lt_of_not_le λc=>?_
 have e:w.heap[a.block]?=none:=Um c;simp[World.cell?,e]at h
structure eg.below(p:eg)(d:cC)(B:Nat):Prop where
 F:p.gg<B
 R:p.fV<B
 P:∀i,i<d.bk->p.dj i<B
 h4:∀b o,d.b'≠0->p.ei=some (S8 b o)->b<B
def e'.below{d:cC}{p:eg}(ok:d.ok)(h:e' w d p):p.below d w.heap.size where
 F:=lD (h.first 0 (by have:=ok.kinds;omega))
 R:=lD (h.bV 0 (by have:=ok.bk;omega))
 P i g:=lD (h.cQ i g 0 (by have:=ok.kinds;omega))
 h4 b o j e:=by
  let⟨l,q,c,k⟩:=h.free j;rw[e]at c;injection c with c
  injection c with f m n
  subst f;exact lD (k 0 U)
def e'.uq{d:cC}{p:eg}(h:e' w d p)(g:w.grownBy w' row)(c:p.below d B)(m:∀b,row=some b->B<=b):e' w' d p:=by
 have j:∀b,b<B->some b≠row:=λb c e=>by have:=m b e.symm;omega
 refine⟨h.first.keep g (j _ c.F),λi f=>g.cell (h.bV i f) (j _ c.R),λi f=>g.cell (h.rows i f) (j _ c.R),λi f=>(h.cQ i f).keep g (j _ (c.P i f)),λl=>?_⟩;let⟨b,o,e,k⟩:=h.free l;exact⟨b,o,e,k.keep g (j _ (c.h4 b o l e))⟩
structure gp(d:cC)(p:eg)(T B:Nat)(w:S7):Prop where
 tf:e' w d p
 st:∃aY,w.heap[T]?=some (.cells (iU d p aY) 132)
 dD:B<=w.heap.size
def zj(d:cC)(k:Nat):Int:=if k<d.kinds then d.first k else 0
def pT{d:cC}(h:k<d.kinds):zj d k=d.first k:=Tq h
def pg{d:cC}(ok:d.ok){p:eg}(f:p.below d B)(j:T<B):pB (gp d p T B) T B p.gg p.hG d.kinds p.cA (zj d) where
 lt:=⟨j,f.F⟩
 keep w w' row h g i:=⟨h.tf.uq g f i,by let⟨aY,e⟩:=h.st;exact⟨aY,(g.block T (by have:=h.dD;omega) (λe=>by have:=i T e.symm;omega)).trans e⟩,cL h.dD g.size⟩
 size w h:=h.dD
 k5 w h:=by let⟨aY,e⟩:=h.st;rw[aU e];rfl
 cell w h k c:=by rw[pT c];exact h.tf.first k c
 hL k:=by
  unfold zj;split
  .rename_i c
   have:=ok.first k c
   omega
  .simp
def rk[S:Std A][P:hA A]{d:cC}(ok:d.ok){p:eg}(j:p.below d B)(f:p.off d T)(i:k<d.kinds):pA A (gp d p T B) T k (cX d k):=λw h=>by let⟨aY,e⟩:=h.st;refine(NT d ok p k i T f aY w h.tf e).mono ?_;rintro e w' ⟨rfl,g,c⟩;exact⟨S6,⟨h.tf.wQ c f,⟨_,g⟩,cL h.dD c.size⟩,c⟩
def sO{d:cC}(ok:d.ok){p:eg}(h:e' w d p)(n:w.heap.size<=T)(g:w'.heap[T]?=some (.cells (nD d p) 132))(j:w.grownBy w' none):
 gp d p T w'.heap.size w'/\p.off d T/\p.below d w'.heap.size/\T<w'.heap.size:=by
 have c:=h.below ok;have f:=h.keep j;refine⟨⟨f,⟨λ_=>false,by rw[Rl];exact g⟩,bg⟩,⟨?_,?_,λi l=>?_,λb o m e=>?_⟩,f.below ok,bu g⟩
 .have:=c.F;omega
 .have:=c.R;omega
 .have:=c.P i l;omega
 .have:=c.h4 b o m e;omega
def kH{w3 d:S7}(h:w.grownBy w3 none)(k:w3.grownBy d (some T))(f:w.heap.size<=T):w.grownBy d none:=
 ⟨h.os ▸ k.os,k.tape.trans h.tape,k.output.trans h.output,cL h.size k.size,λi c _=>(k.block i (gu c h.size) (λe=>by cases e;omega)).trans (h.block i c aF)⟩
def Q'[S:Std A][P:hA A](d:cC)(ok:d.ok)(p:eg)(k:Nat)(W:k<d.kinds)(S' aP:Nat)(X:S'<=aP)(V:aP<120)(w:S7)(h:e' w d p):
 Calls (ao A) 29 #[.agg (dv d p),ah k,.agg #[ah S',ah aP],.slice none 0 0] w (rU d p w):=by
 have R:=ok.kinds;have m:w.grownBy ((w.alloc (.cells (dv d p) 25)).alloc (.cells #[ah S',ah aP] 63)) none:=bT.trans bT;have J:=al (Ab (A:=A) d ok p _ (h.keep m));have u:=al m;have c:((w.alloc (.cells (dv d p) 25)).alloc (.cells #[ah S',ah aP] 63)).cell? (Ti (w.heap.size+1))=Tn S':=by rw[dR aF];rfl
 have g:((w.alloc (.cells (dv d p) 25)).alloc (.cells #[ah S',ah aP] 63)).cell? (S8 (w.heap.size+1) 1)=Tn aP:=by rw[dR aF];rfl
 have L:=al c;have M:=al g;clear m h c g;go_enter (S.f func29),ntmps29;go_wp2_with (go_at_call 37;refine J.out.mono ?_;rintro e w3 ⟨T,rfl,B,n,j⟩;have c:=j.cell L.out aF;have g:=j.cell M.out aF;have t0:w3.cell? (Ti T)=Tn d.kinds:=(aU n).trans S6;have y:=al n;have F:=al j;have K:=al B;clear n j B)
 go_region
 obtain⟨num,r⟩:∃f:Ty,f=λi=>match i with|0=>(k:Int)|1=>S'|_=>aP:=⟨_,S6⟩
 obtain⟨most,q⟩:∃f:Ty,f=λi=>match i with|0=>(d.kinds:Int)-1|_=>119:=⟨_,S6⟩
 obtain⟨bq,C⟩:∃f:Ty,f=λi=>match i with|0=>(0:Int)|_=>2:=⟨_,S6⟩
 have E:=al (vG (A:=A) w3.heap.size 0 3 3 U (w3.alloc (.cells #[ah k,ah (d.kinds-1),ah 0,ah S',ah 119,ah 2,ah aP,ah 119,ah 2] 76)).drew num most bq
  (λi o=>by subst r;rcases i with _|_|_|i<;>first|omega|(rw[World.cell?_drew,dR S6];rfl))
  (λi o=>by subst q;rcases i with _|_|_|i<;>first|omega|(rw[World.cell?_drew,dR S6];rfl))
  (λi o=>by subst C;rcases i with _|_|_|i<;>first|omega|(rw[World.cell?_drew,dR S6];rfl))
  (λi o=>by subst r;subst q;rcases i with _|_|_|i<;>first|omega|(simp;omega)))
 clear r q C;have I:=al (v' (A:=A));go_wp2_with (first|(go_at_call 45;refine E.out.mono ?_;rintro e Y ⟨rfl,l⟩;have c:=l.cell (w:=World.drew _) (a:=(Ti (w.heap.size+1))) (((hD _ _ _ (lD c)).trans c)) aF;have g:=l.cell (w:=World.drew _) (a:=(S8 (w.heap.size+1) 1)) (((hD _ _ _ (lD g)).trans g)) aF;have G:=al l;clear l)|(go_at_call 44;refine(I.out _).mono ?_;rintro e Q ⟨rfl,D⟩;have H:=al D;clear D))
 go_ret2
 have z:w3.grownBy Q none:=((gv bT).trans G.out).trans H.out;refine⟨T,S6,?_,(z.block T (bu y.out) aF).trans y.out,(u.out.trans F.out).trans z⟩;have:=K.out;have e:=u.out.size;omega
def Kx[S:Std A][P:hA A](d:cC)(ok:d.ok)(p:eg)(k:Nat)(g:k<d.kinds)(S' aP:Nat)(I:S'<=aP)(r:aP<120)(w:S7)(h:e' w d p):
 Calls (ao A) 15 #[.agg (dv d p),ah k,ah S',ah aP] w λe w'=>e=.returned (.tuple #[ah (ha (d.first k) (cX d k) S' aP),ah 0])/\w.grownBy w' none:=by
 have J:=ok.kinds;have l:w.grownBy ((w.alloc (.cells (dv d p) 25)).alloc (.cells #[ah S',ah aP] 63)) none:=bT.trans bT;have C:=al (Q' (A:=A) d ok p k g S' aP I r _ (h.keep l));have j:=al l;have m:((w.alloc (.cells (dv d p) 25)).alloc (.cells #[ah S',ah aP] 63)).cell? (Ti (w.heap.size+1))=Tn S':=by rw[dR aF];rfl
 have n:((w.alloc (.cells (dv d p) 25)).alloc (.cells #[ah S',ah aP] 63)).cell? (S8 (w.heap.size+1) 1)=Tn aP:=by rw[dR aF];rfl
 have D:=al m;have E:=al n;have H:=al h;clear l h m n;have z:=al λ(T:Nat) (w3:S7) (f:((w.alloc (.cells (dv d p) 25)).alloc (.cells #[ah S',ah aP] 63)).heap.size<=T) (i:w3.heap[T]?=some (.cells (nD d p) 132)) (c:((w.alloc (.cells (dv d p) 25)).alloc (.cells #[ah S',ah aP] 63)).grownBy w3 none)=>
  have x:=sO ok (H.out.keep j.out) f i c;si (F:=A) (pg ok x.2.2.1 x.2.2.2) (k:=k) g U (bj:=cX d k) (λday=>by have:=ql ok g day;omega) (rk ok x.2.2.1 x.2.1 g) S' aP U r w3 x.1
 go_enter (S.f func15),ntmps15;go_wp2_with (first|(go_at_call 29;refine C.out.mono ?_;rintro e w3 ⟨T,rfl,f,i,c⟩;have m:=c.cell D.out aF;have n:=c.cell E.out aF;have y:=al i;have o:=al c;have q:=al f;clear i c f)|(go_at_call 31;refine(oT _ _).mono ?_;rintro e w' ⟨rfl,rfl⟩))
 refine(z.out T w3 q.out y.out o.out).mono ?_;rintro e K ⟨rfl,G,u⟩;have B:=al u;clear u G;go_wp2_with (go_at_call 31;refine(oT _ _).mono ?_;rintro e w' ⟨rfl,rfl⟩)
 go_ret2
 rw[pT g];refine⟨S6,?_⟩;have f:=q.out;have e:=j.out.size;exact kH (j.out.trans o.out) B.out U
end
end Go.aO
