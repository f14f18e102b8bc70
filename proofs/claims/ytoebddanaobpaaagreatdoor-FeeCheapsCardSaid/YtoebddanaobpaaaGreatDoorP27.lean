/- A part. -/
import Derived.Test.YtoebddanaobpaaaGreatDoorP25
set_option maxHeartbeats 8000000
set_option maxRecDepth 100000
set_option linter.all false
namespace Go.aO
open Go.Proofs Tryz Go.RowKit
section
variable{A:TJ}
structure dY where
 cost:Int
 eW:Int
 left:Int
 aP:Int
 next:Int
abbrev dY.a(b:dY):Te:=#[ah b.cost,ah b.eW,ah b.left,ah b.aP,ah b.next]
def vM(a b:dY):Ta:=decide (a.cost<b.cost)||(a.cost == b.cost && decide (a.eW<b.eW))
def IA[S:Std A][eY:jx A](a b:dY)(w:S7):Calls (ao A) 54 #[.agg a.a,.agg b.a] w λe w'=>e=.returned (.bool (vM a b))/\w.grownBy w' none:=by
 have g:w.grownBy ((w.alloc (.cells a.a 84)).alloc (.cells b.a 84)) none:=bT.trans bT;unfold vM;by_cases c:a.cost<b.cost
 .have d1:decide (a.cost<b.cost)=true:=by simpa using c
  rw[d1];go_enter (S.f func54),ntmps54;go_wp2;go_ret;exact⟨S6,g⟩
 .have d1:decide (a.cost<b.cost)=false:=by simpa using c
  rw[d1];by_cases d:a.cost=b.cost
  .have d2:(a.cost == b.cost)=true:=by simpa using d
   rw[d2];go_enter (S.f func54),ntmps54;go_wp2;go_ret;exact⟨S6,g⟩
  .have d2:(a.cost == b.cost)=false:=by simpa using d
   rw[d2];go_enter (S.f func54),ntmps54;go_wp2;go_ret;exact⟨S6,g⟩
structure gE where
 cu:dY
 some:Ta
def gE.take(c:gE)(x:dY):gE:=if !c.some||vM x c.cu then⟨x,true⟩else c
abbrev gE.a(c:gE):Te:=#[.func (.func 54) #[] #[],ah c.cu.cost,ah c.cu.eW,ah c.cu.left,ah c.cu.aP,ah c.cu.next,.bool c.some]
def EW{w W:S7}{b:Nat}{c:gE}(x:dY)(h:W.heap[b]?=some (.cells c.a 150))(g:w.grownBy W (some b)):
 ((((((W.setCell (S8 b 1) (ah x.cost)).setCell (S8 b 2) (ah x.eW)).setCell (S8 b 3) (ah x.left)).setCell (S8 b 4) (ah x.aP)).setCell (S8 b 5) (ah x.next)).setCell (S8 b 6) (.bool true)).heap[b]?=some (.cells (gE.a ⟨x,true⟩) 150)/\w.grownBy ((((((W.setCell (S8 b 1) (ah x.cost)).setCell (S8 b 2) (ah x.eW)).setCell (S8 b 3) (ah x.left)).setCell (S8 b 4) (ah x.aP)).setCell (S8 b 5) (ah x.next)).setCell (S8 b 6) (.bool true)) (some b):=
 ⟨cU (o:=6) (cU (o:=5) (cU (o:=4) (cU (o:=3) (cU (o:=2) (cU (o:=1) h))))),e7 (e7 (e7 (e7 (e7 (e7 g)))))⟩
def Cp[S:Std A][eY:jx A](b:Nat)(c:gE)(x:dY)(w:S7)(h:w.heap[b]?=some (.cells c.a 150)):
 Calls (ao A) 55 #[Tj b,.agg x.a] w λe w'=>e=.returned (.tuple #[])/\w'.heap[b]?=some (.cells (c.take x).a 150)/\w.grownBy w' (some b):=by
 obtain⟨g,cs⟩:=c;have l:w.grownBy (w.alloc (.cells x.a 84)) none:=bT;have u:=bu h;have n:=(l.block b u aF).trans h;have z:=aU (o:=0) h;have B:=aU (o:=1) h;have C:=aU (o:=2) h;have D:=aU (o:=3) h;have E:=aU (o:=4) h;have F:=aU (o:=5) h;have G:=aU (o:=6) h;have f1:=b3 (o:=1) h;have f2:=b3 (o:=2) h;have f3:=b3 (o:=3) h;have f4:=b3 (o:=4) h;have f5:=b3 (o:=5) h;have f6:=b3 (o:=6) h;have q:=al n;clear n;have ek:=al h;have GA:=al l;clear h l;cases cs with
 |false=>
  have e:gE.take ⟨g,false⟩ x=⟨x,true⟩:=by simp[gE.take]
  rw[e];go_enter (S.f func55),ntmps55;go_wp2;go_region
  go_wp2;go_end0;let⟨i,j⟩:=EW x ek.out (e6 w (some b));have r:=nf (some b) (dU ((((((w.setCell (S8 b 1) (ah x.cost)).setCell (S8 b 2) (ah x.eW)).setCell (S8 b 3) (ah x.left)).setCell (S8 b 4) (ah x.aP)).setCell (S8 b 5) (ah x.next)).setCell (S8 b 6) (.bool true)) (.cells x.a 84) none);exact⟨S6,((dU ((((((w.setCell (S8 b 1) (ah x.cost)).setCell (S8 b 2) (ah x.eW)).setCell (S8 b 3) (ah x.left)).setCell (S8 b 4) (ah x.aP)).setCell (S8 b 5) (ah x.next)).setCell (S8 b 6) (.bool true)) (.cells x.a 84) none).block b (bu i) aF).trans i,gv (ss j r)⟩
 |true=>
  go_enter (S.f func55),ntmps55;go_wp2;go_region_with (go_at_call 54;refine(IA x g _).mono ?_;rintro e w2 ⟨rfl,f⟩;have d:=(f.block b (by rw[oL,cV];omega) aF).trans q.out;have H:=aU (o:=1) d;have I:=aU (o:=2) d;have J:=aU (o:=3) d;have K:=aU (o:=4) d;have L:=aU (o:=5) d;have M:=aU (o:=6) d;have P:=b3 (o:=1) d;have Q:=b3 (o:=2) d;have z3:=b3 (o:=3) d;have z4:=b3 (o:=4) d;have z5:=b3 (o:=5) d;have R:=b3 (o:=6) d;have y:=f.size;rw[oL,cV]at y;have t0:w2.cell? (Ti w.heap.size)=Tn x.cost:=f.cell (a:=(Ti w.heap.size)) (dR S6) aF;have t1:w2.cell? (S8 w.heap.size 1)=Tn x.eW:=f.cell (a:=(S8 w.heap.size 1)) (dR S6) aF;have t2:w2.cell? (S8 w.heap.size 2)=Tn x.left:=f.cell (a:=(S8 w.heap.size 2)) (dR S6) aF;have t3:w2.cell? (S8 w.heap.size 3)=Tn x.aP:=f.cell (a:=(S8 w.heap.size 3)) (dR S6) aF;have t4:w2.cell? (S8 w.heap.size 4)=Tn x.next:=f.cell (a:=(S8 w.heap.size 4)) (dR S6) aF;have m:=al d;have GW:=al (GA.out.trans (World.grownBy.trans (gv (e6 _ _)) f));clear d f)
  all_goals (
   cases p:vM x g with
   |true=>
    have e:gE.take ⟨g,true⟩ x=⟨x,true⟩:=by simp[gE.take,p]
    go_wp2;go_end0;let⟨i,j⟩:=EW x m.out (nf (some b) GW.out);exact⟨S6,by rw[e];exact i,j⟩
   |false=>
    have e:gE.take ⟨g,true⟩ x=⟨g,true⟩:=by simp[gE.take,p]
    go_wp2;go_end0;exact⟨S6,by rw[e];exact m.out,nf (some b) GW.out⟩)
end
def iK:dY:=⟨0,0,0,0,0⟩
def lT:gE:=⟨iK,false⟩
def gR(a7:Nat->Nat->Int)(e:Nat)(g:Nat->dY)(S' aP:Nat):Nat->gE
 | 0=>if aP=e then lT.take ⟨a7 S' aP,1,S',aP,-1⟩else lT
 |j+1=>if S'=aP/\j=0 then gR a7 e g S' aP j
  else(gR a7 e g S' aP j).take ⟨a7 S' aP+(g (aP+j)).cost,(g (aP+j)).eW+1,S',aP,(aP+j:Nat)⟩
def oC(a7:Nat->Nat->Int)(e Tr:Nat)(g:Nat->dY)(S' aP:Nat):gE:=
 gR a7 e g S' aP (if aP<e then min e (aP+Tr)+1-aP else 0)
def hc(a7:Nat->Nat->Int)(e Tr:Nat)(g:Nat->dY)(S':Nat):Nat->gE
 | 0=>lT
 |j+1=>if (oC a7 e Tr g S' (S'+j)).some then(hc a7 e Tr g S' j).take (oC a7 e Tr g S' (S'+j)).cu else hc a7 e Tr g S' j
def mw(a7:Nat->Nat->Int)(e Tr:Nat):Nat->Nat->dY
 | 0,_=>iK
 |n+1,S'=>(hc a7 e Tr (mw a7 e Tr n) S' (e+1-S')).cu
def BY{a7:Nat->Nat->Int}{e:Nat}{g h:Nat->dY}{S' aP:Nat}(f:S'<=aP)(d:∀l,S'<l->g l=h l):∀j,gR a7 e g S' aP j=gR a7 e h S' aP j
 | 0=>rfl
 |j+1=>by
  rw[gR,gR,BY f d j];by_cases c:S'=aP/\j=0
  .rw[Tq c,Tq c]
  .rw[Tm c,Tm c,d (aP+j) U]
def wu{a7:Nat->Nat->Int}{e Tr:Nat}{g h:Nat->dY}{S':Nat}(c:∀l,S'<l->g l=h l):∀j,hc a7 e Tr g S' j=hc a7 e Tr h S' j
 | 0=>rfl
 |j+1=>by have d:oC a7 e Tr g S' (S'+j)=oC a7 e Tr h S' (S'+j):=BY U c _;rw[hc,hc,wu c j,d]
def Dc{a7:Nat->Nat->Int}{e Tr:Nat}:∀(n m S':Nat),e+1-S'<=n->e+1-S'<=m->mw a7 e Tr n S'=mw a7 e Tr m S'
 | 0,0,_,_,_=>rfl
 | 0,m+1,S',h,_=>by
  have c:e+1-S'=0:=U;rw[mw,mw,c];rfl
 |n+1,0,S',_,h=>by
  have c:e+1-S'=0:=U;rw[mw,mw,c];rfl
 |n+1,m+1,S',d,f=>by rw[mw,mw,wu (λl g=>Dc n m l U U)]
def b2(a7:Nat->Nat->Int)(e Tr S':Nat):dY:=mw a7 e Tr (e+1-S') S'
def yL(a7:Nat->Nat->Int)(e Tr S':Nat):b2 a7 e Tr S'=(hc a7 e Tr (b2 a7 e Tr) S' (e+1-S')).cu:=by
 cases h:e+1-S' with
 |zero=>
  unfold b2;rw[h];rfl
 |succ n=>
  unfold b2;rw[h,mw,h,wu (λl c=>Dc n (e+1-l) l U U)]
def H7{a7:Nat->Nat->Int}{e Tr bY:Nat}(c:Nat->dY)(f:∀l,e<l->c l=iK)(h:∀l,bY<=l->l<=e->(hc a7 e Tr c l (e+1-l)).cu=c l):∀l,bY<=l->b2 a7 e Tr l=c l:=by
 suffices k:∀n l,e+1-l=n->bY<=l->b2 a7 e Tr l=c l from λl d=>k _ l S6 d
 intro n;induction n using Nat.strongRecOn with
 |_ n g=>
  intro l j d;by_cases hle:l<=e
  .rw[yL,wu (h:=c) (λaN i=>g (e+1-aN) U aN S6 U),h l d hle]
  .rw[f l U]
   unfold b2;rw[show e+1-l=0 by omega];rfl
def fq(a7:Nat->Nat->Int)(e Tr S' aP:Nat):gE:=oC a7 e Tr (b2 a7 e Tr) S' aP
deriving instance DecidableEq for dY
def QX:Tb dY:=[⟨5,2,20,46,48⟩,⟨5,2,21,46,48⟩,⟨5,2,22,46,48⟩,⟨5,2,23,46,48⟩,⟨4,2,24,46,48⟩,⟨4,2,25,46,48⟩,⟨4,2,26,46,48⟩,⟨4,2,27,46,48⟩,⟨4,2,28,46,48⟩,⟨4,2,29,46,48⟩,⟨4,2,30,46,48⟩,⟨4,2,31,46,48⟩,⟨4,2,32,46,48⟩,⟨4,2,33,46,48⟩,⟨4,2,34,46,48⟩,⟨4,2,35,46,48⟩,⟨4,2,36,46,48⟩,⟨4,2,37,46,48⟩,⟨4,2,38,46,48⟩,⟨4,2,39,46,48⟩,⟨4,2,40,46,48⟩,⟨4,2,41,46,48⟩,⟨4,2,42,46,48⟩,⟨4,2,43,46,48⟩,⟨4,2,44,46,48⟩,⟨4,2,45,46,48⟩,⟨4,2,46,46,48⟩,⟨4,2,47,47,48⟩,⟨2,1,48,60,-1⟩,⟨2,1,49,60,-1⟩,⟨2,1,50,60,-1⟩,⟨2,1,51,60,-1⟩,⟨2,1,52,60,-1⟩,⟨2,1,53,60,-1⟩,⟨2,1,54,60,-1⟩,⟨2,1,55,60,-1⟩,⟨2,1,56,60,-1⟩,⟨2,1,57,60,-1⟩,⟨2,1,58,60,-1⟩,⟨2,1,59,60,-1⟩,⟨2,1,60,60,-1⟩]
def uZ(l:Nat):dY:=if l<20 then iK else(QX[l-20]?).getD iK
end Go.aO
namespace Go.aO
open Go.Proofs Tryz Go.RowKit Go.Maps
def Ky:ha (fW.first 0) (cX fW 0) 20 100=9:=av
def RK:l' (λf=>ha (fW.first 0) (cX fW 0) 20 f) 6 120 20=95:=av
def K4:wI (jZ (fW.first jI.k) (cX fW jI.k) 5 (hN jI.lm jI.fm jI.b5 (jI.cj-jI.lm+1)))=.tuple #[.agg #[ah 24,ah 26],.agg #[ah 48,ah 50],ah 0]:=av
def QP:(qk fW jI).length=4:=av
def Jg:oK fW jI false=2:=av
def Jh:oK fW jI true=2:=av
def HF:vF fW jI=.tuple #[ah 0,ah 2,ah 0]:=by unfold vF;rw[Jg,Jh,QP];rfl
def QO:qk fW jI = [2,3,5,6]:=av
end Go.aO
namespace Go.aO
open Go.Proofs Tryz Go.RowKit
variable{M:Int->Int->TZ}{Tr aP e j n:Nat}{a7:Nat->Nat->Int}{b c w w':S7}{v:S9}{row:TN}{d:TQ}
section
variable{A:TJ}
structure cp(X:TM)(w w':S7):Prop where
 os:w'.os=w.os
 tape:w'.tape=w.tape
 output:w'.output=w.output
 size:w.heap.size<=w'.heap.size
 block:∀i,i<w.heap.size->¬X i->w'.heap[i]?=w.heap[i]?
def cp.refl(X:TM)(w:S7):cp X w w:=⟨S6,S6,S6,bg,λ_ _ _=>S6⟩
def cp.of{X:TM}(h:w.grownBy w' row)(d:∀r,row=some r->X r):cp X w w':=
 ⟨h.os,h.tape,h.output,h.size,λi c f=>h.block i c λe=>f (d i e.symm)⟩
def cp.jF{X:TM}(h:w.grownBy w' none):cp X w w':=.of h aF
def cp.trans{X:TM}{a:S7}(h:cp X a b)(k:cp X b c):cp X a c:=
 ⟨k.os.trans h.os,k.tape.trans h.tape,k.output.trans h.output,cL h.size k.size,λi d f=>(k.block i (gu d h.size) f).trans (h.block i d f)⟩
def cp.step{X:TM}{a:S7}(h:cp X a b)(k:b.grownBy c row)(g:∀r,row=some r->X r\/a.heap.size<=r):cp X a c:=
 ⟨k.os.trans h.os,k.tape.trans h.tape,k.output.trans h.output,cL h.size k.size,λi d f=>(k.block i (gu d h.size) λe=>(g i e.symm).elim f (λx=>U)).trans (h.block i d f)⟩
def cp.cell{X:TM}{a:TD}(h:cp X w w')(c:w.cell? a=some v)(d:¬X a.block):w'.cell? a=some v:=
 (World.cell?_of_block (h.block a.block (lD c) d)).trans c
def cp.new{X:TM}{aL:S7}(h:aL.grownBy w none)(k:cp X w w')(d:∀i,X i->aL.heap.size<=i):aL.grownBy w' none:=
 ⟨k.os.trans h.os,k.tape.trans h.tape,k.output.trans h.output,cL h.size k.size,λi c _=>(k.block i (gu c h.size) λe=>by have:=d i e;omega).trans (h.block i c aF)⟩
structure gd where
 a7:Nat->Nat->Int
 e:Nat
 carry:Nat
 kind:Nat
abbrev gd.TK(D:gd):=b2 D.a7 D.e D.carry
abbrev gd.T3(D:gd):=fq D.a7 D.e D.carry
structure gl where
 C:Nat
 T:Nat
 fm:Nat
 gJ:Nat
 B:Nat
def gl.X(P:gl)(i:Nat):Prop:=i=P.T\/i=P.fm\/i=P.gJ
structure gl.ok(P:gl):Prop where
 T:P.T<P.B
 C:P.B<=P.C
 f:P.B<=P.fm
 k:P.B<=P.gJ
 bP:P.C≠P.fm
 Cr:P.C≠P.gJ
 fk:P.fm≠P.gJ
abbrev gd.a(D:gd)(P:gl):Te:=#[Tj P.T,ah D.kind,ah D.e,ah D.carry,.map (some P.fm),.map (some P.gJ)]
def qw(D:gd)(M:Int->Int->TZ):Prop:=∀(l f:Nat) v,M l f=some v->v=.agg (D.T3 l f).cu.a/\(D.T3 l f).some=true
def qy(D:gd)(M:Int->TZ):Prop:=∀(l:Nat) v,M l=some v->v=.agg (D.TK l).a
structure e2(bf:TQ)(D:gd)(P:gl)(w:S7):Prop where
 j:bf w
 c:w.heap[P.C]?=some (.cells (D.a P) 81)
 f:∃M,ij w P.fm M/\qw D M
 k:∃M,j' w P.gJ M/\qy D M
def rR(c:TQ)(B:Nat):Prop:=∀w w' row,c w->w.grownBy w' row->(∀b,row=some b->B<=b)->c w'
def e2.keep{f:TQ}{D:gd}{P:gl}(h:e2 f D P w)(i:rR f P.B)(g:w.grownBy w' row)(d:∀b,row=some b->P.B<=b/\b≠P.C/\b≠P.fm/\b≠P.gJ):e2 f D P w':=by obtain⟨j,c,⟨M,l,n⟩,⟨N,m,j3⟩⟩:=h;exact⟨i _ _ _ j g λb e=>(d b e).1,(g.block _ (bu c) (λe=>(d _ e.symm).2.1 S6)).trans c,⟨M,l.keep g (λe=>(d _ e.symm).2.2.1 S6),n⟩,⟨N,m.keep g (λe=>(d _ e.symm).2.2.2 S6),j3⟩⟩
def e2.fF{c:TQ}{D:gd}{P:gl}(h:e2 c D P w)(d:rR c P.B)(g:w.grownBy w' none):e2 c D P w':=h.keep d g aF
def e2.wQ{D:gd}{P:gl}(ok:P.ok)(h:e2 d D P w)(g:w.grownBy w' (some P.T))(j:d w'):e2 d D P w':=by obtain⟨_,c,⟨M,f,l⟩,⟨N,i,j3⟩⟩:=h;have m:=ok.T;have n:=ok.C;have o:=ok.f;have p:=ok.k;exact⟨j,(g.block _ (bu c) (λe=>by have:=bD e;omega)).trans c,⟨M,f.keep g (λe=>by have:=bD e;omega),l⟩,⟨N,i.keep g (λe=>by have:=bD e;omega),j3⟩⟩
def e2.NB{D:gd}{P:gl}(ok:P.ok)(f:rR d P.B)(h:e2 d D P w)(g:w.grownBy w' (some P.fm))(l:∃M,ij w' P.fm M/\qw D M):e2 d D P w':=by obtain⟨j,c,_,⟨N,i,j3⟩⟩:=h;exact⟨f _ _ _ j g (λb e=>by cases e;exact ok.f),(g.block _ (bu c) (λe=>ok.bP (bD e))).trans c,l,⟨N,i.keep g (λe=>ok.fk (bD e).symm),j3⟩⟩
def e2.NC{D:gd}{P:gl}(ok:P.ok)(f:rR d P.B)(h:e2 d D P w)(g:w.grownBy w' (some P.gJ))(l:∃M,j' w' P.gJ M/\qy D M):e2 d D P w':=by obtain⟨j,c,⟨M,i,m⟩,_⟩:=h;exact⟨f _ _ _ j g (λb e=>by cases e;exact ok.k),(g.block _ (bu c) (λe=>ok.Cr (bD e))).trans c,⟨M,i.keep g (λe=>ok.fk (bD e)),m⟩,l⟩
def qw.put{D:gd}(h:qw D M)(l f:Nat)(i:(D.T3 l f).some=true):qw D (l1 M l f (.agg (D.T3 l f).cu.a)):=by
 intro aN d v c;unfold l1 at c;by_cases g:(aN:Int)=l/\(d:Int)=f
 .rw[Tq g]at c
  obtain⟨j,m⟩:=g;obtain rfl:aN=l:=U;obtain rfl:d=f:=U;exact⟨(bD c).symm,i⟩
 .rw[Tm g]at c
  exact h aN d v c
def qy.put{D:gd}{M:Int->TZ}(h:qy D M)(l:Nat):qy D (oW M l (.agg (D.TK l).a)):=by
 intro aN v c;unfold oW at c;by_cases d:(aN:Int)=l
 .rw[Tq d]at c
  obtain rfl:aN=l:=U;exact(bD c).symm
 .rw[Tm d]at c
  exact h aN v c
def lq(n:Nat)(b:dY):Prop:=0<=b.cost/\b.cost<=1000000*n/\0<=b.eW/\b.eW<=n
def lq.zero(n:Nat):lq n iK:=⟨by simp[iK],by simp[iK];omega,by simp[iK],by simp[iK]⟩
def lq.mono{m:Nat}{b:dY}(h:lq n b)(hm:n<=m):lq m b:=by obtain⟨c,f,d,g⟩:=h;exact⟨c,U,d,U⟩
def A9{c:gE}{x:dY}(h:lq n c.cu)(k:lq n x):lq n (c.take x).cu:=by
 unfold gE.take;split
 .exact k
 .exact h
def BX{a7:Nat->Nat->Int}{e:Nat}{g:Nat->dY}{S' aP n:Nat}(c:∀l f,0<=a7 l f/\a7 l f<=1000000)(i:S'<=aP)(d:∀l,S'<l->lq n (g l)):∀j,lq (n+1) (gR a7 e g S' aP j).cu
 | 0=>by
  have:=c S' aP;rw[gR];split
  .refine A9 (.zero _) ⟨this.1,?_,?_,?_⟩<;>(dsimp only;omega)
  .exact .zero _
 |j+1=>by
  have h:=BX (e:=e) c i d j;rw[gR];split
  .exact h
  .rename_i r
   let⟨m,o,p,q⟩:=d (aP+j) U;have:=c S' aP;refine A9 h ⟨?_,?_,?_,?_⟩<;>(dsimp only;omega)
def zm{a7:Nat->Nat->Int}{e Tr:Nat}{g:Nat->dY}{S' n:Nat}(c:∀l f,0<=a7 l f/\a7 l f<=1000000)(d:∀l,S'<l->lq n (g l)):∀j,lq (n+1) (hc a7 e Tr g S' j).cu
 | 0=>.zero _
 |j+1=>by
  rw[hc];split
  .exact A9 (zm (e:=e) (Tr:=Tr) c d j) (BX c U d _)
  .exact zm (e:=e) (Tr:=Tr) c d j
def Db{a7:Nat->Nat->Int}{e Tr:Nat}(c:∀l f,0<=a7 l f/\a7 l f<=1000000):∀n S',lq n (mw a7 e Tr n S')
 | 0,_=>.zero _
 |n+1,S'=>zm c (λl _=>Db c n l) _
def H4(c:∀l f,0<=a7 l f/\a7 l f<=1000000)(he:e<120)(S':Nat):lq 120 (b2 a7 e Tr S'):=(Db c _ _).mono U
def HV{g:Nat->dY}{S':Nat}(h:S'=aP/\j=0):gR a7 e g S' aP (j+1)=gR a7 e g S' aP j:=by rw[gR,Tq h]
def HW{g:Nat->dY}{S':Nat}(h:¬(S'=aP/\j=0)):gR a7 e g S' aP (j+1)=(gR a7 e g S' aP j).take ⟨a7 S' aP+(g (aP+j)).cost,(g (aP+j)).eW+1,S',aP,(aP+j:Nat)⟩:=by rw[gR,Tm h]
def zo{S':Nat}(h:(fq a7 e Tr S' (S'+j)).some=true):hc a7 e Tr (b2 a7 e Tr) S' (j+1)=(hc a7 e Tr (b2 a7 e Tr) S' j).take (fq a7 e Tr S' (S'+j)).cu:=by rw[hc];exact Tq h
def Dd{S':Nat}(h:(fq a7 e Tr S' (S'+j)).some=false):hc a7 e Tr (b2 a7 e Tr) S' (j+1)=hc a7 e Tr (b2 a7 e Tr) S' j:=by rw[hc];exact Tm (by rw[show(oC a7 e Tr (b2 a7 e Tr) S' (S'+j)).some=false from h];simp)
structure ky(A:TJ)(bf:TQ)(D:gd)(P:gl):Prop where
 ok:P.ok
 keep:rR bf P.B
 size:∀w,bf w->P.B<=w.heap.size
 C3:∀(w:S7),bf w->∀(l f:Nat),l<=f->f<120->Calls (ao A) 36 #[Tj P.T,ah D.kind,.agg #[ah l,ah f]] w λe w'=>e=.returned (ah (D.a7 l f))/\bf w'/\w.grownBy w' (some P.T)
 hL:∀l f,0<=D.a7 l f/\D.a7 l f<=1000000
 e:D.e<120
 carry:D.carry<=1000
def rP(A:TJ)(c:TQ)(D:gd)(P:gl)(l:Nat):Prop:=∀(w:S7),e2 c D P w->
 Calls (ao A) 30 #[Tj P.C,ah l] w λe w'=>e=.returned (.agg (D.TK l).a)/\e2 c D P w'/\cp P.X w w'
def Fc{P:To}{fn:TF}{p u:Tmp}{c:Tg}(h:fn.results=#[.cell p c,.tmp u])(tmps:Te)(w:S7)(g:Nat)(t:Tg)(cs:Te)(fr:Nat×Nat)(d:TypeDesc)(hp:tmps.getD p undef=Tj g)(j:w.heap[g]?=some (.cells cs t fr))(hu:P.underlying c=some d)(hd:(match d with |.struct _ |.array _ _=>true|_=>false)=true)(l:(P.info? c).map (·.size)=some cs.size)(v:S9)(m:tmps.getD u undef=v):
 (results fn tmps).run P w=.ok (.tuple #[.agg cs,v]) w:=by
 have f:tmps[p]?.getD undef=Tj g:=by simpa using hp
 have i:tmps[u]?.getD undef=v:=by simpa using m
 simp[results,h,f,i,asAddr,run_loadVar_row w g t c cs fr d j hu hd l]
def xI:((ao A).info? 84).map (·.size)=some 5:=av
def xq{W:S7}{b:Nat}{c:Te}(x:dY)(i:c.size=5)(h:W.heap[b]?=some (.cells c 84))(f:w.heap.size<=b){X:TM}(g:cp X w W):
 (((((W.setCell (Ti b) (ah x.cost)).setCell (S8 b 1) (ah x.eW)).setCell (S8 b 2) (ah x.left)).setCell (S8 b 3) (ah x.aP)).setCell (S8 b 4) (ah x.next)).heap[b]?=some (.cells x.a 84)/\
 cp X w (((((W.setCell (Ti b) (ah x.cost)).setCell (S8 b 1) (ah x.eW)).setCell (S8 b 2) (ah x.left)).setCell (S8 b 3) (ah x.aP)).setCell (S8 b 4) (ah x.next))/\
 W.grownBy (((((W.setCell (Ti b) (ah x.cost)).setCell (S8 b 1) (ah x.eW)).setCell (S8 b 2) (ah x.left)).setCell (S8 b 3) (ah x.aP)).setCell (S8 b 4) (ah x.next)) (some b):=by
 have d:(((((c.setIfInBounds 0 (ah x.cost)).setIfInBounds 1 (ah x.eW)).setIfInBounds 2 (ah x.left)).setIfInBounds 3 (ah x.aP)).setIfInBounds 4 (ah x.next))=x.a:=by
  obtain⟨l⟩:=c;match l,i with
  | [_,_,_,_,_],_=>rfl
 have e:=cU (o:=4) (v:=ah x.next) (cU (o:=3) (v:=ah x.aP) (cU (o:=2) (v:=ah x.left) (cU (o:=1) (v:=ah x.eW) (cU (o:=0) (v:=ah x.cost) h))));rw[d]at e;have k:=e7 (o:=4) (v:=ah x.next) (e7 (o:=3) (v:=ah x.aP) (e7 (o:=2) (v:=ah x.left) (e7 (o:=1) (v:=ah x.eW) (e7 (o:=0) (v:=ah x.cost) (e6 W (some b))))));exact⟨e,g.step k (λr e=>.inr (by cases e;exact f)),k⟩
def e2.fv{f:TQ}{D:gd}{P:gl}(H:ky A f D P)(h:e2 f D P w):P.B<=w.heap.size/\P.C<w.heap.size/\P.fm<w.heap.size/\P.gJ<w.heap.size:=by let⟨M,⟨es,c,e,_⟩,_⟩:=h.f;let⟨N,⟨ba,d,g,_⟩,_⟩:=h.k;exact⟨H.size w h.j,bu h.c,bu e,bu g⟩
def yi(w:S7):Sem.run (ao A) (zeroValue 84) w=.ok (.agg iK.a) w:=av
def HY[S:Std A][eY:jx A]{i:TQ}{D:gd}{P:gl}(H:ky A i D P)(S' aP:Nat)(af:S'<=aP)(ae:aP<=D.e)(aa:∀l,S'<l->l<=D.e->rP A i D P l)(w:S7)(h:e2 i D P w)(Z:ij w P.fm M)(I:qw D M)(C:M S' aP=some v):
 Calls (ao A) 56 #[Tj P.C,.agg #[ah S',ah aP]] w λe w'=>e=.returned (.tuple #[.agg (D.T3 S' aP).cu.a,.bool (D.T3 S' aP).some])/\e2 i D P w'/\cp P.X w w':=by
 obtain⟨d,g⟩:∃W,(w.alloc (.cells #[ah S',ah aP] 63)).alloc (.cells #[ah 0,ah 0,ah 0,ah 0,ah 0] 84)=W:=⟨_,S6⟩
 have m:w.grownBy d none:=by rw[<-g];exact bT.trans bT
 have s1:d.heap.size=w.heap.size+2:=by rw[<-g];simp
 have p:d.heap[w.heap.size]?=some (.cells #[ah S',ah aP] 63):=by rw[<-g,dm aF,fM]
 have f:d.heap[w.heap.size+1]?=some (.cells iK.a 84):=by rw[<-g,jA _ _ _ aF];rfl
 have n:=h.fF H.keep m;have R:=al (h.fv H);have ad:d.cell? (S8 P.C 4)=some (.map (some P.fm)):=aU n.c;have ak:d.cell? (Ti w.heap.size)=Tn S':=aU p;have am:d.cell? (S8 w.heap.size 1)=Tn aP:=aU p;have u:=Z.keep m aF;have ag:w.heap.size<d.heap.size:=U;have ai:w.heap.size+1<d.heap.size:=U;have aj:P.C<d.heap.size:=bu n.c;have B:∀w',ij w' P.fm M->Sem.run (ao A) (Instr.lookup 78 (.map (some P.fm)) (.agg #[ah S',ah aP]) true) w'=.ok (.tuple #[(M S' aP).getD (.agg iK.a),.bool (M S' aP).isSome]) w':=λw' Y=>sy (ao.underlying119 A) (.inl S6) yi Y S' aP true
 have y:=B d.drew (u.keep (row:=none) (gv (e6 _ _)) aF);have z:=B (d.alloc (.cells #[ah 0,ah 0,ah 0,ah 0,ah 0] 84)).drew (u.keep (row:=none) (gv bT) aF);have ap:d.cell? (Ti (w.heap.size+1))=Tn 0:=aU f;have aq:d.cell? (S8 (w.heap.size+1) 1)=Tn 0:=aU f;have ar:d.cell? (S8 (w.heap.size+1) 2)=Tn 0:=aU f;have au:d.cell? (S8 (w.heap.size+1) 3)=Tn 0:=aU f;have av:d.cell? (S8 (w.heap.size+1) 4)=Tn 0:=aU f;have z0:=b3 (o:=0) f;have aw:=b3 (o:=1) f;have ax:=b3 (o:=2) f;have z3:=b3 (o:=3) f;have z4:=b3 (o:=4) f;have J:=al f;have L:=al n;have K:=al m;have T:=al I;have F:=al H;have Q:=al g;clear h m n I aa H s1 p f B u;rw[C]at y z;replace y:Sem.run (ao A) (Instr.lookup 78 (.map (some P.fm)) (.agg #[ah S',ah aP]) true) d.drew=.ok (.tuple #[v,.bool true]) d.drew:=y;replace z:Sem.run (ao A) (Instr.lookup 78 (.map (some P.fm)) (.agg #[ah S',ah aP]) true) (d.alloc (.cells #[ah 0,ah 0,ah 0,ah 0,ah 0] 84)).drew=.ok (.tuple #[v,.bool true]) (d.alloc (.cells #[ah 0,ah 0,ah 0,ah 0,ah 0] 84)).drew:=z;obtain⟨rfl,es⟩:=T.out S' aP v C;clear C;clear g;go_enter eY.f85,ntmps56;go_wp2;rw[Q.out];go_region
 all_goals (
  go_wp2;have LT:=R.out;let⟨j,q,V⟩:=xq (w:=w) (b:=w.heap.size+1) (W:=d) (c:=iK.a) (D.T3 S' aP).cu S6 J.out U (X:=P.X) (cp.jF K.out);have E:=L.out.keep F.out.keep V (λb e=>by cases e;omega);revert j q E;generalize ((((d.setCell (Ti (w.heap.size+1)) (ah (D.T3 S' aP).cu.cost)).setCell (S8 (w.heap.size+1) 1) (ah (D.T3 S' aP).cu.eW)).setCell (S8 (w.heap.size+1) 2) (ah (D.T3 S' aP).cu.left)).setCell (S8 (w.heap.size+1) 3) (ah (D.T3 S' aP).cu.aP)).setCell (S8 (w.heap.size+1) 4) (ah (D.T3 S' aP).cu.next)=G;intro j q E;have r:G.grownBy (G.alloc (.cells (D.T3 S' aP).cu.a 84)).drew none:=gv bT;refine bodyPost_ret (Fc S6 _ _ (w.heap.size+1) 84 (D.T3 S' aP).cu.a (0,0) _ S6 ((r.block _ (bu j) aF).trans j) (ao.underlying124 A) S6 xI _ S6) S6 ?_;exact⟨by rw[es];rfl,E.fF F.out.keep r,q.trans (cp.jF r)⟩)
end
end Go.aO
