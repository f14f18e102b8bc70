/- A part. -/
import Derived.Test.YtejkocoljbaioaaGreatDoorP25
set_option maxHeartbeats 8000000
set_option maxRecDepth 100000
set_option linter.all false
namespace Go.aO
open Go.Proofs Go.RowKit
section
variable{A:Array Func}
structure dY where
 cost:Int
 eW:Int
 left:Int
 aP:Int
 next:Int
abbrev dY.a(b:dY):Array Value:=#[ah b.cost,ah b.eW,ah b.left,ah b.aP,ah b.next]
def vM(a b:dY):Bool:=decide (a.cost<b.cost)||(a.cost == b.cost && decide (a.eW<b.eW))
def IA[S:Std A][eY:jx A](a b:dY)(w:World):Calls (ao A) 82 #[.agg a.a,.agg b.a] w λe w'=>e=.returned (.bool (vM a b))/\w.grownBy w' none:=by
 have g:w.grownBy ((w.alloc (.cells a.a 146)).alloc (.cells b.a 146)) none:=bT.trans bT;unfold vM;by_cases c:a.cost<b.cost
 .have d1:decide (a.cost<b.cost)=true:=by simpa using c
  rw[d1];go_enter (S.f Tryz.func82),Tryz.ntmps82;go_wp2;go_ret;exact⟨rfl,g⟩
 .have d1:decide (a.cost<b.cost)=false:=by simpa using c
  rw[d1];by_cases d:a.cost=b.cost
  .have d2:(a.cost == b.cost)=true:=by simpa using d
   rw[d2];go_enter (S.f Tryz.func82),Tryz.ntmps82;go_wp2;go_ret;exact⟨rfl,g⟩
  .have d2:(a.cost == b.cost)=false:=by simpa using d
   rw[d2];go_enter (S.f Tryz.func82),Tryz.ntmps82;go_wp2;go_ret;exact⟨rfl,g⟩
structure gE where
 cu:dY
 some:Bool
def gE.take(c:gE)(x:dY):gE:=if !c.some||vM x c.cu then⟨x,true⟩else c
abbrev gE.a(c:gE):Array Value:=#[.func (.func 82) #[] #[],ah c.cu.cost,ah c.cu.eW,ah c.cu.left,ah c.cu.aP,ah c.cu.next,.bool c.some]
def EW{w W:World}{b:Nat}{c:gE}(x:dY)(h:W.heap[b]?=some (.cells c.a 182))(g:w.grownBy W (some b)):
 ((((((W.setCell ⟨b,1,none⟩ (ah x.cost)).setCell ⟨b,2,none⟩ (ah x.eW)).setCell ⟨b,3,none⟩ (ah x.left)).setCell ⟨b,4,none⟩ (ah x.aP)).setCell ⟨b,5,none⟩ (ah x.next)).setCell ⟨b,6,none⟩ (.bool true)).heap[b]?=some (.cells (gE.a ⟨x,true⟩) 182)/\w.grownBy ((((((W.setCell ⟨b,1,none⟩ (ah x.cost)).setCell ⟨b,2,none⟩ (ah x.eW)).setCell ⟨b,3,none⟩ (ah x.left)).setCell ⟨b,4,none⟩ (ah x.aP)).setCell ⟨b,5,none⟩ (ah x.next)).setCell ⟨b,6,none⟩ (.bool true)) (some b):=
 ⟨cU (o:=6) (cU (o:=5) (cU (o:=4) (cU (o:=3) (cU (o:=2) (cU (o:=1) h))))),e7 (e7 (e7 (e7 (e7 (e7 g)))))⟩
def Cp[S:Std A][eY:jx A](b:Nat)(c:gE)(x:dY)(w:World)(h:w.heap[b]?=some (.cells c.a 182)):
 Calls (ao A) 83 #[.pointer (some ⟨b,0,none⟩),.agg x.a] w λe w'=>e=.returned (.tuple #[])/\w'.heap[b]?=some (.cells (c.take x).a 182)/\w.grownBy w' (some b):=by
 obtain⟨g,cs⟩:=c;have l:w.grownBy (w.alloc (.cells x.a 146)) none:=bT;have B:=bu h;have q:=(l.block b B aF).trans h;have D:=aU (o:=0) h;have E:=aU (o:=1) h;have F:=aU (o:=2) h;have G:=aU (o:=3) h;have H:=aU (o:=4) h;have I:=aU (o:=5) h;have J:=aU (o:=6) h;have f1:=b3 (o:=1) h;have f2:=b3 (o:=2) h;have f3:=b3 (o:=3) h;have f4:=b3 (o:=4) h;have f5:=b3 (o:=5) h;have f6:=b3 (o:=6) h;have u:=al q;clear q;have ek:=al h;have GA:=al l;clear h l;cases cs with
 |false=>
  have e:gE.take ⟨g,false⟩ x=⟨x,true⟩:=by simp[gE.take]
  rw[e];go_enter (S.f Tryz.func83),Tryz.ntmps83;go_wp2;go_region
  go_wp2;go_end0;obtain⟨i,j⟩:=EW x ek.out (e6 w (some b));have z:=nf (some b) (dU ((((((w.setCell ⟨b,1,none⟩ (ah x.cost)).setCell ⟨b,2,none⟩ (ah x.eW)).setCell ⟨b,3,none⟩ (ah x.left)).setCell ⟨b,4,none⟩ (ah x.aP)).setCell ⟨b,5,none⟩ (ah x.next)).setCell ⟨b,6,none⟩ (.bool true)) (.cells x.a 146) none);exact⟨rfl,((dU ((((((w.setCell ⟨b,1,none⟩ (ah x.cost)).setCell ⟨b,2,none⟩ (ah x.eW)).setCell ⟨b,3,none⟩ (ah x.left)).setCell ⟨b,4,none⟩ (ah x.aP)).setCell ⟨b,5,none⟩ (ah x.next)).setCell ⟨b,6,none⟩ (.bool true)) (.cells x.a 146) none).block b (bu i) aF).trans i,gv (ss j z)⟩
 |true=>
  go_enter (S.f Tryz.func83),Tryz.ntmps83;go_wp2;go_region_with (go_at_call 82;refine(IA x g _).mono ?_;rintro e w2 ⟨rfl,f⟩;have d:=(f.block b (by rw[oL,cV];omega) aF).trans u.out;have K:=aU (o:=1) d;have L:=aU (o:=2) d;have M:=aU (o:=3) d;have P:=aU (o:=4) d;have Q:=aU (o:=5) d;have R:=aU (o:=6) d;have T:=b3 (o:=1) d;have U:=b3 (o:=2) d;have z3:=b3 (o:=3) d;have z4:=b3 (o:=4) d;have z5:=b3 (o:=5) d;have V:=b3 (o:=6) d;have C:=f.size;rw[oL,cV]at C;have t0:w2.cell? ⟨w.heap.size,0,none⟩=some (ah x.cost):=f.cell (a:=⟨w.heap.size,0,none⟩) (dR rfl) aF;have t1:w2.cell? ⟨w.heap.size,1,none⟩=some (ah x.eW):=f.cell (a:=⟨w.heap.size,1,none⟩) (dR rfl) aF;have t2:w2.cell? ⟨w.heap.size,2,none⟩=some (ah x.left):=f.cell (a:=⟨w.heap.size,2,none⟩) (dR rfl) aF;have t3:w2.cell? ⟨w.heap.size,3,none⟩=some (ah x.aP):=f.cell (a:=⟨w.heap.size,3,none⟩) (dR rfl) aF;have t4:w2.cell? ⟨w.heap.size,4,none⟩=some (ah x.next):=f.cell (a:=⟨w.heap.size,4,none⟩) (dR rfl) aF;have p:=al d;have GW:=al (GA.out.trans (World.grownBy.trans (gv (e6 _ _)) f));clear d f)
  all_goals (
   cases r:vM x g with
   |true=>
    have e:gE.take ⟨g,true⟩ x=⟨x,true⟩:=by simp[gE.take,r]
    go_wp2;go_end0;obtain⟨i,j⟩:=EW x p.out (nf (some b) GW.out);exact⟨rfl,by rw[e];exact i,j⟩
   |false=>
    have e:gE.take ⟨g,true⟩ x=⟨g,true⟩:=by simp[gE.take,r]
    go_wp2;go_end0;exact⟨rfl,by rw[e];exact p.out,nf (some b) GW.out⟩)
end
def iK:dY:=⟨0,0,0,0,0⟩
def lT:gE:=⟨iK,false⟩
def gR(a7:Nat->Nat->Int)(e:Nat)(g:Nat->dY)(left aP:Nat):Nat->gE
 | 0=>if aP=e then lT.take ⟨a7 left aP,1,left,aP,-1⟩else lT
 |j+1=>if left=aP/\j=0 then gR a7 e g left aP j
  else(gR a7 e g left aP j).take ⟨a7 left aP+(g (aP+j)).cost,(g (aP+j)).eW+1,left,aP,(aP+j:Nat)⟩
def oC(a7:Nat->Nat->Int)(e carry:Nat)(g:Nat->dY)(left aP:Nat):gE:=
 gR a7 e g left aP (if aP<e then min e (aP+carry)+1-aP else 0)
def hc(a7:Nat->Nat->Int)(e carry:Nat)(g:Nat->dY)(left:Nat):Nat->gE
 | 0=>lT
 |j+1=>if (oC a7 e carry g left (left+j)).some then(hc a7 e carry g left j).take (oC a7 e carry g left (left+j)).cu else hc a7 e carry g left j
def mw(a7:Nat->Nat->Int)(e carry:Nat):Nat->Nat->dY
 | 0,_=>iK
 |n+1,left=>(hc a7 e carry (mw a7 e carry n) left (e+1-left)).cu
def BY{a7:Nat->Nat->Int}{e:Nat}{g h:Nat->dY}{left aP:Nat}(f:left<=aP)(d:∀l,left<l->g l=h l):∀j,gR a7 e g left aP j=gR a7 e h left aP j
 | 0=>rfl
 |j+1=>by
  rw[gR,gR,BY f d j];by_cases c:left=aP/\j=0
  .rw[if_pos c,if_pos c]
  .rw[if_neg c,if_neg c,d (aP+j) U]
def wu{a7:Nat->Nat->Int}{e carry:Nat}{g h:Nat->dY}{left:Nat}(c:∀l,left<l->g l=h l):∀j,hc a7 e carry g left j=hc a7 e carry h left j
 | 0=>rfl
 |j+1=>by have d:oC a7 e carry g left (left+j)=oC a7 e carry h left (left+j):=BY U c _;rw[hc,hc,wu c j,d]
def Dc{a7:Nat->Nat->Int}{e carry:Nat}:∀(n m left:Nat),e+1-left<=n->e+1-left<=m->mw a7 e carry n left=mw a7 e carry m left
 | 0,0,_,_,_=>rfl
 | 0,m+1,left,h,_=>by
  have c:e+1-left=0:=U;rw[mw,mw,c];rfl
 |n+1,0,left,_,h=>by
  have c:e+1-left=0:=U;rw[mw,mw,c];rfl
 |n+1,m+1,left,d,f=>by rw[mw,mw,wu (λl g=>Dc n m l U U)]
def b2(a7:Nat->Nat->Int)(e carry left:Nat):dY:=mw a7 e carry (e+1-left) left
def yL(a7:Nat->Nat->Int)(e carry left:Nat):b2 a7 e carry left=(hc a7 e carry (b2 a7 e carry) left (e+1-left)).cu:=by
 cases h:e+1-left with
 |zero=>
  unfold b2;rw[h];rfl
 |succ n=>
  unfold b2;rw[h,mw,h,wu (λl c=>Dc n (e+1-l) l U U)]
def H7{a7:Nat->Nat->Int}{e carry bY:Nat}(c:Nat->dY)(f:∀l,e<l->c l=iK)(h:∀l,bY<=l->l<=e->(hc a7 e carry c l (e+1-l)).cu=c l):∀l,bY<=l->b2 a7 e carry l=c l:=by
 suffices k:∀n l,e+1-l=n->bY<=l->b2 a7 e carry l=c l from λl d=>k _ l rfl d
 intro n;induction n using Nat.strongRecOn with
 |_ n g=>
  intro l j d;by_cases hle:l<=e
  .rw[yL,wu (h:=c) (λaN i=>g (e+1-aN) U aN rfl U),h l d hle]
  .rw[f l U]
   unfold b2;rw[show e+1-l=0 by omega];rfl
def fq(a7:Nat->Nat->Int)(e carry left aP:Nat):gE:=oC a7 e carry (b2 a7 e carry) left aP
deriving instance DecidableEq for dY
def QX:List dY:=[⟨5,2,20,46,48⟩,⟨5,2,21,46,48⟩,⟨5,2,22,46,48⟩,⟨5,2,23,46,48⟩,⟨4,2,24,46,48⟩,⟨4,2,25,46,48⟩,⟨4,2,26,46,48⟩,⟨4,2,27,46,48⟩,⟨4,2,28,46,48⟩,⟨4,2,29,46,48⟩,⟨4,2,30,46,48⟩,⟨4,2,31,46,48⟩,⟨4,2,32,46,48⟩,⟨4,2,33,46,48⟩,⟨4,2,34,46,48⟩,⟨4,2,35,46,48⟩,⟨4,2,36,46,48⟩,⟨4,2,37,46,48⟩,⟨4,2,38,46,48⟩,⟨4,2,39,46,48⟩,⟨4,2,40,46,48⟩,⟨4,2,41,46,48⟩,⟨4,2,42,46,48⟩,⟨4,2,43,46,48⟩,⟨4,2,44,46,48⟩,⟨4,2,45,46,48⟩,⟨4,2,46,46,48⟩,⟨4,2,47,47,48⟩,⟨2,1,48,60,-1⟩,⟨2,1,49,60,-1⟩,⟨2,1,50,60,-1⟩,⟨2,1,51,60,-1⟩,⟨2,1,52,60,-1⟩,⟨2,1,53,60,-1⟩,⟨2,1,54,60,-1⟩,⟨2,1,55,60,-1⟩,⟨2,1,56,60,-1⟩,⟨2,1,57,60,-1⟩,⟨2,1,58,60,-1⟩,⟨2,1,59,60,-1⟩,⟨2,1,60,60,-1⟩]
def uZ(l:Nat):dY:=if l<20 then iK else(QX[l-20]?).getD iK
end Go.aO
namespace Go.aO
open Go.Proofs Go.RowKit Go.Maps
def Ky:ha (fW.first 0) (cX fW 0) 20 100=9:=av
def RK:l' (λf=>ha (fW.first 0) (cX fW 0) 20 f) 6 120 20=95:=av
def K4:wI (jZ (fW.first jI.k) (cX fW jI.k) 5 (hN jI.lm jI.fm jI.b5 (jI.cj-jI.lm+1)))=.tuple #[.agg #[ah 24,ah 26],.agg #[ah 48,ah 50],ah 0]:=av
def QP:(qk fW jI).length=4:=av
def Jg:oK fW jI false=2:=av
def Jh:oK fW jI true=2:=av
def HF:vF fW jI=.tuple #[ah 0,ah 2,ah 0]:=by unfold vF;rw[Jg,Jh,QP];rfl
def QO:qk fW jI = [2,3,5,6]:=av
end Go.aO
namespace Go.aO
open Go.Proofs Go.RowKit
variable{M:Int->Int->Option Value}{aP carry e j n:Nat}{a7:Nat->Nat->Int}{row:Option Nat}{v:Value}{b c w w':World}{d:World->Prop}
section
variable{A:Array Func}
structure cp(X:Nat->Prop)(w w':World):Prop where
 os:w'.os=w.os
 tape:w'.tape=w.tape
 output:w'.output=w.output
 size:w.heap.size<=w'.heap.size
 block:∀i,i<w.heap.size->¬X i->w'.heap[i]?=w.heap[i]?
def cp.refl(X:Nat->Prop)(w:World):cp X w w:=⟨rfl,rfl,rfl,bg,λ_ _ _=>rfl⟩
def cp.of{X:Nat->Prop}(h:w.grownBy w' row)(d:∀r,row=some r->X r):cp X w w':=
 ⟨h.os,h.tape,h.output,h.size,λi c f=>h.block i c λe=>f (d i e.symm)⟩
def cp.jF{X:Nat->Prop}(h:w.grownBy w' none):cp X w w':=.of h aF
def cp.trans{X:Nat->Prop}{a:World}(h:cp X a b)(k:cp X b c):cp X a c:=
 ⟨k.os.trans h.os,k.tape.trans h.tape,k.output.trans h.output,cL h.size k.size,λi d f=>(k.block i (gu d h.size) f).trans (h.block i d f)⟩
def cp.step{X:Nat->Prop}{a:World}(h:cp X a b)(k:b.grownBy c row)(g:∀r,row=some r->X r\/a.heap.size<=r):cp X a c:=
 ⟨k.os.trans h.os,k.tape.trans h.tape,k.output.trans h.output,cL h.size k.size,λi d f=>(k.block i (gu d h.size) λe=>(g i e.symm).elim f (λx=>U)).trans (h.block i d f)⟩
def cp.cell{X:Nat->Prop}{a:Addr}(h:cp X w w')(c:w.cell? a=some v)(d:¬X a.block):w'.cell? a=some v:=
 (World.cell?_of_block (h.block a.block (lD c) d)).trans c
def cp.new{X:Nat->Prop}{aL:World}(h:aL.grownBy w none)(k:cp X w w')(d:∀i,X i->aL.heap.size<=i):aL.grownBy w' none:=
 ⟨k.os.trans h.os,k.tape.trans h.tape,k.output.trans h.output,cL h.size k.size,λi c _=>(k.block i (gu c h.size) λe=>by have:=d i e;omega).trans (h.block i c aF)⟩
structure gd where
 a7:Nat->Nat->Int
 e:Nat
 carry:Nat
 kind:Nat
abbrev gd.S9(D:gd):=b2 D.a7 D.e D.carry
abbrev gd.S'(D:gd):=fq D.a7 D.e D.carry
structure gl where
 C:Nat
 T:Nat
 fm:Nat
 gJ:Nat
 B:Nat
def gl.X(P:gl)(i:Nat):Prop:=i=P.T\/i=P.fm\/i=P.gJ
structure gl.ok(P:gl):Prop where
 T:P.T<P.B
 C:P.B<=P.C
 f:P.B<=P.fm
 k:P.B<=P.gJ
 bP:P.C≠P.fm
 Cr:P.C≠P.gJ
 fk:P.fm≠P.gJ
abbrev gd.a(D:gd)(P:gl):Array Value:=#[.pointer (some ⟨P.T,0,none⟩),ah D.kind,ah D.e,ah D.carry,.map (some P.fm),.map (some P.gJ)]
def qw(D:gd)(M:Int->Int->Option Value):Prop:=∀(l f:Nat) v,M l f=some v->v=.agg (D.S' l f).cu.a/\(D.S' l f).some=true
def qy(D:gd)(M:Int->Option Value):Prop:=∀(l:Nat) v,M l=some v->v=.agg (D.S9 l).a
structure e2(bf:World->Prop)(D:gd)(P:gl)(w:World):Prop where
 j:bf w
 c:w.heap[P.C]?=some (.cells (D.a P) 144)
 f:∃M,ij w P.fm M/\qw D M
 k:∃M,j' w P.gJ M/\qy D M
def rR(c:World->Prop)(B:Nat):Prop:=∀w w' row,c w->w.grownBy w' row->(∀b,row=some b->B<=b)->c w'
def e2.keep{f:World->Prop}{D:gd}{P:gl}(h:e2 f D P w)(i:rR f P.B)(g:w.grownBy w' row)(d:∀b,row=some b->P.B<=b/\b≠P.C/\b≠P.fm/\b≠P.gJ):e2 f D P w':=by obtain⟨j,c,⟨M,l,p⟩,⟨N,o,j3⟩⟩:=h;exact⟨i _ _ _ j g λb e=>(d b e).1,(g.block _ (bu c) (λe=>(d _ e.symm).2.1 rfl)).trans c,⟨M,l.keep g (λe=>(d _ e.symm).2.2.1 rfl),p⟩,⟨N,o.keep g (λe=>(d _ e.symm).2.2.2 rfl),j3⟩⟩
def e2.fF{c:World->Prop}{D:gd}{P:gl}(h:e2 c D P w)(d:rR c P.B)(g:w.grownBy w' none):e2 c D P w':=h.keep d g aF
def e2.wQ{D:gd}{P:gl}(ok:P.ok)(h:e2 d D P w)(g:w.grownBy w' (some P.T))(j:d w'):e2 d D P w':=by obtain⟨_,c,⟨M,f,l⟩,⟨N,i,j3⟩⟩:=h;have o:=ok.T;have p:=ok.C;have q:=ok.f;have r:=ok.k;exact⟨j,(g.block _ (bu c) (λe=>by have:=bD e;omega)).trans c,⟨M,f.keep g (λe=>by have:=bD e;omega),l⟩,⟨N,i.keep g (λe=>by have:=bD e;omega),j3⟩⟩
def e2.NB{D:gd}{P:gl}(ok:P.ok)(f:rR d P.B)(h:e2 d D P w)(g:w.grownBy w' (some P.fm))(l:∃M,ij w' P.fm M/\qw D M):e2 d D P w':=by obtain⟨j,c,_,⟨N,i,j3⟩⟩:=h;exact⟨f _ _ _ j g (λb e=>by cases e;exact ok.f),(g.block _ (bu c) (λe=>ok.bP (bD e))).trans c,l,⟨N,i.keep g (λe=>ok.fk (bD e).symm),j3⟩⟩
def e2.NC{D:gd}{P:gl}(ok:P.ok)(f:rR d P.B)(h:e2 d D P w)(g:w.grownBy w' (some P.gJ))(l:∃M,j' w' P.gJ M/\qy D M):e2 d D P w':=by obtain⟨j,c,⟨M,i,o⟩,_⟩:=h;exact⟨f _ _ _ j g (λb e=>by cases e;exact ok.k),(g.block _ (bu c) (λe=>ok.Cr (bD e))).trans c,⟨M,i.keep g (λe=>ok.fk (bD e)),o⟩,l⟩
def qw.put{D:gd}(h:qw D M)(l f:Nat)(i:(D.S' l f).some=true):qw D (l1 M l f (.agg (D.S' l f).cu.a)):=by
 intro aN d v c;unfold l1 at c;by_cases g:(aN:Int)=l/\(d:Int)=f
 .rw[if_pos g]at c
  obtain⟨j,o⟩:=g;obtain rfl:aN=l:=U;obtain rfl:d=f:=U;exact⟨(bD c).symm,i⟩
 .rw[if_neg g]at c
  exact h aN d v c
def qy.put{D:gd}{M:Int->Option Value}(h:qy D M)(l:Nat):qy D (oW M l (.agg (D.S9 l).a)):=by
 intro aN v c;unfold oW at c;by_cases d:(aN:Int)=l
 .rw[if_pos d]at c
  obtain rfl:aN=l:=U;exact(bD c).symm
 .rw[if_neg d]at c
  exact h aN v c
def lq(n:Nat)(b:dY):Prop:=0<=b.cost/\b.cost<=1000000*n/\0<=b.eW/\b.eW<=n
def lq.zero(n:Nat):lq n iK:=⟨by simp[iK],by simp[iK];omega,by simp[iK],by simp[iK]⟩
def lq.mono{m:Nat}{b:dY}(h:lq n b)(hm:n<=m):lq m b:=by obtain⟨c,f,d,g⟩:=h;exact⟨c,U,d,U⟩
def A9{c:gE}{x:dY}(h:lq n c.cu)(k:lq n x):lq n (c.take x).cu:=by
 unfold gE.take;split
 .exact k
 .exact h
def BX{a7:Nat->Nat->Int}{e:Nat}{g:Nat->dY}{left aP n:Nat}(c:∀l f,0<=a7 l f/\a7 l f<=1000000)(i:left<=aP)(d:∀l,left<l->lq n (g l)):∀j,lq (n+1) (gR a7 e g left aP j).cu
 | 0=>by
  have:=c left aP;rw[gR];split
  .refine A9 (.zero _) ⟨this.1,?_,?_,?_⟩<;>(dsimp only;omega)
  .exact .zero _
 |j+1=>by
  have h:=BX (e:=e) c i d j;rw[gR];split
  .exact h
  .rename_i u
   obtain⟨o,p,q,r⟩:=d (aP+j) U;have:=c left aP;refine A9 h ⟨?_,?_,?_,?_⟩<;>(dsimp only;omega)
def zm{a7:Nat->Nat->Int}{e carry:Nat}{g:Nat->dY}{left n:Nat}(c:∀l f,0<=a7 l f/\a7 l f<=1000000)(d:∀l,left<l->lq n (g l)):∀j,lq (n+1) (hc a7 e carry g left j).cu
 | 0=>.zero _
 |j+1=>by
  rw[hc];split
  .exact A9 (zm (e:=e) (carry:=carry) c d j) (BX c U d _)
  .exact zm (e:=e) (carry:=carry) c d j
def Db{a7:Nat->Nat->Int}{e carry:Nat}(c:∀l f,0<=a7 l f/\a7 l f<=1000000):∀n left,lq n (mw a7 e carry n left)
 | 0,_=>.zero _
 |n+1,left=>zm c (λl _=>Db c n l) _
def H4(c:∀l f,0<=a7 l f/\a7 l f<=1000000)(he:e<120)(left:Nat):lq 120 (b2 a7 e carry left):=(Db c _ _).mono U
def HV{g:Nat->dY}{left:Nat}(h:left=aP/\j=0):gR a7 e g left aP (j+1)=gR a7 e g left aP j:=by rw[gR,if_pos h]
def HW{g:Nat->dY}{left:Nat}(h:¬(left=aP/\j=0)):gR a7 e g left aP (j+1)=(gR a7 e g left aP j).take ⟨a7 left aP+(g (aP+j)).cost,(g (aP+j)).eW+1,left,aP,(aP+j:Nat)⟩:=by rw[gR,if_neg h]
def zo{left:Nat}(h:(fq a7 e carry left (left+j)).some=true):hc a7 e carry (b2 a7 e carry) left (j+1)=(hc a7 e carry (b2 a7 e carry) left j).take (fq a7 e carry left (left+j)).cu:=by rw[hc];exact if_pos h
def Dd{left:Nat}(h:(fq a7 e carry left (left+j)).some=false):hc a7 e carry (b2 a7 e carry) left (j+1)=hc a7 e carry (b2 a7 e carry) left j:=by rw[hc];exact if_neg (by rw[show(oC a7 e carry (b2 a7 e carry) left (left+j)).some=false from h];simp)
structure ky(A:Array Func)(bf:World->Prop)(D:gd)(P:gl):Prop where
 ok:P.ok
 keep:rR bf P.B
 size:∀w,bf w->P.B<=w.heap.size
 C3:∀(w:World),bf w->∀(l f:Nat),l<=f->f<120->Calls (ao A) 47 #[.pointer (some ⟨P.T,0,none⟩),ah D.kind,.agg #[ah l,ah f]] w λe w'=>e=.returned (ah (D.a7 l f))/\bf w'/\w.grownBy w' (some P.T)
 hL:∀l f,0<=D.a7 l f/\D.a7 l f<=1000000
 e:D.e<120
 carry:D.carry<=1000
def rP(A:Array Func)(c:World->Prop)(D:gd)(P:gl)(l:Nat):Prop:=∀(w:World),e2 c D P w->
 Calls (ao A) 68 #[.pointer (some ⟨P.C,0,none⟩),ah l] w λe w'=>e=.returned (.agg (D.S9 l).a)/\e2 c D P w'/\cp P.X w w'
def Fc{P:Program}{fn:Func}{p u:Tmp}{c:TypeId}(h:fn.results=#[.cell p c,.tmp u])(tmps:Array Value)(w:World)(g:Nat)(t:TypeId)(cs:Array Value)(fr:Nat×Nat)(d:TypeDesc)(hp:tmps.getD p undef=.pointer (some ⟨g,0,none⟩))(j:w.heap[g]?=some (.cells cs t fr))(hu:P.underlying c=some d)(hd:(match d with |.struct _ |.array _ _=>true|_=>false)=true)(l:(P.info? c).map (·.size)=some cs.size)(v:Value)(o:tmps.getD u undef=v):
 (results fn tmps).run P w=.ok (.tuple #[.agg cs,v]) w:=by
 have f:tmps[p]?.getD undef=.pointer (some ⟨g,0,none⟩):=by simpa using hp
 have i:tmps[u]?.getD undef=v:=by simpa using o
 simp[results,h,f,i,asAddr,run_loadVar_row w g t c cs fr d j hu hd l]
def xI:((ao A).info? 146).map (·.size)=some 5:=av
def xq{W:World}{b:Nat}{c:Array Value}(x:dY)(i:c.size=5)(h:W.heap[b]?=some (.cells c 146))(f:w.heap.size<=b){X:Nat->Prop}(g:cp X w W):
 (((((W.setCell ⟨b,0,none⟩ (ah x.cost)).setCell ⟨b,1,none⟩ (ah x.eW)).setCell ⟨b,2,none⟩ (ah x.left)).setCell ⟨b,3,none⟩ (ah x.aP)).setCell ⟨b,4,none⟩ (ah x.next)).heap[b]?=some (.cells x.a 146)/\
 cp X w (((((W.setCell ⟨b,0,none⟩ (ah x.cost)).setCell ⟨b,1,none⟩ (ah x.eW)).setCell ⟨b,2,none⟩ (ah x.left)).setCell ⟨b,3,none⟩ (ah x.aP)).setCell ⟨b,4,none⟩ (ah x.next))/\
 W.grownBy (((((W.setCell ⟨b,0,none⟩ (ah x.cost)).setCell ⟨b,1,none⟩ (ah x.eW)).setCell ⟨b,2,none⟩ (ah x.left)).setCell ⟨b,3,none⟩ (ah x.aP)).setCell ⟨b,4,none⟩ (ah x.next)) (some b):=by
 have d:(((((c.setIfInBounds 0 (ah x.cost)).setIfInBounds 1 (ah x.eW)).setIfInBounds 2 (ah x.left)).setIfInBounds 3 (ah x.aP)).setIfInBounds 4 (ah x.next))=x.a:=by
  obtain⟨l⟩:=c;match l,i with
  | [_,_,_,_,_],_=>rfl
 have e:=cU (o:=4) (v:=ah x.next) (cU (o:=3) (v:=ah x.aP) (cU (o:=2) (v:=ah x.left) (cU (o:=1) (v:=ah x.eW) (cU (o:=0) (v:=ah x.cost) h))));rw[d]at e;have k:=e7 (o:=4) (v:=ah x.next) (e7 (o:=3) (v:=ah x.aP) (e7 (o:=2) (v:=ah x.left) (e7 (o:=1) (v:=ah x.eW) (e7 (o:=0) (v:=ah x.cost) (e6 W (some b))))));exact⟨e,g.step k (λr e=>.inr (by cases e;exact f)),k⟩
def e2.fv{f:World->Prop}{D:gd}{P:gl}(H:ky A f D P)(h:e2 f D P w):P.B<=w.heap.size/\P.C<w.heap.size/\P.fm<w.heap.size/\P.gJ<w.heap.size:=by obtain⟨M,⟨es,c,e,_⟩,_⟩:=h.f;obtain⟨N,⟨ba,d,g,_⟩,_⟩:=h.k;exact⟨H.size w h.j,bu h.c,bu e,bu g⟩
def yi(w:World):Sem.run (ao A) (zeroValue 146) w=.ok (.agg iK.a) w:=av
def HY[S:Std A][eY:jx A]{i:World->Prop}{D:gd}{P:gl}(H:ky A i D P)(left aP:Nat)(aj:left<=aP)(ai:aP<=D.e)(af:∀l,left<l->l<=D.e->rP A i D P l)(w:World)(h:e2 i D P w)(ae:ij w P.fm M)(L:qw D M)(G:M left aP=some v):
 Calls (ao A) 84 #[.pointer (some ⟨P.C,0,none⟩),.agg #[ah left,ah aP]] w λe w'=>e=.returned (.tuple #[.agg (D.S' left aP).cu.a,.bool (D.S' left aP).some])/\e2 i D P w'/\cp P.X w w':=by
 obtain⟨d,g⟩:∃W,(w.alloc (.cells #[ah left,ah aP] 67)).alloc (.cells #[ah 0,ah 0,ah 0,ah 0,ah 0] 146)=W:=⟨_,rfl⟩
 have p:w.grownBy d none:=by rw[<-g];exact bT.trans bT
 have s1:d.heap.size=w.heap.size+2:=by rw[<-g];simp
 have r:d.heap[w.heap.size]?=some (.cells #[ah left,ah aP] 67):=by rw[<-g,dm aF,fM]
 have f:d.heap[w.heap.size+1]?=some (.cells iK.a 146):=by rw[<-g,jA _ _ _ aF];rfl
 have q:=h.fF H.keep p;have Y:=al (h.fv H);have ag:d.cell? ⟨P.C,4,none⟩=some (.map (some P.fm)):=aU q.c;have aq:d.cell? ⟨w.heap.size,0,none⟩=some (ah left):=aU r;have ar:d.cell? ⟨w.heap.size,1,none⟩=some (ah aP):=aU r;have B:=ae.keep p aF;have ak:w.heap.size<d.heap.size:=U;have am:w.heap.size+1<d.heap.size:=U;have ap:P.C<d.heap.size:=bu q.c;have F:∀w',ij w' P.fm M->Sem.run (ao A) (Instr.lookup 141 (.map (some P.fm)) (.agg #[ah left,ah aP]) true) w'=.ok (.tuple #[(M left aP).getD (.agg iK.a),.bool (M left aP).isSome]) w':=λw' ad=>sy (ao.underlying119 A) (.inl rfl) yi ad left aP true
 have C:=F d.drew (B.keep (row:=none) (gv (e6 _ _)) aF);have E:=F (d.alloc (.cells #[ah 0,ah 0,ah 0,ah 0,ah 0] 146)).drew (B.keep (row:=none) (gv bT) aF);have au:d.cell? ⟨w.heap.size+1,0,none⟩=some (ah 0):=aU f;have av:d.cell? ⟨w.heap.size+1,1,none⟩=some (ah 0):=aU f;have aw:d.cell? ⟨w.heap.size+1,2,none⟩=some (ah 0):=aU f;have ax:d.cell? ⟨w.heap.size+1,3,none⟩=some (ah 0):=aU f;have ay:d.cell? ⟨w.heap.size+1,4,none⟩=some (ah 0):=aU f;have z0:=b3 (o:=0) f;have az:=b3 (o:=1) f;have aA:=b3 (o:=2) f;have z3:=b3 (o:=3) f;have z4:=b3 (o:=4) f;have Q:=al f;have T:=al q;have R:=al p;have Z:=al L;have J:=al H;have V:=al g;clear h p q L af H s1 r f F B;rw[G]at C E;replace C:Sem.run (ao A) (Instr.lookup 141 (.map (some P.fm)) (.agg #[ah left,ah aP]) true) d.drew=.ok (.tuple #[v,.bool true]) d.drew:=C;replace E:Sem.run (ao A) (Instr.lookup 141 (.map (some P.fm)) (.agg #[ah left,ah aP]) true) (d.alloc (.cells #[ah 0,ah 0,ah 0,ah 0,ah 0] 146)).drew=.ok (.tuple #[v,.bool true]) (d.alloc (.cells #[ah 0,ah 0,ah 0,ah 0,ah 0] 146)).drew:=E;obtain⟨rfl,es⟩:=Z.out left aP v G;clear G;clear g;go_enter eY.f85,Tryz.ntmps84;go_wp2;rw[V.out];go_region
 all_goals (
  go_wp2;have LT:=Y.out;obtain⟨j,u,aa⟩:=xq (w:=w) (b:=w.heap.size+1) (W:=d) (c:=iK.a) (D.S' left aP).cu rfl Q.out U (X:=P.X) (cp.jF R.out);have I:=T.out.keep J.out.keep aa (λb e=>by cases e;omega);revert j u I;generalize ((((d.setCell ⟨w.heap.size+1,0,none⟩ (ah (D.S' left aP).cu.cost)).setCell ⟨w.heap.size+1,1,none⟩ (ah (D.S' left aP).cu.eW)).setCell ⟨w.heap.size+1,2,none⟩ (ah (D.S' left aP).cu.left)).setCell ⟨w.heap.size+1,3,none⟩ (ah (D.S' left aP).cu.aP)).setCell ⟨w.heap.size+1,4,none⟩ (ah (D.S' left aP).cu.next)=K;intro j u I;have z:K.grownBy (K.alloc (.cells (D.S' left aP).cu.a 146)).drew none:=gv bT;refine bodyPost_ret (Fc rfl _ _ (w.heap.size+1) 146 (D.S' left aP).cu.a (0,0) _ rfl ((z.block _ (bu j) aF).trans j) (ao.underlying124 A) rfl xI _ rfl) rfl ?_;exact⟨by rw[es];rfl,I.fF J.out.keep z,u.trans (cp.jF z)⟩)
end
end Go.aO
