/- Part 31 of a law on fees: no conditions. -/
import Derived.Test.YthiiblonjmmnfaaGreatDoorP29
set_option maxHeartbeats 8000000
set_option maxRecDepth 100000
set_option linter.all false
namespace Go.aN
open Go.Proofs Go.RowKit
section
variable{A:Array Func}
structure dq where
 cost:Int
 ee:Int
 left:Int
 aK:Int
 next:Int
abbrev dq.a(b:dq):Array Value:=#[.int .i64 b.cost,.int .i64 b.ee,.int .i64 b.left,.int .i64 b.aK,.int .i64 b.next]
def tG(a b:dq):Bool:=decide (a.cost<b.cost)||(a.cost == b.cost && decide (a.ee<b.ee))
def Fi[S:Std A][eg:gQ A](a b:dq)(w:World):Calls (ag A) 67 #[.agg a.a,.agg b.a] w λe w'=>e=.returned (.bool (tG a b))/\w.grownBy w' none:=by
 have g:w.grownBy ((w.alloc (.cells a.a 148)).alloc (.cells b.a 148)) none:=Pn.trans Pn;unfold tG;by_cases c:a.cost<b.cost
 .have d1:decide (a.cost<b.cost)=true:=by simpa using c
  rw[d1];go_enter (S.f Tryz.func67),Tryz.ntmps67;go_wp2;go_ret;exact⟨rfl,g⟩
 .have d1:decide (a.cost<b.cost)=false:=by simpa using c
  rw[d1];by_cases d:a.cost=b.cost
  .have d2:(a.cost == b.cost)=true:=by simpa using d
   rw[d2];go_enter (S.f Tryz.func67),Tryz.ntmps67;go_wp2;go_ret;exact⟨rfl,g⟩
  .have d2:(a.cost == b.cost)=false:=by simpa using d
   rw[d2];go_enter (S.f Tryz.func67),Tryz.ntmps67;go_wp2;go_ret;exact⟨rfl,g⟩
structure fv where
 cf:dq
 some:Bool
def fv.take(c:fv)(x:dq):fv:=if !c.some||tG x c.cf then⟨x,true⟩else c
abbrev fv.a(c:fv):Array Value:=#[.func (.func 67) #[] #[],.int .i64 c.cf.cost,.int .i64 c.cf.ee,.int .i64 c.cf.left,.int .i64 c.cf.aK,.int .i64 c.cf.next,.bool c.some]
def B4{w W:World}{b:Nat}{c:fv}(x:dq)(h:W.heap[b]?=some (.cells c.a 175))(g:w.grownBy W (some b)):
 ((((((W.setCell ⟨b,1,none⟩ (.int .i64 x.cost)).setCell ⟨b,2,none⟩ (.int .i64 x.ee)).setCell ⟨b,3,none⟩ (.int .i64 x.left)).setCell ⟨b,4,none⟩ (.int .i64 x.aK)).setCell ⟨b,5,none⟩ (.int .i64 x.next)).setCell ⟨b,6,none⟩ (.bool true)).heap[b]?=some (.cells (fv.a ⟨x,true⟩) 175)/\w.grownBy ((((((W.setCell ⟨b,1,none⟩ (.int .i64 x.cost)).setCell ⟨b,2,none⟩ (.int .i64 x.ee)).setCell ⟨b,3,none⟩ (.int .i64 x.left)).setCell ⟨b,4,none⟩ (.int .i64 x.aK)).setCell ⟨b,5,none⟩ (.int .i64 x.next)).setCell ⟨b,6,none⟩ (.bool true)) (some b):=
 ⟨cQ (o:=6) (cQ (o:=5) (cQ (o:=4) (cQ (o:=3) (cQ (o:=2) (cQ (o:=1) h))))),et (et (et (et (et (et g)))))⟩
def zP[S:Std A][eg:gQ A](b:Nat)(c:fv)(x:dq)(w:World)(h:w.heap[b]?=some (.cells c.a 175)):
 Calls (ag A) 68 #[.pointer (some ⟨b,0,none⟩),.agg x.a] w λe w'=>e=.returned (.tuple #[])/\w'.heap[b]?=some (.cells (c.take x).a 175)/\w.grownBy w' (some b):=by
 obtain⟨g,cs⟩:=c;have l:w.grownBy (w.alloc (.cells x.a 148)) none:=Pn;have B:=bp h;have q:=(l.block b B (by simp)).trans h;have F:=aT (o:=0) h;have G:=aT (o:=1) h;have H:=aT (o:=2) h;have I:=aT (o:=3) h;have J:=aT (o:=4) h;have K:=aT (o:=5) h;have L:=aT (o:=6) h;have f1:=b1 (o:=1) h;have f2:=b1 (o:=2) h;have f3:=b1 (o:=3) h;have f4:=b1 (o:=4) h;have f5:=b1 (o:=5) h;have f6:=b1 (o:=6) h;have D:w.heap.size≠b:=by omega
 have E:b≠w.heap.size:=by omega
 have u:=Pj q;clear q;have eo:=Pj h;have GA:=Pj l;clear h l;cases cs with
 |false=>
  have e:fv.take ⟨g,false⟩ x=⟨x,true⟩:=by simp[fv.take]
  rw[e];go_enter (S.f Tryz.func68),Tryz.ntmps68;go_wp2;go_region
  go_wp2;go_end0;obtain⟨i,j⟩:=B4 x eo.out (Pw w (some b));have z:=lO (some b) (Pv ((((((w.setCell ⟨b,1,none⟩ (.int .i64 x.cost)).setCell ⟨b,2,none⟩ (.int .i64 x.ee)).setCell ⟨b,3,none⟩ (.int .i64 x.left)).setCell ⟨b,4,none⟩ (.int .i64 x.aK)).setCell ⟨b,5,none⟩ (.int .i64 x.next)).setCell ⟨b,6,none⟩ (.bool true)) (.cells x.a 148) none);exact⟨rfl,((Pv ((((((w.setCell ⟨b,1,none⟩ (.int .i64 x.cost)).setCell ⟨b,2,none⟩ (.int .i64 x.ee)).setCell ⟨b,3,none⟩ (.int .i64 x.left)).setCell ⟨b,4,none⟩ (.int .i64 x.aK)).setCell ⟨b,5,none⟩ (.int .i64 x.next)).setCell ⟨b,6,none⟩ (.bool true)) (.cells x.a 148) none).block b (bp i) (by simp)).trans i,fQ (qy j z)⟩
 |true=>
  go_enter (S.f Tryz.func68),Tryz.ntmps68;go_wp2;go_region_with (go_at_call 67;refine(Fi x g _).mono ?_;rintro e w2 ⟨rfl,f⟩;have d:=(f.block b (by rw[m3,Pp];omega) (by simp)).trans u.out;have M:=aT (o:=1) d;have P:=aT (o:=2) d;have Q:=aT (o:=3) d;have R:=aT (o:=4) d;have T:=aT (o:=5) d;have U:=aT (o:=6) d;have V:=b1 (o:=1) d;have W:=b1 (o:=2) d;have z3:=b1 (o:=3) d;have z4:=b1 (o:=4) d;have z5:=b1 (o:=5) d;have X:=b1 (o:=6) d;have C:=f.size;rw[m3,Pp]at C;have t0:w2.cell? ⟨w.heap.size,0,none⟩=some (.int .i64 x.cost):=f.cell (a:=⟨w.heap.size,0,none⟩) (Pr rfl) (by simp);have t1:w2.cell? ⟨w.heap.size,1,none⟩=some (.int .i64 x.ee):=f.cell (a:=⟨w.heap.size,1,none⟩) (Pr rfl) (by simp);have t2:w2.cell? ⟨w.heap.size,2,none⟩=some (.int .i64 x.left):=f.cell (a:=⟨w.heap.size,2,none⟩) (Pr rfl) (by simp);have t3:w2.cell? ⟨w.heap.size,3,none⟩=some (.int .i64 x.aK):=f.cell (a:=⟨w.heap.size,3,none⟩) (Pr rfl) (by simp);have t4:w2.cell? ⟨w.heap.size,4,none⟩=some (.int .i64 x.next):=f.cell (a:=⟨w.heap.size,4,none⟩) (Pr rfl) (by simp);have p:=Pj d;have GW:=Pj (GA.out.trans (World.grownBy.trans (fQ (Pw _ _)) f));clear d f)
  all_goals (
   cases r:tG x g with
   |true=>
    have e:fv.take ⟨g,true⟩ x=⟨x,true⟩:=by simp[fv.take,r]
    go_wp2;go_end0;obtain⟨i,j⟩:=B4 x p.out (lO (some b) GW.out);exact⟨rfl,by rw[e];exact i,j⟩
   |false=>
    have e:fv.take ⟨g,true⟩ x=⟨g,true⟩:=by simp[fv.take,r]
    go_wp2;go_end0;exact⟨rfl,by rw[e];exact p.out,lO (some b) GW.out⟩)
end
def hv:dq:=⟨0,0,0,0,0⟩
def kz:fv:=⟨hv,false⟩
def fJ(aX:Nat->Nat->Int)(e:Nat)(g:Nat->dq)(left aK:Nat):Nat->fv
 | 0=>if aK=e then kz.take ⟨aX left aK,1,left,aK,-1⟩else kz
 |j+1=>if left=aK/\j=0 then fJ aX e g left aK j
  else(fJ aX e g left aK j).take ⟨aX left aK+(g (aK+j)).cost,(g (aK+j)).ee+1,left,aK,(aK+j:Nat)⟩
def mS(aX:Nat->Nat->Int)(e carry:Nat)(g:Nat->dq)(left aK:Nat):fv:=
 fJ aX e g left aK (if aK<e then min e (aK+carry)+1-aK else 0)
def fW(aX:Nat->Nat->Int)(e carry:Nat)(g:Nat->dq)(left:Nat):Nat->fv
 | 0=>kz
 |j+1=>if (mS aX e carry g left (left+j)).some then(fW aX e carry g left j).take (mS aX e carry g left (left+j)).cf else fW aX e carry g left j
def k3(aX:Nat->Nat->Int)(e carry:Nat):Nat->Nat->dq
 | 0,_=>hv
 |n+1,left=>(fW aX e carry (k3 aX e carry n) left (e+1-left)).cf
def zv{aX:Nat->Nat->Int}{e:Nat}{g h:Nat->dq}{left aK:Nat}(f:left<=aK)(d:∀l,left<l->g l=h l):∀j,fJ aX e g left aK j=fJ aX e h left aK j
 | 0=>rfl
 |j+1=>by
  rw[fJ,fJ,zv f d j];by_cases c:left=aK/\j=0
  .rw[if_pos c,if_pos c]
  .rw[if_neg c,if_neg c,d (aK+j) (by omega)]
def tY{aX:Nat->Nat->Int}{e carry:Nat}{g h:Nat->dq}{left:Nat}(c:∀l,left<l->g l=h l):∀j,fW aX e carry g left j=fW aX e carry h left j
 | 0=>rfl
 |j+1=>by have d:mS aX e carry g left (left+j)=mS aX e carry h left (left+j):=zv (by omega) c _;rw[fW,fW,tY c j,d]
def AI{aX:Nat->Nat->Int}{e carry:Nat}:∀(n m left:Nat),e+1-left<=n->e+1-left<=m->k3 aX e carry n left=k3 aX e carry m left
 | 0,0,_,_,_=>rfl
 | 0,m+1,left,h,_=>by
  have c:e+1-left=0:=by omega
  rw[k3,k3,c];rfl
 |n+1,0,left,_,h=>by
  have c:e+1-left=0:=by omega
  rw[k3,k3,c];rfl
 |n+1,m+1,left,d,f=>by rw[k3,k3,tY (λl g=>AI n m l (by omega) (by omega))]
def bL(aX:Nat->Nat->Int)(e carry left:Nat):dq:=k3 aX e carry (e+1-left) left
def wj(aX:Nat->Nat->Int)(e carry left:Nat):bL aX e carry left=(fW aX e carry (bL aX e carry) left (e+1-left)).cf:=by
 cases h:e+1-left with
 |zero=>
  unfold bL;rw[h];rfl
 |succ n=>
  unfold bL;rw[h,k3,h,tY (λl c=>AI n (e+1-l) l (by omega) (by omega))]
def EY{aX:Nat->Nat->Int}{e carry b4:Nat}(c:Nat->dq)(f:∀l,e<l->c l=hv)(h:∀l,b4<=l->l<=e->(fW aX e carry c l (e+1-l)).cf=c l):∀l,b4<=l->bL aX e carry l=c l:=by
 suffices k:∀n l,e+1-l=n->b4<=l->bL aX e carry l=c l from λl d=>k _ l rfl d
 intro n;induction n using Nat.strongRecOn with
 |_ n g=>
  intro l j d;by_cases hle:l<=e
  .rw[wj,tY (h:=c) (λaH i=>g (e+1-aH) (by omega) aH rfl (by omega)),h l d hle]
  .rw[f l (by omega)]
   unfold bL;rw[show e+1-l=0 by omega];rfl
def eG(aX:Nat->Nat->Int)(e carry left aK:Nat):fv:=mS aX e carry (bL aX e carry) left aK
deriving instance DecidableEq for dq
def Nx:List dq:=[⟨5,2,20,46,48⟩,⟨5,2,21,46,48⟩,⟨5,2,22,46,48⟩,⟨5,2,23,46,48⟩,⟨4,2,24,46,48⟩,⟨4,2,25,46,48⟩,⟨4,2,26,46,48⟩,⟨4,2,27,46,48⟩,⟨4,2,28,46,48⟩,⟨4,2,29,46,48⟩,⟨4,2,30,46,48⟩,⟨4,2,31,46,48⟩,⟨4,2,32,46,48⟩,⟨4,2,33,46,48⟩,⟨4,2,34,46,48⟩,⟨4,2,35,46,48⟩,⟨4,2,36,46,48⟩,⟨4,2,37,46,48⟩,⟨4,2,38,46,48⟩,⟨4,2,39,46,48⟩,⟨4,2,40,46,48⟩,⟨4,2,41,46,48⟩,⟨4,2,42,46,48⟩,⟨4,2,43,46,48⟩,⟨4,2,44,46,48⟩,⟨4,2,45,46,48⟩,⟨4,2,46,46,48⟩,⟨4,2,47,47,48⟩,⟨2,1,48,60,-1⟩,⟨2,1,49,60,-1⟩,⟨2,1,50,60,-1⟩,⟨2,1,51,60,-1⟩,⟨2,1,52,60,-1⟩,⟨2,1,53,60,-1⟩,⟨2,1,54,60,-1⟩,⟨2,1,55,60,-1⟩,⟨2,1,56,60,-1⟩,⟨2,1,57,60,-1⟩,⟨2,1,58,60,-1⟩,⟨2,1,59,60,-1⟩,⟨2,1,60,60,-1⟩]
def sT(l:Nat):dq:=if l<20 then hv else(Nx[l-20]?).getD hv
end Go.aN
namespace Go.aN
open Go.Proofs Go.RowKit Go.Maps
def Hm:fP (e2.first 0) (cC e2 0) 20 100=9:=by kernel_rfl
def Ol:kO (λf=>fP (e2.first 0) (cC e2 0) 20 f) 6 120 20=95:=by kernel_rfl
def HS:um (iG (e2.first ij.k) (cC e2 ij.k) 5 (gy ij.lm ij.fm ij.bN (ij.bV-ij.lm+1)))=.tuple #[.agg #[.int .i64 24,.int .i64 26],.agg #[.int .i64 48,.int .i64 50],.int .i64 0]:=by kernel_rfl
def Np:(oC e2 ij).length=4:=by kernel_rfl
def FW:m2 e2 ij false=2:=by kernel_rfl
def FX:m2 e2 ij true=2:=by kernel_rfl
def Ex:tx e2 ij=.tuple #[.int .i64 0,.int .i64 2,.int .i64 0]:=by unfold tx;rw[FW,FX,Np];rfl
def No:oC e2 ij = [2,3,5,6]:=by kernel_rfl
end Go.aN
namespace Go.aN
open Go.Proofs Go.RowKit
section
variable{A:Array Func}
structure ca(X:Nat->Prop)(w w':World):Prop where
 os:w'.os=w.os
 tape:w'.tape=w.tape
 output:w'.output=w.output
 size:w.heap.size<=w'.heap.size
 block:∀i,i<w.heap.size->¬X i->w'.heap[i]?=w.heap[i]?
def ca.refl(X:Nat->Prop)(w:World):ca X w w:=⟨rfl,rfl,rfl,Pk,λ_ _ _=>rfl⟩
def ca.of{X:Nat->Prop}{w w':World}{row:Option Nat}(h:w.grownBy w' row)(d:∀r,row=some r->X r):ca X w w':=
 ⟨h.os,h.tape,h.output,h.size,λi c f=>h.block i c λe=>f (d i e.symm)⟩
def ca.ig{X:Nat->Prop}{w w':World}(h:w.grownBy w' none):ca X w w':=.of h (by simp)
def ca.trans{X:Nat->Prop}{a b c:World}(h:ca X a b)(k:ca X b c):ca X a c:=
 ⟨k.os.trans h.os,k.tape.trans h.tape,k.output.trans h.output,Po h.size k.size,λi d f=>(k.block i (Px d h.size) f).trans (h.block i d f)⟩
def ca.step{X:Nat->Prop}{a b c:World}{row:Option Nat}(h:ca X a b)(k:b.grownBy c row)(g:∀r,row=some r->X r\/a.heap.size<=r):ca X a c:=
 ⟨k.os.trans h.os,k.tape.trans h.tape,k.output.trans h.output,Po h.size k.size,λi d f=>(k.block i (Px d h.size) λe=>(g i e.symm).elim f (λx=>by omega)).trans (h.block i d f)⟩
def ca.cell{X:Nat->Prop}{w w':World}{a:Addr}{v:Value}(h:ca X w w')(c:w.cell? a=some v)(d:¬X a.block):w'.cell? a=some v:=
 (World.cell?_of_block (h.block a.block (mV c) d)).trans c
def ca.new{X:Nat->Prop}{aI w w':World}(h:aI.grownBy w none)(k:ca X w w')(d:∀i,X i->aI.heap.size<=i):aI.grownBy w' none:=
 ⟨k.os.trans h.os,k.tape.trans h.tape,k.output.trans h.output,Po h.size k.size,λi c _=>(k.block i (Px c h.size) λe=>by have:=d i e;omega).trans (h.block i c (by simp))⟩
structure fb where
 aX:Nat->Nat->Int
 e:Nat
 carry:Nat
 kind:Nat
structure fc where
 C:Nat
 T:Nat
 fm:Nat
 fA:Nat
 B:Nat
def fc.X(P:fc)(i:Nat):Prop:=i=P.T\/i=P.fm\/i=P.fA
structure fc.ok(P:fc):Prop where
 T:P.T<P.B
 C:P.B<=P.C
 f:P.B<=P.fm
 k:P.B<=P.fA
 bC:P.C≠P.fm
 zR:P.C≠P.fA
 fk:P.fm≠P.fA
abbrev fb.a(D:fb)(P:fc):Array Value:=#[.pointer (some ⟨P.T,0,none⟩),.int .i64 D.kind,.int .i64 D.e,.int .i64 D.carry,.map (some P.fm),.map (some P.fA)]
def oN(D:fb)(M:Int->Int->Option Value):Prop:=∀(l f:Nat) v,M l f=some v->v=.agg (eG D.aX D.e D.carry l f).cf.a/\(eG D.aX D.e D.carry l f).some=true
def oO(D:fb)(M:Int->Option Value):Prop:=∀(l:Nat) v,M l=some v->v=.agg (bL D.aX D.e D.carry l).a
structure ek(a8:World->Prop)(D:fb)(P:fc)(w:World):Prop where
 j:a8 w
 c:w.heap[P.C]?=some (.cells (D.a P) 146)
 f:∃M,g3 w P.fm M/\oN D M
 k:∃M,iS w P.fA M/\oO D M
def p6(c:World->Prop)(B:Nat):Prop:=∀w w' row,c w->w.grownBy w' row->(∀b,row=some b->B<=b)->c w'
def ek.keep{f:World->Prop}{D:fb}{P:fc}{w w':World}{row:Option Nat}(h:ek f D P w)(i:p6 f P.B)(g:w.grownBy w' row)(d:∀b,row=some b->P.B<=b/\b≠P.C/\b≠P.fm/\b≠P.fA):ek f D P w':=by obtain⟨j,c,⟨M,l,p⟩,⟨N,o,q⟩⟩:=h;exact⟨i _ _ _ j g λb e=>(d b e).1,(g.block _ (bp c) (λe=>(d _ e.symm).2.1 rfl)).trans c,⟨M,l.keep g (λe=>(d _ e.symm).2.2.1 rfl),p⟩,⟨N,o.keep g (λe=>(d _ e.symm).2.2.2 rfl),q⟩⟩
def ek.eQ{c:World->Prop}{D:fb}{P:fc}{w w':World}(h:ek c D P w)(d:p6 c P.B)(g:w.grownBy w' none):ek c D P w':=h.keep d g (by simp)
def ek.uw{d:World->Prop}{D:fb}{P:fc}{w w':World}(ok:P.ok)(h:ek d D P w)(g:w.grownBy w' (some P.T))(j:d w'):ek d D P w':=by obtain⟨_,c,⟨M,f,l⟩,⟨N,i,o⟩⟩:=h;have p:=ok.T;have q:=ok.C;have r:=ok.f;have u:=ok.k;exact⟨j,(g.block _ (bp c) (λe=>by have:=Pm e;omega)).trans c,⟨M,f.keep g (λe=>by have:=Pm e;omega),l⟩,⟨N,i.keep g (λe=>by have:=Pm e;omega),o⟩⟩
def ek.Kr{d:World->Prop}{D:fb}{P:fc}{w w':World}(ok:P.ok)(f:p6 d P.B)(h:ek d D P w)(g:w.grownBy w' (some P.fm))(l:∃M,g3 w' P.fm M/\oN D M):ek d D P w':=by obtain⟨j,c,_,⟨N,i,o⟩⟩:=h;exact⟨f _ _ _ j g (λb e=>by cases e;exact ok.f),(g.block _ (bp c) (λe=>ok.bC (Pm e))).trans c,l,⟨N,i.keep g (λe=>ok.fk (Pm e).symm),o⟩⟩
def ek.Ks{d:World->Prop}{D:fb}{P:fc}{w w':World}(ok:P.ok)(f:p6 d P.B)(h:ek d D P w)(g:w.grownBy w' (some P.fA))(l:∃M,iS w' P.fA M/\oO D M):ek d D P w':=by obtain⟨j,c,⟨M,i,o⟩,_⟩:=h;exact⟨f _ _ _ j g (λb e=>by cases e;exact ok.k),(g.block _ (bp c) (λe=>ok.zR (Pm e))).trans c,⟨M,i.keep g (λe=>ok.fk (Pm e)),o⟩,l⟩
def oN.put{D:fb}{M:Int->Int->Option Value}(h:oN D M)(l f:Nat)(i:(eG D.aX D.e D.carry l f).some=true):oN D (kH M l f (.agg (eG D.aX D.e D.carry l f).cf.a)):=by
 intro aH d v c;unfold kH at c;by_cases g:(aH:Int)=l/\(d:Int)=f
 .rw[if_pos g]at c
  obtain⟨j,o⟩:=g;obtain rfl:aH=l:=by omega
  obtain rfl:d=f:=by omega
  exact⟨(Pm c).symm,i⟩
 .rw[if_neg g]at c
  exact h aH d v c
def oO.put{D:fb}{M:Int->Option Value}(h:oO D M)(l:Nat):oO D (nb M l (.agg (bL D.aX D.e D.carry l).a)):=by
 intro aH v c;unfold nb at c;by_cases d:(aH:Int)=l
 .rw[if_pos d]at c
  obtain rfl:aH=l:=by omega
  exact(Pm c).symm
 .rw[if_neg d]at c
  exact h aH v c
def jZ(n:Nat)(b:dq):Prop:=0<=b.cost/\b.cost<=1000000*n/\0<=b.ee/\b.ee<=n
def jZ.zero(n:Nat):jZ n hv:=⟨by simp[hv],by simp[hv];omega,by simp[hv],by simp[hv]⟩
def jZ.mono{n m:Nat}{b:dq}(h:jZ n b)(hm:n<=m):jZ m b:=by obtain⟨c,f,d,g⟩:=h;exact⟨c,by omega,d,by omega⟩
def yL{n:Nat}{c:fv}{x:dq}(h:jZ n c.cf)(k:jZ n x):jZ n (c.take x).cf:=by
 unfold fv.take;split
 .exact k
 .exact h
def zu{aX:Nat->Nat->Int}{e:Nat}{g:Nat->dq}{left aK n:Nat}(c:∀l f,0<=aX l f/\aX l f<=1000000)(i:left<=aK)(d:∀l,left<l->jZ n (g l)):∀j,jZ (n+1) (fJ aX e g left aK j).cf
 | 0=>by
  have:=c left aK;rw[fJ];split
  .refine yL (.zero _) ⟨this.1,?_,?_,?_⟩<;>(dsimp only;omega)
  .exact .zero _
 |j+1=>by
  have h:=zu (e:=e) c i d j;rw[fJ];split
  .exact h
  .rename_i u
   obtain⟨o,p,q,r⟩:=d (aK+j) (by omega);have:=c left aK;refine yL h ⟨?_,?_,?_,?_⟩<;>(dsimp only;omega)
def w5{aX:Nat->Nat->Int}{e carry:Nat}{g:Nat->dq}{left n:Nat}(c:∀l f,0<=aX l f/\aX l f<=1000000)(d:∀l,left<l->jZ n (g l)):∀j,jZ (n+1) (fW aX e carry g left j).cf
 | 0=>.zero _
 |j+1=>by
  rw[fW];split
  .exact yL (w5 (e:=e) (carry:=carry) c d j) (zu c (by omega) d _)
  .exact w5 (e:=e) (carry:=carry) c d j
def AH{aX:Nat->Nat->Int}{e carry:Nat}(c:∀l f,0<=aX l f/\aX l f<=1000000):∀n left,jZ n (k3 aX e carry n left)
 | 0,_=>.zero _
 |n+1,left=>w5 c (λl _=>AH c n l) _
def EV{aX:Nat->Nat->Int}{e carry:Nat}(c:∀l f,0<=aX l f/\aX l f<=1000000)(he:e<120)(left:Nat):jZ 120 (bL aX e carry left):=(AH c _ _).mono (by omega)
def EM{aX:Nat->Nat->Int}{e:Nat}{g:Nat->dq}{left aK j:Nat}(h:left=aK/\j=0):fJ aX e g left aK (j+1)=fJ aX e g left aK j:=by rw[fJ,if_pos h]
def EN{aX:Nat->Nat->Int}{e:Nat}{g:Nat->dq}{left aK j:Nat}(h:¬(left=aK/\j=0)):fJ aX e g left aK (j+1)=(fJ aX e g left aK j).take ⟨aX left aK+(g (aK+j)).cost,(g (aK+j)).ee+1,left,aK,(aK+j:Nat)⟩:=by rw[fJ,if_neg h]
def w7{aX:Nat->Nat->Int}{e carry left j:Nat}(h:(eG aX e carry left (left+j)).some=true):fW aX e carry (bL aX e carry) left (j+1)=(fW aX e carry (bL aX e carry) left j).take (eG aX e carry left (left+j)).cf:=by rw[fW];exact if_pos h
def AJ{aX:Nat->Nat->Int}{e carry left j:Nat}(h:(eG aX e carry left (left+j)).some=false):fW aX e carry (bL aX e carry) left (j+1)=fW aX e carry (bL aX e carry) left j:=by rw[fW];exact if_neg (by rw[show(mS aX e carry (bL aX e carry) left (left+j)).some=false from h];simp)
end
section
variable{A:Array Func}
structure jf(A:Array Func)(a8:World->Prop)(D:fb)(P:fc):Prop where
 ok:P.ok
 keep:p6 a8 P.B
 size:∀w,a8 w->P.B<=w.heap.size
 Aw:∀(w:World),a8 w->∀(l f:Nat),l<=f->f<120->Calls (ag A) 20 #[.pointer (some ⟨P.T,0,none⟩),.int .i64 D.kind,.agg #[.int .i64 l,.int .i64 f]] w λe w'=>e=.returned (.int .i64 (D.aX l f))/\a8 w'/\w.grownBy w' (some P.T)
 gw:∀l f,0<=D.aX l f/\D.aX l f<=1000000
 e:D.e<120
 carry:D.carry<=1000
def p1(A:Array Func)(c:World->Prop)(D:fb)(P:fc)(l:Nat):Prop:=∀(w:World),ek c D P w->
 Calls (ag A) 52 #[.pointer (some ⟨P.C,0,none⟩),.int .i64 l] w λe w'=>e=.returned (.agg (bL D.aX D.e D.carry l).a)/\ek c D P w'/\ca P.X w w'
def Ch{P:Program}{fn:Func}{p u:Tmp}{c:TypeId}(h:fn.results=#[.cell p c,.tmp u])(tmps:Array Value)(w:World)(g:Nat)(t:TypeId)(cs:Array Value)(fr:Nat×Nat)(d:TypeDesc)(o:tmps.getD p undef=.pointer (some ⟨g,0,none⟩))(j:w.heap[g]?=some (.cells cs t fr))(hu:P.underlying c=some d)(hd:(match d with |.struct _ |.array _ _=>true|_=>false)=true)(l:(P.info? c).map (·.size)=some cs.size)(v:Value)(q:tmps.getD u undef=v):
 (results fn tmps).run P w=.ok (.tuple #[.agg cs,v]) w:=by
 have f:tmps[p]?.getD undef=.pointer (some ⟨g,0,none⟩):=by simpa using o
 have i:tmps[u]?.getD undef=v:=by simpa using q
 simp[results,h,f,i,asAddr,run_loadVar_row w g t c cs fr d j hu hd l]
def u':((ag A).info? 148).map (·.size)=some 5:=by kernel_rfl
def uT{w W:World}{b:Nat}{c:Array Value}(x:dq)(i:c.size=5)(h:W.heap[b]?=some (.cells c 148))(f:w.heap.size<=b){X:Nat->Prop}(g:ca X w W):
 (((((W.setCell ⟨b,0,none⟩ (.int .i64 x.cost)).setCell ⟨b,1,none⟩ (.int .i64 x.ee)).setCell ⟨b,2,none⟩ (.int .i64 x.left)).setCell ⟨b,3,none⟩ (.int .i64 x.aK)).setCell ⟨b,4,none⟩ (.int .i64 x.next)).heap[b]?=some (.cells x.a 148)/\
 ca X w (((((W.setCell ⟨b,0,none⟩ (.int .i64 x.cost)).setCell ⟨b,1,none⟩ (.int .i64 x.ee)).setCell ⟨b,2,none⟩ (.int .i64 x.left)).setCell ⟨b,3,none⟩ (.int .i64 x.aK)).setCell ⟨b,4,none⟩ (.int .i64 x.next))/\
 W.grownBy (((((W.setCell ⟨b,0,none⟩ (.int .i64 x.cost)).setCell ⟨b,1,none⟩ (.int .i64 x.ee)).setCell ⟨b,2,none⟩ (.int .i64 x.left)).setCell ⟨b,3,none⟩ (.int .i64 x.aK)).setCell ⟨b,4,none⟩ (.int .i64 x.next)) (some b):=by
 have d:(((((c.setIfInBounds 0 (.int .i64 x.cost)).setIfInBounds 1 (.int .i64 x.ee)).setIfInBounds 2 (.int .i64 x.left)).setIfInBounds 3 (.int .i64 x.aK)).setIfInBounds 4 (.int .i64 x.next))=x.a:=by
  obtain⟨l⟩:=c;match l,i with
  | [_,_,_,_,_],_=>rfl
 have e:=cQ (o:=4) (v:=.int .i64 x.next) (cQ (o:=3) (v:=.int .i64 x.aK) (cQ (o:=2) (v:=.int .i64 x.left) (cQ (o:=1) (v:=.int .i64 x.ee) (cQ (o:=0) (v:=.int .i64 x.cost) h))));rw[d]at e;have k:=et (o:=4) (v:=.int .i64 x.next) (et (o:=3) (v:=.int .i64 x.aK) (et (o:=2) (v:=.int .i64 x.left) (et (o:=1) (v:=.int .i64 x.ee) (et (o:=0) (v:=.int .i64 x.cost) (Pw W (some b))))));exact⟨e,g.step k (λr e=>.inr (by cases e;exact f)),k⟩
def ek.eJ{f:World->Prop}{D:fb}{P:fc}{w:World}(H:jf A f D P)(h:ek f D P w):P.B<=w.heap.size/\P.C<w.heap.size/\P.fm<w.heap.size/\P.fA<w.heap.size:=by obtain⟨M,⟨es,c,e,_⟩,_⟩:=h.f;obtain⟨N,⟨bd,d,g,_⟩,_⟩:=h.k;exact⟨H.size w h.j,bp h.c,bp e,bp g⟩
def vH(w:World):Sem.run (ag A) (zeroValue 148) w=.ok (.agg hv.a) w:=by kernel_rfl
def EP[S:Std A][eg:gQ A]{i:World->Prop}{D:fb}{P:fc}(H:jf A i D P)(left aK:Nat)(ao:left<=aK)(am:aK<=D.e)(L:∀l,left<l->l<=D.e->p1 A i D P l)(w:World)(h:ek i D P w){M:Int->Int->Option Value}(ae:g3 w P.fm M)(Q:oN D M){v:Value}(G:M left aK=some v):
 Calls (ag A) 69 #[.pointer (some ⟨P.C,0,none⟩),.agg #[.int .i64 left,.int .i64 aK]] w λe w'=>e=.returned (.tuple #[.agg (eG D.aX D.e D.carry left aK).cf.a,.bool (eG D.aX D.e D.carry left aK).some])/\ek i D P w'/\ca P.X w w':=by
 obtain⟨d,g⟩:∃W,(w.alloc (.cells #[.int .i64 left,.int .i64 aK] 59)).alloc (.cells #[.int .i64 0,.int .i64 0,.int .i64 0,.int .i64 0,.int .i64 0] 148)=W:=⟨_,rfl⟩
 have q:w.grownBy d none:=by rw[<-g];exact Pn.trans Pn
 have s1:d.heap.size=w.heap.size+2:=by rw[<-g];simp
 have j:d.heap[w.heap.size]?=some (.cells #[.int .i64 left,.int .i64 aK] 59):=by rw[<-g,Pq (by simp),gA]
 have f:d.heap[w.heap.size+1]?=some (.cells hv.a 148):=by rw[<-g,h' _ _ _ (by simp)];rfl
 have r:=h.eQ H.keep q;have Y:=Pj (h.eJ H);have al:d.cell? ⟨P.C,4,none⟩=some (.map (some P.fm)):=aT r.c;have au:d.cell? ⟨w.heap.size,0,none⟩=some (.int .i64 left):=aT j;have av:d.cell? ⟨w.heap.size,1,none⟩=some (.int .i64 aK):=aT j;have u:=ae.keep q (by simp);have ap:w.heap.size<d.heap.size:=by omega
 have aq:w.heap.size+1<d.heap.size:=by omega
 have ar:P.C<d.heap.size:=bp r.c;have z:∀w',g3 w' P.fm M->Sem.run (ag A) (Instr.lookup 143 (.map (some P.fm)) (.agg #[.int .i64 left,.int .i64 aK]) true) w'=.ok (.tuple #[(M left aK).getD (.agg hv.a),.bool (M left aK).isSome]) w':=λw' ad=>qB (ag.underlying119 A) (.inl rfl) vH ad left aK true
 have E:=z d.drew (u.keep (row:=none) (fQ (Pw _ _)) (by simp));have F:=z (d.alloc (.cells #[.int .i64 0,.int .i64 0,.int .i64 0,.int .i64 0,.int .i64 0] 148)).drew (u.keep (row:=none) (fQ Pn) (by simp));have aw:d.cell? ⟨w.heap.size+1,0,none⟩=some (.int .i64 0):=aT f;have ax:d.cell? ⟨w.heap.size+1,1,none⟩=some (.int .i64 0):=aT f;have ay:d.cell? ⟨w.heap.size+1,2,none⟩=some (.int .i64 0):=aT f;have az:d.cell? ⟨w.heap.size+1,3,none⟩=some (.int .i64 0):=aT f;have aA:d.cell? ⟨w.heap.size+1,4,none⟩=some (.int .i64 0):=aT f;have z0:=b1 (o:=0) f;have aB:=b1 (o:=1) f;have aC:=b1 (o:=2) f;have z3:=b1 (o:=3) f;have z4:=b1 (o:=4) f;have ai:=Pj z;have af:=Pj j;have R:=Pj f;have ak:=Pj s1;have U:=Pj r;have T:=Pj q;have Z:=Pj Q;have aj:=Pj u;have ah:=Pj L;have J:=Pj H;have V:=Pj g;clear h q r Q L H s1 j f z u;rw[G]at E F;replace E:Sem.run (ag A) (Instr.lookup 143 (.map (some P.fm)) (.agg #[.int .i64 left,.int .i64 aK]) true) d.drew=.ok (.tuple #[v,.bool true]) d.drew:=E;replace F:Sem.run (ag A) (Instr.lookup 143 (.map (some P.fm)) (.agg #[.int .i64 left,.int .i64 aK]) true) (d.alloc (.cells #[.int .i64 0,.int .i64 0,.int .i64 0,.int .i64 0,.int .i64 0] 148)).drew=.ok (.tuple #[v,.bool true]) (d.alloc (.cells #[.int .i64 0,.int .i64 0,.int .i64 0,.int .i64 0,.int .i64 0] 148)).drew:=F;obtain⟨rfl,es⟩:=Z.out left aK v G;clear G;clear g;go_enter eg.f85,Tryz.ntmps69;go_wp2;rw[V.out];go_region
 all_goals (
  go_wp2;have LT:=Y.out;obtain⟨p,B,aa⟩:=uT (w:=w) (b:=w.heap.size+1) (W:=d) (c:=hv.a) (eG D.aX D.e D.carry left aK).cf rfl R.out (by omega) (X:=P.X) (ca.ig T.out);have I:=U.out.keep J.out.keep aa (λb e=>by cases e;omega);revert p B I;generalize ((((d.setCell ⟨w.heap.size+1,0,none⟩ (.int .i64 (eG D.aX D.e D.carry left aK).cf.cost)).setCell ⟨w.heap.size+1,1,none⟩ (.int .i64 (eG D.aX D.e D.carry left aK).cf.ee)).setCell ⟨w.heap.size+1,2,none⟩ (.int .i64 (eG D.aX D.e D.carry left aK).cf.left)).setCell ⟨w.heap.size+1,3,none⟩ (.int .i64 (eG D.aX D.e D.carry left aK).cf.aK)).setCell ⟨w.heap.size+1,4,none⟩ (.int .i64 (eG D.aX D.e D.carry left aK).cf.next)=K;intro p B I;have C:K.grownBy (K.alloc (.cells (eG D.aX D.e D.carry left aK).cf.a 148)).drew none:=fQ Pn;refine bodyPost_ret (Ch rfl _ _ (w.heap.size+1) 148 (eG D.aX D.e D.carry left aK).cf.a (0,0) _ rfl ((C.block _ (bp p) (by simp)).trans p) (ag.underlying124 A) rfl u' _ rfl) rfl ?_;exact⟨by rw[es];rfl,I.eQ J.out.keep C,B.trans (ca.ig C)⟩)
end
end Go.aN
