/- A part of FeeCarried: no conditions. -/
import Derived.Test.YtalhadgndijcmaaGreatDoorP41
set_option maxHeartbeats 8000000
set_option maxRecDepth 100000
set_option linter.all false
namespace Go.aN
open Go.Proofs Go.RowKit
section
variable{F:Array Func}[S:Std F]
@[simp] theorem ag.call25:dg F 25:=dS Tryz.func25
@[simp] theorem ag.call27:dg F 27:=dS Tryz.func27
end
section
variable{A:Array Func}
def P7(t:Nat->Int)(a n:Nat):∀m,jb t a (n+m)=jb t a n+jb t (a+n) m
 | 0=>by simp[jb]
 |m+1=>by have:=P7 t a n m;rw[<-Nat.add_assoc];simp only[jb];rw[this,Nat.add_assoc a n m];omega
def Qk(f:Int)(t:Nat->Int){a b c:Nat}(I:a<=b)(J:b<=c):fP f t a b+fP f t b c-f=fP f t a c:=by have k1:a / 24<=b / 24:=Nat.div_le_div_right I;have cc:b / 24<=c / 24:=Nat.div_le_div_right J;have e:=P7 t (a / 24+1) (b / 24-a / 24) (c / 24-b / 24);rw[show b / 24-a / 24+(c / 24-b / 24)=c / 24-a / 24 by omega,show a / 24+1+(b / 24-a / 24)=b / 24+1 by omega]at e;unfold fP;rw[e];omega
end
def PY(b x:dq):Prop:=b.cost<x.cost\/(b.cost=x.cost/\b.ee<=x.ee)
def PY.refl(b:dq):PY b b:=.inr ⟨rfl,Int.le_refl _⟩
def PY.trans{a b c:dq}(h:PY a b)(k:PY b c):PY a c:=by unfold PY at *;omega
def P5(a b:dq):tG a b=true↔a.cost<b.cost\/(a.cost=b.cost/\a.ee<b.ee):=by unfold tG;simp
def PZ(c:fv)(x:dq):(c.some=true->PY (c.take x).cf c.cf)/\PY (c.take x).cf x:=by
 unfold fv.take;split
 .rename_i h
  refine⟨λaf=>?_,PY.refl _⟩;rw[af]at h;have:=(P5 x c.cf).1 (by simpa using h);unfold PY;show x.cost<c.cf.cost\/(x.cost=c.cf.cost/\x.ee<=c.cf.ee)
  omega
 .rename_i h
  simp only[Bool.or_eq_true,Bool.not_eq_true',not_or,Bool.not_eq_false]at h;refine⟨λ_=>PY.refl _,?_⟩;have:¬(x.cost<c.cf.cost\/(x.cost=c.cf.cost/\x.ee<c.cf.ee)):=λe=>h.2 ((P5 x c.cf).2 e)
  unfold PY;omega
def P'{aX:Nat->Nat->Int}{e:Nat}{g:Nat->dq}{left aK:Nat}:∀i j,i<=j->(fJ aX e g left aK i).some=true->(fJ aX e g left aK j).some=true/\PY (fJ aX e g left aK j).cf (fJ aX e g left aK i).cf:=by
 intro i j d af;induction j with
 |zero=>
  obtain rfl:i=0:=by omega
  exact⟨af,PY.refl _⟩
 |succ j c=>
  rcases Nat.lt_or_ge i (j+1)with h|h
  .obtain⟨I,J⟩:=c (by omega)
   rw[fJ];split
   .exact⟨I,J⟩
   .exact⟨Dr _ _,((PZ _ _).1 I).trans J⟩
  .obtain rfl:i=j+1:=by omega
   exact⟨af,PY.refl _⟩
def P0(aX:Nat->Nat->Int)(e carry left aK l:Nat):dq:=⟨aX left aK+(bL aX e carry l).cost,(bL aX e carry l).ee+1,left,aK,(l:Nat)⟩
def P9{aX:Nat->Nat->Int}{e carry left aK l:Nat}(I:aK<=l)(J:l<=e)(ax:l<=aK+carry)(aV:aK<e)(bm:¬(left=aK/\l=aK)):
 (eG aX e carry left aK).some=true/\PY (eG aX e carry left aK).cf (P0 aX e carry left aK l):=by
 unfold eG mS;rw[if_pos aV];have ar:fJ aX e (bL aX e carry) left aK (l-aK+1)=(fJ aX e (bL aX e carry) left aK (l-aK)).take (P0 aX e carry left aK l):=by rw[fJ,if_neg (by omega),show aK+(l-aK)=l by omega];rfl
 have h:=P' (aX:=aX) (e:=e) (g:=bL aX e carry) (left:=left) (aK:=aK) (l-aK+1) (min e (aK+carry)+1-aK) (by omega) (by rw[ar];exact Dr _ _);refine⟨h.1,h.2.trans ?_⟩;rw[ar];exact(PZ _ _).2
def P8{aX:Nat->Nat->Int}{e carry left:Nat}:PY (eG aX e carry left e).cf ⟨aX left e,1,left,e,-1⟩:=by unfold eG mS;rw[if_neg (Nat.lt_irrefl _),fJ,if_pos rfl];exact(PZ _ _).2
def P6{aX:Nat->Nat->Int}{e carry left i:Nat}(hb:(eG aX e carry left (left+i)).some=true):∀j,i<j->(fW aX e carry (bL aX e carry) left j).some=true/\PY (fW aX e carry (bL aX e carry) left j).cf (eG aX e carry left (left+i)).cf
 | 0,h=>by omega
 |j+1,h=>by
  by_cases c:i=j
  .subst c
   rw[w7 hb];exact⟨Dr _ _,(PZ _ _).2⟩
  .obtain⟨I,J⟩:=P6 hb j (by omega)
   cases al:(eG aX e carry left (left+j)).some
   .rw[AJ al];exact⟨I,J⟩
   .rw[w7 al]
    exact⟨Dr _ _,((PZ _ _).1 I).trans J⟩
def P2{aX:Nat->Nat->Int}{e carry left aK:Nat}(I:left<=aK)(J:aK<=e)(hb:(eG aX e carry left aK).some=true):PY (bL aX e carry left) (eG aX e carry left aK).cf:=by
 obtain⟨i,rfl⟩:∃i,aK=left+i:=⟨aK-left,by omega⟩
 rw[wj];exact(P6 hb (e+1-left) (by omega)).2
def P4{aX:Nat->Nat->Int}{e carry left:Nat}(h:left<=e):PY (bL aX e carry left) ⟨aX left e,1,left,e,-1⟩:=
 (P2 h Pk EJ).trans P8
def Qc{aX:Nat->Nat->Int}{e carry left aK l:Nat}(aP:left<=aK)(I:aK<=l)(J:l<=e)(ax:l<=aK+carry)(aV:aK<e)(bm:¬(left=aK/\l=aK)):
 PY (bL aX e carry left) (P0 aX e carry left aK l):=by
 obtain⟨b',b7⟩:=P9 (aX:=aX) I J ax aV bm;exact(P2 aP (by omega) b').trans b7
def P3{aX:Nat->Nat->Int}{e c bo:Nat}(al:c<=bo):∀n left,e+1-left=n->left<=e->(bL aX e bo left).cost<=(bL aX e c left).cost:=by
 intro n;induction n using Nat.strongRecOn with
 |_ n g=>
  intro left ak d;obtain⟨f,h⟩:=EW (aX:=aX) (carry:=c) d;have hle:=h.le;rcases h.hQ with⟨rfl,_,I,_⟩|⟨l,_,J,ax,b',b7,aV,cW,bm⟩
  .have:=P4 (aX:=aX) (carry:=bo) d
   unfold PY at this;dsimp only at this;omega
  .have:=g (e+1-l) (by omega) l rfl ax
   have:=Qc (aX:=aX) (carry:=bo) hle.1 J ax (by omega) b7 aV;unfold PY P0 at this;dsimp only at this;omega
def Qa{aX:Nat->Nat->Int}{e c:Nat}{f:Int}(aP:0<=f)(d:∀a b,a<=b->b<=e->f<=aX a b):∀n left,e+1-left=n->left<=e->f<=(bL aX e c left).cost:=by
 intro n;induction n using Nat.strongRecOn with
 |_ n j=>
  intro left ak i;obtain⟨g,h⟩:=EW (aX:=aX) (carry:=c) i;have hle:=h.le;have:=d left g hle.1 hle.2;rcases h.hQ with⟨rfl,_,I,_⟩|⟨l,_,J,ax,b',b7,aV,cW,bm⟩
  .omega
  .have:=j (e+1-l) (by omega) l rfl ax
   omega
def dq.ext'{b:dq}{c t l f n:Int}(I:b.cost=c)(J:b.ee=t)(ax:b.left=l)(aV:b.aK=f)(bm:b.next=n):b=⟨c,t,l,f,n⟩:=by obtain⟨_,_,_,_,_⟩:=b;dsimp only at *;subst I;subst J;subst ax;subst aV;subst bm;rfl
def Qb{aX:Nat->Nat->Int}{e:Nat}{f:Int}(aP:0<=f)(aQ:∀a b,a<=b->b<=e->aX a b+aX b e-f=aX a e):∀n left,e+1-left=n->left<=e->bL aX e 0 left=⟨aX left e,1,left,e,-1⟩:=by
 intro n;induction n using Nat.strongRecOn with
 |_ n o=>
  intro left ak d;obtain⟨g,h⟩:=EW (aX:=aX) (carry:=0) d;have hle:=h.le;have I:=P4 (aX:=aX) (carry:=0) d;unfold PY at I;dsimp only at I;rcases h.hQ with⟨rfl,p,i,c⟩|⟨l,_,i,c,n6,n7,q,j,n5⟩
  .exact dq.ext' i c h.ah h.aB p
  .obtain rfl:l=g:=by omega
   have aj:=o (e+1-l) (by omega) l rfl c;rw[aj]at j n5;dsimp only at j n5;have:=aQ left l hle.1 c;omega
def Qf(d:cR)(k:Nat){e:Nat}(he:e<120)(a b:Nat)(I:a<=b)(J:b<=e):gi d k a b+gi d k b e-d.first k=gi d k a e:=by unfold gi;rw[if_pos (by omega),if_pos he,if_pos he];exact Qk _ _ I J
def Qe{d:cR}(ok:d.ok){k:Nat}(U:k<d.kinds){e:Nat}(he:e<120)(a b:Nat)(I:a<=b)(J:b<=e):d.first k<=gi d k a b:=by unfold gi;rw[if_pos (by omega)];have:=Ni (λx=>oD ok U x) (a / 24+1) (b / 24-a / 24);unfold fP;omega
def Qd{d:cR}(ok:d.ok){k:Nat}(U:k<d.kinds){left e c bo:Nat}(he:e<120)(f:left<=e)(al:c<=bo):
 bL (gi d k) e 0 left=⟨gi d k left e,1,left,e,-1⟩/\qj (gi d k) e 0 left = [⟨gi d k left e,1,left,e,-1⟩]/\(bL (gi d k) e bo left).cost<=(bL (gi d k) e c left).cost/\(bL (gi d k) e c left).cost<=gi d k left e/\d.first k<=(bL (gi d k) e bo left).cost:=by
 have aP:=(ok.first k U).1;have I:=Qb (aX:=gi d k) (e:=e) aP (λa b x y=>Qf d k he a b x y) _ left rfl f;refine⟨I,?_,P3 al _ left rfl f,?_,Qa aP (λa b x y=>Qe ok U he a b x y) _ left rfl f⟩
 .unfold qj
  rw[I];exact zL rfl _
 .have:=P3 (aX:=gi d k) (e:=e) (Nat.zero_le c) _ left rfl f
  rw[I]at this;exact this
section
variable{A:Array Func}
def P1:∀(c:List dq) (i:Nat),i<c.length->(lN c)[i*2]?=some (.int .i64 (c.getD i hv).left)/\(lN c)[i*2+1]?=some (.int .i64 (c.getD i hv).aK)
 | [],_,h=>by simp at h
 |b::c,0,_=>⟨rfl,rfl⟩
 |b::c,i+1,h=>by have:=P1 c i (by simpa using h);rw[show(i+1)*2=i*2+2 by omega];exact this
def Qm{w:World}{B:Nat}{v:Value}{d:List dq}(h:w.ownsRow B 64 2 v d.length (lN d))(ak:0<d.length):∃g cap,v=.slice (some ⟨g,0,none⟩) d.length cap/\B<=g/\g<w.heap.size/\qc w g 0 d.length (λi=>(d.getD i hv).left) (λi=>(d.getD i hv).aK):=by
 obtain⟨f,⟨_,h⟩|⟨g,c,cur,aP,hb,ae,I,J,ax,aV⟩⟩:=h
 .omega
 .refine⟨g,c,aP,hb,bp ae,λi aj=>?_,λi aj=>?_⟩
  .exact tE ae aV (P1 d i aj).1
  .show w.cell? ⟨g,0+i*2+1,none⟩=_
   rw[Nat.add_assoc];exact tE ae aV (P1 d i aj).2
def Ql(w:World)(a b:Int):qc (w.alloc (.cells #[.int .i64 a,.int .i64 b] 64)) w.heap.size 0 1 (λ_=>a) (λ_=>b):=by
 refine⟨λi aj=>?_,λi aj=>?_⟩
 .obtain rfl:i=0:=by omega
  exact aT (gA _ _)
 .obtain rfl:i=0:=by omega
  exact aT (gA _ _)
def Qg[S:Std A][eg:gQ A][P:gg A](bb:∀w,Calls (ag A) 16 #[] w λe w'=>e=.returned (.bool true)/\w=w')(w:World)(L:Value)(h:j4 w L w.heap.size)(eP:L.oneCell'=true):
 Calls (ag A) 10 #[L] w λe _=>e=.returned (.bool true):=by
 have a0:=Pj (O' (A:=A) L w h eP);clear h;go_enter (S.f Tryz.func10),Tryz.ntmps10;go_upto_region 5 with(first
  |(go_at_call 17;refine a0.out.mono ?_;rintro e bn ⟨rfl,az,f⟩;have a2:=Pj az;clear az f)
  |(go_at_call 28;refine(Pe (A:=A) w.heap.size 0 L (by omega) bn a2.out).mono ?_;rintro e w2 ⟨d,p,H,ok,rfl,aO,Q,bz,az,f⟩;have Z:=Pj az;have a8:=Pj aO;clear az f aO)
  |(go_at_call 29;refine(Pb (A:=A) w.heap.size H L (by omega) d ok p _ (Z.out.alloc _)).mono ?_;rintro e w3 ⟨k,left,aK,rfl,U,bB,bw,az,f⟩;have t3:fy w3 d p:=((a8.out.keep Pn).uw f Q);have aG:w3.heap[w2.heap.size]?=some (.cells (cO d p) 25):=((f.block _ (by simp) (λe=>by have:=Pm e;have:=Z.out.lt;omega)).trans (gA _ _));have bC:w.heap.size<w2.heap.size:=Z.out.lt;have a4:=Pj az;have a9:=Pj t3;have ap:=Pj aG;clear az f t3 aG)
  |(go_at_call 20;refine(pU (A:=A) w.heap.size (H+4) L (by omega) 50 (by omega) w3 a4.out).mono ?_;rintro e aV ⟨e6,rfl,aa,az,f⟩;have t4:=a9.out.uw f Q;have aH:aV.heap[w2.heap.size]?=some (.cells (cO d p) 25):=(f.block w2.heap.size (bp ap.out) (λe=>by have:=Pm e;omega)).trans ap.out;have a5:=Pj az;have ba:=Pj t4;have aq:=Pj aH;clear az f t4 aH)
  |(go_at_call 20;refine(pU (A:=A) w.heap.size (H+5) L (by omega) 5 (by omega) aV a5.out).mono ?_;rintro e ah ⟨c,rfl,al,az,f⟩;have t5:=ba.out.uw f Q;have aI:ah.heap[w2.heap.size]?=some (.cells (cO d p) 25):=(f.block w2.heap.size (bp aq.out) (λe=>by have:=Pm e;omega)).trans aq.out;have aw:=Pj az;have aD:=Pj t5;have z:=Pj aI;clear az f t5 aI))
 obtain⟨e,he⟩:∃e:Nat,min 119 ((left:Int)+e6)=(e:Int):=⟨min 119 (left+e6),by omega⟩
 have hle:left<=e:=by omega
 have r:e<120:=by omega
 rw[he];have bv:c<=5:=by omega
 clear he aa al;generalize w2.heap.size=B at *;have I:=aT (o:=0) z.out;have q1:=aT (o:=1) z.out;have J:=aT (o:=2) z.out;have K:=aT (o:=3) z.out;have f1:=ok.first k U
 have am:=Pj λl=>EV (aX:=gi d k) (carry:=l) (λa b=>Hj ok U a b) r left
 go_upto_region 6 with(go_at_call 25;refine(Fh (A:=A) d ok p k U left e hle r 0 (by omega) ah aD.out).mono ?_;rintro ar R ⟨v1,rfl,aU,f⟩;have t6:=aD.out.keep f;have aJ:R.heap[B]?=some (.cells (cO d p) 25):=(f.block _ (bp z.out) (by simp)).trans z.out;have au:=Pj f;have ay:=Pj t6;have C:=Pj aJ;have av:=Pj aU;clear f t6 aJ aU)
 clear I q1 J K;have I:=aT (o:=0) C.out;have q1:=aT (o:=1) C.out;have J:=aT (o:=2) C.out;have K:=aT (o:=3) C.out;go_upto_region 7 with(go_at_call 25;refine(Fh (A:=A) d ok p k U left e hle r c (by omega) R ay.out).mono ?_;rintro ar j ⟨v2,rfl,bl,f⟩;have t7:=ay.out.keep f;have aL:j.heap[B]?=some (.cells (cO d p) 25):=(f.block _ (bp C.out) (by simp)).trans C.out;have q:=Pj f;have a6:=Pj t7;have D:=Pj aL;clear f t7 aL bl)
 clear I q1 J K;have bu:j.drew.cell? ⟨B,0,none⟩=some (.int .i64 d.kinds):=(aT (o:=0) D.out).trans rfl;have c1:j.drew.cell? ⟨B,1,none⟩=some (.slice (some ⟨p.gv,p.hj,none⟩) d.kinds p.eT):=(aT (o:=1) D.out).trans rfl;have c2:j.drew.cell? ⟨B,2,none⟩=some (.slice (some ⟨p.j9,p.lg,none⟩) d.eY p.h8):=(aT (o:=2) D.out).trans rfl;have c3:j.drew.cell? ⟨B,3,none⟩=some (.slice p.hE d.fC p.h9):=(aT (o:=3) D.out).trans rfl;have ax:=Pj (show fg j.drew w.heap.size L (H+6)from(aw.out.keep λb hb=>((au.out.trans q.out).block b hb (by simp))).of rfl);have aA:=Pj (a6.out.keep (fQ (Pw j none)));have G:(some B:Option Nat)≠some w.heap.size:=λe=>by have:=Pm e;omega
 have V:=Pj (show ∀(W:World),j.drew.grownBy W (some w.heap.size)->W.cell? ⟨B,0,none⟩=some (.int .i64 d.kinds)/\W.cell? ⟨B,1,none⟩=some (.slice (some ⟨p.gv,p.hj,none⟩) d.kinds p.eT)/\W.cell? ⟨B,2,none⟩=some (.slice (some ⟨p.j9,p.lg,none⟩) d.eY p.h8)/\W.cell? ⟨B,3,none⟩=some (.slice p.hE d.fC p.h9)from λW g=>⟨g.cell bu G,g.cell c1 G,g.cell c2 G,g.cell c3 G⟩);go_region_held3 (λW=>W.cell? ⟨B,0,none⟩=some (.int .i64 d.kinds)/\W.cell? ⟨B,1,none⟩=some (.slice (some ⟨p.gv,p.hj,none⟩) d.kinds p.eT)/\W.cell? ⟨B,2,none⟩=some (.slice (some ⟨p.j9,p.lg,none⟩) d.eY p.h8)/\W.cell? ⟨B,3,none⟩=some (.slice p.hE d.fC p.h9))
  (first|with_reducible exact⟨bu,c1,c2,c3⟩|with_reducible exact V.out _ X.out|with_reducible exact V.out _ Y.out)
  (first
  |(go_at_call 36;refine(vr (A:=A) w.heap.size (H+6) L (by omega) (c:Int) 30 (by omega) _ ax.out).mono ?_;rintro ar aW ⟨m,rfl,bd,aa,az,f⟩;have t8:=aA.out.uw f Q;have X:=Pj f;have aB:=Pj t8;have bf:c<=m:=(by omega);have bg:m<=30:=(by omega);clear f t8 az bd aa)
  |(go_at_call 25;refine(Fh (A:=A) d ok p k U left e hle r m bg aW aB.out).mono ?_;rintro ar T ⟨v3,rfl,bm,f⟩;have t9:=aB.out.keep f;have ae:=X.out.trans (⟨f.os,f.tape,f.output,f.size,λi aj _=>f.block i aj (by simp)⟩:aW.grownBy T (some w.heap.size));have aM:T.heap[B]?=some (.cells (cO d p) 25):=(ae.block B (bp D.out) G).trans D.out;have Y:=Pj ae;have aC:=Pj t9;have E:=Pj aM;clear f t9 bm ae aM))
 clear bu c1 c2 c3 V ax aA X;have I:=aT (o:=0) E.out;have q1:=aT (o:=1) E.out;have J:=aT (o:=2) E.out;have K:=aT (o:=3) E.out;go_upto_region 9 with(go_at_call 30;refine(Hl (A:=A) d ok p k U left e hle r T aC.out).mono ?_;rintro ar u ⟨rfl,f⟩;have t10:=aC.out.keep f;have aE:u.heap[B]?=some (.cells (cO d p) 25):=(f.block _ (bp E.out) (by simp)).trans E.out;have F:=Pj f;have a3:=Pj t10;have ao:=Pj aE;clear f t10 aE)
 clear I q1 J K;have bk:=Qd ok U (c:=c) (bo:=m) r hle bf;obtain⟨af,aS,bh,bi,bj⟩:=bk;have aP:fP (d.first k) (cC d k) left e=gi d k left e:=by unfold gi;rw[if_pos r]
 have aQ:(bL (gi d k) e 0 left).cost=gi d k left e:=by rw[af]
 rw[aP,aQ];have bs:=am.out m;have br:=am.out c;have bt:=Hj ok U left e;have bO:=av.out;rw[aS]at bO;obtain⟨M,cap,rfl,bx,bA,aZ⟩:=Qm bO Nat.zero_lt_one;have bU:R.grownBy u (some w.heap.size):=(((⟨q.out.os,q.out.tape,q.out.output,q.out.size,λi aj _=>q.out.block i aj (by simp)⟩:R.grownBy j (some w.heap.size)).trans (fQ (Pw j _))).trans Y.out).trans (⟨F.out.os,F.out.tape,F.out.output,F.out.size,λi aj _=>F.out.block i aj (by simp)⟩:T.grownBy u (some w.heap.size));have bc:w.heap.size<ah.heap.size:=aw.out.lt;have aN:qc u M 0 1 (λ_=>(left:Int)) (λ_=>(e:Int)):=⟨λi aj=>by
  obtain rfl:i=0:=by omega
  exact bU.cell (aZ.bu 0 Nat.zero_lt_one) (λx=>by have:M=w.heap.size:=Pm x;omega),λi aj=>by
  obtain rfl:i=0:=by omega
  exact bU.cell (aZ.c1 0 Nat.zero_lt_one) (λx=>by have:M=w.heap.size:=Pm x;omega)⟩
 have a7:=Pj aN;have bq:=Pj af;have aR:=Ql u left e;have a1:=Pj aR;clear af aS aP aQ bO aZ bU bc aN aR av au q Y F G;generalize (bL (gi d k) e m left).cost=ak at *;generalize (bL (gi d k) e c left).cost=ai at *;generalize gi d k left e=aY at *;have d1:decide (ak<=ai)=true:=by simpa using bh
 have d2:decide (ai<=aY)=true:=by simpa using bi
 have d3:decide (d.first k<=ak)=true:=by simpa using bj
 go_wp2_with (first
  |(go_at_call 27;refine(It (A:=A) M 0 u.heap.size 0 1 cap 1 (by omega) (λ_=>(left:Int)) (λ_=>(e:Int)) _ (a7.out.keep Pn) a1.out).mono ?_;rintro ar bD ⟨rfl,f⟩;have ad:=(Pv u (.cells #[.int .i64 left,.int .i64 e] 64) none).trans f;have aF:=(ad.block B (bp ao.out) (by simp)).trans ao.out;have s1:=aT (o:=1) aF;have s2:=(a3.out.keep ad).first k U;clear f ad aF)
  |(go_at_call 16;refine(bb _).mono ?_;rintro ar bE ⟨rfl,rfl⟩))
 go_ret;rfl
end
end Go.aN
