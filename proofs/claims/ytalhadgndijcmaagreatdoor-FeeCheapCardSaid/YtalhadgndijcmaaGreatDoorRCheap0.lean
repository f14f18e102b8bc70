/- A part of FeeCheap: no conditions. -/
import Derived.Test.YtalhadgndijcmaaGreatDoorP41
set_option maxHeartbeats 8000000
set_option maxRecDepth 100000
set_option linter.all false
namespace Go.aN
open Go.Proofs Go.RowKit
section
variable{F:Array Func}[S:Std F]
@[simp] theorem ag.call25:dg F 25:=dS Tryz.func25
@[simp] theorem ag.call35:dg F 35:=dS Tryz.func35
end
section
variable{A:Array Func}
def Qv(t:Nat->Int)(a n:Nat):∀m,jb t a (n+m)=jb t a n+jb t (a+n) m
 | 0=>by simp[jb]
 |m+1=>by have:=Qv t a n m;rw[<-Nat.add_assoc];simp only[jb];rw[this,Nat.add_assoc a n m];omega
def QM(f:Int)(t:Nat->Int){a b c:Nat}(I:a<=b)(J:b<=c):fP f t a b+fP f t b c-f=fP f t a c:=by have k1:a / 24<=b / 24:=Nat.div_le_div_right I;have cc:b / 24<=c / 24:=Nat.div_le_div_right J;have e:=Qv t (a / 24+1) (b / 24-a / 24) (c / 24-b / 24);rw[show b / 24-a / 24+(c / 24-b / 24)=c / 24-a / 24 by omega,show a / 24+1+(b / 24-a / 24)=b / 24+1 by omega]at e;unfold fP;rw[e];omega
end
def PY(b x:dq):Prop:=b.cost<x.cost\/(b.cost=x.cost/\b.ee<=x.ee)
def PY.refl(b:dq):PY b b:=.inr ⟨rfl,Int.le_refl _⟩
def PY.trans{a b c:dq}(h:PY a b)(k:PY b c):PY a c:=by unfold PY at *;omega
def Qf(a b:dq):tG a b=true↔a.cost<b.cost\/(a.cost=b.cost/\a.ee<b.ee):=by unfold tG;simp
def P6(c:fv)(x:dq):(c.some=true->PY (c.take x).cf c.cf)/\PY (c.take x).cf x:=by
 unfold fv.take;split
 .rename_i h
  refine⟨λaf=>?_,PY.refl _⟩;rw[af]at h;have:=(Qf x c.cf).1 (by simpa using h);unfold PY;show x.cost<c.cf.cost\/(x.cost=c.cf.cost/\x.ee<=c.cf.ee)
  omega
 .rename_i h
  simp only[Bool.or_eq_true,Bool.not_eq_true',not_or,Bool.not_eq_false]at h;refine⟨λ_=>PY.refl _,?_⟩;have:¬(x.cost<c.cf.cost\/(x.cost=c.cf.cost/\x.ee<c.cf.ee)):=λe=>h.2 ((Qf x c.cf).2 e)
  unfold PY;omega
def Qc{aX:Nat->Nat->Int}{e:Nat}{g:Nat->dq}{left aK:Nat}:∀i j,i<=j->(fJ aX e g left aK i).some=true->(fJ aX e g left aK j).some=true/\PY (fJ aX e g left aK j).cf (fJ aX e g left aK i).cf:=by
 intro i j d af;induction j with
 |zero=>
  obtain rfl:i=0:=by omega
  exact⟨af,PY.refl _⟩
 |succ j c=>
  rcases Nat.lt_or_ge i (j+1)with h|h
  .obtain⟨I,J⟩:=c (by omega)
   rw[fJ];split
   .exact⟨I,J⟩
   .exact⟨Dr _ _,((P6 _ _).1 I).trans J⟩
  .obtain rfl:i=j+1:=by omega
   exact⟨af,PY.refl _⟩
def P3(aX:Nat->Nat->Int)(e carry left aK l:Nat):dq:=⟨aX left aK+(bL aX e carry l).cost,(bL aX e carry l).ee+1,left,aK,(l:Nat)⟩
def Ql{aX:Nat->Nat->Int}{e carry left aK l:Nat}(I:aK<=l)(J:l<=e)(ax:l<=aK+carry)(aV:aK<e)(bm:¬(left=aK/\l=aK)):
 (eG aX e carry left aK).some=true/\PY (eG aX e carry left aK).cf (P3 aX e carry left aK l):=by
 unfold eG mS;rw[if_pos aV];have ar:fJ aX e (bL aX e carry) left aK (l-aK+1)=(fJ aX e (bL aX e carry) left aK (l-aK)).take (P3 aX e carry left aK l):=by rw[fJ,if_neg (by omega),show aK+(l-aK)=l by omega];rfl
 have h:=Qc (aX:=aX) (e:=e) (g:=bL aX e carry) (left:=left) (aK:=aK) (l-aK+1) (min e (aK+carry)+1-aK) (by omega) (by rw[ar];exact Dr _ _);refine⟨h.1,h.2.trans ?_⟩;rw[ar];exact(P6 _ _).2
def QA{aX:Nat->Nat->Int}{e carry left:Nat}:PY (eG aX e carry left e).cf ⟨aX left e,1,left,e,-1⟩:=by unfold eG mS;rw[if_neg (Nat.lt_irrefl _),fJ,if_pos rfl];exact(P6 _ _).2
def P9{aX:Nat->Nat->Int}{e carry left i:Nat}(hb:(eG aX e carry left (left+i)).some=true):∀j,i<j->(fW aX e carry (bL aX e carry) left j).some=true/\PY (fW aX e carry (bL aX e carry) left j).cf (eG aX e carry left (left+i)).cf
 | 0,h=>by omega
 |j+1,h=>by
  by_cases c:i=j
  .subst c
   rw[w7 hb];exact⟨Dr _ _,(P6 _ _).2⟩
  .obtain⟨I,J⟩:=P9 hb j (by omega)
   cases al:(eG aX e carry left (left+j)).some
   .rw[AJ al];exact⟨I,J⟩
   .rw[w7 al]
    exact⟨Dr _ _,((P6 _ _).1 I).trans J⟩
def Qm{aX:Nat->Nat->Int}{e carry left aK:Nat}(I:left<=aK)(J:aK<=e)(hb:(eG aX e carry left aK).some=true):PY (bL aX e carry left) (eG aX e carry left aK).cf:=by
 obtain⟨i,rfl⟩:∃i,aK=left+i:=⟨aK-left,by omega⟩
 rw[wj];exact(P9 hb (e+1-left) (by omega)).2
def P8{aX:Nat->Nat->Int}{e carry left:Nat}(h:left<=e):PY (bL aX e carry left) ⟨aX left e,1,left,e,-1⟩:=
 (Qm h Pk EJ).trans QA
def QC{aX:Nat->Nat->Int}{e carry left aK l:Nat}(aP:left<=aK)(I:aK<=l)(J:l<=e)(ax:l<=aK+carry)(aV:aK<e)(bm:¬(left=aK/\l=aK)):
 PY (bL aX e carry left) (P3 aX e carry left aK l):=by
 obtain⟨b',b7⟩:=Ql (aX:=aX) I J ax aV bm;exact(Qm aP (by omega) b').trans b7
def Qe{aX:Nat->Nat->Int}{e carry:Nat}:∀n left,e+1-left=n->left<=e->1<=(bL aX e carry left).ee:=by
 intro n;induction n using Nat.strongRecOn with
 |_ n d=>
  intro left ak c;obtain⟨f,h⟩:=EW (aX:=aX) (carry:=carry) c;have:=h.le;rcases h.hQ with⟨_,_,_,I⟩|⟨l,_,J,ax,_,_,aV,_,bm⟩
  .omega
  .have:=d (e+1-l) (by omega) l rfl ax
   omega
def dq.ext'{b:dq}{c t l f n:Int}(I:b.cost=c)(J:b.ee=t)(ax:b.left=l)(aV:b.aK=f)(bm:b.next=n):b=⟨c,t,l,f,n⟩:=by obtain⟨_,_,_,_,_⟩:=b;dsimp only at *;subst I;subst J;subst ax;subst aV;subst bm;rfl
def Qd{aX:Nat->Nat->Int}{e c left:Nat}(d:left<=e)(h:(bL aX e c left).cost=aX left e):bL aX e c left=⟨aX left e,1,left,e,-1⟩:=by
 obtain⟨g,al⟩:=EW (aX:=aX) (carry:=c) d;have I:=P8 (aX:=aX) (carry:=c) d;have J:=Qe (aX:=aX) (carry:=c) _ left rfl d;unfold PY at I;dsimp only at I;rcases al.hQ with⟨rfl,i,j,f⟩|⟨l,_,j,f,_,_,o,_,n5⟩
 .exact dq.ext' h f al.ah al.aB i
 .have:=Qe (aX:=aX) (carry:=c) _ l rfl f
  omega
def QH(d:cR)(k:Nat){e:Nat}(he:e<120)(a b:Nat)(I:a<=b)(J:b<=e):gi d k a b+gi d k b e-d.first k=gi d k a e:=by unfold gi;rw[if_pos (by omega),if_pos he,if_pos he];exact QM _ _ I J
section
variable{A:Array Func}
def Qh:∀(c:List dq) (i:Nat),i<c.length->(lN c)[i*2]?=some (.int .i64 (c.getD i hv).left)/\(lN c)[i*2+1]?=some (.int .i64 (c.getD i hv).aK)
 | [],_,h=>by simp at h
 |b::c,0,_=>⟨rfl,rfl⟩
 |b::c,i+1,h=>by have:=Qh c i (by simpa using h);rw[show(i+1)*2=i*2+2 by omega];exact this
def QQ{w:World}{B:Nat}{v:Value}{d:List dq}(h:w.ownsRow B 64 2 v d.length (lN d))(ak:0<d.length):∃g cap,v=.slice (some ⟨g,0,none⟩) d.length cap/\B<=g/\g<w.heap.size/\qc w g 0 d.length (λi=>(d.getD i hv).left) (λi=>(d.getD i hv).aK):=by
 obtain⟨f,⟨_,h⟩|⟨g,c,cur,aP,hb,ae,I,J,ax,aV⟩⟩:=h
 .omega
 .refine⟨g,c,aP,hb,bp ae,λi aj=>?_,λi aj=>?_⟩
  .exact tE ae aV (Qh d i aj).1
  .show w.cell? ⟨g,0+i*2+1,none⟩=_
   rw[Nat.add_assoc];exact tE ae aV (Qh d i aj).2
end
def P2(b x:dq):Prop:=b.cost<x.cost\/(b.cost=x.cost/\b.ee<x.ee)
def P2.le{a b c:dq}(h:P2 a b)(k:PY b c):P2 a c:=by unfold P2 PY at *;omega
def Qx{c:fv}{x:dq}(af:c.some=true):((c.take x).cf=x/\P2 x c.cf)\/(c.take x).cf=c.cf:=by
 unfold fv.take;split
 .rename_i h
  rw[af]at h;exact .inl ⟨rfl,(Qf x c.cf).1 (by simpa using h)⟩
 .exact .inr rfl
def Qw{c:fv}{x:dq}(af:c.some=false):(c.take x).cf=x:=by unfold fv.take;rw[af];rfl
def Qb{aX:Nat->Nat->Int}{e carry left aK:Nat}(d:aK<e):∀j,(fJ aX e (bL aX e carry) left aK j).some=true->
 ∃i,i<j/\¬(left=aK/\i=0)/\(fJ aX e (bL aX e carry) left aK j).cf=P3 aX e carry left aK (aK+i)/\∀y,y<i->¬(left=aK/\y=0)->P2 (fJ aX e (bL aX e carry) left aK j).cf (P3 aX e carry left aK (aK+y))
 | 0,h=>by
  rw[fJ,if_neg (by omega)]at h;cases h
 |j+1,h=>by
  by_cases al:left=aK/\j=0
  .rw[EM al]at h ⊢
   obtain⟨i,I,J⟩:=Qb d j h;exact⟨i,by omega,J⟩
  .rw[EN al]at h ⊢
   show ∃i,_/\_/\((fJ aX e (bL aX e carry) left aK j).take (P3 aX e carry left aK (aK+j))).cf=_/\∀y,_->_->P2 ((fJ aX e (bL aX e carry) left aK j).take (P3 aX e carry left aK (aK+j))).cf _;cases af:(fJ aX e (bL aX e carry) left aK j).some with
   |false=>
    rw[Qw af];refine⟨j,by omega,al,rfl,λy l c=>?_⟩;have:=Qc (aX:=aX) (e:=e) (g:=bL aX e carry) (left:=left) (aK:=aK) (y+1) j (by omega) (by rw[EN c];exact Dr _ _);rw[af]at this;cases this.1
   |true=>
    obtain⟨i,I,J,ax,aV⟩:=Qb d j af;rcases Qx (x:=P3 aX e carry left aK (aK+j)) af with⟨ar,f⟩|ar
    .rw[ar]
     refine⟨j,by omega,al,rfl,λy l c=>?_⟩;have hm:=Qc (aX:=aX) (e:=e) (g:=bL aX e carry) (left:=left) (aK:=aK) (y+1) j (by omega) (by rw[EN c];exact Dr _ _);rw[EN c]at hm;exact(f.le hm.2).le (P6 _ _).2
    .rw[ar]
     exact⟨i,by omega,J,ax,aV⟩
def Qi{aX:Nat->Nat->Int}{e carry left:Nat}:∀j,(fW aX e carry (bL aX e carry) left j).some=true->
 ∃i,i<j/\(eG aX e carry left (left+i)).some=true/\(fW aX e carry (bL aX e carry) left j).cf=(eG aX e carry left (left+i)).cf/\∀y,y<i->(eG aX e carry left (left+y)).some=true->P2 (fW aX e carry (bL aX e carry) left j).cf (eG aX e carry left (left+y)).cf
 | 0,h=>by cases h
 |j+1,h=>by
  cases hb:(eG aX e carry left (left+j)).some
  .rw[AJ hb]at h ⊢
   obtain⟨i,I,J⟩:=Qi j h;exact⟨i,by omega,J⟩
  .rw[w7 hb]at h ⊢
   cases af:(fW aX e carry (bL aX e carry) left j).some with
   |false=>
    rw[Qw af];refine⟨j,by omega,hb,rfl,λy c d=>?_⟩;have:=(P9 d j c).1;rw[af]at this;cases this
   |true=>
    obtain⟨i,I,J,ax,aV⟩:=Qi j af;rcases Qx (x:=(eG aX e carry left (left+j)).cf) af with⟨ar,f⟩|ar
    .rw[ar]
     exact⟨j,by omega,hb,rfl,λy c d=>f.le (P9 d j c).2⟩
    .rw[ar]
     exact⟨i,by omega,J,ax,aV⟩
def QB{aX:Nat->Nat->Int}{e carry left:Nat}(c:left<=e):∃g:Nat,left<=g/\g<=e/\(eG aX e carry left g).some=true/\bL aX e carry left=(eG aX e carry left g).cf/\∀y,left<=y->y<g->(eG aX e carry left y).some=true->P2 (bL aX e carry left) (eG aX e carry left y).cf:=by
 have af:(fW aX e carry (bL aX e carry) left (e+1-left)).some=true:=by rw[show e+1-left=(e-left)+1 by omega,w7 (by rw[show left+(e-left)=e by omega];exact EJ)];exact Dr _ _
 obtain⟨i,I,J,ax,aV⟩:=Qi _ af;rw[<-wj]at ax aV;refine⟨left+i,by omega,by omega,J,ax,λy d f hb=>?_⟩;obtain⟨z,rfl⟩:∃z,y=left+z:=⟨y-left,by omega⟩
 exact aV z (by omega) hb
def QS{aX:Nat->Nat->Int}{e c left h x:Nat}{f:Int}(aP:0<=f)(aQ:∀a b,a<=b->b<=e->aX a b+aX b e-f=aX a e)(I:left<=h)(J:h<=x)(ax:x<=e)(aV:x<=h+c):
 (bL aX e c left).cost<=aX left h+aX x e/\((bL aX e c left).cost=aX left h+aX x e->(bL aX e c left).ee<=2/\((bL aX e c left).ee=2->∃g l:Nat,(bL aX e c left).aK=g/\(bL aX e c left).next=l/\g<=h/\(g=h->l<=x))):=by
 have hle:left<=e:=by omega
 have one:=P8 (aX:=aX) (carry:=c) hle;unfold PY at one;dsimp only at one;have single:(bL aX e c left).cost=aX left e->(bL aX e c left).ee=1:=λhx=>by rw[Qd hle hx]
 by_cases r:h<e/\¬(left=h/\x=h)
 .obtain⟨d,u⟩:=r
  have two:=QC (aX:=aX) (carry:=c) I J ax aV d u;have w:=P8 (aX:=aX) (carry:=c) ax;have X:=Qe (aX:=aX) (carry:=c) _ x rfl ax;unfold PY P3 at two;unfold PY at w;dsimp only at two w;refine⟨by omega,λG=>?_⟩;have C:(bL aX e c x).cost=aX x e:=by omega
  have R:(bL aX e c x).ee=1:=by rw[Qd ax C]
  refine⟨by omega,λaz=>?_⟩;obtain⟨g,D,E,p,q,F⟩:=QB (aX:=aX) (carry:=c) hle;have o:=EI (aX:=aX) (carry:=c) D E p;rw[<-q]at o;rcases o.hQ with⟨_,_,_,U⟩|⟨l,P,S,T,n5,n6,n7,V,W⟩
  .omega
  have K:g<=h:=by
   rcases Nat.lt_or_ge h g with hx|hx
   .exfalso
    obtain⟨z,B⟩:=Ql (aX:=aX) (left:=left) J ax aV d u;have:=(F h I hx z).le B;unfold P2 P3 at this;dsimp only at this;omega
   .exact hx
  refine⟨g,l,o.aB,P,K,λH=>?_⟩;subst H;rcases Nat.lt_or_ge x l with hx|hx
  .exfalso
   have ar:(bL aX e c left)=(fJ aX e (bL aX e c) left g (min e (g+c)+1-g)).cf:=by rw[q];unfold eG mS;rw[if_pos d]
   have s1:(fJ aX e (bL aX e c) left g (min e (g+c)+1-g)).some=true:=by have:=p;unfold eG mS at this;rw[if_pos d]at this;exact this
   obtain⟨i,i1,i2,L,M⟩:=Qb (aX:=aX) (carry:=c) d _ s1;have Q:(g+i:Nat)=l:=by
    have:(bL aX e c left).next=((g+i:Nat):Int):=by rw[ar,L];rfl
    omega
   have:=M (x-g) (by omega) (by omega);rw[<-ar,show g+(x-g)=x by omega]at this;unfold P2 P3 at this;dsimp only at this;omega
  .exact hx
 .have hm:aX left e<=aX left h+aX x e:=by
   by_cases d:h=e
   .have:=aQ left h I (by omega)
    have j:x=e:=by omega
    subst j;subst d;omega
   .have:left=h/\x=h:=by apply Classical.byContradiction;intro ak;exact r ⟨by omega,ak⟩
    obtain⟨ar,j⟩:=this;have:=aQ left left Pk hle;rw[j,<-ar];omega
  refine⟨by omega,λG=>?_⟩;have:=single (by omega);exact⟨by omega,λaz=>by omega⟩
def P7(e c:Nat):Nat->List dq->Prop
 |_,[]=>False
 |l,b::d=>b.left=l/\∃g:Nat,b.aK=g/\l<=g/\g<=e/\((d = []/\g=e)\/∃m:Nat,g<=m/\m<=g+c/\m<=e/\P7 e c m d)
def P5(aX:Nat->Nat->Int):List dq->Int
 | []=>0
 |b::c=>aX b.left.toNat b.aK.toNat+P5 aX c
def Qo{aX:Nat->Nat->Int}{e c:Nat}:∀n l,e+1<=n+l->l<=e->P7 e c l (nU (bL aX e c) n (bL aX e c l))/\P5 aX (nU (bL aX e c) n (bL aX e c l))=(bL aX e c l).cost/\((nU (bL aX e c) n (bL aX e c l)).length:Int)=(bL aX e c l).ee
 | 0,l,h,d=>by omega
 |n+1,l,h,d=>by
  obtain⟨g,al⟩:=EW (aX:=aX) (carry:=c) d;have hle:=al.le;rcases al.hQ with⟨I,J,ax,aV⟩|⟨m,I,J,ax,aV,bm,b',b7,cW⟩
  .rw[zL J]
   refine⟨⟨al.ah,g,al.aB,hle.1,hle.2,.inl ⟨rfl,I⟩⟩,?_,by rw[aV];rfl⟩;unfold P5 P5;rw[al.ah,al.aB,ax];simp
  .obtain⟨i1,i2,f⟩:=Qo (aX:=aX) (c:=c) n m (by omega) ax
   rw[zM I];refine⟨⟨al.ah,g,al.aB,hle.1,hle.2,.inr ⟨m,J,aV,ax,i1⟩⟩,?_,?_⟩
   .unfold P5
    rw[al.ah,al.aB,b7,i2];simp
   .rw[List.length_cons,cW,<-f]
    push_cast
    rfl
def QG{aX:Nat->Nat->Int}{e c l:Nat}(d:l<=e):P7 e c l (qj aX e c l)/\P5 aX (qj aX e c l)=(bL aX e c l).cost/\((qj aX e c l).length:Int)=(bL aX e c l).ee:=Qo (e+1) l (by omega) d
section
variable{A:Array Func}
structure Qa(e c l n:Nat)(f g:Nat->Nat):Prop where
 cH:0<n
 le:∀i,i<n->f i<=g i/\g i<=e
 first:f 0=l
 last:g (n-1)=e
 Qs:∀i,i+1<n->g i<=f (i+1)/\f (i+1)<=g i+c
def Qy{e c:Nat}:∀(d:List dq) (l:Nat),P7 e c l d->∃f g:Nat->Nat,Qa e c l d.length f g/\∀i,i<d.length->(d.getD i hv).left=f i/\(d.getD i hv).aK=g i
 | [],_,h=>h.elim
 |b::d,l,h=>by
  obtain⟨I,b2,J,ax,aV,bm⟩:=h;rcases bm with⟨rfl,b'⟩|⟨m,b',b7,cW,cX⟩
  .exact⟨λ_=>l,λ_=>b2,⟨by simp,λi _=>⟨ax,aV⟩,rfl,b',λi aj=>by simp at aj⟩,λi aj=>by
    obtain rfl:i=0:=by simpa using aj
    exact⟨I,J⟩⟩
  .obtain⟨f,g,F,E⟩:=Qy d m cX
   have ak:=F.cH;refine⟨λi=>if i=0 then l else f (i-1),λi=>if i=0 then b2 else g (i-1),⟨by simp,λi aj=>?_,rfl,?_,λi aj=>?_⟩,λi aj=>?_⟩
   .by_cases j:i=0
    .simp only[if_pos j];exact⟨ax,aV⟩
    .simp only[if_neg j]
     exact F.le (i-1) (by simp at aj;omega)
   .rw[List.length_cons]
    show(if d.length+1-1=0 then b2 else g (d.length+1-1-1))=e;rw[if_neg (by omega),show d.length+1-1-1=d.length-1 by omega];exact F.last
   .have aj:i+1<d.length+1:=by simpa using aj
    simp only[if_neg (Nat.succ_ne_zero i),Nat.add_sub_cancel];by_cases j:i=0
    .subst j
     simp only[if_true];rw[F.first];exact⟨b',b7⟩
    .simp only[if_neg j]
     have:=F.Qs (i-1) (by omega);rw[show i-1+1=i by omega]at this;exact this
   .rcases i with _|i
    .exact⟨I,J⟩
    .have:=E i (by simpa using aj)
     simpa using this
def PZ(aX:Nat->Nat->Int)(f g:Nat->Nat):Nat->Int
 | 0=>0
 |i+1=>PZ aX f g i+aX (f i) (g i)
def Qp(aX:Nat->Nat->Int)(f g:Nat->Nat):∀n,PZ aX f g (n+1)=aX (f 0) (g 0)+PZ aX (λi=>f (i+1)) (λi=>g (i+1)) n
 | 0=>by simp[PZ]
 |n+1=>by have:=Qp aX f g n;rw[PZ,this];simp only[PZ];omega
def Qq(aX:Nat->Nat->Int):∀(c:List dq) (f g:Nat->Nat),(∀i,i<c.length->(c.getD i hv).left=f i/\(c.getD i hv).aK=g i)->P5 aX c=PZ aX f g c.length
 | [],_,_,_=>rfl
 |b::c,f,g,h=>by have aP:=h 0 (by simp);have j:=Qq aX c (λi=>f (i+1)) (λi=>g (i+1)) (λi aj=>by simpa using h (i+1) (by simpa using aj));rw[P5,j,List.length_cons,Qp];have ar:b.left=f 0:=aP.1;have d:b.aK=g 0:=aP.2;rw[ar,d];simp
def Qg{aX:Nat->Nat->Int}(c:∀l f,0<=aX l f/\aX l f<=1000000)(f g:Nat->Nat):∀n:Nat,0<=PZ aX f g n/\PZ aX f g n<=n*1000000
 | 0=>by simp[PZ]
 |n+1=>by
  have:=Qg c f g n;have:=c (f n) (g n);simp only[PZ];push_cast
  omega
def Qn{aX:Nat->Nat->Int}{e c:Nat}:∀n l,l<=e->(nU (bL aX e c) n (bL aX e c l)).length<=e+1-l
 | 0,l,d=>by simp[nU];omega
 |n+1,l,d=>by
  rcases EX (aX:=aX) (carry:=c) d with h|⟨m,I,J,ax⟩
  .rw[zL h]
   simp;omega
  .rw[zM I,List.length_cons]
   have:=Qn (aX:=aX) (c:=c) n m ax;omega
def QP[S:Std A][P:gg A](d:cR)(ok:d.ok)(p:dU)(k:Nat)(U:k<d.kinds)(left aK carry:Nat)(ah:aK<120)(al:carry<=30)(n:Nat)(ak:n<=120)(f g:Nat->Nat)(F:Qa aK carry left n f g)(b o T:Nat)(w:World)(h:fy w d p)(az:qc w b o n (λi=>(f i:Int)) (λi=>(g i:Int))):
 Calls (ag A) 35 #[.agg (cO d p),.int .i64 k,.int .i64 left,.int .i64 aK,.int .i64 carry,.slice (some ⟨b,o,none⟩) n T] w λe w'=>e=.returned (.tuple #[.int .i64 (PZ (gi d k) f g n),.bool true])/\w.grownBy w' none:=by
 obtain⟨m,rfl⟩:∃m,n=m+1:=⟨n-1,by have:=F.cH;omega⟩
 have b2:w.grownBy (w.alloc (.cells (cO d p) 25)) none:=Pn;have B:=Pj (gA w (.cells (cO d p) 25));have Q:=Pj (h.keep b2);have l:=Pj (az.keep b2);have c1:=(l.out).bu 0 (by omega);have c2:=(l.out).c1 m (by omega);have ar:f 0=left:=F.first
 have C:g m=aK:=F.last;simp only[ar,C,Nat.zero_mul,Nat.add_zero]at c1 c2;have ao:((m:Int)+1 == 0)=false:=by rw[beq_eq_false_iff_ne];omega
 have ap:decide ((120:Int)<(m:Int)+1)=false:=by rw[decide_eq_false_iff_not];omega
 clear h az b2;go_enter (S.f Tryz.func35),Tryz.ntmps35;go_wp2;clear ar C c1 c2;go_loopw [14,15] (λs i wr=>∃j:Nat,j<=m+1/\i=.int .i64 j/\s=.int .i64 (PZ (gi d k) f g j)/\(w.alloc (.cells (cO d p) 25)).grownBy wr none) (λ_ i _=>m+1-(vy i).toNat)
 case atStart=>exact⟨0,by omega,by go_num,rfl,Pw _ _⟩
 case round=>
  obtain⟨j,aC,rfl,rfl,ae⟩:=hrel;have gw:=Qg (λa b=>Hj ok U a b) f g j;have aa:=Qg (λa b=>Hj ok U a b) f g (m+1);by_cases aO:j<m+1
  .have X:decide ((j:Int)<(m:Int)+1)=true:=by simp;omega
   have Y:decide (j<m+1)=true:=by simpa using aO
   have q:=(ae.block _ (bp B.out) (by simp)).trans B.out;have d0:wr.drew.cell? ⟨w.heap.size,0,none⟩=some (.int .i64 d.kinds):=(aT (o:=0) q).trans rfl;have d1:wr.drew.cell? ⟨w.heap.size,1,none⟩=some (.slice (some ⟨p.gv,p.hj,none⟩) d.kinds p.eT):=(aT (o:=1) q).trans rfl;have d2:wr.drew.cell? ⟨w.heap.size,2,none⟩=some (.slice (some ⟨p.j9,p.lg,none⟩) d.eY p.h8):=(aT (o:=2) q).trans rfl;have d3:wr.drew.cell? ⟨w.heap.size,3,none⟩=some (.slice p.hE d.fC p.h9):=(aT (o:=3) q).trans rfl;have u:wr.drew.cell? ⟨b,o+j*2,none⟩=some (.int .i64 (f j)):=(l.out.keep ae).bu j aO;have z:wr.drew.cell? ⟨b,o+j*2+1,none⟩=some (.int .i64 (g j)):=(l.out.keep ae).c1 j aO;have hle:=F.le j aO;have R:=Pj (Q.out.keep (ae.trans (fQ (Pw wr none))));have r:=Pj ae;have D:PZ (gi d k) f g (j+1)=PZ (gi d k) f g j+gi d k (f j) (g j):=rfl;have V:fP (d.first k) (cC d k) (f j) (g j)=gi d k (f j) (g j):=by unfold gi;rw[if_pos (by omega)]
   have ai:=Hj ok U (f j) (g j);have aj:(j:Int)<(m:Int)+1:=by omega
   have am:(0:Int)<=j:=by omega
   clear q ae;go_wp2;go_region_held3 (λW=>W.cell? ⟨w.heap.size,0,none⟩=some (.int .i64 d.kinds)/\W.cell? ⟨w.heap.size,1,none⟩=some (.slice (some ⟨p.gv,p.hj,none⟩) d.kinds p.eT)/\W.cell? ⟨w.heap.size,2,none⟩=some (.slice (some ⟨p.j9,p.lg,none⟩) d.eY p.h8)/\W.cell? ⟨w.heap.size,3,none⟩=some (.slice p.hE d.fC p.h9)/\W.cell? ⟨b,o+j*2,none⟩=some (.int .i64 (f j))/\W.cell? ⟨b,o+j*2+1,none⟩=some (.int .i64 (g j)))
    (first|with_reducible exact⟨d0,d1,d2,d3,u,z⟩|with_reducible exact⟨E,G,H,I,J,K⟩)
    (first|(go_at_call 30;refine(Hl (A:=A) d ok p k U (f j) (g j) hle.1 (by omega) wr.drew R.out).mono ?_;rintro e Z ⟨rfl,c⟩;have E:=c.cell d0 (by simp);have G:=c.cell d1 (by simp);have H:=c.cell d2 (by simp);have I:=c.cell d3 (by simp);have J:=c.cell u (by simp);have K:=c.cell z (by simp);have M:=Pj c;clear c))
   clear d0 d1 d2 d3 u z E G H I;have L:=Pj ((r.out.trans (fQ (Pw wr none))).trans M.out);clear V;have ad:wrap64 (PZ (gi d k) f g j+gi d k (f j) (g j))=PZ (gi d k) f g j+gi d k (f j) (g j):=by unfold wrap64;omega
   have fin:((w.alloc (.cells (cO d p) 25)).grownBy Z none):=L.out;rcases j with _|j
   .simp only[Nat.zero_mul,Nat.add_zero]at J K
    go_wp2;go_quiet (fail);go_wp2;exact⟨⟨1,by omega,rfl,by rw[D],fin.trans (hM _ _)⟩,by show m+1-(1:Int).toNat<m+1-((0:Nat):Int).toNat;omega⟩
   .have af:=F.Qs j (by omega)
    have v1:=(l.out.keep fin).c1 j (by omega);have z3:decide ((0:Int)<(j:Int)+1)=true:=by rw[decide_eq_true_iff];omega
    have z4:decide ((f (j+1):Int)<g j)=false:=by rw[decide_eq_false_iff_not];omega
    have z5:decide ((g j:Int)+carry<f (j+1))=false:=by rw[decide_eq_false_iff_not];omega
    have aq:decide (f (j+1)<g j)=false:=by rw[decide_eq_false_iff_not];omega
    go_wp2;go_quiet (fail);go_wp2;exact⟨⟨j+2,by omega,by push_cast;rfl,by rw[D],fin.trans (hM _ _)⟩,by show m+1-((j:Int)+2).toNat<m+1-((j+1:Nat):Int).toNat;omega⟩
  .have X:decide ((j:Int)<(m:Int)+1)=false:=by simp;omega
   have Y:decide (j<m+1)=false:=by simpa using aO
   obtain rfl:j=m+1:=by omega
   have r:=Pj ae;clear ae;go_wp2;go_ret2
   exact⟨rfl,Pn.trans r.out⟩
end
section
variable{A:Array Func}
def P'(j:Nat):Int:=match j with|0=>0|1=>1|2=>2|3=>5|_=>26
def QN(w:World)(t:TypeId):iD (w.alloc (.cells #[.int .i64 0,.int .i64 1,.int .i64 2,.int .i64 5,.int .i64 26] t)) w.heap.size 0 5 P':=by
 intro j aC;have:=aT (o:=0+j) (gA w (.cells #[.int .i64 0,.int .i64 1,.int .i64 2,.int .i64 5,.int .i64 26] t));rcases j with _|_|_|_|_|j
 .exact this
 .exact this
 .exact this
 .exact this
 .exact this
 .omega
def QO(j:Nat):∃c:Nat,P' j=c/\c<=26:=by
 unfold P';split
 .exact⟨0,rfl,by omega⟩
 .exact⟨1,rfl,by omega⟩
 .exact⟨2,rfl,by omega⟩
 .exact⟨5,rfl,by omega⟩
 .exact⟨26,rfl,by omega⟩
def QF{aX:Nat->Nat->Int}{e c l:Nat}(d:l<=e)(h:1<(qj aX e c l).length):((qj aX e c l).getD 1 hv).left=(bL aX e c l).next:=by
 unfold qj at *;rcases EX (aX:=aX) (carry:=c) d with I|⟨m,I,J,ax⟩
 .rw[zL I]at h
  simp at h
 .obtain⟨_,al⟩:=EW (aX:=aX) (carry:=c) ax
  obtain⟨n,rfl⟩:∃n,e=n+1:=⟨e-1,by omega⟩
  rw[zM I,I];rcases EX (aX:=aX) (carry:=c) ax with k1|⟨_,k1,_⟩
  .rw[zL k1]
   exact al.ah
  .rw[zM k1]
   exact al.ah
def QE{aX:Nat->Nat->Int}{e c l:Nat}(d:l<=e):((qj aX e c l).getD 0 hv)=bL aX e c l:=by
 unfold qj;rcases EX (aX:=aX) (carry:=c) d with I|⟨m,I,_⟩
 .rw[zL I];rfl
 .rw[zM I];rfl
structure Qz(aX:Nat->Nat->Int)(e c left n:Nat)(C:Int)(f g:Nat->Nat):Prop where
 t:Qa e c left n f g
 cost:PZ aX f g n=C
 one:C<=aX left e
 len:n<=120
 alone:C=aX left e->n=1
 two:∀h x,left<=h->h<=x->x<=e->x<=h+c->C<=aX left h+aX x e/\(C=aX left h+aX x e->n<=2/\(n=2->g 0<=h/\(g 0=h->f 1<=x)))
def QD{d:cR}(ok:d.ok){k:Nat}(U:k<d.kinds){e c left:Nat}(he:e<120)(j:left<=e):∃f g:Nat->Nat,Qz (gi d k) e c left (qj (gi d k) e c left).length (bL (gi d k) e c left).cost f g/\∀i,i<(qj (gi d k) e c left).length->((qj (gi d k) e c left).getD i hv).left=f i/\((qj (gi d k) e c left).getD i hv).aK=g i:=by
 obtain⟨I,J,ax⟩:=QG (aX:=gi d k) (c:=c) j;obtain⟨f,g,F,E⟩:=Qy _ _ I;have ak:=F.cH;have one:=P8 (aX:=gi d k) (carry:=c) j;unfold PY at one;dsimp only at one;refine⟨f,g,⟨F,by rw[<-Qq _ _ f g E];exact J,by omega,?_,λl=>?_,λh x q r u w=>?_⟩,E⟩
 .have:=Qn (aX:=gi d k) (c:=c) (e+1) left j
  unfold qj;omega
 .have:=Qd j l
  rw[this]at ax;have ax:((qj (gi d k) e c left).length:Int)=1:=ax;omega
 .obtain⟨q1,z⟩:=QS (c:=c) (ok.first k U).1 (λa b x y=>QH d k he a b x y) q r u w
  refine⟨q1,λl=>?_⟩;obtain⟨H,B⟩:=z l;refine⟨by omega,λG=>?_⟩;obtain⟨g',aH,K,L,C,D⟩:=B (by omega);have di:=(E 0 ak).2;rw[QE j]at di;have ar:=(E 1 (by omega)).1;rw[QF j (by omega)]at ar;have o:g 0=g':=by omega
  have p:f 1=aH:=by omega
  rw[o,p];exact⟨C,D⟩
def QR{w:World}{B n:Nat}{v:Value}{d:List dq}{f g:Nat->Nat}(hb:d.length=n)(ak:0<n)(E:∀i,i<n->(d.getD i hv).left=f i/\(d.getD i hv).aK=g i)(h:w.ownsRow B 64 2 v n (lN d)):∃c cap,v=.slice (some ⟨c,0,none⟩) n cap/\B<=c/\c<w.heap.size/\qc w c 0 n (λi=>(f i:Int)) (λi=>(g i:Int)):=by subst hb;obtain⟨c,cap,I,J,ax,aV⟩:=QQ h ak;exact⟨c,cap,I,J,ax,λi aj=>(aV.bu i aj).trans (congrArg (λz=>some (Value.int .i64 z)) (E i aj).1),λi aj=>(aV.c1 i aj).trans (congrArg (λz=>some (Value.int .i64 z)) (E i aj).2)⟩
def P1(F:Nat->Int)(n:Nat):List Value:=(List.range n).map λi=>.int .i64 (F i)
def Qr(F:Nat->Int)(n:Nat):P1 F (n+1)=P1 F n++[.int .i64 (F n)]:=by simp[P1,List.range_succ]
def Qt{w:World}{B n:Nat}{v:Value}{F:Nat->Int}(h:w.ownsRow B 3 1 v n (P1 F n))(ak:0<n):∃g cap,v=.slice (some ⟨g,0,none⟩) n cap/\B<=g/\g<w.heap.size/\iD w g 0 n F:=by obtain⟨g,c,cur,aP,I,J,ax,aV⟩:=xY h ak;exact⟨g,c,aP,I,J,λi aj=>tE ax aV (by simp[P1,aj])⟩
def Qu{w w':World}{base:Nat}{e:TypeId}{size:Nat}{v:Value}{n:Nat}{xs:List Value}(h:w.ownsRow base e size v n xs)(k:∀r,v.ownBlock=some r->base<=r->r<w.heap.size->w'.heap[r]?=w.heap[r]?):w'.ownsRow base e size v n xs:=by
 obtain⟨d,h|⟨g,c,cur,aP,hb,ae,I,J,ax,aV⟩⟩:=h
 .exact⟨d,.inl h⟩
 .exact⟨d,.inr ⟨g,c,cur,aP,hb,(k g (by rw[aP];rfl) hb (bp ae)).trans ae,I,J,ax,aV⟩⟩
structure P4(P0:World)(F G:Nat->Int)(n:Nat)(v u:Value)(w:World):Prop where
 g:P0.grownBy w none
 Qk:w.ownsRow P0.heap.size 3 1 v n (P1 F n)
 Qj:w.ownsRow P0.heap.size 3 1 u n (P1 G n)
 ne:∀r,v.ownBlock=some r->u.ownBlock≠some r
def P4.v5{c w f:World}{F G:Nat->Int}{n:Nat}{v u:Value}(br:P4 c F G n v u w)(d:w.grownBy f none)(h:Obj):(f.alloc h).ownsRow c.heap.size 3 1 v n (P1 F n):=
 kq br.Qk λg _ J=>(Pq (Px J d.size)).trans (d.block g J (by simp))
def P4.QT{c w g i:World}{F G:Nat->Int}{n:Nat}{v u:Value}(br:P4 c F G n v u w)(d:w.grownBy g none){j:Obj}(f:(g.alloc j).grownBy i v.ownBlock)(l:Obj):(i.alloc l).ownsRow c.heap.size 3 1 u n (P1 G n):=by have p:=d.size;have o:=f.size;simp at o;exact Qu br.Qj λr h I J=>(Pq (by omega)).trans ((f.block r (by simp;omega) (λe=>br.ne r e.symm h)).trans ((Pq (by omega)).trans (d.block r J (by simp))))
def P4.next{j w q o z:World}{F G:Nat->Int}{n:Nat}{v u l ay:Value}{C D:Obj}(br:P4 j F G n v u w)(f:w.grownBy q none)(g:(q.alloc C).grownBy o v.ownBlock)(b':o.ownsRow j.heap.size 3 1 l (n+1) (P1 F n++[.int .i64 (F n)]))(B:l.ownBlock=v.ownBlock\/l.ownBlock=some (q.alloc C).heap.size)(d:(o.alloc D).grownBy z u.ownBlock)(b7:z.ownsRow j.heap.size 3 1 ay (n+1) (P1 G n++[.int .i64 (G n)]))(E:ay.ownBlock=u.ownBlock\/ay.ownBlock=some (o.alloc D).heap.size):P4 j F G (n+1) l ay z:=by
 have bP:=br.g.size;have L:=f.size;have H:=g.size;have K:=d.size;simp at H K;have bv:=λr e=>xX br.Qk r e
 have p:=λr e=>xX br.Qj r e
 refine⟨⟨d.os.trans (g.os.trans (f.os.trans br.g.os)),d.tape.trans (g.tape.trans (f.tape.trans br.g.tape)),d.output.trans (g.output.trans (f.output.trans br.g.output)),by omega,λi aj _=>?_⟩,?_,by rw[Qr];exact b7,λr ar c=>?_⟩
 .refine(d.block i (by simp;omega) (λe=>by have:=(p i e.symm).1;omega)).trans ((Pq (by omega)).trans ((g.block i (by simp;omega) (λe=>by have:=(bv i e.symm).1;omega)).trans ((Pq (by omega)).trans ((f.block i (by omega) (by simp)).trans (br.g.block i aj (by simp))))))
 .rw[Qr]
  refine Qu b' λr h I J=>(d.block r (by simp;omega) (λe=>?_)).trans (Pq J)
  rcases B with a|a
  .exact br.ne r (a.symm.trans h) e.symm
  .have:=(p r e.symm).2
   rw[a]at h;have:=Pm h;simp at this;omega
 .rcases B with a|a<;>rcases E with b|b
  .exact br.ne r (a.symm.trans ar) (b.symm.trans c)
  .have:=(bv r (a.symm.trans ar)).2
   rw[b]at c;have:=Pm c;simp at this;omega
  .have:=(p r (b.symm.trans c)).2
   rw[a]at ar;have:=Pm ar;simp at this;omega
  .rw[a]at ar
   rw[b]at c;have:=Pm ar;have:=Pm c;simp at *;omega
end
end Go.aN
