/- A part of FeeSums: no conditions. -/
import Derived.Test.YtjlbkajlmanedaaGreatDoorRSums1
set_option maxHeartbeats 8000000
set_option maxRecDepth 100000
set_option linter.all false
namespace Go.aO
open Go.Proofs Tryz Go.RowKit Go.Maps Go.Shelf
section
variable{A:TJ}
def U1.U0(s:U1):h3:=⟨s.k.toNat,s.a.toNat,s.b.toNat,s.c.toNat,s.e.toNat⟩
def VO{a b:Int}(h:U9 a b=0):(0<=a/\a<=119)/\(0<=b/\b<=119)/\a<=b:=by
 unfold U9 at h;split at h
 .rename_i I
  simp only[TS,decide_eq_true_eq]at I;split at h
  .omega
  .rename_i J
   simp only[decide_eq_true_eq]at J;exact⟨I.1,I.2,U⟩
 .omega
def Vj{d:dw}{s:U1}(h:U5 d s=0):jY d=0/\s.U0.ok d.nC/\s.v=s.U0.a:=by
 unfold U5 at h;split at h
 .rename_i aT
  have aa:=(IB aT).2.2.1;unfold Vg at h;split at h
  .rename_i I
   simp only[decide_eq_true_eq]at I;split at h
   .rename_i J
    split at h
    .rename_i ax
     split at h
     .omega
     .rename_i aZ
      simp only[decide_eq_true_eq]at aZ;have bB:=VO J;have c:=VO ax;refine⟨aT,⟨?_,?_,?_,?_,?_,?_⟩,?_⟩
      .show s.k.toNat<d.nC.kinds;omega
      .show s.a.toNat<=s.b.toNat;omega
      .show s.b.toNat<120;omega
      .show s.c.toNat<=s.e.toNat;omega
      .show s.e.toNat<120;omega
      .show s.a.toNat<=s.e.toNat;omega
      .show #[ah s.k,ah s.a,ah s.b,ah s.c,ah s.e]=#[ah (s.k.toNat:Int),ah (s.a.toNat:Int),ah (s.b.toNat:Int),ah (s.c.toNat:Int),ah (s.e.toNat:Int)]
       rw[show(s.k.toNat:Int)=s.k by omega,show(s.a.toNat:Int)=s.a by omega,show(s.b.toNat:Int)=s.b by omega,show(s.c.toNat:Int)=s.c by omega,show(s.e.toNat:Int)=s.e by omega]
    .rename_i ax;exact(ax h).elim
   .rename_i J;exact(J h).elim
  .omega
 .rename_i aT;exact(aT h).elim
def Vf(d:dw)(s:U1):TX:=if U5 d s=0 then U7 (U3 d.nC s.U0)else[]
def Vm(d:dw)(s:U1)(w:S7)(e:Ending)(w':S7):Prop:=∃v,e=.returned (.tuple #[v,ah (U5 d s)])/\(∃m,w.heap.size<=m/\w'.ownsRow m 3 1 v (Vf d s).length ((Vf d s).map gi))/\(Vf d s = []->v=.slice none 0 0)/\w.grownBy w' none
def VT{d:cC}{s:h3}{w:S7}{m n:Nat}{v:S9}{L:Tb fT}(h:w.ownsRow m 92 3 v n (L.flatMap (Vi d s)))(ak:n=L.length)(hp:0<n):∃b c,v=Ts b n c/\VF w b (L.map (k0 (d.first s.k) (cX d s.k))):=by
 subst ak;obtain⟨aj,⟨_,h⟩|⟨g,c,cur,aT,hb,ag,I,J,ax,aZ⟩⟩:=h
 .omega
 .refine⟨g,c,aT,λi x f=>?_⟩
  rw[aU ag,<-Ue];have ad:i<L.length:=by
   rcases Ub i L.length with h|h
   .exact h
   .rw[List.getElem?_eq_none (by simpa using h)]at f;cases f
  have key:∀(L:Tb fT) (i:Nat) x,(L.map (k0 (d.first s.k) (cX d s.k)))[i]?=some x->(L.flatMap (Vi d s))[i*3+2]?=Tn x:=by
   intro L;induction L with
   |nil=>intro i x h;simp at h
   |cons a L j=>
    intro i x h;rcases i with _|i
    .simp at h;subst h;rfl
    .have:=j i x (by simpa using h)
     rw[List.flatMap_cons,show(i+1)*3+2=i*3+2+1+1+1 by omega];simpa [Vi]using this
  have e:=key L i x f;rw[<-aZ,List.getElem?_take]at e;split at e
  .exact e
  .cases e
def VH{d:cC}{s:h3}(af:s.ok d):U3 d s≠[]:=by
 have:=WO af;intro e;rcases c:qk d s with _|⟨a,l⟩
 .exact this c
 .have:=Vp.1 (c ▸ List.mem_cons_self:a∈qk d s)
  rw[e]at this;simp at this
def Wy[S:Std A](d:dw)(fit:d.fit)(p:gz)(s:U1)(w:S7)(h:iZ w d p):
 Calls (ao A) 12 #[.agg (eB d p),.agg s.v] w (Vm d s w):=by
 by_cases ar:U5 d s=0
 .let⟨aT,af,aJ⟩:=Vj ar
  have ok:=(IB aT).1;let⟨y,z,B⟩:=h.tf aT;have j:Vf d s=U7 (U3 d.nC s.U0):=Tq ar;have Q:=U8 w (.cells (eB d p) 25) (.cells s.v 31);have f:=VC (A:=A) d fit p s _ (h.keep Q.2.2);rw[ar]at f;unfold Vm;rw[ar,j];rw[z,aJ]at f Q ⊢;have K:=al λ(V:S7) (g:((w.alloc (.cells (dv d.nC y) 25)).alloc (.cells s.U0.a 31)).grownBy V none)=>Ud ((g.block _ (by simp only[cV];omega) aF).trans Q.1) ((g.block _ aF aF).trans Q.2.1)
  have m:=al Q.2.2;have n:=al f;have C:=al λ(V:S7) (g:w.grownBy V none)=>V0 (A:=A) d.nC ok y s.U0 af V (B.keep g)
  have E:=al (VH af);have q:=al af;clear f Q h B ar aT z aJ j;go_enter (S.f func12),ntmps12;go_wp2_with (first
   |(go_at_call 35;refine n.out.mono ?_;rintro e r ⟨rfl,ag⟩;let⟨bG,i⟩:=K.out r ag;have L:=(aU (o:=0) bG).trans S6;have M:=(aU (o:=1) bG).trans S6;have P:=(aU (o:=2) bG).trans S6;have R:=(aU (o:=3) bG).trans S6;have T:=(aU (o:=0) i).trans S6;have U:=(aU (o:=1) i).trans S6;have W:=(aU (o:=2) i).trans S6;have X:=(aU (o:=3) i).trans S6;have Y:=(aU (o:=4) i).trans S6;have l:=al (m.out.trans ag);clear ag bG i)
   |(go_at_call 37;refine(C.out r l.out).mono ?_;rintro e w2 ⟨v,rfl,az,ag⟩;have F:=al az;have u:=al (l.out.trans ag);clear az ag))
  have hlen:=Cc s.U0.lm s.U0.fm s.U0.b5 q.out.hF (s.U0.cj-s.U0.lm+1);have I:=q.out.l;have J:=q.out.bE;have hp:0<(hN s.U0.lm s.U0.fm s.U0.b5 (s.U0.cj-s.U0.lm+1)).length:=by
   rcases Uq (hN s.U0.lm s.U0.fm s.U0.b5 (s.U0.cj-s.U0.lm+1)).length with e|e
   .exact(E.out (by rw[U3,List.length_eq_zero_iff.1 e];rfl)).elim
   .exact e
  obtain⟨b,c,rfl,aD⟩:=VT F.out S6 hp;have c5:=Wx (A:=A) b c (U3 d.nC s.U0) (by simp[U3];omega) w2 aD;rw[show(U3 d.nC s.U0).length=(hN s.U0.lm s.U0.fm s.U0.b5 (s.U0.cj-s.U0.lm+1)).length by simp[U3]]at c5;have H:=al c5;clear c5 aD hp hlen I J;go_wp2_with (go_at_call 36;refine H.out.mono ?_;rintro e w3 ⟨v3,rfl,az,aT,ag⟩;have G:=al az;have ek:=al aT;have D:=al (u.out.trans ag);clear az aT ag)
  go_ret2
  exact⟨_,S6,⟨w2.heap.size,u.out.size,G.out⟩,ek.out,D.out⟩
 .have j:Vf d s = []:=Tm ar
  have Q:=U8 w (.cells (eB d p) 25) (.cells s.v 31);have f:=VC (A:=A) d fit p s _ (h.keep Q.2.2);unfold Vm;rw[j];generalize U5 d s=c at *;have Z:(c == 0)=false:=by simpa using ar
  have aa:decide (c=0)=false:=by simpa using ar
  have m:=al Q.2.2;have n:=al f;clear f Q h j;go_enter (S.f func12),ntmps12;go_wp2_with (go_at_call 35;refine n.out.mono ?_;rintro e r ⟨rfl,ag⟩;have l:=al (m.out.trans ag);clear ag)
  go_ret2
  exact⟨_,S6,⟨w.heap.size,bg,S6,.inl ⟨S6,S6⟩⟩,λ_=>S6,l.out⟩
def VW[S:Std A](d:dw)(fit:d.fit)(p:gz)(s:U1)(w:S7)(h:iZ w d p)(b c:Nat)(hb:w.heap[b]?=some (.cells s.v 31))(ar:U5 d s≠0):
 Calls (ao A) 33 #[.agg (eB d p),Ts b 1 c] w λe w'=>e=.returned (.tuple #[.pointer none,ah (U5 d s)])/\w.grownBy w' none:=by
 have j:=al (dU w (.cells (eB d p) 25) none);have f:=ID (A:=A) d fit p _ (h.keep j.out);have m:=al hb;clear h hb;by_cases aT:jY d=0
 .have hm:1<=d.kinds/\d.kinds<=3:=by have:=IB aT;have I:=this.1.kinds;have J:=this.2.2.1;omega
  have n:=WJ (A:=A) d hm p s;have e:U5 d s=Vg d.kinds s:=Tq aT;rw[aT]at f;rw[e]at ar ⊢;generalize Vg d.kinds s=x at *;have r:(x == 0)=false:=by simpa using ar
  have u:decide (x=0)=false:=by simpa using ar
  have l:=al f;have q:=al n;clear f n aT e hm;go_enter (S.f func33),ntmps33;go_wp2_with (go_at_call 58;refine l.out.mono ?_;rintro e w2 ⟨rfl,ag⟩;have g:=al ag;clear ag)
  go_loopw [17] (λi wr=>i=ah 0/\wr=w2) (λ_ _=>0)
  case atStart=>exact⟨S6,S6⟩
  case round=>
   obtain⟨rfl,rfl⟩:=hrel;let⟨y,z,B,C,_⟩:=yO g.out;let⟨D,E,F,G,H⟩:=U1.cells (((j.out.trans g.out).block b (bu m.out) aF).trans m.out);go_wp2_with (go_at_call 59;refine(q.out _).mono ?_;rintro e w3 ⟨rfl,ag⟩;have o:=al ag;clear ag)
   go_ret2
   exact⟨S6,(j.out.trans g.out).trans (bT.trans o.out)⟩
 .have e:U5 d s=jY d:=Tm aT
  rw[e];generalize jY d=x at *;have r:(x == 0)=false:=by simpa using aT
  have u:decide (x=0)=false:=by simpa using aT
  have l:=al f;clear f e ar;go_enter (S.f func33),ntmps33;go_wp2_with (go_at_call 58;refine l.out.mono ?_;rintro e w2 ⟨rfl,ag⟩;have g:=al ag;clear ag)
  go_ret2
  exact⟨S6,j.out.trans g.out⟩
def WQ[S:Std A][P:hA A](d:dw)(fit:d.fit)(p:gz)(s:U1)(w:S7)(h:iZ w d p):
 Calls (ao A) 11 #[.agg (eB d p),.agg s.v] w (Vm d s w):=by
 by_cases ar:U5 d s=0
 .let⟨aT,af,aJ⟩:=Vj ar
  have ok:=(IB aT).1;let⟨n,o,q⟩:=h.tf aT;rw[o,aJ];refine(Ht (A:=A) d.nC ok n w q s.U0 af).mono ?_;rintro e w' ⟨v,r,m,rfl,hp,hm,az,ak,ag⟩;have au:=Wp hp;have f:Vf d s=U7 (U3 d.nC s.U0):=Tq ar;have aj:r.length=(U7 (U3 d.nC s.U0)).length:=by rw[<-au,List.length_mergeSort]
  rw[au,aj]at az;refine⟨v,by rw[ar],⟨m,hm,by rw[f];exact az⟩,λe=>ak.2 ?_,ag⟩;rw[f]at e;rw[e]at aj;exact List.length_eq_zero_iff.1 aj
 .have f:Vf d s = []:=Tm ar
  have Q:=U8 w (.cells (eB d p) 25) (.cells s.v 31);have l:=al λ(V:S7) (g:w.grownBy V none) (b c:Nat) hb=>VW (A:=A) d fit p s V (h.keep g) b c hb ar
  have i:=al Q.2.2;unfold Vm;rw[f];generalize U5 d s=x at *;have u:(x == 0)=false:=by simpa using ar
  have y:decide (x=0)=false:=by simpa using ar
  clear Q h f;go_enter (S.f func11),ntmps11;go_wp2_with (go_at_call 33;refine(l.out _ (i.out.trans bT) (w.heap.size+1+1) 1 (zx _ _ _ _)).mono ?_;rintro e w3 ⟨rfl,ag⟩;have j:=al (i.out.trans (bT.trans ag));clear ag)
  go_ret2
  exact⟨_,S6,⟨w.heap.size,bg,S6,.inl ⟨S6,S6⟩⟩,λ_=>S6,j.out⟩
def U6(d:dw)(s:U1)(cm:Int):Int:=if U5 d s=0 then(if decide (0<=cm/\cm<=999)=true then 0 else 1)else U5 d s
noncomputable def Vn(d:dw)(s:U1)(cm:Int):Int:=if U6 d s cm=0 then Vh d.nC s.U0 cm else 0
def WS(d:cC)(s:h3)(n:Int):Vh d s n=if (U3 d s).count n=0 then 2 else if (U3 d s).count n=(U3 d s).length then 1 else 3:=by
 unfold Vh;by_cases h:n∈U3 d s
 .rw[Tq (Vp.2 h),Tm (λe=>(List.count_eq_zero.1 e) h)]
  by_cases J:(U3 d s).count n=(U3 d s).length
  .rw[Tq J,Tm]
   rintro⟨v,aJ,c⟩;exact c (List.count_eq_length.1 J v (Vp.1 aJ)).symm
  .rw[Tm J,Tq]
   refine Uh λf=>J (List.count_eq_length.2 λb hb=>Uh λc=>f ⟨b,Vp.2 hb,λe=>c e.symm⟩)
 .rw[Tm (λe=>h (Vp.1 e)),Tq (List.count_eq_zero.2 h)]
def VL(d:dw)(s:U1)(x:Int)(w':S7)(v:S9):Prop:=x=0->∃b c,v=Ts b (U3 d.nC s.U0).length c/\VF w' b (U3 d.nC s.U0)
def Wv[S:Std A](d:dw)(fit:d.fit)(p:gz)(s:U1)(cm:Int)(w:S7)(h:iZ w d p):
 Calls (ao A) 42 #[.agg (eB d p),.agg s.v,ah cm] w λe w'=>∃v,e=.returned (.tuple #[v,ah (U6 d s cm)])/\w.grownBy w' none/\VL d s (U6 d s cm) w' v:=by
 by_cases ar:U5 d s=0
 .let⟨aT,af,aJ⟩:=Vj ar
  have ok:=(IB aT).1;let⟨q,r,u⟩:=h.tf aT;have Q:=U8 w (.cells (eB d p) 25) (.cells s.v 31);have f:=VC (A:=A) d fit p s _ (h.keep Q.2.2);rw[ar]at f;unfold U6;rw[Tq ar];rw[r,aJ]at f Q ⊢;have F:=al λ(V:S7) (g:((w.alloc (.cells (dv d.nC q) 25)).alloc (.cells s.U0.a 31)).grownBy V none)=>Ud ((g.block _ (by simp only[cV];omega) aF).trans Q.1) ((g.block _ aF aF).trans Q.2.1)
  have l:=al Q.2.2;have m:=al f;have y:=al λ(V:S7) (g:w.grownBy V none)=>V0 (A:=A) d.nC ok q s.U0 af V (u.keep g)
  have D:=al (VH af);clear f Q h u ar aT r aJ;cases z:decide (0<=cm/\cm<=999)
  .go_enter (S.f func42),ntmps42
   go_wp2_with (first
    |(go_at_call 35;refine m.out.mono ?_;rintro e n ⟨rfl,ag⟩;have i:=al (l.out.trans ag);clear ag)
    |(go_at_call 68;refine(nh _ _ _ _).mono ?_;rintro e w' ⟨rfl,rfl⟩;rw[z]))
   go_ret2
   exact⟨_,S6,i.out,λe=>Td e a6⟩
  .go_enter (S.f func42),ntmps42
   go_wp2_with (first
    |(go_at_call 35;refine m.out.mono ?_;rintro e n ⟨rfl,ag⟩;let⟨bG,j⟩:=F.out n ag;have G:=(aU (o:=0) bG).trans S6;have H:=(aU (o:=1) bG).trans S6;have I:=(aU (o:=2) bG).trans S6;have J:=(aU (o:=3) bG).trans S6;have K:=(aU (o:=0) j).trans S6;have L:=(aU (o:=1) j).trans S6;have M:=(aU (o:=2) j).trans S6;have P:=(aU (o:=3) j).trans S6;have R:=(aU (o:=4) j).trans S6;have i:=al (l.out.trans ag);clear ag bG j)
    |(go_at_call 68;refine(nh _ _ _ _).mono ?_;rintro e w' ⟨rfl,rfl⟩;rw[z])
    |(go_at_call 37;refine(y.out n i.out).mono ?_;rintro e w2 ⟨v,rfl,az,ag⟩;have E:=al az;have B:=al (i.out.trans ag);clear az ag))
   go_ret2
   refine⟨_,S6,B.out,λ_=>?_⟩;have hp:0<(hN s.U0.lm s.U0.fm s.U0.b5 (s.U0.cj-s.U0.lm+1)).length:=by
    rcases Uq (hN s.U0.lm s.U0.fm s.U0.b5 (s.U0.cj-s.U0.lm+1)).length with e|e
    .exact(D.out (by rw[U3,List.length_eq_zero_iff.1 e];rfl)).elim
    .exact e
   let⟨b,c,e,aD⟩:=VT E.out S6 hp;exact⟨b,c,by rw[e];simp[U3],aD⟩
 .have e:U6 d s cm=U5 d s:=Tm ar
  rw[e];have Q:=U8 w (.cells (eB d p) 25) (.cells s.v 31);have f:=VC (A:=A) d fit p s _ (h.keep Q.2.2);generalize U5 d s=c at *;have T:(c == 0)=false:=by simpa using ar
  have U:decide (c=0)=false:=by simpa using ar
  have l:=al Q.2.2;have m:=al f;have C:=al ar;clear f Q h e ar;go_enter (S.f func42),ntmps42;go_wp2_with (go_at_call 35;refine m.out.mono ?_;rintro e n ⟨rfl,ag⟩;have i:=al (l.out.trans ag);clear ag)
  go_ret2
  exact⟨_,S6,i.out,λe=>(C.out e).elim⟩
def Wz[S:Std A](d:dw)(fit:d.fit)(p:gz)(s:U1)(cm:Int)(w:S7)(h:iZ w d p):
 Calls (ao A) 15 #[.agg (eB d p),.agg s.v,ah cm] w λe w'=>e=.returned (.tuple #[ah (Vn d s cm),ah (U6 d s cm)])/\w.grownBy w' none:=by
 have Q:=U8 w (.cells (eB d p) 25) (.cells s.v 31);have g:=Wv (A:=A) d fit p s cm _ (h.keep Q.2.2);have G:=al Q.2.2;by_cases ar:U6 d s cm=0
 .have u:Vn d s cm=Vh d.nC s.U0 cm:=Tq ar
  have K:=WS d.nC s.U0 cm;have L:U3 d.nC s.U0≠[]:=by
   refine VH (d:=d.nC) (s:=s.U0) ?_;unfold U6 at ar;split at ar
   .rename_i aT;exact(Vj aT).2.1
   .rename_i aT;exact(aT ar).elim
  have hlen:(U3 d.nC s.U0).length<=20000:=by
   unfold U6 at ar;split at ar
   .rename_i aT
    have af:=(Vj aT).2.1;have:=Cc s.U0.lm s.U0.fm s.U0.b5 af.hF (s.U0.cj-s.U0.lm+1);have I:=af.l;have J:=af.bE;simp only[U3,List.length_map];omega
   .rename_i aT;exact(aT ar).elim
  rw[u,K];rw[ar]at g ⊢;unfold VL at g;generalize U3 d.nC s.U0=l at *;have B:=al g;have j:=al hlen;have T:=al L;clear g Q h ar u K hlen L;obtain⟨r,au⟩:∃r,(if l.count cm=0 then(2:Int)else if l.count cm=l.length then 1 else 3)=r:=⟨_,S6⟩
  rw[au];have C:=al au;clear au;go_enter (S.f func15),ntmps15;go_wp2_with (go_at_call 42;refine B.out.mono ?_;rintro e W ⟨v,rfl,ag,z⟩;obtain⟨b,c,rfl,aD⟩:=z S6;have R:=al aD;have o:=al (G.out.trans ag);clear ag z aD)
  go_loop [10,11] (λn i=>∃k:Nat,k<=l.length/\i=ah k/\n=ah ((l.take k).count cm:Nat)) (λ_ i=>l.length-(TH i).toNat)
  case atStart=>exact⟨0,U,by go_num,aF⟩
  case round=>
   obtain⟨k,aa,rfl,rfl⟩:=hrel;by_cases aS:k<l.length
   .have V:decide ((k:Int)<l.length)=true:=by simpa using aS
    have Y:(k:Int)<l.length:=U;obtain⟨x,F⟩:∃x,l[k]?=some x:=⟨_,Ui aS⟩
    have c1:=R.out k x F;have e:(l.take (k+1)).count cm=(l.take k).count cm+if x=cm then 1 else 0:=by rw[List.take_add_one,F,List.count_append];simp[List.count_singleton]
    have m:(l.take k).count cm<=20000:=by have:=List.count_le_length (a:=cm) (l:=l.take k);have:=j.out;rw[List.length_take]at *;omega
    have H:=al e;have P:=al m;clear e F m;generalize E:(l.take k).count cm=q at *;clear E;have X:=P.out;have fD:=j.out;by_cases he:x=cm
    .have y:(x == cm)=true:=by simpa using he
     have f:=al he;clear he;go_wp2;go_round
     case rel=>have fD:=j.out;exact⟨k+1,U,by go_num,by rw[H.out,Tq f.out];rfl⟩
     case measure=>have fD:=j.out;simp[TH];omega
    .have y:(x == cm)=false:=by simpa using he
     have f:=al he;clear he;go_wp2;go_round
     case rel=>have fD:=j.out;exact⟨k+1,U,by go_num,by rw[H.out,Tm f.out];rfl⟩
     case measure=>have fD:=j.out;simp[TH];omega
   .obtain rfl:k=l.length:=U
    have V:decide ((l.length:Int)<l.length)=false:=aF;rw[List.take_length];have m:l.count cm<=l.length:=List.count_le_length;have D:0<l.length:=List.length_pos_iff.2 T.out;generalize E:l.count cm=q at *;clear E;by_cases I:q=0
    .have y:((q:Int) == 0)=true:=by rw[beq_iff_eq];omega
     have e:(2:Int)=r:=by rw[<-C.out,Tq I]
     have f:=al e;clear e I m D;go_wp2;go_ret2
     obtain rfl:=f.out;exact⟨S6,o.out⟩
    .by_cases J:q=l.length
     .have y:((q:Int) == 0)=false:=ub
      have M:((q:Int) == l.length)=true:=by rw[beq_iff_eq];omega
      have e:(1:Int)=r:=by rw[<-C.out,Tm I,Tq J]
      have f:=al e;clear e I J m D;go_wp2;go_ret2
      obtain rfl:=f.out;exact⟨S6,o.out⟩
     .have y:((q:Int) == 0)=false:=ub
      have M:((q:Int) == l.length)=false:=ub;have e:(3:Int)=r:=by rw[<-C.out,Tm I,Tm J]
      have f:=al e;clear e I J m D;go_wp2;go_ret2
      obtain rfl:=f.out;exact⟨S6,o.out⟩
 .have u:Vn d s cm=0:=Tm ar
  rw[u];generalize U6 d s cm=c at *;have y:(c == 0)=false:=by simpa using ar
  have M:decide (c=0)=false:=by simpa using ar
  have B:=al g;clear g Q h u ar;go_enter (S.f func15),ntmps15;go_wp2_with (go_at_call 42;refine B.out.mono ?_;rintro e W ⟨v,rfl,ag,z⟩;have o:=al (G.out.trans ag);clear ag z)
  go_ret2
  exact⟨S6,o.out⟩
def V6[S:Std A](w:S7)(cT dx f0:Int)(b c:Nat)(hb:w.heap[b]?=some (.cells #[ah cT,ah dx,ah f0] 128))(d:¬(0<=cT/\cT<=dx)):
 Calls (ao A) 48 #[Ts b 1 c] w λe w'=>e=.returned (.iface 161 (.agg #[ah f0]))/\w.grownBy w' none:=
 V7 (A:=A) b 0 1 c U w (λ_=>cT) (λ_=>dx) (λ_=>f0)
  (λi ad=>by rw[aU hb];rcases i with _|i<;>first|rfl|omega) (λi ad=>by rw[aU hb];rcases i with _|i<;>first|rfl|omega) (λi ad=>by rw[aU hb];rcases i with _|i<;>first|rfl|omega) 0 U (λi ad=>U) d
def VM(w:S7)(x:Int)(e:Ending)(w':S7):Prop:=∃q,e=.returned (.tuple #[.pointer q,ah x])/\w.grownBy w' none
def Wn[S:Std A][P:hA A][N:Hi A](d:dw)(fit:d.fit)(p:gz)(s:U1)(cm:Int)(w:S7)(h:iZ w d p)(b c:Nat)(hb:w.heap[b]?=some (.cells s.v 31))(ar:U6 d s cm≠0):
 Calls (ao A) 50 #[.agg (eB d p),Ts b 1 c,ah cm] w (VM w (U6 d s cm)):=by
 have g:=al (dU w (.cells (eB d p) 25) none);have j:=ID (A:=A) d fit p _ (h.keep g.out);have L:decide (4<((1:Nat):Int))=false:=aF;have M:decide ((4:Int)<1)=false:=aF;by_cases aT:jY d=0
 .by_cases I:U5 d s=0
  .let⟨_,af,aJ⟩:=Vj I
   have ok:=(IB aT).1;let⟨r,u,n⟩:=h.tf aT;unfold U6 at ar ⊢;rw[Tq I]at ar ⊢;by_cases hp:0<=cm/\cm<=999
   .rw[Tq (by simpa using hp)]at ar;exact(ar S6).elim
   rw[Tm (by simpa using hp)];rw[aT]at j;rw[aJ]at hb;rw[u]at j g ⊢;have q:=al λ(w2:S7) (ag:(w.alloc (.cells (dv d.nC r) 25)).grownBy w2 none)=>Ac (A:=A) d.nC ok r w2 ((n.keep g.out).keep ag) b 0 1 c U (λ_=>s.U0) (A3 s.U0 (((g.out.trans ag).block b (bu hb) aF).trans hb)) (λi ad=>af)
   have B:=al λ(w:S7) (b c:Nat) hb=>V6 (A:=A) w cm 999 3 b c hb hp
   have E:=al λ(w:S7)=>N.iy 3 1 w a6
   have m:=al j;clear j h hb ar aT I af aJ ok u n;go_enter (S.f func50),ntmps50;go_wp2_with (first|(go_at_call 58;refine m.out.mono ?_;rintro e w2 ⟨rfl,f⟩;let⟨c8,ay,F,G,H⟩:=yO f;have l:=al f;clear f)|(go_at_call 33;refine(q.out _ l.out).mono ?_;rintro e w3 ⟨T,rfl,n,hb,ag⟩;have o:=al ag;clear hb ag n)|(go_at_call 48;refine(B.out _ _ _ (fM _ _)).mono ?_;rintro e Q ⟨rfl,y⟩;have C:=al y;clear y)|(go_at_call 47;refine(E.out _).mono ?_;rintro e R ⟨rfl,z⟩;have D:=al z;clear z))
   go_ret2
   exact⟨_,S6,(g.out.trans (l.out.trans o.out)).trans (((dU w3 _ none).trans C.out).trans D.out)⟩
  .have e:U6 d s cm=U5 d s:=Tm I
   rw[e]at ar ⊢;have q:=al λ(w2:S7) (ag:(w.alloc (.cells (eB d p) 25)).grownBy w2 none)=>VW (A:=A) d fit p s w2 (h.keep (g.out.trans ag)) b c (((g.out.trans ag).block b (bu hb) aF).trans hb) I
   rw[aT]at j;have m:=al j;clear j h hb I e aT;generalize U5 d s=x at *;have J:(x == 0)=false:=by simpa using ar
   have K:decide (x=0)=false:=by simpa using ar
   clear ar;go_enter (S.f func50),ntmps50;go_wp2_with (first|(go_at_call 58;refine m.out.mono ?_;rintro e w2 ⟨rfl,f⟩;let⟨c8,ay,F,G,H⟩:=yO f;have l:=al f;clear f)|(go_at_call 33;refine(q.out _ l.out).mono ?_;rintro e w3 ⟨rfl,ag⟩;have o:=al ag;clear ag))
   go_ret2
   exact⟨_,S6,g.out.trans (l.out.trans o.out)⟩
 .have I:U5 d s=jY d:=Tm aT
  have e:U6 d s cm=jY d:=by unfold U6;rw[I,Tm aT]
  rw[e]at ar ⊢;have m:=al j;clear j h hb I e aT;generalize jY d=x at *;have J:(x == 0)=false:=by simpa using ar
  have K:decide (x=0)=false:=by simpa using ar
  clear ar;go_enter (S.f func50),ntmps50;go_wp2_with (go_at_call 58;refine m.out.mono ?_;rintro e w2 ⟨rfl,f⟩;have l:=al f;clear f)
  go_ret2
  exact⟨_,S6,g.out.trans l.out⟩
def Wq[S:Std A][P:hA A][N:Hi A](d:dw)(fit:d.fit)(p:gz)(s:U1)(cm:Int)(w:S7)(h:iZ w d p)(ar:U6 d s cm≠0):
 Calls (ao A) 38 #[.agg (eB d p),.agg s.v,ah cm] w (VM w (U6 d s cm)):=by
 have Q:=U8 w (.cells (eB d p) 25) (.cells s.v 31);have j:=al λ(V:S7) (g:w.grownBy V none) (b c:Nat) hb=>Wn (A:=A) d fit p s cm V (h.keep g) b c hb ar
 have f:=al Q.2.2;clear Q h ar;generalize U6 d s cm=x at *;go_enter (S.f func38),ntmps38;go_wp2_with (go_at_call 50;refine(j.out _ (f.out.trans bT) (w.heap.size+1+1) 1 (zx _ _ _ _)).mono ?_;rintro e w3 ⟨q,rfl,ag⟩;have i:=al (f.out.trans (bT.trans ag));clear ag)
 go_ret2
 exact⟨_,S6,i.out⟩
def WU[S:Std A][P:hA A][N:Hi A](d:dw)(fit:d.fit)(p:gz)(s:U1)(cm:Int)(w:S7)(h:iZ w d p):
 Calls (ao A) 14 #[.agg (eB d p),.agg s.v,ah cm] w λe w'=>e=.returned (.tuple #[ah (Vn d s cm),ah (U6 d s cm)])/\w.grownBy w' none:=by
 by_cases ar:U6 d s cm=0
 .have c:Vn d s cm=Vh d.nC s.U0 cm:=Tq ar
  rw[c,ar];unfold U6 at ar;split at ar
  .rename_i I
   let⟨aT,af,aJ⟩:=Vj I;have ok:=(IB aT).1;let⟨l,m,o⟩:=h.tf aT;split at ar
   .rename_i J
    simp only[decide_eq_true_eq]at J;obtain⟨n,rfl⟩:∃n:Nat,cm=n:=⟨cm.toNat,U⟩
    rw[m,aJ];exact callsIn_wide.1 (WT (A:=A) d.nC ok l w o s.U0 af n U)
   .exact Td ar a6
  .rename_i I;exact(I ar).elim
 .have c:Vn d s cm=0:=Tm ar
  rw[c];have j:=al λ(V:S7) (g:w.grownBy V none)=>Wq (A:=A) d fit p s cm V (h.keep g) ar
  have b8:w.grownBy (((w.alloc (.cells (eB d p) 25)).alloc (.cells s.v 31)).alloc (.cells #[ah cm] 3)) none:=((dU w _ _).trans bT).trans bT;have f:=al b8;clear b8 h c;generalize U6 d s cm=x at *;have r:(x == 0)=false:=by simpa using ar
  have u:decide (x=0)=false:=by simpa using ar
  clear ar;go_enter (S.f func14),ntmps14;go_wp2;refine wp_scope_jumps 0 (λ_ _=>False) (λ_ _=>0) S6 ?_ ?_
  .go_wp2_with (go_at_call 38;refine(j.out _ f.out).mono ?_;rintro e w3 ⟨q,rfl,ag⟩;have i:=al (f.out.trans ag);clear ag)
   simp only[Exit.jump];go_ret2
   exact⟨S6,i.out.trans bT⟩
  .intro bd w' aI
   exact aI.elim
end
end Go.aO
namespace Go.aO
open Go.Proofs Tryz Go.RowKit
section
variable{A:TJ}
def WE:((ao A).info? 31).map (·.size)=some 5:=av
def V4(w:S7)(e:Ending)(w':S7):Prop:=∃aX:U1,e=.returned (.agg aX.v)/\w.grownBy w' none
def Wm[S:Std A](s:U1)(w:S7):
 Calls (ao A) 8 #[.agg s.v] w (V4 w):=by
 obtain⟨k,a,b,c,e⟩:=s;go_enter (S.f func8),ntmps8;go_wp2;all_goals (
  refine bodyPost_ret (results_cell_row S6 _ _ (w.heap.size+1) 31 #[ah k,ah a,ah _,ah _,ah e] (0,0) _ S6 (U8 w _ _).2.1 (ao.underlying54 A) S6 WE) S6 ?_;exact⟨⟨k,a,_,_,e⟩,S6,bT.trans bT⟩)
end
end Go.aO
namespace Go.aO
open Go.Proofs Tryz Go.RowKit Go.Maps Go.Shelf
section
variable{A:TJ}
def WK(d:dw)(s:U1):(Vf d s).length<=20000:=by
 unfold Vf;split
 .rename_i h
  have af:=(Vj h).2.1;have I:=Cc s.U0.lm s.U0.fm s.U0.b5 af.hF (s.U0.cj-s.U0.lm+1);have J:=af.l;have ax:=af.bE;have aZ:=V2 (U3 d.nC s.U0);have bs:(U3 d.nC s.U0).length=(hN s.U0.lm s.U0.fm s.U0.b5 (s.U0.cj-s.U0.lm+1)).length:=by simp[U3]
  omega
 .simp
def VG(d:Int)(l:TX)(w:S7)(e:Ending)(w':S7):Prop:=∃q c,e=.returned (.tuple #[.slice q l.length c,ah d])/\kU w' q l.length (λi=>l.getD i 0)/\(l = []->q=none/\c=0)/\w.grownBy w' none
def Vm.sl{d:dw}{s:U1}{w w':S7}{e:Ending}(h:Vm d s w e w'):VG (U5 d s) (Vf d s) w e w':=by
 obtain⟨v,rfl,⟨m,hm,az⟩,ak,ag⟩:=h;rcases Uq (Vf d s).length with e|e
 .have aT:=List.length_eq_zero_iff.1 e
  rw[ak aT,aT];exact⟨none,0,S6,λh=>(h S6).elim,λ_=>⟨S6,S6⟩,ag⟩
 .obtain⟨b,c,rfl,I,J,ax,aZ⟩:=VD az e
  refine⟨_,c,S6,λ_=>⟨b,0,S6,λi ad=>?_⟩,λh=>Td e (by rw[h];decide),ag⟩;rw[Nat.zero_add];refine aZ i _ ?_;show _=some ((Vf d s).getD i 0);rw[List.getD_eq_getElem?_getD,Ui ad];rfl
def WB(b:Nat)(w:S7):Sem.run (ao A) (Builtin.append_ #[22,22] 22 #[Ts b 1 1,.slice none 0 0]) w=.ok (Ts b 1 1) w:=av
def WV{ops:Tv Oper}{Tp:Tb Oper}{o:Oper}{a:Act}{Q:Exit->Act->S7->Prop}{w V:S7}(r:o.guard=none)(s x:Operand)(az:o.op=.call {callee:=.builtin .append,args:=#[s,x],argTypes:=#[22,22]})(aA:o.type=22)(b:Nat)(y:Int)(af:a.eval s=Ts b 1 1)(hb:w.heap[b]?=some (.cells #[ah y] 3))(q:TV)(l:TX)(c:Nat)(n:a.eval x=.slice q l.length c)(aj:l.length<=20000)(G:kU w q l.length (λi=>l.getD i 0))(ak:l = []->q=none/\c=0)(g:V.grownBy w none)(R:V.heap.size<=b)(h:∀(g2 c9 bp:Nat) (f:Ty) (w':S7),c9<=20001->gn w' g2 0 c9 f->V.grownBy w' none->wpList (ao A) ops Q Tp (a.put o.dst (Ts g2 c9 bp)) w'):
 wpList (ao A) ops Q (o::Tp) a w:=by
 rcases Uq l.length with e|e
 .obtain⟨rfl,rfl⟩:=ak (List.length_eq_zero_iff.1 e)
  rw[e]at n;refine wpList_plain r λK B=>?_
  unfold Oper.wp execOp;simp only[az,aA,resolve,invoke,builtin,Sem.run_bind,Sem.run_pure,Result.andThen_ok,List.map_toArray,List.map_cons,List.map_nil,af,n,WB];refine B _ _ (h b 1 1 (λ_=>y) w U (λi ad=>?_) g);obtain rfl:i=0:=U;exact(aU (o:=0) hb).trans S6
 .let⟨P,ad,H,L,M⟩:=wL (A:=A)
  obtain⟨m,p,rfl,E⟩:=G U;have b1:w.ownsRow b 3 1 (Ts b 1 1) 1 [gi y]:=⟨S6,.inr ⟨b,1,#[ah y],S6,bg,hb,bg,kj,S6,S6⟩⟩
  refine wpList_append_own_at _ r s x 22 az b 3 P (ah 0) 1 8 (ao.underlying22 A) ad H L M S6 a6 _ 1 [gi y] af b1 (S8 m p) l.length c (l.map gi) n aF (λj u aI=>?_) (λu hu=>?_) kj U (Nat.le_of_lt (bu hb)) ?_
  .rw[show(((S8 m p):TD).add j)=(S8 m (p+j)) by simp[Addr.add]]
   rw[List.getElem?_map]at aI;obtain⟨z,I,rfl⟩:=Option.map_eq_some_iff.1 aI;have D:j<l.length:=(List.getElem?_eq_some_iff.1 I).1;have:=E j D;rw[this];show Tn (l.getD j 0)=_;rw[List.getD_eq_getElem?_getD,I];rfl
  .obtain⟨z,_,rfl⟩:=List.mem_map.1 hu
   rfl
  .intro S w' F d _ _
   obtain⟨aE,bp,rfl,I,J,ax,aZ⟩:=VD (l:=y::l) (by simpa using F) U;refine h aE (1+l.length) bp (λi=>(y::l).getD i 0) w' U (λi ad=>?_) ⟨d.os.trans g.os,d.tape.trans g.tape,d.output.trans g.output,cL g.size d.size,λi ad _=>(d.block i (gu ad g.size) (λe=>?_)).trans (g.block i ad aF)⟩
   .rw[Nat.zero_add]
    refine aZ i _ ?_;have C:i<(y::l).length:=cH;show _=some ((y::l).getD i 0);rw[List.getD_eq_getElem?_getD,Ui C];rfl
   .have e:some i=some b:=e
    have:=bD e;omega
end
end Go.aO
