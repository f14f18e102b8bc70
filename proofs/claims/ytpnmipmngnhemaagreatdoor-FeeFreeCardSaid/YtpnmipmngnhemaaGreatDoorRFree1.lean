/- A part of FeeFree: no conditions. -/
import Derived.Test.YtpnmipmngnhemaaGreatDoorRFree0
set_option maxHeartbeats 8000000
set_option maxRecDepth 100000
set_option linter.all false
namespace Go.aN
open Go.Proofs Go.RowKit
def Qd(d:cR)(xs:List Int):cR:={d with fC:=xs.length,free:=λi=>xs.getD i 0}
def P2(g:Nat->Bool):Nat->List Int
 | 0=>[]
 |n+1=>if g n=true then P2 g n++[(n:Int)]else P2 g n
def Qx(g:Nat->Bool)(z:Int):∀n,z∈P2 g n↔∃i:Nat,i<n/\g i=true/\z=i
 | 0=>by simp[P2]
 |n+1=>by
  have d:=Qx g z n;unfold P2;by_cases ae:g n=true
  .rw[if_pos ae,List.mem_append,List.mem_singleton,d]
   constructor
   .rintro(⟨i,I,J,ax⟩|h)
    .exact⟨i,by omega,J,ax⟩
    .exact⟨n,by omega,ae,h⟩
   .rintro⟨i,I,J,ax⟩
    by_cases c:i=n
    .subst c;exact .inr ax
    .exact .inl ⟨i,by omega,J,ax⟩
  .rw[if_neg ae,d]
   constructor
   .rintro⟨i,I,J,ax⟩
    exact⟨i,by omega,J,ax⟩
   .rintro⟨i,I,J,ax⟩
    by_cases c:i=n
    .subst c;exact absurd J ae
    .exact⟨i,by omega,J,ax⟩
def QL(g:Nat->Bool):∀n,(P2 g n).Pairwise (· < ·)
 | 0=>.nil
 |n+1=>by
  unfold P2;split
  .refine List.pairwise_append.2 ⟨QL g n,List.pairwise_singleton _ _,λa aa b hb=>?_⟩
   obtain⟨i,I,_,rfl⟩:=(Qx g a n).1 aa;obtain rfl:=Ps hb;omega
  .exact QL g n
def QC(g:Nat->Bool):∀n,(P2 g n).length<=n
 | 0=>Pk
 |n+1=>by
  have:=QC g n;unfold P2;split
  .simp;omega
  .omega
def Qv{l:List Int}{i:Nat}(h:i<l.length):l.getD i 0=l[i]:=by simp[List.getD,h]
def QP{d:cR}(ok:d.ok)(g:Nat->Bool):(Qd d (P2 g 5)).ok where
 kinds:=ok.kinds
 first:=ok.first
 eY:=ok.eY
 zero:=ok.zero
 dz:=ok.dz
 rP:=ok.rP
 fD:=ok.fD
 fC:=QC g 5
 free i c:=by have c:i<(P2 g 5).length:=c;show 0<=(P2 g 5).getD i 0/\(P2 g 5).getD i 0<=4;rw[Qv c];obtain⟨j,I,_,J⟩:=(Qx g _ 5).1 (List.getElem_mem c);omega
 Av i c:=by have c:i+1<(P2 g 5).length:=c;show(P2 g 5).getD i 0<(P2 g 5).getD (i+1) 0;rw[Qv c,Qv (show i<_ by omega)];exact List.pairwise_iff_getElem.1 (QL g 5) i (i+1) (by omega) c (by omega)
def QW(d:cR)(xs:List Int)(k day:Nat):∀i,lp (Qd d xs) k i day=lp d k i day
 | 0=>rfl
 |i+1=>by unfold lp;rw[QW d xs k day i];rfl
def Qq(d:cR)(z:Nat):Bool:=(List.range d.fC).any λi=>d.free i == (z:Int)
def Qz{d:cR}{z:Nat}:Qq d z=true↔∃i,i<d.fC/\d.free i=z:=by
 unfold Qq;rw[List.any_eq_true];constructor
 .rintro⟨i,I,J⟩
  exact⟨i,List.mem_range.1 I,by simpa using J⟩
 .rintro⟨i,I,J⟩
  exact⟨i,List.mem_range.2 I,by simpa using J⟩
def Rp(d:cR)(k z:Nat):cC d k z=if Qq d z=true then 0 else lp d k d.eY z:=by
 unfold cC;by_cases h:Qq d z=true
 .rw[if_pos h,QJ _ (Qz.1 h)]
 .rw[if_neg h,QK _ λx=>h (Qz.2 x)]
def QY(d:cR)(g:Nat->Bool)(k:Nat){z:Nat}(f:z<5):cC (Qd d (P2 g 5)) k z=if g z=true then 0 else lp d k d.eY z:=by
 unfold cC;by_cases h:g z=true
 .rw[if_pos h]
  obtain⟨i,c,e⟩:=List.mem_iff_getElem.1 ((Qx g (z:Int) 5).2 ⟨z,f,h,rfl⟩);exact QJ _ ⟨i,c,by show(P2 g 5).getD i 0=z;rw[Qv c,e]⟩
 .rw[if_neg h,QK]
  .exact QW d _ k z _
  .rintro⟨i,c,e⟩
   have c:i<(P2 g 5).length:=c;have e:(P2 g 5).getD i 0=z:=e;rw[Qv c]at e;obtain⟨j,_,I,J⟩:=(Qx g _ 5).1 (List.getElem_mem c);obtain rfl:j=z:=by omega
   exact h I
def QU{t u:Nat->Int}{day:Nat}(h:∀z,z<5->u z=if z=day then 0 else t z)(s:Nat):∀n,s+n<=5->jb u s n=jb t s n-(if s<=day/\day<s+n then t day else 0)
 | 0,_=>by
  rw[if_neg (by omega)];simp[jb]
 |n+1,ak=>by
  simp only[jb];rw[QU h s n (by omega),h (s+n) (by omega)];by_cases I:s+n=day
  .rw[if_pos I,if_neg (by omega),if_pos (by omega),I]
   omega
  .rw[if_neg I]
   by_cases J:s<=day/\day<s+n
   .rw[if_pos J,if_pos (by omega)]
    omega
   .rw[if_neg J,if_neg (by omega)]
    omega
def Q4{f:Int}{t u:Nat->Int}{day a b:Nat}(h:∀z,z<5->u z=if z=day then 0 else t z)(bY:a<=b)(hb:b<120):fP f u a b=fP f t a b-(if a / 24<day/\day<=b / 24 then t day else 0):=by
 have I:a / 24<=b / 24:=Nat.div_le_div_right bY;unfold fP;rw[QU h _ _ (by omega)];by_cases c:a / 24<day/\day<=b / 24
 .rw[if_pos c,if_pos (by omega)]
  omega
 .rw[if_neg c,if_neg (by omega)]
  omega
def QV{u:Nat->Int}(h:∀z,z<5->u z=0)(s:Nat):∀n,s+n<=5->jb u s n=0
 | 0,_=>rfl
 |n+1,ak=>by simp only[jb];rw[QV h s n (by omega),h _ (by omega)];rfl
def Q6{f:Int}{u:Nat->Int}{a b:Nat}(h:∀z,z<5->u z=0)(bY:a<=b)(hb:b<120):fP f u a b=f:=by have I:a / 24<=b / 24:=Nat.div_le_div_right bY;unfold fP;rw[QV h _ _ (by omega)];omega
abbrev Qi(d:cR)(day:Nat)(z:Nat):Bool:=decide (z=day)||Qq d z
abbrev Qy(_:Nat):Bool:=true
def Q8(d:cR){k day a b:Nat}(bY:a<=b)(hb:b<120):fP (d.first k) (cC (Qd d (P2 (Qi d day) 5)) k) a b=fP (d.first k) (cC d k) a b-(if a / 24<day/\day<=b / 24 then cC d k day else 0):=by
 refine Q4 (λz c=>?_) bY hb;rw[QY d _ k c,Rp d k z];by_cases I:z=day
 .rw[if_pos I,if_pos (by simp[Qi,I])]
 .rw[if_neg I]
  by_cases J:Qq d z=true
  .rw[if_pos J,if_pos (by simp[Qi,J])]
  .rw[if_neg J,if_neg (by simp[Qi,I,J])]
def Q7(d:cR){k a b:Nat}(bY:a<=b)(hb:b<120):fP (d.first k) (cC (Qd d (P2 Qy 5)) k) a b=d.first k:=
 Q6 (λz c=>by rw[QY d _ k c,if_pos rfl]) bY hb
section
variable{A:Array Func}
def Rj{w w':World}{base:Nat}{e:TypeId}{size:Nat}{v:Value}{n:Nat}{xs:List Value}(h:w.ownsRow base e size v n xs)(k:∀g,v.ownBlock=some g->w'.heap[g]?=w.heap[g]?):w'.ownsRow base e size v n xs:=by
 obtain⟨ah,h|⟨g,c,cur,aP,hb,ae,I,J,ax,aV⟩⟩:=h
 .exact⟨ah,.inl h⟩
 .exact⟨ah,.inr ⟨g,c,cur,aP,hb,(k g (by rw[aP];rfl)).trans ae,I,J,ax,aV⟩⟩
structure Qf(M:Nat)(d:cR)(p PZ p2:dU)(B X Y:Nat)(xs ys:List Int)(Qa Qc:Value)(w:World):Prop where
 src:fy w d p
 mn:w.heap[B]?=some (.cells (cO d p) 27)
 Qw:fy w (Qd d []) PZ
 qC:fy w (Qd d []) p2
 Qg:w.heap[X]?=some (.cells #[.int .i64 d.kinds,.slice (some ⟨PZ.gv,PZ.hj,none⟩) d.kinds PZ.eT,.slice (some ⟨PZ.j9,PZ.lg,none⟩) d.eY PZ.h8,Qa] 27)
 Ql:w.heap[Y]?=some (.cells #[.int .i64 d.kinds,.slice (some ⟨p2.gv,p2.hj,none⟩) d.kinds p2.eT,.slice (some ⟨p2.j9,p2.lg,none⟩) d.eY p2.h8,Qc] 27)
 Qo:w.ownsRow M 3 1 Qa xs.length (xs.map encZ)
 Qp:w.ownsRow M 3 1 Qc ys.length (ys.map encZ)
 ne:∀r,Qa.ownBlock=some r->Qc.ownBlock≠some r
 b4:p.below d M/\PZ.below (Qd d []) M/\p2.below (Qd d []) M/\B<M/\X<M/\Y<M/\B≠X/\B≠Y/\X≠Y
 cv:p.off d X/\PZ.off (Qd d []) X/\p2.off (Qd d []) X
 Qs:p.off d Y/\PZ.off (Qd d []) Y/\p2.off (Qd d []) Y
 dm:M<=w.heap.size
def Qf.keep{M:Nat}{d:cR}{p PZ p2:dU}{B X Y:Nat}{xs ys:List Int}{f g:Value}{w w':World}(br:Qf M d p PZ p2 B X Y xs ys f g w)(k:∀i,i<w.heap.size->w'.heap[i]?=w.heap[i]?)(af:w.heap.size<=w'.heap.size):Qf M d p PZ p2 B X Y xs ys f g w':=by obtain⟨h,j,l,o,q,r,u,C,D⟩:=br.b4;have z:=br.dm;exact⟨br.src.Qb h λi c=>k i (by omega),(k B (by omega)).trans br.mn,br.Qw.Qb j λi c=>k i (by omega),br.qC.Qb l λi c=>k i (by omega),(k X (by omega)).trans br.Qg,(k Y (by omega)).trans br.Ql,kq br.Qo λi I J=>k i J,kq br.Qp λi I J=>k i J,br.ne,br.b4,br.cv,br.Qs,by omega⟩
def Qf.QI{M:Nat}{d:cR}{p PZ p2:dU}{B X Y:Nat}{xs ys:List Int}{j l:Value}{w f:World}(br:Qf M d p PZ p2 B X Y xs ys j l w){c cap:Nat}{z:Int}(V:w.heap.size<=f.heap.size)(o:∀i,i<w.heap.size->j.ownBlock≠some i->f.heap[i]?=w.heap[i]?)(aJ:j.ownBlock=some c\/w.heap.size<=c)(R:f.ownsRow M 3 1 (.slice (some ⟨c,0,none⟩) (xs.length+1) cap) (xs.length+1) (xs.map encZ++[encZ z])):
 Qf M d p PZ p2 B X Y (xs++[z]) ys (.slice (some ⟨c,0,none⟩) (xs.length+1) cap) l (f.setCell ⟨X,3,none⟩ (.slice (some ⟨c,0,none⟩) (xs.length+1) cap)):=by
 obtain⟨F,G,H,K,T,L,P,U,Q⟩:=br.b4;have S:=br.dm;have u:∀r,j.ownBlock=some r->M<=r/\r<w.heap.size:=λr e=>xX br.Qo r e
 have C:∀r,l.ownBlock=some r->M<=r/\r<w.heap.size:=λr e=>xX br.Qp r e
 have AY:∀i,i≠X->(f.setCell ⟨X,3,none⟩ (.slice (some ⟨c,0,none⟩) (xs.length+1) cap)).heap[i]?=f.heap[i]?:=λi h=>ft (by show i≠X;exact h)
 have low:∀i,i<M->i≠X->(f.setCell ⟨X,3,none⟩ (.slice (some ⟨c,0,none⟩) (xs.length+1) cap)).heap[i]?=w.heap[i]?:=λi I J=>(AY i J).trans (o i (by omega) (λe=>by have:=(u i e).1;omega))
 have D:f.heap[X]?=_:=(o X (by omega) (λe=>by have:=(u X e).1;omega)).trans br.Qg;have E:∀r,(some c:Option Nat)=some r->l.ownBlock≠some r:=λr e q=>by
  obtain rfl:=Pm e;rcases aJ with h|h
  .exact br.ne _ h q
  .have:=(C _ q).2;omega
 refine⟨br.src.QD F br.cv.1.F br.cv.1.R br.cv.1.P br.cv.1.rL low,(low B K P).trans br.mn,br.Qw.QD G br.cv.2.1.F br.cv.2.1.R br.cv.2.1.P br.cv.2.1.rL low,br.qC.QD H br.cv.2.2.F br.cv.2.2.R br.cv.2.2.P br.cv.2.2.rL low,cQ D,(low Y L (Ne.symm Q)).trans br.Ql,?_,?_,E,br.b4,br.cv,br.Qs,by simp;omega⟩
 .rw[List.length_append,List.map_append]
  exact kq R λi I J=>AY i (by omega)
 .exact Rj br.Qp λg ae=>by have I:=C g ae;exact(AY g (by omega)).trans (o g I.2 λe=>br.ne g e ae)
def Qf.Rk{M:Nat}{d:cR}{p PZ p2:dU}{B X Y:Nat}{xs ys:List Int}{j f:Value}{w g:World}(br:Qf M d p PZ p2 B X Y xs ys j f w){c cap:Nat}{z:Int}(J:w.heap.size<=g.heap.size)(l:∀i,i<w.heap.size->f.ownBlock≠some i->g.heap[i]?=w.heap[i]?)(aJ:f.ownBlock=some c\/w.heap.size<=c)(I:g.ownsRow M 3 1 (.slice (some ⟨c,0,none⟩) (ys.length+1) cap) (ys.length+1) (ys.map encZ++[encZ z])):
 Qf M d p PZ p2 B X Y xs (ys++[z]) j (.slice (some ⟨c,0,none⟩) (ys.length+1) cap) (g.setCell ⟨Y,3,none⟩ (.slice (some ⟨c,0,none⟩) (ys.length+1) cap)):=by
 obtain⟨o,q,u,C,D,E,F,G,H⟩:=br.b4;have a8:Qf M d p p2 PZ B Y X ys xs f j w:=⟨br.src,br.mn,br.qC,br.Qw,br.Ql,br.Qg,br.Qp,br.Qo,λr e h=>br.ne r h e,⟨o,u,q,C,E,D,G,F,Ne.symm H⟩,⟨br.Qs.1,br.Qs.2.2,br.Qs.2.1⟩,⟨br.cv.1,br.cv.2.2,br.cv.2.1⟩,br.dm⟩
 have K:=a8.QI J l aJ I;exact⟨K.src,K.mn,K.qC,K.Qw,K.Ql,K.Qg,K.Qp,K.Qo,λr e h=>K.ne r h e,br.b4,br.cv,br.Qs,K.dm⟩
def QX{w:World}{d:cR}{p:dU}{M:Nat}{xs:List Int}{v:Value}(h:fy w (Qd d []) p)(o:w.ownsRow M 3 1 v xs.length (xs.map encZ)):∃hE h9,v=.slice hE xs.length h9/\fy w (Qd d xs) {p with hE:=hE,h9:=h9}:=by
 rcases Nat.eq_zero_or_pos xs.length with hu|hu
 .obtain⟨_,⟨e,_⟩|⟨g,c,_,e,_⟩⟩:=o
  .exact⟨none,0,by rw[hu];exact e,h.first,h.dz,h.rows,h.fD,λh=>absurd hu h⟩
  .exact⟨_,c,e,h.first,h.dz,h.rows,h.fD,λh=>absurd hu h⟩
 .obtain⟨g,c,e,k⟩:=Ro o hu
  exact⟨_,c,e,h.first,h.dz,h.rows,h.fD,λ_=>⟨g,0,rfl,k⟩⟩
end
end Go.aN
namespace Go.aN
section
section
variable{P:Program}{md:Region.Mode}{ops:Array Oper}{Q:Exit->Act->World->Prop}
def Rq{R:(Nat->Bool)->Act->World->Prop}(g:∀(i:Nat) (o:Oper),ops[i]?=some o->∀e∈o.after,e.on<i)(l:∀(L:Nat->Bool) (i:Nat) (o:Oper) (a:Act) (w:World),ops[i]?=some o->L i=false->(∀e∈o.after,Region.binds md e=true->L e.on=true)->R L a w->wpOp P ops Q i (λbb w'=>R (bt L i) bb w') a w)(h:∀L a w,(∀i,i<ops.size->L i=true)->R L a w->Q .normal a w):
 ∀fuel listed a w,listed.size=ops.size->sm listed<=fuel->R (λj=>listed.getD j false) a w->wpAny P md ops Q fuel listed a w:=by
 have done:∀(listed:Array Bool) a w,listed.size=ops.size->R (λj=>listed.getD j false) a w->Region.ready md ops listed = []->Q .normal a w:=by
  intro listed a w af cT ao;refine h _ a w ?_ cT;intro i;induction i using Nat.strongRecOn with
  |_ i d=>
   intro c;cases hb:listed.getD i false with
   |true=>rfl
   |false=>
    have hm:i∈Region.ready md ops listed:=by
     rw[mem_ready];refine⟨?_,ops[i],Pu c,λe he _=>?_⟩
     .have ah:i<listed.size:=by omega
      simp only[Array.getD,ah,dif_pos]at hb ⊢;exact hb
     .have aO:=g i _ (Pu c) e he
      exact d e.on aO (by omega)
    rw[ao]at hm;cases hm
 have pos:∀(listed:Array Bool) i,listed.size=ops.size->i∈Region.ready md ops listed->listed[i]?=some false:=by
  intro listed i af c;obtain⟨I,o,av,_⟩:=mem_ready.1 c;have ah:i<listed.size:=by have:=(Array.getElem?_eq_some_iff.1 av).1;omega
  rw[Pu ah];simp only[Array.getD,ah,dif_pos]at I;exact congrArg some I
 intro fuel;induction fuel with
 |zero=>
  intro listed a w af ah cT;have ao:Region.ready md ops listed = []:=by
   refine List.eq_nil_iff_forall_not_mem.2 λi c=>?_
   have:=Ba (pos listed i af c);omega
  exact⟨ao,done listed a w af cT ao⟩
 |succ fuel d=>
  intro listed a w af ah cT;refine⟨λao=>done listed a w af cT ao,λi c=>?_⟩;have aQ:=pos listed i af c;obtain⟨I,o,av,J⟩:=mem_ready.1 c;have eP:listed.getD i false=false:=by have ah:i<listed.size:=(Array.getElem?_eq_some_iff.1 aQ).1;simp only[Array.getD,ah,dif_pos]at I ⊢;exact I
  refine wpOp_mono (λbb w' f=>?_) (l _ i o a w av eP J cT);refine d _ bb w' (by simpa using af) (by have:=Ba aQ;omega) ?_;have e:(λj=>(listed.setIfInBounds i true).getD j false)=bt (λj=>listed.getD j false) i:=by
   funext j;have ah:i<listed.size:=(Array.getElem?_eq_some_iff.1 aQ).1;unfold bt;by_cases aC:j=i
   .subst aC
    simp[Array.getD,ah]
   .simp only[if_neg aC,Array.getD,Array.size_setIfInBounds]
    split
    .exact Array.getElem_setIfInBounds_ne (by omega) (λe=>aC e.symm)
    .rfl
  rw[e];exact f
def wp_region_held{R:(Nat->Bool)->Act->World->Prop}(hm:P.follows .mixedOrders=true){id:Nat}{a:Act}{w:World}(c:zq ops=true)(f:∀(L:Nat->Bool) (i:Nat) (o:Oper) (a:Act) (w:World),ops[i]?=some o->L i=false->(∀e∈o.after,Region.binds .any e=true->L e.on=true)->R L a w->wpOp P ops Q i (λbb w'=>R (bt L i) bb w') a w)(d:∀L a w,(∀i,i<ops.size->L i=true)->R L a w->Q .normal a w)(aP:R (λ_=>false) a {w with drawn:=w.drawn+1}):(Code.region id ops true).wp P Q a w:=by
 refine wp_region_any hm (Rq (EE c) f d _ _ _ _ (by simp) ?_ ?_)
 .unfold sm
  refine Po List.countP_le_length ?_;simp
 .have e:(λj=>(Array.replicate ops.size false).getD j false)=λ_=>false:=by funext j;simp[Array.getD]
  rw[e];exact aP
end
end
end Go.aN
namespace Go.aN
open Go.Proofs Go.RowKit
section
structure dU.Qh(p:dU)(d:cR)(b4 aj:Nat):Prop where
 F:b4<=p.gv/\p.gv<aj
 R:b4<=p.j9/\p.j9<aj
 P:∀i,i<d.eY->b4<=p.im i/\p.im i<aj
 rL:∀b o,d.fC≠0->p.hE=some ⟨b,o,none⟩->b4<=b/\b<aj
def dU.Qh.off{p:dU}{d:cR}{b4 c X:Nat}(h:p.Qh d b4 c)(f:X<b4\/c<=X):p.off d X:=
 ⟨by have:=h.F;omega,by have:=h.R;omega,λi c=>by have:=h.P i c;omega,λb o ak e=>by have:=h.rL b o ak e;omega⟩
def KeptAt.Qh{w w':World}{d:cR}{p:dU}(ok:d.ok)(h:KeptAt w d p w'):p.Qh d w.heap.size w'.heap.size:=by have b:=h.sV.below ok;exact⟨⟨h.first.1,b.F⟩,⟨h.Rm.1,b.R⟩,λi f=>⟨(h.fD i f).1,b.P i f⟩,λc o ak e=>⟨(h.free c o e).1,b.rL c o ak e⟩⟩
def QQ{p:dU}{d:cR}{b4 c:Nat}(h:p.Qh d b4 c):p.Qh (Qd d []) b4 c:=⟨h.F,h.R,h.P,λ_ _ ak=>absurd rfl ak⟩
def fy.QO{w:World}{d:cR}{p:dU}(h:fy w d p):fy w (Qd d []) p:=⟨h.first,h.dz,h.rows,h.fD,λak=>absurd rfl ak⟩
abbrev Qu:Array Value:=#[.int .i64 0,.slice none 0 0,.slice none 0 0,.slice none 0 0]
structure P3(w4:World)(d:cR)(p:dU)(L:Nat->Bool)(w:World)(v9 v10 P9 v35 v36 P':Value)(PZ p2:dU)(P6 P4 P7 P5 X Y:Nat):Prop where
 g:w4.grownBy w none
 bu:L 0=true->P9=.agg (cO d p)
 c1:L 1=true->v35=.agg (cO d PZ)/\fy w d PZ/\PZ.Qh d P6 P4/\w4.heap.size<=P6/\P4<=w.heap.size
 c2:L 2=true->v36=.agg (cO d p)
 c3:L 3=true->P'=.agg (cO d p2)/\fy w d p2/\p2.Qh d P7 P5/\w4.heap.size<=P7/\P5<=w.heap.size
 c4:L 4=true->v9=.pointer (some ⟨X,0,none⟩)/\w4.heap.size<=X/\w.heap[X]?=some (.cells (if L 6=true then cO d PZ else Qu) 27)/\(L 1=true->X<P6\/P4<=X)/\(L 3=true->X<P7\/P5<=X)
 fi:L 5=true->v10=.pointer (some ⟨Y,0,none⟩)/\w4.heap.size<=Y/\w.heap[Y]?=some (.cells (if L 7=true then cO d p2 else Qu) 27)/\(L 1=true->Y<P6\/P4<=Y)/\(L 3=true->Y<P7\/P5<=Y)
 ne:L 4=true->L 5=true->X≠Y
section
variable{w4 w w':World}{d:cR}{p:dU}{L:Nat->Bool}{v9 v10 P9 v35 v36 P':Value}{PZ p2:dU}{P6 P4 P7 P5 X Y:Nat}
def P3.Ra(h:P3 w4 d p L w v9 v10 P9 v35 v36 P' PZ p2 P6 P4 P7 P5 X Y):P3 w4 d p (bt L 0) w v9 v10 (.agg (cO d p)) v35 v36 P' PZ p2 P6 P4 P7 P5 X Y:=
 ⟨h.g,λ_=>rfl,by simpa [bt]using h.c1,by simpa [bt]using h.c2,by simpa [bt]using h.c3,by simpa [bt]using h.c4,by simpa [bt]using h.fi,by simpa [bt]using h.ne⟩
def P3.Rc(h:P3 w4 d p L w v9 v10 P9 v35 v36 P' PZ p2 P6 P4 P7 P5 X Y):P3 w4 d p (bt L 2) w v9 v10 P9 v35 (.agg (cO d p)) P' PZ p2 P6 P4 P7 P5 X Y:=
 ⟨h.g,by simpa [bt]using h.bu,by simpa [bt]using h.c1,λ_=>rfl,by simpa [bt]using h.c3,by simpa [bt]using h.c4,by simpa [bt]using h.fi,by simpa [bt]using h.ne⟩
def P3.Rb(ok:d.ok)(h:P3 w4 d p L w v9 v10 P9 v35 v36 P' PZ p2 P6 P4 P7 P5 X Y)(b':L 6=false){q:dU}(k:KeptAt w d q w')(g:w.grownBy w' none):P3 w4 d p (bt L 1) w' v9 v10 P9 (.agg (cO d q)) v36 P' q p2 w.heap.size w'.heap.size P7 P5 X Y:=by
 have s:=g.size;refine⟨h.g.trans g,by simpa [bt]using h.bu,λ_=>⟨rfl,k.sV,k.Qh ok,h.g.size,Pk⟩,by simpa [bt]using h.c2,λax=>?_,λaV=>?_,λbm=>?_,by simpa [bt]using h.ne⟩
 .obtain⟨a,b,c,e,f⟩:=h.c3 (by simpa [bt]using ax)
  exact⟨a,b.keep g,c,e,by omega⟩
 .obtain⟨a,b,c,e,f⟩:=h.c4 (by simpa [bt]using aV)
  have i:=bp c;rw[b']at c;refine⟨a,b,?_,λ_=>.inl i,by simpa [bt]using f⟩;show w'.heap[X]?=some (.cells (if bt L 1 6=true then _ else _) 27);rw[show bt L 1 6=false from b'];exact(g.block X i (by simp)).trans c
 .obtain⟨a,b,c,e,f⟩:=h.fi (by simpa [bt]using bm)
  have j:=bp c;refine⟨a,b,?_,λ_=>.inl j,by simpa [bt]using f⟩;exact(g.block Y j (by simp)).trans c
def P3.Re(ok:d.ok)(h:P3 w4 d p L w v9 v10 P9 v35 v36 P' PZ p2 P6 P4 P7 P5 X Y)(b7:L 7=false){q:dU}(k:KeptAt w d q w')(g:w.grownBy w' none):P3 w4 d p (bt L 3) w' v9 v10 P9 v35 v36 (.agg (cO d q)) PZ q P6 P4 w.heap.size w'.heap.size X Y:=by
 have s:=g.size;refine⟨h.g.trans g,by simpa [bt]using h.bu,λI=>?_,by simpa [bt]using h.c2,λ_=>⟨rfl,k.sV,k.Qh ok,h.g.size,Pk⟩,λaV=>?_,λbm=>?_,by simpa [bt]using h.ne⟩
 .obtain⟨a,b,c,e,f⟩:=h.c1 (by simpa [bt]using I)
  exact⟨a,b.keep g,c,e,by omega⟩
 .obtain⟨a,b,c,e,f⟩:=h.c4 (by simpa [bt]using aV)
  have i:=bp c;exact⟨a,b,(g.block X i (by simp)).trans c,by simpa [bt]using e,λ_=>.inl i⟩
 .obtain⟨a,b,c,e,f⟩:=h.fi (by simpa [bt]using bm)
  have j:=bp c;rw[b7]at c;refine⟨a,b,?_,by simpa [bt]using e,λ_=>.inl j⟩;show w'.heap[Y]?=some (.cells (if bt L 3 7=true then _ else _) 27);rw[show bt L 3 7=false from b7];exact(g.block Y j (by simp)).trans c
def P3.Rf(h:P3 w4 d p L w v9 v10 P9 v35 v36 P' PZ p2 P6 P4 P7 P5 X Y)(b':L 6=false):P3 w4 d p (bt L 4) (w.alloc (.cells Qu 27)) (.pointer (some ⟨w.heap.size,0,none⟩)) v10 P9 v35 v36 P' PZ p2 P6 P4 P7 P5 w.heap.size Y:=by
 have g:=Pv w (.cells Qu 27) none;refine⟨h.g.trans g,by simpa [bt]using h.bu,λI=>?_,by simpa [bt]using h.c2,λax=>?_,λ_=>⟨rfl,h.g.size,?_,λI=>?_,λax=>?_⟩,λbm=>?_,λ_ bm=>?_⟩
 .obtain⟨a,b,c,e,f⟩:=h.c1 (by simpa [bt]using I)
  exact⟨a,b.keep g,c,e,by simp;omega⟩
 .obtain⟨a,b,c,e,f⟩:=h.c3 (by simpa [bt]using ax)
  exact⟨a,b.keep g,c,e,by simp;omega⟩
 .show(w.alloc _).heap[w.heap.size]?=some (.cells (if bt L 4 6=true then _ else _) 27)
  rw[show bt L 4 6=false from b'];exact gA _ _
 .exact .inr (h.c1 (by simpa [bt]using I)).2.2.2.2
 .exact .inr (h.c3 (by simpa [bt]using ax)).2.2.2.2
 .obtain⟨a,b,c,e,f⟩:=h.fi (by simpa [bt]using bm)
  exact⟨a,b,(Pq (bp c)).trans c,by simpa [bt]using e,by simpa [bt]using f⟩
 .obtain⟨a,b,c,e,f⟩:=h.fi (by simpa [bt]using bm)
  have:=bp c;omega
def P3.Rg(h:P3 w4 d p L w v9 v10 P9 v35 v36 P' PZ p2 P6 P4 P7 P5 X Y)(b7:L 7=false):P3 w4 d p (bt L 5) (w.alloc (.cells Qu 27)) v9 (.pointer (some ⟨w.heap.size,0,none⟩)) P9 v35 v36 P' PZ p2 P6 P4 P7 P5 X w.heap.size:=by
 have g:=Pv w (.cells Qu 27) none;refine⟨h.g.trans g,by simpa [bt]using h.bu,λI=>?_,by simpa [bt]using h.c2,λax=>?_,λaV=>?_,λ_=>⟨rfl,h.g.size,?_,λI=>?_,λax=>?_⟩,λaV _=>?_⟩
 .obtain⟨a,b,c,e,f⟩:=h.c1 (by simpa [bt]using I)
  exact⟨a,b.keep g,c,e,by simp;omega⟩
 .obtain⟨a,b,c,e,f⟩:=h.c3 (by simpa [bt]using ax)
  exact⟨a,b.keep g,c,e,by simp;omega⟩
 .obtain⟨a,b,c,e,f⟩:=h.c4 (by simpa [bt]using aV)
  exact⟨a,b,(Pq (bp c)).trans c,by simpa [bt]using e,by simpa [bt]using f⟩
 .show(w.alloc _).heap[w.heap.size]?=some (.cells (if bt L 5 7=true then _ else _) 27)
  rw[show bt L 5 7=false from b7];exact gA _ _
 .exact .inr (h.c1 (by simpa [bt]using I)).2.2.2.2
 .exact .inr (h.c3 (by simpa [bt]using ax)).2.2.2.2
 .obtain⟨a,b,c,e,f⟩:=h.c4 (by simpa [bt]using aV)
  have:=bp c;omega
abbrev Qt(w:World)(X:Nat)(v0 v1 v2 v3:Value):World:=(((w.setCell ⟨X,0,none⟩ v0).setCell ⟨X,1,none⟩ v1).setCell ⟨X,2,none⟩ v2).setCell ⟨X,3,none⟩ v3
def QG{w4 w:World}{X:Nat}{v0 v1 v2 v3:Value}(h:w4.grownBy w none)(d:w4.heap.size<=X):w4.grownBy (Qt w X v0 v1 v2 v3) none:=
 ⟨h.os,h.tape,h.output,by have:=h.size;simpa using this,λi c _=>(QN i (by omega)).trans (h.block i c (by simp))⟩
where QN {w:World} {X:Nat} {v0 v1 v2 v3:Value} (i:Nat) (h:i≠X):(Qt w X v0 v1 v2 v3).heap[i]?=w.heap[i]?:=(ft (by show i≠X;exact h)).trans ((ft (by show i≠X;exact h)).trans ((ft (by show i≠X;exact h)).trans (ft (by show i≠X;exact h))))
def QH{w:World}{X:Nat}{v0 v1 v2 v3:Value}(i:Nat)(h:i≠X):(Qt w X v0 v1 v2 v3).heap[i]?=w.heap[i]?:=QG.QN i h
def QB{w:World}{X:Nat}{v0 v1 v2 v3:Value}{d:cR}{q:dU}(h:fy w d q)(c:q.off d X):fy (Qt w X v0 v1 v2 v3) d q:=
 h.uw (T:=X) ⟨rfl,rfl,rfl,by simp,λi _ f=>QH i λe=>f (by rw[e])⟩ c
def P3.Rh(h:P3 w4 d p L w v9 v10 P9 v35 v36 P' PZ p2 P6 P4 P7 P5 X Y)(I:L 1=true)(ax:L 3=true)(aV:L 4=true)(bm:L 5=true):
 P3 w4 d p (bt L 6) (Qt w X (.int .i64 d.kinds) (.slice (some ⟨PZ.gv,PZ.hj,none⟩) d.kinds PZ.eT) (.slice (some ⟨PZ.j9,PZ.lg,none⟩) d.eY PZ.h8) (.slice PZ.hE d.fC PZ.h9)) v9 v10 P9 v35 v36 P' PZ p2 P6 P4 P7 P5 X Y:=by
 obtain⟨i,j,c1,ar,f1⟩:=h.c1 I;obtain⟨a3,PY,c3,q,f3⟩:=h.c3 ax;obtain⟨a4,c,c4,f,f4⟩:=h.c4 aV;obtain⟨a5,l,o,r,f5⟩:=h.fi bm;have g:=h.ne aV bm;refine⟨QG h.g c,by simpa [bt]using h.bu,λ_=>⟨i,QB j (c1.off (f I)),c1,ar,by simpa using f1⟩,by simpa [bt]using h.c2,λ_=>⟨a3,QB PY (c3.off (f4 ax)),c3,q,by simpa using f3⟩,λ_=>⟨a4,c,?_,λ_=>f I,λ_=>f4 ax⟩,λ_=>⟨a5,l,(QH Y (Ne.symm g)).trans (by simpa [bt]using o),λ_=>r I,λ_=>f5 ax⟩,λ_ _=>g⟩;rw[if_pos (show bt L 6 6=true from rfl),(Qm c4).1];split<;>rfl
def P3.Ri(h:P3 w4 d p L w v9 v10 P9 v35 v36 P' PZ p2 P6 P4 P7 P5 X Y)(I:L 1=true)(ax:L 3=true)(aV:L 4=true)(bm:L 5=true):
 P3 w4 d p (bt L 7) (Qt w Y (.int .i64 d.kinds) (.slice (some ⟨p2.gv,p2.hj,none⟩) d.kinds p2.eT) (.slice (some ⟨p2.j9,p2.lg,none⟩) d.eY p2.h8) (.slice p2.hE d.fC p2.h9)) v9 v10 P9 v35 v36 P' PZ p2 P6 P4 P7 P5 X Y:=by
 obtain⟨i,j,c1,ar,f1⟩:=h.c1 I;obtain⟨a3,PY,c3,q,f3⟩:=h.c3 ax;obtain⟨a4,l,c4,r,f4⟩:=h.c4 aV;obtain⟨a5,c,o,f,f5⟩:=h.fi bm;have g:=h.ne aV bm;refine⟨QG h.g c,by simpa [bt]using h.bu,λ_=>⟨i,QB j (c1.off (f I)),c1,ar,by simpa using f1⟩,by simpa [bt]using h.c2,λ_=>⟨a3,QB PY (c3.off (f5 ax)),c3,q,by simpa using f3⟩,λ_=>⟨a4,l,(QH X g).trans (by simpa [bt]using c4),λ_=>r I,λ_=>f4 ax⟩,λ_=>⟨a5,c,?_,λ_=>f I,λ_=>f5 ax⟩,λ_ _=>g⟩;rw[if_pos (show bt L 7 7=true from rfl),(Qm o).1];split<;>rfl
end
end
section
variable{A:Array Func}
def dU.Qh.below{p:dU}{d:cR}{b4 c M:Nat}(h:p.Qh d b4 c)(bw:c<=M):p.below d M:=
 ⟨by have:=h.F;omega,by have:=h.R;omega,λi c=>by have:=h.P i c;omega,λb o ak e=>by have:=h.rL b o ak e;omega⟩
def dU.below.off{p:dU}{d:cR}{b4 X:Nat}(h:p.below d b4)(f:b4<=X):p.off d X:=
 ⟨by have:=h.F;omega,by have:=h.R;omega,λi c=>by have:=h.P i c;omega,λb o ak e=>by have:=h.rL b o ak e;omega⟩
def P3.done{w4 W:World}{d:cR}{p:dU}{L:Nat->Bool}{v9 v10 P9 v35 v36 P':Value}{PZ p2:dU}{P6 P4 P7 P5 X Y B:Nat}(ok:d.ok)(K:P3 w4 d p L W v9 v10 P9 v35 v36 P' PZ p2 P6 P4 P7 P5 X Y)(eP:∀i,i<8->L i=true)(az:fy w4 d p)(u:w4.heap[B]?=some (.cells (cO d p) 27)):
 v9=.pointer (some ⟨X,0,none⟩)/\v10=.pointer (some ⟨Y,0,none⟩)/\W.heap[X]?=some (.cells (cO d PZ) 27)/\W.heap[Y]?=some (.cells (cO d p2) 27)/\X≠Y/\
 Qf W.heap.size d p PZ p2 B X Y [] [] (.slice none 0 0) (.slice none 0 0) ((W.setCell ⟨X,3,none⟩ (.slice none 0 0)).setCell ⟨Y,3,none⟩ (.slice none 0 0)):=by
 obtain⟨R,F,c1,ar,f1⟩:=K.c1 (eP 1 (by omega));obtain⟨a3,PY,c3,S,f3⟩:=K.c3 (eP 3 (by omega));obtain⟨a4,G,c4,M,f4⟩:=K.c4 (eP 4 (by omega));obtain⟨a5,H,f,P,f5⟩:=K.fi (eP 5 (by omega));have g:=K.ne (eP 4 (by omega)) (eP 5 (by omega));rw[if_pos (eP 6 (by omega))]at c4;rw[if_pos (eP 7 (by omega))]at f;have c:=bp c4;have Q:=bp f;have hb:=bp u;have s:=K.g.size;have k:∀i,i≠X->i≠Y->((W.setCell ⟨X,3,none⟩ (.slice none 0 0)).setCell ⟨Y,3,none⟩ (.slice none 0 0)).heap[i]?=W.heap[i]?:=λi I J=>(ft (by show i≠Y;exact J)).trans (ft (by show i≠X;exact I))
 have l:W.grownBy (W.setCell ⟨X,3,none⟩ (.slice none 0 0)) (some X):=⟨rfl,rfl,rfl,by simp,λi _ c=>ft (by show i≠X;exact λe=>c (by rw[e]))⟩
 have o:(W.setCell ⟨X,3,none⟩ (.slice none 0 0)).grownBy ((W.setCell ⟨X,3,none⟩ (.slice none 0 0)).setCell ⟨Y,3,none⟩ (.slice none 0 0)) (some Y):=⟨rfl,rfl,rfl,by simp,λi _ c=>ft (by show i≠Y;exact λe=>c (by rw[e]))⟩
 have j:=az.below ok;have w:=j.off G;have z:=j.off H;have C:=c1.off (M (eP 1 (by omega)));have D:=c1.off (P (eP 1 (by omega)));have rx:=c3.off (f4 (eP 3 (by omega)));have E:=c3.off (f5 (eP 3 (by omega)));have f0:∀{q:dU} {T:Nat},q.off d T->q.off (Qd d []) T:=λh=>⟨h.F,h.R,h.P,λ_ _ ak=>absurd rfl ak⟩
 refine⟨a4,a5,c4,f,g,((az.keep K.g).uw l w).uw o z,(k B (by omega) (by omega)).trans ((K.g.block B hb (by simp)).trans u),((F.uw l C).uw o D).QO,((PY.uw l rx).uw o E).QO,(ft (by show X≠Y;exact g)).trans (cQ c4),cQ ((ft (by show Y≠X;exact Ne.symm g)).trans f),⟨rfl,.inl ⟨rfl,rfl⟩⟩,⟨rfl,.inl ⟨rfl,rfl⟩⟩,λr e=>(by cases e),⟨j.up s,(QQ c1).below f1,(QQ c3).below f3,by omega,c,Q,by omega,by omega,g⟩,⟨w,f0 C,f0 rx⟩,⟨z,f0 D,f0 E⟩,by simp⟩
def Q5{d:cR}(ok:d.ok){k:Nat}(U:k<d.kinds){a b:Nat}(hb:b<120):0<=fP (d.first k) (cC d k) a b/\fP (d.first k) (cC d k) a b<=100:=by
 have I:=ok.first k U
 have J:=Ni (λday=>oD ok U day) (a / 24+1) (b / 24-a / 24);unfold fP;have:b / 24-a / 24<=4:=by omega
 have:((b / 24-a / 24:Nat):Int)<=4:=by omega
 omega
def Q0[S:Std A][P:gg A](bl:∀w,Calls (ag A) 16 #[] w λe w'=>e=.returned (.bool true)/\w=w')(w:World)(M:Value)(h:j4 w M w.heap.size)(eP:M.oneCell'=true):
 Calls (ag A) 4 #[M] w λe _=>e=.returned (.bool true):=by
 have bB:=Pj (O' (A:=A) M w h eP);clear h;go_enter (S.f Tryz.func4),Tryz.ntmps4;go_upto_region 5 with(first
  |(go_at_call 7;refine bB.out.mono ?_;rintro e cB ⟨rfl,az,f⟩;have bF:=Pj az;clear az f)
  |(go_at_call 8;refine(Pe (A:=A) w.heap.size 0 M (by omega) cB bF.out).mono ?_;rintro e w2 ⟨d,p,bP,ok,rfl,bQ,bT,aw,az,f⟩;have aR:=Pj az;have bH:=Pj bQ;clear az f bQ)
  |(go_at_call 9;refine(Pb (A:=A) w.heap.size bP M (by omega) d ok p _ (aR.out.alloc _)).mono ?_;rintro e w3 ⟨k,left,aK,rfl,U,aD,aB,az,f⟩;have t3:fy w3 d p:=((bH.out.keep Pn).uw f bT);have bN:w3.heap[w2.heap.size]?=some (.cells (cO d p) 27):=((f.block _ (by simp) (λe=>by have:=Pm e;have:=aR.out.lt;omega)).trans (gA _ _));have cL:w.heap.size<w2.heap.size:=aR.out.lt;have bG:=Pj az;have bI:=Pj t3;have ax:=Pj bN;clear az f t3 bN)
  |(go_at_call 17;refine(pU (A:=A) w.heap.size (bP+4) M (by omega) 4 (by omega) w3 bG.out).mono ?_;rintro e w4 ⟨day,rfl,cl,az,f⟩;have t4:=bI.out.uw f bT;have bO:w4.heap[w2.heap.size]?=some (.cells (cO d p) 27):=(f.block w2.heap.size (bp ax.out) (λe=>by have:=Pm e;omega)).trans ax.out;have a7:=Pj t4;have aP:=Pj bO;clear az f t4 bO))
 generalize w2.heap.size=B at *;have cJ:day<=4:=by omega
 clear bF aR bH bB bG bI ax cl;have cj:=bp aP.out;have cp:(ag A).follows .mixedOrders=true:=by kernel_rfl
 obtain⟨R,cT⟩:∃R:(Nat->Bool)->Act->World->Prop,R=λL a W=>∃(v9 v10 P9 v35 v36 P':Value) (PZ p2:dU) (P6 P4 P7 P5 X Y:Nat),a={tmps:=#[M,undef,.bool false,.pointer (some ⟨w.heap.size,0,none⟩),.pointer (some ⟨B,0,none⟩),.int .i64 k,.int .i64 left,.int .i64 aK,.int .i64 day,v9,v10,undef,undef,undef,undef,undef,undef,undef,undef,undef,undef,M,.pointer (some ⟨w.heap.size,0,none⟩),.pointer (some ⟨w.heap.size,0,none⟩),.agg (cO d p),.tuple #[.int .i64 k,.int .i64 left,.int .i64 aK],.pointer (some ⟨w.heap.size,0,none⟩),.agg #[.int .i64 d.kinds,.slice (some ⟨p.gv,p.hj,none⟩) d.kinds p.eT,.slice (some ⟨p.j9,p.lg,none⟩) d.eY p.h8,.slice p.hE d.fC p.h9],.tuple #[.int .i64 k,.int .i64 left,.int .i64 aK],.int .i64 k,.int .i64 left,.int .i64 aK,.pointer (some ⟨w.heap.size,0,none⟩),.int .i64 day,P9,v35,v36,P',undef,undef,undef,undef,undef,undef,undef,undef,undef,undef,undef,undef,undef,undef,undef,undef,undef,undef,undef,undef,undef,undef,undef,undef,undef,undef,undef,undef,undef,undef,undef,undef,undef,undef,undef,undef,undef,undef,undef,undef,undef,undef,undef,undef,undef,undef,undef,undef,undef,undef,undef,undef,undef,undef,undef,undef,undef,undef,undef,undef,undef,undef,undef,undef,undef,undef,undef,undef,undef,undef,undef,undef,undef,undef,undef,undef,undef,undef,undef,undef,undef,undef,undef,undef,undef,undef,undef,undef,undef,undef,undef,undef,undef,undef,undef,undef,undef,undef,undef,undef,undef,undef,undef,undef],defers:=[]}/\(L 6=true->L 1=true/\L 4=true)/\(L 7=true->L 3=true/\L 5=true)/\P3 w4 d p L W v9 v10 P9 v35 v36 P' PZ p2 P6 P4 P7 P5 X Y:=⟨_,rfl⟩
 have C:=Pj cT;clear cT;refine wp_region_held (R:=R) cp (by kernel_rfl) ?_ ?_ ?_
 .intro L i o a W av eP aQ aA
  rw[C.out]at aA;obtain⟨v9,v10,P9,v35,v36,P',PZ,p2,P6,P4,P7,P5,X,Y,rfl,aY,aZ,K⟩:=aA;have g:=(K.g.block B cj (by simp)).trans aP.out;have dN:=aT (o:=0) g;have cH:=aT (o:=1) g;have cI:=aT (o:=2) g;have PY:=aT (o:=3) g;have bE:=Pj (a7.out.keep K.g);have u:=Pj K;have Q:=Pj aY;have T:=Pj aZ;clear K aY aZ g;rcases i with _|_|_|_|_|_|_|_|i
  .obtain rfl:_=o:=by simpa using av
   refine wpOp_step rfl (λaf r=>?_);go_simp
   try refine r _ _ ?_
   rw[C.out];exact⟨_,_,_,_,_,_,_,_,_,_,_,_,_,_,rfl,λh=>by have:=Q.out (by simpa [bt]using h);simp[bt,this.1,this.2],λh=>by have:=T.out (by simpa [bt]using h);simp[bt,this.1,this.2],u.out.Ra⟩
  .obtain rfl:_=o:=by simpa using av
   have cA:L 0=true:=aQ {on:=0,ground:=.data} (by simp) rfl;obtain rfl:=u.out.bu cA;have b':L 6=false:=by rcases Bool.eq_false_or_eq_true (L 6)with h|h;exact absurd (Q.out h).1 (by rw[eP];simp);exact h
   refine wpOp_step rfl (λaf r=>?_);go_simp
   go_wp2_with (go_at_call 10;refine(QR (A:=A) d ok p W bE.out).mono ?_;rintro ar cf ⟨q,rfl,cc,bk⟩)
   try refine r _ _ ?_
   rw[C.out];exact⟨_,_,_,_,_,_,_,_,_,_,_,_,_,_,rfl,λh=>by have:=Q.out (by simpa [bt]using h);simp[bt,this.1,this.2],λh=>by have:=T.out (by simpa [bt]using h);simp[bt,this.1,this.2],u.out.Rb ok b' cc bk⟩
  .obtain rfl:_=o:=by simpa using av
   refine wpOp_step rfl (λaf r=>?_);go_simp
   try refine r _ _ ?_
   rw[C.out];exact⟨_,_,_,_,_,_,_,_,_,_,_,_,_,_,rfl,λh=>by have:=Q.out (by simpa [bt]using h);simp[bt,this.1,this.2],λh=>by have:=T.out (by simpa [bt]using h);simp[bt,this.1,this.2],u.out.Rc⟩
  .obtain rfl:_=o:=by simpa using av
   have a0:L 2=true:=aQ {on:=2,ground:=.data} (by simp) rfl;obtain rfl:=u.out.c2 a0;have b7:L 7=false:=by rcases Bool.eq_false_or_eq_true (L 7)with h|h;exact absurd (T.out h).1 (by rw[eP];simp);exact h
   refine wpOp_step rfl (λaf r=>?_);go_simp
   go_wp2_with (go_at_call 10;refine(QR (A:=A) d ok p W bE.out).mono ?_;rintro ar cf ⟨q,rfl,cc,bk⟩)
   try refine r _ _ ?_
   rw[C.out];exact⟨_,_,_,_,_,_,_,_,_,_,_,_,_,_,rfl,λh=>by have:=Q.out (by simpa [bt]using h);simp[bt,this.1,this.2],λh=>by have:=T.out (by simpa [bt]using h);simp[bt,this.1,this.2],u.out.Re ok b7 cc bk⟩
  .obtain rfl:_=o:=by simpa using av
   have b':L 6=false:=by rcases Bool.eq_false_or_eq_true (L 6)with h|h;exact absurd (Q.out h).2 (by rw[eP];simp);exact h
   refine wpOp_step rfl (λaf r=>?_);go_simp
   try refine r _ _ ?_
   rw[C.out];exact⟨_,_,_,_,_,_,_,_,_,_,_,_,_,_,rfl,λh=>by have:=Q.out (by simpa [bt]using h);simp[bt,this.1,this.2],λh=>by have:=T.out (by simpa [bt]using h);simp[bt,this.1,this.2],u.out.Rf b'⟩
  .obtain rfl:_=o:=by simpa using av
   have b7:L 7=false:=by rcases Bool.eq_false_or_eq_true (L 7)with h|h;exact absurd (T.out h).2 (by rw[eP];simp);exact h
   refine wpOp_step rfl (λaf r=>?_);go_simp
   try refine r _ _ ?_
   rw[C.out];exact⟨_,_,_,_,_,_,_,_,_,_,_,_,_,_,rfl,λh=>by have:=Q.out (by simpa [bt]using h);simp[bt,this.1,this.2],λh=>by have:=T.out (by simpa [bt]using h);simp[bt,this.1,this.2],u.out.Rg b7⟩
  .obtain rfl:_=o:=by simpa using av
   have q1:L 1=true:=aQ {on:=1,ground:=.data} (by simp) rfl;have aH:L 3=true:=aQ {on:=3,ground:=.chain} (by simp) rfl;have aI:L 4=true:=aQ {on:=4,ground:=.data} (by simp) rfl;have aL:L 5=true:=aQ {on:=5,ground:=.phase} (by simp) rfl;obtain⟨l,_,gK,_,_⟩:=u.out.c4 aI;obtain⟨bj,_⟩:=u.out.c1 q1;rw[eP,if_neg (by simp)]at gK;have z0:=aT (o:=0) gK;have f0:=b1 (o:=0) gK;have cF:=aT (o:=1) gK;have f1:=b1 (o:=1) gK;have cG:=aT (o:=2) gK;have f2:=b1 (o:=2) gK;have z3:=aT (o:=3) gK;have f3:=b1 (o:=3) gK;subst l bj;refine wpOp_step rfl (λaf r=>?_);go_simp
   try refine r _ _ ?_
   rw[C.out];exact⟨_,_,_,_,_,_,_,_,_,_,_,_,_,_,rfl,λ_=>⟨q1,aI⟩,λh=>by have:=T.out (by simpa [bt]using h);simp[bt,this.1,this.2],u.out.Rh q1 aH aI aL⟩
  .obtain rfl:_=o:=by simpa using av
   have q1:L 1=true:=aQ {on:=1,ground:=.phase} (by simp) rfl;have aH:L 3=true:=aQ {on:=3,ground:=.data} (by simp) rfl;have aI:L 4=true:=aQ {on:=4,ground:=.phase} (by simp) rfl;have aL:L 5=true:=aQ {on:=5,ground:=.data} (by simp) rfl;obtain⟨l,_,gK,_,_⟩:=u.out.fi aL;obtain⟨bj,_⟩:=u.out.c3 aH;rw[eP,if_neg (by simp)]at gK;have z0:=aT (o:=0) gK;have f0:=b1 (o:=0) gK;have cF:=aT (o:=1) gK;have f1:=b1 (o:=1) gK;have cG:=aT (o:=2) gK;have f2:=b1 (o:=2) gK;have z3:=aT (o:=3) gK;have f3:=b1 (o:=3) gK;subst l bj;refine wpOp_step rfl (λaf r=>?_);go_simp
   try refine r _ _ ?_
   rw[C.out];exact⟨_,_,_,_,_,_,_,_,_,_,_,_,_,_,rfl,λh=>by have:=Q.out (by simpa [bt]using h);simp[bt,this.1,this.2],λ_=>⟨aH,aL⟩,u.out.Ri q1 aH aI aL⟩
  .simp at av
 .intro L a W ck aA
  rw[C.out]at aA;obtain⟨v9,v10,P9,v35,v36,P',PZ,p2,P6,P4,P7,P5,X,Y,rfl,aY,aZ,K⟩:=aA;obtain⟨l,ci,bh,bi,bR,br⟩:=K.done ok (λi aV=>ck i (by simpa using aV)) a7.out aP.out;subst l ci;have c:=Pj br;clear C K aY aZ br a7 aP;have bu:=aT (o:=3) bh;have f0:=b1 (o:=3) bh;have ch:∀v,(W.setCell ⟨X,3,none⟩ v).cell? ⟨Y,3,none⟩=some (.slice p2.hE d.fC p2.h9):=λv=>((E9 _ (Ne.symm bR)).trans (aT (o:=3) bi)).trans rfl
  have f1:∀v,(W.setCell ⟨X,3,none⟩ v).frozen? ⟨Y,3,none⟩=false:=λv=>b1 (o:=3) ((ft (by show Y≠X;exact Ne.symm bR)).trans bi)
  go_wp2;clear bu f0 ch f1 bh bi;go_loopw [11] (λi wr=>∃(m:Nat) (xs ys:List Int) (am a1:Value),m<=5/\i=.int .i64 m/\xs=P2 (Qi d day) m/\ys=P2 Qy m/\Qf W.heap.size d p PZ p2 B X Y xs ys am a1 wr) (λi _=>5-(vy i).toNat)
  case atStart=>exact⟨0,[],[],_,_,by omega,by go_num,rfl,rfl,c.out⟩
  case round=>
   clear c;obtain⟨m,xs,ys,am,a1,hm,rfl,ah,ai,br⟩:=hrel;have cq:xs.length<=5:=by rw[ah];have:=QC (Qi d day) m;omega
   have cr:ys.length<=5:=by rw[ai];have:=QC Qy m;omega
   by_cases aO:m<5
   .have aW:decide ((m:Int)<5)=true:=by rw[decide_eq_true_iff];omega
    have aX:decide (m<5)=true:=by simpa using aO
    obtain⟨bq,aV,bV,bW,bX⟩:=xj (A:=A);have a6:=Pj aV;have ba:=Pj bV;have bb:=Pj bW;have bc:=Pj bX;have cE:=(aT (o:=3) br.Ql).trans rfl;have c:=Pj br;have a8:=Pj ah;have bM:=Pj ai;clear br aV bV bW bX ah ai;go_upto_region 11 with(at_builtin;(refine wpList_append_own_at _ rfl _ _ 22 rfl W.heap.size 3 bq (.int .i64 0) 1 8 (ag.underlying22 A) a6.out ba.out bb.out bc.out rfl (by decide) a1 ys.length (ys.map encZ) rfl (kq c.out.Qp (λi I J=>Pq J)) ⟨wr.heap.size,0,none⟩ 1 1 [.int .i64 m] rfl rfl (World.news_of_block (cs:=#[.int .i64 m]) (t:=3) (fr:=(0,0)) (gA wr _)) (by simp[Value.oneCell']) (by unfold maxLen;omega) (by omega) (by have:=c.out.dm;simp;omega) ?_;intro bY bv H G aF aJ;obtain⟨E,cap,rfl,bS,aw⟩:=BS H (by omega);have l:=(G.block Y (by have:=bp c.out.Ql;simp;omega) (λe=>by have:=(xX c.out.Qp _ e.symm).1;have:=c.out.b4.2.2.2.2.2.1;omega)).trans ((Pq (bp c.out.Ql)).trans c.out.Ql);have aM:=aT (o:=3) l;have aN:=b1 (o:=3) l;have Z:=Pj H;have F:=Pj G;have V:=Pj aJ;clear H G aJ aF l aw))
    have ad:=F.out.size;simp only[Pp]at ad;have aa:a1.ownBlock=some E\/wr.heap.size<=E:=by
     rcases V.out with h|h
     .exact .inl h.symm
     .have h:some E=some (wr.alloc _).heap.size:=h
      have:=Pm h;simp at this;exact .inr (by omega)
    have ap:=c.out.Rk (z:=(m:Int)) (by omega) (λi I J=>(F.out.block i (by simp;omega) (λe=>J e.symm)).trans (Pq I)) aa Z.out;clear aa ad V Z F c aM aN cE;generalize World.setCell bv _ _=D at ap ⊢;have bU:ys++[(m:Int)]=P2 Qy (m+1):=by rw[bM.out];exact(if_pos rfl).symm
    generalize Value.slice (some ⟨E,0,none⟩) (ys.length+1) cap=cN at ap;have a9:=Pj bU;have PY:D.cell? ⟨B,3,none⟩=some (.slice p.hE d.fC p.h9):=(aT (o:=3) ap.mn).trans rfl;have cU:D.cell? ⟨X,3,none⟩=some am:=(aT (o:=3) ap.Qg).trans rfl;have c:=Pj ap;clear ap bU bM aW aX;by_cases aE:m=day
    .have aW:((m:Int) == (day:Int))=true:=by rw[beq_iff_eq];omega
     have aX:(m == day)=true:=by simpa using aE
     have aG:xs++[(m:Int)]=P2 (Qi d day) (m+1):=by rw[a8.out];exact(if_pos (by simp[Qi,aE])).symm
     clear aE;go_upto_region 9 with(at_builtin;(refine wpList_append_own_at _ rfl _ _ 22 rfl W.heap.size 3 bq (.int .i64 0) 1 8 (ag.underlying22 A) a6.out ba.out bb.out bc.out rfl (by decide) am xs.length (xs.map encZ) rfl (kq c.out.Qo (λi I J=>Pq J)) ⟨D.heap.size,0,none⟩ 1 1 [.int .i64 m] rfl rfl (World.news_of_block (cs:=#[.int .i64 m]) (t:=3) (fr:=(0,0)) (gA D _)) (by simp[Value.oneCell']) (by unfold maxLen;omega) (by omega) (by have:=c.out.dm;simp;omega) ?_;intro bY bv H G aF aJ;obtain⟨E,cap,rfl,bS,aw⟩:=BS H (by omega);have l:=(G.block X (by have:=bp c.out.Qg;simp;omega) (λe=>by have:=(xX c.out.Qo _ e.symm).1;have:=c.out.b4.2.2.2.2.1;omega)).trans ((Pq (bp c.out.Qg)).trans c.out.Qg);have aM:=aT (o:=3) l;have aN:=b1 (o:=3) l;have Z:=Pj H;have F:=Pj G;have V:=Pj aJ;clear H G aJ aF l aw))
     have ad:=F.out.size;simp only[Pp]at ad;have aa:am.ownBlock=some E\/D.heap.size<=E:=by
      rcases V.out with h|h
      .exact .inl h.symm
      .have h:some E=some (D.alloc _).heap.size:=h
       have:=Pm h;simp at this;exact .inr (by omega)
     have ay:=c.out.QI (z:=(m:Int)) (by omega) (λi I J=>(F.out.block i (by simp;omega) (λe=>J e.symm)).trans (Pq I)) aa Z.out;have a2:=Pj ay;clear aa ad V Z F c aM aN ay;go_wp2;exact⟨⟨m+1,_,_,_,_,by omega,by push_cast;rfl,aG,a9.out,a2.out⟩,by show 5-((m:Int)+1).toNat<5-(m:Int).toNat;omega⟩
    .have aW:((m:Int) == (day:Int))=false:=by rw[beq_eq_false_iff_ne];omega
     have aX:(m == day)=false:=by simpa using aE
     by_cases eu:Qq d m=true
     .have aG:xs++[(m:Int)]=P2 (Qi d day) (m+1):=by rw[a8.out];exact(if_pos (by simp[Qi,eu])).symm
      go_upto_region 9 with(first|(go_at_call 18;refine(QM (A:=A) p.hE d.fC p.h9 (by have:=ok.fC;omega) d.free D c.out.src.free (m:Int)).mono ?_;rintro e cD ⟨⟨j,rfl,aC⟩,rfl⟩;have bs:decide (j>=0)=true:=(by simpa using aC.2 (Qz.1 eu));have ct:decide (0<=j)=true:=bs;clear aC)|(at_builtin;(refine wpList_append_own_at _ rfl _ _ 22 rfl W.heap.size 3 bq (.int .i64 0) 1 8 (ag.underlying22 A) a6.out ba.out bb.out bc.out rfl (by decide) am xs.length (xs.map encZ) rfl (kq c.out.Qo (λi I J=>Pq J)) ⟨D.heap.size,0,none⟩ 1 1 [.int .i64 m] rfl rfl (World.news_of_block (cs:=#[.int .i64 m]) (t:=3) (fr:=(0,0)) (gA D _)) (by simp[Value.oneCell']) (by unfold maxLen;omega) (by omega) (by have:=c.out.dm;simp;omega) ?_;intro bY bv H G aF aJ;obtain⟨E,cap,rfl,bS,aw⟩:=BS H (by omega);have l:=(G.block X (by have:=bp c.out.Qg;simp;omega) (λe=>by have:=(xX c.out.Qo _ e.symm).1;have:=c.out.b4.2.2.2.2.1;omega)).trans ((Pq (bp c.out.Qg)).trans c.out.Qg);have aM:=aT (o:=3) l;have aN:=b1 (o:=3) l;have Z:=Pj H;have F:=Pj G;have V:=Pj aJ;clear H G aJ aF l aw)))
      have ad:=F.out.size;simp only[Pp]at ad;have aa:am.ownBlock=some E\/D.heap.size<=E:=by
       rcases V.out with h|h
       .exact .inl h.symm
       .have h:some E=some (D.alloc _).heap.size:=h
        have:=Pm h;simp at this;exact .inr (by omega)
      have ay:=c.out.QI (z:=(m:Int)) (by omega) (λi I J=>(F.out.block i (by simp;omega) (λe=>J e.symm)).trans (Pq I)) aa Z.out;have a2:=Pj ay;clear aa ad V Z F c aM aN ay;go_wp2;exact⟨⟨m+1,_,_,_,_,by omega,by push_cast;rfl,aG,a9.out,a2.out⟩,by show 5-((m:Int)+1).toNat<5-(m:Int).toNat;omega⟩
     .have aG:xs=P2 (Qi d day) (m+1):=by rw[a8.out];exact(if_neg (by simp[Qi,aE,eu])).symm
      go_wp2_with (go_at_call 18;refine(QM (A:=A) p.hE d.fC p.h9 (by have:=ok.fC;omega) d.free D c.out.src.free (m:Int)).mono ?_;rintro e cD ⟨⟨j,rfl,aC⟩,rfl⟩;have bs:decide (j>=0)=false:=(by have:¬0<=j:=(λx=>eu (Qz.2 (aC.1 x)));simp;omega);have ct:decide (0<=j)=false:=bs;clear aC)
      exact⟨⟨m+1,xs,_,_,_,by omega,by push_cast;rfl,aG,a9.out,c.out⟩,by show 5-((m:Int)+1).toNat<5-(m:Int).toNat;omega⟩
   .have co:m=5:=by omega
    have aW:decide ((m:Int)<5)=false:=by rw[decide_eq_false_iff_not];omega
    have aX:decide (m<5)=false:=by simpa using aO
    rw[co]at ah ai;obtain⟨cy,cu,rfl,bd⟩:=QX br.Qw br.Qo;obtain⟨cz,cv,rfl,bf⟩:=QX br.qC br.Qp;obtain⟨q1,bn⟩:∃q:dU,q={PZ with hE:=cy,h9:=cu}:=⟨_,rfl⟩
    obtain⟨a0,bo⟩:∃q:dU,q={p2 with hE:=cz,h9:=cv}:=⟨_,rfl⟩
    obtain⟨d1,aq⟩:∃d1,d1=Qd d xs:=⟨_,rfl⟩
    obtain⟨d2,au⟩:∃d2,d2=Qd d ys:=⟨_,rfl⟩
    have eN:wr.heap[X]?=some (.cells (cO d1 q1) 27):=by rw[bn,aq];exact br.Qg
    have eO:wr.heap[Y]?=some (.cells (cO d2 a0) 27):=by rw[bo,au];exact br.Ql
    have g:=br.mn;have src:=br.src;rw[<-bn,<-aq]at bd;rw[<-bo,<-au]at bf;have cw:d1.ok:=by rw[aq,ah];exact QP ok _
    have cx:d2.ok:=by rw[au,ai];exact QP ok _
    have cm:k<d1.kinds:=by rw[aq];exact U
    have cn:k<d2.kinds:=by rw[au];exact U
    have b0:=Pj (show fP (d1.first k) (cC d1 k) left aK=fP (d.first k) (cC d k) left aK-(if left / 24<day/\day<=aK / 24 then cC d k day else 0) by rw[aq,ah];exact Q8 d (k:=k) (day:=day) aD aB);have b3:=Pj (show fP (d2.first k) (cC d2 k) left aK=d.first k by rw[au,ai];exact Q7 d (k:=k) aD aB);have bw:=Pj g;have bJ:=Pj eN;have bK:=Pj eO;have bC:=Pj src;have b5:=Pj bd;have b8:=Pj bf;have gw:=Q5 ok U (a:=left) (b:=aK) aB;have bz:=oD ok U day;have aj:=aT (o:=0) g;have ae:=aT (o:=1) g;have ak:=aT (o:=2) g;have al:=aT (o:=3) g;clear br ah ai cq cr bn bo aq au eN eO g src bd bf;go_upto_region 14 with(go_at_call 12;refine(Hl (A:=A) d ok p k U left aK aD (by omega) _ bC.out).mono ?_;rintro ar cS ⟨rfl,f⟩;have g:=(f.block B (bp bw.out) (by simp)).trans bw.out;have eN:=(f.block X (bp bJ.out) (by simp)).trans bJ.out;have eO:=(f.block Y (bp bK.out) (by simp)).trans bK.out;have bx:=Pj g;have aS:=Pj eN;have bL:=Pj eO;have ca:=Pj (bC.out.keep f);have b6:=Pj (b5.out.keep f);have b9:=Pj (b8.out.keep f);clear f g eN eO)
    clear aj ae ak al;have aj:=aT (o:=0) aS.out;have ae:=aT (o:=1) aS.out;have ak:=aT (o:=2) aS.out;have al:=aT (o:=3) aS.out;go_upto_region 15 with(go_at_call 12;refine(Hl (A:=A) d1 cw q1 k cm left aK aD (by omega) _ b6.out).mono ?_;rintro ar cP ⟨rfl,f⟩;rw[b0.out];have g:=(f.block B (bp bx.out) (by simp)).trans bx.out;have eO:=(f.block Y (bp bL.out) (by simp)).trans bL.out;have bA:=Pj g;have aU:=Pj eO;have cb:=Pj (ca.out.keep f);have ax:=Pj (b9.out.keep f);clear f g eO)
    clear aj ae ak al;have aj:=aT (o:=0) aU.out;have ae:=aT (o:=1) aU.out;have ak:=aT (o:=2) aU.out;have al:=aT (o:=3) aU.out;go_upto_region 16 with(go_at_call 12;refine(Hl (A:=A) d2 cx a0 k cn left aK aD (by omega) _ ax.out).mono ?_;rintro ar cQ ⟨rfl,f⟩;rw[b3.out];have g:=(f.block B (bp bA.out) (by simp)).trans bA.out;have ao:=Pj g;have bD:=Pj (cb.out.keep f);clear f g)
    clear aj ae ak al;have aj:=aT (o:=0) ao.out;have ae:=aT (o:=1) ao.out;have ak:=aT (o:=2) ao.out;have al:=aT (o:=3) ao.out;go_upto_region 17 with(go_at_call 19;refine(Rl (A:=A) d ok p k U day (by omega) _ bD.out).mono ?_;rintro ar cR ⟨rfl,f⟩;have g:=(f.block B (bp ao.out) (by simp)).trans ao.out;have b4:=Pj g;have ce:=Pj (bD.out.keep f);clear f g)
    clear aj ae ak al;have ae:=(aT (o:=1) b4.out).trans rfl;have b2:=ce.out.first k U
    have cK:=ok.kinds;have i1:(k:Int)<d.kinds:=by omega
    have i2:(0:Int)<=k:=by omega
    by_cases gS:left / 24<day
    .have bg:decide ((day:Int)>((left / 24:Nat):Int))=true:=by rw[decide_eq_true_iff];omega
     have cg:decide (((left / 24:Nat):Int)<(day:Int))=true:=bg;have a3:decide (left / 24<day)=true:=by simpa using gS
     by_cases bm:day<=aK / 24
     .have a4:decide ((day:Int)<=((aK / 24:Nat):Int))=true:=by rw[decide_eq_true_iff];omega
      have a5:decide (day<=aK / 24)=true:=by simpa using bm
      have hF:(if left / 24<day/\day<=aK / 24 then cC d k day else 0)=cC d k day:=if_pos ⟨gS,bm⟩;rw[hF];have cM:IntKind.i64.wrap (fP (d.first k) (cC d k) left aK-cC d k day)=fP (d.first k) (cC d k) left aK-cC d k day:=IntWalk.i64_in _ (by omega);clear hF;go_wp2_with (go_at_call 16;refine(bl _).mono ?_;rintro ar bZ ⟨rfl,rfl⟩)
      go_ret;rfl
     .have a4:decide ((day:Int)<=((aK / 24:Nat):Int))=false:=by rw[decide_eq_false_iff_not];omega
      have a5:decide (day<=aK / 24)=false:=by rw[decide_eq_false_iff_not];omega
      have hF:(if left / 24<day/\day<=aK / 24 then cC d k day else 0)=0:=if_neg (λh=>bm h.2);rw[hF,Int.sub_zero];clear hF;go_wp2_with (go_at_call 16;refine(bl _).mono ?_;rintro ar bZ ⟨rfl,rfl⟩)
      go_ret;rfl
    .have bg:decide ((day:Int)>((left / 24:Nat):Int))=false:=by rw[decide_eq_false_iff_not];omega
     have cg:decide (((left / 24:Nat):Int)<(day:Int))=false:=bg;have a3:decide (left / 24<day)=false:=by rw[decide_eq_false_iff_not];omega
     have hF:(if left / 24<day/\day<=aK / 24 then cC d k day else 0)=0:=if_neg (λh=>gS h.1);rw[hF,Int.sub_zero];clear hF;go_wp2_with (go_at_call 16;refine(bl _).mono ?_;rintro ar bZ ⟨rfl,rfl⟩)
     go_ret;rfl
 .rw[C.out]
  exact⟨_,_,_,_,_,_,p,p,0,0,0,0,0,0,rfl,(λh=>by cases h),(λh=>by cases h),⟨fQ (Pw _ _),(λh=>by cases h),(λh=>by cases h),(λh=>by cases h),(λh=>by cases h),(λh=>by cases h),(λh=>by cases h),(λh=>by cases h)⟩⟩
end
end Go.aN
