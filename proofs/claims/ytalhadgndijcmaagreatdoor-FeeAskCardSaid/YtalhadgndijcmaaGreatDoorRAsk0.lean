/- A part of FeeAsk: no conditions. -/
import Derived.Test.YtalhadgndijcmaaGreatDoorP41
set_option maxHeartbeats 8000000
set_option maxRecDepth 100000
set_option linter.all false
namespace Go.aN
open Go.Proofs Go.RowKit
section
variable{F:Array Func}[S:Std F]
@[simp] theorem ag.call31:dg F 31:=dS Tryz.func31
@[simp] theorem ag.call32:dg F 32:=dS Tryz.func32
@[simp] theorem ag.call33:dg F 33:=dS Tryz.func33
@[simp] theorem ag.call34:dg F 34:=dS Tryz.func34
end
section
variable(F:Array Func)
@[simp] theorem ag.underlying54:(ag F).underlying 54=some (TypeDesc.struct #[⟨ "Kind",3,0,false, "", "",0⟩,⟨ "Left",52,1,false, "", "",8⟩,⟨ "Fetched",52,3,false, "", "",24⟩]):=by kernel_rfl
end
end Go.aN
namespace Go.aN
open Go.Proofs Go.RowKit Go.Maps Go.Shelf
section
variable{A:Array Func}
def QD:((ag A).info? 54).map (·.size)=some 5:=by kernel_rfl
def Qg[S:Std A](a b:Int)(w:World):Calls (ag A) 33 #[.int .i64 a,.int .i64 b] w λe w'=>e=.returned (.agg #[.int .i64 a,.int .i64 b])/\w.grownBy w' none:=by go_enter (S.f Tryz.func33),Tryz.ntmps33;go_wp2;refine bodyPost_ret (results_cell_row rfl _ _ w.heap.size 52 #[.int .i64 a,.int .i64 b] (0,0) _ rfl (gA _ _) (ag.underlying52 A) rfl va) rfl ?_;exact⟨rfl,Pn⟩
end
end Go.aN
namespace Go.aN
open Go.Proofs Go.RowKit
section
variable{A:Array Func}
def iD.Qa{w w':World}{b o n:Nat}{f:Nat->Int}(h:iD w b o n f)(k:w'.heap[b]?=w.heap[b]?):iD w' b o n f:=λj aC=>(World.cell?_of_block k).trans (h j aC)
def fy.Qa{w w':World}{d:cR}{p:dU}{B:Nat}(h:fy w d p)(hb:p.below d B)(k:∀i,i<B->w'.heap[i]?=w.heap[i]?):fy w' d p where
 first:=h.first.Qa (k _ hb.F)
 dz i aj:=(World.cell?_of_block (k _ hb.R)).trans (h.dz i aj)
 rows i aj:=(World.cell?_of_block (k _ hb.R)).trans (h.rows i aj)
 fD i aj:=(h.fD i aj).Qa (k _ (hb.P i aj))
 free ak:=by obtain⟨b,o,e,n⟩:=h.free ak;exact⟨b,o,e,n.Qa (k _ (hb.rL b o ak e))⟩
end
def Qj{H:Type}(x:Lit×DataW H):∀l:List (Lit×DataW H),(DataW.insert x l).length=l.length+1
 | []=>rfl
 |y::l=>by
  unfold DataW.insert;split
  .rfl
  .simp[Qj x l]
def QB(D:Ea)(k:Lit)(v:Ea):(intKeys (D.put k v)).length<=(intKeys D).length+1:=by
 cases D<;>simp[DataW.put,intKeys,Qj]
 exact List.length_filter_le _ _
def Qx(f:Int)(t:Nat->Int)(l:List e1):∀D:Ea,(intKeys (l.foldl (λD x=>D.put (.int .i64 (jI f t x)) (.lit (.bool true))) D)).length<=(intKeys D).length+l.length:=by
 induction l with
 |nil=>intro D;simp
 |cons x l c=>
  intro D;rw[List.foldl_cons];have I:=c (D.put (.int .i64 (jI f t x)) (.lit (.bool true)));have J:=QB D (.int .i64 (jI f t x)) (.lit (.bool true));simp only[List.length_cons];omega
def Qd{d:cR}{s:gP}(af:s.ok d):(oC d s).length<=14400:=by have I:=zI s.lm s.fm s.bN af.hF (s.bV-s.lm+1);have J:=Qx (d.first s.k) (cC d s.k) (gy s.lm s.fm s.bN (s.bV-s.lm+1)) (.map []);have ax:=af.bw;have aV:(intKeys (.map []:Ea)).length=0:=rfl;exact Po J (by omega)
end Go.aN
namespace Go.aN
open Go.Proofs Go.RowKit Go.Maps Go.Shelf
def Qi{H:Type}(x:Lit×DataW H):∀l:List (Lit×DataW H),(DataW.insert x l).Perm (x::l)
 | []=>.refl _
 |y::l=>by
  unfold DataW.insert;split
  .exact .refl _
  .exact((Qi x l).cons y).trans (.swap x y l)
structure P9{H:Type}(es:List (Lit×DataW H))(s:Int->Prop):Prop where
 keys:∀p∈es,∃x,p.1=.int .i64 x
 bJ:(es.map λp=>intOf p.1).Nodup
 mem:∀v,v∈(es.map λp=>intOf p.1)↔s v
def P9.put{H:Type}{es:List (Lit×DataW H)}{s:Int->Prop}(h:P9 es s)(v:Int)(d:DataW H):P9 (DataW.insert (.int .i64 v,d) (es.filter λp=>!p.1.sameKey (.int .i64 v))) λy=>y=v\/s y:=by
 have aQ:=Qi ((.int .i64 v,d):Lit×DataW H) (es.filter λp=>!p.1.sameKey (.int .i64 v));have af:∀p∈es,(p.1.sameKey (.int .i64 v)=true↔intOf p.1=v):=by intro p aQ;obtain⟨x,f⟩:=h.keys p aQ;rw[f];simp[Lit.sameKey,intOf]
 have hm:=aQ.map λp=>intOf p.1
 rw[List.map_cons]at hm;have ew:∀y,y∈((es.filter λp=>!p.1.sameKey (.int .i64 v)).map λp=>intOf p.1)↔(s y/\y≠v):=by
  intro y;rw[List.mem_map,<-h.mem y,List.mem_map];constructor
  .rintro⟨p,aQ,rfl⟩
   obtain⟨I,J⟩:=List.mem_filter.1 aQ;refine⟨⟨p,I,rfl⟩,λe=>?_⟩;rw[(af p I).2 e]at J;cases J
  .rintro⟨⟨p,aQ,rfl⟩,c⟩
   refine⟨p,List.mem_filter.2 ⟨aQ,?_⟩,rfl⟩;cases al:p.1.sameKey (.int .i64 v)
   .rfl
   .exact absurd ((af p aQ).1 al) c
 refine⟨?_,?_,?_⟩
 .intro p I
  rcases List.mem_cons.1 (aQ.mem_iff.1 I)with rfl|I
  .exact⟨v,rfl⟩
  .exact h.keys p (List.mem_filter.1 I).1
 .refine hm.nodup_iff.2 (List.nodup_cons.2 ⟨λal=>((ew v).1 al).2 rfl,?_⟩)
  exact h.bJ.sublist ((List.filter_sublist).map _)
 .intro y
  rw[hm.mem_iff,List.mem_cons,ew];show y=v\/(s y/\y≠v)↔y=v\/s y;constructor
  .rintro(h|⟨h,_⟩)
   .exact .inl h
   .exact .inr h
  .rintro(h|h)
   .exact .inl h
   .by_cases e:y=v
    .exact .inl e
    .exact .inr ⟨h,e⟩
def Qw(f:Int)(t:Nat->Int)(pre:List e1):(intKeys (lf f t pre)).Nodup/\∀v,v∈intKeys (lf f t pre)↔∃x,x∈pre/\jI f t x=v:=by
 suffices H:∀(pre:List e1) (es:List (Lit×DataW Unit)) (s:Int->Prop),P9 es s->∃e3,pre.foldl (λ(D:Ea) x=>D.put (.int .i64 (jI f t x)) (.lit (.bool true))) (.map es)=.map e3/\P9 e3 λv=>s v\/∃x,x∈pre/\jI f t x=v by obtain⟨e3,I,J⟩:=H pre [] (λ_=>False) ⟨λp aQ=>absurd aQ (by simp),by simp,by simp⟩;unfold lf;rw[I];exact⟨J.bJ,λv=>(J.mem v).trans (by simp)⟩
 intro pre;induction pre with
 |nil=>intro es s h;exact⟨es,rfl,h.keys,h.bJ,λv=>by rw[h.mem v];simp⟩
 |cons x pre c=>
  intro es s h;obtain⟨e3,I,J⟩:=c _ _ (h.put (jI f t x) (.lit (.bool true)));refine⟨e3,I,J.keys,J.bJ,λv=>(J.mem v).trans ?_⟩;constructor
  .rintro((rfl|h)|⟨y,hy,rfl⟩)
   .exact .inr ⟨x,by simp,rfl⟩
   .exact .inl h
   .exact .inr ⟨y,by simp[hy],rfl⟩
  .rintro(h|⟨y,hy,rfl⟩)
   .exact .inl (.inr h)
   .rcases List.mem_cons.1 hy with rfl|hy
    .exact .inl (.inl rfl)
    .exact .inr ⟨y,hy,rfl⟩
structure P5(q:Bool)(f:Int)(t:Nat->Int)(pre:List e1)(D:tc):Prop where
 bJ:D.seen.Nodup
 mem:∀p,p∈D.seen↔∃x,x∈pre/\((e5 q x:Int),jI f t x)=p
 le:∀x,x∈pre->((hg (e5 q x) D.seen:Nat):Int)<=D.most
 top:D.most=0\/∃x,x∈pre/\D.most=(hg (e5 q x) D.seen:Nat)
 pos:0<=D.most
def Qb(h:Int)(a b:Int)(s:List (Int×Int)):hg h ((a,b)::s)=hg h s+(if a=h then 1 else 0):=by unfold hg;rw[List.countP_cons];by_cases e:a=h<;>simp[e]
def P5.step{q:Bool}{f:Int}{t:Nat->Int}{pre:List e1}{D:tc}(H:P5 q f t pre D)(x:e1):P5 q f t (pre++[x]) (kY q f t D x):=by
 unfold kY;by_cases al:((e5 q x:Int),jI f t x)∈D.seen
 .rw[if_pos al]
  obtain⟨c5,g,e⟩:=(H.mem _).1 al;have c:(e5 q c5:Int)=e5 q x:=congrArg Prod.fst e;refine⟨H.bJ,λp=>?_,λy hy=>?_,?_,H.pos⟩
  .rw[H.mem p]
   constructor
   .rintro⟨y,hy,e⟩;exact⟨y,by simp[hy],e⟩
   .rintro⟨y,hy,d⟩
    rcases List.mem_append.1 hy with hy|hy
    .exact⟨y,hy,d⟩
    .obtain rfl:y=x:=by simpa using hy
     exact⟨c5,g,e.trans d⟩
  .rcases List.mem_append.1 hy with hy|hy
   .exact H.le y hy
   .obtain rfl:y=x:=by simpa using hy
    rw[<-c];exact H.le c5 g
  .rcases H.top with h|⟨y,hy,e⟩
   .exact .inl h
   .exact .inr ⟨y,by simp[hy],e⟩
 .rw[if_neg al]
  refine⟨List.nodup_cons.2 ⟨al,H.bJ⟩,λp=>?_,λy hy=>?_,?_,?_⟩
  .rw[List.mem_cons,H.mem p]
   constructor
   .rintro(rfl|⟨y,hy,e⟩)
    .exact⟨x,by simp,rfl⟩
    .exact⟨y,by simp[hy],e⟩
   .rintro⟨y,hy,e⟩
    rcases List.mem_append.1 hy with hy|hy
    .exact .inr ⟨y,hy,e⟩
    .obtain rfl:y=x:=by simpa using hy
     exact .inl e.symm
  .show((hg (e5 q y) ((_,_)::D.seen):Nat):Int)<=max D.most _
   rw[Qb];by_cases e:(e5 q x:Int)=e5 q y
   .rw[if_pos e,e]
    exact Int.le_max_right _ _
   .rw[if_neg e]
    rcases List.mem_append.1 hy with hy|hy
    .have:=H.le y hy
     have:=Int.le_max_left D.most ((hg (e5 q x) D.seen+1:Nat):Int);omega
    .exact absurd (by rw[show y=x by simpa using hy]) e
  .refine .inr ?_
   show ∃y,y∈pre++[x]/\max D.most ((hg (e5 q x) D.seen+1:Nat):Int)=(hg (e5 q y) ((_,_)::D.seen):Nat)
   by_cases hm:D.most<=((hg (e5 q x) D.seen+1:Nat):Int)
   .refine⟨x,by simp,?_⟩
    rw[Int.max_eq_right hm,Qb,if_pos rfl]
   .rw[Int.max_eq_left (by omega)]
    rcases H.top with h|⟨y,hy,e⟩
    .omega
    .refine⟨y,by simp[hy],?_⟩
     rw[Qb,e];by_cases c:(e5 q x:Int)=e5 q y
     .rw[c]at hm
      omega
     .rw[if_neg c]
      rfl
  .have:=H.pos
   exact Int.le_trans this (Int.le_max_left _ _)
def Ql(q:Bool)(f:Int)(t:Nat->Int)(pre:List e1):P5 q f t pre (eC q f t pre):=by
 suffices H:∀(pre c:List e1) (D:tc),P5 q f t c D->P5 q f t (c++pre) (pre.foldl (kY q f t) D)from
  H pre [] ⟨[],0⟩ ⟨by simp,by simp,by simp,.inl rfl,Int.le_refl _⟩
 intro pre;induction pre with
 |nil=>intro c D h;simpa using h
 |cons x pre d=>intro c D h;have:=d _ _ (h.step x);rwa [List.append_assoc]at this
def Qu{h:Int}:∀{s:List (Int×Int)},s.Nodup->((s.filter λa=>a.1 == h).map λa=>a.2).Nodup:=by
 intro s af;refine List.pairwise_map.2 ((af.sublist List.filter_sublist).imp_of_mem λ{p q} aQ d c e=>c ?_);have I:p.1=h:=by simpa using(List.mem_filter.1 aQ).2
 have J:q.1=h:=by simpa using(List.mem_filter.1 d).2
 exact Prod.ext (I.trans J.symm) e
def Qh{q:Bool}{f:Int}{t:Nat->Int}{pre c:List e1}{D:tc}(H:P5 q f t pre D)(h:Nat)(g:∀x,x∈c↔(x∈pre/\e5 q x=h)):hg h D.seen=(intKeys (lf f t c)).length:=by
 obtain⟨i,e6⟩:=Qw f t c;have aQ:((D.seen.filter λa=>a.1 == (h:Int)).map λa=>a.2).Perm (intKeys (lf f t c)):=by
  refine(List.perm_ext_iff_of_nodup (Qu H.bJ) i).2 λv=>?_
  rw[e6 v,List.mem_map];constructor
  .rintro⟨p,aQ,rfl⟩
   obtain⟨I,J⟩:=List.mem_filter.1 aQ;obtain⟨x,d,rfl⟩:=(H.mem p).1 I;have J:(e5 q x:Int)=h:=by simpa using J
   exact⟨x,(g x).2 ⟨d,by omega⟩,rfl⟩
  .rintro⟨x,d,rfl⟩
   obtain⟨I,J⟩:=(g x).1 d;exact⟨((e5 q x:Int),jI f t x),List.mem_filter.2 ⟨(H.mem _).2 ⟨x,I,rfl⟩,by simp[J]⟩,rfl⟩
 have:=aQ.length_eq;rw[List.length_map,<-List.countP_eq_length_filter]at this;exact this
def mem_row{x:e1}{fm left k:Nat}(ah:left<120)(U:∀j,j<k->max left fm+j<120):x∈lV fm left k↔(x.1.1=left/\max left fm<=x.1.2/\x.1.2<max left fm+k):=by
 unfold lV;rw[List.mem_map];constructor
 .rintro⟨j,aC,rfl⟩
  have aC:=List.mem_range.1 aC;unfold so;rw[dif_pos ⟨ah,U j aC⟩];exact⟨rfl,by show max left fm<=max left fm+j;omega,by show max left fm+j<_;omega⟩
 .rintro⟨I,J,ax⟩
  refine⟨x.1.2-max left fm,List.mem_range.2 (by omega),?_⟩;unfold so;rw[dif_pos ⟨ah,by have:=x.2.2;omega⟩];apply Subtype.ext;refine Prod.ext I.symm ?_;show max left fm+(x.1.2-max left fm)=x.1.2;omega
def P6{x:e1}{lm fm c:Nat}(hF:c<120):∀n,lm+n<=120->(x∈gy lm fm c n↔(lm<=x.1.1/\x.1.1<lm+n/\x.1.1<=x.1.2/\fm<=x.1.2/\x.1.2<=c))
 | 0,_=>by
  simp only[gy,PD,false_iff];omega
 |n+1,ak=>by rw[gy,List.mem_append,P6 hF n (by omega),mem_row (by omega) (λj aC=>by omega)];omega
def PY(g:Nat->Nat):Nat->Nat
 | 0=>0
 |n+1=>max (PY g n) (g n)
def Qc(g:Nat->Nat):∀{n i},i<n->g i<=PY g n
 |n+1,i,h=>by
  unfold PY;rcases Nat.lt_or_ge i n with aj|aj
  .have:=Qc g aj;omega
  .obtain rfl:i=n:=by omega
   omega
def Qe{g:Nat->Nat}{M:Nat}:∀{n},(∀i,i<n->g i<=M)->PY g n<=M
 | 0,_=>Nat.zero_le _
 |n+1,h=>by
  unfold PY;have:=Qe (n:=n) λi aj=>h i (by omega)
  have:=h n (by omega);omega
def PZ(d:cR)(s:gP)(i:Nat):Nat:=if s.bN<s.lm+i then 0 else(oC d ⟨s.k,s.lm+i,s.lm+i,s.fm,s.bN⟩).length
def P1(d:cR)(s:gP)(i:Nat):Nat:=(oC d ⟨s.k,s.lm,s.bV,max s.lm s.fm+i,max s.lm s.fm+i⟩).length
def Qo{d:cR}{s:gP}(af:s.ok d):m2 d s false=(PY (PZ d s) (s.bV-s.lm+1):Nat):=by
 have ah:=af.l;have o:=af.bw;have hF:=af.hF;have H:=Ql false (d.first s.k) (cC d s.k) (gy s.lm s.fm s.bN (s.bV-s.lm+1));have ae:∀i,i<s.bV-s.lm+1->¬s.bN<s.lm+i->hg (s.lm+i:Nat) (eC false (d.first s.k) (cC d s.k) (gy s.lm s.fm s.bN (s.bV-s.lm+1))).seen=PZ d s i:=by
  intro i aj al;unfold PZ;rw[if_neg al];refine Qh H (s.lm+i) λx=>?_
  show x∈gy (s.lm+i) s.fm s.bN (s.lm+i-(s.lm+i)+1)↔_;rw[P6 hF _ (by omega),P6 hF _ (by omega)];show _↔_/\x.1.1=_;omega
 apply Int.le_antisymm
 .show(eC false (d.first s.k) (cC d s.k) (gy s.lm s.fm s.bN (s.bV-s.lm+1))).most<=_
  rcases H.top with e|⟨x,j,e⟩
  .rw[e];omega
  .obtain⟨I,J,ax,aV,bm⟩:=(P6 hF _ (by omega)).1 j
   have:=ae (x.1.1-s.lm) (by omega) (by omega);rw[show s.lm+(x.1.1-s.lm)=x.1.1 by omega]at this;rw[e];show((hg (x.1.1:Nat) _:Nat):Int)<=_;rw[this];have:=Qc (PZ d s) (n:=s.bV-s.lm+1) (i:=x.1.1-s.lm) (by omega);omega
 .have aQ:=H.pos
  have:PY (PZ d s) (s.bV-s.lm+1)<=(m2 d s false).toNat:=by
   refine Qe λi aj=>?_
   by_cases al:s.bN<s.lm+i
   .unfold PZ
    rw[if_pos al];exact Nat.zero_le _
   .rw[<-ae i aj al]
    by_cases c:hg (s.lm+i:Nat) (eC false (d.first s.k) (cC d s.k) (gy s.lm s.fm s.bN (s.bV-s.lm+1))).seen=0
    .rw[c];exact Nat.zero_le _
    .obtain⟨p,g,h⟩:=List.countP_pos_iff.1 (Nat.pos_of_ne_zero c)
     obtain⟨x,l,rfl⟩:=(H.mem p).1 g;have f:(e5 false x:Int)=(s.lm+i:Nat):=by simpa using h
     have:=H.le x l;rw[f]at this;unfold m2;omega
  have aQ:0<=m2 d s false:=aQ;omega
def Qn{d:cR}{s:gP}(af:s.ok d):m2 d s true=(PY (P1 d s) (s.bN+1-max s.lm s.fm):Nat):=by
 have ah:=af.l;have o:=af.bw;have hF:=af.hF;have H:=Ql true (d.first s.k) (cC d s.k) (gy s.lm s.fm s.bN (s.bV-s.lm+1));have ae:∀i,i<s.bN+1-max s.lm s.fm->hg (max s.lm s.fm+i:Nat) (eC true (d.first s.k) (cC d s.k) (gy s.lm s.fm s.bN (s.bV-s.lm+1))).seen=P1 d s i:=by
  intro i aj;refine Qh H (max s.lm s.fm+i) λx=>?_
  show x∈gy s.lm (max s.lm s.fm+i) (max s.lm s.fm+i) (s.bV-s.lm+1)↔_;rw[P6 (by omega) _ (by omega),P6 hF _ (by omega)];show _↔_/\x.1.2=_;omega
 apply Int.le_antisymm
 .show(eC true (d.first s.k) (cC d s.k) (gy s.lm s.fm s.bN (s.bV-s.lm+1))).most<=_
  rcases H.top with e|⟨x,j,e⟩
  .rw[e];omega
  .obtain⟨I,J,ax,aV,bm⟩:=(P6 hF _ (by omega)).1 j
   have:=ae (x.1.2-max s.lm s.fm) (by omega);rw[show max s.lm s.fm+(x.1.2-max s.lm s.fm)=x.1.2 by omega]at this;rw[e];show((hg (x.1.2:Nat) _:Nat):Int)<=_;rw[this];have:=Qc (P1 d s) (n:=s.bN+1-max s.lm s.fm) (i:=x.1.2-max s.lm s.fm) (by omega);omega
 .have aQ:=H.pos
  have:PY (P1 d s) (s.bN+1-max s.lm s.fm)<=(m2 d s true).toNat:=by
   refine Qe λi aj=>?_
   rw[<-ae i aj];by_cases c:hg (max s.lm s.fm+i:Nat) (eC true (d.first s.k) (cC d s.k) (gy s.lm s.fm s.bN (s.bV-s.lm+1))).seen=0
   .rw[c];exact Nat.zero_le _
   .obtain⟨p,g,h⟩:=List.countP_pos_iff.1 (Nat.pos_of_ne_zero c)
    obtain⟨x,l,rfl⟩:=(H.mem p).1 g;have f:(e5 true x:Int)=(max s.lm s.fm+i:Nat):=by simpa using h
    have:=H.le x l;rw[f]at this;unfold m2;omega
  have aQ:0<=m2 d s true:=aQ;omega
end Go.aN
namespace Go.aN
open Go.Proofs Go.RowKit
section
variable{A:Array Func}
structure P2(w W:World)(T g B:Nat)(L:Value)(c:Array Value):Prop where
 ri:fg W T L g
 blk:W.heap[B]?=some (.cells c 54)
 res:W.heap[w.heap.size+1]?=some (.cells #[.int .i64 0,.int .i64 0,.int .i64 0,.int .i64 0,.int .i64 0] 54)
 e4:w.grownBy W (some T)
 aZ:T<w.heap.size
 P0:w.heap.size+2<=B
 off:rC L B
def P2.call{w W dt:World}{T g g' B:Nat}{L:Value}{c:Array Value}(h:P2 w W T g B L c)(t:fg dt T L g')(k:W.grownBy dt (some T)):P2 w dt T g' B L c:=by have I:=h.aZ;have J:=h.P0;have s:=bp h.blk;exact⟨t,(k.block B s (λe=>by have:=Pm e;omega)).trans h.blk,(k.block _ (by omega) (λe=>by have:=Pm e;omega)).trans h.res,h.e4.trans k,h.aZ,h.P0,h.off⟩
def P2.drew{w W:World}{T g B:Nat}{L:Value}{c:Array Value}(h:P2 w W T g B L c):P2 w W.drew T g B L c:=
 ⟨h.ri.of rfl,h.blk,h.res,fQ h.e4,h.aZ,h.P0,h.off⟩
def P2.alloc{w W:World}{T g B:Nat}{L:Value}{c:Array Value}(h:P2 w W T g B L c)(o:Obj):P2 w (W.alloc o) T g B L c:=by have s:=bp h.blk;have J:=h.P0;exact⟨h.ri.alloc o,(Pq s).trans h.blk,(Pq (by omega)).trans h.res,h.e4.trans Pn,h.aZ,h.P0,h.off⟩
def P8{W:World}{T g B o:Nat}{L v:Value}(h:fg W T L g)(c:T≠B)(off:rC L B):fg (W.setCell ⟨B,o,none⟩ v) T L g:=by obtain⟨⟨s,hb,af⟩,ak⟩:=h;exact⟨⟨s,(ft (by show T≠B;exact c)).trans hb,af⟩,ak.na off ⟨rfl,rfl,rfl,by simp,λi aj d=>ft (by show i≠B;exact λe=>d (.inr e))⟩⟩
def P2.set{w W:World}{T g B:Nat}{L:Value}{c:Array Value}(h:P2 w W T g B L c)(o:Nat)(v:Value):P2 w (W.setCell ⟨B,o,none⟩ v) T g B L (c.setIfInBounds o v):=by have I:=h.aZ;have J:=h.P0;exact⟨P8 h.ri (by omega) h.off,cQ h.blk,(ft (by show w.heap.size+1≠B;omega)).trans h.res,⟨h.e4.os,h.e4.tape,h.e4.output,by have:=h.e4.size;simpa using this,λi aj d=>(ft (by show i≠B;omega)).trans (h.e4.block i aj d)⟩,h.aZ,h.P0,h.off⟩
def QC{X:World}{r:Nat}{v0 v1 v2 v3 v4:Value}{t:TypeId}{c d f g i:Value}(h:X.heap[r]?=some (.cells #[c,d,f,g,i] t)):(((((X.setCell ⟨r,0,none⟩ v0).setCell ⟨r,1,none⟩ v1).setCell ⟨r,2,none⟩ v2).setCell ⟨r,3,none⟩ v3).setCell ⟨r,4,none⟩ v4).heap[r]?=some (.cells #[v0,v1,v2,v3,v4] t):=
 cQ (cQ (cQ (cQ (cQ h))))
def P'{w W:World}{T r o:Nat}{v:Value}(h:w.grownBy W (some T))(ao:w.heap.size<=r):w.grownBy (W.setCell ⟨r,o,none⟩ v) (some T):=
 ⟨h.os,h.tape,h.output,by have:=h.size;simpa using this,λi aj c=>(ft (by show i≠r;omega)).trans (h.block i aj c)⟩
def P7(j:Nat):Int:=match j with|0=>30|_=>119
def QA(w:World)(t:TypeId):iD (w.alloc (.cells #[.int .i64 30,.int .i64 119] t)) w.heap.size 0 2 P7:=by
 intro j aC;have:=aT (o:=0+j) (gA w (.cells #[.int .i64 30,.int .i64 119] t));rcases j with _|_|j
 .exact this
 .exact this
 .omega
def Qk(j:Nat):0<=P7 j/\P7 j<=119:=by unfold P7;split<;>omega
def P4(j:Nat):Int:=match j with|0=>10|1=>60|_=>100
def Qy(w:World)(t:TypeId):iD (w.alloc (.cells #[.int .i64 10,.int .i64 60,.int .i64 100] t)) w.heap.size 0 3 P4:=by
 intro j aC;have:=aT (o:=0+j) (gA w (.cells #[.int .i64 10,.int .i64 60,.int .i64 100] t));rcases j with _|_|_|j
 .exact this
 .exact this
 .exact this
 .omega
def Qz(j:Nat):0<=P4 j/\P4 j<=100:=by unfold P4;split<;>omega
def QE[S:Std A](T g:Nat)(L:Value)(ae:g<2000)(d:cR)(ok:d.ok)(p:dU)(n:Nat)(ak:n<=100)(w:World)(h:fg w T L g):
 Calls (ag A) 31 #[.pointer (some ⟨T,0,none⟩),.agg (cO d p),.int .i64 n] w λe w'=>∃s:gP,e=.returned (.agg s.a)/\s.ok d/\fg w' T L (g+7)/\w.grownBy w' (some T):=by
 have aV:=h.lt;have U:=ok.kinds;obtain⟨l,z⟩:∃l,(w.alloc (.cells (cO d p) 25)).alloc (.cells #[.int .i64 0,.int .i64 0,.int .i64 0,.int .i64 0,.int .i64 0] 54)=l:=⟨_,rfl⟩
 have t1:fg l T L g:=by rw[<-z];exact(h.alloc _).alloc _
 have aL:w.grownBy l (some T):=by rw[<-z];exact Pn.trans Pn
 have av:l.heap.size=w.heap.size+1+1:=by rw[<-z];simp
 have aK:l.heap[w.heap.size]?=some (.cells (cO d p) 25):=by rw[<-z];exact(Pq (by simp)).trans (gA _ _)
 have r1:l.heap[w.heap.size+1]?=some (.cells #[.int .i64 0,.int .i64 0,.int .i64 0,.int .i64 0,.int .i64 0] 54):=by rw[<-z,show w.heap.size+1=(w.alloc (.cells (cO d p) 25)).heap.size by simp];exact gA _ _
 have off:∀B,w.heap.size<=B->rC L B:=λB aM=>h.mr.off aM
 have a3:(some (w.heap.size+1):Option Nat)≠some T:=λe=>by have:=Pm e;omega
 have aG:=Pj t1;have ax:=Pj aL;have aF:=Pj r1;have aw:=Pj z;have aI:=Pj av;have aE:=Pj off;have J:=Pj (off (w.heap.size+1) (by omega));have a8:l.cell? ⟨w.heap.size,0,none⟩=some (.int .i64 d.kinds):=aT aK;clear h t1 aL aK r1 z av off;go_enter (S.f Tryz.func31),Tryz.ntmps31;go_upto_region 1 with fail
 have aq:=aw.out;dsimp only[cO]at aq;rw[aq];clear aq;go_upto_region 2 with(go_at_call 20;refine(pU (A:=A) T g L (by omega) ((d.kinds:Int)-1) (by omega) l aG.out).mono ?_;rintro e w2 ⟨k,rfl,a0,az,c⟩;have aH:=Pj az;have P:=Pj c;clear az c)
 clear a8;have a1:k<d.kinds:=by omega
 have a6:=P.out.size;have a7:=aI.out;have D:P2 w (w2.alloc (.cells #[.int .i64 k,.int .i64 0,.int .i64 0,.int .i64 0,.int .i64 0] 54)) T (g+1) w2.heap.size L #[.int .i64 k,.int .i64 0,.int .i64 0,.int .i64 0,.int .i64 0]:=
  ⟨aH.out.alloc _,gA _ _,(Pq (by omega)).trans ((P.out.block _ (by omega) a3).trans aF.out),(ax.out.trans P.out).trans Pn,aV,by omega,aE.out _ (by omega)⟩
 generalize w2.alloc _=w3 at D ⊢;generalize w2.heap.size=B at D a6 ⊢;have aM:=D.P0;have bf:=bp D.blk;have ad:=Pj D;clear D aG ax aF aw aI aE aH P a7 a0;go_upto_region 3 with(first
  |(go_at_call 24;refine(wO (A:=A) T (g+1) L (by omega) w3.heap.size 0 2 2 P7 (by omega) _ (ad.out.alloc _).ri (by omega) (QA _ _)).mono ?_;rintro e bb ⟨j,aC,rfl,az,c⟩;have af:=Pj ((ad.out.alloc _).call az c);clear az c)
  |(go_at_call 20;refine(pU (A:=A) T (g+2) L (by omega) (P7 j) (by have:=Qk j;omega) bb af.out.ri).mono ?_;rintro e bc ⟨lm,rfl,a2,az,c⟩;have R:=af.out.call az c;have X:=aT (o:=1) R.blk;have f1:=b1 (o:=1) R.blk;have aB:=Pj R;clear az c R))
 have bh:lm<=119:=by have:=Qk j;omega
 have al:=aB.out.set 1 (.int .i64 lm);clear ad af aB X f1 a2 aC;generalize bc.setCell _ _=bd at al ⊢;have am:=al.drew;have aR:bd.drew.cell? ⟨B,1,none⟩=some (.int .i64 lm):=(aT (o:=1) am.blk).trans rfl;have ah:=Pj am;clear al am;go_region_held3 (λW=>W.cell? ⟨B,1,none⟩=some (.int .i64 lm))
  (first|with_reducible exact aR|with_reducible exact iA|with_reducible exact K.out _)
  (first|(go_at_call 20;refine(pU (A:=A) T (g+2+1) L (by omega) n (by omega) _ (by exact ah.out.ri)).mono ?_;rintro e au ⟨r,rfl,ao,az,c⟩;have E:=ah.out.call az c;have iA:au.cell? ⟨B,1,none⟩=some (.int .i64 lm):=(aT (o:=1) E.blk).trans rfl;have K:=Pj (show ∀v,(au.setCell ⟨B,2,none⟩ v).cell? ⟨B,1,none⟩=some (.int .i64 lm)from λv=>(aT (o:=1) (E.set 2 v).blk).trans rfl);have aU:=aT (o:=2) E.blk;have f2:=b1 (o:=2) E.blk;have v2:IntKind.i64.wrap ((lm:Int)+r)=lm+r:=IntWalk.i64_in _ (by omega);have aD:=Pj E;clear az c E))
 obtain⟨i,cF⟩:∃i:Nat,min 119 ((lm:Int)+r)=(i:Int):=⟨min 119 (lm+r),by omega⟩
 have I:lm<=i/\i<=119:=by omega
 have F:=aD.out.set 2 (.int .i64 i);rw[cF];clear ah aD aR iA K aU f2 v2 cF ao;generalize au.setCell _ _=V at F ⊢;have aJ:=F.drew;have bi:=bp F.blk;have K:V.drew.cell? ⟨B,1,none⟩=some (.int .i64 lm):=(aT (o:=1) aJ.blk).trans rfl;have aS:=Pj (show ∀o:Obj,(V.alloc o).drew.cell? ⟨B,1,none⟩=some (.int .i64 lm)from λo=>(aT (o:=1) (F.alloc o).drew.blk).trans rfl);have ai:=Pj F;have v0:IntKind.i64.wrap ((lm:Int)-3)=lm-3:=IntWalk.i64_in _ (by omega);clear F aJ;go_wp2;go_region_held3 (λW=>W.cell? ⟨B,1,none⟩=some (.int .i64 lm))
  (first|with_reducible exact K|with_reducible exact aS.out _|with_reducible exact aO|with_reducible exact aP|with_reducible exact aQ.out _)
  (first
   |(go_at_call 24;refine(wO (A:=A) T (g+2+1+1) L (by omega) V.heap.size 0 3 3 P4 (by omega) _ (by exact(ai.out.alloc _).drew.ri) (by omega) (by exact Qy V 3)).mono ?_;rintro e aN ⟨q,a5,rfl,az,c⟩;have ap:=(ai.out.alloc _).drew.call az c;have aO:aN.cell? ⟨B,1,none⟩=some (.int .i64 lm):=(aT (o:=1) ap.blk).trans rfl;have hb:=Qz q;have v3:IntKind.i64.wrap ((lm:Int)+P4 q)=lm+P4 q:=IntWalk.i64_in _ (by omega);have aj:=Pj ap;clear az c ap)
   |(go_at_call 36;refine(vr (A:=A) T (g+2+1+1+1) L (by omega) (max 0 ((lm:Int)-3)) (min 119 ((lm:Int)+P4 q)) (by omega) aN aj.out.ri).mono ?_;rintro e ar ⟨fm,rfl,aW,aX,az,c⟩;have C:=aj.out.call az c;have aP:ar.cell? ⟨B,1,none⟩=some (.int .i64 lm):=(aT (o:=1) C.blk).trans rfl;have aQ:=Pj (show ∀v,(ar.setCell ⟨B,3,none⟩ v).cell? ⟨B,1,none⟩=some (.int .i64 lm)from λv=>(aT (o:=1) (C.set 3 v).blk).trans rfl);have Y:=aT (o:=3) C.blk;have f3:=b1 (o:=3) C.blk;have ay:=Pj C;clear az c C))
 all_goals (
  have G:=ay.out.set 3 (.int .i64 fm);have bg:fm<=119:=by omega
  clear ai aj ay K aS aO aP aQ Y f3 v0 v3 aW aX a5 hb;generalize ar.setCell _ _=a9 at G ⊢;have X:=aT (o:=1) G.blk;have Y:=aT (o:=3) G.blk;obtain⟨M,e6⟩:∃M:Nat,max (lm:Int) fm=(M:Int):=⟨max lm fm,by omega⟩
  obtain⟨N,fY⟩:∃N:Nat,min 119 ((M:Int)+n)=(N:Int):=⟨min 119 (M+n),by omega⟩
  have Z:=Pj G;clear G;go_upto_region 6 with(go_at_call 36;refine(vr (A:=A) T (g+2+1+1+1+1) L (by omega) M N (by omega) a9 Z.out.ri).mono ?_;rintro e ba ⟨u,rfl,aY,aZ,az,c⟩;have Q:=Z.out.call az c;have z4:=aT (o:=4) Q.blk;have f4:=b1 (o:=4) Q.blk;have aA:=Pj Q;clear az c Q)
  clear X Y;have f:=aA.out.set 4 (.int .i64 u);have a4:(⟨k,lm,i,fm,u⟩:gP).ok d:=⟨a1,I.1,by show i<120;omega,by show fm<=u;omega,by show u<120;omega,by show lm<=u;omega⟩
  clear Z aA z4 f4 aY aZ e6 fY;generalize ba.setCell _ _=bj at f ⊢;have bk:=aT (o:=0) f.blk;have X:=aT (o:=1) f.blk;have aU:=aT (o:=2) f.blk;have Y:=aT (o:=3) f.blk;have bl:=aT (o:=4) f.blk;have z0:=aT (o:=0) f.res;have av:=aT (o:=1) f.res;have bm:=aT (o:=2) f.res;have z3:=aT (o:=3) f.res;have z4:=aT (o:=4) f.res;have f0:=b1 (o:=0) f.res;have f1:=b1 (o:=1) f.res;have f2:=b1 (o:=2) f.res;have f3:=b1 (o:=3) f.res;have f4:=b1 (o:=4) f.res;have aa:=Pj f;clear f;go_wp2;have H:T≠w.heap.size+1:=by omega
  refine bodyPost_ret (results_cell_row rfl _ _ (w.heap.size+1) 54 (⟨k,lm,i,fm,u⟩:gP).a (0,0) _ rfl (QC aa.out.res) (ag.underlying54 A) rfl QD) rfl ?_;exact⟨⟨k,lm,i,fm,u⟩,rfl,a4,P8 (P8 (P8 (P8 (P8 aa.out.ri H J.out) H J.out) H J.out) H J.out) H J.out,P' (P' (P' (P' (P' aa.out.e4 (by omega)) (by omega)) (by omega)) (by omega)) (by omega)⟩)
end
section
variable{A:Array Func}
structure P3(W:World)(d:cR)(p:dU)(s:gP)(B C D:Nat)(a b:Nat):Prop where
 sV:fy W d p
 mn:W.heap[B]?=some (.cells (cO d p) 25)
 st:W.heap[C]?=some (.cells s.a 54)
 two:W.heap[D]?=some (.cells #[.int .i64 a,.int .i64 b] 3)
 ne:B<D/\C<D/\p.below d D
def P3.call{W dt:World}{d:cR}{p:dU}{s:gP}{B C D:Nat}{a b:Nat}(h:P3 W d p s B C D a b)(g:W.grownBy dt none):P3 dt d p s B C D a b:=
 ⟨h.sV.keep g,(g.block _ (bp h.mn) (by simp)).trans h.mn,(g.block _ (bp h.st) (by simp)).trans h.st,(g.block _ (bp h.two) (by simp)).trans h.two,h.ne⟩
def P3.set{W:World}{d:cR}{p:dU}{s:gP}{B C D:Nat}{a b:Nat}(h:P3 W d p s B C D a b){bb aA:Nat}(o:Nat)(v:Value)(aD:(#[Value.int .i64 a,.int .i64 b]).setIfInBounds o v=#[.int .i64 bb,.int .i64 aA]):P3 (W.setCell ⟨D,o,none⟩ v) d p s B C D bb aA:=by
 obtain⟨f,g,c⟩:=h.ne;have k:∀i,i≠D->(W.setCell ⟨D,o,none⟩ v).heap[i]?=W.heap[i]?:=λi aj=>ft (by show i≠D;exact aj)
 refine⟨h.sV.Qa c λi aj=>k i (by omega),(k B (by omega)).trans h.mn,(k C (by omega)).trans h.st,?_,h.ne⟩;rw[<-aD];exact cQ h.two
abbrev Qm(d:cR)(p:dU)(s:gP)(B C:Nat)(W:World):Prop:=W.cell? ⟨B,0,none⟩=some (.int .i64 d.kinds)/\W.cell? ⟨B,1,none⟩=some (.slice (some ⟨p.gv,p.hj,none⟩) d.kinds p.eT)/\W.cell? ⟨B,2,none⟩=some (.slice (some ⟨p.j9,p.lg,none⟩) d.eY p.h8)/\W.cell? ⟨B,3,none⟩=some (.slice p.hE d.fC p.h9)/\
 W.cell? ⟨C,0,none⟩=some (.int .i64 s.k)/\W.cell? ⟨C,1,none⟩=some (.int .i64 s.lm)/\W.cell? ⟨C,2,none⟩=some (.int .i64 s.bV)/\W.cell? ⟨C,3,none⟩=some (.int .i64 s.fm)/\W.cell? ⟨C,4,none⟩=some (.int .i64 s.bN)
def P3.cells{W:World}{d:cR}{p:dU}{s:gP}{B C D:Nat}{a b:Nat}(h:P3 W d p s B C D a b):Qm d p s B C W:=
 ⟨aT h.mn,aT h.mn,aT h.mn,aT h.mn,aT h.st,aT h.st,aT h.st,aT h.st,aT h.st⟩
def gP.Qv{d:cR}{s:gP}(h:s.ok d){m:Nat}(J:m<=s.bV)(ax:m<=s.bN):(⟨s.k,m,m,s.fm,s.bN⟩:gP).ok d:=
 ⟨h.k,Pk,by have:=h.bw;show m<120;omega,h.f,h.hF,ax⟩
def gP.Qt{d:cR}{s:gP}(h:s.ok d){m:Nat}(I:s.lm<=m)(J:m<=s.bN):(⟨s.k,s.lm,s.bV,m,m⟩:gP).ok d:=
 ⟨h.k,h.l,h.bw,Pk,by have:=h.hF;show m<120;omega,I⟩
def Qf(g:Nat->Nat)(n:Nat):PY g (n+1)=max (PY g n) (g n):=rfl
def Qp[S:Std A][eg:gQ A][P:gg A](aG:∀w,Calls (ag A) 16 #[] w λe w'=>e=.returned (.bool true)/\w=w')(w:World)(L:Value)(h:j4 w L w.heap.size)(eP:L.oneCell'=true):
 Calls (ag A) 7 #[L] w λe _=>e=.returned (.bool true):=by
 have aN:=Pj (O' (A:=A) L w h eP);clear h;go_enter (S.f Tryz.func7),Tryz.ntmps7;go_upto_region 3 with(first
  |(go_at_call 17;refine aN.out.mono ?_;rintro e bk ⟨rfl,az,c⟩;have aP:=Pj az;clear az c)
  |(go_at_call 28;refine(Pe (A:=A) w.heap.size 0 L (by omega) bk aP.out).mono ?_;rintro e w2 ⟨d,p,a7,ok,rfl,aU,bh,bu,az,c⟩;have aC:=Pj az;have aQ:=Pj aU;clear az c aU))
 have aa:=gA w2 (.cells (cO d p) 25);have q:=aT (o:=0) aa;have q1:=aT (o:=1) aa;have r:=aT (o:=2) aa;have u:=aT (o:=3) aa;have aL:=Pj aa;have bs:=aC.out.lt;clear aa;go_upto_region 4 with(go_at_call 31;refine(QE (A:=A) w.heap.size a7 L (by omega) d ok p 10 (by omega) _ (aC.out.alloc _)).mono ?_;rintro e w3 ⟨s,rfl,af,az,c⟩;have t3:fy w3 d p:=((aQ.out.keep Pn).uw c bh);have E:w3.heap[w2.heap.size]?=some (.cells (cO d p) 25):=((c.block _ (by simp) (λe=>by have:=Pm e;omega)).trans aL.out);have aS:=Pj t3;have aB:=Pj E;clear az c t3 E)
 clear q q1 r u aL;have a9:=bp aB.out;have G:=gA w3 (.cells s.a 54);have E:=(Go.heap_alloc_old w3 (.cells s.a 54) a9).trans aB.out;have t4:=aS.out.keep (Pv w3 (.cells s.a 54) none);generalize w2.heap.size=B at *;generalize w3.alloc _=bz at G E t4 ⊢;have bn:=bp G;generalize w3.heap.size=C at *;have q:=aT (o:=0) E;have q1:=aT (o:=1) E;have r:=aT (o:=2) E;have u:=aT (o:=3) E;have H:=aT (o:=0) G;have z:=aT (o:=1) G;have I:=aT (o:=2) G;have J:=aT (o:=3) G;have Q:=aT (o:=4) G;have aE:=Pj t4;have ai:=Pj (And.intro E G);clear E G t4 aP aC aQ aS aB aN;obtain⟨N,al⟩:∃N,(oC d s).length=N:=⟨_,rfl⟩
 have bq:N<=14400:=al ▸ Qd af;go_upto_region 5 with(go_at_call 32;refine(Ej (A:=A) d ok p _ aE.out s af).mono ?_;rintro e ax ⟨r1,a4,a1,rfl,T,aW,R,ap,c⟩;obtain⟨a2,a3,rfl⟩:=J0 R;rw[T.length_eq.trans al];have aF:=Pj (aE.out.keep c);have U:=Pj (And.intro ((c.block _ (bp ai.out.1) (by simp)).trans ai.out.1) ((c.block _ (bp ai.out.2) (by simp)).trans ai.out.2));clear c T R ap)
 clear q q1 r u H z I J Q aE ai;go_upto_region 8 with fail
 have aw:P3 (ax.alloc (.cells #[.int .i64 0,.int .i64 0] 3)) d p s B C ax.heap.size 0 0:=
  ⟨aF.out.keep Pn,(Pq (bp U.out.1)).trans U.out.1,(Pq (bp U.out.2)).trans U.out.2,gA _ _,bp U.out.1,bp U.out.2,aF.out.below ok⟩
 generalize ax.alloc _=bA at aw ⊢;generalize ax.heap.size=D at *;have z:=aT (o:=1) aw.st;have aM:=Pj aw;clear aw aF U;go_wp2;clear z;have ah:=af.l;have bo:=af.bw;have hF:=af.hF;have bt:=af.f;go_loopw [9] (λi wr=>∃m h:Nat,h=s.lm+m/\m<=s.bV-s.lm+1/\i=.int .i64 h/\P3 wr d p s B C D (PY (PZ d s) m) 0) (λi _=>s.bV+1-(vy i).toNat)
 case atStart=>exact⟨0,s.lm,rfl,by omega,rfl,aM.out⟩
 case round=>
  obtain⟨m,h,l,hm,rfl,br⟩:=hrel;obtain⟨q,q1,r,u,H,z,I,J,Q⟩:=br.cells;have bf:h<=120:=by omega
  by_cases aO:m<s.bV-s.lm+1
  .have ad:decide ((h:Int)<=s.bV)=true:=by rw[decide_eq_true_iff];omega
   have ae:decide (h<=s.bV)=true:=by rw[decide_eq_true_iff];omega
   by_cases bv:s.bN<h
   .have bi:decide ((s.bN:Int)<h)=true:=by rw[decide_eq_true_iff];omega
    have bj:decide (s.bN<h)=true:=by rw[decide_eq_true_iff];omega
    have aY:PZ d s m=0:=by unfold PZ;rw[if_pos (by omega)]
    have f:=Pj br;have j:=Pj (And.intro l aY);clear br l aY;go_wp2;exact⟨⟨m+1,h+1,by have:=j.out.1;omega,by omega,by push_cast;rfl,by rw[Qf,j.out.2,Nat.max_zero];exact f.out⟩,by show s.bV+1-((h:Int)+1).toNat<s.bV+1-(h:Int).toNat;have:=j.out.1;omega⟩
   .have bi:decide ((s.bN:Int)<h)=false:=by rw[decide_eq_false_iff_not];omega
    have bj:decide (s.bN<h)=false:=by rw[decide_eq_false_iff_not];omega
    have am:(⟨s.k,h,h,s.fm,s.bN⟩:gP).ok d:=gP.Qv af (by omega) (by omega);have hlen:(oC d ⟨s.k,h,h,s.fm,s.bN⟩).length=PZ d s m:=by unfold PZ;rw[if_neg (by omega),l]
    have bg:PZ d s m<=14400:=hlen ▸ Qd am;have aI:=Qf (PZ d s) m;obtain⟨M,bc⟩:∃M:Nat,max ((PY (PZ d s) m:Nat):Int) (PZ d s m:Nat)=(M:Int):=⟨max (PY (PZ d s) m) (PZ d s m),by omega⟩
    have ao:PY (PZ d s) (m+1)=M:=by omega
    generalize PY (PZ d s) m=a at *;generalize PZ d s m=a8 at *;have aq:=(br.call (fQ (Pw wr none))).cells;have f:=Pj (br.call (fQ (Pw wr none)));have j:=Pj (And.intro l ao);have aj:=Pj hlen;clear br l aI ao hlen;go_upto_region 12 with fail
    clear q q1 r u H z I J Q;go_region_held3 (λW=>W.cell? ⟨B,0,none⟩=some (.int .i64 d.kinds)/\W.cell? ⟨B,1,none⟩=some (.slice (some ⟨p.gv,p.hj,none⟩) d.kinds p.eT)/\W.cell? ⟨B,2,none⟩=some (.slice (some ⟨p.j9,p.lg,none⟩) d.eY p.h8)/\W.cell? ⟨B,3,none⟩=some (.slice p.hE d.fC p.h9)/\W.cell? ⟨C,0,none⟩=some (.int .i64 s.k)/\W.cell? ⟨C,1,none⟩=some (.int .i64 s.lm)/\W.cell? ⟨C,2,none⟩=some (.int .i64 s.bV)/\W.cell? ⟨C,3,none⟩=some (.int .i64 s.fm)/\W.cell? ⟨C,4,none⟩=some (.int .i64 s.bN))
     (first|with_reducible exact aq|with_reducible exact au|with_reducible exact av)
     (first
      |(go_at_call 33;refine(Qg (A:=A) h h _).mono ?_;rintro e aJ ⟨rfl,c⟩;have Y:=f.out.call c;have au:=Y.cells;have V:=Pj Y;clear c Y)
      |(go_at_call 32;refine(Ej (A:=A) d ok p aJ V.out.sV ⟨s.k,h,h,s.fm,s.bN⟩ am).mono ?_;rintro e bl ⟨r1,a4,a1,rfl,T,aW,R,ap,c⟩;obtain⟨a2,a3,rfl⟩:=J0 R;rw[T.length_eq.trans aj.out];have X:=V.out.call c;have av:=X.cells;have F:=Pj X;clear c T R ap X))
    all_goals (
     have z0:=aT (o:=0) F.out.two;have f0:=b1 (o:=0) F.out.two;have g:=Pj (F.out.set (bb:=M) (aA:=0) 0 (.int .i64 M) rfl);clear aq au av f V F aj;go_wp2;exact⟨⟨m+1,h+1,by have:=j.out.1;omega,by omega,by push_cast;rfl,by rw[j.out.2];exact g.out⟩,by show s.bV+1-((h:Int)+1).toNat<s.bV+1-(h:Int).toNat;have:=j.out.1;omega⟩)
  .have ad:decide ((h:Int)<=s.bV)=false:=by rw[decide_eq_false_iff_not];omega
   have ae:decide (h<=s.bV)=false:=by rw[decide_eq_false_iff_not];omega
   obtain rfl:m=s.bV-s.lm+1:=by omega
   obtain⟨a0,aV⟩:∃a0,PY (PZ d s) (s.bV-s.lm+1)=a0:=⟨_,rfl⟩
   have gS:=Qo af;rw[aV]at br gS;obtain⟨st,aR⟩:∃st:Nat,max (s.lm:Int) s.fm=(st:Int):=⟨max s.lm s.fm,by omega⟩
   have aX:max s.lm s.fm=st:=by omega
   have bw:st<=s.bN:=by have:=af.x;omega
   have bx:s.lm<=st:=by omega
   have ay:=Pj (And.intro gS aX);generalize bd:wr=bm at *;have f:=Pj br;clear bd br gS aV aX hm aO l aM;go_wp2;clear ad ae aR q q1 r u H z I J Q;go_loopw [12] (λi wr=>∃m h:Nat,h=st+m/\m<=s.bN+1-st/\i=.int .i64 h/\P3 wr d p s B C D a0 (PY (P1 d s) m)) (λi _=>s.bN+1-(vy i).toNat)
   case atStart=>exact⟨0,st,rfl,by omega,rfl,f.out⟩
   case round=>
    obtain⟨m,h,l,hm,rfl,br⟩:=hrel;obtain⟨q,q1,r,u,H,z,I,J,Q⟩:=br.cells;have bf:h<=120:=by omega
    by_cases aO:m<s.bN+1-st
    .have ad:decide ((h:Int)<=s.bN)=true:=by rw[decide_eq_true_iff];omega
     have ae:decide (h<=s.bN)=true:=by rw[decide_eq_true_iff];omega
     have am:(⟨s.k,s.lm,s.bV,h,h⟩:gP).ok d:=gP.Qt af (by omega) (by omega);have hlen:(oC d ⟨s.k,s.lm,s.bV,h,h⟩).length=P1 d s m:=by unfold P1;rw[ay.out.2,l]
     have bg:P1 d s m<=14400:=hlen ▸ Qd am;have aI:=Qf (P1 d s) m;obtain⟨M,bc⟩:∃M:Nat,max ((PY (P1 d s) m:Nat):Int) (P1 d s m:Nat)=(M:Int):=⟨max (PY (P1 d s) m) (P1 d s m),by omega⟩
     have ao:PY (P1 d s) (m+1)=M:=by omega
     generalize PY (P1 d s) m=a at *;generalize P1 d s m=a8 at *;have aq:=(br.call (fQ (Pw wr none))).cells;have f:=Pj (br.call (fQ (Pw wr none)));have j:=Pj (And.intro l ao);have aj:=Pj hlen;clear br l aI ao hlen;go_upto_region 19 with fail
     clear q q1 r u H z I J Q;go_region_held3 (λW=>W.cell? ⟨B,0,none⟩=some (.int .i64 d.kinds)/\W.cell? ⟨B,1,none⟩=some (.slice (some ⟨p.gv,p.hj,none⟩) d.kinds p.eT)/\W.cell? ⟨B,2,none⟩=some (.slice (some ⟨p.j9,p.lg,none⟩) d.eY p.h8)/\W.cell? ⟨B,3,none⟩=some (.slice p.hE d.fC p.h9)/\W.cell? ⟨C,0,none⟩=some (.int .i64 s.k)/\W.cell? ⟨C,1,none⟩=some (.int .i64 s.lm)/\W.cell? ⟨C,2,none⟩=some (.int .i64 s.bV)/\W.cell? ⟨C,3,none⟩=some (.int .i64 s.fm)/\W.cell? ⟨C,4,none⟩=some (.int .i64 s.bN))
      (first|with_reducible exact aq|with_reducible exact au|with_reducible exact av)
      (first
       |(go_at_call 33;refine(Qg (A:=A) h h _).mono ?_;rintro e aJ ⟨rfl,c⟩;have Y:=f.out.call c;have au:=Y.cells;have V:=Pj Y;clear c Y)
       |(go_at_call 32;refine(Ej (A:=A) d ok p aJ V.out.sV ⟨s.k,s.lm,s.bV,h,h⟩ am).mono ?_;rintro e bl ⟨r1,a4,a1,rfl,T,aW,R,ap,c⟩;obtain⟨a2,a3,rfl⟩:=J0 R;rw[T.length_eq.trans aj.out];have X:=V.out.call c;have av:=X.cells;have F:=Pj X;clear c T R ap X))
     all_goals (
      have aK:=aT (o:=1) F.out.two;have f1:=b1 (o:=1) F.out.two;have g:=Pj (F.out.set (bb:=a0) (aA:=M) 1 (.int .i64 M) rfl);clear aq au av f V F aj;go_wp2;exact⟨⟨m+1,h+1,by have:=j.out.1;omega,by omega,by push_cast;rfl,by rw[j.out.2];exact g.out⟩,by show s.bN+1-((h:Int)+1).toNat<s.bN+1-(h:Int).toNat;have:=j.out.1;omega⟩)
    .have ad:decide ((h:Int)<=s.bN)=false:=by rw[decide_eq_false_iff_not];omega
     have ae:decide (h<=s.bN)=false:=by rw[decide_eq_false_iff_not];omega
     obtain rfl:m=s.bN+1-st:=by omega
     obtain⟨dN,aH⟩:∃dN,PY (P1 d s) (s.bN+1-st)=dN:=⟨_,rfl⟩
     have Z:=Qn af;have gS:=ay.out.1;rw[ay.out.2,aH]at Z;rw[aH]at br;have f:=Pj br;clear br aH hm aO l;by_cases c1:N<=a0/\N<=dN
     .have aD:tx d s=.tuple #[.int .i64 0,.int .i64 0,.int .i64 11]:=by
       unfold tx;rw[gS,Z,al];by_cases c2:dN<a0
       .rw[if_pos (by omega),if_pos (by omega)]
       .rw[if_neg (by omega),if_pos (by omega)]
      obtain⟨K,ba⟩:∃K:Nat,min (a0:Int) dN=(K:Int):=⟨min a0 dN,by omega⟩
      have k1:decide ((N:Int)<=K)=true:=by rw[decide_eq_true_iff];omega
      have cc:decide (N<=K)=true:=by rw[decide_eq_true_iff];omega
      have ak:=Pj aD;clear aD gS Z c1;go_upto_region 24 with(go_at_call 34;refine(D' (A:=A) d ok p _ f.out.sV s af).mono ?_;rintro e a5 ⟨rfl,c⟩;rw[ak.out];have g:=Pj (f.out.call c);clear c)
      have z0:=aT (o:=0) g.out.two;have aK:=aT (o:=1) g.out.two;clear q q1 r u H z I J Q;go_quiet (fail);go_wp2_with (go_at_call 16;refine(aG _).mono ?_;rintro ar a6 ⟨rfl,rfl⟩)
      go_ret;rfl
     .have aZ:¬(N<=a0/\N<=dN):=c1
      obtain⟨K,ba⟩:∃K:Nat,min (a0:Int) dN=(K:Int):=⟨min a0 dN,by omega⟩
      have k1:decide ((N:Int)<=K)=false:=by rw[decide_eq_false_iff_not];omega
      have cc:decide (N<=K)=false:=by rw[decide_eq_false_iff_not];omega
      by_cases c2:dN<a0
      .have aD:tx d s=.tuple #[.int .i64 1,.int .i64 dN,.int .i64 0]:=by unfold tx;rw[gS,Z,al,if_pos (by omega),if_neg (by omega)]
       have ad:decide ((dN:Int)<a0)=true:=by rw[decide_eq_true_iff];omega
       have ae:decide (dN<a0)=true:=by rw[decide_eq_true_iff];omega
       have ak:=Pj aD;clear aD gS Z c1 aZ c2;go_upto_region 24 with(go_at_call 34;refine(D' (A:=A) d ok p _ f.out.sV s af).mono ?_;rintro e a5 ⟨rfl,c⟩;rw[ak.out];have g:=Pj (f.out.call c);clear c)
       have z0:=aT (o:=0) g.out.two;have aK:=aT (o:=1) g.out.two;clear q q1 r u H z I J Q;go_quiet (fail);go_wp2;go_quiet (fail);go_wp2_with (go_at_call 16;refine(aG _).mono ?_;rintro ar a6 ⟨rfl,rfl⟩)
       go_ret;rfl
      .have aD:tx d s=.tuple #[.int .i64 0,.int .i64 a0,.int .i64 0]:=by unfold tx;rw[gS,Z,al,if_neg (by omega),if_neg (by omega)]
       have ad:decide ((dN:Int)<a0)=false:=by rw[decide_eq_false_iff_not];omega
       have ae:decide (dN<a0)=false:=by rw[decide_eq_false_iff_not];omega
       have ak:=Pj aD;clear aD gS Z c1 aZ c2;go_upto_region 24 with(go_at_call 34;refine(D' (A:=A) d ok p _ f.out.sV s af).mono ?_;rintro e a5 ⟨rfl,c⟩;rw[ak.out];have g:=Pj (f.out.call c);clear c)
       have z0:=aT (o:=0) g.out.two;have aK:=aT (o:=1) g.out.two;clear q q1 r u H z I J Q;go_quiet (fail);go_wp2;go_quiet (fail);go_wp2_with (go_at_call 16;refine(aG _).mono ?_;rintro ar a6 ⟨rfl,rfl⟩)
       go_ret;rfl
end
end Go.aN
