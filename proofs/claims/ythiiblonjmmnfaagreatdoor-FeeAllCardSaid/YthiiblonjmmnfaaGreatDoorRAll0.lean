/- A part of FeeAll: no conditions. -/
import Derived.Test.YthiiblonjmmnfaaGreatDoorP41
set_option maxHeartbeats 8000000
set_option maxRecDepth 100000
set_option linter.all false
namespace Go.aN
open Go.Proofs Go.RowKit
section
variable(F:Array Func)
@[simp] theorem ag.underlying54:(ag F).underlying 32=some (TypeDesc.struct #[⟨ "Kind",3,0,false, "", "",0⟩,⟨ "Left",30,1,false, "", "",8⟩,⟨ "Fetched",30,3,false, "", "",24⟩]):=by kernel_rfl
@[simp] theorem ag.zeroValue4(w:World):Sem.run (ag F) (zeroValue 4) w=Result.ok (Value.bool false) w:=by kernel_rfl
@[simp] theorem ag.RS:(ag F).stoodInHeld 30=false:=by kernel_rfl
@[simp] theorem ag.RR:(ag F).eqGuardType (ag F).depth 30=false:=by kernel_rfl
end
section
variable{F:Array Func}[S:Std F]
@[simp] theorem ag.RP:dg F 11:=dS Tryz.func11
@[simp] theorem ag.RQ:dg F 13:=dS Tryz.func13
@[simp] theorem ag.call31:dg F 6:=dS Tryz.func6
@[simp] theorem ag.call32:dg F 10:=dS Tryz.func10
@[simp] theorem ag.call33:dg F 8:=dS Tryz.func8
@[simp] theorem ag.call44:dg F 12:=dS Tryz.func12
end
end Go.aN
namespace Go.aN
open Go.Proofs Go.RowKit Go.Maps Go.Shelf
section
variable{A:Array Func}
def RB:((ag A).info? 32).map (·.size)=some 5:=by kernel_rfl
def QG[S:Std A](a b:Int)(w:World):Calls (ag A) 8 #[.int .i64 a,.int .i64 b] w λe w'=>e=.returned (.agg #[.int .i64 a,.int .i64 b])/\w.grownBy w' none:=by go_enter (S.f Tryz.func8),Tryz.ntmps8;go_wp2;refine bodyPost_ret (results_cell_row rfl _ _ w.heap.size 30 #[.int .i64 a,.int .i64 b] (0,0) _ rfl (gA _ _) (ag.underlying52 A) rfl va) rfl ?_;exact⟨rfl,Pn⟩
end
end Go.aN
namespace Go.aN
section
section
variable{P:Program}{md:Region.Mode}{ops:Array Oper}{Q:Exit->Act->World->Prop}
def RO{R:(Nat->Bool)->Act->World->Prop}(g:∀(i:Nat) (o:Oper),ops[i]?=some o->∀e∈o.after,e.on<i)(l:∀(L:Nat->Bool) (i:Nat) (o:Oper) (a:Act) (w:World),ops[i]?=some o->L i=false->(∀e∈o.after,Region.binds md e=true->L e.on=true)->R L a w->wpOp P ops Q i (λbb w'=>R (bt L i) bb w') a w)(h:∀L a w,(∀i,i<ops.size->L i=true)->R L a w->Q .normal a w):
 ∀fuel listed a w,listed.size=ops.size->sm listed<=fuel->R (λj=>listed.getD j false) a w->wpAny P md ops Q fuel listed a w:=by
 have done:∀(listed:Array Bool) a w,listed.size=ops.size->R (λj=>listed.getD j false) a w->Region.ready md ops listed = []->Q .normal a w:=by
  intro listed a w af cT ao;refine h _ a w ?_ cT;intro i;induction i using Nat.strongRecOn with
  |_ i d=>
   intro c;cases hb:listed.getD i false with
   |true=>rfl
   |false=>
    have hm:i∈Region.ready md ops listed:=by
     rw[mem_ready];refine⟨?_,ops[i],Pu c,λe he _=>?_⟩
     .have ah:i<listed.size:=by omega
      simp only[Array.getD,ah,dif_pos]at hb ⊢;exact hb
     .have aO:=g i _ (Pu c) e he
      exact d e.on aO (by omega)
    rw[ao]at hm;cases hm
 have pos:∀(listed:Array Bool) i,listed.size=ops.size->i∈Region.ready md ops listed->listed[i]?=some false:=by
  intro listed i af c;obtain⟨I,o,av,_⟩:=mem_ready.1 c;have ah:i<listed.size:=by have:=(Array.getElem?_eq_some_iff.1 av).1;omega
  rw[Pu ah];simp only[Array.getD,ah,dif_pos]at I;exact congrArg some I
 intro fuel;induction fuel with
 |zero=>
  intro listed a w af ah cT;have ao:Region.ready md ops listed = []:=by
   refine List.eq_nil_iff_forall_not_mem.2 λi c=>?_
   have:=Ba (pos listed i af c);omega
  exact⟨ao,done listed a w af cT ao⟩
 |succ fuel d=>
  intro listed a w af ah cT;refine⟨λao=>done listed a w af cT ao,λi c=>?_⟩;have aQ:=pos listed i af c;obtain⟨I,o,av,J⟩:=mem_ready.1 c;have eP:listed.getD i false=false:=by have ah:i<listed.size:=(Array.getElem?_eq_some_iff.1 aQ).1;simp only[Array.getD,ah,dif_pos]at I ⊢;exact I
  refine wpOp_mono (λbb w' f=>?_) (l _ i o a w av eP J cT);refine d _ bb w' (by simpa using af) (by have:=Ba aQ;omega) ?_;have e:(λj=>(listed.setIfInBounds i true).getD j false)=bt (λj=>listed.getD j false) i:=by
   funext j;have ah:i<listed.size:=(Array.getElem?_eq_some_iff.1 aQ).1;unfold bt;by_cases aC:j=i
   .subst aC
    simp[Array.getD,ah]
   .simp only[if_neg aC,Array.getD,Array.size_setIfInBounds]
    split
    .exact Array.getElem_setIfInBounds_ne (by omega) (λe=>aC e.symm)
    .rfl
  rw[e];exact f
def wp_region_held{R:(Nat->Bool)->Act->World->Prop}(hm:P.follows .mixedOrders=true){id:Nat}{a:Act}{w:World}(c:zq ops=true)(f:∀(L:Nat->Bool) (i:Nat) (o:Oper) (a:Act) (w:World),ops[i]?=some o->L i=false->(∀e∈o.after,Region.binds .any e=true->L e.on=true)->R L a w->wpOp P ops Q i (λbb w'=>R (bt L i) bb w') a w)(d:∀L a w,(∀i,i<ops.size->L i=true)->R L a w->Q .normal a w)(aP:R (λ_=>false) a {w with drawn:=w.drawn+1}):(Code.region id ops true).wp P Q a w:=by
 refine wp_region_any hm (RO (EE c) f d _ _ _ _ (by simp) ?_ ?_)
 .unfold sm
  refine Po List.countP_le_length ?_;simp
 .have e:(λj=>(Array.replicate ops.size false).getD j false)=λ_=>false:=by funext j;simp[Array.getD]
  rw[e];exact aP
end
end
end Go.aN
namespace Go.aN
open Go.Proofs Go.RowKit
section
variable{A:Array Func}
def iD.QB{w w':World}{b o n:Nat}{f:Nat->Int}(h:iD w b o n f)(k:w'.heap[b]?=w.heap[b]?):iD w' b o n f:=λj aC=>(World.cell?_of_block k).trans (h j aC)
def fy.QB{w w':World}{d:cR}{p:dU}{B:Nat}(h:fy w d p)(hb:p.below d B)(k:∀i,i<B->w'.heap[i]?=w.heap[i]?):fy w' d p where
 first:=h.first.QB (k _ hb.F)
 dz i c:=(World.cell?_of_block (k _ hb.R)).trans (h.dz i c)
 rows i c:=(World.cell?_of_block (k _ hb.R)).trans (h.rows i c)
 fD i c:=(h.fD i c).QB (k _ (hb.P i c))
 free ak:=by obtain⟨b,o,e,n⟩:=h.free ak;exact⟨b,o,e,n.QB (k _ (hb.rL b o ak e))⟩
end
section
variable{A:Array Func}
def RI{w:World}{m n:Nat}{v:Value}{xs:List Int}(h:w.ownsRow m 3 1 v n (xs.map encZ))(ak:0<n):∃g cap,v=.slice (some ⟨g,0,none⟩) n cap/\iD w g 0 n (λi=>xs.getD i 0):=by
 have ah:xs.length=n:=by have:=h.1;simpa using this
 obtain⟨g,c,cur,aP,I,J,ax,aV⟩:=xY h ak;exact⟨g,c,aP,λi f=>tE ax aV (by
  have d:i<xs.length:=by omega
  simp[encZ,List.getD,d])⟩
end
def Q1{H:Type}(x:Lit×DataW H):∀l:List (Lit×DataW H),(DataW.insert x l).length=l.length+1
 | []=>rfl
 |y::l=>by
  unfold DataW.insert;split
  .rfl
  .simp[Q1 x l]
def Ry(D:Ea)(k:Lit)(v:Ea):(intKeys (D.put k v)).length<=(intKeys D).length+1:=by
 cases D<;>simp[DataW.put,intKeys,Q1]
 exact List.length_filter_le _ _
def Rp(f:Int)(t:Nat->Int)(l:List e1):∀D:Ea,(intKeys (l.foldl (λD x=>D.put (.int .i64 (jI f t x)) (.lit (.bool true))) D)).length<=(intKeys D).length+l.length:=by
 induction l with
 |nil=>intro D;simp
 |cons x l c=>
  intro D;rw[List.foldl_cons];have I:=c (D.put (.int .i64 (jI f t x)) (.lit (.bool true)));have J:=Ry D (.int .i64 (jI f t x)) (.lit (.bool true));simp only[List.length_cons];omega
def RE{d:cR}{s:gP}(af:s.ok d):(oC d s).length<=14400:=by have I:=zI s.lm s.fm s.bN af.hF (s.bV-s.lm+1);have J:=Rp (d.first s.k) (cC d s.k) (gy s.lm s.fm s.bN (s.bV-s.lm+1)) (.map []);have ax:=af.bw;have aV:(intKeys (.map []:Ea)).length=0:=rfl;exact Po J (by omega)
end Go.aN
namespace Go.aN
open Go.Proofs Go.RowKit Go.Maps Go.Shelf
def Q0{H:Type}(x:Lit×DataW H):∀l:List (Lit×DataW H),(DataW.insert x l).Perm (x::l)
 | []=>.refl _
 |y::l=>by
  unfold DataW.insert;split
  .exact .refl _
  .exact((Q0 x l).cons y).trans (.swap x y l)
structure QE{H:Type}(es:List (Lit×DataW H))(s:Int->Prop):Prop where
 keys:∀p∈es,∃x,p.1=.int .i64 x
 bJ:(es.map λp=>intOf p.1).Nodup
 mem:∀v,v∈(es.map λp=>intOf p.1)↔s v
def QE.put{H:Type}{es:List (Lit×DataW H)}{s:Int->Prop}(h:QE es s)(v:Int)(d:DataW H):QE (DataW.insert (.int .i64 v,d) (es.filter λp=>!p.1.sameKey (.int .i64 v))) λy=>y=v\/s y:=by
 have aQ:=Q0 ((.int .i64 v,d):Lit×DataW H) (es.filter λp=>!p.1.sameKey (.int .i64 v));have af:∀p∈es,(p.1.sameKey (.int .i64 v)=true↔intOf p.1=v):=by intro p aQ;obtain⟨x,f⟩:=h.keys p aQ;rw[f];simp[Lit.sameKey,intOf]
 have hm:=aQ.map λp=>intOf p.1
 rw[List.map_cons]at hm;have ew:∀y,y∈((es.filter λp=>!p.1.sameKey (.int .i64 v)).map λp=>intOf p.1)↔(s y/\y≠v):=by
  intro y;rw[List.mem_map,<-h.mem y,List.mem_map];constructor
  .rintro⟨p,aQ,rfl⟩
   obtain⟨I,J⟩:=List.mem_filter.1 aQ;refine⟨⟨p,I,rfl⟩,λe=>?_⟩;rw[(af p I).2 e]at J;cases J
  .rintro⟨⟨p,aQ,rfl⟩,c⟩
   refine⟨p,List.mem_filter.2 ⟨aQ,?_⟩,rfl⟩;cases al:p.1.sameKey (.int .i64 v)
   .rfl
   .exact absurd ((af p aQ).1 al) c
 refine⟨?_,?_,?_⟩
 .intro p I
  rcases List.mem_cons.1 (aQ.mem_iff.1 I)with rfl|I
  .exact⟨v,rfl⟩
  .exact h.keys p (List.mem_filter.1 I).1
 .refine hm.nodup_iff.2 (List.nodup_cons.2 ⟨λal=>((ew v).1 al).2 rfl,?_⟩)
  exact h.bJ.sublist ((List.filter_sublist).map _)
 .intro y
  rw[hm.mem_iff,List.mem_cons,ew];show y=v\/(s y/\y≠v)↔y=v\/s y;constructor
  .rintro(h|⟨h,_⟩)
   .exact .inl h
   .exact .inr h
  .rintro(h|h)
   .exact .inl h
   .by_cases e:y=v
    .exact .inl e
    .exact .inr ⟨h,e⟩
def Q4(f:Int)(t:Nat->Int)(pre:List e1):(intKeys (lf f t pre)).Nodup/\∀v,v∈intKeys (lf f t pre)↔∃x,x∈pre/\jI f t x=v:=by
 suffices H:∀(pre:List e1) (es:List (Lit×DataW Unit)) (s:Int->Prop),QE es s->∃e3,pre.foldl (λ(D:Ea) x=>D.put (.int .i64 (jI f t x)) (.lit (.bool true))) (.map es)=.map e3/\QE e3 λv=>s v\/∃x,x∈pre/\jI f t x=v by obtain⟨e3,I,J⟩:=H pre [] (λ_=>False) ⟨λp aQ=>absurd aQ (by simp),by simp,by simp⟩;unfold lf;rw[I];exact⟨J.bJ,λv=>(J.mem v).trans (by simp)⟩
 intro pre;induction pre with
 |nil=>intro es s h;exact⟨es,rfl,h.keys,h.bJ,λv=>by rw[h.mem v];simp⟩
 |cons x pre c=>
  intro es s h;obtain⟨e3,I,J⟩:=c _ _ (h.put (jI f t x) (.lit (.bool true)));refine⟨e3,I,J.keys,J.bJ,λv=>(J.mem v).trans ?_⟩;constructor
  .rintro((rfl|h)|⟨y,Qg,rfl⟩)
   .exact .inr ⟨x,by simp,rfl⟩
   .exact .inl h
   .exact .inr ⟨y,by simp[Qg],rfl⟩
  .rintro(h|⟨y,Qg,rfl⟩)
   .exact .inl (.inr h)
   .rcases List.mem_cons.1 Qg with rfl|Qg
    .exact .inl (.inl rfl)
    .exact .inr ⟨y,Qg,rfl⟩
def mem_row{x:e1}{fm left k:Nat}(ah:left<120)(U:∀j,j<k->max left fm+j<120):x∈lV fm left k↔(x.1.1=left/\max left fm<=x.1.2/\x.1.2<max left fm+k):=by
 unfold lV;rw[List.mem_map];constructor
 .rintro⟨j,aC,rfl⟩
  have aC:=List.mem_range.1 aC;unfold so;rw[dif_pos ⟨ah,U j aC⟩];exact⟨rfl,by show max left fm<=max left fm+j;omega,by show max left fm+j<_;omega⟩
 .rintro⟨I,J,ax⟩
  refine⟨x.1.2-max left fm,List.mem_range.2 (by omega),?_⟩;unfold so;rw[dif_pos ⟨ah,by have:=x.2.2;omega⟩];apply Subtype.ext;refine Prod.ext I.symm ?_;show max left fm+(x.1.2-max left fm)=x.1.2;omega
def Q3{x:e1}{lm fm c:Nat}(hF:c<120):∀n,lm+n<=120->(x∈gy lm fm c n↔(lm<=x.1.1/\x.1.1<lm+n/\x.1.1<=x.1.2/\fm<=x.1.2/\x.1.2<=c))
 | 0,_=>by
  simp only[gy,PD,false_iff];omega
 |n+1,ak=>by rw[gy,List.mem_append,Q3 hF n (by omega),mem_row (by omega) (λj aC=>by omega)];omega
end Go.aN
namespace Go.aN
open Go.Proofs Go.RowKit
section
variable{A:Array Func}
structure Ql(w W:World)(T g B:Nat)(L:Value)(c:Array Value):Prop where
 ri:fg W T L g
 blk:W.heap[B]?=some (.cells c 32)
 res:W.heap[w.heap.size+1]?=some (.cells #[.int .i64 0,.int .i64 0,.int .i64 0,.int .i64 0,.int .i64 0] 32)
 e4:w.grownBy W (some T)
 aZ:T<w.heap.size
 Qf:w.heap.size+2<=B
 off:rC L B
def Ql.call{w W dt:World}{T g g' B:Nat}{L:Value}{c:Array Value}(h:Ql w W T g B L c)(t:fg dt T L g')(k:W.grownBy dt (some T)):Ql w dt T g' B L c:=by have I:=h.aZ;have J:=h.Qf;have s:=bp h.blk;exact⟨t,(k.block B s (λe=>by have:=Pm e;omega)).trans h.blk,(k.block _ (by omega) (λe=>by have:=Pm e;omega)).trans h.res,h.e4.trans k,h.aZ,h.Qf,h.off⟩
def Ql.drew{w W:World}{T g B:Nat}{L:Value}{c:Array Value}(h:Ql w W T g B L c):Ql w W.drew T g B L c:=
 ⟨h.ri.of rfl,h.blk,h.res,fQ h.e4,h.aZ,h.Qf,h.off⟩
def Ql.alloc{w W:World}{T g B:Nat}{L:Value}{c:Array Value}(h:Ql w W T g B L c)(o:Obj):Ql w (W.alloc o) T g B L c:=by have s:=bp h.blk;have J:=h.Qf;exact⟨h.ri.alloc o,(Pq s).trans h.blk,(Pq (by omega)).trans h.res,h.e4.trans Pn,h.aZ,h.Qf,h.off⟩
def QD{W:World}{T g B o:Nat}{L v:Value}(h:fg W T L g)(c:T≠B)(off:rC L B):fg (W.setCell ⟨B,o,none⟩ v) T L g:=by obtain⟨⟨s,hb,af⟩,ak⟩:=h;exact⟨⟨s,(ft (by show T≠B;exact c)).trans hb,af⟩,ak.na off ⟨rfl,rfl,rfl,by simp,λi f d=>ft (by show i≠B;exact λe=>d (.inr e))⟩⟩
def Ql.set{w W:World}{T g B:Nat}{L:Value}{c:Array Value}(h:Ql w W T g B L c)(o:Nat)(v:Value):Ql w (W.setCell ⟨B,o,none⟩ v) T g B L (c.setIfInBounds o v):=by have I:=h.aZ;have J:=h.Qf;exact⟨QD h.ri (by omega) h.off,cQ h.blk,(ft (by show w.heap.size+1≠B;omega)).trans h.res,⟨h.e4.os,h.e4.tape,h.e4.output,by have:=h.e4.size;simpa using this,λi d f=>(ft (by show i≠B;omega)).trans (h.e4.block i d f)⟩,h.aZ,h.Qf,h.off⟩
def RA{X:World}{r:Nat}{v0 v1 v2 v3 v4:Value}{t:TypeId}{c d f g i:Value}(h:X.heap[r]?=some (.cells #[c,d,f,g,i] t)):(((((X.setCell ⟨r,0,none⟩ v0).setCell ⟨r,1,none⟩ v1).setCell ⟨r,2,none⟩ v2).setCell ⟨r,3,none⟩ v3).setCell ⟨r,4,none⟩ v4).heap[r]?=some (.cells #[v0,v1,v2,v3,v4] t):=
 cQ (cQ (cQ (cQ (cQ h))))
def QH{w W:World}{T r o:Nat}{v:Value}(h:w.grownBy W (some T))(ao:w.heap.size<=r):w.grownBy (W.setCell ⟨r,o,none⟩ v) (some T):=
 ⟨h.os,h.tape,h.output,by have:=h.size;simpa using this,λi c d=>(ft (by show i≠r;omega)).trans (h.block i c d)⟩
def QC(j:Nat):Int:=match j with|0=>30|_=>119
def Rx(w:World)(t:TypeId):iD (w.alloc (.cells #[.int .i64 30,.int .i64 119] t)) w.heap.size 0 2 QC:=by
 intro j aC;have:=aT (o:=0+j) (gA w (.cells #[.int .i64 30,.int .i64 119] t));rcases j with _|_|j
 .exact this
 .exact this
 .omega
def Q5(j:Nat):0<=QC j/\QC j<=119:=by unfold QC;split<;>omega
def Qy(j:Nat):Int:=match j with|0=>10|1=>60|_=>100
def Rv(w:World)(t:TypeId):iD (w.alloc (.cells #[.int .i64 10,.int .i64 60,.int .i64 100] t)) w.heap.size 0 3 Qy:=by
 intro j aC;have:=aT (o:=0+j) (gA w (.cells #[.int .i64 10,.int .i64 60,.int .i64 100] t));rcases j with _|_|_|j
 .exact this
 .exact this
 .exact this
 .omega
def Rw(j:Nat):0<=Qy j/\Qy j<=100:=by unfold Qy;split<;>omega
def RD[S:Std A](T g:Nat)(L:Value)(ae:g<2000)(d:cR)(ok:d.ok)(p:dU)(n:Nat)(ak:n<=100)(w:World)(h:fg w T L g):
 Calls (ag A) 6 #[.pointer (some ⟨T,0,none⟩),.agg (cO d p),.int .i64 n] w λe w'=>∃s:gP,e=.returned (.agg s.a)/\s.ok d/\fg w' T L (g+7)/\w.grownBy w' (some T):=by
 have aV:=h.lt;have U:=ok.kinds;obtain⟨l,z⟩:∃l,(w.alloc (.cells (cO d p) 27)).alloc (.cells #[.int .i64 0,.int .i64 0,.int .i64 0,.int .i64 0,.int .i64 0] 32)=l:=⟨_,rfl⟩
 have t1:fg l T L g:=by rw[<-z];exact(h.alloc _).alloc _
 have aL:w.grownBy l (some T):=by rw[<-z];exact Pn.trans Pn
 have av:l.heap.size=w.heap.size+1+1:=by rw[<-z];simp
 have aK:l.heap[w.heap.size]?=some (.cells (cO d p) 27):=by rw[<-z];exact(Pq (by simp)).trans (gA _ _)
 have r1:l.heap[w.heap.size+1]?=some (.cells #[.int .i64 0,.int .i64 0,.int .i64 0,.int .i64 0,.int .i64 0] 32):=by rw[<-z,show w.heap.size+1=(w.alloc (.cells (cO d p) 27)).heap.size by simp];exact gA _ _
 have off:∀B,w.heap.size<=B->rC L B:=λB aM=>h.mr.off aM
 have a3:(some (w.heap.size+1):Option Nat)≠some T:=λe=>by have:=Pm e;omega
 have aG:=Pj t1;have ax:=Pj aL;have aF:=Pj r1;have aw:=Pj z;have aI:=Pj av;have aE:=Pj off;have J:=Pj (off (w.heap.size+1) (by omega));have a8:l.cell? ⟨w.heap.size,0,none⟩=some (.int .i64 d.kinds):=aT aK;clear h t1 aL aK r1 z av off;go_enter (S.f Tryz.func6),Tryz.ntmps6;go_upto_region 1 with fail
 have aq:=aw.out;dsimp only[cO]at aq;rw[aq];clear aq;go_upto_region 2 with(go_at_call 7;refine(pU (A:=A) T g L (by omega) ((d.kinds:Int)-1) (by omega) l aG.out).mono ?_;rintro e w2 ⟨k,rfl,a0,az,c⟩;have aH:=Pj az;have P:=Pj c;clear az c)
 clear a8;have a1:k<d.kinds:=by omega
 have a6:=P.out.size;have a7:=aI.out;have D:Ql w (w2.alloc (.cells #[.int .i64 k,.int .i64 0,.int .i64 0,.int .i64 0,.int .i64 0] 32)) T (g+1) w2.heap.size L #[.int .i64 k,.int .i64 0,.int .i64 0,.int .i64 0,.int .i64 0]:=
  ⟨aH.out.alloc _,gA _ _,(Pq (by omega)).trans ((P.out.block _ (by omega) a3).trans aF.out),(ax.out.trans P.out).trans Pn,aV,by omega,aE.out _ (by omega)⟩
 generalize w2.alloc _=w3 at D ⊢;generalize w2.heap.size=B at D a6 ⊢;have aM:=D.Qf;have bf:=bp D.blk;have ad:=Pj D;clear D aG ax aF aw aI aE aH P a7 a0;go_upto_region 3 with(first
  |(go_at_call 16;refine(wO (A:=A) T (g+1) L (by omega) w3.heap.size 0 2 2 QC (by omega) _ (ad.out.alloc _).ri (by omega) (Rx _ _)).mono ?_;rintro e bb ⟨j,aC,rfl,az,c⟩;have af:=Pj ((ad.out.alloc _).call az c);clear az c)
  |(go_at_call 7;refine(pU (A:=A) T (g+2) L (by omega) (QC j) (by have:=Q5 j;omega) bb af.out.ri).mono ?_;rintro e bc ⟨lm,rfl,a2,az,c⟩;have R:=af.out.call az c;have X:=aT (o:=1) R.blk;have f1:=b1 (o:=1) R.blk;have aB:=Pj R;clear az c R))
 have bh:lm<=119:=by have:=Q5 j;omega
 have al:=aB.out.set 1 (.int .i64 lm);clear ad af aB X f1 a2 aC;generalize bc.setCell _ _=bd at al ⊢;have am:=al.drew;have aR:bd.drew.cell? ⟨B,1,none⟩=some (.int .i64 lm):=(aT (o:=1) am.blk).trans rfl;have ah:=Pj am;clear al am;go_region_held3 (λW=>W.cell? ⟨B,1,none⟩=some (.int .i64 lm))
  (first|with_reducible exact aR|with_reducible exact iA|with_reducible exact K.out _)
  (first|(go_at_call 7;refine(pU (A:=A) T (g+2+1) L (by omega) n (by omega) _ (by exact ah.out.ri)).mono ?_;rintro e au ⟨r,rfl,ao,az,c⟩;have E:=ah.out.call az c;have iA:au.cell? ⟨B,1,none⟩=some (.int .i64 lm):=(aT (o:=1) E.blk).trans rfl;have K:=Pj (show ∀v,(au.setCell ⟨B,2,none⟩ v).cell? ⟨B,1,none⟩=some (.int .i64 lm)from λv=>(aT (o:=1) (E.set 2 v).blk).trans rfl);have aU:=aT (o:=2) E.blk;have f2:=b1 (o:=2) E.blk;have v2:IntKind.i64.wrap ((lm:Int)+r)=lm+r:=IntWalk.i64_in _ (by omega);have aD:=Pj E;clear az c E))
 obtain⟨i,cF⟩:∃i:Nat,min 119 ((lm:Int)+r)=(i:Int):=⟨min 119 (lm+r),by omega⟩
 have I:lm<=i/\i<=119:=by omega
 have F:=aD.out.set 2 (.int .i64 i);rw[cF];clear ah aD aR iA K aU f2 v2 cF ao;generalize au.setCell _ _=V at F ⊢;have aJ:=F.drew;have bi:=bp F.blk;have K:V.drew.cell? ⟨B,1,none⟩=some (.int .i64 lm):=(aT (o:=1) aJ.blk).trans rfl;have aS:=Pj (show ∀o:Obj,(V.alloc o).drew.cell? ⟨B,1,none⟩=some (.int .i64 lm)from λo=>(aT (o:=1) (F.alloc o).drew.blk).trans rfl);have ai:=Pj F;have v0:IntKind.i64.wrap ((lm:Int)-3)=lm-3:=IntWalk.i64_in _ (by omega);clear F aJ;go_wp2;go_region_held3 (λW=>W.cell? ⟨B,1,none⟩=some (.int .i64 lm))
  (first|with_reducible exact K|with_reducible exact aS.out _|with_reducible exact aO|with_reducible exact aP|with_reducible exact aQ.out _)
  (first
   |(go_at_call 16;refine(wO (A:=A) T (g+2+1+1) L (by omega) V.heap.size 0 3 3 Qy (by omega) _ (by exact(ai.out.alloc _).drew.ri) (by omega) (by exact Rv V 3)).mono ?_;rintro e aN ⟨q,a5,rfl,az,c⟩;have ap:=(ai.out.alloc _).drew.call az c;have aO:aN.cell? ⟨B,1,none⟩=some (.int .i64 lm):=(aT (o:=1) ap.blk).trans rfl;have hb:=Rw q;have v3:IntKind.i64.wrap ((lm:Int)+Qy q)=lm+Qy q:=IntWalk.i64_in _ (by omega);have aj:=Pj ap;clear az c ap)
   |(go_at_call 15;refine(vr (A:=A) T (g+2+1+1+1) L (by omega) (max 0 ((lm:Int)-3)) (min 119 ((lm:Int)+Qy q)) (by omega) aN aj.out.ri).mono ?_;rintro e ar ⟨fm,rfl,aW,aX,az,c⟩;have C:=aj.out.call az c;have aP:ar.cell? ⟨B,1,none⟩=some (.int .i64 lm):=(aT (o:=1) C.blk).trans rfl;have aQ:=Pj (show ∀v,(ar.setCell ⟨B,3,none⟩ v).cell? ⟨B,1,none⟩=some (.int .i64 lm)from λv=>(aT (o:=1) (C.set 3 v).blk).trans rfl);have Y:=aT (o:=3) C.blk;have f3:=b1 (o:=3) C.blk;have ay:=Pj C;clear az c C))
 all_goals (
  have G:=ay.out.set 3 (.int .i64 fm);have bg:fm<=119:=by omega
  clear ai aj ay K aS aO aP aQ Y f3 v0 v3 aW aX a5 hb;generalize ar.setCell _ _=a9 at G ⊢;have X:=aT (o:=1) G.blk;have Y:=aT (o:=3) G.blk;obtain⟨M,e6⟩:∃M:Nat,max (lm:Int) fm=(M:Int):=⟨max lm fm,by omega⟩
  obtain⟨N,fY⟩:∃N:Nat,min 119 ((M:Int)+n)=(N:Int):=⟨min 119 (M+n),by omega⟩
  have Z:=Pj G;clear G;go_upto_region 6 with(go_at_call 15;refine(vr (A:=A) T (g+2+1+1+1+1) L (by omega) M N (by omega) a9 Z.out.ri).mono ?_;rintro e ba ⟨u,rfl,aY,aZ,az,c⟩;have Q:=Z.out.call az c;have z4:=aT (o:=4) Q.blk;have f4:=b1 (o:=4) Q.blk;have aA:=Pj Q;clear az c Q)
  clear X Y;have f:=aA.out.set 4 (.int .i64 u);have a4:(⟨k,lm,i,fm,u⟩:gP).ok d:=⟨a1,I.1,by show i<120;omega,by show fm<=u;omega,by show u<120;omega,by show lm<=u;omega⟩
  clear Z aA z4 f4 aY aZ e6 fY;generalize ba.setCell _ _=bj at f ⊢;have bk:=aT (o:=0) f.blk;have X:=aT (o:=1) f.blk;have aU:=aT (o:=2) f.blk;have Y:=aT (o:=3) f.blk;have bl:=aT (o:=4) f.blk;have z0:=aT (o:=0) f.res;have av:=aT (o:=1) f.res;have bm:=aT (o:=2) f.res;have z3:=aT (o:=3) f.res;have z4:=aT (o:=4) f.res;have f0:=b1 (o:=0) f.res;have f1:=b1 (o:=1) f.res;have f2:=b1 (o:=2) f.res;have f3:=b1 (o:=3) f.res;have f4:=b1 (o:=4) f.res;have aa:=Pj f;clear f;go_wp2;have H:T≠w.heap.size+1:=by omega
  refine bodyPost_ret (results_cell_row rfl _ _ (w.heap.size+1) 32 (⟨k,lm,i,fm,u⟩:gP).a (0,0) _ rfl (RA aa.out.res) (ag.underlying54 A) rfl RB) rfl ?_;exact⟨⟨k,lm,i,fm,u⟩,rfl,a4,QD (QD (QD (QD (QD aa.out.ri H J.out) H J.out) H J.out) H J.out) H J.out,QH (QH (QH (QH (QH aa.out.e4 (by omega)) (by omega)) (by omega)) (by omega)) (by omega)⟩)
end
def QO{l:List Int}{i:Nat}(h:i<l.length):l.getD i 0=l[i]:=by simp[List.getD,h]
end Go.aN
namespace Go.aN
open Go.Proofs Go.RowKit Go.Maps Go.Shelf
def P8(s:gP):List e1:=gy s.lm s.fm s.bN (s.bV-s.lm+1)
def Q2{d:cR}{s:gP}(af:s.ok d){c:e1}:c∈P8 s↔(s.lm<=c.1.1/\c.1.1<=s.bV/\c.1.1<=c.1.2/\s.fm<=c.1.2/\c.1.2<=s.bN):=by have ah:=af.l;have f:=af.bw;unfold P8;rw[Q3 af.hF _ (by omega)];omega
def Q6{d:cR}{s:gP}(af:s.ok d):∃c,c∈P8 s:=by have ah:=af.l;have g:=af.bw;have hF:=af.hF;have aB:=af.f;have f:=af.x;refine⟨⟨(s.lm,s.bN),by show s.lm<120;omega,hF⟩,(Q2 af).2 ?_⟩;exact⟨Pk,ah,f,aB,Pk⟩
def Qu{d:cR}{s:gP}(v:Int):v∈oC d s↔∃c,c∈P8 s/\jI (d.first s.k) (cC d s.k) c=v:=(Q4 _ _ _).2 v
def RH(d:cR)(s:gP):(oC d s).Nodup:=(Q4 _ _ _).1
def RJ{d:cR}{s:gP}(af:s.ok d):oC d s≠[]:=by obtain⟨c,al⟩:=Q6 af;exact List.ne_nil_of_mem ((Qu _).2 ⟨c,al,rfl⟩)
noncomputable def QA(d:cR)(s:gP)(n:Int):Int:=
 if n∈oC d s then(if ∃v,v∈oC d s/\v≠n then 3 else 1)else 2
end Go.aN
namespace Go.aN
open Go.Proofs Go.RowKit
def QZ{d:cR}(ok:d.ok){k:Nat}(U:k<d.kinds){a b:Nat}(hb:b<120):0<=fP (d.first k) (cC d k) a b/\fP (d.first k) (cC d k) a b<=100:=by
 have I:=ok.first k U
 have J:=Ni (λday=>oD ok U day) (a / 24+1) (b / 24-a / 24);unfold fP;have:b / 24-a / 24<=4:=by omega
 have:((b / 24-a / 24:Nat):Int)<=4:=by omega
 omega
def RG{d:cR}(ok:d.ok){s:gP}(af:s.ok d){v:Int}(h:v∈oC d s):0<=v/\v<=100:=by obtain⟨c,al,rfl⟩:=(Qu v).1 h;have J:=(Q2 af).1 al;have hF:=af.hF;exact QZ ok af.k (a:=c.1.1) (b:=c.1.2) (by omega)
end Go.aN
namespace Go.aN
open Go.Proofs Go.RowKit Go.Shelf
section
variable{A:Array Func}
def QX{lm fm d:Nat}{c:e1}:∀{n i},i<=n->c∈gy lm fm d i->c∈gy lm fm d n
 | 0,i,h,al=>by
  obtain rfl:i=0:=by omega
  exact al
 |n+1,i,h,al=>by
  by_cases e:i=n+1
  .rw[<-e];exact al
  .rw[gy,List.mem_append]
   exact .inl (QX (by omega) al)
def Rz{fm left k n:Nat}(h:k<=n){c:e1}(al:c∈lV fm left k):c∈lV fm left n:=by unfold lV at *;obtain⟨j,aC,rfl⟩:=List.mem_map.1 al;exact List.mem_map.2 ⟨j,List.mem_range.2 (by have:=List.mem_range.1 aC;omega),rfl⟩
def Rc{lm f fm d i s k:Nat}(g:i<f-lm+1)(U:s+k<=d)(af:s=max (lm+i) fm):∀c,c∈gy lm fm d i++lV fm (lm+i) k++[so (lm+i) (s+k)]->c∈gy lm fm d (f-lm+1):=by
 intro c al;refine QX (i:=i+1) (by omega) ?_;rw[gy,List.mem_append];rw[List.append_assoc,List.mem_append]at al;rcases al with h|h
 .exact .inl h
 .refine .inr (Rz (k:=k+1) (by omega) ?_)
  rw[KX,<-af];exact h
def Rb[S:Std A](F:Fence)(n:Nat)(D:F.fn 44)(L:F.round=none)(ak:1<=n)(l eL lm f fm d:Nat)(ah:lm<=f)(P:f<120)(aB:d<120)(hm:fm<120){q:World->World->Prop}(H:∀W dt,q W dt->lH W eL lm f fm d->lH dt eL lm f fm d)(a8 p:List e1->World->Prop)
 (J:∀pre x W,a8 pre W->pre.length<14400->YieldAt F (n-1) (ag A) l (tT x) W λe dt=>
  (e=.returned (.bool true)/\a8 (pre++[x]) dt/\q W dt)\/(e=.returned (.bool false)/\p (pre++[x]) dt))
 (W:World) (w:lH W eL lm f fm d) (aP:a8 [] W) :
 CallsIn F n (ag A) 44 #[.func (.yield l) #[] #[],.pointer (some ⟨eL,0,none⟩)] W λe dt=>(∃v,e=.returned v)/\
  ((∃ys,ys=gy lm fm d (f-lm+1)/\a8 ys dt)\/(∃pre,(∀c,c∈pre->c∈gy lm fm d (f-lm+1))/\p pre dt)):=by
 refine callsIn_of_wp (S.f Tryz.func44) rfl D ?_ L;simp only[Tryz.ntmps44,List.size_toArray,List.length_cons,List.length_nil,Nat.reduceAdd,Nat.reduceSub,Array.replicate_succ,Array.replicate_zero,List.push_toArray,List.append_toArray,List.nil_append,List.cons_append];obtain⟨c1,c2,c3,c4⟩:=id w;gi_wp2
 gi_loopw [14] (λv wr=>∃i:Nat,v=.int .i64 i/\i<=f-lm+1/\lH wr eL lm f fm d/\a8 (gy lm fm d i) wr/\(gy lm fm d i).length<=i*120)
  (λv _=>f-lm+1-(g5 v).toNat)
 case atStart=>exact⟨0,rfl,Nat.zero_le _,w,aP,Nat.zero_le _⟩
 case round=>
  obtain⟨i,rfl,R,z,u,hlen⟩:=hrel;obtain⟨c1,c2,c3,c4⟩:=id z;by_cases aO:i<=f-lm
  .have B:∀k,(lV fm (lm+i) k).length=k:=λk=>by simp[lV]
   obtain⟨s,af⟩:∃s:Nat,s=max (lm+i) fm:=⟨_,rfl⟩
   have g:=Pj af;have o:=Pj B;clear af B;have Q:decide ((i:Int)<(f:Int)-lm+1)=true:=by rw[decide_eq_true_eq];omega
   rcases Nat.lt_or_ge (lm+i) fm with hq|hq
   all_goals
    gi_wp2
    gi_loopw [5] (λv wr=>∃k:Nat,v=.int .i64 ((s:Int)+k)/\k<=d+1-s/\lH wr eL lm f fm d/\a8 (gy lm fm d i++lV fm (lm+i) k) wr)
     (λv _=>d+1-(g5 v).toNat)
    case atStart=>exact⟨0,by have:=g.out;congr 1;omega,Nat.zero_le _,z,by simpa [lV]using u⟩
    case round=>
     obtain⟨k,rfl,U,j,r⟩:=hrel;obtain⟨d1,d2,d3,d4⟩:=id j;have T:lm+i<=s/\fm<=s/\s<120:=by have:=g.out;omega
     by_cases ew:s+k<=d
     .obtain⟨fn,tmps,assign,body,C,cT⟩:=J (gy lm fm d i++lV fm (lm+i) k) (so (lm+i) (s+k)) _ r (by rw[List.length_append,o.out];omega)
      rw[F' (by omega) (by omega)]at C;simp only[Int.natCast_add]at C;gi_wp2
      refine cT.mono ?_;rintro e M (⟨rfl,E,K⟩|⟨rfl,G⟩)
      .have I:=H _ _ K j
       gi_wp2
       go_roundw
       case rel=>
        have h:=g.out;exact⟨k+1,by go_num,by omega,I,by rw[KX,<-h,<-List.append_assoc];exact E⟩
       case measure=>simp[g5];omega
      .gi_wp2
       refine bodyPost_ret (results_none rfl _ _ _) rfl ?_;have h:=g.out;exact⟨⟨_,rfl⟩,.inr ⟨_,Rc (by omega) (by omega) (by rw[h]),G⟩⟩
     .gi_wp2
      go_roundw
      case rel=>
       have h:=g.out;refine⟨i+1,by go_num,by omega,j,?_,?_⟩
       .rw[gy,<-h,show d+1-s=k by omega];exact r
       .rw[gy,List.length_append,o.out];omega
      case measure=>simp[g5];omega
  .gi_wp2
   go_end0;have e:i=f-lm+1:=by omega
   exact⟨⟨_,rfl⟩,.inl ⟨_,rfl,by rw[<-e];exact u⟩⟩
def QY[S:Std A](F:Fence)(n:Nat)(i:F.fn 44)(q:F.round=none)(ak:1<=n)(eL lm d fm f:Nat)(ah:lm<=d)(j:d<120)(aB:f<120)(hm:fm<120)(w:World)(aO:eL<w.heap.size)(g:lH w eL lm d fm f):
 SeqStopsK F n (ag A) 44 #[.pointer (some ⟨eL,0,none⟩)] tT (fH eL) (λys=>ys=gy lm fm f (d-lm+1)) (λpre=>∀c,c∈pre->c∈gy lm fm f (d-lm+1)) 14400 w:=λl a8 h W hW _ _ o aP=>
 Rb F n i q ak l eL lm d fm f ah j aB hm (fH.stay (eL:=eL)) a8 h o W
  ⟨(hW.cell (p:=⟨eL,1,none⟩) aO).trans g.1,(hW.cell (p:=⟨eL,2,none⟩) aO).trans g.2.1,(hW.cell (p:=⟨eL,3,none⟩) aO).trans g.2.2.1,(hW.cell (p:=⟨eL,4,none⟩) aO).trans g.2.2.2⟩ aP
end
end Go.aN
namespace Go.aN
attribute [local go_sem] Oper.semAt_some
open Go.Proofs Go.RowKit Go.Maps Go.Shelf
section
variable{A:Array Func}
def Qo(f:Int)(ba:Nat->Int)(b9:Int)(pre:List e1):Bool:=pre.any λc=>jI f ba c == b9
def Qp(f:Int)(ba:Nat->Int)(b9:Int)(pre:List e1):Bool:=pre.any λc=>!(jI f ba c == b9)
def QP(f:Int)(ba:Nat->Int)(b9:Int)(pre:List e1)(x:e1):Qo f ba b9 (pre++[x])=(Qo f ba b9 pre||(jI f ba x == b9)):=by simp[Qo]
def QQ(f:Int)(ba:Nat->Int)(b9:Int)(pre:List e1)(x:e1):Qp f ba b9 (pre++[x])=(Qp f ba b9 pre || !(jI f ba x == b9)):=by simp[Qp]
def Ri{f:Int}{ba:Nat->Int}{b9:Int}{pre l:List e1}(h:∀c,c∈pre->c∈l)(he:Qo f ba b9 pre=true):Qo f ba b9 l=true:=by unfold Qo at he ⊢;rw[List.any_eq_true]at he ⊢;obtain⟨c,al,e⟩:=he;exact⟨c,h c al,e⟩
def Rj{f:Int}{ba:Nat->Int}{b9:Int}{pre l:List e1}(h:∀c,c∈pre->c∈l)(he:Qp f ba b9 pre=true):Qp f ba b9 l=true:=by unfold Qp at he ⊢;rw[List.any_eq_true]at he ⊢;obtain⟨c,al,e⟩:=he;exact⟨c,h c al,e⟩
def Q7{d:cR}{s:gP}(af:s.ok d)(n:Int):QA d s n=if Qo (d.first s.k) (cC d s.k) n (gy s.lm s.fm s.bN (s.bV-s.lm+1))=true then(if Qp (d.first s.k) (cC d s.k) n (gy s.lm s.fm s.bN (s.bV-s.lm+1))=true then 3 else 1)else 2:=by
 have I:Qo (d.first s.k) (cC d s.k) n (gy s.lm s.fm s.bN (s.bV-s.lm+1))=true↔n∈oC d s:=by rw[Qu];unfold Qo;rw[List.any_eq_true];exact⟨λ⟨c,al,e⟩=>⟨c,al,by simpa using e⟩,λ⟨c,al,e⟩=>⟨c,al,by simpa using e⟩⟩
 have J:Qp (d.first s.k) (cC d s.k) n (gy s.lm s.fm s.bN (s.bV-s.lm+1))=true↔∃v,v∈oC d s/\v≠n:=by
  unfold Qp;rw[List.any_eq_true];constructor
  .rintro⟨c,al,e⟩
   exact⟨_,(Qu _).2 ⟨c,al,rfl⟩,by simpa using e⟩
  .rintro⟨v,aD,e⟩
   obtain⟨c,al,rfl⟩:=(Qu v).1 aD;exact⟨c,al,by simpa using e⟩
 unfold QA;by_cases c1:n∈oC d s
 .rw[if_pos c1,if_pos (I.2 c1)]
  by_cases c2:∃v,v∈oC d s/\v≠n
  .rw[if_pos c2,if_pos (J.2 c2)]
  .rw[if_neg c2,if_neg λx=>c2 (J.1 x)]
 .rw[if_neg c1,if_neg λx=>c1 (I.1 x)]
structure Qm(a8:World->Prop)(T k:Nat)(b9:Int)(w:World)(m:Nat)(a b:Bool)(W:World):Prop where
 t4:W.cell? ⟨w.heap.size+1,0,none⟩=some (.int .i64 k)
 t5:W.cell? ⟨w.heap.size+1+1,0,none⟩=some (.int .i64 b9)
 t9:W.cell? ⟨m,0,none⟩=some (.pointer (some ⟨T,0,none⟩))
 t10:W.heap[m+1]?=some (.cells #[.bool a] 4)
 t11:W.heap[m+1+1]?=some (.cells #[.bool b] 4)
 j:a8 W
 e4:w.grownBy W none
 dm:m+1+1+1+1<=W.heap.size
 sr:w.heap.size+3<=m
 vs:w.heap.size+3<=T/\T<m
def Qm.step{a8:World->Prop}{T k:Nat}{b9:Int}{w:World}{m:Nat}{a b:Bool}{W dt:World}{row:Option Nat}(h:Qm a8 T k b9 w m a b W)(ae:W.grownBy dt row)(ao:∀r,row=some r->r=T\/m+4<=r)(aC:a8 dt):Qm a8 T k b9 w m a b dt:=by
 have fS:=h.sr;have d:=h.vs;have f:=h.dm;have c:∀b,(w.heap.size+1<=b/\b<w.heap.size+3)\/(m<=b/\b<m+4)->some b≠row:=λb I e=>by rcases ao b e.symm with rfl|ax<;>omega
 have lt:∀b,(w.heap.size+1<=b/\b<w.heap.size+3)\/(m<=b/\b<m+4)->b<W.heap.size:=λb I=>by omega
 refine⟨ae.cell h.t4 (c _ (by dsimp only;omega)),ae.cell h.t5 (c _ (by dsimp only;omega)),ae.cell h.t9 (c _ (by dsimp only;omega)),
  (ae.block _ (lt _ (by omega)) (c _ (by omega))).trans h.t10,(ae.block _ (lt _ (by omega)) (c _ (by omega))).trans h.t11,aC,?_,Po h.dm ae.size,fS,d⟩
 cases row with
 |none=>exact h.e4.trans ae
 |some r=>exact jq h.e4 ae (by rcases ao r rfl with rfl|ax<;>omega)
def Qz(W:World)(b:Nat)(v:Value):W.grownBy (W.setCell ⟨b,0,none⟩ v) (some b):=⟨rfl,rfl,rfl,by simp,λi _ c=>ft (by show i≠b;exact λe=>c (by rw[e]))⟩
def Qm.put{a8:World->Prop}{T k:Nat}{b9:Int}{w:World}{m:Nat}{a b:Bool}{W:World}(h:Qm a8 T k b9 w m a b W)(c:Bool)(aC:a8 (W.setCell ⟨if c then m+1 else m+1+1,0,none⟩ (.bool true))):
 Qm a8 T k b9 w m (a||c) (b || !c) (W.setCell ⟨if c then m+1 else m+1+1,0,none⟩ (.bool true)):=by
 have fS:=h.sr;have f:=h.vs;have i:=h.dm;have g:=Qz W (if c then m+1 else m+1+1) (.bool true);have d:∀b:Nat,b≠m+1->b≠m+1+1->some b≠some (if c then m+1 else m+1+1):=λb I J e=>by have:=Pm e;cases c<;>simp at this<;>omega
 refine⟨g.cell h.t4 (d _ (by dsimp only;omega) (by dsimp only;omega)),g.cell h.t5 (d _ (by dsimp only;omega) (by dsimp only;omega)),g.cell h.t9 (d _ (by dsimp only;omega) (by dsimp only;omega)),?_,?_,aC,jq h.e4 g (by cases c<;>simp<;>omega),by simpa using i,fS,f⟩
 .cases c
  .rw[Bool.or_false]
   exact(ft (by show m+1≠m+1+1;omega)).trans h.t10
  .rw[Bool.or_true]
   exact cQ h.t10
 .cases c
  .show _=some (Obj.cells #[.bool (b||true)] 4)
   rw[Bool.or_true];exact cQ h.t11
  .show _=some (Obj.cells #[.bool (b||false)] 4)
   rw[Bool.or_false];exact(ft (by show m+1+1≠m+1;omega)).trans h.t11
def Qm.init{a8:World->Prop}{T:Nat}{s:gP}{b9:Nat}{w c w3 d:World}{o:Obj}(f:((((w3.alloc (.cells #[.pointer (some ⟨T,0,none⟩)] 60)).alloc (.cells #[.bool false] 4)).alloc (.cells #[.bool false] 4)).alloc o)=d)(q:c.heap.size=w.heap.size+3)(i:w.grownBy c none)(hb:c.heap[w.heap.size+1]?=some (.cells s.a 32)/\c.heap[w.heap.size+1+1]?=some (.cells #[.int .i64 b9] 3))(j:c.heap.size<=T)(l:T<w3.heap.size)(ae:c.grownBy w3 none)(aC:a8 d):
 Qm a8 T s.k b9 w w3.heap.size false false d:=by
 have h:w3.grownBy d none:=by rw[<-f];exact AP _ _ _ _ _
 have aV:=AR w3 (.cells #[.pointer (some ⟨T,0,none⟩)] 60) (.cells #[.bool false] 4) (.cells #[.bool false] 4) o;rw[f]at aV;have p:=ae.size;have g:∀b x,b<c.heap.size->c.heap[b]?=some x->d.heap[b]?=some x:=λb x hb e=>(h.block b (by omega) (by simp)).trans ((ae.block b hb (by simp)).trans e)
 exact⟨aT (g _ _ (by omega) hb.1),aT (g _ _ (by omega) hb.2),aT aV.1,aV.2.1,aV.2.2.1,aC,(i.trans ae).trans h,(by rw[<-f];simp),by omega,by omega⟩
def Rk(w:World)(a b c:Obj):(((w.alloc a).alloc b).alloc c).heap[w.heap.size+1]?=some b/\(((w.alloc a).alloc b).alloc c).heap[w.heap.size+1+1]?=some c:=by
 refine⟨?_,?_⟩
 .rw[Pq (by simp only[Pp];omega),h' _ _ _ (by simp only[Pp])]
 .rw[h' _ _ _ (by simp only[Pp])]
def QS(d:cR)(p:dU)(s:gP)(b9:Nat)(w w3:World)(T c:Nat)(x:e1)(l:List Value):List Value:=.agg (cO d p)::.agg s.a::.int .i64 b9::.pointer (some ⟨w.heap.size,0,none⟩)::.pointer (some ⟨w.heap.size+1,0,none⟩)::.pointer (some ⟨w.heap.size+1+1,0,none⟩)::.int .i64 0::.int .i64 0::.pointer (some ⟨w3.heap.size,0,none⟩)::.int .i64 0::.pointer (some ⟨w3.heap.size+1,0,none⟩)::.pointer (some ⟨w3.heap.size+1+1,0,none⟩)::.pointer (some ⟨c,0,none⟩)::.tuple #[.pointer (some ⟨T,0,none⟩),.int .i64 0]::.agg #[.int .i64 d.kinds,.slice (some ⟨p.gv,p.hj,none⟩) d.kinds p.eT,.slice (some ⟨p.j9,p.lg,none⟩) d.eY p.h8,.slice p.hE d.fC p.h9]::.agg #[.int .i64 s.k,.int .i64 s.lm,.int .i64 s.bV,.int .i64 s.fm,.int .i64 s.bN]::.int .i64 b9::.tuple #[.pointer (some ⟨T,0,none⟩),.int .i64 0]::.pointer (some ⟨T,0,none⟩)::.int .i64 0::.int .i64 0::.bool false::undef::.agg #[.int .i64 s.k,.int .i64 s.lm,.int .i64 s.bV,.int .i64 s.fm,.int .i64 s.bN]::.func (.func 44) #[] #[.pointer (some ⟨w3.heap.size+1+1+1,0,none⟩)]::.agg #[.int .i64 x.1.1,.int .i64 x.1.2]::l
def RN[S:Std A][P:gg A](d:cR)(ok:d.ok)(p:dU)(w:World)(h:fy w d p)(s:gP)(af:s.ok d)(b9:Nat)(aQ:b9<=999):
 CallsIn Fence.wide 8 (ag A) 11 #[.agg (cO d p),.agg s.a,.int .i64 b9] w λe w'=>e=.returned (.tuple #[.int .i64 (QA d s b9),.int .i64 0])/\w.grownBy w' none:=by
 have aZ:Fence.wide.fn 25:=trivial;have bl:Fence.wide.fn 24:=trivial;have aJ:Fence.wide.fn 44:=trivial;have ax:=ok.kinds;have aj:w.grownBy (((w.alloc (.cells (cO d p) 27)).alloc (.cells s.a 32)).alloc (.cells #[.int .i64 b9] 3)) none:=((Pv w _ _).trans Pn).trans Pn;have aF:=Pj (J5 (A:=A) d ok p _ (h.keep aj) s af b9 aQ);have H:=Pj h;have M:=Rk w (.cells (cO d p) 27) (.cells s.a 32) (.cells #[.int .i64 b9] 3);generalize az:World.alloc (World.alloc (World.alloc w _) _) _=L at aF M aj;have aP:L.heap.size=w.heap.size+3:=by rw[<-az];simp
 have aC:=Pj aj;have M:=Pj M;have aX:=Pj az;have aI:=Pj aP;clear h aj az aP;refine callsIn_of_wp_marks (S.f Tryz.func11) rfl trivial ?_ rfl;simp only[Tryz.ntmps11,List.size_toArray,List.length_cons,List.length_nil,Nat.reduceAdd,Nat.reduceSub,Array.replicate_succ,Array.replicate_zero,List.push_toArray,List.append_toArray,List.nil_append,List.cons_append];refine wpIn_wide.2 ?_;go_wp2;go_step3
 go_wp2_with (go_at_call 24;rw[aX.out];refine aF.out.mono ?_;rintro e w3 ⟨T,rfl,aL,hb,ae⟩;have z:=(ae.block (w.heap.size+1) (by have:=aI.out;omega) (by simp)).trans M.out.1;have a9:=rU z 0;have bc:=rU z 1;have bd:=rU z 2;have bf:=rU z 3;have bg:=rU z 4;have a6:=bp z;have aR:=Pj hb;have aE:=Pj ae;have aG:=Pj aL;clear hb ae aL z)
 go_step3
 go_wp2_with (go_at_call 25;refine(callsIn_wide.1 (wv Fence.wide 7 aZ rfl _ _ _ _ _ _)).mono ?_;rintro e w' ⟨rfl,rfl⟩)
 have X:=Pj (qP ok (H.out.keep aC.out) aG.out aR.out aE.out);have G:=Pj (nx ok X.out.2.2.1 X.out.2.2.2);have a4:s.fm<120:=by have:=af.f;have:=af.hF;omega
 have a3:T<w3.heap.size:=X.out.2.2.2;have aU:=Pj λ(L:World) (a b:Nat) (aa:a<120) (hb:b<120) (j:fh d p T w3.heap.size L)=>
  show Calls (ag A) 20 #[.pointer (some ⟨T,0,none⟩),.int .i64 s.k,.agg #[.int .i64 a,.int .i64 b]] L λe w'=>e=.returned (.int .i64 (fP (d.first s.k) (cC d s.k) a b))/\fh d p T w3.heap.size w'/\L.grownBy w' (some T) by have:=qs (F:=A) G.out (k:=s.k) af.k (by omega) (ba:=cC d s.k) (λday=>by have:=oD ok af.k day;omega) (pD ok X.out.2.2.1 X.out.2.1 af.k) a b aa hb L j;rw[n0 af.k]at this;exact this
 generalize ap:World.alloc (World.alloc (World.alloc (World.alloc w3 _) _) _) _=av;have i:=Qm.init (a8:=fh d p T w3.heap.size) ap aI.out aC.out M.out aG.out a3 aE.out (X.out.1.more ok X.out.2.2.1 X.out.2.2.2 (by rw[<-ap];exact AP _ _ _ _ _));have K:av.heap[w3.heap.size+1+1+1]?=some (.cells s.a 32):=by rw[<-ap];exact(AR _ _ _ _ _).2.2.2
 have a2:lH av (w3.heap.size+1+1+1) s.lm s.bV s.fm s.bN:=⟨aT K,aT K,aT K,aT K⟩
 have a5:=bp K;have ah:=af.l;have a1:=af.bw;have hF:=af.hF;clear ap K a9 bc bd bf bg a6;refine(wpIn_wide (n:=8)).1 ?_;refine wpIn_rangeFunc_ownH rfl (by decide) (gf:=44) (lb:=#[.pointer (some ⟨w3.heap.size+1+1+1,0,none⟩)]) rfl aJ (enters_of (S.f Tryz.func44) (by kernel_rfl) rfl)
  (QY Fence.wide 7 aJ rfl (by decide) (w3.heap.size+1+1+1) s.lm s.bV s.fm s.bN ah a1 hF a4 av a5 a2) fH.t (λW l o aS _ h al _=>fH.b W l o aS h al) (Below.refl _ _) (λ_=>rfl)
  (λpre W=>Qm (fh d p T w3.heap.size) T s.k b9 w w3.heap.size (Qo (d.first s.k) (cC d s.k) b9 pre) (Qp (d.first s.k) (cC d s.k) b9 pre) W)
  (λc pre W=>c=.exit 0/\Qo (d.first s.k) (cC d s.k) b9 pre=true/\Qp (d.first s.k) (cC d s.k) b9 pre=true/\Qm (fh d p T w3.heap.size) T s.k b9 w w3.heap.size true true W)
  (λa7 aY Y row af ae ao=>Qm.step af ae (λr e=>.inr (by have:=(ao r e).1;have:=i.dm;omega)) (G.out.keep _ _ _ af.j ae (λr e=>by have:=(ao r e).1;have:=i.dm;omega)))
  (λc a7 aY Y row af ae ao=>⟨af.1,af.2.1,af.2.2.1,Qm.step af.2.2.2 ae (λr e=>.inr (by have:=(ao r e).1;have:=i.dm;omega)) (G.out.keep _ _ _ af.2.2.2.j ae (λr e=>by have:=(ao r e).1;have:=i.dm;omega))⟩) i
  (λx bb W=>∃q,w3.heap.size+1+1+1+1<=q/\W.cell? ⟨q,0,none⟩=some (.int .i64 x.1.1)/\W.cell? ⟨q,1,none⟩=some (.int .i64 x.1.2)/\bb={tmps:=(QS d p s b9 w w3 T q x [undef,undef,undef,undef,undef,undef,undef,undef,undef,undef,undef,undef,undef,undef,undef,undef,undef,undef,undef]).toArray,defers:=[]})
  (λx bb _ X Y row af ae ao=>by obtain⟨q,I,J,ax,aV⟩:=af;exact⟨q,I,cell_kept J ae (λr e=>(ao r e).2),cell_kept ax ae (λr e=>(ao r e).2),aV⟩) ?assign ?body ?done ?stop
 case assign=>
  rintro l pre x W bh aw B;have aN:=aw.dm;gi_wp2
  refine B _ _ ((KeepsOthers.alloc _ _).from _) (fH.grown (Pv _ _ none) (by simp)) (aw.step (Pv _ _ none) (λr e=>by cases e) (G.out.keep _ _ none aw.j Pn (by intro b e;cases e))) ⟨W.heap.size,aN,Pr rfl,Pr rfl,rfl⟩
 case body=>
  rintro l pre x bb W bo br bj ⟨q,bm,bs,bt,rfl⟩ aO;dsimp only[QS];have bq:(ag A).follows .mixedOrders=true:=by kernel_rfl
  have c4:=bj.t4;have fi:=bj.t5;have nT:=bj.t9;have aN:=bj.dm;have fS:=bj.sr;have bn:=bj.vs;have ay:∀b,b≠T->some b≠some T:=λb h e=>h (Pm e)
  have E:=Pj bj;have a0:fh d p T w3.heap.size W.drew:=G.out.keep _ _ none bj.j ⟨rfl,rfl,rfl,Pk,λ_ _ _=>rfl⟩ (by intro b e;cases e);clear bj;gi_wp2
  refine Go.wpIn_mono (Q:=λe bb U=>e=.normal/\bb={tmps:=(QS d p s b9 w w3 T q x [.pointer (some ⟨T,0,none⟩),.pointer (some ⟨w.heap.size+1,0,none⟩),.int .i64 s.k,.agg #[.int .i64 x.1.1,.int .i64 x.1.2],.int .i64 (fP (d.first s.k) (cC d s.k) x.1.1 x.1.2),.int .i64 (fP (d.first s.k) (cC d s.k) x.1.1 x.1.2),.int .i64 b9,.bool ((fP (d.first s.k) (cC d s.k) x.1.1 x.1.2) == (b9:Int)),undef,undef,undef,undef,undef,undef,undef,undef,undef,undef,undef]).toArray,defers:=[]}/\fh d p T w3.heap.size U/\W.grownBy U (some T)) ?_ ?_
  .gi_region_with_o (first|(refine⟨trivial,?_⟩;gi_at_call 20;refine(CallsIn.inRound l (callsIn_wide.2 (aU.out _ x.1.1 x.1.2 x.2.1 x.2.2 (by first|exact E.out.j|exact a0)))).mono ?_;rintro e U ⟨rfl,Z,C⟩;have bk:=C.cell (a:=⟨w.heap.size+1+1,0,none⟩) fi (ay _ (by dsimp only;omega));have aW:=Pj Z;have f:=Pj C;clear Z C)|(refine⟨trivial,?_⟩;gi_at_call 21;refine(CallsIn.inRound l (callsIn_wide.2 (m' _ _))).mono ?_;rintro e bi ⟨rfl,rfl⟩))
   all_goals exact⟨rfl,rfl,aW.out,⟨f.out.os,f.out.tape,f.out.output,f.out.size,f.out.block⟩⟩
  .rintro e bb U ⟨rfl,rfl,Z,C⟩
   dsimp only[QS];have aK:=E.out.step C (λr e=>.inl (Pm e).symm) Z;have u:=Pj aK;have f:=Pj C;clear aK Z C;have am:∀(b:Nat),w3.heap.size<=b->fh d p T w3.heap.size (U.setCell ⟨b,0,none⟩ (.bool true)):=λb hb=>G.out.keep _ _ _ u.out.j (Qz _ _ _) (λr e=>by have:=Pm e;omega)
   have ad:=aT (o:=0) u.out.t10;have ai:=aT (o:=0) u.out.t11;have f10:=b1 (o:=0) u.out.t10;have f11:=b1 (o:=0) u.out.t11;rcases Bool.eq_false_or_eq_true (fP (d.first s.k) (cC d s.k) x.1.1 x.1.2 == (b9:Int))with hd|hd
   .have g:=u.out.put true (am _ (by simp))
    simp only[if_true,Bool.or_true,Bool.not_true,Bool.or_false]at g;have aA:=aT (o:=0) g.t10;have aB:=aT (o:=0) g.t11;have R:=Pj g;clear g am;rcases Bool.eq_false_or_eq_true (Qp (d.first s.k) (cC d s.k) (b9:Int) pre)with hb|hb
    .rw[hb]at aB ai
     gi_wp2
     refine⟨(KeepsFrom.of_grownBy f.out (λj e=>by have:=Pm e;omega)).trans (KeepsFrom.of_grownBy (Qz _ _ _) (λj e=>by have:=Pm e;omega)),rfl,?_,?_,?_⟩
     .rw[QP];simp[jI,hd,hb]
     .rw[QQ];simp[jI,hd,hb]
     .have:=R.out
      rw[hb]at this;exact this
    .rw[hb]at aB ai
     gi_wp2
     refine⟨(KeepsFrom.of_grownBy f.out (λj e=>by have:=Pm e;omega)).trans (KeepsFrom.of_grownBy (Qz _ _ _) (λj e=>by have:=Pm e;omega)),(fH.grown f.out (ay _ (by omega))).t (fH.grown (Qz _ _ _) (λe=>by have:=Pm e;omega)),?_⟩;have:=R.out;simpa [QP,QQ,jI,hd,hb]using this
   .have g:=u.out.put false (am _ (by simp;omega))
    simp only[Bool.false_eq_true,if_false,Bool.or_true,Bool.not_false,Bool.or_false]at g;have aA:=aT (o:=0) g.t10;have aB:=aT (o:=0) g.t11;have R:=Pj g;clear g am;rcases Bool.eq_false_or_eq_true (Qo (d.first s.k) (cC d s.k) (b9:Int) pre)with hb|hb
    .rw[hb]at aA ad
     gi_wp2
     refine⟨(KeepsFrom.of_grownBy f.out (λj e=>by have:=Pm e;omega)).trans (KeepsFrom.of_grownBy (Qz _ _ _) (λj e=>by have:=Pm e;omega)),rfl,?_,?_,?_⟩
     .rw[QP];simp[jI,hd,hb]
     .rw[QQ];simp[jI,hd,hb]
     .have:=R.out
      rw[hb]at this;exact this
    .rw[hb]at aA ad
     gi_wp2
     refine⟨(KeepsFrom.of_grownBy f.out (λj e=>by have:=Pm e;omega)).trans (KeepsFrom.of_grownBy (Qz _ _ _) (λj e=>by have:=Pm e;omega)),(fH.grown f.out (ay _ (by omega))).t (fH.grown (Qz _ _ _) (λe=>by have:=Pm e;omega)),?_⟩;have:=R.out;simpa [QP,QQ,jI,hd,hb]using this
 case done=>
  rintro D ys W V rfl bj B;have ad:=aT (o:=0) bj.t10;have ai:=aT (o:=0) bj.t11;have E:=Pj bj;have ar:=Pj B;have aq:=Pj V;clear bj B V;have aH:=Pj (Q7 af (b9:Int));rcases Bool.eq_false_or_eq_true (Qo (d.first s.k) (cC d s.k) (b9:Int) (gy s.lm s.fm s.bN (s.bV-s.lm+1)))with he|he<;>rcases Bool.eq_false_or_eq_true (Qp (d.first s.k) (cC d s.k) (b9:Int) (gy s.lm s.fm s.bN (s.bV-s.lm+1)))with ak|ak
  all_goals (
   have aD:=aH.out;rw[he,ak]at aD;have au:=Pj aD;rw[he]at ad;rw[ak]at ai;clear aD aH;gi_wp2
   go_wp2;refine⟨by simp,.inl ⟨_,_,rfl,run_takeDeferred ar.out,?_⟩⟩;refine⟨_,results_tmp2 rfl _ _ _,?_⟩;have aD:QA d s (b9:Int)=_:=au.out;simp only[if_true,Bool.false_eq_true,if_false]at aD;rw[aD];exact⟨rfl,jq E.out.e4 (grownBy_putObj' _ D (.deferred none)) (by have:=aq.out;have:=i.dm;have:=i.sr;omega)⟩)
 case stop=>
  rintro D c pre W V aM ⟨rfl,he,ak,bj⟩ B;have ad:=aT (o:=0) bj.t10;have ai:=aT (o:=0) bj.t11;have E:=Pj bj;have ar:=Pj B;have aq:=Pj V;have aD:=Q7 af (b9:Int);rw[Ri aM he,Rj aM ak]at aD;have au:=Pj aD;clear bj B V aD;gi_wp2
  go_wp2;refine⟨by simp,.inl ⟨_,_,rfl,run_takeDeferred ar.out,?_⟩⟩;refine⟨_,results_tmp2 rfl _ _ _,?_⟩;have aD:QA d s (b9:Int)=_:=au.out;simp only[if_true,Bool.false_eq_true,if_false]at aD;rw[aD];exact⟨rfl,jq E.out.e4 (grownBy_putObj' _ D (.deferred none)) (by have:=aq.out;have:=i.dm;have:=i.sr;omega)⟩
end
end Go.aN
