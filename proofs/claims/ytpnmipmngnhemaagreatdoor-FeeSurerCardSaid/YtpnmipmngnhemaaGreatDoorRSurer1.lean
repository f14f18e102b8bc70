/- A part of FeeSurer: no conditions. -/
import Derived.Test.YtpnmipmngnhemaaGreatDoorRSurer0
set_option maxHeartbeats 8000000
set_option maxRecDepth 100000
set_option linter.all false
namespace Go.aN
open Go.Proofs Go.RowKit Go.Shelf
section
variable{A:Array Func}
def Qt{lm fm d:Nat}{c:e1}:∀{n i},i<=n->c∈gy lm fm d i->c∈gy lm fm d n
 | 0,i,h,al=>by
  obtain rfl:i=0:=by omega
  exact al
 |n+1,i,h,al=>by
  by_cases e:i=n+1
  .rw[<-e];exact al
  .rw[gy,List.mem_append]
   exact .inl (Qt (by omega) al)
def Q4{fm left k n:Nat}(h:k<=n){c:e1}(al:c∈lV fm left k):c∈lV fm left n:=by unfold lV at *;obtain⟨j,aC,rfl⟩:=List.mem_map.1 al;exact List.mem_map.2 ⟨j,List.mem_range.2 (by have:=List.mem_range.1 aC;omega),rfl⟩
def QK{lm f fm d i s k:Nat}(aj:i<f-lm+1)(U:s+k<=d)(af:s=max (lm+i) fm):∀c,c∈gy lm fm d i++lV fm (lm+i) k++[so (lm+i) (s+k)]->c∈gy lm fm d (f-lm+1):=by
 intro c al;refine Qt (i:=i+1) (by omega) ?_;rw[gy,List.mem_append];rw[List.append_assoc,List.mem_append]at al;rcases al with h|h
 .exact .inl h
 .refine .inr (Q4 (k:=k+1) (by omega) ?_)
  rw[KX,<-af];exact h
def QI[S:Std A](F:Fence)(n:Nat)(E:F.fn 73)(M:F.round=none)(ak:1<=n)(l eL lm f fm d:Nat)(ah:lm<=f)(Q:f<120)(aB:d<120)(hm:fm<120){r:World->World->Prop}(I:∀W dt,r W dt->lH W eL lm f fm d->lH dt eL lm f fm d)(g q:List e1->World->Prop)
 (K:∀pre x W,g pre W->pre.length<14400->YieldAt F (n-1) (ag A) l (tT x) W λe dt=>
  (e=.returned (.bool true)/\g (pre++[x]) dt/\r W dt)\/(e=.returned (.bool false)/\q (pre++[x]) dt))
 (W:World) (z:lH W eL lm f fm d) (aP:g [] W) :
 CallsIn F n (ag A) 73 #[.func (.yield l) #[] #[],.pointer (some ⟨eL,0,none⟩)] W λe dt=>(∃v,e=.returned v)/\
  ((∃ys,ys=gy lm fm d (f-lm+1)/\g ys dt)\/(∃pre,(∀c,c∈pre->c∈gy lm fm d (f-lm+1))/\q pre dt)):=by
 refine callsIn_of_wp (S.f Tryz.func73) rfl E ?_ M;simp only[Tryz.ntmps73,List.size_toArray,List.length_cons,List.length_nil,Nat.reduceAdd,Nat.reduceSub,Array.replicate_succ,Array.replicate_zero,List.push_toArray,List.append_toArray,List.nil_append,List.cons_append];obtain⟨c1,c2,c3,c4⟩:=id z;gi_wp2
 gi_loopw [14] (λv wr=>∃i:Nat,v=.int .i64 i/\i<=f-lm+1/\lH wr eL lm f fm d/\g (gy lm fm d i) wr/\(gy lm fm d i).length<=i*120)
  (λv _=>f-lm+1-(g5 v).toNat)
 case atStart=>exact⟨0,rfl,Nat.zero_le _,z,aP,Nat.zero_le _⟩
 case round=>
  obtain⟨i,rfl,aj,B,w,hlen⟩:=hrel;obtain⟨c1,c2,c3,c4⟩:=id B;by_cases aO:i<=f-lm
  .have C:∀k,(lV fm (lm+i) k).length=k:=λk=>by simp[lV]
   obtain⟨s,af⟩:∃s:Nat,s=max (lm+i) fm:=⟨_,rfl⟩
   have h:=Pj af;have p:=Pj C;clear af C;have R:decide ((i:Int)<(f:Int)-lm+1)=true:=by rw[decide_eq_true_eq];omega
   rcases Nat.lt_or_ge (lm+i) fm with hq|hq
   all_goals
    gi_wp2
    gi_loopw [5] (λv wr=>∃k:Nat,v=.int .i64 ((s:Int)+k)/\k<=d+1-s/\lH wr eL lm f fm d/\g (gy lm fm d i++lV fm (lm+i) k) wr)
     (λv _=>d+1-(g5 v).toNat)
    case atStart=>exact⟨0,by have:=h.out;congr 1;omega,Nat.zero_le _,B,by simpa [lV]using w⟩
    case round=>
     obtain⟨k,rfl,U,o,u⟩:=hrel;obtain⟨d1,d2,d3,d4⟩:=id o;have T:lm+i<=s/\fm<=s/\s<120:=by have:=h.out;omega
     by_cases ew:s+k<=d
     .obtain⟨fn,tmps,assign,body,D,cT⟩:=K (gy lm fm d i++lV fm (lm+i) k) (so (lm+i) (s+k)) _ u (by rw[List.length_append,p.out];omega)
      rw[F' (by omega) (by omega)]at D;simp only[Int.natCast_add]at D;gi_wp2
      refine cT.mono ?_;rintro e P (⟨rfl,G,L⟩|⟨rfl,H⟩)
      .have J:=I _ _ L o
       gi_wp2
       go_roundw
       case rel=>
        have j:=h.out;exact⟨k+1,by go_num,by omega,J,by rw[KX,<-j,<-List.append_assoc];exact G⟩
       case measure=>simp[g5];omega
      .gi_wp2
       refine bodyPost_ret (results_none rfl _ _ _) rfl ?_;have j:=h.out;exact⟨⟨_,rfl⟩,.inr ⟨_,QK (by omega) (by omega) (by rw[j]),H⟩⟩
     .gi_wp2
      go_roundw
      case rel=>
       have j:=h.out;refine⟨i+1,by go_num,by omega,o,?_,?_⟩
       .rw[gy,<-j,show d+1-s=k by omega];exact u
       .rw[gy,List.length_append,p.out];omega
      case measure=>simp[g5];omega
  .gi_wp2
   go_end0;have e:i=f-lm+1:=by omega
   exact⟨⟨_,rfl⟩,.inl ⟨_,rfl,by rw[<-e];exact w⟩⟩
def QJ[S:Std A](F:Fence)(n:Nat)(j:F.fn 73)(r:F.round=none)(ak:1<=n)(eL lm d fm f:Nat)(ah:lm<=d)(o:d<120)(aB:f<120)(hm:fm<120)(w:World)(aO:eL<w.heap.size)(g:lH w eL lm d fm f):
 SeqStopsK F n (ag A) 73 #[.pointer (some ⟨eL,0,none⟩)] tT (fH eL) (λys=>ys=gy lm fm f (d-lm+1)) (λpre=>∀c,c∈pre->c∈gy lm fm f (d-lm+1)) 14400 w:=λl h i W hW _ _ q aP=>
 QI F n j r ak l eL lm d fm f ah o aB hm (fH.stay (eL:=eL)) h i q W
  ⟨(hW.cell (p:=⟨eL,1,none⟩) aO).trans g.1,(hW.cell (p:=⟨eL,2,none⟩) aO).trans g.2.1,(hW.cell (p:=⟨eL,3,none⟩) aO).trans g.2.2.1,(hW.cell (p:=⟨eL,4,none⟩) aO).trans g.2.2.2⟩ aP
end
end Go.aN
namespace Go.aN
attribute [local go_sem] Oper.semAt_some
open Go.Proofs Go.RowKit Go.Maps Go.Shelf
section
variable{A:Array Func}
def P6(f:Int)(ba:Nat->Int)(b9:Int)(pre:List e1):Bool:=pre.any λc=>jI f ba c == b9
def P7(f:Int)(ba:Nat->Int)(b9:Int)(pre:List e1):Bool:=pre.any λc=>!(jI f ba c == b9)
def Ql(f:Int)(ba:Nat->Int)(b9:Int)(pre:List e1)(x:e1):P6 f ba b9 (pre++[x])=(P6 f ba b9 pre||(jI f ba x == b9)):=by simp[P6]
def Qm(f:Int)(ba:Nat->Int)(b9:Int)(pre:List e1)(x:e1):P7 f ba b9 (pre++[x])=(P7 f ba b9 pre || !(jI f ba x == b9)):=by simp[P7]
def QQ{f:Int}{ba:Nat->Int}{b9:Int}{pre l:List e1}(h:∀c,c∈pre->c∈l)(he:P6 f ba b9 pre=true):P6 f ba b9 l=true:=by unfold P6 at he ⊢;rw[List.any_eq_true]at he ⊢;obtain⟨c,al,e⟩:=he;exact⟨c,h c al,e⟩
def QR{f:Int}{ba:Nat->Int}{b9:Int}{pre l:List e1}(h:∀c,c∈pre->c∈l)(he:P7 f ba b9 pre=true):P7 f ba b9 l=true:=by unfold P7 at he ⊢;rw[List.any_eq_true]at he ⊢;obtain⟨c,al,e⟩:=he;exact⟨c,h c al,e⟩
def QE{d:cR}{s:gP}(af:s.ok d)(n:Int):P1 d s n=if P6 (d.first s.k) (cC d s.k) n (gy s.lm s.fm s.bN (s.bV-s.lm+1))=true then(if P7 (d.first s.k) (cC d s.k) n (gy s.lm s.fm s.bN (s.bV-s.lm+1))=true then 3 else 1)else 2:=by
 have I:P6 (d.first s.k) (cC d s.k) n (gy s.lm s.fm s.bN (s.bV-s.lm+1))=true↔n∈oC d s:=by rw[Qb];unfold P6;rw[List.any_eq_true];exact⟨λ⟨c,al,e⟩=>⟨c,al,by simpa using e⟩,λ⟨c,al,e⟩=>⟨c,al,by simpa using e⟩⟩
 have J:P7 (d.first s.k) (cC d s.k) n (gy s.lm s.fm s.bN (s.bV-s.lm+1))=true↔∃v,v∈oC d s/\v≠n:=by
  unfold P7;rw[List.any_eq_true];constructor
  .rintro⟨c,al,e⟩
   exact⟨_,(Qb _).2 ⟨c,al,rfl⟩,by simpa using e⟩
  .rintro⟨v,aD,e⟩
   obtain⟨c,al,rfl⟩:=(Qb v).1 aD;exact⟨c,al,by simpa using e⟩
 unfold P1;by_cases c1:n∈oC d s
 .rw[if_pos c1,if_pos (I.2 c1)]
  by_cases c2:∃v,v∈oC d s/\v≠n
  .rw[if_pos c2,if_pos (J.2 c2)]
  .rw[if_neg c2,if_neg λx=>c2 (J.1 x)]
 .rw[if_neg c1,if_neg λx=>c1 (I.1 x)]
structure P5(a8:World->Prop)(T k:Nat)(b9:Int)(w:World)(m:Nat)(a b:Bool)(W:World):Prop where
 t4:W.cell? ⟨w.heap.size+1,0,none⟩=some (.int .i64 k)
 t5:W.cell? ⟨w.heap.size+1+1,0,none⟩=some (.int .i64 b9)
 t9:W.cell? ⟨m,0,none⟩=some (.pointer (some ⟨T,0,none⟩))
 t10:W.heap[m+1]?=some (.cells #[.bool a] 4)
 t11:W.heap[m+1+1]?=some (.cells #[.bool b] 4)
 j:a8 W
 e4:w.grownBy W none
 dm:m+1+1+1+1<=W.heap.size
 sr:w.heap.size+3<=m
 vs:w.heap.size+3<=T/\T<m
def P5.step{d:World->Prop}{T k:Nat}{b9:Int}{w:World}{m:Nat}{a b:Bool}{W dt:World}{row:Option Nat}(h:P5 d T k b9 w m a b W)(ae:W.grownBy dt row)(ao:∀r,row=some r->r=T\/m+4<=r)(aC:d dt):P5 d T k b9 w m a b dt:=by
 have fS:=h.sr;have f:=h.vs;have g:=h.dm;have c:∀b,(w.heap.size+1<=b/\b<w.heap.size+3)\/(m<=b/\b<m+4)->some b≠row:=λb I e=>by rcases ao b e.symm with rfl|ax<;>omega
 have lt:∀b,(w.heap.size+1<=b/\b<w.heap.size+3)\/(m<=b/\b<m+4)->b<W.heap.size:=λb I=>by omega
 refine⟨ae.cell h.t4 (c _ (by dsimp only;omega)),ae.cell h.t5 (c _ (by dsimp only;omega)),ae.cell h.t9 (c _ (by dsimp only;omega)),
  (ae.block _ (lt _ (by omega)) (c _ (by omega))).trans h.t10,(ae.block _ (lt _ (by omega)) (c _ (by omega))).trans h.t11,aC,?_,Po h.dm ae.size,fS,f⟩
 cases row with
 |none=>exact h.e4.trans ae
 |some r=>exact jq h.e4 ae (by rcases ao r rfl with rfl|ax<;>omega)
def Qd(W:World)(b:Nat)(v:Value):W.grownBy (W.setCell ⟨b,0,none⟩ v) (some b):=⟨rfl,rfl,rfl,by simp,λi _ c=>ft (by show i≠b;exact λe=>c (by rw[e]))⟩
def P5.put{d:World->Prop}{T k:Nat}{b9:Int}{w:World}{m:Nat}{a b:Bool}{W:World}(h:P5 d T k b9 w m a b W)(c:Bool)(aC:d (W.setCell ⟨if c then m+1 else m+1+1,0,none⟩ (.bool true))):
 P5 d T k b9 w m (a||c) (b || !c) (W.setCell ⟨if c then m+1 else m+1+1,0,none⟩ (.bool true)):=by
 have fS:=h.sr;have i:=h.vs;have j:=h.dm;have g:=Qd W (if c then m+1 else m+1+1) (.bool true);have f:∀b:Nat,b≠m+1->b≠m+1+1->some b≠some (if c then m+1 else m+1+1):=λb I J e=>by have:=Pm e;cases c<;>simp at this<;>omega
 refine⟨g.cell h.t4 (f _ (by dsimp only;omega) (by dsimp only;omega)),g.cell h.t5 (f _ (by dsimp only;omega) (by dsimp only;omega)),g.cell h.t9 (f _ (by dsimp only;omega) (by dsimp only;omega)),?_,?_,aC,jq h.e4 g (by cases c<;>simp<;>omega),by simpa using j,fS,i⟩
 .cases c
  .rw[Bool.or_false]
   exact(ft (by show m+1≠m+1+1;omega)).trans h.t10
  .rw[Bool.or_true]
   exact cQ h.t10
 .cases c
  .show _=some (Obj.cells #[.bool (b||true)] 4)
   rw[Bool.or_true];exact cQ h.t11
  .show _=some (Obj.cells #[.bool (b||false)] 4)
   rw[Bool.or_false];exact(ft (by show m+1+1≠m+1;omega)).trans h.t11
def P5.init{d:World->Prop}{T:Nat}{s:gP}{b9:Nat}{w c w3:World}{o:Obj}(p:c.heap.size=w.heap.size+3)(h:w.grownBy c none)(hb:c.heap[w.heap.size+1]?=some (.cells s.a 42)/\c.heap[w.heap.size+1+1]?=some (.cells #[.int .i64 b9] 3))(i:c.heap.size<=T)(j:T<w3.heap.size)(ae:c.grownBy w3 none)(aC:d ((((w3.alloc (.cells #[.pointer (some ⟨T,0,none⟩)] 67)).alloc (.cells #[.bool false] 4)).alloc (.cells #[.bool false] 4)).alloc o)):
 P5 d T s.k b9 w w3.heap.size false false ((((w3.alloc (.cells #[.pointer (some ⟨T,0,none⟩)] 67)).alloc (.cells #[.bool false] 4)).alloc (.cells #[.bool false] 4)).alloc o):=by
 have g:=AP w3 (.cells #[.pointer (some ⟨T,0,none⟩)] 67) (.cells #[.bool false] 4) (.cells #[.bool false] 4) o;have aV:=AR w3 (.cells #[.pointer (some ⟨T,0,none⟩)] 67) (.cells #[.bool false] 4) (.cells #[.bool false] 4) o;have l:=ae.size;have f:∀b x,b<c.heap.size->c.heap[b]?=some x->((((w3.alloc (.cells #[.pointer (some ⟨T,0,none⟩)] 67)).alloc (.cells #[.bool false] 4)).alloc (.cells #[.bool false] 4)).alloc o).heap[b]?=some x:=λb x hb e=>(g.block b (by omega) (by simp)).trans ((ae.block b hb (by simp)).trans e)
 exact⟨aT (f _ _ (by omega) hb.1),aT (f _ _ (by omega) hb.2),aT aV.1,aV.2.1,aV.2.2.1,aC,(h.trans ae).trans g,by simp,by omega,by omega⟩
def QS(w:World)(a b c:Obj):(((w.alloc a).alloc b).alloc c).heap[w.heap.size+1]?=some b/\(((w.alloc a).alloc b).alloc c).heap[w.heap.size+1+1]?=some c:=by
 refine⟨?_,?_⟩
 .rw[Pq (by simp only[Pp];omega),h' _ _ _ (by simp only[Pp])]
 .rw[h' _ _ _ (by simp only[Pp])]
def QH[S:Std A][P:gg A](d:cR)(ok:d.ok)(p:dU)(w:World)(h:fy w d p)(s:gP)(af:s.ok d)(b9:Nat)(aQ:b9<=999):
 CallsIn Fence.wide 8 (ag A) 23 #[.agg (cO d p),.agg s.a,.int .i64 b9] w λe w'=>e=.returned (.tuple #[.int .i64 (P1 d s b9),.int .i64 0])/\w.grownBy w' none:=by
 have a0:Fence.wide.fn 48:=trivial;have bl:Fence.wide.fn 47:=trivial;have aK:Fence.wide.fn 73:=trivial;have ax:=ok.kinds;have aq:w.grownBy (((w.alloc (.cells (cO d p) 27)).alloc (.cells s.a 42)).alloc (.cells #[.int .i64 b9] 3)) none:=((Pv w _ _).trans Pn).trans Pn;have aG:=Pj (J5 (A:=A) d ok p _ (h.keep aq) s af b9 aQ);have H:=Pj h;have R:=QS w (.cells (cO d p) 27) (.cells s.a 42) (.cells #[.int .i64 b9] 3);obtain⟨M,au⟩:∃W,W=((w.alloc (.cells (cO d p) 27)).alloc (.cells s.a 42)).alloc (.cells #[.int .i64 b9] 3):=⟨_,rfl⟩
 have aR:M.heap.size=w.heap.size+3:=by rw[au];simp
 rw[<-au]at aG R aq;have aE:=Pj aq;have R:=Pj R;have aY:=Pj au;have aJ:=Pj aR;clear h aq au aR;refine callsIn_of_wp_marks (S.f Tryz.func23) rfl trivial ?_ rfl;simp only[Tryz.ntmps23,List.size_toArray,List.length_cons,List.length_nil,Nat.reduceAdd,Nat.reduceSub,Array.replicate_succ,Array.replicate_zero,List.push_toArray,List.append_toArray,List.nil_append,List.cons_append];refine wpIn_wide.2 ?_;go_wp2;go_step3
 go_wp2_with (go_at_call 47;rw[<-aY.out];refine aG.out.mono ?_;rintro e w3 ⟨T,rfl,aM,hb,ae⟩;have B:=(ae.block (w.heap.size+1) (by have:=aJ.out;omega) (by simp)).trans R.out.1;have a9:∀x y z,(((w3.alloc x).alloc y).alloc z).cell? ⟨w.heap.size+1,0,none⟩=some (.int .i64 s.k):=λx y z=>(rU B 0 x y z).trans rfl;have bc:∀x y z,(((w3.alloc x).alloc y).alloc z).cell? ⟨w.heap.size+1,1,none⟩=some (.int .i64 s.lm):=λx y z=>(rU B 1 x y z).trans rfl;have bd:∀x y z,(((w3.alloc x).alloc y).alloc z).cell? ⟨w.heap.size+1,2,none⟩=some (.int .i64 s.bV):=λx y z=>(rU B 2 x y z).trans rfl;have bf:∀x y z,(((w3.alloc x).alloc y).alloc z).cell? ⟨w.heap.size+1,3,none⟩=some (.int .i64 s.fm):=λx y z=>(rU B 3 x y z).trans rfl;have bg:∀x y z,(((w3.alloc x).alloc y).alloc z).cell? ⟨w.heap.size+1,4,none⟩=some (.int .i64 s.bN):=λx y z=>(rU B 4 x y z).trans rfl;have a7:=bp B;have aU:=Pj hb;have aF:=Pj ae;have aH:=Pj aM;clear hb ae aM B)
 go_step3
 go_wp2_with (go_at_call 48;refine(callsIn_wide.1 (wv Fence.wide 7 a0 rfl _ _ _ _ _ _)).mono ?_;rintro e w' ⟨rfl,rfl⟩)
 have X:=Pj (qP ok (H.out.keep aE.out) aH.out aU.out aF.out);have L:=Pj (nx ok X.out.2.2.1 X.out.2.2.2);have a5:s.fm<120:=by have:=af.f;have:=af.hF;omega
 have a4:T<w3.heap.size:=X.out.2.2.2;have aW:=Pj λ(M:World) (a b:Nat) (aa:a<120) (hb:b<120) (j:fh d p T w3.heap.size M)=>
  show Calls (ag A) 30 #[.pointer (some ⟨T,0,none⟩),.int .i64 s.k,.agg #[.int .i64 a,.int .i64 b]] M λe w'=>e=.returned (.int .i64 (fP (d.first s.k) (cC d s.k) a b))/\fh d p T w3.heap.size w'/\M.grownBy w' (some T) by have:=qs (F:=A) L.out (k:=s.k) af.k (by omega) (ba:=cC d s.k) (λday=>by have:=oD ok af.k day;omega) (pD ok X.out.2.2.1 X.out.2.1 af.k) a b aa hb M j;rw[n0 af.k]at this;exact this
 have i:P5 (fh d p T w3.heap.size) T s.k b9 w w3.heap.size false false ((((w3.alloc (.cells #[.pointer (some ⟨T,0,none⟩)] 67)).alloc (.cells #[.bool false] 4)).alloc (.cells #[.bool false] 4)).alloc (.cells #[.int .i64 s.k,.int .i64 s.lm,.int .i64 s.bV,.int .i64 s.fm,.int .i64 s.bN] 42)):=
  P5.init aJ.out aE.out R.out aH.out a4 aF.out (X.out.1.more ok X.out.2.2.1 X.out.2.2.2 (AP _ _ _ _ _))
 have E:=(AR w3 (.cells #[.pointer (some ⟨T,0,none⟩)] 67) (.cells #[.bool false] 4) (.cells #[.bool false] 4) (.cells #[.int .i64 s.k,.int .i64 s.lm,.int .i64 s.bV,.int .i64 s.fm,.int .i64 s.bN] 42)).2.2.2;obtain⟨ap,az⟩:∃ap,((((w3.alloc (.cells #[.pointer (some ⟨T,0,none⟩)] 67)).alloc (.cells #[.bool false] 4)).alloc (.cells #[.bool false] 4)).alloc (.cells #[.int .i64 s.k,.int .i64 s.lm,.int .i64 s.bV,.int .i64 s.fm,.int .i64 s.bN] 42))=ap:=⟨_,rfl⟩
 rw[az]at i E;rw[az];have a3:lH ap (w3.heap.size+1+1+1) s.lm s.bV s.fm s.bN:=⟨aT E,aT E,aT E,aT E⟩
 have a6:=bp E;have ah:=af.l;have a2:=af.bw;have hF:=af.hF;clear az E a9 bc bd bf bg a7;refine(wpIn_wide (n:=8)).1 ?_;refine wpIn_rangeFunc_ownH rfl (by decide) (gf:=73) (lb:=#[.pointer (some ⟨w3.heap.size+1+1+1,0,none⟩)]) rfl aK (enters_of (S.f Tryz.func73) (by kernel_rfl) rfl)
  (QJ Fence.wide 7 aK rfl (by decide) (w3.heap.size+1+1+1) s.lm s.bV s.fm s.bN ah a2 hF a5 ap a6 a3) fH.t (λW l o aS _ h al _=>fH.b W l o aS h al) (Below.refl _ _) (λ_=>rfl)
  (λpre W=>P5 (fh d p T w3.heap.size) T s.k b9 w w3.heap.size (P6 (d.first s.k) (cC d s.k) b9 pre) (P7 (d.first s.k) (cC d s.k) b9 pre) W)
  (λc pre W=>c=.exit 0/\P6 (d.first s.k) (cC d s.k) b9 pre=true/\P7 (d.first s.k) (cC d s.k) b9 pre=true/\P5 (fh d p T w3.heap.size) T s.k b9 w w3.heap.size true true W)
  (λa8 aZ Y row af ae ao=>P5.step af ae (λr e=>.inr (by have:=(ao r e).1;have:=i.dm;omega)) (L.out.keep _ _ _ af.j ae (λr e=>by have:=(ao r e).1;have:=i.dm;omega)))
  (λc a8 aZ Y row af ae ao=>⟨af.1,af.2.1,af.2.2.1,P5.step af.2.2.2 ae (λr e=>.inr (by have:=(ao r e).1;have:=i.dm;omega)) (L.out.keep _ _ _ af.2.2.2.j ae (λr e=>by have:=(ao r e).1;have:=i.dm;omega))⟩) i
  (λx bb W=>∃q,w3.heap.size+1+1+1+1<=q/\W.cell? ⟨q,0,none⟩=some (.int .i64 x.1.1)/\W.cell? ⟨q,1,none⟩=some (.int .i64 x.1.2)/\bb={tmps:=#[.agg (cO d p),.agg s.a,.int .i64 b9,.pointer (some ⟨w.heap.size,0,none⟩),.pointer (some ⟨w.heap.size+1,0,none⟩),.pointer (some ⟨w.heap.size+1+1,0,none⟩),.int .i64 0,.int .i64 0,.pointer (some ⟨w3.heap.size,0,none⟩),.int .i64 0,.pointer (some ⟨w3.heap.size+1,0,none⟩),.pointer (some ⟨w3.heap.size+1+1,0,none⟩),.pointer (some ⟨q,0,none⟩),.tuple #[.pointer (some ⟨T,0,none⟩),.int .i64 0],.agg #[.int .i64 d.kinds,.slice (some ⟨p.gv,p.hj,none⟩) d.kinds p.eT,.slice (some ⟨p.j9,p.lg,none⟩) d.eY p.h8,.slice p.hE d.fC p.h9],.agg #[.int .i64 s.k,.int .i64 s.lm,.int .i64 s.bV,.int .i64 s.fm,.int .i64 s.bN],.int .i64 b9,.tuple #[.pointer (some ⟨T,0,none⟩),.int .i64 0],.pointer (some ⟨T,0,none⟩),.int .i64 0,.int .i64 0,.bool false,undef,.agg #[.int .i64 s.k,.int .i64 s.lm,.int .i64 s.bV,.int .i64 s.fm,.int .i64 s.bN],.func (.func 73) #[] #[.pointer (some ⟨w3.heap.size+1+1+1,0,none⟩)],.agg #[.int .i64 x.1.1,.int .i64 x.1.2],undef,undef,undef,undef,undef,undef,undef,undef,undef,undef,undef,undef,undef,undef,undef,undef,undef,undef,undef],defers:=[]})
  (λx bb _ X Y row af ae ao=>by obtain⟨q,I,J,ax,aV⟩:=af;exact⟨q,I,cell_kept J ae (λr e=>(ao r e).2),cell_kept ax ae (λr e=>(ao r e).2),aV⟩) ?assign ?body ?done ?stop
 case assign=>
  rintro l pre x W bh aj C;have aP:=aj.dm;gi_wp2
  refine C _ _ ((KeepsOthers.alloc _ _).from _) (fH.grown (Pv _ _ none) (by simp)) (aj.step (Pv _ _ none) (λr e=>by cases e) (L.out.keep _ _ none aj.j Pn (by intro b e;cases e))) ⟨W.heap.size,aP,Pr rfl,Pr rfl,rfl⟩
 case body=>
  rintro l pre x bb W bo br bj ⟨q,bm,bs,bt,rfl⟩ aO;have bq:(ag A).follows .mixedOrders=true:=by kernel_rfl
  have c4:=bj.t4;have fi:=bj.t5;have nT:=bj.t9;have aP:=bj.dm;have fS:=bj.sr;have bn:=bj.vs;have aA:∀b,b≠T->some b≠some T:=λb h e=>h (Pm e)
  have K:=Pj bj;have a1:fh d p T w3.heap.size W.drew:=L.out.keep _ _ none bj.j ⟨rfl,rfl,rfl,Pk,λ_ _ _=>rfl⟩ (by intro b e;cases e);clear bj;gi_wp2
  refine Go.wpIn_mono (Q:=λe bb V=>e=.normal/\bb={tmps:=#[.agg (cO d p),.agg s.a,.int .i64 b9,.pointer (some ⟨w.heap.size,0,none⟩),.pointer (some ⟨w.heap.size+1,0,none⟩),.pointer (some ⟨w.heap.size+1+1,0,none⟩),.int .i64 0,.int .i64 0,.pointer (some ⟨w3.heap.size,0,none⟩),.int .i64 0,.pointer (some ⟨w3.heap.size+1,0,none⟩),.pointer (some ⟨w3.heap.size+1+1,0,none⟩),.pointer (some ⟨q,0,none⟩),.tuple #[.pointer (some ⟨T,0,none⟩),.int .i64 0],.agg #[.int .i64 d.kinds,.slice (some ⟨p.gv,p.hj,none⟩) d.kinds p.eT,.slice (some ⟨p.j9,p.lg,none⟩) d.eY p.h8,.slice p.hE d.fC p.h9],.agg #[.int .i64 s.k,.int .i64 s.lm,.int .i64 s.bV,.int .i64 s.fm,.int .i64 s.bN],.int .i64 b9,.tuple #[.pointer (some ⟨T,0,none⟩),.int .i64 0],.pointer (some ⟨T,0,none⟩),.int .i64 0,.int .i64 0,.bool false,undef,.agg #[.int .i64 s.k,.int .i64 s.lm,.int .i64 s.bV,.int .i64 s.fm,.int .i64 s.bN],.func (.func 73) #[] #[.pointer (some ⟨w3.heap.size+1+1+1,0,none⟩)],.agg #[.int .i64 x.1.1,.int .i64 x.1.2],.pointer (some ⟨T,0,none⟩),.pointer (some ⟨w.heap.size+1,0,none⟩),.int .i64 s.k,.agg #[.int .i64 x.1.1,.int .i64 x.1.2],.int .i64 (fP (d.first s.k) (cC d s.k) x.1.1 x.1.2),.int .i64 (fP (d.first s.k) (cC d s.k) x.1.1 x.1.2),.int .i64 b9,.bool ((fP (d.first s.k) (cC d s.k) x.1.1 x.1.2) == (b9:Int)),undef,undef,undef,undef,undef,undef,undef,undef,undef,undef,undef],defers:=[]}/\fh d p T w3.heap.size V/\W.grownBy V (some T)) ?_ ?_
  .gi_region_with_o (first|(refine⟨trivial,?_⟩;gi_at_call 30;refine(CallsIn.inRound l (callsIn_wide.2 (aW.out _ x.1.1 x.1.2 x.2.1 x.2.2 (by first|exact K.out.j|exact a1)))).mono ?_;rintro e V ⟨rfl,ad,G⟩;have bk:=G.cell (a:=⟨w.heap.size+1+1,0,none⟩) fi (aA _ (by dsimp only;omega));have aX:=Pj ad;have f:=Pj G;clear ad G)|(refine⟨trivial,?_⟩;gi_at_call 31;refine(CallsIn.inRound l (callsIn_wide.2 (m' _ _))).mono ?_;rintro e bi ⟨rfl,rfl⟩))
   all_goals exact⟨rfl,rfl,aX.out,⟨f.out.os,f.out.tape,f.out.output,f.out.size,f.out.block⟩⟩
  .rintro e bb V ⟨rfl,rfl,ad,G⟩
   have aL:=K.out.step G (λr e=>.inl (Pm e).symm) ad;have u:=Pj aL;have f:=Pj G;clear aL ad G;have ar:∀(b:Nat),w3.heap.size<=b->fh d p T w3.heap.size (V.setCell ⟨b,0,none⟩ (.bool true)):=λb hb=>L.out.keep _ _ _ u.out.j (Qd _ _ _) (λr e=>by have:=Pm e;omega)
   have ai:=aT (o:=0) u.out.t10;have am:=aT (o:=0) u.out.t11;have f10:=b1 (o:=0) u.out.t10;have f11:=b1 (o:=0) u.out.t11;rcases Bool.eq_false_or_eq_true (fP (d.first s.k) (cC d s.k) x.1.1 x.1.2 == (b9:Int))with hd|hd
   .have g:=u.out.put true (ar _ (by simp))
    simp only[if_true,Bool.or_true,Bool.not_true,Bool.or_false]at g;have aB:=aT (o:=0) g.t10;have aC:=aT (o:=0) g.t11;have U:=Pj g;clear g ar;rcases Bool.eq_false_or_eq_true (P7 (d.first s.k) (cC d s.k) (b9:Int) pre)with hb|hb
    .rw[hb]at aC am
     gi_wp2
     refine⟨(KeepsFrom.of_grownBy f.out (λj e=>by have:=Pm e;omega)).trans (KeepsFrom.of_grownBy (Qd _ _ _) (λj e=>by have:=Pm e;omega)),rfl,?_,?_,?_⟩
     .rw[Ql];simp[jI,hd,hb]
     .rw[Qm];simp[jI,hd,hb]
     .have:=U.out
      rw[hb]at this;exact this
    .rw[hb]at aC am
     gi_wp2
     refine⟨(KeepsFrom.of_grownBy f.out (λj e=>by have:=Pm e;omega)).trans (KeepsFrom.of_grownBy (Qd _ _ _) (λj e=>by have:=Pm e;omega)),(fH.grown f.out (aA _ (by omega))).t (fH.grown (Qd _ _ _) (λe=>by have:=Pm e;omega)),?_⟩;show P5 (fh d p T w3.heap.size) T s.k (b9:Int) w w3.heap.size (P6 (d.first s.k) (cC d s.k) (b9:Int) (pre++[x])) (P7 (d.first s.k) (cC d s.k) (b9:Int) (pre++[x])) _;rw[Ql,Qm];have:=U.out;simpa [jI,hd,hb]using this
   .have g:=u.out.put false (ar _ (by simp;omega))
    simp only[Bool.false_eq_true,if_false,Bool.or_true,Bool.not_false,Bool.or_false]at g;have aB:=aT (o:=0) g.t10;have aC:=aT (o:=0) g.t11;have U:=Pj g;clear g ar;rcases Bool.eq_false_or_eq_true (P6 (d.first s.k) (cC d s.k) (b9:Int) pre)with hb|hb
    .rw[hb]at aB ai
     gi_wp2
     refine⟨(KeepsFrom.of_grownBy f.out (λj e=>by have:=Pm e;omega)).trans (KeepsFrom.of_grownBy (Qd _ _ _) (λj e=>by have:=Pm e;omega)),rfl,?_,?_,?_⟩
     .rw[Ql];simp[jI,hd,hb]
     .rw[Qm];simp[jI,hd,hb]
     .have:=U.out
      rw[hb]at this;exact this
    .rw[hb]at aB ai
     gi_wp2
     refine⟨(KeepsFrom.of_grownBy f.out (λj e=>by have:=Pm e;omega)).trans (KeepsFrom.of_grownBy (Qd _ _ _) (λj e=>by have:=Pm e;omega)),(fH.grown f.out (aA _ (by omega))).t (fH.grown (Qd _ _ _) (λe=>by have:=Pm e;omega)),?_⟩;show P5 (fh d p T w3.heap.size) T s.k (b9:Int) w w3.heap.size (P6 (d.first s.k) (cC d s.k) (b9:Int) (pre++[x])) (P7 (d.first s.k) (cC d s.k) (b9:Int) (pre++[x])) _;rw[Ql,Qm];have:=U.out;simpa [jI,hd,hb]using this
 case done=>
  rintro D ys W Z rfl bj C;have ai:=aT (o:=0) bj.t10;have am:=aT (o:=0) bj.t11;have K:=Pj bj;have aw:=Pj C;have av:=Pj Z;clear bj C Z;have aI:=Pj (QE af (b9:Int));rcases Bool.eq_false_or_eq_true (P6 (d.first s.k) (cC d s.k) (b9:Int) (gy s.lm s.fm s.bN (s.bV-s.lm+1)))with he|he<;>rcases Bool.eq_false_or_eq_true (P7 (d.first s.k) (cC d s.k) (b9:Int) (gy s.lm s.fm s.bN (s.bV-s.lm+1)))with ak|ak
  all_goals (
   have aD:=aI.out;rw[he,ak]at aD;have ay:=Pj aD;rw[he]at ai;rw[ak]at am;clear aD aI;gi_wp2
   go_wp2;refine⟨by simp,.inl ⟨_,_,rfl,run_takeDeferred aw.out,?_⟩⟩;refine⟨_,results_tmp2 rfl _ _ _,?_⟩;have aD:P1 d s (b9:Int)=_:=ay.out;simp only[if_true,Bool.false_eq_true,if_false]at aD;rw[aD];exact⟨rfl,jq K.out.e4 (grownBy_putObj' _ D (.deferred none)) (by have:=av.out;have:=i.dm;have:=i.sr;omega)⟩)
 case stop=>
  rintro D c pre W Z aN ⟨rfl,he,ak,bj⟩ C;have ai:=aT (o:=0) bj.t10;have am:=aT (o:=0) bj.t11;have K:=Pj bj;have aw:=Pj C;have av:=Pj Z;have aD:=QE af (b9:Int);rw[QQ aN he,QR aN ak]at aD;have ay:=Pj aD;clear bj C Z aD;gi_wp2
  go_wp2;refine⟨by simp,.inl ⟨_,_,rfl,run_takeDeferred aw.out,?_⟩⟩;refine⟨_,results_tmp2 rfl _ _ _,?_⟩;have aD:P1 d s (b9:Int)=_:=ay.out;simp only[if_true,Bool.false_eq_true,if_false]at aD;rw[aD];exact⟨rfl,jq K.out.e4 (grownBy_putObj' _ D (.deferred none)) (by have:=av.out;have:=i.dm;have:=i.sr;omega)⟩
end
end Go.aN
