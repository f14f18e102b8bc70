/- A part of FeeFree: no conditions. -/
import Derived.Test.YtpnmipmngnhemaaGreatDoorP41
set_option maxHeartbeats 8000000
set_option maxRecDepth 100000
set_option linter.all false
namespace Go.aN
open Go.Proofs Go.RowKit
section
variable{F:Array Func}[S:Std F]
@[simp] theorem ag.call19:dg F 10:=dS Tryz.func10
@[simp] theorem ag.call37:dg F 18:=dS Tryz.func18
@[simp] theorem ag.call38:dg F 11:=dS Tryz.func11
@[simp] theorem ag.call41:dg F 19:=dS Tryz.func19
end
section
variable{A:Array Func}
def Q'{w:World}{B n:Nat}{v:Value}{f:Nat->Int}(ak:0<n)(h:w.ownsRow B 3 1 v n ((List.range n).map λj=>fX (f j))):∃g cap cur,v=.slice (some ⟨g,0,none⟩) n cap/\B<=g/\w.heap[g]?=some (.cells cur 3)/\iD w g 0 n f:=by
 obtain⟨g,cap,cur,rfl,I,_,J,ax⟩:=xY h ak;refine⟨g,cap,cur,rfl,I,J,λj aC=>?_⟩;rw[aT J,Nat.zero_add,<-Array.getElem?_toList];have e:(cur.toList.take n)[j]?=some (fX (f j)):=by rw[ax];simp[aC]
 rw[List.getElem?_take,if_pos aC]at e;exact e
def Rn(b:Nat)(q:Option Addr)(c:Nat)(w:World):Sem.run (ag A) (Builtin.append_ #[22,22] 22 #[.slice (some ⟨b,0,none⟩) 0 0,.slice q 0 c]) w=.ok (.slice (some ⟨b,0,none⟩) 0 0) w:=by cases q<;>kernel_rfl
def Rr{ops:Array Oper}{rest:List Oper}{o:Oper}{a:Act}{Q:Exit->Act->World->Prop}{w:World}(f:o.guard=none)(s x:Operand)(av:o.op=.call {callee:=.builtin .append,args:=#[s,x],argTypes:=#[22,22]})(az:o.type=22)(b:Nat)(q:Option Addr)(c:Nat)(af:a.eval s=.slice (some ⟨b,0,none⟩) 0 0)(g:a.eval x=.slice q 0 c)(h:wpList (ag A) ops Q rest (a.put o.dst (.slice (some ⟨b,0,none⟩) 0 0)) w):
 wpList (ag A) ops Q (o::rest) a w:=by
 refine wpList_plain f λK d=>?_
 unfold Oper.wp execOp;simp only[av,az,resolve,invoke,builtin,Sem.run_bind,Sem.run_pure,Result.andThen_ok,List.map_toArray,List.map_cons,List.map_nil,af,g,Rn];exact d _ _ h
def QE[S:Std A](q:Option Addr)(n c:Nat)(f:Nat->Int)(ak:n<=100)(w:World)(h:n≠0->∃b o,q=some ⟨b,o,none⟩/\iD w b o n f):
 Calls (ag A) 11 #[.slice q n c] w λe w'=>∃bb:Nat,(∃bo:Nat,e=.returned (.slice (some ⟨bb,0,none⟩) n bo))/\w.heap.size<=bb/\(∃cur:Array Value,w'.heap[bb]?=some (.cells cur 3))/\iD w' bb 0 n f/\w.grownBy w' none:=by
 obtain⟨P,l,p,r,z⟩:=xj (A:=A);by_cases aP:n=0
 .subst aP
  clear h l p r z;go_enter (S.f Tryz.func11),Tryz.ntmps11;go_wp2_with (at_builtin;refine Rr rfl _ _ rfl rfl w.heap.size q c rfl rfl ?_)
  go_ret;exact⟨w.heap.size,⟨0,rfl⟩,Pk,⟨#[],gA _ _⟩,λj aC=>by omega,Pn⟩
 .obtain⟨b,o,rfl,af⟩:=h aP
  have H:=Pj af;have D:=Pj l;have I:=Pj p;have J:=Pj r;have K:=Pj z;have E:=Pj (mV (af 0 (by omega)));have bO:(w.alloc (.cells #[] 3)).ownsRow w.heap.size 3 1 (.slice (some ⟨w.heap.size,0,none⟩) 0 0) 0 []:=⟨rfl,.inr ⟨w.heap.size,0,#[],rfl,Pk,gA _ _,Pk,by unfold maxLen;omega,rfl,rfl⟩⟩
  have L:=Pj bO;clear l p r z bO af h;go_enter (S.f Tryz.func11),Tryz.ntmps11;have F:=Pj (show ∀(j:Nat) u,((List.range n).map λj=>fX (f j))[j]?=some u->(w.alloc (.cells #[] 3)).cell? ((⟨b,o,none⟩:Addr).add j)=some u from λj u aC=>by
   have B:j<n/\fX (f j)=u:=by
    rw[List.getElem?_map]at aC;rcases Nat.lt_or_ge j n with x|x
    .rw[List.getElem?_range x]at aC
     exact⟨x,by simpa using aC⟩
    .rw[List.getElem?_eq_none (by simpa using x)]at aC
     cases aC
   have:=H.out j B.1;rw[show((⟨b,o,none⟩:Addr).add j)=⟨b,o+j,none⟩ by simp[Addr.add]];rw[<-B.2];exact(Pz _ _ _ E.out).trans this)
  have G:=Pj (show ∀u∈(List.range n).map (λj=>fX (f j)),u.oneCell'=true from λu hu=>by obtain⟨n,_,rfl⟩:=List.mem_map.1 hu;rfl)
  go_wp2_with (at_builtin;refine wpList_append_own_at _ rfl _ _ 22 rfl w.heap.size 3 P (.int .i64 0) 1 8 (ag.underlying22 A) D.out I.out J.out K.out rfl (by decide) _ 0 _ rfl L.out ⟨b,o,none⟩ n c ((List.range n).map λj=>fX (f j)) rfl (by simp) F.out G.out (by unfold maxLen;omega) (by omega) (by simp) ?_;intro R T C d Q aJ)
  go_ret;rw[Nat.zero_add,List.nil_append]at C;obtain⟨g,cap,cur,rfl,ae,hb,M⟩:=Q' (by omega) C;refine⟨g,⟨cap,rfl⟩,ae,⟨cur,hb⟩,M,?_⟩;refine⟨d.os,d.tape,d.output,Po (by simp) d.size,λi l _=>(d.block i (by simp;omega) (λe=>?_)).trans (Pq l)⟩;have e:some i=some w.heap.size:=e;have:=Pm e;omega
end
section
variable{A:Array Func}
def iD.Qb{w w':World}{b o n:Nat}{f:Nat->Int}(h:iD w b o n f)(k:w'.heap[b]?=w.heap[b]?):iD w' b o n f:=λj aC=>(World.cell?_of_block k).trans (h j aC)
def fy.Qb{w w':World}{d:cR}{p:dU}{B:Nat}(h:fy w d p)(hb:p.below d B)(k:∀i,i<B->w'.heap[i]?=w.heap[i]?):fy w' d p where
 first:=h.first.Qb (k _ hb.F)
 dz i c:=(World.cell?_of_block (k _ hb.R)).trans (h.dz i c)
 rows i c:=(World.cell?_of_block (k _ hb.R)).trans (h.rows i c)
 fD i c:=(h.fD i c).Qb (k _ (hb.P i c))
 free ak:=by obtain⟨b,o,e,n⟩:=h.free ak;exact⟨b,o,e,n.Qb (k _ (hb.rL b o ak e))⟩
def QA(d:cR)(i b c:Nat):List Value:=[.int .i64 (d.dz i),.slice (some ⟨b,0,none⟩) d.kinds c]
def Qe(d:cR)(im j':Nat->Nat):Nat->List Value
 | 0=>[]
 |m+1=>Qe d im j' m++QA d m (im m) (j' m)
def QT(d:cR)(im j':Nat->Nat):∀m,(Qe d im j' m).length=m*2
 | 0=>rfl
 |m+1=>by simp only[Qe,List.length_append,QT d im j' m,QA,List.length_cons,List.length_nil];omega
def QS(d:cR){im j' c f:Nat->Nat}:∀m,(∀i,i<m->im i=c i/\j' i=f i)->Qe d im j' m=Qe d c f m
 | 0,_=>rfl
 |m+1,h=>by simp only[Qe];rw[QS d m λi g=>h i (by omega),(h m (by omega)).1,(h m (by omega)).2]
def QF(d:cR)(im j':Nat->Nat):∀m i,i<m->(Qe d im j' m)[i*2]?=some (.int .i64 (d.dz i))/\(Qe d im j' m)[i*2+1]?=some (.slice (some ⟨im i,0,none⟩) d.kinds (j' i))
 | 0,_,h=>by omega
 |m+1,i,h=>by
  simp only[Qe];have ah:=QT d im j' m;by_cases c:i<m
  .have:=QF d im j' m i c
   rw[PF (by omega),PF (by omega)];exact this
  .obtain rfl:i=m:=by omega
   rw[PE (by omega),PE (by omega),ah,Nat.sub_self,Nat.add_sub_cancel_left];exact⟨rfl,rfl⟩
structure Qj(Qk B:Nat)(d:cR)(p:dU)(P8 PY P0 eT P1 h9:Nat)(im j':Nat->Nat)(m:Nat)(fu:Value)(w:World):Prop where
 src:fy w d p
 mn:w.heap[P8]?=some (.cells (cO d p) 27)
 blk:w.heap[PY]?=some (.cells (mE d.kinds (.slice (some ⟨P0,0,none⟩) d.kinds eT) fu (.slice (some ⟨P1,0,none⟩) d.fC h9)) 27)
 own:w.ownsRow B 33 2 fu m (Qe d im j' m)
 fD:∀i,i<m->iD w (im i) 0 d.kinds (d.fD i)/\(∃cur:Array Value,w.heap[im i]?=some (.cells cur 3))/\B<=im i/\fu.ownBlock≠some (im i)
 rP:∀i j,i<j->j<m->im i<im j
 first:iD w P0 0 d.kinds d.first/\∃cur:Array Value,w.heap[P0]?=some (.cells cur 3)
 free:iD w P1 0 d.fC d.free
 b4:Qk<=P8/\Qk<=PY/\Qk<=P0/\Qk<=P1/\P8<B/\PY<B/\P0<B/\P1<B/\P8≠PY/\PY≠P0/\PY≠P1/\P0≠P1
 dm:B<=w.heap.size
def Qj.next{C B:Nat}{d:cR}{p:dU}{K PY E eT H h9:Nat}{im j':Nat->Nat}{m:Nat}{q:Value}{wr:World}(br:Qj C B d p K PY E eT H h9 im j' m q wr)(hb:p.below d C){g l:World}{o:Obj}{c F f cap:Nat}(L:wr.drew.grownBy g none)(am:wr.heap.size<=c)(al:∃cur:Array Value,g.heap[c]?=some (.cells cur 3))(ae:iD g c 0 d.kinds (d.fD m))(w:(g.alloc o).grownBy l q.ownBlock)(aJ:q.ownBlock=some f\/f=g.heap.size+1)(aj:l.ownsRow B 33 2 (.slice (some ⟨f,0,none⟩) (m+1) cap) (m+1) (Qe d im j' m++QA d m c F)):
 Qj C B d p K PY E eT H h9 (λi=>if i=m then c else im i) (λi=>if i=m then F else j' i) (m+1) (.slice (some ⟨f,0,none⟩) (m+1) cap) (l.setCell ⟨PY,2,none⟩ (.slice (some ⟨f,0,none⟩) (m+1) cap))/\
  (∀X:World,X.heap.size<=C->X.grownBy wr none->X.grownBy (l.setCell ⟨PY,2,none⟩ (.slice (some ⟨f,0,none⟩) (m+1) cap)) none)/\∀i,i<B->i≠PY->(l.setCell ⟨PY,2,none⟩ (.slice (some ⟨f,0,none⟩) (m+1) cap)).heap[i]?=wr.heap[i]?:=by
 obtain⟨ap,av,aw,ay,ag,az,W,ah,ai,aq,ar,au⟩:=br.b4;have M:∀r,q.ownBlock=some r->B<=r/\r<wr.heap.size:=λr e=>xX br.own r e
 have z:=br.dm;have aA:wr.heap.size<=g.heap.size:=L.size;have ak:=w.size;simp at ak;have V:∀i,i<wr.heap.size->g.heap[i]?=wr.heap[i]?:=λi u=>L.block i u (by simp)
 have Q:∀i,i<g.heap.size->q.ownBlock≠some i->l.heap[i]?=g.heap[i]?:=λi I J=>(w.block i (by simp;omega) (λe=>J e.symm)).trans (Pq I)
 have AY:∀i,i≠PY->(l.setCell ⟨PY,2,none⟩ (.slice (some ⟨f,0,none⟩) (m+1) cap)).heap[i]?=l.heap[i]?:=λi h=>ft (by show i≠PY;exact h)
 have keep:∀i,i<wr.heap.size->i≠PY->q.ownBlock≠some i->(l.setCell ⟨PY,2,none⟩ (.slice (some ⟨f,0,none⟩) (m+1) cap)).heap[i]?=wr.heap[i]?:=λi I J ax=>(AY i J).trans ((Q i (by omega) ax).trans (V i I))
 have low:∀i,i<B->i≠PY->(l.setCell ⟨PY,2,none⟩ (.slice (some ⟨f,0,none⟩) (m+1) cap)).heap[i]?=wr.heap[i]?:=λi I J=>keep i (by omega) J λe=>by have:=(M i e).1;omega
 have S:c<g.heap.size:=by obtain⟨cur,h⟩:=al;exact bp h
 have T:q.ownBlock≠some c:=λe=>by have:=(M c e).2;omega
 have ad:l.heap[PY]?=_:=((Q PY (by omega) (λe=>by have:=(M PY e).1;omega)).trans (V PY (by omega))).trans br.blk;have U:∀i,i<g.heap.size->q.ownBlock≠some i->(some f:Option Nat)≠some i:=λi I J e=>by
  have e:=Pm e;subst e;rcases aJ with h|h
  .exact J h
  .omega
 refine⟨⟨br.src.Qb hb λi u=>low i (by omega) (by omega),(low K ag ai).trans br.mn,cQ ad,?_,λi u=>?_,λi j I J=>?_,⟨br.first.1.Qb (low E W (by omega)),?_⟩,br.free.Qb (low H ah (by omega)),br.b4,by simp;omega⟩,λX ao P=>?_,low⟩
 .have e:Qe d (λi=>if i=m then c else im i) (λi=>if i=m then F else j' i) (m+1)=Qe d im j' m++QA d m c F:=by simp only[Qe,if_true];rw[QS d m λi u=>⟨if_neg (by omega),if_neg (by omega)⟩]
  rw[e];exact kq aj λi I J=>AY i (by omega)
 .by_cases hm:i=m
  .subst hm
   simp only[if_true];have J:(l.setCell ⟨PY,2,none⟩ (.slice (some ⟨f,0,none⟩) (i+1) cap)).heap[c]?=g.heap[c]?:=(AY c (by omega)).trans (Q c S T);exact⟨ae.Qb J,by obtain⟨cur,h⟩:=al;exact⟨cur,J.trans h⟩,by omega,U c S T⟩
  .simp only[if_neg hm]
   obtain⟨q1,⟨cur,G⟩,Y,R⟩:=br.fD i (by omega);have Z:=bp G;have J:=keep (im i) Z (by omega) R;exact⟨q1.Qb J,⟨cur,J.trans G⟩,Y,U _ (by omega) R⟩
 .by_cases aC:j=m
  .subst aC
   simp only[if_true,if_neg (show i≠j by omega)];obtain⟨q1,⟨cur,G⟩,Y,R⟩:=br.fD i I;have Z:=bp G;omega
  .simp only[if_neg aC,if_neg (show i≠m by omega)]
   exact br.rP i j I (by omega)
 .obtain⟨cur,h⟩:=br.first.2
  exact⟨cur,(low E W (by omega)).trans h⟩
 .have aa:X.grownBy wr.drew none:=fQ P
  have D:=(aa.trans L).trans (Pv _ o none);have af:=P.size;refine⟨?_,?_,?_,?_,λi u _=>?_⟩
  .exact w.os.trans D.os
  .exact w.tape.trans D.tape
  .exact w.output.trans D.output
  .have:=D.size;simp at this ⊢;omega
  .exact(low i (by omega) (by omega)).trans (P.block i u (by simp))
abbrev Qr:Array Value:=#[.int .i64 0,.slice none 0 0,.slice none 0 0,.slice none 0 0]
def Qj.begin{w X W:World}{d:cR}{p:dU}{PY c eT f h9:Nat}{im j':Nat->Nat}(src:fy X d p)(hb:p.below d w.heap.size)(mn:X.heap[w.heap.size]?=some (.cells (cO d p) 27))(J:X.heap[w.heap.size+1]?=some (.cells Qr 27))(g:w.grownBy X none)(hF:iD X c 0 d.kinds d.first)(q:∃cur:Array Value,X.heap[c]?=some (.cells cur 3))(r:iD X f 0 d.fC d.free)(b4:w.heap.size+1<PY/\w.heap.size+1<c/\w.heap.size+1<f/\PY<W.heap.size/\c<X.heap.size/\f<X.heap.size/\PY≠c/\PY≠f/\c≠f)(ax:W.heap[PY]?=some (.cells (mE d.kinds (.slice (some ⟨c,0,none⟩) d.kinds eT) (.slice none 0 0) (.slice (some ⟨f,0,none⟩) d.fC h9)) 27))(k:∀i,i<X.heap.size->i≠PY->W.heap[i]?=X.heap[i]?)(z:X.heap.size<=W.heap.size)(av:W.os=X.os/\W.tape=X.tape/\W.output=X.output):
 Qj w.heap.size W.heap.size d p w.heap.size PY c eT f h9 im j' 0 (.slice none 0 0) W/\w.grownBy W none/\W.heap[w.heap.size+1]?=some (.cells Qr 27)/\(w.heap.size+1≠c/\w.heap.size+1≠f/\w.heap.size+1≠PY/\w.heap.size+1<W.heap.size):=by
 obtain⟨B,C,D,E,o,u,F,G,H⟩:=b4;have af:=g.size;refine⟨⟨src.Qb hb λi l=>k i (by omega) (by omega),(k _ (by omega) (by omega)).trans mn,ax,⟨rfl,.inl ⟨rfl,rfl⟩⟩,λi l=>by omega,λi j I J=>by omega,⟨hF.Qb (k c o (by omega)),?_⟩,r.Qb (k f u (by omega)),by omega,Pk⟩,⟨av.1.trans g.os,av.2.1.trans g.tape,av.2.2.trans g.output,by omega,λi l ao=>(k i (by omega) (by omega)).trans (g.block i l ao)⟩,(k _ (by omega) (by omega)).trans J,by omega⟩;obtain⟨cur,h⟩:=q;exact⟨cur,(k c o (by omega)).trans h⟩
def Qm{X:World}{b:Nat}{v0 v1 v2 v3:Value}{c:Array Value}(h:X.heap[b]?=some (.cells c 27)):((((X.setCell ⟨b,0,none⟩ v0).setCell ⟨b,1,none⟩ v1).setCell ⟨b,2,none⟩ v2).setCell ⟨b,3,none⟩ v3).heap[b]?=some (.cells ((((c.setIfInBounds 0 v0).setIfInBounds 1 v1).setIfInBounds 2 v2).setIfInBounds 3 v3) 27)/\
 ∀i,i≠b->((((X.setCell ⟨b,0,none⟩ v0).setCell ⟨b,1,none⟩ v1).setCell ⟨b,2,none⟩ v2).setCell ⟨b,3,none⟩ v3).heap[i]?=X.heap[i]?:=
 ⟨cQ (cQ (cQ (cQ h))),λi h=>(ft (by show i≠b;exact h)).trans ((ft (by show i≠b;exact h)).trans ((ft (by show i≠b;exact h)).trans (ft (by show i≠b;exact h))))⟩
structure KeptAt(w:World)(d:cR)(p:dU)(w':World):Prop where
 sV:fy w' d p
 first:w.heap.size<=p.gv/\p.hj=0/\∃cur:Array Value,w'.heap[p.gv]?=some (.cells cur 3)
 Rm:w.heap.size<=p.j9/\p.j9≠p.gv
 fD:∀i,i<d.eY->w.heap.size<=p.im i/\p.sy i=0/\p.im i≠p.gv/\p.im i≠p.j9/\∃cur:Array Value,w'.heap[p.im i]?=some (.cells cur 3)
 apart:∀i j,i<j->j<d.eY->p.im i<p.im j
 free:∀b o,p.hE=some ⟨b,o,none⟩->w.heap.size<=b/\b≠p.gv/\b≠p.j9/\∀i,i<d.eY->b≠p.im i
def Qj.done{w wr r:World}{B:Nat}{d:cR}{p:dU}{u PY l eT q h9 g h8:Nat}{im j':Nat->Nat}{cur:Array Value}(br:Qj w.heap.size B d p u PY l eT q h9 im j' d.eY (.slice (some ⟨g,0,none⟩) d.eY h8) wr)(cT:B<=g/\wr.heap[g]?=some (.cells cur 33)/\cur.toList.take (d.eY*2)=Qe d im j' d.eY)(F:w.heap.size+1≠l/\w.heap.size+1≠q/\w.heap.size+1≠PY/\w.heap.size+1<B)(k:∀i,i≠w.heap.size+1->r.heap[i]?=wr.heap[i]?):
 KeptAt w d ⟨l,0,eT,g,0,h8,im,λ_=>0,j',some ⟨q,0,none⟩,h9⟩ r:=by
 obtain⟨I,J,ax⟩:=cT;obtain⟨G,M,z,C,P,Q,R,S,T,H,K,L⟩:=br.b4;have ae:r.heap[g]?=some (.cells cur 33):=(k g (by omega)).trans J;have hb:∀i,i<d.eY->B<=im i/\g≠im i:=λi f=>by obtain⟨_,_,D,E⟩:=br.fD i f;exact⟨D,λe=>E (by rw[<-e];rfl)⟩
 refine⟨⟨br.first.1.Qb (k l (by omega)),λi f=>tE ae ax (QF d im j' d.eY i f).1,λi f=>?_,λi f=>(br.fD i f).1.Qb (k _ (by have:=(hb i f).1;show im i≠_;omega)),λ_=>⟨q,0,rfl,br.free.Qb (k q (by omega))⟩⟩,⟨z,rfl,?_⟩,⟨by show w.heap.size<=g;omega,by show g≠l;omega⟩,λi f=>?_,λi j I J=>br.rP i j I J,λb o e=>?_⟩
 .show r.cell? ⟨g,0+i*2+1,none⟩=_
  rw[Nat.add_assoc];exact tE ae ax (QF d im j' d.eY i f).2
 .obtain⟨c,h⟩:=br.first.2
  exact⟨c,(k l (by omega)).trans h⟩
 .have x:=hb i f
  obtain⟨_,⟨c,al⟩,_,_⟩:=br.fD i f;exact⟨by show w.heap.size<=im i;omega,rfl,by show im i≠l;omega,Ne.symm x.2,c,(k _ (by show im i≠_;omega)).trans al⟩
 .cases e
  exact⟨C,by show q≠l;omega,by show q≠g;omega,λi f=>by have:=(hb i f).1;show q≠im i;omega⟩
def Qn(w:World){a b o:Nat}(h:a≠b)(v0 v1 v2 v3:Value):((((w.setCell ⟨b,0,none⟩ v0).setCell ⟨b,1,none⟩ v1).setCell ⟨b,2,none⟩ v2).setCell ⟨b,3,none⟩ v3).cell? ⟨a,o,none⟩=w.cell? ⟨a,o,none⟩:=
 (E9 _ h).trans ((E9 _ h).trans ((E9 _ h).trans (E9 _ h)))
def QR[S:Std A](d:cR)(ok:d.ok)(p:dU)(w:World)(h:fy w d p):
 Calls (ag A) 10 #[.agg (cO d p)] w λe w'=>∃hD:dU,e=.returned (.agg (cO d hD))/\KeptAt w d hD w'/\w.grownBy w' none:=by
 have hb:=h.below ok;have b8:=ok.kinds;have cb:=ok.fC;obtain⟨c,R⟩:∃c,(w.alloc (.cells (cO d p) 27)).alloc (.cells #[.int .i64 0,.slice none 0 0,.slice none 0 0,.slice none 0 0] 27)=c:=⟨_,rfl⟩
 have aL:w.grownBy c none:=by rw[<-R];exact Pn.trans Pn
 have aE:c.heap.size=w.heap.size+2:=by rw[<-R];simp
 have Y:c.heap[w.heap.size]?=some (.cells (cO d p) 27):=by rw[<-R];exact(Pq (by simp)).trans (gA _ _)
 have a6:c.heap[w.heap.size+1]?=some (.cells Qr 27):=by rw[<-R,show w.heap.size+1=(w.alloc (.cells (cO d p) 27)).heap.size by simp];exact gA _ _
 have a1:=Pj a6;clear a6;have t1:=h.keep aL;have bu:=aT (o:=0) Y;have c1:=aT (o:=1) Y;have c2:=aT (o:=2) Y;have c3:=aT (o:=3) Y;have af:=Pj hb;have aF:=Pj aL;have ay:=Pj aE;have a0:=Pj Y;have X:=Pj t1;have F:=Pj R;clear hb aL aE Y t1 R h;go_enter (S.f Tryz.func10),Tryz.ntmps10;go_upto_region 1 with fail
 have aN:=F.out;dsimp only[cO]at aN;rw[aN];clear aN;have bu:c.cell? ⟨w.heap.size,0,none⟩=some (.int .i64 d.kinds):=bu.trans rfl;have c1:c.cell? ⟨w.heap.size,1,none⟩=some (.slice (some ⟨p.gv,p.hj,none⟩) d.kinds p.eT):=c1.trans rfl;have c3:c.cell? ⟨w.heap.size,3,none⟩=some (.slice p.hE d.fC p.h9):=c3.trans rfl;have cg:c.grownBy c.drew none:=fQ (Pw _ _);have aZ:=Pj cg;have av:=Pj (show ∀(W:World) (o:Obj),c.grownBy W none->(W.alloc o).cell? ⟨w.heap.size,0,none⟩=some (.int .i64 d.kinds)/\(W.alloc o).cell? ⟨w.heap.size,1,none⟩=some (.slice (some ⟨p.gv,p.hj,none⟩) d.kinds p.eT)/\(W.alloc o).cell? ⟨w.heap.size,3,none⟩=some (.slice p.hE d.fC p.h9)from λW o g=>by have aa:=g.trans (Pv W o none);exact⟨aa.cell bu (by simp),aa.cell c1 (by simp),aa.cell c3 (by simp)⟩)
 have T:=Pj (show ∀o:Obj,c.grownBy (c.alloc o).drew none from λo=>fQ Pn);have aX:=Pj (show ∀o:Obj,(c.alloc o).drew.cell? ⟨w.heap.size,0,none⟩=some (.int .i64 d.kinds)/\(c.alloc o).drew.cell? ⟨w.heap.size,1,none⟩=some (.slice (some ⟨p.gv,p.hj,none⟩) d.kinds p.eT)/\(c.alloc o).drew.cell? ⟨w.heap.size,3,none⟩=some (.slice p.hE d.fC p.h9)from λo=>⟨(T.out o).cell bu (by simp),(T.out o).cell c1 (by simp),(T.out o).cell c3 (by simp)⟩);have di:c.drew.cell? ⟨w.heap.size,0,none⟩=some (.int .i64 d.kinds):=bu;have ar:c.drew.cell? ⟨w.heap.size,1,none⟩=some (.slice (some ⟨p.gv,p.hj,none⟩) d.kinds p.eT):=c1;have a8:c.drew.cell? ⟨w.heap.size,3,none⟩=some (.slice p.hE d.fC p.h9):=c3;clear cg;go_region_held3 (λW=>W.cell? ⟨w.heap.size,0,none⟩=some (.int .i64 d.kinds)/\W.cell? ⟨w.heap.size,1,none⟩=some (.slice (some ⟨p.gv,p.hj,none⟩) d.kinds p.eT)/\W.cell? ⟨w.heap.size,3,none⟩=some (.slice p.hE d.fC p.h9))
  (first|with_reducible exact⟨di,ar,a8⟩|with_reducible exact aX.out _|with_reducible exact⟨bl,k1,bn⟩|with_reducible exact av.out _ _ z.out|with_reducible exact⟨cH,ap,aq⟩|with_reducible exact av.out _ _ (z.out.trans H.out)|with_reducible exact⟨(Qn w4 aR _ _ _ _).trans cH,(Qn w4 aR _ _ _ _).trans ap,(Qn w4 aR _ _ _ _).trans aq⟩|with_reducible exact⟨(Qn w4 aS _ _ _ _).trans cH,(Qn w4 aS _ _ _ _).trans ap,(Qn w4 aS _ _ _ _).trans aq⟩|(have q:=av.out _ (.cells #[.int .i64 0,.slice none 0 0,.slice none 0 0,.slice none 0 0] 27) (z.out.trans H.out);with_reducible exact⟨(Qn _ aU _ _ _ _).trans q.1,(Qn _ aU _ _ _ _).trans q.2.1,(Qn _ aU _ _ _ _).trans q.2.2⟩))
  (first
  |(go_at_call 11;refine(QE (A:=A) (some ⟨p.gv,p.hj,none⟩) d.kinds p.eT d.first (by omega) _ (by first|exact λ_=>⟨_,_,rfl,(X.out.keep aZ.out).first⟩|exact λ_=>⟨_,_,rfl,(X.out.keep (T.out _)).first⟩)).mono ?_;rintro e w3 ⟨C,⟨eT,rfl⟩,ah,ad,ai,f⟩;have K:c.grownBy w3 none:=(by first|exact aZ.out.trans f|exact(T.out _).trans f);have bl:=K.cell bu (by simp);have k1:=K.cell c1 (by simp);have bn:=K.cell c3 (by simp);(try (have bs:=(f.block c.heap.size (by show c.heap.size<(c.alloc _).heap.size;simp) (by simp)).trans (gA c _)));have bA:=Pj f;have z:=Pj K;have a3:=Pj (And.intro ah (And.intro ad ai));clear f K ah ad ai)
  |(go_at_call 11;refine(QE (A:=A) p.hE d.fC p.h9 d.free (by omega) _ (by first|exact(X.out.keep z.out).free|exact(X.out.keep (z.out.trans Pn)).free)).mono ?_;rintro e w4 ⟨D,⟨h9,rfl⟩,aj,al,Q,f⟩;have L:w3.grownBy w4 none:=(by first|exact f|exact Pn.trans f);have cH:=L.cell bl (by simp);have ap:=L.cell k1 (by simp);have aq:=L.cell bn (by simp);(try (have ks:=(f.block c.heap.size (bp bs) (by simp)).trans bs));(try (have ks:=(f.block w3.heap.size (by simp) (by simp)).trans (gA w3 _)));have bB:=Pj f;have H:=Pj L;have a4:=Pj (And.intro aj (And.intro al Q));(try (have bS:=aT (o:=0) ks));(try (have z0:=b1 (o:=0) ks));(try (have bT:=aT (o:=1) ks));(try (have aE:=b1 (o:=1) ks));(try (have bU:=aT (o:=2) ks));(try (have bW:=b1 (o:=2) ks));(try (have bV:=aT (o:=3) ks));(try (have z3:=b1 (o:=3) ks));have aR:w.heap.size≠c.heap.size:=(by have:=ay.out;omega);have aS:w.heap.size≠w3.heap.size:=(by have:=ay.out;have:=z.out.size;omega);have aU:w.heap.size≠w4.heap.size:=(by have:=ay.out;have:=z.out.size;have:=H.out.size;omega);(try (have az:=Pj ks;clear ks));clear f L aj al Q))
 all_goals (
  have R:=ay.out;have Z:=z.out.trans H.out;have bP:=z.out.size;have bQ:=H.out.size;obtain⟨ah,⟨bJ,ad⟩,ai⟩:=a3.out;obtain⟨aj,⟨b0,al⟩,Q⟩:=a4.out;have bo:=bp ad;have bN:=bp al;have aD:=X.out.keep Z;have aB:w4.heap[w.heap.size]?=some (.cells (cO d p) 27):=(Z.block _ (by omega) (by simp)).trans a0.out;have aC:=ai.keep H.out (by simp);have aA:w4.heap[C]?=some (.cells bJ 3):=(H.out.block _ bo (by simp)).trans ad;have bX:=aF.out.trans Z;have au:w4.heap[w.heap.size+1]?=some (.cells Qr 27):=(Z.block _ (by omega) (by simp)).trans a1.out;have aw:=aF.out.trans Z;have V:=Pj (And.intro ah aj);clear ah aj)
 focus (
  have l:=Qj.begin (PY:=w4.heap.size) (eT:=eT) (h9:=h9) (im:=λ_=>0) (j':=λ_=>0) aD af.out aB au aw aC ⟨_,aA⟩ Q (by obtain⟨I,J⟩:=V.out;have I:c.heap.size<=C:=I;have J:w3.heap.size<=D:=J;simp only[Pp];omega) (gA w4 (.cells (mE d.kinds (.slice (some ⟨C,0,none⟩) d.kinds eT) (.slice none 0 0) (.slice (some ⟨D,0,none⟩) d.fC h9)) 27)) (λi h _=>Pq h) (by simp) ⟨rfl,rfl,rfl⟩;unfold mE at l;generalize hW:w4.alloc _=aV at l ⊢;generalize aP:w4.heap.size=PY at l ⊢)
 rotate_left
 focus (
  have l:=Qj.begin (PY:=w3.heap.size) (eT:=eT) (h9:=h9) (im:=λ_=>0) (j':=λ_=>0) aD af.out aB au aw aC ⟨_,aA⟩ Q (by obtain⟨I,J⟩:=V.out;have I:c.heap.size<=C:=I;have J:(w3.alloc (.cells Qr 27)).heap.size<=D:=J;simp only[Pp]at J;simp only[World.size_setCell];omega) (Qm az.out).1 (λi _ h=>(Qm az.out).2 i h) (by simp only[World.size_setCell];omega) ⟨rfl,rfl,rfl⟩;generalize hW:World.setCell (World.setCell (World.setCell (World.setCell w4 ⟨w3.heap.size,0,none⟩ _) _ _) _ _) _ _=aV at l ⊢;generalize aP:w3.heap.size=PY at l ⊢)
 rotate_left
 focus (
  have l:=Qj.begin (PY:=c.heap.size) (eT:=eT) (h9:=h9) (im:=λ_=>0) (j':=λ_=>0) aD af.out aB au aw aC ⟨_,aA⟩ Q (by obtain⟨I,J⟩:=V.out;have I:(c.alloc (.cells Qr 27)).heap.size<=C:=I;have J:w3.heap.size<=D:=J;simp only[Pp]at I;simp only[World.size_setCell];omega) (Qm az.out).1 (λi _ h=>(Qm az.out).2 i h) (by simp only[World.size_setCell];omega) ⟨rfl,rfl,rfl⟩;generalize hW:World.setCell (World.setCell (World.setCell (World.setCell w4 ⟨c.heap.size,0,none⟩ _) _ _) _ _) _ _=aV at l ⊢;generalize aP:c.heap.size=PY at l ⊢)
 rotate_left
 all_goals (
  obtain⟨l,aY,aW,aQ⟩:=l;have ba:=af.out;clear hW aP z H bA bB a3 a4 V bP bQ ad ai al Q bo bN aD aB aC aA au aw Z;clear bu c1 c2 c3 di ar a8 T aX av a0 X F a1 aF;obtain⟨B,a9⟩:∃B,B=aV.heap.size:=⟨_,rfl⟩
  rw[<-a9]at l aQ;obtain⟨bM,bg,bi,bj,bk⟩:=HX (A:=A);have bC:=Pj bg;have bG:=Pj bi;have bH:=Pj bj;have bI:=Pj bk;have bD:=Pj l;have bx:=Pj aY;have bw:=Pj aW;have aH:=Pj aQ;have b5:=ok.eY;clear bg bi bj bk a9 l aY aW aQ af;have a2:=Pj ba;clear ba;go_wp2;go_loopw [4] (λi wr=>∃(m:Nat) (im j':Nat->Nat) (u:Value),m<=d.eY/\i=.int .i64 m/\Qj w.heap.size B d p w.heap.size PY C eT D h9 im j' m u wr/\w.grownBy wr none/\wr.heap[w.heap.size+1]?=some (.cells Qr 27)) (λi _=>d.eY-(vy i).toNat)
  case atStart=>exact⟨0,_,_,_,by omega,by go_num,bD.out,bx.out,bw.out⟩
  case round=>
   obtain⟨m,im,j',u,hm,rfl,br,G,E⟩:=hrel;have bO:wr.cell? ⟨w.heap.size,2,none⟩=some (.slice (some ⟨p.j9,p.lg,none⟩) d.eY p.h8):=(aT (o:=2) br.mn).trans rfl;by_cases aO:m<d.eY
   .have hd:decide ((m:Int)<d.eY)=true:=by simpa using aO
    have bK:decide (m<d.eY)=true:=by simpa using aO
    have r1:=br.src.dz m aO;have r2:=br.src.rows m aO;have v3:wr.cell? ⟨PY,2,none⟩=some u:=(aT (o:=2) br.blk).trans rfl;have bt:=Pj (show wr.grownBy wr.drew none from fQ (Pw _ _));have d2:wr.drew.cell? ⟨w.heap.size,2,none⟩=some (.slice (some ⟨p.j9,p.lg,none⟩) d.eY p.h8):=bO;have d3:wr.drew.cell? ⟨p.j9,p.lg+m*2,none⟩=some (.int .i64 (d.dz m)):=r1;have d4:wr.drew.cell? ⟨p.j9,p.lg+m*2+1,none⟩=some (.slice (some ⟨p.im m,p.sy m,none⟩) d.kinds (p.j' m)):=r2;have am:∀r,u.ownBlock=some r->B<=r/\r<wr.heap.size:=λr e=>xX br.own r e
    have bY:=Pj am;have b7:=a2.out.R;have b4:=br.b4;have ap:(some w.heap.size:Option Nat)≠u.ownBlock:=λe=>by have:=(am _ e.symm).1;omega
    have bq:(some p.j9:Option Nat)≠u.ownBlock:=λe=>by have:=(am _ e.symm).1;omega
    have aq:(some PY:Option Nat)≠u.ownBlock:=λe=>by have:=(am _ e.symm).1;omega
    have e6:w.heap.size≠PY:=by omega
    have fY:p.j9≠PY:=by omega
    have b3:=br.dm;have b6:PY<B:=by omega
    have U:=Pj br;have M:=Pj G;have F:=Pj E;clear br G E am b4;go_wp2;simp only[oZ 25 (.tmp 21)];have b9:=Pg;go_region_held3 (λW=>W.cell? ⟨w.heap.size,2,none⟩=some (.slice (some ⟨p.j9,p.lg,none⟩) d.eY p.h8)/\W.cell? ⟨p.j9,p.lg+m*2,none⟩=some (.int .i64 (d.dz m))/\W.cell? ⟨p.j9,p.lg+m*2+1,none⟩=some (.slice (some ⟨p.im m,p.sy m,none⟩) d.kinds (p.j' m)))
     (first|with_reducible exact⟨d2,d3,d4⟩|with_reducible exact⟨f2,f3,f4⟩|with_reducible exact ax.out _|with_reducible exact⟨aa,K,L⟩|with_reducible exact⟨(E9 _ e6).trans aa,(E9 _ fY).trans K,(E9 _ fY).trans L⟩)
     (first
     |(go_at_call 11;refine(QE (A:=A) (some ⟨p.im m,p.sy m,none⟩) d.kinds (p.j' m) (d.fD m) (by omega) _ (λ_=>⟨_,_,rfl,(U.out.src.keep bt.out).fD m aO⟩)).mono ?_;rintro e j ⟨a5,⟨a7,rfl⟩,kE,kk,bb,f⟩;have f2:=f.cell d2 (by simp);have f3:=f.cell d3 (by simp);have f4:=f.cell d4 (by simp);have v5:j.cell? ⟨PY,2,none⟩=some u:=f.cell (a:=⟨PY,2,none⟩) v3 (by simp);have ci:∀o:Obj,(j.alloc o).cell? ⟨PY,2,none⟩=some u:=(λo=>(Pv j o none).cell v5 (by simp));have ax:=Pj (show ∀o:Obj,(j.alloc o).cell? ⟨w.heap.size,2,none⟩=some (.slice (some ⟨p.j9,p.lg,none⟩) d.eY p.h8)/\(j.alloc o).cell? ⟨p.j9,p.lg+m*2,none⟩=some (.int .i64 (d.dz m))/\(j.alloc o).cell? ⟨p.j9,p.lg+m*2+1,none⟩=some (.slice (some ⟨p.im m,p.sy m,none⟩) d.kinds (p.j' m))from λo=>⟨(Pv j o none).cell f2 (by simp),(Pv j o none).cell f3 (by simp),(Pv j o none).cell f4 (by simp)⟩);have aI:=Pj (And.intro kE (And.intro kk bb));have P:=Pj f;clear f kE kk bb)
     |(refine step_append_lies _ (by rfl) _ _ _ (by rfl) B 33 bM (.agg #[.int .i64 0,.slice none 0 0]) 2 32 (by kernel_rfl) bC.out bG.out bH.out bI.out rfl (by omega) u m (Qe d im j' m) (by rfl) (kq U.out.own (λi I J=>(Pq (Px J P.out.size)).trans (P.out.block i J (by simp)))) ⟨j.heap.size,0,none⟩ 1 1 [.int .i64 (d.dz m),.slice (some ⟨a5,0,none⟩) d.kinds a7] (by rfl) (by rfl) (World.news_of_block (cs:=#[.int .i64 (d.dz m),.slice (some ⟨a5,0,none⟩) d.kinds a7]) (t:=33) (fr:=(0,0)) (heap_alloc_new j _)) (by simp[Value.oneCell']) (by omega) (by unfold maxLen;omega) (by omega) (by have bm:wr.heap.size<=j.heap.size:=P.out.size;simp only[Pp];omega) (j.heap.size+1) (by simp) ?_;intro b2 cap bR bh ae aJ ca;have aa:=ae.cell (ax.out _).1 ap;have K:=ae.cell (ax.out _).2.1 bq;have L:=ae.cell (ax.out _).2.2 bq;have aK:bR.heap[PY]?=some (.cells (mE d.kinds (.slice (some ⟨C,0,none⟩) d.kinds eT) u (.slice (some ⟨D,0,none⟩) d.fC h9)) 27):=(ae.block PY (by have bm:wr.heap.size<=j.heap.size:=P.out.size;simp only[Pp];omega) aq).trans ((Pq (by have bm:wr.heap.size<=j.heap.size:=P.out.size;omega)).trans ((P.out.block PY (by show PY<wr.heap.size;omega) (by simp)).trans U.out.blk));have cf:=aT (o:=2) aK;have ch:=b1 (o:=2) aK;have bE:=Pj bh;have bz:=Pj ae;have bv:=Pj aJ;clear bh ae aJ aK))
    all_goals (
     have ak:=U.out.next a2.out P.out aI.out.1 aI.out.2.1 aI.out.2.2 bz.out bv.out bE.out;have aG:=Pj ak;clear ak;go_wp2;exact⟨⟨m+1,_,_,_,by omega,by push_cast;rfl,aG.out.1,aG.out.2.1 w Pk M.out,(aG.out.2.2 _ aH.out.2.2.2 aH.out.2.2.1).trans F.out⟩,by show d.eY-((m:Int)+1).toNat<d.eY-(m:Int).toNat;omega⟩)
   .have hd:decide ((m:Int)<d.eY)=false:=by simp;omega
    have bK:decide (m<d.eY)=false:=by simpa using aO
    obtain rfl:m=d.eY:=by omega
    obtain⟨aM,h8,bZ,rfl,bc,bd,bf⟩:=JX br.own (by omega);have cc:wr.cell? ⟨PY,0,none⟩=some (.int .i64 d.kinds):=(aT (o:=0) br.blk).trans rfl;have PZ:wr.cell? ⟨PY,1,none⟩=some (.slice (some ⟨C,0,none⟩) d.kinds eT):=(aT (o:=1) br.blk).trans rfl;have p2:wr.cell? ⟨PY,2,none⟩=some (.slice (some ⟨aM,0,none⟩) d.eY h8):=(aT (o:=2) br.blk).trans rfl;have ce:wr.cell? ⟨PY,3,none⟩=some (.slice (some ⟨D,0,none⟩) d.fC h9):=(aT (o:=3) br.blk).trans rfl;have bS:=aT (o:=0) E;have bT:=aT (o:=1) E;have bU:=aT (o:=2) E;have bV:=aT (o:=3) E;have z0:=b1 (o:=0) E;have aE:=b1 (o:=1) E;have bW:=b1 (o:=2) E;have z3:=b1 (o:=3) E;have U:=Pj br;have M:=Pj G;have F:=Pj E;have bF:=Pj (And.intro bc (And.intro bd bf));clear br G E bc bd bf;go_wp2;refine bodyPost_ret (results_cell_row rfl _ _ (w.heap.size+1) 27 #[.int .i64 d.kinds,.slice (some ⟨C,0,none⟩) d.kinds eT,.slice (some ⟨aM,0,none⟩) d.eY h8,.slice (some ⟨D,0,none⟩) d.fC h9] (0,0) _ rfl (Qm F.out).1 (ag.underlying25 A) rfl LI) rfl ?_;refine⟨⟨C,0,eT,aM,0,h8,im,λ_=>0,j',some ⟨D,0,none⟩,h9⟩,rfl,U.out.done bF.out aH.out (Qm F.out).2,?_⟩;exact⟨M.out.os,M.out.tape,M.out.output,by have:=M.out.size;simp only[World.size_setCell];omega,λi bL ao=>((Qm F.out).2 i (by omega)).trans (M.out.block i bL ao)⟩)
end
section
variable{A:Array Func}
def dU.below.up{p:dU}{d:cR}{B C:Nat}(h:p.below d B)(hC:B<=C):p.below d C:=⟨by have:=h.F;omega,by have:=h.R;omega,λi c=>by have:=h.P i c;omega,λb o ak e=>by have:=h.rL b o ak e;omega⟩
def fy.QD{w w':World}{d:cR}{p:dU}{x B:Nat}(h:fy w d p)(hb:p.below d B)(hF:p.gv≠x)(cT:p.j9≠x)(g:∀i,i<d.eY->p.im i≠x)(j:∀c o,d.fC≠0->p.hE=some ⟨c,o,none⟩->c≠x)(k:∀b,b<B->b≠x->w'.heap[b]?=w.heap[b]?):fy w' d p where
 first:=h.first.Qb (k _ hb.F hF)
 dz i f:=(World.cell?_of_block (k _ hb.R cT)).trans (h.dz i f)
 rows i f:=(World.cell?_of_block (k _ hb.R cT)).trans (h.rows i f)
 fD i f:=(h.fD i f).Qb (k _ (hb.P i f) (g i f))
 free ak:=by obtain⟨b,o,e,n⟩:=h.free ak;exact⟨b,o,e,n.Qb (k _ (hb.rL b o ak e) (j b o ak e))⟩
end
section
variable{A:Array Func}
def Ro{w:World}{m n:Nat}{v:Value}{xs:List Int}(h:w.ownsRow m 3 1 v n (xs.map encZ))(ak:0<n):∃g cap,v=.slice (some ⟨g,0,none⟩) n cap/\iD w g 0 n (λi=>xs.getD i 0):=by
 have ah:xs.length=n:=by have:=h.1;simpa using this
 obtain⟨g,c,cur,aP,I,J,ax,aV⟩:=xY h ak;exact⟨g,c,aP,λi f=>tE ax aV (by
  have d:i<xs.length:=by omega
  simp[encZ,List.getD,d])⟩
end
section
variable{A:Array Func}
def QZ[S:Std A](w:World)(cH b8 f0 d e6 f1:Int)(aP:0<=cH/\cH<=b8)(I:0<=d/\d<=e6)(b c:Nat)(hb:w.heap[b]?=some (.cells #[.int .i64 cH,.int .i64 b8,.int .i64 f0,.int .i64 d,.int .i64 e6,.int .i64 f1] 110)):
 Calls (ag A) 43 #[.slice (some ⟨b,0,none⟩) 2 c] w λe w'=>e=.returned .nilIface/\w.grownBy w' none:=by
 refine tz b 0 2 c (by omega) w (λi=>match i with|0=>cH|_=>d) (λi=>match i with|0=>b8|_=>e6) (λi=>match i with|0=>f0|_=>f1) (λi f=>?_) (λi f=>?_) (λi f=>?_) (λi f=>?_)
 .rw[aT hb];rcases i with _|_|i<;>first|rfl|omega
 .rw[aT hb];rcases i with _|_|i<;>first|rfl|omega
 .rw[aT hb];rcases i with _|_|i<;>first|rfl|omega
 .rcases i with _|_|i
  .exact aP
  .exact I
  .omega
def Q9(t:Nat->Int)(w:World):∀day:Nat,day<5->Sem.run (ag A) (Instr.index 104 (.agg #[.int .i64 (t 0),.int .i64 (t 1),.int .i64 (t 2),.int .i64 (t 3),.int .i64 (t 4)]) (.int .i64 day)) w=.ok (.int .i64 (t day)) w
 | 0,_=>rfl
 | 1,_=>rfl
 | 2,_=>rfl
 | 3,_=>rfl
 | 4,_=>rfl
def Rl[S:Std A][P:gg A](d:cR)(ok:d.ok)(p:dU)(k:Nat)(U:k<d.kinds)(day:Nat)(hd:day<5)(w:World)(h:fy w d p):
 Calls (ag A) 19 #[.agg (cO d p),.int .i64 k,.int .i64 day] w λe w'=>e=.returned (.tuple #[.int .i64 (cC d k day),.int .i64 0])/\w.grownBy w' none:=by
 have ax:=ok.kinds;have i:w.grownBy (w.alloc (.cells (cO d p) 27)) none:=Pn;have G:=Pj (xS (A:=A) d ok p _ (h.keep i));have g:=Pj i;have H:=Pj h;clear i h;have I:=Pj λ(T:Nat) (w3:World) (aZ:(w.alloc (.cells (cO d p) 27)).heap.size<=T) (hb:w3.heap[T]?=some (.cells (l4 d p) 107)) (ae:(w.alloc (.cells (cO d p) 27)).grownBy w3 none)=>
  have x:=qP ok (H.out.keep g.out) aZ hb ae;And.intro x (pD (A:=A) ok x.2.2.1 x.2.1 U)
 have F:=Pj (tV (A:=A));have C:=Pj λ(w:World) (b c:Nat) hb=>QZ (A:=A) w k (d.kinds-1) 0 day 4 1 (by omega) (by omega) b c hb
 go_enter (S.f Tryz.func19),Tryz.ntmps19;go_upto_region 7 with(first|(go_at_call 32;refine G.out.mono ?_;rintro e w3 ⟨T,rfl,aZ,hb,ae⟩;have t0:w3.cell? ⟨T,0,none⟩=some (.int .i64 d.kinds):=(aT hb).trans rfl;have f:=Pj (I.out T w3 aZ hb ae);have D:=Pj ae;have J:=Pj aZ;clear hb ae aZ)|(go_at_call 43;refine(C.out _ _ _ (gA _ _)).mono ?_;rintro e R ⟨rfl,o⟩;have E:=Pj o;clear o)|(go_at_call 42;refine(F.out _).mono ?_;rintro e V ⟨rfl,q⟩;clear t0;have j:=((Pv w3 _ _).trans E.out).trans q;have l:=f.out.1.1.more ok f.out.1.2.2.1 f.out.1.2.2.2 j;have K:=Pj l;have z:=Pj j;clear l j q))
 have u:w.heap.size<=T:=by have:=J.out;have e:=g.out.size;omega
 have L:=Pj u;clear u;go_wp2_with (go_at_call 44;refine(f.out.2 _ K.out).mono ?_;rintro e Q ⟨rfl,M,r⟩;have B:=Pj r;clear M r)
 rw[Q9 (A:=A) (cC d k) Q day hd];simp only[Result.andThen_ok];go_wp2;go_ret2
 exact⟨rfl,jq (g.out.trans (D.out.trans z.out)) B.out L.out⟩
def QM[S:Std A](q:Option Addr)(n c:Nat)(ak:n<=100000)(f:Nat->Int)(w:World)(h:n≠0->∃b o,q=some ⟨b,o,none⟩/\iD w b o n f)(x:Int):
 Calls (ag A) 18 #[.slice q n c,.int .i64 x] w λe w'=>(∃j:Int,e=.returned (.int .i64 j)/\(0<=j↔∃i,i<n/\f i=x))/\w=w':=by
 have H:=Pj h;clear h;go_enter (S.f Tryz.func18),Tryz.ntmps18;go_wp2;go_loopw [5] (λi wr=>∃m:Nat,m<=n/\i=.int .i64 m/\w=wr/\∀i,i<m->f i≠x) (λi _=>n-(vy i).toNat)
 case atStart=>exact⟨0,by omega,by go_num,rfl,λi g=>by omega⟩
 case round=>
  obtain⟨m,hm,rfl,rfl,l⟩:=hrel;by_cases aO:m<n
  .have hd:decide ((m:Int)<n)=true:=by simpa using aO
   have p:decide (m<n)=true:=by simpa using aO
   obtain⟨b,o,rfl,af⟩:=H.out (by omega);have al:=af m aO;by_cases d:f m=x
   .have ar:(f m == x)=true:=by simpa using d
    go_wp2;go_ret;exact⟨⟨m,rfl,λ_=>⟨m,aO,d⟩,λ_=>by omega⟩,rfl⟩
   .have ar:(f m == x)=false:=by simpa using d
    go_wp2;exact⟨⟨m+1,by omega,by push_cast;rfl,by trivial,λi g=>by
     rcases Nat.lt_succ_iff_lt_or_eq.1 g with y|rfl
     .exact l i y
     .exact d⟩,by show n-((m:Int)+1).toNat<n-(m:Int).toNat;omega⟩
  .have hd:decide ((m:Int)<n)=false:=by simp;omega
   have p:decide (m<n)=false:=by simpa using aO
   go_wp2;go_ret;exact⟨⟨-1,rfl,λy=>by omega,λ⟨i,g,e⟩=>absurd e (l i (by omega))⟩,rfl⟩
def QJ{d:cR}{k day:Nat}:∀n,(∃i,i<n/\d.free i=day)->rf d k n day=0
 | 0,⟨i,h,_⟩=>by omega
 |n+1,⟨i,h,e⟩=>by
  unfold rf;by_cases c:d.free n=day
  .rw[if_pos c]
  .rw[if_neg c]
   refine QJ n ⟨i,?_,e⟩;rcases Nat.lt_succ_iff_lt_or_eq.1 h with y|rfl
   .exact y
   .exact absurd e c
def QK{d:cR}{k day:Nat}:∀n,(¬∃i,i<n/\d.free i=day)->rf d k n day=lp d k d.eY day
 | 0,_=>rfl
 |n+1,h=>by unfold rf;rw[if_neg (λe=>h ⟨n,by omega,e⟩)];exact QK n λ⟨i,c,e⟩=>h ⟨i,by omega,e⟩
end
end Go.aN
