/- A part of FeeLater: no conditions. -/
import Derived.Test.YtpnmipmngnhemaaGreatDoorP41
set_option maxHeartbeats 8000000
set_option maxRecDepth 100000
set_option linter.all false
namespace Go.aN
open Go.Proofs Go.RowKit
section
variable{F:Array Func}[S:Std F]
@[simp] theorem ag.call19:dg F 10:=dS Tryz.func10
@[simp] theorem ag.call32:dg F 14:=dS Tryz.func14
@[simp] theorem ag.call33:dg F 13:=dS Tryz.func13
@[simp] theorem ag.call38:dg F 11:=dS Tryz.func11
@[simp] theorem ag.call39:dg F 15:=dS Tryz.func15
end
end Go.aN
namespace Go.aN
open Go.Proofs Go.RowKit Go.Maps Go.Shelf
section
variable{A:Array Func}
def Qo[S:Std A](a b:Int)(w:World):Calls (ag A) 13 #[.int .i64 a,.int .i64 b] w λe w'=>e=.returned (.agg #[.int .i64 a,.int .i64 b])/\w.grownBy w' none:=by go_enter (S.f Tryz.func13),Tryz.ntmps13;go_wp2;refine bodyPost_ret (results_cell_row rfl _ _ w.heap.size 39 #[.int .i64 a,.int .i64 b] (0,0) _ rfl (gA _ _) (ag.underlying52 A) rfl va) rfl ?_;exact⟨rfl,Pn⟩
end
end Go.aN
namespace Go.aN
open Go.Proofs Go.RowKit
section
variable{A:Array Func}
def Qd(F:Nat->Int)(n:Nat):List Value:=(List.range n).map λi=>.int .i64 (F i)
def QI(F:Nat->Int)(n:Nat):Qd F (n+1)=Qd F n++[.int .i64 (F n)]:=by simp[Qd,List.range_succ]
def QP{w:World}{B n:Nat}{v:Value}{F:Nat->Int}(h:w.ownsRow B 3 1 v n (Qd F n))(ak:0<n):∃g cap,v=.slice (some ⟨g,0,none⟩) n cap/\B<=g/\g<w.heap.size/\iD w g 0 n F:=by obtain⟨g,c,cur,aP,I,J,ax,aV⟩:=xY h ak;exact⟨g,c,aP,I,J,λi aj=>tE ax aV (by simp[Qd,aj])⟩
end
section
variable{A:Array Func}
def QO{w:World}{B n:Nat}{v:Value}{f:Nat->Int}(ak:0<n)(h:w.ownsRow B 3 1 v n ((List.range n).map λj=>fX (f j))):∃g cap cur,v=.slice (some ⟨g,0,none⟩) n cap/\B<=g/\w.heap[g]?=some (.cells cur 3)/\iD w g 0 n f:=by
 obtain⟨g,cap,cur,rfl,I,_,J,ax⟩:=xY h ak;refine⟨g,cap,cur,rfl,I,J,λj aC=>?_⟩;rw[aT J,Nat.zero_add,<-Array.getElem?_toList];have e:(cur.toList.take n)[j]?=some (fX (f j)):=by rw[ax];simp[aC]
 rw[List.getElem?_take,if_pos aC]at e;exact e
def QR(b:Nat)(q:Option Addr)(c:Nat)(w:World):Sem.run (ag A) (Builtin.append_ #[22,22] 22 #[.slice (some ⟨b,0,none⟩) 0 0,.slice q 0 c]) w=.ok (.slice (some ⟨b,0,none⟩) 0 0) w:=by cases q<;>kernel_rfl
def QX{ops:Array Oper}{rest:List Oper}{o:Oper}{a:Act}{Q:Exit->Act->World->Prop}{w:World}(f:o.guard=none)(s x:Operand)(av:o.op=.call {callee:=.builtin .append,args:=#[s,x],argTypes:=#[22,22]})(az:o.type=22)(b:Nat)(q:Option Addr)(c:Nat)(af:a.eval s=.slice (some ⟨b,0,none⟩) 0 0)(g:a.eval x=.slice q 0 c)(h:wpList (ag A) ops Q rest (a.put o.dst (.slice (some ⟨b,0,none⟩) 0 0)) w):
 wpList (ag A) ops Q (o::rest) a w:=by
 refine wpList_plain f λK d=>?_
 unfold Oper.wp execOp;simp only[av,az,resolve,invoke,builtin,Sem.run_bind,Sem.run_pure,Result.andThen_ok,List.map_toArray,List.map_cons,List.map_nil,af,g,QR];exact d _ _ h
def Ql[S:Std A](q:Option Addr)(n c:Nat)(f:Nat->Int)(ak:n<=100)(w:World)(h:n≠0->∃b o,q=some ⟨b,o,none⟩/\iD w b o n f):
 Calls (ag A) 11 #[.slice q n c] w λe w'=>∃bb:Nat,(∃bo:Nat,e=.returned (.slice (some ⟨bb,0,none⟩) n bo))/\w.heap.size<=bb/\(∃cur:Array Value,w'.heap[bb]?=some (.cells cur 3))/\iD w' bb 0 n f/\w.grownBy w' none:=by
 obtain⟨M,aj,l,p,r⟩:=xj (A:=A);by_cases aP:n=0
 .subst aP
  clear h aj l p r;go_enter (S.f Tryz.func11),Tryz.ntmps11;go_wp2_with (at_builtin;refine QX rfl _ _ rfl rfl w.heap.size q c rfl rfl ?_)
  go_ret;exact⟨w.heap.size,⟨0,rfl⟩,Pk,⟨#[],gA _ _⟩,λj aC=>by omega,Pn⟩
 .obtain⟨b,o,rfl,af⟩:=h aP
  have G:=Pj af;have C:=Pj aj;have H:=Pj l;have I:=Pj p;have J:=Pj r;have D:=Pj (mV (af 0 (by omega)));have bO:(w.alloc (.cells #[] 3)).ownsRow w.heap.size 3 1 (.slice (some ⟨w.heap.size,0,none⟩) 0 0) 0 []:=⟨rfl,.inr ⟨w.heap.size,0,#[],rfl,Pk,gA _ _,Pk,by unfold maxLen;omega,rfl,rfl⟩⟩
  have K:=Pj bO;clear aj l p r bO af h;go_enter (S.f Tryz.func11),Tryz.ntmps11;have E:=Pj (show ∀(j:Nat) u,((List.range n).map λj=>fX (f j))[j]?=some u->(w.alloc (.cells #[] 3)).cell? ((⟨b,o,none⟩:Addr).add j)=some u from λj u aC=>by
   have z:j<n/\fX (f j)=u:=by
    rw[List.getElem?_map]at aC;rcases Nat.lt_or_ge j n with x|x
    .rw[List.getElem?_range x]at aC
     exact⟨x,by simpa using aC⟩
    .rw[List.getElem?_eq_none (by simpa using x)]at aC
     cases aC
   have:=G.out j z.1;rw[show((⟨b,o,none⟩:Addr).add j)=⟨b,o+j,none⟩ by simp[Addr.add]];rw[<-z.2];exact(Pz _ _ _ D.out).trans this)
  have F:=Pj (show ∀u∈(List.range n).map (λj=>fX (f j)),u.oneCell'=true from λu hu=>by obtain⟨n,_,rfl⟩:=List.mem_map.1 hu;rfl)
  go_wp2_with (at_builtin;refine wpList_append_own_at _ rfl _ _ 22 rfl w.heap.size 3 M (.int .i64 0) 1 8 (ag.underlying22 A) C.out H.out I.out J.out rfl (by decide) _ 0 _ rfl K.out ⟨b,o,none⟩ n c ((List.range n).map λj=>fX (f j)) rfl (by simp) E.out F.out (by unfold maxLen;omega) (by omega) (by simp) ?_;intro Q R B d P aJ)
  go_ret;rw[Nat.zero_add,List.nil_append]at B;obtain⟨g,cap,cur,rfl,ae,hb,L⟩:=QO (by omega) B;refine⟨g,⟨cap,rfl⟩,ae,⟨cur,hb⟩,L,?_⟩;refine⟨d.os,d.tape,d.output,Po (by simp) d.size,λi aj _=>(d.block i (by simp;omega) (λe=>?_)).trans (Pq aj)⟩;have e:some i=some w.heap.size:=e;have:=Pm e;omega
end
section
variable{A:Array Func}
def iD.P3{w w':World}{b o n:Nat}{f:Nat->Int}(h:iD w b o n f)(k:w'.heap[b]?=w.heap[b]?):iD w' b o n f:=λj aC=>(World.cell?_of_block k).trans (h j aC)
def fy.P3{w w':World}{d:cR}{p:dU}{B:Nat}(h:fy w d p)(hb:p.below d B)(k:∀i,i<B->w'.heap[i]?=w.heap[i]?):fy w' d p where
 first:=h.first.P3 (k _ hb.F)
 dz i aj:=(World.cell?_of_block (k _ hb.R)).trans (h.dz i aj)
 rows i aj:=(World.cell?_of_block (k _ hb.R)).trans (h.rows i aj)
 fD i aj:=(h.fD i aj).P3 (k _ (hb.P i aj))
 free ak:=by obtain⟨b,o,e,n⟩:=h.free ak;exact⟨b,o,e,n.P3 (k _ (hb.rL b o ak e))⟩
def Qh(d:cR)(i b c:Nat):List Value:=[.int .i64 (d.dz i),.slice (some ⟨b,0,none⟩) d.kinds c]
def P7(d:cR)(im j':Nat->Nat):Nat->List Value
 | 0=>[]
 |m+1=>P7 d im j' m++Qh d m (im m) (j' m)
def Qx(d:cR)(im j':Nat->Nat):∀m,(P7 d im j' m).length=m*2
 | 0=>rfl
 |m+1=>by simp only[P7,List.length_append,Qx d im j' m,Qh,List.length_cons,List.length_nil];omega
def Qs(d:cR){im j' c f:Nat->Nat}:∀m,(∀i,i<m->im i=c i/\j' i=f i)->P7 d im j' m=P7 d c f m
 | 0,_=>rfl
 |m+1,h=>by simp only[P7];rw[Qs d m λi aj=>h i (by omega),(h m (by omega)).1,(h m (by omega)).2]
def Qm(d:cR)(im j':Nat->Nat):∀m i,i<m->(P7 d im j' m)[i*2]?=some (.int .i64 (d.dz i))/\(P7 d im j' m)[i*2+1]?=some (.slice (some ⟨im i,0,none⟩) d.kinds (j' i))
 | 0,_,h=>by omega
 |m+1,i,h=>by
  simp only[P7];have ah:=Qx d im j' m;by_cases aj:i<m
  .have:=Qm d im j' m i aj
   rw[PF (by omega),PF (by omega)];exact this
  .obtain rfl:i=m:=by omega
   rw[PE (by omega),PE (by omega),ah,Nat.sub_self,Nat.add_sub_cancel_left];exact⟨rfl,rfl⟩
structure P9(Qb B:Nat)(d:cR)(p:dU)(P8 PY P0 eT P1 h9:Nat)(im j':Nat->Nat)(m:Nat)(fu:Value)(w:World):Prop where
 src:fy w d p
 mn:w.heap[P8]?=some (.cells (cO d p) 27)
 blk:w.heap[PY]?=some (.cells (mE d.kinds (.slice (some ⟨P0,0,none⟩) d.kinds eT) fu (.slice (some ⟨P1,0,none⟩) d.fC h9)) 27)
 own:w.ownsRow B 33 2 fu m (P7 d im j' m)
 fD:∀i,i<m->iD w (im i) 0 d.kinds (d.fD i)/\(∃cur:Array Value,w.heap[im i]?=some (.cells cur 3))/\B<=im i/\fu.ownBlock≠some (im i)
 rP:∀i j,i<j->j<m->im i<im j
 first:iD w P0 0 d.kinds d.first/\∃cur:Array Value,w.heap[P0]?=some (.cells cur 3)
 free:iD w P1 0 d.fC d.free
 b4:Qb<=P8/\Qb<=PY/\Qb<=P0/\Qb<=P1/\P8<B/\PY<B/\P0<B/\P1<B/\P8≠PY/\PY≠P0/\PY≠P1/\P0≠P1
 dm:B<=w.heap.size
def P9.next{w B:Nat}{d:cR}{p:dU}{H PY D eT G h9:Nat}{im j':Nat->Nat}{m:Nat}{q:Value}{wr:World}(br:P9 w B d p H PY D eT G h9 im j' m q wr)(hb:p.below d w){g l:World}{o:Obj}{c E f cap:Nat}(K:wr.drew.grownBy g none)(am:wr.heap.size<=c)(al:∃cur:Array Value,g.heap[c]?=some (.cells cur 3))(ad:iD g c 0 d.kinds (d.fD m))(u:(g.alloc o).grownBy l q.ownBlock)(aJ:q.ownBlock=some f\/f=g.heap.size+1)(ai:l.ownsRow B 33 2 (.slice (some ⟨f,0,none⟩) (m+1) cap) (m+1) (P7 d im j' m++Qh d m c E)):
 P9 w B d p H PY D eT G h9 (λi=>if i=m then c else im i) (λi=>if i=m then E else j' i) (m+1) (.slice (some ⟨f,0,none⟩) (m+1) cap) (l.setCell ⟨PY,2,none⟩ (.slice (some ⟨f,0,none⟩) (m+1) cap))/\
  (∀X:World,X.heap.size<=w->X.grownBy wr none->X.grownBy (l.setCell ⟨PY,2,none⟩ (.slice (some ⟨f,0,none⟩) (m+1) cap)) none)/\∀i,i<B->i≠PY->(l.setCell ⟨PY,2,none⟩ (.slice (some ⟨f,0,none⟩) (m+1) cap)).heap[i]?=wr.heap[i]?:=by
 obtain⟨ap,av,aw,ay,ae,az,V,ag,ah,aq,ar,au⟩:=br.b4;have L:∀r,q.ownBlock=some r->B<=r/\r<wr.heap.size:=λr e=>xX br.own r e
 have z:=br.dm;have aA:wr.heap.size<=g.heap.size:=K.size;have ak:=u.size;simp at ak;have U:∀i,i<wr.heap.size->g.heap[i]?=wr.heap[i]?:=λi aj=>K.block i aj (by simp)
 have P:∀i,i<g.heap.size->q.ownBlock≠some i->l.heap[i]?=g.heap[i]?:=λi I J=>(u.block i (by simp;omega) (λe=>J e.symm)).trans (Pq I)
 have AY:∀i,i≠PY->(l.setCell ⟨PY,2,none⟩ (.slice (some ⟨f,0,none⟩) (m+1) cap)).heap[i]?=l.heap[i]?:=λi h=>ft (by show i≠PY;exact h)
 have keep:∀i,i<wr.heap.size->i≠PY->q.ownBlock≠some i->(l.setCell ⟨PY,2,none⟩ (.slice (some ⟨f,0,none⟩) (m+1) cap)).heap[i]?=wr.heap[i]?:=λi I J ax=>(AY i J).trans ((P i (by omega) ax).trans (U i I))
 have low:∀i,i<B->i≠PY->(l.setCell ⟨PY,2,none⟩ (.slice (some ⟨f,0,none⟩) (m+1) cap)).heap[i]?=wr.heap[i]?:=λi I J=>keep i (by omega) J λe=>by have:=(L i e).1;omega
 have R:c<g.heap.size:=by obtain⟨cur,h⟩:=al;exact bp h
 have S:q.ownBlock≠some c:=λe=>by have:=(L c e).2;omega
 have aa:l.heap[PY]?=_:=((P PY (by omega) (λe=>by have:=(L PY e).1;omega)).trans (U PY (by omega))).trans br.blk;have T:∀i,i<g.heap.size->q.ownBlock≠some i->(some f:Option Nat)≠some i:=λi I J e=>by
  have e:=Pm e;subst e;rcases aJ with h|h
  .exact J h
  .omega
 refine⟨⟨br.src.P3 hb λi aj=>low i (by omega) (by omega),(low H ae ah).trans br.mn,cQ aa,?_,λi aj=>?_,λi j I J=>?_,⟨br.first.1.P3 (low D V (by omega)),?_⟩,br.free.P3 (low G ag (by omega)),br.b4,by simp;omega⟩,λX ao M=>?_,low⟩
 .have e:P7 d (λi=>if i=m then c else im i) (λi=>if i=m then E else j' i) (m+1)=P7 d im j' m++Qh d m c E:=by simp only[P7,if_true];rw[Qs d m λi aj=>⟨if_neg (by omega),if_neg (by omega)⟩]
  rw[e];exact kq ai λi I J=>AY i (by omega)
 .by_cases hm:i=m
  .subst hm
   simp only[if_true];have J:(l.setCell ⟨PY,2,none⟩ (.slice (some ⟨f,0,none⟩) (i+1) cap)).heap[c]?=g.heap[c]?:=(AY c (by omega)).trans (P c R S);exact⟨ad.P3 J,by obtain⟨cur,h⟩:=al;exact⟨cur,J.trans h⟩,by omega,T c R S⟩
  .simp only[if_neg hm]
   obtain⟨q1,⟨cur,F⟩,W,Q⟩:=br.fD i (by omega);have Y:=bp F;have J:=keep (im i) Y (by omega) Q;exact⟨q1.P3 J,⟨cur,J.trans F⟩,W,T _ (by omega) Q⟩
 .by_cases aC:j=m
  .subst aC
   simp only[if_true,if_neg (show i≠j by omega)];obtain⟨q1,⟨cur,F⟩,W,Q⟩:=br.fD i I;have Y:=bp F;omega
  .simp only[if_neg aC,if_neg (show i≠m by omega)]
   exact br.rP i j I (by omega)
 .obtain⟨cur,h⟩:=br.first.2
  exact⟨cur,(low D V (by omega)).trans h⟩
 .have Z:X.grownBy wr.drew none:=fQ M
  have C:=(Z.trans K).trans (Pv _ o none);have af:=M.size;refine⟨?_,?_,?_,?_,λi aj _=>?_⟩
  .exact u.os.trans C.os
  .exact u.tape.trans C.tape
  .exact u.output.trans C.output
  .have:=C.size;simp at this ⊢;omega
  .exact(low i (by omega) (by omega)).trans (M.block i aj (by simp))
abbrev Qi:Array Value:=#[.int .i64 0,.slice none 0 0,.slice none 0 0,.slice none 0 0]
def P9.begin{w X W:World}{d:cR}{p:dU}{PY c eT f h9:Nat}{im j':Nat->Nat}(src:fy X d p)(hb:p.below d w.heap.size)(mn:X.heap[w.heap.size]?=some (.cells (cO d p) 27))(J:X.heap[w.heap.size+1]?=some (.cells Qi 27))(g:w.grownBy X none)(hF:iD X c 0 d.kinds d.first)(o:∃cur:Array Value,X.heap[c]?=some (.cells cur 3))(q:iD X f 0 d.fC d.free)(b4:w.heap.size+1<PY/\w.heap.size+1<c/\w.heap.size+1<f/\PY<W.heap.size/\c<X.heap.size/\f<X.heap.size/\PY≠c/\PY≠f/\c≠f)(ax:W.heap[PY]?=some (.cells (mE d.kinds (.slice (some ⟨c,0,none⟩) d.kinds eT) (.slice none 0 0) (.slice (some ⟨f,0,none⟩) d.fC h9)) 27))(k:∀i,i<X.heap.size->i≠PY->W.heap[i]?=X.heap[i]?)(u:X.heap.size<=W.heap.size)(av:W.os=X.os/\W.tape=X.tape/\W.output=X.output):
 P9 w.heap.size W.heap.size d p w.heap.size PY c eT f h9 im j' 0 (.slice none 0 0) W/\w.grownBy W none/\W.heap[w.heap.size+1]?=some (.cells Qi 27)/\(w.heap.size+1≠c/\w.heap.size+1≠f/\w.heap.size+1≠PY/\w.heap.size+1<W.heap.size):=by
 obtain⟨z,B,C,D,l,r,E,F,G⟩:=b4;have af:=g.size;refine⟨⟨src.P3 hb λi aj=>k i (by omega) (by omega),(k _ (by omega) (by omega)).trans mn,ax,⟨rfl,.inl ⟨rfl,rfl⟩⟩,λi aj=>by omega,λi j I J=>by omega,⟨hF.P3 (k c l (by omega)),?_⟩,q.P3 (k f r (by omega)),by omega,Pk⟩,⟨av.1.trans g.os,av.2.1.trans g.tape,av.2.2.trans g.output,by omega,λi aj ao=>(k i (by omega) (by omega)).trans (g.block i aj ao)⟩,(k _ (by omega) (by omega)).trans J,by omega⟩;obtain⟨cur,h⟩:=o;exact⟨cur,(k c l (by omega)).trans h⟩
def Qg{X:World}{b:Nat}{v0 v1 v2 v3:Value}{c:Array Value}(h:X.heap[b]?=some (.cells c 27)):((((X.setCell ⟨b,0,none⟩ v0).setCell ⟨b,1,none⟩ v1).setCell ⟨b,2,none⟩ v2).setCell ⟨b,3,none⟩ v3).heap[b]?=some (.cells ((((c.setIfInBounds 0 v0).setIfInBounds 1 v1).setIfInBounds 2 v2).setIfInBounds 3 v3) 27)/\
 ∀i,i≠b->((((X.setCell ⟨b,0,none⟩ v0).setCell ⟨b,1,none⟩ v1).setCell ⟨b,2,none⟩ v2).setCell ⟨b,3,none⟩ v3).heap[i]?=X.heap[i]?:=
 ⟨cQ (cQ (cQ (cQ h))),λi h=>(ft (by show i≠b;exact h)).trans ((ft (by show i≠b;exact h)).trans ((ft (by show i≠b;exact h)).trans (ft (by show i≠b;exact h))))⟩
structure KeptAt(w:World)(d:cR)(p:dU)(w':World):Prop where
 sV:fy w' d p
 first:w.heap.size<=p.gv/\p.hj=0/\∃cur:Array Value,w'.heap[p.gv]?=some (.cells cur 3)
 QY:w.heap.size<=p.j9/\p.j9≠p.gv
 fD:∀i,i<d.eY->w.heap.size<=p.im i/\p.sy i=0/\p.im i≠p.gv/\p.im i≠p.j9/\∃cur:Array Value,w'.heap[p.im i]?=some (.cells cur 3)
 apart:∀i j,i<j->j<d.eY->p.im i<p.im j
 free:∀b o,p.hE=some ⟨b,o,none⟩->w.heap.size<=b/\b≠p.gv/\b≠p.j9/\∀i,i<d.eY->b≠p.im i
def P9.done{w wr q:World}{B:Nat}{d:cR}{p:dU}{r PY g eT l h9 f h8:Nat}{im j':Nat->Nat}{cur:Array Value}(br:P9 w.heap.size B d p r PY g eT l h9 im j' d.eY (.slice (some ⟨f,0,none⟩) d.eY h8) wr)(cT:B<=f/\wr.heap[f]?=some (.cells cur 33)/\cur.toList.take (d.eY*2)=P7 d im j' d.eY)(E:w.heap.size+1≠g/\w.heap.size+1≠l/\w.heap.size+1≠PY/\w.heap.size+1<B)(k:∀i,i≠w.heap.size+1->q.heap[i]?=wr.heap[i]?):
 KeptAt w d ⟨g,0,eT,f,0,h8,im,λ_=>0,j',some ⟨l,0,none⟩,h9⟩ q:=by
 obtain⟨I,J,ax⟩:=cT;obtain⟨F,L,u,z,M,P,Q,R,S,G,H,K⟩:=br.b4;have ae:q.heap[f]?=some (.cells cur 33):=(k f (by omega)).trans J;have hb:∀i,i<d.eY->B<=im i/\f≠im i:=λi aj=>by obtain⟨_,_,C,D⟩:=br.fD i aj;exact⟨C,λe=>D (by rw[<-e];rfl)⟩
 refine⟨⟨br.first.1.P3 (k g (by omega)),λi aj=>tE ae ax (Qm d im j' d.eY i aj).1,λi aj=>?_,λi aj=>(br.fD i aj).1.P3 (k _ (by have:=(hb i aj).1;show im i≠_;omega)),λ_=>⟨l,0,rfl,br.free.P3 (k l (by omega))⟩⟩,⟨u,rfl,?_⟩,⟨by show w.heap.size<=f;omega,by show f≠g;omega⟩,λi aj=>?_,λi j I J=>br.rP i j I J,λb o e=>?_⟩
 .show q.cell? ⟨f,0+i*2+1,none⟩=_
  rw[Nat.add_assoc];exact tE ae ax (Qm d im j' d.eY i aj).2
 .obtain⟨c,h⟩:=br.first.2
  exact⟨c,(k g (by omega)).trans h⟩
 .have x:=hb i aj
  obtain⟨_,⟨c,al⟩,_,_⟩:=br.fD i aj;exact⟨by show w.heap.size<=im i;omega,rfl,by show im i≠g;omega,Ne.symm x.2,c,(k _ (by show im i≠_;omega)).trans al⟩
 .cases e
  exact⟨z,by show l≠g;omega,by show l≠f;omega,λi aj=>by have:=(hb i aj).1;show l≠im i;omega⟩
def Qc(w:World){a b o:Nat}(h:a≠b)(v0 v1 v2 v3:Value):((((w.setCell ⟨b,0,none⟩ v0).setCell ⟨b,1,none⟩ v1).setCell ⟨b,2,none⟩ v2).setCell ⟨b,3,none⟩ v3).cell? ⟨a,o,none⟩=w.cell? ⟨a,o,none⟩:=
 (E9 _ h).trans ((E9 _ h).trans ((E9 _ h).trans (E9 _ h)))
def QJ[S:Std A](d:cR)(ok:d.ok)(p:dU)(w:World)(h:fy w d p):
 Calls (ag A) 10 #[.agg (cO d p)] w λe w'=>∃hD:dU,e=.returned (.agg (cO d hD))/\KeptAt w d hD w'/\w.grownBy w' none:=by
 have hb:=h.below ok;have b9:=ok.kinds;have cc:=ok.fC;obtain⟨c,T⟩:∃c,(w.alloc (.cells (cO d p) 27)).alloc (.cells #[.int .i64 0,.slice none 0 0,.slice none 0 0,.slice none 0 0] 27)=c:=⟨_,rfl⟩
 have aN:w.grownBy c none:=by rw[<-T];exact Pn.trans Pn
 have aG:c.heap.size=w.heap.size+2:=by rw[<-T];simp
 have Z:c.heap[w.heap.size]?=some (.cells (cO d p) 27):=by rw[<-T];exact(Pq (by simp)).trans (gA _ _)
 have a8:c.heap[w.heap.size+1]?=some (.cells Qi 27):=by rw[<-T,show w.heap.size+1=(w.alloc (.cells (cO d p) 27)).heap.size by simp];exact gA _ _
 have a3:=Pj a8;clear a8;have t1:=h.keep aN;have bu:=aT (o:=0) Z;have c1:=aT (o:=1) Z;have c2:=aT (o:=2) Z;have c3:=aT (o:=3) Z;have ah:=Pj hb;have aH:=Pj aN;have aA:=Pj aG;have a2:=Pj Z;have Y:=Pj t1;have H:=Pj T;clear hb aN aG Z t1 T h;go_enter (S.f Tryz.func10),Tryz.ntmps10;go_upto_region 1 with fail
 have aQ:=H.out;dsimp only[cO]at aQ;rw[aQ];clear aQ;have bu:c.cell? ⟨w.heap.size,0,none⟩=some (.int .i64 d.kinds):=bu.trans rfl;have c1:c.cell? ⟨w.heap.size,1,none⟩=some (.slice (some ⟨p.gv,p.hj,none⟩) d.kinds p.eT):=c1.trans rfl;have c3:c.cell? ⟨w.heap.size,3,none⟩=some (.slice p.hE d.fC p.h9):=c3.trans rfl;have cg:c.grownBy c.drew none:=fQ (Pw _ _);have a1:=Pj cg;have ax:=Pj (show ∀(W:World) (o:Obj),c.grownBy W none->(W.alloc o).cell? ⟨w.heap.size,0,none⟩=some (.int .i64 d.kinds)/\(W.alloc o).cell? ⟨w.heap.size,1,none⟩=some (.slice (some ⟨p.gv,p.hj,none⟩) d.kinds p.eT)/\(W.alloc o).cell? ⟨w.heap.size,3,none⟩=some (.slice p.hE d.fC p.h9)from λW o g=>by have ad:=g.trans (Pv W o none);exact⟨ad.cell bu (by simp),ad.cell c1 (by simp),ad.cell c3 (by simp)⟩)
 have U:=Pj (show ∀o:Obj,c.grownBy (c.alloc o).drew none from λo=>fQ Pn);have aZ:=Pj (show ∀o:Obj,(c.alloc o).drew.cell? ⟨w.heap.size,0,none⟩=some (.int .i64 d.kinds)/\(c.alloc o).drew.cell? ⟨w.heap.size,1,none⟩=some (.slice (some ⟨p.gv,p.hj,none⟩) d.kinds p.eT)/\(c.alloc o).drew.cell? ⟨w.heap.size,3,none⟩=some (.slice p.hE d.fC p.h9)from λo=>⟨(U.out o).cell bu (by simp),(U.out o).cell c1 (by simp),(U.out o).cell c3 (by simp)⟩);have di:c.drew.cell? ⟨w.heap.size,0,none⟩=some (.int .i64 d.kinds):=bu;have ar:c.drew.cell? ⟨w.heap.size,1,none⟩=some (.slice (some ⟨p.gv,p.hj,none⟩) d.kinds p.eT):=c1;have ba:c.drew.cell? ⟨w.heap.size,3,none⟩=some (.slice p.hE d.fC p.h9):=c3;clear cg;go_region_held3 (λW=>W.cell? ⟨w.heap.size,0,none⟩=some (.int .i64 d.kinds)/\W.cell? ⟨w.heap.size,1,none⟩=some (.slice (some ⟨p.gv,p.hj,none⟩) d.kinds p.eT)/\W.cell? ⟨w.heap.size,3,none⟩=some (.slice p.hE d.fC p.h9))
  (first|with_reducible exact⟨di,ar,ba⟩|with_reducible exact aZ.out _|with_reducible exact⟨bo,k1,bq⟩|with_reducible exact ax.out _ _ C.out|with_reducible exact⟨cH,au,av⟩|with_reducible exact ax.out _ _ (C.out.trans K.out)|with_reducible exact⟨(Qc j aU _ _ _ _).trans cH,(Qc j aU _ _ _ _).trans au,(Qc j aU _ _ _ _).trans av⟩|with_reducible exact⟨(Qc j aV _ _ _ _).trans cH,(Qc j aV _ _ _ _).trans au,(Qc j aV _ _ _ _).trans av⟩|(have q:=ax.out _ (.cells #[.int .i64 0,.slice none 0 0,.slice none 0 0,.slice none 0 0] 27) (C.out.trans K.out);with_reducible exact⟨(Qc _ aW _ _ _ _).trans q.1,(Qc _ aW _ _ _ _).trans q.2.1,(Qc _ aW _ _ _ _).trans q.2.2⟩))
  (first
  |(go_at_call 11;refine(Ql (A:=A) (some ⟨p.gv,p.hj,none⟩) d.kinds p.eT d.first (by omega) _ (by first|exact λ_=>⟨_,_,rfl,(Y.out.keep a1.out).first⟩|exact λ_=>⟨_,_,rfl,(Y.out.keep (U.out _)).first⟩)).mono ?_;rintro e w3 ⟨D,⟨eT,rfl⟩,ai,ae,al,f⟩;have L:c.grownBy w3 none:=(by first|exact a1.out.trans f|exact(U.out _).trans f);have bo:=L.cell bu (by simp);have k1:=L.cell c1 (by simp);have bq:=L.cell c3 (by simp);(try (have bv:=(f.block c.heap.size (by show c.heap.size<(c.alloc _).heap.size;simp) (by simp)).trans (gA c _)));have bC:=Pj f;have C:=Pj L;have a5:=Pj (And.intro ai (And.intro ae al));clear f L ai ae al)
  |(go_at_call 11;refine(Ql (A:=A) p.hE d.fC p.h9 d.free (by omega) _ (by first|exact(Y.out.keep C.out).free|exact(Y.out.keep (C.out.trans Pn)).free)).mono ?_;rintro e j ⟨F,⟨h9,rfl⟩,am,ap,R,f⟩;have M:w3.grownBy j none:=(by first|exact f|exact Pn.trans f);have cH:=M.cell bo (by simp);have au:=M.cell k1 (by simp);have av:=M.cell bq (by simp);(try (have ks:=(f.block c.heap.size (bp bv) (by simp)).trans bv));(try (have ks:=(f.block w3.heap.size (by simp) (by simp)).trans (gA w3 _)));have bD:=Pj f;have K:=Pj M;have a6:=Pj (And.intro am (And.intro ap R));(try (have bT:=aT (o:=0) ks));(try (have z0:=b1 (o:=0) ks));(try (have bU:=aT (o:=1) ks));(try (have aG:=b1 (o:=1) ks));(try (have bV:=aT (o:=2) ks));(try (have bX:=b1 (o:=2) ks));(try (have bW:=aT (o:=3) ks));(try (have z3:=b1 (o:=3) ks));have aU:w.heap.size≠c.heap.size:=(by have:=aA.out;omega);have aV:w.heap.size≠w3.heap.size:=(by have:=aA.out;have:=C.out.size;omega);have aW:w.heap.size≠j.heap.size:=(by have:=aA.out;have:=C.out.size;have:=K.out.size;omega);(try (have aB:=Pj ks;clear ks));clear f M am ap R))
 all_goals (
  have T:=aA.out;have aa:=C.out.trans K.out;have bQ:=C.out.size;have bR:=K.out.size;obtain⟨ai,⟨bL,ae⟩,al⟩:=a5.out;obtain⟨am,⟨b2,ap⟩,R⟩:=a6.out;have bs:=bp ae;have bO:=bp ap;have aF:=Y.out.keep aa;have aD:j.heap[w.heap.size]?=some (.cells (cO d p) 27):=(aa.block _ (by omega) (by simp)).trans a2.out;have aE:=al.keep K.out (by simp);have aC:j.heap[D]?=some (.cells bL 3):=(K.out.block _ bs (by simp)).trans ae;have bY:=aH.out.trans aa;have aw:j.heap[w.heap.size+1]?=some (.cells Qi 27):=(aa.block _ (by omega) (by simp)).trans a3.out;have ay:=aH.out.trans aa;have V:=Pj (And.intro ai am);clear ai am)
 focus (
  have u:=P9.begin (PY:=j.heap.size) (eT:=eT) (h9:=h9) (im:=λ_=>0) (j':=λ_=>0) aF ah.out aD aw ay aE ⟨_,aC⟩ R (by obtain⟨I,J⟩:=V.out;have I:c.heap.size<=D:=I;have J:w3.heap.size<=F:=J;simp only[Pp];omega) (gA j (.cells (mE d.kinds (.slice (some ⟨D,0,none⟩) d.kinds eT) (.slice none 0 0) (.slice (some ⟨F,0,none⟩) d.fC h9)) 27)) (λi h _=>Pq h) (by simp) ⟨rfl,rfl,rfl⟩;unfold mE at u;generalize hW:j.alloc _=aX at u ⊢;generalize aR:j.heap.size=PY at u ⊢)
 rotate_left
 focus (
  have u:=P9.begin (PY:=w3.heap.size) (eT:=eT) (h9:=h9) (im:=λ_=>0) (j':=λ_=>0) aF ah.out aD aw ay aE ⟨_,aC⟩ R (by obtain⟨I,J⟩:=V.out;have I:c.heap.size<=D:=I;have J:(w3.alloc (.cells Qi 27)).heap.size<=F:=J;simp only[Pp]at J;simp only[World.size_setCell];omega) (Qg aB.out).1 (λi _ h=>(Qg aB.out).2 i h) (by simp only[World.size_setCell];omega) ⟨rfl,rfl,rfl⟩;generalize hW:World.setCell (World.setCell (World.setCell (World.setCell j ⟨w3.heap.size,0,none⟩ _) _ _) _ _) _ _=aX at u ⊢;generalize aR:w3.heap.size=PY at u ⊢)
 rotate_left
 focus (
  have u:=P9.begin (PY:=c.heap.size) (eT:=eT) (h9:=h9) (im:=λ_=>0) (j':=λ_=>0) aF ah.out aD aw ay aE ⟨_,aC⟩ R (by obtain⟨I,J⟩:=V.out;have I:(c.alloc (.cells Qi 27)).heap.size<=D:=I;have J:w3.heap.size<=F:=J;simp only[Pp]at I;simp only[World.size_setCell];omega) (Qg aB.out).1 (λi _ h=>(Qg aB.out).2 i h) (by simp only[World.size_setCell];omega) ⟨rfl,rfl,rfl⟩;generalize hW:World.setCell (World.setCell (World.setCell (World.setCell j ⟨c.heap.size,0,none⟩ _) _ _) _ _) _ _=aX at u ⊢;generalize aR:c.heap.size=PY at u ⊢)
 rotate_left
 all_goals (
  obtain⟨u,a0,aY,aS⟩:=u;have bc:=ah.out;clear hW aR C K bC bD a5 a6 V bQ bR ae al ap R bs bO aF aD aE aC aw ay aa;clear bu c1 c2 c3 di ar ba U aZ ax a2 Y H a3 aH;obtain⟨B,bb⟩:∃B,B=aX.heap.size:=⟨_,rfl⟩
  rw[<-bb]at u aS;obtain⟨bN,bi,bk,bl,bn⟩:=HX (A:=A);have bE:=Pj bi;have bI:=Pj bk;have bJ:=Pj bl;have bK:=Pj bn;have bF:=Pj u;have bA:=Pj a0;have bz:=Pj aY;have aK:=Pj aS;have b6:=ok.eY;clear bi bk bl bn bb u a0 aY aS ah;have a4:=Pj bc;clear bc;go_wp2;go_loopw [4] (λi wr=>∃(m:Nat) (im j':Nat->Nat) (z:Value),m<=d.eY/\i=.int .i64 m/\P9 w.heap.size B d p w.heap.size PY D eT F h9 im j' m z wr/\w.grownBy wr none/\wr.heap[w.heap.size+1]?=some (.cells Qi 27)) (λi _=>d.eY-(vy i).toNat)
  case atStart=>exact⟨0,_,_,_,by omega,by go_num,bF.out,bA.out,bz.out⟩
  case round=>
   obtain⟨m,im,j',z,hm,rfl,br,G,E⟩:=hrel;have bP:wr.cell? ⟨w.heap.size,2,none⟩=some (.slice (some ⟨p.j9,p.lg,none⟩) d.eY p.h8):=(aT (o:=2) br.mn).trans rfl;by_cases aO:m<d.eY
   .have hd:decide ((m:Int)<d.eY)=true:=by simpa using aO
    have bM:decide (m<d.eY)=true:=by simpa using aO
    have r1:=br.src.dz m aO;have r2:=br.src.rows m aO;have v3:wr.cell? ⟨PY,2,none⟩=some z:=(aT (o:=2) br.blk).trans rfl;have bw:=Pj (show wr.grownBy wr.drew none from fQ (Pw _ _));have d2:wr.drew.cell? ⟨w.heap.size,2,none⟩=some (.slice (some ⟨p.j9,p.lg,none⟩) d.eY p.h8):=bP;have d3:wr.drew.cell? ⟨p.j9,p.lg+m*2,none⟩=some (.int .i64 (d.dz m)):=r1;have d4:wr.drew.cell? ⟨p.j9,p.lg+m*2+1,none⟩=some (.slice (some ⟨p.im m,p.sy m,none⟩) d.kinds (p.j' m)):=r2;have aq:∀r,z.ownBlock=some r->B<=r/\r<wr.heap.size:=λr e=>xX br.own r e
    have bZ:=Pj aq;have b8:=a4.out.R;have b4:=br.b4;have au:(some w.heap.size:Option Nat)≠z.ownBlock:=λe=>by have:=(aq _ e.symm).1;omega
    have bt:(some p.j9:Option Nat)≠z.ownBlock:=λe=>by have:=(aq _ e.symm).1;omega
    have av:(some PY:Option Nat)≠z.ownBlock:=λe=>by have:=(aq _ e.symm).1;omega
    have e6:w.heap.size≠PY:=by omega
    have fY:p.j9≠PY:=by omega
    have b5:=br.dm;have b7:PY<B:=by omega
    have X:=Pj br;have P:=Pj G;have H:=Pj E;clear br G E aq b4;go_wp2;simp only[oZ 25 (.tmp 21)];have ca:=Pg;go_region_held3 (λW=>W.cell? ⟨w.heap.size,2,none⟩=some (.slice (some ⟨p.j9,p.lg,none⟩) d.eY p.h8)/\W.cell? ⟨p.j9,p.lg+m*2,none⟩=some (.int .i64 (d.dz m))/\W.cell? ⟨p.j9,p.lg+m*2+1,none⟩=some (.slice (some ⟨p.im m,p.sy m,none⟩) d.kinds (p.j' m)))
     (first|with_reducible exact⟨d2,d3,d4⟩|with_reducible exact⟨f2,f3,f4⟩|with_reducible exact az.out _|with_reducible exact⟨ad,L,M⟩|with_reducible exact⟨(E9 _ e6).trans ad,(E9 _ fY).trans L,(E9 _ fY).trans M⟩)
     (first
     |(go_at_call 11;refine(Ql (A:=A) (some ⟨p.im m,p.sy m,none⟩) d.kinds (p.j' m) (d.fD m) (by omega) _ (λ_=>⟨_,_,rfl,(X.out.src.keep bw.out).fD m aO⟩)).mono ?_;rintro e l ⟨a7,⟨a9,rfl⟩,kE,kk,bd,f⟩;have f2:=f.cell d2 (by simp);have f3:=f.cell d3 (by simp);have f4:=f.cell d4 (by simp);have v5:l.cell? ⟨PY,2,none⟩=some z:=f.cell (a:=⟨PY,2,none⟩) v3 (by simp);have cl:∀o:Obj,(l.alloc o).cell? ⟨PY,2,none⟩=some z:=(λo=>(Pv l o none).cell v5 (by simp));have az:=Pj (show ∀o:Obj,(l.alloc o).cell? ⟨w.heap.size,2,none⟩=some (.slice (some ⟨p.j9,p.lg,none⟩) d.eY p.h8)/\(l.alloc o).cell? ⟨p.j9,p.lg+m*2,none⟩=some (.int .i64 (d.dz m))/\(l.alloc o).cell? ⟨p.j9,p.lg+m*2+1,none⟩=some (.slice (some ⟨p.im m,p.sy m,none⟩) d.kinds (p.j' m))from λo=>⟨(Pv l o none).cell f2 (by simp),(Pv l o none).cell f3 (by simp),(Pv l o none).cell f4 (by simp)⟩);have aL:=Pj (And.intro kE (And.intro kk bd));have Q:=Pj f;clear f kE kk bd)
     |(refine step_append_lies _ (by rfl) _ _ _ (by rfl) B 33 bN (.agg #[.int .i64 0,.slice none 0 0]) 2 32 (by kernel_rfl) bE.out bI.out bJ.out bK.out rfl (by omega) z m (P7 d im j' m) (by rfl) (kq X.out.own (λi I J=>(Pq (Px J Q.out.size)).trans (Q.out.block i J (by simp)))) ⟨l.heap.size,0,none⟩ 1 1 [.int .i64 (d.dz m),.slice (some ⟨a7,0,none⟩) d.kinds a9] (by rfl) (by rfl) (World.news_of_block (cs:=#[.int .i64 (d.dz m),.slice (some ⟨a7,0,none⟩) d.kinds a9]) (t:=33) (fr:=(0,0)) (heap_alloc_new l _)) (by simp[Value.oneCell']) (by omega) (by unfold maxLen;omega) (by omega) (by have bm:wr.heap.size<=l.heap.size:=Q.out.size;simp only[Pp];omega) (l.heap.size+1) (by simp) ?_;intro b3 cap bS bj af aJ cb;have ad:=af.cell (az.out _).1 au;have L:=af.cell (az.out _).2.1 bt;have M:=af.cell (az.out _).2.2 bt;have aM:bS.heap[PY]?=some (.cells (mE d.kinds (.slice (some ⟨D,0,none⟩) d.kinds eT) z (.slice (some ⟨F,0,none⟩) d.fC h9)) 27):=(af.block PY (by have bm:wr.heap.size<=l.heap.size:=Q.out.size;simp only[Pp];omega) av).trans ((Pq (by have bm:wr.heap.size<=l.heap.size:=Q.out.size;omega)).trans ((Q.out.block PY (by show PY<wr.heap.size;omega) (by simp)).trans X.out.blk));have cj:=aT (o:=2) aM;have ck:=b1 (o:=2) aM;have bG:=Pj bj;have bB:=Pj af;have bx:=Pj aJ;clear bj af aJ aM))
    all_goals (
     have ak:=X.out.next a4.out Q.out aL.out.1 aL.out.2.1 aL.out.2.2 bB.out bx.out bG.out;have aI:=Pj ak;clear ak;go_wp2;exact⟨⟨m+1,_,_,_,by omega,by push_cast;rfl,aI.out.1,aI.out.2.1 w Pk P.out,(aI.out.2.2 _ aK.out.2.2.2 aK.out.2.2.1).trans H.out⟩,by show d.eY-((m:Int)+1).toNat<d.eY-(m:Int).toNat;omega⟩)
   .have hd:decide ((m:Int)<d.eY)=false:=by simp;omega
    have bM:decide (m<d.eY)=false:=by simpa using aO
    obtain rfl:m=d.eY:=by omega
    obtain⟨aP,h8,b0,rfl,bf,bg,bh⟩:=JX br.own (by omega);have ce:wr.cell? ⟨PY,0,none⟩=some (.int .i64 d.kinds):=(aT (o:=0) br.blk).trans rfl;have cf:wr.cell? ⟨PY,1,none⟩=some (.slice (some ⟨D,0,none⟩) d.kinds eT):=(aT (o:=1) br.blk).trans rfl;have ch:wr.cell? ⟨PY,2,none⟩=some (.slice (some ⟨aP,0,none⟩) d.eY h8):=(aT (o:=2) br.blk).trans rfl;have ci:wr.cell? ⟨PY,3,none⟩=some (.slice (some ⟨F,0,none⟩) d.fC h9):=(aT (o:=3) br.blk).trans rfl;have bT:=aT (o:=0) E;have bU:=aT (o:=1) E;have bV:=aT (o:=2) E;have bW:=aT (o:=3) E;have z0:=b1 (o:=0) E;have aG:=b1 (o:=1) E;have bX:=b1 (o:=2) E;have z3:=b1 (o:=3) E;have X:=Pj br;have P:=Pj G;have H:=Pj E;have bH:=Pj (And.intro bf (And.intro bg bh));clear br G E bf bg bh;go_wp2;refine bodyPost_ret (results_cell_row rfl _ _ (w.heap.size+1) 27 #[.int .i64 d.kinds,.slice (some ⟨D,0,none⟩) d.kinds eT,.slice (some ⟨aP,0,none⟩) d.eY h8,.slice (some ⟨F,0,none⟩) d.fC h9] (0,0) _ rfl (Qg H.out).1 (ag.underlying25 A) rfl LI) rfl ?_;refine⟨⟨D,0,eT,aP,0,h8,im,λ_=>0,j',some ⟨F,0,none⟩,h9⟩,rfl,X.out.done bH.out aK.out (Qg H.out).2,?_⟩;exact⟨P.out.os,P.out.tape,P.out.output,by have:=P.out.size;simp only[World.size_setCell];omega,λi aj ao=>((Qg H.out).2 i (by omega)).trans (P.out.block i aj ao)⟩)
end
end Go.aN
namespace Go.aN
open Go.Proofs Go.RowKit Go.Maps Go.Shelf
def P4(d:cR)(n u:Nat):cR:={d with eY:=n,dz:=λi=>if i=0 then 0 else d.dz i+1,fC:=u,free:=λi=>d.free i+1}
def Qk(d:cR)(n u:Nat):Prop:=(n=d.eY\/(n+1=d.eY/\n≠0/\d.dz n=4))/\(u=d.fC\/(u+1=d.fC/\d.free u=4))/\(∀i,i<n->i=0\/d.dz i<=3)/\∀i,i<u->d.free i<=3
def QK{d:cR}(ok:d.ok){n u:Nat}(h:Qk d n u):(P4 d n u).ok where
 kinds:=ok.kinds
 first:=ok.first
 eY:=by have:=ok.eY;show 1<=n/\n<=3;rcases h.1 with h|h<;>omega
 zero:=rfl
 dz i aj:=by have aj:i<n:=aj;show 0<=(if i=0 then 0 else d.dz i+1)/\(if i=0 then 0 else d.dz i+1)<=4;have:=h.2.2.1 i aj;have:=ok.dz i (by rcases h.1 with h|h<;>omega);split<;>omega
 rP i aj:=by
  have aj:i+1<n:=aj;have I:=ok.rP i (by rcases h.1 with h|h<;>omega);show(if i=0 then 0 else d.dz i+1)<if i+1=0 then 0 else d.dz (i+1)+1
  have J:=ok.dz i (by rcases h.1 with h|h<;>omega);rw[if_neg (Nat.succ_ne_zero i)];split<;>omega
 fD i aj:=ok.fD i (by have aj:i<n:=aj;rcases h.1 with h|h<;>omega)
 fC:=by have:=ok.fC;show u<=5;rcases h.2.1 with h|h<;>omega
 free i aj:=by have aj:i<u:=aj;have:=h.2.2.2 i aj;have:=ok.free i (by rcases h.2.1 with h|h<;>omega);show 0<=d.free i+1/\d.free i+1<=4;omega
 Av i aj:=by have aj:i+1<u:=aj;have:=ok.Av i (by rcases h.2.1 with h|h<;>omega);show d.free i+1<d.free (i+1)+1;omega
def Qt{d:cR}(ok:d.ok)(n u k day:Nat):∀i,i<=d.eY->lp (P4 d n u) k i (day+1)=lp d k i day
 | 0,_=>rfl
 |i+1,aj=>by
  unfold lp;rw[Qt ok n u k day i (by omega)];show(if (if i=0 then(0:Int)else d.dz i+1)<=((day+1:Nat):Int)then d.fD i k else _)=_;have aP:=ok.zero;by_cases c:i=0
  .subst c
   rw[if_pos rfl,if_pos (by omega),if_pos (by omega)]
  .rw[if_neg c]
   by_cases al:d.dz i<=day
   .rw[if_pos al,if_pos (by push_cast;omega)]
   .rw[if_neg al,if_neg (by push_cast;omega)]
def QW{d:cR}{n k day:Nat}(h:d.dz n=4)(hd:day<=3):lp d k (n+1) day=lp d k n day:=by rw[lp,if_neg (by omega)]
def QC{d:cR}(ok:d.ok){n u k day:Nat}(h:Qk d n u)(hd:day<=3):∀i,rf (P4 d n u) k i (day+1)=rf d k i day
 | 0=>by
  show lp (P4 d n u) k n (day+1)=lp d k d.eY day;rcases h.1 with e|⟨ar,_,c⟩
  .rw[e];exact Qt ok _ u k day _ Pk
  .rw[Qt ok n u k day n (by omega),<-ar,QW c hd]
 |i+1=>by
  unfold rf;rw[QC ok h hd i];show(if d.free i+1=((day+1:Nat):Int)then _ else _)=_;by_cases al:d.free i=day
  .rw[if_pos al,if_pos (by push_cast;omega)]
  .rw[if_neg al,if_neg (by push_cast;omega)]
def QD{d:cR}(ok:d.ok){n u:Nat}(h:Qk d n u)(k:Nat){day:Nat}(hd:day<=3):cC (P4 d n u) k (day+1)=cC d k day:=by
 unfold cC;rw[QC ok h hd];show rf d k u day=rf d k d.fC day;rcases h.2.1 with e|⟨ar,c⟩
 .rw[e]
 .rw[<-ar,rf,if_neg (by omega)]
def QA{t u:Nat->Int}(h:∀day,day<=3->u (day+1)=t day)(s:Nat):∀n,s+n<=4->jb u (s+1) n=jb t s n
 | 0,_=>rfl
 |n+1,ak=>by simp only[jb];rw[QA h s n (by omega),show s+1+n=(s+n)+1 by omega,h (s+n) (by omega)]
def Qv{f:Int}{t u:Nat->Int}(h:∀day,day<=3->u (day+1)=t day){a b:Nat}(bY:a<=b)(hb:b<=95):fP f u (a+24) (b+24)=fP f t a b:=by
 have I:(a+24) / 24=a / 24+1:=by omega
 have J:(b+24) / 24=b / 24+1:=by omega
 have ax:a / 24<=b / 24:=Nat.div_le_div_right bY;unfold fP;rw[I,J,show b / 24+1-(a / 24+1)=b / 24-a / 24 by omega,QA h (a / 24+1) _ (by omega)]
def Qy{f:Int}{t:Nat->Int}{a b:Nat}(aa:a<120)(hb:b<120):jI f t (so a b)=fP f t a b:=by unfold so jI;rw[dif_pos ⟨aa,hb⟩]
abbrev Qn(f:Int)(t:Nat->Int)(D:Ea)(x:e1):Ea:=D.put (.int .i64 (jI f t x)) (.lit (.bool true))
def Qz{f:Int}{t u:Nat->Int}(h:∀day,day<=3->u (day+1)=t day){fm left:Nat}(ah:left<=95)(D:Ea):∀k,max left fm+k<=96->(lV (fm+24) (left+24) k).foldl (Qn f u) D=(lV fm left k).foldl (Qn f t) D
 | 0,_=>rfl
 |k+1,U=>by rw[KX,KX,List.foldl_append,List.foldl_append,Qz h ah D k (by omega)];show Qn f u _ _=Qn f t _ _;unfold Qn;rw[Qy (by omega) (by omega),Qy (by omega) (by omega),show max (left+24) (fm+24)+k=(max left fm+k)+24 by omega,Qv h (by omega) (by omega)]
def Qu{f:Int}{t u:Nat->Int}(h:∀day,day<=3->u (day+1)=t day){lm fm c:Nat}(hF:c<=95):∀i,lm+i<=96->lf f u (gy (lm+24) (fm+24) (c+24) i)=lf f t (gy lm fm c i)
 | 0,_=>rfl
 |i+1,aj=>by
  have d:=Qu (f:=f) h (lm:=lm) (fm:=fm) hF i (by omega);unfold lf at *;rw[gy,gy,List.foldl_append,List.foldl_append,d,show lm+24+i=(lm+i)+24 by omega,show c+24+1-max (lm+i+24) (fm+24)=c+1-max (lm+i) fm by omega];by_cases al:max (lm+i) fm<=c+1
  .exact Qz h (by omega) _ _ (by omega)
  .rw[show c+1-max (lm+i) fm=0 by omega]
   rfl
def gP.late(s:gP):gP:=⟨s.k,s.lm+24,s.bV+24,s.fm+24,s.bN+24⟩
def gP.xr{s:gP}{d:cR}{n u:Nat}(h:s.ok d)(ah:s.bV<=95)(hF:s.bN<=95):s.late.ok (P4 d n u) where
 k:=h.k
 l:=by have:=h.l;show s.lm+24<=s.bV+24;omega
 bw:=by show s.bV+24<120;omega
 f:=by have:=h.f;show s.fm+24<=s.bN+24;omega
 hF:=by show s.bN+24<120;omega
 x:=by have:=h.x;show s.lm+24<=s.bN+24;omega
def QU{d:cR}(ok:d.ok){n u:Nat}(h:Qk d n u){s:gP}(ah:s.bV<=95)(hF:s.bN<=95)(af:s.lm<=s.bV):oC (P4 d n u) s.late=oC d s:=by unfold oC;show intKeys (lf (d.first s.k) (cC (P4 d n u) s.k) (gy (s.lm+24) (s.fm+24) (s.bN+24) (s.bV+24-(s.lm+24)+1)))=_;rw[show s.bV+24-(s.lm+24)+1=s.bV-s.lm+1 by omega,Qu (λday hd=>QD ok h s.k hd) hF _ (by omega)]
end Go.aN
namespace Go.aN
open Go.Proofs Go.RowKit
section
variable{A:Array Func}
def dU.below.up{p:dU}{d:cR}{B C:Nat}(h:p.below d B)(hC:B<=C):p.below d C:=⟨by have:=h.F;omega,by have:=h.R;omega,λi aj=>by have:=h.P i aj;omega,λb o ak e=>by have:=h.rL b o ak e;omega⟩
structure P'(P2:World)(d:cR)(p hD:dU)(b x:Nat)(im j':Nat->Nat)(n:Nat)(fu:Value)(w:World):Prop where
 src:fy w d p
 mn:w.heap[b]?=some (.cells (cO d p) 27)
 first:iD w hD.gv hD.hj d.kinds d.first
 blk:w.heap[x]?=some (.cells #[.int .i64 d.kinds,.slice (some ⟨hD.gv,hD.hj,none⟩) d.kinds hD.eT,fu,.slice none 0 0] 27)
 own:w.ownsRow P2.heap.size 33 2 fu n (P7 (P4 d 0 0) im j' n)
 fD:∀i,i<n->iD w (im i) 0 d.kinds (d.fD i)/\(∃cur:Array Value,w.heap[im i]?=some (.cells cur 3))/\P2.heap.size<=im i/\fu.ownBlock≠some (im i)
 b4:p.below d P2.heap.size/\b<P2.heap.size/\x<P2.heap.size/\hD.gv<P2.heap.size/\b≠x/\hD.gv≠x/\p.gv≠x/\p.j9≠x/\(∀i,i<d.eY->p.im i≠x)/\∀c o,d.fC≠0->p.hE=some ⟨c,o,none⟩->c≠x
 dm:P2.heap.size<=w.heap.size
def fy.Qr{w w':World}{d:cR}{p:dU}{x B:Nat}(h:fy w d p)(hb:p.below d B)(hF:p.gv≠x)(cT:p.j9≠x)(f:∀i,i<d.eY->p.im i≠x)(g:∀c o,d.fC≠0->p.hE=some ⟨c,o,none⟩->c≠x)(k:∀b,b<B->b≠x->w'.heap[b]?=w.heap[b]?):fy w' d p where
 first:=h.first.P3 (k _ hb.F hF)
 dz i aj:=(World.cell?_of_block (k _ hb.R cT)).trans (h.dz i aj)
 rows i aj:=(World.cell?_of_block (k _ hb.R cT)).trans (h.rows i aj)
 fD i aj:=(h.fD i aj).P3 (k _ (hb.P i aj) (f i aj))
 free ak:=by obtain⟨b,o,e,n⟩:=h.free ak;exact⟨b,o,e,n.P3 (k _ (hb.rL b o ak e) (g b o ak e))⟩
def P'.keep{c w w':World}{d:cR}{p hD:dU}{b x:Nat}{im j':Nat->Nat}{n:Nat}{g:Value}(br:P' c d p hD b x im j' n g w)(k:∀i,i<w.heap.size->w'.heap[i]?=w.heap[i]?)(af:w.heap.size<=w'.heap.size):P' c d p hD b x im j' n g w':=by obtain⟨h,q,r,u,_⟩:=br.b4;have o:=br.dm;refine⟨br.src.P3 h λi aj=>k i (by omega),(k b (by omega)).trans br.mn,br.first.P3 (k _ (by omega)),(k x (by omega)).trans br.blk,kq br.own λi I J=>k i J,λi aj=>?_,br.b4,by omega⟩;obtain⟨q1,⟨cur,f⟩,j,l⟩:=br.fD i aj;have J:=k (im i) (bp f);exact⟨q1.P3 J,⟨cur,J.trans f⟩,j,l⟩
def P'.next{q w f j:World}{d:cR}{p hD:dU}{b x:Nat}{im j':Nat->Nat}{n:Nat}{l:Value}(br:P' q d p hD b x im j' n l w){o:Obj}{c u g cap:Nat}(D:∀i,i<w.heap.size->f.heap[i]?=w.heap[i]?)(ah:w.heap.size<=f.heap.size)(af:w.heap.size<=c)(al:∃cur:Array Value,f.heap[c]?=some (.cells cur 3))(P:iD f c 0 d.kinds (d.fD n))(E:(f.alloc o).grownBy j l.ownBlock)(aJ:l.ownBlock=some g\/f.heap.size<=g)(Z:j.ownsRow q.heap.size 33 2 (.slice (some ⟨g,0,none⟩) (n+1) cap) (n+1) (P7 (P4 d 0 0) im j' n++Qh (P4 d 0 0) n c u)):
 P' q d p hD b x (λi=>if i=n then c else im i) (λi=>if i=n then u else j' i) (n+1) (.slice (some ⟨g,0,none⟩) (n+1) cap) (j.setCell ⟨x,2,none⟩ (.slice (some ⟨g,0,none⟩) (n+1) cap)):=by
 obtain⟨Q,S,ag,T,U,V,W,X,Y,R⟩:=br.b4;have z:=br.dm;have C:∀r,l.ownBlock=some r->q.heap.size<=r/\r<w.heap.size:=λr e=>xX br.own r e
 have ae:=E.size;simp at ae;have B:∀i,i<f.heap.size->l.ownBlock≠some i->j.heap[i]?=f.heap[i]?:=λi I J=>(E.block i (by simp;omega) (λe=>J e.symm)).trans (Pq I)
 have AY:∀i,i≠x->(j.setCell ⟨x,2,none⟩ (.slice (some ⟨g,0,none⟩) (n+1) cap)).heap[i]?=j.heap[i]?:=λi h=>ft (by show i≠x;exact h)
 have low:∀i,i<q.heap.size->i≠x->(j.setCell ⟨x,2,none⟩ (.slice (some ⟨g,0,none⟩) (n+1) cap)).heap[i]?=w.heap[i]?:=λi I J=>(AY i J).trans ((B i (by omega) (λe=>by have:=(C i e).1;omega)).trans (D i (by omega)))
 have F:c<f.heap.size:=by obtain⟨cur,h⟩:=al;exact bp h
 have G:l.ownBlock≠some c:=λe=>by have:=(C c e).2;omega
 have M:j.heap[x]?=_:=((B x (by omega) (λe=>by have:=(C x e).1;omega)).trans (D x (by omega))).trans br.blk;have H:∀i,i<f.heap.size->l.ownBlock≠some i->(some g:Option Nat)≠some i:=λi I J e=>by
  have e:=Pm e;subst e;rcases aJ with h|h
  .exact J h
  .omega
 refine⟨br.src.Qr Q W X Y R low,(low b S U).trans br.mn,br.first.P3 (low _ T V),cQ M,?_,λi aj=>?_,br.b4,by simp;omega⟩
 .have e:P7 (P4 d 0 0) (λi=>if i=n then c else im i) (λi=>if i=n then u else j' i) (n+1)=P7 (P4 d 0 0) im j' n++Qh (P4 d 0 0) n c u:=by simp only[P7,if_true];rw[Qs (P4 d 0 0) n λi aj=>⟨if_neg (by omega),if_neg (by omega)⟩]
  rw[e];exact kq Z λi I J=>AY i (by omega)
 .by_cases hm:i=n
  .subst hm
   simp only[if_true];have J:(j.setCell ⟨x,2,none⟩ (.slice (some ⟨g,0,none⟩) (i+1) cap)).heap[c]?=f.heap[c]?:=(AY c (by omega)).trans (B c F G);exact⟨P.P3 J,by obtain⟨cur,h⟩:=al;exact⟨cur,J.trans h⟩,by omega,H c F G⟩
  .simp only[if_neg hm]
   obtain⟨q1,⟨cur,K⟩,aa,L⟩:=br.fD i (by omega);have ad:=bp K;have J:=(AY (im i) (by omega)).trans ((B _ (by omega) L).trans (D _ ad));exact⟨q1.P3 J,⟨cur,J.trans K⟩,aa,H _ (by omega) L⟩
end
section
variable{A:Array Func}
structure Qa(P2:World)(d:cR)(p q:dU)(b x n u:Nat)(e9:Value)(w:World):Prop where
 src:fy w d p
 mn:w.heap[b]?=some (.cells (cO d p) 27)
 blk:w.heap[x]?=some (.cells #[.int .i64 d.kinds,.slice (some ⟨q.gv,q.hj,none⟩) d.kinds q.eT,.slice (some ⟨q.j9,q.lg,none⟩) n q.h8,e9] 27)
 dst:fy w (P4 d n 0) q
 own:w.ownsRow P2.heap.size 3 1 e9 u (Qd (λi=>d.free i+1) u)
 b4:p.below d P2.heap.size/\q.below (P4 d n 0) P2.heap.size/\b<P2.heap.size/\x<P2.heap.size/\b≠x
 hQ:p.off d x/\q.off (P4 d n 0) x
 dm:P2.heap.size<=w.heap.size
def Qa.keep{c w w':World}{d:cR}{p q:dU}{b x n u:Nat}{f:Value}(br:Qa c d p q b x n u f w)(k:∀i,i<w.heap.size->w'.heap[i]?=w.heap[i]?)(af:w.heap.size<=w'.heap.size):Qa c d p q b x n u f w':=by obtain⟨g,h,l,o,r⟩:=br.b4;have j:=br.dm;exact⟨br.src.P3 g λi aj=>k i (by omega),(k b (by omega)).trans br.mn,(k x (by omega)).trans br.blk,br.dst.P3 h λi aj=>k i (by omega),kq br.own λi I J=>k i J,br.b4,br.hQ,by omega⟩
def Qa.next{f w c:World}{d:cR}{p q:dU}{b x n u:Nat}{j:Value}(br:Qa f d p q b x n u j w){g cap:Nat}(K:w.heap.size<=c.heap.size)(o:∀i,i<w.heap.size->j.ownBlock≠some i->c.heap[i]?=w.heap[i]?)(G:c.ownsRow f.heap.size 3 1 (.slice (some ⟨g,0,none⟩) (u+1) cap) (u+1) (Qd (λi=>d.free i+1) u++[.int .i64 (d.free u+1)])):
 Qa f d p q b x n (u+1) (.slice (some ⟨g,0,none⟩) (u+1) cap) (c.setCell ⟨x,3,none⟩ (.slice (some ⟨g,0,none⟩) (u+1) cap)):=by
 obtain⟨C,D,E,H,F⟩:=br.b4;have z:=br.dm;have l:∀r,j.ownBlock=some r->f.heap.size<=r/\r<w.heap.size:=λr e=>xX br.own r e
 have AY:∀i,i≠x->(c.setCell ⟨x,3,none⟩ (.slice (some ⟨g,0,none⟩) (u+1) cap)).heap[i]?=c.heap[i]?:=λi h=>ft (by show i≠x;exact h)
 have low:∀i,i<f.heap.size->i≠x->(c.setCell ⟨x,3,none⟩ (.slice (some ⟨g,0,none⟩) (u+1) cap)).heap[i]?=w.heap[i]?:=λi I J=>(AY i J).trans (o i (by omega) (λe=>by have:=(l i e).1;omega))
 have B:c.heap[x]?=_:=(o x (by omega) (λe=>by have:=(l x e).1;omega)).trans br.blk;exact⟨br.src.Qr C br.hQ.1.F br.hQ.1.R br.hQ.1.P br.hQ.1.rL low,(low b E F).trans br.mn,cQ B,br.dst.Qr D br.hQ.2.F br.hQ.2.R br.hQ.2.P br.hQ.2.rL low,by rw[QI];exact kq G λi I J=>AY i (by omega),br.b4,br.hQ,by simp;omega⟩
def Qa.done{i w:World}{d:cR}{p q:dU}{b x n u:Nat}{f:Value}(br:Qa i d p q b x n u f w):∃hE h9,f=.slice hE u h9/\fy w (P4 d n u) {q with hE:=hE,h9:=h9}:=by
 rcases Nat.eq_zero_or_pos u with rfl|hu
 .obtain⟨_,⟨h,_⟩|⟨g,c,_,h,_⟩⟩:=br.own
  .exact⟨none,0,h,br.dst.first,br.dst.dz,br.dst.rows,br.dst.fD,λh=>absurd rfl h⟩
  .exact⟨_,c,h,br.dst.first,br.dst.dz,br.dst.rows,br.dst.fD,λh=>absurd rfl h⟩
 .obtain⟨g,c,I,_,_,J⟩:=QP br.own hu
  exact⟨_,c,I,br.dst.first,br.dst.dz,br.dst.rows,br.dst.fD,λ_=>⟨g,0,rfl,J⟩⟩
def P'.done{j w:World}{d:cR}{p hD:dU}{b x:Nat}{im j':Nat->Nat}{n:Nat}{f:Value}(br:P' j d p hD b x im j' n f w)(ak:1<=n/\n<=d.eY)(U:0<d.kinds):∃q:dU,f=.slice (some ⟨q.j9,q.lg,none⟩) n q.h8/\q.gv=hD.gv/\q.hj=hD.hj/\q.eT=hD.eT/\Qa w d p q b x n 0 (.slice none 0 0) w:=by
 obtain⟨l,F,G,H,r,u,B,C,D,o⟩:=br.b4;have z:=br.dm;obtain⟨g,c,cur,rfl,I,J,ax⟩:=JX br.own (by omega);have ae:=bp J;refine⟨⟨hD.gv,hD.hj,hD.eT,g,0,c,im,λ_=>0,j',none,0⟩,rfl,rfl,rfl,rfl,⟨br.src,br.mn,br.blk,⟨br.first,λi aj=>tE J ax (Qm (P4 d 0 0) im j' n i aj).1,λi aj=>?_,λi aj=>(br.fD i aj).1,λh=>absurd rfl h⟩,⟨rfl,.inl ⟨rfl,rfl⟩⟩,⟨l.up z,⟨by show hD.gv<_;omega,ae,λi aj=>?_,λ_ _ h=>absurd rfl h⟩,by omega,by omega,r⟩,⟨⟨B,C,D,o⟩,⟨u,by show g≠x;omega,λi aj=>?_,λ_ _ h=>absurd rfl h⟩⟩,Pk⟩⟩
 .show w.cell? ⟨g,0+i*2+1,none⟩=_
  rw[Nat.add_assoc];exact tE J ax (Qm (P4 d 0 0) im j' n i aj).2
 .obtain⟨_,⟨_,E⟩,_⟩:=br.fD i aj
  exact bp E
 .obtain⟨_,_,K,_⟩:=br.fD i aj
  show im i≠x;omega
end
section
variable{A:Array Func}
def QT{xs ys:List Int}(h:xs.Perm ys):xs.mergeSort (λx y=>decide (x<=y))=ys.mergeSort (λx y=>decide (x<=y)):=by
 have aQ:∀l:List Int,(l.mergeSort (λx y=>decide (x<=y))).Pairwise (λx y=>decide (x<=y)=true):=λl=>List.pairwise_mergeSort (λa b c I J=>by simp at *;omega) (λa b=>by simp;omega) l
 exact List.Perm.eq_of_pairwise (le:=λx y=>decide (x<=y)=true) (λa b _ _ I J=>by simp at I J;omega) (aQ _) (aQ _) ((List.mergeSort_perm xs _).trans (h.trans (List.mergeSort_perm ys _).symm))
def QB{w:World}{m n:Nat}{v:Value}{xs:List Int}(h:w.ownsRow m 3 1 v n (xs.map encZ))(ak:0<n):∃g cap,v=.slice (some ⟨g,0,none⟩) n cap/\iD w g 0 n (λi=>xs.getD i 0):=by
 have ah:xs.length=n:=by have:=h.1;simpa using this
 obtain⟨g,c,cur,aP,I,J,ax,aV⟩:=xY h ak;exact⟨g,c,aP,λi aj=>tE ax aV (by
  have d:i<xs.length:=by omega
  simp[encZ,List.getD,d])⟩
def QL[S:Std A](w:World):Calls (ag A) 15 #[.slice none 0 0,.slice none 0 0] w λe w'=>e=.returned (.bool true)/\w.grownBy w' none:=by
 have mixed:(ag A).follows .mixedOrders=true:=by kernel_rfl
 go_enter (S.f Tryz.func15),Tryz.ntmps15;go_wp2;go_loopw [5] (λi wr=>i=.int .i64 0/\w.grownBy wr none) (λi _=>0)
 case atStart=>exact⟨rfl,Pw _ _⟩
 case round=>
  obtain⟨rfl,ae⟩:=hrel;go_wp2;go_ret;exact⟨rfl,ae⟩
def QM[S:Std A]{m cP n:Nat}(ak:n<=100000){v d:Value}{xs:List Int}(w:World)(I:w.ownsRow m 3 1 v n (xs.map encZ))(J:w.ownsRow cP 3 1 d n (xs.map encZ))(ar:n=0->v=.slice none 0 0)(f:n=0->d=.slice none 0 0):
 Calls (ag A) 15 #[v,d] w λe w'=>e=.returned (.bool true)/\w.grownBy w' none:=by
 rcases Nat.eq_zero_or_pos n with h|h
 .rw[ar h,f h]
  exact QL w
 .obtain⟨g,c,rfl,k1⟩:=QB I h
  obtain⟨g',bo,rfl,cc⟩:=QB J h;exact Bh g 0 g' 0 n c bo ak _ w k1 cc
end
def Qw{H:Type}(x:Lit×DataW H):∀l:List (Lit×DataW H),(DataW.insert x l).length=l.length+1
 | []=>rfl
 |y::l=>by
  unfold DataW.insert;split
  .rfl
  .simp[Qw x l]
def QQ(D:Ea)(k:Lit)(v:Ea):(intKeys (D.put k v)).length<=(intKeys D).length+1:=by
 cases D<;>simp[DataW.put,intKeys,Qw]
 exact List.length_filter_le _ _
def QN(f:Int)(t:Nat->Int)(l:List e1):∀D:Ea,(intKeys (l.foldl (λD x=>D.put (.int .i64 (jI f t x)) (.lit (.bool true))) D)).length<=(intKeys D).length+l.length:=by
 induction l with
 |nil=>intro D;simp
 |cons x l c=>
  intro D;rw[List.foldl_cons];have I:=c (D.put (.int .i64 (jI f t x)) (.lit (.bool true)));have J:=QQ D (.int .i64 (jI f t x)) (.lit (.bool true));simp only[List.length_cons];omega
def QV{d:cR}{s:gP}(af:s.ok d):(oC d s).length<=14400:=by have I:=zI s.lm s.fm s.bN af.hF (s.bV-s.lm+1);have J:=QN (d.first s.k) (cC d s.k) (gy s.lm s.fm s.bN (s.bV-s.lm+1)) (.map []);have ax:=af.bw;have aV:(intKeys (.map []:Ea)).length=0:=rfl;exact Po J (by omega)
section
variable{A:Array Func}
def QS{X:World}{r:Nat}{v0 v1:Value}{c:Array Value}(h:X.heap[r]?=some (.cells c 33)):((X.setCell ⟨r,0,none⟩ v0).setCell ⟨r,1,none⟩ v1).heap[r]?=some (.cells ((c.setIfInBounds 0 v0).setIfInBounds 1 v1) 33)/\∀i,i≠r->((X.setCell ⟨r,0,none⟩ v0).setCell ⟨r,1,none⟩ v1).heap[i]?=X.heap[i]?:=
 ⟨cQ (cQ h),λi h=>(ft (by show i≠r;exact h)).trans (ft (by show i≠r;exact h))⟩
def Qj(w:World){a b o:Nat}(h:a≠b)(v0 v1:Value):((w.setCell ⟨b,0,none⟩ v0).setCell ⟨b,1,none⟩ v1).cell? ⟨a,o,none⟩=w.cell? ⟨a,o,none⟩:=(E9 _ h).trans (E9 _ h)
structure Qf(wr W:World)(d:cR)(m:Nat)(r PZ P5:Nat)(v0:Int):Prop where
 blk:W.heap[r]?=some (.cells #[.int .i64 v0,.slice (some ⟨PZ,0,none⟩) d.kinds P5] 33)
 row:iD W PZ 0 d.kinds (d.fD m)
 cur:∃cur:Array Value,W.heap[PZ]?=some (.cells cur 3)
 old:∀i,i<wr.heap.size->W.heap[i]?=wr.heap[i]?
 dm:wr.heap.size<=W.heap.size/\wr.heap.size<=r/\wr.heap.size<=PZ/\PZ≠r
 same:W.os=wr.os/\W.tape=wr.tape/\W.output=wr.output
def Qf.zero{wr W:World}{d:cR}{m r f j:Nat}{v0:Int}(R:Qf wr W d m r f j v0)(v:Int):Qf wr (W.setCell ⟨r,0,none⟩ (.int .i64 v)) d m r f j v:=by
 obtain⟨s1,s2,l,g⟩:=R.dm;have k:∀i,i≠r->(W.setCell ⟨r,0,none⟩ (.int .i64 v)).heap[i]?=W.heap[i]?:=λi h=>ft (by show i≠r;exact h)
 refine⟨cQ R.blk,R.row.P3 (k f g),?_,λi aj=>(k i (by omega)).trans (R.old i aj),⟨by simpa using s1,s2,l,g⟩,R.same⟩;obtain⟨c,h⟩:=R.cur;exact⟨c,(k f g).trans h⟩
def Qe(w:World){a b o:Nat}(h:a≠b)(v0 v1 v2 v3 v4:Value):(((((w.setCell ⟨b,0,none⟩ v0).setCell ⟨b,1,none⟩ v1).setCell ⟨b,2,none⟩ v2).setCell ⟨b,3,none⟩ v3).setCell ⟨b,4,none⟩ v4).cell? ⟨a,o,none⟩=w.cell? ⟨a,o,none⟩:=(E9 _ h).trans ((E9 _ h).trans ((E9 _ h).trans ((E9 _ h).trans (E9 _ h))))
def Qp{X:World}{r:Nat}{v0 v1 v2 v3 v4:Value}{t:TypeId}{c d f g j:Value}(h:X.heap[r]?=some (.cells #[c,d,f,g,j] t)):(((((X.setCell ⟨r,0,none⟩ v0).setCell ⟨r,1,none⟩ v1).setCell ⟨r,2,none⟩ v2).setCell ⟨r,3,none⟩ v3).setCell ⟨r,4,none⟩ v4).heap[r]?=some (.cells #[v0,v1,v2,v3,v4] t)/\∀i,i≠r->(((((X.setCell ⟨r,0,none⟩ v0).setCell ⟨r,1,none⟩ v1).setCell ⟨r,2,none⟩ v2).setCell ⟨r,3,none⟩ v3).setCell ⟨r,4,none⟩ v4).heap[i]?=X.heap[i]?:=
 ⟨cQ (cQ (cQ (cQ (cQ h)))),λi h=>(ft (by show i≠r;exact h)).trans ((ft (by show i≠r;exact h)).trans ((ft (by show i≠r;exact h)).trans ((ft (by show i≠r;exact h)).trans (ft (by show i≠r;exact h)))))⟩
structure Qq(P6 W:World)(k lm l fm e r:Nat):Prop where
 blk:W.heap[r]?=some (.cells #[.int .i64 k,.int .i64 lm,.int .i64 l,.int .i64 fm,.int .i64 e] 42)
 old:∀i,i<P6.heap.size->W.heap[i]?=P6.heap[i]?
 dm:P6.heap.size<=W.heap.size
def QE[S:Std A][P:gg A](dx:∀w,Calls (ag A) 16 #[] w λe w'=>e=.returned (.bool true)/\w=w')(w:World)(L:Value)(h:j4 w L w.heap.size)(eP:L.oneCell'=true):
 Calls (ag A) 3 #[L] w λe _=>e=.returned (.bool true):=by
 have dg:=Pj (O' (A:=A) L w h eP);clear h;go_enter (S.f Tryz.func3),Tryz.ntmps3;go_upto_region 5 with(first
  |(go_at_call 7;refine dg.out.mono ?_;rintro e d4 ⟨rfl,az,f⟩;have bG:=Pj az;clear az f)
  |(go_at_call 8;refine(Pe (A:=A) w.heap.size 0 L (by omega) d4 bG.out).mono ?_;rintro e w2 ⟨d,p,dw,ok,rfl,cy,dL,cD,az,f⟩;have bh:=Pj az;have dk:=Pj cy;clear az f cy)
  |(go_at_call 9;refine(Pb (A:=A) w.heap.size dw L (by omega) d ok p _ (bh.out.alloc _)).mono ?_;rintro e w3 ⟨k,left,aK,rfl,U,dH,aB,az,f⟩;have t3:fy w3 d p:=((dk.out.keep Pn).uw f dL);have cq:w3.heap[w2.heap.size]?=some (.cells (cO d p) 27):=((f.block _ (by simp) (λe=>by have:=Pm e;have:=bh.out.lt;omega)).trans (gA _ _));have bi:=Pj t3;have aF:=Pj cq;clear az f t3 cq))
 generalize w2.heap.size=B at *;obtain⟨l,ah⟩:∃l:Nat,min (left:Int) 95=(l:Int):=⟨min left 95,by omega⟩
 obtain⟨e,he⟩:∃e:Nat,min (aK:Int) 95=(e:Int):=⟨min aK 95,by omega⟩
 have hle:l<=e:=by omega
 have dC:e<=95:=by omega
 rw[ah,he];clear ah he dH aB;have es:=ok.eY;have et:=ok.fC;have el:=ok.kinds;have cv:=bp aF.out;have aq:=aT (o:=0) aF.out;have q1:=aT (o:=1) aF.out;have M:=aT (o:=2) aF.out;have au:=aT (o:=3) aF.out;go_upto_region 6 with(go_at_call 10;refine(QJ (A:=A) d ok p w3 bi.out).mono ?_;rintro ar H ⟨hD,rfl,cG,f⟩;have bE:=Pj cG;have bf:=Pj f;clear cG f)
 clear aq q1 M au;have dZ:=bf.out.size;have aL:=bi.out.below ok;have t4:=bi.out.keep bf.out;have f4:=bE.out.sV.first
 have cx:hD.gv<H.heap.size:=by obtain⟨_,_,c,h⟩:=bE.out.first;exact bp h
 have cA:H.heap[B]?=some (.cells (cO d p) 27):=(bf.out.block B cv (by simp)).trans aF.out;go_wp2;have dd:=Pj f4;generalize bt:H.alloc (.cells #[.int .i64 d.kinds,.slice (some ⟨hD.gv,hD.hj,none⟩) d.kinds hD.eT,.slice none 0 0,.slice none 0 0] 27)=aC;have cp:aC.heap[H.heap.size]?=some (.cells #[.int .i64 d.kinds,.slice (some ⟨hD.gv,hD.hj,none⟩) d.kinds hD.eT,.slice none 0 0,.slice none 0 0] 27):=by rw[<-bt];exact gA _ _
 have bv:∀i,i<H.heap.size->aC.heap[i]?=H.heap[i]?:=by rw[<-bt];exact λi aj=>Pq aj
 have d8:aC.heap.size=H.heap.size+1:=by rw[<-bt];simp
 have cl:P' aC d p hD B H.heap.size (λ_=>0) (λ_=>0) 0 (.slice none 0 0) aC:=
  ⟨t4.P3 aL λi aj=>bv i (by omega),(bv B (by omega)).trans cA,f4.P3 (bv _ cx),cp,⟨rfl,.inl ⟨rfl,rfl⟩⟩,λi aj=>by omega,
   ⟨aL.up (by omega),by omega,by omega,by omega,by omega,by omega,by have:=aL.F;omega,by have:=aL.R;omega,λi aj=>by have:=aL.P i aj;omega,λc o ak e=>by have:=aL.rL c o ak e;omega⟩,Pk⟩
 have df:=Pj cl;clear bt cp bv d8 cl t4 f4 cx cA aL dZ bE bf bi aF cv dd;generalize H.heap.size=x at *;go_loopw [9] (λi wr=>∃(m n:Nat) (im j':Nat->Nat) (aW:Value),m<=d.eY/\i=.int .i64 m/\(n=m\/(m=d.eY/\n+1=d.eY/\n≠0/\d.dz n=4))/\(∀i,i<n->i=0\/d.dz i<=3)/\P' aC d p hD B x im j' n aW wr) (λi _=>d.eY-(vy i).toNat)
 case atStart=>exact⟨0,0,_,_,_,by omega,by go_num,.inl rfl,λi aj=>by omega,df.out⟩
 case round=>
  obtain⟨m,n,im,j',aW,hm,rfl,ak,eu,br⟩:=hrel;have M:=(aT (o:=2) br.mn).trans rfl;by_cases aO:m<d.eY
  .obtain rfl:n=m:=by omega
   have bw:decide ((n:Int)<d.eY)=true:=by simpa using aO
   have bx:decide (n<d.eY)=true:=by simpa using aO
   have i1:(n:Int)<d.eY:=by omega
   have i2:(0:Int)<=n:=by omega
   have ei:=ok.dz n aO;have ey:IntKind.i64.wrap (d.dz n+1)=d.dz n+1:=IntWalk.i64_in _ (by omega);have r0:=br.src.dz n aO;have r1:=br.src.rows n aO;have d0:wr.drew.cell? ⟨B,2,none⟩=some (.slice (some ⟨p.j9,p.lg,none⟩) d.eY p.h8):=M;have d1:wr.drew.cell? ⟨p.j9,p.lg+n*2,none⟩=some (.int .i64 (d.dz n)):=r0;have d2:wr.drew.cell? ⟨p.j9,p.lg+n*2+1,none⟩=some (.slice (some ⟨p.im n,p.sy n,none⟩) d.kinds (p.j' n)):=r1;have aE:=Pj (show wr.grownBy wr.drew none from fQ (Pw _ _));have aD:=Pj (show ∀o:Obj,wr.grownBy (wr.alloc o).drew none from λo=>fQ Pn);have F:=Pj (show ∀W:World,wr.grownBy W none->W.cell? ⟨B,2,none⟩=some (.slice (some ⟨p.j9,p.lg,none⟩) d.eY p.h8)/\W.cell? ⟨p.j9,p.lg+n*2,none⟩=some (.int .i64 (d.dz n))/\W.cell? ⟨p.j9,p.lg+n*2+1,none⟩=some (.slice (some ⟨p.im n,p.sy n,none⟩) d.kinds (p.j' n))from λW g=>⟨g.cell M (by simp),g.cell r0 (by simp),g.cell r1 (by simp)⟩);have ee:B<wr.heap.size:=bp br.mn;have eg:p.j9<wr.heap.size:=mV r0;have E:=Pj br;clear br;go_wp2;go_region_held3 (λW=>W.cell? ⟨B,2,none⟩=some (.slice (some ⟨p.j9,p.lg,none⟩) d.eY p.h8)/\W.cell? ⟨p.j9,p.lg+n*2,none⟩=some (.int .i64 (d.dz n))/\W.cell? ⟨p.j9,p.lg+n*2+1,none⟩=some (.slice (some ⟨p.im n,p.sy n,none⟩) d.kinds (p.j' n)))
    (first|with_reducible exact F.out _ aE.out|with_reducible exact F.out _ (aD.out _)|with_reducible exact F.out _ G.out|with_reducible exact F.out _ (G.out.trans Pn)|(have q:=F.out _ G.out;with_reducible exact⟨(Qj Q bS _ _).trans q.1,(Qj Q bo _ _).trans q.2.1,(Qj Q bo _ _).trans q.2.2⟩)|(have q:=F.out _ (G.out.trans (Pv Q (.cells eS 33) none));with_reducible exact⟨(Qj _ bT _ _).trans q.1,(Qj _ bq _ _).trans q.2.1,(Qj _ bq _ _).trans q.2.2⟩))
    (first|(go_at_call 11;first|(refine(Ql (A:=A) (some ⟨p.im n,p.sy n,none⟩) d.kinds (p.j' n) (d.fD n) (by omega) _ (λ_=>⟨_,_,rfl,(E.out.src.keep aE.out).fD n aO⟩)).mono ?_;rintro ar Q ⟨K,⟨X,rfl⟩,kE,kk,a2,f⟩;have ap:=aE.out.trans f;have bS:B≠wr.heap.size:=(by omega);have bo:p.j9≠wr.heap.size:=(by omega);have bT:B≠Q.heap.size:=(by have:=ap.size;omega);have bq:p.j9≠Q.heap.size:=(by have:=ap.size;omega);have G:=Pj ap;have bg:=Pj (And.intro kE (And.intro kk a2));clear f ap kE kk a2)|(refine(Ql (A:=A) (some ⟨p.im n,p.sy n,none⟩) d.kinds (p.j' n) (d.fD n) (by omega) _ (λ_=>⟨_,_,rfl,(E.out.src.keep (aD.out _)).fD n aO⟩)).mono ?_;rintro ar Q ⟨K,⟨X,rfl⟩,kE,kk,a2,f⟩;have ap:=(aD.out _).trans f;have gK:=(f.block wr.heap.size (by show wr.heap.size<(wr.alloc _).heap.size;simp) (by simp)).trans (gA wr _);have bA:=aT (o:=0) gK;have av:=aT (o:=1) gK;have aI:=b1 (o:=0) gK;have eJ:=b1 (o:=1) gK;have bS:B≠wr.heap.size:=(by omega);have bo:p.j9≠wr.heap.size:=(by omega);have bT:B≠Q.heap.size:=(by have:=ap.size;omega);have bq:p.j9≠Q.heap.size:=(by have:=ap.size;omega);have a1:=Pj gK;have G:=Pj ap;have bg:=Pj (And.intro kE (And.intro kk a2));clear f ap kE kk a2 gK)))
   focus (
    have R:Qf wr (Q.alloc (.cells #[.int .i64 (d.dz n+1),.slice (some ⟨K,0,none⟩) d.kinds X] 33)) d n Q.heap.size K X (d.dz n+1):=by obtain⟨aU,⟨bM,bs⟩,bV⟩:=bg.out;have aU:wr.heap.size<=K:=aU;have ba:=G.out.size;have:=bp bs;exact⟨gA _ _,bV.keep (Pv _ _ none) (by simp),⟨bM,(Pq this).trans bs⟩,λi aj=>(Pq (by omega)).trans (G.out.block i aj (by simp)),⟨by simp;omega,ba,aU,by omega⟩,⟨G.out.os,G.out.tape,G.out.output⟩⟩
    generalize hW:Q.alloc _=bb at R ⊢;generalize ao:Q.heap.size=r at R ⊢)
   rotate_left
   focus (
    have R:Qf wr ((Q.setCell ⟨wr.heap.size,0,none⟩ (.int .i64 (d.dz n+1))).setCell ⟨wr.heap.size,1,none⟩ (.slice (some ⟨K,0,none⟩) d.kinds X)) d n wr.heap.size K X (d.dz n+1):=by
     obtain⟨aU,⟨bM,bs⟩,bV⟩:=bg.out;have aU:wr.heap.size+1<=K:=by have:(wr.alloc _).heap.size<=K:=aU;simpa using this
     have ba:=G.out.size;obtain⟨av,ai⟩:=QS (v0:=.int .i64 (d.dz n+1)) (v1:=.slice (some ⟨K,0,none⟩) d.kinds X) a1.out;exact⟨av,bV.P3 (ai _ (by omega)),⟨bM,(ai _ (by omega)).trans bs⟩,λi aj=>(ai i (by omega)).trans (G.out.block i aj (by simp)),⟨by simp;omega,Pk,by omega,by omega⟩,⟨G.out.os,G.out.tape,G.out.output⟩⟩
    generalize hW:World.setCell (World.setCell Q ⟨wr.heap.size,0,none⟩ _) _ _=bb at R ⊢;generalize ao:wr.heap.size=r at R ⊢)
   rotate_left
   all_goals (
    have aw:=Pj R;clear R hW ao bg;clear G F aE aD
    (try clear a1)
    clear d0 d1 d2 bS bo bT bq M r0 r1;have dM:d.dz n=4->n+1=d.eY:=λh=>by
     rcases Nat.lt_or_ge (n+1) d.eY with hx|hx
     .have:=ok.rP n hx;have:=ok.dz (n+1) hx;omega
     .omega
    obtain⟨dR,cE,cQ,cR,cS⟩:=HX (A:=A);have db:=Pj cE;have dl:=Pj cQ;have dm:=Pj cR;have dn:=Pj cS;clear cE cQ cR cS;have eA:x<aC.heap.size:=E.out.b4.2.2.1;by_cases dQ:n=0\/d.dz n<=3
    .rcases Nat.eq_zero_or_pos n with aP|aP
     focus (
      have bB:((n:Int) == 0)=true:=by rw[beq_iff_eq];omega
      have bu:=aT (o:=0) aw.out.blk;have f0:=b1 (o:=0) aw.out.blk;have ax:Qf wr (bb.setCell ⟨r,0,none⟩ (.int .i64 0)) d n r K X ((P4 d 0 0).dz n):=by have:=aw.out.zero 0;rw[show(P4 d 0 0).dz n=0 from if_pos aP];exact this
      clear aP;go_upto_region 13 with fail
      generalize bb.setCell ⟨r,0,none⟩ (.int .i64 0)=bc at ax ⊢;clear bB bu f0)
     rotate_left
     focus (
      have bB:((n:Int) == 0)=false:=by rw[beq_eq_false_iff_ne];omega
      have ax:Qf wr bb d n r K X ((P4 d 0 0).dz n):=by rw[show(P4 d 0 0).dz n=d.dz n+1 from if_neg (by omega)];exact aw.out
      go_upto_region 13 with fail
      generalize dP:bb=bc at ax ⊢;clear dP bB)
     rotate_left
     all_goals (
      have bY:(P4 d 0 0).dz n<5:=by show(if n=0 then(0:Int)else d.dz n+1)<5;split<;>omega
      have cF:Qh (P4 d 0 0) n K X = [.int .i64 ((P4 d 0 0).dz n),.slice (some ⟨K,0,none⟩) d.kinds X]:=rfl;have de:=Pj cF;clear cF;generalize (P4 d 0 0).dz n=v0 at *;have dW:decide (v0<5)=true:=by simpa using bY
      have dN:=aT (o:=0) ax.blk;have d9:=aT (o:=1) ax.blk;have ev:=E.out.dm;have eN:=(ax.old x (by omega)).trans E.out.blk;have ea:=(aT (o:=2) eN).trans rfl;have am:=Pj ax;have c8:=Pj eN;clear ax eN aw;go_wp2_with (at_builtin;refine wpList_append_own_at _ rfl _ _ 25 rfl aC.heap.size 33 dR (.agg #[.int .i64 0,.slice none 0 0]) 2 32 (ag.underlying23 A) db.out dl.out dm.out dn.out rfl (by decide) aW n (P7 (P4 d 0 0) im j' n) rfl (kq E.out.own (λi I J=>(Pq (Px J am.out.dm.1)).trans (am.out.old i J))) ⟨bc.heap.size,0,none⟩ 1 1 [.int .i64 v0,.slice (some ⟨K,0,none⟩) d.kinds X] rfl rfl (World.news_of_block (cs:=#[.int .i64 v0,.slice (some ⟨K,0,none⟩) d.kinds X]) (t:=33) (fr:=(0,0)) (gA bc _)) (by simp[Value.oneCell']) (by unfold maxLen;omega) (by omega) (by have:=am.out.dm.1;simp;omega) ?_;intro eI c2 bU Z dK aJ;obtain⟨aR,cap,eb,rfl,ej,cD,dE⟩:=JX bU (by omega);have ek:=Z.size;have a7:=λr e=>xX E.out.own r e;have bO:c2.heap[x]?=some (.cells #[.int .i64 d.kinds,.slice (some ⟨hD.gv,hD.hj,none⟩) d.kinds hD.eT,aW,.slice none 0 0] 27):=(Z.block x (by have:=am.out.dm.1;simp;omega) (λe=>by have:=(a7 x e.symm).1;omega)).trans ((Pq (by have:=am.out.dm.1;omega)).trans c8.out);have eD:=aT (o:=2) bO;have eE:=b1 (o:=2) bO;have dh:=Pj bU;have c9:=Pj Z;have c5:=Pj aJ;clear bU Z aJ dK bO cD dE a7)
      obtain⟨s1,s2,dY,b2⟩:=am.out.dm;have cL:=dh.out;rw[<-de.out]at cL;have dA:aW.ownBlock=some aR\/bc.heap.size<=aR:=by
       rcases c5.out with h|h
       .exact .inl h.symm
       .have h:some aR=some (bc.alloc _).heap.size:=h
        have:=Pm h;simp at this;exact .inr (by omega)
      have ds:=E.out.next am.out.old s1 dY am.out.cur am.out.row c9.out dA cL;exact⟨⟨n+1,n+1,_,_,_,by omega,by push_cast;rfl,.inl rfl,λi aj=>by
       by_cases ew:i=n
       .subst ew;exact dQ
       .exact eu i (by omega),ds⟩,by show d.eY-((n:Int)+1).toNat<d.eY-(n:Int).toNat;omega⟩)
    .have aV:d.dz n=4:=by omega
     have dI:n≠0:=by omega
     have bB:((n:Int) == 0)=false:=by rw[beq_eq_false_iff_ne];omega
     have bY:d.dz n+1=5:=by omega
     have dW:decide (d.dz n+1<5)=false:=by rw[decide_eq_false_iff_not];omega
     have dN:=aT (o:=0) aw.out.blk;have dc:=Pj (E.out.keep aw.out.old aw.out.dm.1);have a5:=dM aV;clear bY;go_wp2;exact⟨⟨n+1,n,im,j',aW,by omega,by push_cast;rfl,.inr ⟨a5,a5,dI,aV⟩,eu,dc.out⟩,by show d.eY-((n:Int)+1).toNat<d.eY-(n:Int).toNat;omega⟩)
  .have dJ:1<=n/\n<=d.eY:=by rcases ak with h|h<;>omega
   have cK:n=d.eY\/(n+1=d.eY/\n≠0/\d.dz n=4):=by
    rcases ak with h|h
    .exact .inl (by omega)
    .exact .inr h.2
   have bw:decide ((m:Int)<d.eY)=false:=by simpa using aO
   have bx:decide (m<d.eY)=false:=by simpa using aO
   obtain⟨q,rfl,_,_,_,cm⟩:=br.done dJ (by omega);have ce:=Pj cm;have bD:=Pj (And.intro cK eu);clear br cm ak cK eu;generalize dz:wr=aN at *;clear dz;go_wp2;clear bw bx aO M;go_loopw [11] (λi wr=>∃(fY u:Nat) (af:Value),fY<=d.fC/\i=.int .i64 fY/\(u=fY\/(fY=d.fC/\u+1=d.fC/\d.free u=4))/\(∀i,i<u->d.free i<=3)/\Qa aN d p q B x n u af wr) (λi _=>d.fC-(vy i).toNat)
   case atStart=>exact⟨0,0,_,by omega,by go_num,.inl rfl,λi aj=>by omega,ce.out⟩
   case round=>
    obtain⟨fY,u,af,er,rfl,hu,cw,br⟩:=hrel;have PY:wr.cell? ⟨B,3,none⟩=some (.slice p.hE d.fC p.h9):=(aT (o:=3) br.mn).trans rfl;by_cases aS:fY<d.fC
    .obtain rfl:u=fY:=by omega
     have bw:decide ((u:Int)<d.fC)=true:=by simpa using aS
     have bx:decide (u<d.fC)=true:=by simpa using aS
     have i1:(u:Int)<d.fC:=by omega
     have i2:(0:Int)<=u:=by omega
     have ec:=ok.free u aS;obtain⟨T,ae,bm,cz⟩:=br.src.free (by omega);have bu:=cz u aS;have dO:T≠x:=br.hQ.1.rL T ae (by omega) bm;have ex:T<aN.heap.size:=br.b4.1.rL T ae (by omega) bm;rw[bm]at PY;by_cases aV:d.free u<=3
     .have dV:decide (d.free u<4)=true:=by rw[decide_eq_true_iff];omega
      have eR:IntKind.i64.wrap (d.free u+1)=d.free u+1:=IntWalk.i64_in _ (by omega);have ef:=br.dm;obtain⟨_,_,ed,ez,dy⟩:=br.b4;have a0:wr.cell? ⟨x,3,none⟩=some af:=aT br.blk;have cn:wr.drew.cell? ⟨x,3,none⟩=some af:=a0;have co:∀o:Obj,(wr.alloc o).drew.cell? ⟨x,3,none⟩=some af:=λo=>(Pz _ _ _ (by show x<wr.heap.size;omega)).trans a0
      have bP:wr.drew.cell? ⟨B,3,none⟩=some (.slice (some ⟨T,ae,none⟩) d.fC p.h9)/\wr.drew.cell? ⟨T,ae+u,none⟩=some (.int .i64 (d.free u)):=⟨PY,bu⟩
      have q2:∀o:Obj,(wr.alloc o).drew.cell? ⟨B,3,none⟩=some (.slice (some ⟨T,ae,none⟩) d.fC p.h9)/\(wr.alloc o).drew.cell? ⟨T,ae+u,none⟩=some (.int .i64 (d.free u)):=λo=>⟨(Pz _ _ _ (by show B<wr.heap.size;omega)).trans PY,(Pz _ _ _ (by show T<wr.heap.size;omega)).trans bu⟩
      have bI:=Pj q2;have E:=Pj br;have a7:∀r,some r=af.ownBlock->aN.heap.size<=r:=λr e=>(xX E.out.own r e.symm).1
      have NX:x<wr.heap.size:=by omega
      have c3:=Pj λ(aR cap:Nat) (o:Obj) (H:World) (Z:((wr.alloc o).drew).grownBy H af.ownBlock)=>(⟨(Z.block x (by show x<(wr.alloc _).heap.size;simp;omega) (λe=>by have:=(xX E.out.own _ e.symm).1;omega)).trans ((Pq (by omega)).trans E.out.blk),Z.cell (bI.out o).1 (λe=>absurd (a7 _ e) (by show ¬aN.heap.size<=B;omega)),Z.cell (bI.out o).2 (λe=>absurd (a7 _ e) (by show ¬aN.heap.size<=T;omega))⟩:H.heap[x]?=some (.cells #[.int .i64 d.kinds,.slice (some ⟨q.gv,q.hj,none⟩) d.kinds q.eT,.slice (some ⟨q.j9,q.lg,none⟩) n q.h8,af] 27)/\H.cell? ⟨B,3,none⟩=some (.slice (some ⟨T,ae,none⟩) d.fC p.h9)/\H.cell? ⟨T,ae+u,none⟩=some (.int .i64 (d.free u)))
      obtain⟨dS,aj,cT,cU,cV⟩:=xj (A:=A);have da:=Pj aj;have dp:=Pj cT;have dq:=Pj cU;have dr:=Pj cV;have dD:=Pj cw;clear br aj cT cU cV a0 q2 cz cw hu bm;go_upto_region 19 with fail
      simp only[oZ 22 (.tmp 88)];have em:=Pg;go_region_held3 (λW=>W.cell? ⟨B,3,none⟩=some (.slice (some ⟨T,ae,none⟩) d.fC p.h9)/\W.cell? ⟨T,ae+u,none⟩=some (.int .i64 (d.free u)))
       (first|with_reducible exact bP|with_reducible exact bI.out _|with_reducible exact bH.out|(with_reducible exact⟨(E9 _ dy).trans bH.out.1,(E9 _ dO).trans bH.out.2⟩))
       (first|(refine step_append_lies _ (by rfl) _ _ _ (by rfl) aN.heap.size 3 dS (.int .i64 0) 1 8 (ag.underlying22 A) da.out dp.out dq.out dr.out rfl (by omega) af u (Qd (λi=>d.free i+1) u) (by rfl) (kq E.out.own (λg _ J=>Pq J)) ⟨wr.heap.size,0,none⟩ 1 1 [.int .i64 (d.free u+1)] (by rfl) (by rfl) (World.news_of_block (cs:=#[.int .i64 (d.free u+1)]) (t:=3) (fr:=(0,0)) (heap_alloc_new wr _)) (by simp[Value.oneCell']) (by omega) (by unfold maxLen;omega) (by omega) (by simp;omega) (wr.heap.size+1) (by simp) ?_;intro aR cap H cM Z aJ eo;obtain⟨bN,b2,ba⟩:=c3.out aR cap _ H Z;have q1:=aT (o:=3) bN;have M:=b1 (o:=3) bN;have bH:=Pj (And.intro b2 ba);have du:=Pj cM;have GW:=Pj Z;clear cM Z aJ bN b2 ba))
      all_goals (
       have dT:=E.out.next (by have:=GW.out.size;simp at this;omega) (λi I J=>(GW.out.block i (by show i<(wr.alloc _).heap.size;simp;omega) (λe=>J e.symm)).trans (Pq I)) du.out;go_wp2;exact⟨⟨u+1,u+1,_,by omega,by push_cast;rfl,.inl rfl,λi aj=>by
        by_cases ew:i=u
        .subst ew;exact aV
        .exact dD.out i (by omega),dT⟩,by show d.fC-((u:Int)+1).toNat<d.fC-(u:Int).toNat;omega⟩)
     .have cu:d.free u=4:=by omega
      have dV:decide (d.free u<4)=false:=by rw[decide_eq_false_iff_not];omega
      have a5:u+1=d.fC:=by
       rcases Nat.lt_or_ge (u+1) d.fC with hx|hx
       .have:=ok.Av u hx;have:=ok.free (u+1) hx;omega
       .omega
      have E:=Pj br;have bF:=Pj (And.intro a5 cu);clear a5 cu br;go_wp2;exact⟨⟨u+1,u,af,by omega,by push_cast;rfl,.inr ⟨bF.out.1,bF.out.1,bF.out.2⟩,cw,E.out⟩,by show d.fC-((u:Int)+1).toNat<d.fC-(u:Int).toNat;omega⟩
    .have cP:u=d.fC\/(u+1=d.fC/\d.free u=4):=by
      rcases hu with h|h
      .exact .inl (by omega)
      .exact .inr h.2
     have bw:decide ((fY:Int)<d.fC)=false:=by simpa using aS
     have bx:decide (fY<d.fC)=false:=by simpa using aS
     obtain⟨hE,h9,rfl,bC⟩:=br.done;have bd:Qk d n u:=⟨bD.out.1,cP,bD.out.2,cw⟩
     obtain⟨q',bW⟩:∃q':dU,q'={q with hE:=hE,h9:=h9}:=⟨_,rfl⟩
     obtain⟨d2,ay⟩:∃d2,d2=P4 d n u:=⟨_,rfl⟩
     have eN:wr.heap[x]?=some (.cells (cO d2 q') 27):=by rw[bW,ay];exact br.blk
     have D:=br.mn;have src:=br.src;have b0:d2.ok:=by rw[ay];exact QK ok bd
     rw[<-bW,<-ay]at bC;have dF:k<d2.kinds:=by rw[ay];exact U
     have b4:∀aH C,aH=l+24->C=e+24->fP (d2.first k) (cC d2 k) aH C=fP (d.first k) (cC d k) l e:=λaH C I J=>by rw[I,J,ay];exact Qv (λday hd=>QD ok bd k hd) hle dC
     obtain⟨lm,en⟩:∃lm:Nat,max (0:Int) ((l:Int)-3)=(lm:Int):=⟨l-3,by omega⟩
     obtain⟨fm,eh⟩:∃fm:Nat,max (l:Int) ((e:Int)-5)=(fm:Int):=⟨max l (e-5),by omega⟩
     have bX:(⟨k,lm,l,fm,e⟩:gP).ok d:=⟨U,by show lm<=l;omega,by show l<120;omega,by show fm<=e;omega,by show e<120;omega,by show lm<=e;omega⟩
     have cN:(⟨k,lm,l,fm,e⟩:gP).late.ok d2:=by rw[ay];exact gP.xr bX (by show l<=95;omega) (by show e<=95;omega)
     have bJ:oC d2 (⟨k,lm,l,fm,e⟩:gP).late=oC d ⟨k,lm,l,fm,e⟩:=by rw[ay];exact QU ok bd (by show l<=95;omega) (by show e<=95;omega) (by show lm<=l;omega)
     obtain⟨aH,bR⟩:∃aH,aH=l+24:=⟨_,rfl⟩
     obtain⟨C,bQ⟩:∃C,C=e+24:=⟨_,rfl⟩
     obtain⟨aa,cI⟩:∃aH,aH=lm+24:=⟨_,rfl⟩
     obtain⟨Y,cB⟩:∃aH,aH=fm+24:=⟨_,rfl⟩
     have cH:(⟨k,lm,l,fm,e⟩:gP).late=⟨k,aa,aH,Y,C⟩:=by rw[bR,bQ,cI,cB];rfl
     rw[cH]at cN bJ;have cn:(l:Int)+24=(aH:Int):=by omega
     have co:(e:Int)+24=(C:Int):=by omega
     have a3:(lm:Int)+24=(aa:Int):=by omega
     have a4:(fm:Int)+24=(Y:Int):=by omega
     have c4:=Pj (b4 aH C bR bQ);have dG:aH<=C:=by omega
     have dB:C<120:=by omega
     have dv:=Pj bJ;have b6:=Pj D;have ci:=Pj eN;have cg:=Pj src;have c6:=Pj bC;have aq:=aT (o:=0) D;have q1:=aT (o:=1) D;have M:=aT (o:=2) D;have au:=aT (o:=3) D;clear br hu cP cw bd bW ay D eN src bC b4 bJ bR bQ cI cB cH bD ce;go_upto_region 21 with(go_at_call 12;refine(Hl (A:=A) d ok p k U l e hle (by omega) _ cg.out).mono ?_;rintro ar c2 ⟨rfl,f⟩;have D:=(f.block B (bp b6.out) (by simp)).trans b6.out;have eN:=(f.block x (bp ci.out) (by simp)).trans ci.out;have b7:=Pj D;have aM:=Pj eN;have di:=Pj (cg.out.keep f);have b9:=Pj (c6.out.keep f);clear f D eN)
     clear aq q1 M au;have aq:=aT (o:=0) aM.out;have q1:=aT (o:=1) aM.out;have M:=aT (o:=2) aM.out;have au:=aT (o:=3) aM.out;go_upto_region 22 with(go_at_call 12;refine(Hl (A:=A) d2 b0 q' k dF aH C dG dB _ b9.out).mono ?_;rintro ar b3 ⟨rfl,f⟩;rw[c4.out];have D:=(f.block B (bp b7.out) (by simp)).trans b7.out;have eN:=(f.block x (bp aM.out) (by simp)).trans aM.out;have b8:=Pj D;have cj:=Pj eN;have ch:=Pj (di.out.keep f);have ca:=Pj (b9.out.keep f);clear f D eN)
     clear aq q1 M au;go_upto_region 23 with(first
      |(go_at_call 13;refine(Qo (A:=A) lm l _).mono ?_;rintro ar eK ⟨rfl,f⟩;have cb:=Pj f;clear f)
      |(go_at_call 13;refine(Qo (A:=A) fm e _).mono ?_;rintro ar bz ⟨rfl,f⟩;have cc:=Pj (cb.out.trans f);clear f))
     generalize bZ:bz.alloc (.cells #[.int .i64 k,.int .i64 lm,.int .i64 l,.int .i64 fm,.int .i64 e] 42)=z;have aG:z.heap[bz.heap.size]?=some (.cells #[.int .i64 k,.int .i64 lm,.int .i64 l,.int .i64 fm,.int .i64 e] 42):=by rw[<-bZ];exact gA _ _
     have ct:b3.grownBy z none:=by rw[<-bZ];exact cc.out.trans Pn
     have av:=(aT (o:=1) aG).trans rfl;have ai:=(aT (o:=2) aG).trans rfl;have aX:=(aT (o:=3) aG).trans rfl;have aY:=(aT (o:=4) aG).trans rfl;have c7:=Pj aG;have b5:=Pj ct;have dX:bz.heap.size<z.heap.size:=bp aG;clear bZ aG ct cb cc;generalize bz.heap.size=y at *;have bn:y≠z.heap.size:=by omega
     have aE:=Pj (show z.grownBy z.drew none from fQ (Pw _ _));have aD:=Pj (show ∀o:Obj,z.grownBy (z.alloc o).drew none from λo=>fQ Pn);have F:=Pj (show ∀W:World,z.grownBy W none->W.cell? ⟨y,1,none⟩=some (.int .i64 lm)/\W.cell? ⟨y,2,none⟩=some (.int .i64 l)/\W.cell? ⟨y,3,none⟩=some (.int .i64 fm)/\W.cell? ⟨y,4,none⟩=some (.int .i64 e)from λW g=>⟨g.cell av (by simp),g.cell ai (by simp),g.cell aX (by simp),g.cell aY (by simp)⟩);clear av ai aX aY;have v1:IntKind.i64.wrap (aa:Int)=aa:=IntWalk.i64_in _ (by omega);have v2:IntKind.i64.wrap (aH:Int)=aH:=IntWalk.i64_in _ (by omega);have v3:IntKind.i64.wrap (Y:Int)=Y:=IntWalk.i64_in _ (by omega);have v4:IntKind.i64.wrap (C:Int)=C:=IntWalk.i64_in _ (by omega);go_region_held3 (λW=>W.cell? ⟨y,1,none⟩=some (.int .i64 lm)/\W.cell? ⟨y,2,none⟩=some (.int .i64 l)/\W.cell? ⟨y,3,none⟩=some (.int .i64 fm)/\W.cell? ⟨y,4,none⟩=some (.int .i64 e))
      (first|with_reducible exact F.out _ aE.out|with_reducible exact F.out _ (aD.out _)|with_reducible exact F.out _ al.out|with_reducible exact F.out _ ad.out|with_reducible exact F.out _ (al.out.trans Pn)|with_reducible exact F.out _ (ad.out.trans Pn)|(have q:=F.out _ ad.out;with_reducible exact⟨(Qe _ bn _ _ _ _ _).trans q.1,(Qe _ bn _ _ _ _ _).trans q.2.1,(Qe _ bn _ _ _ _ _).trans q.2.2.1,(Qe _ bn _ _ _ _ _).trans q.2.2.2⟩)|(have q:=F.out _ ad.out;with_reducible exact⟨(Qe _ a6 _ _ _ _ _).trans q.1,(Qe _ a6 _ _ _ _ _).trans q.2.1,(Qe _ a6 _ _ _ _ _).trans q.2.2.1,(Qe _ a6 _ _ _ _ _).trans q.2.2.2⟩))
      (first
      |(go_at_call 13;refine(Qo (A:=A) aa aH _).mono ?_;rintro ar V ⟨rfl,f⟩;first|(have al:=Pj (aE.out.trans f);have a6:y≠V.heap.size:=(by have:=al.out.size;omega);clear f)|(have gK:=(f.block z.heap.size (by show z.heap.size<(z.alloc _).heap.size;simp) (by simp)).trans (gA z _);have a1:=Pj gK;have al:=Pj ((aD.out _).trans f);have a6:y≠V.heap.size:=(by have:=al.out.size;omega);clear gK f))
      |(go_at_call 13;refine(Qo (A:=A) Y C _).mono ?_;rintro ar aA ⟨rfl,f⟩;first|(have j:=(f.block z.heap.size (bp a1.out) (by simp)).trans a1.out;have ad:=Pj (al.out.trans f);clear f;have z0:=aT (o:=0) j;have d6:=aT (o:=1) j;have d7:=aT (o:=2) j;have z3:=aT (o:=3) j;have z4:=aT (o:=4) j;have f0:=b1 (o:=0) j;have f1:=b1 (o:=1) j;have f2:=b1 (o:=2) j;have f3:=b1 (o:=3) j;have f4:=b1 (o:=4) j;have bL:=Pj j;clear j)|(have ad:=Pj (al.out.trans f);clear f)|(have j:=(f.block V.heap.size (by show V.heap.size<(V.alloc _).heap.size;simp) (by simp)).trans (gA V _);have ad:=Pj ((al.out.trans Pn).trans f);clear f;have z0:=aT (o:=0) j;have d6:=aT (o:=1) j;have d7:=aT (o:=2) j;have z3:=aT (o:=3) j;have z4:=aT (o:=4) j;have f0:=b1 (o:=0) j;have f1:=b1 (o:=1) j;have f2:=b1 (o:=2) j;have f3:=b1 (o:=3) j;have f4:=b1 (o:=4) j;have bL:=Pj j;clear j)))
     all_goals (
      have eH:=ad.out.size;have eG:=al.out.size;first
      |(have j:aA.heap[z.heap.size]?=some (.cells #[.int .i64 0,.int .i64 0,.int .i64 0,.int .i64 0,.int .i64 0] 42):=bL.out
        have R:Qq z (((((aA.setCell ⟨z.heap.size,0,none⟩ (.int .i64 k)).setCell ⟨z.heap.size,1,none⟩ (.int .i64 aa)).setCell ⟨z.heap.size,2,none⟩ (.int .i64 aH)).setCell ⟨z.heap.size,3,none⟩ (.int .i64 Y)).setCell ⟨z.heap.size,4,none⟩ (.int .i64 C)) k aa aH Y C z.heap.size:=⟨(Qp j).1,λi aj=>((Qp j).2 i (by omega)).trans (ad.out.block i aj (by simp)),by simp;omega⟩
        generalize World.setCell _ _ _=bK at R ⊢;generalize z.heap.size=r at R ⊢)
      |(have j:aA.heap[V.heap.size]?=some (.cells #[.int .i64 0,.int .i64 0,.int .i64 0,.int .i64 0,.int .i64 0] 42):=bL.out
        have R:Qq z (((((aA.setCell ⟨V.heap.size,0,none⟩ (.int .i64 k)).setCell ⟨V.heap.size,1,none⟩ (.int .i64 aa)).setCell ⟨V.heap.size,2,none⟩ (.int .i64 aH)).setCell ⟨V.heap.size,3,none⟩ (.int .i64 Y)).setCell ⟨V.heap.size,4,none⟩ (.int .i64 C)) k aa aH Y C V.heap.size:=⟨(Qp j).1,λi aj=>((Qp j).2 i (by omega)).trans (ad.out.block i aj (by simp)),by simp;omega⟩
        generalize World.setCell _ _ _=bK at R ⊢;generalize V.heap.size=r at R ⊢)
      |(have R:Qq z (aA.alloc (.cells #[.int .i64 k,.int .i64 aa,.int .i64 aH,.int .i64 Y,.int .i64 C] 42)) k aa aH Y C aA.heap.size:=⟨gA _ _,λi aj=>(Pq (by omega)).trans (ad.out.block i aj (by simp)),by simp;omega⟩
        generalize aA.alloc _=bK at R ⊢;generalize aA.heap.size=r at R ⊢))
     all_goals (
      have eF:=b5.out.size;have a8:∀i,i<b3.heap.size->bK.heap[i]?=b3.heap[i]?:=λi aj=>(R.old i (by omega)).trans (b5.out.block i aj (by simp))
      have bG:=Pj (ch.out.P3 (ch.out.below ok) a8);have bh:=Pj (ca.out.P3 (ca.out.below b0) a8);have D:=(a8 B (bp b8.out)).trans b8.out;have eN:=(a8 x (bp cj.out)).trans cj.out;have eO:=(R.old y dX).trans c7.out;have ck:=Pj eN;have cf:=Pj R.blk;have aq:=aT (o:=0) D;have q1:=aT (o:=1) D;have M:=aT (o:=2) D;have au:=aT (o:=3) D;have bA:=aT (o:=0) eO;have av:=aT (o:=1) eO;have ai:=aT (o:=2) eO;have aX:=aT (o:=3) eO;have aY:=aT (o:=4) eO;clear R a8 D eN eO cn co a3 a4 v1 v2 v3 v4;go_upto_region 25 with(go_at_call 14;refine(Ej (A:=A) d ok p _ bG.out ⟨k,lm,l,fm,e⟩ bX).mono ?_;rintro ar eL ⟨r1,c1,eB,rfl,cZ,ep,a9,cW,f⟩;have eN:=(f.block x (bp ck.out) (by simp)).trans ck.out;have cr:=(f.block r (bp cf.out) (by simp)).trans cf.out;have bj:=Pj eN;have aZ:=Pj cr;have dj:=Pj (bh.out.keep f);have bk:=Pj (And.intro cZ (And.intro a9 cW));clear f eN cr cZ a9 cW)
      clear aq q1 M au bA av ai aX aY;have aq:=aT (o:=0) bj.out;have q1:=aT (o:=1) bj.out;have M:=aT (o:=2) bj.out;have au:=aT (o:=3) bj.out;have bA:=aT (o:=0) aZ.out;have av:=aT (o:=1) aZ.out;have ai:=aT (o:=2) aZ.out;have aX:=aT (o:=3) aZ.out;have aY:=aT (o:=4) aZ.out;go_upto_region 26 with(go_at_call 14;refine(Ej (A:=A) d2 b0 q' _ dj.out ⟨k,aa,aH,Y,C⟩ cN).mono ?_;rintro ar d5 ⟨r2,d3,eC,rfl,c0,eq,cY,cX,f⟩;have a9:=kq bk.out.2.1 (λg _ J=>f.block g J (by simp));have bl:=Pj (And.intro c0 (And.intro cY (And.intro cX a9)));clear f c0 cY cX a9)
      clear aq q1 M au bA av ai aX aY;have aQ:c1.Perm d3:=bk.out.1.trans ((dv.out ▸ bl.out.1).symm);have cJ:c1.length<=100000:=by have I:=bk.out.1.length_eq;have J:=QV bX;omega
      have dt:=Pj (QM (A:=A) cJ d5 bl.out.2.2.2 (by have:=bl.out.2.1;rw[<-QT aQ,<-aQ.length_eq]at this;exact this) (λh=>bk.out.2.2.2 (List.length_eq_zero_iff.1 h)) (λh=>bl.out.2.2.1.2 (List.length_eq_zero_iff.1 (aQ.length_eq ▸ h))));clear aQ cJ;go_wp2_with (first|(go_at_call 15;refine dt.out.mono ?_;rintro ar eM ⟨rfl,f⟩;clear f)|(go_at_call 16;refine(dx _).mono ?_;rintro ar eQ ⟨rfl,rfl⟩))
      go_ret;rfl)
end
end Go.aN
