/- A part of FeeNumbered: no conditions. -/
import Derived.Test.YtalhadgndijcmaaGreatDoorP41
import Derived.Deep.OwnRows
set_option maxHeartbeats 8000000
set_option maxRecDepth 100000
set_option linter.all false
namespace Go.aN
open Go.Proofs Go.RowKit
section
variable{F:Array Func}[S:Std F]
@[simp] theorem ag.call19:dg F 19:=dS Tryz.func19
@[simp] theorem ag.call38:dg F 38:=dS Tryz.func38
@[simp] theorem ag.call40:dg F 40:=dS Tryz.func40
end
section
variable{A:Array Func}
def QK{w:World}{B n:Nat}{v:Value}{f:Nat->Int}(ak:0<n)(h:w.ownsRow B 3 1 v n ((List.range n).map λj=>fX (f j))):∃g cap cur,v=.slice (some ⟨g,0,none⟩) n cap/\B<=g/\w.heap[g]?=some (.cells cur 3)/\iD w g 0 n f:=by
 obtain⟨g,cap,cur,rfl,I,_,J,ax⟩:=xY h ak;refine⟨g,cap,cur,rfl,I,J,λj aC=>?_⟩;rw[aT J,Nat.zero_add,<-Array.getElem?_toList];have e:(cur.toList.take n)[j]?=some (fX (f j)):=by rw[ax];simp[aC]
 rw[List.getElem?_take,if_pos aC]at e;exact e
def QL(b:Nat)(q:Option Addr)(c:Nat)(w:World):Sem.run (ag A) (Builtin.append_ #[22,22] 22 #[.slice (some ⟨b,0,none⟩) 0 0,.slice q 0 c]) w=.ok (.slice (some ⟨b,0,none⟩) 0 0) w:=by cases q<;>kernel_rfl
def QR{ops:Array Oper}{rest:List Oper}{o:Oper}{a:Act}{Q:Exit->Act->World->Prop}{w:World}(f:o.guard=none)(s x:Operand)(av:o.op=.call {callee:=.builtin .append,args:=#[s,x],argTypes:=#[22,22]})(az:o.type=22)(b:Nat)(q:Option Addr)(c:Nat)(af:a.eval s=.slice (some ⟨b,0,none⟩) 0 0)(g:a.eval x=.slice q 0 c)(h:wpList (ag A) ops Q rest (a.put o.dst (.slice (some ⟨b,0,none⟩) 0 0)) w):
 wpList (ag A) ops Q (o::rest) a w:=by
 refine wpList_plain f λK d=>?_
 unfold Oper.wp execOp;simp only[av,az,resolve,invoke,builtin,Sem.run_bind,Sem.run_pure,Result.andThen_ok,List.map_toArray,List.map_cons,List.map_nil,af,g,QL];exact d _ _ h
def Qj[S:Std A](q:Option Addr)(n c:Nat)(f:Nat->Int)(ak:n<=100)(w:World)(h:n≠0->∃b o,q=some ⟨b,o,none⟩/\iD w b o n f):
 Calls (ag A) 38 #[.slice q n c] w λe w'=>∃bb:Nat,(∃bo:Nat,e=.returned (.slice (some ⟨bb,0,none⟩) n bo))/\w.heap.size<=bb/\(∃cur:Array Value,w'.heap[bb]?=some (.cells cur 3))/\iD w' bb 0 n f/\w.grownBy w' none:=by
 obtain⟨M,aj,l,p,r⟩:=xj (A:=A);by_cases aP:n=0
 .subst aP
  clear h aj l p r;go_enter (S.f Tryz.func38),Tryz.ntmps38;go_wp2_with (at_builtin;refine QR rfl _ _ rfl rfl w.heap.size q c rfl rfl ?_)
  go_ret;exact⟨w.heap.size,⟨0,rfl⟩,Pk,⟨#[],gA _ _⟩,λj aC=>by omega,Pn⟩
 .obtain⟨b,o,rfl,af⟩:=h aP
  have G:=Pj af;have C:=Pj aj;have H:=Pj l;have I:=Pj p;have J:=Pj r;have D:=Pj (mV (af 0 (by omega)));have bO:(w.alloc (.cells #[] 3)).ownsRow w.heap.size 3 1 (.slice (some ⟨w.heap.size,0,none⟩) 0 0) 0 []:=⟨rfl,.inr ⟨w.heap.size,0,#[],rfl,Pk,gA _ _,Pk,by unfold maxLen;omega,rfl,rfl⟩⟩
  have K:=Pj bO;clear aj l p r bO af h;go_enter (S.f Tryz.func38),Tryz.ntmps38;have E:=Pj (show ∀(j:Nat) u,((List.range n).map λj=>fX (f j))[j]?=some u->(w.alloc (.cells #[] 3)).cell? ((⟨b,o,none⟩:Addr).add j)=some u from λj u aC=>by
   have z:j<n/\fX (f j)=u:=by
    rw[List.getElem?_map]at aC;rcases Nat.lt_or_ge j n with x|x
    .rw[List.getElem?_range x]at aC
     exact⟨x,by simpa using aC⟩
    .rw[List.getElem?_eq_none (by simpa using x)]at aC
     cases aC
   have:=G.out j z.1;rw[show((⟨b,o,none⟩:Addr).add j)=⟨b,o+j,none⟩ by simp[Addr.add]];rw[<-z.2];exact(Pz _ _ _ D.out).trans this)
  have F:=Pj (show ∀u∈(List.range n).map (λj=>fX (f j)),u.oneCell'=true from λu hu=>by obtain⟨n,_,rfl⟩:=List.mem_map.1 hu;rfl)
  go_wp2_with (at_builtin;refine wpList_append_own_at _ rfl _ _ 22 rfl w.heap.size 3 M (.int .i64 0) 1 8 (ag.underlying22 A) C.out H.out I.out J.out rfl (by decide) _ 0 _ rfl K.out ⟨b,o,none⟩ n c ((List.range n).map λj=>fX (f j)) rfl (by simp) E.out F.out (by unfold maxLen;omega) (by omega) (by simp) ?_;intro Q R B d P aJ)
  go_ret;rw[Nat.zero_add,List.nil_append]at B;obtain⟨g,cap,cur,rfl,ae,hb,L⟩:=QK (by omega) B;refine⟨g,⟨cap,rfl⟩,ae,⟨cur,hb⟩,L,?_⟩;refine⟨d.os,d.tape,d.output,Po (by simp) d.size,λi aj _=>(d.block i (by simp;omega) (λe=>?_)).trans (Pq aj)⟩;have e:some i=some w.heap.size:=e;have:=Pm e;omega
end
section
variable{A:Array Func}
def iD.P2{w w':World}{b o n:Nat}{f:Nat->Int}(h:iD w b o n f)(k:w'.heap[b]?=w.heap[b]?):iD w' b o n f:=λj aC=>(World.cell?_of_block k).trans (h j aC)
def fy.P2{w w':World}{d:cR}{p:dU}{B:Nat}(h:fy w d p)(hb:p.below d B)(k:∀i,i<B->w'.heap[i]?=w.heap[i]?):fy w' d p where
 first:=h.first.P2 (k _ hb.F)
 dz i aj:=(World.cell?_of_block (k _ hb.R)).trans (h.dz i aj)
 rows i aj:=(World.cell?_of_block (k _ hb.R)).trans (h.rows i aj)
 fD i aj:=(h.fD i aj).P2 (k _ (hb.P i aj))
 free ak:=by obtain⟨b,o,e,n⟩:=h.free ak;exact⟨b,o,e,n.P2 (k _ (hb.rL b o ak e))⟩
def Qi(d:cR)(i b c:Nat):List Value:=[.int .i64 (d.dz i),.slice (some ⟨b,0,none⟩) d.kinds c]
def P9(d:cR)(im j':Nat->Nat):Nat->List Value
 | 0=>[]
 |m+1=>P9 d im j' m++Qi d m (im m) (j' m)
def Qs(d:cR)(im j':Nat->Nat):∀m,(P9 d im j' m).length=m*2
 | 0=>rfl
 |m+1=>by simp only[P9,List.length_append,Qs d im j' m,Qi,List.length_cons,List.length_nil];omega
def Qr(d:cR){im j' c f:Nat->Nat}:∀m,(∀i,i<m->im i=c i/\j' i=f i)->P9 d im j' m=P9 d c f m
 | 0,_=>rfl
 |m+1,h=>by simp only[P9];rw[Qr d m λi aj=>h i (by omega),(h m (by omega)).1,(h m (by omega)).2]
def Qk(d:cR)(im j':Nat->Nat):∀m i,i<m->(P9 d im j' m)[i*2]?=some (.int .i64 (d.dz i))/\(P9 d im j' m)[i*2+1]?=some (.slice (some ⟨im i,0,none⟩) d.kinds (j' i))
 | 0,_,h=>by omega
 |m+1,i,h=>by
  simp only[P9];have ah:=Qs d im j' m;by_cases aj:i<m
  .have:=Qk d im j' m i aj
   rw[PF (by omega),PF (by omega)];exact this
  .obtain rfl:i=m:=by omega
   rw[PE (by omega),PE (by omega),ah,Nat.sub_self,Nat.add_sub_cancel_left];exact⟨rfl,rfl⟩
structure Qc(Qf B:Nat)(d:cR)(p:dU)(P7 PZ P0 eT P3 h9:Nat)(im j':Nat->Nat)(m:Nat)(fu:Value)(w:World):Prop where
 src:fy w d p
 mn:w.heap[P7]?=some (.cells (cO d p) 25)
 blk:w.heap[PZ]?=some (.cells (mE d.kinds (.slice (some ⟨P0,0,none⟩) d.kinds eT) fu (.slice (some ⟨P3,0,none⟩) d.fC h9)) 25)
 own:w.ownsRow B 27 2 fu m (P9 d im j' m)
 fD:∀i,i<m->iD w (im i) 0 d.kinds (d.fD i)/\(∃cur:Array Value,w.heap[im i]?=some (.cells cur 3))/\B<=im i/\fu.ownBlock≠some (im i)
 rP:∀i j,i<j->j<m->im i<im j
 first:iD w P0 0 d.kinds d.first/\∃cur:Array Value,w.heap[P0]?=some (.cells cur 3)
 free:iD w P3 0 d.fC d.free
 b4:Qf<=P7/\Qf<=PZ/\Qf<=P0/\Qf<=P3/\P7<B/\PZ<B/\P0<B/\P3<B/\P7≠PZ/\PZ≠P0/\PZ≠P3/\P0≠P3
 dm:B<=w.heap.size
def Qc.next{w B:Nat}{d:cR}{p:dU}{H PZ D eT G h9:Nat}{im j':Nat->Nat}{m:Nat}{q:Value}{wr:World}(br:Qc w B d p H PZ D eT G h9 im j' m q wr)(hb:p.below d w){g l:World}{o:Obj}{c E f cap:Nat}(K:wr.drew.grownBy g none)(am:wr.heap.size<=c)(al:∃cur:Array Value,g.heap[c]?=some (.cells cur 3))(ad:iD g c 0 d.kinds (d.fD m))(u:(g.alloc o).grownBy l q.ownBlock)(aJ:q.ownBlock=some f\/f=g.heap.size+1)(ai:l.ownsRow B 27 2 (.slice (some ⟨f,0,none⟩) (m+1) cap) (m+1) (P9 d im j' m++Qi d m c E)):
 Qc w B d p H PZ D eT G h9 (λi=>if i=m then c else im i) (λi=>if i=m then E else j' i) (m+1) (.slice (some ⟨f,0,none⟩) (m+1) cap) (l.setCell ⟨PZ,2,none⟩ (.slice (some ⟨f,0,none⟩) (m+1) cap))/\
  (∀X:World,X.heap.size<=w->X.grownBy wr none->X.grownBy (l.setCell ⟨PZ,2,none⟩ (.slice (some ⟨f,0,none⟩) (m+1) cap)) none)/\∀i,i<B->i≠PZ->(l.setCell ⟨PZ,2,none⟩ (.slice (some ⟨f,0,none⟩) (m+1) cap)).heap[i]?=wr.heap[i]?:=by
 obtain⟨ap,av,aw,ay,ae,az,V,ag,ah,aq,ar,au⟩:=br.b4;have L:∀r,q.ownBlock=some r->B<=r/\r<wr.heap.size:=λr e=>xX br.own r e
 have z:=br.dm;have aA:wr.heap.size<=g.heap.size:=K.size;have ak:=u.size;simp at ak;have U:∀i,i<wr.heap.size->g.heap[i]?=wr.heap[i]?:=λi aj=>K.block i aj (by simp)
 have P:∀i,i<g.heap.size->q.ownBlock≠some i->l.heap[i]?=g.heap[i]?:=λi I J=>(u.block i (by simp;omega) (λe=>J e.symm)).trans (Pq I)
 have AY:∀i,i≠PZ->(l.setCell ⟨PZ,2,none⟩ (.slice (some ⟨f,0,none⟩) (m+1) cap)).heap[i]?=l.heap[i]?:=λi h=>ft (by show i≠PZ;exact h)
 have keep:∀i,i<wr.heap.size->i≠PZ->q.ownBlock≠some i->(l.setCell ⟨PZ,2,none⟩ (.slice (some ⟨f,0,none⟩) (m+1) cap)).heap[i]?=wr.heap[i]?:=λi I J ax=>(AY i J).trans ((P i (by omega) ax).trans (U i I))
 have low:∀i,i<B->i≠PZ->(l.setCell ⟨PZ,2,none⟩ (.slice (some ⟨f,0,none⟩) (m+1) cap)).heap[i]?=wr.heap[i]?:=λi I J=>keep i (by omega) J λe=>by have:=(L i e).1;omega
 have R:c<g.heap.size:=by obtain⟨cur,h⟩:=al;exact bp h
 have S:q.ownBlock≠some c:=λe=>by have:=(L c e).2;omega
 have aa:l.heap[PZ]?=_:=((P PZ (by omega) (λe=>by have:=(L PZ e).1;omega)).trans (U PZ (by omega))).trans br.blk;have T:∀i,i<g.heap.size->q.ownBlock≠some i->(some f:Option Nat)≠some i:=λi I J e=>by
  have e:=Pm e;subst e;rcases aJ with h|h
  .exact J h
  .omega
 refine⟨⟨br.src.P2 hb λi aj=>low i (by omega) (by omega),(low H ae ah).trans br.mn,cQ aa,?_,λi aj=>?_,λi j I J=>?_,⟨br.first.1.P2 (low D V (by omega)),?_⟩,br.free.P2 (low G ag (by omega)),br.b4,by simp;omega⟩,λX ao M=>?_,low⟩
 .have e:P9 d (λi=>if i=m then c else im i) (λi=>if i=m then E else j' i) (m+1)=P9 d im j' m++Qi d m c E:=by simp only[P9,if_true];rw[Qr d m λi aj=>⟨if_neg (by omega),if_neg (by omega)⟩]
  rw[e];exact kq ai λi I J=>AY i (by omega)
 .by_cases hm:i=m
  .subst hm
   simp only[if_true];have J:(l.setCell ⟨PZ,2,none⟩ (.slice (some ⟨f,0,none⟩) (i+1) cap)).heap[c]?=g.heap[c]?:=(AY c (by omega)).trans (P c R S);exact⟨ad.P2 J,by obtain⟨cur,h⟩:=al;exact⟨cur,J.trans h⟩,by omega,T c R S⟩
  .simp only[if_neg hm]
   obtain⟨q1,⟨cur,F⟩,W,Q⟩:=br.fD i (by omega);have Y:=bp F;have J:=keep (im i) Y (by omega) Q;exact⟨q1.P2 J,⟨cur,J.trans F⟩,W,T _ (by omega) Q⟩
 .by_cases aC:j=m
  .subst aC
   simp only[if_true,if_neg (show i≠j by omega)];obtain⟨q1,⟨cur,F⟩,W,Q⟩:=br.fD i I;have Y:=bp F;omega
  .simp only[if_neg aC,if_neg (show i≠m by omega)]
   exact br.rP i j I (by omega)
 .obtain⟨cur,h⟩:=br.first.2
  exact⟨cur,(low D V (by omega)).trans h⟩
 .have Z:X.grownBy wr.drew none:=fQ M
  have C:=(Z.trans K).trans (Pv _ o none);have af:=M.size;refine⟨?_,?_,?_,?_,λi aj _=>?_⟩
  .exact u.os.trans C.os
  .exact u.tape.trans C.tape
  .exact u.output.trans C.output
  .have:=C.size;simp at this ⊢;omega
  .exact(low i (by omega) (by omega)).trans (M.block i aj (by simp))
abbrev Qb:Array Value:=#[.int .i64 0,.slice none 0 0,.slice none 0 0,.slice none 0 0]
def Qc.begin{w X W:World}{d:cR}{p:dU}{PZ c eT f h9:Nat}{im j':Nat->Nat}(src:fy X d p)(hb:p.below d w.heap.size)(mn:X.heap[w.heap.size]?=some (.cells (cO d p) 25))(J:X.heap[w.heap.size+1]?=some (.cells Qb 25))(g:w.grownBy X none)(hF:iD X c 0 d.kinds d.first)(o:∃cur:Array Value,X.heap[c]?=some (.cells cur 3))(q:iD X f 0 d.fC d.free)(b4:w.heap.size+1<PZ/\w.heap.size+1<c/\w.heap.size+1<f/\PZ<W.heap.size/\c<X.heap.size/\f<X.heap.size/\PZ≠c/\PZ≠f/\c≠f)(ax:W.heap[PZ]?=some (.cells (mE d.kinds (.slice (some ⟨c,0,none⟩) d.kinds eT) (.slice none 0 0) (.slice (some ⟨f,0,none⟩) d.fC h9)) 25))(k:∀i,i<X.heap.size->i≠PZ->W.heap[i]?=X.heap[i]?)(u:X.heap.size<=W.heap.size)(av:W.os=X.os/\W.tape=X.tape/\W.output=X.output):
 Qc w.heap.size W.heap.size d p w.heap.size PZ c eT f h9 im j' 0 (.slice none 0 0) W/\w.grownBy W none/\W.heap[w.heap.size+1]?=some (.cells Qb 25)/\(w.heap.size+1≠c/\w.heap.size+1≠f/\w.heap.size+1≠PZ/\w.heap.size+1<W.heap.size):=by
 obtain⟨z,B,C,D,l,r,E,F,G⟩:=b4;have af:=g.size;refine⟨⟨src.P2 hb λi aj=>k i (by omega) (by omega),(k _ (by omega) (by omega)).trans mn,ax,⟨rfl,.inl ⟨rfl,rfl⟩⟩,λi aj=>by omega,λi j I J=>by omega,⟨hF.P2 (k c l (by omega)),?_⟩,q.P2 (k f r (by omega)),by omega,Pk⟩,⟨av.1.trans g.os,av.2.1.trans g.tape,av.2.2.trans g.output,by omega,λi aj ao=>(k i (by omega) (by omega)).trans (g.block i aj ao)⟩,(k _ (by omega) (by omega)).trans J,by omega⟩;obtain⟨cur,h⟩:=o;exact⟨cur,(k c l (by omega)).trans h⟩
def Qd{X:World}{b:Nat}{v0 v1 v2 v3:Value}{c:Array Value}(h:X.heap[b]?=some (.cells c 25)):((((X.setCell ⟨b,0,none⟩ v0).setCell ⟨b,1,none⟩ v1).setCell ⟨b,2,none⟩ v2).setCell ⟨b,3,none⟩ v3).heap[b]?=some (.cells ((((c.setIfInBounds 0 v0).setIfInBounds 1 v1).setIfInBounds 2 v2).setIfInBounds 3 v3) 25)/\
 ∀i,i≠b->((((X.setCell ⟨b,0,none⟩ v0).setCell ⟨b,1,none⟩ v1).setCell ⟨b,2,none⟩ v2).setCell ⟨b,3,none⟩ v3).heap[i]?=X.heap[i]?:=
 ⟨cQ (cQ (cQ (cQ h))),λi h=>(ft (by show i≠b;exact h)).trans ((ft (by show i≠b;exact h)).trans ((ft (by show i≠b;exact h)).trans (ft (by show i≠b;exact h))))⟩
structure KeptAt(w:World)(d:cR)(p:dU)(w':World):Prop where
 sV:fy w' d p
 first:w.heap.size<=p.gv/\p.hj=0/\∃cur:Array Value,w'.heap[p.gv]?=some (.cells cur 3)
 Qe:w.heap.size<=p.j9/\p.j9≠p.gv
 fD:∀i,i<d.eY->w.heap.size<=p.im i/\p.sy i=0/\p.im i≠p.gv/\p.im i≠p.j9/\∃cur:Array Value,w'.heap[p.im i]?=some (.cells cur 3)
 apart:∀i j,i<j->j<d.eY->p.im i<p.im j
 free:∀b o,p.hE=some ⟨b,o,none⟩->w.heap.size<=b/\b≠p.gv/\b≠p.j9/\∀i,i<d.eY->b≠p.im i
def Qc.done{w wr q:World}{B:Nat}{d:cR}{p:dU}{r PZ g eT l h9 f h8:Nat}{im j':Nat->Nat}{cur:Array Value}(br:Qc w.heap.size B d p r PZ g eT l h9 im j' d.eY (.slice (some ⟨f,0,none⟩) d.eY h8) wr)(cT:B<=f/\wr.heap[f]?=some (.cells cur 27)/\cur.toList.take (d.eY*2)=P9 d im j' d.eY)(E:w.heap.size+1≠g/\w.heap.size+1≠l/\w.heap.size+1≠PZ/\w.heap.size+1<B)(k:∀i,i≠w.heap.size+1->q.heap[i]?=wr.heap[i]?):
 KeptAt w d ⟨g,0,eT,f,0,h8,im,λ_=>0,j',some ⟨l,0,none⟩,h9⟩ q:=by
 obtain⟨I,J,ax⟩:=cT;obtain⟨F,L,u,z,M,P,Q,R,S,G,H,K⟩:=br.b4;have ae:q.heap[f]?=some (.cells cur 27):=(k f (by omega)).trans J;have hb:∀i,i<d.eY->B<=im i/\f≠im i:=λi aj=>by obtain⟨_,_,C,D⟩:=br.fD i aj;exact⟨C,λe=>D (by rw[<-e];rfl)⟩
 refine⟨⟨br.first.1.P2 (k g (by omega)),λi aj=>tE ae ax (Qk d im j' d.eY i aj).1,λi aj=>?_,λi aj=>(br.fD i aj).1.P2 (k _ (by have:=(hb i aj).1;show im i≠_;omega)),λ_=>⟨l,0,rfl,br.free.P2 (k l (by omega))⟩⟩,⟨u,rfl,?_⟩,⟨by show w.heap.size<=f;omega,by show f≠g;omega⟩,λi aj=>?_,λi j I J=>br.rP i j I J,λb o e=>?_⟩
 .show q.cell? ⟨f,0+i*2+1,none⟩=_
  rw[Nat.add_assoc];exact tE ae ax (Qk d im j' d.eY i aj).2
 .obtain⟨c,h⟩:=br.first.2
  exact⟨c,(k g (by omega)).trans h⟩
 .have x:=hb i aj
  obtain⟨_,⟨c,al⟩,_,_⟩:=br.fD i aj;exact⟨by show w.heap.size<=im i;omega,rfl,by show im i≠g;omega,Ne.symm x.2,c,(k _ (by show im i≠_;omega)).trans al⟩
 .cases e
  exact⟨z,by show l≠g;omega,by show l≠f;omega,λi aj=>by have:=(hb i aj).1;show l≠im i;omega⟩
def P6(w:World){a b o:Nat}(h:a≠b)(v0 v1 v2 v3:Value):((((w.setCell ⟨b,0,none⟩ v0).setCell ⟨b,1,none⟩ v1).setCell ⟨b,2,none⟩ v2).setCell ⟨b,3,none⟩ v3).cell? ⟨a,o,none⟩=w.cell? ⟨a,o,none⟩:=
 (E9 _ h).trans ((E9 _ h).trans ((E9 _ h).trans (E9 _ h)))
def Qq[S:Std A](d:cR)(ok:d.ok)(p:dU)(w:World)(h:fy w d p):
 Calls (ag A) 19 #[.agg (cO d p)] w λe w'=>∃hD:dU,e=.returned (.agg (cO d hD))/\KeptAt w d hD w'/\w.grownBy w' none:=by
 have hb:=h.below ok;have b8:=ok.kinds;have cb:=ok.fC;obtain⟨c,T⟩:∃c,(w.alloc (.cells (cO d p) 25)).alloc (.cells #[.int .i64 0,.slice none 0 0,.slice none 0 0,.slice none 0 0] 25)=c:=⟨_,rfl⟩
 have aN:w.grownBy c none:=by rw[<-T];exact Pn.trans Pn
 have aG:c.heap.size=w.heap.size+2:=by rw[<-T];simp
 have Z:c.heap[w.heap.size]?=some (.cells (cO d p) 25):=by rw[<-T];exact(Pq (by simp)).trans (gA _ _)
 have a7:c.heap[w.heap.size+1]?=some (.cells Qb 25):=by rw[<-T,show w.heap.size+1=(w.alloc (.cells (cO d p) 25)).heap.size by simp];exact gA _ _
 have a2:=Pj a7;clear a7;have t1:=h.keep aN;have bu:=aT (o:=0) Z;have c1:=aT (o:=1) Z;have c2:=aT (o:=2) Z;have c3:=aT (o:=3) Z;have ah:=Pj hb;have aH:=Pj aN;have aA:=Pj aG;have a1:=Pj Z;have Y:=Pj t1;have H:=Pj T;clear hb aN aG Z t1 T h;go_enter (S.f Tryz.func19),Tryz.ntmps19;go_upto_region 1 with fail
 have aQ:=H.out;dsimp only[cO]at aQ;rw[aQ];clear aQ;have bu:c.cell? ⟨w.heap.size,0,none⟩=some (.int .i64 d.kinds):=bu.trans rfl;have c1:c.cell? ⟨w.heap.size,1,none⟩=some (.slice (some ⟨p.gv,p.hj,none⟩) d.kinds p.eT):=c1.trans rfl;have c3:c.cell? ⟨w.heap.size,3,none⟩=some (.slice p.hE d.fC p.h9):=c3.trans rfl;have cg:c.grownBy c.drew none:=fQ (Pw _ _);have a0:=Pj cg;have ax:=Pj (show ∀(W:World) (o:Obj),c.grownBy W none->(W.alloc o).cell? ⟨w.heap.size,0,none⟩=some (.int .i64 d.kinds)/\(W.alloc o).cell? ⟨w.heap.size,1,none⟩=some (.slice (some ⟨p.gv,p.hj,none⟩) d.kinds p.eT)/\(W.alloc o).cell? ⟨w.heap.size,3,none⟩=some (.slice p.hE d.fC p.h9)from λW o g=>by have ad:=g.trans (Pv W o none);exact⟨ad.cell bu (by simp),ad.cell c1 (by simp),ad.cell c3 (by simp)⟩)
 have U:=Pj (show ∀o:Obj,c.grownBy (c.alloc o).drew none from λo=>fQ Pn);have aY:=Pj (show ∀o:Obj,(c.alloc o).drew.cell? ⟨w.heap.size,0,none⟩=some (.int .i64 d.kinds)/\(c.alloc o).drew.cell? ⟨w.heap.size,1,none⟩=some (.slice (some ⟨p.gv,p.hj,none⟩) d.kinds p.eT)/\(c.alloc o).drew.cell? ⟨w.heap.size,3,none⟩=some (.slice p.hE d.fC p.h9)from λo=>⟨(U.out o).cell bu (by simp),(U.out o).cell c1 (by simp),(U.out o).cell c3 (by simp)⟩);have di:c.drew.cell? ⟨w.heap.size,0,none⟩=some (.int .i64 d.kinds):=bu;have ar:c.drew.cell? ⟨w.heap.size,1,none⟩=some (.slice (some ⟨p.gv,p.hj,none⟩) d.kinds p.eT):=c1;have a9:c.drew.cell? ⟨w.heap.size,3,none⟩=some (.slice p.hE d.fC p.h9):=c3;clear cg;go_region_held3 (λW=>W.cell? ⟨w.heap.size,0,none⟩=some (.int .i64 d.kinds)/\W.cell? ⟨w.heap.size,1,none⟩=some (.slice (some ⟨p.gv,p.hj,none⟩) d.kinds p.eT)/\W.cell? ⟨w.heap.size,3,none⟩=some (.slice p.hE d.fC p.h9))
  (first|with_reducible exact⟨di,ar,a9⟩|with_reducible exact aY.out _|with_reducible exact⟨bn,k1,bo⟩|with_reducible exact ax.out _ _ C.out|with_reducible exact⟨cH,au,av⟩|with_reducible exact ax.out _ _ (C.out.trans K.out)|with_reducible exact⟨(P6 j aU _ _ _ _).trans cH,(P6 j aU _ _ _ _).trans au,(P6 j aU _ _ _ _).trans av⟩|with_reducible exact⟨(P6 j aV _ _ _ _).trans cH,(P6 j aV _ _ _ _).trans au,(P6 j aV _ _ _ _).trans av⟩|(have q:=ax.out _ (.cells #[.int .i64 0,.slice none 0 0,.slice none 0 0,.slice none 0 0] 25) (C.out.trans K.out);with_reducible exact⟨(P6 _ aW _ _ _ _).trans q.1,(P6 _ aW _ _ _ _).trans q.2.1,(P6 _ aW _ _ _ _).trans q.2.2⟩))
  (first
  |(go_at_call 38;refine(Qj (A:=A) (some ⟨p.gv,p.hj,none⟩) d.kinds p.eT d.first (by omega) _ (by first|exact λ_=>⟨_,_,rfl,(Y.out.keep a0.out).first⟩|exact λ_=>⟨_,_,rfl,(Y.out.keep (U.out _)).first⟩)).mono ?_;rintro e w3 ⟨D,⟨eT,rfl⟩,ai,ae,al,f⟩;have L:c.grownBy w3 none:=(by first|exact a0.out.trans f|exact(U.out _).trans f);have bn:=L.cell bu (by simp);have k1:=L.cell c1 (by simp);have bo:=L.cell c3 (by simp);(try (have bt:=(f.block c.heap.size (by show c.heap.size<(c.alloc _).heap.size;simp) (by simp)).trans (gA c _)));have bB:=Pj f;have C:=Pj L;have a4:=Pj (And.intro ai (And.intro ae al));clear f L ai ae al)
  |(go_at_call 38;refine(Qj (A:=A) p.hE d.fC p.h9 d.free (by omega) _ (by first|exact(Y.out.keep C.out).free|exact(Y.out.keep (C.out.trans Pn)).free)).mono ?_;rintro e j ⟨F,⟨h9,rfl⟩,am,ap,R,f⟩;have M:w3.grownBy j none:=(by first|exact f|exact Pn.trans f);have cH:=M.cell bn (by simp);have au:=M.cell k1 (by simp);have av:=M.cell bo (by simp);(try (have ks:=(f.block c.heap.size (bp bt) (by simp)).trans bt));(try (have ks:=(f.block w3.heap.size (by simp) (by simp)).trans (gA w3 _)));have bC:=Pj f;have K:=Pj M;have a5:=Pj (And.intro am (And.intro ap R));(try (have bS:=aT (o:=0) ks));(try (have z0:=b1 (o:=0) ks));(try (have bT:=aT (o:=1) ks));(try (have aG:=b1 (o:=1) ks));(try (have bU:=aT (o:=2) ks));(try (have bW:=b1 (o:=2) ks));(try (have bV:=aT (o:=3) ks));(try (have z3:=b1 (o:=3) ks));have aU:w.heap.size≠c.heap.size:=(by have:=aA.out;omega);have aV:w.heap.size≠w3.heap.size:=(by have:=aA.out;have:=C.out.size;omega);have aW:w.heap.size≠j.heap.size:=(by have:=aA.out;have:=C.out.size;have:=K.out.size;omega);(try (have aB:=Pj ks;clear ks));clear f M am ap R))
 all_goals (
  have T:=aA.out;have aa:=C.out.trans K.out;have bP:=C.out.size;have bQ:=K.out.size;obtain⟨ai,⟨bK,ae⟩,al⟩:=a4.out;obtain⟨am,⟨b0,ap⟩,R⟩:=a5.out;have bq:=bp ae;have bN:=bp ap;have aF:=Y.out.keep aa;have aD:j.heap[w.heap.size]?=some (.cells (cO d p) 25):=(aa.block _ (by omega) (by simp)).trans a1.out;have aE:=al.keep K.out (by simp);have aC:j.heap[D]?=some (.cells bK 3):=(K.out.block _ bq (by simp)).trans ae;have bX:=aH.out.trans aa;have aw:j.heap[w.heap.size+1]?=some (.cells Qb 25):=(aa.block _ (by omega) (by simp)).trans a2.out;have ay:=aH.out.trans aa;have V:=Pj (And.intro ai am);clear ai am)
 focus (
  have u:=Qc.begin (PZ:=j.heap.size) (eT:=eT) (h9:=h9) (im:=λ_=>0) (j':=λ_=>0) aF ah.out aD aw ay aE ⟨_,aC⟩ R (by obtain⟨I,J⟩:=V.out;have I:c.heap.size<=D:=I;have J:w3.heap.size<=F:=J;simp only[Pp];omega) (gA j (.cells (mE d.kinds (.slice (some ⟨D,0,none⟩) d.kinds eT) (.slice none 0 0) (.slice (some ⟨F,0,none⟩) d.fC h9)) 25)) (λi h _=>Pq h) (by simp) ⟨rfl,rfl,rfl⟩;unfold mE at u;generalize hW:j.alloc _=Qa at u ⊢;generalize aR:j.heap.size=PZ at u ⊢)
 rotate_left
 focus (
  have u:=Qc.begin (PZ:=w3.heap.size) (eT:=eT) (h9:=h9) (im:=λ_=>0) (j':=λ_=>0) aF ah.out aD aw ay aE ⟨_,aC⟩ R (by obtain⟨I,J⟩:=V.out;have I:c.heap.size<=D:=I;have J:(w3.alloc (.cells Qb 25)).heap.size<=F:=J;simp only[Pp]at J;simp only[World.size_setCell];omega) (Qd aB.out).1 (λi _ h=>(Qd aB.out).2 i h) (by simp only[World.size_setCell];omega) ⟨rfl,rfl,rfl⟩;generalize hW:World.setCell (World.setCell (World.setCell (World.setCell j ⟨w3.heap.size,0,none⟩ _) _ _) _ _) _ _=Qa at u ⊢;generalize aR:w3.heap.size=PZ at u ⊢)
 rotate_left
 focus (
  have u:=Qc.begin (PZ:=c.heap.size) (eT:=eT) (h9:=h9) (im:=λ_=>0) (j':=λ_=>0) aF ah.out aD aw ay aE ⟨_,aC⟩ R (by obtain⟨I,J⟩:=V.out;have I:(c.alloc (.cells Qb 25)).heap.size<=D:=I;have J:w3.heap.size<=F:=J;simp only[Pp]at I;simp only[World.size_setCell];omega) (Qd aB.out).1 (λi _ h=>(Qd aB.out).2 i h) (by simp only[World.size_setCell];omega) ⟨rfl,rfl,rfl⟩;generalize hW:World.setCell (World.setCell (World.setCell (World.setCell j ⟨c.heap.size,0,none⟩ _) _ _) _ _) _ _=Qa at u ⊢;generalize aR:c.heap.size=PZ at u ⊢)
 rotate_left
 all_goals (
  obtain⟨u,aZ,aX,aS⟩:=u;have bb:=ah.out;clear hW aR C K bB bC a4 a5 V bP bQ ae al ap R bq bN aF aD aE aC aw ay aa;clear bu c1 c2 c3 di ar a9 U aY ax a1 Y H a2 aH;obtain⟨B,ba⟩:∃B,B=Qa.heap.size:=⟨_,rfl⟩
  rw[<-ba]at u aS;obtain⟨bM,bh,bj,bk,bl⟩:=HX (A:=A);have bD:=Pj bh;have bH:=Pj bj;have bI:=Pj bk;have bJ:=Pj bl;have bE:=Pj u;have bz:=Pj aZ;have bx:=Pj aX;have aK:=Pj aS;have b5:=ok.eY;clear bh bj bk bl ba u aZ aX aS ah;have a3:=Pj bb;clear bb;go_wp2;go_loopw [4] (λi wr=>∃(m:Nat) (im j':Nat->Nat) (z:Value),m<=d.eY/\i=.int .i64 m/\Qc w.heap.size B d p w.heap.size PZ D eT F h9 im j' m z wr/\w.grownBy wr none/\wr.heap[w.heap.size+1]?=some (.cells Qb 25)) (λi _=>d.eY-(vy i).toNat)
  case atStart=>exact⟨0,_,_,_,by omega,by go_num,bE.out,bz.out,bx.out⟩
  case round=>
   obtain⟨m,im,j',z,hm,rfl,br,G,E⟩:=hrel;have bO:wr.cell? ⟨w.heap.size,2,none⟩=some (.slice (some ⟨p.j9,p.lg,none⟩) d.eY p.h8):=(aT (o:=2) br.mn).trans rfl;by_cases aO:m<d.eY
   .have hd:decide ((m:Int)<d.eY)=true:=by simpa using aO
    have bL:decide (m<d.eY)=true:=by simpa using aO
    have r1:=br.src.dz m aO;have r2:=br.src.rows m aO;have v3:wr.cell? ⟨PZ,2,none⟩=some z:=(aT (o:=2) br.blk).trans rfl;have bv:=Pj (show wr.grownBy wr.drew none from fQ (Pw _ _));have d2:wr.drew.cell? ⟨w.heap.size,2,none⟩=some (.slice (some ⟨p.j9,p.lg,none⟩) d.eY p.h8):=bO;have d3:wr.drew.cell? ⟨p.j9,p.lg+m*2,none⟩=some (.int .i64 (d.dz m)):=r1;have d4:wr.drew.cell? ⟨p.j9,p.lg+m*2+1,none⟩=some (.slice (some ⟨p.im m,p.sy m,none⟩) d.kinds (p.j' m)):=r2;have aq:∀r,z.ownBlock=some r->B<=r/\r<wr.heap.size:=λr e=>xX br.own r e
    have bY:=Pj aq;have b7:=a3.out.R;have b4:=br.b4;have au:(some w.heap.size:Option Nat)≠z.ownBlock:=λe=>by have:=(aq _ e.symm).1;omega
    have bs:(some p.j9:Option Nat)≠z.ownBlock:=λe=>by have:=(aq _ e.symm).1;omega
    have av:(some PZ:Option Nat)≠z.ownBlock:=λe=>by have:=(aq _ e.symm).1;omega
    have e6:w.heap.size≠PZ:=by omega
    have fY:p.j9≠PZ:=by omega
    have b3:=br.dm;have b6:PZ<B:=by omega
    have X:=Pj br;have P:=Pj G;have H:=Pj E;clear br G E aq b4;go_wp2;simp only[oZ 23 (.tmp 21)];have b9:=Pg;go_region_held3 (λW=>W.cell? ⟨w.heap.size,2,none⟩=some (.slice (some ⟨p.j9,p.lg,none⟩) d.eY p.h8)/\W.cell? ⟨p.j9,p.lg+m*2,none⟩=some (.int .i64 (d.dz m))/\W.cell? ⟨p.j9,p.lg+m*2+1,none⟩=some (.slice (some ⟨p.im m,p.sy m,none⟩) d.kinds (p.j' m)))
     (first|with_reducible exact⟨d2,d3,d4⟩|with_reducible exact⟨f2,f3,f4⟩|with_reducible exact az.out _|with_reducible exact⟨ad,L,M⟩|with_reducible exact⟨(E9 _ e6).trans ad,(E9 _ fY).trans L,(E9 _ fY).trans M⟩)
     (first
     |(go_at_call 38;refine(Qj (A:=A) (some ⟨p.im m,p.sy m,none⟩) d.kinds (p.j' m) (d.fD m) (by omega) _ (λ_=>⟨_,_,rfl,(X.out.src.keep bv.out).fD m aO⟩)).mono ?_;rintro e l ⟨a6,⟨a8,rfl⟩,kE,kk,bc,f⟩;have f2:=f.cell d2 (by simp);have f3:=f.cell d3 (by simp);have f4:=f.cell d4 (by simp);have v5:l.cell? ⟨PZ,2,none⟩=some z:=f.cell (a:=⟨PZ,2,none⟩) v3 (by simp);have ck:∀o:Obj,(l.alloc o).cell? ⟨PZ,2,none⟩=some z:=(λo=>(Pv l o none).cell v5 (by simp));have az:=Pj (show ∀o:Obj,(l.alloc o).cell? ⟨w.heap.size,2,none⟩=some (.slice (some ⟨p.j9,p.lg,none⟩) d.eY p.h8)/\(l.alloc o).cell? ⟨p.j9,p.lg+m*2,none⟩=some (.int .i64 (d.dz m))/\(l.alloc o).cell? ⟨p.j9,p.lg+m*2+1,none⟩=some (.slice (some ⟨p.im m,p.sy m,none⟩) d.kinds (p.j' m))from λo=>⟨(Pv l o none).cell f2 (by simp),(Pv l o none).cell f3 (by simp),(Pv l o none).cell f4 (by simp)⟩);have aL:=Pj (And.intro kE (And.intro kk bc));have Q:=Pj f;clear f kE kk bc)
     |(refine step_append_lies _ (by rfl) _ _ _ (by rfl) B 27 bM (.agg #[.int .i64 0,.slice none 0 0]) 2 32 (by kernel_rfl) bD.out bH.out bI.out bJ.out rfl (by omega) z m (P9 d im j' m) (by rfl) (kq X.out.own (λi I J=>(Pq (Px J Q.out.size)).trans (Q.out.block i J (by simp)))) ⟨l.heap.size,0,none⟩ 1 1 [.int .i64 (d.dz m),.slice (some ⟨a6,0,none⟩) d.kinds a8] (by rfl) (by rfl) (World.news_of_block (cs:=#[.int .i64 (d.dz m),.slice (some ⟨a6,0,none⟩) d.kinds a8]) (t:=27) (fr:=(0,0)) (heap_alloc_new l _)) (by simp[Value.oneCell']) (by omega) (by unfold maxLen;omega) (by omega) (by have bm:wr.heap.size<=l.heap.size:=Q.out.size;simp only[Pp];omega) (l.heap.size+1) (by simp) ?_;intro b2 cap bR bi af aJ ca;have ad:=af.cell (az.out _).1 au;have L:=af.cell (az.out _).2.1 bs;have M:=af.cell (az.out _).2.2 bs;have aM:bR.heap[PZ]?=some (.cells (mE d.kinds (.slice (some ⟨D,0,none⟩) d.kinds eT) z (.slice (some ⟨F,0,none⟩) d.fC h9)) 25):=(af.block PZ (by have bm:wr.heap.size<=l.heap.size:=Q.out.size;simp only[Pp];omega) av).trans ((Pq (by have bm:wr.heap.size<=l.heap.size:=Q.out.size;omega)).trans ((Q.out.block PZ (by show PZ<wr.heap.size;omega) (by simp)).trans X.out.blk));have ci:=aT (o:=2) aM;have cj:=b1 (o:=2) aM;have bF:=Pj bi;have bA:=Pj af;have bw:=Pj aJ;clear bi af aJ aM))
    all_goals (
     have ak:=X.out.next a3.out Q.out aL.out.1 aL.out.2.1 aL.out.2.2 bA.out bw.out bF.out;have aI:=Pj ak;clear ak;go_wp2;exact⟨⟨m+1,_,_,_,by omega,by push_cast;rfl,aI.out.1,aI.out.2.1 w Pk P.out,(aI.out.2.2 _ aK.out.2.2.2 aK.out.2.2.1).trans H.out⟩,by show d.eY-((m:Int)+1).toNat<d.eY-(m:Int).toNat;omega⟩)
   .have hd:decide ((m:Int)<d.eY)=false:=by simp;omega
    have bL:decide (m<d.eY)=false:=by simpa using aO
    obtain rfl:m=d.eY:=by omega
    obtain⟨aP,h8,bZ,rfl,bd,bf,bg⟩:=JX br.own (by omega);have cc:wr.cell? ⟨PZ,0,none⟩=some (.int .i64 d.kinds):=(aT (o:=0) br.blk).trans rfl;have ce:wr.cell? ⟨PZ,1,none⟩=some (.slice (some ⟨D,0,none⟩) d.kinds eT):=(aT (o:=1) br.blk).trans rfl;have cf:wr.cell? ⟨PZ,2,none⟩=some (.slice (some ⟨aP,0,none⟩) d.eY h8):=(aT (o:=2) br.blk).trans rfl;have ch:wr.cell? ⟨PZ,3,none⟩=some (.slice (some ⟨F,0,none⟩) d.fC h9):=(aT (o:=3) br.blk).trans rfl;have bS:=aT (o:=0) E;have bT:=aT (o:=1) E;have bU:=aT (o:=2) E;have bV:=aT (o:=3) E;have z0:=b1 (o:=0) E;have aG:=b1 (o:=1) E;have bW:=b1 (o:=2) E;have z3:=b1 (o:=3) E;have X:=Pj br;have P:=Pj G;have H:=Pj E;have bG:=Pj (And.intro bd (And.intro bf bg));clear br G E bd bf bg;go_wp2;refine bodyPost_ret (results_cell_row rfl _ _ (w.heap.size+1) 25 #[.int .i64 d.kinds,.slice (some ⟨D,0,none⟩) d.kinds eT,.slice (some ⟨aP,0,none⟩) d.eY h8,.slice (some ⟨F,0,none⟩) d.fC h9] (0,0) _ rfl (Qd H.out).1 (ag.underlying25 A) rfl LI) rfl ?_;refine⟨⟨D,0,eT,aP,0,h8,im,λ_=>0,j',some ⟨F,0,none⟩,h9⟩,rfl,X.out.done bG.out aK.out (Qd H.out).2,?_⟩;exact⟨P.out.os,P.out.tape,P.out.output,by have:=P.out.size;simp only[World.size_setCell];omega,λi aj ao=>((Qd H.out).2 i (by omega)).trans (P.out.block i aj ao)⟩)
end
section
variable{A:Array Func}
def P8(q:Nat->Nat)(f:Nat->Int):Nat->Nat->Int
 | 0,j=>f j
 |m+1,j=>if j=q m then f m else P8 q f m j
def Ql(q:Nat->Nat)(f:Nat->Int)(n:Nat)(c:∀i j,i<j->j<n->q i≠q j):∀m,m<=n->∀k,k<m->P8 q f m (q k)=f k
 | 0,_,_,h=>by omega
 |m+1,hm,k,U=>by
  unfold P8;by_cases e:k=m
  .subst e;rw[if_pos rfl]
  .rw[if_neg (c k m (by omega) (by omega))]
   exact Ql q f n c m (by omega) k (by omega)
def Qm{q:Nat->Nat}{f:Nat->Int}{n:Nat}(h:∀k,k<n->0<=f k/\f k<=9):∀m,m<=n->∀j,j<n->0<=P8 q f m j/\P8 q f m j<=9
 | 0,_,j,aC=>h j aC
 |m+1,hm,j,aC=>by
  unfold P8;split
  .exact h m (by omega)
  .exact Qm h m (by omega) j aC
def P4(d:cR)(q:Nat->Nat)(a m c:Nat):cR:={d with first:=P8 q d.first a,fD:=λi=>P8 q (d.fD i) (if i<c then m+1 else m)}
def QG(d:cR)(q:Nat->Nat):P4 d q 0 0 0=d:=by unfold P4;simp only[Nat.not_lt_zero,if_false];rfl
def QE{d:cR}(ok:d.ok)(q:Nat->Nat):(P4 d q d.kinds d.kinds 0).ok where
 kinds:=ok.kinds
 first k U:=Qm ok.first d.kinds Pk k U
 eY:=ok.eY
 zero:=ok.zero
 dz:=ok.dz
 rP:=ok.rP
 fD i aj j aC:=by show 0<=P8 q (d.fD i) (if i<0 then d.kinds+1 else d.kinds) j/\P8 q (d.fD i) (if i<0 then d.kinds+1 else d.kinds) j<=9;rw[if_neg (Nat.not_lt_zero _)];exact Qm (ok.fD i aj) d.kinds Pk j aC
 fC:=ok.fC
 free:=ok.free
 Av:=ok.Av
def QF(d:cR){q:Nat->Nat}(c:∀i j,i<j->j<d.kinds->q i≠q j){k:Nat}(U:k<d.kinds)(i:Nat):(P4 d q d.kinds d.kinds 0).fD i (q k)=d.fD i k:=by show P8 q (d.fD i) (if i<0 then d.kinds+1 else d.kinds) (q k)=_;rw[if_neg (Nat.not_lt_zero _)];exact Ql q (d.fD i) d.kinds c d.kinds Pk k U
def Qv(d:cR){q:Nat->Nat}(c:∀i j,i<j->j<d.kinds->q i≠q j){k:Nat}(U:k<d.kinds)(day:Nat):∀i,lp (P4 d q d.kinds d.kinds 0) (q k) i day=lp d k i day
 | 0=>rfl
 |i+1=>by unfold lp;rw[Qv d c U day i,QF d c U i];rfl
def Qu(d:cR){q:Nat->Nat}(c:∀i j,i<j->j<d.kinds->q i≠q j){k:Nat}(U:k<d.kinds)(day:Nat):∀i,rf (P4 d q d.kinds d.kinds 0) (q k) i day=rf d k i day
 | 0=>Qv d c U day d.eY
 |i+1=>by unfold rf;rw[Qu d c U day i];rfl
def QC(d:cR){q:Nat->Nat}(c:∀i j,i<j->j<d.kinds->q i≠q j){k:Nat}(U:k<d.kinds)(a b:Nat):fP ((P4 d q d.kinds d.kinds 0).first (q k)) (cC (P4 d q d.kinds d.kinds 0) (q k)) a b=fP (d.first k) (cC d k) a b:=by
 have e:cC (P4 d q d.kinds d.kinds 0) (q k)=cC d k:=funext λday=>Qu d c U day d.fC
 have f:(P4 d q d.kinds d.kinds 0).first (q k)=d.first k:=Ql q d.first d.kinds c d.kinds Pk k U
 rw[e,f]
def iD.set{w:World}{b n k:Nat}{f:Nat->Int}{cur:Array Value}(h:iD w b 0 n f)(hb:w.heap[b]?=some (.cells cur 3))(U:k<n)(v:Int):iD (w.setCell ⟨b,k,none⟩ (.int .i64 v)) b 0 n (λj=>if j=k then v else f j):=λj aC=>by
 have af:∀i,i<n->i<cur.size:=λi aj=>by
  have I:=h i aj;rw[Nat.zero_add,aT hb]at I;rcases Nat.lt_or_ge i cur.size with x|x
  .exact x
  .rw[Array.getElem?_eq_none x]at I;cases I
 have I:=h j aC;rw[Nat.zero_add]at I ⊢;rw[aT hb]at I;rw[aT (cQ hb),Array.getElem?_setIfInBounds];by_cases c:k=j
 .subst c
  simp[af k U]
 .rw[if_neg c,I]
  show some (Value.int .i64 (f j))=some (.int .i64 (if j=k then v else f j));rw[if_neg (λx:j=k=>c x.symm)]
def KeptAt.QM{aI w:World}{d:cR}{p:dU}(K:KeptAt aI d p w){j:Nat}(aC:j<d.kinds)(v:Int):KeptAt aI {d with first:=λi=>if i=j then v else d.first i} p (w.setCell ⟨p.gv,j,none⟩ (.int .i64 v)):=by
 obtain⟨f1,f2,cur,f3⟩:=K.first
 have AY:∀i,i≠p.gv->(w.setCell ⟨p.gv,j,none⟩ (.int .i64 v)).heap[i]?=w.heap[i]?:=λi h=>ft (by show i≠p.gv;exact h)
 have hF:=K.sV.first
 rw[f2]at hF;refine⟨⟨?_,λi aj=>(World.cell?_of_block (AY _ K.Qe.2)).trans (K.sV.dz i aj),λi aj=>(World.cell?_of_block (AY _ K.Qe.2)).trans (K.sV.rows i aj),λi aj=>(K.sV.fD i aj).P2 (AY _ (K.fD i aj).2.2.1),λak=>?_⟩,⟨f1,f2,_,cQ f3⟩,K.Qe,λi aj=>?_,K.apart,K.free⟩
 .show iD _ p.gv p.hj d.kinds _
  rw[f2];exact hF.set f3 aC v
 .obtain⟨b,o,e,q⟩:=K.sV.free ak
  exact⟨b,o,e,q.P2 (AY b (K.free b o e).2.1)⟩
 .obtain⟨g,l,f,ks,c,gK⟩:=K.fD i aj
  exact⟨g,l,f,ks,c,(AY _ f).trans gK⟩
def KeptAt.QN{aI w:World}{d:cR}{p:dU}(K:KeptAt aI d p w){r j:Nat}(ao:r<d.eY)(aC:j<d.kinds)(v:Int):KeptAt aI {d with fD:=λi l=>if i=r/\l=j then v else d.fD i l} p (w.setCell ⟨p.im r,j,none⟩ (.int .i64 v)):=by
 obtain⟨F,D,g,ks,cur,gK⟩:=K.fD r ao;have AY:∀i,i≠p.im r->(w.setCell ⟨p.im r,j,none⟩ (.int .i64 v)).heap[i]?=w.heap[i]?:=λi h=>ft (by show i≠p.im r;exact h)
 have f:∀i,i<d.eY->i≠r->p.im i≠p.im r:=λi aj h=>by
  rcases Nat.lt_or_gt_of_ne h with y|y
  .have:=K.apart i r y ao;omega
  .have:=K.apart r i y aj;omega
 refine⟨⟨K.sV.first.P2 (AY _ (Ne.symm g)),λi aj=>(World.cell?_of_block (AY _ (Ne.symm ks))).trans (K.sV.dz i aj),λi aj=>(World.cell?_of_block (AY _ (Ne.symm ks))).trans (K.sV.rows i aj),λi aj=>?_,λak=>?_⟩,⟨K.first.1,K.first.2.1,?_⟩,K.Qe,λi aj=>?_,K.apart,K.free⟩
 .show iD _ (p.im i) (p.sy i) d.kinds (λl=>if i=r/\l=j then v else d.fD i l)
  by_cases e:i=r
  .subst e
   have h:=K.sV.fD i ao;rw[D]at h ⊢;have:=h.set gK aC v;simpa using this
  .have h:=(K.sV.fD i aj).P2 (AY _ (f i aj e))
   simpa [e]using h
 .obtain⟨b,o,e,q⟩:=K.sV.free ak
  exact⟨b,o,e,q.P2 (AY b ((K.free b o e).2.2.2 r ao))⟩
 .obtain⟨c,h⟩:=K.first.2.2
  exact⟨c,(AY _ (Ne.symm g)).trans h⟩
 .obtain⟨u,z,B,C,c,E⟩:=K.fD i aj
  by_cases e:i=r
  .subst e
   exact⟨u,z,B,C,_,cQ gK⟩
  .exact⟨u,z,B,C,c,(AY _ (f i aj e)).trans E⟩
def KeptAt.same{aI w:World}{d e:cR}{p:dU}(K:KeptAt aI d p w)(I:e.kinds=d.kinds)(J:e.eY=d.eY)(ax:e.dz=d.dz)(aV:e.fC=d.fC)(bm:e.free=d.free)(b':∀j,e.first j=d.first j)(b7:∀i,i<d.eY->∀j,e.fD i j=d.fD i j):KeptAt aI e p w where
 sV:=⟨λj aC=>by rw[b'];exact K.sV.first j (by omega),λi aj=>by rw[ax];exact K.sV.dz i (by omega),λi aj=>by rw[I];exact K.sV.rows i (by omega),λi aj j aC=>by rw[b7 i (by omega)];exact K.sV.fD i (by omega) j (by omega),λak=>by rw[aV,bm];exact K.sV.free (by omega)⟩
 first:=K.first
 Qe:=K.Qe
 fD i aj:=K.fD i (by omega)
 apart i j h aC:=K.apart i j h (by omega)
 free b o e:=by obtain⟨c,f,a3,a4⟩:=K.free b o e;exact⟨c,f,a3,λi aj=>a4 i (by omega)⟩
def KeptAt.P2{aI w w':World}{d:cR}{p:dU}(K:KeptAt aI d p w)(h:w'.heap=w.heap):KeptAt aI d p w':=by
 have c:∀i:Nat,w'.heap[i]?=w.heap[i]?:=λi=>by rw[h]
 refine⟨⟨K.sV.first.P2 (c _),λi aj=>(World.cell?_of_block (c _)).trans (K.sV.dz i aj),λi aj=>(World.cell?_of_block (c _)).trans (K.sV.rows i aj),λi aj=>(K.sV.fD i aj).P2 (c _),λak=>?_⟩,?_,K.Qe,λi aj=>?_,K.apart,K.free⟩
 .obtain⟨b,o,e,q⟩:=K.sV.free ak
  exact⟨b,o,e,q.P2 (c b)⟩
 .rw[h];exact K.first
 .rw[h];exact K.fD i aj
def KeptAt.QI{aI w w':World}{d:cR}{p:dU}{q:Nat->Nat}{k:Nat}(K:KeptAt aI (P4 d q k k 0) p w)(U:k<d.kinds)(aC:q k<d.kinds)(e:w'.heap=(w.setCell ⟨p.gv,q k,none⟩ (.int .i64 (d.first k))).heap):KeptAt aI (P4 d q (k+1) k 0) p w':=
 ((K.QM (j:=q k) aC (d.first k)).P2 e).same rfl rfl rfl rfl rfl (λj=>rfl) (λi aj j=>rfl)
def KeptAt.QJ{aI w w':World}{d:cR}{p:dU}{q:Nat->Nat}{k c:Nat}(K:KeptAt aI (P4 d q (k+1) k c) p w)(U:k<d.kinds)(aC:q k<d.kinds)(al:c<d.eY)(e:w'.heap=(w.setCell ⟨p.im c,q k,none⟩ (.int .i64 (d.fD c k))).heap):KeptAt aI (P4 d q (k+1) k (c+1)) p w':=
 ((K.QN (r:=c) (j:=q k) al aC (d.fD c k)).P2 e).same rfl rfl rfl rfl rfl (λj=>rfl) (λi aj j=>by
   show P8 q (d.fD i) (if i<c+1 then k+1 else k) j=if i=c/\j=q k then d.fD c k else P8 q (d.fD i) (if i<c then k+1 else k) j
   by_cases f:i=c
   .subst f
    rw[if_pos (Nat.lt_succ_self i)];by_cases e:j=q k
    .rw[if_pos (show i=i/\j=q k from⟨rfl,e⟩)]
     show(if j=q k then d.fD i k else P8 q (d.fD i) k j)=d.fD i k;rw[if_pos e]
    .rw[if_neg (show ¬(i=i/\j=q k)from λx=>e x.2),if_neg (Nat.lt_irrefl i)]
     show(if j=q k then d.fD i k else P8 q (d.fD i) k j)=P8 q (d.fD i) k j;rw[if_neg e]
   .rw[if_neg (show ¬(i=c/\j=q k)from λx=>f x.1)]
    have:(i<c+1)↔(i<c):=by omega
    simp only[this])
def KeptAt.QH{aI w:World}{d:cR}{p:dU}{q:Nat->Nat}{k:Nat}(K:KeptAt aI (P4 d q (k+1) k d.eY) p w):KeptAt aI (P4 d q (k+1) (k+1) 0) p w:=
 K.same rfl rfl rfl rfl rfl (λj=>rfl) (λi aj j=>by show P8 q (d.fD i) (if i<0 then k+1+1 else k+1) j=P8 q (d.fD i) (if i<d.eY then k+1 else k) j;rw[if_neg (Nat.not_lt_zero _),if_pos (show i<d.eY from aj)])
end
section
variable{A:Array Func}
def Qh(m:Nat)(f:Nat->Nat):Prop:=(∀j,j<m->f j<m)/\∀i j,i<j->j<m->f i≠f j
def Qg(f:Nat->Nat)(k m:Nat)(j:Nat):Nat:=if j=k then m else if j=m then f k else f j
def Qh.next{m k:Nat}{f:Nat->Nat}(h:Qh m f)(U:k<=m):Qh (m+1) (Qg f k m):=by
 obtain⟨I,J⟩:=h;have p:∀i j,i<m->j<m->i≠j->f i≠f j:=λi j aj aC o=>by
  rcases Nat.lt_or_gt_of_ne o with x|x
  .exact J i j x aC
  .exact Ne.symm (J j i x aj)
 refine⟨λj aC=>?_,λi j d aC=>?_⟩
 .unfold Qg
  split
  .omega
  .split
   .have:=I k (by omega);omega
   .have:=I j (by omega);omega
 .unfold Qg
  by_cases jO:j=m
  .subst jO
   have aj:=I i d;by_cases l:k=j
   .subst l
    rw[if_pos rfl,if_neg (by omega),if_neg (by omega)];omega
   .have r:=I k (by omega)
    rw[if_neg (Ne.symm l),if_pos rfl];by_cases c:i=k
    .subst c
     rw[if_pos rfl];omega
    .rw[if_neg c,if_neg (by omega)]
     exact p i k d (by omega) c
  .have g:j<m:=by omega
   have aj:=I i (by omega);have q:=I j g;rw[if_neg jO,if_neg (show ¬i=m by omega)];by_cases c:i=k
   .rw[if_pos c,if_neg (show ¬j=k by omega)];omega
   .rw[if_neg c]
    by_cases dC:j=k
    .rw[if_pos dC];omega
    .rw[if_neg dC]
     exact J i j d g
def Qp{w X:World}{row:Option Nat}{b o:Nat}{v:Value}(h:w.grownBy X row)(hb:w.heap.size<=b):w.grownBy (X.setCell ⟨b,o,none⟩ v) row:=
 ⟨h.os,h.tape,h.output,by simpa using h.size,λi aj ao=>(ft (by show i≠b;omega)).trans (h.block i aj ao)⟩
def fg.set{w:World}{T g b o:Nat}{L v:Value}(h:fg w T L g)(aZ:b≠T)(av:rC L b):fg (w.setCell ⟨b,o,none⟩ v) T L g:=by
 obtain⟨⟨s,hb,af⟩,ak⟩:=h;refine⟨⟨s,(ft (by show T≠b;exact Ne.symm aZ)).trans hb,af⟩,?_⟩;rcases ak with ak|⟨a,off,n,c,z,q1,f,i,d⟩
 .exact .inl ak
 .exact .inr ⟨a,off,n,c,z,q1,f,i,λj aC=>⟨(World.cell?_of_block (ft (by show a≠b;exact av a off n c q1 (by omega)))).trans (d j aC).1,(d j aC).2⟩⟩
def QD{w:World}{b n m k:Nat}{f:Nat->Nat}{cur:Array Value}(h:iD w b 0 n (λj=>(f j:Int)))(hb:w.heap[b]?=some (.cells cur 3))(hm:m<n)(U:k<n):
 iD ((w.setCell ⟨b,m,none⟩ (.int .i64 (f k))).setCell ⟨b,k,none⟩ (.int .i64 m)) b 0 n (λj=>(Qg f k m j:Int))/\∃c:Array Value,((w.setCell ⟨b,m,none⟩ (.int .i64 (f k))).setCell ⟨b,k,none⟩ (.int .i64 m)).heap[b]?=some (.cells c 3):=by
 have I:=(h.set hb hm (f k:Int)).set (cQ hb) U (m:Int);refine⟨λj aC=>?_,_,cQ (cQ hb)⟩;rw[I j aC];show some (Value.int .i64 (if j=k then(m:Int)else if j=m then(f k:Int)else(f j:Int)))=some (.int .i64 ((Qg f k m j:Nat):Int));unfold Qg;congr 2;split
 .rfl
 .split<;>rfl
def Qt[S:Std A](T g:Nat)(L:Value)(ae:g<1000)(n:Nat)(ak:n<=100)(w:World)(h:fg w T L g):
 Calls (ag A) 40 #[.pointer (some ⟨T,0,none⟩),.int .i64 n] w λe w'=>∃f:Nat->Nat,e=.returned (.slice (some ⟨w.heap.size,0,none⟩) n n)/\Qh n f/\iD w' w.heap.size 0 n (λj=>(f j:Int))/\w.heap.size<w'.heap.size/\fg w' T L (g+n)/\w.grownBy w' (some T):=by
 obtain⟨aw,aj,R,V,W⟩:=xj (A:=A);have ad:=Pj aj;have am:=Pj R;have ao:=Pj V;have ap:=Pj W;have aZ:=h.lt;have t1:fg (w.alloc (.cells (madeCells #[.int .i64 0] n) 3)) T L g:=h.alloc _;have av:rC L w.heap.size:=h.mr.off Pk;have Y:iD (w.alloc (.cells (madeCells #[.int .i64 0] n) 3)) w.heap.size 0 n (λj=>(((λ_=>0:Nat->Nat) j:Nat):Int)):=λj aC=>by rw[Nat.zero_add,aT (gA _ _),<-Array.getElem?_toList,toList_madeCells_one];simp[aC]
 have M:=gA w (.cells (madeCells #[.int .i64 0] n) 3);have ai:=Pj t1;have ah:=Pj Y;have Z:=Pj M;have J:=Pj av;clear aj R V W t1 Y M av h;go_enter (S.f Tryz.func40),Tryz.ntmps40;go_wp2_with (refine wpList_make_row _ rfl _ _ 22 rfl 3 aw (.int .i64 0) (ag.underlying22 A) ad.out am.out ao.out rfl .i64 .i64 n rfl rfl (by rw[ap.out];omega) (by omega) ?_)
 go_loopw [6] (λi wr=>∃(m:Nat) (f:Nat->Nat),m<=n/\i=.int .i64 m/\Qh m f/\iD wr w.heap.size 0 n (λj=>(f j:Int))/\(∃cur:Array Value,wr.heap[w.heap.size]?=some (.cells cur 3))/\fg wr T L (g+m)/\w.grownBy wr (some T)) (λi _=>n-(vy i).toNat)
 case atStart=>exact⟨0,λ_=>0,by omega,by go_num,⟨λj aC=>by omega,λi j _ aC=>by omega⟩,ah.out,⟨_,Z.out⟩,ai.out,Pn⟩
 case round=>
  obtain⟨m,f,hm,rfl,E,p,⟨cur,d⟩,q,l⟩:=hrel;by_cases aO:m<n
  .have hd:decide ((m:Int)<n)=true:=by simpa using aO
   have aq:decide (m<n)=true:=by simpa using aO
   have B:=Pj p;have H:=Pj d;have C:=Pj q;have u:=Pj l;have af:=Pj E;clear p d q l E;go_upto_region 7 with(go_at_call 20;refine(pU (A:=A) T (g+m) L (by omega) (m:Int) (by omega) wr C.out).mono ?_;rintro e G ⟨k,rfl,U,az,r⟩;have ar:k<=m:=(by omega);have F:k<n:=(by omega);have D:G.heap[w.heap.size]?=some (.cells cur 3):=(r.block _ (bp H.out) (λe=>by have:=Pm e;omega)).trans H.out;have n5:iD G w.heap.size 0 n (λj=>(f j:Int)):=B.out.keep r (λe=>by have:=Pm e;omega);have fi:=n5 k F;rw[Nat.zero_add]at fi;have c4:=n5 m aO;rw[Nat.zero_add]at c4;have z5:=b1 (o:=m) D;have K:=Pj az;have I:=Pj r;have c:=Pj D;have z:=Pj n5;clear az r D n5)
   have x:=QD z.out c.out aO F;have P:=cQ (o:=m) (v:=.int .i64 (f k)) c.out;have t6:=K.out.set (o:=m) (v:=.int .i64 (f k)) (b:=w.heap.size) (by omega) J.out;have Q:=Qp (o:=m) (v:=.int .i64 (f k)) (b:=w.heap.size) (u.out.trans I.out) Pk;have nS:=(z.out.set c.out aO (f k:Int)) k F;dsimp only at nS;rw[Nat.zero_add,ite_self]at nS;have ay:=b1 (o:=k) P;have X:=Pj x;have al:=Pj t6;have aa:=Pj Q;clear x P t6 Q c4 fi z5 c z K I;generalize G.setCell ⟨w.heap.size,m,none⟩ (.int .i64 (f k))=ax at *;go_wp2;exact⟨⟨m+1,Qg f k m,by omega,by push_cast;rfl,af.out.next ar,X.out.1,X.out.2,al.out.set (by omega) J.out,Qp aa.out Pk⟩,by show n-((m:Int)+1).toNat<n-(m:Int).toNat;omega⟩
  .have hd:decide ((m:Int)<n)=false:=by simp;omega
   have aq:decide (m<n)=false:=by simpa using aO
   obtain rfl:m=n:=by omega
   have B:=Pj p;have C:=Pj q;have u:=Pj l;have au:=bp d;clear p q l d;go_wp2;go_ret;exact⟨f,rfl,E,B.out,au,C.out,u.out⟩
end
section
variable{A:Array Func}
structure P5(P1:World)(d D:cR)(p hD:dU)(B PY a P':Nat)(q:Nat->Nat)(w:World):Prop where
 src:fy w d p
 mn:w.heap[B]?=some (.cells (cO d p) 25)
 row:iD w a P' d.kinds (λj=>(q j:Int))
 kept:KeptAt P1 D hD w
 own:w.heap[PY]?=some (.cells (cO d hD) 25)
 b4:p.below d P1.heap.size/\B<P1.heap.size/\a<P1.heap.size
 off:PY≠hD.gv/\PY≠hD.j9/\∀i,i<d.eY->PY≠hD.im i
def P5.of{P1 w w':World}{d D:cR}{p hD:dU}{B PY a c:Nat}{q:Nat->Nat}(M:P5 P1 d D p hD B PY a c q w)(e:w'.heap=w.heap):P5 P1 d D p hD B PY a c q w' where
 src:=M.src.P2 (B:=P1.heap.size) M.b4.1 λi _=>by rw[e]
 mn:=by rw[e];exact M.mn
 row:=M.row.P2 (by rw[e])
 kept:=M.kept.P2 e
 own:=by rw[e];exact M.own
 b4:=M.b4
 off:=M.off
def KeptAt.grow{aI w w':World}{d:cR}{p:dU}(K:KeptAt aI d p w)(g:w.grownBy w' none):KeptAt aI d p w':=by
 have k:∀(b:Nat) (cur:Array Value),w.heap[b]?=some (.cells cur 3)->w'.heap[b]?=some (.cells cur 3):=λb cur h=>(g.block b (bp h) (by simp)).trans h
 refine⟨K.sV.keep g,⟨K.first.1,K.first.2.1,?_⟩,K.Qe,λi aj=>?_,K.apart,K.free⟩
 .obtain⟨c,h⟩:=K.first.2.2
  exact⟨c,k _ _ h⟩
 .obtain⟨f,j,l,o,c,q⟩:=K.fD i aj
  exact⟨f,j,l,o,c,k _ _ q⟩
def P5.grow{P1 w w':World}{d D:cR}{p hD:dU}{B PY a c:Nat}{q:Nat->Nat}(M:P5 P1 d D p hD B PY a c q w)(g:w.grownBy w' none):P5 P1 d D p hD B PY a c q w' where
 src:=M.src.keep g
 mn:=(g.block _ (bp M.mn) (by simp)).trans M.mn
 row:=M.row.keep g (by simp)
 kept:=M.kept.grow g
 own:=(g.block _ (bp M.own) (by simp)).trans M.own
 b4:=M.b4
 off:=M.off
def P5.QP{P1 w w':World}{d:cR}{p hD:dU}{B PY a c:Nat}{q:Nat->Nat}{k:Nat}(M:P5 P1 d (P4 d q k k 0) p hD B PY a c q w)(U:k<d.kinds)(aC:q k<d.kinds)(e:w'.heap=(w.setCell ⟨hD.gv,hD.hj+q k,none⟩ (.int .i64 (d.first k))).heap):
 P5 P1 d (P4 d q (k+1) k 0) p hD B PY a c q w':=by
 obtain⟨f1,f2,_⟩:=M.kept.first
 rw[f2,Nat.zero_add]at e;have AY:∀i,i≠hD.gv->w'.heap[i]?=w.heap[i]?:=λi h=>by rw[e];exact ft (by show i≠hD.gv;exact h)
 obtain⟨f,g,j⟩:=M.b4;exact⟨M.src.P2 f λi aj=>AY i (by omega),(AY B (by omega)).trans M.mn,M.row.P2 (AY a (by omega)),M.kept.QI U aC e,(AY PY M.off.1).trans M.own,M.b4,M.off⟩
def P5.QQ{P1 w w':World}{d:cR}{p hD:dU}{B PY a f:Nat}{q:Nat->Nat}{k c:Nat}(M:P5 P1 d (P4 d q (k+1) k c) p hD B PY a f q w)(U:k<d.kinds)(aC:q k<d.kinds)(al:c<d.eY)(e:w'.heap=(w.setCell ⟨hD.im c,hD.sy c+q k,none⟩ (.int .i64 (d.fD c k))).heap):
 P5 P1 d (P4 d q (k+1) k (c+1)) p hD B PY a f q w':=by
 obtain⟨f1,f2,_⟩:=M.kept.fD c al;rw[f2,Nat.zero_add]at e;have AY:∀i,i≠hD.im c->w'.heap[i]?=w.heap[i]?:=λi h=>by rw[e];exact ft (by show i≠hD.im c;exact h)
 obtain⟨g,j,l⟩:=M.b4;exact⟨M.src.P2 g λi aj=>AY i (by omega),(AY B (by omega)).trans M.mn,M.row.P2 (AY a (by omega)),M.kept.QJ U aC al e,(AY PY (M.off.2.2 c al)).trans M.own,M.b4,M.off⟩
def P5.QO{P1 w:World}{d:cR}{p hD:dU}{B PY a c:Nat}{q:Nat->Nat}{k:Nat}(M:P5 P1 d (P4 d q (k+1) k d.eY) p hD B PY a c q w):P5 P1 d (P4 d q (k+1) (k+1) 0) p hD B PY a c q w:=
 ⟨M.src,M.mn,M.row,M.kept.QH,M.own,M.b4,M.off⟩
def P5.Qn{P1 w:World}{d D:cR}{p hD:dU}{B PY a:Nat}{q:Nat->Nat}{k:Nat}(M:P5 P1 d D p hD B PY a 0 q w)(U:k<d.kinds):w.cell? ⟨a,k,none⟩=some (.int .i64 (q k)):=by have:=M.row k U;rw[Nat.zero_add]at this;exact this
def P5.Qw{P1 w:World}{d:cR}{p hD:dU}{B PY a:Nat}{q:Nat->Nat}{k:Nat}(M:P5 P1 d (P4 d q k k 0) p hD B PY a 0 q w)(U:k<d.kinds):
 (w.cell? ⟨PY,1,none⟩=some (.slice (some ⟨hD.gv,hD.hj,none⟩) d.kinds hD.eT)/\w.cell? ⟨a,k,none⟩=some (.int .i64 (q k))/\w.cell? ⟨B,1,none⟩=some (.slice (some ⟨p.gv,p.hj,none⟩) d.kinds p.eT)/\w.cell? ⟨p.gv,p.hj+k,none⟩=some (.int .i64 (d.first k)))/\
  (∀o,w.frozen? ⟨hD.gv,o,none⟩=false)/\PY≠hD.gv/\a≠hD.gv/\B≠hD.gv/\p.gv≠hD.gv:=by
 obtain⟨f1,f2,c,f3⟩:=M.kept.first
 obtain⟨f,g,h⟩:=M.b4;have:=f.F;exact⟨⟨(aT M.own).trans rfl,M.Qn U,(aT M.mn).trans rfl,M.src.first k U⟩,λo=>b1 f3,M.off.1,by omega,by omega,by omega⟩
def P5.Qx{P1 w:World}{d:cR}{p hD:dU}{B PY a:Nat}{q:Nat->Nat}{k c:Nat}(M:P5 P1 d (P4 d q (k+1) k c) p hD B PY a 0 q w)(U:k<d.kinds)(al:c<d.eY):
 (w.cell? ⟨PY,2,none⟩=some (.slice (some ⟨hD.j9,hD.lg,none⟩) d.eY hD.h8)/\w.cell? ⟨hD.j9,hD.lg+c*2+1,none⟩=some (.slice (some ⟨hD.im c,hD.sy c,none⟩) d.kinds (hD.j' c))/\w.cell? ⟨a,k,none⟩=some (.int .i64 (q k))/\
  w.cell? ⟨B,2,none⟩=some (.slice (some ⟨p.j9,p.lg,none⟩) d.eY p.h8)/\w.cell? ⟨p.j9,p.lg+c*2+1,none⟩=some (.slice (some ⟨p.im c,p.sy c,none⟩) d.kinds (p.j' c))/\w.cell? ⟨p.im c,p.sy c+k,none⟩=some (.int .i64 (d.fD c k)))/\
  (∀o,w.frozen? ⟨hD.im c,o,none⟩=false)/\PY≠hD.im c/\hD.j9≠hD.im c/\a≠hD.im c/\B≠hD.im c/\p.j9≠hD.im c/\p.im c≠hD.im c:=by
 obtain⟨f1,f2,f4,f5,g,f3⟩:=M.kept.fD c al;obtain⟨f,h,i⟩:=M.b4;have:=f.R;have:=f.P c al;exact⟨⟨(aT M.own).trans rfl,M.kept.sV.rows c al,M.Qn U,(aT M.mn).trans rfl,M.src.rows c al,M.src.fD c al k U⟩,λo=>b1 f3,M.off.2.2 c al,Ne.symm f5,by omega,by omega,by omega,by omega⟩
def P5.Qo{P1 w:World}{d:cR}{p hD:dU}{B PY a:Nat}{q:Nat->Nat}{k:Nat}(M:P5 P1 d (P4 d q d.kinds d.kinds 0) p hD B PY a 0 q w)(U:k<d.kinds):
 w.cell? ⟨PY,0,none⟩=some (.int .i64 d.kinds)/\w.cell? ⟨PY,1,none⟩=some (.slice (some ⟨hD.gv,hD.hj,none⟩) d.kinds hD.eT)/\w.cell? ⟨PY,2,none⟩=some (.slice (some ⟨hD.j9,hD.lg,none⟩) d.eY hD.h8)/\w.cell? ⟨PY,3,none⟩=some (.slice hD.hE d.fC hD.h9)/\w.cell? ⟨a,k,none⟩=some (.int .i64 (q k)):=
 ⟨(aT M.own).trans rfl,(aT M.own).trans rfl,(aT M.own).trans rfl,(aT M.own).trans rfl,M.Qn U⟩
end
end Go.aN
