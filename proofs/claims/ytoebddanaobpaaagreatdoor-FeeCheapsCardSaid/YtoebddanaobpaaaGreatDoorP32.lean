/- A part. -/
import Derived.Test.YtoebddanaobpaaaGreatDoorP31
import Derived.Deep.Cut
import Derived.Deep.CutRange
set_option maxHeartbeats 8000000
set_option maxRecDepth 100000
set_option linter.all false
namespace Go.aO
open Go.Proofs Tryz Go.RowKit
variable{B c cG n o:Nat}{X w wr:S7}{v:S9}{f:Ty}
section
variable{A:TJ}
def SY[S:Std A](L:S9)(w:S7)(h:ly w L w.heap.size)(f:L.oneCell'=true):
 Calls (ao A) 6 #[L] w λe w'=>e=.returned (Tj w.heap.size)/\fS w' w.heap.size L 0/\w.grownBy w' none:=by
 have d:=al h;rcases h with⟨q,rfl⟩|⟨b,off,n,c,z,rfl,_,_,_⟩
 all_goals (
  go_enter (S.f func6),ntmps6;go_wp2;go_ret;exact⟨S6,⟨⟨_,fM _ _,U,U⟩,d.out.keep bT⟩,bT⟩)
def MC(m:0<n)(h:w.ownsRow B 3 1 v n ((List.range n).map λj=>gi (f j))):∃g cap cur,v=Ts g n cap/\B<=g/\w.heap[g]?=some (.cells cur 3)/\gn w g 0 n f:=by
 obtain⟨g,cap,cur,rfl,i,_,c,l⟩:=xj h m;refine⟨g,cap,cur,S6,i,c,λj d=>?_⟩;rw[aU c,Nat.zero_add,<-Ue];have e:(cur.toList.take n)[j]?=some (gi (f j)):=by rw[l];simp[d]
 rw[List.getElem?_take,Tq d]at e;exact e
def Od(b:Nat)(q:TV)(c:Nat)(w:S7):Sem.run (ao A) (Builtin.append_ #[22,22] 22 #[Ts b 0 0,.slice q 0 c]) w=.ok (Ts b 0 0) w:=by cases q<;>kernel_rfl
def Sr{ops:Tv Oper}{Tp:Tb Oper}{o:Oper}{a:Act}{Q:Exit->Act->S7->Prop}(f:o.guard=none)(s x:Operand)(g:o.op=.call {callee:=.builtin .append,args:=#[s,x],argTypes:=#[22,22]})(j:o.type=22)(b:Nat)(q:TV)(c:Nat)(i:a.eval s=Ts b 0 0)(l:a.eval x=.slice q 0 c)(h:wpList (ao A) ops Q Tp (a.put o.dst (Ts b 0 0)) w):
 wpList (ao A) ops Q (o::Tp) a w:=by
 refine wpList_plain f λK d=>?_
 unfold Oper.wp execOp;simp only[g,j,resolve,invoke,builtin,Sem.run_bind,Sem.run_pure,Result.andThen_ok,List.map_toArray,List.map_cons,List.map_nil,i,l,Od];exact d _ _ h
def wP[S:Std A](q:TV)(n c:Nat)(f:Ty)(Y:n<=100)(w:S7)(h:n≠0->∃b o,q=some (S8 b o)/\gn w b o n f):
 Calls (ao A) 27 #[.slice q n c] w λe w'=>∃p:Nat,(∃bp:Nat,e=.returned (Ts p n bp))/\w.heap.size<=p/\(∃cur:Te,w'.heap[p]?=some (.cells cur 3))/\gn w' p 0 n f/\w.grownBy w' none:=by
 let⟨W,m,y,z,B⟩:=wL (A:=A);by_cases C:n=0
 .subst C
  clear h m y z B;go_enter (S.f func27),ntmps27;go_wp2_with (at_builtin;refine Sr S6 _ _ S6 S6 w.heap.size q c S6 S6 ?_)
  go_ret;exact⟨w.heap.size,⟨0,S6⟩,bg,⟨#[],fM _ _⟩,λj d=>U,bT⟩
 .obtain⟨b,o,rfl,r⟩:=h C
  have K:=al r;have G:=al m;have L:=al y;have M:=al z;have P:=al B;have H:=al (lD (r 0 U));have F:(w.alloc (.cells #[] 3)).ownsRow w.heap.size 3 1 (Ts w.heap.size 0 0) 0 []:=⟨S6,.inr ⟨w.heap.size,0,#[],S6,bg,fM _ _,bg,kj,S6,S6⟩⟩
  have Q:=al F;clear m y z B F r h;go_enter (S.f func27),ntmps27;have I:=al (show ∀(j:Nat) u,((List.range n).map λj=>gi (f j))[j]?=some u->(w.alloc (.cells #[] 3)).cell? (((S8 b o):TD).add j)=some u from λj u d=>by
   have D:j<n/\gi (f j)=u:=by
    rw[List.getElem?_map]at d;rcases Ub j n with x|x
    .rw[List.getElem?_range x]at d
     exact⟨x,by simpa using d⟩
    .rw[List.getElem?_eq_none (by simpa using x)]at d
     cases d
   have:=K.out j D.1;rw[show(((S8 b o):TD).add j)=(S8 b (o+j)) by simp[Addr.add]];rw[<-D.2];exact(hD _ _ _ H.out).trans this)
  have J:=al (show ∀u∈(List.range n).map (λj=>gi (f j)),u.oneCell'=true from λu hu=>by obtain⟨n,_,rfl⟩:=List.mem_map.1 hu;rfl)
  go_wp2_with (at_builtin;refine wpList_append_own_at _ S6 _ _ 22 S6 w.heap.size 3 W (ah 0) 1 8 (ao.underlying22 A) G.out L.out M.out P.out S6 a6 _ 0 _ S6 Q.out (S8 b o) n c ((List.range n).map λj=>gi (f j)) S6 aF I.out J.out kj U aF ?_;intro aa ad E l Z X)
  go_ret;rw[Nat.zero_add,List.nil_append]at E;obtain⟨g,cap,cur,rfl,V,T,R⟩:=MC U E;refine⟨g,⟨cap,S6⟩,V,⟨cur,T⟩,R,?_⟩;refine⟨l.os,l.tape,l.output,cL aF l.size,λi m _=>(l.block i cH (λe=>?_)).trans (dm m)⟩;have e:some i=some w.heap.size:=e;have:=bD e;omega
def gn.lK{w':S7}{b:Nat}(h:gn w b o n f)(k:w'.heap[b]?=w.heap[b]?):gn w' b o n f:=λj c=>(World.cell?_of_block k).trans (h j c)
def xz(d:dw)(i b c:Nat):TP:=[ah (d.bV i),Ts b (d.eP i) c]
def iR(d:dw)(dj cq:T2):Nat->TP
 | 0=>[]
 |m+1=>iR d dj cq m++xz d m (dj m) (cq m)
def Aw(d:dw)(dj cq:T2):∀m,(iR d dj cq m).length=m*2
 | 0=>rfl
 |m+1=>by simp only[iR,Ug,Aw d dj cq m,xz,List.length_cons,List.length_nil];omega
def Fg(d:dw){dj cq c f:T2}:∀m,(∀i,i<m->dj i=c i/\cq i=f i)->iR d dj cq m=iR d c f m
 | 0,_=>rfl
 |m+1,h=>by simp only[iR];rw[Fg d m λi g=>h i U,(h m U).1,(h m U).2]
def xy(d:dw)(dj cq:T2):∀m i,i<m->(iR d dj cq m)[i*2]?=Tn (d.bV i)/\(iR d dj cq m)[i*2+1]?=some (Ts (dj i) (d.eP i) (cq i))
 | 0,_,h=>U
 |m+1,i,h=>by
  simp only[iR];have f:=Aw d dj cq m;by_cases c:i<m
  .have:=xy d dj cq m i c
   rw[jz U,jz U];exact this
  .obtain rfl:i=m:=U
   rw[jb U,jb U,f,Nat.sub_self,Nat.add_sub_cancel_left];exact⟨S6,S6⟩
def uN(K:Int)(c d f:S9):Te:=#[ah K,c,d,f]
structure mZ(jj B:Nat)(d:dw)(p:gz)(bB cG fa cA fU dc:Nat)(dj cq:T2)(m:Nat)(dH:S9)(w:S7):Prop where
 k5:w.heap[bB]?=some (.cells (eB d p) 25)
 blk:w.heap[cG]?=some (.cells (uN d.kinds (Ts fa d.c' cA) dH (Ts fU d.b' dc)) 25)
 own:w.ownsRow B 27 2 dH m (iR d dj cq m)
 cQ:∀i,i<m->gn w (dj i) 0 (d.eP i) (d.cQ i)/\(∃cur:Te,w.heap[dj i]?=some (.cells cur 3))/\B<=dj i/\dH.ownBlock≠some (dj i)
 qK:∀i j,i<j->j<m->dj i<dj j
 first:gn w fa 0 d.c' d.first/\∃cur:Te,w.heap[fa]?=some (.cells cur 3)
 free:gn w fU 0 d.b' d.free
 bY:jj<=bB/\jj<=cG/\jj<=fa/\jj<=fU/\bB<B/\cG<B/\fa<B/\fU<B/\bB≠cG/\cG≠fa/\cG≠fU/\fa≠fU
 dD:B<=w.heap.size
def mZ.next{G:Nat}{d:dw}{p:gz}{I D cA H dc:Nat}{dj cq:T2}{m:Nat}{u:S9}(bn:mZ G B d p I cG D cA H dc dj cq m u wr){l n:S7}{o:Obj}{E g cap:Nat}(J:wr.drew.grownBy l none)(ap:wr.heap.size<=c)(S:∃cur:Te,l.heap[c]?=some (.cells cur 3))(ah:gn l c 0 (d.eP m) (d.cQ m))(w:(l.alloc o).grownBy n u.ownBlock)(ai:u.ownBlock=some g\/g=l.heap.size+1)(am:n.ownsRow B 27 2 (Ts g (m+1) cap) (m+1) (iR d dj cq m++xz d m c E)):
 mZ G B d p I cG D cA H dc (λi=>if i=m then c else dj i) (λi=>if i=m then E else cq i) (m+1) (Ts g (m+1) cap) (n.setCell (S8 cG 2) (Ts g (m+1) cap))/\
  (∀X:S7,X.heap.size<=G->X.grownBy wr none->X.grownBy (n.setCell (S8 cG 2) (Ts g (m+1) cap)) none)/\∀i,i<B->i≠cG->(n.setCell (S8 cG 2) (Ts g (m+1) cap)).heap[i]?=wr.heap[i]?:=by
 let⟨ar,ax,ay,az,aj,aA,Z,ak,al,au,av,aw⟩:=bn.bY;have K:∀r,u.ownBlock=some r->B<=r/\r<wr.heap.size:=λr e=>rh bn.own r e
 have z:=bn.dD;have aB:wr.heap.size<=l.heap.size:=J.size;have ao:=w.size;simp at ao;have Y:∀i,i<wr.heap.size->l.heap[i]?=wr.heap[i]?:=λi y=>J.block i y aF
 have L:∀i,i<l.heap.size->u.ownBlock≠some i->n.heap[i]?=l.heap[i]?:=λi q f=>(w.block i cH (λe=>f e.symm)).trans (dm q)
 have M:∀i,i≠cG->(n.setCell (S8 cG 2) (Ts g (m+1) cap)).heap[i]?=n.heap[i]?:=λi h=>e1 (by show i≠cG;exact h)
 have keep:∀i,i<wr.heap.size->i≠cG->u.ownBlock≠some i->(n.setCell (S8 cG 2) (Ts g (m+1) cap)).heap[i]?=wr.heap[i]?:=λi q f ag=>(M i f).trans ((L i U ag).trans (Y i q))
 have low:∀i,i<B->i≠cG->(n.setCell (S8 cG 2) (Ts g (m+1) cap)).heap[i]?=wr.heap[i]?:=λi q f=>keep i U f λe=>by have:=(K i e).1;omega
 have Q:c<l.heap.size:=by obtain⟨cur,h⟩:=S;exact bu h
 have R:u.ownBlock≠some c:=λe=>by have:=(K c e).2;omega
 have af:n.heap[cG]?=_:=((L cG U (λe=>by have:=(K cG e).1;omega)).trans (Y cG U)).trans bn.blk;have T:∀i,i<l.heap.size->u.ownBlock≠some i->(some g:TN)≠some i:=λi q f e=>by
  have e:=bD e;subst e;rcases ai with h|h
  .exact f h
  .omega
 refine⟨⟨(low I aj al).trans bn.k5,cU af,?_,λi y=>?_,λi j q f=>?_,⟨bn.first.1.lK (low D Z U),?_⟩,bn.free.lK (low H ak U),bn.bY,cH⟩,λX aq W=>?_,low⟩
 .have e:iR d (λi=>if i=m then c else dj i) (λi=>if i=m then E else cq i) (m+1)=iR d dj cq m++xz d m c E:=by simp only[iR,if_true];rw[Fg d m λi y=>⟨Tm U,Tm U⟩]
  rw[e];exact j4 am λi q f=>M i U
 .by_cases hm:i=m
  .subst hm
   simp only[if_true];have f:(n.setCell (S8 cG 2) (Ts g (i+1) cap)).heap[c]?=l.heap[c]?:=(M c U).trans (L c Q R);exact⟨ah.lK f,by obtain⟨cur,h⟩:=S;exact⟨cur,f.trans h⟩,U,T c Q R⟩
  .simp only[Tm hm]
   let⟨q1,⟨cur,F⟩,aa,P⟩:=bn.cQ i U;have ad:=bu F;have f:=keep (dj i) ad U P;exact⟨q1.lK f,⟨cur,f.trans F⟩,aa,T _ U P⟩
 .by_cases V:j=m
  .subst V
   simp only[if_true,Tm (show i≠j by omega)];let⟨q1,⟨cur,F⟩,aa,P⟩:=bn.cQ i q;have ad:=bu F;omega
  .simp only[Tm V,Tm (show i≠m by omega)]
   exact bn.qK i j q U
 .let⟨cur,h⟩:=bn.first.2
  exact⟨cur,(low D Z U).trans h⟩
 .have ae:X.grownBy wr.drew none:=gv W
  have C:=(ae.trans J).trans (dU _ o none);refine⟨?_,?_,?_,?_,λi y _=>?_⟩
  .exact w.os.trans C.os
  .exact w.tape.trans C.tape
  .exact w.output.trans C.output
  .have:=C.size;simp at this ⊢;omega
  .exact(low i U U).trans (W.block i y aF)
abbrev rL:Te:=#[ah 0,.slice none 0 0,.slice none 0 0,.slice none 0 0]
def mZ.begin{W:S7}{d:dw}{p:gz}{cA f dc:Nat}{dj cq:T2}(k5:X.heap[w.heap.size]?=some (.cells (eB d p) 25))(m:X.heap[w.heap.size+1]?=some (.cells rL 25))(g:w.grownBy X none)(hF:gn X c 0 d.c' d.first)(r:∃cur:Te,X.heap[c]?=some (.cells cur 3))(u:gn X f 0 d.b' d.free)(bY:w.heap.size+1<cG/\w.heap.size+1<c/\w.heap.size+1<f/\cG<W.heap.size/\c<X.heap.size/\f<X.heap.size/\cG≠c/\cG≠f/\c≠f)(q:W.heap[cG]?=some (.cells (uN d.kinds (Ts c d.c' cA) (.slice none 0 0) (Ts f d.b' dc)) 25))(k:∀i,i<X.heap.size->i≠cG->W.heap[i]?=X.heap[i]?)(D:X.heap.size<=W.heap.size)(l:W.os=X.os/\W.tape=X.tape/\W.output=X.output):
 mZ w.heap.size W.heap.size d p w.heap.size cG c cA f dc dj cq 0 (.slice none 0 0) W/\w.grownBy W none/\W.heap[w.heap.size+1]?=some (.cells rL 25)/\(w.heap.size+1≠c/\w.heap.size+1≠f/\w.heap.size+1≠cG/\w.heap.size+1<W.heap.size):=by
 obtain⟨E,F,G,H,o,z,I,J,K⟩:=bY;have C:=g.size;refine⟨⟨(k _ U U).trans k5,q,⟨S6,.inl ⟨S6,S6⟩⟩,λi n=>U,λi j B m=>U,⟨hF.lK (k c o U),?_⟩,u.lK (k f z U),U,bg⟩,⟨l.1.trans g.os,l.2.1.trans g.tape,l.2.2.trans g.output,U,λi n y=>(k i U U).trans (g.block i n y)⟩,(k _ U U).trans m,U⟩;obtain⟨cur,h⟩:=r;exact⟨cur,(k c o U).trans h⟩
def q0{b:Nat}{v0 v1 v2 v3:S9}{c:Te}(h:X.heap[b]?=some (.cells c 25)):((((X.setCell (Ti b) v0).setCell (S8 b 1) v1).setCell (S8 b 2) v2).setCell (S8 b 3) v3).heap[b]?=some (.cells ((((c.setIfInBounds 0 v0).setIfInBounds 1 v1).setIfInBounds 2 v2).setIfInBounds 3 v3) 25)/\
 ∀i,i≠b->((((X.setCell (Ti b) v0).setCell (S8 b 1) v1).setCell (S8 b 2) v2).setCell (S8 b 3) v3).heap[i]?=X.heap[i]?:=
 ⟨cU (cU (cU (cU h))),λi h=>(e1 (by show i≠b;exact h)).trans ((e1 (by show i≠b;exact h)).trans ((e1 (by show i≠b;exact h)).trans (e1 (by show i≠b;exact h))))⟩
structure qx(w:S7)(d:dw)(p:gz)(w':S7):Prop where
 raw:iZ w' d p
 own:w'.ownsRow w.heap.size 27 2 (.slice p.hH d.bk p.dq) d.bk (iR d (λi=>((p.fh i).map (·.block)).getD 0) p.cq d.bk)
 plain:(∃b,p.eh=some (Ti b)/\w.heap.size<=b/\(Value.slice p.hH d.bk p.dq).ownBlock≠some b)/\(∃b,p.ei=some (Ti b)/\w.heap.size<=b/\(Value.slice p.hH d.bk p.dq).ownBlock≠some b)/\∀i,i<d.bk->∃b,p.fh i=some (Ti b)/\w.heap.size<=b/\(Value.slice p.hH d.bk p.dq).ownBlock≠some b
def mZ.done{n:S7}{d:dw}{p:gz}{z j cA l dc:Nat}{m:TV}{dq:Nat}{dj cq:T2}(bn:mZ w.heap.size B d p z cG j cA l dc dj cq d.bk (.slice m d.bk dq) wr)(J:w.heap.size+1≠j/\w.heap.size+1≠l/\w.heap.size+1≠cG/\w.heap.size+1<B)(k:∀i,i≠w.heap.size+1->n.heap[i]?=wr.heap[i]?):
 qx w d ⟨some (Ti j),cA,m,dq,λi=>some (Ti (dj i)),cq,some (Ti l),dc⟩ n:=by
 let⟨K,Q,F,G,R,S,T,V,W,L,M,P⟩:=bn.bY;have own:n.ownsRow B 27 2 (.slice m d.bk dq) d.bk (iR d dj cq d.bk):=j4 bn.own λg H _=>k g U
 have y:∀r,(Value.slice m d.bk dq).ownBlock=some r->B<=r:=λr e=>(rh bn.own r e).1
 have E:∀i,i<d.bk->gn n (dj i) 0 (d.eP i) (d.cQ i):=λi f=>(bn.cQ i f).1.lK (k _ (by have:=(bn.cQ i f).2.2.1;omega))
 refine⟨⟨λ_=>⟨j,0,S6,bn.first.1.lK (k j U)⟩,λD=>?_,λi f _=>⟨dj i,0,S6,E i f⟩,λ_=>⟨l,0,S6,bn.free.lK (k l U)⟩⟩,?_,⟨j,S6,F,λe=>by have:=y _ e;omega⟩,⟨l,S6,G,λe=>by have:=y _ e;omega⟩,λi f=>⟨dj i,S6,by have:=(bn.cQ i f).2.2.1;omega,(bn.cQ i f).2.2.2⟩⟩
 .let⟨Tk,c,cur,e,_,o,q⟩:=xk own D
  cases e;refine⟨Tk,0,S6,λi f=>⟨nQ o q (xy d dj cq d.bk i f).1,?_⟩⟩;rw[Ul];exact nQ o q (xy d dj cq d.bk i f).2
 .obtain⟨u,h|⟨g,c,cur,C,I,h⟩⟩:=own
  .exact⟨u,.inl h⟩
  .exact⟨u,.inr ⟨g,c,cur,C,U,h⟩⟩
def M7{d:Nat}{e:Tg}{xs:TP}(h:w.ownsRow B e d v n xs):∃q c,v=.slice q n c:=by
 obtain⟨f,⟨rfl,rfl⟩|⟨b,c,cur,rfl,_⟩⟩:=h
 .exact⟨none,0,S6⟩
 .exact⟨_,_,S6⟩
def oU(w:S7){a b:Nat}(h:a≠b)(v0 v1 v2 v3:S9):((((w.setCell (Ti b) v0).setCell (S8 b 1) v1).setCell (S8 b 2) v2).setCell (S8 b 3) v3).cell? (S8 a o)=w.cell? (S8 a o):=
 (pL _ h).trans ((pL _ h).trans ((pL _ h).trans (pL _ h)))
def Le[S:Std A](d:dw)(aY:d.small)(p:gz)(w:S7)(h:iZ w d p):
 Calls (ao A) 8 #[.agg (eB d p)] w λe w'=>∃ia:gz,e=.returned (.agg (eB d ia))/\qx w d ia w'/\w.grownBy w' none:=by
 have cg:=aY.F;have cj:=aY.h4;have a8:=al aY;have H:=al h;obtain⟨c,aa⟩:∃c,(w.alloc (.cells (eB d p) 25)).alloc (.cells #[ah 0,.slice none 0 0,.slice none 0 0,.slice none 0 0] 25)=c:=⟨_,S6⟩
 have aP:w.grownBy c none:=by rw[<-aa];exact bT.trans bT
 have aK:c.heap.size=w.heap.size+2:=by rw[<-aa];simp
 have ak:c.heap[w.heap.size]?=some (.cells (eB d p) 25):=by rw[<-aa];exact(dm aF).trans (fM _ _)
 have bb:c.heap[w.heap.size+1]?=some (.cells rL 25):=by rw[<-aa,show w.heap.size+1=(w.alloc (.cells (eB d p) 25)).heap.size by simp];exact fM _ _
 have a5:=al bb;clear bb;have t1:=h.keep aP;have bx:=aU (o:=0) ak;have Y:=aU (o:=1) ak;have c3:=aU (o:=3) ak;have a7:=al aP;have aB:=al aK;have a4:=al ak;have aj:=al t1;have L:=al aa;clear aP aK ak t1 aa h;go_enter (S.f func8),ntmps8;go_upto_region 1 with fail
 have aQ:=L.out;dsimp only[eB]at aQ;rw[aQ];clear aQ;have bx:c.cell? (Ti w.heap.size)=Tn d.kinds:=bx.trans S6;have Y:c.cell? (S8 w.heap.size 1)=some (.slice p.eh d.c' p.cA):=Y.trans S6;have c3:c.cell? (S8 w.heap.size 3)=some (.slice p.ei d.b' p.dc):=c3.trans S6;have cr:c.grownBy c.drew none:=gv (e6 _ _);have a3:=al cr;have ay:=al (show ∀(W:S7) (o:Obj),c.grownBy W none->(W.alloc o).cell? (Ti w.heap.size)=Tn d.kinds/\(W.alloc o).cell? (S8 w.heap.size 1)=some (.slice p.eh d.c' p.cA)/\(W.alloc o).cell? (S8 w.heap.size 3)=some (.slice p.ei d.b' p.dc)from λW o g=>by have ae:=g.trans (dU W o none);exact⟨ae.cell bx aF,ae.cell Y aF,ae.cell c3 aF⟩)
 have ad:=al (show ∀o:Obj,c.grownBy (c.alloc o).drew none from λo=>gv bT);have a1:=al (show ∀o:Obj,(c.alloc o).drew.cell? (Ti w.heap.size)=Tn d.kinds/\(c.alloc o).drew.cell? (S8 w.heap.size 1)=some (.slice p.eh d.c' p.cA)/\(c.alloc o).drew.cell? (S8 w.heap.size 3)=some (.slice p.ei d.b' p.dc)from λo=>⟨(ad.out o).cell bx aF,(ad.out o).cell Y aF,(ad.out o).cell c3 aF⟩);have bd:c.drew.cell? (Ti w.heap.size)=Tn d.kinds:=bx;have bf:c.drew.cell? (S8 w.heap.size 1)=some (.slice p.eh d.c' p.cA):=Y;have bh:c.drew.cell? (S8 w.heap.size 3)=some (.slice p.ei d.b' p.dc):=c3;clear cr;go_region_held3 (λW=>W.cell? (Ti w.heap.size)=Tn d.kinds/\W.cell? (S8 w.heap.size 1)=some (.slice p.eh d.c' p.cA)/\W.cell? (S8 w.heap.size 3)=some (.slice p.ei d.b' p.dc))
  (first|with_reducible exact⟨bd,bf,bh⟩|with_reducible exact a1.out _|with_reducible exact⟨bz,bA,bB⟩|with_reducible exact ay.out _ _ D.out|with_reducible exact⟨cT,au,aw⟩|with_reducible exact ay.out _ _ (D.out.trans M.out)|with_reducible exact⟨(oU j aT _ _ _ _).trans cT,(oU j aT _ _ _ _).trans au,(oU j aT _ _ _ _).trans aw⟩|with_reducible exact⟨(oU j aV _ _ _ _).trans cT,(oU j aV _ _ _ _).trans au,(oU j aV _ _ _ _).trans aw⟩|(have q:=ay.out _ (.cells #[ah 0,.slice none 0 0,.slice none 0 0,.slice none 0 0] 25) (D.out.trans M.out);with_reducible exact⟨(oU _ aW _ _ _ _).trans q.1,(oU _ aW _ _ _ _).trans q.2.1,(oU _ aW _ _ _ _).trans q.2.2⟩))
  (first
  |(go_at_call 27;refine(wP (A:=A) p.eh d.c' p.cA d.first U _ (by first|exact(aj.out.keep a3.out).first|exact(aj.out.keep (ad.out _)).first)).mono ?_;rintro e w3 ⟨F,⟨cA,rfl⟩,am,af,ap,f⟩;have P:c.grownBy w3 none:=(by first|exact a3.out.trans f|exact(ad.out _).trans f);have bz:=P.cell bx aF;have bA:=P.cell Y aF;have bB:=P.cell c3 aF;(try (have bG:=(f.block c.heap.size (by show c.heap.size<(c.alloc _).heap.size;simp) aF).trans (fM c _)));have D:=al P;have a6:=al (Ud am (Ud af ap));clear f P am af ap)
  |(go_at_call 27;refine(wP (A:=A) p.ei d.b' p.dc d.free U _ (by first|exact(aj.out.keep D.out).free|exact(aj.out.keep (D.out.trans bT)).free)).mono ?_;rintro e j ⟨J,⟨dc,rfl⟩,aq,ar,Z,f⟩;have Q:w3.grownBy j none:=(by first|exact f|exact bT.trans f);have cT:=Q.cell bz aF;have au:=Q.cell bA aF;have aw:=Q.cell bB aF;(try (have C:=(f.block c.heap.size (bu bG) aF).trans bG));(try (have C:=(f.block w3.heap.size aF aF).trans (fM w3 _)));have M:=al Q;have a9:=al (Ud aq (Ud ar Z));(try (have b7:=aU (o:=0) C));(try (have z0:=b3 (o:=0) C));(try (have b8:=aU (o:=1) C));(try (have aK:=b3 (o:=1) C));(try (have b9:=aU (o:=2) C));(try (have cb:=b3 (o:=2) C));(try (have ca:=aU (o:=3) C));(try (have z3:=b3 (o:=3) C));have aT:w.heap.size≠c.heap.size:=(by have:=aB.out;omega);have aV:w.heap.size≠w3.heap.size:=(by have:=aB.out;have:=D.out.size;omega);have aW:w.heap.size≠j.heap.size:=(by have:=aB.out;have:=D.out.size;have:=M.out.size;omega);(try (have aC:=al C;clear C));clear f Q aq ar Z))
 all_goals (
  have aa:=aB.out;have aE:=D.out.trans M.out;have b4:=D.out.size;have b5:=M.out.size;let⟨am,⟨bU,af⟩,ap⟩:=a6.out;let⟨aq,⟨cc,ar⟩,Z⟩:=a9.out;have bC:=bu af;have b0:=bu ar;have aH:j.heap[w.heap.size]?=some (.cells (eB d p) 25):=(aE.block _ U aF).trans a4.out;have aJ:=ap.keep M.out aF;have aD:j.heap[F]?=some (.cells bU 3):=(M.out.block _ bC aF).trans af;have ax:j.heap[w.heap.size+1]?=some (.cells rL 25):=(aE.block _ U aF).trans a5.out;have az:=a7.out.trans aE;have V:=al (Ud am aq);clear am aq)
 focus (
  have n:=mZ.begin (cG:=j.heap.size) (cA:=cA) (dc:=dc) (dj:=λ_=>0) (cq:=λ_=>0) aH ax az aJ ⟨_,aD⟩ Z (by let⟨I,y⟩:=V.out;have I:c.heap.size<=F:=I;have y:w3.heap.size<=J:=y;simp only[cV];omega) (fM j (.cells (uN d.kinds (Ts F d.c' cA) (.slice none 0 0) (Ts J d.b' dc)) 25)) (λi h _=>dm h) aF ⟨S6,S6,S6⟩;unfold uN at n;generalize hW:j.alloc _=aZ at n ⊢;generalize aR:j.heap.size=cG at n ⊢)
 rotate_left
 focus (
  have n:=mZ.begin (cG:=w3.heap.size) (cA:=cA) (dc:=dc) (dj:=λ_=>0) (cq:=λ_=>0) aH ax az aJ ⟨_,aD⟩ Z (by let⟨I,y⟩:=V.out;have I:c.heap.size<=F:=I;have y:(w3.alloc (.cells rL 25)).heap.size<=J:=y;simp only[cV]at y;simp only[World.size_setCell];omega) (q0 aC.out).1 (λi _ h=>(q0 aC.out).2 i h) (by simp only[World.size_setCell];omega) ⟨S6,S6,S6⟩;generalize hW:World.setCell (World.setCell (World.setCell (World.setCell j (Ti w3.heap.size) _) _ _) _ _) _ _=aZ at n ⊢;generalize aR:w3.heap.size=cG at n ⊢)
 rotate_left
 focus (
  have n:=mZ.begin (cG:=c.heap.size) (cA:=cA) (dc:=dc) (dj:=λ_=>0) (cq:=λ_=>0) aH ax az aJ ⟨_,aD⟩ Z (by let⟨I,y⟩:=V.out;have I:(c.alloc (.cells rL 25)).heap.size<=F:=I;have y:w3.heap.size<=J:=y;simp only[cV]at I;simp only[World.size_setCell];omega) (q0 aC.out).1 (λi _ h=>(q0 aC.out).2 i h) (by simp only[World.size_setCell];omega) ⟨S6,S6,S6⟩;generalize hW:World.setCell (World.setCell (World.setCell (World.setCell j (Ti c.heap.size) _) _ _) _ _) _ _=aZ at n ⊢;generalize aR:c.heap.size=cG at n ⊢)
 rotate_left
 all_goals (
  obtain⟨n,a2,a0,aS⟩:=n;clear hW aR D M a6 a9 V b4 b5 af ap ar Z bC b0 aH aJ aD ax az aE;clear bx Y c3 bd bf bh ad a1 ay a4 aj L a5 a7;obtain⟨B,bk⟩:∃B,B=aZ.heap.size:=⟨_,S6⟩
  rw[<-bk]at n aS;let⟨bZ,bq,bt,bv,bw⟩:=zz (A:=A);have bM:=al bq;have bQ:=al bt;have bR:=al bv;have bS:=al bw;have bN:=al n;have bK:=al a2;have bJ:=al a0;have aM:=al aS;have ci:=a8.out.R;clear bq bt bv bw bk n a2 a0 aS;go_wp2;go_loopw [4] (λi wr=>∃(m:Nat) (dj cq:T2) (z:S9),m<=d.bk/\i=ah m/\mZ w.heap.size B d p w.heap.size cG F cA J dc dj cq m z wr/\w.grownBy wr none/\wr.heap[w.heap.size+1]?=some (.cells rL 25)) (λi _=>d.bk-(TH i).toNat)
  case atStart=>exact⟨0,_,_,_,U,by go_num,bN.out,bK.out,bJ.out⟩
  case round=>
   obtain⟨m,dj,cq,z,hm,rfl,bn,G,E⟩:=hrel;have bF:wr.cell? (S8 w.heap.size 2)=some (.slice p.hH d.bk p.dq):=(aU (o:=2) bn.k5).trans S6;by_cases R:m<d.bk
   .have hd:decide ((m:Int)<d.bk)=true:=by simpa using R
    have bV:decide (m<d.bk)=true:=by simpa using R
    let⟨u,K,bi,aG⟩:=H.out.kM U;have cl:u<w.heap.size:=lD (aG m R).1;have r1:=G.cell (aG m R).1 aF;have b2:=G.cell (aG m R).2 aF;have bP:=al ((H.out.keep G).cQ m R);have ch:=a8.out.P m R;rw[bi]at bF;clear aG bi;have v3:wr.cell? (S8 cG 2)=some z:=(aU (o:=2) bn.blk).trans S6;have bH:=al (show wr.grownBy wr.drew none from gv (e6 _ _));have d2:wr.drew.cell? (S8 w.heap.size 2)=some (TW u K d.bk p.dq):=bF;have d3:wr.drew.cell? (S8 u (K+m*2))=Tn (d.bV m):=r1;have d4:wr.drew.cell? (S8 u (K+m*2+1))=some (.slice (p.fh m) (d.eP m) (p.cq m)):=b2;have aI:∀r,z.ownBlock=some r->B<=r/\r<wr.heap.size:=λr e=>rh bn.own r e
    have bY:=bn.bY;have au:(some w.heap.size:TN)≠z.ownBlock:=λe=>by have:=(aI _ e.symm).1;omega
    have bE:(some u:TN)≠z.ownBlock:=λe=>by have:=(aI _ e.symm).1;omega
    have aw:(some cG:TN)≠z.ownBlock:=λe=>by have:=(aI _ e.symm).1;omega
    have b1:w.heap.size≠cG:=U;have bD:u≠cG:=U;have cf:=bn.dD;have ck:cG<B:=U;have ai:=al bn;have T:=al G;have L:=al E;clear bn G E aI bY;go_wp2;simp only[wV 23 (.tmp 21)];have cm:=wW;go_region_held3 (λW=>W.cell? (S8 w.heap.size 2)=some (TW u K d.bk p.dq)/\W.cell? (S8 u (K+m*2))=Tn (d.bV m)/\W.cell? (S8 u (K+m*2+1))=some (.slice (p.fh m) (d.eP m) (p.cq m)))
     (first|with_reducible exact⟨d2,d3,d4⟩|with_reducible exact⟨f2,f3,f4⟩|with_reducible exact aA.out _|with_reducible exact⟨ae,P,Q⟩|with_reducible exact⟨(pL _ b1).trans ae,(pL _ bD).trans P,(pL _ bD).trans Q⟩)
     (first
     |(go_at_call 27;refine(wP (A:=A) (p.fh m) (d.eP m) (p.cq m) (d.cQ m) U _ (bP.out.keep bH.out)).mono ?_;rintro e l ⟨ba,⟨bc,rfl⟩,bl,bm,bo,f⟩;have f2:=f.cell d2 aF;have f3:=f.cell d3 aF;have f4:=f.cell d4 aF;have v5:l.cell? (S8 cG 2)=some z:=f.cell (a:=(S8 cG 2)) v3 aF;have cx:∀o:Obj,(l.alloc o).cell? (S8 cG 2)=some z:=(λo=>(dU l o none).cell v5 aF);have aA:=al (show ∀o:Obj,(l.alloc o).cell? (S8 w.heap.size 2)=some (TW u K d.bk p.dq)/\(l.alloc o).cell? (S8 u (K+m*2))=Tn (d.bV m)/\(l.alloc o).cell? (S8 u (K+m*2+1))=some (.slice (p.fh m) (d.eP m) (p.cq m))from λo=>⟨(dU l o none).cell f2 aF,(dU l o none).cell f3 aF,(dU l o none).cell f4 aF⟩);have aN:=al (Ud bl (Ud bm bo));have X:=al f;clear f bl bm bo)
     |(refine step_append_lies _ (by rfl) _ _ _ (by rfl) B 27 bZ (.agg #[.int .i64 0,.slice none 0 0]) 2 32 av bM.out bQ.out bR.out bS.out S6 U z m (iR d dj cq m) (by rfl) (j4 ai.out.own (λi I y=>(dm (gu y X.out.size)).trans (X.out.block i y aF))) (Ti l.heap.size) 1 1 [.int .i64 (d.bV m),Ts ba (d.eP m) bc] (by rfl) (by rfl) (World.news_of_block (cs:=#[.int .i64 (d.bV m),Ts ba (d.eP m) bc]) (t:=27) (fr:=(0,0)) (heap_alloc_new l _)) (by simp[Value.oneCell']) U kj U (by have bj:wr.heap.size<=l.heap.size:=X.out.size;simp only[cV];omega) (l.heap.size+1) aF ?_;intro ce cap b6 bs ag bp cn;have ae:=ag.cell (aA.out _).1 au;have P:=ag.cell (aA.out _).2.1 bE;have Q:=ag.cell (aA.out _).2.2 bE;have aO:b6.heap[cG]?=some (.cells (uN d.kinds (Ts F d.c' cA) z (Ts J d.b' dc)) 25):=(ag.block cG (by have bj:wr.heap.size<=l.heap.size:=X.out.size;simp only[cV];omega) aw).trans ((dm (by have bj:wr.heap.size<=l.heap.size:=X.out.size;omega)).trans ((X.out.block cG (by show cG<wr.heap.size;omega) aF).trans ai.out.blk));have cv:=aU (o:=2) aO;have cw:=b3 (o:=2) aO;have bO:=al bs;have bL:=al ag;have bI:=al bp;clear bs ag bp aO))
    all_goals (
     have br:=ai.out.next X.out aN.out.1 aN.out.2.1 aN.out.2.2 bL.out bI.out bO.out;have aL:=al br;clear br;go_wp2;exact⟨⟨m+1,_,_,_,U,by push_cast;rfl,aL.out.1,aL.out.2.1 w bg T.out,(aL.out.2.2 _ aM.out.2.2.2 aM.out.2.2.1).trans L.out⟩,by show d.bk-((m:Int)+1).toNat<d.bk-(m:Int).toNat;omega⟩)
   .have hd:decide ((m:Int)<d.bk)=false:=cH
    have bV:decide (m<d.bk)=false:=by simpa using R
    obtain rfl:m=d.bk:=U;obtain⟨aX,dq,rfl⟩:=M7 bn.own;have co:wr.cell? (Ti cG)=Tn d.kinds:=(aU (o:=0) bn.blk).trans S6;have cp:wr.cell? (S8 cG 1)=some (Ts F d.c' cA):=(aU (o:=1) bn.blk).trans S6;have ct:wr.cell? (S8 cG 2)=some (.slice aX d.bk dq):=(aU (o:=2) bn.blk).trans S6;have cu:wr.cell? (S8 cG 3)=some (Ts J d.b' dc):=(aU (o:=3) bn.blk).trans S6;have b7:=aU (o:=0) E;have b8:=aU (o:=1) E;have b9:=aU (o:=2) E;have ca:=aU (o:=3) E;have z0:=b3 (o:=0) E;have aK:=b3 (o:=1) E;have cb:=b3 (o:=2) E;have z3:=b3 (o:=3) E;have ai:=al bn;have T:=al G;have L:=al E;clear bn G E;go_wp2;refine bodyPost_ret (results_cell_row S6 _ _ (w.heap.size+1) 25 #[ah d.kinds,Ts F d.c' cA,.slice aX d.bk dq,Ts J d.b' dc] (0,0) _ S6 (q0 L.out).1 (ao.underlying25 A) S6 FA) S6 ?_;refine⟨⟨some (Ti F),cA,aX,dq,λi=>some (Ti (dj i)),cq,some (Ti J),dc⟩,S6,ai.out.done aM.out (q0 L.out).2,?_⟩;exact⟨T.out.os,T.out.tape,T.out.output,by have:=T.out.size;simp only[World.size_setCell];omega,λi bW bX=>((q0 L.out).2 i U).trans (T.out.block i bW bX)⟩)
end
end Go.aO
