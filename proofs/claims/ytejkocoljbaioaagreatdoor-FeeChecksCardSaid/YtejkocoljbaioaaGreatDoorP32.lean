/- A part. -/
import Derived.Test.YtejkocoljbaioaaGreatDoorP31
import Derived.Deep.Cut
import Derived.Deep.CutRange
set_option maxHeartbeats 8000000
set_option maxRecDepth 100000
set_option linter.all false
namespace Go.aO
open Go.Proofs Go.RowKit
variable{B b c cA cG dc n o:Nat}{f:Nat->Int}{v:Value}{X q w wr:World}
section
variable{A:Array Func}
def SY[S:Std A](L:Value)(w:World)(h:ly w L w.heap.size)(f:L.oneCell'=true):
 Calls (ao A) 6 #[L] w λe w'=>e=.returned (.pointer (some ⟨w.heap.size,0,none⟩))/\fS w' w.heap.size L 0/\w.grownBy w' none:=by
 have d:=al h;rcases h with⟨q,rfl⟩|⟨b,off,n,c,z,rfl,_,_,_⟩
 all_goals (
  go_enter (S.f Tryz.func6),Tryz.ntmps6;go_wp2;go_ret;exact⟨rfl,⟨⟨_,fM _ _,U,U⟩,d.out.keep bT⟩,bT⟩)
def MC(o:0<n)(h:w.ownsRow B 3 1 v n ((List.range n).map λj=>gi (f j))):∃g cap cur,v=.slice (some ⟨g,0,none⟩) n cap/\B<=g/\w.heap[g]?=some (.cells cur 3)/\gn w g 0 n f:=by
 obtain⟨g,cap,cur,rfl,i,_,c,l⟩:=xj h o;refine⟨g,cap,cur,rfl,i,c,λj d=>?_⟩;rw[aU c,Nat.zero_add,<-Array.getElem?_toList];have e:(cur.toList.take n)[j]?=some (gi (f j)):=by rw[l];simp[d]
 rw[List.getElem?_take,if_pos d]at e;exact e
def Od(b:Nat)(q:Option Addr)(c:Nat)(w:World):Sem.run (ao A) (Builtin.append_ #[22,22] 22 #[.slice (some ⟨b,0,none⟩) 0 0,.slice q 0 c]) w=.ok (.slice (some ⟨b,0,none⟩) 0 0) w:=by cases q<;>kernel_rfl
def Sr{ops:Array Oper}{rest:List Oper}{o:Oper}{a:Act}{Q:Exit->Act->World->Prop}(f:o.guard=none)(s x:Operand)(g:o.op=.call {callee:=.builtin .append,args:=#[s,x],argTypes:=#[22,22]})(j:o.type=22)(b:Nat)(q:Option Addr)(c:Nat)(i:a.eval s=.slice (some ⟨b,0,none⟩) 0 0)(l:a.eval x=.slice q 0 c)(h:wpList (ao A) ops Q rest (a.put o.dst (.slice (some ⟨b,0,none⟩) 0 0)) w):
 wpList (ao A) ops Q (o::rest) a w:=by
 refine wpList_plain f λK d=>?_
 unfold Oper.wp execOp;simp only[g,j,resolve,invoke,builtin,Sem.run_bind,Sem.run_pure,Result.andThen_ok,List.map_toArray,List.map_cons,List.map_nil,i,l,Od];exact d _ _ h
def wP[S:Std A](q:Option Addr)(n c:Nat)(f:Nat->Int)(aa:n<=100)(w:World)(h:n≠0->∃b o,q=some ⟨b,o,none⟩/\gn w b o n f):
 Calls (ao A) 34 #[.slice q n c] w λe w'=>∃r:Nat,(∃bp:Nat,e=.returned (.slice (some ⟨r,0,none⟩) n bp))/\w.heap.size<=r/\(∃cur:Array Value,w'.heap[r]?=some (.cells cur 3))/\gn w' r 0 n f/\w.grownBy w' none:=by
 obtain⟨Y,p,B,C,D⟩:=wL (A:=A);by_cases E:n=0
 .subst E
  clear h p B C D;go_enter (S.f Tryz.func34),Tryz.ntmps34;go_wp2_with (at_builtin;refine Sr rfl _ _ rfl rfl w.heap.size q c rfl rfl ?_)
  go_ret;exact⟨w.heap.size,⟨0,rfl⟩,bg,⟨#[],fM _ _⟩,λj d=>U,bT⟩
 .obtain⟨b,o,rfl,z⟩:=h E
  have M:=al z;have I:=al p;have P:=al B;have Q:=al C;have R:=al D;have J:=al (lD (z 0 U));have H:(w.alloc (.cells #[] 3)).ownsRow w.heap.size 3 1 (.slice (some ⟨w.heap.size,0,none⟩) 0 0) 0 []:=⟨rfl,.inr ⟨w.heap.size,0,#[],rfl,bg,fM _ _,bg,kj,rfl,rfl⟩⟩
  have T:=al H;clear p B C D H z h;go_enter (S.f Tryz.func34),Tryz.ntmps34;have K:=al (show ∀(j:Nat) u,((List.range n).map λj=>gi (f j))[j]?=some u->(w.alloc (.cells #[] 3)).cell? ((⟨b,o,none⟩:Addr).add j)=some u from λj u d=>by
   have F:j<n/\gi (f j)=u:=by
    rw[List.getElem?_map]at d;rcases Nat.lt_or_ge j n with x|x
    .rw[List.getElem?_range x]at d
     exact⟨x,by simpa using d⟩
    .rw[List.getElem?_eq_none (by simpa using x)]at d
     cases d
   have:=M.out j F.1;rw[show((⟨b,o,none⟩:Addr).add j)=⟨b,o+j,none⟩ by simp[Addr.add]];rw[<-F.2];exact(hD _ _ _ J.out).trans this)
  have L:=al (show ∀u∈(List.range n).map (λj=>gi (f j)),u.oneCell'=true from λu hu=>by obtain⟨n,_,rfl⟩:=List.mem_map.1 hu;rfl)
  go_wp2_with (at_builtin;refine wpList_append_own_at _ rfl _ _ 22 rfl w.heap.size 3 Y (ah 0) 1 8 (ao.underlying22 A) I.out P.out Q.out R.out rfl a6 _ 0 _ rfl T.out ⟨b,o,none⟩ n c ((List.range n).map λj=>gi (f j)) rfl aF K.out L.out kj U aF ?_;intro ae af G l ad Z)
  go_ret;rw[Nat.zero_add,List.nil_append]at G;obtain⟨g,cap,cur,rfl,X,W,V⟩:=MC U G;refine⟨g,⟨cap,rfl⟩,X,⟨cur,W⟩,V,?_⟩;refine⟨l.os,l.tape,l.output,cL aF l.size,λi p _=>(l.block i cH (λe=>?_)).trans (dm p)⟩;have e:some i=some w.heap.size:=e;have:=bD e;omega
def gn.lK{w':World}(h:gn w b o n f)(k:w'.heap[b]?=w.heap[b]?):gn w' b o n f:=λj c=>(World.cell?_of_block k).trans (h j c)
def xz(d:dw)(i b c:Nat):List Value:=[ah (d.bV i),.slice (some ⟨b,0,none⟩) (d.eP i) c]
def iR(d:dw)(dj cq:Nat->Nat):Nat->List Value
 | 0=>[]
 |m+1=>iR d dj cq m++xz d m (dj m) (cq m)
def Aw(d:dw)(dj cq:Nat->Nat):∀m,(iR d dj cq m).length=m*2
 | 0=>rfl
 |m+1=>by simp only[iR,List.length_append,Aw d dj cq m,xz,List.length_cons,List.length_nil];omega
def Fg(d:dw){dj cq c f:Nat->Nat}:∀m,(∀i,i<m->dj i=c i/\cq i=f i)->iR d dj cq m=iR d c f m
 | 0,_=>rfl
 |m+1,h=>by simp only[iR];rw[Fg d m λi g=>h i U,(h m U).1,(h m U).2]
def xy(d:dw)(dj cq:Nat->Nat):∀m i,i<m->(iR d dj cq m)[i*2]?=some (ah (d.bV i))/\(iR d dj cq m)[i*2+1]?=some (.slice (some ⟨dj i,0,none⟩) (d.eP i) (cq i))
 | 0,_,h=>U
 |m+1,i,h=>by
  simp only[iR];have f:=Aw d dj cq m;by_cases c:i<m
  .have:=xy d dj cq m i c
   rw[jz U,jz U];exact this
  .obtain rfl:i=m:=U
   rw[jb U,jb U,f,Nat.sub_self,Nat.add_sub_cancel_left];exact⟨rfl,rfl⟩
def uN(K:Int)(c d f:Value):Array Value:=#[ah K,c,d,f]
structure mZ(jj B:Nat)(d:dw)(p:gz)(bB cG fa cA fU dc:Nat)(dj cq:Nat->Nat)(m:Nat)(dH:Value)(w:World):Prop where
 k5:w.heap[bB]?=some (.cells (eB d p) 25)
 blk:w.heap[cG]?=some (.cells (uN d.kinds (.slice (some ⟨fa,0,none⟩) d.c' cA) dH (.slice (some ⟨fU,0,none⟩) d.b' dc)) 25)
 own:w.ownsRow B 27 2 dH m (iR d dj cq m)
 cQ:∀i,i<m->gn w (dj i) 0 (d.eP i) (d.cQ i)/\(∃cur:Array Value,w.heap[dj i]?=some (.cells cur 3))/\B<=dj i/\dH.ownBlock≠some (dj i)
 qK:∀i j,i<j->j<m->dj i<dj j
 first:gn w fa 0 d.c' d.first/\∃cur:Array Value,w.heap[fa]?=some (.cells cur 3)
 free:gn w fU 0 d.b' d.free
 bY:jj<=bB/\jj<=cG/\jj<=fa/\jj<=fU/\bB<B/\cG<B/\fa<B/\fU<B/\bB≠cG/\cG≠fa/\cG≠fU/\fa≠fU
 dD:B<=w.heap.size
def mZ.next{I:Nat}{d:dw}{p:gz}{K F J:Nat}{dj cq:Nat->Nat}{m:Nat}{w:Value}(bn:mZ I B d p K cG F cA J dc dj cq m w wr){l:World}{o:Obj}{G g cap:Nat}(L:wr.drew.grownBy l none)(ar:wr.heap.size<=c)(V:∃cur:Array Value,l.heap[c]?=some (.cells cur 3))(aj:gn l c 0 (d.eP m) (d.cQ m))(C:(l.alloc o).grownBy q w.ownBlock)(ak:w.ownBlock=some g\/g=l.heap.size+1)(ap:q.ownsRow B 27 2 (.slice (some ⟨g,0,none⟩) (m+1) cap) (m+1) (iR d dj cq m++xz d m c G)):
 mZ I B d p K cG F cA J dc (λi=>if i=m then c else dj i) (λi=>if i=m then G else cq i) (m+1) (.slice (some ⟨g,0,none⟩) (m+1) cap) (q.setCell ⟨cG,2,none⟩ (.slice (some ⟨g,0,none⟩) (m+1) cap))/\
  (∀X:World,X.heap.size<=I->X.grownBy wr none->X.grownBy (q.setCell ⟨cG,2,none⟩ (.slice (some ⟨g,0,none⟩) (m+1) cap)) none)/\∀i,i<B->i≠cG->(q.setCell ⟨cG,2,none⟩ (.slice (some ⟨g,0,none⟩) (m+1) cap)).heap[i]?=wr.heap[i]?:=by
 obtain⟨av,az,aA,aB,al,aC,ad,am,ao,aw,ax,ay⟩:=bn.bY;have M:∀r,w.ownBlock=some r->B<=r/\r<wr.heap.size:=λr e=>rh bn.own r e
 have z:=bn.dD;have aD:wr.heap.size<=l.heap.size:=L.size;have aq:=C.size;simp at aq;have aa:∀i,i<wr.heap.size->l.heap[i]?=wr.heap[i]?:=λi D=>L.block i D aF
 have P:∀i,i<l.heap.size->w.ownBlock≠some i->q.heap[i]?=l.heap[i]?:=λi u f=>(C.block i cH (λe=>f e.symm)).trans (dm u)
 have Q:∀i,i≠cG->(q.setCell ⟨cG,2,none⟩ (.slice (some ⟨g,0,none⟩) (m+1) cap)).heap[i]?=q.heap[i]?:=λi h=>e1 (by show i≠cG;exact h)
 have keep:∀i,i<wr.heap.size->i≠cG->w.ownBlock≠some i->(q.setCell ⟨cG,2,none⟩ (.slice (some ⟨g,0,none⟩) (m+1) cap)).heap[i]?=wr.heap[i]?:=λi u f ai=>(Q i f).trans ((P i U ai).trans (aa i u))
 have low:∀i,i<B->i≠cG->(q.setCell ⟨cG,2,none⟩ (.slice (some ⟨g,0,none⟩) (m+1) cap)).heap[i]?=wr.heap[i]?:=λi u f=>keep i U f λe=>by have:=(M i e).1;omega
 have S:c<l.heap.size:=by obtain⟨cur,h⟩:=V;exact bu h
 have T:w.ownBlock≠some c:=λe=>by have:=(M c e).2;omega
 have ah:q.heap[cG]?=_:=((P cG U (λe=>by have:=(M cG e).1;omega)).trans (aa cG U)).trans bn.blk;have W:∀i,i<l.heap.size->w.ownBlock≠some i->(some g:Option Nat)≠some i:=λi u f e=>by
  have e:=bD e;subst e;rcases ak with h|h
  .exact f h
  .omega
 refine⟨⟨(low K al ao).trans bn.k5,cU ah,?_,λi D=>?_,λi j u f=>?_,⟨bn.first.1.lK (low F ad U),?_⟩,bn.free.lK (low J am U),bn.bY,cH⟩,λX au Z=>?_,low⟩
 .have e:iR d (λi=>if i=m then c else dj i) (λi=>if i=m then G else cq i) (m+1)=iR d dj cq m++xz d m c G:=by simp only[iR,if_true];rw[Fg d m λi D=>⟨if_neg U,if_neg U⟩]
  rw[e];exact j4 ap λi u f=>Q i U
 .by_cases hm:i=m
  .subst hm
   simp only[if_true];have f:(q.setCell ⟨cG,2,none⟩ (.slice (some ⟨g,0,none⟩) (i+1) cap)).heap[c]?=l.heap[c]?:=(Q c U).trans (P c S T);exact⟨aj.lK f,by obtain⟨cur,h⟩:=V;exact⟨cur,f.trans h⟩,U,W c S T⟩
  .simp only[if_neg hm]
   obtain⟨q1,⟨cur,H⟩,ae,R⟩:=bn.cQ i U;have af:=bu H;have f:=keep (dj i) af U R;exact⟨q1.lK f,⟨cur,f.trans H⟩,ae,W _ U R⟩
 .by_cases Y:j=m
  .subst Y
   simp only[if_true,if_neg (show i≠j by omega)];obtain⟨q1,⟨cur,H⟩,ae,R⟩:=bn.cQ i u;have af:=bu H;omega
  .simp only[if_neg Y,if_neg (show i≠m by omega)]
   exact bn.qK i j u U
 .obtain⟨cur,h⟩:=bn.first.2
  exact⟨cur,(low F ad U).trans h⟩
 .have ag:X.grownBy wr.drew none:=gv Z
  have E:=(ag.trans L).trans (dU _ o none);refine⟨?_,?_,?_,?_,λi D _=>?_⟩
  .exact C.os.trans E.os
  .exact C.tape.trans E.tape
  .exact C.output.trans E.output
  .have:=E.size;simp at this ⊢;omega
  .exact(low i U U).trans (Z.block i D aF)
abbrev rL:Array Value:=#[ah 0,.slice none 0 0,.slice none 0 0,.slice none 0 0]
def mZ.begin{W:World}{d:dw}{p:gz}{f:Nat}{dj cq:Nat->Nat}(k5:X.heap[w.heap.size]?=some (.cells (eB d p) 25))(o:X.heap[w.heap.size+1]?=some (.cells rL 25))(g:w.grownBy X none)(hF:gn X c 0 d.c' d.first)(z:∃cur:Array Value,X.heap[c]?=some (.cells cur 3))(B:gn X f 0 d.b' d.free)(bY:w.heap.size+1<cG/\w.heap.size+1<c/\w.heap.size+1<f/\cG<W.heap.size/\c<X.heap.size/\f<X.heap.size/\cG≠c/\cG≠f/\c≠f)(u:W.heap[cG]?=some (.cells (uN d.kinds (.slice (some ⟨c,0,none⟩) d.c' cA) (.slice none 0 0) (.slice (some ⟨f,0,none⟩) d.b' dc)) 25))(k:∀i,i<X.heap.size->i≠cG->W.heap[i]?=X.heap[i]?)(G:X.heap.size<=W.heap.size)(l:W.os=X.os/\W.tape=X.tape/\W.output=X.output):
 mZ w.heap.size W.heap.size d p w.heap.size cG c cA f dc dj cq 0 (.slice none 0 0) W/\w.grownBy W none/\W.heap[w.heap.size+1]?=some (.cells rL 25)/\(w.heap.size+1≠c/\w.heap.size+1≠f/\w.heap.size+1≠cG/\w.heap.size+1<W.heap.size):=by
 obtain⟨H,I,J,K,r,D,L,M,P⟩:=bY;have F:=g.size;refine⟨⟨(k _ U U).trans k5,u,⟨rfl,.inl ⟨rfl,rfl⟩⟩,λi q=>U,λi j E o=>U,⟨hF.lK (k c r U),?_⟩,B.lK (k f D U),U,bg⟩,⟨l.1.trans g.os,l.2.1.trans g.tape,l.2.2.trans g.output,U,λi q C=>(k i U U).trans (g.block i q C)⟩,(k _ U U).trans o,U⟩;obtain⟨cur,h⟩:=z;exact⟨cur,(k c r U).trans h⟩
def q0{v0 v1 v2 v3:Value}{c:Array Value}(h:X.heap[b]?=some (.cells c 25)):((((X.setCell ⟨b,0,none⟩ v0).setCell ⟨b,1,none⟩ v1).setCell ⟨b,2,none⟩ v2).setCell ⟨b,3,none⟩ v3).heap[b]?=some (.cells ((((c.setIfInBounds 0 v0).setIfInBounds 1 v1).setIfInBounds 2 v2).setIfInBounds 3 v3) 25)/\
 ∀i,i≠b->((((X.setCell ⟨b,0,none⟩ v0).setCell ⟨b,1,none⟩ v1).setCell ⟨b,2,none⟩ v2).setCell ⟨b,3,none⟩ v3).heap[i]?=X.heap[i]?:=
 ⟨cU (cU (cU (cU h))),λi h=>(e1 (by show i≠b;exact h)).trans ((e1 (by show i≠b;exact h)).trans ((e1 (by show i≠b;exact h)).trans (e1 (by show i≠b;exact h))))⟩
structure qx(w:World)(d:dw)(p:gz)(w':World):Prop where
 raw:iZ w' d p
 own:w'.ownsRow w.heap.size 27 2 (.slice p.hH d.bk p.dq) d.bk (iR d (λi=>((p.fh i).map (·.block)).getD 0) p.cq d.bk)
 plain:(∃b,p.eh=some ⟨b,0,none⟩/\w.heap.size<=b/\(Value.slice p.hH d.bk p.dq).ownBlock≠some b)/\(∃b,p.ei=some ⟨b,0,none⟩/\w.heap.size<=b/\(Value.slice p.hH d.bk p.dq).ownBlock≠some b)/\∀i,i<d.bk->∃b,p.fh i=some ⟨b,0,none⟩/\w.heap.size<=b/\(Value.slice p.hH d.bk p.dq).ownBlock≠some b
def mZ.done{d:dw}{p:gz}{E j l:Nat}{o:Option Addr}{dq:Nat}{dj cq:Nat->Nat}(bn:mZ w.heap.size B d p E cG j cA l dc dj cq d.bk (.slice o d.bk dq) wr)(M:w.heap.size+1≠j/\w.heap.size+1≠l/\w.heap.size+1≠cG/\w.heap.size+1<B)(k:∀i,i≠w.heap.size+1->q.heap[i]?=wr.heap[i]?):
 qx w d ⟨some ⟨j,0,none⟩,cA,o,dq,λi=>some ⟨dj i,0,none⟩,cq,some ⟨l,0,none⟩,dc⟩ q:=by
 obtain⟨P,T,I,J,V,W,X,Y,Z,Q,R,S⟩:=bn.bY;have own:q.ownsRow B 27 2 (.slice o d.bk dq) d.bk (iR d dj cq d.bk):=j4 bn.own λg K _=>k g U
 have D:∀r,(Value.slice o d.bk dq).ownBlock=some r->B<=r:=λr e=>(rh bn.own r e).1
 have H:∀i,i<d.bk->gn q (dj i) 0 (d.eP i) (d.cQ i):=λi f=>(bn.cQ i f).1.lK (k _ (by have:=(bn.cQ i f).2.2.1;omega))
 refine⟨⟨λ_=>⟨j,0,rfl,bn.first.1.lK (k j U)⟩,λG=>?_,λi f _=>⟨dj i,0,rfl,H i f⟩,λ_=>⟨l,0,rfl,bn.free.lK (k l U)⟩⟩,?_,⟨j,rfl,I,λe=>by have:=D _ e;omega⟩,⟨l,rfl,J,λe=>by have:=D _ e;omega⟩,λi f=>⟨dj i,rfl,by have:=(bn.cQ i f).2.2.1;omega,(bn.cQ i f).2.2.2⟩⟩
 .obtain⟨S6,c,cur,e,_,u,z⟩:=xk own G
  cases e;refine⟨S6,0,rfl,λi f=>⟨nQ u z (xy d dj cq d.bk i f).1,?_⟩⟩;rw[Nat.add_assoc];exact nQ u z (xy d dj cq d.bk i f).2
 .obtain⟨C,h|⟨g,c,cur,F,L,h⟩⟩:=own
  .exact⟨C,.inl h⟩
  .exact⟨C,.inr ⟨g,c,cur,F,U,h⟩⟩
def M7{d:Nat}{e:TypeId}{xs:List Value}(h:w.ownsRow B e d v n xs):∃q c,v=.slice q n c:=by
 obtain⟨f,⟨rfl,rfl⟩|⟨b,c,cur,rfl,_⟩⟩:=h
 .exact⟨none,0,rfl⟩
 .exact⟨_,_,rfl⟩
def oU(w:World){a:Nat}(h:a≠b)(v0 v1 v2 v3:Value):((((w.setCell ⟨b,0,none⟩ v0).setCell ⟨b,1,none⟩ v1).setCell ⟨b,2,none⟩ v2).setCell ⟨b,3,none⟩ v3).cell? ⟨a,o,none⟩=w.cell? ⟨a,o,none⟩:=
 (pL _ h).trans ((pL _ h).trans ((pL _ h).trans (pL _ h)))
def Le[S:Std A](d:dw)(a0:d.small)(p:gz)(w:World)(h:iZ w d p):
 Calls (ao A) 9 #[.agg (eB d p)] w λe w'=>∃ia:gz,e=.returned (.agg (eB d ia))/\qx w d ia w'/\w.grownBy w' none:=by
 have ci:=a0.F;have cl:=a0.h4;have ba:=al a0;have H:=al h;obtain⟨c,ae⟩:∃c,(w.alloc (.cells (eB d p) 25)).alloc (.cells #[ah 0,.slice none 0 0,.slice none 0 0,.slice none 0 0] 25)=c:=⟨_,rfl⟩
 have aR:w.grownBy c none:=by rw[<-ae];exact bT.trans bT
 have aM:c.heap.size=w.heap.size+2:=by rw[<-ae];simp
 have ap:c.heap[w.heap.size]?=some (.cells (eB d p) 25):=by rw[<-ae];exact(dm aF).trans (fM _ _)
 have bd:c.heap[w.heap.size+1]?=some (.cells rL 25):=by rw[<-ae,show w.heap.size+1=(w.alloc (.cells (eB d p) 25)).heap.size by simp];exact fM _ _
 have a7:=al bd;clear bd;have t1:=h.keep aR;have bx:=aU (o:=0) ap;have aa:=aU (o:=1) ap;have c3:=aU (o:=3) ap;have a9:=al aR;have aD:=al aM;have a6:=al ap;have am:=al t1;have P:=al ae;clear aR aM ap t1 ae h;go_enter (S.f Tryz.func9),Tryz.ntmps9;go_upto_region 1 with fail
 have aS:=P.out;dsimp only[eB]at aS;rw[aS];clear aS;have bx:c.cell? ⟨w.heap.size,0,none⟩=some (ah d.kinds):=bx.trans rfl;have aa:c.cell? ⟨w.heap.size,1,none⟩=some (.slice p.eh d.c' p.cA):=aa.trans rfl;have c3:c.cell? ⟨w.heap.size,3,none⟩=some (.slice p.ei d.b' p.dc):=c3.trans rfl;have cr:c.grownBy c.drew none:=gv (e6 _ _);have a5:=al cr;have aA:=al (show ∀(W:World) (o:Obj),c.grownBy W none->(W.alloc o).cell? ⟨w.heap.size,0,none⟩=some (ah d.kinds)/\(W.alloc o).cell? ⟨w.heap.size,1,none⟩=some (.slice p.eh d.c' p.cA)/\(W.alloc o).cell? ⟨w.heap.size,3,none⟩=some (.slice p.ei d.b' p.dc)from λW o g=>by have ag:=g.trans (dU W o none);exact⟨ag.cell bx aF,ag.cell aa aF,ag.cell c3 aF⟩)
 have af:=al (show ∀o:Obj,c.grownBy (c.alloc o).drew none from λo=>gv bT);have a3:=al (show ∀o:Obj,(c.alloc o).drew.cell? ⟨w.heap.size,0,none⟩=some (ah d.kinds)/\(c.alloc o).drew.cell? ⟨w.heap.size,1,none⟩=some (.slice p.eh d.c' p.cA)/\(c.alloc o).drew.cell? ⟨w.heap.size,3,none⟩=some (.slice p.ei d.b' p.dc)from λo=>⟨(af.out o).cell bx aF,(af.out o).cell aa aF,(af.out o).cell c3 aF⟩);have bh:c.drew.cell? ⟨w.heap.size,0,none⟩=some (ah d.kinds):=bx;have bi:c.drew.cell? ⟨w.heap.size,1,none⟩=some (.slice p.eh d.c' p.cA):=aa;have bj:c.drew.cell? ⟨w.heap.size,3,none⟩=some (.slice p.ei d.b' p.dc):=c3;clear cr;go_region_held3 (λW=>W.cell? ⟨w.heap.size,0,none⟩=some (ah d.kinds)/\W.cell? ⟨w.heap.size,1,none⟩=some (.slice p.eh d.c' p.cA)/\W.cell? ⟨w.heap.size,3,none⟩=some (.slice p.ei d.b' p.dc))
  (first|with_reducible exact⟨bh,bi,bj⟩|with_reducible exact a3.out _|with_reducible exact⟨bB,bC,bD⟩|with_reducible exact aA.out _ _ I.out|with_reducible exact⟨cT,ax,ay⟩|with_reducible exact aA.out _ _ (I.out.trans Q.out)|with_reducible exact⟨(oU j aW _ _ _ _).trans cT,(oU j aW _ _ _ _).trans ax,(oU j aW _ _ _ _).trans ay⟩|with_reducible exact⟨(oU j aX _ _ _ _).trans cT,(oU j aX _ _ _ _).trans ax,(oU j aX _ _ _ _).trans ay⟩|(have q:=aA.out _ (.cells #[ah 0,.slice none 0 0,.slice none 0 0,.slice none 0 0] 25) (I.out.trans Q.out);with_reducible exact⟨(oU _ aY _ _ _ _).trans q.1,(oU _ aY _ _ _ _).trans q.2.1,(oU _ aY _ _ _ _).trans q.2.2⟩))
  (first
  |(go_at_call 34;refine(wP (A:=A) p.eh d.c' p.cA d.first U _ (by first|exact(am.out.keep a5.out).first|exact(am.out.keep (af.out _)).first)).mono ?_;rintro e w3 ⟨J,⟨cA,rfl⟩,aq,ai,ar,f⟩;have R:c.grownBy w3 none:=(by first|exact a5.out.trans f|exact(af.out _).trans f);have bB:=R.cell bx aF;have bC:=R.cell aa aF;have bD:=R.cell c3 aF;(try (have bI:=(f.block c.heap.size (by show c.heap.size<(c.alloc _).heap.size;simp) aF).trans (fM c _)));have I:=al R;have a8:=al (And.intro aq (And.intro ai ar));clear f R aq ai ar)
  |(go_at_call 34;refine(wP (A:=A) p.ei d.b' p.dc d.free U _ (by first|exact(am.out.keep I.out).free|exact(am.out.keep (I.out.trans bT)).free)).mono ?_;rintro e j ⟨L,⟨dc,rfl⟩,au,aw,ad,f⟩;have T:w3.grownBy j none:=(by first|exact f|exact bT.trans f);have cT:=T.cell bB aF;have ax:=T.cell bC aF;have ay:=T.cell bD aF;(try (have F:=(f.block c.heap.size (bu bI) aF).trans bI));(try (have F:=(f.block w3.heap.size aF aF).trans (fM w3 _)));have Q:=al T;have bb:=al (And.intro au (And.intro aw ad));(try (have b9:=aU (o:=0) F));(try (have z0:=b3 (o:=0) F));(try (have ca:=aU (o:=1) F));(try (have aM:=b3 (o:=1) F));(try (have cb:=aU (o:=2) F));(try (have ce:=b3 (o:=2) F));(try (have cc:=aU (o:=3) F));(try (have z3:=b3 (o:=3) F));have aW:w.heap.size≠c.heap.size:=(by have:=aD.out;omega);have aX:w.heap.size≠w3.heap.size:=(by have:=aD.out;have:=I.out.size;omega);have aY:w.heap.size≠j.heap.size:=(by have:=aD.out;have:=I.out.size;have:=Q.out.size;omega);(try (have aE:=al F;clear F));clear f T au aw ad))
 all_goals (
  have ae:=aD.out;have aH:=I.out.trans Q.out;have b6:=I.out.size;have b7:=Q.out.size;obtain⟨aq,⟨bW,ai⟩,ar⟩:=a8.out;obtain⟨au,⟨cf,aw⟩,ad⟩:=bb.out;have bE:=bu ai;have b2:=bu aw;have aJ:j.heap[w.heap.size]?=some (.cells (eB d p) 25):=(aH.block _ U aF).trans a6.out;have aL:=ar.keep Q.out aF;have aG:j.heap[J]?=some (.cells bW 3):=(Q.out.block _ bE aF).trans ai;have az:j.heap[w.heap.size+1]?=some (.cells rL 25):=(aH.block _ U aF).trans a7.out;have aB:=a9.out.trans aH;have V:=al (And.intro aq au);clear aq au)
 focus (
  have u:=mZ.begin (cG:=j.heap.size) (cA:=cA) (dc:=dc) (dj:=λ_=>0) (cq:=λ_=>0) aJ az aB aL ⟨_,aG⟩ ad (by obtain⟨K,C⟩:=V.out;have K:c.heap.size<=J:=K;have C:w3.heap.size<=L:=C;simp only[cV];omega) (fM j (.cells (uN d.kinds (.slice (some ⟨J,0,none⟩) d.c' cA) (.slice none 0 0) (.slice (some ⟨L,0,none⟩) d.b' dc)) 25)) (λi h _=>dm h) aF ⟨rfl,rfl,rfl⟩;unfold uN at u;generalize hW:j.alloc _=a1 at u ⊢;generalize aT:j.heap.size=cG at u ⊢)
 rotate_left
 focus (
  have u:=mZ.begin (cG:=w3.heap.size) (cA:=cA) (dc:=dc) (dj:=λ_=>0) (cq:=λ_=>0) aJ az aB aL ⟨_,aG⟩ ad (by obtain⟨K,C⟩:=V.out;have K:c.heap.size<=J:=K;have C:(w3.alloc (.cells rL 25)).heap.size<=L:=C;simp only[cV]at C;simp only[World.size_setCell];omega) (q0 aE.out).1 (λi _ h=>(q0 aE.out).2 i h) (by simp only[World.size_setCell];omega) ⟨rfl,rfl,rfl⟩;generalize hW:World.setCell (World.setCell (World.setCell (World.setCell j ⟨w3.heap.size,0,none⟩ _) _ _) _ _) _ _=a1 at u ⊢;generalize aT:w3.heap.size=cG at u ⊢)
 rotate_left
 focus (
  have u:=mZ.begin (cG:=c.heap.size) (cA:=cA) (dc:=dc) (dj:=λ_=>0) (cq:=λ_=>0) aJ az aB aL ⟨_,aG⟩ ad (by obtain⟨K,C⟩:=V.out;have K:(c.alloc (.cells rL 25)).heap.size<=J:=K;have C:w3.heap.size<=L:=C;simp only[cV]at K;simp only[World.size_setCell];omega) (q0 aE.out).1 (λi _ h=>(q0 aE.out).2 i h) (by simp only[World.size_setCell];omega) ⟨rfl,rfl,rfl⟩;generalize hW:World.setCell (World.setCell (World.setCell (World.setCell j ⟨c.heap.size,0,none⟩ _) _ _) _ _) _ _=a1 at u ⊢;generalize aT:c.heap.size=cG at u ⊢)
 rotate_left
 all_goals (
  obtain⟨u,a4,a2,aV⟩:=u;clear hW aT I Q a8 bb V b6 b7 ai ar aw ad bE b2 aJ aL aG az aB aH;clear bx aa c3 bh bi bj af a3 aA a6 am P a7 a9;obtain⟨B,bm⟩:∃B,B=a1.heap.size:=⟨_,rfl⟩
  rw[<-bm]at u aV;obtain⟨b1,bs,bw,bz,bA⟩:=zz (A:=A);have bO:=al bs;have bS:=al bw;have bU:=al bz;have bV:=al bA;have bP:=al u;have bM:=al a4;have bL:=al a2;have aO:=al aV;have ck:=ba.out.R;clear bs bw bz bA bm u a4 a2 aV;go_wp2;go_loopw [4] (λi wr=>∃(m:Nat) (dj cq:Nat->Nat) (D:Value),m<=d.bk/\i=ah m/\mZ w.heap.size B d p w.heap.size cG J cA L dc dj cq m D wr/\w.grownBy wr none/\wr.heap[w.heap.size+1]?=some (.cells rL 25)) (λi _=>d.bk-(TH i).toNat)
  case atStart=>exact⟨0,_,_,_,U,by go_num,bP.out,bM.out,bL.out⟩
  case round=>
   obtain⟨m,dj,cq,D,hm,rfl,bn,G,E⟩:=hrel;have bH:wr.cell? ⟨w.heap.size,2,none⟩=some (.slice p.hH d.bk p.dq):=(aU (o:=2) bn.k5).trans rfl;by_cases X:m<d.bk
   .have hd:decide ((m:Int)<d.bk)=true:=by simpa using X
    have bX:decide (m<d.bk)=true:=by simpa using X
    obtain⟨z,M,bk,aI⟩:=H.out.kM U;have cn:z<w.heap.size:=lD (aI m X).1;have r1:=G.cell (aI m X).1 aF;have b5:=G.cell (aI m X).2 aF;have bR:=al ((H.out.keep G).cQ m X);have cj:=ba.out.P m X;rw[bk]at bH;clear aI bk;have v3:wr.cell? ⟨cG,2,none⟩=some D:=(aU (o:=2) bn.blk).trans rfl;have bJ:=al (show wr.grownBy wr.drew none from gv (e6 _ _));have d2:wr.drew.cell? ⟨w.heap.size,2,none⟩=some (.slice (some ⟨z,M,none⟩) d.bk p.dq):=bH;have d3:wr.drew.cell? ⟨z,M+m*2,none⟩=some (ah (d.bV m)):=r1;have d4:wr.drew.cell? ⟨z,M+m*2+1,none⟩=some (.slice (p.fh m) (d.eP m) (p.cq m)):=b5;have aK:∀r,D.ownBlock=some r->B<=r/\r<wr.heap.size:=λr e=>rh bn.own r e
    have bY:=bn.bY;have ax:(some w.heap.size:Option Nat)≠D.ownBlock:=λe=>by have:=(aK _ e.symm).1;omega
    have bG:(some z:Option Nat)≠D.ownBlock:=λe=>by have:=(aK _ e.symm).1;omega
    have ay:(some cG:Option Nat)≠D.ownBlock:=λe=>by have:=(aK _ e.symm).1;omega
    have b4:w.heap.size≠cG:=U;have bF:z≠cG:=U;have ch:=bn.dD;have cm:cG<B:=U;have ak:=al bn;have Y:=al G;have P:=al E;clear bn G E aK bY;go_wp2;simp only[wV 23 (.tmp 21)];have co:=wW;go_region_held3 (λW=>W.cell? ⟨w.heap.size,2,none⟩=some (.slice (some ⟨z,M,none⟩) d.bk p.dq)/\W.cell? ⟨z,M+m*2,none⟩=some (ah (d.bV m))/\W.cell? ⟨z,M+m*2+1,none⟩=some (.slice (p.fh m) (d.eP m) (p.cq m)))
     (first|with_reducible exact⟨d2,d3,d4⟩|with_reducible exact⟨f2,f3,f4⟩|with_reducible exact aC.out _|with_reducible exact⟨ag,R,T⟩|with_reducible exact⟨(pL _ b4).trans ag,(pL _ bF).trans R,(pL _ bF).trans T⟩)
     (first
     |(go_at_call 34;refine(wP (A:=A) (p.fh m) (d.eP m) (p.cq m) (d.cQ m) U _ (bR.out.keep bJ.out)).mono ?_;rintro e l ⟨bc,⟨bf,rfl⟩,bo,bp,bq,f⟩;have f2:=f.cell d2 aF;have f3:=f.cell d3 aF;have f4:=f.cell d4 aF;have v5:l.cell? ⟨cG,2,none⟩=some D:=f.cell (a:=⟨cG,2,none⟩) v3 aF;have cz:∀o:Obj,(l.alloc o).cell? ⟨cG,2,none⟩=some D:=(λo=>(dU l o none).cell v5 aF);have aC:=al (show ∀o:Obj,(l.alloc o).cell? ⟨w.heap.size,2,none⟩=some (.slice (some ⟨z,M,none⟩) d.bk p.dq)/\(l.alloc o).cell? ⟨z,M+m*2,none⟩=some (ah (d.bV m))/\(l.alloc o).cell? ⟨z,M+m*2+1,none⟩=some (.slice (p.fh m) (d.eP m) (p.cq m))from λo=>⟨(dU l o none).cell f2 aF,(dU l o none).cell f3 aF,(dU l o none).cell f4 aF⟩);have aP:=al (And.intro bo (And.intro bp bq));have Z:=al f;clear f bo bp bq)
     |(refine step_append_lies _ (by rfl) _ _ _ (by rfl) B 27 b1 (.agg #[.int .i64 0,.slice none 0 0]) 2 32 av bO.out bS.out bU.out bV.out rfl U D m (iR d dj cq m) (by rfl) (j4 ak.out.own (λi K C=>(dm (gu C Z.out.size)).trans (Z.out.block i C aF))) ⟨l.heap.size,0,none⟩ 1 1 [.int .i64 (d.bV m),.slice (some ⟨bc,0,none⟩) (d.eP m) bf] (by rfl) (by rfl) (World.news_of_block (cs:=#[.int .i64 (d.bV m),.slice (some ⟨bc,0,none⟩) (d.eP m) bf]) (t:=27) (fr:=(0,0)) (heap_alloc_new l _)) (by simp[Value.oneCell']) U kj U (by have bl:wr.heap.size<=l.heap.size:=Z.out.size;simp only[cV];omega) (l.heap.size+1) aF ?_;intro cg cap b8 bv aj br cp;have ag:=aj.cell (aC.out _).1 ax;have R:=aj.cell (aC.out _).2.1 bG;have T:=aj.cell (aC.out _).2.2 bG;have aQ:b8.heap[cG]?=some (.cells (uN d.kinds (.slice (some ⟨J,0,none⟩) d.c' cA) D (.slice (some ⟨L,0,none⟩) d.b' dc)) 25):=(aj.block cG (by have bl:wr.heap.size<=l.heap.size:=Z.out.size;simp only[cV];omega) ay).trans ((dm (by have bl:wr.heap.size<=l.heap.size:=Z.out.size;omega)).trans ((Z.out.block cG (by show cG<wr.heap.size;omega) aF).trans ak.out.blk));have cx:=aU (o:=2) aQ;have cy:=b3 (o:=2) aQ;have bQ:=al bv;have bN:=al aj;have bK:=al br;clear bv aj br aQ))
    all_goals (
     have bt:=ak.out.next Z.out aP.out.1 aP.out.2.1 aP.out.2.2 bN.out bK.out bQ.out;have aN:=al bt;clear bt;go_wp2;exact⟨⟨m+1,_,_,_,U,by push_cast;rfl,aN.out.1,aN.out.2.1 w bg Y.out,(aN.out.2.2 _ aO.out.2.2.2 aO.out.2.2.1).trans P.out⟩,by show d.bk-((m:Int)+1).toNat<d.bk-(m:Int).toNat;omega⟩)
   .have hd:decide ((m:Int)<d.bk)=false:=cH
    have bX:decide (m<d.bk)=false:=by simpa using X
    obtain rfl:m=d.bk:=U;obtain⟨aZ,dq,rfl⟩:=M7 bn.own;have ct:wr.cell? ⟨cG,0,none⟩=some (ah d.kinds):=(aU (o:=0) bn.blk).trans rfl;have cu:wr.cell? ⟨cG,1,none⟩=some (.slice (some ⟨J,0,none⟩) d.c' cA):=(aU (o:=1) bn.blk).trans rfl;have cv:wr.cell? ⟨cG,2,none⟩=some (.slice aZ d.bk dq):=(aU (o:=2) bn.blk).trans rfl;have cw:wr.cell? ⟨cG,3,none⟩=some (.slice (some ⟨L,0,none⟩) d.b' dc):=(aU (o:=3) bn.blk).trans rfl;have b9:=aU (o:=0) E;have ca:=aU (o:=1) E;have cb:=aU (o:=2) E;have cc:=aU (o:=3) E;have z0:=b3 (o:=0) E;have aM:=b3 (o:=1) E;have ce:=b3 (o:=2) E;have z3:=b3 (o:=3) E;have ak:=al bn;have Y:=al G;have P:=al E;clear bn G E;go_wp2;refine bodyPost_ret (results_cell_row rfl _ _ (w.heap.size+1) 25 #[ah d.kinds,.slice (some ⟨J,0,none⟩) d.c' cA,.slice aZ d.bk dq,.slice (some ⟨L,0,none⟩) d.b' dc] (0,0) _ rfl (q0 P.out).1 (ao.underlying25 A) rfl FA) rfl ?_;refine⟨⟨some ⟨J,0,none⟩,cA,aZ,dq,λi=>some ⟨dj i,0,none⟩,cq,some ⟨L,0,none⟩,dc⟩,rfl,ak.out.done aO.out (q0 P.out).2,?_⟩;exact⟨Y.out.os,Y.out.tape,Y.out.output,by have:=Y.out.size;simp only[World.size_setCell];omega,λi bZ b0=>((q0 P.out).2 i U).trans (Y.out.block i bZ b0)⟩)
end
end Go.aO
