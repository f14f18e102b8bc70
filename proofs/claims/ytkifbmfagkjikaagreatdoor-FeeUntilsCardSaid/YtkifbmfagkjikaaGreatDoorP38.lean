/- A part; no conditions. -/
import Derived.Test.YtkifbmfagkjikaaGreatDoorP37
import Derived.Deep.Cut
import Derived.Deep.CutRange
set_option maxHeartbeats 8000000
set_option maxRecDepth 100000
set_option linter.all false
namespace Go.aO
open Go.Proofs Go.RowKit
variable{B b c cA cG dc n o:Nat}{X w wr:World}
section
variable{A:Array Func}
def gn.lK{w':World}{f:Nat->Int}(h:gn w b o n f)(k:w'.heap[b]?=w.heap[b]?):gn w' b o n f:=λj c=>(World.cell?_of_block k).trans (h j c)
def xz(d:dw)(i b c:Nat):List Value:=[.int .i64 (d.bV i),.slice (some ⟨b,0,none⟩) (d.eP i) c]
def iR(d:dw)(dj cq:Nat->Nat):Nat->List Value
 | 0=>[]
 |m+1=>iR d dj cq m++xz d m (dj m) (cq m)
def Aw(d:dw)(dj cq:Nat->Nat):∀m,(iR d dj cq m).length=m*2
 | 0=>rfl
 |m+1=>by simp only[iR,List.length_append,Aw d dj cq m,xz,List.length_cons,List.length_nil];omega
def Fg(d:dw){dj cq c f:Nat->Nat}:∀m,(∀i,i<m->dj i=c i/\cq i=f i)->iR d dj cq m=iR d c f m
 | 0,_=>rfl
 |m+1,h=>by simp only[iR];rw[Fg d m λi g=>h i U,(h m U).1,(h m U).2]
def xy(d:dw)(dj cq:Nat->Nat):∀m i,i<m->(iR d dj cq m)[i*2]?=some (.int .i64 (d.bV i))/\(iR d dj cq m)[i*2+1]?=some (.slice (some ⟨dj i,0,none⟩) (d.eP i) (cq i))
 | 0,_,h=>U
 |m+1,i,h=>by
  simp only[iR];have f:=Aw d dj cq m;by_cases c:i<m
  .have:=xy d dj cq m i c
   rw[jz U,jz U];exact this
  .obtain rfl:i=m:=U
   rw[jb U,jb U,f,Nat.sub_self,Nat.add_sub_cancel_left];exact⟨rfl,rfl⟩
def uN(K:Int)(c d f:Value):Array Value:=#[.int .i64 K,c,d,f]
structure mZ(jj B:Nat)(d:dw)(p:gz)(bB cG fa cA fU dc:Nat)(dj cq:Nat->Nat)(m:Nat)(dH:Value)(w:World):Prop where
 k5:w.heap[bB]?=some (.cells (eB d p) 25)
 blk:w.heap[cG]?=some (.cells (uN d.kinds (.slice (some ⟨fa,0,none⟩) d.c' cA) dH (.slice (some ⟨fU,0,none⟩) d.b' dc)) 25)
 own:w.ownsRow B 27 2 dH m (iR d dj cq m)
 cQ:∀i,i<m->gn w (dj i) 0 (d.eP i) (d.cQ i)/\(∃cur:Array Value,w.heap[dj i]?=some (.cells cur 3))/\B<=dj i/\dH.ownBlock≠some (dj i)
 qK:∀i j,i<j->j<m->dj i<dj j
 first:gn w fa 0 d.c' d.first/\∃cur:Array Value,w.heap[fa]?=some (.cells cur 3)
 free:gn w fU 0 d.b' d.free
 bY:jj<=bB/\jj<=cG/\jj<=fa/\jj<=fU/\bB<B/\cG<B/\fa<B/\fU<B/\bB≠cG/\cG≠fa/\cG≠fU/\fa≠fU
 dD:B<=w.heap.size
def mZ.next{G:Nat}{d:dw}{p:gz}{I D H:Nat}{dj cq:Nat->Nat}{m:Nat}{u:Value}(bn:mZ G B d p I cG D cA H dc dj cq m u wr){l n:World}{o:Obj}{E g cap:Nat}(J:wr.drew.grownBy l none)(ap:wr.heap.size<=c)(T:∃cur:Array Value,l.heap[c]?=some (.cells cur 3))(ah:gn l c 0 (d.eP m) (d.cQ m))(w:(l.alloc o).grownBy n u.ownBlock)(ai:u.ownBlock=some g\/g=l.heap.size+1)(am:n.ownsRow B 27 2 (.slice (some ⟨g,0,none⟩) (m+1) cap) (m+1) (iR d dj cq m++xz d m c E)):
 mZ G B d p I cG D cA H dc (λi=>if i=m then c else dj i) (λi=>if i=m then E else cq i) (m+1) (.slice (some ⟨g,0,none⟩) (m+1) cap) (n.setCell ⟨cG,2,none⟩ (.slice (some ⟨g,0,none⟩) (m+1) cap))/\
  (∀X:World,X.heap.size<=G->X.grownBy wr none->X.grownBy (n.setCell ⟨cG,2,none⟩ (.slice (some ⟨g,0,none⟩) (m+1) cap)) none)/\∀i,i<B->i≠cG->(n.setCell ⟨cG,2,none⟩ (.slice (some ⟨g,0,none⟩) (m+1) cap)).heap[i]?=wr.heap[i]?:=by
 obtain⟨au,ay,az,aA,aj,aB,Z,ak,al,av,aw,ax⟩:=bn.bY;have K:∀r,u.ownBlock=some r->B<=r/\r<wr.heap.size:=λr e=>rh bn.own r e
 have z:=bn.dD;have aC:wr.heap.size<=l.heap.size:=J.size;have ao:=w.size;simp at ao;have Y:∀i,i<wr.heap.size->l.heap[i]?=wr.heap[i]?:=λi y=>J.block i y aF
 have M:∀i,i<l.heap.size->u.ownBlock≠some i->n.heap[i]?=l.heap[i]?:=λi q f=>(w.block i cH (λe=>f e.symm)).trans (dm q)
 have P:∀i,i≠cG->(n.setCell ⟨cG,2,none⟩ (.slice (some ⟨g,0,none⟩) (m+1) cap)).heap[i]?=n.heap[i]?:=λi h=>e1 (by show i≠cG;exact h)
 have keep:∀i,i<wr.heap.size->i≠cG->u.ownBlock≠some i->(n.setCell ⟨cG,2,none⟩ (.slice (some ⟨g,0,none⟩) (m+1) cap)).heap[i]?=wr.heap[i]?:=λi q f ag=>(P i f).trans ((M i U ag).trans (Y i q))
 have low:∀i,i<B->i≠cG->(n.setCell ⟨cG,2,none⟩ (.slice (some ⟨g,0,none⟩) (m+1) cap)).heap[i]?=wr.heap[i]?:=λi q f=>keep i U f λe=>by have:=(K i e).1;omega
 have R:c<l.heap.size:=by obtain⟨cur,h⟩:=T;exact bu h
 have S:u.ownBlock≠some c:=λe=>by have:=(K c e).2;omega
 have af:n.heap[cG]?=_:=((M cG U (λe=>by have:=(K cG e).1;omega)).trans (Y cG U)).trans bn.blk;have V:∀i,i<l.heap.size->u.ownBlock≠some i->(some g:Option Nat)≠some i:=λi q f e=>by
  have e:=bD e;subst e;rcases ai with h|h
  .exact f h
  .omega
 refine⟨⟨(low I aj al).trans bn.k5,cU af,?_,λi y=>?_,λi j q f=>?_,⟨bn.first.1.lK (low D Z U),?_⟩,bn.free.lK (low H ak U),bn.bY,cH⟩,λX aq L=>?_,low⟩
 .have e:iR d (λi=>if i=m then c else dj i) (λi=>if i=m then E else cq i) (m+1)=iR d dj cq m++xz d m c E:=by simp only[iR,if_true];rw[Fg d m λi y=>⟨if_neg U,if_neg U⟩]
  rw[e];exact j4 am λi q f=>P i U
 .by_cases hm:i=m
  .subst hm
   simp only[if_true];have f:(n.setCell ⟨cG,2,none⟩ (.slice (some ⟨g,0,none⟩) (i+1) cap)).heap[c]?=l.heap[c]?:=(P c U).trans (M c R S);exact⟨ah.lK f,by obtain⟨cur,h⟩:=T;exact⟨cur,f.trans h⟩,U,V c R S⟩
  .simp only[if_neg hm]
   obtain⟨q1,⟨cur,F⟩,aa,Q⟩:=bn.cQ i U;have ad:=bu F;have f:=keep (dj i) ad U Q;exact⟨q1.lK f,⟨cur,f.trans F⟩,aa,V _ U Q⟩
 .by_cases W:j=m
  .subst W
   simp only[if_true,if_neg (show i≠j by omega)];obtain⟨q1,⟨cur,F⟩,aa,Q⟩:=bn.cQ i q;have ad:=bu F;omega
  .simp only[if_neg W,if_neg (show i≠m by omega)]
   exact bn.qK i j q U
 .obtain⟨cur,h⟩:=bn.first.2
  exact⟨cur,(low D Z U).trans h⟩
 .have ae:X.grownBy wr.drew none:=gv L
  have C:=(ae.trans J).trans (dU _ o none);have ar:=L.size;refine⟨?_,?_,?_,?_,λi y _=>?_⟩
  .exact w.os.trans C.os
  .exact w.tape.trans C.tape
  .exact w.output.trans C.output
  .have:=C.size;simp at this ⊢;omega
  .exact(low i U U).trans (L.block i y aF)
abbrev rL:Array Value:=#[.int .i64 0,.slice none 0 0,.slice none 0 0,.slice none 0 0]
def mZ.begin{W:World}{d:dw}{p:gz}{f:Nat}{dj cq:Nat->Nat}(k5:X.heap[w.heap.size]?=some (.cells (eB d p) 25))(m:X.heap[w.heap.size+1]?=some (.cells rL 25))(g:w.grownBy X none)(hF:gn X c 0 d.c' d.first)(r:∃cur:Array Value,X.heap[c]?=some (.cells cur 3))(u:gn X f 0 d.b' d.free)(bY:w.heap.size+1<cG/\w.heap.size+1<c/\w.heap.size+1<f/\cG<W.heap.size/\c<X.heap.size/\f<X.heap.size/\cG≠c/\cG≠f/\c≠f)(q:W.heap[cG]?=some (.cells (uN d.kinds (.slice (some ⟨c,0,none⟩) d.c' cA) (.slice none 0 0) (.slice (some ⟨f,0,none⟩) d.b' dc)) 25))(k:∀i,i<X.heap.size->i≠cG->W.heap[i]?=X.heap[i]?)(D:X.heap.size<=W.heap.size)(l:W.os=X.os/\W.tape=X.tape/\W.output=X.output):
 mZ w.heap.size W.heap.size d p w.heap.size cG c cA f dc dj cq 0 (.slice none 0 0) W/\w.grownBy W none/\W.heap[w.heap.size+1]?=some (.cells rL 25)/\(w.heap.size+1≠c/\w.heap.size+1≠f/\w.heap.size+1≠cG/\w.heap.size+1<W.heap.size):=by
 obtain⟨E,F,G,H,o,z,I,J,K⟩:=bY;have C:=g.size;refine⟨⟨(k _ U U).trans k5,q,⟨rfl,.inl ⟨rfl,rfl⟩⟩,λi n=>U,λi j B m=>U,⟨hF.lK (k c o U),?_⟩,u.lK (k f z U),U,bg⟩,⟨l.1.trans g.os,l.2.1.trans g.tape,l.2.2.trans g.output,U,λi n y=>(k i U U).trans (g.block i n y)⟩,(k _ U U).trans m,U⟩;obtain⟨cur,h⟩:=r;exact⟨cur,(k c o U).trans h⟩
def q0{v0 v1 v2 v3:Value}{c:Array Value}(h:X.heap[b]?=some (.cells c 25)):((((X.setCell ⟨b,0,none⟩ v0).setCell ⟨b,1,none⟩ v1).setCell ⟨b,2,none⟩ v2).setCell ⟨b,3,none⟩ v3).heap[b]?=some (.cells ((((c.setIfInBounds 0 v0).setIfInBounds 1 v1).setIfInBounds 2 v2).setIfInBounds 3 v3) 25)/\
 ∀i,i≠b->((((X.setCell ⟨b,0,none⟩ v0).setCell ⟨b,1,none⟩ v1).setCell ⟨b,2,none⟩ v2).setCell ⟨b,3,none⟩ v3).heap[i]?=X.heap[i]?:=
 ⟨cU (cU (cU (cU h))),λi h=>(e1 (by show i≠b;exact h)).trans ((e1 (by show i≠b;exact h)).trans ((e1 (by show i≠b;exact h)).trans (e1 (by show i≠b;exact h))))⟩
structure qx(w:World)(d:dw)(p:gz)(w':World):Prop where
 raw:iZ w' d p
 own:w'.ownsRow w.heap.size 27 2 (.slice p.hH d.bk p.dq) d.bk (iR d (λi=>((p.fh i).map (·.block)).getD 0) p.cq d.bk)
 plain:(∃b,p.eh=some ⟨b,0,none⟩/\w.heap.size<=b/\(Value.slice p.hH d.bk p.dq).ownBlock≠some b)/\(∃b,p.ei=some ⟨b,0,none⟩/\w.heap.size<=b/\(Value.slice p.hH d.bk p.dq).ownBlock≠some b)/\∀i,i<d.bk->∃b,p.fh i=some ⟨b,0,none⟩/\w.heap.size<=b/\(Value.slice p.hH d.bk p.dq).ownBlock≠some b
def mZ.done{n:World}{d:dw}{p:gz}{z j l:Nat}{m:Option Addr}{dq:Nat}{dj cq:Nat->Nat}(bn:mZ w.heap.size B d p z cG j cA l dc dj cq d.bk (.slice m d.bk dq) wr)(K:w.heap.size+1≠j/\w.heap.size+1≠l/\w.heap.size+1≠cG/\w.heap.size+1<B)(k:∀i,i≠w.heap.size+1->n.heap[i]?=wr.heap[i]?):
 qx w d ⟨some ⟨j,0,none⟩,cA,m,dq,λi=>some ⟨dj i,0,none⟩,cq,some ⟨l,0,none⟩,dc⟩ n:=by
 obtain⟨L,R,G,H,S,T,V,W,X,M,P,Q⟩:=bn.bY;have own:n.ownsRow B 27 2 (.slice m d.bk dq) d.bk (iR d dj cq d.bk):=j4 bn.own λg I _=>k g U
 have y:∀r,(Value.slice m d.bk dq).ownBlock=some r->B<=r:=λr e=>(rh bn.own r e).1
 have F:∀i,i<d.bk->gn n (dj i) 0 (d.eP i) (d.cQ i):=λi f=>(bn.cQ i f).1.lK (k _ (by have:=(bn.cQ i f).2.2.1;omega))
 refine⟨⟨λ_=>⟨j,0,rfl,bn.first.1.lK (k j U)⟩,λE=>?_,λi f _=>⟨dj i,0,rfl,F i f⟩,λ_=>⟨l,0,rfl,bn.free.lK (k l U)⟩⟩,?_,⟨j,rfl,G,λe=>by have:=y _ e;omega⟩,⟨l,rfl,H,λe=>by have:=y _ e;omega⟩,λi f=>⟨dj i,rfl,by have:=(bn.cQ i f).2.2.1;omega,(bn.cQ i f).2.2.2⟩⟩
 .obtain⟨C,c,cur,e,_,o,q⟩:=xk own E
  cases e;refine⟨C,0,rfl,λi f=>⟨nQ o q (xy d dj cq d.bk i f).1,?_⟩⟩;rw[Nat.add_assoc];exact nQ o q (xy d dj cq d.bk i f).2
 .obtain⟨u,h|⟨g,c,cur,D,J,h⟩⟩:=own
  .exact⟨u,.inl h⟩
  .exact⟨u,.inr ⟨g,c,cur,D,U,h⟩⟩
def M7{d:Nat}{e:TypeId}{v:Value}{xs:List Value}(h:w.ownsRow B e d v n xs):∃q c,v=.slice q n c:=by
 obtain⟨f,⟨rfl,rfl⟩|⟨b,c,cur,rfl,_⟩⟩:=h
 .exact⟨none,0,rfl⟩
 .exact⟨_,_,rfl⟩
def oU(w:World){a:Nat}(h:a≠b)(v0 v1 v2 v3:Value):((((w.setCell ⟨b,0,none⟩ v0).setCell ⟨b,1,none⟩ v1).setCell ⟨b,2,none⟩ v2).setCell ⟨b,3,none⟩ v3).cell? ⟨a,o,none⟩=w.cell? ⟨a,o,none⟩:=
 (pL _ h).trans ((pL _ h).trans ((pL _ h).trans (pL _ h)))
def Le[S:Std A](d:dw)(aY:d.small)(p:gz)(w:World)(h:iZ w d p):
 Calls (ao A) 8 #[.agg (eB d p)] w λe w'=>∃ia:gz,e=.returned (.agg (eB d ia))/\qx w d ia w'/\w.grownBy w' none:=by
 have ck:=aY.F;have cn:=aY.h4;have a7:=al aY;have H:=al h;obtain⟨c,aa⟩:∃c,(w.alloc (.cells (eB d p) 25)).alloc (.cells #[.int .i64 0,.slice none 0 0,.slice none 0 0,.slice none 0 0] 25)=c:=⟨_,rfl⟩
 have aP:w.grownBy c none:=by rw[<-aa];exact bT.trans bT
 have aJ:c.heap.size=w.heap.size+2:=by rw[<-aa];simp
 have ae:c.heap[w.heap.size]?=some (.cells (eB d p) 25):=by rw[<-aa];exact(dm aF).trans (fM _ _)
 have ba:c.heap[w.heap.size+1]?=some (.cells rL 25):=by rw[<-aa,show w.heap.size+1=(w.alloc (.cells (eB d p) 25)).heap.size by simp];exact fM _ _
 have a5:=al ba;clear ba;have t1:=h.keep aP;have bx:=aU (o:=0) ae;have Y:=aU (o:=1) ae;have bV:=aU (o:=2) ae;have c3:=aU (o:=3) ae;have aK:=al aP;have aC:=al aJ;have a4:=al ae;have aj:=al t1;have L:=al aa;clear aP aJ ae t1 aa h;go_enter (S.f Tryz.func8),Tryz.ntmps8;go_upto_region 1 with fail
 have aQ:=L.out;dsimp only[eB]at aQ;rw[aQ];clear aQ;have bx:c.cell? ⟨w.heap.size,0,none⟩=some (.int .i64 d.kinds):=bx.trans rfl;have Y:c.cell? ⟨w.heap.size,1,none⟩=some (.slice p.eh d.c' p.cA):=Y.trans rfl;have c3:c.cell? ⟨w.heap.size,3,none⟩=some (.slice p.ei d.b' p.dc):=c3.trans rfl;have cr:c.grownBy c.drew none:=gv (e6 _ _);have a3:=al cr;have az:=al (show ∀(W:World) (o:Obj),c.grownBy W none->(W.alloc o).cell? ⟨w.heap.size,0,none⟩=some (.int .i64 d.kinds)/\(W.alloc o).cell? ⟨w.heap.size,1,none⟩=some (.slice p.eh d.c' p.cA)/\(W.alloc o).cell? ⟨w.heap.size,3,none⟩=some (.slice p.ei d.b' p.dc)from λW o g=>by have af:=g.trans (dU W o none);exact⟨af.cell bx aF,af.cell Y aF,af.cell c3 aF⟩)
 have ad:=al (show ∀o:Obj,c.grownBy (c.alloc o).drew none from λo=>gv bT);have a1:=al (show ∀o:Obj,(c.alloc o).drew.cell? ⟨w.heap.size,0,none⟩=some (.int .i64 d.kinds)/\(c.alloc o).drew.cell? ⟨w.heap.size,1,none⟩=some (.slice p.eh d.c' p.cA)/\(c.alloc o).drew.cell? ⟨w.heap.size,3,none⟩=some (.slice p.ei d.b' p.dc)from λo=>⟨(ad.out o).cell bx aF,(ad.out o).cell Y aF,(ad.out o).cell c3 aF⟩);have bc:c.drew.cell? ⟨w.heap.size,0,none⟩=some (.int .i64 d.kinds):=bx;have bd:c.drew.cell? ⟨w.heap.size,1,none⟩=some (.slice p.eh d.c' p.cA):=Y;have bf:c.drew.cell? ⟨w.heap.size,3,none⟩=some (.slice p.ei d.b' p.dc):=c3;clear cr;go_region_held3 (λW=>W.cell? ⟨w.heap.size,0,none⟩=some (.int .i64 d.kinds)/\W.cell? ⟨w.heap.size,1,none⟩=some (.slice p.eh d.c' p.cA)/\W.cell? ⟨w.heap.size,3,none⟩=some (.slice p.ei d.b' p.dc))
  (first|with_reducible exact⟨bc,bd,bf⟩|with_reducible exact a1.out _|with_reducible exact⟨bw,bz,bA⟩|with_reducible exact az.out _ _ D.out|with_reducible exact⟨cT,aw,ax⟩|with_reducible exact az.out _ _ (D.out.trans M.out)|with_reducible exact⟨(oU j aT _ _ _ _).trans cT,(oU j aT _ _ _ _).trans aw,(oU j aT _ _ _ _).trans ax⟩|with_reducible exact⟨(oU j aV _ _ _ _).trans cT,(oU j aV _ _ _ _).trans aw,(oU j aV _ _ _ _).trans ax⟩|(have q:=az.out _ (.cells #[.int .i64 0,.slice none 0 0,.slice none 0 0,.slice none 0 0] 25) (D.out.trans M.out);with_reducible exact⟨(oU _ aW _ _ _ _).trans q.1,(oU _ aW _ _ _ _).trans q.2.1,(oU _ aW _ _ _ _).trans q.2.2⟩))
  (first
  |(go_at_call 26;refine(wP (A:=A) p.eh d.c' p.cA d.first U _ (by first|exact(aj.out.keep a3.out).first|exact(aj.out.keep (ad.out _)).first)).mono ?_;rintro e w3 ⟨F,⟨cA,rfl⟩,am,ag,ap,f⟩;have P:c.grownBy w3 none:=(by first|exact a3.out.trans f|exact(ad.out _).trans f);have bw:=P.cell bx aF;have bz:=P.cell Y aF;have bA:=P.cell c3 aF;(try (have bF:=(f.block c.heap.size (by show c.heap.size<(c.alloc _).heap.size;simp) aF).trans (fM c _)));have bL:=al f;have D:=al P;have a6:=al (And.intro am (And.intro ag ap));clear f P am ag ap)
  |(go_at_call 26;refine(wP (A:=A) p.ei d.b' p.dc d.free U _ (by first|exact(aj.out.keep D.out).free|exact(aj.out.keep (D.out.trans bT)).free)).mono ?_;rintro e j ⟨J,⟨dc,rfl⟩,aq,ar,Z,f⟩;have Q:w3.grownBy j none:=(by first|exact f|exact bT.trans f);have cT:=Q.cell bw aF;have aw:=Q.cell bz aF;have ax:=Q.cell bA aF;(try (have C:=(f.block c.heap.size (bu bF) aF).trans bF));(try (have C:=(f.block w3.heap.size aF aF).trans (fM w3 _)));have bM:=al f;have M:=al Q;have a8:=al (And.intro aq (And.intro ar Z));(try (have b9:=aU (o:=0) C));(try (have z0:=b3 (o:=0) C));(try (have ca:=aU (o:=1) C));(try (have aJ:=b3 (o:=1) C));(try (have cb:=aU (o:=2) C));(try (have ce:=b3 (o:=2) C));(try (have cc:=aU (o:=3) C));(try (have z3:=b3 (o:=3) C));have aT:w.heap.size≠c.heap.size:=(by have:=aC.out;omega);have aV:w.heap.size≠w3.heap.size:=(by have:=aC.out;have:=D.out.size;omega);have aW:w.heap.size≠j.heap.size:=(by have:=aC.out;have:=D.out.size;have:=M.out.size;omega);(try (have aD:=al C;clear C));clear f Q aq ar Z))
 all_goals (
  have aa:=aC.out;have ak:=D.out.trans M.out;have b6:=D.out.size;have b7:=M.out.size;obtain⟨am,⟨bW,ag⟩,ap⟩:=a6.out;obtain⟨aq,⟨ch,ar⟩,Z⟩:=a8.out;have bB:=bu ag;have b2:=bu ar;have aH:j.heap[w.heap.size]?=some (.cells (eB d p) 25):=(ak.block _ U aF).trans a4.out;have aI:=ap.keep M.out aF;have aE:j.heap[F]?=some (.cells bW 3):=(M.out.block _ bB aF).trans ag;have cf:=aK.out.trans ak;have ay:j.heap[w.heap.size+1]?=some (.cells rL 25):=(ak.block _ U aF).trans a5.out;have aA:=aK.out.trans ak;have V:=al (And.intro am aq);clear am aq)
 focus (
  have n:=mZ.begin (cG:=j.heap.size) (cA:=cA) (dc:=dc) (dj:=λ_=>0) (cq:=λ_=>0) aH ay aA aI ⟨_,aE⟩ Z (by obtain⟨I,y⟩:=V.out;have I:c.heap.size<=F:=I;have y:w3.heap.size<=J:=y;simp only[cV];omega) (fM j (.cells (uN d.kinds (.slice (some ⟨F,0,none⟩) d.c' cA) (.slice none 0 0) (.slice (some ⟨J,0,none⟩) d.b' dc)) 25)) (λi h _=>dm h) aF ⟨rfl,rfl,rfl⟩;unfold uN at n;generalize hW:j.alloc _=aZ at n ⊢;generalize aR:j.heap.size=cG at n ⊢)
 rotate_left
 focus (
  have n:=mZ.begin (cG:=w3.heap.size) (cA:=cA) (dc:=dc) (dj:=λ_=>0) (cq:=λ_=>0) aH ay aA aI ⟨_,aE⟩ Z (by obtain⟨I,y⟩:=V.out;have I:c.heap.size<=F:=I;have y:(w3.alloc (.cells rL 25)).heap.size<=J:=y;simp only[cV]at y;simp only[World.size_setCell];omega) (q0 aD.out).1 (λi _ h=>(q0 aD.out).2 i h) (by simp only[World.size_setCell];omega) ⟨rfl,rfl,rfl⟩;generalize hW:World.setCell (World.setCell (World.setCell (World.setCell j ⟨w3.heap.size,0,none⟩ _) _ _) _ _) _ _=aZ at n ⊢;generalize aR:w3.heap.size=cG at n ⊢)
 rotate_left
 focus (
  have n:=mZ.begin (cG:=c.heap.size) (cA:=cA) (dc:=dc) (dj:=λ_=>0) (cq:=λ_=>0) aH ay aA aI ⟨_,aE⟩ Z (by obtain⟨I,y⟩:=V.out;have I:(c.alloc (.cells rL 25)).heap.size<=F:=I;have y:w3.heap.size<=J:=y;simp only[cV]at I;simp only[World.size_setCell];omega) (q0 aD.out).1 (λi _ h=>(q0 aD.out).2 i h) (by simp only[World.size_setCell];omega) ⟨rfl,rfl,rfl⟩;generalize hW:World.setCell (World.setCell (World.setCell (World.setCell j ⟨c.heap.size,0,none⟩ _) _ _) _ _) _ _=aZ at n ⊢;generalize aR:c.heap.size=cG at n ⊢)
 rotate_left
 all_goals (
  obtain⟨n,a2,a0,aS⟩:=n;clear hW aR D M bL bM a6 a8 V b6 b7 ag ap ar Z bB b2 aH aI aE ay aA ak;clear bx Y bV c3 bc bd bf ad a1 az a4 aj L a5 aK;obtain⟨B,bj⟩:∃B,B=aZ.heap.size:=⟨_,rfl⟩
  rw[<-bj]at n aS;obtain⟨b1,bp,bs,bt,bv⟩:=zz (A:=A);have bN:=al bp;have bR:=al bs;have bS:=al bt;have bU:=al bv;have bO:=al n;have bJ:=al a2;have bI:=al a0;have aM:=al aS;have cm:=a7.out.R;clear bp bs bt bv bj n a2 a0 aS;go_wp2;go_loopw [4] (λi wr=>∃(m:Nat) (dj cq:Nat->Nat) (z:Value),m<=d.bk/\i=.int .i64 m/\mZ w.heap.size B d p w.heap.size cG F cA J dc dj cq m z wr/\w.grownBy wr none/\wr.heap[w.heap.size+1]?=some (.cells rL 25)) (λi _=>d.bk-(TH i).toNat)
  case atStart=>exact⟨0,_,_,_,U,by go_num,bO.out,bJ.out,bI.out⟩
  case round=>
   obtain⟨m,dj,cq,z,hm,rfl,bn,G,E⟩:=hrel;have bE:wr.cell? ⟨w.heap.size,2,none⟩=some (.slice p.hH d.bk p.dq):=(aU (o:=2) bn.k5).trans rfl;by_cases R:m<d.bk
   .have hd:decide ((m:Int)<d.bk)=true:=by simpa using R
    have bX:decide (m<d.bk)=true:=by simpa using R
    obtain⟨u,K,bh,aG⟩:=H.out.kM U;have cp:u<w.heap.size:=lD (aG m R).1;have r1:=G.cell (aG m R).1 aF;have b5:=G.cell (aG m R).2 aF;have bQ:=al ((H.out.keep G).cQ m R);have cl:=a7.out.P m R;rw[bh]at bE;clear aG bh;have v3:wr.cell? ⟨cG,2,none⟩=some z:=(aU (o:=2) bn.blk).trans rfl;have bG:=al (show wr.grownBy wr.drew none from gv (e6 _ _));have d2:wr.drew.cell? ⟨w.heap.size,2,none⟩=some (.slice (some ⟨u,K,none⟩) d.bk p.dq):=bE;have d3:wr.drew.cell? ⟨u,K+m*2,none⟩=some (.int .i64 (d.bV m)):=r1;have d4:wr.drew.cell? ⟨u,K+m*2+1,none⟩=some (.slice (p.fh m) (d.eP m) (p.cq m)):=b5;have au:∀r,z.ownBlock=some r->B<=r/\r<wr.heap.size:=λr e=>rh bn.own r e
    have cg:=al au;have bY:=bn.bY;have aw:(some w.heap.size:Option Nat)≠z.ownBlock:=λe=>by have:=(au _ e.symm).1;omega
    have bD:(some u:Option Nat)≠z.ownBlock:=λe=>by have:=(au _ e.symm).1;omega
    have ax:(some cG:Option Nat)≠z.ownBlock:=λe=>by have:=(au _ e.symm).1;omega
    have b4:w.heap.size≠cG:=U;have bC:u≠cG:=U;have cj:=bn.dD;have co:cG<B:=U;have ai:=al bn;have T:=al G;have L:=al E;clear bn G E au bY;go_wp2;simp only[wV 23 (.tmp 21)];have ct:=wW;go_region_held3 (λW=>W.cell? ⟨w.heap.size,2,none⟩=some (.slice (some ⟨u,K,none⟩) d.bk p.dq)/\W.cell? ⟨u,K+m*2,none⟩=some (.int .i64 (d.bV m))/\W.cell? ⟨u,K+m*2+1,none⟩=some (.slice (p.fh m) (d.eP m) (p.cq m)))
     (first|with_reducible exact⟨d2,d3,d4⟩|with_reducible exact⟨f2,f3,f4⟩|with_reducible exact aB.out _|with_reducible exact⟨af,P,Q⟩|with_reducible exact⟨(pL _ b4).trans af,(pL _ bC).trans P,(pL _ bC).trans Q⟩)
     (first
     |(go_at_call 26;refine(wP (A:=A) (p.fh m) (d.eP m) (p.cq m) (d.cQ m) U _ (bQ.out.keep bG.out)).mono ?_;rintro e l ⟨a9,⟨bb,rfl⟩,bk,bl,bm,f⟩;have f2:=f.cell d2 aF;have f3:=f.cell d3 aF;have f4:=f.cell d4 aF;have v5:l.cell? ⟨cG,2,none⟩=some z:=f.cell (a:=⟨cG,2,none⟩) v3 aF;have cC:∀o:Obj,(l.alloc o).cell? ⟨cG,2,none⟩=some z:=(λo=>(dU l o none).cell v5 aF);have aB:=al (show ∀o:Obj,(l.alloc o).cell? ⟨w.heap.size,2,none⟩=some (.slice (some ⟨u,K,none⟩) d.bk p.dq)/\(l.alloc o).cell? ⟨u,K+m*2,none⟩=some (.int .i64 (d.bV m))/\(l.alloc o).cell? ⟨u,K+m*2+1,none⟩=some (.slice (p.fh m) (d.eP m) (p.cq m))from λo=>⟨(dU l o none).cell f2 aF,(dU l o none).cell f3 aF,(dU l o none).cell f4 aF⟩);have aN:=al (And.intro bk (And.intro bl bm));have X:=al f;clear f bk bl bm)
     |(refine step_append_lies _ (by rfl) _ _ _ (by rfl) B 27 b1 (.agg #[.int .i64 0,.slice none 0 0]) 2 32 av bN.out bR.out bS.out bU.out rfl U z m (iR d dj cq m) (by rfl) (j4 ai.out.own (λi I y=>(dm (gu y X.out.size)).trans (X.out.block i y aF))) ⟨l.heap.size,0,none⟩ 1 1 [.int .i64 (d.bV m),.slice (some ⟨a9,0,none⟩) (d.eP m) bb] (by rfl) (by rfl) (World.news_of_block (cs:=#[.int .i64 (d.bV m),.slice (some ⟨a9,0,none⟩) (d.eP m) bb]) (t:=27) (fr:=(0,0)) (heap_alloc_new l _)) (by simp[Value.oneCell']) U kj U (by have bi:wr.heap.size<=l.heap.size:=X.out.size;simp only[cV];omega) (l.heap.size+1) aF ?_;intro ci cap b8 br ah bo cu;have af:=ah.cell (aB.out _).1 aw;have P:=ah.cell (aB.out _).2.1 bD;have Q:=ah.cell (aB.out _).2.2 bD;have aO:b8.heap[cG]?=some (.cells (uN d.kinds (.slice (some ⟨F,0,none⟩) d.c' cA) z (.slice (some ⟨J,0,none⟩) d.b' dc)) 25):=(ah.block cG (by have bi:wr.heap.size<=l.heap.size:=X.out.size;simp only[cV];omega) ax).trans ((dm (by have bi:wr.heap.size<=l.heap.size:=X.out.size;omega)).trans ((X.out.block cG (by show cG<wr.heap.size;omega) aF).trans ai.out.blk));have cz:=aU (o:=2) aO;have cB:=b3 (o:=2) aO;have bP:=al br;have bK:=al ah;have bH:=al bo;clear br ah bo aO))
    all_goals (
     have bq:=ai.out.next X.out aN.out.1 aN.out.2.1 aN.out.2.2 bK.out bH.out bP.out;have aL:=al bq;clear bq;go_wp2;exact⟨⟨m+1,_,_,_,U,by push_cast;rfl,aL.out.1,aL.out.2.1 w bg T.out,(aL.out.2.2 _ aM.out.2.2.2 aM.out.2.2.1).trans L.out⟩,by show d.bk-((m:Int)+1).toNat<d.bk-(m:Int).toNat;omega⟩)
   .have hd:decide ((m:Int)<d.bk)=false:=cH
    have bX:decide (m<d.bk)=false:=by simpa using R
    obtain rfl:m=d.bk:=U;obtain⟨aX,dq,rfl⟩:=M7 bn.own;have cv:wr.cell? ⟨cG,0,none⟩=some (.int .i64 d.kinds):=(aU (o:=0) bn.blk).trans rfl;have cw:wr.cell? ⟨cG,1,none⟩=some (.slice (some ⟨F,0,none⟩) d.c' cA):=(aU (o:=1) bn.blk).trans rfl;have cx:wr.cell? ⟨cG,2,none⟩=some (.slice aX d.bk dq):=(aU (o:=2) bn.blk).trans rfl;have cy:wr.cell? ⟨cG,3,none⟩=some (.slice (some ⟨J,0,none⟩) d.b' dc):=(aU (o:=3) bn.blk).trans rfl;have b9:=aU (o:=0) E;have ca:=aU (o:=1) E;have cb:=aU (o:=2) E;have cc:=aU (o:=3) E;have z0:=b3 (o:=0) E;have aJ:=b3 (o:=1) E;have ce:=b3 (o:=2) E;have z3:=b3 (o:=3) E;have ai:=al bn;have T:=al G;have L:=al E;clear bn G E;go_wp2;refine bodyPost_ret (results_cell_row rfl _ _ (w.heap.size+1) 25 #[.int .i64 d.kinds,.slice (some ⟨F,0,none⟩) d.c' cA,.slice aX d.bk dq,.slice (some ⟨J,0,none⟩) d.b' dc] (0,0) _ rfl (q0 L.out).1 (ao.underlying25 A) rfl FA) rfl ?_;refine⟨⟨some ⟨F,0,none⟩,cA,aX,dq,λi=>some ⟨dj i,0,none⟩,cq,some ⟨J,0,none⟩,dc⟩,rfl,ai.out.done aM.out (q0 L.out).2,?_⟩;exact⟨T.out.os,T.out.tape,T.out.output,by have:=T.out.size;simp only[World.size_setCell];omega,λi bZ b0=>((q0 L.out).2 i U).trans (T.out.block i bZ b0)⟩)
end
end Go.aO
