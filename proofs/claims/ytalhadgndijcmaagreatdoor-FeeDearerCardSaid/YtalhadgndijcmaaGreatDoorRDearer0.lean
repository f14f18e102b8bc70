/- A part of FeeDearer: no conditions. -/
import Derived.Test.YtalhadgndijcmaaGreatDoorP41
set_option maxHeartbeats 8000000
set_option maxRecDepth 100000
set_option linter.all false
namespace Go.aN
open Go.Proofs Go.RowKit
section
variable{F:Array Func}[S:Std F]
@[simp] theorem ag.call19:dg F 19:=dS Tryz.func19
@[simp] theorem ag.call37:dg F 37:=dS Tryz.func37
@[simp] theorem ag.call38:dg F 38:=dS Tryz.func38
end
section
variable{A:Array Func}
theorem Qe{d:cR}(ok:d.ok){k:Nat}(U:k<d.kinds){a b:Nat}(hb:b<120): 0<=fP (d.first k) (cC d k) a b/\fP (d.first k) (cC d k) a b<=100:=by
 have I:=ok.first k U
 have J:=Ni (λday=>oD ok U day) (a / 24+1) (b / 24-a / 24);unfold fP;have:b / 24-a / 24<=4:=by omega
 have:((b / 24-a / 24:Nat):Int)<=4:=by omega
 omega
end
section
variable{A:Array Func}
theorem Qh{w:World}{B n:Nat}{v:Value}{f:Nat->Int}(ak:0<n)(h:w.ownsRow B 3 1 v n ((List.range n).map λj=>fX (f j))): ∃g cap cur,v=.slice (some ⟨g,0,none⟩) n cap/\B<=g/\w.heap[g]?=some (.cells cur 3)/\iD w g 0 n f:=by
 obtain⟨g,cap,cur,rfl,I,_,J,ax⟩:=xY h ak;refine⟨g,cap,cur,rfl,I,J,λj aC=>?_⟩;rw[aT J,Nat.zero_add,<-Array.getElem?_toList];have e:(cur.toList.take n)[j]?=some (fX (f j)):=by rw[ax];simp[aC]
 rw[List.getElem?_take,if_pos aC] at e;exact e
theorem Qj(b:Nat)(q:Option Addr)(c:Nat)(w:World): Sem.run (ag A) (Builtin.append_ #[22,22] 22 #[.slice (some ⟨b,0,none⟩) 0 0,.slice q 0 c]) w=.ok (.slice (some ⟨b,0,none⟩) 0 0) w:=by cases q<;>kernel_rfl
theorem Ql{ops:Array Oper}{rest:List Oper}{o:Oper}{a:Act}{Q:Exit->Act->World->Prop}{w:World}(f:o.guard=none)(s x:Operand)(av:o.op=.call {callee:=.builtin .append,args:=#[s,x],argTypes:=#[22,22]})(az:o.type=22)(b:Nat)(q:Option Addr)(c:Nat)(af:a.eval s=.slice (some ⟨b,0,none⟩) 0 0)(g:a.eval x=.slice q 0 c)(h:wpList (ag A) ops Q rest (a.put o.dst (.slice (some ⟨b,0,none⟩) 0 0)) w):
 wpList (ag A) ops Q (o::rest) a w:=by
 refine wpList_plain f λK d=>?_
 unfold Oper.wp execOp;simp only[av,az,resolve,invoke,builtin,Sem.run_bind,Sem.run_pure,Result.andThen_ok,List.map_toArray,List.map_cons,List.map_nil,af,g,Qj];exact d _ _ h
theorem PY[S:Std A](q:Option Addr)(n c:Nat)(f:Nat->Int)(ak:n<=100)(w:World)(h:n≠0->∃b o,q=some ⟨b,o,none⟩/\iD w b o n f):
 Calls (ag A) 38 #[.slice q n c] w λe w'=>∃bb:Nat,(∃bo:Nat,e=.returned (.slice (some ⟨bb,0,none⟩) n bo))/\w.heap.size<=bb/\(∃cur:Array Value,w'.heap[bb]?=some (.cells cur 3))/\iD w' bb 0 n f/\w.grownBy w' none:=by
 obtain⟨M,aj,l,p,r⟩:=xj (A:=A);by_cases aP:n=0
 . subst aP
   clear h aj l p r;go_enter (S.f Tryz.func38),Tryz.ntmps38;go_wp2_with (at_builtin;refine Ql rfl _ _ rfl rfl w.heap.size q c rfl rfl ?_)
   go_ret;exact⟨w.heap.size,⟨0,rfl⟩,Pk,⟨#[],gA _ _⟩,λj aC=>by omega,Pn⟩
 . obtain⟨b,o,rfl,af⟩:=h aP
   have G:=Pj af;have C:=Pj aj;have H:=Pj l;have I:=Pj p;have J:=Pj r;have D:=Pj (mV (af 0 (by omega)));have bO:(w.alloc (.cells #[] 3)).ownsRow w.heap.size 3 1 (.slice (some ⟨w.heap.size,0,none⟩) 0 0) 0 []:=⟨rfl,.inr ⟨w.heap.size,0,#[],rfl,Pk,gA _ _,Pk,by unfold maxLen;omega,rfl,rfl⟩⟩
   have K:=Pj bO;clear aj l p r bO af h;go_enter (S.f Tryz.func38),Tryz.ntmps38;have E:=Pj (show ∀(j:Nat) u,((List.range n).map λj=>fX (f j))[j]?=some u->(w.alloc (.cells #[] 3)).cell? ((⟨b,o,none⟩ : Addr).add j)=some u from λj u aC=>by
    have z:j<n/\fX (f j)=u:=by
     rw[List.getElem?_map] at aC;rcases Nat.lt_or_ge j n with x|x
     . rw[List.getElem?_range x] at aC
       exact⟨x,by simpa using aC⟩
     . rw[List.getElem?_eq_none (by simpa using x)] at aC
       cases aC
    have:=G.out j z.1;rw[show((⟨b,o,none⟩ : Addr).add j)=⟨b,o+j,none⟩ by simp[Addr.add]];rw[<-z.2];exact(Pz _ _ _ D.out).trans this)
   have F:=Pj (show ∀u∈(List.range n).map (λj=>fX (f j)),u.oneCell'=true from λu hu=>by obtain⟨n,_,rfl⟩:=List.mem_map.1 hu;rfl)
   go_wp2_with (at_builtin;refine wpList_append_own_at _ rfl _ _ 22 rfl w.heap.size 3 M (.int .i64 0) 1 8 (ag.underlying22 A) C.out H.out I.out J.out rfl (by decide) _ 0 _ rfl K.out ⟨b,o,none⟩ n c ((List.range n).map λj=>fX (f j)) rfl (by simp) E.out F.out (by unfold maxLen;omega) (by omega) (by simp) ?_;intro Q R B d P aJ)
   go_ret;rw[Nat.zero_add,List.nil_append] at B;obtain⟨g,cap,cur,rfl,ae,hb,L⟩:=Qh (by omega) B;refine⟨g,⟨cap,rfl⟩,ae,⟨cur,hb⟩,L,?_⟩;refine⟨d.os,d.tape,d.output,Po (by simp) d.size,λi aj _=>(d.block i (by simp;omega) (λe=>?_)).trans (Pq aj)⟩;have e:some i=some w.heap.size:=e;have:=Pm e;omega
end
section
variable{A:Array Func}
theorem iD.PM{w w':World}{b o n:Nat}{f:Nat->Int}(h:iD w b o n f)(k:w'.heap[b]?=w.heap[b]?): iD w' b o n f:=λj aC=>(World.cell?_of_block k).trans (h j aC)
theorem fy.PM{w w':World}{d:cR}{p:dU}{B:Nat}(h:fy w d p)(hb:p.below d B)(k:∀i,i<B->w'.heap[i]?=w.heap[i]?): fy w' d p where
 first:=h.first.PM (k _ hb.F)
 dz i aj:=(World.cell?_of_block (k _ hb.R)).trans (h.dz i aj)
 rows i aj:=(World.cell?_of_block (k _ hb.R)).trans (h.rows i aj)
 fD i aj:=(h.fD i aj).PM (k _ (hb.P i aj))
 free ak:=by obtain⟨b,o,e,n⟩:=h.free ak;exact⟨b,o,e,n.PM (k _ (hb.rL b o ak e))⟩
def PX(d:cR)(i b c:Nat): List Value:=[.int .i64 (d.dz i),.slice (some ⟨b,0,none⟩) d.kinds c]
def PQ(d:cR)(im j':Nat->Nat): Nat->List Value
 | 0=>[]
 | m+1=>PQ d im j' m++PX d m (im m) (j' m)
theorem P5(d:cR)(im j':Nat->Nat): ∀m,(PQ d im j' m).length=m*2
 | 0=>rfl
 | m+1=>by simp only[PQ,List.length_append,P5 d im j' m,PX,List.length_cons,List.length_nil];omega
theorem P4(d:cR){im j' c f:Nat->Nat}: ∀m,(∀i,i<m->im i=c i/\j' i=f i)->PQ d im j' m=PQ d c f m
 | 0,_=>rfl
 | m+1,h=>by simp only[PQ];rw[P4 d m λi aj=>h i (by omega),(h m (by omega)).1,(h m (by omega)).2]
theorem PZ(d:cR)(im j':Nat->Nat): ∀m i,i<m->(PQ d im j' m)[i*2]?=some (.int .i64 (d.dz i))/\(PQ d im j' m)[i*2+1]?=some (.slice (some ⟨im i,0,none⟩) d.kinds (j' i))
 | 0,_,h=>by omega
 | m+1,i,h=>by
  simp only[PQ];have ah:=P5 d im j' m;by_cases aj:i<m
  . have:=PZ d im j' m i aj
    rw[PF (by omega),PF (by omega)];exact this
  . obtain rfl:i=m:=by omega
    rw[PE (by omega),PE (by omega),ah,Nat.sub_self,Nat.add_sub_cancel_left];exact⟨rfl,rfl⟩
structure PR(PS B:Nat)(d:cR)(p:dU)(PN PH PI eT PJ h9:Nat)(im j':Nat->Nat)(m:Nat)(fu:Value)(w:World): Prop where
 src:fy w d p
 mn:w.heap[PN]?=some (.cells (cO d p) 25)
 blk:w.heap[PH]?=some (.cells (mE d.kinds (.slice (some ⟨PI,0,none⟩) d.kinds eT) fu (.slice (some ⟨PJ,0,none⟩) d.fC h9)) 25)
 own:w.ownsRow B 27 2 fu m (PQ d im j' m)
 fD:∀i,i<m->iD w (im i) 0 d.kinds (d.fD i)/\(∃cur:Array Value,w.heap[im i]?=some (.cells cur 3))/\B<=im i/\fu.ownBlock≠some (im i)
 rP:∀i j,i<j->j<m->im i<im j
 first:iD w PI 0 d.kinds d.first/\∃cur:Array Value,w.heap[PI]?=some (.cells cur 3)
 free:iD w PJ 0 d.fC d.free
 b4:PS<=PN/\PS<=PH/\PS<=PI/\PS<=PJ/\PN<B/\PH<B/\PI<B/\PJ<B/\PN≠PH/\PH≠PI/\PH≠PJ/\PI≠PJ
 dm:B<=w.heap.size
theorem PR.next{w B:Nat}{d:cR}{p:dU}{H PH D eT G h9:Nat}{im j':Nat->Nat}{m:Nat}{q:Value}{wr:World}(br:PR w B d p H PH D eT G h9 im j' m q wr)(hb:p.below d w){g l:World}{o:Obj}{c E f cap:Nat}(K:wr.drew.grownBy g none)(am:wr.heap.size<=c)(al:∃cur:Array Value,g.heap[c]?=some (.cells cur 3))(ad:iD g c 0 d.kinds (d.fD m))(u:(g.alloc o).grownBy l q.ownBlock)(aJ:q.ownBlock=some f\/f=g.heap.size+1)(ai:l.ownsRow B 27 2 (.slice (some ⟨f,0,none⟩) (m+1) cap) (m+1) (PQ d im j' m++PX d m c E)):
 PR w B d p H PH D eT G h9 (λi=>if i=m then c else im i) (λi=>if i=m then E else j' i) (m+1) (.slice (some ⟨f,0,none⟩) (m+1) cap) (l.setCell ⟨PH,2,none⟩ (.slice (some ⟨f,0,none⟩) (m+1) cap))/\
  (∀X:World,X.heap.size<=w->X.grownBy wr none->X.grownBy (l.setCell ⟨PH,2,none⟩ (.slice (some ⟨f,0,none⟩) (m+1) cap)) none)/\∀i,i<B->i≠PH->(l.setCell ⟨PH,2,none⟩ (.slice (some ⟨f,0,none⟩) (m+1) cap)).heap[i]?=wr.heap[i]?:=by
 obtain⟨ap,av,aw,ay,ae,az,V,ag,ah,aq,ar,au⟩:=br.b4;have L:∀r,q.ownBlock=some r->B<=r/\r<wr.heap.size:=λr e=>xX br.own r e
 have z:=br.dm;have aA:wr.heap.size<=g.heap.size:=K.size;have ak:=u.size;simp at ak;have U:∀i,i<wr.heap.size->g.heap[i]?=wr.heap[i]?:=λi aj=>K.block i aj (by simp)
 have P:∀i,i<g.heap.size->q.ownBlock≠some i->l.heap[i]?=g.heap[i]?:=λi I J=>(u.block i (by simp;omega) (λe=>J e.symm)).trans (Pq I)
 have AY:∀i,i≠PH->(l.setCell ⟨PH,2,none⟩ (.slice (some ⟨f,0,none⟩) (m+1) cap)).heap[i]?=l.heap[i]?:=λi h=>ft (by show i≠PH;exact h)
 have keep:∀i,i<wr.heap.size->i≠PH->q.ownBlock≠some i->(l.setCell ⟨PH,2,none⟩ (.slice (some ⟨f,0,none⟩) (m+1) cap)).heap[i]?=wr.heap[i]?:=λi I J ax=>(AY i J).trans ((P i (by omega) ax).trans (U i I))
 have low:∀i,i<B->i≠PH->(l.setCell ⟨PH,2,none⟩ (.slice (some ⟨f,0,none⟩) (m+1) cap)).heap[i]?=wr.heap[i]?:=λi I J=>keep i (by omega) J λe=>by have:=(L i e).1;omega
 have R:c<g.heap.size:=by obtain⟨cur,h⟩:=al;exact bp h
 have S:q.ownBlock≠some c:=λe=>by have:=(L c e).2;omega
 have aa:l.heap[PH]?=_:=((P PH (by omega) (λe=>by have:=(L PH e).1;omega)).trans (U PH (by omega))).trans br.blk;have T:∀i,i<g.heap.size->q.ownBlock≠some i->(some f:Option Nat)≠some i:=λi I J e=>by
  have e:=Pm e;subst e;rcases aJ with h|h
  . exact J h
  . omega
 refine⟨⟨br.src.PM hb λi aj=>low i (by omega) (by omega),(low H ae ah).trans br.mn,cQ aa,?_,λi aj=>?_,λi j I J=>?_,⟨br.first.1.PM (low D V (by omega)),?_⟩,br.free.PM (low G ag (by omega)),br.b4,by simp;omega⟩,λX ao M=>?_,low⟩
 . have e:PQ d (λi=>if i=m then c else im i) (λi=>if i=m then E else j' i) (m+1)=PQ d im j' m++PX d m c E:=by simp only[PQ,if_true];rw[P4 d m λi aj=>⟨if_neg (by omega),if_neg (by omega)⟩]
   rw[e];exact kq ai λi I J=>AY i (by omega)
 . by_cases hm:i=m
   . subst hm
     simp only[if_true];have J:(l.setCell ⟨PH,2,none⟩ (.slice (some ⟨f,0,none⟩) (i+1) cap)).heap[c]?=g.heap[c]?:=(AY c (by omega)).trans (P c R S);exact⟨ad.PM J,by obtain⟨cur,h⟩:=al;exact⟨cur,J.trans h⟩,by omega,T c R S⟩
   . simp only[if_neg hm]
     obtain⟨q1,⟨cur,F⟩,W,Q⟩:=br.fD i (by omega);have Y:=bp F;have J:=keep (im i) Y (by omega) Q;exact⟨q1.PM J,⟨cur,J.trans F⟩,W,T _ (by omega) Q⟩
 . by_cases aC:j=m
   . subst aC
     simp only[if_true,if_neg (show i≠j by omega)];obtain⟨q1,⟨cur,F⟩,W,Q⟩:=br.fD i I;have Y:=bp F;omega
   . simp only[if_neg aC,if_neg (show i≠m by omega)]
     exact br.rP i j I (by omega)
 . obtain⟨cur,h⟩:=br.first.2
   exact⟨cur,(low D V (by omega)).trans h⟩
 . have Z:X.grownBy wr.drew none:=fQ M
   have C:=(Z.trans K).trans (Pv _ o none);have af:=M.size;refine⟨?_,?_,?_,?_,λi aj _=>?_⟩
   . exact u.os.trans C.os
   . exact u.tape.trans C.tape
   . exact u.output.trans C.output
   . have:=C.size;simp at this ⊢;omega
   . exact(low i (by omega) (by omega)).trans (M.block i aj (by simp))
abbrev PV:Array Value:=#[.int .i64 0,.slice none 0 0,.slice none 0 0,.slice none 0 0]
theorem PR.begin{w X W:World}{d:cR}{p:dU}{PH c eT f h9:Nat}{im j':Nat->Nat}(src:fy X d p)(hb:p.below d w.heap.size)(mn:X.heap[w.heap.size]?=some (.cells (cO d p) 25))(J:X.heap[w.heap.size+1]?=some (.cells PV 25))(g:w.grownBy X none)(hF:iD X c 0 d.kinds d.first)(o:∃cur:Array Value,X.heap[c]?=some (.cells cur 3))(q:iD X f 0 d.fC d.free)(b4:w.heap.size+1<PH/\w.heap.size+1<c/\w.heap.size+1<f/\PH<W.heap.size/\c<X.heap.size/\f<X.heap.size/\PH≠c/\PH≠f/\c≠f)(ax:W.heap[PH]?=some (.cells (mE d.kinds (.slice (some ⟨c,0,none⟩) d.kinds eT) (.slice none 0 0) (.slice (some ⟨f,0,none⟩) d.fC h9)) 25))(k:∀i,i<X.heap.size->i≠PH->W.heap[i]?=X.heap[i]?)(u:X.heap.size<=W.heap.size)(av:W.os=X.os/\W.tape=X.tape/\W.output=X.output):
 PR w.heap.size W.heap.size d p w.heap.size PH c eT f h9 im j' 0 (.slice none 0 0) W/\w.grownBy W none/\W.heap[w.heap.size+1]?=some (.cells PV 25)/\(w.heap.size+1≠c/\w.heap.size+1≠f/\w.heap.size+1≠PH/\w.heap.size+1<W.heap.size):=by
 obtain⟨z,B,C,D,l,r,E,F,G⟩:=b4;have af:=g.size;refine⟨⟨src.PM hb λi aj=>k i (by omega) (by omega),(k _ (by omega) (by omega)).trans mn,ax,⟨rfl,.inl ⟨rfl,rfl⟩⟩,λi aj=>by omega,λi j I J=>by omega,⟨hF.PM (k c l (by omega)),?_⟩,q.PM (k f r (by omega)),by omega,Pk⟩,⟨av.1.trans g.os,av.2.1.trans g.tape,av.2.2.trans g.output,by omega,λi aj ao=>(k i (by omega) (by omega)).trans (g.block i aj ao)⟩,(k _ (by omega) (by omega)).trans J,by omega⟩;obtain⟨cur,h⟩:=o;exact⟨cur,(k c l (by omega)).trans h⟩
theorem PU{X:World}{b:Nat}{v0 v1 v2 v3:Value}{c:Array Value}(h:X.heap[b]?=some (.cells c 25)): ((((X.setCell ⟨b,0,none⟩ v0).setCell ⟨b,1,none⟩ v1).setCell ⟨b,2,none⟩ v2).setCell ⟨b,3,none⟩ v3).heap[b]?=some (.cells ((((c.setIfInBounds 0 v0).setIfInBounds 1 v1).setIfInBounds 2 v2).setIfInBounds 3 v3) 25)/\
 ∀i,i≠b->((((X.setCell ⟨b,0,none⟩ v0).setCell ⟨b,1,none⟩ v1).setCell ⟨b,2,none⟩ v2).setCell ⟨b,3,none⟩ v3).heap[i]?=X.heap[i]?:=
 ⟨cQ (cQ (cQ (cQ h))),λi h=>(ft (by show i≠b;exact h)).trans ((ft (by show i≠b;exact h)).trans ((ft (by show i≠b;exact h)).trans (ft (by show i≠b;exact h))))⟩
structure KeptAt(w:World)(d:cR)(p:dU)(w':World): Prop where
 sV:fy w' d p
 first:w.heap.size<=p.gv/\p.hj=0/\∃cur:Array Value,w'.heap[p.gv]?=some (.cells cur 3)
 Qm:w.heap.size<=p.j9/\p.j9≠p.gv
 fD:∀i,i<d.eY->w.heap.size<=p.im i/\p.sy i=0/\p.im i≠p.gv/\p.im i≠p.j9/\∃cur:Array Value,w'.heap[p.im i]?=some (.cells cur 3)
 apart:∀i j,i<j->j<d.eY->p.im i<p.im j
 free:∀b o,p.hE=some ⟨b,o,none⟩->w.heap.size<=b/\b≠p.gv/\b≠p.j9/\∀i,i<d.eY->b≠p.im i
theorem PR.done{w wr q:World}{B:Nat}{d:cR}{p:dU}{r PH g eT l h9 f h8:Nat}{im j':Nat->Nat}{cur:Array Value}(br:PR w.heap.size B d p r PH g eT l h9 im j' d.eY (.slice (some ⟨f,0,none⟩) d.eY h8) wr)(cT:B<=f/\wr.heap[f]?=some (.cells cur 27)/\cur.toList.take (d.eY*2)=PQ d im j' d.eY)(E:w.heap.size+1≠g/\w.heap.size+1≠l/\w.heap.size+1≠PH/\w.heap.size+1<B)(k:∀i,i≠w.heap.size+1->q.heap[i]?=wr.heap[i]?):
 KeptAt w d ⟨g,0,eT,f,0,h8,im,λ_=>0,j',some ⟨l,0,none⟩,h9⟩ q:=by
 obtain⟨I,J,ax⟩:=cT;obtain⟨F,L,u,z,M,P,Q,R,S,G,H,K⟩:=br.b4;have ae:q.heap[f]?=some (.cells cur 27):=(k f (by omega)).trans J;have hb:∀i,i<d.eY->B<=im i/\f≠im i:=λi aj=>by obtain⟨_,_,C,D⟩:=br.fD i aj;exact⟨C,λe=>D (by rw[<-e];rfl)⟩
 refine⟨⟨br.first.1.PM (k g (by omega)),λi aj=>tE ae ax (PZ d im j' d.eY i aj).1,λi aj=>?_,λi aj=>(br.fD i aj).1.PM (k _ (by have:=(hb i aj).1;show im i≠_;omega)),λ_=>⟨l,0,rfl,br.free.PM (k l (by omega))⟩⟩,⟨u,rfl,?_⟩,⟨by show w.heap.size<=f;omega,by show f≠g;omega⟩,λi aj=>?_,λi j I J=>br.rP i j I J,λb o e=>?_⟩
 . show q.cell? ⟨f,0+i*2+1,none⟩=_
   rw[Nat.add_assoc];exact tE ae ax (PZ d im j' d.eY i aj).2
 . obtain⟨c,h⟩:=br.first.2
   exact⟨c,(k g (by omega)).trans h⟩
 . have x:=hb i aj
   obtain⟨_,⟨c,al⟩,_,_⟩:=br.fD i aj;exact⟨by show w.heap.size<=im i;omega,rfl,by show im i≠g;omega,Ne.symm x.2,c,(k _ (by show im i≠_;omega)).trans al⟩
 . cases e
   exact⟨z,by show l≠g;omega,by show l≠f;omega,λi aj=>by have:=(hb i aj).1;show l≠im i;omega⟩
theorem PT(w:World){a b o:Nat}(h:a≠b)(v0 v1 v2 v3:Value): ((((w.setCell ⟨b,0,none⟩ v0).setCell ⟨b,1,none⟩ v1).setCell ⟨b,2,none⟩ v2).setCell ⟨b,3,none⟩ v3).cell? ⟨a,o,none⟩=w.cell? ⟨a,o,none⟩:=
 (E9 _ h).trans ((E9 _ h).trans ((E9 _ h).trans (E9 _ h)))
theorem Qg[S:Std A](d:cR)(ok:d.ok)(p:dU)(w:World)(h:fy w d p):
 Calls (ag A) 19 #[.agg (cO d p)] w λe w'=>∃hD:dU,e=.returned (.agg (cO d hD))/\KeptAt w d hD w'/\w.grownBy w' none:=by
 have hb:=h.below ok;have b9:=ok.kinds;have cc:=ok.fC;obtain⟨c,T⟩ : ∃c,(w.alloc (.cells (cO d p) 25)).alloc (.cells #[.int .i64 0,.slice none 0 0,.slice none 0 0,.slice none 0 0] 25)=c:=⟨_,rfl⟩
 have aN:w.grownBy c none:=by rw[<-T];exact Pn.trans Pn
 have aG:c.heap.size=w.heap.size+2:=by rw[<-T];simp
 have Z:c.heap[w.heap.size]?=some (.cells (cO d p) 25):=by rw[<-T];exact(Pq (by simp)).trans (gA _ _)
 have a8:c.heap[w.heap.size+1]?=some (.cells PV 25):=by rw[<-T,show w.heap.size+1=(w.alloc (.cells (cO d p) 25)).heap.size by simp];exact gA _ _
 have a3:=Pj a8;clear a8;have t1:=h.keep aN;have bu:=aT (o:=0) Z;have c1:=aT (o:=1) Z;have c2:=aT (o:=2) Z;have c3:=aT (o:=3) Z;have ah:=Pj hb;have aH:=Pj aN;have aA:=Pj aG;have a2:=Pj Z;have Y:=Pj t1;have H:=Pj T;clear hb aN aG Z t1 T h;go_enter (S.f Tryz.func19),Tryz.ntmps19;go_upto_region 1 with fail
 have aQ:=H.out;dsimp only[cO] at aQ;rw[aQ];clear aQ;have bu:c.cell? ⟨w.heap.size,0,none⟩=some (.int .i64 d.kinds):=bu.trans rfl;have c1:c.cell? ⟨w.heap.size,1,none⟩=some (.slice (some ⟨p.gv,p.hj,none⟩) d.kinds p.eT):=c1.trans rfl;have c3:c.cell? ⟨w.heap.size,3,none⟩=some (.slice p.hE d.fC p.h9):=c3.trans rfl;have cg:c.grownBy c.drew none:=fQ (Pw _ _);have a1:=Pj cg;have ax:=Pj (show ∀(W:World) (o:Obj),c.grownBy W none->(W.alloc o).cell? ⟨w.heap.size,0,none⟩=some (.int .i64 d.kinds)/\(W.alloc o).cell? ⟨w.heap.size,1,none⟩=some (.slice (some ⟨p.gv,p.hj,none⟩) d.kinds p.eT)/\(W.alloc o).cell? ⟨w.heap.size,3,none⟩=some (.slice p.hE d.fC p.h9) from λW o g=>by have ad:=g.trans (Pv W o none);exact⟨ad.cell bu (by simp),ad.cell c1 (by simp),ad.cell c3 (by simp)⟩)
 have U:=Pj (show ∀o:Obj,c.grownBy (c.alloc o).drew none from λo=>fQ Pn);have aZ:=Pj (show ∀o:Obj,(c.alloc o).drew.cell? ⟨w.heap.size,0,none⟩=some (.int .i64 d.kinds)/\(c.alloc o).drew.cell? ⟨w.heap.size,1,none⟩=some (.slice (some ⟨p.gv,p.hj,none⟩) d.kinds p.eT)/\(c.alloc o).drew.cell? ⟨w.heap.size,3,none⟩=some (.slice p.hE d.fC p.h9) from λo=>⟨(U.out o).cell bu (by simp),(U.out o).cell c1 (by simp),(U.out o).cell c3 (by simp)⟩);have di:c.drew.cell? ⟨w.heap.size,0,none⟩=some (.int .i64 d.kinds):=bu;have ar:c.drew.cell? ⟨w.heap.size,1,none⟩=some (.slice (some ⟨p.gv,p.hj,none⟩) d.kinds p.eT):=c1;have ba:c.drew.cell? ⟨w.heap.size,3,none⟩=some (.slice p.hE d.fC p.h9):=c3;clear cg;go_region_held3 (λW=>W.cell? ⟨w.heap.size,0,none⟩=some (.int .i64 d.kinds)/\W.cell? ⟨w.heap.size,1,none⟩=some (.slice (some ⟨p.gv,p.hj,none⟩) d.kinds p.eT)/\W.cell? ⟨w.heap.size,3,none⟩=some (.slice p.hE d.fC p.h9))
  (first|with_reducible exact⟨di,ar,ba⟩|with_reducible exact aZ.out _|with_reducible exact⟨bo,k1,bq⟩|with_reducible exact ax.out _ _ C.out|with_reducible exact⟨cH,au,av⟩|with_reducible exact ax.out _ _ (C.out.trans K.out)|with_reducible exact⟨(PT j aU _ _ _ _).trans cH,(PT j aU _ _ _ _).trans au,(PT j aU _ _ _ _).trans av⟩|with_reducible exact⟨(PT j aV _ _ _ _).trans cH,(PT j aV _ _ _ _).trans au,(PT j aV _ _ _ _).trans av⟩|(have q:=ax.out _ (.cells #[.int .i64 0,.slice none 0 0,.slice none 0 0,.slice none 0 0] 25) (C.out.trans K.out);with_reducible exact⟨(PT _ aW _ _ _ _).trans q.1,(PT _ aW _ _ _ _).trans q.2.1,(PT _ aW _ _ _ _).trans q.2.2⟩))
  (first
  | (go_at_call 38;refine(PY (A:=A) (some ⟨p.gv,p.hj,none⟩) d.kinds p.eT d.first (by omega) _ (by first|exact λ_=>⟨_,_,rfl,(Y.out.keep a1.out).first⟩|exact λ_=>⟨_,_,rfl,(Y.out.keep (U.out _)).first⟩)).mono ?_;rintro e w3 ⟨D,⟨eT,rfl⟩,ai,ae,al,f⟩;have L:c.grownBy w3 none:=(by first|exact a1.out.trans f|exact(U.out _).trans f);have bo:=L.cell bu (by simp);have k1:=L.cell c1 (by simp);have bq:=L.cell c3 (by simp);(try (have bv:=(f.block c.heap.size (by show c.heap.size<(c.alloc _).heap.size;simp) (by simp)).trans (gA c _)));have bC:=Pj f;have C:=Pj L;have a5:=Pj (And.intro ai (And.intro ae al));clear f L ai ae al)
  | (go_at_call 38;refine(PY (A:=A) p.hE d.fC p.h9 d.free (by omega) _ (by first|exact(Y.out.keep C.out).free|exact(Y.out.keep (C.out.trans Pn)).free)).mono ?_;rintro e j ⟨F,⟨h9,rfl⟩,am,ap,R,f⟩;have M:w3.grownBy j none:=(by first|exact f|exact Pn.trans f);have cH:=M.cell bo (by simp);have au:=M.cell k1 (by simp);have av:=M.cell bq (by simp);(try (have ks:=(f.block c.heap.size (bp bv) (by simp)).trans bv));(try (have ks:=(f.block w3.heap.size (by simp) (by simp)).trans (gA w3 _)));have bD:=Pj f;have K:=Pj M;have a6:=Pj (And.intro am (And.intro ap R));(try (have bT:=aT (o:=0) ks));(try (have z0:=b1 (o:=0) ks));(try (have bU:=aT (o:=1) ks));(try (have aG:=b1 (o:=1) ks));(try (have bV:=aT (o:=2) ks));(try (have bX:=b1 (o:=2) ks));(try (have bW:=aT (o:=3) ks));(try (have z3:=b1 (o:=3) ks));have aU:w.heap.size≠c.heap.size:=(by have:=aA.out;omega);have aV:w.heap.size≠w3.heap.size:=(by have:=aA.out;have:=C.out.size;omega);have aW:w.heap.size≠j.heap.size:=(by have:=aA.out;have:=C.out.size;have:=K.out.size;omega);(try (have aB:=Pj ks;clear ks));clear f M am ap R))
 all_goals (
  have T:=aA.out;have aa:=C.out.trans K.out;have bQ:=C.out.size;have bR:=K.out.size;obtain⟨ai,⟨bL,ae⟩,al⟩:=a5.out;obtain⟨am,⟨b2,ap⟩,R⟩:=a6.out;have bs:=bp ae;have bO:=bp ap;have aF:=Y.out.keep aa;have aD:j.heap[w.heap.size]?=some (.cells (cO d p) 25):=(aa.block _ (by omega) (by simp)).trans a2.out;have aE:=al.keep K.out (by simp);have aC:j.heap[D]?=some (.cells bL 3):=(K.out.block _ bs (by simp)).trans ae;have bY:=aH.out.trans aa;have aw:j.heap[w.heap.size+1]?=some (.cells PV 25):=(aa.block _ (by omega) (by simp)).trans a3.out;have ay:=aH.out.trans aa;have V:=Pj (And.intro ai am);clear ai am)
 focus (
  have u:=PR.begin (PH:=j.heap.size) (eT:=eT) (h9:=h9) (im:=λ_=>0) (j':=λ_=>0) aF ah.out aD aw ay aE ⟨_,aC⟩ R (by obtain⟨I,J⟩:=V.out;have I:c.heap.size<=D:=I;have J:w3.heap.size<=F:=J;simp only[Pp];omega) (gA j (.cells (mE d.kinds (.slice (some ⟨D,0,none⟩) d.kinds eT) (.slice none 0 0) (.slice (some ⟨F,0,none⟩) d.fC h9)) 25)) (λi h _=>Pq h) (by simp) ⟨rfl,rfl,rfl⟩;unfold mE at u;generalize hW:j.alloc _=aX at u ⊢;generalize aR:j.heap.size=PH at u ⊢)
 rotate_left
 focus (
  have u:=PR.begin (PH:=w3.heap.size) (eT:=eT) (h9:=h9) (im:=λ_=>0) (j':=λ_=>0) aF ah.out aD aw ay aE ⟨_,aC⟩ R (by obtain⟨I,J⟩:=V.out;have I:c.heap.size<=D:=I;have J:(w3.alloc (.cells PV 25)).heap.size<=F:=J;simp only[Pp] at J;simp only[World.size_setCell];omega) (PU aB.out).1 (λi _ h=>(PU aB.out).2 i h) (by simp only[World.size_setCell];omega) ⟨rfl,rfl,rfl⟩;generalize hW:World.setCell (World.setCell (World.setCell (World.setCell j ⟨w3.heap.size,0,none⟩ _) _ _) _ _) _ _=aX at u ⊢;generalize aR:w3.heap.size=PH at u ⊢)
 rotate_left
 focus (
  have u:=PR.begin (PH:=c.heap.size) (eT:=eT) (h9:=h9) (im:=λ_=>0) (j':=λ_=>0) aF ah.out aD aw ay aE ⟨_,aC⟩ R (by obtain⟨I,J⟩:=V.out;have I:(c.alloc (.cells PV 25)).heap.size<=D:=I;have J:w3.heap.size<=F:=J;simp only[Pp] at I;simp only[World.size_setCell];omega) (PU aB.out).1 (λi _ h=>(PU aB.out).2 i h) (by simp only[World.size_setCell];omega) ⟨rfl,rfl,rfl⟩;generalize hW:World.setCell (World.setCell (World.setCell (World.setCell j ⟨c.heap.size,0,none⟩ _) _ _) _ _) _ _=aX at u ⊢;generalize aR:c.heap.size=PH at u ⊢)
 rotate_left
 all_goals (
  obtain⟨u,a0,aY,aS⟩:=u;have bc:=ah.out;clear hW aR C K bC bD a5 a6 V bQ bR ae al ap R bs bO aF aD aE aC aw ay aa;clear bu c1 c2 c3 di ar ba U aZ ax a2 Y H a3 aH;obtain⟨B,bb⟩ : ∃B,B=aX.heap.size:=⟨_,rfl⟩
  rw[<-bb] at u aS;obtain⟨bN,bi,bk,bl,bn⟩:=HX (A:=A);have bE:=Pj bi;have bI:=Pj bk;have bJ:=Pj bl;have bK:=Pj bn;have bF:=Pj u;have bA:=Pj a0;have bz:=Pj aY;have aK:=Pj aS;have b6:=ok.eY;clear bi bk bl bn bb u a0 aY aS ah;have a4:=Pj bc;clear bc;go_wp2;go_loopw [4] (λi wr=>∃(m:Nat) (im j':Nat->Nat) (z:Value),m<=d.eY/\i=.int .i64 m/\PR w.heap.size B d p w.heap.size PH D eT F h9 im j' m z wr/\w.grownBy wr none/\wr.heap[w.heap.size+1]?=some (.cells PV 25)) (λi _=>d.eY-(vy i).toNat)
  case atStart=>exact⟨0,_,_,_,by omega,by go_num,bF.out,bA.out,bz.out⟩
  case round=>
   obtain⟨m,im,j',z,hm,rfl,br,G,E⟩:=hrel;have bP:wr.cell? ⟨w.heap.size,2,none⟩=some (.slice (some ⟨p.j9,p.lg,none⟩) d.eY p.h8):=(aT (o:=2) br.mn).trans rfl;by_cases aO:m<d.eY
   . have hd:decide ((m:Int)<d.eY)=true:=by simpa using aO
     have bM:decide (m<d.eY)=true:=by simpa using aO
     have r1:=br.src.dz m aO;have r2:=br.src.rows m aO;have v3:wr.cell? ⟨PH,2,none⟩=some z:=(aT (o:=2) br.blk).trans rfl;have bw:=Pj (show wr.grownBy wr.drew none from fQ (Pw _ _));have d2:wr.drew.cell? ⟨w.heap.size,2,none⟩=some (.slice (some ⟨p.j9,p.lg,none⟩) d.eY p.h8):=bP;have d3:wr.drew.cell? ⟨p.j9,p.lg+m*2,none⟩=some (.int .i64 (d.dz m)):=r1;have d4:wr.drew.cell? ⟨p.j9,p.lg+m*2+1,none⟩=some (.slice (some ⟨p.im m,p.sy m,none⟩) d.kinds (p.j' m)):=r2;have aq:∀r,z.ownBlock=some r->B<=r/\r<wr.heap.size:=λr e=>xX br.own r e
     have bZ:=Pj aq;have b8:=a4.out.R;have b4:=br.b4;have au:(some w.heap.size:Option Nat)≠z.ownBlock:=λe=>by have:=(aq _ e.symm).1;omega
     have bt:(some p.j9:Option Nat)≠z.ownBlock:=λe=>by have:=(aq _ e.symm).1;omega
     have av:(some PH:Option Nat)≠z.ownBlock:=λe=>by have:=(aq _ e.symm).1;omega
     have e6:w.heap.size≠PH:=by omega
     have fY:p.j9≠PH:=by omega
     have b5:=br.dm;have b7:PH<B:=by omega
     have X:=Pj br;have P:=Pj G;have H:=Pj E;clear br G E aq b4;go_wp2;simp only[oZ 23 (.tmp 21)];have ca:=Pg;go_region_held3 (λW=>W.cell? ⟨w.heap.size,2,none⟩=some (.slice (some ⟨p.j9,p.lg,none⟩) d.eY p.h8)/\W.cell? ⟨p.j9,p.lg+m*2,none⟩=some (.int .i64 (d.dz m))/\W.cell? ⟨p.j9,p.lg+m*2+1,none⟩=some (.slice (some ⟨p.im m,p.sy m,none⟩) d.kinds (p.j' m)))
      (first|with_reducible exact⟨d2,d3,d4⟩|with_reducible exact⟨f2,f3,f4⟩|with_reducible exact az.out _|with_reducible exact⟨ad,L,M⟩|with_reducible exact⟨(E9 _ e6).trans ad,(E9 _ fY).trans L,(E9 _ fY).trans M⟩)
      (first
      | (go_at_call 38;refine(PY (A:=A) (some ⟨p.im m,p.sy m,none⟩) d.kinds (p.j' m) (d.fD m) (by omega) _ (λ_=>⟨_,_,rfl,(X.out.src.keep bw.out).fD m aO⟩)).mono ?_;rintro e l ⟨a7,⟨a9,rfl⟩,kE,kk,bd,f⟩;have f2:=f.cell d2 (by simp);have f3:=f.cell d3 (by simp);have f4:=f.cell d4 (by simp);have v5:l.cell? ⟨PH,2,none⟩=some z:=f.cell (a:=⟨PH,2,none⟩) v3 (by simp);have cl:∀o:Obj,(l.alloc o).cell? ⟨PH,2,none⟩=some z:=(λo=>(Pv l o none).cell v5 (by simp));have az:=Pj (show ∀o:Obj,(l.alloc o).cell? ⟨w.heap.size,2,none⟩=some (.slice (some ⟨p.j9,p.lg,none⟩) d.eY p.h8)/\(l.alloc o).cell? ⟨p.j9,p.lg+m*2,none⟩=some (.int .i64 (d.dz m))/\(l.alloc o).cell? ⟨p.j9,p.lg+m*2+1,none⟩=some (.slice (some ⟨p.im m,p.sy m,none⟩) d.kinds (p.j' m)) from λo=>⟨(Pv l o none).cell f2 (by simp),(Pv l o none).cell f3 (by simp),(Pv l o none).cell f4 (by simp)⟩);have aL:=Pj (And.intro kE (And.intro kk bd));have Q:=Pj f;clear f kE kk bd)
      | (refine step_append_lies _ (by rfl) _ _ _ (by rfl) B 27 bN (.agg #[.int .i64 0,.slice none 0 0]) 2 32 (by kernel_rfl) bE.out bI.out bJ.out bK.out rfl (by omega) z m (PQ d im j' m) (by rfl) (kq X.out.own (λi I J=>(Pq (Px J Q.out.size)).trans (Q.out.block i J (by simp)))) ⟨l.heap.size,0,none⟩ 1 1 [.int .i64 (d.dz m),.slice (some ⟨a7,0,none⟩) d.kinds a9] (by rfl) (by rfl) (World.news_of_block (cs:=#[.int .i64 (d.dz m),.slice (some ⟨a7,0,none⟩) d.kinds a9]) (t:=27) (fr:=(0,0)) (heap_alloc_new l _)) (by simp[Value.oneCell']) (by omega) (by unfold maxLen;omega) (by omega) (by have bm:wr.heap.size<=l.heap.size:=Q.out.size;simp only[Pp];omega) (l.heap.size+1) (by simp) ?_;intro b3 cap bS bj af aJ cb;have ad:=af.cell (az.out _).1 au;have L:=af.cell (az.out _).2.1 bt;have M:=af.cell (az.out _).2.2 bt;have aM:bS.heap[PH]?=some (.cells (mE d.kinds (.slice (some ⟨D,0,none⟩) d.kinds eT) z (.slice (some ⟨F,0,none⟩) d.fC h9)) 25):=(af.block PH (by have bm:wr.heap.size<=l.heap.size:=Q.out.size;simp only[Pp];omega) av).trans ((Pq (by have bm:wr.heap.size<=l.heap.size:=Q.out.size;omega)).trans ((Q.out.block PH (by show PH<wr.heap.size;omega) (by simp)).trans X.out.blk));have cj:=aT (o:=2) aM;have ck:=b1 (o:=2) aM;have bG:=Pj bj;have bB:=Pj af;have bx:=Pj aJ;clear bj af aJ aM))
     all_goals (
      have ak:=X.out.next a4.out Q.out aL.out.1 aL.out.2.1 aL.out.2.2 bB.out bx.out bG.out;have aI:=Pj ak;clear ak;go_wp2;exact⟨⟨m+1,_,_,_,by omega,by push_cast;rfl,aI.out.1,aI.out.2.1 w Pk P.out,(aI.out.2.2 _ aK.out.2.2.2 aK.out.2.2.1).trans H.out⟩,by show d.eY-((m:Int)+1).toNat<d.eY-(m:Int).toNat;omega⟩)
   . have hd:decide ((m:Int)<d.eY)=false:=by simp;omega
     have bM:decide (m<d.eY)=false:=by simpa using aO
     obtain rfl:m=d.eY:=by omega
     obtain⟨aP,h8,b0,rfl,bf,bg,bh⟩:=JX br.own (by omega);have ce:wr.cell? ⟨PH,0,none⟩=some (.int .i64 d.kinds):=(aT (o:=0) br.blk).trans rfl;have cf:wr.cell? ⟨PH,1,none⟩=some (.slice (some ⟨D,0,none⟩) d.kinds eT):=(aT (o:=1) br.blk).trans rfl;have ch:wr.cell? ⟨PH,2,none⟩=some (.slice (some ⟨aP,0,none⟩) d.eY h8):=(aT (o:=2) br.blk).trans rfl;have ci:wr.cell? ⟨PH,3,none⟩=some (.slice (some ⟨F,0,none⟩) d.fC h9):=(aT (o:=3) br.blk).trans rfl;have bT:=aT (o:=0) E;have bU:=aT (o:=1) E;have bV:=aT (o:=2) E;have bW:=aT (o:=3) E;have z0:=b1 (o:=0) E;have aG:=b1 (o:=1) E;have bX:=b1 (o:=2) E;have z3:=b1 (o:=3) E;have X:=Pj br;have P:=Pj G;have H:=Pj E;have bH:=Pj (And.intro bf (And.intro bg bh));clear br G E bf bg bh;go_wp2;refine bodyPost_ret (results_cell_row rfl _ _ (w.heap.size+1) 25 #[.int .i64 d.kinds,.slice (some ⟨D,0,none⟩) d.kinds eT,.slice (some ⟨aP,0,none⟩) d.eY h8,.slice (some ⟨F,0,none⟩) d.fC h9] (0,0) _ rfl (PU H.out).1 (ag.underlying25 A) rfl LI) rfl ?_;refine⟨⟨D,0,eT,aP,0,h8,im,λ_=>0,j',some ⟨F,0,none⟩,h9⟩,rfl,X.out.done bH.out aK.out (PU H.out).2,?_⟩;exact⟨P.out.os,P.out.tape,P.out.output,by have:=P.out.size;simp only[World.size_setCell];omega,λi aj ao=>((PU H.out).2 i (by omega)).trans (P.out.block i aj ao)⟩)
end
section
variable{A:Array Func}
theorem P2[S:Std A](q:Option Addr)(n c:Nat)(ak:n<=5)(f:Nat->Int)(w:World)(h:n≠0->∃b o,q=some ⟨b,o,none⟩/\iD w b o n f)(x:Int):
 Calls (ag A) 37 #[.slice q n c,.int .i64 x] w λe w'=>(∃j:Int,e=.returned (.int .i64 j)/\(0<=j↔∃i,i<n/\f i=x))/\w=w':=by
 have H:=Pj h;clear h;go_enter (S.f Tryz.func37),Tryz.ntmps37;go_wp2;go_loopw [5] (λi wr=>∃m:Nat,m<=n/\i=.int .i64 m/\w=wr/\∀i,i<m->f i≠x) (λi _=>n-(vy i).toNat)
 case atStart=>exact⟨0,by omega,by go_num,rfl,λi aj=>by omega⟩
 case round=>
  obtain⟨m,hm,rfl,rfl,g⟩:=hrel;by_cases aO:m<n
  . have hd:decide ((m:Int)<n)=true:=by simpa using aO
    have l:decide (m<n)=true:=by simpa using aO
    obtain⟨b,o,rfl,af⟩:=H.out (by omega);have al:=af m aO;by_cases d:f m=x
    . have ar:(f m == x)=true:=by simpa using d
      go_wp2;go_ret;exact⟨⟨m,rfl,λ_=>⟨m,aO,d⟩,λ_=>by omega⟩,rfl⟩
    . have ar:(f m == x)=false:=by simpa using d
      go_wp2;exact⟨⟨m+1,by omega,by push_cast;rfl,by trivial,λi aj=>by
       rcases Nat.lt_succ_iff_lt_or_eq.1 aj with y|rfl
       . exact g i y
       . exact d⟩,by show n-((m:Int)+1).toNat<n-(m:Int).toNat;omega⟩
  . have hd:decide ((m:Int)<n)=false:=by simp;omega
    have l:decide (m<n)=false:=by simpa using aO
    go_wp2;go_ret;exact⟨⟨-1,rfl,λy=>by omega,λ⟨i,aj,e⟩=>absurd e (g i (by omega))⟩,rfl⟩
theorem P0{d:cR}{k day:Nat}: ∀n,(∃i,i<n/\d.free i=day)->rf d k n day=0
 | 0,⟨i,h,_⟩=>by omega
 | n+1,⟨i,h,e⟩=>by
  unfold rf;by_cases c:d.free n=day
  . rw[if_pos c]
  . rw[if_neg c]
    refine P0 n ⟨i,?_,e⟩;rcases Nat.lt_succ_iff_lt_or_eq.1 h with y|rfl
    . exact y
    . exact absurd e c
theorem P1{d:cR}{k day:Nat}: ∀n,(¬ ∃i,i<n/\d.free i=day)->rf d k n day=lp d k d.eY day
 | 0,_=>rfl
 | n+1,h=>by unfold rf;rw[if_neg (λe=>h ⟨n,by omega,e⟩)];exact P1 n λ⟨i,aj,e⟩=>h ⟨i,by omega,e⟩
end
end Go.aN
