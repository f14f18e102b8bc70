/- A part of FeeCheap: no conditions. -/
import Derived.Test.YtalhadgndijcmaaGreatDoorRCheap0
set_option maxHeartbeats 8000000
set_option maxRecDepth 100000
set_option linter.all false
namespace Go.aN
open Go.Proofs Go.RowKit
section
variable{A:Array Func}
def QI[S:Std A][eg:gQ A][P:gg A](co:∀w,Calls (ag A) 16 #[] w λe w'=>e=.returned (.bool true)/\w=w')(w:World)(L:Value)(h:j4 w L w.heap.size)(eP:L.oneCell'=true):
 Calls (ag A) 9 #[L] w λe _=>e=.returned (.bool true):=by
 have a9:=Pj (O' (A:=A) L w h eP);clear h;obtain⟨bR,aj,bO,bP,bQ⟩:=xj (A:=A);have a8:=Pj aj;have bl:=Pj bO;have bm:=Pj bP;have bn:=Pj bQ;clear aj bO bP bQ;go_enter (S.f Tryz.func9),Tryz.ntmps9;go_upto_region 5 with(first
  |(go_at_call 17;refine a9.out.mono ?_;rintro e cG ⟨rfl,az,l⟩;have bb:=Pj az;clear az l)
  |(go_at_call 28;refine(Pe (A:=A) w.heap.size 0 L (by omega) cG bb.out).mono ?_;rintro e w2 ⟨d,p,a1,ok,rfl,bF,a3,c1,az,l⟩;have aA:=Pj az;have bh:=Pj bF;clear az l bF)
  |(go_at_call 29;refine(Pb (A:=A) w.heap.size a1 L (by omega) d ok p _ (aA.out.alloc _)).mono ?_;rintro e w3 ⟨k,left,aK,rfl,U,c3,cZ,az,l⟩;have t3:fy w3 d p:=((bh.out.keep Pn).uw l a3);have bs:w3.heap[w2.heap.size]?=some (.cells (cO d p) 25):=((l.block _ (by simp) (λe=>by have:=Pm e;have:=aA.out.lt;omega)).trans (gA _ _));have c9:w.heap.size<w2.heap.size:=aA.out.lt;have bc:=Pj az;have bi:=Pj t3;have aN:=Pj bs;clear az l t3 bs)
  |(go_at_call 20;refine(pU (A:=A) w.heap.size (a1+4) L (by omega) 55 (by omega) w3 bc.out).mono ?_;rintro e bU ⟨e6,rfl,cx,az,l⟩;have t4:=bi.out.uw l a3;have bt:bU.heap[w2.heap.size]?=some (.cells (cO d p) 25):=(l.block w2.heap.size (bp aN.out) (λe=>by have:=Pm e;omega)).trans aN.out;have aR:=Pj az;have bj:=Pj t4;have aP:=Pj bt;clear az l t4 bt)
  |(go_at_call 24;refine(wO (A:=A) w.heap.size (a1+5) L (by omega) bU.heap.size 0 5 5 P' (by omega) _ (aR.out.alloc _) (by have:=aR.out.lt;omega) (QN _ _)).mono ?_;rintro e bV ⟨j,aC,rfl,az,l⟩;have ct:=bp aP.out;have t5:=(bj.out.keep Pn).uw l a3;have bu:bV.heap[w2.heap.size]?=some (.cells (cO d p) 25):=(l.block w2.heap.size (by simp;omega) (λe=>by have:=Pm e;omega)).trans ((Pq ct).trans aP.out);have aY:=Pj t5;have R:=Pj bu;clear az l t5 bu))
 obtain⟨e,he⟩:∃e:Nat,min 119 ((left:Int)+e6)=(e:Int):=⟨min 119 (left+e6),by omega⟩
 have hle:left<=e:=by omega
 have W:e<120:=by omega
 rw[he];obtain⟨c,al,cX⟩:=QO j;rw[al];clear he cx al aC;generalize w2.heap.size=B at *;obtain⟨f,g,aL,E⟩:=QD (c:=c) ok U W hle;obtain⟨n,ak⟩:∃n,(qj (gi d k) e c left).length=n:=⟨_,rfl⟩
 obtain⟨C,hC⟩:∃C,(bL (gi d k) e c left).cost=C:=⟨_,rfl⟩
 have cq:=(EV (aX:=gi d k) (carry:=c) (λa b=>Hj ok U a b) W left).1;rw[ak,hC]at aL;rw[ak]at E;rw[hC]at cq;have K:=aT (o:=0) R.out;have q1:=aT (o:=1) R.out;have D:=aT (o:=2) R.out;have M:=aT (o:=3) R.out;have H:=Pj aL;have af:=Pj (And.intro ak (And.intro hC E));clear aL ak hC E;go_upto_region 6 with(go_at_call 25;refine(Fh (A:=A) d ok p k U left e hle W c (by omega) bV aY.out).mono ?_;rintro ar bW ⟨v1,rfl,a4,l⟩;rw[af.out.2.1];rw[af.out.1]at a4;obtain⟨bA,cap,rfl,c0,cu,aZ⟩:=QR af.out.1 H.out.t.cH af.out.2.2 a4;have t6:=aY.out.keep l;have bv:bW.heap[B]?=some (.cells (cO d p) 25):=(l.block _ (bp R.out) (by simp)).trans R.out;have aS:=Pj t6;have T:=Pj bv;have aW:=Pj aZ;clear l t6 bv a4 aZ)
 clear K q1 D M;have K:=aT (o:=0) T.out;have q1:=aT (o:=1) T.out;have D:=aT (o:=2) T.out;have M:=aT (o:=3) T.out;have cy:=H.out.len;have bI:=H.out.t.cH;go_upto_region 7 with(go_at_call 35;refine(QP (A:=A) d ok p k U left e c W (by omega) n cy f g H.out.t bA 0 cap bW aS.out aW.out).mono ?_;rintro ar bY ⟨rfl,l⟩;rw[H.out.cost];have t7:=aS.out.keep l;have bw:bY.heap[B]?=some (.cells (cO d p) 25):=(l.block _ (bp T.out) (by simp)).trans T.out;have aU:=Pj t7;have V:=Pj bw;have bd:=Pj (aW.out.keep l);clear l t7 bw)
 clear K q1 D M;have K:=aT (o:=0) V.out;have q1:=aT (o:=1) V.out;have D:=aT (o:=2) V.out;have M:=aT (o:=3) V.out;have aM:=Pj (show ∀a b,b<120->fP (d.first k) (cC d k) a b=gi d k a b from λa b hb=>by unfold gi;rw[if_pos hb]);go_upto_region 8 with(go_at_call 30;refine(Hl (A:=A) d ok p k U left e hle W bY aU.out).mono ?_;rintro ar X ⟨rfl,l⟩;rw[aM.out _ _ W];have t8:=aU.out.keep l;have bx:X.heap[B]?=some (.cells (cO d p) 25):=(l.block _ (bp V.out) (by simp)).trans V.out;have ck:=Pj t8;have a6:=Pj bx;have bf:=Pj (bd.out.keep l);clear l t8 bx)
 clear K q1 D M aS aU R T V aW bd aY bj bi bh aP aN aR bc aA bb af a9 cu;have cp:=bp a6.out;have bN:=H.out.one;have ai:=H.out.alone;have c2:bA<X.heap.size:=mV (bf.out.bu 0 bI);obtain⟨Y,bB⟩:∃Y,gi d k left e=Y:=⟨_,rfl⟩
 rw[bB]at bN ai ⊢;clear bB;have cM:decide (Y<C)=false:=by rw[decide_eq_false_iff_not];omega
 obtain⟨F,hF⟩:∃F:Nat->Int,∀i,F i=gi d k left (left+i):=⟨_,λ_=>rfl⟩
 obtain⟨G,aB⟩:∃G:Nat->Int,∀i,G i=gi d k (left+i) e:=⟨_,λ_=>rfl⟩
 have b5:=Pj hF;have b9:=Pj aB;have b8:=Pj (show ∀i,0<=F i/\F i<=1000000 from λi=>by rw[hF];exact Hj ok U _ _);have ce:=Pj (show ∀i,0<=G i/\G i<=1000000 from λi=>by rw[aB];exact Hj ok U _ _);have cn:=Pj (show ∀h x,left<=h->h<=x->x<=e->x<=h+c->C<=F (h-left)+G (x-left)/\(F (h-left)+G (x-left)=C->n<=2/\(n=2->g 0<=h/\(g 0=h->f 1<=x)))from λh x I J ax aV=>by rw[hF,aB,show left+(h-left)=h by omega,show left+(x-left)=x by omega];obtain⟨q1,D⟩:=H.out.two h x I J ax aV;exact⟨q1,λQ=>D Q.symm⟩)
 clear hF aB H;have eF:P4 X F G 0 (.slice none 0 0) (.slice none 0 0) X:=⟨Pw _ _,⟨rfl,.inl ⟨rfl,rfl⟩⟩,⟨rfl,.inl ⟨rfl,rfl⟩⟩,λr ao=>by cases ao⟩
 have cm:=Pj eF;clear eF;by_cases Q:C=Y;focus (
  have au:(C == Y)=true:=by rw[beq_iff_eq];exact Q
  have cN:decide ((1:Int)<n)=false:=by rw[decide_eq_false_iff_not];have:=ai Q;omega
  have z3:decide (1<n)=false:=by rw[decide_eq_false_iff_not];have:=ai Q;omega
  clear Q ai;go_upto_region 10 with fail
  clear au cN z3)
 rotate_left
 focus (
  have au:(C == Y)=false:=by rw[beq_eq_false_iff_ne];exact Q
  clear Q ai;go_upto_region 10 with fail
  clear au)
 rotate_left
 all_goals (
  clear cM bN;go_wp2;go_loopw [17,18,19] (λv u i wr=>∃h q:Nat,h=left+q/\h<=e+1/\i=.int .i64 h/\P4 X F G q v u wr) (λ_ _ i _=>e+1-(vy i).toNat)
  case atStart=>exact⟨left,0,rfl,by omega,rfl,cm.out⟩
  case round=>
   obtain⟨h,q,am,cw,rfl,br⟩:=hrel;by_cases aO:h<=e
   .have aH:decide ((h:Int)<=e)=true:=by simpa using aO
    have aI:decide (h<=e)=true:=by simpa using aO
    have Z:=(br.g.block B cp (by simp)).trans a6.out;have K:=aT (o:=0) Z;have q1:=aT (o:=1) Z;have D:=aT (o:=2) Z;have M:=aT (o:=3) Z;have a7:=Pj Z;have bk:=Pj (ck.out.keep br.g);have aQ:=Pj br;have bG:fP (d.first k) (cC d k) left h=F q:=by rw[aM.out _ _ (by omega),b5.out,am]
    have bH:fP (d.first k) (cC d k) h e=G q:=by rw[aM.out _ _ (by omega),b9.out,am]
    have b6:=Pj bG;have b7:=Pj bH;have dk:=br.g.size;have cf:=Pj am;have c8:q<120:=by omega
    have c4:left<=h:=by omega
    clear Z br bG bH am;go_upto_region 15 with(go_at_call 30;refine(Hl (A:=A) d ok p k U left h (by omega) (by omega) _ bk.out).mono ?_;rintro ar cI ⟨rfl,l⟩;rw[b6.out];have t9:=bk.out.keep l;have bz:cI.heap[B]?=some (.cells (cO d p) 25):=(l.block _ (bp a7.out) (by simp)).trans a7.out;have cl:=Pj t9;have av:=Pj bz;have ca:=Pj l;clear l t9 bz)
    clear K q1 D M;have K:=aT (o:=0) av.out;have q1:=aT (o:=1) av.out;have D:=aT (o:=2) av.out;have M:=aT (o:=3) av.out;go_upto_region 16 with(go_at_call 30;refine(Hl (A:=A) d ok p k U h e aO W _ cl.out).mono ?_;rintro ar bS ⟨rfl,l⟩;rw[b7.out];have aw:=Pj (ca.out.trans l);clear l)
    clear K q1 D M;have dj:=aw.out.size;go_wp2_with (first
     |(at_builtin;refine wpList_append_own_at _ rfl _ _ 22 rfl X.heap.size 3 bR (.int .i64 0) 1 8 (ag.underlying22 A) a8.out bl.out bm.out bn.out rfl (by decide) _ q (P1 F q) rfl (aQ.out.v5 aw.out _) ⟨bS.heap.size,0,none⟩ 1 1 [.int .i64 (F q)] rfl rfl (World.news_of_block (cs:=#[.int .i64 (F q)]) (t:=3) (fr:=(0,0)) (gA bS _)) (by simp[Value.oneCell']) (by unfold maxLen;omega) (by omega) (by simp;omega) ?_;intro dl bT ap aa a2 aJ;have cz:=aa.size;have a5:=Pj aa;have ci:=Pj ap;have b2:=Pj aJ;clear ap aa a2 aJ)
     |(at_builtin;refine wpList_append_own_at _ rfl _ _ 22 rfl X.heap.size 3 bR (.int .i64 0) 1 8 (ag.underlying22 A) a8.out bl.out bm.out bn.out rfl (by decide) _ q (P1 G q) rfl (aQ.out.QT aw.out a5.out _) ⟨bT.heap.size,0,none⟩ 1 1 [.int .i64 (G q)] rfl rfl (World.news_of_block (cs:=#[.int .i64 (G q)]) (t:=3) (fr:=(0,0)) (gA bT _)) (by simp[Value.oneCell']) (by unfold maxLen;omega) (by omega) (by simp at cz ⊢;omega) ?_;intro ay cH ap aa a2 aJ;have b1:=Pj aa;have cj:=Pj ap;have b3:=Pj aJ;clear ap aa a2 aJ))
    exact⟨⟨h+1,q+1,by have:=cf.out;omega,by omega,by push_cast;rfl,aQ.out.next aw.out a5.out ci.out b2.out b1.out cj.out b3.out⟩,by show e+1-((h:Int)+1).toNat<e+1-(h:Int).toNat;omega⟩
   .have aH:decide ((h:Int)<=e)=false:=by simpa using aO
    have aI:decide (h<=e)=false:=by simpa using aO
    obtain⟨cR,tD,rfl,cT,cU,bC⟩:=Qt br.Qk (by omega);obtain⟨cS,bX,rfl,cV,cW,bD⟩:=Qt br.Qj (by omega);have bE:=bf.out.keep br.g;have cg:=Pj bC;have ch:=Pj bD;have bg:=Pj bE;have bJ:q=e+1-left:=by omega
    clear br bC bD bE am;generalize cr:wr=bo at *;clear cr;have ba:=Pj bJ;clear bJ;go_wp2;clear aH aI aO cw;go_loopw [24] (λi wr=>∃J:Nat,left<=J/\J<=e+1/\i=.int .i64 J/\bo.grownBy wr none) (λi _=>e+1-(vy i).toNat)
    case atStart=>exact⟨left,by omega,by omega,rfl,Pw _ _⟩
    case round=>
     obtain⟨J,cv,cY,rfl,ae⟩:=hrel;by_cases aE:J<=e
     .have aH:decide ((J:Int)<=e)=true:=by simpa using aE
      have aI:decide (J<=e)=true:=by simpa using aE
      have cb:=Pj ae;clear ae;obtain⟨m,hm⟩:∃m:Nat,min ((J:Int)+c) (e:Int)=(m:Int):=⟨min (J+c) e,by omega⟩
      have c5:m<=J+c:=by omega
      have c6:m<=e:=by omega
      have c7:J<=m:=by omega
      go_wp2;go_loopw [25] (λi cJ=>∃x:Nat,J<=x/\x<=m+1/\i=.int .i64 x/\bo.grownBy cJ none) (λi _=>m+1-(vy i).toNat)
      case atStart=>exact⟨J,by omega,by omega,rfl,cb.out⟩
      case round=>
       obtain⟨x,cA,da,rfl,ad⟩:=hrel;by_cases aF:x<=m
       .have k1:decide ((x:Int)<=m)=true:=by simpa using aF
        have cc:decide (x<=m)=true:=by simpa using aF
        obtain⟨z,bK⟩:∃z,J-left=z:=⟨_,rfl⟩
        obtain⟨hQ,bM⟩:∃hQ,x-left=hQ:=⟨_,rfl⟩
        obtain⟨bq,a0⟩:=cn.out J x cv cA (by omega) (by omega);rw[bK,bM]at bq a0;have s1:(J:Int)-left=(z:Int):=by omega
        have s2:(x:Int)-left=(hQ:Int):=by omega
        have i1:(z:Int)<q:=by have:=ba.out;omega
        have i2:(hQ:Int)<q:=by have:=ba.out;omega
        have cB:z<q:=by omega
        have cD:hQ<q:=by omega
        have db:(0:Int)<=z:=by omega
        have dc:(0:Int)<=hQ:=by omega
        have bZ:=(cg.out.keep ad (by simp)) z cB;have b0:=(ch.out.keep ad (by simp)) hQ cD;have cK:=(bg.out.keep ad).c1 0 bI;simp only[Nat.zero_mul,Nat.zero_add]at bZ b0 cK;have cP:=b8.out z;have cQ:=ce.out hQ;have ah:=Pj ad;have b4:=Pj a0;have fS:decide (F z+G hQ<C)=false:=by rw[decide_eq_false_iff_not];omega
        clear bK bM ad bq a0;go_wp2;go_quiet (fail);clear s1 s2 bZ b0 k1 cc;by_cases aq:F z+G hQ=C
        .obtain⟨r1,r2⟩:=b4.out aq
         have au:(F z+G hQ == C)=true:=by rw[beq_iff_eq];exact aq
         have df:decide ((2:Int)<n)=false:=by rw[decide_eq_false_iff_not];omega
         have dg:decide (2<n)=false:=by rw[decide_eq_false_iff_not];omega
         clear aq;by_cases aG:n=2
         .obtain⟨t1,t2⟩:=r2 aG
          have cE:((n:Int) == 2)=true:=by rw[beq_iff_eq];omega
          have dh:decide ((J:Int)<g 0)=false:=by rw[decide_eq_false_iff_not];omega
          have sD:decide (J<g 0)=false:=by rw[decide_eq_false_iff_not];omega
          have dd:(0:Int)<n:=by omega
          have de:(1:Int)<n:=by omega
          have cL:=(bg.out.keep ah.out).bu 1 (by omega);simp only[Nat.zero_add,Nat.one_mul]at cL;by_cases aD:g 0=J
          .have cF:((J:Int) == g 0)=true:=by rw[beq_iff_eq];omega
           have di:decide ((x:Int)<f 1)=false:=by rw[decide_eq_false_iff_not];have:=t2 aD;omega
           have jT:decide (x<f 1)=false:=by rw[decide_eq_false_iff_not];have:=t2 aD;omega
           clear aD aG r1 r2 t1 t2;go_wp2;exact⟨⟨x+1,by omega,by omega,by push_cast;rfl,ah.out.trans (hM _ _)⟩,by show m+1-((x:Int)+1).toNat<m+1-(x:Int).toNat;omega⟩
          .have cF:((J:Int) == g 0)=false:=by rw[beq_eq_false_iff_ne];omega
           clear aD aG r1 r2 t1 t2;go_wp2;exact⟨⟨x+1,by omega,by omega,by push_cast;rfl,ah.out.trans (hM _ _)⟩,by show m+1-((x:Int)+1).toNat<m+1-(x:Int).toNat;omega⟩
         .have cE:((n:Int) == 2)=false:=by rw[beq_eq_false_iff_ne];omega
          clear aG r1 r2;go_wp2;exact⟨⟨x+1,by omega,by omega,by push_cast;rfl,ah.out.trans (hM _ _)⟩,by show m+1-((x:Int)+1).toNat<m+1-(x:Int).toNat;omega⟩
        .have au:(F z+G hQ == C)=false:=by rw[beq_eq_false_iff_ne];exact aq
         clear aq;go_wp2;exact⟨⟨x+1,by omega,by omega,by push_cast;rfl,ah.out.trans (hM _ _)⟩,by show m+1-((x:Int)+1).toNat<m+1-(x:Int).toNat;omega⟩
       .have k1:decide ((x:Int)<=m)=false:=by simpa using aF
        have cc:decide (x<=m)=false:=by simpa using aF
        go_wp2;exact⟨⟨J+1,by omega,by omega,by push_cast;rfl,ad⟩,by show e+1-((J:Int)+1).toNat<e+1-(J:Int).toNat;omega⟩
     .have aH:decide ((J:Int)<=e)=false:=by simpa using aE
      have aI:decide (J<=e)=false:=by simpa using aE
      go_wp2_with (go_at_call 16;refine(co _).mono ?_;rintro ar cH ⟨rfl,rfl⟩)
      go_ret;rfl)
end
end Go.aN
