/- Part 34 of a law on fees: no conditions. -/
import Derived.Test.YthiiblonjmmnfaaGreatDoorP23
import Derived.Test.YthiiblonjmmnfaaGreatDoorP32
import Derived.Deep.RegionHeld3
import Derived.Deep.AppendLies
import Derived.Maps.AppendAt
set_option maxHeartbeats 8000000
set_option maxRecDepth 100000
set_option linter.all false
namespace Go.aN
open Go.Proofs Go.RowKit
section
variable{A:Array Func}
def iU.mono{g g':Option Nat}{n k:Nat}(h:iU g g' n)(c:k<=n):iU g g' k:=h.imp id λ⟨r,e,d⟩=>⟨r,e,by omega⟩
def F7[S:Std A][eg:PJ A]{ai:Type}{T:Array Value}{y B:Nat}(E:rv A ai T y B)(d:gM)(P:il)(L m:Nat)(ok:mN d P L m y B)(ao:d.ok)(r:Nat)(a1:td A E d P L m r):td A E d P L m (r+1):=by
 intro a p pre st v w bz bG hlen h aU;have bJ:=h.dm;have bB:=ok.pj;have bD:=ok.qC;have bC:=ok.fA;have bE:=ao.n;obtain⟨u,M⟩:∃W,((w.alloc (.cells #[.pointer (some ⟨L,0,none⟩)] 135)).alloc (.cells #[.int .i64 a,.int .i64 p] 139)).alloc (.cells #[.func (.func 50) #[] T] 48)=W:=⟨_,rfl⟩
 have ap:w.grownBy u none:=by rw[<-M];exact(Pn.trans Pn).trans Pn
 have s1:u.heap.size=w.heap.size+3:=by rw[<-M];simp
 have ay:u.heap[w.heap.size]?=some (.cells #[.pointer (some ⟨L,0,none⟩)] 135):=by rw[<-M,Pq (by simp only[Pp];omega),Pq (by simp only[Pp];omega),gA]
 have az:u.heap[w.heap.size+1]?=some (.cells #[.int .i64 a,.int .i64 p] 139):=by rw[<-M,Pq (by simp only[Pp];omega),h' _ _ _ (by simp only[Pp])]
 have aQ:u.heap[w.heap.size+1+1]?=some (.cells #[.func (.func 50) #[] T] 48):=by rw[<-M,h' _ _ _ (by simp only[Pp])]
 have D:=h.eQ ok ap;have i1:=(E.keep st _ _ _ _ aU ap (by simp)).1;have hd:((a:Int) == (d.n:Int))=false:=by rw[beq_eq_false_iff_ne];omega
 have bu:u.cell? ⟨L,0,none⟩=some (.slice (some ⟨P.mb,P.qL,none⟩) d.n P.o2):=aT D.blk;have bN:u.cell? ⟨w.heap.size,0,none⟩=some (.pointer (some ⟨L,0,none⟩)):=aT ay;have q1:u.cell? ⟨w.heap.size+1,0,none⟩=some (.int .i64 a):=aT az;have bS:=D.rows a (by omega);have bO:(a:Int)<(d.n:Int):=by omega
 have bQ:(0:Int)<=a:=by omega
 have bL:=ao.len a (by omega);have a7:=Pj ay;have a8:=Pj az;have a9:=Pj aQ;have bg:=Pj s1;have ba:=Pj D;have bc:=Pj i1;have aM:=Pj ap;have bb:=Pj M;have bf:=Pj h.own;have bd:=Pj a1;clear h D ap M aU i1 ay az aQ s1 a1;go_enter (S.f Tryz.func49),Tryz.ntmps49;go_upto_region 1 with fail
 rw[bb.out];go_quiet (fail);go_wp2;go_quiet (fail);go_wp2;have aA:∀n k,u.grownBy ((u.drewN n).drewN k) none:=λn k=>(hM u n).trans (hM _ k)
 go_loopw [33] (λi wr=>∃(j:Nat) (o:Value) (l:ai),i=.int .i64 j/\j<=d.len a/\jo (lM E.stop E.next d r) (λq=>f' d r q) (d.num a) p pre st j=(false,l)/\g1 d P L m B o pre wr/\E.Inv o.ownBlock l wr/\iU v.ownBlock o.ownBlock u.heap.size/\ca (ik L m y v.ownBlock) u wr) (λi _=>d.len a-numOf i)
 case atStart=>exact⟨0,v,st,rfl,by omega,rfl,ba.out.eQ ok (aA _ _),(E.keep st _ _ _ _ bc.out (aA _ _) (by simp)).1,.inl rfl,ca.ig (aA _ _)⟩
 case round=>
  obtain⟨j,o,l,rfl,bA,ah,F,bj,K,Q⟩:=hrel;have V:∀r,v.ownBlock=some r->r<w.heap.size:=λr e=>(kp bf.out r e).2
  have bH:=bg.out;have bI:=Q.size;have U:∀i,w.heap.size<=i->i<w.heap.size+3->wr.heap[i]?=u.heap[i]?:=λi D aq=>Q.block i (by omega) (λaG=>by
   rcases aG with e|e|e|e
   .omega
   .omega
   .omega
   .have:=V i e.symm;omega)
  have af:=(U w.heap.size Pk (by omega)).trans a7.out;have al:=(U (w.heap.size+1) (by omega) (by omega)).trans a8.out;have am:=(U (w.heap.size+1+1) (by omega) (by omega)).trans a9.out;by_cases aW:j<d.len a
  .have r0:wr.cell? ⟨w.heap.size,0,none⟩=some (.pointer (some ⟨L,0,none⟩)):=aT af
   have r1:wr.cell? ⟨w.heap.size+1,0,none⟩=some (.int .i64 a):=aT al;have bR:wr.cell? ⟨w.heap.size+1,1,none⟩=some (.int .i64 p):=aT al;have bT:=F.el a (by omega) j aW;have bF:=ao.num a (by omega) j aW;have bm:w.heap.size<wr.heap.size:=by omega
   have bM:w.heap.size+1<wr.heap.size:=by omega
   have bn:w.heap.size+1+1<wr.heap.size:=by omega
   by_cases hle:d.num a j<=(p:Int)
   .have bh:decide ((p:Int)<d.num a j)=false:=by simpa using hle
    obtain⟨q,aE⟩:∃q:Nat,(p:Int)-d.num a j=q:=⟨((p:Int)-d.num a j).toNat,by omega⟩
    have aY:p-(d.num a j).toNat=q:=by omega
    have fj:wr.grownBy (wr.alloc (.cells #[.int .i64 ((a:Int)+1),.int .i64 ((p:Int)-d.num a j)] 139)) none:=Pn;have aB:=F.eQ ok (Pv wr (.cells #[.int .i64 ((a:Int)+1),.int .i64 ((p:Int)-d.num a j)] 139) none);have a0:=(E.keep l _ _ _ _ bj fj (by simp)).1;have aF:=DW (A:=A) L m d ao P r (a+1) (by omega) q (by omega) _ aB.ls;have a6:ca (ik L m y v.ownBlock) u (wr.alloc (.cells #[.int .i64 ((a:Int)+1),.int .i64 ((p:Int)-d.num a j)] 139)):=Q.step fj (by simp);rw[<-aE]at aF;have aR:∀c,(wr.alloc (.cells #[.int .i64 ((a:Int)+1),.int .i64 ((p:Int)-d.num a j)] 139)).grownBy c (some m)->c.heap[w.heap.size]?=some (.cells #[.pointer (some ⟨L,0,none⟩)] 135)/\c.heap[w.heap.size+1+1]?=some (.cells #[.func (.func 50) #[] T] 48)/\c.heap[wr.heap.size]?=some (.cells #[.int .i64 ((a:Int)+1),.int .i64 ((p:Int)-d.num a j)] 139):=λc f=>by
     have aI:∀i,i≠m->some i≠some m:=λi h e=>h (Pm e)
     have q2:(wr.alloc (.cells #[.int .i64 ((a:Int)+1),.int .i64 ((p:Int)-d.num a j)] 139)).heap.size=wr.heap.size+1:=by simp
     exact⟨(f.block _ (by omega) (aI _ (by omega))).trans ((Pq bm).trans af),(f.block _ (by omega) (aI _ (by omega))).trans ((Pq bn).trans am),(f.block _ (by omega) (aI _ (by omega))).trans (gA _ _)⟩
    have aN:=Pj aR;have aV:o.ownBlock≠some wr.heap.size/\o.ownBlock≠some w.heap.size/\o.ownBlock≠some (w.heap.size+1+1):=by
     refine⟨λe=>?_,λe=>?_,λe=>?_⟩
     .have:=kp F.own _ e;omega
     .rcases K with J|⟨r,J,bi⟩
      .have:=V _ (J.symm.trans e);omega
      .have:=Pm (J.symm.trans e);omega
     .rcases K with J|⟨r,J,bi⟩
      .have:=V _ (J.symm.trans e);omega
      .have:=Pm (J.symm.trans e);omega
    have av:=Pj aV;have ax:=Pj aF;have X:=Pj aB;have Z:=Pj a0;have ae:=Pj a6;have ak:=Pj aE;have bs:=Pj af;have bt:=Pj am;have aP:=Pj ah;have H:=Pj K;have aw:=Pj aY;have bv:=Pj U;have bx:=Pj V;have bw:=Pj F;clear aR aV fj aF aB a0 a6 aE af al am ah K Q bj F aY U V;cases ar:((f' d r ((p:Int)-d.num a j):Int) == 0)
    .obtain⟨b,z,hF⟩:∃b z,lM E.stop E.next d r q (pre++[d.num a j]) l=(b,z):=⟨_,_,rfl⟩
     have au:=Pj hF;have aj:d.num a j<=(p:Int)/\f' d r ((p-(d.num a j).toNat:Nat):Int)≠0:=⟨hle,λaZ=>by rw[aw.out,<-ak.out]at aZ;rw[aZ]at ar;simp at ar⟩
     have aX:jo (lM E.stop E.next d r) (λq=>f' d r q) (d.num a) p pre st (j+1)=(b,z):=by rw[F4 aP.out aj,aw.out];exact au.out
     have R:=Pj aX;have aS:∀(c:World),c.heap[w.heap.size]?=some (.cells #[.pointer (some ⟨L,0,none⟩)] 135)/\c.heap[w.heap.size+1+1]?=some (.cells #[.func (.func 50) #[] T] 48)/\c.heap[wr.heap.size]?=some (.cells #[.int .i64 ((a:Int)+1),.int .i64 ((p:Int)-d.num a j)] 139)->∀v1 C,g1 d P L m B v1 (pre++[d.num a j]) C->E.Inv v1.ownBlock l C->iU o.ownBlock v1.ownBlock c.heap.size->ca (ik L m y o.ownBlock) c C->
      Calls (ag A) 66 #[.pointer (some ⟨w.heap.size,0,none⟩),.pointer (some ⟨wr.heap.size,0,none⟩),.pointer (some ⟨w.heap.size+1+1,0,none⟩)] C λe w2=>∃v2,e=.returned (.bool b)/\g1 d P L m B v2 (pre++[d.num a j]) w2/\E.Inv v2.ownBlock z w2/\iU v1.ownBlock v2.ownBlock C.heap.size/\ca (ik L m y v1.ownBlock) C w2:=by
      intro c ⟨a2,a3,a4⟩ v1 C D i1 q1 aK;have hQ:∀i,B<=i->o.ownBlock≠some i->¬ik L m y o.ownBlock i:=λi D aq aG=>by
       rcases aG with e|e|e|e
       .omega
       .omega
       .omega
       .exact aq e.symm
      have bk:=(aK.block _ (bp a2) (hQ _ (by omega) av.out.2.1)).trans a2;have bl:=(aK.block _ (bp a3) (hQ _ (by omega) av.out.2.2)).trans a3;have a5:=(aK.block _ (bp a4) (hQ _ (by omega) av.out.1)).trans a4;refine F2 w.heap.size wr.heap.size (w.heap.size+1+1) L (a+1) q T C _ (aT bk) (aT a5) ((aT a5).trans (by rw[<-ak.out];rfl)) (aT bl) ?_;refine(bd.out (a+1) q (pre++[d.num a j]) l v1 C (by omega) (by have:=ak.out;omega) (by rw[List.length_append,List.length_singleton];omega) D i1).mono ?_;rintro e w2 ⟨v2,rfl,aq,i2,bo,br⟩;rw[au.out]at i2;exact⟨_,rfl,v2,by rw[au.out],aq,i2,bo,br⟩
     have aO:=Pj aS;have bK:((f' d r ((p:Int)-d.num a j):Int) !=0)=true:=by rw[bne,ar];rfl
     clear hF aj aX aS;cases b
     .go_wp2_with (first|(go_at_call 48;refine ax.out.mono ?_;rintro e c ⟨rfl,G,f⟩;have Y:=Pj (X.out.known ok f G);have aa:=Pj (E.keep l _ _ _ _ Z.out f (λr e=>by cases e;exact⟨ok.nF.symm,.inl ok.fA⟩)).1;have I:=Pj (ae.out.step f (λr e=>.inl (.inr (.inl (by cases e;rfl)))));have ad:=Pj (aN.out c f);have bP:c.cell? ⟨w.heap.size,0,none⟩=some (.pointer (some ⟨L,0,none⟩)):=aT ad.out.1;clear G f)|(go_at_call 65;refine(D1 d P L m y B ok (d.num a j) o pre (by omega) c Y.out (λg w=>E.Inv g l w) (λg w=>E.Inv g z w) (E.keep l) (E.keep z) aa.out #[.pointer (some ⟨w.heap.size,0,none⟩),.pointer (some ⟨wr.heap.size,0,none⟩),.pointer (some ⟨w.heap.size+1+1,0,none⟩)] false (aO.out c ad.out)).mono ?_;rintro e bq ⟨v2,rfl,aC,aH,aJ,aL⟩))
      go_roundw
      case rel=>exact⟨j+1,v2,z,by go_num,by omega,R.out,aC,aH,H.out.trans aJ (by have:=I.out.size;omega),ik.step I.out aL H.out⟩
      case measure=>simp[numOf];omega
     .go_wp2_with (first|(go_at_call 48;refine ax.out.mono ?_;rintro e c ⟨rfl,G,f⟩;have Y:=Pj (X.out.known ok f G);have aa:=Pj (E.keep l _ _ _ _ Z.out f (λr e=>by cases e;exact⟨ok.nF.symm,.inl ok.fA⟩)).1;have I:=Pj (ae.out.step f (λr e=>.inl (.inr (.inl (by cases e;rfl)))));have ad:=Pj (aN.out c f);have bP:c.cell? ⟨w.heap.size,0,none⟩=some (.pointer (some ⟨L,0,none⟩)):=aT ad.out.1;clear G f)|(go_at_call 65;refine(D1 d P L m y B ok (d.num a j) o pre (by omega) c Y.out (λg w=>E.Inv g l w) (λg w=>E.Inv g z w) (E.keep l) (E.keep z) aa.out #[.pointer (some ⟨w.heap.size,0,none⟩),.pointer (some ⟨wr.heap.size,0,none⟩),.pointer (some ⟨w.heap.size+1+1,0,none⟩)] true (aO.out c ad.out)).mono ?_;rintro e bq ⟨v2,rfl,aC,aH,aJ,aL⟩))
      go_ret;have e:lM E.stop E.next d (r+1) p pre st=(true,z):=by rw[lM,show d.n-(r+1)=a by omega,show d.len a=(j+1)+(d.len a-(j+1)) by omega];exact Ae R.out _
      rw[e];exact⟨v2,rfl,aC,aH,(H.out.trans aJ (by have:=I.out.size;omega)).mono (by omega),(ca.ig aM.out).trans (ik.step I.out aL H.out)⟩
    .have aj:¬(d.num a j<=(p:Int)/\f' d r ((p-(d.num a j).toNat:Nat):Int)≠0):=λaD=>aD.2 (by rw[aw.out,<-ak.out];simpa using ar)
     have R:=Pj (Ad aP.out aj);clear aj;go_wp2_with (go_at_call 48;refine ax.out.mono ?_;rintro e c ⟨rfl,G,f⟩;have Y:=Pj (X.out.known ok f G);have aa:=Pj (E.keep l _ _ _ _ Z.out f (λr e=>by cases e;exact⟨ok.nF.symm,.inl ok.fA⟩)).1;have I:=Pj (ae.out.step f (λr e=>.inl (.inr (.inl (by cases e;rfl)))));clear G f)
     go_roundw
     case rel=>exact⟨j+1,o,l,by go_num,by omega,R.out,Y.out,aa.out,H.out,I.out⟩
     case measure=>simp[numOf];omega
   .have bh:decide ((p:Int)<d.num a j)=true:=by simp;omega
    have fj:wr.grownBy (wr.alloc (.cells #[.int .i64 ((a:Int)+1),.int .i64 ((p:Int)-d.num a j)] 139)) none:=Pn;have R:=Pj (Ad ah (λaD=>hle aD.1));have X:=Pj (F.eQ ok fj);have Z:=Pj (E.keep l _ _ _ _ bj fj (by simp)).1;have ae:=Pj (Q.step fj (by simp));have H:=Pj K;clear F bj Q K ah fj af al am U V;go_wp2;go_roundw
    case rel=>exact⟨j+1,o,l,by go_num,by omega,R.out,X.out,Z.out,H.out,ae.out⟩
    case measure=>simp[numOf];omega
  .go_wp2
   go_ret;obtain rfl:j=d.len a:=by omega
   have e:lM E.stop E.next d (r+1) p pre st=(false,l):=by rw[lM,show d.n-(r+1)=a by omega];exact ah
   rw[e];exact⟨o,rfl,F,bj,K.mono (by omega),(ca.ig aM.out).trans Q⟩
end
section
variable{A:Array Func}
def Af[S:Std A][eg:PJ A]{ai:Type}{f:Array Value}{y B:Nat}(E:rv A ai f y B)(d:gM)(P:il)(L m:Nat)(ok:mN d P L m y B)(c:d.ok):∀r,td A E d P L m r
 | 0=>F8 E d P L m ok c
 |r+1=>F7 E d P L m ok c r (Af E d P L m ok c r)
def tl(y B:Nat)(g:Option Nat)(st:Option (List Int))(w:World):Prop:=
 ∃v,w.heap[y]?=some (.cells #[v] 22)/\match st with
  |none=>v=.slice none 0 0
  |some l=>(w.ownsRow B 3 1 v l.length (l.map fX)/\∀r,v.ownBlock=some r->g≠some r)\/(l = []/\v=.slice none 0 0)
def tl.keep{y B:Nat}(I:y<B)(st:Option (List Int)):ti y B λg w=>tl y B g st w:=by
 intro g w w' row ⟨v,f,J⟩ o u;have d:w'.heap[y]?=some (.cells #[v] 22):=(o.block y (bp f) (λe=>(u y e.symm).1 rfl)).trans f;cases st with
 |none=>exact⟨⟨v,d,J⟩,λg' _=>⟨v,d,J⟩⟩
 |some l=>
  rcases J with⟨J,i⟩|J
  .have q:w'.ownsRow B 3 1 v l.length (l.map fX):=by
    obtain⟨p,⟨rfl,D⟩|⟨b,c,cur,rfl,C,j,q1,E,F,G⟩⟩:=J
    .exact⟨p,.inl ⟨rfl,D⟩⟩
    .refine⟨p,.inr ⟨b,c,cur,rfl,C,(o.block b (bp j) (λe=>?_)).trans j,q1,E,F,G⟩⟩
     rcases(u b e.symm).2 with h|h
     .omega
     .exact i b rfl h.symm
   refine⟨⟨v,d,.inl ⟨q,i⟩⟩,λg' H=>⟨v,d,.inl ⟨q,λr e z=>?_⟩⟩⟩;have:=(kp J r e).2;have:=Pm z;omega
  .exact⟨⟨v,d,.inr J⟩,λg' _=>⟨v,d,.inr J⟩⟩
def GJ(w:World):Sem.run (ag A) (binOp .eql 22 (.slice none 0 0) (.slice none 0 0)) w=.ok (.bool true) w:=by kernel_rfl
def GK(a:Addr)(n c:Nat)(w:World):Sem.run (ag A) (binOp .eql 22 (.slice (some a) n c) (.slice none 0 0)) w=.ok (.bool false) w:=by kernel_rfl
def Fs[S:Std A][eg:PJ A](B:Nat)(v:Value)(pre:List Int)(hlen:pre.length<=100)(w:World)(af:B<=w.heap.size)(h:w.ownsRow B 3 1 v pre.length (pre.map fX)):
 Calls (ag A) 51 #[v] w λe w'=>∃a c,e=.returned (.slice a pre.length c)/\((w'.ownsRow w.heap.size 3 1 (.slice a pre.length c) pre.length (pre.map fX))\/(pre = []/\Value.slice a pre.length c=.slice none 0 0))/\w.grownBy w' none:=by
 obtain⟨Z,f,C,D,E⟩:=xj (A:=A);obtain⟨G,⟨rfl,H⟩|⟨b,c,cur,rfl,ai,q,q1,aa,ad,K⟩⟩:=h
 .have I:pre = []:=by
   cases pre with
   |nil=>rfl
   |cons a l=>simp at H
  have T:=Pj I;clear I G H f C D E;go_enter (S.f Tryz.func51),Tryz.ntmps51;have Y:=GJ (A:=A);go_wp2;go_ret;rw[T.out];exact⟨none,0,rfl,.inr ⟨rfl,rfl⟩,Pw _ _⟩
 .have F:∀(j:Nat) u,(pre.map fX)[j]?=some u->w.cell? ⟨b,j,none⟩=some u:=λj u r=>by
   rw[aT q,<-Array.getElem?_toList];have o:(cur.toList.take (pre.length*1))[j]?=some u:=by rw[K];exact r
   rw[List.getElem?_take]at o;split at o
   .exact o
   .cases o
  have L:=Pj F;have M:=Pj f;have U:=Pj C;have V:=Pj D;have W:=Pj E;have P:=Pj (bp q);have J:(w.alloc (.cells #[] 3)).ownsRow w.heap.size 3 1 (.slice (some ⟨w.heap.size,0,none⟩) 0 0) 0 []:=⟨rfl,.inr ⟨w.heap.size,0,#[],rfl,Pk,gA _ _,Pk,by unfold maxLen;omega,rfl,rfl⟩⟩
  have X:=Pj J;clear F q q1 aa ad K G f C D E J;go_enter (S.f Tryz.func51),Tryz.ntmps51;have Q:=Pj (show ∀(j:Nat) u,(pre.map fX)[j]?=some u->(w.alloc (.cells #[] 3)).cell? ((⟨b,0,none⟩:Addr).add j)=some u from λj u r=>by have:=L.out j u r;rw[show((⟨b,0,none⟩:Addr).add j)=⟨b,j,none⟩ by simp[Addr.add]<;>omega];exact(Pz _ _ _ P.out).trans this)
  have Y:=GK (A:=A) ⟨b,0,none⟩ pre.length c;have R:=Pj (show ∀u∈pre.map fX,u.oneCell'=true from λu hu=>by obtain⟨n,_,rfl⟩:=List.mem_map.1 hu;rfl)
  go_wp2_with (at_builtin;refine wpList_append_own_at _ rfl _ _ 22 rfl w.heap.size 3 Z (.int .i64 0) 1 8 (ag.underlying22 A) M.out U.out V.out W.out rfl (by decide) _ 0 _ rfl X.out ⟨b,0,none⟩ pre.length c (pre.map fX) rfl (by simp) Q.out R.out (by unfold maxLen;omega) (by omega) (by simp) ?_;intro ae ak z d aj ah)
  go_ret;rw[Nat.zero_add,List.nil_append]at z;obtain⟨p,bo,rfl⟩:∃p bo,ae=.slice p pre.length bo:=by
   obtain⟨_,⟨rfl,h⟩|⟨g,c,cur,rfl,_⟩⟩:=z
   .exact⟨none,0,by rw[h]⟩
   .exact⟨_,_,rfl⟩
  refine⟨p,bo,rfl,.inl z,?_⟩
  .refine⟨d.os,d.tape,d.output,Po (by simp) d.size,λi f _=>(d.block i (by simp;omega) (λe=>?_)).trans (Pq f)⟩
   have e:some i=some w.heap.size:=e;have:=Pm e;omega
def yr[S:Std A][eg:PJ A](y B:Nat)(T:y<B):rv A (Option (List Int)) #[.pointer (some ⟨y,0,none⟩)] y B where
 Inv g st w:=tl y B g st w/\B<=w.heap.size
 stop _ _:=true
 next _ pre:=some pre
 keep st:=λg w w' row h u E=>by have:=tl.keep T st g w w' row h.1 u E;exact⟨⟨this.1,Po h.2 u.size⟩,λg' R=>⟨this.2 g' R,Po h.2 u.size⟩⟩
 call st w v pre z hlen D:=by
  obtain⟨⟨v0,F,_⟩,H⟩:=z;have K:=Pj (Fs (A:=A) B v pre hlen w H D);have J:=Pj λr (e:v.ownBlock=some r)=>kp D r e
  have q:=Pj F;have C:=bp F;clear F D;show Calls (ag A) 50 #[v,.pointer (some ⟨y,0,none⟩)] w _;go_enter (S.f Tryz.func50),Tryz.ntmps50;go_wp2_with (go_at_call 51;refine K.out.mono ?_;rintro e l ⟨f,j,rfl,I,p⟩;have bu:l.cell? ⟨y,0,none⟩=some v0:=aT ((p.block y C (by simp)).trans q.out);have z0:=b1 (o:=0) ((p.block y C (by simp)).trans q.out);have L:=Pj I;have c:=Pj p;clear I p)
  have U:=(c.out.block y C (by simp)).trans q.out;have P:(l.setCell ⟨y,0,none⟩ (.slice f pre.length j)).heap[y]?=some (.cells #[.slice f pre.length j] 22):=cQ U;have d:l.grownBy (l.setCell ⟨y,0,none⟩ (.slice f pre.length j)) (some y):=et (Pw _ _);have W:=c.out.size;generalize l.setCell ⟨y,0,none⟩ (.slice f pre.length j)=V at *;have X:=d.size;refine bodyPost_ret (results_tmp rfl _ _ _) rfl ⟨rfl,⟨⟨.slice f pre.length j,P,?_⟩,by omega⟩,⟨d.os.trans c.out.os,d.tape.trans c.out.tape,d.output.trans c.out.output,by omega,λi z E=>(d.block i (by omega) E).trans (c.out.block i z (by simp))⟩⟩;rcases L.out with h|h
  .refine .inl ⟨kq (BR h H) (λg Q G=>d.block g G (λe=>by have:=Pm e;omega)),λr e M=>?_⟩
   have Q:=(kp h r e).1;have G:=(J.out r M).2;omega
  .exact .inr h
end
section
variable{A:Array Func}
def fg.of{w w':World}{T g:Nat}{L:Value}(h:fg w T L g)(e:w'.heap=w.heap):fg w' T L g:=by
 obtain⟨⟨s,l,o⟩,d⟩:=h;refine⟨⟨s,by rw[e];exact l,o⟩,?_⟩;rcases d with d|⟨b,off,n,c,z,q1,p,q,i⟩
 .exact .inl d
 .exact .inr ⟨b,off,n,c,z,q1,p,q,λj f=>⟨by have:=(i j f).1;unfold World.cell? at this ⊢;rw[e];exact this,(i j f).2⟩⟩
def fg.lt{w:World}{T g:Nat}{L:Value}(h:fg w T L g):T<w.heap.size:=by obtain⟨⟨s,c,f⟩,d⟩:=h;exact(Array.getElem?_eq_some_iff.1 c).1
def fg.keep{w w':World}{T g:Nat}{L:Value}(h:fg w T L g)(k:∀b,b<w.heap.size->w'.heap[b]?=w.heap[b]?):fg w' T L g:=by
 have l:=h.lt;obtain⟨⟨s,o,p⟩,f⟩:=h;refine⟨⟨s,(k T l).trans o,p⟩,?_⟩;rcases f with f|⟨b,off,n,c,z,q1,q,r,i⟩
 .exact .inl f
 .exact .inr ⟨b,off,n,c,z,q1,q,r,λj d=>⟨(World.cell?_of_block (k b (mV (i j d).1))).trans (i j d).1,(i j d).2⟩⟩
def fg.alloc{w:World}{T g:Nat}{L:Value}(h:fg w T L g)(o:Obj):fg (w.alloc o) T L g:=h.keep λb c=>Pq c
def rC(L:Value)(b:Nat):Prop:=∀a off n c,L=.slice (some ⟨a,off,none⟩) n c->0<n->a≠b
def j4.na{w w':World}{T b:Nat}{L:Value}(h:j4 w L T)(o:rC L b)(k:ca (λi=>i=T\/i=b) w w'):j4 w' L T:=by
 rcases h with l|⟨a,off,n,c,z,q1,p,f,g⟩
 .exact .inl l
 .exact .inr ⟨a,off,n,c,z,q1,p,f,λj d=>⟨k.cell (g j d).1 (λe=>e.elim f (o a off n c q1 (by omega))),(g j d).2⟩⟩
def j4.off{w:World}{T b:Nat}{L:Value}(h:j4 w L T)(d:w.heap.size<=b):rC L b:=λa off n c e f=>by
 rcases h with h|⟨i,j,cM,bo,z,q1,l,o,g⟩
 .rw[h]at e;cases e
 .rw[q1]at e
  cases e;have:=mV (g 0 f).1;show a≠b;intro e;subst e;exact absurd this (Nat.not_lt.2 d)
def ca.Df{X Y:Nat->Prop}{a b c:World}(h:ca X a b)(k:ca Y b c)(g:∀i,Y i->X i\/a.heap.size<=i):ca X a c:=
 ⟨k.os.trans h.os,k.tape.trans h.tape,k.output.trans h.output,Po h.size k.size,λi d f=>(k.block i (Px d h.size) λe=>(g i e).elim f (λx=>by omega)).trans (h.block i d f)⟩
structure gq(aI:World)(T b:Nat)(L:Value)(ty:TypeId)(g:Nat)(cs:Array Value)(w:World):Prop where
 blk:w.heap[b]?=some (.cells cs ty)
 st:∃s:Int,w.heap[T]?=some (.cells #[L,.int .i64 g,.int .u64 s] 51)/\0<=s/\s<=18446744073709551615
 bU:ca (λi=>i=T\/i=b) aI w
 lJ:T<b
 dN:b<aI.heap.size
 off:rC L b
 mr:j4 aI L T
def gq.ri{aI w:World}{T b:Nat}{L:Value}{c:TypeId}{g:Nat}{cs:Array Value}(M:gq aI T b L c g cs w):fg w T L g:=⟨M.st,M.mr.na M.off M.bU⟩
def gq.start{w:World}{T b:Nat}{L:Value}{f:TypeId}{g:Nat}{cs:Array Value}(c:w.heap[b]?=some (.cells cs f))(d:fg w T L g)(h:T<b)(i:rC L b):gq w T b L f g cs w:=
 ⟨c,d.blk,.refl _ _,h,bp c,i,d.mr⟩
def gq.round{aI:World}{T b:Nat}{L:Value}{j:TypeId}{g u:Nat}{cs:Array Value}{wr:World}(M:gq aI T b L j g cs wr){v:Value}{k:Nat}{xs:List Value}(own:wr.ownsRow aI.heap.size 3 1 v k xs){f h c:World}{C D:Obj}(q:wr.drew.grownBy f (some T))(w:(f.alloc C).grownBy h (some T))(t6:fg h T L u)(l:(h.alloc D).grownBy c v.ownBlock)(d:Value)(o:Nat){B:Nat}{G:List Value}(V:c.ownsRow aI.heap.size 3 1 d B G):
 gq aI T b L j u (cs.setIfInBounds o d) (c.setCell ⟨b,o,none⟩ d)/\(c.setCell ⟨b,o,none⟩ d).ownsRow aI.heap.size 3 1 d B G:=by
 have Q:=M.dN;have P:=M.lJ;have bP:=M.bU.size;have p:=λr e=>kp own r e
 have E:ca (λi=>i=T\/i=b) aI f:=ca.step (M.bU.trans (ca.of (w':=wr.drew) (row:=none) (fQ (Pw _ _)) (by simp))) q (λr e=>.inl (.inl (Pm e).symm));have X:ca (λi=>i=T\/i=b) aI (f.alloc C):=E.trans (.ig Pn);have F:ca (λi=>i=T\/i=b) aI h:=X.step w (λr e=>.inl (.inl (Pm e).symm));have Y:ca (λi=>i=T\/i=b) aI (h.alloc D):=F.trans (.ig Pn);have W:ca (λi=>i=T\/i=b) aI c:=Y.step l (λr e=>.inr ((p r e).1));have ad:aI.heap.size<=f.heap.size:=E.size;have z:(some b:Option Nat)≠some T:=λe=>by have:=Pm e;omega
 have H:f.heap[b]?=some (.cells cs j):=(q.block b (by show b<wr.heap.size;omega) z).trans M.blk;have I:h.heap[b]?=some (.cells cs j):=(w.block b (by simp;omega) z).trans ((Pq (by omega)).trans H);have ae:=F.size;have J:c.heap[b]?=some (.cells cs j):=(l.block b (by simp;omega) (λe=>by have:=(p b e.symm).1;omega)).trans ((Pq (by omega)).trans I);have U:c.grownBy (c.setCell ⟨b,o,none⟩ d) (some b):=et (Pw _ _);obtain⟨s,R,S⟩:=t6.blk;refine⟨⟨cQ J,⟨s,?_,S⟩,W.step U (λr e=>.inl (.inr (Pm e).symm)),P,Q,M.off,M.mr⟩,
  kq V λK Z aa=>ft (by show K≠b;omega)⟩
 refine(ft (by show T≠b;omega)).trans ((l.block T (by simp;omega) (λe=>by have:=(p T e.symm).1;omega)).trans ((Pq (by omega)).trans R))
def BQ{wr c j:World}{B T n:Nat}{v:Value}{xs:List Value}{o p:Obj}(h:wr.ownsRow B 3 1 v n xs)(u:T<B)(d:wr.drew.grownBy c (some T))(f:(c.alloc o).grownBy j (some T)):(j.alloc p).ownsRow B 3 1 v n xs:=
 kq h λg r l=>by
  have i:(some g:Option Nat)≠some T:=λe=>by have:=Pm e;omega
  have w:wr.heap.size<=c.heap.size:=d.size;have q:=f.size;simp at q;exact(Pq (by omega)).trans ((f.block g (by simp;omega) i).trans ((Pq (by omega)).trans (d.block g l i)))
def zx{wr c i j:World}{B T n b:Nat}{v:Value}{xs:List Value}{q r o:Obj}(h:wr.heap[b]?=some o)(own:wr.ownsRow B 3 1 v n xs)(w:T<b)(z:b<B)(d:wr.drew.grownBy c (some T))(f:(c.alloc q).grownBy i (some T))(l:(i.alloc r).grownBy j v.ownBlock):j.heap[b]?=some o:=by
 have g:(some b:Option Nat)≠some T:=λe=>by have:=Pm e;omega
 have C:wr.heap.size<=c.heap.size:=d.size;have u:=f.size;simp at u;have p:=bp h;exact(l.block b (by simp;omega) (λe=>by have:=(kp own b e.symm).1;omega)).trans ((Pq (by omega)).trans ((f.block b (by simp;omega) g).trans ((Pq (by omega)).trans ((d.block b p g).trans h))))
def Dn{wr c d:World}{T:Nat}{h:Obj}(f:wr.drew.grownBy c (some T))(g:(c.alloc h).grownBy d (some T)):wr.heap.size<=d.heap.size:=by have j:wr.heap.size<=c.heap.size:=f.size;have i:=g.size;simp at i;omega
structure kS where
 dz:Nat
 im:Nat
 j':Nat
 fD:List Int
 deriving Inhabited
def Ca(K:Nat)(r:kS):List Value:=[.int .i64 r.dz,.slice (some ⟨r.im,0,none⟩) K r.j']
def lj(K:Nat)(rs:List kS):List Value:=rs.flatMap (Ca K)
def Ky(K:Nat)(rs:List kS)(r:kS):lj K (rs++[r])=lj K rs++Ca K r:=by simp[lj]
def mE(K:Nat)(c d f:Value):Array Value:=#[.int .i64 K,c,d,f]
def zf(w:World)(K:Nat)(r:kS):Prop:=∃cur:Array Value,w.heap[r.im]?=some (.cells cur 3)/\cur.toList.take K=r.fD.map fX
structure oV(w3:World)(T b:Nat)(L:Value)(g K:Nat)(e9:Value)(rs:List kS)(fr:Nat)(fu:Value)(wr:World):Prop where
 gl:gq w3 T b L 27 g (mE K e9 fu (.slice none 0 0)) wr
 own:wr.ownsRow w3.heap.size 55 2 fu rs.length (lj K rs)
 fD:∀r∈rs,zf wr K r/\w3.heap.size<=r.im/\fu.ownBlock≠some r.im
 gw:∀r∈rs,r.dz<=4/\r.fD.length=K/\∀x∈r.fD,0<=x/\x<=9
 rP:rs.Pairwise (λa b=>a.dz<b.dz)
 zero:∀r,rs[0]?=some r->r.dz=0
 top:(rs = []->fr=0)/\∀r∈rs,r.dz<fr
def xX{w:World}{B n:Nat}{e:TypeId}{g:Nat}{v:Value}{xs:List Value}(h:w.ownsRow B e g v n xs)(r:Nat)(k:v.ownBlock=some r):B<=r/\r<w.heap.size:=by
 obtain⟨i,⟨rfl,_⟩|⟨b,c,cur,rfl,d,f,_⟩⟩:=h
 .cases k
 .cases k;exact⟨d,bp f⟩
def xY{w:World}{B n:Nat}{v:Value}{xs:List Value}(h:w.ownsRow B 3 1 v n xs)(r:0<n):∃g cap cur,v=.slice (some ⟨g,0,none⟩) n cap/\B<=g/\g<w.heap.size/\w.heap[g]?=some (.cells cur 3)/\cur.toList.take n=xs:=by
 obtain⟨q,⟨_,h⟩|⟨g,c,cur,f,j,d,l,o,p,i⟩⟩:=h
 .omega
 .exact⟨g,c,cur,f,j,bp d,d,by simpa using i⟩
def oV.round{w3:World}{T b:Nat}{L:Value}{g K:Nat}{B:Value}{rs:List kS}{fr:Nat}{f:Value}{wr:World}(br:oV w3 T b L g K B rs fr f wr)(aF:fr<5)(aa:0<K){Z:Nat}{G:Value}{d:World}{F:Obj}(M:gq (wr.alloc F) T wr.heap.size L 55 Z #[.int .i64 fr,G] d){xs:List Int}(av:d.ownsRow (wr.alloc F).heap.size 3 1 G K (xs.map fX))(hlen:xs.length=K)(am:∀x∈xs,0<=x/\x<=9){p q:World}{R:Obj}(C:(d.alloc R).grownBy p f.ownBlock){o cap:Nat}(ai:f.ownBlock=some o\/o=d.heap.size+1)(aw:p.ownsRow w3.heap.size 55 2 (.slice (some ⟨o,0,none⟩) (rs.length+1) cap) (rs.length+1) (lj K rs++[.int .i64 fr,G]))(D:p.grownBy q (some T)){H:Nat}(t7:fg q T L H)(bg:Nat)(J:fr<bg):
 ∃r,oV w3 T b L H K B (rs++[r]) bg (.slice (some ⟨o,0,none⟩) (rs.length+1) cap) (q.setCell ⟨b,2,none⟩ (.slice (some ⟨o,0,none⟩) (rs.length+1) cap)):=by
 obtain⟨l,S,cur,rfl,ad,I,ae,af⟩:=xY av aa;have ag:=br.gl.lJ;have aj:=br.gl.dN;have aG:=br.gl.bU.size;have ax:=M.bU.size;have ay:=C.size;have aH:=D.size;simp at ax ay ad;have E:=λr e=>xX br.own r e
 have az:ca (λi=>i=T\/i=b) w3 (wr.alloc F):=br.gl.bU.trans (.ig Pn);have aA:ca (λi=>i=T\/i=b) w3 d:=az.Df M.bU (λi e=>e.elim (λe=>.inl (.inl e)) λe=>.inr (by omega));have aE:ca (λi=>i=T\/i=b) w3 (d.alloc R):=aA.trans (.ig Pn);have aB:ca (λi=>i=T\/i=b) w3 p:=aE.step C (λr e=>.inr (E r e).1);have aC:ca (λi=>i=T\/i=b) w3 q:=aB.step D (λr e=>.inl (.inl (Pm e).symm));have aD:ca (λi=>i=T\/i=b) w3 (q.setCell ⟨b,2,none⟩ (.slice (some ⟨o,0,none⟩) (rs.length+1) cap)):=aC.step (et (T:=b) (Pw _ _)) (λr e=>.inl (.inr (Pm e).symm));have al:(some b:Option Nat)≠some T:=λe=>by have:=Pm e;omega
 have ak:(some b:Option Nat)≠f.ownBlock:=λe=>by have:=(E b e.symm).1;omega
 have W:d.heap[b]?=some (.cells (mE K B f (.slice none 0 0)) 27):=(M.bU.block b (by simp;omega) (by omega)).trans ((Pq (by omega)).trans br.gl.blk);have X:p.heap[b]?=some (.cells (mE K B f (.slice none 0 0)) 27):=(C.block b (by simp;omega) ak).trans ((Pq (by omega)).trans W);have Y:q.heap[b]?=some (.cells (mE K B f (.slice none 0 0)) 27):=(D.block b (by omega) al).trans X;obtain⟨s,ar,au⟩:=t7.blk;have si:∀i,w3.heap.size<=i->i<p.heap.size->(q.setCell ⟨b,2,none⟩ (.slice (some ⟨o,0,none⟩) (rs.length+1) cap)).heap[i]?=p.heap[i]?:=λi u j=>
  (ft (by show i≠b;omega)).trans (D.block i j λe=>by have:=Pm e;omega)
 have Q:∀i,w3.heap.size<=i->i<d.heap.size->f.ownBlock≠some i->p.heap[i]?=d.heap[i]?:=λi u j w=>
  (C.block i (by simp;omega) (λe=>w e.symm)).trans (Pq j)
 have P:∀i,i<d.heap.size->f.ownBlock≠some i->o≠i:=λi u j e=>by
  subst e;rcases ai with h|h
  .exact j h
  .omega
 refine⟨⟨fr,l,S,xs⟩,⟨cQ Y,⟨s,(ft (by show T≠b;omega)).trans ar,au⟩,aD,ag,aj,br.gl.off,br.gl.mr⟩,?_,λr ao=>?_,λr ao=>?_,?_,λr ao=>?_,λh=>by simp at h,λr ao=>?_⟩
 .rw[List.length_append,Ky]
  exact kq aw λi u j=>si i u j
 .rcases List.mem_append.1 ao with ao|ao
  .obtain⟨⟨U,u,j⟩,w,z⟩:=br.fD r ao
   have aq:=bp u;have V:d.heap[r.im]?=wr.heap[r.im]?:=(M.bU.block _ (by simp;omega) (by omega)).trans (Pq aq);refine⟨⟨U,?_,j⟩,w,λe=>P r.im (by omega) z (Pm e)⟩;rw[si _ w (by omega),Q _ w (by omega) z,V];exact u
  .obtain rfl:=Ps ao
   have z:f.ownBlock≠some l:=λe=>by have:=(E l e).2;omega
   refine⟨⟨cur,?_,af⟩,by show w3.heap.size<=l;omega,λe=>P l I z (Pm e)⟩;show(q.setCell _ _).heap[l]?=_;rw[si l (by omega) (by omega),Q l (by omega) I z];exact ae
 .rcases List.mem_append.1 ao with ao|ao
  .exact br.gw r ao
  .obtain rfl:=Ps ao
   exact⟨by show fr<=4;omega,hlen,am⟩
 .rw[List.pairwise_append]
  refine⟨br.rP,by simp,λa ah c ap=>?_⟩;obtain rfl:=Ps ap;exact br.top.2 a ah
 .rcases rs with _|⟨r0,rs⟩
  .simp at ao
   subst ao;exact br.top.1 rfl
  .exact br.zero r (by simpa using ao)
 .rcases List.mem_append.1 ao with ao|ao
  .exact Nat.lt_trans (br.top.2 r ao) J
  .obtain rfl:=Ps ao
   exact J
def oV.NP{w3:World}{T b:Nat}{L:Value}{g K:Nat}{l:Value}{rs:List kS}{fr:Nat}{c:Value}{wr:World}(br:oV w3 T b L g K l rs fr c wr){o:Nat}{cs:Array Value}{d:World}{p:Obj}(M:gq (wr.alloc p) T wr.heap.size L 55 o cs d){f:World}{q:Obj}(h:(d.alloc q).grownBy f c.ownBlock):
 fg f T L o/\f.heap[b]?=some (.cells (mE K l c (.slice none 0 0)) 27):=by
 have I:=br.gl.lJ;have J:=br.gl.dN;have P:=br.gl.bU.size;have D:=M.bU.size;simp at D;have j:=λr e=>xX br.own r e
 have E:ca (λi=>i=T\/i=b) w3 (wr.alloc p):=br.gl.bU.trans (.ig Pn);have F:ca (λi=>i=T\/i=b) w3 d:=E.Df M.bU (λi e=>e.elim (λe=>.inl (.inl e)) λe=>.inr (by omega));have H:ca (λi=>i=T\/i=b) w3 (d.alloc q):=F.trans (.ig Pn);have G:ca (λi=>i=T\/i=b) w3 f:=H.step h (λr e=>.inr (j r e).1);have z:(some b:Option Nat)≠c.ownBlock:=λe=>by have:=(j b e.symm).1;omega
 have w:(some T:Option Nat)≠c.ownBlock:=λe=>by have:=(j T e.symm).1;omega
 have u:d.heap[b]?=some (.cells (mE K l c (.slice none 0 0)) 27):=(M.bU.block b (by simp;omega) (by omega)).trans ((Pq (by omega)).trans br.gl.blk);obtain⟨s,B,C⟩:=M.st;exact⟨⟨⟨s,(h.block T (by simp;omega) w).trans ((Pq (by omega)).trans B),C⟩,br.gl.mr.na br.gl.off G⟩,(h.block b (by simp;omega) z).trans ((Pq (by omega)).trans u)⟩
def gq.called{aI:World}{T b:Nat}{L:Value}{f:TypeId}{g d:Nat}{cs:Array Value}{wr c:World}(M:gq aI T b L f g cs wr){v:Value}{k:Nat}{xs:List Value}(own:wr.ownsRow aI.heap.size 3 1 v k xs)(h:wr.grownBy c (some T))(t6:fg c T L d):
 gq aI T b L f d cs c/\c.ownsRow aI.heap.size 3 1 v k xs:=by
 have j:=M.lJ;have l:=M.dN;have s:=M.bU.size;exact⟨⟨(h.block b (by omega) (λe=>by have:=Pm e;omega)).trans M.blk,t6.blk,M.bU.step h (λr e=>.inl (.inl (Pm e).symm)),j,l,M.off,M.mr⟩,kq own λg o i=>h.block g i (λe=>by have:=Pm e;omega)⟩
def gq.fq{aI:World}{T b:Nat}{L:Value}{d:TypeId}{g:Nat}{cs:Array Value}{c f:World}(M:gq aI T b L d g cs c){v:Value}{k:Nat}{xs:List Value}(own:c.ownsRow aI.heap.size 3 1 v k xs){j:Obj}(h:(c.alloc j).grownBy f v.ownBlock):f.heap[b]?=some (.cells cs d):=by
 have i:=λr e=>kp own r e
 have l:=M.lJ;have o:=M.dN;have s:=M.bU.size;exact(h.block b (by simp;omega) (λe=>by have:=(i b e.symm).1;omega)).trans ((Pq (by omega)).trans M.blk)
def gq.put{aI:World}{T b:Nat}{L:Value}{p:TypeId}{g:Nat}{cs:Array Value}{h d:World}(M:gq aI T b L p g cs h){v:Value}{k:Nat}{xs:List Value}(own:h.ownsRow aI.heap.size 3 1 v k xs){E:Obj}(f:(h.alloc E).grownBy d v.ownBlock)(c:Value)(o:Nat){l:Nat}{q:List Value}(F:d.ownsRow aI.heap.size 3 1 c l q):
 gq aI T b L p g (cs.setIfInBounds o c) (d.setCell ⟨b,o,none⟩ c)/\(d.setCell ⟨b,o,none⟩ c).ownsRow aI.heap.size 3 1 c l q:=by
 have j:=λr e=>kp own r e
 have z:=M.lJ;have B:=M.dN;have s:=M.bU.size;have u:=M.fq own f;have G:ca (λi=>i=T\/i=b) aI d:=ca.step (M.bU.trans (.ig Pn)) f (λr e=>.inr (j r e).1);obtain⟨a6,C,D⟩:=M.st;exact⟨⟨cQ u,⟨a6,(ft (by show T≠b;omega)).trans ((f.block T (by simp;omega) (λe=>by have:=(j T e.symm).1;omega)).trans ((Pq (by omega)).trans C)),D⟩,G.step (et (T:=b) (Pw _ _)) (λr e=>.inl (.inr (Pm e).symm)),z,B,M.off,M.mr⟩,
  kq F λw H I=>ft (by show w≠b;omega)⟩
def Bd(j:Nat):∀(c:List Nat) (b4:Nat),c.Pairwise (· < ·)->(∀x∈c,b4<=x/\x<j)->c.length+b4<=max b4 j
 | [],b4,_,_=>by simp;omega
 |a::c,b4,h,d=>by
  have f:=List.pairwise_cons.1 h;have i:=Bd j c (a+1) f.2 λx g=>⟨f.1 x g,(d x (List.mem_cons_of_mem _ g)).2⟩
  have l:=d a (List.mem_cons_self);simp only[List.length_cons];omega
def Il{c:List Nat}{j:Nat}(d:c.Pairwise (· < ·))(f:∀x∈c,x<j):c.length<=j:=by
 have:=Bd j c 0 d λx g=>⟨Nat.zero_le _,f x g⟩
 omega
def JW{w:World}{B n:Nat}{v:Value}{xs:List Value}(h:w.ownsRow B 3 1 v n xs):∃p c,v=.slice p n c/\(n≠0->∃g cur,p=some ⟨g,0,none⟩/\B<=g/\w.heap[g]?=some (.cells cur 3)/\cur.toList.take n=xs):=by
 obtain⟨r,⟨rfl,rfl⟩|⟨g,c,cur,d,i,j,l,o,q,f⟩⟩:=h
 .exact⟨none,0,rfl,λh=>absurd rfl h⟩
 .exact⟨_,c,d,λ_=>⟨g,cur,rfl,i,j,by simpa using f⟩⟩
def JX{w:World}{B n:Nat}{v:Value}{xs:List Value}(h:w.ownsRow B 55 2 v n xs)(l:n≠0):∃g c cur,v=.slice (some ⟨g,0,none⟩) n c/\B<=g/\w.heap[g]?=some (.cells cur 55)/\cur.toList.take (n*2)=xs:=by
 obtain⟨r,⟨_,h⟩|⟨g,c,cur,d,i,j,o,p,q,f⟩⟩:=h
 .exact absurd h l
 .exact⟨g,c,cur,d,i,j,f⟩
def tE{w:World}{b n i:Nat}{cur:Array Value}{e:TypeId}{xs:List Value}{v:Value}(h:w.heap[b]?=some (.cells cur e))(d:cur.toList.take n=xs)(c:xs[i]?=some v):w.cell? ⟨b,0+i,none⟩=some v:=by
 refine(aT (o:=0+i) h).trans ?_;rw[<-d,List.getElem?_take]at c;split at c
 .rw[Nat.zero_add,<-Array.getElem?_toList]
  exact c
 .cases c
def BI{w:World}{b n:Nat}{cur:Array Value}{e:TypeId}{xs:List Int}(h:w.heap[b]?=some (.cells cur e))(c:cur.toList.take n=xs.map fX)(f:xs.length=n):iD w b 0 n (λk=>xs.getD k 0):=λk d=>by refine tE h c ?_;rw[List.getElem?_map,List.getElem?_eq_getElem (by omega)];simp[fX,List.getD_eq_getElem?_getD,List.getElem?_eq_getElem (show k<xs.length by omega)]
def x9(K:Nat):∀(rs:List kS) (i:Nat) (r:kS),rs[i]?=some r->(lj K rs)[i*2]?=some (.int .i64 r.dz)/\(lj K rs)[i*2+1]?=some (.slice (some ⟨r.im,0,none⟩) K r.j')
 | [],i,r,h=>by simp at h
 |a::rs,0,r,h=>by simp at h;subst h;exact⟨rfl,rfl⟩
 |a::rs,i+1,r,h=>by have:=x9 K rs i r (by simpa using h);have e:lj K (a::rs)=.int .i64 a.dz::.slice (some ⟨a.im,0,none⟩) K a.j'::lj K rs:=rfl;rw[e,show(i+1)*2=i*2+1+1 by omega];simpa using this
def n4{α:Type}[Inhabited α]{l:List α}{i:Nat}(h:i<l.length):l[i]?=some (l.getD i default):=by rw[List.getD_eq_getElem?_getD,List.getElem?_eq_getElem h];rfl
def IU{w:World}{T K z eT q h8 h9:Nat}{E F:Array Value}{xs:List Int}{rs:List kS}{f:List Nat}{B:Option Addr}(R:1<=K/\K<=3)(hF:w.heap[z]?=some (.cells E 3))(Q:E.toList.take K=xs.map fX)(L:xs.length=K)(Y:∀x∈xs,0<=x/\x<=9)(G:w.heap[q]?=some (.cells F 55))(H:F.toList.take (rs.length*2)=lj K rs)(X:1<=rs.length/\rs.length<=3)(M:∀r∈rs,zf w K r/\r.im≠T)(D:∀r∈rs,r.dz<=4/\r.fD.length=K/\∀x∈r.fD,0<=x/\x<=9)(S:rs.Pairwise (λa b=>a.dz<b.dz))(Z:∀r,rs[0]?=some r->r.dz=0)(J:f.length≠0->∃g cur,B=some ⟨g,0,none⟩/\g≠T/\w.heap[g]?=some (.cells cur 3)/\cur.toList.take f.length=f.map λ(x:Nat)=>fX x)(V:f.length<=5)(hd:f.Pairwise (· < ·))(U:∀x∈f,x<5)(I:z≠T/\q≠T):
 ∃d p,cR.ok d/\cO d p=#[.int .i64 K,.slice (some ⟨z,0,none⟩) K eT,.slice (some ⟨q,0,none⟩) rs.length h8,.slice B f.length h9]/\fy w d p/\p.off d T:=by
 have u:∀i,i<rs.length->rs.getD i default∈rs:=λi c=>Py (n4 c)
 have W:∀i,i<f.length->f.getD i default∈f:=λi c=>Py (n4 c)
 refine⟨⟨K,λk=>xs.getD k 0,rs.length,λi=>((rs.getD i default).dz:Int),λi k=>(rs.getD i default).fD.getD k 0,f.length,λi=>((f.getD i default:Nat):Int)⟩,
  ⟨z,0,eT,q,0,h8,λi=>(rs.getD i default).im,λ_=>0,λi=>(rs.getD i default).j',B,h9⟩,⟨R,λk j=>?_,X,?_,λi c=>?_,λi c=>?_,λi c k j=>?_,V,λi c=>?_,λi c=>?_⟩,rfl,⟨BI hF Q L,λi c=>?_,λi c=>?_,λi c=>?_,λC=>?_⟩,⟨I.1,I.2,λi c=>(M _ (u i c)).2,λb o C e=>?_⟩⟩
 .have j:k<xs.length:=by rw[L];exact j
  exact Y _ (Py (n4 j))
 .have:=Z _ (n4 (show 0<rs.length by omega))
  show(((rs.getD 0 default).dz:Nat):Int)=0;rw[this];rfl
 .have:=(D _ (u i c)).1
  show 0<=(((rs.getD i default).dz:Nat):Int)/\(((rs.getD i default).dz:Nat):Int)<=4;omega
 .have c:i+1<rs.length:=c
  have h:=List.pairwise_iff_getElem.1 S i (i+1) (by omega) c (by omega);show(((rs.getD i default).dz:Nat):Int)<(((rs.getD (i+1) default).dz:Nat):Int);rw[List.getD_eq_getElem?_getD,List.getD_eq_getElem?_getD,List.getElem?_eq_getElem (show i<rs.length by omega),List.getElem?_eq_getElem c];simp only[Option.getD_some];omega
 .obtain⟨_,h,l⟩:=D _ (u i c)
  have j:k<(rs.getD i default).fD.length:=by rw[h];exact j
  exact l _ (Py (n4 j))
 .have:=U _ (W i c)
  show 0<=((f.getD i default:Nat):Int)/\((f.getD i default:Nat):Int)<=4;omega
 .have c:i+1<f.length:=c
  have h:=List.pairwise_iff_getElem.1 hd i (i+1) (by omega) c (by omega);show((f.getD i default:Nat):Int)<((f.getD (i+1) default:Nat):Int);rw[List.getD_eq_getElem?_getD,List.getD_eq_getElem?_getD,List.getElem?_eq_getElem (show i<f.length by omega),List.getElem?_eq_getElem c];simp only[Option.getD_some];omega
 .exact tE G H (x9 K rs i _ (n4 c)).1
 .show w.cell? ⟨q,0+i*2+1,none⟩=_
  rw[Nat.add_assoc];exact tE G H (x9 K rs i _ (n4 c)).2
 .obtain⟨⟨cur,h,l⟩,_⟩:=M _ (u i c)
  exact BI h l (D _ (u i c)).2.1
 .obtain⟨g,cur,h,_,l,P⟩:=J C
  refine⟨g,0,h,λk j=>tE l P ?_⟩;rw[List.getElem?_map,n4 j];rfl
 .obtain⟨g,cur,h,l,_⟩:=J C
  have e:B=some ⟨b,o,none⟩:=e;rw[h]at e;cases e;exact l
def HO{w d wd wr:World}{T b:Nat}(h:w.grownBy d (some T))(x:ca (λi=>i=T\/i=b) d wd)(y:ca (λi=>i=T\/i=b) wd wr)(g:w.heap.size<=b):w.grownBy wr (some T):=by have z:=x.trans y;refine⟨z.os.trans h.os,z.tape.trans h.tape,z.output.trans h.output,Po h.size z.size,λi f c=>?_⟩;have:=h.size;exact(z.block i (by omega) (λe=>e.elim (λe=>c (by rw[e])) (λe=>by omega))).trans (h.block i f c)
def qt(w:World)(c:Nat)(a b d e:Value):World:=(((w.setCell ⟨c,0,none⟩ a).setCell ⟨c,1,none⟩ b).setCell ⟨c,2,none⟩ d).setCell ⟨c,3,none⟩ e
def Ax{w:World}{c:Nat}{a b d e:Value}{i:Nat}(h:i≠c):(qt w c a b d e).heap[i]?=w.heap[i]?:=
 (ft (by exact h)).trans ((ft (by exact h)).trans ((ft (by exact h)).trans (ft (by exact h))))
def Hp{aI w:World}{row:Option Nat}{c:Nat}{a b d e:Value}(h:aI.grownBy w row)(j:aI.heap.size<=c):aI.grownBy (qt w c a b d e) row:=
 ⟨h.os,h.tape,h.output,by simpa [qt]using h.size,λi f g=>(Ax (by omega)).trans (h.block i f g)⟩
def Ho{w:World}{c:Nat}{a b d e:Value}{f:TypeId}{q j i g:Value}(h:w.heap[c]?=some (.cells #[q,j,i,g] f)):(qt w c a b d e).heap[c]?=some (.cells #[a,b,d,e] f):=by have l:(w.setCell ⟨c,0,none⟩ a).heap[c]?=some (.cells #[a,j,i,g] f):=cQ h;have o:((w.setCell ⟨c,0,none⟩ a).setCell ⟨c,1,none⟩ b).heap[c]?=some (.cells #[a,b,i,g] f):=cQ l;have p:(((w.setCell ⟨c,0,none⟩ a).setCell ⟨c,1,none⟩ b).setCell ⟨c,2,none⟩ d).heap[c]?=some (.cells #[a,b,d,g] f):=cQ o;exact cQ p
end
end Go.aN
