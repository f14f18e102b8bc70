/- A part. -/
import Derived.Test.YtoebddanaobpaaaGreatDoorP19
import Derived.Test.YtoebddanaobpaaaGreatDoorP29
import Derived.Deep.RegionHeld3
import Derived.Deep.AppendLies
import Derived.Maps.AppendAt
set_option maxHeartbeats 8000000
set_option maxRecDepth 100000
set_option linter.all false
namespace Go.aO
open Go.Proofs Tryz Go.RowKit
variable{B T b fr g i k m n y:Nat}{o:Obj}{aL c d h j w w' w3 wr:S7}{L a v:S9}{xs:TP}{cur:Te}{e f:Tg}
section
variable{A:TJ}
def kh.mono{g g':TN}(h:kh g g' n)(c:k<=n):kh g g' k:=h.imp id λ⟨r,e,d⟩=>⟨r,e,U⟩
def Jr[S:Std A][eY:oA A]{ai:Type}{T:Te}(E:ts A ai T y B)(d:h1)(P:jL)(L m:Nat)(ok:ow d P L m y B)(aq:d.ok)(r:Nat)(a5:vn A E d P L m r):vn A E d P L m (r+1):=by
 intro a p pre st v w bz hp hlen h aY;have bJ:=h.dD;have bB:=ok.q5;have bE:=ok.sz;have bC:=ok.gJ;have bF:=aq.n;obtain⟨u,M⟩:∃W,((w.alloc (.cells #[.pointer (some ⟨L,0,none⟩)] 135)).alloc (.cells #[ah a,ah p] 139)).alloc (.cells #[.func (.func 51) #[] T] 141)=W:=⟨_,S6⟩
 have ar:w.grownBy u none:=by rw[<-M];exact(bT.trans bT).trans bT
 have s1:u.heap.size=w.heap.size+3:=by rw[<-M];simp
 have az:u.heap[w.heap.size]?=some (.cells #[Tj L] 135):=by rw[<-M,dm (by simp only[cV];omega),dm (by simp only[cV];omega),fM]
 have aA:u.heap[w.heap.size+1]?=some (.cells #[ah a,ah p] 139):=by rw[<-M,dm (by simp only[cV];omega),jA _ _ _ (by simp only[cV])]
 have aV:u.heap[w.heap.size+1+1]?=some (.cells #[.func (.func 51) #[] T] 141):=by rw[<-M,jA _ _ _ (by simp only[cV])]
 have D:=h.fF ok ar;have i1:=(E.keep st _ _ _ _ aY ar aF).1;have hd:((a:Int) == (d.n:Int))=false:=ub;have bx:u.cell? (Ti L)=some (TW P.nN P.sJ d.n P.qN):=aU D.blk;have bM:u.cell? (Ti w.heap.size)=some (Tj L):=aU az;have q1:u.cell? (Ti (w.heap.size+1))=Tn a:=aU aA;have bQ:=D.rows a U;have bN:(a:Int)<(d.n:Int):=U;have bO:(0:Int)<=a:=U;have bK:=aq.len a U;have bb:=al az;have bc:=al aA;have bd:=al aV;have bl:=al s1;have bf:=al D;have bi:=al i1;have aQ:=al ar;have bh:=al M;have bk:=al h.own;have bj:=al a5;clear h D ar M aY i1 az aA aV s1 a5;go_enter (S.f func50),ntmps50;go_upto_region 1 with fail
 rw[bh.out];go_quiet (fail);go_wp2;go_quiet (fail);go_wp2;have aC:∀n k,u.grownBy ((u.drewN n).drewN k) none:=λn k=>(hl u n).trans (hl _ k)
 go_loopw [33] (λi wr=>∃(j:Nat) (o:S9) (l:ai),i=ah j/\j<=d.len a/\kF (na E.stop E.next d r) (λq=>hg d r q) (d.num a) p pre st j=(false,l)/\ih d P L m B o pre wr/\E.Inv o.ownBlock l wr/\kh v.ownBlock o.ownBlock u.heap.size/\cp (jK L m y v.ownBlock) u wr) (λi _=>d.len a-numOf i)
 case atStart=>exact⟨0,v,st,S6,U,S6,bf.out.fF ok (aC _ _),(E.keep st _ _ _ _ bi.out (aC _ _) aF).1,.inl S6,cp.jF (aC _ _)⟩
 case round=>
  obtain⟨j,o,l,rfl,bA,ae,J,br,K,Q⟩:=hrel;have aj:∀r,v.ownBlock=some r->r<w.heap.size:=λr e=>(lM bk.out r e).2
  have bH:=bl.out;have bI:=Q.size;have af:∀i,w.heap.size<=i->i<w.heap.size+3->wr.heap[i]?=u.heap[i]?:=λi D au=>Q.block i U (λaK=>by
   rcases aK with e|e|e|e
   .omega
   .omega
   .omega
   .have:=aj i e.symm;omega)
  have am:=(af w.heap.size bg U).trans bb.out;have ap:=(af (w.heap.size+1) U U).trans bc.out;have aB:=(af (w.heap.size+1+1) U U).trans bd.out;by_cases a0:j<d.len a
  .have r0:wr.cell? ⟨w.heap.size,0,none⟩=some (.pointer (some ⟨L,0,none⟩)):=aU am
   have r1:wr.cell? (Ti (w.heap.size+1))=Tn a:=aU ap;have bP:wr.cell? (S8 (w.heap.size+1) 1)=Tn p:=aU ap;have bR:=J.el a U j a0;have bG:=aq.num a U j a0;have bq:w.heap.size<wr.heap.size:=U;have bL:w.heap.size+1<wr.heap.size:=U;have bs:w.heap.size+1+1<wr.heap.size:=U;by_cases hle:d.num a j<=(p:Int)
   .have bm:decide ((p:Int)<d.num a j)=false:=by simpa using hle
    obtain⟨q,aH⟩:∃q:Nat,(p:Int)-d.num a j=q:=⟨((p:Int)-d.num a j).toNat,U⟩
    have a2:p-(d.num a j).toNat=q:=U;have gr:wr.grownBy (wr.alloc (.cells #[ah ((a:Int)+1),ah ((p:Int)-d.num a j)] 139)) none:=bT;have aD:=J.fF ok (dU wr (.cells #[ah ((a:Int)+1),ah ((p:Int)-d.num a j)] 139) none);have a4:=(E.keep l _ _ _ _ br gr aF).1;have aI:=G0 (A:=A) L m d aq P r (a+1) U q U _ aD.ls;have ba:cp (jK L m y v.ownBlock) u (wr.alloc (.cells #[ah ((a:Int)+1),ah ((p:Int)-d.num a j)] 139)):=Q.step gr aF;rw[<-aH]at aI;have aW:∀c,(wr.alloc (.cells #[ah ((a:Int)+1),ah ((p:Int)-d.num a j)] 139)).grownBy c (some m)->c.heap[w.heap.size]?=some (.cells #[Tj L] 135)/\c.heap[w.heap.size+1+1]?=some (.cells #[.func (.func 51) #[] T] 141)/\c.heap[wr.heap.size]?=some (.cells #[ah ((a:Int)+1),ah ((p:Int)-d.num a j)] 139):=λc f=>by
     have aM:∀i,i≠m->some i≠some m:=λi h e=>h (bD e)
     have sZ:(wr.alloc (.cells #[ah ((a:Int)+1),ah ((p:Int)-d.num a j)] 139)).heap.size=wr.heap.size+1:=aF;exact⟨(f.block _ U (aM _ U)).trans ((dm bq).trans am),(f.block _ U (aM _ U)).trans ((dm bs).trans aB),(f.block _ U (aM _ U)).trans (fM _ _)⟩
    have aR:=al aW;have aZ:o.ownBlock≠some wr.heap.size/\o.ownBlock≠some w.heap.size/\o.ownBlock≠some (w.heap.size+1+1):=by
     refine⟨λe=>?_,λe=>?_,λe=>?_⟩
     .have:=lM J.own _ e;omega
     .rcases K with I|⟨r,I,bn⟩
      .have:=aj _ (I.symm.trans e);omega
      .have:=bD (I.symm.trans e);omega
     .rcases K with I|⟨r,I,bn⟩
      .have:=aj _ (I.symm.trans e);omega
      .have:=bD (I.symm.trans e);omega
    have aw:=al aZ;have ay:=al aI;have V:=al aD;have Y:=al a4;have ad:=al ba;have ak:=al aH;have aT:=al ae;have G:=al K;have ax:=al a2;clear aW aZ gr aI aD a4 ba aH am ap aB ae K Q br J a2 af aj;cases aJ:((hg d r ((p:Int)-d.num a j):Int) == 0)
    .obtain⟨b,z,hF⟩:∃b z,na E.stop E.next d r q (pre++[d.num a j]) l=(b,z):=⟨_,_,S6⟩
     have av:=al hF;have ag:d.num a j<=(p:Int)/\hg d r ((p-(d.num a j).toNat:Nat):Int)≠0:=⟨hle,λa3=>by rw[ax.out,<-ak.out]at a3;rw[a3]at aJ;simp at aJ⟩
     have a1:kF (na E.stop E.next d r) (λq=>hg d r q) (d.num a) p pre st (j+1)=(b,z):=by rw[Jo aT.out ag,ax.out];exact av.out
     have R:=al a1;have aX:∀(c:S7),c.heap[w.heap.size]?=some (.cells #[Tj L] 135)/\c.heap[w.heap.size+1+1]?=some (.cells #[.func (.func 51) #[] T] 141)/\c.heap[wr.heap.size]?=some (.cells #[ah ((a:Int)+1),ah ((p:Int)-d.num a j)] 139)->∀v1 C,ih d P L m B v1 (pre++[d.num a j]) C->E.Inv v1.ownBlock l C->kh o.ownBlock v1.ownBlock c.heap.size->cp (jK L m y o.ownBlock) c C->
      Calls (ao A) 73 #[Tj w.heap.size,Tj wr.heap.size,Tj (w.heap.size+1+1)] C λe w2=>∃v2,e=.returned (.bool b)/\ih d P L m B v2 (pre++[d.num a j]) w2/\E.Inv v2.ownBlock z w2/\kh v1.ownBlock v2.ownBlock C.heap.size/\cp (jK L m y v1.ownBlock) C w2:=by
      intro c ⟨a6,a7,a8⟩ v1 C D i1 q1 aO;have gM:∀i,B<=i->o.ownBlock≠some i->¬jK L m y o.ownBlock i:=λi D au aK=>by
       rcases aK with e|e|e|e
       .omega
       .omega
       .omega
       .exact au e.symm
      have bo:=(aO.block _ (bu a6) (gM _ U aw.out.2.1)).trans a6;have bp:=(aO.block _ (bu a7) (gM _ U aw.out.2.2)).trans a7;have a9:=(aO.block _ (bu a8) (gM _ U aw.out.1)).trans a8;refine Jm w.heap.size wr.heap.size (w.heap.size+1+1) L (a+1) q T C _ (aU bo) (aU a9) ((aU a9).trans (by rw[<-ak.out];rfl)) (aU bp) ?_;refine(bj.out (a+1) q (pre++[d.num a j]) l v1 C U (by have:=ak.out;omega) (by rw[Ug,List.length_singleton];omega) D i1).mono ?_;rintro e w2 ⟨v2,rfl,au,i2,bt,bw⟩;rw[av.out]at i2;exact⟨_,S6,v2,by rw[av.out],au,i2,bt,bw⟩
     have aS:=al aX;clear hF ag a1 aX;cases b
     .go_wp2_with (first|(go_at_call 49;refine ay.out.mono ?_;rintro e c ⟨rfl,F,f⟩;have X:=al (V.out.known ok f F);have Z:=al (E.keep l _ _ _ _ Y.out f (λr e=>by cases e;exact⟨ok.ps.symm,.inl ok.gJ⟩)).1;have H:=al (ad.out.step f (λr e=>.inl (.inr (.inl (by cases e;rfl)))));have aa:=al (aR.out c f);have b6:c.cell? (Ti w.heap.size)=some (Tj L):=aU aa.out.1;clear F f)|(go_at_call 72;refine(G5 d P L m y B ok (d.num a j) o pre U c X.out (λg w=>E.Inv g l w) (λg w=>E.Inv g z w) (E.keep l) (E.keep z) Z.out #[Tj w.heap.size,Tj wr.heap.size,Tj (w.heap.size+1+1)] false (aS.out c aa.out)).mono ?_;rintro e bv ⟨v2,rfl,aE,aL,aN,aP⟩))
      go_roundw
      case rel=>exact⟨j+1,v2,z,by go_num,U,R.out,aE,aL,G.out.trans aN (by have:=H.out.size;omega),jK.step H.out aP G.out⟩
      case measure=>simp[numOf];omega
     .go_wp2_with (first|(go_at_call 49;refine ay.out.mono ?_;rintro e c ⟨rfl,F,f⟩;have X:=al (V.out.known ok f F);have Z:=al (E.keep l _ _ _ _ Y.out f (λr e=>by cases e;exact⟨ok.ps.symm,.inl ok.gJ⟩)).1;have H:=al (ad.out.step f (λr e=>.inl (.inr (.inl (by cases e;rfl)))));have aa:=al (aR.out c f);have b6:c.cell? (Ti w.heap.size)=some (Tj L):=aU aa.out.1;clear F f)|(go_at_call 72;refine(G5 d P L m y B ok (d.num a j) o pre U c X.out (λg w=>E.Inv g l w) (λg w=>E.Inv g z w) (E.keep l) (E.keep z) Z.out #[Tj w.heap.size,Tj wr.heap.size,Tj (w.heap.size+1+1)] true (aS.out c aa.out)).mono ?_;rintro e bv ⟨v2,rfl,aE,aL,aN,aP⟩))
      go_ret;have e:na E.stop E.next d (r+1) p pre st=(true,z):=by rw[na,show d.n-(r+1)=a by omega,show d.len a=(j+1)+(d.len a-(j+1)) by omega];exact CN R.out _
      rw[e];exact⟨v2,S6,aE,aL,(G.out.trans aN (by have:=H.out.size;omega)).mono U,(cp.jF aQ.out).trans (jK.step H.out aP G.out)⟩
    .have ag:¬(d.num a j<=(p:Int)/\hg d r ((p-(d.num a j).toNat:Nat):Int)≠0):=λaG=>aG.2 (by rw[ax.out,<-ak.out];simpa using aJ)
     have R:=al (CM aT.out ag);clear ag;go_wp2_with (go_at_call 49;refine ay.out.mono ?_;rintro e c ⟨rfl,F,f⟩;have X:=al (V.out.known ok f F);have Z:=al (E.keep l _ _ _ _ Y.out f (λr e=>by cases e;exact⟨ok.ps.symm,.inl ok.gJ⟩)).1;have H:=al (ad.out.step f (λr e=>.inl (.inr (.inl (by cases e;rfl)))));clear F f)
     go_roundw
     case rel=>exact⟨j+1,o,l,by go_num,U,R.out,X.out,Z.out,G.out,H.out⟩
     case measure=>simp[numOf];omega
   .have bm:decide ((p:Int)<d.num a j)=true:=cH
    have gr:wr.grownBy (wr.alloc (.cells #[ah ((a:Int)+1),ah ((p:Int)-d.num a j)] 139)) none:=bT;have R:=al (CM ae (λaG=>hle aG.1));have V:=al (J.fF ok gr);have Y:=al (E.keep l _ _ _ _ br gr aF).1;have ad:=al (Q.step gr aF);have G:=al K;clear J br Q K ae gr am ap aB af aj;go_wp2;go_roundw
    case rel=>exact⟨j+1,o,l,by go_num,U,R.out,V.out,Y.out,G.out,ad.out⟩
    case measure=>simp[numOf];omega
  .go_wp2
   go_ret;obtain rfl:j=d.len a:=U;have e:na E.stop E.next d (r+1) p pre st=(false,l):=by rw[na,show d.n-(r+1)=a by omega];exact ae
   rw[e];exact⟨o,S6,J,br,K.mono U,(cp.jF aQ.out).trans Q⟩
def CO[S:Std A][eY:oA A]{ai:Type}{f:Te}{y B:Nat}(E:ts A ai f y B)(d:h1)(P:jL)(L m:Nat)(ok:ow d P L m y B)(c:d.ok):∀r,vn A E d P L m r
 | 0=>Js E d P L m ok c
 |r+1=>Jr E d P L m ok c r (CO E d P L m ok c r)
def vv(y B:Nat)(g:TN)(st:TI TX)(w:S7):Prop:=
 ∃v,w.heap[y]?=some (.cells #[v] 22)/\match st with
  |none=>v=.slice none 0 0
  |some l=>(w.ownsRow B 3 1 v l.length (l.map gi)/\∀r,v.ownBlock=some r->g≠some r)\/(l = []/\v=.slice none 0 0)
def vv.keep(G:y<B)(st:TI TX):vs y B λg w=>vv y B g st w:=by
 intro g w w' row ⟨v,f,J⟩ m p;have d:w'.heap[y]?=some (.cells #[v] 22):=(m.block y (bu f) (λe=>(p y e.symm).1 S6)).trans f;cases st with
 |none=>exact⟨⟨v,d,J⟩,λg' _=>⟨v,d,J⟩⟩
 |some l=>
  rcases J with⟨J,i⟩|J
  .have o:w'.ownsRow B 3 1 v l.length (l.map gi):=by
    obtain⟨n,⟨rfl,z⟩|⟨b,c,cur,rfl,u,j,q1,C,D,E⟩⟩:=J
    .exact⟨n,.inl ⟨S6,z⟩⟩
    .refine⟨n,.inr ⟨b,c,cur,S6,u,(m.block b (bu j) (λe=>?_)).trans j,q1,C,D,E⟩⟩
     rcases(p b e.symm).2 with h|h
     .omega
     .exact i b S6 h.symm
   refine⟨⟨v,d,.inl ⟨o,i⟩⟩,λg' F=>⟨v,d,.inl ⟨o,λr e q=>?_⟩⟩⟩;have:=(lM J r e).2;have:=bD q;omega
  .exact⟨⟨v,d,.inr J⟩,λg' _=>⟨v,d,.inr J⟩⟩
def J4(w:S7):Sem.run (ao A) (binOp .eql 22 (.slice none 0 0) (.slice none 0 0)) w=.ok (.bool true) w:=av
def J5(a:TD)(n c:Nat)(w:S7):Sem.run (ao A) (binOp .eql 22 (.slice (some a) n c) (.slice none 0 0)) w=.ok (.bool false) w:=av
def IJ[S:Std A][eY:oA A](B:Nat)(v:S9)(pre:TX)(hlen:pre.length<=100)(w:S7)(ad:B<=w.heap.size)(h:w.ownsRow B 3 1 v pre.length (pre.map gi)):
 Calls (ao A) 52 #[v] w λe w'=>∃a c,e=.returned (.slice a pre.length c)/\((w'.ownsRow w.heap.size 3 1 (.slice a pre.length c) pre.length (pre.map gi))\/(pre = []/\Value.slice a pre.length c=.slice none 0 0))/\w.grownBy w' none:=by
 let⟨X,f,y,z,C⟩:=wL (A:=A);obtain⟨E,⟨rfl,F⟩|⟨b,c,cur,rfl,af,p,q1,Y,Z,H⟩⟩:=h
 .have hp:pre = []:=by
   cases pre with
   |nil=>rfl
   |cons a l=>simp at F
  have P:=al hp;clear hp E F f y z C;go_enter (S.f func52),ntmps52;have W:=J4 (A:=A);go_wp2;go_ret;rw[P.out];exact⟨none,0,S6,.inr ⟨S6,S6⟩,e6 _ _⟩
 .have D:∀(j:Nat) u,(pre.map gi)[j]?=some u->w.cell? ⟨b,j,none⟩=some u:=λj u q=>by
   rw[aU p,<-Ue];have m:(cur.toList.take (pre.length*1))[j]?=some u:=by rw[H];exact q
   rw[List.getElem?_take]at m;split at m
   .exact m
   .cases m
  have I:=al D;have J:=al f;have Q:=al y;have R:=al z;have T:=al C;have K:=al (bu p);have G:(w.alloc (.cells #[] 3)).ownsRow w.heap.size 3 1 (Ts w.heap.size 0 0) 0 []:=⟨S6,.inr ⟨w.heap.size,0,#[],S6,bg,fM _ _,bg,kj,S6,S6⟩⟩
  have V:=al G;clear D p q1 Y Z H E f y z C G;go_enter (S.f func52),ntmps52;have L:=al (show ∀(j:Nat) u,(pre.map gi)[j]?=some u->(w.alloc (.cells #[] 3)).cell? (((Ti b):TD).add j)=some u from λj u q=>by have:=I.out j u q;rw[show(((Ti b):TD).add j)=(S8 b j) by simp[Addr.add]<;>omega];exact(hD _ _ _ K.out).trans this)
  have W:=J5 (A:=A) (Ti b) pre.length c;have M:=al (show ∀u∈pre.map gi,u.oneCell'=true from λu hu=>by obtain⟨n,_,rfl⟩:=List.mem_map.1 hu;rfl)
  go_wp2_with (at_builtin;refine wpList_append_own_at _ S6 _ _ 22 S6 w.heap.size 3 X (ah 0) 1 8 (ao.underlying22 A) J.out Q.out R.out T.out S6 a6 _ 0 _ S6 V.out (Ti b) pre.length c (pre.map gi) S6 aF L.out M.out kj U aF ?_;intro aa ai r d ag ae)
  go_ret;rw[Nat.zero_add,List.nil_append]at r;obtain⟨o,bp,rfl⟩:∃o bp,aa=.slice o pre.length bp:=by
   obtain⟨_,⟨rfl,h⟩|⟨g,c,cur,rfl,_⟩⟩:=r
   .exact⟨none,0,by rw[h]⟩
   .exact⟨_,_,S6⟩
  refine⟨o,bp,S6,.inl r,?_⟩
  .refine⟨d.os,d.tape,d.output,cL aF d.size,λi f _=>(d.block i cH (λe=>?_)).trans (dm f)⟩
   have e:some i=some w.heap.size:=e;have:=bD e;omega
def AP[S:Std A][eY:oA A](y B:Nat)(Q:y<B):ts A (TI TX) #[Tj y] y B where
 Inv g st w:=vv y B g st w/\B<=w.heap.size
 stop _ _:=true
 next _ pre:=some pre
 keep st:=λg w w' row h p C=>by have:=vv.keep Q st g w w' row h.1 p C;exact⟨⟨this.1,cL h.2 p.size⟩,λg' P=>⟨this.2 g' P,cL h.2 p.size⟩⟩
 call st w v pre q hlen z:=by
  obtain⟨⟨v0,D,_⟩,F⟩:=q;have I:=al (IJ (A:=A) B v pre hlen w F z);have H:=al λr (e:v.ownBlock=some r)=>lM z r e
  have n:=al D;have u:=bu D;clear D z;show Calls (ao A) 51 #[v,Tj y] w _;go_enter (S.f func51),ntmps51;go_wp2_with (go_at_call 52;refine I.out.mono ?_;rintro e l ⟨f,j,rfl,G,m⟩;have bx:l.cell? ⟨y,0,none⟩=some v0:=aU ((m.block y u aF).trans n.out);have z0:=b3 (o:=0) ((m.block y u aF).trans n.out);have J:=al G;have c:=al m;clear G m)
  have R:=(c.out.block y u aF).trans n.out;have L:(l.setCell (Ti y) (.slice f pre.length j)).heap[y]?=some (.cells #[.slice f pre.length j] 22):=cU R;have d:l.grownBy (l.setCell (Ti y) (.slice f pre.length j)) (some y):=e7 (e6 _ _);have V:=c.out.size;generalize l.setCell (Ti y) (.slice f pre.length j)=T at *;have W:=d.size;refine bodyPost_ret (results_tmp S6 _ _ _) S6 ⟨S6,⟨⟨.slice f pre.length j,L,?_⟩,U⟩,⟨d.os.trans c.out.os,d.tape.trans c.out.tape,d.output.trans c.out.output,U,λi q C=>(d.block i U C).trans (c.out.block i q aF)⟩⟩;rcases J.out with h|h
  .refine .inl ⟨j4 (EB h F) (λg M E=>d.block g E (λe=>by have:=bD e;omega)),λr e K=>?_⟩
   have M:=(lM h r e).1;have E:=(H.out r K).2;omega
  .exact .inr h
def fS.of(h:fS w T L g)(e:w'.heap=w.heap):fS w' T L g:=by
 obtain⟨⟨s,l,m⟩,d⟩:=h;refine⟨⟨s,by rw[e];exact l,m⟩,?_⟩;rcases d with d|⟨b,off,n,c,z,q1,o,p,i⟩
 .exact .inl d
 .exact .inr ⟨b,off,n,c,z,q1,o,p,λj f=>⟨by have:=(i j f).1;unfold World.cell? at this ⊢;rw[e];exact this,(i j f).2⟩⟩
def fS.lt(h:fS w T L g):T<w.heap.size:=by obtain⟨⟨s,c,f⟩,d⟩:=h;exact(Array.getElem?_eq_some_iff.1 c).1
def fS.keep(h:fS w T L g)(k:∀b,b<w.heap.size->w'.heap[b]?=w.heap[b]?):fS w' T L g:=by
 have l:=h.lt;obtain⟨⟨s,m,o⟩,f⟩:=h;refine⟨⟨s,(k T l).trans m,o⟩,?_⟩;rcases f with f|⟨b,off,n,c,z,q1,p,q,i⟩
 .exact .inl f
 .exact .inr ⟨b,off,n,c,z,q1,p,q,λj d=>⟨(World.cell?_of_block (k b (lD (i j d).1))).trans (i j d).1,(i j d).2⟩⟩
def fS.alloc(h:fS w T L g)(o:Obj):fS (w.alloc o) T L g:=h.keep λb c=>dm c
def tz(L:S9)(b:Nat):Prop:=∀a off n c,L=TW a off n c->0<n->a≠b
def ly.oV(h:ly w L T)(m:tz L b)(k:cp (λi=>i=T\/i=b) w w'):ly w' L T:=by
 rcases h with l|⟨a,off,n,c,z,q1,o,f,g⟩
 .exact .inl l
 .exact .inr ⟨a,off,n,c,z,q1,o,f,λj d=>⟨k.cell (g j d).1 (λe=>e.elim f (m a off n c q1 U)),(g j d).2⟩⟩
def ly.off(h:ly w L T)(d:w.heap.size<=b):tz L b:=λa off n c e f=>by
 rcases h with h|⟨i,j,c9,bp,z,q1,l,m,g⟩
 .obtain⟨q,h⟩:=h;rw[h]at e;cases e;omega
 .rw[q1]at e
  cases e;have:=lD (g 0 f).1;show a≠b;intro e;subst e;exact Td this (Nat.not_lt.2 d)
def cp.Gf{X Y:TM}{a b:S7}(h:cp X a b)(k:cp Y b c)(g:∀i,Y i->X i\/a.heap.size<=i):cp X a c:=
 ⟨k.os.trans h.os,k.tape.trans h.tape,k.output.trans h.output,cL h.size k.size,λi d f=>(k.block i (gu d h.size) λe=>(g i e).elim f (λx=>U)).trans (h.block i d f)⟩
structure hz(aL:S7)(T b:Nat)(L:S9)(ty:Tg)(g:Nat)(cs:Te)(w:S7):Prop where
 blk:w.heap[b]?=some (.cells cs ty)
 st:∃s:Int,w.heap[T]?=some (.cells #[L,ah g,.int .u64 s] 66)/\0<=s/\s<=18446744073709551615
 cf:cp (λi=>i=T\/i=b) aL w
 m8:T<b
 dQ:b<aL.heap.size
 off:tz L b
 nm:ly aL L T
def hz.rD{c:Tg}{cs:Te}(M:hz aL T b L c g cs w):fS w T L g:=⟨M.st,M.nm.oV M.off M.cf⟩
def hz.start{cs:Te}(c:w.heap[b]?=some (.cells cs f))(d:fS w T L g)(h:T<b)(i:tz L b):hz w T b L f g cs w:=
 ⟨c,d.blk,.refl _ _,h,bu c,i,d.nm⟩
def hz.round{j:Tg}{p:Nat}{cs:Te}(M:hz aL T b L j g cs wr)(own:wr.ownsRow aL.heap.size 3 1 v k xs){f:S7}{y z:Obj}(n:wr.drew.grownBy f (some T))(q:(f.alloc y).grownBy h (some T))(t6:fS h T L p)(l:(h.alloc z).grownBy c v.ownBlock)(d:S9)(o:Nat){w:Nat}{D:TP}(R:c.ownsRow aL.heap.size 3 1 d w D):
 hz aL T b L j p (cs.setIfInBounds o d) (c.setCell (S8 b o) d)/\(c.setCell (S8 b o) d).ownsRow aL.heap.size 3 1 d w D:=by
 have J:=M.dQ;have I:=M.m8;have b6:=M.cf.size;have m:=λr e=>lM own r e
 have B:cp (λi=>i=T\/i=b) aL f:=cp.step (M.cf.trans (cp.of (w':=wr.drew) (row:=none) (gv (e6 _ _)) aF)) n (λr e=>.inl (.inl (bD e).symm));have vh:cp (λi=>i=T\/i=b) aL (f.alloc y):=B.trans (.jF bT);have C:cp (λi=>i=T\/i=b) aL h:=vh.step q (λr e=>.inl (.inl (bD e).symm));have V:cp (λi=>i=T\/i=b) aL (h.alloc z):=C.trans (.jF bT);have S:cp (λi=>i=T\/i=b) aL c:=V.step l (λr e=>.inr ((m r e).1));have Y:aL.heap.size<=f.heap.size:=B.size;have u:(some b:TN)≠some T:=λe=>by have:=bD e;omega
 have E:f.heap[b]?=some (.cells cs j):=(n.block b (by show b<wr.heap.size;omega) u).trans M.blk;have F:h.heap[b]?=some (.cells cs j):=(q.block b cH u).trans ((dm U).trans E);have Z:=C.size;have G:c.heap[b]?=some (.cells cs j):=(l.block b cH (λe=>by have:=(m b e.symm).1;omega)).trans ((dm U).trans F);have Q:c.grownBy (c.setCell (S8 b o) d) (some b):=e7 (e6 _ _);let⟨s,K,P⟩:=t6.blk;refine⟨⟨cU G,⟨s,?_,P⟩,S.step Q (λr e=>.inl (.inr (bD e).symm)),I,J,M.off,M.nm⟩,
  j4 R λH W X=>e1 (by show H≠b;omega)⟩
 refine(e1 (by show T≠b;omega)).trans ((l.block T cH (λe=>by have:=(m T e.symm).1;omega)).trans ((dm U).trans K))
def EA{m:Obj}(h:wr.ownsRow B 3 1 v n xs)(r:T<B)(d:wr.drew.grownBy c (some T))(f:(c.alloc m).grownBy j (some T)):(j.alloc o).ownsRow B 3 1 v n xs:=
 j4 h λg q l=>by
  have i:(some g:TN)≠some T:=λe=>by have:=bD e;omega
  have u:wr.heap.size<=c.heap.size:=d.size;have p:=f.size;simp at p;exact(dm U).trans ((f.block g cH i).trans ((dm U).trans (d.block g l i)))
def B0{i:S7}{p q:Obj}(h:wr.heap[b]?=some o)(own:wr.ownsRow B 3 1 v n xs)(u:T<b)(w:b<B)(d:wr.drew.grownBy c (some T))(f:(c.alloc p).grownBy i (some T))(l:(i.alloc q).grownBy j v.ownBlock):j.heap[b]?=some o:=by
 have g:(some b:TN)≠some T:=λe=>by have:=bD e;omega
 have y:wr.heap.size<=c.heap.size:=d.size;have r:=f.size;simp at r;have m:=bu h;exact(l.block b cH (λe=>by have:=(lM own b e.symm).1;omega)).trans ((dm U).trans ((f.block b cH g).trans ((dm U).trans ((d.block b m g).trans h))))
def Gn{h:Obj}(f:wr.drew.grownBy c (some T))(g:(c.alloc h).grownBy d (some T)):wr.heap.size<=d.heap.size:=by have j:wr.heap.size<=c.heap.size:=f.size;have i:=g.size;simp at i;omega
structure mh where
 bV:Nat
 dj:Nat
 cq:Nat
 cQ:List Int
 deriving Inhabited
def E4(K:Nat)(r:mh):TP:=[ah r.bV,Ts r.dj K r.cq]
def mJ(K:Nat)(rs:Tb mh):TP:=rs.flatMap (E4 K)
def NJ(K:Nat)(rs:Tb mh)(r:mh):mJ K (rs++[r])=mJ K rs++E4 K r:=by simp[mJ]
def oh(K:Nat)(c d f:S9):Te:=#[ah K,c,d,f]
def BJ(w:S7)(K:Nat)(r:mh):Prop:=∃cur:Te,w.heap[r.dj]?=some (.cells cur 3)/\cur.toList.take K=r.cQ.map gi
structure qF(w3:S7)(T b:Nat)(L:S9)(g K:Nat)(fI:S9)(rs:Tb mh)(fr:Nat)(dH:S9)(wr:S7):Prop where
 hq:hz w3 T b L 25 g (oh K fI dH (.slice none 0 0)) wr
 own:wr.ownsRow w3.heap.size 27 2 dH rs.length (mJ K rs)
 cQ:∀r∈rs,BJ wr K r/\w3.heap.size<=r.dj/\dH.ownBlock≠some r.dj
 hL:∀r∈rs,r.bV<=4/\r.cQ.length=K/\∀x∈r.cQ,0<=x/\x<=9
 qK:rs.Pairwise (λa b=>a.bV<b.bV)
 zero:∀r,rs[0]?=some r->r.bV=0
 top:(rs = []->fr=0)/\∀r∈rs,r.bV<fr
def rh(h:w.ownsRow B e g v n xs)(r:Nat)(k:v.ownBlock=some r):B<=r/\r<w.heap.size:=by
 obtain⟨i,⟨rfl,_⟩|⟨b,c,cur,rfl,d,f,_⟩⟩:=h
 .cases k
 .cases k;exact⟨d,bu f⟩
def xj(h:w.ownsRow B 3 1 v n xs)(q:0<n):∃g cap cur,v=Ts g n cap/\B<=g/\g<w.heap.size/\w.heap[g]?=some (.cells cur 3)/\cur.toList.take n=xs:=by
 obtain⟨p,⟨_,h⟩|⟨g,c,cur,f,j,d,l,m,o,i⟩⟩:=h
 .omega
 .exact⟨g,c,cur,f,j,bu d,d,by simpa using i⟩
def qF.round{K:Nat}{w:S9}{rs:Tb mh}{f:S9}(bn:qF w3 T b L g K w rs fr f wr)(aD:fr<5)(X:0<K){W:Nat}{D:S9}{C:Obj}(M:hz (wr.alloc C) T wr.heap.size L 27 W #[ah fr,D] d){xs:TX}(aq:d.ownsRow (wr.alloc C).heap.size 3 1 D K (xs.map gi))(hlen:xs.length=K)(ak:∀x∈xs,0<=x/\x<=9){n o:S7}{J:Obj}(y:(d.alloc J).grownBy n f.ownBlock){cap:Nat}(af:f.ownBlock=some m\/m=d.heap.size+1)(ar:n.ownsRow w3.heap.size 27 2 (Ts m (rs.length+1) cap) (rs.length+1) (mJ K rs++[ah fr,D]))(z:n.grownBy o (some T)){E:Nat}(t7:fS o T L E)(bo:Nat)(G:fr<bo):
 ∃r,qF w3 T b L E K w (rs++[r]) bo (Ts m (rs.length+1) cap) (o.setCell (S8 b 2) (Ts m (rs.length+1) cap)):=by
 obtain⟨l,cq,cur,rfl,Y,F,Z,aa⟩:=xj aq X;have ad:=bn.hq.m8;have ag:=bn.hq.dQ;have aE:=bn.hq.cf.size;have av:=M.cf.size;have aw:=y.size;simp at av aw Y;have B:=λr e=>rh bn.own r e
 have ax:cp (λi=>i=T\/i=b) w3 (wr.alloc C):=bn.hq.cf.trans (.jF bT);have ay:cp (λi=>i=T\/i=b) w3 d:=ax.Gf M.cf (λi e=>e.elim (λe=>.inl (.inl e)) λe=>.inr U);have aC:cp (λi=>i=T\/i=b) w3 (d.alloc J):=ay.trans (.jF bT);have az:cp (λi=>i=T\/i=b) w3 n:=aC.step y (λr e=>.inr (B r e).1);have aA:cp (λi=>i=T\/i=b) w3 o:=az.step z (λr e=>.inl (.inl (bD e).symm));have aB:cp (λi=>i=T\/i=b) w3 (o.setCell (S8 b 2) (Ts m (rs.length+1) cap)):=aA.step (e7 (T:=b) (e6 _ _)) (λr e=>.inl (.inr (bD e).symm));have aj:(some b:TN)≠some T:=λe=>by have:=bD e;omega
 have ai:(some b:TN)≠f.ownBlock:=λe=>by have:=(B b e.symm).1;omega
 have R:d.heap[b]?=some (.cells (oh K w f (.slice none 0 0)) 25):=(M.cf.block b cH U).trans ((dm U).trans bn.hq.blk);have S:n.heap[b]?=some (.cells (oh K w f (.slice none 0 0)) 25):=(y.block b cH ai).trans ((dm U).trans R);have V:o.heap[b]?=some (.cells (oh K w f (.slice none 0 0)) 25):=(z.block b U aj).trans S;let⟨s,ao,ap⟩:=t7.blk;have uq:∀i,w3.heap.size<=i->i<n.heap.size->(o.setCell (S8 b 2) (Ts m (rs.length+1) cap)).heap[i]?=n.heap[i]?:=λi p j=>
  (e1 (by show i≠b;omega)).trans (z.block i j λe=>by have:=bD e;omega)
 have I:∀i,w3.heap.size<=i->i<d.heap.size->f.ownBlock≠some i->n.heap[i]?=d.heap[i]?:=λi p j q=>
  (y.block i cH (λe=>q e.symm)).trans (dm j)
 have H:∀i,i<d.heap.size->f.ownBlock≠some i->m≠i:=λi p j e=>by
  subst e;rcases af with h|h
  .exact j h
  .omega
 refine⟨⟨fr,l,cq,xs⟩,⟨cU V,⟨s,(e1 (by show T≠b;omega)).trans ao,ap⟩,aB,ad,ag,bn.hq.off,bn.hq.nm⟩,?_,λr au=>?_,λr au=>?_,?_,λr au=>?_,λh=>by simp at h,λr au=>?_⟩
 .rw[Ug,NJ]
  exact j4 ar λi p j=>uq i p j
 .rcases List.mem_append.1 au with au|au
  .let⟨⟨P,p,j⟩,q,u⟩:=bn.cQ r au
   have am:=bu p;have Q:d.heap[r.dj]?=wr.heap[r.dj]?:=(M.cf.block _ cH U).trans (dm am);refine⟨⟨P,?_,j⟩,q,λe=>H r.dj U u (bD e)⟩;rw[uq _ q U,I _ q U u,Q];exact p
  .obtain rfl:=ev au
   have u:f.ownBlock≠some l:=λe=>by have:=(B l e).2;omega
   refine⟨⟨cur,?_,aa⟩,by show w3.heap.size<=l;omega,λe=>H l F u (bD e)⟩;show(o.setCell _ _).heap[l]?=_;rw[uq l U U,I l U F u];exact Z
 .rcases List.mem_append.1 au with au|au
  .exact bn.hL r au
  .obtain rfl:=ev au
   exact⟨by show fr<=4;omega,hlen,ak⟩
 .rw[List.pairwise_append]
  refine⟨bn.qK,aF,λa ae c al=>?_⟩;obtain rfl:=ev al;exact bn.top.2 a ae
 .rcases rs with _|⟨r0,rs⟩
  .simp at au
   subst au;exact bn.top.1 S6
  .exact bn.zero r (by simpa using au)
 .rcases List.mem_append.1 au with au|au
  .exact Nat.lt_trans (bn.top.2 r au) G
  .obtain rfl:=ev au
   exact G
def qF.Re{K:Nat}{l:S9}{rs:Tb mh}{c:S9}(bn:qF w3 T b L g K l rs fr c wr){cs:Te}{n:Obj}(M:hz (wr.alloc n) T wr.heap.size L 27 m cs d){f:S7}(h:(d.alloc o).grownBy f c.ownBlock):
 fS f T L m/\f.heap[b]?=some (.cells (oh K l c (.slice none 0 0)) 25):=by
 have F:=bn.hq.m8;have G:=bn.hq.dQ;have H:=bn.hq.cf.size;have z:=M.cf.size;simp at z;have j:=λr e=>rh bn.own r e
 have B:cp (λi=>i=T\/i=b) w3 (wr.alloc n):=bn.hq.cf.trans (.jF bT);have C:cp (λi=>i=T\/i=b) w3 d:=B.Gf M.cf (λi e=>e.elim (λe=>.inl (.inl e)) λe=>.inr U);have E:cp (λi=>i=T\/i=b) w3 (d.alloc o):=C.trans (.jF bT);have D:cp (λi=>i=T\/i=b) w3 f:=E.step h (λr e=>.inr (j r e).1);have u:(some b:TN)≠c.ownBlock:=λe=>by have:=(j b e.symm).1;omega
 have q:(some T:TN)≠c.ownBlock:=λe=>by have:=(j T e.symm).1;omega
 have p:d.heap[b]?=some (.cells (oh K l c (.slice none 0 0)) 25):=(M.cf.block b cH U).trans ((dm U).trans bn.hq.blk);let⟨s,w,y⟩:=M.st;exact⟨⟨⟨s,(h.block T cH q).trans ((dm U).trans w),y⟩,bn.hq.nm.oV bn.hq.off D⟩,(h.block b cH u).trans ((dm U).trans p)⟩
def hz.called{d:Nat}{cs:Te}(M:hz aL T b L f g cs wr)(own:wr.ownsRow aL.heap.size 3 1 v k xs)(h:wr.grownBy c (some T))(t6:fS c T L d):
 hz aL T b L f d cs c/\c.ownsRow aL.heap.size 3 1 v k xs:=by
 have j:=M.m8;have l:=M.dQ;have s:=M.cf.size;exact⟨⟨(h.block b U (λe=>by have:=bD e;omega)).trans M.blk,t6.blk,M.cf.step h (λr e=>.inl (.inl (bD e).symm)),j,l,M.off,M.nm⟩,j4 own λg m i=>h.block g i (λe=>by have:=bD e;omega)⟩
def hz.gB{d:Tg}{cs:Te}{f:S7}(M:hz aL T b L d g cs c)(own:c.ownsRow aL.heap.size 3 1 v k xs){j:Obj}(h:(c.alloc j).grownBy f v.ownBlock):f.heap[b]?=some (.cells cs d):=by
 have i:=λr e=>lM own r e
 have l:=M.dQ;have s:=M.cf.size;exact(h.block b cH (λe=>by have:=(i b e.symm).1;omega)).trans ((dm U).trans M.blk)
def hz.put{m:Tg}{cs:Te}(M:hz aL T b L m g cs h)(own:h.ownsRow aL.heap.size 3 1 v k xs){B:Obj}(f:(h.alloc B).grownBy d v.ownBlock)(c:S9)(o:Nat){l:Nat}{n:TP}(C:d.ownsRow aL.heap.size 3 1 c l n):
 hz aL T b L m g (cs.setIfInBounds o c) (d.setCell (S8 b o) c)/\(d.setCell (S8 b o) c).ownsRow aL.heap.size 3 1 c l n:=by
 have j:=λr e=>lM own r e
 have u:=M.m8;have w:=M.dQ;have s:=M.cf.size;have p:=M.gB own f;have D:cp (λi=>i=T\/i=b) aL d:=cp.step (M.cf.trans (.jF bT)) f (λr e=>.inr (j r e).1);let⟨aX,y,z⟩:=M.st;exact⟨⟨cU p,⟨aX,(e1 (by show T≠b;omega)).trans ((f.block T cH (λe=>by have:=(j T e.symm).1;omega)).trans ((dm U).trans y)),z⟩,D.step (e7 (T:=b) (e6 _ _)) (λr e=>.inl (.inr (bD e).symm)),u,w,M.off,M.nm⟩,
  j4 C λq E F=>e1 (by show q≠b;omega)⟩
def DJ(j:Nat):∀(c:TA) (bY:Nat),c.Pairwise (· < ·)->(∀x∈c,bY<=x/\x<j)->c.length+bY<=max bY j
 | [],bY,_,_=>cH
 |a::c,bY,h,d=>by
  have f:=List.pairwise_cons.1 h;have i:=DJ j c (a+1) f.2 λx g=>⟨f.1 x g,(d x (Ur _ g)).2⟩
  have l:=d a (List.mem_cons_self);simp only[List.length_cons];omega
def Lw{c:TA}{j:Nat}(d:c.Pairwise (· < ·))(f:∀x∈c,x<j):c.length<=j:=by
 have:=DJ j c 0 d λx g=>⟨T' _,f x g⟩
 omega
def M5(h:w.ownsRow B 3 1 v n xs):∃p c,v=.slice p n c/\(n≠0->∃g cur,p=some (Ti g)/\B<=g/\w.heap[g]?=some (.cells cur 3)/\cur.toList.take n=xs):=by
 obtain⟨q,⟨rfl,rfl⟩|⟨g,c,cur,d,i,j,l,m,o,f⟩⟩:=h
 .exact⟨none,0,S6,λh=>Td S6 h⟩
 .exact⟨_,c,d,λ_=>⟨g,cur,S6,i,j,by simpa using f⟩⟩
def xk(h:w.ownsRow B 27 2 v n xs)(l:n≠0):∃g c cur,v=Ts g n c/\B<=g/\w.heap[g]?=some (.cells cur 27)/\cur.toList.take (n*2)=xs:=by
 obtain⟨q,⟨_,h⟩|⟨g,c,cur,d,i,j,m,o,p,f⟩⟩:=h
 .exact Td h l
 .exact⟨g,c,cur,d,i,j,f⟩
def nQ(h:w.heap[b]?=some (.cells cur e))(d:cur.toList.take n=xs)(c:xs[i]?=some v):w.cell? (S8 b (0+i))=some v:=by
 refine(aU (o:=0+i) h).trans ?_;rw[<-d,List.getElem?_take]at c;split at c
 .rw[Nat.zero_add,<-Ue]
  exact c
 .cases c
def Ek{xs:TX}(h:w.heap[b]?=some (.cells cur e))(c:cur.toList.take n=xs.map gi)(f:xs.length=n):gn w b 0 n (λk=>xs.getD k 0):=λk d=>by refine nQ h c ?_;rw[List.getElem?_map,Ui U];simp[gi,List.getD_eq_getElem?_getD,Ui (show k<xs.length by omega)]
def As(K:Nat):∀(rs:Tb mh) (i:Nat) (r:mh),rs[i]?=some r->(mJ K rs)[i*2]?=Tn r.bV/\(mJ K rs)[i*2+1]?=some (Ts r.dj K r.cq)
 | [],i,r,h=>by simp at h
 |a::rs,0,r,h=>by simp at h;subst h;exact⟨S6,S6⟩
 |a::rs,i+1,r,h=>by have:=As K rs i r (by simpa using h);have e:mJ K (a::rs)=ah a.bV::Ts a.dj K a.cq::mJ K rs:=S6;rw[e,show(i+1)*2=i*2+1+1 by omega];simpa using this
def pW{α:Type}[Inhabited α]{l:Tb α}(h:i<l.length):l[i]?=some (l.getD i default):=by rw[List.getD_eq_getElem?_getD,Ui h];rfl
def LZ{K cA Tk dq dc:Nat}{z B:Te}{xs:TX}{rs:Tb mh}{f:TA}{q:TV}(J:1<=K/\K<=3)(hF:w.heap[n]?=some (.cells z 3))(I:z.toList.take K=xs.map gi)(G:xs.length=K)(S:∀x∈xs,0<=x/\x<=9)(C:w.heap[Tk]?=some (.cells B 27))(D:B.toList.take (rs.length*2)=mJ K rs)(R:1<=rs.length/\rs.length<=3)(hp:∀r∈rs,BJ w K r/\r.dj≠T)(y:∀r∈rs,r.bV<=4/\r.cQ.length=K/\∀x∈r.cQ,0<=x/\x<=9)(L:rs.Pairwise (λa b=>a.bV<b.bV))(V:∀r,rs[0]?=some r->r.bV=0)(F:f.length≠0->∃g cur,q=some (Ti g)/\g≠T/\w.heap[g]?=some (.cells cur 3)/\cur.toList.take f.length=f.map λ(x:Nat)=>gi x)(P:f.length<=5)(hd:f.Pairwise (· < ·))(M:∀x∈f,x<5)(E:n≠T/\Tk≠T):
 ∃d p,cC.ok d/\dv d p=#[ah K,Ts n K cA,Ts Tk rs.length dq,.slice q f.length dc]/\e' w d p/\p.off d T:=by
 have m:∀i,i<rs.length->rs.getD i default∈rs:=λi c=>hk (pW c)
 have Q:∀i,i<f.length->f.getD i default∈f:=λi c=>hk (pW c)
 refine⟨⟨K,λk=>xs.getD k 0,rs.length,λi=>((rs.getD i default).bV:Int),λi k=>(rs.getD i default).cQ.getD k 0,f.length,λi=>((f.getD i default:Nat):Int)⟩,
  ⟨n,0,cA,Tk,0,dq,λi=>(rs.getD i default).dj,λ_=>0,λi=>(rs.getD i default).cq,q,dc⟩,⟨J,λk j=>?_,R,?_,λi c=>?_,λi c=>?_,λi c k j=>?_,P,λi c=>?_,λi c=>?_⟩,S6,⟨Ek hF I G,λi c=>?_,λi c=>?_,λi c=>?_,λu=>?_⟩,⟨E.1,E.2,λi c=>(hp _ (m i c)).2,λb o u e=>?_⟩⟩
 .have j:k<xs.length:=by rw[G];exact j
  exact S _ (hk (pW j))
 .have:=V _ (pW (show 0<rs.length by omega))
  show(((rs.getD 0 default).bV:Nat):Int)=0;rw[this];rfl
 .have:=(y _ (m i c)).1
  show 0<=(((rs.getD i default).bV:Nat):Int)/\(((rs.getD i default).bV:Nat):Int)<=4;omega
 .have c:i+1<rs.length:=c
  have h:=List.pairwise_iff_getElem.1 L i (i+1) U c U;show(((rs.getD i default).bV:Nat):Int)<(((rs.getD (i+1) default).bV:Nat):Int);rw[List.getD_eq_getElem?_getD,List.getD_eq_getElem?_getD,Ui (show i<rs.length by omega),Ui c];simp only[Option.getD_some];omega
 .let⟨_,h,l⟩:=y _ (m i c)
  have j:k<(rs.getD i default).cQ.length:=by rw[h];exact j
  exact l _ (hk (pW j))
 .have:=M _ (Q i c)
  show 0<=((f.getD i default:Nat):Int)/\((f.getD i default:Nat):Int)<=4;omega
 .have c:i+1<f.length:=c
  have h:=List.pairwise_iff_getElem.1 hd i (i+1) U c U;show((f.getD i default:Nat):Int)<((f.getD (i+1) default:Nat):Int);rw[List.getD_eq_getElem?_getD,List.getD_eq_getElem?_getD,Ui (show i<f.length by omega),Ui c];simp only[Option.getD_some];omega
 .exact nQ C D (As K rs i _ (pW c)).1
 .show w.cell? (S8 Tk (0+i*2+1))=_
  rw[Ul];exact nQ C D (As K rs i _ (pW c)).2
 .let⟨⟨cur,h,l⟩,_⟩:=hp _ (m i c)
  exact Ek h l (y _ (m i c)).2.1
 .let⟨g,cur,h,_,l,H⟩:=F u
  refine⟨g,0,h,λk j=>nQ l H ?_⟩;rw[List.getElem?_map,pW j];rfl
 .let⟨g,cur,h,l,_⟩:=F u
  have e:q=some (S8 b o):=e;rw[h]at e;cases e;exact l
def K0{wd:S7}(h:w.grownBy d (some T))(x:cp (λi=>i=T\/i=b) d wd)(y:cp (λi=>i=T\/i=b) wd wr)(g:w.heap.size<=b):w.grownBy wr (some T):=by have z:=x.trans y;refine⟨z.os.trans h.os,z.tape.trans h.tape,z.output.trans h.output,cL h.size z.size,λi f c=>?_⟩;have:=h.size;exact(z.block i U (λe=>e.elim (λe=>c (by rw[e])) (λe=>U))).trans (h.block i f c)
def sj(w:S7)(c:Nat)(a b d e:S9):S7:=(((w.setCell (Ti c) a).setCell (S8 c 1) b).setCell (S8 c 2) d).setCell (S8 c 3) e
def C4{c:Nat}{b d e:S9}(h:i≠c):(sj w c a b d e).heap[i]?=w.heap[i]?:=
 (e1 (by exact h)).trans ((e1 (by exact h)).trans ((e1 (by exact h)).trans (e1 (by exact h))))
def KC{row:TN}{c:Nat}{b d e:S9}(h:aL.grownBy w row)(j:aL.heap.size<=c):aL.grownBy (sj w c a b d e) row:=
 ⟨h.os,h.tape,h.output,by simpa [sj]using h.size,λi f g=>(C4 U).trans (h.block i f g)⟩
def KB{c:Nat}{b d e:S9}{o j i g:S9}(h:w.heap[c]?=some (.cells #[o,j,i,g] f)):(sj w c a b d e).heap[c]?=some (.cells #[a,b,d,e] f):=by have l:(w.setCell (Ti c) a).heap[c]?=some (.cells #[a,j,i,g] f):=cU h;have m:((w.setCell (Ti c) a).setCell (S8 c 1) b).heap[c]?=some (.cells #[a,b,i,g] f):=cU l;have n:(((w.setCell (Ti c) a).setCell (S8 c 1) b).setCell (S8 c 2) d).heap[c]?=some (.cells #[a,b,d,g] f):=cU m;exact cU n
end
end Go.aO
