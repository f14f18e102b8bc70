/- A part. -/
import Derived.Test.YtejkocoljbaioaaGreatDoorP19
import Derived.Test.YtejkocoljbaioaaGreatDoorP29
import Derived.Deep.RegionHeld3
import Derived.Deep.AppendLies
import Derived.Maps.AppendAt
set_option maxHeartbeats 8000000
set_option maxRecDepth 100000
set_option linter.all false
namespace Go.aO
open Go.Proofs Go.RowKit
variable{cur:Array Value}{xs:List Value}{B T b fr g i k n u y:Nat}{o p q:Obj}{e f:TypeId}{L a v:Value}{aL c d h j w w' w3 wr:World}
section
variable{A:Array Func}
def kh.mono{g g':Option Nat}(h:kh g g' n)(c:k<=n):kh g g' k:=h.imp id λ⟨r,e,d⟩=>⟨r,e,U⟩
def Jr[S:Std A][eY:oA A]{ai:Type}{T:Array Value}(E:ts A ai T y B)(d:h1)(P:jL)(L m:Nat)(ok:ow d P L m y B)(aq:d.ok)(r:Nat)(a5:vn A E d P L m r):vn A E d P L m (r+1):=by
 intro a p pre st v w bz hp hlen h aY;have bJ:=h.dD;have bB:=ok.q5;have bE:=ok.sz;have bC:=ok.gJ;have bF:=aq.n;obtain⟨u,M⟩:∃W,((w.alloc (.cells #[.pointer (some ⟨L,0,none⟩)] 133)).alloc (.cells #[ah a,ah p] 137)).alloc (.cells #[.func (.func 66) #[] T] 139)=W:=⟨_,rfl⟩
 have ar:w.grownBy u none:=by rw[<-M];exact(bT.trans bT).trans bT
 have s1:u.heap.size=w.heap.size+3:=by rw[<-M];simp
 have az:u.heap[w.heap.size]?=some (.cells #[.pointer (some ⟨L,0,none⟩)] 133):=by rw[<-M,dm (by simp only[cV];omega),dm (by simp only[cV];omega),fM]
 have aA:u.heap[w.heap.size+1]?=some (.cells #[ah a,ah p] 137):=by rw[<-M,dm (by simp only[cV];omega),jA _ _ _ (by simp only[cV])]
 have aV:u.heap[w.heap.size+1+1]?=some (.cells #[.func (.func 66) #[] T] 139):=by rw[<-M,jA _ _ _ (by simp only[cV])]
 have D:=h.fF ok ar;have i1:=(E.keep st _ _ _ _ aY ar aF).1;have hd:((a:Int) == (d.n:Int))=false:=ub;have bx:u.cell? ⟨L,0,none⟩=some (.slice (some ⟨P.nN,P.sJ,none⟩) d.n P.qN):=aU D.blk;have bM:u.cell? ⟨w.heap.size,0,none⟩=some (.pointer (some ⟨L,0,none⟩)):=aU az;have q1:u.cell? ⟨w.heap.size+1,0,none⟩=some (ah a):=aU aA;have bQ:=D.rows a U;have bN:(a:Int)<(d.n:Int):=U;have bO:(0:Int)<=a:=U;have bK:=aq.len a U;have bb:=al az;have bc:=al aA;have bd:=al aV;have bl:=al s1;have bf:=al D;have bi:=al i1;have aQ:=al ar;have bh:=al M;have bk:=al h.own;have bj:=al a5;clear h D ar M aY i1 az aA aV s1 a5;go_enter (S.f Tryz.func65),Tryz.ntmps65;go_upto_region 1 with fail
 rw[bh.out];go_quiet (fail);go_wp2;go_quiet (fail);go_wp2;have aC:∀n k,u.grownBy ((u.drewN n).drewN k) none:=λn k=>(hl u n).trans (hl _ k)
 go_loopw [33] (λi wr=>∃(j:Nat) (o:Value) (l:ai),i=ah j/\j<=d.len a/\kF (na E.stop E.next d r) (λq=>hg d r q) (d.num a) p pre st j=(false,l)/\ih d P L m B o pre wr/\E.Inv o.ownBlock l wr/\kh v.ownBlock o.ownBlock u.heap.size/\cp (jK L m y v.ownBlock) u wr) (λi _=>d.len a-numOf i)
 case atStart=>exact⟨0,v,st,rfl,U,rfl,bf.out.fF ok (aC _ _),(E.keep st _ _ _ _ bi.out (aC _ _) aF).1,.inl rfl,cp.jF (aC _ _)⟩
 case round=>
  obtain⟨j,o,l,rfl,bA,ae,J,br,K,Q⟩:=hrel;have aj:∀r,v.ownBlock=some r->r<w.heap.size:=λr e=>(lM bk.out r e).2
  have bH:=bl.out;have bI:=Q.size;have af:∀i,w.heap.size<=i->i<w.heap.size+3->wr.heap[i]?=u.heap[i]?:=λi D au=>Q.block i U (λaK=>by
   rcases aK with e|e|e|e
   .omega
   .omega
   .omega
   .have:=aj i e.symm;omega)
  have am:=(af w.heap.size bg U).trans bb.out;have ap:=(af (w.heap.size+1) U U).trans bc.out;have aB:=(af (w.heap.size+1+1) U U).trans bd.out;by_cases a0:j<d.len a
  .have r0:wr.cell? ⟨w.heap.size,0,none⟩=some (.pointer (some ⟨L,0,none⟩)):=aU am
   have r1:wr.cell? ⟨w.heap.size+1,0,none⟩=some (ah a):=aU ap;have bP:wr.cell? ⟨w.heap.size+1,1,none⟩=some (ah p):=aU ap;have bR:=J.el a U j a0;have bG:=aq.num a U j a0;have bq:w.heap.size<wr.heap.size:=U;have bL:w.heap.size+1<wr.heap.size:=U;have bs:w.heap.size+1+1<wr.heap.size:=U;by_cases hle:d.num a j<=(p:Int)
   .have bm:decide ((p:Int)<d.num a j)=false:=by simpa using hle
    obtain⟨q,aH⟩:∃q:Nat,(p:Int)-d.num a j=q:=⟨((p:Int)-d.num a j).toNat,U⟩
    have a2:p-(d.num a j).toNat=q:=U;have gr:wr.grownBy (wr.alloc (.cells #[ah ((a:Int)+1),ah ((p:Int)-d.num a j)] 137)) none:=bT;have aD:=J.fF ok (dU wr (.cells #[ah ((a:Int)+1),ah ((p:Int)-d.num a j)] 137) none);have a4:=(E.keep l _ _ _ _ br gr aF).1;have aI:=G0 (A:=A) L m d aq P r (a+1) U q U _ aD.ls;have ba:cp (jK L m y v.ownBlock) u (wr.alloc (.cells #[ah ((a:Int)+1),ah ((p:Int)-d.num a j)] 137)):=Q.step gr aF;rw[<-aH]at aI;have aW:∀c,(wr.alloc (.cells #[ah ((a:Int)+1),ah ((p:Int)-d.num a j)] 137)).grownBy c (some m)->c.heap[w.heap.size]?=some (.cells #[.pointer (some ⟨L,0,none⟩)] 133)/\c.heap[w.heap.size+1+1]?=some (.cells #[.func (.func 66) #[] T] 139)/\c.heap[wr.heap.size]?=some (.cells #[ah ((a:Int)+1),ah ((p:Int)-d.num a j)] 137):=λc f=>by
     have aM:∀i,i≠m->some i≠some m:=λi h e=>h (bD e)
     have sZ:(wr.alloc (.cells #[ah ((a:Int)+1),ah ((p:Int)-d.num a j)] 137)).heap.size=wr.heap.size+1:=aF;exact⟨(f.block _ U (aM _ U)).trans ((dm bq).trans am),(f.block _ U (aM _ U)).trans ((dm bs).trans aB),(f.block _ U (aM _ U)).trans (fM _ _)⟩
    have aR:=al aW;have aZ:o.ownBlock≠some wr.heap.size/\o.ownBlock≠some w.heap.size/\o.ownBlock≠some (w.heap.size+1+1):=by
     refine⟨λe=>?_,λe=>?_,λe=>?_⟩
     .have:=lM J.own _ e;omega
     .rcases K with I|⟨r,I,bn⟩
      .have:=aj _ (I.symm.trans e);omega
      .have:=bD (I.symm.trans e);omega
     .rcases K with I|⟨r,I,bn⟩
      .have:=aj _ (I.symm.trans e);omega
      .have:=bD (I.symm.trans e);omega
    have aw:=al aZ;have ay:=al aI;have V:=al aD;have Y:=al a4;have ad:=al ba;have ak:=al aH;have aT:=al ae;have G:=al K;have ax:=al a2;clear aW aZ gr aI aD a4 ba aH am ap aB ae K Q br J a2 af aj;cases aJ:((hg d r ((p:Int)-d.num a j):Int) == 0)
    .obtain⟨b,z,hF⟩:∃b z,na E.stop E.next d r q (pre++[d.num a j]) l=(b,z):=⟨_,_,rfl⟩
     have av:=al hF;have ag:d.num a j<=(p:Int)/\hg d r ((p-(d.num a j).toNat:Nat):Int)≠0:=⟨hle,λa3=>by rw[ax.out,<-ak.out]at a3;rw[a3]at aJ;simp at aJ⟩
     have a1:kF (na E.stop E.next d r) (λq=>hg d r q) (d.num a) p pre st (j+1)=(b,z):=by rw[Jo aT.out ag,ax.out];exact av.out
     have R:=al a1;have aX:∀(c:World),c.heap[w.heap.size]?=some (.cells #[.pointer (some ⟨L,0,none⟩)] 133)/\c.heap[w.heap.size+1+1]?=some (.cells #[.func (.func 66) #[] T] 139)/\c.heap[wr.heap.size]?=some (.cells #[ah ((a:Int)+1),ah ((p:Int)-d.num a j)] 137)->∀v1 C,ih d P L m B v1 (pre++[d.num a j]) C->E.Inv v1.ownBlock l C->kh o.ownBlock v1.ownBlock c.heap.size->cp (jK L m y o.ownBlock) c C->
      Calls (ao A) 81 #[.pointer (some ⟨w.heap.size,0,none⟩),.pointer (some ⟨wr.heap.size,0,none⟩),.pointer (some ⟨w.heap.size+1+1,0,none⟩)] C λe w2=>∃v2,e=.returned (.bool b)/\ih d P L m B v2 (pre++[d.num a j]) w2/\E.Inv v2.ownBlock z w2/\kh v1.ownBlock v2.ownBlock C.heap.size/\cp (jK L m y v1.ownBlock) C w2:=by
      intro c ⟨a6,a7,a8⟩ v1 C D i1 q1 aO;have gM:∀i,B<=i->o.ownBlock≠some i->¬jK L m y o.ownBlock i:=λi D au aK=>by
       rcases aK with e|e|e|e
       .omega
       .omega
       .omega
       .exact au e.symm
      have bo:=(aO.block _ (bu a6) (gM _ U aw.out.2.1)).trans a6;have bp:=(aO.block _ (bu a7) (gM _ U aw.out.2.2)).trans a7;have a9:=(aO.block _ (bu a8) (gM _ U aw.out.1)).trans a8;refine Jm w.heap.size wr.heap.size (w.heap.size+1+1) L (a+1) q T C _ (aU bo) (aU a9) ((aU a9).trans (by rw[<-ak.out];rfl)) (aU bp) ?_;refine(bj.out (a+1) q (pre++[d.num a j]) l v1 C U (by have:=ak.out;omega) (by rw[List.length_append,List.length_singleton];omega) D i1).mono ?_;rintro e w2 ⟨v2,rfl,au,i2,bt,bw⟩;rw[av.out]at i2;exact⟨_,rfl,v2,by rw[av.out],au,i2,bt,bw⟩
     have aS:=al aX;clear hF ag a1 aX;cases b
     .go_wp2_with (first|(go_at_call 64;refine ay.out.mono ?_;rintro e c ⟨rfl,F,f⟩;have X:=al (V.out.known ok f F);have Z:=al (E.keep l _ _ _ _ Y.out f (λr e=>by cases e;exact⟨ok.ps.symm,.inl ok.gJ⟩)).1;have H:=al (ad.out.step f (λr e=>.inl (.inr (.inl (by cases e;rfl)))));have aa:=al (aR.out c f);have b6:c.cell? ⟨w.heap.size,0,none⟩=some (.pointer (some ⟨L,0,none⟩)):=aU aa.out.1;clear F f)|(go_at_call 80;refine(G5 d P L m y B ok (d.num a j) o pre U c X.out (λg w=>E.Inv g l w) (λg w=>E.Inv g z w) (E.keep l) (E.keep z) Z.out #[.pointer (some ⟨w.heap.size,0,none⟩),.pointer (some ⟨wr.heap.size,0,none⟩),.pointer (some ⟨w.heap.size+1+1,0,none⟩)] false (aS.out c aa.out)).mono ?_;rintro e bv ⟨v2,rfl,aE,aL,aN,aP⟩))
      go_roundw
      case rel=>exact⟨j+1,v2,z,by go_num,U,R.out,aE,aL,G.out.trans aN (by have:=H.out.size;omega),jK.step H.out aP G.out⟩
      case measure=>simp[numOf];omega
     .go_wp2_with (first|(go_at_call 64;refine ay.out.mono ?_;rintro e c ⟨rfl,F,f⟩;have X:=al (V.out.known ok f F);have Z:=al (E.keep l _ _ _ _ Y.out f (λr e=>by cases e;exact⟨ok.ps.symm,.inl ok.gJ⟩)).1;have H:=al (ad.out.step f (λr e=>.inl (.inr (.inl (by cases e;rfl)))));have aa:=al (aR.out c f);have b6:c.cell? ⟨w.heap.size,0,none⟩=some (.pointer (some ⟨L,0,none⟩)):=aU aa.out.1;clear F f)|(go_at_call 80;refine(G5 d P L m y B ok (d.num a j) o pre U c X.out (λg w=>E.Inv g l w) (λg w=>E.Inv g z w) (E.keep l) (E.keep z) Z.out #[.pointer (some ⟨w.heap.size,0,none⟩),.pointer (some ⟨wr.heap.size,0,none⟩),.pointer (some ⟨w.heap.size+1+1,0,none⟩)] true (aS.out c aa.out)).mono ?_;rintro e bv ⟨v2,rfl,aE,aL,aN,aP⟩))
      go_ret;have e:na E.stop E.next d (r+1) p pre st=(true,z):=by rw[na,show d.n-(r+1)=a by omega,show d.len a=(j+1)+(d.len a-(j+1)) by omega];exact CN R.out _
      rw[e];exact⟨v2,rfl,aE,aL,(G.out.trans aN (by have:=H.out.size;omega)).mono U,(cp.jF aQ.out).trans (jK.step H.out aP G.out)⟩
    .have ag:¬(d.num a j<=(p:Int)/\hg d r ((p-(d.num a j).toNat:Nat):Int)≠0):=λaG=>aG.2 (by rw[ax.out,<-ak.out];simpa using aJ)
     have R:=al (CM aT.out ag);clear ag;go_wp2_with (go_at_call 64;refine ay.out.mono ?_;rintro e c ⟨rfl,F,f⟩;have X:=al (V.out.known ok f F);have Z:=al (E.keep l _ _ _ _ Y.out f (λr e=>by cases e;exact⟨ok.ps.symm,.inl ok.gJ⟩)).1;have H:=al (ad.out.step f (λr e=>.inl (.inr (.inl (by cases e;rfl)))));clear F f)
     go_roundw
     case rel=>exact⟨j+1,o,l,by go_num,U,R.out,X.out,Z.out,G.out,H.out⟩
     case measure=>simp[numOf];omega
   .have bm:decide ((p:Int)<d.num a j)=true:=cH
    have gr:wr.grownBy (wr.alloc (.cells #[ah ((a:Int)+1),ah ((p:Int)-d.num a j)] 137)) none:=bT;have R:=al (CM ae (λaG=>hle aG.1));have V:=al (J.fF ok gr);have Y:=al (E.keep l _ _ _ _ br gr aF).1;have ad:=al (Q.step gr aF);have G:=al K;clear J br Q K ae gr am ap aB af aj;go_wp2;go_roundw
    case rel=>exact⟨j+1,o,l,by go_num,U,R.out,V.out,Y.out,G.out,ad.out⟩
    case measure=>simp[numOf];omega
  .go_wp2
   go_ret;obtain rfl:j=d.len a:=U;have e:na E.stop E.next d (r+1) p pre st=(false,l):=by rw[na,show d.n-(r+1)=a by omega];exact ae
   rw[e];exact⟨o,rfl,J,br,K.mono U,(cp.jF aQ.out).trans Q⟩
def CO[S:Std A][eY:oA A]{ai:Type}{f:Array Value}{y B:Nat}(E:ts A ai f y B)(d:h1)(P:jL)(L m:Nat)(ok:ow d P L m y B)(c:d.ok):∀r,vn A E d P L m r
 | 0=>Js E d P L m ok c
 |r+1=>Jr E d P L m ok c r (CO E d P L m ok c r)
def vv(y B:Nat)(g:Option Nat)(st:Option (List Int))(w:World):Prop:=
 ∃v,w.heap[y]?=some (.cells #[v] 22)/\match st with
  |none=>v=.slice none 0 0
  |some l=>(w.ownsRow B 3 1 v l.length (l.map gi)/\∀r,v.ownBlock=some r->g≠some r)\/(l = []/\v=.slice none 0 0)
def vv.keep(I:y<B)(st:Option (List Int)):vs y B λg w=>vv y B g st w:=by
 intro g w w' row ⟨v,f,J⟩ o u;have d:w'.heap[y]?=some (.cells #[v] 22):=(o.block y (bu f) (λe=>(u y e.symm).1 rfl)).trans f;cases st with
 |none=>exact⟨⟨v,d,J⟩,λg' _=>⟨v,d,J⟩⟩
 |some l=>
  rcases J with⟨J,i⟩|J
  .have q:w'.ownsRow B 3 1 v l.length (l.map gi):=by
    obtain⟨p,⟨rfl,D⟩|⟨b,c,cur,rfl,C,j,q1,E,F,G⟩⟩:=J
    .exact⟨p,.inl ⟨rfl,D⟩⟩
    .refine⟨p,.inr ⟨b,c,cur,rfl,C,(o.block b (bu j) (λe=>?_)).trans j,q1,E,F,G⟩⟩
     rcases(u b e.symm).2 with h|h
     .omega
     .exact i b rfl h.symm
   refine⟨⟨v,d,.inl ⟨q,i⟩⟩,λg' H=>⟨v,d,.inl ⟨q,λr e z=>?_⟩⟩⟩;have:=(lM J r e).2;have:=bD z;omega
  .exact⟨⟨v,d,.inr J⟩,λg' _=>⟨v,d,.inr J⟩⟩
def J4(w:World):Sem.run (ao A) (binOp .eql 22 (.slice none 0 0) (.slice none 0 0)) w=.ok (.bool true) w:=av
def J5(a:Addr)(n c:Nat)(w:World):Sem.run (ao A) (binOp .eql 22 (.slice (some a) n c) (.slice none 0 0)) w=.ok (.bool false) w:=av
def IJ[S:Std A][eY:oA A](B:Nat)(v:Value)(pre:List Int)(hlen:pre.length<=100)(w:World)(af:B<=w.heap.size)(h:w.ownsRow B 3 1 v pre.length (pre.map gi)):
 Calls (ao A) 67 #[v] w λe w'=>∃a c,e=.returned (.slice a pre.length c)/\((w'.ownsRow w.heap.size 3 1 (.slice a pre.length c) pre.length (pre.map gi))\/(pre = []/\Value.slice a pre.length c=.slice none 0 0))/\w.grownBy w' none:=by
 obtain⟨Z,f,C,D,E⟩:=wL (A:=A);obtain⟨G,⟨rfl,H⟩|⟨b,c,cur,rfl,ai,q,q1,aa,ad,J⟩⟩:=h
 .have hp:pre = []:=by
   cases pre with
   |nil=>rfl
   |cons a l=>simp at H
  have R:=al hp;clear hp G H f C D E;go_enter (S.f Tryz.func67),Tryz.ntmps67;have Y:=J4 (A:=A);go_wp2;go_ret;rw[R.out];exact⟨none,0,rfl,.inr ⟨rfl,rfl⟩,e6 _ _⟩
 .have F:∀(j:Nat) u,(pre.map gi)[j]?=some u->w.cell? ⟨b,j,none⟩=some u:=λj u r=>by
   rw[aU q,<-Array.getElem?_toList];have o:(cur.toList.take (pre.length*1))[j]?=some u:=by rw[J];exact r
   rw[List.getElem?_take]at o;split at o
   .exact o
   .cases o
  have K:=al F;have L:=al f;have T:=al C;have V:=al D;have W:=al E;have M:=al (bu q);have I:(w.alloc (.cells #[] 3)).ownsRow w.heap.size 3 1 (.slice (some ⟨w.heap.size,0,none⟩) 0 0) 0 []:=⟨rfl,.inr ⟨w.heap.size,0,#[],rfl,bg,fM _ _,bg,kj,rfl,rfl⟩⟩
  have X:=al I;clear F q q1 aa ad J G f C D E I;go_enter (S.f Tryz.func67),Tryz.ntmps67;have P:=al (show ∀(j:Nat) u,(pre.map gi)[j]?=some u->(w.alloc (.cells #[] 3)).cell? ((⟨b,0,none⟩:Addr).add j)=some u from λj u r=>by have:=K.out j u r;rw[show((⟨b,0,none⟩:Addr).add j)=⟨b,j,none⟩ by simp[Addr.add]<;>omega];exact(hD _ _ _ M.out).trans this)
  have Y:=J5 (A:=A) ⟨b,0,none⟩ pre.length c;have Q:=al (show ∀u∈pre.map gi,u.oneCell'=true from λu hu=>by obtain⟨n,_,rfl⟩:=List.mem_map.1 hu;rfl)
  go_wp2_with (at_builtin;refine wpList_append_own_at _ rfl _ _ 22 rfl w.heap.size 3 Z (ah 0) 1 8 (ao.underlying22 A) L.out T.out V.out W.out rfl a6 _ 0 _ rfl X.out ⟨b,0,none⟩ pre.length c (pre.map gi) rfl aF P.out Q.out kj U aF ?_;intro ae ak z d aj ag)
  go_ret;rw[Nat.zero_add,List.nil_append]at z;obtain⟨p,bp,rfl⟩:∃p bp,ae=.slice p pre.length bp:=by
   obtain⟨_,⟨rfl,h⟩|⟨g,c,cur,rfl,_⟩⟩:=z
   .exact⟨none,0,by rw[h]⟩
   .exact⟨_,_,rfl⟩
  refine⟨p,bp,rfl,.inl z,?_⟩
  .refine⟨d.os,d.tape,d.output,cL aF d.size,λi f _=>(d.block i cH (λe=>?_)).trans (dm f)⟩
   have e:some i=some w.heap.size:=e;have:=bD e;omega
def AP[S:Std A][eY:oA A](y B:Nat)(T:y<B):ts A (Option (List Int)) #[.pointer (some ⟨y,0,none⟩)] y B where
 Inv g st w:=vv y B g st w/\B<=w.heap.size
 stop _ _:=true
 next _ pre:=some pre
 keep st:=λg w w' row h u E=>by have:=vv.keep T st g w w' row h.1 u E;exact⟨⟨this.1,cL h.2 u.size⟩,λg' R=>⟨this.2 g' R,cL h.2 u.size⟩⟩
 call st w v pre z hlen D:=by
  obtain⟨⟨v0,F,_⟩,H⟩:=z;have K:=al (IJ (A:=A) B v pre hlen w H D);have J:=al λr (e:v.ownBlock=some r)=>lM D r e
  have q:=al F;have C:=bu F;clear F D;show Calls (ao A) 66 #[v,.pointer (some ⟨y,0,none⟩)] w _;go_enter (S.f Tryz.func66),Tryz.ntmps66;go_wp2_with (go_at_call 67;refine K.out.mono ?_;rintro e l ⟨f,j,rfl,I,p⟩;have bx:l.cell? ⟨y,0,none⟩=some v0:=aU ((p.block y C aF).trans q.out);have z0:=b3 (o:=0) ((p.block y C aF).trans q.out);have L:=al I;have c:=al p;clear I p)
  have V:=(c.out.block y C aF).trans q.out;have P:(l.setCell ⟨y,0,none⟩ (.slice f pre.length j)).heap[y]?=some (.cells #[.slice f pre.length j] 22):=cU V;have d:l.grownBy (l.setCell ⟨y,0,none⟩ (.slice f pre.length j)) (some y):=e7 (e6 _ _);have X:=c.out.size;generalize l.setCell ⟨y,0,none⟩ (.slice f pre.length j)=W at *;have Y:=d.size;refine bodyPost_ret (results_tmp rfl _ _ _) rfl ⟨rfl,⟨⟨.slice f pre.length j,P,?_⟩,U⟩,⟨d.os.trans c.out.os,d.tape.trans c.out.tape,d.output.trans c.out.output,U,λi z E=>(d.block i U E).trans (c.out.block i z aF)⟩⟩;rcases L.out with h|h
  .refine .inl ⟨j4 (EB h H) (λg Q G=>d.block g G (λe=>by have:=bD e;omega)),λr e M=>?_⟩
   have Q:=(lM h r e).1;have G:=(J.out r M).2;omega
  .exact .inr h
def fS.of(h:fS w T L g)(e:w'.heap=w.heap):fS w' T L g:=by
 obtain⟨⟨s,l,o⟩,d⟩:=h;refine⟨⟨s,by rw[e];exact l,o⟩,?_⟩;rcases d with d|⟨b,off,n,c,z,q1,p,q,i⟩
 .exact .inl d
 .exact .inr ⟨b,off,n,c,z,q1,p,q,λj f=>⟨by have:=(i j f).1;unfold World.cell? at this ⊢;rw[e];exact this,(i j f).2⟩⟩
def fS.lt(h:fS w T L g):T<w.heap.size:=by obtain⟨⟨s,c,f⟩,d⟩:=h;exact(Array.getElem?_eq_some_iff.1 c).1
def fS.keep(h:fS w T L g)(k:∀b,b<w.heap.size->w'.heap[b]?=w.heap[b]?):fS w' T L g:=by
 have l:=h.lt;obtain⟨⟨s,o,p⟩,f⟩:=h;refine⟨⟨s,(k T l).trans o,p⟩,?_⟩;rcases f with f|⟨b,off,n,c,z,q1,q,r,i⟩
 .exact .inl f
 .exact .inr ⟨b,off,n,c,z,q1,q,r,λj d=>⟨(World.cell?_of_block (k b (lD (i j d).1))).trans (i j d).1,(i j d).2⟩⟩
def fS.alloc(h:fS w T L g)(o:Obj):fS (w.alloc o) T L g:=h.keep λb c=>dm c
def tz(L:Value)(b:Nat):Prop:=∀a off n c,L=.slice (some ⟨a,off,none⟩) n c->0<n->a≠b
def ly.oV(h:ly w L T)(o:tz L b)(k:cp (λi=>i=T\/i=b) w w'):ly w' L T:=by
 rcases h with l|⟨a,off,n,c,z,q1,p,f,g⟩
 .exact .inl l
 .exact .inr ⟨a,off,n,c,z,q1,p,f,λj d=>⟨k.cell (g j d).1 (λe=>e.elim f (o a off n c q1 U)),(g j d).2⟩⟩
def ly.off(h:ly w L T)(d:w.heap.size<=b):tz L b:=λa off n c e f=>by
 rcases h with h|⟨i,j,c9,bp,z,q1,l,o,g⟩
 .obtain⟨q,h⟩:=h;rw[h]at e;cases e;omega
 .rw[q1]at e
  cases e;have:=lD (g 0 f).1;show a≠b;intro e;subst e;exact absurd this (Nat.not_lt.2 d)
def cp.Gf{X Y:Nat->Prop}{a b:World}(h:cp X a b)(k:cp Y b c)(g:∀i,Y i->X i\/a.heap.size<=i):cp X a c:=
 ⟨k.os.trans h.os,k.tape.trans h.tape,k.output.trans h.output,cL h.size k.size,λi d f=>(k.block i (gu d h.size) λe=>(g i e).elim f (λx=>U)).trans (h.block i d f)⟩
structure hz(aL:World)(T b:Nat)(L:Value)(ty:TypeId)(g:Nat)(cs:Array Value)(w:World):Prop where
 blk:w.heap[b]?=some (.cells cs ty)
 st:∃s:Int,w.heap[T]?=some (.cells #[L,ah g,.int .u64 s] 70)/\0<=s/\s<=18446744073709551615
 cf:cp (λi=>i=T\/i=b) aL w
 m8:T<b
 dQ:b<aL.heap.size
 off:tz L b
 nm:ly aL L T
def hz.rD{c:TypeId}{cs:Array Value}(M:hz aL T b L c g cs w):fS w T L g:=⟨M.st,M.nm.oV M.off M.cf⟩
def hz.start{cs:Array Value}(c:w.heap[b]?=some (.cells cs f))(d:fS w T L g)(h:T<b)(i:tz L b):hz w T b L f g cs w:=
 ⟨c,d.blk,.refl _ _,h,bu c,i,d.nm⟩
def hz.round{j:TypeId}{cs:Array Value}(M:hz aL T b L j g cs wr)(own:wr.ownsRow aL.heap.size 3 1 v k xs){f:World}{C D:Obj}(q:wr.drew.grownBy f (some T))(w:(f.alloc C).grownBy h (some T))(t6:fS h T L u)(l:(h.alloc D).grownBy c v.ownBlock)(d:Value)(o:Nat){G:List Value}(W:c.ownsRow aL.heap.size 3 1 d B G):
 hz aL T b L j u (cs.setIfInBounds o d) (c.setCell ⟨b,o,none⟩ d)/\(c.setCell ⟨b,o,none⟩ d).ownsRow aL.heap.size 3 1 d B G:=by
 have Q:=M.dQ;have P:=M.m8;have b6:=M.cf.size;have p:=λr e=>lM own r e
 have E:cp (λi=>i=T\/i=b) aL f:=cp.step (M.cf.trans (cp.of (w':=wr.drew) (row:=none) (gv (e6 _ _)) aF)) q (λr e=>.inl (.inl (bD e).symm));have vh:cp (λi=>i=T\/i=b) aL (f.alloc C):=E.trans (.jF bT);have F:cp (λi=>i=T\/i=b) aL h:=vh.step w (λr e=>.inl (.inl (bD e).symm));have Y:cp (λi=>i=T\/i=b) aL (h.alloc D):=F.trans (.jF bT);have X:cp (λi=>i=T\/i=b) aL c:=Y.step l (λr e=>.inr ((p r e).1));have ad:aL.heap.size<=f.heap.size:=E.size;have z:(some b:Option Nat)≠some T:=λe=>by have:=bD e;omega
 have H:f.heap[b]?=some (.cells cs j):=(q.block b (by show b<wr.heap.size;omega) z).trans M.blk;have I:h.heap[b]?=some (.cells cs j):=(w.block b cH z).trans ((dm U).trans H);have ae:=F.size;have J:c.heap[b]?=some (.cells cs j):=(l.block b cH (λe=>by have:=(p b e.symm).1;omega)).trans ((dm U).trans I);have V:c.grownBy (c.setCell ⟨b,o,none⟩ d) (some b):=e7 (e6 _ _);obtain⟨s,R,S⟩:=t6.blk;refine⟨⟨cU J,⟨s,?_,S⟩,X.step V (λr e=>.inl (.inr (bD e).symm)),P,Q,M.off,M.nm⟩,
  j4 W λK Z aa=>e1 (by show K≠b;omega)⟩
 refine(e1 (by show T≠b;omega)).trans ((l.block T cH (λe=>by have:=(p T e.symm).1;omega)).trans ((dm U).trans R))
def EA(h:wr.ownsRow B 3 1 v n xs)(u:T<B)(d:wr.drew.grownBy c (some T))(f:(c.alloc o).grownBy j (some T)):(j.alloc p).ownsRow B 3 1 v n xs:=
 j4 h λg r l=>by
  have i:(some g:Option Nat)≠some T:=λe=>by have:=bD e;omega
  have w:wr.heap.size<=c.heap.size:=d.size;have q:=f.size;simp at q;exact(dm U).trans ((f.block g cH i).trans ((dm U).trans (d.block g l i)))
def B0{i:World}{r:Obj}(h:wr.heap[b]?=some o)(own:wr.ownsRow B 3 1 v n xs)(w:T<b)(z:b<B)(d:wr.drew.grownBy c (some T))(f:(c.alloc q).grownBy i (some T))(l:(i.alloc r).grownBy j v.ownBlock):j.heap[b]?=some o:=by
 have g:(some b:Option Nat)≠some T:=λe=>by have:=bD e;omega
 have C:wr.heap.size<=c.heap.size:=d.size;have u:=f.size;simp at u;have p:=bu h;exact(l.block b cH (λe=>by have:=(lM own b e.symm).1;omega)).trans ((dm U).trans ((f.block b cH g).trans ((dm U).trans ((d.block b p g).trans h))))
def Gn{h:Obj}(f:wr.drew.grownBy c (some T))(g:(c.alloc h).grownBy d (some T)):wr.heap.size<=d.heap.size:=by have j:wr.heap.size<=c.heap.size:=f.size;have i:=g.size;simp at i;omega
structure mh where
 bV:Nat
 dj:Nat
 cq:Nat
 cQ:List Int
 deriving Inhabited
def E4(K:Nat)(r:mh):List Value:=[ah r.bV,.slice (some ⟨r.dj,0,none⟩) K r.cq]
def mJ(K:Nat)(rs:List mh):List Value:=rs.flatMap (E4 K)
def NJ(K:Nat)(rs:List mh)(r:mh):mJ K (rs++[r])=mJ K rs++E4 K r:=by simp[mJ]
def oh(K:Nat)(c d f:Value):Array Value:=#[ah K,c,d,f]
def BJ(w:World)(K:Nat)(r:mh):Prop:=∃cur:Array Value,w.heap[r.dj]?=some (.cells cur 3)/\cur.toList.take K=r.cQ.map gi
structure qF(w3:World)(T b:Nat)(L:Value)(g K:Nat)(fI:Value)(rs:List mh)(fr:Nat)(dH:Value)(wr:World):Prop where
 hq:hz w3 T b L 25 g (oh K fI dH (.slice none 0 0)) wr
 own:wr.ownsRow w3.heap.size 27 2 dH rs.length (mJ K rs)
 cQ:∀r∈rs,BJ wr K r/\w3.heap.size<=r.dj/\dH.ownBlock≠some r.dj
 hL:∀r∈rs,r.bV<=4/\r.cQ.length=K/\∀x∈r.cQ,0<=x/\x<=9
 qK:rs.Pairwise (λa b=>a.bV<b.bV)
 zero:∀r,rs[0]?=some r->r.bV=0
 top:(rs = []->fr=0)/\∀r∈rs,r.bV<fr
def rh(h:w.ownsRow B e g v n xs)(r:Nat)(k:v.ownBlock=some r):B<=r/\r<w.heap.size:=by
 obtain⟨i,⟨rfl,_⟩|⟨b,c,cur,rfl,d,f,_⟩⟩:=h
 .cases k
 .cases k;exact⟨d,bu f⟩
def xj(h:w.ownsRow B 3 1 v n xs)(r:0<n):∃g cap cur,v=.slice (some ⟨g,0,none⟩) n cap/\B<=g/\g<w.heap.size/\w.heap[g]?=some (.cells cur 3)/\cur.toList.take n=xs:=by
 obtain⟨q,⟨_,h⟩|⟨g,c,cur,f,j,d,l,o,p,i⟩⟩:=h
 .omega
 .exact⟨g,c,cur,f,j,bu d,d,by simpa using i⟩
def qF.round{K:Nat}{B:Value}{rs:List mh}{f:Value}(bn:qF w3 T b L g K B rs fr f wr)(aH:fr<5)(aa:0<K){Z:Nat}{G:Value}{F:Obj}(M:hz (wr.alloc F) T wr.heap.size L 27 Z #[ah fr,G] d){xs:List Int}(aw:d.ownsRow (wr.alloc F).heap.size 3 1 G K (xs.map gi))(hlen:xs.length=K)(ao:∀x∈xs,0<=x/\x<=9){p q:World}{R:Obj}(C:(d.alloc R).grownBy p f.ownBlock){o cap:Nat}(aj:f.ownBlock=some o\/o=d.heap.size+1)(ax:p.ownsRow w3.heap.size 27 2 (.slice (some ⟨o,0,none⟩) (rs.length+1) cap) (rs.length+1) (mJ K rs++[ah fr,G]))(D:p.grownBy q (some T)){H:Nat}(t7:fS q T L H)(bo:Nat)(J:fr<bo):
 ∃r,qF w3 T b L H K B (rs++[r]) bo (.slice (some ⟨o,0,none⟩) (rs.length+1) cap) (q.setCell ⟨b,2,none⟩ (.slice (some ⟨o,0,none⟩) (rs.length+1) cap)):=by
 obtain⟨l,cq,cur,rfl,ad,I,ae,af⟩:=xj aw aa;have ag:=bn.hq.m8;have ak:=bn.hq.dQ;have aI:=bn.hq.cf.size;have ay:=M.cf.size;have az:=C.size;simp at ay az ad;have E:=λr e=>rh bn.own r e
 have aA:cp (λi=>i=T\/i=b) w3 (wr.alloc F):=bn.hq.cf.trans (.jF bT);have aB:cp (λi=>i=T\/i=b) w3 d:=aA.Gf M.cf (λi e=>e.elim (λe=>.inl (.inl e)) λe=>.inr U);have aG:cp (λi=>i=T\/i=b) w3 (d.alloc R):=aB.trans (.jF bT);have aC:cp (λi=>i=T\/i=b) w3 p:=aG.step C (λr e=>.inr (E r e).1);have aD:cp (λi=>i=T\/i=b) w3 q:=aC.step D (λr e=>.inl (.inl (bD e).symm));have aE:cp (λi=>i=T\/i=b) w3 (q.setCell ⟨b,2,none⟩ (.slice (some ⟨o,0,none⟩) (rs.length+1) cap)):=aD.step (e7 (T:=b) (e6 _ _)) (λr e=>.inl (.inr (bD e).symm));have am:(some b:Option Nat)≠some T:=λe=>by have:=bD e;omega
 have al:(some b:Option Nat)≠f.ownBlock:=λe=>by have:=(E b e.symm).1;omega
 have W:d.heap[b]?=some (.cells (oh K B f (.slice none 0 0)) 25):=(M.cf.block b cH U).trans ((dm U).trans bn.hq.blk);have X:p.heap[b]?=some (.cells (oh K B f (.slice none 0 0)) 25):=(C.block b cH al).trans ((dm U).trans W);have Y:q.heap[b]?=some (.cells (oh K B f (.slice none 0 0)) 25):=(D.block b U am).trans X;obtain⟨s,ar,av⟩:=t7.blk;have uq:∀i,w3.heap.size<=i->i<p.heap.size->(q.setCell ⟨b,2,none⟩ (.slice (some ⟨o,0,none⟩) (rs.length+1) cap)).heap[i]?=p.heap[i]?:=λi u j=>
  (e1 (by show i≠b;omega)).trans (D.block i j λe=>by have:=bD e;omega)
 have Q:∀i,w3.heap.size<=i->i<d.heap.size->f.ownBlock≠some i->p.heap[i]?=d.heap[i]?:=λi u j w=>
  (C.block i cH (λe=>w e.symm)).trans (dm j)
 have P:∀i,i<d.heap.size->f.ownBlock≠some i->o≠i:=λi u j e=>by
  subst e;rcases aj with h|h
  .exact j h
  .omega
 refine⟨⟨fr,l,cq,xs⟩,⟨cU Y,⟨s,(e1 (by show T≠b;omega)).trans ar,av⟩,aE,ag,ak,bn.hq.off,bn.hq.nm⟩,?_,λr au=>?_,λr au=>?_,?_,λr au=>?_,λh=>by simp at h,λr au=>?_⟩
 .rw[List.length_append,NJ]
  exact j4 ax λi u j=>uq i u j
 .rcases List.mem_append.1 au with au|au
  .obtain⟨⟨S,u,j⟩,w,z⟩:=bn.cQ r au
   have aq:=bu u;have V:d.heap[r.dj]?=wr.heap[r.dj]?:=(M.cf.block _ cH U).trans (dm aq);refine⟨⟨S,?_,j⟩,w,λe=>P r.dj U z (bD e)⟩;rw[uq _ w U,Q _ w U z,V];exact u
  .obtain rfl:=ev au
   have z:f.ownBlock≠some l:=λe=>by have:=(E l e).2;omega
   refine⟨⟨cur,?_,af⟩,by show w3.heap.size<=l;omega,λe=>P l I z (bD e)⟩;show(q.setCell _ _).heap[l]?=_;rw[uq l U U,Q l U I z];exact ae
 .rcases List.mem_append.1 au with au|au
  .exact bn.hL r au
  .obtain rfl:=ev au
   exact⟨by show fr<=4;omega,hlen,ao⟩
 .rw[List.pairwise_append]
  refine⟨bn.qK,aF,λa ai c ap=>?_⟩;obtain rfl:=ev ap;exact bn.top.2 a ai
 .rcases rs with _|⟨r0,rs⟩
  .simp at au
   subst au;exact bn.top.1 rfl
  .exact bn.zero r (by simpa using au)
 .rcases List.mem_append.1 au with au|au
  .exact Nat.lt_trans (bn.top.2 r au) J
  .obtain rfl:=ev au
   exact J
def qF.Re{K:Nat}{l:Value}{rs:List mh}{c:Value}(bn:qF w3 T b L g K l rs fr c wr){o:Nat}{cs:Array Value}(M:hz (wr.alloc p) T wr.heap.size L 27 o cs d){f:World}(h:(d.alloc q).grownBy f c.ownBlock):
 fS f T L o/\f.heap[b]?=some (.cells (oh K l c (.slice none 0 0)) 25):=by
 have I:=bn.hq.m8;have J:=bn.hq.dQ;have P:=bn.hq.cf.size;have D:=M.cf.size;simp at D;have j:=λr e=>rh bn.own r e
 have E:cp (λi=>i=T\/i=b) w3 (wr.alloc p):=bn.hq.cf.trans (.jF bT);have F:cp (λi=>i=T\/i=b) w3 d:=E.Gf M.cf (λi e=>e.elim (λe=>.inl (.inl e)) λe=>.inr U);have H:cp (λi=>i=T\/i=b) w3 (d.alloc q):=F.trans (.jF bT);have G:cp (λi=>i=T\/i=b) w3 f:=H.step h (λr e=>.inr (j r e).1);have z:(some b:Option Nat)≠c.ownBlock:=λe=>by have:=(j b e.symm).1;omega
 have w:(some T:Option Nat)≠c.ownBlock:=λe=>by have:=(j T e.symm).1;omega
 have u:d.heap[b]?=some (.cells (oh K l c (.slice none 0 0)) 25):=(M.cf.block b cH U).trans ((dm U).trans bn.hq.blk);obtain⟨s,B,C⟩:=M.st;exact⟨⟨⟨s,(h.block T cH w).trans ((dm U).trans B),C⟩,bn.hq.nm.oV bn.hq.off G⟩,(h.block b cH z).trans ((dm U).trans u)⟩
def hz.called{d:Nat}{cs:Array Value}(M:hz aL T b L f g cs wr)(own:wr.ownsRow aL.heap.size 3 1 v k xs)(h:wr.grownBy c (some T))(t6:fS c T L d):
 hz aL T b L f d cs c/\c.ownsRow aL.heap.size 3 1 v k xs:=by
 have j:=M.m8;have l:=M.dQ;have s:=M.cf.size;exact⟨⟨(h.block b U (λe=>by have:=bD e;omega)).trans M.blk,t6.blk,M.cf.step h (λr e=>.inl (.inl (bD e).symm)),j,l,M.off,M.nm⟩,j4 own λg o i=>h.block g i (λe=>by have:=bD e;omega)⟩
def hz.gB{d:TypeId}{cs:Array Value}{f:World}(M:hz aL T b L d g cs c)(own:c.ownsRow aL.heap.size 3 1 v k xs){j:Obj}(h:(c.alloc j).grownBy f v.ownBlock):f.heap[b]?=some (.cells cs d):=by
 have i:=λr e=>lM own r e
 have l:=M.dQ;have s:=M.cf.size;exact(h.block b cH (λe=>by have:=(i b e.symm).1;omega)).trans ((dm U).trans M.blk)
def hz.put{p:TypeId}{cs:Array Value}(M:hz aL T b L p g cs h)(own:h.ownsRow aL.heap.size 3 1 v k xs){E:Obj}(f:(h.alloc E).grownBy d v.ownBlock)(c:Value)(o:Nat){l:Nat}{q:List Value}(F:d.ownsRow aL.heap.size 3 1 c l q):
 hz aL T b L p g (cs.setIfInBounds o c) (d.setCell ⟨b,o,none⟩ c)/\(d.setCell ⟨b,o,none⟩ c).ownsRow aL.heap.size 3 1 c l q:=by
 have j:=λr e=>lM own r e
 have z:=M.m8;have B:=M.dQ;have s:=M.cf.size;have u:=M.gB own f;have G:cp (λi=>i=T\/i=b) aL d:=cp.step (M.cf.trans (.jF bT)) f (λr e=>.inr (j r e).1);obtain⟨aX,C,D⟩:=M.st;exact⟨⟨cU u,⟨aX,(e1 (by show T≠b;omega)).trans ((f.block T cH (λe=>by have:=(j T e.symm).1;omega)).trans ((dm U).trans C)),D⟩,G.step (e7 (T:=b) (e6 _ _)) (λr e=>.inl (.inr (bD e).symm)),z,B,M.off,M.nm⟩,
  j4 F λw H I=>e1 (by show w≠b;omega)⟩
def DJ(j:Nat):∀(c:List Nat) (bY:Nat),c.Pairwise (· < ·)->(∀x∈c,bY<=x/\x<j)->c.length+bY<=max bY j
 | [],bY,_,_=>cH
 |a::c,bY,h,d=>by
  have f:=List.pairwise_cons.1 h;have i:=DJ j c (a+1) f.2 λx g=>⟨f.1 x g,(d x (List.mem_cons_of_mem _ g)).2⟩
  have l:=d a (List.mem_cons_self);simp only[List.length_cons];omega
def Lw{c:List Nat}{j:Nat}(d:c.Pairwise (· < ·))(f:∀x∈c,x<j):c.length<=j:=by
 have:=DJ j c 0 d λx g=>⟨Nat.zero_le _,f x g⟩
 omega
def M5(h:w.ownsRow B 3 1 v n xs):∃p c,v=.slice p n c/\(n≠0->∃g cur,p=some ⟨g,0,none⟩/\B<=g/\w.heap[g]?=some (.cells cur 3)/\cur.toList.take n=xs):=by
 obtain⟨r,⟨rfl,rfl⟩|⟨g,c,cur,d,i,j,l,o,q,f⟩⟩:=h
 .exact⟨none,0,rfl,λh=>absurd rfl h⟩
 .exact⟨_,c,d,λ_=>⟨g,cur,rfl,i,j,by simpa using f⟩⟩
def xk(h:w.ownsRow B 27 2 v n xs)(l:n≠0):∃g c cur,v=.slice (some ⟨g,0,none⟩) n c/\B<=g/\w.heap[g]?=some (.cells cur 27)/\cur.toList.take (n*2)=xs:=by
 obtain⟨r,⟨_,h⟩|⟨g,c,cur,d,i,j,o,p,q,f⟩⟩:=h
 .exact absurd h l
 .exact⟨g,c,cur,d,i,j,f⟩
def nQ(h:w.heap[b]?=some (.cells cur e))(d:cur.toList.take n=xs)(c:xs[i]?=some v):w.cell? ⟨b,0+i,none⟩=some v:=by
 refine(aU (o:=0+i) h).trans ?_;rw[<-d,List.getElem?_take]at c;split at c
 .rw[Nat.zero_add,<-Array.getElem?_toList]
  exact c
 .cases c
def Ek{xs:List Int}(h:w.heap[b]?=some (.cells cur e))(c:cur.toList.take n=xs.map gi)(f:xs.length=n):gn w b 0 n (λk=>xs.getD k 0):=λk d=>by refine nQ h c ?_;rw[List.getElem?_map,List.getElem?_eq_getElem U];simp[gi,List.getD_eq_getElem?_getD,List.getElem?_eq_getElem (show k<xs.length by omega)]
def As(K:Nat):∀(rs:List mh) (i:Nat) (r:mh),rs[i]?=some r->(mJ K rs)[i*2]?=some (ah r.bV)/\(mJ K rs)[i*2+1]?=some (.slice (some ⟨r.dj,0,none⟩) K r.cq)
 | [],i,r,h=>by simp at h
 |a::rs,0,r,h=>by simp at h;subst h;exact⟨rfl,rfl⟩
 |a::rs,i+1,r,h=>by have:=As K rs i r (by simpa using h);have e:mJ K (a::rs)=ah a.bV::.slice (some ⟨a.dj,0,none⟩) K a.cq::mJ K rs:=rfl;rw[e,show(i+1)*2=i*2+1+1 by omega];simpa using this
def pW{α:Type}[Inhabited α]{l:List α}(h:i<l.length):l[i]?=some (l.getD i default):=by rw[List.getD_eq_getElem?_getD,List.getElem?_eq_getElem h];rfl
def LZ{K cA S6 dq dc:Nat}{D E:Array Value}{xs:List Int}{rs:List mh}{f:List Nat}{z:Option Addr}(P:1<=K/\K<=3)(hF:w.heap[u]?=some (.cells D 3))(M:D.toList.take K=xs.map gi)(J:xs.length=K)(X:∀x∈xs,0<=x/\x<=9)(F:w.heap[S6]?=some (.cells E 27))(G:E.toList.take (rs.length*2)=mJ K rs)(W:1<=rs.length/\rs.length<=3)(hp:∀r∈rs,BJ w K r/\r.dj≠T)(C:∀r∈rs,r.bV<=4/\r.cQ.length=K/\∀x∈r.cQ,0<=x/\x<=9)(Q:rs.Pairwise (λa b=>a.bV<b.bV))(Y:∀r,rs[0]?=some r->r.bV=0)(I:f.length≠0->∃g cur,z=some ⟨g,0,none⟩/\g≠T/\w.heap[g]?=some (.cells cur 3)/\cur.toList.take f.length=f.map λ(x:Nat)=>gi x)(S:f.length<=5)(hd:f.Pairwise (· < ·))(R:∀x∈f,x<5)(H:u≠T/\S6≠T):
 ∃d p,cC.ok d/\dv d p=#[ah K,.slice (some ⟨u,0,none⟩) K cA,.slice (some ⟨S6,0,none⟩) rs.length dq,.slice z f.length dc]/\e' w d p/\p.off d T:=by
 have q:∀i,i<rs.length->rs.getD i default∈rs:=λi c=>hk (pW c)
 have V:∀i,i<f.length->f.getD i default∈f:=λi c=>hk (pW c)
 refine⟨⟨K,λk=>xs.getD k 0,rs.length,λi=>((rs.getD i default).bV:Int),λi k=>(rs.getD i default).cQ.getD k 0,f.length,λi=>((f.getD i default:Nat):Int)⟩,
  ⟨u,0,cA,S6,0,dq,λi=>(rs.getD i default).dj,λ_=>0,λi=>(rs.getD i default).cq,z,dc⟩,⟨P,λk j=>?_,W,?_,λi c=>?_,λi c=>?_,λi c k j=>?_,S,λi c=>?_,λi c=>?_⟩,rfl,⟨Ek hF M J,λi c=>?_,λi c=>?_,λi c=>?_,λB=>?_⟩,⟨H.1,H.2,λi c=>(hp _ (q i c)).2,λb o B e=>?_⟩⟩
 .have j:k<xs.length:=by rw[J];exact j
  exact X _ (hk (pW j))
 .have:=Y _ (pW (show 0<rs.length by omega))
  show(((rs.getD 0 default).bV:Nat):Int)=0;rw[this];rfl
 .have:=(C _ (q i c)).1
  show 0<=(((rs.getD i default).bV:Nat):Int)/\(((rs.getD i default).bV:Nat):Int)<=4;omega
 .have c:i+1<rs.length:=c
  have h:=List.pairwise_iff_getElem.1 Q i (i+1) U c U;show(((rs.getD i default).bV:Nat):Int)<(((rs.getD (i+1) default).bV:Nat):Int);rw[List.getD_eq_getElem?_getD,List.getD_eq_getElem?_getD,List.getElem?_eq_getElem (show i<rs.length by omega),List.getElem?_eq_getElem c];simp only[Option.getD_some];omega
 .obtain⟨_,h,l⟩:=C _ (q i c)
  have j:k<(rs.getD i default).cQ.length:=by rw[h];exact j
  exact l _ (hk (pW j))
 .have:=R _ (V i c)
  show 0<=((f.getD i default:Nat):Int)/\((f.getD i default:Nat):Int)<=4;omega
 .have c:i+1<f.length:=c
  have h:=List.pairwise_iff_getElem.1 hd i (i+1) U c U;show((f.getD i default:Nat):Int)<((f.getD (i+1) default:Nat):Int);rw[List.getD_eq_getElem?_getD,List.getD_eq_getElem?_getD,List.getElem?_eq_getElem (show i<f.length by omega),List.getElem?_eq_getElem c];simp only[Option.getD_some];omega
 .exact nQ F G (As K rs i _ (pW c)).1
 .show w.cell? ⟨S6,0+i*2+1,none⟩=_
  rw[Nat.add_assoc];exact nQ F G (As K rs i _ (pW c)).2
 .obtain⟨⟨cur,h,l⟩,_⟩:=hp _ (q i c)
  exact Ek h l (C _ (q i c)).2.1
 .obtain⟨g,cur,h,_,l,L⟩:=I B
  refine⟨g,0,h,λk j=>nQ l L ?_⟩;rw[List.getElem?_map,pW j];rfl
 .obtain⟨g,cur,h,l,_⟩:=I B
  have e:z=some ⟨b,o,none⟩:=e;rw[h]at e;cases e;exact l
def K0{wd:World}(h:w.grownBy d (some T))(x:cp (λi=>i=T\/i=b) d wd)(y:cp (λi=>i=T\/i=b) wd wr)(g:w.heap.size<=b):w.grownBy wr (some T):=by have z:=x.trans y;refine⟨z.os.trans h.os,z.tape.trans h.tape,z.output.trans h.output,cL h.size z.size,λi f c=>?_⟩;have:=h.size;exact(z.block i U (λe=>e.elim (λe=>c (by rw[e])) (λe=>U))).trans (h.block i f c)
def sj(w:World)(c:Nat)(a b d e:Value):World:=(((w.setCell ⟨c,0,none⟩ a).setCell ⟨c,1,none⟩ b).setCell ⟨c,2,none⟩ d).setCell ⟨c,3,none⟩ e
def C4{c:Nat}{b d e:Value}(h:i≠c):(sj w c a b d e).heap[i]?=w.heap[i]?:=
 (e1 (by exact h)).trans ((e1 (by exact h)).trans ((e1 (by exact h)).trans (e1 (by exact h))))
def KC{row:Option Nat}{c:Nat}{b d e:Value}(h:aL.grownBy w row)(j:aL.heap.size<=c):aL.grownBy (sj w c a b d e) row:=
 ⟨h.os,h.tape,h.output,by simpa [sj]using h.size,λi f g=>(C4 U).trans (h.block i f g)⟩
def KB{c:Nat}{b d e:Value}{q j i g:Value}(h:w.heap[c]?=some (.cells #[q,j,i,g] f)):(sj w c a b d e).heap[c]?=some (.cells #[a,b,d,e] f):=by have l:(w.setCell ⟨c,0,none⟩ a).heap[c]?=some (.cells #[a,j,i,g] f):=cU h;have o:((w.setCell ⟨c,0,none⟩ a).setCell ⟨c,1,none⟩ b).heap[c]?=some (.cells #[a,b,i,g] f):=cU l;have p:(((w.setCell ⟨c,0,none⟩ a).setCell ⟨c,1,none⟩ b).setCell ⟨c,2,none⟩ d).heap[c]?=some (.cells #[a,b,d,g] f):=cU o;exact cU p
end
end Go.aO
