/- A part; no conditions. -/
import Derived.Test.YtkifbmfagkjikaaGreatDoorP38
import Derived.Maps.AppendAt
set_option maxHeartbeats 8000000
set_option maxRecDepth 100000
set_option linter.all false
namespace Go.aO
open Go.Proofs Go.RowKit
variable{T b n o:Nat}{f:Nat->Int}{q:Option Addr}{v:Value}{W aL w w' w3:World}{d:dw}{p:gz}
section
variable{A:Array Func}
def iV(T:Nat)(w:World):World:={w with heap:=w.heap.setIfInBounds T (.cells #[] 0)}
def ma(h:b≠T):(iV T w).heap[b]?=w.heap[b]?:=h7 (λe=>h e.symm)
def vd:(iV T w).heap.size=w.heap.size:=by simp[iV]
def Se(h:(iV T w).cell? ⟨b,o,none⟩=some v):b≠T:=by
 rintro rfl;unfold World.cell? at h;dsimp only at h;split at h
 .rename_i c e g hd
  have d:=bu hd;rw[vd]at d;rw[show(iV b w).heap[b]?=_ from iO d]at hd;cases hd;simp at h
 .cases h
def Bu(h:(iV T w).cell? ⟨b,o,none⟩=some v):w.cell? ⟨b,o,none⟩=some v:=
 (World.cell?_of_block (ma (Se h)).symm).trans h
def Bv(g:w.grownBy w' (some T)):(iV T w).grownBy (iV T w') none:=
 ⟨g.os,g.tape,g.output,by rw[vd,vd];exact g.size,λi c _=>by
  rw[vd]at c;have:=g.size;rcases Classical.em (i=T)with rfl|h
  .rw[show(iV i w').heap[i]?=_ from iO U,show(iV i w).heap[i]?=_ from iO c]
  .rw[ma h,ma h]
   exact g.block i c (λe=>h (bD e))⟩
def wE(g:w.grownBy w' none)(T:Option Nat):w.grownBy w' T:=⟨g.os,g.tape,g.output,g.size,λi c _=>g.block i c aF⟩
def SV(g:w.grownBy w' none)(h:w.heap.size<=T):w.grownBy (iV T w') none:=
 ⟨g.os,g.tape,g.output,by rw[vd];exact g.size,λi c d=>by rw[ma U];exact g.block i c d⟩
def kU.un(h:kU (iV T w) q n f):kU w q n f:=λd=>by obtain⟨b,o,e,k⟩:=h d;exact⟨b,o,e,λj c=>Bu (k j c)⟩
def iZ.un(h:iZ (iV T w) d p):iZ w d p where
 first:=h.first.un
 kM f:=by obtain⟨b,o,e,k⟩:=h.kM f;exact⟨b,o,e,λi c=>⟨Bu (k i c).1,Bu (k i c).2⟩⟩
 cQ i c:=(h.cQ i c).un
 free:=h.free.un
def e'.iV{D:cC}{P:eg}(h:e' w D P)(o:P.off D T):e' (iV T w) D P where
 first:=h.first.lK (ma o.F)
 bV i c:=(World.cell?_of_block (ma o.R)).trans (h.bV i c)
 rows i c:=(World.cell?_of_block (ma o.R)).trans (h.rows i c)
 cQ i c:=(h.cQ i c).lK (ma (o.P i c))
 free d:=by obtain⟨b,f,e,k⟩:=h.free d;exact⟨b,f,e,k.lK (ma (o.h4 b f d e))⟩
def dw.plus(d:dw)(r:Int)(n:Nat)(f:Nat->Int):dw:={d with bk:=d.bk+1,bV:=λi=>if i=d.bk then r else d.bV i,eP:=λi=>if i=d.bk then n else d.eP i,cQ:=λi=>if i=d.bk then f else d.cQ i}
def gz.plus(p:gz)(d:dw)(g:Nat)(c:Nat)(q:Option Addr)(f:Nat):gz:={p with hH:=some ⟨g,0,none⟩,dq:=c,fh:=λi=>if i=d.bk then q else p.fh i,cq:=λi=>if i=d.bk then f else p.cq i}
def qx.plus{g c u:Nat}{cur:Array Value}{r:Int}(K:qx aL d p w3)(T:∀x,x<w3.heap.size->aL.heap.size<=x->(Value.slice p.hH d.bk p.dq).ownBlock≠some x->W.heap[x]?=w3.heap[x]?)(l:W.heap[g]?=some (.cells cur 27))(w:cur.toList.take ((d.bk+1)*2)=iR d (λi=>((p.fh i).map (·.block)).getD 0) p.cq d.bk++[.int .i64 r,.slice q n u])(V:kU W q n f):
 iZ W (d.plus r n f) (p.plus d g c q u):=by
 obtain⟨⟨P,I,hF,X⟩,⟨Q,J,R,Y⟩,L⟩:=K.plain;have H:∀{b m:Nat} {z:Nat->Int},gn w3 b 0 m z->aL.heap.size<=b->(Value.slice p.hH d.bk p.dq).ownBlock≠some b->gn W b 0 m z:=λ{b m z} h G l=>by intro j S;have w:=h j S;exact(World.cell?_of_block (T b (lD w) G l)).trans w
 refine⟨λC=>?_,λ_=>?_,λi B=>?_,λC=>?_⟩
 .obtain⟨b,o,e,k⟩:=K.raw.first C
  rw[I]at e;cases e;exact⟨P,0,I,H k hF X⟩
 .refine⟨g,0,rfl,λi B=>?_⟩
  have M:=Aw d (λi=>((p.fh i).map (·.block)).getD 0) p.cq d.bk;have B:i<d.bk+1:=B;by_cases y:i=d.bk
  .subst y
   have E:(iR d (λi=>((p.fh i).map (·.block)).getD 0) p.cq d.bk++[Value.int .i64 r,.slice q n u])[d.bk*2]?=some (.int .i64 r):=by rw[jb U,M,Nat.sub_self];rfl
   have F:(iR d (λi=>((p.fh i).map (·.block)).getD 0) p.cq d.bk++[Value.int .i64 r,.slice q n u])[d.bk*2+1]?=some (.slice q n u):=by rw[jb U,M,Nat.add_sub_cancel_left];rfl
   refine⟨(nQ l w E).trans ?_,?_⟩
   .simp[dw.plus]
   .rw[Nat.add_assoc]
    refine(nQ l w F).trans ?_;simp[dw.plus,gz.plus]
  .obtain⟨b,D,_,_⟩:=L i U
   have e:=xy d (λi=>((p.fh i).map (·.block)).getD 0) p.cq d.bk i U;have E:(iR d (λi=>((p.fh i).map (·.block)).getD 0) p.cq d.bk++[Value.int .i64 r,.slice q n u])[i*2]?=some (.int .i64 (d.bV i)):=by rw[jz U];exact e.1
   have F:(iR d (λi=>((p.fh i).map (·.block)).getD 0) p.cq d.bk++[Value.int .i64 r,.slice q n u])[i*2+1]?=some (.slice (p.fh i) (d.eP i) (p.cq i)):=by rw[jz U,e.2,D];rfl
   refine⟨(nQ l w E).trans ?_,?_⟩
   .simp[dw.plus,y]
   .rw[Nat.add_assoc]
    refine(nQ l w F).trans ?_;simp[dw.plus,gz.plus,y]
 .have B:i<d.bk+1:=B
  by_cases y:i=d.bk
  .simpa [dw.plus,gz.plus,y]using V
  .obtain⟨b,D,G,l⟩:=L i U
   have k:=K.raw.cQ i U;show kU W (if i=d.bk then q else p.fh i) (if i=d.bk then n else d.eP i) (if i=d.bk then f else d.cQ i);simp only[if_neg y];intro C;obtain⟨Z,o,e,k⟩:=k C;rw[D]at e;cases e;exact⟨b,0,D,H k G l⟩
 .obtain⟨b,o,e,k⟩:=K.raw.free C
  rw[J]at e;cases e;exact⟨Q,0,J,H k R Y⟩
def qx.days{m a c:Nat}{z:Nat->Int}(K:qx aL d p w3)(n:∀x,x<w3.heap.size->aL.heap.size<=x->W.heap[x]?=w3.heap[x]?)(F:gn W a 0 m z):iZ W {d with b':=m,free:=z} {p with ei:=some ⟨a,0,none⟩,dc:=c}:=by
 obtain⟨⟨r,y,hF,M⟩,_,E⟩:=K.plain;refine⟨λf=>?_,λf=>?_,λi h f=>?_,λ_=>⟨a,0,rfl,F⟩⟩
 .obtain⟨b,o,e,k⟩:=K.raw.first f
  rw[y]at e;cases e;exact⟨r,0,y,λj l=>(World.cell?_of_block (n r (lD (k j l)) hF)).trans (k j l)⟩
 .obtain⟨g,H,cur,e,C,q,L⟩:=xk K.own f
  obtain⟨b,o,u,k⟩:=K.raw.kM f;injection e with w I J
  rw[w]at u;cases u;exact⟨g,0,w,λi h=>⟨(World.cell?_of_block (n g (bu q) C)).trans (k i h).1,(World.cell?_of_block (n g (bu q) C)).trans (k i h).2⟩⟩
 .obtain⟨b,B,D,q⟩:=E i h
  obtain⟨G,o,e,k⟩:=K.raw.cQ i h f;rw[B]at e;cases e;exact⟨b,0,B,λj l=>(World.cell?_of_block (n b (lD (k j l)) D)).trans (k j l)⟩
def Hq(w w':World)(T:Nat)(L:Value)(d:dw)(p:gz)(B:Nat):Prop:=∃(g':Nat) (D:cC) (P:eg) (d2:dw) (c:gz),D.ok/\d2.small/\e' (iV T w') D P/\iZ (iV T w') d2 c/\B≠T/\
 w'.heap[B]?=some (.cells (eB d p++eB D.raw P.raw++eB d2 c) 25)/\g'<=1000/\fS w' T L g'/\w.grownBy w' (some T)
def S1[S:Std A](T g:Nat)(L:Value)(cK:g<=10)(d:dw)(bF:d.small)(p:gz)(r:Int)(q:Option Addr)(n F:Nat)(f:Nat->Int)(cN:n<=20)(w:World)(h:iZ (iV T w) d p)(ah:kU (iV T w) q n f)(av:fS w T L g):
 Calls (ao A) 7 #[.agg (eB d p),.agg #[.int .i64 r,.slice q n F],.pointer (some ⟨T,0,none⟩)] w λe w'=>∃B:Nat,e=.returned (.slice (some ⟨B,0,none⟩) 3 3)/\Hq w w' T L d p B:=by
 have ch:=av.lt;obtain⟨I,X⟩:∃I,(w.alloc (.cells (eB d p) 25)).alloc (.cells #[.int .i64 r,.slice q n F] 27)=I:=⟨_,rfl⟩
 have aL:w.grownBy I none:=by rw[<-X];exact bT.trans bT
 have bK:I.heap.size=w.heap.size+2:=by rw[<-X];simp
 have a5:I.heap[w.heap.size]?=some (.cells (eB d p) 25):=by rw[<-X];exact(dm aF).trans (fM _ _)
 have a7:I.heap[w.heap.size+1]?=some (.cells #[.int .i64 r,.slice q n F] 27):=by rw[<-X,show w.heap.size+1=(w.alloc (.cells (eB d p) 25)).heap.size by simp];exact fM _ _
 have bM:=al a5;have bN:=al a7;have b4:=al (show fS I T L g from av.keep λb aO=>aL.block b aO aF);have a3:=al aL;have ap:=al bK;have bQ:=al X;have b1:=al h;have b0:=al ah;have bZ:=al av.nm;clear aL bK a5 a7 X h ah av;go_enter (S.f Tryz.func7),Tryz.ntmps7;go_upto_region 1 with fail
 have aN:=bQ.out;dsimp only[eB]at aN;rw[aN];clear aN;go_upto_region 3 with(first
  |(go_at_call 24;refine(Q6 (A:=A) T g L U I b4.out).mono ?_;rintro e w2 ⟨D,P,ae,ok,rfl,bh,bs,cM,bv,bn⟩;have aB:=al bn;have b5:=al bv;have aI:=al bh;have a4:=al bs;have E:=al ok;clear bn bv bh bs ok)
  |(go_at_call 8;refine(Le (A:=A) D.raw (cC.rl E.out) P.raw _ ((aI.out.keep bT).raw)).mono ?_;rintro e w3 ⟨j,rfl,bg,bo⟩;have aC:=al bo;have bY:=al bg;clear bo bg))
 have bH:w.heap.size+2<=w2.heap.size:=by have:=aB.out.size;have:=ap.out;omega
 have bI:w2.heap.size+1<=w3.heap.size:=by have:=aC.out.size;simpa using this
 have aK:=fM w3 (.cells (eB D.raw j) 25);have aM:=dU w3 (.cells (eB D.raw j) 25) none;dsimp only[eB]at aK aM;generalize ar:World.alloc w3 _=J at *;have bJ:J.heap.size=w3.heap.size+1:=by rw[<-ar];simp
 have aV:∀x,x<w3.heap.size->J.heap[x]?=w3.heap[x]?:=λx aT=>by rw[<-ar];exact dm aT
 have af:=(dU w2 (.cells (eB D.raw P.raw) 25) none).trans (aC.out.trans aM);have a8:J.heap[w2.heap.size]?=some (.cells (eB D.raw P.raw) 25):=(aV _ U).trans ((aC.out.block _ aF aF).trans (fM _ _));have t4:fS J T L ae:=b5.out.keep λb aO=>af.block b aO aF
 have bG:e' (iV T J) D P:=(aI.out.keep af).iV a4.out;have bd:I.grownBy J (some T):=aB.out.trans (wE af _);have cI:=al ar;have M:=al (And.intro bH (And.intro bI bJ));have aG:=al aV;have bO:=al a8;have bP:=al aK;have b6:=al t4;have cH:=al bG;have bS:=al bd;have bV:=al af;clear bH bI bJ ar aV a8 aK t4 bG bd af aM;go_upto_if 14 with(go_at_call 25;refine(E1 (A:=A) T ae L U 2 U J b6.out).mono ?_;rintro e c ⟨cg,rfl,bw,bq⟩;have b7:=al bw;have ak:=al bq;clear bw bq)
 have ci:=ch;have aw:∀x,x<J.heap.size->x≠T->c.heap[x]?=J.heap[x]?:=λx m y=>ak.out.block x m (λe=>y (bD e))
 have b8:=ak.out.size;have bb:c.heap[w3.heap.size]?=some (.cells (eB D.raw j) 25):=(aw _ (by have:=M.out;omega) (by have:=M.out;omega)).trans bP.out;have ba:c.heap[w2.heap.size]?=some (.cells (eB D.raw P.raw) 25):=(aw _ (by have:=M.out;omega) (by have:=M.out;omega)).trans bO.out;have aq:=bS.out.trans ak.out;have c3:c.heap[w.heap.size]?=some (.cells (eB d p) 25):=(aq.block _ (by have:=ap.out;omega) (λe=>by have:=bD e;omega)).trans bM.out;have a9:c.heap[w.heap.size+1]?=some (.cells #[.int .i64 r,.slice q n F] 27):=(aq.block _ (by have:=ap.out;omega) (λe=>by have:=bD e;omega)).trans bN.out;have aD:=al aw;have ay:=al bb;have aZ:=al ba;have ax:=al c3;have aY:=al a9;have bU:=al ((wE a3.out (some T)).trans aq);clear aw aq;obtain⟨wk,aS⟩:∃wk,w2.alloc (.cells (eB D.raw P.raw) 25)=wk:=⟨_,rfl⟩
 have aX:wk.heap.size=w2.heap.size+1:=by rw[<-aS];simp
 have am:=al (show qx wk D.raw j w3 by rw[<-aS];exact bY.out);have aJ:=al aX;have cO:=E.out.bk;have a2:=al (show ∀W:World,(∀x,x<w3.heap.size->x≠T->x<wk.heap.size->W.heap[x]?=c.heap[x]?)->W.heap[T]?=c.heap[T]?->W.os=c.os/\W.tape=c.tape/\W.output=c.output/\c.heap.size<=W.heap.size->w.grownBy W (some T)/\fS W T L (ae+1)/\e' (iV T W) D P from λW m y C=>by
  have x:=M.out;have cT:=b8;have aX:=aJ.out;have cP:=ap.out;have ag:w2.grownBy c (some T):=(wE bV.out _).trans ak.out;have bf:w2.grownBy W (some T):=⟨C.1.trans ag.os,C.2.1.trans ag.tape,C.2.2.1.trans ag.output,cL ag.size C.2.2.2,λi ck ah=>(m i U (λe=>ah (by rw[e])) U).trans (ag.block i ck ah)⟩
  have GW:w.grownBy W (some T):=((wE a3.out (some T)).trans aB.out).trans bf;obtain⟨s,cm,cn⟩:=b7.out.blk;exact⟨GW,⟨⟨s,y.trans cm,cn⟩,bZ.out.keep GW⟩,(aI.out.iV a4.out).keep (Bv bf)⟩)
 clear ci bb ba c3 a9 aX aS;cases cg
 case false=>
  have aT:=M.out;have bE:iZ c d p:=(b1.out.keep (Bv bU.out)).un;have bR:=al bE.free;have cJ:=bF.h4;have cq:c.cell? ⟨w.heap.size,3,none⟩=some (.slice p.ei d.b' p.dc):=(aU (o:=3) ax.out).trans rfl;clear bE;go_upto_region 6 with(go_at_call 26;refine(wP (A:=A) p.ei d.b' p.dc d.free U c bR.out).mono ?_;rintro e l ⟨z,⟨bp,rfl⟩,bi,bj,bk,aQ⟩;have az:=al (And.intro bi (And.intro bj bk));have Y:=al aQ;have H:=(aQ.block _ U aF).trans ay.out;have aW:=aU (o:=3) H;have f3:=b3 (o:=3) H;have aA:=al H;clear bi bj bk aQ H)
  clear cq aW f3;have d8:(l.setCell ⟨w3.heap.size,3,none⟩ (.slice (some ⟨z,0,none⟩) d.b' bp)).heap[w3.heap.size]?=some (.cells (eB {D.raw with b':=d.b',free:=d.free} {j with ei:=some ⟨z,0,none⟩,dc:=bp}) 25):=cU aA.out;have au:=Y.out.size;have cb:∀x,x<c.heap.size->x≠w3.heap.size->(l.setCell ⟨w3.heap.size,3,none⟩ (.slice (some ⟨z,0,none⟩) d.b' bp)).heap[x]?=c.heap[x]?:=λx m y=>(e1 (by show x≠w3.heap.size;exact y)).trans (Y.out.block x m aF)
  have d3:=(cb w.heap.size U U).trans ax.out;have d7:=(cb w2.heap.size U U).trans aZ.out;have aj:(l.setCell ⟨w3.heap.size,3,none⟩ (.slice (some ⟨z,0,none⟩) d.b' bp)).heap.size=l.heap.size:=aF;have bC:gn (l.setCell ⟨w3.heap.size,3,none⟩ (.slice (some ⟨z,0,none⟩) d.b' bp)) z 0 d.b' d.free:=az.out.2.2.lK (e1 (by show z≠w3.heap.size;have:=az.out.1;omega));have ai:(l.setCell ⟨w3.heap.size,3,none⟩ (.slice (some ⟨z,0,none⟩) d.b' bp)).os=c.os/\(l.setCell ⟨w3.heap.size,3,none⟩ (.slice (some ⟨z,0,none⟩) d.b' bp)).tape=c.tape/\(l.setCell ⟨w3.heap.size,3,none⟩ (.slice (some ⟨z,0,none⟩) d.b' bp)).output=c.output:=⟨Y.out.os,Y.out.tape,Y.out.output⟩
  generalize World.setCell l _ _=ad at *;have cr:=(aU (o:=0) d3).trans rfl;have ct:=(aU (o:=1) d3).trans rfl;have cu:=(aU (o:=2) d3).trans rfl;have cv:=(aU (o:=3) d3).trans rfl;have cy:=(aU (o:=0) d7).trans rfl;have cz:=(aU (o:=1) d7).trans rfl;have cA:=(aU (o:=2) d7).trans rfl;have cB:=(aU (o:=3) d7).trans rfl;have cD:=(aU (o:=0) d8).trans rfl;have cE:=(aU (o:=1) d8).trans rfl;have cF:=(aU (o:=2) d8).trans rfl;have cG:=(aU (o:=3) d8).trans rfl;have aa:=al aj;have aE:=al cb;have ce:=al bC;have Q:=al ai;clear aj cb bC ai d3 d7 d8;go_wp2;go_ret;have V:∀(o:Obj) x,x<c.heap.size->x≠w3.heap.size->(ad.alloc o).heap[x]?=c.heap[x]?:=λo x m y=>(dm (by have:=aa.out;omega)).trans (aE.out x m y)
  have K:=λo:Obj=>a2.out (ad.alloc o) (λx m y _=>V o x U U) (V o T U U) ⟨Q.out.1,Q.out.2.1,Q.out.2.2,by have:=aa.out;simp only[cV];omega⟩
  refine⟨_,rfl,ae+1,D,P,{D.raw with b':=d.b',free:=d.free},{j with ei:=some ⟨z,0,none⟩,dc:=bp},E.out,⟨(cC.rl E.out).F,(cC.rl E.out).R,bF.h4,(cC.rl E.out).P⟩,(K _).2.2,?_,?_,fM _ _,U,(K _).2.1,(K _).1⟩
  .refine am.out.days (λx m y=>?_) ?_
   .have:=aJ.out
    rw[ma U];exact(V _ x U U).trans ((aD.out x U U).trans (aG.out x m))
   .have:=az.out.1
    exact(ce.out.keep (dU _ _ none) aF).lK (ma U)
  .have:=aa.out;omega
 case true=>
  have aT:=M.out;have cQ:=aJ.out;obtain⟨co,br,bz,bA,bB⟩:=zz (A:=A);have bX:=al br;have b9:=al bz;have ca:=al bA;have cc:=al bB;have cf:=al (show(c.alloc (.cells #[.int .i64 r,.slice q n F] 27)).ownsRow wk.heap.size 27 2 (.slice j.hH D.bk j.dq) D.bk (iR D.raw (λi=>((j.fh i).map (·.block)).getD 0) j.cq D.bk)from j4 am.out.own (λx m y=>(dm U).trans ((aD.out x U U).trans (aG.out x y))));have aH:=al (show ∀r,(Value.slice j.hH D.bk j.dq).ownBlock=some r->wk.heap.size<=r/\r<w3.heap.size from λr e=>rh am.out.own r e);have cp:c.cell? ⟨w3.heap.size,2,none⟩=some (.slice j.hH D.bk j.dq):=(aU (o:=2) ay.out).trans rfl;have cw:c.cell? ⟨w.heap.size+1,0,none⟩=some (.int .i64 r):=(aU (o:=0) aY.out).trans rfl;have cx:c.cell? ⟨w.heap.size+1,1,none⟩=some (.slice q n F):=(aU (o:=1) aY.out).trans rfl;clear br bz bA bB;go_upto_region 6 with(at_builtin;refine wpList_append_own_at _ rfl _ _ 23 rfl wk.heap.size 27 co (.agg #[.int .i64 0,.slice none 0 0]) 2 32 (ao.underlying23 A) bX.out b9.out ca.out cc.out rfl a6 _ D.bk _ rfl cf.out ⟨c.heap.size,0,none⟩ 1 1 [.int .i64 r,.slice q n F] rfl rfl (World.news_of_block (cs:=#[.int .i64 r,.slice q n F]) (t:=27) (fr:=(0,0)) (heap_alloc_new c _)) (by simp[Value.oneCell']) kj U (by simp only[cV];omega) ?_;intro cS l bt aR cl bl;obtain⟨u,G,cur,rfl,cj,bm,bx⟩:=xk bt U;have H:l.heap[w3.heap.size]?=some (.cells (eB D.raw j) 25):=(aR.block _ (by simp only[cV];omega) (λe=>by have:=(aH.out _ e.symm).2;omega)).trans ((dm U).trans ay.out);have aW:=aU (o:=2) H;have f3:=b3 (o:=2) H;have Z:=al aR;have bL:=al bl;have a1:=al (And.intro bm bx);have aA:=al H;clear bt aR cl bl cj bm bx H)
  clear cp cw cx aW f3;have R:=aH.out;have aP:u≠w3.heap.size/\u≠w.heap.size/\u≠w2.heap.size/\u≠T:=by
   rcases bL.out with h|h
   .have:=R u h.symm;omega
   .have h:some u=some (c.alloc _).heap.size:=h
    have h:=bD h;rw[cV]at h;omega
  have d8:(l.setCell ⟨w3.heap.size,2,none⟩ (.slice (some ⟨u,0,none⟩) (D.bk+1) G)).heap[w3.heap.size]?=some (.cells (eB (D.raw.plus r n f) (j.plus D.raw u G q F)) 25):=cU aA.out;have au:=Z.out.size;have cb:∀x,x<c.heap.size->x≠w3.heap.size->(Value.slice j.hH D.bk j.dq).ownBlock≠some x->(l.setCell ⟨w3.heap.size,2,none⟩ (.slice (some ⟨u,0,none⟩) (D.bk+1) G)).heap[x]?=c.heap[x]?:=λx m y C=>(e1 (by show x≠w3.heap.size;exact y)).trans ((Z.out.block x (by simp only[cV];omega) (λe=>C e.symm)).trans (dm m))
  have d3:=(cb w.heap.size U U (λe=>by have:=R _ e;omega)).trans ax.out;have d7:=(cb w2.heap.size U U (λe=>by have:=R _ e;omega)).trans aZ.out;have aj:(l.setCell ⟨w3.heap.size,2,none⟩ (.slice (some ⟨u,0,none⟩) (D.bk+1) G)).heap.size=l.heap.size:=aF;have bc:(l.setCell ⟨w3.heap.size,2,none⟩ (.slice (some ⟨u,0,none⟩) (D.bk+1) G)).heap[u]?=some (.cells cur 27):=(e1 (by show u≠w3.heap.size;exact aP.1)).trans a1.out.1;have ai:(l.setCell ⟨w3.heap.size,2,none⟩ (.slice (some ⟨u,0,none⟩) (D.bk+1) G)).os=c.os/\(l.setCell ⟨w3.heap.size,2,none⟩ (.slice (some ⟨u,0,none⟩) (D.bk+1) G)).tape=c.tape/\(l.setCell ⟨w3.heap.size,2,none⟩ (.slice (some ⟨u,0,none⟩) (D.bk+1) G)).output=c.output:=⟨Z.out.os,Z.out.tape,Z.out.output⟩
  generalize World.setCell l _ _=ad at *;have cr:=(aU (o:=0) d3).trans rfl;have ct:=(aU (o:=1) d3).trans rfl;have cu:=(aU (o:=2) d3).trans rfl;have cv:=(aU (o:=3) d3).trans rfl;have cy:=(aU (o:=0) d7).trans rfl;have cz:=(aU (o:=1) d7).trans rfl;have cA:=(aU (o:=2) d7).trans rfl;have cB:=(aU (o:=3) d7).trans rfl;have cD:=(aU (o:=0) d8).trans rfl;have cE:=(aU (o:=1) d8).trans rfl;have cF:=(aU (o:=2) d8).trans rfl;have cG:=(aU (o:=3) d8).trans rfl;have aa:=al aj;have aE:=al cb;have a0:=al bc;have Q:=al ai;have b2:=al au;have bW:=al aP;clear aj cb bc ai d3 d7 d8 R aP au;go_wp2;go_ret;have au:c.heap.size+1<=l.heap.size:=by have:=b2.out;simpa using this
  have cR:=aa.out;have R:=aH.out;have V:∀(o:Obj) x,x<c.heap.size->x≠w3.heap.size->(Value.slice j.hH D.bk j.dq).ownBlock≠some x->(ad.alloc o).heap[x]?=c.heap[x]?:=λo x m y C=>(dm U).trans (aE.out x m y C)
  have K:=λo:Obj=>a2.out (ad.alloc o) (λx m y C=>V o x U U (λe=>by have:=R _ e;omega)) (V o T U U (λe=>by have:=R _ e;omega)) ⟨Q.out.1,Q.out.2.1,Q.out.2.2,by simp only[cV];omega⟩
  refine⟨_,rfl,ae+1,D,P,D.raw.plus r n f,j.plus D.raw u G q F,E.out,⟨(cC.rl E.out).F,by show D.bk+1<=20;omega,(cC.rl E.out).h4,λi _=>?_⟩,(K _).2.2,?_,?_,fM _ _,U,(K _).2.1,(K _).1⟩
  .show(if i=D.bk then n else D.kinds)<=20
   have:=E.out.kinds;split<;>omega
  .refine am.out.plus (λx m y C=>?_) ?_ a1.out.2 (b0.out.keep (Bv (K _).1))
   .rw[ma U]
    exact(V _ x U U C).trans ((aD.out x U U).trans (aG.out x m))
   .rw[ma bW.out.2.2.2]
    exact(dm (bu a0.out)).trans a0.out
  .omega
end
end Go.aO
