/- A part of FeeSums: no conditions. -/
import Derived.Test.YtjlbkajlmanedaaGreatDoorRSums2
set_option maxHeartbeats 8000000
set_option maxRecDepth 100000
set_option linter.all false
namespace Go.aO
open Go.Proofs Tryz Go.RowKit
section
variable{A:TJ}
def qx.iV{w w':S7}{d:dw}{p:gz}{T:Nat}(K:qx w d p w')(F:T<w.heap.size):iZ (iV T w') d p:=by
 let⟨⟨z,l,hF,_⟩,⟨B,m,y,_⟩,u⟩:=K.plain;have one:∀{q:TV} {n b:Nat} {f:Ty},kU w' q n f->q=some (Ti b)->w.heap.size<=b->kU (Go.aO.iV T w') q n f:=λ{q n b f} h e hb ak=>by let⟨aE,o,c,k⟩:=h ak;rw[e]at c;cases c;exact⟨b,0,e,k.lK (ma U)⟩
 refine⟨one K.raw.first l hF,λak=>?_,λi ad=>?_,one K.raw.free m y⟩
 .let⟨g,C,cur,e,hb,J,ax⟩:=xk K.own ak
  let⟨b,o,c,k⟩:=K.raw.kM ak;injection e with ay D E
  rw[ay]at c;cases c;have j:g≠T:=U;exact⟨g,0,ay,λi ad=>⟨(World.cell?_of_block (ma j)).trans (k i ad).1,(World.cell?_of_block (ma j)).trans (k i ad).2⟩⟩
 .let⟨b,r,I,_⟩:=u i ad
  exact one (K.raw.cQ i ad) r I
structure Vo(w:S7)(T:Nat)(U2:Nat->dw)(pp:Nat->gz)(B:Nat):Prop where
 small:∀i,(U2 i).small
 raw:∀i,iZ (iV T w) (U2 i) (pp i)
 cell:∀i,i<3->w.cell? (S8 B (i*4))=Tn (U2 i).kinds/\w.cell? (S8 B (i*4+1))=some (.slice (pp i).eh (U2 i).c' (pp i).cA)/\w.cell? (S8 B (i*4+2))=some (.slice (pp i).hH (U2 i).bk (pp i).dq)/\w.cell? (S8 B (i*4+3))=some (.slice (pp i).ei (U2 i).b' (pp i).dc)
 apart:B≠T
def Vo.keep{w w':S7}{T B:Nat}{c:Nat->dw}{d:Nat->gz}(h:Vo w T c d B)(g:w.grownBy w' (some T)):Vo w' T c d B:=by
 have hb:some B≠some T:=λe=>h.apart (bD e)
 exact⟨h.small,λi=>(h.raw i).keep (Bv g),λi ad=>⟨g.cell (h.cell i ad).1 hb,g.cell (h.cell i ad).2.1 hb,g.cell (h.cell i ad).2.2.1 hb,g.cell (h.cell i ad).2.2.2 hb⟩,h.apart⟩
def Hq.three{w w':S7}{T B:Nat}{L:S9}{d:dw}{p:gz}(h:Hq w w' T L d p B)(m:d.small)(au:iZ (iV T w) d p):∃(g':Nat) (D:cC) (P:eg) (d2:dw) (c:gz),D.ok/\e' (iV T w') D P/\Vo w' T (λi=>match i with|0=>d|1=>D.raw|_=>d2) (λi=>match i with|0=>p|1=>P.raw|_=>c) B/\g'<=1000/\fS w' T L g'/\w.grownBy w' (some T):=by
 obtain⟨g',D,P,d2,c,ok,s2,f,l,j,hb,ag,aA,g⟩:=h;refine⟨g',D,P,d2,c,ok,f,⟨λi=>?_,λi=>?_,λi ad=>?_,j⟩,ag,aA,g⟩
 .match i with
  | 0=>exact m
  | 1=>exact cC.rl ok
  |_+2=>exact s2
 .match i with
  | 0=>exact au.keep (Bv g)
  | 1=>exact f.raw
  |_+2=>exact l
 .match i,ad with
  | 0,_=>exact⟨(aU (o:=0) hb).trans S6,(aU (o:=1) hb).trans S6,(aU (o:=2) hb).trans S6,(aU (o:=3) hb).trans S6⟩
  | 1,_=>exact⟨(aU (o:=4) hb).trans S6,(aU (o:=5) hb).trans S6,(aU (o:=6) hb).trans S6,(aU (o:=7) hb).trans S6⟩
  | 2,_=>exact⟨(aU (o:=8) hb).trans S6,(aU (o:=9) hb).trans S6,(aU (o:=10) hb).trans S6,(aU (o:=11) hb).trans S6⟩
def Ut(s x:U1)(j:Nat):U1:=match j with|0=>s|_=>x
def h3.raw(s:h3):U1:=⟨s.k,s.lm,s.cj,s.fm,s.b5⟩
def US{w:S7}{b:Nat}{s x:U1}(h:w.heap[b]?=some (.cells (s.v++x.v) 31))(j:Nat)(aI:j<2):
 w.cell? (S8 b (j*5))=Tn (Ut s x j).k/\w.cell? (S8 b (j*5+1))=Tn (Ut s x j).a/\w.cell? (S8 b (j*5+2))=Tn (Ut s x j).b/\w.cell? (S8 b (j*5+3))=Tn (Ut s x j).c/\w.cell? (S8 b (j*5+4))=Tn (Ut s x j).e:=by
 rcases j with _|_|j
 .exact⟨(aU (o:=0) h).trans S6,(aU (o:=1) h).trans S6,(aU (o:=2) h).trans S6,(aU (o:=3) h).trans S6,(aU (o:=4) h).trans S6⟩
 .exact⟨(aU (o:=5) h).trans S6,(aU (o:=6) h).trans S6,(aU (o:=7) h).trans S6,(aU (o:=8) h).trans S6,(aU (o:=9) h).trans S6⟩
 .omega
abbrev UA(V:S7)(b o c f g:Nat)(d:dw)(p:gz):Prop:=V.cell? (S8 b o)=Tn d.kinds/\V.cell? (S8 b c)=some (.slice p.eh d.c' p.cA)/\V.cell? (S8 b f)=some (.slice p.hH d.bk p.dq)/\V.cell? (S8 b g)=some (.slice p.ei d.b' p.dc)
abbrev Uz(V:S7)(b o c d f g:Nat)(s:U1):Prop:=V.cell? (S8 b o)=Tn s.k/\V.cell? (S8 b c)=Tn s.a/\V.cell? (S8 b d)=Tn s.b/\V.cell? (S8 b f)=Tn s.c/\V.cell? (S8 b g)=Tn s.e
end
end Go.aO
namespace Go.aO
attribute [-simp] Go.Sem.runT_eq
open Go.ChangeShapes Go.WideShapes Go.ChangeAt Go.RowKit Go.Proofs Go.Conc Go.ConcN Go.Deep Go.Joins
open Go.ConcM (OsLater)
section
section
variable{H:Type}{enc:Tg×S9->H}{W:S7}{Tc:Nat}{v:S9}{d:DataW H}{e9:Tb MemPlace}
def VP{fuel:Nat}{cs:TP}{x:DataW H×Tb MemPlace}(h:DataW.trod enc Tryz.prog W 0 (λ_=>true) true fuel 29 cs=some x):∃a b,cs = [ah a,ah b]:=by
 let⟨⟨ba⟩,hu,aD⟩:=zg (t:=29) (l:=[(3,0),(3,1)]) av;match ba,aD with
 | [f0,f1],aD=>
  simp only[List.map_cons,List.map_nil,List.cons.injEq,Prod.mk.injEq,and_true]at aD;obtain⟨⟨t0,c⟩,t1,d⟩:=aD;let⟨f,g,n,_,aj,aT,I⟩:=trod_struct2 hu h;rw[show Tryz.prog.cellsOf 29=2 by kernel_rfl]at aj;match cs,aj with
  | [bx,c1],_=>
   rw[t0,c,g9.c3]at aT;rw[t1,d,g9.c3]at I;let⟨a,c8,_,_⟩:=DataW.trod_int g9.nE aT;let⟨b,ay,_,_⟩:=DataW.trod_int g9.nE I;have c8:[bx] = [ah a]:=c8;have ay:[c1] = [ah b]:=ay;cases c8;cases ay;exact⟨a,b,S6⟩
def WI{fuel:Nat}{cs:TP}{x:DataW H×Tb MemPlace}(h:DataW.trod enc Tryz.prog W 0 (λ_=>true) true fuel 31 cs=some x):∃s:U1,cs=s.v.toList:=by
 let⟨⟨ba⟩,hu,aD⟩:=zg (t:=31) (l:=[(3,0),(29,1),(29,3)]) av;match ba,aD with
 | [f0,f1,f2],aD=>
  simp only[List.map_cons,List.map_nil,List.cons.injEq,Prod.mk.injEq,and_true]at aD;obtain⟨⟨t0,f⟩,⟨t1,g⟩,t2,i⟩:=aD;let⟨j,m,o,n,_,aj,aT,I,J⟩:=trod_struct3 hu h;rw[show Tryz.prog.cellsOf 31=5 by kernel_rfl]at aj;match cs,aj with
  | [bx,c1,c2,c3,c4],_=>
   rw[t0,f,g9.c3]at aT;rw[t1,g,show Tryz.prog.cellsOf 29=2 by kernel_rfl]at I;rw[t2,i,show Tryz.prog.cellsOf 29=2 by kernel_rfl]at J;let⟨k,c8,_,_⟩:=DataW.trod_int g9.nE aT;let⟨a,b,ay⟩:=VP I;let⟨c,e,d⟩:=VP J;have c8:[bx] = [ah k]:=c8;have ay:[c1,c2] = [ah a,ah b]:=ay;have d:[c3,c4] = [ah c,ah e]:=d;cases c8;cases ay;cases d;exact⟨⟨k,a,b,c,e⟩,S6⟩
def V5(aJ:Value.okWide Tryz.prog W .any Tc 31 v)(h:DataW.Trod enc Tryz.prog W 0 (λ_=>true) true 31 v d e9):∃s:U1,v=.agg s.v:=by obtain⟨cs,rfl⟩:=Em (l:=[(3,0),(29,1),(29,3)]) av aJ;obtain⟨fuel,h⟩:=h;let⟨s,e⟩:=WI h;have e:cs.toList=s.v.toList:=e;exact⟨s,congrArg _ (Array.ext' e)⟩
end
end
end Go.aO
namespace Go.aO
open Go.Proofs Tryz Go.RowKit
section
variable{A:TJ}
def Wb[S:Std A][P:hA A][N:Hi A](dV:∀w,Calls (ao A) 5 #[] w λe w'=>e=.returned (.bool true)/\w=w')(d:dw)(p:gz)(r0:Int)(q:TV)(n G:Nat)(f:Ty)(s:U1)(bS:Int)(L:S9)(w:S7)(h:iZ w d p)(au:kU w q n f)(fD:∀w',w.grownBy w' none->ly w' L w'.heap.size)(ct:L.oneCell'=true):
 Calls (ao A) 3 #[.agg (eB d p),.agg #[ah r0,.slice q n G],.agg s.v,ah bS,L] w λe _=>e=.returned (.bool true):=by
 obtain⟨u,Q⟩:∃u,((w.alloc (.cells (eB d p) 25)).alloc (.cells #[ah r0,.slice q n G] 27)).alloc (.cells s.v 31)=u:=⟨_,S6⟩
 have aE:=U8 w (.cells (eB d p) 25) (.cells #[ah r0,.slice q n G] 27);have aQ:w.grownBy u none:=by rw[<-Q];exact aE.2.2.trans bT
 have bY:u.heap.size=w.heap.size+3:=by rw[<-Q];simp
 have bB:u.heap[w.heap.size]?=some (.cells (eB d p) 25):=by rw[<-Q];exact(dm cH).trans aE.1
 have bq:u.heap[w.heap.size+1]?=some (.cells #[ah r0,.slice q n G] 27):=by rw[<-Q];exact(dm aF).trans aE.2.1
 have cG:u.heap[w.heap.size+1+1]?=some (.cells s.v 31):=by rw[<-Q];have:=fM ((w.alloc (.cells (eB d p) 25)).alloc (.cells #[ah r0,.slice q n G] 27)) (.cells s.v 31);rwa [cV,cV]at this
 have ai:=al bB;have aK:=al bq;have b3:=al cG;have b5:=al aQ;have aN:=al bY;have b4:=al Q;have ce:=al h;have cb:=al au;have aA:=al fD;have aM:=al (SX (A:=A) d p u (h.keep aQ));have aJ:=al dV;clear aQ bY bB bq cG Q h au fD dV aE;go_enter (S.f func3),ntmps3;go_upto_region 1 with fail
 have aT:=b4.out;dsimp only[eB,U1.v]at aT;rw[aT];clear aT;have a1:u.cell? (Ti w.heap.size)=Tn d.kinds:=(aU (o:=0) ai.out).trans S6;have a2:u.cell? (S8 w.heap.size 1)=some (.slice p.eh d.c' p.cA):=(aU (o:=1) ai.out).trans S6;have a3:u.cell? (S8 w.heap.size 2)=some (.slice p.hH d.bk p.dq):=(aU (o:=2) ai.out).trans S6;have a4:u.cell? (S8 w.heap.size 3)=some (.slice p.ei d.b' p.dc):=(aU (o:=3) ai.out).trans S6;by_cases af:d.small;rotate_left
 .have R:=al af
  clear af;go_wp2_with (first
   |(go_at_call 4;refine aM.out.mono ?_;rintro e w2 ⟨⟨b,rfl,hb⟩,ag⟩;have ap:b=true:=(by cases b with|true=>rfl|false=>exact Td (hb.1 S6) R.out);subst ap;clear ag hb)
   |(go_at_call 5;refine(aJ.out _).mono ?_;rintro e w' ⟨rfl,rfl⟩))
  go_ret;rfl
 have R:=al af;clear af;by_cases ak:n<=20;rotate_left
 .have ar:decide ((n:Int)>20)=true:=k4
  have bR:decide ((20:Int)<n)=true:=ar;have aZ:decide (20<n)=true:=k4;go_wp2_with (first
   |(go_at_call 4;refine aM.out.mono ?_;rintro e w2 ⟨⟨b,rfl,hb⟩,ag⟩;have ap:b=false:=hb.2 R.out;subst ap;have bV:=(aU (o:=1) ((ag.block _ (by have:=aN.out;omega) aF).trans aK.out)).trans S6;clear ag hb)
   |(go_at_call 5;refine(aJ.out _).mono ?_;rintro e w' ⟨rfl,rfl⟩))
  go_ret;rfl
 have ar:decide ((n:Int)>20)=false:=nd;have bR:decide ((20:Int)<n)=false:=ar;have aZ:decide (20<n)=false:=nd;go_upto_region 4 with(first
  |(go_at_call 4;refine aM.out.mono ?_;rintro e w2 ⟨⟨b,rfl,hb⟩,ag⟩;have ap:b=false:=hb.2 R.out;subst ap;have bV:=(aU (o:=1) ((ag.block _ (by have:=aN.out;omega) aF).trans aK.out)).trans S6;have aL:=al (b5.out.trans ag);have ay:=al ag;clear ag hb)
  |(go_at_call 6;refine(SY (A:=A) L w2 (aA.out w2 aL.out) ct).mono ?_;rintro e w3 ⟨rfl,bN,bE⟩;have ci:=al bN;have J:=al bE;clear bN bE))
 clear a1 a2 a3 a4 ar bR aZ bV;have bw:=aL.out.trans J.out;have z:=aN.out;have cG:w3.heap[w.heap.size]?=some (.cells (eB d p) 25):=((ay.out.trans J.out).block _ U aF).trans ai.out;have aO:w3.heap[w.heap.size+1]?=some (.cells #[ah r0,.slice q n G] 27):=((ay.out.trans J.out).block _ U aF).trans aK.out;have E:w3.heap[w.heap.size+1+1]?=some (.cells s.v 31):=((ay.out.trans J.out).block _ U aF).trans b3.out;have a1:w3.cell? (Ti w.heap.size)=Tn d.kinds:=(aU (o:=0) cG).trans S6;have a2:w3.cell? (S8 w.heap.size 1)=some (.slice p.eh d.c' p.cA):=(aU (o:=1) cG).trans S6;have a3:w3.cell? (S8 w.heap.size 2)=some (.slice p.hH d.bk p.dq):=(aU (o:=2) cG).trans S6;have a4:w3.cell? (S8 w.heap.size 3)=some (.slice p.ei d.b' p.dc):=(aU (o:=3) cG).trans S6;have cK:w3.cell? (Ti (w.heap.size+1))=Tn r0:=(aU (o:=0) aO).trans S6;have cL:w3.cell? (S8 (w.heap.size+1) 1)=some (.slice q n G):=(aU (o:=1) aO).trans S6;have cv:=aL.out.size;have cP:=ay.out.size;generalize w2.heap.size=T at *;have a8:=al E;have cy:w.heap.size+1+1≠T:=U;have a5:=al (SV bw cv);have bh:=al (ce.out.keep a5.out);have cc:=al (cb.out.keep a5.out);clear cG aO E bw z;go_upto_region 5 with(go_at_call 7;refine(S1 (A:=A) T 0 L U d R.out p r0 q n G f ak w3 bh.out cc.out ci.out).mono ?_;rintro e Z ⟨B,rfl,bM⟩;let⟨aR,D,aD,d2,cF,ok,cu,ax,cQ,bO,bI⟩:=bM.three R.out bh.out;have a6:=al ax;have cj:=al bO;have cp:=al ok;have b6:=al bI;clear bM ax bO bI cu ok)
 clear a1 a2 a3 a4 cK cL;have E:=λ(V:S7) (g:Z.grownBy V (some T))=>((b6.out.trans g).block (w.heap.size+1+1) (bu a8.out) (λe=>cy (bD e))).trans a8.out
 have X:=al (show ∀V:S7,Z.grownBy V (some T)->Uz V (w.heap.size+1+1) 0 1 2 3 4 s/\UA V B 4 5 6 7 D.raw aD.raw from λV g=>⟨U1.cells (E V g),(a6.out.keep g).cell 1 U⟩);have m:=al (show Z.grownBy Z.drew (some T)from gv (e6 _ _));have bp:=al (show fS Z.drew T L aR from cj.out.of S6);clear E;generalize (λi=>match i with|0=>d|1=>D.raw|_=>d2)=c at *;generalize (λi=>match i with|0=>p|1=>aD.raw|_=>cF)=r at *;go_region_held3 (λV=>Uz V (w.heap.size+1+1) 0 1 2 3 4 s/\UA V B 4 5 6 7 D.raw aD.raw)
  (first|with_reducible exact X.out _ m.out|with_reducible exact X.out _ bf.out|with_reducible exact X.out _ K.out|with_reducible exact X.out _ (K.out.trans bT)|with_reducible exact X.out _ (K.out.trans (gv bT)))
  (first|(go_at_call 8;refine(Wm (A:=A) s _).mono ?_;rintro e wn ⟨aX,rfl,ag⟩;have cm:=al (show fS wn T L aR from bp.out.keep λb hb=>ag.block b hb aF);have bf:=al (m.out.trans (wE ag (some T)));clear ag)|(go_at_call 9;refine(WH (A:=A) T aR L U D cp.out aD 11 U _ cm.out).mono ?_;rintro e I ⟨x,rfl,_,bP,bF⟩;have bj:=al bP;have K:=al (bf.out.trans bF);clear bP bF))
 have bs:World.alloc I (.cells #[ah aX.k,ah aX.a,ah aX.b,ah aX.c,ah aX.e,ah x.k,ah x.lm,ah x.cj,ah x.fm,ah x.b5] 31)=I.alloc (.cells (aX.v++x.raw.v) 31):=S6;rw[bs];have br:=fM I (.cells (aX.v++x.raw.v) 31);have bt:=K.out.trans (dU I (.cells (aX.v++x.raw.v) 31) (some T));have t6:=bj.out.alloc (.cells (aX.v++x.raw.v) 31);have cw:I.heap.size≠T:=by have:=bj.out.lt;omega
 generalize World.alloc I _=cZ at *;generalize I.heap.size=F at *;have b2:=al (a6.out.keep bt);have bZ:=al br;have cs:=al t6;clear br bt t6 bs m X bp;go_wp2;go_loopw [14] (λi wr=>∃k:Nat,k<=3/\i=ah k/\T<wr.heap.size/\Vo wr T c r B/\wr.heap[F]?=some (.cells (aX.v++x.raw.v) 31)) (λi _=>3-(TH i).toNat)
 case atStart=>exact⟨0,U,by go_num,cs.out.lt,b2.out,bZ.out⟩
 case round=>
  obtain⟨k,aa,rfl,bA,ax,hb⟩:=hrel;have ck:=al bA;have H:=al ax;have a7:=al hb;clear ax hb;by_cases aS:k<3;rotate_left
  .have cz:decide ((k:Int)<3)=false:=nd
   have cA:decide (k<3)=false:=by simpa using aS
   go_wp2_with (go_at_call 5;refine(aJ.out _).mono ?_;rintro e w' ⟨rfl,rfl⟩)
   go_ret;rfl
  have cz:decide ((k:Int)<3)=true:=k4;have cA:decide (k<3)=true:=by simpa using aS
  have q1:(k:Int)<3:=U;have cT:(0:Int)<=k:=U;let⟨bx,c1,c2,c3⟩:=H.out.cell k aS;go_upto_region 10 with(go_at_call 10;refine(Le (A:=A) (c k) (H.out.small k) (r k) wr (H.out.raw k).un).mono ?_;rintro e av ⟨ia,rfl,bz,bG⟩;have b9:=al (bz.iV bA);have ba:=al bG;clear bz bG)
  clear bx c1 c2 c3;have E:=fM av (.cells (eB (c k) ia) 25);have aG:=dU av (.cells (eB (c k) ia) 25) none;dsimp only[eB]at E aG;generalize World.alloc av _=W at *;have am:=ba.out.trans aG;have cx:av.heap.size≠T:=by have:=ba.out.size;omega
  generalize av.heap.size=df at *;have bC:T<W.heap.size:=gu ck.out am.size;have cl:=al bC;clear bC;have bn:=al (show ∀V:S7,W.grownBy V (some T)->UA V df 0 1 2 3 (c k) ia/\UA V B (k*4) (k*4+1) (k*4+2) (k*4+3) (c k) (r k)from λV g=>
   have h:=(g.block df (bu E) (λe=>cx (bD e))).trans E
   ⟨⟨(aU (o:=0) h).trans S6,(aU (o:=1) h).trans S6,(aU (o:=2) h).trans S6,(aU (o:=3) h).trans S6⟩,(H.out.keep ((wE am _).trans g)).cell k aS⟩)
  have bo:=al (show ∀V:S7,W.grownBy V (some T)->V.heap[F]?=some (.cells (aX.v++x.raw.v) 31)from λV g=>(((wE am _).trans g).block F (bu a7.out) (λe=>cw (bD e))).trans a7.out);have bm:=al (show ∀V:S7,W.grownBy V (some T)->Vo V T c r B from λV g=>H.out.keep ((wE am _).trans g));have oy:=al (show ∀V:S7,W.grownBy V (some T)->iZ V (c k) ia from λV g=>(b9.out.keep (Bv ((wE aG _).trans g))).un);have U1:=al (show ∀V:S7,W.grownBy V (some T)->iZ V (c k) (r k)from λV g=>((bm.out V g).raw k).un);have aw:=al (H.out.small k).fit;have aB:=al (H.out.small k);clear E aG am;generalize hW:wr=cM at *;clear hW;go_wp2;go_loopw [16] (λi wr=>∃j:Nat,j<=2/\i=ah j/\W.grownBy wr none) (λi _=>2-(TH i).toNat)
  case atStart=>exact⟨0,U,by go_num,e6 _ _⟩
  case round=>
   obtain⟨j,aI,rfl,bH⟩:=hrel;have bd:=al bH;clear bH;by_cases aW:j<2
   .have cB:decide ((j:Int)<2)=true:=k4
    have cC:decide (j<2)=true:=by simpa using aW
    have cU:(j:Int)<2:=U;have cW:(0:Int)<=j:=U;obtain⟨z,Y⟩:∃z,U5 (c k) (Ut aX x.raw j)=z:=⟨_,S6⟩
    obtain⟨l,aj⟩:∃l,Vf (c k) (Ut aX x.raw j)=l:=⟨_,S6⟩
    have aA:=al (show l.length<=20000 by rw[<-aj];exact WK _ _);have b0:=al (show ∀V,W.grownBy V none->Calls (ao A) 11 #[.agg (eB (c k) ia),.agg (Ut aX x.raw j).v] V (VG z l V)from λV g=>(WQ (A:=A) (c k) aw.out ia (Ut aX x.raw j) V (oy.out _ (wE g _))).mono λe w h=>by have:=h.sl;rwa [Y,aj]at this);have b1:=al (show ∀V,W.grownBy V none->Calls (ao A) 12 #[.agg (eB (c k) (r k)),.agg (Ut aX x.raw j).v] V (VG z l V)from λV g=>(Wy (A:=A) (c k) aw.out (r k) (Ut aX x.raw j) V (U1.out _ (wE g _))).mono λe w h=>by have:=h.sl;rwa [Y,aj]at this);clear Y aj;have ar:(z !=z)=false:=aF;have m:=al (show W.grownBy wr.drew none from gv bd.out);have gO:=al (show ∀V:S7,W.grownBy V none->(UA V df 0 1 2 3 (c k) ia/\UA V B (k*4) (k*4+1) (k*4+2) (k*4+3) (c k) (r k))/\Uz V F (j*5) (j*5+1) (j*5+2) (j*5+3) (j*5+4) (Ut aX x.raw j)from λV g=>⟨bn.out V (wE g _),US (bo.out V (wE g _)) j aW⟩);go_upto_region 13 with fail
    go_region_held3 (λV=>(UA V df 0 1 2 3 (c k) ia/\UA V B (k*4) (k*4+1) (k*4+2) (k*4+3) (c k) (r k))/\Uz V F (j*5) (j*5+1) (j*5+2) (j*5+3) (j*5+4) (Ut aX x.raw j))
     (first|with_reducible exact gO.out _ m.out|with_reducible exact gO.out _ bb.out)
     (first|(go_at_call 11;refine(b0.out _ m.out).mono ?_;rintro e a0 ⟨cI,jW,rfl,bK,_,ag⟩;have cf:=al bK;have bb:=al (m.out.trans ag);clear ag bK))
    clear m;have m:=al (show W.grownBy a0.drew none from gv bb.out);have bv:=al (show a0.grownBy a0.drew none from gv (e6 _ _));go_upto_region 14 with fail
    go_region_held3 (λV=>(UA V df 0 1 2 3 (c k) ia/\UA V B (k*4) (k*4+1) (k*4+2) (k*4+3) (c k) (r k))/\Uz V F (j*5) (j*5+1) (j*5+2) (j*5+3) (j*5+4) (Ut aX x.raw j))
     (first|with_reducible exact gO.out _ m.out|with_reducible exact gO.out _ bc.out)
     (first|(go_at_call 12;refine(b1.out _ m.out).mono ?_;rintro e cJ ⟨bU,pK,rfl,bL,bJ,ag⟩;have bi:=al bL;have ca:=al bJ;have cg:=al (cf.out.keep (bv.out.trans ag));have bc:=al (m.out.trans ag);clear ag bL bJ))
    clear m bv;go_upto_region 17 with(go_at_call 13;refine(Vz (A:=A) cI bU l.length jW pK (by have:=aA.out;omega) _ cJ cg.out bi.out).mono ?_;rintro e bW ⟨rfl,ag⟩;have ch:=al (bi.out.keep ag);have b8:=al (bc.out.trans ag);clear ag)
    go_upto_region 18 with(at_builtin;refine WV (V:=bW) S6 _ _ S6 S6 bW.heap.size bS S6 (fM _ _) bU l pK S6 aA.out (ch.out.keep bT) ca.out bT bg ?_;intro aP C cO M ae cR aq ag;have cn:=al aq;have az:=al (b8.out.trans ag);clear ag aq)
    have co:=al (show ∀(V:S7) (y:Nat),ae.grownBy V none->y<C->((UA V df 0 1 2 3 (c k) ia/\UA V B (k*4) (k*4+1) (k*4+2) (k*4+3) (c k) (r k))/\Uz V F (j*5) (j*5+1) (j*5+2) (j*5+3) (j*5+4) (Ut aX x.raw j))/\V.cell? (S8 aP y)=Tn (M y)from λV y g bQ=>
     ⟨gO.out V (az.out.trans g),by have:=(cn.out.keep g aF) y bQ;rwa [Nat.zero_add]at this⟩)
    have cq:=al (show ∀V:S7,ae.grownBy V none->iZ V (c k) ia from λV g=>oy.out V (wE (az.out.trans g) _));have cr:=al (show ∀V:S7,ae.grownBy V none->iZ V (c k) (r k)from λV g=>U1.out V (wE (az.out.trans g) _));generalize hW:wr=cN at *;clear hW;go_wp2;go_loopw [22] (λi wr=>∃y:Nat,y<=C/\i=ah y/\ae.grownBy wr none) (λi _=>C-(TH i).toNat)
    case atStart=>exact⟨0,U,by go_num,e6 _ _⟩
    case round=>
     obtain⟨y,bQ,rfl,aV⟩:=hrel;have b7:=al aV;have m:=al (show ae.grownBy wr.drew none from gv aV);clear aV;by_cases aY:y<C
     .have cD:decide ((y:Int)<C)=true:=k4
      have cE:decide (y<C)=true:=by simpa using aY
      have cX:(y:Int)<C:=U;have cY:(0:Int)<=y:=U;obtain⟨bX,Y⟩:∃z,Vn (c k) (Ut aX x.raw j) (M y)=z:=⟨_,S6⟩
      obtain⟨ic,aq⟩:∃z,U6 (c k) (Ut aX x.raw j) (M y)=z:=⟨_,S6⟩
      have bk:=al Y;have bl:=al aq;clear Y aq;have aZ:(bX !=bX)=false:=aF;have cS:(ic !=ic)=false:=aF;have aC:=al (λV g=>co.out V y g aY);go_upto_region 21 with fail
      go_region_held3 (λV=>((UA V df 0 1 2 3 (c k) ia/\UA V B (k*4) (k*4+1) (k*4+2) (k*4+3) (c k) (r k))/\Uz V F (j*5) (j*5+1) (j*5+2) (j*5+3) (j*5+4) (Ut aX x.raw j))/\V.cell? (S8 aP y)=Tn (M y))
       (first|with_reducible exact aC.out _ m.out|with_reducible exact aC.out _ J.out)
       (first|(go_at_call 14;refine(WU (A:=A) (c k) aw.out ia (Ut aX x.raw j) (M y) _ (cq.out _ m.out)).mono ?_;rintro e w3 ⟨rfl,ag⟩;rw[bk.out,bl.out];have J:=al (m.out.trans ag);clear ag))
      clear m;have m:=al (show ae.grownBy w3.drew none from gv J.out);go_upto_region 22 with fail
      go_region_held3 (λV=>((UA V df 0 1 2 3 (c k) ia/\UA V B (k*4) (k*4+1) (k*4+2) (k*4+3) (c k) (r k))/\Uz V F (j*5) (j*5+1) (j*5+2) (j*5+3) (j*5+4) (Ut aX x.raw j))/\V.cell? (S8 aP y)=Tn (M y))
       (first|with_reducible exact aC.out _ m.out|with_reducible exact aC.out _ a9.out)
       (first|(go_at_call 15;refine(Wz (A:=A) (c k) aw.out (r k) (Ut aX x.raw j) (M y) _ (cr.out _ m.out)).mono ?_;rintro e Z ⟨rfl,ag⟩;rw[bk.out,bl.out];have a9:=al (m.out.trans ag);clear ag))
      go_wp2;exact⟨⟨y+1,U,by push_cast;rfl,a9.out⟩,by show C-((y:Int)+1).toNat<C-(y:Int).toNat;omega⟩
     have cD:decide ((y:Int)<C)=false:=nd;have cE:decide (y<C)=false:=by simpa using aY
     go_wp2;exact⟨⟨j+1,U,by push_cast;rfl,az.out.trans b7.out⟩,by show 2-((j:Int)+1).toNat<2-(j:Int).toNat;omega⟩
   have cB:decide ((j:Int)<2)=false:=nd;have cC:decide (j<2)=false:=by simpa using aW
   have m:=al (show W.grownBy wr.drew none from gv bd.out);have gO:=al (λV g=>bn.out V (wE g _));go_upto_region 25 with fail
   go_region_held3 (λV=>UA V df 0 1 2 3 (c k) ia/\UA V B (k*4) (k*4+1) (k*4+2) (k*4+3) (c k) (r k))
    (first|with_reducible exact gO.out _ m.out|with_reducible exact gO.out _ K.out)
    (first|(go_at_call 16;refine(Wk (A:=A) (c k) ia (r k) (by have:=aB.out.F;omega) (by have:=aB.out.R;omega) (by have:=aB.out.h4;omega) (λi ad=>by have:=aB.out.P i ad;omega) _ (oy.out _ (wE m.out _)) (U1.out _ (wE m.out _))).mono ?_;rintro e I ⟨rfl,ag⟩;have K:=al (m.out.trans ag);clear ag))
   go_wp2;have aH:=wE K.out (some T);exact⟨⟨k+1,U,by push_cast;rfl,gu cl.out aH.size,bm.out _ aH,bo.out _ aH⟩,by show 3-((k:Int)+1).toNat<3-(k:Int).toNat;omega⟩
end
end Go.aO
