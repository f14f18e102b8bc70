/- A part. -/
import Derived.Test.YtoebddanaobpaaaGreatDoorP30
set_option maxHeartbeats 8000000
set_option maxRecDepth 100000
set_option linter.all false
namespace Go.aO
open Go.Proofs Tryz Go.RowKit
section
variable{A:TJ}
def qc(m:Nat)(j:Nat):Int:=match j with|0=>0|1=>1|2=>2|_=>m
def Nr(w:S7)(t:Tg)(m:Nat):gn (w.alloc (.cells #[ah 0,ah 1,ah 2,ah m] t)) w.heap.size 0 4 (qc m):=by
 intro j c;have:=aU (o:=0+j) (fM w (.cells #[ah 0,ah 1,ah 2,ah m] t));rcases j with _|_|_|_|j
 .exact this
 .exact this
 .exact this
 .exact this
 .omega
def Ns{m j:Nat}(hm:(m:Int)<=max 9 0):0<=qc m j/\qc m j<=9:=by unfold qc;split<;>omega
def qd(m:Nat)(j:Nat):Int:=match j with|0=>0|1=>1|2=>2|3=>3|_=>m
def Nt(w:S7)(t:Tg)(m:Nat):gn (w.alloc (.cells #[ah 0,ah 1,ah 2,ah 3,ah m] t)) w.heap.size 0 5 (qd m):=by
 intro j c;have:=aU (o:=0+j) (fM w (.cells #[ah 0,ah 1,ah 2,ah 3,ah m] t));rcases j with _|_|_|_|_|j
 .exact this
 .exact this
 .exact this
 .exact this
 .exact this
 .omega
def Nu{m j:Nat}(hm:(m:Int)<=max 9 0):0<=qd m j/\qd m j<=9:=by unfold qd;split<;>omega
def zz:∃i,(ao A).info? 27=some i/\i.zero=some (.agg #[ah 0,.slice none 0 0])/\i.size=2/\i.bytes=32:=⟨_,S6,S6,S6,S6⟩
def TH:S9->Int
 |.int _ n=>n
 |_=>0
def zp(K:Nat)(v:S9):Te:=#[ah K,v,.slice none 0 0,.slice none 0 0]
def Q6[S:Std A](T g:Nat)(L:S9)(de:g<1000)(w:S7)(h:fS w T L g):
 Calls (ao A) 25 #[Tj T] w λe w'=>∃(d:cC) (p:eg) (g':Nat),d.ok/\e=.returned (.agg (dv d p))/\e' w' d p/\p.off d T/\g'<=g+100/\fS w' T L g'/\w.grownBy w' (some T):=by
 have dd:T<w.heap.size:=h.lt;obtain⟨bd,ax,b2,b4,b5⟩:=wL (A:=A);have aY:=al ax;have a0:=al b2;have a1:=al b4;have a2:=al b5;have bj:w.grownBy (w.alloc (.cells #[ah 0,.slice none 0 0,.slice none 0 0,.slice none 0 0] 25)) (some T):=bT;have ek:fS (w.alloc (.cells #[ah 0,.slice none 0 0,.slice none 0 0,.slice none 0 0] 25)) T L g:=h.alloc _;have bq:=al (Bc (A:=A) T g L U 1 3 U _ ek);have bn:=al h.nm;clear h ax b2 b4 b5;go_enter (S.f func25),ntmps25;go_wp2_with (go_at_call 53;refine bq.out.mono ?_;rintro e aM ⟨K,rfl,c8,c9,q,f⟩;have bo:=al q;have aN:=al f;clear q f)
 have cy:1<=K/\K<=3:=U;obtain⟨w2,ay⟩:∃w2,aM.alloc (.cells #[ah K,.slice none 0 0,.slice none 0 0,.slice none 0 0] 25)=w2:=⟨_,S6⟩
 have bU:w.heap.size<aM.heap.size:=by have:=aN.out.size;simp at this;omega
 have cQ:tz L aM.heap.size:=by exact bn.out.off (Nat.le_of_lt bU)
 have a3:hz w2 T aM.heap.size L 25 (g+1) (zp K (.slice none 0 0)) w2:=by rw[<-ay];exact hz.start (fM _ _) (bo.out.alloc _) U cQ
 have am:w.grownBy w2 (some T):=by rw[<-ay];exact(bj.trans aN.out).trans bT
 have ca:w2.heap[w.heap.size]?=some (.cells #[ah 0,.slice none 0 0,.slice none 0 0,.slice none 0 0] 25):=by rw[<-ay];exact(dm bU).trans ((aN.out.block _ aF (λe=>by have:=bD e;omega)).trans (fM _ _))
 rw[ay];have cl:=al ay;clear ay bo bq bj ek;generalize aM.heap.size=b at *;go_loopw [4] (λi wr=>∃(k g':Nat) (Y:S9) (xs:TX),k<=K/\i=ah k/\g'<=g+1+2*k/\hz w2 T b L 25 g' (zp K Y) wr/\wr.ownsRow w2.heap.size 3 1 Y k (xs.map gi)/\xs.length=k/\∀x∈xs,0<=x/\x<=9) (λi _=>K-(TH i).toNat)
 case atStart=>exact⟨0,g+1,_,[],U,by go_num,U,a3,⟨S6,.inl ⟨S6,S6⟩⟩,S6,λx G=>by simp at G⟩
 case round=>
  obtain⟨k,g',Y,xs,dl,rfl,df,M,B,hlen,bK⟩:=hrel;by_cases Q:k<K
  .have hd:decide ((k:Int)<K)=true:=by simpa using Q
   have aH:decide (k<K)=true:=by simpa using Q
   have bx:wr.cell? (Ti b)=Tn K:=aU M.blk;have cr:wr.cell? (S8 b 1)=some Y:=aU M.blk;have z:=al M;have P:=al B;have aG:some b≠some T:=λe=>by have:=bD e;have:=M.m8;omega
   have bb:b<wr.heap.size:=bu M.blk;have bH:T<b:=M.m8;have dr:=M.cf.size;have ba:=M.dQ;clear M a3 B;go_wp2;simp only[wV];have cM:=wW;go_region_held3 (λ_=>True) (exact Tf) (first
    |(go_at_call 9;refine(PG (A:=A) T g' L (by omega) 9 (by omega) _ (by exact z.out.rD.of S6)).mono ?_;rintro e C ⟨m,rfl,hm,q,f⟩;have d1:=f.cell (cr.trans S6) aG;have d2:∀o:Obj,(C.alloc o).cell? (S8 b 1)=some Y:=(λo=>(hD _ _ _ (gu bb f.size)).trans d1);have aD:=al q;have I:=al f;clear q f)
    |(go_at_call 10;refine(CQ (A:=A) T (g'+1) L (by omega) C.heap.size 0 4 4 (qc m) (by omega) _ (by exact aD.out.alloc _) (by have:=aD.out.lt;omega) (by exact Nr _ _ m)).mono ?_;rintro e ar ⟨j,dj,rfl,q,f⟩;have d3:=f.cell (hD _ _ _ (gu bb I.out.size) |>.trans d1) aG;have d4:∀o:Obj,(ar.alloc o).cell? ⟨b,1,none⟩=some Y:=(λo=>(hD _ _ _ (gu bb (cL I.out.size (cL (by simp) f.size)))).trans d3);have aZ:=al q;have aa:=al f;clear q f)
    |(refine step_append_lies _ (by rfl) _ _ _ (by rfl) w2.heap.size 3 bd (ah 0) 1 8 (ao.underlying22 A) aY.out a0.out a1.out a2.out S6 (by omega) Y k (xs.map gi) (by rfl) (EA P.out (Nat.lt_trans bH ba) I.out aa.out) (Ti ar.heap.size) 1 1 [ah (qc m j)] (by rfl) (by rfl) (World.news_of_block (cs:=#[ah (qc m j)]) (t:=3) (fr:=(0,0)) (heap_alloc_new ar _)) (by simp[Value.oneCell']) (by omega) (by unfold maxLen;omega) (by omega) (by have:=Gn I.out aa.out;simp;omega) (ar.heap.size+1) (by simp) ?_;intro au cap aA aK F aj cO;have q1:aA.heap[b]?=some (.cells (zp K Y) 25):=B0 z.out.blk P.out bH ba I.out aa.out F;have bh:=aU (o:=1) q1;have bi:=b3 (o:=1) q1;have a5:=al aK;have aW:=al F;clear aK F aj))
   all_goals (
    have aJ:=z.out.round P.out I.out aa.out aZ.out aW.out (Ts au (k+1) cap) 1 a5.out;have aB:=al aJ;clear aJ;go_wp2;exact⟨⟨k+1,g'+1+1,_,xs++[qc m j],U,by push_cast;rfl,U,aB.out.1,by rw[List.map_append];exact aB.out.2,by simp[hlen],λx G=>(List.mem_append.1 G).elim (bK x) λh=>by rw[ev h];exact Ns hm⟩,by show K-((k:Int)+1).toNat<K-(k:Int).toNat;omega⟩)
  .have hd:decide ((k:Int)<K)=false:=by simpa using Q
   have aH:decide (k<K)=false:=by simpa using Q
   obtain rfl:k=K:=U;have cN:=hlen;have cG:=bK;have bx:wr.cell? (Ti b)=Tn k:=aU M.blk;clear a3;have br:=al (Bc (A:=A) T g' L U 1 3 U _ M.rD);go_wp2_with (go_at_call 53;refine br.out.mono ?_;rintro e R ⟨N,rfl,da,db,q,f⟩;have bp:=al q;have Z:=al f;clear q f)
   have aG:(some b:TN)≠some T:=λe=>by have:=bD e;have:=M.m8;omega
   have s2:=M.cf.size;have cW:=Z.out.size;have cE:=M.m8;have ba:=M.dQ;have aR:R.heap[b]?=some (.cells (oh k Y (.slice none 0 0) (.slice none 0 0)) 25):=(Z.out.block b U aG).trans M.blk;have bt:R.ownsRow w2.heap.size 3 1 Y k (xs.map gi):=j4 B λg ai W=>Z.out.block g W λe=>by have:=bD e;omega
   obtain⟨E,cA,c1,rfl,c6,c7,bC,bE⟩:=xj bt U;have bk:w.grownBy R (some T):=by refine⟨Z.out.os.trans (M.cf.os.trans am.os),Z.out.tape.trans (M.cf.tape.trans am.tape),Z.out.output.trans (M.cf.output.trans am.output),cL am.size (cL s2 cW),λi ax J=>?_⟩;have ai:=am.size;refine(Z.out.block i U J).trans ((M.cf.block i U (λe=>e.elim (λe=>J (by rw[e])) (λe=>U))).trans (am.block i ax J))
   have cb:R.heap[w.heap.size]?=some (.cells #[ah 0,.slice none 0 0,.slice none 0 0,.slice none 0 0] 25):=(Z.out.block _ U (λe=>by have:=bD e;omega)).trans ((M.cf.block _ U U).trans ca);have bw:qF R T b L (g'+1) k (Ts E k cA) [] 0 (.slice none 0 0) R:=
    ⟨hz.start aR bp.out cE M.off,⟨rfl,.inl ⟨rfl,rfl⟩⟩,λr J=>by simp at J,λr J=>by simp at J,.nil,λr J=>by simp at J,λ_=>S6,λr J=>by simp at J⟩
   have bm:=al (Ud bC bE);have ce:=al bk;clear M B bt bC bE bk am aN cl Z bp br;have cz:1<=N/\N<=3:=U;go_loopw [5,6] (λi l cY=>∃(fr S' ad:Nat) (rs:Tb mh) (af:S9),i=ah fr/\l=ah S'/\rs.length+S'=N/\ad<=g'+1+20*rs.length/\qF R T b L ad k (Ts E k cA) rs fr af cY) (λ_ l _=>(TH l).toNat)
   case atStart=>exact⟨0,N,g'+1,[],_,by go_num,S6,aF,aF,bw⟩
   case round=>
    clear bw;obtain⟨fr,S',ad,rs,af,rfl,rfl,cB,dg,V⟩:=hrel;by_cases hgo:0<S'/\fr<5
    .have q1:decide ((0:Int)<S')=true:=cH
     have bh:decide (0<S')=true:=by simpa using hgo.1
     obtain⟨dn,bO⟩:=hgo
     .have bi:decide ((fr:Int)<5)=true:=cH
      have cV:decide (fr<5)=true:=by simpa using bO
      obtain⟨H,bW⟩:∃x,x=wr:=⟨_,S6⟩
      rw[<-bW]at V ⊢;clear bW;have u:=al V;clear V;have cR:b<H.heap.size:=bu u.out.hq.blk;go_wp2;obtain⟨C,az⟩:∃C,H.alloc (.cells #[ah fr,.slice none 0 0] 27)=C:=⟨_,S6⟩
      have a9:T<H.heap.size:=U;have bs:hz C T H.heap.size L 27 ad #[ah fr,.slice none 0 0] C:=by rw[<-az];exact hz.start (fM _ _) (u.out.hq.rD.alloc _) a9 (u.out.hq.nm.off u.out.hq.cf.size)
      have z5:C.heap.size=H.heap.size+1:=by rw[<-az];simp
      rw[az];go_loopw [8] (λi b8=>∃(j ag:Nat) (ak:S9) (ys:TX),j<=k/\i=ah j/\ag<=ad+2*j/\hz C T H.heap.size L 27 ag #[ah fr,ak] b8/\b8.ownsRow C.heap.size 3 1 ak j (ys.map gi)/\ys.length=j/\∀x∈ys,0<=x/\x<=9) (λi _=>k-(TH i).toNat)
      case atStart=>exact⟨0,ad,_,[],U,by go_num,U,bs,⟨S6,.inl ⟨S6,S6⟩⟩,S6,λx G=>by simp at G⟩
      case round=>
       obtain⟨j,ag,ak,ys,dk,rfl,di,M,B,b1,b0⟩:=hrel;have bA:wr.heap[b]?=some (.cells (oh k (Ts E k cA) af (.slice none 0 0)) 25):=(M.cf.block b U U).trans (by rw[<-az];exact(dm cR).trans u.out.hq.blk);have bx:wr.cell? (Ti b)=Tn k:=aU bA;have bS:some H.heap.size≠some T:=λe=>by have:=bD e;omega
       have bc:H.heap.size<wr.heap.size:=bu M.blk;have ds:=M.cf.size;have r1:wr.cell? (S8 H.heap.size 1)=some ak:=aU M.blk;have bJ:=M.dQ;clear bs;by_cases Q:j<k
       .have hd:decide ((j:Int)<k)=true:=by simpa using Q
        have aH:decide (j<k)=true:=by simpa using Q
        have z:=al M;have P:=al B;clear M B;go_wp2;simp only[wV];have cM:=wW;go_region_held3 (λ_=>True) (exact Tf) (first
         |(go_at_call 9;refine(PG (A:=A) T ag L (by omega) 9 (by omega) _ (by exact z.out.rD.of S6)).mono ?_;rintro e ar ⟨m,rfl,hm,q,f⟩;have d1:=f.cell (r1.trans S6) bS;have d2:∀o:Obj,(ar.alloc o).cell? (S8 H.heap.size 1)=some ak:=(λo=>(hD _ _ _ (gu bc f.size)).trans d1);have aD:=al q;have I:=al f;clear q f)
         |(go_at_call 10;refine(CQ (A:=A) T (ag+1) L (by omega) ar.heap.size 0 5 5 (qd m) (by omega) _ (by exact aD.out.alloc _) (by have:=aD.out.lt;omega) (by exact Nt _ _ m)).mono ?_;rintro e aA ⟨y,dt,rfl,q,f⟩;have d3:=f.cell (hD _ _ _ (gu bc I.out.size) |>.trans d1) bS;have d4:∀o:Obj,(aA.alloc o).cell? ⟨H.heap.size,1,none⟩=some ak:=(λo=>(hD _ _ _ (gu bc (cL I.out.size (cL (by simp) f.size)))).trans d3);have aZ:=al q;have aa:=al f;clear q f)
         |(refine step_append_lies _ (by rfl) _ _ _ (by rfl) C.heap.size 3 bd (ah 0) 1 8 (ao.underlying22 A) aY.out a0.out a1.out a2.out S6 (by omega) ak j (ys.map gi) (by rfl) (EA P.out (Nat.lt_trans a9 bJ) I.out aa.out) (Ti aA.heap.size) 1 1 [ah (qd m y)] (by rfl) (by rfl) (World.news_of_block (cs:=#[ah (qd m y)]) (t:=3) (fr:=(0,0)) (heap_alloc_new aA _)) (by simp[Value.oneCell']) (by omega) (by unfold maxLen;omega) (by omega) (by have:=Gn I.out aa.out;simp;omega) (aA.heap.size+1) (by simp) ?_;intro au cap aV aK F aj cO;have ae:aV.heap[H.heap.size]?=some (.cells #[ah fr,ak] 27):=B0 z.out.blk P.out a9 bJ I.out aa.out F;have aT:=aU (o:=1) ae;have b7:=b3 (o:=1) ae;have a5:=al aK;have aW:=al F;clear aK F aj))
        all_goals (
         have aJ:=z.out.round P.out I.out aa.out aZ.out aW.out (Ts au (j+1) cap) 1 a5.out;have aB:=al aJ;clear aJ;go_wp2;exact⟨⟨j+1,ag+1+1,_,ys++[qd m y],U,by push_cast;rfl,U,aB.out.1,by rw[List.map_append];exact aB.out.2,by simp[b1],λx G=>(List.mem_append.1 G).elim (b0 x) λh=>by rw[ev h];exact Nu hm⟩,by show k-((j:Int)+1).toNat<k-(j:Int).toNat;omega⟩)
       .have hd:decide ((j:Int)<k)=false:=by simpa using Q
        have aH:decide (j<k)=false:=by simpa using Q
        obtain rfl:j=k:=U;obtain⟨bB,cq,c2,rfl,_,_,_,_⟩:=xj B U;have r0:wr.cell? (Ti H.heap.size)=Tn fr:=aU M.blk;have c0:wr.cell? (S8 b 2)=some af:=aU bA;have z4:R.heap.size<=H.heap.size:=u.out.hq.cf.size;have bv:∀o:Obj,(wr.alloc o).ownsRow R.heap.size 27 2 af rs.length (mJ j rs):=λo=>j4 u.out.own λi ai W=>(dm U).trans ((M.cf.block i U U).trans (by rw[<-az];exact dm W))
        subst az;have z:=al M;have P:=al B;have ch:=al bv;have dp:rs.length<=2:=U;clear M B bv;obtain⟨cS,bP,bX,bY,bZ⟩:=zz (A:=A);have cg:=al bP;have cm:=al bX;have cn:=al bY;have co:=al bZ;clear bP bX bY bZ;go_wp2_with (first
         |(at_builtin;refine wpList_append_lies _ S6 _ _ 23 S6 R.heap.size 27 cS (.agg #[ah 0,.slice none 0 0]) 2 32 av cg.out cm.out cn.out co.out S6 a6 af rs.length (mJ j rs) S6 (ch.out _) (Ti wr.heap.size) 1 1 [ah fr,Ts bB j cq] S6 S6 (World.news_of_block (cs:=#[ah fr,Ts bB j cq]) (t:=27) (fr:=(0,0)) (heap_alloc_new wr _)) (by simp[Value.oneCell']) U kj U cH (wr.heap.size+1) aF ?_;intro au cap aV aL F aj cP;obtain⟨t8,ae⟩:=u.out.Re z.out F;have ci:=al t8;clear t8;have a7:=al aL;have aX:=al F;have b9:=al aj;clear aL F aj)
         |(go_at_call 53;refine(Bc (A:=A) T ag L (by omega) 1 3 (by omega) aV ci.out).mono ?_;rintro e dF ⟨D,rfl,c4,c5,q,f⟩;have aT:=(f.block b (bu ae) aG).trans ae;have b7:=aU (o:=2) aT;have dD:=b3 (o:=2) aT;have cj:=al q;have cf:=al f;clear q f))
        obtain⟨r,cp⟩:=u.out.round bO U z.out P.out b1 b0 aX.out b9.out a7.out cf.out cj.out (fr+D) U;exact⟨⟨fr+D,S'-1,ag+1,rs++[r],_,by push_cast;rfl,by congr 1;omega,cH,cH,cp⟩,by show((S':Int)-1).toNat<(S':Int).toNat;omega⟩
    .have bR:rs≠[]:=by rintro rfl;have:=V.top.1 S6;simp at cB;omega
     obtain⟨wd,bV⟩:∃x,x=wr:=⟨_,S6⟩
     rw[<-bV]at V ⊢;clear bV;have bM:∀(n:TA) (j:Nat),n.Pairwise (· < ·)->(∀x∈n,x<j)->n.length<=j:=λn j ai W=>Lw ai W
     have a4:hz wd T b L 25 ad (oh k (Ts E k cA) af (.slice none 0 0)) wd:=hz.start V.hq.blk V.hq.rD V.hq.m8 V.hq.off;have u:=al V;clear V;have hlen:rs.length<=N:=U;have cK:(decide ((0:Int)<S')=false/\decide (0<S')=false)\/(decide ((0:Int)<S')=true/\decide (0<S')=true/\decide ((fr:Int)<5)=false/\decide (fr<5)=false):=by
      by_cases h:0<S'
      .exact .inr ⟨cH,cH,cH,cH⟩
      .exact .inl ⟨cH,cH⟩
     rcases cK with⟨q1,bh⟩|⟨q1,bh,bi,cV⟩
     all_goals (
      go_wp2;go_loopw [9] (λi wr=>∃(j ap:Nat) (aq:S9) (n:TA),j<=5/\i=ah j/\ap<=ad+j/\hz wd T b L 25 ap (oh k (Ts E k cA) af aq) wr/\wr.ownsRow wd.heap.size 3 1 aq n.length (n.map λ(x:Nat)=>gi x)/\n.Pairwise (· < ·)/\∀x∈n,x<j) (λi _=>5-(TH i).toNat)
      case atStart=>exact⟨0,ad,_,[],U,by go_num,U,a4,⟨S6,.inl ⟨S6,S6⟩⟩,.nil,λx G=>by simp at G⟩
      case round=>
       obtain⟨j,ap,aq,n,bQ,rfl,dh,M,B,aE,aw⟩:=hrel;by_cases Q:j<5
       .have hd:decide ((j:Int)<5)=true:=cH
        have aH:decide (j<5)=true:=by simpa using Q
        have bN:n.length<=5:=cL (bM n j aE aw) bQ;have aC:=al (E1 (A:=A) T ap L (by have:=cz.2;have:rs.length<=3:=U;omega) 4 U wr M.rD);have z:=al M;have P:=al B;clear M B a4;go_wp2_with (first
         |(at_builtin;refine wpList_append_lies _ S6 _ _ 22 S6 wd.heap.size 3 bd (.int .i64 0) 1 8 (ao.underlying22 A) aY.out a0.out a1.out a2.out S6 U aq n.length (n.map λ(x:Nat)=>gi x) S6 (j4 aP.out λg ai W=>dm W) (Ti C.heap.size) 1 1 [.int .i64 j] S6 S6 (World.news_of_block (cs:=#[.int .i64 j]) (t:=3) (fr:=(0,0)) (heap_alloc_new C _)) (by simp[Value.oneCell']) U kj U (by have:=aO.out.cf.size;simp;omega) (C.heap.size+1) aF ?_;intro au cap aV aL F aj cP;have ae:=aO.out.gB aP.out F;have aT:=aU (o:=3) ae;have b7:=b3 (o:=3) ae;have a7:=al aL;have aX:=al F;clear aL F aj ae)
         |(go_at_call 26;refine aC.out.mono ?_;rintro e C ⟨cZ,rfl,q,f⟩;obtain⟨bf,b6⟩:=z.out.called P.out f q;have bi:C.cell? (S8 b 3)=some aq:=aU bf.blk;have aO:=al bf;have aP:=al b6;clear q f bf b6))
        all_goals first
         |exact⟨⟨j+1,ap+1,aq,n,U,by push_cast;rfl,U,aO.out,aP.out,aE,λx G=>Nat.lt_succ_of_lt (aw x G)⟩,by show 5-((j:Int)+1).toNat<5-(j:Int).toNat;omega⟩
         |(obtain⟨cT,cU⟩:=aO.out.put aP.out aX.out (Ts au (n.length+1) cap) 3 a7.out
           refine⟨⟨j+1,ap+1,_,n++[j],U,by push_cast;rfl,U,cT,?_,?_,λx G=>(List.mem_append.1 G).elim (λh=>Nat.lt_succ_of_lt (aw x h)) λh=>by rw[ev h];exact Nat.lt_succ_self j⟩,by show 5-((j:Int)+1).toNat<5-(j:Int).toNat;omega⟩
           .rw[Ug,List.map_append];exact cU
           .rw[List.pairwise_append];exact⟨aE,aF,λa cF c cI=>by rw[ev cI];exact aw a cF⟩)
       .have hd:decide ((j:Int)<5)=false:=cH
        have aH:decide (j<5)=false:=by simpa using Q
        have bN:n.length<=5:=cL (bM n j aE aw) bQ;have dz:wr.cell? (Ti b)=Tn k:=aU M.blk;have dA:wr.cell? (S8 b 1)=some (Ts E k cA):=aU M.blk;have dB:wr.cell? (S8 b 2)=some af:=aU M.blk;have dC:wr.cell? (S8 b 3)=some aq:=aU M.blk;have dE:=u.out.hq.cf.size;have X:wr.heap[w.heap.size]?=some (.cells #[ah 0,.slice none 0 0,.slice none 0 0,.slice none 0 0] 25):=(M.cf.block _ U U).trans ((u.out.hq.cf.block _ U U).trans cb);have du:=aU (o:=0) X;have dw:=aU (o:=1) X;have dx:=aU (o:=2) X;have dy:=aU (o:=3) X;have f0:=b3 (o:=0) X;have f1:=b3 (o:=1) X;have f2:=b3 (o:=2) X;have f3:=b3 (o:=3) X;have cc:=al X;obtain⟨Tk,dq,c3,rfl,cD,bF,bG⟩:=xk u.out.own (λh=>bR (List.eq_nil_of_length_eq_zero h));obtain⟨aS,dc,rfl,bI⟩:=M5 B;have z:=al M;have P:=al B;have ck:=al bI;have aC:=al (Ud bF bG);clear M B X a4 bI bF bG;go_wp2;refine bodyPost_ret (results_cell_row S6 _ _ w.heap.size 25 #[ah k,Ts E k cA,Ts Tk rs.length dq,.slice aS n.length dc] (0,0) _ S6 (KB cc.out) (ao.underlying25 A) S6 FA) S6 ?_;have aI:∀i,i≠w.heap.size->(sj wr w.heap.size (ah k) (Ts E k cA) (Ts Tk rs.length dq) (.slice aS n.length dc)).heap[i]?=wr.heap[i]?:=λi ax=>C4 ax
        have bL:∀i,R.heap.size<=i->i<wd.heap.size->wr.heap[i]?=wd.heap[i]?:=λi ai W=>z.out.cf.block i W U
        have cJ:wr.heap[E]?=R.heap[E]?:=(z.out.cf.block E U U).trans (u.out.hq.cf.block E U U);obtain⟨d,p,ai,W,cw,cx⟩:=LZ (w:=sj wr w.heap.size (ah k) (Ts E k cA) (Ts Tk rs.length dq) (.slice aS n.length dc)) (T:=T) (cA:=cA) (dq:=dq) (dc:=dc) cy
         ((aI E U).trans (cJ.trans bm.out.1)) bm.out.2 cN cG ((aI Tk U).trans ((bL Tk cD (bu aC.out.1)).trans aC.out.1)) aC.out.2 ⟨by have:rs.length≠0:=(λh=>bR (List.eq_nil_of_length_eq_zero h));omega,U⟩
         (λr J=>by obtain⟨⟨cur,aQ,bz⟩,a8,aR⟩:=u.out.cQ r J;exact⟨⟨cur,(aI _ U).trans ((bL _ a8 (bu aQ)).trans aQ),bz⟩,U⟩)
         u.out.hL u.out.qK u.out.zero (λcv=>by obtain⟨cu,ct,aQ,bz,a8,aR⟩:=ck.out cv;exact⟨cu,ct,aQ,U,(aI _ U).trans a8,aR⟩) bN aE (λx G=>by have:=aw x G;omega) ⟨U,U⟩
        have bl:=KC (c:=w.heap.size) (a:=ah k) (b:=Ts E k cA) (d:=Ts Tk rs.length dq) (e:=.slice aS n.length dc) (K0 ce.out u.out.hq.cf z.out.cf U) bg;obtain⟨cX,t9,t10⟩:=z.out.st;exact⟨d,p,ap,ai,by rw[W],cw,cx,U,⟨⟨cX,(aI T U).trans t9,t10⟩,bn.out.keep bl⟩,bl⟩)
end
end Go.aO
