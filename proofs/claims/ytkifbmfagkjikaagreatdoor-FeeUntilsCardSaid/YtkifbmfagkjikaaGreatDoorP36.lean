/- A part; no conditions. -/
import Derived.Test.YtkifbmfagkjikaaGreatDoorP35
set_option maxHeartbeats 8000000
set_option maxRecDepth 100000
set_option linter.all false
namespace Go.aO
open Go.Proofs Go.RowKit
section
variable{A:Array Func}
def qc(m:Nat)(j:Nat):Int:=match j with|0=>0|1=>1|2=>2|_=>m
def Nr(w:World)(t:TypeId)(m:Nat):gn (w.alloc (.cells #[.int .i64 0,.int .i64 1,.int .i64 2,.int .i64 m] t)) w.heap.size 0 4 (qc m):=by
 intro j c;have:=aU (o:=0+j) (fM w (.cells #[.int .i64 0,.int .i64 1,.int .i64 2,.int .i64 m] t));rcases j with _|_|_|_|j
 .exact this
 .exact this
 .exact this
 .exact this
 .omega
def Ns{m j:Nat}(hm:(m:Int)<=max 9 0):0<=qc m j/\qc m j<=9:=by unfold qc;split<;>omega
def qd(m:Nat)(j:Nat):Int:=match j with|0=>0|1=>1|2=>2|3=>3|_=>m
def Nt(w:World)(t:TypeId)(m:Nat):gn (w.alloc (.cells #[.int .i64 0,.int .i64 1,.int .i64 2,.int .i64 3,.int .i64 m] t)) w.heap.size 0 5 (qd m):=by
 intro j c;have:=aU (o:=0+j) (fM w (.cells #[.int .i64 0,.int .i64 1,.int .i64 2,.int .i64 3,.int .i64 m] t));rcases j with _|_|_|_|_|j
 .exact this
 .exact this
 .exact this
 .exact this
 .exact this
 .omega
def Nu{m j:Nat}(hm:(m:Int)<=max 9 0):0<=qd m j/\qd m j<=9:=by unfold qd;split<;>omega
def zz:∃i,(ao A).info? 27=some i/\i.zero=some (.agg #[.int .i64 0,.slice none 0 0])/\i.size=2/\i.bytes=32:=⟨_,rfl,rfl,rfl,rfl⟩
def TH:Value->Int
 |.int _ n=>n
 |_=>0
def zp(K:Nat)(v:Value):Array Value:=#[.int .i64 K,v,.slice none 0 0,.slice none 0 0]
def Q6[S:Std A](T g:Nat)(L:Value)(dg:g<1000)(w:World)(h:fS w T L g):
 Calls (ao A) 24 #[.pointer (some ⟨T,0,none⟩)] w λe w'=>∃(d:cC) (p:eg) (g':Nat),d.ok/\e=.returned (.agg (dv d p))/\e' w' d p/\p.off d T/\g'<=g+100/\fS w' T L g'/\w.grownBy w' (some T):=by
 have dd:T<w.heap.size:=h.lt;obtain⟨bd,ax,b2,b4,b5⟩:=wL (A:=A);have aY:=al ax;have a0:=al b2;have a1:=al b4;have a2:=al b5;have bj:w.grownBy (w.alloc (.cells #[.int .i64 0,.slice none 0 0,.slice none 0 0,.slice none 0 0] 25)) (some T):=bT;have ek:fS (w.alloc (.cells #[.int .i64 0,.slice none 0 0,.slice none 0 0,.slice none 0 0] 25)) T L g:=h.alloc _;have bq:=al (Bc (A:=A) T g L U 1 3 U _ ek);have bn:=al h.nm;clear h ax b2 b4 b5;go_enter (S.f Tryz.func24),Tryz.ntmps24;go_wp2_with (go_at_call 51;refine bq.out.mono ?_;rintro e aM ⟨K,rfl,c8,c9,q,f⟩;have bo:=al q;have aN:=al f;clear q f)
 have cy:1<=K/\K<=3:=U;obtain⟨w2,ay⟩:∃w2,aM.alloc (.cells #[.int .i64 K,.slice none 0 0,.slice none 0 0,.slice none 0 0] 25)=w2:=⟨_,rfl⟩
 have bU:w.heap.size<aM.heap.size:=by have:=aN.out.size;simp at this;omega
 have cQ:tz L aM.heap.size:=by exact bn.out.off (Nat.le_of_lt bU)
 have a3:hz w2 T aM.heap.size L 25 (g+1) (zp K (.slice none 0 0)) w2:=by rw[<-ay];exact hz.start (fM _ _) (bo.out.alloc _) U cQ
 have ak:w.grownBy w2 (some T):=by rw[<-ay];exact(bj.trans aN.out).trans bT
 have ca:w2.heap[w.heap.size]?=some (.cells #[.int .i64 0,.slice none 0 0,.slice none 0 0,.slice none 0 0] 25):=by rw[<-ay];exact(dm bU).trans ((aN.out.block _ aF (λe=>by have:=bD e;omega)).trans (fM _ _))
 rw[ay];have cl:=al ay;clear ay bo bq bj ek;generalize aM.heap.size=b at *;go_loopw [4] (λi wr=>∃(k g':Nat) (Y:Value) (xs:List Int),k<=K/\i=.int .i64 k/\g'<=g+1+2*k/\hz w2 T b L 25 g' (zp K Y) wr/\wr.ownsRow w2.heap.size 3 1 Y k (xs.map gi)/\xs.length=k/\∀x∈xs,0<=x/\x<=9) (λi _=>K-(TH i).toNat)
 case atStart=>exact⟨0,g+1,_,[],U,by go_num,U,a3,⟨rfl,.inl ⟨rfl,rfl⟩⟩,rfl,λx G=>by simp at G⟩
 case round=>
  obtain⟨k,g',Y,xs,dp,rfl,dh,M,B,hlen,bK⟩:=hrel;by_cases R:k<K
  .have hd:decide ((k:Int)<K)=true:=by simpa using R
   have aH:decide (k<K)=true:=by simpa using R
   have bx:wr.cell? ⟨b,0,none⟩=some (.int .i64 K):=aU M.blk;have cr:wr.cell? ⟨b,1,none⟩=some Y:=aU M.blk;have z:=al M;have Q:=al B;have aG:some b≠some T:=λe=>by have:=bD e;have:=M.m8;omega
   have bb:b<wr.heap.size:=bu M.blk;have bH:T<b:=M.m8;have dt:=M.cf.size;have ba:=M.dQ;clear M a3 B;go_wp2;simp only[wV];have cM:=wW;go_region_held3 (λ_=>True) (exact trivial) (first
    |(go_at_call 9;refine(PG (A:=A) T g' L (by omega) 9 (by omega) _ (by exact z.out.rD.of rfl)).mono ?_;rintro e C ⟨m,rfl,hm,q,f⟩;have d1:=f.cell (cr.trans rfl) aG;have d2:∀o:Obj,(C.alloc o).cell? ⟨b,1,none⟩=some Y:=(λo=>(hD _ _ _ (gu bb f.size)).trans d1);have aD:=al q;have J:=al f;clear q f)
    |(go_at_call 52;refine(CQ (A:=A) T (g'+1) L (by omega) C.heap.size 0 4 4 (qc m) (by omega) _ (by exact aD.out.alloc _) (by have:=aD.out.lt;omega) (by exact Nr _ _ m)).mono ?_;rintro e aq ⟨j,dl,rfl,q,f⟩;have d3:=f.cell (hD _ _ _ (gu bb J.out.size) |>.trans d1) aG;have d4:∀o:Obj,(aq.alloc o).cell? ⟨b,1,none⟩=some Y:=(λo=>(hD _ _ _ (gu bb (cL J.out.size (cL (by simp) f.size)))).trans d3);have aZ:=al q;have ad:=al f;clear q f)
    |(refine step_append_lies _ (by rfl) _ _ _ (by rfl) w2.heap.size 3 bd (.int .i64 0) 1 8 (ao.underlying22 A) aY.out a0.out a1.out a2.out rfl (by omega) Y k (xs.map gi) (by rfl) (EA Q.out (Nat.lt_trans bH ba) J.out ad.out) ⟨aq.heap.size,0,none⟩ 1 1 [.int .i64 (qc m j)] (by rfl) (by rfl) (World.news_of_block (cs:=#[.int .i64 (qc m j)]) (t:=3) (fr:=(0,0)) (heap_alloc_new aq _)) (by simp[Value.oneCell']) (by omega) (by unfold maxLen;omega) (by omega) (by have:=Gn J.out ad.out;simp;omega) (aq.heap.size+1) (by simp) ?_;intro au cap aA aK F ai cO;have q1:aA.heap[b]?=some (.cells (zp K Y) 25):=B0 z.out.blk Q.out bH ba J.out ad.out F;have bh:=aU (o:=1) q1;have bi:=b3 (o:=1) q1;have a5:=al aK;have aW:=al F;clear aK F ai))
   all_goals (
    have aJ:=z.out.round Q.out J.out ad.out aZ.out aW.out (.slice (some ⟨au,0,none⟩) (k+1) cap) 1 a5.out;have aB:=al aJ;clear aJ;go_wp2;exact⟨⟨k+1,g'+1+1,_,xs++[qc m j],U,by push_cast;rfl,U,aB.out.1,by rw[List.map_append];exact aB.out.2,by simp[hlen],λx G=>(List.mem_append.1 G).elim (bK x) λh=>by rw[ev h];exact Ns hm⟩,by show K-((k:Int)+1).toNat<K-(k:Int).toNat;omega⟩)
  .have hd:decide ((k:Int)<K)=false:=by simpa using R
   have aH:decide (k<K)=false:=by simpa using R
   obtain rfl:k=K:=U;have cN:=hlen;have cG:=bK;have bx:wr.cell? ⟨b,0,none⟩=some (.int .i64 k):=aU M.blk;clear a3;have br:=al (Bc (A:=A) T g' L U 1 3 U _ M.rD);go_wp2_with (go_at_call 51;refine br.out.mono ?_;rintro e H ⟨N,rfl,da,db,q,f⟩;have bp:=al q;have aa:=al f;clear q f)
   have aG:(some b:Option Nat)≠some T:=λe=>by have:=bD e;have:=M.m8;omega
   have s2:=M.cf.size;have cW:=aa.out.size;have cE:=M.m8;have ba:=M.dQ;have aR:H.heap[b]?=some (.cells (oh k Y (.slice none 0 0) (.slice none 0 0)) 25):=(aa.out.block b U aG).trans M.blk;have bt:H.ownsRow w2.heap.size 3 1 Y k (xs.map gi):=j4 B λg ah W=>aa.out.block g W λe=>by have:=bD e;omega
   obtain⟨E,cA,c1,rfl,c6,c7,bC,bE⟩:=xj bt U;have bk:w.grownBy H (some T):=by refine⟨aa.out.os.trans (M.cf.os.trans ak.os),aa.out.tape.trans (M.cf.tape.trans ak.tape),aa.out.output.trans (M.cf.output.trans ak.output),cL ak.size (cL s2 cW),λi ax P=>?_⟩;have ah:=ak.size;refine(aa.out.block i U P).trans ((M.cf.block i U (λe=>e.elim (λe=>P (by rw[e])) (λe=>U))).trans (ak.block i ax P))
   have cb:H.heap[w.heap.size]?=some (.cells #[.int .i64 0,.slice none 0 0,.slice none 0 0,.slice none 0 0] 25):=(aa.out.block _ U (λe=>by have:=bD e;omega)).trans ((M.cf.block _ U U).trans ca);have bw:qF H T b L (g'+1) k (.slice (some ⟨E,0,none⟩) k cA) [] 0 (.slice none 0 0) H:=
    ⟨hz.start aR bp.out cE M.off,⟨rfl,.inl ⟨rfl,rfl⟩⟩,λr P=>by simp at P,λr P=>by simp at P,.nil,λr P=>by simp at P,λ_=>rfl,λr P=>by simp at P⟩
   have bm:=al (And.intro bC bE);have ce:=al bk;clear M B bt bC bE bk ak aN cl aa bp br;have cz:1<=N/\N<=3:=U;go_loopw [5,6] (λi l cY=>∃(fr left ae:Nat) (rs:List mh) (Z:Value),i=.int .i64 fr/\l=.int .i64 left/\rs.length+left=N/\ae<=g'+1+20*rs.length/\qF H T b L ae k (.slice (some ⟨E,0,none⟩) k cA) rs fr Z cY) (λ_ l _=>(TH l).toNat)
   case atStart=>exact⟨0,N,g'+1,[],_,by go_num,rfl,aF,aF,bw⟩
   case round=>
    clear bw;obtain⟨fr,left,ae,rs,Z,rfl,rfl,cB,di,V⟩:=hrel;by_cases hgo:0<left/\fr<5
    .have q1:decide ((0:Int)<left)=true:=cH
     have bh:decide (0<left)=true:=by simpa using hgo.1
     obtain⟨dr,bO⟩:=hgo
     .have bi:decide ((fr:Int)<5)=true:=cH
      have cV:decide (fr<5)=true:=by simpa using bO
      obtain⟨I,bW⟩:∃x,x=wr:=⟨_,rfl⟩
      rw[<-bW]at V ⊢;clear bW;have u:=al V;clear V;have cR:b<I.heap.size:=bu u.out.hq.blk;go_wp2;obtain⟨C,az⟩:∃C,I.alloc (.cells #[.int .i64 fr,.slice none 0 0] 27)=C:=⟨_,rfl⟩
      have a9:T<I.heap.size:=U;have bs:hz C T I.heap.size L 27 ae #[.int .i64 fr,.slice none 0 0] C:=by rw[<-az];exact hz.start (fM _ _) (u.out.hq.rD.alloc _) a9 (u.out.hq.nm.off u.out.hq.cf.size)
      have z5:C.heap.size=I.heap.size+1:=by rw[<-az];simp
      rw[az];go_loopw [8] (λi b8=>∃(j ag:Nat) (aj:Value) (ys:List Int),j<=k/\i=.int .i64 j/\ag<=ae+2*j/\hz C T I.heap.size L 27 ag #[.int .i64 fr,aj] b8/\b8.ownsRow C.heap.size 3 1 aj j (ys.map gi)/\ys.length=j/\∀x∈ys,0<=x/\x<=9) (λi _=>k-(TH i).toNat)
      case atStart=>exact⟨0,ae,_,[],U,by go_num,U,bs,⟨rfl,.inl ⟨rfl,rfl⟩⟩,rfl,λx G=>by simp at G⟩
      case round=>
       obtain⟨j,ag,aj,ys,dn,rfl,dk,M,B,b1,b0⟩:=hrel;have bA:wr.heap[b]?=some (.cells (oh k (.slice (some ⟨E,0,none⟩) k cA) Z (.slice none 0 0)) 25):=(M.cf.block b U U).trans (by rw[<-az];exact(dm cR).trans u.out.hq.blk);have bx:wr.cell? ⟨b,0,none⟩=some (.int .i64 k):=aU bA;have bS:some I.heap.size≠some T:=λe=>by have:=bD e;omega
       have bc:I.heap.size<wr.heap.size:=bu M.blk;have du:=M.cf.size;have r1:wr.cell? ⟨I.heap.size,1,none⟩=some aj:=aU M.blk;have bJ:=M.dQ;clear bs;by_cases R:j<k
       .have hd:decide ((j:Int)<k)=true:=by simpa using R
        have aH:decide (j<k)=true:=by simpa using R
        have z:=al M;have Q:=al B;clear M B;go_wp2;simp only[wV];have cM:=wW;go_region_held3 (λ_=>True) (exact trivial) (first
         |(go_at_call 9;refine(PG (A:=A) T ag L (by omega) 9 (by omega) _ (by exact z.out.rD.of rfl)).mono ?_;rintro e aq ⟨m,rfl,hm,q,f⟩;have d1:=f.cell (r1.trans rfl) bS;have d2:∀o:Obj,(aq.alloc o).cell? ⟨I.heap.size,1,none⟩=some aj:=(λo=>(hD _ _ _ (gu bc f.size)).trans d1);have aD:=al q;have J:=al f;clear q f)
         |(go_at_call 52;refine(CQ (A:=A) T (ag+1) L (by omega) aq.heap.size 0 5 5 (qd m) (by omega) _ (by exact aD.out.alloc _) (by have:=aD.out.lt;omega) (by exact Nt _ _ m)).mono ?_;rintro e aA ⟨y,dw,rfl,q,f⟩;have d3:=f.cell (hD _ _ _ (gu bc J.out.size) |>.trans d1) bS;have d4:∀o:Obj,(aA.alloc o).cell? ⟨I.heap.size,1,none⟩=some aj:=(λo=>(hD _ _ _ (gu bc (cL J.out.size (cL (by simp) f.size)))).trans d3);have aZ:=al q;have ad:=al f;clear q f)
         |(refine step_append_lies _ (by rfl) _ _ _ (by rfl) C.heap.size 3 bd (.int .i64 0) 1 8 (ao.underlying22 A) aY.out a0.out a1.out a2.out rfl (by omega) aj j (ys.map gi) (by rfl) (EA Q.out (Nat.lt_trans a9 bJ) J.out ad.out) ⟨aA.heap.size,0,none⟩ 1 1 [.int .i64 (qd m y)] (by rfl) (by rfl) (World.news_of_block (cs:=#[.int .i64 (qd m y)]) (t:=3) (fr:=(0,0)) (heap_alloc_new aA _)) (by simp[Value.oneCell']) (by omega) (by unfold maxLen;omega) (by omega) (by have:=Gn J.out ad.out;simp;omega) (aA.heap.size+1) (by simp) ?_;intro au cap aV aK F ai cO;have af:aV.heap[I.heap.size]?=some (.cells #[.int .i64 fr,aj] 27):=B0 z.out.blk Q.out a9 bJ J.out ad.out F;have aT:=aU (o:=1) af;have b7:=b3 (o:=1) af;have a5:=al aK;have aW:=al F;clear aK F ai))
        all_goals (
         have aJ:=z.out.round Q.out J.out ad.out aZ.out aW.out (.slice (some ⟨au,0,none⟩) (j+1) cap) 1 a5.out;have aB:=al aJ;clear aJ;go_wp2;exact⟨⟨j+1,ag+1+1,_,ys++[qd m y],U,by push_cast;rfl,U,aB.out.1,by rw[List.map_append];exact aB.out.2,by simp[b1],λx G=>(List.mem_append.1 G).elim (b0 x) λh=>by rw[ev h];exact Nu hm⟩,by show k-((j:Int)+1).toNat<k-(j:Int).toNat;omega⟩)
       .have hd:decide ((j:Int)<k)=false:=by simpa using R
        have aH:decide (j<k)=false:=by simpa using R
        obtain rfl:j=k:=U;obtain⟨bB,cq,c2,rfl,_,_,_,_⟩:=xj B U;have r0:wr.cell? ⟨I.heap.size,0,none⟩=some (.int .i64 fr):=aU M.blk;have c0:wr.cell? ⟨b,2,none⟩=some Z:=aU bA;have z4:H.heap.size<=I.heap.size:=u.out.hq.cf.size;have bv:∀o:Obj,(wr.alloc o).ownsRow H.heap.size 27 2 Z rs.length (mJ j rs):=λo=>j4 u.out.own λi ah W=>(dm U).trans ((M.cf.block i U U).trans (by rw[<-az];exact dm W))
        subst az;have z:=al M;have Q:=al B;have ch:=al bv;have ds:rs.length<=2:=U;have df:∀r,Z.ownBlock=some r->H.heap.size<=r:=λr e=>(rh u.out.own r e).1
        have de:T<H.heap.size/\b<H.heap.size:=⟨U,u.out.hq.dQ⟩
        clear M B bv;obtain⟨cS,bP,bX,bY,bZ⟩:=zz (A:=A);have cg:=al bP;have cm:=al bX;have cn:=al bY;have co:=al bZ;clear bP bX bY bZ;go_wp2_with (first
         |(at_builtin;refine wpList_append_lies _ rfl _ _ 23 rfl H.heap.size 27 cS (.agg #[.int .i64 0,.slice none 0 0]) 2 32 av cg.out cm.out cn.out co.out rfl a6 Z rs.length (mJ j rs) rfl (ch.out _) ⟨wr.heap.size,0,none⟩ 1 1 [.int .i64 fr,.slice (some ⟨bB,0,none⟩) j cq] rfl rfl (World.news_of_block (cs:=#[.int .i64 fr,.slice (some ⟨bB,0,none⟩) j cq]) (t:=27) (fr:=(0,0)) (heap_alloc_new wr _)) (by simp[Value.oneCell']) U kj U cH (wr.heap.size+1) aF ?_;intro au cap aV aL F ai cP;obtain⟨t8,af⟩:=u.out.Re z.out F;have ci:=al t8;clear t8;have a7:=al aL;have aX:=al F;have b9:=al ai;clear aL F ai)
         |(go_at_call 51;refine(Bc (A:=A) T ag L (by omega) 1 3 (by omega) aV ci.out).mono ?_;rintro e dH ⟨D,rfl,c4,c5,q,f⟩;have aT:=(f.block b (bu af) aG).trans af;have b7:=aU (o:=2) aT;have dF:=b3 (o:=2) aT;have cj:=al q;have cf:=al f;clear q f))
        obtain⟨r,cp⟩:=u.out.round bO U z.out Q.out b1 b0 aX.out b9.out a7.out cf.out cj.out (fr+D) U;exact⟨⟨fr+D,left-1,ag+1,rs++[r],_,by push_cast;rfl,by congr 1;omega,cH,cH,cp⟩,by show((left:Int)-1).toNat<(left:Int).toNat;omega⟩
    .have bR:rs≠[]:=by rintro rfl;have:=V.top.1 rfl;simp at cB;omega
     obtain⟨wd,bV⟩:∃x,x=wr:=⟨_,rfl⟩
     rw[<-bV]at V ⊢;clear bV;have bM:∀(n:List Nat) (j:Nat),n.Pairwise (· < ·)->(∀x∈n,x<j)->n.length<=j:=λn j ah W=>Lw ah W
     have a4:hz wd T b L 25 ae (oh k (.slice (some ⟨E,0,none⟩) k cA) Z (.slice none 0 0)) wd:=hz.start V.hq.blk V.hq.rD V.hq.m8 V.hq.off;have u:=al V;clear V;have hlen:rs.length<=N:=U;have cK:(decide ((0:Int)<left)=false/\decide (0<left)=false)\/(decide ((0:Int)<left)=true/\decide (0<left)=true/\decide ((fr:Int)<5)=false/\decide (fr<5)=false):=by
      by_cases h:0<left
      .exact .inr ⟨cH,cH,cH,cH⟩
      .exact .inl ⟨cH,cH⟩
     rcases cK with⟨q1,bh⟩|⟨q1,bh,bi,cV⟩
     all_goals (
      go_wp2;go_loopw [9] (λi wr=>∃(j am:Nat) (ap:Value) (n:List Nat),j<=5/\i=.int .i64 j/\am<=ae+j/\hz wd T b L 25 am (oh k (.slice (some ⟨E,0,none⟩) k cA) Z ap) wr/\wr.ownsRow wd.heap.size 3 1 ap n.length (n.map λ(x:Nat)=>gi x)/\n.Pairwise (· < ·)/\∀x∈n,x<j) (λi _=>5-(TH i).toNat)
      case atStart=>exact⟨0,ae,_,[],U,by go_num,U,a4,⟨rfl,.inl ⟨rfl,rfl⟩⟩,.nil,λx G=>by simp at G⟩
      case round=>
       obtain⟨j,am,ap,n,bQ,rfl,dj,M,B,aE,aw⟩:=hrel;by_cases R:j<5
       .have hd:decide ((j:Int)<5)=true:=cH
        have aH:decide (j<5)=true:=by simpa using R
        have bN:n.length<=5:=cL (bM n j aE aw) bQ;have aC:=al (E1 (A:=A) T am L (by have:=cz.2;have:rs.length<=3:=U;omega) 4 U wr M.rD);have z:=al M;have Q:=al B;clear M B a4;go_wp2_with (first
         |(at_builtin;refine wpList_append_lies _ rfl _ _ 22 rfl wd.heap.size 3 bd (.int .i64 0) 1 8 (ao.underlying22 A) aY.out a0.out a1.out a2.out rfl U ap n.length (n.map λ(x:Nat)=>gi x) rfl (j4 aP.out λg ah W=>dm W) ⟨C.heap.size,0,none⟩ 1 1 [.int .i64 j] rfl rfl (World.news_of_block (cs:=#[.int .i64 j]) (t:=3) (fr:=(0,0)) (heap_alloc_new C _)) (by simp[Value.oneCell']) U kj U (by have:=aO.out.cf.size;simp;omega) (C.heap.size+1) aF ?_;intro au cap aV aL F ai cP;have af:=aO.out.gB aP.out F;have aT:=aU (o:=3) af;have b7:=b3 (o:=3) af;have a7:=al aL;have aX:=al F;clear aL F ai af)
         |(go_at_call 25;refine aC.out.mono ?_;rintro e C ⟨cZ,rfl,q,f⟩;obtain⟨bf,b6⟩:=z.out.called Q.out f q;have bi:C.cell? ⟨b,3,none⟩=some ap:=aU bf.blk;have aO:=al bf;have aP:=al b6;clear q f bf b6))
        all_goals first
         |exact⟨⟨j+1,am+1,ap,n,U,by push_cast;rfl,U,aO.out,aP.out,aE,λx G=>Nat.lt_succ_of_lt (aw x G)⟩,by show 5-((j:Int)+1).toNat<5-(j:Int).toNat;omega⟩
         |(obtain⟨cT,cU⟩:=aO.out.put aP.out aX.out (.slice (some ⟨au,0,none⟩) (n.length+1) cap) 3 a7.out
           refine⟨⟨j+1,am+1,_,n++[j],U,by push_cast;rfl,U,cT,?_,?_,λx G=>(List.mem_append.1 G).elim (λh=>Nat.lt_succ_of_lt (aw x h)) λh=>by rw[ev h];exact Nat.lt_succ_self j⟩,by show 5-((j:Int)+1).toNat<5-(j:Int).toNat;omega⟩
           .rw[List.length_append,List.map_append];exact cU
           .rw[List.pairwise_append];exact⟨aE,aF,λa cF c cI=>by rw[ev cI];exact aw a cF⟩)
       .have hd:decide ((j:Int)<5)=false:=cH
        have aH:decide (j<5)=false:=by simpa using R
        have bN:n.length<=5:=cL (bM n j aE aw) bQ;have dB:wr.cell? ⟨b,0,none⟩=some (.int .i64 k):=aU M.blk;have dC:wr.cell? ⟨b,1,none⟩=some (.slice (some ⟨E,0,none⟩) k cA):=aU M.blk;have dD:wr.cell? ⟨b,2,none⟩=some Z:=aU M.blk;have dE:wr.cell? ⟨b,3,none⟩=some ap:=aU M.blk;have dG:=u.out.hq.cf.size;have X:wr.heap[w.heap.size]?=some (.cells #[.int .i64 0,.slice none 0 0,.slice none 0 0,.slice none 0 0] 25):=(M.cf.block _ U U).trans ((u.out.hq.cf.block _ U U).trans cb);have dx:=aU (o:=0) X;have dy:=aU (o:=1) X;have dz:=aU (o:=2) X;have dA:=aU (o:=3) X;have f0:=b3 (o:=0) X;have f1:=b3 (o:=1) X;have f2:=b3 (o:=2) X;have f3:=b3 (o:=3) X;have cc:=al X;obtain⟨ar,dq,c3,rfl,cD,bF,bG⟩:=xk u.out.own (λh=>bR (List.eq_nil_of_length_eq_zero h));obtain⟨aS,dc,rfl,bI⟩:=M5 B;have z:=al M;have Q:=al B;have ck:=al bI;have aC:=al (And.intro bF bG);clear M B X a4 bI bF bG;go_wp2;refine bodyPost_ret (results_cell_row rfl _ _ w.heap.size 25 #[.int .i64 k,.slice (some ⟨E,0,none⟩) k cA,.slice (some ⟨ar,0,none⟩) rs.length dq,.slice aS n.length dc] (0,0) _ rfl (KB cc.out) (ao.underlying25 A) rfl FA) rfl ?_;have aI:∀i,i≠w.heap.size->(sj wr w.heap.size (.int .i64 k) (.slice (some ⟨E,0,none⟩) k cA) (.slice (some ⟨ar,0,none⟩) rs.length dq) (.slice aS n.length dc)).heap[i]?=wr.heap[i]?:=λi ax=>C4 ax
        have bL:∀i,H.heap.size<=i->i<wd.heap.size->wr.heap[i]?=wd.heap[i]?:=λi ah W=>z.out.cf.block i W U
        have cJ:wr.heap[E]?=H.heap[E]?:=(z.out.cf.block E U U).trans (u.out.hq.cf.block E U U);obtain⟨d,p,ah,W,cw,cx⟩:=LZ (w:=sj wr w.heap.size (.int .i64 k) (.slice (some ⟨E,0,none⟩) k cA) (.slice (some ⟨ar,0,none⟩) rs.length dq) (.slice aS n.length dc)) (T:=T) (cA:=cA) (dq:=dq) (dc:=dc) cy
         ((aI E U).trans (cJ.trans bm.out.1)) bm.out.2 cN cG ((aI ar U).trans ((bL ar cD (bu aC.out.1)).trans aC.out.1)) aC.out.2 ⟨by have:rs.length≠0:=(λh=>bR (List.eq_nil_of_length_eq_zero h));omega,U⟩
         (λr P=>by obtain⟨⟨cur,aQ,bz⟩,a8,aR⟩:=u.out.cQ r P;exact⟨⟨cur,(aI _ U).trans ((bL _ a8 (bu aQ)).trans aQ),bz⟩,U⟩)
         u.out.hL u.out.qK u.out.zero (λcv=>by obtain⟨cu,ct,aQ,bz,a8,aR⟩:=ck.out cv;exact⟨cu,ct,aQ,U,(aI _ U).trans a8,aR⟩) bN aE (λx G=>by have:=aw x G;omega) ⟨U,U⟩
        have bl:=KC (c:=w.heap.size) (a:=.int .i64 k) (b:=.slice (some ⟨E,0,none⟩) k cA) (d:=.slice (some ⟨ar,0,none⟩) rs.length dq) (e:=.slice aS n.length dc) (K0 ce.out u.out.hq.cf z.out.cf U) bg;obtain⟨cX,t9,t10⟩:=z.out.st;exact⟨d,p,am,ah,by rw[W],cw,cx,U,⟨⟨cX,(aI T U).trans t9,t10⟩,bn.out.keep bl⟩,bl⟩)
end
end Go.aO
