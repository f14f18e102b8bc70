/- A part. -/
import Derived.Test.YtejkocoljbaioaaGreatDoorP30
set_option maxHeartbeats 8000000
set_option maxRecDepth 100000
set_option linter.all false
namespace Go.aO
open Go.Proofs Go.RowKit
section
variable{A:Array Func}
def qc(m:Nat)(j:Nat):Int:=match j with|0=>0|1=>1|2=>2|_=>m
def Nr(w:World)(t:TypeId)(m:Nat):gn (w.alloc (.cells #[ah 0,ah 1,ah 2,ah m] t)) w.heap.size 0 4 (qc m):=by
 intro j c;have:=aU (o:=0+j) (fM w (.cells #[ah 0,ah 1,ah 2,ah m] t));rcases j with _|_|_|_|j
 .exact this
 .exact this
 .exact this
 .exact this
 .omega
def Ns{m j:Nat}(hm:(m:Int)<=max 9 0):0<=qc m j/\qc m j<=9:=by unfold qc;split<;>omega
def qd(m:Nat)(j:Nat):Int:=match j with|0=>0|1=>1|2=>2|3=>3|_=>m
def Nt(w:World)(t:TypeId)(m:Nat):gn (w.alloc (.cells #[ah 0,ah 1,ah 2,ah 3,ah m] t)) w.heap.size 0 5 (qd m):=by
 intro j c;have:=aU (o:=0+j) (fM w (.cells #[ah 0,ah 1,ah 2,ah 3,ah m] t));rcases j with _|_|_|_|_|j
 .exact this
 .exact this
 .exact this
 .exact this
 .exact this
 .omega
def Nu{m j:Nat}(hm:(m:Int)<=max 9 0):0<=qd m j/\qd m j<=9:=by unfold qd;split<;>omega
def zz:∃i,(ao A).info? 27=some i/\i.zero=some (.agg #[ah 0,.slice none 0 0])/\i.size=2/\i.bytes=32:=⟨_,rfl,rfl,rfl,rfl⟩
def TH:Value->Int
 |.int _ n=>n
 |_=>0
def zp(K:Nat)(v:Value):Array Value:=#[ah K,v,.slice none 0 0,.slice none 0 0]
def Q6[S:Std A](T g:Nat)(L:Value)(df:g<1000)(w:World)(h:fS w T L g):
 Calls (ao A) 32 #[.pointer (some ⟨T,0,none⟩)] w λe w'=>∃(d:cC) (p:eg) (g':Nat),d.ok/\e=.returned (.agg (dv d p))/\e' w' d p/\p.off d T/\g'<=g+100/\fS w' T L g'/\w.grownBy w' (some T):=by
 have de:T<w.heap.size:=h.lt;obtain⟨bf,ay,b4,b5,b6⟩:=wL (A:=A);have aZ:=al ay;have a1:=al b4;have a2:=al b5;have a3:=al b6;have bk:w.grownBy (w.alloc (.cells #[ah 0,.slice none 0 0,.slice none 0 0,.slice none 0 0] 25)) (some T):=bT;have ek:fS (w.alloc (.cells #[ah 0,.slice none 0 0,.slice none 0 0,.slice none 0 0] 25)) T L g:=h.alloc _;have br:=al (Bc (A:=A) T g L U 1 3 U _ ek);have bo:=al h.nm;clear h ay b4 b5 b6;go_enter (S.f Tryz.func32),Tryz.ntmps32;go_wp2_with (go_at_call 13;refine br.out.mono ?_;rintro e aN ⟨K,rfl,c9,da,u,f⟩;have bp:=al u;have aO:=al f;clear u f)
 have cz:1<=K/\K<=3:=U;obtain⟨w2,az⟩:∃w2,aN.alloc (.cells #[ah K,.slice none 0 0,.slice none 0 0,.slice none 0 0] 25)=w2:=⟨_,rfl⟩
 have bV:w.heap.size<aN.heap.size:=by have:=aO.out.size;simp at this;omega
 have cR:tz L aN.heap.size:=by exact bo.out.off (Nat.le_of_lt bV)
 have a4:hz w2 T aN.heap.size L 25 (g+1) (zp K (.slice none 0 0)) w2:=by rw[<-az];exact hz.start (fM _ _) (bp.out.alloc _) U cR
 have ap:w.grownBy w2 (some T):=by rw[<-az];exact(bk.trans aO.out).trans bT
 have cb:w2.heap[w.heap.size]?=some (.cells #[ah 0,.slice none 0 0,.slice none 0 0,.slice none 0 0] 25):=by rw[<-az];exact(dm bV).trans ((aO.out.block _ aF (λe=>by have:=bD e;omega)).trans (fM _ _))
 rw[az];have cm:=al az;clear az bp br bk ek;generalize aN.heap.size=b at *;go_loopw [4] (λi wr=>∃(k g':Nat) (Z:Value) (xs:List Int),k<=K/\i=ah k/\g'<=g+1+2*k/\hz w2 T b L 25 g' (zp K Z) wr/\wr.ownsRow w2.heap.size 3 1 Z k (xs.map gi)/\xs.length=k/\∀x∈xs,0<=x/\x<=9) (λi _=>K-(TH i).toNat)
 case atStart=>exact⟨0,g+1,_,[],U,by go_num,U,a4,⟨rfl,.inl ⟨rfl,rfl⟩⟩,rfl,λx H=>by simp at H⟩
 case round=>
  obtain⟨k,g',Z,xs,dn,rfl,dg,M,C,hlen,bL⟩:=hrel;by_cases R:k<K
  .have hd:decide ((k:Int)<K)=true:=by simpa using R
   have aI:decide (k<K)=true:=by simpa using R
   have bx:wr.cell? ⟨b,0,none⟩=some (ah K):=aU M.blk;have ct:wr.cell? ⟨b,1,none⟩=some Z:=aU M.blk;have B:=al M;have Q:=al C;have aH:some b≠some T:=λe=>by have:=bD e;have:=M.m8;omega
   have bc:b<wr.heap.size:=bu M.blk;have bI:T<b:=M.m8;have ds:=M.cf.size;have bb:=M.dQ;clear M a4 C;go_wp2;simp only[wV];have cN:=wW;go_region_held3 (λ_=>True) (exact trivial) (first
    |(go_at_call 12;refine(PG (A:=A) T g' L (by omega) 9 (by omega) _ (by exact B.out.rD.of rfl)).mono ?_;rintro e E ⟨m,rfl,hm,u,f⟩;have d1:=f.cell (ct.trans rfl) aH;have d2:∀o:Obj,(E.alloc o).cell? ⟨b,1,none⟩=some Z:=(λo=>(hD _ _ _ (gu bc f.size)).trans d1);have aE:=al u;have J:=al f;clear u f)
    |(go_at_call 35;refine(CQ (A:=A) T (g'+1) L (by omega) E.heap.size 0 4 4 (qc m) (by omega) _ (by exact aE.out.alloc _) (by have:=aE.out.lt;omega) (by exact Nr _ _ m)).mono ?_;rintro e au ⟨j,dk,rfl,u,f⟩;have d3:=f.cell (hD _ _ _ (gu bc J.out.size) |>.trans d1) aH;have d4:∀o:Obj,(au.alloc o).cell? ⟨b,1,none⟩=some Z:=(λo=>(hD _ _ _ (gu bc (cL J.out.size (cL (by simp) f.size)))).trans d3);have a0:=al u;have ad:=al f;clear u f)
    |(refine step_append_lies _ (by rfl) _ _ _ (by rfl) w2.heap.size 3 bf (ah 0) 1 8 (ao.underlying22 A) aZ.out a1.out a2.out a3.out rfl (by omega) Z k (xs.map gi) (by rfl) (EA Q.out (Nat.lt_trans bI bb) J.out ad.out) ⟨au.heap.size,0,none⟩ 1 1 [ah (qc m j)] (by rfl) (by rfl) (World.news_of_block (cs:=#[ah (qc m j)]) (t:=3) (fr:=(0,0)) (heap_alloc_new au _)) (by simp[Value.oneCell']) (by omega) (by unfold maxLen;omega) (by omega) (by have:=Gn J.out ad.out;simp;omega) (au.heap.size+1) (by simp) ?_;intro aw cap aB aL G ak cP;have q1:aB.heap[b]?=some (.cells (zp K Z) 25):=B0 B.out.blk Q.out bI bb J.out ad.out G;have bi:=aU (o:=1) q1;have bj:=b3 (o:=1) q1;have a7:=al aL;have aX:=al G;clear aL G ak))
   all_goals (
    have aK:=B.out.round Q.out J.out ad.out a0.out aX.out (.slice (some ⟨aw,0,none⟩) (k+1) cap) 1 a7.out;have aC:=al aK;clear aK;go_wp2;exact⟨⟨k+1,g'+1+1,_,xs++[qc m j],U,by push_cast;rfl,U,aC.out.1,by rw[List.map_append];exact aC.out.2,by simp[hlen],λx H=>(List.mem_append.1 H).elim (bL x) λh=>by rw[ev h];exact Ns hm⟩,by show K-((k:Int)+1).toNat<K-(k:Int).toNat;omega⟩)
  .have hd:decide ((k:Int)<K)=false:=by simpa using R
   have aI:decide (k<K)=false:=by simpa using R
   obtain rfl:k=K:=U;have cO:=hlen;have cI:=bL;have bx:wr.cell? ⟨b,0,none⟩=some (ah k):=aU M.blk;clear a4;have bs:=al (Bc (A:=A) T g' L U 1 3 U _ M.rD);go_wp2_with (go_at_call 13;refine bs.out.mono ?_;rintro e V ⟨N,rfl,db,dd,u,f⟩;have bq:=al u;have aa:=al f;clear u f)
   have aH:(some b:Option Nat)≠some T:=λe=>by have:=bD e;have:=M.m8;omega
   have s2:=M.cf.size;have cX:=aa.out.size;have cF:=M.m8;have bb:=M.dQ;have aS:V.heap[b]?=some (.cells (oh k Z (.slice none 0 0) (.slice none 0 0)) 25):=(aa.out.block b U aH).trans M.blk;have bv:V.ownsRow w2.heap.size 3 1 Z k (xs.map gi):=j4 C λg aj X=>aa.out.block g X λe=>by have:=bD e;omega
   obtain⟨F,cA,c2,rfl,c7,c8,bE,bF⟩:=xj bv U;have bl:w.grownBy V (some T):=by refine⟨aa.out.os.trans (M.cf.os.trans ap.os),aa.out.tape.trans (M.cf.tape.trans ap.tape),aa.out.output.trans (M.cf.output.trans ap.output),cL ap.size (cL s2 cX),λi ay P=>?_⟩;have aj:=ap.size;refine(aa.out.block i U P).trans ((M.cf.block i U (λe=>e.elim (λe=>P (by rw[e])) (λe=>U))).trans (ap.block i ay P))
   have cc:V.heap[w.heap.size]?=some (.cells #[ah 0,.slice none 0 0,.slice none 0 0,.slice none 0 0] 25):=(aa.out.block _ U (λe=>by have:=bD e;omega)).trans ((M.cf.block _ U U).trans cb);have bz:qF V T b L (g'+1) k (.slice (some ⟨F,0,none⟩) k cA) [] 0 (.slice none 0 0) V:=
    ⟨hz.start aS bq.out cF M.off,⟨rfl,.inl ⟨rfl,rfl⟩⟩,λr P=>by simp at P,λr P=>by simp at P,.nil,λr P=>by simp at P,λ_=>rfl,λr P=>by simp at P⟩
   have bn:=al (And.intro bE bF);have cf:=al bl;clear M C bv bE bF bl ap aO cm aa bq bs;have cB:1<=N/\N<=3:=U;go_loopw [5,6] (λi l cZ=>∃(fr left ae:Nat) (rs:List mh) (ag:Value),i=ah fr/\l=ah left/\rs.length+left=N/\ae<=g'+1+20*rs.length/\qF V T b L ae k (.slice (some ⟨F,0,none⟩) k cA) rs fr ag cZ) (λ_ l _=>(TH l).toNat)
   case atStart=>exact⟨0,N,g'+1,[],_,by go_num,rfl,aF,aF,bz⟩
   case round=>
    clear bz;obtain⟨fr,left,ae,rs,ag,rfl,rfl,cD,dh,W⟩:=hrel;by_cases hgo:0<left/\fr<5
    .have q1:decide ((0:Int)<left)=true:=cH
     have bi:decide (0<left)=true:=by simpa using hgo.1
     obtain⟨dp,bP⟩:=hgo
     .have bj:decide ((fr:Int)<5)=true:=cH
      have cW:decide (fr<5)=true:=by simpa using bP
      obtain⟨I,bX⟩:∃x,x=wr:=⟨_,rfl⟩
      rw[<-bX]at W ⊢;clear bX;have z:=al W;clear W;have cS:b<I.heap.size:=bu z.out.hq.blk;go_wp2;obtain⟨E,aA⟩:∃E,I.alloc (.cells #[ah fr,.slice none 0 0] 27)=E:=⟨_,rfl⟩
      have ba:T<I.heap.size:=U;have bt:hz E T I.heap.size L 27 ae #[ah fr,.slice none 0 0] E:=by rw[<-aA];exact hz.start (fM _ _) (z.out.hq.rD.alloc _) ba (z.out.hq.nm.off z.out.hq.cf.size)
      have z5:E.heap.size=I.heap.size+1:=by rw[<-aA];simp
      rw[aA];go_loopw [8] (λi b9=>∃(j ai:Nat) (am:Value) (ys:List Int),j<=k/\i=ah j/\ai<=ae+2*j/\hz E T I.heap.size L 27 ai #[ah fr,am] b9/\b9.ownsRow E.heap.size 3 1 am j (ys.map gi)/\ys.length=j/\∀x∈ys,0<=x/\x<=9) (λi _=>k-(TH i).toNat)
      case atStart=>exact⟨0,ae,_,[],U,by go_num,U,bt,⟨rfl,.inl ⟨rfl,rfl⟩⟩,rfl,λx H=>by simp at H⟩
      case round=>
       obtain⟨j,ai,am,ys,dl,rfl,dj,M,C,b2,b1⟩:=hrel;have bB:wr.heap[b]?=some (.cells (oh k (.slice (some ⟨F,0,none⟩) k cA) ag (.slice none 0 0)) 25):=(M.cf.block b U U).trans (by rw[<-aA];exact(dm cS).trans z.out.hq.blk);have bx:wr.cell? ⟨b,0,none⟩=some (ah k):=aU bB;have bU:some I.heap.size≠some T:=λe=>by have:=bD e;omega
       have bd:I.heap.size<wr.heap.size:=bu M.blk;have dt:=M.cf.size;have r1:wr.cell? ⟨I.heap.size,1,none⟩=some am:=aU M.blk;have bK:=M.dQ;clear bt;by_cases R:j<k
       .have hd:decide ((j:Int)<k)=true:=by simpa using R
        have aI:decide (j<k)=true:=by simpa using R
        have B:=al M;have Q:=al C;clear M C;go_wp2;simp only[wV];have cN:=wW;go_region_held3 (λ_=>True) (exact trivial) (first
         |(go_at_call 12;refine(PG (A:=A) T ai L (by omega) 9 (by omega) _ (by exact B.out.rD.of rfl)).mono ?_;rintro e au ⟨m,rfl,hm,u,f⟩;have d1:=f.cell (r1.trans rfl) bU;have d2:∀o:Obj,(au.alloc o).cell? ⟨I.heap.size,1,none⟩=some am:=(λo=>(hD _ _ _ (gu bd f.size)).trans d1);have aE:=al u;have J:=al f;clear u f)
         |(go_at_call 35;refine(CQ (A:=A) T (ai+1) L (by omega) au.heap.size 0 5 5 (qd m) (by omega) _ (by exact aE.out.alloc _) (by have:=aE.out.lt;omega) (by exact Nt _ _ m)).mono ?_;rintro e aB ⟨y,du,rfl,u,f⟩;have d3:=f.cell (hD _ _ _ (gu bd J.out.size) |>.trans d1) bU;have d4:∀o:Obj,(aB.alloc o).cell? ⟨I.heap.size,1,none⟩=some am:=(λo=>(hD _ _ _ (gu bd (cL J.out.size (cL (by simp) f.size)))).trans d3);have a0:=al u;have ad:=al f;clear u f)
         |(refine step_append_lies _ (by rfl) _ _ _ (by rfl) E.heap.size 3 bf (ah 0) 1 8 (ao.underlying22 A) aZ.out a1.out a2.out a3.out rfl (by omega) am j (ys.map gi) (by rfl) (EA Q.out (Nat.lt_trans ba bK) J.out ad.out) ⟨aB.heap.size,0,none⟩ 1 1 [ah (qd m y)] (by rfl) (by rfl) (World.news_of_block (cs:=#[ah (qd m y)]) (t:=3) (fr:=(0,0)) (heap_alloc_new aB _)) (by simp[Value.oneCell']) (by omega) (by unfold maxLen;omega) (by omega) (by have:=Gn J.out ad.out;simp;omega) (aB.heap.size+1) (by simp) ?_;intro aw cap aW aL G ak cP;have af:aW.heap[I.heap.size]?=some (.cells #[ah fr,am] 27):=B0 B.out.blk Q.out ba bK J.out ad.out G;have aV:=aU (o:=1) af;have b8:=b3 (o:=1) af;have a7:=al aL;have aX:=al G;clear aL G ak))
        all_goals (
         have aK:=B.out.round Q.out J.out ad.out a0.out aX.out (.slice (some ⟨aw,0,none⟩) (j+1) cap) 1 a7.out;have aC:=al aK;clear aK;go_wp2;exact⟨⟨j+1,ai+1+1,_,ys++[qd m y],U,by push_cast;rfl,U,aC.out.1,by rw[List.map_append];exact aC.out.2,by simp[b2],λx H=>(List.mem_append.1 H).elim (b1 x) λh=>by rw[ev h];exact Nu hm⟩,by show k-((j:Int)+1).toNat<k-(j:Int).toNat;omega⟩)
       .have hd:decide ((j:Int)<k)=false:=by simpa using R
        have aI:decide (j<k)=false:=by simpa using R
        obtain rfl:j=k:=U;obtain⟨bC,cq,c3,rfl,_,_,_,_⟩:=xj C U;have r0:wr.cell? ⟨I.heap.size,0,none⟩=some (ah fr):=aU M.blk;have c1:wr.cell? ⟨b,2,none⟩=some ag:=aU bB;have z4:V.heap.size<=I.heap.size:=z.out.hq.cf.size;have bw:∀o:Obj,(wr.alloc o).ownsRow V.heap.size 27 2 ag rs.length (mJ j rs):=λo=>j4 z.out.own λi aj X=>(dm U).trans ((M.cf.block i U U).trans (by rw[<-aA];exact dm X))
        subst aA;have B:=al M;have Q:=al C;have ci:=al bw;have dr:rs.length<=2:=U;clear M C bw;obtain⟨cT,bQ,bY,bZ,b0⟩:=zz (A:=A);have ch:=al bQ;have cn:=al bY;have co:=al bZ;have cp:=al b0;clear bQ bY bZ b0;go_wp2_with (first
         |(at_builtin;refine wpList_append_lies _ rfl _ _ 23 rfl V.heap.size 27 cT (.agg #[ah 0,.slice none 0 0]) 2 32 av ch.out cn.out co.out cp.out rfl a6 ag rs.length (mJ j rs) rfl (ci.out _) ⟨wr.heap.size,0,none⟩ 1 1 [ah fr,.slice (some ⟨bC,0,none⟩) j cq] rfl rfl (World.news_of_block (cs:=#[ah fr,.slice (some ⟨bC,0,none⟩) j cq]) (t:=27) (fr:=(0,0)) (heap_alloc_new wr _)) (by simp[Value.oneCell']) U kj U cH (wr.heap.size+1) aF ?_;intro aw cap aW aM G ak cQ;obtain⟨t8,af⟩:=z.out.Re B.out G;have cj:=al t8;clear t8;have a8:=al aM;have aY:=al G;have ca:=al ak;clear aM G ak)
         |(go_at_call 13;refine(Bc (A:=A) T ai L (by omega) 1 3 (by omega) aW cj.out).mono ?_;rintro e dG ⟨D,rfl,c5,c6,u,f⟩;have aV:=(f.block b (bu af) aH).trans af;have b8:=aU (o:=2) aV;have dE:=b3 (o:=2) aV;have ck:=al u;have cg:=al f;clear u f))
        obtain⟨r,cr⟩:=z.out.round bP U B.out Q.out b2 b1 aY.out ca.out a8.out cg.out ck.out (fr+D) U;exact⟨⟨fr+D,left-1,ai+1,rs++[r],_,by push_cast;rfl,by congr 1;omega,cH,cH,cr⟩,by show((left:Int)-1).toNat<(left:Int).toNat;omega⟩
    .have bS:rs≠[]:=by rintro rfl;have:=W.top.1 rfl;simp at cD;omega
     obtain⟨wd,bW⟩:∃x,x=wr:=⟨_,rfl⟩
     rw[<-bW]at W ⊢;clear bW;have bN:∀(q:List Nat) (j:Nat),q.Pairwise (· < ·)->(∀x∈q,x<j)->q.length<=j:=λq j aj X=>Lw aj X
     have a5:hz wd T b L 25 ae (oh k (.slice (some ⟨F,0,none⟩) k cA) ag (.slice none 0 0)) wd:=hz.start W.hq.blk W.hq.rD W.hq.m8 W.hq.off;have z:=al W;clear W;have hlen:rs.length<=N:=U;have cM:(decide ((0:Int)<left)=false/\decide (0<left)=false)\/(decide ((0:Int)<left)=true/\decide (0<left)=true/\decide ((fr:Int)<5)=false/\decide (fr<5)=false):=by
      by_cases h:0<left
      .exact .inr ⟨cH,cH,cH,cH⟩
      .exact .inl ⟨cH,cH⟩
     rcases cM with⟨q1,bi⟩|⟨q1,bi,bj,cW⟩
     all_goals (
      go_wp2;go_loopw [9] (λi wr=>∃(j aq:Nat) (ar:Value) (q:List Nat),j<=5/\i=ah j/\aq<=ae+j/\hz wd T b L 25 aq (oh k (.slice (some ⟨F,0,none⟩) k cA) ag ar) wr/\wr.ownsRow wd.heap.size 3 1 ar q.length (q.map λ(x:Nat)=>gi x)/\q.Pairwise (· < ·)/\∀x∈q,x<j) (λi _=>5-(TH i).toNat)
      case atStart=>exact⟨0,ae,_,[],U,by go_num,U,a5,⟨rfl,.inl ⟨rfl,rfl⟩⟩,.nil,λx H=>by simp at H⟩
      case round=>
       obtain⟨j,aq,ar,q,bR,rfl,di,M,C,aG,ax⟩:=hrel;by_cases R:j<5
       .have hd:decide ((j:Int)<5)=true:=cH
        have aI:decide (j<5)=true:=by simpa using R
        have bO:q.length<=5:=cL (bN q j aG ax) bR;have aD:=al (E1 (A:=A) T aq L (by have:=cB.2;have:rs.length<=3:=U;omega) 4 U wr M.rD);have B:=al M;have Q:=al C;clear M C a5;go_wp2_with (first
         |(at_builtin;refine wpList_append_lies _ rfl _ _ 22 rfl wd.heap.size 3 bf (.int .i64 0) 1 8 (ao.underlying22 A) aZ.out a1.out a2.out a3.out rfl U ar q.length (q.map λ(x:Nat)=>gi x) rfl (j4 aQ.out λg aj X=>dm X) ⟨E.heap.size,0,none⟩ 1 1 [.int .i64 j] rfl rfl (World.news_of_block (cs:=#[.int .i64 j]) (t:=3) (fr:=(0,0)) (heap_alloc_new E _)) (by simp[Value.oneCell']) U kj U (by have:=aP.out.cf.size;simp;omega) (E.heap.size+1) aF ?_;intro aw cap aW aM G ak cQ;have af:=aP.out.gB aQ.out G;have aV:=aU (o:=3) af;have b8:=b3 (o:=3) af;have a8:=al aM;have aY:=al G;clear aM G ak af)
         |(go_at_call 33;refine aD.out.mono ?_;rintro e E ⟨c0,rfl,u,f⟩;obtain⟨bh,b7⟩:=B.out.called Q.out f u;have bj:E.cell? ⟨b,3,none⟩=some ar:=aU bh.blk;have aP:=al bh;have aQ:=al b7;clear u f bh b7))
        all_goals first
         |exact⟨⟨j+1,aq+1,ar,q,U,by push_cast;rfl,U,aP.out,aQ.out,aG,λx H=>Nat.lt_succ_of_lt (ax x H)⟩,by show 5-((j:Int)+1).toNat<5-(j:Int).toNat;omega⟩
         |(obtain⟨cU,cV⟩:=aP.out.put aQ.out aY.out (.slice (some ⟨aw,0,none⟩) (q.length+1) cap) 3 a8.out
           refine⟨⟨j+1,aq+1,_,q++[j],U,by push_cast;rfl,U,cU,?_,?_,λx H=>(List.mem_append.1 H).elim (λh=>Nat.lt_succ_of_lt (ax x h)) λh=>by rw[ev h];exact Nat.lt_succ_self j⟩,by show 5-((j:Int)+1).toNat<5-(j:Int).toNat;omega⟩
           .rw[List.length_append,List.map_append];exact cV
           .rw[List.pairwise_append];exact⟨aG,aF,λa cG c cJ=>by rw[ev cJ];exact ax a cG⟩)
       .have hd:decide ((j:Int)<5)=false:=cH
        have aI:decide (j<5)=false:=by simpa using R
        have bO:q.length<=5:=cL (bN q j aG ax) bR;have dA:wr.cell? ⟨b,0,none⟩=some (ah k):=aU M.blk;have dB:wr.cell? ⟨b,1,none⟩=some (.slice (some ⟨F,0,none⟩) k cA):=aU M.blk;have dC:wr.cell? ⟨b,2,none⟩=some ag:=aU M.blk;have dD:wr.cell? ⟨b,3,none⟩=some ar:=aU M.blk;have dF:=z.out.hq.cf.size;have Y:wr.heap[w.heap.size]?=some (.cells #[ah 0,.slice none 0 0,.slice none 0 0,.slice none 0 0] 25):=(M.cf.block _ U U).trans ((z.out.hq.cf.block _ U U).trans cc);have dw:=aU (o:=0) Y;have dx:=aU (o:=1) Y;have dy:=aU (o:=2) Y;have dz:=aU (o:=3) Y;have f0:=b3 (o:=0) Y;have f1:=b3 (o:=1) Y;have f2:=b3 (o:=2) Y;have f3:=b3 (o:=3) Y;have ce:=al Y;obtain⟨S6,dq,c4,rfl,cE,bG,bH⟩:=xk z.out.own (λh=>bS (List.eq_nil_of_length_eq_zero h));obtain⟨aT,dc,rfl,bJ⟩:=M5 C;have B:=al M;have Q:=al C;have cl:=al bJ;have aD:=al (And.intro bG bH);clear M C Y a5 bJ bG bH;go_wp2;refine bodyPost_ret (results_cell_row rfl _ _ w.heap.size 25 #[ah k,.slice (some ⟨F,0,none⟩) k cA,.slice (some ⟨S6,0,none⟩) rs.length dq,.slice aT q.length dc] (0,0) _ rfl (KB ce.out) (ao.underlying25 A) rfl FA) rfl ?_;have aJ:∀i,i≠w.heap.size->(sj wr w.heap.size (ah k) (.slice (some ⟨F,0,none⟩) k cA) (.slice (some ⟨S6,0,none⟩) rs.length dq) (.slice aT q.length dc)).heap[i]?=wr.heap[i]?:=λi ay=>C4 ay
        have bM:∀i,V.heap.size<=i->i<wd.heap.size->wr.heap[i]?=wd.heap[i]?:=λi aj X=>B.out.cf.block i X U
        have cK:wr.heap[F]?=V.heap[F]?:=(B.out.cf.block F U U).trans (z.out.hq.cf.block F U U);obtain⟨d,p,aj,X,cx,cy⟩:=LZ (w:=sj wr w.heap.size (ah k) (.slice (some ⟨F,0,none⟩) k cA) (.slice (some ⟨S6,0,none⟩) rs.length dq) (.slice aT q.length dc)) (T:=T) (cA:=cA) (dq:=dq) (dc:=dc) cz
         ((aJ F U).trans (cK.trans bn.out.1)) bn.out.2 cO cI ((aJ S6 U).trans ((bM S6 cE (bu aD.out.1)).trans aD.out.1)) aD.out.2 ⟨by have:rs.length≠0:=(λh=>bS (List.eq_nil_of_length_eq_zero h));omega,U⟩
         (λr P=>by obtain⟨⟨cur,aR,bA⟩,a9,aS⟩:=z.out.cQ r P;exact⟨⟨cur,(aJ _ U).trans ((bM _ a9 (bu aR)).trans aR),bA⟩,U⟩)
         z.out.hL z.out.qK z.out.zero (λcw=>by obtain⟨cv,cu,aR,bA,a9,aS⟩:=cl.out cw;exact⟨cv,cu,aR,U,(aJ _ U).trans a9,aS⟩) bO aG (λx H=>by have:=ax x H;omega) ⟨U,U⟩
        have bm:=KC (c:=w.heap.size) (a:=ah k) (b:=.slice (some ⟨F,0,none⟩) k cA) (d:=.slice (some ⟨S6,0,none⟩) rs.length dq) (e:=.slice aT q.length dc) (K0 cf.out z.out.hq.cf B.out.cf U) bg;obtain⟨cY,t9,t10⟩:=B.out.st;exact⟨d,p,aq,aj,by rw[X],cx,cy,U,⟨⟨cY,(aJ T U).trans t9,t10⟩,bo.out.keep bm⟩,bm⟩)
end
end Go.aO
