/- Part 35 of a law on fees: no conditions. -/
import Derived.Test.YthiiblonjmmnfaaGreatDoorP33
set_option maxHeartbeats 8000000
set_option maxRecDepth 100000
set_option linter.all false
namespace Go.aN
open Go.Proofs Go.RowKit
section
variable{A:Array Func}
def oq(m:Nat)(j:Nat):Int:=match j with|0=>0|1=>1|2=>2|_=>m
def Kg(w:World)(t:TypeId)(m:Nat):iD (w.alloc (.cells #[.int .i64 0,.int .i64 1,.int .i64 2,.int .i64 m] t)) w.heap.size 0 4 (oq m):=by
 intro j c;have:=aT (o:=0+j) (gA w (.cells #[.int .i64 0,.int .i64 1,.int .i64 2,.int .i64 m] t));rcases j with _|_|_|_|j
 .exact this
 .exact this
 .exact this
 .exact this
 .omega
def Kh{m j:Nat}(hm:(m:Int)<=max 9 0):0<=oq m j/\oq m j<=9:=by unfold oq;split<;>omega
def ot(m:Nat)(j:Nat):Int:=match j with|0=>0|1=>1|2=>2|3=>3|_=>m
def Kj(w:World)(t:TypeId)(m:Nat):iD (w.alloc (.cells #[.int .i64 0,.int .i64 1,.int .i64 2,.int .i64 3,.int .i64 m] t)) w.heap.size 0 5 (ot m):=by
 intro j c;have:=aT (o:=0+j) (gA w (.cells #[.int .i64 0,.int .i64 1,.int .i64 2,.int .i64 3,.int .i64 m] t));rcases j with _|_|_|_|_|j
 .exact this
 .exact this
 .exact this
 .exact this
 .exact this
 .omega
def Kk{m j:Nat}(hm:(m:Int)<=max 9 0):0<=ot m j/\ot m j<=9:=by unfold ot;split<;>omega
def HX:∃i,(ag A).info? 55=some i/\i.zero=some (.agg #[.int .i64 0,.slice none 0 0])/\i.size=2/\i.bytes=32:=⟨_,rfl,rfl,rfl,rfl⟩
def vy:Value->Int
 |.int _ n=>n
 |_=>0
def w9(K:Nat)(v:Value):Array Value:=#[.int .i64 K,v,.slice none 0 0,.slice none 0 0]
def Pe[S:Std A](T g:Nat)(L:Value)(c6:g<1000)(w:World)(h:fg w T L g):
 Calls (ag A) 5 #[.pointer (some ⟨T,0,none⟩)] w λe w'=>∃(d:cR) (p:dU) (g':Nat),d.ok/\e=.returned (.agg (cO d p))/\fy w' d p/\p.off d T/\g'<=g+100/\fg w' T L g'/\w.grownBy w' (some T):=by
 have c3:T<w.heap.size:=h.lt;obtain⟨a9,av,bW,bX,bY⟩:=xj (A:=A);have aV:=Pj av;have aX:=Pj bW;have aY:=Pj bX;have aZ:=Pj bY;have bd:w.grownBy (w.alloc (.cells #[.int .i64 0,.slice none 0 0,.slice none 0 0,.slice none 0 0] 27)) (some T):=Pn;have eo:fg (w.alloc (.cells #[.int .i64 0,.slice none 0 0,.slice none 0 0,.slice none 0 0] 27)) T L g:=h.alloc _;have bl:=Pj (vr (A:=A) T g L (by omega) 1 3 (by omega) _ eo);have bi:=Pj h.mr;clear h av bW bX bY;go_enter (S.f Tryz.func5),Tryz.ntmps5;go_wp2_with (go_at_call 15;refine bl.out.mono ?_;rintro e aJ ⟨K,rfl,cZ,c0,u,f⟩;have bj:=Pj u;have aK:=Pj f;clear u f)
 have cq:1<=K/\K<=3:=by omega
 obtain⟨w2,aw⟩:∃w2,aJ.alloc (.cells #[.int .i64 K,.slice none 0 0,.slice none 0 0,.slice none 0 0] 27)=w2:=⟨_,rfl⟩
 have bO:w.heap.size<aJ.heap.size:=by have:=aK.out.size;simp at this;omega
 have cF:rC L aJ.heap.size:=by exact bi.out.off (Nat.le_of_lt bO)
 have a0:gq w2 T aJ.heap.size L 27 (g+1) (w9 K (.slice none 0 0)) w2:=by rw[<-aw];exact gq.start (gA _ _) (bj.out.alloc _) (by omega) cF
 have al:w.grownBy w2 (some T):=by rw[<-aw];exact(bd.trans aK.out).trans Pn
 have b4:w2.heap[w.heap.size]?=some (.cells #[.int .i64 0,.slice none 0 0,.slice none 0 0,.slice none 0 0] 27):=by rw[<-aw];exact(Pq bO).trans ((aK.out.block _ (by simp) (λe=>by have:=Pm e;omega)).trans (gA _ _))
 rw[aw];have cf:=Pj aw;clear aw bj bl bd eo;generalize aJ.heap.size=b at *;go_loopw [4] (λi wr=>∃(k g':Nat) (Y:Value) (xs:List Int),k<=K/\i=.int .i64 k/\g'<=g+1+2*k/\gq w2 T b L 27 g' (w9 K Y) wr/\wr.ownsRow w2.heap.size 3 1 Y k (xs.map fX)/\xs.length=k/\∀x∈xs,0<=x/\x<=9) (λi _=>K-(vy i).toNat)
 case atStart=>exact⟨0,g+1,_,[],by omega,by go_num,by omega,a0,⟨rfl,.inl ⟨rfl,rfl⟩⟩,rfl,λx H=>by simp at H⟩
 case round=>
  obtain⟨k,g',Y,xs,dd,rfl,c7,M,C,hlen,bF⟩:=hrel;by_cases U:k<K
  .have hd:decide ((k:Int)<K)=true:=by simpa using U
   have aE:decide (k<K)=true:=by simpa using U
   have bu:wr.cell? ⟨b,0,none⟩=some (.int .i64 K):=aT M.blk;have ck:wr.cell? ⟨b,1,none⟩=some Y:=aT M.blk;have B:=Pj M;have R:=Pj C;have aD:some b≠some T:=λe=>by have:=Pm e;have:=M.lJ;omega
   have a7:b<wr.heap.size:=bp M.blk;have bC:T<b:=M.lJ;have dg:=M.bU.size;have a6:=M.dN;clear M a0 C;go_wp2;simp only[oZ];have cB:=Pg;go_region_held3 (λ_=>True) (exact trivial) (first
    |(go_at_call 7;refine(pU (A:=A) T g' L (by omega) 9 (by omega) _ (by exact B.out.ri.of rfl)).mono ?_;rintro e E ⟨m,rfl,hm,u,f⟩;have d1:=f.cell (ck.trans rfl) aD;have d2:∀o:Obj,(E.alloc o).cell? ⟨b,1,none⟩=some Y:=(λo=>(Pz _ _ _ (Px a7 f.size)).trans d1);have aB:=Pj u;have P:=Pj f;clear u f)
    |(go_at_call 16;refine(wO (A:=A) T (g'+1) L (by omega) E.heap.size 0 4 4 (oq m) (by omega) _ (by exact aB.out.alloc _) (by have:=aB.out.lt;omega) (by exact Kg _ _ m)).mono ?_;rintro e ap ⟨j,db,rfl,u,f⟩;have d3:=f.cell (Pz _ _ _ (Px a7 P.out.size) |>.trans d1) aD;have d4:∀o:Obj,(ap.alloc o).cell? ⟨b,1,none⟩=some Y:=(λo=>(Pz _ _ _ (Px a7 (Po P.out.size (Po (by simp) f.size)))).trans d3);have aW:=Pj u;have ad:=Pj f;clear u f)
    |(refine step_append_lies _ (by rfl) _ _ _ (by rfl) w2.heap.size 3 a9 (.int .i64 0) 1 8 (ag.underlying22 A) aV.out aX.out aY.out aZ.out rfl (by omega) Y k (xs.map fX) (by rfl) (BQ R.out (Nat.lt_trans bC a6) P.out ad.out) ⟨ap.heap.size,0,none⟩ 1 1 [.int .i64 (oq m j)] (by rfl) (by rfl) (World.news_of_block (cs:=#[.int .i64 (oq m j)]) (t:=3) (fr:=(0,0)) (heap_alloc_new ap _)) (by simp[Value.oneCell']) (by omega) (by unfold maxLen;omega) (by omega) (by have:=Dn P.out ad.out;simp;omega) (ap.heap.size+1) (by simp) ?_;intro ar cap ay aH G aj cD;have q1:ay.heap[b]?=some (.cells (w9 K Y) 27):=zx B.out.blk R.out bC a6 P.out ad.out G;have bb:=aT (o:=1) q1;have bc:=b1 (o:=1) q1;have a2:=Pj aH;have aS:=Pj G;clear aH G aj))
   all_goals (
    have aG:=B.out.round R.out P.out ad.out aW.out aS.out (.slice (some ⟨ar,0,none⟩) (k+1) cap) 1 a2.out;have az:=Pj aG;clear aG;go_wp2;exact⟨⟨k+1,g'+1+1,_,xs++[oq m j],by omega,by push_cast;rfl,by omega,az.out.1,by rw[List.map_append];exact az.out.2,by simp[hlen],λx H=>(List.mem_append.1 H).elim (bF x) λh=>by rw[Ps h];exact Kh hm⟩,by show K-((k:Int)+1).toNat<K-(k:Int).toNat;omega⟩)
  .have hd:decide ((k:Int)<K)=false:=by simpa using U
   have aE:decide (k<K)=false:=by simpa using U
   obtain rfl:k=K:=by omega
   have cC:=hlen;have cx:=bF;have bu:wr.cell? ⟨b,0,none⟩=some (.int .i64 k):=aT M.blk;clear a0;have bm:=Pj (vr (A:=A) T g' L (by omega) 1 3 (by omega) _ M.ri);go_wp2_with (go_at_call 15;refine bm.out.mono ?_;rintro e I ⟨N,rfl,c1,c2,u,f⟩;have bk:=Pj u;have aa:=Pj f;clear u f)
   have aD:(some b:Option Nat)≠some T:=λe=>by have:=Pm e;have:=M.lJ;omega
   have s2:=M.bU.size;have cL:=aa.out.size;have cv:=M.lJ;have a6:=M.dN;have aO:I.heap[b]?=some (.cells (mE k Y (.slice none 0 0) (.slice none 0 0)) 27):=(aa.out.block b (by omega) aD).trans M.blk;have bo:I.ownsRow w2.heap.size 3 1 Y k (xs.map fX):=kq C λg ai W=>aa.out.block g W λe=>by have:=Pm e;omega
   obtain⟨F,eT,cS,rfl,cX,cY,bx,bz⟩:=xY bo (by omega);have bf:w.grownBy I (some T):=by refine⟨aa.out.os.trans (M.bU.os.trans al.os),aa.out.tape.trans (M.bU.tape.trans al.tape),aa.out.output.trans (M.bU.output.trans al.output),Po al.size (Po s2 cL),λi av Q=>?_⟩;have ai:=al.size;refine(aa.out.block i (by omega) Q).trans ((M.bU.block i (by omega) (λe=>e.elim (λe=>Q (by rw[e])) (λe=>by omega))).trans (al.block i av Q))
   have b5:I.heap[w.heap.size]?=some (.cells #[.int .i64 0,.slice none 0 0,.slice none 0 0,.slice none 0 0] 27):=(aa.out.block _ (by omega) (λe=>by have:=Pm e;omega)).trans ((M.bU.block _ (by omega) (by omega)).trans b4);have br:oV I T b L (g'+1) k (.slice (some ⟨F,0,none⟩) k eT) [] 0 (.slice none 0 0) I:=
    ⟨gq.start aO bk.out cv M.off,⟨rfl,.inl ⟨rfl,rfl⟩⟩,λr Q=>by simp at Q,λr Q=>by simp at Q,.nil,λr Q=>by simp at Q,λ_=>rfl,λr Q=>by simp at Q⟩
   have bh:=Pj (And.intro bx bz);have b7:=Pj bf;clear M C bo bx bz bf al aK cf aa bk bm;have cr:1<=N/\N<=3:=by omega
   go_loopw [5,6] (λi l cN=>∃(fr left ae:Nat) (rs:List kS) (Z:Value),i=.int .i64 fr/\l=.int .i64 left/\rs.length+left=N/\ae<=g'+1+20*rs.length/\oV I T b L ae k (.slice (some ⟨F,0,none⟩) k eT) rs fr Z cN) (λ_ l _=>(vy l).toNat)
   case atStart=>exact⟨0,N,g'+1,[],_,by go_num,rfl,by simp,by simp,br⟩
   case round=>
    clear br;obtain⟨fr,left,ae,rs,Z,rfl,rfl,ct,c8,V⟩:=hrel;by_cases hgo:0<left/\fr<5
    .have q1:decide ((0:Int)<left)=true:=by simp;omega
     have bb:decide (0<left)=true:=by simpa using hgo.1
     obtain⟨de,bJ⟩:=hgo
     .have bc:decide ((fr:Int)<5)=true:=by simp;omega
      have cK:decide (fr<5)=true:=by simpa using bJ
      obtain⟨J,bQ⟩:∃x,x=wr:=⟨_,rfl⟩
      rw[<-bQ]at V ⊢;clear bQ;have z:=Pj V;clear V;have cG:b<J.heap.size:=bp z.out.gl.blk;go_wp2;obtain⟨E,ax⟩:∃E,J.alloc (.cells #[.int .i64 fr,.slice none 0 0] 55)=E:=⟨_,rfl⟩
      have a5:T<J.heap.size:=by omega
      have bn:gq E T J.heap.size L 55 ae #[.int .i64 fr,.slice none 0 0] E:=by rw[<-ax];exact gq.start (gA _ _) (z.out.gl.ri.alloc _) a5 (z.out.gl.mr.off z.out.gl.bU.size)
      have z5:E.heap.size=J.heap.size+1:=by rw[<-ax];simp
      rw[ax];go_loopw [8] (λi b2=>∃(j ah:Nat) (ak:Value) (ys:List Int),j<=k/\i=.int .i64 j/\ah<=ae+2*j/\gq E T J.heap.size L 55 ah #[.int .i64 fr,ak] b2/\b2.ownsRow E.heap.size 3 1 ak j (ys.map fX)/\ys.length=j/\∀x∈ys,0<=x/\x<=9) (λi _=>k-(vy i).toNat)
      case atStart=>exact⟨0,ae,_,[],by omega,by go_num,by omega,bn,⟨rfl,.inl ⟨rfl,rfl⟩⟩,rfl,λx H=>by simp at H⟩
      case round=>
       obtain⟨j,ah,ak,ys,dc,rfl,da,M,C,bV,bU⟩:=hrel;have bv:wr.heap[b]?=some (.cells (mE k (.slice (some ⟨F,0,none⟩) k eT) Z (.slice none 0 0)) 27):=(M.bU.block b (by omega) (by omega)).trans (by rw[<-ax];exact(Pq cG).trans z.out.gl.blk);have bu:wr.cell? ⟨b,0,none⟩=some (.int .i64 k):=aT bv;have bN:some J.heap.size≠some T:=λe=>by have:=Pm e;omega
       have a8:J.heap.size<wr.heap.size:=bp M.blk;have dh:=M.bU.size;have r1:wr.cell? ⟨J.heap.size,1,none⟩=some ak:=aT M.blk;have bE:=M.dN;clear bn;by_cases U:j<k
       .have hd:decide ((j:Int)<k)=true:=by simpa using U
        have aE:decide (j<k)=true:=by simpa using U
        have B:=Pj M;have R:=Pj C;clear M C;go_wp2;simp only[oZ];have cB:=Pg;go_region_held3 (λ_=>True) (exact trivial) (first
         |(go_at_call 7;refine(pU (A:=A) T ah L (by omega) 9 (by omega) _ (by exact B.out.ri.of rfl)).mono ?_;rintro e ap ⟨m,rfl,hm,u,f⟩;have d1:=f.cell (r1.trans rfl) bN;have d2:∀o:Obj,(ap.alloc o).cell? ⟨J.heap.size,1,none⟩=some ak:=(λo=>(Pz _ _ _ (Px a8 f.size)).trans d1);have aB:=Pj u;have P:=Pj f;clear u f)
         |(go_at_call 16;refine(wO (A:=A) T (ah+1) L (by omega) ap.heap.size 0 5 5 (ot m) (by omega) _ (by exact aB.out.alloc _) (by have:=aB.out.lt;omega) (by exact Kj _ _ m)).mono ?_;rintro e ay ⟨y,di,rfl,u,f⟩;have d3:=f.cell (Pz _ _ _ (Px a8 P.out.size) |>.trans d1) bN;have d4:∀o:Obj,(ay.alloc o).cell? ⟨J.heap.size,1,none⟩=some ak:=(λo=>(Pz _ _ _ (Px a8 (Po P.out.size (Po (by simp) f.size)))).trans d3);have aW:=Pj u;have ad:=Pj f;clear u f)
         |(refine step_append_lies _ (by rfl) _ _ _ (by rfl) E.heap.size 3 a9 (.int .i64 0) 1 8 (ag.underlying22 A) aV.out aX.out aY.out aZ.out rfl (by omega) ak j (ys.map fX) (by rfl) (BQ R.out (Nat.lt_trans a5 bE) P.out ad.out) ⟨ay.heap.size,0,none⟩ 1 1 [.int .i64 (ot m y)] (by rfl) (by rfl) (World.news_of_block (cs:=#[.int .i64 (ot m y)]) (t:=3) (fr:=(0,0)) (heap_alloc_new ay _)) (by simp[Value.oneCell']) (by omega) (by unfold maxLen;omega) (by omega) (by have:=Dn P.out ad.out;simp;omega) (ay.heap.size+1) (by simp) ?_;intro ar cap aR aH G aj cD;have af:aR.heap[J.heap.size]?=some (.cells #[.int .i64 fr,ak] 55):=zx B.out.blk R.out a5 bE P.out ad.out G;have aQ:=aT (o:=1) af;have b0:=b1 (o:=1) af;have a2:=Pj aH;have aS:=Pj G;clear aH G aj))
        all_goals (
         have aG:=B.out.round R.out P.out ad.out aW.out aS.out (.slice (some ⟨ar,0,none⟩) (j+1) cap) 1 a2.out;have az:=Pj aG;clear aG;go_wp2;exact⟨⟨j+1,ah+1+1,_,ys++[ot m y],by omega,by push_cast;rfl,by omega,az.out.1,by rw[List.map_append];exact az.out.2,by simp[bV],λx H=>(List.mem_append.1 H).elim (bU x) λh=>by rw[Ps h];exact Kk hm⟩,by show k-((j:Int)+1).toNat<k-(j:Int).toNat;omega⟩)
       .have hd:decide ((j:Int)<k)=false:=by simpa using U
        have aE:decide (j<k)=false:=by simpa using U
        obtain rfl:j=k:=by omega
        obtain⟨bw,bs,cT,rfl,_,_,_,_⟩:=xY C (by omega);have r0:wr.cell? ⟨J.heap.size,0,none⟩=some (.int .i64 fr):=aT M.blk;have cQ:wr.cell? ⟨b,2,none⟩=some Z:=aT bv;have z4:I.heap.size<=J.heap.size:=z.out.gl.bU.size;have bq:∀o:Obj,(wr.alloc o).ownsRow I.heap.size 55 2 Z rs.length (lj j rs):=λo=>kq z.out.own λi ai W=>(Pq (by omega)).trans ((M.bU.block i (by omega) (by omega)).trans (by rw[<-ax];exact Pq W))
        subst ax;have B:=Pj M;have R:=Pj C;have ca:=Pj bq;have df:rs.length<=2:=by omega
        have c5:∀r,Z.ownBlock=some r->I.heap.size<=r:=λr e=>(xX z.out.own r e).1
        have c4:T<I.heap.size/\b<I.heap.size:=⟨by omega,z.out.gl.dN⟩
        clear M C bq;obtain⟨cH,bK,bR,bS,bT⟩:=HX (A:=A);have b9:=Pj bK;have cg:=Pj bR;have ch:=Pj bS;have ci:=Pj bT;clear bK bR bS bT;go_wp2_with (first
         |(at_builtin;refine wpList_append_lies _ rfl _ _ 25 rfl I.heap.size 55 cH (.agg #[.int .i64 0,.slice none 0 0]) 2 32 (by kernel_rfl) b9.out cg.out ch.out ci.out rfl (by decide) Z rs.length (lj j rs) rfl (ca.out _) ⟨wr.heap.size,0,none⟩ 1 1 [.int .i64 fr,.slice (some ⟨bw,0,none⟩) j bs] rfl rfl (World.news_of_block (cs:=#[.int .i64 fr,.slice (some ⟨bw,0,none⟩) j bs]) (t:=55) (fr:=(0,0)) (heap_alloc_new wr _)) (by simp[Value.oneCell']) (by omega) (by unfold maxLen;omega) (by omega) (by simp;omega) (wr.heap.size+1) (by simp) ?_;intro ar cap aR aI G aj cE;obtain⟨t8,af⟩:=z.out.NP B.out G;have cb:=Pj t8;clear t8;have a3:=Pj aI;have aU:=Pj G;have b3:=Pj aj;clear aI G aj)
         |(go_at_call 15;refine(vr (A:=A) T ah L (by omega) 1 3 (by omega) aR cb.out).mono ?_;rintro e du ⟨D,rfl,cV,cW,u,f⟩;have aQ:=(f.block b (bp af) aD).trans af;have b0:=aT (o:=2) aQ;have ds:=b1 (o:=2) aQ;have cc:=Pj u;have b8:=Pj f;clear u f))
        obtain⟨r,cj⟩:=z.out.round bJ (by omega) B.out R.out bV bU aU.out b3.out a3.out b8.out cc.out (fr+D) (by omega);exact⟨⟨fr+D,left-1,ah+1,rs++[r],_,by push_cast;rfl,by congr 1;omega,by simp;omega,by simp;omega,cj⟩,by show((left:Int)-1).toNat<(left:Int).toNat;omega⟩
    .have bM:rs≠[]:=by rintro rfl;have:=V.top.1 rfl;simp at ct;omega
     obtain⟨wd,bP⟩:∃x,x=wr:=⟨_,rfl⟩
     rw[<-bP]at V ⊢;clear bP;have bH:∀(q:List Nat) (j:Nat),q.Pairwise (· < ·)->(∀x∈q,x<j)->q.length<=j:=λq j ai W=>Il ai W
     have a1:gq wd T b L 27 ae (mE k (.slice (some ⟨F,0,none⟩) k eT) Z (.slice none 0 0)) wd:=gq.start V.gl.blk V.gl.ri V.gl.lJ V.gl.off;have z:=Pj V;clear V;have hlen:rs.length<=N:=by omega
     have cA:(decide ((0:Int)<left)=false/\decide (0<left)=false)\/(decide ((0:Int)<left)=true/\decide (0<left)=true/\decide ((fr:Int)<5)=false/\decide (fr<5)=false):=by
      by_cases h:0<left
      .exact .inr ⟨by simp;omega,by simp;omega,by simp;omega,by simp;omega⟩
      .exact .inl ⟨by simp;omega,by simp;omega⟩
     rcases cA with⟨q1,bb⟩|⟨q1,bb,bc,cK⟩
     all_goals (
      go_wp2;go_loopw [9] (λi wr=>∃(j am:Nat) (ao:Value) (q:List Nat),j<=5/\i=.int .i64 j/\am<=ae+j/\gq wd T b L 27 am (mE k (.slice (some ⟨F,0,none⟩) k eT) Z ao) wr/\wr.ownsRow wd.heap.size 3 1 ao q.length (q.map λ(x:Nat)=>fX x)/\q.Pairwise (· < ·)/\∀x∈q,x<j) (λi _=>5-(vy i).toNat)
      case atStart=>exact⟨0,ae,_,[],by omega,by go_num,by omega,a1,⟨rfl,.inl ⟨rfl,rfl⟩⟩,.nil,λx H=>by simp at H⟩
      case round=>
       obtain⟨j,am,ao,q,bL,rfl,c9,M,C,aC,au⟩:=hrel;by_cases U:j<5
       .have hd:decide ((j:Int)<5)=true:=by simp;omega
        have aE:decide (j<5)=true:=by simpa using U
        have bI:q.length<=5:=Po (bH q j aC au) bL;have aA:=Pj (Kx (A:=A) T am L (by have:=cr.2;have:rs.length<=3:=(by omega);omega) 4 (by omega) wr M.ri);have B:=Pj M;have R:=Pj C;clear M C a1;go_wp2_with (first
         |(at_builtin;refine wpList_append_lies _ rfl _ _ 22 rfl wd.heap.size 3 a9 (.int .i64 0) 1 8 (ag.underlying22 A) aV.out aX.out aY.out aZ.out rfl (by omega) ao q.length (q.map λ(x:Nat)=>fX x) rfl (kq aM.out λg ai W=>Pq W) ⟨E.heap.size,0,none⟩ 1 1 [.int .i64 j] rfl rfl (World.news_of_block (cs:=#[.int .i64 j]) (t:=3) (fr:=(0,0)) (heap_alloc_new E _)) (by simp[Value.oneCell']) (by omega) (by unfold maxLen;omega) (by omega) (by have:=aL.out.bU.size;simp;omega) (E.heap.size+1) (by simp) ?_;intro ar cap aR aI G aj cE;have af:=aL.out.fq aM.out G;have aQ:=aT (o:=3) af;have b0:=b1 (o:=3) af;have a3:=Pj aI;have aU:=Pj G;clear aI G aj af)
         |(go_at_call 17;refine aA.out.mono ?_;rintro e E ⟨cP,rfl,u,f⟩;obtain⟨ba,bZ⟩:=B.out.called R.out f u;have bc:E.cell? ⟨b,3,none⟩=some ao:=aT ba.blk;have aL:=Pj ba;have aM:=Pj bZ;clear u f ba bZ))
        all_goals first
         |exact⟨⟨j+1,am+1,ao,q,by omega,by push_cast;rfl,by omega,aL.out,aM.out,aC,λx H=>Nat.lt_succ_of_lt (au x H)⟩,by show 5-((j:Int)+1).toNat<5-(j:Int).toNat;omega⟩
         |(obtain⟨cI,cJ⟩:=aL.out.put aM.out aU.out (.slice (some ⟨ar,0,none⟩) (q.length+1) cap) 3 a3.out
           refine⟨⟨j+1,am+1,_,q++[j],by omega,by push_cast;rfl,by omega,cI,?_,?_,λx H=>(List.mem_append.1 H).elim (λh=>Nat.lt_succ_of_lt (au x h)) λh=>by rw[Ps h];exact Nat.lt_succ_self j⟩,by show 5-((j:Int)+1).toNat<5-(j:Int).toNat;omega⟩
           .rw[List.length_append,List.map_append];exact cJ
           .rw[List.pairwise_append];exact⟨aC,by simp,λa cw c cy=>by rw[Ps cy];exact au a cw⟩)
       .have hd:decide ((j:Int)<5)=false:=by simp;omega
        have aE:decide (j<5)=false:=by simpa using U
        have bI:q.length<=5:=Po (bH q j aC au) bL;have dn:wr.cell? ⟨b,0,none⟩=some (.int .i64 k):=aT M.blk;have dp:wr.cell? ⟨b,1,none⟩=some (.slice (some ⟨F,0,none⟩) k eT):=aT M.blk;have dq:wr.cell? ⟨b,2,none⟩=some Z:=aT M.blk;have dr:wr.cell? ⟨b,3,none⟩=some ao:=aT M.blk;have dt:=z.out.gl.bU.size;have X:wr.heap[w.heap.size]?=some (.cells #[.int .i64 0,.slice none 0 0,.slice none 0 0,.slice none 0 0] 27):=(M.bU.block _ (by omega) (by omega)).trans ((z.out.gl.bU.block _ (by omega) (by omega)).trans b5);have dj:=aT (o:=0) X;have dk:=aT (o:=1) X;have dl:=aT (o:=2) X;have dm:=aT (o:=3) X;have f0:=b1 (o:=0) X;have f1:=b1 (o:=1) X;have f2:=b1 (o:=2) X;have f3:=b1 (o:=3) X;have b6:=Pj X;obtain⟨aq,h8,cU,rfl,cu,bA,bB⟩:=JX z.out.own (λh=>bM (List.eq_nil_of_length_eq_zero h));obtain⟨aP,h9,rfl,bD⟩:=JW C;have B:=Pj M;have R:=Pj C;have ce:=Pj bD;have aA:=Pj (And.intro bA bB);clear M C X a1 bD bA bB;go_wp2;refine bodyPost_ret (results_cell_row rfl _ _ w.heap.size 27 #[.int .i64 k,.slice (some ⟨F,0,none⟩) k eT,.slice (some ⟨aq,0,none⟩) rs.length h8,.slice aP q.length h9] (0,0) _ rfl (Ho b6.out) (ag.underlying25 A) rfl LI) rfl ?_;have aF:∀i,i≠w.heap.size->(qt wr w.heap.size (.int .i64 k) (.slice (some ⟨F,0,none⟩) k eT) (.slice (some ⟨aq,0,none⟩) rs.length h8) (.slice aP q.length h9)).heap[i]?=wr.heap[i]?:=λi av=>Ax av
        have bG:∀i,I.heap.size<=i->i<wd.heap.size->wr.heap[i]?=wd.heap[i]?:=λi ai W=>B.out.bU.block i W (by omega)
        have cz:wr.heap[F]?=I.heap[F]?:=(B.out.bU.block F (by omega) (by omega)).trans (z.out.gl.bU.block F (by omega) (by omega));obtain⟨d,p,ai,W,co,cp⟩:=IU (w:=qt wr w.heap.size (.int .i64 k) (.slice (some ⟨F,0,none⟩) k eT) (.slice (some ⟨aq,0,none⟩) rs.length h8) (.slice aP q.length h9)) (T:=T) (eT:=eT) (h8:=h8) (h9:=h9) cq
         ((aF F (by omega)).trans (cz.trans bh.out.1)) bh.out.2 cC cx ((aF aq (by omega)).trans ((bG aq cu (bp aA.out.1)).trans aA.out.1)) aA.out.2 ⟨by have:rs.length≠0:=(λh=>bM (List.eq_nil_of_length_eq_zero h));omega,by omega⟩
         (λr Q=>by obtain⟨⟨cur,aN,bt⟩,a4,aO⟩:=z.out.fD r Q;exact⟨⟨cur,(aF _ (by omega)).trans ((bG _ a4 (bp aN)).trans aN),bt⟩,by omega⟩)
         z.out.gw z.out.rP z.out.zero (λcn=>by obtain⟨cm,cl,aN,bt,a4,aO⟩:=ce.out cn;exact⟨cm,cl,aN,by omega,(aF _ (by omega)).trans a4,aO⟩) bI aC (λx H=>by have:=au x H;omega) ⟨by omega,by omega⟩
        have bg:=Hp (c:=w.heap.size) (a:=.int .i64 k) (b:=.slice (some ⟨F,0,none⟩) k eT) (d:=.slice (some ⟨aq,0,none⟩) rs.length h8) (e:=.slice aP q.length h9) (HO b7.out z.out.gl.bU B.out.bU (by omega)) Pk;obtain⟨cM,t9,t10⟩:=B.out.st;exact⟨d,p,am,ai,by rw[W],co,cp,by omega,⟨⟨cM,(aF T (by omega)).trans t9,t10⟩,bi.out.keep bg⟩,bg⟩)
end
end Go.aN
