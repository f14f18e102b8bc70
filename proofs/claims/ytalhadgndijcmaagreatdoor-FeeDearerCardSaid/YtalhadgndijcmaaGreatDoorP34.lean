/- Part 35 of a law on fees: no conditions. -/
import Derived.Test.YtalhadgndijcmaaGreatDoorP33
set_option maxHeartbeats 8000000
set_option maxRecDepth 100000
set_option linter.all false
namespace Go.aN
open Go.Proofs Go.RowKit
section
variable{A:Array Func}
def oq(m:Nat)(j:Nat): Int:=match j with|0=>0|1=>1|2=>2|_=>m
theorem Kg(w:World)(t:TypeId)(m:Nat): iD (w.alloc (.cells #[.int .i64 0,.int .i64 1,.int .i64 2,.int .i64 m] t)) w.heap.size 0 4 (oq m):=by
 intro j c;have:=aT (o:=0+j) (gA w (.cells #[.int .i64 0,.int .i64 1,.int .i64 2,.int .i64 m] t));rcases j with _|_|_|_|j
 . exact this
 . exact this
 . exact this
 . exact this
 . omega
theorem Kh{m j:Nat}(hm:(m:Int)<=max 9 0): 0<=oq m j/\oq m j<=9:=by unfold oq;split<;>omega
def ot(m:Nat)(j:Nat): Int:=match j with|0=>0|1=>1|2=>2|3=>3|_=>m
theorem Kj(w:World)(t:TypeId)(m:Nat): iD (w.alloc (.cells #[.int .i64 0,.int .i64 1,.int .i64 2,.int .i64 3,.int .i64 m] t)) w.heap.size 0 5 (ot m):=by
 intro j c;have:=aT (o:=0+j) (gA w (.cells #[.int .i64 0,.int .i64 1,.int .i64 2,.int .i64 3,.int .i64 m] t));rcases j with _|_|_|_|_|j
 . exact this
 . exact this
 . exact this
 . exact this
 . exact this
 . omega
theorem Kk{m j:Nat}(hm:(m:Int)<=max 9 0): 0<=ot m j/\ot m j<=9:=by unfold ot;split<;>omega
theorem HX:∃i,(ag A).info? 27=some i/\i.zero=some (.agg #[.int .i64 0,.slice none 0 0])/\i.size=2/\i.bytes=32:=⟨_,rfl,rfl,rfl,rfl⟩
def vy:Value->Int
 | .int _ n=>n
 | _=>0
def w9(K:Nat)(v:Value): Array Value:=#[.int .i64 K,v,.slice none 0 0,.slice none 0 0]
theorem Pe[S:Std A](T g:Nat)(L:Value)(c5:g<1000)(w:World)(h:fg w T L g):
 Calls (ag A) 28 #[.pointer (some ⟨T,0,none⟩)] w λe w'=>∃(d:cR) (p:dU) (g':Nat),d.ok/\e=.returned (.agg (cO d p))/\fy w' d p/\p.off d T/\g'<=g+100/\fg w' T L g'/\w.grownBy w' (some T):=by
 have c2:T<w.heap.size:=h.lt;obtain⟨a8,au,bV,bW,bX⟩:=xj (A:=A);have aU:=Pj au;have aW:=Pj bV;have aX:=Pj bW;have aY:=Pj bX;have bc:w.grownBy (w.alloc (.cells #[.int .i64 0,.slice none 0 0,.slice none 0 0,.slice none 0 0] 25)) (some T):=Pn;have eo:fg (w.alloc (.cells #[.int .i64 0,.slice none 0 0,.slice none 0 0,.slice none 0 0] 25)) T L g:=h.alloc _;have bk:=Pj (vr (A:=A) T g L (by omega) 1 3 (by omega) _ eo);have bh:=Pj h.mr;clear h au bV bW bX;go_enter (S.f Tryz.func28),Tryz.ntmps28;go_wp2_with (go_at_call 36;refine bk.out.mono ?_;rintro e aI ⟨K,rfl,cY,cZ,q,f⟩;have bi:=Pj q;have aJ:=Pj f;clear q f)
 have cp:1<=K/\K<=3:=by omega
 obtain⟨w2,av⟩ : ∃w2,aI.alloc (.cells #[.int .i64 K,.slice none 0 0,.slice none 0 0,.slice none 0 0] 25)=w2:=⟨_,rfl⟩
 have bN:w.heap.size<aI.heap.size:=by have:=aJ.out.size;simp at this;omega
 have cE:rC L aI.heap.size:=by exact bh.out.off (Nat.le_of_lt bN)
 have aZ:gq w2 T aI.heap.size L 25 (g+1) (w9 K (.slice none 0 0)) w2:=by rw[<-av];exact gq.start (gA _ _) (bi.out.alloc _) (by omega) cE
 have ak:w.grownBy w2 (some T):=by rw[<-av];exact(bc.trans aJ.out).trans Pn
 have b3:w2.heap[w.heap.size]?=some (.cells #[.int .i64 0,.slice none 0 0,.slice none 0 0,.slice none 0 0] 25):=by rw[<-av];exact(Pq bN).trans ((aJ.out.block _ (by simp) (λe=>by have:=Pm e;omega)).trans (gA _ _))
 rw[av];have ce:=Pj av;clear av bi bk bc eo;generalize aI.heap.size=b at *;go_loopw [4] (λi wr=>∃(k g':Nat) (X:Value) (xs:List Int),k<=K/\i=.int .i64 k/\g'<=g+1+2*k/\gq w2 T b L 25 g' (w9 K X) wr/\wr.ownsRow w2.heap.size 3 1 X k (xs.map fX)/\xs.length=k/\∀x∈xs,0<=x/\x<=9) (λi _=>K-(vy i).toNat)
 case atStart=>exact⟨0,g+1,_,[],by omega,by go_num,by omega,aZ,⟨rfl,.inl ⟨rfl,rfl⟩⟩,rfl,λx G=>by simp at G⟩
 case round=>
  obtain⟨k,g',X,xs,dc,rfl,c6,M,B,hlen,bE⟩:=hrel;by_cases R:k<K
  . have hd:decide ((k:Int)<K)=true:=by simpa using R
    have aD:decide (k<K)=true:=by simpa using R
    have bu:wr.cell? ⟨b,0,none⟩=some (.int .i64 K):=aT M.blk;have cj:wr.cell? ⟨b,1,none⟩=some X:=aT M.blk;have z:=Pj M;have Q:=Pj B;have aC:some b≠some T:=λe=>by have:=Pm e;have:=M.lJ;omega
    have a6:b<wr.heap.size:=bp M.blk;have bB:T<b:=M.lJ;have df:=M.bU.size;have a5:=M.dN;clear M aZ B;go_wp2;simp only[oZ];have cA:=Pg;go_region_held3 (λ_=>True) (exact trivial) (first
     | (go_at_call 20;refine(pU (A:=A) T g' L (by omega) 9 (by omega) _ (by exact z.out.ri.of rfl)).mono ?_;rintro e C ⟨m,rfl,hm,q,f⟩;have d1:=f.cell (cj.trans rfl) aC;have d2:∀o:Obj,(C.alloc o).cell? ⟨b,1,none⟩=some X:=(λo=>(Pz _ _ _ (Px a6 f.size)).trans d1);have aA:=Pj q;have J:=Pj f;clear q f)
     | (go_at_call 24;refine(wO (A:=A) T (g'+1) L (by omega) C.heap.size 0 4 4 (oq m) (by omega) _ (by exact aA.out.alloc _) (by have:=aA.out.lt;omega) (by exact Kg _ _ m)).mono ?_;rintro e ao ⟨j,da,rfl,q,f⟩;have d3:=f.cell (Pz _ _ _ (Px a6 J.out.size) |>.trans d1) aC;have d4:∀o:Obj,(ao.alloc o).cell? ⟨b,1,none⟩=some X:=(λo=>(Pz _ _ _ (Px a6 (Po J.out.size (Po (by simp) f.size)))).trans d3);have aV:=Pj q;have aa:=Pj f;clear q f)
     | (refine step_append_lies _ (by rfl) _ _ _ (by rfl) w2.heap.size 3 a8 (.int .i64 0) 1 8 (ag.underlying22 A) aU.out aW.out aX.out aY.out rfl (by omega) X k (xs.map fX) (by rfl) (BQ Q.out (Nat.lt_trans bB a5) J.out aa.out) ⟨ao.heap.size,0,none⟩ 1 1 [.int .i64 (oq m j)] (by rfl) (by rfl) (World.news_of_block (cs:=#[.int .i64 (oq m j)]) (t:=3) (fr:=(0,0)) (heap_alloc_new ao _)) (by simp[Value.oneCell']) (by omega) (by unfold maxLen;omega) (by omega) (by have:=Dn J.out aa.out;simp;omega) (ao.heap.size+1) (by simp) ?_;intro aq cap ax aG F ai cC;have q1:ax.heap[b]?=some (.cells (w9 K X) 25):=zx z.out.blk Q.out bB a5 J.out aa.out F;have ba:=aT (o:=1) q1;have bb:=b1 (o:=1) q1;have a1:=Pj aG;have aR:=Pj F;clear aG F ai))
    all_goals (
     have aF:=z.out.round Q.out J.out aa.out aV.out aR.out (.slice (some ⟨aq,0,none⟩) (k+1) cap) 1 a1.out;have ay:=Pj aF;clear aF;go_wp2;exact⟨⟨k+1,g'+1+1,_,xs++[oq m j],by omega,by push_cast;rfl,by omega,ay.out.1,by rw[List.map_append];exact ay.out.2,by simp[hlen],λx G=>(List.mem_append.1 G).elim (bE x) λh=>by rw[Ps h];exact Kh hm⟩,by show K-((k:Int)+1).toNat<K-(k:Int).toNat;omega⟩)
  . have hd:decide ((k:Int)<K)=false:=by simpa using R
    have aD:decide (k<K)=false:=by simpa using R
    obtain rfl:k=K:=by omega
    have cB:=hlen;have cw:=bE;have bu:wr.cell? ⟨b,0,none⟩=some (.int .i64 k):=aT M.blk;clear aZ;have bl:=Pj (vr (A:=A) T g' L (by omega) 1 3 (by omega) _ M.ri);go_wp2_with (go_at_call 36;refine bl.out.mono ?_;rintro e H ⟨N,rfl,c0,c1,q,f⟩;have bj:=Pj q;have Z:=Pj f;clear q f)
    have aC:(some b:Option Nat)≠some T:=λe=>by have:=Pm e;have:=M.lJ;omega
    have s2:=M.bU.size;have cK:=Z.out.size;have cu:=M.lJ;have a5:=M.dN;have aN:H.heap[b]?=some (.cells (mE k X (.slice none 0 0) (.slice none 0 0)) 25):=(Z.out.block b (by omega) aC).trans M.blk;have bn:H.ownsRow w2.heap.size 3 1 X k (xs.map fX):=kq B λg ah V=>Z.out.block g V λe=>by have:=Pm e;omega
    obtain⟨E,eT,cQ,rfl,cW,cX,bw,bx⟩:=xY bn (by omega);have bd:w.grownBy H (some T):=by refine⟨Z.out.os.trans (M.bU.os.trans ak.os),Z.out.tape.trans (M.bU.tape.trans ak.tape),Z.out.output.trans (M.bU.output.trans ak.output),Po ak.size (Po s2 cK),λi au P=>?_⟩;have ah:=ak.size;refine(Z.out.block i (by omega) P).trans ((M.bU.block i (by omega) (λe=>e.elim (λe=>P (by rw[e])) (λe=>by omega))).trans (ak.block i au P))
    have b4:H.heap[w.heap.size]?=some (.cells #[.int .i64 0,.slice none 0 0,.slice none 0 0,.slice none 0 0] 25):=(Z.out.block _ (by omega) (λe=>by have:=Pm e;omega)).trans ((M.bU.block _ (by omega) (by omega)).trans b3);have bq:oV H T b L (g'+1) k (.slice (some ⟨E,0,none⟩) k eT) [] 0 (.slice none 0 0) H:=
     ⟨gq.start aN bj.out cu M.off,⟨rfl,.inl ⟨rfl,rfl⟩⟩,λr P=>by simp at P,λr P=>by simp at P,.nil,λr P=>by simp at P,λ_=>rfl,λr P=>by simp at P⟩
    have bg:=Pj (And.intro bw bx);have b6:=Pj bd;clear M B bn bw bx bd ak aJ ce Z bj bl;have cq:1<=N/\N<=3:=by omega
    go_loopw [5,6] (λi l cM=>∃(fr left ad:Nat) (rs:List kS) (Y:Value),i=.int .i64 fr/\l=.int .i64 left/\rs.length+left=N/\ad<=g'+1+20*rs.length/\oV H T b L ad k (.slice (some ⟨E,0,none⟩) k eT) rs fr Y cM) (λ_ l _=>(vy l).toNat)
    case atStart=>exact⟨0,N,g'+1,[],_,by go_num,rfl,by simp,by simp,bq⟩
    case round=>
     clear bq;obtain⟨fr,left,ad,rs,Y,rfl,rfl,cr,c7,U⟩:=hrel;by_cases hgo:0<left/\fr<5
     . have q1:decide ((0:Int)<left)=true:=by simp;omega
       have ba:decide (0<left)=true:=by simpa using hgo.1
       obtain⟨dd,bI⟩:=hgo
       . have bb:decide ((fr:Int)<5)=true:=by simp;omega
         have cJ:decide (fr<5)=true:=by simpa using bI
         obtain⟨I,bP⟩ : ∃x,x=wr:=⟨_,rfl⟩
         rw[<-bP] at U ⊢;clear bP;have u:=Pj U;clear U;have cF:b<I.heap.size:=bp u.out.gl.blk;go_wp2;obtain⟨C,aw⟩ : ∃C,I.alloc (.cells #[.int .i64 fr,.slice none 0 0] 27)=C:=⟨_,rfl⟩
         have a4:T<I.heap.size:=by omega
         have bm:gq C T I.heap.size L 27 ad #[.int .i64 fr,.slice none 0 0] C:=by rw[<-aw];exact gq.start (gA _ _) (u.out.gl.ri.alloc _) a4 (u.out.gl.mr.off u.out.gl.bU.size)
         have z5:C.heap.size=I.heap.size+1:=by rw[<-aw];simp
         rw[aw];go_loopw [8] (λi b0=>∃(j af:Nat) (aj:Value) (ys:List Int),j<=k/\i=.int .i64 j/\af<=ad+2*j/\gq C T I.heap.size L 27 af #[.int .i64 fr,aj] b0/\b0.ownsRow C.heap.size 3 1 aj j (ys.map fX)/\ys.length=j/\∀x∈ys,0<=x/\x<=9) (λi _=>k-(vy i).toNat)
         case atStart=>exact⟨0,ad,_,[],by omega,by go_num,by omega,bm,⟨rfl,.inl ⟨rfl,rfl⟩⟩,rfl,λx G=>by simp at G⟩
         case round=>
          obtain⟨j,af,aj,ys,db,rfl,c9,M,B,bU,bT⟩:=hrel;have bt:wr.heap[b]?=some (.cells (mE k (.slice (some ⟨E,0,none⟩) k eT) Y (.slice none 0 0)) 25):=(M.bU.block b (by omega) (by omega)).trans (by rw[<-aw];exact(Pq cF).trans u.out.gl.blk);have bu:wr.cell? ⟨b,0,none⟩=some (.int .i64 k):=aT bt;have bM:some I.heap.size≠some T:=λe=>by have:=Pm e;omega
          have a7:I.heap.size<wr.heap.size:=bp M.blk;have dg:=M.bU.size;have r1:wr.cell? ⟨I.heap.size,1,none⟩=some aj:=aT M.blk;have bD:=M.dN;clear bm;by_cases R:j<k
          . have hd:decide ((j:Int)<k)=true:=by simpa using R
            have aD:decide (j<k)=true:=by simpa using R
            have z:=Pj M;have Q:=Pj B;clear M B;go_wp2;simp only[oZ];have cA:=Pg;go_region_held3 (λ_=>True) (exact trivial) (first
             | (go_at_call 20;refine(pU (A:=A) T af L (by omega) 9 (by omega) _ (by exact z.out.ri.of rfl)).mono ?_;rintro e ao ⟨m,rfl,hm,q,f⟩;have d1:=f.cell (r1.trans rfl) bM;have d2:∀o:Obj,(ao.alloc o).cell? ⟨I.heap.size,1,none⟩=some aj:=(λo=>(Pz _ _ _ (Px a7 f.size)).trans d1);have aA:=Pj q;have J:=Pj f;clear q f)
             | (go_at_call 24;refine(wO (A:=A) T (af+1) L (by omega) ao.heap.size 0 5 5 (ot m) (by omega) _ (by exact aA.out.alloc _) (by have:=aA.out.lt;omega) (by exact Kj _ _ m)).mono ?_;rintro e ax ⟨y,dh,rfl,q,f⟩;have d3:=f.cell (Pz _ _ _ (Px a7 J.out.size) |>.trans d1) bM;have d4:∀o:Obj,(ax.alloc o).cell? ⟨I.heap.size,1,none⟩=some aj:=(λo=>(Pz _ _ _ (Px a7 (Po J.out.size (Po (by simp) f.size)))).trans d3);have aV:=Pj q;have aa:=Pj f;clear q f)
             | (refine step_append_lies _ (by rfl) _ _ _ (by rfl) C.heap.size 3 a8 (.int .i64 0) 1 8 (ag.underlying22 A) aU.out aW.out aX.out aY.out rfl (by omega) aj j (ys.map fX) (by rfl) (BQ Q.out (Nat.lt_trans a4 bD) J.out aa.out) ⟨ax.heap.size,0,none⟩ 1 1 [.int .i64 (ot m y)] (by rfl) (by rfl) (World.news_of_block (cs:=#[.int .i64 (ot m y)]) (t:=3) (fr:=(0,0)) (heap_alloc_new ax _)) (by simp[Value.oneCell']) (by omega) (by unfold maxLen;omega) (by omega) (by have:=Dn J.out aa.out;simp;omega) (ax.heap.size+1) (by simp) ?_;intro aq cap aQ aG F ai cC;have ae:aQ.heap[I.heap.size]?=some (.cells #[.int .i64 fr,aj] 27):=zx z.out.blk Q.out a4 bD J.out aa.out F;have aP:=aT (o:=1) ae;have bZ:=b1 (o:=1) ae;have a1:=Pj aG;have aR:=Pj F;clear aG F ai))
            all_goals (
             have aF:=z.out.round Q.out J.out aa.out aV.out aR.out (.slice (some ⟨aq,0,none⟩) (j+1) cap) 1 a1.out;have ay:=Pj aF;clear aF;go_wp2;exact⟨⟨j+1,af+1+1,_,ys++[ot m y],by omega,by push_cast;rfl,by omega,ay.out.1,by rw[List.map_append];exact ay.out.2,by simp[bU],λx G=>(List.mem_append.1 G).elim (bT x) λh=>by rw[Ps h];exact Kk hm⟩,by show k-((j:Int)+1).toNat<k-(j:Int).toNat;omega⟩)
          . have hd:decide ((j:Int)<k)=false:=by simpa using R
            have aD:decide (j<k)=false:=by simpa using R
            obtain rfl:j=k:=by omega
            obtain⟨bv,br,cS,rfl,_,_,_,_⟩:=xY B (by omega);have r0:wr.cell? ⟨I.heap.size,0,none⟩=some (.int .i64 fr):=aT M.blk;have cP:wr.cell? ⟨b,2,none⟩=some Y:=aT bt;have z4:H.heap.size<=I.heap.size:=u.out.gl.bU.size;have bo:∀o:Obj,(wr.alloc o).ownsRow H.heap.size 27 2 Y rs.length (lj j rs):=λo=>kq u.out.own λi ah V=>(Pq (by omega)).trans ((M.bU.block i (by omega) (by omega)).trans (by rw[<-aw];exact Pq V))
            subst aw;have z:=Pj M;have Q:=Pj B;have b9:=Pj bo;have de:rs.length<=2:=by omega
            have c4:∀r,Y.ownBlock=some r->H.heap.size<=r:=λr e=>(xX u.out.own r e).1
            have c3:T<H.heap.size/\b<H.heap.size:=⟨by omega,u.out.gl.dN⟩
            clear M B bo;obtain⟨cG,bJ,bQ,bR,bS⟩:=HX (A:=A);have b8:=Pj bJ;have cf:=Pj bQ;have cg:=Pj bR;have ch:=Pj bS;clear bJ bQ bR bS;go_wp2_with (first
             | (at_builtin;refine wpList_append_lies _ rfl _ _ 23 rfl H.heap.size 27 cG (.agg #[.int .i64 0,.slice none 0 0]) 2 32 (by kernel_rfl) b8.out cf.out cg.out ch.out rfl (by decide) Y rs.length (lj j rs) rfl (b9.out _) ⟨wr.heap.size,0,none⟩ 1 1 [.int .i64 fr,.slice (some ⟨bv,0,none⟩) j br] rfl rfl (World.news_of_block (cs:=#[.int .i64 fr,.slice (some ⟨bv,0,none⟩) j br]) (t:=27) (fr:=(0,0)) (heap_alloc_new wr _)) (by simp[Value.oneCell']) (by omega) (by unfold maxLen;omega) (by omega) (by simp;omega) (wr.heap.size+1) (by simp) ?_;intro aq cap aQ aH F ai cD;obtain⟨t8,ae⟩:=u.out.NP z.out F;have ca:=Pj t8;clear t8;have a2:=Pj aH;have aS:=Pj F;have b2:=Pj ai;clear aH F ai)
             | (go_at_call 36;refine(vr (A:=A) T af L (by omega) 1 3 (by omega) aQ ca.out).mono ?_;rintro e dt ⟨D,rfl,cU,cV,q,f⟩;have aP:=(f.block b (bp ae) aC).trans ae;have bZ:=aT (o:=2) aP;have dr:=b1 (o:=2) aP;have cb:=Pj q;have b7:=Pj f;clear q f))
            obtain⟨r,ci⟩:=u.out.round bI (by omega) z.out Q.out bU bT aS.out b2.out a2.out b7.out cb.out (fr+D) (by omega);exact⟨⟨fr+D,left-1,af+1,rs++[r],_,by push_cast;rfl,by congr 1;omega,by simp;omega,by simp;omega,ci⟩,by show((left:Int)-1).toNat<(left:Int).toNat;omega⟩
     . have bL:rs≠[]:=by rintro rfl;have:=U.top.1 rfl;simp at cr;omega
       obtain⟨wd,bO⟩ : ∃x,x=wr:=⟨_,rfl⟩
       rw[<-bO] at U ⊢;clear bO;have bG:∀(n:List Nat) (j:Nat),n.Pairwise (· < ·)->(∀x∈n,x<j)->n.length<=j:=λn j ah V=>Il ah V
       have a0:gq wd T b L 25 ad (mE k (.slice (some ⟨E,0,none⟩) k eT) Y (.slice none 0 0)) wd:=gq.start U.gl.blk U.gl.ri U.gl.lJ U.gl.off;have u:=Pj U;clear U;have hlen:rs.length<=N:=by omega
       have cz:(decide ((0:Int)<left)=false/\decide (0<left)=false)\/(decide ((0:Int)<left)=true/\decide (0<left)=true/\decide ((fr:Int)<5)=false/\decide (fr<5)=false):=by
        by_cases h:0<left
        . exact .inr ⟨by simp;omega,by simp;omega,by simp;omega,by simp;omega⟩
        . exact .inl ⟨by simp;omega,by simp;omega⟩
       rcases cz with ⟨q1,ba⟩|⟨q1,ba,bb,cJ⟩
       all_goals (
        go_wp2;go_loopw [9] (λi wr=>∃(j al:Nat) (am:Value) (n:List Nat),j<=5/\i=.int .i64 j/\al<=ad+j/\gq wd T b L 25 al (mE k (.slice (some ⟨E,0,none⟩) k eT) Y am) wr/\wr.ownsRow wd.heap.size 3 1 am n.length (n.map λ(x:Nat)=>fX x)/\n.Pairwise (· < ·)/\∀x∈n,x<j) (λi _=>5-(vy i).toNat)
        case atStart=>exact⟨0,ad,_,[],by omega,by go_num,by omega,a0,⟨rfl,.inl ⟨rfl,rfl⟩⟩,.nil,λx G=>by simp at G⟩
        case round=>
         obtain⟨j,al,am,n,bK,rfl,c8,M,B,aB,ar⟩:=hrel;by_cases R:j<5
         . have hd:decide ((j:Int)<5)=true:=by simp;omega
           have aD:decide (j<5)=true:=by simpa using R
           have bH:n.length<=5:=Po (bG n j aB ar) bK;have az:=Pj (Kx (A:=A) T al L (by have:=cq.2;have:rs.length<=3:=(by omega);omega) 4 (by omega) wr M.ri);have z:=Pj M;have Q:=Pj B;clear M B a0;go_wp2_with (first
            | (at_builtin;refine wpList_append_lies _ rfl _ _ 22 rfl wd.heap.size 3 a8 (.int .i64 0) 1 8 (ag.underlying22 A) aU.out aW.out aX.out aY.out rfl (by omega) am n.length (n.map λ(x:Nat)=>fX x) rfl (kq aL.out λg ah V=>Pq V) ⟨C.heap.size,0,none⟩ 1 1 [.int .i64 j] rfl rfl (World.news_of_block (cs:=#[.int .i64 j]) (t:=3) (fr:=(0,0)) (heap_alloc_new C _)) (by simp[Value.oneCell']) (by omega) (by unfold maxLen;omega) (by omega) (by have:=aK.out.bU.size;simp;omega) (C.heap.size+1) (by simp) ?_;intro aq cap aQ aH F ai cD;have ae:=aK.out.fq aL.out F;have aP:=aT (o:=3) ae;have bZ:=b1 (o:=3) ae;have a2:=Pj aH;have aS:=Pj F;clear aH F ai ae)
            | (go_at_call 46;refine az.out.mono ?_;rintro e C ⟨cN,rfl,q,f⟩;obtain⟨a9,bY⟩:=z.out.called Q.out f q;have bb:C.cell? ⟨b,3,none⟩=some am:=aT a9.blk;have aK:=Pj a9;have aL:=Pj bY;clear q f a9 bY))
           all_goals first
            | exact⟨⟨j+1,al+1,am,n,by omega,by push_cast;rfl,by omega,aK.out,aL.out,aB,λx G=>Nat.lt_succ_of_lt (ar x G)⟩,by show 5-((j:Int)+1).toNat<5-(j:Int).toNat;omega⟩
            | (obtain⟨cH,cI⟩:=aK.out.put aL.out aS.out (.slice (some ⟨aq,0,none⟩) (n.length+1) cap) 3 a2.out
               refine⟨⟨j+1,al+1,_,n++[j],by omega,by push_cast;rfl,by omega,cH,?_,?_,λx G=>(List.mem_append.1 G).elim (λh=>Nat.lt_succ_of_lt (ar x h)) λh=>by rw[Ps h];exact Nat.lt_succ_self j⟩,by show 5-((j:Int)+1).toNat<5-(j:Int).toNat;omega⟩
               . rw[List.length_append,List.map_append];exact cI
               . rw[List.pairwise_append];exact⟨aB,by simp,λa cv c cx=>by rw[Ps cx];exact ar a cv⟩)
         . have hd:decide ((j:Int)<5)=false:=by simp;omega
           have aD:decide (j<5)=false:=by simpa using R
           have bH:n.length<=5:=Po (bG n j aB ar) bK;have dm:wr.cell? ⟨b,0,none⟩=some (.int .i64 k):=aT M.blk;have dn:wr.cell? ⟨b,1,none⟩=some (.slice (some ⟨E,0,none⟩) k eT):=aT M.blk;have dp:wr.cell? ⟨b,2,none⟩=some Y:=aT M.blk;have dq:wr.cell? ⟨b,3,none⟩=some am:=aT M.blk;have ds:=u.out.gl.bU.size;have W:wr.heap[w.heap.size]?=some (.cells #[.int .i64 0,.slice none 0 0,.slice none 0 0,.slice none 0 0] 25):=(M.bU.block _ (by omega) (by omega)).trans ((u.out.gl.bU.block _ (by omega) (by omega)).trans b4);have di:=aT (o:=0) W;have dj:=aT (o:=1) W;have dk:=aT (o:=2) W;have dl:=aT (o:=3) W;have f0:=b1 (o:=0) W;have f1:=b1 (o:=1) W;have f2:=b1 (o:=2) W;have f3:=b1 (o:=3) W;have b5:=Pj W;obtain⟨ap,h8,cT,rfl,ct,bz,bA⟩:=JX u.out.own (λh=>bL (List.eq_nil_of_length_eq_zero h));obtain⟨aO,h9,rfl,bC⟩:=JW B;have z:=Pj M;have Q:=Pj B;have cc:=Pj bC;have az:=Pj (And.intro bz bA);clear M B W a0 bC bz bA;go_wp2;refine bodyPost_ret (results_cell_row rfl _ _ w.heap.size 25 #[.int .i64 k,.slice (some ⟨E,0,none⟩) k eT,.slice (some ⟨ap,0,none⟩) rs.length h8,.slice aO n.length h9] (0,0) _ rfl (Ho b5.out) (ag.underlying25 A) rfl LI) rfl ?_;have aE:∀i,i≠w.heap.size->(qt wr w.heap.size (.int .i64 k) (.slice (some ⟨E,0,none⟩) k eT) (.slice (some ⟨ap,0,none⟩) rs.length h8) (.slice aO n.length h9)).heap[i]?=wr.heap[i]?:=λi au=>Ax au
           have bF:∀i,H.heap.size<=i->i<wd.heap.size->wr.heap[i]?=wd.heap[i]?:=λi ah V=>z.out.bU.block i V (by omega)
           have cy:wr.heap[E]?=H.heap[E]?:=(z.out.bU.block E (by omega) (by omega)).trans (u.out.gl.bU.block E (by omega) (by omega));obtain⟨d,p,ah,V,cn,co⟩:=IU (w:=qt wr w.heap.size (.int .i64 k) (.slice (some ⟨E,0,none⟩) k eT) (.slice (some ⟨ap,0,none⟩) rs.length h8) (.slice aO n.length h9)) (T:=T) (eT:=eT) (h8:=h8) (h9:=h9) cp
            ((aE E (by omega)).trans (cy.trans bg.out.1)) bg.out.2 cB cw ((aE ap (by omega)).trans ((bF ap ct (bp az.out.1)).trans az.out.1)) az.out.2 ⟨by have:rs.length≠0:=(λh=>bL (List.eq_nil_of_length_eq_zero h));omega,by omega⟩
            (λr P=>by obtain⟨⟨cur,aM,bs⟩,a3,aN⟩:=u.out.fD r P;exact⟨⟨cur,(aE _ (by omega)).trans ((bF _ a3 (bp aM)).trans aM),bs⟩,by omega⟩)
            u.out.gw u.out.rP u.out.zero (λcm=>by obtain⟨cl,ck,aM,bs,a3,aN⟩:=cc.out cm;exact⟨cl,ck,aM,by omega,(aE _ (by omega)).trans a3,aN⟩) bH aB (λx G=>by have:=ar x G;omega) ⟨by omega,by omega⟩
           have bf:=Hp (c:=w.heap.size) (a:=.int .i64 k) (b:=.slice (some ⟨E,0,none⟩) k eT) (d:=.slice (some ⟨ap,0,none⟩) rs.length h8) (e:=.slice aO n.length h9) (HO b6.out u.out.gl.bU z.out.bU (by omega)) Pk;obtain⟨cL,t9,t10⟩:=z.out.st;exact⟨d,p,al,ah,by rw[V],cn,co,by omega,⟨⟨cL,(aE T (by omega)).trans t9,t10⟩,bh.out.keep bf⟩,bf⟩)
end
end Go.aN
