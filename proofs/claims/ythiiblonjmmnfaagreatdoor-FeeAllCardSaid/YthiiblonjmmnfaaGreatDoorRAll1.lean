/- A part of FeeAll: no conditions. -/
import Derived.Test.YthiiblonjmmnfaaGreatDoorRAll0
set_option maxHeartbeats 8000000
set_option maxRecDepth 100000
set_option linter.all false
namespace Go.aN
attribute [local go_sem] Oper.semAt_some
open Go.Proofs Go.RowKit Go.Maps Go.Shelf
section
variable{A:Array Func}
def Qt(f:Int)(ba:Nat->Int)(b9:Int)(pre:List e1):iR:=pre.foldl (λB x=>B.take (b9-jI f ba x)) iR.none
def Rs(f:Int)(ba:Nat->Int)(b9:Int)(pre:List e1)(x:e1):Qt f ba b9 (pre++[x])=(Qt f ba b9 pre).take (b9-jI f ba x):=by simp[Qt]
structure Qr(a8:World->Prop)(T k:Nat)(b9:Int)(w:World)(m:Nat)(o:iR)(W:World):Prop where
 t4:W.cell? ⟨w.heap.size+1,0,none⟩=some (.int .i64 k)
 t5:W.cell? ⟨w.heap.size+1+1,0,none⟩=some (.int .i64 b9)
 t6:W.heap[w.heap.size+1+1+1]?=some (.cells #[.int .i64 0,.int .i64 0] 30)
 t8:W.cell? ⟨m,0,none⟩=some (.pointer (some ⟨T,0,none⟩))
 t10:W.heap[m+1]?=some (.cells o.a 73)
 j:a8 W
 e4:w.grownBy W none
 dm:m+1+1+1<=W.heap.size
 sr:w.heap.size+4<=m
 vs:w.heap.size+4<=T/\T<m
def Qr.step{a8:World->Prop}{T k:Nat}{b9:Int}{w:World}{m:Nat}{o:iR}{W dt:World}{row:Option Nat}(h:Qr a8 T k b9 w m o W)(ae:W.grownBy dt row)(ao:∀r,row=some r->r=T\/m+3<=r)(aC:a8 dt):Qr a8 T k b9 w m o dt:=by
 have fS:=h.sr;have d:=h.vs;have f:=h.dm;have c:∀b,(w.heap.size+1<=b/\b<w.heap.size+4)\/(m<=b/\b<m+3)->some b≠row:=λb I e=>by rcases ao b e.symm with rfl|ax<;>omega
 have lt:∀b,(w.heap.size+1<=b/\b<w.heap.size+4)\/(m<=b/\b<m+3)->b<W.heap.size:=λb I=>by omega
 refine⟨ae.cell h.t4 (c _ (by dsimp only;omega)),ae.cell h.t5 (c _ (by dsimp only;omega)),(ae.block _ (lt _ (by omega)) (c _ (by omega))).trans h.t6,ae.cell h.t8 (c _ (by dsimp only;omega)),
  (ae.block _ (lt _ (by omega)) (c _ (by omega))).trans h.t10,aC,?_,Po h.dm ae.size,fS,d⟩
 cases row with
 |none=>exact h.e4.trans ae
 |some r=>exact jq h.e4 ae (by rcases ao r rfl with rfl|ax<;>omega)
def Qr.Qe{a8:World->Prop}{T k:Nat}{b9:Int}{w:World}{m:Nat}{o aS:iR}{W dt:World}(h:Qr a8 T k b9 w m o W)(ae:W.grownBy dt (some (m+1)))(hb:dt.heap[m+1]?=some (.cells aS.a 73))(aC:a8 dt):Qr a8 T k b9 w m aS dt:=by
 have fS:=h.sr;have d:=h.vs;have f:=h.dm;have c:∀b:Nat,b≠m+1->some b≠some (m+1):=λb h e=>h (Pm e)
 exact⟨ae.cell h.t4 (c _ (by dsimp only;omega)),ae.cell h.t5 (c _ (by dsimp only;omega)),(ae.block _ (by omega) (c _ (by omega))).trans h.t6,ae.cell h.t8 (c _ (by dsimp only;omega)),hb,aC,jq h.e4 ae (by omega),Po h.dm ae.size,fS,d⟩
def Qr.init{a8:World->Prop}{T:Nat}{s:gP}{b9:Nat}{w c w3 d:World}{o:Obj}(f:(((w3.alloc (.cells #[.pointer (some ⟨T,0,none⟩)] 60)).alloc (.cells (iR.none).a 73)).alloc o)=d)(q:c.heap.size=w.heap.size+4)(i:w.grownBy c none)(hb:c.heap[w.heap.size+1]?=some (.cells s.a 32)/\c.heap[w.heap.size+1+1]?=some (.cells #[.int .i64 b9] 3)/\c.heap[w.heap.size+1+1+1]?=some (.cells #[.int .i64 0,.int .i64 0] 30))(j:c.heap.size<=T)(l:T<w3.heap.size)(ae:c.grownBy w3 none)(aC:a8 d):
 Qr a8 T s.k b9 w w3.heap.size iR.none d:=by
 have h:w3.grownBy d none:=by rw[<-f];exact(Pn.trans Pn).trans Pn
 have p:=ae.size;have g:∀b x,b<c.heap.size->c.heap[b]?=some x->d.heap[b]?=some x:=λb x hb e=>(h.block b (by omega) (by simp)).trans ((ae.block b hb (by simp)).trans e)
 have di:d.heap[w3.heap.size]?=some (.cells #[.pointer (some ⟨T,0,none⟩)] 60):=by rw[<-f,Pq (by simp only[Pp];omega),Pq (by simp only[Pp];omega),h' _ _ _ rfl]
 have ar:d.heap[w3.heap.size+1]?=some (.cells (iR.none).a 73):=by rw[<-f,Pq (by simp only[Pp];omega),h' _ _ _ (by simp only[Pp])]
 exact⟨aT (g _ _ (by omega) hb.1),aT (g _ _ (by omega) hb.2.1),g _ _ (by omega) hb.2.2,aT di,ar,aC,(i.trans ae).trans h,(by rw[<-f];simp),by omega,by omega⟩
def Rl(w:World)(a b c d:Obj):((((w.alloc a).alloc b).alloc c).alloc d).heap[w.heap.size+1]?=some b/\((((w.alloc a).alloc b).alloc c).alloc d).heap[w.heap.size+1+1]?=some c/\((((w.alloc a).alloc b).alloc c).alloc d).heap[w.heap.size+1+1+1]?=some d:=by
 refine⟨?_,?_,?_⟩
 .rw[Pq (by simp only[Pp];omega),Pq (by simp only[Pp];omega),h' _ _ _ (by simp only[Pp])]
 .rw[Pq (by simp only[Pp];omega),h' _ _ _ (by simp only[Pp])]
 .rw[h' _ _ _ (by simp only[Pp])]
def QR(d:cR)(p:dU)(s:gP)(b9:Nat)(w w3:World)(T c:Nat)(x:e1)(l:List Value):List Value:=.agg (cO d p)::.agg s.a::.int .i64 b9::.pointer (some ⟨w.heap.size,0,none⟩)::.pointer (some ⟨w.heap.size+1,0,none⟩)::.pointer (some ⟨w.heap.size+1+1,0,none⟩)::.pointer (some ⟨w.heap.size+1+1+1,0,none⟩)::.int .i64 0::.pointer (some ⟨w3.heap.size,0,none⟩)::.int .i64 0::.pointer (some ⟨w3.heap.size+1,0,none⟩)::.pointer (some ⟨c,0,none⟩)::.tuple #[.pointer (some ⟨T,0,none⟩),.int .i64 0]::.agg #[.int .i64 d.kinds,.slice (some ⟨p.gv,p.hj,none⟩) d.kinds p.eT,.slice (some ⟨p.j9,p.lg,none⟩) d.eY p.h8,.slice p.hE d.fC p.h9]::.agg #[.int .i64 s.k,.int .i64 s.lm,.int .i64 s.bV,.int .i64 s.fm,.int .i64 s.bN]::.int .i64 b9::.tuple #[.pointer (some ⟨T,0,none⟩),.int .i64 0]::.pointer (some ⟨T,0,none⟩)::.int .i64 0::.int .i64 0::.bool false::undef::undef::.agg #[.int .i64 s.k,.int .i64 s.lm,.int .i64 s.bV,.int .i64 s.fm,.int .i64 s.bN]::.func (.func 44) #[] #[.pointer (some ⟨w3.heap.size+1+1,0,none⟩)]::.agg #[.int .i64 x.1.1,.int .i64 x.1.2]::l
def Ru[S:Std A][P:gg A](d:cR)(ok:d.ok)(p:dU)(w:World)(h:fy w d p)(s:gP)(af:s.ok d)(b9:Nat)(aQ:b9<=999):
 CallsIn Fence.wide 8 (ag A) 13 #[.agg (cO d p),.agg s.a,.int .i64 b9] w λe w'=>e=.returned (.tuple #[.agg #[.int .i64 (Qt (d.first s.k) (cC d s.k) b9 (P8 s)).b4,.int .i64 (Qt (d.first s.k) (cC d s.k) b9 (P8 s)).aj],.int .i64 0])/\w.grownBy w' none:=by
 have a1:Fence.wide.fn 25:=trivial;have bm:Fence.wide.fn 24:=trivial;have aF:Fence.wide.fn 44:=trivial;have ax:=ok.kinds;have Z:w.grownBy ((((w.alloc (.cells (cO d p) 27)).alloc (.cells s.a 32)).alloc (.cells #[.int .i64 b9] 3)).alloc (.cells #[.int .i64 0,.int .i64 0] 30)) none:=(((Pv w _ _).trans Pn).trans Pn).trans Pn;have ay:=Pj (J5 (A:=A) d ok p _ (h.keep Z) s af b9 aQ);have H:=Pj h;have G:=Rl w (.cells (cO d p) 27) (.cells s.a 32) (.cells #[.int .i64 b9] 3) (.cells #[.int .i64 0,.int .i64 0] 30);generalize ar:World.alloc (World.alloc (World.alloc (World.alloc w _) _) _) _=C at ay G Z;have aL:C.heap.size=w.heap.size+4:=by rw[<-ar];simp
 have au:=Pj Z;have G:=Pj G;have aZ:=Pj ar;have aA:=Pj aL;clear h Z ar aL;refine callsIn_of_wp_marks (S.f Tryz.func13) rfl trivial ?_ rfl;simp only[Tryz.ntmps13,List.size_toArray,List.length_cons,List.length_nil,Nat.reduceAdd,Nat.reduceSub,Array.replicate_succ,Array.replicate_zero,List.push_toArray,List.append_toArray,List.nil_append,List.cons_append];refine wpIn_wide.2 ?_;go_wp2_with (first
  |(go_at_call 24;rw[aZ.out];refine ay.out.mono ?_;rintro e w3 ⟨T,rfl,aJ,hb,ae⟩;have V:=(ae.block (w.heap.size+1) (by have:=aA.out;omega) (by simp)).trans G.out.1;have E:∀(o:Nat) (x y:Obj),((w3.alloc x).alloc y).cell? ⟨w.heap.size+1,o,none⟩=s.a[o]?:=λo x y=>(Pz _ _ _ (by have:=bp V;show w.heap.size+1<(w3.alloc x).heap.size;simp;omega)).trans ((Pz _ _ _ (bp V)).trans (aT V));have a9:=E 0;have bc:=E 1;have bd:=E 2;have bf:=E 3;have bg:=E 4;clear E;have aN:=Pj hb;have aw:=Pj ae;have az:=Pj aJ;clear hb ae aJ)
  |(go_at_call 25;refine(callsIn_wide.1 (wv Fence.wide 7 a1 rfl _ _ _ _ _ _)).mono ?_;rintro e w' ⟨rfl,rfl⟩))
 have X:=Pj (qP ok (H.out.keep au.out) az.out aN.out aw.out);have K:=Pj (nx ok X.out.2.2.1 X.out.2.2.2);have a6:s.fm<120:=by have:=af.f;have:=af.hF;omega
 have a5:T<w3.heap.size:=X.out.2.2.2;have aR:=Pj λ(C:World) (a b:Nat) (aa:a<120) (hb:b<120) (j:fh d p T w3.heap.size C)=>
  show Calls (ag A) 20 #[.pointer (some ⟨T,0,none⟩),.int .i64 s.k,.agg #[.int .i64 a,.int .i64 b]] C λe w'=>e=.returned (.int .i64 (fP (d.first s.k) (cC d s.k) a b))/\fh d p T w3.heap.size w'/\C.grownBy w' (some T) by have:=qs (F:=A) K.out (k:=s.k) af.k (by omega) (ba:=cC d s.k) (λday=>by have:=oD ok af.k day;omega) (pD ok X.out.2.2.1 X.out.2.1 af.k) a b aa hb C j;rw[n0 af.k]at this;exact this
 generalize aj:World.alloc (World.alloc (World.alloc w3 _) _) _=ak;have M:=Qr.init (a8:=fh d p T w3.heap.size) aj aA.out au.out G.out az.out a5 aw.out (X.out.1.more ok X.out.2.2.1 X.out.2.2.2 (by rw[<-aj];exact(Pn.trans Pn).trans Pn));have B:ak.heap[w3.heap.size+1+1]?=some (.cells s.a 32):=by rw[<-aj];exact h' _ _ _ (by simp only[Pp])
 have a4:lH ak (w3.heap.size+1+1) s.lm s.bV s.fm s.bN:=⟨aT B,aT B,aT B,aT B⟩
 have a7:=bp B;have ah:=af.l;have a3:=af.bw;have hF:=af.hF;clear aj B a9 bc bd bf bg V;refine(wpIn_wide (n:=8)).1 ?_;refine wpIn_rangeFunc_ownH rfl (by decide) (gf:=44) (lb:=#[.pointer (some ⟨w3.heap.size+1+1,0,none⟩)]) rfl aF (enters_of (S.f Tryz.func44) (by kernel_rfl) rfl)
  (QY Fence.wide 7 aF rfl (by decide) (w3.heap.size+1+1) s.lm s.bV s.fm s.bN ah a3 hF a6 ak a7 a4) fH.t (λW l o aS _ h al _=>fH.b W l o aS h al) (Below.refl _ _) (λ_=>rfl)
  (λpre W=>Qr (fh d p T w3.heap.size) T s.k b9 w w3.heap.size (Qt (d.first s.k) (cC d s.k) b9 pre) W)
  (λ_ _ _=>False)
  (λbz bk Y row af ae ao=>Qr.step af ae (λr e=>.inr (by have:=(ao r e).1;have:=M.dm;omega)) (K.out.keep _ _ _ af.j ae (λr e=>by have:=(ao r e).1;have:=M.dm;omega)))
  (λ_ _ _ _ _ af _ _=>af) M
  (λx bb W=>∃f,w3.heap.size+1+1+1<=f/\W.cell? ⟨f,0,none⟩=some (.int .i64 x.1.1)/\W.cell? ⟨f,1,none⟩=some (.int .i64 x.1.2)/\bb={tmps:=(QR d p s b9 w w3 T f x [undef,undef,undef,undef,undef,undef,undef,undef,undef,undef,undef]).toArray,defers:=[]})
  (λx bb _ X Y row af ae ao=>by obtain⟨f,I,J,ax,aV⟩:=af;exact⟨f,I,cell_kept J ae (λr e=>(ao r e).2),cell_kept ax ae (λr e=>(ao r e).2),aV⟩) ?assign ?body ?done ?stop
 case assign=>
  rintro l pre x W bh ap ai;have aK:=ap.dm;gi_wp2
  refine ai _ _ ((KeepsOthers.alloc _ _).from _) (fH.grown (Pv _ _ none) (by simp)) (ap.step (Pv _ _ none) (λr e=>by cases e) (K.out.keep _ _ none ap.j Pn (by intro b e;cases e))) ⟨W.heap.size,aK,Pr rfl,Pr rfl,rfl⟩
 case body=>
  rintro l pre x bb W bs bu bj ⟨f,bn,bw,bx,rfl⟩ aO;dsimp only[QR];have bt:(ag A).follows .mixedOrders=true:=by kernel_rfl
  have c4:=bj.t4;have fi:=bj.t5;have jE:=bj.t8;have aK:=bj.dm;have fS:=bj.sr;have bq:=bj.vs;have aq:∀b,b≠T->some b≠some T:=λb h e=>h (Pm e)
  have br:=QZ ok af.k (a:=x.1.1) (b:=x.1.2) x.2.2;have bv:=IntWalk.i64_in ((b9:Int)-fP (d.first s.k) (cC d s.k) x.1.1 x.1.2) (by omega);have u:=Pj bj;have a2:fh d p T w3.heap.size W.drew:=K.out.keep _ _ none bj.j ⟨rfl,rfl,rfl,Pk,λ_ _ _=>rfl⟩ (by intro b e;cases e);clear bj;gi_wp2
  refine Go.wpIn_mono (Q:=λe bb U=>e=.normal/\bb={tmps:=(QR d p s b9 w w3 T f x [.int .i64 b9,.pointer (some ⟨T,0,none⟩),.pointer (some ⟨w.heap.size+1,0,none⟩),.int .i64 s.k,.agg #[.int .i64 x.1.1,.int .i64 x.1.2],.int .i64 (fP (d.first s.k) (cC d s.k) x.1.1 x.1.2),.int .i64 (fP (d.first s.k) (cC d s.k) x.1.1 x.1.2),.int .i64 ((b9:Int)-fP (d.first s.k) (cC d s.k) x.1.1 x.1.2),.tuple #[],undef,undef]).toArray,defers:=[]}/\∃L,fh d p T w3.heap.size L/\W.grownBy L (some T)/\U.heap[w3.heap.size+1]?=some (.cells ((Qt (d.first s.k) (cC d s.k) b9 pre).take ((b9:Int)-fP (d.first s.k) (cC d s.k) x.1.1 x.1.2)).a 73)/\L.grownBy U (some (w3.heap.size+1))) ?_ ?_
  .gi_region_with_o (first|(refine⟨trivial,?_⟩;gi_at_call 20;refine(CallsIn.inRound l (callsIn_wide.2 (aR.out _ x.1.1 x.1.2 x.2.1 x.2.2 (by first|exact u.out.j|exact a2)))).mono ?_;rintro e L ⟨rfl,z,i⟩;have a0:=i.cell (a:=⟨w.heap.size+1+1,0,none⟩) fi (aq _ (by dsimp only;omega));have ad:=(i.block (w3.heap.size+1) (by show w3.heap.size+1<W.heap.size;omega) (aq _ (by omega))).trans u.out.t10;have aW:=Pj z;have g:=Pj i;clear z i)|(refine⟨trivial,?_⟩;gi_at_call 21;refine(CallsIn.inRound l (callsIn_wide.2 (m' _ _))).mono ?_;rintro e U ⟨rfl,rfl⟩)|(refine⟨trivial,?_⟩;gi_at_call 26;refine(CallsIn.inRound l (callsIn_wide.2 (Du (A:=A) (w3.heap.size+1) _ _ _ _ _ ad))).mono ?_;rintro e bi ⟨rfl,aE,q⟩;have aM:=Pj aE;have R:=Pj q;have bl:=q.cell (a:=⟨w.heap.size+1+1,0,none⟩) a0 (λe=>by have:=Pm e;dsimp only at this;omega);clear aE q))
   all_goals exact⟨rfl,rfl,_,aW.out,⟨g.out.os,g.out.tape,g.out.output,g.out.size,g.out.block⟩,aM.out,R.out⟩
  .rintro e bb U ⟨rfl,rfl,L,z,i,ad,q⟩
   dsimp only[QR];have aH:=u.out.step i (λr e=>.inl (Pm e).symm) z;have aI:=aH.Qe q ad (K.out.keep _ _ _ z q (λr e=>by have:=Pm e;omega));have aU:=Pj aI;have g:=Pj i;have R:=Pj q;clear aH aI z i ad q;gi_wp2
   refine⟨(KeepsFrom.of_grownBy g.out (λj e=>by have:=Pm e;omega)).trans (KeepsFrom.of_grownBy R.out (λj e=>by have:=Pm e;omega)),(fH.grown g.out (aq _ (by omega))).t (fH.grown R.out (λe=>by have:=Pm e;omega)),?_⟩;dsimp only;rw[Rs];exact aU.out
 case done=>
  rintro D ys W aG rfl bj ai;have z0:=aT (o:=0) bj.t10;have bA:=aT (o:=1) bj.t10;have r0:=aT (o:=0) bj.t6;have r1:=aT (o:=1) bj.t6;have f0:=b1 (o:=0) bj.t6;have f1:=b1 (o:=1) bj.t6;have u:=Pj bj;have aX:=Pj ai;have aP:=Pj aG;clear bj ai aG;gi_wp2
  go_wp2;have bo:w.heap.size+1+1+1<D:=by have:=aP.out;have:=M.dm;have:=M.sr;omega
  obtain⟨o,av⟩:∃o,Qt (d.first s.k) (cC d s.k) (b9:Int) (gy s.lm s.fm s.bN (s.bV-s.lm+1))=o:=⟨_,rfl⟩
  have aY:=Pj av;have am:=cQ (o:=1) (v:=.int .i64 o.aj) (cQ (o:=0) (v:=.int .i64 o.b4) u.out.t6);have aC:w.grownBy ((W.setCell ⟨w.heap.size+1+1+1,0,none⟩ (.int .i64 o.b4)).setCell ⟨w.heap.size+1+1+1,1,none⟩ (.int .i64 o.aj)) none:=kC (kC u.out.e4 (by show w.heap.size<=w.heap.size+1+1+1;omega)) (by show w.heap.size<=w.heap.size+1+1+1;omega);have aB:((W.setCell ⟨w.heap.size+1+1+1,0,none⟩ (.int .i64 o.b4)).setCell ⟨w.heap.size+1+1+1,1,none⟩ (.int .i64 o.aj)).heap[D]?=some (.deferred (some [])):=(ft (by show D≠w.heap.size+1+1+1;omega)).trans ((ft (by show D≠w.heap.size+1+1+1;omega)).trans aX.out);rw[av];refine⟨by simp,.inl ⟨_,_,rfl,run_takeDeferred aB,?_⟩⟩;generalize World.setCell _ _ _=dv at am aB aC ⊢;have aD:=grownBy_putObj' dv D (.deferred none);refine⟨_,Ch rfl _ _ (w.heap.size+1+1+1) 30 #[.int .i64 o.b4,.int .i64 o.aj] (0,0) _ rfl ((aD.block _ (bp am) (by simp;omega)).trans am) (ag.underlying52 A) rfl va _ rfl,?_⟩;refine⟨?_,jq aC aD (by omega)⟩;rw[show Qt (d.first s.k) (cC d s.k) (b9:Int) (P8 s)=o from aY.out];rfl
 case stop=>
  rintro D c pre W _ _ h _;exact h.elim
end
end Go.aN
namespace Go.aN
open Go.Proofs Go.RowKit
section
structure P5 where
 Qe:Nat->Bool
 n:Nat
 m:Nat
 la:Int
 lb:Int
 P':Int
 Qa:Int
 Qc:Int
 Qd:Int
def P5.zero:P5:=⟨λ_=>false,0,0,999,-1,999,-1,999,-999⟩
def P5.put(f:Int)(ba:Nat->Int)(b9:Int)(D:P5)(c:e1):P5 where
 Qe:=λj=>if j=(jI f ba c).toNat then true else D.Qe j
 n:=D.n+1
 m:=if jI f ba c=b9 then D.m+1 else D.m
 la:=if jI f ba c=b9 then min D.la c.1.1 else D.la
 lb:=if jI f ba c=b9 then max D.lb c.1.1 else D.lb
 P':=if jI f ba c=b9 then min D.P' c.1.2 else D.P'
 Qa:=if jI f ba c=b9 then max D.Qa c.1.2 else D.Qa
 Qc:=min D.Qc (b9-jI f ba c)
 Qd:=max D.Qd (b9-jI f ba c)
def P7(f:Int)(ba:Nat->Int)(b9:Int)(pre:List e1):P5:=pre.foldl (P5.put f ba b9) P5.zero
def Q8(f:Int)(ba:Nat->Int)(b9:Int)(pre:List e1)(x:e1):P7 f ba b9 (pre++[x])=(P7 f ba b9 pre).put f ba b9 x:=by simp[P7]
section
variable{f:Int}{ba:Nat->Int}{b9:Int}
def QV(aD:∀c,0<=jI f ba c/\jI f ba c<=99)(aQ:0<=b9/\b9<=99):∀(pre:List e1) (D:P5) (B:iR),((D.n=0/\B.s=false/\D.Qc=999/\D.Qd = -999)\/(D.n≠0/\B.s=true/\B.b4=D.Qc/\B.aj=D.Qd))->
 (((pre.foldl (P5.put f ba b9) D).n=0/\(pre.foldl (λB x=>B.take (b9-jI f ba x)) B).s=false)\/((pre.foldl (λB x=>B.take (b9-jI f ba x)) B).b4=(pre.foldl (P5.put f ba b9) D).Qc/\(pre.foldl (λB x=>B.take (b9-jI f ba x)) B).aj=(pre.foldl (P5.put f ba b9) D).Qd))
 | [],D,B,h=>by
  rcases h with h|h
  .exact .inl ⟨h.1,h.2.1⟩
  .exact .inr h.2.2
 |c::pre,D,B,h=>by
  refine QV aD aQ pre _ _ ?_;have:=aD c;refine .inr ⟨Nat.succ_ne_zero _,rfl,?_,?_⟩
  .show Dt B.b4 B.s (b9-jI f ba c)=min D.Qc (b9-jI f ba c)
   rcases h with⟨_,J,ax,_⟩|⟨_,J,ax,_⟩
   .rw[J,ax]
    show b9-jI f ba c=_;omega
   .rw[J,ax];rfl
  .show Ds B.aj B.s (b9-jI f ba c)=max D.Qd (b9-jI f ba c)
   rcases h with⟨_,J,_,ax⟩|⟨_,J,_,ax⟩
   .rw[J,ax]
    show b9-jI f ba c=_;omega
   .rw[J,ax];rfl
def QU:∀(pre:List e1) (D:P5) (H:iR×iR),((D.m=0/\H.1.s=false/\H.2.s=false/\D.la=999/\D.lb = -1/\D.P'=999/\D.Qa = -1)\/(D.m≠0/\H.1.s=true/\H.2.s=true/\H.1.b4=D.la/\H.1.aj=D.lb/\H.2.b4=D.P'/\H.2.aj=D.Qa))->
 (((pre.foldl (P5.put f ba b9) D).m=0/\(pre.foldl (uk f ba b9) H).1.s=false)\/((pre.foldl (P5.put f ba b9) D).m≠0/\(pre.foldl (uk f ba b9) H).1.s=true/\(pre.foldl (uk f ba b9) H).1.b4=(pre.foldl (P5.put f ba b9) D).la/\(pre.foldl (uk f ba b9) H).1.aj=(pre.foldl (P5.put f ba b9) D).lb/\(pre.foldl (uk f ba b9) H).2.b4=(pre.foldl (P5.put f ba b9) D).P'/\(pre.foldl (uk f ba b9) H).2.aj=(pre.foldl (P5.put f ba b9) D).Qa))
 | [],D,H,h=>by
  rcases h with h|h
  .exact .inl ⟨h.1,h.2.1⟩
  .exact .inr ⟨h.1,h.2.1,h.2.2.2⟩
 |c::pre,D,H,h=>by
  refine QU pre _ _ ?_;have I:=c.2.1;have J:=c.2.2;by_cases e:jI f ba c=b9
  .refine .inr ?_
   simp only[P5.put,uk,if_pos e,iR.take,Dt,Ds];rcases h with⟨_,q1,d,g,i,j,l⟩|⟨_,q1,d,g,i,j,l⟩
   .rw[q1,d,g,i,j,l]
    refine⟨Nat.succ_ne_zero _,trivial,trivial,?_,?_,?_,?_⟩<;>simp only[Bool.false_eq_true,if_false]<;>omega
   .rw[q1,d,g,i,j,l]
    exact⟨Nat.succ_ne_zero _,trivial,trivial,rfl,rfl,rfl,rfl⟩
  .simp only[P5.put,uk,if_neg e]
   exact h
def QL:∀(pre:List e1) (D:P5),(pre.foldl (P5.put f ba b9) D).n=D.n+pre.length/\(pre.foldl (P5.put f ba b9) D).m=D.m+pre.countP (λc=>jI f ba c == b9)
 | [],D=>⟨rfl,rfl⟩
 |c::pre,D=>by
  have d:=QL pre (D.put f ba b9 c);rw[List.foldl_cons,List.length_cons,List.countP_cons];refine⟨d.1.trans (by show D.n+1+pre.length=_;omega),d.2.trans ?_⟩;show(if jI f ba c=b9 then D.m+1 else D.m)+_=_;by_cases e:jI f ba c=b9
  .rw[if_pos e,if_pos (by simpa using e)];omega
  .rw[if_neg e,if_neg (by simpa using e)];omega
def QW:∀(pre:List e1) (D:P5) (j:Nat),(pre.foldl (P5.put f ba b9) D).Qe j=true↔D.Qe j=true\/∃c,c∈pre/\(jI f ba c).toNat=j
 | [],D,j=>by simp
 |c::pre,D,j=>by
  rw[List.foldl_cons,QW pre (D.put f ba b9 c) j];show((if j=(jI f ba c).toNat then true else D.Qe j)=true\/_)↔_;by_cases e:j=(jI f ba c).toNat
  .rw[if_pos e]
   exact⟨λ_=>.inr ⟨c,List.mem_cons_self,e.symm⟩,λ_=>.inl rfl⟩
  .rw[if_neg e]
   constructor
   .rintro(h|⟨x,hx,h⟩)
    .exact .inl h
    .exact .inr ⟨x,List.mem_cons_of_mem _ hx,h⟩
   .rintro(h|⟨x,hx,h⟩)
    .exact .inl h
    .rcases List.mem_cons.1 hx with rfl|hx
     .exact absurd h.symm e
     .exact .inr ⟨x,hx,h⟩
end
end
section
def RF{d:cR}{s:gP}(af:s.ok d){w:World}{v:Value}{g:List Int}{m:Nat}(p:g.Perm (oC d s))(bO:w.ownsRow m 3 1 v g.length ((g.mergeSort (λx y=>decide (x<=y))).map encZ)):
 ∃(b c n:Nat) (f:Nat->Int),v=.slice (some ⟨b,0,none⟩) n c/\0<n/\n<=14400/\iD w b 0 n f/\(∀x,(∃i,i<n/\f i=x)↔x∈oC d s)/\∀i j,i<j->j<n->f i<f j:=by
 have ah:=p.length_eq;have aQ:0<g.length:=by rw[ah];exact List.length_pos_iff.2 (RJ af)
 obtain⟨b,c,e,N⟩:=RI bO aQ;have o:=(List.mergeSort_perm g (λx y=>decide (x<=y))).trans p;have u:(g.mergeSort (λx y=>decide (x<=y))).length=g.length:=List.length_mergeSort _;have r:(g.mergeSort (λx y=>decide (x<=y))).Pairwise (λx y=>decide (x<=y)=true):=List.pairwise_mergeSort (λa b c I J=>by simp at *;omega) (λa b=>by simp;omega) g;have q:(g.mergeSort (λx y=>decide (x<=y))).Nodup:=o.nodup_iff.2 (RH d s);refine⟨b,c,g.length,_,e,aQ,by rw[ah];exact RE af,N,λx=>?_,λi j l aC=>?_⟩
 .rw[<-o.mem_iff,List.mem_iff_getElem]
  constructor
  .rintro⟨i,h,e⟩
   exact⟨i,by omega,by rw[<-e];exact(QO (by omega)).symm⟩
  .rintro⟨i,h,e⟩
   exact⟨i,by omega,by rw[<-e];exact QO h⟩
 .show(g.mergeSort (λx y=>decide (x<=y))).getD i 0<(g.mergeSort (λx y=>decide (x<=y))).getD j 0
  rw[QO (by omega),QO (by omega)];have I:=List.pairwise_iff_getElem.1 r i j (by omega) (by omega) l;have J:=List.pairwise_iff_getElem.1 q i j (by omega) (by omega) l;have I:=of_decide_eq_true I;omega
structure Qv(Qb:Nat)(f1:Nat->Int)(j a:Nat):Prop where
 le:a<=Qb
 b4:∀i,i<a->f1 i<j
 aj:∀i,a<=i->i<Qb->(j:Int)<=f1 i
section
variable{Qb:Nat}{f1:Nat->Int}{j a:Nat}
def Qv.fR(h:Qv Qb f1 j a)(rP:∀i k,i<k->k<Qb->f1 i<f1 k)(aC:∃i,i<Qb/\f1 i=j):a<Qb/\f1 a=j/\Qv Qb f1 (j+1) (a+1):=by
 obtain⟨i,c,e⟩:=aC;have f:a<=i:=by
  rcases Nat.lt_or_ge i a with x|x
  .have:=h.b4 i x;omega
  .exact x
 have I:a<Qb:=by omega
 have J:f1 a=j:=by
  have q:=h.aj a Pk I;rcases Nat.lt_or_ge a i with x|x
  .have:=rP a i x c;omega
  .rw[show a=i by omega];exact e
 refine⟨I,J,I,λk U=>?_,λk g d=>?_⟩
 .rcases Nat.lt_or_ge k a with x|x
  .have:=h.b4 k x;push_cast;omega
  .rw[show k=a by omega,J];push_cast;omega
 .have:=rP a k (by omega) d
  push_cast
  omega
def Qv.Rq(h:Qv Qb f1 j a)(aC:¬∃i,i<Qb/\f1 i=j):Qv Qb f1 (j+1) a:=by
 refine⟨h.le,λk U=>?_,λk d c=>?_⟩
 .have:=h.b4 k U;push_cast;omega
 .have:=h.aj k d c
  have:f1 k≠j:=λe=>aC ⟨k,c,e⟩
  push_cast
  omega
def Qv.last(h:Qv Qb f1 j a)(hb:∀i,i<Qb->f1 i<j):a=Qb:=by
 have:=h.le;rcases Nat.lt_or_ge a Qb with x|x
 .have:=h.aj a Pk x;have:=hb a x;omega
 .omega
end
def QN{d:cR}(ok:d.ok){k:Nat}(U:k<d.kinds)(c:e1):0<=jI (d.first k) (cC d k) c/\jI (d.first k) (cC d k) c<=99:=by
 have I:=ok.first k U
 have J:=Ni (λday=>oD ok U day) (c.1.1 / 24+1) (c.1.2 / 24-c.1.1 / 24);have ax:=c.2.2;unfold jI fP;have:c.1.2 / 24-c.1.1 / 24<=4:=by omega
 have:((c.1.2 / 24-c.1.1 / 24:Nat):Int)<=4:=by omega
 omega
def Q'{d:cR}{s:gP}(af:s.ok d)(b9:Int):QA d s b9=if (P7 (d.first s.k) (cC d s.k) b9 (P8 s)).m=0 then 2 else if (P7 (d.first s.k) (cC d s.k) b9 (P8 s)).m=(P7 (d.first s.k) (cC d s.k) b9 (P8 s)).n then 1 else 3:=by
 obtain⟨ar,g⟩:=QL (f:=d.first s.k) (ba:=cC d s.k) (b9:=b9) (P8 s) P5.zero;have ar:(P7 (d.first s.k) (cC d s.k) b9 (P8 s)).n=(P8 s).length:=ar.trans (Nat.zero_add _);have g:(P7 (d.first s.k) (cC d s.k) b9 (P8 s)).m=(P8 s).countP λc=>jI (d.first s.k) (cC d s.k) c == b9:=g.trans (Nat.zero_add _)
 rw[ar,g];unfold QA;have q1:(P8 s).countP (λc=>jI (d.first s.k) (cC d s.k) c == b9)=0↔¬b9∈oC d s:=by
  rw[List.countP_eq_zero,Qu];constructor
  .rintro h ⟨c,al,e⟩
   exact h c al (by simpa using e)
  .intro h c al e
   exact h ⟨c,al,by simpa using e⟩
 have i:(P8 s).countP (λc=>jI (d.first s.k) (cC d s.k) c == b9)=(P8 s).length↔¬∃v,v∈oC d s/\v≠b9:=by
  rw[List.countP_eq_length];constructor
  .rintro h ⟨v,aD,e⟩
   obtain⟨c,al,rfl⟩:=(Qu v).1 aD;exact e (by simpa using h c al)
  .intro h c al
   rcases Classical.em (jI (d.first s.k) (cC d s.k) c=b9)with e|e
   .simpa using e
   .exact absurd ⟨_,(Qu _).2 ⟨c,al,rfl⟩,e⟩ h
 by_cases c1:b9∈oC d s
 .rw[if_pos c1,if_neg (λx=>q1.1 x c1)]
  by_cases c2:∃v,v∈oC d s/\v≠b9
  .rw[if_pos c2,if_neg (λx=>i.1 x c2)]
  .rw[if_neg c2,if_pos (i.2 c2)]
 .rw[if_neg c1,if_pos (q1.2 c1)]
def Q9{d:cR}(ok:d.ok){s:gP}(af:s.ok d)(b9:Int)(j:Nat):(P7 (d.first s.k) (cC d s.k) b9 (P8 s)).Qe j=true↔(j:Int)∈oC d s:=by
 rw[Qu];refine(QW (f:=d.first s.k) (ba:=cC d s.k) (b9:=b9) (P8 s) P5.zero j).trans ⟨?_,?_⟩
 .rintro(h|⟨c,al,e⟩)
  .cases h
  .exact⟨c,al,by have:=(QN ok af.k c).1;omega⟩
 .rintro⟨c,al,e⟩
  exact .inr ⟨c,al,by omega⟩
end
section
variable{A:Array Func}
abbrev Qq(n:Nat)(f:Nat->Bool):Array Value:=((List.range n).map λi=>Value.bool (f i)).toArray
def QM{n:Nat}{f:Nat->Bool}{i:Nat}(h:i<n):(Qq n f)[i]?=some (.bool (f i)):=by simp[Qq,h]
def Ra{n:Nat}{f:Nat->Bool}{i:Nat}(b:Bool):(Qq n f).setIfInBounds i (.bool b)=Qq n λj=>if j=i then b else f j:=by
 refine Array.ext_getElem? λj=>?_
 rcases Nat.lt_or_ge j n with h|h
 .rw[QM h]
  by_cases e:i=j
  .subst e
   rw[PC (by simpa [Qq]using h)];simp
  .rw[PB e,QM h,if_neg λx=>e x.symm]
 .rw[Array.getElem?_eq_none (by simpa [Qq]using h),Array.getElem?_eq_none (by simpa [Qq]using h)]
structure Qk(d:cR)(p:dU)(s:gP)(B y K X:Nat)(D:P5)(w:World):Prop where
 sV:fy w d p
 Qf:w.heap[B]?=some (.cells (cO d p) 27)
 Qg:w.heap[y]?=some (.cells s.a 32)
 P6:w.heap[K]?=some (.cells (Qq 100 D.Qe) 4)
 Qn:w.heap[X]?=some (.cells #[.int .i64 D.la,.int .i64 D.lb] 30)
 Qx:w.heap[X+1]?=some (.cells #[.int .i64 D.P',.int .i64 D.Qa] 30)
 Qs:w.heap[X+1+1]?=some (.cells #[.int .i64 D.Qc,.int .i64 D.Qd] 30)
 b4:p.below d K/\B<K/\y<K/\K<X
variable{d:cR}{p:dU}{s:gP}{B y K X:Nat}{D:P5}{w:World}
def Qk.keep{w':World}(h:Qk d p s B y K X D w)(g:w.grownBy w' none):Qk d p s B y K X D w':=
 ⟨h.sV.keep g,(g.block _ (bp h.Qf) (by simp)).trans h.Qf,(g.block _ (bp h.Qg) (by simp)).trans h.Qg,(g.block _ (bp h.P6) (by simp)).trans h.P6,(g.block _ (bp h.Qn) (by simp)).trans h.Qn,(g.block _ (bp h.Qx) (by simp)).trans h.Qx,(g.block _ (bp h.Qs) (by simp)).trans h.Qs,h.b4⟩
def Qk.met{P9:P5}(h:Qk d p s B y K X D w)(v:Nat)(f g:Int)(ar:P9.Qe=λj=>if j=v then true else D.Qe j)(c:P9.la=D.la/\P9.lb=D.lb/\P9.P'=D.P'/\P9.Qa=D.Qa)(l:P9.Qc=f/\P9.Qd=g):
 Qk d p s B y K X P9 (((w.setCell ⟨K,v,none⟩ (.bool true)).setCell ⟨X+1+1,0,none⟩ (.int .i64 f)).setCell ⟨X+1+1,1,none⟩ (.int .i64 g)):=by
 obtain⟨o,r,u,z⟩:=h.b4;have k:∀i,i≠K->i≠X+1+1->(((w.setCell ⟨K,v,none⟩ (.bool true)).setCell ⟨X+1+1,0,none⟩ (.int .i64 f)).setCell ⟨X+1+1,1,none⟩ (.int .i64 g)).heap[i]?=w.heap[i]?:=λi I J=>(ft (by show i≠X+1+1;exact J)).trans ((ft (by show i≠X+1+1;exact J)).trans (ft (by show i≠K;exact I)))
 refine⟨h.sV.QB o λi q=>k i (by omega) (by omega),(k B (by omega) (by omega)).trans h.Qf,(k y (by omega) (by omega)).trans h.Qg,?_,?_,?_,?_,h.b4⟩
 .refine(ft (by show K≠X+1+1;omega)).trans ((ft (by show K≠X+1+1;omega)).trans ((cQ h.P6).trans ?_))
  rw[ar,Ra]
 .rw[c.1,c.2.1];exact(k X (by omega) (by omega)).trans h.Qn
 .rw[c.2.2.1,c.2.2.2];exact(k (X+1) (by omega) (by omega)).trans h.Qx
 .rw[l.1,l.2]
  exact cQ (cQ ((ft (by show X+1+1≠K;omega)).trans h.Qs))
def Qk.fit{P9:P5}(h:Qk d p s B y K X D w)(j lb f g:Int)(ar:P9.Qe=D.Qe)(c:P9.la=j/\P9.lb=lb/\P9.P'=f/\P9.Qa=g)(l:P9.Qc=D.Qc/\P9.Qd=D.Qd):
 Qk d p s B y K X P9 ((((w.setCell ⟨X,0,none⟩ (.int .i64 j)).setCell ⟨X,1,none⟩ (.int .i64 lb)).setCell ⟨X+1,0,none⟩ (.int .i64 f)).setCell ⟨X+1,1,none⟩ (.int .i64 g)):=by
 obtain⟨o,r,u,z⟩:=h.b4;have k:∀i,i≠X->i≠X+1->((((w.setCell ⟨X,0,none⟩ (.int .i64 j)).setCell ⟨X,1,none⟩ (.int .i64 lb)).setCell ⟨X+1,0,none⟩ (.int .i64 f)).setCell ⟨X+1,1,none⟩ (.int .i64 g)).heap[i]?=w.heap[i]?:=λi I J=>(ft (by show i≠X+1;exact J)).trans ((ft (by show i≠X+1;exact J)).trans ((ft (by show i≠X;exact I)).trans (ft (by show i≠X;exact I))))
 refine⟨h.sV.QB o λi q=>k i (by omega) (by omega),(k B (by omega) (by omega)).trans h.Qf,(k y (by omega) (by omega)).trans h.Qg,?_,?_,?_,?_,h.b4⟩
 .rw[ar];exact(k K (by omega) (by omega)).trans h.P6
 .rw[c.1,c.2.1]
  exact(ft (by show X≠X+1;omega)).trans ((ft (by show X≠X+1;omega)).trans (cQ (cQ h.Qn)))
 .rw[c.2.2.1,c.2.2.2]
  exact cQ (cQ ((ft (by show X+1≠X;omega)).trans ((ft (by show X+1≠X;omega)).trans h.Qx)))
 .rw[l.1,l.2];exact(k (X+1+1) (by omega) (by omega)).trans h.Qs
end
section
variable{A:Array Func}
@[simp] theorem ag.RK:(ag A).underlying 35=some (TypeDesc.slice 4):=by kernel_rfl
section
variable{w:World}{b:Nat}{c:Array Value}{e:TypeId}{f:Nat×Nat}
def c2(h:w.heap[b]?=some (.cells c e f)):w.cell? ⟨b,0,none⟩=c[0]?/\w.cell? ⟨b,1,none⟩=c[1]?:=⟨aT h,aT h⟩
def c4(h:w.heap[b]?=some (.cells c e f)):w.cell? ⟨b,0,none⟩=c[0]?/\w.cell? ⟨b,1,none⟩=c[1]?/\w.cell? ⟨b,2,none⟩=c[2]?/\w.cell? ⟨b,3,none⟩=c[3]?:=⟨aT h,aT h,aT h,aT h⟩
def fi(h:w.heap[b]?=some (.cells c e f)):w.cell? ⟨b,0,none⟩=c[0]?/\w.cell? ⟨b,1,none⟩=c[1]?/\w.cell? ⟨b,2,none⟩=c[2]?/\w.cell? ⟨b,3,none⟩=c[3]?/\w.cell? ⟨b,4,none⟩=c[4]?:=⟨aT h,aT h,aT h,aT h,aT h⟩
end
def QT{f:Int}{ba:Nat->Int}{a b:Nat}(I:a<120)(J:b<120):jI f ba (so a b)=fP f ba a b:=by simp[jI,so,I,J]
def Rr{a b:Nat}(I:a<120)(J:b<120):(so a b).1.1=a/\(so a b).1.2=b:=by simp[so,I,J]
def Rn:∃i,(ag A).info? 4=some i/\i.zero=some (.bool false)/\i.size=1/\i.bytes=1:=⟨_,rfl,rfl,rfl,rfl⟩
def Ro(w:World):Sem.run (ag A) (Instr.makeSlice 35 (.int .i64 100) (.int .i64 100)) w=Result.ok (.slice (some ⟨w.heap.size,0,none⟩) 100 100) (w.alloc (.cells (Qq 100 λ_=>false) 4)):=by obtain⟨i,I,J,ax,aV⟩:=Rn (A:=A);have h:=run_makeSlice (P:=ag A) w 35 4 i (.bool false) (ag.RK (A:=A)) I J .i64 .i64 100 100 (by omega) (by omega) (by rw[ax];decide) (by rw[aV];decide) (by omega);refine h.trans ?_;rw[ax,show madeCells (Value.bool false).cells (Int.toNat 100*1)=Qq 100 λ_=>false by kernel_rfl];rfl
def Rm{f:Int}{ba:Nat->Int}(b9:Int)(l:List e1):um (iG f ba b9 l)=(if (P7 f ba b9 l).m=0 then .tuple #[.agg #[.int .i64 0,.int .i64 0],.agg #[.int .i64 0,.int .i64 0],.int .i64 11]else
 .tuple #[.agg #[.int .i64 (P7 f ba b9 l).la,.int .i64 (P7 f ba b9 l).lb],.agg #[.int .i64 (P7 f ba b9 l).P',.int .i64 (P7 f ba b9 l).Qa],.int .i64 0]):=by
 rcases QU (f:=f) (ba:=ba) (b9:=b9) l P5.zero (iR.none,iR.none) (.inl ⟨rfl,rfl,rfl,rfl,rfl,rfl,rfl⟩)with⟨I,J⟩|⟨I,J,ax,aV,bm,b'⟩
 .rw[if_pos (show(P7 f ba b9 l).m=0 from I)]
  unfold um;rw[show(iG f ba b9 l).1.s=false from J,if_neg (by simp)]
 .rw[if_neg (show ¬(P7 f ba b9 l).m=0 from I)]
  unfold um;rw[show(iG f ba b9 l).1.s=true from J,if_pos rfl,show(iG f ba b9 l).1.b4=_ from ax,show(iG f ba b9 l).1.aj=_ from aV,show(iG f ba b9 l).2.b4=_ from bm,show(iG f ba b9 l).2.aj=_ from b'];rfl
def Rt{d:cR}(ok:d.ok){s:gP}(af:s.ok d){b9:Int}(aQ:0<=b9/\b9<=99):(Qt (d.first s.k) (cC d s.k) b9 (P8 s)).b4=(P7 (d.first s.k) (cC d s.k) b9 (P8 s)).Qc/\(Qt (d.first s.k) (cC d s.k) b9 (P8 s)).aj=(P7 (d.first s.k) (cC d s.k) b9 (P8 s)).Qd:=by
 refine(QV (λc=>QN ok af.k c) aQ (P8 s) P5.zero iR.none (.inl ⟨rfl,rfl,rfl,rfl⟩)).resolve_left λ⟨I,_⟩=>?_
 have J:=(QL (f:=d.first s.k) (ba:=cC d s.k) (b9:=b9) (P8 s) P5.zero).1;obtain⟨c,al⟩:=Q6 af;have:=List.length_pos_of_mem al;have ax:P5.zero.n=0:=rfl;omega
def RL(D:P5)(X left aX i:Nat):Value:=#[.int .i64 D.m,.int .i64 ((D.m:Int)+1),.pointer (some ⟨X,0,none⟩),.int .i64 D.la,.int .i64 left,.int .i64 (min D.la left),.pointer (some ⟨X,1,none⟩),.int .i64 D.lb,.int .i64 left,.int .i64 (max D.lb left),.agg #[.int .i64 (min D.la left),.int .i64 (max D.lb left)],.pointer (some ⟨X+1,0,none⟩),.int .i64 D.P',.int .i64 aX,.int .i64 (min D.P' aX),.pointer (some ⟨X+1,1,none⟩),.int .i64 D.Qa,.int .i64 aX,.int .i64 (max D.Qa aX),.agg #[.int .i64 (min D.P' aX),.int .i64 (max D.Qa aX)],.int .i64 ((D.m:Int)+1)].getD i undef
def Qw(i:Nat):List Nat:=[[],[0],[],[2],[],[3,4],[],[6],[],[7,8],[5,9],[],[11],[],[12,13],[],[15],[],[16,17],[14,18,10]].getD i []
structure Qh(val:Nat->Value)(old:Value)(Qi:World)(st:World->World)(Fin:World->Prop)(L:Nat->Bool)(v:List Value)(W:World):Prop where
 n:v.length=21
 c:∀i,i<=20->L i=true->v.getD i undef=val i
 o:L 20=false->v.getD 20 undef=old
 d:∀i,i<20->L i=true->∀d,d∈Qw i->L d=true
 p:∀i j,i<j->20<=j->j<=22->L j=true->L i=true
 x:L 21=false->Qi.grownBy W none
 y:L 21=true->L 22=false->∃dt,Qi.grownBy dt none/\W=st dt
 z:L 22=true->Fin W
section
variable{val:Nat->Value}{old:Value}{Qi W dt:World}{st:World->World}{Fin:World->Prop}{L:Nat->Bool}{v QI:List Value}
def Qh.no(h:Qh val old Qi st Fin L v W){i:Nat}(eP:L i=false)(j:Nat)(I:i<j:=by omega)(J:20<=j:=by omega)(ax:j<=22:=by omega):L j=false:=by
 cases e:L j with
 |false=>rfl
 |true=>rw[h.p i j I J ax e]at eP;cases eP
def Qh.get(h:Qh val old Qi st Fin L v W){k:Nat}(hd:∀d,d∈Qw k->L d=true)(i:Nat)(m:i∈Qw k:=by decide)(c:i<=20:=by decide):v.getD i undef=val i:=h.c i c (hd i m)
def QF{L:Nat->Bool}{i j:Nat}(h:bt L i j=true):j=i\/L j=true:=by
 unfold bt at h;split at h
 .exact .inl (by assumption)
 .exact .inr h
def QJ{L:Nat->Bool}{i j:Nat}(h:bt L i j=false):i≠j/\L j=false:=by
 unfold bt at h;split at h
 .cases h
 .exact⟨λe=>by simp_all,h⟩
def QK{L:Nat->Bool}{i j:Nat}(h:L j=true):bt L i j=true:=by unfold bt;split<;>simp_all
def Qh.put(h:Qh val old Qi st Fin L v W){i:Nat}(o:i<=22)(eP:L i=false)(hd:i<20->∀d,d∈Qw i->L d=true)(aQ:20<=i->∀j,j<i->L j=true)(g:i<21->W.grownBy dt none)(f:i=21->dt=st W)(l:i=22->Fin dt)(aD:QI=v.set i (val i)):
 Qh val old Qi st Fin (bt L i) QI dt:=by
 have k:∀j,j≠i->QI.getD j undef=v.getD j undef:=λj e=>by rw[aD];simp[List.getElem?_set_ne (Ne.symm e)]
 refine⟨by rw[aD,List.length_set,h.n],λj aC ah=>?_,λx=>?_,λj aC ah d hm=>(QF ah).elim (λe=>QK (hd (e ▸ aC) d (e ▸ hm))) λe=>QK (h.d j aC e d hm),λa j I J ax ah=>(QF ah).elim (λe=>QK (aQ (e ▸ J) a (e ▸ I))) λe=>QK (h.p a j I J ax e),λx=>?_,λx y=>?_,λx=>?_⟩
 .by_cases e:j=i
  .subst e
   rw[aD];have:=h.n;simp[List.getElem?_set_self (show j<v.length by omega)]
  .exact(k j e).trans (h.c j aC ((QF ah).resolve_left e))
 .exact(k 20 (QJ x).1.symm).trans (h.o (QJ x).2)
 .obtain⟨a,b⟩:=QJ x
  refine(h.x b).trans (g ?_);by_cases e:i=22
  .have:=aQ (by omega) 21 (by omega)
   rw[b]at this;cases this
  .omega
 .obtain⟨a,b⟩:=QJ y
  rcases QF x with e|e
  .exact⟨W,h.x (e ▸ eP),f e.symm⟩
  .by_cases c:i=21
   .rw[<-c,eP]at e;cases e
   .rw[h.p i 21 (by omega) (by omega) (by omega) e]at eP;cases eP
 .rcases QF x with e|e
  .exact l e.symm
  .by_cases c:i=22
   .rw[<-c,eP]at e;cases e
   .rw[h.p i 22 (by omega) (by omega) (by omega) e]at eP;cases eP
def Qh.low(h:Qh val old Qi st Fin L v W){i:Nat}(c:i<20)(eP:L i=false)(hd:∀d,d∈Qw i->L d=true)(g:W.grownBy dt none)(aD:QI=v.set i (val i)):Qh val old Qi st Fin (bt L i) QI dt:=
 h.put (by omega) eP (λ_=>hd) (by omega) (λ_=>g) (by omega) (by omega) aD
def Qh.Qj(h:Qh val old Qi st Fin L v W)(a b:Nat)(q:L a=true)(m:b∈Qw a:=by decide)(n:a<20:=by decide):L b=true:=h.d a n q b m
def Qh.all(h:Qh val old Qi st Fin L v W)(u:L 0=true)(q1:L 1=true)(c:L 19=true)(j:Nat)(aC:j<20):L j=true:=by
 have f:=h.Qj 19 14 c;have g:=h.Qj 19 18 c;have d:=h.Qj 19 10 c;have o:=h.Qj 14 12 f;have z:=h.Qj 14 13 f;have p:=h.Qj 18 16 g;have C:=h.Qj 18 17 g;have w:=h.Qj 12 11 o;have B:=h.Qj 16 15 p;have i:=h.Qj 10 5 d;have l:=h.Qj 10 9 d;have q:=h.Qj 5 3 i;have E:=h.Qj 5 4 i;have r:=h.Qj 9 7 l;have G:=h.Qj 9 8 l;have D:=h.Qj 3 2 q;have F:=h.Qj 7 6 r;rcases j with _|_|_|_|_|_|_|_|_|_|_|_|_|_|_|_|_|_|_|_|j
 all_goals first|assumption|omega
def Qh.start{P:Program}{ops:Array Oper}{Q:Exit->Act->World->Prop}{id:Nat}{T:Value->Value->Value->Value->Value->Value->Value->Value->Value->Value->Value->Value->Value->Value->Value->Value->Value->Value->Value->Value->Value->Act}(hm:P.follows .mixedOrders=true)(hb:zq ops=true)(af:∀(L:Nat->Bool) (i:Nat) (o:Oper) (a0 c z a3 a4 a5 C D E a9 d f g j l p q r u w B:Value) (W:World),ops[i]?=some o->L i=false->(∀e∈o.after,Region.binds .any e=true->L e.on=true)->Qh val old Qi st Fin L [a0,c,z,a3,a4,a5,C,D,E,a9,d,f,g,j,l,p,q,r,u,w,B] W->wpOp P ops Q i (λa dt=>∃dN F Y aa ad ae ag ah ai aj G H K M S U eb h1 V X Z:Value,a=T dN F Y aa ad ae ag ah ai aj G H K M S U eb h1 V X Z/\Qh val old Qi st Fin (bt L i) [dN,F,Y,aa,ad,ae,ag,ah,ai,aj,G,H,K,M,S,U,eb,h1,V,X,Z] dt) (T a0 c z a3 a4 a5 C D E a9 d f g j l p q r u w B) W)(he:∀(L:Nat->Bool) (a0 c z a3 a4 a5 C D E a9 d f g j l p q r u w B:Value) (W:World),(∀i,i<ops.size->L i=true)->Qh val old Qi st Fin L [a0,c,z,a3,a4,a5,C,D,E,a9,d,f,g,j,l,p,q,r,u,w,B] W->Q .normal (T a0 c z a3 a4 a5 C D E a9 d f g j l p q r u w B) W)(al am aB aC ks gK aD iA aE aF ao ap aq ar au av aw ay az aA ak:Value)(aP:old=ak):(Code.region id ops true).wp P Q (T al am aB aC ks gK aD iA aE aF ao ap aq ar au av aw ay az aA ak) Qi:=
 wp_region_held (R:=λL a W=>∃dN F Y aa ad ae ag ah ai aj G H K M S U eb h1 V X Z:Value,a=T dN F Y aa ad ae ag ah ai aj G H K M S U eb h1 V X Z/\Qh val old Qi st Fin L [dN,F,Y,aa,ad,ae,ag,ah,ai,aj,G,H,K,M,S,U,eb,h1,V,X,Z] W) hm hb (λL i o a W I J ax ⟨a0,c,z,a3,a4,a5,C,D,E,a9,d,f,g,j,l,p,q,r,u,w,B,e,h⟩=>e ▸ af L i o a0 c z a3 a4 a5 C D E a9 d f g j l p q r u w B W I J ax h) (λL a W I ⟨a0,c,z,a3,a4,a5,C,D,E,a9,d,f,g,j,l,p,q,r,u,w,B,e,h⟩=>e ▸ he L a0 c z a3 a4 a5 C D E a9 d f g j l p q r u w B W I h) ⟨al,am,aB,aC,ks,gK,aD,iA,aE,aF,ao,ap,aq,ar,au,av,aw,ay,az,aA,ak,rfl,⟨rfl,λ_ _ h=>(by cases h),λ_=>aP.symm,λ_ _ h=>(by cases h),λ_ _ _ _ _ h=>(by cases h),λ_=>fQ (Pw _ _),λh=>(by cases h),λh=>(by cases h)⟩⟩
end
def Re[S:Std A][P:gg A](bJ:∀w,Calls (ag A) 14 #[] w λe w'=>e=.returned (.bool true)/\w=w')(w:World)(au:Value)(h:j4 w au w.heap.size)(eP:au.oneCell'=true):
 Calls (ag A) 3 #[au] w λe _=>e=.returned (.bool true):=by
 have ay:=Pj (O' (A:=A) au w h eP);clear h;go_enter (S.f Tryz.func3),Tryz.ntmps3;go_upto_region 5 with(first
  |(go_at_call 4;refine ay.out.mono ?_;rintro e dh ⟨rfl,az,H⟩;have b8:=Pj az;clear az H)
  |(go_at_call 5;refine(Pe (A:=A) w.heap.size 0 au (by omega) dh b8.out).mono ?_;rintro e w2 ⟨d,p,cD,ok,rfl,cJ,cN,dr,az,H⟩;have a6:=Pj az;have cb:=Pj cJ;clear az H cJ)
  |(go_at_call 6;refine(RD (A:=A) w.heap.size cD au (by omega) d ok p 10 (by omega) _ (a6.out.alloc _)).mono ?_;rintro e w3 ⟨s,rfl,af,az,H⟩;have t3:fy w3 d p:=((cb.out.keep Pn).uw H cN);have am:w3.heap[w2.heap.size]?=some (.cells (cO d p) 27):=((H.block _ (by simp) (λe=>by have:=Pm e;have:=a6.out.lt;omega)).trans (gA _ _));have cP:w.heap.size<w2.heap.size:=a6.out.lt;have ca:=Pj (az.alloc (.cells s.a 32));have bB:=Pj t3;have bw:=Pj am;clear az H t3 am)
  |(go_at_call 7;refine(pU (A:=A) w.heap.size (cD+7) au (by omega) 15 (by omega) _ ca.out).mono ?_;rintro e ap ⟨b9,rfl,dy,az,H⟩;have aL:=Pj H;clear az H))
 generalize w2.heap.size=B at *;have db:=Ro (A:=A);go_upto_region 7 with fail
 clear db;generalize aZ:ap.alloc (.cells (Qq 100 λ_=>false) 4)=bT;have q:=Pj (Pw bT none);go_upto_region 8 with(go_at_call 8;refine(QG (A:=A) _ _ _).mono ?_;rintro e I ⟨rfl,ae⟩;have U:=q.out.trans ae;clear q;have q:=Pj U;clear U ae)
 have aV:=bB.out.below ok;have cH:=bp bw.out;have cU:=aL.out.size;simp only[Pp]at cU;have dg:=q.out.size;have df:bT.heap.size=ap.heap.size+1:=by rw[<-aZ];simp
 have kZ:fy I d p:=(((bB.out.keep (Pv _ (.cells s.a 32) none)).uw aL.out cN).keep (show ap.grownBy bT none by rw[<-aZ];exact Pn)).keep q.out;have bL:∀i,i<ap.heap.size->I.heap[i]?=ap.heap[i]?:=λi G=>(q.out.block i (by omega) (by simp)).trans (by rw[<-aZ];exact Pq G)
 have di:I.heap[B]?=some (.cells (cO d p) 27):=(bL B (by omega)).trans ((aL.out.block B (by simp;omega) (λe=>by have:=Pm e;omega)).trans ((Pq cH).trans bw.out));have ar:I.heap[w3.heap.size]?=some (.cells s.a 32):=(bL _ (by omega)).trans ((aL.out.block _ (by simp) (λe=>by have:=Pm e;omega)).trans (gA _ _));have E:I.heap[ap.heap.size]?=some (.cells (Qq 100 λ_=>false) 4):=(q.out.block _ (by omega) (by simp)).trans (by rw[<-aZ];exact gA _ _);generalize hW:World.alloc (World.alloc (World.alloc I _) _) _=W;have a1:∀i,i<I.heap.size->W.heap[i]?=I.heap[i]?:=λi G=>by rw[<-hW,Pq (by simp only[Pp];omega),Pq (by simp only[Pp];omega),Pq G]
 have bE:Qk d p s B w3.heap.size ap.heap.size I.heap.size P5.zero W:=by
  refine⟨kZ.QB (kZ.below ok) a1,(a1 _ (by omega)).trans di,(a1 _ (by omega)).trans ar,(a1 _ (by omega)).trans E,?_,?_,?_,⟨⟨by have:=aV.F;omega,by have:=aV.R;omega,λi G=>by have:=aV.P i G;omega,λb o ak e=>by have:=aV.rL b o ak e;omega⟩,by omega,by omega,by omega⟩⟩
  .rw[<-hW,Pq (by simp only[Pp];omega),Pq (by simp only[Pp];omega)]
   exact gA _ _
  .rw[<-hW,Pq (by simp only[Pp];omega),h' _ _ _ (by simp only[Pp])]
   rfl
  .rw[<-hW,h' _ _ _ (by simp only[Pp])]
   rfl
 have b3:=Pj bE;have v1:=aT (o:=1) bE.Qg;clear hW a1 di ar E kZ bL df dg cU aV cH aZ q aL bw bB ca a6 cb b8 ay bE;generalize I.heap.size=X at *;generalize ap.heap.size=K at *;generalize w3.heap.size=y at *;have ah:=af.l;have cF:=af.bw;have hF:=af.hF;have aB:=af.f;go_wp2;clear v1;go_loopw [8,9,13] (λn m i wr=>∃k:Nat,k<=s.bV-s.lm+1/\n=.int .i64 (P7 (d.first s.k) (cC d s.k) b9 (gy s.lm s.fm s.bN k)).n/\m=.int .i64 (P7 (d.first s.k) (cC d s.k) b9 (gy s.lm s.fm s.bN k)).m/\i=.int .i64 ((s.lm+k:Nat):Int)/\Qk d p s B y K X (P7 (d.first s.k) (cC d s.k) b9 (gy s.lm s.fm s.bN k)) wr) (λ_ _ i _=>s.bV+1-(vy i).toNat)
 case atStart=>exact⟨0,by omega,by go_num,by go_num,by go_num,b3.out⟩
 case round=>
  clear b3;obtain⟨k,U,rfl,rfl,rfl,br⟩:=hrel;obtain⟨-,v1,v2,v3,v4⟩:=fi br.Qg;obtain⟨left,bK⟩:∃left,left=s.lm+k:=⟨_,rfl⟩
  rw[<-bK];have a2:=Pj bK;clear bK;by_cases aO:left<=s.bV
  .have u:=decide_eq_true (show(left:Int)<=s.bV by omega)
   have z:decide (left<=s.bV)=true:=by simpa using aO
   have r:=Pj br;clear br;go_wp2;clear v1 v2 v3 v4 u z;go_loopw [8,9,14] (λn m i wr=>∃j:Nat,j<=s.bN+1-max left s.fm/\n=.int .i64 (P7 (d.first s.k) (cC d s.k) b9 (gy s.lm s.fm s.bN k++lV s.fm left j)).n/\m=.int .i64 (P7 (d.first s.k) (cC d s.k) b9 (gy s.lm s.fm s.bN k++lV s.fm left j)).m/\i=.int .i64 ((max left s.fm+j:Nat):Int)/\Qk d p s B y K X (P7 (d.first s.k) (cC d s.k) b9 (gy s.lm s.fm s.bN k++lV s.fm left j)) wr) (λ_ _ i _=>s.bN+1-(vy i).toNat)
   case atStart=>
    refine⟨0,by omega,?_,?_,?_,?_⟩
    .rw[show lV s.fm left 0 = []from rfl,List.append_nil]
    .rw[show lV s.fm left 0 = []from rfl,List.append_nil]
    .show Value.int _ _=_
     congr 1;omega
    .rw[show lV s.fm left 0 = []from rfl,List.append_nil]
     exact r.out
   case round=>
    clear r;obtain⟨j,aC,rfl,rfl,rfl,br⟩:=hrel;obtain⟨-,-,-,v3,v4⟩:=fi br.Qg;obtain⟨aX,bj⟩:∃aX,aX=max left s.fm+j:=⟨_,rfl⟩
    rw[<-bj];obtain⟨D,R⟩:∃D,D=P7 (d.first s.k) (cC d s.k) b9 (gy s.lm s.fm s.bN k++lV s.fm left j):=⟨_,rfl⟩
    rw[<-R]at br ⊢;by_cases c9:aX<=s.bN
    .have u:=decide_eq_true (show(aX:Int)<=s.bN by omega)
     have z:decide (aX<=s.bN)=true:=by simpa using c9
     have r:=Pj br;have C:=Pj R;have aK:=Pj bj;have c8:left<=aX:=by omega
     have bI:=QN ok af.k (so left aX);obtain⟨v,aD⟩:∃v:Nat,fP (d.first s.k) (cC d s.k) left aX=v:=⟨(fP (d.first s.k) (cC d s.k) left aX).toNat,by rw[QT (by omega) (by omega)]at bI;omega⟩
     have dz:v<=99:=by rw[QT (by omega) (by omega),aD]at bI;omega
     have aw:=Pj (show ∀w,fy w d p->Calls (ag A) 9 #[.agg (cO d p),.int .i64 s.k,.int .i64 left,.int .i64 aX] w λe w'=>e=.returned (.tuple #[.int .i64 v,.int .i64 0])/\w.grownBy w' none from λw h=>by have:=Hl (A:=A) d ok p s.k af.k left aX c8 (by omega) w h;rwa [aD]at this)
     have cZ:=Pj aD;obtain⟨T,V,Y,ad⟩:=c4 br.Qf;have dj:=aT (o:=0) br.Qg;have c1:=decide_eq_false (show ¬((v:Int)<0) by omega);have c2:=decide_eq_false (show ¬((v:Int)>=100) by omega);have c3:decide (100<=(v:Int))=false:=c2;have c4:=decide_eq_false (show ¬(100<=v) by omega);clear br R bj aD bI;go_upto_region 17 with(go_at_call 9;refine(aw.out _ r.out.sV).mono ?_;rintro e dL ⟨rfl,ae⟩;have bx:=Pj ae;clear ae)
     clear T V Y ad dj c1 c2 c3 c4 v3 v4 u z;have ch:=r.out.keep bx.out;have dv:D.n<=20000/\D.m<=D.n:=by
      obtain⟨ar,E⟩:=QL (f:=d.first s.k) (ba:=cC d s.k) (b9:=b9) (gy s.lm s.fm s.bN k++lV s.fm left j) P5.zero;have ar:D.n=0+(gy s.lm s.fm s.bN k++lV s.fm left j).length:=by rw[C.out];exact ar
      have E:D.m=0+(gy s.lm s.fm s.bN k++lV s.fm left j).countP (λc=>jI (d.first s.k) (cC d s.k) c == (b9:Int)):=by rw[C.out];exact E
      have am:=List.countP_le_length (p:=λc=>jI (d.first s.k) (cC d s.k) c == (b9:Int)) (l:=gy s.lm s.fm s.bN k++lV s.fm left j);have bh:=zI s.lm s.fm s.bN af.hF k;rw[List.length_append,show(lV s.fm left j).length=j by simp[lV]]at ar am;have:k*120<=120*120:=Nat.mul_le_mul_right _ (by omega);omega
     have dx:(b9:Int)<=15:=by omega
     have dc:=IntWalk.i64_in ((D.n:Int)+1) (by omega);have cP:=IntWalk.i64_in ((b9:Int)-v) (by omega);obtain⟨z0,bX⟩:=c2 ch.Qs;have i1:(v:Int)<100:=by omega
     have i2:(0:Int)<=v:=by omega
     have cp:=r.out.b4;have bi:X+1+1≠K:=by omega
     clear ch;go_upto_region 18 with(go_at_call 8;refine(QG (A:=A) _ _ _).mono ?_;rintro e bq ⟨rfl,ae⟩;have aj:=r.out.keep (bx.out.trans ae);have cu:=(aT (o:=v) aj.P6).trans (QM (by omega));have kf:=b1 (o:=v) aj.P6;have dk:∀b,(bq.setCell ⟨K,v,none⟩ b).cell? ⟨X+1+1,0,none⟩=some (.int .i64 D.Qc):=λb=>((E9 _ bi).trans (aT (o:=0) aj.Qs)).trans rfl;have dl:∀b,(bq.setCell ⟨K,v,none⟩ b).cell? ⟨X+1+1,1,none⟩=some (.int .i64 D.Qd):=λb=>((E9 _ bi).trans (aT (o:=1) aj.Qs)).trans rfl;have c5:∀b,(bq.setCell ⟨K,v,none⟩ b).frozen? ⟨X+1+1,0,none⟩=false:=λb=>b1 (o:=0) ((ft (by show X+1+1≠K;exact bi)).trans aj.Qs);have c6:∀b,(bq.setCell ⟨K,v,none⟩ b).frozen? ⟨X+1+1,1,none⟩=false:=λb=>b1 (o:=1) ((ft (by show X+1+1≠K;exact bi)).trans aj.Qs);have b6:=Pj aj;clear ae aj)
     have M:=b6.out.met (P9:={D with Qe:=λi=>if i=v then true else D.Qe i,n:=D.n+1,Qc:=min D.Qc ((b9:Int)-v),Qd:=max D.Qd ((b9:Int)-v)}) v _ _ rfl ⟨rfl,rfl,rfl,rfl⟩ ⟨rfl,rfl⟩;clear dk dl c5 c6 cu kf z0 bX b6 bx aw i1 i2 dc cP;generalize World.setCell _ _ _=Qi at M ⊢;have bG:=Rr (a:=left) (b:=aX) (by omega) (by omega);have bm:P7 (d.first s.k) (cC d s.k) b9 (gy s.lm s.fm s.bN k++lV s.fm left (j+1))=D.put (d.first s.k) (cC d s.k) b9 (so left aX):=by rw[KX,<-List.append_assoc,Q8,<-C.out,<-aK.out]
     have bk:jI (d.first s.k) (cC d s.k) (so left aX)=v:=(QT (by omega) (by omega)).trans cZ.out;by_cases aG:(v:Int)=b9
     .have u:((v:Int) == (b9:Int))=true:=by rw[beq_iff_eq];exact aG
      have z:(v == b9)=true:=by rw[beq_iff_eq];omega
      have ds:(D.m:Int)<=20000:=by omega
      obtain⟨P9,aE⟩:∃P9:P5,P9={D with Qe:=λi=>if i=v then true else D.Qe i,n:=D.n+1,m:=D.m+1,la:=min D.la left,lb:=max D.lb left,P':=min D.P' aX,Qa:=max D.Qa aX,Qc:=min D.Qc ((b9:Int)-v),Qd:=max D.Qd ((b9:Int)-v)}:=⟨_,rfl⟩
      have aY:P7 (d.first s.k) (cC d s.k) b9 (gy s.lm s.fm s.bN k++lV s.fm left (j+1))=P9:=by rw[bm,aE];simp only[P5.put,bk,if_pos aG,Int.toNat_natCast,bG.1,bG.2]
      have cX:=Pj (show ∀dt,Qi.grownBy dt none->Qk d p s B y K X P9 ((((dt.setCell ⟨X,0,none⟩ (.int .i64 (min D.la left))).setCell ⟨X,1,none⟩ (.int .i64 (max D.lb left))).setCell ⟨X+1,0,none⟩ (.int .i64 (min D.P' aX))).setCell ⟨X+1,1,none⟩ (.int .i64 (max D.Qa aX)))from λdt g=>(M.keep g).fit _ _ _ _ (by rw[aE]) (by rw[aE];exact⟨rfl,rfl,rfl,rfl⟩) (by rw[aE];exact⟨rfl,rfl⟩));have cg:=Pj (show X+1≠X by omega);have ai:=Pj M;have aq:=Pj aY;have bZ:=Pj (show P9.n=D.n+1/\P9.m=D.m+1 by rw[aE];exact⟨rfl,rfl⟩);clear aG bk bm M bG aY aE;go_upto_region 19 with fail
      generalize al:Value.int .i64 (D.m:Int)=c;have hw:=IntWalk.i64_in ((D.m:Int)+1) (by omega);apply Qh.start (val:=RL D X left aX) (st:=λdt=>(dt.setCell ⟨X,0,none⟩ (.int .i64 (min D.la left))).setCell ⟨X,1,none⟩ (.int .i64 (max D.lb left))) (Fin:=Qk d p s B y K X P9) ?_ ?_ ?_ ?_ u106 u107 u108 u109 u110 u111 u112 u113 u114 u115 u116 u117 u118 u119 u120 u121 u122 u123 u124 u125 c al
      .kernel_rfl
      .kernel_rfl
      .clear al
       intro L i o a0 ck cx a3 a4 a5 cy cz cA a9 cl cm cn co cq cr cs ct cv cw bH W av eP aQ aA;have hd:∀d,d∈Qw i->L d=true:=by
        rcases i with _|_|_|_|_|_|_|_|_|_|_|_|_|_|_|_|_|_|_|_|_|_|_|i
        all_goals first|(obtain rfl:_=o:=(by simpa using av);simpa [Qw,Region.binds]using aQ)|(exfalso;simp at av)
       have q:=Pj aA;clear aA;rcases i with _|_|_|_|_|_|_|_|_|_|_|_|_|_|_|_|_|_|_|_|_|_|_|i
       all_goals try obtain rfl:_=o:=by simpa using av
       obtain rfl:bH=.int .i64 D.m:=q.out.o (q.out.no eP 20);rotate_left
       obtain rfl:a0=.int .i64 D.m:=q.out.get hd 0;rotate_left 2
       have bW:=aT (o:=0) (ai.out.keep (q.out.x (q.out.no eP 21))).Qn;obtain rfl:cx=.pointer (some ⟨X,0,none⟩):=q.out.get hd 2;rotate_left 2
       obtain rfl:a3=.int .i64 D.la:=q.out.get hd 3;obtain rfl:a4=.int .i64 left:=q.out.get hd 4;rotate_left 2
       have bW:=aT (o:=1) (ai.out.keep (q.out.x (q.out.no eP 21))).Qn;obtain rfl:cy=.pointer (some ⟨X,1,none⟩):=q.out.get hd 6;rotate_left 2
       obtain rfl:cz=.int .i64 D.lb:=q.out.get hd 7;obtain rfl:cA=.int .i64 left:=q.out.get hd 8;rotate_left
       .obtain rfl:a5=.int .i64 (min D.la left):=q.out.get hd 5
        obtain rfl:a9=.int .i64 (max D.lb left):=q.out.get hd 9;refine wpOp_step rfl (λaR F=>?_);go_simp
        go_wp2_with (go_at_call 8;refine(QG (A:=A) _ _ _).mono ?_;rintro ar c0 ⟨rfl,ae⟩)
        try refine F _ _ ?_
        exact⟨_,_,_,_,_,_,_,_,_,_,_,_,_,_,_,_,_,_,_,_,_,rfl,q.out.low (by omega) eP hd ae rfl⟩
       rotate_left
       have bW:=aT (o:=0) (ai.out.keep (q.out.x (q.out.no eP 21))).Qx;obtain rfl:cm=.pointer (some ⟨X+1,0,none⟩):=q.out.get hd 11;rotate_left 2
       obtain rfl:cn=.int .i64 D.P':=q.out.get hd 12;obtain rfl:co=.int .i64 aX:=q.out.get hd 13;rotate_left 2
       have bW:=aT (o:=1) (ai.out.keep (q.out.x (q.out.no eP 21))).Qx;obtain rfl:cr=.pointer (some ⟨X+1,1,none⟩):=q.out.get hd 15;rotate_left 2
       obtain rfl:cs=.int .i64 D.Qa:=q.out.get hd 16;obtain rfl:ct=.int .i64 aX:=q.out.get hd 17;rotate_left
       .obtain rfl:cq=.int .i64 (min D.P' aX):=q.out.get hd 14
        obtain rfl:cv=.int .i64 (max D.Qa aX):=q.out.get hd 18;refine wpOp_step rfl (λaR F=>?_);go_simp
        go_wp2_with (go_at_call 8;refine(QG (A:=A) _ _ _).mono ?_;rintro ar c0 ⟨rfl,ae⟩)
        try refine F _ _ ?_
        exact⟨_,_,_,_,_,_,_,_,_,_,_,_,_,_,_,_,_,_,_,_,_,rfl,q.out.low (by omega) eP hd ae rfl⟩
       .have ao:=q.out.all (aQ ⟨0,.phase⟩ (by simp) rfl) (aQ ⟨1,.data⟩ (by simp) rfl) (aQ ⟨19,.chain⟩ (by simp) rfl)
        obtain rfl:ck=.int .i64 ((D.m:Int)+1):=q.out.c 1 (by omega) (ao 1 (by omega));refine wpOp_step rfl (λaR F=>?_);go_simp
        try refine F _ _ ?_
        exact⟨_,_,_,_,_,_,_,_,_,_,_,_,_,_,_,_,_,_,_,_,_,rfl,q.out.put (by omega) eP (by omega) (λ_=>ao) (λ_=>Pw _ _) (by omega) (by omega) rfl⟩
       .have cT:L 20=true:=aQ ⟨20,.chain⟩ (by simp) rfl
        have ao:∀j,j<21->L j=true:=λj aC=>(Nat.lt_or_ge j 20).elim (λh=>q.out.p j 20 h (by omega) (by omega) cT) λh=>(show j=20 by omega) ▸ cT
        obtain rfl:cl=.agg #[.int .i64 (min D.la left),.int .i64 (max D.lb left)]:=q.out.c 10 (by omega) (ao 10 (by omega));have bb:=(ai.out.keep (q.out.x eP)).Qn;obtain⟨z0,bX⟩:=c2 bb;have f0:=b1 (o:=0) bb;have f1:=b1 (o:=1) bb;clear bb;refine wpOp_step rfl (λaR F=>?_);go_simp
        try refine F _ _ ?_
        exact⟨_,_,_,_,_,_,_,_,_,_,_,_,_,_,_,_,_,_,_,_,_,rfl,q.out.put (by omega) eP (by omega) (λ_=>ao) (by omega) (λ_=>rfl) (by omega) rfl⟩
       .have bQ:L 21=true:=aQ ⟨21,.chain⟩ (by simp) rfl
        have ao:∀j,j<22->L j=true:=λj aC=>(Nat.lt_or_ge j 21).elim (λh=>q.out.p j 21 h (by omega) (by omega) bQ) λh=>(show j=21 by omega) ▸ bQ
        obtain rfl:cw=.agg #[.int .i64 (min D.P' aX),.int .i64 (max D.Qa aX)]:=q.out.c 19 (by omega) (ao 19 (by omega));obtain⟨dt,cG,rfl⟩:=q.out.y bQ eP;have bc:=(ft (w:=dt.setCell ⟨X,0,none⟩ (.int .i64 (min D.la left))) (a:=⟨X,1,none⟩) (v:=.int .i64 (max D.lb left)) cg.out).trans ((ft (w:=dt) (a:=⟨X,0,none⟩) (v:=.int .i64 (min D.la left)) cg.out).trans (ai.out.keep cG).Qx);obtain⟨z0,bX⟩:=c2 bc;have f0:=b1 (o:=0) bc;have f1:=b1 (o:=1) bc;have aw:=Pj (cX.out dt cG);clear bc;refine wpOp_step rfl (λaR F=>?_);go_simp
        try refine F _ _ ?_
        exact⟨_,_,_,_,_,_,_,_,_,_,_,_,_,_,_,_,_,_,_,_,_,rfl,q.out.put (by omega) eP (by omega) (λ_=>ao) (by omega) (by omega) (λ_=>aw.out) rfl⟩
       .simp at av
       all_goals (
        refine wpOp_step rfl (λaR F=>?_);go_simp
        try refine F _ _ ?_
        exact⟨_,_,_,_,_,_,_,_,_,_,_,_,_,_,_,_,_,_,_,_,_,rfl,q.out.low (by omega) eP hd (Pw _ _) rfl⟩)
      .clear al
       intro L a0 ck cx a3 a4 a5 cy cz cA a9 cl cm cn co cq cr cs ct cv cw bH W cI aA;obtain rfl:bH=.int .i64 ((D.m:Int)+1):=aA.c 20 (by omega) (cI 20 (by simp));have aw:=Pj (aA.z (cI 22 (by simp)));clear aA;go_wp2;refine⟨⟨j+1,by have:=aK.out;omega,?_,?_,?_,?_⟩,by show s.bN+1-((aX:Int)+1).toNat<s.bN+1-(aX:Int).toNat;omega⟩
       .rw[aq.out,bZ.out.1]
        push_cast
        rfl
       .rw[aq.out,bZ.out.2]
        push_cast
        rfl
       .rw[aK.out]
        push_cast
        rfl
       .rw[aq.out]
        exact aw.out
     .have u:((v:Int) == (b9:Int))=false:=by rw[beq_eq_false_iff_ne];exact aG
      have z:(v == b9)=false:=by rw[beq_eq_false_iff_ne];omega
      have aY:P7 (d.first s.k) (cC d s.k) b9 (gy s.lm s.fm s.bN k++lV s.fm left (j+1))={D with Qe:=λi=>if i=v then true else D.Qe i,n:=D.n+1,Qc:=min D.Qc ((b9:Int)-v),Qd:=max D.Qd ((b9:Int)-v)}:=by rw[bm];simp only[P5.put,bk,if_neg aG,Int.toNat_natCast]
      have aq:=Pj aY;have ai:=Pj M;clear aY bm bk aG M bG;go_wp2;refine⟨⟨j+1,by have:=aK.out;omega,?_,?_,?_,?_⟩,by show s.bN+1-((aX:Int)+1).toNat<s.bN+1-(aX:Int).toNat;omega⟩
      .rw[aq.out]
       show Value.int _ _=Value.int _ ((D.n+1:Nat):Int);push_cast
       rfl
      .rw[aq.out]
      .rw[aK.out]
       push_cast
       rfl
      .rw[aq.out]
       exact ai.out
    .have u:=decide_eq_false (show ¬((aX:Int)<=s.bN) by omega)
     have z:=decide_eq_false (show ¬(aX<=s.bN) by omega);have cL:j=s.bN+1-max left s.fm:=by omega
     have ed:gy s.lm s.fm s.bN (k+1)=gy s.lm s.fm s.bN k++lV s.fm left j:=by rw[cL,a2.out];rfl
     have r:=Pj br;have C:=Pj R;have bt:=Pj ed;clear br R ed cL bj;go_wp2;refine⟨⟨k+1,by have:=a2.out;omega,?_,?_,?_,?_⟩,by show s.bV+1-((left:Int)+1).toNat<s.bV+1-(left:Int).toNat;omega⟩
     .rw[bt.out,<-C.out]
     .rw[bt.out,<-C.out]
     .rw[a2.out]
      push_cast
      rw[Int.add_assoc]
     .rw[bt.out,<-C.out]
      exact r.out
  .have u:=decide_eq_false (show ¬((left:Int)<=s.bV) by omega)
   have z:=decide_eq_false (show ¬(left<=s.bV) by omega);have cM:k=s.bV-s.lm+1:=by have:=a2.out;omega
   obtain⟨D,R⟩:∃D,D=P7 (d.first s.k) (cC d s.k) b9 (P8 s):=⟨_,rfl⟩
   have ed:P7 (d.first s.k) (cC d s.k) b9 (gy s.lm s.fm s.bN k)=D:=by rw[cM,R];rfl
   rw[ed]at br ⊢;have dn:=Pj aO;obtain⟨T,V,Y,ad⟩:=c4 br.Qf;have v0:=aT (o:=0) br.Qg;have r:=Pj br;have C:=Pj R;clear br R ed cM aO;go_upto_region 21 with(go_at_call 10;refine(Ej (A:=A) d ok p _ r.out.sV s af).mono ?_;rintro e dH ⟨r1,dG,dD,rfl,aH,da,cR,de,ae⟩;obtain⟨a8,c1,Qb,f1,rfl,du,dw,cj,ci,rP⟩:=RF af aH cR;have b5:=Pj (r.out.keep ae);have b7:=Pj cj;have aN:=Pj ci;have HAS:=Pj rP;clear ae aH cR de da cj ci rP)
   clear T V Y ad v0 v1 v2 v3 v4 u z;go_wp2;go_loopw [19,20] (λa j wr=>∃c m:Nat,m<=100/\c<=Qb/\a=.int .i64 c/\j=.int .i64 m/\Qv Qb f1 m c/\Qk d p s B y K X D wr/\iD wr a8 0 Qb f1) (λ_ j _=>100-(vy j).toNat)
   case atStart=>exact⟨0,0,by omega,by omega,by go_num,by go_num,⟨Nat.zero_le _,λi G=>absurd G (by omega),λi _ G=>(RG ok af ((aN.out _).1 ⟨i,G,rfl⟩)).1⟩,b5.out,b7.out⟩
   case round=>
    clear b5 b7 r;obtain⟨c,m,hm,al,rfl,rfl,aJ,br,aF⟩:=hrel;by_cases aO:m<100
    .have u:=decide_eq_true (show(m:Int)<100 by omega)
     have z:decide (m<100)=true:=by simpa using aO
     have i1:(m:Int)<100:=by omega
     have i2:(0:Int)<=m:=by omega
     have aW:D.Qe m=true↔(m:Int)∈oC d s:=by rw[C.out];exact Q9 ok af b9 m
     have cu:=(aT (o:=m) br.P6).trans (QM aO);by_cases hb:D.Qe m=true
     .rw[hb]at cu
      obtain⟨q1,bO,bR⟩:=aJ.fR HAS.out ((aN.out _).2 (aW.1 hb));have dd:=aF c q1;rw[Nat.zero_add,bO]at dd;have dA:(c:Int)<Qb:=by omega
      have dB:(0:Int)<=c:=by omega
      have bM:=decide_eq_false (show ¬((c:Int)>=Qb) by omega);have cQ:decide ((Qb:Int)<=c)=false:=bM;have dC:=decide_eq_false (show ¬(Qb<=c) by omega);have bA:=Pj bR;have r:=Pj br;have ay:=Pj aF;have dm:=Pj aW;clear br aF bR bO aJ hb aW;go_wp2;exact⟨⟨c+1,m+1,by omega,by omega,by push_cast;rfl,by push_cast;rfl,bA.out,r.out,ay.out⟩,by show 100-((m:Int)+1).toNat<100-(m:Int).toNat;omega⟩
     .have cE:D.Qe m=false:=by simpa using hb
      rw[cE]at cu;have bA:=Pj (aJ.Rq λx=>hb (aW.2 ((aN.out _).1 x)));have r:=Pj br;have ay:=Pj aF;clear br aF aJ hb cE aW;go_wp2;exact⟨⟨c,m+1,by omega,by omega,by push_cast;rfl,by push_cast;rfl,bA.out,r.out,ay.out⟩,by show 100-((m:Int)+1).toNat<100-(m:Int).toNat;omega⟩
    .have u:=decide_eq_false (show ¬((m:Int)<100) by omega)
     have z:decide (m<100)=false:=by simpa using aO
     have c7:c=Qb:=aJ.last λi G=>by obtain⟨x,_,e⟩:=(Qu _).1 ((aN.out _).1 ⟨i,G,rfl⟩);have:=(QN ok af.k x).2;omega
     subst c7;obtain⟨T,V,Y,ad⟩:=c4 br.Qf;obtain⟨v0,v1,v2,v3,v4⟩:=fi br.Qg;obtain⟨bS,bn⟩:∃v,v=QA d s b9:=⟨_,rfl⟩
     obtain⟨aa,hb,J,Q,aS,gz,cK⟩:∃aa hb J Q aS:Int,um (iG (d.first s.k) (cC d s.k) b9 (gy s.lm s.fm s.bN (s.bV-s.lm+1)))=.tuple #[.agg #[.int .i64 aa,.int .i64 hb],.agg #[.int .i64 J,.int .i64 Q],.int .i64 aS]/\((D.m=0/\bS=2/\aa=0/\hb=0/\J=0/\Q=0/\aS=11)\/(D.m≠0/\bS=(if D.m=D.n then 1 else 3)/\aa=D.la/\hb=D.lb/\J=D.P'/\Q=D.Qa/\aS=0)):=by
      have ar:=Rm (f:=d.first s.k) (ba:=cC d s.k) b9 (P8 s);have E:=Q' (d:=d) af b9;rw[<-C.out]at ar E;by_cases aP:D.m=0
      .rw[if_pos aP]at ar E
       exact⟨_,_,_,_,_,ar,.inl ⟨aP,bn.trans E,rfl,rfl,rfl,rfl,rfl⟩⟩
      .rw[if_neg aP]at ar E
       exact⟨_,_,_,_,_,ar,.inr ⟨aP,bn.trans E,rfl,rfl,rfl,rfl,rfl⟩⟩
     obtain⟨am,bh⟩:=Rt (d:=d) ok af (b9:=b9) (by omega);rw[<-C.out]at am bh;have cc:=Pj (show ∀w,fy w d p->Calls (ag A) 11 #[.agg (cO d p),.agg s.a,.int .i64 b9] w λe w'=>e=.returned (.tuple #[.int .i64 bS,.int .i64 0])/\w.grownBy w' none from λw h=>by rw[bn];exact callsIn_wide.1 (RN (A:=A) d ok p w h s af b9 (by omega)))
     have ce:=Pj (show ∀w,fy w d p->Calls (ag A) 12 #[.agg (cO d p),.agg s.a,.int .i64 b9] w λe w'=>e=.returned (.tuple #[.agg #[.int .i64 aa,.int .i64 hb],.agg #[.int .i64 J,.int .i64 Q],.int .i64 aS])/\w.grownBy w' none from λw h=>by rw[<-gz];exact callsIn_wide.1 (HR (A:=A) d ok p w h s af b9 (by omega)))
     have cf:=Pj (show ∀w,fy w d p->Calls (ag A) 13 #[.agg (cO d p),.agg s.a,.int .i64 b9] w λe w'=>e=.returned (.tuple #[.agg #[.int .i64 D.Qc,.int .i64 D.Qd],.int .i64 0])/\w.grownBy w' none from λw h=>by rw[<-am,<-bh];exact callsIn_wide.1 (Ru (A:=A) d ok p w h s af b9 (by omega)))
     have r:=Pj br;have cW:=Pj cK;clear br bn gz cK am bh aF aJ HAS aN aO;go_upto_region 30 with(go_at_call 11;refine(cc.out _ r.out.sV).mono ?_;rintro e dI ⟨rfl,ae⟩;have aM:=Pj (r.out.keep ae);clear ae)
     clear T V Y ad v0 v1 v2 v3 v4 u z;obtain⟨T,V,Y,ad⟩:=c4 aM.out.Qf;obtain⟨v0,v1,v2,v3,v4⟩:=fi aM.out.Qg;go_upto_region 31 with(go_at_call 12;refine(ce.out _ aM.out.sV).mono ?_;rintro e aI ⟨rfl,ae⟩;have b4:=Pj (aM.out.keep ae);clear ae)
     have bd:((aI.alloc (.cells #[.int .i64 aa,.int .i64 hb] 30)).alloc (.cells #[.int .i64 J,.int .i64 Q] 30)).heap[aI.heap.size]?=some (.cells #[.int .i64 aa,.int .i64 hb] 30):=(Pq (by simp)).trans (gA _ _);have bf:((aI.alloc (.cells #[.int .i64 aa,.int .i64 hb] 30)).alloc (.cells #[.int .i64 J,.int .i64 Q] 30)).heap[aI.heap.size+1]?=some (.cells #[.int .i64 J,.int .i64 Q] 30):=h' _ _ _ (by simp);have ax:=Pj ((b4.out.keep (Pv _ (.cells #[.int .i64 aa,.int .i64 hb] 30) none)).keep (Pv _ (.cells #[.int .i64 J,.int .i64 Q] 30) none));generalize World.alloc (World.alloc aI _) _=dp at bd bf ax ⊢;generalize aI.heap.size=Z at bd bf ⊢;have bu:=Pj bd;have bv:=Pj bf;clear T V Y ad v0 v1 v2 v3 v4 bd bf;obtain⟨T,V,Y,ad⟩:=c4 ax.out.Qf;obtain⟨v0,v1,v2,v3,v4⟩:=fi ax.out.Qg;go_upto_region 32 with(go_at_call 13;refine(cf.out _ ax.out.sV).mono ?_;rintro e bo ⟨rfl,ae⟩;have b0:=Pj ae;clear ae)
     have bg:=gA bo (.cells #[.int .i64 D.Qc,.int .i64 D.Qd] 30);have aU:=b0.out.trans (Pv bo (.cells #[.int .i64 D.Qc,.int .i64 D.Qd] 30) none);have a7:=ax.out.keep aU;have bU:=(aU.block Z (bp bu.out) (by simp)).trans bu.out;have bV:=(aU.block (Z+1) (bp bv.out) (by simp)).trans bv.out;generalize World.alloc bo _=bF at bg aU a7 bU bV ⊢;generalize bo.heap.size=dq at bg ⊢;clear T V Y ad v0 v1 v2 v3 v4 aU;obtain⟨bN,aH⟩:=c2 bg;obtain⟨cS,q1⟩:=c2 a7.Qs;have bz:=Pj a7;have bC:=Pj bU;have bD:=Pj bV;clear a7 bU bV bg cc ce cf ax b4 aM r bu bv b0;rcases cW.out with⟨aP,rfl,rfl,rfl,rfl,rfl,rfl⟩|⟨aP,aD,rfl,rfl,rfl,rfl,rfl⟩
     .have u:((D.m:Int) == 0)=true:=by rw[beq_iff_eq];omega
      have z:(D.m == 0)=true:=by rw[beq_iff_eq];omega
      clear aP;go_upto_region 35 with fail
      have bs:=Pj (show ∀W:World,bF.grownBy W none->W.cell? ⟨Z,0,none⟩=some (.int .i64 0)/\W.cell? ⟨Z,1,none⟩=some (.int .i64 0)/\W.cell? ⟨Z+1,0,none⟩=some (.int .i64 0)/\W.cell? ⟨Z+1,1,none⟩=some (.int .i64 0)from λW g=>by have a8:=(g.block Z (bp bC.out) (by simp)).trans bC.out;have cB:=(g.block (Z+1) (bp bD.out) (by simp)).trans bD.out;exact⟨aT a8,aT a8,aT cB,aT cB⟩)
      have bY:=Pj (show bF.grownBy bF.drew none from fQ (Pw _ _));go_region_held3 (λW=>W.cell? ⟨Z,0,none⟩=some (.int .i64 0)/\W.cell? ⟨Z,1,none⟩=some (.int .i64 0)/\W.cell? ⟨Z+1,0,none⟩=some (.int .i64 0)/\W.cell? ⟨Z+1,1,none⟩=some (.int .i64 0))
       (first|with_reducible exact bs.out _ bY.out|with_reducible exact bs.out _ b2.out|with_reducible exact bs.out _ cY.out)
       (first|(go_at_call 8;refine(QG (A:=A) 0 0 _).mono ?_;first|(rintro e dK ⟨rfl,ae⟩;have cY:=Pj (b2.out.trans ae);clear ae)|(rintro e dJ ⟨rfl,ae⟩;have b2:=Pj (bY.out.trans ae);clear ae))|(go_at_call 14;refine(bJ _).mono ?_;rintro ar cV ⟨rfl,rfl⟩))
      go_wp2;go_ret;rfl
     .have u:((D.m:Int) == 0)=false:=by rw[beq_eq_false_iff_ne];omega
      have z:(D.m == 0)=false:=by rw[beq_eq_false_iff_ne];omega
      have bP:=bN;have s1:=aH;clear bN aH cS q1;obtain⟨bN,aH⟩:=c2 bC.out;obtain⟨dE,dF⟩:=c2 bD.out;obtain⟨cS,q1⟩:=c2 bz.out.Qn;obtain⟨bO,bR⟩:=c2 bz.out.Qx;obtain⟨r0,r1⟩:=c2 bz.out.Qs;by_cases bl:D.m=D.n
      .have bM:((D.m:Int) == D.n)=true:=by rw[beq_iff_eq];omega
       have cQ:(D.m == D.n)=true:=by rw[beq_iff_eq];omega
       rw[if_pos bl]at aD;subst aD;clear aP bl;go_wp2_with (go_at_call 14;refine(bJ _).mono ?_;rintro ar cV ⟨rfl,rfl⟩)
       go_ret;rfl
      .have bM:((D.m:Int) == D.n)=false:=by rw[beq_eq_false_iff_ne];omega
       have cQ:(D.m == D.n)=false:=by rw[beq_eq_false_iff_ne];omega
       rw[if_neg bl]at aD;subst aD;clear aP bl;go_wp2_with (go_at_call 14;refine(bJ _).mono ?_;rintro ar cV ⟨rfl,rfl⟩)
       go_ret;rfl
end
end Go.aN
