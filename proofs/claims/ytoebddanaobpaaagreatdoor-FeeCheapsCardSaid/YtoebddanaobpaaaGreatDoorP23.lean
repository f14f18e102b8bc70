/- A part. -/
import Derived.Test.YtoebddanaobpaaaGreatDoorP22
set_option maxHeartbeats 8000000
set_option maxRecDepth 100000
set_option linter.all false
namespace Go.aO
attribute [local go_sem] Oper.semAt_some
open Go.Proofs Tryz Go.RowKit Go.Maps Go.Shelf
section
variable{A:TJ}
def Sd{f:Tw}{args:Te}{w:S7}{R:Ending->S7->Prop}(h:Calls (ao A) f args w R)(n:Nat):CallsIn Fence.wide n (ao A) f args w R:=callsIn_wide.2 h
def K3[S:Std A][P:hA A](d:cC)(ok:d.ok)(p:eg)(w:S7)(h:e' w d p)(s:h3)(f:s.ok d)(cm:Nat)(hp:cm<=999):
 CallsIn Fence.wide 8 (ao A) 19 #[.agg (dv d p),.agg s.a,ah cm] w λe w'=>e=.returned (wI (jZ (d.first s.k) (cX d s.k) cm (hN s.lm s.fm s.b5 (s.cj-s.lm+1))))/\w.grownBy w' none:=by
 have bc:Fence.wide.fn 40:=Tf;have bL:Fence.wide.fn 39:=Tf;have aO:Fence.wide.fn 65:=Tf;have aN:=ok.kinds;have am:w.grownBy (((((w.alloc (.cells (dv d p) 25)).alloc (.cells s.a 52)).alloc (.cells #[ah cm] 3)).alloc (.cells #[ah 0,ah 0] 50)).alloc (.cells #[ah 0,ah 0] 50)) none:=((((dU w _ _).trans bT).trans bT).trans bT).trans bT;have aG:=al (Nd (A:=A) d ok p _ (h.keep am) s f cm hp);have H:=al h;have V:=K2 w (.cells (dv d p) 25) (.cells s.a 52) (.cells #[ah cm] 3) (.cells #[ah 0,ah 0] 50) (.cells #[ah 0,ah 0] 50);obtain⟨R,au⟩:∃W,W=((((w.alloc (.cells (dv d p) 25)).alloc (.cells s.a 52)).alloc (.cells #[ah cm] 3)).alloc (.cells #[ah 0,ah 0] 50)).alloc (.cells #[ah 0,ah 0] 50):=⟨_,S6⟩
 have aX:R.heap.size=w.heap.size+5:=by rw[au];simp
 rw[<-au]at aG V am;have aB:=al am;have V:=al V;have a3:=al au;have aI:=al aX;clear h am au aX;refine callsIn_of_wp_marks (S.f func19) S6 Tf ?_ S6;simp only[ntmps19,List.size_toArray,List.length_cons,List.length_nil,Nat.reduceAdd,Nat.reduceSub,Array.replicate_succ,Array.replicate_zero,List.push_toArray,List.append_toArray,List.nil_append,List.cons_append];gi_wp2_with (first|(gi_at_call 39;rw[<-a3.out];refine(Sd aG.out 7).mono ?_;rintro e w3 ⟨T,rfl,aQ,aq,B⟩;have K:=(B.block (w.heap.size+1) (by have:=aI.out;omega) aF).trans V.out.1;have bB:∀x y z,(((w3.alloc x).alloc y).alloc z).cell? (Ti (w.heap.size+1))=Tn s.k:=λx y z=>(tQ K 0 x y z).trans S6;have bC:∀x y z,(((w3.alloc x).alloc y).alloc z).cell? (S8 (w.heap.size+1) 1)=Tn s.lm:=λx y z=>(tQ K 1 x y z).trans S6;have bE:∀x y z,(((w3.alloc x).alloc y).alloc z).cell? (S8 (w.heap.size+1) 2)=Tn s.cj:=λx y z=>(tQ K 2 x y z).trans S6;have bF:∀x y z,(((w3.alloc x).alloc y).alloc z).cell? (S8 (w.heap.size+1) 3)=Tn s.fm:=λx y z=>(tQ K 3 x y z).trans S6;have bG:∀x y z,(((w3.alloc x).alloc y).alloc z).cell? (S8 (w.heap.size+1) 4)=Tn s.b5:=λx y z=>(tQ K 4 x y z).trans S6;have a0:=al aq;have aD:=al B;have aH:=al aQ;clear aq B aQ K)|(gi_at_call 40;refine(yR Fence.wide 7 bc S6 _ _ _ _ _ _).mono ?_;rintro e w' ⟨rfl,rfl⟩))
 have X:=al (sO ok (H.out.keep aB.out) aH.out a0.out aD.out);have I:=al (pg ok X.out.2.2.1 X.out.2.2.2);have bo:s.fm<120:=by have:=f.f;have:=f.hF;omega
 have bk:T<w3.heap.size:=X.out.2.2.2;have a1:=al λ(R:S7) (a b:Nat) (bm:a<120) (aq:b<120) (j:gp d p T w3.heap.size R)=>
  show Calls (ao A) 36 #[Tj T,ah s.k,.agg #[ah a,ah b]] R λe w'=>e=.returned (ah (ha (d.first s.k) (cX d s.k) a b))/\gp d p T w3.heap.size w'/\R.grownBy w' (some T) by have:=si (F:=A) I.out (k:=s.k) f.k U (bj:=cX d s.k) (λday=>by have:=ql ok f.k day;omega) (rk ok X.out.2.2.1 X.out.2.1 f.k) a b bm aq R j;rw[pT f.k]at this;exact this
 have L:kT (gp d p T w3.heap.size) T s.k s cm (d.first s.k) (cX d s.k) w w3.heap.size [] ((((w3.alloc (.cells #[Tj T] 71)).alloc (.cells #[ah 0,ah 0,.bool false] 99)).alloc (.cells #[ah 0,ah 0,.bool false] 99)).alloc (.cells #[ah s.k,ah s.lm,ah s.cj,ah s.fm,ah s.b5] 52)):=
  kT.init aI.out aB.out V.out aH.out bk aD.out (X.out.1.more ok X.out.2.2.1 X.out.2.2.2 (Di _ _ _ _ _))
 have E:=(Dk w3 (.cells #[Tj T] 71) (.cells #[ah 0,ah 0,.bool false] 99) (.cells #[ah 0,ah 0,.bool false] 99) (.cells #[ah s.k,ah s.lm,ah s.cj,ah s.fm,ah s.b5] 52)).2.2.2;obtain⟨aj,az⟩:∃aj,((((w3.alloc (.cells #[.pointer (some ⟨T,0,none⟩)] 71)).alloc (.cells #[ah 0,ah 0,.bool false] 99)).alloc (.cells #[ah 0,ah 0,.bool false] 99)).alloc (.cells #[ah s.k,ah s.lm,ah s.cj,ah s.fm,ah s.b5] 52))=aj:=⟨_,S6⟩
 rw[az]at L E;rw[az];have bi:m6 aj (w3.heap.size+1+1+1) s.lm s.cj s.fm s.b5:=⟨aU E,aU E,aU E,aU E⟩
 have bq:=bu E;have bp:=f.l;have bh:=f.bE;have hF:=f.hF;clear az E bB bC bE bF bG;refine wpIn_rangeFunc_ownH S6 a6 (gf:=65) (lb:=#[Tj (w3.heap.size+1+1+1)]) S6 aO (enters_of (S.f func65) av S6)
  (yS Fence.wide 7 aO rfl a6 (w3.heap.size+1+1+1) s.lm s.cj s.fm s.b5 bp bh hF bo aj bq bi) gP.t (λW l o bA _ h bn _=>gP.b W l o bA h bn) (Below.refl _ _) (λ_=>S6)
  (λpre W=>kT (gp d p T w3.heap.size) T s.k s cm (d.first s.k) (cX d s.k) w w3.heap.size pre W) (λ_ _ _=>False)
  (λbV bI Y row f B ae=>kT.step f B (λr e=>.inr (by have:=(ae r e).1;have:=L.dD;omega)) (I.out.keep _ _ _ f.j B (λr e=>by have:=(ae r e).1;have:=L.dD;omega)))
  (λ_ _ _ _ _ f _ _=>f) L
  (λx J W=>∃i,w3.heap.size+1+1+1+1<=i/\W.cell? (Ti i)=Tn x.1.1/\W.cell? (S8 i 1)=Tn x.1.2/\J={tmps:=#[.agg (dv d p),.agg s.a,ah cm,Tj w.heap.size,Tj (w.heap.size+1),Tj (w.heap.size+1+1),Tj (w.heap.size+1+1+1),Tj (w.heap.size+1+1+1+1),ah 0,Tj w3.heap.size,ah 0,Tj (w3.heap.size+1),Tj (w3.heap.size+1+1),Tj i,.tuple #[Tj T,ah 0],.agg #[ah d.kinds,TW p.gg p.hG d.kinds p.cA,TW p.fV p.gU d.bk p.dq,.slice p.ei d.b' p.dc],.agg #[ah s.k,ah s.lm,ah s.cj,ah s.fm,ah s.b5],ah cm,.tuple #[Tj T,ah 0],Tj T,ah 0,ah 0,.bool false,undef,undef,undef,.agg #[ah s.k,ah s.lm,ah s.cj,ah s.fm,ah s.b5],.func (.func 65) #[] #[Tj (w3.heap.size+1+1+1)],.agg #[ah x.1.1,ah x.1.2],undef,undef,undef,undef,undef,undef,undef,undef,undef,undef,undef,undef,undef,undef,undef,undef,undef,undef,undef,undef,undef,undef,undef],defers:=[]})
  (λx J _ X Y row f B ae=>by obtain⟨i,a8,ba,aN,bb⟩:=f;exact⟨i,a8,cell_kept ba B (λr e=>(ae r e).2),cell_kept aN B (λr e=>(ae r e).2),bb⟩) ?assign ?body ?done ?stop
 case assign=>
  rintro l pre x W bH aA ap;have aV:=aA.dD;gi_wp2
  refine ap _ _ ((KeepsOthers.alloc _ _).from _) (gP.grown (dU _ _ none) aF) (aA.step (dU _ _ none) (λr e=>by cases e) (I.out.keep _ _ none aA.j bT lV)) ⟨W.heap.size,aV,dR S6,dR S6,S6⟩
 case body=>
  rintro l pre x J W bP bR br ⟨i,bN,bv,bw,rfl⟩ bQ;have bt:(ao A).follows .mixedOrders=true:=av;have bJ:=br.t4;have aJ:=br.t5;have bK:=br.t9;have aV:=br.dD;have bs:=br.uA;have bO:=br.x3;have M:∀b,b≠T->some b≠some T:=λb h e=>h (bD e)
  have G:=al br;have bM:Fence.wide.fn 41:=Tf;have bf:gp d p T w3.heap.size W.drew:=I.out.keep _ _ none br.j ⟨S6,S6,S6,bg,λ_ _ _=>S6⟩ lV;clear br;gi_wp2
  refine Go.wpIn_mono (Q:=λe J ak=>e=.normal/\J={tmps:=#[.agg (dv d p),.agg s.a,ah cm,Tj w.heap.size,Tj (w.heap.size+1),Tj (w.heap.size+1+1),Tj (w.heap.size+1+1+1),Tj (w.heap.size+1+1+1+1),ah 0,Tj w3.heap.size,ah 0,Tj (w3.heap.size+1),Tj (w3.heap.size+1+1),Tj i,.tuple #[Tj T,ah 0],.agg #[ah d.kinds,TW p.gg p.hG d.kinds p.cA,TW p.fV p.gU d.bk p.dq,.slice p.ei d.b' p.dc],.agg #[ah s.k,ah s.lm,ah s.cj,ah s.fm,ah s.b5],ah cm,.tuple #[Tj T,ah 0],Tj T,ah 0,ah 0,.bool false,undef,undef,undef,.agg #[ah s.k,ah s.lm,ah s.cj,ah s.fm,ah s.b5],.func (.func 65) #[] #[Tj (w3.heap.size+1+1+1)],.agg #[ah x.1.1,ah x.1.2],Tj T,Tj (w.heap.size+1),ah s.k,.agg #[ah x.1.1,ah x.1.2],ah (ha (d.first s.k) (cX d s.k) x.1.1 x.1.2),ah (ha (d.first s.k) (cX d s.k) x.1.1 x.1.2),ah cm,.bool ((ha (d.first s.k) (cX d s.k) x.1.1 x.1.2) == (cm:Int)),undef,undef,undef,undef,undef,undef,undef,undef,undef,undef,undef,undef,undef,undef,undef],defers:=[]}/\gp d p T w3.heap.size ak/\W.grownBy ak (some T)) ?_ ?_
  .gi_region_with_o (first|(refine⟨Tf,?_⟩;gi_at_call 36;refine(CallsIn.inRound l (callsIn_wide.2 (a1.out _ x.1.1 x.1.2 x.2.1 x.2.2 (by first|exact G.out.j|exact bf)))).mono ?_;rintro e ak ⟨rfl,ad,n⟩;have a7:=n.cell (a:=(Ti (w.heap.size+1+1))) aJ (M _ dT);have a2:=al ad;have m:=al n;clear ad n)|(refine⟨Tf,?_⟩;gi_at_call 31;refine(CallsIn.inRound l (callsIn_wide.2 (oT _ _))).mono ?_;rintro e a4 ⟨rfl,rfl⟩))
   all_goals exact⟨S6,S6,a2.out,⟨m.out.os,m.out.tape,m.out.output,m.out.size,m.out.block⟩⟩
  .rintro e J ak ⟨rfl,rfl,ad,n⟩
   have a7:=n.cell (a:=(Ti (w.heap.size+1+1))) aJ (M _ dT);have bS:=n.cell (a:=(Ti i)) bv (M _ dT);have aW:=n.cell (a:=(S8 i 1)) bw (M _ dT);have ay:=G.out.step n (λr e=>.inl (bD e).symm) ad;have aK:=ay.t11;have Z:=al ay;have m:=al n;clear ay ad n;by_cases aw:ha (d.first s.k) (cX d s.k) x.1.1 x.1.2=(cm:Int)
   .have hd:(ha (d.first s.k) (cX d s.k) x.1.1 x.1.2 == (cm:Int))=true:=by rw[beq_iff_eq];exact aw
    gi_wp2_with (first|(gi_at_call 41;first|(refine(CallsIn.inRound l (callsIn_wide.2 (Gu (A:=A) (w3.heap.size+1) _ _ _ _ _ aK))).mono ?_;rintro e a4 ⟨rfl,aL,ar⟩;clear aK;have a9:=(ar.block (w3.heap.size+1+1) (by have:=Z.out.dD;omega) aF).trans Z.out.t12;have bU:=ar.cell (a:=(S8 i 1)) aW (λe=>by have:=bD e;dsimp only at this;omega);have aY:=al aL;have ag:=al ar;clear aL ar aW)|(refine(CallsIn.inRound l (callsIn_wide.2 (Gu (A:=A) (w3.heap.size+1+1) _ _ _ _ _ a9))).mono ?_;rintro e a5 ⟨rfl,aM,aT⟩;have aZ:=al aM;have ai:=al aT;clear aM aT)))
    have bd:gp d p T w3.heap.size a5:=I.out.keep _ _ _ (I.out.keep _ _ _ Z.out.j ag.out (λb e=>by have:=bD e;omega)) ai.out (λb e=>by have:=bD e;omega);exact⟨((KeepsFrom.of_grownBy m.out (λj e=>by have:=bD e;omega)).trans (KeepsFrom.of_grownBy ag.out (λj e=>by have:=bD e;omega))).trans (KeepsFrom.of_grownBy ai.out (λj e=>by have:=bD e;omega)),
     ((gP.grown m.out (M _ U)).t (gP.grown ag.out (λe=>by have:=bD e;omega))).t (gP.grown ai.out (λe=>by have:=bD e;omega)),Z.out.told aw aY.out ag.out aZ.out ai.out bd⟩
   .have hd:(ha (d.first s.k) (cX d s.k) x.1.1 x.1.2 == (cm:Int))=false:=by rw[beq_eq_false_iff_ne];exact aw
    gi_wp2
    exact⟨KeepsFrom.of_grownBy m.out (λj e=>by have:=bD e;omega),gP.grown m.out (M _ U),Z.out.untold aw⟩
 case done=>
  rintro D ys W aP rfl br ap;have aR:=br.t6;have aS:=br.t7;have G:=al br;have z0:=aU (o:=0) br.t11;have bW:=aU (o:=1) br.t11;have bX:=aU (o:=2) br.t11;have z3:=aU (o:=0) br.t12;have z4:=aU (o:=1) br.t12;have bY:=aU (o:=0) br.t6;have bZ:=aU (o:=1) br.t6;have b0:=aU (o:=0) br.t7;have b1:=aU (o:=1) br.t7;have f60:=b3 (o:=0) br.t6;have f61:=b3 (o:=1) br.t6;have f70:=b3 (o:=0) br.t7;have f71:=b3 (o:=1) br.t7;clear br;have bt:(ao A).follows .mixedOrders=true:=av;have bs:=G.out.uA;have aE:=al ap;have aC:=al aP;clear ap aP;gi_wp2
  .rename_i af
   let⟨q,u,ax,aa⟩:=Gi (w:=w) aR aS S6 S6 U U U G.out.fY (ah 0) (ah 0) (ah 0) (ah 0);have g:=ax D _ aE.out;refine⟨aF,.inl ⟨_,_,S6,run_takeDeferred g,?_⟩⟩;generalize bl:World.setCell _ _ _=ea at q u g aa ⊢;have C:=grownBy_putObj' ea D (.deferred none);have bx:w.heap.size+1+1+1≠D:=by rintro rfl;rw[q]at g;simp at g
   have bz:w.heap.size+1+1+1+1≠D:=by rintro rfl;rw[u]at g;simp at g
   refine⟨_,Fe S6 _ _ (w.heap.size+1+1+1) (w.heap.size+1+1+1+1) 50 50 _ _ (0,0) (0,0) _ S6 ((C.block _ (bu q) cH).trans q) S6 ((C.block _ (bu u) cH).trans u) (ao.underlying52 A) S6 xJ xJ _ S6,?_⟩;refine⟨?_,kH aa C (by have:=aC.out;have:=L.dD;omega)⟩;simp only[Bool.not_eq_true']at af;simp[wI,af]
  .rename_i af _ _
   gi_region
   let⟨q,u,ax,aa⟩:=Gi (w:=w) aR aS S6 S6 U U U G.out.fY (ah (jZ (d.first s.k) (cX d s.k) cm (hN s.lm s.fm s.b5 (s.cj-s.lm+1))).1.bY) (ah (jZ (d.first s.k) (cX d s.k) cm (hN s.lm s.fm s.b5 (s.cj-s.lm+1))).1.ad) (ah (jZ (d.first s.k) (cX d s.k) cm (hN s.lm s.fm s.b5 (s.cj-s.lm+1))).2.bY) (ah (jZ (d.first s.k) (cX d s.k) cm (hN s.lm s.fm s.b5 (s.cj-s.lm+1))).2.ad);have g:=ax D _ aE.out;gi_wp2
   refine⟨aF,.inl ⟨_,_,S6,run_takeDeferred g,?_⟩⟩;generalize bl:World.setCell _ _ _=ea at q u g aa ⊢;have C:=grownBy_putObj' ea.drew D (.deferred none);have bx:w.heap.size+1+1+1≠D:=by rintro rfl;rw[q]at g;simp at g
   have bz:w.heap.size+1+1+1+1≠D:=by rintro rfl;rw[u]at g;simp at g
   refine⟨_,Fe S6 _ _ (w.heap.size+1+1+1) (w.heap.size+1+1+1+1) 50 50 _ _ (0,0) (0,0) _ S6 ((C.block _ (show _<ea.drew.heap.size from bu q) cH).trans q) S6 ((C.block _ (show _<ea.drew.heap.size from bu u) cH).trans u) (ao.underlying52 A) S6 xJ xJ _ S6,?_⟩;refine⟨?_,kH (gv aa) C (by have:=aC.out;have:=L.dD;omega)⟩;simp only[Bool.not_eq_false']at af;simp[wI,af]
 case stop=>
  rintro D c pre W _ _ h _;exact h.elim
end
end Go.aO
