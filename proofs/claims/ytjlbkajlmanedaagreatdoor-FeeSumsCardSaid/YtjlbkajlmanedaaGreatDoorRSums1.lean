/- A part of FeeSums: no conditions. -/
import Derived.Test.YtjlbkajlmanedaaGreatDoorRSums0
set_option maxHeartbeats 8000000
set_option maxRecDepth 100000
set_option linter.all false
namespace Go.aO
attribute [local go_sem] Oper.semAt_some
open Go.Proofs Tryz Go.RowKit Go.Maps Go.Shelf
section
variable{A:TJ}
def Vd(f:Int)(bj:Ty)(cm:Int)(pre:Tb fT):Ta:=pre.any λc=>k0 f bj c == cm
def Ve(f:Int)(bj:Ty)(cm:Int)(pre:Tb fT):Ta:=pre.any λc=>!(k0 f bj c == cm)
def Vw(f:Int)(bj:Ty)(cm:Int)(pre:Tb fT)(x:fT):Vd f bj cm (pre++[x])=(Vd f bj cm pre||(k0 f bj x == cm)):=by simp[Vd]
def Vx(f:Int)(bj:Ty)(cm:Int)(pre:Tb fT)(x:fT):Ve f bj cm (pre++[x])=(Ve f bj cm pre || !(k0 f bj x == cm)):=by simp[Ve]
def Wg{f:Int}{bj:Ty}{cm:Int}{pre l:Tb fT}(h:∀c,c∈pre->c∈l)(he:Vd f bj cm pre=true):Vd f bj cm l=true:=by unfold Vd at he ⊢;rw[List.any_eq_true]at he ⊢;obtain⟨c,ar,e⟩:=he;exact⟨c,h c ar,e⟩
def Wh{f:Int}{bj:Ty}{cm:Int}{pre l:Tb fT}(h:∀c,c∈pre->c∈l)(he:Ve f bj cm pre=true):Ve f bj cm l=true:=by unfold Ve at he ⊢;rw[List.any_eq_true]at he ⊢;obtain⟨c,ar,e⟩:=he;exact⟨c,h c ar,e⟩
def V3{d:cC}{s:h3}(af:s.ok d)(n:Int):Vh d s n=if Vd (d.first s.k) (cX d s.k) n (hN s.lm s.fm s.b5 (s.cj-s.lm+1))=true then(if Ve (d.first s.k) (cX d s.k) n (hN s.lm s.fm s.b5 (s.cj-s.lm+1))=true then 3 else 1)else 2:=by
 have I:Vd (d.first s.k) (cX d s.k) n (hN s.lm s.fm s.b5 (s.cj-s.lm+1))=true↔n∈qk d s:=by rw[VA];unfold Vd;rw[List.any_eq_true];exact⟨λ⟨c,ar,e⟩=>⟨c,ar,by simpa using e⟩,λ⟨c,ar,e⟩=>⟨c,ar,by simpa using e⟩⟩
 have J:Ve (d.first s.k) (cX d s.k) n (hN s.lm s.fm s.b5 (s.cj-s.lm+1))=true↔∃v,v∈qk d s/\v≠n:=by
  unfold Ve;rw[List.any_eq_true];constructor
  .rintro⟨c,ar,e⟩
   exact⟨_,(VA _).2 ⟨c,ar,S6⟩,by simpa using e⟩
  .rintro⟨v,aJ,e⟩
   obtain⟨c,ar,rfl⟩:=(VA v).1 aJ;exact⟨c,ar,by simpa using e⟩
 unfold Vh;by_cases c1:n∈qk d s
 .rw[Tq c1,Tq (I.2 c1)]
  by_cases c2:∃v,v∈qk d s/\v≠n
  .rw[Tq c2,Tq (J.2 c2)]
  .rw[Tm c2,Tm λx=>c2 (J.1 x)]
 .rw[Tm c1,Tm λx=>c1 (I.1 x)]
structure Va(bf:TQ)(T k:Nat)(cm:Int)(w:S7)(m:Nat)(a b:Ta)(W:S7):Prop where
 t4:W.cell? (Ti (w.heap.size+1))=Tn k
 t5:W.cell? (Ti (w.heap.size+1+1))=Tn cm
 t9:W.cell? (Ti m)=some (Tj T)
 t10:W.heap[m+1]?=some (.cells #[.bool a] 4)
 t11:W.heap[m+1+1]?=some (.cells #[.bool b] 4)
 j:bf W
 fY:w.grownBy W none
 dD:m+1+1+1+1<=W.heap.size
 uA:w.heap.size+3<=m
 x3:w.heap.size+3<=T/\T<m
def Va.step{bf:TQ}{T k:Nat}{cm:Int}{w:S7}{m:Nat}{a b:Ta}{W d':S7}{row:TN}(h:Va bf T k cm w m a b W)(ag:W.grownBy d' row)(au:∀r,row=some r->r=T\/m+4<=r)(aI:bf d'):Va bf T k cm w m a b d':=by
 have g1:=h.uA;have d:=h.x3;have f:=h.dD;have c:∀b,(w.heap.size+1<=b/\b<w.heap.size+3)\/(m<=b/\b<m+4)->some b≠row:=λb I e=>by rcases au b e.symm with rfl|ax<;>omega
 have lt:∀b,(w.heap.size+1<=b/\b<w.heap.size+3)\/(m<=b/\b<m+4)->b<W.heap.size:=λb I=>U
 refine⟨ag.cell h.t4 (c _ dT),ag.cell h.t5 (c _ dT),ag.cell h.t9 (c _ dT),
  (ag.block _ (lt _ U) (c _ U)).trans h.t10,(ag.block _ (lt _ U) (c _ U)).trans h.t11,aI,?_,cL h.dD ag.size,g1,d⟩
 cases row with
 |none=>exact h.fY.trans ag
 |some r=>exact kH h.fY ag (by rcases au r rfl with rfl|ax<;>omega)
def Vl(W:S7)(b:Nat)(v:S9):W.grownBy (W.setCell (Ti b) v) (some b):=⟨S6,S6,S6,aF,λi _ c=>e1 (by show i≠b;exact λe=>c (by rw[e]))⟩
def Va.put{bf:TQ}{T k:Nat}{cm:Int}{w:S7}{m:Nat}{a b:Ta}{W:S7}(h:Va bf T k cm w m a b W)(c:Ta)(aI:bf (W.setCell (Ti (if c then m+1 else m+1+1)) (.bool true))):
 Va bf T k cm w m (a||c) (b || !c) (W.setCell ⟨if c then m+1 else m+1+1,0,none⟩ (.bool true)):=by
 have g1:=h.uA;have f:=h.x3;have i:=h.dD;have g:=Vl W (if c then m+1 else m+1+1) (.bool true);have d:∀b:Nat,b≠m+1->b≠m+1+1->some b≠some (if c then m+1 else m+1+1):=λb I J e=>by have:=bD e;cases c<;>simp at this<;>omega
 refine⟨g.cell h.t4 (d _ dT dT),g.cell h.t5 (d _ dT dT),g.cell h.t9 (d _ dT dT),?_,?_,aI,kH h.fY g (by cases c<;>simp<;>omega),by simpa using i,g1,f⟩
 .cases c
  .rw[Bool.or_false]
   exact(e1 (by show m+1≠m+1+1;omega)).trans h.t10
  .rw[Bool.or_true]
   exact cU h.t10
 .cases c
  .show _=some (Obj.cells #[.bool (b||true)] 4)
   rw[Bool.or_true];exact cU h.t11
  .show _=some (Obj.cells #[.bool (b||false)] 4)
   rw[Bool.or_false];exact(e1 (by show m+1+1≠m+1;omega)).trans h.t11
def Va.init{bf:TQ}{T:Nat}{s:h3}{cm:Nat}{w c w3 d:S7}{o:Obj}(f:((((w3.alloc (.cells #[Tj T] 74)).alloc (.cells #[.bool false] 4)).alloc (.cells #[.bool false] 4)).alloc o)=d)(m:c.heap.size=w.heap.size+3)(h:w.grownBy c none)(hb:c.heap[w.heap.size+1]?=some (.cells s.a 31)/\c.heap[w.heap.size+1+1]?=some (.cells #[ah cm] 3))(i:c.heap.size<=T)(j:T<w3.heap.size)(ag:c.grownBy w3 none)(aI:bf d):
 Va bf T s.k cm w w3.heap.size false false d:=by
 have g:w3.grownBy d none:=by rw[<-f];exact Di _ _ _ _ _
 have aZ:=Dk w3 (.cells #[Tj T] 74) (.cells #[.bool false] 4) (.cells #[.bool false] 4) o;rw[f]at aZ;have l:=ag.size;have TK:∀b x,b<c.heap.size->c.heap[b]?=some x->d.heap[b]?=some x:=λb x hb e=>(g.block b U aF).trans ((ag.block b hb aF).trans e)
 exact⟨aU (TK _ _ U hb.1),aU (TK _ _ U hb.2),aU aZ.1,aZ.2.1,aZ.2.2.1,aI,(h.trans ag).trans g,(by rw[<-f];simp),U,U⟩
def Wi(w:S7)(a b c:Obj):(((w.alloc a).alloc b).alloc c).heap[w.heap.size+1]?=some b/\(((w.alloc a).alloc b).alloc c).heap[w.heap.size+1+1]?=some c:=by
 refine⟨?_,?_⟩
 .rw[dm (by simp only[cV];omega),jA _ _ _ (by simp only[cV])]
 .rw[jA _ _ _ (by simp only[cV])]
def VE(d:cC)(p:eg)(s:h3)(cm:Nat)(w w3:S7)(T c:Nat)(x:fT)(l:TP):TP:=.agg (dv d p)::.agg s.a::ah cm::Tj w.heap.size::Tj (w.heap.size+1)::Tj (w.heap.size+1+1)::ah 0::ah 0::Tj w3.heap.size::ah 0::Tj (w3.heap.size+1)::Tj (w3.heap.size+1+1)::Tj c::.tuple #[Tj T,ah 0]::.agg #[ah d.kinds,TW p.gg p.hG d.kinds p.cA,TW p.fV p.gU d.bk p.dq,.slice p.ei d.b' p.dc]::.agg #[ah s.k,ah s.lm,ah s.cj,ah s.fm,ah s.b5]::ah cm::.tuple #[Tj T,ah 0]::Tj T::ah 0::ah 0::.bool false::undef::.agg #[ah s.k,ah s.lm,ah s.cj,ah s.fm,ah s.b5]::.func (.func 66) #[] #[Tj (w3.heap.size+1+1+1)]::.agg #[ah x.1.1,ah x.1.2]::l
def WT[S:Std A][P:hA A](d:cC)(ok:d.ok)(p:eg)(w:S7)(h:e' w d p)(s:h3)(af:s.ok d)(cm:Nat)(hp:cm<=999):
 CallsIn Fence.wide 8 (ao A) 14 #[.agg (dv d p),.agg s.a,ah cm] w λe w'=>e=.returned (.tuple #[ah (Vh d s cm),ah 0])/\w.grownBy w' none:=by
 have a0:Fence.wide.fn 39:=Tf;have bn:Fence.wide.fn 38:=Tf;have aL:Fence.wide.fn 66:=Tf;have ax:=ok.kinds;have aa:w.grownBy (((w.alloc (.cells (dv d p) 25)).alloc (.cells s.a 31)).alloc (.cells #[ah cm] 3)) none:=((dU w _ _).trans bT).trans bT;have aG:=al (Nd (A:=A) d ok p _ (h.keep aa) s af cm hp);have H:=al h;have G:=Wi w (.cells (dv d p) 25) (.cells s.a 31) (.cells #[ah cm] 3);generalize aA:World.alloc (World.alloc (World.alloc w _) _) _=E at aG G aa;have aQ:E.heap.size=w.heap.size+3:=by rw[<-aA];simp
 have aD:=al aa;have G:=al G;have aX:=al aA;have aK:=al aQ;clear h aa aA aQ;refine callsIn_of_wp_marks (S.f func14) S6 Tf ?_ S6;simp only[ntmps14,List.size_toArray,List.length_cons,List.length_nil,Nat.reduceAdd,Nat.reduceSub,Array.replicate_succ,Array.replicate_zero,List.push_toArray,List.append_toArray,List.nil_append,List.cons_append];refine wpIn_wide.2 ?_;go_wp2;go_step3
 go_wp2_with (go_at_call 38;rw[aX.out];refine aG.out.mono ?_;rintro e w3 ⟨T,rfl,aN,hb,ag⟩;have bB:=(ag.block (w.heap.size+1) (by have:=aK.out;omega) aF).trans G.out.1;have ba:=tQ bB 0;have bb:=tQ bB 1;have bc:=tQ bB 2;have bh:=tQ bB 3;have bi:=tQ bB 4;have a8:=bu bB;have aR:=al hb;have aE:=al ag;have aH:=al aN;clear hb ag aN bB)
 go_step3
 go_wp2_with (go_at_call 39;refine(callsIn_wide.1 (yR Fence.wide 7 a0 S6 _ _ _ _ _ _)).mono ?_;rintro e w' ⟨rfl,rfl⟩)
 have X:=al (sO ok (H.out.keep aD.out) aH.out aR.out aE.out);have B:=al (pg ok X.out.2.2.1 X.out.2.2.2);have a5:s.fm<120:=by have:=af.f;have:=af.hF;omega
 have a4:T<w3.heap.size:=X.out.2.2.2;have aT:=al λ(E:S7) (a b:Nat) (ae:a<120) (hb:b<120) (j:gp d p T w3.heap.size E)=>
  show Calls (ao A) 40 #[Tj T,ah s.k,.agg #[ah a,ah b]] E λe w'=>e=.returned (ah (ha (d.first s.k) (cX d s.k) a b))/\gp d p T w3.heap.size w'/\E.grownBy w' (some T) by have:=si (F:=A) B.out (k:=s.k) af.k U (bj:=cX d s.k) (λday=>by have:=ql ok af.k day;omega) (rk ok X.out.2.2.1 X.out.2.1 af.k) a b ae hb E j;rw[pT af.k]at this;exact this
 generalize am:World.alloc (World.alloc (World.alloc (World.alloc w3 _) _) _) _=ay;have i:=Va.init (bf:=gp d p T w3.heap.size) am aK.out aD.out G.out aH.out a4 aE.out (X.out.1.more ok X.out.2.2.1 X.out.2.2.2 (by rw[<-am];exact Di _ _ _ _ _));have C:ay.heap[w3.heap.size+1+1+1]?=some (.cells s.a 31):=by rw[<-am];exact(Dk _ _ _ _ _).2.2.2
 have a3:m6 ay (w3.heap.size+1+1+1) s.lm s.cj s.fm s.b5:=⟨aU C,aU C,aU C,aU C⟩
 have a7:=bu C;have aj:=af.l;have a2:=af.bE;have hF:=af.hF;clear am C ba bb bc bh bi a8;refine(wpIn_wide (n:=8)).1 ?_;refine wpIn_rangeFunc_ownH S6 a6 (gf:=66) (lb:=#[Tj (w3.heap.size+1+1+1)]) S6 aL (enters_of (S.f func66) av S6)
  (V' Fence.wide 7 aL rfl a6 (w3.heap.size+1+1+1) s.lm s.cj s.fm s.b5 aj a2 hF a5 ay a7 a3) gP.t (λW l o aV _ h ar _=>gP.b W l o aV h ar) (Below.refl _ _) (λ_=>S6)
  (λpre W=>Va (gp d p T w3.heap.size) T s.k cm w w3.heap.size (Vd (d.first s.k) (cX d s.k) cm pre) (Ve (d.first s.k) (cX d s.k) cm pre) W)
  (λc pre W=>c=.exit 0/\Vd (d.first s.k) (cX d s.k) cm pre=true/\Ve (d.first s.k) (cX d s.k) cm pre=true/\Va (gp d p T w3.heap.size) T s.k cm w w3.heap.size true true W)
  (λa9 aY Y row af ag au=>Va.step af ag (λr e=>.inr (by have:=(au r e).1;have:=i.dD;omega)) (B.out.keep _ _ _ af.j ag (λr e=>by have:=(au r e).1;have:=i.dD;omega)))
  (λc a9 aY Y row af ag au=>⟨af.1,af.2.1,af.2.2.1,Va.step af.2.2.2 ag (λr e=>.inr (by have:=(au r e).1;have:=i.dD;omega)) (B.out.keep _ _ _ af.2.2.2.j ag (λr e=>by have:=(au r e).1;have:=i.dD;omega))⟩) i
  (λx bd W=>∃m,w3.heap.size+1+1+1+1<=m/\W.cell? (Ti m)=Tn x.1.1/\W.cell? (S8 m 1)=Tn x.1.2/\bd={tmps:=(VE d p s cm w w3 T m x [undef,undef,undef,undef,undef,undef,undef,undef,undef,undef,undef,undef,undef,undef,undef,undef,undef,undef,undef]).toArray,defers:=[]})
  (λx bd _ X Y row af ag au=>by obtain⟨m,I,J,ax,aZ⟩:=af;exact⟨m,I,cell_kept J ag (λr e=>(au r e).2),cell_kept ax ag (λr e=>(au r e).2),aZ⟩) ?assign ?body ?done ?stop
 case assign=>
  rintro l pre x W bk ad u;have aP:=ad.dD;gi_wp2
  refine u _ _ ((KeepsOthers.alloc _ _).from _) (gP.grown (dU _ _ none) aF) (ad.step (dU _ _ none) (λr e=>by cases e) (B.out.keep _ _ none ad.j bT lV)) ⟨W.heap.size,aP,dR S6,dR S6,S6⟩
 case body=>
  rintro l pre x bd W bq bt br ⟨m,bo,bv,bw,rfl⟩ aS;dsimp only[VE];have bs:(ao A).follows .mixedOrders=true:=av;have c4:=br.t4;have gq:=br.t5;have pK:=br.t9;have aP:=br.dD;have g1:=br.uA;have bp:=br.x3;have az:∀b,b≠T->some b≠some T:=λb h e=>h (bD e)
  have z:=al br;have a1:gp d p T w3.heap.size W.drew:=B.out.keep _ _ none br.j ⟨S6,S6,S6,bg,λ_ _ _=>S6⟩ lV;clear br;gi_wp2
  refine Go.wpIn_mono (Q:=λe bd L=>e=.normal/\bd={tmps:=(VE d p s cm w w3 T m x [Tj T,Tj (w.heap.size+1),ah s.k,.agg #[ah x.1.1,ah x.1.2],ah (ha (d.first s.k) (cX d s.k) x.1.1 x.1.2),ah (ha (d.first s.k) (cX d s.k) x.1.1 x.1.2),ah cm,.bool ((ha (d.first s.k) (cX d s.k) x.1.1 x.1.2) == (cm:Int)),undef,undef,undef,undef,undef,undef,undef,undef,undef,undef,undef]).toArray,defers:=[]}/\gp d p T w3.heap.size L/\W.grownBy L (some T)) ?_ ?_
  .gi_region_with_o (first|(refine⟨Tf,?_⟩;gi_at_call 40;refine(CallsIn.inRound l (callsIn_wide.2 (aT.out _ x.1.1 x.1.2 x.2.1 x.2.2 (by first|exact z.out.j|exact a1)))).mono ?_;rintro e L ⟨rfl,R,y⟩;have bm:=y.cell (a:=(Ti (w.heap.size+1+1))) gq (az _ dT);have aW:=al R;have f:=al y;clear R y)|(refine⟨Tf,?_⟩;gi_at_call 41;refine(CallsIn.inRound l (callsIn_wide.2 (oT _ _))).mono ?_;rintro e bl ⟨rfl,rfl⟩))
   all_goals exact⟨S6,S6,aW.out,⟨f.out.os,f.out.tape,f.out.output,f.out.size,f.out.block⟩⟩
  .rintro e bd L ⟨rfl,rfl,R,y⟩
   dsimp only[VE];have aM:=z.out.step y (λr e=>.inl (bD e).symm) R;have q:=al aM;have f:=al y;clear aM R y;have ai:∀(b:Nat),w3.heap.size<=b->gp d p T w3.heap.size (L.setCell (Ti b) (.bool true)):=λb hb=>B.out.keep _ _ _ q.out.j (Vl _ _ _) (λr e=>by have:=bD e;omega)
   have V:=aU (o:=0) q.out.t10;have Z:=aU (o:=0) q.out.t11;have f10:=b3 (o:=0) q.out.t10;have f11:=b3 (o:=0) q.out.t11;rcases Bool.eq_false_or_eq_true (ha (d.first s.k) (cX d s.k) x.1.1 x.1.2 == (cm:Int))with hd|hd
   .have g:=q.out.put true (ai _ aF)
    simp only[if_true,Bool.or_true,Bool.not_true,Bool.or_false]at g;have aB:=aU (o:=0) g.t10;have aC:=aU (o:=0) g.t11;have K:=al g;clear g ai;rcases Bool.eq_false_or_eq_true (Ve (d.first s.k) (cX d s.k) (cm:Int) pre)with hb|hb
    .rw[hb]at aC Z
     gi_wp2
     refine⟨(KeepsFrom.of_grownBy f.out (λj e=>by have:=bD e;omega)).trans (KeepsFrom.of_grownBy (Vl _ _ _) (λj e=>by have:=bD e;omega)),S6,?_,?_,?_⟩
     .rw[Vw];simp[k0,hd,hb]
     .rw[Vx];simp[k0,hd,hb]
     .have:=K.out
      rw[hb]at this;exact this
    .rw[hb]at aC Z
     gi_wp2
     refine⟨(KeepsFrom.of_grownBy f.out (λj e=>by have:=bD e;omega)).trans (KeepsFrom.of_grownBy (Vl _ _ _) (λj e=>by have:=bD e;omega)),(gP.grown f.out (az _ U)).t (gP.grown (Vl _ _ _) (λe=>by have:=bD e;omega)),?_⟩;have:=K.out;simpa [Vw,Vx,k0,hd,hb]using this
   .have g:=q.out.put false (ai _ cH)
    simp only[Uf,if_false,Bool.or_true,Bool.not_false,Bool.or_false]at g;have aB:=aU (o:=0) g.t10;have aC:=aU (o:=0) g.t11;have K:=al g;clear g ai;rcases Bool.eq_false_or_eq_true (Vd (d.first s.k) (cX d s.k) (cm:Int) pre)with hb|hb
    .rw[hb]at aB V
     gi_wp2
     refine⟨(KeepsFrom.of_grownBy f.out (λj e=>by have:=bD e;omega)).trans (KeepsFrom.of_grownBy (Vl _ _ _) (λj e=>by have:=bD e;omega)),S6,?_,?_,?_⟩
     .rw[Vw];simp[k0,hd,hb]
     .rw[Vx];simp[k0,hd,hb]
     .have:=K.out
      rw[hb]at this;exact this
    .rw[hb]at aB V
     gi_wp2
     refine⟨(KeepsFrom.of_grownBy f.out (λj e=>by have:=bD e;omega)).trans (KeepsFrom.of_grownBy (Vl _ _ _) (λj e=>by have:=bD e;omega)),(gP.grown f.out (az _ U)).t (gP.grown (Vl _ _ _) (λe=>by have:=bD e;omega)),?_⟩;have:=K.out;simpa [Vw,Vx,k0,hd,hb]using this
 case done=>
  rintro D ys W M rfl br u;have V:=aU (o:=0) br.t10;have Z:=aU (o:=0) br.t11;have z:=al br;have aq:=al u;have ap:=al M;clear br u M;have aI:=al (V3 af (cm:Int));rcases Bool.eq_false_or_eq_true (Vd (d.first s.k) (cX d s.k) (cm:Int) (hN s.lm s.fm s.b5 (s.cj-s.lm+1)))with he|he<;>rcases Bool.eq_false_or_eq_true (Ve (d.first s.k) (cX d s.k) (cm:Int) (hN s.lm s.fm s.b5 (s.cj-s.lm+1)))with ak|ak
  all_goals (
   have aJ:=aI.out;rw[he,ak]at aJ;have aw:=al aJ;rw[he]at V;rw[ak]at Z;clear aJ aI;gi_wp2
   go_wp2;refine⟨aF,.inl ⟨_,_,S6,run_takeDeferred aq.out,?_⟩⟩;refine⟨_,results_tmp2 S6 _ _ _,?_⟩;have aJ:Vh d s (cm:Int)=_:=aw.out;simp only[if_true,Uf,if_false]at aJ;rw[aJ];exact⟨S6,kH z.out.fY (grownBy_putObj' _ D (.deferred none)) (by have:=ap.out;have:=i.dD;have:=i.uA;omega)⟩)
 case stop=>
  rintro D c pre W M aO ⟨rfl,he,ak,br⟩ u;have V:=aU (o:=0) br.t10;have Z:=aU (o:=0) br.t11;have z:=al br;have aq:=al u;have ap:=al M;have aJ:=V3 af (cm:Int);rw[Wg aO he,Wh aO ak]at aJ;have aw:=al aJ;clear br u M aJ;gi_wp2
  go_wp2;refine⟨aF,.inl ⟨_,_,S6,run_takeDeferred aq.out,?_⟩⟩;refine⟨_,results_tmp2 S6 _ _ _,?_⟩;have aJ:Vh d s (cm:Int)=_:=aw.out;simp only[if_true,Uf,if_false]at aJ;rw[aJ];exact⟨S6,kH z.out.fY (grownBy_putObj' _ D (.deferred none)) (by have:=ap.out;have:=i.dD;have:=i.uA;omega)⟩
end
end Go.aO
namespace Go.aO
open Go.Proofs Tryz Go.RowKit Go.Maps Go.Shelf
def U4(x:Int):TX->TX
 | []=>[x]
 |a::l=>if a<x then a::U4 x l else if a=x then a::l else x::a::l
def VJ{x:Int}:∀{l:TX} {y:Int},y∈U4 x l↔y=x\/y∈l
 | [],y=>by simp[U4]
 |a::l,y=>by
  unfold U4;split
  .rw[T7,VJ,T7,or_left_comm]
  .split
   .rename_i h;subst h;simp
   .rw[T7]
def VY{x:Int}:∀{l:TX},l.Pairwise (· < ·)->(U4 x l).Pairwise (· < ·)
 | [],_=>by simp[U4]
 |a::l,h=>by
  let⟨I,J⟩:=List.pairwise_cons.1 h;unfold U4;split
  .rename_i c
   exact List.pairwise_cons.2 ⟨λb hb=>(VJ.1 hb).elim (λe=>U) (I b),VY J⟩
  .split
   .exact h
   .exact List.pairwise_cons.2 ⟨λb hb=>(List.mem_cons.1 hb).elim (λe=>U) (λe=>by have:=I b e;omega),h⟩
def VB{x:Int}:∀{l:TX} {k:Nat},k<=l.length->(∀i (h:i<l.length),i<k->l[i]<x)->(∀h:k<l.length,¬l[k]<x)->U4 x l=if ∃h:k<l.length,l[k]=x then l else l.take k++x::l.drop k
 | [],k,aa,_,_=>by simp[U4]
 |a::l,0,_,_,h=>by
  have h:=h aF;simp only[List.getElem_cons_zero]at h;unfold U4;rw[Tm h];by_cases e:a=x<;>simp[e]
 |a::l,k+1,aa,I,J=>by
  have aT:=I 0 aF U;simp only[List.getElem_cons_zero]at aT;unfold U4;rw[Tq aT,VB (l:=l) (k:=k) (by simpa using aa) (λi h ad=>by have:=I (i+1) (by simpa using h) U;simpa using this) (λh=>by have:=J (by simpa using h);simpa using this)];by_cases e:∃h:k<l.length,l[k]=x
  .rw[Tq e,Tq (by obtain⟨h,e⟩:=e;exact⟨by simpa using h,by simpa using e⟩)]
  .rw[Tm e,Tm (by rintro⟨h,c⟩;exact e ⟨by simpa using h,by simpa using c⟩)]
   simp
def U7(l:TX):TX:=l.foldl (λa x=>U4 x a) []
def WM(l:TX)(x:Int):U7 (l++[x])=U4 x (U7 l):=by simp[U7]
def VK(l:TX):(U7 l).Pairwise (· < ·)/\∀y,y∈U7 l↔y∈l:=by
 have H:∀(l a:TX),a.Pairwise (· < ·)->(l.foldl (λa x=>U4 x a) a).Pairwise (· < ·)/\∀y,y∈l.foldl (λa x=>U4 x a) a↔y∈a\/y∈l:=by
  intro l;induction l with
  |nil=>intro a h;exact⟨h,λy=>aF⟩
  |cons x l c=>
   intro a h;let⟨I,J⟩:=c (U4 x a) (VY h);refine⟨I,λy=>(J y).trans ?_⟩;rw[VJ,T7];constructor
   .rintro((h|h)|h)
    .exact .inr (.inl h)
    .exact .inl h
    .exact .inr (.inr h)
   .rintro(h|h|h)
    .exact .inl (.inr h)
    .exact .inl (.inl h)
    .exact .inr h
 let⟨I,J⟩:=H l [] .nil;exact⟨I,λy=>(J y).trans aF⟩
def VN:∀{l m:TX},l.Pairwise (· < ·)->m.Pairwise (· < ·)->(∀x,x∈l↔x∈m)->l=m
 | [],[],_,_,_=>rfl
 | [],b::m,_,_,h=>by have:=(h b).2 List.mem_cons_self;simp at this
 |a::l,[],_,_,h=>by have:=(h a).1 List.mem_cons_self;simp at this
 |a::l,b::m,I,J,h=>by
  let⟨d,f⟩:=List.pairwise_cons.1 I;let⟨q1,g⟩:=List.pairwise_cons.1 J;have e:a=b:=by
   rcases List.mem_cons.1 ((h a).1 List.mem_cons_self)with e|e
   .exact e
   .rcases List.mem_cons.1 ((h b).2 List.mem_cons_self)with e'|e'
    .exact e'.symm
    .have:=q1 a e;have:=d b e';omega
  subst e;refine congrArg _ (VN f g λx=>?_);have c:=h x;simp only[T7]at c;constructor
  .intro k
   rcases c.1 (.inr k)with e|e
   .subst e;have:=d x k;omega
   .exact e
  .intro k
   rcases c.2 (.inr k)with e|e
   .subst e;have:=q1 x k;omega
   .exact e
def U3(d:cC)(s:h3):TX:=(hN s.lm s.fm s.b5 (s.cj-s.lm+1)).map (k0 (d.first s.k) (cX d s.k))
def Vp{d:cC}{s:h3}{v:Int}:v∈qk d s↔v∈U3 d s:=((VI _ _ _).2 v).trans (by simp[U3])
def Wp{d:cC}{s:h3}{f:TX}(p:f.Perm (qk d s)):f.mergeSort (λx y=>decide (x<=y))=U7 (U3 d s):=by
 have g:=(List.mergeSort_perm f (λx y=>decide (x<=y))).trans p;have i:(f.mergeSort (λx y=>decide (x<=y))).Pairwise (λx y=>decide (x<=y)=true):=List.pairwise_mergeSort (λa b c I J=>by simp at *;omega) (λa b=>cH) f;have h:(f.mergeSort (λx y=>decide (x<=y))).Nodup:=g.nodup_iff.2 (WN d s);refine VN ?_ (VK _).1 λx=>(g.mem_iff.trans Vp).trans ((VK _).2 x).symm
 refine(i.and h).imp λ⟨a,b⟩=>?_
 have:=Uu a;have:_≠_:=b;omega
section
variable{A:TJ}
def VD{w:S7}{m n:Nat}{v:S9}{l:TX}(h:w.ownsRow m 3 1 v n (l.map gi))(ak:0<n):∃b c,v=Ts b n c/\n<=c/\m<=b/\b<w.heap.size/\∀(j:Nat) x,l[j]?=some x->w.cell? (S8 b j)=Tn x:=by
 obtain⟨aj,⟨_,h⟩|⟨g,c,cur,aT,hb,ag,I,J,ax,aZ⟩⟩:=h
 .omega
 .refine⟨g,c,aT,I,hb,bu ag,λj x aI=>?_⟩
  rw[aU ag,<-Ue];have bs:(cur.toList.take (n*1))[j]?=some (gi x):=by rw[aZ,List.getElem?_map,aI];rfl
  rw[List.getElem?_take]at bs;split at bs
  .exact bs
  .cases bs
def Wu[S:Std A](m:Nat)(v:S9)(l:TX)(hlen:l.length<=20000)(x:Int)(w:S7)(hm:m<=w.heap.size)(h:w.ownsRow m 3 1 v l.length (l.map gi))(aT:l = []->v=.slice none 0 0):
 Calls (ao A) 64 #[v,ah x] w λe w'=>∃az,e=.returned az/\w'.ownsRow m 3 1 az (U4 x l).length ((U4 x l).map gi)/\w.grownBy w' none:=by
 let⟨D,ad,av,aw,ax⟩:=wL (A:=A);have r:=al ad;have z:=al av;have B:=al aw;have C:=al ax;clear ad av aw ax;have b1:(w.alloc (.cells #[] 3)).ownsRow w.heap.size 3 1 (Ts w.heap.size 0 0) 0 []:=⟨S6,.inr ⟨w.heap.size,0,#[],S6,bg,fM _ _,bg,kj,S6,S6⟩⟩
 have T:=al b1;clear b1;rcases Uq l.length with ak|ak
 .obtain rfl:=List.length_eq_zero_iff.1 ak
  obtain rfl:=aT S6;clear h ak aT;go_enter (S.f func64),ntmps64;go_wp2;go_loop [5] (λi=>i=ah 0) (λ_=>0)
  case atStart=>rfl
  case round=>
   subst hrel;go_wp2_with (first
    |(at_builtin;refine Sr S6 _ _ S6 S6 w.heap.size _ _ S6 S6 ?_)
    |(at_builtin;refine wpList_append_own_at _ S6 _ _ 22 S6 w.heap.size 3 D (.int .i64 0) 1 8 (ao.underlying22 A) r.out z.out B.out C.out S6 a6 _ 0 _ S6 (j4 T.out λg I J=>dm J) (Ti (w.heap.size+1)) 1 1 [.int .i64 x] (by rfl) S6 (World.news_of_block (cs:=#[.int .i64 x]) (t:=3) (fr:=(0,0)) (U8 _ _ _).2.1) (by simp[Value.oneCell']) kj U cH ?_;intro v2 w2 f d q aM;obtain⟨aJ,c2,rfl,ar,_⟩:=VD (l:=[x]) f U;have aG:1<=c2:=ar;have aK:(1<=c2)=True:=eq_true aG;have ag:=al f;have G:=al d;clear f d q aM))
   go_ret;let⟨aj,_⟩:=id ag.out;refine⟨_,S6,EB ag.out hm,?_⟩;have I:=(U8 w (.cells #[] 3) (.cells #[ah x] 3)).2.2;refine⟨G.out.os.trans I.os,G.out.tape.trans I.tape,G.out.output.trans I.output,cL I.size G.out.size,λi ad _=>(G.out.block i cH (λe=>?_)).trans (I.block i ad aF)⟩;have e:some i=some w.heap.size:=e;have:=bD e;omega
 obtain⟨b,c,rfl,aq,aN,aE,X⟩:=VD h ak;have R:=al X;have aA:=al h;have ai:=al (show ∀V:S7,(∀i,i<w.heap.size->V.heap[i]?=w.heap[i]?)->∀(j:Nat) y,l[j]?=some y->V.cell? (S8 b j)=Tn y from λV k j y e=>(World.cell?_of_block (k b aE)).trans (X j y e));have aB:=al aq;clear h aT X aq;go_enter (S.f func64),ntmps64;go_wp2;go_loop [5] (λi=>∃k:Nat,k<=l.length/\i=ah k/\∀j (h:j<l.length),j<k->l[j]<x) (λi=>l.length-(TH i).toNat)
 case atStart=>exact⟨0,U,by go_num,λj h aI=>U⟩
 case round=>
  obtain⟨k,aa,rfl,ap⟩:=hrel;have L:=al ap;clear ap;have e8:(∃(aS:k<l.length),l[k]<x)\/(∃(aS:k<l.length),l[k]=x)\/((k<l.length/\∃y,w.cell? (S8 b k)=Tn y/\decide (y<x)=false/\(y == x)=false)\/k=l.length)/\U4 x l=l.take k++x::l.drop k:=by
   by_cases aS:k<l.length
   .by_cases I:l[k]<x
    .exact .inl ⟨aS,I⟩
    .by_cases J:l[k]=x
     .exact .inr (.inl ⟨aS,J⟩)
     .refine .inr (.inr ⟨.inl ⟨aS,_,R.out k _ (Ui aS),Ua I,by simpa using J⟩,?_⟩)
      rw[VB aa L.out (λ_=>I),Tm (λ⟨_,e⟩=>J e)]
   .refine .inr (.inr ⟨.inr U,?_⟩)
    rw[VB aa L.out (λh=>Td h aS),Tm (λ⟨h,_⟩=>aS h)]
  rcases e8 with⟨aS,I⟩|⟨aS,I⟩|⟨e8,Y⟩
  .have Z:decide ((k:Int)<l.length)=true:=by simpa using aS
   have ay:(k:Int)<l.length:=U;have c1:=R.out k _ (Ui aS);have ae:decide (l[k]<x)=true:=Uc I;have aC:=al I;clear I;generalize F:l[k]=y at c1 ae;have aH:=al F;clear F;go_wp2;go_round
   case rel=>exact⟨k+1,U,by go_num,λj h aI=>by
    rcases Ub j k with e|e
    .exact L.out j h e
    .obtain rfl:j=k:=U
     exact aC.out⟩
   case measure=>simp[TH];omega
  .have Z:decide ((k:Int)<l.length)=true:=by simpa using aS
   have ay:(k:Int)<l.length:=U;have c1:=R.out k _ (Ui aS);rw[I]at c1;have ae:decide (x<x)=false:=aF;have hp:U4 x l=l:=by rw[VB aa L.out (λ_=>U),Tq ⟨aS,I⟩]
   have P:=al hp;clear I hp;go_wp2;go_ret;refine⟨_,S6,?_,e6 _ _⟩;rw[P.out];exact aA.out
  .have P:=al Y
   have au:(U4 x l).length=k+1+(l.length-k):=by rw[Y];simp;omega
   have af:=al au;have am:=al (show ∀(j:Nat) u,((l.take k).map gi)[j]?=some u->(w.alloc (.cells #[] 3)).cell? (((Ti b):TD).add j)=some u from λj u aI=>by
    rw[List.getElem?_map,List.getElem?_take]at aI;split at aI
    .obtain⟨y,F,rfl⟩:=Option.map_eq_some_iff.1 aI
     rw[show(((Ti b):TD).add j)=(S8 b j) by simp[Addr.add]<;>omega];exact ai.out _ (λi ad=>dm ad) j y F
    .simp at aI)
   have aD:=al (show ∀V:S7,(∀i,i<w.heap.size->V.heap[i]?=w.heap[i]?)->∀(j:Nat) u,((l.drop k).map gi)[j]?=some u->V.cell? (((S8 b k):TD).add j)=some u from λV cb j u aI=>by rw[List.getElem?_map,List.getElem?_drop]at aI;obtain⟨y,F,rfl⟩:=Option.map_eq_some_iff.1 aI;rw[show(((S8 b k):TD).add j)=(S8 b (k+j)) by simp[Addr.add]<;>omega];exact ai.out V cb (k+j) y F)
   have ON:∀(l:TX),∀u∈l.map gi,u.oneCell'=true:=λl u hu=>by obtain⟨n,_,rfl⟩:=List.mem_map.1 hu;rfl
   have W:=al ON;have aL:=aB.out;clear Y au ON;rcases e8 with⟨aS,y,c1,ae,aO⟩|rfl
   .have Z:decide ((k:Int)<l.length)=true:=by simpa using aS
    have ay:(k:Int)<l.length:=U;go_wp2_with (first
     |(at_builtin;refine wpList_append_own_at _ S6 _ _ 22 S6 w.heap.size 3 D (ah 0) 1 8 (ao.underlying22 A) r.out z.out B.out C.out S6 a6 _ 0 _ S6 T.out (Ti b) k c ((l.take k).map gi) (by rfl) (by simp<;>omega) am.out (W.out _) kj U aF ?_;intro v2 w2 f d q aM;have H:=al f;have p:=al (show w.grownBy w2 none from⟨d.os,d.tape,d.output,cL aF d.size,λi ad _=>(d.block i cH (λe=>by have:=bD (show some i=some w.heap.size from e);omega)).trans (dm ad)⟩);clear f d q aM)
     |(at_builtin;refine wpList_append_own_at _ S6 _ _ 22 S6 w.heap.size 3 D (.int .i64 0) 1 8 (ao.underlying22 A) r.out z.out B.out C.out S6 a6 _ (0+k) _ S6 (j4 H.out λg I J=>dm J) (Ti w2.heap.size) 1 1 [.int .i64 x] (by rfl) S6 (World.news_of_block (cs:=#[.int .i64 x]) (t:=3) (fr:=(0,0)) (heap_alloc_new _ _)) (by simp[Value.oneCell']) kj U (by have:=p.out.size;simp;omega) ?_;intro v3 w3 f d q aM;have E:=al f;have o:=al (show w.grownBy w3 none from⟨d.os.trans p.out.os,d.tape.trans p.out.tape,d.output.trans p.out.output,cL (cL p.out.size aF) d.size,λi ad _=>(d.block i (by have:=p.out.size;simp;omega) (λe=>by have:=(lM H.out i e.symm).1;omega)).trans ((dm (by have:=p.out.size;omega)).trans (p.out.block i ad aF))⟩);clear f d q aM)
     |(at_builtin;refine wpList_append_own_at _ S6 _ _ 22 S6 w.heap.size 3 D (.int .i64 0) 1 8 (ao.underlying22 A) r.out z.out B.out C.out S6 a6 _ (0+k+1) _ S6 E.out (S8 b k) (l.length-k) (c-k) ((l.drop k).map gi) (by rfl) aF (aD.out _ (λi ad=>o.out.block i ad aF)) (W.out _) kj U (by have:=o.out.size;omega) ?_;intro v4 K f d q aM;have M:=al f;have Q:=al (show w.grownBy K none from⟨d.os.trans o.out.os,d.tape.trans o.out.tape,d.output.trans o.out.output,cL o.out.size d.size,λi ad _=>(d.block i (by have:=o.out.size;omega) (λe=>by have:=(lM E.out i e.symm).1;omega)).trans (o.out.block i ad aF)⟩);clear f d q aM))
    go_ret;refine⟨_,S6,?_,Q.out⟩;rw[af.out,P.out];have e:(l.take k++x::l.drop k).map gi = []++(l.take k).map gi++[ah x]++(l.drop k).map gi:=by simp[gi]
    rw[e];have:=EB M.out hm;rw[Nat.zero_add]at this;exact this
   .have Z:decide ((l.length:Int)<l.length)=false:=aF
    rcases(show c=l.length\/c≠l.length by omega)with rfl|hne
    all_goals (
     go_wp2_with (first
      |(at_builtin;refine wpList_append_own_at _ S6 _ _ 22 S6 w.heap.size 3 D (ah 0) 1 8 (ao.underlying22 A) r.out z.out B.out C.out S6 a6 _ 0 _ S6 T.out (Ti b) l.length _ ((l.take l.length).map gi) (by rfl) (by simp<;>omega) am.out (W.out _) kj U aF ?_;intro v2 w2 f d q aM;have H:=al f;have p:=al (show w.grownBy w2 none from⟨d.os,d.tape,d.output,cL aF d.size,λi ad _=>(d.block i cH (λe=>by have:=bD (show some i=some w.heap.size from e);omega)).trans (dm ad)⟩);clear f d q aM)
      |(at_builtin;refine wpList_append_own_at _ S6 _ _ 22 S6 w.heap.size 3 D (.int .i64 0) 1 8 (ao.underlying22 A) r.out z.out B.out C.out S6 a6 _ (0+l.length) _ S6 (j4 H.out λg I J=>dm J) (Ti w2.heap.size) 1 1 [.int .i64 x] (by rfl) S6 (World.news_of_block (cs:=#[.int .i64 x]) (t:=3) (fr:=(0,0)) (heap_alloc_new _ _)) (by simp[Value.oneCell']) kj U (by have:=p.out.size;simp;omega) ?_;intro v3 w3 f d q aM;have E:=al f;have o:=al (show w.grownBy w3 none from⟨d.os.trans p.out.os,d.tape.trans p.out.tape,d.output.trans p.out.output,cL (cL p.out.size aF) d.size,λi ad _=>(d.block i (by have:=p.out.size;simp;omega) (λe=>by have:=(lM H.out i e.symm).1;omega)).trans ((dm (by have:=p.out.size;omega)).trans (p.out.block i ad aF))⟩);clear f d q aM)
      |(at_builtin;refine wpList_append_own_at _ S6 _ _ 22 S6 w.heap.size 3 D (.int .i64 0) 1 8 (ao.underlying22 A) r.out z.out B.out C.out S6 a6 _ (0+l.length+1) _ S6 E.out (S8 b l.length) 0 _ [] (by rfl) S6 (λj u aI=>by simp at aI) (λu hu=>by simp at hu) kj U (by have:=o.out.size;omega) ?_;intro v4 K f d q aM;have M:=al f;have Q:=al (show w.grownBy K none from⟨d.os.trans o.out.os,d.tape.trans o.out.tape,d.output.trans o.out.output,cL o.out.size d.size,λi ad _=>(d.block i (by have:=o.out.size;omega) (λe=>by have:=(lM E.out i e.symm).1;omega)).trans (o.out.block i ad aF)⟩);clear f d q aM)
      |(at_builtin;refine wpList_append_own_at _ S6 _ _ 22 S6 w.heap.size 3 D (.int .i64 0) 1 8 (ao.underlying22 A) r.out z.out B.out C.out S6 a6 _ (0+l.length+1) _ S6 E.out (Ti b) 0 _ [] (by rfl) S6 (λj u aI=>by simp at aI) (λu hu=>by simp at hu) kj U (by have:=o.out.size;omega) ?_;intro v4 K f d q aM;have M:=al f;have Q:=al (show w.grownBy K none from⟨d.os.trans o.out.os,d.tape.trans o.out.tape,d.output.trans o.out.output,cL o.out.size d.size,λi ad _=>(d.block i (by have:=o.out.size;omega) (λe=>by have:=(lM E.out i e.symm).1;omega)).trans (o.out.block i ad aF)⟩);clear f d q aM))
     go_ret;refine⟨_,S6,?_,Q.out⟩;rw[af.out,P.out];have e:(l.take l.length++x::l.drop l.length).map gi = []++(l.take l.length).map gi++[ah x]++[]:=by simp[gi]
     rw[e];have:=EB M.out hm;rw[Nat.zero_add]at this;rw[Nat.sub_self];exact this)
end
section
variable{A:TJ}
def VZ(x:Int):∀l:TX,(U4 x l).length<=l.length+1
 | []=>by simp[U4]
 |a::l=>by
  unfold U4;split
  .have:=VZ x l;simp;omega
  .split<;>simp
def V2(l:TX):(U7 l).length<=l.length:=by
 have H:∀(l a:TX),(l.foldl (λa x=>U4 x a) a).length<=a.length+l.length:=by
  intro l;induction l with
  |nil=>intro a;simp
  |cons x l c=>intro a;have:=c (U4 x a);have:=VZ x a;simp;omega
 simpa [U7]using H l []
def WL{l:TX}(h:U7 l = []):l = []:=by
 rcases l with _|⟨a,l⟩
 .rfl
 .have:=((VK (a::l)).2 a).2 aF
  rw[h]at this;simp at this
section
variable{F:TJ}
@[simp] theorem ao.WR:(ao F).underlying 80=some (TypeDesc.slice 92):=av
@[simp] theorem ao.WX(w:S7):Sem.run (ao F) (underlying 80) w=Result.ok (TypeDesc.slice 92) w:=av
@[simp] theorem ao.WY(w:S7):Sem.run (ao F) (Go.sizeOf 92) w=Result.ok 3 w:=av
@[simp] theorem ao.WW(w:S7):Sem.run (ao F) (underlying 92) w=Result.ok (TypeDesc.struct #[⟨ "Left",3,0,false, "", "",0⟩,⟨ "Fetched",3,1,false, "", "",8⟩,⟨ "Fee",3,2,false, "", "",16⟩]) w:=av
@[simp] theorem ao.WZ(w:S7):Sem.run (ao F) (zeroValue 92) w=Result.ok (Value.agg #[ah 0,ah 0,ah 0]) w:=av
end
def VF(w:S7)(b:Nat)(l:TX):Prop:=∀(i:Nat) v,l[i]?=some v->w.cell? (S8 b (i*3+2))=Tn v
def Wx[S:Std A](b c:Nat)(l:TX)(hlen:l.length<=20000)(w:S7)(h:VF w b l):
 Calls (ao A) 36 #[Ts b l.length c] w λe w'=>∃d,e=.returned d/\w'.ownsRow w.heap.size 3 1 d (U7 l).length ((U7 l).map gi)/\(U7 l = []->d=.slice none 0 0)/\w.grownBy w' none:=by
 have H:=al h;clear h;go_enter (S.f func36),ntmps36;go_wp2;go_loopw [3,4] (λout i wr=>∃k:Nat,k<=l.length/\i=ah k/\wr.ownsRow w.heap.size 3 1 out (U7 (l.take k)).length ((U7 (l.take k)).map gi)/\(U7 (l.take k) = []->out=.slice none 0 0)/\w.grownBy wr none) (λ_ i _=>l.length-(TH i).toNat)
 case atStart=>exact⟨0,U,by go_num,⟨S6,.inl ⟨S6,S6⟩⟩,λ_=>S6,e6 _ _⟩
 case round=>
  obtain⟨k,aa,rfl,az,aT,ag⟩:=hrel;by_cases aS:k<l.length
  .have o:decide ((k:Int)<l.length)=true:=by simpa using aS
   have p:(k:Int)<l.length:=U;obtain⟨x,j⟩:∃x,l[k]?=some x:=⟨_,Ui aS⟩
   have c1:=ag.cell (H.out k x j) aF;have e:l.take (k+1)=l.take k++[x]:=by rw[List.take_add_one,j];rfl
   have hp:=Wu (A:=A) w.heap.size _ (U7 (l.take k)) (by have:=V2 (l.take k);simp at this;omega) x wr ag.size az aT;rw[<-WM,<-e]at hp;have n:=al hp;have f:=al ag;clear hp ag az aT e j;go_wp2_with (go_at_call 64;refine n.out.mono ?_;rintro e w2 ⟨d,rfl,az,ag⟩;have g:=al az;have m:=al (f.out.trans ag);clear az ag)
   go_roundw
   case rel=>exact⟨k+1,U,by go_num,g.out,λe=>by
    have h:(l.take (k+1)).length=0:=by rw[WL e];rfl
    rw[List.length_take]at h;omega,m.out⟩
   case measure=>simp[TH];omega
  .obtain rfl:k=l.length:=U
   have o:decide ((l.length:Int)<l.length)=false:=aF;rw[List.take_length]at az aT;have g:=al az;have ek:=al aT;have f:=al ag;clear az aT ag;go_wp2;go_ret;exact⟨_,S6,g.out,ek.out,f.out⟩
end
section
variable{A:TJ}
def Vi(d:cC)(s:h3)(x:fT):TP:=[ah x.1.1,ah x.1.2,ah (k0 (d.first s.k) (cX d s.k) x)]
def V8{d:cC}{s:h3}{a b:Nat}(ae:a<120)(hb:b<120):Vi d s (uz a b) = [ah a,ah b,ah (ha (d.first s.k) (cX d s.k) a b)]:=by unfold Vi k0 uz;rw[dif_pos ⟨ae,hb⟩]
def Wj:∃i,(ao A).info? 92=some i/\i.zero=some (.agg #[ah 0,ah 0,ah 0])/\i.size=3/\i.bytes=24:=⟨_,S6,S6,S6,S6⟩
def V1(fm S' k:Nat):(nu fm S' k).length=k:=by simp[nu]
def VR(lm fm c:Nat)(hF:c<120):∀i,(hN lm fm c i).length<=i*120
 | 0=>by simp[hN]
 |i+1=>by have:=VR lm fm c hF i;rw[hN,Ug,V1];omega
def Wo{w:S7}{B n:Nat}{v:S9}{xs:TP}(h:w.ownsRow B 92 3 v n xs)(r:Nat)(k:v.ownBlock=some r):B<=r/\r<w.heap.size:=rh h r k
def V0[S:Std A](d:cC)(ok:d.ok)(p:eg)(s:h3)(af:s.ok d)(w:S7)(h:e' w d p):
 Calls (ao A) 37 #[.agg (dv d p),.agg s.a] w λe w'=>∃v,e=.returned v/\w'.ownsRow w.heap.size 92 3 v (hN s.lm s.fm s.b5 (s.cj-s.lm+1)).length ((hN s.lm s.fm s.b5 (s.cj-s.lm+1)).flatMap (Vi d s))/\w.grownBy w' none:=by
 let⟨ay,ad,P,Q,R⟩:=Wj (A:=A);have aa:=al ad;have aq:=al P;have ar:=al Q;have au:=al R;let⟨q1,y,z⟩:=U8 w (.cells (dv d p) 25) (.cells s.a 31);obtain⟨r,hW⟩:∃W,(w.alloc (.cells (dv d p) 25)).alloc (.cells s.a 31)=W:=⟨_,S6⟩
 have M:r.heap.size=w.heap.size+1+1:=by rw[<-hW];simp
 rw[hW]at q1 y z;have G:=al λ(V:S7) (g:r.grownBy V none)=>Ud ((g.block _ (bu q1) aF).trans q1) ((g.block _ (bu y) aF).trans y)
 have T:=al z;have ak:=al λ(V:S7) (g:r.grownBy V none) (l f:Nat) (aj:l<120) (aD:f<120)=>UQ (A:=A) d ok p s.k af.k l f aj aD V (h.keep (z.trans g))
 have Y:=al hW;have aj:=af.l;have aH:=af.bE;have hF:=af.hF;have ap:=al M;have av:=al (VR s.lm s.fm s.b5 hF);clear ad P Q R q1 y z M hW h;go_enter (S.f func37),ntmps37;go_wp2;have C:=Y.out;dsimp only[dv,h3.a,uV]at C;try rw[C]
 clear C;go_loopw [5,6] (λout l wr=>∃c:Nat,s.lm<=c/\c<=s.cj+1/\l=ah c/\r.grownBy wr none/\wr.ownsRow r.heap.size 92 3 out (hN s.lm s.fm s.b5 (c-s.lm)).length ((hN s.lm s.fm s.b5 (c-s.lm)).flatMap (Vi d s))) (λ_ l _=>s.cj+1-(TH l).toNat)
 case atStart=>exact⟨s.lm,U,U,S6,e6 _ _,by rw[Nat.sub_self];exact⟨S6,.inl ⟨S6,S6⟩⟩⟩
 case round=>
  obtain⟨c,I,J,rfl,ag,az⟩:=hrel;have D:=al ag;have F:=al az;let⟨bG,n⟩:=G.out wr ag;have aP:=(aU (o:=1) n).trans S6;have aQ:=(aU (o:=2) n).trans S6;have aR:=(aU (o:=3) n).trans S6;have aS:=(aU (o:=4) n).trans S6;clear ag az bG n;by_cases hle:c<=s.cj
  .have aA:decide ((c:Int)<=(s.cj:Int))=true:=k4
   go_wp2;go_loopw [5,7] (λout f wr=>∃i:Nat,max c s.fm<=i/\(i<=s.b5+1\/i=max c s.fm)/\f=ah i/\r.grownBy wr none/\wr.ownsRow r.heap.size 92 3 out (hN s.lm s.fm s.b5 (c-s.lm)++nu s.fm c (i-max c s.fm)).length ((hN s.lm s.fm s.b5 (c-s.lm)++nu s.fm c (i-max c s.fm)).flatMap (Vi d s))) (λ_ f _=>s.b5+1-(TH f).toNat)
   case atStart=>exact⟨max c s.fm,U,.inr S6,cH,D.out,by rw[Nat.sub_self];simpa [nu]using F.out⟩
   case round=>
    obtain⟨i,aE,aG,rfl,ag,az⟩:=hrel;have j:=al ag;have B:=al az;let⟨bG,n⟩:=G.out wr ag;have aJ:=(aU (o:=0) bG).trans S6;have aK:=(aU (o:=1) bG).trans S6;have aL:=(aU (o:=2) bG).trans S6;have aN:=(aU (o:=3) bG).trans S6;have aO:=(aU (o:=0) n).trans S6;have aT:=(aU (o:=2) n).trans S6;have z4:=(aU (o:=4) n).trans S6;clear ag az bG n;by_cases aI:i<=s.b5
    .have aB:decide ((i:Int)<=(s.b5:Int))=true:=k4
     have hlen:(hN s.lm s.fm s.b5 (c-s.lm)++nu s.fm c (i-max c s.fm)).length<=20000:=by have:=av.out (c-s.lm);have:=V1 s.fm c (i-max c s.fm);rw[Ug];omega
     have E:=al hlen;clear hlen;have H:i<120:=U;have K:c<120:=U;have ai:=al (show nu s.fm c (i+1-max c s.fm)=nu s.fm c (i-max c s.fm)++[uz c i] by rw[show i+1-max c s.fm=i-max c s.fm+1 by omega,Ob,show max c s.fm+(i-max c s.fm)=i by omega])
     go_wp2_with (first
      |(go_at_call 65;refine(ak.out wr j.out c i K H).mono ?_;rintro e w3 ⟨rfl,ag⟩;have m:=al ag;clear ag)
      |(at_builtin;refine wpList_append_own_at _ S6 _ _ 80 S6 r.heap.size 92 ay (.agg #[.int .i64 0,.int .i64 0,.int .i64 0]) 3 24 ao.WR aa.out aq.out ar.out au.out S6 a6 _ _ _ S6 (j4 B.out λg I J=>(dm (by have:=m.out.size;omega)).trans (m.out.block g J aF)) (Ti w3.heap.size) 1 1 [.int .i64 c,.int .i64 i,.int .i64 (ha (d.first s.k) (cX d s.k) c i)] (by rfl) S6 (World.news_of_block (cs:=#[.int .i64 c,.int .i64 i,.int .i64 (ha (d.first s.k) (cX d s.k) c i)]) (t:=92) (fr:=(0,0)) (heap_alloc_new w3 _)) (by simp[Value.oneCell']) (by have:=E.out;unfold maxLen;omega) (by have:=E.out;omega) (by have:=j.out.size;have:=m.out.size;simp;omega) ?_;intro v5 aC L u aw aM;have ae:=al L;have Z:=al (show r.grownBy aC none from⟨u.os.trans (m.out.os.trans j.out.os),u.tape.trans (m.out.tape.trans j.out.tape),u.output.trans (m.out.output.trans j.out.output),cL (cL j.out.size (cL m.out.size aF)) u.size,λq ax _=>(u.block q (by have:=j.out.size;have:=m.out.size;simp;omega) (λe=>by have:=(Wo B.out q e.symm).1;omega)).trans ((dm (by have:=j.out.size;have:=m.out.size;omega)).trans ((m.out.block q (by have:=j.out.size;omega) aF).trans (j.out.block q ax aF)))⟩);clear L u aw aM))
     go_roundw
     case rel=>
      refine⟨i+1,U,.inl U,by go_num,Z.out,?_⟩;rw[ai.out,<-List.append_assoc,Ug,List.flatMap_append];have e:List.flatMap (Vi d s) [uz c i] = [ah c,ah i,ah (ha (d.first s.k) (cX d s.k) c i)]:=by rw[List.flatMap_singleton,V8 K H]
      rw[e];exact ae.out
     case measure=>simp[TH];omega
    .have aB:decide ((i:Int)<=(s.b5:Int))=false:=nd
     have X:=al (show hN s.lm s.fm s.b5 (c+1-s.lm)=hN s.lm s.fm s.b5 (c-s.lm)++nu s.fm c (i-max c s.fm) by rw[show c+1-s.lm=c-s.lm+1 by omega,hN,show s.lm+(c-s.lm)=c by omega,show s.b5+1-max c s.fm=i-max c s.fm by omega])
     go_wp2;go_roundw
     case rel=>exact⟨c+1,U,U,by go_num,j.out,by rw[X.out];exact B.out⟩
     case measure=>simp[TH];omega
  .have aA:decide ((c:Int)<=(s.cj:Int))=false:=nd
   have e:c-s.lm=s.cj-s.lm+1:=U;have am:=al (e ▸ F.out);clear e;go_wp2;go_ret;exact⟨_,S6,EB am.out (by have:=ap.out;omega),T.out.trans D.out⟩
end
end Go.aO
