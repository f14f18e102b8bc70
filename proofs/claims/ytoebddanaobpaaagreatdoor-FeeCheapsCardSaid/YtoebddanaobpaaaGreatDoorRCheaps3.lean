/- A part of FeeCheaps: no conditions. -/
import Derived.Test.YtoebddanaobpaaaGreatDoorRCheaps2
set_option maxHeartbeats 8000000
set_option maxRecDepth 100000
set_option linter.all false
namespace Go.aO
open Go.Proofs Tryz Go.RowKit
section
variable{A:TJ}
def qx.iV{w w':S7}{d:dw}{p:gz}{T:Nat}(K:qx w d p w')(a':T<w.heap.size):iZ (iV T w') d p:=by
 let⟨⟨z,l,hF,_⟩,⟨B,m,y,_⟩,u⟩:=K.plain;have one:∀{q:TV} {n b:Nat} {f:Ty},kU w' q n f->q=some (Ti b)->w.heap.size<=b->kU (Go.aO.iV T w') q n f:=λ{q n b f} h e hb ak=>by let⟨aE,o,c,k⟩:=h ak;rw[e]at c;cases c;exact⟨b,0,e,k.lK (ma U)⟩
 refine⟨one K.raw.first l hF,λak=>?_,λi ad=>?_,one K.raw.free m y⟩
 .let⟨g,C,cur,e,hb,J,ax⟩:=xk K.own ak
  let⟨b,o,c,k⟩:=K.raw.kM ak;injection e with ay D E
  rw[ay]at c;cases c;have j:g≠T:=U;exact⟨g,0,ay,λi ad=>⟨(World.cell?_of_block (ma j)).trans (k i ad).1,(World.cell?_of_block (ma j)).trans (k i ad).2⟩⟩
 .let⟨b,r,I,_⟩:=u i ad
  exact one (K.raw.cQ i ad) r I
structure VD(w:S7)(T:Nat)(U9:Nat->dw)(pp:Nat->gz)(B:Nat):Prop where
 small:∀i,(U9 i).small
 raw:∀i,iZ (iV T w) (U9 i) (pp i)
 cell:∀i,i<3->w.cell? (S8 B (i*4))=Tn (U9 i).kinds/\w.cell? (S8 B (i*4+1))=some (.slice (pp i).eh (U9 i).c' (pp i).cA)/\w.cell? (S8 B (i*4+2))=some (.slice (pp i).hH (U9 i).bk (pp i).dq)/\w.cell? (S8 B (i*4+3))=some (.slice (pp i).ei (U9 i).b' (pp i).dc)
 apart:B≠T
def VD.keep{w w':S7}{T B:Nat}{c:Nat->dw}{d:Nat->gz}(h:VD w T c d B)(g:w.grownBy w' (some T)):VD w' T c d B:=by
 have hb:some B≠some T:=λe=>h.apart (bD e)
 exact⟨h.small,λi=>(h.raw i).keep (Bv g),λi ad=>⟨g.cell (h.cell i ad).1 hb,g.cell (h.cell i ad).2.1 hb,g.cell (h.cell i ad).2.2.1 hb,g.cell (h.cell i ad).2.2.2 hb⟩,h.apart⟩
def Hq.three{w w':S7}{T B:Nat}{L:S9}{d:dw}{p:gz}(h:Hq w w' T L d p B)(l:d.small)(au:iZ (iV T w) d p):∃(g':Nat) (D:cC) (P:eg) (d2:dw) (c:gz),D.ok/\e' (iV T w') D P/\VD w' T (λi=>match i with|0=>d|1=>D.raw|_=>d2) (λi=>match i with|0=>p|1=>P.raw|_=>c) B/\g'<=1000/\fS w' T L g'/\w.grownBy w' (some T):=by
 obtain⟨g',D,P,d2,c,ok,s2,a',j,g,hb,ag,aA,f⟩:=h;refine⟨g',D,P,d2,c,ok,a',⟨λi=>?_,λi=>?_,λi ad=>?_,g⟩,ag,aA,f⟩
 .match i with
  | 0=>exact l
  | 1=>exact cC.rl ok
  |_+2=>exact s2
 .match i with
  | 0=>exact au.keep (Bv f)
  | 1=>exact a'.raw
  |_+2=>exact j
 .match i,ad with
  | 0,_=>exact⟨(aU (o:=0) hb).trans S6,(aU (o:=1) hb).trans S6,(aU (o:=2) hb).trans S6,(aU (o:=3) hb).trans S6⟩
  | 1,_=>exact⟨(aU (o:=4) hb).trans S6,(aU (o:=5) hb).trans S6,(aU (o:=6) hb).trans S6,(aU (o:=7) hb).trans S6⟩
  | 2,_=>exact⟨(aU (o:=8) hb).trans S6,(aU (o:=9) hb).trans S6,(aU (o:=10) hb).trans S6,(aU (o:=11) hb).trans S6⟩
end
end Go.aO
namespace Go.aO
open Go.Proofs Go.RowKit
section
variable{A:Array Func}
section
variable{F:Array Func}[Std F]
@[simp] theorem ao.WT:c7 F 11:=dL Tryz.func11
@[simp] theorem ao.WV:c7 F 13:=dL Tryz.func13
end
abbrev UA(V:World)(b o c f g:Nat)(d:dw)(p:gz):Prop:=V.cell? ⟨b,o,none⟩=some (.int .i64 d.kinds)/\V.cell? ⟨b,c,none⟩=some (.slice p.eh d.c' p.cA)/\V.cell? ⟨b,f,none⟩=some (.slice p.hH d.bk p.dq)/\V.cell? ⟨b,g,none⟩=some (.slice p.ei d.b' p.dc)
abbrev VN(V:World)(bB c cG d j:Nat)(f1 f2 f3 f4:Nat->Int):Prop:=V.cell? ⟨bB,j,none⟩=some (.int .i64 (f1 j))/\V.cell? ⟨c,j,none⟩=some (.int .i64 (f2 j))/\V.cell? ⟨cG,j,none⟩=some (.int .i64 (f3 j))/\V.cell? ⟨d,j,none⟩=some (.int .i64 (f4 j))
def Vu(a b:Int)(j:Nat):Int:=match j with|0=>a|_=>b
def VM{w:World}{b:Nat}{x y:Int}(h:w.heap[b]?=some (.cells #[.int .i64 x,.int .i64 y] 3))(j:Nat)(aI:j<2):w.cell? ⟨b,j,none⟩=some (.int .i64 (Vu x y j)):=by
 have:=aU (o:=j) h;rcases j with _|_|j
 .exact this
 .exact this
 .omega
def VB(j:Nat):Int:=match j with|0=>0|1=>1|2=>2|3=>5|_=>26
def WB{w:World}{b:Nat}(h:w.heap[b]?=some (.cells #[.int .i64 0,.int .i64 1,.int .i64 2,.int .i64 5,.int .i64 26] 3)):gn w b 0 5 VB:=by
 intro j aI;have:=aU (o:=0+j) h;rcases j with _|_|_|_|_|j
 .exact this
 .exact this
 .exact this
 .exact this
 .exact this
 .omega
def Wj(d:dw)(a b c e:Int):(Vo d a b c e).eW.length<=100000:=by
 unfold Vo;split
 .next h=>
  unfold Vd at h;by_cases aT:jY d=0
  .rw[if_neg (by omega)]at h
   obtain⟨ok,_,aa,_⟩:=IB aT;by_cases I:0<=a/\a<=d.kinds-1
   .rw[if_neg (λx=>x I)]at h
    by_cases J:(0<=b/\b<=119)/\(0<=c/\c<=119)
    .rw[if_neg (λx=>x J)]at h
     by_cases ax:0<=e/\e<=30
     .rw[if_neg (λx=>x ax)]at h
      by_cases aZ:c<b
      .rw[if_pos aZ]at h;omega
      .have:=(VU (a7:=hj d.nC a.toNat) (carry:=e.toNat) (left:=b.toNat) (e:=c.toNat) (λl f=>Kv ok (by omega) l f) (by omega) (by omega)).2.2
       omega
     .rw[if_pos ax]at h;omega
    .rw[if_pos J]at h;omega
   .rw[if_pos I]at h;omega
  .rw[if_pos aT]at h;omega
 .exact Nat.zero_le _
def Wm[S:Std A][eY:jx A][P:hA A][N:Hi A](dV:∀w,Calls (ao A) 5 #[] w λe w'=>e=.returned (.bool true)/\w=w')(d:dw)(p:gz)(r0:Int)(q:Option Addr)(n J:Nat)(f:Nat->Int)(kind left aP carry:Int)(L:Value)(w:World)(h:iZ w d p)(au:kU w q n f)(fD:∀w',w.grownBy w' none->ly w' L w'.heap.size)(ca:L.oneCell'=true):
 Calls (ao A) 3 #[.agg (eB d p),.agg #[.int .i64 r0,.slice q n J],.int .i64 kind,.int .i64 left,.int .i64 aP,.int .i64 carry,L] w λe _=>e=.returned (.bool true):=by
 obtain⟨z,Q⟩:∃z,(w.alloc (.cells (eB d p) 25)).alloc (.cells #[.int .i64 r0,.slice q n J] 27)=z:=⟨_,rfl⟩
 have I:=Vn w (.cells (eB d p) 25) (.cells #[.int .i64 r0,.slice q n J] 27);have bL:z.heap.size=w.heap.size+2:=by rw[<-Q];simp
 rw[Q]at I;have X:=Lib.hid I.1;have aB:=Lib.hid I.2.1;have bO:=Lib.hid I.2.2;have aE:=Lib.hid bL;have bN:=Lib.hid Q;have bV:=Lib.hid h;have bT:=Lib.hid au;have bS:=Lib.hid fD;have aD:=Lib.hid (SX (A:=A) d p z (h.keep I.2.2));have az:=Lib.hid dV;clear bL Q h au fD dV I;go_enter (S.f Tryz.func3),Tryz.ntmps3;go_upto_region 1 with fail
 have aL:=bN.out;dsimp only[eB]at aL;rw[aL];clear aL;have aV:z.cell? ⟨w.heap.size,0,none⟩=some (.int .i64 d.kinds):=(aU (o:=0) X.out).trans rfl;have aW:z.cell? ⟨w.heap.size,1,none⟩=some (.slice p.eh d.c' p.cA):=(aU (o:=1) X.out).trans rfl;have aX:z.cell? ⟨w.heap.size,2,none⟩=some (.slice p.hH d.bk p.dq):=(aU (o:=2) X.out).trans rfl;have aY:z.cell? ⟨w.heap.size,3,none⟩=some (.slice p.ei d.b' p.dc):=(aU (o:=3) X.out).trans rfl;by_cases af:d.small;rotate_left
 .have F:=Lib.hid af
  clear af;go_wp2_with (first
   |(go_at_call 4;refine aD.out.mono ?_;rintro e w2 ⟨⟨b,rfl,hb⟩,ag⟩;have Z:b=true:=(by cases b with|true=>rfl|false=>exact absurd (hb.1 rfl) F.out);subst Z;clear ag hb)
   |(go_at_call 5;refine(az.out _).mono ?_;rintro e w' ⟨rfl,rfl⟩))
  go_ret;rfl
 have F:=Lib.hid af;clear af;by_cases ak:n<=20;rotate_left
 .have ai:decide ((n:Int)>20)=true:=by rw[decide_eq_true_iff];omega
  have aR:decide ((20:Int)<n)=true:=ai;have bB:decide (20<n)=true:=by rw[decide_eq_true_iff];omega
  go_wp2_with (first
   |(go_at_call 4;refine aD.out.mono ?_;rintro e w2 ⟨⟨b,rfl,hb⟩,ag⟩;have Z:b=false:=hb.2 F.out;subst Z;have bI:=(aU (o:=1) ((ag.block _ (by have:=aE.out;omega) (by simp)).trans aB.out)).trans rfl;clear ag hb)
   |(go_at_call 5;refine(az.out _).mono ?_;rintro e w' ⟨rfl,rfl⟩))
  go_ret;rfl
 have ai:decide ((n:Int)>20)=false:=by rw[decide_eq_false_iff_not];omega
 have aR:decide ((20:Int)<n)=false:=ai;have bB:decide (20<n)=false:=by rw[decide_eq_false_iff_not];omega
 go_upto_region 3 with(go_at_call 4;refine aD.out.mono ?_;rintro e w2 ⟨⟨b,rfl,hb⟩,ag⟩;have Z:b=false:=hb.2 F.out;subst Z;have bI:=(aU (o:=1) ((ag.block _ (by have:=aE.out;omega) (by simp)).trans aB.out)).trans rfl;have aC:=Lib.hid (bO.out.trans ag);have a2:=Lib.hid ag;clear ag hb)
 clear aV aW aX aY ai aR bB bI;go_cut [51]from 40 to 51 (λrp aT=>(∃b:Bool,rp=.bool b)/\aT=w2)
 case first=>
  go_wp2;all_goals (go_meet;exact⟨⟨_,rfl⟩,rfl⟩)
 case rest=>
 obtain⟨⟨b,rfl⟩,aQ⟩:=hcut;obtain rfl:=aQ.symm;go_upto_if 51 with(fail)
 go_cut [3]from 52 to 53 (λcp aT=>(∃aN:Int,cp=.int .i64 aN)/\aT=w2)
 case first=>
  cases b;all_goals (go_wp2;go_meet;exact⟨⟨_,rfl⟩,rfl⟩)
 case rest=>
 obtain⟨⟨aN,rfl⟩,aQ⟩:=hcut;obtain rfl:=aQ.symm;clear left;go_upto_region 6 with(go_at_call 6;refine(SY (A:=A) L w2 (bS.out w2 aC.out) ca).mono ?_;rintro e w3 ⟨rfl,br,bj⟩;have bW:=Lib.hid br;have u:=Lib.hid bj;clear br bj)
 have bh:=aC.out.trans u.out;have cs:=aE.out;have cG:w3.heap[w.heap.size]?=some (.cells (eB d p) 25):=((a2.out.trans u.out).block _ (by omega) (by simp)).trans X.out;have aH:w3.heap[w.heap.size+1]?=some (.cells #[.int .i64 r0,.slice q n J] 27):=((a2.out.trans u.out).block _ (by omega) (by simp)).trans aB.out;have aV:w3.cell? ⟨w.heap.size,0,none⟩=some (.int .i64 d.kinds):=(aU (o:=0) cG).trans rfl;have aW:w3.cell? ⟨w.heap.size,1,none⟩=some (.slice p.eh d.c' p.cA):=(aU (o:=1) cG).trans rfl;have aX:w3.cell? ⟨w.heap.size,2,none⟩=some (.slice p.hH d.bk p.dq):=(aU (o:=2) cG).trans rfl;have aY:w3.cell? ⟨w.heap.size,3,none⟩=some (.slice p.ei d.b' p.dc):=(aU (o:=3) cG).trans rfl;have ct:w3.cell? ⟨w.heap.size+1,0,none⟩=some (.int .i64 r0):=(aU (o:=0) aH).trans rfl;have cu:w3.cell? ⟨w.heap.size+1,1,none⟩=some (.slice q n J):=(aU (o:=1) aH).trans rfl;have cc:=aC.out.size;generalize w2.heap.size=T at *;have a1:=Lib.hid (SV bh cc);have a7:=Lib.hid (bV.out.keep a1.out);have bU:=Lib.hid (bT.out.keep a1.out);clear cG aH bh cs;go_wp2_with (go_at_call 7;refine(S1 (A:=A) T 0 L (by omega) d F.out p r0 q n J f ak w3 a7.out bU.out bW.out).mono ?_;rintro e bJ ⟨B,rfl,bp⟩;obtain⟨b9,D,b7,d2,cm,ok,cb,ax,cx,bs,ce⟩:=bp.three F.out a7.out;have bM:=Lib.hid ax;have bX:=Lib.hid bs;have am:=Lib.hid (show 0<=D.raw.kinds/\D.raw.kinds<=3 by have:=ok.kinds;show(0:Int)<=(D.kinds:Int)/\(D.kinds:Int)<=3;omega);clear bp ax bs ce cb ok)
 clear aV aW aX aY ct cu;have am:=Lib.hid (show 0<=((λi=>match i with|0=>d|1=>D.raw|_=>d2:Nat->dw) 1).kinds/\((λi=>match i with|0=>d|1=>D.raw|_=>d2:Nat->dw) 1).kinds<=3 from am.out);generalize (λi=>match i with|0=>d|1=>D.raw|_=>d2)=c at *;generalize (λi=>match i with|0=>p|1=>b7.raw|_=>cm)=m at *;go_loopw [17] (λi wr=>∃k g:Nat,k<=3/\i=.int .i64 k/\g<=1000+4*k/\fS wr T L g/\VD wr T c m B) (λi _=>3-(TH i).toNat)
 case atStart=>exact⟨0,b9,by omega,by go_num,by omega,bX.out,bM.out⟩
 case round=>
  obtain⟨k,g,aa,rfl,ag,aA,ax⟩:=hrel;have a8:=Lib.hid aA;have H:=Lib.hid ax;clear aA ax;by_cases aS:k<3;rotate_left
  .have ci:decide ((k:Int)<3)=false:=by rw[decide_eq_false_iff_not];omega
   have cj:decide (k<3)=false:=by simpa using aS
   go_wp2_with (go_at_call 5;refine(az.out _).mono ?_;rintro e w' ⟨rfl,rfl⟩)
   go_ret;rfl
  have ci:decide ((k:Int)<3)=true:=by rw[decide_eq_true_iff];omega
  have cj:decide (k<3)=true:=by simpa using aS
  have q1:(k:Int)<3:=by omega
  have cA:(0:Int)<=k:=by omega
  obtain⟨bx,c1,c2,c3⟩:=H.out.cell k aS;have a':=a8.out.lt;go_upto_region 11 with(go_at_call 8;refine(Le (A:=A) (c k) (H.out.small k) (m k) wr (H.out.raw k).un).mono ?_;rintro e R ⟨ia,rfl,bi,bk⟩;have bQ:=Lib.hid (bi.iV a');have al:=Lib.hid bk;clear bi bk)
  clear bx c1 c2 c3;have aq:=fM R (.cells (eB (c k) ia) 25);have ar:=World.grownBy_alloc R (.cells (eB (c k) ia) 25) none;dsimp only[eB]at aq ar;generalize World.alloc R _=C at *;have aw:=al.out.trans ar;have cf:R.heap.size≠T:=by have:=al.out.size;omega
  generalize R.heap.size=df at *;have bY:=Lib.hid (show fS C T L g from a8.out.keep λb hb=>aw.block b hb (by simp));have b6:=Lib.hid (show ∀V:World,C.grownBy V (some T)->UA V df 0 1 2 3 (c k) ia/\UA V B (k*4) (k*4+1) (k*4+2) (k*4+3) (c k) (m k)from λV g=>
   have h:=(g.block df (bu aq) (λe=>cf (Option.some.inj e))).trans aq
   ⟨⟨(aU (o:=0) h).trans rfl,(aU (o:=1) h).trans rfl,(aU (o:=2) h).trans rfl,(aU (o:=3) h).trans rfl⟩,(H.out.keep ((wE aw _).trans g)).cell k aS⟩)
  have aF:=Lib.hid (show ∀V:World,C.grownBy V (some T)->VD V T c m B from λV g=>H.out.keep ((wE aw _).trans g));have oy:=Lib.hid (show ∀V:World,C.grownBy V (some T)->iZ V (c k) ia from λV g=>(bQ.out.keep (Bv ((wE ar _).trans g))).un);have b8:=Lib.hid (show ∀V:World,C.grownBy V (some T)->iZ V (c k) (m k)from λV g=>((aF.out V g).raw k).un);have G:=Lib.hid (H.out.small k);clear aq ar aw;go_upto_region 12 with(go_at_call 9;refine(PG (A:=A) T g L (by omega) 60 (by omega) C bY.out).mono ?_;rintro e bK ⟨dx,rfl,cy,bt,bl⟩;have bZ:=Lib.hid bt;have a4:=Lib.hid bl;clear bt bl)
  have c4:bK.cell? ⟨B,4,none⟩=some (.int .i64 (c 1).kinds):=((aF.out _ a4.out).cell 1 (by omega)).1;have Q:IntKind.i64.wrap ((c 1).kinds-1)=(c 1).kinds-1:=IntWalk.i64_in _ (by have:=am.out;omega);go_upto_region 13 with(first
   |(go_at_call 9;refine(PG (A:=A) T (g+1) L (by omega) ((c 1).kinds-1) (by have:=am.out;omega) bK bZ.out).mono ?_;rintro e E ⟨fG,rfl,_,bv,bm⟩;have a9:=Lib.hid bv;have bP:=Lib.hid bm;clear bv bm)
   |(go_at_call 9;refine(PG (A:=A) T (g+1+1) L (by omega) 55 (by omega) _ ((a9.out.alloc _).alloc _)).mono ?_;rintro e aj ⟨gK,rfl,cz,bw,bn⟩;have ba:=Lib.hid bw;have a5:=Lib.hid bn;have ch:IntKind.i64.wrap ((dx:Int)+gK)=(dx:Int)+gK:=IntWalk.i64_in _ (by omega);clear bw bn)
   |(go_at_call 10;refine(CQ (A:=A) T (g+1+1+1) L (by omega) _ 0 5 5 VB (by omega) _ ((ba.out.alloc _).alloc _) (by have:=ba.out.lt;simp;omega) (WB (Vn _ _ _).2.1)).mono ?_;rintro e U ⟨j,aI,rfl,ae,bo⟩;have b5:=Lib.hid ae;have a6:=Lib.hid bo;clear ae bo))
  have Y:=fM U (.cells #[.int .i64 carry,.int .i64 (VB j)] 3);have bg:=World.grownBy_alloc U (.cells #[.int .i64 carry,.int .i64 (VB j)] 3) (some T);have bG:=b5.out.alloc (.cells #[.int .i64 carry,.int .i64 (VB j)] 3);generalize World.alloc U _=W at *;have aG:=Vn aj (.cells #[.int .i64 aP,.int .i64 ((dx:Int)+gK)] 3) (.cells #[.int .i64 0,.int .i64 1,.int .i64 2,.int .i64 5,.int .i64 26] 3);have ap:=Vn E (.cells #[.int .i64 kind,.int .i64 fG] 3) (.cells #[.int .i64 aN,.int .i64 dx] 3);have aJ:=a6.out.trans bg;have av:=a5.out.trans ((VH aG.2.2 (some T)).trans aJ);have aK:C.grownBy W (some T):=(a4.out.trans bP.out).trans ((VH ap.2.2 _).trans av);have cq:T<E.heap.size:=a9.out.lt;have cr:E.heap.size+2<=aj.heap.size:=by have:=a5.out.size;simpa using this
  have qf:aj.heap.size+2<=U.heap.size:=by have:=a6.out.size;simpa using this
  have bE:=VM ((av.block _ (by simp only[World.size_alloc];omega) (λe=>by have:=Option.some.inj e;omega)).trans ap.1);have bF:=VM ((av.block _ (by simp only[World.size_alloc];omega) (λe=>by have:=Option.some.inj e;omega)).trans ap.2.1);have bD:=VM ((aJ.block _ (by simp only[World.size_alloc];omega) (λe=>by have:=Option.some.inj e;omega)).trans aG.1);have bC:=VM Y;have b4:=Lib.hid bG;have bb:=Lib.hid (show ∀(V:World) (y:Nat),W.grownBy V none->y<2->(UA V df 0 1 2 3 (c k) ia/\UA V B (k*4) (k*4+1) (k*4+2) (k*4+3) (c k) (m k))/\VN V E.heap.size (E.heap.size+1) aj.heap.size U.heap.size y (Vu kind fG) (Vu aN dx) (Vu aP ((dx:Int)+gK)) (Vu carry (VB j))from λV y g ah=>
   ⟨b6.out V (aK.trans (wE g _)),g.cell (bE y ah) (by simp),g.cell (bF y ah) (by simp),g.cell (bD y ah) (by simp),g.cell (bC y ah) (by simp)⟩)
  have ay:=Lib.hid aK;clear Y bg bG aG ap aJ av aK cq cr qf bE bF bD bC c4 Q ch;generalize E.heap.size+1=TK at *;generalize E.heap.size=bH at *;generalize aj.heap.size=bf at *;generalize U.heap.size=Y at *;generalize Vu kind fG=fk at *;generalize Vu aN dx=bq at *;generalize Vu aP ((dx:Int)+gK)=M at *;generalize Vu carry (VB j)=K at *;have bc:=Lib.hid (show ∀V:World,W.grownBy V none->iZ V (c k) ia from λV g=>oy.out V (ay.out.trans (wE g _)));have bd:=Lib.hid (show ∀V:World,W.grownBy V none->iZ V (c k) (m k)from λV g=>b8.out V (ay.out.trans (wE g _)));generalize hW:wr=cw at *;clear hW;go_wp2;go_loopw [24] (λi wr=>∃y:Nat,y<=2/\i=.int .i64 y/\W.grownBy wr none) (λi _=>2-(TH i).toNat)
  case atStart=>exact⟨0,by omega,by go_num,World.grownBy.refl _ _⟩
  case round=>
   obtain⟨y,ah,rfl,aM⟩:=hrel;have cv:=Lib.hid aM;have l:=Lib.hid (show W.grownBy wr.drew none from gv aM);clear aM;by_cases aO:y<2
   .have ck:decide ((y:Int)<2)=true:=by rw[decide_eq_true_iff];omega
    have cl:decide (y<2)=true:=by simpa using aO
    have cB:(y:Int)<2:=by omega
    have cC:(0:Int)<=y:=by omega
    obtain⟨x,bA⟩:∃x,Vd (c k) (fk y) (bq y) (M y) (K y)=x:=⟨_,rfl⟩
    obtain⟨r,au⟩:∃r,Vo (c k) (fk y) (bq y) (M y) (K y)=r:=⟨_,rfl⟩
    have bR:=Lib.hid (show r.eW.length<=100000 by rw[<-au];exact Wj _ _ _ _ _);have aZ:=Lib.hid λ(V:World) (g:W.grownBy V none)=>Wl (A:=A) (c k) G.out.fit ia (fk y) (bq y) (M y) (K y) V (bc.out V g)
    have a0:=Lib.hid λ(V:World) (g:W.grownBy V none)=>WE (A:=A) (c k) G.out.fit (m k) (fk y) (bq y) (M y) (K y) V (bd.out V g)
    rw[bA,au]at aZ a0;clear bA au;have ai:(x !=x)=false:=by simp
    have aR:(r.cost !=r.cost)=false:=by simp
    have gO:=Lib.hid (λV g=>bb.out V y g aO);go_upto_region 16 with fail
    go_region_held3 (λV=>(UA V df 0 1 2 3 (c k) ia/\UA V B (k*4) (k*4+1) (k*4+2) (k*4+3) (c k) (m k))/\VN V bH TK bf Y y fk bq M K)
     (first|with_reducible exact gO.out _ l.out|with_reducible exact gO.out _ u.out)
     (first|(go_at_call 11;refine(aZ.out _ l.out).mono ?_;rintro e w3 ⟨cn,vK,rfl,ae,ag⟩;have u:=Lib.hid (l.out.trans ag);have b0:=Lib.hid ae;clear ae ag))
    clear l;have l:=Lib.hid (show W.grownBy w3.drew none from gv u.out);have b1:=Lib.hid (b0.out.keep (gv (World.grownBy.refl w3 none)));go_upto_region 17 with fail
    go_region_held3 (λV=>(UA V df 0 1 2 3 (c k) ia/\UA V B (k*4) (k*4+1) (k*4+2) (k*4+3) (c k) (m k))/\VN V bH TK bf Y y fk bq M K)
     (first|with_reducible exact gO.out _ l.out|with_reducible exact gO.out _ a3.out)
     (first|(go_at_call 12;refine(a0.out _ l.out).mono ?_;rintro e bJ ⟨co,cg,rfl,bz,ag⟩;have a3:=Lib.hid (l.out.trans ag);have b2:=Lib.hid (b1.out.keep ag);have b3:=Lib.hid bz;clear bz ag))
    go_wp2_with (go_at_call 13;refine(Wy (A:=A) cn co r.eW vK cg bR.out bJ b2.out b3.out).mono ?_;rintro e R ⟨rfl,ag⟩;have al:=Lib.hid (a3.out.trans ag);clear ag)
    exact⟨⟨y+1,by omega,by push_cast;rfl,al.out⟩,by show 2-((y:Int)+1).toNat<2-(y:Int).toNat;omega⟩
   have ck:decide ((y:Int)<2)=false:=by rw[decide_eq_false_iff_not];omega
   have cl:decide (y<2)=false:=by simpa using aO
   have gO:=Lib.hid (λV g=>(bb.out V 0 g (by omega)).1);go_upto_region 20 with fail
   go_region_held3 (λV=>UA V df 0 1 2 3 (c k) ia/\UA V B (k*4) (k*4+1) (k*4+2) (k*4+3) (c k) (m k))
    (first|with_reducible exact gO.out _ l.out|with_reducible exact gO.out _ u.out)
    (first|(go_at_call 14;refine(Wx (A:=A) (c k) ia (m k) (by have:=G.out.F;omega) (by have:=G.out.R;omega) (by have:=G.out.h4;omega) (λi ad=>by have:=G.out.P i ad;omega) _ (bc.out _ l.out) (bd.out _ l.out)).mono ?_;rintro e w3 ⟨rfl,ag⟩;have u:=Lib.hid (l.out.trans ag);clear ag))
   go_wp2;exact⟨⟨k+1,g+1+1+1+1,by omega,by push_cast;rfl,by omega,b4.out.keep λb hb=>u.out.block b hb (by simp),aF.out _ (ay.out.trans (wE u.out (some T)))⟩,by show 3-((k:Int)+1).toNat<3-(k:Int).toNat;omega⟩
end
end Go.aO
