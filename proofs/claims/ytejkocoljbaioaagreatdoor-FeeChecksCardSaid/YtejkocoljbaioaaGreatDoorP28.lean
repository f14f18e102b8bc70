/- A part. -/
import Derived.Test.YtejkocoljbaioaaGreatDoorP27
import Derived.Laws.EntriesVeiled
import Derived.Deep.Cut
import Derived.Deep.CutRange
import Derived.Deep.RegionHeld3
import Derived.BigQuiet
set_option maxHeartbeats 8000000
set_option maxRecDepth 100000
set_option linter.all false
namespace Go.aO
open Go.Proofs Go.RowKit
variable{aP b e:Nat}{a7:Nat->Nat->Int}{g:Nat->dY}{aL w w':World}{d:World->Prop}{c:gE}{D:gd}{P:gl}
section
variable{A:Array Func}
structure kx(bf:World->Prop)(D:gd)(P:gl)(b:Nat)(left aP:Nat)(c:gE)(aL w:World):Prop where
 jq:e2 bf D P w
 ch:w.heap[b]?=some (.cells c.a 182)
 x:w.heap[aL.heap.size]?=some (.cells #[ah left,ah aP] 67)
 z:w.heap[aL.heap.size+1]?=some (.cells iK.a 146)
 fY:cp P.X aL w
 lt:aL.heap.size+2<=b
 old:P.T<aL.heap.size/\P.B<=aL.heap.size/\P.C<aL.heap.size/\P.fm<aL.heap.size/\P.gJ<aL.heap.size
def kx.fF{left:Nat}(h:kx d D P b left aP c aL w)(H:ky A d D P)(g:w.grownBy w' none):kx d D P b left aP c aL w':=
 ⟨h.jq.fF H.keep g,(g.block _ (bu h.ch) aF).trans h.ch,(g.block _ (bu h.x) aF).trans h.x,(g.block _ (bu h.z) aF).trans h.z,h.fY.step g aF,h.lt,h.old⟩
def kx.oV{f:World->Prop}{left:Nat}(h:kx f D P b left aP c aL w)(k:e2 f D P w')(g:cp P.X w w'):kx f D P b left aP c aL w':=by
 have j:=h.lt;have l:=h.old;have d:∀i,aL.heap.size<=i->¬P.X i:=λi o d=>by rcases d with rfl|rfl|rfl<;>omega
 exact⟨k,(g.block _ (bu h.ch) (d _ U)).trans h.ch,(g.block _ (bu h.x) (d _ U)).trans h.x,(g.block _ (bu h.z) (d _ U)).trans h.z,h.fY.trans g,h.lt,h.old⟩
def kx.put{left:Nat}{bp:gE}(h:kx d D P b left aP c aL w)(H:ky A d D P)(e:w'.heap[b]?=some (.cells bp.a 182))(g:w.grownBy w' (some b)):kx d D P b left aP bp aL w':=by
 have l:=h.lt;have o:=h.old;have f:∀i,i≠b->some i≠some b:=λi j e=>j (bD e)
 exact⟨h.jq.keep H.keep g (λr e=>by cases e;omega),e,(g.block _ (bu h.x) (f _ U)).trans h.x,(g.block _ (bu h.z) (f _ U)).trans h.z,h.fY.step g (λr e=>.inr (by cases e;omega)),h.lt,h.old⟩
def HU{left:Nat}(h:((aP:Int) == (e:Int))=false):gR a7 e g left aP 0=lT:=by rw[gR,if_neg (λc=>by subst c;simp at h)]
def HT{left:Nat}(h:((aP:Int) == (e:Int))=true):gR a7 e g left aP 0=lT.take ⟨a7 left aP,1,left,aP,-1⟩:=by rw[gR,if_pos (by rw[beq_iff_eq]at h;omega)]
def HZ[S:Std A][eY:jx A]{q:World->Prop}(H:ky A q D P)(left aP:Nat)(b2:left<=aP)(co:aP<=D.e)(a4:∀l,left<l->l<=D.e->rP A q D P l)(w:World)(h:e2 q D P w){M:Int->Int->Option Value}(bZ:ij w P.fm M)(b9:qw D M)(ba:M left aP=none):
 Calls (ao A) 84 #[.pointer (some ⟨P.C,0,none⟩),.agg #[ah left,ah aP]] w λe w'=>e=.returned (.tuple #[.agg (D.S' left aP).cu.a,.bool (D.S' left aP).some])/\e2 q D P w'/\cp P.X w w':=by
 obtain⟨f,K⟩:∃W,(w.alloc (.cells #[ah left,ah aP] 67)).alloc (.cells #[ah 0,ah 0,ah 0,ah 0,ah 0] 146)=W:=⟨_,rfl⟩
 have ak:w.grownBy f none:=by rw[<-K];exact bT.trans bT
 have s1:f.heap.size=w.heap.size+2:=by rw[<-K];simp
 have L:f.heap[w.heap.size]?=some (.cells #[ah left,ah aP] 67):=by rw[<-K,dm aF,fM]
 have p:f.heap[w.heap.size+1]?=some (.cells iK.a 146):=by rw[<-K,jA _ _ _ aF];rfl
 have Y:=h.fF H.keep ak;have bS:=al (h.fv H);have aT:f.cell? ⟨P.C,4,none⟩=some (.map (some P.fm)):=aU Y.c;have bj:f.cell? ⟨w.heap.size,0,none⟩=some (ah left):=aU L;have bk:f.cell? ⟨w.heap.size,1,none⟩=some (ah aP):=aU L;have aI:=bZ.keep ak aF;have ct:w.heap.size<f.heap.size:=U;have cu:w.heap.size+1<f.heap.size:=U;have cv:P.C<f.heap.size:=bu Y.c;have aL:∀w',ij w' P.fm M->Sem.run (ao A) (Instr.lookup 141 (.map (some P.fm)) (.agg #[ah left,ah aP]) true) w'=.ok (.tuple #[(M left aP).getD (.agg iK.a),.bool (M left aP).isSome]) w':=λw' am=>sy (ao.underlying119 A) (.inl rfl) yi am left aP true
 have aq:=aL f.drew (aI.keep (row:=none) (gv (e6 _ _)) aF);have ar:=aL (f.alloc (.cells #[ah 0,ah 0,ah 0,ah 0,ah 0] 146)).drew (aI.keep (row:=none) (gv bT) aF);have bl:f.cell? ⟨w.heap.size+1,0,none⟩=some (ah 0):=aU p;have bm:f.cell? ⟨w.heap.size+1,1,none⟩=some (ah 0):=aU p;have bn:f.cell? ⟨w.heap.size+1,2,none⟩=some (ah 0):=aU p;have bo:f.cell? ⟨w.heap.size+1,3,none⟩=some (ah 0):=aU p;have bp:f.cell? ⟨w.heap.size+1,4,none⟩=some (ah 0):=aU p;have z0:=b3 (o:=0) p;have bq:=b3 (o:=1) p;have bs:=b3 (o:=2) p;have z3:=b3 (o:=3) p;have z4:=b3 (o:=4) p;have bt:=al L;have bv:=al p;have bU:=al s1;have bC:=al Y;have bA:=al ak;have bG:=al a4;have g:=al H;have bK:=al K;clear h ak Y b9 a4 H s1 L p aL aI;rw[ba]at aq ar;replace aq:Sem.run (ao A) (Instr.lookup 141 (.map (some P.fm)) (.agg #[ah left,ah aP]) true) f.drew=.ok (.tuple #[.agg #[ah 0,ah 0,ah 0,ah 0,ah 0],.bool false]) f.drew:=aq;replace ar:Sem.run (ao A) (Instr.lookup 141 (.map (some P.fm)) (.agg #[ah left,ah aP]) true) (f.alloc (.cells #[ah 0,ah 0,ah 0,ah 0,ah 0] 146)).drew=.ok (.tuple #[.agg #[ah 0,ah 0,ah 0,ah 0,ah 0],.bool false]) (f.alloc (.cells #[ah 0,ah 0,ah 0,ah 0,ah 0] 146)).drew:=ar;clear ba;clear K;obtain⟨d,ap⟩:∃W,(f.alloc (.cells #[ah 0,ah 0,ah 0,ah 0,ah 0] 146)).drew=W:=⟨_,rfl⟩
 obtain⟨B,aa⟩:∃W,d.alloc (.cells #[.func (.func 82) #[] #[],ah 0,ah 0,ah 0,ah 0,ah 0,.bool false] 182)=W:=⟨_,rfl⟩
 have aV:f.grownBy d none:=by rw[<-ap];exact gv bT
 have s2:d.heap.size=w.heap.size+3:=by rw[<-ap,oL,cV,bU.out]
 have R:f.grownBy B none:=by rw[<-aa];exact aV.trans bT
 have bh:B.heap.size=w.heap.size+4:=by rw[<-aa,cV,s2]
 have cG:B.heap[d.heap.size]?=some (.cells lT.a 182):=by rw[<-aa,jA _ _ _ rfl];rfl
 have Z:=bC.out.fF g.out.keep R;have d0:B.cell? ⟨P.C,0,none⟩=some (.pointer (some ⟨P.T,0,none⟩)):=aU Z.c;have d1:B.cell? ⟨P.C,1,none⟩=some (ah D.kind):=aU Z.c;have ch:B.cell? ⟨w.heap.size,0,none⟩=some (ah left):=R.cell bj aF;have ci:B.cell? ⟨w.heap.size,1,none⟩=some (ah aP):=R.cell bk aF;have bH:=al (g.out.C3 B.drew (g.out.keep _ _ none Z.j (gv (e6 _ _)) aF) left aP b2 (by have:=g.out.e;omega));have kC:=al s2;have aD:=al bh;have bw:=al cG;have bE:=al Z;have aA:=al R;have bL:=al ap;have bM:=al aa;clear ap aa aV R s2 bh cG Z;go_enter eY.f85,Tryz.ntmps84;go_upto_region 1 with fail
 go_cut [6,7]from 12 to 20 (λce cf C=>ce=.pointer (some ⟨f.heap.size,0,none⟩)/\cf=.bool false/\C=d)
 case first=>
  rw[bK.out];go_region
  all_goals (go_wp2_with fail;go_meet;exact⟨rfl,rfl,bL.out⟩)
 case rest=>
 obtain⟨rfl,rfl,b6⟩:=hcut;obtain rfl:=b6.symm;go_upto_region 5 with fail
 go_cut [9]from 24 to 33 (λcg C=>cg=ah (D.a7 left aP)/\e2 q D P C/\B.grownBy C (some P.T))
 case first=>
  rw[bM.out];go_region_with (go_at_call 47;refine bH.out.mono ?_;rintro e cj ⟨rfl,bc,u⟩;have aG:B.grownBy cj (some P.T):=⟨u.os,u.tape,u.output,u.size,u.block⟩;have bF:=al (bE.out.wQ g.out.ok aG bc);have bB:=al aG;clear u aG bc)
  all_goals (go_wp2_with fail;go_meet;exact⟨rfl,bF.out,bB.out⟩)
 case rest=>
 obtain⟨rfl,aW,u⟩:=hcut;have aw:=g.out.ok.T;have fv:=bS.out;have az:∀b,w.heap.size<=b->some b≠some P.T:=λb cm e=>by have:=bD e;omega
 have ae:kx q D P d.heap.size left aP lT w wc:=⟨aW,(u.block _ (by rw[kC.out,aD.out];omega) (az _ (by rw[kC.out];omega))).trans bw.out,
  (u.block _ (by rw[aD.out];omega) (az _ U)).trans ((aA.out.block _ U aF).trans bt.out),(u.block _ (by rw[aD.out];omega) (az _ U)).trans ((aA.out.block _ U aF).trans bv.out),
  ((cp.jF bA.out).trans (cp.jF aA.out)).trans (cp.of u (λr e=>.inl (by cases e;rfl))),by rw[kC.out];omega,U⟩
 have r0:wc.cell? ⟨w.heap.size,0,none⟩=some (ah left):=aU ae.x;have r1:wc.cell? ⟨w.heap.size,1,none⟩=some (ah aP):=aU ae.x;have J:wc.cell? ⟨P.C,2,none⟩=some (ah D.e):=aU ae.jq.c;have aO:=al λc x w=>Cp (A:=A) d.heap.size c x w
 have aQ:=al ae;have a8:∀n,wc.grownBy (wc.drewN n) none:=hl wc;clear aw fv az ae aW u ch ci d0 d1 bl bm bn bo bp z0 bq bs z3 z4 aq ar aT bj bk;go_upto_region 6 with fail
 go_cut [40]from 34 to 39 (λcc C=>cc=.bool ((aP:Int) == (D.e:Int))/\kx q D P d.heap.size left aP lT w C)
 case first=>
  cases ad:((aP:Int) == (D.e:Int))
  all_goals (
   go_quiet (fail);go_wp2_with fail
   go_meet
   exact⟨by rw[ad],aQ.out.fF g.out (a8 _)⟩)
 case rest=>
 clear r0 r1 J a8 aQ;obtain⟨rfl,ay⟩:=hcut;have r0:wc.cell? ⟨w.heap.size,0,none⟩=some (ah left):=aU ay.x;have r1:wc.cell? ⟨w.heap.size,1,none⟩=some (ah aP):=aU ay.x;have aj:=al ay;clear ay;go_upto_if 40 with(fail)
 go_cut []from 40 to 44 (λC=>kx q D P d.heap.size left aP (gR D.a7 D.e D.S9 left aP 0) w C)
 case first=>
  cases ad:((aP:Int) == (D.e:Int))
  case false=>
   go_wp2;go_meet
   rw[HU ad];exact aj.out
  case true=>
   go_wp2_with (go_at_call 83;refine(aO.out lT ⟨D.a7 left aP,1,left,aP,-1⟩ wc aj.out.ch).mono ?_;rintro e z ⟨rfl,bV,T⟩)
   go_meet
   rw[HT ad];exact aj.out.put g.out bV T
 case rest=>
 clear r0 r1 aj;have r1:wc.cell? ⟨w.heap.size,1,none⟩=some (ah aP):=aU hcut.x;have bP:=al hcut;clear hcut;obtain⟨cnt,a1⟩:∃n,n=if aP<D.e then min D.e (aP+D.carry)+1-aP else 0:=⟨_,rfl⟩
 have ai:=al a1;clear a1;go_wp2;go_loopw [10] (λi wr=>∃h:Nat,i=ah h/\(aP<=h/\h<=aP+cnt)/\kx q D P d.heap.size left aP (gR D.a7 D.e D.S9 left aP (h-aP)) w wr) (λi _=>aP+cnt+1-(numOf i))
 case atStart=>exact⟨aP,rfl,⟨bg,U⟩,by rw[Nat.sub_self];exact bP.out⟩
 case round=>
  obtain⟨h,rfl,a5,br⟩:=hrel;have ca:wr.cell? ⟨w.heap.size,0,none⟩=some (ah left):=aU br.x;have q1:wr.cell? ⟨w.heap.size,1,none⟩=some (ah aP):=aU br.x;have cw:wr.cell? ⟨P.C,2,none⟩=some (ah D.e):=aU br.jq.c;have cx:wr.cell? ⟨P.C,3,none⟩=some (ah D.carry):=aU br.jq.c;have cl:=g.out.e;have cn:=g.out.carry;have cr:IntKind.i64.wrap ((aP:Int)+D.carry)=aP+D.carry:=IntWalk.i64_in _ U;have I:=al br;clear br;by_cases cq:h<aP+cnt
  .have au:aP<D.e:=by
    refine Classical.byContradiction λb5=>?_
    have:=ai.out;rw[if_neg b5]at this;omega
   have aZ:=ai.out;rw[if_pos au]at aZ;have t1:decide ((h:Int)<=min (D.e:Int) (aP+D.carry))=true:=cH;have t2:decide ((aP:Int)<D.e)=true:=cH;have b1:h<=D.e:=U;clear aZ;go_wp2;by_cases av:left=aP/\h=aP
   .have s1:((left:Int) == (h:Int))=true:=cH
    have s2:((aP:Int) == (h:Int))=true:=cH;have aC:=al av;clear av;go_wp2;go_quiet (fail);go_wp2;go_roundw
    case rel=>
     obtain⟨r1,cy⟩:=aC.out;exact⟨h+1,by go_num,U,by rw[show h+1-aP=0+1 by omega,HV ⟨r1,rfl⟩,show 0=h-aP by omega];exact I.out.fF g.out (hl _ _)⟩
    case measure=>simp[numOf];omega
   .have s1:(((left:Int) == (h:Int)) && ((aP:Int) == (h:Int)))=false:=by
     cases Q:((left:Int) == (h:Int))
     .rfl
     .cases J:((aP:Int) == (h:Int))
      .rfl
      .rw[beq_iff_eq]at Q J
       omega
    have b4:left<h:=U;have aC:=al av;clear av;go_wp2;go_quiet (fail);go_wp2_with (go_at_call 68;refine(bG.out h b4 b1 (wr.drewN nq) (I.out.fF g.out (hl _ _)).jq).mono ?_;rintro e z ⟨rfl,aX,T⟩)
    have G:=((I.out.fF g.out (hl wr nq)).oV aX T).fF g.out (gv (dU z (.cells (D.S9 h).a 146) none));have b0:lq 120 (D.S9 h):=H4 (carry:=D.carry) g.out.hL g.out.e h;have ad:=g.out.hL left aP;have a0:(z.alloc (.cells (D.S9 h).a 146)).drew.cell? ⟨z.heap.size,0,none⟩=some (ah (D.S9 h).cost):=dR rfl;have aR:(z.alloc (.cells (D.S9 h).a 146)).drew.cell? ⟨z.heap.size,1,none⟩=some (ah (D.S9 h).eW):=dR rfl;have aS:(z.alloc (.cells (D.S9 h).a 146)).drew.cell? ⟨w.heap.size,0,none⟩=some (ah left):=aU G.x;have a3:(z.alloc (.cells (D.S9 h).a 146)).drew.cell? ⟨w.heap.size,1,none⟩=some (ah aP):=aU G.x;have aw:=aO.out (gR D.a7 D.e D.S9 left aP (h-aP)) ⟨D.a7 left aP+(D.S9 h).cost,(D.S9 h).eW+1,left,aP,h⟩ _ G.ch;have a6:z.heap.size≠d.heap.size:=by have Y:=bu ((T.block d.heap.size (bu I.out.ch) (λb8=>by have:=G.old;have:=G.lt;rcases b8 with e|e|e<;>omega)).trans I.out.ch);omega
    have a7:w.heap.size≠d.heap.size:=by have:=G.lt;omega
    have bO:=al G;clear G aX T;obtain⟨L,p,cG,ck⟩:=b0;have hp:=ER (F:=A) (z.alloc (.cells (D.S9 h).a 146)).drew (D.a7 left aP) (D.S9 h).cost U U;have bJ:=al aw;have bI:=al hp;clear aw hp;have bz:=al (show gR D.a7 D.e D.S9 left aP (h+1-aP)=(gR D.a7 D.e D.S9 left aP (h-aP)).take ⟨D.a7 left aP+(D.S9 h).cost,(D.S9 h).eW+1,left,aP,h⟩ by rw[show h+1-aP=(h-aP)+1 by omega,HW (λa5=>aC.out ⟨a5.1,U⟩),show aP+(h-aP)=h by omega])
    generalize D.S9 h=af at *;have cs:IntKind.i64.wrap (af.eW+1)=af.eW+1:=IntWalk.i64_in _ U;go_region_held3 (λw'=>w'.cell? ⟨z.heap.size,0,none⟩=some (ah af.cost)/\w'.cell? ⟨z.heap.size,1,none⟩=some (ah af.eW)/\w'.cell? ⟨w.heap.size,0,none⟩=some (ah left)/\w'.cell? ⟨w.heap.size,1,none⟩=some (ah aP))
     (first|exact⟨a0,aR,aS,a3⟩|exact⟨bx,bW,bX,c3⟩)
     (first|(go_at_call 48;refine(oT _ _).mono ?_;rintro e w' ⟨rfl,rfl⟩)|(go_at_call 75;refine bI.out.mono ?_;rintro e w' ⟨rfl,rfl⟩)|(go_at_call 83;refine bJ.out.mono ?_;rintro e cA ⟨rfl,cb,V⟩;have bx:=V.cell a0 (λe=>a6 (bD e));have bW:=V.cell aR (λe=>a6 (bD e));have bX:=V.cell aS (λe=>a7 (bD e));have c3:=V.cell a3 (λe=>a7 (bD e))))
    go_wp2;go_roundw
    case rel=>exact⟨h+1,by go_num,U,by rw[bz.out];exact bO.out.put g.out cb V⟩
    case measure=>simp[numOf];omega
  .obtain rfl:h=aP+cnt:=U
   have a2:gR D.a7 D.e D.S9 left aP (aP+cnt-aP)=D.S' left aP:=by show _=fq D.a7 D.e D.carry left aP;rw[fq,oC,<-ai.out,Nat.add_sub_cancel_left]
   have br:=I.out;rw[a2]at br;have aB:=al br;have aK:decide (((aP+cnt:Nat):Int)<=min (D.e:Int) (aP+D.carry))=false\/(decide (((aP+cnt:Nat):Int)<=min (D.e:Int) (aP+D.carry))=true/\decide (aP<D.e)=false):=by
    have:=ai.out;by_cases au:aP<D.e
    .rw[if_pos au]at this
     left;simp;omega
    .rw[if_neg au]at this
     right;simp;omega
   clear a2 br I;generalize aP+cnt=h at *;have bi:∀n,(wr.drewN n).cell? ⟨d.heap.size,6,none⟩=some (.bool (D.S' left aP).some):=λn=>aU aB.out.ch
   rcases aK with t1|⟨t1,t2⟩
   all_goals (
    go_wp2;go_quiet (fail);generalize hW:wr.drewN nq=W at *;have j:kx q D P d.heap.size left aP (D.S' left aP) w W:=by rw[<-hW];exact aB.out.fF g.out (hl _ _)
    have bi:W.cell? ⟨d.heap.size,6,none⟩=some (.bool (D.S' left aP).some):=aU j.ch;have bQ:=al j;clear j hW aB;obtain⟨c,aJ⟩:∃c,D.S' left aP=c:=⟨_,rfl⟩
    have ag:=al aJ;rw[aJ]at bi;clear aJ;go_upto_if 93 with(fail)
    go_cut []from 93 to 100 (λC=>kx q D P d.heap.size left aP c w C)
    case first=>
     have j:=bQ.out;rw[ag.out]at j;cases aK:c.some
     .go_wp2
      go_meet
      exact j
     .have aT:W.cell? ⟨P.C,4,none⟩=some (.map (some P.fm)):=aU j.jq.c
      have ca:W.cell? ⟨w.heap.size,0,none⟩=some (ah left):=aU j.x;have q1:W.cell? ⟨w.heap.size,1,none⟩=some (ah aP):=aU j.x;have v1:W.cell? ⟨d.heap.size,1,none⟩=some (ah c.cu.cost):=aU j.ch;have v2:W.cell? ⟨d.heap.size,2,none⟩=some (ah c.cu.eW):=aU j.ch;have v3:W.cell? ⟨d.heap.size,3,none⟩=some (ah c.cu.left):=aU j.ch;have v4:W.cell? ⟨d.heap.size,4,none⟩=some (ah c.cu.aP):=aU j.ch;have v5:W.cell? ⟨d.heap.size,5,none⟩=some (ah c.cu.next):=aU j.ch;obtain⟨b7,am,bf⟩:=j.jq.f;have aY:ij W.drew P.fm b7:=am.keep (row:=none) (gv (e6 _ _)) aF;obtain⟨aN,a9,bd,E,z9⟩:=Dx (ao.underlying119 A) (.inl rfl) aY (left:Int) (aP:Int) (.agg c.cu.a);replace a9:Sem.run (ao A) (Instr.mapUpdate 141 (.map (some P.fm)) (.agg #[ah left,ah aP]) (.agg #[ah c.cu.cost,ah c.cu.eW,ah c.cu.left,ah c.cu.aP,ah c.cu.next])) W.drew=.ok () aN:=a9;have aH:W.grownBy aN (some P.fm):=⟨E.os,E.tape,E.output,E.size,E.block⟩
      have bb:kx q D P d.heap.size left aP c w aN:=j.oV (j.jq.NB g.out.ok g.out.keep aH ⟨_,bd,by have:=bf.put left aP (by rw[ag.out];exact aK);rw[ag.out]at this;exact this⟩) (cp.of aH (λr e=>.inr (.inl (by cases e;rfl))))
      have bR:=al bb;clear bb aH bd E z9 aY am bf j;go_wp2;go_region
      all_goals (go_wp2_with fail;go_meet;exact bR.out)
    case rest=>
    have v1:wc.cell? ⟨d.heap.size,1,none⟩=some (ah c.cu.cost):=aU hcut.ch;have v2:wc.cell? ⟨d.heap.size,2,none⟩=some (ah c.cu.eW):=aU hcut.ch;have v3:wc.cell? ⟨d.heap.size,3,none⟩=some (ah c.cu.left):=aU hcut.ch;have v4:wc.cell? ⟨d.heap.size,4,none⟩=some (ah c.cu.aP):=aU hcut.ch;have v5:wc.cell? ⟨d.heap.size,5,none⟩=some (ah c.cu.next):=aU hcut.ch;have cz:wc.cell? ⟨d.heap.size,6,none⟩=some (.bool c.some):=aU hcut.ch;have bl:wc.cell? ⟨w.heap.size+1,0,none⟩=some (ah 0):=aU hcut.z;have bm:wc.cell? ⟨w.heap.size+1,1,none⟩=some (ah 0):=aU hcut.z;have bn:wc.cell? ⟨w.heap.size+1,2,none⟩=some (ah 0):=aU hcut.z;have bo:wc.cell? ⟨w.heap.size+1,3,none⟩=some (ah 0):=aU hcut.z;have bp:wc.cell? ⟨w.heap.size+1,4,none⟩=some (ah 0):=aU hcut.z;have z0:=b3 (o:=0) hcut.z;have bq:=b3 (o:=1) hcut.z;have bs:=b3 (o:=2) hcut.z;have z3:=b3 (o:=3) hcut.z;have z4:=b3 (o:=4) hcut.z;have bN:=al hcut;clear hcut;go_wp2;go_region
    all_goals (
     go_wp2;have ax:=bN.out;obtain⟨Q,J,bY⟩:=xq (w:=w) (b:=w.heap.size+1) (W:=wc) (c:=iK.a) c.cu rfl ax.z U (X:=P.X) ax.fY;have aM:=ax.jq.keep g.out.keep bY (λb e=>by have:=ax.old;cases e;omega);revert Q J aM;generalize ((((wc.setCell ⟨w.heap.size+1,0,none⟩ (ah c.cu.cost)).setCell ⟨w.heap.size+1,1,none⟩ (ah c.cu.eW)).setCell ⟨w.heap.size+1,2,none⟩ (ah c.cu.left)).setCell ⟨w.heap.size+1,3,none⟩ (ah c.cu.aP)).setCell ⟨w.heap.size+1,4,none⟩ (ah c.cu.next)=aE;intro Q J aM;have E:aE.grownBy aE.drew none:=gv (e6 _ _);refine bodyPost_ret (Fc rfl _ _ (w.heap.size+1) 146 c.cu.a (0,0) _ rfl (show aE.drew.heap[w.heap.size+1]?=some (.cells c.cu.a 146 (0,0))from Q) (ao.underlying124 A) rfl xI _ rfl) rfl ?_;exact⟨by rw[ag.out];rfl,aM.fF g.out.keep E,J.trans (cp.jF E)⟩))
def HX[S:Std A][eY:jx A]{c:World->Prop}(H:ky A c D P)(left aP:Nat)(i:left<=aP)(f:aP<=D.e)(g:∀l,left<l->l<=D.e->rP A c D P l)(w:World)(h:e2 c D P w):
 Calls (ao A) 84 #[.pointer (some ⟨P.C,0,none⟩),.agg #[ah left,ah aP]] w λe w'=>e=.returned (.tuple #[.agg (D.S' left aP).cu.a,.bool (D.S' left aP).some])/\e2 c D P w'/\cp P.X w w':=by
 obtain⟨M,d,o⟩:=h.f;cases j:M left aP with
 |some v=>exact HY H left aP i f g w h d o j
 |none=>exact HZ H left aP i f g w h d o j
end
end Go.aO
