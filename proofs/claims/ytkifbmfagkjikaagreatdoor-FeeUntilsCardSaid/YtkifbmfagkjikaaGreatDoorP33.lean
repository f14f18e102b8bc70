/- A part; no conditions. -/
import Derived.Test.YtkifbmfagkjikaaGreatDoorP32
import Derived.Laws.EntriesVeiled
import Derived.Deep.Cut
import Derived.Deep.CutRange
import Derived.Deep.RegionHeld3
import Derived.BigQuiet
set_option maxHeartbeats 8000000
set_option maxRecDepth 100000
set_option linter.all false
namespace Go.aO
open Go.Proofs Go.RowKit
variable{aP b e:Nat}{a7:Nat->Nat->Int}{g:Nat->dY}{aL w w':World}{d:World->Prop}{c:gE}{D:gd}{P:gl}
section
variable{A:Array Func}
structure kx(bf:World->Prop)(D:gd)(P:gl)(b:Nat)(left aP:Nat)(c:gE)(aL w:World):Prop where
 jq:e2 bf D P w
 ch:w.heap[b]?=some (.cells c.a 174)
 x:w.heap[aL.heap.size]?=some (.cells #[.int .i64 left,.int .i64 aP] 62)
 z:w.heap[aL.heap.size+1]?=some (.cells iK.a 135)
 fY:cp P.X aL w
 lt:aL.heap.size+2<=b
 old:P.T<aL.heap.size/\P.B<=aL.heap.size/\P.C<aL.heap.size/\P.fm<aL.heap.size/\P.gJ<aL.heap.size
def kx.fF{left:Nat}(h:kx d D P b left aP c aL w)(H:ky A d D P)(g:w.grownBy w' none):kx d D P b left aP c aL w':=
 ⟨h.jq.fF H.keep g,(g.block _ (bu h.ch) aF).trans h.ch,(g.block _ (bu h.x) aF).trans h.x,(g.block _ (bu h.z) aF).trans h.z,h.fY.step g aF,h.lt,h.old⟩
def kx.oV{f:World->Prop}{left:Nat}(h:kx f D P b left aP c aL w)(k:e2 f D P w')(g:cp P.X w w'):kx f D P b left aP c aL w':=by
 have j:=h.lt;have l:=h.old;have d:∀i,aL.heap.size<=i->¬P.X i:=λi m d=>by rcases d with rfl|rfl|rfl<;>omega
 exact⟨k,(g.block _ (bu h.ch) (d _ U)).trans h.ch,(g.block _ (bu h.x) (d _ U)).trans h.x,(g.block _ (bu h.z) (d _ U)).trans h.z,h.fY.trans g,h.lt,h.old⟩
def kx.put{left:Nat}{bp:gE}(h:kx d D P b left aP c aL w)(H:ky A d D P)(e:w'.heap[b]?=some (.cells bp.a 174))(g:w.grownBy w' (some b)):kx d D P b left aP bp aL w':=by
 have l:=h.lt;have m:=h.old;have f:∀i,i≠b->some i≠some b:=λi j e=>j (bD e)
 exact⟨h.jq.keep H.keep g (λr e=>by cases e;omega),e,(g.block _ (bu h.x) (f _ U)).trans h.x,(g.block _ (bu h.z) (f _ U)).trans h.z,h.fY.step g (λr e=>.inr (by cases e;omega)),h.lt,h.old⟩
def HU{left:Nat}(h:((aP:Int) == (e:Int))=false):gR a7 e g left aP 0=lT:=by rw[gR,if_neg (λc=>by subst c;simp at h)]
def HT{left:Nat}(h:((aP:Int) == (e:Int))=true):gR a7 e g left aP 0=lT.take ⟨a7 left aP,1,left,aP,-1⟩:=by rw[gR,if_pos (by rw[beq_iff_eq]at h;omega)]
def HZ[S:Std A][eY:jx A]{p:World->Prop}(H:ky A p D P)(left aP:Nat)(b0:left<=aP)(cr:aP<=D.e)(aZ:∀l,left<l->l<=D.e->rP A p D P l)(w:World)(h:e2 p D P w){M:Int->Int->Option Value}(bX:ij w P.fm M)(bb:qw D M)(a7:M left aP=none):
 Calls (ao A) 71 #[.pointer (some ⟨P.C,0,none⟩),.agg #[.int .i64 left,.int .i64 aP]] w λe w'=>e=.returned (.tuple #[.agg (fq D.a7 D.e D.carry left aP).cu.a,.bool (fq D.a7 D.e D.carry left aP).some])/\e2 p D P w'/\cp P.X w w':=by
 obtain⟨f,I⟩:∃W,(w.alloc (.cells #[.int .i64 left,.int .i64 aP] 62)).alloc (.cells #[.int .i64 0,.int .i64 0,.int .i64 0,.int .i64 0,.int .i64 0] 135)=W:=⟨_,rfl⟩
 have ah:w.grownBy f none:=by rw[<-I];exact bT.trans bT
 have s1:f.heap.size=w.heap.size+2:=by rw[<-I];simp
 have K:f.heap[w.heap.size]?=some (.cells #[.int .i64 left,.int .i64 aP] 62):=by rw[<-I,dm aF,fM]
 have m:f.heap[w.heap.size+1]?=some (.cells iK.a 135):=by rw[<-I,jA _ _ _ aF];rfl
 have V:=h.fF H.keep ah;have bQ:=al (h.fv H);have aQ:f.cell? ⟨P.C,4,none⟩=some (.map (some P.fm)):=aU V.c;have bh:f.cell? ⟨w.heap.size,0,none⟩=some (.int .i64 left):=aU K;have bi:f.cell? ⟨w.heap.size,1,none⟩=some (.int .i64 aP):=aU K;have ai:=bX.keep ah aF;have cw:w.heap.size<f.heap.size:=U;have cx:w.heap.size+1<f.heap.size:=U;have cy:P.C<f.heap.size:=bu V.c;have aq:∀w',ij w' P.fm M->Sem.run (ao A) (Instr.lookup 130 (.map (some P.fm)) (.agg #[.int .i64 left,.int .i64 aP]) true) w'=.ok (.tuple #[(M left aP).getD (.agg iK.a),.bool (M left aP).isSome]) w':=λw' aj=>sy (ao.underlying119 A) (.inl rfl) yi aj left aP true
 have am:=aq f.drew (ai.keep (row:=none) (gv (e6 _ _)) aF);have ap:=aq (f.alloc (.cells #[.int .i64 0,.int .i64 0,.int .i64 0,.int .i64 0,.int .i64 0] 135)).drew (ai.keep (row:=none) (gv bT) aF);have bj:f.cell? ⟨w.heap.size+1,0,none⟩=some (.int .i64 0):=aU m;have bk:f.cell? ⟨w.heap.size+1,1,none⟩=some (.int .i64 0):=aU m;have bl:f.cell? ⟨w.heap.size+1,2,none⟩=some (.int .i64 0):=aU m;have bm:f.cell? ⟨w.heap.size+1,3,none⟩=some (.int .i64 0):=aU m;have bn:f.cell? ⟨w.heap.size+1,4,none⟩=some (.int .i64 0):=aU m;have z0:=b3 (o:=0) m;have bo:=b3 (o:=1) m;have bp:=b3 (o:=2) m;have z3:=b3 (o:=3) m;have z4:=b3 (o:=4) m;have cj:=al aq;have bq:=al K;have bs:=al m;have bR:=al s1;have bA:=al V;have bw:=al ah;have cl:=al bb;have ck:=al ai;have bE:=al aZ;have g:=al H;have bI:=al I;clear h ah V bb aZ H s1 K m aq ai;rw[a7]at am ap;replace am:Sem.run (ao A) (Instr.lookup 130 (.map (some P.fm)) (.agg #[.int .i64 left,.int .i64 aP]) true) f.drew=.ok (.tuple #[.agg #[.int .i64 0,.int .i64 0,.int .i64 0,.int .i64 0,.int .i64 0],.bool false]) f.drew:=am;replace ap:Sem.run (ao A) (Instr.lookup 130 (.map (some P.fm)) (.agg #[.int .i64 left,.int .i64 aP]) true) (f.alloc (.cells #[.int .i64 0,.int .i64 0,.int .i64 0,.int .i64 0,.int .i64 0] 135)).drew=.ok (.tuple #[.agg #[.int .i64 0,.int .i64 0,.int .i64 0,.int .i64 0,.int .i64 0],.bool false]) (f.alloc (.cells #[.int .i64 0,.int .i64 0,.int .i64 0,.int .i64 0,.int .i64 0] 135)).drew:=ap;clear a7;clear I;obtain⟨d,ak⟩:∃W,(f.alloc (.cells #[.int .i64 0,.int .i64 0,.int .i64 0,.int .i64 0,.int .i64 0] 135)).drew=W:=⟨_,rfl⟩
 obtain⟨y,Z⟩:∃W,d.alloc (.cells #[.func (.func 69) #[] #[],.int .i64 0,.int .i64 0,.int .i64 0,.int .i64 0,.int .i64 0,.bool false] 174)=W:=⟨_,rfl⟩
 have aR:f.grownBy d none:=by rw[<-ak];exact gv bT
 have s2:d.heap.size=w.heap.size+3:=by rw[<-ak,oL,cV,bR.out]
 have Q:f.grownBy y none:=by rw[<-Z];exact aR.trans bT
 have bd:y.heap.size=w.heap.size+4:=by rw[<-Z,cV,s2]
 have cG:y.heap[d.heap.size]?=some (.cells lT.a 174):=by rw[<-Z,jA _ _ _ rfl];rfl
 have Y:=bA.out.fF g.out.keep Q;have d0:y.cell? ⟨P.C,0,none⟩=some (.pointer (some ⟨P.T,0,none⟩)):=aU Y.c;have d1:y.cell? ⟨P.C,1,none⟩=some (.int .i64 D.kind):=aU Y.c;have cg:y.cell? ⟨w.heap.size,0,none⟩=some (.int .i64 left):=Q.cell bh aF;have ch:y.cell? ⟨w.heap.size,1,none⟩=some (.int .i64 aP):=Q.cell bi aF;have bF:=al (g.out.C3 y.drew (g.out.keep _ _ none Y.j (gv (e6 _ _)) aF) left aP b0 (by have:=g.out.e;omega));have kC:=al s2;have aC:=al bd;have bt:=al cG;have bB:=al Y;have az:=al Q;have bJ:=al ak;have bK:=al Z;clear ak Z aR Q s2 bd cG Y;go_enter eY.f85,Tryz.ntmps71;go_upto_region 1 with fail
 go_cut [6,7]from 12 to 20 (λcc ce z=>cc=.pointer (some ⟨f.heap.size,0,none⟩)/\ce=.bool false/\z=d)
 case first=>
  rw[bI.out];go_region
  all_goals (go_wp2_with fail;go_meet;exact⟨rfl,rfl,bJ.out⟩)
 case rest=>
 obtain⟨rfl,rfl,b5⟩:=hcut;obtain rfl:=b5.symm;go_upto_region 5 with fail
 go_cut [9]from 24 to 33 (λcf z=>cf=.int .i64 (D.a7 left aP)/\e2 p D P z/\y.grownBy z (some P.T))
 case first=>
  rw[bK.out];go_region_with (go_at_call 32;refine bF.out.mono ?_;rintro e ci ⟨rfl,a9,q⟩;have aE:y.grownBy ci (some P.T):=⟨q.os,q.tape,q.output,q.size,q.block⟩;have bC:=al (bB.out.wQ g.out.ok aE a9);have bz:=al aE;clear q aE a9)
  all_goals (go_wp2_with fail;go_meet;exact⟨rfl,bC.out,bz.out⟩)
 case rest=>
 obtain⟨rfl,aS,q⟩:=hcut;have av:=g.out.ok.T;have fv:=bQ.out;have ay:∀b,w.heap.size<=b->some b≠some P.T:=λb co e=>by have:=bD e;omega
 have J:kx p D P d.heap.size left aP lT w wc:=⟨aS,(q.block _ (by rw[kC.out,aC.out];omega) (ay _ (by rw[kC.out];omega))).trans bt.out,
  (q.block _ (by rw[aC.out];omega) (ay _ U)).trans ((az.out.block _ U aF).trans bq.out),(q.block _ (by rw[aC.out];omega) (ay _ U)).trans ((az.out.block _ U aF).trans bs.out),
  ((cp.jF bw.out).trans (cp.jF az.out)).trans (cp.of q (λr e=>.inl (by cases e;rfl))),by rw[kC.out];omega,U⟩
 have r0:wc.cell? ⟨w.heap.size,0,none⟩=some (.int .i64 left):=aU J.x;have r1:wc.cell? ⟨w.heap.size,1,none⟩=some (.int .i64 aP):=aU J.x;have G:wc.cell? ⟨P.C,2,none⟩=some (.int .i64 D.e):=aU J.jq.c;have b8:d.heap.size<wc.heap.size:=bu J.ch;have aL:=al λc x w=>Cp (A:=A) d.heap.size c x w
 have aM:=al J;have a5:∀n,wc.grownBy (wc.drewN n) none:=hl wc;clear av fv ay J aS q cg ch d0 d1 bj bk bl bm bn z0 bo bp z3 z4 am ap aQ bh bi;go_upto_region 6 with fail
 go_cut [40]from 34 to 39 (λcb z=>cb=.bool ((aP:Int) == (D.e:Int))/\kx p D P d.heap.size left aP lT w z)
 case first=>
  cases aa:((aP:Int) == (D.e:Int))
  all_goals (
   go_quiet (fail);go_wp2_with fail
   go_meet
   exact⟨by rw[aa],aM.out.fF g.out (a5 _)⟩)
 case rest=>
 clear r0 r1 G b8 a5 aM;obtain⟨rfl,ax⟩:=hcut;have r0:wc.cell? ⟨w.heap.size,0,none⟩=some (.int .i64 left):=aU ax.x;have r1:wc.cell? ⟨w.heap.size,1,none⟩=some (.int .i64 aP):=aU ax.x;have ag:=al ax;clear ax;go_upto_if 40 with(fail)
 go_cut []from 40 to 44 (λz=>kx p D P d.heap.size left aP (gR D.a7 D.e (b2 D.a7 D.e D.carry) left aP 0) w z)
 case first=>
  cases aa:((aP:Int) == (D.e:Int))
  case false=>
   go_wp2;go_meet
   rw[HU aa];exact ag.out
  case true=>
   go_wp2_with (go_at_call 70;refine(aL.out lT ⟨D.a7 left aP,1,left,aP,-1⟩ wc ag.out.ch).mono ?_;rintro e u ⟨rfl,bS,R⟩)
   go_meet
   rw[HT aa];exact ag.out.put g.out bS R
 case rest=>
 clear r0 r1 ag;have r1:wc.cell? ⟨w.heap.size,1,none⟩=some (.int .i64 aP):=aU hcut.x;have bN:=al hcut;clear hcut;obtain⟨cnt,aX⟩:∃n,n=if aP<D.e then min D.e (aP+D.carry)+1-aP else 0:=⟨_,rfl⟩
 have af:=al aX;clear aX;go_wp2;go_loopw [10] (λi wr=>∃h:Nat,i=.int .i64 h/\(aP<=h/\h<=aP+cnt)/\kx p D P d.heap.size left aP (gR D.a7 D.e (b2 D.a7 D.e D.carry) left aP (h-aP)) w wr) (λi _=>aP+cnt+1-(numOf i))
 case atStart=>exact⟨aP,rfl,⟨bg,U⟩,by rw[Nat.sub_self];exact bN.out⟩
 case round=>
  obtain⟨h,rfl,a1,br⟩:=hrel;have b9:wr.cell? ⟨w.heap.size,0,none⟩=some (.int .i64 left):=aU br.x;have q1:wr.cell? ⟨w.heap.size,1,none⟩=some (.int .i64 aP):=aU br.x;have cz:wr.cell? ⟨P.C,2,none⟩=some (.int .i64 D.e):=aU br.jq.c;have cA:wr.cell? ⟨P.C,3,none⟩=some (.int .i64 D.carry):=aU br.jq.c;have cn:=g.out.e;have cq:=g.out.carry;have cu:IntKind.i64.wrap ((aP:Int)+D.carry)=aP+D.carry:=IntWalk.i64_in _ U;have E:=al br;clear br;by_cases cs:h<aP+cnt
  .have ar:aP<D.e:=by
    refine Classical.byContradiction λb4=>?_
    have:=af.out;rw[if_neg b4]at this;omega
   have aW:=af.out;rw[if_pos ar]at aW;have t1:decide ((h:Int)<=min (D.e:Int) (aP+D.carry))=true:=cH;have t2:decide ((aP:Int)<D.e)=true:=cH;have bZ:h<=D.e:=U;clear aW;go_wp2;by_cases au:left=aP/\h=aP
   .have s1:((left:Int) == (h:Int))=true:=cH
    have s2:((aP:Int) == (h:Int))=true:=cH;have aB:=al au;clear au;go_wp2;go_quiet (fail);go_wp2;go_roundw
    case rel=>
     obtain⟨r1,cB⟩:=aB.out;exact⟨h+1,by go_num,U,by rw[show h+1-aP=0+1 by omega,HV ⟨r1,rfl⟩,show 0=h-aP by omega];exact E.out.fF g.out (hl _ _)⟩
    case measure=>simp[numOf];omega
   .have s1:(((left:Int) == (h:Int)) && ((aP:Int) == (h:Int)))=false:=by
     cases L:((left:Int) == (h:Int))
     .rfl
     .cases G:((aP:Int) == (h:Int))
      .rfl
      .rw[beq_iff_eq]at L G
       omega
    have b1:left<h:=U;have aB:=al au;clear au;go_wp2;go_quiet (fail);go_wp2_with (go_at_call 50;refine(bE.out h b1 bZ (wr.drewN nq) (E.out.fF g.out (hl _ _)).jq).mono ?_;rintro e u ⟨rfl,aT,R⟩)
    have C:=((E.out.fF g.out (hl wr nq)).oV aT R).fF g.out (gv (dU u (.cells (b2 D.a7 D.e D.carry h).a 135) none));have bY:=H4 (carry:=D.carry) g.out.hL g.out.e h;have aa:=g.out.hL left aP;have a0:(u.alloc (.cells (b2 D.a7 D.e D.carry h).a 135)).drew.cell? ⟨u.heap.size,0,none⟩=some (.int .i64 (b2 D.a7 D.e D.carry h).cost):=dR rfl;have aN:(u.alloc (.cells (b2 D.a7 D.e D.carry h).a 135)).drew.cell? ⟨u.heap.size,1,none⟩=some (.int .i64 (b2 D.a7 D.e D.carry h).eW):=dR rfl;have aO:(u.alloc (.cells (b2 D.a7 D.e D.carry h).a 135)).drew.cell? ⟨w.heap.size,0,none⟩=some (.int .i64 left):=aU C.x;have a3:(u.alloc (.cells (b2 D.a7 D.e D.carry h).a 135)).drew.cell? ⟨w.heap.size,1,none⟩=some (.int .i64 aP):=aU C.x;have av:=aL.out (gR D.a7 D.e (b2 D.a7 D.e D.carry) left aP (h-aP)) ⟨D.a7 left aP+(b2 D.a7 D.e D.carry h).cost,(b2 D.a7 D.e D.carry h).eW+1,left,aP,h⟩ _ C.ch;have a2:u.heap.size≠d.heap.size:=by have V:=bu ((R.block d.heap.size (bu E.out.ch) (λb6=>by have:=C.old;have:=C.lt;rcases b6 with e|e|e<;>omega)).trans E.out.ch);omega
    have a4:w.heap.size≠d.heap.size:=by have:=C.lt;omega
    have bM:=al C;clear C aT R;obtain⟨K,m,cG,cm⟩:=bY;have hp:=ER (F:=A) (u.alloc (.cells (b2 D.a7 D.e D.carry h).a 135)).drew (D.a7 left aP) (b2 D.a7 D.e D.carry h).cost U U;have bH:=al av;have bG:=al hp;clear av hp;have bv:=al (show gR D.a7 D.e (b2 D.a7 D.e D.carry) left aP (h+1-aP)=(gR D.a7 D.e (b2 D.a7 D.e D.carry) left aP (h-aP)).take ⟨D.a7 left aP+(b2 D.a7 D.e D.carry h).cost,(b2 D.a7 D.e D.carry h).eW+1,left,aP,h⟩ by rw[show h+1-aP=(h-aP)+1 by omega,HW (λa1=>aB.out ⟨a1.1,U⟩),show aP+(h-aP)=h by omega])
    generalize b2 D.a7 D.e D.carry h=ad at *;have cv:IntKind.i64.wrap (ad.eW+1)=ad.eW+1:=IntWalk.i64_in _ U;go_region_held3 (λw'=>w'.cell? ⟨u.heap.size,0,none⟩=some (.int .i64 ad.cost)/\w'.cell? ⟨u.heap.size,1,none⟩=some (.int .i64 ad.eW)/\w'.cell? ⟨w.heap.size,0,none⟩=some (.int .i64 left)/\w'.cell? ⟨w.heap.size,1,none⟩=some (.int .i64 aP))
     (first|exact⟨a0,aN,aO,a3⟩|exact⟨bx,bU,bV,c3⟩)
     (first|(go_at_call 33;refine(oT _ _).mono ?_;rintro e w' ⟨rfl,rfl⟩)|(go_at_call 60;refine bG.out.mono ?_;rintro e w' ⟨rfl,rfl⟩)|(go_at_call 70;refine bH.out.mono ?_;rintro e cD ⟨rfl,ca,T⟩;have bx:=T.cell a0 (λe=>a2 (bD e));have bU:=T.cell aN (λe=>a2 (bD e));have bV:=T.cell aO (λe=>a4 (bD e));have c3:=T.cell a3 (λe=>a4 (bD e))))
    go_wp2;go_roundw
    case rel=>exact⟨h+1,by go_num,U,by rw[bv.out];exact bM.out.put g.out ca T⟩
    case measure=>simp[numOf];omega
  .obtain rfl:h=aP+cnt:=U
   have aY:gR D.a7 D.e (b2 D.a7 D.e D.carry) left aP (aP+cnt-aP)=fq D.a7 D.e D.carry left aP:=by rw[fq,oC,<-af.out,Nat.add_sub_cancel_left]
   have br:=E.out;rw[aY]at br;have aA:=al br;have aI:decide (((aP+cnt:Nat):Int)<=min (D.e:Int) (aP+D.carry))=false\/(decide (((aP+cnt:Nat):Int)<=min (D.e:Int) (aP+D.carry))=true/\decide (aP<D.e)=false):=by
    have:=af.out;by_cases ar:aP<D.e
    .rw[if_pos ar]at this
     left;simp;omega
    .rw[if_neg ar]at this
     right;simp;omega
   clear aY br E;generalize aP+cnt=h at *;have bf:∀n,(wr.drewN n).cell? ⟨d.heap.size,6,none⟩=some (.bool (fq D.a7 D.e D.carry left aP).some):=λn=>aU aA.out.ch
   rcases aI with t1|⟨t1,t2⟩
   all_goals (
    go_wp2;go_quiet (fail);generalize hW:wr.drewN nq=W at *;have j:kx p D P d.heap.size left aP (fq D.a7 D.e D.carry left aP) w W:=by rw[<-hW];exact aA.out.fF g.out (hl _ _)
    have bf:W.cell? ⟨d.heap.size,6,none⟩=some (.bool (fq D.a7 D.e D.carry left aP).some):=aU j.ch;have bO:=al j;clear j hW aA;obtain⟨c,aH⟩:∃c,fq D.a7 D.e D.carry left aP=c:=⟨_,rfl⟩
    have ae:=al aH;rw[aH]at bf;clear aH;go_upto_if 93 with(fail)
    go_cut []from 93 to 100 (λz=>kx p D P d.heap.size left aP c w z)
    case first=>
     have j:=bO.out;rw[ae.out]at j;cases aI:c.some
     .go_wp2
      go_meet
      exact j
     .have aQ:W.cell? ⟨P.C,4,none⟩=some (.map (some P.fm)):=aU j.jq.c
      have b9:W.cell? ⟨w.heap.size,0,none⟩=some (.int .i64 left):=aU j.x;have q1:W.cell? ⟨w.heap.size,1,none⟩=some (.int .i64 aP):=aU j.x;have v1:W.cell? ⟨d.heap.size,1,none⟩=some (.int .i64 c.cu.cost):=aU j.ch;have v2:W.cell? ⟨d.heap.size,2,none⟩=some (.int .i64 c.cu.eW):=aU j.ch;have v3:W.cell? ⟨d.heap.size,3,none⟩=some (.int .i64 c.cu.left):=aU j.ch;have v4:W.cell? ⟨d.heap.size,4,none⟩=some (.int .i64 c.cu.aP):=aU j.ch;have v5:W.cell? ⟨d.heap.size,5,none⟩=some (.int .i64 c.cu.next):=aU j.ch;obtain⟨b7,aj,bc⟩:=j.jq.f;have aV:ij W.drew P.fm b7:=aj.keep (row:=none) (gv (e6 _ _)) aF;obtain⟨aK,a6,ba,B,z9⟩:=Dx (ao.underlying119 A) (.inl rfl) aV (left:Int) (aP:Int) (.agg c.cu.a);replace a6:Sem.run (ao A) (Instr.mapUpdate 130 (.map (some P.fm)) (.agg #[.int .i64 left,.int .i64 aP]) (.agg #[.int .i64 c.cu.cost,.int .i64 c.cu.eW,.int .i64 c.cu.left,.int .i64 c.cu.aP,.int .i64 c.cu.next])) W.drew=.ok () aK:=a6;have aG:W.grownBy aK (some P.fm):=⟨B.os,B.tape,B.output,B.size,B.block⟩
      have a8:kx p D P d.heap.size left aP c w aK:=j.oV (j.jq.NB g.out.ok g.out.keep aG ⟨_,ba,by have:=bc.put left aP (by rw[ae.out];exact aI);rw[ae.out]at this;exact this⟩) (cp.of aG (λr e=>.inr (.inl (by cases e;rfl))))
      have bP:=al a8;clear a8 aG ba B z9 aV aj bc j;go_wp2;go_region
      all_goals (go_wp2_with fail;go_meet;exact bP.out)
    case rest=>
    have v1:wc.cell? ⟨d.heap.size,1,none⟩=some (.int .i64 c.cu.cost):=aU hcut.ch;have v2:wc.cell? ⟨d.heap.size,2,none⟩=some (.int .i64 c.cu.eW):=aU hcut.ch;have v3:wc.cell? ⟨d.heap.size,3,none⟩=some (.int .i64 c.cu.left):=aU hcut.ch;have v4:wc.cell? ⟨d.heap.size,4,none⟩=some (.int .i64 c.cu.aP):=aU hcut.ch;have v5:wc.cell? ⟨d.heap.size,5,none⟩=some (.int .i64 c.cu.next):=aU hcut.ch;have cC:wc.cell? ⟨d.heap.size,6,none⟩=some (.bool c.some):=aU hcut.ch;have bj:wc.cell? ⟨w.heap.size+1,0,none⟩=some (.int .i64 0):=aU hcut.z;have bk:wc.cell? ⟨w.heap.size+1,1,none⟩=some (.int .i64 0):=aU hcut.z;have bl:wc.cell? ⟨w.heap.size+1,2,none⟩=some (.int .i64 0):=aU hcut.z;have bm:wc.cell? ⟨w.heap.size+1,3,none⟩=some (.int .i64 0):=aU hcut.z;have bn:wc.cell? ⟨w.heap.size+1,4,none⟩=some (.int .i64 0):=aU hcut.z;have z0:=b3 (o:=0) hcut.z;have bo:=b3 (o:=1) hcut.z;have bp:=b3 (o:=2) hcut.z;have z3:=b3 (o:=3) hcut.z;have z4:=b3 (o:=4) hcut.z;have ct:w.heap.size+1≠d.heap.size:=by have:=hcut.lt;omega
    have bL:=al hcut;clear hcut;go_wp2;go_region
    all_goals (
     go_wp2;have aw:=bL.out;obtain⟨L,G,bW⟩:=xq (w:=w) (b:=w.heap.size+1) (W:=wc) (c:=iK.a) c.cu rfl aw.z U (X:=P.X) aw.fY;have aJ:=aw.jq.keep g.out.keep bW (λb e=>by have:=aw.old;cases e;omega);revert L G aJ;generalize ((((wc.setCell ⟨w.heap.size+1,0,none⟩ (.int .i64 c.cu.cost)).setCell ⟨w.heap.size+1,1,none⟩ (.int .i64 c.cu.eW)).setCell ⟨w.heap.size+1,2,none⟩ (.int .i64 c.cu.left)).setCell ⟨w.heap.size+1,3,none⟩ (.int .i64 c.cu.aP)).setCell ⟨w.heap.size+1,4,none⟩ (.int .i64 c.cu.next)=aD;intro L G aJ;have B:aD.grownBy aD.drew none:=gv (e6 _ _);refine bodyPost_ret (Fc rfl _ _ (w.heap.size+1) 135 c.cu.a (0,0) _ rfl (show aD.drew.heap[w.heap.size+1]?=some (.cells c.cu.a 135 (0,0))from L) (ao.underlying124 A) rfl xI _ rfl) rfl ?_;exact⟨by rw[ae.out];rfl,aJ.fF g.out.keep B,G.trans (cp.jF B)⟩))
def HX[S:Std A][eY:jx A]{c:World->Prop}(H:ky A c D P)(left aP:Nat)(i:left<=aP)(f:aP<=D.e)(g:∀l,left<l->l<=D.e->rP A c D P l)(w:World)(h:e2 c D P w):
 Calls (ao A) 71 #[.pointer (some ⟨P.C,0,none⟩),.agg #[.int .i64 left,.int .i64 aP]] w λe w'=>e=.returned (.tuple #[.agg (fq D.a7 D.e D.carry left aP).cu.a,.bool (fq D.a7 D.e D.carry left aP).some])/\e2 c D P w'/\cp P.X w w':=by
 obtain⟨M,d,m⟩:=h.f;cases j:M left aP with
 |some v=>exact HY H left aP i f g w h d m j
 |none=>exact HZ H left aP i f g w h d m j
end
end Go.aO
