/- Part 32 of a law on fees: no conditions. -/
import Derived.Test.YthiiblonjmmnfaaGreatDoorP30
import Derived.Laws.EntriesVeiled
import Derived.Deep.Cut
import Derived.Deep.CutRange
import Derived.Deep.RegionHeld3
import Derived.BigQuiet
set_option maxHeartbeats 8000000
set_option maxRecDepth 100000
set_option linter.all false
namespace Go.aN
open Go.Proofs Go.RowKit
section
variable{A:Array Func}
structure je(a8:World->Prop)(D:fb)(P:fc)(b:Nat)(left aK:Nat)(c:fv)(aI w:World):Prop where
 h2:ek a8 D P w
 ch:w.heap[b]?=some (.cells c.a 175)
 x:w.heap[aI.heap.size]?=some (.cells #[.int .i64 left,.int .i64 aK] 59)
 z:w.heap[aI.heap.size+1]?=some (.cells hv.a 148)
 e4:ca P.X aI w
 lt:aI.heap.size+2<=b
 old:P.T<aI.heap.size/\P.B<=aI.heap.size/\P.C<aI.heap.size/\P.fm<aI.heap.size/\P.fA<aI.heap.size
def je.eQ{d:World->Prop}{D:fb}{P:fc}{b left aK:Nat}{c:fv}{aI w w':World}(h:je d D P b left aK c aI w)(H:jf A d D P)(g:w.grownBy w' none):je d D P b left aK c aI w':=
 ⟨h.h2.eQ H.keep g,(g.block _ (bp h.ch) (by simp)).trans h.ch,(g.block _ (bp h.x) (by simp)).trans h.x,(g.block _ (bp h.z) (by simp)).trans h.z,h.e4.step g (by simp),h.lt,h.old⟩
def je.na{f:World->Prop}{D:fb}{P:fc}{b left aK:Nat}{c:fv}{aI w w':World}(h:je f D P b left aK c aI w)(k:ek f D P w')(g:ca P.X w w'):je f D P b left aK c aI w':=by
 have j:=h.lt;have l:=h.old;have d:∀i,aI.heap.size<=i->¬P.X i:=λi o d=>by rcases d with rfl|rfl|rfl<;>omega
 exact⟨k,(g.block _ (bp h.ch) (d _ (by omega))).trans h.ch,(g.block _ (bp h.x) (d _ (by omega))).trans h.x,(g.block _ (bp h.z) (d _ (by omega))).trans h.z,h.e4.trans g,h.lt,h.old⟩
def je.put{d:World->Prop}{D:fb}{P:fc}{b left aK:Nat}{c bo:fv}{aI w w':World}(h:je d D P b left aK c aI w)(H:jf A d D P)(e:w'.heap[b]?=some (.cells bo.a 175))(g:w.grownBy w' (some b)):je d D P b left aK bo aI w':=by
 have l:=h.lt;have o:=h.old;have f:∀i,i≠b->some i≠some b:=λi j e=>j (Pm e)
 exact⟨h.h2.keep H.keep g (λr e=>by cases e;omega),e,(g.block _ (bp h.x) (f _ (by omega))).trans h.x,(g.block _ (bp h.z) (f _ (by omega))).trans h.z,h.e4.step g (λr e=>.inr (by cases e;omega)),h.lt,h.old⟩
def EL{aX:Nat->Nat->Int}{e:Nat}{g:Nat->dq}{left aK:Nat}(h:((aK:Int) == (e:Int))=false):fJ aX e g left aK 0=kz:=by rw[fJ,if_neg (λc=>by subst c;simp at h)]
def EK{aX:Nat->Nat->Int}{e:Nat}{g:Nat->dq}{left aK:Nat}(h:((aK:Int) == (e:Int))=true):fJ aX e g left aK 0=kz.take ⟨aX left aK,1,left,aK,-1⟩:=by rw[fJ,if_pos (by rw[beq_iff_eq]at h;omega)]
def ER[S:Std A][eg:gQ A]{q:World->Prop}{D:fb}{P:fc}(H:jf A q D P)(left aK:Nat)(b0:left<=aK)(cp:aK<=D.e)(aZ:∀l,left<l->l<=D.e->p1 A q D P l)(w:World)(h:ek q D P w){M:Int->Int->Option Value}(bX:g3 w P.fm M)(bc:oN D M)(a8:M left aK=none):
 Calls (ag A) 69 #[.pointer (some ⟨P.C,0,none⟩),.agg #[.int .i64 left,.int .i64 aK]] w λe w'=>e=.returned (.tuple #[.agg (eG D.aX D.e D.carry left aK).cf.a,.bool (eG D.aX D.e D.carry left aK).some])/\ek q D P w'/\ca P.X w w':=by
 obtain⟨f,K⟩:∃W,(w.alloc (.cells #[.int .i64 left,.int .i64 aK] 59)).alloc (.cells #[.int .i64 0,.int .i64 0,.int .i64 0,.int .i64 0,.int .i64 0] 148)=W:=⟨_,rfl⟩
 have aj:w.grownBy f none:=by rw[<-K];exact Pn.trans Pn
 have s1:f.heap.size=w.heap.size+2:=by rw[<-K];simp
 have Q:f.heap[w.heap.size]?=some (.cells #[.int .i64 left,.int .i64 aK] 59):=by rw[<-K,Pq (by simp),gA]
 have p:f.heap[w.heap.size+1]?=some (.cells hv.a 148):=by rw[<-K,h' _ _ _ (by simp)];rfl
 have Y:=h.eQ H.keep aj;have bQ:=Pj (h.eJ H);have aQ:f.cell? ⟨P.C,4,none⟩=some (.map (some P.fm)):=aT Y.c;have bh:f.cell? ⟨w.heap.size,0,none⟩=some (.int .i64 left):=aT Q;have bi:f.cell? ⟨w.heap.size,1,none⟩=some (.int .i64 aK):=aT Q;have ak:=bX.keep aj (by simp);have cu:w.heap.size<f.heap.size:=by omega
 have cv:w.heap.size+1<f.heap.size:=by omega
 have cw:P.C<f.heap.size:=bp Y.c;have aq:∀w',g3 w' P.fm M->Sem.run (ag A) (Instr.lookup 143 (.map (some P.fm)) (.agg #[.int .i64 left,.int .i64 aK]) true) w'=.ok (.tuple #[(M left aK).getD (.agg hv.a),.bool (M left aK).isSome]) w':=λw' al=>qB (ag.underlying119 A) (.inl rfl) vH al left aK true
 have ao:=aq f.drew (ak.keep (row:=none) (fQ (Pw _ _)) (by simp));have ap:=aq (f.alloc (.cells #[.int .i64 0,.int .i64 0,.int .i64 0,.int .i64 0,.int .i64 0] 148)).drew (ak.keep (row:=none) (fQ Pn) (by simp));have bk:f.cell? ⟨w.heap.size+1,0,none⟩=some (.int .i64 0):=aT p;have bl:f.cell? ⟨w.heap.size+1,1,none⟩=some (.int .i64 0):=aT p;have bm:f.cell? ⟨w.heap.size+1,2,none⟩=some (.int .i64 0):=aT p;have bn:f.cell? ⟨w.heap.size+1,3,none⟩=some (.int .i64 0):=aT p;have bo:f.cell? ⟨w.heap.size+1,4,none⟩=some (.int .i64 0):=aT p;have z0:=b1 (o:=0) p;have bq:=b1 (o:=1) p;have br:=b1 (o:=2) p;have z3:=b1 (o:=3) p;have z4:=b1 (o:=4) p;have ci:=Pj aq;have bs:=Pj Q;have bt:=Pj p;have bS:=Pj s1;have bA:=Pj Y;have bx:=Pj aj;have ck:=Pj bc;have cj:=Pj ak;have bD:=Pj aZ;have g:=Pj H;have bH:=Pj K;clear h aj Y bc aZ H s1 Q p aq ak;rw[a8]at ao ap;replace ao:Sem.run (ag A) (Instr.lookup 143 (.map (some P.fm)) (.agg #[.int .i64 left,.int .i64 aK]) true) f.drew=.ok (.tuple #[.agg #[.int .i64 0,.int .i64 0,.int .i64 0,.int .i64 0,.int .i64 0],.bool false]) f.drew:=ao;replace ap:Sem.run (ag A) (Instr.lookup 143 (.map (some P.fm)) (.agg #[.int .i64 left,.int .i64 aK]) true) (f.alloc (.cells #[.int .i64 0,.int .i64 0,.int .i64 0,.int .i64 0,.int .i64 0] 148)).drew=.ok (.tuple #[.agg #[.int .i64 0,.int .i64 0,.int .i64 0,.int .i64 0,.int .i64 0],.bool false]) (f.alloc (.cells #[.int .i64 0,.int .i64 0,.int .i64 0,.int .i64 0,.int .i64 0] 148)).drew:=ap;clear a8;clear K;obtain⟨d,am⟩:∃W,(f.alloc (.cells #[.int .i64 0,.int .i64 0,.int .i64 0,.int .i64 0,.int .i64 0] 148)).drew=W:=⟨_,rfl⟩
 obtain⟨B,aa⟩:∃W,d.alloc (.cells #[.func (.func 67) #[] #[],.int .i64 0,.int .i64 0,.int .i64 0,.int .i64 0,.int .i64 0,.bool false] 175)=W:=⟨_,rfl⟩
 have aR:f.grownBy d none:=by rw[<-am];exact fQ Pn
 have s2:d.heap.size=w.heap.size+3:=by rw[<-am,m3,Pp,bS.out]
 have T:f.grownBy B none:=by rw[<-aa];exact aR.trans Pn
 have bf:B.heap.size=w.heap.size+4:=by rw[<-aa,Pp,s2]
 have aE:B.heap[d.heap.size]?=some (.cells kz.a 175):=by rw[<-aa,h' _ _ _ rfl];rfl
 have Z:=bA.out.eQ g.out.keep T;have d0:B.cell? ⟨P.C,0,none⟩=some (.pointer (some ⟨P.T,0,none⟩)):=aT Z.c;have d1:B.cell? ⟨P.C,1,none⟩=some (.int .i64 D.kind):=aT Z.c;have cf:B.cell? ⟨w.heap.size,0,none⟩=some (.int .i64 left):=T.cell bh (by simp);have cg:B.cell? ⟨w.heap.size,1,none⟩=some (.int .i64 aK):=T.cell bi (by simp);have bE:=Pj (g.out.Aw B.drew (g.out.keep _ _ none Z.j (fQ (Pw _ _)) (by simp)) left aK b0 (by have:=g.out.e;omega));have jj:=Pj s2;have aC:=Pj bf;have bv:=Pj aE;have bB:=Pj Z;have az:=Pj T;have bI:=Pj am;have bJ:=Pj aa;clear am aa aR T s2 bf aE Z;go_enter eg.f85,Tryz.ntmps69;go_upto_region 1 with fail
 go_cut [6,7]from 12 to 20 (λcb cc C=>cb=.pointer (some ⟨f.heap.size,0,none⟩)/\cc=.bool false/\C=d)
 case first=>
  rw[bH.out];go_region
  all_goals (go_wp2_with fail;go_meet;exact⟨rfl,rfl,bI.out⟩)
 case rest=>
 obtain⟨rfl,rfl,b4⟩:=hcut;obtain rfl:=b4.symm;go_upto_region 5 with fail
 go_cut [9]from 24 to 33 (λce C=>ce=.int .i64 (D.aX left aK)/\ek q D P C/\B.grownBy C (some P.T))
 case first=>
  rw[bJ.out];go_region_with (go_at_call 20;refine bE.out.mono ?_;rintro e ch ⟨rfl,ba,u⟩;have aF:B.grownBy ch (some P.T):=⟨u.os,u.tape,u.output,u.size,u.block⟩;have bC:=Pj (bB.out.uw g.out.ok aF ba);have bz:=Pj aF;clear u aF ba)
  all_goals (go_wp2_with fail;go_meet;exact⟨rfl,bC.out,bz.out⟩)
 case rest=>
 obtain⟨rfl,aS,u⟩:=hcut;have av:=g.out.ok.T;have eJ:=bQ.out;have ay:∀b,w.heap.size<=b->some b≠some P.T:=λb cn e=>by have:=Pm e;omega
 have L:je q D P d.heap.size left aK kz w wc:=⟨aS,(u.block _ (by rw[jj.out,aC.out];omega) (ay _ (by rw[jj.out];omega))).trans bv.out,
  (u.block _ (by rw[aC.out];omega) (ay _ (by omega))).trans ((az.out.block _ (by omega) (by simp)).trans bs.out),(u.block _ (by rw[aC.out];omega) (ay _ (by omega))).trans ((az.out.block _ (by omega) (by simp)).trans bt.out),
  ((ca.ig bx.out).trans (ca.ig az.out)).trans (ca.of u (λr e=>.inl (by cases e;rfl))),by rw[jj.out];omega,by omega⟩
 have r0:wc.cell? ⟨w.heap.size,0,none⟩=some (.int .i64 left):=aT L.x;have r1:wc.cell? ⟨w.heap.size,1,none⟩=some (.int .i64 aK):=aT L.x;have J:wc.cell? ⟨P.C,2,none⟩=some (.int .i64 D.e):=aT L.h2.c;have b6:d.heap.size<wc.heap.size:=bp L.ch;have aM:=Pj λc x w=>zP (A:=A) d.heap.size c x w
 have aN:=Pj L;have a5:∀n,wc.grownBy (wc.drewN n) none:=hM wc;clear av eJ ay L aS u cf cg d0 d1 bk bl bm bn bo z0 bq br z3 z4 ao ap aQ bh bi;go_upto_region 6 with fail
 go_cut [40]from 34 to 39 (λb9 C=>b9=.bool ((aK:Int) == (D.e:Int))/\je q D P d.heap.size left aK kz w C)
 case first=>
  cases ad:((aK:Int) == (D.e:Int))
  all_goals (
   go_quiet (fail);go_wp2_with fail
   go_meet
   exact⟨by rw[ad],aN.out.eQ g.out (a5 _)⟩)
 case rest=>
 clear r0 r1 J b6 a5 aN;obtain⟨rfl,ax⟩:=hcut;have r0:wc.cell? ⟨w.heap.size,0,none⟩=some (.int .i64 left):=aT ax.x;have r1:wc.cell? ⟨w.heap.size,1,none⟩=some (.int .i64 aK):=aT ax.x;have ai:=Pj ax;clear ax;go_upto_if 40 with(fail)
 go_cut []from 40 to 44 (λC=>je q D P d.heap.size left aK (fJ D.aX D.e (bL D.aX D.e D.carry) left aK 0) w C)
 case first=>
  cases ad:((aK:Int) == (D.e:Int))
  case false=>
   go_wp2;go_meet
   rw[EL ad];exact ai.out
  case true=>
   go_wp2_with (go_at_call 68;refine(aM.out kz ⟨D.aX left aK,1,left,aK,-1⟩ wc ai.out.ch).mono ?_;rintro e z ⟨rfl,bT,U⟩)
   go_meet
   rw[EK ad];exact ai.out.put g.out bT U
 case rest=>
 clear r0 r1 ai;have r1:wc.cell? ⟨w.heap.size,1,none⟩=some (.int .i64 aK):=aT hcut.x;have bN:=Pj hcut;clear hcut;obtain⟨cnt,aX⟩:∃n,n=if aK<D.e then min D.e (aK+D.carry)+1-aK else 0:=⟨_,rfl⟩
 have ah:=Pj aX;clear aX;go_wp2;go_loopw [10] (λi wr=>∃h:Nat,i=.int .i64 h/\(aK<=h/\h<=aK+cnt)/\je q D P d.heap.size left aK (fJ D.aX D.e (bL D.aX D.e D.carry) left aK (h-aK)) w wr) (λi _=>aK+cnt+1-(numOf i))
 case atStart=>exact⟨aK,rfl,⟨Pk,by omega⟩,by rw[Nat.sub_self];exact bN.out⟩
 case round=>
  obtain⟨h,rfl,a1,bj⟩:=hrel;have b7:wr.cell? ⟨w.heap.size,0,none⟩=some (.int .i64 left):=aT bj.x;have q1:wr.cell? ⟨w.heap.size,1,none⟩=some (.int .i64 aK):=aT bj.x;have cx:wr.cell? ⟨P.C,2,none⟩=some (.int .i64 D.e):=aT bj.h2.c;have cy:wr.cell? ⟨P.C,3,none⟩=some (.int .i64 D.carry):=aT bj.h2.c;have cm:=g.out.e;have co:=g.out.carry;have cs:IntKind.i64.wrap ((aK:Int)+D.carry)=aK+D.carry:=IntWalk.i64_in _ (by omega);have I:=Pj bj;clear bj;by_cases cq:h<aK+cnt
  .have ar:aK<D.e:=by
    refine Classical.byContradiction λb3=>?_
    have:=ah.out;rw[if_neg b3]at this;omega
   have aW:=ah.out;rw[if_pos ar]at aW;have t1:decide ((h:Int)<=min (D.e:Int) (aK+D.carry))=true:=by simp;omega
   have t2:decide ((aK:Int)<D.e)=true:=by simp;omega
   have bZ:h<=D.e:=by omega
   clear aW;go_wp2;by_cases au:left=aK/\h=aK
   .have s1:((left:Int) == (h:Int))=true:=by simp;omega
    have s2:((aK:Int) == (h:Int))=true:=by simp;omega
    have aB:=Pj au;clear au;go_wp2;go_quiet (fail);go_wp2;go_roundw
    case rel=>
     obtain⟨r1,cz⟩:=aB.out;exact⟨h+1,by go_num,by omega,by rw[show h+1-aK=0+1 by omega,EM ⟨r1,rfl⟩,show 0=h-aK by omega];exact I.out.eQ g.out (hM _ _)⟩
    case measure=>simp[numOf];omega
   .have s1:(((left:Int) == (h:Int)) && ((aK:Int) == (h:Int)))=false:=by
     cases R:((left:Int) == (h:Int))
     .rfl
     .cases J:((aK:Int) == (h:Int))
      .rfl
      .rw[beq_iff_eq]at R J
       omega
    have b2:left<h:=by omega
    have aB:=Pj au;clear au;go_wp2;go_quiet (fail);go_wp2_with (go_at_call 52;refine(bD.out h b2 bZ (wr.drewN nq) (I.out.eQ g.out (hM _ _)).h2).mono ?_;rintro e z ⟨rfl,aU,U⟩)
    have G:=((I.out.eQ g.out (hM wr nq)).na aU U).eQ g.out (fQ (Pv z (.cells (bL D.aX D.e D.carry h).a 148) none));have bY:=EV (carry:=D.carry) g.out.gw g.out.e h;have ad:=g.out.gw left aK;have a0:(z.alloc (.cells (bL D.aX D.e D.carry h).a 148)).drew.cell? ⟨z.heap.size,0,none⟩=some (.int .i64 (bL D.aX D.e D.carry h).cost):=Pr rfl;have aO:(z.alloc (.cells (bL D.aX D.e D.carry h).a 148)).drew.cell? ⟨z.heap.size,1,none⟩=some (.int .i64 (bL D.aX D.e D.carry h).ee):=Pr rfl;have aP:(z.alloc (.cells (bL D.aX D.e D.carry h).a 148)).drew.cell? ⟨w.heap.size,0,none⟩=some (.int .i64 left):=aT G.x;have a3:(z.alloc (.cells (bL D.aX D.e D.carry h).a 148)).drew.cell? ⟨w.heap.size,1,none⟩=some (.int .i64 aK):=aT G.x;have av:=aM.out (fJ D.aX D.e (bL D.aX D.e D.carry) left aK (h-aK)) ⟨D.aX left aK+(bL D.aX D.e D.carry h).cost,(bL D.aX D.e D.carry h).ee+1,left,aK,h⟩ _ G.ch;have a2:z.heap.size≠d.heap.size:=by have Y:=bp ((U.block d.heap.size (bp I.out.ch) (λb5=>by have:=G.old;have:=G.lt;rcases b5 with e|e|e<;>omega)).trans I.out.ch);omega
    have a4:w.heap.size≠d.heap.size:=by have:=G.lt;omega
    have bM:=Pj G;clear G aU U;obtain⟨Q,p,aE,cl⟩:=bY;have a6:=B0 (F:=A) (z.alloc (.cells (bL D.aX D.e D.carry h).a 148)).drew (D.aX left aK) (bL D.aX D.e D.carry h).cost (by omega) (by omega);have bG:=Pj av;have bF:=Pj a6;clear av a6;have bw:=Pj (show fJ D.aX D.e (bL D.aX D.e D.carry) left aK (h+1-aK)=(fJ D.aX D.e (bL D.aX D.e D.carry) left aK (h-aK)).take ⟨D.aX left aK+(bL D.aX D.e D.carry h).cost,(bL D.aX D.e D.carry h).ee+1,left,aK,h⟩ by rw[show h+1-aK=(h-aK)+1 by omega,EN (λa1=>aB.out ⟨a1.1,by omega⟩),show aK+(h-aK)=h by omega])
    generalize bL D.aX D.e D.carry h=ae at *;have ct:IntKind.i64.wrap (ae.ee+1)=ae.ee+1:=IntWalk.i64_in _ (by omega);go_region_held3 (λw'=>w'.cell? ⟨z.heap.size,0,none⟩=some (.int .i64 ae.cost)/\w'.cell? ⟨z.heap.size,1,none⟩=some (.int .i64 ae.ee)/\w'.cell? ⟨w.heap.size,0,none⟩=some (.int .i64 left)/\w'.cell? ⟨w.heap.size,1,none⟩=some (.int .i64 aK))
     (first|exact⟨a0,aO,aP,a3⟩|exact⟨bu,bU,bV,c3⟩)
     (first|(go_at_call 21;refine(m' _ _).mono ?_;rintro e w' ⟨rfl,rfl⟩)|(go_at_call 38;refine bF.out.mono ?_;rintro e w' ⟨rfl,rfl⟩)|(go_at_call 68;refine bG.out.mono ?_;rintro e cB ⟨rfl,b8,V⟩;have bu:=V.cell a0 (λe=>a2 (Pm e));have bU:=V.cell aO (λe=>a2 (Pm e));have bV:=V.cell aP (λe=>a4 (Pm e));have c3:=V.cell a3 (λe=>a4 (Pm e))))
    go_wp2;go_roundw
    case rel=>exact⟨h+1,by go_num,by omega,by rw[bw.out];exact bM.out.put g.out b8 V⟩
    case measure=>simp[numOf];omega
  .obtain rfl:h=aK+cnt:=by omega
   have aY:fJ D.aX D.e (bL D.aX D.e D.carry) left aK (aK+cnt-aK)=eG D.aX D.e D.carry left aK:=by rw[eG,mS,<-ah.out,Nat.add_sub_cancel_left]
   have bj:=I.out;rw[aY]at bj;have aA:=Pj bj;have aI:decide (((aK+cnt:Nat):Int)<=min (D.e:Int) (aK+D.carry))=false\/(decide (((aK+cnt:Nat):Int)<=min (D.e:Int) (aK+D.carry))=true/\decide (aK<D.e)=false):=by
    have:=ah.out;by_cases ar:aK<D.e
    .rw[if_pos ar]at this
     left;simp;omega
    .rw[if_neg ar]at this
     right;simp;omega
   clear aY bj I;generalize aK+cnt=h at *;have bg:∀n,(wr.drewN n).cell? ⟨d.heap.size,6,none⟩=some (.bool (eG D.aX D.e D.carry left aK).some):=λn=>aT aA.out.ch
   rcases aI with t1|⟨t1,t2⟩
   all_goals (
    go_wp2;go_quiet (fail);generalize hW:wr.drewN nq=W at *;have j:je q D P d.heap.size left aK (eG D.aX D.e D.carry left aK) w W:=by rw[<-hW];exact aA.out.eQ g.out (hM _ _)
    have bg:W.cell? ⟨d.heap.size,6,none⟩=some (.bool (eG D.aX D.e D.carry left aK).some):=aT j.ch;have bO:=Pj j;clear j hW aA;obtain⟨c,aH⟩:∃c,eG D.aX D.e D.carry left aK=c:=⟨_,rfl⟩
    have af:=Pj aH;rw[aH]at bg;clear aH;go_upto_if 93 with(fail)
    go_cut []from 93 to 100 (λC=>je q D P d.heap.size left aK c w C)
    case first=>
     have j:=bO.out;rw[af.out]at j;cases aI:c.some
     .go_wp2
      go_meet
      exact j
     .have aQ:W.cell? ⟨P.C,4,none⟩=some (.map (some P.fm)):=aT j.h2.c
      have b7:W.cell? ⟨w.heap.size,0,none⟩=some (.int .i64 left):=aT j.x;have q1:W.cell? ⟨w.heap.size,1,none⟩=some (.int .i64 aK):=aT j.x;have v1:W.cell? ⟨d.heap.size,1,none⟩=some (.int .i64 c.cf.cost):=aT j.ch;have v2:W.cell? ⟨d.heap.size,2,none⟩=some (.int .i64 c.cf.ee):=aT j.ch;have v3:W.cell? ⟨d.heap.size,3,none⟩=some (.int .i64 c.cf.left):=aT j.ch;have v4:W.cell? ⟨d.heap.size,4,none⟩=some (.int .i64 c.cf.aK):=aT j.ch;have v5:W.cell? ⟨d.heap.size,5,none⟩=some (.int .i64 c.cf.next):=aT j.ch;obtain⟨bR,al,bd⟩:=j.h2.f;have aV:g3 W.drew P.fm bR:=al.keep (row:=none) (fQ (Pw _ _)) (by simp);obtain⟨aL,a7,bb,E,z9⟩:=A6 (ag.underlying119 A) (.inl rfl) aV (left:Int) (aK:Int) (.agg c.cf.a);replace a7:Sem.run (ag A) (Instr.mapUpdate 143 (.map (some P.fm)) (.agg #[.int .i64 left,.int .i64 aK]) (.agg #[.int .i64 c.cf.cost,.int .i64 c.cf.ee,.int .i64 c.cf.left,.int .i64 c.cf.aK,.int .i64 c.cf.next])) W.drew=.ok () aL:=a7;have aG:W.grownBy aL (some P.fm):=⟨E.os,E.tape,E.output,E.size,E.block⟩
      have a9:je q D P d.heap.size left aK c w aL:=j.na (j.h2.Kr g.out.ok g.out.keep aG ⟨_,bb,by have:=bd.put left aK (by rw[af.out];exact aI);rw[af.out]at this;exact this⟩) (ca.of aG (λr e=>.inr (.inl (by cases e;rfl))))
      have bP:=Pj a9;clear a9 aG bb E z9 aV al bd j;go_wp2;go_region
      all_goals (go_wp2_with fail;go_meet;exact bP.out)
    case rest=>
    have v1:wc.cell? ⟨d.heap.size,1,none⟩=some (.int .i64 c.cf.cost):=aT hcut.ch;have v2:wc.cell? ⟨d.heap.size,2,none⟩=some (.int .i64 c.cf.ee):=aT hcut.ch;have v3:wc.cell? ⟨d.heap.size,3,none⟩=some (.int .i64 c.cf.left):=aT hcut.ch;have v4:wc.cell? ⟨d.heap.size,4,none⟩=some (.int .i64 c.cf.aK):=aT hcut.ch;have v5:wc.cell? ⟨d.heap.size,5,none⟩=some (.int .i64 c.cf.next):=aT hcut.ch;have cA:wc.cell? ⟨d.heap.size,6,none⟩=some (.bool c.some):=aT hcut.ch;have bk:wc.cell? ⟨w.heap.size+1,0,none⟩=some (.int .i64 0):=aT hcut.z;have bl:wc.cell? ⟨w.heap.size+1,1,none⟩=some (.int .i64 0):=aT hcut.z;have bm:wc.cell? ⟨w.heap.size+1,2,none⟩=some (.int .i64 0):=aT hcut.z;have bn:wc.cell? ⟨w.heap.size+1,3,none⟩=some (.int .i64 0):=aT hcut.z;have bo:wc.cell? ⟨w.heap.size+1,4,none⟩=some (.int .i64 0):=aT hcut.z;have z0:=b1 (o:=0) hcut.z;have bq:=b1 (o:=1) hcut.z;have br:=b1 (o:=2) hcut.z;have z3:=b1 (o:=3) hcut.z;have z4:=b1 (o:=4) hcut.z;have cr:w.heap.size+1≠d.heap.size:=by have:=hcut.lt;omega
    have bK:=Pj hcut;clear hcut;go_wp2;go_region
    all_goals (
     go_wp2;have aw:=bK.out;obtain⟨R,J,bW⟩:=uT (w:=w) (b:=w.heap.size+1) (W:=wc) (c:=hv.a) c.cf rfl aw.z (by omega) (X:=P.X) aw.e4;have aJ:=aw.h2.keep g.out.keep bW (λb e=>by have:=aw.old;cases e;omega);revert R J aJ;generalize ((((wc.setCell ⟨w.heap.size+1,0,none⟩ (.int .i64 c.cf.cost)).setCell ⟨w.heap.size+1,1,none⟩ (.int .i64 c.cf.ee)).setCell ⟨w.heap.size+1,2,none⟩ (.int .i64 c.cf.left)).setCell ⟨w.heap.size+1,3,none⟩ (.int .i64 c.cf.aK)).setCell ⟨w.heap.size+1,4,none⟩ (.int .i64 c.cf.next)=aD;intro R J aJ;have E:aD.grownBy aD.drew none:=fQ (Pw _ _);refine bodyPost_ret (Ch rfl _ _ (w.heap.size+1) 148 c.cf.a (0,0) _ rfl (show aD.drew.heap[w.heap.size+1]?=some (.cells c.cf.a 148 (0,0))from R) (ag.underlying124 A) rfl u' _ rfl) rfl ?_;exact⟨by rw[af.out];rfl,aJ.eQ g.out.keep E,J.trans (ca.ig E)⟩))
def EO[S:Std A][eg:gQ A]{c:World->Prop}{D:fb}{P:fc}(H:jf A c D P)(left aK:Nat)(i:left<=aK)(f:aK<=D.e)(g:∀l,left<l->l<=D.e->p1 A c D P l)(w:World)(h:ek c D P w):
 Calls (ag A) 69 #[.pointer (some ⟨P.C,0,none⟩),.agg #[.int .i64 left,.int .i64 aK]] w λe w'=>e=.returned (.tuple #[.agg (eG D.aX D.e D.carry left aK).cf.a,.bool (eG D.aX D.e D.carry left aK).some])/\ek c D P w'/\ca P.X w w':=by
 obtain⟨M,d,o⟩:=h.f;cases j:M left aK with
 |some v=>exact EP H left aK i f g w h d o j
 |none=>exact ER H left aK i f g w h d o j
end
end Go.aN
