/- Part 32 of a law on fees: no conditions. -/
import Derived.Test.YtalhadgndijcmaaGreatDoorP30
import Derived.Laws.EntriesVeiled
import Derived.Deep.Cut
import Derived.Deep.CutRange
import Derived.Deep.RegionHeld3
import Derived.BigQuiet
set_option maxHeartbeats 8000000
set_option maxRecDepth 100000
set_option linter.all false
namespace Go.aN
open Go.Proofs Go.RowKit
section
variable{A:Array Func}
structure je(a8:World->Prop)(D:fb)(P:fc)(b:Nat)(left aK:Nat)(c:fv)(aI w:World): Prop where
 h2:ek a8 D P w
 ch:w.heap[b]?=some (.cells c.a 169)
 x:w.heap[aI.heap.size]?=some (.cells #[.int .i64 left,.int .i64 aK] 64)
 z:w.heap[aI.heap.size+1]?=some (.cells hv.a 124)
 e4:ca P.X aI w
 lt:aI.heap.size+2<=b
 old:P.T<aI.heap.size/\P.B<=aI.heap.size/\P.C<aI.heap.size/\P.fm<aI.heap.size/\P.fA<aI.heap.size
theorem je.eQ{d:World->Prop}{D:fb}{P:fc}{b left aK:Nat}{c:fv}{aI w w':World}(h:je d D P b left aK c aI w)(H:jf A d D P)(g:w.grownBy w' none): je d D P b left aK c aI w':=
 ⟨h.h2.eQ H.keep g,(g.block _ (bp h.ch) (by simp)).trans h.ch,(g.block _ (bp h.x) (by simp)).trans h.x,(g.block _ (bp h.z) (by simp)).trans h.z,h.e4.step g (by simp),h.lt,h.old⟩
theorem je.na{f:World->Prop}{D:fb}{P:fc}{b left aK:Nat}{c:fv}{aI w w':World}(h:je f D P b left aK c aI w)(k:ek f D P w')(g:ca P.X w w'): je f D P b left aK c aI w':=by
 have j:=h.lt;have l:=h.old;have d:∀i,aI.heap.size<=i->¬ P.X i:=λi m d=>by rcases d with rfl|rfl|rfl<;>omega
 exact⟨k,(g.block _ (bp h.ch) (d _ (by omega))).trans h.ch,(g.block _ (bp h.x) (d _ (by omega))).trans h.x,(g.block _ (bp h.z) (d _ (by omega))).trans h.z,h.e4.trans g,h.lt,h.old⟩
theorem je.put{d:World->Prop}{D:fb}{P:fc}{b left aK:Nat}{c bo:fv}{aI w w':World}(h:je d D P b left aK c aI w)(H:jf A d D P)(e:w'.heap[b]?=some (.cells bo.a 169))(g:w.grownBy w' (some b)): je d D P b left aK bo aI w':=by
 have l:=h.lt;have m:=h.old;have f:∀i,i≠b->some i≠some b:=λi j e=>j (Pm e)
 exact⟨h.h2.keep H.keep g (λr e=>by cases e;omega),e,(g.block _ (bp h.x) (f _ (by omega))).trans h.x,(g.block _ (bp h.z) (f _ (by omega))).trans h.z,h.e4.step g (λr e=>.inr (by cases e;omega)),h.lt,h.old⟩
theorem EL{aX:Nat->Nat->Int}{e:Nat}{g:Nat->dq}{left aK:Nat}(h:((aK:Int) == (e:Int))=false): fJ aX e g left aK 0=kz:=by rw[fJ,if_neg (λc=>by subst c;simp at h)]
theorem EK{aX:Nat->Nat->Int}{e:Nat}{g:Nat->dq}{left aK:Nat}(h:((aK:Int) == (e:Int))=true): fJ aX e g left aK 0=kz.take ⟨aX left aK,1,left,aK,-1⟩:=by rw[fJ,if_pos (by rw[beq_iff_eq] at h;omega)]
theorem ER[S:Std A][eg:gQ A]{p:World->Prop}{D:fb}{P:fc}(H:jf A p D P)(left aK:Nat)(bY:left<=aK)(cn:aK<=D.e)(aX:∀l,left<l->l<=D.e->p1 A p D P l)(w:World)(h:ek p D P w){M:Int->Int->Option Value}(bV:g3 w P.fm M)(ba:oN D M)(a6:M left aK=none):
 Calls (ag A) 85 #[.pointer (some ⟨P.C,0,none⟩),.agg #[.int .i64 left,.int .i64 aK]] w λe w'=>e=.returned (.tuple #[.agg (eG D.aX D.e D.carry left aK).cf.a,.bool (eG D.aX D.e D.carry left aK).some])/\ek p D P w'/\ca P.X w w':=by
 obtain⟨f,I⟩ : ∃W,(w.alloc (.cells #[.int .i64 left,.int .i64 aK] 64)).alloc (.cells #[.int .i64 0,.int .i64 0,.int .i64 0,.int .i64 0,.int .i64 0] 124)=W:=⟨_,rfl⟩
 have ah:w.grownBy f none:=by rw[<-I];exact Pn.trans Pn
 have s1:f.heap.size=w.heap.size+2:=by rw[<-I];simp
 have K:f.heap[w.heap.size]?=some (.cells #[.int .i64 left,.int .i64 aK] 64):=by rw[<-I,Pq (by simp),gA]
 have m:f.heap[w.heap.size+1]?=some (.cells hv.a 124):=by rw[<-I,h' _ _ _ (by simp)];rfl
 have U:=h.eQ H.keep ah;have bO:=Pj (h.eJ H);have aO:f.cell? ⟨P.C,4,none⟩=some (.map (some P.fm)):=aT U.c;have bf:f.cell? ⟨w.heap.size,0,none⟩=some (.int .i64 left):=aT K;have bg:f.cell? ⟨w.heap.size,1,none⟩=some (.int .i64 aK):=aT K;have ai:=bV.keep ah (by simp);have cs:w.heap.size<f.heap.size:=by omega
 have ct:w.heap.size+1<f.heap.size:=by omega
 have cu:P.C<f.heap.size:=bp U.c;have ao:∀w',g3 w' P.fm M->Sem.run (ag A) (Instr.lookup 119 (.map (some P.fm)) (.agg #[.int .i64 left,.int .i64 aK]) true) w'=.ok (.tuple #[(M left aK).getD (.agg hv.a),.bool (M left aK).isSome]) w':=λw' aj=>qB (ag.underlying119 A) (.inl rfl) vH aj left aK true
 have al:=ao f.drew (ai.keep (row:=none) (fQ (Pw _ _)) (by simp));have am:=ao (f.alloc (.cells #[.int .i64 0,.int .i64 0,.int .i64 0,.int .i64 0,.int .i64 0] 124)).drew (ai.keep (row:=none) (fQ Pn) (by simp));have bh:f.cell? ⟨w.heap.size+1,0,none⟩=some (.int .i64 0):=aT m;have bi:f.cell? ⟨w.heap.size+1,1,none⟩=some (.int .i64 0):=aT m;have bk:f.cell? ⟨w.heap.size+1,2,none⟩=some (.int .i64 0):=aT m;have bl:f.cell? ⟨w.heap.size+1,3,none⟩=some (.int .i64 0):=aT m;have bm:f.cell? ⟨w.heap.size+1,4,none⟩=some (.int .i64 0):=aT m;have z0:=b1 (o:=0) m;have bn:=b1 (o:=1) m;have bo:=b1 (o:=2) m;have z3:=b1 (o:=3) m;have z4:=b1 (o:=4) m;have cg:=Pj ao;have bq:=Pj K;have br:=Pj m;have bP:=Pj s1;have bx:=Pj U;have bv:=Pj ah;have ci:=Pj ba;have ch:=Pj ai;have bB:=Pj aX;have g:=Pj H;have bF:=Pj I;clear h ah U ba aX H s1 K m ao ai;rw[a6] at al am;replace al:Sem.run (ag A) (Instr.lookup 119 (.map (some P.fm)) (.agg #[.int .i64 left,.int .i64 aK]) true) f.drew=.ok (.tuple #[.agg #[.int .i64 0,.int .i64 0,.int .i64 0,.int .i64 0,.int .i64 0],.bool false]) f.drew:=al;replace am:Sem.run (ag A) (Instr.lookup 119 (.map (some P.fm)) (.agg #[.int .i64 left,.int .i64 aK]) true) (f.alloc (.cells #[.int .i64 0,.int .i64 0,.int .i64 0,.int .i64 0,.int .i64 0] 124)).drew=.ok (.tuple #[.agg #[.int .i64 0,.int .i64 0,.int .i64 0,.int .i64 0,.int .i64 0],.bool false]) (f.alloc (.cells #[.int .i64 0,.int .i64 0,.int .i64 0,.int .i64 0,.int .i64 0] 124)).drew:=am;clear a6;clear I;obtain⟨d,ak⟩ : ∃W,(f.alloc (.cells #[.int .i64 0,.int .i64 0,.int .i64 0,.int .i64 0,.int .i64 0] 124)).drew=W:=⟨_,rfl⟩
 obtain⟨y,Y⟩ : ∃W,d.alloc (.cells #[.func (.func 83) #[] #[],.int .i64 0,.int .i64 0,.int .i64 0,.int .i64 0,.int .i64 0,.bool false] 169)=W:=⟨_,rfl⟩
 have aP:f.grownBy d none:=by rw[<-ak];exact fQ Pn
 have s2:d.heap.size=w.heap.size+3:=by rw[<-ak,m3,Pp,bP.out]
 have Q:f.grownBy y none:=by rw[<-Y];exact aP.trans Pn
 have bc:y.heap.size=w.heap.size+4:=by rw[<-Y,Pp,s2]
 have aC:y.heap[d.heap.size]?=some (.cells kz.a 169):=by rw[<-Y,h' _ _ _ rfl];rfl
 have V:=bx.out.eQ g.out.keep Q;have d0:y.cell? ⟨P.C,0,none⟩=some (.pointer (some ⟨P.T,0,none⟩)):=aT V.c;have d1:y.cell? ⟨P.C,1,none⟩=some (.int .i64 D.kind):=aT V.c;have cc:y.cell? ⟨w.heap.size,0,none⟩=some (.int .i64 left):=Q.cell bf (by simp);have ce:y.cell? ⟨w.heap.size,1,none⟩=some (.int .i64 aK):=Q.cell bg (by simp);have bC:=Pj (g.out.Aw y.drew (g.out.keep _ _ none V.j (fQ (Pw _ _)) (by simp)) left aK bY (by have:=g.out.e;omega));have jj:=Pj s2;have aA:=Pj bc;have bs:=Pj aC;have bz:=Pj V;have ax:=Pj Q;have bG:=Pj ak;have bH:=Pj Y;clear ak Y aP Q s2 bc aC V;go_enter eg.f85,Tryz.ntmps85;go_upto_region 1 with fail
 go_cut [6,7] from 12 to 20 (λb8 b9 z=>b8=.pointer (some ⟨f.heap.size,0,none⟩)/\b9=.bool false/\z=d)
 case first=>
  rw[bF.out];go_region
  all_goals (go_wp2_with fail;go_meet;exact⟨rfl,rfl,bG.out⟩)
 case rest=>
 obtain⟨rfl,rfl,b2⟩:=hcut;obtain rfl:=b2.symm;go_upto_region 5 with fail
 go_cut [9] from 24 to 33 (λcb z=>cb=.int .i64 (D.aX left aK)/\ek p D P z/\y.grownBy z (some P.T))
 case first=>
  rw[bH.out];go_region_with (go_at_call 52;refine bC.out.mono ?_;rintro e cf ⟨rfl,a8,q⟩;have aD:y.grownBy cf (some P.T):=⟨q.os,q.tape,q.output,q.size,q.block⟩;have bA:=Pj (bz.out.uw g.out.ok aD a8);have bw:=Pj aD;clear q aD a8)
  all_goals (go_wp2_with fail;go_meet;exact⟨rfl,bA.out,bw.out⟩)
 case rest=>
 obtain⟨rfl,aQ,q⟩:=hcut;have ar:=g.out.ok.T;have eJ:=bO.out;have aw:∀b,w.heap.size<=b->some b≠some P.T:=λb cl e=>by have:=Pm e;omega
 have J:je p D P d.heap.size left aK kz w wc:=⟨aQ,(q.block _ (by rw[jj.out,aA.out];omega) (aw _ (by rw[jj.out];omega))).trans bs.out,
  (q.block _ (by rw[aA.out];omega) (aw _ (by omega))).trans ((ax.out.block _ (by omega) (by simp)).trans bq.out),(q.block _ (by rw[aA.out];omega) (aw _ (by omega))).trans ((ax.out.block _ (by omega) (by simp)).trans br.out),
  ((ca.ig bv.out).trans (ca.ig ax.out)).trans (ca.of q (λr e=>.inl (by cases e;rfl))),by rw[jj.out];omega,by omega⟩
 have r0:wc.cell? ⟨w.heap.size,0,none⟩=some (.int .i64 left):=aT J.x;have r1:wc.cell? ⟨w.heap.size,1,none⟩=some (.int .i64 aK):=aT J.x;have G:wc.cell? ⟨P.C,2,none⟩=some (.int .i64 D.e):=aT J.h2.c;have b4:d.heap.size<wc.heap.size:=bp J.ch;have aJ:=Pj λc x w=>zP (A:=A) d.heap.size c x w
 have aL:=Pj J;have a2:∀n,wc.grownBy (wc.drewN n) none:=hM wc;clear ar eJ aw J aQ q cc ce d0 d1 bh bi bk bl bm z0 bn bo z3 z4 al am aO bf bg;go_upto_region 6 with fail
 go_cut [40] from 34 to 39 (λb7 z=>b7=.bool ((aK:Int) == (D.e:Int))/\je p D P d.heap.size left aK kz w z)
 case first=>
  cases Z:((aK:Int) == (D.e:Int))
  all_goals (
   go_quiet (fail);go_wp2_with fail
   go_meet
   exact⟨by rw[Z],aL.out.eQ g.out (a2 _)⟩)
 case rest=>
 clear r0 r1 G b4 a2 aL;obtain⟨rfl,av⟩:=hcut;have r0:wc.cell? ⟨w.heap.size,0,none⟩=some (.int .i64 left):=aT av.x;have r1:wc.cell? ⟨w.heap.size,1,none⟩=some (.int .i64 aK):=aT av.x;have af:=Pj av;clear av;go_upto_if 40 with (fail)
 go_cut [] from 40 to 44 (λz=>je p D P d.heap.size left aK (fJ D.aX D.e (bL D.aX D.e D.carry) left aK 0) w z)
 case first=>
  cases Z:((aK:Int) == (D.e:Int))
  case false=>
   go_wp2;go_meet
   rw[EL Z];exact af.out
  case true=>
   go_wp2_with (go_at_call 84;refine(aJ.out kz ⟨D.aX left aK,1,left,aK,-1⟩ wc af.out.ch).mono ?_;rintro e u ⟨rfl,bQ,R⟩)
   go_meet
   rw[EK Z];exact af.out.put g.out bQ R
 case rest=>
 clear r0 r1 af;have r1:wc.cell? ⟨w.heap.size,1,none⟩=some (.int .i64 aK):=aT hcut.x;have bK:=Pj hcut;clear hcut;obtain⟨cnt,aV⟩ : ∃n,n=if aK<D.e then min D.e (aK+D.carry)+1-aK else 0:=⟨_,rfl⟩
 have ae:=Pj aV;clear aV;go_wp2;go_loopw [10] (λi wr=>∃h:Nat,i=.int .i64 h/\(aK<=h/\h<=aK+cnt)/\je p D P d.heap.size left aK (fJ D.aX D.e (bL D.aX D.e D.carry) left aK (h-aK)) w wr) (λi _=>aK+cnt+1-(numOf i))
 case atStart=>exact⟨aK,rfl,⟨Pk,by omega⟩,by rw[Nat.sub_self];exact bK.out⟩
 case round=>
  obtain⟨h,rfl,aY,bj⟩:=hrel;have b5:wr.cell? ⟨w.heap.size,0,none⟩=some (.int .i64 left):=aT bj.x;have q1:wr.cell? ⟨w.heap.size,1,none⟩=some (.int .i64 aK):=aT bj.x;have cv:wr.cell? ⟨P.C,2,none⟩=some (.int .i64 D.e):=aT bj.h2.c;have cw:wr.cell? ⟨P.C,3,none⟩=some (.int .i64 D.carry):=aT bj.h2.c;have ck:=g.out.e;have cm:=g.out.carry;have cq:IntKind.i64.wrap ((aK:Int)+D.carry)=aK+D.carry:=IntWalk.i64_in _ (by omega);have E:=Pj bj;clear bj;by_cases co:h<aK+cnt
  . have ap:aK<D.e:=by
     refine Classical.byContradiction λb0=>?_
     have:=ae.out;rw[if_neg b0] at this;omega
    have aU:=ae.out;rw[if_pos ap] at aU;have t1:decide ((h:Int)<=min (D.e:Int) (aK+D.carry))=true:=by simp;omega
    have t2:decide ((aK:Int)<D.e)=true:=by simp;omega
    have bX:h<=D.e:=by omega
    clear aU;go_wp2;by_cases aq:left=aK/\h=aK
    . have s1:((left:Int) == (h:Int))=true:=by simp;omega
      have s2:((aK:Int) == (h:Int))=true:=by simp;omega
      have az:=Pj aq;clear aq;go_wp2;go_quiet (fail);go_wp2;go_roundw
      case rel=>
       obtain⟨r1,cx⟩:=az.out;exact⟨h+1,by go_num,by omega,by rw[show h+1-aK=0+1 by omega,EM ⟨r1,rfl⟩,show 0=h-aK by omega];exact E.out.eQ g.out (hM _ _)⟩
      case measure=>simp[numOf];omega
    . have s1:(((left:Int) == (h:Int)) && ((aK:Int) == (h:Int)))=false:=by
       cases L:((left:Int) == (h:Int))
       . rfl
       . cases G:((aK:Int) == (h:Int))
         . rfl
         . rw[beq_iff_eq] at L G
           omega
      have bZ:left<h:=by omega
      have az:=Pj aq;clear aq;go_wp2;go_quiet (fail);go_wp2_with (go_at_call 58;refine(bB.out h bZ bX (wr.drewN nq) (E.out.eQ g.out (hM _ _)).h2).mono ?_;rintro e u ⟨rfl,aR,R⟩)
      have C:=((E.out.eQ g.out (hM wr nq)).na aR R).eQ g.out (fQ (Pv u (.cells (bL D.aX D.e D.carry h).a 124) none));have bW:=EV (carry:=D.carry) g.out.gw g.out.e h;have Z:=g.out.gw left aK;have a0:(u.alloc (.cells (bL D.aX D.e D.carry h).a 124)).drew.cell? ⟨u.heap.size,0,none⟩=some (.int .i64 (bL D.aX D.e D.carry h).cost):=Pr rfl;have aM:(u.alloc (.cells (bL D.aX D.e D.carry h).a 124)).drew.cell? ⟨u.heap.size,1,none⟩=some (.int .i64 (bL D.aX D.e D.carry h).ee):=Pr rfl;have aN:(u.alloc (.cells (bL D.aX D.e D.carry h).a 124)).drew.cell? ⟨w.heap.size,0,none⟩=some (.int .i64 left):=aT C.x;have a3:(u.alloc (.cells (bL D.aX D.e D.carry h).a 124)).drew.cell? ⟨w.heap.size,1,none⟩=some (.int .i64 aK):=aT C.x;have ar:=aJ.out (fJ D.aX D.e (bL D.aX D.e D.carry) left aK (h-aK)) ⟨D.aX left aK+(bL D.aX D.e D.carry h).cost,(bL D.aX D.e D.carry h).ee+1,left,aK,h⟩ _ C.ch;have aZ:u.heap.size≠d.heap.size:=by have U:=bp ((R.block d.heap.size (bp E.out.ch) (λb3=>by have:=C.old;have:=C.lt;rcases b3 with e|e|e<;>omega)).trans E.out.ch);omega
      have a1:w.heap.size≠d.heap.size:=by have:=C.lt;omega
      have bJ:=Pj C;clear C aR R;obtain⟨K,m,aC,cj⟩:=bW;have a4:=B0 (F:=A) (u.alloc (.cells (bL D.aX D.e D.carry h).a 124)).drew (D.aX left aK) (bL D.aX D.e D.carry h).cost (by omega) (by omega);have bE:=Pj ar;have bD:=Pj a4;clear ar a4;have bt:=Pj (show fJ D.aX D.e (bL D.aX D.e D.carry) left aK (h+1-aK)=(fJ D.aX D.e (bL D.aX D.e D.carry) left aK (h-aK)).take ⟨D.aX left aK+(bL D.aX D.e D.carry h).cost,(bL D.aX D.e D.carry h).ee+1,left,aK,h⟩ by rw[show h+1-aK=(h-aK)+1 by omega,EN (λaY=>az.out ⟨aY.1,by omega⟩),show aK+(h-aK)=h by omega])
      generalize bL D.aX D.e D.carry h=aa at *;have cr:IntKind.i64.wrap (aa.ee+1)=aa.ee+1:=IntWalk.i64_in _ (by omega);go_region_held3 (λw'=>w'.cell? ⟨u.heap.size,0,none⟩=some (.int .i64 aa.cost)/\w'.cell? ⟨u.heap.size,1,none⟩=some (.int .i64 aa.ee)/\w'.cell? ⟨w.heap.size,0,none⟩=some (.int .i64 left)/\w'.cell? ⟨w.heap.size,1,none⟩=some (.int .i64 aK))
       (first|exact⟨a0,aM,aN,a3⟩|exact⟨bu,bS,bT,c3⟩)
       (first|(go_at_call 53;refine(m' _ _).mono ?_;rintro e w' ⟨rfl,rfl⟩)|(go_at_call 80;refine bD.out.mono ?_;rintro e w' ⟨rfl,rfl⟩)|(go_at_call 84;refine bE.out.mono ?_;rintro e cz ⟨rfl,b6,T⟩;have bu:=T.cell a0 (λe=>aZ (Pm e));have bS:=T.cell aM (λe=>aZ (Pm e));have bT:=T.cell aN (λe=>a1 (Pm e));have c3:=T.cell a3 (λe=>a1 (Pm e))))
      go_wp2;go_roundw
      case rel=>exact⟨h+1,by go_num,by omega,by rw[bt.out];exact bJ.out.put g.out b6 T⟩
      case measure=>simp[numOf];omega
  . obtain rfl:h=aK+cnt:=by omega
    have aW:fJ D.aX D.e (bL D.aX D.e D.carry) left aK (aK+cnt-aK)=eG D.aX D.e D.carry left aK:=by rw[eG,mS,<-ae.out,Nat.add_sub_cancel_left]
    have bj:=E.out;rw[aW] at bj;have ay:=Pj bj;have aG:decide (((aK+cnt:Nat):Int)<=min (D.e:Int) (aK+D.carry))=false\/(decide (((aK+cnt:Nat):Int)<=min (D.e:Int) (aK+D.carry))=true/\decide (aK<D.e)=false):=by
     have:=ae.out;by_cases ap:aK<D.e
     . rw[if_pos ap] at this
       left;simp;omega
     . rw[if_neg ap] at this
       right;simp;omega
    clear aW bj E;generalize aK+cnt=h at *;have bd:∀n,(wr.drewN n).cell? ⟨d.heap.size,6,none⟩=some (.bool (eG D.aX D.e D.carry left aK).some):=λn=>aT ay.out.ch
    rcases aG with t1|⟨t1,t2⟩
    all_goals (
     go_wp2;go_quiet (fail);generalize hW:wr.drewN nq=W at *;have j:je p D P d.heap.size left aK (eG D.aX D.e D.carry left aK) w W:=by rw[<-hW];exact ay.out.eQ g.out (hM _ _)
     have bd:W.cell? ⟨d.heap.size,6,none⟩=some (.bool (eG D.aX D.e D.carry left aK).some):=aT j.ch;have bM:=Pj j;clear j hW ay;obtain⟨c,aF⟩ : ∃c,eG D.aX D.e D.carry left aK=c:=⟨_,rfl⟩
     have ad:=Pj aF;rw[aF] at bd;clear aF;go_upto_if 93 with (fail)
     go_cut [] from 93 to 100 (λz=>je p D P d.heap.size left aK c w z)
     case first=>
      have j:=bM.out;rw[ad.out] at j;cases aG:c.some
      . go_wp2
        go_meet
        exact j
      . have aO:W.cell? ⟨P.C,4,none⟩=some (.map (some P.fm)):=aT j.h2.c
        have b5:W.cell? ⟨w.heap.size,0,none⟩=some (.int .i64 left):=aT j.x;have q1:W.cell? ⟨w.heap.size,1,none⟩=some (.int .i64 aK):=aT j.x;have v1:W.cell? ⟨d.heap.size,1,none⟩=some (.int .i64 c.cf.cost):=aT j.ch;have v2:W.cell? ⟨d.heap.size,2,none⟩=some (.int .i64 c.cf.ee):=aT j.ch;have v3:W.cell? ⟨d.heap.size,3,none⟩=some (.int .i64 c.cf.left):=aT j.ch;have v4:W.cell? ⟨d.heap.size,4,none⟩=some (.int .i64 c.cf.aK):=aT j.ch;have v5:W.cell? ⟨d.heap.size,5,none⟩=some (.int .i64 c.cf.next):=aT j.ch;obtain⟨bR,aj,bb⟩:=j.h2.f;have aS:g3 W.drew P.fm bR:=aj.keep (row:=none) (fQ (Pw _ _)) (by simp);obtain⟨aI,a5,a9,B,z9⟩:=A6 (ag.underlying119 A) (.inl rfl) aS (left:Int) (aK:Int) (.agg c.cf.a);replace a5:Sem.run (ag A) (Instr.mapUpdate 119 (.map (some P.fm)) (.agg #[.int .i64 left,.int .i64 aK]) (.agg #[.int .i64 c.cf.cost,.int .i64 c.cf.ee,.int .i64 c.cf.left,.int .i64 c.cf.aK,.int .i64 c.cf.next])) W.drew=.ok () aI:=a5;have aE:W.grownBy aI (some P.fm):=⟨B.os,B.tape,B.output,B.size,B.block⟩
        have a7:je p D P d.heap.size left aK c w aI:=j.na (j.h2.Kr g.out.ok g.out.keep aE ⟨_,a9,by have:=bb.put left aK (by rw[ad.out];exact aG);rw[ad.out] at this;exact this⟩) (ca.of aE (λr e=>.inr (.inl (by cases e;rfl))))
        have bN:=Pj a7;clear a7 aE a9 B z9 aS aj bb j;go_wp2;go_region
        all_goals (go_wp2_with fail;go_meet;exact bN.out)
     case rest=>
     have v1:wc.cell? ⟨d.heap.size,1,none⟩=some (.int .i64 c.cf.cost):=aT hcut.ch;have v2:wc.cell? ⟨d.heap.size,2,none⟩=some (.int .i64 c.cf.ee):=aT hcut.ch;have v3:wc.cell? ⟨d.heap.size,3,none⟩=some (.int .i64 c.cf.left):=aT hcut.ch;have v4:wc.cell? ⟨d.heap.size,4,none⟩=some (.int .i64 c.cf.aK):=aT hcut.ch;have v5:wc.cell? ⟨d.heap.size,5,none⟩=some (.int .i64 c.cf.next):=aT hcut.ch;have cy:wc.cell? ⟨d.heap.size,6,none⟩=some (.bool c.some):=aT hcut.ch;have bh:wc.cell? ⟨w.heap.size+1,0,none⟩=some (.int .i64 0):=aT hcut.z;have bi:wc.cell? ⟨w.heap.size+1,1,none⟩=some (.int .i64 0):=aT hcut.z;have bk:wc.cell? ⟨w.heap.size+1,2,none⟩=some (.int .i64 0):=aT hcut.z;have bl:wc.cell? ⟨w.heap.size+1,3,none⟩=some (.int .i64 0):=aT hcut.z;have bm:wc.cell? ⟨w.heap.size+1,4,none⟩=some (.int .i64 0):=aT hcut.z;have z0:=b1 (o:=0) hcut.z;have bn:=b1 (o:=1) hcut.z;have bo:=b1 (o:=2) hcut.z;have z3:=b1 (o:=3) hcut.z;have z4:=b1 (o:=4) hcut.z;have cp:w.heap.size+1≠d.heap.size:=by have:=hcut.lt;omega
     have bI:=Pj hcut;clear hcut;go_wp2;go_region
     all_goals (
      go_wp2;have au:=bI.out;obtain⟨L,G,bU⟩:=uT (w:=w) (b:=w.heap.size+1) (W:=wc) (c:=hv.a) c.cf rfl au.z (by omega) (X:=P.X) au.e4;have aH:=au.h2.keep g.out.keep bU (λb e=>by have:=au.old;cases e;omega);revert L G aH;generalize ((((wc.setCell ⟨w.heap.size+1,0,none⟩ (.int .i64 c.cf.cost)).setCell ⟨w.heap.size+1,1,none⟩ (.int .i64 c.cf.ee)).setCell ⟨w.heap.size+1,2,none⟩ (.int .i64 c.cf.left)).setCell ⟨w.heap.size+1,3,none⟩ (.int .i64 c.cf.aK)).setCell ⟨w.heap.size+1,4,none⟩ (.int .i64 c.cf.next)=aB;intro L G aH;have B:aB.grownBy aB.drew none:=fQ (Pw _ _);refine bodyPost_ret (Ch rfl _ _ (w.heap.size+1) 124 c.cf.a (0,0) _ rfl (show aB.drew.heap[w.heap.size+1]?=some (.cells c.cf.a 124 (0,0)) from L) (ag.underlying124 A) rfl u' _ rfl) rfl ?_;exact⟨by rw[ad.out];rfl,aH.eQ g.out.keep B,G.trans (ca.ig B)⟩))
theorem EO[S:Std A][eg:gQ A]{c:World->Prop}{D:fb}{P:fc}(H:jf A c D P)(left aK:Nat)(i:left<=aK)(f:aK<=D.e)(g:∀l,left<l->l<=D.e->p1 A c D P l)(w:World)(h:ek c D P w):
 Calls (ag A) 85 #[.pointer (some ⟨P.C,0,none⟩),.agg #[.int .i64 left,.int .i64 aK]] w λe w'=>e=.returned (.tuple #[.agg (eG D.aX D.e D.carry left aK).cf.a,.bool (eG D.aX D.e D.carry left aK).some])/\ek c D P w'/\ca P.X w w':=by
 obtain⟨M,d,m⟩:=h.f;cases j:M left aK with
 | some v=>exact EP H left aK i f g w h d m j
 | none=>exact ER H left aK i f g w h d m j
end
end Go.aN
