/- A part. -/
import Derived.Test.YtoebddanaobpaaaGreatDoorP27
import Derived.Laws.EntriesVeiled
import Derived.Deep.Cut
import Derived.Deep.CutRange
import Derived.Deep.RegionHeld3
import Derived.BigQuiet
set_option maxHeartbeats 8000000
set_option maxRecDepth 100000
set_option linter.all false
namespace Go.aO
open Go.Proofs Tryz Go.RowKit
variable{aP b e:Nat}{a7:Nat->Nat->Int}{g:Nat->dY}{aL w w':S7}{d:TQ}{c:gE}{D:gd}{P:gl}
section
variable{A:TJ}
structure kx(bf:TQ)(D:gd)(P:gl)(b:Nat)(S' aP:Nat)(c:gE)(aL w:S7):Prop where
 jq:e2 bf D P w
 ch:w.heap[b]?=some (.cells c.a 150)
 x:w.heap[aL.heap.size]?=some (.cells #[ah S',ah aP] 63)
 z:w.heap[aL.heap.size+1]?=some (.cells iK.a 84)
 fY:cp P.X aL w
 lt:aL.heap.size+2<=b
 old:P.T<aL.heap.size/\P.B<=aL.heap.size/\P.C<aL.heap.size/\P.fm<aL.heap.size/\P.gJ<aL.heap.size
def kx.fF{S':Nat}(h:kx d D P b S' aP c aL w)(H:ky A d D P)(g:w.grownBy w' none):kx d D P b S' aP c aL w':=
 ⟨h.jq.fF H.keep g,(g.block _ (bu h.ch) aF).trans h.ch,(g.block _ (bu h.x) aF).trans h.x,(g.block _ (bu h.z) aF).trans h.z,h.fY.step g aF,h.lt,h.old⟩
def kx.oV{f:TQ}{S':Nat}(h:kx f D P b S' aP c aL w)(k:e2 f D P w')(g:cp P.X w w'):kx f D P b S' aP c aL w':=by
 have j:=h.lt;have l:=h.old;have d:∀i,aL.heap.size<=i->¬P.X i:=λi m d=>by rcases d with rfl|rfl|rfl<;>omega
 exact⟨k,(g.block _ (bu h.ch) (d _ U)).trans h.ch,(g.block _ (bu h.x) (d _ U)).trans h.x,(g.block _ (bu h.z) (d _ U)).trans h.z,h.fY.trans g,h.lt,h.old⟩
def kx.put{S':Nat}{bp:gE}(h:kx d D P b S' aP c aL w)(H:ky A d D P)(e:w'.heap[b]?=some (.cells bp.a 150))(g:w.grownBy w' (some b)):kx d D P b S' aP bp aL w':=by
 have l:=h.lt;have m:=h.old;have f:∀i,i≠b->some i≠some b:=λi j e=>j (bD e)
 exact⟨h.jq.keep H.keep g (λr e=>by cases e;omega),e,(g.block _ (bu h.x) (f _ U)).trans h.x,(g.block _ (bu h.z) (f _ U)).trans h.z,h.fY.step g (λr e=>.inr (by cases e;omega)),h.lt,h.old⟩
def HU{S':Nat}(h:((aP:Int) == (e:Int))=false):gR a7 e g S' aP 0=lT:=by rw[gR,Tm (λc=>by subst c;simp at h)]
def HT{S':Nat}(h:((aP:Int) == (e:Int))=true):gR a7 e g S' aP 0=lT.take ⟨a7 S' aP,1,S',aP,-1⟩:=by rw[gR,Tq (by rw[beq_iff_eq]at h;omega)]
def HZ[S:Std A][eY:jx A]{p:TQ}(H:ky A p D P)(S' aP:Nat)(b0:S'<=aP)(cm:aP<=D.e)(a1:∀l,S'<l->l<=D.e->rP A p D P l)(w:S7)(h:e2 p D P w){M:Int->Int->TZ}(bX:ij w P.fm M)(b6:qw D M)(a8:M S' aP=none):
 Calls (ao A) 56 #[Tj P.C,.agg #[ah S',ah aP]] w λe w'=>e=.returned (.tuple #[.agg (D.T3 S' aP).cu.a,.bool (D.T3 S' aP).some])/\e2 p D P w'/\cp P.X w w':=by
 obtain⟨f,I⟩:∃W,(w.alloc (.cells #[ah S',ah aP] 63)).alloc (.cells #[ah 0,ah 0,ah 0,ah 0,ah 0] 84)=W:=⟨_,S6⟩
 have ai:w.grownBy f none:=by rw[<-I];exact bT.trans bT
 have s1:f.heap.size=w.heap.size+2:=by rw[<-I];simp
 have J:f.heap[w.heap.size]?=some (.cells #[ah S',ah aP] 63):=by rw[<-I,dm aF,fM]
 have m:f.heap[w.heap.size+1]?=some (.cells iK.a 84):=by rw[<-I,jA _ _ _ aF];rfl
 have T:=h.fF H.keep ai;have bQ:=al (h.fv H);have aR:f.cell? (S8 P.C 4)=some (.map (some P.fm)):=aU T.c;have bh:f.cell? (Ti w.heap.size)=Tn S':=aU J;have bi:f.cell? (S8 w.heap.size 1)=Tn aP:=aU J;have aG:=bX.keep ai aF;have cr:w.heap.size<f.heap.size:=U;have cs:w.heap.size+1<f.heap.size:=U;have ct:P.C<f.heap.size:=bu T.c;have aJ:∀w',ij w' P.fm M->Sem.run (ao A) (Instr.lookup 78 (.map (some P.fm)) (.agg #[ah S',ah aP]) true) w'=.ok (.tuple #[(M S' aP).getD (.agg iK.a),.bool (M S' aP).isSome]) w':=λw' aj=>sy (ao.underlying119 A) (.inl S6) yi aj S' aP true
 have am:=aJ f.drew (aG.keep (row:=none) (gv (e6 _ _)) aF);have ap:=aJ (f.alloc (.cells #[ah 0,ah 0,ah 0,ah 0,ah 0] 84)).drew (aG.keep (row:=none) (gv bT) aF);have bj:f.cell? (Ti (w.heap.size+1))=Tn 0:=aU m;have bk:f.cell? (S8 (w.heap.size+1) 1)=Tn 0:=aU m;have bl:f.cell? (S8 (w.heap.size+1) 2)=Tn 0:=aU m;have bm:f.cell? (S8 (w.heap.size+1) 3)=Tn 0:=aU m;have bn:f.cell? (S8 (w.heap.size+1) 4)=Tn 0:=aU m;have z0:=b3 (o:=0) m;have bo:=b3 (o:=1) m;have bp:=b3 (o:=2) m;have z3:=b3 (o:=3) m;have z4:=b3 (o:=4) m;have bq:=al J;have bs:=al m;have bR:=al s1;have bA:=al T;have bw:=al ai;have bE:=al a1;have g:=al H;have bI:=al I;clear h ai T b6 a1 H s1 J m aJ aG;rw[a8]at am ap;replace am:Sem.run (ao A) (Instr.lookup 78 (.map (some P.fm)) (.agg #[ah S',ah aP]) true) f.drew=.ok (.tuple #[.agg #[ah 0,ah 0,ah 0,ah 0,ah 0],.bool false]) f.drew:=am;replace ap:Sem.run (ao A) (Instr.lookup 78 (.map (some P.fm)) (.agg #[ah S',ah aP]) true) (f.alloc (.cells #[ah 0,ah 0,ah 0,ah 0,ah 0] 84)).drew=.ok (.tuple #[.agg #[ah 0,ah 0,ah 0,ah 0,ah 0],.bool false]) (f.alloc (.cells #[ah 0,ah 0,ah 0,ah 0,ah 0] 84)).drew:=ap;clear a8;clear I;obtain⟨d,ak⟩:∃W,(f.alloc (.cells #[ah 0,ah 0,ah 0,ah 0,ah 0] 84)).drew=W:=⟨_,S6⟩
 obtain⟨y,Y⟩:∃W,d.alloc (.cells #[.func (.func 54) #[] #[],ah 0,ah 0,ah 0,ah 0,ah 0,.bool false] 150)=W:=⟨_,S6⟩
 have aS:f.grownBy d none:=by rw[<-ak];exact gv bT
 have s2:d.heap.size=w.heap.size+3:=by rw[<-ak,oL,cV,bR.out]
 have L:f.grownBy y none:=by rw[<-Y];exact aS.trans bT
 have bd:y.heap.size=w.heap.size+4:=by rw[<-Y,cV,s2]
 have cG:y.heap[d.heap.size]?=some (.cells lT.a 150):=by rw[<-Y,jA _ _ _ S6];rfl
 have V:=bA.out.fF g.out.keep L;have d0:y.cell? (Ti P.C)=some (Tj P.T):=aU V.c;have d1:y.cell? (S8 P.C 1)=Tn D.kind:=aU V.c;have cf:y.cell? (Ti w.heap.size)=Tn S':=L.cell bh aF;have cg:y.cell? (S8 w.heap.size 1)=Tn aP:=L.cell bi aF;have bF:=al (g.out.C3 y.drew (g.out.keep _ _ none V.j (gv (e6 _ _)) aF) S' aP b0 (by have:=g.out.e;omega));have kC:=al s2;have aB:=al bd;have bt:=al cG;have bB:=al V;have ay:=al L;have bJ:=al ak;have bK:=al Y;clear ak Y aS L s2 bd cG V;go_enter eY.f85,ntmps56;go_upto_region 1 with fail
 go_cut [6,7]from 12 to 20 (λcb cc z=>cb=Tj f.heap.size/\cc=.bool false/\z=d)
 case first=>
  rw[bI.out];go_region
  all_goals (go_wp2_with fail;go_meet;exact⟨S6,S6,bJ.out⟩)
 case rest=>
 obtain⟨rfl,rfl,b4⟩:=hcut;obtain rfl:=b4.symm;go_upto_region 5 with fail
 go_cut [9]from 24 to 33 (λce z=>ce=ah (D.a7 S' aP)/\e2 p D P z/\y.grownBy z (some P.T))
 case first=>
  rw[bK.out];go_region_with (go_at_call 36;refine bF.out.mono ?_;rintro e ch ⟨rfl,ba,q⟩;have aD:y.grownBy ch (some P.T):=⟨q.os,q.tape,q.output,q.size,q.block⟩;have bC:=al (bB.out.wQ g.out.ok aD ba);have bz:=al aD;clear q aD ba)
  all_goals (go_wp2_with fail;go_meet;exact⟨S6,bC.out,bz.out⟩)
 case rest=>
 obtain⟨rfl,aT,q⟩:=hcut;have au:=g.out.ok.T;have fv:=bQ.out;have ax:∀b,w.heap.size<=b->some b≠some P.T:=λb ck e=>by have:=bD e;omega
 have aa:kx p D P d.heap.size S' aP lT w wc:=⟨aT,(q.block _ (by rw[kC.out,aB.out];omega) (ax _ (by rw[kC.out];omega))).trans bt.out,
  (q.block _ (by rw[aB.out];omega) (ax _ U)).trans ((ay.out.block _ U aF).trans bq.out),(q.block _ (by rw[aB.out];omega) (ax _ U)).trans ((ay.out.block _ U aF).trans bs.out),
  ((cp.jF bw.out).trans (cp.jF ay.out)).trans (cp.of q (λr e=>.inl (by cases e;rfl))),by rw[kC.out];omega,U⟩
 have r0:wc.cell? (Ti w.heap.size)=Tn S':=aU aa.x;have r1:wc.cell? (S8 w.heap.size 1)=Tn aP:=aU aa.x;have G:wc.cell? (S8 P.C 2)=Tn D.e:=aU aa.jq.c;have aM:=al λc x w=>Cp (A:=A) d.heap.size c x w
 have aN:=al aa;have a6:∀n,wc.grownBy (wc.drewN n) none:=hl wc;clear au fv ax aa aT q cf cg d0 d1 bj bk bl bm bn z0 bo bp z3 z4 am ap aR bh bi;go_upto_region 6 with fail
 go_cut [40]from 34 to 39 (λca z=>ca=.bool ((aP:Int) == (D.e:Int))/\kx p D P d.heap.size S' aP lT w z)
 case first=>
  cases Z:((aP:Int) == (D.e:Int))
  all_goals (
   go_quiet (fail);go_wp2_with fail
   go_meet
   exact⟨by rw[Z],aN.out.fF g.out (a6 _)⟩)
 case rest=>
 clear r0 r1 G a6 aN;obtain⟨rfl,aw⟩:=hcut;have r0:wc.cell? (Ti w.heap.size)=Tn S':=aU aw.x;have r1:wc.cell? (S8 w.heap.size 1)=Tn aP:=aU aw.x;have ag:=al aw;clear aw;go_upto_if 40 with(fail)
 go_cut []from 40 to 44 (λz=>kx p D P d.heap.size S' aP (gR D.a7 D.e D.TK S' aP 0) w z)
 case first=>
  cases Z:((aP:Int) == (D.e:Int))
  case false=>
   go_wp2;go_meet
   rw[HU Z];exact ag.out
  case true=>
   go_wp2_with (go_at_call 55;refine(aM.out lT ⟨D.a7 S' aP,1,S',aP,-1⟩ wc ag.out.ch).mono ?_;rintro e u ⟨rfl,bS,Q⟩)
   go_meet
   rw[HT Z];exact ag.out.put g.out bS Q
 case rest=>
 clear r0 r1 ag;have r1:wc.cell? (S8 w.heap.size 1)=Tn aP:=aU hcut.x;have bN:=al hcut;clear hcut;obtain⟨cnt,aY⟩:∃n,n=if aP<D.e then min D.e (aP+D.carry)+1-aP else 0:=⟨_,S6⟩
 have af:=al aY;clear aY;go_wp2;go_loopw [10] (λi wr=>∃h:Nat,i=ah h/\(aP<=h/\h<=aP+cnt)/\kx p D P d.heap.size S' aP (gR D.a7 D.e D.TK S' aP (h-aP)) w wr) (λi _=>aP+cnt+1-(numOf i))
 case atStart=>exact⟨aP,S6,⟨bg,U⟩,by rw[Nat.sub_self];exact bN.out⟩
 case round=>
  obtain⟨h,rfl,a2,br⟩:=hrel;have b8:wr.cell? (Ti w.heap.size)=Tn S':=aU br.x;have q1:wr.cell? (S8 w.heap.size 1)=Tn aP:=aU br.x;have cu:wr.cell? (S8 P.C 2)=Tn D.e:=aU br.jq.c;have cv:wr.cell? (S8 P.C 3)=Tn D.carry:=aU br.jq.c;have cj:=g.out.e;have cl:=g.out.carry;have co:IntKind.i64.wrap ((aP:Int)+D.carry)=aP+D.carry:=IntWalk.i64_in _ U;have E:=al br;clear br;by_cases cn:h<aP+cnt
  .have aq:aP<D.e:=by
    refine Uh λb2=>?_
    have:=af.out;rw[Tm b2]at this;omega
   have aX:=af.out;rw[Tq aq]at aX;have t1:decide ((h:Int)<=min (D.e:Int) (aP+D.carry))=true:=cH;have t2:decide ((aP:Int)<D.e)=true:=cH;have bZ:h<=D.e:=U;clear aX;go_wp2;by_cases ar:S'=aP/\h=aP
   .have s1:((S':Int) == (h:Int))=true:=cH
    have s2:((aP:Int) == (h:Int))=true:=cH;have aA:=al ar;clear ar;go_wp2;go_quiet (fail);go_wp2;go_roundw
    case rel=>
     let⟨r1,cw⟩:=aA.out;exact⟨h+1,by go_num,U,by rw[show h+1-aP=0+1 by omega,HV ⟨r1,S6⟩,show 0=h-aP by omega];exact E.out.fF g.out (hl _ _)⟩
    case measure=>simp[numOf];omega
   .have s1:(((S':Int) == (h:Int)) && ((aP:Int) == (h:Int)))=false:=by
     cases K:((S':Int) == (h:Int))
     .rfl
     .cases G:((aP:Int) == (h:Int))
      .rfl
      .rw[beq_iff_eq]at K G
       omega
    have b1:S'<h:=U;have aA:=al ar;clear ar;go_wp2;go_quiet (fail);go_wp2_with (go_at_call 30;refine(bE.out h b1 bZ (wr.drewN nq) (E.out.fF g.out (hl _ _)).jq).mono ?_;rintro e u ⟨rfl,aV,Q⟩)
    have C:=((E.out.fF g.out (hl wr nq)).oV aV Q).fF g.out (gv (dU u (.cells (D.TK h).a 84) none));have bY:lq 120 (D.TK h):=H4 (Tr:=D.carry) g.out.hL g.out.e h;have Z:=g.out.hL S' aP;have a0:(u.alloc (.cells (D.TK h).a 84)).drew.cell? (Ti u.heap.size)=Tn (D.TK h).cost:=dR S6;have aO:(u.alloc (.cells (D.TK h).a 84)).drew.cell? (S8 u.heap.size 1)=Tn (D.TK h).eW:=dR S6;have aQ:(u.alloc (.cells (D.TK h).a 84)).drew.cell? (Ti w.heap.size)=Tn S':=aU C.x;have a3:(u.alloc (.cells (D.TK h).a 84)).drew.cell? (S8 w.heap.size 1)=Tn aP:=aU C.x;have au:=aM.out (gR D.a7 D.e D.TK S' aP (h-aP)) ⟨D.a7 S' aP+(D.TK h).cost,(D.TK h).eW+1,S',aP,h⟩ _ C.ch;have a4:u.heap.size≠d.heap.size:=by have T:=bu ((Q.block d.heap.size (bu E.out.ch) (λb5=>by have:=C.old;have:=C.lt;rcases b5 with e|e|e<;>omega)).trans E.out.ch);omega
    have a5:w.heap.size≠d.heap.size:=by have:=C.lt;omega
    have bM:=al C;clear C aV Q;obtain⟨J,m,cG,ci⟩:=bY;have hp:=ER (F:=A) (u.alloc (.cells (D.TK h).a 84)).drew (D.a7 S' aP) (D.TK h).cost U U;have bH:=al au;have bG:=al hp;clear au hp;have bv:=al (show gR D.a7 D.e D.TK S' aP (h+1-aP)=(gR D.a7 D.e D.TK S' aP (h-aP)).take ⟨D.a7 S' aP+(D.TK h).cost,(D.TK h).eW+1,S',aP,h⟩ by rw[show h+1-aP=(h-aP)+1 by omega,HW (λa2=>aA.out ⟨a2.1,U⟩),show aP+(h-aP)=h by omega])
    generalize D.TK h=ad at *;have cq:IntKind.i64.wrap (ad.eW+1)=ad.eW+1:=IntWalk.i64_in _ U;go_region_held3 (λw'=>w'.cell? (Ti u.heap.size)=Tn ad.cost/\w'.cell? (S8 u.heap.size 1)=Tn ad.eW/\w'.cell? (Ti w.heap.size)=Tn S'/\w'.cell? (S8 w.heap.size 1)=Tn aP)
     (first|exact⟨a0,aO,aQ,a3⟩|exact⟨bx,bU,bV,c3⟩)
     (first|(go_at_call 31;refine(oT _ _).mono ?_;rintro e w' ⟨rfl,rfl⟩)|(go_at_call 60;refine bG.out.mono ?_;rintro e w' ⟨rfl,rfl⟩)|(go_at_call 55;refine bH.out.mono ?_;rintro e cy ⟨rfl,b9,R⟩;have bx:=R.cell a0 (λe=>a4 (bD e));have bU:=R.cell aO (λe=>a4 (bD e));have bV:=R.cell aQ (λe=>a5 (bD e));have c3:=R.cell a3 (λe=>a5 (bD e))))
    go_wp2;go_roundw
    case rel=>exact⟨h+1,by go_num,U,by rw[bv.out];exact bM.out.put g.out b9 R⟩
    case measure=>simp[numOf];omega
  .obtain rfl:h=aP+cnt:=U
   have aZ:gR D.a7 D.e D.TK S' aP (aP+cnt-aP)=D.T3 S' aP:=by show _=fq D.a7 D.e D.carry S' aP;rw[fq,oC,<-af.out,Nat.add_sub_cancel_left]
   have br:=E.out;rw[aZ]at br;have az:=al br;have aI:decide (((aP+cnt:Nat):Int)<=min (D.e:Int) (aP+D.carry))=false\/(decide (((aP+cnt:Nat):Int)<=min (D.e:Int) (aP+D.carry))=true/\decide (aP<D.e)=false):=by
    have:=af.out;by_cases aq:aP<D.e
    .rw[Tq aq]at this
     left;simp;omega
    .rw[Tm aq]at this
     right;simp;omega
   clear aZ br E;generalize aP+cnt=h at *;have bf:∀n,(wr.drewN n).cell? (S8 d.heap.size 6)=some (.bool (D.T3 S' aP).some):=λn=>aU az.out.ch
   rcases aI with t1|⟨t1,t2⟩
   all_goals (
    go_wp2;go_quiet (fail);generalize hW:wr.drewN nq=W at *;have j:kx p D P d.heap.size S' aP (D.T3 S' aP) w W:=by rw[<-hW];exact az.out.fF g.out (hl _ _)
    have bf:W.cell? (S8 d.heap.size 6)=some (.bool (D.T3 S' aP).some):=aU j.ch;have bO:=al j;clear j hW az;obtain⟨c,aH⟩:∃c,D.T3 S' aP=c:=⟨_,S6⟩
    have ae:=al aH;rw[aH]at bf;clear aH;go_upto_if 93 with(fail)
    go_cut []from 93 to 100 (λz=>kx p D P d.heap.size S' aP c w z)
    case first=>
     have j:=bO.out;rw[ae.out]at j;cases aI:c.some
     .go_wp2
      go_meet
      exact j
     .have aR:W.cell? ⟨P.C,4,none⟩=some (.map (some P.fm)):=aU j.jq.c
      have b8:W.cell? (Ti w.heap.size)=Tn S':=aU j.x;have q1:W.cell? (S8 w.heap.size 1)=Tn aP:=aU j.x;have v1:W.cell? (S8 d.heap.size 1)=Tn c.cu.cost:=aU j.ch;have v2:W.cell? (S8 d.heap.size 2)=Tn c.cu.eW:=aU j.ch;have v3:W.cell? (S8 d.heap.size 3)=Tn c.cu.left:=aU j.ch;have v4:W.cell? (S8 d.heap.size 4)=Tn c.cu.aP:=aU j.ch;have v5:W.cell? (S8 d.heap.size 5)=Tn c.cu.next:=aU j.ch;let⟨b7,aj,bc⟩:=j.jq.f;have aW:ij W.drew P.fm b7:=aj.keep (row:=none) (gv (e6 _ _)) aF;let⟨aL,a7,bb,B,z9⟩:=Dx (ao.underlying119 A) (.inl S6) aW (S':Int) (aP:Int) (.agg c.cu.a);replace a7:Sem.run (ao A) (Instr.mapUpdate 78 (.map (some P.fm)) (.agg #[ah S',ah aP]) (.agg #[ah c.cu.cost,ah c.cu.eW,ah c.cu.left,ah c.cu.aP,ah c.cu.next])) W.drew=.ok () aL:=a7;have aE:W.grownBy aL (some P.fm):=⟨B.os,B.tape,B.output,B.size,B.block⟩
      have a9:kx p D P d.heap.size S' aP c w aL:=j.oV (j.jq.NB g.out.ok g.out.keep aE ⟨_,bb,by have:=bc.put S' aP (by rw[ae.out];exact aI);rw[ae.out]at this;exact this⟩) (cp.of aE (λr e=>.inr (.inl (by cases e;rfl))))
      have bP:=al a9;clear a9 aE bb B z9 aW aj bc j;go_wp2;go_region
      all_goals (go_wp2_with fail;go_meet;exact bP.out)
    case rest=>
    have v1:wc.cell? (S8 d.heap.size 1)=Tn c.cu.cost:=aU hcut.ch;have v2:wc.cell? (S8 d.heap.size 2)=Tn c.cu.eW:=aU hcut.ch;have v3:wc.cell? (S8 d.heap.size 3)=Tn c.cu.left:=aU hcut.ch;have v4:wc.cell? (S8 d.heap.size 4)=Tn c.cu.aP:=aU hcut.ch;have v5:wc.cell? (S8 d.heap.size 5)=Tn c.cu.next:=aU hcut.ch;have cx:wc.cell? (S8 d.heap.size 6)=some (.bool c.some):=aU hcut.ch;have bj:wc.cell? (Ti (w.heap.size+1))=Tn 0:=aU hcut.z;have bk:wc.cell? (S8 (w.heap.size+1) 1)=Tn 0:=aU hcut.z;have bl:wc.cell? (S8 (w.heap.size+1) 2)=Tn 0:=aU hcut.z;have bm:wc.cell? (S8 (w.heap.size+1) 3)=Tn 0:=aU hcut.z;have bn:wc.cell? (S8 (w.heap.size+1) 4)=Tn 0:=aU hcut.z;have z0:=b3 (o:=0) hcut.z;have bo:=b3 (o:=1) hcut.z;have bp:=b3 (o:=2) hcut.z;have z3:=b3 (o:=3) hcut.z;have z4:=b3 (o:=4) hcut.z;have bL:=al hcut;clear hcut;go_wp2;go_region
    all_goals (
     go_wp2;have av:=bL.out;let⟨K,G,bW⟩:=xq (w:=w) (b:=w.heap.size+1) (W:=wc) (c:=iK.a) c.cu S6 av.z U (X:=P.X) av.fY;have aK:=av.jq.keep g.out.keep bW (λb e=>by have:=av.old;cases e;omega);revert K G aK;generalize ((((wc.setCell (Ti (w.heap.size+1)) (ah c.cu.cost)).setCell (S8 (w.heap.size+1) 1) (ah c.cu.eW)).setCell (S8 (w.heap.size+1) 2) (ah c.cu.left)).setCell (S8 (w.heap.size+1) 3) (ah c.cu.aP)).setCell (S8 (w.heap.size+1) 4) (ah c.cu.next)=aC;intro K G aK;have B:aC.grownBy aC.drew none:=gv (e6 _ _);refine bodyPost_ret (Fc S6 _ _ (w.heap.size+1) 84 c.cu.a (0,0) _ S6 (show aC.drew.heap[w.heap.size+1]?=some (.cells c.cu.a 84 (0,0))from K) (ao.underlying124 A) S6 xI _ S6) S6 ?_;exact⟨by rw[ae.out];rfl,aK.fF g.out.keep B,G.trans (cp.jF B)⟩))
def HX[S:Std A][eY:jx A]{c:TQ}(H:ky A c D P)(S' aP:Nat)(i:S'<=aP)(f:aP<=D.e)(g:∀l,S'<l->l<=D.e->rP A c D P l)(w:S7)(h:e2 c D P w):
 Calls (ao A) 56 #[Tj P.C,.agg #[ah S',ah aP]] w λe w'=>e=.returned (.tuple #[.agg (D.T3 S' aP).cu.a,.bool (D.T3 S' aP).some])/\e2 c D P w'/\cp P.X w w':=by
 let⟨M,d,m⟩:=h.f;cases j:M S' aP with
 |some v=>exact HY H S' aP i f g w h d m j
 |none=>exact HZ H S' aP i f g w h d m j
end
end Go.aO
