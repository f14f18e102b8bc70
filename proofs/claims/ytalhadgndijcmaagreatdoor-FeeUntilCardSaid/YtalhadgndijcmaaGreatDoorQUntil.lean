/- The given statement FeeUntilCardSaid holds: FeeUntil says true for every list of numbers, with its card; no condition beside the statement itself. -/
import Derived.Test.YtalhadgndijcmaaGreatDoorP41
import Derived.Test.YtalhadgndijcmaaGreatDoorCards
set_option maxHeartbeats 8000000
set_option linter.all false
namespace Go.aN
open Go.Proofs Go.RowKit
set_option maxRecDepth 100000
section
variable{F:Array Func}[S:Std F]
@[simp] theorem ag.call21:dg F 21:=dS Tryz.func21
end
section
variable{A:Array Func}
theorem nq[S:Std A][P:gg A](d:cR)(ok:d.ok)(p:dU)(k:Nat)(U:k<d.kinds)(left:Nat)(ah:left<120)(b9:Nat)(aQ:b9<=999)(G:(b9:Int)<d.first k)(w:World)(h:fy w d p):
 Calls (ag A) 21 #[.agg (cO d p),.int .i64 k,.int .i64 left,.int .i64 b9] w λe r=>e=.returned (.tuple #[.int .i64 0,.int .i64 11])/\w.grownBy r none:=by
 have ax:=ok.kinds;have l:w.grownBy (w.alloc (.cells (cO d p) 25)) none:=World.grownBy_alloc _ _ _;have D:=Lib.hid (xS (A:=A) d ok p _ (h.keep l));have n:=Lib.hid l;have H:=Lib.hid h;clear l h;have E:=Lib.hid λ(T:Nat) (g:World) (aZ:(w.alloc (.cells (cO d p) 25)).heap.size<=T) (f:g.heap[T]?=some (.cells (l4 d p) 106)) (ae:(w.alloc (.cells (cO d p) 25)).grownBy g none)=>
  qP ok (H.out.keep n.out) aZ f ae
 have C:=Lib.hid (tV (A:=A));have y:=Lib.hid λ(w:World) (b c:Nat) f=>Ez (A:=A) w k (d.kinds-1) 0 left 119 2 b9 999 3 (by omega) (by omega) (by omega) b c f
 have I:decide (d.first k>(b9:Int))=true:=by simp;omega
 go_enter (S.f Tryz.func21),Tryz.ntmps21;go_wp2;refine wp_scope_jumps 0 (λ_ _=>False) (λ_ _=>0) rfl ?_ ?_
 · go_wp2_with (first|(go_at_call 48;refine D.out.mono ?_;rintro e g ⟨T,rfl,aZ,f,ae⟩;have t0:g.cell? ⟨T,0,none⟩=some (.int .i64 d.kinds):=(aT f).trans rfl;have j:=Lib.hid (E.out T g aZ f ae);have z:=Lib.hid ae;clear f ae aZ)|(go_at_call 50;refine(y.out _ _ _ (gA _ _)).mono ?_;rintro e J ⟨rfl,o⟩;have B:=Lib.hid o;clear o)|(go_at_call 49;refine(C.out _).mono ?_;rintro e K ⟨rfl,q⟩;clear t0;have m:=((World.grownBy_alloc g _ _).trans B.out).trans q;have i:=j.out.1.more ok j.out.2.2.1 j.out.2.2.2 m;have t1:=i.mn;have t2:=i.sV.first k U;have F:=Lib.hid i;have u:=Lib.hid m;clear i m q))
   simp only[Exit.jump];go_ret2
   exact⟨rfl,n.out.trans (z.out.trans u.out)⟩
 · intro bb r aC
   exact aC.elim
theorem fr(g:Nat->Int)(b9:Int): ∀n h:Nat,h<120->120<=n+h->g h<=b9->h<=kO g b9 n h/\kO g b9 n h<120/\g (kO g b9 n h)<=b9/\(kO g b9 n h<119->b9<g (kO g b9 n h+1))
 | 0,h,c,ak,_=>by omega
 | n+1,h,c,ak,ae=>by
  unfold kO;by_cases af:h+1<120/\g (h+1)<=b9
  · rw[if_pos af]
    have:=fr g b9 n (h+1) af.1 (by omega) af.2;exact⟨by omega,this.2.1,this.2.2.1,this.2.2.2⟩
  · rw[if_neg af]
    exact⟨Nat.le_refl _,c,ae,λcX=>by
     rcases Int.lt_or_le b9 (g (h+1)) with x|x
     · exact x
     · exact absurd ⟨by omega,x⟩ af⟩
def C(j:Nat): Int:=match j with|0=>3|_=>20
theorem lb(w:World)(t:TypeId): iD (w.alloc (.cells #[.int .i64 3,.int .i64 20] t)) w.heap.size 0 2 C:=by
 intro j aC;have:=aT (o:=0+j) (gA w (.cells #[.int .i64 3,.int .i64 20] t));rcases j with _|_|j
 · exact this
 · exact this
 · omega
theorem R(j:Nat): 0<=C j/\C j<=20:=by unfold C;split<;>omega
theorem gf[S:Std A][P:gg A](H:∀w,Calls (ag A) 16 #[] w λe av=>e=.returned (.bool true)/\w=av)(w:World)(L:Value)(h:j4 w L w.heap.size)(eP:L.oneCell'=true):
 Calls (ag A) 8 #[L] w λe _=>e=.returned (.bool true):=by
 have ah:=Lib.hid (O' (A:=A) L w h eP);clear h;go_enter (S.f Tryz.func8),Tryz.ntmps8;go_upto_region 4 with (first
  | (go_at_call 17;refine ah.out.mono ?_;rintro e aw ⟨rfl,az,c⟩;have ai:=Lib.hid az;clear az c)
  | (go_at_call 28;refine(Pe (A:=A) w.heap.size 0 L (by omega) aw ai.out).mono ?_;rintro e I ⟨d,p,F,ok,rfl,X,Y,aG,az,c⟩;have E:=Lib.hid az;have al:=Lib.hid X;clear az c X)
  | (go_at_call 29;refine(Pb (A:=A) w.heap.size F L (by omega) d ok p _ (E.out.alloc _)).mono ?_;rintro e D ⟨k,left,aK,rfl,U,aH,aB,az,c⟩;have t3:fy D d p:=((al.out.keep (World.grownBy_alloc _ _ _)).uw c Y);have V:D.heap[I.heap.size]?=some (.cells (cO d p) 25):=((c.block _ (by simp) (λe=>by have:=Option.some.inj e;have:=E.out.lt;omega)).trans (gA _ _));have aJ:w.heap.size<I.heap.size:=E.out.lt;have aj:=Lib.hid az;have am:=Lib.hid t3;have K:=Lib.hid V;clear az c t3 V))
 generalize I.heap.size=B at *;have ap:=bp K.out;go_upto_region 5 with (first
  | (go_at_call 24;refine(wO (A:=A) w.heap.size (F+4) L (by omega) D.heap.size 0 2 2 C (by omega) _ (aj.out.alloc _) (by omega) (lb _ _)).mono ?_;rintro e ax ⟨j,aC,rfl,az,c⟩;have ak:=Lib.hid az;have af:=Lib.hid c;clear az c)
  | (go_at_call 20;refine(pU (A:=A) w.heap.size (F+4+1) L (by omega) (C j) (by have:=R j;omega) ax ak.out).mono ?_;rintro e J ⟨m,rfl,hm,az,c⟩;have aI:m<=20:=(by have:=R j;omega);have G:=((World.grownBy_alloc D _ (some w.heap.size)).trans af.out).trans c;have t5:=am.out.uw G Y;have W:J.heap[B]?=some (.cells (cO d p) 25):=(G.block _ ap (λe=>by have:=Option.some.inj e;omega)).trans K.out;have q:=Lib.hid t5;have i:=Lib.hid W;clear az c G t5 W))
 have r:=aT (o:=0) i.out;have q1:=aT (o:=1) i.out;have y:=aT (o:=2) i.out;have z:=aT (o:=3) i.out;by_cases l:(m:Int)<d.first k
 · have hd:decide ((m:Int)<d.first k)=true:=by simpa using l
   go_wp2_with (first
    | (go_at_call 21;refine(nq (A:=A) d ok p k U left (by omega) m (by omega) l J q.out).mono ?_;rintro e ad ⟨rfl,c⟩;have g:=(c.block _ (bp i.out) (by simp)).trans i.out;have t6:=q.out.keep c;have s1:=aT (o:=1) g;have s2:=t6.first k U;clear c g t6)
    | (go_at_call 16;refine(H _).mono ?_;rintro e ae ⟨rfl,rfl⟩))
   go_ret;rfl
 · have hd:decide ((m:Int)<d.first k)=false:=by simpa using l
   have l:d.first k<=(m:Int):=by omega
   obtain⟨u,hu⟩ : ∃u:Nat,kO (λf=>fP (d.first k) (cC d k) left f) m 120 left=u:=⟨_,rfl⟩
   have Z:=fr (λf=>fP (d.first k) (cC d k) left f) m 120 left (by omega) (by omega) (by simpa [fP,jb] using l);have T:=Lib.hid (Oj (A:=A) d ok p k U left (by omega) m (by omega) l);rw[hu] at Z T;obtain⟨aq,ar,aa,au⟩:=Z;have aA:decide ((u:Int)<left)=false:=by simp;omega
   have aD:decide (u<left)=false:=by simp;omega
   have aE:decide (fP (d.first k) (cC d k) left u>(m:Int))=false:=by simpa using aa
   have aF:decide ((m:Int)<fP (d.first k) (cC d k) left u)=false:=by simpa using aa
   go_upto_region 11 with (first
    | (go_at_call 21;refine(T.out J q.out).mono ?_;rintro e ad ⟨rfl,c⟩;have g:=(c.block _ (bp i.out) (by simp)).trans i.out;have t6:=q.out.keep c;clear r q1 y z;have r:=aT (o:=0) g;have q1:=aT (o:=1) g;have y:=aT (o:=2) g;have z:=aT (o:=3) g;have s2:=t6.first k U;have Q:=Lib.hid t6;have M:=Lib.hid g;clear c g t6)
    | (go_at_call 30;refine(Hl (A:=A) d ok p k U left u aq ar ad Q.out).mono ?_;rintro e ay ⟨rfl,c⟩;have n:=(c.block _ (bp M.out) (by simp)).trans M.out;have t7:=Q.out.keep c;clear r q1 y z;have r:=aT (o:=0) n;have q1:=aT (o:=1) n;have y:=aT (o:=2) n;have z:=aT (o:=3) n;have ao:=Lib.hid t7;clear c n t7))
   by_cases cX:u<119
   · have v1:decide ((u:Int)<119)=true:=by simp;omega
     have v2:decide (u<119)=true:=by simpa using cX
     have v3:decide (fP (d.first k) (cC d k) left (u+1)<=(m:Int))=false:=by have:=au cX;simp;omega
     go_wp2_with (first
      | (go_at_call 30;rw[show Value.int .i64 ((u:Int)+1)=.int .i64 ((u+1:Nat):Int) from(by push_cast;rfl)];refine(Hl (A:=A) d ok p k U left (u+1) (by omega) (by omega) ay ao.out).mono ?_;rintro e aL ⟨rfl,c⟩;clear c)
      | (go_at_call 16;refine(H _).mono ?_;rintro e ae ⟨rfl,rfl⟩))
     go_ret;rfl
   · have v1:decide ((u:Int)<119)=false:=by simp;omega
     have v2:decide (u<119)=false:=by simpa using cX
     go_wp2_with (go_at_call 16;refine(H _).mono ?_;rintro e ae ⟨rfl,rfl⟩)
     go_ret;rfl
end
end Go.aN
namespace Go.Proofs.YtalhadgndijcmaaGreatDoor
open Go Go.aN Go.Proofs Go.Conc Go.ConcN Go.ChangeShapes Go.WideShapes Go.ChangeAt Go.RowKit
set_option maxRecDepth 100000
theorem hF(w:World)(L:Value)(h:mP w L): Calls bS 8 #[L] w λe _=>e=.returned (.bool true):=
 gf (A:=bS.list.toArray) Pa w L h.to.1 h.to.2
theorem g'(os:Os)(d:os.Started)(H:Type)(c:TypeId×Value->H)(F:Stop.Interp):
 ReturnsInLeavingWide {calm:=true} Tryz.checked os 8 .any (λw args=>(Rows.feeUntilSpec.pre c Tryz.prog Tryz.f8 [] false w args/\laidMetH Tryz.prog A8 w)/\sizedMet c Tryz.prog Tryz.f8 (OpenSpec.ofChange Rows.feeUntilSpec) false w args)
  ((OpenSpec.ofChange Rows.feeUntilSpec).postWith c Tryz.prog Tryz.f8 F (outsideKept [.timePasses]) false true false):=
 O9 (f:=8) (fn:=Tryz.f8) (spec:=Rows.feeUntilSpec) (by kernel_rfl) (by kernel_rfl) (by kernel_rfl) rfl (λ_ _=>rfl) (by decide) (by rintro(h|h|h|h)<;>cases h) (by kernel_rfl) hF os d H c F
  (by kernel_rfl) (by kernel_rfl) (by kernel_rfl) (by kernel_rfl) (by kernel_rfl)
theorem gk:Rows.FeeUntilSaid:=
 OpenClaim.holds_of_wide_leaving_time 8 Tryz.f8 rfl rfl rfl rfl rfl rfl rfl ⟨rfl,rfl,rfl,rfl,rfl⟩ rfl rfl rfl rfl rfl (by kernel_rfl) (by kernel_rfl) (by kernel_rfl)
  (of_decide_eq_true (by kernel_rfl)) (by unfold Func.isWrapper;first|(rw[if_pos (by decide+kernel)];kernel_rfl)|(rw[if_neg (by decide+kernel)];exact⟨rfl,rfl⟩))
  (λos d H c _ F=>g' os d H c F)
theorem feeUntil_card:Rows.FeeUntilCardSaid:=
 O8 (true,"1f88c90e5c791502b70ce72e3325ad9c03d054959b0ba62d78cba7e1a1d894ef") gk (by kernel_rfl) feeUntil_row_tie rfl ⟨rfl,rfl⟩ (by kernel_rfl) rfl
  (λf fn aB c=>by
   obtain rfl:f=8:=Option.some.inj ((show Tryz.prog.funcNamed Rows.feeUntilRow.func=some 8 by kernel_rfl).symm.trans aB) |>.symm
   obtain rfl:fn=Tryz.f8:=(Option.some.inj ((show Tryz.prog.funcs[8]?=some Tryz.f8 by kernel_rfl).symm.trans c)).symm;exact⟨by kernel_rfl,λj t az=>by
    have aQ:Tryz.f8.params=#[22]:=by kernel_rfl
    rw[aQ] at az;have ax:t=22:=by
     rcases j with _|j
     · simpa using az.symm
     · simp at az
    subst ax;exact(show Tryz.prog.wantsStandIn 22=false by kernel_rfl)⟩)
  (by kernel_rfl)
#print axioms feeUntil_card
end Go.Proofs.YtalhadgndijcmaaGreatDoor
