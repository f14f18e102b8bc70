/- The given statement FeePartedCardSaid holds: FeeParted says true for every list of numbers, with its card; no condition beside the statement itself. -/
import Derived.Test.YtalhadgndijcmaaGreatDoorP41
import Derived.Test.YtalhadgndijcmaaGreatDoorCards
set_option maxHeartbeats 8000000
set_option linter.all false
namespace Go.aN
open Go.Proofs Go.RowKit
set_option maxRecDepth 100000
section
variable{A:Array Func}
theorem R(t:Nat->Int)(a n:Nat): ∀m,jb t a (n+m)=jb t a n+jb t (a+n) m
 | 0=>by simp[jb]
 | m+1=>by have:=R t a n m;rw[<-Nat.add_assoc];simp only[jb];rw[this,Nat.add_assoc a n m];omega
theorem fr(f:Int)(t:Nat->Int){a b c:Nat}(I:a<=b)(J:b<=c): fP f t a b+fP f t b c-f=fP f t a c:=by have d:a / 24<=b / 24:=Nat.div_le_div_right I;have cc:b / 24<=c / 24:=Nat.div_le_div_right J;have e:=R t (a / 24+1) (b / 24-a / 24) (c / 24-b / 24);rw[show b / 24-a / 24+(c / 24-b / 24)=c / 24-a / 24 by omega,show a / 24+1+(b / 24-a / 24)=b / 24+1 by omega] at e;unfold fP;rw[e];omega
theorem C{d:cR}(ok:d.ok){k:Nat}(U:k<d.kinds){a b:Nat}(c:b<120): 0<=fP (d.first k) (cC d k) a b/\fP (d.first k) (cC d k) a b<=100:=by
 have I:=ok.first k U
 have J:=Ni (λday=>oD ok U day) (a / 24+1) (b / 24-a / 24);unfold fP;have:b / 24-a / 24<=4:=by omega
 have:((b / 24-a / 24:Nat):Int)<=4:=by omega
 omega
theorem gf[S:Std A][P:gg A](ad:∀w,Calls (ag A) 16 #[] w λe ai=>e=.returned (.bool true)/\w=ai)(w:World)(L:Value)(h:j4 w L w.heap.size)(eP:L.oneCell'=true):
 Calls (ag A) 5 #[L] w λe _=>e=.returned (.bool true):=by
 have V:=Lib.hid (O' (A:=A) L w h eP);clear h;go_enter (S.f Tryz.func5),Tryz.ntmps5;go_wp2_with (first
  | (go_at_call 17;refine V.out.mono ?_;rintro e aj ⟨rfl,az,c⟩;have W:=Lib.hid az;clear az c)
  | (go_at_call 28;refine(Pe (A:=A) w.heap.size 0 L (by omega) aj W.out).mono ?_;rintro e R ⟨d,p,aa,ok,rfl,l,ah,ap,az,c⟩;have E:=Lib.hid az;have Y:=Lib.hid l;clear az c l)
  | (go_at_call 29;refine(Pb (A:=A) w.heap.size aa L (by omega) d ok p _ (E.out.alloc _)).mono ?_;rintro e n ⟨k,left,aK,rfl,U,af,aB,az,c⟩;have t3:fy n d p:=((Y.out.keep (World.grownBy_alloc _ _ _)).uw c ah);have g:n.heap[R.heap.size]?=some (.cells (cO d p) 25):=((c.block _ (by simp) (λe=>by have:=Option.some.inj e;have:=E.out.lt;omega)).trans (gA _ _));have G:=Lib.hid t3;have q:=Lib.hid g;have K:=aT (o:=0) g;have q1:=aT (o:=1) g;have M:=aT (o:=2) g;have Q:=aT (o:=3) g;clear az c t3 g)
  | (go_at_call 30;refine(Hl (A:=A) d ok p k U left aK af aB n G.out).mono ?_;rintro e aA ⟨rfl,c⟩;have D:=Lib.hid c;clear c))
 have H:=Lib.hid (G.out.keep D.out);have r:=Lib.hid ((D.out.block _ (bp q.out) (by simp)).trans q.out);clear K q1 M Q;generalize R.heap.size=B at *;go_loopw [10] (λi wr=>∃h:Nat,left<=h/\h<=aK+1/\i=.int .i64 h/\fy wr d p/\wr.heap[B]?=some (.cells (cO d p) 25)) (λi _=>aK+1-(vy i).toNat)
 case atStart=>exact⟨left,by omega,by omega,by go_num,H.out,r.out⟩
 case round=>
  obtain⟨h,J,aq,rfl,l,f⟩:=hrel;by_cases aO:h<=aK
  · have hd:decide ((h:Int)<=aK)=true:=by simpa using aO
    have ae:decide (h<=aK)=true:=by simpa using aO
    have au:(wrap64 (wrap64 (fP (d.first k) (cC d k) left h+fP (d.first k) (cC d k) h aK)-d.first k) !=fP (d.first k) (cC d k) left aK)=false:=by
     have al:=C ok U (a:=left) (b:=h) (by omega);have am:=C ok U (a:=h) (b:=aK) aB;have ao:=ok.first k U
     have e:=fr (d.first k) (cC d k) J aO;rw[<-e];generalize fP (d.first k) (cC d k) left h=x at *;generalize fP (d.first k) (cC d k) h aK=y at *;have ar:wrap64 (x+y)=x+y:=by unfold wrap64;omega
     have Z:wrap64 (x+y-d.first k)=x+y-d.first k:=by unfold wrap64;omega
     rw[ar,Z];simp
    have K:=aT (o:=0) f;have q1:=aT (o:=1) f;have M:=aT (o:=2) f;have Q:=aT (o:=3) f;have I:=Lib.hid l;have z:=Lib.hid f;clear l f;go_wp2_with (first
     | (go_at_call 30;refine(Hl (A:=A) d ok p k U left h J (by omega) wr I.out).mono ?_;rintro e ak ⟨rfl,c⟩;have j:=(c.block _ (bp z.out) (by simp)).trans z.out;have av:=aT (o:=0) j;have aw:=aT (o:=1) j;have ax:=aT (o:=2) j;have ay:=aT (o:=3) j;have F:=Lib.hid (I.out.keep c);have u:=Lib.hid j;clear c j)
     | (go_at_call 30;refine(Hl (A:=A) d ok p k U h aK aO aB ak F.out).mono ?_;rintro e aC ⟨rfl,c⟩;have m:=(c.block _ (bp u.out) (by simp)).trans u.out;have s1:=aT (o:=1) m;have t6:=F.out.keep c;have s2:=t6.first k U;have X:=Lib.hid t6;have T:=Lib.hid m;clear c m t6))
    exact⟨⟨h+1,by omega,by omega,by push_cast;rfl,X.out,T.out⟩,by show aK+1-((h:Int)+1).toNat<aK+1-(h:Int).toNat;omega⟩
  · have hd:decide ((h:Int)<=aK)=false:=by simp;omega
    have ae:decide (h<=aK)=false:=by simpa using aO
    clear H r l f;go_wp2_with (go_at_call 16;refine(ad _).mono ?_;rintro e aD ⟨rfl,rfl⟩)
    go_ret;rfl
end
end Go.aN
namespace Go.Proofs.YtalhadgndijcmaaGreatDoor
open Go Go.aN Go.Proofs Go.Conc Go.ConcN Go.ChangeShapes Go.WideShapes Go.ChangeAt Go.RowKit
set_option maxRecDepth 100000
theorem hF(w:World)(L:Value)(h:mP w L): Calls bS 5 #[L] w λe _=>e=.returned (.bool true):=
 gf (A:=bS.list.toArray) Pa w L h.to.1 h.to.2
theorem g'(os:Os)(d:os.Started)(H:Type)(c:TypeId×Value->H)(F:Stop.Interp):
 ReturnsInLeavingWide {calm:=true} Tryz.checked os 5 .any (λw args=>(Rows.feePartedSpec.pre c Tryz.prog Tryz.f5 [] false w args/\laidMetH Tryz.prog A8 w)/\sizedMet c Tryz.prog Tryz.f5 (OpenSpec.ofChange Rows.feePartedSpec) false w args)
  ((OpenSpec.ofChange Rows.feePartedSpec).postWith c Tryz.prog Tryz.f5 F (outsideKept [.timePasses]) false true false):=
 O9 (f:=5) (fn:=Tryz.f5) (spec:=Rows.feePartedSpec) (by kernel_rfl) (by kernel_rfl) (by kernel_rfl) rfl (λ_ _=>rfl) (by decide) (by rintro(h|h|h|h)<;>cases h) (by kernel_rfl) hF os d H c F
  (by kernel_rfl) (by kernel_rfl) (by kernel_rfl) (by kernel_rfl) (by kernel_rfl)
theorem gk:Rows.FeePartedSaid:=
 OpenClaim.holds_of_wide_leaving_time 5 Tryz.f5 rfl rfl rfl rfl rfl rfl rfl ⟨rfl,rfl,rfl,rfl,rfl⟩ rfl rfl rfl rfl rfl (by kernel_rfl) (by kernel_rfl) (by kernel_rfl)
  (of_decide_eq_true (by kernel_rfl)) (by unfold Func.isWrapper;first|(rw[if_pos (by decide+kernel)];kernel_rfl)|(rw[if_neg (by decide+kernel)];exact⟨rfl,rfl⟩))
  (λos d H c _ F=>g' os d H c F)
theorem feeParted_card:Rows.FeePartedCardSaid:=
 O8 (true,"1f88c90e5c791502b70ce72e3325ad9c03d054959b0ba62d78cba7e1a1d894ef") gk (by kernel_rfl) feeParted_row_tie rfl ⟨rfl,rfl⟩ (by kernel_rfl) rfl
  (λf fn aB c=>by
   obtain rfl:f=5:=Option.some.inj ((show Tryz.prog.funcNamed Rows.feePartedRow.func=some 5 by kernel_rfl).symm.trans aB) |>.symm
   obtain rfl:fn=Tryz.f5:=(Option.some.inj ((show Tryz.prog.funcs[5]?=some Tryz.f5 by kernel_rfl).symm.trans c)).symm;exact⟨by kernel_rfl,λj t az=>by
    have aQ:Tryz.f5.params=#[22]:=by kernel_rfl
    rw[aQ] at az;have ax:t=22:=by
     rcases j with _|j
     · simpa using az.symm
     · simp at az
    subst ax;exact(show Tryz.prog.wantsStandIn 22=false by kernel_rfl)⟩)
  (by kernel_rfl)
#print axioms feeParted_card
end Go.Proofs.YtalhadgndijcmaaGreatDoor
