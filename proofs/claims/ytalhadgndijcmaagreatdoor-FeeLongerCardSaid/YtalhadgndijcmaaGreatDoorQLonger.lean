/- The given statement FeeLongerCardSaid holds: FeeLonger says true for every list of numbers, with its card; no condition beside the statement itself. -/
import Derived.Test.YtalhadgndijcmaaGreatDoorP41
import Derived.Test.YtalhadgndijcmaaGreatDoorCards
set_option maxHeartbeats 8000000
set_option linter.all false
namespace Go.aN
open Go.Proofs Go.RowKit
set_option maxRecDepth 100000
section
variable{A:Array Func}
theorem fr(t:Nat->Int)(a n:Nat): ∀m,jb t a (n+m)=jb t a n+jb t (a+n) m
 | 0=>by simp[jb]
 | m+1=>by have:=fr t a n m;rw[<-Nat.add_assoc];simp only[jb];rw[this,Nat.add_assoc a n m];omega
theorem lb(f:Int)(t:Nat->Int){a b c:Nat}(I:a<=b)(J:b<=c): fP f t a b+fP f t b c-f=fP f t a c:=by have d:a / 24<=b / 24:=Nat.div_le_div_right I;have cc:b / 24<=c / 24:=Nat.div_le_div_right J;have e:=fr t (a / 24+1) (b / 24-a / 24) (c / 24-b / 24);rw[show b / 24-a / 24+(c / 24-b / 24)=c / 24-a / 24 by omega,show a / 24+1+(b / 24-a / 24)=b / 24+1 by omega] at e;unfold fP;rw[e];omega
end
section
variable{A:Array Func}
theorem C{d:cR}(ok:d.ok){k:Nat}(U:k<d.kinds)(a b:Nat): d.first k<=fP (d.first k) (cC d k) a b:=by have J:=Ni (λday=>oD ok U day) (a / 24+1) (b / 24-a / 24);unfold fP;omega
theorem R{d:cR}(ok:d.ok){k:Nat}(U:k<d.kinds){a b c:Nat}(I:a<=b)(J:b<=c): fP (d.first k) (cC d k) a b<=fP (d.first k) (cC d k) a c/\fP (d.first k) (cC d k) b c<=fP (d.first k) (cC d k) a c:=by have e:=lb (d.first k) (cC d k) I J;have x:=C ok U a b;have y:=C ok U b c;omega
theorem gf[S:Std A][P:gg A](Z:∀w,Calls (ag A) 16 #[] w λe aj=>e=.returned (.bool true)/\w=aj)(w:World)(L:Value)(h:j4 w L w.heap.size)(eP:L.oneCell'=true):
 Calls (ag A) 6 #[L] w λe _=>e=.returned (.bool true):=by
 have V:=Lib.hid (O' (A:=A) L w h eP);clear h;go_enter (S.f Tryz.func6),Tryz.ntmps6;go_wp2_with (first
  | (go_at_call 17;refine V.out.mono ?_;rintro e ak ⟨rfl,az,f⟩;have W:=Lib.hid az;clear az f)
  | (go_at_call 28;refine(Pe (A:=A) w.heap.size 0 L (by omega) ak W.out).mono ?_;rintro e T ⟨d,p,Y,ok,rfl,l,ad,ap,az,f⟩;have G:=Lib.hid az;have X:=Lib.hid l;clear az f l)
  | (go_at_call 29;refine(Pb (A:=A) w.heap.size Y L (by omega) d ok p _ (G.out.alloc _)).mono ?_;rintro e D ⟨k,left,aK,rfl,U,z,aB,az,f⟩;have t3:fy D d p:=((X.out.keep (World.grownBy_alloc _ _ _)).uw f ad);have j:D.heap[T.heap.size]?=some (.cells (cO d p) 25):=((f.block _ (by simp) (λe=>by have:=Option.some.inj e;have:=G.out.lt;omega)).trans (gA _ _));have H:=Lib.hid t3;have E:=Lib.hid j;have ae:=aT (o:=0) j;have q1:=aT (o:=1) j;have af:=aT (o:=2) j;have ai:=aT (o:=3) j;clear az f t3 j)
  | (go_at_call 30;refine(Hl (A:=A) d ok p k U left aK z aB D H.out).mono ?_;rintro e ar ⟨rfl,f⟩;have u:=(f.block _ (bp E.out) (by simp)).trans E.out;have t4:=H.out.keep f;have s1:=aT (o:=1) u;have s2:=t4.first k U;have am:decide (fP (d.first k) (cC d k) left aK<d.first k)=false:=(by have:=C ok U left aK;simp;omega);have I:=Lib.hid t4;have F:=Lib.hid u;clear f t4 u))
 generalize T.heap.size=B at *;go_loopw [10] (λi wr=>∃h:Nat,h<=120/\i=.int .i64 h/\fy wr d p/\wr.heap[B]?=some (.cells (cO d p) 25)) (λi _=>120-(vy i).toNat)
 case atStart=>exact⟨0,by omega,by go_num,I.out,F.out⟩
 case round=>
  obtain⟨h,aq,rfl,l,g⟩:=hrel;by_cases aO:h<120
  · have hd:decide ((h:Int)<120)=true:=by simp;omega
    have aa:decide (h<120)=true:=by simpa using aO
    have ae:=aT (o:=0) g;have q1:=aT (o:=1) g;have af:=aT (o:=2) g;have ai:=aT (o:=3) g;have n:=Lib.hid l;have m:=Lib.hid g;clear l g;by_cases ah:h<left
    · have y:=(R ok U (a:=h) (b:=left) (c:=aK) (by omega) z).2
      have J:decide ((h:Int)<left)=true:=by simpa using ah
      have K:decide (h<left)=true:=by simpa using ah
      have M:decide ((aK:Int)<h)=false:=by simp;omega
      have Q:decide (aK<h)=false:=by simp;omega
      have fi:decide (fP (d.first k) (cC d k) h aK<fP (d.first k) (cC d k) left aK)=false:=by simpa using y
      go_wp2_with (go_at_call 30;refine(Hl (A:=A) d ok p k U h aK (by omega) aB wr n.out).mono ?_;rintro e al ⟨rfl,f⟩;have q:=Lib.hid ((f.block _ (bp m.out) (by simp)).trans m.out);have r:=Lib.hid (n.out.keep f);clear f)
      exact⟨⟨h+1,by omega,by push_cast;rfl,r.out,q.out⟩,by show 120-((h:Int)+1).toNat<120-(h:Int).toNat;omega⟩
    · by_cases ao:aK<h
      · have y:=(R ok U (a:=left) (b:=aK) (c:=h) z (by omega)).1
        have J:decide ((h:Int)<left)=false:=by simpa using ah
        have K:decide (h<left)=false:=by simpa using ah
        have M:decide ((aK:Int)<h)=true:=by simpa using ao
        have Q:decide (aK<h)=true:=by simpa using ao
        have fi:decide (fP (d.first k) (cC d k) left h<fP (d.first k) (cC d k) left aK)=false:=by simpa using y
        go_wp2_with (go_at_call 30;refine(Hl (A:=A) d ok p k U left h (by omega) aO wr n.out).mono ?_;rintro e al ⟨rfl,f⟩;have q:=Lib.hid ((f.block _ (bp m.out) (by simp)).trans m.out);have r:=Lib.hid (n.out.keep f);clear f)
        exact⟨⟨h+1,by omega,by push_cast;rfl,r.out,q.out⟩,by show 120-((h:Int)+1).toNat<120-(h:Int).toNat;omega⟩
      · have J:decide ((h:Int)<left)=false:=by simpa using ah
        have K:decide (h<left)=false:=by simpa using ah
        have M:decide ((aK:Int)<h)=false:=by simpa using ao
        have Q:decide (aK<h)=false:=by simpa using ao
        go_wp2;exact⟨⟨h+1,by omega,by push_cast;rfl,n.out,m.out⟩,by show 120-((h:Int)+1).toNat<120-(h:Int).toNat;omega⟩
  · have hd:decide ((h:Int)<120)=false:=by simp;omega
    have aa:decide (h<120)=false:=by simpa using aO
    clear I F l g;go_wp2_with (go_at_call 16;refine(Z _).mono ?_;rintro e au ⟨rfl,rfl⟩)
    go_ret;rfl
end
end Go.aN
namespace Go.Proofs.YtalhadgndijcmaaGreatDoor
open Go Go.aN Go.Proofs Go.Conc Go.ConcN Go.ChangeShapes Go.WideShapes Go.ChangeAt Go.RowKit
set_option maxRecDepth 100000
theorem hF(w:World)(L:Value)(h:mP w L): Calls bS 6 #[L] w λe _=>e=.returned (.bool true):=
 gf (A:=bS.list.toArray) Pa w L h.to.1 h.to.2
theorem g'(os:Os)(d:os.Started)(H:Type)(c:TypeId×Value->H)(F:Stop.Interp):
 ReturnsInLeavingWide {calm:=true} Tryz.checked os 6 .any (λw args=>(Rows.feeLongerSpec.pre c Tryz.prog Tryz.f6 [] false w args/\laidMetH Tryz.prog A8 w)/\sizedMet c Tryz.prog Tryz.f6 (OpenSpec.ofChange Rows.feeLongerSpec) false w args)
  ((OpenSpec.ofChange Rows.feeLongerSpec).postWith c Tryz.prog Tryz.f6 F (outsideKept [.timePasses]) false true false):=
 O9 (f:=6) (fn:=Tryz.f6) (spec:=Rows.feeLongerSpec) (by kernel_rfl) (by kernel_rfl) (by kernel_rfl) rfl (λ_ _=>rfl) (by decide) (by rintro(h|h|h|h)<;>cases h) (by kernel_rfl) hF os d H c F
  (by kernel_rfl) (by kernel_rfl) (by kernel_rfl) (by kernel_rfl) (by kernel_rfl)
theorem gk:Rows.FeeLongerSaid:=
 OpenClaim.holds_of_wide_leaving_time 6 Tryz.f6 rfl rfl rfl rfl rfl rfl rfl ⟨rfl,rfl,rfl,rfl,rfl⟩ rfl rfl rfl rfl rfl (by kernel_rfl) (by kernel_rfl) (by kernel_rfl)
  (of_decide_eq_true (by kernel_rfl)) (by unfold Func.isWrapper;first|(rw[if_pos (by decide+kernel)];kernel_rfl)|(rw[if_neg (by decide+kernel)];exact⟨rfl,rfl⟩))
  (λos d H c _ F=>g' os d H c F)
theorem feeLonger_card:Rows.FeeLongerCardSaid:=
 O8 (true,"1f88c90e5c791502b70ce72e3325ad9c03d054959b0ba62d78cba7e1a1d894ef") gk (by kernel_rfl) feeLonger_row_tie rfl ⟨rfl,rfl⟩ (by kernel_rfl) rfl
  (λf fn aB c=>by
   obtain rfl:f=6:=Option.some.inj ((show Tryz.prog.funcNamed Rows.feeLongerRow.func=some 6 by kernel_rfl).symm.trans aB) |>.symm
   obtain rfl:fn=Tryz.f6:=(Option.some.inj ((show Tryz.prog.funcs[6]?=some Tryz.f6 by kernel_rfl).symm.trans c)).symm;exact⟨by kernel_rfl,λj t az=>by
    have aQ:Tryz.f6.params=#[22]:=by kernel_rfl
    rw[aQ] at az;have ax:t=22:=by
     rcases j with _|j
     · simpa using az.symm
     · simp at az
    subst ax;exact(show Tryz.prog.wantsStandIn 22=false by kernel_rfl)⟩)
  (by kernel_rfl)
#print axioms feeLonger_card
end Go.Proofs.YtalhadgndijcmaaGreatDoor
