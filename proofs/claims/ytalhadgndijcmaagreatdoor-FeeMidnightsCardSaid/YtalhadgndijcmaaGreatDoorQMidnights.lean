/- The given statement FeeMidnightsCardSaid holds: FeeMidnights says true for every list of numbers, with its card; no condition beside the statement itself. -/
import Derived.Test.YtalhadgndijcmaaGreatDoorP41
import Derived.Test.YtalhadgndijcmaaGreatDoorCards
set_option maxHeartbeats 8000000
set_option linter.all false
namespace Go.aN
open Go.Proofs Go.RowKit
set_option maxRecDepth 100000
section
variable{F:Array Func}[S:Std F]
@[simp] theorem ag.call37:dg F 37:=dS Tryz.func37
@[simp] theorem ag.call41:dg F 41:=dS Tryz.func41
end
section
variable{A:Array Func}
theorem Pt{d:cR}(ok:d.ok){k:Nat}(U:k<d.kinds){a b:Nat}(c:b<120): 0<=fP (d.first k) (cC d k) a b/\fP (d.first k) (cC d k) a b<=100:=by
 have I:=ok.first k U
 have J:=Ni (λday=>oD ok U day) (a / 24+1) (b / 24-a / 24);unfold fP;have:b / 24-a / 24<=4:=by omega
 have:((b / 24-a / 24:Nat):Int)<=4:=by omega
 omega
end
section
variable{A:Array Func}
theorem Po[S:Std A](w:World)(cH b8 f0 d e6 f1:Int)(aP:0<=cH/\cH<=b8)(I:0<=d/\d<=e6)(b c:Nat)(f:w.heap[b]?=some (.cells #[.int .i64 cH,.int .i64 b8,.int .i64 f0,.int .i64 d,.int .i64 e6,.int .i64 f1] 109)):
 Calls (ag A) 50 #[.slice (some ⟨b,0,none⟩) 2 c] w λe g=>e=.returned .nilIface/\w.grownBy g none:=by
 refine tz b 0 2 c (by omega) w (λi=>match i with|0=>cH|_=>d) (λi=>match i with|0=>b8|_=>e6) (λi=>match i with|0=>f0|_=>f1) (λi aj=>?_) (λi aj=>?_) (λi aj=>?_) (λi aj=>?_)
 · rw[aT f];rcases i with _|_|i<;>first|rfl|omega
 · rw[aT f];rcases i with _|_|i<;>first|rfl|omega
 · rw[aT f];rcases i with _|_|i<;>first|rfl|omega
 · rcases i with _|_|i
   · exact aP
   · exact I
   · omega
theorem Pv(t:Nat->Int)(w:World): ∀day:Nat,day<5->Sem.run (ag A) (Instr.index 103 (.agg #[.int .i64 (t 0),.int .i64 (t 1),.int .i64 (t 2),.int .i64 (t 3),.int .i64 (t 4)]) (.int .i64 day)) w=.ok (.int .i64 (t day)) w
 | 0,_=>rfl
 | 1,_=>rfl
 | 2,_=>rfl
 | 3,_=>rfl
 | 4,_=>rfl
theorem Pl[S:Std A][P:gg A](d:cR)(ok:d.ok)(p:dU)(k:Nat)(U:k<d.kinds)(day:Nat)(hd:day<5)(w:World)(h:fy w d p):
 Calls (ag A) 41 #[.agg (cO d p),.int .i64 k,.int .i64 day] w λe M=>e=.returned (.tuple #[.int .i64 (cC d k day),.int .i64 0])/\w.grownBy M none:=by
 have ax:=ok.kinds;have l:w.grownBy (w.alloc (.cells (cO d p) 25)) none:=World.grownBy_alloc _ _ _;have F:=Lib.hid (xS (A:=A) d ok p _ (h.keep l));have j:=Lib.hid l;have H:=Lib.hid h;clear l h;have G:=Lib.hid λ(T:Nat) (g:World) (aZ:(w.alloc (.cells (cO d p) 25)).heap.size<=T) (f:g.heap[T]?=some (.cells (l4 d p) 106)) (ae:(w.alloc (.cells (cO d p) 25)).grownBy g none)=>
  have x:=qP ok (H.out.keep j.out) aZ f ae;And.intro x (pD (A:=A) ok x.2.2.1 x.2.1 U)
 have E:=Lib.hid (tV (A:=A));have B:=Lib.hid λ(w:World) (b c:Nat) f=>Po (A:=A) w k (d.kinds-1) 0 day 4 1 (by omega) (by omega) b c f
 go_enter (S.f Tryz.func41),Tryz.ntmps41;go_upto_region 7 with (first|(go_at_call 48;refine F.out.mono ?_;rintro e g ⟨T,rfl,aZ,f,ae⟩;have t0:g.cell? ⟨T,0,none⟩=some (.int .i64 d.kinds):=(aT f).trans rfl;have i:=Lib.hid (G.out T g aZ f ae);have C:=Lib.hid ae;have I:=Lib.hid aZ;clear f ae aZ)|(go_at_call 50;refine(B.out _ _ _ (gA _ _)).mono ?_;rintro e R ⟨rfl,o⟩;have D:=Lib.hid o;clear o)|(go_at_call 49;refine(E.out _).mono ?_;rintro e V ⟨rfl,q⟩;clear t0;have m:=((World.grownBy_alloc g _ _).trans D.out).trans q;have n:=i.out.1.1.more ok i.out.1.2.2.1 i.out.1.2.2.2 m;have J:=Lib.hid n;have y:=Lib.hid m;clear n m q))
 have u:w.heap.size<=T:=by have:=I.out;have e:=j.out.size;omega
 have K:=Lib.hid u;clear u;go_wp2_with (go_at_call 51;refine(i.out.2 _ J.out).mono ?_;rintro e Q ⟨rfl,L,r⟩;have z:=Lib.hid r;clear L r)
 rw[Pv (A:=A) (cC d k) Q day hd];simp only[Result.andThen_ok];go_wp2;go_ret2
 exact⟨rfl,jq (j.out.trans (C.out.trans y.out)) z.out K.out⟩
theorem Pj[S:Std A](q:Option Addr)(n c:Nat)(ak:n<=5)(f:Nat->Int)(w:World)(h:n≠0->∃b o,q=some ⟨b,o,none⟩/\iD w b o n f)(x:Int):
 Calls (ag A) 37 #[.slice q n c,.int .i64 x] w λe p=>(∃j:Int,e=.returned (.int .i64 j)/\(0<=j↔∃i,i<n/\f i=x))/\w=p:=by
 have H:=Lib.hid h;clear h;go_enter (S.f Tryz.func37),Tryz.ntmps37;go_wp2;go_loopw [5] (λi wr=>∃m:Nat,m<=n/\i=.int .i64 m/\w=wr/\∀i,i<m->f i≠x) (λi _=>n-(vy i).toNat)
 case atStart=>exact⟨0,by omega,by go_num,rfl,λi aj=>by omega⟩
 case round=>
  obtain⟨m,hm,rfl,rfl,g⟩:=hrel;by_cases aO:m<n
  · have hd:decide ((m:Int)<n)=true:=by simpa using aO
    have l:decide (m<n)=true:=by simpa using aO
    obtain⟨b,o,rfl,af⟩:=H.out (by omega);have al:=af m aO;by_cases d:f m=x
    · have ar:(f m == x)=true:=by simpa using d
      go_wp2;go_ret;exact⟨⟨m,rfl,λ_=>⟨m,aO,d⟩,λ_=>by omega⟩,rfl⟩
    · have ar:(f m == x)=false:=by simpa using d
      go_wp2;exact⟨⟨m+1,by omega,by push_cast;rfl,by trivial,λi aj=>by
       rcases Nat.lt_succ_iff_lt_or_eq.1 aj with y|rfl
       · exact g i y
       · exact d⟩,by show n-((m:Int)+1).toNat<n-(m:Int).toNat;omega⟩
  · have hd:decide ((m:Int)<n)=false:=by simp;omega
    have l:decide (m<n)=false:=by simpa using aO
    go_wp2;go_ret;exact⟨⟨-1,rfl,λy=>by omega,λ⟨i,aj,e⟩=>absurd e (g i (by omega))⟩,rfl⟩
theorem Pm{d:cR}{k day:Nat}: ∀n,(∃i,i<n/\d.free i=day)->rf d k n day=0
 | 0,⟨i,h,_⟩=>by omega
 | n+1,⟨i,h,e⟩=>by
  unfold rf;by_cases c:d.free n=day
  · rw[if_pos c]
  · rw[if_neg c]
    refine Pm n ⟨i,?_,e⟩;rcases Nat.lt_succ_iff_lt_or_eq.1 h with y|rfl
    · exact y
    · exact absurd e c
theorem Pn{d:cR}{k day:Nat}: ∀n,(¬ ∃i,i<n/\d.free i=day)->rf d k n day=lp d k d.eY day
 | 0,_=>rfl
 | n+1,h=>by unfold rf;rw[if_neg (λe=>h ⟨n,by omega,e⟩)];exact Pn n λ⟨i,aj,e⟩=>h ⟨i,by omega,e⟩
theorem Pu(f:Int)(t:Nat->Int){a h:Nat}(I:a<h)(J:h%24=0): fP f t a h=fP f t a (h-1)+t (h / 24):=by
 unfold fP;have e:h / 24-a / 24=((h-1) / 24-a / 24)+1:=by omega
 rw[e];simp only[jb];rw[show a / 24+1+((h-1) / 24-a / 24)=h / 24 by omega];omega
theorem Pk(f:Int)(t:Nat->Int){a h:Nat}(I:a<=h)(J:¬ (a<h/\h%24=0)): fP f t a h=fP f t a (h-1):=by
 unfold fP;rcases Nat.lt_or_ge a h with x|x
 · have:h%24≠0:=λe=>J ⟨x,e⟩
   rw[show(h-1) / 24=h / 24 by omega]
 · have:a=h:=by omega
   subst this;rw[show a / 24-a / 24=0 by omega,show(a-1) / 24-a / 24=0 by omega]
theorem Pp[S:Std A][P:gg A](ay:∀w,Calls (ag A) 16 #[] w λe aL=>e=.returned (.bool true)/\w=aL)(w:World)(L:Value)(h:j4 w L w.heap.size)(eP:L.oneCell'=true):
 Calls (ag A) 14 #[L] w λe _=>e=.returned (.bool true):=by
 have am:=Lib.hid (O' (A:=A) L w h eP);clear h;go_enter (S.f Tryz.func14),Tryz.ntmps14;go_wp2_with (first
  | (go_at_call 17;refine am.out.mono ?_;rintro e aM ⟨rfl,az,c⟩;have ao:=Lib.hid az;clear az c)
  | (go_at_call 28;refine(Pe (A:=A) w.heap.size 0 L (by omega) aM ao.out).mono ?_;rintro e aj ⟨d,p,ax,ok,rfl,I,aF,aU,az,c⟩;have ad:=Lib.hid az;have ap:=Lib.hid I;clear az c I)
  | (go_at_call 29;refine(Pb (A:=A) w.heap.size ax L (by omega) d ok p _ (ad.out.alloc _)).mono ?_;rintro e ak ⟨k,left,aK,rfl,U,aW,aB,az,c⟩;have t3:fy ak d p:=((ap.out.keep (World.grownBy_alloc _ _ _)).uw c aF);have H:ak.heap[aj.heap.size]?=some (.cells (cO d p) 25):=((c.block _ (by simp) (λe=>by have:=Option.some.inj e;have:=ad.out.lt;omega)).trans (gA _ _));have aq:=Lib.hid t3;have al:=Lib.hid H;have J:=aT (o:=0) H;have q1:=aT (o:=1) H;have K:=aT (o:=2) H;have n:=aT (o:=3) H;have s2:=t3.first k U;clear az c t3 H))
 generalize aj.heap.size=B at *;clear J q1 K n s2;go_loopw [8,9] (λdue i wr=>∃h:Nat,left<=h/\h<=120/\due=.int .i64 (fP (d.first k) (cC d k) left (h-1))/\i=.int .i64 h/\fy wr d p/\wr.heap[B]?=some (.cells (cO d p) 25)) (λ_ i _=>120-(vy i).toNat)
 case atStart=>exact⟨left,by omega,by omega,by rw[<-Pk (d.first k) (cC d k) (Nat.le_refl left) (λx=>by omega)];simp[fP,jb],by go_num,aq.out,al.out⟩
 case round=>
  obtain⟨h,R,aV,rfl,rfl,I,F⟩:=hrel;by_cases aO:h<120
  · have hd:decide ((h:Int)<120)=true:=by simp;omega
    have aA:decide (h<120)=true:=by simpa using aO
    have J:=aT (o:=0) F;have q1:=aT (o:=1) F;have K:=aT (o:=2) F;have n:=aT (o:=3) F;have y:=Lib.hid I;have u:=Lib.hid F;clear I F;have aS:=Pt ok U (a:=left) (b:=h) aO;by_cases hm:left<h/\h%24=0
    · have au:decide ((h:Int)>left)=true:=by simp;omega
      have aP:decide ((left:Int)<h)=true:=by simp;omega
      have aQ:decide (left<h)=true:=by simpa using hm.1
      have ae:(h%24 == 0)=true:=by simpa using hm.2
      have ah:h / 24<5:=by omega
      have V:=Pu (d.first k) (cC d k) hm.1 hm.2;have aX:=oD ok U (h / 24);have aR:wrap64 (fP (d.first k) (cC d k) left (h-1)+cC d k (h / 24))=fP (d.first k) (cC d k) left h:=by rw[<-V];unfold wrap64;omega
      by_cases eu:∃i,i<d.fC/\d.free i=(h / 24:Nat)
      · skip
        have G:cC d k (h / 24)=0:=Pm d.fC eu;have af:(cC d k (h / 24) !=0)=false:=by simp[G]
        have ar:=Lib.hid G;clear G;go_wp2_with (first
         | (go_at_call 41;refine(Pl (A:=A) d ok p k U (h / 24) ah wr y.out).mono ?_;rintro e Z ⟨rfl,c⟩;have D:=(c.block _ (bp u.out) (by simp)).trans u.out;clear J q1 K n;have n:=aT (o:=3) D;have M:=Lib.hid (y.out.keep c);have T:=Lib.hid D;clear c D)
         | (go_at_call 37;refine(Pj (A:=A) p.hE d.fC p.h9 ok.fC d.free Z M.out.free ((h / 24:Nat):Int)).mono ?_;rintro e aN ⟨⟨j,rfl,aC⟩,rfl⟩;have X:decide (j>=0)=true:=(by simpa using aC.2 eu);have aG:decide (0<=j)=true:=X))
        clear n;go_loopw [13,14] (λlast i wr=>∃m:Nat,m<=d.eY/\last=.int .i64 (lp d k m (h / 24))/\i=.int .i64 m/\fy wr d p/\wr.heap[B]?=some (.cells (cO d p) 25)) (λ_ i _=>d.eY-(vy i).toNat)
        case atStart=>exact⟨0,by omega,rfl,by go_num,M.out,T.out⟩
        case round=>
         obtain⟨m,aD,rfl,rfl,Q,g⟩:=hrel;have J:=aT (o:=0) g;have q1:=aT (o:=1) g;have K:=aT (o:=2) g;have n:=aT (o:=3) g;have f:=Lib.hid Q;have q:=Lib.hid g;clear Q g;by_cases l:m<d.eY
         · have aE:=ok.eY
           have e6:decide ((m:Int)<d.eY)=true:=by simpa using l
           have fY:decide (m<d.eY)=true:=by simpa using l
           have aH:=f.out.dz m l;have aI:=f.out.rows m l;have aJ:=f.out.fD m l k U;by_cases r:d.dz m<=(h / 24:Nat)
           · have Y:decide (d.dz m<=((h / 24:Nat):Int))=true:=by simpa using r
             have E:lp d k (m+1) (h / 24)=d.fD m k:=if_pos r;go_wp2;exact⟨⟨m+1,by omega,by rw[E],by have:=ok.eY;go_num,f.out,q.out⟩,by have:=ok.eY;simp[vy];omega⟩
           · have Y:decide (d.dz m<=((h / 24:Nat):Int))=false:=by simpa using r
             have E:lp d k (m+1) (h / 24)=lp d k m (h / 24):=if_neg r;go_wp2;exact⟨⟨m+1,by omega,by rw[E],by have:=ok.eY;go_num,f.out,q.out⟩,by have:=ok.eY;simp[vy];omega⟩
         · have e6:decide ((m:Int)<d.eY)=false:=by simp;omega
           have fY:decide (m<d.eY)=false:=by simpa using l
           obtain rfl:m=d.eY:=by omega
           go_wp2_with (go_at_call 30;refine(Hl (A:=A) d ok p k U left h R aO _ f.out).mono ?_;rintro e aa ⟨rfl,c⟩;have z:=Lib.hid ((c.block _ (bp q.out) (by simp)).trans q.out);have C:=Lib.hid (f.out.keep c);clear c)
           exact⟨⟨h+1,by omega,by omega,by rw[Nat.add_sub_cancel,V],by push_cast;rfl,C.out,z.out⟩,by show 120-((h:Int)+1).toNat<120-(h:Int).toNat;omega⟩
      · skip
        have G:cC d k (h / 24)=lp d k d.eY (h / 24):=Pn d.fC eu;have af:(cC d k (h / 24) !=lp d k d.eY (h / 24))=false:=by simp[G]
        have ar:=Lib.hid G;clear G;go_wp2_with (first
         | (go_at_call 41;refine(Pl (A:=A) d ok p k U (h / 24) ah wr y.out).mono ?_;rintro e Z ⟨rfl,c⟩;have D:=(c.block _ (bp u.out) (by simp)).trans u.out;clear J q1 K n;have n:=aT (o:=3) D;have M:=Lib.hid (y.out.keep c);have T:=Lib.hid D;clear c D)
         | (go_at_call 37;refine(Pj (A:=A) p.hE d.fC p.h9 ok.fC d.free Z M.out.free ((h / 24:Nat):Int)).mono ?_;rintro e aN ⟨⟨j,rfl,aC⟩,rfl⟩;have X:decide (j>=0)=false:=(by have:¬ 0<=j:=(λx=>eu (aC.1 x));simp;omega);have aG:decide (0<=j)=false:=X))
        clear n;go_loopw [13,14] (λlast i wr=>∃m:Nat,m<=d.eY/\last=.int .i64 (lp d k m (h / 24))/\i=.int .i64 m/\fy wr d p/\wr.heap[B]?=some (.cells (cO d p) 25)) (λ_ i _=>d.eY-(vy i).toNat)
        case atStart=>exact⟨0,by omega,rfl,by go_num,M.out,T.out⟩
        case round=>
         obtain⟨m,aD,rfl,rfl,Q,g⟩:=hrel;have J:=aT (o:=0) g;have q1:=aT (o:=1) g;have K:=aT (o:=2) g;have n:=aT (o:=3) g;have f:=Lib.hid Q;have q:=Lib.hid g;clear Q g;by_cases l:m<d.eY
         · have aE:=ok.eY
           have e6:decide ((m:Int)<d.eY)=true:=by simpa using l
           have fY:decide (m<d.eY)=true:=by simpa using l
           have aH:=f.out.dz m l;have aI:=f.out.rows m l;have aJ:=f.out.fD m l k U;by_cases r:d.dz m<=(h / 24:Nat)
           · have Y:decide (d.dz m<=((h / 24:Nat):Int))=true:=by simpa using r
             have E:lp d k (m+1) (h / 24)=d.fD m k:=if_pos r;go_wp2;exact⟨⟨m+1,by omega,by rw[E],by have:=ok.eY;go_num,f.out,q.out⟩,by have:=ok.eY;simp[vy];omega⟩
           · have Y:decide (d.dz m<=((h / 24:Nat):Int))=false:=by simpa using r
             have E:lp d k (m+1) (h / 24)=lp d k m (h / 24):=if_neg r;go_wp2;exact⟨⟨m+1,by omega,by rw[E],by have:=ok.eY;go_num,f.out,q.out⟩,by have:=ok.eY;simp[vy];omega⟩
         · have e6:decide ((m:Int)<d.eY)=false:=by simp;omega
           have fY:decide (m<d.eY)=false:=by simpa using l
           obtain rfl:m=d.eY:=by omega
           go_wp2_with (go_at_call 30;refine(Hl (A:=A) d ok p k U left h R aO _ f.out).mono ?_;rintro e aa ⟨rfl,c⟩;have z:=Lib.hid ((c.block _ (bp q.out) (by simp)).trans q.out);have C:=Lib.hid (f.out.keep c);clear c)
           exact⟨⟨h+1,by omega,by omega,by rw[Nat.add_sub_cancel,V],by push_cast;rfl,C.out,z.out⟩,by show 120-((h:Int)+1).toNat<120-(h:Int).toNat;omega⟩
    · have au:(decide ((h:Int)>left) && (h%24 == 0))=false:=by
       rw[Bool.and_eq_false_iff];rcases Nat.lt_or_ge left h with x|x
       · exact .inr (by simp;exact λe=>hm ⟨x,e⟩)
       · exact .inl (by simp;omega)
      have ai:=Pk (d.first k) (cC d k) R hm;by_cases W:left<h
      · have ae:decide ((h:Int)>left)=true:=by simp;omega
        have av:decide ((left:Int)<h)=true:=by simp;omega
        have aw:decide (left<h)=true:=by simpa using W
        have af:(h%24 == 0)=false:=by simp;exact λe=>hm ⟨W,e⟩
        go_wp2_with (go_at_call 30;refine(Hl (A:=A) d ok p k U left h R aO _ y.out).mono ?_;rintro e aa ⟨rfl,c⟩;have z:=Lib.hid ((c.block _ (bp u.out) (by simp)).trans u.out);have C:=Lib.hid (y.out.keep c);clear c)
        exact⟨⟨h+1,by omega,by omega,by rw[Nat.add_sub_cancel,ai],by push_cast;rfl,C.out,z.out⟩,by show 120-((h:Int)+1).toNat<120-(h:Int).toNat;omega⟩
      · have ae:decide ((h:Int)>left)=false:=by simp;omega
        have av:decide ((left:Int)<h)=false:=by simp;omega
        have aw:decide (left<h)=false:=by simpa using W
        go_wp2_with (go_at_call 30;refine(Hl (A:=A) d ok p k U left h R aO _ y.out).mono ?_;rintro e aa ⟨rfl,c⟩;have z:=Lib.hid ((c.block _ (bp u.out) (by simp)).trans u.out);have C:=Lib.hid (y.out.keep c);clear c)
        exact⟨⟨h+1,by omega,by omega,by rw[Nat.add_sub_cancel,ai],by push_cast;rfl,C.out,z.out⟩,by show 120-((h:Int)+1).toNat<120-(h:Int).toNat;omega⟩
  · have hd:decide ((h:Int)<120)=false:=by simp;omega
    have aA:decide (h<120)=false:=by simpa using aO
    clear I F;go_wp2_with (go_at_call 16;refine(ay _).mono ?_;rintro e aY ⟨rfl,rfl⟩)
    go_ret;rfl
end
end Go.aN
namespace Go.Proofs.YtalhadgndijcmaaGreatDoor
open Go Go.aN Go.Proofs Go.Conc Go.ConcN Go.ChangeShapes Go.WideShapes Go.ChangeAt Go.RowKit
set_option maxRecDepth 100000
theorem Ps(w:World)(L:Value)(h:mP w L): Calls bS 14 #[L] w λe _=>e=.returned (.bool true):=
 Pp (A:=bS.list.toArray) Pa w L h.to.1 h.to.2
theorem Pr(os:Os)(d:os.Started)(H:Type)(c:TypeId×Value->H)(F:Stop.Interp):
 ReturnsInLeavingWide {calm:=true} Tryz.checked os 14 .any (λw args=>(Rows.feeMidnightsSpec.pre c Tryz.prog Tryz.f14 [] false w args/\laidMetH Tryz.prog A8 w)/\sizedMet c Tryz.prog Tryz.f14 (OpenSpec.ofChange Rows.feeMidnightsSpec) false w args)
  ((OpenSpec.ofChange Rows.feeMidnightsSpec).postWith c Tryz.prog Tryz.f14 F (outsideKept [.timePasses]) false true false):=
 O9 (f:=14) (fn:=Tryz.f14) (spec:=Rows.feeMidnightsSpec) (by kernel_rfl) (by kernel_rfl) (by kernel_rfl) rfl (λ_ _=>rfl) (by decide) (by rintro(h|h|h|h)<;>cases h) (by kernel_rfl) Ps os d H c F
  (by kernel_rfl) (by kernel_rfl) (by kernel_rfl) (by kernel_rfl) (by kernel_rfl)
theorem Pq:Rows.FeeMidnightsSaid:=
 OpenClaim.holds_of_wide_leaving_time 14 Tryz.f14 rfl rfl rfl rfl rfl rfl rfl ⟨rfl,rfl,rfl,rfl,rfl⟩ rfl rfl rfl rfl rfl (by kernel_rfl) (by kernel_rfl) (by kernel_rfl)
  (of_decide_eq_true (by kernel_rfl)) (by unfold Func.isWrapper;first|(rw[if_pos (by decide+kernel)];kernel_rfl)|(rw[if_neg (by decide+kernel)];exact⟨rfl,rfl⟩))
  (λos d H c _ F=>Pr os d H c F)
theorem feeMidnights_card:Rows.FeeMidnightsCardSaid:=
 O8 (true,"1f88c90e5c791502b70ce72e3325ad9c03d054959b0ba62d78cba7e1a1d894ef") Pq (by kernel_rfl) feeMidnights_row_tie rfl ⟨rfl,rfl⟩ (by kernel_rfl) rfl
  (λf fn aB c=>by
   obtain rfl:f=14:=Option.some.inj ((show Tryz.prog.funcNamed Rows.feeMidnightsRow.func=some 14 by kernel_rfl).symm.trans aB) |>.symm
   obtain rfl:fn=Tryz.f14:=(Option.some.inj ((show Tryz.prog.funcs[14]?=some Tryz.f14 by kernel_rfl).symm.trans c)).symm;exact⟨by kernel_rfl,λj t az=>by
    have aQ:Tryz.f14.params=#[22]:=by kernel_rfl
    rw[aQ] at az;have ax:t=22:=by
     rcases j with _|j
     · simpa using az.symm
     · simp at az
    subst ax;exact(show Tryz.prog.wantsStandIn 22=false by kernel_rfl)⟩)
  (by kernel_rfl)
#print axioms feeMidnights_card
end Go.Proofs.YtalhadgndijcmaaGreatDoor
