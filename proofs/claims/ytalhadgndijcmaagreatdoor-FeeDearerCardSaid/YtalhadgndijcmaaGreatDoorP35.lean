/- Part 36 of a law on fees: no conditions. -/
import Derived.Test.YtalhadgndijcmaaGreatDoorP34
set_option maxHeartbeats 8000000
set_option maxRecDepth 100000
set_option linter.all false
namespace Go.aN
open Go.Proofs Go.RowKit
section
variable{A:Array Func}
theorem O'[S:Std A](L:Value)(w:World)(h:j4 w L w.heap.size)(f:L.oneCell'=true):
 Calls (ag A) 17 #[L] w λe w'=>e=.returned (.pointer (some ⟨w.heap.size,0,none⟩))/\fg w' w.heap.size L 0/\w.grownBy w' none:=by
 have d:=Pj h;rcases h with rfl|⟨b,off,n,c,z,rfl,_,_,_⟩
 all_goals (
  go_enter (S.f Tryz.func17),Tryz.ntmps17;go_wp2;go_ret;exact⟨rfl,⟨⟨_,gA _ _,by omega,by omega⟩,d.out.keep Pn⟩,Pn⟩)
def qV(j:Nat): Int:=match j with|0=>40|_=>119
theorem Ki(w:World)(t:TypeId): iD (w.alloc (.cells #[.int .i64 40,.int .i64 119] t)) w.heap.size 0 2 qV:=by
 intro j c;have:=aT (o:=0+j) (gA w (.cells #[.int .i64 40,.int .i64 119] t));rcases j with _|_|j
 . exact this
 . exact this
 . omega
theorem BW(j:Nat): 0<=qV j/\qV j<=119:=by unfold qV;split<;>omega
theorem Pb[S:Std A](T g:Nat)(L:Value)(X:g<2000)(d:cR)(ok:d.ok)(p:dU)(w:World)(h:fg w T L g):
 Calls (ag A) 29 #[.pointer (some ⟨T,0,none⟩),.agg (cO d p)] w λe w'=>∃(k left aK:Nat),e=.returned (.tuple #[.int .i64 k,.int .i64 left,.int .i64 aK])/\k<d.kinds/\left<=aK/\aK<120/\fg w' T L (g+4)/\w.grownBy w' (some T):=by
 have W:=h.lt;have Z:=ok.kinds;obtain⟨i,l⟩ : ∃i,w.alloc (.cells (cO d p) 25)=i:=⟨_,rfl⟩
 have t1:fg i T L g:=by rw[<-l];exact h.alloc _
 have B:w.grownBy i (some T):=by rw[<-l];exact Pn
 have C:i.heap.size=w.heap.size+1:=by rw[<-l];simp
 have y:i.heap[w.heap.size]?=some (.cells (cO d p) 25):=by rw[<-l];exact gA _ _
 have U:(some w.heap.size:Option Nat)≠some T:=λe=>by have:=Pm e;omega
 have K:=Pj t1;have F:=Pj B;have D:=Pj y;have E:=Pj l;have n:=Pj C;clear h t1 B y l C;go_enter (S.f Tryz.func29),Tryz.ntmps29;go_upto_region 1 with fail
 have u:=E.out;dsimp only[cO] at u;rw[u];clear u;go_wp2_with (first
  | (go_at_call 24;refine(wO (A:=A) T g L (by omega) i.heap.size 0 2 2 qV (by omega) _ (K.out.alloc _) (by have:=n.out;omega) (Ki _ _)).mono ?_;rintro e w2 ⟨j,Y,rfl,f,c⟩;have M:=Pj f;have G:=Pj c;clear f c)
  | (go_at_call 20;refine(pU (A:=A) T (g+2) L (by omega) ((d.kinds:Int)-1) (by omega) w3 P.out).mono ?_;rintro e V ⟨q,rfl,ad,f,c⟩;have Q:=Pj f;have I:=Pj c;clear f c)
  | (go_at_call 20;refine(pU (A:=A) T (g+1) L (by omega) (qV j) (by have:=BW j;omega) w2 M.out).mono ?_;rintro e w3 ⟨m,rfl,hm,f,c⟩;have aa:(m:Int)<=119:=(by have:=BW j;omega);have o:=G.out.trans c;have z:w3.heap[w.heap.size]?=some (.cells (cO d p) 25):=(o.block _ (by have:=n.out;simp;omega) U).trans ((Pq (by have:=n.out;omega)).trans D.out);have ai:w3.cell? ⟨w.heap.size,0,none⟩=some (.int .i64 d.kinds):=aT z;have P:=Pj f;have H:=Pj o;clear f c o z)
  | (go_at_call 36;refine(vr (A:=A) T (g+3) L (by omega) (m:Int) 119 (by omega) V Q.out).mono ?_;rintro e ah ⟨r,rfl,ae,af,f,c⟩;have R:=Pj f;have J:=Pj c;clear f c))
 refine bodyPost_ret (results_tmp3 rfl _ _ _) rfl ?_;exact⟨q,m,r,rfl,by omega,by omega,by omega,R.out,(((F.out.trans Pn).trans H.out).trans I.out).trans J.out⟩
end
end Go.aN
