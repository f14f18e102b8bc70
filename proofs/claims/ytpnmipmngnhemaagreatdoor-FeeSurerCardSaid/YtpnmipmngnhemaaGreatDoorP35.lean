/- Part 36 of a law on fees: no conditions. -/
import Derived.Test.YtpnmipmngnhemaaGreatDoorP34
set_option maxHeartbeats 8000000
set_option maxRecDepth 100000
set_option linter.all false
namespace Go.aN
open Go.Proofs Go.RowKit
section
variable{A:Array Func}
def O'[S:Std A](L:Value)(w:World)(h:j4 w L w.heap.size)(f:L.oneCell'=true):
 Calls (ag A) 7 #[L] w λe w'=>e=.returned (.pointer (some ⟨w.heap.size,0,none⟩))/\fg w' w.heap.size L 0/\w.grownBy w' none:=by
 have d:=Pj h;rcases h with rfl|⟨b,off,n,c,z,rfl,_,_,_⟩
 all_goals (
  go_enter (S.f Tryz.func7),Tryz.ntmps7;go_wp2;go_ret;exact⟨rfl,⟨⟨_,gA _ _,by omega,by omega⟩,d.out.keep Pn⟩,Pn⟩)
def qV(j:Nat):Int:=match j with|0=>40|_=>119
def Ki(w:World)(t:TypeId):iD (w.alloc (.cells #[.int .i64 40,.int .i64 119] t)) w.heap.size 0 2 qV:=by
 intro j c;have:=aT (o:=0+j) (gA w (.cells #[.int .i64 40,.int .i64 119] t));rcases j with _|_|j
 .exact this
 .exact this
 .omega
def BW(j:Nat):0<=qV j/\qV j<=119:=by unfold qV;split<;>omega
def Pb[S:Std A](T g:Nat)(L:Value)(Z:g<2000)(d:cR)(ok:d.ok)(p:dU)(w:World)(h:fg w T L g):
 Calls (ag A) 9 #[.pointer (some ⟨T,0,none⟩),.agg (cO d p)] w λe w'=>∃(k left aK:Nat),e=.returned (.tuple #[.int .i64 k,.int .i64 left,.int .i64 aK])/\k<d.kinds/\left<=aK/\aK<120/\fg w' T L (g+4)/\w.grownBy w' (some T):=by
 have Y:=h.lt;have ad:=ok.kinds;obtain⟨i,l⟩:∃i,w.alloc (.cells (cO d p) 27)=i:=⟨_,rfl⟩
 have t1:fg i T L g:=by rw[<-l];exact h.alloc _
 have D:w.grownBy i (some T):=by rw[<-l];exact Pn
 have E:i.heap.size=w.heap.size+1:=by rw[<-l];simp
 have B:i.heap[w.heap.size]?=some (.cells (cO d p) 27):=by rw[<-l];exact gA _ _
 have W:(some w.heap.size:Option Nat)≠some T:=λe=>by have:=Pm e;omega
 have P:=Pj t1;have H:=Pj D;have F:=Pj B;have G:=Pj l;have o:=Pj E;clear h t1 D B l E;go_enter (S.f Tryz.func9),Tryz.ntmps9;go_upto_region 1 with fail
 have z:=G.out;dsimp only[cO]at z;rw[z];clear z;go_wp2_with (first
  |(go_at_call 27;refine(wO (A:=A) T g L (by omega) i.heap.size 0 2 2 qV (by omega) _ (P.out.alloc _) (by have:=o.out;omega) (Ki _ _)).mono ?_;rintro e w2 ⟨j,aa,rfl,f,c⟩;have Q:=Pj f;have I:=Pj c;clear f c)
  |(go_at_call 17;refine(pU (A:=A) T (g+2) L (by omega) ((d.kinds:Int)-1) (by omega) w3 R.out).mono ?_;rintro e X ⟨q,rfl,af,f,c⟩;have U:=Pj f;have K:=Pj c;clear f c)
  |(go_at_call 17;refine(pU (A:=A) T (g+1) L (by omega) (qV j) (by have:=BW j;omega) w2 Q.out).mono ?_;rintro e w3 ⟨m,rfl,hm,f,c⟩;have ae:(m:Int)<=119:=(by have:=BW j;omega);have u:=I.out.trans c;have C:w3.heap[w.heap.size]?=some (.cells (cO d p) 27):=(u.block _ (by have:=o.out;simp;omega) W).trans ((Pq (by have:=o.out;omega)).trans F.out);have ak:w3.cell? ⟨w.heap.size,0,none⟩=some (.int .i64 d.kinds):=aT C;have R:=Pj f;have J:=Pj u;clear f c u C)
  |(go_at_call 26;refine(vr (A:=A) T (g+3) L (by omega) (m:Int) 119 (by omega) X U.out).mono ?_;rintro e aj ⟨r,rfl,ah,ai,f,c⟩;have V:=Pj f;have M:=Pj c;clear f c))
 refine bodyPost_ret (results_tmp3 rfl _ _ _) rfl ?_;exact⟨q,m,r,rfl,by omega,by omega,by omega,V.out,(((H.out.trans Pn).trans J.out).trans K.out).trans M.out⟩
end
end Go.aN
