/- Part 36 of a law on fees: no conditions. -/
import Derived.Test.YthiiblonjmmnfaaGreatDoorP34
set_option maxHeartbeats 8000000
set_option maxRecDepth 100000
set_option linter.all false
namespace Go.aN
open Go.Proofs Go.RowKit
section
variable{A:Array Func}
def O'[S:Std A](L:Value)(w:World)(h:j4 w L w.heap.size)(f:L.oneCell'=true):
 Calls (ag A) 4 #[L] w λe w'=>e=.returned (.pointer (some ⟨w.heap.size,0,none⟩))/\fg w' w.heap.size L 0/\w.grownBy w' none:=by
 have d:=Pj h;rcases h with rfl|⟨b,off,n,c,z,rfl,_,_,_⟩
 all_goals (
  go_enter (S.f Tryz.func4),Tryz.ntmps4;go_wp2;go_ret;exact⟨rfl,⟨⟨_,gA _ _,by omega,by omega⟩,d.out.keep Pn⟩,Pn⟩)
def qV(j:Nat):Int:=match j with|0=>40|_=>119
def Ki(w:World)(t:TypeId):iD (w.alloc (.cells #[.int .i64 40,.int .i64 119] t)) w.heap.size 0 2 qV:=by
 intro j c;have:=aT (o:=0+j) (gA w (.cells #[.int .i64 40,.int .i64 119] t));rcases j with _|_|j
 .exact this
 .exact this
 .omega
def BW(j:Nat):0<=qV j/\qV j<=119:=by unfold qV;split<;>omega
end
end Go.aN
