/- Part 24 of a law on fees: no conditions. -/
import Derived.Test.YthiiblonjmmnfaaGreatDoorP20
import Derived.BigQuiet
set_option maxHeartbeats 8000000
set_option maxRecDepth 100000
set_option linter.all false
namespace Go.aN
open Go.Proofs Go.RowKit
section
variable{A:Array Func}
def j4(w:World)(L:Value)(T:Nat):Prop:=L=.slice none 0 0\/∃(b off n c:Nat) (z:Nat->Int),L=.slice (some ⟨b,off,none⟩) n c/\n<=9223372036854775807/\b≠T/\
 ∀j,j<n->w.cell? ⟨b,off+j,none⟩=some (.int .i64 (z j))/\-9223372036854775808<=z j/\z j<=9223372036854775807
structure fg(w:World)(T:Nat)(L:Value)(g:Nat):Prop where
 blk:∃s:Int,w.heap[T]?=some (.cells #[L,.int .i64 g,.int .u64 s] 51)/\0<=s/\s<=18446744073709551615
 mr:j4 w L T
def j4.keep{w w':World}{L:Value}{T:Nat}(h:j4 w L T)(g:w.grownBy w' (some T)):j4 w' L T:=by
 rcases h with h|⟨b,off,n,c,z,e,l,d,f⟩
 .exact .inl h
 .exact .inr ⟨b,off,n,c,z,e,l,d,λj i=>⟨g.cell (f j i).1 (λe=>d (Pm e)),(f j i).2⟩⟩
def wrap_u64(x:Int):0<=IntKind.wrap .u64 x/\IntKind.wrap .u64 x<=18446744073709551615:=by simp[IntKind.wrap,IntKind.min,IntKind.max,IntKind.signed,IntKind.bits]<;>omega
def nB(a b:Int):0<=bits .xor .u64 a b/\bits .xor .u64 a b<=18446744073709551615:=by unfold bits;exact wrap_u64 _
def xW{x:Int}(h:0<=x/\x<=18446744073709551615):Value.int .u64 (x / 512)=.int .u64 (((x / 512).toNat:Nat):Int):=by congr 1;omega
def xV{x:Int}(h:0<=x/\x<=18446744073709551615):(x / 512).toNat<=36028797018963967:=by omega
def oE(u:World)(T g:Nat)(v:Int):World:=(u.setCell ⟨T,1,none⟩ (.int .i64 ((g:Int)+1))).setCell ⟨T,2,none⟩ (.int .u64 v)
def yO(u:World)(T g:Nat)(v:Int):(u.setCell ⟨T,1,none⟩ (.int .i64 ((g:Int)+1))).setCell ⟨T,2,none⟩ (.int .u64 v)=oE u T g v:=rfl
def rj{u:World}{T:Nat}{L:Value}{g:Nat}{s:Int}(d:u.heap[T]?=some (.cells #[L,.int .i64 g,.int .u64 s] 51))(v:Int):(oE u T g v).heap[T]?=some (.cells #[L,.int .i64 ((g:Int)+1),.int .u64 v] 51):=by have c:(u.setCell ⟨T,1,none⟩ (.int .i64 ((g:Int)+1))).heap[T]?=some (.cells #[L,.int .i64 ((g:Int)+1),.int .u64 s] 51):=cQ d;exact cQ c
def yP{w u:World}{T:Nat}{L:Value}{g:Nat}{s v v2:Int}(q:j4 w L T)(l:w.heap[T]?=some (.cells #[L,.int .i64 g,.int .u64 s] 51))(j:0<=v/\v<=18446744073709551615)(hu:u.heap=w.heap/\u.os=w.os/\u.tape=w.tape/\u.output=w.output):
 fg ((((u.setCell ⟨T,1,none⟩ (.int .i64 ((g:Int)+1))).setCell ⟨T,2,none⟩ (.int .u64 v2)).setCell ⟨T,2,none⟩ (.int .u64 v)).drew) T L (g+1)/\w.grownBy ((((u.setCell ⟨T,1,none⟩ (.int .i64 ((g:Int)+1))).setCell ⟨T,2,none⟩ (.int .u64 v2)).setCell ⟨T,2,none⟩ (.int .u64 v)).drew) (some T):=by
 have h:w.grownBy u (some T):=⟨hu.2.1,hu.2.2.1,hu.2.2.2,by rw[hu.1];exact Pk,λi _ _=>by rw[hu.1]⟩
 have gf:=fQ (et (T:=T) (o:=2) (v:=.int .u64 v) (et (T:=T) (o:=2) (v:=.int .u64 v2) (et (T:=T) (o:=1) (v:=.int .i64 ((g:Int)+1)) h)));have p:u.heap[T]?=some (.cells #[L,.int .i64 g,.int .u64 s] 51):=by rw[hu.1];exact l
 have c:(u.setCell ⟨T,1,none⟩ (.int .i64 ((g:Int)+1))).heap[T]?=some (.cells #[L,.int .i64 ((g:Int)+1),.int .u64 s] 51):=cQ p;have d:((u.setCell ⟨T,1,none⟩ (.int .i64 ((g:Int)+1))).setCell ⟨T,2,none⟩ (.int .u64 v2)).heap[T]?=some (.cells #[L,.int .i64 ((g:Int)+1),.int .u64 v2] 51):=cQ c;have f:(((u.setCell ⟨T,1,none⟩ (.int .i64 ((g:Int)+1))).setCell ⟨T,2,none⟩ (.int .u64 v2)).setCell ⟨T,2,none⟩ (.int .u64 v)).heap[T]?=some (.cells #[L,.int .i64 ((g:Int)+1),.int .u64 v] 51):=cQ d;exact⟨⟨⟨v,f,j⟩,q.keep gf⟩,gf⟩
def Je[S:Std A](T g:Nat)(L:Value)(F:g<1000000)(w:World)(h:fg w T L g):
 Calls (ag A) 18 #[.pointer (some ⟨T,0,none⟩)] w λe w'=>∃n:Nat,e=.returned (.int .u64 n)/\n<=36028797018963967/\fg w' T L (g+1)/\w.grownBy w' (some T):=by
 obtain⟨⟨s,d,G,H⟩,i⟩:=h;have bu:w.cell? ⟨T,0,none⟩=some L:=aT d;have D:w.cell? ⟨T,1,none⟩=some (.int .i64 g):=aT d;have E:w.cell? ⟨T,2,none⟩=some (.int .u64 s):=aT d;rcases i with rfl|⟨b,off,n,c,z,rfl,p,q,f⟩
 .have hd:decide ((g:Int)<0)=false:=by simp
  have B:w.frozen? ⟨T,1,none⟩=false:=b1 d;have C:w.frozen? ⟨T,2,none⟩=false:=b1 d;go_enter (S.f Tryz.func18),Tryz.ntmps18;go_wp2;go_quiet (fail);go_wp2;rw[yO];have j:∀k v,(oE (w.drewN k) T g v).cell? ⟨T,2,none⟩=some (.int .u64 v):=λk v=>aT (rj (u:=w.drewN k) d v)
  have o:∀k v,(oE (w.drewN k) T g v).frozen? ⟨T,2,none⟩=false:=λk v=>b1 (rj (u:=w.drewN k) d v)
  go_region
  go_wp2;go_ret;exact⟨_,congrArg Ending.returned (xW (nB _ _)),xV (nB _ _),yP (.inl rfl) d (nB _ _) ⟨rfl,rfl,rfl,rfl⟩⟩
 .have i:j4 w (.slice (some ⟨b,off,none⟩) n c) T:=.inr ⟨b,off,n,c,z,rfl,p,q,f⟩
  have B:w.frozen? ⟨T,1,none⟩=false:=b1 d;have C:w.frozen? ⟨T,2,none⟩=false:=b1 d;by_cases l:(g:Int)<n
  .have hd:decide ((g:Int)<n)=true:=by simpa using l
   have r:decide (g<n)=true:=by simp;omega
   obtain⟨I,J,K⟩:=f g (by omega);clear f;go_enter (S.f Tryz.func18),Tryz.ntmps18;go_wp2;go_quiet (fail);go_wp2;go_quiet (fail);go_wp2;rw[yO];have j:∀k v,(oE (w.drewN k) T g v).cell? ⟨T,2,none⟩=some (.int .u64 v):=λk v=>aT (rj (u:=w.drewN k) d v)
   have o:∀k v,(oE (w.drewN k) T g v).frozen? ⟨T,2,none⟩=false:=λk v=>b1 (rj (u:=w.drewN k) d v)
   go_region
   go_wp2;go_ret;exact⟨_,congrArg Ending.returned (xW (nB _ _)),xV (nB _ _),yP i d (nB _ _) ⟨rfl,rfl,rfl,rfl⟩⟩
  .have hd:decide ((g:Int)<n)=false:=by simpa using l
   have r:decide (g<n)=false:=by simp;omega
   clear f;go_enter (S.f Tryz.func18),Tryz.ntmps18;go_wp2;go_quiet (fail);go_wp2;rw[yO];have j:∀k v,(oE (w.drewN k) T g v).cell? ⟨T,2,none⟩=some (.int .u64 v):=λk v=>aT (rj (u:=w.drewN k) d v)
   have o:∀k v,(oE (w.drewN k) T g v).frozen? ⟨T,2,none⟩=false:=λk v=>b1 (rj (u:=w.drewN k) d v)
   go_region
   go_wp2;go_ret;exact⟨_,congrArg Ending.returned (xW (nB _ _)),xV (nB _ _),yP i d (nB _ _) ⟨rfl,rfl,rfl,rfl⟩⟩
end
section
variable{A:Array Func}
def pU[S:Std A](T g:Nat)(L:Value)(p:g<1000000)(n:Int)(r:-1000000<=n/\n<=1000000)(w:World)(h:fg w T L g):
 Calls (ag A) 7 #[.pointer (some ⟨T,0,none⟩),.int .i64 n] w λe w'=>∃m:Nat,e=.returned (.int .i64 m)/\(m:Int)<=max n 0/\fg w' T L (g+1)/\w.grownBy w' (some T):=by
 have j:=Pj (Je (A:=A) T g L p w h);clear h;by_cases l:n<1
 .have hd:decide (n<1)=true:=by simpa using l
  go_enter (S.f Tryz.func7),Tryz.ntmps7;go_wp2_with (go_at_call 18;refine j.out.mono ?_;rintro e w' ⟨m,rfl,hm,d,c⟩;have i:=Pj d;have f:=Pj c;clear d c)
  go_ret;exact⟨0,rfl,by omega,i.out,f.out⟩
 .have hd:decide (n<1)=false:=by simpa using l
  obtain⟨k,rfl⟩:∃k:Nat,n=k:=⟨n.toNat,by omega⟩
  go_enter (S.f Tryz.func7),Tryz.ntmps7;go_wp2_with (go_at_call 18;refine j.out.mono ?_;rintro e w' ⟨m,rfl,hm,d,c⟩;have i:=Pj d;have f:=Pj c;clear d c)
  have o:(m:Int)%((k:Int)+1)=((m%(k+1):Nat):Int):=by
   rw[Int.natCast_emod];push_cast
   rfl
  have q:m%(k+1)<k+1:=Nat.mod_lt _ (by omega);have e:Ending.returned (.int .i64 (wrap64 ((m:Int)%((k:Int)+1))))=.returned (.int .i64 ((m%(k+1):Nat):Int)):=by rw[o];congr 2;unfold wrap64;omega
  go_ret;exact⟨m%(k+1),e,by omega,i.out,f.out⟩
def vr[S:Std A](T g:Nat)(L:Value)(p:g<1000000)(b4 c:Int)(q:0<=b4/\b4<=1000000/\0<=c/\c<=1000000)(w:World)(h:fg w T L g):
 Calls (ag A) 15 #[.pointer (some ⟨T,0,none⟩),.int .i64 b4,.int .i64 c] w λe w'=>∃m:Nat,e=.returned (.int .i64 m)/\b4<=m/\(m:Int)<=max b4 c/\fg w' T L (g+1)/\w.grownBy w' (some T):=by
 have j:=Pj (pU (A:=A) T g L p (c-b4) (by omega) w h);clear h;obtain⟨l,rfl⟩:∃l:Nat,b4=l:=⟨b4.toNat,by omega⟩
 go_enter (S.f Tryz.func15),Tryz.ntmps15;go_wp2_with (go_at_call 7;refine j.out.mono ?_;rintro e w' ⟨m,rfl,hm,f,d⟩;have o:=Pj f;have i:=Pj d;clear f d)
 go_ret;exact⟨l+m,by push_cast;rfl,by omega,by omega,o.out,i.out⟩
def Kx[S:Std A](T g:Nat)(L:Value)(l:g<1000000)(n:Int)(o:1<=n/\n<=1000000)(w:World)(h:fg w T L g):
 Calls (ag A) 17 #[.pointer (some ⟨T,0,none⟩),.int .i64 n] w λe w'=>∃b:Bool,e=.returned (.bool b)/\fg w' T L (g+1)/\w.grownBy w' (some T):=by
 have i:=Pj (pU (A:=A) T g L l (n-1) (by omega) w h);clear h;go_enter (S.f Tryz.func17),Tryz.ntmps17;go_wp2_with (go_at_call 7;refine i.out.mono ?_;rintro e w' ⟨m,rfl,hm,d,c⟩;have j:=Pj d;have f:=Pj c;clear d c)
 go_ret;exact⟨_,rfl,j.out,f.out⟩
def wO[S:Std A](T g:Nat)(L:Value)(C:g<1000000)(b o n c:Nat)(f:Nat->Int)(E:0<n/\n<=1000)(w:World)(h:fg w T L g)(B:b≠T)(i:iD w b o n f):
 Calls (ag A) 16 #[.pointer (some ⟨T,0,none⟩),.slice (some ⟨b,o,none⟩) n c] w λe w'=>∃j:Nat,j<n/\e=.returned (.int .i64 (f j))/\fg w' T L (g+1)/\w.grownBy w' (some T):=by
 have u:=Pj (pU (A:=A) T g L C ((n:Int)-1) (by omega) w h);have r:=Pj i;clear h i;go_enter (S.f Tryz.func16),Tryz.ntmps16;go_wp2_with (go_at_call 7;refine u.out.mono ?_;rintro e w' ⟨m,rfl,hm,q,l⟩;have z:=Pj q;have d:=Pj l;have p:m<n:=(by omega);have D:=(d.out).cell (r.out m p) (λe=>B (Pm e));clear q l)
 go_ret;exact⟨m,p,rfl,z.out,d.out⟩
end
end Go.aN
