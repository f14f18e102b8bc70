/- A part. -/
import Derived.Test.YtejkocoljbaioaaGreatDoorP16
import Derived.BigQuiet
set_option maxHeartbeats 8000000
set_option maxRecDepth 100000
set_option linter.all false
namespace Go.aO
open Go.Proofs Go.RowKit
variable{s x:Int}{T g:Nat}{L:Value}{u w:World}
section
variable{A:Array Func}
def ly(w:World)(L:Value)(T:Nat):Prop:=(∃q:Option Addr,L=.slice q 0 0)\/∃(b off n c:Nat) (z:Nat->Int),L=.slice (some ⟨b,off,none⟩) n c/\n<=9223372036854775807/\b≠T/\
 ∀j,j<n->w.cell? ⟨b,off+j,none⟩=some (ah (z j))/\-9223372036854775808<=z j/\z j<=9223372036854775807
structure fS(w:World)(T:Nat)(L:Value)(g:Nat):Prop where
 blk:∃s:Int,w.heap[T]?=some (.cells #[L,ah g,.int .u64 s] 70)/\0<=s/\s<=18446744073709551615
 nm:ly w L T
def ly.keep{w':World}(h:ly w L T)(g:w.grownBy w' (some T)):ly w' L T:=by
 rcases h with h|⟨b,off,n,c,z,e,l,d,f⟩
 .exact .inl h
 .exact .inr ⟨b,off,n,c,z,e,l,d,λj i=>⟨g.cell (f j i).1 (λe=>d (bD e)),(f j i).2⟩⟩
def wrap_u64(x:Int):0<=IntKind.wrap .u64 x/\IntKind.wrap .u64 x<=18446744073709551615:=by simp[IntKind.wrap,IntKind.min,IntKind.max,IntKind.signed,IntKind.bits]<;>omega
def pn(a b:Int):0<=bits .xor .u64 a b/\bits .xor .u64 a b<=18446744073709551615:=by unfold bits;exact wrap_u64 _
def Ai(h:0<=x/\x<=18446744073709551615):Value.int .u64 (x / 512)=.int .u64 (((x / 512).toNat:Nat):Int):=by congr 1;omega
def Ah(h:0<=x/\x<=18446744073709551615):(x / 512).toNat<=36028797018963967:=U
def qm(u:World)(T g:Nat)(v:Int):World:=(u.setCell ⟨T,1,none⟩ (ah ((g:Int)+1))).setCell ⟨T,2,none⟩ (.int .u64 v)
def Bb(u:World)(T g:Nat)(v:Int):(u.setCell ⟨T,1,none⟩ (ah ((g:Int)+1))).setCell ⟨T,2,none⟩ (.int .u64 v)=qm u T g v:=rfl
def th(d:u.heap[T]?=some (.cells #[L,ah g,.int .u64 s] 70))(v:Int):(qm u T g v).heap[T]?=some (.cells #[L,ah ((g:Int)+1),.int .u64 v] 70):=by have c:(u.setCell ⟨T,1,none⟩ (ah ((g:Int)+1))).heap[T]?=some (.cells #[L,ah ((g:Int)+1),.int .u64 s] 70):=cU d;exact cU c
def Bd{v v2:Int}(q:ly w L T)(l:w.heap[T]?=some (.cells #[L,ah g,.int .u64 s] 70))(j:0<=v/\v<=18446744073709551615)(hu:u.heap=w.heap/\u.os=w.os/\u.tape=w.tape/\u.output=w.output):
 fS ((((u.setCell ⟨T,1,none⟩ (ah ((g:Int)+1))).setCell ⟨T,2,none⟩ (.int .u64 v2)).setCell ⟨T,2,none⟩ (.int .u64 v)).drew) T L (g+1)/\w.grownBy ((((u.setCell ⟨T,1,none⟩ (ah ((g:Int)+1))).setCell ⟨T,2,none⟩ (.int .u64 v2)).setCell ⟨T,2,none⟩ (.int .u64 v)).drew) (some T):=by
 have h:w.grownBy u (some T):=⟨hu.2.1,hu.2.2.1,hu.2.2.2,by rw[hu.1];exact bg,λi _ _=>by rw[hu.1]⟩
 have gf:=gv (e7 (T:=T) (o:=2) (v:=.int .u64 v) (e7 (T:=T) (o:=2) (v:=.int .u64 v2) (e7 (T:=T) (o:=1) (v:=ah ((g:Int)+1)) h)));have p:u.heap[T]?=some (.cells #[L,ah g,.int .u64 s] 70):=by rw[hu.1];exact l
 have c:(u.setCell ⟨T,1,none⟩ (ah ((g:Int)+1))).heap[T]?=some (.cells #[L,ah ((g:Int)+1),.int .u64 s] 70):=cU p;have d:((u.setCell ⟨T,1,none⟩ (ah ((g:Int)+1))).setCell ⟨T,2,none⟩ (.int .u64 v2)).heap[T]?=some (.cells #[L,ah ((g:Int)+1),.int .u64 v2] 70):=cU c;have f:(((u.setCell ⟨T,1,none⟩ (ah ((g:Int)+1))).setCell ⟨T,2,none⟩ (.int .u64 v2)).setCell ⟨T,2,none⟩ (.int .u64 v)).heap[T]?=some (.cells #[L,ah ((g:Int)+1),.int .u64 v] 70):=cU d;exact⟨⟨⟨v,f,j⟩,q.keep gf⟩,gf⟩
def Ml[S:Std A](T g:Nat)(L:Value)(G:g<1000000)(w:World)(h:fS w T L g):
 Calls (ao A) 38 #[.pointer (some ⟨T,0,none⟩)] w λe w'=>∃n:Nat,e=.returned (.int .u64 n)/\n<=36028797018963967/\fS w' T L (g+1)/\w.grownBy w' (some T):=by
 obtain⟨⟨s,d,H,I⟩,i⟩:=h;have bx:w.cell? ⟨T,0,none⟩=some L:=aU d;have E:w.cell? ⟨T,1,none⟩=some (ah g):=aU d;have F:w.cell? ⟨T,2,none⟩=some (.int .u64 s):=aU d;rcases i with⟨q,rfl⟩|⟨b,off,n,c,z,rfl,p,r,f⟩
 .have hd:decide ((g:Int)<0)=false:=aF
  have C:w.frozen? ⟨T,1,none⟩=false:=b3 d;have D:w.frozen? ⟨T,2,none⟩=false:=b3 d;go_enter (S.f Tryz.func38),Tryz.ntmps38;go_wp2;go_quiet (fail);go_wp2;rw[Bb];have j:∀k v,(qm (w.drewN k) T g v).cell? ⟨T,2,none⟩=some (.int .u64 v):=λk v=>aU (th (u:=w.drewN k) d v)
  have o:∀k v,(qm (w.drewN k) T g v).frozen? ⟨T,2,none⟩=false:=λk v=>b3 (th (u:=w.drewN k) d v)
  go_region
  go_wp2;go_ret;exact⟨_,congrArg Ending.returned (Ai (pn _ _)),Ah (pn _ _),Bd (.inl ⟨q,rfl⟩) d (pn _ _) ⟨rfl,rfl,rfl,rfl⟩⟩
 .have i:ly w (.slice (some ⟨b,off,none⟩) n c) T:=.inr ⟨b,off,n,c,z,rfl,p,r,f⟩
  have C:w.frozen? ⟨T,1,none⟩=false:=b3 d;have D:w.frozen? ⟨T,2,none⟩=false:=b3 d;by_cases l:(g:Int)<n
  .have hd:decide ((g:Int)<n)=true:=by simpa using l
   have B:decide (g<n)=true:=cH;obtain⟨J,K,M⟩:=f g U;clear f;go_enter (S.f Tryz.func38),Tryz.ntmps38;go_wp2;go_quiet (fail);go_wp2;go_quiet (fail);go_wp2;rw[Bb];have j:∀k v,(qm (w.drewN k) T g v).cell? ⟨T,2,none⟩=some (.int .u64 v):=λk v=>aU (th (u:=w.drewN k) d v)
   have o:∀k v,(qm (w.drewN k) T g v).frozen? ⟨T,2,none⟩=false:=λk v=>b3 (th (u:=w.drewN k) d v)
   go_region
   go_wp2;go_ret;exact⟨_,congrArg Ending.returned (Ai (pn _ _)),Ah (pn _ _),Bd i d (pn _ _) ⟨rfl,rfl,rfl,rfl⟩⟩
  .have hd:decide ((g:Int)<n)=false:=by simpa using l
   have B:decide (g<n)=false:=cH;clear f;go_enter (S.f Tryz.func38),Tryz.ntmps38;go_wp2;go_quiet (fail);go_wp2;rw[Bb];have j:∀k v,(qm (w.drewN k) T g v).cell? ⟨T,2,none⟩=some (.int .u64 v):=λk v=>aU (th (u:=w.drewN k) d v)
   have o:∀k v,(qm (w.drewN k) T g v).frozen? ⟨T,2,none⟩=false:=λk v=>b3 (th (u:=w.drewN k) d v)
   go_region
   go_wp2;go_ret;exact⟨_,congrArg Ending.returned (Ai (pn _ _)),Ah (pn _ _),Bd i d (pn _ _) ⟨rfl,rfl,rfl,rfl⟩⟩
def PG[S:Std A](T g:Nat)(L:Value)(p:g<1000000)(n:Int)(r:-1000000<=n/\n<=1000000)(w:World)(h:fS w T L g):
 Calls (ao A) 12 #[.pointer (some ⟨T,0,none⟩),ah n] w λe w'=>∃m:Nat,e=.returned (ah m)/\(m:Int)<=max n 0/\fS w' T L (g+1)/\w.grownBy w' (some T):=by
 have j:=al (Ml (A:=A) T g L p w h);clear h;by_cases l:n<1
 .have hd:decide (n<1)=true:=by simpa using l
  go_enter (S.f Tryz.func12),Tryz.ntmps12;go_wp2_with (go_at_call 38;refine j.out.mono ?_;rintro e w' ⟨m,rfl,hm,d,c⟩;have i:=al d;have f:=al c;clear d c)
  go_ret;exact⟨0,rfl,U,i.out,f.out⟩
 .have hd:decide (n<1)=false:=by simpa using l
  obtain⟨k,rfl⟩:∃k:Nat,n=k:=⟨n.toNat,U⟩
  go_enter (S.f Tryz.func12),Tryz.ntmps12;go_wp2_with (go_at_call 38;refine j.out.mono ?_;rintro e w' ⟨m,rfl,hm,d,c⟩;have i:=al d;have f:=al c;clear d c)
  have o:(m:Int)%((k:Int)+1)=((m%(k+1):Nat):Int):=by
   rw[Int.natCast_emod];push_cast
   rfl
  have q:m%(k+1)<k+1:=Nat.mod_lt _ U;have e:Ending.returned (ah (wrap64 ((m:Int)%((k:Int)+1))))=.returned (ah ((m%(k+1):Nat):Int)):=by rw[o];congr 2;unfold wrap64;omega
  go_ret;exact⟨m%(k+1),e,U,i.out,f.out⟩
def Bc[S:Std A](T g:Nat)(L:Value)(p:g<1000000)(bY c:Int)(q:0<=bY/\bY<=1000000/\0<=c/\c<=1000000)(w:World)(h:fS w T L g):
 Calls (ao A) 13 #[.pointer (some ⟨T,0,none⟩),ah bY,ah c] w λe w'=>∃m:Nat,e=.returned (ah m)/\bY<=m/\(m:Int)<=max bY c/\fS w' T L (g+1)/\w.grownBy w' (some T):=by
 have j:=al (PG (A:=A) T g L p (c-bY) U w h);clear h;obtain⟨l,rfl⟩:∃l:Nat,bY=l:=⟨bY.toNat,U⟩
 go_enter (S.f Tryz.func13),Tryz.ntmps13;go_wp2_with (go_at_call 12;refine j.out.mono ?_;rintro e w' ⟨m,rfl,hm,f,d⟩;have o:=al f;have i:=al d;clear f d)
 go_ret;exact⟨l+m,by push_cast;rfl,U,U,o.out,i.out⟩
def E1[S:Std A](T g:Nat)(L:Value)(l:g<1000000)(n:Int)(o:1<=n/\n<=1000000)(w:World)(h:fS w T L g):
 Calls (ao A) 33 #[.pointer (some ⟨T,0,none⟩),ah n] w λe w'=>∃b:Bool,e=.returned (.bool b)/\fS w' T L (g+1)/\w.grownBy w' (some T):=by
 have i:=al (PG (A:=A) T g L l (n-1) U w h);clear h;go_enter (S.f Tryz.func33),Tryz.ntmps33;go_wp2_with (go_at_call 12;refine i.out.mono ?_;rintro e w' ⟨m,rfl,hm,d,c⟩;have j:=al d;have f:=al c;clear d c)
 go_ret;exact⟨_,rfl,j.out,f.out⟩
def CQ[S:Std A](T g:Nat)(L:Value)(C:g<1000000)(b o n c:Nat)(f:Nat->Int)(E:0<n/\n<=1000)(w:World)(h:fS w T L g)(B:b≠T)(i:gn w b o n f):
 Calls (ao A) 35 #[.pointer (some ⟨T,0,none⟩),.slice (some ⟨b,o,none⟩) n c] w λe w'=>∃j:Nat,j<n/\e=.returned (ah (f j))/\fS w' T L (g+1)/\w.grownBy w' (some T):=by
 have u:=al (PG (A:=A) T g L C ((n:Int)-1) U w h);have r:=al i;clear h i;go_enter (S.f Tryz.func35),Tryz.ntmps35;go_wp2_with (go_at_call 12;refine u.out.mono ?_;rintro e w' ⟨m,rfl,hm,q,l⟩;have z:=al q;have d:=al l;have p:m<n:=U;have D:=(d.out).cell (r.out m p) (λe=>B (bD e));clear q l)
 go_ret;exact⟨m,p,rfl,z.out,d.out⟩
end
end Go.aO
