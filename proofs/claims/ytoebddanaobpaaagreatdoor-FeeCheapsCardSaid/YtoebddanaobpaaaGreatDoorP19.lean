/- A part. -/
import Derived.Test.YtoebddanaobpaaaGreatDoorP16
import Derived.BigQuiet
set_option maxHeartbeats 8000000
set_option maxRecDepth 100000
set_option linter.all false
namespace Go.aO
open Go.Proofs Tryz Go.RowKit
variable{s x:Int}{T g:Nat}{u w:S7}{L:S9}
section
variable{A:TJ}
def ly(w:S7)(L:S9)(T:Nat):Prop:=(∃q:TV,L=.slice q 0 0)\/∃(b off n c:Nat) (z:Ty),L=TW b off n c/\n<=9223372036854775807/\b≠T/\
 ∀j,j<n->w.cell? (S8 b (off+j))=Tn (z j)/\-9223372036854775808<=z j/\z j<=9223372036854775807
structure fS(w:S7)(T:Nat)(L:S9)(g:Nat):Prop where
 blk:∃s:Int,w.heap[T]?=some (.cells #[L,ah g,.int .u64 s] 66)/\0<=s/\s<=18446744073709551615
 nm:ly w L T
def ly.keep{w':S7}(h:ly w L T)(g:w.grownBy w' (some T)):ly w' L T:=by
 rcases h with h|⟨b,off,n,c,z,e,l,d,f⟩
 .exact .inl h
 .exact .inr ⟨b,off,n,c,z,e,l,d,λj i=>⟨g.cell (f j i).1 (λe=>d (bD e)),(f j i).2⟩⟩
def wrap_u64(x:Int):0<=IntKind.wrap .u64 x/\IntKind.wrap .u64 x<=18446744073709551615:=by simp[IntKind.wrap,IntKind.min,IntKind.max,IntKind.signed,IntKind.bits]<;>omega
def pn(a b:Int):0<=bits .xor .u64 a b/\bits .xor .u64 a b<=18446744073709551615:=by unfold bits;exact wrap_u64 _
def Ai(h:0<=x/\x<=18446744073709551615):Value.int .u64 (x / 512)=.int .u64 (((x / 512).toNat:Nat):Int):=by congr 1;omega
def Ah(h:0<=x/\x<=18446744073709551615):(x / 512).toNat<=36028797018963967:=U
def qm(u:S7)(T g:Nat)(v:Int):S7:=(u.setCell (S8 T 1) (ah ((g:Int)+1))).setCell (S8 T 2) (.int .u64 v)
def Bb(u:S7)(T g:Nat)(v:Int):(u.setCell (S8 T 1) (ah ((g:Int)+1))).setCell (S8 T 2) (.int .u64 v)=qm u T g v:=S6
def th(d:u.heap[T]?=some (.cells #[L,ah g,.int .u64 s] 66))(v:Int):(qm u T g v).heap[T]?=some (.cells #[L,ah ((g:Int)+1),.int .u64 v] 66):=by have c:(u.setCell (S8 T 1) (ah ((g:Int)+1))).heap[T]?=some (.cells #[L,ah ((g:Int)+1),.int .u64 s] 66):=cU d;exact cU c
def Bd{v v2:Int}(n:ly w L T)(l:w.heap[T]?=some (.cells #[L,ah g,.int .u64 s] 66))(j:0<=v/\v<=18446744073709551615)(hu:u.heap=w.heap/\u.os=w.os/\u.tape=w.tape/\u.output=w.output):
 fS ((((u.setCell (S8 T 1) (ah ((g:Int)+1))).setCell (S8 T 2) (.int .u64 v2)).setCell (S8 T 2) (.int .u64 v)).drew) T L (g+1)/\w.grownBy ((((u.setCell (S8 T 1) (ah ((g:Int)+1))).setCell (S8 T 2) (.int .u64 v2)).setCell (S8 T 2) (.int .u64 v)).drew) (some T):=by
 have h:w.grownBy u (some T):=⟨hu.2.1,hu.2.2.1,hu.2.2.2,by rw[hu.1];exact bg,λi _ _=>by rw[hu.1]⟩
 have gf:=gv (e7 (T:=T) (o:=2) (v:=.int .u64 v) (e7 (T:=T) (o:=2) (v:=.int .u64 v2) (e7 (T:=T) (o:=1) (v:=ah ((g:Int)+1)) h)));have m:u.heap[T]?=some (.cells #[L,ah g,.int .u64 s] 66):=by rw[hu.1];exact l
 have c:(u.setCell (S8 T 1) (ah ((g:Int)+1))).heap[T]?=some (.cells #[L,ah ((g:Int)+1),.int .u64 s] 66):=cU m;have d:((u.setCell (S8 T 1) (ah ((g:Int)+1))).setCell (S8 T 2) (.int .u64 v2)).heap[T]?=some (.cells #[L,ah ((g:Int)+1),.int .u64 v2] 66):=cU c;have f:(((u.setCell (S8 T 1) (ah ((g:Int)+1))).setCell (S8 T 2) (.int .u64 v2)).setCell (S8 T 2) (.int .u64 v)).heap[T]?=some (.cells #[L,ah ((g:Int)+1),.int .u64 v] 66):=cU d;exact⟨⟨⟨v,f,j⟩,n.keep gf⟩,gf⟩
def Ml[S:Std A](T g:Nat)(L:S9)(E:g<1000000)(w:S7)(h:fS w T L g):
 Calls (ao A) 28 #[Tj T] w λe w'=>∃n:Nat,e=.returned (.int .u64 n)/\n<=36028797018963967/\fS w' T L (g+1)/\w.grownBy w' (some T):=by
 obtain⟨⟨s,d,F,G⟩,i⟩:=h;have bx:w.cell? (Ti T)=some L:=aU d;have C:w.cell? (S8 T 1)=Tn g:=aU d;have D:w.cell? (S8 T 2)=some (.int .u64 s):=aU d;rcases i with⟨q,rfl⟩|⟨b,off,n,c,z,rfl,o,p,f⟩
 .have hd:decide ((g:Int)<0)=false:=aF
  have y:w.frozen? (S8 T 1)=false:=b3 d;have B:w.frozen? (S8 T 2)=false:=b3 d;go_enter (S.f func28),ntmps28;go_wp2;go_quiet (fail);go_wp2;rw[Bb];have j:∀k v,(qm (w.drewN k) T g v).cell? (S8 T 2)=some (.int .u64 v):=λk v=>aU (th (u:=w.drewN k) d v)
  have m:∀k v,(qm (w.drewN k) T g v).frozen? (S8 T 2)=false:=λk v=>b3 (th (u:=w.drewN k) d v)
  go_region
  go_wp2;go_ret;exact⟨_,congrArg Ending.returned (Ai (pn _ _)),Ah (pn _ _),Bd (.inl ⟨q,S6⟩) d (pn _ _) ⟨S6,S6,S6,S6⟩⟩
 .have i:ly w (.slice (some ⟨b,off,none⟩) n c) T:=.inr ⟨b,off,n,c,z,S6,o,p,f⟩
  have y:w.frozen? (S8 T 1)=false:=b3 d;have B:w.frozen? (S8 T 2)=false:=b3 d;by_cases l:(g:Int)<n
  .have hd:decide ((g:Int)<n)=true:=by simpa using l
   have r:decide (g<n)=true:=cH;let⟨H,I,J⟩:=f g U;clear f;go_enter (S.f func28),ntmps28;go_wp2;go_quiet (fail);go_wp2;go_quiet (fail);go_wp2;rw[Bb];have j:∀k v,(qm (w.drewN k) T g v).cell? (S8 T 2)=some (.int .u64 v):=λk v=>aU (th (u:=w.drewN k) d v)
   have m:∀k v,(qm (w.drewN k) T g v).frozen? (S8 T 2)=false:=λk v=>b3 (th (u:=w.drewN k) d v)
   go_region
   go_wp2;go_ret;exact⟨_,congrArg Ending.returned (Ai (pn _ _)),Ah (pn _ _),Bd i d (pn _ _) ⟨S6,S6,S6,S6⟩⟩
  .have hd:decide ((g:Int)<n)=false:=by simpa using l
   have r:decide (g<n)=false:=cH;clear f;go_enter (S.f func28),ntmps28;go_wp2;go_quiet (fail);go_wp2;rw[Bb];have j:∀k v,(qm (w.drewN k) T g v).cell? (S8 T 2)=some (.int .u64 v):=λk v=>aU (th (u:=w.drewN k) d v)
   have m:∀k v,(qm (w.drewN k) T g v).frozen? (S8 T 2)=false:=λk v=>b3 (th (u:=w.drewN k) d v)
   go_region
   go_wp2;go_ret;exact⟨_,congrArg Ending.returned (Ai (pn _ _)),Ah (pn _ _),Bd i d (pn _ _) ⟨S6,S6,S6,S6⟩⟩
def PG[S:Std A](T g:Nat)(L:S9)(p:g<1000000)(n:Int)(r:-1000000<=n/\n<=1000000)(w:S7)(h:fS w T L g):
 Calls (ao A) 9 #[Tj T,ah n] w λe w'=>∃m:Nat,e=.returned (ah m)/\(m:Int)<=max n 0/\fS w' T L (g+1)/\w.grownBy w' (some T):=by
 have j:=al (Ml (A:=A) T g L p w h);clear h;by_cases l:n<1
 .have hd:decide (n<1)=true:=by simpa using l
  go_enter (S.f func9),ntmps9;go_wp2_with (go_at_call 28;refine j.out.mono ?_;rintro e w' ⟨m,rfl,hm,d,c⟩;have i:=al d;have f:=al c;clear d c)
  go_ret;exact⟨0,S6,U,i.out,f.out⟩
 .have hd:decide (n<1)=false:=by simpa using l
  obtain⟨k,rfl⟩:∃k:Nat,n=k:=⟨n.toNat,U⟩
  go_enter (S.f func9),ntmps9;go_wp2_with (go_at_call 28;refine j.out.mono ?_;rintro e w' ⟨m,rfl,hm,d,c⟩;have i:=al d;have f:=al c;clear d c)
  have o:(m:Int)%((k:Int)+1)=((m%(k+1):Nat):Int):=by
   rw[Int.natCast_emod];push_cast
   rfl
  have q:m%(k+1)<k+1:=Nat.mod_lt _ U;have e:Ending.returned (ah (wrap64 ((m:Int)%((k:Int)+1))))=.returned (ah ((m%(k+1):Nat):Int)):=by rw[o];congr 2;unfold wrap64;omega
  go_ret;exact⟨m%(k+1),e,U,i.out,f.out⟩
def Bc[S:Std A](T g:Nat)(L:S9)(o:g<1000000)(bY c:Int)(p:0<=bY/\bY<=1000000/\0<=c/\c<=1000000)(w:S7)(h:fS w T L g):
 Calls (ao A) 53 #[Tj T,ah bY,ah c] w λe w'=>∃m:Nat,e=.returned (ah m)/\bY<=m/\(m:Int)<=max bY c/\fS w' T L (g+1)/\w.grownBy w' (some T):=by
 have j:=al (PG (A:=A) T g L o (c-bY) U w h);clear h;obtain⟨l,rfl⟩:∃l:Nat,bY=l:=⟨bY.toNat,U⟩
 go_enter (S.f func53),ntmps53;go_wp2_with (go_at_call 9;refine j.out.mono ?_;rintro e w' ⟨m,rfl,hm,f,d⟩;have n:=al f;have i:=al d;clear f d)
 go_ret;exact⟨l+m,by push_cast;rfl,U,U,n.out,i.out⟩
def E1[S:Std A](T g:Nat)(L:S9)(l:g<1000000)(n:Int)(o:1<=n/\n<=1000000)(w:S7)(h:fS w T L g):
 Calls (ao A) 26 #[Tj T,ah n] w λe w'=>∃b:Ta,e=.returned (.bool b)/\fS w' T L (g+1)/\w.grownBy w' (some T):=by
 have i:=al (PG (A:=A) T g L l (n-1) U w h);clear h;go_enter (S.f func26),ntmps26;go_wp2_with (go_at_call 9;refine i.out.mono ?_;rintro e w' ⟨m,rfl,hm,d,c⟩;have j:=al d;have f:=al c;clear d c)
 go_ret;exact⟨_,S6,j.out,f.out⟩
def CQ[S:Std A](T g:Nat)(L:S9)(B:g<1000000)(b o n c:Nat)(f:Ty)(D:0<n/\n<=1000)(w:S7)(h:fS w T L g)(z:b≠T)(i:gn w b o n f):
 Calls (ao A) 10 #[Tj T,TW b o n c] w λe w'=>∃j:Nat,j<n/\e=.returned (ah (f j))/\fS w' T L (g+1)/\w.grownBy w' (some T):=by
 have u:=al (PG (A:=A) T g L B ((n:Int)-1) U w h);have r:=al i;clear h i;go_enter (S.f func10),ntmps10;go_wp2_with (go_at_call 9;refine u.out.mono ?_;rintro e w' ⟨m,rfl,hm,q,l⟩;have y:=al q;have d:=al l;have p:m<n:=U;have C:=(d.out).cell (r.out m p) (λe=>z (bD e));clear q l)
 go_ret;exact⟨m,p,S6,y.out,d.out⟩
end
end Go.aO
