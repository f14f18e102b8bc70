/- Part 30 of a law on fees: no conditions. -/
import Derived.Test.YthiiblonjmmnfaaGreatDoorP28
set_option maxHeartbeats 8000000
set_option maxRecDepth 100000
set_option linter.all false
namespace Go.aN
open Go.Proofs Go.RowKit Go.Maps Go.Shelf
section
variable{A:Array Func}
def J0{w:World}{base:Nat}{e:TypeId}{size:Nat}{v:Value}{n:Nat}{xs:List Value}(h:w.ownsRow base e size v n xs):∃a c,v=.slice a n c:=by
 obtain⟨_,⟨rfl,rfl⟩|⟨g,cap,cur,rfl,_⟩⟩:=h
 .exact⟨_,_,rfl⟩
 .exact⟨_,_,rfl⟩
def m2(d:cR)(s:gP)(q:Bool):Int:=(eC q (d.first s.k) (cC d s.k) (gy s.lm s.fm s.bN (s.bV-s.lm+1))).most
def tx(d:cR)(s:gP):Value:=
 if m2 d s true<m2 d s false then(if m2 d s true>=(oC d s).length then .tuple #[.int .i64 0,.int .i64 0,.int .i64 11]else .tuple #[.int .i64 1,.int .i64 (m2 d s true),.int .i64 0])
 else(if m2 d s false>=(oC d s).length then .tuple #[.int .i64 0,.int .i64 0,.int .i64 11]else .tuple #[.int .i64 0,.int .i64 (m2 d s false),.int .i64 0])
def FY[S:Std A][eg:gQ A][P:gg A]{d:cR}(ok:d.ok){p:dU}{T B:Nat}(f:p.below d B)(g:T<B)(h:p.off d T)(s:gP)(c:s.ok d)(q:Bool)(w:World)(j:fh d p T B w):
 Calls (ag A) 45 #[.pointer (some ⟨T,0,none⟩),qX q,.agg s.a] w λe w'=>e=.returned (.int .i64 (m2 d s q))/\fh d p T B w'/\w.grownBy w' (some T):=by
 have i:=ok.kinds;have l:=c.f;have hF:=c.hF;have k:=callsIn_wide.1 (FZ (A:=A) (nx ok f g) (k:=s.k) c.k (by omega) (ba:=cC d s.k) (λday=>by have:=oD ok c.k day;omega) (pD ok f h c.k) q s.lm s.bV s.fm s.bN c.l c.bw c.hF (by omega) w j);rw[n0 c.k]at k;exact k
def Nl[S:Std A][eg:gQ A][P:gg A]{d:cR}(ok:d.ok){p:dU}{T B:Nat}(h:p.below d B)(i:T<B)(l:p.off d T)(s:gP)(f:s.ok d)(w:World)(j:fh d p T B w):
 Calls (ag A) 23 #[.pointer (some ⟨T,0,none⟩),.agg s.a] w λe w'=>∃a c,e=.returned (.slice a (oC d s).length c)/\fh d p T B w'/\w.grownBy w' (some T):=by
 have q:=ok.kinds;have r:=f.f;have hF:=f.hF;have k:=yI (A:=A) (nx ok h i) (k:=s.k) f.k (by omega) (ba:=cC d s.k) (λday=>by have:=oD ok f.k day;omega) (pD ok h l f.k) s.lm s.bV s.fm s.bN f.l f.bw f.hF (by omega) w j;rw[n0 f.k]at k;refine k.mono ?_;rintro e w' ⟨v,o,rfl,a,b,c,j,g⟩;obtain⟨x,y,rfl⟩:=J0 b;have:o.length=(oC d s).length:=a.length_eq;rw[this];exact⟨x,y,rfl,j,g⟩
def D'[S:Std A][eg:gQ A][P:gg A](d:cR)(ok:d.ok)(p:dU)(w:World)(h:fy w d p)(s:gP)(J:s.ok d):
 Calls (ag A) 29 #[.agg (cO d p),.agg s.a] w λe w'=>e=.returned (tx d s)/\w.grownBy w' none:=by
 have D:=(Pv w (.cells (cO d p) 27) none).trans (Pv _ (.cells s.a 32) none);have Z:=h.keep D;have ao:=Pj λ(w2:World) (u:((w.alloc (.cells (cO d p) 27)).alloc (.cells s.a 32)).grownBy w2 none) (b c:Nat) (f:w2.heap[b]?=some (.cells s.a 32))=>xT (A:=A) d ok p w2 (Z.keep u) b 0 1 c (by omega) (λ_=>s) (yF s f) (λi aJ=>J)
 have ai:=Pj D;have aq:=Pj λ(T:Nat) (w3:World) (aZ:w.heap.size<=T) (f:w3.heap[T]?=some (.cells (l4 d p) 105)) (u:w.grownBy w3 none)=>qP ok h aZ f u
 have U:((w.alloc (.cells (cO d p) 27)).alloc (.cells s.a 32)).heap[w.heap.size+1]?=some (.cells s.a 32):=by rw[show w.heap.size+1=(w.alloc (.cells (cO d p) 27)).heap.size by simp];exact gA _ _
 have ah:=Pj U;have Q:=Pj λ(T B:Nat) (f:p.below d B) (aZ:T<B) (I:p.off d T) (q:Bool) (w:World) (j:fh d p T B w)=>FY (A:=A) ok f aZ I s J q w j
 have ap:=Pj λ(T B:Nat) (f:p.below d B) (aZ:T<B) (I:p.off d T) (w:World) (j:fh d p T B w)=>Nl (A:=A) ok f aZ I s J w j
 have am:=Pj λq w=>Jp (A:=A) q w
 clear h Z D U;go_enter (S.f Tryz.func29),Tryz.ntmps29;go_wp2_with (first|(go_at_call 22;refine(ao.out _ Pn (w.heap.size+1+1) 1 (xh _ _ _ _)).mono ?_;rintro e w3 ⟨T,rfl,aZ,f,u⟩;have G:=(Pv _ _ none).trans u;have g:=(G.block (w.heap.size+1) (by simp) (by simp)).trans ah.out;have H:=ai.out.trans G;have F:w.heap.size<=T:=by{simp at aZ;omega};have X:=Pj (aq.out T w3 F f H);have C:=Pj g;have ak:=Pj f;have al:=Pj H;have R:=Pj F;clear f u G aZ F H g))
 have g:=C.out;have aE:=aT (o:=0) g;have aF:=aT (o:=1) g;have aG:=aT (o:=2) g;have aH:=aT (o:=3) g;have aI:=aT (o:=4) g;have ay:=bp g;have af:w.heap.size+1≠T:=by rintro rfl;have aw:=C.out;have aa:=ak.out;rw[aw]at aa;simp at aa
 have ar:=Pj (X.out.1.more ok X.out.2.2.1 X.out.2.2.2 (fQ (Pw w3 none)));clear g;go_region_with (first|(go_at_call 45;refine(Q.out T _ X.out.2.2.1 X.out.2.2.2 X.out.2.1 false _ (by first|exact X.out.1|exact ar.out)).mono ?_;rintro e aO ⟨rfl,ad,E⟩;have l:=(E.block (w.heap.size+1) ay (by simpa using af)).trans C.out;have az:=aT (o:=0) l;have aA:=aT (o:=1) l;have aB:=aT (o:=2) l;have aC:=aT (o:=3) l;have aD:=aT (o:=4) l;have au:=Pj ad;have z:=Pj E;have K:=Pj l;clear ad E l)|(go_at_call 23;refine(ap.out T _ X.out.2.2.1 X.out.2.2.2 X.out.2.1 _ au.out).mono ?_;rintro e aP ⟨aM,aN,rfl,ae,V⟩;have av:=Pj ae;have L:=Pj V;clear ae V))
 all_goals (
  have r:=(L.out.block (w.heap.size+1) (bp K.out) (by simpa using af)).trans K.out;have v0:=aT (o:=0) r;have v1:=aT (o:=1) r;have v2:=aT (o:=2) r;have v3:=aT (o:=3) r;have v4:=aT (o:=4) r;have aK:∀w,Sem.run (ag A) (Instr.typeAssert (.iface 128 (.agg #[])) 130 128 true) w=.ok (.tuple #[.agg #[],.bool true]) w:=λw=>zo 128 w (by simp)
  have aL:∀w,Sem.run (ag A) (Instr.typeAssert (.iface 132 (.agg #[])) 130 128 true) w=.ok (.tuple #[.agg #[],.bool false]) w:=λw=>zn 132 128 w (by simp)
  clear az aA aB aC aD aE aF aG aH aI r;have Y:=jq al.out (qy ⟨z.out.os,z.out.tape,z.out.output,z.out.size,z.out.block⟩ L.out) R.out;have aj:=Pj Y;clear Y;go_wp2_with (first|(go_at_call 45;refine(Q.out T _ X.out.2.2.1 X.out.2.2.2 X.out.2.1 true _ av.out).mono ?_;rintro e aQ ⟨rfl,ax,W⟩;have M:=Pj (jq aj.out W R.out);clear ax W)|(go_at_call 46;refine(am.out true _).mono ?_;rintro e aR ⟨rfl,rfl⟩)))
 all_goals (
  go_ret3
  refine⟨?_,?_⟩
  .unfold tx
   first
   |(rw[if_pos (by assumption),if_pos (by assumption)];rfl)
   |(rw[if_pos (by assumption),if_neg (by omega)];rfl)
   |(rw[if_neg (by omega),if_pos (by assumption)];rfl)
   |(rw[if_neg (by omega),if_neg (by omega)];rfl)
  .first
   |exact M.out
   |exact M.out.trans Pn)
end
section
variable{A:Array Func}
def LI:((ag A).info? 27).map (·.size)=some 4:=by kernel_rfl
def e2:cR where
 kinds:=2
 first:=λk=>match k with|0=>2|_=>1
 eY:=2
 dz:=λi=>match i with|0=>0|_=>2
 fD:=λi k=>match i,k with|0,0=>1|0,_=>2|_,0=>3|_,_=>1
 fC:=1
 free:=λ_=>3
def o6:e2.ok where
 kinds:=by decide
 first k d:=by rcases k with _|k<;>simp[e2]
 eY:=by decide
 zero:=rfl
 dz i c:=by rcases i with _|i<;>simp[e2]
 rP i c:=by
  have:i+1<2:=c;obtain rfl:i=0:=by omega
  decide
 fD i c k d:=by rcases i with _|i<;>rcases k with _|k<;>simp[e2]
 fC:=by decide
 free i c:=by simp[e2]
 Av i c:=by have:i+1<1:=c;omega
def ij:gP:=⟨0,20,26,46,50⟩
def u4:ij.ok e2:=⟨by decide,by decide,by decide,by decide,by decide,by decide⟩
def jc{i:Nat}(h:i<2):i=0\/i=1:=by omega
end
end Go.aN
namespace Go.aN
open Go.Proofs Go.RowKit
section
variable{A:Array Func}
def numOf:Value->Nat
 |.int _ i=>i.toNat
 |_=>0
def Bh[S:Std A](b o g p n c bo:Nat)(B:n<=100000)(f:Nat->Int)(w:World)(h:iD w b o n f)(j:iD w g p n f):
 Calls (ag A) 33 #[.slice (some ⟨b,o,none⟩) n c,.slice (some ⟨g,p,none⟩) n bo] w λe w'=>e=.returned (.bool true)/\w.grownBy w' none:=by
 have q:=Pj h;have r:=Pj j;have mixed:(ag A).follows .mixedOrders=true:=by kernel_rfl
 clear h j;go_enter (S.f Tryz.func33),Tryz.ntmps33;go_wp2;go_loopw [5] (λi wr=>∃k:Nat,k<=n/\i=.int .i64 k/\w.grownBy wr none) (λi _=>n-numOf i)
 case atStart=>exact⟨0,by omega,by go_num,Pw _ _⟩
 case round=>
  obtain⟨k,z,rfl,d⟩:=hrel;by_cases l:k<n
  .have E:=(q.out.keep d (by simp)) k l
   have F:=(r.out.keep d (by simp)) k l;have C:(k:Int)<(n:Int):=by omega
   have D:(0:Int)<=k:=by omega
   have u:=Pj d;clear d;go_wp2;go_quiet (fail);go_wp2;go_roundw
   case rel=>exact⟨k+1,by omega,by go_num,u.out.trans (hM _ _)⟩
   case measure=>simp[numOf];omega
  .go_wp2
   go_ret;exact⟨rfl,d⟩
structure qc(w:World)(b o n:Nat)(f g:Nat->Int):Prop where
 bu:∀i,i<n->w.cell? ⟨b,o+i*2,none⟩=some (.int .i64 (f i))
 c1:∀i,i<n->w.cell? ⟨b,o+i*2+1,none⟩=some (.int .i64 (g i))
def qc.keep{w w':World}{b o n:Nat}{f g:Nat->Int}(h:qc w b o n f g)(k:w.grownBy w' none):qc w' b o n f g:=
 ⟨λi c=>k.cell (h.bu i c) (by simp),λi c=>k.cell (h.c1 i c) (by simp)⟩
def It[S:Std A](b o p u n c bo:Nat)(C:n<=100000)(f g:Nat->Int)(w:World)(q:qc w b o n f g)(r:qc w p u n f g):
 Calls (ag A) 34 #[.slice (some ⟨b,o,none⟩) n c,.slice (some ⟨p,u,none⟩) n bo] w λe w'=>e=.returned (.bool true)/\w.grownBy w' none:=by
 have j:=Pj q;have l:=Pj r;have mixed:(ag A).follows .mixedOrders=true:=by kernel_rfl
 clear q r;go_enter (S.f Tryz.func34),Tryz.ntmps34;go_wp2;go_loopw [5] (λi wr=>∃k:Nat,k<=n/\i=.int .i64 k/\w.grownBy wr none) (λi _=>n-numOf i)
 case atStart=>exact⟨0,by omega,by go_num,Pw _ _⟩
 case round=>
  obtain⟨k,B,rfl,d⟩:=hrel;by_cases h:k<n
  .have F:=(j.out.keep d).bu k h
   have G:=(j.out.keep d).c1 k h;have H:=(l.out.keep d).bu k h;have I:=(l.out.keep d).c1 k h;have D:(k:Int)<(n:Int):=by omega
   have E:(0:Int)<=k:=by omega
   have z:=Pj d;clear d;go_wp2;go_quiet (fail);go_wp2;go_roundw
   case rel=>exact⟨k+1,by omega,by go_num,z.out.trans (hM _ _)⟩
   case measure=>simp[numOf];omega
  .go_wp2
   go_ret;exact⟨rfl,d⟩
end
section
variable{A:Array Func}
structure gM where
 n:Nat
 len:Nat->Nat
 num:Nat->Nat->Int
structure il where
 mb:Nat
 qL:Nat
 o2:Nat
 nm:Nat->Nat
 uR:Nat->Nat
 BT:Nat->Nat
structure gM.ok(d:gM):Prop where
 n:d.n<=4
 len:∀i,i<d.n->d.len i<=200
 num:∀i,i<d.n->∀j,j<d.len i->0<=d.num i j/\d.num i j<=1000000
def jy(g:Int->Nat)(f:Nat->Int)(p:Int):Nat->Nat
 | 0=>0
 |j+1=>jy g f p j+(if f j<=p then g (p-f j)else 0)
def f'(d:gM):Nat->Int->Nat
 | 0,p=>if p=0 then 1 else 0
 |r+1,p=>jy (f' d r) (d.num (d.n-(r+1))) p (d.len (d.n-(r+1)))
def y0{g:Int->Nat}{f:Nat->Int}{p:Int}{k:Nat}(c:∀x,g x<=k):∀j,jy g f p j<=j*k
 | 0=>by simp[jy]
 |j+1=>by have:=y0 (f:=f) (p:=p) c j;rw[jy,Nat.succ_mul];have:=c (p-f j);split<;>omega
def yZ{d:gM}(ok:d.ok):∀r,r<=d.n->∀p,f' d r p<=200 ^ r
 | 0,_,p=>by rw[f'];split<;>simp
 |r+1,h,p=>by have c:=y0 (f:=d.num (d.n-(r+1))) (p:=p) (yZ ok r (by omega)) (d.len (d.n-(r+1)));have g:=ok.len (d.n-(r+1)) (by omega);rw[f',Nat.pow_succ,Nat.mul_comm];exact Po c (Nat.mul_le_mul g Pk)
def OH{d:gM}(ok:d.ok){r:Nat}(c:r<=d.n)(p:Int):f' d r p<=1600000000:=by have f:=yZ ok r c p;have g:=ok.n;have h:200 ^ r<=200 ^ 4:=Nat.pow_le_pow_right (by omega) (by omega);omega
def rB(d:gM)(M:Int->Int->Option Value):Prop:=∀(a:Nat) (p:Int) v,M a p=some v->a<=d.n->v=.int .i64 (f' d (d.n-a) p)
structure j2(w:World)(L m:Nat)(d:gM)(P:il):Prop where
 mn:w.cell? ⟨L,0,none⟩=some (.slice (some ⟨P.mb,P.qL,none⟩) d.n P.o2)
 xm:w.cell? ⟨L,2,none⟩=some (.map (some m))
 rows:∀i,i<d.n->w.cell? ⟨P.mb,P.qL+i,none⟩=some (.slice (some ⟨P.nm i,P.uR i,none⟩) (d.len i) (P.BT i))
 el:∀i,i<d.n->iD w (P.nm i) (P.uR i) (d.len i) (d.num i)
 mp:∃M,j1 w m M/\rB d M
def g3.off{w:World}{m:Nat}{M:Int->Int->Option Value}(h:g3 w m M){a:Addr}{v:Value}(k:w.cell? a=some v):a.block≠m:=by rintro rfl;obtain⟨es,c,d,_⟩:=h;simp[World.cell?,d]at k
def j2.keep{w w':World}{L m:Nat}{d:gM}{P:il}(h:j2 w L m d P)(g:w.grownBy w' (some m))(k:∃M,j1 w' m M/\rB d M):j2 w' L m d P:=by
 obtain⟨M,l,_⟩:=h.mp;have c:∀a v,w.cell? a=some v->w'.cell? a=some v:=λa v e=>g.cell e (λx=>l.1.off e (Pm x))
 exact⟨c _ _ h.mn,c _ _ h.xm,λi f=>c _ _ (h.rows i f),λi f j o=>c _ _ (h.el i f j o),k⟩
def j2.eQ{w w':World}{L m:Nat}{d:gM}{P:il}(h:j2 w L m d P)(g:w.grownBy w' none):j2 w' L m d P:=by obtain⟨M,c,j⟩:=h.mp;exact h.keep ⟨g.os,g.tape,g.output,g.size,λi f _=>g.block i f (by simp)⟩ ⟨M,c.keep g (by simp),j⟩
def y8(w:World):Sem.run (ag A) (zeroValue 3) w=.ok (.int .i64 0) w:=by kernel_rfl
def DW[S:Std A][eg:gQ A](L m:Nat)(d:gM)(ok:d.ok)(P:il):∀(r a:Nat),a+r=d.n->∀(p:Nat),p<=999->∀(w:World),j2 w L m d P->
 Calls (ag A) 48 #[.pointer (some ⟨L,0,none⟩),.agg #[.int .i64 a,.int .i64 p]] w λe w'=>e=.returned (.int .i64 (f' d r p))/\j2 w' L m d P/\w.grownBy w' (some m):=by
 intro r;have aC:=ok.n;have mixed:(ag A).follows .mixedOrders=true:=by kernel_rfl
 induction r with
 |zero=>
  intro a ao p ar w h;have g:=Pv w (.cells #[.int .i64 a,.int .i64 p] 139) none;have c:=h.eQ g;have aw:=c.mn;have hd:((a:Int) == (d.n:Int))=true:=by rw[beq_iff_eq];omega
  have z:=Pj c;have q:=Pj g;clear h g c;go_enter eg.f69,Tryz.ntmps48;go_wp2;go_quiet (fail);go_wp2
  .rename_i G
   go_ret;refine⟨?_,z.out.eQ (hM _ _),lO (some m) (q.out.trans (hM _ _))⟩;rw[f',if_pos (by simpa using G)];rfl
  .rename_i G
   go_ret;refine⟨?_,z.out.eQ (hM _ _),lO (some m) (q.out.trans (hM _ _))⟩;rw[f',if_neg (by simpa using G)];rfl
 |succ r ad=>
  intro a ao p ar w h;have g:=Pv w (.cells #[.int .i64 a,.int .i64 p] 139) none;have c:=h.eQ g;have aw:=c.mn;have aH:=c.xm;have hd:((a:Int) == (d.n:Int))=false:=by rw[beq_eq_false_iff_ne];omega
  obtain⟨M,o,F⟩:=c.mp;have W:=qB (ag.underlying187 A) (.inr (.inl rfl)) y8 o.1 (a:Int) (p:Int) true;have z:=Pj c;have q:=Pj g;have aB:(cu a p)=.agg #[.int .i64 (a:Int),.int .i64 (p:Int)]:=rfl;cases H:M a p with
  |some v=>
   have bx:=F a p v H (by omega);rw[show d.n-a=r+1 by omega]at bx;replace W:∀n,Sem.run (ag A) (Instr.lookup 167 (.map (some m)) (.agg #[.int .i64 (a:Int),.int .i64 (p:Int)]) true) ((w.alloc (.cells #[.int .i64 a,.int .i64 p] 139)).drewN n)=.ok (.tuple #[.int .i64 (f' d (r+1) p),.bool true]) ((w.alloc (.cells #[.int .i64 a,.int .i64 p] 139)).drewN n):=by intro n;have:=qB (ag.underlying187 A) (.inr (.inl rfl)) y8 (o.1.keep (hM _ n) (by simp)) (a:Int) (p:Int) true;rw[H,bx]at this;exact this
   clear h g c o F;go_enter eg.f69,Tryz.ntmps48;go_wp2;go_quiet (fail);go_wp2;go_quiet (fail);go_wp2;go_ret;exact⟨rfl,z.out.eQ ⟨rfl,rfl,rfl,Pk,λ_ _ _=>rfl⟩,lO (some m) (q.out.trans ⟨rfl,rfl,rfl,Pk,λ_ _ _=>rfl⟩)⟩
  |none=>
   replace W:∀n,Sem.run (ag A) (Instr.lookup 167 (.map (some m)) (.agg #[.int .i64 (a:Int),.int .i64 (p:Int)]) true) ((w.alloc (.cells #[.int .i64 a,.int .i64 p] 139)).drewN n)=.ok (.tuple #[.int .i64 0,.bool false]) ((w.alloc (.cells #[.int .i64 a,.int .i64 p] 139)).drewN n):=by intro n;have:=qB (ag.underlying187 A) (.inr (.inl rfl)) y8 (o.1.keep (hM _ n) (by simp)) (a:Int) (p:Int) true;rw[H]at this;exact this
   have aI:=c.rows a (by omega);have aE:(a:Int)<(d.n:Int):=by omega
   have aF:(0:Int)<=a:=by omega
   have aj:=Pj ad;have Y:w.heap.size≠m:=o.1.off (a:=⟨w.heap.size,0,none⟩) (v:=.int .i64 a) (Pr rfl);clear h g c o F ad;go_enter eg.f69,Tryz.ntmps48;go_wp2;go_quiet (fail);go_wp2;go_quiet (fail);go_wp2;go_quiet (fail);go_wp2;go_loopw [5,40] (λacc i wr=>∃j:Nat,j<=d.len a/\i=.int .i64 j/\acc=.int .i64 (jy (f' d r) (d.num a) p j)/\j2 wr L m d P/\(w.alloc (.cells #[.int .i64 a,.int .i64 p] 139)).grownBy wr (some m)) (λ_ i _=>d.len a-numOf i)
   case atStart=>exact⟨0,by omega,by go_num,rfl,z.out.eQ ⟨rfl,rfl,rfl,Pk,λ_ _ _=>rfl⟩,lO (some m) ⟨rfl,rfl,rfl,Pk,λ_ _ _=>rfl⟩⟩
   case round=>
    obtain⟨j,aq,rfl,rfl,f,l⟩:=hrel;have ax:wr.cell? ⟨w.heap.size,0,none⟩=some (.int .i64 a):=l.cell (a:=⟨w.heap.size,0,none⟩) (Pr rfl) (λe=>Y (Pm e));have ay:wr.cell? ⟨w.heap.size,1,none⟩=some (.int .i64 p):=l.cell (a:=⟨w.heap.size,1,none⟩) (Pr rfl) (λe=>Y (Pm e));have V:jy (f' d r) (d.num a) p j<=j*200 ^ r:=y0 (yZ ok r (by omega)) j;have au:200 ^ r<=8000000:=by have:200 ^ r<=200 ^ 3:=Nat.pow_le_pow_right (by omega) (by omega);omega
    have hlen:=ok.len a (by omega);have gS:jy (f' d r) (d.num a) p j<=1600000000:=Po V (by have:=Nat.mul_le_mul (Po aq hlen) au;omega)
    by_cases X:j<d.len a
    .have y:=f.el a (by omega) j X
     have aD:=ok.num a (by omega) j X;by_cases hle:d.num a j<=(p:Int)
     .have ap:decide (d.num a j<=(p:Int))=true:=by simpa using hle
      have I:=aj.out (a+1) (by omega) (p-d.num a j).toNat (by omega) wr f;rw[show(((p:Int)-d.num a j).toNat:Int)=(p:Int)-d.num a j by omega]at I;have aA:=OH ok (r:=r) (by omega) ((p:Int)-d.num a j);have ak:=Pj I;have J:=Pj f;have D:=Pj l;have es:jy (f' d r) (d.num a) p (j+1)=jy (f' d r) (d.num a) p j+f' d r ((p:Int)-d.num a j):=by rw[jy,if_pos hle]
      have ah:=Pj es;clear I f l es V;generalize jy (f' d r) (d.num a) p j=acc at *;go_wp2_with (go_at_call 48;refine ak.out.mono ?_;rintro e aG ⟨rfl,av,am⟩)
      go_roundw
      case rel=>exact⟨j+1,by omega,by go_num,by rw[ah.out];go_num,av,qy D.out am⟩
      case measure=>simp[numOf];omega
     .have ap:decide (d.num a j<=(p:Int))=false:=by simpa using hle
      go_wp2;go_roundw
      case rel=>exact⟨j+1,by omega,by go_num,by rw[jy,if_neg hle];rfl,f,l⟩
      case measure=>simp[numOf];omega
    .obtain rfl:j=d.len a:=by omega
     obtain⟨bR,T,Z⟩:=f.mp;have U:j1 wr.drew m bR:=T.keep (row:=none) (fQ (Pw _ _)) (by simp);obtain⟨af,aa,ae,Q,z9⟩:=H' (ag.underlying187 A) (.inr (.inl rfl)) U (a:Int) (p:Int) (jy (f' d r) (d.num a) p (d.len a));replace aa:Sem.run (ag A) (Instr.mapUpdate 167 (.map (some m)) (.agg #[.int .i64 (a:Int),.int .i64 (p:Int)]) (.int .i64 (jy (f' d r) (d.num a) p (d.len a)))) wr.drew=.ok () af:=aa;have az:=f.xm;have K:f' d (r+1) p=jy (f' d r) (d.num a) p (d.len a):=by rw[f',show d.n-(r+1)=a by omega]
     have J:=Pj f;have D:=Pj l;have u:=Pj Q;have al:=Pj ae;have ai:=Pj Z;clear f l Q ae Z T U;go_wp2;go_region
     go_wp2;go_ret;have R:wr.grownBy af (some m):=⟨u.out.os,u.out.tape,u.out.output,u.out.size,u.out.block⟩
     refine⟨by rw[K];rfl,J.out.keep R ⟨_,al.out,λC hD v B hle=>?_⟩,qy (qy (lO (some m) q.out) D.out) R⟩;unfold kH at B;by_cases E:(C:Int)=a/\hD=p
     .rw[if_pos E]at B
      obtain⟨c,rfl⟩:=E;obtain rfl:C=a:=by omega
      rw[show d.n-C=r+1 by omega,K];exact(Pm B).symm
     .rw[if_neg E]at B
      exact ai.out C hD v B hle
end
end Go.aN
namespace Go.aN
open Go.Proofs
instance bc.sp:gg bc.list.toArray:=⟨by kernel_rfl,by kernel_rfl,by kernel_rfl,by kernel_rfl,by kernel_rfl,by kernel_rfl⟩
end Go.aN
