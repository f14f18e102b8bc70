/- A part. -/
import Derived.Test.YtoebddanaobpaaaGreatDoorP24
set_option maxHeartbeats 8000000
set_option maxRecDepth 100000
set_option linter.all false
namespace Go.aO
open Go.Proofs Tryz Go.RowKit Go.Maps Go.Shelf
variable{B T:Nat}{d:cC}{p:eg}
section
variable{A:TJ}
def M9{w:S7}{Tc:Nat}{e:Tg}{size:Nat}{v:S9}{n:Nat}{xs:TP}(h:w.ownsRow Tc e size v n xs):∃a c,v=.slice a n c:=by
 obtain⟨_,⟨rfl,rfl⟩|⟨g,cap,cur,rfl,_⟩⟩:=h
 .exact⟨_,_,S6⟩
 .exact⟨_,_,S6⟩
def oK(d:cC)(s:h3)(q:Ta):Int:=(ff q (d.first s.k) (cX d s.k) (hN s.lm s.fm s.b5 (s.cj-s.lm+1))).most
def vF(d:cC)(s:h3):S9:=
 if oK d s true<oK d s false then(if oK d s true>=(qk d s).length then .tuple #[ah 0,ah 0,ah 11]else .tuple #[ah 1,ah (oK d s true),ah 0])
 else(if oK d s false>=(qk d s).length then .tuple #[ah 0,ah 0,ah 11]else .tuple #[ah 0,ah (oK d s false),ah 0])
def Ji[S:Std A][eY:jx A][P:hA A](ok:d.ok)(f:p.below d B)(g:T<B)(h:p.off d T)(s:h3)(c:s.ok d)(q:Ta)(w:S7)(j:gp d p T B w):
 Calls (ao A) 42 #[Tj T,sU q,.agg s.a] w λe w'=>e=.returned (ah (oK d s q))/\gp d p T B w'/\w.grownBy w' (some T):=by
 have i:=ok.kinds;have l:=c.f;have hF:=c.hF;have k:=callsIn_wide.1 (Jj (A:=A) (pg ok f g) (k:=s.k) c.k U (bj:=cX d s.k) (λday=>by have:=ql ok c.k day;omega) (rk ok f h c.k) q s.lm s.cj s.fm s.b5 c.l c.bE c.hF U w j);rw[pT c.k]at k;exact k
def QL[S:Std A][eY:jx A][P:hA A](ok:d.ok)(h:p.below d B)(i:T<B)(l:p.off d T)(s:h3)(f:s.ok d)(w:S7)(j:gp d p T B w):
 Calls (ao A) 38 #[Tj T,.agg s.a] w λe w'=>∃a c,e=.returned (.slice a (qk d s).length c)/\gp d p T B w'/\w.grownBy w' (some T):=by
 have n:=ok.kinds;have o:=f.f;have hF:=f.hF;have k:=A6 (A:=A) (pg ok h i) (k:=s.k) f.k U (bj:=cX d s.k) (λday=>by have:=ql ok f.k day;omega) (rk ok h l f.k) s.lm s.cj s.fm s.b5 f.l f.bE f.hF U w j;rw[pT f.k]at k;refine k.mono ?_;rintro e w' ⟨v,m,rfl,a,b,c,j,g⟩;obtain⟨x,y,rfl⟩:=M9 b;have:m.length=(qk d s).length:=a.length_eq;rw[this];exact⟨x,y,S6,j,g⟩
def Hg[S:Std A][eY:jx A][P:hA A](d:cC)(ok:d.ok)(p:eg)(w:S7)(h:e' w d p)(s:h3)(G:s.ok d):
 Calls (ao A) 20 #[.agg (dv d p),.agg s.a] w λe w'=>e=.returned (vF d s)/\w.grownBy w' none:=by
 have y:=(dU w (.cells (dv d p) 25) none).trans (dU _ (.cells s.a 52) none);have W:=h.keep y;have ak:=al λ(w2:S7) (n:((w.alloc (.cells (dv d p) 25)).alloc (.cells s.a 52)).grownBy w2 none) (b c:Nat) (f:w2.heap[b]?=some (.cells s.a 52))=>Ac (A:=A) d ok p w2 (W.keep n) b 0 1 c U (λ_=>s) (A3 s f) (λi aI=>G)
 have af:=al y;have ap:=al λ(T:Nat) (w3:S7) (a':w.heap.size<=T) (f:w3.heap[T]?=some (.cells (nD d p) 132)) (n:w.grownBy w3 none)=>sO ok h a' f n
 have M:((w.alloc (.cells (dv d p) 25)).alloc (.cells s.a 52)).heap[w.heap.size+1]?=some (.cells s.a 52):=by rw[show w.heap.size+1=(w.alloc (.cells (dv d p) 25)).heap.size by simp];exact fM _ _
 have ae:=al M;have K:=al λ(T B:Nat) (f:p.below d B) (a':T<B) (F:p.off d T) (q:Ta) (w:S7) (j:gp d p T B w)=>Ji (A:=A) ok f a' F s G q w j
 have am:=al λ(T B:Nat) (f:p.below d B) (a':T<B) (F:p.off d T) (w:S7) (j:gp d p T B w)=>QL (A:=A) ok f a' F s G w j
 have aj:=al λq w=>Mz (A:=A) q w
 clear h W y M;go_enter (S.f func20),ntmps20;go_wp2_with (first|(go_at_call 37;refine(ak.out _ bT (w.heap.size+1+1) 1 (zx _ _ _ _)).mono ?_;rintro e w3 ⟨T,rfl,a',f,n⟩;have D:=(dU _ _ none).trans n;have g:=(D.block (w.heap.size+1) aF aF).trans ae.out;have E:=af.out.trans D;have C:w.heap.size<=T:=by{simp at a';omega};have X:=al (ap.out T w3 C f E);have u:=al g;have ah:=al f;have ai:=al E;have L:=al C;clear f n D a' C E g))
 have g:=u.out;have aC:=aU (o:=0) g;have aD:=aU (o:=1) g;have aE:=aU (o:=2) g;have aG:=aU (o:=3) g;have aH:=aU (o:=4) g;have ax:=bu g;have ad:w.heap.size+1≠T:=by rintro rfl;have av:=u.out;have Y:=ah.out;rw[av]at Y;simp at Y
 have aq:=al (X.out.1.more ok X.out.2.2.1 X.out.2.2.2 (gv (e6 w3 none)));clear g;go_region_with (first|(go_at_call 42;refine(K.out T _ X.out.2.2.1 X.out.2.2.2 X.out.2.1 false _ (by first|exact X.out.1|exact aq.out)).mono ?_;rintro e aN ⟨rfl,Z,z⟩;have l:=(z.block (w.heap.size+1) ax (by simpa using ad)).trans u.out;have ay:=aU (o:=0) l;have az:=aU (o:=1) l;have aA:=aU (o:=2) l;have nE:=aU (o:=3) l;have aB:=aU (o:=4) l;have ar:=al Z;have r:=al z;have H:=al l;clear Z z l)|(go_at_call 38;refine(am.out T _ X.out.2.2.1 X.out.2.2.2 X.out.2.1 _ ar.out).mono ?_;rintro e aO ⟨aL,aM,rfl,aa,Q⟩;have au:=al aa;have I:=al Q;clear aa Q))
 all_goals (
  have m:=(I.out.block (w.heap.size+1) (bu H.out) (by simpa using ad)).trans H.out;have v0:=aU (o:=0) m;have v1:=aU (o:=1) m;have v2:=aU (o:=2) m;have v3:=aU (o:=3) m;have v4:=aU (o:=4) m;have aJ:∀w,Sem.run (ao A) (Instr.typeAssert (.iface 105 (.agg #[])) 107 105 true) w=.ok (.tuple #[.agg #[],.bool true]) w:=λw=>BQ 105 w aF
  have aK:∀w,Sem.run (ao A) (Instr.typeAssert (.iface 109 (.agg #[])) 107 105 true) w=.ok (.tuple #[.agg #[],.bool false]) w:=λw=>BP 109 105 w aF
  clear ay az aA nE aB aC aD aE aG aH m;have V:=kH ai.out (ss ⟨r.out.os,r.out.tape,r.out.output,r.out.size,r.out.block⟩ I.out) L.out;have ag:=al V;clear V;go_wp2_with (first|(go_at_call 42;refine(K.out T _ X.out.2.2.1 X.out.2.2.2 X.out.2.1 true _ au.out).mono ?_;rintro e aP ⟨rfl,aw,R⟩;have J:=al (kH ag.out R L.out);clear aw R)|(go_at_call 43;refine(aj.out true _).mono ?_;rintro e aQ ⟨rfl,rfl⟩)))
 all_goals (
  go_ret3
  refine⟨?_,?_⟩
  .unfold vF
   first
   |(rw[Tq (by assumption),Tq (by assumption)];rfl)
   |(rw[Tq (by assumption),Tm U];rfl)
   |(rw[Tm U,Tq (by assumption)];rfl)
   |(rw[Tm U,Tm U];rfl)
  .first
   |exact J.out
   |exact J.out.trans bT)
def FA:((ao A).info? 25).map (·.size)=some 4:=av
def fW:cC where
 kinds:=2
 first:=λk=>match k with|0=>2|_=>1
 bk:=2
 bV:=λi=>match i with|0=>0|_=>2
 cQ:=λi k=>match i,k with|0,0=>1|0,_=>2|_,0=>3|_,_=>1
 b':=1
 free:=λ_=>3
def qS:fW.ok where
 kinds:=a6
 first k d:=by rcases k with _|k<;>simp[fW]
 bk:=a6
 zero:=S6
 bV i c:=by rcases i with _|i<;>simp[fW]
 qK i c:=by have:i+1<2:=c;obtain rfl:i=0:=U;decide
 cQ i c k d:=by rcases i with _|i<;>rcases k with _|k<;>simp[fW]
 b':=a6
 free i c:=by simp[fW]
 C2 i c:=by have:i+1<1:=c;omega
def jI:h3:=⟨0,20,26,46,50⟩
def xE:jI.ok fW:=⟨a6,a6,a6,a6,a6,a6⟩
def kt{i:Nat}(h:i<2):i=0\/i=1:=U
end
end Go.aO
namespace Go.aO
open Go.Proofs Tryz Go.RowKit
variable{w w':S7}
section
variable{A:TJ}
def numOf:S9->Nat
 |.int _ i=>i.toNat
 |_=>0
def DO[S:Std A](b o g m n c bp:Nat)(y:n<=100000)(f:Ty)(w:S7)(h:gn w b o n f)(j:gn w g m n f):
 Calls (ao A) 24 #[TW b o n c,TW g m n bp] w λe w'=>e=.returned (.bool true)/\w.grownBy w' none:=by
 have p:=al h;have q:=al j;clear h j;go_enter (S.f func24),ntmps24;go_wp2;go_loopw [5] (λi wr=>∃k:Nat,k<=n/\i=ah k/\w.grownBy wr none) (λi _=>n-numOf i)
 case atStart=>exact⟨0,U,by go_num,e6 _ _⟩
 case round=>
  obtain⟨k,u,rfl,d⟩:=hrel;by_cases l:k<n
  .have C:=(p.out.keep d aF) k l
   have D:=(q.out.keep d aF) k l;have z:(k:Int)<(n:Int):=U;have B:(0:Int)<=k:=U;have r:=al d;clear d;go_wp2;go_quiet (fail);go_wp2;go_roundw
   case rel=>exact⟨k+1,U,by go_num,r.out.trans (hl _ _)⟩
   case measure=>simp[numOf];omega
  .go_wp2
   go_ret;exact⟨S6,d⟩
structure rY(w:S7)(b o n:Nat)(f g:Ty):Prop where
 bx:∀i,i<n->w.cell? (S8 b (o+i*2))=Tn (f i)
 c1:∀i,i<n->w.cell? (S8 b (o+i*2+1))=Tn (g i)
def rY.keep{b o n:Nat}{f g:Ty}(h:rY w b o n f g)(k:w.grownBy w' none):rY w' b o n f g:=
 ⟨λi c=>k.cell (h.bx i c) aF,λi c=>k.cell (h.c1 i c) aF⟩
def LD[S:Std A](b o m r n c bp:Nat)(z:n<=100000)(f g:Ty)(w:S7)(p:rY w b o n f g)(q:rY w m r n f g):
 Calls (ao A) 13 #[TW b o n c,TW m r n bp] w λe w'=>e=.returned (.bool true)/\w.grownBy w' none:=by
 have j:=al p;have l:=al q;clear p q;go_enter (S.f func13),ntmps13;go_wp2;go_loopw [5] (λi wr=>∃k:Nat,k<=n/\i=ah k/\w.grownBy wr none) (λi _=>n-numOf i)
 case atStart=>exact⟨0,U,by go_num,e6 _ _⟩
 case round=>
  obtain⟨k,y,rfl,d⟩:=hrel;by_cases h:k<n
  .have D:=(j.out.keep d).bx k h
   have E:=(j.out.keep d).c1 k h;have F:=(l.out.keep d).bx k h;have G:=(l.out.keep d).c1 k h;have B:(k:Int)<(n:Int):=U;have C:(0:Int)<=k:=U;have u:=al d;clear d;go_wp2;go_quiet (fail);go_wp2;go_roundw
   case rel=>exact⟨k+1,U,by go_num,u.out.trans (hl _ _)⟩
   case measure=>simp[numOf];omega
  .go_wp2
   go_ret;exact⟨S6,d⟩
structure h1 where
 n:Nat
 len:Nat->Nat
 num:Nat->Nat->Int
structure jL where
 nN:Nat
 sJ:Nat
 qN:Nat
 o7:Nat->Nat
 xl:Nat->Nat
 ED:Nat->Nat
structure h1.ok(d:h1):Prop where
 n:d.n<=4
 len:∀i,i<d.n->d.len i<=200
 num:∀i,i<d.n->∀j,j<d.len i->0<=d.num i j/\d.num i j<=1000000
def kQ(g:Int->Nat)(f:Ty)(p:Int):Nat->Nat
 | 0=>0
 |j+1=>kQ g f p j+(if f j<=p then g (p-f j)else 0)
def hg(d:h1):Nat->Int->Nat
 | 0,p=>if p=0 then 1 else 0
 |r+1,p=>kQ (hg d r) (d.num (d.n-(r+1))) p (d.len (d.n-(r+1)))
def Bq{g:Int->Nat}{f:Ty}{p:Int}{k:Nat}(c:∀x,g x<=k):∀j,kQ g f p j<=j*k
 | 0=>by simp[kQ]
 |j+1=>by have:=Bq (f:=f) (p:=p) c j;rw[kQ,Nat.succ_mul];have:=c (p-f j);split<;>omega
def Bp{d:h1}(ok:d.ok):∀r,r<=d.n->∀p,hg d r p<=200 ^ r
 | 0,_,p=>by rw[hg];split<;>simp
 |r+1,h,p=>by have c:=Bq (f:=d.num (d.n-(r+1))) (p:=p) (Bp ok r U) (d.len (d.n-(r+1)));have g:=ok.len (d.n-(r+1)) U;rw[hg,Nat.pow_succ,Nat.mul_comm];exact cL c (Nat.mul_le_mul g bg)
def R5{d:h1}(ok:d.ok){r:Nat}(c:r<=d.n)(p:Int):hg d r p<=1600000000:=by have f:=Bp ok r c p;have g:=ok.n;have h:200 ^ r<=200 ^ 4:=Nat.pow_le_pow_right U U;omega
def tx(d:h1)(M:Int->Int->TZ):Prop:=∀(a:Nat) (p:Int) v,M a p=some v->a<=d.n->v=ah (hg d (d.n-a) p)
structure lv(w:S7)(L m:Nat)(d:h1)(P:jL):Prop where
 k5:w.cell? (Ti L)=some (TW P.nN P.sJ d.n P.qN)
 zD:w.cell? (S8 L 2)=some (.map (some m))
 rows:∀i,i<d.n->w.cell? (S8 P.nN (P.sJ+i))=some (TW (P.o7 i) (P.xl i) (d.len i) (P.ED i))
 el:∀i,i<d.n->gn w (P.o7 i) (P.xl i) (d.len i) (d.num i)
 mp:∃M,lu w m M/\tx d M
def ij.off{m:Nat}{M:Int->Int->TZ}(h:ij w m M){a:TD}{v:S9}(k:w.cell? a=some v):a.block≠m:=by rintro rfl;obtain⟨es,c,d,_⟩:=h;simp[World.cell?,d]at k
def lv.keep{L m:Nat}{d:h1}{P:jL}(h:lv w L m d P)(g:w.grownBy w' (some m))(k:∃M,lu w' m M/\tx d M):lv w' L m d P:=by
 let⟨M,l,_⟩:=h.mp;have c:∀a v,w.cell? a=some v->w'.cell? a=some v:=λa v e=>g.cell e (λx=>l.1.off e (bD x))
 exact⟨c _ _ h.k5,c _ _ h.zD,λi f=>c _ _ (h.rows i f),λi f j n=>c _ _ (h.el i f j n),k⟩
def lv.fF{L m:Nat}{d:h1}{P:jL}(h:lv w L m d P)(g:w.grownBy w' none):lv w' L m d P:=by let⟨M,c,j⟩:=h.mp;exact h.keep ⟨g.os,g.tape,g.output,g.size,λi f _=>g.block i f aF⟩ ⟨M,c.keep g aF,j⟩
def BA(w:S7):Sem.run (ao A) (zeroValue 3) w=.ok (ah 0) w:=av
def G0[S:Std A][eY:jx A](L m:Nat)(d:h1)(ok:d.ok)(P:jL):∀(r a:Nat),a+r=d.n->∀(p:Nat),p<=999->∀(w:S7),lv w L m d P->
 Calls (ao A) 49 #[Tj L,.agg #[ah a,ah p]] w λe w'=>e=.returned (ah (hg d r p))/\lv w' L m d P/\w.grownBy w' (some m):=by
 intro r;have aD:=ok.n;induction r with
 |zero=>
  intro a ar p hp w h;have g:=dU w (.cells #[ah a,ah p] 139) none;have c:=h.fF g;have ax:=c.k5;have hd:((a:Int) == (d.n:Int))=true:=by rw[beq_iff_eq];omega
  have z:=al c;have q:=al g;clear h g c;go_enter eY.f69,ntmps49;go_wp2;go_quiet (fail);go_wp2
  .rename_i G
   go_ret;refine⟨?_,z.out.fF (hl _ _),nf (some m) (q.out.trans (hl _ _))⟩;rw[hg,Tq (by simpa using G)];rfl
  .rename_i G
   go_ret;refine⟨?_,z.out.fF (hl _ _),nf (some m) (q.out.trans (hl _ _))⟩;rw[hg,Tm (by simpa using G)];rfl
 |succ r ae=>
  intro a ar p hp w h;have g:=dU w (.cells #[ah a,ah p] 139) none;have c:=h.fF g;have ax:=c.k5;have aJ:=c.zD;have hd:((a:Int) == (d.n:Int))=false:=ub;let⟨M,o,F⟩:=c.mp;have X:=sy (ao.underlying187 A) (.inr (.inl S6)) BA o.1 (a:Int) (p:Int) true;have z:=al c;have q:=al g;have aC:(cF a p)=.agg #[ah (a:Int),ah (p:Int)]:=S6;cases H:M a p with
  |some v=>
   have bz:=F a p v H U;rw[show d.n-a=r+1 by omega]at bz;replace X:∀n,Sem.run (ao A) (Instr.lookup 177 (.map (some m)) (.agg #[ah (a:Int),ah (p:Int)]) true) ((w.alloc (.cells #[ah a,ah p] 139)).drewN n)=.ok (.tuple #[ah (hg d (r+1) p),.bool true]) ((w.alloc (.cells #[ah a,ah p] 139)).drewN n):=by intro n;have:=sy (ao.underlying187 A) (.inr (.inl S6)) BA (o.1.keep (hl _ n) aF) (a:Int) (p:Int) true;rw[H,bz]at this;exact this
   clear h g c o F;go_enter eY.f69,ntmps49;go_wp2;go_quiet (fail);go_wp2;go_quiet (fail);go_wp2;go_ret;exact⟨S6,z.out.fF ⟨S6,S6,S6,bg,λ_ _ _=>S6⟩,nf (some m) (q.out.trans ⟨S6,S6,S6,bg,λ_ _ _=>S6⟩)⟩
  |none=>
   replace X:∀n,Sem.run (ao A) (Instr.lookup 177 (.map (some m)) (.agg #[ah (a:Int),ah (p:Int)]) true) ((w.alloc (.cells #[ah a,ah p] 139)).drewN n)=.ok (.tuple #[ah 0,.bool false]) ((w.alloc (.cells #[ah a,ah p] 139)).drewN n):=by intro n;have:=sy (ao.underlying187 A) (.inr (.inl S6)) BA (o.1.keep (hl _ n) aF) (a:Int) (p:Int) true;rw[H]at this;exact this
   have aK:=c.rows a U;have aG:(a:Int)<(d.n:Int):=U;have aH:(0:Int)<=a:=U;have ak:=al ae;have Z:w.heap.size≠m:=o.1.off (a:=(Ti w.heap.size)) (v:=ah a) (dR S6);clear h g c o F ae;go_enter eY.f69,ntmps49;go_wp2;go_quiet (fail);go_wp2;go_quiet (fail);go_wp2;go_quiet (fail);go_wp2;go_loopw [5,40] (λacc i wr=>∃j:Nat,j<=d.len a/\i=ah j/\acc=ah (kQ (hg d r) (d.num a) p j)/\lv wr L m d P/\(w.alloc (.cells #[ah a,ah p] 139)).grownBy wr (some m)) (λ_ i _=>d.len a-numOf i)
   case atStart=>exact⟨0,U,by go_num,S6,z.out.fF ⟨S6,S6,S6,bg,λ_ _ _=>S6⟩,nf (some m) ⟨S6,S6,S6,bg,λ_ _ _=>S6⟩⟩
   case round=>
    obtain⟨j,au,rfl,rfl,f,l⟩:=hrel;have ay:wr.cell? (Ti w.heap.size)=Tn a:=l.cell (a:=(Ti w.heap.size)) (dR S6) (λe=>Z (bD e));have az:wr.cell? (S8 w.heap.size 1)=Tn p:=l.cell (a:=(S8 w.heap.size 1)) (dR S6) (λe=>Z (bD e));have W:kQ (hg d r) (d.num a) p j<=j*200 ^ r:=Bq (Bp ok r U) j;have av:200 ^ r<=8000000:=by have:200 ^ r<=200 ^ 3:=Nat.pow_le_pow_right U U;omega
    have hlen:=ok.len a U;have hn:kQ (hg d r) (d.num a) p j<=1600000000:=cL W (by have:=Nat.mul_le_mul (cL au hlen) av;omega)
    by_cases Y:j<d.len a
    .have y:=f.el a U j Y
     have aE:=ok.num a U j Y;by_cases hle:d.num a j<=(p:Int)
     .have I:=ak.out (a+1) U (p-d.num a j).toNat U wr f
      rw[show(((p:Int)-d.num a j).toNat:Int)=(p:Int)-d.num a j by omega]at I;have aB:=R5 ok (r:=r) U ((p:Int)-d.num a j);have am:=al I;have J:=al f;have D:=al l;have es:kQ (hg d r) (d.num a) p (j+1)=kQ (hg d r) (d.num a) p j+hg d r ((p:Int)-d.num a j):=by rw[kQ,Tq hle]
      have ai:=al es;clear I f l es W;generalize kQ (hg d r) (d.num a) p j=acc at *;go_wp2_with (go_at_call 49;refine am.out.mono ?_;rintro e aI ⟨rfl,aw,aq⟩)
      go_roundw
      case rel=>exact⟨j+1,U,by go_num,by rw[ai.out];go_num,aw,ss D.out aq⟩
      case measure=>simp[numOf];omega
     .go_wp2
      go_roundw
      case rel=>exact⟨j+1,U,by go_num,by rw[kQ,Tm hle];rfl,f,l⟩
      case measure=>simp[numOf];omega
    .obtain rfl:j=d.len a:=U
     let⟨b7,T,aa⟩:=f.mp;have V:lu wr.drew m b7:=T.keep (row:=none) (gv (e6 _ _)) aF;let⟨ag,ad,af,Q,z9⟩:=Lk (ao.underlying187 A) (.inr (.inl S6)) V (a:Int) (p:Int) (kQ (hg d r) (d.num a) p (d.len a));replace ad:Sem.run (ao A) (Instr.mapUpdate 177 (.map (some m)) (.agg #[ah (a:Int),ah (p:Int)]) (ah (kQ (hg d r) (d.num a) p (d.len a)))) wr.drew=.ok () ag:=ad;have aA:=f.zD;have K:hg d (r+1) p=kQ (hg d r) (d.num a) p (d.len a):=by rw[hg,show d.n-(r+1)=a by omega]
     have J:=al f;have D:=al l;have u:=al Q;have ap:=al af;have aj:=al aa;clear f l Q af aa T V;go_wp2;go_region
     go_wp2;go_ret;have R:wr.grownBy ag (some m):=⟨u.out.os,u.out.tape,u.out.output,u.out.size,u.out.block⟩
     refine⟨by rw[K];rfl,J.out.keep R ⟨_,ap.out,λC ia v B hle=>?_⟩,ss (ss (nf (some m) q.out) D.out) R⟩;unfold l1 at B;by_cases E:(C:Int)=a/\ia=p
     .rw[Tq E]at B
      obtain⟨c,rfl⟩:=E;obtain rfl:C=a:=U;rw[show d.n-C=r+1 by omega,K];exact(bD B).symm
     .rw[Tm E]at B
      exact aj.out C ia v B hle
end
end Go.aO
namespace Go.aO
open Go.Proofs Tryz
instance bl.sp:hA bl.list.toArray:=⟨by kernel_rfl,by kernel_rfl,by kernel_rfl,by kernel_rfl,by kernel_rfl,by kernel_rfl,Jw (by kernel_rfl) (by kernel_rfl)⟩
end Go.aO
