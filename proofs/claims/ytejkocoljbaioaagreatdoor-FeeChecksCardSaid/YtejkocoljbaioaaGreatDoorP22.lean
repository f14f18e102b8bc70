/- A part. -/
import Derived.Test.YtejkocoljbaioaaGreatDoorP18
import Derived.Test.YtejkocoljbaioaaGreatDoorP21
set_option maxHeartbeats 8000000
set_option maxRecDepth 100000
set_option linter.all false
namespace Go.aO
open Go.Proofs Go.RowKit Go.Maps Go.Shelf
variable{T b m:Nat}{W c w w3:World}{g:World->Prop}{s:h3}
def A6{A:Array Func}[S:Std A]{B l E j cA:Nat}{first:Nat->Int}(K:pB g T B l E j cA first){k:Nat}(r:k<j)(z:j<=1000){bj:Nat->Int}(p:∀d,0<=bj d/\bj d<=1000000)(C:pA A g T k bj)(f c fm h:Nat)(u:f<=c)(o:c<120)(q:h<120)(hm:fm<120)(w:World)(D:g w):
 Calls (ao A) 56 #[.pointer (some ⟨T,0,none⟩),.agg #[ah k,ah f,ah c,ah fm,ah h]] w λe w'=>∃(v:Value) (i:List Int),e=.returned v/\i.Perm (intKeys (mG (first k) bj (hN f fm h (c-f+1))))/\
  w'.ownsRow w.heap.size 3 1 v i.length ((i.mergeSort (λx y=>decide (x<=y))).map encZ)/\(v=.slice none 0 0↔i = [])/\g w'/\w.grownBy w' (some T):=
 callsIn_wide.1 (QN K r z p C f c fm h u o q hm w D)
def yn(T:Nat)(w:World):Prop:=w.heap[T]?=some (.cells #[ah 2,sl (T+1) 2] 100 (0,2))/\w.heap[T+1]?=some (.cells #[ah 2,ah 1] 3 (0,2))
def tZ:Nat->Int
 | 0=>2
 |_=>1
def u4:Nat->Int
 | 0=>1
 | 1=>1
 | 2=>3
 | 3=>0
 |_=>3
def Q4(T:Nat):pB (yn T) T (T+2) (T+1) 0 2 2 tZ where
 lt:=⟨U,U⟩
 keep:=λw w' row h c d=>by have f:=bu h.1;have g:=bu h.2;exact⟨(c.block T f (λe=>by have:=d T e.symm;omega)).trans h.1,(c.block (T+1) g (λe=>by have:=d (T+1) e.symm;omega)).trans h.2⟩
 size:=λw h=>by have:=bu h.2;omega
 k5:=λw h=>by simp[World.cell?,h.1]
 cell:=λw h k i=>by
  rcases k with _|_|k
  .simp[World.cell?,h.2,tZ]
  .simp[World.cell?,h.2,tZ]
  .omega
 hL:=λk=>by rcases k with _|k<;>simp[tZ]
def H8(T:Nat)(w:World):Sem.run (bS T) (binOp .eql 16 (.pointer (some ⟨T,0,none⟩)) (.pointer (some ⟨T,0,none⟩))) w=.ok (.bool true) w:=by
 have e:=J' (T:=T) w;have c:Sem.run (bS T) (Op.equal 16 (pt T) (pt T)) w=.ok true w:=by rw[<-Sem.runT_fst (bS T) _ w #[],e]
 show Sem.run (bS T) ((Op.equal 16 (pt T) (pt T)).bind λb=>(pure (Value.bool b):Sem Value)) w=_;rw[eL,c];rfl
def QG(T:Nat)(w:World):Calls (bS T) 42 #[.pointer (some ⟨T,0,none⟩),ah 0] w λe w'=>e=.returned iT/\w=w':=by
 have c:=H8 T;go_enter (show(bS T).funcs[42]?=some (bS.rp T) by kernel_rfl),(show(bS.rp T).ntmps=18 from rfl)
 unfold xY;go_wp2;go_ret;exact⟨rfl,rfl⟩
def NS(T:Nat):pA (bS.list T).toArray (yn T) T 0 u4:=λw c=>
 (QG T w).mono λe w' h=>⟨h.1,h.2 ▸ c,h.2 ▸ ⟨rfl,rfl,rfl,bg,λ_ _ _=>rfl⟩⟩
def Lg:intKeys (mG (tZ 0) u4 (hN 20 46 50 (26-20+1))) = [2,3,5,6]:=av
def O9{d:List Int}(h:d.Perm [2,3,5,6]):d.mergeSort (λx y=>decide (x<=y)) = [2,3,5,6]:=by refine List.Perm.eq_of_pairwise (le:=λx y=>decide (x<=y)=true) (λa b _ _ f g=>by simp at f g;omega) (List.pairwise_mergeSort (λa b c f g=>by simp at *;omega) (λa b=>cH) d) a6 ?_;exact(List.mergeSort_perm d _).trans h
def Dj(T:Nat)(w:World)(f:w.heap=nG T)(_:w.drawn=0):Calls (bS T) 56 #[pt T,.agg dC] w λe w'=>∃v,e=.returned v/\yy v w':=by
 have p:yn T w:=⟨by rw[f];exact yf T,by rw[f];exact ye T⟩
 have j:∀d,0<=u4 d/\u4 d<=1000000:=λd=>by rcases d with _|_|_|_|d<;>simp[u4]
 have:=A6 (A:=(bS.list T).toArray) (Q4 T) (k:=0) U U j (NS T) 20 26 46 50 U U U U w p;refine Calls.mono this λe w' ⟨v,q,he,hp,c,z,_,_⟩=>⟨v,he,?_⟩
 rw[Lg]at hp;rw[O9 hp]at c;have o:q.length=4:=hp.length_eq;rw[o]at c;obtain⟨_,hd|⟨g,cap,cur,rfl,_,l,r,_,u,i⟩⟩:=c
 .exact absurd hd.2 U
 .have h:cur.toList = [ah 2,ah 3,ah 5,ah 6]++cur.toList.drop 4:=by rw[<-List.take_append_drop 4 cur.toList,show cur.toList.take 4 = [ah 2,ah 3,ah 5,ah 6]from i,List.drop_append];simp
  refine⟨g,cap,(cur.toList.drop 4).toArray,rfl,?_,?_⟩
  .rw[l]
   congr 2;apply Array.toList_inj.1;rw[Array.toList_append];exact h
  .simp
   omega
noncomputable def Ba(T:Nat)(c:(bS T).globals.size<=T):et:=zU T c (Dj T)
def Rc(T:Nat)(c:(bS T).globals.size<=T)(b:Nat)(h:je (Ba T c).Q=some b):b=(Ba T c).ht/\b=T:=Mc T c (Dj T) b h
section
variable{A:Array Func}
def HG[S:Std A](w:World)(cT dx f0:Int)(g:0<=cT/\cT<=dx)(b c:Nat)(d:w.heap[b]?=some (.cells #[ah cT,ah dx,ah f0] 103)):
 Calls (ao A) 41 #[.slice (some ⟨b,0,none⟩) 1 c] w λe w'=>e=.returned .nilIface/\w.grownBy w' none:=by
 refine vG b 0 1 c U w (λ_=>cT) (λ_=>dx) (λ_=>f0) (λi f=>?_) (λi f=>?_) (λi f=>?_) (λi f=>g)
 .rw[aU d];rcases i with _|i<;>first|rfl|omega
 .rw[aU d];rcases i with _|i<;>first|rfl|omega
 .rw[aU d];rcases i with _|i<;>first|rfl|omega
def zx(w:World)(a b o:Obj):(((w.alloc a).alloc b).alloc o).heap[w.heap.size+1+1]?=some o:=by rw[show w.heap.size+1+1=((w.alloc a).alloc b).heap.size by simp];exact fM _ _
def A3(s:h3)(h:w.heap[b]?=some (.cells s.a 31)):qG w b 0 1 (λ_=>s) where
 bx i c:=by rw[aU h];rcases i with _|i<;>first|rfl|omega
 c1 i c:=by rw[aU h];rcases i with _|i<;>first|rfl|omega
 c2 i c:=by rw[aU h];rcases i with _|i<;>first|rfl|omega
 c3 i c:=by rw[aU h];rcases i with _|i<;>first|rfl|omega
 c4 i c:=by rw[aU h];rcases i with _|i<;>first|rfl|omega
def Eo[S:Std A][P:hA A](d:cC)(ok:d.ok)(p:eg)(w:World)(h:e' w d p)(b o n c:Nat)(V:n<=4)(f:Nat->h3)(F:qG w b o n f)(W:∀i,i<n->(f i).ok d)(cm:Nat)(hp:cm<=999):
 Calls (ao A) 62 #[.agg (dv d p),.slice (some ⟨b,o,none⟩) n c,ah cm] w (rU d p w):=by
 have j:=dU w (.cells (dv d p) 25) none;have q:=h.keep j;have b6:=F.keep j;have I:=al (yV (A:=A) d ok p _ q);have Q:=al λ(w2:World) (g:(w.alloc (.cells (dv d p) 25)).grownBy w2 none)=>Ac (A:=A) d ok p w2 (q.keep g) b o n c V f (b6.keep g) W
 have H:=al λ(w:World) (b c:Nat) l=>HG (A:=A) w cm 999 3 U b c l
 have M:=al (v' (A:=A));have G:=al j;have ad:decide (4<(n:Int))=false:=cH;clear h F q b6 j;go_enter (S.f Tryz.func62),Tryz.ntmps62;go_wp2_with (first|(go_at_call 18;refine I.out.mono ?_;rintro e w2 ⟨rfl,r⟩;obtain⟨X,Y,Z,aa,ae⟩:=yO r;have u:=al r;clear r)|(go_at_call 39;refine(Q.out _ u.out).mono ?_;rintro e w3 ⟨T,rfl,C,l,g⟩;have z:=al l;have J:=al g;have R:=al C;clear l g C)|(go_at_call 41;refine(H.out _ _ _ (fM _ _)).mono ?_;rintro e af ⟨rfl,D⟩;have K:=al D;clear D)|(go_at_call 40;refine(M.out _).mono ?_;rintro e ag ⟨rfl,E⟩;have L:=al E;clear E))
 go_ret2
 have B:=((dU w3 _ none).trans K.out).trans L.out;refine⟨T,rfl,?_,(B.block T (bu z.out) aF).trans z.out,(G.out.trans (u.out.trans J.out)).trans B⟩;have:=R.out;omega
def Nd[S:Std A][P:hA A](d:cC)(ok:d.ok)(p:eg)(w:World)(h:e' w d p)(s:h3)(C:s.ok d)(cm:Nat)(hp:cm<=999):
 Calls (ao A) 57 #[.agg (dv d p),.agg s.a,ah cm] w (rU d p w):=by
 have j:=(dU w (.cells (dv d p) 25) none).trans (dU _ (.cells s.a 31) none);have l:=h.keep j;have z:=al λ(w2:World) (g:((w.alloc (.cells (dv d p) 25)).alloc (.cells s.a 31)).grownBy w2 none) (b c:Nat) (f:w2.heap[b]?=some (.cells s.a 31))=>Eo (A:=A) d ok p w2 (l.keep g) b 0 1 c U (λ_=>s) (A3 s f) (λi D=>C) cm hp
 have q:=al j;clear h l j;go_enter (S.f Tryz.func57),Tryz.ntmps57;go_wp2_with (go_at_call 62;refine(z.out _ bT (w.heap.size+1+1) 1 (zx _ _ _ _)).mono ?_;rintro e w3 ⟨T,rfl,o,f,g⟩;have r:=al f;have u:=al g;have B:=al o;clear f g o)
 go_ret2
 refine⟨T,rfl,?_,r.out,(q.out.trans bT).trans u.out⟩;have:=B.out;simp at this;omega
def qk(d:cC)(s:h3):List Int:=intKeys (mG (d.first s.k) (cX d s.k) (hN s.lm s.fm s.b5 (s.cj-s.lm+1)))
def Hs(d:cC)(s:h3)(w:World)(e:Ending)(w':World):Prop:=∃(v:Value) (c:List Int) (m:Nat),e=.returned (.tuple #[v,ah 0])/\c.Perm (qk d s)/\w.heap.size<=m/\
 w'.ownsRow m 3 1 v c.length ((c.mergeSort (λx y=>decide (x<=y))).map encZ)/\(v=.slice none 0 0↔c = [])/\w.grownBy w' none
def QM[S:Std A][P:hA A]{d:cC}(ok:d.ok){p:eg}(s:h3)(f:s.ok d)(h:e' w d p)(l:w.heap.size<=T)(q:w3.heap[T]?=some (.cells (nD d p) 100))(o:w.grownBy w3 none):
 Calls (ao A) 56 #[.pointer (some ⟨T,0,none⟩),.agg s.a] w3 λe w'=>∃(v:Value) (i:List Int),e=.returned v/\i.Perm (qk d s)/\
  w'.ownsRow w3.heap.size 3 1 v i.length ((i.mergeSort (λx y=>decide (x<=y))).map encZ)/\(v=.slice none 0 0↔i = [])/\w.grownBy w' none:=by
 have x:=sO ok h l q o;have r:=ok.kinds;have u:=f.f;have hF:=f.hF;have k:=A6 (A:=A) (pg ok x.2.2.1 x.2.2.2) (k:=s.k) f.k U (bj:=cX d s.k) (λday=>by have:=ql ok f.k day;omega) (rk ok x.2.2.1 x.2.1 f.k) s.lm s.cj s.fm s.b5 f.l f.bE f.hF U w3 x.1;rw[pT f.k]at k;refine k.mono ?_;rintro e w' ⟨v,i,rfl,a,b,c,j,g⟩;exact⟨v,i,rfl,a,b,c,kH o g l⟩
def Ht[S:Std A][P:hA A](d:cC)(ok:d.ok)(p:eg)(w:World)(h:e' w d p)(s:h3)(E:s.ok d):
 Calls (ao A) 22 #[.agg (dv d p),.agg s.a] w (Hs d s w):=by
 have l:=(dU w (.cells (dv d p) 25) none).trans (dU _ (.cells s.a 31) none);have B:=h.keep l;have I:=al λ(w2:World) (j:((w.alloc (.cells (dv d p) 25)).alloc (.cells s.a 31)).grownBy w2 none) (b c:Nat) (g:w2.heap[b]?=some (.cells s.a 31))=>Ac (A:=A) d ok p w2 (B.keep j) b 0 1 c U (λ_=>s) (A3 s g) (λi W=>E)
 have r:=al l;have J:=al λ(T:Nat) (w3:World) (a':w.heap.size<=T) (g:w3.heap[T]?=some (.cells (nD d p) 100)) (j:w.grownBy w3 none)=>QM (A:=A) (w3:=w3) ok s E h a' g j
 have z:((w.alloc (.cells (dv d p) 25)).alloc (.cells s.a 31)).heap[w.heap.size+1]?=some (.cells s.a 31):=by rw[show w.heap.size+1=(w.alloc (.cells (dv d p) 25)).heap.size by simp];exact fM _ _
 have G:=al z;clear h B l z;go_enter (S.f Tryz.func22),Tryz.ntmps22;go_wp2_with (first|(go_at_call 39;refine(I.out _ bT (w.heap.size+1+1) 1 (zx _ _ _ _)).mono ?_;rintro e w3 ⟨T,rfl,a',g,j⟩;have q:=(dU _ _ none).trans j;have f:=(q.block (w.heap.size+1) aF aF).trans G.out;have Y:=aU (o:=0) f;have Z:=aU (o:=1) f;have aa:=aU (o:=2) f;have ad:=aU (o:=3) f;have ae:=aU (o:=4) f;have D:=r.out.trans q;have C:w.heap.size<=T:=by{simp at a';omega};have H:=al g;have u:=al D;have K:=al C;clear g j q a' C D f)|(go_at_call 56;refine(J.out T _ K.out H.out u.out).mono ?_;rintro e X ⟨v,V,rfl,q1,F,Q,R⟩;have M:=al F;have L:=al q1;clear q1 F))
 go_ret2
 exact⟨v,V,w3.heap.size,rfl,L.out,by have:=r.out.size;have:=u.out.size;omega,M.out,Q,R⟩
abbrev qL(bY c:Int)(s:Bool):Array Value:=#[ah bY,ah c,.bool s]
def Gt(bY:Int)(s:Bool)(n:Int):Int:=if s then min bY n else n
def Gs(c:Int)(s:Bool)(n:Int):Int:=if s then max c n else n
def Q2[S:Std A](b:Nat)(bY c n:Int)(w:World)(h:w.heap[b]?=some (.cells (qL bY c true) 120)):
 Calls (ao A) 59 #[.pointer (some ⟨b,0,none⟩),ah n] w λe w'=>e=.returned (.tuple #[])/\w'.heap[b]?=some (.cells (qL (min bY n) (max c n) true) 120)/\w.grownBy w' (some b):=by
 have d:=aU (o:=0) h;have f:=aU (o:=1) h;have g:=aU (o:=2) h;have f0:=b3 (o:=0) h;have f1:=b3 (o:=1) h;go_enter (S.f Tryz.func59),Tryz.ntmps59;go_wp2;go_region
 go_end0;refine⟨rfl,?_,gv (e7 (e7 (e6 _ _)))⟩;rw[oL,cU (cU h)];rfl
def Q1[S:Std A](b:Nat)(bY c n:Int)(w:World)(h:w.heap[b]?=some (.cells (qL bY c false) 120)):
 Calls (ao A) 59 #[.pointer (some ⟨b,0,none⟩),ah n] w λe w'=>e=.returned (.tuple #[])/\w'.heap[b]?=some (.cells (qL n n true) 120)/\w.grownBy w' (some b):=by
 have d:=aU (o:=0) h;have f:=aU (o:=1) h;have g:=aU (o:=2) h;have f0:=b3 (o:=0) h;have f1:=b3 (o:=1) h;have f2:=b3 (o:=2) h;go_enter (S.f Tryz.func59),Tryz.ntmps59;go_wp2;go_region
 go_end0;refine⟨rfl,?_,gv (e7 (e7 (e7 (e7 (e7 (e6 _ _))))))⟩;rw[oL,cU (cU (cU (cU (cU h))))];rfl
def Gu[S:Std A](b:Nat)(bY c:Int)(s:Bool)(n:Int)(w:World)(h:w.heap[b]?=some (.cells (qL bY c s) 120)):
 Calls (ao A) 59 #[.pointer (some ⟨b,0,none⟩),ah n] w λe w'=>e=.returned (.tuple #[])/\w'.heap[b]?=some (.cells (qL (Gt bY s n) (Gs c s n) true) 120)/\w.grownBy w' (some b):=by
 cases s with
 |true=>exact Q2 b bY c n w h
 |false=>exact Q1 b bY c n w h
def Fe{P:Program}{fn:Func}{p q u:Tmp}{c:TypeId}(h:fn.results=#[.cell p c,.cell q c,.tmp u])(tmps:Array Value)(w:World)(g g':Nat)(t bh:TypeId)(cs cs':Array Value)(fr bo:Nat×Nat)(d:TypeDesc)(hp:tmps.getD p undef=.pointer (some ⟨g,0,none⟩))(l:w.heap[g]?=some (.cells cs t fr))(B:tmps.getD q undef=.pointer (some ⟨g',0,none⟩))(o:w.heap[g']?=some (.cells cs' bh bo))(hu:P.underlying c=some d)(hd:(match d with |.struct _ |.array _ _=>true|_=>false)=true)(r:(P.info? c).map (·.size)=some cs.size)(z:(P.info? c).map (·.size)=some cs'.size)(v:Value)(C:tmps.getD u undef=v):
 (results fn tmps).run P w=.ok (.tuple #[.agg cs,.agg cs',v]) w:=by
 have f:tmps[p]?.getD undef=.pointer (some ⟨g,0,none⟩):=by simpa using hp
 have i:tmps[q]?.getD undef=.pointer (some ⟨g',0,none⟩):=by simpa using B
 have j:tmps[u]?.getD undef=v:=by simpa using C
 simp[results,h,f,i,j,asAddr,run_loadVar_row w g t c cs fr d l hu hd r,run_loadVar_row w g' bh c cs' bo d o hu hd z]
def jA(w:World)(o:Obj)(i:Nat)(h:i=w.heap.size):(w.alloc o).heap[i]?=some o:=by subst h;exact heap_alloc_new w o
def K2(w:World)(a b c d e:Obj):(((((w.alloc a).alloc b).alloc c).alloc d).alloc e).heap[w.heap.size+1]?=some b/\(((((w.alloc a).alloc b).alloc c).alloc d).alloc e).heap[w.heap.size+1+1]?=some c/\(((((w.alloc a).alloc b).alloc c).alloc d).alloc e).heap[w.heap.size+1+1+1]?=some d/\(((((w.alloc a).alloc b).alloc c).alloc d).alloc e).heap[w.heap.size+1+1+1+1]?=some e:=by
 refine⟨?_,?_,?_,?_⟩
 .rw[dm (by simp only[cV];omega),dm (by simp only[cV];omega),dm (by simp only[cV];omega),jA _ _ _ (by simp only[cV])]
 .rw[dm (by simp only[cV];omega),dm (by simp only[cV];omega),jA _ _ _ (by simp only[cV])]
 .rw[dm (by simp only[cV];omega),jA _ _ _ (by simp only[cV])]
 .rw[jA _ _ _ (by simp only[cV])]
def tQ{c:Array Value}{e:TypeId}(h:w.heap[b]?=some (.cells c e))(o:Nat)(x y z:Obj):(((w.alloc x).alloc y).alloc z).cell? ⟨b,o,none⟩=c[o]?:=by have d:=bu h;refine aU (e:=e) (f:=(0,0)) ?_;rw[dm (by simp only[cV];omega),dm (by simp only[cV];omega),dm d,h]
def xJ:((ao A).info? 29).map (·.size)=some 2:=av
structure j9 where
 bY:Int
 ad:Int
 s:Bool
def j9.none:j9:=⟨0,0,false⟩
def j9.take(x:j9)(n:Int):j9:=⟨Gt x.bY x.s n,Gs x.ad x.s n,true⟩
abbrev j9.a(x:j9):Array Value:=qL x.bY x.ad x.s
def wH(f:Int)(bj:Nat->Int)(cm:Int)(D:j9×j9)(x:fT):j9×j9:=if k0 f bj x=cm then(D.1.take x.1.1,D.2.take x.1.2)else D
def jZ(f:Int)(bj:Nat->Int)(cm:Int)(pre:List fT):j9×j9:=pre.foldl (wH f bj cm) (j9.none,j9.none)
def Dl(f:Int)(bj:Nat->Int)(cm:Int)(pre:List fT)(x:fT):jZ f bj cm (pre++[x])=wH f bj cm (jZ f bj cm pre) x:=by simp[jZ]
structure kT(bf:World->Prop)(T k:Nat)(s:h3)(cm:Int)(f:Int)(bj:Nat->Int)(w:World)(m:Nat)(pre:List fT)(W:World):Prop where
 t4:W.cell? ⟨w.heap.size+1,0,none⟩=some (ah k)
 t5:W.cell? ⟨w.heap.size+1+1,0,none⟩=some (ah cm)
 t6:W.heap[w.heap.size+1+1+1]?=some (.cells #[ah 0,ah 0] 29)
 t7:W.heap[w.heap.size+1+1+1+1]?=some (.cells #[ah 0,ah 0] 29)
 t9:W.cell? ⟨m,0,none⟩=some (.pointer (some ⟨T,0,none⟩))
 t11:W.heap[m+1]?=some (.cells (jZ f bj cm pre).1.a 120)
 t12:W.heap[m+1+1]?=some (.cells (jZ f bj cm pre).2.a 120)
 j:bf W
 fY:w.grownBy W none
 dD:m+1+1+1+1<=W.heap.size
 uA:w.heap.size+5<=m
 x3:w.heap.size+5<=T/\T<m
def kT.step{k:Nat}{cm f:Int}{bj:Nat->Int}{pre:List fT}{d':World}{row:Option Nat}(h:kT g T k s cm f bj w m pre W)(c:W.grownBy d' row)(i:∀r,row=some r->r=T\/m+4<=r)(o:g d'):kT g T k s cm f bj w m pre d':=by
 have p:=h.uA;have l:=h.x3;have q:=h.dD;have d:∀b,(w.heap.size+1<=b/\b<w.heap.size+5)\/(m<=b/\b<m+4)->some b≠row:=λb j e=>by rcases i b e.symm with rfl|ax<;>omega
 have lt:∀b,(w.heap.size+1<=b/\b<w.heap.size+5)\/(m<=b/\b<m+4)->b<W.heap.size:=λb j=>U
 refine⟨c.cell h.t4 (d _ dT),c.cell h.t5 (d _ dT),(c.block _ (lt _ U) (d _ U)).trans h.t6,(c.block _ (lt _ U) (d _ U)).trans h.t7,c.cell h.t9 (d _ dT),
  (c.block _ (lt _ U) (d _ U)).trans h.t11,(c.block _ (lt _ U) (d _ U)).trans h.t12,o,?_,cL h.dD c.size,p,l⟩
 cases row with
 |none=>exact h.fY.trans c
 |some r=>exact kH h.fY c (by rcases i r rfl with rfl|ax<;>omega)
def kT.told{l:World->Prop}{k:Nat}{cm f:Int}{bj:Nat->Int}{pre:List fT}{x:fT}{p:World}(h:kT l T k s cm f bj w m pre W)(G:k0 f bj x=cm)(B:p.heap[m+1]?=some (.cells ((jZ f bj cm pre).1.take x.1.1).a 120))(j:W.grownBy p (some (m+1)))(C:c.heap[m+1+1]?=some (.cells ((jZ f bj cm pre).2.take x.1.2).a 120))(d:p.grownBy c (some (m+1+1)))(E:l c):kT l T k s cm f bj w m (pre++[x]) c:=by
 have F:=h.uA;have D:=h.x3;have I:=h.dD;have H:=j.size;have i:∀b r:Nat,b≠r->some b≠some r:=λb r g e=>g (bD e)
 have S9:∀b o,b<W.heap.size->b≠m+1->b≠m+1+1->W.heap[b]?=some o->c.heap[b]?=some o:=λb o z g u e=>(d.block b U (i _ _ u)).trans ((j.block b z (i _ _ g)).trans e)
 have q:∀a v,a.block≠m+1->a.block≠m+1+1->W.cell? a=some v->c.cell? a=some v:=λa v g u e=>d.cell (j.cell e (i _ _ g)) (i _ _ u)
 have e:jZ f bj cm (pre++[x])=((jZ f bj cm pre).1.take x.1.1,(jZ f bj cm pre).2.take x.1.2):=by rw[Dl,wH,if_pos G]
 refine⟨q _ _ dT dT h.t4,q _ _ dT dT h.t5,S9 _ _ U U U h.t6,S9 _ _ U U U h.t7,q _ _ dT dT h.t9,?_,?_,E,
  kH (kH h.fY j U) d U,cL h.dD (cL H d.size),F,D⟩
 .rw[e]
  exact(d.block _ U (i _ _ U)).trans B
 .rw[e]
  exact C
def kT.untold{c:World->Prop}{k:Nat}{cm f:Int}{bj:Nat->Int}{pre:List fT}{x:fT}(h:kT c T k s cm f bj w m pre W)(d:k0 f bj x≠cm):kT c T k s cm f bj w m (pre++[x]) W:=by
 have e:jZ f bj cm (pre++[x])=jZ f bj cm pre:=by rw[Dl,wH,if_neg d]
 exact⟨h.t4,h.t5,h.t6,h.t7,h.t9,by rw[e];exact h.t11,by rw[e];exact h.t12,h.j,h.fY,h.dD,h.uA,h.x3⟩
def Dk(w:World)(a b c d:Obj):((((w.alloc a).alloc b).alloc c).alloc d).heap[w.heap.size]?=some a/\((((w.alloc a).alloc b).alloc c).alloc d).heap[w.heap.size+1]?=some b/\((((w.alloc a).alloc b).alloc c).alloc d).heap[w.heap.size+1+1]?=some c/\((((w.alloc a).alloc b).alloc c).alloc d).heap[w.heap.size+1+1+1]?=some d:=by
 refine⟨?_,?_,?_,?_⟩
 .rw[dm (by simp only[cV];omega),dm (by simp only[cV];omega),dm (by simp only[cV];omega),jA _ _ _ rfl]
 .rw[dm (by simp only[cV];omega),dm (by simp only[cV];omega),jA _ _ _ (by simp only[cV])]
 .rw[dm (by simp only[cV];omega),jA _ _ _ (by simp only[cV])]
 .rw[jA _ _ _ (by simp only[cV])]
def Di(w:World)(a b c d:Obj):w.grownBy ((((w.alloc a).alloc b).alloc c).alloc d) none:=(((dU w _ _).trans bT).trans bT).trans bT
def kT.init{i:World->Prop}{cm:Nat}{f:Int}{bj:Nat->Int}{o:Obj}(z:c.heap.size=w.heap.size+5)(l:w.grownBy c none)(d:c.heap[w.heap.size+1]?=some (.cells s.a 31)/\c.heap[w.heap.size+1+1]?=some (.cells #[ah cm] 3)/\c.heap[w.heap.size+1+1+1]?=some (.cells #[ah 0,ah 0] 29)/\c.heap[w.heap.size+1+1+1+1]?=some (.cells #[ah 0,ah 0] 29))(q:c.heap.size<=T)(r:T<w3.heap.size)(h:c.grownBy w3 none)(p:i ((((w3.alloc (.cells #[.pointer (some ⟨T,0,none⟩)] 76)).alloc (.cells #[ah 0,ah 0,.bool false] 120)).alloc (.cells #[ah 0,ah 0,.bool false] 120)).alloc o)):
 kT i T s.k s cm f bj w w3.heap.size [] ((((w3.alloc (.cells #[.pointer (some ⟨T,0,none⟩)] 76)).alloc (.cells #[ah 0,ah 0,.bool false] 120)).alloc (.cells #[ah 0,ah 0,.bool false] 120)).alloc o):=by
 have j:=Di w3 (.cells #[.pointer (some ⟨T,0,none⟩)] 76) (.cells #[ah 0,ah 0,.bool false] 120) (.cells #[ah 0,ah 0,.bool false] 120) o;have g:=Dk w3 (.cells #[.pointer (some ⟨T,0,none⟩)] 76) (.cells #[ah 0,ah 0,.bool false] 120) (.cells #[ah 0,ah 0,.bool false] 120) o;have u:=h.size;have S9:∀b x,b<c.heap.size->c.heap[b]?=some x->((((w3.alloc (.cells #[.pointer (some ⟨T,0,none⟩)] 76)).alloc (.cells #[ah 0,ah 0,.bool false] 120)).alloc (.cells #[ah 0,ah 0,.bool false] 120)).alloc o).heap[b]?=some x:=λb x d e=>(j.block b U aF).trans ((h.block b d aF).trans e)
 refine⟨aU (S9 _ _ U d.1),aU (S9 _ _ U d.2.1),S9 _ _ U d.2.2.1,S9 _ _ U d.2.2.2,aU g.1,g.2.1,g.2.2.1,p,(l.trans h).trans j,aF,U,U⟩
def Gi{c d:Nat}{x y:Array Value}(h:W.heap[c]?=some (.cells x 29))(i:W.heap[d]?=some (.cells y 29))(G:x.size=2)(H:y.size=2)(f:c≠d)(u:w.heap.size<=c)(B:w.heap.size<=d)(g:w.grownBy W none)(v0 v1 v2 v3:Value):
 ((((W.setCell ⟨c,0,none⟩ v0).setCell ⟨c,1,none⟩ v1).setCell ⟨d,0,none⟩ v2).setCell ⟨d,1,none⟩ v3).heap[c]?=some (.cells #[v0,v1] 29)/\((((W.setCell ⟨c,0,none⟩ v0).setCell ⟨c,1,none⟩ v1).setCell ⟨d,0,none⟩ v2).setCell ⟨d,1,none⟩ v3).heap[d]?=some (.cells #[v2,v3] 29)/\
 (∀(D:Nat) (o:Option (List Deferred)),W.heap[D]?=some (Obj.deferred o)->((((W.setCell ⟨c,0,none⟩ v0).setCell ⟨c,1,none⟩ v1).setCell ⟨d,0,none⟩ v2).setCell ⟨d,1,none⟩ v3).heap[D]?=some (Obj.deferred o))/\w.grownBy ((((W.setCell ⟨c,0,none⟩ v0).setCell ⟨c,1,none⟩ v1).setCell ⟨d,0,none⟩ v2).setCell ⟨d,1,none⟩ v3) none:=by
 have mf:=cU (o:=1) (v:=v1) (cU (o:=0) (v:=v0) h);have F:((W.setCell ⟨c,0,none⟩ v0).setCell ⟨c,1,none⟩ v1).heap[d]?=some (.cells y 29):=by rw[e1 f.symm,e1 f.symm,i]
 have r:=cU (o:=1) (v:=v3) (cU (o:=0) (v:=v2) F);have two:∀(z:Array Value) (p q:Value),z.size=2->(z.setIfInBounds 0 p).setIfInBounds 1 q=#[p,q]:=λz p q I=>by
  obtain⟨l⟩:=z;match l,I with
  | [_,_],_=>rfl
 rw[two _ _ _ H]at r;rw[two _ _ _ G]at mf;refine⟨by rw[e1 f,e1 f,mf],r,λD o j=>?_,lW (lW (lW (lW g u) u) B) B⟩;have C:D≠c:=λe=>by subst e;rw[j]at h;simp at h
 have E:D≠d:=λe=>by subst e;rw[j]at i;simp at i
 rw[e1 E,e1 E,e1 C,e1 C,j]
def wI(D:j9×j9):Value:=if D.1.s then .tuple #[.agg #[ah D.1.bY,ah D.1.ad],.agg #[ah D.2.bY,ah D.2.ad],ah 0]else .tuple #[.agg #[ah 0,ah 0],.agg #[ah 0,ah 0],ah 11]
end
end Go.aO
