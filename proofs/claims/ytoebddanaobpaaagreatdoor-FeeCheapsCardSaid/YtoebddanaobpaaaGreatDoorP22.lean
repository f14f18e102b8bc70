/- A part. -/
import Derived.Test.YtoebddanaobpaaaGreatDoorP18
import Derived.Test.YtoebddanaobpaaaGreatDoorP21
set_option maxHeartbeats 8000000
set_option maxRecDepth 100000
set_option linter.all false
namespace Go.aO
open Go.Proofs Tryz Go.RowKit Go.Maps Go.Shelf
variable{b k:Nat}{W c w w3:S7}{g:TQ}{s:h3}
def A6{A:TJ}[S:Std A]{T B l C j cA:Nat}{first:Ty}(K:pB g T B l C j cA first)(p:k<j)(r:j<=1000){bj:Ty}(n:∀d,0<=bj d/\bj d<=1000000)(u:pA A g T k bj)(f c fm h:Nat)(q:f<=c)(m:c<120)(o:h<120)(hm:fm<120)(w:S7)(z:g w):
 Calls (ao A) 38 #[Tj T,.agg #[ah k,ah f,ah c,ah fm,ah h]] w λe w'=>∃(v:S9) (i:TX),e=.returned v/\i.Perm (intKeys (mG (first k) bj (hN f fm h (c-f+1))))/\
  w'.ownsRow w.heap.size 3 1 v i.length ((i.mergeSort (λx y=>decide (x<=y))).map encZ)/\(v=.slice none 0 0↔i = [])/\g w'/\w.grownBy w' (some T):=
 callsIn_wide.1 (QN K p r n u f c fm h q m o hm w z)
def yn(T:Nat)(w:S7):Prop:=w.heap[T]?=some (.cells #[ah 2,sl (T+1) 2] 132 (0,2))/\w.heap[T+1]?=some (.cells #[ah 2,ah 1] 3 (0,2))
def tZ:Nat->Int
 | 0=>2
 |_=>1
def u4:Nat->Int
 | 0=>1
 | 1=>1
 | 2=>3
 | 3=>0
 |_=>3
def Q4(T:Nat):pB (yn T) T (T+2) (T+1) 0 2 2 tZ where
 lt:=⟨U,U⟩
 keep:=λw w' row h c d=>by have f:=bu h.1;have g:=bu h.2;exact⟨(c.block T f (λe=>by have:=d T e.symm;omega)).trans h.1,(c.block (T+1) g (λe=>by have:=d (T+1) e.symm;omega)).trans h.2⟩
 size:=λw h=>by have:=bu h.2;omega
 k5:=λw h=>by simp[World.cell?,h.1]
 cell:=λw h k i=>by
  rcases k with _|_|k
  .simp[World.cell?,h.2,tZ]
  .simp[World.cell?,h.2,tZ]
  .omega
 hL:=λk=>by rcases k with _|k<;>simp[tZ]
def H8(T:Nat)(w:S7):Sem.run (bS T) (binOp .eql 16 (Tj T) (Tj T)) w=.ok (.bool true) w:=by
 have e:=J' (T:=T) w;have c:Sem.run (bS T) (Op.equal 16 (pt T) (pt T)) w=.ok true w:=by rw[<-Sem.runT_fst (bS T) _ w #[],e]
 show Sem.run (bS T) ((Op.equal 16 (pt T) (pt T)).bind λb=>(pure (Value.bool b):Sem S9)) w=_;rw[eL,c];rfl
def QG(T:Nat)(w:S7):Calls (bS T) 46 #[Tj T,ah 0] w λe w'=>e=.returned iT/\w=w':=by
 have c:=H8 T;go_enter (show(bS T).funcs[46]?=some (bS.rp T) by kernel_rfl),(show(bS.rp T).ntmps=18 from S6)
 unfold xY;go_wp2;go_ret;exact⟨S6,S6⟩
def NS(T:Nat):pA (bS.list T).toArray (yn T) T 0 u4:=λw c=>
 (QG T w).mono λe w' h=>⟨h.1,h.2 ▸ c,h.2 ▸ ⟨S6,S6,S6,bg,λ_ _ _=>S6⟩⟩
def Lg:intKeys (mG (tZ 0) u4 (hN 20 46 50 (26-20+1))) = [2,3,5,6]:=av
def O9{d:TX}(h:d.Perm [2,3,5,6]):d.mergeSort (λx y=>decide (x<=y)) = [2,3,5,6]:=by refine List.Perm.eq_of_pairwise (le:=λx y=>decide (x<=y)=true) (λa b _ _ f g=>by simp at f g;omega) (List.pairwise_mergeSort (λa b c f g=>by simp at *;omega) (λa b=>cH) d) a6 ?_;exact(List.mergeSort_perm d _).trans h
def Dj(T:Nat)(w:S7)(f:w.heap=nG T)(_:w.drawn=0):Calls (bS T) 38 #[pt T,.agg dC] w λe w'=>∃v,e=.returned v/\yy v w':=by
 have n:yn T w:=⟨by rw[f];exact yf T,by rw[f];exact ye T⟩
 have j:∀d,0<=u4 d/\u4 d<=1000000:=λd=>by rcases d with _|_|_|_|d<;>simp[u4]
 have:=A6 (A:=(bS.list T).toArray) (Q4 T) (k:=0) U U j (NS T) 20 26 46 50 U U U U w n;refine Calls.mono this λe w' ⟨v,o,he,hp,c,r,_,_⟩=>⟨v,he,?_⟩
 rw[Lg]at hp;rw[O9 hp]at c;have m:o.length=4:=hp.length_eq;rw[m]at c;obtain⟨_,hd|⟨g,cap,cur,rfl,_,l,p,_,q,i⟩⟩:=c
 .exact Td hd.2 U
 .have h:cur.toList = [ah 2,ah 3,ah 5,ah 6]++cur.toList.drop 4:=by rw[<-List.take_append_drop 4 cur.toList,show cur.toList.take 4 = [ah 2,ah 3,ah 5,ah 6]from i,List.drop_append];simp
  refine⟨g,cap,(cur.toList.drop 4).toArray,S6,?_,?_⟩
  .rw[l]
   congr 2;apply Array.toList_inj.1;rw[Array.toList_append];exact h
  .simp
   omega
noncomputable def Ba(T:Nat)(c:(bS T).globals.size<=T):et:=zU T c (Dj T)
def Rc(T:Nat)(c:(bS T).globals.size<=T)(b:Nat)(h:je (Ba T c).Q=some b):b=(Ba T c).ht/\b=T:=Mc T c (Dj T) b h
section
variable{A:TJ}
def HG[S:Std A](w:S7)(cT dx f0:Int)(g:0<=cT/\cT<=dx)(b c:Nat)(d:w.heap[b]?=some (.cells #[ah cT,ah dx,ah f0] 76)):
 Calls (ao A) 45 #[Ts b 1 c] w λe w'=>e=.returned .nilIface/\w.grownBy w' none:=by
 refine vG b 0 1 c U w (λ_=>cT) (λ_=>dx) (λ_=>f0) (λi f=>?_) (λi f=>?_) (λi f=>?_) (λi f=>g)
 .rw[aU d];rcases i with _|i<;>first|rfl|omega
 .rw[aU d];rcases i with _|i<;>first|rfl|omega
 .rw[aU d];rcases i with _|i<;>first|rfl|omega
def zx(w:S7)(a b o:Obj):(((w.alloc a).alloc b).alloc o).heap[w.heap.size+1+1]?=some o:=by rw[show w.heap.size+1+1=((w.alloc a).alloc b).heap.size by simp];exact fM _ _
def A3(s:h3)(h:w.heap[b]?=some (.cells s.a 52)):qG w b 0 1 (λ_=>s) where
 bx i c:=by rw[aU h];rcases i with _|i<;>first|rfl|omega
 c1 i c:=by rw[aU h];rcases i with _|i<;>first|rfl|omega
 c2 i c:=by rw[aU h];rcases i with _|i<;>first|rfl|omega
 c3 i c:=by rw[aU h];rcases i with _|i<;>first|rfl|omega
 c4 i c:=by rw[aU h];rcases i with _|i<;>first|rfl|omega
def Eo[S:Std A][P:hA A](d:cC)(ok:d.ok)(p:eg)(w:S7)(h:e' w d p)(b o n c:Nat)(Q:n<=4)(f:Nat->h3)(D:qG w b o n f)(R:∀i,i<n->(f i).ok d)(cm:Nat)(hp:cm<=999):
 Calls (ao A) 47 #[.agg (dv d p),TW b o n c,ah cm] w (rU d p w):=by
 have j:=dU w (.cells (dv d p) 25) none;have m:=h.keep j;have b6:=D.keep j;have G:=al (yV (A:=A) d ok p _ m);have L:=al λ(w2:S7) (g:(w.alloc (.cells (dv d p) 25)).grownBy w2 none)=>Ac (A:=A) d ok p w2 (m.keep g) b o n c Q f (b6.keep g) R
 have F:=al λ(w:S7) (b c:Nat) l=>HG (A:=A) w cm 999 3 U b c l
 have K:=al (v' (A:=A));have E:=al j;have Z:decide (4<(n:Int))=false:=cH;clear h D m b6 j;go_enter (S.f func47),ntmps47;go_wp2_with (first|(go_at_call 61;refine G.out.mono ?_;rintro e w2 ⟨rfl,q⟩;let⟨V,W,X,Y,aa⟩:=yO q;have r:=al q;clear q)|(go_at_call 37;refine(L.out _ r.out).mono ?_;rintro e w3 ⟨T,rfl,z,l,g⟩;have u:=al l;have H:=al g;have M:=al z;clear l g z)|(go_at_call 45;refine(F.out _ _ _ (fM _ _)).mono ?_;rintro e ad ⟨rfl,B⟩;have I:=al B;clear B)|(go_at_call 44;refine(K.out _).mono ?_;rintro e ae ⟨rfl,C⟩;have J:=al C;clear C))
 go_ret2
 have y:=((dU w3 _ none).trans I.out).trans J.out;refine⟨T,S6,?_,(y.block T (bu u.out) aF).trans u.out,(E.out.trans (r.out.trans H.out)).trans y⟩;have:=M.out;omega
def Nd[S:Std A][P:hA A](d:cC)(ok:d.ok)(p:eg)(w:S7)(h:e' w d p)(s:h3)(y:s.ok d)(cm:Nat)(hp:cm<=999):
 Calls (ao A) 39 #[.agg (dv d p),.agg s.a,ah cm] w (rU d p w):=by
 have j:=(dU w (.cells (dv d p) 25) none).trans (dU _ (.cells s.a 52) none);have l:=h.keep j;have r:=al λ(w2:S7) (g:((w.alloc (.cells (dv d p) 25)).alloc (.cells s.a 52)).grownBy w2 none) (b c:Nat) (f:w2.heap[b]?=some (.cells s.a 52))=>Eo (A:=A) d ok p w2 (l.keep g) b 0 1 c U (λ_=>s) (A3 s f) (λi z=>y) cm hp
 have n:=al j;clear h l j;go_enter (S.f func39),ntmps39;go_wp2_with (go_at_call 47;refine(r.out _ bT (w.heap.size+1+1) 1 (zx _ _ _ _)).mono ?_;rintro e w3 ⟨T,rfl,m,f,g⟩;have o:=al f;have q:=al g;have u:=al m;clear f g m)
 go_ret2
 refine⟨T,S6,?_,o.out,(n.out.trans bT).trans q.out⟩;have:=u.out;simp at this;omega
def qk(d:cC)(s:h3):TX:=intKeys (mG (d.first s.k) (cX d s.k) (hN s.lm s.fm s.b5 (s.cj-s.lm+1)))
def Hs(d:cC)(s:h3)(w:S7)(e:Ending)(w':S7):Prop:=∃(v:S9) (c:TX) (m:Nat),e=.returned (.tuple #[v,ah 0])/\c.Perm (qk d s)/\w.heap.size<=m/\
 w'.ownsRow m 3 1 v c.length ((c.mergeSort (λx y=>decide (x<=y))).map encZ)/\(v=.slice none 0 0↔c = [])/\w.grownBy w' none
def QM[S:Std A][P:hA A]{d:cC}(ok:d.ok){p:eg}{T:Nat}(s:h3)(f:s.ok d)(h:e' w d p)(l:w.heap.size<=T)(n:w3.heap[T]?=some (.cells (nD d p) 132))(m:w.grownBy w3 none):
 Calls (ao A) 38 #[Tj T,.agg s.a] w3 λe w'=>∃(v:S9) (i:TX),e=.returned v/\i.Perm (qk d s)/\
  w'.ownsRow w3.heap.size 3 1 v i.length ((i.mergeSort (λx y=>decide (x<=y))).map encZ)/\(v=.slice none 0 0↔i = [])/\w.grownBy w' none:=by
 have x:=sO ok h l n m;have o:=ok.kinds;have q:=f.f;have hF:=f.hF;have k:=A6 (A:=A) (pg ok x.2.2.1 x.2.2.2) (k:=s.k) f.k U (bj:=cX d s.k) (λday=>by have:=ql ok f.k day;omega) (rk ok x.2.2.1 x.2.1 f.k) s.lm s.cj s.fm s.b5 f.l f.bE f.hF U w3 x.1;rw[pT f.k]at k;refine k.mono ?_;rintro e w' ⟨v,i,rfl,a,b,c,j,g⟩;exact⟨v,i,S6,a,b,c,kH m g l⟩
def Ht[S:Std A][P:hA A](d:cC)(ok:d.ok)(p:eg)(w:S7)(h:e' w d p)(s:h3)(B:s.ok d):
 Calls (ao A) 17 #[.agg (dv d p),.agg s.a] w (Hs d s w):=by
 have l:=(dU w (.cells (dv d p) 25) none).trans (dU _ (.cells s.a 52) none);have u:=h.keep l;have F:=al λ(w2:S7) (j:((w.alloc (.cells (dv d p) 25)).alloc (.cells s.a 52)).grownBy w2 none) (b c:Nat) (g:w2.heap[b]?=some (.cells s.a 52))=>Ac (A:=A) d ok p w2 (u.keep j) b 0 1 c U (λ_=>s) (A3 s g) (λi Q=>B)
 have n:=al l;have G:=al λ(T:Nat) (w3:S7) (a':w.heap.size<=T) (g:w3.heap[T]?=some (.cells (nD d p) 132)) (j:w.grownBy w3 none)=>QM (A:=A) (w3:=w3) ok s B h a' g j
 have r:((w.alloc (.cells (dv d p) 25)).alloc (.cells s.a 52)).heap[w.heap.size+1]?=some (.cells s.a 52):=by rw[show w.heap.size+1=(w.alloc (.cells (dv d p) 25)).heap.size by simp];exact fM _ _
 have D:=al r;clear h u l r;go_enter (S.f func17),ntmps17;go_wp2_with (first|(go_at_call 37;refine(F.out _ bT (w.heap.size+1+1) 1 (zx _ _ _ _)).mono ?_;rintro e w3 ⟨T,rfl,a',g,j⟩;have m:=(dU _ _ none).trans j;have f:=(m.block (w.heap.size+1) aF aF).trans D.out;have V:=aU (o:=0) f;have W:=aU (o:=1) f;have X:=aU (o:=2) f;have Y:=aU (o:=3) f;have Z:=aU (o:=4) f;have z:=n.out.trans m;have y:w.heap.size<=T:=by{simp at a';omega};have E:=al g;have q:=al z;have H:=al y;clear g j m a' y z f)|(go_at_call 38;refine(G.out T _ H.out E.out q.out).mono ?_;rintro e R ⟨v,M,rfl,q1,C,K,L⟩;have J:=al C;have I:=al q1;clear q1 C))
 go_ret2
 exact⟨v,M,w3.heap.size,S6,I.out,by have:=n.out.size;have:=q.out.size;omega,J.out,K,L⟩
abbrev qL(bY c:Int)(s:Ta):Te:=#[ah bY,ah c,.bool s]
def Gt(bY:Int)(s:Ta)(n:Int):Int:=if s then min bY n else n
def Gs(c:Int)(s:Ta)(n:Int):Int:=if s then max c n else n
def Q2[S:Std A](b:Nat)(bY c n:Int)(w:S7)(h:w.heap[b]?=some (.cells (qL bY c true) 99)):
 Calls (ao A) 41 #[Tj b,ah n] w λe w'=>e=.returned (.tuple #[])/\w'.heap[b]?=some (.cells (qL (min bY n) (max c n) true) 99)/\w.grownBy w' (some b):=by
 have d:=aU (o:=0) h;have f:=aU (o:=1) h;have g:=aU (o:=2) h;have f0:=b3 (o:=0) h;have f1:=b3 (o:=1) h;go_enter (S.f func41),ntmps41;go_wp2;go_region
 go_end0;refine⟨S6,?_,gv (e7 (e7 (e6 _ _)))⟩;rw[oL,cU (cU h)];rfl
def Q1[S:Std A](b:Nat)(bY c n:Int)(w:S7)(h:w.heap[b]?=some (.cells (qL bY c false) 99)):
 Calls (ao A) 41 #[Tj b,ah n] w λe w'=>e=.returned (.tuple #[])/\w'.heap[b]?=some (.cells (qL n n true) 99)/\w.grownBy w' (some b):=by
 have d:=aU (o:=0) h;have f:=aU (o:=1) h;have g:=aU (o:=2) h;have f0:=b3 (o:=0) h;have f1:=b3 (o:=1) h;have f2:=b3 (o:=2) h;go_enter (S.f func41),ntmps41;go_wp2;go_region
 go_end0;refine⟨S6,?_,gv (e7 (e7 (e7 (e7 (e7 (e6 _ _))))))⟩;rw[oL,cU (cU (cU (cU (cU h))))];rfl
def Gu[S:Std A](b:Nat)(bY c:Int)(s:Ta)(n:Int)(w:S7)(h:w.heap[b]?=some (.cells (qL bY c s) 99)):
 Calls (ao A) 41 #[Tj b,ah n] w λe w'=>e=.returned (.tuple #[])/\w'.heap[b]?=some (.cells (qL (Gt bY s n) (Gs c s n) true) 99)/\w.grownBy w' (some b):=by
 cases s with
 |true=>exact Q2 b bY c n w h
 |false=>exact Q1 b bY c n w h
def Fe{P:To}{fn:TF}{p q u:Tmp}{c:Tg}(h:fn.results=#[.cell p c,.cell q c,.tmp u])(tmps:Te)(w:S7)(g g':Nat)(t bh:Tg)(cs cs':Te)(fr bo:Nat×Nat)(d:TypeDesc)(hp:tmps.getD p undef=Tj g)(l:w.heap[g]?=some (.cells cs t fr))(r:tmps.getD q undef=Tj g')(m:w.heap[g']?=some (.cells cs' bh bo))(hu:P.underlying c=some d)(hd:(match d with |.struct _ |.array _ _=>true|_=>false)=true)(n:(P.info? c).map (·.size)=some cs.size)(o:(P.info? c).map (·.size)=some cs'.size)(v:S9)(y:tmps.getD u undef=v):
 (results fn tmps).run P w=.ok (.tuple #[.agg cs,.agg cs',v]) w:=by
 have f:tmps[p]?.getD undef=Tj g:=by simpa using hp
 have i:tmps[q]?.getD undef=Tj g':=by simpa using r
 have j:tmps[u]?.getD undef=v:=by simpa using y
 simp[results,h,f,i,j,asAddr,run_loadVar_row w g t c cs fr d l hu hd n,run_loadVar_row w g' bh c cs' bo d m hu hd o]
def jA(w:S7)(o:Obj)(i:Nat)(h:i=w.heap.size):(w.alloc o).heap[i]?=some o:=by subst h;exact heap_alloc_new w o
def K2(w:S7)(a b c d e:Obj):(((((w.alloc a).alloc b).alloc c).alloc d).alloc e).heap[w.heap.size+1]?=some b/\(((((w.alloc a).alloc b).alloc c).alloc d).alloc e).heap[w.heap.size+1+1]?=some c/\(((((w.alloc a).alloc b).alloc c).alloc d).alloc e).heap[w.heap.size+1+1+1]?=some d/\(((((w.alloc a).alloc b).alloc c).alloc d).alloc e).heap[w.heap.size+1+1+1+1]?=some e:=by
 refine⟨?_,?_,?_,?_⟩
 .rw[dm (by simp only[cV];omega),dm (by simp only[cV];omega),dm (by simp only[cV];omega),jA _ _ _ (by simp only[cV])]
 .rw[dm (by simp only[cV];omega),dm (by simp only[cV];omega),jA _ _ _ (by simp only[cV])]
 .rw[dm (by simp only[cV];omega),jA _ _ _ (by simp only[cV])]
 .rw[jA _ _ _ (by simp only[cV])]
def tQ{c:Te}{e:Tg}(h:w.heap[b]?=some (.cells c e))(o:Nat)(x y z:Obj):(((w.alloc x).alloc y).alloc z).cell? (S8 b o)=c[o]?:=by have d:=bu h;refine aU (e:=e) (f:=(0,0)) ?_;rw[dm (by simp only[cV];omega),dm (by simp only[cV];omega),dm d,h]
def xJ:((ao A).info? 50).map (·.size)=some 2:=av
structure j9 where
 bY:Int
 ad:Int
 s:Ta
def j9.none:j9:=⟨0,0,false⟩
def j9.take(x:j9)(n:Int):j9:=⟨Gt x.bY x.s n,Gs x.ad x.s n,true⟩
abbrev j9.a(x:j9):Te:=qL x.bY x.ad x.s
def wH(f:Int)(bj:Ty)(cm:Int)(D:j9×j9)(x:fT):j9×j9:=if k0 f bj x=cm then(D.1.take x.1.1,D.2.take x.1.2)else D
def jZ(f:Int)(bj:Ty)(cm:Int)(pre:Tb fT):j9×j9:=pre.foldl (wH f bj cm) (j9.none,j9.none)
def Dl(f:Int)(bj:Ty)(cm:Int)(pre:Tb fT)(x:fT):jZ f bj cm (pre++[x])=wH f bj cm (jZ f bj cm pre) x:=by simp[jZ]
structure kT(bf:TQ)(T k:Nat)(s:h3)(cm:Int)(f:Int)(bj:Ty)(w:S7)(m:Nat)(pre:Tb fT)(W:S7):Prop where
 t4:W.cell? (Ti (w.heap.size+1))=Tn k
 t5:W.cell? (Ti (w.heap.size+1+1))=Tn cm
 t6:W.heap[w.heap.size+1+1+1]?=some (.cells #[ah 0,ah 0] 50)
 t7:W.heap[w.heap.size+1+1+1+1]?=some (.cells #[ah 0,ah 0] 50)
 t9:W.cell? (Ti m)=some (Tj T)
 t11:W.heap[m+1]?=some (.cells (jZ f bj cm pre).1.a 99)
 t12:W.heap[m+1+1]?=some (.cells (jZ f bj cm pre).2.a 99)
 j:bf W
 fY:w.grownBy W none
 dD:m+1+1+1+1<=W.heap.size
 uA:w.heap.size+5<=m
 x3:w.heap.size+5<=T/\T<m
def kT.step{T:Nat}{cm f:Int}{bj:Ty}{m:Nat}{pre:Tb fT}{d':S7}{row:TN}(h:kT g T k s cm f bj w m pre W)(c:W.grownBy d' row)(i:∀r,row=some r->r=T\/m+4<=r)(n:g d'):kT g T k s cm f bj w m pre d':=by
 have o:=h.uA;have l:=h.x3;have p:=h.dD;have d:∀b,(w.heap.size+1<=b/\b<w.heap.size+5)\/(m<=b/\b<m+4)->some b≠row:=λb j e=>by rcases i b e.symm with rfl|ax<;>omega
 have lt:∀b,(w.heap.size+1<=b/\b<w.heap.size+5)\/(m<=b/\b<m+4)->b<W.heap.size:=λb j=>U
 refine⟨c.cell h.t4 (d _ dT),c.cell h.t5 (d _ dT),(c.block _ (lt _ U) (d _ U)).trans h.t6,(c.block _ (lt _ U) (d _ U)).trans h.t7,c.cell h.t9 (d _ dT),
  (c.block _ (lt _ U) (d _ U)).trans h.t11,(c.block _ (lt _ U) (d _ U)).trans h.t12,n,?_,cL h.dD c.size,o,l⟩
 cases row with
 |none=>exact h.fY.trans c
 |some r=>exact kH h.fY c (by rcases i r rfl with rfl|ax<;>omega)
def kT.told{l:TQ}{T:Nat}{cm f:Int}{bj:Ty}{m:Nat}{pre:Tb fT}{x:fT}{n:S7}(h:kT l T k s cm f bj w m pre W)(E:k0 f bj x=cm)(y:n.heap[m+1]?=some (.cells ((jZ f bj cm pre).1.take x.1.1).a 99))(j:W.grownBy n (some (m+1)))(z:c.heap[m+1+1]?=some (.cells ((jZ f bj cm pre).2.take x.1.2).a 99))(d:n.grownBy c (some (m+1+1)))(C:l c):kT l T k s cm f bj w m (pre++[x]) c:=by
 have D:=h.uA;have B:=h.x3;have G:=h.dD;have F:=j.size;have i:∀b r:Nat,b≠r->some b≠some r:=λb r g e=>g (bD e)
 have TK:∀b o,b<W.heap.size->b≠m+1->b≠m+1+1->W.heap[b]?=some o->c.heap[b]?=some o:=λb o u g q e=>(d.block b U (i _ _ q)).trans ((j.block b u (i _ _ g)).trans e)
 have p:∀a v,a.block≠m+1->a.block≠m+1+1->W.cell? a=some v->c.cell? a=some v:=λa v g q e=>d.cell (j.cell e (i _ _ g)) (i _ _ q)
 have e:jZ f bj cm (pre++[x])=((jZ f bj cm pre).1.take x.1.1,(jZ f bj cm pre).2.take x.1.2):=by rw[Dl,wH,Tq E]
 refine⟨p _ _ dT dT h.t4,p _ _ dT dT h.t5,TK _ _ U U U h.t6,TK _ _ U U U h.t7,p _ _ dT dT h.t9,?_,?_,C,
  kH (kH h.fY j U) d U,cL h.dD (cL F d.size),D,B⟩
 .rw[e]
  exact(d.block _ U (i _ _ U)).trans y
 .rw[e]
  exact z
def kT.untold{c:TQ}{T:Nat}{cm f:Int}{bj:Ty}{m:Nat}{pre:Tb fT}{x:fT}(h:kT c T k s cm f bj w m pre W)(d:k0 f bj x≠cm):kT c T k s cm f bj w m (pre++[x]) W:=by
 have e:jZ f bj cm (pre++[x])=jZ f bj cm pre:=by rw[Dl,wH,Tm d]
 exact⟨h.t4,h.t5,h.t6,h.t7,h.t9,by rw[e];exact h.t11,by rw[e];exact h.t12,h.j,h.fY,h.dD,h.uA,h.x3⟩
def Dk(w:S7)(a b c d:Obj):((((w.alloc a).alloc b).alloc c).alloc d).heap[w.heap.size]?=some a/\((((w.alloc a).alloc b).alloc c).alloc d).heap[w.heap.size+1]?=some b/\((((w.alloc a).alloc b).alloc c).alloc d).heap[w.heap.size+1+1]?=some c/\((((w.alloc a).alloc b).alloc c).alloc d).heap[w.heap.size+1+1+1]?=some d:=by
 refine⟨?_,?_,?_,?_⟩
 .rw[dm (by simp only[cV];omega),dm (by simp only[cV];omega),dm (by simp only[cV];omega),jA _ _ _ S6]
 .rw[dm (by simp only[cV];omega),dm (by simp only[cV];omega),jA _ _ _ (by simp only[cV])]
 .rw[dm (by simp only[cV];omega),jA _ _ _ (by simp only[cV])]
 .rw[jA _ _ _ (by simp only[cV])]
def Di(w:S7)(a b c d:Obj):w.grownBy ((((w.alloc a).alloc b).alloc c).alloc d) none:=(((dU w _ _).trans bT).trans bT).trans bT
def kT.init{i:TQ}{T:Nat}{cm:Nat}{f:Int}{bj:Ty}{o:Obj}(r:c.heap.size=w.heap.size+5)(l:w.grownBy c none)(d:c.heap[w.heap.size+1]?=some (.cells s.a 52)/\c.heap[w.heap.size+1+1]?=some (.cells #[ah cm] 3)/\c.heap[w.heap.size+1+1+1]?=some (.cells #[ah 0,ah 0] 50)/\c.heap[w.heap.size+1+1+1+1]?=some (.cells #[ah 0,ah 0] 50))(n:c.heap.size<=T)(p:T<w3.heap.size)(h:c.grownBy w3 none)(m:i ((((w3.alloc (.cells #[Tj T] 71)).alloc (.cells #[ah 0,ah 0,.bool false] 99)).alloc (.cells #[ah 0,ah 0,.bool false] 99)).alloc o)):
 kT i T s.k s cm f bj w w3.heap.size [] ((((w3.alloc (.cells #[Tj T] 71)).alloc (.cells #[ah 0,ah 0,.bool false] 99)).alloc (.cells #[ah 0,ah 0,.bool false] 99)).alloc o):=by
 have j:=Di w3 (.cells #[Tj T] 71) (.cells #[ah 0,ah 0,.bool false] 99) (.cells #[ah 0,ah 0,.bool false] 99) o;have g:=Dk w3 (.cells #[Tj T] 71) (.cells #[ah 0,ah 0,.bool false] 99) (.cells #[ah 0,ah 0,.bool false] 99) o;have q:=h.size;have TK:∀b x,b<c.heap.size->c.heap[b]?=some x->((((w3.alloc (.cells #[Tj T] 71)).alloc (.cells #[ah 0,ah 0,.bool false] 99)).alloc (.cells #[ah 0,ah 0,.bool false] 99)).alloc o).heap[b]?=some x:=λb x d e=>(j.block b U aF).trans ((h.block b d aF).trans e)
 refine⟨aU (TK _ _ U d.1),aU (TK _ _ U d.2.1),TK _ _ U d.2.2.1,TK _ _ U d.2.2.2,aU g.1,g.2.1,g.2.2.1,m,(l.trans h).trans j,aF,U,U⟩
def Gi{c d:Nat}{x y:Te}(h:W.heap[c]?=some (.cells x 50))(i:W.heap[d]?=some (.cells y 50))(E:x.size=2)(F:y.size=2)(f:c≠d)(n:w.heap.size<=c)(r:w.heap.size<=d)(g:w.grownBy W none)(v0 v1 v2 v3:S9):
 ((((W.setCell (Ti c) v0).setCell (S8 c 1) v1).setCell (Ti d) v2).setCell (S8 d 1) v3).heap[c]?=some (.cells #[v0,v1] 50)/\((((W.setCell (Ti c) v0).setCell (S8 c 1) v1).setCell (Ti d) v2).setCell (S8 d 1) v3).heap[d]?=some (.cells #[v2,v3] 50)/\
 (∀(D:Nat) (o:TI (Tb Deferred)),W.heap[D]?=some (Obj.deferred o)->((((W.setCell (Ti c) v0).setCell (S8 c 1) v1).setCell (Ti d) v2).setCell (S8 d 1) v3).heap[D]?=some (Obj.deferred o))/\w.grownBy ((((W.setCell (Ti c) v0).setCell (S8 c 1) v1).setCell (Ti d) v2).setCell (S8 d 1) v3) none:=by
 have mf:=cU (o:=1) (v:=v1) (cU (o:=0) (v:=v0) h);have C:((W.setCell (Ti c) v0).setCell (S8 c 1) v1).heap[d]?=some (.cells y 50):=by rw[e1 f.symm,e1 f.symm,i]
 have m:=cU (o:=1) (v:=v3) (cU (o:=0) (v:=v2) C);have two:∀(z:Te) (p q:S9),z.size=2->(z.setIfInBounds 0 p).setIfInBounds 1 q=#[p,q]:=λz p q G=>by
  obtain⟨l⟩:=z;match l,G with
  | [_,_],_=>rfl
 rw[two _ _ _ F]at m;rw[two _ _ _ E]at mf;refine⟨by rw[e1 f,e1 f,mf],m,λD o j=>?_,lW (lW (lW (lW g n) n) r) r⟩;have u:D≠c:=λe=>by subst e;rw[j]at h;simp at h
 have B:D≠d:=λe=>by subst e;rw[j]at i;simp at i
 rw[e1 B,e1 B,e1 u,e1 u,j]
def wI(D:j9×j9):S9:=if D.1.s then .tuple #[.agg #[ah D.1.bY,ah D.1.ad],.agg #[ah D.2.bY,ah D.2.ad],ah 0]else .tuple #[.agg #[ah 0,ah 0],.agg #[ah 0,ah 0],ah 11]
end
end Go.aO
