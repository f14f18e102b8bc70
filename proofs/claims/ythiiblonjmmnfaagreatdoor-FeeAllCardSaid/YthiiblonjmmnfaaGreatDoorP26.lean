/- Part 27 of a law on fees: no conditions. -/
import Derived.Test.YthiiblonjmmnfaaGreatDoorP22
import Derived.Test.YthiiblonjmmnfaaGreatDoorP25
set_option maxHeartbeats 8000000
set_option maxRecDepth 100000
set_option linter.all false
namespace Go.aN
open Go.Proofs Go.RowKit Go.Maps Go.Shelf
def yI{A:Array Func}[S:Std A]{g:World->Prop}{T B l E j eT:Nat}{first:Nat->Int}(K:nK g T B l E j eT first){k:Nat}(r:k<j)(z:j<=1000){ba:Nat->Int}(p:∀d,0<=ba d/\ba d<=1000000)(C:nJ A g T k ba)(f c fm h:Nat)(u:f<=c)(o:c<120)(q:h<120)(hm:fm<120)(w:World)(D:g w):
 Calls (ag A) 23 #[.pointer (some ⟨T,0,none⟩),.agg #[.int .i64 k,.int .i64 f,.int .i64 c,.int .i64 fm,.int .i64 h]] w λe w'=>∃(v:Value) (i:List Int),e=.returned v/\i.Perm (intKeys (lf (first k) ba (gy f fm h (c-f+1))))/\
  w'.ownsRow w.heap.size 3 1 v i.length ((i.mergeSort (λx y=>decide (x<=y))).map encZ)/\(v=.slice none 0 0↔i = [])/\g w'/\w.grownBy w' (some T):=
 callsIn_wide.1 (Nn K r z p C f c fm h u o q hm w D)
def vM(T:Nat)(w:World):Prop:=w.heap[T]?=some (.cells #[ad 2,sl (T+1) 2] 105 (0,2))/\w.heap[T+1]?=some (.cells #[ad 2,ad 1] 3 (0,2))
def r8:Nat->Int
 | 0=>2
 |_=>1
def sY:Nat->Int
 | 0=>1
 | 1=>1
 | 2=>3
 | 3=>0
 |_=>3
def NF(T:Nat):nK (vM T) T (T+2) (T+1) 0 2 2 r8 where
 lt:=⟨by omega,by omega⟩
 keep:=λw w' row h c d=>by have f:=bp h.1;have g:=bp h.2;exact⟨(c.block T f (λe=>by have:=d T e.symm;omega)).trans h.1,(c.block (T+1) g (λe=>by have:=d (T+1) e.symm;omega)).trans h.2⟩
 size:=λw h=>by have:=bp h.2;omega
 mn:=λw h=>by simp[World.cell?,h.1]
 cell:=λw h k i=>by
  rcases k with _|_|k
  .simp[World.cell?,h.2,r8]
  .simp[World.cell?,h.2,r8]
  .omega
 gw:=λk=>by rcases k with _|k<;>simp[r8]
def EZ(T:Nat)(w:World):Sem.run (bq T) (binOp .eql 16 (.pointer (some ⟨T,0,none⟩)) (.pointer (some ⟨T,0,none⟩))) w=.ok (.bool true) w:=by
 have e:=Al (T:=T) w;have c:Sem.run (bq T) (Op.equal 16 (pt T) (pt T)) w=.ok true w:=by rw[<-Sem.runT_fst (bq T) _ w #[],e]
 show Sem.run (bq T) ((Op.equal 16 (pt T) (pt T)).bind λb=>(pure (Value.bool b):Sem Value)) w=_;rw[Pt,c];rfl
def Nh(T:Nat)(w:World):Calls (bq T) 37 #[.pointer (some ⟨T,0,none⟩),.int .i64 0] w λe w'=>e=.returned gX/\w=w':=by
 have c:=EZ T;go_enter (show(bq T).funcs[37]?=some (bq.pI T) by kernel_rfl),(show(bq.pI T).ntmps=18 from rfl)
 unfold vm;go_wp2;go_ret;exact⟨rfl,rfl⟩
def KG(T:Nat):nJ (bq.list T).toArray (vM T) T 0 sY:=λw c=>
 (Nh T w).mono λe w' h=>⟨h.1,h.2 ▸ c,h.2 ▸ ⟨rfl,rfl,rfl,Pk,λ_ _ _=>rfl⟩⟩
def H6:intKeys (lf (r8 0) sY (gy 20 46 50 (26-20+1))) = [2,3,5,6]:=by kernel_rfl
def LM{d:List Int}(h:d.Perm [2,3,5,6]):d.mergeSort (λx y=>decide (x<=y)) = [2,3,5,6]:=by refine List.Perm.eq_of_pairwise (le:=λx y=>decide (x<=y)=true) (λa b _ _ f g=>by simp at f g;omega) (List.pairwise_mergeSort (λa b c f g=>by simp at *;omega) (λa b=>by simp;omega) d) (by decide) ?_;exact(List.mergeSort_perm d _).trans h
def AQ(T:Nat)(w:World)(h:w.heap=l6 T)(_:w.drawn=0):Calls (bq T) 23 #[pt T,.agg c8] w λe w'=>∃v,e=.returned v/\vU v w':=by
 have q:vM T w:=⟨by rw[h];exact vE T,by rw[h];exact vD T⟩
 have l:∀d,0<=sY d/\sY d<=1000000:=λd=>by rcases d with _|_|_|_|d<;>simp[sY]
 have:=yI (A:=(bq.list T).toArray) (NF T) (k:=0) (by omega) (by omega) l (KG T) 20 26 46 50 (by omega) (by omega) (by omega) (by omega) w q;refine Calls.mono this λe w' ⟨v,r,he,c,f,B,_,_⟩=>⟨v,he,?_⟩
 rw[H6]at c;rw[LM c]at f;have p:r.length=4:=c.length_eq;rw[p]at f;obtain⟨_,hd|⟨g,cap,cur,rfl,_,o,u,_,z,j⟩⟩:=f
 .exact absurd hd.2 (by omega)
 .have i:cur.toList = [ad 2,ad 3,ad 5,ad 6]++cur.toList.drop 4:=by rw[<-List.take_append_drop 4 cur.toList,show cur.toList.take 4 = [ad 2,ad 3,ad 5,ad 6]from j,List.drop_append];simp
  refine⟨g,cap,(cur.toList.drop 4).toArray,rfl,?_,?_⟩
  .rw[o]
   congr 2;apply Array.toList_inj.1;rw[Array.toList_append];exact i
  .simp
   omega
noncomputable def yN(T:Nat)(c:(bq T).globals.size<=T):dJ:=xE T c (AQ T)
def NN(T:Nat)(c:(bq T).globals.size<=T)(b:Nat)(h:hR (yN T c).Q=some b):b=(yN T c).ha/\b=T:=I6 T c (AQ T) b h
section
variable{A:Array Func}
def Ey[S:Std A](w:World)(cH b8 f0:Int)(g:0<=cH/\cH<=b8)(b c:Nat)(d:w.heap[b]?=some (.cells #[.int .i64 cH,.int .i64 b8,.int .i64 f0] 108)):
 Calls (ag A) 35 #[.slice (some ⟨b,0,none⟩) 1 c] w λe w'=>e=.returned .nilIface/\w.grownBy w' none:=by
 refine tz b 0 1 c (by omega) w (λ_=>cH) (λ_=>b8) (λ_=>f0) (λi f=>?_) (λi f=>?_) (λi f=>?_) (λi f=>g)
 .rw[aT d];rcases i with _|i<;>first|rfl|omega
 .rw[aT d];rcases i with _|i<;>first|rfl|omega
 .rw[aT d];rcases i with _|i<;>first|rfl|omega
def xh(w:World)(a b o:Obj):(((w.alloc a).alloc b).alloc o).heap[w.heap.size+1+1]?=some o:=by rw[show w.heap.size+1+1=((w.alloc a).alloc b).heap.size by simp];exact gA _ _
def yF{w:World}{b:Nat}(s:gP)(h:w.heap[b]?=some (.cells s.a 32)):oW w b 0 1 (λ_=>s) where
 bu i c:=by rw[aT h];rcases i with _|i<;>first|rfl|omega
 c1 i c:=by rw[aT h];rcases i with _|i<;>first|rfl|omega
 c2 i c:=by rw[aT h];rcases i with _|i<;>first|rfl|omega
 c3 i c:=by rw[aT h];rcases i with _|i<;>first|rfl|omega
 c4 i c:=by rw[aT h];rcases i with _|i<;>first|rfl|omega
def BK[S:Std A][P:gg A](d:cR)(ok:d.ok)(p:dU)(w:World)(h:fy w d p)(b o n c:Nat)(U:n<=4)(f:Nat->gP)(F:oW w b o n f)(V:∀i,i<n->(f i).ok d)(b9:Nat)(ad:b9<=999):
 Calls (ag A) 43 #[.agg (cO d p),.slice (some ⟨b,o,none⟩) n c,.int .i64 b9] w (p' d p w):=by
 have j:=Pv w (.cells (cO d p) 27) none;have q:=h.keep j;have bP:=F.keep j;have I:=Pj (wB (A:=A) d ok p _ q);have Q:=Pj λ(w2:World) (g:(w.alloc (.cells (cO d p) 27)).grownBy w2 none)=>xT (A:=A) d ok p w2 (q.keep g) b o n c U f (bP.keep g) V
 have H:=Pj λ(w:World) (b c:Nat) l=>Ey (A:=A) w b9 999 3 (by omega) b c l
 have M:=Pj (tV (A:=A));have G:=Pj j;have aa:decide (4<(n:Int))=false:=by simp;omega
 clear h F q bP j;go_enter (S.f Tryz.func43),Tryz.ntmps43;go_wp2_with (first|(go_at_call 39;refine I.out.mono ?_;rintro e w2 ⟨rfl,r⟩;obtain⟨W,X,Y,Z,ae⟩:=wq r;have u:=Pj r;clear r)|(go_at_call 22;refine(Q.out _ u.out).mono ?_;rintro e w3 ⟨T,rfl,C,l,g⟩;have z:=Pj l;have J:=Pj g;have R:=Pj C;clear l g C)|(go_at_call 35;refine(H.out _ _ _ (gA _ _)).mono ?_;rintro e af ⟨rfl,D⟩;have K:=Pj D;clear D)|(go_at_call 36;refine(M.out _).mono ?_;rintro e ah ⟨rfl,E⟩;have L:=Pj E;clear E))
 go_ret2
 have B:=((Pv w3 _ none).trans K.out).trans L.out;refine⟨T,rfl,?_,(B.block T (bp z.out) (by simp)).trans z.out,(G.out.trans (u.out.trans J.out)).trans B⟩;have:=R.out;omega
def J5[S:Std A][P:gg A](d:cR)(ok:d.ok)(p:dU)(w:World)(h:fy w d p)(s:gP)(D:s.ok d)(b9:Nat)(C:b9<=999):
 Calls (ag A) 24 #[.agg (cO d p),.agg s.a,.int .i64 b9] w (p' d p w):=by
 have j:=(Pv w (.cells (cO d p) 27) none).trans (Pv _ (.cells s.a 32) none);have l:=h.keep j;have z:=Pj λ(w2:World) (g:((w.alloc (.cells (cO d p) 27)).alloc (.cells s.a 32)).grownBy w2 none) (b c:Nat) (f:w2.heap[b]?=some (.cells s.a 32))=>BK (A:=A) d ok p w2 (l.keep g) b 0 1 c (by omega) (λ_=>s) (yF s f) (λi E=>D) b9 C
 have q:=Pj j;clear h l j;go_enter (S.f Tryz.func24),Tryz.ntmps24;go_wp2_with (go_at_call 43;refine(z.out _ Pn (w.heap.size+1+1) 1 (xh _ _ _ _)).mono ?_;rintro e w3 ⟨T,rfl,o,f,g⟩;have r:=Pj f;have u:=Pj g;have B:=Pj o;clear f g o)
 go_ret2
 refine⟨T,rfl,?_,r.out,(q.out.trans Pn).trans u.out⟩;have:=B.out;simp at this;omega
end
section
variable{A:Array Func}
def oC(d:cR)(s:gP):List Int:=intKeys (lf (d.first s.k) (cC d s.k) (gy s.lm s.fm s.bN (s.bV-s.lm+1)))
def Ei(d:cR)(s:gP)(w:World)(e:Ending)(w':World):Prop:=∃(v:Value) (c:List Int) (m:Nat),e=.returned (.tuple #[v,.int .i64 0])/\c.Perm (oC d s)/\w.heap.size<=m/\
 w'.ownsRow m 3 1 v c.length ((c.mergeSort (λx y=>decide (x<=y))).map encZ)/\(v=.slice none 0 0↔c = [])/\w.grownBy w' none
def Nm[S:Std A][P:gg A]{d:cR}(ok:d.ok){p:dU}{T:Nat}{w w3:World}(s:gP)(f:s.ok d)(h:fy w d p)(l:w.heap.size<=T)(q:w3.heap[T]?=some (.cells (l4 d p) 105))(o:w.grownBy w3 none):
 Calls (ag A) 23 #[.pointer (some ⟨T,0,none⟩),.agg s.a] w3 λe w'=>∃(v:Value) (i:List Int),e=.returned v/\i.Perm (oC d s)/\
  w'.ownsRow w3.heap.size 3 1 v i.length ((i.mergeSort (λx y=>decide (x<=y))).map encZ)/\(v=.slice none 0 0↔i = [])/\w.grownBy w' none:=by
 have x:=qP ok h l q o;have r:=ok.kinds;have u:=f.f;have hF:=f.hF;have k:=yI (A:=A) (nx ok x.2.2.1 x.2.2.2) (k:=s.k) f.k (by omega) (ba:=cC d s.k) (λday=>by have:=oD ok f.k day;omega) (pD ok x.2.2.1 x.2.1 f.k) s.lm s.bV s.fm s.bN f.l f.bw f.hF (by omega) w3 x.1;rw[n0 f.k]at k;refine k.mono ?_;rintro e w' ⟨v,i,rfl,a,b,c,j,g⟩;exact⟨v,i,rfl,a,b,c,jq o g l⟩
def Ej[S:Std A][P:gg A](d:cR)(ok:d.ok)(p:dU)(w:World)(h:fy w d p)(s:gP)(E:s.ok d):
 Calls (ag A) 10 #[.agg (cO d p),.agg s.a] w (Ei d s w):=by
 have l:=(Pv w (.cells (cO d p) 27) none).trans (Pv _ (.cells s.a 32) none);have B:=h.keep l;have I:=Pj λ(w2:World) (j:((w.alloc (.cells (cO d p) 27)).alloc (.cells s.a 32)).grownBy w2 none) (b c:Nat) (g:w2.heap[b]?=some (.cells s.a 32))=>xT (A:=A) d ok p w2 (B.keep j) b 0 1 c (by omega) (λ_=>s) (yF s g) (λi V=>E)
 have r:=Pj l;have J:=Pj λ(T:Nat) (w3:World) (aZ:w.heap.size<=T) (g:w3.heap[T]?=some (.cells (l4 d p) 105)) (j:w.grownBy w3 none)=>Nm (A:=A) (w3:=w3) ok s E h aZ g j
 have z:((w.alloc (.cells (cO d p) 27)).alloc (.cells s.a 32)).heap[w.heap.size+1]?=some (.cells s.a 32):=by rw[show w.heap.size+1=(w.alloc (.cells (cO d p) 27)).heap.size by simp];exact gA _ _
 have G:=Pj z;clear h B l z;go_enter (S.f Tryz.func10),Tryz.ntmps10;go_wp2_with (first|(go_at_call 22;refine(I.out _ Pn (w.heap.size+1+1) 1 (xh _ _ _ _)).mono ?_;rintro e w3 ⟨T,rfl,aZ,g,j⟩;have q:=(Pv _ _ none).trans j;have f:=(q.block (w.heap.size+1) (by simp) (by simp)).trans G.out;have X:=aT (o:=0) f;have Y:=aT (o:=1) f;have Z:=aT (o:=2) f;have aa:=aT (o:=3) f;have ad:=aT (o:=4) f;have D:=r.out.trans q;have C:w.heap.size<=T:=by{simp at aZ;omega};have H:=Pj g;have u:=Pj D;have K:=Pj C;clear g j q aZ C D f)|(go_at_call 23;refine(J.out T _ K.out H.out u.out).mono ?_;rintro e W ⟨v,U,rfl,q1,F,Q,R⟩;have M:=Pj F;have L:=Pj q1;clear q1 F))
 go_ret2
 exact⟨v,U,w3.heap.size,rfl,L.out,by have:=r.out.size;have:=u.out.size;omega,M.out,Q,R⟩
end
section
variable{A:Array Func}
abbrev o0(b4 c:Int)(s:Bool):Array Value:=#[.int .i64 b4,.int .i64 c,.bool s]
def Dt(b4:Int)(s:Bool)(n:Int):Int:=if s then min b4 n else n
def Ds(c:Int)(s:Bool)(n:Int):Int:=if s then max c n else n
def NC[S:Std A](b:Nat)(b4 c n:Int)(w:World)(h:w.heap[b]?=some (.cells (o0 b4 c true) 73)):
 Calls (ag A) 26 #[.pointer (some ⟨b,0,none⟩),.int .i64 n] w λe w'=>e=.returned (.tuple #[])/\w'.heap[b]?=some (.cells (o0 (min b4 n) (max c n) true) 73)/\w.grownBy w' (some b):=by
 have d:=aT (o:=0) h;have f:=aT (o:=1) h;have g:=aT (o:=2) h;have f0:=b1 (o:=0) h;have f1:=b1 (o:=1) h;have f2:=b1 (o:=2) h;go_enter (S.f Tryz.func26),Tryz.ntmps26;go_wp2;go_region
 go_end0;refine⟨rfl,?_,fQ (et (et (Pw _ _)))⟩;rw[m3,cQ (cQ h)];rfl
def NB[S:Std A](b:Nat)(b4 c n:Int)(w:World)(h:w.heap[b]?=some (.cells (o0 b4 c false) 73)):
 Calls (ag A) 26 #[.pointer (some ⟨b,0,none⟩),.int .i64 n] w λe w'=>e=.returned (.tuple #[])/\w'.heap[b]?=some (.cells (o0 n n true) 73)/\w.grownBy w' (some b):=by
 have d:=aT (o:=0) h;have f:=aT (o:=1) h;have g:=aT (o:=2) h;have f0:=b1 (o:=0) h;have f1:=b1 (o:=1) h;have f2:=b1 (o:=2) h;go_enter (S.f Tryz.func26),Tryz.ntmps26;go_wp2;go_region
 go_end0;refine⟨rfl,?_,fQ (et (et (et (et (et (Pw _ _))))))⟩;rw[m3,cQ (cQ (cQ (cQ (cQ h))))];rfl
def Du[S:Std A](b:Nat)(b4 c:Int)(s:Bool)(n:Int)(w:World)(h:w.heap[b]?=some (.cells (o0 b4 c s) 73)):
 Calls (ag A) 26 #[.pointer (some ⟨b,0,none⟩),.int .i64 n] w λe w'=>e=.returned (.tuple #[])/\w'.heap[b]?=some (.cells (o0 (Dt b4 s n) (Ds c s n) true) 73)/\w.grownBy w' (some b):=by
 cases s with
 |true=>exact NC b b4 c n w h
 |false=>exact NB b b4 c n w h
end
section
variable{A:Array Func}
def Ci{P:Program}{fn:Func}{p q u:Tmp}{c:TypeId}(h:fn.results=#[.cell p c,.cell q c,.tmp u])(tmps:Array Value)(w:World)(g g':Nat)(t a':TypeId)(cs cs':Array Value)(fr bg:Nat×Nat)(d:TypeDesc)(B:tmps.getD p undef=.pointer (some ⟨g,0,none⟩))(l:w.heap[g]?=some (.cells cs t fr))(C:tmps.getD q undef=.pointer (some ⟨g',0,none⟩))(o:w.heap[g']?=some (.cells cs' a' bg))(hu:P.underlying c=some d)(hd:(match d with |.struct _ |.array _ _=>true|_=>false)=true)(r:(P.info? c).map (·.size)=some cs.size)(z:(P.info? c).map (·.size)=some cs'.size)(v:Value)(D:tmps.getD u undef=v):
 (results fn tmps).run P w=.ok (.tuple #[.agg cs,.agg cs',v]) w:=by
 have f:tmps[p]?.getD undef=.pointer (some ⟨g,0,none⟩):=by simpa using B
 have i:tmps[q]?.getD undef=.pointer (some ⟨g',0,none⟩):=by simpa using C
 have j:tmps[u]?.getD undef=v:=by simpa using D
 simp[results,h,f,i,j,asAddr,run_loadVar_row w g t c cs fr d l hu hd r,run_loadVar_row w g' a' c cs' bg d o hu hd z]
def h'(w:World)(o:Obj)(i:Nat)(h:i=w.heap.size):(w.alloc o).heap[i]?=some o:=by subst h;exact heap_alloc_new w o
def HQ(w:World)(a b c d e:Obj):(((((w.alloc a).alloc b).alloc c).alloc d).alloc e).heap[w.heap.size+1]?=some b/\(((((w.alloc a).alloc b).alloc c).alloc d).alloc e).heap[w.heap.size+1+1]?=some c/\(((((w.alloc a).alloc b).alloc c).alloc d).alloc e).heap[w.heap.size+1+1+1]?=some d/\(((((w.alloc a).alloc b).alloc c).alloc d).alloc e).heap[w.heap.size+1+1+1+1]?=some e:=by
 refine⟨?_,?_,?_,?_⟩
 .rw[Pq (by simp only[Pp];omega),Pq (by simp only[Pp];omega),Pq (by simp only[Pp];omega),h' _ _ _ (by simp only[Pp])]
 .rw[Pq (by simp only[Pp];omega),Pq (by simp only[Pp];omega),h' _ _ _ (by simp only[Pp])]
 .rw[Pq (by simp only[Pp];omega),h' _ _ _ (by simp only[Pp])]
 .rw[h' _ _ _ (by simp only[Pp])]
def rU{w:World}{b:Nat}{c:Array Value}{e:TypeId}(h:w.heap[b]?=some (.cells c e))(o:Nat)(x y z:Obj):(((w.alloc x).alloc y).alloc z).cell? ⟨b,o,none⟩=c[o]?:=by have d:=bp h;refine aT (e:=e) (f:=(0,0)) ?_;rw[Pq (by simp only[Pp];omega),Pq (by simp only[Pp];omega),Pq d,h]
def va:((ag A).info? 30).map (·.size)=some 2:=by kernel_rfl
structure iR where
 b4:Int
 aj:Int
 s:Bool
def iR.none:iR:=⟨0,0,false⟩
def iR.take(x:iR)(n:Int):iR:=⟨Dt x.b4 x.s n,Ds x.aj x.s n,true⟩
abbrev iR.a(x:iR):Array Value:=o0 x.b4 x.aj x.s
def uk(f:Int)(ba:Nat->Int)(b9:Int)(D:iR×iR)(x:e1):iR×iR:=if jI f ba x=b9 then(D.1.take x.1.1,D.2.take x.1.2)else D
def iG(f:Int)(ba:Nat->Int)(b9:Int)(pre:List e1):iR×iR:=pre.foldl (uk f ba b9) (iR.none,iR.none)
def AS(f:Int)(ba:Nat->Int)(b9:Int)(pre:List e1)(x:e1):iG f ba b9 (pre++[x])=uk f ba b9 (iG f ba b9 pre) x:=by simp[iG]
structure jB(a8:World->Prop)(T k:Nat)(s:gP)(b9:Int)(f:Int)(ba:Nat->Int)(w:World)(m:Nat)(pre:List e1)(W:World):Prop where
 t4:W.cell? ⟨w.heap.size+1,0,none⟩=some (.int .i64 k)
 t5:W.cell? ⟨w.heap.size+1+1,0,none⟩=some (.int .i64 b9)
 t6:W.heap[w.heap.size+1+1+1]?=some (.cells #[.int .i64 0,.int .i64 0] 30)
 t7:W.heap[w.heap.size+1+1+1+1]?=some (.cells #[.int .i64 0,.int .i64 0] 30)
 t9:W.cell? ⟨m,0,none⟩=some (.pointer (some ⟨T,0,none⟩))
 t11:W.heap[m+1]?=some (.cells (iG f ba b9 pre).1.a 73)
 t12:W.heap[m+1+1]?=some (.cells (iG f ba b9 pre).2.a 73)
 j:a8 W
 e4:w.grownBy W none
 dm:m+1+1+1+1<=W.heap.size
 sr:w.heap.size+5<=m
 vs:w.heap.size+5<=T/\T<m
def jB.step{g:World->Prop}{T k:Nat}{s:gP}{b9 f:Int}{ba:Nat->Int}{w:World}{m:Nat}{pre:List e1}{W dt:World}{row:Option Nat}(h:jB g T k s b9 f ba w m pre W)(c:W.grownBy dt row)(i:∀r,row=some r->r=T\/m+4<=r)(o:g dt):jB g T k s b9 f ba w m pre dt:=by
 have p:=h.sr;have l:=h.vs;have q:=h.dm;have d:∀b,(w.heap.size+1<=b/\b<w.heap.size+5)\/(m<=b/\b<m+4)->some b≠row:=λb j e=>by rcases i b e.symm with rfl|ax<;>omega
 have lt:∀b,(w.heap.size+1<=b/\b<w.heap.size+5)\/(m<=b/\b<m+4)->b<W.heap.size:=λb j=>by omega
 refine⟨c.cell h.t4 (d _ (by dsimp only;omega)),c.cell h.t5 (d _ (by dsimp only;omega)),(c.block _ (lt _ (by omega)) (d _ (by omega))).trans h.t6,(c.block _ (lt _ (by omega)) (d _ (by omega))).trans h.t7,c.cell h.t9 (d _ (by dsimp only;omega)),
  (c.block _ (lt _ (by omega)) (d _ (by omega))).trans h.t11,(c.block _ (lt _ (by omega)) (d _ (by omega))).trans h.t12,o,?_,Po h.dm c.size,p,l⟩
 cases row with
 |none=>exact h.e4.trans c
 |some r=>exact jq h.e4 c (by rcases i r rfl with rfl|ax<;>omega)
def jB.told{l:World->Prop}{T k:Nat}{s:gP}{b9 f:Int}{ba:Nat->Int}{w:World}{m:Nat}{pre:List e1}{x:e1}{W p c:World}(h:jB l T k s b9 f ba w m pre W)(H:jI f ba x=b9)(C:p.heap[m+1]?=some (.cells ((iG f ba b9 pre).1.take x.1.1).a 73))(j:W.grownBy p (some (m+1)))(D:c.heap[m+1+1]?=some (.cells ((iG f ba b9 pre).2.take x.1.2).a 73))(d:p.grownBy c (some (m+1+1)))(F:l c):jB l T k s b9 f ba w m (pre++[x]) c:=by
 have G:=h.sr;have E:=h.vs;have J:=h.dm;have I:=j.size;have i:∀b r:Nat,b≠r->some b≠some r:=λb r g e=>g (Pm e)
 have z:∀b o,b<W.heap.size->b≠m+1->b≠m+1+1->W.heap[b]?=some o->c.heap[b]?=some o:=λb o B g u e=>(d.block b (by omega) (i _ _ u)).trans ((j.block b B (i _ _ g)).trans e)
 have q:∀a v,a.block≠m+1->a.block≠m+1+1->W.cell? a=some v->c.cell? a=some v:=λa v g u e=>d.cell (j.cell e (i _ _ g)) (i _ _ u)
 have e:iG f ba b9 (pre++[x])=((iG f ba b9 pre).1.take x.1.1,(iG f ba b9 pre).2.take x.1.2):=by rw[AS,uk,if_pos H]
 refine⟨q _ _ (by dsimp only;omega) (by dsimp only;omega) h.t4,q _ _ (by dsimp only;omega) (by dsimp only;omega) h.t5,z _ _ (by omega) (by omega) (by omega) h.t6,z _ _ (by omega) (by omega) (by omega) h.t7,q _ _ (by dsimp only;omega) (by dsimp only;omega) h.t9,?_,?_,F,
  jq (jq h.e4 j (by omega)) d (by omega),Po h.dm (Po I d.size),G,E⟩
 .rw[e]
  exact(d.block _ (by omega) (i _ _ (by omega))).trans C
 .rw[e]
  exact D
def jB.untold{c:World->Prop}{T k:Nat}{s:gP}{b9 f:Int}{ba:Nat->Int}{w:World}{m:Nat}{pre:List e1}{x:e1}{W:World}(h:jB c T k s b9 f ba w m pre W)(d:jI f ba x≠b9):jB c T k s b9 f ba w m (pre++[x]) W:=by
 have e:iG f ba b9 (pre++[x])=iG f ba b9 pre:=by rw[AS,uk,if_neg d]
 exact⟨h.t4,h.t5,h.t6,h.t7,h.t9,by rw[e];exact h.t11,by rw[e];exact h.t12,h.j,h.e4,h.dm,h.sr,h.vs⟩
def AR(w:World)(a b c d:Obj):((((w.alloc a).alloc b).alloc c).alloc d).heap[w.heap.size]?=some a/\((((w.alloc a).alloc b).alloc c).alloc d).heap[w.heap.size+1]?=some b/\((((w.alloc a).alloc b).alloc c).alloc d).heap[w.heap.size+1+1]?=some c/\((((w.alloc a).alloc b).alloc c).alloc d).heap[w.heap.size+1+1+1]?=some d:=by
 refine⟨?_,?_,?_,?_⟩
 .rw[Pq (by simp only[Pp];omega),Pq (by simp only[Pp];omega),Pq (by simp only[Pp];omega),h' _ _ _ rfl]
 .rw[Pq (by simp only[Pp];omega),Pq (by simp only[Pp];omega),h' _ _ _ (by simp only[Pp])]
 .rw[Pq (by simp only[Pp];omega),h' _ _ _ (by simp only[Pp])]
 .rw[h' _ _ _ (by simp only[Pp])]
def AP(w:World)(a b c d:Obj):w.grownBy ((((w.alloc a).alloc b).alloc c).alloc d) none:=(((Pv w _ _).trans Pn).trans Pn).trans Pn
def jB.init{j:World->Prop}{T:Nat}{s:gP}{b9:Nat}{f:Int}{ba:Nat->Int}{w c w3:World}{o:Obj}(B:c.heap.size=w.heap.size+5)(p:w.grownBy c none)(d:c.heap[w.heap.size+1]?=some (.cells s.a 32)/\c.heap[w.heap.size+1+1]?=some (.cells #[.int .i64 b9] 3)/\c.heap[w.heap.size+1+1+1]?=some (.cells #[.int .i64 0,.int .i64 0] 30)/\c.heap[w.heap.size+1+1+1+1]?=some (.cells #[.int .i64 0,.int .i64 0] 30))(r:c.heap.size<=T)(u:T<w3.heap.size)(i:c.grownBy w3 none)(q:j ((((w3.alloc (.cells #[.pointer (some ⟨T,0,none⟩)] 60)).alloc (.cells #[.int .i64 0,.int .i64 0,.bool false] 73)).alloc (.cells #[.int .i64 0,.int .i64 0,.bool false] 73)).alloc o)):
 jB j T s.k s b9 f ba w w3.heap.size [] ((((w3.alloc (.cells #[.pointer (some ⟨T,0,none⟩)] 60)).alloc (.cells #[.int .i64 0,.int .i64 0,.bool false] 73)).alloc (.cells #[.int .i64 0,.int .i64 0,.bool false] 73)).alloc o):=by
 have l:=AP w3 (.cells #[.pointer (some ⟨T,0,none⟩)] 60) (.cells #[.int .i64 0,.int .i64 0,.bool false] 73) (.cells #[.int .i64 0,.int .i64 0,.bool false] 73) o;have h:=AR w3 (.cells #[.pointer (some ⟨T,0,none⟩)] 60) (.cells #[.int .i64 0,.int .i64 0,.bool false] 73) (.cells #[.int .i64 0,.int .i64 0,.bool false] 73) o;have z:=i.size;have g:∀b x,b<c.heap.size->c.heap[b]?=some x->((((w3.alloc (.cells #[.pointer (some ⟨T,0,none⟩)] 60)).alloc (.cells #[.int .i64 0,.int .i64 0,.bool false] 73)).alloc (.cells #[.int .i64 0,.int .i64 0,.bool false] 73)).alloc o).heap[b]?=some x:=λb x d e=>(l.block b (by omega) (by simp)).trans ((i.block b d (by simp)).trans e)
 refine⟨aT (g _ _ (by omega) d.1),aT (g _ _ (by omega) d.2.1),g _ _ (by omega) d.2.2.1,g _ _ (by omega) d.2.2.2,aT h.1,h.2.1,h.2.2.1,q,(p.trans i).trans l,by simp,by omega,by omega⟩
def Dj{w W:World}{c d:Nat}{x y:Array Value}(h:W.heap[c]?=some (.cells x 30))(i:W.heap[d]?=some (.cells y 30))(G:x.size=2)(H:y.size=2)(f:c≠d)(u:w.heap.size<=c)(B:w.heap.size<=d)(g:w.grownBy W none)(v0 v1 v2 v3:Value):
 ((((W.setCell ⟨c,0,none⟩ v0).setCell ⟨c,1,none⟩ v1).setCell ⟨d,0,none⟩ v2).setCell ⟨d,1,none⟩ v3).heap[c]?=some (.cells #[v0,v1] 30)/\((((W.setCell ⟨c,0,none⟩ v0).setCell ⟨c,1,none⟩ v1).setCell ⟨d,0,none⟩ v2).setCell ⟨d,1,none⟩ v3).heap[d]?=some (.cells #[v2,v3] 30)/\
 (∀(D:Nat) (o:Option (List Deferred)),W.heap[D]?=some (Obj.deferred o)->((((W.setCell ⟨c,0,none⟩ v0).setCell ⟨c,1,none⟩ v1).setCell ⟨d,0,none⟩ v2).setCell ⟨d,1,none⟩ v3).heap[D]?=some (Obj.deferred o))/\w.grownBy ((((W.setCell ⟨c,0,none⟩ v0).setCell ⟨c,1,none⟩ v1).setCell ⟨d,0,none⟩ v2).setCell ⟨d,1,none⟩ v3) none:=by
 have kQ:=cQ (o:=1) (v:=v1) (cQ (o:=0) (v:=v0) h);have F:((W.setCell ⟨c,0,none⟩ v0).setCell ⟨c,1,none⟩ v1).heap[d]?=some (.cells y 30):=by rw[ft f.symm,ft f.symm,i]
 have r:=cQ (o:=1) (v:=v3) (cQ (o:=0) (v:=v2) F);have two:∀(z:Array Value) (p q:Value),z.size=2->(z.setIfInBounds 0 p).setIfInBounds 1 q=#[p,q]:=λz p q I=>by
  obtain⟨l⟩:=z;match l,I with
  | [_,_],_=>rfl
 rw[two _ _ _ H]at r;rw[two _ _ _ G]at kQ;refine⟨by rw[ft f,ft f,kQ],r,λD o j=>?_,kC (kC (kC (kC g u) u) B) B⟩;have C:D≠c:=λe=>by subst e;rw[j]at h;simp at h
 have E:D≠d:=λe=>by subst e;rw[j]at i;simp at i
 rw[ft E,ft E,ft C,ft C,j]
def um(D:iR×iR):Value:=if D.1.s then .tuple #[.agg #[.int .i64 D.1.b4,.int .i64 D.1.aj],.agg #[.int .i64 D.2.b4,.int .i64 D.2.aj],.int .i64 0]else .tuple #[.agg #[.int .i64 0,.int .i64 0],.agg #[.int .i64 0,.int .i64 0],.int .i64 11]
end
end Go.aN
