/- A part. -/
import Derived.Test.YtejkocoljbaioaaGreatDoorP23
set_option maxHeartbeats 8000000
set_option maxRecDepth 100000
set_option linter.all false
namespace Go.aO
open Go.Proofs Go.RowKit Go.Maps Go.Shelf
variable{W w:World}{c:World->Prop}
section
variable{A:Array Func}
def sU(q:Bool):Value:=.iface (if q then 129 else 125) (.agg #[])
def Ap(q:Bool):FuncId:=if q then 185 else 184
def gh(q:Bool)(x:fT):Nat:=if q then x.1.2 else x.1.1
def xe[S:Std A](q:Bool)(a b:Nat)(w:World):
 Calls (ao A) (Ap q) #[.agg #[],.agg #[ah a,ah b]] w λe w'=>e=.returned (ah (if q then b else a:Nat))/\w.grownBy w' none:=by
 cases q
 .show Calls (ao A) 184 _ _ _
  go_enter (S.f Tryz.func184),Tryz.ntmps184;go_wp2;go_ret;exact⟨rfl,bT.trans bT⟩
 .show Calls (ao A) 185 _ _ _
  go_enter (S.f Tryz.func185),Tryz.ntmps185;go_wp2;go_ret;exact⟨rfl,bT.trans bT⟩
def BP(s t:TypeId)(w:World)(h:(s=125/\t=129)\/(s=129/\t=125)):Sem.run (ao A) (Instr.typeAssert (.iface s (.agg #[])) 127 t true) w=.ok (.tuple #[.agg #[],.bool false]) w:=by rcases h with⟨rfl,rfl⟩|⟨rfl,rfl⟩<;>kernel_rfl
def BQ(s:TypeId)(w:World)(h:s=125\/s=129):Sem.run (ao A) (Instr.typeAssert (.iface s (.agg #[])) 127 s true) w=.ok (.tuple #[.agg #[],.bool true]) w:=by rcases h with rfl|rfl<;>kernel_rfl
def Mz[S:Std A](q:Bool)(w:World):Calls (ao A) 61 #[sU q] w λe w'=>e=.returned (ah (if q then 1 else 0))/\w'=w:=by
 cases q
 .show Calls (ao A) 61 #[.iface 125 (.agg #[])] _ _
  go_enter (S.f Tryz.func61),Tryz.ntmps61;have c:=BP (A:=A) 125 129 w aF;go_wp2;go_ret;exact⟨rfl,rfl⟩
 .show Calls (ao A) 61 #[.iface 129 (.agg #[])] _ _
  go_enter (S.f Tryz.func61),Tryz.ntmps61;have c:=BQ (A:=A) 129 w aF;go_wp2;go_ret;exact⟨rfl,rfl⟩
structure vm where
 seen:List (Int×Int)
 most:Int
def ix(h:Int)(s:List (Int×Int)):Nat:=s.countP (λa=>a.1 == h)
def mo(q:Bool)(f:Int)(bj:Nat->Int)(D:vm)(x:fT):vm:=
 if ((gh q x:Int),k0 f bj x)∈D.seen then D else⟨((gh q x:Int),k0 f bj x)::D.seen,max D.most (ix (gh q x) D.seen+1:Nat)⟩
def ff(q:Bool)(f:Int)(bj:Nat->Int)(pre:List fT):vm:=pre.foldl (mo q f bj) ⟨[],0⟩
def CL(q:Bool)(f:Int)(bj:Nat->Int)(pre:List fT)(x:fT):ff q f bj (pre++[x])=mo q f bj (ff q f bj pre) x:=by simp[ff]
def Jk(q:Bool)(f:Int)(bj:Nat->Int)(pre:List fT):(ff q f bj pre).seen.length<=pre.length/\0<=(ff q f bj pre).most/\(ff q f bj pre).most<=pre.length:=by
 suffices h:∀(pre:List fT) (D:vm) (n:Nat),D.seen.length<=n->0<=D.most->D.most<=n->(pre.foldl (mo q f bj) D).seen.length<=n+pre.length/\0<=(pre.foldl (mo q f bj) D).most/\(pre.foldl (mo q f bj) D).most<=(n+pre.length:Nat) by have:=h pre ⟨[],0⟩ 0 bg (Int.le_refl _) (Int.le_refl _);simpa [ff]using this
 intro pre;induction pre with
 |nil=>intro D n g c i;exact⟨g,c,i⟩
 |cons x pre j=>
  intro D n g c i;have l:ix (gh q x) D.seen<=D.seen.length:=List.countP_le_length;have d:(mo q f bj D x).seen.length<=n+1/\0<=(mo q f bj D x).most/\(mo q f bj D x).most<=(n+1:Nat):=by
   unfold mo;split
   .exact⟨U,c,U⟩
   .refine⟨?_,?_,?_⟩
    .show D.seen.length+1<=n+1
     omega
    .show(0:Int)<=max D.most _
     omega
    .show max D.most (((ix (gh q x) D.seen+1:Nat)):Int)<=_
     omega
  have:=j (mo q f bj D x) (n+1) d.1 d.2.1 d.2.2;rw[List.foldl_cons,List.length_cons,show n+(pre.length+1)=n+1+pre.length by omega];exact this
noncomputable def o0(s:List (Int×Int))(a b:Int):Option Value:=@ite _ ((a,b)∈s) (Classical.propDecidable _) (some (.bool true)) none
def p1(s:List (Int×Int))(h:Int):Option Value:=if ix h s=0 then none else some (ah (ix h s))
def LV(s:List (Int×Int))(a b:Int):l1 (o0 s) a b (.bool true)=o0 ((a,b)::s):=by
 funext c d;unfold l1 o0;by_cases h:c=a/\d=b
 .obtain⟨rfl,rfl⟩:=h
  simp
 .have:(c,d)≠(a,b):=λe=>h (by simpa using e)
  simp[h,this]
def LX(s:List (Int×Int))(a b:Int):oW (p1 s) a (ah (ix a s+1:Nat))=p1 ((a,b)::s):=by
 funext c;unfold oW p1;by_cases h:c=a
 .subst h
  have:ix c ((c,b)::s)=ix c s+1:=by simp[ix]
  rw[this];simp
 .have d:¬a=c:=λe=>h e.symm
  have:ix c ((a,b)::s)=ix c s:=by simp[ix,d]
  rw[this];simp[h]
structure kR(bf:World->Prop)(T k:Nat)(q:Bool)(f:Int)(bj:Nat->Int)(w:World)(pre:List fT)(W:World):Prop where
 t3:W.cell? ⟨w.heap.size,0,none⟩=some (.pointer (some ⟨T,0,none⟩))
 t4:W.cell? ⟨w.heap.size+1,0,none⟩=some (sU q)
 t5:W.cell? ⟨w.heap.size+1+1,0,none⟩=some (ah k)
 fG:ij W (w.heap.size+1+1+1) (o0 (ff q f bj pre).seen)
 pJ:W.cell? ⟨w.heap.size+1+1+1+1,0,none⟩=some (.map (some (w.heap.size+1+1+1)))
 gK:j' W (w.heap.size+1+1+1+1+1) (p1 (ff q f bj pre).seen)
 jW:W.cell? ⟨w.heap.size+1+1+1+1+1+1,0,none⟩=some (.map (some (w.heap.size+1+1+1+1+1)))
 t9:W.heap[w.heap.size+1+1+1+1+1+1+1]?=some (.cells #[ah (ff q f bj pre).most] 3)
 j:bf W
 fY:w.grownBy W (some T)
 dD:w.heap.size+9<=W.heap.size
 lt:T<w.heap.size
def kR.step{g:World->Prop}{T k:Nat}{q:Bool}{f:Int}{bj:Nat->Int}{pre:List fT}{d':World}{row:Option Nat}(h:kR g T k q f bj w pre W)(c:W.grownBy d' row)(i:∀r,row=some r->r=T\/w.heap.size+9<=r)(l:g d'):kR g T k q f bj w pre d':=by
 have j:=h.lt;have u:=h.dD;have d:∀b,w.heap.size<=b->b<w.heap.size+9->some b≠row:=λb o p e=>by rcases i b e.symm with rfl|ax<;>omega
 refine⟨c.cell h.t3 (d _ dT dT),c.cell h.t4 (d _ dT dT),c.cell h.t5 (d _ dT dT),h.fG.keep c (d _ U U),c.cell h.pJ (d _ dT dT),
  h.gK.keep c (d _ U U),c.cell h.jW (d _ dT dT),(c.block _ U (d _ U U)).trans h.t9,l,ng h.fY c (λr e=>(i r e).imp id U),cL h.dD c.size,j⟩
def kR.seen{T k:Nat}{q:Bool}{f:Int}{bj:Nat->Int}{pre:List fT}{x:fT}(h:kR c T k q f bj w pre W)(d:((gh q x:Int),k0 f bj x)∈(ff q f bj pre).seen):kR c T k q f bj w (pre++[x]) W:=by
 have e:ff q f bj (pre++[x])=ff q f bj pre:=by rw[CL,mo,if_pos d]
 exact⟨h.t3,h.t4,h.t5,by rw[e];exact h.fG,h.pJ,by rw[e];exact h.gK,h.jW,by rw[e];exact h.t9,h.j,h.fY,h.dD,h.lt⟩
def kR.met{l:World->Prop}{T k:Nat}{q:Bool}{f:Int}{bj:Nat->Int}{pre:List fT}{x:fT}{o p d:World}(h:kR l T k q f bj w pre W)(H:((gh q x:Int),k0 f bj x)∉(ff q f bj pre).seen)(B:ij o (w.heap.size+1+1+1) (l1 (o0 (ff q f bj pre).seen) (gh q x) (k0 f bj x) (.bool true)))(u:W.grownBy o (some (w.heap.size+1+1+1)))(C:j' p (w.heap.size+1+1+1+1+1) (oW (p1 (ff q f bj pre).seen) (gh q x) (ah (ix (gh q x) (ff q f bj pre).seen+1:Nat))))(j:o.grownBy p (some (w.heap.size+1+1+1+1+1)))(I:d.heap[w.heap.size+1+1+1+1+1+1+1]?=some (.cells #[ah (max (ff q f bj pre).most (ix (gh q x) (ff q f bj pre).seen+1:Nat))] 3))(i:p.grownBy d (some (w.heap.size+1+1+1+1+1+1+1)))(G:l d):kR l T k q f bj w (pre++[x]) d:=by
 have F:=h.lt;have J:=h.dD;have s1:=u.size;have s2:=j.size;have K:=i.size;have c:∀b r:Nat,b≠r->some b≠some r:=λb r z e=>z (bD e)
 have e:ff q f bj (pre++[x])=⟨((gh q x:Int),k0 f bj x)::(ff q f bj pre).seen,max (ff q f bj pre).most (ix (gh q x) (ff q f bj pre).seen+1:Nat)⟩:=by rw[CL,mo,if_neg H]
 have g:∀a v,a.block≠w.heap.size+1+1+1->a.block≠w.heap.size+1+1+1+1+1->a.block≠w.heap.size+1+1+1+1+1+1+1->W.cell? a=some v->d.cell? a=some v:=λa v z D E e=>i.cell (j.cell (u.cell e (c _ _ z)) (c _ _ D)) (c _ _ E)
 rw[LV]at B;rw[LX _ _ (k0 f bj x)]at C;refine⟨g _ _ dT dT dT h.t3,g _ _ dT dT dT h.t4,g _ _ dT dT dT h.t5,?_,
  g _ _ dT dT dT h.pJ,?_,g _ _ dT dT dT h.jW,?_,G,
  ng (ng (ng h.fY u (λr e=>by cases e;right;omega)) j (λr e=>by cases e;right;omega)) i (λr e=>by cases e;right;omega),U,F⟩
 .rw[e]
  exact(B.keep j (c _ _ U)).keep i (c _ _ U)
 .rw[e]
  exact C.keep i (c _ _ U)
 .rw[e]
  exact I
def lC(w:World):List Obj->World
 | []=>w
 |o::l=>lC (w.alloc o) l
def vz:∀(l:List Obj) (w:World),w.grownBy (lC w l) none
 | [],w=>e6 _ _
 |o::l,w=>(dU w o none).trans (vz l (w.alloc o))
def BM:∀(l:List Obj) (w:World),(lC w l).heap.size=w.heap.size+l.length
 | [],w=>rfl
 |o::l,w=>by rw[lC,BM l,cV,List.length_cons];omega
def yD:∀(l:List Obj) (w:World) (i:Nat) (o:Obj),l[i]?=some o->(lC w l).heap[w.heap.size+i]?=some o
 | [],w,i,o,h=>by simp at h
 |x::l,w,0,o,h=>by
  have:x=o:=by simpa using h
  subst this;rw[lC];exact((vz l (w.alloc x)).block _ aF aF).trans (jA _ _ _ rfl)
 |x::l,w,i+1,o,h=>by have:=yD l (w.alloc x) i o (by simpa using h);rw[cV]at this;rw[lC,show w.heap.size+(i+1)=w.heap.size+1+i by omega];exact this
def nR(T k:Nat)(q:Bool)(n:Nat)(st:Array Value):List Obj:=[.cells #[.pointer (some ⟨T,0,none⟩)] 76,.cells #[sU q] 127,.cells st 31,.map #[] 0,.cells #[.map (some (n+1+1+1))] 167,.map #[] 0,.cells #[.map (some (n+1+1+1+1+1))] 168,.cells #[ah 0] 3,.cells st 31]
def kR.init{T k:Nat}{q:Bool}{f:Int}{bj:Nat->Int}{st:Array Value}(p:st[0]?=some (ah k))(d:T<w.heap.size)(l:c (lC w (nR T k q w.heap.size st))):kR c T k q f bj w [] (lC w (nR T k q w.heap.size st)):=by
 have a:=λi o h=>yD (nR T k q w.heap.size st) w i o h
 refine⟨aU (a 0 _ rfl),aU (a 1 _ rfl),(aU (a 2 _ rfl)).trans p,?_,aU (a 4 _ rfl),?_,aU (a 6 _ rfl),a 7 _ rfl,l,?_,by rw[BM];exact bg,d⟩
 .have:=ij.new (lC w (nR T k q w.heap.size st)) (w.heap.size+3) 0 (a 3 _ rfl)
  have e:o0 (ff q f bj []).seen=λ_ _=>none:=by funext a b;simp[o0,ff]
  rw[e];exact this
 .have:=j'.new (lC w (nR T k q w.heap.size st)) (w.heap.size+5) 0 (a 5 _ rfl)
  have e:p1 (ff q f bj []).seen=λ_=>none:=by funext a;simp[p1,ff,ix]
  rw[e];exact this
 .have g:=vz (nR T k q w.heap.size st) w
  exact⟨g.os,g.tape,g.output,g.size,λi j _=>g.block i j aF⟩
end
end Go.aO
namespace Go.aO
attribute [local go_sem] Oper.semAt_some
open Go.Proofs Go.RowKit Go.Maps Go.Shelf
section
variable{A:Array Func}
def Ma(q:Bool)(w:World):Sem.run (ao A) (method (Tryz.progTables.types.size+100) (if q then 129 else 125) (.agg #[]) "gladstone/fee.of") w=.ok (Ap q,.agg #[]) w:=by cases q<;>kernel_rfl
def ss{a b c:World}{T:Nat}(h:a.grownBy b (some T))(k:b.grownBy c (some T)):a.grownBy c (some T):=
 ⟨h.os ▸ k.os,k.tape.trans h.tape,k.output.trans h.output,cL h.size k.size,λi d f=>(k.block i (gu d h.size) f).trans (h.block i d f)⟩
def Jj[S:Std A][eY:jx A]{aa:World->Prop}{T B b5 ct bd cA:Nat}{first:Nat->Int}(K:pB aa T B b5 ct bd cA first){k:Nat}(ci:k<bd)(cq:bd<=1000){bj:Nat->Int}(ce:∀d,0<=bj d/\bj d<=1000000)(ag:pA A aa T k bj)(q:Bool)(z u fm E:Nat)(cj:z<=u)(ca:u<120)(ch:E<120)(hm:fm<120)(w:World)(aA:aa w):
 CallsIn Fence.wide 8 (ao A) 60 #[.pointer (some ⟨T,0,none⟩),sU q,.agg #[ah k,ah z,ah u,ah fm,ah E]] w λe w'=>e=.returned (ah (ff q (first k) bj (hN z fm E (u-z+1))).most)/\aa w'/\w.grownBy w' (some T):=by
 have cM:=@run_makeMap (ao A);have b8:Fence.wide.fn 58:=trivial;have bn:Fence.wide.fn 78:=trivial;have cc:T<w.heap.size:=by have:=K.lt;have:=K.size w aA;omega
 have aX:kR aa T k q (first k) bj w [] (lC w (nR T k q w.heap.size #[ah k,ah z,ah u,ah fm,ah E])):=kR.init rfl cc (K.keep _ _ none aA (vz _ _) lV);have ae:=yD (nR T k q w.heap.size #[ah k,ah z,ah u,ah fm,ah E]) w 8 _ rfl;obtain⟨ax,aY⟩:∃ax,lC w (nR T k q w.heap.size #[ah k,ah z,ah u,ah fm,ah E])=ax:=⟨_,rfl⟩
 rw[aY]at aX ae;have cb:m6 ax (w.heap.size+1+1+1+1+1+1+1+1) z u fm E:=⟨aU ae,aU ae,aU ae,aU ae⟩
 have cn:w.heap.size+1+1+1+1+1+1+1+1<ax.heap.size:=bu ae;obtain⟨Z,a1,bx⟩:∃Z,sU q=.iface Z (.agg #[])/\∀w,Sem.run (ao A) (method (Tryz.progTables.types.size+100) Z (.agg #[]) "gladstone/fee.of") w=.ok (Ap q,.agg #[]) w:=⟨_,rfl,Ma q⟩
 have bf:=al bx;clear bx;rw[nR,a1]at aY;rw[a1];have bY:=al a1;clear a1;have bZ:=al aY;clear aY ae;refine callsIn_of_wp_marks eY.f62 rfl trivial ?_ rfl;simp only[Tryz.ntmps60,List.size_toArray,List.length_cons,List.length_nil,Nat.reduceAdd,Nat.reduceSub,Array.replicate_succ,Array.replicate_zero,List.push_toArray,List.append_toArray,List.nil_append,List.cons_append];gi_wp2_with (gi_at_call 58;refine(yR Fence.wide 7 b8 rfl _ _ _ _ _ _).mono ?_;rintro e w' ⟨rfl,rfl⟩)
 have a4:=bZ.out;simp only[lC]at a4;rw[a4];clear a4;refine wpIn_rangeFunc_ownH rfl a6 (gf:=78) (lb:=#[.pointer (some ⟨w.heap.size+1+1+1+1+1+1+1+1,0,none⟩)]) rfl bn (enters_of (S.f Tryz.func78) av rfl)
  (yS Fence.wide 7 bn rfl a6 (w.heap.size+1+1+1+1+1+1+1+1) z u fm E cj ca ch hm ax cn cb) gP.t (λW l o cs _ h cf _=>gP.b W l o cs h cf) (Below.refl _ _) (λ_=>rfl)
  (λpre W=>kR aa T k q (first k) bj w pre W) (λ_ _ _=>False)
  (λcO cz Y row ar f ag=>kR.step ar f (λr e=>.inr (by have:=(ag r e).1;have:=aX.dD;omega)) (K.keep _ _ _ ar.j f (λr e=>by have:=(ag r e).1;have:=aX.dD;have:=K.size w aA;omega)))
  (λ_ _ _ _ _ ar _ _=>ar) aX
  (λx aj W=>∃J,w.heap.size+9<=J/\W.cell? ⟨J,0,none⟩=some (ah x.1.1)/\W.cell? ⟨J,1,none⟩=some (ah x.1.2)/\aj={tmps:=#[.pointer (some ⟨T,0,none⟩),.iface Z (.agg #[]),.agg #[ah k,ah z,ah u,ah fm,ah E],.pointer (some ⟨w.heap.size,0,none⟩),.pointer (some ⟨w.heap.size+1,0,none⟩),.pointer (some ⟨w.heap.size+1+1,0,none⟩),ah 0,.pointer (some ⟨w.heap.size+1+1+1+1,0,none⟩),.pointer (some ⟨w.heap.size+1+1+1+1+1+1,0,none⟩),.pointer (some ⟨w.heap.size+1+1+1+1+1+1+1,0,none⟩),.pointer (some ⟨J,0,none⟩),undef,.map (some (w.heap.size+1+1+1)),.map (some (w.heap.size+1+1+1+1+1)),.agg #[ah k,ah z,ah u,ah fm,ah E],.func (.func 78) #[] #[.pointer (some ⟨w.heap.size+1+1+1+1+1+1+1+1,0,none⟩)],.agg #[ah x.1.1,ah x.1.2],undef,undef,undef,undef,undef,undef,undef,undef,undef,undef,undef,undef,undef,undef,undef,undef,undef,undef,undef,undef,undef,undef,undef,undef,undef,undef,undef],defers:=[]})
  (λx aj _ X Y row ar f ag=>by obtain⟨J,am,aS,aT,aV⟩:=ar;exact⟨J,am,cell_kept aS f (λr e=>(ag r e).2),cell_kept aT f (λr e=>(ag r e).2),aV⟩) ?assign ?body ?done ?stop
 case assign=>
  rintro l pre x W cx a9 aq;have bB:=a9.dD;gi_wp2
  refine aq _ _ ((KeepsOthers.alloc _ _).from _) (gP.grown (dU _ _ none) aF) (a9.step (dU _ _ none) (λr e=>by cases e) (K.keep _ _ none a9.j bT lV)) ⟨W.heap.size,bB,dR rfl,dR rfl,rfl⟩
 case body=>
  rintro l pre x aj W cK cN br ⟨J,cI,bC,bE,rfl⟩ cm;have cp:(ao A).follows .mixedOrders=true:=av;have b9:B<=w.heap.size:=K.size w aA;have M:=al br;have b0:=al bC;have b1:=al bE;have bB:=br.dD;have V:∀b,b≠T->some b≠some T:=λb h e=>h (bD e)
  clear br bC bE;gi_wp2
  obtain⟨R,bt⟩:∃R:(Nat->Bool)->Act->World->Prop,R=λL a w'=>∃aB aC aD aE aG aH aI aJ aK aL aM:Value,a={tmps:=#[.pointer (some ⟨T,0,none⟩),.iface Z (.agg #[]),.agg #[ah k,ah z,ah u,ah fm,ah E],.pointer (some ⟨w.heap.size,0,none⟩),.pointer (some ⟨w.heap.size+1,0,none⟩),.pointer (some ⟨w.heap.size+1+1,0,none⟩),ah 0,.pointer (some ⟨w.heap.size+1+1+1+1,0,none⟩),.pointer (some ⟨w.heap.size+1+1+1+1+1+1,0,none⟩),.pointer (some ⟨w.heap.size+1+1+1+1+1+1+1,0,none⟩),.pointer (some ⟨J,0,none⟩),aB,.map (some (w.heap.size+1+1+1)),.map (some (w.heap.size+1+1+1+1+1)),.agg #[ah k,ah z,ah u,ah fm,ah E],.func (.func 78) #[] #[.pointer (some ⟨w.heap.size+1+1+1+1+1+1+1+1,0,none⟩)],.agg #[ah x.1.1,ah x.1.2],aC,aD,aE,aG,aH,aI,aJ,aK,aL,aM,undef,undef,undef,undef,undef,undef,undef,undef,undef,undef,undef,undef,undef,undef,undef,undef,undef],defers:=[]}/\((L 0=true->aC=.iface Z (.agg #[]))/\(L 1=true->aD=.agg #[ah x.1.1,ah x.1.2])/\(L 2=true->aE=ah ((gh q x:Nat):Int))/\(L 3=true->aG=.pointer (some ⟨T,0,none⟩))/\(L 4=true->aH=.pointer (some ⟨w.heap.size+1+1,0,none⟩))/\(L 5=true->aI=ah k)/\(L 6=true->aJ=.agg #[ah x.1.1,ah x.1.2])/\(L 7=true->aK=ah (ha (first k) bj x.1.1 x.1.2))/\(L 8=true->aL=ah (ha (first k) bj x.1.1 x.1.2))/\(L 9=true->aM=.agg #[ah ((gh q x:Nat):Int),ah (ha (first k) bj x.1.1 x.1.2)])/\(L 10=true->∃gX,W.heap.size<=gX/\aB=.pointer (some ⟨gX,0,none⟩)/\w'.heap[gX]?=some (.cells (if L 11=true then #[ah ((gh q x:Nat):Int),ah (ha (first k) bj x.1.1 x.1.2)]else #[ah 0,ah 0]) 171))/\(L 11=true->L 10=true))/\aa w'/\W.grownBy w' (some T):=⟨_,rfl⟩
  have aw:=al bt;clear bt;refine Go.wpIn_mono (Q:=λe aj C=>e=.normal/\R (λ_=>true) aj C) ?_ ?_
  .refine Sq (R:=R) cp av ?_ ?_ ?_
   .intro L i o a w' bz bq hp P
    rw[aw.out]at P;obtain⟨aB,aC,aD,aE,aG,aH,aI,aJ,aK,aL,aM,rfl,⟨ad,am,aS,aT,aV,bk,bl,aW,bm,bo,az,bi⟩,af,f⟩:=P;have cB:=f.cell M.out.t3 (V _ dT);have cC:=(f.cell M.out.t4 (V _ dT)).trans (congrArg some bY.out);have cD:=f.cell M.out.t5 (V _ dT);have cG:=f.cell b0.out (V _ dT);have cE:=f.cell b1.out (V _ dT);have H:=λj h=>hp {on:=j,ground:=.data} h rfl
    have bH:=H 0;have bI:=H 1;have bK:=H 2;have bL:=H 3;have bM:=H 4;have bN:=H 5;have bO:=H 6;have bP:=H 7;have bQ:=H 8;have bR:=H 9;clear H;rcases i with _|_|_|_|_|_|_|_|_|_|_|_|i
    rotate_left 12
    focus (simp at bz)
    all_goals obtain rfl:_=o:=(by simpa using bz)
    all_goals simp at bH bI bK bL bM bN bO bP bQ bR
    all_goals try (have e:=ad bH;subst e)
    all_goals try (have e:=am bI;subst e)
    all_goals try (have e:=aS bK;subst e)
    all_goals try (have e:=aT bL;subst e)
    all_goals try (have e:=aV bM;subst e)
    all_goals try (have e:=bk bN;subst e)
    all_goals try (have e:=bl bO;subst e)
    all_goals try (have e:=aW bP;subst e)
    all_goals try (have e:=bm bQ;subst e)
    all_goals try (have e:=bo bR;subst e)
    rotate_left 10
    focus (
     have bs:L 10=false:=bq;have a7:L 11=false:=by
      cases h:L 11 with
      |false=>rfl
      |true=>rw[bi h]at bs;cases bs)
    rotate_right 10
    rotate_left 11
    focus (
     have bJ:L 10=true:=hp {on:=10,ground:=.data} aF rfl;have a7:L 11=false:=bq;obtain⟨gX,ap,rfl,g⟩:=az bJ;rw[if_neg (by rw[a7];simp)]at g;have bS:=aU (o:=0) g;have cv:=aU (o:=1) g;have z0:=b3 (o:=0) g;have cQ:=b3 (o:=1) g)
    rotate_right 11
    rotate_left 2
    focus (
     rcases Bool.eq_false_or_eq_true q with rfl|rfl
     focus (have co:=(show ∀w,Sem.run (ao A) (method (Tryz.progTables.types.size+100) Z (.agg #[]) "gladstone/fee.of") w=.ok (185,.agg #[]) w from bf.out))
     rotate_left 1
     focus (have co:=(show ∀w,Sem.run (ao A) (method (Tryz.progTables.types.size+100) Z (.agg #[]) "gladstone/fee.of") w=.ok (184,.agg #[]) w from bf.out))
     rotate_left 1)
    rotate_right 2
    all_goals (refine wpOpIn_step rfl (λcw aq=>?_);go_simp)
    rotate_left 2
    focus (gi_wp2_with (first|(refine⟨trivial,?_⟩;gi_at_call 185;refine(CallsIn.inRound l (callsIn_wide.2 (xe true _ _ _))).mono ?_;rintro e C ⟨rfl,p⟩)|(gi_at_call 185;refine(CallsIn.inRound l (callsIn_wide.2 (xe true _ _ _))).mono ?_;rintro e C ⟨rfl,p⟩)))
    rotate_right 2
    rotate_left 3
    focus (gi_wp2_with (first|(refine⟨trivial,?_⟩;gi_at_call 184;refine(CallsIn.inRound l (callsIn_wide.2 (xe false _ _ _))).mono ?_;rintro e C ⟨rfl,p⟩)|(gi_at_call 184;refine(CallsIn.inRound l (callsIn_wide.2 (xe false _ _ _))).mono ?_;rintro e C ⟨rfl,p⟩)))
    rotate_right 3
    rotate_left 8
    focus (gi_wp2_with (first|(refine⟨trivial,?_⟩;gi_at_call 47;refine(CallsIn.inRound l (callsIn_wide.2 (si K ci cq ce ag x.1.1 x.1.2 x.2.1 x.2.2 _ af))).mono ?_;rintro e C ⟨rfl,a5,p⟩)))
    rotate_right 8
    rotate_left 9
    focus (gi_wp2_with (first|(refine⟨trivial,?_⟩;gi_at_call 48;refine(CallsIn.inRound l (callsIn_wide.2 (oT _ _))).mono ?_;rintro e cy ⟨rfl,rfl⟩)))
    rotate_right 9
    all_goals (try refine aq _ _ ?_)
    all_goals rw[aw.out]
    all_goals refine⟨_,_,_,_,_,_,_,_,_,_,_,rfl,⟨?_,?_,?_,?_,?_,?_,?_,?_,?_,?_,?_,?_⟩,?_,?_⟩
    all_goals first
     |exact λ_=>rfl
     |exact af
     |exact f
     |simpa [i']using ad
     |simpa [i']using am
     |simpa [i']using aS
     |simpa [i']using aT
     |simpa [i']using aV
     |simpa [i']using bk
     |simpa [i']using bl
     |simpa [i']using aW
     |simpa [i']using bm
     |simpa [i']using bo
     |simpa [i']using az
     |simpa [i']using bi
     |(simp[i'];done)
     |(simp[i',bJ];done)
     |exact a5
     |exact ss f p
     |exact K.keep _ _ none af p lV
     |exact ng f p (λr e=>by cases e)
     |exact K.keep _ _ none af bT lV
     |exact ng f (dU _ _ none) (λr e=>by cases e)
     |exact K.keep _ _ (some gX) af (e7 (e7 (e6 _ _))) (λb e=>by have:=bD e;omega)
     |exact lW (lW f ap) ap
     |(intro h;obtain⟨gX,ap,b7,g⟩:=az (by simpa [i']using h);exact⟨gX,ap,b7,by simpa [i']using(p.block gX (bu g) (by first|(simp;done)|exact V _ U)).trans g⟩)
     |exact λ_=>⟨_,f.size,rfl,by simpa [i',a7]using jA _ _ _ rfl⟩
     |exact λ_=>⟨gX,ap,rfl,(cU (cU g)).trans (by rw[if_pos (by simp[i'])];rfl)⟩
   .intro L a w' G P
    rw[aw.out]at P ⊢;obtain⟨aB,aC,aD,aE,aG,aH,aI,aJ,aK,aL,aM,rfl,h,af,f⟩:=P;refine⟨rfl,_,_,_,_,_,_,_,_,_,_,_,rfl,?_,af,f⟩;simpa [G 0 a6,G 1 a6,G 2 a6,G 3 a6,G 4 a6,G 5 a6,G 6 a6,G 7 a6,G 8 a6,G 9 a6,G 10 a6,G 11 a6]using h
   .rw[aw.out]
    refine⟨undef,undef,undef,undef,undef,undef,undef,undef,undef,undef,undef,rfl,⟨?_,?_,?_,?_,?_,?_,?_,?_,?_,?_,?_,?_⟩,K.keep _ _ none M.out.j ⟨rfl,rfl,rfl,bg,λ_ _ _=>rfl⟩ lV,⟨rfl,rfl,rfl,bg,λ_ _ _=>rfl⟩⟩;all_goals (intro h;cases h)
  .rintro e aj C ⟨rfl,P⟩
   rw[aw.out]at P;obtain⟨aB,aC,aD,aE,aG,aH,aI,aJ,aK,aL,aM,rfl,⟨ad,-,-,-,-,-,-,-,-,-,az,-⟩,a5,p⟩:=P;obtain rfl:=ad rfl;obtain⟨gX,ap,rfl,g⟩:=az rfl;rw[if_pos rfl]at g;have F:=M.out.step p (λr e=>.inl (bD e).symm) a5;have cF:=F.pJ;have bS:=aU (o:=0) g;have cv:=aU (o:=1) g;have bw:nK 171:=.inr (.inr rfl);have cr:∀w,Sem.run (ao A) (zeroValue 4) w=.ok (.bool false) w:=λw=>av
   have bF:∀w,Sem.run (ao A) (zeroValue 3) w=.ok (ah 0) w:=λw=>av
   have bv:=Jk q (first k) bj pre;have a0:=sy (ao.underlying178 A) bw cr F.fG ((gh q x:Nat):Int) (ha (first k) bj x.1.1 x.1.2) false;have aP:=al p;by_cases a2:(((gh q x:Nat):Int),(ha (first k) bj x.1.1 x.1.2))∈(ff q (first k) bj pre).seen
   .replace a0:Sem.run (ao A) (Instr.lookup 167 (.map (some (w.heap.size+1+1+1))) (.agg #[ah ((gh q x:Nat):Int),ah (ha (first k) bj x.1.1 x.1.2)]) false) C=.ok (.bool true) C:=a0.trans (by simp[o0,a2])
    have ai:=al F;clear F p bv;gi_wp2
    exact⟨KeepsFrom.of_grownBy aP.out (λj e=>by have:=bD e;omega),gP.grown aP.out (V _ (by have:=ai.out.lt;omega)),ai.out.seen a2⟩
   .replace a0:Sem.run (ao A) (Instr.lookup 167 (.map (some (w.heap.size+1+1+1))) (.agg #[ah ((gh q x:Nat):Int),ah (ha (first k) bj x.1.1 x.1.2)]) false) C=.ok (.bool false) C:=a0.trans (by simp[o0,a2])
    have I:∀b r:Nat,b≠r->some b≠some r:=λb r am e=>am (bD e)
    obtain⟨a3,bA,bG,ak,z9⟩:=Dx (ao.underlying178 A) bw F.fG ((gh q x:Nat):Int) (ha (first k) bj x.1.1 x.1.2) (.bool true);replace bA:Sem.run (ao A) (Instr.mapUpdate 167 (.map (some (w.heap.size+1+1+1))) (.agg #[ah ((gh q x:Nat):Int),ah (ha (first k) bj x.1.1 x.1.2)]) (.bool true)) C=.ok () a3:=bA;have b6:=ak.cell F.jW (I _ _ dT);have cu:=ak.cell bS (I _ _ dT);have bc:=F.gK.keep ak (I _ _ U);have cl:Sem.run (ao A) (Instr.lookup 168 (.map (some (w.heap.size+1+1+1+1+1))) (ah ((gh q x:Nat):Int)) false) a3=.ok (ah (ix (gh q x) (ff q (first k) bj pre).seen)) a3:=(wT (ao.underlying179 A) rfl bF bc ((gh q x:Nat):Int) false).trans (by
     unfold p1;by_cases ad:(ix (gh q x) (ff q (first k) bj pre).seen)=0
     .simp[ad]
     .simp[ad])
    obtain⟨au,ba,bb,ay,cR⟩:=Dt (ao.underlying179 A) rfl bc ((gh q x:Nat):Int) (ah ((ix (gh q x) (ff q (first k) bj pre).seen)+1:Nat));replace ba:Sem.run (ao A) (Instr.mapUpdate 168 (.map (some (w.heap.size+1+1+1+1+1))) (ah ((gh q x:Nat):Int)) (ah (((ix (gh q x) (ff q (first k) bj pre).seen):Int)+1))) a3=.ok () au:=ba;have cH:=ay.cell b6 (I _ _ dT);have cP:=ay.cell cu (I _ _ dT);have ck:Sem.run (ao A) (Instr.lookup 168 (.map (some (w.heap.size+1+1+1+1+1))) (ah ((gh q x:Nat):Int)) false) au=.ok (ah (((ix (gh q x) (ff q (first k) bj pre).seen):Int)+1)) au:=(wT (ao.underlying179 A) rfl bF bb ((gh q x:Nat):Int) false).trans (by simp[oW]);have aZ:=(ay.block _ (by rw[z9];have:=F.dD;omega) (I _ _ U)).trans ((ak.block _ (by have:=F.dD;omega) (I _ _ U)).trans F.t9);have t9:=aU (o:=0) aZ;have f9:=b3 (o:=0) aZ;have cg:(ix (gh q x) (ff q (first k) bj pre).seen)<=pre.length:=cL List.countP_le_length bv.1;have ai:=al F;have b4:=al bG;have aO:=al ak;have b2:=al bb;have aN:=al ay;have bU:=al aZ;clear F p bG ak bb ay aZ bc;obtain⟨aQ,a8⟩:∃aQ,(ix (gh q x) (ff q (first k) bj pre).seen)=aQ:=⟨_,rfl⟩
    rw[a8]at ba cl ck cg;have bV:=al a8;clear a8;gi_wp2
    have aR:au.grownBy (au.setCell ⟨w.heap.size+1+1+1+1+1+1+1,0,none⟩ (ah (max (ff q (first k) bj pre).most ((aQ:Int)+1)))) (some (w.heap.size+1+1+1+1+1+1+1)):=e7 (e6 _ _);have aW:(au.setCell ⟨w.heap.size+1+1+1+1+1+1+1,0,none⟩ (ah (max (ff q (first k) bj pre).most ((aQ:Int)+1)))).heap[w.heap.size+1+1+1+1+1+1+1]?=some (.cells #[ah (max (ff q (first k) bj pre).most ((ix (gh q x) (ff q (first k) bj pre).seen)+1:Nat))] 3):=by rw[bV.out];exact cU bU.out
    have cm:=ai.out.lt;refine⟨((KeepsFrom.of_grownBy aP.out (λj e=>by have:=bD e;omega)).trans (KeepsFrom.of_grownBy aO.out (λj e=>by have:=bD e;omega))).trans ((KeepsFrom.of_grownBy aN.out (λj e=>by have:=bD e;omega)).trans (KeepsFrom.of_grownBy aR (λj e=>by have:=bD e;omega))),(((gP.grown aP.out (V _ U)).t (gP.grown aO.out (I _ _ U))).t (gP.grown aN.out (I _ _ U))).t (gP.grown aR (I _ _ U)),?_⟩;refine ai.out.met a2 b4.out aO.out b2.out aN.out aW aR ?_;exact K.keep _ _ _ (K.keep _ _ _ (K.keep _ _ _ ai.out.j aO.out (λb e=>by have:=bD e;omega)) aN.out (λb e=>by have:=bD e;omega)) aR (λb e=>by have:=bD e;omega)
 case done=>
  rintro D ys W bp rfl br aq;have z9:=aU (o:=0) br.t9;have M:=al br;have bX:=al aq;have bW:=al bp;clear br aq bp;gi_wp2
  refine⟨aF,.inl ⟨_,_,rfl,run_takeDeferred bX.out,?_⟩⟩;refine⟨_,results_tmp rfl _ _ _,?_⟩;have bh:=grownBy_putObj' W D (.deferred none);have b9:B<=w.heap.size:=K.size w aA;have cJ:=bW.out;exact⟨rfl,K.keep _ _ _ M.out.j bh (λb e=>by have:=bD e;omega),ng M.out.fY bh (λr e=>by have:=bD e;right;omega)⟩
 case stop=>
  rintro D c pre W _ _ h _;exact h.elim
end
end Go.aO
