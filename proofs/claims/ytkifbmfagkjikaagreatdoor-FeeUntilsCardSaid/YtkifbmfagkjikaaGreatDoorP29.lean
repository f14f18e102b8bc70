/- A part; no conditions. -/
import Derived.Test.YtkifbmfagkjikaaGreatDoorP28
set_option maxHeartbeats 8000000
set_option maxRecDepth 100000
set_option linter.all false
namespace Go.aO
open Go.Proofs Go.RowKit Go.Maps Go.Shelf
variable{W w:World}{c:World->Prop}
section
variable{A:Array Func}
def sU(q:Bool):Value:=.iface (if q then 118 else 114) (.agg #[])
def Ap(q:Bool):FuncId:=if q then 177 else 176
def gh(q:Bool)(x:fT):Nat:=if q then x.1.2 else x.1.1
def xe[S:Std A](q:Bool)(a b:Nat)(w:World):
 Calls (ao A) (Ap q) #[.agg #[],.agg #[.int .i64 a,.int .i64 b]] w λe w'=>e=.returned (.int .i64 (if q then b else a:Nat))/\w.grownBy w' none:=by
 cases q
 .show Calls (ao A) 176 _ _ _
  go_enter (S.f Tryz.func176),Tryz.ntmps176;go_wp2;go_ret;exact⟨rfl,bT.trans bT⟩
 .show Calls (ao A) 177 _ _ _
  go_enter (S.f Tryz.func177),Tryz.ntmps177;go_wp2;go_ret;exact⟨rfl,bT.trans bT⟩
def BP(s t:TypeId)(w:World)(h:(s=114/\t=118)\/(s=118/\t=114)):Sem.run (ao A) (Instr.typeAssert (.iface s (.agg #[])) 116 t true) w=.ok (.tuple #[.agg #[],.bool false]) w:=by rcases h with⟨rfl,rfl⟩|⟨rfl,rfl⟩<;>kernel_rfl
def BQ(s:TypeId)(w:World)(h:s=114\/s=118):Sem.run (ao A) (Instr.typeAssert (.iface s (.agg #[])) 116 s true) w=.ok (.tuple #[.agg #[],.bool true]) w:=by rcases h with rfl|rfl<;>kernel_rfl
def Mz[S:Std A](q:Bool)(w:World):Calls (ao A) 43 #[sU q] w λe w'=>e=.returned (.int .i64 (if q then 1 else 0))/\w'=w:=by
 cases q
 .show Calls (ao A) 43 #[.iface 114 (.agg #[])] _ _
  go_enter (S.f Tryz.func43),Tryz.ntmps43;have c:=BP (A:=A) 114 118 w aF;go_wp2;go_ret;exact⟨rfl,rfl⟩
 .show Calls (ao A) 43 #[.iface 118 (.agg #[])] _ _
  go_enter (S.f Tryz.func43),Tryz.ntmps43;have c:=BQ (A:=A) 118 w aF;go_wp2;go_ret;exact⟨rfl,rfl⟩
structure vm where
 seen:List (Int×Int)
 most:Int
def ix(h:Int)(s:List (Int×Int)):Nat:=s.countP (λa=>a.1 == h)
def mo(q:Bool)(f:Int)(bj:Nat->Int)(D:vm)(x:fT):vm:=
 if ((gh q x:Int),k0 f bj x)∈D.seen then D else⟨((gh q x:Int),k0 f bj x)::D.seen,max D.most (ix (gh q x) D.seen+1:Nat)⟩
def ff(q:Bool)(f:Int)(bj:Nat->Int)(pre:List fT):vm:=pre.foldl (mo q f bj) ⟨[],0⟩
def CL(q:Bool)(f:Int)(bj:Nat->Int)(pre:List fT)(x:fT):ff q f bj (pre++[x])=mo q f bj (ff q f bj pre) x:=by simp[ff]
def Jk(q:Bool)(f:Int)(bj:Nat->Int)(pre:List fT):(ff q f bj pre).seen.length<=pre.length/\0<=(ff q f bj pre).most/\(ff q f bj pre).most<=pre.length:=by
 suffices h:∀(pre:List fT) (D:vm) (n:Nat),D.seen.length<=n->0<=D.most->D.most<=n->(pre.foldl (mo q f bj) D).seen.length<=n+pre.length/\0<=(pre.foldl (mo q f bj) D).most/\(pre.foldl (mo q f bj) D).most<=(n+pre.length:Nat) by have:=h pre ⟨[],0⟩ 0 bg (Int.le_refl _) (Int.le_refl _);simpa [ff]using this
 intro pre;induction pre with
 |nil=>intro D n g c i;exact⟨g,c,i⟩
 |cons x pre j=>
  intro D n g c i;have l:ix (gh q x) D.seen<=D.seen.length:=List.countP_le_length;have d:(mo q f bj D x).seen.length<=n+1/\0<=(mo q f bj D x).most/\(mo q f bj D x).most<=(n+1:Nat):=by
   unfold mo;split
   .exact⟨U,c,U⟩
   .refine⟨?_,?_,?_⟩
    .show D.seen.length+1<=n+1
     omega
    .show(0:Int)<=max D.most _
     omega
    .show max D.most (((ix (gh q x) D.seen+1:Nat)):Int)<=_
     omega
  have:=j (mo q f bj D x) (n+1) d.1 d.2.1 d.2.2;rw[List.foldl_cons,List.length_cons,show n+(pre.length+1)=n+1+pre.length by omega];exact this
noncomputable def o0(s:List (Int×Int))(a b:Int):Option Value:=@ite _ ((a,b)∈s) (Classical.propDecidable _) (some (.bool true)) none
def p1(s:List (Int×Int))(h:Int):Option Value:=if ix h s=0 then none else some (.int .i64 (ix h s))
def LV(s:List (Int×Int))(a b:Int):l1 (o0 s) a b (.bool true)=o0 ((a,b)::s):=by
 funext c d;unfold l1 o0;by_cases h:c=a/\d=b
 .obtain⟨rfl,rfl⟩:=h
  simp
 .have:(c,d)≠(a,b):=λe=>h (by simpa using e)
  simp[h,this]
def LX(s:List (Int×Int))(a b:Int):oW (p1 s) a (.int .i64 (ix a s+1:Nat))=p1 ((a,b)::s):=by
 funext c;unfold oW p1;by_cases h:c=a
 .subst h
  have:ix c ((c,b)::s)=ix c s+1:=by simp[ix]
  rw[this];simp
 .have d:¬a=c:=λe=>h e.symm
  have:ix c ((a,b)::s)=ix c s:=by simp[ix,d]
  rw[this];simp[h]
structure kR(bf:World->Prop)(T k:Nat)(q:Bool)(f:Int)(bj:Nat->Int)(w:World)(pre:List fT)(W:World):Prop where
 t3:W.cell? ⟨w.heap.size,0,none⟩=some (.pointer (some ⟨T,0,none⟩))
 t4:W.cell? ⟨w.heap.size+1,0,none⟩=some (sU q)
 t5:W.cell? ⟨w.heap.size+1+1,0,none⟩=some (.int .i64 k)
 fG:ij W (w.heap.size+1+1+1) (o0 (ff q f bj pre).seen)
 pJ:W.cell? ⟨w.heap.size+1+1+1+1,0,none⟩=some (.map (some (w.heap.size+1+1+1)))
 gK:j' W (w.heap.size+1+1+1+1+1) (p1 (ff q f bj pre).seen)
 jW:W.cell? ⟨w.heap.size+1+1+1+1+1+1,0,none⟩=some (.map (some (w.heap.size+1+1+1+1+1)))
 t9:W.heap[w.heap.size+1+1+1+1+1+1+1]?=some (.cells #[.int .i64 (ff q f bj pre).most] 3)
 j:bf W
 fY:w.grownBy W (some T)
 dD:w.heap.size+9<=W.heap.size
 lt:T<w.heap.size
def kR.step{g:World->Prop}{T k:Nat}{q:Bool}{f:Int}{bj:Nat->Int}{pre:List fT}{d':World}{row:Option Nat}(h:kR g T k q f bj w pre W)(c:W.grownBy d' row)(i:∀r,row=some r->r=T\/w.heap.size+9<=r)(l:g d'):kR g T k q f bj w pre d':=by
 have j:=h.lt;have o:=h.dD;have d:∀b,w.heap.size<=b->b<w.heap.size+9->some b≠row:=λb m n e=>by rcases i b e.symm with rfl|ax<;>omega
 refine⟨c.cell h.t3 (d _ dT dT),c.cell h.t4 (d _ dT dT),c.cell h.t5 (d _ dT dT),h.fG.keep c (d _ U U),c.cell h.pJ (d _ dT dT),
  h.gK.keep c (d _ U U),c.cell h.jW (d _ dT dT),(c.block _ U (d _ U U)).trans h.t9,l,ng h.fY c (λr e=>(i r e).imp id U),cL h.dD c.size,j⟩
def kR.seen{T k:Nat}{q:Bool}{f:Int}{bj:Nat->Int}{pre:List fT}{x:fT}(h:kR c T k q f bj w pre W)(d:((gh q x:Int),k0 f bj x)∈(ff q f bj pre).seen):kR c T k q f bj w (pre++[x]) W:=by
 have e:ff q f bj (pre++[x])=ff q f bj pre:=by rw[CL,mo,if_pos d]
 exact⟨h.t3,h.t4,h.t5,by rw[e];exact h.fG,h.pJ,by rw[e];exact h.gK,h.jW,by rw[e];exact h.t9,h.j,h.fY,h.dD,h.lt⟩
def kR.met{l:World->Prop}{T k:Nat}{q:Bool}{f:Int}{bj:Nat->Int}{pre:List fT}{x:fT}{m n d:World}(h:kR l T k q f bj w pre W)(E:((gh q x:Int),k0 f bj x)∉(ff q f bj pre).seen)(u:ij m (w.heap.size+1+1+1) (l1 (o0 (ff q f bj pre).seen) (gh q x) (k0 f bj x) (.bool true)))(o:W.grownBy m (some (w.heap.size+1+1+1)))(y:j' n (w.heap.size+1+1+1+1+1) (oW (p1 (ff q f bj pre).seen) (gh q x) (.int .i64 (ix (gh q x) (ff q f bj pre).seen+1:Nat))))(j:m.grownBy n (some (w.heap.size+1+1+1+1+1)))(F:d.heap[w.heap.size+1+1+1+1+1+1+1]?=some (.cells #[.int .i64 (max (ff q f bj pre).most (ix (gh q x) (ff q f bj pre).seen+1:Nat))] 3))(i:n.grownBy d (some (w.heap.size+1+1+1+1+1+1+1)))(D:l d):kR l T k q f bj w (pre++[x]) d:=by
 have C:=h.lt;have G:=h.dD;have s1:=o.size;have s2:=j.size;have H:=i.size;have c:∀b r:Nat,b≠r->some b≠some r:=λb r p e=>p (bD e)
 have e:ff q f bj (pre++[x])=⟨((gh q x:Int),k0 f bj x)::(ff q f bj pre).seen,max (ff q f bj pre).most (ix (gh q x) (ff q f bj pre).seen+1:Nat)⟩:=by rw[CL,mo,if_neg E]
 have g:∀a v,a.block≠w.heap.size+1+1+1->a.block≠w.heap.size+1+1+1+1+1->a.block≠w.heap.size+1+1+1+1+1+1+1->W.cell? a=some v->d.cell? a=some v:=λa v p z B e=>i.cell (j.cell (o.cell e (c _ _ p)) (c _ _ z)) (c _ _ B)
 rw[LV]at u;rw[LX _ _ (k0 f bj x)]at y;refine⟨g _ _ dT dT dT h.t3,g _ _ dT dT dT h.t4,g _ _ dT dT dT h.t5,?_,
  g _ _ dT dT dT h.pJ,?_,g _ _ dT dT dT h.jW,?_,D,
  ng (ng (ng h.fY o (λr e=>by cases e;right;omega)) j (λr e=>by cases e;right;omega)) i (λr e=>by cases e;right;omega),U,C⟩
 .rw[e]
  exact(u.keep j (c _ _ U)).keep i (c _ _ U)
 .rw[e]
  exact y.keep i (c _ _ U)
 .rw[e]
  exact F
def lC(w:World):List Obj->World
 | []=>w
 |o::l=>lC (w.alloc o) l
def vz:∀(l:List Obj) (w:World),w.grownBy (lC w l) none
 | [],w=>e6 _ _
 |o::l,w=>(dU w o none).trans (vz l (w.alloc o))
def BM:∀(l:List Obj) (w:World),(lC w l).heap.size=w.heap.size+l.length
 | [],w=>rfl
 |o::l,w=>by rw[lC,BM l,cV,List.length_cons];omega
def yD:∀(l:List Obj) (w:World) (i:Nat) (o:Obj),l[i]?=some o->(lC w l).heap[w.heap.size+i]?=some o
 | [],w,i,o,h=>by simp at h
 |x::l,w,0,o,h=>by
  have:x=o:=by simpa using h
  subst this;rw[lC];exact((vz l (w.alloc x)).block _ aF aF).trans (jA _ _ _ rfl)
 |x::l,w,i+1,o,h=>by have:=yD l (w.alloc x) i o (by simpa using h);rw[cV]at this;rw[lC,show w.heap.size+(i+1)=w.heap.size+1+i by omega];exact this
def nR(T k:Nat)(q:Bool)(n:Nat)(st:Array Value):List Obj:=[.cells #[.pointer (some ⟨T,0,none⟩)] 70,.cells #[sU q] 116,.cells st 47,.map #[] 0,.cells #[.map (some (n+1+1+1))] 159,.map #[] 0,.cells #[.map (some (n+1+1+1+1+1))] 160,.cells #[.int .i64 0] 3,.cells st 47]
def kR.init{T k:Nat}{q:Bool}{f:Int}{bj:Nat->Int}{st:Array Value}(m:st[0]?=some (.int .i64 k))(d:T<w.heap.size)(l:c (lC w (nR T k q w.heap.size st))):kR c T k q f bj w [] (lC w (nR T k q w.heap.size st)):=by
 have a:=λi o h=>yD (nR T k q w.heap.size st) w i o h
 refine⟨aU (a 0 _ rfl),aU (a 1 _ rfl),(aU (a 2 _ rfl)).trans m,?_,aU (a 4 _ rfl),?_,aU (a 6 _ rfl),a 7 _ rfl,l,?_,by rw[BM];exact bg,d⟩
 .have:=ij.new (lC w (nR T k q w.heap.size st)) (w.heap.size+3) 0 (a 3 _ rfl)
  have e:o0 (ff q f bj []).seen=λ_ _=>none:=by funext a b;simp[o0,ff]
  rw[e];exact this
 .have:=j'.new (lC w (nR T k q w.heap.size st)) (w.heap.size+5) 0 (a 5 _ rfl)
  have e:p1 (ff q f bj []).seen=λ_=>none:=by funext a;simp[p1,ff,ix]
  rw[e];exact this
 .have g:=vz (nR T k q w.heap.size st) w
  exact⟨g.os,g.tape,g.output,g.size,λi j _=>g.block i j aF⟩
end
end Go.aO
namespace Go.aO
attribute [local go_sem] Oper.semAt_some
open Go.Proofs Go.RowKit Go.Maps Go.Shelf
section
variable{A:Array Func}
def Ma(q:Bool)(w:World):Sem.run (ao A) (method (Tryz.progTables.types.size+100) (if q then 118 else 114) (.agg #[]) "gladstone/fee.of") w=.ok (Ap q,.agg #[]) w:=by cases q<;>kernel_rfl
def ss{a b c:World}{T:Nat}(h:a.grownBy b (some T))(k:b.grownBy c (some T)):a.grownBy c (some T):=
 ⟨h.os ▸ k.os,k.tape.trans h.tape,k.output.trans h.output,cL h.size k.size,λi d f=>(k.block i (gu d h.size) f).trans (h.block i d f)⟩
def Jj[S:Std A][eY:jx A]{P:World->Prop}{T B b0 cp a9 cA:Nat}{first:Nat->Int}(K:pB P T B b0 cp a9 cA first){k:Nat}(ce:k<a9)(cm:a9<=1000){bj:Nat->Int}(b9:∀d,0<=bj d/\bj d<=1000000)(ad:pA A P T k bj)(q:Bool)(p n fm y:Nat)(cf:p<=n)(b6:n<120)(cc:y<120)(hm:fm<120)(w:World)(ax:P w):
 CallsIn Fence.wide 8 (ao A) 42 #[.pointer (some ⟨T,0,none⟩),sU q,.agg #[.int .i64 k,.int .i64 p,.int .i64 n,.int .i64 fm,.int .i64 y]] w λe w'=>e=.returned (.int .i64 (ff q (first k) bj (hN p fm y (n-p+1))).most)/\P w'/\w.grownBy w' (some T):=by
 have cH:=@run_makeMap (ao A);have b4:Fence.wide.fn 40:=trivial;have bi:Fence.wide.fn 65:=trivial;have b8:T<w.heap.size:=by have:=K.lt;have:=K.size w ax;omega
 have aw:kR P T k q (first k) bj w [] (lC w (nR T k q w.heap.size #[.int .i64 k,.int .i64 p,.int .i64 n,.int .i64 fm,.int .i64 y])):=kR.init rfl b8 (K.keep _ _ none ax (vz _ _) lV);have Z:=yD (nR T k q w.heap.size #[.int .i64 k,.int .i64 p,.int .i64 n,.int .i64 fm,.int .i64 y]) w 8 _ rfl;obtain⟨aq,aT⟩:∃aq,lC w (nR T k q w.heap.size #[.int .i64 k,.int .i64 p,.int .i64 n,.int .i64 fm,.int .i64 y])=aq:=⟨_,rfl⟩
 rw[aT]at aw Z;have b7:m6 aq (w.heap.size+1+1+1+1+1+1+1+1) p n fm y:=⟨aU Z,aU Z,aU Z,aU Z⟩
 have cj:w.heap.size+1+1+1+1+1+1+1+1<aq.heap.size:=bu Z;obtain⟨M,aX,bs⟩:∃M,sU q=.iface M (.agg #[])/\∀w,Sem.run (ao A) (method (Tryz.progTables.types.size+100) M (.agg #[]) "gladstone/fee.of") w=.ok (Ap q,.agg #[]) w:=⟨_,rfl,Ma q⟩
 have ba:=al bs;clear bs;rw[nR,aX]at aT;rw[aX];have bU:=al aX;clear aX;have bV:=al aT;clear aT Z;refine callsIn_of_wp_marks eY.f62 rfl trivial ?_ rfl;simp only[Tryz.ntmps42,List.size_toArray,List.length_cons,List.length_nil,Nat.reduceAdd,Nat.reduceSub,Array.replicate_succ,Array.replicate_zero,List.push_toArray,List.append_toArray,List.nil_append,List.cons_append];gi_wp2_with (gi_at_call 40;refine(yR Fence.wide 7 b4 rfl _ _ _ _ _ _).mono ?_;rintro e w' ⟨rfl,rfl⟩)
 have a0:=bV.out;simp only[lC]at a0;rw[a0];clear a0;refine wpIn_rangeFunc_ownH rfl a6 (gf:=65) (lb:=#[.pointer (some ⟨w.heap.size+1+1+1+1+1+1+1+1,0,none⟩)]) rfl bi (enters_of (S.f Tryz.func65) av rfl)
  (yS Fence.wide 7 bi rfl a6 (w.heap.size+1+1+1+1+1+1+1+1) p n fm y cf b6 cc hm aq cj b7) gP.t (λW l o co _ h ca _=>gP.b W l o co h ca) (Below.refl _ _) (λ_=>rfl)
  (λpre W=>kR P T k q (first k) bj w pre W) (λ_ _ _=>False)
  (λcK cv Y row ak f ad=>kR.step ak f (λr e=>.inr (by have:=(ad r e).1;have:=aw.dD;omega)) (K.keep _ _ _ ak.j f (λr e=>by have:=(ad r e).1;have:=aw.dD;have:=K.size w ax;omega)))
  (λ_ _ _ _ _ ak _ _=>ak) aw
  (λx af W=>∃G,w.heap.size+9<=G/\W.cell? ⟨G,0,none⟩=some (.int .i64 x.1.1)/\W.cell? ⟨G,1,none⟩=some (.int .i64 x.1.2)/\af={tmps:=#[.pointer (some ⟨T,0,none⟩),.iface M (.agg #[]),.agg #[.int .i64 k,.int .i64 p,.int .i64 n,.int .i64 fm,.int .i64 y],.pointer (some ⟨w.heap.size,0,none⟩),.pointer (some ⟨w.heap.size+1,0,none⟩),.pointer (some ⟨w.heap.size+1+1,0,none⟩),.int .i64 0,.pointer (some ⟨w.heap.size+1+1+1+1,0,none⟩),.pointer (some ⟨w.heap.size+1+1+1+1+1+1,0,none⟩),.pointer (some ⟨w.heap.size+1+1+1+1+1+1+1,0,none⟩),.pointer (some ⟨G,0,none⟩),undef,.map (some (w.heap.size+1+1+1)),.map (some (w.heap.size+1+1+1+1+1)),.agg #[.int .i64 k,.int .i64 p,.int .i64 n,.int .i64 fm,.int .i64 y],.func (.func 65) #[] #[.pointer (some ⟨w.heap.size+1+1+1+1+1+1+1+1,0,none⟩)],.agg #[.int .i64 x.1.1,.int .i64 x.1.2],undef,undef,undef,undef,undef,undef,undef,undef,undef,undef,undef,undef,undef,undef,undef,undef,undef,undef,undef,undef,undef,undef,undef,undef,undef,undef,undef],defers:=[]})
  (λx af _ X Y row ak f ad=>by obtain⟨G,ah,aP,aQ,aR⟩:=ak;exact⟨G,ah,cell_kept aP f (λr e=>(ad r e).2),cell_kept aQ f (λr e=>(ad r e).2),aR⟩) ?assign ?body ?done ?stop
 case assign=>
  rintro l pre x W ct a4 aj;have bw:=a4.dD;gi_wp2
  refine aj _ _ ((KeepsOthers.alloc _ _).from _) (gP.grown (dU _ _ none) aF) (a4.step (dU _ _ none) (λr e=>by cases e) (K.keep _ _ none a4.j bT lV)) ⟨W.heap.size,bw,dR rfl,dR rfl,rfl⟩
 case body=>
  rintro l pre x af W cF cI br ⟨G,cD,bx,bz,rfl⟩ ci;have cl:(ao A).follows .mixedOrders=true:=av;have b5:B<=w.heap.size:=K.size w ax;have H:=al br;have bW:=al bx;have bX:=al bz;have bw:=br.dD;have J:∀b,b≠T->some b≠some T:=λb h e=>h (bD e)
  clear br bx bz;gi_wp2
  obtain⟨R,bo⟩:∃R:(Nat->Bool)->Act->World->Prop,R=λL a w'=>∃ay az aA aB aC aD aE aG aH aI aJ:Value,a={tmps:=#[.pointer (some ⟨T,0,none⟩),.iface M (.agg #[]),.agg #[.int .i64 k,.int .i64 p,.int .i64 n,.int .i64 fm,.int .i64 y],.pointer (some ⟨w.heap.size,0,none⟩),.pointer (some ⟨w.heap.size+1,0,none⟩),.pointer (some ⟨w.heap.size+1+1,0,none⟩),.int .i64 0,.pointer (some ⟨w.heap.size+1+1+1+1,0,none⟩),.pointer (some ⟨w.heap.size+1+1+1+1+1+1,0,none⟩),.pointer (some ⟨w.heap.size+1+1+1+1+1+1+1,0,none⟩),.pointer (some ⟨G,0,none⟩),ay,.map (some (w.heap.size+1+1+1)),.map (some (w.heap.size+1+1+1+1+1)),.agg #[.int .i64 k,.int .i64 p,.int .i64 n,.int .i64 fm,.int .i64 y],.func (.func 65) #[] #[.pointer (some ⟨w.heap.size+1+1+1+1+1+1+1+1,0,none⟩)],.agg #[.int .i64 x.1.1,.int .i64 x.1.2],az,aA,aB,aC,aD,aE,aG,aH,aI,aJ,undef,undef,undef,undef,undef,undef,undef,undef,undef,undef,undef,undef,undef,undef,undef,undef,undef],defers:=[]}/\((L 0=true->az=.iface M (.agg #[]))/\(L 1=true->aA=.agg #[.int .i64 x.1.1,.int .i64 x.1.2])/\(L 2=true->aB=.int .i64 ((gh q x:Nat):Int))/\(L 3=true->aC=.pointer (some ⟨T,0,none⟩))/\(L 4=true->aD=.pointer (some ⟨w.heap.size+1+1,0,none⟩))/\(L 5=true->aE=.int .i64 k)/\(L 6=true->aG=.agg #[.int .i64 x.1.1,.int .i64 x.1.2])/\(L 7=true->aH=.int .i64 (ha (first k) bj x.1.1 x.1.2))/\(L 8=true->aI=.int .i64 (ha (first k) bj x.1.1 x.1.2))/\(L 9=true->aJ=.agg #[.int .i64 ((gh q x:Nat):Int),.int .i64 (ha (first k) bj x.1.1 x.1.2)])/\(L 10=true->∃gX,W.heap.size<=gX/\ay=.pointer (some ⟨gX,0,none⟩)/\w'.heap[gX]?=some (.cells (if L 11=true then #[.int .i64 ((gh q x:Nat):Int),.int .i64 (ha (first k) bj x.1.1 x.1.2)]else #[.int .i64 0,.int .i64 0]) 163))/\(L 11=true->L 10=true))/\P w'/\W.grownBy w' (some T):=⟨_,rfl⟩
  have ap:=al bo;clear bo;refine Go.wpIn_mono (Q:=λe af u=>e=.normal/\R (λ_=>true) af u) ?_ ?_
  .refine Sq (R:=R) cl av ?_ ?_ ?_
   .intro L i o a w' bt bm hp I
    rw[ap.out]at I;obtain⟨ay,az,aA,aB,aC,aD,aE,aG,aH,aI,aJ,rfl,⟨V,ah,aP,aQ,aR,bd,bf,aS,bh,bk,au,bc⟩,aa,f⟩:=I;have cw:=f.cell H.out.t3 (J _ dT);have cx:=(f.cell H.out.t4 (J _ dT)).trans (congrArg some bU.out);have cy:=f.cell H.out.t5 (J _ dT);have cG:=f.cell bW.out (J _ dT);have cz:=f.cell bX.out (J _ dT);have E:=λj h=>hp {on:=j,ground:=.data} h rfl
    have bC:=E 0;have bE:=E 1;have bG:=E 2;have bH:=E 3;have bI:=E 4;have bJ:=E 5;have bK:=E 6;have bL:=E 7;have bM:=E 8;have bN:=E 9;clear E;rcases i with _|_|_|_|_|_|_|_|_|_|_|_|i
    rotate_left 12
    focus (simp at bt)
    all_goals obtain rfl:_=o:=(by simpa using bt)
    all_goals simp at bC bE bG bH bI bJ bK bL bM bN
    all_goals try (have e:=V bC;subst e)
    all_goals try (have e:=ah bE;subst e)
    all_goals try (have e:=aP bG;subst e)
    all_goals try (have e:=aQ bH;subst e)
    all_goals try (have e:=aR bI;subst e)
    all_goals try (have e:=bd bJ;subst e)
    all_goals try (have e:=bf bK;subst e)
    all_goals try (have e:=aS bL;subst e)
    all_goals try (have e:=bh bM;subst e)
    all_goals try (have e:=bk bN;subst e)
    rotate_left 10
    focus (
     have bn:L 10=false:=bm;have a2:L 11=false:=by
      cases h:L 11 with
      |false=>rfl
      |true=>rw[bc h]at bn;cases bn)
    rotate_right 10
    rotate_left 11
    focus (
     have bF:L 10=true:=hp {on:=10,ground:=.data} aF rfl;have a2:L 11=false:=bm;obtain⟨gX,ai,rfl,g⟩:=au bF;rw[if_neg (by rw[a2];simp)]at g;have bO:=aU (o:=0) g;have cr:=aU (o:=1) g;have z0:=b3 (o:=0) g;have cN:=b3 (o:=1) g)
    rotate_right 11
    rotate_left 2
    focus (
     rcases Bool.eq_false_or_eq_true q with rfl|rfl
     focus (have ck:=(show ∀w,Sem.run (ao A) (method (Tryz.progTables.types.size+100) M (.agg #[]) "gladstone/fee.of") w=.ok (177,.agg #[]) w from ba.out))
     rotate_left 1
     focus (have ck:=(show ∀w,Sem.run (ao A) (method (Tryz.progTables.types.size+100) M (.agg #[]) "gladstone/fee.of") w=.ok (176,.agg #[]) w from ba.out))
     rotate_left 1)
    rotate_right 2
    all_goals (refine wpOpIn_step rfl (λcs aj=>?_);go_simp)
    rotate_left 2
    focus (gi_wp2_with (first|(refine⟨trivial,?_⟩;gi_at_call 177;refine(CallsIn.inRound l (callsIn_wide.2 (xe true _ _ _))).mono ?_;rintro e u ⟨rfl,m⟩)|(gi_at_call 177;refine(CallsIn.inRound l (callsIn_wide.2 (xe true _ _ _))).mono ?_;rintro e u ⟨rfl,m⟩)))
    rotate_right 2
    rotate_left 3
    focus (gi_wp2_with (first|(refine⟨trivial,?_⟩;gi_at_call 176;refine(CallsIn.inRound l (callsIn_wide.2 (xe false _ _ _))).mono ?_;rintro e u ⟨rfl,m⟩)|(gi_at_call 176;refine(CallsIn.inRound l (callsIn_wide.2 (xe false _ _ _))).mono ?_;rintro e u ⟨rfl,m⟩)))
    rotate_right 3
    rotate_left 8
    focus (gi_wp2_with (first|(refine⟨trivial,?_⟩;gi_at_call 32;refine(CallsIn.inRound l (callsIn_wide.2 (si K ce cm b9 ad x.1.1 x.1.2 x.2.1 x.2.2 _ aa))).mono ?_;rintro e u ⟨rfl,a1,m⟩)))
    rotate_right 8
    rotate_left 9
    focus (gi_wp2_with (first|(refine⟨trivial,?_⟩;gi_at_call 33;refine(CallsIn.inRound l (callsIn_wide.2 (oT _ _))).mono ?_;rintro e cu ⟨rfl,rfl⟩)))
    rotate_right 9
    all_goals (try refine aj _ _ ?_)
    all_goals rw[ap.out]
    all_goals refine⟨_,_,_,_,_,_,_,_,_,_,_,rfl,⟨?_,?_,?_,?_,?_,?_,?_,?_,?_,?_,?_,?_⟩,?_,?_⟩
    all_goals first
     |exact λ_=>rfl
     |exact aa
     |exact f
     |simpa [i']using V
     |simpa [i']using ah
     |simpa [i']using aP
     |simpa [i']using aQ
     |simpa [i']using aR
     |simpa [i']using bd
     |simpa [i']using bf
     |simpa [i']using aS
     |simpa [i']using bh
     |simpa [i']using bk
     |simpa [i']using au
     |simpa [i']using bc
     |(simp[i'];done)
     |(simp[i',bF];done)
     |exact a1
     |exact ss f m
     |exact K.keep _ _ none aa m lV
     |exact ng f m (λr e=>by cases e)
     |exact K.keep _ _ none aa bT lV
     |exact ng f (dU _ _ none) (λr e=>by cases e)
     |exact K.keep _ _ (some gX) aa (e7 (e7 (e6 _ _))) (λb e=>by have:=bD e;omega)
     |exact lW (lW f ai) ai
     |(intro h;obtain⟨gX,ai,b2,g⟩:=au (by simpa [i']using h);exact⟨gX,ai,b2,by simpa [i']using(m.block gX (bu g) (by first|(simp;done)|exact J _ U)).trans g⟩)
     |exact λ_=>⟨_,f.size,rfl,by simpa [i',a2]using jA _ _ _ rfl⟩
     |exact λ_=>⟨gX,ai,rfl,(cU (cU g)).trans (by rw[if_pos (by simp[i'])];rfl)⟩
   .intro L a w' C I
    rw[ap.out]at I ⊢;obtain⟨ay,az,aA,aB,aC,aD,aE,aG,aH,aI,aJ,rfl,h,aa,f⟩:=I;refine⟨rfl,_,_,_,_,_,_,_,_,_,_,_,rfl,?_,aa,f⟩;simpa [C 0 a6,C 1 a6,C 2 a6,C 3 a6,C 4 a6,C 5 a6,C 6 a6,C 7 a6,C 8 a6,C 9 a6,C 10 a6,C 11 a6]using h
   .rw[ap.out]
    refine⟨undef,undef,undef,undef,undef,undef,undef,undef,undef,undef,undef,rfl,⟨?_,?_,?_,?_,?_,?_,?_,?_,?_,?_,?_,?_⟩,K.keep _ _ none H.out.j ⟨rfl,rfl,rfl,bg,λ_ _ _=>rfl⟩ lV,⟨rfl,rfl,rfl,bg,λ_ _ _=>rfl⟩⟩;all_goals (intro h;cases h)
  .rintro e af u ⟨rfl,I⟩
   rw[ap.out]at I;obtain⟨ay,az,aA,aB,aC,aD,aE,aG,aH,aI,aJ,rfl,⟨V,-,-,-,-,-,-,-,-,-,au,-⟩,a1,m⟩:=I;obtain rfl:=V rfl;obtain⟨gX,ai,rfl,g⟩:=au rfl;rw[if_pos rfl]at g;have z:=H.out.step m (λr e=>.inl (bD e).symm) a1;have cB:=z.pJ;have bO:=aU (o:=0) g;have cr:=aU (o:=1) g;have bq:nK 163:=.inr (.inr rfl);have cn:∀w,Sem.run (ao A) (zeroValue 4) w=.ok (.bool false) w:=λw=>av
   have bA:∀w,Sem.run (ao A) (zeroValue 3) w=.ok (.int .i64 0) w:=λw=>av
   have bp:=Jk q (first k) bj pre;have aW:=sy (ao.underlying178 A) bq cn z.fG ((gh q x:Nat):Int) (ha (first k) bj x.1.1 x.1.2) false;have aM:=al m;by_cases aY:(((gh q x:Nat):Int),(ha (first k) bj x.1.1 x.1.2))∈(ff q (first k) bj pre).seen
   .replace aW:Sem.run (ao A) (Instr.lookup 159 (.map (some (w.heap.size+1+1+1))) (.agg #[.int .i64 ((gh q x:Nat):Int),.int .i64 (ha (first k) bj x.1.1 x.1.2)]) false) u=.ok (.bool true) u:=aW.trans (by simp[o0,aY])
    have ae:=al z;clear z m bp;gi_wp2
    exact⟨KeepsFrom.of_grownBy aM.out (λj e=>by have:=bD e;omega),gP.grown aM.out (J _ (by have:=ae.out.lt;omega)),ae.out.seen aY⟩
   .replace aW:Sem.run (ao A) (Instr.lookup 159 (.map (some (w.heap.size+1+1+1))) (.agg #[.int .i64 ((gh q x:Nat):Int),.int .i64 (ha (first k) bj x.1.1 x.1.2)]) false) u=.ok (.bool false) u:=aW.trans (by simp[o0,aY])
    have F:∀b r:Nat,b≠r->some b≠some r:=λb r ah e=>ah (bD e)
    obtain⟨aZ,bv,bB,ag,z9⟩:=Dx (ao.underlying178 A) bq z.fG ((gh q x:Nat):Int) (ha (first k) bj x.1.1 x.1.2) (.bool true);replace bv:Sem.run (ao A) (Instr.mapUpdate 159 (.map (some (w.heap.size+1+1+1))) (.agg #[.int .i64 ((gh q x:Nat):Int),.int .i64 (ha (first k) bj x.1.1 x.1.2)]) (.bool true)) u=.ok () aZ:=bv;have b1:=ag.cell z.jW (F _ _ dT);have cq:=ag.cell bO (F _ _ dT);have a8:=z.gK.keep ag (F _ _ U);have ch:Sem.run (ao A) (Instr.lookup 160 (.map (some (w.heap.size+1+1+1+1+1))) (.int .i64 ((gh q x:Nat):Int)) false) aZ=.ok (.int .i64 (ix (gh q x) (ff q (first k) bj pre).seen)) aZ:=(wT (ao.underlying179 A) rfl bA a8 ((gh q x:Nat):Int) false).trans (by
     unfold p1;by_cases V:(ix (gh q x) (ff q (first k) bj pre).seen)=0
     .simp[V]
     .simp[V])
    obtain⟨am,a5,a7,ar,cO⟩:=Dt (ao.underlying179 A) rfl a8 ((gh q x:Nat):Int) (.int .i64 ((ix (gh q x) (ff q (first k) bj pre).seen)+1:Nat));replace a5:Sem.run (ao A) (Instr.mapUpdate 160 (.map (some (w.heap.size+1+1+1+1+1))) (.int .i64 ((gh q x:Nat):Int)) (.int .i64 (((ix (gh q x) (ff q (first k) bj pre).seen):Int)+1))) aZ=.ok () am:=a5;have cC:=ar.cell b1 (F _ _ dT);have cM:=ar.cell cq (F _ _ dT);have cg:Sem.run (ao A) (Instr.lookup 160 (.map (some (w.heap.size+1+1+1+1+1))) (.int .i64 ((gh q x:Nat):Int)) false) am=.ok (.int .i64 (((ix (gh q x) (ff q (first k) bj pre).seen):Int)+1)) am:=(wT (ao.underlying179 A) rfl bA a7 ((gh q x:Nat):Int) false).trans (by simp[oW]);have aV:=(ar.block _ (by rw[z9];have:=z.dD;omega) (F _ _ U)).trans ((ag.block _ (by have:=z.dD;omega) (F _ _ U)).trans z.t9);have t9:=aU (o:=0) aV;have f9:=b3 (o:=0) aV;have cb:(ix (gh q x) (ff q (first k) bj pre).seen)<=pre.length:=cL List.countP_le_length bp.1;have ae:=al z;have bZ:=al bB;have aL:=al ag;have bY:=al a7;have aK:=al ar;have bP:=al aV;clear z m bB ag a7 ar aV a8;obtain⟨aN,a3⟩:∃aN,(ix (gh q x) (ff q (first k) bj pre).seen)=aN:=⟨_,rfl⟩
    rw[a3]at a5 ch cg cb;have bQ:=al a3;clear a3;gi_wp2
    have aO:am.grownBy (am.setCell ⟨w.heap.size+1+1+1+1+1+1+1,0,none⟩ (.int .i64 (max (ff q (first k) bj pre).most ((aN:Int)+1)))) (some (w.heap.size+1+1+1+1+1+1+1)):=e7 (e6 _ _);have aS:(am.setCell ⟨w.heap.size+1+1+1+1+1+1+1,0,none⟩ (.int .i64 (max (ff q (first k) bj pre).most ((aN:Int)+1)))).heap[w.heap.size+1+1+1+1+1+1+1]?=some (.cells #[.int .i64 (max (ff q (first k) bj pre).most ((ix (gh q x) (ff q (first k) bj pre).seen)+1:Nat))] 3):=by rw[bQ.out];exact cU bP.out
    have ci:=ae.out.lt;refine⟨((KeepsFrom.of_grownBy aM.out (λj e=>by have:=bD e;omega)).trans (KeepsFrom.of_grownBy aL.out (λj e=>by have:=bD e;omega))).trans ((KeepsFrom.of_grownBy aK.out (λj e=>by have:=bD e;omega)).trans (KeepsFrom.of_grownBy aO (λj e=>by have:=bD e;omega))),(((gP.grown aM.out (J _ U)).t (gP.grown aL.out (F _ _ U))).t (gP.grown aK.out (F _ _ U))).t (gP.grown aO (F _ _ U)),?_⟩;refine ae.out.met aY bZ.out aL.out bY.out aK.out aS aO ?_;exact K.keep _ _ _ (K.keep _ _ _ (K.keep _ _ _ ae.out.j aL.out (λb e=>by have:=bD e;omega)) aK.out (λb e=>by have:=bD e;omega)) aO (λb e=>by have:=bD e;omega)
 case done=>
  rintro D ys W bl rfl br aj;have z9:=aU (o:=0) br.t9;have H:=al br;have bS:=al aj;have bR:=al bl;clear br aj bl;gi_wp2
  refine⟨aF,.inl ⟨_,_,rfl,run_takeDeferred bS.out,?_⟩⟩;refine⟨_,results_tmp rfl _ _ _,?_⟩;have bb:=grownBy_putObj' W D (.deferred none);have cJ:=aw.dD;have b5:B<=w.heap.size:=K.size w ax;have cE:=bR.out;exact⟨rfl,K.keep _ _ _ H.out.j bb (λb e=>by have:=bD e;omega),ng H.out.fY bb (λr e=>by have:=bD e;right;omega)⟩
 case stop=>
  rintro D c pre W _ _ h _;exact h.elim
end
end Go.aO
