/- A part. -/
import Derived.Test.YtoebddanaobpaaaGreatDoorP23
set_option maxHeartbeats 8000000
set_option maxRecDepth 100000
set_option linter.all false
namespace Go.aO
open Go.Proofs Tryz Go.RowKit Go.Maps Go.Shelf
variable{k:Nat}{W w:S7}{c:TQ}
section
variable{A:TJ}
def sU(q:Ta):S9:=.iface (if q then 109 else 105) (.agg #[])
def Ap(q:Ta):Tw:=if q then 180 else 179
def gh(q:Ta)(x:fT):Nat:=if q then x.1.2 else x.1.1
def xe[S:Std A](q:Ta)(a b:Nat)(w:S7):
 Calls (ao A) (Ap q) #[.agg #[],.agg #[ah a,ah b]] w λe w'=>e=.returned (ah (if q then b else a:Nat))/\w.grownBy w' none:=by
 cases q
 .show Calls (ao A) 179 _ _ _
  go_enter (S.f func179),ntmps179;go_wp2;go_ret;exact⟨S6,bT.trans bT⟩
 .show Calls (ao A) 180 _ _ _
  go_enter (S.f func180),ntmps180;go_wp2;go_ret;exact⟨S6,bT.trans bT⟩
def BP(s t:Tg)(w:S7)(h:(s=105/\t=109)\/(s=109/\t=105)):Sem.run (ao A) (Instr.typeAssert (.iface s (.agg #[])) 107 t true) w=.ok (.tuple #[.agg #[],.bool false]) w:=by rcases h with⟨rfl,rfl⟩|⟨rfl,rfl⟩<;>kernel_rfl
def BQ(s:Tg)(w:S7)(h:s=105\/s=109):Sem.run (ao A) (Instr.typeAssert (.iface s (.agg #[])) 107 s true) w=.ok (.tuple #[.agg #[],.bool true]) w:=by rcases h with rfl|rfl<;>kernel_rfl
def Mz[S:Std A](q:Ta)(w:S7):Calls (ao A) 43 #[sU q] w λe w'=>e=.returned (ah (if q then 1 else 0))/\w'=w:=by
 cases q
 .show Calls (ao A) 43 #[.iface 105 (.agg #[])] _ _
  go_enter (S.f func43),ntmps43;have c:=BP (A:=A) 105 109 w aF;go_wp2;go_ret;exact⟨S6,S6⟩
 .show Calls (ao A) 43 #[.iface 109 (.agg #[])] _ _
  go_enter (S.f func43),ntmps43;have c:=BQ (A:=A) 109 w aF;go_wp2;go_ret;exact⟨S6,S6⟩
structure vm where
 seen:Tb (Int×Int)
 most:Int
def ix(h:Int)(s:Tb (Int×Int)):Nat:=s.countP (λa=>a.1 == h)
def mo(q:Ta)(f:Int)(bj:Ty)(D:vm)(x:fT):vm:=
 if ((gh q x:Int),k0 f bj x)∈D.seen then D else⟨((gh q x:Int),k0 f bj x)::D.seen,max D.most (ix (gh q x) D.seen+1:Nat)⟩
def ff(q:Ta)(f:Int)(bj:Ty)(pre:Tb fT):vm:=pre.foldl (mo q f bj) ⟨[],0⟩
def CL(q:Ta)(f:Int)(bj:Ty)(pre:Tb fT)(x:fT):ff q f bj (pre++[x])=mo q f bj (ff q f bj pre) x:=by simp[ff]
def Jk(q:Ta)(f:Int)(bj:Ty)(pre:Tb fT):(ff q f bj pre).seen.length<=pre.length/\0<=(ff q f bj pre).most/\(ff q f bj pre).most<=pre.length:=by
 suffices h:∀(pre:Tb fT) (D:vm) (n:Nat),D.seen.length<=n->0<=D.most->D.most<=n->(pre.foldl (mo q f bj) D).seen.length<=n+pre.length/\0<=(pre.foldl (mo q f bj) D).most/\(pre.foldl (mo q f bj) D).most<=(n+pre.length:Nat) by have:=h pre ⟨[],0⟩ 0 bg (Int.le_refl _) (Int.le_refl _);simpa [ff]using this
 intro pre;induction pre with
 |nil=>intro D n g c i;exact⟨g,c,i⟩
 |cons x pre j=>
  intro D n g c i;have l:ix (gh q x) D.seen<=D.seen.length:=List.countP_le_length;have d:(mo q f bj D x).seen.length<=n+1/\0<=(mo q f bj D x).most/\(mo q f bj D x).most<=(n+1:Nat):=by
   unfold mo;split
   .exact⟨U,c,U⟩
   .refine⟨?_,?_,?_⟩
    .show D.seen.length+1<=n+1
     omega
    .show(0:Int)<=max D.most _
     omega
    .show max D.most (((ix (gh q x) D.seen+1:Nat)):Int)<=_
     omega
  have:=j (mo q f bj D x) (n+1) d.1 d.2.1 d.2.2;rw[List.foldl_cons,List.length_cons,show n+(pre.length+1)=n+1+pre.length by omega];exact this
noncomputable def o0(s:Tb (Int×Int))(a b:Int):TZ:=@ite _ ((a,b)∈s) (Classical.propDecidable _) (some (.bool true)) none
def p1(s:Tb (Int×Int))(h:Int):TZ:=if ix h s=0 then none else Tn (ix h s)
def LV(s:Tb (Int×Int))(a b:Int):l1 (o0 s) a b (.bool true)=o0 ((a,b)::s):=by
 funext c d;unfold l1 o0;by_cases h:c=a/\d=b
 .obtain⟨rfl,rfl⟩:=h
  simp
 .have:(c,d)≠(a,b):=λe=>h (by simpa using e)
  simp[h,this]
def LX(s:Tb (Int×Int))(a b:Int):oW (p1 s) a (ah (ix a s+1:Nat))=p1 ((a,b)::s):=by
 funext c;unfold oW p1;by_cases h:c=a
 .subst h
  have:ix c ((c,b)::s)=ix c s+1:=by simp[ix]
  rw[this];simp
 .have d:¬a=c:=λe=>h e.symm
  have:ix c ((a,b)::s)=ix c s:=by simp[ix,d]
  rw[this];simp[h]
structure kR(bf:TQ)(T k:Nat)(q:Ta)(f:Int)(bj:Ty)(w:S7)(pre:Tb fT)(W:S7):Prop where
 t3:W.cell? (Ti w.heap.size)=some (Tj T)
 t4:W.cell? (Ti (w.heap.size+1))=some (sU q)
 t5:W.cell? (Ti (w.heap.size+1+1))=Tn k
 fG:ij W (w.heap.size+1+1+1) (o0 (ff q f bj pre).seen)
 pJ:W.cell? (Ti (w.heap.size+1+1+1+1))=some (.map (some (w.heap.size+1+1+1)))
 gK:j' W (w.heap.size+1+1+1+1+1) (p1 (ff q f bj pre).seen)
 jW:W.cell? (Ti (w.heap.size+1+1+1+1+1+1))=some (.map (some (w.heap.size+1+1+1+1+1)))
 t9:W.heap[w.heap.size+1+1+1+1+1+1+1]?=some (.cells #[ah (ff q f bj pre).most] 3)
 j:bf W
 fY:w.grownBy W (some T)
 dD:w.heap.size+9<=W.heap.size
 lt:T<w.heap.size
def kR.step{g:TQ}{T:Nat}{q:Ta}{f:Int}{bj:Ty}{pre:Tb fT}{d':S7}{row:TN}(h:kR g T k q f bj w pre W)(c:W.grownBy d' row)(i:∀r,row=some r->r=T\/w.heap.size+9<=r)(l:g d'):kR g T k q f bj w pre d':=by
 have j:=h.lt;have o:=h.dD;have d:∀b,w.heap.size<=b->b<w.heap.size+9->some b≠row:=λb m n e=>by rcases i b e.symm with rfl|ax<;>omega
 refine⟨c.cell h.t3 (d _ dT dT),c.cell h.t4 (d _ dT dT),c.cell h.t5 (d _ dT dT),h.fG.keep c (d _ U U),c.cell h.pJ (d _ dT dT),
  h.gK.keep c (d _ U U),c.cell h.jW (d _ dT dT),(c.block _ U (d _ U U)).trans h.t9,l,ng h.fY c (λr e=>(i r e).imp id U),cL h.dD c.size,j⟩
def kR.seen{T:Nat}{q:Ta}{f:Int}{bj:Ty}{pre:Tb fT}{x:fT}(h:kR c T k q f bj w pre W)(d:((gh q x:Int),k0 f bj x)∈(ff q f bj pre).seen):kR c T k q f bj w (pre++[x]) W:=by
 have e:ff q f bj (pre++[x])=ff q f bj pre:=by rw[CL,mo,Tq d]
 exact⟨h.t3,h.t4,h.t5,by rw[e];exact h.fG,h.pJ,by rw[e];exact h.gK,h.jW,by rw[e];exact h.t9,h.j,h.fY,h.dD,h.lt⟩
def kR.met{l:TQ}{T:Nat}{q:Ta}{f:Int}{bj:Ty}{pre:Tb fT}{x:fT}{m n d:S7}(h:kR l T k q f bj w pre W)(E:((gh q x:Int),k0 f bj x)∉(ff q f bj pre).seen)(u:ij m (w.heap.size+1+1+1) (l1 (o0 (ff q f bj pre).seen) (gh q x) (k0 f bj x) (.bool true)))(o:W.grownBy m (some (w.heap.size+1+1+1)))(y:j' n (w.heap.size+1+1+1+1+1) (oW (p1 (ff q f bj pre).seen) (gh q x) (ah (ix (gh q x) (ff q f bj pre).seen+1:Nat))))(j:m.grownBy n (some (w.heap.size+1+1+1+1+1)))(F:d.heap[w.heap.size+1+1+1+1+1+1+1]?=some (.cells #[ah (max (ff q f bj pre).most (ix (gh q x) (ff q f bj pre).seen+1:Nat))] 3))(i:n.grownBy d (some (w.heap.size+1+1+1+1+1+1+1)))(D:l d):kR l T k q f bj w (pre++[x]) d:=by
 have C:=h.lt;have G:=h.dD;have s1:=o.size;have s2:=j.size;have H:=i.size;have c:∀b r:Nat,b≠r->some b≠some r:=λb r p e=>p (bD e)
 have e:ff q f bj (pre++[x])=⟨((gh q x:Int),k0 f bj x)::(ff q f bj pre).seen,max (ff q f bj pre).most (ix (gh q x) (ff q f bj pre).seen+1:Nat)⟩:=by rw[CL,mo,Tm E]
 have g:∀a v,a.block≠w.heap.size+1+1+1->a.block≠w.heap.size+1+1+1+1+1->a.block≠w.heap.size+1+1+1+1+1+1+1->W.cell? a=some v->d.cell? a=some v:=λa v p z B e=>i.cell (j.cell (o.cell e (c _ _ p)) (c _ _ z)) (c _ _ B)
 rw[LV]at u;rw[LX _ _ (k0 f bj x)]at y;refine⟨g _ _ dT dT dT h.t3,g _ _ dT dT dT h.t4,g _ _ dT dT dT h.t5,?_,
  g _ _ dT dT dT h.pJ,?_,g _ _ dT dT dT h.jW,?_,D,
  ng (ng (ng h.fY o (λr e=>by cases e;right;omega)) j (λr e=>by cases e;right;omega)) i (λr e=>by cases e;right;omega),U,C⟩
 .rw[e]
  exact(u.keep j (c _ _ U)).keep i (c _ _ U)
 .rw[e]
  exact y.keep i (c _ _ U)
 .rw[e]
  exact F
def lC(w:S7):Tb Obj->S7
 | []=>w
 |o::l=>lC (w.alloc o) l
def vz:∀(l:Tb Obj) (w:S7),w.grownBy (lC w l) none
 | [],w=>e6 _ _
 |o::l,w=>(dU w o none).trans (vz l (w.alloc o))
def BM:∀(l:Tb Obj) (w:S7),(lC w l).heap.size=w.heap.size+l.length
 | [],w=>rfl
 |o::l,w=>by rw[lC,BM l,cV,List.length_cons];omega
def yD:∀(l:Tb Obj) (w:S7) (i:Nat) (o:Obj),l[i]?=some o->(lC w l).heap[w.heap.size+i]?=some o
 | [],w,i,o,h=>by simp at h
 |x::l,w,0,o,h=>by
  have:x=o:=by simpa using h
  subst this;rw[lC];exact((vz l (w.alloc x)).block _ aF aF).trans (jA _ _ _ S6)
 |x::l,w,i+1,o,h=>by have:=yD l (w.alloc x) i o (by simpa using h);rw[cV]at this;rw[lC,show w.heap.size+(i+1)=w.heap.size+1+i by omega];exact this
def nR(T k:Nat)(q:Ta)(n:Nat)(st:Te):Tb Obj:=[.cells #[Tj T] 71,.cells #[sU q] 107,.cells st 52,.map #[] 0,.cells #[.map (some (n+1+1+1))] 166,.map #[] 0,.cells #[.map (some (n+1+1+1+1+1))] 167,.cells #[ah 0] 3,.cells st 52]
def kR.init{T:Nat}{q:Ta}{f:Int}{bj:Ty}{st:Te}(m:st[0]?=Tn k)(d:T<w.heap.size)(l:c (lC w (nR T k q w.heap.size st))):kR c T k q f bj w [] (lC w (nR T k q w.heap.size st)):=by
 have a:=λi o h=>yD (nR T k q w.heap.size st) w i o h
 refine⟨aU (a 0 _ S6),aU (a 1 _ S6),(aU (a 2 _ S6)).trans m,?_,aU (a 4 _ S6),?_,aU (a 6 _ S6),a 7 _ S6,l,?_,by rw[BM];exact bg,d⟩
 .have:=ij.new (lC w (nR T k q w.heap.size st)) (w.heap.size+3) 0 (a 3 _ S6)
  have e:o0 (ff q f bj []).seen=λ_ _=>none:=by funext a b;simp[o0,ff]
  rw[e];exact this
 .have:=j'.new (lC w (nR T k q w.heap.size st)) (w.heap.size+5) 0 (a 5 _ S6)
  have e:p1 (ff q f bj []).seen=λ_=>none:=by funext a;simp[p1,ff,ix]
  rw[e];exact this
 .have g:=vz (nR T k q w.heap.size st) w
  exact⟨g.os,g.tape,g.output,g.size,λi j _=>g.block i j aF⟩
end
end Go.aO
namespace Go.aO
attribute [local go_sem] Oper.semAt_some
open Go.Proofs Tryz Go.RowKit Go.Maps Go.Shelf
section
variable{A:TJ}
def Ma(q:Ta)(w:S7):Sem.run (ao A) (method (Tryz.progTables.types.size+100) (if q then 109 else 105) (.agg #[]) "gladstone/fee.of") w=.ok (Ap q,.agg #[]) w:=by cases q<;>kernel_rfl
def ss{a b c:S7}{T:Nat}(h:a.grownBy b (some T))(k:b.grownBy c (some T)):a.grownBy c (some T):=
 ⟨h.os ▸ k.os,k.tape.trans h.tape,k.output.trans h.output,cL h.size k.size,λi d f=>(k.block i (gu d h.size) f).trans (h.block i d f)⟩
def Jj[S:Std A][eY:jx A]{P:TQ}{T B b1 cq ba cA:Nat}{first:Ty}(K:pB P T B b1 cq ba cA first){k:Nat}(cf:k<ba)(cn:ba<=1000){bj:Ty}(ca:∀d,0<=bj d/\bj d<=1000000)(ad:pA A P T k bj)(q:Ta)(p n fm y:Nat)(cg:p<=n)(b7:n<120)(ce:y<120)(hm:fm<120)(w:S7)(ax:P w):
 CallsIn Fence.wide 8 (ao A) 42 #[Tj T,sU q,.agg #[ah k,ah p,ah n,ah fm,ah y]] w λe w'=>e=.returned (ah (ff q (first k) bj (hN p fm y (n-p+1))).most)/\P w'/\w.grownBy w' (some T):=by
 have cI:=@run_makeMap (ao A);have b5:Fence.wide.fn 40:=Tf;have bk:Fence.wide.fn 65:=Tf;have b9:T<w.heap.size:=by have:=K.lt;have:=K.size w ax;omega
 have aT:kR P T k q (first k) bj w [] (lC w (nR T k q w.heap.size #[ah k,ah p,ah n,ah fm,ah y])):=kR.init S6 b9 (K.keep _ _ none ax (vz _ _) lV);have Z:=yD (nR T k q w.heap.size #[ah k,ah p,ah n,ah fm,ah y]) w 8 _ S6;obtain⟨ar,aV⟩:∃ar,lC w (nR T k q w.heap.size #[ah k,ah p,ah n,ah fm,ah y])=ar:=⟨_,S6⟩
 rw[aV]at aT Z;have b8:m6 ar (w.heap.size+1+1+1+1+1+1+1+1) p n fm y:=⟨aU Z,aU Z,aU Z,aU Z⟩
 have ck:w.heap.size+1+1+1+1+1+1+1+1<ar.heap.size:=bu Z;obtain⟨M,aY,bt⟩:∃M,sU q=.iface M (.agg #[])/\∀w,Sem.run (ao A) (method (Tryz.progTables.types.size+100) M (.agg #[]) "gladstone/fee.of") w=.ok (Ap q,.agg #[]) w:=⟨_,S6,Ma q⟩
 have bb:=al bt;clear bt;rw[nR,aY]at aV;rw[aY];have bV:=al aY;clear aY;have bW:=al aV;clear aV Z;refine callsIn_of_wp_marks eY.f62 S6 Tf ?_ S6;simp only[ntmps42,List.size_toArray,List.length_cons,List.length_nil,Nat.reduceAdd,Nat.reduceSub,Array.replicate_succ,Array.replicate_zero,List.push_toArray,List.append_toArray,List.nil_append,List.cons_append];gi_wp2_with (gi_at_call 40;refine(yR Fence.wide 7 b5 S6 _ _ _ _ _ _).mono ?_;rintro e w' ⟨rfl,rfl⟩)
 have a1:=bW.out;simp only[lC]at a1;rw[a1];clear a1;refine wpIn_rangeFunc_ownH S6 a6 (gf:=65) (lb:=#[Tj (w.heap.size+1+1+1+1+1+1+1+1)]) S6 bk (enters_of (S.f func65) av S6)
  (yS Fence.wide 7 bk rfl a6 (w.heap.size+1+1+1+1+1+1+1+1) p n fm y cg b7 ce hm ar ck b8) gP.t (λW l o cp _ h cb _=>gP.b W l o cp h cb) (Below.refl _ _) (λ_=>S6)
  (λpre W=>kR P T k q (first k) bj w pre W) (λ_ _ _=>False)
  (λcK cw Y row am f ad=>kR.step am f (λr e=>.inr (by have:=(ad r e).1;have:=aT.dD;omega)) (K.keep _ _ _ am.j f (λr e=>by have:=(ad r e).1;have:=aT.dD;have:=K.size w ax;omega)))
  (λ_ _ _ _ _ am _ _=>am) aT
  (λx af W=>∃G,w.heap.size+9<=G/\W.cell? (Ti G)=Tn x.1.1/\W.cell? (S8 G 1)=Tn x.1.2/\af={tmps:=#[Tj T,.iface M (.agg #[]),.agg #[ah k,ah p,ah n,ah fm,ah y],Tj w.heap.size,Tj (w.heap.size+1),Tj (w.heap.size+1+1),ah 0,Tj (w.heap.size+1+1+1+1),Tj (w.heap.size+1+1+1+1+1+1),Tj (w.heap.size+1+1+1+1+1+1+1),Tj G,undef,.map (some (w.heap.size+1+1+1)),.map (some (w.heap.size+1+1+1+1+1)),.agg #[ah k,ah p,ah n,ah fm,ah y],.func (.func 65) #[] #[Tj (w.heap.size+1+1+1+1+1+1+1+1)],.agg #[ah x.1.1,ah x.1.2],undef,undef,undef,undef,undef,undef,undef,undef,undef,undef,undef,undef,undef,undef,undef,undef,undef,undef,undef,undef,undef,undef,undef,undef,undef,undef,undef],defers:=[]})
  (λx af _ X Y row am f ad=>by obtain⟨G,ai,aP,aQ,aR⟩:=am;exact⟨G,ai,cell_kept aP f (λr e=>(ad r e).2),cell_kept aQ f (λr e=>(ad r e).2),aR⟩) ?assign ?body ?done ?stop
 case assign=>
  rintro l pre x W cu a5 ak;have bx:=a5.dD;gi_wp2
  refine ak _ _ ((KeepsOthers.alloc _ _).from _) (gP.grown (dU _ _ none) aF) (a5.step (dU _ _ none) (λr e=>by cases e) (K.keep _ _ none a5.j bT lV)) ⟨W.heap.size,bx,dR S6,dR S6,S6⟩
 case body=>
  rintro l pre x af W cH cJ br ⟨G,cE,bz,bA,rfl⟩ cj;have cm:(ao A).follows .mixedOrders=true:=av;have b6:B<=w.heap.size:=K.size w ax;have H:=al br;have bX:=al bz;have bY:=al bA;have bx:=br.dD;have J:∀b,b≠T->some b≠some T:=λb h e=>h (bD e)
  clear br bz bA;gi_wp2
  obtain⟨R,bp⟩:∃R:(Nat->Ta)->Act->S7->Prop,R=λL a w'=>∃ay az aA aB aC aD aE aG aH aI aJ:S9,a={tmps:=#[Tj T,.iface M (.agg #[]),.agg #[ah k,ah p,ah n,ah fm,ah y],Tj w.heap.size,Tj (w.heap.size+1),Tj (w.heap.size+1+1),ah 0,Tj (w.heap.size+1+1+1+1),Tj (w.heap.size+1+1+1+1+1+1),Tj (w.heap.size+1+1+1+1+1+1+1),Tj G,ay,.map (some (w.heap.size+1+1+1)),.map (some (w.heap.size+1+1+1+1+1)),.agg #[ah k,ah p,ah n,ah fm,ah y],.func (.func 65) #[] #[Tj (w.heap.size+1+1+1+1+1+1+1+1)],.agg #[ah x.1.1,ah x.1.2],az,aA,aB,aC,aD,aE,aG,aH,aI,aJ,undef,undef,undef,undef,undef,undef,undef,undef,undef,undef,undef,undef,undef,undef,undef,undef,undef],defers:=[]}/\((L 0=true->az=.iface M (.agg #[]))/\(L 1=true->aA=.agg #[ah x.1.1,ah x.1.2])/\(L 2=true->aB=ah ((gh q x:Nat):Int))/\(L 3=true->aC=Tj T)/\(L 4=true->aD=Tj (w.heap.size+1+1))/\(L 5=true->aE=ah k)/\(L 6=true->aG=.agg #[ah x.1.1,ah x.1.2])/\(L 7=true->aH=ah (ha (first k) bj x.1.1 x.1.2))/\(L 8=true->aI=ah (ha (first k) bj x.1.1 x.1.2))/\(L 9=true->aJ=.agg #[ah ((gh q x:Nat):Int),ah (ha (first k) bj x.1.1 x.1.2)])/\(L 10=true->∃gX,W.heap.size<=gX/\ay=Tj gX/\w'.heap[gX]?=some (.cells (if L 11=true then #[ah ((gh q x:Nat):Int),ah (ha (first k) bj x.1.1 x.1.2)]else #[ah 0,ah 0]) 170))/\(L 11=true->L 10=true))/\P w'/\W.grownBy w' (some T):=⟨_,S6⟩
  have aq:=al bp;clear bp;refine Go.wpIn_mono (Q:=λe af u=>e=.normal/\R (λ_=>true) af u) ?_ ?_
  .refine Sq (R:=R) cm av ?_ ?_ ?_
   .intro L i o a w' bv bn hp I
    rw[aq.out]at I;obtain⟨ay,az,aA,aB,aC,aD,aE,aG,aH,aI,aJ,rfl,⟨V,ai,aP,aQ,aR,bf,bh,aS,bi,bl,aw,bd⟩,aa,f⟩:=I;have cx:=f.cell H.out.t3 (J _ dT);have cy:=(f.cell H.out.t4 (J _ dT)).trans (congrArg some bV.out);have cz:=f.cell H.out.t5 (J _ dT);have cG:=f.cell bX.out (J _ dT);have cB:=f.cell bY.out (J _ dT);have E:=λj h=>hp {on:=j,ground:=.data} h S6
    have bE:=E 0;have bF:=E 1;have bH:=E 2;have bI:=E 3;have bJ:=E 4;have bK:=E 5;have bL:=E 6;have bM:=E 7;have bN:=E 8;have bO:=E 9;clear E;rcases i with _|_|_|_|_|_|_|_|_|_|_|_|i
    rotate_left 12
    focus (simp at bv)
    all_goals obtain rfl:_=o:=(by simpa using bv)
    all_goals simp at bE bF bH bI bJ bK bL bM bN bO
    all_goals try (have e:=V bE;subst e)
    all_goals try (have e:=ai bF;subst e)
    all_goals try (have e:=aP bH;subst e)
    all_goals try (have e:=aQ bI;subst e)
    all_goals try (have e:=aR bJ;subst e)
    all_goals try (have e:=bf bK;subst e)
    all_goals try (have e:=bh bL;subst e)
    all_goals try (have e:=aS bM;subst e)
    all_goals try (have e:=bi bN;subst e)
    all_goals try (have e:=bl bO;subst e)
    rotate_left 10
    focus (
     have bo:L 10=false:=bn;have a3:L 11=false:=by
      cases h:L 11 with
      |false=>rfl
      |true=>rw[bd h]at bo;cases bo)
    rotate_right 10
    rotate_left 11
    focus (
     have bG:L 10=true:=hp {on:=10,ground:=.data} aF S6;have a3:L 11=false:=bn;obtain⟨gX,aj,rfl,g⟩:=aw bG;rw[Tm (by rw[a3];simp)]at g;have bP:=aU (o:=0) g;have cs:=aU (o:=1) g;have z0:=b3 (o:=0) g;have cN:=b3 (o:=1) g)
    rotate_right 11
    rotate_left 2
    focus (
     rcases Bool.eq_false_or_eq_true q with rfl|rfl
     focus (have cl:=(show ∀w,Sem.run (ao A) (method (Tryz.progTables.types.size+100) M (.agg #[]) "gladstone/fee.of") w=.ok (180,.agg #[]) w from bb.out))
     rotate_left 1
     focus (have cl:=(show ∀w,Sem.run (ao A) (method (Tryz.progTables.types.size+100) M (.agg #[]) "gladstone/fee.of") w=.ok (179,.agg #[]) w from bb.out))
     rotate_left 1)
    rotate_right 2
    all_goals (refine wpOpIn_step S6 (λct ak=>?_);go_simp)
    rotate_left 2
    focus (gi_wp2_with (first|(refine⟨Tf,?_⟩;gi_at_call 180;refine(CallsIn.inRound l (callsIn_wide.2 (xe true _ _ _))).mono ?_;rintro e u ⟨rfl,m⟩)|(gi_at_call 180;refine(CallsIn.inRound l (callsIn_wide.2 (xe true _ _ _))).mono ?_;rintro e u ⟨rfl,m⟩)))
    rotate_right 2
    rotate_left 3
    focus (gi_wp2_with (first|(refine⟨Tf,?_⟩;gi_at_call 179;refine(CallsIn.inRound l (callsIn_wide.2 (xe false _ _ _))).mono ?_;rintro e u ⟨rfl,m⟩)|(gi_at_call 179;refine(CallsIn.inRound l (callsIn_wide.2 (xe false _ _ _))).mono ?_;rintro e u ⟨rfl,m⟩)))
    rotate_right 3
    rotate_left 8
    focus (gi_wp2_with (first|(refine⟨Tf,?_⟩;gi_at_call 36;refine(CallsIn.inRound l (callsIn_wide.2 (si K cf cn ca ad x.1.1 x.1.2 x.2.1 x.2.2 _ aa))).mono ?_;rintro e u ⟨rfl,a2,m⟩)))
    rotate_right 8
    rotate_left 9
    focus (gi_wp2_with (first|(refine⟨Tf,?_⟩;gi_at_call 31;refine(CallsIn.inRound l (callsIn_wide.2 (oT _ _))).mono ?_;rintro e cv ⟨rfl,rfl⟩)))
    rotate_right 9
    all_goals (try refine ak _ _ ?_)
    all_goals rw[aq.out]
    all_goals refine⟨_,_,_,_,_,_,_,_,_,_,_,S6,⟨?_,?_,?_,?_,?_,?_,?_,?_,?_,?_,?_,?_⟩,?_,?_⟩
    all_goals first
     |exact λ_=>S6
     |exact aa
     |exact f
     |simpa [i']using V
     |simpa [i']using ai
     |simpa [i']using aP
     |simpa [i']using aQ
     |simpa [i']using aR
     |simpa [i']using bf
     |simpa [i']using bh
     |simpa [i']using aS
     |simpa [i']using bi
     |simpa [i']using bl
     |simpa [i']using aw
     |simpa [i']using bd
     |(simp[i'];done)
     |(simp[i',bG];done)
     |exact a2
     |exact ss f m
     |exact K.keep _ _ none aa m lV
     |exact ng f m (λr e=>by cases e)
     |exact K.keep _ _ none aa bT lV
     |exact ng f (dU _ _ none) (λr e=>by cases e)
     |exact K.keep _ _ (some gX) aa (e7 (e7 (e6 _ _))) (λb e=>by have:=bD e;omega)
     |exact lW (lW f aj) aj
     |(intro h;let⟨gX,aj,b4,g⟩:=aw (by simpa [i']using h);exact⟨gX,aj,b4,by simpa [i']using(m.block gX (bu g) (by first|(simp;done)|exact J _ U)).trans g⟩)
     |exact λ_=>⟨_,f.size,S6,by simpa [i',a3]using jA _ _ _ S6⟩
     |exact λ_=>⟨gX,aj,S6,(cU (cU g)).trans (by rw[Tq (by simp[i'])];rfl)⟩
   .intro L a w' C I
    rw[aq.out]at I ⊢;obtain⟨ay,az,aA,aB,aC,aD,aE,aG,aH,aI,aJ,rfl,h,aa,f⟩:=I;refine⟨S6,_,_,_,_,_,_,_,_,_,_,_,S6,?_,aa,f⟩;simpa [C 0 a6,C 1 a6,C 2 a6,C 3 a6,C 4 a6,C 5 a6,C 6 a6,C 7 a6,C 8 a6,C 9 a6,C 10 a6,C 11 a6]using h
   .rw[aq.out]
    refine⟨undef,undef,undef,undef,undef,undef,undef,undef,undef,undef,undef,S6,⟨?_,?_,?_,?_,?_,?_,?_,?_,?_,?_,?_,?_⟩,K.keep _ _ none H.out.j ⟨S6,S6,S6,bg,λ_ _ _=>S6⟩ lV,⟨S6,S6,S6,bg,λ_ _ _=>S6⟩⟩;all_goals (intro h;cases h)
  .rintro e af u ⟨rfl,I⟩
   rw[aq.out]at I;obtain⟨ay,az,aA,aB,aC,aD,aE,aG,aH,aI,aJ,rfl,⟨V,-,-,-,-,-,-,-,-,-,aw,-⟩,a2,m⟩:=I;obtain rfl:=V S6;obtain⟨gX,aj,rfl,g⟩:=aw S6;rw[Tq S6]at g;have z:=H.out.step m (λr e=>.inl (bD e).symm) a2;have cC:=z.pJ;have bP:=aU (o:=0) g;have cs:=aU (o:=1) g;have bs:nK 170:=.inr (.inr S6);have co:∀w,Sem.run (ao A) (zeroValue 4) w=.ok (.bool false) w:=λw=>av
   have bB:∀w,Sem.run (ao A) (zeroValue 3) w=.ok (ah 0) w:=λw=>av
   have bq:=Jk q (first k) bj pre;have aX:=sy (ao.underlying178 A) bs co z.fG ((gh q x:Nat):Int) (ha (first k) bj x.1.1 x.1.2) false;have aM:=al m;by_cases aZ:(((gh q x:Nat):Int),(ha (first k) bj x.1.1 x.1.2))∈(ff q (first k) bj pre).seen
   .replace aX:Sem.run (ao A) (Instr.lookup 166 (.map (some (w.heap.size+1+1+1))) (.agg #[ah ((gh q x:Nat):Int),ah (ha (first k) bj x.1.1 x.1.2)]) false) u=.ok (.bool true) u:=aX.trans (by simp[o0,aZ])
    have ae:=al z;clear z m bq;gi_wp2
    exact⟨KeepsFrom.of_grownBy aM.out (λj e=>by have:=bD e;omega),gP.grown aM.out (J _ (by have:=ae.out.lt;omega)),ae.out.seen aZ⟩
   .replace aX:Sem.run (ao A) (Instr.lookup 166 (.map (some (w.heap.size+1+1+1))) (.agg #[ah ((gh q x:Nat):Int),ah (ha (first k) bj x.1.1 x.1.2)]) false) u=.ok (.bool false) u:=aX.trans (by simp[o0,aZ])
    have F:∀b r:Nat,b≠r->some b≠some r:=λb r ai e=>ai (bD e)
    let⟨a0,bw,bC,ag,z9⟩:=Dx (ao.underlying178 A) bs z.fG ((gh q x:Nat):Int) (ha (first k) bj x.1.1 x.1.2) (.bool true);replace bw:Sem.run (ao A) (Instr.mapUpdate 166 (.map (some (w.heap.size+1+1+1))) (.agg #[ah ((gh q x:Nat):Int),ah (ha (first k) bj x.1.1 x.1.2)]) (.bool true)) u=.ok () a0:=bw;have b2:=ag.cell z.jW (F _ _ dT);have cr:=ag.cell bP (F _ _ dT);have a9:=z.gK.keep ag (F _ _ U);have ci:Sem.run (ao A) (Instr.lookup 167 (.map (some (w.heap.size+1+1+1+1+1))) (ah ((gh q x:Nat):Int)) false) a0=.ok (ah (ix (gh q x) (ff q (first k) bj pre).seen)) a0:=(wT (ao.underlying179 A) S6 bB a9 ((gh q x:Nat):Int) false).trans (by
     unfold p1;by_cases V:(ix (gh q x) (ff q (first k) bj pre).seen)=0
     .simp[V]
     .simp[V])
    let⟨ap,a7,a8,au,cO⟩:=Dt (ao.underlying179 A) S6 a9 ((gh q x:Nat):Int) (ah ((ix (gh q x) (ff q (first k) bj pre).seen)+1:Nat));replace a7:Sem.run (ao A) (Instr.mapUpdate 167 (.map (some (w.heap.size+1+1+1+1+1))) (ah ((gh q x:Nat):Int)) (ah (((ix (gh q x) (ff q (first k) bj pre).seen):Int)+1))) a0=.ok () ap:=a7;have cD:=au.cell b2 (F _ _ dT);have cM:=au.cell cr (F _ _ dT);have ch:Sem.run (ao A) (Instr.lookup 167 (.map (some (w.heap.size+1+1+1+1+1))) (ah ((gh q x:Nat):Int)) false) ap=.ok (ah (((ix (gh q x) (ff q (first k) bj pre).seen):Int)+1)) ap:=(wT (ao.underlying179 A) S6 bB a8 ((gh q x:Nat):Int) false).trans (by simp[oW]);have aW:=(au.block _ (by rw[z9];have:=z.dD;omega) (F _ _ U)).trans ((ag.block _ (by have:=z.dD;omega) (F _ _ U)).trans z.t9);have t9:=aU (o:=0) aW;have f9:=b3 (o:=0) aW;have cc:(ix (gh q x) (ff q (first k) bj pre).seen)<=pre.length:=cL List.countP_le_length bq.1;have ae:=al z;have b0:=al bC;have aL:=al ag;have bZ:=al a8;have aK:=al au;have bQ:=al aW;clear z m bC ag a8 au aW a9;obtain⟨aN,a4⟩:∃aN,(ix (gh q x) (ff q (first k) bj pre).seen)=aN:=⟨_,S6⟩
    rw[a4]at a7 ci ch cc;have bR:=al a4;clear a4;gi_wp2
    have aO:ap.grownBy (ap.setCell (Ti (w.heap.size+1+1+1+1+1+1+1)) (ah (max (ff q (first k) bj pre).most ((aN:Int)+1)))) (some (w.heap.size+1+1+1+1+1+1+1)):=e7 (e6 _ _);have aS:(ap.setCell (Ti (w.heap.size+1+1+1+1+1+1+1)) (ah (max (ff q (first k) bj pre).most ((aN:Int)+1)))).heap[w.heap.size+1+1+1+1+1+1+1]?=some (.cells #[ah (max (ff q (first k) bj pre).most ((ix (gh q x) (ff q (first k) bj pre).seen)+1:Nat))] 3):=by rw[bR.out];exact cU bQ.out
    have cj:=ae.out.lt;refine⟨((KeepsFrom.of_grownBy aM.out (λj e=>by have:=bD e;omega)).trans (KeepsFrom.of_grownBy aL.out (λj e=>by have:=bD e;omega))).trans ((KeepsFrom.of_grownBy aK.out (λj e=>by have:=bD e;omega)).trans (KeepsFrom.of_grownBy aO (λj e=>by have:=bD e;omega))),(((gP.grown aM.out (J _ U)).t (gP.grown aL.out (F _ _ U))).t (gP.grown aK.out (F _ _ U))).t (gP.grown aO (F _ _ U)),?_⟩;refine ae.out.met aZ b0.out aL.out bZ.out aK.out aS aO ?_;exact K.keep _ _ _ (K.keep _ _ _ (K.keep _ _ _ ae.out.j aL.out (λb e=>by have:=bD e;omega)) aK.out (λb e=>by have:=bD e;omega)) aO (λb e=>by have:=bD e;omega)
 case done=>
  rintro D ys W bm rfl br ak;have z9:=aU (o:=0) br.t9;have H:=al br;have bU:=al ak;have bS:=al bm;clear br ak bm;gi_wp2
  refine⟨aF,.inl ⟨_,_,S6,run_takeDeferred bU.out,?_⟩⟩;refine⟨_,results_tmp S6 _ _ _,?_⟩;have bc:=grownBy_putObj' W D (.deferred none);have b6:B<=w.heap.size:=K.size w ax;have cF:=bS.out;exact⟨S6,K.keep _ _ _ H.out.j bc (λb e=>by have:=bD e;omega),ng H.out.fY bc (λr e=>by have:=bD e;right;omega)⟩
 case stop=>
  rintro D c pre W _ _ h _;exact h.elim
end
end Go.aO
