/- Part 29 of a law on fees: no conditions. -/
import Derived.Test.YtalhadgndijcmaaGreatDoorP27
set_option maxHeartbeats 8000000
set_option maxRecDepth 100000
set_option linter.all false
namespace Go.aN
open Go.Proofs Go.RowKit Go.Maps Go.Shelf
section
variable{A:Array Func}
def qX(q:Bool): Value:=.iface (if q then 136 else 132) (.agg #[])
def x7(q:Bool): FuncId:=if q then 198 else 197
def e5(q:Bool)(x:e1): Nat:=if q then x.1.2 else x.1.1
theorem uM[S:Std A](q:Bool)(a b:Nat)(w:World):
 Calls (ag A) (x7 q) #[.agg #[],.agg #[.int .i64 a,.int .i64 b]] w λe w'=>e=.returned (.int .i64 (if q then b else a:Nat))/\w.grownBy w' none:=by
 cases q
 . show Calls (ag A) 197 _ _ _
   go_enter (S.f Tryz.func197),Tryz.ntmps197;go_wp2;go_ret;exact⟨rfl,Pn.trans Pn⟩
 . show Calls (ag A) 198 _ _ _
   go_enter (S.f Tryz.func198),Tryz.ntmps198;go_wp2;go_ret;exact⟨rfl,Pn.trans Pn⟩
theorem zn(s t:TypeId)(w:World)(h:(s=132/\t=136)\/(s=136/\t=132)): Sem.run (ag A) (Instr.typeAssert (.iface s (.agg #[])) 134 t true) w=.ok (.tuple #[.agg #[],.bool false]) w:=by rcases h with ⟨rfl,rfl⟩|⟨rfl,rfl⟩<;>kernel_rfl
theorem zo(s:TypeId)(w:World)(h:s=132\/s=136): Sem.run (ag A) (Instr.typeAssert (.iface s (.agg #[])) 134 s true) w=.ok (.tuple #[.agg #[],.bool true]) w:=by rcases h with rfl|rfl<;>kernel_rfl
theorem Jp[S:Std A](q:Bool)(w:World): Calls (ag A) 63 #[qX q] w λe w'=>e=.returned (.int .i64 (if q then 1 else 0))/\w'=w:=by
 cases q
 . show Calls (ag A) 63 #[.iface 132 (.agg #[])] _ _
   go_enter (S.f Tryz.func63),Tryz.ntmps63;have c:=zn (A:=A) 132 136 w (by simp);go_wp2;go_ret;exact⟨rfl,rfl⟩
 . show Calls (ag A) 63 #[.iface 136 (.agg #[])] _ _
   go_enter (S.f Tryz.func63),Tryz.ntmps63;have c:=zo (A:=A) 136 w (by simp);go_wp2;go_ret;exact⟨rfl,rfl⟩
end
section
variable{A:Array Func}
structure tc where
 seen:List (Int×Int)
 most:Int
def hg(h:Int)(s:List (Int×Int)): Nat:=s.countP (λa=>a.1 == h)
def kY(q:Bool)(f:Int)(ba:Nat->Int)(D:tc)(x:e1): tc:=
 if ((e5 q x:Int),jI f ba x)∈D.seen then D else⟨((e5 q x:Int),jI f ba x)::D.seen,max D.most (hg (e5 q x) D.seen+1:Nat)⟩
def eC(q:Bool)(f:Int)(ba:Nat->Int)(pre:List e1): tc:=pre.foldl (kY q f ba) ⟨[],0⟩
theorem Ac(q:Bool)(f:Int)(ba:Nat->Int)(pre:List e1)(x:e1): eC q f ba (pre++[x])=kY q f ba (eC q f ba pre) x:=by simp[eC]
theorem F0(q:Bool)(f:Int)(ba:Nat->Int)(pre:List e1): (eC q f ba pre).seen.length<=pre.length/\0<=(eC q f ba pre).most/\(eC q f ba pre).most<=pre.length:=by
 suffices h:∀(pre:List e1) (D:tc) (n:Nat),D.seen.length<=n->0<=D.most->D.most<=n->(pre.foldl (kY q f ba) D).seen.length<=n+pre.length/\0<=(pre.foldl (kY q f ba) D).most/\(pre.foldl (kY q f ba) D).most<=(n+pre.length:Nat) by have:=h pre ⟨[],0⟩ 0 Pk (Int.le_refl _) (Int.le_refl _);simpa [eC] using this
 intro pre;induction pre with
 | nil=>intro D n g c i;exact⟨g,c,i⟩
 | cons x pre j=>
  intro D n g c i;have l:hg (e5 q x) D.seen<=D.seen.length:=List.countP_le_length;have d:(kY q f ba D x).seen.length<=n+1/\0<=(kY q f ba D x).most/\(kY q f ba D x).most<=(n+1:Nat):=by
   unfold kY;split
   . exact⟨by omega,c,by omega⟩
   . refine⟨?_,?_,?_⟩
     . show D.seen.length+1<=n+1
       omega
     . show(0:Int)<=max D.most _
       omega
     . show max D.most (((hg (e5 q x) D.seen+1:Nat)):Int)<=_
       omega
  have:=j (kY q f ba D x) (n+1) d.1 d.2.1 d.2.2;rw[List.foldl_cons,List.length_cons,show n+(pre.length+1)=n+1+pre.length by omega];exact this
noncomputable def nf(s:List (Int×Int))(a b:Int): Option Value:=@ite _ ((a,b)∈s) (Classical.propDecidable _) (some (.bool true)) none
def od(s:List (Int×Int))(h:Int): Option Value:=if hg h s=0 then none else some (.int .i64 (hg h s))
theorem IM(s:List (Int×Int))(a b:Int): kH (nf s) a b (.bool true)=nf ((a,b)::s):=by
 funext c d;unfold kH nf;by_cases h:c=a/\d=b
 . obtain⟨rfl,rfl⟩:=h
   simp
 . have:(c,d)≠(a,b):=λe=>h (by simpa using e)
   simp[h,this]
theorem IQ(s:List (Int×Int))(a b:Int): nb (od s) a (.int .i64 (hg a s+1:Nat))=od ((a,b)::s):=by
 funext c;unfold nb od;by_cases h:c=a
 . subst h
   have:hg c ((c,b)::s)=hg c s+1:=by simp[hg]
   rw[this];simp
 . have d:¬ a=c:=λe=>h e.symm
   have:hg c ((a,b)::s)=hg c s:=by simp[hg,d]
   rw[this];simp[h]
structure jz(a8:World->Prop)(T k:Nat)(q:Bool)(f:Int)(ba:Nat->Int)(w:World)(pre:List e1)(W:World): Prop where
 t3:W.cell? ⟨w.heap.size,0,none⟩=some (.pointer (some ⟨T,0,none⟩))
 t4:W.cell? ⟨w.heap.size+1,0,none⟩=some (qX q)
 t5:W.cell? ⟨w.heap.size+1+1,0,none⟩=some (.int .i64 k)
 e6:g3 W (w.heap.size+1+1+1) (nf (eC q f ba pre).seen)
 rT:W.cell? ⟨w.heap.size+1+1+1+1,0,none⟩=some (.map (some (w.heap.size+1+1+1)))
 fY:iS W (w.heap.size+1+1+1+1+1) (od (eC q f ba pre).seen)
 jE:W.cell? ⟨w.heap.size+1+1+1+1+1+1,0,none⟩=some (.map (some (w.heap.size+1+1+1+1+1)))
 t9:W.heap[w.heap.size+1+1+1+1+1+1+1]?=some (.cells #[.int .i64 (eC q f ba pre).most] 3)
 j:a8 W
 e4:w.grownBy W (some T)
 dm:w.heap.size+9<=W.heap.size
 lt:T<w.heap.size
theorem jz.step{g:World->Prop}{T k:Nat}{q:Bool}{f:Int}{ba:Nat->Int}{w:World}{pre:List e1}{W dt:World}{row:Option Nat}(h:jz g T k q f ba w pre W)(c:W.grownBy dt row)(i:∀r,row=some r->r=T\/w.heap.size+9<=r)(l:g dt): jz g T k q f ba w pre dt:=by
 have j:=h.lt;have o:=h.dm;have d:∀b,w.heap.size<=b->b<w.heap.size+9->some b≠row:=λb m n e=>by rcases i b e.symm with rfl|ax<;>omega
 refine⟨c.cell h.t3 (d _ (by dsimp only;omega) (by dsimp only;omega)),c.cell h.t4 (d _ (by dsimp only;omega) (by dsimp only;omega)),c.cell h.t5 (d _ (by dsimp only;omega) (by dsimp only;omega)),h.e6.keep c (d _ (by omega) (by omega)),c.cell h.rT (d _ (by dsimp only;omega) (by dsimp only;omega)),
  h.fY.keep c (d _ (by omega) (by omega)),c.cell h.jE (d _ (by dsimp only;omega) (by dsimp only;omega)),(c.block _ (by omega) (d _ (by omega) (by omega))).trans h.t9,l,k4 h.e4 c (λr e=>(i r e).imp id (by omega)),Po h.dm c.size,j⟩
theorem jz.seen{c:World->Prop}{T k:Nat}{q:Bool}{f:Int}{ba:Nat->Int}{w:World}{pre:List e1}{x:e1}{W:World}(h:jz c T k q f ba w pre W)(d:((e5 q x:Int),jI f ba x)∈(eC q f ba pre).seen): jz c T k q f ba w (pre++[x]) W:=by
 have e:eC q f ba (pre++[x])=eC q f ba pre:=by rw[Ac,kY,if_pos d]
 exact⟨h.t3,h.t4,h.t5,by rw[e];exact h.e6,h.rT,by rw[e];exact h.fY,h.jE,by rw[e];exact h.t9,h.j,h.e4,h.dm,h.lt⟩
theorem jz.met{l:World->Prop}{T k:Nat}{q:Bool}{f:Int}{ba:Nat->Int}{w:World}{pre:List e1}{x:e1}{W m n d:World}(h:jz l T k q f ba w pre W)(E:((e5 q x:Int),jI f ba x)∉(eC q f ba pre).seen)(u:g3 m (w.heap.size+1+1+1) (kH (nf (eC q f ba pre).seen) (e5 q x) (jI f ba x) (.bool true)))(o:W.grownBy m (some (w.heap.size+1+1+1)))(y:iS n (w.heap.size+1+1+1+1+1) (nb (od (eC q f ba pre).seen) (e5 q x) (.int .i64 (hg (e5 q x) (eC q f ba pre).seen+1:Nat))))(j:m.grownBy n (some (w.heap.size+1+1+1+1+1)))(F:d.heap[w.heap.size+1+1+1+1+1+1+1]?=some (.cells #[.int .i64 (max (eC q f ba pre).most (hg (e5 q x) (eC q f ba pre).seen+1:Nat))] 3))(i:n.grownBy d (some (w.heap.size+1+1+1+1+1+1+1)))(D:l d): jz l T k q f ba w (pre++[x]) d:=by
 have C:=h.lt;have G:=h.dm;have s1:=o.size;have s2:=j.size;have H:=i.size;have c:∀b r:Nat,b≠r->some b≠some r:=λb r p e=>p (Pm e)
 have e:eC q f ba (pre++[x])=⟨((e5 q x:Int),jI f ba x)::(eC q f ba pre).seen,max (eC q f ba pre).most (hg (e5 q x) (eC q f ba pre).seen+1:Nat)⟩:=by rw[Ac,kY,if_neg E]
 have g:∀a v,a.block≠w.heap.size+1+1+1->a.block≠w.heap.size+1+1+1+1+1->a.block≠w.heap.size+1+1+1+1+1+1+1->W.cell? a=some v->d.cell? a=some v:=λa v p z B e=>i.cell (j.cell (o.cell e (c _ _ p)) (c _ _ z)) (c _ _ B)
 rw[IM] at u;rw[IQ _ _ (jI f ba x)] at y;refine⟨g _ _ (by dsimp only;omega) (by dsimp only;omega) (by dsimp only;omega) h.t3,g _ _ (by dsimp only;omega) (by dsimp only;omega) (by dsimp only;omega) h.t4,g _ _ (by dsimp only;omega) (by dsimp only;omega) (by dsimp only;omega) h.t5,?_,
  g _ _ (by dsimp only;omega) (by dsimp only;omega) (by dsimp only;omega) h.rT,?_,g _ _ (by dsimp only;omega) (by dsimp only;omega) (by dsimp only;omega) h.jE,?_,D,
  k4 (k4 (k4 h.e4 o (λr e=>by cases e;right;omega)) j (λr e=>by cases e;right;omega)) i (λr e=>by cases e;right;omega),by omega,C⟩
 . rw[e]
   exact(u.keep j (c _ _ (by omega))).keep i (c _ _ (by omega))
 . rw[e]
   exact y.keep i (c _ _ (by omega))
 . rw[e]
   exact F
def j8(w:World): List Obj->World
 | []=>w
 | o::l=>j8 (w.alloc o) l
theorem tr:∀(l:List Obj) (w:World),w.grownBy (j8 w l) none
 | [],w=>Pw _ _
 | o::l,w=>(Pv w o none).trans (tr l (w.alloc o))
theorem zk:∀(l:List Obj) (w:World),(j8 w l).heap.size=w.heap.size+l.length
 | [],w=>rfl
 | o::l,w=>by rw[j8,zk l,Pp,List.length_cons];omega
theorem v7:∀(l:List Obj) (w:World) (i:Nat) (o:Obj),l[i]?=some o->(j8 w l).heap[w.heap.size+i]?=some o
 | [],w,i,o,h=>by simp at h
 | x::l,w,0,o,h=>by
  have:x=o:=by simpa using h
  subst this;rw[j8];exact((tr l (w.alloc x)).block _ (by simp) (by simp)).trans (h' _ _ _ rfl)
 | x::l,w,i+1,o,h=>by have:=v7 l (w.alloc x) i o (by simpa using h);rw[Pp] at this;rw[j8,show w.heap.size+(i+1)=w.heap.size+1+i by omega];exact this
def me(T k:Nat)(q:Bool)(n:Nat)(st:Array Value): List Obj:=[.cells #[.pointer (some ⟨T,0,none⟩)] 82,.cells #[qX q] 134,.cells st 54,.map #[] 0,.cells #[.map (some (n+1+1+1))] 178,.map #[] 0,.cells #[.map (some (n+1+1+1+1+1))] 179,.cells #[.int .i64 0] 3,.cells st 54]
theorem jz.init{c:World->Prop}{T k:Nat}{q:Bool}{f:Int}{ba:Nat->Int}{w:World}{st:Array Value}(m:st[0]?=some (.int .i64 k))(d:T<w.heap.size)(l:c (j8 w (me T k q w.heap.size st))): jz c T k q f ba w [] (j8 w (me T k q w.heap.size st)):=by
 have a:=λi o h=>v7 (me T k q w.heap.size st) w i o h
 refine⟨aT (a 0 _ rfl),aT (a 1 _ rfl),(aT (a 2 _ rfl)).trans m,?_,aT (a 4 _ rfl),?_,aT (a 6 _ rfl),a 7 _ rfl,l,?_,by rw[zk];exact Pk,d⟩
 . have:=g3.new (j8 w (me T k q w.heap.size st)) (w.heap.size+3) 0 (a 3 _ rfl)
   have e:nf (eC q f ba []).seen=λ_ _=>none:=by funext a b;simp[nf,eC]
   rw[e];exact this
 . have:=iS.new (j8 w (me T k q w.heap.size st)) (w.heap.size+5) 0 (a 5 _ rfl)
   have e:od (eC q f ba []).seen=λ_=>none:=by funext a;simp[od,eC,hg]
   rw[e];exact this
 . have g:=tr (me T k q w.heap.size st) w
   exact⟨g.os,g.tape,g.output,g.size,λi j _=>g.block i j (by simp)⟩
end
end Go.aN
namespace Go.aN
attribute [local go_sem] Oper.semAt_some
open Go.Proofs Go.RowKit Go.Maps Go.Shelf
section
variable{A:Array Func}
theorem I4(q:Bool)(w:World): Sem.run (ag A) (method (Tryz.progTables.types.size+100) (if q then 136 else 132) (.agg #[]) "gladstone/fee.of") w=.ok (x7 q,.agg #[]) w:=by cases q<;>kernel_rfl
theorem qy{a b c:World}{T:Nat}(h:a.grownBy b (some T))(k:b.grownBy c (some T)): a.grownBy c (some T):=
 ⟨h.os ▸ k.os,k.tape.trans h.tape,k.output.trans h.output,Po h.size k.size,λi d f=>(k.block i (Px d h.size) f).trans (h.block i d f)⟩
theorem FZ[S:Std A][eg:gQ A]{ap:World->Prop}{T B bL b8 bd eT:Nat}{first:Nat->Int}(K:nK ap T B bL b8 bd eT first){k:Nat}(bW:k<bd)(b5:bd<=1000){ba:Nat->Int}(bS:∀d,0<=ba d/\ba d<=1000000)(aw:nJ A ap T k ba)(q:Bool)(I H fm M:Nat)(bX:I<=H)(bP:H<120)(bV:M<120)(hm:fm<120)(w:World)(aQ:ap w):
 CallsIn Fence.wide 8 (ag A) 62 #[.pointer (some ⟨T,0,none⟩),qX q,.agg #[.int .i64 k,.int .i64 I,.int .i64 H,.int .i64 fm,.int .i64 M]] w λe w'=>e=.returned (.int .i64 (eC q (first k) ba (gy I fm M (H-I+1))).most)/\ap w'/\w.grownBy w' (some T):=by
 have cz:=@run_makeMap (ag A);have bN:Fence.wide.fn 65:=trivial;have bh:Fence.wide.fn 89:=trivial;have bR:T<w.heap.size:=by have:=K.lt;have:=K.size w aQ;omega
 have aO:jz ap T k q (first k) ba w [] (j8 w (me T k q w.heap.size #[.int .i64 k,.int .i64 I,.int .i64 H,.int .i64 fm,.int .i64 M])):=jz.init rfl bR (K.keep _ _ none aQ (tr _ _) (by intro b e;cases e));have av:=v7 (me T k q w.heap.size #[.int .i64 k,.int .i64 I,.int .i64 H,.int .i64 fm,.int .i64 M]) w 8 _ rfl;obtain⟨aL,aX⟩ : ∃aL,j8 w (me T k q w.heap.size #[.int .i64 k,.int .i64 I,.int .i64 H,.int .i64 fm,.int .i64 M])=aL:=⟨_,rfl⟩
 rw[aX] at aO av;have bQ:lH aL (w.heap.size+1+1+1+1+1+1+1+1) I H fm M:=⟨aT av,aT av,aT av,aT av⟩
 have b2:w.heap.size+1+1+1+1+1+1+1+1<aL.heap.size:=bp av;obtain⟨al,a0,bq⟩ : ∃al,qX q=.iface al (.agg #[])/\∀w,Sem.run (ag A) (method (Tryz.progTables.types.size+100) al (.agg #[]) "gladstone/fee.of") w=.ok (x7 q,.agg #[]) w:=⟨_,rfl,I4 q⟩
 have bf:=Pj bq;clear bq;rw[me,a0] at aX;rw[a0];have bF:=Pj a0;clear a0;have bG:=Pj aX;clear aX av;refine callsIn_of_wp_marks eg.f62 rfl trivial ?_ rfl;simp only[Tryz.ntmps62,List.size_toArray,List.length_cons,List.length_nil,Nat.reduceAdd,Nat.reduceSub,Array.replicate_succ,Array.replicate_zero,List.push_toArray,List.append_toArray,List.nil_append,List.cons_append];gi_wp2_with (gi_at_call 65;refine(wv Fence.wide 7 bN rfl _ _ _ _ _ _).mono ?_;rintro e w' ⟨rfl,rfl⟩)
 have a3:=bG.out;simp only[j8] at a3;rw[a3];clear a3;refine wpIn_rangeFunc_ownH rfl (by decide) (gf:=89) (lb:=#[.pointer (some ⟨w.heap.size+1+1+1+1+1+1+1+1,0,none⟩)]) rfl bh (enters_of (S.f Tryz.func89) (by kernel_rfl) rfl)
  (wx Fence.wide 7 bh rfl (by decide) (w.heap.size+1+1+1+1+1+1+1+1) I H fm M bX bP bV hm aL b2 bQ) fH.t (λW l o b7 _ h bT _=>fH.b W l o b7 h bT) (Below.refl _ _) (λ_=>rfl)
  (λpre W=>jz ap T k q (first k) ba w pre W) (λ_ _ _=>False)
  (λcC co Y row aJ g aw=>jz.step aJ g (λr e=>.inr (by have:=(aw r e).1;have:=aO.dm;omega)) (K.keep _ _ _ aJ.j g (λr e=>by have:=(aw r e).1;have:=aO.dm;have:=K.size w aQ;omega)))
  (λ_ _ _ _ _ aJ _ _=>aJ) aO
  (λx aH W=>∃am,w.heap.size+9<=am/\W.cell? ⟨am,0,none⟩=some (.int .i64 x.1.1)/\W.cell? ⟨am,1,none⟩=some (.int .i64 x.1.2)/\aH={tmps:=#[.pointer (some ⟨T,0,none⟩),.iface al (.agg #[]),.agg #[.int .i64 k,.int .i64 I,.int .i64 H,.int .i64 fm,.int .i64 M],.pointer (some ⟨w.heap.size,0,none⟩),.pointer (some ⟨w.heap.size+1,0,none⟩),.pointer (some ⟨w.heap.size+1+1,0,none⟩),.int .i64 0,.pointer (some ⟨w.heap.size+1+1+1+1,0,none⟩),.pointer (some ⟨w.heap.size+1+1+1+1+1+1,0,none⟩),.pointer (some ⟨w.heap.size+1+1+1+1+1+1+1,0,none⟩),.pointer (some ⟨am,0,none⟩),undef,.map (some (w.heap.size+1+1+1)),.map (some (w.heap.size+1+1+1+1+1)),.agg #[.int .i64 k,.int .i64 I,.int .i64 H,.int .i64 fm,.int .i64 M],.func (.func 89) #[] #[.pointer (some ⟨w.heap.size+1+1+1+1+1+1+1+1,0,none⟩)],.agg #[.int .i64 x.1.1,.int .i64 x.1.2],undef,undef,undef,undef,undef,undef,undef,undef,undef,undef,undef,undef,undef,undef,undef,undef,undef,undef,undef,undef,undef,undef,undef,undef,undef,undef,undef],defers:=[]})
  (λx aH _ X Y row aJ g aw=>by obtain⟨am,p,F,z,C⟩:=aJ;exact⟨am,p,cell_kept F g (λr e=>(aw r e).2),cell_kept z g (λr e=>(aw r e).2),C⟩) ?assign ?body ?done ?stop
 case assign=>
  rintro l pre x W cm a8 f;have bs:=a8.dm;gi_wp2
  refine f _ _ ((KeepsOthers.alloc _ _).from _) (fH.grown (Pv _ _ none) (by simp)) (a8.step (Pv _ _ none) (λr e=>by cases e) (K.keep _ _ none a8.j Pn (by intro b e;cases e))) ⟨W.heap.size,bs,Pr rfl,Pr rfl,rfl⟩
 case body=>
  rintro l pre x aH W cy cA bj ⟨am,cw,bu,bv,rfl⟩ b0;have b4:(ag A).follows .mixedOrders=true:=by kernel_rfl
  have bO:B<=w.heap.size:=K.size w aQ;have ao:=Pj bj;have bH:=Pj bu;have bI:=Pj bv;have bs:=bj.dm;have aq:∀b,b≠T->some b≠some T:=λb h e=>h (Pm e)
  clear bj bu bv;gi_wp2
  refine Go.wpIn_mono (Q:=λe aH J=>e=.normal/\∃ar au ax ay az aA aB aC aD aE aF:Value,aH={tmps:=#[.pointer (some ⟨T,0,none⟩),.iface al (.agg #[]),.agg #[.int .i64 k,.int .i64 I,.int .i64 H,.int .i64 fm,.int .i64 M],.pointer (some ⟨w.heap.size,0,none⟩),.pointer (some ⟨w.heap.size+1,0,none⟩),.pointer (some ⟨w.heap.size+1+1,0,none⟩),.int .i64 0,.pointer (some ⟨w.heap.size+1+1+1+1,0,none⟩),.pointer (some ⟨w.heap.size+1+1+1+1+1+1,0,none⟩),.pointer (some ⟨w.heap.size+1+1+1+1+1+1+1,0,none⟩),.pointer (some ⟨am,0,none⟩),ar,.map (some (w.heap.size+1+1+1)),.map (some (w.heap.size+1+1+1+1+1)),.agg #[.int .i64 k,.int .i64 I,.int .i64 H,.int .i64 fm,.int .i64 M],.func (.func 89) #[] #[.pointer (some ⟨w.heap.size+1+1+1+1+1+1+1+1,0,none⟩)],.agg #[.int .i64 x.1.1,.int .i64 x.1.2],au,ax,ay,az,aA,aB,aC,aD,aE,aF,undef,undef,undef,undef,undef,undef,undef,undef,undef,undef,undef,undef,undef,undef,undef,undef,undef],defers:=[]}/\au=.iface al (.agg #[])/\(∃ej,W.heap.size<=ej/\ar=.pointer (some ⟨ej,0,none⟩)/\J.heap[ej]?=some (.cells #[.int .i64 ((e5 q x:Nat):Int),.int .i64 (fP (first k) ba x.1.1 x.1.2)] 182))/\ap J/\W.grownBy J (some T)) ?_ ?_
  . obtain⟨R,bm⟩ : ∃R:(Nat->Bool)->Act->World->Prop,R=λL a w'=>∃ar au ax ay az aA aB aC aD aE aF:Value,a={tmps:=#[.pointer (some ⟨T,0,none⟩),.iface al (.agg #[]),.agg #[.int .i64 k,.int .i64 I,.int .i64 H,.int .i64 fm,.int .i64 M],.pointer (some ⟨w.heap.size,0,none⟩),.pointer (some ⟨w.heap.size+1,0,none⟩),.pointer (some ⟨w.heap.size+1+1,0,none⟩),.int .i64 0,.pointer (some ⟨w.heap.size+1+1+1+1,0,none⟩),.pointer (some ⟨w.heap.size+1+1+1+1+1+1,0,none⟩),.pointer (some ⟨w.heap.size+1+1+1+1+1+1+1,0,none⟩),.pointer (some ⟨am,0,none⟩),ar,.map (some (w.heap.size+1+1+1)),.map (some (w.heap.size+1+1+1+1+1)),.agg #[.int .i64 k,.int .i64 I,.int .i64 H,.int .i64 fm,.int .i64 M],.func (.func 89) #[] #[.pointer (some ⟨w.heap.size+1+1+1+1+1+1+1+1,0,none⟩)],.agg #[.int .i64 x.1.1,.int .i64 x.1.2],au,ax,ay,az,aA,aB,aC,aD,aE,aF,undef,undef,undef,undef,undef,undef,undef,undef,undef,undef,undef,undef,undef,undef,undef,undef,undef],defers:=[]}/\((L 0=true->au=.iface al (.agg #[]))/\(L 1=true->ax=.agg #[.int .i64 x.1.1,.int .i64 x.1.2])/\(L 2=true->ay=.int .i64 ((e5 q x:Nat):Int))/\(L 3=true->az=.pointer (some ⟨T,0,none⟩))/\(L 4=true->aA=.pointer (some ⟨w.heap.size+1+1,0,none⟩))/\(L 5=true->aB=.int .i64 k)/\(L 6=true->aC=.agg #[.int .i64 x.1.1,.int .i64 x.1.2])/\(L 7=true->aD=.int .i64 (fP (first k) ba x.1.1 x.1.2))/\(L 8=true->aE=.int .i64 (fP (first k) ba x.1.1 x.1.2))/\(L 9=true->aF=.agg #[.int .i64 ((e5 q x:Nat):Int),.int .i64 (fP (first k) ba x.1.1 x.1.2)])/\(L 10=true->∃ej,W.heap.size<=ej/\ar=.pointer (some ⟨ej,0,none⟩)/\w'.heap[ej]?=some (.cells (if L 11=true then #[.int .i64 ((e5 q x:Nat):Int),.int .i64 (fP (first k) ba x.1.1 x.1.2)] else #[.int .i64 0,.int .i64 0]) 182))/\(L 11=true->L 10=true))/\ap w'/\W.grownBy w' (some T):=⟨_,rfl⟩
    have y:=Pj bm;clear bm;refine O2 (R:=R) b4 (by kernel_rfl) ?_ ?_ ?_
    . intro L i o a w' ae bk aj aP
      rw[y.out] at aP;obtain⟨ar,au,ax,ay,az,aA,aB,aC,aD,aE,aF,rfl,⟨n,p,F,z,C,U,V,E,Z,aa,P,ad⟩,G,g⟩:=aP;have cp:=g.cell ao.out.t3 (aq _ (by dsimp only;omega));have cq:=(g.cell ao.out.t4 (aq _ (by dsimp only;omega))).trans (congrArg some bF.out);have cr:=g.cell ao.out.t5 (aq _ (by dsimp only;omega));have cs:=g.cell bH.out (aq _ (by dsimp only;omega));have ct:=g.cell bI.out (aq _ (by dsimp only;omega));rcases i with _|_|_|_|_|_|_|_|_|_|_|_|i
      . obtain rfl:_=o:=by simpa using ae
        refine wpOpIn_step rfl (λaf f=>?_);go_simp
        try refine f _ _ ?_
        rw[y.out];exact⟨_,_,_,_,_,_,_,_,_,_,_,rfl,⟨λ_=>rfl,by simpa [bt] using p,by simpa [bt] using F,by simpa [bt] using z,by simpa [bt] using C,by simpa [bt] using U,by simpa [bt] using V,by simpa [bt] using E,by simpa [bt] using Z,by simpa [bt] using aa,by simpa [bt] using P,by simpa [bt] using ad⟩,G,g⟩
      . obtain rfl:_=o:=by simpa using ae
        refine wpOpIn_step rfl (λaf f=>?_);go_simp
        try refine f _ _ ?_
        rw[y.out];exact⟨_,_,_,_,_,_,_,_,_,_,_,rfl,⟨by simpa [bt] using n,λ_=>rfl,by simpa [bt] using F,by simpa [bt] using z,by simpa [bt] using C,by simpa [bt] using U,by simpa [bt] using V,by simpa [bt] using E,by simpa [bt] using Z,by simpa [bt] using aa,by simpa [bt] using P,by simpa [bt] using ad⟩,G,g⟩
      . obtain rfl:_=o:=by simpa using ae
        have b9:L 0=true:=aj {on:=0,ground:=.data} (by simp) rfl;have ca:L 1=true:=aj {on:=1,ground:=.data} (by simp) rfl;obtain rfl:=n b9;obtain rfl:=p ca;rcases Bool.eq_false_or_eq_true q with rfl|rfl
        . have b3:=(show ∀w,Sem.run (ag A) (method (Tryz.progTables.types.size+100) al (.agg #[]) "gladstone/fee.of") w=.ok (198,.agg #[]) w from bf.out)
          refine wpOpIn_step rfl (λaf f=>?_);go_simp
          gi_wp2_with (first|(refine⟨trivial,?_⟩;gi_at_call 198;refine(CallsIn.inRound l (callsIn_wide.2 (uM true _ _ _))).mono ?_;rintro e J ⟨rfl,u⟩)|(gi_at_call 198;refine(CallsIn.inRound l (callsIn_wide.2 (uM true _ _ _))).mono ?_;rintro e J ⟨rfl,u⟩))
          try refine f _ _ ?_
          rw[y.out];exact⟨_,_,_,_,_,_,_,_,_,_,_,rfl,⟨by simpa [bt] using n,by simpa [bt] using p,λ_=>rfl,by simpa [bt] using z,by simpa [bt] using C,by simpa [bt] using U,by simpa [bt] using V,by simpa [bt] using E,by simpa [bt] using Z,by simpa [bt] using aa,λh=>by obtain⟨ej,ah,aM,m⟩:=P (by simpa [bt] using h);exact⟨ej,ah,aM,by simpa [bt] using (u.block ej (bp m) (by simp)).trans m⟩,by simpa [bt] using ad⟩,K.keep _ _ none G u (by intro b e;cases e),k4 g u (λr e=>by cases e)⟩
        . have b3:=(show ∀w,Sem.run (ag A) (method (Tryz.progTables.types.size+100) al (.agg #[]) "gladstone/fee.of") w=.ok (197,.agg #[]) w from bf.out)
          refine wpOpIn_step rfl (λaf f=>?_);go_simp
          gi_wp2_with (first|(refine⟨trivial,?_⟩;gi_at_call 197;refine(CallsIn.inRound l (callsIn_wide.2 (uM false _ _ _))).mono ?_;rintro e J ⟨rfl,u⟩)|(gi_at_call 197;refine(CallsIn.inRound l (callsIn_wide.2 (uM false _ _ _))).mono ?_;rintro e J ⟨rfl,u⟩))
          try refine f _ _ ?_
          rw[y.out];exact⟨_,_,_,_,_,_,_,_,_,_,_,rfl,⟨by simpa [bt] using n,by simpa [bt] using p,λ_=>rfl,by simpa [bt] using z,by simpa [bt] using C,by simpa [bt] using U,by simpa [bt] using V,by simpa [bt] using E,by simpa [bt] using Z,by simpa [bt] using aa,λh=>by obtain⟨ej,ah,aM,m⟩:=P (by simpa [bt] using h);exact⟨ej,ah,aM,by simpa [bt] using (u.block ej (bp m) (by simp)).trans m⟩,by simpa [bt] using ad⟩,K.keep _ _ none G u (by intro b e;cases e),k4 g u (λr e=>by cases e)⟩
      . obtain rfl:_=o:=by simpa using ae
        refine wpOpIn_step rfl (λaf f=>?_);go_simp
        try refine f _ _ ?_
        rw[y.out];exact⟨_,_,_,_,_,_,_,_,_,_,_,rfl,⟨by simpa [bt] using n,by simpa [bt] using p,by simpa [bt] using F,λ_=>rfl,by simpa [bt] using C,by simpa [bt] using U,by simpa [bt] using V,by simpa [bt] using E,by simpa [bt] using Z,by simpa [bt] using aa,by simpa [bt] using P,by simpa [bt] using ad⟩,G,g⟩
      . obtain rfl:_=o:=by simpa using ae
        refine wpOpIn_step rfl (λaf f=>?_);go_simp
        try refine f _ _ ?_
        rw[y.out];exact⟨_,_,_,_,_,_,_,_,_,_,_,rfl,⟨by simpa [bt] using n,by simpa [bt] using p,by simpa [bt] using F,by simpa [bt] using z,λ_=>rfl,by simpa [bt] using U,by simpa [bt] using V,by simpa [bt] using E,by simpa [bt] using Z,by simpa [bt] using aa,by simpa [bt] using P,by simpa [bt] using ad⟩,G,g⟩
      . obtain rfl:_=o:=by simpa using ae
        have ce:L 4=true:=aj {on:=4,ground:=.data} (by simp) rfl;obtain rfl:=C ce;refine wpOpIn_step rfl (λaf f=>?_);go_simp
        try refine f _ _ ?_
        rw[y.out];exact⟨_,_,_,_,_,_,_,_,_,_,_,rfl,⟨by simpa [bt] using n,by simpa [bt] using p,by simpa [bt] using F,by simpa [bt] using z,by simpa [bt] using C,λ_=>rfl,by simpa [bt] using V,by simpa [bt] using E,by simpa [bt] using Z,by simpa [bt] using aa,by simpa [bt] using P,by simpa [bt] using ad⟩,G,g⟩
      . obtain rfl:_=o:=by simpa using ae
        refine wpOpIn_step rfl (λaf f=>?_);go_simp
        try refine f _ _ ?_
        rw[y.out];exact⟨_,_,_,_,_,_,_,_,_,_,_,rfl,⟨by simpa [bt] using n,by simpa [bt] using p,by simpa [bt] using F,by simpa [bt] using z,by simpa [bt] using C,by simpa [bt] using U,λ_=>rfl,by simpa [bt] using E,by simpa [bt] using Z,by simpa [bt] using aa,by simpa [bt] using P,by simpa [bt] using ad⟩,G,g⟩
      . obtain rfl:_=o:=by simpa using ae
        have cc:L 3=true:=aj {on:=3,ground:=.data} (by simp) rfl;have cf:L 5=true:=aj {on:=5,ground:=.data} (by simp) rfl;have cg:L 6=true:=aj {on:=6,ground:=.data} (by simp) rfl;obtain rfl:=z cc;obtain rfl:=U cf;obtain rfl:=V cg;refine wpOpIn_step rfl (λaf f=>?_);go_simp
        gi_wp2_with (first|(refine⟨trivial,?_⟩;gi_at_call 52;refine(CallsIn.inRound l (callsIn_wide.2 (qs K bW b5 bS aw x.1.1 x.1.2 x.2.1 x.2.2 _ G))).mono ?_;rintro e J ⟨rfl,a4,u⟩))
        try refine f _ _ ?_
        rw[y.out];exact⟨_,_,_,_,_,_,_,_,_,_,_,rfl,⟨by simpa [bt] using n,by simpa [bt] using p,by simpa [bt] using F,by simpa [bt] using z,by simpa [bt] using C,by simpa [bt] using U,by simpa [bt] using V,λ_=>rfl,by simpa [bt] using Z,by simpa [bt] using aa,λh=>by obtain⟨ej,ah,aM,m⟩:=P (by simpa [bt] using h);exact⟨ej,ah,aM,by simpa [bt] using (u.block ej (bp m) (aq _ (by omega))).trans m⟩,by simpa [bt] using ad⟩,a4,qy g u⟩
      . obtain rfl:_=o:=by simpa using ae
        have ch:L 7=true:=aj {on:=7,ground:=.data} (by simp) rfl;obtain rfl:=E ch;refine wpOpIn_step rfl (λaf f=>?_);go_simp
        gi_wp2_with (first|(refine⟨trivial,?_⟩;gi_at_call 53;refine(CallsIn.inRound l (callsIn_wide.2 (m' _ _))).mono ?_;rintro e cn ⟨rfl,rfl⟩))
        try refine f _ _ ?_
        rw[y.out];exact⟨_,_,_,_,_,_,_,_,_,_,_,rfl,⟨by simpa [bt] using n,by simpa [bt] using p,by simpa [bt] using F,by simpa [bt] using z,by simpa [bt] using C,by simpa [bt] using U,by simpa [bt] using V,by simpa [bt] using E,λ_=>rfl,by simpa [bt] using aa,by simpa [bt] using P,by simpa [bt] using ad⟩,G,g⟩
      . obtain rfl:_=o:=by simpa using ae
        have cb:L 2=true:=aj {on:=2,ground:=.data} (by simp) rfl;have ci:L 8=true:=aj {on:=8,ground:=.data} (by simp) rfl;obtain rfl:=F cb;obtain rfl:=Z ci;refine wpOpIn_step rfl (λaf f=>?_);go_simp
        try refine f _ _ ?_
        rw[y.out];exact⟨_,_,_,_,_,_,_,_,_,_,_,rfl,⟨by simpa [bt] using n,by simpa [bt] using p,by simpa [bt] using F,by simpa [bt] using z,by simpa [bt] using C,by simpa [bt] using U,by simpa [bt] using V,by simpa [bt] using E,by simpa [bt] using Z,λ_=>rfl,by simpa [bt] using P,by simpa [bt] using ad⟩,G,g⟩
      . obtain rfl:_=o:=by simpa using ae
        have bl:L 10=false:=bk;have a5:L 11=false:=by
         cases h:L 11 with
         | false=>rfl
         | true=>rw[ad h] at bl;cases bl
        refine wpOpIn_step rfl (λaf f=>?_);go_simp
        try refine f _ _ ?_
        rw[y.out];exact⟨_,_,_,_,_,_,_,_,_,_,_,rfl,⟨by simpa [bt] using n,by simpa [bt] using p,by simpa [bt] using F,by simpa [bt] using z,by simpa [bt] using C,by simpa [bt] using U,by simpa [bt] using V,by simpa [bt] using E,by simpa [bt] using Z,by simpa [bt] using aa,λ_=>⟨_,g.size,rfl,by simpa [bt,a5] using h' _ _ _ rfl⟩,by simp[bt]⟩,K.keep _ _ none G Pn (by intro b e;cases e),k4 g (Pv _ _ none) (λr e=>by cases e)⟩
      . obtain rfl:_=o:=by simpa using ae
        have bz:L 10=true:=aj {on:=10,ground:=.data} (by simp) rfl;have cj:L 9=true:=aj {on:=9,ground:=.data} (by simp) rfl;obtain rfl:=aa cj;have a5:L 11=false:=bk;obtain⟨ej,ah,rfl,m⟩:=P bz;rw[if_neg (by rw[a5];simp)] at m;have bA:=aT (o:=0) m;have cl:=aT (o:=1) m;have z0:=b1 (o:=0) m;have cE:=b1 (o:=1) m;refine wpOpIn_step rfl (λaf f=>?_);go_simp
        try refine f _ _ ?_
        rw[y.out];exact⟨_,_,_,_,_,_,_,_,_,_,_,rfl,⟨by simpa [bt] using n,by simpa [bt] using p,by simpa [bt] using F,by simpa [bt] using z,by simpa [bt] using C,by simpa [bt] using U,by simpa [bt] using V,by simpa [bt] using E,by simpa [bt] using Z,by simpa [bt] using aa,λ_=>⟨ej,ah,rfl,(cQ (cQ m)).trans (by rw[if_pos (by simp[bt])];rfl)⟩,by simp[bt,bz]⟩,K.keep _ _ (some ej) G (et (et (Pw _ _))) (λb e=>by have:=Pm e;omega),kC (kC g ah) ah⟩
      . simp at ae
    . intro L a w' a6 aP
      rw[y.out] at aP;obtain⟨ar,au,ax,ay,az,aA,aB,aC,aD,aE,aF,rfl,⟨n,p,F,z,C,U,V,E,Z,aa,P,ad⟩,G,g⟩:=aP;obtain⟨ej,ah,rfl,m⟩:=P (a6 10 (by decide));rw[a6 11 (by decide)] at m;exact⟨rfl,_,_,_,_,_,_,_,_,_,_,_,rfl,n (a6 0 (by decide)),⟨ej,ah,rfl,m⟩,G,g⟩
    . rw[y.out]
      refine⟨undef,undef,undef,undef,undef,undef,undef,undef,undef,undef,undef,rfl,⟨?_,?_,?_,?_,?_,?_,?_,?_,?_,?_,?_,?_⟩,K.keep _ _ none ao.out.j ⟨rfl,rfl,rfl,Pk,λ_ _ _=>rfl⟩ (by intro b e;cases e),⟨rfl,rfl,rfl,Pk,λ_ _ _=>rfl⟩⟩;all_goals (intro h;cases h)
  . rintro e aH J ⟨rfl,ar,au,ax,ay,az,aA,aB,aC,aD,aE,aF,rfl,rfl,⟨ej,ah,rfl,m⟩,a4,u⟩
    have ai:=ao.out.step u (λr e=>.inl (Pm e).symm) a4;have cu:=ai.rT;have bA:=aT (o:=0) m;have cl:=aT (o:=1) m;have bo:l9 182:=.inr (.inr rfl);have b6:∀w,Sem.run (ag A) (zeroValue 4) w=.ok (.bool false) w:=λw=>by kernel_rfl
    have bw:∀w,Sem.run (ag A) (zeroValue 3) w=.ok (.int .i64 0) w:=λw=>by kernel_rfl
    have bn:=F0 q (first k) ba pre;have aZ:=qB (ag.underlying178 A) bo b6 ai.e6 ((e5 q x:Nat):Int) (fP (first k) ba x.1.1 x.1.2) false;have aU:=Pj u;by_cases a1:(((e5 q x:Nat):Int),(fP (first k) ba x.1.1 x.1.2))∈(eC q (first k) ba pre).seen
    . replace aZ:Sem.run (ag A) (Instr.lookup 178 (.map (some (w.heap.size+1+1+1))) (.agg #[.int .i64 ((e5 q x:Nat):Int),.int .i64 (fP (first k) ba x.1.1 x.1.2)]) false) J=.ok (.bool true) J:=aZ.trans (by simp[nf,a1])
      have aG:=Pj ai;clear ai u bn;gi_wp2
      exact⟨KeepsFrom.of_grownBy aU.out (λj e=>by have:=Pm e;omega),fH.grown aU.out (aq _ (by have:=aG.out.lt;omega)),aG.out.seen a1⟩
    . replace aZ:Sem.run (ag A) (Instr.lookup 178 (.map (some (w.heap.size+1+1+1))) (.agg #[.int .i64 ((e5 q x:Nat):Int),.int .i64 (fP (first k) ba x.1.1 x.1.2)]) false) J=.ok (.bool false) J:=aZ.trans (by simp[nf,a1])
      have ak:∀b r:Nat,b≠r->some b≠some r:=λb r p e=>p (Pm e)
      obtain⟨a2,br,bx,aI,z9⟩:=A6 (ag.underlying178 A) bo ai.e6 ((e5 q x:Nat):Int) (fP (first k) ba x.1.1 x.1.2) (.bool true);replace br:Sem.run (ag A) (Instr.mapUpdate 178 (.map (some (w.heap.size+1+1+1))) (.agg #[.int .i64 ((e5 q x:Nat):Int),.int .i64 (fP (first k) ba x.1.1 x.1.2)]) (.bool true)) J=.ok () a2:=br;have bM:=aI.cell ai.jE (ak _ _ (by dsimp only;omega));have ck:=aI.cell bA (ak _ _ (by dsimp only;omega));have bc:=ai.fY.keep aI (ak _ _ (by omega));have bZ:Sem.run (ag A) (Instr.lookup 179 (.map (some (w.heap.size+1+1+1+1+1))) (.int .i64 ((e5 q x:Nat):Int)) false) a2=.ok (.int .i64 (hg (e5 q x) (eC q (first k) ba pre).seen)) a2:=(uA (ag.underlying179 A) rfl bw bc ((e5 q x:Nat):Int) false).trans (by
       unfold od;by_cases n:(hg (e5 q x) (eC q (first k) ba pre).seen)=0
       . simp[n]
       . simp[n])
      obtain⟨aK,a9,bb,aN,cF⟩:=A2 (ag.underlying179 A) rfl bc ((e5 q x:Nat):Int) (.int .i64 ((hg (e5 q x) (eC q (first k) ba pre).seen)+1:Nat));replace a9:Sem.run (ag A) (Instr.mapUpdate 179 (.map (some (w.heap.size+1+1+1+1+1))) (.int .i64 ((e5 q x:Nat):Int)) (.int .i64 (((hg (e5 q x) (eC q (first k) ba pre).seen):Int)+1))) a2=.ok () aK:=a9;have cv:=aN.cell bM (ak _ _ (by dsimp only;omega));have cD:=aN.cell ck (ak _ _ (by dsimp only;omega));have bY:Sem.run (ag A) (Instr.lookup 179 (.map (some (w.heap.size+1+1+1+1+1))) (.int .i64 ((e5 q x:Nat):Int)) false) aK=.ok (.int .i64 (((hg (e5 q x) (eC q (first k) ba pre).seen):Int)+1)) aK:=(uA (ag.underlying179 A) rfl bw bb ((e5 q x:Nat):Int) false).trans (by simp[nb]);have aY:=(aN.block _ (by rw[z9];have:=ai.dm;omega) (ak _ _ (by omega))).trans ((aI.block _ (by have:=ai.dm;omega) (ak _ _ (by omega))).trans ai.t9);have t9:=aT (o:=0) aY;have f9:=b1 (o:=0) aY;have bU:(hg (e5 q x) (eC q (first k) ba pre).seen)<=pre.length:=Po List.countP_le_length bn.1;have aG:=Pj ai;have bK:=Pj bx;have aS:=Pj aI;have bJ:=Pj bb;have aR:=Pj aN;have bB:=Pj aY;clear ai u bx aI bb aN aY bc;obtain⟨aV,a7⟩ : ∃aV,(hg (e5 q x) (eC q (first k) ba pre).seen)=aV:=⟨_,rfl⟩
      rw[a7] at a9 bZ bY bU;have bC:=Pj a7;clear a7;gi_wp2
      have aW:aK.grownBy (aK.setCell ⟨w.heap.size+1+1+1+1+1+1+1,0,none⟩ (.int .i64 (max (eC q (first k) ba pre).most ((aV:Int)+1)))) (some (w.heap.size+1+1+1+1+1+1+1)):=et (Pw _ _);have E:(aK.setCell ⟨w.heap.size+1+1+1+1+1+1+1,0,none⟩ (.int .i64 (max (eC q (first k) ba pre).most ((aV:Int)+1)))).heap[w.heap.size+1+1+1+1+1+1+1]?=some (.cells #[.int .i64 (max (eC q (first k) ba pre).most ((hg (e5 q x) (eC q (first k) ba pre).seen)+1:Nat))] 3):=by rw[bC.out];exact cQ bB.out
      have b0:=aG.out.lt;refine⟨((KeepsFrom.of_grownBy aU.out (λj e=>by have:=Pm e;omega)).trans (KeepsFrom.of_grownBy aS.out (λj e=>by have:=Pm e;omega))).trans ((KeepsFrom.of_grownBy aR.out (λj e=>by have:=Pm e;omega)).trans (KeepsFrom.of_grownBy aW (λj e=>by have:=Pm e;omega))),(((fH.grown aU.out (aq _ (by omega))).t (fH.grown aS.out (ak _ _ (by omega)))).t (fH.grown aR.out (ak _ _ (by omega)))).t (fH.grown aW (ak _ _ (by omega))),?_⟩;refine aG.out.met a1 bK.out aS.out bJ.out aR.out E aW ?_;exact K.keep _ _ _ (K.keep _ _ _ (K.keep _ _ _ aG.out.j aS.out (λb e=>by have:=Pm e;omega)) aR.out (λb e=>by have:=Pm e;omega)) aW (λb e=>by have:=Pm e;omega)
 case done=>
  rintro D ys W bi rfl bj f;have z9:=aT (o:=0) bj.t9;have ao:=Pj bj;have bE:=Pj f;have bD:=Pj bi;clear bj f bi;gi_wp2
  refine⟨by simp,.inl ⟨_,_,rfl,run_takeDeferred bE.out,?_⟩⟩;refine⟨_,results_tmp rfl _ _ _,?_⟩;have bg:=grownBy_putObj' W D (.deferred none);have cB:=aO.dm;have bO:B<=w.heap.size:=K.size w aQ;have cx:=bD.out;exact⟨rfl,K.keep _ _ _ ao.out.j bg (λb e=>by have:=Pm e;omega),k4 ao.out.e4 bg (λr e=>by have:=Pm e;right;omega)⟩
 case stop=>
  rintro D c pre W _ _ h _;exact h.elim
end
end Go.aN
