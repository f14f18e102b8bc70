/- Part 29 of a law on fees: no conditions. -/
import Derived.Test.YthiiblonjmmnfaaGreatDoorP27
set_option maxHeartbeats 8000000
set_option maxRecDepth 100000
set_option linter.all false
namespace Go.aN
open Go.Proofs Go.RowKit Go.Maps Go.Shelf
section
variable{A:Array Func}
def qX(q:Bool):Value:=.iface (if q then 132 else 128) (.agg #[])
def x7(q:Bool):FuncId:=if q then 168 else 167
def e5(q:Bool)(x:e1):Nat:=if q then x.1.2 else x.1.1
def uM[S:Std A](q:Bool)(a b:Nat)(w:World):
 Calls (ag A) (x7 q) #[.agg #[],.agg #[.int .i64 a,.int .i64 b]] w λe w'=>e=.returned (.int .i64 (if q then b else a:Nat))/\w.grownBy w' none:=by
 cases q
 .show Calls (ag A) 167 _ _ _
  go_enter (S.f Tryz.func167),Tryz.ntmps167;go_wp2;go_ret;exact⟨rfl,Pn.trans Pn⟩
 .show Calls (ag A) 168 _ _ _
  go_enter (S.f Tryz.func168),Tryz.ntmps168;go_wp2;go_ret;exact⟨rfl,Pn.trans Pn⟩
def zn(s t:TypeId)(w:World)(h:(s=128/\t=132)\/(s=132/\t=128)):Sem.run (ag A) (Instr.typeAssert (.iface s (.agg #[])) 130 t true) w=.ok (.tuple #[.agg #[],.bool false]) w:=by rcases h with⟨rfl,rfl⟩|⟨rfl,rfl⟩<;>kernel_rfl
def zo(s:TypeId)(w:World)(h:s=128\/s=132):Sem.run (ag A) (Instr.typeAssert (.iface s (.agg #[])) 130 s true) w=.ok (.tuple #[.agg #[],.bool true]) w:=by rcases h with rfl|rfl<;>kernel_rfl
def Jp[S:Std A](q:Bool)(w:World):Calls (ag A) 46 #[qX q] w λe w'=>e=.returned (.int .i64 (if q then 1 else 0))/\w'=w:=by
 cases q
 .show Calls (ag A) 46 #[.iface 128 (.agg #[])] _ _
  go_enter (S.f Tryz.func46),Tryz.ntmps46;have c:=zn (A:=A) 128 132 w (by simp);go_wp2;go_ret;exact⟨rfl,rfl⟩
 .show Calls (ag A) 46 #[.iface 132 (.agg #[])] _ _
  go_enter (S.f Tryz.func46),Tryz.ntmps46;have c:=zo (A:=A) 132 w (by simp);go_wp2;go_ret;exact⟨rfl,rfl⟩
end
section
variable{A:Array Func}
structure tc where
 seen:List (Int×Int)
 most:Int
def hg(h:Int)(s:List (Int×Int)):Nat:=s.countP (λa=>a.1 == h)
def kY(q:Bool)(f:Int)(ba:Nat->Int)(D:tc)(x:e1):tc:=
 if ((e5 q x:Int),jI f ba x)∈D.seen then D else⟨((e5 q x:Int),jI f ba x)::D.seen,max D.most (hg (e5 q x) D.seen+1:Nat)⟩
def eC(q:Bool)(f:Int)(ba:Nat->Int)(pre:List e1):tc:=pre.foldl (kY q f ba) ⟨[],0⟩
def Ac(q:Bool)(f:Int)(ba:Nat->Int)(pre:List e1)(x:e1):eC q f ba (pre++[x])=kY q f ba (eC q f ba pre) x:=by simp[eC]
def F0(q:Bool)(f:Int)(ba:Nat->Int)(pre:List e1):(eC q f ba pre).seen.length<=pre.length/\0<=(eC q f ba pre).most/\(eC q f ba pre).most<=pre.length:=by
 suffices h:∀(pre:List e1) (D:tc) (n:Nat),D.seen.length<=n->0<=D.most->D.most<=n->(pre.foldl (kY q f ba) D).seen.length<=n+pre.length/\0<=(pre.foldl (kY q f ba) D).most/\(pre.foldl (kY q f ba) D).most<=(n+pre.length:Nat) by have:=h pre ⟨[],0⟩ 0 Pk (Int.le_refl _) (Int.le_refl _);simpa [eC]using this
 intro pre;induction pre with
 |nil=>intro D n g c i;exact⟨g,c,i⟩
 |cons x pre j=>
  intro D n g c i;have l:hg (e5 q x) D.seen<=D.seen.length:=List.countP_le_length;have d:(kY q f ba D x).seen.length<=n+1/\0<=(kY q f ba D x).most/\(kY q f ba D x).most<=(n+1:Nat):=by
   unfold kY;split
   .exact⟨by omega,c,by omega⟩
   .refine⟨?_,?_,?_⟩
    .show D.seen.length+1<=n+1
     omega
    .show(0:Int)<=max D.most _
     omega
    .show max D.most (((hg (e5 q x) D.seen+1:Nat)):Int)<=_
     omega
  have:=j (kY q f ba D x) (n+1) d.1 d.2.1 d.2.2;rw[List.foldl_cons,List.length_cons,show n+(pre.length+1)=n+1+pre.length by omega];exact this
noncomputable def nf(s:List (Int×Int))(a b:Int):Option Value:=@ite _ ((a,b)∈s) (Classical.propDecidable _) (some (.bool true)) none
def od(s:List (Int×Int))(h:Int):Option Value:=if hg h s=0 then none else some (.int .i64 (hg h s))
def IM(s:List (Int×Int))(a b:Int):kH (nf s) a b (.bool true)=nf ((a,b)::s):=by
 funext c d;unfold kH nf;by_cases h:c=a/\d=b
 .obtain⟨rfl,rfl⟩:=h
  simp
 .have:(c,d)≠(a,b):=λe=>h (by simpa using e)
  simp[h,this]
def IQ(s:List (Int×Int))(a b:Int):nb (od s) a (.int .i64 (hg a s+1:Nat))=od ((a,b)::s):=by
 funext c;unfold nb od;by_cases h:c=a
 .subst h
  have:hg c ((c,b)::s)=hg c s+1:=by simp[hg]
  rw[this];simp
 .have d:¬a=c:=λe=>h e.symm
  have:hg c ((a,b)::s)=hg c s:=by simp[hg,d]
  rw[this];simp[h]
structure jz(a8:World->Prop)(T k:Nat)(q:Bool)(f:Int)(ba:Nat->Int)(w:World)(pre:List e1)(W:World):Prop where
 t3:W.cell? ⟨w.heap.size,0,none⟩=some (.pointer (some ⟨T,0,none⟩))
 t4:W.cell? ⟨w.heap.size+1,0,none⟩=some (qX q)
 t5:W.cell? ⟨w.heap.size+1+1,0,none⟩=some (.int .i64 k)
 e6:g3 W (w.heap.size+1+1+1) (nf (eC q f ba pre).seen)
 rT:W.cell? ⟨w.heap.size+1+1+1+1,0,none⟩=some (.map (some (w.heap.size+1+1+1)))
 fY:iS W (w.heap.size+1+1+1+1+1) (od (eC q f ba pre).seen)
 jE:W.cell? ⟨w.heap.size+1+1+1+1+1+1,0,none⟩=some (.map (some (w.heap.size+1+1+1+1+1)))
 t9:W.heap[w.heap.size+1+1+1+1+1+1+1]?=some (.cells #[.int .i64 (eC q f ba pre).most] 3)
 j:a8 W
 e4:w.grownBy W (some T)
 dm:w.heap.size+9<=W.heap.size
 lt:T<w.heap.size
def jz.step{g:World->Prop}{T k:Nat}{q:Bool}{f:Int}{ba:Nat->Int}{w:World}{pre:List e1}{W dt:World}{row:Option Nat}(h:jz g T k q f ba w pre W)(c:W.grownBy dt row)(i:∀r,row=some r->r=T\/w.heap.size+9<=r)(l:g dt):jz g T k q f ba w pre dt:=by
 have j:=h.lt;have u:=h.dm;have d:∀b,w.heap.size<=b->b<w.heap.size+9->some b≠row:=λb o p e=>by rcases i b e.symm with rfl|ax<;>omega
 refine⟨c.cell h.t3 (d _ (by dsimp only;omega) (by dsimp only;omega)),c.cell h.t4 (d _ (by dsimp only;omega) (by dsimp only;omega)),c.cell h.t5 (d _ (by dsimp only;omega) (by dsimp only;omega)),h.e6.keep c (d _ (by omega) (by omega)),c.cell h.rT (d _ (by dsimp only;omega) (by dsimp only;omega)),
  h.fY.keep c (d _ (by omega) (by omega)),c.cell h.jE (d _ (by dsimp only;omega) (by dsimp only;omega)),(c.block _ (by omega) (d _ (by omega) (by omega))).trans h.t9,l,k4 h.e4 c (λr e=>(i r e).imp id (by omega)),Po h.dm c.size,j⟩
def jz.seen{c:World->Prop}{T k:Nat}{q:Bool}{f:Int}{ba:Nat->Int}{w:World}{pre:List e1}{x:e1}{W:World}(h:jz c T k q f ba w pre W)(d:((e5 q x:Int),jI f ba x)∈(eC q f ba pre).seen):jz c T k q f ba w (pre++[x]) W:=by
 have e:eC q f ba (pre++[x])=eC q f ba pre:=by rw[Ac,kY,if_pos d]
 exact⟨h.t3,h.t4,h.t5,by rw[e];exact h.e6,h.rT,by rw[e];exact h.fY,h.jE,by rw[e];exact h.t9,h.j,h.e4,h.dm,h.lt⟩
def jz.met{l:World->Prop}{T k:Nat}{q:Bool}{f:Int}{ba:Nat->Int}{w:World}{pre:List e1}{x:e1}{W o p d:World}(h:jz l T k q f ba w pre W)(H:((e5 q x:Int),jI f ba x)∉(eC q f ba pre).seen)(B:g3 o (w.heap.size+1+1+1) (kH (nf (eC q f ba pre).seen) (e5 q x) (jI f ba x) (.bool true)))(u:W.grownBy o (some (w.heap.size+1+1+1)))(C:iS p (w.heap.size+1+1+1+1+1) (nb (od (eC q f ba pre).seen) (e5 q x) (.int .i64 (hg (e5 q x) (eC q f ba pre).seen+1:Nat))))(j:o.grownBy p (some (w.heap.size+1+1+1+1+1)))(I:d.heap[w.heap.size+1+1+1+1+1+1+1]?=some (.cells #[.int .i64 (max (eC q f ba pre).most (hg (e5 q x) (eC q f ba pre).seen+1:Nat))] 3))(i:p.grownBy d (some (w.heap.size+1+1+1+1+1+1+1)))(G:l d):jz l T k q f ba w (pre++[x]) d:=by
 have F:=h.lt;have J:=h.dm;have s1:=u.size;have s2:=j.size;have K:=i.size;have c:∀b r:Nat,b≠r->some b≠some r:=λb r z e=>z (Pm e)
 have e:eC q f ba (pre++[x])=⟨((e5 q x:Int),jI f ba x)::(eC q f ba pre).seen,max (eC q f ba pre).most (hg (e5 q x) (eC q f ba pre).seen+1:Nat)⟩:=by rw[Ac,kY,if_neg H]
 have g:∀a v,a.block≠w.heap.size+1+1+1->a.block≠w.heap.size+1+1+1+1+1->a.block≠w.heap.size+1+1+1+1+1+1+1->W.cell? a=some v->d.cell? a=some v:=λa v z D E e=>i.cell (j.cell (u.cell e (c _ _ z)) (c _ _ D)) (c _ _ E)
 rw[IM]at B;rw[IQ _ _ (jI f ba x)]at C;refine⟨g _ _ (by dsimp only;omega) (by dsimp only;omega) (by dsimp only;omega) h.t3,g _ _ (by dsimp only;omega) (by dsimp only;omega) (by dsimp only;omega) h.t4,g _ _ (by dsimp only;omega) (by dsimp only;omega) (by dsimp only;omega) h.t5,?_,
  g _ _ (by dsimp only;omega) (by dsimp only;omega) (by dsimp only;omega) h.rT,?_,g _ _ (by dsimp only;omega) (by dsimp only;omega) (by dsimp only;omega) h.jE,?_,G,
  k4 (k4 (k4 h.e4 u (λr e=>by cases e;right;omega)) j (λr e=>by cases e;right;omega)) i (λr e=>by cases e;right;omega),by omega,F⟩
 .rw[e]
  exact(B.keep j (c _ _ (by omega))).keep i (c _ _ (by omega))
 .rw[e]
  exact C.keep i (c _ _ (by omega))
 .rw[e]
  exact I
def j8(w:World):List Obj->World
 | []=>w
 |o::l=>j8 (w.alloc o) l
def tr:∀(l:List Obj) (w:World),w.grownBy (j8 w l) none
 | [],w=>Pw _ _
 |o::l,w=>(Pv w o none).trans (tr l (w.alloc o))
def zk:∀(l:List Obj) (w:World),(j8 w l).heap.size=w.heap.size+l.length
 | [],w=>rfl
 |o::l,w=>by rw[j8,zk l,Pp,List.length_cons];omega
def v7:∀(l:List Obj) (w:World) (i:Nat) (o:Obj),l[i]?=some o->(j8 w l).heap[w.heap.size+i]?=some o
 | [],w,i,o,h=>by simp at h
 |x::l,w,0,o,h=>by
  have:x=o:=by simpa using h
  subst this;rw[j8];exact((tr l (w.alloc x)).block _ (by simp) (by simp)).trans (h' _ _ _ rfl)
 |x::l,w,i+1,o,h=>by have:=v7 l (w.alloc x) i o (by simpa using h);rw[Pp]at this;rw[j8,show w.heap.size+(i+1)=w.heap.size+1+i by omega];exact this
def me(T k:Nat)(q:Bool)(n:Nat)(st:Array Value):List Obj:=[.cells #[.pointer (some ⟨T,0,none⟩)] 60,.cells #[qX q] 130,.cells st 32,.map #[] 0,.cells #[.map (some (n+1+1+1))] 160,.map #[] 0,.cells #[.map (some (n+1+1+1+1+1))] 161,.cells #[.int .i64 0] 3,.cells st 32]
def jz.init{c:World->Prop}{T k:Nat}{q:Bool}{f:Int}{ba:Nat->Int}{w:World}{st:Array Value}(p:st[0]?=some (.int .i64 k))(d:T<w.heap.size)(l:c (j8 w (me T k q w.heap.size st))):jz c T k q f ba w [] (j8 w (me T k q w.heap.size st)):=by
 have a:=λi o h=>v7 (me T k q w.heap.size st) w i o h
 refine⟨aT (a 0 _ rfl),aT (a 1 _ rfl),(aT (a 2 _ rfl)).trans p,?_,aT (a 4 _ rfl),?_,aT (a 6 _ rfl),a 7 _ rfl,l,?_,by rw[zk];exact Pk,d⟩
 .have:=g3.new (j8 w (me T k q w.heap.size st)) (w.heap.size+3) 0 (a 3 _ rfl)
  have e:nf (eC q f ba []).seen=λ_ _=>none:=by funext a b;simp[nf,eC]
  rw[e];exact this
 .have:=iS.new (j8 w (me T k q w.heap.size st)) (w.heap.size+5) 0 (a 5 _ rfl)
  have e:od (eC q f ba []).seen=λ_=>none:=by funext a;simp[od,eC,hg]
  rw[e];exact this
 .have g:=tr (me T k q w.heap.size st) w
  exact⟨g.os,g.tape,g.output,g.size,λi j _=>g.block i j (by simp)⟩
end
end Go.aN
namespace Go.aN
attribute [local go_sem] Oper.semAt_some
open Go.Proofs Go.RowKit Go.Maps Go.Shelf
section
variable{A:Array Func}
def I4(q:Bool)(w:World):Sem.run (ag A) (method (Tryz.progTables.types.size+100) (if q then 132 else 128) (.agg #[]) "gladstone/fee.of") w=.ok (x7 q,.agg #[]) w:=by cases q<;>kernel_rfl
def qy{a b c:World}{T:Nat}(h:a.grownBy b (some T))(k:b.grownBy c (some T)):a.grownBy c (some T):=
 ⟨h.os ▸ k.os,k.tape.trans h.tape,k.output.trans h.output,Po h.size k.size,λi d f=>(k.block i (Px d h.size) f).trans (h.block i d f)⟩
def FZ[S:Std A][eg:gQ A]{au:World->Prop}{T B bO cb bh eT:Nat}{first:Nat->Int}(K:nK au T B bO cb bh eT first){k:Nat}(bZ:k<bh)(b8:bh<=1000){ba:Nat->Int}(bV:∀d,0<=ba d/\ba d<=1000000)(az:nJ A au T k ba)(q:Bool)(P M fm V:Nat)(b0:P<=M)(bS:M<120)(bY:V<120)(hm:fm<120)(w:World)(aU:au w):
 CallsIn Fence.wide 8 (ag A) 45 #[.pointer (some ⟨T,0,none⟩),qX q,.agg #[.int .i64 k,.int .i64 P,.int .i64 M,.int .i64 fm,.int .i64 V]] w λe w'=>e=.returned (.int .i64 (eC q (first k) ba (gy P fm V (M-P+1))).most)/\au w'/\w.grownBy w' (some T):=by
 have cC:=@run_makeMap (ag A);have bQ:Fence.wide.fn 25:=trivial;have bl:Fence.wide.fn 44:=trivial;have bU:T<w.heap.size:=by have:=K.lt;have:=K.size w aU;omega
 have aR:jz au T k q (first k) ba w [] (j8 w (me T k q w.heap.size #[.int .i64 k,.int .i64 P,.int .i64 M,.int .i64 fm,.int .i64 V])):=jz.init rfl bU (K.keep _ _ none aU (tr _ _) (by intro b e;cases e));have ay:=v7 (me T k q w.heap.size #[.int .i64 k,.int .i64 P,.int .i64 M,.int .i64 fm,.int .i64 V]) w 8 _ rfl;obtain⟨aO,a0⟩:∃aO,j8 w (me T k q w.heap.size #[.int .i64 k,.int .i64 P,.int .i64 M,.int .i64 fm,.int .i64 V])=aO:=⟨_,rfl⟩
 rw[a0]at aR ay;have bT:lH aO (w.heap.size+1+1+1+1+1+1+1+1) P M fm V:=⟨aT ay,aT ay,aT ay,aT ay⟩
 have b5:w.heap.size+1+1+1+1+1+1+1+1<aO.heap.size:=bp ay;obtain⟨ap,a3,bu⟩:∃ap,qX q=.iface ap (.agg #[])/\∀w,Sem.run (ag A) (method (Tryz.progTables.types.size+100) ap (.agg #[]) "gladstone/fee.of") w=.ok (x7 q,.agg #[]) w:=⟨_,rfl,I4 q⟩
 have bi:=Pj bu;clear bu;rw[me,a3]at a0;rw[a3];have bI:=Pj a3;clear a3;have bJ:=Pj a0;clear a0 ay;refine callsIn_of_wp_marks eg.f62 rfl trivial ?_ rfl;simp only[Tryz.ntmps45,List.size_toArray,List.length_cons,List.length_nil,Nat.reduceAdd,Nat.reduceSub,Array.replicate_succ,Array.replicate_zero,List.push_toArray,List.append_toArray,List.nil_append,List.cons_append];gi_wp2_with (gi_at_call 25;refine(wv Fence.wide 7 bQ rfl _ _ _ _ _ _).mono ?_;rintro e w' ⟨rfl,rfl⟩)
 have a6:=bJ.out;simp only[j8]at a6;rw[a6];clear a6;refine wpIn_rangeFunc_ownH rfl (by decide) (gf:=44) (lb:=#[.pointer (some ⟨w.heap.size+1+1+1+1+1+1+1+1,0,none⟩)]) rfl bl (enters_of (S.f Tryz.func44) (by kernel_rfl) rfl)
  (wx Fence.wide 7 bl rfl (by decide) (w.heap.size+1+1+1+1+1+1+1+1) P M fm V b0 bS bY hm aO b5 bT) fH.t (λW l o ca _ h bW _=>fH.b W l o ca h bW) (Below.refl _ _) (λ_=>rfl)
  (λpre W=>jz au T k q (first k) ba w pre W) (λ_ _ _=>False)
  (λcF cr Y row aM g az=>jz.step aM g (λr e=>.inr (by have:=(az r e).1;have:=aR.dm;omega)) (K.keep _ _ _ aM.j g (λr e=>by have:=(az r e).1;have:=aR.dm;have:=K.size w aU;omega)))
  (λ_ _ _ _ _ aM _ _=>aM) aR
  (λx aK W=>∃aq,w.heap.size+9<=aq/\W.cell? ⟨aq,0,none⟩=some (.int .i64 x.1.1)/\W.cell? ⟨aq,1,none⟩=some (.int .i64 x.1.2)/\aK={tmps:=#[.pointer (some ⟨T,0,none⟩),.iface ap (.agg #[]),.agg #[.int .i64 k,.int .i64 P,.int .i64 M,.int .i64 fm,.int .i64 V],.pointer (some ⟨w.heap.size,0,none⟩),.pointer (some ⟨w.heap.size+1,0,none⟩),.pointer (some ⟨w.heap.size+1+1,0,none⟩),.int .i64 0,.pointer (some ⟨w.heap.size+1+1+1+1,0,none⟩),.pointer (some ⟨w.heap.size+1+1+1+1+1+1,0,none⟩),.pointer (some ⟨w.heap.size+1+1+1+1+1+1+1,0,none⟩),.pointer (some ⟨aq,0,none⟩),undef,.map (some (w.heap.size+1+1+1)),.map (some (w.heap.size+1+1+1+1+1)),.agg #[.int .i64 k,.int .i64 P,.int .i64 M,.int .i64 fm,.int .i64 V],.func (.func 44) #[] #[.pointer (some ⟨w.heap.size+1+1+1+1+1+1+1+1,0,none⟩)],.agg #[.int .i64 x.1.1,.int .i64 x.1.2],undef,undef,undef,undef,undef,undef,undef,undef,undef,undef,undef,undef,undef,undef,undef,undef,undef,undef,undef,undef,undef,undef,undef,undef,undef,undef,undef],defers:=[]})
  (λx aK _ X Y row aM g az=>by obtain⟨aq,z,I,F,G⟩:=aM;exact⟨aq,z,cell_kept I g (λr e=>(az r e).2),cell_kept F g (λr e=>(az r e).2),G⟩) ?assign ?body ?done ?stop
 case assign=>
  rintro l pre x W cp bc f;have bw:=bc.dm;gi_wp2
  refine f _ _ ((KeepsOthers.alloc _ _).from _) (fH.grown (Pv _ _ none) (by simp)) (bc.step (Pv _ _ none) (λr e=>by cases e) (K.keep _ _ none bc.j Pn (by intro b e;cases e))) ⟨W.heap.size,bw,Pr rfl,Pr rfl,rfl⟩
 case body=>
  rintro l pre x aK W cB cD bj ⟨aq,cz,bx,bz,rfl⟩ b4;have b7:(ag A).follows .mixedOrders=true:=by kernel_rfl
  have bR:B<=w.heap.size:=K.size w aU;have ar:=Pj bj;have bK:=Pj bx;have bL:=Pj bz;have bw:=bj.dm;have av:∀b,b≠T->some b≠some T:=λb h e=>h (Pm e)
  clear bj bx bz;gi_wp2
  refine Go.wpIn_mono (Q:=λe aK U=>e=.normal/\∃aw ax aA aB aC aD aE aF aG aH aI:Value,aK={tmps:=#[.pointer (some ⟨T,0,none⟩),.iface ap (.agg #[]),.agg #[.int .i64 k,.int .i64 P,.int .i64 M,.int .i64 fm,.int .i64 V],.pointer (some ⟨w.heap.size,0,none⟩),.pointer (some ⟨w.heap.size+1,0,none⟩),.pointer (some ⟨w.heap.size+1+1,0,none⟩),.int .i64 0,.pointer (some ⟨w.heap.size+1+1+1+1,0,none⟩),.pointer (some ⟨w.heap.size+1+1+1+1+1+1,0,none⟩),.pointer (some ⟨w.heap.size+1+1+1+1+1+1+1,0,none⟩),.pointer (some ⟨aq,0,none⟩),aw,.map (some (w.heap.size+1+1+1)),.map (some (w.heap.size+1+1+1+1+1)),.agg #[.int .i64 k,.int .i64 P,.int .i64 M,.int .i64 fm,.int .i64 V],.func (.func 44) #[] #[.pointer (some ⟨w.heap.size+1+1+1+1+1+1+1+1,0,none⟩)],.agg #[.int .i64 x.1.1,.int .i64 x.1.2],ax,aA,aB,aC,aD,aE,aF,aG,aH,aI,undef,undef,undef,undef,undef,undef,undef,undef,undef,undef,undef,undef,undef,undef,undef,undef,undef],defers:=[]}/\ax=.iface ap (.agg #[])/\(∃ej,W.heap.size<=ej/\aw=.pointer (some ⟨ej,0,none⟩)/\U.heap[ej]?=some (.cells #[.int .i64 ((e5 q x:Nat):Int),.int .i64 (fP (first k) ba x.1.1 x.1.2)] 164))/\au U/\W.grownBy U (some T)) ?_ ?_
  .obtain⟨R,bq⟩:∃R:(Nat->Bool)->Act->World->Prop,R=λL a w'=>∃aw ax aA aB aC aD aE aF aG aH aI:Value,a={tmps:=#[.pointer (some ⟨T,0,none⟩),.iface ap (.agg #[]),.agg #[.int .i64 k,.int .i64 P,.int .i64 M,.int .i64 fm,.int .i64 V],.pointer (some ⟨w.heap.size,0,none⟩),.pointer (some ⟨w.heap.size+1,0,none⟩),.pointer (some ⟨w.heap.size+1+1,0,none⟩),.int .i64 0,.pointer (some ⟨w.heap.size+1+1+1+1,0,none⟩),.pointer (some ⟨w.heap.size+1+1+1+1+1+1,0,none⟩),.pointer (some ⟨w.heap.size+1+1+1+1+1+1+1,0,none⟩),.pointer (some ⟨aq,0,none⟩),aw,.map (some (w.heap.size+1+1+1)),.map (some (w.heap.size+1+1+1+1+1)),.agg #[.int .i64 k,.int .i64 P,.int .i64 M,.int .i64 fm,.int .i64 V],.func (.func 44) #[] #[.pointer (some ⟨w.heap.size+1+1+1+1+1+1+1+1,0,none⟩)],.agg #[.int .i64 x.1.1,.int .i64 x.1.2],ax,aA,aB,aC,aD,aE,aF,aG,aH,aI,undef,undef,undef,undef,undef,undef,undef,undef,undef,undef,undef,undef,undef,undef,undef,undef,undef],defers:=[]}/\((L 0=true->ax=.iface ap (.agg #[]))/\(L 1=true->aA=.agg #[.int .i64 x.1.1,.int .i64 x.1.2])/\(L 2=true->aB=.int .i64 ((e5 q x:Nat):Int))/\(L 3=true->aC=.pointer (some ⟨T,0,none⟩))/\(L 4=true->aD=.pointer (some ⟨w.heap.size+1+1,0,none⟩))/\(L 5=true->aE=.int .i64 k)/\(L 6=true->aF=.agg #[.int .i64 x.1.1,.int .i64 x.1.2])/\(L 7=true->aG=.int .i64 (fP (first k) ba x.1.1 x.1.2))/\(L 8=true->aH=.int .i64 (fP (first k) ba x.1.1 x.1.2))/\(L 9=true->aI=.agg #[.int .i64 ((e5 q x:Nat):Int),.int .i64 (fP (first k) ba x.1.1 x.1.2)])/\(L 10=true->∃ej,W.heap.size<=ej/\aw=.pointer (some ⟨ej,0,none⟩)/\w'.heap[ej]?=some (.cells (if L 11=true then #[.int .i64 ((e5 q x:Nat):Int),.int .i64 (fP (first k) ba x.1.1 x.1.2)]else #[.int .i64 0,.int .i64 0]) 164))/\(L 11=true->L 10=true))/\au w'/\W.grownBy w' (some T):=⟨_,rfl⟩
   have E:=Pj bq;clear bq;refine O2 (R:=R) b7 (by kernel_rfl) ?_ ?_ ?_
   .intro L i o a w' ai bn am aS
    rw[E.out]at aS;obtain⟨aw,ax,aA,aB,aC,aD,aE,aF,aG,aH,aI,rfl,⟨u,z,I,F,G,aa,ad,H,ae,af,Z,ah⟩,J,g⟩:=aS;have cs:=g.cell ar.out.t3 (av _ (by dsimp only;omega));have ct:=(g.cell ar.out.t4 (av _ (by dsimp only;omega))).trans (congrArg some bI.out);have cu:=g.cell ar.out.t5 (av _ (by dsimp only;omega));have cv:=g.cell bK.out (av _ (by dsimp only;omega));have cw:=g.cell bL.out (av _ (by dsimp only;omega));rcases i with _|_|_|_|_|_|_|_|_|_|_|_|i
    .obtain rfl:_=o:=by simpa using ai
     refine wpOpIn_step rfl (λaj f=>?_);go_simp
     try refine f _ _ ?_
     rw[E.out];exact⟨_,_,_,_,_,_,_,_,_,_,_,rfl,⟨λ_=>rfl,by simpa [bt]using z,by simpa [bt]using I,by simpa [bt]using F,by simpa [bt]using G,by simpa [bt]using aa,by simpa [bt]using ad,by simpa [bt]using H,by simpa [bt]using ae,by simpa [bt]using af,by simpa [bt]using Z,by simpa [bt]using ah⟩,J,g⟩
    .obtain rfl:_=o:=by simpa using ai
     refine wpOpIn_step rfl (λaj f=>?_);go_simp
     try refine f _ _ ?_
     rw[E.out];exact⟨_,_,_,_,_,_,_,_,_,_,_,rfl,⟨by simpa [bt]using u,λ_=>rfl,by simpa [bt]using I,by simpa [bt]using F,by simpa [bt]using G,by simpa [bt]using aa,by simpa [bt]using ad,by simpa [bt]using H,by simpa [bt]using ae,by simpa [bt]using af,by simpa [bt]using Z,by simpa [bt]using ah⟩,J,g⟩
    .obtain rfl:_=o:=by simpa using ai
     have cc:L 0=true:=am {on:=0,ground:=.data} (by simp) rfl;have ce:L 1=true:=am {on:=1,ground:=.data} (by simp) rfl;obtain rfl:=u cc;obtain rfl:=z ce;rcases Bool.eq_false_or_eq_true q with rfl|rfl
     .have b6:=(show ∀w,Sem.run (ag A) (method (Tryz.progTables.types.size+100) ap (.agg #[]) "gladstone/fee.of") w=.ok (168,.agg #[]) w from bi.out)
      refine wpOpIn_step rfl (λaj f=>?_);go_simp
      gi_wp2_with (first|(refine⟨trivial,?_⟩;gi_at_call 168;refine(CallsIn.inRound l (callsIn_wide.2 (uM true _ _ _))).mono ?_;rintro e U ⟨rfl,C⟩)|(gi_at_call 168;refine(CallsIn.inRound l (callsIn_wide.2 (uM true _ _ _))).mono ?_;rintro e U ⟨rfl,C⟩))
      try refine f _ _ ?_
      rw[E.out];exact⟨_,_,_,_,_,_,_,_,_,_,_,rfl,⟨by simpa [bt]using u,by simpa [bt]using z,λ_=>rfl,by simpa [bt]using F,by simpa [bt]using G,by simpa [bt]using aa,by simpa [bt]using ad,by simpa [bt]using H,by simpa [bt]using ae,by simpa [bt]using af,λh=>by obtain⟨ej,ak,aP,p⟩:=Z (by simpa [bt]using h);exact⟨ej,ak,aP,by simpa [bt]using(C.block ej (bp p) (by simp)).trans p⟩,by simpa [bt]using ah⟩,K.keep _ _ none J C (by intro b e;cases e),k4 g C (λr e=>by cases e)⟩
     .have b6:=(show ∀w,Sem.run (ag A) (method (Tryz.progTables.types.size+100) ap (.agg #[]) "gladstone/fee.of") w=.ok (167,.agg #[]) w from bi.out)
      refine wpOpIn_step rfl (λaj f=>?_);go_simp
      gi_wp2_with (first|(refine⟨trivial,?_⟩;gi_at_call 167;refine(CallsIn.inRound l (callsIn_wide.2 (uM false _ _ _))).mono ?_;rintro e U ⟨rfl,C⟩)|(gi_at_call 167;refine(CallsIn.inRound l (callsIn_wide.2 (uM false _ _ _))).mono ?_;rintro e U ⟨rfl,C⟩))
      try refine f _ _ ?_
      rw[E.out];exact⟨_,_,_,_,_,_,_,_,_,_,_,rfl,⟨by simpa [bt]using u,by simpa [bt]using z,λ_=>rfl,by simpa [bt]using F,by simpa [bt]using G,by simpa [bt]using aa,by simpa [bt]using ad,by simpa [bt]using H,by simpa [bt]using ae,by simpa [bt]using af,λh=>by obtain⟨ej,ak,aP,p⟩:=Z (by simpa [bt]using h);exact⟨ej,ak,aP,by simpa [bt]using(C.block ej (bp p) (by simp)).trans p⟩,by simpa [bt]using ah⟩,K.keep _ _ none J C (by intro b e;cases e),k4 g C (λr e=>by cases e)⟩
    .obtain rfl:_=o:=by simpa using ai
     refine wpOpIn_step rfl (λaj f=>?_);go_simp
     try refine f _ _ ?_
     rw[E.out];exact⟨_,_,_,_,_,_,_,_,_,_,_,rfl,⟨by simpa [bt]using u,by simpa [bt]using z,by simpa [bt]using I,λ_=>rfl,by simpa [bt]using G,by simpa [bt]using aa,by simpa [bt]using ad,by simpa [bt]using H,by simpa [bt]using ae,by simpa [bt]using af,by simpa [bt]using Z,by simpa [bt]using ah⟩,J,g⟩
    .obtain rfl:_=o:=by simpa using ai
     refine wpOpIn_step rfl (λaj f=>?_);go_simp
     try refine f _ _ ?_
     rw[E.out];exact⟨_,_,_,_,_,_,_,_,_,_,_,rfl,⟨by simpa [bt]using u,by simpa [bt]using z,by simpa [bt]using I,by simpa [bt]using F,λ_=>rfl,by simpa [bt]using aa,by simpa [bt]using ad,by simpa [bt]using H,by simpa [bt]using ae,by simpa [bt]using af,by simpa [bt]using Z,by simpa [bt]using ah⟩,J,g⟩
    .obtain rfl:_=o:=by simpa using ai
     have ch:L 4=true:=am {on:=4,ground:=.data} (by simp) rfl;obtain rfl:=G ch;refine wpOpIn_step rfl (λaj f=>?_);go_simp
     try refine f _ _ ?_
     rw[E.out];exact⟨_,_,_,_,_,_,_,_,_,_,_,rfl,⟨by simpa [bt]using u,by simpa [bt]using z,by simpa [bt]using I,by simpa [bt]using F,by simpa [bt]using G,λ_=>rfl,by simpa [bt]using ad,by simpa [bt]using H,by simpa [bt]using ae,by simpa [bt]using af,by simpa [bt]using Z,by simpa [bt]using ah⟩,J,g⟩
    .obtain rfl:_=o:=by simpa using ai
     refine wpOpIn_step rfl (λaj f=>?_);go_simp
     try refine f _ _ ?_
     rw[E.out];exact⟨_,_,_,_,_,_,_,_,_,_,_,rfl,⟨by simpa [bt]using u,by simpa [bt]using z,by simpa [bt]using I,by simpa [bt]using F,by simpa [bt]using G,by simpa [bt]using aa,λ_=>rfl,by simpa [bt]using H,by simpa [bt]using ae,by simpa [bt]using af,by simpa [bt]using Z,by simpa [bt]using ah⟩,J,g⟩
    .obtain rfl:_=o:=by simpa using ai
     have cg:L 3=true:=am {on:=3,ground:=.data} (by simp) rfl;have ci:L 5=true:=am {on:=5,ground:=.data} (by simp) rfl;have cj:L 6=true:=am {on:=6,ground:=.data} (by simp) rfl;obtain rfl:=F cg;obtain rfl:=aa ci;obtain rfl:=ad cj;refine wpOpIn_step rfl (λaj f=>?_);go_simp
     gi_wp2_with (first|(refine⟨trivial,?_⟩;gi_at_call 20;refine(CallsIn.inRound l (callsIn_wide.2 (qs K bZ b8 bV az x.1.1 x.1.2 x.2.1 x.2.2 _ J))).mono ?_;rintro e U ⟨rfl,a7,C⟩))
     try refine f _ _ ?_
     rw[E.out];exact⟨_,_,_,_,_,_,_,_,_,_,_,rfl,⟨by simpa [bt]using u,by simpa [bt]using z,by simpa [bt]using I,by simpa [bt]using F,by simpa [bt]using G,by simpa [bt]using aa,by simpa [bt]using ad,λ_=>rfl,by simpa [bt]using ae,by simpa [bt]using af,λh=>by obtain⟨ej,ak,aP,p⟩:=Z (by simpa [bt]using h);exact⟨ej,ak,aP,by simpa [bt]using(C.block ej (bp p) (av _ (by omega))).trans p⟩,by simpa [bt]using ah⟩,a7,qy g C⟩
    .obtain rfl:_=o:=by simpa using ai
     have ck:L 7=true:=am {on:=7,ground:=.data} (by simp) rfl;obtain rfl:=H ck;refine wpOpIn_step rfl (λaj f=>?_);go_simp
     gi_wp2_with (first|(refine⟨trivial,?_⟩;gi_at_call 21;refine(CallsIn.inRound l (callsIn_wide.2 (m' _ _))).mono ?_;rintro e cq ⟨rfl,rfl⟩))
     try refine f _ _ ?_
     rw[E.out];exact⟨_,_,_,_,_,_,_,_,_,_,_,rfl,⟨by simpa [bt]using u,by simpa [bt]using z,by simpa [bt]using I,by simpa [bt]using F,by simpa [bt]using G,by simpa [bt]using aa,by simpa [bt]using ad,by simpa [bt]using H,λ_=>rfl,by simpa [bt]using af,by simpa [bt]using Z,by simpa [bt]using ah⟩,J,g⟩
    .obtain rfl:_=o:=by simpa using ai
     have cf:L 2=true:=am {on:=2,ground:=.data} (by simp) rfl;have cl:L 8=true:=am {on:=8,ground:=.data} (by simp) rfl;obtain rfl:=I cf;obtain rfl:=ae cl;refine wpOpIn_step rfl (λaj f=>?_);go_simp
     try refine f _ _ ?_
     rw[E.out];exact⟨_,_,_,_,_,_,_,_,_,_,_,rfl,⟨by simpa [bt]using u,by simpa [bt]using z,by simpa [bt]using I,by simpa [bt]using F,by simpa [bt]using G,by simpa [bt]using aa,by simpa [bt]using ad,by simpa [bt]using H,by simpa [bt]using ae,λ_=>rfl,by simpa [bt]using Z,by simpa [bt]using ah⟩,J,g⟩
    .obtain rfl:_=o:=by simpa using ai
     have bo:L 10=false:=bn;have a8:L 11=false:=by
      cases h:L 11 with
      |false=>rfl
      |true=>rw[ah h]at bo;cases bo
     refine wpOpIn_step rfl (λaj f=>?_);go_simp
     try refine f _ _ ?_
     rw[E.out];exact⟨_,_,_,_,_,_,_,_,_,_,_,rfl,⟨by simpa [bt]using u,by simpa [bt]using z,by simpa [bt]using I,by simpa [bt]using F,by simpa [bt]using G,by simpa [bt]using aa,by simpa [bt]using ad,by simpa [bt]using H,by simpa [bt]using ae,by simpa [bt]using af,λ_=>⟨_,g.size,rfl,by simpa [bt,a8]using h' _ _ _ rfl⟩,by simp[bt]⟩,K.keep _ _ none J Pn (by intro b e;cases e),k4 g (Pv _ _ none) (λr e=>by cases e)⟩
    .obtain rfl:_=o:=by simpa using ai
     have bC:L 10=true:=am {on:=10,ground:=.data} (by simp) rfl;have cm:L 9=true:=am {on:=9,ground:=.data} (by simp) rfl;obtain rfl:=af cm;have a8:L 11=false:=bn;obtain⟨ej,ak,rfl,p⟩:=Z bC;rw[if_neg (by rw[a8];simp)]at p;have bD:=aT (o:=0) p;have co:=aT (o:=1) p;have z0:=b1 (o:=0) p;have cH:=b1 (o:=1) p;refine wpOpIn_step rfl (λaj f=>?_);go_simp
     try refine f _ _ ?_
     rw[E.out];exact⟨_,_,_,_,_,_,_,_,_,_,_,rfl,⟨by simpa [bt]using u,by simpa [bt]using z,by simpa [bt]using I,by simpa [bt]using F,by simpa [bt]using G,by simpa [bt]using aa,by simpa [bt]using ad,by simpa [bt]using H,by simpa [bt]using ae,by simpa [bt]using af,λ_=>⟨ej,ak,rfl,(cQ (cQ p)).trans (by rw[if_pos (by simp[bt])];rfl)⟩,by simp[bt,bC]⟩,K.keep _ _ (some ej) J (et (et (Pw _ _))) (λb e=>by have:=Pm e;omega),kC (kC g ak) ak⟩
    .simp at ai
   .intro L a w' a9 aS
    rw[E.out]at aS;obtain⟨aw,ax,aA,aB,aC,aD,aE,aF,aG,aH,aI,rfl,⟨u,z,I,F,G,aa,ad,H,ae,af,Z,ah⟩,J,g⟩:=aS;obtain⟨ej,ak,rfl,p⟩:=Z (a9 10 (by decide));rw[a9 11 (by decide)]at p;exact⟨rfl,_,_,_,_,_,_,_,_,_,_,_,rfl,u (a9 0 (by decide)),⟨ej,ak,rfl,p⟩,J,g⟩
   .rw[E.out]
    refine⟨undef,undef,undef,undef,undef,undef,undef,undef,undef,undef,undef,rfl,⟨?_,?_,?_,?_,?_,?_,?_,?_,?_,?_,?_,?_⟩,K.keep _ _ none ar.out.j ⟨rfl,rfl,rfl,Pk,λ_ _ _=>rfl⟩ (by intro b e;cases e),⟨rfl,rfl,rfl,Pk,λ_ _ _=>rfl⟩⟩;all_goals (intro h;cases h)
  .rintro e aK U ⟨rfl,aw,ax,aA,aB,aC,aD,aE,aF,aG,aH,aI,rfl,rfl,⟨ej,ak,rfl,p⟩,a7,C⟩
   have al:=ar.out.step C (λr e=>.inl (Pm e).symm) a7;have cx:=al.rT;have bD:=aT (o:=0) p;have co:=aT (o:=1) p;have bs:l9 164:=.inr (.inr rfl);have b9:∀w,Sem.run (ag A) (zeroValue 4) w=.ok (.bool false) w:=λw=>by kernel_rfl
   have bA:∀w,Sem.run (ag A) (zeroValue 3) w=.ok (.int .i64 0) w:=λw=>by kernel_rfl
   have br:=F0 q (first k) ba pre;have a2:=qB (ag.underlying178 A) bs b9 al.e6 ((e5 q x:Nat):Int) (fP (first k) ba x.1.1 x.1.2) false;have aX:=Pj C;by_cases a4:(((e5 q x:Nat):Int),(fP (first k) ba x.1.1 x.1.2))∈(eC q (first k) ba pre).seen
   .replace a2:Sem.run (ag A) (Instr.lookup 160 (.map (some (w.heap.size+1+1+1))) (.agg #[.int .i64 ((e5 q x:Nat):Int),.int .i64 (fP (first k) ba x.1.1 x.1.2)]) false) U=.ok (.bool true) U:=a2.trans (by simp[nf,a4])
    have aJ:=Pj al;clear al C br;gi_wp2
    exact⟨KeepsFrom.of_grownBy aX.out (λj e=>by have:=Pm e;omega),fH.grown aX.out (av _ (by have:=aJ.out.lt;omega)),aJ.out.seen a4⟩
   .replace a2:Sem.run (ag A) (Instr.lookup 160 (.map (some (w.heap.size+1+1+1))) (.agg #[.int .i64 ((e5 q x:Nat):Int),.int .i64 (fP (first k) ba x.1.1 x.1.2)]) false) U=.ok (.bool false) U:=a2.trans (by simp[nf,a4])
    have ao:∀b r:Nat,b≠r->some b≠some r:=λb r z e=>z (Pm e)
    obtain⟨a5,bv,bB,aL,z9⟩:=A6 (ag.underlying178 A) bs al.e6 ((e5 q x:Nat):Int) (fP (first k) ba x.1.1 x.1.2) (.bool true);replace bv:Sem.run (ag A) (Instr.mapUpdate 160 (.map (some (w.heap.size+1+1+1))) (.agg #[.int .i64 ((e5 q x:Nat):Int),.int .i64 (fP (first k) ba x.1.1 x.1.2)]) (.bool true)) U=.ok () a5:=bv;have bP:=aL.cell al.jE (ao _ _ (by dsimp only;omega));have cn:=aL.cell bD (ao _ _ (by dsimp only;omega));have bg:=al.fY.keep aL (ao _ _ (by omega));have b3:Sem.run (ag A) (Instr.lookup 161 (.map (some (w.heap.size+1+1+1+1+1))) (.int .i64 ((e5 q x:Nat):Int)) false) a5=.ok (.int .i64 (hg (e5 q x) (eC q (first k) ba pre).seen)) a5:=(uA (ag.underlying179 A) rfl bA bg ((e5 q x:Nat):Int) false).trans (by
     unfold od;by_cases u:(hg (e5 q x) (eC q (first k) ba pre).seen)=0
     .simp[u]
     .simp[u])
    obtain⟨aN,bd,bf,aQ,cI⟩:=A2 (ag.underlying179 A) rfl bg ((e5 q x:Nat):Int) (.int .i64 ((hg (e5 q x) (eC q (first k) ba pre).seen)+1:Nat));replace bd:Sem.run (ag A) (Instr.mapUpdate 161 (.map (some (w.heap.size+1+1+1+1+1))) (.int .i64 ((e5 q x:Nat):Int)) (.int .i64 (((hg (e5 q x) (eC q (first k) ba pre).seen):Int)+1))) a5=.ok () aN:=bd;have cy:=aQ.cell bP (ao _ _ (by dsimp only;omega));have cG:=aQ.cell cn (ao _ _ (by dsimp only;omega));have b2:Sem.run (ag A) (Instr.lookup 161 (.map (some (w.heap.size+1+1+1+1+1))) (.int .i64 ((e5 q x:Nat):Int)) false) aN=.ok (.int .i64 (((hg (e5 q x) (eC q (first k) ba pre).seen):Int)+1)) aN:=(uA (ag.underlying179 A) rfl bA bf ((e5 q x:Nat):Int) false).trans (by simp[nb]);have a1:=(aQ.block _ (by rw[z9];have:=al.dm;omega) (ao _ _ (by omega))).trans ((aL.block _ (by have:=al.dm;omega) (ao _ _ (by omega))).trans al.t9);have t9:=aT (o:=0) a1;have f9:=b1 (o:=0) a1;have bX:(hg (e5 q x) (eC q (first k) ba pre).seen)<=pre.length:=Po List.countP_le_length br.1;have aJ:=Pj al;have bN:=Pj bB;have aW:=Pj aL;have bM:=Pj bf;have aV:=Pj aQ;have bE:=Pj a1;clear al C bB aL bf aQ a1 bg;obtain⟨aY,bb⟩:∃aY,(hg (e5 q x) (eC q (first k) ba pre).seen)=aY:=⟨_,rfl⟩
    rw[bb]at bd b3 b2 bX;have bF:=Pj bb;clear bb;gi_wp2
    have aZ:aN.grownBy (aN.setCell ⟨w.heap.size+1+1+1+1+1+1+1,0,none⟩ (.int .i64 (max (eC q (first k) ba pre).most ((aY:Int)+1)))) (some (w.heap.size+1+1+1+1+1+1+1)):=et (Pw _ _);have H:(aN.setCell ⟨w.heap.size+1+1+1+1+1+1+1,0,none⟩ (.int .i64 (max (eC q (first k) ba pre).most ((aY:Int)+1)))).heap[w.heap.size+1+1+1+1+1+1+1]?=some (.cells #[.int .i64 (max (eC q (first k) ba pre).most ((hg (e5 q x) (eC q (first k) ba pre).seen)+1:Nat))] 3):=by rw[bF.out];exact cQ bE.out
    have b4:=aJ.out.lt;refine⟨((KeepsFrom.of_grownBy aX.out (λj e=>by have:=Pm e;omega)).trans (KeepsFrom.of_grownBy aW.out (λj e=>by have:=Pm e;omega))).trans ((KeepsFrom.of_grownBy aV.out (λj e=>by have:=Pm e;omega)).trans (KeepsFrom.of_grownBy aZ (λj e=>by have:=Pm e;omega))),(((fH.grown aX.out (av _ (by omega))).t (fH.grown aW.out (ao _ _ (by omega)))).t (fH.grown aV.out (ao _ _ (by omega)))).t (fH.grown aZ (ao _ _ (by omega))),?_⟩;refine aJ.out.met a4 bN.out aW.out bM.out aV.out H aZ ?_;exact K.keep _ _ _ (K.keep _ _ _ (K.keep _ _ _ aJ.out.j aW.out (λb e=>by have:=Pm e;omega)) aV.out (λb e=>by have:=Pm e;omega)) aZ (λb e=>by have:=Pm e;omega)
 case done=>
  rintro D ys W bm rfl bj f;have z9:=aT (o:=0) bj.t9;have ar:=Pj bj;have bH:=Pj f;have bG:=Pj bm;clear bj f bm;gi_wp2
  refine⟨by simp,.inl ⟨_,_,rfl,run_takeDeferred bH.out,?_⟩⟩;refine⟨_,results_tmp rfl _ _ _,?_⟩;have bk:=grownBy_putObj' W D (.deferred none);have cE:=aR.dm;have bR:B<=w.heap.size:=K.size w aU;have cA:=bG.out;exact⟨rfl,K.keep _ _ _ ar.out.j bk (λb e=>by have:=Pm e;omega),k4 ar.out.e4 bk (λr e=>by have:=Pm e;right;omega)⟩
 case stop=>
  rintro D c pre W _ _ h _;exact h.elim
end
end Go.aN
