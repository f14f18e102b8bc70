/- Part 25 of a law on fees: no conditions. -/
import Derived.Test.YthiiblonjmmnfaaGreatDoorP17
import Derived.RangeFuncNested
import Derived.RangeFuncBound
import Derived.RangeFuncCalls
import Derived.RangeFuncLeaves
import Derived.OwnWalkIn
import Derived.TacticsInMore
import Derived.LoopNIn
import Derived.LoopIn
import Derived.RangeFuncWrites
import Derived.Shelf.Abstract
import Derived.Maps.OwnIn
import Derived.Shelf.RegionOpen
import Derived.Shelf.SlIterI.Nil
import Derived.Shelf.SortM.Plain
import Derived.Shelf.SortM.SortNone
set_option maxHeartbeats 8000000
set_option maxRecDepth 100000
set_option linter.all false
namespace Go.aN
attribute [local go_sem] Oper.semAt_some
open Go.Proofs Go.RowKit
section
abbrev e1:={x:Nat×Nat // x.1<120/\x.2<120}
def so(a b:Nat):e1:=if h:a<120/\b<120 then⟨(a,b),h⟩else⟨(0,0),by decide⟩
abbrev tT(x:e1):Array Value:=#[.agg #[.int .i64 x.1.1,.int .i64 x.1.2]]
def F'{a b:Nat}(c:a<120)(d:b<120):tT (so a b)=#[.agg #[.int .i64 a,.int .i64 b]]:=by simp[tT,so,c,d]
def lV(fm left k:Nat):List e1:=(List.range k).map λj=>so left (max left fm+j)
def gy(c fm d:Nat):Nat->List e1
 | 0=>[]
 |i+1=>gy c fm d i++lV fm (c+i) (d+1-max (c+i) fm)
def KX(fm left k:Nat):lV fm left (k+1)=lV fm left k++[so left (max left fm+k)]:=by simp[lV,List.range_succ]
def lH(W:World)(eL f d fm c:Nat):Prop:=
 W.cell? ⟨eL,1,none⟩=some (.int .i64 f)/\W.cell? ⟨eL,2,none⟩=some (.int .i64 d)/\W.cell? ⟨eL,3,none⟩=some (.int .i64 fm)/\W.cell? ⟨eL,4,none⟩=some (.int .i64 c)
def g5:Value->Int
 |.int _ q=>q
 |_=>0
variable{A:Array Func}
def E8[S:Std A](F:Fence)(n:Nat)(K:F.fn 44)(V:F.round=none)(aj:1<=n)(l eL c f fm d:Nat)(ah:c<=f)(Y:f<120)(aa:d<120)(hm:fm<120){r:World->World->Prop}(P:∀W dt,r W dt->lH W eL c f fm d->lH dt eL c f fm d)(g q:List e1->World->Prop)
 (T:∀pre x W,g pre W->pre.length<14400->YieldAt F (n-1) (ag A) l (tT x) W λe dt=>
  (e=.returned (.bool true)/\g (pre++[x]) dt/\r W dt)\/(e=.returned (.bool false)/\q (pre++[x]) dt))
 (W:World) (z:lH W eL c f fm d) (J:g [] W) :
 CallsIn F n (ag A) 44 #[.func (.yield l) #[] #[],.pointer (some ⟨eL,0,none⟩)] W λe dt=>(∃v,e=.returned v)/\
  ((∃ys,ys=gy c fm d (f-c+1)/\g ys dt)\/(∃pre,True/\q pre dt)):=by
 refine callsIn_of_wp (S.f Tryz.func44) rfl K ?_ V;simp only[Tryz.ntmps44,List.size_toArray,List.length_cons,List.length_nil,Nat.reduceAdd,Nat.reduceSub,Array.replicate_succ,Array.replicate_zero,List.push_toArray,List.append_toArray,List.nil_append,List.cons_append];obtain⟨G,H,c3,I⟩:=id z;gi_wp2
 gi_loopw [14] (λv wr=>∃i:Nat,v=.int .i64 i/\i<=f-c+1/\lH wr eL c f fm d/\g (gy c fm d i) wr/\(gy c fm d i).length<=i*120)
  (λv _=>f-c+1-(g5 v).toNat)
 case atStart=>exact⟨0,rfl,Nat.zero_le _,z,J,Nat.zero_le _⟩
 case round=>
  obtain⟨i,rfl,ad,B,w,hlen⟩:=hrel;obtain⟨G,H,c3,I⟩:=id B;by_cases ai:i<=f-c
  .have C:∀k,(lV fm (c+i) k).length=k:=λk=>by simp[lV]
   obtain⟨s,D⟩:∃s:Nat,s=max (c+i) fm:=⟨_,rfl⟩
   have h:=Pj D;have p:=Pj C;clear D C;have Z:decide ((i:Int)<(f:Int)-c+1)=true:=by rw[decide_eq_true_eq];omega
   rcases Nat.lt_or_ge (c+i) fm with hq|hq
   all_goals
    gi_wp2
    gi_loopw [5] (λv wr=>∃k:Nat,v=.int .i64 ((s:Int)+k)/\k<=d+1-s/\lH wr eL c f fm d/\g (gy c fm d i++lV fm (c+i) k) wr)
     (λv _=>d+1-(g5 v).toNat)
    case atStart=>exact⟨0,by have:=h.out;congr 1;omega,Nat.zero_le _,B,by simpa [lV]using w⟩
    case round=>
     obtain⟨k,rfl,af,j,u⟩:=hrel;obtain⟨d1,d2,d3,d4⟩:=id j;have ak:c+i<=s/\fm<=s/\s<120:=by have:=h.out;omega
     by_cases ae:s+k<=d
     .obtain⟨fn,tmps,assign,body,E,Q⟩:=T (gy c fm d i++lV fm (c+i) k) (so (c+i) (s+k)) _ u (by rw[List.length_append,p.out];omega)
      rw[F' (by omega) (by omega)]at E;simp only[Int.natCast_add]at E;gi_wp2
      refine Q.mono ?_;rintro e X (⟨rfl,L,U⟩|⟨rfl,M⟩)
      .have R:=P _ _ U j
       gi_wp2
       go_roundw
       case rel=>
        have o:=h.out;exact⟨k+1,by go_num,by omega,R,by rw[KX,<-o,<-List.append_assoc];exact L⟩
       case measure=>simp[g5];omega
      .gi_wp2
       refine bodyPost_ret (results_none rfl _ _ _) rfl ?_;exact⟨⟨_,rfl⟩,.inr ⟨_,trivial,M⟩⟩
     .gi_wp2
      go_roundw
      case rel=>
       have o:=h.out;refine⟨i+1,by go_num,by omega,j,?_,?_⟩
       .rw[gy,<-o,show d+1-s=k by omega];exact u
       .rw[gy,List.length_append,p.out];omega
      case measure=>simp[g5];omega
  .gi_wp2
   go_end0;have e:i=f-c+1:=by omega
   exact⟨⟨_,rfl⟩,.inl ⟨_,rfl,by rw[<-e];exact w⟩⟩
end
end Go.aN
namespace Go.aN
attribute [local go_sem] Oper.semAt_some
open Go.Proofs Go.RowKit Go.Shelf
section
variable{A:Array Func}
def fH(eL:Nat)(W dt:World):Prop:=∀o v,W.cell? ⟨eL,o,none⟩=some v->dt.cell? ⟨eL,o,none⟩=some v
def fH.t{eL:Nat}{X Y Z:World}(h:fH eL X Y)(k:fH eL Y Z):fH eL X Z:=λo v e=>k o v (h o v e)
def fH.b{eL:Nat}(W:World)(l:Nat)(o c:Obj)(h:W.heap[l]?=some o)(d:o.isCells=false):fH eL W (W.putObj l c):=λ_ _ e=>cell_kept e (grownBy_putObj' W l c) (λr e=>by cases e;exact⟨o,h,d⟩)
def fH.grown{eL:Nat}{W dt:World}{row:Option Nat}(h:W.grownBy dt row)(c:some eL≠row):fH eL W dt:=λ_ _ e=>h.cell e c
def fH.stay{eL f d fm c:Nat}(W dt:World)(h:fH eL W dt)(k:lH W eL f d fm c):lH dt eL f d fm c:=⟨h _ _ k.1,h _ _ k.2.1,h _ _ k.2.2.1,h _ _ k.2.2.2⟩
def wv[S:Std A](F:Fence)(n:Nat)(g:F.fn 25)(h:F.round=none)(a b c d f:Int)(w:World):
 CallsIn F n (ag A) 25 #[.agg #[.int .i64 a,.int .i64 b,.int .i64 c,.int .i64 d,.int .i64 f]] w λe w'=>e=.returned (.func (.func 44) #[] #[.pointer (some ⟨w.heap.size,0,none⟩)])/\w'=w.alloc (.cells #[.int .i64 a,.int .i64 b,.int .i64 c,.int .i64 d,.int .i64 f] 32):=by
 refine callsIn_of_wp (S.f Tryz.func25) rfl g ?_ h;simp only[Tryz.ntmps25,List.size_toArray,List.length_cons,List.length_nil,Nat.reduceAdd,Nat.reduceSub,Array.replicate_succ,Array.replicate_zero,List.push_toArray,List.append_toArray,List.nil_append,List.cons_append];gi_wp2
 go_ret;exact⟨rfl,rfl⟩
def wx[S:Std A](F:Fence)(n:Nat)(q:F.fn 44)(D:F.round=none)(C:1<=n)(eL d c fm f:Nat)(B:d<=c)(r:c<120)(z:f<120)(hm:fm<120)(w:World)(h:eL<w.heap.size)(g:lH w eL d c fm f):
 SeqStopsK F n (ag A) 44 #[.pointer (some ⟨eL,0,none⟩)] tT (fH eL) (λys=>ys=gy d fm f (c-d+1)) (λ_=>True) 14400 w:=λl i j W hW _ _ u o=>
 E8 F n q D C l eL d c fm f B r z hm (fH.stay (eL:=eL)) i j u W
  ⟨(hW.cell (p:=⟨eL,1,none⟩) h).trans g.1,(hW.cell (p:=⟨eL,2,none⟩) h).trans g.2.1,(hW.cell (p:=⟨eL,3,none⟩) h).trans g.2.2.1,(hW.cell (p:=⟨eL,4,none⟩) h).trans g.2.2.2⟩ o
end
section
variable{A:Array Func}
abbrev Ea:=DataW Unit
def jI(f:Int)(ba:Nat->Int)(x:e1):Int:=fP f ba x.1.1 x.1.2
def lf(f:Int)(ba:Nat->Int)(pre:List e1):Ea:=pre.foldl (λD x=>D.put (.int .i64 (jI f ba x)) (.lit (.bool true))) (.map [])
def I2(f:Int)(ba:Nat->Int)(pre:List e1)(x:e1):lf f ba (pre++[x])=(lf f ba pre).put (.int .i64 (jI f ba x)) (.lit (.bool true)):=by simp[lf]
def Hk{f:Int}(h:0<=f/\f<=1000000){ba:Nat->Int}(c:∀d,0<=ba d/\ba d<=1000000)(x:e1):0<=jI f ba x/\jI f ba x<=10000000:=by have:=Dm c (x.1.1 / 24+1) (x.1.2 / 24-x.1.1 / 24);have g:=x.2.2;unfold jI fP;omega
def OK{n:Int}(h:0<=n/\n<=10000000):(Lit.int .i64 n).wf=true:=by have c:IntKind.i64.min = -9223372036854775808:=rfl;have d:IntKind.i64.max=9223372036854775807:=rfl;simp[Lit.wf,c,d];omega
structure oX(A:Array Func)(a8:World->Prop)(T k:Nat)(f:Int)(ba:Nat->Int)(w:World)(pre:List e1)(W:World):Prop where
 t2:W.cell? ⟨w.heap.size,0,none⟩=some (.pointer (some ⟨T,0,none⟩))
 t3:W.cell? ⟨w.heap.size+1,0,none⟩=some (.int .i64 k)
 t5:W.cell? ⟨w.heap.size+1+1+1,0,none⟩=some (.map (some (w.heap.size+1+1)))
 own:W.ownsMap (ag A) 3 (plainElem (H:=Unit) (ag A) 4) (w.heap.size+1+1) pre.length (lf f ba pre)
 j:a8 W
 e4:w.grownBy W (some T)
 dm:w.heap.size+5<=W.heap.size
def k4{a b c:World}{row:Option Nat}{T:Nat}(h:a.grownBy b (some T))(k:b.grownBy c row)(g:∀r,row=some r->r=T\/a.heap.size<=r):a.grownBy c (some T):=
 ⟨h.os ▸ k.os,k.tape.trans h.tape,k.output.trans h.output,Po h.size k.size,λi d f=>(k.block i (Px d h.size) (λe=>by
  rcases g i e.symm with rfl|J
  .exact f rfl
  .omega)).trans (h.block i d f)⟩
def oX.step{g:World->Prop}{T k:Nat}{f:Int}{ba:Nat->Int}{w:World}{pre:List e1}{W dt:World}{row:Option Nat}(h:oX A g T k f ba w pre W)(p:T<w.heap.size)(c:W.grownBy dt row)(i:∀r,row=some r->r=T\/w.heap.size+5<=r)(j:g dt):oX A g T k f ba w pre dt:=by
 have d:∀b,w.heap.size<=b->b<w.heap.size+5->some b≠row:=λb l o e=>by rcases i b e.symm with rfl|ax<;>omega
 exact⟨c.cell h.t2 (d _ (by dsimp only;omega) (by dsimp only;omega)),c.cell h.t3 (d _ (by dsimp only;omega) (by dsimp only;omega)),c.cell h.t5 (d _ (by dsimp only;omega) (by dsimp only;omega)),h.own.kept c (d _ (by omega) (by omega)),j,
  k4 h.e4 c (λr e=>(i r e).imp id (by omega)),Po h.dm c.size⟩
def Nk{i:World->Prop}{T B z G F eT:Nat}{first:Nat->Int}(K:nK i T B z G F eT first){k:Nat}{ba:Nat->Int}(D:∀d,0<=ba d/\ba d<=1000000){w W f:World}{pre:List e1}{x:e1}(u:i w)(bj:oX A i T k (first k) ba w pre W)(J:pre.length<14400)(p:i f)(j:W.drew.grownBy f (some T)):
 ∃l,Sem.run (ag A) (Instr.mapUpdate 120 (.map (some (w.heap.size+1+1))) (.int .i64 (fP (first k) ba x.1.1 x.1.2)) (.bool true)) f=.ok () l/\oX A i T k (first k) ba w (pre++[x]) l/\W.grownBy f (some T)/\f.grownBy l (some (w.heap.size+1+1)):=by
 have C:T<w.heap.size:=by have:=K.lt;have:=K.size w u;omega
 have I:B<=w.heap.size:=K.size w u;have q:W.grownBy f (some T):=⟨j.os,j.tape,j.output,j.size,j.block⟩
 have g:=bj.step C q (λr e=>by cases e;exact .inl rfl) p;obtain⟨l,E,H,c⟩:=g.own.update (Maps.int_keyed (ag.underlying3 A)) (ag.underlying173 A) (by unfold maxLen;omega) (Maps.keyOf_int_mk (ag.underlying3 A) (OK (Hk (K.gw k) D x))) (plainElem_bool (ag.underlying4 A) true);have o:∀b,b≠w.heap.size+1+1->some b≠some (w.heap.size+1+1):=λb h e=>h (by cases e;rfl)
 refine⟨l,E,⟨c.cell g.t2 (o _ (by dsimp only;omega)),c.cell g.t3 (o _ (by dsimp only;omega)),c.cell g.t5 (o _ (by dsimp only;omega)),?_,?_,?_,Po g.dm c.size⟩,q,c⟩
 .rw[I2,List.length_append]
  exact H
 .exact K.keep _ _ _ p c (λr e=>by cases e;omega)
 .exact k4 g.e4 c (λr e=>by cases e;right;omega)
end
end Go.aN
namespace Go.aN
open Go.Proofs Go.RowKit Go.Maps Go.Shelf
section
variable{A:Array Func}
def uy:Go.Shelf.Ren:=⟨λx=>match x with|7=>42|10=>63|n=>n,λx=>match x with|23=>120|26=>3|3=>4|28=>123|0=>0|27=>122|33=>56|4=>4|n=>n,λn=>n⟩
def A1[S:Std A]:SlLaysZI.n7 (ag A) uy where
 mixed:=by kernel_rfl
 f7:=⟨Tryz.f42.name,by kernel_rfl,(show(ag A).funcs[42]?=some Tryz.f42 from(S.f Tryz.func42)).trans (by kernel_rfl)⟩
 f10:=⟨Tryz.f63.name,by kernel_rfl,(show(ag A).funcs[63]?=some Tryz.f63 from(S.f Tryz.func63)).trans (by kernel_rfl)⟩
 t0:=by kernel_rfl
 a0:=λw=>by kernel_rfl
 z0:=λw=>by kernel_rfl
 v0:=λw=>by kernel_rfl
 t4:=by kernel_rfl
 a4:=λw=>by kernel_rfl
 z4:=λw=>by kernel_rfl
 v4:=λw=>by kernel_rfl
 t23:=by kernel_rfl
 a23:=λw=>by kernel_rfl
 z23:=λw=>by kernel_rfl
 v23:=λw=>by kernel_rfl
 t26:=by kernel_rfl
 a26:=λw=>by kernel_rfl
 z26:=λw=>by kernel_rfl
 v26:=λw=>by kernel_rfl
 t27:=by kernel_rfl
 a27:=λw=>by kernel_rfl
 z27:=λw=>by kernel_rfl
 v27:=λw=>by kernel_rfl
 t28:=by kernel_rfl
 a28:=λw=>by kernel_rfl
 z28:=λw=>by kernel_rfl
 v28:=λw=>by kernel_rfl
 t33:=by kernel_rfl
 a33:=λw=>by kernel_rfl
 z33:=λw=>by kernel_rfl
 v33:=λw=>by kernel_rfl
def ym:Go.Shelf.Ren:=⟨λx=>match x with|6=>41|8=>61|9=>62|11=>76|13=>78|12=>77|23=>101|24=>102|14=>92|15=>93|16=>94|17=>95|18=>96|19=>97|20=>98|21=>99|22=>100|25=>125|26=>126|27=>127|28=>128|29=>129|30=>130|31=>140|n=>n,λx=>match x with|26=>3|28=>123|24=>22|0=>0|3=>3|37=>86|48=>91|50=>49|4=>4|40=>223|39=>222|45=>170|5=>5|9=>9|51=>246|55=>249|57=>262|58=>263|33=>56|n=>n,λn=>n⟩
def LN[S:Std A]:SlLaysZI.n6 (ag A) ym where
 mixed:=by kernel_rfl
 f6:=⟨Tryz.f41.name,by kernel_rfl,(show(ag A).funcs[41]?=some Tryz.f41 from(S.f Tryz.func41)).trans (by kernel_rfl)⟩
 f8:=⟨Tryz.f61.name,by kernel_rfl,(show(ag A).funcs[61]?=some Tryz.f61 from(S.f Tryz.func61)).trans (by kernel_rfl)⟩
 f11:=⟨Tryz.f76.name,by kernel_rfl,(show(ag A).funcs[76]?=some Tryz.f76 from(S.f Tryz.func76)).trans (by kernel_rfl)⟩
 t0:=by kernel_rfl
 a0:=λw=>by kernel_rfl
 z0:=λw=>by kernel_rfl
 v0:=λw=>by kernel_rfl
 t24:=by kernel_rfl
 a24:=λw=>by kernel_rfl
 z24:=λw=>by kernel_rfl
 v24:=λw=>by kernel_rfl
 t26:=by kernel_rfl
 a26:=λw=>by kernel_rfl
 z26:=λw=>by kernel_rfl
 v26:=λw=>by kernel_rfl
 t28:=by kernel_rfl
 a28:=λw=>by kernel_rfl
 z28:=λw=>by kernel_rfl
 v28:=λw=>by kernel_rfl
 i26:=by kernel_rfl
def LL:Go.Shelf.Ren:=⟨λx=>match x with|5=>62|8=>78|7=>77|19=>101|20=>102|10=>92|11=>93|12=>94|13=>95|14=>96|15=>97|16=>98|17=>99|18=>100|30=>125|31=>126|32=>127|33=>128|34=>129|35=>130|40=>140|n=>n,λx=>match x with|23=>22|25=>3|3=>3|32=>86|22=>22|0=>0|44=>91|46=>49|4=>4|36=>223|35=>222|41=>170|5=>5|9=>9|53=>246|57=>249|63=>262|64=>263|n=>n,λn=>n⟩
def CF[S:Std A]:SlLaysM.n5 (ag A) LL where
 mixed:=by kernel_rfl
 f5:=⟨Tryz.f62.name,by kernel_rfl,(show(ag A).funcs[62]?=some Tryz.f62 from(S.f Tryz.func62)).trans (by kernel_rfl)⟩
 f7:=⟨Tryz.f77.name,by kernel_rfl,(show(ag A).funcs[77]?=some Tryz.f77 from(S.f Tryz.func77)).trans (by kernel_rfl)⟩
 f8:=(show(ag A).funcs[78]?=some Tryz.f78 from(S.f Tryz.func78)).trans (by kernel_rfl)
 f10:=⟨Tryz.f92.name,by kernel_rfl,(show(ag A).funcs[92]?=some Tryz.f92 from(S.f Tryz.func92)).trans (by kernel_rfl)⟩
 f11:=⟨Tryz.f93.name,by kernel_rfl,(show(ag A).funcs[93]?=some Tryz.f93 from(S.f Tryz.func93)).trans (by kernel_rfl)⟩
 f12:=⟨Tryz.f94.name,by kernel_rfl,(show(ag A).funcs[94]?=some Tryz.f94 from(S.f Tryz.func94)).trans (by kernel_rfl)⟩
 f13:=⟨Tryz.f95.name,by kernel_rfl,(show(ag A).funcs[95]?=some Tryz.f95 from(S.f Tryz.func95)).trans (by kernel_rfl)⟩
 f14:=⟨Tryz.f96.name,by kernel_rfl,(show(ag A).funcs[96]?=some Tryz.f96 from(S.f Tryz.func96)).trans (by kernel_rfl)⟩
 f15:=⟨Tryz.f97.name,by kernel_rfl,(show(ag A).funcs[97]?=some Tryz.f97 from(S.f Tryz.func97)).trans (by kernel_rfl)⟩
 f16:=⟨Tryz.f98.name,by kernel_rfl,(show(ag A).funcs[98]?=some Tryz.f98 from(S.f Tryz.func98)).trans (by kernel_rfl)⟩
 f17:=⟨Tryz.f99.name,by kernel_rfl,(show(ag A).funcs[99]?=some Tryz.f99 from(S.f Tryz.func99)).trans (by kernel_rfl)⟩
 f18:=⟨Tryz.f100.name,by kernel_rfl,(show(ag A).funcs[100]?=some Tryz.f100 from(S.f Tryz.func100)).trans (by kernel_rfl)⟩
 f19:=(show(ag A).funcs[101]?=some Tryz.f101 from(S.f Tryz.func101)).trans (by kernel_rfl)
 f20:=(show(ag A).funcs[102]?=some Tryz.f102 from(S.f Tryz.func102)).trans (by kernel_rfl)
 f30:=⟨Tryz.f125.name,by kernel_rfl,(show(ag A).funcs[125]?=some Tryz.f125 from(S.f Tryz.func125)).trans (by kernel_rfl)⟩
 f31:=(show(ag A).funcs[126]?=some Tryz.f126 from(S.f Tryz.func126)).trans (by kernel_rfl)
 f32:=(show(ag A).funcs[127]?=some Tryz.f127 from(S.f Tryz.func127)).trans (by kernel_rfl)
 f33:=⟨Tryz.f128.name,by kernel_rfl,(show(ag A).funcs[128]?=some Tryz.f128 from(S.f Tryz.func128)).trans (by kernel_rfl)⟩
 f34:=⟨Tryz.f129.name,by kernel_rfl,(show(ag A).funcs[129]?=some Tryz.f129 from(S.f Tryz.func129)).trans (by kernel_rfl)⟩
 f35:=⟨Tryz.f130.name,by kernel_rfl,(show(ag A).funcs[130]?=some Tryz.f130 from(S.f Tryz.func130)).trans (by kernel_rfl)⟩
 f40:=⟨Tryz.f140.name,by kernel_rfl,(show(ag A).funcs[140]?=some Tryz.f140 from(S.f Tryz.func140)).trans (by kernel_rfl)⟩
 t0:=by kernel_rfl
 a0:=λw=>by kernel_rfl
 z0:=λw=>by kernel_rfl
 v0:=λw=>by kernel_rfl
 t3:=by kernel_rfl
 a3:=λw=>by kernel_rfl
 z3:=λw=>by kernel_rfl
 v3:=λw=>by kernel_rfl
 t4:=by kernel_rfl
 a4:=λw=>by kernel_rfl
 z4:=λw=>by kernel_rfl
 v4:=λw=>by kernel_rfl
 t5:=by kernel_rfl
 a5:=λw=>by kernel_rfl
 z5:=λw=>by kernel_rfl
 v5:=λw=>by kernel_rfl
 t9:=by kernel_rfl
 a9:=λw=>by kernel_rfl
 z9:=λw=>by kernel_rfl
 v9:=λw=>by kernel_rfl
 t22:=by kernel_rfl
 a22:=λw=>by kernel_rfl
 z22:=λw=>by kernel_rfl
 v22:=λw=>by kernel_rfl
 t23:=by kernel_rfl
 a23:=λw=>by kernel_rfl
 z23:=λw=>by kernel_rfl
 v23:=λw=>by kernel_rfl
 t25:=by kernel_rfl
 a25:=λw=>by kernel_rfl
 z25:=λw=>by kernel_rfl
 v25:=λw=>by kernel_rfl
 t32:=by kernel_rfl
 a32:=λw=>by kernel_rfl
 z32:=λw=>by kernel_rfl
 v32:=λw=>by kernel_rfl
 t35:=by kernel_rfl
 a35:=λw=>by kernel_rfl
 z35:=λw=>by kernel_rfl
 v35:=λw=>by kernel_rfl
 t36:=by kernel_rfl
 a36:=λw=>by kernel_rfl
 z36:=λw=>by kernel_rfl
 v36:=λw=>by kernel_rfl
 t41:=by kernel_rfl
 a41:=λw=>by kernel_rfl
 z41:=λw=>by kernel_rfl
 v41:=λw=>by kernel_rfl
 t44:=by kernel_rfl
 a44:=λw=>by kernel_rfl
 z44:=λw=>by kernel_rfl
 v44:=λw=>by kernel_rfl
 t46:=by kernel_rfl
 a46:=λw=>by kernel_rfl
 z46:=λw=>by kernel_rfl
 v46:=λw=>by kernel_rfl
 t53:=by kernel_rfl
 a53:=λw=>by kernel_rfl
 z53:=λw=>by kernel_rfl
 v53:=λw=>by kernel_rfl
 t57:=by kernel_rfl
 a57:=λw=>by kernel_rfl
 z57:=λw=>by kernel_rfl
 v57:=λw=>by kernel_rfl
 t63:=by kernel_rfl
 a63:=λw=>by kernel_rfl
 z63:=λw=>by kernel_rfl
 v63:=λw=>by kernel_rfl
 t64:=by kernel_rfl
 a64:=λw=>by kernel_rfl
 z64:=λw=>by kernel_rfl
 v64:=λw=>by kernel_rfl
def LO[S:Std A](m:Nat):AnyZI.SortsIn (ag A) ym Fence.wide m:=
 ⟨λblk off cap g W c d f=>callsIn_wide.2 (AnyM.slices_Sort_int CF blk off cap g W c d f),
  λp cap W=>callsIn_wide.2 (AnyM.slices_Sort_int_none CF p cap W)⟩
end
end Go.aN
