/- Part 25 of a law on fees: no conditions. -/
import Derived.Test.YtpnmipmngnhemaaGreatDoorP17
import Derived.RangeFuncNested
import Derived.RangeFuncBound
import Derived.RangeFuncCalls
import Derived.RangeFuncLeaves
import Derived.OwnWalkIn
import Derived.TacticsInMore
import Derived.LoopNIn
import Derived.LoopIn
import Derived.RangeFuncWrites
import Derived.Shelf.Abstract
import Derived.Maps.OwnIn
import Derived.Shelf.RegionOpen
import Derived.Shelf.SlIterI.Nil
import Derived.Shelf.SortM.Plain
import Derived.Shelf.SortM.SortNone
set_option maxHeartbeats 8000000
set_option maxRecDepth 100000
set_option linter.all false
namespace Go.aN
attribute [local go_sem] Oper.semAt_some
open Go.Proofs Go.RowKit
section
abbrev e1:={x:Nat×Nat // x.1<120/\x.2<120}
def so(a b:Nat):e1:=if h:a<120/\b<120 then⟨(a,b),h⟩else⟨(0,0),by decide⟩
abbrev tT(x:e1):Array Value:=#[.agg #[.int .i64 x.1.1,.int .i64 x.1.2]]
def F'{a b:Nat}(c:a<120)(d:b<120):tT (so a b)=#[.agg #[.int .i64 a,.int .i64 b]]:=by simp[tT,so,c,d]
def lV(fm left k:Nat):List e1:=(List.range k).map λj=>so left (max left fm+j)
def gy(c fm d:Nat):Nat->List e1
 | 0=>[]
 |i+1=>gy c fm d i++lV fm (c+i) (d+1-max (c+i) fm)
def KX(fm left k:Nat):lV fm left (k+1)=lV fm left k++[so left (max left fm+k)]:=by simp[lV,List.range_succ]
def lH(W:World)(eL f d fm c:Nat):Prop:=
 W.cell? ⟨eL,1,none⟩=some (.int .i64 f)/\W.cell? ⟨eL,2,none⟩=some (.int .i64 d)/\W.cell? ⟨eL,3,none⟩=some (.int .i64 fm)/\W.cell? ⟨eL,4,none⟩=some (.int .i64 c)
def g5:Value->Int
 |.int _ q=>q
 |_=>0
variable{A:Array Func}
def E8[S:Std A](F:Fence)(n:Nat)(K:F.fn 73)(V:F.round=none)(aj:1<=n)(l eL c f fm d:Nat)(ah:c<=f)(Y:f<120)(aa:d<120)(hm:fm<120){r:World->World->Prop}(P:∀W dt,r W dt->lH W eL c f fm d->lH dt eL c f fm d)(g q:List e1->World->Prop)
 (T:∀pre x W,g pre W->pre.length<14400->YieldAt F (n-1) (ag A) l (tT x) W λe dt=>
  (e=.returned (.bool true)/\g (pre++[x]) dt/\r W dt)\/(e=.returned (.bool false)/\q (pre++[x]) dt))
 (W:World) (z:lH W eL c f fm d) (J:g [] W) :
 CallsIn F n (ag A) 73 #[.func (.yield l) #[] #[],.pointer (some ⟨eL,0,none⟩)] W λe dt=>(∃v,e=.returned v)/\
  ((∃ys,ys=gy c fm d (f-c+1)/\g ys dt)\/(∃pre,True/\q pre dt)):=by
 refine callsIn_of_wp (S.f Tryz.func73) rfl K ?_ V;simp only[Tryz.ntmps73,List.size_toArray,List.length_cons,List.length_nil,Nat.reduceAdd,Nat.reduceSub,Array.replicate_succ,Array.replicate_zero,List.push_toArray,List.append_toArray,List.nil_append,List.cons_append];obtain⟨G,H,c3,I⟩:=id z;gi_wp2
 gi_loopw [14] (λv wr=>∃i:Nat,v=.int .i64 i/\i<=f-c+1/\lH wr eL c f fm d/\g (gy c fm d i) wr/\(gy c fm d i).length<=i*120)
  (λv _=>f-c+1-(g5 v).toNat)
 case atStart=>exact⟨0,rfl,Nat.zero_le _,z,J,Nat.zero_le _⟩
 case round=>
  obtain⟨i,rfl,ad,B,w,hlen⟩:=hrel;obtain⟨G,H,c3,I⟩:=id B;by_cases ai:i<=f-c
  .have C:∀k,(lV fm (c+i) k).length=k:=λk=>by simp[lV]
   obtain⟨s,D⟩:∃s:Nat,s=max (c+i) fm:=⟨_,rfl⟩
   have h:=Pj D;have p:=Pj C;clear D C;have Z:decide ((i:Int)<(f:Int)-c+1)=true:=by rw[decide_eq_true_eq];omega
   rcases Nat.lt_or_ge (c+i) fm with hq|hq
   all_goals
    gi_wp2
    gi_loopw [5] (λv wr=>∃k:Nat,v=.int .i64 ((s:Int)+k)/\k<=d+1-s/\lH wr eL c f fm d/\g (gy c fm d i++lV fm (c+i) k) wr)
     (λv _=>d+1-(g5 v).toNat)
    case atStart=>exact⟨0,by have:=h.out;congr 1;omega,Nat.zero_le _,B,by simpa [lV]using w⟩
    case round=>
     obtain⟨k,rfl,af,j,u⟩:=hrel;obtain⟨d1,d2,d3,d4⟩:=id j;have ak:c+i<=s/\fm<=s/\s<120:=by have:=h.out;omega
     by_cases ae:s+k<=d
     .obtain⟨fn,tmps,assign,body,E,Q⟩:=T (gy c fm d i++lV fm (c+i) k) (so (c+i) (s+k)) _ u (by rw[List.length_append,p.out];omega)
      rw[F' (by omega) (by omega)]at E;simp only[Int.natCast_add]at E;gi_wp2
      refine Q.mono ?_;rintro e X (⟨rfl,L,U⟩|⟨rfl,M⟩)
      .have R:=P _ _ U j
       gi_wp2
       go_roundw
       case rel=>
        have o:=h.out;exact⟨k+1,by go_num,by omega,R,by rw[KX,<-o,<-List.append_assoc];exact L⟩
       case measure=>simp[g5];omega
      .gi_wp2
       refine bodyPost_ret (results_none rfl _ _ _) rfl ?_;exact⟨⟨_,rfl⟩,.inr ⟨_,trivial,M⟩⟩
     .gi_wp2
      go_roundw
      case rel=>
       have o:=h.out;refine⟨i+1,by go_num,by omega,j,?_,?_⟩
       .rw[gy,<-o,show d+1-s=k by omega];exact u
       .rw[gy,List.length_append,p.out];omega
      case measure=>simp[g5];omega
  .gi_wp2
   go_end0;have e:i=f-c+1:=by omega
   exact⟨⟨_,rfl⟩,.inl ⟨_,rfl,by rw[<-e];exact w⟩⟩
end
end Go.aN
namespace Go.aN
attribute [local go_sem] Oper.semAt_some
open Go.Proofs Go.RowKit Go.Shelf
section
variable{A:Array Func}
def fH(eL:Nat)(W dt:World):Prop:=∀o v,W.cell? ⟨eL,o,none⟩=some v->dt.cell? ⟨eL,o,none⟩=some v
def fH.t{eL:Nat}{X Y Z:World}(h:fH eL X Y)(k:fH eL Y Z):fH eL X Z:=λo v e=>k o v (h o v e)
def fH.b{eL:Nat}(W:World)(l:Nat)(o c:Obj)(h:W.heap[l]?=some o)(d:o.isCells=false):fH eL W (W.putObj l c):=λ_ _ e=>cell_kept e (grownBy_putObj' W l c) (λr e=>by cases e;exact⟨o,h,d⟩)
def fH.grown{eL:Nat}{W dt:World}{row:Option Nat}(h:W.grownBy dt row)(c:some eL≠row):fH eL W dt:=λ_ _ e=>h.cell e c
def fH.stay{eL f d fm c:Nat}(W dt:World)(h:fH eL W dt)(k:lH W eL f d fm c):lH dt eL f d fm c:=⟨h _ _ k.1,h _ _ k.2.1,h _ _ k.2.2.1,h _ _ k.2.2.2⟩
def wv[S:Std A](F:Fence)(n:Nat)(g:F.fn 48)(h:F.round=none)(a b c d f:Int)(w:World):
 CallsIn F n (ag A) 48 #[.agg #[.int .i64 a,.int .i64 b,.int .i64 c,.int .i64 d,.int .i64 f]] w λe w'=>e=.returned (.func (.func 73) #[] #[.pointer (some ⟨w.heap.size,0,none⟩)])/\w'=w.alloc (.cells #[.int .i64 a,.int .i64 b,.int .i64 c,.int .i64 d,.int .i64 f] 42):=by
 refine callsIn_of_wp (S.f Tryz.func48) rfl g ?_ h;simp only[Tryz.ntmps48,List.size_toArray,List.length_cons,List.length_nil,Nat.reduceAdd,Nat.reduceSub,Array.replicate_succ,Array.replicate_zero,List.push_toArray,List.append_toArray,List.nil_append,List.cons_append];gi_wp2
 go_ret;exact⟨rfl,rfl⟩
def wx[S:Std A](F:Fence)(n:Nat)(q:F.fn 73)(D:F.round=none)(C:1<=n)(eL d c fm f:Nat)(B:d<=c)(r:c<120)(z:f<120)(hm:fm<120)(w:World)(h:eL<w.heap.size)(g:lH w eL d c fm f):
 SeqStopsK F n (ag A) 73 #[.pointer (some ⟨eL,0,none⟩)] tT (fH eL) (λys=>ys=gy d fm f (c-d+1)) (λ_=>True) 14400 w:=λl i j W hW _ _ u o=>
 E8 F n q D C l eL d c fm f B r z hm (fH.stay (eL:=eL)) i j u W
  ⟨(hW.cell (p:=⟨eL,1,none⟩) h).trans g.1,(hW.cell (p:=⟨eL,2,none⟩) h).trans g.2.1,(hW.cell (p:=⟨eL,3,none⟩) h).trans g.2.2.1,(hW.cell (p:=⟨eL,4,none⟩) h).trans g.2.2.2⟩ o
end
section
variable{A:Array Func}
abbrev Ea:=DataW Unit
def jI(f:Int)(ba:Nat->Int)(x:e1):Int:=fP f ba x.1.1 x.1.2
def lf(f:Int)(ba:Nat->Int)(pre:List e1):Ea:=pre.foldl (λD x=>D.put (.int .i64 (jI f ba x)) (.lit (.bool true))) (.map [])
def I2(f:Int)(ba:Nat->Int)(pre:List e1)(x:e1):lf f ba (pre++[x])=(lf f ba pre).put (.int .i64 (jI f ba x)) (.lit (.bool true)):=by simp[lf]
def Hk{f:Int}(h:0<=f/\f<=1000000){ba:Nat->Int}(c:∀d,0<=ba d/\ba d<=1000000)(x:e1):0<=jI f ba x/\jI f ba x<=10000000:=by have:=Dm c (x.1.1 / 24+1) (x.1.2 / 24-x.1.1 / 24);have g:=x.2.2;unfold jI fP;omega
def OK{n:Int}(h:0<=n/\n<=10000000):(Lit.int .i64 n).wf=true:=by have c:IntKind.i64.min = -9223372036854775808:=rfl;have d:IntKind.i64.max=9223372036854775807:=rfl;simp[Lit.wf,c,d];omega
structure oX(A:Array Func)(a8:World->Prop)(T k:Nat)(f:Int)(ba:Nat->Int)(w:World)(pre:List e1)(W:World):Prop where
 t2:W.cell? ⟨w.heap.size,0,none⟩=some (.pointer (some ⟨T,0,none⟩))
 t3:W.cell? ⟨w.heap.size+1,0,none⟩=some (.int .i64 k)
 t5:W.cell? ⟨w.heap.size+1+1+1,0,none⟩=some (.map (some (w.heap.size+1+1)))
 own:W.ownsMap (ag A) 3 (plainElem (H:=Unit) (ag A) 4) (w.heap.size+1+1) pre.length (lf f ba pre)
 j:a8 W
 e4:w.grownBy W (some T)
 dm:w.heap.size+5<=W.heap.size
def k4{a b c:World}{row:Option Nat}{T:Nat}(h:a.grownBy b (some T))(k:b.grownBy c row)(g:∀r,row=some r->r=T\/a.heap.size<=r):a.grownBy c (some T):=
 ⟨h.os ▸ k.os,k.tape.trans h.tape,k.output.trans h.output,Po h.size k.size,λi d f=>(k.block i (Px d h.size) (λe=>by
  rcases g i e.symm with rfl|J
  .exact f rfl
  .omega)).trans (h.block i d f)⟩
def oX.step{g:World->Prop}{T k:Nat}{f:Int}{ba:Nat->Int}{w:World}{pre:List e1}{W dt:World}{row:Option Nat}(h:oX A g T k f ba w pre W)(p:T<w.heap.size)(c:W.grownBy dt row)(i:∀r,row=some r->r=T\/w.heap.size+5<=r)(j:g dt):oX A g T k f ba w pre dt:=by
 have d:∀b,w.heap.size<=b->b<w.heap.size+5->some b≠row:=λb l o e=>by rcases i b e.symm with rfl|ax<;>omega
 exact⟨c.cell h.t2 (d _ (by dsimp only;omega) (by dsimp only;omega)),c.cell h.t3 (d _ (by dsimp only;omega) (by dsimp only;omega)),c.cell h.t5 (d _ (by dsimp only;omega) (by dsimp only;omega)),h.own.kept c (d _ (by omega) (by omega)),j,
  k4 h.e4 c (λr e=>(i r e).imp id (by omega)),Po h.dm c.size⟩
def Nk{i:World->Prop}{T B z G F eT:Nat}{first:Nat->Int}(K:nK i T B z G F eT first){k:Nat}{ba:Nat->Int}(D:∀d,0<=ba d/\ba d<=1000000){w W f:World}{pre:List e1}{x:e1}(u:i w)(bj:oX A i T k (first k) ba w pre W)(J:pre.length<14400)(p:i f)(j:W.drew.grownBy f (some T)):
 ∃l,Sem.run (ag A) (Instr.mapUpdate 125 (.map (some (w.heap.size+1+1))) (.int .i64 (fP (first k) ba x.1.1 x.1.2)) (.bool true)) f=.ok () l/\oX A i T k (first k) ba w (pre++[x]) l/\W.grownBy f (some T)/\f.grownBy l (some (w.heap.size+1+1)):=by
 have C:T<w.heap.size:=by have:=K.lt;have:=K.size w u;omega
 have I:B<=w.heap.size:=K.size w u;have q:W.grownBy f (some T):=⟨j.os,j.tape,j.output,j.size,j.block⟩
 have g:=bj.step C q (λr e=>by cases e;exact .inl rfl) p;obtain⟨l,E,H,c⟩:=g.own.update (Maps.int_keyed (ag.underlying3 A)) (ag.underlying173 A) (by unfold maxLen;omega) (Maps.keyOf_int_mk (ag.underlying3 A) (OK (Hk (K.gw k) D x))) (plainElem_bool (ag.underlying4 A) true);have o:∀b,b≠w.heap.size+1+1->some b≠some (w.heap.size+1+1):=λb h e=>h (by cases e;rfl)
 refine⟨l,E,⟨c.cell g.t2 (o _ (by dsimp only;omega)),c.cell g.t3 (o _ (by dsimp only;omega)),c.cell g.t5 (o _ (by dsimp only;omega)),?_,?_,?_,Po g.dm c.size⟩,q,c⟩
 .rw[I2,List.length_append]
  exact H
 .exact K.keep _ _ _ p c (λr e=>by cases e;omega)
 .exact k4 g.e4 c (λr e=>by cases e;right;omega)
end
end Go.aN
namespace Go.aN
open Go.Proofs Go.RowKit Go.Maps Go.Shelf
section
variable{A:Array Func}
def uy:Go.Shelf.Ren:=⟨λx=>match x with|7=>54|10=>79|n=>n,λx=>match x with|23=>125|26=>3|3=>4|28=>128|0=>0|27=>127|33=>64|4=>4|n=>n,λn=>n⟩
def A1[S:Std A]:SlLaysZI.n7 (ag A) uy where
 mixed:=by kernel_rfl
 f7:=⟨Tryz.f54.name,by kernel_rfl,(show(ag A).funcs[54]?=some Tryz.f54 from(S.f Tryz.func54)).trans (by kernel_rfl)⟩
 f10:=⟨Tryz.f79.name,by kernel_rfl,(show(ag A).funcs[79]?=some Tryz.f79 from(S.f Tryz.func79)).trans (by kernel_rfl)⟩
 t0:=by kernel_rfl
 a0:=λw=>by kernel_rfl
 z0:=λw=>by kernel_rfl
 v0:=λw=>by kernel_rfl
 t4:=by kernel_rfl
 a4:=λw=>by kernel_rfl
 z4:=λw=>by kernel_rfl
 v4:=λw=>by kernel_rfl
 t23:=by kernel_rfl
 a23:=λw=>by kernel_rfl
 z23:=λw=>by kernel_rfl
 v23:=λw=>by kernel_rfl
 t26:=by kernel_rfl
 a26:=λw=>by kernel_rfl
 z26:=λw=>by kernel_rfl
 v26:=λw=>by kernel_rfl
 t27:=by kernel_rfl
 a27:=λw=>by kernel_rfl
 z27:=λw=>by kernel_rfl
 v27:=λw=>by kernel_rfl
 t28:=by kernel_rfl
 a28:=λw=>by kernel_rfl
 z28:=λw=>by kernel_rfl
 v28:=λw=>by kernel_rfl
 t33:=by kernel_rfl
 a33:=λw=>by kernel_rfl
 z33:=λw=>by kernel_rfl
 v33:=λw=>by kernel_rfl
def ym:Go.Shelf.Ren:=⟨λx=>match x with|6=>53|8=>77|9=>78|11=>92|13=>94|12=>93|23=>117|24=>118|14=>108|15=>109|16=>110|17=>111|18=>112|19=>113|20=>114|21=>115|22=>116|25=>141|26=>142|27=>143|28=>144|29=>145|30=>146|31=>156|n=>n,λx=>match x with|26=>3|28=>128|24=>22|0=>0|3=>3|37=>152|48=>93|50=>59|4=>4|40=>230|39=>229|45=>177|5=>5|9=>9|51=>253|55=>256|57=>269|58=>270|33=>64|n=>n,λn=>n⟩
def LN[S:Std A]:SlLaysZI.n6 (ag A) ym where
 mixed:=by kernel_rfl
 f6:=⟨Tryz.f53.name,by kernel_rfl,(show(ag A).funcs[53]?=some Tryz.f53 from(S.f Tryz.func53)).trans (by kernel_rfl)⟩
 f8:=⟨Tryz.f77.name,by kernel_rfl,(show(ag A).funcs[77]?=some Tryz.f77 from(S.f Tryz.func77)).trans (by kernel_rfl)⟩
 f11:=⟨Tryz.f92.name,by kernel_rfl,(show(ag A).funcs[92]?=some Tryz.f92 from(S.f Tryz.func92)).trans (by kernel_rfl)⟩
 t0:=by kernel_rfl
 a0:=λw=>by kernel_rfl
 z0:=λw=>by kernel_rfl
 v0:=λw=>by kernel_rfl
 t24:=by kernel_rfl
 a24:=λw=>by kernel_rfl
 z24:=λw=>by kernel_rfl
 v24:=λw=>by kernel_rfl
 t26:=by kernel_rfl
 a26:=λw=>by kernel_rfl
 z26:=λw=>by kernel_rfl
 v26:=λw=>by kernel_rfl
 t28:=by kernel_rfl
 a28:=λw=>by kernel_rfl
 z28:=λw=>by kernel_rfl
 v28:=λw=>by kernel_rfl
 i26:=by kernel_rfl
def LL:Go.Shelf.Ren:=⟨λx=>match x with|5=>78|8=>94|7=>93|19=>117|20=>118|10=>108|11=>109|12=>110|13=>111|14=>112|15=>113|16=>114|17=>115|18=>116|30=>141|31=>142|32=>143|33=>144|34=>145|35=>146|40=>156|n=>n,λx=>match x with|23=>22|25=>3|3=>3|32=>152|22=>22|0=>0|44=>93|46=>59|4=>4|36=>230|35=>229|41=>177|5=>5|9=>9|53=>253|57=>256|63=>269|64=>270|n=>n,λn=>n⟩
def CF[S:Std A]:SlLaysM.n5 (ag A) LL where
 mixed:=by kernel_rfl
 f5:=⟨Tryz.f78.name,by kernel_rfl,(show(ag A).funcs[78]?=some Tryz.f78 from(S.f Tryz.func78)).trans (by kernel_rfl)⟩
 f7:=⟨Tryz.f93.name,by kernel_rfl,(show(ag A).funcs[93]?=some Tryz.f93 from(S.f Tryz.func93)).trans (by kernel_rfl)⟩
 f8:=(show(ag A).funcs[94]?=some Tryz.f94 from(S.f Tryz.func94)).trans (by kernel_rfl)
 f10:=⟨Tryz.f108.name,by kernel_rfl,(show(ag A).funcs[108]?=some Tryz.f108 from(S.f Tryz.func108)).trans (by kernel_rfl)⟩
 f11:=⟨Tryz.f109.name,by kernel_rfl,(show(ag A).funcs[109]?=some Tryz.f109 from(S.f Tryz.func109)).trans (by kernel_rfl)⟩
 f12:=⟨Tryz.f110.name,by kernel_rfl,(show(ag A).funcs[110]?=some Tryz.f110 from(S.f Tryz.func110)).trans (by kernel_rfl)⟩
 f13:=⟨Tryz.f111.name,by kernel_rfl,(show(ag A).funcs[111]?=some Tryz.f111 from(S.f Tryz.func111)).trans (by kernel_rfl)⟩
 f14:=⟨Tryz.f112.name,by kernel_rfl,(show(ag A).funcs[112]?=some Tryz.f112 from(S.f Tryz.func112)).trans (by kernel_rfl)⟩
 f15:=⟨Tryz.f113.name,by kernel_rfl,(show(ag A).funcs[113]?=some Tryz.f113 from(S.f Tryz.func113)).trans (by kernel_rfl)⟩
 f16:=⟨Tryz.f114.name,by kernel_rfl,(show(ag A).funcs[114]?=some Tryz.f114 from(S.f Tryz.func114)).trans (by kernel_rfl)⟩
 f17:=⟨Tryz.f115.name,by kernel_rfl,(show(ag A).funcs[115]?=some Tryz.f115 from(S.f Tryz.func115)).trans (by kernel_rfl)⟩
 f18:=⟨Tryz.f116.name,by kernel_rfl,(show(ag A).funcs[116]?=some Tryz.f116 from(S.f Tryz.func116)).trans (by kernel_rfl)⟩
 f19:=(show(ag A).funcs[117]?=some Tryz.f117 from(S.f Tryz.func117)).trans (by kernel_rfl)
 f20:=(show(ag A).funcs[118]?=some Tryz.f118 from(S.f Tryz.func118)).trans (by kernel_rfl)
 f30:=⟨Tryz.f141.name,by kernel_rfl,(show(ag A).funcs[141]?=some Tryz.f141 from(S.f Tryz.func141)).trans (by kernel_rfl)⟩
 f31:=(show(ag A).funcs[142]?=some Tryz.f142 from(S.f Tryz.func142)).trans (by kernel_rfl)
 f32:=(show(ag A).funcs[143]?=some Tryz.f143 from(S.f Tryz.func143)).trans (by kernel_rfl)
 f33:=⟨Tryz.f144.name,by kernel_rfl,(show(ag A).funcs[144]?=some Tryz.f144 from(S.f Tryz.func144)).trans (by kernel_rfl)⟩
 f34:=⟨Tryz.f145.name,by kernel_rfl,(show(ag A).funcs[145]?=some Tryz.f145 from(S.f Tryz.func145)).trans (by kernel_rfl)⟩
 f35:=⟨Tryz.f146.name,by kernel_rfl,(show(ag A).funcs[146]?=some Tryz.f146 from(S.f Tryz.func146)).trans (by kernel_rfl)⟩
 f40:=⟨Tryz.f156.name,by kernel_rfl,(show(ag A).funcs[156]?=some Tryz.f156 from(S.f Tryz.func156)).trans (by kernel_rfl)⟩
 t0:=by kernel_rfl
 a0:=λw=>by kernel_rfl
 z0:=λw=>by kernel_rfl
 v0:=λw=>by kernel_rfl
 t3:=by kernel_rfl
 a3:=λw=>by kernel_rfl
 z3:=λw=>by kernel_rfl
 v3:=λw=>by kernel_rfl
 t4:=by kernel_rfl
 a4:=λw=>by kernel_rfl
 z4:=λw=>by kernel_rfl
 v4:=λw=>by kernel_rfl
 t5:=by kernel_rfl
 a5:=λw=>by kernel_rfl
 z5:=λw=>by kernel_rfl
 v5:=λw=>by kernel_rfl
 t9:=by kernel_rfl
 a9:=λw=>by kernel_rfl
 z9:=λw=>by kernel_rfl
 v9:=λw=>by kernel_rfl
 t22:=by kernel_rfl
 a22:=λw=>by kernel_rfl
 z22:=λw=>by kernel_rfl
 v22:=λw=>by kernel_rfl
 t23:=by kernel_rfl
 a23:=λw=>by kernel_rfl
 z23:=λw=>by kernel_rfl
 v23:=λw=>by kernel_rfl
 t25:=by kernel_rfl
 a25:=λw=>by kernel_rfl
 z25:=λw=>by kernel_rfl
 v25:=λw=>by kernel_rfl
 t32:=by kernel_rfl
 a32:=λw=>by kernel_rfl
 z32:=λw=>by kernel_rfl
 v32:=λw=>by kernel_rfl
 t35:=by kernel_rfl
 a35:=λw=>by kernel_rfl
 z35:=λw=>by kernel_rfl
 v35:=λw=>by kernel_rfl
 t36:=by kernel_rfl
 a36:=λw=>by kernel_rfl
 z36:=λw=>by kernel_rfl
 v36:=λw=>by kernel_rfl
 t41:=by kernel_rfl
 a41:=λw=>by kernel_rfl
 z41:=λw=>by kernel_rfl
 v41:=λw=>by kernel_rfl
 t44:=by kernel_rfl
 a44:=λw=>by kernel_rfl
 z44:=λw=>by kernel_rfl
 v44:=λw=>by kernel_rfl
 t46:=by kernel_rfl
 a46:=λw=>by kernel_rfl
 z46:=λw=>by kernel_rfl
 v46:=λw=>by kernel_rfl
 t53:=by kernel_rfl
 a53:=λw=>by kernel_rfl
 z53:=λw=>by kernel_rfl
 v53:=λw=>by kernel_rfl
 t57:=by kernel_rfl
 a57:=λw=>by kernel_rfl
 z57:=λw=>by kernel_rfl
 v57:=λw=>by kernel_rfl
 t63:=by kernel_rfl
 a63:=λw=>by kernel_rfl
 z63:=λw=>by kernel_rfl
 v63:=λw=>by kernel_rfl
 t64:=by kernel_rfl
 a64:=λw=>by kernel_rfl
 z64:=λw=>by kernel_rfl
 v64:=λw=>by kernel_rfl
def LO[S:Std A](m:Nat):AnyZI.SortsIn (ag A) ym Fence.wide m:=
 ⟨λblk off cap g W c d f=>callsIn_wide.2 (AnyM.slices_Sort_int CF blk off cap g W c d f),
  λp cap W=>callsIn_wide.2 (AnyM.slices_Sort_int_none CF p cap W)⟩
end
end Go.aN
