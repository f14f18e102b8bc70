/- A part. -/
import Derived.Test.YtejkocoljbaioaaGreatDoorP13
import Derived.RangeFuncNested
import Derived.RangeFuncBound
import Derived.RangeFuncCalls
import Derived.RangeFuncLeaves
import Derived.OwnWalkIn
import Derived.TacticsInMore
import Derived.LoopNIn
import Derived.LoopIn
import Derived.RangeFuncWrites
import Derived.Shelf.Abstract
import Derived.Maps.OwnIn
import Derived.Shelf.RegionOpen
import Derived.Shelf.SlIterI.Nil
import Derived.Shelf.SortM.Plain
import Derived.Shelf.SortM.SortNone
set_option maxHeartbeats 8000000
set_option maxRecDepth 100000
set_option linter.all false
namespace Go.aO
attribute [local go_sem] Oper.semAt_some
open Go.Proofs Go.RowKit
section
abbrev fT:={x:Nat×Nat // x.1<120/\x.2<120}
def uz(a b:Nat):fT:=if h:a<120/\b<120 then⟨(a,b),h⟩else⟨(0,0),a6⟩
abbrev v7(x:fT):Array Value:=#[.agg #[ah x.1.1,ah x.1.2]]
def Jy{a b:Nat}(c:a<120)(d:b<120):v7 (uz a b)=#[.agg #[ah a,ah b]]:=by simp[v7,uz,c,d]
def nu(fm left k:Nat):List fT:=(List.range k).map λj=>uz left (max left fm+j)
def hN(c fm d:Nat):Nat->List fT
 | 0=>[]
 |i+1=>hN c fm d i++nu fm (c+i) (d+1-max (c+i) fm)
def Ob(fm left k:Nat):nu fm left (k+1)=nu fm left k++[uz left (max left fm+k)]:=by simp[nu,List.range_succ]
def m6(W:World)(fy f d fm c:Nat):Prop:=
 W.cell? ⟨fy,1,none⟩=some (ah f)/\W.cell? ⟨fy,2,none⟩=some (ah d)/\W.cell? ⟨fy,3,none⟩=some (ah fm)/\W.cell? ⟨fy,4,none⟩=some (ah c)
def wM:Value->Int
 |.int _ q=>q
 |_=>0
variable{A:Array Func}
def Io[S:Std A](F:Fence)(n:Nat)(K:F.fn 78)(X:F.round=none)(ak:1<=n)(l fy c f fm d:Nat)(ai:c<=f)(Z:f<120)(ad:d<120)(hm:fm<120){r:World->World->Prop}(P:∀W d',r W d'->m6 W fy c f fm d->m6 d' fy c f fm d)(g q:List fT->World->Prop)
 (T:∀pre x W,g pre W->pre.length<14400->YieldAt F (n-1) (ao A) l (v7 x) W λe d'=>
  (e=.returned (.bool true)/\g (pre++[x]) d'/\r W d')\/(e=.returned (.bool false)/\q (pre++[x]) d'))
 (W:World) (z:m6 W fy c f fm d) (J:g [] W) :
 CallsIn F n (ao A) 78 #[.func (.yield l) #[] #[],.pointer (some ⟨fy,0,none⟩)] W λe d'=>(∃v,e=.returned v)/\
  ((∃ys,ys=hN c fm d (f-c+1)/\g ys d')\/(∃pre,True/\q pre d')):=by
 refine callsIn_of_wp (S.f Tryz.func78) rfl K ?_ X;simp only[Tryz.ntmps78,List.size_toArray,List.length_cons,List.length_nil,Nat.reduceAdd,Nat.reduceSub,Array.replicate_succ,Array.replicate_zero,List.push_toArray,List.append_toArray,List.nil_append,List.cons_append];obtain⟨G,H,c3,I⟩:=id z;gi_wp2
 gi_loopw [14] (λv wr=>∃i:Nat,v=ah i/\i<=f-c+1/\m6 wr fy c f fm d/\g (hN c fm d i) wr/\(hN c fm d i).length<=i*120)
  (λv _=>f-c+1-(wM v).toNat)
 case atStart=>exact⟨0,rfl,Nat.zero_le _,z,J,Nat.zero_le _⟩
 case round=>
  obtain⟨i,rfl,ae,B,w,hlen⟩:=hrel;obtain⟨G,H,c3,I⟩:=id B;by_cases aj:i<=f-c
  .have C:∀k,(nu fm (c+i) k).length=k:=λk=>by simp[nu]
   obtain⟨s,D⟩:∃s:Nat,s=max (c+i) fm:=⟨_,rfl⟩
   have h:=al D;have p:=al C;clear D C;have aa:decide ((i:Int)<(f:Int)-c+1)=true:=by rw[decide_eq_true_eq];omega
   rcases Nat.lt_or_ge (c+i) fm with hq|hq
   all_goals
    gi_wp2
    gi_loopw [5] (λv wr=>∃k:Nat,v=ah ((s:Int)+k)/\k<=d+1-s/\m6 wr fy c f fm d/\g (hN c fm d i++nu fm (c+i) k) wr)
     (λv _=>d+1-(wM v).toNat)
    case atStart=>exact⟨0,by have:=h.out;congr 1;omega,Nat.zero_le _,B,by simpa [nu]using w⟩
    case round=>
     obtain⟨k,rfl,ag,j,u⟩:=hrel;obtain⟨d1,d2,d3,d4⟩:=id j;have am:c+i<=s/\fm<=s/\s<120:=by have:=h.out;omega
     by_cases af:s+k<=d
     .obtain⟨fn,tmps,assign,body,E,Q⟩:=T (hN c fm d i++nu fm (c+i) k) (uz (c+i) (s+k)) _ u (by rw[List.length_append,p.out];omega)
      rw[Jy U U]at E;simp only[Int.natCast_add]at E;gi_wp2
      refine Q.mono ?_;rintro e Y (⟨rfl,L,V⟩|⟨rfl,M⟩)
      .have R:=P _ _ V j
       gi_wp2
       go_roundw
       case rel=>
        have o:=h.out;exact⟨k+1,by go_num,U,R,by rw[Ob,<-o,<-List.append_assoc];exact L⟩
       case measure=>simp[wM];omega
      .gi_wp2
       refine bodyPost_ret (results_none rfl _ _ _) rfl ?_;exact⟨⟨_,rfl⟩,.inr ⟨_,trivial,M⟩⟩
     .gi_wp2
      go_roundw
      case rel=>
       have o:=h.out;refine⟨i+1,by go_num,U,j,?_,?_⟩
       .rw[hN,<-o,show d+1-s=k by omega];exact u
       .rw[hN,List.length_append,p.out];omega
      case measure=>simp[wM];omega
  .gi_wp2
   go_end0;have e:i=f-c+1:=U;exact⟨⟨_,rfl⟩,.inl ⟨_,rfl,by rw[<-e];exact w⟩⟩
end
end Go.aO
namespace Go.aO
attribute [local go_sem] Oper.semAt_some
open Go.Proofs Go.RowKit Go.Shelf
variable{fy:Nat}{row:Option Nat}{W d' w:World}
section
variable{A:Array Func}
def gP(fy:Nat)(W d':World):Prop:=∀o v,W.cell? ⟨fy,o,none⟩=some v->d'.cell? ⟨fy,o,none⟩=some v
def gP.t{X Y Z:World}(h:gP fy X Y)(k:gP fy Y Z):gP fy X Z:=λo v e=>k o v (h o v e)
def gP.b(W:World)(l:Nat)(o c:Obj)(h:W.heap[l]?=some o)(d:o.isCells=false):gP fy W (W.putObj l c):=λ_ _ e=>cell_kept e (grownBy_putObj' W l c) (λr e=>by cases e;exact⟨o,h,d⟩)
def gP.grown(h:W.grownBy d' row)(c:some fy≠row):gP fy W d':=λ_ _ e=>h.cell e c
def gP.stay{f d fm c:Nat}(W d':World)(h:gP fy W d')(k:m6 W fy f d fm c):m6 d' fy f d fm c:=⟨h _ _ k.1,h _ _ k.2.1,h _ _ k.2.2.1,h _ _ k.2.2.2⟩
def yR[S:Std A](F:Fence)(n:Nat)(g:F.fn 58)(h:F.round=none)(a b c d f:Int)(w:World):
 CallsIn F n (ao A) 58 #[.agg #[ah a,ah b,ah c,ah d,ah f]] w λe w'=>e=.returned (.func (.func 78) #[] #[.pointer (some ⟨w.heap.size,0,none⟩)])/\w'=w.alloc (.cells #[ah a,ah b,ah c,ah d,ah f] 31):=by
 refine callsIn_of_wp (S.f Tryz.func58) rfl g ?_ h;simp only[Tryz.ntmps58,List.size_toArray,List.length_cons,List.length_nil,Nat.reduceAdd,Nat.reduceSub,Array.replicate_succ,Array.replicate_zero,List.push_toArray,List.append_toArray,List.nil_append,List.cons_append];gi_wp2
 go_ret;exact⟨rfl,rfl⟩
def yS[S:Std A](F:Fence)(n:Nat)(q:F.fn 78)(D:F.round=none)(C:1<=n)(fy d c fm f:Nat)(B:d<=c)(r:c<120)(z:f<120)(hm:fm<120)(w:World)(h:fy<w.heap.size)(g:m6 w fy d c fm f):
 SeqStopsK F n (ao A) 78 #[.pointer (some ⟨fy,0,none⟩)] v7 (gP fy) (λys=>ys=hN d fm f (c-d+1)) (λ_=>True) 14400 w:=λl i j W hW _ _ u o=>
 Io F n q D C l fy d c fm f B r z hm (gP.stay (fy:=fy)) i j u W
  ⟨(hW.cell (p:=⟨fy,1,none⟩) h).trans g.1,(hW.cell (p:=⟨fy,2,none⟩) h).trans g.2.1,(hW.cell (p:=⟨fy,3,none⟩) h).trans g.2.2.1,(hW.cell (p:=⟨fy,4,none⟩) h).trans g.2.2.2⟩ o
abbrev Hh:=DataW Unit
def k0(f:Int)(bj:Nat->Int)(x:fT):Int:=ha f bj x.1.1 x.1.2
def mG(f:Int)(bj:Nat->Int)(pre:List fT):Hh:=pre.foldl (λD x=>D.put (.int .i64 (k0 f bj x)) (.lit (.bool true))) (.map [])
def L9(f:Int)(bj:Nat->Int)(pre:List fT)(x:fT):mG f bj (pre++[x])=(mG f bj pre).put (.int .i64 (k0 f bj x)) (.lit (.bool true)):=by simp[mG]
def Kw{f:Int}(g:0<=f/\f<=1000000){bj:Nat->Int}(c:∀d,0<=bj d/\bj d<=1000000)(x:fT):0<=k0 f bj x/\k0 f bj x<=10000000:=by have:=Gm c (x.1.1 / 24+1) (x.1.2 / 24-x.1.1 / 24);unfold k0 ha;omega
def R8{n:Int}(h:0<=n/\n<=10000000):(Lit.int .i64 n).wf=true:=by have c:IntKind.i64.min = -9223372036854775808:=rfl;have d:IntKind.i64.max=9223372036854775807:=rfl;simp[Lit.wf,c,d];omega
structure qH(A:Array Func)(bf:World->Prop)(T k:Nat)(f:Int)(bj:Nat->Int)(w:World)(pre:List fT)(W:World):Prop where
 t2:W.cell? ⟨w.heap.size,0,none⟩=some (.pointer (some ⟨T,0,none⟩))
 t3:W.cell? ⟨w.heap.size+1,0,none⟩=some (.int .i64 k)
 t5:W.cell? ⟨w.heap.size+1+1+1,0,none⟩=some (.map (some (w.heap.size+1+1)))
 own:W.ownsMap (ao A) 3 (plainElem (H:=Unit) (ao A) 4) (w.heap.size+1+1) pre.length (mG f bj pre)
 j:bf W
 fY:w.grownBy W (some T)
 dD:w.heap.size+5<=W.heap.size
def ng{a b c:World}{T:Nat}(h:a.grownBy b (some T))(k:b.grownBy c row)(g:∀r,row=some r->r=T\/a.heap.size<=r):a.grownBy c (some T):=
 ⟨h.os ▸ k.os,k.tape.trans h.tape,k.output.trans h.output,cL h.size k.size,λi d f=>(k.block i (gu d h.size) (λe=>by
  rcases g i e.symm with rfl|J
  .exact f rfl
  .omega)).trans (h.block i d f)⟩
def qH.step{g:World->Prop}{T k:Nat}{f:Int}{bj:Nat->Int}{pre:List fT}(h:qH A g T k f bj w pre W)(p:T<w.heap.size)(c:W.grownBy d' row)(i:∀r,row=some r->r=T\/w.heap.size+5<=r)(j:g d'):qH A g T k f bj w pre d':=by
 have d:∀b,w.heap.size<=b->b<w.heap.size+5->some b≠row:=λb l o e=>by rcases i b e.symm with rfl|ax<;>omega
 exact⟨c.cell h.t2 (d _ dT dT),c.cell h.t3 (d _ dT dT),c.cell h.t5 (d _ dT dT),h.own.kept c (d _ U U),j,
  ng h.fY c (λr e=>(i r e).imp id U),cL h.dD c.size⟩
def QK{i:World->Prop}{T B z G F cA:Nat}{first:Nat->Int}(K:pB i T B z G F cA first){k:Nat}{bj:Nat->Int}(D:∀d,0<=bj d/\bj d<=1000000){f:World}{pre:List fT}{x:fT}(u:i w)(br:qH A i T k (first k) bj w pre W)(J:pre.length<14400)(p:i f)(j:W.drew.grownBy f (some T)):
 ∃l,Sem.run (ao A) (Instr.mapUpdate 160 (.map (some (w.heap.size+1+1))) (.int .i64 (ha (first k) bj x.1.1 x.1.2)) (.bool true)) f=.ok () l/\qH A i T k (first k) bj w (pre++[x]) l/\W.grownBy f (some T)/\f.grownBy l (some (w.heap.size+1+1)):=by
 have C:T<w.heap.size:=by have:=K.lt;have:=K.size w u;omega
 have I:B<=w.heap.size:=K.size w u;have q:W.grownBy f (some T):=⟨j.os,j.tape,j.output,j.size,j.block⟩
 have g:=br.step C q (λr e=>by cases e;exact .inl rfl) p;obtain⟨l,E,H,c⟩:=g.own.update (Maps.int_keyed (ao.underlying3 A)) (ao.underlying173 A) kj (Maps.keyOf_int_mk (ao.underlying3 A) (R8 (Kw (K.hL k) D x))) (plainElem_bool (ao.underlying4 A) true);have o:∀b,b≠w.heap.size+1+1->some b≠some (w.heap.size+1+1):=λb h e=>h (by cases e;rfl)
 refine⟨l,E,⟨c.cell g.t2 (o _ dT),c.cell g.t3 (o _ dT),c.cell g.t5 (o _ dT),?_,?_,?_,cL g.dD c.size⟩,q,c⟩
 .rw[L9,List.length_append]
  exact H
 .exact K.keep _ _ _ p c (λr e=>by cases e;omega)
 .exact ng g.fY c (λr e=>by cases e;right;omega)
end
end Go.aO
namespace Go.aO
open Go.Proofs Go.RowKit Go.Maps Go.Shelf
section
variable{A:Array Func}
def wR:Go.Shelf.Ren:=⟨λx=>match x with|7=>77|10=>93|n=>n,λx=>match x with|23=>160|26=>3|3=>4|28=>163|0=>0|27=>162|33=>72|4=>4|n=>n,λn=>n⟩
def Ds[S:Std A]:SlLaysZI.n7 (ao A) wR where
 mixed:=av
 f7:=⟨Tryz.f77.name,av,(show(ao A).funcs[77]?=some Tryz.f77 from(S.f Tryz.func77)).trans av⟩
 f10:=⟨Tryz.f93.name,av,(show(ao A).funcs[93]?=some Tryz.f93 from(S.f Tryz.func93)).trans av⟩
 t0:=av
 a0:=λw=>av
 z0:=λw=>av
 v0:=λw=>av
 t4:=av
 a4:=λw=>av
 z4:=λw=>av
 v4:=λw=>av
 t23:=av
 a23:=λw=>av
 z23:=λw=>av
 v23:=λw=>av
 t26:=av
 a26:=λw=>av
 z26:=λw=>av
 v26:=λw=>av
 t27:=av
 a27:=λw=>av
 z27:=λw=>av
 v27:=λw=>av
 t28:=av
 a28:=λw=>av
 z28:=λw=>av
 v28:=λw=>av
 t33:=av
 a33:=λw=>av
 z33:=λw=>av
 v33:=λw=>av
def AK:Go.Shelf.Ren:=⟨λx=>match x with|6=>76|8=>91|9=>92|11=>107|13=>109|12=>108|23=>141|24=>142|14=>132|15=>133|16=>134|17=>135|18=>136|19=>137|20=>138|21=>139|22=>140|25=>152|26=>153|27=>154|28=>155|29=>156|30=>157|31=>165|n=>n,λx=>match x with|26=>3|28=>163|24=>22|0=>0|3=>3|37=>150|48=>86|50=>68|4=>4|40=>246|39=>245|45=>177|5=>5|9=>9|51=>265|55=>268|57=>271|58=>272|33=>72|n=>n,λn=>n⟩
def O'[S:Std A]:SlLaysZI.n6 (ao A) AK where
 mixed:=av
 f6:=⟨Tryz.f76.name,av,(show(ao A).funcs[76]?=some Tryz.f76 from(S.f Tryz.func76)).trans av⟩
 f8:=⟨Tryz.f91.name,av,(show(ao A).funcs[91]?=some Tryz.f91 from(S.f Tryz.func91)).trans av⟩
 f11:=⟨Tryz.f107.name,av,(show(ao A).funcs[107]?=some Tryz.f107 from(S.f Tryz.func107)).trans av⟩
 t0:=av
 a0:=λw=>av
 z0:=λw=>av
 v0:=λw=>av
 t24:=av
 a24:=λw=>av
 z24:=λw=>av
 v24:=λw=>av
 t26:=av
 a26:=λw=>av
 z26:=λw=>av
 v26:=λw=>av
 t28:=av
 a28:=λw=>av
 z28:=λw=>av
 v28:=λw=>av
 i26:=av
def O8:Go.Shelf.Ren:=⟨λx=>match x with|5=>92|8=>109|7=>108|19=>141|20=>142|10=>132|11=>133|12=>134|13=>135|14=>136|15=>137|16=>138|17=>139|18=>140|30=>152|31=>153|32=>154|33=>155|34=>156|35=>157|40=>165|n=>n,λx=>match x with|23=>22|25=>3|3=>3|32=>150|22=>22|0=>0|44=>86|46=>68|4=>4|36=>246|35=>245|41=>177|5=>5|9=>9|53=>265|57=>268|63=>271|64=>272|n=>n,λn=>n⟩
def FD[S:Std A]:SlLaysM.n5 (ao A) O8 where
 mixed:=av
 f5:=⟨Tryz.f92.name,av,(show(ao A).funcs[92]?=some Tryz.f92 from(S.f Tryz.func92)).trans av⟩
 f7:=⟨Tryz.f108.name,av,(show(ao A).funcs[108]?=some Tryz.f108 from(S.f Tryz.func108)).trans av⟩
 f8:=(show(ao A).funcs[109]?=some Tryz.f109 from(S.f Tryz.func109)).trans av
 f10:=⟨Tryz.f132.name,av,(show(ao A).funcs[132]?=some Tryz.f132 from(S.f Tryz.func132)).trans av⟩
 f11:=⟨Tryz.f133.name,av,(show(ao A).funcs[133]?=some Tryz.f133 from(S.f Tryz.func133)).trans av⟩
 f12:=⟨Tryz.f134.name,av,(show(ao A).funcs[134]?=some Tryz.f134 from(S.f Tryz.func134)).trans av⟩
 f13:=⟨Tryz.f135.name,av,(show(ao A).funcs[135]?=some Tryz.f135 from(S.f Tryz.func135)).trans av⟩
 f14:=⟨Tryz.f136.name,av,(show(ao A).funcs[136]?=some Tryz.f136 from(S.f Tryz.func136)).trans av⟩
 f15:=⟨Tryz.f137.name,av,(show(ao A).funcs[137]?=some Tryz.f137 from(S.f Tryz.func137)).trans av⟩
 f16:=⟨Tryz.f138.name,av,(show(ao A).funcs[138]?=some Tryz.f138 from(S.f Tryz.func138)).trans av⟩
 f17:=⟨Tryz.f139.name,av,(show(ao A).funcs[139]?=some Tryz.f139 from(S.f Tryz.func139)).trans av⟩
 f18:=⟨Tryz.f140.name,av,(show(ao A).funcs[140]?=some Tryz.f140 from(S.f Tryz.func140)).trans av⟩
 f19:=(show(ao A).funcs[141]?=some Tryz.f141 from(S.f Tryz.func141)).trans av
 f20:=(show(ao A).funcs[142]?=some Tryz.f142 from(S.f Tryz.func142)).trans av
 f30:=⟨Tryz.f152.name,av,(show(ao A).funcs[152]?=some Tryz.f152 from(S.f Tryz.func152)).trans av⟩
 f31:=(show(ao A).funcs[153]?=some Tryz.f153 from(S.f Tryz.func153)).trans av
 f32:=(show(ao A).funcs[154]?=some Tryz.f154 from(S.f Tryz.func154)).trans av
 f33:=⟨Tryz.f155.name,av,(show(ao A).funcs[155]?=some Tryz.f155 from(S.f Tryz.func155)).trans av⟩
 f34:=⟨Tryz.f156.name,av,(show(ao A).funcs[156]?=some Tryz.f156 from(S.f Tryz.func156)).trans av⟩
 f35:=⟨Tryz.f157.name,av,(show(ao A).funcs[157]?=some Tryz.f157 from(S.f Tryz.func157)).trans av⟩
 f40:=⟨Tryz.f165.name,av,(show(ao A).funcs[165]?=some Tryz.f165 from(S.f Tryz.func165)).trans av⟩
 t0:=av
 a0:=λw=>av
 z0:=λw=>av
 v0:=λw=>av
 t3:=av
 a3:=λw=>av
 z3:=λw=>av
 v3:=λw=>av
 t4:=av
 a4:=λw=>av
 z4:=λw=>av
 v4:=λw=>av
 t5:=av
 a5:=λw=>av
 z5:=λw=>av
 v5:=λw=>av
 t9:=av
 a9:=λw=>av
 z9:=λw=>av
 v9:=λw=>av
 t22:=av
 a22:=λw=>av
 z22:=λw=>av
 v22:=λw=>av
 t23:=av
 a23:=λw=>av
 z23:=λw=>av
 v23:=λw=>av
 t25:=av
 a25:=λw=>av
 z25:=λw=>av
 v25:=λw=>av
 t32:=av
 a32:=λw=>av
 z32:=λw=>av
 v32:=λw=>av
 t35:=av
 a35:=λw=>av
 z35:=λw=>av
 v35:=λw=>av
 t36:=av
 a36:=λw=>av
 z36:=λw=>av
 v36:=λw=>av
 t41:=av
 a41:=λw=>av
 z41:=λw=>av
 v41:=λw=>av
 t44:=av
 a44:=λw=>av
 z44:=λw=>av
 v44:=λw=>av
 t46:=av
 a46:=λw=>av
 z46:=λw=>av
 v46:=λw=>av
 t53:=av
 a53:=λw=>av
 z53:=λw=>av
 v53:=λw=>av
 t57:=av
 a57:=λw=>av
 z57:=λw=>av
 v57:=λw=>av
 t63:=av
 a63:=λw=>av
 z63:=λw=>av
 v63:=λw=>av
 t64:=av
 a64:=λw=>av
 z64:=λw=>av
 v64:=λw=>av
def Pa[S:Std A](m:Nat):AnyZI.SortsIn (ao A) AK Fence.wide m:=
 ⟨λblk off cap g W c d f=>callsIn_wide.2 (AnyM.slices_Sort_int FD blk off cap g W c d f),
  λp cap W=>callsIn_wide.2 (AnyM.slices_Sort_int_none FD p cap W)⟩
end
end Go.aO
