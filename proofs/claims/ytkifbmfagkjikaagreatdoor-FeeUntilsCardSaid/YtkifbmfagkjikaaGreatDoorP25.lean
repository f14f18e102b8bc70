/- A part; no conditions. -/
import Derived.Test.YtkifbmfagkjikaaGreatDoorP17
import Derived.RangeFuncNested
import Derived.RangeFuncBound
import Derived.RangeFuncCalls
import Derived.RangeFuncLeaves
import Derived.OwnWalkIn
import Derived.TacticsInMore
import Derived.LoopNIn
import Derived.LoopIn
import Derived.RangeFuncWrites
import Derived.Shelf.Abstract
import Derived.Maps.OwnIn
import Derived.Shelf.RegionOpen
import Derived.Shelf.SlIterI.Nil
import Derived.Shelf.SortM.Plain
import Derived.Shelf.SortM.SortNone
set_option maxHeartbeats 8000000
set_option maxRecDepth 100000
set_option linter.all false
namespace Go.aO
attribute [local go_sem] Oper.semAt_some
open Go.Proofs Go.RowKit
section
abbrev fT:={x:Nat×Nat // x.1<120/\x.2<120}
def uz(a b:Nat):fT:=if h:a<120/\b<120 then⟨(a,b),h⟩else⟨(0,0),a6⟩
abbrev v7(x:fT):Array Value:=#[.agg #[.int .i64 x.1.1,.int .i64 x.1.2]]
def Jy{a b:Nat}(c:a<120)(d:b<120):v7 (uz a b)=#[.agg #[.int .i64 a,.int .i64 b]]:=by simp[v7,uz,c,d]
def nu(fm left k:Nat):List fT:=(List.range k).map λj=>uz left (max left fm+j)
def hN(c fm d:Nat):Nat->List fT
 | 0=>[]
 |i+1=>hN c fm d i++nu fm (c+i) (d+1-max (c+i) fm)
def Ob(fm left k:Nat):nu fm left (k+1)=nu fm left k++[uz left (max left fm+k)]:=by simp[nu,List.range_succ]
def m6(W:World)(fy f d fm c:Nat):Prop:=
 W.cell? ⟨fy,1,none⟩=some (.int .i64 f)/\W.cell? ⟨fy,2,none⟩=some (.int .i64 d)/\W.cell? ⟨fy,3,none⟩=some (.int .i64 fm)/\W.cell? ⟨fy,4,none⟩=some (.int .i64 c)
def wM:Value->Int
 |.int _ q=>q
 |_=>0
variable{A:Array Func}
def Io[S:Std A](F:Fence)(n:Nat)(I:F.fn 65)(T:F.round=none)(ah:1<=n)(l fy c f fm d:Nat)(af:c<=f)(X:f<120)(Z:d<120)(hm:fm<120){q:World->World->Prop}(L:∀W d',q W d'->m6 W fy c f fm d->m6 d' fy c f fm d)(g p:List fT->World->Prop)
 (Q:∀pre x W,g pre W->pre.length<14400->YieldAt F (n-1) (ao A) l (v7 x) W λe d'=>
  (e=.returned (.bool true)/\g (pre++[x]) d'/\q W d')\/(e=.returned (.bool false)/\p (pre++[x]) d'))
 (W:World) (w:m6 W fy c f fm d) (H:g [] W) :
 CallsIn F n (ao A) 65 #[.func (.yield l) #[] #[],.pointer (some ⟨fy,0,none⟩)] W λe d'=>(∃v,e=.returned v)/\
  ((∃ys,ys=hN c fm d (f-c+1)/\g ys d')\/(∃pre,True/\p pre d')):=by
 refine callsIn_of_wp (S.f Tryz.func65) rfl I ?_ T;simp only[Tryz.ntmps65,List.size_toArray,List.length_cons,List.length_nil,Nat.reduceAdd,Nat.reduceSub,Array.replicate_succ,Array.replicate_zero,List.push_toArray,List.append_toArray,List.nil_append,List.cons_append];obtain⟨D,E,c3,G⟩:=id w;gi_wp2
 gi_loopw [14] (λv wr=>∃i:Nat,v=.int .i64 i/\i<=f-c+1/\m6 wr fy c f fm d/\g (hN c fm d i) wr/\(hN c fm d i).length<=i*120)
  (λv _=>f-c+1-(wM v).toNat)
 case atStart=>exact⟨0,rfl,Nat.zero_le _,w,H,Nat.zero_le _⟩
 case round=>
  obtain⟨i,rfl,aa,y,u,hlen⟩:=hrel;obtain⟨D,E,c3,G⟩:=id y;by_cases ag:i<=f-c
  .have z:∀k,(nu fm (c+i) k).length=k:=λk=>by simp[nu]
   obtain⟨s,B⟩:∃s:Nat,s=max (c+i) fm:=⟨_,rfl⟩
   have h:=al B;have o:=al z;clear B z;have Y:decide ((i:Int)<(f:Int)-c+1)=true:=by rw[decide_eq_true_eq];omega
   rcases Nat.lt_or_ge (c+i) fm with hq|hq
   all_goals
    gi_wp2
    gi_loopw [5] (λv wr=>∃k:Nat,v=.int .i64 ((s:Int)+k)/\k<=d+1-s/\m6 wr fy c f fm d/\g (hN c fm d i++nu fm (c+i) k) wr)
     (λv _=>d+1-(wM v).toNat)
    case atStart=>exact⟨0,by have:=h.out;congr 1;omega,Nat.zero_le _,y,by simpa [nu]using u⟩
    case round=>
     obtain⟨k,rfl,ae,j,r⟩:=hrel;obtain⟨d1,d2,d3,d4⟩:=id j;have ai:c+i<=s/\fm<=s/\s<120:=by have:=h.out;omega
     by_cases ad:s+k<=d
     .obtain⟨fn,tmps,assign,body,C,M⟩:=Q (hN c fm d i++nu fm (c+i) k) (uz (c+i) (s+k)) _ r (by rw[List.length_append,o.out];omega)
      rw[Jy U U]at C;simp only[Int.natCast_add]at C;gi_wp2
      refine M.mono ?_;rintro e V (⟨rfl,J,R⟩|⟨rfl,K⟩)
      .have P:=L _ _ R j
       gi_wp2
       go_roundw
       case rel=>
        have m:=h.out;exact⟨k+1,by go_num,U,P,by rw[Ob,<-m,<-List.append_assoc];exact J⟩
       case measure=>simp[wM];omega
      .gi_wp2
       refine bodyPost_ret (results_none rfl _ _ _) rfl ?_;exact⟨⟨_,rfl⟩,.inr ⟨_,trivial,K⟩⟩
     .gi_wp2
      go_roundw
      case rel=>
       have m:=h.out;refine⟨i+1,by go_num,U,j,?_,?_⟩
       .rw[hN,<-m,show d+1-s=k by omega];exact r
       .rw[hN,List.length_append,o.out];omega
      case measure=>simp[wM];omega
  .gi_wp2
   go_end0;have e:i=f-c+1:=U;exact⟨⟨_,rfl⟩,.inl ⟨_,rfl,by rw[<-e];exact u⟩⟩
end
end Go.aO
namespace Go.aO
attribute [local go_sem] Oper.semAt_some
open Go.Proofs Go.RowKit Go.Shelf
variable{fy:Nat}{row:Option Nat}{W d' w:World}
section
variable{A:Array Func}
def gP(fy:Nat)(W d':World):Prop:=∀o v,W.cell? ⟨fy,o,none⟩=some v->d'.cell? ⟨fy,o,none⟩=some v
def gP.t{X Y Z:World}(h:gP fy X Y)(k:gP fy Y Z):gP fy X Z:=λo v e=>k o v (h o v e)
def gP.b(W:World)(l:Nat)(o c:Obj)(h:W.heap[l]?=some o)(d:o.isCells=false):gP fy W (W.putObj l c):=λ_ _ e=>cell_kept e (grownBy_putObj' W l c) (λr e=>by cases e;exact⟨o,h,d⟩)
def gP.grown(h:W.grownBy d' row)(c:some fy≠row):gP fy W d':=λ_ _ e=>h.cell e c
def gP.stay{f d fm c:Nat}(W d':World)(h:gP fy W d')(k:m6 W fy f d fm c):m6 d' fy f d fm c:=⟨h _ _ k.1,h _ _ k.2.1,h _ _ k.2.2.1,h _ _ k.2.2.2⟩
def yR[S:Std A](F:Fence)(n:Nat)(g:F.fn 40)(h:F.round=none)(a b c d f:Int)(w:World):
 CallsIn F n (ao A) 40 #[.agg #[.int .i64 a,.int .i64 b,.int .i64 c,.int .i64 d,.int .i64 f]] w λe w'=>e=.returned (.func (.func 65) #[] #[.pointer (some ⟨w.heap.size,0,none⟩)])/\w'=w.alloc (.cells #[.int .i64 a,.int .i64 b,.int .i64 c,.int .i64 d,.int .i64 f] 47):=by
 refine callsIn_of_wp (S.f Tryz.func40) rfl g ?_ h;simp only[Tryz.ntmps40,List.size_toArray,List.length_cons,List.length_nil,Nat.reduceAdd,Nat.reduceSub,Array.replicate_succ,Array.replicate_zero,List.push_toArray,List.append_toArray,List.nil_append,List.cons_append];gi_wp2
 go_ret;exact⟨rfl,rfl⟩
def yS[S:Std A](F:Fence)(n:Nat)(o:F.fn 65)(B:F.round=none)(z:1<=n)(fy d c fm f:Nat)(y:d<=c)(q:c<120)(u:f<120)(hm:fm<120)(w:World)(h:fy<w.heap.size)(g:m6 w fy d c fm f):
 SeqStopsK F n (ao A) 65 #[.pointer (some ⟨fy,0,none⟩)] v7 (gP fy) (λys=>ys=hN d fm f (c-d+1)) (λ_=>True) 14400 w:=λl i j W hW _ _ r m=>
 Io F n o B z l fy d c fm f y q u hm (gP.stay (fy:=fy)) i j r W
  ⟨(hW.cell (p:=⟨fy,1,none⟩) h).trans g.1,(hW.cell (p:=⟨fy,2,none⟩) h).trans g.2.1,(hW.cell (p:=⟨fy,3,none⟩) h).trans g.2.2.1,(hW.cell (p:=⟨fy,4,none⟩) h).trans g.2.2.2⟩ m
abbrev Hh:=DataW Unit
def k0(f:Int)(bj:Nat->Int)(x:fT):Int:=ha f bj x.1.1 x.1.2
def mG(f:Int)(bj:Nat->Int)(pre:List fT):Hh:=pre.foldl (λD x=>D.put (.int .i64 (k0 f bj x)) (.lit (.bool true))) (.map [])
def L9(f:Int)(bj:Nat->Int)(pre:List fT)(x:fT):mG f bj (pre++[x])=(mG f bj pre).put (.int .i64 (k0 f bj x)) (.lit (.bool true)):=by simp[mG]
def Kw{f:Int}(h:0<=f/\f<=1000000){bj:Nat->Int}(c:∀d,0<=bj d/\bj d<=1000000)(x:fT):0<=k0 f bj x/\k0 f bj x<=10000000:=by have:=Gm c (x.1.1 / 24+1) (x.1.2 / 24-x.1.1 / 24);have g:=x.2.2;unfold k0 ha;omega
def R8{n:Int}(h:0<=n/\n<=10000000):(Lit.int .i64 n).wf=true:=by have c:IntKind.i64.min = -9223372036854775808:=rfl;have d:IntKind.i64.max=9223372036854775807:=rfl;simp[Lit.wf,c,d];omega
structure qH(A:Array Func)(bf:World->Prop)(T k:Nat)(f:Int)(bj:Nat->Int)(w:World)(pre:List fT)(W:World):Prop where
 t2:W.cell? ⟨w.heap.size,0,none⟩=some (.pointer (some ⟨T,0,none⟩))
 t3:W.cell? ⟨w.heap.size+1,0,none⟩=some (.int .i64 k)
 t5:W.cell? ⟨w.heap.size+1+1+1,0,none⟩=some (.map (some (w.heap.size+1+1)))
 own:W.ownsMap (ao A) 3 (plainElem (H:=Unit) (ao A) 4) (w.heap.size+1+1) pre.length (mG f bj pre)
 j:bf W
 fY:w.grownBy W (some T)
 dD:w.heap.size+5<=W.heap.size
def ng{a b c:World}{T:Nat}(h:a.grownBy b (some T))(k:b.grownBy c row)(g:∀r,row=some r->r=T\/a.heap.size<=r):a.grownBy c (some T):=
 ⟨h.os ▸ k.os,k.tape.trans h.tape,k.output.trans h.output,cL h.size k.size,λi d f=>(k.block i (gu d h.size) (λe=>by
  rcases g i e.symm with rfl|J
  .exact f rfl
  .omega)).trans (h.block i d f)⟩
def qH.step{g:World->Prop}{T k:Nat}{f:Int}{bj:Nat->Int}{pre:List fT}(h:qH A g T k f bj w pre W)(n:T<w.heap.size)(c:W.grownBy d' row)(i:∀r,row=some r->r=T\/w.heap.size+5<=r)(j:g d'):qH A g T k f bj w pre d':=by
 have d:∀b,w.heap.size<=b->b<w.heap.size+5->some b≠row:=λb l m e=>by rcases i b e.symm with rfl|ax<;>omega
 exact⟨c.cell h.t2 (d _ dT dT),c.cell h.t3 (d _ dT dT),c.cell h.t5 (d _ dT dT),h.own.kept c (d _ U U),j,
  ng h.fY c (λr e=>(i r e).imp id U),cL h.dD c.size⟩
def QK{i:World->Prop}{T B q D C cA:Nat}{first:Nat->Int}(K:pB i T B q D C cA first){k:Nat}{bj:Nat->Int}(y:∀d,0<=bj d/\bj d<=1000000){f:World}{pre:List fT}{x:fT}(p:i w)(br:qH A i T k (first k) bj w pre W)(G:pre.length<14400)(n:i f)(j:W.drew.grownBy f (some T)):
 ∃l,Sem.run (ao A) (Instr.mapUpdate 152 (.map (some (w.heap.size+1+1))) (.int .i64 (ha (first k) bj x.1.1 x.1.2)) (.bool true)) f=.ok () l/\qH A i T k (first k) bj w (pre++[x]) l/\W.grownBy f (some T)/\f.grownBy l (some (w.heap.size+1+1)):=by
 have u:T<w.heap.size:=by have:=K.lt;have:=K.size w p;omega
 have F:B<=w.heap.size:=K.size w p;have o:W.grownBy f (some T):=⟨j.os,j.tape,j.output,j.size,j.block⟩
 have g:=br.step u o (λr e=>by cases e;exact .inl rfl) n;obtain⟨l,z,E,c⟩:=g.own.update (Maps.int_keyed (ao.underlying3 A)) (ao.underlying173 A) kj (Maps.keyOf_int_mk (ao.underlying3 A) (R8 (Kw (K.hL k) y x))) (plainElem_bool (ao.underlying4 A) true);have m:∀b,b≠w.heap.size+1+1->some b≠some (w.heap.size+1+1):=λb h e=>h (by cases e;rfl)
 refine⟨l,z,⟨c.cell g.t2 (m _ dT),c.cell g.t3 (m _ dT),c.cell g.t5 (m _ dT),?_,?_,?_,cL g.dD c.size⟩,o,c⟩
 .rw[L9,List.length_append]
  exact E
 .exact K.keep _ _ _ n c (λr e=>by cases e;omega)
 .exact ng g.fY c (λr e=>by cases e;right;omega)
end
end Go.aO
namespace Go.aO
open Go.Proofs Go.RowKit Go.Maps Go.Shelf
section
variable{A:Array Func}
def wR:Go.Shelf.Ren:=⟨λx=>match x with|7=>64|10=>85|n=>n,λx=>match x with|23=>152|26=>3|3=>4|28=>155|0=>0|27=>154|33=>67|4=>4|n=>n,λn=>n⟩
def Ds[S:Std A]:SlLaysZI.n7 (ao A) wR where
 mixed:=av
 f7:=⟨Tryz.f64.name,av,(show(ao A).funcs[64]?=some Tryz.f64 from(S.f Tryz.func64)).trans av⟩
 f10:=⟨Tryz.f85.name,av,(show(ao A).funcs[85]?=some Tryz.f85 from(S.f Tryz.func85)).trans av⟩
 t0:=av
 a0:=λw=>av
 z0:=λw=>av
 v0:=λw=>av
 t4:=av
 a4:=λw=>av
 z4:=λw=>av
 v4:=λw=>av
 t23:=av
 a23:=λw=>av
 z23:=λw=>av
 v23:=λw=>av
 t26:=av
 a26:=λw=>av
 z26:=λw=>av
 v26:=λw=>av
 t27:=av
 a27:=λw=>av
 z27:=λw=>av
 v27:=λw=>av
 t28:=av
 a28:=λw=>av
 z28:=λw=>av
 v28:=λw=>av
 t33:=av
 a33:=λw=>av
 z33:=λw=>av
 v33:=λw=>av
def AK:Go.Shelf.Ren:=⟨λx=>match x with|6=>63|8=>83|9=>84|11=>99|13=>101|12=>100|23=>133|24=>134|14=>124|15=>125|16=>126|17=>127|18=>128|19=>129|20=>130|21=>131|22=>132|25=>144|26=>145|27=>146|28=>147|29=>148|30=>149|31=>157|n=>n,λx=>match x with|26=>3|28=>155|24=>22|0=>0|3=>3|37=>139|48=>80|50=>63|4=>4|40=>243|39=>242|45=>169|5=>5|9=>9|51=>262|55=>265|57=>268|58=>269|33=>67|n=>n,λn=>n⟩
def O'[S:Std A]:SlLaysZI.n6 (ao A) AK where
 mixed:=av
 f6:=⟨Tryz.f63.name,av,(show(ao A).funcs[63]?=some Tryz.f63 from(S.f Tryz.func63)).trans av⟩
 f8:=⟨Tryz.f83.name,av,(show(ao A).funcs[83]?=some Tryz.f83 from(S.f Tryz.func83)).trans av⟩
 f11:=⟨Tryz.f99.name,av,(show(ao A).funcs[99]?=some Tryz.f99 from(S.f Tryz.func99)).trans av⟩
 t0:=av
 a0:=λw=>av
 z0:=λw=>av
 v0:=λw=>av
 t24:=av
 a24:=λw=>av
 z24:=λw=>av
 v24:=λw=>av
 t26:=av
 a26:=λw=>av
 z26:=λw=>av
 v26:=λw=>av
 t28:=av
 a28:=λw=>av
 z28:=λw=>av
 v28:=λw=>av
 i26:=av
def O8:Go.Shelf.Ren:=⟨λx=>match x with|5=>84|8=>101|7=>100|19=>133|20=>134|10=>124|11=>125|12=>126|13=>127|14=>128|15=>129|16=>130|17=>131|18=>132|30=>144|31=>145|32=>146|33=>147|34=>148|35=>149|40=>157|n=>n,λx=>match x with|23=>22|25=>3|3=>3|32=>139|22=>22|0=>0|44=>80|46=>63|4=>4|36=>243|35=>242|41=>169|5=>5|9=>9|53=>262|57=>265|63=>268|64=>269|n=>n,λn=>n⟩
def FD[S:Std A]:SlLaysM.n5 (ao A) O8 where
 mixed:=av
 f5:=⟨Tryz.f84.name,av,(show(ao A).funcs[84]?=some Tryz.f84 from(S.f Tryz.func84)).trans av⟩
 f7:=⟨Tryz.f100.name,av,(show(ao A).funcs[100]?=some Tryz.f100 from(S.f Tryz.func100)).trans av⟩
 f8:=(show(ao A).funcs[101]?=some Tryz.f101 from(S.f Tryz.func101)).trans av
 f10:=⟨Tryz.f124.name,av,(show(ao A).funcs[124]?=some Tryz.f124 from(S.f Tryz.func124)).trans av⟩
 f11:=⟨Tryz.f125.name,av,(show(ao A).funcs[125]?=some Tryz.f125 from(S.f Tryz.func125)).trans av⟩
 f12:=⟨Tryz.f126.name,av,(show(ao A).funcs[126]?=some Tryz.f126 from(S.f Tryz.func126)).trans av⟩
 f13:=⟨Tryz.f127.name,av,(show(ao A).funcs[127]?=some Tryz.f127 from(S.f Tryz.func127)).trans av⟩
 f14:=⟨Tryz.f128.name,av,(show(ao A).funcs[128]?=some Tryz.f128 from(S.f Tryz.func128)).trans av⟩
 f15:=⟨Tryz.f129.name,av,(show(ao A).funcs[129]?=some Tryz.f129 from(S.f Tryz.func129)).trans av⟩
 f16:=⟨Tryz.f130.name,av,(show(ao A).funcs[130]?=some Tryz.f130 from(S.f Tryz.func130)).trans av⟩
 f17:=⟨Tryz.f131.name,av,(show(ao A).funcs[131]?=some Tryz.f131 from(S.f Tryz.func131)).trans av⟩
 f18:=⟨Tryz.f132.name,av,(show(ao A).funcs[132]?=some Tryz.f132 from(S.f Tryz.func132)).trans av⟩
 f19:=(show(ao A).funcs[133]?=some Tryz.f133 from(S.f Tryz.func133)).trans av
 f20:=(show(ao A).funcs[134]?=some Tryz.f134 from(S.f Tryz.func134)).trans av
 f30:=⟨Tryz.f144.name,av,(show(ao A).funcs[144]?=some Tryz.f144 from(S.f Tryz.func144)).trans av⟩
 f31:=(show(ao A).funcs[145]?=some Tryz.f145 from(S.f Tryz.func145)).trans av
 f32:=(show(ao A).funcs[146]?=some Tryz.f146 from(S.f Tryz.func146)).trans av
 f33:=⟨Tryz.f147.name,av,(show(ao A).funcs[147]?=some Tryz.f147 from(S.f Tryz.func147)).trans av⟩
 f34:=⟨Tryz.f148.name,av,(show(ao A).funcs[148]?=some Tryz.f148 from(S.f Tryz.func148)).trans av⟩
 f35:=⟨Tryz.f149.name,av,(show(ao A).funcs[149]?=some Tryz.f149 from(S.f Tryz.func149)).trans av⟩
 f40:=⟨Tryz.f157.name,av,(show(ao A).funcs[157]?=some Tryz.f157 from(S.f Tryz.func157)).trans av⟩
 t0:=av
 a0:=λw=>av
 z0:=λw=>av
 v0:=λw=>av
 t3:=av
 a3:=λw=>av
 z3:=λw=>av
 v3:=λw=>av
 t4:=av
 a4:=λw=>av
 z4:=λw=>av
 v4:=λw=>av
 t5:=av
 a5:=λw=>av
 z5:=λw=>av
 v5:=λw=>av
 t9:=av
 a9:=λw=>av
 z9:=λw=>av
 v9:=λw=>av
 t22:=av
 a22:=λw=>av
 z22:=λw=>av
 v22:=λw=>av
 t23:=av
 a23:=λw=>av
 z23:=λw=>av
 v23:=λw=>av
 t25:=av
 a25:=λw=>av
 z25:=λw=>av
 v25:=λw=>av
 t32:=av
 a32:=λw=>av
 z32:=λw=>av
 v32:=λw=>av
 t35:=av
 a35:=λw=>av
 z35:=λw=>av
 v35:=λw=>av
 t36:=av
 a36:=λw=>av
 z36:=λw=>av
 v36:=λw=>av
 t41:=av
 a41:=λw=>av
 z41:=λw=>av
 v41:=λw=>av
 t44:=av
 a44:=λw=>av
 z44:=λw=>av
 v44:=λw=>av
 t46:=av
 a46:=λw=>av
 z46:=λw=>av
 v46:=λw=>av
 t53:=av
 a53:=λw=>av
 z53:=λw=>av
 v53:=λw=>av
 t57:=av
 a57:=λw=>av
 z57:=λw=>av
 v57:=λw=>av
 t63:=av
 a63:=λw=>av
 z63:=λw=>av
 v63:=λw=>av
 t64:=av
 a64:=λw=>av
 z64:=λw=>av
 v64:=λw=>av
def Pa[S:Std A](m:Nat):AnyZI.SortsIn (ao A) AK Fence.wide m:=
 ⟨λblk off cap g W c d f=>callsIn_wide.2 (AnyM.slices_Sort_int FD blk off cap g W c d f),
  λp cap W=>callsIn_wide.2 (AnyM.slices_Sort_int_none FD p cap W)⟩
end
end Go.aO
