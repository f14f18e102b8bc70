/- A part. -/
import Derived.Test.YtoebddanaobpaaaGreatDoorP13
import Derived.RangeFuncNested
import Derived.RangeFuncBound
import Derived.RangeFuncCalls
import Derived.RangeFuncLeaves
import Derived.OwnWalkIn
import Derived.TacticsInMore
import Derived.LoopNIn
import Derived.LoopIn
import Derived.RangeFuncWrites
import Derived.Shelf.Abstract
import Derived.Maps.OwnIn
import Derived.Shelf.RegionOpen
import Derived.Shelf.SlIterI.Nil
import Derived.Shelf.SortM.Plain
import Derived.Shelf.SortM.SortNone
set_option maxHeartbeats 8000000
set_option maxRecDepth 100000
set_option linter.all false
namespace Go.aO
attribute [local go_sem] Oper.semAt_some
open Go.Proofs Tryz Go.RowKit
section
abbrev fT:={x:Nat×Nat // x.1<120/\x.2<120}
def uz(a b:Nat):fT:=if h:a<120/\b<120 then⟨(a,b),h⟩else⟨(0,0),a6⟩
abbrev v7(x:fT):Te:=#[.agg #[ah x.1.1,ah x.1.2]]
def Jy{a b:Nat}(c:a<120)(d:b<120):v7 (uz a b)=#[.agg #[ah a,ah b]]:=by simp[v7,uz,c,d]
def nu(fm S' k:Nat):Tb fT:=(List.range k).map λj=>uz S' (max S' fm+j)
def hN(c fm d:Nat):Nat->Tb fT
 | 0=>[]
 |i+1=>hN c fm d i++nu fm (c+i) (d+1-max (c+i) fm)
def Ob(fm S' k:Nat):nu fm S' (k+1)=nu fm S' k++[uz S' (max S' fm+k)]:=by simp[nu,List.range_succ]
def m6(W:S7)(fy f d fm c:Nat):Prop:=
 W.cell? (S8 fy 1)=Tn f/\W.cell? (S8 fy 2)=Tn d/\W.cell? (S8 fy 3)=Tn fm/\W.cell? (S8 fy 4)=Tn c
def wM:S9->Int
 |.int _ q=>q
 |_=>0
variable{A:TJ}
def Io[S:Std A](F:Fence)(n:Nat)(I:F.fn 65)(T:F.round=none)(ai:1<=n)(l fy c f fm d:Nat)(af:c<=f)(X:f<120)(Z:d<120)(hm:fm<120){q:S7->S7->Prop}(L:∀W d',q W d'->m6 W fy c f fm d->m6 d' fy c f fm d)(g p:Tb fT->S7->Prop)
 (Q:∀pre x W,g pre W->pre.length<14400->YieldAt F (n-1) (ao A) l (v7 x) W λe d'=>
  (e=.returned (.bool true)/\g (pre++[x]) d'/\q W d')\/(e=.returned (.bool false)/\p (pre++[x]) d'))
 (W:S7) (w:m6 W fy c f fm d) (H:g [] W) :
 CallsIn F n (ao A) 65 #[.func (.yield l) #[] #[],Tj fy] W λe d'=>(∃v,e=.returned v)/\
  ((∃ys,ys=hN c fm d (f-c+1)/\g ys d')\/(∃pre,True/\p pre d')):=by
 refine callsIn_of_wp (S.f func65) S6 I ?_ T;simp only[ntmps65,List.size_toArray,List.length_cons,List.length_nil,Nat.reduceAdd,Nat.reduceSub,Array.replicate_succ,Array.replicate_zero,List.push_toArray,List.append_toArray,List.nil_append,List.cons_append];let⟨D,E,c3,G⟩:=w;gi_wp2
 gi_loopw [14] (λv wr=>∃i:Nat,v=ah i/\i<=f-c+1/\m6 wr fy c f fm d/\g (hN c fm d i) wr/\(hN c fm d i).length<=i*120)
  (λv _=>f-c+1-(wM v).toNat)
 case atStart=>exact⟨0,S6,T' _,w,H,T' _⟩
 case round=>
  obtain⟨i,rfl,aa,y,u,hlen⟩:=hrel;let⟨D,E,c3,G⟩:=y;by_cases ag:i<=f-c
  .have z:∀k,(nu fm (c+i) k).length=k:=λk=>by simp[nu]
   obtain⟨s,B⟩:∃s:Nat,s=max (c+i) fm:=⟨_,S6⟩
   have h:=al B;have o:=al z;clear B z;have Y:decide ((i:Int)<(f:Int)-c+1)=true:=by rw[decide_eq_true_eq];omega
   rcases Ub (c+i) fm with hq|hq
   all_goals
    gi_wp2
    gi_loopw [5] (λv wr=>∃k:Nat,v=ah ((s:Int)+k)/\k<=d+1-s/\m6 wr fy c f fm d/\g (hN c fm d i++nu fm (c+i) k) wr)
     (λv _=>d+1-(wM v).toNat)
    case atStart=>exact⟨0,by have:=h.out;congr 1;omega,T' _,y,by simpa [nu]using u⟩
    case round=>
     obtain⟨k,rfl,ae,j,r⟩:=hrel;let⟨d1,d2,d3,d4⟩:=j;have aj:c+i<=s/\fm<=s/\s<120:=by have:=h.out;omega
     by_cases ad:s+k<=d
     .let⟨fn,tmps,assign,body,C,M⟩:=Q (hN c fm d i++nu fm (c+i) k) (uz (c+i) (s+k)) _ r (by rw[Ug,o.out];omega)
      rw[Jy U U]at C;simp only[Int.natCast_add]at C;gi_wp2
      refine M.mono ?_;rintro e V (⟨rfl,J,R⟩|⟨rfl,K⟩)
      .have P:=L _ _ R j
       gi_wp2
       go_roundw
       case rel=>
        have m:=h.out;exact⟨k+1,by go_num,U,P,by rw[Ob,<-m,<-List.append_assoc];exact J⟩
       case measure=>simp[wM];omega
      .gi_wp2
       refine bodyPost_ret (results_none S6 _ _ _) S6 ?_;exact⟨⟨_,S6⟩,.inr ⟨_,Tf,K⟩⟩
     .gi_wp2
      go_roundw
      case rel=>
       have m:=h.out;refine⟨i+1,by go_num,U,j,?_,?_⟩
       .rw[hN,<-m,show d+1-s=k by omega];exact r
       .rw[hN,Ug,o.out];omega
      case measure=>simp[wM];omega
  .gi_wp2
   go_end0;have e:i=f-c+1:=U;exact⟨⟨_,S6⟩,.inl ⟨_,S6,by rw[<-e];exact u⟩⟩
end
end Go.aO
namespace Go.aO
attribute [local go_sem] Oper.semAt_some
open Go.Proofs Tryz Go.RowKit Go.Shelf
variable{fy:Nat}{W d' w:S7}{row:TN}
section
variable{A:TJ}
def gP(fy:Nat)(W d':S7):Prop:=∀o v,W.cell? (S8 fy o)=some v->d'.cell? (S8 fy o)=some v
def gP.t{X Y Z:S7}(h:gP fy X Y)(k:gP fy Y Z):gP fy X Z:=λo v e=>k o v (h o v e)
def gP.b(W:S7)(l:Nat)(o c:Obj)(h:W.heap[l]?=some o)(d:o.isCells=false):gP fy W (W.putObj l c):=λ_ _ e=>cell_kept e (grownBy_putObj' W l c) (λr e=>by cases e;exact⟨o,h,d⟩)
def gP.grown(h:W.grownBy d' row)(c:some fy≠row):gP fy W d':=λ_ _ e=>h.cell e c
def gP.stay{f d fm c:Nat}(W d':S7)(h:gP fy W d')(k:m6 W fy f d fm c):m6 d' fy f d fm c:=⟨h _ _ k.1,h _ _ k.2.1,h _ _ k.2.2.1,h _ _ k.2.2.2⟩
def yR[S:Std A](F:Fence)(n:Nat)(g:F.fn 40)(h:F.round=none)(a b c d f:Int)(w:S7):
 CallsIn F n (ao A) 40 #[.agg #[ah a,ah b,ah c,ah d,ah f]] w λe w'=>e=.returned (.func (.func 65) #[] #[Tj w.heap.size])/\w'=w.alloc (.cells #[ah a,ah b,ah c,ah d,ah f] 52):=by
 refine callsIn_of_wp (S.f func40) S6 g ?_ h;simp only[ntmps40,List.size_toArray,List.length_cons,List.length_nil,Nat.reduceAdd,Nat.reduceSub,Array.replicate_succ,Array.replicate_zero,List.push_toArray,List.append_toArray,List.nil_append,List.cons_append];gi_wp2
 go_ret;exact⟨S6,S6⟩
def yS[S:Std A](F:Fence)(n:Nat)(o:F.fn 65)(B:F.round=none)(z:1<=n)(fy d c fm f:Nat)(y:d<=c)(q:c<120)(u:f<120)(hm:fm<120)(w:S7)(h:fy<w.heap.size)(g:m6 w fy d c fm f):
 SeqStopsK F n (ao A) 65 #[Tj fy] v7 (gP fy) (λys=>ys=hN d fm f (c-d+1)) (λ_=>True) 14400 w:=λl i j W hW _ _ r m=>
 Io F n o B z l fy d c fm f y q u hm (gP.stay (fy:=fy)) i j r W
  ⟨(hW.cell (p:=(S8 fy 1)) h).trans g.1,(hW.cell (p:=(S8 fy 2)) h).trans g.2.1,(hW.cell (p:=(S8 fy 3)) h).trans g.2.2.1,(hW.cell (p:=(S8 fy 4)) h).trans g.2.2.2⟩ m
abbrev Hh:=DataW Unit
def k0(f:Int)(bj:Ty)(x:fT):Int:=ha f bj x.1.1 x.1.2
def mG(f:Int)(bj:Ty)(pre:Tb fT):Hh:=pre.foldl (λD x=>D.put (.int .i64 (k0 f bj x)) (.lit (.bool true))) (.map [])
def L9(f:Int)(bj:Ty)(pre:Tb fT)(x:fT):mG f bj (pre++[x])=(mG f bj pre).put (.int .i64 (k0 f bj x)) (.lit (.bool true)):=by simp[mG]
def Kw{f:Int}(g:0<=f/\f<=1000000){bj:Ty}(c:∀d,0<=bj d/\bj d<=1000000)(x:fT):0<=k0 f bj x/\k0 f bj x<=10000000:=by have:=Gm c (x.1.1 / 24+1) (x.1.2 / 24-x.1.1 / 24);unfold k0 ha;omega
def R8{n:Int}(h:0<=n/\n<=10000000):(Lit.int .i64 n).wf=true:=by have c:IntKind.i64.min = -9223372036854775808:=S6;have d:IntKind.i64.max=9223372036854775807:=S6;simp[Lit.wf,c,d];omega
structure qH(A:TJ)(bf:TQ)(T k:Nat)(f:Int)(bj:Ty)(w:S7)(pre:Tb fT)(W:S7):Prop where
 t2:W.cell? (Ti w.heap.size)=some (Tj T)
 t3:W.cell? (Ti (w.heap.size+1))=some (.int .i64 k)
 t5:W.cell? (Ti (w.heap.size+1+1+1))=some (.map (some (w.heap.size+1+1)))
 own:W.ownsMap (ao A) 3 (plainElem (H:=Unit) (ao A) 4) (w.heap.size+1+1) pre.length (mG f bj pre)
 j:bf W
 fY:w.grownBy W (some T)
 dD:w.heap.size+5<=W.heap.size
def ng{a b c:S7}{T:Nat}(h:a.grownBy b (some T))(k:b.grownBy c row)(g:∀r,row=some r->r=T\/a.heap.size<=r):a.grownBy c (some T):=
 ⟨h.os ▸ k.os,k.tape.trans h.tape,k.output.trans h.output,cL h.size k.size,λi d f=>(k.block i (gu d h.size) (λe=>by
  rcases g i e.symm with rfl|J
  .exact f S6
  .omega)).trans (h.block i d f)⟩
def qH.step{g:TQ}{T k:Nat}{f:Int}{bj:Ty}{pre:Tb fT}(h:qH A g T k f bj w pre W)(n:T<w.heap.size)(c:W.grownBy d' row)(i:∀r,row=some r->r=T\/w.heap.size+5<=r)(j:g d'):qH A g T k f bj w pre d':=by
 have d:∀b,w.heap.size<=b->b<w.heap.size+5->some b≠row:=λb l m e=>by rcases i b e.symm with rfl|ax<;>omega
 exact⟨c.cell h.t2 (d _ dT dT),c.cell h.t3 (d _ dT dT),c.cell h.t5 (d _ dT dT),h.own.kept c (d _ U U),j,
  ng h.fY c (λr e=>(i r e).imp id U),cL h.dD c.size⟩
def QK{i:TQ}{T B q D C cA:Nat}{first:Ty}(K:pB i T B q D C cA first){k:Nat}{bj:Ty}(y:∀d,0<=bj d/\bj d<=1000000){f:S7}{pre:Tb fT}{x:fT}(p:i w)(br:qH A i T k (first k) bj w pre W)(G:pre.length<14400)(n:i f)(j:W.drew.grownBy f (some T)):
 ∃l,Sem.run (ao A) (Instr.mapUpdate 159 (.map (some (w.heap.size+1+1))) (.int .i64 (ha (first k) bj x.1.1 x.1.2)) (.bool true)) f=.ok () l/\qH A i T k (first k) bj w (pre++[x]) l/\W.grownBy f (some T)/\f.grownBy l (some (w.heap.size+1+1)):=by
 have u:T<w.heap.size:=by have:=K.lt;have:=K.size w p;omega
 have F:B<=w.heap.size:=K.size w p;have o:W.grownBy f (some T):=⟨j.os,j.tape,j.output,j.size,j.block⟩
 have g:=br.step u o (λr e=>by cases e;exact .inl S6) n;let⟨l,z,E,c⟩:=g.own.update (Maps.int_keyed (ao.underlying3 A)) (ao.underlying173 A) kj (Maps.keyOf_int_mk (ao.underlying3 A) (R8 (Kw (K.hL k) y x))) (plainElem_bool (ao.underlying4 A) true);have m:∀b,b≠w.heap.size+1+1->some b≠some (w.heap.size+1+1):=λb h e=>h (by cases e;rfl)
 refine⟨l,z,⟨c.cell g.t2 (m _ dT),c.cell g.t3 (m _ dT),c.cell g.t5 (m _ dT),?_,?_,?_,cL g.dD c.size⟩,o,c⟩
 .rw[L9,Ug]
  exact E
 .exact K.keep _ _ _ n c (λr e=>by cases e;omega)
 .exact ng g.fY c (λr e=>by cases e;right;omega)
end
end Go.aO
namespace Go.aO
open Go.Proofs Tryz Go.RowKit Go.Maps Go.Shelf
section
variable{A:TJ}
def wR:Go.Shelf.Ren:=⟨λx=>match x with|7=>64|10=>82|n=>n,λx=>match x with|23=>159|26=>3|3=>4|28=>162|0=>0|27=>161|33=>68|4=>4|n=>n,λn=>n⟩
def Ds[S:Std A]:SlLaysZI.n7 (ao A) wR where
 mixed:=av
 f7:=⟨f64.name,av,(show(ao A).funcs[64]?=some f64 from(S.f func64)).trans av⟩
 f10:=⟨f82.name,av,(show(ao A).funcs[82]?=some f82 from(S.f func82)).trans av⟩
 t0:=av
 a0:=λw=>av
 z0:=λw=>av
 v0:=λw=>av
 t4:=av
 a4:=λw=>av
 z4:=λw=>av
 v4:=λw=>av
 t23:=av
 a23:=λw=>av
 z23:=λw=>av
 v23:=λw=>av
 t26:=av
 a26:=λw=>av
 z26:=λw=>av
 v26:=λw=>av
 t27:=av
 a27:=λw=>av
 z27:=λw=>av
 v27:=λw=>av
 t28:=av
 a28:=λw=>av
 z28:=λw=>av
 v28:=λw=>av
 t33:=av
 a33:=λw=>av
 z33:=λw=>av
 v33:=λw=>av
def AK:Go.Shelf.Ren:=⟨λx=>match x with|6=>63|8=>80|9=>81|11=>95|13=>97|12=>96|23=>132|24=>133|14=>123|15=>124|16=>125|17=>126|18=>127|19=>128|20=>129|21=>130|22=>131|25=>143|26=>144|27=>145|28=>146|29=>147|30=>148|31=>153|n=>n,λx=>match x with|26=>3|28=>162|24=>22|0=>0|3=>3|37=>143|48=>118|50=>64|4=>4|40=>246|39=>245|45=>180|5=>5|9=>9|51=>263|55=>266|57=>273|58=>274|33=>68|n=>n,λn=>n⟩
def O'[S:Std A]:SlLaysZI.n6 (ao A) AK where
 mixed:=av
 f6:=⟨f63.name,av,(show(ao A).funcs[63]?=some f63 from(S.f func63)).trans av⟩
 f8:=⟨f80.name,av,(show(ao A).funcs[80]?=some f80 from(S.f func80)).trans av⟩
 f11:=⟨f95.name,av,(show(ao A).funcs[95]?=some f95 from(S.f func95)).trans av⟩
 t0:=av
 a0:=λw=>av
 z0:=λw=>av
 v0:=λw=>av
 t24:=av
 a24:=λw=>av
 z24:=λw=>av
 v24:=λw=>av
 t26:=av
 a26:=λw=>av
 z26:=λw=>av
 v26:=λw=>av
 t28:=av
 a28:=λw=>av
 z28:=λw=>av
 v28:=λw=>av
 i26:=av
def O8:Go.Shelf.Ren:=⟨λx=>match x with|5=>81|8=>97|7=>96|19=>132|20=>133|10=>123|11=>124|12=>125|13=>126|14=>127|15=>128|16=>129|17=>130|18=>131|30=>143|31=>144|32=>145|33=>146|34=>147|35=>148|40=>153|n=>n,λx=>match x with|23=>22|25=>3|3=>3|32=>143|22=>22|0=>0|44=>118|46=>64|4=>4|36=>246|35=>245|41=>180|5=>5|9=>9|53=>263|57=>266|63=>273|64=>274|n=>n,λn=>n⟩
def FD[S:Std A]:SlLaysM.n5 (ao A) O8 where
 mixed:=av
 f5:=⟨f81.name,av,(show(ao A).funcs[81]?=some f81 from(S.f func81)).trans av⟩
 f7:=⟨f96.name,av,(show(ao A).funcs[96]?=some f96 from(S.f func96)).trans av⟩
 f8:=(show(ao A).funcs[97]?=some f97 from(S.f func97)).trans av
 f10:=⟨f123.name,av,(show(ao A).funcs[123]?=some f123 from(S.f func123)).trans av⟩
 f11:=⟨f124.name,av,(show(ao A).funcs[124]?=some f124 from(S.f func124)).trans av⟩
 f12:=⟨f125.name,av,(show(ao A).funcs[125]?=some f125 from(S.f func125)).trans av⟩
 f13:=⟨f126.name,av,(show(ao A).funcs[126]?=some f126 from(S.f func126)).trans av⟩
 f14:=⟨f127.name,av,(show(ao A).funcs[127]?=some f127 from(S.f func127)).trans av⟩
 f15:=⟨f128.name,av,(show(ao A).funcs[128]?=some f128 from(S.f func128)).trans av⟩
 f16:=⟨f129.name,av,(show(ao A).funcs[129]?=some f129 from(S.f func129)).trans av⟩
 f17:=⟨f130.name,av,(show(ao A).funcs[130]?=some f130 from(S.f func130)).trans av⟩
 f18:=⟨f131.name,av,(show(ao A).funcs[131]?=some f131 from(S.f func131)).trans av⟩
 f19:=(show(ao A).funcs[132]?=some f132 from(S.f func132)).trans av
 f20:=(show(ao A).funcs[133]?=some f133 from(S.f func133)).trans av
 f30:=⟨f143.name,av,(show(ao A).funcs[143]?=some f143 from(S.f func143)).trans av⟩
 f31:=(show(ao A).funcs[144]?=some f144 from(S.f func144)).trans av
 f32:=(show(ao A).funcs[145]?=some f145 from(S.f func145)).trans av
 f33:=⟨f146.name,av,(show(ao A).funcs[146]?=some f146 from(S.f func146)).trans av⟩
 f34:=⟨f147.name,av,(show(ao A).funcs[147]?=some f147 from(S.f func147)).trans av⟩
 f35:=⟨f148.name,av,(show(ao A).funcs[148]?=some f148 from(S.f func148)).trans av⟩
 f40:=⟨f153.name,av,(show(ao A).funcs[153]?=some f153 from(S.f func153)).trans av⟩
 t0:=av
 a0:=λw=>av
 z0:=λw=>av
 v0:=λw=>av
 t3:=av
 a3:=λw=>av
 z3:=λw=>av
 v3:=λw=>av
 t4:=av
 a4:=λw=>av
 z4:=λw=>av
 v4:=λw=>av
 t5:=av
 a5:=λw=>av
 z5:=λw=>av
 v5:=λw=>av
 t9:=av
 a9:=λw=>av
 z9:=λw=>av
 v9:=λw=>av
 t22:=av
 a22:=λw=>av
 z22:=λw=>av
 v22:=λw=>av
 t23:=av
 a23:=λw=>av
 z23:=λw=>av
 v23:=λw=>av
 t25:=av
 a25:=λw=>av
 z25:=λw=>av
 v25:=λw=>av
 t32:=av
 a32:=λw=>av
 z32:=λw=>av
 v32:=λw=>av
 t35:=av
 a35:=λw=>av
 z35:=λw=>av
 v35:=λw=>av
 t36:=av
 a36:=λw=>av
 z36:=λw=>av
 v36:=λw=>av
 t41:=av
 a41:=λw=>av
 z41:=λw=>av
 v41:=λw=>av
 t44:=av
 a44:=λw=>av
 z44:=λw=>av
 v44:=λw=>av
 t46:=av
 a46:=λw=>av
 z46:=λw=>av
 v46:=λw=>av
 t53:=av
 a53:=λw=>av
 z53:=λw=>av
 v53:=λw=>av
 t57:=av
 a57:=λw=>av
 z57:=λw=>av
 v57:=λw=>av
 t63:=av
 a63:=λw=>av
 z63:=λw=>av
 v63:=λw=>av
 t64:=av
 a64:=λw=>av
 z64:=λw=>av
 v64:=λw=>av
def Pa[S:Std A](m:Nat):AnyZI.SortsIn (ao A) AK Fence.wide m:=
 ⟨λblk off cap g W c d f=>callsIn_wide.2 (AnyM.slices_Sort_int FD blk off cap g W c d f),
  λp cap W=>callsIn_wide.2 (AnyM.slices_Sort_int_none FD p cap W)⟩
end
end Go.aO
