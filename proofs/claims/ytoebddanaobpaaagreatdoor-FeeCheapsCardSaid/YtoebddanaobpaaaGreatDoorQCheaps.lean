/- The given statement FeeCheapsCardSaid holds, with its card; no condition beside the statement itself. -/
import Derived.Test.YtoebddanaobpaaaGreatDoorRCheaps3
import Derived.Test.YtoebddanaobpaaaGreatDoorCards
set_option maxHeartbeats 8000000
set_option maxRecDepth 100000
set_option linter.all false
namespace Go.Proofs.YtoebddanaobpaaaGreatDoor
open Go Go.aO Go.Proofs Go.Conc Go.ConcN Go.ChangeShapes Go.WideShapes Go.ChangeAt Go.RowKit
def VJ:Tryz.f3.params=#[25,27,3,3,3,3,22]:=by kernel_rfl
def Wp:BG 3 Tryz.f3:=by
 intro H enc W args u e9 z o h;rw[VJ]at h o;obtain⟨v0,al,d0,u,T,ad,c8,rfl,rfl,t0,h⟩:=trodAll_cons h;obtain⟨v1,am,d1,u,U,q1,rfl,rfl,rfl,t1,h⟩:=trodAll_cons h;obtain⟨v2,ao,d2,u,V,ae,rfl,rfl,rfl,t2,h⟩:=trodAll_cons h;obtain⟨v3,ap,d3,u,X,ag,rfl,rfl,rfl,t3,h⟩:=trodAll_cons h;obtain⟨v4,aq,d4,u,Y,ah,rfl,rfl,rfl,t4,h⟩:=trodAll_cons h;obtain⟨v5,ar,d5,u,Z,ai,rfl,rfl,rfl,t5,h⟩:=trodAll_cons h;obtain⟨M,av,d6,u,aa,aj,rfl,rfl,rfl,t6,h⟩:=trodAll_cons h;obtain⟨rfl,rfl,rfl⟩:=trodAll_nil h;obtain⟨l⟩:=args;have c8:l = [v0,v1,v2,v3,v4,v5,M]:=c8;subst c8;obtain⟨dQ,E⟩:=o 0 _ _ rfl rfl;obtain⟨bB,k1⟩:=o 1 _ _ rfl rfl;obtain⟨P,cn⟩:=o 2 _ _ rfl rfl;obtain⟨cG,F⟩:=o 3 _ _ rfl rfl;obtain⟨Q,G⟩:=o 4 _ _ rfl rfl;obtain⟨R,I⟩:=o 5 _ _ rfl rfl;obtain⟨S,J⟩:=o 6 _ _ rfl rfl;obtain⟨d,p,rfl,au⟩:=SE z E t0;obtain⟨r,q,n,c,f,rfl,af⟩:=SD z k1 t1;obtain⟨kind,rfl⟩:=SB cn t2;obtain⟨left,rfl⟩:=SB F t3;obtain⟨aP,rfl⟩:=SB G t4;obtain⟨carry,rfl⟩:=SB I t5;obtain⟨L,K,B,fn,rfl,ak,C,D⟩:=SC z J t6;refine⟨#[.agg (eB d (D4 W p)),.agg #[.int .i64 r,.slice (mH W q) n c],.int .i64 kind,.int .i64 left,.int .i64 aP,.int .i64 carry,.slice (mH W L) K B],⟨rfl,λi x y g m=>?_⟩,λw hw=>Wm (A:=bC.list.toArray) SZ d (D4 W p) r (mH W q) n c f kind left aP carry _ w (au.mask hw) (af.mask hw) (ak.rD hw C D) rfl⟩;match i with
 | 0=>cases g;cases m;exact au.Bg
 | 1=>
  cases g;cases m;refine .agg rfl λj x y g m=>?_
  match j with
  | 0=>cases g;cases m;exact .int _ _
  | 1=>cases g;cases m;exact af.Bg
  |j+2=>simp at g
 | 2=>cases g;cases m;exact .int _ _
 | 3=>cases g;cases m;exact .int _ _
 | 4=>cases g;cases m;exact .int _ _
 | 5=>cases g;cases m;exact .int _ _
 | 6=>cases g;cases m;exact ak.Bg
 |j+7=>simp at g
abbrev Wq:Array Value:=#[.agg #[.int .i64 0,.slice none 0 0,.slice none 0 0,.slice none 0 0],.agg #[.int .i64 0,.slice none 0 0],.int .i64 0,.int .i64 0,.int .i64 0,.int .i64 0,.slice none 0 0]
def Wo(os:Os)(l:os.Started)(H:Type)(enc:TypeId×Value->H)(F:Stop.Interp):
 ReturnsInLeavingWide {calm:=true} Tryz.checked os 3 .any (λw args=>(Rows.feeCheapsSpec.pre enc Tryz.prog Tryz.f3 [] false w args/\laidMetH Tryz.prog uw w)/\sizedMet enc Tryz.prog Tryz.f3 (OpenSpec.ofChange Rows.feeCheapsSpec) false w args)
  ((OpenSpec.ofChange Rows.feeCheapsSpec).postWith enc Tryz.prog Tryz.f3 F (outsideKept [.timePasses]) false true false):=
 SW (f:=3) (fn:=Tryz.f3) (spec:=Rows.feeCheapsSpec) (by kernel_rfl) (λt aA=>by rw[VJ]at aA;simp only[List.mem_cons,List.not_mem_nil,or_false]at aA;rcases aA with rfl|rfl|rfl|rfl|rfl|rfl|rfl<;>exact⟨by kernel_rfl,of_decide_eq_true (by kernel_rfl)⟩) (by kernel_rfl) rfl
  (λH j i=>by
   rw[VJ]at i;match j,i with
   | [a,b,c,d,e,f,g],_=>rfl) (by decide) (by rintro(h|h|h|h|h)<;>cases h) (by kernel_rfl) Wp Wq os l H enc F
  (by kernel_rfl) (by kernel_rfl) (by kernel_rfl) (by kernel_rfl) (by kernel_rfl)
def Wn:Rows.FeeCheapsSaid:=
 OpenClaim.holds_of_wide_leaving_time 3 Tryz.f3 rfl rfl rfl rfl rfl rfl rfl ⟨rfl,rfl,rfl,rfl,rfl⟩ rfl rfl rfl rfl rfl (by kernel_rfl) (by kernel_rfl) (by kernel_rfl)
  (of_decide_eq_true (by kernel_rfl)) (by unfold Func.isWrapper;first|(rw[if_pos (by decide+kernel)];kernel_rfl)|(rw[if_neg (by decide+kernel)];exact⟨rfl,rfl⟩))
  (λos c H enc _ F=>Wo os c H enc F)
theorem feeCheaps_card:Rows.FeeCheapsCardSaid:=
 SR (true,"bc814cc3f000d3fb121ffc95e3e049ff770a0cbadc6cbe54b26546686e1abe66") Wn (by kernel_rfl) feeCheaps_row_tie rfl ⟨rfl,rfl⟩ (by kernel_rfl) rfl
  (λf fn c d=>by
   obtain rfl:f=3:=Option.some.inj ((show Tryz.prog.funcNamed Rows.feeCheapsRow.func=some 3 by kernel_rfl).symm.trans c) |>.symm
   obtain rfl:fn=Tryz.f3:=(Option.some.inj ((show Tryz.prog.funcs[3]?=some Tryz.f3 by kernel_rfl).symm.trans d)).symm;exact⟨by kernel_rfl,λj t aA=>by
    rw[VJ]at aA;have aA:t∈#[25,27,3,3,3,3,22]:=Array.mem_of_getElem? aA;simp only[List.mem_toArray,List.mem_cons,List.not_mem_nil,or_false]at aA;rcases aA with rfl|rfl|rfl|rfl|rfl|rfl|rfl
    .exact(show Tryz.prog.wantsStandIn 25=false by kernel_rfl)
    .exact(show Tryz.prog.wantsStandIn 27=false by kernel_rfl)
    .exact(show Tryz.prog.wantsStandIn 3=false by kernel_rfl)
    .exact(show Tryz.prog.wantsStandIn 3=false by kernel_rfl)
    .exact(show Tryz.prog.wantsStandIn 3=false by kernel_rfl)
    .exact(show Tryz.prog.wantsStandIn 3=false by kernel_rfl)
    .exact(show Tryz.prog.wantsStandIn 22=false by kernel_rfl)⟩)
  (by kernel_rfl)
#print axioms feeCheaps_card
end Go.Proofs.YtoebddanaobpaaaGreatDoor
