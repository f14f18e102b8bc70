/- The given statement FeeUntilsCardSaid holds, with its card; no condition beside the statement itself. -/
import Derived.Test.YtkifbmfagkjikaaGreatDoorRUntils1
import Derived.Test.YtkifbmfagkjikaaGreatDoorCards
set_option maxHeartbeats 8000000
set_option maxRecDepth 100000
set_option linter.all false
namespace Go.Proofs.YtkifbmfagkjikaaGreatDoor
open Go Go.aO Go.Proofs Go.Conc Go.ConcN Go.ChangeShapes Go.WideShapes Go.ChangeAt Go.RowKit
def Ta:Tryz.f3.params=#[25,27,3,3,3,22]:=av
def Tu:BG 3 Tryz.f3:=by
 intro H enc W args u e9 z o h;rw[Ta]at h o;obtain⟨v0,ae,d0,u,Q,X,c8,rfl,rfl,t0,h⟩:=trodAll_cons h;obtain⟨v1,ag,d1,u,R,q1,rfl,rfl,rfl,t1,h⟩:=trodAll_cons h;obtain⟨v2,ah,d2,u,S,Y,rfl,rfl,rfl,t2,h⟩:=trodAll_cons h;obtain⟨v3,ai,d3,u,T,Z,rfl,rfl,rfl,t3,h⟩:=trodAll_cons h;obtain⟨v4,aj,d4,u,U,aa,rfl,rfl,rfl,t4,h⟩:=trodAll_cons h;obtain⟨v5,al,d5,u,V,ad,rfl,rfl,rfl,t5,h⟩:=trodAll_cons h;obtain⟨rfl,rfl,rfl⟩:=trodAll_nil h;obtain⟨l⟩:=args;have c8:l = [v0,v1,v2,v3,v4,v5]:=c8;subst c8;obtain⟨dQ,E⟩:=o 0 _ _ rfl rfl;obtain⟨bB,k1⟩:=o 1 _ _ rfl rfl;obtain⟨L,cn⟩:=o 2 _ _ rfl rfl;obtain⟨cG,F⟩:=o 3 _ _ rfl rfl;obtain⟨M,G⟩:=o 4 _ _ rfl rfl;obtain⟨P,I⟩:=o 5 _ _ rfl rfl;obtain⟨d,p,rfl,au⟩:=SE z E t0;obtain⟨r,q,n,c,f,rfl,af⟩:=SD z k1 t1;obtain⟨kind,rfl⟩:=SB cn t2;obtain⟨left,rfl⟩:=SB F t3;obtain⟨cm,rfl⟩:=SB G t4;obtain⟨K,J,B,fn,rfl,ak,C,D⟩:=SC z I t5;refine⟨#[.agg (eB d (D4 W p)),.agg #[.int .i64 r,.slice (mH W q) n c],.int .i64 kind,.int .i64 left,.int .i64 cm,.slice (mH W K) J B],⟨rfl,λi x y g m=>?_⟩,λw hw=>Tr (A:=bC.list.toArray) SZ d (D4 W p) r (mH W q) n c f kind left cm _ w (au.mask hw) (af.mask hw) (ak.rD hw C D) rfl⟩;match i with
 | 0=>cases g;cases m;exact au.Bg
 | 1=>
  cases g;cases m;refine .agg rfl λj x y g m=>?_
  match j with
  | 0=>cases g;cases m;exact .int _ _
  | 1=>cases g;cases m;exact af.Bg
  |j+2=>simp at g
 | 2=>cases g;cases m;exact .int _ _
 | 3=>cases g;cases m;exact .int _ _
 | 4=>cases g;cases m;exact .int _ _
 | 5=>cases g;cases m;exact ak.Bg
 |j+6=>simp at g
abbrev Tv:Array Value:=#[.agg #[.int .i64 0,.slice none 0 0,.slice none 0 0,.slice none 0 0],.agg #[.int .i64 0,.slice none 0 0],.int .i64 0,.int .i64 0,.int .i64 0,.slice none 0 0]
def Tt(os:Os)(i:os.Started)(H:Type)(enc:TypeId×Value->H)(F:Stop.Interp):
 ReturnsInLeavingWide {calm:=true} Tryz.checked os 3 .any (λw args=>(Rows.feeUntilsSpec.pre enc Tryz.prog Tryz.f3 [] false w args/\laidMetH Tryz.prog uw w)/\sizedMet enc Tryz.prog Tryz.f3 (OpenSpec.ofChange Rows.feeUntilsSpec) false w args)
  ((OpenSpec.ofChange Rows.feeUntilsSpec).postWith enc Tryz.prog Tryz.f3 F (outsideKept [.timePasses]) false true false):=
 SW (f:=3) (fn:=Tryz.f3) (spec:=Rows.feeUntilsSpec) av (λt aA=>by rw[Ta]at aA;simp only[List.mem_cons,iN,or_false]at aA;rcases aA with rfl|rfl|rfl|rfl|rfl|rfl<;>exact⟨av,of_decide_eq_true av⟩) av rfl
  (λH g aj=>by
   rw[Ta]at aj;match g,aj with
   | [a,b,c,d,e,f],_=>rfl) a6 (by rintro(h|h|h|h|h)<;>cases h) av Tu Tv os i H enc F
  av av av av av
def Ts:Rows.FeeUntilsSaid:=
 OpenClaim.holds_of_wide_leaving_time 3 Tryz.f3 rfl rfl rfl rfl rfl rfl rfl ⟨rfl,rfl,rfl,rfl,rfl⟩ rfl rfl rfl rfl rfl av av av
  (of_decide_eq_true av) (by unfold Func.isWrapper;first|(rw[if_pos (by decide+kernel)];kernel_rfl)|(rw[if_neg (by decide+kernel)];exact⟨rfl,rfl⟩))
  (λos c H enc _ F=>Tt os c H enc F)
theorem feeUntils_card:Rows.FeeUntilsCardSaid:=
 SR (true,"8e4810b1bf535af0b4c006100d80e05b627689d5fde439a6ca32b9c2a79341fb") Ts av feeUntils_row_tie rfl ⟨rfl,rfl⟩ av rfl
  (λf fn aD c=>by
   obtain rfl:f=3:=bD ((show Tryz.prog.funcNamed Rows.feeUntilsRow.func=some 3 by kernel_rfl).symm.trans aD) |>.symm
   obtain rfl:fn=Tryz.f3:=(bD ((show Tryz.prog.funcs[3]?=some Tryz.f3 by kernel_rfl).symm.trans c)).symm;exact⟨av,λj t aA=>by
    rw[Ta]at aA;have aA:t∈#[25,27,3,3,3,22]:=Array.mem_of_getElem? aA;simp only[List.mem_toArray,List.mem_cons,iN,or_false]at aA;rcases aA with rfl|rfl|rfl|rfl|rfl|rfl
    .exact(show Tryz.prog.wantsStandIn 25=false by kernel_rfl)
    .exact(show Tryz.prog.wantsStandIn 27=false by kernel_rfl)
    .exact(show Tryz.prog.wantsStandIn 3=false by kernel_rfl)
    .exact(show Tryz.prog.wantsStandIn 3=false by kernel_rfl)
    .exact(show Tryz.prog.wantsStandIn 3=false by kernel_rfl)
    .exact(show Tryz.prog.wantsStandIn 22=false by kernel_rfl)⟩)
  av
#print axioms feeUntils_card
end Go.Proofs.YtkifbmfagkjikaaGreatDoor
