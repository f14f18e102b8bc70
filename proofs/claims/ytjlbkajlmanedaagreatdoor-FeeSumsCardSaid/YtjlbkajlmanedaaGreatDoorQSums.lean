/- The given statement FeeSumsCardSaid holds, with its card; no condition beside the statement itself. -/
import Derived.Test.YtjlbkajlmanedaaGreatDoorRSums3
import Derived.Test.YtjlbkajlmanedaaGreatDoorCards
set_option maxHeartbeats 8000000
set_option maxRecDepth 100000
set_option linter.all false
namespace Go.Proofs.YtjlbkajlmanedaaGreatDoor
open Go Go.aO Go.Proofs Go.Conc Go.ConcN Go.ChangeShapes Go.WideShapes Go.ChangeAt Go.RowKit
def Vv:Tryz.f3.params=#[25,27,31,3,22]:=av
def We:BG 3 Tryz.f3:=by
 intro H enc W args u e9 z o h;rw[Vv]at h o;obtain⟨v0,Z,d0,u,P,U,c8,rfl,rfl,t0,h⟩:=trodAll_cons h;obtain⟨v1,aa,d1,u,Q,q1,rfl,rfl,rfl,t1,h⟩:=trodAll_cons h;obtain⟨v2,ad,d2,u,R,V,rfl,rfl,rfl,t2,h⟩:=trodAll_cons h;obtain⟨v3,ae,d3,u,S,X,rfl,rfl,rfl,t3,h⟩:=trodAll_cons h;obtain⟨v4,ag,d4,u,T,Y,rfl,rfl,rfl,t4,h⟩:=trodAll_cons h;obtain⟨rfl,rfl,rfl⟩:=trodAll_nil h;obtain⟨l⟩:=args;have c8:l = [v0,v1,v2,v3,v4]:=c8;subst c8;let⟨dQ,F⟩:=o 0 _ _ S6 S6;let⟨bB,k1⟩:=o 1 _ _ S6 S6;let⟨L,cn⟩:=o 2 _ _ S6 S6;let⟨cG,G⟩:=o 3 _ _ S6 S6;let⟨M,I⟩:=o 4 _ _ S6 S6;obtain⟨d,p,rfl,au⟩:=SE z F t0;obtain⟨r,q,n,c,f,rfl,af⟩:=SD z k1 t1;obtain⟨s,rfl⟩:=V5 cn t2;obtain⟨B,rfl⟩:=SB G t3;obtain⟨K,J,C,fn,rfl,ak,D,E⟩:=SC z I t4;refine⟨#[.agg (eB d (D4 W p)),.agg #[ah r,.slice (mH W q) n c],.agg s.v,ah B,.slice (mH W K) J C],⟨S6,λi x y g m=>?_⟩,λw hw=>Wb (A:=bC.list.toArray) SZ d (D4 W p) r (mH W q) n c f s B _ w (au.mask hw) (af.mask hw) (ak.rD hw D E) S6⟩;match i with
 | 0=>cases g;cases m;exact au.Bg
 | 1=>
  cases g;cases m;refine .agg S6 λj x y g m=>?_
  match j with
  | 0=>cases g;cases m;exact .int _ _
  | 1=>cases g;cases m;exact af.Bg
  |j+2=>simp at g
 | 2=>
  cases g;cases m;refine .agg S6 λj x y g m=>?_
  match j with
  | 0=>cases g;cases m;exact .int _ _
  | 1=>cases g;cases m;exact .int _ _
  | 2=>cases g;cases m;exact .int _ _
  | 3=>cases g;cases m;exact .int _ _
  | 4=>cases g;cases m;exact .int _ _
  |j+5=>simp at g
 | 3=>cases g;cases m;exact .int _ _
 | 4=>cases g;cases m;exact ak.Bg
 |j+5=>simp at g
abbrev Wf:Te:=#[.agg #[ah 0,.slice none 0 0,.slice none 0 0,.slice none 0 0],.agg #[ah 0,.slice none 0 0],.agg #[ah 0,ah 0,ah 0,ah 0,ah 0],ah 0,.slice none 0 0]
def Wd(os:Os)(i:os.Started)(H:Type)(enc:Tg×S9->H)(F:Stop.Interp):
 ReturnsInLeavingWide {calm:=true} Tryz.checked os 3 .any (λw args=>(Rows.feeSumsSpec.pre enc Tryz.prog Tryz.f3 [] false w args/\laidMetH Tryz.prog uw w)/\sizedMet enc Tryz.prog Tryz.f3 (OpenSpec.ofChange Rows.feeSumsSpec) false w args)
  ((OpenSpec.ofChange Rows.feeSumsSpec).postWith enc Tryz.prog Tryz.f3 F (outsideKept [.timePasses]) false true false):=
 SW (f:=3) (fn:=Tryz.f3) (spec:=Rows.feeSumsSpec) av (λt aA=>by rw[Vv]at aA;simp only[T7,iN,or_false]at aA;rcases aA with rfl|rfl|rfl|rfl|rfl<;>exact⟨av,Uu av⟩) av S6
  (λH g aj=>by
   rw[Vv]at aj;match g,aj with
   | [a,b,c,d,e],_=>rfl) a6 (by rintro(h|h|h|h|h)<;>cases h) av We Wf os i H enc F
  av av av av av
def Wc:Rows.FeeSumsSaid:=
 OpenClaim.holds_of_wide_leaving_time 3 Tryz.f3 rfl rfl rfl rfl rfl rfl rfl ⟨rfl,rfl,rfl,rfl,rfl⟩ rfl rfl rfl rfl rfl av av av
  (Uu av) (by unfold Func.isWrapper;first|(rw[Tq (by decide+kernel)];kernel_rfl)|(rw[Tm (by decide+kernel)];exact⟨S6,S6⟩))
  (λos c H enc _ F=>Wd os c H enc F)
theorem feeSums_card:Rows.FeeSumsCardSaid:=
 SR (true,"f486b67a57b22aaee848bc78f5fdc4c277512de39ae96d4469a4b84b957c2564") Wc av feeSums_row_tie rfl ⟨rfl,rfl⟩ av rfl
  (λf fn aD c=>by
   obtain rfl:f=3:=bD ((show Tryz.prog.funcNamed Rows.feeSumsRow.func=some 3 by kernel_rfl).symm.trans aD) |>.symm
   obtain rfl:fn=Tryz.f3:=(bD ((show Tryz.prog.funcs[3]?=some Tryz.f3 by kernel_rfl).symm.trans c)).symm;exact⟨av,λj t aA=>by
    rw[Vv]at aA;have aA:t∈#[25,27,31,3,22]:=Array.mem_of_getElem? aA;simp only[List.mem_toArray,T7,iN,or_false]at aA;rcases aA with rfl|rfl|rfl|rfl|rfl
    .exact(show Tryz.prog.wantsStandIn 25=false by kernel_rfl)
    .exact(show Tryz.prog.wantsStandIn 27=false by kernel_rfl)
    .exact(show Tryz.prog.wantsStandIn 31=false by kernel_rfl)
    .exact(show Tryz.prog.wantsStandIn 3=false by kernel_rfl)
    .exact(show Tryz.prog.wantsStandIn 22=false by kernel_rfl)⟩)
  av
#print axioms feeSums_card
end Go.Proofs.YtjlbkajlmanedaaGreatDoor
