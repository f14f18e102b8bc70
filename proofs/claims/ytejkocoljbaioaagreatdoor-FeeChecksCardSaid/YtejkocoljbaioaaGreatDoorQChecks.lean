/- The given statement FeeChecksCardSaid holds, with its card; no condition beside the statement itself. -/
import Derived.Test.YtejkocoljbaioaaGreatDoorRChecks2
import Derived.Test.YtejkocoljbaioaaGreatDoorCards
set_option maxHeartbeats 8000000
set_option maxRecDepth 100000
set_option linter.all false
namespace Go.Proofs.YtejkocoljbaioaaGreatDoor
open Go Go.aO Go.Proofs Go.Conc Go.ConcN Go.ChangeShapes Go.WideShapes Go.ChangeAt Go.RowKit
def TK:Tryz.f3.params=#[25,27,31,3,3,3,3,22]:=av
def Ua:BG 3 Tryz.f3:=by
 intro H enc W args B e9 z u h;rw[TK]at h u;obtain⟨v0,aw,d0,B,Y,al,c8,rfl,rfl,t0,h⟩:=trodAll_cons h;obtain⟨v1,ax,d1,B,Z,q1,rfl,rfl,rfl,t1,h⟩:=trodAll_cons h;obtain⟨v2,ay,d2,B,aa,am,rfl,rfl,rfl,t2,h⟩:=trodAll_cons h;obtain⟨v3,az,d3,B,ad,ao,rfl,rfl,rfl,t3,h⟩:=trodAll_cons h;obtain⟨v4,aA,d4,B,ae,ap,rfl,rfl,rfl,t4,h⟩:=trodAll_cons h;obtain⟨v5,aB,d5,B,ag,aq,rfl,rfl,rfl,t5,h⟩:=trodAll_cons h;obtain⟨Q,aC,d6,B,ai,ar,rfl,rfl,rfl,t6,h⟩:=trodAll_cons h;obtain⟨R,aD,d7,B,aj,av,rfl,rfl,rfl,t7,h⟩:=trodAll_cons h;obtain⟨rfl,rfl,rfl⟩:=trodAll_nil h;obtain⟨l⟩:=args;have c8:l = [v0,v1,v2,v3,v4,v5,Q,R]:=c8;subst c8;obtain⟨dQ,F⟩:=u 0 _ _ rfl rfl;obtain⟨bB,k1⟩:=u 1 _ _ rfl rfl;obtain⟨S,cn⟩:=u 2 _ _ rfl rfl;obtain⟨cG,G⟩:=u 3 _ _ rfl rfl;obtain⟨T,I⟩:=u 4 _ _ rfl rfl;obtain⟨U,J⟩:=u 5 _ _ rfl rfl;obtain⟨V,K⟩:=u 6 _ _ rfl rfl;obtain⟨X,L⟩:=u 7 _ _ rfl rfl;obtain⟨d,p,rfl,au⟩:=SE z F t0;obtain⟨r,q,n,c,f,rfl,af⟩:=SD z k1 t1;obtain⟨s,rfl⟩:=T3 cn t2;obtain⟨kind,rfl⟩:=SB G t3;obtain⟨day,rfl⟩:=SB I t4;obtain⟨left,rfl⟩:=SB J t5;obtain⟨aP,rfl⟩:=SB K t6;obtain⟨P,M,C,fn,rfl,ak,D,E⟩:=SC z L t7;refine⟨#[.agg (eB d (D4 W p)),.agg #[ah r,.slice (mH W q) n c],.agg s.v,ah kind,ah day,ah left,ah aP,.slice (mH W P) M C],⟨rfl,λi x y g o=>?_⟩,λw hw=>T8 (A:=bC.list.toArray) SZ d (D4 W p) r (mH W q) n c f s kind day left aP _ w (au.mask hw) (af.mask hw) (ak.rD hw D E) rfl⟩;match i with
 | 0=>cases g;cases o;exact au.Bg
 | 1=>
  cases g;cases o;refine .agg rfl λj x y g o=>?_
  match j with
  | 0=>cases g;cases o;exact .int _ _
  | 1=>cases g;cases o;exact af.Bg
  |j+2=>simp at g
 | 2=>
  cases g;cases o;refine .agg rfl λj x y g o=>?_
  match j with
  | 0=>cases g;cases o;exact .int _ _
  | 1=>cases g;cases o;exact .int _ _
  | 2=>cases g;cases o;exact .int _ _
  | 3=>cases g;cases o;exact .int _ _
  | 4=>cases g;cases o;exact .int _ _
  |j+5=>simp at g
 | 3=>cases g;cases o;exact .int _ _
 | 4=>cases g;cases o;exact .int _ _
 | 5=>cases g;cases o;exact .int _ _
 | 6=>cases g;cases o;exact .int _ _
 | 7=>cases g;cases o;exact ak.Bg
 |j+8=>simp at g
abbrev Ub:Array Value:=#[.agg #[ah 0,.slice none 0 0,.slice none 0 0,.slice none 0 0],.agg #[ah 0,.slice none 0 0],.agg #[ah 0,ah 0,ah 0,ah 0,ah 0],ah 0,ah 0,ah 0,ah 0,.slice none 0 0]
def T'(os:Os)(j:os.Started)(H:Type)(enc:TypeId×Value->H)(F:Stop.Interp):
 ReturnsInLeavingWide {calm:=true} Tryz.checked os 3 .any (λw args=>(Rows.feeChecksSpec.pre enc Tryz.prog Tryz.f3 [] false w args/\laidMetH Tryz.prog uw w)/\sizedMet enc Tryz.prog Tryz.f3 (OpenSpec.ofChange Rows.feeChecksSpec) false w args)
  ((OpenSpec.ofChange Rows.feeChecksSpec).postWith enc Tryz.prog Tryz.f3 F (outsideKept [.timePasses]) false true false):=
 SW (f:=3) (fn:=Tryz.f3) (spec:=Rows.feeChecksSpec) av (λt aA=>by rw[TK]at aA;simp only[List.mem_cons,iN,or_false]at aA;rcases aA with rfl|rfl|rfl|rfl|rfl|rfl|rfl|rfl<;>exact⟨av,of_decide_eq_true av⟩) av rfl
  (λH i aj=>by
   rw[TK]at aj;match i,aj with
   | [a,b,c,d,e,f,g,h],_=>rfl) a6 (by rintro(h|h|h|h|h)<;>cases h) av Ua Ub os j H enc F
  av av av av av
def T9:Rows.FeeChecksSaid:=
 OpenClaim.holds_of_wide_leaving_time 3 Tryz.f3 rfl rfl rfl rfl rfl rfl rfl ⟨rfl,rfl,rfl,rfl,rfl⟩ rfl rfl rfl rfl rfl av av av
  (of_decide_eq_true av) (by unfold Func.isWrapper;first|(rw[if_pos (by decide+kernel)];kernel_rfl)|(rw[if_neg (by decide+kernel)];exact⟨rfl,rfl⟩))
  (λos c H enc _ F=>T' os c H enc F)
theorem feeChecks_card:Rows.FeeChecksCardSaid:=
 SR (true,"bf56f63494b8568dfcc358d55a6ca8ec08649a9a9405582a8df511006f2dbd64") T9 av feeChecks_row_tie rfl ⟨rfl,rfl⟩ av rfl
  (λf fn aD c=>by
   obtain rfl:f=3:=bD ((show Tryz.prog.funcNamed Rows.feeChecksRow.func=some 3 by kernel_rfl).symm.trans aD) |>.symm
   obtain rfl:fn=Tryz.f3:=(bD ((show Tryz.prog.funcs[3]?=some Tryz.f3 by kernel_rfl).symm.trans c)).symm;exact⟨av,λj t aA=>by
    rw[TK]at aA;have aA:t∈#[25,27,31,3,3,3,3,22]:=Array.mem_of_getElem? aA;simp only[List.mem_toArray,List.mem_cons,iN,or_false]at aA;rcases aA with rfl|rfl|rfl|rfl|rfl|rfl|rfl|rfl
    .exact(show Tryz.prog.wantsStandIn 25=false by kernel_rfl)
    .exact(show Tryz.prog.wantsStandIn 27=false by kernel_rfl)
    .exact(show Tryz.prog.wantsStandIn 31=false by kernel_rfl)
    .exact(show Tryz.prog.wantsStandIn 3=false by kernel_rfl)
    .exact(show Tryz.prog.wantsStandIn 3=false by kernel_rfl)
    .exact(show Tryz.prog.wantsStandIn 3=false by kernel_rfl)
    .exact(show Tryz.prog.wantsStandIn 3=false by kernel_rfl)
    .exact(show Tryz.prog.wantsStandIn 22=false by kernel_rfl)⟩)
  av
#print axioms feeChecks_card
end Go.Proofs.YtejkocoljbaioaaGreatDoor
