/- A part. -/
import Derived.Test.YtoebddanaobpaaaGreatDoorP0
import Derived.Laws.Sem
set_option maxHeartbeats 8000000
set_option maxRecDepth 100000
set_option linter.all false
namespace Go.aO
attribute [-simp] Go.Sem.runT_eq
variable{w:S7}{fr:TB}{as:Tb dO}{P:To}{x:bA}
section
def r9(P:To)(ext:Ext)(x:bA):TI (Tw×Te):=
 match x.1.kind,x.1.roundOf,x.1.mode,x.1.todo with
 |.normal,none,.run,.inRegion ops (i::_)::_ |.deferred,none,.run,.inRegion ops (i::_)::_=>
  if ((ops[i]?).map (Region.wanted · (yielded ops x.1.tmps))).getD false then
   match ops[i]? with
   |some o=>match kZ P (nn ext x.1 o) []with
    |some (.enter f args,[])=>some (f,args)
    |_=>none
   |none=>none
  else none
 |_,_,_,_=>none
section
variable{P:To}{ext:Ext}{main:Ta}{Tc:Tz}{st:GoStatus}{off:TI (Tv CommCase×CommShape)}
def B8(T:dn P ext){f:Tw}{args:Te}(h:r9 P ext x=some (f,args))(w:S7):
 stepG P main ⟨x.1,x.2++Tc,st,none,off⟩ w=.go (Tk (Frame.enter P f args .normal) (x.1::x.2++Tc)) w:=by
 obtain⟨fr,cs⟩:=x;have key:∀(ops:Tv Oper) (i:Nat) (Tp:TA) (k:Tb Item),fr.todo=.inRegion ops (i::Tp)::k->fr.mode=.run->fr.roundOf=none->(fr.kind=.normal\/fr.kind=.deferred)->
  (if ((ops[i]?).map (Region.wanted · (yielded ops fr.tmps))).getD false then
   match ops[i]? with
   |some o=>match kZ P (nn ext fr o) []with
    |some (.enter f args,[])=>some (f,args)
    |_=>none
   |none=>none
  else none)=some (f,args)->stepG P main ⟨fr,cs++Tc,st,none,off⟩ w=.go (Tk (Frame.enter P f args .normal) (fr::cs++Tc)) w:=by
  intro ops i Tp k q hm p aa h;split at h
  .rename_i u
   rcases l:ops[i]? with _|o
   .rw[l]at h;cases h
   rw[l]at h;dsimp only at h;have m:mv P ext (λ_=>false) (fr,cs) []=some ((Frame.enter P f args .normal,fr::cs),[]):=by
    split at h
    .rename_i z y e
     cases h;have n:w9 P ext (λ_=>false) fr cs o []=some ((Frame.enter P f args .normal,fr::cs),[]):=by show rb P ext (λ_=>false) fr cs o []=_;unfold rb;rw[e];rfl
     have r:o2 P ext (λ_=>false) fr cs [] fr.todo=some ((Frame.enter P f args .normal,fr::cs),[]):=by rw[q];simp only[o2];rw[Tq u,l];exact n
     unfold mv;dsimp only;rw[p,hm];rcases aa with aa|aa<;>(rw[aa];exact r)
    .cases h
   have:=o3 (main:=main) (Tc:=Tc) (st:=st) (off:=off) T m (.nil w);rw[qg]at this;exact this
  .cases h
 unfold r9 at h;dsimp only at h;split at h
 .rename_i c d g j
  exact key _ _ _ _ j g d (.inl c) h
 .rename_i c d g j
  exact key _ _ _ _ j g d (.inr c) h
 .cases h
end
def sH(P:To)(ext:Ext)(x:bA):TI Next:=
 match x.1.kind,x.1.roundOf,x.1.mode,x.1.todo with
 |.normal,none,.run,.inRegion ops (i::_)::_ |.deferred,none,.run,.inRegion ops (i::_)::_=>
  if ((ops[i]?).map (Region.wanted · (yielded ops x.1.tmps))).getD false then
   match ops[i]? with
   |some o=>match kZ P (nn ext x.1 o) []with
    |some (n,[])=>some n
    |_=>none
   |none=>none
  else none
 |_,_,_,_=>none
def pR(P:To){α:Type}:Sem α->Tb dO->TI (Halt×Tb cD)
 |.halt h,[]=>some (h,[])
 |.program k,as=>pR P (k P) as
 |.mark m k,as=>(pR P k as).map λx=>(x.1,.mark m::x.2)
 |.load m a k,.val v::as=>(pR P (k v) as).map λx=>(x.1,.load m a v::x.2)
 |_,_=>none
def Bm(P:To)(ext:Ext)(x:bA)(as:Tb dO):TI (Tb cD):=
 match x.1.kind,x.1.roundOf,x.1.mode,x.1.todo with
 |.normal,none,.run,.inRegion ops (i::_)::_ |.deferred,none,.run,.inRegion ops (i::_)::_=>
  if ((ops[i]?).map (Region.wanted · (yielded ops x.1.tmps))).getD false then
   match ops[i]? with
   |some o=>match pR P (nn ext x.1 o) as with
    |some (.blocked,l)=>some l
    |_=>none
   |none=>none
  else none
 |_,_,_,_=>none
def Kl{α:Type}{s:Sem α}:∀{as:Tb dO} {h:Halt} {l:Tb cD},pR P s as=some (h,l)->∀{w w':S7} {es acc:TE},Does w l w' es->s.runT P w acc=(.halt h w',acc++es):=by
 have i:∀{x:TI (Halt×Tb cD)} {f:cD} {h:Halt} {l:Tb cD},x.map (λx=>(x.1,f::x.2))=some (h,l)->∃aN,l=f::aN/\x=some (h,aN):=by
  intro x f h l e;cases x with
  |none=>cases e
  |some y=>obtain⟨n,o⟩:=y;cases e;exact⟨_,S6,S6⟩
 induction s with
 |halt x=>
  intro as h l e w w' es acc hd;cases as with
  |nil=>cases e;cases hd;simp[Sem.runT]
  |cons=>cases e
 |program k d=>
  intro as h l e w w' es acc hd;have c:pR P (k P) as=some (h,l):=by cases as<;>exact e
  exact d P c hd
 |mark m k d=>
  intro as h l e w w' es acc hd;obtain⟨aN,rfl,c⟩:=i (f:=.mark m) (x:=pR P k as) (by cases as<;>exact e);cases hd with
  |mark g=>
   simp only[Sem.runT];rw[d c g];simp[Uj]
 |load m bO k d=>
  intro as h l e w w' es acc hd;rcases as with _|⟨x,as⟩
  .cases e
  cases x<;>try cases e
  obtain⟨aN,rfl,c⟩:=i e;cases hd with
  |load j g=>
   simp only[Sem.runT,j];rw[d _ c g];simp[Uj]
 |_=>intro as h l e;cases as<;>cases e
section
variable{P:To}{ext:Ext}{main:Ta}{Tc:Tz}{st:GoStatus}{off:TI (Tv CommCase×CommShape)}
def Ep{C:Tz}{ops:Tv Oper}{i:Nat}{Tp:TA}{k:Tb Item}{o:Oper}(d:fr.todo=.inRegion ops (i::Tp)::k)(hm:fr.mode=.run)(c:fr.roundOf=none)(f:((ops[i]?).map (Region.wanted · (yielded ops fr.tmps))).getD false=true)(g:ops[i]?=some o):
 stepG P main ⟨fr,C,st,none,off⟩ w=stepG.apply P true fr C none (execOp fr.eval o) w:=by
 rw[run_eq hm];obtain⟨fn,tmps,todo,defers,mode,Tl,ro⟩:=fr;dsimp only at d hm c f;subst d;subst c;simp only[stepG.exec];rw[Tq f];simp[stepG.oper,Frame.oper?,g]
def Ea(T:dn P ext){n:Next}(h:sH P ext x=some n):∃o,(x.1.kind == .early)=false/\(∀(C:Tz) (w:S7),stepG P main ⟨x.1,C,st,none,off⟩ w=stepG.apply P true x.1 C none (execOp x.1.eval o) w)/\∀w,(execOp x.1.eval o).runT P w #[]=(.ok n w,#[]):=by
 obtain⟨fr,cs⟩:=x;have key:∀(ops:Tv Oper) (i:Nat) (Tp:TA) (k:Tb Item),fr.todo=.inRegion ops (i::Tp)::k->fr.mode=.run->fr.roundOf=none->(fr.kind == .early)=false->
  (if ((ops[i]?).map (Region.wanted · (yielded ops fr.tmps))).getD false then
   match ops[i]? with
   |some o=>match kZ P (nn ext fr o) []with
    |some (n,[])=>some n
    |_=>none
   |none=>none
  else none)=some n->∃o,(fr.kind == .early)=false/\(∀(C:Tz) (w:S7),stepG P main ⟨fr,C,st,none,off⟩ w=stepG.apply P true fr C none (execOp fr.eval o) w)/\∀w,(execOp fr.eval o).runT P w #[]=(.ok n w,#[]):=by
  intro ops i Tp k p hm m l h;split at h
  .rename_i q
   rcases j:ops[i]? with _|o
   .rw[j]at h;cases h
   rw[j]at h;dsimp only at h;split at h
   .rename_i c9 e
    cases h;exact⟨o,l,λC w=>Ep p hm m q j,λw=>(Aa T fr o w #[]).trans (qW e (.nil w))⟩
   .cases h
  .cases h
 unfold sH at h;dsimp only at h;split at h
 .rename_i c d f g
  exact key _ _ _ _ g f d (by rw[c];rfl) h
 .rename_i c d f g
  exact key _ _ _ _ g f d (by rw[c];rfl) h
 .cases h
def I1(T:dn P ext){cases:Tv CommCase}{b:Ta}{bK:CommShape}(h:sH P ext x=some (.comm cases b bK))(C:Tz)(w:S7):
 stepG P main ⟨x.1,C,st,none,off⟩ w=.comm (Tk x.1 C) cases b bK w:=by
 let⟨o,f,c,d⟩:=Ea (main:=main) (st:=st) (off:=off) T h;rw[c];simp[stepG.apply,d w,f,GStep.after,qg]
def Pg(T:dn P ext){f:Fn}{c a:Te}(h:sH P ext x=some (.spawn ⟨.fn f c,a⟩))(C:Tz)(w:S7):
 stepG P main ⟨x.1,C,st,none,off⟩ w=.spawn (Tk (x.1.finish undef) C)
  (Tk ({(default:TB)with fn:=P.funcs.size,defers:=[⟨.fn f c,a⟩],mode:=.panicking [goexitEntry]}) []) w:=by
 let⟨o,i,d,g⟩:=Ea (main:=main) (st:=st) (off:=off) T h;rw[d];simp[stepG.apply,g w,i,GStep.after,qg]
def R2(T:dn P ext){l:Tb cD}(h:Bm P ext x as=some l)(C:Tz){es:TE}(hd:Does w l w es):
 stepG P main ⟨x.1,C,st,none,off⟩ w=.go ⟨x.1,C,.blocked,none,none⟩ w:=by
 obtain⟨fr,cs⟩:=x;have key:∀(ops:Tv Oper) (i:Nat) (Tp:TA) (k:Tb Item),fr.todo=.inRegion ops (i::Tp)::k->fr.mode=.run->fr.roundOf=none->(fr.kind == .early)=false->
  (if ((ops[i]?).map (Region.wanted · (yielded ops fr.tmps))).getD false then
   match ops[i]? with
   |some o=>match pR P (nn ext fr o) as with
    |some (.blocked,l)=>some l
    |_=>none
   |none=>none
  else none)=some l->stepG P main ⟨fr,C,st,none,off⟩ w=.go ⟨fr,C,.blocked,none,none⟩ w:=by
  intro ops i Tp k q hm p m h;split at h
  .rename_i r
   rcases j:ops[i]? with _|o
   .rw[j]at h;cases h
   rw[j]at h;dsimp only at h;split at h
   .rename_i aN e
    cases h;have n:=(Aa T fr o w #[]).trans (Kl (acc:=#[]) e hd);rw[Ep q hm p r j];simp[stepG.apply,n,m,GStep.after,qg]
   .cases h
  .cases h
 unfold Bm at h;dsimp only at h;split at h
 .rename_i c d f g
  exact key _ _ _ _ g f d (by rw[c];rfl) h
 .rename_i c d f g
  exact key _ _ _ _ g f d (by rw[c];rfl) h
 .cases h
def Jz{d:Tb PanicEntry}{e:PanicEntry}(hm:fr.mode=.panicking (e::d))(h:e.goexit=true)(hd:fr.defers = [])(c:P.funcs[fr.fn]?=none->fr.todo = [])(w:S7):
 stepG P main ⟨fr,[],st,none,off⟩ w=.go ⟨fr,[],.finished,none,none⟩ w:=by
 obtain⟨fn,tmps,todo,defers,mode,Tl,ro⟩:=fr;dsimp only at hm hd c;subst hm;subst hd;have f:Frame.catches P ⟨fn,tmps,todo,[],.panicking (e::d),Tl,ro⟩=false:=by
  unfold Frame.catches;dsimp only;cases g:P.funcs[fn]? with
  |some _=>rfl
  |none=>rw[c g]
 simp[stepG,unwind,f,h]
end
section
variable(P:To)(ext:Ext)(lift:Tw->Ta)
def zX(n:Nat)(x:bA)(as:Tb dO):TI (bA×Tb cD):=mv P ext lift (nk P ext lift n x) as
def sF(n:Nat)(x:bA)(as:Tb dO):bA:=match zX P ext lift n x as with
 |some (y,_)=>y
 |none=>x
def z1(n:Nat)(x:bA)(as:Tb dO):TI (Tb cD):=(zX P ext lift n x as).map (·.2)
def l5(m:Region.Mode)(ops:Tv Oper):Nat->Tv Ta->TA->Tb TA
 | 0,_,acc=>[acc.reverse]
 |fuel+1,listed,acc=>
  match (List.range ops.size).filter λi=>!listed.getD i true && ((ops[i]?).map (·.after.all λe=>!Region.binds m e||listed.getD e.on false)).getD false with
  | []=>[acc.reverse]
  |rs=>rs.flatMap λi=>l5 m ops fuel (listed.setIfInBounds i true) (i::acc)
def sQ(m:Region.Mode)(ops:Tv Oper):Tb TA:=l5 m ops ops.size (Array.replicate ops.size false) []
def LF(m:Region.Mode)(ops:Tv Oper)(t:Nat):Region.linearise m ops t∈sQ m ops:=by
 have key:∀(fuel t:Nat) (listed:Tv Ta) (acc:TA),Region.linearise.go m ops fuel t listed acc∈l5 m ops fuel listed acc:=by
  intro fuel;induction fuel with
  |zero=>intro t listed acc;simp[Region.linearise.go,l5]
  |succ fuel d=>
   intro t listed acc;unfold Region.linearise.go l5;dsimp only;generalize (List.range ops.size).filter (λi=>!listed.getD i true && ((ops[i]?).map (·.after.all λe=>!Region.binds m e||listed.getD e.on false)).getD false)=rs;cases rs with
   |nil=>simp
   |cons a rs=>
    have c:t%(a::rs).length<(a::rs).length:=Nat.mod_lt _ aF;rw[Ui c];dsimp only;rw[List.mem_flatMap];exact⟨_,List.getElem_mem c,d _ _ _⟩
 exact key _ _ _ _
def OM(ops:Tv Oper)(t:Nat):Region.schedule true ops t∈sQ .any ops:=by unfold Region.schedule;simp only[Bool.true_or,if_true];exact LF _ _ _
def sP(id:Nat):Code->TI (Tv Oper)
 |.region i ops _=>if i=id then some ops else none
 |.seq a b=>match sP id a with
  |some x=>some x
  |none=>sP id b
 |.cond _ a b=>match sP id a with
  |some x=>some x
  |none=>sP id b
 |.block _ b |.loop b |.scope b=>sP id b
 |_=>none
def opsOf(fn:TF)(id:Nat):Tv Oper:=(fn.body.bind (sP id)).getD #[]
end
def r4(p:TA->Prop):Tb TA->Prop
 | []=>True
 |l::L=>p l/\r4 p L
def r4.mem{p:TA->Prop}:∀{L:Tb TA},r4 p L->∀l∈L,p l:=by
 intro L;induction L with
 |nil=>intro _ l h;cases h
 |cons a L c=>
  intro h l aj;rcases List.mem_cons.1 aj with rfl|aj
  .exact h.1
  .exact c h.2 l aj
def re{ext:Ext}{lift:Tw->Ta}{n:Nat}{c:Tb cD}(h:z1 P ext lift n x as=some c):mv P ext lift (nk P ext lift n x) as=some (sF P ext lift n x as,c):=by
 unfold z1 at h;rcases e:zX P ext lift n x as with _|⟨y,l⟩
 .rw[e]at h;cases h
 .rw[e]at h
  cases h;have:sF P ext lift n x as=y:=by unfold sF;rw[e]
  rw[this];exact e
end
end Go.aO
namespace Go.aO
variable{r:Nat}{ai ρ:Ren}{i j v w x y:S9}{a b c d:TD}{l m:Tv (Nat×S9)}
section
def bare:Nat->S9->Ta
 | 0,_=>false
 |_+1,.bool _|_+1,.int .. |_+1,.string _|_+1,.pointer none|_+1,.slice none _ _|_+1,.map none|_+1,.chan none|_+1,.nilFunc|_+1,.nilIface=>true
 |n+1,.iface _ v=>bare n v
 |n+1,.agg a|n+1,.tuple a=>a.all (bare n)
 |_+1,_=>false
def BV{n:Nat}(g:∀v,bare n v=true->aQ ρ v v){a:Te}(h:a.all (bare n)=true):∀(i:Nat) x y,a[i]?=some x->a[i]?=some y->aQ ρ x y:=by intro i x y c f;rw[c]at f;cases f;refine g x ?_;have d:=bu c;rw[Array.all_eq_true]at h;have:=h i d;rw[fb d]at c;simpa [bD c]using this
def BW:∀(n:Nat) (v:S9),bare n v=true->aQ ρ v v:=by
 intro n;induction n with
 |zero=>intro v h;simp[bare]at h
 |succ n d=>
  intro v h;cases v with
  |bool b=>exact .bool b
  |int k m=>exact .int k m
  |float k m=>simp[bare]at h
  |complex k a b=>simp[bare]at h
  |string s=>exact .string s
  |pointer a=>cases a with
   |none=>exact .jH
   |some a=>simp[bare]at h
  |slice a l c=>cases a with
   |none=>exact .kr l c
   |some a=>simp[bare]at h
  |map a=>cases a with
   |none=>exact .p5
   |some a=>simp[bare]at h
  |chan a=>cases a with
   |none=>exact .qP
   |some a=>simp[bare]at h
  |nilFunc=>exact .nilFunc
  |nilIface=>exact .nilIface
  |iface t v=>exact .iface t (d v (by simpa [bare]using h))
  |agg a=>exact .agg S6 (BV d (by simpa [bare]using h))
  |tuple a=>exact .tuple S6 (BV d (by simpa [bare]using h))
  |func f a c=>simp[bare]at h
def eK(Q:To)(f:Tw):TN:=match Q.funcs[f]? with
 |some fn=>if fn.endLine=1000000007 then some fn.nfree else none
 |none=>none
def ni(Q:To):Ta:=match Q.funcs[1]? with
 |some fn=>fn.endLine == 1000000008 && (Q.info? 1000000000).isNone
 |none=>false
def lO(Q:To)(t:Tg):Ta:=match Q.info? t with
 |some i=>match i.zero with|some v=>bare 64 v|none=>true
 |none=>true
section
variable{Q P:To}{ρ:Ren}
structure Same(Q P:To):Prop where
 tables:Q.toTables=P.toTables
def Same.info(h:Same Q P)(t:Tg):Q.info? t=P.info? t:=by obtain⟨T,f⟩:=Q;obtain⟨fo,c⟩:=P;obtain⟨h⟩:=h;simp at h;subst h;rfl
def Same.under(h:Same Q P)(t:Tg):Q.underlying t=P.underlying t:=by obtain⟨T,f⟩:=Q;obtain⟨fo,c⟩:=P;obtain⟨h⟩:=h;simp at h;subst h;rfl
def Same.rt(h:Same Q P):Q.rt=P.rt:=by obtain⟨T,f⟩:=Q;obtain⟨fo,c⟩:=P;obtain⟨h⟩:=h;simp at h;subst h;rfl
def Same.globals(h:Same Q P):Q.globals=P.globals:=by obtain⟨T,f⟩:=Q;obtain⟨fo,c⟩:=P;obtain⟨h⟩:=h;simp at h;subst h;rfl
def Same.follows(h:Same Q P)(d:Departure):Q.follows d=P.follows d:=by obtain⟨T,f⟩:=Q;obtain⟨fo,c⟩:=P;obtain⟨h⟩:=h;simp at h;subst h;rfl
def ec{α:Type}(p:α->Prop):Ren->α->α->Prop:=λ_ a b=>a=b/\p a
def mP{α β:Type}{A:Ren->α->β->Prop}{f:To->Sem α}{g:To->Sem β}(h:a2 Q P A (f Q) ρ (g P)):a2 Q P A (Go.program >>= f) ρ (Go.program >>= g):=.inr ⟨_,S6,h⟩
def gD(S:Same Q P)(t:Tg):a2 Q P (ec λd=>Q.underlying t=some d) (underlying t) ρ (underlying t):=by
 unfold underlying;refine mP ?_;rw[<-S.under t];split
 .rename_i d hd
  exact .ret ⟨S6,hd⟩
 .exact .stuck
def nA(S:Same Q P)(t:Tg):a2 Q P (ec λd=>Q.info? t=some d) (typeInfo t) ρ (typeInfo t):=by
 unfold typeInfo;refine mP ?_;rw[<-S.info t];split
 .rename_i d hd
  exact .ret ⟨S6,hd⟩
 .exact .stuck
def jS(S:Same Q P)(t:Tg):a2 Q P (ec λn=>∃i,Q.info? t=some i/\i.size=n) (sizeOf t) ρ (sizeOf t):=by unfold sizeOf;refine(nA S t).a8 ?_;rintro ai a b _ ⟨rfl,h⟩;exact .ret ⟨S6,a,h,S6⟩
def rz(S:Same Q P)(t:Tg)(c:lO Q t=true):a2 Q P aQ (zeroValue t) ρ (zeroValue t):=by
 unfold zeroValue;refine(nA S t).a8 ?_;rintro ai a b _ ⟨rfl,h⟩;unfold lO at c;rw[h]at c;simp only at c;split
 .rename_i v d
  rw[d]at c;exact .ret (BW 64 v c)
 .trivial
def FV(S:Same Q P)(t:Tg):a2 Q P (ec λ_=>True) (isAgg t) ρ (isAgg t):=by unfold isAgg;refine(gD S t).a8 ?_;rintro ai a b _ ⟨rfl,h⟩;split<;>exact .ret ⟨S6,Tf⟩
def ds.add(h:ds ρ a b)(n:Nat):ds ρ (a.add n) (b.add n):=by
 unfold Addr.add;split
 .exact h
 .exact⟨h.block,by simp[h.off],S6⟩
def bQ.push{a b:Te}(h:bQ ρ a b)(k:aQ ρ x y):bQ ρ (a.push x) (b.push y):=by
 refine⟨by simp[h.1],λi u v hu c=>?_⟩;rw[iq]at hu c;by_cases d:i=a.size
 .rw[Tq d]at hu;rw[Tq (by rw[d,h.1])]at c
  cases hu;cases c;exact k
 .rw[Tm d]at hu;rw[Tm (by rw[<-h.1];exact d)]at c
  exact h.2 i u v hu c
def bQ.nil:bQ ρ #[] #[]:=⟨S6,aF⟩
def bQ.get?{a b:Te}(h:bQ ρ a b)(i:Nat):(∃x y,a[i]?=some x/\b[i]?=some y/\aQ ρ x y)\/(a[i]?=none/\b[i]?=none):=by
 by_cases c:i<a.size
 .have d:i<b.size:=by rw[<-h.1];exact c
  exact .inl ⟨a[i],b[i],fb c,fb d,h.2 i _ _ (fb c) (fb d)⟩
 .exact .inr ⟨Um U,Um (by rw[<-h.1];omega)⟩
def om(h:aQ ρ x y):bQ ρ #[x] #[y]:=by
 refine⟨S6,λi a b c d=>?_⟩;rcases i with _|i
 .simp at c d;subst c;subst d;exact h
 .simp at c
def rI(h:aQ ρ v w):bQ ρ v.cells w.cells:=by
 cases h with
 |agg f g=>exact⟨f,g⟩
 |gI d h=>
  have e:w.cells=#[w]:=by
   cases w with
   |agg c=>exact h.elim
   |_=>rfl
  rw[e];exact om (.gI d h)
 |k9 d=>exact om (.k9 d)
 |ju d i=>exact om (.ju d i)
 |_=>exact om (by constructor<;>assumption)
def bQ.append{a b c d:Te}(h:bQ ρ a b)(k:bQ ρ c d):bQ ρ (a++c) (b++d):=by
 refine⟨by simp[h.1,k.1],λi x y g f=>?_⟩;rw[Array.getElem?_append]at g f;rw[<-h.1]at f;by_cases j:i<a.size
 .rw[Tq j]at g f;exact h.2 i x y g f
 .rw[Tm j]at g f;exact k.2 _ x y g f
def bQ.extract{a b:Te}(h:bQ ρ a b)(i j:Nat):bQ ρ (a.extract i j) (b.extract i j):=by
 refine⟨by simp[h.1],λk x y c d=>?_⟩;rw[Array.getElem?_extract]at c d;rw[<-h.1]at d;split at c
 .rename_i f
  rw[Tq f]at d;exact h.2 _ x y c d
 .cases c
def bQ.set{a b:Te}(h:bQ ρ a b)(i:Nat)(k:aQ ρ x y):bQ ρ (a.setIfInBounds i x) (b.setIfInBounds i y):=by
 refine⟨by simp[h.1],λj u v hu c=>?_⟩;rw[Array.getElem?_setIfInBounds]at hu c;by_cases d:i=j
 .subst d
  simp only[if_true]at hu c;rw[<-h.1]at c;by_cases f:i<a.size
  .rw[Tq f]at hu c;cases hu;cases c;exact k
  .rw[Tm f]at hu;cases hu
 .rw[Tm d]at hu c
  exact h.2 j u v hu c
def AY(h:ds ρ a b)(m:Mode):a2 Q P aQ (load a m) ρ (load b m):=.inr ⟨b,_,S6,h,λv d c=>⟨d,S6,c⟩⟩
def F6(h:ds ρ a b)(k:aQ ρ v w)(m:Mode):a2 Q P (ec λ_=>True) (store a v m) ρ (store b w m):=.inr ⟨b,w,_,S6,h,k,(),S6,S6,Tf⟩
def PU:∀(n i:Nat) {ρ:Ren} {x y:Te},ds ρ a b->bQ ρ x y->a2 Q P bQ (loadCellsFrom a i n x) ρ (loadCellsFrom b i n y):=by
 intro n;induction n with
 |zero=>intro i ρ x y _ h;exact .ret h
 |succ n g=>
  intro i ρ x y c h;refine(AY (c.add i) .plain).a8 ?_;intro ai u v d f;exact g (i+1) (c.mono d) ((h.mono d).push f)
def FW(h:ds ρ a b)(n:Nat):a2 Q P bQ (loadCells a n) ρ (loadCells b n):=PU n 0 h .nil
def F7:∀(l m:TP) (i:Nat) {ρ:Ren},ds ρ a b->cK (aQ ρ) l m->a2 Q P (ec λ_=>True) (storeCells a l i) ρ (storeCells b m i):=by
 intro l;induction l with
 |nil=>intro m i ρ _ h;cases h;exact .ret ⟨S6,Tf⟩
 |cons x l j=>
  intro m i ρ c h;cases h with
  |cons g f=>
   refine(F6 (c.add i) g .plain).a8 ?_;intro ai _ _ d _;exact j _ (i+1) (c.mono d) (f.mono λ_ _ k=>k.mono d)
def DU{R:S9->S9->Prop}:∀{l m:TP},l.length=m.length->(∀(i:Nat) x y,l[i]?=some x->m[i]?=some y->R x y)->cK R l m
 | [],[],_,_=>.nil
 |a::l,b::m,h,k=>.cons (k 0 a b S6 S6) (DU (by simpa using h) λi x y c d=>k (i+1) x y (by simpa using c) (by simpa using d))
 | [],_::_,h,_=>by simp at h
 |_::_,[],h,_=>by simp at h
def bQ.toList{a b:Te}(h:bQ ρ a b):cK (aQ ρ) a.toList b.toList:=
 DU (by simp[h.1]) λi x y c d=>h.2 i x y (by simpa using c) (by simpa using d)
def FX(S:Same Q P)(t:Tg)(h:ds ρ a b):a2 Q P aQ (loadVar t a) ρ (loadVar t b):=by
 unfold loadVar;refine(FV S t).a8 ?_;rintro ai x y c ⟨rfl,_⟩;split
 .refine(jS S t).a8 ?_
  rintro aR n m d ⟨rfl,_⟩;refine(FW (h.mono (Ren.le_trans c d)) n).a8 ?_;intro g u v _ f;exact .ret (tl f)
 .exact AY (h.mono c) .plain
def Qg(S:Same Q P)(t:Tg)(h:ds ρ a b)(k:aQ ρ v w):a2 Q P (ec λ_=>True) (storeVar t a v) ρ (storeVar t b w):=by
 unfold storeVar;refine(jS S t).a8 ?_;rintro ai x y d ⟨rfl,_⟩;have c:=rI (k.mono d);rw[<-c.1];split
 .exact .stuck
 .exact F7 _ _ 0 (h.mono d) c.toList
def MG{c d:Te}(h:bQ ρ c d)(e:Tg):eZ ρ (.cells c e) (.cells d e):=.cells (.inl h.1) h.2 (.inl S6)
def s7{o c:Obj}(h:eZ ρ o c):a2 Q P (λai r d=>ai.r r d) (newObj o) ρ (newObj c):=.inr ⟨c,_,S6,h,λai r d _ f=>⟨d,S6,f⟩⟩
def xT{c d:Te}(h:bQ ρ c d)(e:Tg):a2 Q P ds (newRow e c) ρ (newRow e d):=by unfold newRow;refine(s7 (MG h e)).a8 ?_;intro ai r g _ f;exact .ret ⟨f,S6,S6⟩
def F3(h:aQ ρ v w)(e:Tg):a2 Q P ds (newVar e v) ρ (newVar e w):=xT (rI h) e
def s8(S:Same Q P)(t:Tg){c d:Te}(h:bQ ρ c d)(off:Nat):a2 Q P aQ (part t c off) ρ (part t d off):=by
 unfold part;refine(FV S t).a8 ?_;rintro ai x y i ⟨rfl,_⟩;split
 .refine(jS S t).a8 ?_
  rintro aR n m l ⟨rfl,_⟩;exact .ret (tl ((h.mono (Ren.le_trans i l)).extract off _))
 .rcases h.get? off with⟨u,v,f,g,j⟩|⟨f,g⟩
  .rw[f,g];exact .ret (j.mono i)
  .rw[f,g];exact .stuck
def xU{α β:Type}{A:Ren->α->β->Prop}(h:aQ ρ v w):a2 Q P A (goPanic v) ρ (goPanic w):=⟨w,S6,h⟩
def RR{a b c d h bp l:S9}(m:aQ ρ a h)(n:aQ ρ b j)(o:aQ ρ c bp)(p:aQ ρ d l):aQ ρ (.agg #[a,b,c,d]) (.agg #[h,j,bp,l]):=by
 refine tl ⟨S6,λi x y f g=>?_⟩;match i with
 | 0=>simp at f g;subst f;subst g;exact m
 | 1=>simp at f g;subst f;subst g;exact n
 | 2=>simp at f g;subst f;subst g;exact o
 | 3=>simp at f g;subst f;subst g;exact p
 |i+4=>simp at f
def EP:RuntimeError->Ta
 |.bounds .. |.error _ |.plain _ |.nilDeref=>true
 |_=>false
def jR(S:Same Q P){α β:Type}{A:Ren->α->β->Prop}(e:RuntimeError)(he:EP e=true):a2 Q P A (runtimePanic e:Sem α) ρ (runtimePanic e:Sem β):=by
 unfold runtimePanic;refine mP ?_;rw[<-S.rt];cases e with
 |bounds x y s c=>exact xU (.iface _ (RR (.int _ _) (.int _ _) (.bool _) (.int _ _)))
 |error m=>exact xU (.iface _ (.string _))
 |plain m=>exact xU (.iface _ (.string _))
 |nilDeref=>exact xU (.iface _ (.string _))
 |_=>simp[EP]at he
def s5(q:Question):a2 Q P (ec λ_=>True) (choose q) ρ (choose q):=.inr (.inl ⟨_,S6,λn=>⟨n,S6,S6,Tf⟩⟩)
def s4(S:Same Q P){α β:Type}{A:Ren->α->β->Prop}(k:IntKind)(x y:Int)(c:BoundsCode):a2 Q P A (boundsPanic k x y c:Sem α) ρ (boundsPanic k x y c:Sem β):=by
 unfold boundsPanic;dsimp only;split
 .refine a2.a8 (A:=ec λ_=>True) ?_ ?_
  .refine a2.bind (A:=ec λ_=>True) (s5 _) ?_
   rintro ai a b _ ⟨rfl,_⟩;exact .ret ⟨S6,Tf⟩
  .rintro ai a b _ ⟨rfl,_⟩
   exact jR S (.bounds _ _ _ _) S6
 .refine a2.a8 (A:=ec λ_=>True) (.ret ⟨S6,Tf⟩) ?_
  rintro ai a b _ ⟨rfl,_⟩;exact jR S (.bounds _ _ _ _) S6
def xQ(h:aQ ρ v w):a2 Q P (ec λc=>v=.int c.1 c.2) (asIntOf v) ρ (asIntOf w):=by cases h<;>first|exact .ret ⟨S6,S6⟩|exact .stuck|trivial
def AR(h:aQ ρ v w):a2 Q P (ec λn=>∃k,v=.int k n) (asInt v) ρ (asInt w):=by unfold asInt;refine(xQ h).a8 ?_;rintro ai ⟨k,n⟩ b _ ⟨rfl,c⟩;exact .ret ⟨S6,k,c⟩
def AQ(h:aQ ρ v w):a2 Q P (ec λb=>v=.bool b) (asBool v) ρ (asBool w):=by cases h<;>first|exact .ret ⟨S6,S6⟩|exact .stuck
def Pp(h:aQ ρ v w):a2 Q P bQ (asAgg v) ρ (asAgg w):=by
 cases h with
 |agg c d=>exact .ret ⟨c,d⟩
 |_=>exact .stuck
def xP(S:Same Q P)(h:aQ ρ v w):a2 Q P ds (asAddr v) ρ (asAddr w):=by
 cases h with
 |ptr a=>exact .ret a
 |jH=>exact jR S .nilDeref S6
 |_=>exact .stuck
def uU(h:aQ ρ v w):a2 Q P ds (Instr.sureAddr v) ρ (Instr.sureAddr w):=by
 cases h with
 |ptr a=>exact .ret a
 |_=>exact .stuck
end
end
section
section
variable{Q P:To}{ρ:Ren}
def Pn(S:Same Q P)(t:Tg)(d:lO Q t=true):a2 Q P aQ (Instr.alloc t true v) ρ (Instr.alloc t true w):=by unfold Instr.alloc;refine(rz S t d).a8 ?_;intro ai a b _ h;refine a2.a8 (F3 h t) ?_;intro aR x y _ c;exact .ret (.ptr c)
def Pu(h:aQ ρ v w)(t:Tg):a2 Q P aQ (Instr.box t v) ρ (Instr.box t w):=by unfold Instr.box;refine(F3 h t).a8 ?_;intro aR x y _ c;exact .ret (.ptr c)
def RU{a b:Te}(h:bQ ρ a b):∀(l m:Tb (S9×Nat)) (off:Nat),cK (λx y=>aQ ρ x.1 y.1/\x.2=y.2) l m->bQ ρ (l.foldl (λcs (c,j)=>cs.setIfInBounds (off+j) c) a) (m.foldl (λcs (c,j)=>cs.setIfInBounds (off+j) c) b):=by
 intro l;induction l generalizing a b with
 |nil=>intro m off k;cases k;exact h
 |cons x l g=>
  intro m off k;cases k with
  |cons d f=>
   obtain⟨d,e⟩:=d;simp only[List.foldl_cons];rw[<-e];exact g (h.set _ d) _ off f
def RY{a b:Te}(h:bQ ρ a b):cK (λx y=>aQ ρ x.1 y.1/\x.2=y.2) a.zipIdx.toList b.zipIdx.toList:=by
 have:∀(l m:Tb (S9×Nat)),l.length=m.length->(∀(i:Nat) x y,l[i]?=some x->m[i]?=some y->aQ ρ x.1 y.1/\x.2=y.2)->cK (λx y=>aQ ρ x.1 y.1/\x.2=y.2) l m:=by
  intro l;induction l with
  |nil=>intro m c _;cases m with
   |nil=>exact .nil
   |cons=>simp at c
  |cons x l j=>intro m c k;cases m with
   |nil=>simp at c
   |cons y m=>exact .cons (k 0 x y S6 S6) (j m (by simpa using c) λi u v hu d=>k (i+1) u v (by simpa using hu) (by simpa using d))
 refine this _ _ (by simp[h.1]) ?_;intro i x y f g;simp at f g;obtain⟨u,hu,rfl⟩:=f;obtain⟨v,d,rfl⟩:=g;exact⟨h.2 i u v hu d,S6⟩
def zh(place:Nat->T8):∀(l m:Tb (Nat×S9)) {a b:Te},bQ ρ a b->cK (λx y=>x.1=y.1/\aQ ρ x.2 y.2) l m->
 fl (bQ ρ) (Instr.fill place a l) (Instr.fill place b m):=by
 intro l;induction l with
 |nil=>intro m a b h k;cases k;exact .some h
 |cons x l o=>
  intro m a b h k;cases k with
  |@cons _ y _ m n f=>
   obtain⟨i,v⟩:=x;obtain⟨j,w⟩:=y;obtain⟨rfl,g⟩:=n;simp only[Instr.fill];cases place i with
   |none=>exact .none
   |some p=>
    obtain⟨off,size⟩:=p;have c:=rI g;simp only;rw[<-c.1,<-h.1];split
    .exact .none
    .have d:=RU h v.cells.zipIdx.toList w.cells.zipIdx.toList off (RY c)
     simp only[Array.foldl_toList]at d;exact o m d f
def Al(h:gb (λx y=>x.1=y.1/\aQ ρ x.2 y.2) l m):cK (λx y=>x.1=y.1/\aQ ρ x.2 y.2) l.toList m.toList:=by
 have:∀(l m:Tb (Nat×S9)),l.length=m.length->(∀(i:Nat) x y,l[i]?=some x->m[i]?=some y->x.1=y.1/\aQ ρ x.2 y.2)->cK (λx y=>x.1=y.1/\aQ ρ x.2 y.2) l m:=by
  intro l;induction l with
  |nil=>intro m c _;cases m with
   |nil=>exact .nil
   |cons=>simp at c
  |cons x l j=>intro m c k;cases m with
   |nil=>simp at c
   |cons y m=>exact .cons (k 0 x y S6 S6) (j m (by simpa using c) λi u v hu d=>k (i+1) u v (by simpa using hu) (by simpa using d))
 exact this _ _ (by simp[h.1]) λi x y f g=>h.2 i x y (by simpa using f) (by simpa using g)
def Ak(c:ρ.le ai){l m:Tb (Nat×S9)}(h:cK (λx y=>x.1=y.1/\aQ ρ x.2 y.2) l m):cK (λx y=>x.1=y.1/\aQ ai x.2 y.2) l m:=
 h.mono λ_ _ k=>⟨k.1,k.2.mono c⟩
def P0{α β g4:Type}{A:Ren->β->g4->Prop}(f:α->Sem β)(g:α->Sem g4)(hn:∀(ai aR:Ren) b c,ai.le aR->A ai b c->A aR b c)(i:∀(ai:Ren) x,a2 Q P A (f x) ai (g x)):
 ∀(l:Tb α) (ρ:Ren),a2 Q P (λai=>cK (A ai)) (l.mapM f) ρ (l.mapM g):=by
 intro l;induction l with
 |nil=>intro ρ;simp only[List.mapM_nil];exact .ret .nil
 |cons x l m=>
  intro ρ;rw[List.mapM_cons,List.mapM_cons];refine(i ρ x).a8 ?_;intro ai b c _ h;refine(m ai).a8 ?_;intro aR n cs j d;exact .ret (.cons (hn ai aR b c j h) d)
def FY{α β g4 mc:Type}{A:Ren->α->β->Prop}{B:Ren->g4->mc->Prop}{s:Sem α}{aX:Sem β}{f:α->g4}{g:β->mc}(h:a2 Q P A s ρ aX)(k:∀(ai:Ren) a b,ρ.le ai->A ai a b->B ai (f a) (g b)):
 a2 Q P B (Functor.map f s) ρ (Functor.map g aX):=a2.bind h λai a b d c=>⟨_,S6,k ai a b d c⟩
def cK.eq{α:Type}{l m:Tb α}(h:cK (λa b=>a=b) l m):l=m:=by
 induction h with
 |nil=>rfl
 |cons e _ c=>rw[e,c]
def P'(S:Same Q P)(fields:Tv Field):a2 Q P (ec λ_=>True) (fields.mapM λf=>do pure (f.offset,<-sizeOf f.type)) ρ (fields.mapM λf=>do pure (f.offset,<-sizeOf f.type)):=by
 rw[Array.mapM_eq_mapM_toList];refine FY (P0 (A:=λ_ a b=>a=b) _ _ (λ_ _ _ _ _ h=>h) (λai f=>?_) _ ρ) ?_
 .refine(jS S f.type).a8 ?_
  rintro aR a b _ ⟨rfl,_⟩;exact .ret S6
 .intro ai a b _ h
  exact⟨by rw[h.eq],Tf⟩
def Pv(S:Same Q P)(t:Tg)(p:lO Q t=true)(h:gb (λx y=>x.1=y.1/\aQ ρ x.2 y.2) l m):
 a2 Q P aQ (Instr.build t l) ρ (Instr.build t m):=by
 unfold Instr.build;refine(rz S t p).a8 ?_;intro ai a b n o;have j:=rI o;refine(gD S t).a8 ?_;rintro aR d r g ⟨rfl,_⟩;split
 .refine(P' S _).a8 ?_
  rintro q x y f ⟨rfl,_⟩;have c:=zh (x[·]?) l.toList m.toList (j.mono (Ren.le_trans g f)) (Ak (Ren.le_trans n (Ren.le_trans g f)) (Al h));revert c;generalize Instr.fill (x[·]?) a.cells l.toList=u;generalize Instr.fill (x[·]?) b.cells m.toList=v;intro c;cases c with
  |none=>exact .stuck
  |some k=>exact .ret (tl k)
 .refine(jS S _).a8 ?_
  rintro q x y f ⟨rfl,_⟩;have c:=zh (λi=>some (i*x,x)) l.toList m.toList (j.mono (Ren.le_trans g f)) (Ak (Ren.le_trans n (Ren.le_trans g f)) (Al h));revert c;generalize Instr.fill (λi=>some (i*x,x)) a.cells l.toList=u;generalize Instr.fill (λi=>some (i*x,x)) b.cells m.toList=v;intro c;cases c with
  |none=>exact .stuck
  |some k=>exact .ret (tl k)
 .exact .stuck
def Bj{a b:Te}(h:bQ ρ a b)(hd:aQ ρ (default:S9) default)(n:Nat):bQ ρ ((Array.range n).map (a[· % a.size]!)) ((Array.range n).map (b[· % b.size]!)):=by
 refine⟨aF,λi x y g l=>?_⟩;simp only[Uk,Ux]at g l;obtain⟨j,o,rfl⟩:=g;obtain⟨k,f,rfl⟩:=l;rw[o]at f;cases f;rw[<-h.1];rcases h.get? (j%a.size)with⟨u,v,c,d,m⟩|⟨c,d⟩
 .simp[getElem!_def,c,d,m]
 .simp[getElem!_def,c,d,hd]
def Bh:aQ ρ (default:S9) default:=.bool _
def Pw(S:Same Q P)(t:Tg)(n:Nat)(C:∀e,Q.underlying t=some (.slice e)->lO Q e=true)(h:gb (λx y=>x.1=y.1/\aQ ρ x.2 y.2) l m):
 a2 Q P aQ (Instr.buildSlice t n l) ρ (Instr.buildSlice t n m):=by
 unfold Instr.buildSlice;refine(gD S t).a8 ?_;rintro ai d D r ⟨rfl,hd⟩;split
 .rename_i e
  refine(jS S _).a8 ?_;rintro aR x y w ⟨rfl,_⟩;dsimp only;split
  .trivial
  .have Tp:∀(f:Ren) (z c:Te),aR.le f->bQ f z c->
    a2 Q P aQ (do
     let some cells:=Instr.fill (λi=>some (i*x,x)) ((Array.range (n*x)).map (z[· % z.size]!)) l.toList|Go.stuck "buildSlice: a part of the wrong size"
     pure (.slice (some (<-newRow e cells)) n n)) f (do
     let some cells:=Instr.fill (λi=>some (i*x,x)) ((Array.range (n*x)).map (c[· % c.size]!)) m.toList|Go.stuck "buildSlice: a part of the wrong size"
     pure (.slice (some (<-newRow e cells)) n n)):=by
    intro f z c g j;have p:=zh (λi=>some (i*x,x)) l.toList m.toList (Bj j Bh (n*x)) (Ak (Ren.le_trans r (Ren.le_trans w g)) (Al h));revert p;generalize Instr.fill (λi=>some (i*x,x)) _ l.toList=u;generalize Instr.fill (λi=>some (i*x,x)) _ m.toList=v;intro p;cases p with
    |none=>exact .stuck
    |some k=>
     refine(xT k e).a8 ?_;intro q a b _ o;exact .ret (.slice o n n)
   split
   .refine a2.a8 (A:=bQ) (.ret .nil) ?_
    intro f z c g j;exact Tp f z c g j
   .refine(rz S e (C e hd)).a8 ?_
    intro f a b g o;refine a2.a8 (A:=bQ) (.ret (rI o)) ?_;intro q z c B j;exact Tp q z c (Ren.le_trans g B) j
 .exact .stuck
def PT(S:Same Q P)(t:Tg)(h:aQ ρ v w):a2 Q P aQ (Instr.loadAt t v) ρ (Instr.loadAt t w):=by unfold Instr.loadAt;refine(uU h).a8 ?_;intro ai a b _ c;exact FX S t c
def Qf(S:Same Q P)(t:Tg)(h:aQ ρ v w)(k:aQ ρ x y):a2 Q P (ec λ_=>True) (Instr.storeAt t v x) ρ (Instr.storeAt t w y):=by unfold Instr.storeAt;refine(uU h).a8 ?_;intro ai a b d c;exact Qg S t c (k.mono d)
def zf(Q:To)(t:Tg)(k:Nat):Ta:=match Q.underlying t with
 |some (.struct ba)=>match ba[k]? with
  |some f=>match Q.info? f.type with|some i=>i.size !=0|none=>true
  |none=>true
 |_=>true
def PJ(S:Same Q P){f:Field}(c:∀i,Q.info? f.type=some i->i.size≠0)(h:ds ρ a b):a2 Q P ds (fieldPlace a f) ρ (fieldPlace b f):=by
 unfold fieldPlace;refine(jS S f.type).a8 ?_;rintro ai n m g ⟨rfl,i,d,j⟩;have:n≠0:=by rw[<-j];exact c i d
 rw[Tm this,Tm this];exact .ret ((h.mono g).add _)
def PI(S:Same Q P)(t:Tg)(k:Nat)(c:zf Q t k=true)(h:aQ ρ v w):a2 Q P aQ (Instr.fieldAt t v k) ρ (Instr.fieldAt t w k):=by
 unfold Instr.fieldAt;refine(gD S t).a8 ?_;rintro ai d p n ⟨rfl,hd⟩;split
 .rename_i ba
  cases l:ba[k]? with
  |none=>exact .stuck
  |some f=>
   have j:∀i,Q.info? f.type=some i->i.size≠0:=by intro i m;unfold zf at c;rw[hd]at c;simp only[l,m]at c;simpa using c
   refine(uU (h.mono n)).a8 ?_;intro aR a b _ g;refine(PJ S j g).a8 ?_;intro q x y _ o;exact .ret (.ptr o)
 .exact .stuck
def PH(S:Same Q P)(t:Tg)(k:Nat)(h:aQ ρ v w):a2 Q P aQ (Instr.field t v k) ρ (Instr.field t w k):=by
 unfold Instr.field;refine(gD S t).a8 ?_;rintro ai d g f ⟨rfl,hd⟩;split
 .split
  .refine(Pp (h.mono f)).a8 ?_
   intro aR a b _ c;exact s8 S _ c _
  .exact .stuck
 .exact .stuck
def PM(S:Same Q P)(t:Tg)(h:aQ ρ v w)(k:aQ ρ i j):a2 Q P aQ (Instr.index t v i) ρ (Instr.index t w j):=by
 unfold Instr.index;refine(xQ k).a8 ?_;rintro ai ⟨q,n⟩ b l ⟨rfl,_⟩;refine(gD S t).a8 ?_;rintro aR d p m ⟨rfl,_⟩;have c:=h.mono (Ren.le_trans l m);cases d with
 |array len elem=>
  cases c with
  |agg f g=>
   dsimp only;split
   .refine(jS S _).a8 ?_
    rintro r x y o ⟨rfl,_⟩;exact s8 S _ (bQ.mono o ⟨f,g⟩) _
   .exact s4 S _ _ _ _
  |_=>exact .stuck
 |string=>
  cases c with
  |string s=>
   dsimp only;split
   .exact .ret (.int _ _)
   .exact s4 S _ _ _ _
  |_=>exact .stuck
 |_=>cases c<;>exact .stuck
def PN(S:Same Q P)(t:Tg)(h:aQ ρ v w)(k:aQ ρ i j):a2 Q P aQ (Instr.indexAt t v i) ρ (Instr.indexAt t w j):=by
 unfold Instr.indexAt;refine(xQ k).a8 ?_;rintro ai ⟨q,n⟩ b I ⟨rfl,_⟩;refine(gD S t).a8 ?_;rintro aR d D J ⟨rfl,hd⟩;have u:=h.mono (Ren.le_trans I J);dsimp only;have tail:∀(c:Ren) (a b:TV) (len:Nat) (elem:Tg),aR.le c->fl (ds c) a b->
  a2 Q P aQ (do
   let B:=len<=1 && (match <-underlying t with |.array ..=>true|_=>false);match a with
   |some a=>
    if 0<=n/\n<len then pure (.pointer (some (a.add (n.toNat*(<-sizeOf elem)))))
    else if B then unsupported (.noEntry "op/indexAddr.an index out of range at an array of length 0 or 1 (ledger 616)")
    else boundsPanic q n len .index
   |none=>boundsPanic q n 0 .index) c (do
   let B:=len<=1 && (match <-underlying t with |.array ..=>true|_=>false);match b with
   |some a=>
    if 0<=n/\n<len then pure (.pointer (some (a.add (n.toNat*(<-sizeOf elem)))))
    else if B then unsupported (.noEntry "op/indexAddr.an index out of range at an array of length 0 or 1 (ledger 616)")
    else boundsPanic q n len .index
   |none=>boundsPanic q n 0 .index):=by
  intro c a b len elem g f;refine(gD S t).a8 ?_;rintro C d D o ⟨rfl,_⟩;have H:=f.mono λ_ _ (x:ds c _ _)=>x.mono o
  cases H with
  |none=>exact s4 S _ _ _ _
  |some L=>
   dsimp only;split
   .refine(jS S _).a8 ?_
    rintro T x y K ⟨rfl,_⟩;exact .ret (.ptr ((L.mono K).add _))
   .split
    all_goals
     split
     .trivial
     .exact s4 S _ _ _ _
 cases d with
 |array len elem=>
  dsimp only;refine(uU u).a8 ?_;intro c a b g f;refine a2.a8 (A:=λc (x y:TV×Nat×Tg)=>fl (ds c) x.1 y.1/\x.2=y.2) (.ret ⟨.some f,S6⟩) ?_;rintro C ⟨a,m,l⟩ ⟨b,z,r⟩ o ⟨f,e⟩;cases e;exact tail C a b m l (Ren.le_trans g o) f
 |slice elem=>
  cases u with
  |slice f len cap=>
   refine a2.a8 (A:=λc (x y:TV×Nat×Tg)=>fl (ds c) x.1 y.1/\x.2=y.2) (.ret ⟨.some f,S6⟩) ?_;rintro c ⟨a,m,l⟩ ⟨b,z,r⟩ g ⟨f,e⟩;cases e;exact tail c a b m l g f
  |kr len cap=>
   refine a2.a8 (A:=λc (x y:TV×Nat×Tg)=>fl (ds c) x.1 y.1/\x.2=y.2) (.ret ⟨.none,S6⟩) ?_;rintro c ⟨a,m,l⟩ ⟨b,z,r⟩ g ⟨f,e⟩;cases e;exact tail c a b m l g f
  |ju M R=>
   refine a2.a8 (A:=λc (x y:TV×Nat×Tg)=>(∃p q,x.1=some p/\y.1=some q)/\x.2=(0,elem)/\y.2=(0,elem)) (.ret ⟨⟨_,_,S6,S6⟩,S6,S6⟩) ?_;rintro c ⟨a,m,l⟩ ⟨b,z,r⟩ g ⟨⟨p,q,E,F⟩,e,G⟩;dsimp only at E F;subst E;subst F;cases e;cases G;refine(gD S t).a8 ?_;rintro C d D o ⟨rfl,_⟩;dsimp only;split
   .exact Td ‹_/\_› U
   .split
    all_goals
     split
     .trivial
     .exact s4 S _ _ _ _
  |_=>exact .stuck
 |_=>cases u<;>exact .stuck
def PX(S:Same Q P)(t:Tg)(h:aQ ρ v w):a2 Q P aQ (Instr.makeInterface t v) ρ (Instr.makeInterface t w):=by
 unfold Instr.makeInterface;refine(gD S t).a8 ?_;rintro ai d f c ⟨rfl,hd⟩;split
 .exact .stuck
 .exact .ret (.iface t (h.mono c))
def PY(S:Same Q P)(t:Tg):a2 Q P aQ (Instr.makeMap t none) ρ (Instr.makeMap t none):=by unfold Instr.makeMap;dsimp only;refine a2.a8 (A:=λai r d=>ai.r r d) (s7 (.map ⟨S6,aF⟩ 0)) ?_;intro ai a b _ c;exact .ret (.map c)
def FG(c:ρ.room=true)(n:Nat):a2 Q P (ec λ_=>True) (askRoom n) ρ (askRoom n):=by
 unfold askRoom;split
 .exact .inr ⟨_,_,S6,.noRoom c,_,S6,S6,Tf⟩
 .exact .ret ⟨S6,Tf⟩
def PZ(S:Same Q P)(r:ρ.room=true)(t:Tg)(w:∀e,Q.underlying t=some (.slice e)->lO Q e=true){a b c d:S9}(h:aQ ρ a b)(k:aQ ρ c d):a2 Q P aQ (Instr.makeSlice t a c) ρ (Instr.makeSlice t b d):=by
 unfold Instr.makeSlice;refine(gD S t).a8 ?_;rintro ai u aC l ⟨rfl,hd⟩;split
 .rename_i e
  refine(AR (h.mono l)).a8 ?_;rintro aR len _ o ⟨rfl,_⟩;refine(AR (k.mono (Ren.le_trans l o))).a8 ?_;rintro D cap _ p ⟨rfl,_⟩;refine(nA S e).a8 ?_;rintro E i _ q ⟨rfl,C⟩;dsimp only;split
  .split
   .exact jR S (.error _) S6
   .split
    .exact jR S (.error _) S6
    .refine(s5 _).a8 ?_
     rintro B n _ _ ⟨rfl,_⟩;exact jR S (.error _) S6
  .refine(FG (by rw[q.room,p.room,o.room,l.room];exact r) _).a8 ?_
   rintro B _ _ _ _;refine(jS S e).a8 ?_;rintro F n _ _ ⟨rfl,_⟩;have Tp:∀(g:Ren) (z f:Te),bQ g z f->a2 Q P aQ (do
    let a <-newRow e ((Array.range ((IntKind.i64.wrap cap).toNat*n)).map (z[· % z.size]!));pure (.slice (some a) (IntKind.i64.wrap len).toNat (IntKind.i64.wrap cap).toNat)) g (do
    let a <-newRow e ((Array.range ((IntKind.i64.wrap cap).toNat*n)).map (f[· % f.size]!));pure (.slice (some a) (IntKind.i64.wrap len).toNat (IntKind.i64.wrap cap).toNat)):=by
    intro g z f j;refine(xT (Bj j Bh _) e).a8 ?_;intro _ x y _ m;exact .ret (.slice m _ _)
   split
   .exact a2.a8 (A:=bQ) (.ret .nil) λg z f _ j=>Tp g z f j
   .refine(rz S e (w e hd)).a8 ?_
    intro _ x y _ m;exact a2.a8 (A:=bQ) (.ret (rI m)) λg z f _ j=>Tp g z f j
 .exact .stuck
def PF(h:aQ ρ v w)(k:Nat):a2 Q P aQ (Instr.extract v k) ρ (Instr.extract w k):=by
 cases h with
 |tuple f g=>
  rcases bQ.get? ⟨f,g⟩ k with⟨x,y,c,d,i⟩|⟨c,d⟩
  .simp only[Instr.extract,c,d];exact .ret i
  .simp only[Instr.extract,c];exact .stuck
 |_=>exact .stuck
end
end
section
section
variable{Q P:To}{ρ:Ren}
def xS{α g4:Type}{f g:α->g4->Sem (ForInStep g4)}:∀(l:Tb α),(∀(ai:Ren) x c,x∈l->ρ.le ai->a2 Q P (ec λ_=>True) (f x c) ai (g x c))->∀(ai:Ren) (c:g4),ρ.le ai->
 a2 Q P (ec λ_=>True) (forIn l c f) ai (forIn l c g):=by
 intro l;induction l with
 |nil=>intro _ ai c _;simp only[List.forIn_nil];exact .ret ⟨S6,Tf⟩
 |cons x l m=>
  intro h ai c d;rw[List.forIn_cons,List.forIn_cons];refine(h ai x c aF d).a8 ?_;rintro aR a b i ⟨rfl,_⟩;cases a with
  |done c=>exact .ret ⟨S6,Tf⟩
  |yield c=>exact m (λai x c j=>h ai x c (by simp[j])) aR c (Ren.le_trans d i)
def ds.eq_iff(h:ds ρ a b)(k:ds ρ c d):(a == c)=(b == d):=by
 rw[Bool.eq_iff_iff];simp only[beq_iff_eq];constructor
 .rintro rfl
  obtain⟨j,l,m⟩:=b;obtain⟨n,o,p⟩:=d;have f:j=n:=ρ.fwd h.block k.block;have g:l=o:=h.off.symm.trans k.off;have i:m=p:=h.spot.symm.trans k.spot;subst f;subst g;subst i;rfl
 .rintro rfl
  obtain⟨j,l,m⟩:=a;obtain⟨n,o,p⟩:=c;have f:j=n:=ρ.bwd h.block k.block;have g:l=o:=h.off.trans k.off.symm;have i:m=p:=h.spot.trans k.spot.symm;subst f;subst g;subst i;rfl
def yM(h:ds ρ a b)(k:ds ρ c d):(a.block == c.block)=(b.block == d.block):=by rw[Bool.eq_iff_iff];simp only[beq_iff_eq];exact⟨λe=>ρ.fwd h.block (e ▸ k.block),λe=>ρ.bwd h.block (e ▸ k.block)⟩
def s9{c:Nat}(h:ρ.r r c):a2 Q P tF (shape r) ρ (shape c):=
 .inr ⟨c,_,rfl,h,λx y e=>⟨y,S6,e⟩⟩
def tF.some{x y:TI (Tg×Nat)}(h:tF ρ x y):x.isSome=y.isSome:=by cases x<;>cases y<;>first|rfl|exact h.elim
def mO{c:Nat}(h:ρ.r r c):a2 Q P eZ (getObj r) ρ (getObj c):=.inr ⟨c,_,S6,h,λo d k=>⟨d,S6,k⟩⟩
def Gb{c:Nat}(h:ρ.r r c):a2 Q P (ec λx=>x=none) (viewAt r) ρ (viewAt c):=by
 unfold viewAt;refine(s9 h).a8 ?_;intro ai x y d e;rw[<-e.some];split
 .exact .ret ⟨S6,S6⟩
 .refine(mO (d.sub _ _ h)).a8 ?_
  intro aR o f _ k;cases k<;>exact .ret ⟨S6,S6⟩
def BK(ai:Ren)(x y:TD×Ta):Prop:=ds ai x.1 y.1/\x.2=y.2
def F4{c:Nat}(h:ρ.r r c):a2 Q P (λai=>fl (BK ai)) (numberAt r) ρ (numberAt c):=by
 unfold numberAt;refine(s9 h).a8 ?_;intro ai x y f e;rw[<-e.some];split
 .exact .ret .none
 .refine(mO (f.sub _ _ h)).a8 ?_
  intro aR o g _ k;cases k with
  |number d l=>exact .ret (.some ⟨d,S6⟩)
  |_=>exact .ret .none
def P9(h:ds ρ a b):a2 Q P (ec λ_=>True) (noView a) ρ (noView b):=by unfold noView;refine(Gb h.block).a8 ?_;rintro ai x y _ ⟨rfl,rfl⟩;exact .ret ⟨S6,Tf⟩
def ry(h:ds ρ a b):a2 Q P BK (behindNumber a) ρ (behindNumber b):=by
 unfold behindNumber;refine(F4 h.block).a8 ?_;intro ai x y c k;cases k with
 |none=>exact .ret ⟨h.mono c,S6⟩
 |some k=>exact .ret k
def yU(S:Same Q P)(t:Tg):Q.cellsOf t=P.cellsOf t:=by unfold Program.cellsOf;rw[S.info]
def B5(S:Same Q P)(t:Tg):Q.bytesOf t=P.bytesOf t:=by unfold Program.bytesOf;rw[S.info]
def y3(S:Same Q P):Q.depth=P.depth:=by obtain⟨T,f⟩:=Q;obtain⟨fo,c⟩:=P;obtain⟨h⟩:=S;simp at h;subst h;rfl
def B4(S:Same Q P):∀(d:Nat) (t off:Nat),byteOfCell Q d t off=byteOfCell P d t off:=by
 obtain⟨T,f⟩:=Q;obtain⟨fo,g⟩:=P;obtain⟨h⟩:=S;simp at h;subst h;intro d;induction d with
 |zero=>intro t off;rfl
 |succ d c=>
  intro t off;unfold byteOfCell;have e:Program.underlying ⟨T,f⟩ t=Program.underlying ⟨T,g⟩ t:=S6;rw[e];split
  .congr 1
   funext x;rw[c];rfl
  .simp only[c];rfl
  .rfl
def uS(S:Same Q P)(h:ds ρ a b):a2 Q P (ec λ_=>True) (byteOf a) ρ (byteOf b):=by
 unfold byteOf;rw[<-h.spot];have Tp:a2 Q P (ec λ_=>True) (do
  let p <-Go.program;noView a
  let some (e,_) <-shape a.block|Go.stuck "byteOf: no such block"
  let s:=p.cellsOf e;if s=0 then return 0
  let some c:=byteOfCell p p.depth e (a.off%s)|Go.stuck "byteOf: no such cell"
  pure (a.off / s*p.bytesOf e+c)) ρ (do
  let p <-Go.program;noView b
  let some (e,_) <-shape b.block|Go.stuck "byteOf: no such block"
  let s:=p.cellsOf e;if s=0 then return 0
  let some c:=byteOfCell p p.depth e (b.off%s)|Go.stuck "byteOf: no such cell"
  pure (b.off / s*p.bytesOf e+c)):=by
  refine mP ?_;refine(P9 h).a8 ?_;rintro ai _ _ f _;refine(s9 (f.sub _ _ h.block)).a8 ?_;intro aR x y _ d;cases x with
  |none=>exact .stuck
  |some x=>
   obtain⟨e,n⟩:=x;cases y with
   |none=>exact d.elim
   |some y=>
   obtain⟨g,m⟩:=y;obtain⟨rfl,_⟩:=d;dsimp only;rw[<-yU S,<-y3 S,<-B4 S,<-B5 S,<-h.off];split
   .exact .ret ⟨S6,Tf⟩
   .cases byteOfCell Q Q.depth e (a.off%Q.cellsOf e)with
    |none=>exact .stuck
    |some c=>exact .ret ⟨S6,Tf⟩
 cases a.spot with
 |none=>exact Tp
 |some s=>exact .ret ⟨S6,Tf⟩
def kL(Q:To):Nat->Tg->Ta
 | 0,_=>false
 |d+1,t=>match Q.underlying t with
  |some .bool|some (.int _)|some .string=>true
  |some (.struct ba)=>ba.toList.all λf=>kL Q d f.type
  |some (.array _ e)=>kL Q d e
  |_=>false
def Qz(S:Same Q P)(t:Tg):Q.stoodInHeld t=P.stoodInHeld t:=by
 obtain⟨T,f⟩:=Q;obtain⟨fo,c⟩:=P;obtain⟨h⟩:=S;simp at h;subst h;have key:∀(n:Nat) (x y:Tg),Program.alikeButTags ⟨T,f⟩ n x y=Program.alikeButTags ⟨T,c⟩ n x y:=by
  intro n;induction n with
  |zero=>intro x y;rfl
  |succ n d=>
   intro x y;unfold Program.alikeButTags;simp only[d];try rfl
 unfold Program.stoodInHeld Program.stoodInAs;simp only[key];rfl
def CU(S:Same Q P){d:Nat}(C:ai.lim=Q.globals.size)(D:∀(m:Nat) (t:Tg) {ρ:Ren} {x y o p:S9},ρ.lim=Q.globals.size->kL Q m t=true->aQ ρ x o->aQ ρ y p->a2 Q P (ec λ_=>True) (Op.equalIn d t x y) ρ (Op.equalIn d t o p)){f g h j:Te}(q:f.size=g.size)(w:∀(i:Nat) (x y:S9),f[i]?=some x->g[i]?=some y->aQ ai x y)(E:h.size=j.size)(F:∀(i:Nat) (x y:S9),h[i]?=some x->j[i]?=some y->aQ ai x y)(m:Nat)(aR:Ren)(u:Tg)(off:Nat)(c:ai.le aR)(hu:kL Q m u=true):
 a2 Q P (ec λ_=>True) (do
  let a <-part u f off;let b <-part u h off;let r <-Op.equalIn d u a b;if (!r)=true then pure (ForInStep.done ((some false:TI Ta),()))else pure (ForInStep.yield (none,()))) aR (do
  let a <-part u g off;let b <-part u j off;let r <-Op.equalIn d u a b;if (!r)=true then pure (ForInStep.done ((some false:TI Ta),()))else pure (ForInStep.yield (none,()))):=by
 refine(s8 S u (bQ.mono c ⟨q,w⟩) off).a8 ?_;intro I a G l z;refine(s8 S u (bQ.mono (Ren.le_trans c l) ⟨E,F⟩) off).a8 ?_;intro J b H n B;refine(D m u (by rw[n.lim,l.lim,c.lim];exact C) hu (z.mono n) B).a8 ?_;rintro K r _ _ ⟨rfl,_⟩;split<;>exact .ret ⟨S6,Tf⟩
def FL(S:Same Q P):∀(d m:Nat) (t:Tg) {ρ:Ren} {x y C D:S9},ρ.lim=Q.globals.size->kL Q m t=true->aQ ρ x C->aQ ρ y D->a2 Q P (ec λ_=>True) (Op.equalIn d t x y) ρ (Op.equalIn d t C D):=by
 intro d;induction d with
 |zero=>intro m t ρ x y C D _ _ _ _;trivial
 |succ d L=>
  intro m t ρ x y C D U hp l g;cases m with
  |zero=>simp[kL]at hp
  |succ m=>
   unfold Op.equalIn;refine(gD S t).a8 ?_;rintro ai u _ H ⟨rfl,hu⟩;replace l:=l.mono H;replace g:=g.mono H;have G:ai.lim=Q.globals.size:=H.lim.trans U;unfold kL at hp;rw[hu]at hp;cases u with
   |bool=>cases l<;>cases g<;>first|exact .ret ⟨S6,Tf⟩|exact .stuck
   |string=>cases l<;>cases g<;>first|exact .ret ⟨S6,Tf⟩|exact .stuck
   |int q=>
    cases l with
    |int k n=>
     cases g with
     |int al c9=>
      dsimp only;split
      .exact .ret ⟨S6,Tf⟩
      .exact .stuck
     |ptr h=>match n with
      |.ofNat 0=>exact .ret ⟨S6,Tf⟩
      |.ofNat (n+1)=>trivial
      |.negSucc n=>trivial
     |jH=>match n with
      |.ofNat 0=>trivial
      |.ofNat (n+1)=>trivial
      |.negSucc n=>trivial
     |_=>match n with
      |.ofNat 0=>exact .stuck
      |.ofNat (n+1)=>exact .stuck
      |.negSucc n=>exact .stuck
    |jH=>cases g<;>trivial
    |ptr j=>
     cases g with
     |int k n=>match n with
      |.ofNat 0=>exact .ret ⟨S6,Tf⟩
      |.ofNat (n+1)=>trivial
      |.negSucc n=>trivial
     |ptr o=>
      dsimp only;refine(ry j).a8 ?_;rintro aR ⟨af,am⟩ ⟨ag,ao⟩ r ⟨M,_⟩;refine(ry (o.mono r)).a8 ?_;rintro w ⟨ah,ap⟩ ⟨aj,aq⟩ B ⟨R,_⟩;replace j:=M.mono B;replace o:=R;dsimp only at j o;dsimp only;refine mP ?_;have V:w.lim=Q.globals.size:=B.lim.trans (r.lim.trans G);rw[<-yM j o,<-S.globals,<-j.eq_iff o];have K:=w.low j.block;rw[V]at K;simp only[<-K];split
      .refine(uS S j).a8 ?_
       rintro ae p _ X ⟨rfl,_⟩;refine(uS S (o.mono X)).a8 ?_;rintro au ia _ _ ⟨rfl,_⟩;exact .ret ⟨S6,Tf⟩
      .refine(nA S t).a8 ?_
       rintro ae i _ _ ⟨rfl,_⟩;cases i.desc with
       |named ar un=>
        split
        .split
         .exact .ret ⟨S6,Tf⟩
         .trivial
        .trivial
       |_=>trivial
     |_=>trivial
    |_=>cases g<;>first|exact .stuck|trivial
   |struct ba=>
    have W:∀f∈ba.toList,kL Q m f.type=true:=by simpa only[Un]using hp
    cases l with
    |@agg Y Z E F=>
     cases g with
     |@agg aa ad I J=>
      dsimp only;have one:=CU (d:=d) S G L E F I J;refine mP ?_;rw[<-Qz S];split
      .trivial
      .refine a2.a8 (A:=ec λ_=>True) ?_ ?_
       .rw[<-Array.forIn_toList,<-Array.forIn_toList]
        refine xS _ ?_ ai _ (Ren.le_refl ai);intro aR f c T r;split
        .exact one m aR f.type f.offset r (W f T)
        .exact .ret ⟨S6,Tf⟩
       .rintro aR a _ _ ⟨rfl,_⟩
        split<;>exact .ret ⟨S6,Tf⟩
     |_=>exact .stuck
    |_=>cases g<;>exact .stuck
   |array n e=>
    cases l with
    |@agg Y Z E F=>
     cases g with
     |@agg aa ad I J=>
      dsimp only;have one:=CU (d:=d) S G L E F I J;refine(jS S e).a8 ?_;rintro aR z _ r ⟨rfl,_⟩;refine a2.a8 (A:=ec λ_=>True) ?_ ?_
      .rw[Std.Legacy.Range.forIn_eq_forIn_range',Std.Legacy.Range.forIn_eq_forIn_range']
       refine xS _ ?_ aR _ (Ren.le_refl aR);intro w i c ak B;exact one m w e _ (Ren.le_trans r B) (by simpa using hp)
      .rintro w a _ _ ⟨rfl,_⟩
       split<;>exact .ret ⟨S6,Tf⟩
     |_=>exact .stuck
    |_=>cases g<;>exact .stuck
   |_=>simp at hp
end
end
section
section
variable{Q P:To}{ρ:Ren}
structure Fits(Q:To)(ρ:Ren):Prop where
 lim:ρ.lim=Q.globals.size
 cells:∀e,Q.cellsOf e<=ρ.cells e
 eb:ρ.eb=eK Q
 fu:ρ.fu=ni Q
def Fits.mono(h:Fits Q ρ)(k:ρ.le ai):Fits Q ai:=⟨k.lim.trans h.lim,λe=>by rw[k.cells];exact h.cells e,k.eb.trans h.eb,k.fu.trans h.fu⟩
def FT(op:BinOp)(k:IntKind)(x y:Int):a2 Q P aQ (Op.intArith op k x y) ρ (Op.intArith op k x y):=by cases op<;>first|exact .ret (.int _ _)|exact .stuck
def PO(S:Same Q P)(op:BinOp)(k:IntKind)(x y:Int):a2 Q P aQ (Op.intDiv op k x y) ρ (Op.intDiv op k x y):=by
 unfold Op.intDiv;split
 .exact jR S (.error _) S6
 .cases op<;>first|exact .ret (.int _ _)|exact .stuck
def FU(op:BinOp)(k:IntKind)(x y:Int):a2 Q P aQ (Op.intBits op k x y) ρ (Op.intBits op k x y):=by cases op<;>first|exact .ret (.int _ _)|exact .stuck
def Qc(S:Same Q P)(op:BinOp)(k j:IntKind)(x y:Int):a2 Q P aQ (Op.shift op k x j y) ρ (Op.shift op k x j y):=by
 unfold Op.shift;split
 .exact jR S (.error _) S6
 .cases op<;>first|exact .ret (.int _ _)|exact .stuck
def AW(op:BinOp)(x y:Int):a2 Q P aQ (Op.intCmp op x y) ρ (Op.intCmp op x y):=by cases op<;>first|exact .ret (.bool _)|exact .stuck
def ta(op:BinOp)(x y:ByteArray):a2 Q P aQ (Op.stringOp op x y) ρ (Op.stringOp op x y):=by
 cases op<;>first|exact .ret (.bool _)|exact .stuck|skip
 unfold Op.stringOp;dsimp only;split
 .trivial
 .exact .ret (.string _)
def Ir(S:Same Q P):∀(d:Nat) (t b:Nat),cellOfByte Q d t b=cellOfByte P d t b:=by
 obtain⟨T,f⟩:=Q;obtain⟨fo,g⟩:=P;obtain⟨h⟩:=S;simp at h;subst h;intro d;induction d with
 |zero=>intro t b;rfl
 |succ d c=>
  intro t b;unfold cellOfByte;have e:Program.underlying ⟨T,f⟩ t=Program.underlying ⟨T,g⟩ t:=S6;rw[e];split
  .congr 1
   funext x;rw[c];rfl
  .simp only[c];rfl
  .rfl
def Ip(S:Same Q P)(d e c o:Nat)(b:Int):cellAtBytes Q d e c o b=cellAtBytes P d e c o b:=by unfold cellAtBytes;simp only[yU S,B5 S,B4 S,Ir S]
def Iq{d e o c bp:Nat}{b:Int}{x:Nat}(g:c<=bp)(h:cellAtBytes Q d e c o b=some x):cellAtBytes Q d e bp o b=some x:=by
 unfold cellAtBytes at h ⊢;dsimp only at h ⊢;split at h
 .cases h
 .rename_i j
  rw[Tm j];cases f:byteOfCell Q d e (o%Q.cellsOf e)with
  |none=>rw[f]at h;cases h
  |some n=>
   rw[f]at h;simp only[Option.bind_eq_bind,Option.bind_some]at h ⊢;split at h
   .cases h
   .rename_i i
    have hm:c*Q.bytesOf e<=bp*Q.bytesOf e:=Nat.mul_le_mul_right _ g;rw[Tm (λk=>i (by simp only[Bool.or_eq_true,decide_eq_true_eq,ge_iff_le,Int.ofNat_eq_natCast]at k ⊢;omega))];exact h
def BI(ai:Ren)(v w:S9):Prop:=aQ ai v w/\∃p,v=.pointer p
def Ga(S:Same Q P)(F:Fits Q ρ)(t:Tg)(h:aQ ρ v w)(k:aQ ρ x y):
 a2 Q P BI (Builtin.unsafeAdd_ #[] t #[v,x]) ρ (Builtin.unsafeAdd_ #[] t #[w,y]):=by
 unfold Builtin.unsafeAdd_;have key:∀(p q:TV),fl (ds ρ) p q->a2 Q P BI (do
  let n <-asInt x;if n=0 then
   let some a:=p|unsupported (.unsafePointer "Add: from nil")
   if (<-viewAt a.block).isSome then unsupported (.unsafePointer "Add: at a place where no cell lies")
   return .pointer p
  if n<0 then unsupported (.unsafePointer "Add: a move by a count below zero")
  let some a:=p|unsupported (.unsafePointer "Add")
  let some (e,cells) <-shape a.block|unsupported (.unsafePointer "Add")
  let r <-program;match cellAtBytes r r.depth e (cells / r.cellsOf e) a.off n with
  |some off=>pure (.pointer (some {a with off}))
  |none=>unsupported (.unsafePointer "Add")) ρ (do
  let n <-asInt y;if n=0 then
   let some a:=q|unsupported (.unsafePointer "Add: from nil")
   if (<-viewAt a.block).isSome then unsupported (.unsafePointer "Add: at a place where no cell lies")
   return .pointer q
  if n<0 then unsupported (.unsafePointer "Add: a move by a count below zero")
  let some a:=q|unsupported (.unsafePointer "Add")
  let some (e,cells) <-shape a.block|unsupported (.unsafePointer "Add")
  let r <-program;match cellAtBytes r r.depth e (cells / r.cellsOf e) a.off n with
  |some off=>pure (.pointer (some {a with off}))
  |none=>unsupported (.unsafePointer "Add")):=by
  intro p q l;refine(AR k).a8 ?_;rintro ai n _ f ⟨rfl,_⟩;cases l with
  |none=>
   dsimp only;split
   .trivial
   .split<;>trivial
  |some d=>
   dsimp only;split
   .refine(Gb (f.sub _ _ d.block)).a8 ?_
    rintro aR _ _ g ⟨rfl,rfl⟩;exact .ret ⟨.ptr ((d.mono f).mono g),_,S6⟩
   .split
    .trivial
    .refine(s9 (f.sub _ _ d.block)).a8 ?_
     intro aR u aC g hu;cases u with
     |none=>trivial
     |some u=>
      obtain⟨e,c⟩:=u;cases aC with
      |none=>exact hu.elim
      |some aC=>
       obtain⟨m,bp⟩:=aC;obtain⟨rfl,i⟩:=hu;dsimp only;refine mP ?_;rw[<-Ip S,<-yU S,<-y3 S,<-d.off];have hle:c / Q.cellsOf e<=bp / Q.cellsOf e:=Nat.div_le_div_right (by rcases i with rfl|⟨i,_⟩<;>omega);cases j:cellAtBytes Q Q.depth e (c / Q.cellsOf e) _ n with
       |none=>trivial
       |some off=>
        rw[Iq hle j];exact .ret ⟨.ptr ⟨g.sub _ _ (f.sub _ _ d.block),S6,d.spot⟩,_,S6⟩
 cases h with
 |jH=>exact key none none .none
 |ptr d=>exact key _ _ (.some d)
 |_=>exact .stuck
def F'(S:Same Q P)(F:Fits Q ρ)(t:Tg)(h:aQ ρ v w)(k:aQ ρ x y):
 a2 Q P aQ (Builtin.unsafeAdd_ #[] t #[v,x]) ρ (Builtin.unsafeAdd_ #[] t #[w,y]):=(Ga S F t h k).mono λ_ _ _ _ h=>h.1
def Pq(h:ds ρ a b)(l:Ta):a2 Q P aQ (asNumber a l) ρ (asNumber b l):=by unfold asNumber;refine(s7 (.number h l)).a8 ?_;intro ai r d _ c;exact .ret (.ptr ⟨c,S6,S6⟩)
def s6(S:Same Q P)(F:Fits Q ρ)(t:Tg)(h:aQ ρ v w)(k:aQ ρ x y):a2 Q P aQ (movedNumber t v x) ρ (movedNumber t w y):=by
 unfold movedNumber;refine(gD S t).a8 ?_;rintro ai d _ c ⟨rfl,_⟩;have main:a2 Q P aQ (do
  let .pointer (some n):=v|Builtin.unsafeAdd_ #[] t #[v,x]
  let(a,lost) <-behindNumber n;match <-Builtin.unsafeAdd_ #[] t #[.pointer (some a),x]with
  |.pointer (some b)=>asNumber b lost
  |v=>pure v) ai (do
  let .pointer (some n):=w|Builtin.unsafeAdd_ #[] t #[w,y]
  let(a,lost) <-behindNumber n;match <-Builtin.unsafeAdd_ #[] t #[.pointer (some a),y]with
  |.pointer (some b)=>asNumber b lost
  |v=>pure v):=by
  have m:=h.mono c;cases h with
  |ptr j=>
   dsimp only;refine(ry (j.mono c)).a8 ?_;rintro aR ⟨q,o⟩ ⟨r,z⟩ i ⟨f,g⟩;dsimp only at f g;subst g;refine(Ga S ((F.mono c).mono i) t (.ptr f) ((k.mono c).mono i)).a8 ?_;rintro B u aC _ ⟨hu,p,rfl⟩;cases hu with
   |ptr l=>exact Pq l o
   |jH=>exact .ret .jH
  |_=>exact F' S (F.mono c) t m (k.mono c)
 cases d<;>first|exact main|trivial
def F9(S:Same Q P)(F:Fits Q ρ)(h:ds ρ a b)(k:ds ρ c d):a2 Q P (ec λ_=>True) (Op.twoPlaces a c) ρ (Op.twoPlaces b d):=by
 unfold Op.twoPlaces;refine mP ?_;have i:=ρ.low h.block;rw[F.lim]at i;have f:(a.block !=c.block)=(b.block !=d.block):=by simp only[bne,yM h k]
 have g:decide (a.block>=Q.globals.size)=decide (b.block>=P.globals.size):=by rw[<-S.globals];rw[decide_eq_decide];omega
 rw[<-f,<-g];split
 .trivial
 .refine(uS S h).a8 ?_
  rintro ai x _ j ⟨rfl,_⟩;refine(uS S (k.mono j)).a8 ?_;rintro aR y _ _ ⟨rfl,_⟩;exact .ret ⟨S6,Tf⟩
def Pm(S:Same Q P)(F:Fits Q ρ)(h:ds ρ a b)(k:ds ρ c d):a2 Q P aQ (Op.addrSub .u64 a c) ρ (Op.addrSub .u64 b d):=by unfold Op.addrSub;refine(F9 S F h k).a8 ?_;rintro ai x _ _ ⟨rfl,_⟩;exact .ret (.int _ _)
def Pl(S:Same Q P)(F:Fits Q ρ)(op:BinOp)(h:ds ρ a b)(k:ds ρ c d):a2 Q P aQ (Op.addrCmp op a c) ρ (Op.addrCmp op b d):=by unfold Op.addrCmp;refine(F9 S F h k).a8 ?_;rintro ai x _ _ ⟨rfl,_⟩;cases op<;>first|exact .ret (.bool _)|trivial
def FF(S:Same Q P)(q:IntKind)(n:Int)(h:ds ρ a b):a2 Q P aQ (Op.addrMod q a n) ρ (Op.addrMod q b n):=by
 unfold Op.addrMod;refine(s9 h.block).a8 ?_;intro ai u aC d hu;cases u with
 |none=>trivial
 |some u=>
  cases aC with
  |none=>exact hu.elim
  |some aC=>
   obtain⟨e,c⟩:=u;obtain⟨g,bp⟩:=aC;obtain⟨rfl,_⟩:=hu;dsimp only;refine(nA S e).a8 ?_;rintro aR i _ f ⟨rfl,_⟩;split
   .trivial
   .refine(uS S ((h.mono d).mono f)).a8 ?_
    rintro j x _ _ ⟨rfl,_⟩;exact .ret (.int _ _)
def F2(S:Same Q P)(F:Fits Q ρ)(t:Tg)(h:aQ ρ v w)(k:aQ ρ x y):a2 Q P aQ (movedPointer t v x) ρ (movedPointer t w y):=by
 unfold movedPointer;have tail:∀(ai:Ren),ρ.le ai->a2 Q P aQ (Builtin.unsafeAdd_ #[] t #[v,x]) ai (Builtin.unsafeAdd_ #[] t #[w,y]):=λai c=>F' S (F.mono c) t (h.mono c) (k.mono c)
 cases h with
 |ptr d=>
  dsimp only;refine(F4 d.block).a8 ?_;intro ai p q c f;cases f with
  |none=>exact tail ai c
  |some _=>trivial
 |_=>exact tail ρ (Ren.le_refl ρ)
def Pt(S:Same Q P)(F:Fits Q ρ)(op:BinOp)(c:op≠.eql)(f:op≠.neq)(t:Tg)(h:aQ ρ v w)(k:aQ ρ x y):a2 Q P aQ (binOp op t v x) ρ (binOp op t w y):=by
 unfold binOp;cases h with
 |int a n=>
  cases k with
  |int b m=>
   cases op<;>first
    |exact Td S6 c
    |exact Td S6 f
    |exact Qc S _ _ _ _ _
    |(dsimp only;split;· exact .stuck
      .first|exact FT _ _ _ _|exact PO S _ _ _ _|exact FU _ _ _ _|exact AW _ _ _)
  |jH=>
   cases op<;>first
    |exact Td S6 c
    |exact Td S6 f
    |exact s6 S F t .jH (.int a n)
    |trivial
  |ptr j=>
   cases op<;>first
    |exact Td S6 c
    |exact Td S6 f
    |exact s6 S F t (.ptr j) (.int a n)
    |trivial
    |(refine(ry j).a8 ?_;rintro ai ⟨r,C⟩ ⟨z,D⟩ _ ⟨i,_⟩;exact FF S _ _ i)
  |_=>cases op<;>first|exact Td S6 c|exact Td S6 f|exact .stuck
 |string s=>
  cases k with
  |string u=>cases op<;>first|exact Td S6 c|exact Td S6 f|exact ta _ s u
  |jH=>cases op<;>first|exact Td S6 c|exact Td S6 f|trivial
  |ptr j=>cases op<;>first|exact Td S6 c|exact Td S6 f|trivial
  |_=>cases op<;>first|exact Td S6 c|exact Td S6 f|exact .stuck
 |jH=>
  cases k with
  |int b m=>
   cases op<;>first
    |exact Td S6 c
    |exact Td S6 f
    |(refine(gD S t).a8 ?_
      rintro ai d _ g ⟨rfl,_⟩;have p:=s6 S (F.mono g) t (.jH) (.int b m);have q:=F2 S (F.mono g) t (.jH) (.int b m);cases d<;>first|exact p|exact q)
    |exact s6 S F t .jH (.int b (-m))
    |trivial
  |_=>cases op<;>first|exact Td S6 c|exact Td S6 f|trivial
 |ptr i=>
  cases k with
  |int b m=>
   cases op<;>first
    |exact Td S6 c
    |exact Td S6 f
    |(refine(gD S t).a8 ?_
      rintro ai d _ g ⟨rfl,_⟩;have p:=s6 S (F.mono g) t (.ptr (i.mono g)) (.int b m);have q:=F2 S (F.mono g) t (.ptr (i.mono g)) (.int b m);cases d<;>first|exact p|exact q)
    |exact s6 S F t (.ptr i) (.int b (-m))
    |trivial
    |(refine(ry i).a8 ?_;rintro ai ⟨r,C⟩ ⟨z,D⟩ _ ⟨l,_⟩;exact FF S _ _ l)
  |ptr j=>
   cases op<;>first
    |exact Td S6 c
    |exact Td S6 f
    |trivial
    |(refine(ry i).a8 ?_
      rintro ai ⟨r,C⟩ ⟨z,D⟩ g ⟨l,_⟩;refine(ry (j.mono g)).a8 ?_;rintro aR ⟨E,H⟩ ⟨G,I⟩ o ⟨B,_⟩;first|exact Pm S ((F.mono g).mono o) (l.mono o) B|exact Pl S ((F.mono g).mono o) _ (l.mono o) B)
  |_=>cases op<;>first|exact Td S6 c|exact Td S6 f|trivial
 |_=>cases k<;>cases op<;>first|exact Td S6 c|exact Td S6 f|exact .stuck|trivial
end
end
end Go.aO
