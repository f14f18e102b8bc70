/- Part 2 of a law on fees: no conditions. -/
import Derived.Test.YthiiblonjmmnfaaGreatDoorP0
import Derived.Laws.Sem
set_option maxHeartbeats 8000000
set_option maxRecDepth 100000
set_option linter.all false
namespace Go.aN
attribute [-simp] Go.Sem.runT_eq
section
def qi(P:Program)(ext:Ext)(x:bs):Option (FuncId×Array Value):=
 match x.1.kind,x.1.roundOf,x.1.mode,x.1.todo with
 |.normal,none,.run,.inRegion ops (i::_)::_ |.deferred,none,.run,.inRegion ops (i::_)::_=>
  if ((ops[i]?).map (Region.wanted · (yielded ops x.1.tmps))).getD false then
   match ops[i]? with
   |some o=>match ki P (lT ext x.1 o) []with
    |some (.enter f args,[])=>some (f,args)
    |_=>none
   |none=>none
  else none
 |_,_,_,_=>none
section
variable{P:Program}{ext:Ext}{main:Bool}{base:List Frame}{st:GoStatus}{off:Option (Array CommCase×CommShape)}
def zE(T:dk P ext){x:bs}{f:FuncId}{args:Array Value}(h:qi P ext x=some (f,args))(w:World):
 stepG P main ⟨x.1,x.2++base,st,none,off⟩ w=.go ⟨Frame.enter P f args .normal,x.1::x.2++base,.running,none,none⟩ w:=by
 obtain⟨fr,cs⟩:=x;have key:∀(ops:Array Oper) (i:Nat) (rest:List Nat) (k:List Item),fr.todo=.inRegion ops (i::rest)::k->fr.mode=.run->fr.roundOf=none->(fr.kind=.normal\/fr.kind=.deferred)->
  (if ((ops[i]?).map (Region.wanted · (yielded ops fr.tmps))).getD false then
   match ops[i]? with
   |some o=>match ki P (lT ext fr o) []with
    |some (.enter f args,[])=>some (f,args)
    |_=>none
   |none=>none
  else none)=some (f,args)->stepG P main ⟨fr,cs++base,st,none,off⟩ w=.go ⟨Frame.enter P f args .normal,fr::cs++base,.running,none,none⟩ w:=by
  intro ops i rest k u hm r U h;split at h
  .rename_i B
   rcases l:ops[i]? with _|o
   .rw[l]at h;cases h
   rw[l]at h;dsimp only at h;have p:mv P ext (λ_=>false) (fr,cs) []=some ((Frame.enter P f args .normal,fr::cs),[]):=by
    split at h
    .rename_i D C e
     cases h;have q:uI P ext (λ_=>false) fr cs o []=some ((Frame.enter P f args .normal,fr::cs),[]):=by show pv P ext (λ_=>false) fr cs o []=_;unfold pv;rw[e];rfl
     have z:nh P ext (λ_=>false) fr cs [] fr.todo=some ((Frame.enter P f args .normal,fr::cs),[]):=by rw[u];simp only[nh];rw[if_pos B,l];exact q
     unfold mv;dsimp only;rw[r,hm];rcases U with U|U<;>(rw[U];exact z)
    .cases h
   have:=pw (main:=main) (base:=base) (st:=st) (off:=off) T p (.nil w);rw[ox]at this;exact this
  .cases h
 unfold qi at h;dsimp only at h;split at h
 .rename_i c d g j
  exact key _ _ _ _ j g d (.inl c) h
 .rename_i c d g j
  exact key _ _ _ _ j g d (.inr c) h
 .cases h
end
def qJ(P:Program)(ext:Ext)(x:bs):Option Next:=
 match x.1.kind,x.1.roundOf,x.1.mode,x.1.todo with
 |.normal,none,.run,.inRegion ops (i::_)::_ |.deferred,none,.run,.inRegion ops (i::_)::_=>
  if ((ops[i]?).map (Region.wanted · (yielded ops x.1.tmps))).getD false then
   match ops[i]? with
   |some o=>match ki P (lT ext x.1 o) []with
    |some (n,[])=>some n
    |_=>none
   |none=>none
  else none
 |_,_,_,_=>none
def nY(P:Program){α:Type}:Sem α->List df->Option (Halt×List cr)
 |.halt h,[]=>some (h,[])
 |.program k,as=>nY P (k P) as
 |.mark m k,as=>(nY P k as).map λx=>(x.1,.mark m::x.2)
 |.load m a k,.val v::as=>(nY P (k v) as).map λx=>(x.1,.load m a v::x.2)
 |_,_=>none
def yW(P:Program)(ext:Ext)(x:bs)(as:List df):Option (List cr):=
 match x.1.kind,x.1.roundOf,x.1.mode,x.1.todo with
 |.normal,none,.run,.inRegion ops (i::_)::_ |.deferred,none,.run,.inRegion ops (i::_)::_=>
  if ((ops[i]?).map (Region.wanted · (yielded ops x.1.tmps))).getD false then
   match ops[i]? with
   |some o=>match nY P (lT ext x.1 o) as with
    |some (.blocked,l)=>some l
    |_=>none
   |none=>none
  else none
 |_,_,_,_=>none
def G'{P:Program}{α:Type}{s:Sem α}:∀{as:List df} {h:Halt} {l:List cr},nY P s as=some (h,l)->∀{w w':World} {es acc:Array Event},Does w l w' es->s.runT P w acc=(.halt h w',acc++es):=by
 have i:∀{x:Option (Halt×List cr)} {f:cr} {h:Halt} {l:List cr},x.map (λx=>(x.1,f::x.2))=some (h,l)->∃aH,l=f::aH/\x=some (h,aH):=by
  intro x f h l e;cases x with
  |none=>cases e
  |some y=>obtain⟨p,q⟩:=y;cases e;exact⟨_,rfl,rfl⟩
 induction s with
 |halt x=>
  intro as h l e w w' es acc hd;cases as with
  |nil=>cases e;cases hd;simp[Sem.runT]
  |cons=>cases e
 |program k d=>
  intro as h l e w w' es acc hd;have c:nY P (k P) as=some (h,l):=by cases as<;>exact e
  exact d P c hd
 |mark m k d=>
  intro as h l e w w' es acc hd;obtain⟨aH,rfl,c⟩:=i (f:=.mark m) (x:=nY P k as) (by cases as<;>exact e);cases hd with
  |mark g=>
   simp only[Sem.runT];rw[d c g];simp[Array.append_assoc]
 |load m o k d=>
  intro as h l e w w' es acc hd;rcases as with _|⟨x,as⟩
  .cases e
  cases x<;>try cases e
  obtain⟨aH,rfl,c⟩:=i e;cases hd with
  |load j g=>
   simp only[Sem.runT,j];rw[d _ c g];simp[Array.append_assoc]
 |_=>intro as h l e;cases as<;>cases e
section
variable{P:Program}{ext:Ext}{main:Bool}{base:List Frame}{st:GoStatus}{off:Option (Array CommCase×CommShape)}
def BL{fr:Frame}{C:List Frame}{w:World}{ops:Array Oper}{i:Nat}{rest:List Nat}{k:List Item}{o:Oper}(d:fr.todo=.inRegion ops (i::rest)::k)(hm:fr.mode=.run)(c:fr.roundOf=none)(f:((ops[i]?).map (Region.wanted · (yielded ops fr.tmps))).getD false=true)(g:ops[i]?=some o):
 stepG P main ⟨fr,C,st,none,off⟩ w=stepG.apply P true fr C none (execOp fr.eval o) w:=by
 rw[run_eq hm];obtain⟨fn,tmps,todo,defers,mode,kind,ro⟩:=fr;dsimp only at d hm c f;subst d;subst c;simp only[stepG.exec];rw[if_pos f];simp[stepG.oper,Frame.oper?,g]
def Bz(T:dk P ext){x:bs}{n:Next}(h:qJ P ext x=some n):∃o,(x.1.kind == .early)=false/\(∀(C:List Frame) (w:World),stepG P main ⟨x.1,C,st,none,off⟩ w=stepG.apply P true x.1 C none (execOp x.1.eval o) w)/\∀w,(execOp x.1.eval o).runT P w #[]=(.ok n w,#[]):=by
 obtain⟨fr,cs⟩:=x;have key:∀(ops:Array Oper) (i:Nat) (rest:List Nat) (k:List Item),fr.todo=.inRegion ops (i::rest)::k->fr.mode=.run->fr.roundOf=none->(fr.kind == .early)=false->
  (if ((ops[i]?).map (Region.wanted · (yielded ops fr.tmps))).getD false then
   match ops[i]? with
   |some o=>match ki P (lT ext fr o) []with
    |some (n,[])=>some n
    |_=>none
   |none=>none
  else none)=some n->∃o,(fr.kind == .early)=false/\(∀(C:List Frame) (w:World),stepG P main ⟨fr,C,st,none,off⟩ w=stepG.apply P true fr C none (execOp fr.eval o) w)/\∀w,(execOp fr.eval o).runT P w #[]=(.ok n w,#[]):=by
  intro ops i rest k q hm p l h;split at h
  .rename_i r
   rcases j:ops[i]? with _|o
   .rw[j]at h;cases h
   rw[j]at h;dsimp only at h;split at h
   .rename_i cM e
    cases h;exact⟨o,l,λC w=>BL q hm p r j,λw=>(xR T fr o w #[]).trans (o' e (.nil w))⟩
   .cases h
  .cases h
 unfold qJ at h;dsimp only at h;split at h
 .rename_i c d f g
  exact key _ _ _ _ g f d (by rw[c];rfl) h
 .rename_i c d f g
  exact key _ _ _ _ g f d (by rw[c];rfl) h
 .cases h
def FG(T:dk P ext){x:bs}{cases:Array CommCase}{b:Bool}{bB:CommShape}(h:qJ P ext x=some (.comm cases b bB))(C:List Frame)(w:World):
 stepG P main ⟨x.1,C,st,none,off⟩ w=.comm ⟨x.1,C,.running,none,none⟩ cases b bB w:=by
 obtain⟨o,f,c,d⟩:=Bz (main:=main) (st:=st) (off:=off) T h;rw[c];simp[stepG.apply,d w,f,GStep.after,ox]
def LU(T:dk P ext){x:bs}{f:Fn}{c a:Array Value}(h:qJ P ext x=some (.spawn ⟨.fn f c,a⟩))(C:List Frame)(w:World):
 stepG P main ⟨x.1,C,st,none,off⟩ w=.spawn ⟨x.1.finish undef,C,.running,none,none⟩
  ⟨{(default:Frame)with fn:=P.funcs.size,defers:=[⟨.fn f c,a⟩],mode:=.panicking [goexitEntry]},[],.running,none,none⟩ w:=by
 obtain⟨o,i,d,g⟩:=Bz (main:=main) (st:=st) (off:=off) T h;rw[d];simp[stepG.apply,g w,i,GStep.after,ox]
def OD(T:dk P ext){x:bs}{as:List df}{l:List cr}(h:yW P ext x as=some l)(C:List Frame){w:World}{es:Array Event}(hd:Does w l w es):
 stepG P main ⟨x.1,C,st,none,off⟩ w=.go ⟨x.1,C,.blocked,none,none⟩ w:=by
 obtain⟨fr,cs⟩:=x;have key:∀(ops:Array Oper) (i:Nat) (rest:List Nat) (k:List Item),fr.todo=.inRegion ops (i::rest)::k->fr.mode=.run->fr.roundOf=none->(fr.kind == .early)=false->
  (if ((ops[i]?).map (Region.wanted · (yielded ops fr.tmps))).getD false then
   match ops[i]? with
   |some o=>match nY P (lT ext fr o) as with
    |some (.blocked,l)=>some l
    |_=>none
   |none=>none
  else none)=some l->stepG P main ⟨fr,C,st,none,off⟩ w=.go ⟨fr,C,.blocked,none,none⟩ w:=by
  intro ops i rest k u hm r p h;split at h
  .rename_i z
   rcases j:ops[i]? with _|o
   .rw[j]at h;cases h
   rw[j]at h;dsimp only at h;split at h
   .rename_i aH e
    cases h;have q:=(xR T fr o w #[]).trans (G' (acc:=#[]) e hd);rw[BL u hm r z j];simp[stepG.apply,q,p,GStep.after,ox]
   .cases h
  .cases h
 unfold yW at h;dsimp only at h;split at h
 .rename_i c d f g
  exact key _ _ _ _ g f d (by rw[c];rfl) h
 .rename_i c d f g
  exact key _ _ _ _ g f d (by rw[c];rfl) h
 .cases h
def Ga{fr:Frame}{d:List PanicEntry}{e:PanicEntry}(hm:fr.mode=.panicking (e::d))(h:e.goexit=true)(hd:fr.defers = [])(c:P.funcs[fr.fn]?=none->fr.todo = [])(w:World):
 stepG P main ⟨fr,[],st,none,off⟩ w=.go ⟨fr,[],.finished,none,none⟩ w:=by
 obtain⟨fn,tmps,todo,defers,mode,kind,ro⟩:=fr;dsimp only at hm hd c;subst hm;subst hd;have f:Frame.catches P ⟨fn,tmps,todo,[],.panicking (e::d),kind,ro⟩=false:=by
  unfold Frame.catches;dsimp only;cases g:P.funcs[fn]? with
  |some _=>rfl
  |none=>rw[c g]
 simp[stepG,unwind,f,h]
end
section
variable(P:Program)(ext:Ext)(lift:FuncId->Bool)
def xG(n:Nat)(x:bs)(as:List df):Option (bs×List cr):=mv P ext lift (lS P ext lift n x) as
def qH(n:Nat)(x:bs)(as:List df):bs:=match xG P ext lift n x as with
 |some (y,_)=>y
 |none=>x
def xJ(n:Nat)(x:bs)(as:List df):Option (List cr):=(xG P ext lift n x as).map (·.2)
def kK(m:Region.Mode)(ops:Array Oper):Nat->Array Bool->List Nat->List (List Nat)
 | 0,_,acc=>[acc.reverse]
 |fuel+1,listed,acc=>
  match (List.range ops.size).filter λi=>!listed.getD i true && ((ops[i]?).map (·.after.all λe=>!Region.binds m e||listed.getD e.on false)).getD false with
  | []=>[acc.reverse]
  |rs=>rs.flatMap λi=>kK m ops fuel (listed.setIfInBounds i true) (i::acc)
def qS(m:Region.Mode)(ops:Array Oper):List (List Nat):=kK m ops ops.size (Array.replicate ops.size false) []
def Iu(m:Region.Mode)(ops:Array Oper)(t:Nat):Region.linearise m ops t∈qS m ops:=by
 have key:∀(fuel t:Nat) (listed:Array Bool) (acc:List Nat),Region.linearise.go m ops fuel t listed acc∈kK m ops fuel listed acc:=by
  intro fuel;induction fuel with
  |zero=>intro t listed acc;simp[Region.linearise.go,kK]
  |succ fuel d=>
   intro t listed acc;unfold Region.linearise.go kK;dsimp only;generalize (List.range ops.size).filter (λi=>!listed.getD i true && ((ops[i]?).map (·.after.all λe=>!Region.binds m e||listed.getD e.on false)).getD false)=rs;cases rs with
   |nil=>simp
   |cons a rs=>
    have c:t%(a::rs).length<(a::rs).length:=Nat.mod_lt _ (by simp);rw[List.getElem?_eq_getElem c];dsimp only;rw[List.mem_flatMap];exact⟨_,List.getElem_mem c,d _ _ _⟩
 exact key _ _ _ _
def Lr(ops:Array Oper)(t:Nat):Region.schedule true ops t∈qS .any ops:=by unfold Region.schedule;simp only[Bool.true_or,if_true];exact Iu _ _ _
def qR(id:Nat):Code->Option (Array Oper)
 |.region i ops _=>if i=id then some ops else none
 |.seq a b=>match qR id a with
  |some x=>some x
  |none=>qR id b
 |.cond _ a b=>match qR id a with
  |some x=>some x
  |none=>qR id b
 |.block _ b |.loop b |.scope b=>qR id b
 |_=>none
def opsOf(fn:Func)(id:Nat):Array Oper:=(fn.body.bind (qR id)).getD #[]
end
def qe(p:List Nat->Prop):List (List Nat)->Prop
 | []=>True
 |l::L=>p l/\qe p L
def qe.mem{p:List Nat->Prop}:∀{L:List (List Nat)},qe p L->∀l∈L,p l:=by
 intro L;induction L with
 |nil=>intro _ l h;cases h
 |cons a L c=>
  intro h l ah;rcases List.mem_cons.1 ah with rfl|ah
  .exact h.1
  .exact c h.2 l ah
def su{P:Program}{ext:Ext}{lift:FuncId->Bool}{n:Nat}{x:bs}{as:List df}{c:List cr}(h:xJ P ext lift n x as=some c):mv P ext lift (lS P ext lift n x) as=some (qH P ext lift n x as,c):=by
 unfold xJ at h;rcases e:xG P ext lift n x as with _|⟨y,l⟩
 .rw[e]at h;cases h
 .rw[e]at h
  cases h;have:qH P ext lift n x as=y:=by unfold qH;rw[e]
  rw[this];exact e
end
end Go.aN
namespace Go.aN
section
def bare:Nat->Value->Bool
 | 0,_=>false
 |_+1,.bool _|_+1,.int .. |_+1,.string _|_+1,.pointer none|_+1,.slice none _ _|_+1,.map none|_+1,.chan none|_+1,.nilFunc|_+1,.nilIface=>true
 |n+1,.iface _ v=>bare n v
 |n+1,.agg a|n+1,.tuple a=>a.all (bare n)
 |_+1,_=>false
def zs{n:Nat}{ρ:Ren}(g:∀v,bare n v=true->aM ρ v v){a:Array Value}(h:a.all (bare n)=true):∀(i:Nat) x y,a[i]?=some x->a[i]?=some y->aM ρ x y:=by intro i x y c f;rw[c]at f;cases f;refine g x ?_;have d:=bp c;rw[Array.all_eq_true]at h;have:=h i d;rw[Pu d]at c;simpa [Pm c]using this
def zt{ρ:Ren}:∀(n:Nat) (v:Value),bare n v=true->aM ρ v v:=by
 intro n;induction n with
 |zero=>intro v h;simp[bare]at h
 |succ n d=>
  intro v h;cases v with
  |bool b=>exact .bool b
  |int k m=>exact .int k m
  |float k m=>simp[bare]at h
  |complex k a b=>simp[bare]at h
  |string s=>exact .string s
  |pointer a=>cases a with
   |none=>exact .iL
   |some a=>simp[bare]at h
  |slice a l c=>cases a with
   |none=>exact .jw l c
   |some a=>simp[bare]at h
  |map a=>cases a with
   |none=>exact .oe
   |some a=>simp[bare]at h
  |chan a=>cases a with
   |none=>exact .rV
   |some a=>simp[bare]at h
  |nilFunc=>exact .nilFunc
  |nilIface=>exact .nilIface
  |iface t v=>exact .iface t (d v (by simpa [bare]using h))
  |agg a=>exact .agg rfl (zs d (by simpa [bare]using h))
  |tuple a=>exact .tuple rfl (zs d (by simpa [bare]using h))
  |func f a c=>simp[bare]at h
def dX(Q:Program)(f:FuncId):Option Nat:=match Q.funcs[f]? with
 |some fn=>if fn.endLine=1000000007 then some fn.nfree else none
 |none=>none
def km(Q:Program):Bool:=match Q.funcs[1]? with
 |some fn=>fn.endLine == 1000000008 && (Q.info? 1000000000).isNone
 |none=>false
def kt(Q:Program)(t:TypeId):Bool:=match Q.info? t with
 |some i=>match i.zero with|some v=>bare 64 v|none=>true
 |none=>true
section
variable{Q P:Program}{ρ:Ren}
structure bK(Q P:Program):Prop where
 tables:Q.toTables=P.toTables
def bK.info(h:bK Q P)(t:TypeId):Q.info? t=P.info? t:=by obtain⟨T,f⟩:=Q;obtain⟨jk,c⟩:=P;obtain⟨h⟩:=h;simp at h;subst h;rfl
def bK.under(h:bK Q P)(t:TypeId):Q.underlying t=P.underlying t:=by obtain⟨T,f⟩:=Q;obtain⟨jk,c⟩:=P;obtain⟨h⟩:=h;simp at h;subst h;rfl
def bK.rt(h:bK Q P):Q.rt=P.rt:=by obtain⟨T,f⟩:=Q;obtain⟨jk,c⟩:=P;obtain⟨h⟩:=h;simp at h;subst h;rfl
def bK.globals(h:bK Q P):Q.globals=P.globals:=by obtain⟨T,f⟩:=Q;obtain⟨jk,c⟩:=P;obtain⟨h⟩:=h;simp at h;subst h;rfl
def bK.follows(h:bK Q P)(d:Departure):Q.follows d=P.follows d:=by obtain⟨T,f⟩:=Q;obtain⟨jk,c⟩:=P;obtain⟨h⟩:=h;simp at h;subst h;rfl
def dx{α:Type}(p:α->Prop):Ren->α->α->Prop:=λ_ a b=>a=b/\p a
def lo{α β:Type}{A:Ren->α->β->Prop}{f:Program->Sem α}{g:Program->Sem β}(h:aW Q P A (f Q) ρ (g P)):aW Q P A (Go.program >>= f) ρ (Go.program >>= g):=.inr ⟨_,rfl,h⟩
def fE(S:bK Q P)(t:TypeId):aW Q P (dx λd=>Q.underlying t=some d) (underlying t) ρ (underlying t):=by
 unfold underlying;refine lo ?_;rw[<-S.under t];split
 .rename_i d hd
  exact .ret ⟨rfl,hd⟩
 .exact .stuck
def l2(S:bK Q P)(t:TypeId):aW Q P (dx λd=>Q.info? t=some d) (typeInfo t) ρ (typeInfo t):=by
 unfold typeInfo;refine lo ?_;rw[<-S.info t];split
 .rename_i d hd
  exact .ret ⟨rfl,hd⟩
 .exact .stuck
def iM(S:bK Q P)(t:TypeId):aW Q P (dx λn=>∃i,Q.info? t=some i/\i.size=n) (sizeOf t) ρ (sizeOf t):=by unfold sizeOf;refine(l2 S t).aY ?_;rintro ai a b _ ⟨rfl,h⟩;exact .ret ⟨rfl,a,h,rfl⟩
def pL(S:bK Q P)(t:TypeId)(c:kt Q t=true):aW Q P aM (zeroValue t) ρ (zeroValue t):=by
 unfold zeroValue;refine(l2 S t).aY ?_;rintro ai a b _ ⟨rfl,h⟩;unfold kt at c;rw[h]at c;simp only at c;split
 .rename_i v d
  rw[d]at c;exact .ret (zt 64 v c)
 .trivial
def CW(S:bK Q P)(t:TypeId):aW Q P (dx λ_=>True) (isAgg t) ρ (isAgg t):=by unfold isAgg;refine(fE S t).aY ?_;rintro ai a b _ ⟨rfl,h⟩;split<;>exact .ret ⟨rfl,trivial⟩
def cU.add{a b:Addr}(h:cU ρ a b)(n:Nat):cU ρ (a.add n) (b.add n):=by
 unfold Addr.add;split
 .exact h
 .exact⟨h.block,by simp[h.off],rfl⟩
def bE.push{a b:Array Value}(h:bE ρ a b){x y:Value}(k:aM ρ x y):bE ρ (a.push x) (b.push y):=by
 refine⟨by simp[h.1],λi u v hu c=>?_⟩;rw[PA]at hu c;by_cases d:i=a.size
 .rw[if_pos d]at hu;rw[if_pos (by rw[d,h.1])]at c
  cases hu;cases c;exact k
 .rw[if_neg d]at hu;rw[if_neg (by rw[<-h.1];exact d)]at c
  exact h.2 i u v hu c
def bE.nil:bE ρ #[] #[]:=⟨rfl,by simp⟩
def bE.get?{a b:Array Value}(h:bE ρ a b)(i:Nat):(∃x y,a[i]?=some x/\b[i]?=some y/\aM ρ x y)\/(a[i]?=none/\b[i]?=none):=by
 by_cases c:i<a.size
 .have d:i<b.size:=by rw[<-h.1];exact c
  exact .inl ⟨a[i],b[i],Pu c,Pu d,h.2 i _ _ (Pu c) (Pu d)⟩
 .exact .inr ⟨Array.getElem?_eq_none (by omega),Array.getElem?_eq_none (by rw[<-h.1];omega)⟩
def nz{x y:Value}(h:aM ρ x y):bE ρ #[x] #[y]:=by
 refine⟨rfl,λi a b c d=>?_⟩;rcases i with _|i
 .simp at c d;subst c;subst d;exact h
 .simp at c
def pV{v w:Value}(h:aM ρ v w):bE ρ v.cells w.cells:=by
 cases h with
 |agg f g=>exact⟨f,g⟩
 |fM d h=>
  have e:w.cells=#[w]:=by
   cases w with
   |agg c=>exact h.elim
   |_=>rfl
  rw[e];exact nz (.fM d h)
 |jO d=>exact nz (.jO d)
 |_=>exact nz (by constructor<;>assumption)
def bE.append{a b c d:Array Value}(h:bE ρ a b)(k:bE ρ c d):bE ρ (a++c) (b++d):=by
 refine⟨by simp[h.1,k.1],λi x y g f=>?_⟩;rw[Array.getElem?_append]at g f;rw[<-h.1]at f;by_cases j:i<a.size
 .rw[if_pos j]at g f;exact h.2 i x y g f
 .rw[if_neg j]at g f;exact k.2 _ x y g f
def bE.extract{a b:Array Value}(h:bE ρ a b)(i j:Nat):bE ρ (a.extract i j) (b.extract i j):=by
 refine⟨by simp[h.1],λk x y c d=>?_⟩;rw[Array.getElem?_extract]at c d;rw[<-h.1]at d;split at c
 .rename_i f
  rw[if_pos f]at d;exact h.2 _ x y c d
 .cases c
def bE.set{a b:Array Value}(h:bE ρ a b)(i:Nat){x y:Value}(k:aM ρ x y):bE ρ (a.setIfInBounds i x) (b.setIfInBounds i y):=by
 refine⟨by simp[h.1],λj u v hu c=>?_⟩;rw[Array.getElem?_setIfInBounds]at hu c;by_cases d:i=j
 .subst d
  simp only[if_true]at hu c;rw[<-h.1]at c;by_cases f:i<a.size
  .rw[if_pos f]at hu c;cases hu;cases c;exact k
  .rw[if_neg f]at hu;cases hu
 .rw[if_neg d]at hu c
  exact h.2 j u v hu c
def yB{a b:Addr}(h:cU ρ a b)(m:Mode):aW Q P aM (load a m) ρ (load b m):=.inr ⟨b,_,rfl,h,λv d c=>⟨d,rfl,c⟩⟩
def C6{a b:Addr}(h:cU ρ a b){v w:Value}(k:aM ρ v w)(m:Mode):aW Q P (dx λ_=>True) (store a v m) ρ (store b w m):=.inr ⟨b,w,_,rfl,h,k,(),rfl,rfl,trivial⟩
def Mu{a b:Addr}:∀(n i:Nat) {ρ:Ren} {x y:Array Value},cU ρ a b->bE ρ x y->aW Q P bE (loadCellsFrom a i n x) ρ (loadCellsFrom b i n y):=by
 intro n;induction n with
 |zero=>intro i ρ x y _ h;exact .ret h
 |succ n g=>
  intro i ρ x y c h;refine(yB (c.add i) .plain).aY ?_;intro ai u v d f;exact g (i+1) (c.mono d) ((h.mono d).push f)
def CX{a b:Addr}(h:cU ρ a b)(n:Nat):aW Q P bE (loadCells a n) ρ (loadCells b n):=Mu n 0 h .nil
def C7{a b:Addr}:∀(l m:List Value) (i:Nat) {ρ:Ren},cU ρ a b->cA (aM ρ) l m->aW Q P (dx λ_=>True) (storeCells a l i) ρ (storeCells b m i):=by
 intro l;induction l with
 |nil=>intro m i ρ _ h;cases h;exact .ret ⟨rfl,trivial⟩
 |cons x l j=>
  intro m i ρ c h;cases h with
  |cons g f=>
   refine(C6 (c.add i) g .plain).aY ?_;intro ai _ _ d _;exact j _ (i+1) (c.mono d) (f.mono λ_ _ k=>k.mono d)
def Bm{R:Value->Value->Prop}:∀{l m:List Value},l.length=m.length->(∀(i:Nat) x y,l[i]?=some x->m[i]?=some y->R x y)->cA R l m
 | [],[],_,_=>.nil
 |a::l,b::m,h,k=>.cons (k 0 a b rfl rfl) (Bm (by simpa using h) λi x y c d=>k (i+1) x y (by simpa using c) (by simpa using d))
 | [],_::_,h,_=>by simp at h
 |_::_,[],h,_=>by simp at h
def bE.toList{a b:Array Value}(h:bE ρ a b):cA (aM ρ) a.toList b.toList:=
 Bm (by simp[h.1]) λi x y c d=>h.2 i x y (by simpa using c) (by simpa using d)
def CY(S:bK Q P)(t:TypeId){a b:Addr}(h:cU ρ a b):aW Q P aM (loadVar t a) ρ (loadVar t b):=by
 unfold loadVar;refine(CW S t).aY ?_;rintro ai x y c ⟨rfl,_⟩;split
 .refine(iM S t).aY ?_
  rintro aL n m d ⟨rfl,_⟩;refine(CX (h.mono (Ren.le_trans c d)) n).aY ?_;intro g u v _ f;exact .ret (rm f)
 .exact yB (h.mono c) .plain
def MR(S:bK Q P)(t:TypeId){a b:Addr}(h:cU ρ a b){v w:Value}(k:aM ρ v w):aW Q P (dx λ_=>True) (storeVar t a v) ρ (storeVar t b w):=by
 unfold storeVar;refine(iM S t).aY ?_;rintro ai x y d ⟨rfl,_⟩;have c:=pV (k.mono d);rw[<-c.1];split
 .exact .stuck
 .exact C7 _ _ 0 (h.mono d) c.toList
def Jw{c d:Array Value}(h:bE ρ c d)(e:TypeId):ev ρ (.cells c e) (.cells d e):=.cells (.inl h.1) h.2 (.inl rfl)
def q7{o c:Obj}(h:ev ρ o c):aW Q P (λai r d=>ai.r r d) (newObj o) ρ (newObj c):=.inr ⟨c,_,rfl,h,λai r d _ f=>⟨d,rfl,f⟩⟩
def vh{c d:Array Value}(h:bE ρ c d)(e:TypeId):aW Q P cU (newRow e c) ρ (newRow e d):=by unfold newRow;refine(q7 (Jw h e)).aY ?_;intro ai r g _ f;exact .ret ⟨f,rfl,rfl⟩
def C3{v w:Value}(h:aM ρ v w)(e:TypeId):aW Q P cU (newVar e v) ρ (newVar e w):=vh (pV h) e
def q8(S:bK Q P)(t:TypeId){c d:Array Value}(h:bE ρ c d)(off:Nat):aW Q P aM (part t c off) ρ (part t d off):=by
 unfold part;refine(CW S t).aY ?_;rintro ai x y i ⟨rfl,_⟩;split
 .refine(iM S t).aY ?_
  rintro aL n m l ⟨rfl,_⟩;exact .ret (rm ((h.mono (Ren.le_trans i l)).extract off _))
 .rcases h.get? off with⟨u,v,f,g,j⟩|⟨f,g⟩
  .rw[f,g];exact .ret (j.mono i)
  .rw[f,g];exact .stuck
def vi{α β:Type}{A:Ren->α->β->Prop}{v w:Value}(h:aM ρ v w):aW Q P A (goPanic v) ρ (goPanic w):=⟨w,rfl,h⟩
def Ou{a b c d h j bo l:Value}(o:aM ρ a h)(p:aM ρ b j)(q:aM ρ c bo)(r:aM ρ d l):aM ρ (.agg #[a,b,c,d]) (.agg #[h,j,bo,l]):=by
 refine rm ⟨rfl,λi x y f g=>?_⟩;match i with
 | 0=>simp at f g;subst f;subst g;exact o
 | 1=>simp at f g;subst f;subst g;exact p
 | 2=>simp at f g;subst f;subst g;exact q
 | 3=>simp at f g;subst f;subst g;exact r
 |i+4=>simp at f
def BZ:RuntimeError->Bool
 |.bounds .. |.error _ |.plain _ |.nilDeref=>true
 |_=>false
def iz(S:bK Q P){α β:Type}{A:Ren->α->β->Prop}(e:RuntimeError)(he:BZ e=true):aW Q P A (runtimePanic e:Sem α) ρ (runtimePanic e:Sem β):=by
 unfold runtimePanic;refine lo ?_;rw[<-S.rt];cases e with
 |bounds x y s c=>exact vi (.iface _ (Ou (.int _ _) (.int _ _) (.bool _) (.int _ _)))
 |error m=>exact vi (.iface _ (.string _))
 |plain m=>exact vi (.iface _ (.string _))
 |nilDeref=>exact vi (.iface _ (.string _))
 |_=>simp[BZ]at he
def q5(q:Question):aW Q P (dx λ_=>True) (choose q) ρ (choose q):=.inr (.inl ⟨_,rfl,λn=>⟨n,rfl,rfl,trivial⟩⟩)
def sK(S:bK Q P){α β:Type}{A:Ren->α->β->Prop}(k:IntKind)(x y:Int)(c:BoundsCode):aW Q P A (boundsPanic k x y c:Sem α) ρ (boundsPanic k x y c:Sem β):=by
 unfold boundsPanic;dsimp only;split
 .refine aW.aY (A:=dx λ_=>True) ?_ ?_
  .refine aW.bind (A:=dx λ_=>True) (q5 _) ?_
   rintro ai a b _ ⟨rfl,_⟩;exact .ret ⟨rfl,trivial⟩
  .rintro ai a b _ ⟨rfl,_⟩
   exact iz S (.bounds _ _ _ _) rfl
 .refine aW.aY (A:=dx λ_=>True) (.ret ⟨rfl,trivial⟩) ?_
  rintro ai a b _ ⟨rfl,_⟩;exact iz S (.bounds _ _ _ _) rfl
def vf{v w:Value}(h:aM ρ v w):aW Q P (dx λc=>v=.int c.1 c.2) (asIntOf v) ρ (asIntOf w):=by cases h<;>first|exact .ret ⟨rfl,rfl⟩|exact .stuck|trivial
def yu{v w:Value}(h:aM ρ v w):aW Q P (dx λn=>∃k,v=.int k n) (asInt v) ρ (asInt w):=by unfold asInt;refine(vf h).aY ?_;rintro ai ⟨k,n⟩ b _ ⟨rfl,c⟩;exact .ret ⟨rfl,k,c⟩
def yt{v w:Value}(h:aM ρ v w):aW Q P (dx λb=>v=.bool b) (asBool v) ρ (asBool w):=by cases h<;>first|exact .ret ⟨rfl,rfl⟩|exact .stuck
def L2{v w:Value}(h:aM ρ v w):aW Q P bE (asAgg v) ρ (asAgg w):=by
 cases h with
 |agg c d=>exact .ret ⟨c,d⟩
 |_=>exact .stuck
def ve(S:bK Q P){v w:Value}(h:aM ρ v w):aW Q P cU (asAddr v) ρ (asAddr w):=by
 cases h with
 |ptr a=>exact .ret a
 |iL=>exact iz S .nilDeref rfl
 |_=>exact .stuck
def sO{v w:Value}(h:aM ρ v w):aW Q P cU (Instr.sureAddr v) ρ (Instr.sureAddr w):=by
 cases h with
 |ptr a=>exact .ret a
 |_=>exact .stuck
end
end
section
section
variable{Q P:Program}{ρ:Ren}
def L0(S:bK Q P)(t:TypeId)(d:kt Q t=true){v w:Value}:aW Q P aM (Instr.alloc t true v) ρ (Instr.alloc t true w):=by unfold Instr.alloc;refine(pL S t d).aY ?_;intro ai a b _ h;refine aW.aY (C3 h t) ?_;intro aL x y _ c;exact .ret (.ptr c)
def L7{v w:Value}(h:aM ρ v w)(t:TypeId):aW Q P aM (Instr.box t v) ρ (Instr.box t w):=by unfold Instr.box;refine(C3 h t).aY ?_;intro aL x y _ c;exact .ret (.ptr c)
def Ow{a b:Array Value}(h:bE ρ a b):∀(l m:List (Value×Nat)) (off:Nat),cA (λx y=>aM ρ x.1 y.1/\x.2=y.2) l m->bE ρ (l.foldl (λcs (c,j)=>cs.setIfInBounds (off+j) c) a) (m.foldl (λcs (c,j)=>cs.setIfInBounds (off+j) c) b):=by
 intro l;induction l generalizing a b with
 |nil=>intro m off k;cases k;exact h
 |cons x l g=>
  intro m off k;cases k with
  |cons d f=>
   obtain⟨d,e⟩:=d;simp only[List.foldl_cons];rw[<-e];exact g (h.set _ d) _ off f
def Oz{a b:Array Value}(h:bE ρ a b):cA (λx y=>aM ρ x.1 y.1/\x.2=y.2) a.zipIdx.toList b.zipIdx.toList:=by
 have:∀(l m:List (Value×Nat)),l.length=m.length->(∀(i:Nat) x y,l[i]?=some x->m[i]?=some y->aM ρ x.1 y.1/\x.2=y.2)->cA (λx y=>aM ρ x.1 y.1/\x.2=y.2) l m:=by
  intro l;induction l with
  |nil=>intro m c _;cases m with
   |nil=>exact .nil
   |cons=>simp at c
  |cons x l j=>intro m c k;cases m with
   |nil=>simp at c
   |cons y m=>exact .cons (k 0 x y rfl rfl) (j m (by simpa using c) λi u v hu d=>k (i+1) u v (by simpa using hu) (by simpa using d))
 refine this _ _ (by simp[h.1]) ?_;intro i x y f g;simp at f g;obtain⟨u,hu,rfl⟩:=f;obtain⟨v,d,rfl⟩:=g;exact⟨h.2 i u v hu d,rfl⟩
def wY(place:Nat->Option (Nat×Nat)):∀(l m:List (Nat×Value)) {a b:Array Value},bE ρ a b->cA (λx y=>x.1=y.1/\aM ρ x.2 y.2) l m->
 ez (bE ρ) (Instr.fill place a l) (Instr.fill place b m):=by
 intro l;induction l with
 |nil=>intro m a b h k;cases k;exact .some h
 |cons x l q=>
  intro m a b h k;cases k with
  |@cons _ y _ m o f=>
   obtain⟨i,v⟩:=x;obtain⟨j,w⟩:=y;obtain⟨rfl,g⟩:=o;simp only[Instr.fill];cases place i with
   |none=>exact .none
   |some p=>
    obtain⟨off,size⟩:=p;have c:=pV g;simp only;rw[<-c.1,<-h.1];split
    .exact .none
    .have d:=Ow h v.cells.zipIdx.toList w.cells.zipIdx.toList off (Oz c)
     simp only[Array.foldl_toList]at d;exact q m d f
def x1{l m:Array (Nat×Value)}(h:fa (λx y=>x.1=y.1/\aM ρ x.2 y.2) l m):cA (λx y=>x.1=y.1/\aM ρ x.2 y.2) l.toList m.toList:=by
 have:∀(l m:List (Nat×Value)),l.length=m.length->(∀(i:Nat) x y,l[i]?=some x->m[i]?=some y->x.1=y.1/\aM ρ x.2 y.2)->cA (λx y=>x.1=y.1/\aM ρ x.2 y.2) l m:=by
  intro l;induction l with
  |nil=>intro m c _;cases m with
   |nil=>exact .nil
   |cons=>simp at c
  |cons x l j=>intro m c k;cases m with
   |nil=>simp at c
   |cons y m=>exact .cons (k 0 x y rfl rfl) (j m (by simpa using c) λi u v hu d=>k (i+1) u v (by simpa using hu) (by simpa using d))
 exact this _ _ (by simp[h.1]) λi x y f g=>h.2 i x y (by simpa using f) (by simpa using g)
def x0{ai:Ren}(c:ρ.le ai){l m:List (Nat×Value)}(h:cA (λx y=>x.1=y.1/\aM ρ x.2 y.2) l m):cA (λx y=>x.1=y.1/\aM ai x.2 y.2) l m:=
 h.mono λ_ _ k=>⟨k.1,k.2.mono c⟩
def MA{α β iB:Type}{A:Ren->β->iB->Prop}(f:α->Sem β)(g:α->Sem iB)(gS:∀(ai aL:Ren) b c,ai.le aL->A ai b c->A aL b c)(i:∀(ai:Ren) x,aW Q P A (f x) ai (g x)):
 ∀(l:List α) (ρ:Ren),aW Q P (λai=>cA (A ai)) (l.mapM f) ρ (l.mapM g):=by
 intro l;induction l with
 |nil=>intro ρ;simp only[List.mapM_nil];exact .ret .nil
 |cons x l o=>
  intro ρ;rw[List.mapM_cons,List.mapM_cons];refine(i ρ x).aY ?_;intro ai b c _ h;refine(o ai).aY ?_;intro aL p cs j d;exact .ret (.cons (gS ai aL b c j h) d)
def CZ{α β iB pX:Type}{A:Ren->α->β->Prop}{B:Ren->iB->pX->Prop}{s:Sem α}{a6:Sem β}{f:α->iB}{g:β->pX}(h:aW Q P A s ρ a6)(k:∀(ai:Ren) a b,ρ.le ai->A ai a b->B ai (f a) (g b)):
 aW Q P B (Functor.map f s) ρ (Functor.map g a6):=aW.bind h λai a b d c=>⟨_,rfl,k ai a b d c⟩
def cA.eq{α:Type}{l m:List α}(h:cA (λa b=>a=b) l m):l=m:=by
 induction h with
 |nil=>rfl
 |cons e _ c=>rw[e,c]
def MK(S:bK Q P)(fields:Array Field):aW Q P (dx λ_=>True) (fields.mapM λf=>do pure (f.offset,<-sizeOf f.type)) ρ (fields.mapM λf=>do pure (f.offset,<-sizeOf f.type)):=by
 rw[Array.mapM_eq_mapM_toList];refine CZ (MA (A:=λ_ a b=>a=b) _ _ (λ_ _ _ _ _ h=>h) (λai f=>?_) _ ρ) ?_
 .refine(iM S f.type).aY ?_
  rintro aL a b _ ⟨rfl,_⟩;exact .ret rfl
 .intro ai a b _ h
  exact⟨by rw[h.eq],trivial⟩
def L8(S:bK Q P)(t:TypeId)(q:kt Q t=true){l m:Array (Nat×Value)}(h:fa (λx y=>x.1=y.1/\aM ρ x.2 y.2) l m):
 aW Q P aM (Instr.build t l) ρ (Instr.build t m):=by
 unfold Instr.build;refine(pL S t q).aY ?_;intro ai a b o p;have j:=pV p;refine(fE S t).aY ?_;rintro aL d w g ⟨rfl,_⟩;split
 .refine(MK S _).aY ?_
  rintro r x y f ⟨rfl,_⟩;have c:=wY (x[·]?) l.toList m.toList (j.mono (Ren.le_trans g f)) (x0 (Ren.le_trans o (Ren.le_trans g f)) (x1 h));revert c;generalize Instr.fill (x[·]?) a.cells l.toList=u;generalize Instr.fill (x[·]?) b.cells m.toList=v;intro c;cases c with
  |none=>exact .stuck
  |some k=>exact .ret (rm k)
 .refine(iM S _).aY ?_
  rintro r x y f ⟨rfl,_⟩;have c:=wY (λi=>some (i*x,x)) l.toList m.toList (j.mono (Ren.le_trans g f)) (x0 (Ren.le_trans o (Ren.le_trans g f)) (x1 h));revert c;generalize Instr.fill (λi=>some (i*x,x)) a.cells l.toList=u;generalize Instr.fill (λi=>some (i*x,x)) b.cells m.toList=v;intro c;cases c with
  |none=>exact .stuck
  |some k=>exact .ret (rm k)
 .exact .stuck
def yU{a b:Array Value}(h:bE ρ a b)(hd:aM ρ (default:Value) default)(n:Nat):bE ρ ((Array.range n).map (a[· % a.size]!)) ((Array.range n).map (b[· % b.size]!)):=by
 refine⟨by simp,λi x y g l=>?_⟩;simp only[Array.getElem?_map,Option.map_eq_some_iff]at g l;obtain⟨j,p,rfl⟩:=g;obtain⟨k,f,rfl⟩:=l;rw[p]at f;cases f;rw[<-h.1];rcases h.get? (j%a.size)with⟨u,v,c,d,o⟩|⟨c,d⟩
 .simp[getElem!_def,c,d,o]
 .simp[getElem!_def,c,d,hd]
def yT:aM ρ (default:Value) default:=.bool _
def L9(S:bK Q P)(t:TypeId)(n:Nat)(C:∀e,Q.underlying t=some (.slice e)->kt Q e=true){l m:Array (Nat×Value)}(h:fa (λx y=>x.1=y.1/\aM ρ x.2 y.2) l m):
 aW Q P aM (Instr.buildSlice t n l) ρ (Instr.buildSlice t n m):=by
 unfold Instr.buildSlice;refine(fE S t).aY ?_;rintro ai d D r ⟨rfl,hd⟩;split
 .rename_i e
  refine(iM S _).aY ?_;rintro aL x y w ⟨rfl,_⟩;dsimp only;split
  .trivial
  .have rest:∀(f:Ren) (z c:Array Value),aL.le f->bE f z c->
    aW Q P aM (do
     let some cells:=Instr.fill (λi=>some (i*x,x)) ((Array.range (n*x)).map (z[· % z.size]!)) l.toList|Go.stuck "buildSlice: a part of the wrong size"
     pure (.slice (some (<-newRow e cells)) n n)) f (do
     let some cells:=Instr.fill (λi=>some (i*x,x)) ((Array.range (n*x)).map (c[· % c.size]!)) m.toList|Go.stuck "buildSlice: a part of the wrong size"
     pure (.slice (some (<-newRow e cells)) n n)):=by
    intro f z c g j;have p:=wY (λi=>some (i*x,x)) l.toList m.toList (yU j yT (n*x)) (x0 (Ren.le_trans r (Ren.le_trans w g)) (x1 h));revert p;generalize Instr.fill (λi=>some (i*x,x)) _ l.toList=u;generalize Instr.fill (λi=>some (i*x,x)) _ m.toList=v;intro p;cases p with
    |none=>exact .stuck
    |some k=>
     refine(vh k e).aY ?_;intro q a b _ o;exact .ret (.slice o n n)
   split
   .refine aW.aY (A:=bE) (.ret .nil) ?_
    intro f z c g j;exact rest f z c g j
   .refine(pL S e (C e hd)).aY ?_
    intro f a b g o;refine aW.aY (A:=bE) (.ret (pV o)) ?_;intro q z c B j;exact rest q z c (Ren.le_trans g B) j
 .exact .stuck
def Mt(S:bK Q P)(t:TypeId){v w:Value}(h:aM ρ v w):aW Q P aM (Instr.loadAt t v) ρ (Instr.loadAt t w):=by unfold Instr.loadAt;refine(sO h).aY ?_;intro ai a b _ c;exact CY S t c
def MQ(S:bK Q P)(t:TypeId){v w x y:Value}(h:aM ρ v w)(k:aM ρ x y):aW Q P (dx λ_=>True) (Instr.storeAt t v x) ρ (Instr.storeAt t w y):=by unfold Instr.storeAt;refine(sO h).aY ?_;intro ai a b d c;exact MR S t c (k.mono d)
def wX(Q:Program)(t:TypeId)(k:Nat):Bool:=match Q.underlying t with
 |some (.struct bd)=>match bd[k]? with
  |some f=>match Q.info? f.type with|some i=>i.size !=0|none=>true
  |none=>true
 |_=>true
def Mk(S:bK Q P){f:Field}(c:∀i,Q.info? f.type=some i->i.size≠0){a b:Addr}(h:cU ρ a b):aW Q P cU (fieldPlace a f) ρ (fieldPlace b f):=by
 unfold fieldPlace;refine(iM S f.type).aY ?_;rintro ai n m g ⟨rfl,i,d,j⟩;have:n≠0:=by rw[<-j];exact c i d
 rw[if_neg this,if_neg this];exact .ret ((h.mono g).add _)
def Mj(S:bK Q P)(t:TypeId)(k:Nat)(c:wX Q t k=true){v w:Value}(h:aM ρ v w):aW Q P aM (Instr.fieldAt t v k) ρ (Instr.fieldAt t w k):=by
 unfold Instr.fieldAt;refine(fE S t).aY ?_;rintro ai d r p ⟨rfl,hd⟩;split
 .rename_i bd
  cases l:bd[k]? with
  |none=>exact .stuck
  |some f=>
   have j:∀i,Q.info? f.type=some i->i.size≠0:=by intro i o;unfold wX at c;rw[hd]at c;simp only[l,o]at c;simpa using c
   refine(sO (h.mono p)).aY ?_;intro aL a b _ g;refine(Mk S j g).aY ?_;intro u x y _ q;exact .ret (.ptr q)
 .exact .stuck
def Mi(S:bK Q P)(t:TypeId)(k:Nat){v w:Value}(h:aM ρ v w):aW Q P aM (Instr.field t v k) ρ (Instr.field t w k):=by
 unfold Instr.field;refine(fE S t).aY ?_;rintro ai d g f ⟨rfl,hd⟩;split
 .split
  .refine(L2 (h.mono f)).aY ?_
   intro aL a b _ c;exact q8 S _ c _
  .exact .stuck
 .exact .stuck
def Mn(S:bK Q P)(t:TypeId){v w i j:Value}(h:aM ρ v w)(k:aM ρ i j):aW Q P aM (Instr.index t v i) ρ (Instr.index t w j):=by
 unfold Instr.index;refine(vf k).aY ?_;rintro ai ⟨q,n⟩ b l ⟨rfl,_⟩;refine(fE S t).aY ?_;rintro aL d r o ⟨rfl,_⟩;have c:=h.mono (Ren.le_trans l o);cases d with
 |array len elem=>
  cases c with
  |agg f g=>
   dsimp only;split
   .refine(iM S _).aY ?_
    rintro u x y p ⟨rfl,_⟩;exact q8 S _ (bE.mono p ⟨f,g⟩) _
   .exact sK S _ _ _ _
  |_=>exact .stuck
 |string=>
  cases c with
  |string s=>
   dsimp only;split
   .exact .ret (.int _ _)
   .exact sK S _ _ _ _
  |_=>exact .stuck
 |_=>cases c<;>exact .stuck
def Mo(S:bK Q P)(t:TypeId){v w i j:Value}(h:aM ρ v w)(k:aM ρ i j):aW Q P aM (Instr.indexAt t v i) ρ (Instr.indexAt t w j):=by
 unfold Instr.indexAt;refine(vf k).aY ?_;rintro ai ⟨q,n⟩ b F ⟨rfl,_⟩;refine(fE S t).aY ?_;rintro aL d D G ⟨rfl,hd⟩;have p:=h.mono (Ren.le_trans F G);dsimp only;have tail:∀(c:Ren) (a b:Option Addr) (len:Nat) (elem:TypeId),aL.le c->ez (cU c) a b->
  aW Q P aM (do
   let u:=len<=1 && (match <-underlying t with |.array ..=>true|_=>false);match a with
   |some a=>
    if 0<=n/\n<len then pure (.pointer (some (a.add (n.toNat*(<-sizeOf elem)))))
    else if u then unsupported (.noEntry "op/indexAddr.an index out of range at an array of length 0 or 1 (ledger 616)")
    else boundsPanic q n len .index
   |none=>boundsPanic q n 0 .index) c (do
   let u:=len<=1 && (match <-underlying t with |.array ..=>true|_=>false);match b with
   |some a=>
    if 0<=n/\n<len then pure (.pointer (some (a.add (n.toNat*(<-sizeOf elem)))))
    else if u then unsupported (.noEntry "op/indexAddr.an index out of range at an array of length 0 or 1 (ledger 616)")
    else boundsPanic q n len .index
   |none=>boundsPanic q n 0 .index):=by
  intro c a b len elem g f;refine(fE S t).aY ?_;rintro C d D r ⟨rfl,_⟩;have E:=f.mono λ_ _ (x:cU c _ _)=>x.mono r
  cases E with
  |none=>exact sK S _ _ _ _
  |some I=>
   dsimp only;split
   .refine(iM S _).aY ?_
    rintro J x y H ⟨rfl,_⟩;exact .ret (.ptr ((I.mono H).add _))
   .split
    all_goals
     split
     .trivial
     .exact sK S _ _ _ _
 cases d with
 |array len elem=>
  dsimp only;refine(sO p).aY ?_;intro c a b g f;refine aW.aY (A:=λc (x y:Option Addr×Nat×TypeId)=>ez (cU c) x.1 y.1/\x.2=y.2) (.ret ⟨.some f,rfl⟩) ?_;rintro C ⟨a,o,l⟩ ⟨b,B,z⟩ r ⟨f,e⟩;cases e;exact tail C a b o l (Ren.le_trans g r) f
 |slice elem=>
  cases p with
  |slice f len cap=>
   refine aW.aY (A:=λc (x y:Option Addr×Nat×TypeId)=>ez (cU c) x.1 y.1/\x.2=y.2) (.ret ⟨.some f,rfl⟩) ?_;rintro c ⟨a,o,l⟩ ⟨b,B,z⟩ g ⟨f,e⟩;cases e;exact tail c a b o l g f
  |jw len cap=>
   refine aW.aY (A:=λc (x y:Option Addr×Nat×TypeId)=>ez (cU c) x.1 y.1/\x.2=y.2) (.ret ⟨.none,rfl⟩) ?_;rintro c ⟨a,o,l⟩ ⟨b,B,z⟩ g ⟨f,e⟩;cases e;exact tail c a b o l g f
  |_=>exact .stuck
 |_=>cases p<;>exact .stuck
def Mx(S:bK Q P)(t:TypeId){v w:Value}(h:aM ρ v w):aW Q P aM (Instr.makeInterface t v) ρ (Instr.makeInterface t w):=by
 unfold Instr.makeInterface;refine(fE S t).aY ?_;rintro ai d f c ⟨rfl,hd⟩;split
 .exact .stuck
 .exact .ret (.iface t (h.mono c))
def My(S:bK Q P)(t:TypeId):aW Q P aM (Instr.makeMap t none) ρ (Instr.makeMap t none):=by unfold Instr.makeMap;dsimp only;refine aW.aY (A:=λai r d=>ai.r r d) (q7 (.map ⟨rfl,by simp⟩ 0)) ?_;intro ai a b _ c;exact .ret (.map c)
def CI(c:ρ.room=true)(n:Nat):aW Q P (dx λ_=>True) (askRoom n) ρ (askRoom n):=by
 unfold askRoom;split
 .exact .inr ⟨_,_,rfl,.noRoom c,_,rfl,rfl,trivial⟩
 .exact .ret ⟨rfl,trivial⟩
def Mz(S:bK Q P)(w:ρ.room=true)(t:TypeId)(B:∀e,Q.underlying t=some (.slice e)->kt Q e=true){a b c d:Value}(h:aM ρ a b)(k:aM ρ c d):aW Q P aM (Instr.makeSlice t a c) ρ (Instr.makeSlice t b d):=by
 unfold Instr.makeSlice;refine(fE S t).aY ?_;rintro ai u ay l ⟨rfl,hd⟩;split
 .rename_i e
  refine(yu (h.mono l)).aY ?_;rintro aL len _ p ⟨rfl,_⟩;refine(yu (k.mono (Ren.le_trans l p))).aY ?_;rintro E cap _ q ⟨rfl,_⟩;refine(l2 S e).aY ?_;rintro F i _ r ⟨rfl,D⟩;dsimp only;split
  .split
   .exact iz S (.error _) rfl
   .split
    .exact iz S (.error _) rfl
    .refine(q5 _).aY ?_
     rintro C n _ _ ⟨rfl,_⟩;exact iz S (.error _) rfl
  .refine(CI (by rw[r.room,q.room,p.room,l.room];exact w) _).aY ?_
   rintro C _ _ _ _;refine(iM S e).aY ?_;rintro G n _ _ ⟨rfl,_⟩;have rest:∀(g:Ren) (z f:Array Value),bE g z f->aW Q P aM (do
    let a <-newRow e ((Array.range ((IntKind.i64.wrap cap).toNat*n)).map (z[· % z.size]!));pure (.slice (some a) (IntKind.i64.wrap len).toNat (IntKind.i64.wrap cap).toNat)) g (do
    let a <-newRow e ((Array.range ((IntKind.i64.wrap cap).toNat*n)).map (f[· % f.size]!));pure (.slice (some a) (IntKind.i64.wrap len).toNat (IntKind.i64.wrap cap).toNat)):=by
    intro g z f j;refine(vh (yU j yT _) e).aY ?_;intro _ x y _ o;exact .ret (.slice o _ _)
   split
   .exact aW.aY (A:=bE) (.ret .nil) λg z f _ j=>rest g z f j
   .refine(pL S e (B e hd)).aY ?_
    intro _ x y _ o;exact aW.aY (A:=bE) (.ret (pV o)) λg z f _ j=>rest g z f j
 .exact .stuck
def Mh{v w:Value}(h:aM ρ v w)(k:Nat):aW Q P aM (Instr.extract v k) ρ (Instr.extract w k):=by
 cases h with
 |tuple f g=>
  rcases bE.get? ⟨f,g⟩ k with⟨x,y,c,d,i⟩|⟨c,d⟩
  .simp only[Instr.extract,c,d];exact .ret i
  .simp only[Instr.extract,c];exact .stuck
 |_=>exact .stuck
end
end
section
section
variable{Q P:Program}{ρ:Ren}
def vg{α iB:Type}{f g:α->iB->Sem (ForInStep iB)}:∀(l:List α),(∀(ai:Ren) x c,x∈l->ρ.le ai->aW Q P (dx λ_=>True) (f x c) ai (g x c))->∀(ai:Ren) (c:iB),ρ.le ai->
 aW Q P (dx λ_=>True) (forIn l c f) ai (forIn l c g):=by
 intro l;induction l with
 |nil=>intro _ ai c _;simp only[List.forIn_nil];exact .ret ⟨rfl,trivial⟩
 |cons x l o=>
  intro h ai c d;rw[List.forIn_cons,List.forIn_cons];refine(h ai x c (by simp) d).aY ?_;rintro aL a b i ⟨rfl,_⟩;cases a with
  |done c=>exact .ret ⟨rfl,trivial⟩
  |yield c=>exact o (λai x c j=>h ai x c (by simp[j])) aL c (Ren.le_trans d i)
def cU.eq_iff{a b c d:Addr}(h:cU ρ a b)(k:cU ρ c d):(a == c)=(b == d):=by
 rw[Bool.eq_iff_iff];simp only[beq_iff_eq];constructor
 .rintro rfl
  obtain⟨j,l,o⟩:=b;obtain⟨p,q,r⟩:=d;have f:j=p:=ρ.fwd h.block k.block;have g:l=q:=h.off.symm.trans k.off;have i:o=r:=h.spot.symm.trans k.spot;subst f;subst g;subst i;rfl
 .rintro rfl
  obtain⟨j,l,o⟩:=a;obtain⟨p,q,r⟩:=c;have f:j=p:=ρ.bwd h.block k.block;have g:l=q:=h.off.trans k.off.symm;have i:o=r:=h.spot.trans k.spot.symm;subst f;subst g;subst i;rfl
def wm{a b c d:Addr}(h:cU ρ a b)(k:cU ρ c d):(a.block == c.block)=(b.block == d.block):=by rw[Bool.eq_iff_iff];simp only[beq_iff_eq];exact⟨λe=>ρ.fwd h.block (e ▸ k.block),λe=>ρ.bwd h.block (e ▸ k.block)⟩
def q9{r c:Nat}(h:ρ.r r c):aW Q P rI (shape r) ρ (shape c):=
 .inr ⟨c,_,rfl,h,λx y e=>⟨y,rfl,e⟩⟩
def rI.some{x y:Option (TypeId×Nat)}(h:rI ρ x y):x.isSome=y.isSome:=by cases x<;>cases y<;>first|rfl|exact h.elim
def ln{r c:Nat}(h:ρ.r r c):aW Q P ev (getObj r) ρ (getObj c):=.inr ⟨c,_,rfl,h,λo d k=>⟨d,rfl,k⟩⟩
def Db{r c:Nat}(h:ρ.r r c):aW Q P (dx λx=>x=none) (viewAt r) ρ (viewAt c):=by
 unfold viewAt;refine(q9 h).aY ?_;intro ai x y d e;rw[<-e.some];split
 .exact .ret ⟨rfl,rfl⟩
 .refine(ln (d.sub _ _ h)).aY ?_
  intro aL o f _ k;cases k<;>exact .ret ⟨rfl,rfl⟩
def zg(ai:Ren)(x y:Addr×Bool):Prop:=cU ai x.1 y.1/\x.2=y.2
def C4{r c:Nat}(h:ρ.r r c):aW Q P (λai=>ez (zg ai)) (numberAt r) ρ (numberAt c):=by
 unfold numberAt;refine(q9 h).aY ?_;intro ai x y f e;rw[<-e.some];split
 .exact .ret .none
 .refine(ln (f.sub _ _ h)).aY ?_
  intro aL o g _ k;cases k with
  |number d l=>exact .ret (.some ⟨d,rfl⟩)
  |_=>exact .ret .none
def MJ{a b:Addr}(h:cU ρ a b):aW Q P (dx λ_=>True) (noView a) ρ (noView b):=by unfold noView;refine(Db h.block).aY ?_;rintro ai x y _ ⟨rfl,rfl⟩;exact .ret ⟨rfl,trivial⟩
def pK{a b:Addr}(h:cU ρ a b):aW Q P zg (behindNumber a) ρ (behindNumber b):=by
 unfold behindNumber;refine(C4 h.block).aY ?_;intro ai x y c k;cases k with
 |none=>exact .ret ⟨h.mono c,rfl⟩
 |some k=>exact .ret k
def wA(S:bK Q P)(t:TypeId):Q.cellsOf t=P.cellsOf t:=by unfold Program.cellsOf;rw[S.info]
def zC(S:bK Q P)(t:TypeId):Q.bytesOf t=P.bytesOf t:=by unfold Program.bytesOf;rw[S.info]
def wI(S:bK Q P):Q.depth=P.depth:=by obtain⟨T,f⟩:=Q;obtain⟨jk,c⟩:=P;obtain⟨h⟩:=S;simp at h;subst h;rfl
def zB(S:bK Q P):∀(d:Nat) (t off:Nat),byteOfCell Q d t off=byteOfCell P d t off:=by
 obtain⟨T,f⟩:=Q;obtain⟨jk,g⟩:=P;obtain⟨h⟩:=S;simp at h;subst h;intro d;induction d with
 |zero=>intro t off;rfl
 |succ d c=>
  intro t off;unfold byteOfCell;have e:Program.underlying ⟨T,f⟩ t=Program.underlying ⟨T,g⟩ t:=rfl;rw[e];split
  .congr 1
   funext x;rw[c];rfl
  .simp only[c];rfl
  .rfl
def sL(S:bK Q P){a b:Addr}(h:cU ρ a b):aW Q P (dx λ_=>True) (byteOf a) ρ (byteOf b):=by
 unfold byteOf;rw[<-h.spot];have rest:aW Q P (dx λ_=>True) (do
  let p <-Go.program;noView a
  let some (e,_) <-shape a.block|Go.stuck "byteOf: no such block"
  let s:=p.cellsOf e;if s=0 then return 0
  let some c:=byteOfCell p p.depth e (a.off%s)|Go.stuck "byteOf: no such cell"
  pure (a.off / s*p.bytesOf e+c)) ρ (do
  let p <-Go.program;noView b
  let some (e,_) <-shape b.block|Go.stuck "byteOf: no such block"
  let s:=p.cellsOf e;if s=0 then return 0
  let some c:=byteOfCell p p.depth e (b.off%s)|Go.stuck "byteOf: no such cell"
  pure (b.off / s*p.bytesOf e+c)):=by
  refine lo ?_;refine(MJ h).aY ?_;rintro ai _ _ f _;refine(q9 (f.sub _ _ h.block)).aY ?_;intro aL x y _ d;cases x with
  |none=>exact .stuck
  |some x=>
   obtain⟨e,n⟩:=x;cases y with
   |none=>exact d.elim
   |some y=>
   obtain⟨g,m⟩:=y;obtain⟨rfl,_⟩:=d;dsimp only;rw[<-wA S,<-wI S,<-zB S,<-zC S,<-h.off];split
   .exact .ret ⟨rfl,trivial⟩
   .cases byteOfCell Q Q.depth e (a.off%Q.cellsOf e)with
    |none=>exact .stuck
    |some c=>exact .ret ⟨rfl,trivial⟩
 cases a.spot with
 |none=>exact rest
 |some s=>exact .ret ⟨rfl,trivial⟩
def ju(Q:Program):Nat->TypeId->Bool
 | 0,_=>false
 |d+1,t=>match Q.underlying t with
  |some .bool|some (.int _)|some .string=>true
  |some (.struct bd)=>bd.toList.all λf=>ju Q d f.type
  |some (.array _ e)=>ju Q d e
  |_=>false
def M'(S:bK Q P)(t:TypeId):Q.stoodInHeld t=P.stoodInHeld t:=by
 obtain⟨T,f⟩:=Q;obtain⟨jk,c⟩:=P;obtain⟨h⟩:=S;simp at h;subst h;have key:∀(n:Nat) (x y:TypeId),Program.alikeButTags ⟨T,f⟩ n x y=Program.alikeButTags ⟨T,c⟩ n x y:=by
  intro n;induction n with
  |zero=>intro x y;rfl
  |succ n d=>
   intro x y;unfold Program.alikeButTags;simp only[d];try rfl
 unfold Program.stoodInHeld Program.stoodInAs;simp only[key];rfl
def Aj(S:bK Q P){d:Nat}{ai:Ren}(D:ai.lim=Q.globals.size)(E:∀(m:Nat) (t:TypeId) {ρ:Ren} {x y p q:Value},ρ.lim=Q.globals.size->ju Q m t=true->aM ρ x p->aM ρ y q->aW Q P (dx λ_=>True) (Op.equalIn d t x y) ρ (Op.equalIn d t p q)){f g h j:Array Value}(w:f.size=g.size)(z:∀(i:Nat) (x y:Value),f[i]?=some x->g[i]?=some y->aM ai x y)(F:h.size=j.size)(G:∀(i:Nat) (x y:Value),h[i]?=some x->j[i]?=some y->aM ai x y)(m:Nat)(aL:Ren)(u:TypeId)(off:Nat)(c:ai.le aL)(hu:ju Q m u=true):
 aW Q P (dx λ_=>True) (do
  let a <-part u f off;let b <-part u h off;let r <-Op.equalIn d u a b;if (!r)=true then pure (ForInStep.done ((some false:Option Bool),()))else pure (ForInStep.yield (none,()))) aL (do
  let a <-part u g off;let b <-part u j off;let r <-Op.equalIn d u a b;if (!r)=true then pure (ForInStep.done ((some false:Option Bool),()))else pure (ForInStep.yield (none,()))):=by
 refine(q8 S u (bE.mono c ⟨w,z⟩) off).aY ?_;intro J a H l B;refine(q8 S u (bE.mono (Ren.le_trans c l) ⟨F,G⟩) off).aY ?_;intro K b I o C;refine(E m u (by rw[o.lim,l.lim,c.lim];exact D) hu (B.mono o) C).aY ?_;rintro L r _ _ ⟨rfl,_⟩;split<;>exact .ret ⟨rfl,trivial⟩
def CN(S:bK Q P):∀(d m:Nat) (t:TypeId) {ρ:Ren} {x y D E:Value},ρ.lim=Q.globals.size->ju Q m t=true->aM ρ x D->aM ρ y E->aW Q P (dx λ_=>True) (Op.equalIn d t x y) ρ (Op.equalIn d t D E):=by
 intro d;induction d with
 |zero=>intro m t ρ x y D E _ _ _ _;trivial
 |succ d M=>
  intro m t ρ x y D E V r l g;cases m with
  |zero=>simp[ju]at r
  |succ m=>
   unfold Op.equalIn;refine(fE S t).aY ?_;rintro ai u _ I ⟨rfl,hu⟩;replace l:=l.mono I;replace g:=g.mono I;have H:ai.lim=Q.globals.size:=I.lim.trans V;unfold ju at r;rw[hu]at r;cases u with
   |bool=>cases l<;>cases g<;>first|exact .ret ⟨rfl,trivial⟩|exact .stuck
   |string=>cases l<;>cases g<;>first|exact .ret ⟨rfl,trivial⟩|exact .stuck
   |int q=>
    cases l with
    |int k n=>
     cases g with
     |int am cM=>
      dsimp only;split
      .exact .ret ⟨rfl,trivial⟩
      .exact .stuck
     |ptr h=>match n with
      |.ofNat 0=>exact .ret ⟨rfl,trivial⟩
      |.ofNat (n+1)=>trivial
      |.negSucc n=>trivial
     |iL=>match n with
      |.ofNat 0=>trivial
      |.ofNat (n+1)=>trivial
      |.negSucc n=>trivial
     |_=>match n with
      |.ofNat 0=>exact .stuck
      |.ofNat (n+1)=>exact .stuck
      |.negSucc n=>exact .stuck
    |iL=>cases g<;>trivial
    |ptr j=>
     cases g with
     |int k n=>match n with
      |.ofNat 0=>exact .ret ⟨rfl,trivial⟩
      |.ofNat (n+1)=>trivial
      |.negSucc n=>trivial
     |ptr o=>
      dsimp only;refine(pK j).aY ?_;rintro aL ⟨ag,ao⟩ ⟨ah,ap⟩ w ⟨R,_⟩;refine(pK (o.mono w)).aY ?_;rintro B ⟨aj,aq⟩ ⟨ak,ar⟩ C ⟨T,_⟩;replace j:=R.mono C;replace o:=T;dsimp only at j o;dsimp only;refine lo ?_;have W:B.lim=Q.globals.size:=C.lim.trans (w.lim.trans H);rw[<-wm j o,<-S.globals,<-j.eq_iff o];have L:=B.low j.block;rw[W]at L;simp only[<-L];split
      .refine(sL S j).aY ?_
       rintro af p _ Y ⟨rfl,_⟩;refine(sL S (o.mono Y)).aY ?_;rintro aw hD _ _ ⟨rfl,_⟩;exact .ret ⟨rfl,trivial⟩
      .refine(l2 S t).aY ?_
       rintro af i _ _ ⟨rfl,_⟩;cases i.desc with
       |named au av=>
        split
        .split
         .exact .ret ⟨rfl,trivial⟩
         .trivial
        .trivial
       |_=>trivial
     |_=>trivial
    |_=>cases g<;>first|exact .stuck|trivial
   |struct bd=>
    have X:∀f∈bd.toList,ju Q m f.type=true:=by simpa only[List.all_eq_true]using r
    cases l with
    |@agg Z aa F G=>
     cases g with
     |@agg ad ae J K=>
      dsimp only;have one:=Aj (d:=d) S H M F G J K;refine lo ?_;rw[<-M' S];split
      .trivial
      .refine aW.aY (A:=dx λ_=>True) ?_ ?_
       .rw[<-Array.forIn_toList,<-Array.forIn_toList]
        refine vg _ ?_ ai _ (Ren.le_refl ai);intro aL f c U w;split
        .exact one m aL f.type f.offset w (X f U)
        .exact .ret ⟨rfl,trivial⟩
       .rintro aL a _ _ ⟨rfl,_⟩
        split<;>exact .ret ⟨rfl,trivial⟩
     |_=>exact .stuck
    |_=>cases g<;>exact .stuck
   |array n e=>
    cases l with
    |@agg Z aa F G=>
     cases g with
     |@agg ad ae J K=>
      dsimp only;have one:=Aj (d:=d) S H M F G J K;refine(iM S e).aY ?_;rintro aL z _ w ⟨rfl,_⟩;refine aW.aY (A:=dx λ_=>True) ?_ ?_
      .rw[Std.Legacy.Range.forIn_eq_forIn_range',Std.Legacy.Range.forIn_eq_forIn_range']
       refine vg _ ?_ aL _ (Ren.le_refl aL);intro B i c al C;exact one m B e _ (Ren.le_trans w C) (by simpa using r)
      .rintro B a _ _ ⟨rfl,_⟩
       split<;>exact .ret ⟨rfl,trivial⟩
     |_=>exact .stuck
    |_=>cases g<;>exact .stuck
   |_=>simp at r
end
end
section
section
variable{Q P:Program}{ρ:Ren}
structure Fits(Q:Program)(ρ:Ren):Prop where
 lim:ρ.lim=Q.globals.size
 cells:∀e,Q.cellsOf e<=ρ.cells e
 dy:ρ.dy=dX Q
 dC:ρ.dC=km Q
def Fits.mono{ai:Ren}(h:Fits Q ρ)(k:ρ.le ai):Fits Q ai:=⟨k.lim.trans h.lim,λe=>by rw[k.cells];exact h.cells e,k.dy.trans h.dy,k.dC.trans h.dC⟩
def CU(op:BinOp)(k:IntKind)(x y:Int):aW Q P aM (Op.intArith op k x y) ρ (Op.intArith op k x y):=by cases op<;>first|exact .ret (.int _ _)|exact .stuck
def Mp(S:bK Q P)(op:BinOp)(k:IntKind)(x y:Int):aW Q P aM (Op.intDiv op k x y) ρ (Op.intDiv op k x y):=by
 unfold Op.intDiv;split
 .exact iz S (.error _) rfl
 .cases op<;>first|exact .ret (.int _ _)|exact .stuck
def CV(op:BinOp)(k:IntKind)(x y:Int):aW Q P aM (Op.intBits op k x y) ρ (Op.intBits op k x y):=by cases op<;>first|exact .ret (.int _ _)|exact .stuck
def MN(S:bK Q P)(op:BinOp)(k j:IntKind)(x y:Int):aW Q P aM (Op.shift op k x j y) ρ (Op.shift op k x j y):=by
 unfold Op.shift;split
 .exact iz S (.error _) rfl
 .cases op<;>first|exact .ret (.int _ _)|exact .stuck
def yz(op:BinOp)(x y:Int):aW Q P aM (Op.intCmp op x y) ρ (Op.intCmp op x y):=by cases op<;>first|exact .ret (.bool _)|exact .stuck
def ra(op:BinOp)(x y:ByteArray):aW Q P aM (Op.stringOp op x y) ρ (Op.stringOp op x y):=by
 cases op<;>first|exact .ret (.bool _)|exact .stuck|skip
 unfold Op.stringOp;dsimp only;split
 .trivial
 .exact .ret (.string _)
def Fb(S:bK Q P):∀(d:Nat) (t b:Nat),cellOfByte Q d t b=cellOfByte P d t b:=by
 obtain⟨T,f⟩:=Q;obtain⟨jk,g⟩:=P;obtain⟨h⟩:=S;simp at h;subst h;intro d;induction d with
 |zero=>intro t b;rfl
 |succ d c=>
  intro t b;unfold cellOfByte;have e:Program.underlying ⟨T,f⟩ t=Program.underlying ⟨T,g⟩ t:=rfl;rw[e];split
  .congr 1
   funext x;rw[c];rfl
  .simp only[c];rfl
  .rfl
def E'(S:bK Q P)(d e c o:Nat)(b:Int):cellAtBytes Q d e c o b=cellAtBytes P d e c o b:=by unfold cellAtBytes;simp only[wA S,zC S,zB S,Fb S]
def Fa{d e o c bo:Nat}{b:Int}{x:Nat}(g:c<=bo)(h:cellAtBytes Q d e c o b=some x):cellAtBytes Q d e bo o b=some x:=by
 unfold cellAtBytes at h ⊢;dsimp only at h ⊢;split at h
 .cases h
 .rename_i j
  rw[if_neg j];cases f:byteOfCell Q d e (o%Q.cellsOf e)with
  |none=>rw[f]at h;cases h
  |some n=>
   rw[f]at h;simp only[Option.bind_eq_bind,Option.bind_some]at h ⊢;split at h
   .cases h
   .rename_i i
    have hm:c*Q.bytesOf e<=bo*Q.bytesOf e:=Nat.mul_le_mul_right _ g;rw[if_neg (λk=>i (by simp only[Bool.or_eq_true,decide_eq_true_eq,ge_iff_le,Int.ofNat_eq_natCast]at k ⊢;omega))];exact h
def ze(ai:Ren)(v w:Value):Prop:=aM ai v w/\∃p,v=.pointer p
def Da(S:bK Q P)(F:Fits Q ρ)(t:TypeId){v w x y:Value}(h:aM ρ v w)(k:aM ρ x y):
 aW Q P ze (Builtin.unsafeAdd_ #[] t #[v,x]) ρ (Builtin.unsafeAdd_ #[] t #[w,y]):=by
 unfold Builtin.unsafeAdd_;have key:∀(p q:Option Addr),ez (cU ρ) p q->aW Q P ze (do
  let n <-asInt x;if n=0 then
   let some a:=p|unsupported (.unsafePointer "Add: from nil")
   if (<-viewAt a.block).isSome then unsupported (.unsafePointer "Add: at a place where no cell lies")
   return .pointer p
  if n<0 then unsupported (.unsafePointer "Add: a move by a count below zero")
  let some a:=p|unsupported (.unsafePointer "Add")
  let some (e,cells) <-shape a.block|unsupported (.unsafePointer "Add")
  let r <-program;match cellAtBytes r r.depth e (cells / r.cellsOf e) a.off n with
  |some off=>pure (.pointer (some {a with off}))
  |none=>unsupported (.unsafePointer "Add")) ρ (do
  let n <-asInt y;if n=0 then
   let some a:=q|unsupported (.unsafePointer "Add: from nil")
   if (<-viewAt a.block).isSome then unsupported (.unsafePointer "Add: at a place where no cell lies")
   return .pointer q
  if n<0 then unsupported (.unsafePointer "Add: a move by a count below zero")
  let some a:=q|unsupported (.unsafePointer "Add")
  let some (e,cells) <-shape a.block|unsupported (.unsafePointer "Add")
  let r <-program;match cellAtBytes r r.depth e (cells / r.cellsOf e) a.off n with
  |some off=>pure (.pointer (some {a with off}))
  |none=>unsupported (.unsafePointer "Add")):=by
  intro p q l;refine(yu k).aY ?_;rintro ai n _ f ⟨rfl,_⟩;cases l with
  |none=>
   dsimp only;split
   .trivial
   .split<;>trivial
  |some d=>
   dsimp only;split
   .refine(Db (f.sub _ _ d.block)).aY ?_
    rintro aL _ _ g ⟨rfl,rfl⟩;exact .ret ⟨.ptr ((d.mono f).mono g),_,rfl⟩
   .split
    .trivial
    .refine(q9 (f.sub _ _ d.block)).aY ?_
     intro aL u ay g hu;cases u with
     |none=>trivial
     |some u=>
      obtain⟨e,c⟩:=u;cases ay with
      |none=>exact hu.elim
      |some ay=>
       obtain⟨o,bo⟩:=ay;obtain⟨rfl,i⟩:=hu;dsimp only;refine lo ?_;rw[<-E' S,<-wA S,<-wI S,<-d.off];have hle:c / Q.cellsOf e<=bo / Q.cellsOf e:=Nat.div_le_div_right (by rcases i with rfl|⟨i,_⟩<;>omega);cases j:cellAtBytes Q Q.depth e (c / Q.cellsOf e) _ n with
       |none=>trivial
       |some off=>
        rw[Fa hle j];exact .ret ⟨.ptr ⟨g.sub _ _ (f.sub _ _ d.block),rfl,d.spot⟩,_,rfl⟩
 cases h with
 |iL=>exact key none none .none
 |ptr d=>exact key _ _ (.some d)
 |_=>exact .stuck
def C'(S:bK Q P)(F:Fits Q ρ)(t:TypeId){v w x y:Value}(h:aM ρ v w)(k:aM ρ x y):
 aW Q P aM (Builtin.unsafeAdd_ #[] t #[v,x]) ρ (Builtin.unsafeAdd_ #[] t #[w,y]):=(Da S F t h k).mono λ_ _ _ _ h=>h.1
def L3{a b:Addr}(h:cU ρ a b)(l:Bool):aW Q P aM (asNumber a l) ρ (asNumber b l):=by unfold asNumber;refine(q7 (.number h l)).aY ?_;intro ai r d _ c;exact .ret (.ptr ⟨c,rfl,rfl⟩)
def q6(S:bK Q P)(F:Fits Q ρ)(t:TypeId){v w x y:Value}(h:aM ρ v w)(k:aM ρ x y):aW Q P aM (movedNumber t v x) ρ (movedNumber t w y):=by
 unfold movedNumber;refine(fE S t).aY ?_;rintro ai d _ c ⟨rfl,_⟩;have main:aW Q P aM (do
  let .pointer (some n):=v|Builtin.unsafeAdd_ #[] t #[v,x]
  let (a,lost) <-behindNumber n;match <-Builtin.unsafeAdd_ #[] t #[.pointer (some a),x]with
  |.pointer (some b)=>asNumber b lost
  |v=>pure v) ai (do
  let .pointer (some n):=w|Builtin.unsafeAdd_ #[] t #[w,y]
  let (a,lost) <-behindNumber n;match <-Builtin.unsafeAdd_ #[] t #[.pointer (some a),y]with
  |.pointer (some b)=>asNumber b lost
  |v=>pure v):=by
  have o:=h.mono c;cases h with
  |ptr j=>
   dsimp only;refine(pK (j.mono c)).aY ?_;rintro aL ⟨r,q⟩ ⟨z,B⟩ i ⟨f,g⟩;dsimp only at f g;subst g;refine(Da S ((F.mono c).mono i) t (.ptr f) ((k.mono c).mono i)).aY ?_;rintro C u ay _ ⟨hu,p,rfl⟩;cases hu with
   |ptr l=>exact L3 l q
   |iL=>exact .ret .iL
  |_=>exact C' S (F.mono c) t o (k.mono c)
 cases d<;>first|exact main|trivial
def C9(S:bK Q P)(F:Fits Q ρ){a b c d:Addr}(h:cU ρ a b)(k:cU ρ c d):aW Q P (dx λ_=>True) (Op.twoPlaces a c) ρ (Op.twoPlaces b d):=by
 unfold Op.twoPlaces;refine lo ?_;have i:=ρ.low h.block;rw[F.lim]at i;have f:(a.block !=c.block)=(b.block !=d.block):=by simp only[bne,wm h k]
 have g:decide (a.block>=Q.globals.size)=decide (b.block>=P.globals.size):=by rw[<-S.globals];rw[decide_eq_decide];omega
 rw[<-f,<-g];split
 .trivial
 .refine(sL S h).aY ?_
  rintro ai x _ j ⟨rfl,_⟩;refine(sL S (k.mono j)).aY ?_;rintro aL y _ _ ⟨rfl,_⟩;exact .ret ⟨rfl,trivial⟩
def LZ(S:bK Q P)(F:Fits Q ρ){a b c d:Addr}(h:cU ρ a b)(k:cU ρ c d):aW Q P aM (Op.addrSub .u64 a c) ρ (Op.addrSub .u64 b d):=by unfold Op.addrSub;refine(C9 S F h k).aY ?_;rintro ai x _ _ ⟨rfl,_⟩;exact .ret (.int _ _)
def LY(S:bK Q P)(F:Fits Q ρ)(op:BinOp){a b c d:Addr}(h:cU ρ a b)(k:cU ρ c d):aW Q P aM (Op.addrCmp op a c) ρ (Op.addrCmp op b d):=by unfold Op.addrCmp;refine(C9 S F h k).aY ?_;rintro ai x _ _ ⟨rfl,_⟩;cases op<;>first|exact .ret (.bool _)|trivial
def CH(S:bK Q P)(q:IntKind)(n:Int){a b:Addr}(h:cU ρ a b):aW Q P aM (Op.addrMod q a n) ρ (Op.addrMod q b n):=by
 unfold Op.addrMod;refine(q9 h.block).aY ?_;intro ai u ay d hu;cases u with
 |none=>trivial
 |some u=>
  cases ay with
  |none=>exact hu.elim
  |some ay=>
   obtain⟨e,c⟩:=u;obtain⟨g,bo⟩:=ay;obtain⟨rfl,_⟩:=hu;dsimp only;refine(l2 S e).aY ?_;rintro aL i _ f ⟨rfl,_⟩;split
   .trivial
   .refine(sL S ((h.mono d).mono f)).aY ?_
    rintro j x _ _ ⟨rfl,_⟩;exact .ret (.int _ _)
def C2(S:bK Q P)(F:Fits Q ρ)(t:TypeId){v w x y:Value}(h:aM ρ v w)(k:aM ρ x y):aW Q P aM (movedPointer t v x) ρ (movedPointer t w y):=by
 unfold movedPointer;have tail:∀(ai:Ren),ρ.le ai->aW Q P aM (Builtin.unsafeAdd_ #[] t #[v,x]) ai (Builtin.unsafeAdd_ #[] t #[w,y]):=λai c=>C' S (F.mono c) t (h.mono c) (k.mono c)
 cases h with
 |ptr d=>
  dsimp only;refine(C4 d.block).aY ?_;intro ai p q c f;cases f with
  |none=>exact tail ai c
  |some _=>trivial
 |_=>exact tail ρ (Ren.le_refl ρ)
def L6(S:bK Q P)(F:Fits Q ρ)(op:BinOp)(c:op≠.eql)(f:op≠.neq)(t:TypeId){v w x y:Value}(h:aM ρ v w)(k:aM ρ x y):aW Q P aM (binOp op t v x) ρ (binOp op t w y):=by
 unfold binOp;cases h with
 |int a n=>
  cases k with
  |int b m=>
   cases op<;>first
    |exact absurd rfl c
    |exact absurd rfl f
    |exact MN S _ _ _ _ _
    |(dsimp only;split;· exact .stuck
      .first|exact CU _ _ _ _|exact Mp S _ _ _ _|exact CV _ _ _ _|exact yz _ _ _)
  |iL=>
   cases op<;>first
    |exact absurd rfl c
    |exact absurd rfl f
    |exact q6 S F t .iL (.int a n)
    |trivial
  |ptr j=>
   cases op<;>first
    |exact absurd rfl c
    |exact absurd rfl f
    |exact q6 S F t (.ptr j) (.int a n)
    |trivial
    |(refine(pK j).aY ?_;rintro ai ⟨r,C⟩ ⟨z,D⟩ _ ⟨i,_⟩;exact CH S _ _ i)
  |_=>cases op<;>first|exact absurd rfl c|exact absurd rfl f|exact .stuck
 |string s=>
  cases k with
  |string u=>cases op<;>first|exact absurd rfl c|exact absurd rfl f|exact ra _ s u
  |iL=>cases op<;>first|exact absurd rfl c|exact absurd rfl f|trivial
  |ptr j=>cases op<;>first|exact absurd rfl c|exact absurd rfl f|trivial
  |_=>cases op<;>first|exact absurd rfl c|exact absurd rfl f|exact .stuck
 |iL=>
  cases k with
  |int b m=>
   cases op<;>first
    |exact absurd rfl c
    |exact absurd rfl f
    |(refine(fE S t).aY ?_
      rintro ai d _ g ⟨rfl,_⟩;have p:=q6 S (F.mono g) t (.iL) (.int b m);have q:=C2 S (F.mono g) t (.iL) (.int b m);cases d<;>first|exact p|exact q)
    |exact q6 S F t .iL (.int b (-m))
    |trivial
  |_=>cases op<;>first|exact absurd rfl c|exact absurd rfl f|trivial
 |ptr i=>
  cases k with
  |int b m=>
   cases op<;>first
    |exact absurd rfl c
    |exact absurd rfl f
    |(refine(fE S t).aY ?_
      rintro ai d _ g ⟨rfl,_⟩;have p:=q6 S (F.mono g) t (.ptr (i.mono g)) (.int b m);have q:=C2 S (F.mono g) t (.ptr (i.mono g)) (.int b m);cases d<;>first|exact p|exact q)
    |exact q6 S F t (.ptr i) (.int b (-m))
    |trivial
    |(refine(pK i).aY ?_;rintro ai ⟨r,C⟩ ⟨z,D⟩ _ ⟨l,_⟩;exact CH S _ _ l)
  |ptr j=>
   cases op<;>first
    |exact absurd rfl c
    |exact absurd rfl f
    |trivial
    |(refine(pK i).aY ?_
      rintro ai ⟨r,C⟩ ⟨z,D⟩ g ⟨l,_⟩;refine(pK (j.mono g)).aY ?_;rintro aL ⟨E,H⟩ ⟨G,I⟩ o ⟨B,_⟩;first|exact LZ S ((F.mono g).mono o) (l.mono o) B|exact LY S ((F.mono g).mono o) _ (l.mono o) B)
  |_=>cases op<;>first|exact absurd rfl c|exact absurd rfl f|trivial
 |_=>cases k<;>cases op<;>first|exact absurd rfl c|exact absurd rfl f|exact .stuck|trivial
end
end
end Go.aN
