/- A part; no conditions. -/
import Derived.Test.YtkifbmfagkjikaaGreatDoorP2
set_option maxHeartbeats 8000000
set_option maxRecDepth 100000
set_option linter.all false
namespace Go.aO
variable{t:TypeId}{v w:Value}
section
section
variable{Q P:Program}{ρ:Ren}{Spec:FuncId->Func->Func->Prop}
def je(Q:Program):Option Nat:=match Q.funcs[0]? with
 |some fn=>match fn.nfree with
  | 0=>none
  |k+1=>some k
 |none=>none
def pinned(Q:Program):Value->Bool
 |.pointer (some ⟨b,0,none⟩)=>je Q == some b
 |_=>false
def er(Q:Program):Operand->Bool
 |.tmp _=>true
 |.func f=>(eK Q f).isNone
 |.const v=>bare 64 v||pinned Q v
 |.global _=>false
def xh(Q:Program):Option Operand->Bool
 |none=>true
 |some x=>er Q x
def xL(Q:Program)(t:TypeId):Bool:=match Q.underlying t with
 |some (.slice e)=>lO Q e
 |_=>true
def zR(Q:Program)(name:String):Bool:=(List.range Q.types.size).all λt=>match Q.types[t]? with
 |some i=>match i.methods.find? (·.name == name)with
  |none=>true
  |some m=>m.path.isEmpty && (match m.func with
   |none=>false
   |some (f,c)=>(eK Q f).isNone && (c||(match Q.underlying t with|some (.pointer _)=>false|_=>true)))
 |none=>true
def B1(Q:Program)(b:Builtin)(ee:Array TypeId):Bool:=match b with
 |.append=>yE Q ee
 |.len |.max |.min=>true
 |_=>false
def yQ(Q:Program)(c:Call):Bool:=c.args.all (er Q) && match c.callee with
 |.builtin b=>B1 Q b c.argTypes
 |.invoke r name=>er Q r && zR Q name
 |.value f=>er Q f||(match f with
  |.func g=>eK Q g == some c.args.size
  |_=>false)
def y2(Q:Program)(c:Call):Bool:=c.args.all (er Q) && match c.callee with
 |.value f=>er Q f && (!ni Q||(match f with |.func _=>true|_=>false))
 |_=>false
def o6(Q:Program)(op:Op):Bool:=match op with
 |.move x |.assign x |.nilCheck x |.unOp _ _ x |.makeInterface _ x |.field _ x _ |.range _ x |.next x _ |.entry x |.extract x _ |.load _ x |.box _ x=>er Q x
 |.pick c a b=>er Q c && er Q a && er Q b
 |.alloc t=>lO Q t
 |.build t e9=>lO Q t && e9.all λx=>er Q x.2
 |.buildSlice t _ e9=>xL Q t && e9.all λx=>er Q x.2
 |.store _ a x=>er Q a && er Q x
 |.binOp op t x y _=>er Q x && er Q y && (match op with |.eql |.neq=>nT Q t x y|_=>true)
 |.convert s d x=>y0 Q s d && er Q x
 |.makeFunc (.func f) a b=>(eK Q f).isNone && (a.all (er Q) && b.all (er Q))
 |.makeMap _ none=>true
 |.makeSlice t l c=>xL Q t && er Q l && er Q c
 |.slice _ x bY g h=>er Q x && xh Q bY && xh Q g && xh Q h
 |.fieldAddr t x k=>zf Q t k && er Q x
 |.indexAddr _ x i |.index _ x i=>er Q x && er Q i
 |.lookup t m k _=>sC Q t && er Q m && er Q k
 |.mapUpdate t m k x |.insert t m k x=>sC Q t && er Q m && er Q k && er Q x
 |.typeAssert x _ t true=>lO Q t && er Q x
 |.call c=>yQ Q c
 |.defer c=>y2 Q c
 |_=>false
def LY{info:TypeId->Option TypeInfo}{d:TypeDesc}{i:TypeInfo}(h:Made.reckon info d=some i):i.methods=#[]:=by
 unfold Made.reckon at h;split at h;all_goals try simp only[bind,Option.bind_eq_some_iff,pure]at h
 all_goals repeat' first
  |(obtain⟨_,_,h⟩:=h)
  |(split at h)
 all_goals first
  |(cases h;rfl)
  |(cases h;done)
  |skip
 all_goals first
  |rfl
  |(simp only[Option.bind_eq_some_iff]at h;obtain⟨_,_,h⟩:=h;cases h;rfl)
  |skip
 unfold Made.reckonStruct at h;simp only[bind,Option.bind_eq_some_iff,pure]at h;obtain⟨a,_,h⟩:=h;split at h<;>(cases h;rfl)
def L'{name:String}(h:zR Q name=true):yv Q name:=by
 intro t i m o hm;by_cases j:t<Q.types.size
 .have e:Q.types[t]?=some i:=by have c:Q.toTables.info? t=some i:=o;unfold Tables.info? at c;rwa [if_pos j]at c
  unfold zR at h;rw[List.all_eq_true]at h;have:=h t (by simpa using j);rw[e]at this;dsimp only at this;rw[hm]at this;simp only[Bool.and_eq_true]at this;obtain⟨p,g⟩:=this;cases n:m.func with
  |none=>rw[n]at g;cases g
  |some x=>
   obtain⟨f,r⟩:=x;rw[n]at g;dsimp only at g;rw[Bool.and_eq_true]at g;refine⟨by simpa using p,rfl,λe he=>?_,λx q=>?_⟩
   .have l:=g.2
    rw[he]at l;simpa using l
   .cases q
    simpa using g.1
 .have c:Q.toTables.info? t=some i:=o
  unfold Tables.info? at c;rw[if_neg j]at c;unfold Made.depth at c;unfold Made.infoAt at c;rw[if_neg j]at c;simp only[Option.bind_eq_some_iff]at c;obtain⟨d,_,c⟩:=c;rw[LY c]at hm;simp at hm
def Pz(S:Same Q P)(F:Fits Q ρ)(H:fe Spec Q P)(name:String)(g:yv Q name)(h:aQ ρ v w){a b:Array Value}(k:bQ ρ a b):
 a2 Q P h2 (callMethod v name a) ρ (callMethod w name b):=by
 unfold callMethod;cases h with
 |nilIface=>exact jR S .nilDeref rfl
 |iface t h=>
  dsimp only;refine mP ?_;have e:Q.types.size=P.types.size:=by rw[show Q.types=P.types from congrArg Tables.types S.tables]
  rw[e];refine(P4 S _ t name g h).a8 ?_;rintro ai ⟨f,r⟩ ⟨i,j⟩ l ⟨e,d,c⟩;dsimp only at e d c;subst e;exact AS S H f (bQ.append (om d) (k.mono l)) λn e=>by rw[(F.mono l).eb,c]at e;cases e
 |_=>exact .stuck
def AX(S:Same Q P)(H:fe Spec Q P){t u:Target}(h:tH ρ t u){a b:Array Value}(k:bQ ρ a b):a2 Q P h2 (invoke t a) ρ (invoke u b):=by
 unfold invoke;cases h with
 |nil=>exact jR S .nilDeref rfl
 |collected h=>exact .stuck
 |fn c d=>
  cases c with
  |func f c=>exact AS S H f (k.append d) λn e=>by rw[c]at e;cases e
  |yield g=>exact Qj g k
def xA(op:Op):Bool:=match op with
 |.makeSlice ..=>false
 |.call c=>match c.callee with
  |.builtin .append=>false
  |_=>true
 |_=>true
variable{bz il:Operand->Value}
def yb(l:∀x,er Q x=true->aQ ρ (bz x) (il x)){a:Array Operand}(h:a.all (er Q)=true):bQ ρ (a.map bz) (a.map il):=by refine⟨aF,λi x y g j=>?_⟩;simp at g j;obtain⟨o,c,rfl⟩:=g;obtain⟨m,f,rfl⟩:=j;rw[c]at f;cases f;rw[Array.all_eq_true]at h;have d:=bu c;have:=h i d;rw[fb d]at c;exact l o (by rw[<-bD c];exact this)
def ET(l:∀x,er Q x=true->aQ ρ (bz x) (il x)){a:Array (Nat×Operand)}(h:(a.all λx=>er Q x.2)=true):gb (λx y=>x.1=y.1/\aQ ρ x.2 y.2) (a.map λ(i,x)=>(i,bz x)) (a.map λ(i,x)=>(i,il x)):=by refine⟨aF,λi x y g j=>?_⟩;simp at g j;obtain⟨n,o,c,rfl⟩:=g;obtain⟨c9,m,f,rfl⟩:=j;rw[c]at f;cases f;rw[Array.all_eq_true]at h;have d:=bu c;have:=h i d;rw[fb d]at c;refine⟨rfl,l o ?_⟩;rw[bD c]at this;exact this
def Ag(c:∀x,er Q x=true->aQ ρ (bz x) (il x)){x:Option Operand}(h:xh Q x=true):fl (aQ ρ) (x.map bz) (x.map il):=by
 cases x with
 |none=>exact .none
 |some x=>exact .some (c x h)
def hV{s aX:Sem Value}(h:a2 Q P aQ s ρ aX):a2 Q P h2 (do pure (.value (<-s))) ρ (do pure (.value (<-aX))):=h.a8 λ_ _ _ _ c=>.ret (.value c)
def A1{s aX:Sem Unit}(h:a2 Q P (ec λ_=>True) s ρ aX):a2 Q P h2 (do s;pure .skip) ρ (do aX;pure .skip):=h.a8 λ_ _ _ _ _=>.ret .skip
def BU(c:ni Q=true):Q.info? 1000000000=none:=by
 unfold ni at c;split at c
 .rw[Bool.and_eq_true]at c
  exact Option.isNone_iff_eq_none.1 c.2
 .cases c
def cY.prog{α:Type}{k:Program->Sem α}(h:cY Q (k Q)):cY Q (program >>= k):=h
def CJ{α:Type}(h:Q.info? t=none)(k:TypeInfo->Sem α):cY Q (typeInfo t >>= k):=by refine cY.bind k ?_;show cY Q (program >>= λr=>match r.info? t with|some i=>pure i|none=>stuck "no such type");refine cY.prog ?_;rw[h];exact kY _
def Mm(h:Q.info? 1000000000=none):∀n,cY Q (nilAhead n 1000000000 .nilIface "" >>= λb=>if (b !=some false)=true then(do
 unsupported (.noEntry "op/nilCheck.the method's receiver behind this interface value is a nil pointer, or cannot be seen to be none, and the arguments act or may panic (ledger 612)")
 pure (Next.value tv))else pure (Next.value tv)):=by
 intro n;cases n with
 |zero=>exact λw=>⟨_,w,rfl,trivial,λes h=>h⟩
 |succ n=>exact cY.bind _ (CJ h _)
def Ii(f:ni Q=true)(a:Array Value):cY Q (do let d <-Deferred.ofValue tv a;invoke d.target d.args):=by
 show cY Q (invoke (.fn (.method "") #[]) (#[.iface 1000000000 .nilIface]++a));unfold invoke;have c:(#[Value.iface 1000000000 .nilIface]++a)[0]?=some (.iface 1000000000 .nilIface):=by rw[Array.getElem?_append_left (show 0<(#[Value.iface 1000000000 .nilIface]:Array Value).size from Nat.zero_lt_one)];rfl
 rw[c];dsimp only;unfold callMethod;dsimp only;refine cY.prog (cY.bind _ ?_);generalize (Q.types.size+Made.depth)=n;cases n with
 |zero=>exact λw=>⟨_,w,rfl,trivial,λes h=>h⟩
 |succ n=>exact CJ (BU f) _
def AU(S:Same Q P)(F:Fits Q ρ)(H:fe Spec Q P)(h:aQ ρ v w){a b:Array Value}(k:bQ ρ a b):a2 Q P h2 (do let d <-Deferred.ofValue v a;invoke d.target d.args) ρ (do let d <-Deferred.ofValue w b;invoke d.target d.args):=by
 by_cases c:v=tv
 .subst c
  refine a2.dp (Ii ?_ a);rw[<-F.fu];cases h with
  |func f=>cases f
  |k9 g=>exact g
 .refine(F5 h c k).a8 ?_
  intro ai d e l hd;exact AX S H hd.target hd.args
def Qb(F:Fits Q ρ)(j:∀x,er Q x=true->aQ ρ (bz x) (il x))(q:∀g,bz (.func g)=.func (.func g) #[] #[]/\il (.func g)=.func (.func g) #[] #[])(c:Call)(t:TypeId)(h:y2 Q c=true):a2 Q P me (resolve bz c t) ρ (resolve il c t):=by
 unfold y2 at h;simp only[Bool.and_eq_true]at h;obtain⟨n,d⟩:=h;have o:=yb j n;unfold resolve;dsimp only;cases i:c.callee with
 |builtin b=>rw[i]at d;cases d
 |invoke r name=>rw[i]at d;cases d
 |value f=>
  rw[i]at d;simp only[Bool.and_eq_true]at d;refine F5 (j f d.1) (λe=>?_) o;have m:=j f d.1;rw[e]at m;have l:ρ.fu=true:=by
   generalize il f=w at m;cases m with
   |func p=>cases p
   |k9 l=>exact l
  rcases Bool.or_eq_true_iff.1 d.2 with ax|ax
  .rw[<-F.fu,l]at ax
   cases ax
  .obtain⟨g,rfl⟩:∃g,f=.func g:=by cases f<;>first|exact⟨_,rfl⟩|cases ax
   rw[(q g).1]at e;cases e
def Px(S:Same Q P)(b:Builtin)(c:ρ.room=true\/(match b with |.append=>false|_=>true)=true)(ee:Array TypeId)(t:TypeId)(cs:Array Bool)(h:B1 Q b ee=true){x y:Array Value}(k:bQ ρ x y):a2 Q P h2 (builtin b ee t cs x) ρ (builtin b ee t cs y):=by
 cases b<;>first|cases h|skip
 .exact hV (Po S (c.resolve_right aF) ee t h k)
 .exact hV (PR S ee t k)
 .exact hV (P2 ee t k)
 .exact hV (P5 ee t k)
def Py(S:Same Q P)(F:Fits Q ρ)(H:fe Spec Q P)(o:∀x,er Q x=true->aQ ρ (bz x) (il x))(q:∀g,bz (.func g)=.func (.func g) #[] #[]/\il (.func g)=.func (.func g) #[] #[])(c:Call)(B:ρ.room=true\/xA (.call c)=true)(t:TypeId)(h:yQ Q c=true):
 a2 Q P h2 (do let d <-resolve bz c t;invoke d.target d.args) ρ (do let d <-resolve il c t;invoke d.target d.args):=by
 unfold yQ at h;simp only[Bool.and_eq_true]at h;obtain⟨p,J⟩:=h;have j:=yb o p;unfold resolve;dsimp only;cases m:c.callee with
 |builtin b=>
  rw[m]at J;exact a2.a8 (A:=λai x y=>ρ.le ai/\x={target:=.builtin b c.argTypes t (c.args.map λ|.const _=>true|_=>false),args:=c.args.map bz}/\y={target:=.builtin b c.argTypes t (c.args.map λ|.const _=>true|_=>false),args:=c.args.map il}) (.ret ⟨Ren.le_refl _,rfl,rfl⟩)
   (by rintro ai _ _ l ⟨_,rfl,rfl⟩;exact Px S b (B.imp (λe=>l.room.trans e) λe=>by unfold xA at e;dsimp only at e;rw[m]at e;cases b<;>first|rfl|cases e) _ t _ J (j.mono l))
 |invoke r name=>
  rw[m]at J;simp only[Bool.and_eq_true]at J;refine a2.a8 (A:=λai x y=>ρ.le ai/\x={target:=.fn (.method name) #[],args:=#[bz r]++c.args.map bz}/\y={target:=.fn (.method name) #[],args:=#[il r]++c.args.map il}) (.ret ⟨Ren.le_refl _,rfl,rfl⟩) ?_;rintro ai _ _ l ⟨_,rfl,rfl⟩;have key:∀(x:Value) (a:Array Value),invoke (.fn (.method name) #[]) (#[x]++a)=callMethod x name a:=by
   intro x a;unfold invoke;have u:(#[x]++a)[0]?=some x:=by rw[Array.getElem?_append_left (show 0<(#[x]:Array Value).size from Nat.zero_lt_one)];rfl
   have w:(#[x]++a).extract 1 (#[x]++a).size=a:=by
    have:(#[x]++a).size=a.size+1:=(Array.size_append (xs:=#[x]) (ys:=a)).trans (Nat.add_comm _ _);rw[this];apply Array.ext
    .simp
    .intro i p J
     simp
   rw[u];dsimp only;rw[w]
  show a2 Q P h2 (invoke (.fn (.method name) #[]) (#[bz r]++c.args.map bz)) ai (invoke (.fn (.method name) #[]) (#[il r]++c.args.map il));rw[key,key];exact Pz S (F.mono l) H name (L' J.2) ((o r J.1).mono l) (j.mono l)
 |value f=>
  rw[m]at J;rcases Bool.or_eq_true_iff.1 J with J|J
  .exact AU S F H (o f J) j
  .obtain⟨g,rfl⟩:∃g,f=.func g:=by cases f<;>first|cases J|exact⟨_,rfl⟩
   have z:eK Q g=some c.args.size:=by simpa using J
   dsimp only;rw[(q g).1,(q g).2];refine a2.a8 (A:=λai x y=>ρ.le ai/\x={target:=.fn (.func g) #[],args:=#[]++c.args.map bz}/\y={target:=.fn (.func g) #[],args:=#[]++c.args.map il}) (.ret ⟨Ren.le_refl _,rfl,rfl⟩) ?_;rintro ai _ _ l ⟨_,rfl,rfl⟩;have key:∀a:Array Value,invoke (.fn (.func g) #[]) (#[]++a)=callFunc g a:=by intro a;unfold invoke;simp
   dsimp only;rw[key,key];exact AS S H g (j.mono l) λn e=>by rw[(F.mono l).eb,z]at e;cases e;simp
def P8(S:Same Q P)(F:Fits Q ρ)(h:aQ ρ v w):a2 Q P h2 (execOp (λ_=>v) {(default:Oper)with op:=.nilCheck (.tmp 0)}) ρ (execOp (λ_=>w) {(default:Oper)with op:=.nilCheck (.tmp 0)}):=by
 unfold execOp;dsimp only;cases h with
 |jH=>exact jR S .nilDeref rfl
 |nilIface=>exact jR S .nilDeref rfl
 |nilFunc=>exact jR S .nilDeref rfl
 |func m i j o p=>
  cases m with
  |func f m=>exact .ret (.value (.func (.func f m) i j o p))
  |yield q=>exact .ret (.value (.func (.yield q) i j o p))
 |bool b=>exact .ret (.value (.bool b))
 |int k n=>exact .ret (.value (.int k n))
 |string s=>exact .ret (.value (.string s))
 |ptr h=>exact .ret (.value (.ptr h))
 |kr l c=>exact .ret (.value (.kr l c))
 |slice h l c=>exact .ret (.value (.slice h l c))
 |ju g u=>exact .ret (.value (.ju g u))
 |p5=>exact .ret (.value .p5)
 |map h=>exact .ret (.value (.map h))
 |qP=>exact .ret (.value .qP)
 |iface t h=>exact .ret (.value (.iface t h))
 |agg i j=>exact .ret (.value (.agg i j))
 |tuple i j=>exact .ret (.value (.tuple i j))
 |gI g d=>
  cases w with
  |agg c=>exact d.elim
  |nilIface=>exact d.elim
  |nilFunc=>exact d.elim
  |bool b=>exact d.elim
  |int k n=>exact d.elim
  |string s=>exact d.elim
  |func f a c=>cases f with
   |method n=>exact d.elim
   |_=>exact a2.ret (A:=h2) (h2.value (aQ.gI g d))
  |pointer a=>cases a with
   |none=>exact d.elim
   |some a=>exact a2.ret (A:=h2) (h2.value (aQ.gI g d))
  |_=>exact a2.ret (A:=h2) (h2.value (aQ.gI g d))
 |k9 g=>
  refine a2.dp ?_;show cY Q (program >>= λr=>nilAhead (r.types.size+Made.depth) 1000000000 .nilIface "" >>= λb=>_);exact cY.prog (Mm (BU (F.fu ▸ g)) _)
def FC{e:TypeId}(h:xL Q t=true)(he:Q.underlying t=some (.slice e)):lO Q e=true:=by unfold xL at h;rw[he]at h;exact h
def FN(S:Same Q P)(F:Fits Q ρ)(H:fe Spec Q P)(o:Oper)(u:ρ.room=true\/xA o.op=true)(j:o6 Q o.op=true)(p:∀x,er Q x=true->aQ ρ (bz x) (il x))(E:∀v,bz (.const v)=v/\il (.const v)=v)(G:∀g,bz (.func g)=.func (.func g) #[] #[]/\il (.func g)=.func (.func g) #[] #[]):ef true Q P h2 (execOp bz o) ρ (execOp il o):=by
 obtain⟨dst,op,type,pos,after,guard⟩:=o;dsimp only at j u;have J:∀(f:Operand->Value),execOp f ⟨dst,op,type,pos,after,guard⟩=execOp f {(default:Oper)with op:=op,type:=type}:=λf=>by cases op<;>rfl
 cases op<;>first|cases j|skip
 all_goals try simp only[o6,Bool.and_eq_true]at j
 case mapUpdate t m k x=>exact ef.map (FZ S F t j.1.1.1 (p m j.1.1.2) (p k j.1.2) (p x j.2)) λ_ _ _ _ _=>.skip
 case insert t m k x=>exact ef.map (FZ S F t j.1.1.1 (p m j.1.1.2) (p k j.1.2) (p x j.2)) λ_ _ _ _ _=>.skip
 all_goals refine a2.up ?_
 case move x=>exact .ret (.value (p x j))
 case assign x=>exact .ret (.value (p x j))
 case pick c a b=>
  refine(AQ (p c j.1.1)).a8 ?_;rintro ai I _ l ⟨rfl,_⟩;cases I
  .exact .ret (.value ((p b j.2).mono l))
  .exact .ret (.value ((p a j.1.2).mono l))
 case alloc t=>exact hV (Pn S t j)
 case box t x=>exact hV (Pu (p x j) t)
 case build t e9=>exact hV (Pv S t j.1 (ET p j.2))
 case buildSlice t n e9=>exact hV (Pw S t n (λe he=>FC j.1 he) (ET p j.2))
 case load t a=>exact hV (PT S t (p a j))
 case store t a x=>exact A1 (Qf S t (p a j.1) (p x j.2))
 case nilCheck x=>exact P8 S F (p x j)
 case binOp op t x y M=>
  refine hV ?_;have w:=p x j.1.1;have z:=p y j.1.2;have C:∀v,x=.const v->bz x=v/\il x=v:=by rintro v rfl;exact E v
  have D:∀v,y=.const v->bz y=v/\il y=v:=by rintro v rfl;exact E v
  have he:(op=.eql\/op=.neq)->nT Q t x y=true:=by rintro(rfl|rfl)<;>exact j.2
  by_cases q:(op=.eql\/op=.neq)/\(bz x=.tuple #[]\/bz y=.tuple #[])
  .exact a2.dp (J7 op q.1 t x y q.2)
  have B:(op=.eql\/op=.neq)->bz x≠.tuple #[]/\bz y≠.tuple #[]:=λh=>⟨λe=>q ⟨h,.inl e⟩,λe=>q ⟨h,.inr e⟩⟩
  refine(PC S op t x y he w z (λv e=>(C v e).1) (λv e=>(D v e).1) B).a8 ?_;rintro ai _ _ l _;by_cases h:op=.eql\/op=.neq
  .exact Ps S (F.mono l) op h t x y (he h) (w.mono l) (z.mono l) C D (B h).1 (B h).2
  .exact Pt S (F.mono l) op (λe=>h (.inl e)) (λe=>h (.inr e)) t (w.mono l) (z.mono l)
 case unOp op t x=>exact hV (Qi op (p x j))
 case convert s d x=>exact hV (PA S s d j.1 (p x j.2))
 case makeInterface t x=>exact hV (PX S t (p x j))
 case makeFunc fn a b=>
  cases fn<;>first|cases j|skip
  simp only[Bool.and_eq_true]at j;exact hV (PW _ (by rw[F.eb];simpa using j.1) (yb p j.2.1) (yb p j.2.2))
 case makeMap t r=>
  cases r<;>first|cases j|skip
  exact hV (PY S t)
 case makeSlice t l c=>exact hV (PZ S (u.resolve_right (by simp[xA])) t (λe he=>FC j.1.1 he) (p l j.1.2) (p c j.2))
 case slice t x bY K L=>exact hV (Qe S t (p x j.1.1.1) (Ag p j.1.1.2) (Ag p j.1.2) (Ag p j.2))
 case fieldAddr t x k=>exact hV (PI S t k j.1 (p x j.2))
 case field t x k=>exact hV (PH S t k (p x j))
 case indexAddr t x i=>exact hV (PN S t (p x j.1) (p i j.2))
 case index t x i=>exact hV (PM S t (p x j.1) (p i j.2))
 case lookup t m k c=>exact hV (PV S F t j.1.1 (p m j.1.2) (p k j.2) c)
 case range t x=>exact hV (Qa S t (p x j))
 case next x b=>exact hV (P7 S type b (p x j))
 case entry x=>exact hV (PB (p x j))
 case typeAssert x hv t c=>
  cases c<;>first|cases j|skip
  simp only[Bool.and_eq_true]at j;exact hV (Qh S hv t j.1 (p x j.2))
 case extract x k=>exact hV (PF (p x j) k)
 case call c=>exact Py S F H p G c u type j
 case defer c=>exact(Qb F p G c type j).a8 λ_ _ _ _ hd=>.ret (.defer hd)
end
end
end Go.aO
namespace Go.aO
attribute [-simp] Go.Sem.runT_eq
variable{h:Halt}{o:Oper}{v:Value}
section
def p9(Q:Program)(bZ:Bool)(ops:Array Oper):Bool:=ops.all λo=>o6 Q o.op && !(bZ && (match o.op with |.defer _=>true|_=>false))
def codeOk(Q:Program):Bool->Code->Bool
 |_,.skip|_,.exit _|_,.label _|_,.goto _|_,.ret|_,.refuse _=>true
 |bZ,.region _ ops _=>p9 Q bZ ops
 |bZ,.seq a b=>codeOk Q bZ a && codeOk Q bZ b
 |bZ,.cond c a b=>er Q c && (codeOk Q bZ a && codeOk Q bZ b)
 |bZ,.block _ b|bZ,.loop b|bZ,.scope b=>codeOk Q bZ b
 |_,.rangeFunc f _ a b=>er Q f && (codeOk Q true a && codeOk Q true b)
structure Fit(Q:Program)(ρ:Ren):Prop where
 fits:Fits Q ρ
 cW:ρ.cW=λc=>codeOk Q true c=true
 je:∀b,je Q=some b->ρ.r b b
def Fit.mono{Q:Program}{ρ ai:Ren}(h:Fit Q ρ)(k:ρ.le ai):Fit Q ai:=⟨h.fits.mono k,k.cW.trans h.cW,λb e=>k.sub _ _ (h.je b e)⟩
def Nv{Q:Program}{ρ:Ren}(h:∀b,je Q=some b->ρ.r b b)(c:pinned Q v=true):aQ ρ v v:=by
 unfold pinned at c;split at c
 .exact .ptr ⟨h _ (by simpa using c),rfl,rfl⟩
 .cases c
inductive gF(Q:Program)(bZ:Bool)(db:Array Oper->Array Oper->Prop):Code->Code->Prop
 |same {c} (h:codeOk Q bZ c=true):gF Q bZ db c c
 |seq {a b bd aE} (h:gF Q bZ db a bd) (k:gF Q bZ db b aE):gF Q bZ db (.seq a b) (.seq bd aE)
 |cond {c a b bd aE} (ar:er Q c=true) (h:gF Q bZ db a bd) (k:gF Q bZ db b aE):gF Q bZ db (.cond c a b) (.cond c bd aE)
 |block {id a bd} (h:gF Q bZ db a bd):gF Q bZ db (.block id a) (.block id bd)
 |loop {a bd} (h:gF Q bZ db a bd):gF Q bZ db (.loop a) (.loop bd)
 |scope {a bd} (h:gF Q bZ db a bd):gF Q bZ db (.scope a) (.scope bd)
 |Pj {id ops iQ d} (h:db ops iQ):gF Q bZ db (.region id ops d) (.region id iQ d)
inductive iY(Q:Program)(bZ:Bool)(db:Array Oper->Array Oper->Prop)(ρ:Ren):Item->Item->Prop
 |code {c bp} (h:gF Q bZ db c bp):iY Q bZ db ρ (.code c) (.code bp)
 |inBlock (id):iY Q bZ db ρ (.inBlock id) (.inBlock id)
 |inLoop {c bp} (h:gF Q bZ db c bp):iY Q bZ db ρ (.inLoop c) (.inLoop bp)
 |inScope {c bp} (h:gF Q bZ db c bp):iY Q bZ db ρ (.inScope c) (.inScope bp)
 |inRegion {ops} (l) (h:p9 Q bZ ops=true):iY Q bZ db ρ (.inRegion ops l) (.inRegion ops l)
 |inRangeFunc {l aN} (h:ρ.r l aN):iY Q bZ db ρ (.inRangeFunc l) (.inRangeFunc aN)
 |endRangeFunc {l aN} (h:ρ.r l aN):iY Q bZ db ρ (.endRangeFunc l) (.endRangeFunc aN)
 |beginRound:iY Q bZ db ρ .beginRound .beginRound
structure rV(ρ:Ren)(e f:PanicEntry):Prop where
 v:aQ ρ e.v f.v
 recovered:e.recovered=false/\f.recovered=false
 goexit:e.goexit=f.goexit
inductive qB(ρ:Ren):FrameMode->FrameMode->Prop
 |run:qB ρ .run .run
 |returning:qB ρ .returning .returning
 |panicking {a b} (h:cK (rV ρ) a b):qB ρ (.panicking a) (.panicking b)
structure g8(Q P:Program) where
 db:FuncId->Array Oper->Array Oper->Prop
 fn:FuncId->Prop
variable{Q P:Program}
structure cN(K:g8 Q P)(ρ:Ren)(fr bo:Frame):Prop where
 fn:fr.fn=bo.fn
 tmps:bQ ρ fr.tmps bo.tmps
 todo:cK (iY Q fr.roundOf.isSome (K.db fr.fn) ρ) fr.todo bo.todo
 defers:cK (me ρ) fr.defers bo.defers
 mode:qB ρ fr.mode bo.mode
 kind:fr.kind=bo.kind
 kindOk:fr.kind=.normal\/fr.kind=.deferred
 round:fl ρ.r fr.roundOf bo.roundOf
 known:fr.roundOf=none->∃iM im,Q.funcs[fr.fn]?=some iM/\P.funcs[fr.fn]?=some im/\iM.results=im.results
 ret:fr.mode=.returning->fr.roundOf=none
def fj(K:g8 Q P)(f:FuncId)(d im:Func):Prop:=
 (∃c bp,d.body=some c/\im.body=some bp/\d.results=im.results/\gF Q false (K.db f) c bp)\/(∃g,d.body=some (.refuse g))\/K.fn f
inductive oB(K:g8 Q P)(ρ:Ren):Frame->Frame->Prop
 |plain {fr bo} (h:cN K ρ fr bo):oB K ρ fr bo
 |refused {fr bo} (hh) (h:fr.todo = [.code (.refuse hh)]) (hm:fr.mode=.run):oB K ρ fr bo
 |sh {f a b kind} (h:K.fn f) (aa:kind=.normal\/kind=.deferred) (ca:bQ ρ a b) (ae:∀n,ρ.eb f=some n->a.size=n):oB K ρ (Frame.enter Q f a kind) (Frame.enter P f b kind)
variable{K:g8 Q P}{ρ ai:Ren}{bZ:Bool}{db:Array Oper->Array Oper->Prop}
def iY.mono(h:ρ.le ai){a b:Item}(x:iY Q bZ db ρ a b):iY Q bZ db ai a b:=by
 cases x with
 |code k=>exact .code k
 |inBlock id=>exact .inBlock id
 |inLoop k=>exact .inLoop k
 |inScope k=>exact .inScope k
 |inRegion l k=>exact .inRegion l k
 |inRangeFunc k=>exact .inRangeFunc (h.sub _ _ k)
 |endRangeFunc k=>exact .endRangeFunc (h.sub _ _ k)
 |beginRound=>exact .beginRound
def rV.mono(h:ρ.le ai){a b:PanicEntry}(x:rV ρ a b):rV ai a b:=⟨x.v.mono h,x.recovered,x.goexit⟩
def qB.mono(h:ρ.le ai){a b:FrameMode}(x:qB ρ a b):qB ai a b:=by
 cases x with
 |run=>exact .run
 |returning=>exact .returning
 |panicking k=>exact .panicking (k.mono λ_ _=>rV.mono h)
def cN.mono(h:ρ.le ai){a b:Frame}(x:cN K ρ a b):cN K ai a b:=
 ⟨x.fn,x.tmps.mono h,x.todo.mono λ_ _=>iY.mono h,x.defers.mono λ_ _ k=>k.mono h,x.mode.mono h,x.kind,x.kindOk,x.round.mono h.sub,x.known,x.ret⟩
def nX(h:ρ.le ai){a b:List Frame}(x:cK (cN K ρ) a b):cK (cN K ai) a b:=x.mono λ_ _=>cN.mono h
def cK.append{α β:Type}{R:α->β->Prop}{a c:List α}{b d:List β}(h:cK R a b)(k:cK R c d):cK R (a++c) (b++d):=by
 induction h with
 |nil=>exact k
 |cons x _ f=>exact .cons x f
def tk:aQ ρ undef undef:=.tuple rfl aF
def zv{a b:Array Value}(h:bQ ρ a b)(t:Nat):aQ ρ (a.getD t undef) (b.getD t undef):=by
 rw[Array.getD_eq_getD_getElem?,Array.getD_eq_getD_getElem?];rcases bQ.get? h t with⟨x,y,c,d,f⟩|⟨c,d⟩
 .rw[c,d];exact f
 .rw[c,d];exact tk
def tY(F:Fit Q ρ){fr bo:Frame}(h:bQ ρ fr.tmps bo.tmps)(x:Operand)(az:er Q x=true):aQ ρ (fr.eval x) (bo.eval x):=by
 cases x with
 |tmp t=>exact zv h t
 |const v=>
  simp only[er,Bool.or_eq_true]at az;rcases az with az|az
  .exact BW 64 v az
  .exact Nv F.je az
 |global g=>cases az
 |func f=>exact .func (.func f (by rw[F.fits.eb];simpa [er]using az)) rfl aF rfl aF
def Kq(id:Nat){a b:List Item}(h:cK (iY Q bZ db ρ) a b):fl (cK (iY Q bZ db ρ)) (exitTo id a) (exitTo id b):=by
 induction h with
 |nil=>exact .none
 |cons x t c=>
  cases x with
  |inBlock d=>
   unfold exitTo;split
   .exact .some t
   .exact c
  |_=>unfold exitTo;exact c
def KF{c:Code}(l:Nat)(h:codeOk Q bZ c=true):∀r,findLabel c l=some r->codeOk Q bZ r=true:=by
 induction c with
 |seq a b f g=>
  intro r d;simp only[codeOk,Bool.and_eq_true]at h;unfold findLabel at d;rcases e:findLabel a l with _|x
  .rw[e]at d;exact g h.2 r d
  .rw[e]at d
   cases d;simp only[codeOk,Bool.and_eq_true];exact⟨f h.1 x e,h.2⟩
 |label m=>
  intro r d;unfold findLabel at d;split at d
  .cases d;rfl
  .cases d
 |_=>intro r d;unfold findLabel at d;cases d
def KE(l:Nat){c bp:Code}(h:gF Q bZ db c bp):fl (gF Q bZ db) (findLabel c l) (findLabel bp l):=by
 induction h with
 |same h=>
  rcases e:findLabel _ l with _|r
  .exact .none
  .exact .some (.same (KF l h r e))
 |seq _ k d g=>
  unfold findLabel;revert d;generalize findLabel _ l=x;generalize findLabel _ l=y;intro d;cases d with
  |none=>exact g
  |some f=>exact .some (.seq f k)
 |_=>unfold findLabel;exact .none
def KZ(l:Nat){a b:List Item}(h:cK (iY Q bZ db ρ) a b):fl (cK (iY Q bZ db ρ)) (gotoIn l a) (gotoIn l b):=by
 induction h with
 |nil=>exact .none
 |cons x t d=>
  cases x with
  |inScope c=>
   unfold gotoIn;have e:=KE l c;revert e;generalize findLabel _ l=x;generalize findLabel _ l=y;intro e;cases e with
   |none=>exact d
   |some he=>exact .some (.cons (.code he) (.cons (.inScope c) t))
  |_=>unfold gotoIn;exact d
def Et{ops:Array Oper}(h:p9 Q bZ ops=true){i:Nat}(d:ops[i]?=some o):o6 Q o.op=true/\(bZ=true->∀c,o.op≠.defer c):=by unfold p9 at h;rw[Array.all_eq_true]at h;have f:=bu d;have:=h i f;rw[fb f]at d;rw[bD d]at this;simp only[Bool.and_eq_true,Bool.not_eq_true']at this;refine⟨this.1,λj c g=>?_⟩;rw[j,g]at this;simp at this
def qX{fr bo:Frame}(h:cN K ρ fr bo){w:Value}(F:aQ ρ v w):cN K ρ (fr.finish v) (bo.finish w):=by
 obtain⟨f,c,z,g,j,m,n,o,p,q⟩:=h;obtain⟨fn,tmps,todo,defers,mode,kind,roundOf⟩:=fr;obtain⟨D,B,J,C,H,G,I⟩:=bo;dsimp only at f c z g j m n o p q;cases z with
 |nil=>exact⟨f,c,.nil,g,j,m,n,o,p,q⟩
 |@cons _ _ lt mt x t=>
  have reg:∀{ops y:Array Oper} {i:Nat} {rest:List Nat},iY Q roundOf.isSome (K.db fn) ρ (.inRegion ops rest) (.inRegion y rest)->((ops[i]?).bind (·.dst)=(y[i]?).bind (·.dst))->
   cN K ρ {fn,tmps:=match (ops[i]?).bind (·.dst)with|some d=>tmps.setIfInBounds d v|none=>tmps,todo:=.inRegion ops rest::lt,defers,mode,kind,roundOf} {fn:=D,tmps:=match (y[i]?).bind (·.dst)with|some d=>B.setIfInBounds d w|none=>B,todo:=.inRegion y rest::mt,defers:=C,mode:=H,kind:=G,roundOf:=I}:=by
   intro ops y i rest E hd;refine⟨f,?_,.cons E t,g,j,m,n,o,p,q⟩;dsimp only;rw[<-hd];cases (ops[i]?).bind (·.dst)with
   |none=>exact c
   |some d=>exact c.set d F
  cases x with
  |inRegion l r=>cases l with
   |nil=>exact⟨f,c,.cons (.inRegion [] r) t,g,j,m,n,o,p,q⟩
   |cons i rest=>exact reg (.inRegion rest r) rfl
  |inRangeFunc r=>exact⟨f,c,.cons (.endRangeFunc r) t,g,j,m,n,o,p,q⟩
  |beginRound=>exact⟨f,c,t,g,j,m,n,o,p,q⟩
  |code u=>exact⟨f,c,.cons (.code u) t,g,j,m,n,o,p,q⟩
  |inBlock id=>exact⟨f,c,.cons (.inBlock id) t,g,j,m,n,o,p,q⟩
  |inLoop u=>exact⟨f,c,.cons (.inLoop u) t,g,j,m,n,o,p,q⟩
  |inScope u=>exact⟨f,c,.cons (.inScope u) t,g,j,m,n,o,p,q⟩
  |endRangeFunc r=>exact⟨f,c,.cons (.endRangeFunc r) t,g,j,m,n,o,p,q⟩
def xt{fr bo:Frame}(h:cN K ρ fr bo){a b:List PanicEntry}(k:cK (rV ρ) a b):cN K ρ (fr.raise a) (bo.raise b):=by
 obtain⟨c,d,f,g,i,j,l,n,o,p⟩:=h;unfold Frame.raise;revert i;generalize fr.mode=m;generalize bo.mode=dd;intro i;cases i with
 |run=>exact⟨c,d,f,g,.panicking k,j,l,n,o,bR⟩
 |returning=>exact⟨c,d,f,g,.panicking k,j,l,n,o,bR⟩
 |panicking hp=>exact⟨c,d,f,g,.panicking (k.append hp),j,l,n,o,bR⟩
def pP(H:fe (fj K) Q P)(f:FuncId){a b:Array Value}(h:bQ ρ a b)(r:∀n,ρ.eb f=some n->a.size=n)(kind:CallKind)(o:kind=.normal\/kind=.deferred):oB K ρ (Frame.enter Q f a kind) (Frame.enter P f b kind):=by
 cases e:Q.funcs[f]? with
 |none=>exact .refused _ (by simp[Frame.enter,e];rfl) rfl
 |some m=>
 obtain⟨_,B⟩:=H.fn f m e;cases B with
 |none d _ _ _=>exact .refused _ (by simp[Frame.enter,e,d];rfl) rfl
 |ext _ _ _ d=>exact .refused _ (by simp[Frame.enter,e,d];rfl) rfl
 |same im hp d E F C w=>
  rcases w with⟨c,bp,j,p,q,u⟩|⟨D,j⟩|af
  .refine .plain ⟨rfl,?_,?_,.nil,.run,rfl,o,.none,λ_=>⟨m,im,e,hp,q⟩,bR⟩
   .simp only[Frame.enter,e,hp,Option.map_some,Option.getD_some,<-C,<-h.1]
    refine h.append ⟨aF,λi x y g l=>?_⟩;rw[Array.getElem?_replicate]at g l;split at g
    .rename_i z
     rw[if_pos z]at l;cases g;cases l;exact tk
    .cases g
   .simp only[Frame.enter,e,hp,j,p,Option.bind_some,Option.getD_some]
    exact .cons (.code u) .nil
  .exact .refused D (by simp[Frame.enter,e,j]) rfl
  .exact .sh af o h r
end
section
variable{Q P:Program}{K:g8 Q P}{ρ ai:Ren}
def hJ(K:g8 Q P)(ρ:Ren)(w w':World)(dS base:List Frame):GStep->GStep->Prop
 |.go g aG _,r=>(∃(ai:Ren) (cs:List Frame) (bo:Frame) (cs':List Frame) (bJ:World) (fg:Array Event),r=.go ⟨bo,cs'++base,.running,none,none⟩ bJ fg/\
  g=⟨g.frame,cs++dS,.running,none,none⟩/\Eff ρ ai w aG w' bJ/\gm ai aG bJ/\(oB K ai g.frame bo/\(cN K ai g.frame bo\/cs≠[]))/\cK (cN K ai) cs cs'/\∀e∈fg,fc ai w e)\/
  ∃c c₁:Frame,dS=c::g.callers/\g=⟨c₁,g.callers,.running,none,none⟩/\((∃v,c₁=c.finish v)\/(∃d,c₁=c.raise d)\/c₁=c\/∃m,c₁={c with mode:=m}/\c.mode≠.panicking [])
 |.ended ..,_=>True
 |_,_=>False
section
variable{w w' aG bJ:World}{dS base cs cs':List Frame}{fr bo:Frame}{es fg:Array Event}
def hJ.sD(he:Eff ρ ai w aG w' bJ)(g:gm ai aG bJ)(c:cN K ai fr bo)(d:cK (cN K ai) cs cs')(f:∀e∈fg,fc ai w e):
 hJ K ρ w w' dS base (.go ⟨fr,cs++dS,.running,none,none⟩ aG es) (.go ⟨bo,cs'++base,.running,none,none⟩ bJ fg):=
 .inl ⟨ai,cs,bo,cs',bJ,fg,rfl,rfl,he,g,⟨.plain c,.inl c⟩,d,f⟩
def hJ.mk(he:Eff ρ ai w aG w' bJ)(g:dA ai aG bJ)(f:cN K ai fr bo)(c:cK (cN K ai) cs cs')(d:∀e∈fg,fc ai w e):
 hJ K ρ w w' dS base (.go ⟨fr,cs++dS,.running,none,none⟩ aG es) (.go ⟨bo,cs'++base,.running,none,none⟩ bJ fg):=.sD he g.hrel f c d
def hJ.Ca{c:Frame}(he:Eff ρ ai w aG w' bJ)(h:gm ai aG bJ)(g:oB K ai fr bo)(d:cK (cN K ai) (c::cs) cs')(f:∀e∈fg,fc ai w e):
 hJ K ρ w w' dS base (.go ⟨fr,(c::cs)++dS,.running,none,none⟩ aG es) (.go ⟨bo,cs'++base,.running,none,none⟩ bJ fg):=
 .inl ⟨ai,c::cs,bo,cs',bJ,fg,rfl,rfl,he,h,⟨g,.inr (List.cons_ne_nil _ _)⟩,d,f⟩
def hJ.call{c:Frame}(he:Eff ρ ai w aG w' bJ)(h:dA ai aG bJ)(g:oB K ai fr bo)(d:cK (cN K ai) (c::cs) cs')(f:∀e∈fg,fc ai w e):
 hJ K ρ w w' dS base (.go ⟨fr,(c::cs)++dS,.running,none,none⟩ aG es) (.go ⟨bo,cs'++base,.running,none,none⟩ bJ fg):=.Ca he h.hrel g d f
def hJ.stay(f:dA ρ w w')(d:cN K ρ fr bo)(c:cK (cN K ρ) cs cs'):
 hJ K ρ w w' dS base (.go ⟨fr,cs++dS,.running,none,none⟩ w) (.go ⟨bo,cs'++base,.running,none,none⟩ w'):=
 .mk Eff.refl f (d) c aF
def nv(p:Program)(f:FuncId)(es:Array Event):∀e∈seen p f es,e∈es:=by
 have key:∀(f:Bool×Array Event->Event->Bool×Array Event),(∀x e y,y∈(f x e).2->y∈x.2\/y=e)->∀(l:List Event) (x:Bool×Array Event) (y:Event),y∈(l.foldl f x).2->y∈x.2\/y∈l:=by
  intro f c l;induction l with
  |nil=>intro x y h;exact .inl h
  |cons e l d=>
   intro x y h;rcases d (f x e) y h with k|k
   .rcases c x e y k with k|k
    .exact .inl k
    .exact .inr (by rw[k];exact List.mem_cons_self)
   .exact .inr (List.mem_cons_of_mem _ k)
 intro e he;unfold seen at he;dsimp only at he;rw[<-Array.foldl_toList]at he;rcases key _ (by
  rintro⟨q,g⟩ e y;dsimp only;split
  .exact .inl
  .intro hm
   dsimp only at hm;split at hm
   .exact .inl hm
   .exact Array.mem_push.1 hm) es.toList _ e he with k|k
 .simp at k
 .exact Array.mem_toList_iff.1 k
def qD(fr:Frame):Prop:=∀d b r s k,fr.todo≠.call d b r s::k
def cN.uE(h:cN K ρ fr bo):qD fr/\qD bo:=by
 have t:=h.todo;constructor
 .intro d b r s k e
  rw[e]at t;generalize bo.todo=x at t;cases t with|cons h _=>cases h
 .intro d b r s k e
  rw[e]at t;generalize fr.todo=x at t;cases t with|cons h _=>cases h
def cN.early(h:cN K ρ fr bo):(fr.kind == .early)=false/\(bo.kind == .early)=false:=by
 rcases h.kindOk with k|k
 .exact⟨by rw[k];rfl,by rw[<-h.kind,k];rfl⟩
 .exact⟨by rw[k];rfl,by rw[<-h.kind,k];rfl⟩
section
variable{p:Program}{s:Sem Next}
def r6(d:s.runT p w #[]=(.ok (.value v) aG,es))(c:(fr.kind == .early)=false):stepG.apply p true fr cs none s w=.go ⟨fr.finish v,cs,.running,none,none⟩ aG (seen p fr.fn es):=by simp[stepG.apply,d,c,GStep.after]
def tL(d:s.runT p w #[]=(.ok .skip aG,es))(c:(fr.kind == .early)=false):stepG.apply p true fr cs none s w=.go ⟨fr.finish undef,cs,.running,none,none⟩ aG (seen p fr.fn es):=by simp[stepG.apply,d,c,GStep.after]
def vB{d:Deferred}(f:s.runT p w #[]=(.ok (.defer d) aG,es))(c:(fr.kind == .early)=false):stepG.apply p true fr cs none s w=.go ⟨{fr with defers:=d::fr.defers}.finish undef,cs,.running,none,none⟩ aG (seen p fr.fn es):=by simp[stepG.apply,f,c,GStep.after]
def vC{f:FuncId}{a:Array Value}(j:s.runT p w #[]=(.ok (.enter f a) aG,es))(g:(fr.kind == .early)=false)(c:qD fr):stepG.apply p true fr cs none s w=.go ⟨Frame.enter p f a .normal,fr::cs,.running,none,none⟩ aG (seen p fr.fn es):=by
 obtain⟨fn,tmps,todo,defers,mode,kind,roundOf⟩:=fr;unfold qD at c;dsimp only at c g;have:∀x:CallKind,(∀d r s k,todo≠.call d true r s::k)->(match todo with |.call _ true _ _::_=>x|_=>.normal)=.normal:=by
  intro x h;split
  .exact absurd rfl (h _ _ _ _)
  .rfl
 simp only[stepG.apply,if_true,j,g,GStep.after];rcases todo with _|⟨i,k⟩
 .simp
 .cases i with
  |call d b r s=>exact absurd rfl (c d b r s k)
  |_=>simp
def vE{l:Nat}{f:FuncId}{a:Array Value}{c d:Code}(h:s.runT p w #[]=(.ok (.round l f a c d) aG,es))(g:(fr.kind == .early)=false):stepG.apply p true fr cs none s w=.go ⟨Frame.round l f a c d .normal,fr::cs,.running,none,none⟩ aG (seen p fr.fn es):=by simp[stepG.apply,h,g,GStep.after]
def vD(d:s.runT p w #[]=(.halt (.panic v) aG,es))(c:(fr.kind == .early)=false):stepG.apply p true fr cs none s w=.go ⟨fr.raise [{v,recovered:=false}],cs,.running,none,none⟩ aG (seen p fr.fn es):=by simp[stepG.apply,d,c,GStep.after]
def yF(d:s.runT p w #[]=(.halt h aG,es))(c:jU h):∃o f ba,stepG.apply p true fr cs none s w=.ended o f ba:=by
 cases h with
 |stuck i=>exact⟨_,_,_,by simp only[stepG.apply,if_true,d,GStep.after];exact rfl⟩
 |unsupported u=>
  cases u with
  |initOrder g=>exact c.elim
  |_=>exact⟨_,_,_,by simp only[stepG.apply,if_true,d,GStep.after];exact rfl⟩
 |_=>exact c.elim
end
def Fl(F:Fit Q ρ){l aN:Nat}(j:ρ.r l aN)(f:FuncId){a b:Array Value}(h:bQ ρ a b){c d:Code}(g:ρ.cW c/\ρ.cW d)(kind:CallKind)(i:kind=.normal\/kind=.deferred):
 cN K ρ (Frame.round l f a c d kind) (Frame.round aN f b c d kind):=by
 rw[F.cW]at g;exact⟨rfl,h,.cons (.code (.same g.1)) (.cons .beginRound (.cons (.code (.same g.2)) .nil)),.nil,.run,rfl,i,.some j,bR,bR⟩
def xB(p:Program){α:Type}(s:Sem α)(w:World){r:Result α}(h:s.run p w=r):∃es,s.runT p w #[]=(r,es):=⟨(s.runT p w #[]).2,by rw[<-h,<-Sem.runT_fst p s w #[]]⟩
def yH{l:Bool}(F:Fit Q ρ)(H:fe (fj K) Q P){s aX:Sem Next}(T:ef l Q P h2 s ρ aX)(U:dA ρ w w')(r:cN K ρ fr bo)(D:cK (cN K ρ) cs cs'):
 hJ K ρ w w' dS base (stepG.apply Q true fr (cs++dS) none s w) (stepG.apply P true bo (cs'++base) none aX w'):=by
 have h:=ef.run T U;have k:=r.early;have E:=r.uE;rcases e:s.run Q w with⟨n,aG⟩|⟨x,aG⟩
 .rw[e]at h
  obtain⟨es,i⟩:=xB Q s w e;obtain⟨ai,c9,bJ,ba,u,he,m,S,z⟩:=h;have j:aX.runT P w' #[]=(.ok c9 bJ,ba):=by rw[u];simp
  have g:=r.mono he.le;have q:=nX he.le D;have bz:∀e∈seen P bo.fn ba,fc ai w e:=λe h=>z e (nv _ _ _ e h)
  cases S with
  |value C=>
   rw[r6 i k.1,r6 j k.2];exact .sD he m.1 ((qX g C)) q bz
  |skip=>
   rw[tL i k.1,tL j k.2];exact .sD he m.1 ((qX g tk)) q bz
  |enter f y L=>
   rw[vC i k.1 E.1,vC j k.2 E.2];exact .Ca (cs:=cs) (cs':=bo::cs') he m.1 (pP H f y L .normal (.inl rfl)) (.cons g q) bz
  |round R f y c d B=>
   rw[vE i k.1,vE j k.2];exact .sD (cs:=fr::cs) (cs':=bo::cs') he m.1 (Fl (F.mono he.le) R f y B .normal (.inl rfl)) (.cons g q) bz
  |@defer d G hd=>
   rw[vB i k.1,vB j k.2];have M:cN K ai {fr with defers:=d::fr.defers} {bo with defers:=G::bo.defers}:=⟨g.fn,g.tmps,g.todo,.cons hd g.defers,g.mode,g.kind,g.kindOk,g.round,g.known,g.ret⟩
   exact .sD he m.1 ((qX M tk)) q bz
 .rw[e]at h
  obtain⟨es,i⟩:=xB Q s w e;have J:jU x->hJ K ρ w w' dS base (stepG.apply Q true fr (cs++dS) none s w) (stepG.apply P true bo (cs'++base) none aX w'):=by intro B;obtain⟨o,W,ba,I⟩:=yF (p:=Q) (fr:=fr) (cs:=cs++dS) i B;rw[I];trivial
  cases x with
  |panic v=>
   obtain⟨ai,V,bJ,ba,u,he,m,C,z⟩:=h;have j:aX.runT P w' #[]=(.halt (.panic V) bJ,ba):=by rw[u];simp
   rw[vD i k.1,vD j k.2];exact .sD he m.1 ((xt (r.mono he.le) (.cons ⟨C,⟨rfl,rfl⟩,rfl⟩ .nil))) (nX he.le D) λe h=>z e (nv _ _ _ e h)
  |_=>exact J h
end
end
section
variable{Q P:Program}{K:g8 Q P}{ρ ai:Ren}{bZ:Bool}{db:Array Oper->Array Oper->Prop}
section
variable{w w' aG bJ:World}{dS base cs cs':List Frame}{fr bo:Frame}{es fg:Array Event}
def I0:∀{c:Code},codeOk Q true c=true->codeOk Q false c=true:=by
 intro c;induction c with
 |region id ops d=>
  intro h;simp only[codeOk,p9,Array.all_eq_true,Bool.and_eq_true]at h ⊢;intro i m;exact⟨(h i m).1,aF⟩
 |seq a b j l=>
  intro h;simp only[codeOk,Bool.and_eq_true]at h ⊢;exact⟨j h.1,l h.2⟩
 |cond c a b j l=>
  intro h;simp only[codeOk,Bool.and_eq_true]at h ⊢;exact⟨h.1,j h.2.1,l h.2.2⟩
 |block id b g=>intro h;simp only[codeOk]at h ⊢;exact g h
 |loop b g=>intro h;simp only[codeOk]at h ⊢;exact g h
 |scope b g=>intro h;simp only[codeOk]at h ⊢;exact g h
 |rangeFunc f e9 a b _ _=>intro h;simpa only[codeOk]using h
 |_=>intro h;rfl
def IZ{c:Code}(h:codeOk Q true c=true)(bZ:Bool):codeOk Q bZ c=true:=by
 cases bZ
 .exact I0 h
 .exact h
def OW{a b c:Code}(h:gF Q bZ db (.seq a b) c):∃d f,c=.seq d f/\gF Q bZ db a d/\gF Q bZ db b f:=by
 cases h with
 |same h=>simp only[codeOk,Bool.and_eq_true]at h;exact⟨_,_,rfl,.same h.1,.same h.2⟩
 |seq h k=>exact⟨_,_,rfl,h,k⟩
def I2{x:Operand}{a b c:Code}(h:gF Q bZ db (.cond x a b) c):∃d f,c=.cond x d f/\er Q x=true/\gF Q bZ db a d/\gF Q bZ db b f:=by
 cases h with
 |same h=>simp only[codeOk,Bool.and_eq_true]at h;exact⟨_,_,rfl,h.1,.same h.2.1,.same h.2.2⟩
 |cond g h k=>exact⟨_,_,rfl,g,h,k⟩
def Ib{id:Nat}{a c:Code}(h:gF Q bZ db (.block id a) c):∃d,c=.block id d/\gF Q bZ db a d:=by
 cases h with
 |same h=>exact⟨_,rfl,.same (by simpa only[codeOk]using h)⟩
 |block h=>exact⟨_,rfl,h⟩
def LS{a c:Code}(h:gF Q bZ db (.loop a) c):∃d,c=.loop d/\gF Q bZ db a d:=by
 cases h with
 |same h=>exact⟨_,rfl,.same (by simpa only[codeOk]using h)⟩
 |loop h=>exact⟨_,rfl,h⟩
def OO{a c:Code}(h:gF Q bZ db (.scope a) c):∃d,c=.scope d/\gF Q bZ db a d:=by
 cases h with
 |same h=>exact⟨_,rfl,.same (by simpa only[codeOk]using h)⟩
 |scope h=>exact⟨_,rfl,h⟩
def N8{id:Nat}{ops:Array Oper}{d:Bool}{c:Code}(h:gF Q bZ db (.region id ops d) c):∃f,c=.region id f d/\((ops=f/\p9 Q bZ ops=true)\/db ops f):=by
 cases h with
 |same h=>exact⟨_,rfl,.inl ⟨rfl,by simpa only[codeOk]using h⟩⟩
 |Pj h=>exact⟨_,rfl,.inr h⟩
def fc.through{aR:Ren}{g h:World}(he:Eff ρ ai w aG w' bJ)(k:Eff ai aR aG g bJ h){e:Event}(x:fc aR aG e):fc aR w e:=by
 refine x.back (λb c d f=>(he.guard b c d f).1) ?_;rintro b ⟨c,d⟩;rcases k.new b c d with x|⟨x,_⟩
 .rcases he.new b c x with y|⟨y,_⟩
  .exact .inl ⟨_,y⟩
  .exact .inr y
 .exact .inr (cL he.rJ x)
def hJ.after{r d:GStep}(he:Eff ρ ai w aG w' bJ)(q:dA ai aG bJ)(n:∀e∈fg,fc ai w e)(h:hJ K ai aG bJ dS base r d):hJ K ρ w w' dS base (GStep.after es r) (GStep.after fg d):=by
 cases r with
 |go g z ba=>
  rcases h with⟨aR,cs,bo,cs',B,f,rfl,p,c,i,j,l,m⟩|h
  case inr=>exact .inr h
  refine .inl ⟨aR,cs,bo,cs',B,fg++f,rfl,p,he.trans q c,i,j,l,λe u=>?_⟩;rcases Array.mem_append.1 u with y|y
  .exact(n e y).mono c.le
  .exact fc.through he c (m e y)
 |ended o z ba=>trivial
 |_=>exact h.elim
def CG(main C:Bool)(he:Eff ρ ai w aG w' bJ)(o:dA ai aG bJ)(i:cN K ai fr bo)(y:cK (cN K ai) cs cs')(B:dS≠[]){q:Value}(z:aQ ai v q)(j:∀e∈fg,fc ai w e):
 hJ K ρ w w' dS base (GStep.after es (doReturn Q main fr (cs++dS) none v aG)) (GStep.after fg (doReturn P C bo (cs'++base) none q bJ)):=by
 cases y with
 |nil=>
  rcases dS with _|⟨c,rest⟩
  .exact absurd rfl B
  rcases i.kindOk with k|k
  .simp only[doReturn,List.nil_append,k,GStep.after]
   exact .inr ⟨c,c.finish v,rfl,rfl,.inl ⟨v,rfl⟩⟩
  .simp only[doReturn,List.nil_append,k,GStep.after]
   obtain⟨fn,tmps,todo,defers,mode,kind,roundOf⟩:=c;refine .inr ⟨_,_,rfl,rfl,?_⟩;cases mode with
   |run=>exact .inr (.inr (.inl rfl))
   |returning=>exact .inr (.inr (.inl rfl))
   |panicking ch=>
    rcases ch with _|⟨⟨v,r,g⟩,L⟩
    .exact .inr (.inr (.inl rfl))
    .cases r
     .exact .inr (.inr (.inl rfl))
     .refine .inr (.inr (.inr ?_))
      dsimp only;split<;>exact⟨_,rfl,by intro h;cases h⟩
 |@cons c bp l m f n=>
  have d:=i.kind;rcases i.kindOk with k|k
  .rw[k]at d
   simp only[doReturn,List.cons_append,k,<-d,GStep.after];exact .mk he o ((qX f z)) n (by simpa using j)
  .rw[k]at d
   have hm:=f.mode;obtain⟨fn,tmps,todo,defers,mode,kind,roundOf⟩:=c;obtain⟨H,R,S,G,J,I,M⟩:=bp;dsimp only at hm;have fin:=hJ.mk (dS:=dS) (base:=base) (es:=es++#[]) (fg:=fg++#[]) he o (f) n (by simpa using j);cases hm with
   |run=>simpa only[doReturn,List.cons_append,k,<-d,GStep.after]using fin
   |returning=>simpa only[doReturn,List.cons_append,k,<-d,GStep.after]using fin
   |panicking hp=>
    cases hp with
    |nil=>simpa only[doReturn,List.cons_append,k,<-d,GStep.after]using fin
    |@cons a b _ _ u _=>
     obtain⟨gA,eb,D⟩:=a;obtain⟨bv,F,E⟩:=b;obtain⟨_,⟨r1,p⟩,_⟩:=u;dsimp only at r1 p;subst r1;subst p;simpa only[doReturn,List.cons_append,k,<-d,GStep.after]using fin
end
end
section
variable{Q P:Program}{K:g8 Q P}{ρ ai:Ren}{bZ:Bool}{db:Array Oper->Array Oper->Prop}
section
variable{w w' aG bJ:World}{dS base cs cs':List Frame}{fr bo:Frame}{es fg:Array Event}
def Ft{l:Bool}{α β:Type}{A:Ren->α->β->Prop}{s:Sem α}{aX:Sem β}(n:ef l Q P A s ρ aX)(o:dA ρ w w'):
 (∃a b aG bJ ai ba c,s.runT Q w #[]=(.ok a aG,ba)/\aX.runT P w' #[]=(.ok b bJ,c)/\Eff ρ ai w aG w' bJ/\tJ l ai aG bJ/\A ai a b/\∀e∈c,fc ai w e)\/
 (∃v m aG bJ ai ba c,s.runT Q w #[]=(.halt (.panic v) aG,ba)/\aX.runT P w' #[]=(.halt (.panic m) bJ,c)/\Eff ρ ai w aG w' bJ/\tJ l ai aG bJ/\aQ ai v m/\∀e∈c,fc ai w e)\/
 (∃h aG ba,s.runT Q w #[]=(.halt h aG,ba)/\jU h):=by
 have h:=ef.run n o;rcases e:s.run Q w with⟨a,aG⟩|⟨x,aG⟩
 .rw[e]at h
  obtain⟨es,d⟩:=xB Q s w e;obtain⟨ai,b,bJ,ba,f,he,j,i,g⟩:=h;exact .inl ⟨a,b,aG,bJ,ai,es,ba,d,by rw[f];simp,he,j,i,g⟩
 .rw[e]at h
  obtain⟨es,d⟩:=xB Q s w e;cases x with
  |panic v=>
   obtain⟨ai,b,bJ,ba,f,he,j,i,g⟩:=h;exact .inr (.inl ⟨v,b,aG,bJ,ai,es,ba,d,by rw[f];simp,he,j,i,g⟩)
  |_=>exact .inr (.inr ⟨_,aG,es,d,h⟩)
def pb{α β:Type}{A:Ren->α->β->Prop}{s:Sem α}{aX:Sem β}(m:a2 Q P A s ρ aX)(n:dA ρ w w'):
 (∃a b aG bJ ai ba c,s.runT Q w #[]=(.ok a aG,ba)/\aX.runT P w' #[]=(.ok b bJ,c)/\Eff ρ ai w aG w' bJ/\dA ai aG bJ/\A ai a b/\∀e∈c,fc ai w e)\/
 (∃v l aG bJ ai ba c,s.runT Q w #[]=(.halt (.panic v) aG,ba)/\aX.runT P w' #[]=(.halt (.panic l) bJ,c)/\Eff ρ ai w aG w' bJ/\dA ai aG bJ/\aQ ai v l/\∀e∈c,fc ai w e)\/
 (∃h aG ba,s.runT Q w #[]=(.halt h aG,ba)/\jU h):=by
 rcases Ft m n with⟨a,b,aG,bJ,ai,ba,c,d,f,g,i,j⟩|⟨a,b,aG,bJ,ai,ba,c,d,f,g,i,j⟩|h
 .exact .inl ⟨a,b,aG,bJ,ai,ba,c,d,f,g,i.2 rfl,j⟩
 .exact .inr (.inl ⟨a,b,aG,bJ,ai,ba,c,d,f,g,i.2 rfl,j⟩)
 .exact .inr (.inr h)
def Plain(K:g8 Q P)(fr bo:Frame):Prop:=∀id ops c d k f,fr.todo=.code (.region id ops d)::k->bo.todo=.code (.region id c d)::f->¬K.db fr.fn ops c
def Sy{ops g:Array Oper}(h:∀i:Nat,(ops[i]?).bind (·.dst)=(g[i]?).bind (·.dst)){a b:Array Value}(k:bQ ρ a b)(j:Nat):yielded ops a j=yielded g b j:=by
 unfold yielded;rw[<-h j];cases (ops[j]?).bind (·.dst)with
 |none=>rfl
 |some d=>
  rcases bQ.get? k d with⟨x,y,c,f,m⟩|⟨c,f⟩
  .simp only[Option.bind_some,c,f]
   cases m with
   |gI n l=>cases y<;>first|rfl|exact l.elim
   |_=>rfl
  .simp only[Option.bind_some,c,f]
def mB(p:Program)(main:Bool)(fr:Frame)(cs:List Frame)(w:World)(c:Option Code):GStep:=
 match fr.roundOf with
 |none=>if c matches none|some .ret then .go ⟨{fr with mode:=.returning},cs,.running,none,none⟩ w else .ended (.stuck "exit, goto: no such block or label" (fr.pos p)) w
 |some l=>
  let (r,es):=(Instr.endRound l c).runT p w #[];GStep.after (seen p fr.fn es) <|match r with
  |.ok v w=>doReturn p main fr cs none v w
  |.halt _ w=>.ended (.stuck "range over a function: no such loop" (fr.pos p)) w
section
variable(p:Program)(main:Bool)(fn:FuncId)(tmps:Array Value)(k:List Item)(defers:List Deferred)(kind:CallKind)(ro:Option Nat)(st:GoStatus)(off:Option (Array CommCase×CommShape))(id:Nat)
def step_end:stepG p main ⟨⟨fn,tmps,[],defers,.run,kind,ro⟩,cs,st,none,off⟩ w=mB p main ⟨fn,tmps,[],defers,.run,kind,ro⟩ cs w none:=by cases ro<;>rfl
def step_ret:stepG p main ⟨⟨fn,tmps,.code .ret::k,defers,.run,kind,ro⟩,cs,st,none,off⟩ w=mB p main ⟨fn,tmps,.code .ret::k,defers,.run,kind,ro⟩ cs w (some .ret):=by cases ro<;>rfl
def step_exit:stepG p main ⟨⟨fn,tmps,.code (.exit id)::k,defers,.run,kind,ro⟩,cs,st,none,off⟩ w =
 (exitTo id k).elim (mB p main ⟨fn,tmps,.code (.exit id)::k,defers,.run,kind,ro⟩ cs w (some (.exit id))) λnC=>.go ⟨⟨fn,tmps,nC,defers,.run,kind,ro⟩,cs,.running,none,none⟩ w:=by
 cases ro<;>rfl
def step_goto:stepG p main ⟨⟨fn,tmps,.code (.goto id)::k,defers,.run,kind,ro⟩,cs,st,none,off⟩ w =
 (gotoIn id k).elim (mB p main ⟨fn,tmps,.code (.goto id)::k,defers,.run,kind,ro⟩ cs w (some (.goto id))) λnC=>.go ⟨⟨fn,tmps,nC,defers,.run,kind,ro⟩,cs,.running,none,none⟩ w:=by
 cases ro<;>rfl
end
def Lu(F:Fit Q ρ)(p:dA ρ w w')(d:cN K ρ fr bo)(m:cK (cN K ρ) cs cs')(D:dS≠[])(main r:Bool)(g:Option Code)(B:∀c,g=some c->codeOk Q true c=true):
 hJ K ρ w w' dS base (mB Q main fr (cs++dS) w g) (mB P r bo (cs'++base) w' g):=by
 obtain⟨fn,tmps,todo,defers,mode,kind,ro⟩:=fr;obtain⟨y,G,H,u,L,E,M⟩:=bo;have j:=d.round;dsimp only at j;unfold mB;cases j with
 |none=>
  dsimp only;have fin:hJ K ρ w w' dS base (.go ⟨⟨fn,tmps,todo,defers,.returning,kind,none⟩,cs++dS,.running,none,none⟩ w) (.go ⟨⟨y,G,H,u,.returning,E,none⟩,cs'++base,.running,none,none⟩ w'):=
   .stay p ⟨d.fn,d.tmps,d.todo,d.defers,.returning,d.kind,d.kindOk,.none,d.known,λ_=>rfl⟩ m
  cases g with
  |none=>exact fin
  |some c=>cases c<;>first|exact fin|trivial
 |@some l aN C=>
  dsimp only;rcases pb (FK (Q:=Q) (P:=P) C g (λc e=>by rw[F.cW];exact B c e)) p with⟨v,I,aG,bJ,ai,ba,z,f,i,he,q,o,n⟩|⟨v,I,aG,bJ,ai,ba,z,f,i,he,q,o,n⟩|⟨h,aG,ba,f,J⟩
  .rw[f,i]
   exact CG main r he q (d.mono he.le) (nX he.le m) D o λe h=>n e (nv _ _ _ e h)
  .rw[f]
   trivial
  .rw[f]
   trivial
def R3{ops:Array Oper}{a b:Array Value}(k:bQ ρ a b)(i:Nat):
 ((ops[i]?).map (Region.wanted · (yielded ops a))).getD false=((ops[i]?).map (Region.wanted · (yielded ops b))).getD false:=by
 have c:yielded ops a=yielded ops b:=funext λj=>Sy (λ_=>rfl) k j
 rw[c]
section
variable(p:Program)(main:Bool)(fn:FuncId)(tmps:Array Value)(k:List Item)(defers:List Deferred)(kind:CallKind)(ro:Option Nat)(st:GoStatus)(off:Option (Array CommCase×CommShape))(id:Nat)
def rA(ops:Array Oper)(i:Nat)(rest:List Nat):stepG p main ⟨⟨fn,tmps,.inRegion ops (i::rest)::k,defers,.run,kind,ro⟩,cs,st,none,off⟩ w =
 if ((ops[i]?).map (Region.wanted · (yielded ops tmps))).getD false then stepG.oper p true ⟨fn,tmps,.inRegion ops (i::rest)::k,defers,.run,kind,ro⟩ cs none w
 else .go ⟨Frame.finish ⟨fn,tmps,.inRegion ops (i::rest)::k,defers,.run,kind,ro⟩ undef,cs,.running,none,none⟩ w:=rfl
def A4(ops:Array Oper)(d:Bool):stepG p main ⟨⟨fn,tmps,.code (.region id ops d)::k,defers,.run,kind,ro⟩,cs,st,none,off⟩ w =
 if !d then .go ⟨⟨fn,tmps,.inRegion ops (List.range ops.size)::k,defers,.run,kind,ro⟩,cs,.running,none,none⟩ w
 else .go ⟨⟨fn,tmps,.inRegion ops (Region.schedule (p.follows .mixedOrders) ops (w.tape w.drawn (.order fn id)))::k,defers,.run,kind,ro⟩,cs,.running,none,none⟩ {w with drawn:=w.drawn+1}:=by
 cases d<;>simp[stepG,stepG.exec,choose,Sem.run,Question.forced,Question.cut]
end
def rf{p:Program}(h:fr.oper?=some o)(hd:fr.roundOf=none\/∀c,o.op≠.defer c):stepG.oper p true fr cs none w=stepG.apply p true fr cs none (execOp fr.eval o) w:=by
 unfold stepG.oper;rw[h];dsimp only;rcases hd with hd|hd
 .rw[hd]
 .split
  .rename_i c _ e
   exact absurd e (hd c)
  .rfl
def MT(S:Same Q P)(F:Fit Q ρ)(l:ρ.room=true)(H:fe (fj K) Q P)(m:dA ρ w w')(d:cN K ρ fr bo)(g:cK (cN K ρ) cs cs')(h:fr.oper?=some o)(f:bo.oper?=some o)(j:o6 Q o.op=true)(hd:fr.roundOf=none\/∀c,o.op≠.defer c):hJ K ρ w w' dS base (stepG.oper Q true fr (cs++dS) none w) (stepG.oper P true bo (cs'++base) none w'):=by
 have i:bo.roundOf=none\/∀c,o.op≠.defer c:=by
  rcases hd with hd|hd
  .left
   have:=d.round;rw[hd]at this;revert this;generalize bo.roundOf=x;intro this;cases this;rfl
  .exact .inr hd
 rw[rf h hd,rf f i];exact yH F H (FN S F.fits H o (.inl l) j (λx n=>tY F d.tmps x n) (λv=>⟨rfl,rfl⟩) λ_=>⟨rfl,rfl⟩) m d g
def Kp(S:Same Q P)(F:Fit Q ρ)(aC:ρ.room=true)(H:fe (fj K) Q P)(p:dA ρ w w')(z:cN K ρ fr bo)(n:cK (cN K ρ) cs cs')(au:fr.mode=.run)(aE:dS≠[])(aD:Plain K fr bo)(main aj:Bool)(st aL:GoStatus)(off aJ:Option (Array CommCase×CommShape)):
 hJ K ρ w w' dS base (stepG Q main ⟨fr,cs++dS,st,none,off⟩ w) (stepG P aj ⟨bo,cs'++base,aL,none,aJ⟩ w'):=by
 obtain⟨al,q,am,Z,ao,ap,M,r,R,T⟩:=id z;obtain⟨fn,tmps,todo,defers,mode,kind,roundOf⟩:=fr;obtain⟨aM,Y,af,J,aQ,aP,X⟩:=bo;dsimp only at al q am Z ao ap M r R T au;subst al;subst ap;subst au;cases ao;have mv:∀{todo af:List Item},cK (iY Q roundOf.isSome (K.db fn) ρ) todo af->hJ K ρ w w' dS base (.go ⟨⟨fn,tmps,todo,defers,.run,kind,roundOf⟩,cs++dS,.running,none,none⟩ w) (.go ⟨⟨fn,Y,af,J,.run,kind,X⟩,cs'++base,.running,none,none⟩ w'):=
  λh=>.stay p ⟨rfl,q,h,Z,.run,rfl,M,r,R,T⟩ n
 have ae:∀(W:Option Code),(∀c,W=some c->codeOk Q true c=true)->hJ K ρ w w' dS base (mB Q main ⟨fn,tmps,todo,defers,.run,kind,roundOf⟩ (cs++dS) w W) (mB P aj ⟨fn,Y,af,J,.run,kind,X⟩ (cs'++base) w' W):=
  λW aB=>Lu F p z n aE main aj W aB
 cases am with
 |nil=>rw[step_end,step_end];exact ae none aF
 |@cons i aO k G aa g=>
  cases aa with
  |inBlock id=>simp only[stepG,stepG.exec];exact mv g
  |inLoop h=>simp only[stepG,stepG.exec];exact mv (.cons (.code h) (.cons (.inLoop h) g))
  |inScope h=>simp only[stepG,stepG.exec];exact mv g
  |inRangeFunc h=>simp only[stepG,stepG.exec];trivial
  |@endRangeFunc l aN h=>
   rcases pb (FJ S h) p with⟨v,ag,aG,bJ,ai,ba,L,j,C,he,B,⟨rfl,E⟩,D⟩|⟨v,ag,aG,bJ,ai,ba,L,j,C,he,B,ad,D⟩|⟨x,aG,ba,j,E⟩
   .simp only[stepG,stepG.exec,j,C,GStep.after]
    have U:=z.mono he.le;refine .mk (fg:=seen P fn L++#[]) he B (⟨rfl,U.tmps,?_,U.defers,.run,rfl,M,U.round,R,T⟩) (nX he.le n) λe h=>D e (nv P fn _ e (by simpa using h))
    have aq:=g.mono λ_ _=>iY.mono he.le
    cases v with
    |none=>exact aq
    |some c=>
     have:=E c rfl;rw[(F.mono he.le).cW]at this;exact .cons (.code (.same (IZ this _))) aq
   .simp only[stepG,stepG.exec,j,C,GStep.after]
    exact .mk (fg:=seen P fn L++#[]) he B ((xt (z.mono he.le) (.cons ⟨ad,⟨rfl,rfl⟩,rfl⟩ .nil))) (nX he.le n) λe h=>D e (nv P fn _ e (by simpa using h))
   .simp only[stepG,stepG.exec,j]
    cases x<;>first|exact E.elim|trivial
  |beginRound=>
   simp only[stepG,stepG.exec];refine yH (l:=false) F H ?_ p z n;cases r with
   |none=>exact a2.stuck
   |some V=>exact A1 (FH S V)
  |@inRegion ops l h=>
   cases l with
   |nil=>simp only[stepG,stepG.exec];exact mv g
   |cons i rest=>
    rw[rA,rA];rw[<-R3 (ops:=ops) q i];split
    .rename_i av
     rcases az:ops[i]? with _|o
     .rw[az]at av;cases av
     obtain⟨q1,aK⟩:=Et h az;exact MT S F aC H p z n (o:=o) (by simp[Frame.oper?,az]) (by simp[Frame.oper?,az]) q1 (by
      cases r with
      |none=>exact .inl rfl
      |some _=>exact .inr (aK rfl))
    .exact .stay p (qX z tk) n
  |@code c bp h=>
   cases c with
   |skip=>cases h;simp only[stepG,stepG.exec];exact mv g
   |label l=>cases h;simp only[stepG,stepG.exec];exact mv g
   |refuse aR=>cases h;simp only[stepG,stepG.exec];trivial
   |ret=>cases h;rw[step_ret,step_ret];exact ae _ (by rintro c e;cases e;rfl)
   |exit id=>
    cases h;rw[step_exit,step_exit];have e:=Kq id g;revert e;generalize exitTo id k=x;generalize exitTo id G=y;intro e;cases e with
    |none=>exact ae (some (.exit id)) (by rintro c e;cases e;rfl)
    |some e=>exact mv e
   |goto id=>
    cases h;rw[step_goto,step_goto];have e:=KZ id g;revert e;generalize gotoIn id k=x;generalize gotoIn id G=y;intro e;cases e with
    |none=>exact ae (some (.goto id)) (by rintro c e;cases e;rfl)
    |some e=>exact mv e
   |seq a b=>
    obtain⟨I,ak,rfl,m,ah⟩:=OW h;simp only[stepG,stepG.exec];exact mv (.cons (.code m) (.cons (.code ah) g))
   |cond x a b=>
    obtain⟨I,ak,rfl,aH,m,ah⟩:=I2 h;simp only[stepG,stepG.exec];have e:=tY F (fr:=⟨fn,tmps,.code (.cond x a b)::k,defers,.run,kind,roundOf⟩) (bo:=⟨fn,Y,.code (.cond x I ak)::G,J,.run,kind,X⟩) q x aH;revert e;generalize Frame.eval _ x=u;generalize Frame.eval _ x=v;intro e;cases e with
    |bool b=>
     dsimp only;cases b
     .exact mv (.cons (.code ah) g)
     .exact mv (.cons (.code m) g)
    |_=>trivial
   |block id a=>
    obtain⟨I,rfl,m⟩:=Ib h;simp only[stepG,stepG.exec];exact mv (.cons (.code m) (.cons (.inBlock id) g))
   |loop a=>
    obtain⟨I,rfl,m⟩:=LS h;simp only[stepG,stepG.exec];exact mv (.cons (.code m) (.cons (.inLoop m) g))
   |scope a=>
    obtain⟨I,rfl,m⟩:=OO h;simp only[stepG,stepG.exec];exact mv (.cons (.code m) (.cons (.inScope m) g))
   |region id ops d=>
    obtain⟨aw,rfl,az⟩:=N8 h;obtain⟨rfl,aA⟩:ops=aw/\p9 Q roundOf.isSome ops=true:=by
     rcases az with az|az
     .exact az
     .exact absurd az (aD id ops aw d k G rfl rfl)
    have aa:∀l,iY Q roundOf.isSome (K.db fn) ρ (.inRegion ops l) (.inRegion ops l):=λl=>.inRegion l aA
    rw[A4,A4];cases d with
    |false=>
     simp only[Bool.not_false,if_true];exact mv (.cons (aa _) g)
    |true=>
     simp only[Bool.not_true,Bool.false_eq_true,if_false];rw[<-S.follows,<-show w.tape w.drawn (.order fn id)=w'.tape w'.drawn (.order fn id)from p.tape 0 _];exact .mk Eff.tick p.tick (⟨rfl,q,.cons (aa _) g,Z,.run,rfl,M,r,R,T⟩) n aF
   |rangeFunc f e9 a b=>
    cases h with
    |same h=>
    simp only[codeOk,Bool.and_eq_true]at h;have E:ρ.cW a/\ρ.cW b:=by rw[F.cW];exact h.2
    have ay:=tY F (fr:=⟨fn,tmps,.code (.rangeFunc f e9 a b)::k,defers,.run,kind,roundOf⟩) (bo:=⟨fn,Y,.code (.rangeFunc f e9 a b)::G,J,.run,kind,X⟩) q f h.1;rcases pb (AV (Q:=Q) (P:=P) fn q e9 a b E r) p with⟨v,ag,aG,bJ,ai,ba,L,j,C,he,B,ad,D⟩|⟨v,ag,aG,bJ,ai,ba,L,j,C,he,B,ad,D⟩|⟨x,aG,ba,j,E⟩
    .obtain⟨l,mk⟩:=v
     obtain⟨aN,aI⟩:=ag;obtain⟨V,ar⟩:=ad;dsimp only at V ar;simp only[stepG,stepG.exec,j,C];have U:cN K ai ⟨fn,tmps,.inRangeFunc l::k,mk++defers,.run,kind,roundOf⟩ ⟨fn,Y,.inRangeFunc aN::G,aI++J,.run,kind,X⟩:=
      ⟨rfl,q.mono he.le,.cons (.inRangeFunc V) (g.mono λ_ _=>iY.mono he.le),ar.append (Z.mono λ_ _ k=>k.mono he.le),.run,rfl,M,r.mono he.le.sub,R,T⟩
     refine hJ.after he B (λe h=>D e (nv P fn _ e h)) (yH (l:=false) (F.mono he.le) H ?_ B U (nX he.le n));have ax:bQ ai #[Value.func (.yield l) #[] #[]] #[Value.func (.yield aN) #[] #[]]:=om (.func (.yield V) rfl aF rfl aF);simp only[resolve,List.map_toArray,List.map_cons,List.map_nil];exact AU S (F.mono he.le).fits H (ay.mono he.le) ax
    .simp only[stepG,stepG.exec,j]
     trivial
    .simp only[stepG,stepG.exec,j]
     trivial
end
end
section
variable{Q P:Program}{K:g8 Q P}{ρ ai:Ren}
section
variable{w w' aG bJ:World}{dS base cs cs':List Frame}{fr bo:Frame}{es fg:Array Event}
section
variable{p:Program}{d:Deferred}
def mn{n:Next}(g:(invoke d.target d.args).runT p w #[]=(.ok n aG,es))(f:(∃v,n=.value v)\/n=.skip\/∃d,n=.defer d)(c:((d.target matches .nil) && (fr.mode matches .panicking _))=false):
 callDeferred p fr cs none d w=.go ⟨fr,cs,.running,none,none⟩ aG (seen p fr.fn es):=by
 unfold callDeferred;refine(if_neg λh=>absurd (c.symm.trans h) a6).trans ?_;rw[g];rcases f with⟨v,rfl⟩|rfl|⟨d,rfl⟩<;>simp[GStep.after]
def vR{f:FuncId}{a:Array Value}(g:(invoke d.target d.args).runT p w #[]=(.ok (.enter f a) aG,es))(c:((d.target matches .nil) && (fr.mode matches .panicking _))=false):
 callDeferred p fr cs none d w=.go ⟨Frame.enter p f a .deferred,fr::cs,.running,none,none⟩ aG (seen p fr.fn es):=by
 unfold callDeferred;refine(if_neg λh=>absurd (c.symm.trans h) a6).trans ?_;rw[g];simp[GStep.after]
def vT{l:Nat}{f:FuncId}{a:Array Value}{c e:Code}(i:(invoke d.target d.args).runT p w #[]=(.ok (.round l f a c e) aG,es))(g:((d.target matches .nil) && (fr.mode matches .panicking _))=false):
 callDeferred p fr cs none d w=.go ⟨Frame.round l f a c e .deferred,fr::cs,.running,none,none⟩ aG (seen p fr.fn es):=by
 unfold callDeferred;refine(if_neg λh=>absurd (g.symm.trans h) a6).trans ?_;rw[i];simp[GStep.after]
def vS(f:(invoke d.target d.args).runT p w #[]=(.halt (.panic v) aG,es))(c:((d.target matches .nil) && (fr.mode matches .panicking _))=false):
 callDeferred p fr cs none d w=.go ⟨fr.raise [{v,recovered:=false}],cs,.running,none,none⟩ aG (seen p fr.fn es):=by
 unfold callDeferred;refine(if_neg λh=>absurd (c.symm.trans h) a6).trans ?_;rw[f];simp[GStep.after]
def I4{c:String}(g:(invoke d.target d.args).runT p w #[]=(.halt (.stuck c) aG,es))(f:((d.target matches .nil) && (fr.mode matches .panicking _))=false):callDeferred p fr cs none d w=.ended (.stuck c (fr.pos p)) aG (seen p fr.fn es++#[]):=by unfold callDeferred;refine(if_neg λh=>absurd (f.symm.trans h) a6).trans ?_;rw[g];rfl
def I5{u:Unsupported}(f:(invoke d.target d.args).runT p w #[]=(.halt (.unsupported u) aG,es))(c:((d.target matches .nil) && (fr.mode matches .panicking _))=false):callDeferred p fr cs none d w=.ended (.unsupported u (fr.pos p)) aG (seen p fr.fn es++#[]):=by unfold callDeferred;refine(if_neg λh=>absurd (c.symm.trans h) a6).trans ?_;rw[f];rfl
def CE(f:(invoke d.target d.args).runT p w #[]=(.halt h aG,es))(g:jU h)(c:((d.target matches .nil) && (fr.mode matches .panicking _))=false):∃o i ba,callDeferred p fr cs none d w=.ended o i ba:=by
 cases h with
 |stuck j=>exact⟨_,_,_,I4 f c⟩
 |unsupported u=>exact⟨_,_,_,I5 f c⟩
 |_=>exact g.elim
def CF(c:((d.target matches .nil) && (fr.mode matches .panicking _))=true):∃o f ba,callDeferred p fr cs none d w=.ended o f ba:=
 ⟨_,_,_,if_pos c⟩
end
def B'(S:Same Q P)(F:Fit Q ρ)(H:fe (fj K) Q P)(U:dA ρ w w')(D:cN K ρ fr bo)(I:cK (cN K ρ) cs cs'){d z:Deferred}(hd:me ρ d z):
 hJ K ρ w w' dS base (callDeferred Q fr (cs++dS) none d w) (callDeferred P bo (cs'++base) none z w'):=by
 have L:((d.target matches .nil) && (fr.mode matches .panicking _))=((z.target matches .nil) && (bo.mode matches .panicking _)):=by have a:=hd.target;have b:=D.mode;revert a b;generalize d.target=x;generalize z.target=y;generalize fr.mode=u;generalize bo.mode=v;intro a b;cases a<;>cases b<;>rfl
 by_cases g:((d.target matches .nil) && (fr.mode matches .panicking _))=true
 .obtain⟨o,V,ba,e⟩:=CF (p:=Q) (w:=w) (cs:=cs++dS) g
  rw[e];trivial
 simp only[Bool.not_eq_true]at g;have l:=g;rw[L]at l;rcases pb (AX S H hd.target hd.args) U with⟨n,c9,aG,bJ,ai,ba,G,i,j,he,m,T,C⟩|⟨v,W,aG,bJ,ai,ba,G,i,j,he,m,J,C⟩|⟨x,aG,ba,i,E⟩
 .have r:=D.mono he.le
  have q:=nX he.le I;have bz:∀e∈seen P bo.fn G,fc ai w e:=λe h=>C e (nv _ _ _ e h)
  cases T with
  |value J=>
   rw[mn i (.inl ⟨_,rfl⟩) g,mn j (.inl ⟨_,rfl⟩) l];exact .mk he m (r) q bz
  |skip=>
   rw[mn i (.inr (.inl rfl)) g,mn j (.inr (.inl rfl)) l];exact .mk he m (r) q bz
  |defer hd=>
   rw[mn i (.inr (.inr ⟨_,rfl⟩)) g,mn j (.inr (.inr ⟨_,rfl⟩)) l];exact .mk he m (r) q bz
  |enter f B M=>
   rw[vR i g,vR j l];exact .call (cs:=cs) (cs':=bo::cs') he m (pP H f B M .deferred (.inr rfl)) (.cons r q) bz
  |round R f B c d E=>
   rw[vT i g,vT j l];exact .mk (cs:=fr::cs) (cs':=bo::cs') he m (Fl (F.mono he.le) R f B E .deferred (.inr rfl)) (.cons r q) bz
 .rw[vS i g,vS j l]
  exact .mk he m ((xt (D.mono he.le) (.cons ⟨J,⟨rfl,rfl⟩,rfl⟩ .nil))) (nX he.le I) λe h=>C e (nv _ _ _ e h)
 .obtain⟨o,V,gs,e⟩:=CE (fr:=fr) (cs:=cs++dS) i E g
  rw[e];trivial
def P1{α β g4:Type}{A:Ren->β->g4->Prop}(f:α->Sem β)(g:α->Sem g4)(hn:∀(ai aR:Ren) b c,ai.le aR->A ai b c->A aR b c)(j:∀(ai:Ren) x,ρ.le ai->a2 Q P A (f x) ai (g x)):
 ∀(l:List α) (ai:Ren),ρ.le ai->a2 Q P (λai=>cK (A ai)) (l.mapM f) ai (l.mapM g):=by
 intro l;induction l with
 |nil=>intro ai _;exact .ret .nil
 |cons x l o=>
  intro ai h;rw[List.mapM_cons,List.mapM_cons];refine(j ai x h).a8 ?_;intro aR b c m d;refine(o aR (Ren.le_trans h m)).a8 ?_;intro p q cs n i;exact .ret (.cons (hn aR p b c n d) i)
def RV{l m:List Value}(h:cK (aQ ρ) l m):bQ ρ l.toArray m.toArray:=by
 induction h with
 |nil=>exact .nil
 |@cons a b l m f _ g=>
  have c:(a::l).toArray=#[a]++l.toArray:=aF;have d:(b::m).toArray=#[b]++m.toArray:=aF;rw[c,d];exact(om f).append g
def AZ(S:Same Q P){i im:Func}(e:i.results=im.results){a b:Array Value}(h:bQ ρ a b):a2 Q P aQ (results i a) ρ (results im b):=by
 unfold results;rw[e,Array.mapM_eq_mapM_toList,Array.mapM_eq_mapM_toList];refine a2.a8 (A:=bQ) (FY (P1 (A:=aQ) (ρ:=ρ) _ _ (λ_ _ _ _ h k=>k.mono h) ?_ _ ρ (Ren.le_refl ρ)) λai a b _ m=>RV m) ?_
 .intro ai x j
  cases x with
  |tmp t=>exact .ret (zv (h.mono j) t)
  |cell t n=>
   refine(xP S (zv (h.mono j) t)).a8 ?_;intro aR x y _ g;exact FX S n g
 .intro ai x y _ g
  obtain⟨f,l⟩:=g;by_cases c:x.size=1
  .have d:y.size=1:=f ▸ c
   simp only[c,d,dif_pos];exact .ret (l 0 _ _ (by simp[c]) (by simp[d]))
  .have d:¬y.size=1:=f ▸ c
   simp only[c,d,dif_neg,not_false_eq_true];exact .ret (.tuple f l)
def RN(S:Same Q P)(F:Fit Q ρ)(H:fe (fj K) Q P)(u:dA ρ w w')(f:cN K ρ fr bo)(n:cK (cN K ρ) cs cs')(q:fr.mode≠.run)(V:dS≠[])(main X:Bool)(st ar:GoStatus)(off ap:Option (Array CommCase×CommShape)):
 hJ K ρ w w' dS base (stepG Q main ⟨fr,cs++dS,st,none,off⟩ w) (stepG P X ⟨bo,cs'++base,ar,none,ap⟩ w'):=by
 have ao:bo.mode≠.run:=by have:=f.mode;intro e;rw[e]at this;revert this q;generalize fr.mode=x;intro q this;cases this;exact q rfl
 have ad:∀(p:Program) (main:Bool) (fr:Frame) (cs:List Frame) (st:GoStatus) (off:Option (Array CommCase×CommShape)) (w:World),fr.mode≠.run->stepG p main ⟨fr,cs,st,none,off⟩ w=unwind p main fr cs none w:=by
  intro p main fr cs st off w h;obtain⟨fn,tmps,todo,defers,mode,kind,ro⟩:=fr;cases mode with
  |run=>exact absurd rfl h
  |_=>rfl
 rw[ad _ _ _ _ _ _ _ q,ad _ _ _ _ _ _ _ ao];have R:=f.defers;obtain⟨fn,tmps,todo,defers,mode,kind,ro⟩:=fr;obtain⟨z,ae,af,av,Y,W,aa⟩:=bo;dsimp only at R;cases R with
 |@cons d ag J L hd aj=>
  have G:cN K ρ ⟨fn,tmps,todo,J,mode,kind,ro⟩ ⟨z,ae,af,L,Y,W,aa⟩:=⟨f.fn,f.tmps,f.todo,aj,f.mode,f.kind,f.kindOk,f.round,f.known,f.ret⟩
  obtain⟨t,a⟩:=d;obtain⟨bh,au⟩:=ag;have C:=hd.target;dsimp only at C;cases C with
  |collected al=>
   simp only[unwind];rcases pb (F8 (Q:=Q) (P:=P) al) u with⟨v,D,aG,bJ,ai,ba,B,g,j,he,y,r,o⟩|⟨v,D,aG,bJ,ai,ba,B,g,j,he,y,r,o⟩|⟨x,aG,ba,g,U⟩
   .rw[g,j]
    have i:=G.mono he.le;have ak:cN K ai ⟨fn,tmps,todo,v++J,mode,kind,ro⟩ ⟨z,ae,af,D++L,Y,W,aa⟩:=⟨i.fn,i.tmps,i.todo,r.append i.defers,i.mode,i.kind,i.kindOk,i.round,i.known,i.ret⟩
    exact .mk (fg:=seen P z B++#[]) he y (ak) (nX he.le n) λe h=>o e (nv P z _ e (by simpa using h))
   .rw[g];trivial
   .rw[g];trivial
  |nil=>exact B' S F H u G n hd
  |fn ax ay=>exact B' S F H u G n hd
 |nil=>
  have T:=f.mode;dsimp only at T;cases T with
  |run=>exact absurd rfl q
  |panicking hp=>
   have I:=f.uE;have E:∀(p:Program) (fr:Frame),qD fr->fr.catches p=false:=by
    intro p fr h;unfold Frame.catches;split
    .rename_i e
     exact absurd e (h _ _ _ _ _)
    .rfl
   cases n with
   |nil=>
    rcases dS with _|⟨c,rest⟩
    .exact absurd rfl V
    simp only[unwind,List.nil_append,E _ _ I.1];exact .inr ⟨c,_,rfl,rfl,.inr (.inl ⟨_,rfl⟩)⟩
   |@cons c bp l m ah C=>
    simp only[unwind,List.cons_append,E _ _ I.1,E _ _ I.2];exact .mk Eff.refl u ((xt ah hp)) C aF
  |returning=>
   have am:=f.ret rfl;obtain⟨aw,im,q1,Z,aq⟩:=f.known am;have M:=f.fn;dsimp only at M q1 Z;subst M;simp only[unwind,q1,Z];rcases pb (AZ S aq f.tmps) u with⟨v,D,aG,bJ,ai,ba,B,g,j,he,y,r,o⟩|⟨v,D,aG,bJ,ai,ba,B,g,j,he,y,r,o⟩|⟨x,aG,ba,g,U⟩
   .rw[g,j]
    exact CG main X he y (f.mono he.le) (nX he.le n) V r λe h=>o e (nv _ _ _ e h)
   .rw[g];trivial
   .rw[g]
    cases x<;>first|exact U.elim|trivial
def Gg(S:Same Q P)(F:Fit Q ρ)(m:ρ.room=true)(H:fe (fj K) Q P)(l:dA ρ w w')(i:cN K ρ fr bo)(g:cK (cN K ρ) cs cs')(j:dS≠[])(n:fr.mode=.run->Plain K fr bo)(main c:Bool)(st f:GoStatus)(off d:Option (Array CommCase×CommShape)):
 hJ K ρ w w' dS base (stepG Q main ⟨fr,cs++dS,st,none,off⟩ w) (stepG P c ⟨bo,cs'++base,f,none,d⟩ w'):=by
 by_cases h:fr.mode=.run
 .exact Kp S F m H l i g h j (n h) main c st f off d
 .exact RN S F H l i g h j main c st f off d
end
end
end Go.aO
