/- A part. -/
import Derived.Test.YtejkocoljbaioaaGreatDoorP2
set_option maxHeartbeats 8000000
set_option maxRecDepth 100000
set_option linter.all false
namespace Go.aO
variable{t:TypeId}{v w:Value}
section
section
variable{Q P:Program}{ρ:Ren}{Spec:FuncId->Func->Func->Prop}
def je(Q:Program):Option Nat:=match Q.funcs[0]? with
 |some fn=>match fn.nfree with
  | 0=>none
  |k+1=>some k
 |none=>none
def pinned(Q:Program):Value->Bool
 |.pointer (some ⟨b,0,none⟩)=>je Q == some b
 |_=>false
def er(Q:Program):Operand->Bool
 |.tmp _=>true
 |.func f=>(eK Q f).isNone
 |.const v=>bare 64 v||pinned Q v
 |.global _=>false
def xh(Q:Program):Option Operand->Bool
 |none=>true
 |some x=>er Q x
def xL(Q:Program)(t:TypeId):Bool:=match Q.underlying t with
 |some (.slice e)=>lO Q e
 |_=>true
def zR(Q:Program)(name:String):Bool:=(List.range Q.types.size).all λt=>match Q.types[t]? with
 |some i=>match i.methods.find? (·.name == name)with
  |none=>true
  |some m=>m.path.isEmpty && (match m.func with
   |none=>false
   |some (f,c)=>(eK Q f).isNone && (c||(match Q.underlying t with|some (.pointer _)=>false|_=>true)))
 |none=>true
def B1(Q:Program)(b:Builtin)(ee:Array TypeId):Bool:=match b with
 |.append=>yE Q ee
 |.len |.max |.min=>true
 |_=>false
def yQ(Q:Program)(c:Call):Bool:=c.args.all (er Q) && match c.callee with
 |.builtin b=>B1 Q b c.argTypes
 |.invoke r name=>er Q r && zR Q name
 |.value f=>er Q f||(match f with
  |.func g=>eK Q g == some c.args.size
  |_=>false)
def y2(Q:Program)(c:Call):Bool:=c.args.all (er Q) && match c.callee with
 |.value f=>er Q f && (!ni Q||(match f with |.func _=>true|_=>false))
 |_=>false
def o6(Q:Program)(op:Op):Bool:=match op with
 |.move x |.assign x |.nilCheck x |.unOp _ _ x |.makeInterface _ x |.field _ x _ |.range _ x |.next x _ |.entry x |.extract x _ |.load _ x |.box _ x=>er Q x
 |.pick c a b=>er Q c && er Q a && er Q b
 |.alloc t=>lO Q t
 |.build t e9=>lO Q t && e9.all λx=>er Q x.2
 |.buildSlice t _ e9=>xL Q t && e9.all λx=>er Q x.2
 |.store _ a x=>er Q a && er Q x
 |.binOp op t x y _=>er Q x && er Q y && (match op with |.eql |.neq=>nT Q t x y|_=>true)
 |.convert s d x=>y0 Q s d && er Q x
 |.makeFunc (.func f) a b=>(eK Q f).isNone && (a.all (er Q) && b.all (er Q))
 |.makeMap _ none=>true
 |.makeSlice t l c=>xL Q t && er Q l && er Q c
 |.slice _ x bY g h=>er Q x && xh Q bY && xh Q g && xh Q h
 |.fieldAddr t x k=>zf Q t k && er Q x
 |.indexAddr _ x i |.index _ x i=>er Q x && er Q i
 |.lookup t m k _=>sC Q t && er Q m && er Q k
 |.mapUpdate t m k x |.insert t m k x=>sC Q t && er Q m && er Q k && er Q x
 |.typeAssert x _ t true=>lO Q t && er Q x
 |.call c=>yQ Q c
 |.defer c=>y2 Q c
 |_=>false
def LY{info:TypeId->Option TypeInfo}{d:TypeDesc}{i:TypeInfo}(h:Made.reckon info d=some i):i.methods=#[]:=by
 unfold Made.reckon at h;split at h;all_goals try simp only[bind,Option.bind_eq_some_iff,pure]at h
 all_goals repeat' first
  |(obtain⟨_,_,h⟩:=h)
  |(split at h)
 all_goals first
  |(cases h;rfl)
  |(cases h;done)
  |skip
 all_goals first
  |rfl
  |(simp only[Option.bind_eq_some_iff]at h;obtain⟨_,_,h⟩:=h;cases h;rfl)
  |skip
 unfold Made.reckonStruct at h;simp only[bind,Option.bind_eq_some_iff,pure]at h;obtain⟨a,_,h⟩:=h;split at h<;>(cases h;rfl)
def L'{name:String}(h:zR Q name=true):yv Q name:=by
 intro t i m p hm;by_cases j:t<Q.types.size
 .have e:Q.types[t]?=some i:=by have c:Q.toTables.info? t=some i:=p;unfold Tables.info? at c;rwa [if_pos j]at c
  unfold zR at h;rw[List.all_eq_true]at h;have:=h t (by simpa using j);rw[e]at this;dsimp only at this;rw[hm]at this;simp only[Bool.and_eq_true]at this;obtain⟨q,g⟩:=this;cases o:m.func with
  |none=>rw[o]at g;cases g
  |some x=>
   obtain⟨f,u⟩:=x;rw[o]at g;dsimp only at g;rw[Bool.and_eq_true]at g;refine⟨by simpa using q,rfl,λe he=>?_,λx r=>?_⟩
   .have l:=g.2
    rw[he]at l;simpa using l
   .cases r
    simpa using g.1
 .have c:Q.toTables.info? t=some i:=p
  unfold Tables.info? at c;rw[if_neg j]at c;unfold Made.depth at c;unfold Made.infoAt at c;rw[if_neg j]at c;simp only[Option.bind_eq_some_iff]at c;obtain⟨d,_,c⟩:=c;rw[LY c]at hm;simp at hm
def Pz(S:Same Q P)(F:Fits Q ρ)(H:fe Spec Q P)(name:String)(g:yv Q name)(h:aQ ρ v w){a b:Array Value}(k:bQ ρ a b):
 a2 Q P h2 (callMethod v name a) ρ (callMethod w name b):=by
 unfold callMethod;cases h with
 |nilIface=>exact jR S .nilDeref rfl
 |iface t h=>
  dsimp only;refine mP ?_;have e:Q.types.size=P.types.size:=by rw[show Q.types=P.types from congrArg Tables.types S.tables]
  rw[e];refine(P4 S _ t name g h).a8 ?_;rintro ai ⟨f,r⟩ ⟨i,j⟩ l ⟨e,d,c⟩;dsimp only at e d c;subst e;exact AS S H f (bQ.append (om d) (k.mono l)) λn e=>by rw[(F.mono l).eb,c]at e;cases e
 |_=>exact .stuck
def AX(S:Same Q P)(H:fe Spec Q P){t u:Target}(h:tH ρ t u){a b:Array Value}(k:bQ ρ a b):a2 Q P h2 (invoke t a) ρ (invoke u b):=by
 unfold invoke;cases h with
 |nil=>exact jR S .nilDeref rfl
 |collected h=>exact .stuck
 |fn c d=>
  cases c with
  |func f c=>exact AS S H f (k.append d) λn e=>by rw[c]at e;cases e
  |yield g=>exact Qj g k
def xA(op:Op):Bool:=match op with
 |.makeSlice ..=>false
 |.call c=>match c.callee with
  |.builtin .append=>false
  |_=>true
 |_=>true
variable{bz il:Operand->Value}
def yb(l:∀x,er Q x=true->aQ ρ (bz x) (il x)){a:Array Operand}(h:a.all (er Q)=true):bQ ρ (a.map bz) (a.map il):=by refine⟨aF,λi x y g j=>?_⟩;simp at g j;obtain⟨o,c,rfl⟩:=g;obtain⟨p,f,rfl⟩:=j;rw[c]at f;cases f;rw[Array.all_eq_true]at h;have d:=bu c;have:=h i d;rw[fb d]at c;exact l o (by rw[<-bD c];exact this)
def ET(l:∀x,er Q x=true->aQ ρ (bz x) (il x)){a:Array (Nat×Operand)}(h:(a.all λx=>er Q x.2)=true):gb (λx y=>x.1=y.1/\aQ ρ x.2 y.2) (a.map λ(i,x)=>(i,bz x)) (a.map λ(i,x)=>(i,il x)):=by refine⟨aF,λi x y g j=>?_⟩;simp at g j;obtain⟨n,o,c,rfl⟩:=g;obtain⟨c9,p,f,rfl⟩:=j;rw[c]at f;cases f;rw[Array.all_eq_true]at h;have d:=bu c;have:=h i d;rw[fb d]at c;refine⟨rfl,l o ?_⟩;rw[bD c]at this;exact this
def Ag(c:∀x,er Q x=true->aQ ρ (bz x) (il x)){x:Option Operand}(h:xh Q x=true):fl (aQ ρ) (x.map bz) (x.map il):=by
 cases x with
 |none=>exact .none
 |some x=>exact .some (c x h)
def hV{s aX:Sem Value}(h:a2 Q P aQ s ρ aX):a2 Q P h2 (do pure (.value (<-s))) ρ (do pure (.value (<-aX))):=h.a8 λ_ _ _ _ c=>.ret (.value c)
def A1{s aX:Sem Unit}(h:a2 Q P (ec λ_=>True) s ρ aX):a2 Q P h2 (do s;pure .skip) ρ (do aX;pure .skip):=h.a8 λ_ _ _ _ _=>.ret .skip
def BU(c:ni Q=true):Q.info? 1000000000=none:=by
 unfold ni at c;split at c
 .rw[Bool.and_eq_true]at c
  exact Option.isNone_iff_eq_none.1 c.2
 .cases c
def cY.prog{α:Type}{k:Program->Sem α}(h:cY Q (k Q)):cY Q (program >>= k):=h
def CJ{α:Type}(h:Q.info? t=none)(k:TypeInfo->Sem α):cY Q (typeInfo t >>= k):=by refine cY.bind k ?_;show cY Q (program >>= λr=>match r.info? t with|some i=>pure i|none=>stuck "no such type");refine cY.prog ?_;rw[h];exact kY _
def Mm(h:Q.info? 1000000000=none):∀n,cY Q (nilAhead n 1000000000 .nilIface "" >>= λb=>if (b !=some false)=true then(do
 unsupported (.noEntry "op/nilCheck.the method's receiver behind this interface value is a nil pointer, or cannot be seen to be none, and the arguments act or may panic (ledger 612)")
 pure (Next.value tv))else pure (Next.value tv)):=by
 intro n;cases n with
 |zero=>exact λw=>⟨_,w,rfl,trivial,λes h=>h⟩
 |succ n=>exact cY.bind _ (CJ h _)
def Ii(f:ni Q=true)(a:Array Value):cY Q (do let d <-Deferred.ofValue tv a;invoke d.target d.args):=by
 show cY Q (invoke (.fn (.method "") #[]) (#[.iface 1000000000 .nilIface]++a));unfold invoke;have c:(#[Value.iface 1000000000 .nilIface]++a)[0]?=some (.iface 1000000000 .nilIface):=by rw[Array.getElem?_append_left (show 0<(#[Value.iface 1000000000 .nilIface]:Array Value).size from Nat.zero_lt_one)];rfl
 rw[c];dsimp only;unfold callMethod;dsimp only;refine cY.prog (cY.bind _ ?_);generalize (Q.types.size+Made.depth)=n;cases n with
 |zero=>exact λw=>⟨_,w,rfl,trivial,λes h=>h⟩
 |succ n=>exact CJ (BU f) _
def AU(S:Same Q P)(F:Fits Q ρ)(H:fe Spec Q P)(h:aQ ρ v w){a b:Array Value}(k:bQ ρ a b):a2 Q P h2 (do let d <-Deferred.ofValue v a;invoke d.target d.args) ρ (do let d <-Deferred.ofValue w b;invoke d.target d.args):=by
 by_cases c:v=tv
 .subst c
  refine a2.dp (Ii ?_ a);rw[<-F.fu];cases h with
  |func f=>cases f
  |k9 g=>exact g
 .refine(F5 h c k).a8 ?_
  intro ai d e l hd;exact AX S H hd.target hd.args
def Qb(F:Fits Q ρ)(j:∀x,er Q x=true->aQ ρ (bz x) (il x))(z:∀g,bz (.func g)=.func (.func g) #[] #[]/\il (.func g)=.func (.func g) #[] #[])(c:Call)(t:TypeId)(h:y2 Q c=true):a2 Q P me (resolve bz c t) ρ (resolve il c t):=by
 unfold y2 at h;simp only[Bool.and_eq_true]at h;obtain⟨p,d⟩:=h;have q:=yb j p;unfold resolve;dsimp only;cases i:c.callee with
 |builtin b=>rw[i]at d;cases d
 |invoke r name=>rw[i]at d;cases d
 |value f=>
  rw[i]at d;simp only[Bool.and_eq_true]at d;refine F5 (j f d.1) (λe=>?_) q;have o:=j f d.1;rw[e]at o;have l:ρ.fu=true:=by
   generalize il f=w at o;cases o with
   |func u=>cases u
   |k9 l=>exact l
  rcases Bool.or_eq_true_iff.1 d.2 with ax|ax
  .rw[<-F.fu,l]at ax
   cases ax
  .obtain⟨g,rfl⟩:∃g,f=.func g:=by cases f<;>first|exact⟨_,rfl⟩|cases ax
   rw[(z g).1]at e;cases e
def Px(S:Same Q P)(b:Builtin)(c:ρ.room=true\/(match b with |.append=>false|_=>true)=true)(ee:Array TypeId)(t:TypeId)(cs:Array Bool)(h:B1 Q b ee=true){x y:Array Value}(k:bQ ρ x y):a2 Q P h2 (builtin b ee t cs x) ρ (builtin b ee t cs y):=by
 cases b<;>first|cases h|skip
 .exact hV (Po S (c.resolve_right aF) ee t h k)
 .exact hV (PR S ee t k)
 .exact hV (P2 ee t k)
 .exact hV (P5 ee t k)
def Py(S:Same Q P)(F:Fits Q ρ)(H:fe Spec Q P)(p:∀x,er Q x=true->aQ ρ (bz x) (il x))(u:∀g,bz (.func g)=.func (.func g) #[] #[]/\il (.func g)=.func (.func g) #[] #[])(c:Call)(C:ρ.room=true\/xA (.call c)=true)(t:TypeId)(h:yQ Q c=true):
 a2 Q P h2 (do let d <-resolve bz c t;invoke d.target d.args) ρ (do let d <-resolve il c t;invoke d.target d.args):=by
 unfold yQ at h;simp only[Bool.and_eq_true]at h;obtain⟨q,J⟩:=h;have j:=yb p q;unfold resolve;dsimp only;cases o:c.callee with
 |builtin b=>
  rw[o]at J;exact a2.a8 (A:=λai x y=>ρ.le ai/\x={target:=.builtin b c.argTypes t (c.args.map λ|.const _=>true|_=>false),args:=c.args.map bz}/\y={target:=.builtin b c.argTypes t (c.args.map λ|.const _=>true|_=>false),args:=c.args.map il}) (.ret ⟨Ren.le_refl _,rfl,rfl⟩)
   (by rintro ai _ _ l ⟨_,rfl,rfl⟩;exact Px S b (C.imp (λe=>l.room.trans e) λe=>by unfold xA at e;dsimp only at e;rw[o]at e;cases b<;>first|rfl|cases e) _ t _ J (j.mono l))
 |invoke r name=>
  rw[o]at J;simp only[Bool.and_eq_true]at J;refine a2.a8 (A:=λai x y=>ρ.le ai/\x={target:=.fn (.method name) #[],args:=#[bz r]++c.args.map bz}/\y={target:=.fn (.method name) #[],args:=#[il r]++c.args.map il}) (.ret ⟨Ren.le_refl _,rfl,rfl⟩) ?_;rintro ai _ _ l ⟨_,rfl,rfl⟩;have key:∀(x:Value) (a:Array Value),invoke (.fn (.method name) #[]) (#[x]++a)=callMethod x name a:=by
   intro x a;unfold invoke;have w:(#[x]++a)[0]?=some x:=by rw[Array.getElem?_append_left (show 0<(#[x]:Array Value).size from Nat.zero_lt_one)];rfl
   have z:(#[x]++a).extract 1 (#[x]++a).size=a:=by
    have:(#[x]++a).size=a.size+1:=(Array.size_append (xs:=#[x]) (ys:=a)).trans (Nat.add_comm _ _);rw[this];apply Array.ext
    .simp
    .intro i q J
     simp
   rw[w];dsimp only;rw[z]
  show a2 Q P h2 (invoke (.fn (.method name) #[]) (#[bz r]++c.args.map bz)) ai (invoke (.fn (.method name) #[]) (#[il r]++c.args.map il));rw[key,key];exact Pz S (F.mono l) H name (L' J.2) ((p r J.1).mono l) (j.mono l)
 |value f=>
  rw[o]at J;rcases Bool.or_eq_true_iff.1 J with J|J
  .exact AU S F H (p f J) j
  .obtain⟨g,rfl⟩:∃g,f=.func g:=by cases f<;>first|cases J|exact⟨_,rfl⟩
   have B:eK Q g=some c.args.size:=by simpa using J
   dsimp only;rw[(u g).1,(u g).2];refine a2.a8 (A:=λai x y=>ρ.le ai/\x={target:=.fn (.func g) #[],args:=#[]++c.args.map bz}/\y={target:=.fn (.func g) #[],args:=#[]++c.args.map il}) (.ret ⟨Ren.le_refl _,rfl,rfl⟩) ?_;rintro ai _ _ l ⟨_,rfl,rfl⟩;have key:∀a:Array Value,invoke (.fn (.func g) #[]) (#[]++a)=callFunc g a:=by intro a;unfold invoke;simp
   dsimp only;rw[key,key];exact AS S H g (j.mono l) λn e=>by rw[(F.mono l).eb,B]at e;cases e;simp
def P8(S:Same Q P)(F:Fits Q ρ)(h:aQ ρ v w):a2 Q P h2 (execOp (λ_=>v) {(default:Oper)with op:=.nilCheck (.tmp 0)}) ρ (execOp (λ_=>w) {(default:Oper)with op:=.nilCheck (.tmp 0)}):=by
 unfold execOp;dsimp only;cases h with
 |jH=>exact jR S .nilDeref rfl
 |nilIface=>exact jR S .nilDeref rfl
 |nilFunc=>exact jR S .nilDeref rfl
 |func o i j p q=>
  cases o with
  |func f o=>exact .ret (.value (.func (.func f o) i j p q))
  |yield u=>exact .ret (.value (.func (.yield u) i j p q))
 |bool b=>exact .ret (.value (.bool b))
 |int k n=>exact .ret (.value (.int k n))
 |string s=>exact .ret (.value (.string s))
 |ptr h=>exact .ret (.value (.ptr h))
 |kr l c=>exact .ret (.value (.kr l c))
 |slice h l c=>exact .ret (.value (.slice h l c))
 |ju g z=>exact .ret (.value (.ju g z))
 |p5=>exact .ret (.value .p5)
 |map h=>exact .ret (.value (.map h))
 |qP=>exact .ret (.value .qP)
 |iface t h=>exact .ret (.value (.iface t h))
 |agg i j=>exact .ret (.value (.agg i j))
 |tuple i j=>exact .ret (.value (.tuple i j))
 |gI g d=>
  cases w with
  |agg c=>exact d.elim
  |nilIface=>exact d.elim
  |nilFunc=>exact d.elim
  |bool b=>exact d.elim
  |int k n=>exact d.elim
  |string s=>exact d.elim
  |func f a c=>cases f with
   |method n=>exact d.elim
   |_=>exact a2.ret (A:=h2) (h2.value (aQ.gI g d))
  |pointer a=>cases a with
   |none=>exact d.elim
   |some a=>exact a2.ret (A:=h2) (h2.value (aQ.gI g d))
  |_=>exact a2.ret (A:=h2) (h2.value (aQ.gI g d))
 |k9 g=>
  refine a2.dp ?_;show cY Q (program >>= λr=>nilAhead (r.types.size+Made.depth) 1000000000 .nilIface "" >>= λb=>_);exact cY.prog (Mm (BU (F.fu ▸ g)) _)
def FC{e:TypeId}(h:xL Q t=true)(he:Q.underlying t=some (.slice e)):lO Q e=true:=by unfold xL at h;rw[he]at h;exact h
def FN(S:Same Q P)(F:Fits Q ρ)(H:fe Spec Q P)(o:Oper)(u:ρ.room=true\/xA o.op=true)(j:o6 Q o.op=true)(p:∀x,er Q x=true->aQ ρ (bz x) (il x))(E:∀v,bz (.const v)=v/\il (.const v)=v)(G:∀g,bz (.func g)=.func (.func g) #[] #[]/\il (.func g)=.func (.func g) #[] #[]):ef true Q P h2 (execOp bz o) ρ (execOp il o):=by
 obtain⟨dst,op,type,pos,after,guard⟩:=o;dsimp only at j u;have J:∀(f:Operand->Value),execOp f ⟨dst,op,type,pos,after,guard⟩=execOp f {(default:Oper)with op:=op,type:=type}:=λf=>by cases op<;>rfl
 cases op<;>first|cases j|skip
 all_goals try simp only[o6,Bool.and_eq_true]at j
 case mapUpdate t m k x=>exact ef.map (FZ S F t j.1.1.1 (p m j.1.1.2) (p k j.1.2) (p x j.2)) λ_ _ _ _ _=>.skip
 case insert t m k x=>exact ef.map (FZ S F t j.1.1.1 (p m j.1.1.2) (p k j.1.2) (p x j.2)) λ_ _ _ _ _=>.skip
 all_goals refine a2.up ?_
 case move x=>exact .ret (.value (p x j))
 case assign x=>exact .ret (.value (p x j))
 case pick c a b=>
  refine(AQ (p c j.1.1)).a8 ?_;rintro ai I _ l ⟨rfl,_⟩;cases I
  .exact .ret (.value ((p b j.2).mono l))
  .exact .ret (.value ((p a j.1.2).mono l))
 case alloc t=>exact hV (Pn S t j)
 case box t x=>exact hV (Pu (p x j) t)
 case build t e9=>exact hV (Pv S t j.1 (ET p j.2))
 case buildSlice t n e9=>exact hV (Pw S t n (λe he=>FC j.1 he) (ET p j.2))
 case load t a=>exact hV (PT S t (p a j))
 case store t a x=>exact A1 (Qf S t (p a j.1) (p x j.2))
 case nilCheck x=>exact P8 S F (p x j)
 case binOp op t x y M=>
  refine hV ?_;have w:=p x j.1.1;have z:=p y j.1.2;have C:∀v,x=.const v->bz x=v/\il x=v:=by rintro v rfl;exact E v
  have D:∀v,y=.const v->bz y=v/\il y=v:=by rintro v rfl;exact E v
  have he:(op=.eql\/op=.neq)->nT Q t x y=true:=by rintro(rfl|rfl)<;>exact j.2
  by_cases q:(op=.eql\/op=.neq)/\(bz x=.tuple #[]\/bz y=.tuple #[])
  .exact a2.dp (J7 op q.1 t x y q.2)
  have B:(op=.eql\/op=.neq)->bz x≠.tuple #[]/\bz y≠.tuple #[]:=λh=>⟨λe=>q ⟨h,.inl e⟩,λe=>q ⟨h,.inr e⟩⟩
  refine(PC S op t x y he w z (λv e=>(C v e).1) (λv e=>(D v e).1) B).a8 ?_;rintro ai _ _ l _;by_cases h:op=.eql\/op=.neq
  .exact Ps S (F.mono l) op h t x y (he h) (w.mono l) (z.mono l) C D (B h).1 (B h).2
  .exact Pt S (F.mono l) op (λe=>h (.inl e)) (λe=>h (.inr e)) t (w.mono l) (z.mono l)
 case unOp op t x=>exact hV (Qi op (p x j))
 case convert s d x=>exact hV (PA S s d j.1 (p x j.2))
 case makeInterface t x=>exact hV (PX S t (p x j))
 case makeFunc fn a b=>
  cases fn<;>first|cases j|skip
  simp only[Bool.and_eq_true]at j;exact hV (PW _ (by rw[F.eb];simpa using j.1) (yb p j.2.1) (yb p j.2.2))
 case makeMap t r=>
  cases r<;>first|cases j|skip
  exact hV (PY S t)
 case makeSlice t l c=>exact hV (PZ S (u.resolve_right (by simp[xA])) t (λe he=>FC j.1.1 he) (p l j.1.2) (p c j.2))
 case slice t x bY K L=>exact hV (Qe S t (p x j.1.1.1) (Ag p j.1.1.2) (Ag p j.1.2) (Ag p j.2))
 case fieldAddr t x k=>exact hV (PI S t k j.1 (p x j.2))
 case field t x k=>exact hV (PH S t k (p x j))
 case indexAddr t x i=>exact hV (PN S t (p x j.1) (p i j.2))
 case index t x i=>exact hV (PM S t (p x j.1) (p i j.2))
 case lookup t m k c=>exact hV (PV S F t j.1.1 (p m j.1.2) (p k j.2) c)
 case range t x=>exact hV (Qa S t (p x j))
 case next x b=>exact hV (P7 S type b (p x j))
 case entry x=>exact hV (PB (p x j))
 case typeAssert x hv t c=>
  cases c<;>first|cases j|skip
  simp only[Bool.and_eq_true]at j;exact hV (Qh S hv t j.1 (p x j.2))
 case extract x k=>exact hV (PF (p x j) k)
 case call c=>exact Py S F H p G c u type j
 case defer c=>exact(Qb F p G c type j).a8 λ_ _ _ _ hd=>.ret (.defer hd)
end
end
end Go.aO
namespace Go.aO
attribute [-simp] Go.Sem.runT_eq
variable{es:Array Event}{e:Event}{fn:Func}{h:Halt}{base cs cs':List Frame}{o:Oper}{aX s:Sem Next}{v:Value}{aG w w':World}
section
def p9(Q:Program)(bZ:Bool)(ops:Array Oper):Bool:=ops.all λo=>o6 Q o.op && !(bZ && (match o.op with |.defer _=>true|_=>false))
def codeOk(Q:Program):Bool->Code->Bool
 |_,.skip|_,.exit _|_,.label _|_,.goto _|_,.ret|_,.refuse _=>true
 |bZ,.region _ ops _=>p9 Q bZ ops
 |bZ,.seq a b=>codeOk Q bZ a && codeOk Q bZ b
 |bZ,.cond c a b=>er Q c && (codeOk Q bZ a && codeOk Q bZ b)
 |bZ,.block _ b|bZ,.loop b|bZ,.scope b=>codeOk Q bZ b
 |_,.rangeFunc f _ a b=>er Q f && (codeOk Q true a && codeOk Q true b)
structure Fit(Q:Program)(ρ:Ren):Prop where
 fits:Fits Q ρ
 cW:ρ.cW=λc=>codeOk Q true c=true
 je:∀b,je Q=some b->ρ.r b b
def Fit.mono{Q:Program}{ρ ai:Ren}(h:Fit Q ρ)(k:ρ.le ai):Fit Q ai:=⟨h.fits.mono k,k.cW.trans h.cW,λb e=>k.sub _ _ (h.je b e)⟩
def Nv{Q:Program}{ρ:Ren}(h:∀b,je Q=some b->ρ.r b b)(c:pinned Q v=true):aQ ρ v v:=by
 unfold pinned at c;split at c
 .exact .ptr ⟨h _ (by simpa using c),rfl,rfl⟩
 .cases c
inductive gF(Q:Program)(bZ:Bool)(db:Array Oper->Array Oper->Prop):Code->Code->Prop
 |same {c} (h:codeOk Q bZ c=true):gF Q bZ db c c
 |seq {a b bd aE} (h:gF Q bZ db a bd) (k:gF Q bZ db b aE):gF Q bZ db (.seq a b) (.seq bd aE)
 |cond {c a b bd aE} (ar:er Q c=true) (h:gF Q bZ db a bd) (k:gF Q bZ db b aE):gF Q bZ db (.cond c a b) (.cond c bd aE)
 |block {id a bd} (h:gF Q bZ db a bd):gF Q bZ db (.block id a) (.block id bd)
 |loop {a bd} (h:gF Q bZ db a bd):gF Q bZ db (.loop a) (.loop bd)
 |scope {a bd} (h:gF Q bZ db a bd):gF Q bZ db (.scope a) (.scope bd)
 |Pj {id ops iQ d} (h:db ops iQ):gF Q bZ db (.region id ops d) (.region id iQ d)
inductive iY(Q:Program)(bZ:Bool)(db:Array Oper->Array Oper->Prop)(ρ:Ren):Item->Item->Prop
 |code {c bp} (h:gF Q bZ db c bp):iY Q bZ db ρ (.code c) (.code bp)
 |inBlock (id):iY Q bZ db ρ (.inBlock id) (.inBlock id)
 |inLoop {c bp} (h:gF Q bZ db c bp):iY Q bZ db ρ (.inLoop c) (.inLoop bp)
 |inScope {c bp} (h:gF Q bZ db c bp):iY Q bZ db ρ (.inScope c) (.inScope bp)
 |inRegion {ops} (l) (h:p9 Q bZ ops=true):iY Q bZ db ρ (.inRegion ops l) (.inRegion ops l)
 |inRangeFunc {l aN} (h:ρ.r l aN):iY Q bZ db ρ (.inRangeFunc l) (.inRangeFunc aN)
 |endRangeFunc {l aN} (h:ρ.r l aN):iY Q bZ db ρ (.endRangeFunc l) (.endRangeFunc aN)
 |beginRound:iY Q bZ db ρ .beginRound .beginRound
structure rV(ρ:Ren)(e f:PanicEntry):Prop where
 v:aQ ρ e.v f.v
 recovered:e.recovered=false/\f.recovered=false
 goexit:e.goexit=f.goexit
inductive qB(ρ:Ren):FrameMode->FrameMode->Prop
 |run:qB ρ .run .run
 |returning:qB ρ .returning .returning
 |panicking {a b} (h:cK (rV ρ) a b):qB ρ (.panicking a) (.panicking b)
structure g8(Q P:Program) where
 db:FuncId->Array Oper->Array Oper->Prop
 fn:FuncId->Prop
variable{Q P:Program}
structure cN(K:g8 Q P)(ρ:Ren)(fr bo:Frame):Prop where
 fn:fr.fn=bo.fn
 tmps:bQ ρ fr.tmps bo.tmps
 todo:cK (iY Q fr.roundOf.isSome (K.db fr.fn) ρ) fr.todo bo.todo
 defers:cK (me ρ) fr.defers bo.defers
 mode:qB ρ fr.mode bo.mode
 kind:fr.kind=bo.kind
 kindOk:fr.kind=.normal\/fr.kind=.deferred
 round:fl ρ.r fr.roundOf bo.roundOf
 known:fr.roundOf=none->∃iM im,Q.funcs[fr.fn]?=some iM/\P.funcs[fr.fn]?=some im/\iM.results=im.results
 ret:fr.mode=.returning->fr.roundOf=none
def fj(K:g8 Q P)(f:FuncId)(d im:Func):Prop:=
 (∃c bp,d.body=some c/\im.body=some bp/\d.results=im.results/\gF Q false (K.db f) c bp)\/(∃g,d.body=some (.refuse g))\/K.fn f
inductive oB(K:g8 Q P)(ρ:Ren):Frame->Frame->Prop
 |plain {fr bo} (h:cN K ρ fr bo):oB K ρ fr bo
 |refused {fr bo} (hh) (h:fr.todo = [.code (.refuse hh)]) (hm:fr.mode=.run):oB K ρ fr bo
 |sh {f a b kind} (h:K.fn f) (aa:S8 kind) (ca:bQ ρ a b) (ae:∀n,ρ.eb f=some n->a.size=n):oB K ρ (Frame.enter Q f a kind) (Frame.enter P f b kind)
variable{K:g8 Q P}{ρ ai:Ren}{bZ:Bool}{db:Array Oper->Array Oper->Prop}
def iY.mono(h:ρ.le ai){a b:Item}(x:iY Q bZ db ρ a b):iY Q bZ db ai a b:=by
 cases x with
 |code k=>exact .code k
 |inBlock id=>exact .inBlock id
 |inLoop k=>exact .inLoop k
 |inScope k=>exact .inScope k
 |inRegion l k=>exact .inRegion l k
 |inRangeFunc k=>exact .inRangeFunc (h.sub _ _ k)
 |endRangeFunc k=>exact .endRangeFunc (h.sub _ _ k)
 |beginRound=>exact .beginRound
def rV.mono(h:ρ.le ai){a b:PanicEntry}(x:rV ρ a b):rV ai a b:=⟨x.v.mono h,x.recovered,x.goexit⟩
def qB.mono(h:ρ.le ai){a b:FrameMode}(x:qB ρ a b):qB ai a b:=by
 cases x with
 |run=>exact .run
 |returning=>exact .returning
 |panicking k=>exact .panicking (k.mono λ_ _=>rV.mono h)
def cN.mono(h:ρ.le ai){a b:Frame}(x:cN K ρ a b):cN K ai a b:=
 ⟨x.fn,x.tmps.mono h,x.todo.mono λ_ _=>iY.mono h,x.defers.mono λ_ _ k=>k.mono h,x.mode.mono h,x.kind,x.kindOk,x.round.mono h.sub,x.known,x.ret⟩
def nX(h:ρ.le ai){a b:List Frame}(x:cK (cN K ρ) a b):cK (cN K ai) a b:=x.mono λ_ _=>cN.mono h
def cK.append{α β:Type}{R:α->β->Prop}{a c:List α}{b d:List β}(h:cK R a b)(k:cK R c d):cK R (a++c) (b++d):=by
 induction h with
 |nil=>exact k
 |cons x _ f=>exact .cons x f
def tk:aQ ρ undef undef:=.tuple rfl aF
def zv{a b:Array Value}(h:bQ ρ a b)(t:Nat):aQ ρ (a.getD t undef) (b.getD t undef):=by
 rw[Array.getD_eq_getD_getElem?,Array.getD_eq_getD_getElem?];rcases bQ.get? h t with⟨x,y,c,d,f⟩|⟨c,d⟩
 .rw[c,d];exact f
 .rw[c,d];exact tk
def tY(F:Fit Q ρ){fr bo:Frame}(h:bQ ρ fr.tmps bo.tmps)(x:Operand)(az:er Q x=true):aQ ρ (fr.eval x) (bo.eval x):=by
 cases x with
 |tmp t=>exact zv h t
 |const v=>
  simp only[er,Bool.or_eq_true]at az;rcases az with az|az
  .exact BW 64 v az
  .exact Nv F.je az
 |global g=>cases az
 |func f=>exact .func (.func f (by rw[F.fits.eb];simpa [er]using az)) rfl aF rfl aF
def Kq(id:Nat){a b:List Item}(h:cK (iY Q bZ db ρ) a b):fl (cK (iY Q bZ db ρ)) (exitTo id a) (exitTo id b):=by
 induction h with
 |nil=>exact .none
 |cons x t c=>
  cases x with
  |inBlock d=>
   unfold exitTo;split
   .exact .some t
   .exact c
  |_=>unfold exitTo;exact c
def KF{c:Code}(l:Nat)(h:codeOk Q bZ c=true):∀r,findLabel c l=some r->codeOk Q bZ r=true:=by
 induction c with
 |seq a b f g=>
  intro r d;simp only[codeOk,Bool.and_eq_true]at h;unfold findLabel at d;rcases e:findLabel a l with _|x
  .rw[e]at d;exact g h.2 r d
  .rw[e]at d
   cases d;simp only[codeOk,Bool.and_eq_true];exact⟨f h.1 x e,h.2⟩
 |label m=>
  intro r d;unfold findLabel at d;split at d
  .cases d;rfl
  .cases d
 |_=>intro r d;unfold findLabel at d;cases d
def KE(l:Nat){c bp:Code}(h:gF Q bZ db c bp):fl (gF Q bZ db) (findLabel c l) (findLabel bp l):=by
 induction h with
 |same h=>
  rcases e:findLabel _ l with _|r
  .exact .none
  .exact .some (.same (KF l h r e))
 |seq _ k d g=>
  unfold findLabel;revert d;generalize findLabel _ l=x;generalize findLabel _ l=y;intro d;cases d with
  |none=>exact g
  |some f=>exact .some (.seq f k)
 |_=>unfold findLabel;exact .none
def KZ(l:Nat){a b:List Item}(h:cK (iY Q bZ db ρ) a b):fl (cK (iY Q bZ db ρ)) (gotoIn l a) (gotoIn l b):=by
 induction h with
 |nil=>exact .none
 |cons x t d=>
  cases x with
  |inScope c=>
   unfold gotoIn;have e:=KE l c;revert e;generalize findLabel _ l=x;generalize findLabel _ l=y;intro e;cases e with
   |none=>exact d
   |some he=>exact .some (.cons (.code he) (.cons (.inScope c) t))
  |_=>unfold gotoIn;exact d
def Et{ops:Array Oper}(h:p9 Q bZ ops=true){i:Nat}(d:ops[i]?=some o):o6 Q o.op=true/\(bZ=true->∀c,o.op≠.defer c):=by unfold p9 at h;rw[Array.all_eq_true]at h;have f:=bu d;have:=h i f;rw[fb f]at d;rw[bD d]at this;simp only[Bool.and_eq_true,Bool.not_eq_true']at this;refine⟨this.1,λj c g=>?_⟩;rw[j,g]at this;simp at this
def qX{fr bo:Frame}(h:cN K ρ fr bo){w:Value}(I:aQ ρ v w):cN K ρ (fr.finish v) (bo.finish w):=by
 obtain⟨f,c,D,g,j,o,p,q,r,u⟩:=h;obtain⟨fn,tmps,todo,defers,mode,kind,roundOf⟩:=fr;obtain⟨G,E,P,F,L,J,M⟩:=bo;dsimp only at f c D g j o p q r u;cases D with
 |nil=>exact⟨f,c,.nil,g,j,o,p,q,r,u⟩
 |@cons _ _ lt mt x t=>
  have reg:∀{ops C:Array Oper} {i:Nat} {rest:List Nat},iY Q roundOf.isSome (K.db fn) ρ (.inRegion ops rest) (.inRegion C rest)->((ops[i]?).bind (·.dst)=(C[i]?).bind (·.dst))->
   cN K ρ {fn,tmps:=match (ops[i]?).bind (·.dst)with|some d=>tmps.setIfInBounds d v|none=>tmps,todo:=.inRegion ops rest::lt,defers,mode,kind,roundOf} {fn:=G,tmps:=match (C[i]?).bind (·.dst)with|some d=>E.setIfInBounds d w|none=>E,todo:=.inRegion C rest::mt,defers:=F,mode:=L,kind:=J,roundOf:=M}:=by
   intro ops C i rest H hd;refine⟨f,?_,.cons H t,g,j,o,p,q,r,u⟩;dsimp only;rw[<-hd];cases (ops[i]?).bind (·.dst)with
   |none=>exact c
   |some d=>exact c.set d I
  cases x with
  |inRegion l z=>cases l with
   |nil=>exact⟨f,c,.cons (.inRegion [] z) t,g,j,o,p,q,r,u⟩
   |cons i rest=>exact reg (.inRegion rest z) rfl
  |inRangeFunc z=>exact⟨f,c,.cons (.endRangeFunc z) t,g,j,o,p,q,r,u⟩
  |beginRound=>exact⟨f,c,t,g,j,o,p,q,r,u⟩
  |code B=>exact⟨f,c,.cons (.code B) t,g,j,o,p,q,r,u⟩
  |inBlock id=>exact⟨f,c,.cons (.inBlock id) t,g,j,o,p,q,r,u⟩
  |inLoop B=>exact⟨f,c,.cons (.inLoop B) t,g,j,o,p,q,r,u⟩
  |inScope B=>exact⟨f,c,.cons (.inScope B) t,g,j,o,p,q,r,u⟩
  |endRangeFunc z=>exact⟨f,c,.cons (.endRangeFunc z) t,g,j,o,p,q,r,u⟩
def xt{fr bo:Frame}(h:cN K ρ fr bo){a b:List PanicEntry}(k:cK (rV ρ) a b):cN K ρ (fr.raise a) (bo.raise b):=by
 obtain⟨c,d,f,g,i,j,l,o,p,q⟩:=h;unfold Frame.raise;revert i;generalize fr.mode=m;generalize bo.mode=dd;intro i;cases i with
 |run=>exact⟨c,d,f,g,.panicking k,j,l,o,p,bR⟩
 |returning=>exact⟨c,d,f,g,.panicking k,j,l,o,p,bR⟩
 |panicking hp=>exact⟨c,d,f,g,.panicking (k.append hp),j,l,o,p,bR⟩
def pP(H:fe (fj K) Q P)(f:FuncId){a b:Array Value}(h:bQ ρ a b)(u:∀n,ρ.eb f=some n->a.size=n)(kind:CallKind)(p:S8 kind):oB K ρ (Frame.enter Q f a kind) (Frame.enter P f b kind):=by
 cases e:Q.funcs[f]? with
 |none=>exact .refused _ (by simp[Frame.enter,e];rfl) rfl
 |some o=>
 obtain⟨_,C⟩:=H.fn f o e;cases C with
 |none d _ _ _=>exact .refused _ (by simp[Frame.enter,e,d];rfl) rfl
 |ext _ _ _ d=>exact .refused _ (by simp[Frame.enter,e,d];rfl) rfl
 |same im hp d F G D z=>
  rcases z with⟨c,bp,j,q,r,w⟩|⟨E,j⟩|af
  .refine .plain ⟨rfl,?_,?_,.nil,.run,rfl,p,.none,λ_=>⟨o,im,e,hp,r⟩,bR⟩
   .simp only[Frame.enter,e,hp,Option.map_some,Option.getD_some,<-D,<-h.1]
    refine h.append ⟨aF,λi x y g l=>?_⟩;rw[Array.getElem?_replicate]at g l;split at g
    .rename_i B
     rw[if_pos B]at l;cases g;cases l;exact tk
    .cases g
   .simp only[Frame.enter,e,hp,j,q,Option.bind_some,Option.getD_some]
    exact .cons (.code w) .nil
  .exact .refused E (by simp[Frame.enter,e,j]) rfl
  .exact .sh af p h u
end
section
variable{Q P:Program}{K:g8 Q P}{ρ ai:Ren}
def hJ(K:g8 Q P)(ρ:Ren)(w w':World)(dS base:List Frame):GStep->GStep->Prop
 |.go g aG _,r=>(∃(ai:Ren) (cs:List Frame) (bo:Frame) (cs':List Frame) (bJ:World) (fg:Array Event),r=.go (S6 bo (cs'++base)) bJ fg/\
  g=(S6 g.frame (cs++dS))/\Eff ρ ai w aG w' bJ/\gm ai aG bJ/\(oB K ai g.frame bo/\(cN K ai g.frame bo\/cs≠[]))/\cK (cN K ai) cs cs'/\∀e∈fg,fc ai w e)\/
  ∃c c₁:Frame,dS=c::g.callers/\g=(S6 c₁ g.callers)/\((∃v,c₁=c.finish v)\/(∃d,c₁=c.raise d)\/c₁=c\/∃m,c₁={c with mode:=m}/\c.mode≠.panicking [])
 |.ended ..,_=>True
 |_,_=>False
section
variable{w w' aG bJ:World}{dS base cs cs':List Frame}{fr bo:Frame}{es fg:Array Event}
def hJ.sD(he:Eff ρ ai w aG w' bJ)(g:gm ai aG bJ)(c:cN K ai fr bo)(d:cK (cN K ai) cs cs')(f:∀e∈fg,fc ai w e):
 hJ K ρ w w' dS base (.go (S6 fr (cs++dS)) aG es) (.go (S6 bo (cs'++base)) bJ fg):=
 .inl ⟨ai,cs,bo,cs',bJ,fg,rfl,rfl,he,g,⟨.plain c,.inl c⟩,d,f⟩
def hJ.mk(he:Eff ρ ai w aG w' bJ)(g:dA ai aG bJ)(f:cN K ai fr bo)(c:cK (cN K ai) cs cs')(d:∀e∈fg,fc ai w e):
 hJ K ρ w w' dS base (.go (S6 fr (cs++dS)) aG es) (.go (S6 bo (cs'++base)) bJ fg):=.sD he g.hrel f c d
def hJ.Ca{c:Frame}(he:Eff ρ ai w aG w' bJ)(h:gm ai aG bJ)(g:oB K ai fr bo)(d:cK (cN K ai) (c::cs) cs')(f:∀e∈fg,fc ai w e):
 hJ K ρ w w' dS base (.go (S6 fr ((c::cs)++dS)) aG es) (.go (S6 bo (cs'++base)) bJ fg):=
 .inl ⟨ai,c::cs,bo,cs',bJ,fg,rfl,rfl,he,h,⟨g,.inr (List.cons_ne_nil _ _)⟩,d,f⟩
def hJ.call{c:Frame}(he:Eff ρ ai w aG w' bJ)(h:dA ai aG bJ)(g:oB K ai fr bo)(d:cK (cN K ai) (c::cs) cs')(f:∀e∈fg,fc ai w e):
 hJ K ρ w w' dS base (.go (S6 fr ((c::cs)++dS)) aG es) (.go (S6 bo (cs'++base)) bJ fg):=.Ca he h.hrel g d f
def hJ.stay(f:dA ρ w w')(d:cN K ρ fr bo)(c:cK (cN K ρ) cs cs'):
 hJ K ρ w w' dS base (.go (S6 fr (cs++dS)) w) (.go (S6 bo (cs'++base)) w'):=
 .mk Eff.refl f (d) c aF
def nv(p:Program)(f:FuncId)(es:Array Event):∀e∈seen p f es,e∈es:=by
 have key:∀(f:Bool×Array Event->Event->Bool×Array Event),(∀x e y,y∈(f x e).2->y∈x.2\/y=e)->∀(l:List Event) (x:Bool×Array Event) (y:Event),y∈(l.foldl f x).2->y∈x.2\/y∈l:=by
  intro f c l;induction l with
  |nil=>intro x y h;exact .inl h
  |cons e l d=>
   intro x y h;rcases d (f x e) y h with k|k
   .rcases c x e y k with k|k
    .exact .inl k
    .exact .inr (by rw[k];exact List.mem_cons_self)
   .exact .inr (List.mem_cons_of_mem _ k)
 intro e he;unfold seen at he;dsimp only at he;rw[<-Array.foldl_toList]at he;rcases key _ (by
  rintro⟨q,g⟩ e y;dsimp only;split
  .exact .inl
  .intro hm
   dsimp only at hm;split at hm
   .exact .inl hm
   .exact Array.mem_push.1 hm) es.toList _ e he with k|k
 .simp at k
 .exact Array.mem_toList_iff.1 k
def qD(fr:Frame):Prop:=∀d b r s k,fr.todo≠.call d b r s::k
def cN.uE(h:cN K ρ fr bo):qD fr/\qD bo:=by
 have t:=h.todo;constructor
 .intro d b r s k e
  rw[e]at t;generalize bo.todo=x at t;cases t with|cons h _=>cases h
 .intro d b r s k e
  rw[e]at t;generalize fr.todo=x at t;cases t with|cons h _=>cases h
def cN.early(h:cN K ρ fr bo):(fr.kind == .early)=false/\(bo.kind == .early)=false:=by
 rcases h.kindOk with k|k
 .exact⟨by rw[k];rfl,by rw[<-h.kind,k];rfl⟩
 .exact⟨by rw[k];rfl,by rw[<-h.kind,k];rfl⟩
section
variable{p:Program}{s:Sem Next}
def r6(d:s.runT p w #[]=(.ok (.value v) aG,es))(c:(fr.kind == .early)=false):stepG.apply p true fr cs none s w=.go (S6 (fr.finish v) cs) aG (seen p fr.fn es):=by simp[stepG.apply,d,c,GStep.after]
def tL(d:s.runT p w #[]=(.ok .skip aG,es))(c:(fr.kind == .early)=false):stepG.apply p true fr cs none s w=.go (S6 (fr.finish undef) cs) aG (seen p fr.fn es):=by simp[stepG.apply,d,c,GStep.after]
def vB{d:Deferred}(f:s.runT p w #[]=(.ok (.defer d) aG,es))(c:(fr.kind == .early)=false):stepG.apply p true fr cs none s w=.go (S6 ({fr with defers:=d::fr.defers}.finish undef) cs) aG (seen p fr.fn es):=by simp[stepG.apply,f,c,GStep.after]
def vC{f:FuncId}{a:Array Value}(j:s.runT p w #[]=(.ok (.enter f a) aG,es))(g:(fr.kind == .early)=false)(c:qD fr):stepG.apply p true fr cs none s w=.go (S6 (Frame.enter p f a .normal) (fr::cs)) aG (seen p fr.fn es):=by
 obtain⟨fn,tmps,todo,defers,mode,kind,roundOf⟩:=fr;unfold qD at c;dsimp only at c g;have:∀x:CallKind,(∀d r s k,todo≠.call d true r s::k)->(match todo with |.call _ true _ _::_=>x|_=>.normal)=.normal:=by
  intro x h;split
  .exact absurd rfl (h _ _ _ _)
  .rfl
 simp only[stepG.apply,if_true,j,g,GStep.after];rcases todo with _|⟨i,k⟩
 .simp
 .cases i with
  |call d b r s=>exact absurd rfl (c d b r s k)
  |_=>simp
def vE{l:Nat}{f:FuncId}{a:Array Value}{c d:Code}(h:s.runT p w #[]=(.ok (.round l f a c d) aG,es))(g:(fr.kind == .early)=false):stepG.apply p true fr cs none s w=.go (S6 (Frame.round l f a c d .normal) (fr::cs)) aG (seen p fr.fn es):=by simp[stepG.apply,h,g,GStep.after]
def vD(d:s.runT p w #[]=(.halt (.panic v) aG,es))(c:(fr.kind == .early)=false):stepG.apply p true fr cs none s w=.go (S6 (fr.raise [{v,recovered:=false}]) cs) aG (seen p fr.fn es):=by simp[stepG.apply,d,c,GStep.after]
def yF(d:s.runT p w #[]=(.halt h aG,es))(c:jU h):∃o f ba,stepG.apply p true fr cs none s w=.ended o f ba:=by
 cases h with
 |stuck i=>exact⟨_,_,_,by simp only[stepG.apply,if_true,d,GStep.after];exact rfl⟩
 |unsupported u=>
  cases u with
  |initOrder g=>exact c.elim
  |_=>exact⟨_,_,_,by simp only[stepG.apply,if_true,d,GStep.after];exact rfl⟩
 |_=>exact c.elim
end
def Fl(F:Fit Q ρ){l aN:Nat}(j:ρ.r l aN)(f:FuncId){a b:Array Value}(h:bQ ρ a b){c d:Code}(g:ρ.cW c/\ρ.cW d)(kind:CallKind)(i:S8 kind):
 cN K ρ (Frame.round l f a c d kind) (Frame.round aN f b c d kind):=by
 rw[F.cW]at g;exact⟨rfl,h,.cons (.code (.same g.1)) (.cons .beginRound (.cons (.code (.same g.2)) .nil)),.nil,.run,rfl,i,.some j,bR,bR⟩
def xB(p:Program){α:Type}(s:Sem α)(w:World){r:Result α}(h:s.run p w=r):∃es,s.runT p w #[]=(r,es):=⟨(s.runT p w #[]).2,by rw[<-h,<-Sem.runT_fst p s w #[]]⟩
def yH{l:Bool}(F:Fit Q ρ)(H:fe (fj K) Q P)(V:ef l Q P h2 s ρ aX)(W:dA ρ w w')(u:cN K ρ fr bo)(G:cK (cN K ρ) cs cs'):
 hJ K ρ w w' dS base (stepG.apply Q true fr (cs++dS) none s w) (stepG.apply P true bo (cs'++base) none aX w'):=by
 have h:=ef.run V W;have k:=u.early;have I:=u.uE;rcases e:s.run Q w with⟨n,aG⟩|⟨x,aG⟩
 .rw[e]at h
  obtain⟨es,i⟩:=xB Q s w e;obtain⟨ai,c9,bJ,ba,z,he,q,U,C⟩:=h;have j:aX.runT P w' #[]=(.ok c9 bJ,ba):=by rw[z];simp
  have g:=u.mono he.le;have r:=nX he.le G;have bz:∀e∈seen P bo.fn ba,fc ai w e:=λe h=>C e (nv _ _ _ e h)
  cases U with
  |value E=>
   rw[r6 i k.1,r6 j k.2];exact .sD he q.1 ((qX g E)) r bz
  |skip=>
   rw[tL i k.1,tL j k.2];exact .sD he q.1 ((qX g tk)) r bz
  |enter f B R=>
   rw[vC i k.1 I.1,vC j k.2 I.2];exact .Ca (cs:=cs) (cs':=bo::cs') he q.1 (pP H f B R .normal (.inl rfl)) (.cons g r) bz
  |round T f B c d D=>
   rw[vE i k.1,vE j k.2];exact .sD (cs:=fr::cs) (cs':=bo::cs') he q.1 (Fl (F.mono he.le) T f B D .normal (.inl rfl)) (.cons g r) bz
  |@defer d J hd=>
   rw[vB i k.1,vB j k.2];have S:cN K ai {fr with defers:=d::fr.defers} {bo with defers:=J::bo.defers}:=⟨g.fn,g.tmps,g.todo,.cons hd g.defers,g.mode,g.kind,g.kindOk,g.round,g.known,g.ret⟩
   exact .sD he q.1 ((qX S tk)) r bz
 .rw[e]at h
  obtain⟨es,i⟩:=xB Q s w e;have M:jU x->hJ K ρ w w' dS base (stepG.apply Q true fr (cs++dS) none s w) (stepG.apply P true bo (cs'++base) none aX w'):=by intro D;obtain⟨o,Y,ba,L⟩:=yF (p:=Q) (fr:=fr) (cs:=cs++dS) i D;rw[L];trivial
  cases x with
  |panic v=>
   obtain⟨ai,X,bJ,ba,z,he,q,E,C⟩:=h;have j:aX.runT P w' #[]=(.halt (.panic X) bJ,ba):=by rw[z];simp
   rw[vD i k.1,vD j k.2];exact .sD he q.1 ((xt (u.mono he.le) (.cons ⟨E,⟨rfl,rfl⟩,rfl⟩ .nil))) (nX he.le G) λe h=>C e (nv _ _ _ e h)
  |_=>exact M h
end
end
section
variable{Q P:Program}{K:g8 Q P}{ρ ai:Ren}{bZ:Bool}{db:Array Oper->Array Oper->Prop}
section
variable{w w' aG bJ:World}{dS base cs cs':List Frame}{fr bo:Frame}{es fg:Array Event}
def I0:∀{c:Code},codeOk Q true c=true->codeOk Q false c=true:=by
 intro c;induction c with
 |region id ops d=>
  intro h;simp only[codeOk,p9,Array.all_eq_true,Bool.and_eq_true]at h ⊢;intro i o;exact⟨(h i o).1,aF⟩
 |seq a b j l=>
  intro h;simp only[codeOk,Bool.and_eq_true]at h ⊢;exact⟨j h.1,l h.2⟩
 |cond c a b j l=>
  intro h;simp only[codeOk,Bool.and_eq_true]at h ⊢;exact⟨h.1,j h.2.1,l h.2.2⟩
 |block id b g=>intro h;simp only[codeOk]at h ⊢;exact g h
 |loop b g=>intro h;simp only[codeOk]at h ⊢;exact g h
 |scope b g=>intro h;simp only[codeOk]at h ⊢;exact g h
 |rangeFunc f e9 a b _ _=>intro h;simpa only[codeOk]using h
 |_=>intro h;rfl
def IZ{c:Code}(h:codeOk Q true c=true)(bZ:Bool):codeOk Q bZ c=true:=by
 cases bZ
 .exact I0 h
 .exact h
def OW{a b c:Code}(h:gF Q bZ db (.seq a b) c):∃d f,c=.seq d f/\gF Q bZ db a d/\gF Q bZ db b f:=by
 cases h with
 |same h=>simp only[codeOk,Bool.and_eq_true]at h;exact⟨_,_,rfl,.same h.1,.same h.2⟩
 |seq h k=>exact⟨_,_,rfl,h,k⟩
def I2{x:Operand}{a b c:Code}(h:gF Q bZ db (.cond x a b) c):∃d f,c=.cond x d f/\er Q x=true/\gF Q bZ db a d/\gF Q bZ db b f:=by
 cases h with
 |same h=>simp only[codeOk,Bool.and_eq_true]at h;exact⟨_,_,rfl,h.1,.same h.2.1,.same h.2.2⟩
 |cond g h k=>exact⟨_,_,rfl,g,h,k⟩
def Ib{id:Nat}{a c:Code}(h:gF Q bZ db (.block id a) c):∃d,c=.block id d/\gF Q bZ db a d:=by
 cases h with
 |same h=>exact⟨_,rfl,.same (by simpa only[codeOk]using h)⟩
 |block h=>exact⟨_,rfl,h⟩
def LS{a c:Code}(h:gF Q bZ db (.loop a) c):∃d,c=.loop d/\gF Q bZ db a d:=by
 cases h with
 |same h=>exact⟨_,rfl,.same (by simpa only[codeOk]using h)⟩
 |loop h=>exact⟨_,rfl,h⟩
def OO{a c:Code}(h:gF Q bZ db (.scope a) c):∃d,c=.scope d/\gF Q bZ db a d:=by
 cases h with
 |same h=>exact⟨_,rfl,.same (by simpa only[codeOk]using h)⟩
 |scope h=>exact⟨_,rfl,h⟩
def N8{id:Nat}{ops:Array Oper}{d:Bool}{c:Code}(h:gF Q bZ db (.region id ops d) c):∃f,c=.region id f d/\((ops=f/\p9 Q bZ ops=true)\/db ops f):=by
 cases h with
 |same h=>exact⟨_,rfl,.inl ⟨rfl,by simpa only[codeOk]using h⟩⟩
 |Pj h=>exact⟨_,rfl,.inr h⟩
def fc.through{aR:Ren}{g h:World}(he:Eff ρ ai w aG w' bJ)(k:Eff ai aR aG g bJ h)(x:fc aR aG e):fc aR w e:=by
 refine x.back (λb c d f=>(he.guard b c d f).1) ?_;rintro b ⟨c,d⟩;rcases k.new b c d with x|⟨x,_⟩
 .rcases he.new b c x with y|⟨y,_⟩
  .exact .inl ⟨_,y⟩
  .exact .inr y
 .exact .inr (cL he.rJ x)
def hJ.after{r d:GStep}(he:Eff ρ ai w aG w' bJ)(z:dA ai aG bJ)(q:∀e∈fg,fc ai w e)(h:hJ K ai aG bJ dS base r d):hJ K ρ w w' dS base (GStep.after es r) (GStep.after fg d):=by
 cases r with
 |go g C ba=>
  rcases h with⟨aR,cs,bo,cs',D,f,rfl,u,c,i,j,l,p⟩|h
  case inr=>exact .inr h
  refine .inl ⟨aR,cs,bo,cs',D,fg++f,rfl,u,he.trans z c,i,j,l,λe B=>?_⟩;rcases Array.mem_append.1 B with y|y
  .exact(q e y).mono c.le
  .exact fc.through he c (p e y)
 |ended o C ba=>trivial
 |_=>exact h.elim
def CG(main E:Bool)(he:Eff ρ ai w aG w' bJ)(p:dA ai aG bJ)(i:cN K ai fr bo)(B:cK (cN K ai) cs cs')(D:dS≠[]){u:Value}(C:aQ ai v u)(j:∀e∈fg,fc ai w e):
 hJ K ρ w w' dS base (GStep.after es (doReturn Q main fr (cs++dS) none v aG)) (GStep.after fg (doReturn P E bo (cs'++base) none u bJ)):=by
 cases B with
 |nil=>
  rcases dS with _|⟨c,rest⟩
  .exact absurd rfl D
  rcases i.kindOk with k|k
  .simp only[doReturn,List.nil_append,k,GStep.after]
   exact .inr ⟨c,c.finish v,rfl,rfl,.inl ⟨v,rfl⟩⟩
  .simp only[doReturn,List.nil_append,k,GStep.after]
   obtain⟨fn,tmps,todo,defers,mode,kind,roundOf⟩:=c;refine .inr ⟨_,_,rfl,rfl,?_⟩;cases mode with
   |run=>exact .inr (.inr (.inl rfl))
   |returning=>exact .inr (.inr (.inl rfl))
   |panicking ch=>
    rcases ch with _|⟨⟨v,r,g⟩,M⟩
    .exact .inr (.inr (.inl rfl))
    .cases r
     .exact .inr (.inr (.inl rfl))
     .refine .inr (.inr (.inr ?_))
      dsimp only;split<;>exact⟨_,rfl,by intro h;cases h⟩
 |@cons c bp l m f o=>
  have d:=i.kind;rcases i.kindOk with k|k
  .rw[k]at d
   simp only[doReturn,List.cons_append,k,<-d,GStep.after];exact .mk he p ((qX f C)) o (by simpa using j)
  .rw[k]at d
   have hm:=f.mode;obtain⟨fn,tmps,todo,defers,mode,kind,roundOf⟩:=c;obtain⟨I,S,T,H,L,J,R⟩:=bp;dsimp only at hm;have fin:=hJ.mk (dS:=dS) (base:=base) (es:=es++#[]) (fg:=fg++#[]) he p (f) o (by simpa using j);cases hm with
   |run=>simpa only[doReturn,List.cons_append,k,<-d,GStep.after]using fin
   |returning=>simpa only[doReturn,List.cons_append,k,<-d,GStep.after]using fin
   |panicking hp=>
    cases hp with
    |nil=>simpa only[doReturn,List.cons_append,k,<-d,GStep.after]using fin
    |@cons a b _ _ z _=>
     obtain⟨gA,eb,F⟩:=a;obtain⟨bv,G,S'⟩:=b;obtain⟨_,⟨r1,q⟩,_⟩:=z;dsimp only at r1 q;subst r1;subst q;simpa only[doReturn,List.cons_append,k,<-d,GStep.after]using fin
end
end
section
variable{Q P:Program}{K:g8 Q P}{ρ ai:Ren}{bZ:Bool}{db:Array Oper->Array Oper->Prop}
section
variable{w w' aG bJ:World}{dS base cs cs':List Frame}{fr bo:Frame}{es fg:Array Event}
def Ft{l:Bool}{α β:Type}{A:Ren->α->β->Prop}{s:Sem α}{aX:Sem β}(p:ef l Q P A s ρ aX)(q:dA ρ w w'):
 (∃a b aG bJ ai ba c,s.runT Q w #[]=(.ok a aG,ba)/\aX.runT P w' #[]=(.ok b bJ,c)/\Eff ρ ai w aG w' bJ/\tJ l ai aG bJ/\A ai a b/\∀e∈c,fc ai w e)\/
 (∃v o aG bJ ai ba c,s.runT Q w #[]=(.halt (.panic v) aG,ba)/\aX.runT P w' #[]=(.halt (.panic o) bJ,c)/\Eff ρ ai w aG w' bJ/\tJ l ai aG bJ/\aQ ai v o/\∀e∈c,fc ai w e)\/
 (∃h aG ba,s.runT Q w #[]=(.halt h aG,ba)/\jU h):=by
 have h:=ef.run p q;rcases e:s.run Q w with⟨a,aG⟩|⟨x,aG⟩
 .rw[e]at h
  obtain⟨es,d⟩:=xB Q s w e;obtain⟨ai,b,bJ,ba,f,he,j,i,g⟩:=h;exact .inl ⟨a,b,aG,bJ,ai,es,ba,d,by rw[f];simp,he,j,i,g⟩
 .rw[e]at h
  obtain⟨es,d⟩:=xB Q s w e;cases x with
  |panic v=>
   obtain⟨ai,b,bJ,ba,f,he,j,i,g⟩:=h;exact .inr (.inl ⟨v,b,aG,bJ,ai,es,ba,d,by rw[f];simp,he,j,i,g⟩)
  |_=>exact .inr (.inr ⟨_,aG,es,d,h⟩)
def pb{α β:Type}{A:Ren->α->β->Prop}{s:Sem α}{aX:Sem β}(o:a2 Q P A s ρ aX)(p:dA ρ w w'):
 (∃a b aG bJ ai ba c,s.runT Q w #[]=(.ok a aG,ba)/\aX.runT P w' #[]=(.ok b bJ,c)/\Eff ρ ai w aG w' bJ/\dA ai aG bJ/\A ai a b/\∀e∈c,fc ai w e)\/
 (∃v l aG bJ ai ba c,s.runT Q w #[]=(.halt (.panic v) aG,ba)/\aX.runT P w' #[]=(.halt (.panic l) bJ,c)/\Eff ρ ai w aG w' bJ/\dA ai aG bJ/\aQ ai v l/\∀e∈c,fc ai w e)\/
 (∃h aG ba,s.runT Q w #[]=(.halt h aG,ba)/\jU h):=by
 rcases Ft o p with⟨a,b,aG,bJ,ai,ba,c,d,f,g,i,j⟩|⟨a,b,aG,bJ,ai,ba,c,d,f,g,i,j⟩|h
 .exact .inl ⟨a,b,aG,bJ,ai,ba,c,d,f,g,i.2 rfl,j⟩
 .exact .inr (.inl ⟨a,b,aG,bJ,ai,ba,c,d,f,g,i.2 rfl,j⟩)
 .exact .inr (.inr h)
def Plain(K:g8 Q P)(fr bo:Frame):Prop:=∀id ops c d k f,fr.todo=.code (.region id ops d)::k->bo.todo=.code (.region id c d)::f->¬K.db fr.fn ops c
def Sy{ops g:Array Oper}(h:∀i:Nat,(ops[i]?).bind (·.dst)=(g[i]?).bind (·.dst)){a b:Array Value}(k:bQ ρ a b)(j:Nat):yielded ops a j=yielded g b j:=by
 unfold yielded;rw[<-h j];cases (ops[j]?).bind (·.dst)with
 |none=>rfl
 |some d=>
  rcases bQ.get? k d with⟨x,y,c,f,o⟩|⟨c,f⟩
  .simp only[Option.bind_some,c,f]
   cases o with
   |gI p l=>cases y<;>first|rfl|exact l.elim
   |_=>rfl
  .simp only[Option.bind_some,c,f]
def mB(p:Program)(main:Bool)(fr:Frame)(cs:List Frame)(w:World)(c:Option Code):GStep:=
 match fr.roundOf with
 |none=>if c matches none|some .ret then .go (S6 ({fr with mode:=.returning}) cs) w else .ended (.stuck "exit, goto: no such block or label" (fr.pos p)) w
 |some l=>
  let (r,es):=(Instr.endRound l c).runT p w #[];GStep.after (seen p fr.fn es) <|match r with
  |.ok v w=>doReturn p main fr cs none v w
  |.halt _ w=>.ended (.stuck "range over a function: no such loop" (fr.pos p)) w
section
variable(p:Program)(main:Bool)(fn:FuncId)(tmps:Array Value)(k:List Item)(defers:List Deferred)(kind:CallKind)(ro:Option Nat)(st:GoStatus)(off:Option (Array CommCase×CommShape))(id:Nat)
def step_end:stepG p main ⟨⟨fn,tmps,[],defers,.run,kind,ro⟩,cs,st,none,off⟩ w=mB p main ⟨fn,tmps,[],defers,.run,kind,ro⟩ cs w none:=by cases ro<;>rfl
def step_ret:stepG p main ⟨⟨fn,tmps,.code .ret::k,defers,.run,kind,ro⟩,cs,st,none,off⟩ w=mB p main ⟨fn,tmps,.code .ret::k,defers,.run,kind,ro⟩ cs w (some .ret):=by cases ro<;>rfl
def step_exit:stepG p main ⟨⟨fn,tmps,.code (.exit id)::k,defers,.run,kind,ro⟩,cs,st,none,off⟩ w =
 (exitTo id k).elim (mB p main ⟨fn,tmps,.code (.exit id)::k,defers,.run,kind,ro⟩ cs w (some (.exit id))) λnC=>.go (S6 ⟨fn,tmps,nC,defers,.run,kind,ro⟩ cs) w:=by
 cases ro<;>rfl
def step_goto:stepG p main ⟨⟨fn,tmps,.code (.goto id)::k,defers,.run,kind,ro⟩,cs,st,none,off⟩ w =
 (gotoIn id k).elim (mB p main ⟨fn,tmps,.code (.goto id)::k,defers,.run,kind,ro⟩ cs w (some (.goto id))) λnC=>.go (S6 ⟨fn,tmps,nC,defers,.run,kind,ro⟩ cs) w:=by
 cases ro<;>rfl
end
def Lu(F:Fit Q ρ)(r:dA ρ w w')(d:cN K ρ fr bo)(o:cK (cN K ρ) cs cs')(H:dS≠[])(main z:Bool)(g:Option Code)(E:∀c,g=some c->codeOk Q true c=true):
 hJ K ρ w w' dS base (mB Q main fr (cs++dS) w g) (mB P z bo (cs'++base) w' g):=by
 obtain⟨fn,tmps,todo,defers,mode,kind,ro⟩:=fr;obtain⟨C,J,L,B,S,I,T⟩:=bo;have j:=d.round;dsimp only at j;unfold mB;cases j with
 |none=>
  dsimp only;have fin:hJ K ρ w w' dS base (.go (S6 ⟨fn,tmps,todo,defers,.returning,kind,none⟩ (cs++dS)) w) (.go (S6 ⟨C,J,L,B,.returning,I,none⟩ (cs'++base)) w'):=
   .stay r ⟨d.fn,d.tmps,d.todo,d.defers,.returning,d.kind,d.kindOk,.none,d.known,λ_=>rfl⟩ o
  cases g with
  |none=>exact fin
  |some c=>cases c<;>first|exact fin|trivial
 |@some l aN G=>
  dsimp only;rcases pb (FK (Q:=Q) (P:=P) G g (λc e=>by rw[F.cW];exact E c e)) r with⟨v,M,aG,bJ,ai,ba,D,f,i,he,u,q,p⟩|⟨v,M,aG,bJ,ai,ba,D,f,i,he,u,q,p⟩|⟨h,aG,ba,f,R⟩
  .rw[f,i]
   exact CG main z he u (d.mono he.le) (nX he.le o) H q λe h=>p e (nv _ _ _ e h)
  .rw[f]
   trivial
  .rw[f]
   trivial
def R3{ops:Array Oper}{a b:Array Value}(k:bQ ρ a b)(i:Nat):
 ((ops[i]?).map (Region.wanted · (yielded ops a))).getD false=((ops[i]?).map (Region.wanted · (yielded ops b))).getD false:=by
 have c:yielded ops a=yielded ops b:=funext λj=>Sy (λ_=>rfl) k j
 rw[c]
section
variable(p:Program)(main:Bool)(fn:FuncId)(tmps:Array Value)(k:List Item)(defers:List Deferred)(kind:CallKind)(ro:Option Nat)(st:GoStatus)(off:Option (Array CommCase×CommShape))(id:Nat)
def rA(ops:Array Oper)(i:Nat)(rest:List Nat):stepG p main ⟨⟨fn,tmps,.inRegion ops (i::rest)::k,defers,.run,kind,ro⟩,cs,st,none,off⟩ w =
 if ((ops[i]?).map (Region.wanted · (yielded ops tmps))).getD false then stepG.oper p true ⟨fn,tmps,.inRegion ops (i::rest)::k,defers,.run,kind,ro⟩ cs none w
 else .go (S6 (Frame.finish ⟨fn,tmps,.inRegion ops (i::rest)::k,defers,.run,kind,ro⟩ undef) cs) w:=rfl
def A4(ops:Array Oper)(d:Bool):stepG p main ⟨⟨fn,tmps,.code (.region id ops d)::k,defers,.run,kind,ro⟩,cs,st,none,off⟩ w =
 if !d then .go (S6 ⟨fn,tmps,.inRegion ops (List.range ops.size)::k,defers,.run,kind,ro⟩ cs) w
 else .go (S6 ⟨fn,tmps,.inRegion ops (Region.schedule (p.follows .mixedOrders) ops (w.tape w.drawn (.order fn id)))::k,defers,.run,kind,ro⟩ cs) {w with drawn:=w.drawn+1}:=by
 cases d<;>simp[stepG,stepG.exec,choose,Sem.run,Question.forced,Question.cut]
end
def rf{p:Program}(h:fr.oper?=some o)(hd:fr.roundOf=none\/∀c,o.op≠.defer c):stepG.oper p true fr cs none w=stepG.apply p true fr cs none (execOp fr.eval o) w:=by
 unfold stepG.oper;rw[h];dsimp only;rcases hd with hd|hd
 .rw[hd]
 .split
  .rename_i c _ e
   exact absurd e (hd c)
  .rfl
def MT(S:Same Q P)(F:Fit Q ρ)(l:ρ.room=true)(H:fe (fj K) Q P)(p:dA ρ w w')(d:cN K ρ fr bo)(g:cK (cN K ρ) cs cs')(h:fr.oper?=some o)(f:bo.oper?=some o)(j:o6 Q o.op=true)(hd:fr.roundOf=none\/∀c,o.op≠.defer c):hJ K ρ w w' dS base (stepG.oper Q true fr (cs++dS) none w) (stepG.oper P true bo (cs'++base) none w'):=by
 have i:bo.roundOf=none\/∀c,o.op≠.defer c:=by
  rcases hd with hd|hd
  .left
   have:=d.round;rw[hd]at this;revert this;generalize bo.roundOf=x;intro this;cases this;rfl
  .exact .inr hd
 rw[rf h hd,rf f i];exact yH F H (FN S F.fits H o (.inl l) j (λx q=>tY F d.tmps x q) (λv=>⟨rfl,rfl⟩) λ_=>⟨rfl,rfl⟩) p d g
def Kp(S:Same Q P)(F:Fit Q ρ)(aE:ρ.room=true)(H:fe (fj K) Q P)(r:dA ρ w w')(C:cN K ρ fr bo)(q:cK (cN K ρ) cs cs')(aw:fr.mode=.run)(aI:dS≠[])(aH:Plain K fr bo)(main al:Bool)(st aO:GoStatus)(off aL:Option (Array CommCase×CommShape)):
 hJ K ρ w w' dS base (stepG Q main ⟨fr,cs++dS,st,none,off⟩ w) (stepG P al ⟨bo,cs'++base,aO,none,aL⟩ w'):=by
 obtain⟨ao,z,ap,ad,aq,ar,T,B,U,V⟩:=id C;obtain⟨fn,tmps,todo,defers,mode,kind,roundOf⟩:=fr;obtain⟨aP,aa,ah,M,aS,aR,Z⟩:=bo;dsimp only at ao z ap ad aq ar T B U V aw;subst ao;subst ar;subst aw;cases aq;have mv:∀{todo ah:List Item},cK (iY Q roundOf.isSome (K.db fn) ρ) todo ah->hJ K ρ w w' dS base (.go (S6 ⟨fn,tmps,todo,defers,.run,kind,roundOf⟩ (cs++dS)) w) (.go (S6 ⟨fn,aa,ah,M,.run,kind,Z⟩ (cs'++base)) w'):=
  λh=>.stay r ⟨rfl,z,h,ad,.run,rfl,T,B,U,V⟩ q
 have ag:∀(Y:Option Code),(∀c,Y=some c->codeOk Q true c=true)->hJ K ρ w w' dS base (mB Q main ⟨fn,tmps,todo,defers,.run,kind,roundOf⟩ (cs++dS) w Y) (mB P al ⟨fn,aa,ah,M,.run,kind,Z⟩ (cs'++base) w' Y):=
  λY aD=>Lu F r C q aI main al Y aD
 cases ap with
 |nil=>rw[step_end,step_end];exact ag none aF
 |@cons i aQ k J ae g=>
  cases ae with
  |inBlock id=>simp only[stepG,stepG.exec];exact mv g
  |inLoop h=>simp only[stepG,stepG.exec];exact mv (.cons (.code h) (.cons (.inLoop h) g))
  |inScope h=>simp only[stepG,stepG.exec];exact mv g
  |inRangeFunc h=>simp only[stepG,stepG.exec];trivial
  |@endRangeFunc l aN h=>
   rcases pb (FJ S h) r with⟨v,aj,aG,bJ,ai,ba,R,j,E,he,D,⟨rfl,I⟩,G⟩|⟨v,aj,aG,bJ,ai,ba,R,j,E,he,D,af,G⟩|⟨x,aG,ba,j,I⟩
   .simp only[stepG,stepG.exec,j,E,GStep.after]
    have W:=C.mono he.le;refine .mk (fg:=seen P fn R++#[]) he D (⟨rfl,W.tmps,?_,W.defers,.run,rfl,T,W.round,U,V⟩) (nX he.le q) λe h=>G e (nv P fn _ e (by simpa using h))
    have au:=g.mono λ_ _=>iY.mono he.le
    cases v with
    |none=>exact au
    |some c=>
     have:=I c rfl;rw[(F.mono he.le).cW]at this;exact .cons (.code (.same (IZ this _))) au
   .simp only[stepG,stepG.exec,j,E,GStep.after]
    exact .mk (fg:=seen P fn R++#[]) he D ((xt (C.mono he.le) (.cons ⟨af,⟨rfl,rfl⟩,rfl⟩ .nil))) (nX he.le q) λe h=>G e (nv P fn _ e (by simpa using h))
   .simp only[stepG,stepG.exec,j]
    cases x<;>first|exact I.elim|trivial
  |beginRound=>
   simp only[stepG,stepG.exec];refine yH (l:=false) F H ?_ r C q;cases B with
   |none=>exact a2.stuck
   |some X=>exact A1 (FH S X)
  |@inRegion ops l h=>
   cases l with
   |nil=>simp only[stepG,stepG.exec];exact mv g
   |cons i rest=>
    rw[rA,rA];rw[<-R3 (ops:=ops) z i];split
    .rename_i ax
     rcases az:ops[i]? with _|o
     .rw[az]at ax;cases ax
     obtain⟨q1,aM⟩:=Et h az;exact MT S F aE H r C q (o:=o) (by simp[Frame.oper?,az]) (by simp[Frame.oper?,az]) q1 (by
      cases B with
      |none=>exact .inl rfl
      |some _=>exact .inr (aM rfl))
    .exact .stay r (qX C tk) q
  |@code c bp h=>
   cases c with
   |skip=>cases h;simp only[stepG,stepG.exec];exact mv g
   |label l=>cases h;simp only[stepG,stepG.exec];exact mv g
   |refuse aT=>cases h;simp only[stepG,stepG.exec];trivial
   |ret=>cases h;rw[step_ret,step_ret];exact ag _ (by rintro c e;cases e;rfl)
   |exit id=>
    cases h;rw[step_exit,step_exit];have e:=Kq id g;revert e;generalize exitTo id k=x;generalize exitTo id J=y;intro e;cases e with
    |none=>exact ag (some (.exit id)) (by rintro c e;cases e;rfl)
    |some e=>exact mv e
   |goto id=>
    cases h;rw[step_goto,step_goto];have e:=KZ id g;revert e;generalize gotoIn id k=x;generalize gotoIn id J=y;intro e;cases e with
    |none=>exact ag (some (.goto id)) (by rintro c e;cases e;rfl)
    |some e=>exact mv e
   |seq a b=>
    obtain⟨L,am,rfl,p,ak⟩:=OW h;simp only[stepG,stepG.exec];exact mv (.cons (.code p) (.cons (.code ak) g))
   |cond x a b=>
    obtain⟨L,am,rfl,aJ,p,ak⟩:=I2 h;simp only[stepG,stepG.exec];have e:=tY F (fr:=⟨fn,tmps,.code (.cond x a b)::k,defers,.run,kind,roundOf⟩) (bo:=⟨fn,aa,.code (.cond x L am)::J,M,.run,kind,Z⟩) z x aJ;revert e;generalize Frame.eval _ x=u;generalize Frame.eval _ x=v;intro e;cases e with
    |bool b=>
     dsimp only;cases b
     .exact mv (.cons (.code ak) g)
     .exact mv (.cons (.code p) g)
    |_=>trivial
   |block id a=>
    obtain⟨L,rfl,p⟩:=Ib h;simp only[stepG,stepG.exec];exact mv (.cons (.code p) (.cons (.inBlock id) g))
   |loop a=>
    obtain⟨L,rfl,p⟩:=LS h;simp only[stepG,stepG.exec];exact mv (.cons (.code p) (.cons (.inLoop p) g))
   |scope a=>
    obtain⟨L,rfl,p⟩:=OO h;simp only[stepG,stepG.exec];exact mv (.cons (.code p) (.cons (.inScope p) g))
   |region id ops d=>
    obtain⟨ay,rfl,az⟩:=N8 h;obtain⟨rfl,aC⟩:ops=ay/\p9 Q roundOf.isSome ops=true:=by
     rcases az with az|az
     .exact az
     .exact absurd az (aH id ops ay d k J rfl rfl)
    have ae:∀l,iY Q roundOf.isSome (K.db fn) ρ (.inRegion ops l) (.inRegion ops l):=λl=>.inRegion l aC
    rw[A4,A4];cases d with
    |false=>
     simp only[Bool.not_false,if_true];exact mv (.cons (ae _) g)
    |true=>
     simp only[Bool.not_true,Bool.false_eq_true,if_false];rw[<-S.follows,<-show w.tape w.drawn (.order fn id)=w'.tape w'.drawn (.order fn id)from r.tape 0 _];exact .mk Eff.tick r.tick (⟨rfl,z,.cons (ae _) g,ad,.run,rfl,T,B,U,V⟩) q aF
   |rangeFunc f e9 a b=>
    cases h with
    |same h=>
    simp only[codeOk,Bool.and_eq_true]at h;have I:ρ.cW a/\ρ.cW b:=by rw[F.cW];exact h.2
    have aB:=tY F (fr:=⟨fn,tmps,.code (.rangeFunc f e9 a b)::k,defers,.run,kind,roundOf⟩) (bo:=⟨fn,aa,.code (.rangeFunc f e9 a b)::J,M,.run,kind,Z⟩) z f h.1;rcases pb (AV (Q:=Q) (P:=P) fn z e9 a b I B) r with⟨v,aj,aG,bJ,ai,ba,R,j,E,he,D,af,G⟩|⟨v,aj,aG,bJ,ai,ba,R,j,E,he,D,af,G⟩|⟨x,aG,ba,j,I⟩
    .obtain⟨l,mk⟩:=v
     obtain⟨aN,aK⟩:=aj;obtain⟨X,av⟩:=af;dsimp only at X av;simp only[stepG,stepG.exec,j,E];have W:cN K ai ⟨fn,tmps,.inRangeFunc l::k,mk++defers,.run,kind,roundOf⟩ ⟨fn,aa,.inRangeFunc aN::J,aK++M,.run,kind,Z⟩:=
      ⟨rfl,z.mono he.le,.cons (.inRangeFunc X) (g.mono λ_ _=>iY.mono he.le),av.append (ad.mono λ_ _ k=>k.mono he.le),.run,rfl,T,B.mono he.le.sub,U,V⟩
     refine hJ.after he D (λe h=>G e (nv P fn _ e h)) (yH (l:=false) (F.mono he.le) H ?_ D W (nX he.le q));have aA:bQ ai #[Value.func (.yield l) #[] #[]] #[Value.func (.yield aN) #[] #[]]:=om (.func (.yield X) rfl aF rfl aF);simp only[resolve,List.map_toArray,List.map_cons,List.map_nil];exact AU S (F.mono he.le).fits H (aB.mono he.le) aA
    .simp only[stepG,stepG.exec,j]
     trivial
    .simp only[stepG,stepG.exec,j]
     trivial
end
end
section
variable{Q P:Program}{K:g8 Q P}{ρ ai:Ren}
section
variable{w w' aG bJ:World}{dS base cs cs':List Frame}{fr bo:Frame}{es fg:Array Event}
section
variable{p:Program}{d:Deferred}
def mn{n:Next}(g:(invoke d.target d.args).runT p w #[]=(.ok n aG,es))(f:(∃v,n=.value v)\/n=.skip\/∃d,n=.defer d)(c:((d.target matches .nil) && (fr.mode matches .panicking _))=false):
 callDeferred p fr cs none d w=.go (S6 fr cs) aG (seen p fr.fn es):=by
 unfold callDeferred;refine(if_neg λh=>absurd (c.symm.trans h) a6).trans ?_;rw[g];rcases f with⟨v,rfl⟩|rfl|⟨d,rfl⟩<;>simp[GStep.after]
def vR{f:FuncId}{a:Array Value}(g:(invoke d.target d.args).runT p w #[]=(.ok (.enter f a) aG,es))(c:((d.target matches .nil) && (fr.mode matches .panicking _))=false):
 callDeferred p fr cs none d w=.go (S6 (Frame.enter p f a .deferred) (fr::cs)) aG (seen p fr.fn es):=by
 unfold callDeferred;refine(if_neg λh=>absurd (c.symm.trans h) a6).trans ?_;rw[g];simp[GStep.after]
def vT{l:Nat}{f:FuncId}{a:Array Value}{c e:Code}(i:(invoke d.target d.args).runT p w #[]=(.ok (.round l f a c e) aG,es))(g:((d.target matches .nil) && (fr.mode matches .panicking _))=false):
 callDeferred p fr cs none d w=.go (S6 (Frame.round l f a c e .deferred) (fr::cs)) aG (seen p fr.fn es):=by
 unfold callDeferred;refine(if_neg λh=>absurd (g.symm.trans h) a6).trans ?_;rw[i];simp[GStep.after]
def vS(f:(invoke d.target d.args).runT p w #[]=(.halt (.panic v) aG,es))(c:((d.target matches .nil) && (fr.mode matches .panicking _))=false):
 callDeferred p fr cs none d w=.go (S6 (fr.raise [{v,recovered:=false}]) cs) aG (seen p fr.fn es):=by
 unfold callDeferred;refine(if_neg λh=>absurd (c.symm.trans h) a6).trans ?_;rw[f];simp[GStep.after]
def I4{c:String}(g:(invoke d.target d.args).runT p w #[]=(.halt (.stuck c) aG,es))(f:((d.target matches .nil) && (fr.mode matches .panicking _))=false):callDeferred p fr cs none d w=.ended (.stuck c (fr.pos p)) aG (seen p fr.fn es++#[]):=by unfold callDeferred;refine(if_neg λh=>absurd (f.symm.trans h) a6).trans ?_;rw[g];rfl
def I5{u:Unsupported}(f:(invoke d.target d.args).runT p w #[]=(.halt (.unsupported u) aG,es))(c:((d.target matches .nil) && (fr.mode matches .panicking _))=false):callDeferred p fr cs none d w=.ended (.unsupported u (fr.pos p)) aG (seen p fr.fn es++#[]):=by unfold callDeferred;refine(if_neg λh=>absurd (c.symm.trans h) a6).trans ?_;rw[f];rfl
def CE(f:(invoke d.target d.args).runT p w #[]=(.halt h aG,es))(g:jU h)(c:((d.target matches .nil) && (fr.mode matches .panicking _))=false):∃o i ba,callDeferred p fr cs none d w=.ended o i ba:=by
 cases h with
 |stuck j=>exact⟨_,_,_,I4 f c⟩
 |unsupported u=>exact⟨_,_,_,I5 f c⟩
 |_=>exact g.elim
def CF(c:((d.target matches .nil) && (fr.mode matches .panicking _))=true):∃o f ba,callDeferred p fr cs none d w=.ended o f ba:=
 ⟨_,_,_,if_pos c⟩
end
def B'(S:Same Q P)(F:Fit Q ρ)(H:fe (fj K) Q P)(V:dA ρ w w')(E:cN K ρ fr bo)(J:cK (cN K ρ) cs cs'){d B:Deferred}(hd:me ρ d B):
 hJ K ρ w w' dS base (callDeferred Q fr (cs++dS) none d w) (callDeferred P bo (cs'++base) none B w'):=by
 have M:((d.target matches .nil) && (fr.mode matches .panicking _))=((B.target matches .nil) && (bo.mode matches .panicking _)):=by have a:=hd.target;have b:=E.mode;revert a b;generalize d.target=x;generalize B.target=y;generalize fr.mode=u;generalize bo.mode=v;intro a b;cases a<;>cases b<;>rfl
 by_cases g:((d.target matches .nil) && (fr.mode matches .panicking _))=true
 .obtain⟨o,W,ba,e⟩:=CF (p:=Q) (w:=w) (cs:=cs++dS) g
  rw[e];trivial
 simp only[Bool.not_eq_true]at g;have l:=g;rw[M]at l;rcases pb (AX S H hd.target hd.args) V with⟨n,c9,aG,bJ,ai,ba,I,i,j,he,q,U,D⟩|⟨v,X,aG,bJ,ai,ba,I,i,j,he,q,L,D⟩|⟨x,aG,ba,i,G⟩
 .have z:=E.mono he.le
  have r:=nX he.le J;have bz:∀e∈seen P bo.fn I,fc ai w e:=λe h=>D e (nv _ _ _ e h)
  cases U with
  |value L=>
   rw[mn i (.inl ⟨_,rfl⟩) g,mn j (.inl ⟨_,rfl⟩) l];exact .mk he q (z) r bz
  |skip=>
   rw[mn i (.inr (.inl rfl)) g,mn j (.inr (.inl rfl)) l];exact .mk he q (z) r bz
  |defer hd=>
   rw[mn i (.inr (.inr ⟨_,rfl⟩)) g,mn j (.inr (.inr ⟨_,rfl⟩)) l];exact .mk he q (z) r bz
  |enter f C R=>
   rw[vR i g,vR j l];exact .call (cs:=cs) (cs':=bo::cs') he q (pP H f C R .deferred (.inr rfl)) (.cons z r) bz
  |round T f C c d G=>
   rw[vT i g,vT j l];exact .mk (cs:=fr::cs) (cs':=bo::cs') he q (Fl (F.mono he.le) T f C G .deferred (.inr rfl)) (.cons z r) bz
 .rw[vS i g,vS j l]
  exact .mk he q ((xt (E.mono he.le) (.cons ⟨L,⟨rfl,rfl⟩,rfl⟩ .nil))) (nX he.le J) λe h=>D e (nv _ _ _ e h)
 .obtain⟨o,W,gs,e⟩:=CE (fr:=fr) (cs:=cs++dS) i G g
  rw[e];trivial
def P1{α β g4:Type}{A:Ren->β->g4->Prop}(f:α->Sem β)(g:α->Sem g4)(hn:∀(ai aR:Ren) b c,ai.le aR->A ai b c->A aR b c)(j:∀(ai:Ren) x,ρ.le ai->a2 Q P A (f x) ai (g x)):
 ∀(l:List α) (ai:Ren),ρ.le ai->a2 Q P (λai=>cK (A ai)) (l.mapM f) ai (l.mapM g):=by
 intro l;induction l with
 |nil=>intro ai _;exact .ret .nil
 |cons x l q=>
  intro ai h;rw[List.mapM_cons,List.mapM_cons];refine(j ai x h).a8 ?_;intro aR b c o d;refine(q aR (Ren.le_trans h o)).a8 ?_;intro r u cs p i;exact .ret (.cons (hn aR r b c p d) i)
def RV{l m:List Value}(h:cK (aQ ρ) l m):bQ ρ l.toArray m.toArray:=by
 induction h with
 |nil=>exact .nil
 |@cons a b l m f _ g=>
  have c:(a::l).toArray=#[a]++l.toArray:=aF;have d:(b::m).toArray=#[b]++m.toArray:=aF;rw[c,d];exact(om f).append g
def AZ(S:Same Q P){i im:Func}(e:i.results=im.results){a b:Array Value}(h:bQ ρ a b):a2 Q P aQ (results i a) ρ (results im b):=by
 unfold results;rw[e,Array.mapM_eq_mapM_toList,Array.mapM_eq_mapM_toList];refine a2.a8 (A:=bQ) (FY (P1 (A:=aQ) (ρ:=ρ) _ _ (λ_ _ _ _ h k=>k.mono h) ?_ _ ρ (Ren.le_refl ρ)) λai a b _ o=>RV o) ?_
 .intro ai x j
  cases x with
  |tmp t=>exact .ret (zv (h.mono j) t)
  |cell t p=>
   refine(xP S (zv (h.mono j) t)).a8 ?_;intro aR x y _ g;exact FX S p g
 .intro ai x y _ g
  obtain⟨f,l⟩:=g;by_cases c:x.size=1
  .have d:y.size=1:=f ▸ c
   simp only[c,d,dif_pos];exact .ret (l 0 _ _ (by simp[c]) (by simp[d]))
  .have d:¬y.size=1:=f ▸ c
   simp only[c,d,dif_neg,not_false_eq_true];exact .ret (.tuple f l)
def RN(S:Same Q P)(F:Fit Q ρ)(H:fe (fj K) Q P)(z:dA ρ w w')(f:cN K ρ fr bo)(o:cK (cN K ρ) cs cs')(r:fr.mode≠.run)(X:dS≠[])(main Z:Bool)(st av:GoStatus)(off ar:Option (Array CommCase×CommShape)):
 hJ K ρ w w' dS base (stepG Q main ⟨fr,cs++dS,st,none,off⟩ w) (stepG P Z ⟨bo,cs'++base,av,none,ar⟩ w'):=by
 have aq:bo.mode≠.run:=by have:=f.mode;intro e;rw[e]at this;revert this r;generalize fr.mode=x;intro r this;cases this;exact r rfl
 have af:∀(p:Program) (main:Bool) (fr:Frame) (cs:List Frame) (st:GoStatus) (off:Option (Array CommCase×CommShape)) (w:World),fr.mode≠.run->stepG p main ⟨fr,cs,st,none,off⟩ w=unwind p main fr cs none w:=by
  intro p main fr cs st off w h;obtain⟨fn,tmps,todo,defers,mode,kind,ro⟩:=fr;cases mode with
  |run=>exact absurd rfl h
  |_=>rfl
 rw[af _ _ _ _ _ _ _ r,af _ _ _ _ _ _ _ aq];have U:=f.defers;obtain⟨fn,tmps,todo,defers,mode,kind,ro⟩:=fr;obtain⟨C,ag,ah,ax,aa,Y,ae⟩:=bo;dsimp only at U;cases U with
 |@cons d aj M R hd al=>
  have J:cN K ρ ⟨fn,tmps,todo,M,mode,kind,ro⟩ ⟨C,ag,ah,R,aa,Y,ae⟩:=⟨f.fn,f.tmps,f.todo,al,f.mode,f.kind,f.kindOk,f.round,f.known,f.ret⟩
  obtain⟨t,a⟩:=d;obtain⟨bh,aw⟩:=aj;have E:=hd.target;dsimp only at E;cases E with
  |collected ao=>
   simp only[unwind];rcases pb (F8 (Q:=Q) (P:=P) ao) z with⟨v,G,aG,bJ,ai,ba,D,g,j,he,B,u,q⟩|⟨v,G,aG,bJ,ai,ba,D,g,j,he,B,u,q⟩|⟨x,aG,ba,g,W⟩
   .rw[g,j]
    have i:=J.mono he.le;have am:cN K ai ⟨fn,tmps,todo,v++M,mode,kind,ro⟩ ⟨C,ag,ah,G++R,aa,Y,ae⟩:=⟨i.fn,i.tmps,i.todo,u.append i.defers,i.mode,i.kind,i.kindOk,i.round,i.known,i.ret⟩
    exact .mk (fg:=seen P C D++#[]) he B (am) (nX he.le o) λe h=>q e (nv P C _ e (by simpa using h))
   .rw[g];trivial
   .rw[g];trivial
  |nil=>exact B' S F H z J o hd
  |fn az aA=>exact B' S F H z J o hd
 |nil=>
  have V:=f.mode;dsimp only at V;cases V with
  |run=>exact absurd rfl r
  |panicking hp=>
   have L:=f.uE;have I:∀(p:Program) (fr:Frame),qD fr->fr.catches p=false:=by
    intro p fr h;unfold Frame.catches;split
    .rename_i e
     exact absurd e (h _ _ _ _ _)
    .rfl
   cases o with
   |nil=>
    rcases dS with _|⟨c,rest⟩
    .exact absurd rfl X
    simp only[unwind,List.nil_append,I _ _ L.1];exact .inr ⟨c,_,rfl,rfl,.inr (.inl ⟨_,rfl⟩)⟩
   |@cons c bp l m ak E=>
    simp only[unwind,List.cons_append,I _ _ L.1,I _ _ L.2];exact .mk Eff.refl z ((xt ak hp)) E aF
  |returning=>
   have ap:=f.ret rfl;obtain⟨ay,im,q1,ad,au⟩:=f.known ap;have T:=f.fn;dsimp only at T q1 ad;subst T;simp only[unwind,q1,ad];rcases pb (AZ S au f.tmps) z with⟨v,G,aG,bJ,ai,ba,D,g,j,he,B,u,q⟩|⟨v,G,aG,bJ,ai,ba,D,g,j,he,B,u,q⟩|⟨x,aG,ba,g,W⟩
   .rw[g,j]
    exact CG main Z he B (f.mono he.le) (nX he.le o) X u λe h=>q e (nv _ _ _ e h)
   .rw[g];trivial
   .rw[g]
    cases x<;>first|exact W.elim|trivial
def Gg(S:Same Q P)(F:Fit Q ρ)(o:ρ.room=true)(H:fe (fj K) Q P)(l:dA ρ w w')(i:cN K ρ fr bo)(g:cK (cN K ρ) cs cs')(j:dS≠[])(p:fr.mode=.run->Plain K fr bo)(main c:Bool)(st f:GoStatus)(off d:Option (Array CommCase×CommShape)):
 hJ K ρ w w' dS base (stepG Q main ⟨fr,cs++dS,st,none,off⟩ w) (stepG P c ⟨bo,cs'++base,f,none,d⟩ w'):=by
 by_cases h:fr.mode=.run
 .exact Kp S F o H l i g h j (p h) main c st f off d
 .exact RN S F H l i g h j main c st f off d
end
end
section
variable{Q P:Program}{K:g8 Q P}{ρ ai:Ren}{α β:Type}
def dM(w:World)(aR:Tape):World:={w with tape:=aR}
def GF{α:Type}:Result α->Tape->Result α
 |.ok a w,aR=>.ok a (dM w aR)
 |.halt h w,aR=>.halt h (dM w aR)
def sV{α:Type}:Result α->World
 |.ok _ w=>w
 |.halt _ w=>w
def tG(aR ai:Tape)(m n:Nat):Prop:=∀k,m<=k->k<n->aR k=ai k
def hx(Q:Program)(s:Sem α)(w:World)(es:Array Event):Prop:=
 (∀h aG,(s.runT Q w es).1=.halt h aG->¬jU h)->
  (sV (s.runT Q w es).1).tape=w.tape/\w.drawn<=(sV (s.runT Q w es).1).drawn/\
   ∀aR,tG aR w.tape w.drawn (sV (s.runT Q w es).1).drawn->s.runT Q (dM w aR) es=(GF (s.runT Q w es).1 aR,(s.runT Q w es).2)
def hx.step{s hs:Sem α}{kG:Array Event}(e:s.runT Q w es=hs.runT Q aG kG)(d:aG.tape=w.tape)(hd:w.drawn<=aG.drawn)(k:∀aR,(aG.drawn≠w.drawn->aR w.drawn=w.tape w.drawn)->s.runT Q (dM w aR) es=hs.runT Q (dM aG aR) kG)(h:hx Q hs aG kG):hx Q s w es:=by intro c;rw[e]at c ⊢;obtain⟨g,i,l⟩:=h c;refine⟨g.trans d,cL hd i,λaR f=>?_⟩;rw[k aR λq=>f _ bg U];exact l aR λj p o=>by rw[f j U o,d]
def hx.pX{s:Sem α}{ba:Array Event}(e:s.runT Q w es=(.halt h aG,ba))(c:jU h):hx Q s w es:=by intro k;exact absurd c (k h aG (by rw[e]))
def hx.dp{s:Sem α}(h:cY Q s):hx Q s w es:=by
 obtain⟨x,w',e,g,_⟩:=h w;have c:(s.runT Q w es).1=.halt x w':=by rw[Sem.runT_fst,e]
 intro k;exact absurd g (k x w' c)
def ef.loc{l:Bool}{A:Ren->α->β->Prop}{s:Sem α}:∀{ρ:Ren} {w w':World} {aX:Sem β} {es:Array Event},ef l Q P A s ρ aX->dA ρ w w'->hx Q s w es:=by
 induction s with
 |pure a=>
  intro ρ w w' aX es _ f _;exact⟨rfl,bg,λaR _=>rfl⟩
 |load m a k i=>
  rintro ρ w w' aX es (hd|⟨T,u,rfl,z,g⟩) f
  .exact .dp hd
  rcases yT f z with⟨v,Y,I,K,R⟩|I
  .refine hx.step (hs:=k v) (aG:=w) (kG:=es.push ⟨.cell a,false,m == .atomic⟩) (by simp only[Sem.runT,I]) rfl bg (λaR _=>?_) (i v (g v Y R) f)
   have J:(dM w aR).cell? a=some v:=I;simp only[Sem.runT,J]
  .obtain⟨s,M⟩:=zd (Q:=Q) f z (m == .atomic)
   exact .pX (by simp only[Sem.runT,I,M];rfl) (show jU (.stuck s)from trivial)
 |store m a v k i=>
  rintro ρ w w' aX es (hd|⟨T,Y,u,rfl,z,R,g⟩) f
  .exact .dp hd
  by_cases U:∃c,v=.agg c
  .obtain⟨c,rfl⟩:=U
   exact .pX (h:=.stuck _) (by simp only[Sem.runT];rfl) trivial
  by_cases W:∃c,v=.tuple c
  .obtain⟨c,rfl⟩:=W
   exact .pX (h:=.stuck _) (by simp only[Sem.runT];rfl) trivial
  have e:=λw=>xC (α:=α) Q m a v k w es (λc h=>U ⟨c,h⟩) (λc h=>W ⟨c,h⟩)
  rcases D:w.cell? a with _|x
  .obtain⟨s,M⟩:=CZ (Q:=Q) f z v (m == .atomic)
   exact .pX (h:=.stuck s) (by rw[e];simp only[D,M];rfl) trivial
  .by_cases E:w.frozen? a=true
   .exact .pX (h:=.unsupported (.unsafePointer "a write to bytes that a string shares")) (by rw[e];simp only[D];rw[if_pos E]) trivial
   .simp only[Bool.not_eq_true]at E
    obtain⟨⟨y,ah⟩,V,aa,F,ae⟩:=A5 f z R D E;refine hx.step (hs:=k) (aG:=w.setCell a v) (kG:=es.push ⟨.cell a,true,m == .atomic⟩) (by rw[e];simp only[D];rw[if_neg (by simp[E])]) rfl bg (λaR _=>?_) (i g F);have ad:(dM w aR).cell? a=some x:=D;have V:(dM w aR).frozen? a=false:=E;rw[e];simp only[ad];rw[if_neg (by simp[V])];rfl
 |new o k i=>
  rintro ρ w w' aX es (hd|⟨G,u,rfl,H,g⟩) f
  .exact .dp hd
  obtain⟨ai,j,he,F⟩:=D' f H;exact hx.step (hs:=k w.heap.size) (aG:={w with heap:=w.heap.push o}) (kG:=es) (by simp only[Sem.runT]) rfl bg (λaR _=>by simp only[Sem.runT];rfl) (i _ (g ai _ _ he.le j) F)
 |shape r k i=>
  rintro ρ w w' aX es (hd|⟨C,u,rfl,j,g⟩) f
  .exact .dp hd
  exact hx.step (hs:=k (w.shape? r)) (aG:=w) (kG:=es) (by simp only[Sem.runT]) rfl bg (λaR _=>by simp only[Sem.runT];rfl) (i _ (g _ _ (Fz f j)) f)
 |freeze a n k i=>intro ρ w w' aX es h f;exact .dp h
 |frozen a k i=>
  rintro ρ w w' aX es (hd|⟨T,u,rfl,z,g⟩) f
  .exact .dp hd
  exact hx.step (hs:=k (w.frozen? a)) (aG:=w) (kG:=es) (by simp only[Sem.runT]) rfl bg (λaR _=>by simp only[Sem.runT];rfl) (i _ (g _ _ (Dg f z) (Df f z)) f)
 |getObj r k i=>
  rintro ρ w w' aX es (hd|⟨C,u,rfl,j,g⟩) f
  .exact .dp hd
  obtain⟨o,G,I,K,B⟩:=f.obj r C j;have Z:eZ ρ o G:=B;have key:py o->hx Q (.getObj r k) w es:=by
   intro L;have st:∀w:World,w.heap[r]?=some o->Sem.runT Q (.getObj r k) w es=(k o).runT Q w (es.push ⟨.obj r,false,o.isChan⟩):=by intro w I;cases o<;>first|exact L.elim|simp only[Sem.runT,I]
   exact hx.step (hs:=k o) (aG:=w) (kG:=es.push ⟨.obj r,false,o.isChan⟩) (st w I) rfl bg (λaR _=>st (dM w aR) I) (i o (g o G Z) f)
  cases B with
  |cells a b c=>exact .pX (h:=.stuck "getObj: a row of cells") (by simp only[Sem.runT,I];rfl) trivial
  |_=>exact key trivial
 |setObj r o k i=>
  rintro ρ w w' aX es (hd|⟨C,G,u,rfl,j,H,L,g⟩) f
  .exact .dp hd
  obtain⟨x,af,I,K,B⟩:=f.obj r C j;have key:py x->hx Q (.setObj r o k) w es:=by
   intro X;obtain⟨F,ae,aa⟩:=AG f j H I X;have st:∀w:World,w.heap[r]?=some x->Sem.runT Q (.setObj r o k) w es=k.runT Q {w with heap:=w.heap.setIfInBounds r o} (es.push ⟨.obj r,true,o.isChan⟩):=by intro w I;cases x<;>first|exact X.elim|simp only[Sem.runT,I]
   exact hx.step (hs:=k) (aG:={w with heap:=w.heap.setIfInBounds r o}) (kG:=es.push ⟨.obj r,true,o.isChan⟩) (st w I) rfl bg (λaR _=>st (dM w aR) I) (i g F)
  cases B with
  |cells a b c=>exact .pX (h:=.stuck "setObj: a row of cells") (by simp only[Sem.runT,I];rfl) trivial
  |_=>exact key trivial
 |choose q k i=>
  rintro ρ w w' aX es (hd|⟨u,rfl,g⟩|⟨el,g⟩) f
  .exact .dp hd
  rotate_left
  .have sub:∀n d,hx Q (k n) {w with drawn:=d} es:=λn d=>by
    obtain⟨r,o,C,G,a,b,e,_,j,H,L,_⟩:=g n;rw[e];obtain⟨x,af,I,K,B⟩:=f.obj r C j;cases B with
    |cells a b c=>exact .pX (h:=.stuck "setObj: a row of cells") (by simp only[Sem.runT,I];rfl) trivial
    |_=>exact λ_=>⟨by simp only[Sem.runT,I];rfl,by simp only[Sem.runT,I];exact bg,λaR _=>by have J:(dM {w with drawn:=d} aR).heap[r]?=_:=I;simp only[Sem.runT,I,J];rfl⟩
   by_cases p:q.forced=true
   .exact hx.step (hs:=k 0) (aG:=w) (kG:=es) (by simp only[Sem.runT,p,if_true]) rfl bg (λaR _=>by simp only[Sem.runT,p,if_true]) (sub 0 w.drawn)
   .refine hx.step (hs:=k (q.cut (w.tape w.drawn q))) (aG:={w with drawn:=w.drawn+1}) (kG:=es) (by simp only[Sem.runT,p,if_false,Bool.false_eq_true]) rfl (Nat.le_succ _) (λaR S=>?_) (sub _ _)
    have:=S (Nat.succ_ne_self _);simp only[Sem.runT,p,if_false,Bool.false_eq_true];show(k (q.cut (aR w.drawn q))).runT Q {dM w aR with drawn:=w.drawn+1} es=_;rw[this];rfl
  by_cases p:q.forced=true
  .exact hx.step (hs:=k 0) (aG:=w) (kG:=es) (by simp only[Sem.runT,p,if_true]) rfl bg (λaR _=>by simp only[Sem.runT,p,if_true]) (i _ (g 0) f)
  .refine hx.step (hs:=k (q.cut (w.tape w.drawn q))) (aG:={w with drawn:=w.drawn+1}) (kG:=es) (by simp only[Sem.runT,p,if_false,Bool.false_eq_true]) rfl (Nat.le_succ _) (λaR S=>?_) (i _ (g _) f.tick)
   have:=S (Nat.succ_ne_self _);simp only[Sem.runT,p,if_false,Bool.false_eq_true];show(k (q.cut (aR w.drawn q))).runT Q {dM w aR with drawn:=w.drawn+1} es=_;rw[this];rfl
 |sys c k i=>intro ρ w w' aX es h f;exact .dp h
 |program k i=>
  rintro ρ w w' aX es (hd|⟨u,rfl,g⟩) f
  .exact .dp hd
  exact hx.step (hs:=k Q) (aG:=w) (kG:=es) (by simp only[Sem.runT]) rfl bg (λaR _=>by simp only[Sem.runT]) (i _ g f)
 |mark m k i=>
  rintro ρ w w' aX es (hd|⟨dd,u,rfl,ag,g⟩) f
  .exact .dp hd
  exact hx.step (hs:=k) (aG:=w) (kG:=es.push ⟨.mark m,false,true⟩) (by simp only[Sem.runT]) rfl bg (λaR _=>by simp only[Sem.runT]) (i g f)
 |halt x=>
  intro ρ w w' aX es h f _;exact⟨rfl,bg,λaR _=>rfl⟩
def dW(f:World->GStep)(w:World):Prop:=∀g aG es,f w=.go g aG es->aG.tape=w.tape/\w.drawn<=aG.drawn/\∀aR,tG aR w.tape w.drawn aG.drawn->f (dM w aR)=.go g (dM aG aR) es
def dW.go(g:Goroutine)(es:Array Event)(w:World):dW (λw=>.go g w es) w:=by intro g' aG ba h;cases h;exact⟨rfl,bg,λaR _=>rfl⟩
def dW.ended{f:World->GStep}(h:∃o aG es,f w=.ended o aG es):dW f w:=by obtain⟨o,aG,es,h⟩:=h;intro g c ba e;rw[h]at e;cases e
def dW.after{f:World->GStep}(es:Array Event)(h:dW f w):dW (λw=>GStep.after es (f w)) w:=by
 intro g aG ba e;dsimp only at e;rcases c:f w with⟨p,q,o⟩|_|_|_|_|_|_|_|_|_|_<;>rw[c]at e<;>try cases e
 obtain⟨d,i,j⟩:=h _ _ _ c;exact⟨d,i,λaR l=>by dsimp only;rw[j aR l];rfl⟩
def dW.doReturn(p:Program)(main:Bool)(fr:Frame)(cs:List Frame)(v:Value)(w:World):dW (λw=>doReturn p main fr cs none v w) w:=by
 intro g aG es e;have key:∀w:World,(∃g,∀w:World,Go.doReturn p main fr cs none v w=.go g w)\/∀w,∃o es,Go.doReturn p main fr cs none v w=.ended o w es:=by
  intro w;unfold Go.doReturn;rcases cs with _|⟨c,rest⟩
  .dsimp only
   cases d:fr.kind
   case report=>exact .inr λw=>⟨_,_,rfl⟩
   all_goals
    dsimp only;cases main
    .exact .inl ⟨_,λw=>rfl⟩
    .simp only[Bool.not_true,Bool.false_eq_true,if_false]
     cases p.inits.idxOf? fr.fn
     .exact .inr λw=>⟨_,_,rfl⟩
     .exact .inl ⟨_,λw=>rfl⟩
  .dsimp only
   cases d:fr.kind<;>exact .inl ⟨_,λw=>rfl⟩
 rcases key w with⟨g',h⟩|h
 .dsimp only at e
  rw[h]at e;cases e;exact⟨rfl,bg,λaR _=>h _⟩
 .obtain⟨o,ba,h⟩:=h w
  dsimp only at e;rw[h]at e;cases e
def AH{α:Type}:Result α->World->Result α
 |.ok a _,w=>.ok a w
 |.halt h _,w=>.halt h w
def OX(r:Result α):AH r (sV r)=r:=by cases r<;>rfl
def OY(r:Result α)(aR:Tape):AH r (dM (sV r) aR)=GF r aR:=by cases r<;>rfl
def a2.loc{A:Ren->α->β->Prop}{s:Sem α}{ρ:Ren}{aX:Sem β}(h:a2 Q P A s ρ aX)(c:dA ρ w w'):hx Q s w es:=ef.loc h c
def dW.run{A:Ren->α->β->Prop}{s:Sem α}{aX:Sem β}(z:a2 Q P A s ρ aX)(B:dA ρ w w')(F:Result α×Array Event->GStep)(I:∀a aG ba,s.runT Q w #[]=(.ok a aG,ba)->dW (λw=>F (.ok a w,ba)) aG)(hp:∀v aG ba,s.runT Q w #[]=(.halt (.panic v) aG,ba)->dW (λw=>F (.halt (.panic v) w,ba)) aG)(G:∀h aG ba,s.runT Q w #[]=(.halt h aG,ba)->jU h->∃o c es,F (.halt h aG,ba)=.ended o c es):dW (λw=>F (s.runT Q w #[])) w:=by
 intro g c gs e;dsimp only at e;have i:=a2.loc (es:=#[]) z B;have fin:∀(r:Result α) (ba:Array Event),s.runT Q w #[]=(r,ba)->(∀h aG,r=.halt h aG->¬jU h)->dW (λw=>F (AH r w,ba)) (sV r)->
  c.tape=w.tape/\w.drawn<=c.drawn/\∀aR,tG aR w.tape w.drawn c.drawn->F (s.runT Q (dM w aR) #[])=.go g (dM c aR) gs:=by
  intro r ba d H h;unfold hx at i;rw[d]at i e;obtain⟨f,l,p⟩:=i (λh aG he=>H h aG he);obtain⟨K,L,M⟩:=h g c gs (by dsimp only;rw[OX];exact e);dsimp only at f l p;refine⟨K.trans f,cL l L,λaR C=>?_⟩;rw[p aR λj q u=>C j q U];have:=M aR λj q u=>by rw[C j U u,f]
  dsimp only at this;rw[OY]at this;exact this
 rcases d:s.runT Q w #[]with⟨⟨a,aG⟩|⟨x,aG⟩,ba⟩
 .exact fin _ _ d aF (I a aG ba d)
 .have E:jU x->c.tape=w.tape/\w.drawn<=c.drawn/\∀aR,tG aR w.tape w.drawn c.drawn->F (s.runT Q (dM w aR) #[])=.go g (dM c aR) gs:=by intro J;obtain⟨o,R,es,he⟩:=G x aG ba d J;rw[d,he]at e;cases e
  have h:=a2.run z B;have D:s.run Q w=.halt x aG:=by rw[<-Sem.runT_fst Q s w #[],d]
  rw[D]at h;cases x with
  |panic v=>exact fin _ _ d (by rintro h w he;cases he;exact id) (hp v aG ba d)
  |_=>exact E h
section
variable{w w' aG bJ:World}{C cs cs':List Frame}{fr bo:Frame}{es fg:Array Event}
def yG{l:Bool}(E:ef l Q P h2 s ρ aX)(F:dA ρ w w')(k:(fr.kind == .early)=false)(G:qD fr):dW (λw=>stepG.apply Q true fr C none s w) w:=by
 intro g T gs e;dsimp only at e ⊢;have z:=ef.loc (es:=#[]) E F;unfold hx at z;rcases Ft E F with⟨n,c9,aG,bJ,ai,ba,B,i,H,he,L,M,J⟩|⟨v,S,aG,bJ,ai,ba,B,i,H,he,L,K,J⟩|⟨x,aG,ba,i,D⟩
 .rw[i]at z
  obtain⟨q,r,u⟩:=z aF;cases M with
  |value K=>rw[r6 i k]at e;cases e;exact⟨q,r,λaR j=>r6 (u aR j) k⟩
  |skip=>rw[tL i k]at e;cases e;exact⟨q,r,λaR j=>tL (u aR j) k⟩
  |enter f I R=>rw[vC i k G]at e;cases e;exact⟨q,r,λaR j=>vC (u aR j) k G⟩
  |round z f I c d D=>rw[vE i k]at e;cases e;exact⟨q,r,λaR j=>vE (u aR j) k⟩
  |defer hd=>rw[vB i k]at e;cases e;exact⟨q,r,λaR j=>vB (u aR j) k⟩
 .rw[i]at z
  obtain⟨q,r,u⟩:=z (by rintro h w he;cases he;exact id);rw[vD i k]at e;cases e;exact⟨q,r,λaR j=>vD (u aR j) k⟩
 .obtain⟨o,U,B,he⟩:=yF (p:=Q) (fr:=fr) (cs:=C) i D
  rw[he]at e;cases e
def B9(S:Same Q P)(H:fe (fj K) Q P)(E:dA ρ w w'){d F:Deferred}(hd:me ρ d F):dW (λw=>callDeferred Q fr C none d w) w:=by
 by_cases i:((d.target matches .nil) && (fr.mode matches .panicking _))=true
 .exact .ended (CF i)
 simp only[Bool.not_eq_true]at i;intro g V gs e;dsimp only at e ⊢;have D:=AX (ρ:=ρ) S H hd.target hd.args;have u:=a2.loc (es:=#[]) D E;unfold hx at u;rcases pb D E with⟨n,c9,aG,bJ,ai,ba,z,j,G,he,M,R,J⟩|⟨v,U,aG,bJ,ai,ba,z,j,G,he,M,L,J⟩|⟨x,aG,ba,j,B⟩
 .rw[j]at u
  obtain⟨p,q,r⟩:=u aF;cases R with
  |value L=>rw[mn j (.inl ⟨_,rfl⟩) i]at e;cases e;exact⟨p,q,λaR l=>mn (r aR l) (.inl ⟨_,rfl⟩) i⟩
  |skip=>rw[mn j (.inr (.inl rfl)) i]at e;cases e;exact⟨p,q,λaR l=>mn (r aR l) (.inr (.inl rfl)) i⟩
  |defer hd=>rw[mn j (.inr (.inr ⟨_,rfl⟩)) i]at e;cases e;exact⟨p,q,λaR l=>mn (r aR l) (.inr (.inr ⟨_,rfl⟩)) i⟩
  |enter f I T=>rw[vR j i]at e;cases e;exact⟨p,q,λaR l=>vR (r aR l) i⟩
  |round u f I c d B=>rw[vT j i]at e;cases e;exact⟨p,q,λaR l=>vT (r aR l) i⟩
 .rw[j]at u
  obtain⟨p,q,r⟩:=u (by rintro h w he;cases he;exact id);rw[vS j i]at e;cases e;exact⟨p,q,λaR l=>vS (r aR l) i⟩
 .obtain⟨o,W,z,he⟩:=CE (fr:=fr) (cs:=C) j B i
  rw[he]at e;cases e
def Lt(F:Fit Q ρ)(o:dA ρ w w')(g:cN K ρ fr bo)(main:Bool)(d:Option Code)(i:∀c,d=some c->codeOk Q true c=true):dW (λw=>mB Q main fr C w d) w:=by
 obtain⟨fn,tmps,todo,defers,mode,kind,ro⟩:=fr;obtain⟨q,B,D,p,u,r,z⟩:=bo;have f:=g.round;dsimp only at f;unfold mB;cases f with
 |none=>
  dsimp only;rcases d with _|c
  .exact dW.go _ _ _
  .cases c<;>first|exact dW.go _ _ _|exact .ended ⟨_,_,_,rfl⟩
 |@some l aN j=>
  refine dW.run (FK (Q:=Q) (P:=P) j d (λc e=>by rw[F.cW];exact i c e)) o (λx=>GStep.after (seen Q fn x.2) (match x.1 with
   |.ok v w=>doReturn Q main ⟨fn,tmps,todo,defers,mode,kind,some l⟩ C none v w
   |.halt _ w=>.ended (.stuck "range over a function: no such loop" (Frame.pos Q ⟨fn,tmps,todo,defers,mode,kind,some l⟩)) w)) ?_ ?_ ?_
  .intro a aG ba _
   exact dW.after _ (dW.doReturn _ _ _ _ _ _)
  .intro v aG ba _
   exact .ended ⟨_,_,_,rfl⟩
  .intro h aG ba _ _
   exact⟨_,_,_,rfl⟩
def MS(S:Same Q P)(F:Fit Q ρ)(g:ρ.room=true)(H:fe (fj K) Q P)(i:dA ρ w w')(d:cN K ρ fr bo)(h:fr.oper?=some o)(f:o6 Q o.op=true)(hd:fr.roundOf=none\/∀c,o.op≠.defer c):dW (λw=>stepG.oper Q true fr C none w) w:=by
 have e:(λw=>stepG.oper Q true fr C none w)=λw=>stepG.apply Q true fr C none (execOp fr.eval o) w:=funext λw=>rf h hd
 rw[e];exact yG (FN S F.fits H o (.inl g) f (λx j=>tY F d.tmps x j) (λv=>⟨rfl,rfl⟩) λ_=>⟨rfl,rfl⟩) i d.early.1 d.uE.1
def Ko(S:Same Q P)(F:Fit Q ρ)(av:ρ.room=true)(H:fe (fj K) Q P)(u:dA ρ w w')(p:cN K ρ fr bo)(W:fr.mode=.run)(aA:Plain K fr bo)(main:Bool)(st:GoStatus)(off:Option (Array CommCase×CommShape)):dW (λw=>stepG Q main ⟨fr,C,st,none,off⟩ w) w:=by
 obtain⟨R,D,T,ah,U,V,aj,B,ak,al⟩:=id p;obtain⟨fn,tmps,todo,defers,mode,kind,roundOf⟩:=fr;obtain⟨ay,ad,aH,M,aE,aC,L⟩:=bo;dsimp only at R D T ah U V aj B ak al W;subst R;subst V;subst W;cases U;have G:∀(z:Option Code),(∀c,z=some c->codeOk Q true c=true)->dW (λw=>mB Q main ⟨fn,tmps,todo,defers,.run,kind,roundOf⟩ C w z) w:=
  λz ar=>Lt F u p main z ar
 cases T with
 |nil=>simp only[step_end];exact G none aF
 |@cons i aB k aa aq az=>
  cases aq with
  |inBlock id=>exact dW.go _ _ _
  |inLoop h=>exact dW.go _ _ _
  |inScope h=>exact dW.go _ _ _
  |inRangeFunc h=>exact .ended ⟨_,_,_,rfl⟩
  |@endRangeFunc l aN h=>
   refine dW.run (FJ (Q:=Q) (P:=P) S h) u (λx=>GStep.after (seen Q fn x.2) (match x.1 with
    |.ok z w=>.go (S6 ⟨fn,tmps,(z.map Item.code).toList++k,defers,.run,kind,roundOf⟩ C) w
    |.halt (.panic v) w=>.go (S6 (Frame.raise ⟨fn,tmps,.endRangeFunc l::k,defers,.run,kind,roundOf⟩ [{v,recovered:=false}]) C) w
    |.halt _ w=>.ended (.stuck "range over a function: no such loop" (Frame.pos Q ⟨fn,tmps,.endRangeFunc l::k,defers,.run,kind,roundOf⟩)) w)) ?_ ?_ ?_
   .intro a aG ba _
    exact dW.after _ (dW.go _ _ _)
   .intro v aG ba _
    exact dW.after _ (dW.go _ _ _)
   .intro h aG ba _ q
    cases h<;>first|exact q.elim|exact⟨_,_,_,rfl⟩
  |beginRound=>
   refine yG (l:=false) (P:=P) (ρ:=ρ) (w':=w') (aX:=do L.elim (stuck "beginRound: no round") Instr.beginRound;pure .skip) ?_ u p.early.1 p.uE.1;cases B with
   |none=>exact a2.stuck
   |some E=>exact A1 (FH S E)
  |@inRegion ops l h=>
   cases l with
   |nil=>exact dW.go _ _ _
   |cons i rest=>
    simp only[rA];split
    .rename_i Z
     rcases J:ops[i]? with _|o
     .rw[J]at Z;cases Z
     obtain⟨q1,ax⟩:=Et h J;exact MS S F av H u p (o:=o) (by simp[Frame.oper?,J]) q1 (by
      cases B with
      |none=>exact .inl rfl
      |some _=>exact .inr (ax rfl))
    .exact dW.go _ _ _
  |@code c bp h=>
   cases c with
   |skip=>exact dW.go _ _ _
   |label l=>exact dW.go _ _ _
   |refuse aI=>exact .ended ⟨_,_,_,rfl⟩
   |ret=>simp only[step_ret];exact G _ (by rintro c e;cases e;rfl)
   |exit id=>
    simp only[step_exit];cases exitTo id k with
    |none=>exact G (some (.exit id)) (by rintro c e;cases e;rfl)
    |some e=>exact dW.go _ _ _
   |goto id=>
    simp only[step_goto];cases gotoIn id k with
    |none=>exact G (some (.goto id)) (by rintro c e;cases e;rfl)
    |some e=>exact dW.go _ _ _
   |seq a b=>exact dW.go _ _ _
   |cond x a b=>
    simp only[stepG,stepG.exec];split
    .exact dW.go _ _ _
    .exact .ended ⟨_,_,_,rfl⟩
   |block id a=>exact dW.go _ _ _
   |loop a=>exact dW.go _ _ _
   |scope a=>exact dW.go _ _ _
   |region id ops d=>
    simp only[A4];cases d with
    |false=>exact dW.go _ _ _
    |true=>
     simp only[Bool.not_true,Bool.false_eq_true,if_false];intro g aJ gs e;cases e;refine⟨rfl,Nat.le_succ _,λaR aw=>?_⟩;have:aR w.drawn=w.tape w.drawn:=aw _ bg (Nat.lt_succ_self _);show GStep.go (S6 ⟨fn,tmps,.inRegion ops (Region.schedule (Q.follows .mixedOrders) ops (aR w.drawn (.order fn id)))::k,defers,.run,kind,roundOf⟩ C) (dM {w with drawn:=w.drawn+1} aR) #[]=_;rw[this]
   |rangeFunc f e9 a b=>
    cases h with
    |same h=>
    simp only[codeOk,Bool.and_eq_true]at h;have q:ρ.cW a/\ρ.cW b:=by rw[F.cW];exact h.2
    have ap:=tY F (fr:=⟨fn,tmps,.code (.rangeFunc f e9 a b)::k,defers,.run,kind,roundOf⟩) (bo:=⟨fn,ad,.code (.rangeFunc f e9 a b)::aa,M,.run,kind,L⟩) D f h.1;refine dW.run (AV (Q:=Q) (P:=P) fn D e9 a b q B) u (λx=>GStep.after (seen Q fn x.2) (match x.1 with
     |.ok (l,mark) w=>stepG.apply Q true ⟨fn,tmps,.inRangeFunc l::k,mark++defers,.run,kind,roundOf⟩ C none (do let d <-resolve (Frame.eval ⟨fn,tmps,.inRangeFunc l::k,mark++defers,.run,kind,roundOf⟩) {callee:=.value f,args:=#[.const (.func (.yield l) #[] #[])],argTypes:=#[]} 0;invoke d.target d.args) w
     |.halt _ w=>.ended (.stuck "range over a function: no such loop" (Frame.pos Q ⟨fn,tmps,.code (.rangeFunc f e9 a b)::k,defers,.run,kind,roundOf⟩)) w)) ?_ ?_ ?_
    .rintro⟨l,mark⟩ aG ba I
     dsimp only;refine dW.after _ ?_;rcases pb (AV (Q:=Q) (P:=P) fn D e9 a b q B) u with⟨v,ae,aG,bJ,ai,ba,ag,j,af,he,Y,X,ao⟩|⟨v,ae,aG,bJ,ai,ba,ag,j,af,he,Y,X,ao⟩|⟨x,aG,ba,j,q⟩
     .rw[I]at j
      cases j;obtain⟨aN,aD⟩:=ae;obtain⟨E,au⟩:=X;dsimp only at E au;refine yG (l:=false) (P:=P) (ρ:=ai) (w':=bJ) (aX:=do let d <-resolve (Frame.eval ⟨fn,ad,.code (.rangeFunc f e9 a b)::aa,M,.run,kind,L⟩) {callee:=.value f,args:=#[.const (.func (.yield aN) #[] #[])],argTypes:=#[]} 0;invoke d.target d.args) ?_ Y p.early.1 ?_
      .have am:bQ ai #[Value.func (.yield l) #[] #[]] #[Value.func (.yield aN) #[] #[]]:=om (.func (.yield E) rfl aF rfl aF)
       simp only[resolve,List.map_toArray,List.map_cons,List.map_nil];exact AU S (F.mono he.le).fits H (ap.mono he.le) am
      .intro d b r s k e
       cases e
     .rw[I]at j;cases j
     .rw[I]at j;cases j
    .intro v aG ba _
     exact .ended ⟨_,_,_,rfl⟩
    .intro h aG ba _ q
     exact⟨_,_,_,rfl⟩
def RL(S:Same Q P)(F:Fit Q ρ)(H:fe (fj K) Q P)(g:dA ρ w w')(f:cN K ρ fr bo)(G:fr.mode≠.run)(hC:C≠[])(main:Bool):dW (λw=>unwind Q main fr C none w) w:=by
 have j:=f.defers;obtain⟨fn,tmps,todo,defers,mode,kind,ro⟩:=fr;obtain⟨T,af,ag,M,Z,Y,ae⟩:=bo;dsimp only at j;cases j with
 |@cons d z i R hd X=>
  obtain⟨t,a⟩:=d;obtain⟨bh,L⟩:=z;have o:=hd.target;dsimp only at o;cases o with
  |@collected r ad D=>
   refine dW.run (F8 (Q:=Q) (P:=P) D) g (λx=>GStep.after (seen Q fn x.2) (match x.1 with
    |.ok q w=>.go (S6 ⟨fn,tmps,todo,q++i,mode,kind,ro⟩ C) w
    |.halt _ w=>.ended (.stuck "the deferred calls of a range-over-func loop have been taken" (Frame.pos Q ⟨fn,tmps,todo,{target:=.collected r,args:=a}::i,mode,kind,ro⟩)) w)) ?_ ?_ ?_
   .intro v aG ba _
    exact dW.after _ (dW.go _ _ _)
   .intro v aG ba _
    exact .ended ⟨_,_,_,rfl⟩
   .intro h aG ba _ B
    exact⟨_,_,_,rfl⟩
  |nil=>exact B9 S H g hd
  |fn V W=>exact B9 S H g hd
 |nil=>
  have l:=f.mode;dsimp only at l;cases l with
  |run=>exact absurd rfl G
  |panicking hp=>
   have I:=f.uE;have u:∀(p:Program) (fr:Frame),qD fr->fr.catches p=false:=by
    intro p fr h;unfold Frame.catches;split
    .rename_i e
     exact absurd e (h _ _ _ _ _)
    .rfl
   rcases C with _|⟨c,C⟩
   .exact absurd rfl hC
   simp only[unwind,u _ _ I.1];exact dW.go _ _ _
  |returning=>
   have E:=f.ret rfl;obtain⟨U,im,q1,aa,J⟩:=f.known E;simp only[unwind,q1];refine dW.run (AZ (ρ:=ρ) S J f.tmps) g (λx=>GStep.after (seen Q fn x.2) (match x.1 with
    |.ok v w=>doReturn Q main ⟨fn,tmps,todo,[],.returning,kind,ro⟩ C none v w
    |.halt (.stuck s) w=>.ended (.stuck s (Frame.pos Q ⟨fn,tmps,todo,[],.returning,kind,ro⟩)) w
    |.halt _ w=>.ended (.stuck "return: the result variables cannot be read" (Frame.pos Q ⟨fn,tmps,todo,[],.returning,kind,ro⟩)) w)) ?_ ?_ ?_
   .intro v aG ba _
    exact dW.after _ (dW.doReturn _ _ _ _ _ _)
   .intro v aG ba _
    exact .ended ⟨_,_,_,rfl⟩
   .intro h aG ba _ B
    cases h<;>exact⟨_,_,_,rfl⟩
def Qy(S:Same Q P)(F:Fit Q ρ)(f:ρ.room=true)(H:fe (fj K) Q P)(d:dA ρ w w')(c:cN K ρ fr bo)(hC:C≠[])(g:fr.mode=.run->Plain K fr bo)(main:Bool)(st:GoStatus)(off:Option (Array CommCase×CommShape)):dW (λw=>stepG Q main ⟨fr,C,st,none,off⟩ w) w:=by
 by_cases h:fr.mode=.run
 .exact Ko S F f H d c h (g h) main st off
 .have i:(λw=>stepG Q main ⟨fr,C,st,none,off⟩ w)=λw=>unwind Q main fr C none w:=by
   obtain⟨fn,tmps,todo,defers,mode,kind,ro⟩:=fr;cases mode with
   |run=>exact absurd rfl h
   |_=>rfl
  rw[i];exact RL S F H d c h hC main
end
end
section
variable{Q:Program}{R:Value->World->Prop}{f0:FuncId}
def wall:Frame:={fn:=0,tmps:=#[],todo:=[],defers:=[{target:=.nil,args:=#[]}],mode:=.panicking [],kind:=.normal}
structure dt where
 fr:Frame
 cs:List Frame
 w:World
def dt.iF(V:dt)(aR:Tape):dt:={V with w:=dM V.w aR}
abbrev dt.g(V:dt):Goroutine:=(S6 V.fr (V.cs++[wall]))
abbrev dt.m(V:dt):Machine:=lone V.fr (V.cs++[wall]) V.w
def dt.stop(V:dt):Prop:=V.cs = []/\V.fr.mode=.returning/\V.fr.defers = []
structure lB(Q:Program)(b4 V:dt):Prop where
 stay:¬V.stop
 sS:∀k,k<V.w.drawn->b4.w.tape k=V.w.tape k
 mono:V.w.drawn<=b4.w.drawn
 step:∃es,∀aR,tG aR b4.w.tape V.w.drawn b4.w.drawn->stepG Q true V.g (dM V.w aR)=.go b4.g (dM b4.w aR) es
def e3(Q:Program)(f0:FuncId)(R:Value->World->Prop)(V:dt):Prop:=
 ∀aR:Tape,(∀k,k<V.w.drawn->aR k=V.w.tape k)->∃v w' bo,R v w'/\Steps Q (V.iF aR).m (lone bo [wall] w')/\bo.leaving Q w' (.returned v)/\bo.fn=f0
def p0{a b:Frame}{c:List Frame}{u:World}(h:lone a cs w=lone b c u):a=b/\cs=c/\w=u:=by
 unfold lone at h;injection h with d f o
 injection f with g
 injection g with i _
 injection i with j l
 exact⟨j,l,d⟩
def Rg(V:dt):V.iF V.w.tape=V:=rfl
def GY{c:Frame}(h:(∃v,c=wall.finish v)\/(∃d,c=wall.raise d)\/c=wall\/∃m,c={wall with mode:=m}/\wall.mode≠.panicking [])(w:World):∃o w',step Q (lone c [] w)=.ended o w':=by
 have key:∀ch,∃o w',step Q (lone {wall with mode:=.panicking ch} [] w)=.ended o w':=λch=>
  ⟨_,_,step_lone_ended (o:=.unsupported (.noEntry "machine/Return: a deferred call of a nil function value, made while the frame is unwinding") (Frame.pos Q {wall with mode:=.panicking ch,defers:=[]})) (w':=w) (by simp only[stepG,wall,unwind,callDeferred];rfl)⟩
 rcases h with⟨v,rfl⟩|⟨d,rfl⟩|rfl|⟨m,rfl,hm⟩
 .exact key []
 .have:wall.raise d={wall with mode:=.panicking d}:=by simp[Frame.raise,wall]
  rw[this];exact key d
 .exact key []
 .exact absurd rfl hm
def uX{V:dt}{g:Goroutine}{fr:Frame}(h:stepG Q true V.g V.w=.go g aG es)(c:g=(S6 fr cs)):step Q V.m=.next (lone fr cs aG):=by subst c;exact step_lone_go (by rw[h];rfl)
def e3.head{V:dt}(h:e3 Q f0 R V){aR:Tape}(r:∀k,k<V.w.drawn->aR k=V.w.tape k)(q:¬V.stop):∃d v w' bo,step Q (V.iF aR).m=.next d/\R v w'/\Steps Q d (lone bo [wall] w')/\bo.leaving Q w' (.returned v)/\bo.fn=f0:=by
 obtain⟨v,w',bo,p,⟨n,c⟩,f,l⟩:=h aR r;cases n with
 |zero=>
  simp only[runN]at c;injection c with c
  obtain⟨g,i,u⟩:=p0 c;refine absurd ⟨?_,?_,?_⟩ q
  .have j:V.cs++[wall] = [wall]:=i
   have:=congrArg List.length j;simpa using this
  .have:V.fr=bo:=g
   rw[this];exact f.1
  .have:V.fr=bo:=g
   rw[this];exact f.2.1
 |succ n=>
  simp only[runN]at c;rcases e:step Q (V.iF aR).m with d|⟨o,aG⟩
  .rw[e]at c
   exact⟨d,v,w',bo,rfl,p,⟨n,c⟩,f,l⟩
  .rw[e]at c;cases c
def e3.in{V:dt}(h:e3 Q f0 R V){aR:Tape}(p:∀k,k<V.w.drawn->aR k=V.w.tape k)(l:¬V.stop){c c₁:Frame}(e:stepG Q true V.g (dM V.w aR)=.go (S6 c₁ cs) aG es)(i:[wall]=c::cs)(j:(∃v,c₁=c.finish v)\/(∃q,c₁=c.raise q)\/c₁=c\/∃m,c₁={c with mode:=m}/\c.mode≠.panicking []):False:=by
 obtain⟨rfl,rfl⟩:c=wall/\cs = []:=by cases i;exact⟨rfl,rfl⟩
 obtain⟨z,v,w',bo,g,w,⟨n,d⟩,u,r⟩:=h.head p l;have f:step Q (V.iF aR).m=.next (lone c₁ [] aG):=uX (V:=V.iF aR) e rfl;rw[g]at f;cases f;cases n with
 |zero=>
  simp only[runN]at d;injection d with d
  obtain⟨_,f,_⟩:=p0 d;cases f
 |succ n=>
  obtain⟨o,B,e⟩:=GY (Q:=Q) j aG;simp only[runN,e]at d;cases d
def e3.live{V:dt}(h:e3 Q f0 R V){aR:Tape}(g:∀k,k<V.w.drawn->aR k=V.w.tape k)(f:¬V.stop){o:Outcome}(e:stepG Q true V.g (dM V.w aR)=.ended o aG es):False:=by
 obtain⟨i,v,w',bo,d,_⟩:=h.head g f;have c:step Q (V.iF aR).m=.ended o aG:=step_lone_ended (by show(stepG Q true V.g (dM V.w aR)).bare=_;rw[e];rfl)
 rw[d]at c;cases c
def e3.next{V b4:dt}(h:e3 Q f0 R V)(k:lB Q b4 V):e3 Q f0 R b4:=by
 intro aR f;obtain⟨es,q⟩:=k.step;have u:∀k,k<V.w.drawn->aR k=V.w.tape k:=λj d=>(f j (gu d k.mono)).trans (k.sS j d)
 obtain⟨w,v,w',bo,g,p,r,o,i⟩:=h.head u k.stay;have c:step Q (V.iF aR).m=.next (b4.iF aR).m:=uX (V:=V.iF aR) (q aR λj _ l=>f j l) rfl;rw[g]at c;cases c;exact⟨v,w',bo,p,r,o,i⟩
def Gh{V:dt}(q:V.stop)(h:V.fr.roundOf=none)(aa:V.fr.kind=.normal\/V.fr.kind=.deferred)(g:Q.funcs[V.fr.fn]?=some fn)(n:Nat)(bo:Frame)(cs':List Frame)(w':World):runN Q (n+1) V.m≠.next (lone bo (cs'++[wall]) w'):=by
 intro d;obtain⟨fr,cs,w⟩:=V;obtain⟨s1,s2,i⟩:=q;dsimp only at s1 s2 i h aa g d;subst s1;obtain⟨c,tmps,todo,defers,mode,kind,ro⟩:=fr;dsimp only at s2 i h aa g;subst s2;subst i;subst h;have e:stepG Q true (dt.g ⟨⟨c,tmps,todo,[],.returning,kind,none⟩,[],w⟩) w=GStep.after (seen Q c ((results fn tmps).runT Q w #[]).2) (match ((results fn tmps).runT Q w #[]).1 with
  |.ok v w=>doReturn Q true ⟨c,tmps,todo,[],.returning,kind,none⟩ [wall] none v w
  |.halt (.stuck s) w=>.ended (.stuck s (Frame.pos Q ⟨c,tmps,todo,[],.returning,kind,none⟩)) w
  |.halt _ w=>.ended (.stuck "return: the result variables cannot be read" (Frame.pos Q ⟨c,tmps,todo,[],.returning,kind,none⟩)) w):=by
  simp only[stepG,unwind,g];rfl
 have bZ:∀{o:Outcome} {aG:World} {es:Array Event},stepG Q true (dt.g ⟨⟨c,tmps,todo,[],.returning,kind,none⟩,[],w⟩) w=.ended o aG es->False:=by
  intro o aG es e;have f:step Q (dt.m ⟨⟨c,tmps,todo,[],.returning,kind,none⟩,[],w⟩)=.ended o aG:=step_lone_ended (by show(stepG Q true (dt.g ⟨⟨c,tmps,todo,[],.returning,kind,none⟩,[],w⟩) w).bare=_;rw[e];rfl)
  simp only[runN,f]at d;cases d
 have l:∀{c₁:Frame} {aG:World} {es:Array Event},stepG Q true (dt.g ⟨⟨c,tmps,todo,[],.returning,kind,none⟩,[],w⟩) w=.go (S6 c₁ []) aG es->
  ((∃v,c₁=wall.finish v)\/(∃r,c₁=wall.raise r)\/c₁=wall\/∃m,c₁={wall with mode:=m}/\wall.mode≠.panicking [])->False:=by
  intro c₁ aG es e p;have f:step Q (dt.m ⟨⟨c,tmps,todo,[],.returning,kind,none⟩,[],w⟩)=.next (lone c₁ [] aG):=uX e rfl;simp only[runN,f]at d;cases n with
  |zero=>
   simp only[runN]at d;injection d with d
   obtain⟨_,f,_⟩:=p0 d;have:=congrArg List.length f;simp at this
  |succ n=>
   obtain⟨o,u,e⟩:=GY (Q:=Q) p aG;simp only[runN,e]at d;cases d
 rcases j:(results fn tmps).runT Q w #[]with⟨⟨v,aG⟩|⟨x,aG⟩,es⟩
 .rw[j]at e
  rcases aa with aa|aa
  .subst aa
   exact l (c₁:=wall.finish v) (by rw[e];rfl) (.inl ⟨v,rfl⟩)
  .subst aa
   exact l (c₁:=wall) (by rw[e];rfl) (.inr (.inr (.inl rfl)))
 .rw[j]at e
  cases x<;>exact bZ e
def e3.stopped{V:dt}(h:e3 Q f0 R V)(q:V.stop)(p:V.fr.roundOf=none)(j:V.fr.kind=.normal\/V.fr.kind=.deferred)(i:Q.funcs[V.fr.fn]?=some fn):
 ∃v,R v V.w/\V.fr.leaving Q V.w (.returned v)/\V.fr.fn=f0:=by
 obtain⟨v,w',bo,o,⟨n,c⟩,l,g⟩:=h V.w.tape (λ_ _=>rfl);rw[Rg]at c;cases n with
 |zero=>
  simp only[runN]at c;injection c with c
  obtain⟨d,r,f⟩:=p0 c;refine⟨v,?_,?_,?_⟩
  .rw[f];exact o
  .rw[d,f];exact l
  .rw[d];exact g
 |succ n=>exact absurd c (Gh q p j i n bo [] w')
def e3.acc{V:dt}(h:e3 Q f0 R V):Acc (lB Q) V:=by
 refine Classical.byContradiction λG=>?_
 have gM:∀V:dt,¬Acc (lB Q) V->∃b4,lB Q b4 V/\¬Acc (lB Q) b4:=by
  intro V D;refine Classical.byContradiction λg=>D (Acc.intro _ λb4 E=>?_)
  exact Classical.byContradiction λq=>g ⟨b4,E,q⟩
 let S:={V:dt // ¬Acc (lB Q) V}
 let w:S->S:=λs=>⟨Classical.choose (gM s.1 s.2),(Classical.choose_spec (gM s.1 s.2)).2⟩
 have H:∀s:S,lB Q (w s).1 s.1:=λs=>(Classical.choose_spec (gM s.1 s.2)).1
 let c:Nat->S:=λn=>Nat.rec ⟨V,G⟩ (λ_ s=>w s) n
 have J:(c 0).1=V:=rfl;have r:∀n,lB Q (c (n+1)).1 (c n).1:=λn=>H (c n)
 have keep:∀n d k,k<(c n).1.w.drawn->(c (n+d)).1.w.tape k=(c n).1.w.tape k/\(c n).1.w.drawn<=(c (n+d)).1.w.drawn:=by
  intro n d k f;induction d with
  |zero=>exact⟨rfl,bg⟩
  |succ d i=>
   have q:=r (n+d);exact⟨(q.sS k (gu f i.2)).trans i.1,cL i.2 q.mono⟩
 have same:∀n m k,k<(c n).1.w.drawn->k<(c m).1.w.drawn->(c n).1.w.tape k=(c m).1.w.tape k:=by
  intro n m k g hm;rcases Nat.le_total n m with aj|aj
  .obtain⟨d,rfl⟩:=Nat.exists_eq_add_of_le aj
   exact(keep n d k g).1.symm
  .obtain⟨d,rfl⟩:=Nat.exists_eq_add_of_le aj
   exact(keep m d k hm).1
 let aR:Tape:=λk=>(c (Classical.epsilon λn=>k<(c n).1.w.drawn)).1.w.tape k
 have u:∀n k,k<(c n).1.w.drawn->aR k=(c n).1.w.tape k:=by
  intro n k f;have z:∃n,k<(c n).1.w.drawn:=⟨n,f⟩
  exact same _ _ k (Classical.epsilon_spec (p:=λn=>k<(c n).1.w.drawn) z) f
 have run:∀n,runN Q n ((c 0).1.iF aR).m=.next ((c n).1.iF aR).m:=by
  intro n;induction n with
  |zero=>rfl
  |succ n i=>
   obtain⟨es,I⟩:=(r n).step;have l:step Q ((c n).1.iF aR).m=.next ((c (n+1)).1.iF aR).m:=uX (V:=(c n).1.iF aR) (I aR λj _ F=>u (n+1) j F) rfl;rw[runN_add,i];simp only[runN,l]
 obtain⟨v,w',bo,_,⟨n,g⟩,aj,_⟩:=h aR λk f=>u 0 k f
 have o:=run n;rw[J,g]at o;injection o with o
 obtain⟨l,B,K⟩:=p0 o;refine(r n).stay ⟨?_,?_,?_⟩
 .have C:[wall]=(c n).1.cs++[wall]:=B
  have:=congrArg List.length C;simpa using this
 .have:bo=(c n).1.fr:=l
  rw[<-this];exact aj.1
 .have:bo=(c n).1.fr:=l
  rw[<-this];exact aj.2.1
def e3.z8{f:FuncId}{args:Array Value}(h:∀aR:Tape,(∀k,k<w.drawn->aR k=w.tape k)->Calls Q f args (dM w aR) λe w'=>∃v,e=.returned v/\R v w'):e3 Q f R ⟨Frame.enter Q f args .normal,[],w⟩:=by intro aR j;obtain⟨e,w',bo,⟨v,rfl,g⟩,i,c,d⟩:=h aR j [wall];exact⟨v,w',bo,g,i,d,c⟩
end
section
variable{Q P:Program}{R:Value->World->Prop}{f0:FuncId}{K:g8 Q P}{ρ ai:Ren}
def jv(Q:Program):g8 Q Q:=⟨λ_ _ _=>False,λ_=>False⟩
structure Self(Q:Program)(V:dt):Prop where
 ex:∃ai:Ren,Fit Q ai/\ai.room=true/\cN (jv Q) ai V.fr V.fr/\cK (cN (jv Q) ai) V.cs V.cs/\dA ai V.w V.w
def dA.Oa{aR:Tape}(h:dA ρ w w')(c:w=w'):dA ρ (dM w aR) (dM w' aR):=by subst c;exact⟨h.obj,λ_ _=>rfl,h.lim,h.js⟩
def e3.iF{V:dt}(h:e3 Q f0 R V){aR:Tape}(f:∀k,k<V.w.drawn->aR k=V.w.tape k):e3 Q f0 R (V.iF aR):=λai d=>h ai λk c=>(d k c).trans (f k c)
def EO{fr bo:Frame}:Plain (jv Q) fr bo:=λ_ _ _ _ _ _ _ _ h=>h
def rm{V:dt}{c:String}(h:V.fr.todo = [.code (.refuse c)])(hm:V.fr.mode=.run)(w:World):∃o w' es,stepG Q true V.g w=.ended o w' es:=by obtain⟨⟨fn,tmps,todo,defers,mode,kind,ro⟩,cs,aL⟩:=V;dsimp only at h hm;subst h;subst hm;exact⟨_,_,_,rfl⟩
def p8{V:dt}(h:V.fr.mode=.run):¬V.stop:=λk=>by rw[k.2.1]at h;cases h
def Self.known{V:dt}(h:Self Q V)(g:V.stop):V.fr.roundOf=none/\(V.fr.kind=.normal\/V.fr.kind=.deferred)/\∃fn,Q.funcs[V.fr.fn]?=some fn:=by obtain⟨ai,_,_,c,_⟩:=h;have d:=c.ret g.2.1;obtain⟨f,im,q1,_⟩:=c.known d;exact⟨d,c.kindOk,f,q1⟩
def Same.refl(Q:Program):Same Q Q:=⟨rfl⟩
def x4{fr bo:Frame}(h:oB (jv Q) ai fr bo):cN (jv Q) ai fr bo\/∃c,fr.todo = [.code (.refuse c)]/\fr.mode=.run:=by
 cases h with
 |plain h=>exact .inl h
 |refused c h hm=>exact .inr ⟨c,h,hm⟩
 |sh h=>exact h.elim
def Fw(ek:fe (fj (jv Q)) Q Q){V:dt}(l:e3 Q f0 R V)(M:Self Q V)(q:¬V.stop){aR:Tape}(w:∀k,k<V.w.drawn->aR k=V.w.tape k):
 ∃b4 es,lB Q b4 V/\Self Q b4/\e3 Q f0 R b4/\b4.w.tape=aR/\stepG Q true V.g (dM V.w aR)=.go b4.g b4.w es:=by
 obtain⟨ai,F,p,E,S,i⟩:=M;have i:=i.Oa (aR:=aR) rfl;have B:=Gg (dS:=[wall]) (base:=[wall]) (Same.refl Q) F p ek i E S aF (λ_=>EO) true true .running .running none none;have loc:=Qy (C:=V.cs++[wall]) (Same.refl Q) F p ek i E aF (λ_=>EO) true .running none;generalize e:stepG Q true (S6 V.fr (V.cs++[wall])) (dM V.w aR)=r at B;cases r with
 |go g aG es=>
  obtain⟨z,Z,aa⟩:=loc g aG es e;rcases B with⟨ad,cs,bo,cs',bJ,fg,d,f,he,u,⟨X,ah⟩,U,ag⟩|⟨c,c₁,P,f,T⟩
  .injection d with d j L
   subst j;subst L;have J:cs=cs':=by have:=congrArg Goroutine.callers d;rw[f]at this;exact List.append_cancel_right this
   have K:g.frame=bo:=congrArg Goroutine.frame d;subst J;subst K;have G:g=dt.g ⟨g.frame,cs,aG⟩:=f;have H:lB Q ⟨g.frame,cs,aG⟩ V:=⟨q,λk W=>by
    show aG.tape k=_;rw[z];exact w k W,Z,es,λae Y=>by
    rw[<-G];exact aa ae λk d j=>by have:=Y k d j;dsimp only at this;rw[this,z]⟩
   have D:=l.next H;refine⟨⟨g.frame,cs,aG⟩,es,H,?_,D,z,?_⟩
   .rcases x4 X with h|⟨aj,h,hm⟩
    .exact⟨ad,F.mono he.le,he.le.room.trans p,h,U,u.obj,λ_ _=>rfl,u.lim,u.js⟩
    .obtain⟨o,w2,af,I⟩:=rm (Q:=Q) (V:=⟨g.frame,cs,aG⟩) h hm aG
     exact(D.live (aR:=aG.tape) (λ_ _=>rfl) (p8 hm) I).elim
   .rw[<-G]
  .exact(l.in w q (c:=c) (c₁:=c₁) (cs:=g.callers) (aG:=aG) (es:=es) (by rw[<-f];exact e) P T).elim
 |ended o aG es=>exact(l.live w q e).elim
 |_=>exact B.elim
inductive dZ(Q:Program):dt->dt->Prop
 |one {b4 V:dt} (h:lB Q b4 V):dZ Q b4 V
 |more {vy b4 V:dt} (h:lB Q b4 V) (k:dZ Q vy b4):dZ Q vy V
def dZ.acc{V:dt}(h:Acc (lB Q) V):Acc (dZ Q) V:=by
 induction h with
 |intro V _ c=>
  refine Acc.intro _ λb4 d=>?_
  cases d with
  |one h=>exact c _ h
  |more h k=>exact(c _ h).inv k
def Fx(ek:fe (fj (jv Q)) Q Q){aR:Tape}{fr:Frame}:∀(n:Nat) {V:dt},e3 Q f0 R V->Self Q V->V.w.tape=aR->runN Q n V.m=.next (lone fr (cs++[wall]) aG)->
 e3 Q f0 R ⟨fr,cs,aG⟩/\Self Q ⟨fr,cs,aG⟩/\aG.tape=aR/\(V=⟨fr,cs,aG⟩\/dZ Q ⟨fr,cs,aG⟩ V):=by
 intro n;induction n with
 |zero=>
  intro V h g d c;simp only[runN]at c;injection c with c
  obtain⟨j,f,l⟩:=p0 c;have f:=List.append_cancel_right f;obtain⟨bo,cs',w'⟩:=V;dsimp only at j f l d;subst j;subst f;subst l;exact⟨h,g,d,.inl rfl⟩
 |succ n w=>
  intro V h g d c;by_cases i:V.stop
  .obtain⟨z,B,fn,C⟩:=g.known i
   exact absurd c (Gh i z B C n fr cs aG)
  obtain⟨b4,es,o,r,q,u,he⟩:=Fw ek h g i (aR:=aR) (λk F=>by rw[d]);have p:step Q V.m=.next b4.m:=uX (by
   have:dM V.w aR=V.w:=by rw[<-d];rfl
   rw[this]at he;exact he) rfl
  simp only[runN,p]at c;obtain⟨r1,D,E,r4⟩:=w q r u c;refine⟨r1,D,E,.inr ?_⟩;rcases r4 with rfl|r4
  .exact .one o
  .exact .more o r4
def hU(w w':World):Tape:=λk=>if k<w.drawn then w.tape k else w'.tape (w'.drawn+(k-w.drawn))
def AO(k:Nat)(h:k<w.drawn):hU w w' k=w.tape k:=if_pos h
def gm.yg(h:gm ρ w w'):dA ρ (dM w (hU w w')) w':=⟨h.obj,λn q=>by show hU w w' (w.drawn+n) q=_;unfold hU;rw[if_neg U];congr 2;omega,h.lim,h.js⟩
structure m2(K:g8 Q P)(ρ:Ren)(V:dt)(bo:Frame)(cs':List Frame)(w':World):Prop where
 fit:Fit Q ρ
 room:ρ.room=true
 fr:cN K ρ V.fr bo
 cs:cK (cN K ρ) V.cs cs'
 heap:gm ρ V.w w'
structure yl(K:g8 Q P)(ρ:Ren)(V:dt)(bo:Frame)(cs':List Frame)(w':World):Prop where
 fit:Fit Q ρ
 room:ρ.room=true
 fr:∃f a b kind,K.fn f/\(S8 kind)/\bQ ρ a b/\V.fr=Frame.enter Q f a kind/\bo=Frame.enter P f b kind/\∀n,eK Q f=some n->a.size=n
 some:V.cs≠[]
 cs:cK (cN K ρ) V.cs cs'
 heap:gm ρ V.w w'
def fc.GN{aR:Tape}(h:fc ρ (dM w aR) e):fc ρ w e:=by
 cases h with
 |cell h a b g i=>exact .cell h a b g i
 |obj h a g=>exact .obj h a g
 |mark h=>exact .mark h
def EE(S:Same Q P)(ek:fe (fj (jv Q)) Q Q)(H:fe (fj K) Q P){V:dt}{bo:Frame}(w:e3 Q f0 R V)(U:Self Q V)(hp:m2 K ρ V bo cs' w')(C:¬V.stop)(al:V.fr.mode=.run->Plain K V.fr bo)(E:Bool)(J:GoStatus)(G:Option (Array CommCase×CommShape)):
 ∃b4 ai d g bJ fg,stepG P E ⟨bo,cs'++base,J,none,G⟩ w'=.go (S6 d (g++base)) bJ fg/\
  lB Q b4 V/\e3 Q f0 R b4/\Self Q b4/\Eff ρ ai (dM V.w (hU V.w w')) b4.w w' bJ/\(∀e∈fg,fc ai V.w e)/\(m2 K ai b4 d g bJ\/yl K ai b4 d g bJ):=by
 obtain⟨F,B,ag,aa,ah⟩:=hp;obtain⟨b4,es,ao,W,z,aq,he⟩:=Fw ek w U C (aR:=hU V.w w') AO;have I:=Gg (dS:=[wall]) (base:=base) S F B H ah.yg ag aa aF al true E .running J none G;have ae:stepG Q true (S6 V.fr (V.cs++[wall])) (dM V.w (hU V.w w'))=.go b4.g b4.w es:=he;rw[ae]at I;rcases I with⟨ai,cs,d,g,bJ,fg,T,p,j,r,⟨am,ak⟩,l,af⟩|⟨c,c₁,Z,p,ad⟩
 .have M:b4.cs=cs:=by have:=congrArg Goroutine.callers p;exact List.append_cancel_right this
  subst M;refine⟨b4,ai,d,g,bJ,fg,T,ao,z,W,j,λe h=>(af e h).GN,?_⟩;have i:=F.mono j.le;have q:=j.le.room.trans B;have D:oB K ai b4.fr d:=am;have hne':cN K ai b4.fr d\/b4.cs≠[]:=ak;rcases hne' with hp|hne'
  .exact .inl ⟨i,q,hp,l,r⟩
  generalize u:b4.fr=x at D;cases D with
  |plain h=>exact .inl ⟨i,q,by rw[u];exact h,l,r⟩
  |refused ar h hm=>
   rw[<-u]at h hm;obtain⟨o,w2,ap,L⟩:=rm (Q:=Q) (V:=b4) h hm b4.w;exact(z.live (aR:=b4.w.tape) (λ_ _=>rfl) (p8 hm) L).elim
  |@sh f a b kind h aj X Y=>exact .inr ⟨i,q,⟨f,a,b,kind,h,aj,X,u,rfl,λn e=>Y n (by rw[i.fits.eb];exact e)⟩,hne',l,r⟩
 .exact(w.in AO C (c:=c) (c₁:=c₁) (cs:=b4.g.callers) (aG:=b4.w) (es:=es) (by rw[<-p];exact he) Z ad).elim
def Aj(S:Same Q P){V:dt}{bo:Frame}(L:e3 Q f0 R V)(T:Self Q V)(hp:m2 K ρ V bo cs' w')(q:V.stop)(G:Bool)(al:GoStatus)(ah:Option (Array CommCase×CommShape)):
 ∃v u ai bJ fg,R v (dM V.w (hU V.w w'))/\aQ ai v u/\cs' = []/\bo.kind=.normal/\bo.fn=f0/\
  stepG P G ⟨bo,cs'++base,al,none,ah⟩ w'=GStep.after fg (doReturn P G bo base none u bJ)/\
  Eff ρ ai (dM V.w (hU V.w w')) (dM V.w (hU V.w w')) w' bJ/\dA ai (dM V.w (hU V.w w')) bJ/\(∀e∈fg,fc ai V.w e):=by
 obtain⟨aa,ad,fn,ae⟩:=T.known q;obtain⟨v,M,Y,U⟩:=(L.iF (aR:=hU V.w w') AO).stopped q aa ad ae;obtain⟨F,aq,d,z,W⟩:=hp;obtain⟨s1,s2,ak⟩:=q;have Z:=d.ret s2;obtain⟨f,im,q1,H,aj⟩:=d.known Z;obtain⟨au,av,af,J,ag,r⟩:=Y;have E:Q.funcs[V.fr.fn]?=some J:=ag;rw[q1]at E;cases E;rw[s1]at z;cases z;have j:=d.fn;have o:=d.defers;have p:=d.mode;rw[ak]at o;rw[s2]at p;have X:=d.kind;rcases pb (AZ S aj d.tmps) W.yg with⟨a,I,aG,bJ,ai,ba,w,g,l,he,D,C,B⟩|⟨v,u,aG,bJ,ai,ba,w,g,l,he,D,C,B⟩|⟨x,aG,ba,g,ap⟩
 .have c:(results f V.fr.tmps).run Q (dM V.w (hU V.w w'))=.ok a aG:=by rw[<-Sem.runT_fst Q _ _ #[],g]
  have i:(results f V.fr.tmps).run Q (dM V.w (hU V.w w'))=.ok v (dM V.w (hU V.w w')):=r;rw[i]at c;cases c;refine⟨v,I,ai,bJ,seen P bo.fn w,M,C,rfl,by rw[<-X];exact af,by rw[<-j];exact U,?_,he,D,λe h=>(B e (nv _ _ _ e h)).GN⟩;obtain⟨ao,ay,az,am,aw,ar,ax⟩:=bo;dsimp only at j o p l;cases o;cases p;rw[j]at H;simp only[stepG,unwind,H,l,List.nil_append]
 .have c:(results f V.fr.tmps).run Q (dM V.w (hU V.w w'))=.halt (.panic v) aG:=by rw[<-Sem.runT_fst Q _ _ #[],g]
  have i:(results f V.fr.tmps).run Q (dM V.w (hU V.w w'))=.ok _ (dM V.w (hU V.w w')):=r;rw[i]at c;cases c
 .have c:(results f V.fr.tmps).run Q (dM V.w (hU V.w w'))=.halt x aG:=by rw[<-Sem.runT_fst Q _ _ #[],g]
  have i:(results f V.fr.tmps).run Q (dM V.w (hU V.w w'))=.ok _ (dM V.w (hU V.w w')):=r;rw[i]at c;cases c
end
end Go.aO
