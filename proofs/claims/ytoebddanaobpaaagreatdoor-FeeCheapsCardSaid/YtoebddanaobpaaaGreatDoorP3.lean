/- A part. -/
import Derived.Test.YtoebddanaobpaaaGreatDoorP2
set_option maxHeartbeats 8000000
set_option maxRecDepth 100000
set_option linter.all false
namespace Go.aO
variable{v w:S9}{t:Tg}
section
section
variable{Q P:To}{ρ:Ren}{Spec:Tw->TF->TF->Prop}
def je(Q:To):TN:=match Q.funcs[0]? with
 |some fn=>match fn.nfree with
  | 0=>none
  |k+1=>some k
 |none=>none
def pinned(Q:To):S9->Ta
 |.pointer (some ⟨b,0,none⟩)=>je Q == some b
 |_=>false
def er(Q:To):Operand->Ta
 |.tmp _=>true
 |.func f=>(eK Q f).isNone
 |.const v=>bare 64 v||pinned Q v
 |.global _=>false
def xh(Q:To):TI Operand->Ta
 |none=>true
 |some x=>er Q x
def xL(Q:To)(t:Tg):Ta:=match Q.underlying t with
 |some (.slice e)=>lO Q e
 |_=>true
def zR(Q:To)(name:T6):Ta:=(List.range Q.types.size).all λt=>match Q.types[t]? with
 |some i=>match i.methods.find? (·.name == name)with
  |none=>true
  |some m=>m.path.isEmpty && (match m.func with
   |none=>false
   |some (f,c)=>(eK Q f).isNone && (c||(match Q.underlying t with|some (.pointer _)=>false|_=>true)))
 |none=>true
def B1(Q:To)(b:Builtin)(ee:Tv Tg):Ta:=match b with
 |.append=>yE Q ee
 |.len |.max |.min=>true
 |_=>false
def yQ(Q:To)(c:Call):Ta:=c.args.all (er Q) && match c.callee with
 |.builtin b=>B1 Q b c.argTypes
 |.invoke r name=>er Q r && zR Q name
 |.value f=>er Q f||(match f with
  |.func g=>eK Q g == some c.args.size
  |_=>false)
def y2(Q:To)(c:Call):Ta:=c.args.all (er Q) && match c.callee with
 |.value f=>er Q f && (!ni Q||(match f with |.func _=>true|_=>false))
 |_=>false
def o6(Q:To)(op:Op):Ta:=match op with
 |.move x |.assign x |.nilCheck x |.unOp _ _ x |.makeInterface _ x |.field _ x _ |.range _ x |.next x _ |.entry x |.extract x _ |.load _ x |.box _ x=>er Q x
 |.pick c a b=>er Q c && er Q a && er Q b
 |.alloc t=>lO Q t
 |.build t e9=>lO Q t && e9.all λx=>er Q x.2
 |.buildSlice t _ e9=>xL Q t && e9.all λx=>er Q x.2
 |.store _ a x=>er Q a && er Q x
 |.binOp op t x y _=>er Q x && er Q y && (match op with |.eql |.neq=>nT Q t x y|_=>true)
 |.convert s d x=>y0 Q s d && er Q x
 |.makeFunc (.func f) a b=>(eK Q f).isNone && (a.all (er Q) && b.all (er Q))
 |.makeMap _ none=>true
 |.makeSlice t l c=>xL Q t && er Q l && er Q c
 |.slice _ x bY g h=>er Q x && xh Q bY && xh Q g && xh Q h
 |.fieldAddr t x k=>zf Q t k && er Q x
 |.indexAddr _ x i |.index _ x i=>er Q x && er Q i
 |.lookup t m k _=>sC Q t && er Q m && er Q k
 |.mapUpdate t m k x |.insert t m k x=>sC Q t && er Q m && er Q k && er Q x
 |.typeAssert x _ t true=>lO Q t && er Q x
 |.call c=>yQ Q c
 |.defer c=>y2 Q c
 |_=>false
def LY{info:Tg->TI TypeInfo}{d:TypeDesc}{i:TypeInfo}(h:Made.reckon info d=some i):i.methods=#[]:=by
 unfold Made.reckon at h;split at h;all_goals try simp only[bind,Option.bind_eq_some_iff,pure]at h
 all_goals repeat' first
  |(obtain⟨_,_,h⟩:=h)
  |(split at h)
 all_goals first
  |(cases h;rfl)
  |(cases h;done)
  |skip
 all_goals first
  |rfl
  |(simp only[Option.bind_eq_some_iff]at h;obtain⟨_,_,h⟩:=h;cases h;rfl)
  |skip
 unfold Made.reckonStruct at h;simp only[bind,Option.bind_eq_some_iff,pure]at h;obtain⟨a,_,h⟩:=h;split at h<;>(cases h;rfl)
def L'{name:T6}(h:zR Q name=true):yv Q name:=by
 intro t i m o hm;by_cases j:t<Q.types.size
 .have e:Q.types[t]?=some i:=by have c:Q.toTables.info? t=some i:=o;unfold Tables.info? at c;rwa [Tq j]at c
  unfold zR at h;rw[Un]at h;have:=h t (by simpa using j);rw[e]at this;dsimp only at this;rw[hm]at this;simp only[TS]at this;obtain⟨p,g⟩:=this;cases n:m.func with
  |none=>rw[n]at g;cases g
  |some x=>
   obtain⟨f,r⟩:=x;rw[n]at g;dsimp only at g;rw[TS]at g;refine⟨by simpa using p,S6,λe he=>?_,λx q=>?_⟩
   .have l:=g.2
    rw[he]at l;simpa using l
   .cases q
    simpa using g.1
 .have c:Q.toTables.info? t=some i:=o
  unfold Tables.info? at c;rw[Tm j]at c;unfold Made.depth at c;unfold Made.infoAt at c;rw[Tm j]at c;simp only[Option.bind_eq_some_iff]at c;obtain⟨d,_,c⟩:=c;rw[LY c]at hm;simp at hm
def Pz(S:Same Q P)(F:Fits Q ρ)(H:fe Spec Q P)(name:T6)(g:yv Q name)(h:aQ ρ v w){a b:Te}(k:bQ ρ a b):
 a2 Q P h2 (callMethod v name a) ρ (callMethod w name b):=by
 unfold callMethod;cases h with
 |nilIface=>exact jR S .nilDeref S6
 |iface t h=>
  dsimp only;refine mP ?_;have e:Q.types.size=P.types.size:=by rw[show Q.types=P.types from congrArg Tables.types S.tables]
  rw[e];refine(P4 S _ t name g h).a8 ?_;rintro ai ⟨f,r⟩ ⟨i,j⟩ l ⟨e,d,c⟩;dsimp only at e d c;subst e;exact AS S H f (bQ.append (om d) (k.mono l)) λn e=>by rw[(F.mono l).eb,c]at e;cases e
 |_=>exact .stuck
def AX(S:Same Q P)(H:fe Spec Q P){t u:Target}(h:tH ρ t u){a b:Te}(k:bQ ρ a b):a2 Q P h2 (invoke t a) ρ (invoke u b):=by
 unfold invoke;cases h with
 |nil=>exact jR S .nilDeref S6
 |collected h=>exact .stuck
 |fn c d=>
  cases c with
  |func f c=>exact AS S H f (k.append d) λn e=>by rw[c]at e;cases e
  |yield g=>exact Qj g k
def xA(op:Op):Ta:=match op with
 |.makeSlice ..=>false
 |.call c=>match c.callee with
  |.builtin .append=>false
  |_=>true
 |_=>true
variable{bz il:Operand->S9}
def yb(l:∀x,er Q x=true->aQ ρ (bz x) (il x)){a:Tv Operand}(h:a.all (er Q)=true):bQ ρ (a.map bz) (a.map il):=by refine⟨aF,λi x y g j=>?_⟩;simp at g j;obtain⟨o,c,rfl⟩:=g;obtain⟨m,f,rfl⟩:=j;rw[c]at f;cases f;rw[Array.all_eq_true]at h;have d:=bu c;have:=h i d;rw[fb d]at c;exact l o (by rw[<-bD c];exact this)
def ET(l:∀x,er Q x=true->aQ ρ (bz x) (il x)){a:Tv (Nat×Operand)}(h:(a.all λx=>er Q x.2)=true):gb (λx y=>x.1=y.1/\aQ ρ x.2 y.2) (a.map λ(i,x)=>(i,bz x)) (a.map λ(i,x)=>(i,il x)):=by refine⟨aF,λi x y g j=>?_⟩;simp at g j;obtain⟨n,o,c,rfl⟩:=g;obtain⟨c9,m,f,rfl⟩:=j;rw[c]at f;cases f;rw[Array.all_eq_true]at h;have d:=bu c;have:=h i d;rw[fb d]at c;refine⟨S6,l o ?_⟩;rw[bD c]at this;exact this
def Ag(c:∀x,er Q x=true->aQ ρ (bz x) (il x)){x:TI Operand}(h:xh Q x=true):fl (aQ ρ) (x.map bz) (x.map il):=by
 cases x with
 |none=>exact .none
 |some x=>exact .some (c x h)
def hV{s aX:Sem S9}(h:a2 Q P aQ s ρ aX):a2 Q P h2 (do pure (.value (<-s))) ρ (do pure (.value (<-aX))):=h.a8 λ_ _ _ _ c=>.ret (.value c)
def A1{s aX:Sem Unit}(h:a2 Q P (ec λ_=>True) s ρ aX):a2 Q P h2 (do s;pure .skip) ρ (do aX;pure .skip):=h.a8 λ_ _ _ _ _=>.ret .skip
def BU(c:ni Q=true):Q.info? 1000000000=none:=by
 unfold ni at c;split at c
 .rw[TS]at c
  exact Option.isNone_iff_eq_none.1 c.2
 .cases c
def cY.prog{α:Type}{k:To->Sem α}(h:cY Q (k Q)):cY Q (program >>= k):=h
def CJ{α:Type}(h:Q.info? t=none)(k:TypeInfo->Sem α):cY Q (typeInfo t >>= k):=by refine cY.bind k ?_;show cY Q (program >>= λr=>match r.info? t with|some i=>pure i|none=>stuck "no such type");refine cY.prog ?_;rw[h];exact kY _
def Mm(h:Q.info? 1000000000=none):∀n,cY Q (nilAhead n 1000000000 .nilIface "" >>= λb=>if (b !=some false)=true then(do
 unsupported (.noEntry "op/nilCheck.the method's receiver behind this interface value is a nil pointer, or cannot be seen to be none, and the arguments act or may panic (ledger 612)")
 pure (Next.value tv))else pure (Next.value tv)):=by
 intro n;cases n with
 |zero=>exact λw=>⟨_,w,S6,Tf,λes h=>h⟩
 |succ n=>exact cY.bind _ (CJ h _)
def Ii(f:ni Q=true)(a:Te):cY Q (do let d <-Deferred.ofValue tv a;invoke d.target d.args):=by
 show cY Q (invoke (.fn (.method "") #[]) (#[.iface 1000000000 .nilIface]++a));unfold invoke;have c:(#[Value.iface 1000000000 .nilIface]++a)[0]?=some (.iface 1000000000 .nilIface):=by rw[Us (show 0<(#[Value.iface 1000000000 .nilIface]:Te).size from Nat.zero_lt_one)];rfl
 rw[c];dsimp only;unfold callMethod;dsimp only;refine cY.prog (cY.bind _ ?_);generalize (Q.types.size+Made.depth)=n;cases n with
 |zero=>exact λw=>⟨_,w,S6,Tf,λes h=>h⟩
 |succ n=>exact CJ (BU f) _
def AU(S:Same Q P)(F:Fits Q ρ)(H:fe Spec Q P)(h:aQ ρ v w){a b:Te}(k:bQ ρ a b):a2 Q P h2 (do let d <-Deferred.ofValue v a;invoke d.target d.args) ρ (do let d <-Deferred.ofValue w b;invoke d.target d.args):=by
 by_cases c:v=tv
 .subst c
  refine a2.dp (Ii ?_ a);rw[<-F.fu];cases h with
  |func f=>cases f
  |k9 g=>exact g
 .refine(F5 h c k).a8 ?_
  intro ai d e l hd;exact AX S H hd.target hd.args
def Qb(F:Fits Q ρ)(j:∀x,er Q x=true->aQ ρ (bz x) (il x))(q:∀g,bz (.func g)=.func (.func g) #[] #[]/\il (.func g)=.func (.func g) #[] #[])(c:Call)(t:Tg)(h:y2 Q c=true):a2 Q P me (resolve bz c t) ρ (resolve il c t):=by
 unfold y2 at h;simp only[TS]at h;obtain⟨n,d⟩:=h;have o:=yb j n;unfold resolve;dsimp only;cases i:c.callee with
 |builtin b=>rw[i]at d;cases d
 |invoke r name=>rw[i]at d;cases d
 |value f=>
  rw[i]at d;simp only[TS]at d;refine F5 (j f d.1) (λe=>?_) o;have m:=j f d.1;rw[e]at m;have l:ρ.fu=true:=by
   generalize il f=w at m;cases m with
   |func p=>cases p
   |k9 l=>exact l
  rcases Bool.or_eq_true_iff.1 d.2 with ax|ax
  .rw[<-F.fu,l]at ax
   cases ax
  .obtain⟨g,rfl⟩:∃g,f=.func g:=by cases f<;>first|exact⟨_,S6⟩|cases ax
   rw[(q g).1]at e;cases e
def Px(S:Same Q P)(b:Builtin)(c:ρ.room=true\/(match b with |.append=>false|_=>true)=true)(ee:Tv Tg)(t:Tg)(cs:Tv Ta)(h:B1 Q b ee=true){x y:Te}(k:bQ ρ x y):a2 Q P h2 (builtin b ee t cs x) ρ (builtin b ee t cs y):=by
 cases b<;>first|cases h|skip
 .exact hV (Po S (c.resolve_right aF) ee t h k)
 .exact hV (PR S ee t k)
 .exact hV (P2 ee t k)
 .exact hV (P5 ee t k)
def Py(S:Same Q P)(F:Fits Q ρ)(H:fe Spec Q P)(o:∀x,er Q x=true->aQ ρ (bz x) (il x))(q:∀g,bz (.func g)=.func (.func g) #[] #[]/\il (.func g)=.func (.func g) #[] #[])(c:Call)(B:ρ.room=true\/xA (.call c)=true)(t:Tg)(h:yQ Q c=true):
 a2 Q P h2 (do let d <-resolve bz c t;invoke d.target d.args) ρ (do let d <-resolve il c t;invoke d.target d.args):=by
 unfold yQ at h;simp only[TS]at h;obtain⟨p,J⟩:=h;have j:=yb o p;unfold resolve;dsimp only;cases m:c.callee with
 |builtin b=>
  rw[m]at J;exact a2.a8 (A:=λai x y=>ρ.le ai/\x={target:=.builtin b c.argTypes t (c.args.map λ|.const _=>true|_=>false),args:=c.args.map bz}/\y={target:=.builtin b c.argTypes t (c.args.map λ|.const _=>true|_=>false),args:=c.args.map il}) (.ret ⟨Ren.le_refl _,S6,S6⟩)
   (by rintro ai _ _ l ⟨_,rfl,rfl⟩;exact Px S b (B.imp (λe=>l.room.trans e) λe=>by unfold xA at e;dsimp only at e;rw[m]at e;cases b<;>first|rfl|cases e) _ t _ J (j.mono l))
 |invoke r name=>
  rw[m]at J;simp only[TS]at J;refine a2.a8 (A:=λai x y=>ρ.le ai/\x={target:=.fn (.method name) #[],args:=#[bz r]++c.args.map bz}/\y={target:=.fn (.method name) #[],args:=#[il r]++c.args.map il}) (.ret ⟨Ren.le_refl _,S6,S6⟩) ?_;rintro ai _ _ l ⟨_,rfl,rfl⟩;have key:∀(x:S9) (a:Te),invoke (.fn (.method name) #[]) (#[x]++a)=callMethod x name a:=by
   intro x a;unfold invoke;have u:(#[x]++a)[0]?=some x:=by rw[Us (show 0<(#[x]:Te).size from Nat.zero_lt_one)];rfl
   have w:(#[x]++a).extract 1 (#[x]++a).size=a:=by
    have:(#[x]++a).size=a.size+1:=(Array.size_append (xs:=#[x]) (ys:=a)).trans (Nat.add_comm _ _);rw[this];apply Array.ext
    .simp
    .intro i p J
     simp
   rw[u];dsimp only;rw[w]
  show a2 Q P h2 (invoke (.fn (.method name) #[]) (#[bz r]++c.args.map bz)) ai (invoke (.fn (.method name) #[]) (#[il r]++c.args.map il));rw[key,key];exact Pz S (F.mono l) H name (L' J.2) ((o r J.1).mono l) (j.mono l)
 |value f=>
  rw[m]at J;rcases Bool.or_eq_true_iff.1 J with J|J
  .exact AU S F H (o f J) j
  .obtain⟨g,rfl⟩:∃g,f=.func g:=by cases f<;>first|cases J|exact⟨_,S6⟩
   have z:eK Q g=some c.args.size:=by simpa using J
   dsimp only;rw[(q g).1,(q g).2];refine a2.a8 (A:=λai x y=>ρ.le ai/\x={target:=.fn (.func g) #[],args:=#[]++c.args.map bz}/\y={target:=.fn (.func g) #[],args:=#[]++c.args.map il}) (.ret ⟨Ren.le_refl _,S6,S6⟩) ?_;rintro ai _ _ l ⟨_,rfl,rfl⟩;have key:∀a:Te,invoke (.fn (.func g) #[]) (#[]++a)=callFunc g a:=by intro a;unfold invoke;simp
   dsimp only;rw[key,key];exact AS S H g (j.mono l) λn e=>by rw[(F.mono l).eb,z]at e;cases e;simp
def P8(S:Same Q P)(F:Fits Q ρ)(h:aQ ρ v w):a2 Q P h2 (execOp (λ_=>v) {(default:Oper)with op:=.nilCheck (.tmp 0)}) ρ (execOp (λ_=>w) {(default:Oper)with op:=.nilCheck (.tmp 0)}):=by
 unfold execOp;dsimp only;cases h with
 |jH=>exact jR S .nilDeref S6
 |nilIface=>exact jR S .nilDeref S6
 |nilFunc=>exact jR S .nilDeref S6
 |func m i j o p=>
  cases m with
  |func f m=>exact .ret (.value (.func (.func f m) i j o p))
  |yield q=>exact .ret (.value (.func (.yield q) i j o p))
 |bool b=>exact .ret (.value (.bool b))
 |int k n=>exact .ret (.value (.int k n))
 |string s=>exact .ret (.value (.string s))
 |ptr h=>exact .ret (.value (.ptr h))
 |kr l c=>exact .ret (.value (.kr l c))
 |slice h l c=>exact .ret (.value (.slice h l c))
 |ju g u=>exact .ret (.value (.ju g u))
 |p5=>exact .ret (.value .p5)
 |map h=>exact .ret (.value (.map h))
 |qP=>exact .ret (.value .qP)
 |iface t h=>exact .ret (.value (.iface t h))
 |agg i j=>exact .ret (.value (.agg i j))
 |tuple i j=>exact .ret (.value (.tuple i j))
 |gI g d=>
  cases w with
  |agg c=>exact d.elim
  |nilIface=>exact d.elim
  |nilFunc=>exact d.elim
  |bool b=>exact d.elim
  |int k n=>exact d.elim
  |string s=>exact d.elim
  |func f a c=>cases f with
   |method n=>exact d.elim
   |_=>exact a2.ret (A:=h2) (h2.value (aQ.gI g d))
  |pointer a=>cases a with
   |none=>exact d.elim
   |some a=>exact a2.ret (A:=h2) (h2.value (aQ.gI g d))
  |_=>exact a2.ret (A:=h2) (h2.value (aQ.gI g d))
 |k9 g=>
  refine a2.dp ?_;show cY Q (program >>= λr=>nilAhead (r.types.size+Made.depth) 1000000000 .nilIface "" >>= λb=>_);exact cY.prog (Mm (BU (F.fu ▸ g)) _)
def FC{e:Tg}(h:xL Q t=true)(he:Q.underlying t=some (.slice e)):lO Q e=true:=by unfold xL at h;rw[he]at h;exact h
def FN(S:Same Q P)(F:Fits Q ρ)(H:fe Spec Q P)(o:Oper)(u:ρ.room=true\/xA o.op=true)(j:o6 Q o.op=true)(p:∀x,er Q x=true->aQ ρ (bz x) (il x))(E:∀v,bz (.const v)=v/\il (.const v)=v)(G:∀g,bz (.func g)=.func (.func g) #[] #[]/\il (.func g)=.func (.func g) #[] #[]):ef true Q P h2 (execOp bz o) ρ (execOp il o):=by
 obtain⟨dst,op,type,pos,after,guard⟩:=o;dsimp only at j u;have J:∀(f:Operand->S9),execOp f ⟨dst,op,type,pos,after,guard⟩=execOp f {(default:Oper)with op:=op,type:=type}:=λf=>by cases op<;>rfl
 cases op<;>first|cases j|skip
 all_goals try simp only[o6,TS]at j
 case mapUpdate t m k x=>exact ef.map (FZ S F t j.1.1.1 (p m j.1.1.2) (p k j.1.2) (p x j.2)) λ_ _ _ _ _=>.skip
 case insert t m k x=>exact ef.map (FZ S F t j.1.1.1 (p m j.1.1.2) (p k j.1.2) (p x j.2)) λ_ _ _ _ _=>.skip
 all_goals refine a2.up ?_
 case move x=>exact .ret (.value (p x j))
 case assign x=>exact .ret (.value (p x j))
 case pick c a b=>
  refine(AQ (p c j.1.1)).a8 ?_;rintro ai I _ l ⟨rfl,_⟩;cases I
  .exact .ret (.value ((p b j.2).mono l))
  .exact .ret (.value ((p a j.1.2).mono l))
 case alloc t=>exact hV (Pn S t j)
 case box t x=>exact hV (Pu (p x j) t)
 case build t e9=>exact hV (Pv S t j.1 (ET p j.2))
 case buildSlice t n e9=>exact hV (Pw S t n (λe he=>FC j.1 he) (ET p j.2))
 case load t a=>exact hV (PT S t (p a j))
 case store t a x=>exact A1 (Qf S t (p a j.1) (p x j.2))
 case nilCheck x=>exact P8 S F (p x j)
 case binOp op t x y M=>
  refine hV ?_;have w:=p x j.1.1;have z:=p y j.1.2;have C:∀v,x=.const v->bz x=v/\il x=v:=by rintro v rfl;exact E v
  have D:∀v,y=.const v->bz y=v/\il y=v:=by rintro v rfl;exact E v
  have he:(op=.eql\/op=.neq)->nT Q t x y=true:=by rintro(rfl|rfl)<;>exact j.2
  by_cases q:(op=.eql\/op=.neq)/\(bz x=.tuple #[]\/bz y=.tuple #[])
  .exact a2.dp (J7 op q.1 t x y q.2)
  have B:(op=.eql\/op=.neq)->bz x≠.tuple #[]/\bz y≠.tuple #[]:=λh=>⟨λe=>q ⟨h,.inl e⟩,λe=>q ⟨h,.inr e⟩⟩
  refine(PC S op t x y he w z (λv e=>(C v e).1) (λv e=>(D v e).1) B).a8 ?_;rintro ai _ _ l _;by_cases h:op=.eql\/op=.neq
  .exact Ps S (F.mono l) op h t x y (he h) (w.mono l) (z.mono l) C D (B h).1 (B h).2
  .exact Pt S (F.mono l) op (λe=>h (.inl e)) (λe=>h (.inr e)) t (w.mono l) (z.mono l)
 case unOp op t x=>exact hV (Qi op (p x j))
 case convert s d x=>exact hV (PA S s d j.1 (p x j.2))
 case makeInterface t x=>exact hV (PX S t (p x j))
 case makeFunc fn a b=>
  cases fn<;>first|cases j|skip
  simp only[TS]at j;exact hV (PW _ (by rw[F.eb];simpa using j.1) (yb p j.2.1) (yb p j.2.2))
 case makeMap t r=>
  cases r<;>first|cases j|skip
  exact hV (PY S t)
 case makeSlice t l c=>exact hV (PZ S (u.resolve_right (by simp[xA])) t (λe he=>FC j.1.1 he) (p l j.1.2) (p c j.2))
 case slice t x bY K L=>exact hV (Qe S t (p x j.1.1.1) (Ag p j.1.1.2) (Ag p j.1.2) (Ag p j.2))
 case fieldAddr t x k=>exact hV (PI S t k j.1 (p x j.2))
 case field t x k=>exact hV (PH S t k (p x j))
 case indexAddr t x i=>exact hV (PN S t (p x j.1) (p i j.2))
 case index t x i=>exact hV (PM S t (p x j.1) (p i j.2))
 case lookup t m k c=>exact hV (PV S F t j.1.1 (p m j.1.2) (p k j.2) c)
 case range t x=>exact hV (Qa S t (p x j))
 case next x b=>exact hV (P7 S type b (p x j))
 case entry x=>exact hV (PB (p x j))
 case typeAssert x hv t c=>
  cases c<;>first|cases j|skip
  simp only[TS]at j;exact hV (Qh S hv t j.1 (p x j.2))
 case extract x k=>exact hV (PF (p x j) k)
 case call c=>exact Py S F H p G c u type j
 case defer c=>exact(Qb F p G c type j).a8 λ_ _ _ _ hd=>.ret (.defer hd)
end
end
end Go.aO
namespace Go.aO
attribute [-simp] Go.Sem.runT_eq
variable{h:Halt}{o:Oper}{aG w w':S7}{v:S9}{aX s:Sem Next}{es:TE}{fn:TF}{e:TL}{Tc cs cs':Tz}
section
def p9(Q:To)(bZ:Ta)(ops:Tv Oper):Ta:=ops.all λo=>o6 Q o.op && !(bZ && (match o.op with |.defer _=>true|_=>false))
def codeOk(Q:To):Ta->Code->Ta
 |_,.skip|_,.exit _|_,.label _|_,.goto _|_,.ret|_,.refuse _=>true
 |bZ,.region _ ops _=>p9 Q bZ ops
 |bZ,.seq a b=>codeOk Q bZ a && codeOk Q bZ b
 |bZ,.cond c a b=>er Q c && (codeOk Q bZ a && codeOk Q bZ b)
 |bZ,.block _ b|bZ,.loop b|bZ,.scope b=>codeOk Q bZ b
 |_,.rangeFunc f _ a b=>er Q f && (codeOk Q true a && codeOk Q true b)
structure Fit(Q:To)(ρ:Ren):Prop where
 fits:Fits Q ρ
 cW:ρ.cW=λc=>codeOk Q true c=true
 je:∀b,je Q=some b->ρ.r b b
def Fit.mono{Q:To}{ρ ai:Ren}(h:Fit Q ρ)(k:ρ.le ai):Fit Q ai:=⟨h.fits.mono k,k.cW.trans h.cW,λb e=>k.sub _ _ (h.je b e)⟩
def Nv{Q:To}{ρ:Ren}(h:∀b,je Q=some b->ρ.r b b)(c:pinned Q v=true):aQ ρ v v:=by
 unfold pinned at c;split at c
 .exact .ptr ⟨h _ (by simpa using c),S6,S6⟩
 .cases c
inductive gF(Q:To)(bZ:Ta)(db:Tv Oper->Tv Oper->Prop):Code->Code->Prop
 |same {c} (h:codeOk Q bZ c=true):gF Q bZ db c c
 |seq {a b bd aE} (h:gF Q bZ db a bd) (k:gF Q bZ db b aE):gF Q bZ db (.seq a b) (.seq bd aE)
 |cond {c a b bd aE} (ar:er Q c=true) (h:gF Q bZ db a bd) (k:gF Q bZ db b aE):gF Q bZ db (.cond c a b) (.cond c bd aE)
 |block {id a bd} (h:gF Q bZ db a bd):gF Q bZ db (.block id a) (.block id bd)
 |loop {a bd} (h:gF Q bZ db a bd):gF Q bZ db (.loop a) (.loop bd)
 |scope {a bd} (h:gF Q bZ db a bd):gF Q bZ db (.scope a) (.scope bd)
 |Pj {id ops iQ d} (h:db ops iQ):gF Q bZ db (.region id ops d) (.region id iQ d)
inductive iY(Q:To)(bZ:Ta)(db:Tv Oper->Tv Oper->Prop)(ρ:Ren):Item->Item->Prop
 |code {c bp} (h:gF Q bZ db c bp):iY Q bZ db ρ (.code c) (.code bp)
 |inBlock (id):iY Q bZ db ρ (.inBlock id) (.inBlock id)
 |inLoop {c bp} (h:gF Q bZ db c bp):iY Q bZ db ρ (.inLoop c) (.inLoop bp)
 |inScope {c bp} (h:gF Q bZ db c bp):iY Q bZ db ρ (.inScope c) (.inScope bp)
 |inRegion {ops} (l) (h:p9 Q bZ ops=true):iY Q bZ db ρ (.inRegion ops l) (.inRegion ops l)
 |inRangeFunc {l aN} (h:ρ.r l aN):iY Q bZ db ρ (.inRangeFunc l) (.inRangeFunc aN)
 |endRangeFunc {l aN} (h:ρ.r l aN):iY Q bZ db ρ (.endRangeFunc l) (.endRangeFunc aN)
 |beginRound:iY Q bZ db ρ .beginRound .beginRound
structure rV(ρ:Ren)(e f:PanicEntry):Prop where
 v:aQ ρ e.v f.v
 recovered:e.recovered=false/\f.recovered=false
 goexit:e.goexit=f.goexit
inductive qB(ρ:Ren):FrameMode->FrameMode->Prop
 |run:qB ρ .run .run
 |returning:qB ρ .returning .returning
 |panicking {a b} (h:cK (rV ρ) a b):qB ρ (.panicking a) (.panicking b)
structure g8(Q P:To) where
 db:Tw->Tv Oper->Tv Oper->Prop
 fn:Tw->Prop
variable{Q P:To}
structure cN(K:g8 Q P)(ρ:Ren)(fr bo:TB):Prop where
 fn:fr.fn=bo.fn
 tmps:bQ ρ fr.tmps bo.tmps
 todo:cK (iY Q fr.roundOf.isSome (K.db fr.fn) ρ) fr.todo bo.todo
 defers:cK (me ρ) fr.defers bo.defers
 mode:qB ρ fr.mode bo.mode
 kind:fr.kind=bo.kind
 kindOk:fr.kind=.normal\/fr.kind=.deferred
 round:fl ρ.r fr.roundOf bo.roundOf
 known:fr.roundOf=none->∃iM im,Q.funcs[fr.fn]?=some iM/\P.funcs[fr.fn]?=some im/\iM.results=im.results
 ret:fr.mode=.returning->fr.roundOf=none
def fj(K:g8 Q P)(f:Tw)(d im:TF):Prop:=
 (∃c bp,d.body=some c/\im.body=some bp/\d.results=im.results/\gF Q false (K.db f) c bp)\/(∃g,d.body=some (.refuse g))\/K.fn f
inductive oB(K:g8 Q P)(ρ:Ren):TB->TB->Prop
 |plain {fr bo} (h:cN K ρ fr bo):oB K ρ fr bo
 |refused {fr bo} (hh) (h:fr.todo = [.code (.refuse hh)]) (hm:fr.mode=.run):oB K ρ fr bo
 |sh {f a b Tl} (h:K.fn f) (aa:TG Tl) (ca:bQ ρ a b) (ae:∀n,ρ.eb f=some n->a.size=n):oB K ρ (Frame.enter Q f a Tl) (Frame.enter P f b Tl)
variable{K:g8 Q P}{ρ ai:Ren}{bZ:Ta}{db:Tv Oper->Tv Oper->Prop}
def iY.mono(h:ρ.le ai){a b:Item}(x:iY Q bZ db ρ a b):iY Q bZ db ai a b:=by
 cases x with
 |code k=>exact .code k
 |inBlock id=>exact .inBlock id
 |inLoop k=>exact .inLoop k
 |inScope k=>exact .inScope k
 |inRegion l k=>exact .inRegion l k
 |inRangeFunc k=>exact .inRangeFunc (h.sub _ _ k)
 |endRangeFunc k=>exact .endRangeFunc (h.sub _ _ k)
 |beginRound=>exact .beginRound
def rV.mono(h:ρ.le ai){a b:PanicEntry}(x:rV ρ a b):rV ai a b:=⟨x.v.mono h,x.recovered,x.goexit⟩
def qB.mono(h:ρ.le ai){a b:FrameMode}(x:qB ρ a b):qB ai a b:=by
 cases x with
 |run=>exact .run
 |returning=>exact .returning
 |panicking k=>exact .panicking (k.mono λ_ _=>rV.mono h)
def cN.mono(h:ρ.le ai){a b:TB}(x:cN K ρ a b):cN K ai a b:=
 ⟨x.fn,x.tmps.mono h,x.todo.mono λ_ _=>iY.mono h,x.defers.mono λ_ _ k=>k.mono h,x.mode.mono h,x.kind,x.kindOk,x.round.mono h.sub,x.known,x.ret⟩
def nX(h:ρ.le ai){a b:Tz}(x:cK (cN K ρ) a b):cK (cN K ai) a b:=x.mono λ_ _=>cN.mono h
def cK.append{α β:Type}{R:α->β->Prop}{a c:Tb α}{b d:Tb β}(h:cK R a b)(k:cK R c d):cK R (a++c) (b++d):=by
 induction h with
 |nil=>exact k
 |cons x _ f=>exact .cons x f
def tk:aQ ρ undef undef:=.tuple S6 aF
def zv{a b:Te}(h:bQ ρ a b)(t:Nat):aQ ρ (a.getD t undef) (b.getD t undef):=by
 rw[Array.getD_eq_getD_getElem?,Array.getD_eq_getD_getElem?];rcases bQ.get? h t with⟨x,y,c,d,f⟩|⟨c,d⟩
 .rw[c,d];exact f
 .rw[c,d];exact tk
def tY(F:Fit Q ρ){fr bo:TB}(h:bQ ρ fr.tmps bo.tmps)(x:Operand)(az:er Q x=true):aQ ρ (fr.eval x) (bo.eval x):=by
 cases x with
 |tmp t=>exact zv h t
 |const v=>
  simp only[er,Bool.or_eq_true]at az;rcases az with az|az
  .exact BW 64 v az
  .exact Nv F.je az
 |global g=>cases az
 |func f=>exact .func (.func f (by rw[F.fits.eb];simpa [er]using az)) S6 aF S6 aF
def Kq(id:Nat){a b:Tb Item}(h:cK (iY Q bZ db ρ) a b):fl (cK (iY Q bZ db ρ)) (exitTo id a) (exitTo id b):=by
 induction h with
 |nil=>exact .none
 |cons x t c=>
  cases x with
  |inBlock d=>
   unfold exitTo;split
   .exact .some t
   .exact c
  |_=>unfold exitTo;exact c
def KF{c:Code}(l:Nat)(h:codeOk Q bZ c=true):∀r,findLabel c l=some r->codeOk Q bZ r=true:=by
 induction c with
 |seq a b f g=>
  intro r d;simp only[codeOk,TS]at h;unfold findLabel at d;rcases e:findLabel a l with _|x
  .rw[e]at d;exact g h.2 r d
  .rw[e]at d
   cases d;simp only[codeOk,TS];exact⟨f h.1 x e,h.2⟩
 |label m=>
  intro r d;unfold findLabel at d;split at d
  .cases d;rfl
  .cases d
 |_=>intro r d;unfold findLabel at d;cases d
def KE(l:Nat){c bp:Code}(h:gF Q bZ db c bp):fl (gF Q bZ db) (findLabel c l) (findLabel bp l):=by
 induction h with
 |same h=>
  rcases e:findLabel _ l with _|r
  .exact .none
  .exact .some (.same (KF l h r e))
 |seq _ k d g=>
  unfold findLabel;revert d;generalize findLabel _ l=x;generalize findLabel _ l=y;intro d;cases d with
  |none=>exact g
  |some f=>exact .some (.seq f k)
 |_=>unfold findLabel;exact .none
def KZ(l:Nat){a b:Tb Item}(h:cK (iY Q bZ db ρ) a b):fl (cK (iY Q bZ db ρ)) (gotoIn l a) (gotoIn l b):=by
 induction h with
 |nil=>exact .none
 |cons x t d=>
  cases x with
  |inScope c=>
   unfold gotoIn;have e:=KE l c;revert e;generalize findLabel _ l=x;generalize findLabel _ l=y;intro e;cases e with
   |none=>exact d
   |some he=>exact .some (.cons (.code he) (.cons (.inScope c) t))
  |_=>unfold gotoIn;exact d
def Et{ops:Tv Oper}(h:p9 Q bZ ops=true){i:Nat}(d:ops[i]?=some o):o6 Q o.op=true/\(bZ=true->∀c,o.op≠.defer c):=by unfold p9 at h;rw[Array.all_eq_true]at h;have f:=bu d;have:=h i f;rw[fb f]at d;rw[bD d]at this;simp only[TS,Bool.not_eq_true']at this;refine⟨this.1,λj c g=>?_⟩;rw[j,g]at this;simp at this
def qX{fr bo:TB}(h:cN K ρ fr bo){w:S9}(F:aQ ρ v w):cN K ρ (fr.finish v) (bo.finish w):=by
 obtain⟨f,c,z,g,j,m,n,o,p,q⟩:=h;obtain⟨fn,tmps,todo,defers,mode,Tl,roundOf⟩:=fr;obtain⟨D,B,J,C,H,G,I⟩:=bo;dsimp only at f c z g j m n o p q;cases z with
 |nil=>exact⟨f,c,.nil,g,j,m,n,o,p,q⟩
 |@cons _ _ lt mt x t=>
  have reg:∀{ops y:Tv Oper} {i:Nat} {Tp:TA},iY Q roundOf.isSome (K.db fn) ρ (.inRegion ops Tp) (.inRegion y Tp)->((ops[i]?).bind (·.dst)=(y[i]?).bind (·.dst))->
   cN K ρ {fn,tmps:=match (ops[i]?).bind (·.dst)with|some d=>tmps.setIfInBounds d v|none=>tmps,todo:=.inRegion ops Tp::lt,defers,mode,kind:=Tl,roundOf} {fn:=D,tmps:=match (y[i]?).bind (·.dst)with|some d=>B.setIfInBounds d w|none=>B,todo:=.inRegion y Tp::mt,defers:=C,mode:=H,kind:=G,roundOf:=I}:=by
   intro ops y i Tp E hd;refine⟨f,?_,.cons E t,g,j,m,n,o,p,q⟩;dsimp only;rw[<-hd];cases (ops[i]?).bind (·.dst)with
   |none=>exact c
   |some d=>exact c.set d F
  cases x with
  |inRegion l r=>cases l with
   |nil=>exact⟨f,c,.cons (.inRegion [] r) t,g,j,m,n,o,p,q⟩
   |cons i Tp=>exact reg (.inRegion Tp r) S6
  |inRangeFunc r=>exact⟨f,c,.cons (.endRangeFunc r) t,g,j,m,n,o,p,q⟩
  |beginRound=>exact⟨f,c,t,g,j,m,n,o,p,q⟩
  |code u=>exact⟨f,c,.cons (.code u) t,g,j,m,n,o,p,q⟩
  |inBlock id=>exact⟨f,c,.cons (.inBlock id) t,g,j,m,n,o,p,q⟩
  |inLoop u=>exact⟨f,c,.cons (.inLoop u) t,g,j,m,n,o,p,q⟩
  |inScope u=>exact⟨f,c,.cons (.inScope u) t,g,j,m,n,o,p,q⟩
  |endRangeFunc r=>exact⟨f,c,.cons (.endRangeFunc r) t,g,j,m,n,o,p,q⟩
def xt{fr bo:TB}(h:cN K ρ fr bo){a b:Tb PanicEntry}(k:cK (rV ρ) a b):cN K ρ (fr.raise a) (bo.raise b):=by
 obtain⟨c,d,f,g,i,j,l,n,o,p⟩:=h;unfold Frame.raise;revert i;generalize fr.mode=m;generalize bo.mode=dd;intro i;cases i with
 |run=>exact⟨c,d,f,g,.panicking k,j,l,n,o,bR⟩
 |returning=>exact⟨c,d,f,g,.panicking k,j,l,n,o,bR⟩
 |panicking hp=>exact⟨c,d,f,g,.panicking (k.append hp),j,l,n,o,bR⟩
def pP(H:fe (fj K) Q P)(f:Tw){a b:Te}(h:bQ ρ a b)(r:∀n,ρ.eb f=some n->a.size=n)(Tl:Tx)(o:TG Tl):oB K ρ (Frame.enter Q f a Tl) (Frame.enter P f b Tl):=by
 cases e:Q.funcs[f]? with
 |none=>exact .refused _ (by simp[Frame.enter,e];rfl) S6
 |some m=>
 let⟨_,B⟩:=H.fn f m e;cases B with
 |none d _ _ _=>exact .refused _ (by simp[Frame.enter,e,d];rfl) S6
 |ext _ _ _ d=>exact .refused _ (by simp[Frame.enter,e,d];rfl) S6
 |same im hp d E F C w=>
  rcases w with⟨c,bp,j,p,q,u⟩|⟨D,j⟩|af
  .refine .plain ⟨S6,?_,?_,.nil,.run,S6,o,.none,λ_=>⟨m,im,e,hp,q⟩,bR⟩
   .simp only[Frame.enter,e,hp,Option.map_some,Option.getD_some,<-C,<-h.1]
    refine h.append ⟨aF,λi x y g l=>?_⟩;rw[Array.getElem?_replicate]at g l;split at g
    .rename_i z
     rw[Tq z]at l;cases g;cases l;exact tk
    .cases g
   .simp only[Frame.enter,e,hp,j,p,Option.bind_some,Option.getD_some]
    exact .cons (.code u) .nil
  .exact .refused D (by simp[Frame.enter,e,j]) S6
  .exact .sh af o h r
end
section
variable{Q P:To}{K:g8 Q P}{ρ ai:Ren}
def hJ(K:g8 Q P)(ρ:Ren)(w w':S7)(dS Tc:Tz):GStep->GStep->Prop
 |.go g aG _,r=>(∃(ai:Ren) (cs:Tz) (bo:TB) (cs':Tz) (bJ:S7) (fg:TE),r=.go (Tk bo (cs'++Tc)) bJ fg/\
  g=(Tk g.frame (cs++dS))/\Eff ρ ai w aG w' bJ/\gm ai aG bJ/\(oB K ai g.frame bo/\(cN K ai g.frame bo\/cs≠[]))/\cK (cN K ai) cs cs'/\∀e∈fg,fc ai w e)\/
  ∃c c₁:TB,dS=c::g.callers/\g=(Tk c₁ g.callers)/\((∃v,c₁=c.finish v)\/(∃d,c₁=c.raise d)\/c₁=c\/∃m,c₁={c with mode:=m}/\c.mode≠.panicking [])
 |.ended ..,_=>True
 |_,_=>False
section
variable{w w' aG bJ:S7}{dS Tc cs cs':Tz}{fr bo:TB}{es fg:TE}
def hJ.sD(he:Eff ρ ai w aG w' bJ)(g:gm ai aG bJ)(c:cN K ai fr bo)(d:cK (cN K ai) cs cs')(f:∀e∈fg,fc ai w e):
 hJ K ρ w w' dS Tc (.go (Tk fr (cs++dS)) aG es) (.go (Tk bo (cs'++Tc)) bJ fg):=
 .inl ⟨ai,cs,bo,cs',bJ,fg,rfl,rfl,he,g,⟨.plain c,.inl c⟩,d,f⟩
def hJ.mk(he:Eff ρ ai w aG w' bJ)(g:dA ai aG bJ)(f:cN K ai fr bo)(c:cK (cN K ai) cs cs')(d:∀e∈fg,fc ai w e):
 hJ K ρ w w' dS Tc (.go (Tk fr (cs++dS)) aG es) (.go (Tk bo (cs'++Tc)) bJ fg):=.sD he g.hrel f c d
def hJ.Ca{c:TB}(he:Eff ρ ai w aG w' bJ)(h:gm ai aG bJ)(g:oB K ai fr bo)(d:cK (cN K ai) (c::cs) cs')(f:∀e∈fg,fc ai w e):
 hJ K ρ w w' dS Tc (.go (Tk fr ((c::cs)++dS)) aG es) (.go (Tk bo (cs'++Tc)) bJ fg):=
 .inl ⟨ai,c::cs,bo,cs',bJ,fg,rfl,rfl,he,h,⟨g,.inr (List.cons_ne_nil _ _)⟩,d,f⟩
def hJ.call{c:TB}(he:Eff ρ ai w aG w' bJ)(h:dA ai aG bJ)(g:oB K ai fr bo)(d:cK (cN K ai) (c::cs) cs')(f:∀e∈fg,fc ai w e):
 hJ K ρ w w' dS Tc (.go (Tk fr ((c::cs)++dS)) aG es) (.go (Tk bo (cs'++Tc)) bJ fg):=.Ca he h.hrel g d f
def hJ.stay(f:dA ρ w w')(d:cN K ρ fr bo)(c:cK (cN K ρ) cs cs'):
 hJ K ρ w w' dS Tc (.go (Tk fr (cs++dS)) w) (.go (Tk bo (cs'++Tc)) w'):=
 .mk Eff.refl f (d) c aF
def nv(p:To)(f:Tw)(es:TE):∀e∈seen p f es,e∈es:=by
 have key:∀(f:Ta×TE->TL->Ta×TE),(∀x e y,y∈(f x e).2->y∈x.2\/y=e)->∀(l:Tb TL) (x:Ta×TE) (y:TL),y∈(l.foldl f x).2->y∈x.2\/y∈l:=by
  intro f c l;induction l with
  |nil=>intro x y h;exact .inl h
  |cons e l d=>
   intro x y h;rcases d (f x e) y h with k|k
   .rcases c x e y k with k|k
    .exact .inl k
    .exact .inr (by rw[k];exact List.mem_cons_self)
   .exact .inr (Ur _ k)
 intro e he;unfold seen at he;dsimp only at he;rw[<-Array.foldl_toList]at he;rcases key _ (by
  rintro⟨q,g⟩ e y;dsimp only;split
  .exact .inl
  .intro hm
   dsimp only at hm;split at hm
   .exact .inl hm
   .exact Array.mem_push.1 hm) es.toList _ e he with k|k
 .simp at k
 .exact Array.mem_toList_iff.1 k
def qD(fr:TB):Prop:=∀d b r s k,fr.todo≠.call d b r s::k
def cN.uE(h:cN K ρ fr bo):qD fr/\qD bo:=by
 have t:=h.todo;constructor
 .intro d b r s k e
  rw[e]at t;generalize bo.todo=x at t;cases t with|cons h _=>cases h
 .intro d b r s k e
  rw[e]at t;generalize fr.todo=x at t;cases t with|cons h _=>cases h
def cN.early(h:cN K ρ fr bo):(fr.kind == .early)=false/\(bo.kind == .early)=false:=by
 rcases h.kindOk with k|k
 .exact⟨by rw[k];rfl,by rw[<-h.kind,k];rfl⟩
 .exact⟨by rw[k];rfl,by rw[<-h.kind,k];rfl⟩
section
variable{p:To}{s:Sem Next}
def r6(d:s.runT p w #[]=(.ok (.value v) aG,es))(c:(fr.kind == .early)=false):stepG.apply p true fr cs none s w=.go (Tk (fr.finish v) cs) aG (seen p fr.fn es):=by simp[stepG.apply,d,c,GStep.after]
def tL(d:s.runT p w #[]=(.ok .skip aG,es))(c:(fr.kind == .early)=false):stepG.apply p true fr cs none s w=.go (Tk (fr.finish undef) cs) aG (seen p fr.fn es):=by simp[stepG.apply,d,c,GStep.after]
def vB{d:Deferred}(f:s.runT p w #[]=(.ok (.defer d) aG,es))(c:(fr.kind == .early)=false):stepG.apply p true fr cs none s w=.go (Tk ({fr with defers:=d::fr.defers}.finish undef) cs) aG (seen p fr.fn es):=by simp[stepG.apply,f,c,GStep.after]
def vC{f:Tw}{a:Te}(j:s.runT p w #[]=(.ok (.enter f a) aG,es))(g:(fr.kind == .early)=false)(c:qD fr):stepG.apply p true fr cs none s w=.go (Tk (Frame.enter p f a .normal) (fr::cs)) aG (seen p fr.fn es):=by
 obtain⟨fn,tmps,todo,defers,mode,Tl,roundOf⟩:=fr;unfold qD at c;dsimp only at c g;have:∀x:Tx,(∀d r s k,todo≠.call d true r s::k)->(match todo with |.call _ true _ _::_=>x|_=>.normal)=.normal:=by
  intro x h;split
  .exact Td S6 (h _ _ _ _)
  .rfl
 simp only[stepG.apply,if_true,j,g,GStep.after];rcases todo with _|⟨i,k⟩
 .simp
 .cases i with
  |call d b r s=>exact Td S6 (c d b r s k)
  |_=>simp
def vE{l:Nat}{f:Tw}{a:Te}{c d:Code}(h:s.runT p w #[]=(.ok (.round l f a c d) aG,es))(g:(fr.kind == .early)=false):stepG.apply p true fr cs none s w=.go (Tk (Frame.round l f a c d .normal) (fr::cs)) aG (seen p fr.fn es):=by simp[stepG.apply,h,g,GStep.after]
def vD(d:s.runT p w #[]=(.halt (.panic v) aG,es))(c:(fr.kind == .early)=false):stepG.apply p true fr cs none s w=.go (Tk (fr.raise [{v,recovered:=false}]) cs) aG (seen p fr.fn es):=by simp[stepG.apply,d,c,GStep.after]
def yF(d:s.runT p w #[]=(.halt h aG,es))(c:jU h):∃o f ba,stepG.apply p true fr cs none s w=.ended o f ba:=by
 cases h with
 |stuck i=>exact⟨_,_,_,by simp only[stepG.apply,if_true,d,GStep.after];exact S6⟩
 |unsupported u=>
  cases u with
  |initOrder g=>exact c.elim
  |_=>exact⟨_,_,_,by simp only[stepG.apply,if_true,d,GStep.after];exact S6⟩
 |_=>exact c.elim
end
def Fl(F:Fit Q ρ){l aN:Nat}(j:ρ.r l aN)(f:Tw){a b:Te}(h:bQ ρ a b){c d:Code}(g:ρ.cW c/\ρ.cW d)(Tl:Tx)(i:TG Tl):
 cN K ρ (Frame.round l f a c d Tl) (Frame.round aN f b c d Tl):=by
 rw[F.cW]at g;exact⟨S6,h,.cons (.code (.same g.1)) (.cons .beginRound (.cons (.code (.same g.2)) .nil)),.nil,.run,S6,i,.some j,bR,bR⟩
def xB(p:To){α:Type}(s:Sem α)(w:S7){r:Result α}(h:s.run p w=r):∃es,s.runT p w #[]=(r,es):=⟨(s.runT p w #[]).2,by rw[<-h,<-Sem.runT_fst p s w #[]]⟩
def yH{l:Ta}(F:Fit Q ρ)(H:fe (fj K) Q P)(T:ef l Q P h2 s ρ aX)(U:dA ρ w w')(r:cN K ρ fr bo)(D:cK (cN K ρ) cs cs'):
 hJ K ρ w w' dS Tc (stepG.apply Q true fr (cs++dS) none s w) (stepG.apply P true bo (cs'++Tc) none aX w'):=by
 have h:=ef.run T U;have k:=r.early;have E:=r.uE;rcases e:s.run Q w with⟨n,aG⟩|⟨x,aG⟩
 .rw[e]at h
  let⟨es,i⟩:=xB Q s w e;obtain⟨ai,c9,bJ,ba,u,he,m,S,z⟩:=h;have j:aX.runT P w' #[]=(.ok c9 bJ,ba):=by rw[u];simp
  have g:=r.mono he.le;have q:=nX he.le D;have bz:∀e∈seen P bo.fn ba,fc ai w e:=λe h=>z e (nv _ _ _ e h)
  cases S with
  |value C=>
   rw[r6 i k.1,r6 j k.2];exact .sD he m.1 ((qX g C)) q bz
  |skip=>
   rw[tL i k.1,tL j k.2];exact .sD he m.1 ((qX g tk)) q bz
  |enter f y L=>
   rw[vC i k.1 E.1,vC j k.2 E.2];exact .Ca (cs:=cs) (cs':=bo::cs') he m.1 (pP H f y L .normal (.inl S6)) (.cons g q) bz
  |round R f y c d B=>
   rw[vE i k.1,vE j k.2];exact .sD (cs:=fr::cs) (cs':=bo::cs') he m.1 (Fl (F.mono he.le) R f y B .normal (.inl S6)) (.cons g q) bz
  |@defer d G hd=>
   rw[vB i k.1,vB j k.2];have M:cN K ai {fr with defers:=d::fr.defers} {bo with defers:=G::bo.defers}:=⟨g.fn,g.tmps,g.todo,.cons hd g.defers,g.mode,g.kind,g.kindOk,g.round,g.known,g.ret⟩
   exact .sD he m.1 ((qX M tk)) q bz
 .rw[e]at h
  let⟨es,i⟩:=xB Q s w e;have J:jU x->hJ K ρ w w' dS Tc (stepG.apply Q true fr (cs++dS) none s w) (stepG.apply P true bo (cs'++Tc) none aX w'):=by intro B;let⟨o,W,ba,I⟩:=yF (p:=Q) (fr:=fr) (cs:=cs++dS) i B;rw[I];trivial
  cases x with
  |panic v=>
   obtain⟨ai,V,bJ,ba,u,he,m,C,z⟩:=h;have j:aX.runT P w' #[]=(.halt (.panic V) bJ,ba):=by rw[u];simp
   rw[vD i k.1,vD j k.2];exact .sD he m.1 ((xt (r.mono he.le) (.cons ⟨C,⟨S6,S6⟩,S6⟩ .nil))) (nX he.le D) λe h=>z e (nv _ _ _ e h)
  |_=>exact J h
end
end
section
variable{Q P:To}{K:g8 Q P}{ρ ai:Ren}{bZ:Ta}{db:Tv Oper->Tv Oper->Prop}
section
variable{w w' aG bJ:S7}{dS Tc cs cs':Tz}{fr bo:TB}{es fg:TE}
def I0:∀{c:Code},codeOk Q true c=true->codeOk Q false c=true:=by
 intro c;induction c with
 |region id ops d=>
  intro h;simp only[codeOk,p9,Array.all_eq_true,TS]at h ⊢;intro i m;exact⟨(h i m).1,aF⟩
 |seq a b j l=>
  intro h;simp only[codeOk,TS]at h ⊢;exact⟨j h.1,l h.2⟩
 |cond c a b j l=>
  intro h;simp only[codeOk,TS]at h ⊢;exact⟨h.1,j h.2.1,l h.2.2⟩
 |block id b g=>intro h;simp only[codeOk]at h ⊢;exact g h
 |loop b g=>intro h;simp only[codeOk]at h ⊢;exact g h
 |scope b g=>intro h;simp only[codeOk]at h ⊢;exact g h
 |rangeFunc f e9 a b _ _=>intro h;simpa only[codeOk]using h
 |_=>intro h;rfl
def IZ{c:Code}(h:codeOk Q true c=true)(bZ:Ta):codeOk Q bZ c=true:=by
 cases bZ
 .exact I0 h
 .exact h
def OW{a b c:Code}(h:gF Q bZ db (.seq a b) c):∃d f,c=.seq d f/\gF Q bZ db a d/\gF Q bZ db b f:=by
 cases h with
 |same h=>simp only[codeOk,TS]at h;exact⟨_,_,S6,.same h.1,.same h.2⟩
 |seq h k=>exact⟨_,_,S6,h,k⟩
def I2{x:Operand}{a b c:Code}(h:gF Q bZ db (.cond x a b) c):∃d f,c=.cond x d f/\er Q x=true/\gF Q bZ db a d/\gF Q bZ db b f:=by
 cases h with
 |same h=>simp only[codeOk,TS]at h;exact⟨_,_,S6,h.1,.same h.2.1,.same h.2.2⟩
 |cond g h k=>exact⟨_,_,S6,g,h,k⟩
def Ib{id:Nat}{a c:Code}(h:gF Q bZ db (.block id a) c):∃d,c=.block id d/\gF Q bZ db a d:=by
 cases h with
 |same h=>exact⟨_,S6,.same (by simpa only[codeOk]using h)⟩
 |block h=>exact⟨_,S6,h⟩
def LS{a c:Code}(h:gF Q bZ db (.loop a) c):∃d,c=.loop d/\gF Q bZ db a d:=by
 cases h with
 |same h=>exact⟨_,S6,.same (by simpa only[codeOk]using h)⟩
 |loop h=>exact⟨_,S6,h⟩
def OO{a c:Code}(h:gF Q bZ db (.scope a) c):∃d,c=.scope d/\gF Q bZ db a d:=by
 cases h with
 |same h=>exact⟨_,S6,.same (by simpa only[codeOk]using h)⟩
 |scope h=>exact⟨_,S6,h⟩
def N8{id:Nat}{ops:Tv Oper}{d:Ta}{c:Code}(h:gF Q bZ db (.region id ops d) c):∃f,c=.region id f d/\((ops=f/\p9 Q bZ ops=true)\/db ops f):=by
 cases h with
 |same h=>exact⟨_,S6,.inl ⟨S6,by simpa only[codeOk]using h⟩⟩
 |Pj h=>exact⟨_,S6,.inr h⟩
def fc.through{aR:Ren}{g h:S7}(he:Eff ρ ai w aG w' bJ)(k:Eff ai aR aG g bJ h)(x:fc aR aG e):fc aR w e:=by
 refine x.back (λb c d f=>(he.guard b c d f).1) ?_;rintro b ⟨c,d⟩;rcases k.new b c d with x|⟨x,_⟩
 .rcases he.new b c x with y|⟨y,_⟩
  .exact .inl ⟨_,y⟩
  .exact .inr y
 .exact .inr (cL he.rJ x)
def hJ.after{r d:GStep}(he:Eff ρ ai w aG w' bJ)(q:dA ai aG bJ)(n:∀e∈fg,fc ai w e)(h:hJ K ai aG bJ dS Tc r d):hJ K ρ w w' dS Tc (GStep.after es r) (GStep.after fg d):=by
 cases r with
 |go g z ba=>
  rcases h with⟨aR,cs,bo,cs',B,f,rfl,p,c,i,j,l,m⟩|h
  case inr=>exact .inr h
  refine .inl ⟨aR,cs,bo,cs',B,fg++f,S6,p,he.trans q c,i,j,l,λe u=>?_⟩;rcases Array.mem_append.1 u with y|y
  .exact(n e y).mono c.le
  .exact fc.through he c (m e y)
 |ended o z ba=>trivial
 |_=>exact h.elim
def CG(main C:Ta)(he:Eff ρ ai w aG w' bJ)(o:dA ai aG bJ)(i:cN K ai fr bo)(y:cK (cN K ai) cs cs')(B:dS≠[]){q:S9}(z:aQ ai v q)(j:∀e∈fg,fc ai w e):
 hJ K ρ w w' dS Tc (GStep.after es (doReturn Q main fr (cs++dS) none v aG)) (GStep.after fg (doReturn P C bo (cs'++Tc) none q bJ)):=by
 cases y with
 |nil=>
  rcases dS with _|⟨c,Tp⟩
  .exact Td S6 B
  rcases i.kindOk with k|k
  .simp only[doReturn,List.nil_append,k,GStep.after]
   exact .inr ⟨c,c.finish v,S6,S6,.inl ⟨v,S6⟩⟩
  .simp only[doReturn,List.nil_append,k,GStep.after]
   obtain⟨fn,tmps,todo,defers,mode,Tl,roundOf⟩:=c;refine .inr ⟨_,_,S6,S6,?_⟩;cases mode with
   |run=>exact .inr (.inr (.inl S6))
   |returning=>exact .inr (.inr (.inl S6))
   |panicking ch=>
    rcases ch with _|⟨⟨v,r,g⟩,J⟩
    .exact .inr (.inr (.inl S6))
    .cases r
     .exact .inr (.inr (.inl S6))
     .refine .inr (.inr (.inr ?_))
      dsimp only;split<;>exact⟨_,S6,by intro h;cases h⟩
 |@cons c bp l m f n=>
  have d:=i.kind;rcases i.kindOk with k|k
  .rw[k]at d
   simp only[doReturn,List.cons_append,k,<-d,GStep.after];exact .mk he o ((qX f z)) n (by simpa using j)
  .rw[k]at d
   have hm:=f.mode;obtain⟨fn,tmps,todo,defers,mode,Tl,roundOf⟩:=c;obtain⟨G,M,R,F,I,H,L⟩:=bp;dsimp only at hm;have fin:=hJ.mk (dS:=dS) (Tc:=Tc) (es:=es++#[]) (fg:=fg++#[]) he o (f) n (by simpa using j);cases hm with
   |run=>simpa only[doReturn,List.cons_append,k,<-d,GStep.after]using fin
   |returning=>simpa only[doReturn,List.cons_append,k,<-d,GStep.after]using fin
   |panicking hp=>
    cases hp with
    |nil=>simpa only[doReturn,List.cons_append,k,<-d,GStep.after]using fin
    |@cons a b _ _ u _=>
     obtain⟨gA,eb,D⟩:=a;obtain⟨bv,E,T3⟩:=b;obtain⟨_,⟨r1,p⟩,_⟩:=u;dsimp only at r1 p;subst r1;subst p;simpa only[doReturn,List.cons_append,k,<-d,GStep.after]using fin
end
end
section
variable{Q P:To}{K:g8 Q P}{ρ ai:Ren}{bZ:Ta}{db:Tv Oper->Tv Oper->Prop}
section
variable{w w' aG bJ:S7}{dS Tc cs cs':Tz}{fr bo:TB}{es fg:TE}
def Ft{l:Ta}{α β:Type}{A:Ren->α->β->Prop}{s:Sem α}{aX:Sem β}(n:ef l Q P A s ρ aX)(o:dA ρ w w'):
 (∃a b aG bJ ai ba c,s.runT Q w #[]=(.ok a aG,ba)/\aX.runT P w' #[]=(.ok b bJ,c)/\Eff ρ ai w aG w' bJ/\tJ l ai aG bJ/\A ai a b/\∀e∈c,fc ai w e)\/
 (∃v m aG bJ ai ba c,s.runT Q w #[]=(.halt (.panic v) aG,ba)/\aX.runT P w' #[]=(.halt (.panic m) bJ,c)/\Eff ρ ai w aG w' bJ/\tJ l ai aG bJ/\aQ ai v m/\∀e∈c,fc ai w e)\/
 (∃h aG ba,s.runT Q w #[]=(.halt h aG,ba)/\jU h):=by
 have h:=ef.run n o;rcases e:s.run Q w with⟨a,aG⟩|⟨x,aG⟩
 .rw[e]at h
  let⟨es,d⟩:=xB Q s w e;obtain⟨ai,b,bJ,ba,f,he,j,i,g⟩:=h;exact .inl ⟨a,b,aG,bJ,ai,es,ba,d,by rw[f];simp,he,j,i,g⟩
 .rw[e]at h
  let⟨es,d⟩:=xB Q s w e;cases x with
  |panic v=>
   obtain⟨ai,b,bJ,ba,f,he,j,i,g⟩:=h;exact .inr (.inl ⟨v,b,aG,bJ,ai,es,ba,d,by rw[f];simp,he,j,i,g⟩)
  |_=>exact .inr (.inr ⟨_,aG,es,d,h⟩)
def pb{α β:Type}{A:Ren->α->β->Prop}{s:Sem α}{aX:Sem β}(m:a2 Q P A s ρ aX)(n:dA ρ w w'):
 (∃a b aG bJ ai ba c,s.runT Q w #[]=(.ok a aG,ba)/\aX.runT P w' #[]=(.ok b bJ,c)/\Eff ρ ai w aG w' bJ/\dA ai aG bJ/\A ai a b/\∀e∈c,fc ai w e)\/
 (∃v l aG bJ ai ba c,s.runT Q w #[]=(.halt (.panic v) aG,ba)/\aX.runT P w' #[]=(.halt (.panic l) bJ,c)/\Eff ρ ai w aG w' bJ/\dA ai aG bJ/\aQ ai v l/\∀e∈c,fc ai w e)\/
 (∃h aG ba,s.runT Q w #[]=(.halt h aG,ba)/\jU h):=by
 rcases Ft m n with⟨a,b,aG,bJ,ai,ba,c,d,f,g,i,j⟩|⟨a,b,aG,bJ,ai,ba,c,d,f,g,i,j⟩|h
 .exact .inl ⟨a,b,aG,bJ,ai,ba,c,d,f,g,i.2 S6,j⟩
 .exact .inr (.inl ⟨a,b,aG,bJ,ai,ba,c,d,f,g,i.2 S6,j⟩)
 .exact .inr (.inr h)
def Plain(K:g8 Q P)(fr bo:TB):Prop:=∀id ops c d k f,fr.todo=.code (.region id ops d)::k->bo.todo=.code (.region id c d)::f->¬K.db fr.fn ops c
def Sy{ops g:Tv Oper}(h:∀i:Nat,(ops[i]?).bind (·.dst)=(g[i]?).bind (·.dst)){a b:Te}(k:bQ ρ a b)(j:Nat):yielded ops a j=yielded g b j:=by
 unfold yielded;rw[<-h j];cases (ops[j]?).bind (·.dst)with
 |none=>rfl
 |some d=>
  rcases bQ.get? k d with⟨x,y,c,f,m⟩|⟨c,f⟩
  .simp only[Option.bind_some,c,f]
   cases m with
   |gI n l=>cases y<;>first|rfl|exact l.elim
   |_=>rfl
  .simp only[Option.bind_some,c,f]
def mB(p:To)(main:Ta)(fr:TB)(cs:Tz)(w:S7)(c:TI Code):GStep:=
 match fr.roundOf with
 |none=>if c matches none|some .ret then .go (Tk ({fr with mode:=.returning}) cs) w else .ended (.stuck "exit, goto: no such block or label" (fr.pos p)) w
 |some l=>
  let(r,es):=(Instr.endRound l c).runT p w #[];GStep.after (seen p fr.fn es) <|match r with
  |.ok v w=>doReturn p main fr cs none v w
  |.halt _ w=>.ended (.stuck "range over a function: no such loop" (fr.pos p)) w
section
variable(p:To)(main:Ta)(fn:Tw)(tmps:Te)(k:Tb Item)(defers:Tb Deferred)(Tl:Tx)(ro:TN)(st:GoStatus)(off:TI (Tv CommCase×CommShape))(id:Nat)
def step_end:stepG p main ⟨⟨fn,tmps,[],defers,.run,Tl,ro⟩,cs,st,none,off⟩ w=mB p main ⟨fn,tmps,[],defers,.run,Tl,ro⟩ cs w none:=by cases ro<;>rfl
def step_ret:stepG p main ⟨⟨fn,tmps,.code .ret::k,defers,.run,Tl,ro⟩,cs,st,none,off⟩ w=mB p main ⟨fn,tmps,.code .ret::k,defers,.run,Tl,ro⟩ cs w (some .ret):=by cases ro<;>rfl
def step_exit:stepG p main ⟨⟨fn,tmps,.code (.exit id)::k,defers,.run,Tl,ro⟩,cs,st,none,off⟩ w =
 (exitTo id k).elim (mB p main ⟨fn,tmps,.code (.exit id)::k,defers,.run,Tl,ro⟩ cs w (some (.exit id))) λnC=>.go (Tk ⟨fn,tmps,nC,defers,.run,Tl,ro⟩ cs) w:=by
 cases ro<;>rfl
def step_goto:stepG p main ⟨⟨fn,tmps,.code (.goto id)::k,defers,.run,Tl,ro⟩,cs,st,none,off⟩ w =
 (gotoIn id k).elim (mB p main ⟨fn,tmps,.code (.goto id)::k,defers,.run,Tl,ro⟩ cs w (some (.goto id))) λnC=>.go (Tk ⟨fn,tmps,nC,defers,.run,Tl,ro⟩ cs) w:=by
 cases ro<;>rfl
end
def Lu(F:Fit Q ρ)(p:dA ρ w w')(d:cN K ρ fr bo)(m:cK (cN K ρ) cs cs')(D:dS≠[])(main r:Ta)(g:TI Code)(B:∀c,g=some c->codeOk Q true c=true):
 hJ K ρ w w' dS Tc (mB Q main fr (cs++dS) w g) (mB P r bo (cs'++Tc) w' g):=by
 obtain⟨fn,tmps,todo,defers,mode,Tl,ro⟩:=fr;obtain⟨y,G,H,u,L,E,M⟩:=bo;have j:=d.round;dsimp only at j;unfold mB;cases j with
 |none=>
  dsimp only;have fin:hJ K ρ w w' dS Tc (.go (Tk ⟨fn,tmps,todo,defers,.returning,Tl,none⟩ (cs++dS)) w) (.go (Tk ⟨y,G,H,u,.returning,E,none⟩ (cs'++Tc)) w'):=
   .stay p ⟨d.fn,d.tmps,d.todo,d.defers,.returning,d.kind,d.kindOk,.none,d.known,λ_=>S6⟩ m
  cases g with
  |none=>exact fin
  |some c=>cases c<;>first|exact fin|trivial
 |@some l aN C=>
  dsimp only;rcases pb (FK (Q:=Q) (P:=P) C g (λc e=>by rw[F.cW];exact B c e)) p with⟨v,I,aG,bJ,ai,ba,z,f,i,he,q,o,n⟩|⟨v,I,aG,bJ,ai,ba,z,f,i,he,q,o,n⟩|⟨h,aG,ba,f,J⟩
  .rw[f,i]
   exact CG main r he q (d.mono he.le) (nX he.le m) D o λe h=>n e (nv _ _ _ e h)
  .rw[f]
   trivial
  .rw[f]
   trivial
def R3{ops:Tv Oper}{a b:Te}(k:bQ ρ a b)(i:Nat):
 ((ops[i]?).map (Region.wanted · (yielded ops a))).getD false=((ops[i]?).map (Region.wanted · (yielded ops b))).getD false:=by
 have c:yielded ops a=yielded ops b:=funext λj=>Sy (λ_=>S6) k j
 rw[c]
section
variable(p:To)(main:Ta)(fn:Tw)(tmps:Te)(k:Tb Item)(defers:Tb Deferred)(Tl:Tx)(ro:TN)(st:GoStatus)(off:TI (Tv CommCase×CommShape))(id:Nat)
def rA(ops:Tv Oper)(i:Nat)(Tp:TA):stepG p main ⟨⟨fn,tmps,.inRegion ops (i::Tp)::k,defers,.run,Tl,ro⟩,cs,st,none,off⟩ w =
 if ((ops[i]?).map (Region.wanted · (yielded ops tmps))).getD false then stepG.oper p true ⟨fn,tmps,.inRegion ops (i::Tp)::k,defers,.run,Tl,ro⟩ cs none w
 else .go (Tk (Frame.finish ⟨fn,tmps,.inRegion ops (i::Tp)::k,defers,.run,Tl,ro⟩ undef) cs) w:=S6
def A4(ops:Tv Oper)(d:Ta):stepG p main ⟨⟨fn,tmps,.code (.region id ops d)::k,defers,.run,Tl,ro⟩,cs,st,none,off⟩ w =
 if !d then .go (Tk ⟨fn,tmps,.inRegion ops (List.range ops.size)::k,defers,.run,Tl,ro⟩ cs) w
 else .go (Tk ⟨fn,tmps,.inRegion ops (Region.schedule (p.follows .mixedOrders) ops (w.tape w.drawn (.order fn id)))::k,defers,.run,Tl,ro⟩ cs) {w with drawn:=w.drawn+1}:=by
 cases d<;>simp[stepG,stepG.exec,choose,Sem.run,Question.forced,Question.cut]
end
def rf{p:To}(h:fr.oper?=some o)(hd:fr.roundOf=none\/∀c,o.op≠.defer c):stepG.oper p true fr cs none w=stepG.apply p true fr cs none (execOp fr.eval o) w:=by
 unfold stepG.oper;rw[h];dsimp only;rcases hd with hd|hd
 .rw[hd]
 .split
  .rename_i c _ e
   exact Td e (hd c)
  .rfl
def MT(S:Same Q P)(F:Fit Q ρ)(l:ρ.room=true)(H:fe (fj K) Q P)(m:dA ρ w w')(d:cN K ρ fr bo)(g:cK (cN K ρ) cs cs')(h:fr.oper?=some o)(f:bo.oper?=some o)(j:o6 Q o.op=true)(hd:fr.roundOf=none\/∀c,o.op≠.defer c):hJ K ρ w w' dS Tc (stepG.oper Q true fr (cs++dS) none w) (stepG.oper P true bo (cs'++Tc) none w'):=by
 have i:bo.roundOf=none\/∀c,o.op≠.defer c:=by
  rcases hd with hd|hd
  .left
   have:=d.round;rw[hd]at this;revert this;generalize bo.roundOf=x;intro this;cases this;rfl
  .exact .inr hd
 rw[rf h hd,rf f i];exact yH F H (FN S F.fits H o (.inl l) j (λx n=>tY F d.tmps x n) (λv=>⟨S6,S6⟩) λ_=>⟨S6,S6⟩) m d g
def Kp(S:Same Q P)(F:Fit Q ρ)(aC:ρ.room=true)(H:fe (fj K) Q P)(p:dA ρ w w')(z:cN K ρ fr bo)(n:cK (cN K ρ) cs cs')(au:fr.mode=.run)(aE:dS≠[])(aD:Plain K fr bo)(main aj:Ta)(st aL:GoStatus)(off aJ:TI (Tv CommCase×CommShape)):
 hJ K ρ w w' dS Tc (stepG Q main ⟨fr,cs++dS,st,none,off⟩ w) (stepG P aj ⟨bo,cs'++Tc,aL,none,aJ⟩ w'):=by
 let⟨al,q,am,Z,ao,ap,M,r,R,T⟩:=z;obtain⟨fn,tmps,todo,defers,mode,Tl,roundOf⟩:=fr;obtain⟨aM,Y,af,J,aQ,aP,X⟩:=bo;dsimp only at al q am Z ao ap M r R T au;subst al;subst ap;subst au;cases ao;have mv:∀{todo af:Tb Item},cK (iY Q roundOf.isSome (K.db fn) ρ) todo af->hJ K ρ w w' dS Tc (.go (Tk ⟨fn,tmps,todo,defers,.run,Tl,roundOf⟩ (cs++dS)) w) (.go (Tk ⟨fn,Y,af,J,.run,Tl,X⟩ (cs'++Tc)) w'):=
  λh=>.stay p ⟨S6,q,h,Z,.run,S6,M,r,R,T⟩ n
 have ae:∀(W:TI Code),(∀c,W=some c->codeOk Q true c=true)->hJ K ρ w w' dS Tc (mB Q main ⟨fn,tmps,todo,defers,.run,Tl,roundOf⟩ (cs++dS) w W) (mB P aj ⟨fn,Y,af,J,.run,Tl,X⟩ (cs'++Tc) w' W):=
  λW aB=>Lu F p z n aE main aj W aB
 cases am with
 |nil=>rw[step_end,step_end];exact ae none aF
 |@cons i aO k G aa g=>
  cases aa with
  |inBlock id=>simp only[stepG,stepG.exec];exact mv g
  |inLoop h=>simp only[stepG,stepG.exec];exact mv (.cons (.code h) (.cons (.inLoop h) g))
  |inScope h=>simp only[stepG,stepG.exec];exact mv g
  |inRangeFunc h=>simp only[stepG,stepG.exec];trivial
  |@endRangeFunc l aN h=>
   rcases pb (FJ S h) p with⟨v,ag,aG,bJ,ai,ba,L,j,C,he,B,⟨rfl,E⟩,D⟩|⟨v,ag,aG,bJ,ai,ba,L,j,C,he,B,ad,D⟩|⟨x,aG,ba,j,E⟩
   .simp only[stepG,stepG.exec,j,C,GStep.after]
    have U:=z.mono he.le;refine .mk (fg:=seen P fn L++#[]) he B (⟨S6,U.tmps,?_,U.defers,.run,S6,M,U.round,R,T⟩) (nX he.le n) λe h=>D e (nv P fn _ e (by simpa using h))
    have aq:=g.mono λ_ _=>iY.mono he.le
    cases v with
    |none=>exact aq
    |some c=>
     have:=E c S6;rw[(F.mono he.le).cW]at this;exact .cons (.code (.same (IZ this _))) aq
   .simp only[stepG,stepG.exec,j,C,GStep.after]
    exact .mk (fg:=seen P fn L++#[]) he B ((xt (z.mono he.le) (.cons ⟨ad,⟨S6,S6⟩,S6⟩ .nil))) (nX he.le n) λe h=>D e (nv P fn _ e (by simpa using h))
   .simp only[stepG,stepG.exec,j]
    cases x<;>first|exact E.elim|trivial
  |beginRound=>
   simp only[stepG,stepG.exec];refine yH (l:=false) F H ?_ p z n;cases r with
   |none=>exact a2.stuck
   |some V=>exact A1 (FH S V)
  |@inRegion ops l h=>
   cases l with
   |nil=>simp only[stepG,stepG.exec];exact mv g
   |cons i Tp=>
    rw[rA,rA];rw[<-R3 (ops:=ops) q i];split
    .rename_i av
     rcases az:ops[i]? with _|o
     .rw[az]at av;cases av
     let⟨q1,aK⟩:=Et h az;exact MT S F aC H p z n (o:=o) (by simp[Frame.oper?,az]) (by simp[Frame.oper?,az]) q1 (by
      cases r with
      |none=>exact .inl S6
      |some _=>exact .inr (aK S6))
    .exact .stay p (qX z tk) n
  |@code c bp h=>
   cases c with
   |skip=>cases h;simp only[stepG,stepG.exec];exact mv g
   |label l=>cases h;simp only[stepG,stepG.exec];exact mv g
   |refuse aR=>cases h;simp only[stepG,stepG.exec];trivial
   |ret=>cases h;rw[step_ret,step_ret];exact ae _ (by rintro c e;cases e;rfl)
   |exit id=>
    cases h;rw[step_exit,step_exit];have e:=Kq id g;revert e;generalize exitTo id k=x;generalize exitTo id G=y;intro e;cases e with
    |none=>exact ae (some (.exit id)) (by rintro c e;cases e;rfl)
    |some e=>exact mv e
   |goto id=>
    cases h;rw[step_goto,step_goto];have e:=KZ id g;revert e;generalize gotoIn id k=x;generalize gotoIn id G=y;intro e;cases e with
    |none=>exact ae (some (.goto id)) (by rintro c e;cases e;rfl)
    |some e=>exact mv e
   |seq a b=>
    obtain⟨I,ak,rfl,m,ah⟩:=OW h;simp only[stepG,stepG.exec];exact mv (.cons (.code m) (.cons (.code ah) g))
   |cond x a b=>
    obtain⟨I,ak,rfl,aH,m,ah⟩:=I2 h;simp only[stepG,stepG.exec];have e:=tY F (fr:=⟨fn,tmps,.code (.cond x a b)::k,defers,.run,Tl,roundOf⟩) (bo:=⟨fn,Y,.code (.cond x I ak)::G,J,.run,Tl,X⟩) q x aH;revert e;generalize Frame.eval _ x=u;generalize Frame.eval _ x=v;intro e;cases e with
    |bool b=>
     dsimp only;cases b
     .exact mv (.cons (.code ah) g)
     .exact mv (.cons (.code m) g)
    |_=>trivial
   |block id a=>
    obtain⟨I,rfl,m⟩:=Ib h;simp only[stepG,stepG.exec];exact mv (.cons (.code m) (.cons (.inBlock id) g))
   |loop a=>
    obtain⟨I,rfl,m⟩:=LS h;simp only[stepG,stepG.exec];exact mv (.cons (.code m) (.cons (.inLoop m) g))
   |scope a=>
    obtain⟨I,rfl,m⟩:=OO h;simp only[stepG,stepG.exec];exact mv (.cons (.code m) (.cons (.inScope m) g))
   |region id ops d=>
    obtain⟨aw,rfl,az⟩:=N8 h;obtain⟨rfl,aA⟩:ops=aw/\p9 Q roundOf.isSome ops=true:=by
     rcases az with az|az
     .exact az
     .exact Td az (aD id ops aw d k G S6 S6)
    have aa:∀l,iY Q roundOf.isSome (K.db fn) ρ (.inRegion ops l) (.inRegion ops l):=λl=>.inRegion l aA
    rw[A4,A4];cases d with
    |false=>
     simp only[Bool.not_false,if_true];exact mv (.cons (aa _) g)
    |true=>
     simp only[Bool.not_true,Uf,if_false];rw[<-S.follows,<-show w.tape w.drawn (.order fn id)=w'.tape w'.drawn (.order fn id)from p.tape 0 _];exact .mk Eff.tick p.tick (⟨S6,q,.cons (aa _) g,Z,.run,S6,M,r,R,T⟩) n aF
   |rangeFunc f e9 a b=>
    cases h with
    |same h=>
    simp only[codeOk,TS]at h;have E:ρ.cW a/\ρ.cW b:=by rw[F.cW];exact h.2
    have ay:=tY F (fr:=⟨fn,tmps,.code (.rangeFunc f e9 a b)::k,defers,.run,Tl,roundOf⟩) (bo:=⟨fn,Y,.code (.rangeFunc f e9 a b)::G,J,.run,Tl,X⟩) q f h.1;rcases pb (AV (Q:=Q) (P:=P) fn q e9 a b E r) p with⟨v,ag,aG,bJ,ai,ba,L,j,C,he,B,ad,D⟩|⟨v,ag,aG,bJ,ai,ba,L,j,C,he,B,ad,D⟩|⟨x,aG,ba,j,E⟩
    .obtain⟨l,mk⟩:=v
     obtain⟨aN,aI⟩:=ag;obtain⟨V,ar⟩:=ad;dsimp only at V ar;simp only[stepG,stepG.exec,j,C];have U:cN K ai ⟨fn,tmps,.inRangeFunc l::k,mk++defers,.run,Tl,roundOf⟩ ⟨fn,Y,.inRangeFunc aN::G,aI++J,.run,Tl,X⟩:=
      ⟨rfl,q.mono he.le,.cons (.inRangeFunc V) (g.mono λ_ _=>iY.mono he.le),ar.append (Z.mono λ_ _ k=>k.mono he.le),.run,S6,M,r.mono he.le.sub,R,T⟩
     refine hJ.after he B (λe h=>D e (nv P fn _ e h)) (yH (l:=false) (F.mono he.le) H ?_ B U (nX he.le n));have ax:bQ ai #[Value.func (.yield l) #[] #[]] #[Value.func (.yield aN) #[] #[]]:=om (.func (.yield V) S6 aF S6 aF);simp only[resolve,List.map_toArray,List.map_cons,List.map_nil];exact AU S (F.mono he.le).fits H (ay.mono he.le) ax
    .simp only[stepG,stepG.exec,j]
     trivial
    .simp only[stepG,stepG.exec,j]
     trivial
end
end
section
variable{Q P:To}{K:g8 Q P}{ρ ai:Ren}
section
variable{w w' aG bJ:S7}{dS Tc cs cs':Tz}{fr bo:TB}{es fg:TE}
section
variable{p:To}{d:Deferred}
def mn{n:Next}(g:(invoke d.target d.args).runT p w #[]=(.ok n aG,es))(f:(∃v,n=.value v)\/n=.skip\/∃d,n=.defer d)(c:((d.target matches .nil) && (fr.mode matches .panicking _))=false):
 callDeferred p fr cs none d w=.go (Tk fr cs) aG (seen p fr.fn es):=by
 unfold callDeferred;refine(Tm λh=>Td (c.symm.trans h) a6).trans ?_;rw[g];rcases f with⟨v,rfl⟩|rfl|⟨d,rfl⟩<;>simp[GStep.after]
def vR{f:Tw}{a:Te}(g:(invoke d.target d.args).runT p w #[]=(.ok (.enter f a) aG,es))(c:((d.target matches .nil) && (fr.mode matches .panicking _))=false):
 callDeferred p fr cs none d w=.go (Tk (Frame.enter p f a .deferred) (fr::cs)) aG (seen p fr.fn es):=by
 unfold callDeferred;refine(Tm λh=>Td (c.symm.trans h) a6).trans ?_;rw[g];simp[GStep.after]
def vT{l:Nat}{f:Tw}{a:Te}{c e:Code}(i:(invoke d.target d.args).runT p w #[]=(.ok (.round l f a c e) aG,es))(g:((d.target matches .nil) && (fr.mode matches .panicking _))=false):
 callDeferred p fr cs none d w=.go (Tk (Frame.round l f a c e .deferred) (fr::cs)) aG (seen p fr.fn es):=by
 unfold callDeferred;refine(Tm λh=>Td (g.symm.trans h) a6).trans ?_;rw[i];simp[GStep.after]
def vS(f:(invoke d.target d.args).runT p w #[]=(.halt (.panic v) aG,es))(c:((d.target matches .nil) && (fr.mode matches .panicking _))=false):
 callDeferred p fr cs none d w=.go (Tk (fr.raise [{v,recovered:=false}]) cs) aG (seen p fr.fn es):=by
 unfold callDeferred;refine(Tm λh=>Td (c.symm.trans h) a6).trans ?_;rw[f];simp[GStep.after]
def I4{c:T6}(g:(invoke d.target d.args).runT p w #[]=(.halt (.stuck c) aG,es))(f:((d.target matches .nil) && (fr.mode matches .panicking _))=false):callDeferred p fr cs none d w=.ended (.stuck c (fr.pos p)) aG (seen p fr.fn es++#[]):=by unfold callDeferred;refine(Tm λh=>Td (f.symm.trans h) a6).trans ?_;rw[g];rfl
def I5{u:Unsupported}(f:(invoke d.target d.args).runT p w #[]=(.halt (.unsupported u) aG,es))(c:((d.target matches .nil) && (fr.mode matches .panicking _))=false):callDeferred p fr cs none d w=.ended (.unsupported u (fr.pos p)) aG (seen p fr.fn es++#[]):=by unfold callDeferred;refine(Tm λh=>Td (c.symm.trans h) a6).trans ?_;rw[f];rfl
def CE(f:(invoke d.target d.args).runT p w #[]=(.halt h aG,es))(g:jU h)(c:((d.target matches .nil) && (fr.mode matches .panicking _))=false):∃o i ba,callDeferred p fr cs none d w=.ended o i ba:=by
 cases h with
 |stuck j=>exact⟨_,_,_,I4 f c⟩
 |unsupported u=>exact⟨_,_,_,I5 f c⟩
 |_=>exact g.elim
def CF(c:((d.target matches .nil) && (fr.mode matches .panicking _))=true):∃o f ba,callDeferred p fr cs none d w=.ended o f ba:=
 ⟨_,_,_,Tq c⟩
end
def B'(S:Same Q P)(F:Fit Q ρ)(H:fe (fj K) Q P)(U:dA ρ w w')(D:cN K ρ fr bo)(I:cK (cN K ρ) cs cs'){d z:Deferred}(hd:me ρ d z):
 hJ K ρ w w' dS Tc (callDeferred Q fr (cs++dS) none d w) (callDeferred P bo (cs'++Tc) none z w'):=by
 have L:((d.target matches .nil) && (fr.mode matches .panicking _))=((z.target matches .nil) && (bo.mode matches .panicking _)):=by have a:=hd.target;have b:=D.mode;revert a b;generalize d.target=x;generalize z.target=y;generalize fr.mode=u;generalize bo.mode=v;intro a b;cases a<;>cases b<;>rfl
 by_cases g:((d.target matches .nil) && (fr.mode matches .panicking _))=true
 .let⟨o,V,ba,e⟩:=CF (p:=Q) (w:=w) (cs:=cs++dS) g
  rw[e];trivial
 simp only[Bool.not_eq_true]at g;have l:=g;rw[L]at l;rcases pb (AX S H hd.target hd.args) U with⟨n,c9,aG,bJ,ai,ba,G,i,j,he,m,T,C⟩|⟨v,W,aG,bJ,ai,ba,G,i,j,he,m,J,C⟩|⟨x,aG,ba,i,E⟩
 .have r:=D.mono he.le
  have q:=nX he.le I;have bz:∀e∈seen P bo.fn G,fc ai w e:=λe h=>C e (nv _ _ _ e h)
  cases T with
  |value J=>
   rw[mn i (.inl ⟨_,S6⟩) g,mn j (.inl ⟨_,S6⟩) l];exact .mk he m (r) q bz
  |skip=>
   rw[mn i (.inr (.inl S6)) g,mn j (.inr (.inl S6)) l];exact .mk he m (r) q bz
  |defer hd=>
   rw[mn i (.inr (.inr ⟨_,S6⟩)) g,mn j (.inr (.inr ⟨_,S6⟩)) l];exact .mk he m (r) q bz
  |enter f B M=>
   rw[vR i g,vR j l];exact .call (cs:=cs) (cs':=bo::cs') he m (pP H f B M .deferred (.inr S6)) (.cons r q) bz
  |round R f B c d E=>
   rw[vT i g,vT j l];exact .mk (cs:=fr::cs) (cs':=bo::cs') he m (Fl (F.mono he.le) R f B E .deferred (.inr S6)) (.cons r q) bz
 .rw[vS i g,vS j l]
  exact .mk he m ((xt (D.mono he.le) (.cons ⟨J,⟨S6,S6⟩,S6⟩ .nil))) (nX he.le I) λe h=>C e (nv _ _ _ e h)
 .let⟨o,V,gs,e⟩:=CE (fr:=fr) (cs:=cs++dS) i E g
  rw[e];trivial
def P1{α β g4:Type}{A:Ren->β->g4->Prop}(f:α->Sem β)(g:α->Sem g4)(hn:∀(ai aR:Ren) b c,ai.le aR->A ai b c->A aR b c)(j:∀(ai:Ren) x,ρ.le ai->a2 Q P A (f x) ai (g x)):
 ∀(l:Tb α) (ai:Ren),ρ.le ai->a2 Q P (λai=>cK (A ai)) (l.mapM f) ai (l.mapM g):=by
 intro l;induction l with
 |nil=>intro ai _;exact .ret .nil
 |cons x l o=>
  intro ai h;rw[List.mapM_cons,List.mapM_cons];refine(j ai x h).a8 ?_;intro aR b c m d;refine(o aR (Ren.le_trans h m)).a8 ?_;intro p q cs n i;exact .ret (.cons (hn aR p b c n d) i)
def RV{l m:TP}(h:cK (aQ ρ) l m):bQ ρ l.toArray m.toArray:=by
 induction h with
 |nil=>exact .nil
 |@cons a b l m f _ g=>
  have c:(a::l).toArray=#[a]++l.toArray:=aF;have d:(b::m).toArray=#[b]++m.toArray:=aF;rw[c,d];exact(om f).append g
def AZ(S:Same Q P){i im:TF}(e:i.results=im.results){a b:Te}(h:bQ ρ a b):a2 Q P aQ (results i a) ρ (results im b):=by
 unfold results;rw[e,Array.mapM_eq_mapM_toList,Array.mapM_eq_mapM_toList];refine a2.a8 (A:=bQ) (FY (P1 (A:=aQ) (ρ:=ρ) _ _ (λ_ _ _ _ h k=>k.mono h) ?_ _ ρ (Ren.le_refl ρ)) λai a b _ m=>RV m) ?_
 .intro ai x j
  cases x with
  |tmp t=>exact .ret (zv (h.mono j) t)
  |cell t n=>
   refine(xP S (zv (h.mono j) t)).a8 ?_;intro aR x y _ g;exact FX S n g
 .intro ai x y _ g
  obtain⟨f,l⟩:=g;by_cases c:x.size=1
  .have d:y.size=1:=f ▸ c
   simp only[c,d,dif_pos];exact .ret (l 0 _ _ (by simp[c]) (by simp[d]))
  .have d:¬y.size=1:=f ▸ c
   simp only[c,d,dif_neg,not_false_eq_true];exact .ret (.tuple f l)
def RN(S:Same Q P)(F:Fit Q ρ)(H:fe (fj K) Q P)(u:dA ρ w w')(f:cN K ρ fr bo)(n:cK (cN K ρ) cs cs')(q:fr.mode≠.run)(V:dS≠[])(main X:Ta)(st ar:GoStatus)(off ap:TI (Tv CommCase×CommShape)):
 hJ K ρ w w' dS Tc (stepG Q main ⟨fr,cs++dS,st,none,off⟩ w) (stepG P X ⟨bo,cs'++Tc,ar,none,ap⟩ w'):=by
 have ao:bo.mode≠.run:=by have:=f.mode;intro e;rw[e]at this;revert this q;generalize fr.mode=x;intro q this;cases this;exact q S6
 have ad:∀(p:To) (main:Ta) (fr:TB) (cs:Tz) (st:GoStatus) (off:TI (Tv CommCase×CommShape)) (w:S7),fr.mode≠.run->stepG p main ⟨fr,cs,st,none,off⟩ w=unwind p main fr cs none w:=by
  intro p main fr cs st off w h;obtain⟨fn,tmps,todo,defers,mode,Tl,ro⟩:=fr;cases mode with
  |run=>exact Td S6 h
  |_=>rfl
 rw[ad _ _ _ _ _ _ _ q,ad _ _ _ _ _ _ _ ao];have R:=f.defers;obtain⟨fn,tmps,todo,defers,mode,Tl,ro⟩:=fr;obtain⟨z,ae,af,av,Y,W,aa⟩:=bo;dsimp only at R;cases R with
 |@cons d ag J L hd aj=>
  have G:cN K ρ ⟨fn,tmps,todo,J,mode,Tl,ro⟩ ⟨z,ae,af,L,Y,W,aa⟩:=⟨f.fn,f.tmps,f.todo,aj,f.mode,f.kind,f.kindOk,f.round,f.known,f.ret⟩
  obtain⟨t,a⟩:=d;obtain⟨bh,au⟩:=ag;have C:=hd.target;dsimp only at C;cases C with
  |collected al=>
   simp only[unwind];rcases pb (F8 (Q:=Q) (P:=P) al) u with⟨v,D,aG,bJ,ai,ba,B,g,j,he,y,r,o⟩|⟨v,D,aG,bJ,ai,ba,B,g,j,he,y,r,o⟩|⟨x,aG,ba,g,U⟩
   .rw[g,j]
    have i:=G.mono he.le;have ak:cN K ai ⟨fn,tmps,todo,v++J,mode,Tl,ro⟩ ⟨z,ae,af,D++L,Y,W,aa⟩:=⟨i.fn,i.tmps,i.todo,r.append i.defers,i.mode,i.kind,i.kindOk,i.round,i.known,i.ret⟩
    exact .mk (fg:=seen P z B++#[]) he y (ak) (nX he.le n) λe h=>o e (nv P z _ e (by simpa using h))
   .rw[g];trivial
   .rw[g];trivial
  |nil=>exact B' S F H u G n hd
  |fn ax ay=>exact B' S F H u G n hd
 |nil=>
  have T:=f.mode;dsimp only at T;cases T with
  |run=>exact Td S6 q
  |panicking hp=>
   have I:=f.uE;have E:∀(p:To) (fr:TB),qD fr->fr.catches p=false:=by
    intro p fr h;unfold Frame.catches;split
    .rename_i e
     exact Td e (h _ _ _ _ _)
    .rfl
   cases n with
   |nil=>
    rcases dS with _|⟨c,Tp⟩
    .exact Td S6 V
    simp only[unwind,List.nil_append,E _ _ I.1];exact .inr ⟨c,_,S6,S6,.inr (.inl ⟨_,S6⟩)⟩
   |@cons c bp l m ah C=>
    simp only[unwind,List.cons_append,E _ _ I.1,E _ _ I.2];exact .mk Eff.refl u ((xt ah hp)) C aF
  |returning=>
   have am:=f.ret S6;let⟨aw,im,q1,Z,aq⟩:=f.known am;have M:=f.fn;dsimp only at M q1 Z;subst M;simp only[unwind,q1,Z];rcases pb (AZ S aq f.tmps) u with⟨v,D,aG,bJ,ai,ba,B,g,j,he,y,r,o⟩|⟨v,D,aG,bJ,ai,ba,B,g,j,he,y,r,o⟩|⟨x,aG,ba,g,U⟩
   .rw[g,j]
    exact CG main X he y (f.mono he.le) (nX he.le n) V r λe h=>o e (nv _ _ _ e h)
   .rw[g];trivial
   .rw[g]
    cases x<;>first|exact U.elim|trivial
def Gg(S:Same Q P)(F:Fit Q ρ)(m:ρ.room=true)(H:fe (fj K) Q P)(l:dA ρ w w')(i:cN K ρ fr bo)(g:cK (cN K ρ) cs cs')(j:dS≠[])(n:fr.mode=.run->Plain K fr bo)(main c:Ta)(st f:GoStatus)(off d:TI (Tv CommCase×CommShape)):
 hJ K ρ w w' dS Tc (stepG Q main ⟨fr,cs++dS,st,none,off⟩ w) (stepG P c ⟨bo,cs'++Tc,f,none,d⟩ w'):=by
 by_cases h:fr.mode=.run
 .exact Kp S F m H l i g h j (n h) main c st f off d
 .exact RN S F H l i g h j main c st f off d
end
end
section
variable{Q P:To}{K:g8 Q P}{ρ ai:Ren}{α β:Type}
def dM(w:S7)(aR:Tape):S7:={w with tape:=aR}
def GF{α:Type}:Result α->Tape->Result α
 |.ok a w,aR=>.ok a (dM w aR)
 |.halt h w,aR=>.halt h (dM w aR)
def sV{α:Type}:Result α->S7
 |.ok _ w=>w
 |.halt _ w=>w
def tG(aR ai:Tape)(m n:Nat):Prop:=∀k,m<=k->k<n->aR k=ai k
def hx(Q:To)(s:Sem α)(w:S7)(es:TE):Prop:=
 (∀h aG,(s.runT Q w es).1=.halt h aG->¬jU h)->
  (sV (s.runT Q w es).1).tape=w.tape/\w.drawn<=(sV (s.runT Q w es).1).drawn/\
   ∀aR,tG aR w.tape w.drawn (sV (s.runT Q w es).1).drawn->s.runT Q (dM w aR) es=(GF (s.runT Q w es).1 aR,(s.runT Q w es).2)
def hx.step{s hs:Sem α}{kG:TE}(e:s.runT Q w es=hs.runT Q aG kG)(d:aG.tape=w.tape)(hd:w.drawn<=aG.drawn)(k:∀aR,(aG.drawn≠w.drawn->aR w.drawn=w.tape w.drawn)->s.runT Q (dM w aR) es=hs.runT Q (dM aG aR) kG)(h:hx Q hs aG kG):hx Q s w es:=by intro c;rw[e]at c ⊢;let⟨g,i,l⟩:=h c;refine⟨g.trans d,cL hd i,λaR f=>?_⟩;rw[k aR λo=>f _ bg U];exact l aR λj n m=>by rw[f j U m,d]
def hx.pX{s:Sem α}{ba:TE}(e:s.runT Q w es=(.halt h aG,ba))(c:jU h):hx Q s w es:=by intro k;exact Td c (k h aG (by rw[e]))
def hx.dp{s:Sem α}(h:cY Q s):hx Q s w es:=by
 let⟨x,w',e,g,_⟩:=h w;have c:(s.runT Q w es).1=.halt x w':=by rw[Sem.runT_fst,e]
 intro k;exact Td g (k x w' c)
def ef.loc{l:Ta}{A:Ren->α->β->Prop}{s:Sem α}:∀{ρ:Ren} {w w':S7} {aX:Sem β} {es:TE},ef l Q P A s ρ aX->dA ρ w w'->hx Q s w es:=by
 induction s with
 |pure a=>
  intro ρ w w' aX es _ f _;exact⟨S6,bg,λaR _=>S6⟩
 |load m a k i=>
  rintro ρ w w' aX es (hd|⟨T,u,rfl,z,g⟩) f
  .exact .dp hd
  rcases yT f z with⟨v,Y,I,K,R⟩|I
  .refine hx.step (hs:=k v) (aG:=w) (kG:=es.push ⟨.cell a,false,m == .atomic⟩) (by simp only[Sem.runT,I]) S6 bg (λaR _=>?_) (i v (g v Y R) f)
   have J:(dM w aR).cell? a=some v:=I;simp only[Sem.runT,J]
  .let⟨s,M⟩:=zd (Q:=Q) f z (m == .atomic)
   exact .pX (by simp only[Sem.runT,I,M];rfl) (show jU (.stuck s)from Tf)
 |store m a v k i=>
  rintro ρ w w' aX es (hd|⟨T,Y,u,rfl,z,R,g⟩) f
  .exact .dp hd
  by_cases U:∃c,v=.agg c
  .obtain⟨c,rfl⟩:=U
   exact .pX (h:=.stuck _) (by simp only[Sem.runT];rfl) Tf
  by_cases W:∃c,v=.tuple c
  .obtain⟨c,rfl⟩:=W
   exact .pX (h:=.stuck _) (by simp only[Sem.runT];rfl) Tf
  have e:=λw=>xC (α:=α) Q m a v k w es (λc h=>U ⟨c,h⟩) (λc h=>W ⟨c,h⟩)
  rcases D:w.cell? a with _|x
  .let⟨s,M⟩:=CZ (Q:=Q) f z v (m == .atomic)
   exact .pX (h:=.stuck s) (by rw[e];simp only[D,M];rfl) Tf
  .by_cases E:w.frozen? a=true
   .exact .pX (h:=.unsupported (.unsafePointer "a write to bytes that a string shares")) (by rw[e];simp only[D];rw[Tq E]) Tf
   .simp only[Bool.not_eq_true]at E
    let⟨⟨y,ah⟩,V,aa,F,ae⟩:=A5 f z R D E;refine hx.step (hs:=k) (aG:=w.setCell a v) (kG:=es.push ⟨.cell a,true,m == .atomic⟩) (by rw[e];simp only[D];rw[Tm (by simp[E])]) S6 bg (λaR _=>?_) (i g F);have ad:(dM w aR).cell? a=some x:=D;have V:(dM w aR).frozen? a=false:=E;rw[e];simp only[ad];rw[Tm (by simp[V])];rfl
 |new o k i=>
  rintro ρ w w' aX es (hd|⟨G,u,rfl,H,g⟩) f
  .exact .dp hd
  let⟨ai,j,he,F⟩:=D' f H;exact hx.step (hs:=k w.heap.size) (aG:={w with heap:=w.heap.push o}) (kG:=es) (by simp only[Sem.runT]) S6 bg (λaR _=>by simp only[Sem.runT];rfl) (i _ (g ai _ _ he.le j) F)
 |shape r k i=>
  rintro ρ w w' aX es (hd|⟨C,u,rfl,j,g⟩) f
  .exact .dp hd
  exact hx.step (hs:=k (w.shape? r)) (aG:=w) (kG:=es) (by simp only[Sem.runT]) S6 bg (λaR _=>by simp only[Sem.runT];rfl) (i _ (g _ _ (Fz f j)) f)
 |freeze a n k i=>intro ρ w w' aX es h f;exact .dp h
 |frozen a k i=>
  rintro ρ w w' aX es (hd|⟨T,u,rfl,z,g⟩) f
  .exact .dp hd
  exact hx.step (hs:=k (w.frozen? a)) (aG:=w) (kG:=es) (by simp only[Sem.runT]) S6 bg (λaR _=>by simp only[Sem.runT];rfl) (i _ (g _ _ (Dg f z) (Df f z)) f)
 |getObj r k i=>
  rintro ρ w w' aX es (hd|⟨C,u,rfl,j,g⟩) f
  .exact .dp hd
  let⟨o,G,I,K,B⟩:=f.obj r C j;have Z:eZ ρ o G:=B;have key:py o->hx Q (.getObj r k) w es:=by
   intro L;have st:∀w:S7,w.heap[r]?=some o->Sem.runT Q (.getObj r k) w es=(k o).runT Q w (es.push ⟨.obj r,false,o.isChan⟩):=by intro w I;cases o<;>first|exact L.elim|simp only[Sem.runT,I]
   exact hx.step (hs:=k o) (aG:=w) (kG:=es.push ⟨.obj r,false,o.isChan⟩) (st w I) S6 bg (λaR _=>st (dM w aR) I) (i o (g o G Z) f)
  cases B with
  |cells a b c=>exact .pX (h:=.stuck "getObj: a row of cells") (by simp only[Sem.runT,I];rfl) Tf
  |_=>exact key Tf
 |setObj r o k i=>
  rintro ρ w w' aX es (hd|⟨C,G,u,rfl,j,H,L,g⟩) f
  .exact .dp hd
  let⟨x,af,I,K,B⟩:=f.obj r C j;have key:py x->hx Q (.setObj r o k) w es:=by
   intro X;let⟨F,ae,aa⟩:=AG f j H I X;have st:∀w:S7,w.heap[r]?=some x->Sem.runT Q (.setObj r o k) w es=k.runT Q {w with heap:=w.heap.setIfInBounds r o} (es.push ⟨.obj r,true,o.isChan⟩):=by intro w I;cases x<;>first|exact X.elim|simp only[Sem.runT,I]
   exact hx.step (hs:=k) (aG:={w with heap:=w.heap.setIfInBounds r o}) (kG:=es.push ⟨.obj r,true,o.isChan⟩) (st w I) S6 bg (λaR _=>st (dM w aR) I) (i g F)
  cases B with
  |cells a b c=>exact .pX (h:=.stuck "setObj: a row of cells") (by simp only[Sem.runT,I];rfl) Tf
  |_=>exact key Tf
 |choose q k i=>
  rintro ρ w w' aX es (hd|⟨u,rfl,g⟩|⟨el,g⟩) f
  .exact .dp hd
  rotate_left
  .have sub:∀n d,hx Q (k n) {w with drawn:=d} es:=λn d=>by
    let⟨r,o,C,G,a,b,e,_,j,H,L,_⟩:=g n;rw[e];let⟨x,af,I,K,B⟩:=f.obj r C j;cases B with
    |cells a b c=>exact .pX (h:=.stuck "setObj: a row of cells") (by simp only[Sem.runT,I];rfl) Tf
    |_=>exact λ_=>⟨by simp only[Sem.runT,I];rfl,by simp only[Sem.runT,I];exact bg,λaR _=>by have J:(dM {w with drawn:=d} aR).heap[r]?=_:=I;simp only[Sem.runT,I,J];rfl⟩
   by_cases p:q.forced=true
   .exact hx.step (hs:=k 0) (aG:=w) (kG:=es) (by simp only[Sem.runT,p,if_true]) S6 bg (λaR _=>by simp only[Sem.runT,p,if_true]) (sub 0 w.drawn)
   .refine hx.step (hs:=k (q.cut (w.tape w.drawn q))) (aG:={w with drawn:=w.drawn+1}) (kG:=es) (by simp only[Sem.runT,p,if_false,Uf]) S6 (Nat.le_succ _) (λaR S=>?_) (sub _ _)
    have:=S (Nat.succ_ne_self _);simp only[Sem.runT,p,if_false,Uf];show(k (q.cut (aR w.drawn q))).runT Q {dM w aR with drawn:=w.drawn+1} es=_;rw[this];rfl
  by_cases p:q.forced=true
  .exact hx.step (hs:=k 0) (aG:=w) (kG:=es) (by simp only[Sem.runT,p,if_true]) S6 bg (λaR _=>by simp only[Sem.runT,p,if_true]) (i _ (g 0) f)
  .refine hx.step (hs:=k (q.cut (w.tape w.drawn q))) (aG:={w with drawn:=w.drawn+1}) (kG:=es) (by simp only[Sem.runT,p,if_false,Uf]) S6 (Nat.le_succ _) (λaR S=>?_) (i _ (g _) f.tick)
   have:=S (Nat.succ_ne_self _);simp only[Sem.runT,p,if_false,Uf];show(k (q.cut (aR w.drawn q))).runT Q {dM w aR with drawn:=w.drawn+1} es=_;rw[this];rfl
 |sys c k i=>intro ρ w w' aX es h f;exact .dp h
 |program k i=>
  rintro ρ w w' aX es (hd|⟨u,rfl,g⟩) f
  .exact .dp hd
  exact hx.step (hs:=k Q) (aG:=w) (kG:=es) (by simp only[Sem.runT]) S6 bg (λaR _=>by simp only[Sem.runT]) (i _ g f)
 |mark m k i=>
  rintro ρ w w' aX es (hd|⟨dd,u,rfl,ag,g⟩) f
  .exact .dp hd
  exact hx.step (hs:=k) (aG:=w) (kG:=es.push ⟨.mark m,false,true⟩) (by simp only[Sem.runT]) S6 bg (λaR _=>by simp only[Sem.runT]) (i g f)
 |halt x=>
  intro ρ w w' aX es h f _;exact⟨S6,bg,λaR _=>S6⟩
def dW(f:S7->GStep)(w:S7):Prop:=∀g aG es,f w=.go g aG es->aG.tape=w.tape/\w.drawn<=aG.drawn/\∀aR,tG aR w.tape w.drawn aG.drawn->f (dM w aR)=.go g (dM aG aR) es
def dW.go(g:TC)(es:TE)(w:S7):dW (λw=>.go g w es) w:=by intro g' aG ba h;cases h;exact⟨S6,bg,λaR _=>S6⟩
def dW.ended{f:S7->GStep}(h:∃o aG es,f w=.ended o aG es):dW f w:=by obtain⟨o,aG,es,h⟩:=h;intro g c ba e;rw[h]at e;cases e
def dW.after{f:S7->GStep}(es:TE)(h:dW f w):dW (λw=>GStep.after es (f w)) w:=by
 intro g aG ba e;dsimp only at e;rcases c:f w with⟨n,o,m⟩|_|_|_|_|_|_|_|_|_|_<;>rw[c]at e<;>try cases e
 let⟨d,i,j⟩:=h _ _ _ c;exact⟨d,i,λaR l=>by dsimp only;rw[j aR l];rfl⟩
def dW.doReturn(p:To)(main:Ta)(fr:TB)(cs:Tz)(v:S9)(w:S7):dW (λw=>doReturn p main fr cs none v w) w:=by
 intro g aG es e;have key:∀w:S7,(∃g,∀w:S7,Go.doReturn p main fr cs none v w=.go g w)\/∀w,∃o es,Go.doReturn p main fr cs none v w=.ended o w es:=by
  intro w;unfold Go.doReturn;rcases cs with _|⟨c,Tp⟩
  .dsimp only
   cases d:fr.kind
   case report=>exact .inr λw=>⟨_,_,S6⟩
   all_goals
    dsimp only;cases main
    .exact .inl ⟨_,λw=>S6⟩
    .simp only[Bool.not_true,Uf,if_false]
     cases p.inits.idxOf? fr.fn
     .exact .inr λw=>⟨_,_,S6⟩
     .exact .inl ⟨_,λw=>S6⟩
  .dsimp only
   cases d:fr.kind<;>exact .inl ⟨_,λw=>S6⟩
 rcases key w with⟨g',h⟩|h
 .dsimp only at e
  rw[h]at e;cases e;exact⟨S6,bg,λaR _=>h _⟩
 .let⟨o,ba,h⟩:=h w
  dsimp only at e;rw[h]at e;cases e
def AH{α:Type}:Result α->S7->Result α
 |.ok a _,w=>.ok a w
 |.halt h _,w=>.halt h w
def OX(r:Result α):AH r (sV r)=r:=by cases r<;>rfl
def OY(r:Result α)(aR:Tape):AH r (dM (sV r) aR)=GF r aR:=by cases r<;>rfl
def a2.loc{A:Ren->α->β->Prop}{s:Sem α}{ρ:Ren}{aX:Sem β}(h:a2 Q P A s ρ aX)(c:dA ρ w w'):hx Q s w es:=ef.loc h c
def dW.run{A:Ren->α->β->Prop}{s:Sem α}{aX:Sem β}(q:a2 Q P A s ρ aX)(u:dA ρ w w')(F:Result α×TE->GStep)(E:∀a aG ba,s.runT Q w #[]=(.ok a aG,ba)->dW (λw=>F (.ok a w,ba)) aG)(hp:∀v aG ba,s.runT Q w #[]=(.halt (.panic v) aG,ba)->dW (λw=>F (.halt (.panic v) w,ba)) aG)(C:∀h aG ba,s.runT Q w #[]=(.halt h aG,ba)->jU h->∃o c es,F (.halt h aG,ba)=.ended o c es):dW (λw=>F (s.runT Q w #[])) w:=by
 intro g c gs e;dsimp only at e;have i:=a2.loc (es:=#[]) q u;have fin:∀(r:Result α) (ba:TE),s.runT Q w #[]=(r,ba)->(∀h aG,r=.halt h aG->¬jU h)->dW (λw=>F (AH r w,ba)) (sV r)->
  c.tape=w.tape/\w.drawn<=c.drawn/\∀aR,tG aR w.tape w.drawn c.drawn->F (s.runT Q (dM w aR) #[])=.go g (dM c aR) gs:=by
  intro r ba d D h;unfold hx at i;rw[d]at i e;let⟨f,l,m⟩:=i (λh aG he=>D h aG he);let⟨H,I,J⟩:=h g c gs (by dsimp only;rw[OX];exact e);dsimp only at f l m;refine⟨H.trans f,cL l I,λaR y=>?_⟩;rw[m aR λj n p=>y j n U];have:=J aR λj n p=>by rw[y j U p,f]
  dsimp only at this;rw[OY]at this;exact this
 rcases d:s.runT Q w #[]with⟨⟨a,aG⟩|⟨x,aG⟩,ba⟩
 .exact fin _ _ d aF (E a aG ba d)
 .have B:jU x->c.tape=w.tape/\w.drawn<=c.drawn/\∀aR,tG aR w.tape w.drawn c.drawn->F (s.runT Q (dM w aR) #[])=.go g (dM c aR) gs:=by intro G;let⟨o,K,es,he⟩:=C x aG ba d G;rw[d,he]at e;cases e
  have h:=a2.run q u;have z:s.run Q w=.halt x aG:=by rw[<-Sem.runT_fst Q s w #[],d]
  rw[z]at h;cases x with
  |panic v=>exact fin _ _ d (by rintro h w he;cases he;exact id) (hp v aG ba d)
  |_=>exact B h
section
variable{w w' aG bJ:S7}{C cs cs':Tz}{fr bo:TB}{es fg:TE}
def yG{l:Ta}(B:ef l Q P h2 s ρ aX)(D:dA ρ w w')(k:(fr.kind == .early)=false)(E:qD fr):dW (λw=>stepG.apply Q true fr C none s w) w:=by
 intro g R gs e;dsimp only at e ⊢;have u:=ef.loc (es:=#[]) B D;unfold hx at u;rcases Ft B D with⟨n,c9,aG,bJ,ai,ba,y,i,F,he,J,K,H⟩|⟨v,M,aG,bJ,ai,ba,y,i,F,he,J,I,H⟩|⟨x,aG,ba,i,z⟩
 .rw[i]at u
  let⟨m,q,r⟩:=u aF;cases K with
  |value I=>rw[r6 i k]at e;cases e;exact⟨m,q,λaR j=>r6 (r aR j) k⟩
  |skip=>rw[tL i k]at e;cases e;exact⟨m,q,λaR j=>tL (r aR j) k⟩
  |enter f G L=>rw[vC i k E]at e;cases e;exact⟨m,q,λaR j=>vC (r aR j) k E⟩
  |round u f G c d z=>rw[vE i k]at e;cases e;exact⟨m,q,λaR j=>vE (r aR j) k⟩
  |defer hd=>rw[vB i k]at e;cases e;exact⟨m,q,λaR j=>vB (r aR j) k⟩
 .rw[i]at u
  let⟨m,q,r⟩:=u (by rintro h w he;cases he;exact id);rw[vD i k]at e;cases e;exact⟨m,q,λaR j=>vD (r aR j) k⟩
 .let⟨o,S,y,he⟩:=yF (p:=Q) (fr:=fr) (cs:=C) i z
  rw[he]at e;cases e
def B9(S:Same Q P)(H:fe (fj K) Q P)(B:dA ρ w w'){d D:Deferred}(hd:me ρ d D):dW (λw=>callDeferred Q fr C none d w) w:=by
 by_cases i:((d.target matches .nil) && (fr.mode matches .panicking _))=true
 .exact .ended (CF i)
 simp only[Bool.not_eq_true]at i;intro g T gs e;dsimp only at e ⊢;have z:=AX (ρ:=ρ) S H hd.target hd.args;have r:=a2.loc (es:=#[]) z B;unfold hx at r;rcases pb z B with⟨n,c9,aG,bJ,ai,ba,u,j,E,he,J,L,G⟩|⟨v,R,aG,bJ,ai,ba,u,j,E,he,J,I,G⟩|⟨x,aG,ba,j,y⟩
 .rw[j]at r
  let⟨m,p,q⟩:=r aF;cases L with
  |value I=>rw[mn j (.inl ⟨_,S6⟩) i]at e;cases e;exact⟨m,p,λaR l=>mn (q aR l) (.inl ⟨_,S6⟩) i⟩
  |skip=>rw[mn j (.inr (.inl S6)) i]at e;cases e;exact⟨m,p,λaR l=>mn (q aR l) (.inr (.inl S6)) i⟩
  |defer hd=>rw[mn j (.inr (.inr ⟨_,S6⟩)) i]at e;cases e;exact⟨m,p,λaR l=>mn (q aR l) (.inr (.inr ⟨_,S6⟩)) i⟩
  |enter f F M=>rw[vR j i]at e;cases e;exact⟨m,p,λaR l=>vR (q aR l) i⟩
  |round r f F c d y=>rw[vT j i]at e;cases e;exact⟨m,p,λaR l=>vT (q aR l) i⟩
 .rw[j]at r
  let⟨m,p,q⟩:=r (by rintro h w he;cases he;exact id);rw[vS j i]at e;cases e;exact⟨m,p,λaR l=>vS (q aR l) i⟩
 .let⟨o,U,u,he⟩:=CE (fr:=fr) (cs:=C) j y i
  rw[he]at e;cases e
def Lt(F:Fit Q ρ)(m:dA ρ w w')(g:cN K ρ fr bo)(main:Ta)(d:TI Code)(i:∀c,d=some c->codeOk Q true c=true):dW (λw=>mB Q main fr C w d) w:=by
 obtain⟨fn,tmps,todo,defers,mode,Tl,ro⟩:=fr;obtain⟨o,u,y,n,q,p,r⟩:=bo;have f:=g.round;dsimp only at f;unfold mB;cases f with
 |none=>
  dsimp only;rcases d with _|c
  .exact dW.go _ _ _
  .cases c<;>first|exact dW.go _ _ _|exact .ended ⟨_,_,_,S6⟩
 |@some l aN j=>
  refine dW.run (FK (Q:=Q) (P:=P) j d (λc e=>by rw[F.cW];exact i c e)) m (λx=>GStep.after (seen Q fn x.2) (match x.1 with
   |.ok v w=>doReturn Q main ⟨fn,tmps,todo,defers,mode,Tl,some l⟩ C none v w
   |.halt _ w=>.ended (.stuck "range over a function: no such loop" (Frame.pos Q ⟨fn,tmps,todo,defers,mode,Tl,some l⟩)) w)) ?_ ?_ ?_
  .intro a aG ba _
   exact dW.after _ (dW.doReturn _ _ _ _ _ _)
  .intro v aG ba _
   exact .ended ⟨_,_,_,S6⟩
  .intro h aG ba _ _
   exact⟨_,_,_,S6⟩
def MS(S:Same Q P)(F:Fit Q ρ)(g:ρ.room=true)(H:fe (fj K) Q P)(i:dA ρ w w')(d:cN K ρ fr bo)(h:fr.oper?=some o)(f:o6 Q o.op=true)(hd:fr.roundOf=none\/∀c,o.op≠.defer c):dW (λw=>stepG.oper Q true fr C none w) w:=by
 have e:(λw=>stepG.oper Q true fr C none w)=λw=>stepG.apply Q true fr C none (execOp fr.eval o) w:=funext λw=>rf h hd
 rw[e];exact yG (FN S F.fits H o (.inl g) f (λx j=>tY F d.tmps x j) (λv=>⟨S6,S6⟩) λ_=>⟨S6,S6⟩) i d.early.1 d.uE.1
def Ko(S:Same Q P)(F:Fit Q ρ)(aq:ρ.room=true)(H:fe (fj K) Q P)(p:dA ρ w w')(m:cN K ρ fr bo)(T:fr.mode=.run)(ax:Plain K fr bo)(main:Ta)(st:GoStatus)(off:TI (Tv CommCase×CommShape)):dW (λw=>stepG Q main ⟨fr,C,st,none,off⟩ w) w:=by
 let⟨J,y,L,ae,M,R,af,u,ag,ah⟩:=m;obtain⟨fn,tmps,todo,defers,mode,Tl,roundOf⟩:=fr;obtain⟨av,Y,aC,I,aB,az,G⟩:=bo;dsimp only at J y L ae M R af u ag ah T;subst J;subst R;subst T;cases M;have B:∀(q:TI Code),(∀c,q=some c->codeOk Q true c=true)->dW (λw=>mB Q main ⟨fn,tmps,todo,defers,.run,Tl,roundOf⟩ C w q) w:=
  λq ao=>Lt F p m main q ao
 cases L with
 |nil=>simp only[step_end];exact B none aF
 |@cons i ay k X am aw=>
  cases am with
  |inBlock id=>exact dW.go _ _ _
  |inLoop h=>exact dW.go _ _ _
  |inScope h=>exact dW.go _ _ _
  |inRangeFunc h=>exact .ended ⟨_,_,_,S6⟩
  |@endRangeFunc l aN h=>
   refine dW.run (FJ (Q:=Q) (P:=P) S h) p (λx=>GStep.after (seen Q fn x.2) (match x.1 with
    |.ok q w=>.go (Tk ⟨fn,tmps,(q.map Item.code).toList++k,defers,.run,Tl,roundOf⟩ C) w
    |.halt (.panic v) w=>.go (Tk (Frame.raise ⟨fn,tmps,.endRangeFunc l::k,defers,.run,Tl,roundOf⟩ [{v,recovered:=false}]) C) w
    |.halt _ w=>.ended (.stuck "range over a function: no such loop" (Frame.pos Q ⟨fn,tmps,.endRangeFunc l::k,defers,.run,Tl,roundOf⟩)) w)) ?_ ?_ ?_
   .intro a aG ba _
    exact dW.after _ (dW.go _ _ _)
   .intro v aG ba _
    exact dW.after _ (dW.go _ _ _)
   .intro h aG ba _ n
    cases h<;>first|exact n.elim|exact⟨_,_,_,S6⟩
  |beginRound=>
   refine yG (l:=false) (P:=P) (ρ:=ρ) (w':=w') (aX:=do G.elim (stuck "beginRound: no round") Instr.beginRound;pure .skip) ?_ p m.early.1 m.uE.1;cases u with
   |none=>exact a2.stuck
   |some z=>exact A1 (FH S z)
  |@inRegion ops l h=>
   cases l with
   |nil=>exact dW.go _ _ _
   |cons i Tp=>
    simp only[rA];split
    .rename_i W
     rcases E:ops[i]? with _|o
     .rw[E]at W;cases W
     let⟨q1,au⟩:=Et h E;exact MS S F aq H p m (o:=o) (by simp[Frame.oper?,E]) q1 (by
      cases u with
      |none=>exact .inl S6
      |some _=>exact .inr (au S6))
    .exact dW.go _ _ _
  |@code c bp h=>
   cases c with
   |skip=>exact dW.go _ _ _
   |label l=>exact dW.go _ _ _
   |refuse aD=>exact .ended ⟨_,_,_,S6⟩
   |ret=>simp only[step_ret];exact B _ (by rintro c e;cases e;rfl)
   |exit id=>
    simp only[step_exit];cases exitTo id k with
    |none=>exact B (some (.exit id)) (by rintro c e;cases e;rfl)
    |some e=>exact dW.go _ _ _
   |goto id=>
    simp only[step_goto];cases gotoIn id k with
    |none=>exact B (some (.goto id)) (by rintro c e;cases e;rfl)
    |some e=>exact dW.go _ _ _
   |seq a b=>exact dW.go _ _ _
   |cond x a b=>
    simp only[stepG,stepG.exec];split
    .exact dW.go _ _ _
    .exact .ended ⟨_,_,_,S6⟩
   |block id a=>exact dW.go _ _ _
   |loop a=>exact dW.go _ _ _
   |scope a=>exact dW.go _ _ _
   |region id ops d=>
    simp only[A4];cases d with
    |false=>exact dW.go _ _ _
    |true=>
     simp only[Bool.not_true,Uf,if_false];intro g aE gs e;cases e;refine⟨S6,Nat.le_succ _,λaR ar=>?_⟩;have:aR w.drawn=w.tape w.drawn:=ar _ bg (Nat.lt_succ_self _);show GStep.go (Tk ⟨fn,tmps,.inRegion ops (Region.schedule (Q.follows .mixedOrders) ops (aR w.drawn (.order fn id)))::k,defers,.run,Tl,roundOf⟩ C) (dM {w with drawn:=w.drawn+1} aR) #[]=_;rw[this]
   |rangeFunc f e9 a b=>
    cases h with
    |same h=>
    simp only[codeOk,TS]at h;have n:ρ.cW a/\ρ.cW b:=by rw[F.cW];exact h.2
    have al:=tY F (fr:=⟨fn,tmps,.code (.rangeFunc f e9 a b)::k,defers,.run,Tl,roundOf⟩) (bo:=⟨fn,Y,.code (.rangeFunc f e9 a b)::X,I,.run,Tl,G⟩) y f h.1;refine dW.run (AV (Q:=Q) (P:=P) fn y e9 a b n u) p (λx=>GStep.after (seen Q fn x.2) (match x.1 with
     |.ok (l,mark) w=>stepG.apply Q true ⟨fn,tmps,.inRangeFunc l::k,mark++defers,.run,Tl,roundOf⟩ C none (do let d <-resolve (Frame.eval ⟨fn,tmps,.inRangeFunc l::k,mark++defers,.run,Tl,roundOf⟩) {callee:=.value f,args:=#[.const (.func (.yield l) #[] #[])],argTypes:=#[]} 0;invoke d.target d.args) w
     |.halt _ w=>.ended (.stuck "range over a function: no such loop" (Frame.pos Q ⟨fn,tmps,.code (.rangeFunc f e9 a b)::k,defers,.run,Tl,roundOf⟩)) w)) ?_ ?_ ?_
    .rintro⟨l,mark⟩ aG ba D
     dsimp only;refine dW.after _ ?_;rcases pb (AV (Q:=Q) (P:=P) fn y e9 a b n u) p with⟨v,Z,aG,bJ,ai,ba,ad,j,aa,he,V,U,ak⟩|⟨v,Z,aG,bJ,ai,ba,ad,j,aa,he,V,U,ak⟩|⟨x,aG,ba,j,n⟩
     .rw[D]at j
      cases j;obtain⟨aN,aA⟩:=Z;obtain⟨z,ap⟩:=U;dsimp only at z ap;refine yG (l:=false) (P:=P) (ρ:=ai) (w':=bJ) (aX:=do let d <-resolve (Frame.eval ⟨fn,Y,.code (.rangeFunc f e9 a b)::X,I,.run,Tl,G⟩) {callee:=.value f,args:=#[.const (.func (.yield aN) #[] #[])],argTypes:=#[]} 0;invoke d.target d.args) ?_ V m.early.1 ?_
      .have aj:bQ ai #[Value.func (.yield l) #[] #[]] #[Value.func (.yield aN) #[] #[]]:=om (.func (.yield z) S6 aF S6 aF)
       simp only[resolve,List.map_toArray,List.map_cons,List.map_nil];exact AU S (F.mono he.le).fits H (al.mono he.le) aj
      .intro d b r s k e
       cases e
     .rw[D]at j;cases j
     .rw[D]at j;cases j
    .intro v aG ba _
     exact .ended ⟨_,_,_,S6⟩
    .intro h aG ba _ n
     exact⟨_,_,_,S6⟩
def RL(S:Same Q P)(F:Fit Q ρ)(H:fe (fj K) Q P)(g:dA ρ w w')(f:cN K ρ fr bo)(B:fr.mode≠.run)(hC:C≠[])(main:Ta):dW (λw=>unwind Q main fr C none w) w:=by
 have j:=f.defers;obtain⟨fn,tmps,todo,defers,mode,Tl,ro⟩:=fr;obtain⟨L,aa,ad,I,W,V,Z⟩:=bo;dsimp only at j;cases j with
 |@cons d q i J hd U=>
  obtain⟨t,a⟩:=d;obtain⟨bh,G⟩:=q;have m:=hd.target;dsimp only at m;cases m with
  |@collected r Y y=>
   refine dW.run (F8 (Q:=Q) (P:=P) y) g (λx=>GStep.after (seen Q fn x.2) (match x.1 with
    |.ok n w=>.go (Tk ⟨fn,tmps,todo,n++i,mode,Tl,ro⟩ C) w
    |.halt _ w=>.ended (.stuck "the deferred calls of a range-over-func loop have been taken" (Frame.pos Q ⟨fn,tmps,todo,{target:=.collected r,args:=a}::i,mode,Tl,ro⟩)) w)) ?_ ?_ ?_
   .intro v aG ba _
    exact dW.after _ (dW.go _ _ _)
   .intro v aG ba _
    exact .ended ⟨_,_,_,S6⟩
   .intro h aG ba _ u
    exact⟨_,_,_,S6⟩
  |nil=>exact B9 S H g hd
  |fn R T=>exact B9 S H g hd
 |nil=>
  have l:=f.mode;dsimp only at l;cases l with
  |run=>exact Td S6 B
  |panicking hp=>
   have D:=f.uE;have o:∀(p:To) (fr:TB),qD fr->fr.catches p=false:=by
    intro p fr h;unfold Frame.catches;split
    .rename_i e
     exact Td e (h _ _ _ _ _)
    .rfl
   rcases C with _|⟨c,C⟩
   .exact Td S6 hC
   simp only[unwind,o _ _ D.1];exact dW.go _ _ _
  |returning=>
   have z:=f.ret S6;let⟨M,im,q1,X,E⟩:=f.known z;simp only[unwind,q1];refine dW.run (AZ (ρ:=ρ) S E f.tmps) g (λx=>GStep.after (seen Q fn x.2) (match x.1 with
    |.ok v w=>doReturn Q main ⟨fn,tmps,todo,[],.returning,Tl,ro⟩ C none v w
    |.halt (.stuck s) w=>.ended (.stuck s (Frame.pos Q ⟨fn,tmps,todo,[],.returning,Tl,ro⟩)) w
    |.halt _ w=>.ended (.stuck "return: the result variables cannot be read" (Frame.pos Q ⟨fn,tmps,todo,[],.returning,Tl,ro⟩)) w)) ?_ ?_ ?_
   .intro v aG ba _
    exact dW.after _ (dW.doReturn _ _ _ _ _ _)
   .intro v aG ba _
    exact .ended ⟨_,_,_,S6⟩
   .intro h aG ba _ u
    cases h<;>exact⟨_,_,_,S6⟩
def Qy(S:Same Q P)(F:Fit Q ρ)(f:ρ.room=true)(H:fe (fj K) Q P)(d:dA ρ w w')(c:cN K ρ fr bo)(hC:C≠[])(g:fr.mode=.run->Plain K fr bo)(main:Ta)(st:GoStatus)(off:TI (Tv CommCase×CommShape)):dW (λw=>stepG Q main ⟨fr,C,st,none,off⟩ w) w:=by
 by_cases h:fr.mode=.run
 .exact Ko S F f H d c h (g h) main st off
 .have i:(λw=>stepG Q main ⟨fr,C,st,none,off⟩ w)=λw=>unwind Q main fr C none w:=by
   obtain⟨fn,tmps,todo,defers,mode,Tl,ro⟩:=fr;cases mode with
   |run=>exact Td S6 h
   |_=>rfl
  rw[i];exact RL S F H d c h hC main
end
end
section
variable{Q:To}{R:S9->S7->Prop}{f0:Tw}
def wall:TB:={fn:=0,tmps:=#[],todo:=[],defers:=[{target:=.nil,args:=#[]}],mode:=.panicking [],kind:=.normal}
structure dt where
 fr:TB
 cs:Tz
 w:S7
def dt.iF(V:dt)(aR:Tape):dt:={V with w:=dM V.w aR}
abbrev dt.g(V:dt):TC:=(Tk V.fr (V.cs++[wall]))
abbrev dt.m(V:dt):TU:=lone V.fr (V.cs++[wall]) V.w
def dt.stop(V:dt):Prop:=V.cs = []/\V.fr.mode=.returning/\V.fr.defers = []
structure lB(Q:To)(b4 V:dt):Prop where
 stay:¬V.stop
 sS:∀k,k<V.w.drawn->b4.w.tape k=V.w.tape k
 mono:V.w.drawn<=b4.w.drawn
 step:∃es,∀aR,tG aR b4.w.tape V.w.drawn b4.w.drawn->stepG Q true V.g (dM V.w aR)=.go b4.g (dM b4.w aR) es
def e3(Q:To)(f0:Tw)(R:S9->S7->Prop)(V:dt):Prop:=
 ∀aR:Tape,(∀k,k<V.w.drawn->aR k=V.w.tape k)->∃v w' bo,R v w'/\Steps Q (V.iF aR).m (lone bo [wall] w')/\bo.leaving Q w' (.returned v)/\bo.fn=f0
def p0{a b:TB}{c:Tz}{u:S7}(h:lone a cs w=lone b c u):a=b/\cs=c/\w=u:=by
 unfold lone at h;injection h with d f m
 injection f with g
 injection g with i _
 injection i with j l
 exact⟨j,l,d⟩
def Rg(V:dt):V.iF V.w.tape=V:=S6
def GY{c:TB}(h:(∃v,c=wall.finish v)\/(∃d,c=wall.raise d)\/c=wall\/∃m,c={wall with mode:=m}/\wall.mode≠.panicking [])(w:S7):∃o w',step Q (lone c [] w)=.ended o w':=by
 have key:∀ch,∃o w',step Q (lone {wall with mode:=.panicking ch} [] w)=.ended o w':=λch=>
  ⟨_,_,step_lone_ended (o:=.unsupported (.noEntry "machine/Return: a deferred call of a nil function value, made while the frame is unwinding") (Frame.pos Q {wall with mode:=.panicking ch,defers:=[]})) (w':=w) (by simp only[stepG,wall,unwind,callDeferred];rfl)⟩
 rcases h with⟨v,rfl⟩|⟨d,rfl⟩|rfl|⟨m,rfl,hm⟩
 .exact key []
 .have:wall.raise d={wall with mode:=.panicking d}:=by simp[Frame.raise,wall]
  rw[this];exact key d
 .exact key []
 .exact Td S6 hm
def uX{V:dt}{g:TC}{fr:TB}(h:stepG Q true V.g V.w=.go g aG es)(c:g=(Tk fr cs)):step Q V.m=.next (lone fr cs aG):=by subst c;exact step_lone_go (by rw[h];rfl)
def e3.head{V:dt}(h:e3 Q f0 R V){aR:Tape}(q:∀k,k<V.w.drawn->aR k=V.w.tape k)(p:¬V.stop):∃d v w' bo,step Q (V.iF aR).m=.next d/\R v w'/\Steps Q d (lone bo [wall] w')/\bo.leaving Q w' (.returned v)/\bo.fn=f0:=by
 let⟨v,w',bo,m,⟨n,c⟩,f,l⟩:=h aR q;cases n with
 |zero=>
  simp only[runN]at c;injection c with c
  let⟨g,i,r⟩:=p0 c;refine Td ⟨?_,?_,?_⟩ p
  .have j:V.cs++[wall] = [wall]:=i
   have:=congrArg List.length j;simpa using this
  .have:V.fr=bo:=g
   rw[this];exact f.1
  .have:V.fr=bo:=g
   rw[this];exact f.2.1
 |succ n=>
  simp only[runN]at c;rcases e:step Q (V.iF aR).m with d|⟨o,aG⟩
  .rw[e]at c
   exact⟨d,v,w',bo,S6,m,⟨n,c⟩,f,l⟩
  .rw[e]at c;cases c
def e3.in{V:dt}(h:e3 Q f0 R V){aR:Tape}(p:∀k,k<V.w.drawn->aR k=V.w.tape k)(l:¬V.stop){c c₁:TB}(e:stepG Q true V.g (dM V.w aR)=.go (Tk c₁ cs) aG es)(i:[wall]=c::cs)(j:(∃v,c₁=c.finish v)\/(∃q,c₁=c.raise q)\/c₁=c\/∃m,c₁={c with mode:=m}/\c.mode≠.panicking []):False:=by
 obtain⟨rfl,rfl⟩:c=wall/\cs = []:=by cases i;exact⟨S6,S6⟩
 let⟨y,v,w',bo,g,w,⟨n,d⟩,u,r⟩:=h.head p l;have f:step Q (V.iF aR).m=.next (lone c₁ [] aG):=uX (V:=V.iF aR) e S6;rw[g]at f;cases f;cases n with
 |zero=>
  simp only[runN]at d;injection d with d
  let⟨_,f,_⟩:=p0 d;cases f
 |succ n=>
  let⟨o,z,e⟩:=GY (Q:=Q) j aG;simp only[runN,e]at d;cases d
def e3.live{V:dt}(h:e3 Q f0 R V){aR:Tape}(g:∀k,k<V.w.drawn->aR k=V.w.tape k)(f:¬V.stop){o:T0}(e:stepG Q true V.g (dM V.w aR)=.ended o aG es):False:=by
 let⟨i,v,w',bo,d,_⟩:=h.head g f;have c:step Q (V.iF aR).m=.ended o aG:=step_lone_ended (by show(stepG Q true V.g (dM V.w aR)).bare=_;rw[e];rfl)
 rw[d]at c;cases c
def e3.next{V b4:dt}(h:e3 Q f0 R V)(k:lB Q b4 V):e3 Q f0 R b4:=by
 intro aR f;let⟨es,o⟩:=k.step;have q:∀k,k<V.w.drawn->aR k=V.w.tape k:=λj d=>(f j (gu d k.mono)).trans (k.sS j d)
 let⟨r,v,w',bo,g,n,p,m,i⟩:=h.head q k.stay;have c:step Q (V.iF aR).m=.next (b4.iF aR).m:=uX (V:=V.iF aR) (o aR λj _ l=>f j l) S6;rw[g]at c;cases c;exact⟨v,w',bo,n,p,m,i⟩
def Gh{V:dt}(q:V.stop)(h:V.fr.roundOf=none)(aa:V.fr.kind=.normal\/V.fr.kind=.deferred)(g:Q.funcs[V.fr.fn]?=some fn)(n:Nat)(bo:TB)(cs':Tz)(w':S7):runN Q (n+1) V.m≠.next (lone bo (cs'++[wall]) w'):=by
 intro d;obtain⟨fr,cs,w⟩:=V;obtain⟨s1,s2,i⟩:=q;dsimp only at s1 s2 i h aa g d;subst s1;obtain⟨c,tmps,todo,defers,mode,Tl,ro⟩:=fr;dsimp only at s2 i h aa g;subst s2;subst i;subst h;have e:stepG Q true (dt.g ⟨⟨c,tmps,todo,[],.returning,Tl,none⟩,[],w⟩) w=GStep.after (seen Q c ((results fn tmps).runT Q w #[]).2) (match ((results fn tmps).runT Q w #[]).1 with
  |.ok v w=>doReturn Q true ⟨c,tmps,todo,[],.returning,Tl,none⟩ [wall] none v w
  |.halt (.stuck s) w=>.ended (.stuck s (Frame.pos Q ⟨c,tmps,todo,[],.returning,Tl,none⟩)) w
  |.halt _ w=>.ended (.stuck "return: the result variables cannot be read" (Frame.pos Q ⟨c,tmps,todo,[],.returning,Tl,none⟩)) w):=by
  simp only[stepG,unwind,g];rfl
 have bZ:∀{o:T0} {aG:S7} {es:TE},stepG Q true (dt.g ⟨⟨c,tmps,todo,[],.returning,Tl,none⟩,[],w⟩) w=.ended o aG es->False:=by
  intro o aG es e;have f:step Q (dt.m ⟨⟨c,tmps,todo,[],.returning,Tl,none⟩,[],w⟩)=.ended o aG:=step_lone_ended (by show(stepG Q true (dt.g ⟨⟨c,tmps,todo,[],.returning,Tl,none⟩,[],w⟩) w).bare=_;rw[e];rfl)
  simp only[runN,f]at d;cases d
 have l:∀{c₁:TB} {aG:S7} {es:TE},stepG Q true (dt.g ⟨⟨c,tmps,todo,[],.returning,Tl,none⟩,[],w⟩) w=.go (Tk c₁ []) aG es->
  ((∃v,c₁=wall.finish v)\/(∃r,c₁=wall.raise r)\/c₁=wall\/∃m,c₁={wall with mode:=m}/\wall.mode≠.panicking [])->False:=by
  intro c₁ aG es e p;have f:step Q (dt.m ⟨⟨c,tmps,todo,[],.returning,Tl,none⟩,[],w⟩)=.next (lone c₁ [] aG):=uX e S6;simp only[runN,f]at d;cases n with
  |zero=>
   simp only[runN]at d;injection d with d
   let⟨_,f,_⟩:=p0 d;have:=congrArg List.length f;simp at this
  |succ n=>
   let⟨o,u,e⟩:=GY (Q:=Q) p aG;simp only[runN,e]at d;cases d
 rcases j:(results fn tmps).runT Q w #[]with⟨⟨v,aG⟩|⟨x,aG⟩,es⟩
 .rw[j]at e
  rcases aa with aa|aa
  .subst aa
   exact l (c₁:=wall.finish v) (by rw[e];rfl) (.inl ⟨v,S6⟩)
  .subst aa
   exact l (c₁:=wall) (by rw[e];rfl) (.inr (.inr (.inl S6)))
 .rw[j]at e
  cases x<;>exact bZ e
def e3.stopped{V:dt}(h:e3 Q f0 R V)(p:V.stop)(o:V.fr.roundOf=none)(j:V.fr.kind=.normal\/V.fr.kind=.deferred)(i:Q.funcs[V.fr.fn]?=some fn):
 ∃v,R v V.w/\V.fr.leaving Q V.w (.returned v)/\V.fr.fn=f0:=by
 let⟨v,w',bo,m,⟨n,c⟩,l,g⟩:=h V.w.tape (λ_ _=>S6);rw[Rg]at c;cases n with
 |zero=>
  simp only[runN]at c;injection c with c
  let⟨d,q,f⟩:=p0 c;refine⟨v,?_,?_,?_⟩
  .rw[f];exact m
  .rw[d,f];exact l
  .rw[d];exact g
 |succ n=>exact Td c (Gh p o j i n bo [] w')
def e3.acc{V:dt}(h:e3 Q f0 R V):Acc (lB Q) V:=by
 refine Uh λF=>?_
 have gM:∀V:dt,¬Acc (lB Q) V->∃b4,lB Q b4 V/\¬Acc (lB Q) b4:=by
  intro V C;refine Uh λg=>C (Acc.intro _ λb4 D=>?_)
  exact Uh λq=>g ⟨b4,D,q⟩
 let S:={V:dt // ¬Acc (lB Q) V}
 let w:S->S:=λs=>⟨Classical.choose (gM s.1 s.2),(Classical.choose_spec (gM s.1 s.2)).2⟩
 have G:∀s:S,lB Q (w s).1 s.1:=λs=>(Classical.choose_spec (gM s.1 s.2)).1
 let c:Nat->S:=λn=>Nat.rec ⟨V,F⟩ (λ_ s=>w s) n
 have I:(c 0).1=V:=S6;have r:∀n,lB Q (c (n+1)).1 (c n).1:=λn=>G (c n)
 have keep:∀n d k,k<(c n).1.w.drawn->(c (n+d)).1.w.tape k=(c n).1.w.tape k/\(c n).1.w.drawn<=(c (n+d)).1.w.drawn:=by
  intro n d k f;induction d with
  |zero=>exact⟨S6,bg⟩
  |succ d i=>
   have q:=r (n+d);exact⟨(q.sS k (gu f i.2)).trans i.1,cL i.2 q.mono⟩
 have same:∀n m k,k<(c n).1.w.drawn->k<(c m).1.w.drawn->(c n).1.w.tape k=(c m).1.w.tape k:=by
  intro n m k g hm;rcases Nat.le_total n m with aj|aj
  .obtain⟨d,rfl⟩:=Nat.exists_eq_add_of_le aj
   exact(keep n d k g).1.symm
  .obtain⟨d,rfl⟩:=Nat.exists_eq_add_of_le aj
   exact(keep m d k hm).1
 let aR:Tape:=λk=>(c (Classical.epsilon λn=>k<(c n).1.w.drawn)).1.w.tape k
 have u:∀n k,k<(c n).1.w.drawn->aR k=(c n).1.w.tape k:=by
  intro n k f;have y:∃n,k<(c n).1.w.drawn:=⟨n,f⟩
  exact same _ _ k (Classical.epsilon_spec (p:=λn=>k<(c n).1.w.drawn) y) f
 have run:∀n,runN Q n ((c 0).1.iF aR).m=.next ((c n).1.iF aR).m:=by
  intro n;induction n with
  |zero=>rfl
  |succ n i=>
   let⟨es,H⟩:=(r n).step;have l:step Q ((c n).1.iF aR).m=.next ((c (n+1)).1.iF aR).m:=uX (V:=(c n).1.iF aR) (H aR λj _ E=>u (n+1) j E) S6;rw[runN_add,i];simp only[runN,l]
 let⟨v,w',bo,_,⟨n,g⟩,aj,_⟩:=h aR λk f=>u 0 k f
 have o:=run n;rw[I,g]at o;injection o with o
 let⟨l,z,J⟩:=p0 o;refine(r n).stay ⟨?_,?_,?_⟩
 .have B:[wall]=(c n).1.cs++[wall]:=z
  have:=congrArg List.length B;simpa using this
 .have:bo=(c n).1.fr:=l
  rw[<-this];exact aj.1
 .have:bo=(c n).1.fr:=l
  rw[<-this];exact aj.2.1
def e3.z8{f:Tw}{args:Te}(h:∀aR:Tape,(∀k,k<w.drawn->aR k=w.tape k)->Calls Q f args (dM w aR) λe w'=>∃v,e=.returned v/\R v w'):e3 Q f R ⟨Frame.enter Q f args .normal,[],w⟩:=by intro aR j;obtain⟨e,w',bo,⟨v,rfl,g⟩,i,c,d⟩:=h aR j [wall];exact⟨v,w',bo,g,i,d,c⟩
end
section
variable{Q P:To}{R:S9->S7->Prop}{f0:Tw}{K:g8 Q P}{ρ ai:Ren}
def jv(Q:To):g8 Q Q:=⟨λ_ _ _=>False,λ_=>False⟩
structure Self(Q:To)(V:dt):Prop where
 ex:∃ai:Ren,Fit Q ai/\ai.room=true/\cN (jv Q) ai V.fr V.fr/\cK (cN (jv Q) ai) V.cs V.cs/\dA ai V.w V.w
def dA.Oa{aR:Tape}(h:dA ρ w w')(c:w=w'):dA ρ (dM w aR) (dM w' aR):=by subst c;exact⟨h.obj,λ_ _=>S6,h.lim,h.js⟩
def e3.iF{V:dt}(h:e3 Q f0 R V){aR:Tape}(f:∀k,k<V.w.drawn->aR k=V.w.tape k):e3 Q f0 R (V.iF aR):=λai d=>h ai λk c=>(d k c).trans (f k c)
def EO{fr bo:TB}:Plain (jv Q) fr bo:=λ_ _ _ _ _ _ _ _ h=>h
def rm{V:dt}{c:T6}(h:V.fr.todo = [.code (.refuse c)])(hm:V.fr.mode=.run)(w:S7):∃o w' es,stepG Q true V.g w=.ended o w' es:=by obtain⟨⟨fn,tmps,todo,defers,mode,Tl,ro⟩,cs,aL⟩:=V;dsimp only at h hm;subst h;subst hm;exact⟨_,_,_,S6⟩
def p8{V:dt}(h:V.fr.mode=.run):¬V.stop:=λk=>by rw[k.2.1]at h;cases h
def Self.known{V:dt}(h:Self Q V)(g:V.stop):V.fr.roundOf=none/\(V.fr.kind=.normal\/V.fr.kind=.deferred)/\∃fn,Q.funcs[V.fr.fn]?=some fn:=by obtain⟨ai,_,_,c,_⟩:=h;have d:=c.ret g.2.1;let⟨f,im,q1,_⟩:=c.known d;exact⟨d,c.kindOk,f,q1⟩
def Same.refl(Q:To):Same Q Q:=⟨S6⟩
def x4{fr bo:TB}(h:oB (jv Q) ai fr bo):cN (jv Q) ai fr bo\/∃c,fr.todo = [.code (.refuse c)]/\fr.mode=.run:=by
 cases h with
 |plain h=>exact .inl h
 |refused c h hm=>exact .inr ⟨c,h,hm⟩
 |sh h=>exact h.elim
def Fw(ek:fe (fj (jv Q)) Q Q){V:dt}(l:e3 Q f0 R V)(J:Self Q V)(n:¬V.stop){aR:Tape}(q:∀k,k<V.w.drawn->aR k=V.w.tape k):
 ∃b4 es,lB Q b4 V/\Self Q b4/\e3 Q f0 R b4/\b4.w.tape=aR/\stepG Q true V.g (dM V.w aR)=.go b4.g b4.w es:=by
 obtain⟨ai,F,m,z,L,i⟩:=J;have i:=i.Oa (aR:=aR) S6;have w:=Gg (dS:=[wall]) (Tc:=[wall]) (Same.refl Q) F m ek i z L aF (λ_=>EO) true true .running .running none none;have loc:=Qy (C:=V.cs++[wall]) (Same.refl Q) F m ek i z aF (λ_=>EO) true .running none;generalize e:stepG Q true (Tk V.fr (V.cs++[wall])) (dM V.w aR)=r at w;cases r with
 |go g aG es=>
  let⟨u,W,X⟩:=loc g aG es e;rcases w with⟨Y,cs,bo,cs',bJ,fg,d,f,he,p,⟨T,ae⟩,P,ad⟩|⟨c,c₁,K,f,M⟩
  .injection d with d j I
   subst j;subst I;have G:cs=cs':=by have:=congrArg Goroutine.callers d;rw[f]at this;exact List.append_cancel_right this
   have H:g.frame=bo:=congrArg Goroutine.frame d;subst G;subst H;have B:g=dt.g ⟨g.frame,cs,aG⟩:=f;have D:lB Q ⟨g.frame,cs,aG⟩ V:=⟨n,λk S=>by
    show aG.tape k=_;rw[u];exact q k S,W,es,λZ U=>by
    rw[<-B];exact X Z λk d j=>by have:=U k d j;dsimp only at this;rw[this,u]⟩
   have y:=l.next D;refine⟨⟨g.frame,cs,aG⟩,es,D,?_,y,u,?_⟩
   .rcases x4 T with h|⟨af,h,hm⟩
    .exact⟨Y,F.mono he.le,he.le.room.trans m,h,P,p.obj,λ_ _=>S6,p.lim,p.js⟩
    .let⟨o,w2,aa,E⟩:=rm (Q:=Q) (V:=⟨g.frame,cs,aG⟩) h hm aG
     exact(y.live (aR:=aG.tape) (λ_ _=>S6) (p8 hm) E).elim
   .rw[<-B]
  .exact(l.in q n (c:=c) (c₁:=c₁) (cs:=g.callers) (aG:=aG) (es:=es) (by rw[<-f];exact e) K M).elim
 |ended o aG es=>exact(l.live q n e).elim
 |_=>exact w.elim
inductive dZ(Q:To):dt->dt->Prop
 |one {b4 V:dt} (h:lB Q b4 V):dZ Q b4 V
 |more {vy b4 V:dt} (h:lB Q b4 V) (k:dZ Q vy b4):dZ Q vy V
def dZ.acc{V:dt}(h:Acc (lB Q) V):Acc (dZ Q) V:=by
 induction h with
 |intro V _ c=>
  refine Acc.intro _ λb4 d=>?_
  cases d with
  |one h=>exact c _ h
  |more h k=>exact(c _ h).inv k
def Fx(ek:fe (fj (jv Q)) Q Q){aR:Tape}{fr:TB}:∀(n:Nat) {V:dt},e3 Q f0 R V->Self Q V->V.w.tape=aR->runN Q n V.m=.next (lone fr (cs++[wall]) aG)->
 e3 Q f0 R ⟨fr,cs,aG⟩/\Self Q ⟨fr,cs,aG⟩/\aG.tape=aR/\(V=⟨fr,cs,aG⟩\/dZ Q ⟨fr,cs,aG⟩ V):=by
 intro n;induction n with
 |zero=>
  intro V h g d c;simp only[runN]at c;injection c with c
  let⟨j,f,l⟩:=p0 c;have f:=List.append_cancel_right f;obtain⟨bo,cs',w'⟩:=V;dsimp only at j f l d;subst j;subst f;subst l;exact⟨h,g,d,.inl S6⟩
 |succ n u=>
  intro V h g d c;by_cases i:V.stop
  .let⟨w,y,fn,z⟩:=g.known i
   exact Td c (Gh i w y z n fr cs aG)
  let⟨b4,es,m,q,p,r,he⟩:=Fw ek h g i (aR:=aR) (λk D=>by rw[d]);have o:step Q V.m=.next b4.m:=uX (by
   have:dM V.w aR=V.w:=by rw[<-d];rfl
   rw[this]at he;exact he) S6
  simp only[runN,o]at c;let⟨r1,B,C,r4⟩:=u p q r c;refine⟨r1,B,C,.inr ?_⟩;rcases r4 with rfl|r4
  .exact .one m
  .exact .more m r4
def hU(w w':S7):Tape:=λk=>if k<w.drawn then w.tape k else w'.tape (w'.drawn+(k-w.drawn))
def AO(k:Nat)(h:k<w.drawn):hU w w' k=w.tape k:=Tq h
def gm.yg(h:gm ρ w w'):dA ρ (dM w (hU w w')) w':=⟨h.obj,λn q=>by show hU w w' (w.drawn+n) q=_;unfold hU;rw[Tm U];congr 2;omega,h.lim,h.js⟩
structure m2(K:g8 Q P)(ρ:Ren)(V:dt)(bo:TB)(cs':Tz)(w':S7):Prop where
 fit:Fit Q ρ
 room:ρ.room=true
 fr:cN K ρ V.fr bo
 cs:cK (cN K ρ) V.cs cs'
 heap:gm ρ V.w w'
structure yl(K:g8 Q P)(ρ:Ren)(V:dt)(bo:TB)(cs':Tz)(w':S7):Prop where
 fit:Fit Q ρ
 room:ρ.room=true
 fr:∃f a b Tl,K.fn f/\(TG Tl)/\bQ ρ a b/\V.fr=Frame.enter Q f a Tl/\bo=Frame.enter P f b Tl/\∀n,eK Q f=some n->a.size=n
 some:V.cs≠[]
 cs:cK (cN K ρ) V.cs cs'
 heap:gm ρ V.w w'
def fc.GN{aR:Tape}(h:fc ρ (dM w aR) e):fc ρ w e:=by
 cases h with
 |cell h a b g i=>exact .cell h a b g i
 |obj h a g=>exact .obj h a g
 |mark h=>exact .mark h
def EE(S:Same Q P)(ek:fe (fj (jv Q)) Q Q)(H:fe (fj K) Q P){V:dt}{bo:TB}(u:e3 Q f0 R V)(M:Self Q V)(hp:m2 K ρ V bo cs' w')(z:¬V.stop)(aj:V.fr.mode=.run->Plain K V.fr bo)(C:Ta)(G:GoStatus)(D:TI (Tv CommCase×CommShape)):
 ∃b4 ai d g bJ fg,stepG P C ⟨bo,cs'++Tc,G,none,D⟩ w'=.go (Tk d (g++Tc)) bJ fg/\
  lB Q b4 V/\e3 Q f0 R b4/\Self Q b4/\Eff ρ ai (dM V.w (hU V.w w')) b4.w w' bJ/\(∀e∈fg,fc ai V.w e)/\(m2 K ai b4 d g bJ\/yl K ai b4 d g bJ):=by
 obtain⟨F,y,ae,Y,af⟩:=hp;let⟨b4,es,al,T,w,ao,he⟩:=Fw ek u M z (aR:=hU V.w w') AO;have E:=Gg (dS:=[wall]) (Tc:=Tc) S F y H af.yg ae Y aF aj true C .running G none D;have aa:stepG Q true (Tk V.fr (V.cs++[wall])) (dM V.w (hU V.w w'))=.go b4.g b4.w es:=he;rw[aa]at E;rcases E with⟨ai,cs,d,g,bJ,fg,L,m,j,q,⟨ak,ah⟩,l,ad⟩|⟨c,c₁,X,m,Z⟩
 .have J:b4.cs=cs:=by have:=congrArg Goroutine.callers m;exact List.append_cancel_right this
  subst J;refine⟨b4,ai,d,g,bJ,fg,L,al,w,T,j,λe h=>(ad e h).GN,?_⟩;have i:=F.mono j.le;have p:=j.le.room.trans y;have B:oB K ai b4.fr d:=ak;have hne':cN K ai b4.fr d\/b4.cs≠[]:=ah;rcases hne' with hp|hne'
  .exact .inl ⟨i,p,hp,l,q⟩
  generalize r:b4.fr=x at B;cases B with
  |plain h=>exact .inl ⟨i,p,by rw[r];exact h,l,q⟩
  |refused ap h hm=>
   rw[<-r]at h hm;let⟨o,w2,am,I⟩:=rm (Q:=Q) (V:=b4) h hm b4.w;exact(w.live (aR:=b4.w.tape) (λ_ _=>S6) (p8 hm) I).elim
  |@sh f a b Tl h ag U W=>exact .inr ⟨i,p,⟨f,a,b,Tl,h,ag,U,r,S6,λn e=>W n (by rw[i.fits.eb];exact e)⟩,hne',l,q⟩
 .exact(u.in AO z (c:=c) (c₁:=c₁) (cs:=b4.g.callers) (aG:=b4.w) (es:=es) (by rw[<-m];exact he) X Z).elim
def Aj(S:Same Q P){V:dt}{bo:TB}(H:e3 Q f0 R V)(J:Self Q V)(hp:m2 K ρ V bo cs' w')(o:V.stop)(C:Ta)(ah:GoStatus)(ae:TI (Tv CommCase×CommShape)):
 ∃v q ai bJ fg,R v (dM V.w (hU V.w w'))/\aQ ai v q/\cs' = []/\bo.kind=.normal/\bo.fn=f0/\
  stepG P C ⟨bo,cs'++Tc,ah,none,ae⟩ w'=GStep.after fg (doReturn P C bo Tc none q bJ)/\
  Eff ρ ai (dM V.w (hU V.w w')) (dM V.w (hU V.w w')) w' bJ/\dA ai (dM V.w (hU V.w w')) bJ/\(∀e∈fg,fc ai V.w e):=by
 let⟨X,Y,fn,Z⟩:=J.known o;let⟨v,I,U,L⟩:=(H.iF (aR:=hU V.w w') AO).stopped o X Y Z;obtain⟨F,am,d,u,M⟩:=hp;obtain⟨s1,s2,ag⟩:=o;have W:=d.ret s2;let⟨f,im,q1,D,af⟩:=d.known W;obtain⟨ap,aq,aa,G,ad,p⟩:=U;have B:Q.funcs[V.fr.fn]?=some G:=ad;rw[q1]at B;cases B;rw[s1]at u;cases u;have j:=d.fn;have m:=d.defers;have n:=d.mode;rw[ag]at m;rw[s2]at n;have T:=d.kind;rcases pb (AZ S af d.tmps) M.yg with⟨a,E,aG,bJ,ai,ba,r,g,l,he,z,y,w⟩|⟨v,q,aG,bJ,ai,ba,r,g,l,he,z,y,w⟩|⟨x,aG,ba,g,al⟩
 .have c:(results f V.fr.tmps).run Q (dM V.w (hU V.w w'))=.ok a aG:=by rw[<-Sem.runT_fst Q _ _ #[],g]
  have i:(results f V.fr.tmps).run Q (dM V.w (hU V.w w'))=.ok v (dM V.w (hU V.w w')):=p;rw[i]at c;cases c;refine⟨v,E,ai,bJ,seen P bo.fn r,I,y,S6,by rw[<-T];exact aa,by rw[<-j];exact L,?_,he,z,λe h=>(w e (nv _ _ _ e h)).GN⟩;obtain⟨ak,av,aw,aj,ar,ao,au⟩:=bo;dsimp only at j m n l;cases m;cases n;rw[j]at D;simp only[stepG,unwind,D,l,List.nil_append]
 .have c:(results f V.fr.tmps).run Q (dM V.w (hU V.w w'))=.halt (.panic v) aG:=by rw[<-Sem.runT_fst Q _ _ #[],g]
  have i:(results f V.fr.tmps).run Q (dM V.w (hU V.w w'))=.ok _ (dM V.w (hU V.w w')):=p;rw[i]at c;cases c
 .have c:(results f V.fr.tmps).run Q (dM V.w (hU V.w w'))=.halt x aG:=by rw[<-Sem.runT_fst Q _ _ #[],g]
  have i:(results f V.fr.tmps).run Q (dM V.w (hU V.w w'))=.ok _ (dM V.w (hU V.w w')):=p;rw[i]at c;cases c
end
end Go.aO
