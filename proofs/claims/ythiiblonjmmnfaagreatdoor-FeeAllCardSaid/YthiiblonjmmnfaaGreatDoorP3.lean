/- Part 4 of a law on fees: no conditions. -/
import Derived.Test.YthiiblonjmmnfaaGreatDoorP2
set_option maxHeartbeats 8000000
set_option maxRecDepth 100000
set_option linter.all false
namespace Go.aN
section
section
variable{Q P:Program}{ρ:Ren}{Spec:FuncId->Func->Func->Prop}
def hR(Q:Program):Option Nat:=match Q.funcs[0]? with
 |some fn=>match fn.nfree with
  | 0=>none
  |k+1=>some k
 |none=>none
def pinned(Q:Program):Value->Bool
 |.pointer (some ⟨b,0,none⟩)=>hR Q == some b
 |_=>false
def dH(Q:Program):Operand->Bool
 |.tmp _=>true
 |.func f=>(dX Q f).isNone
 |.const v=>bare 64 v||pinned Q v
 |.global _=>false
def uP(Q:Program):Option Operand->Bool
 |none=>true
 |some x=>dH Q x
def vb(Q:Program)(t:TypeId):Bool:=match Q.underlying t with
 |some (.slice e)=>kt Q e
 |_=>true
def xB(Q:Program)(name:String):Bool:=(List.range Q.types.size).all λt=>match Q.types[t]? with
 |some i=>match i.methods.find? (·.name == name)with
  |none=>true
  |some m=>m.path.isEmpty && (match m.func with
   |none=>false
   |some (f,c)=>(dX Q f).isNone && (c||(match Q.underlying t with|some (.pointer _)=>false|_=>true)))
 |none=>true
def zy(Q:Program)(b:Builtin)(ei:Array TypeId):Bool:=match b with
 |.append=>v8 Q ei
 |.len |.max |.min=>true
 |_=>false
def wu(Q:Program)(c:Call):Bool:=c.args.all (dH Q) && match c.callee with
 |.builtin b=>zy Q b c.argTypes
 |.invoke r name=>dH Q r && xB Q name
 |.value f=>dH Q f||(match f with
  |.func g=>dX Q g == some c.args.size
  |_=>false)
def wH(Q:Program)(c:Call):Bool:=c.args.all (dH Q) && match c.callee with
 |.value f=>dH Q f && (!km Q||(match f with |.func _=>true|_=>false))
 |_=>false
def nk(Q:Program)(op:Op):Bool:=match op with
 |.move x |.assign x |.nilCheck x |.unOp _ _ x |.makeInterface _ x |.field _ x _ |.range _ x |.next x _ |.entry x |.extract x _ |.load _ x |.box _ x=>dH Q x
 |.pick c a b=>dH Q c && dH Q a && dH Q b
 |.alloc t=>kt Q t
 |.build t g=>kt Q t && g.all λx=>dH Q x.2
 |.buildSlice t _ g=>vb Q t && g.all λx=>dH Q x.2
 |.store _ a x=>dH Q a && dH Q x
 |.binOp op t x y _=>dH Q x && dH Q y && (match op with |.eql |.neq=>mg Q t x y|_=>true)
 |.convert s d x=>wF Q s d && dH Q x
 |.makeFunc (.func f) a b=>(dX Q f).isNone && (a.all (dH Q) && b.all (dH Q))
 |.makeMap _ none=>true
 |.makeSlice t l c=>vb Q t && dH Q l && dH Q c
 |.slice _ x b4 h j=>dH Q x && uP Q b4 && uP Q h && uP Q j
 |.fieldAddr t x k=>wX Q t k && dH Q x
 |.indexAddr _ x i |.index _ x i=>dH Q x && dH Q i
 |.lookup t m k _=>qF Q t && dH Q m && dH Q k
 |.mapUpdate t m k x |.insert t m k x=>qF Q t && dH Q m && dH Q k && dH Q x
 |.typeAssert x _ t true=>kt Q t && dH Q x
 |.call c=>wu Q c
 |.defer c=>wH Q c
 |_=>false
def IT{info:TypeId->Option TypeInfo}{d:TypeDesc}{i:TypeInfo}(h:Made.reckon info d=some i):i.methods=#[]:=by
 unfold Made.reckon at h;split at h;all_goals try simp only[bind,Option.bind_eq_some_iff,pure]at h
 all_goals repeat' first
  |(obtain⟨_,_,h⟩:=h)
  |(split at h)
 all_goals first
  |(cases h;rfl)
  |(cases h;done)
  |skip
 all_goals first
  |rfl
  |(simp only[Option.bind_eq_some_iff]at h;obtain⟨_,_,h⟩:=h;cases h;rfl)
  |skip
 unfold Made.reckonStruct at h;simp only[bind,Option.bind_eq_some_iff,pure]at h;obtain⟨a,_,h⟩:=h;split at h<;>(cases h;rfl)
def I3{name:String}(h:xB Q name=true):vS Q name:=by
 intro t i m p hm;by_cases j:t<Q.types.size
 .have e:Q.types[t]?=some i:=by have c:Q.toTables.info? t=some i:=p;unfold Tables.info? at c;rwa [if_pos j]at c
  unfold xB at h;rw[List.all_eq_true]at h;have:=h t (by simpa using j);rw[e]at this;dsimp only at this;rw[hm]at this;simp only[Bool.and_eq_true]at this;obtain⟨q,g⟩:=this;cases o:m.func with
  |none=>rw[o]at g;cases g
  |some x=>
   obtain⟨f,u⟩:=x;rw[o]at g;dsimp only at g;rw[Bool.and_eq_true]at g;refine⟨by simpa using q,rfl,λe he=>?_,λx r=>?_⟩
   .have l:=g.2
    rw[he]at l;simpa using l
   .cases r
    simpa using g.1
 .have c:Q.toTables.info? t=some i:=p
  unfold Tables.info? at c;rw[if_neg j]at c;unfold Made.depth at c;unfold Made.infoAt at c;rw[if_neg j]at c;simp only[Option.bind_eq_some_iff]at c;obtain⟨d,_,c⟩:=c;rw[IT c]at hm;simp at hm
def Mb(S:bK Q P)(F:Fits Q ρ)(H:ey Spec Q P)(name:String)(g:vS Q name){v w:Value}(h:aM ρ v w){a b:Array Value}(k:bE ρ a b):
 aW Q P gN (callMethod v name a) ρ (callMethod w name b):=by
 unfold callMethod;cases h with
 |nilIface=>exact iz S .nilDeref rfl
 |iface t h=>
  dsimp only;refine lo ?_;have e:Q.types.size=P.types.size:=by rw[show Q.types=P.types from congrArg Tables.types S.tables]
  rw[e];refine(ME S _ t name g h).aY ?_;rintro ai ⟨f,r⟩ ⟨i,j⟩ l ⟨e,d,c⟩;dsimp only at e d c;subst e;exact yv S H f (bE.append (nz d) (k.mono l)) λn e=>by rw[(F.mono l).dy,c]at e;cases e
 |_=>exact .stuck
def yA(S:bK Q P)(H:ey Spec Q P){t u:Target}(h:rK ρ t u){a b:Array Value}(k:bE ρ a b):aW Q P gN (invoke t a) ρ (invoke u b):=by
 unfold invoke;cases h with
 |nil=>exact iz S .nilDeref rfl
 |collected h=>exact .stuck
 |fn c d=>
  cases c with
  |func f c=>exact yv S H f (k.append d) λn e=>by rw[c]at e;cases e
  |yield g=>exact MU g k
def uZ(op:Op):Bool:=match op with
 |.makeSlice ..=>false
 |.call c=>match c.callee with
  |.builtin .append=>false
  |_=>true
 |_=>true
variable{bx g6:Operand->Value}
def vB(l:∀x,dH Q x=true->aM ρ (bx x) (g6 x)){a:Array Operand}(h:a.all (dH Q)=true):bE ρ (a.map bx) (a.map g6):=by refine⟨by simp,λi x y g j=>?_⟩;simp at g j;obtain⟨o,c,rfl⟩:=g;obtain⟨p,f,rfl⟩:=j;rw[c]at f;cases f;rw[Array.all_eq_true]at h;have d:=bp c;have:=h i d;rw[Pu d]at c;exact l o (by rw[<-Pm c];exact this)
def B1(l:∀x,dH Q x=true->aM ρ (bx x) (g6 x)){a:Array (Nat×Operand)}(h:(a.all λx=>dH Q x.2)=true):fa (λx y=>x.1=y.1/\aM ρ x.2 y.2) (a.map λ(i,x)=>(i,bx x)) (a.map λ(i,x)=>(i,g6 x)):=by refine⟨by simp,λi x y g j=>?_⟩;simp at g j;obtain⟨n,o,c,rfl⟩:=g;obtain⟨cM,p,f,rfl⟩:=j;rw[c]at f;cases f;rw[Array.all_eq_true]at h;have d:=bp c;have:=h i d;rw[Pu d]at c;refine⟨rfl,l o ?_⟩;rw[Pm c]at this;exact this
def xU(c:∀x,dH Q x=true->aM ρ (bx x) (g6 x)){x:Option Operand}(h:uP Q x=true):ez (aM ρ) (x.map bx) (x.map g6):=by
 cases x with
 |none=>exact .none
 |some x=>exact .some (c x h)
def gG{s a6:Sem Value}(h:aW Q P aM s ρ a6):aW Q P gN (do pure (.value (<-s))) ρ (do pure (.value (<-a6))):=h.aY λ_ _ _ _ c=>.ret (.value c)
def sP{s a6:Sem Unit}(h:aW Q P (dx λ_=>True) s ρ a6):aW Q P gN (do s;pure .skip) ρ (do a6;pure .skip):=h.aY λ_ _ _ _ _=>.ret .skip
def zr(c:km Q=true):Q.info? 1000000000=none:=by
 unfold km at c;split at c
 .rw[Bool.and_eq_true]at c
  exact Option.isNone_iff_eq_none.1 c.2
 .cases c
def dj.prog{α:Type}{k:Program->Sem α}(h:dj Q (k Q)):dj Q (program >>= k):=h
def Aa{α:Type}{t:TypeId}(h:Q.info? t=none)(k:TypeInfo->Sem α):dj Q (typeInfo t >>= k):=by refine dj.bind k ?_;show dj Q (program >>= λr=>match r.info? t with|some i=>pure i|none=>stuck "no such type");refine dj.prog ?_;rw[h];exact jH _
def Jf(h:Q.info? 1000000000=none):∀n,dj Q (nilAhead n 1000000000 .nilIface "" >>= λb=>if (b !=some false)=true then(do
 unsupported (.noEntry "op/nilCheck.the method's receiver behind this interface value is a nil pointer, or cannot be seen to be none, and the arguments act or may panic (ledger 612)")
 pure (Next.value rA))else pure (Next.value rA)):=by
 intro n;cases n with
 |zero=>exact λw=>⟨_,w,rfl,trivial,λes h=>h⟩
 |succ n=>exact dj.bind _ (Aa h _)
def E3(f:km Q=true)(a:Array Value):dj Q (do let d <-Deferred.ofValue rA a;invoke d.target d.args):=by
 show dj Q (invoke (.fn (.method "") #[]) (#[.iface 1000000000 .nilIface]++a));unfold invoke;have c:(#[Value.iface 1000000000 .nilIface]++a)[0]?=some (.iface 1000000000 .nilIface):=by rw[Array.getElem?_append_left (show 0<(#[Value.iface 1000000000 .nilIface]:Array Value).size from Nat.zero_lt_one)];rfl
 rw[c];dsimp only;unfold callMethod;dsimp only;refine dj.prog (dj.bind _ ?_);generalize (Q.types.size+Made.depth)=n;cases n with
 |zero=>exact λw=>⟨_,w,rfl,trivial,λes h=>h⟩
 |succ n=>exact Aa (zr f) _
def yw(S:bK Q P)(F:Fits Q ρ)(H:ey Spec Q P){v w:Value}(h:aM ρ v w){a b:Array Value}(k:bE ρ a b):aW Q P gN (do let d <-Deferred.ofValue v a;invoke d.target d.args) ρ (do let d <-Deferred.ofValue w b;invoke d.target d.args):=by
 by_cases c:v=rA
 .subst c
  refine aW.dF (E3 ?_ a);rw[<-F.dC];cases h with
  |func f=>cases f
  |jO g=>exact g
 .refine(C5 h c k).aY ?_
  intro ai d e l hd;exact yA S H hd.target hd.args
def MM(F:Fits Q ρ)(j:∀x,dH Q x=true->aM ρ (bx x) (g6 x))(z:∀g,bx (.func g)=.func (.func g) #[] #[]/\g6 (.func g)=.func (.func g) #[] #[])(c:Call)(t:TypeId)(h:wH Q c=true):aW Q P kP (resolve bx c t) ρ (resolve g6 c t):=by
 unfold wH at h;simp only[Bool.and_eq_true]at h;obtain⟨p,d⟩:=h;have q:=vB j p;unfold resolve;dsimp only;cases i:c.callee with
 |builtin b=>rw[i]at d;cases d
 |invoke r name=>rw[i]at d;cases d
 |value f=>
  rw[i]at d;simp only[Bool.and_eq_true]at d;refine C5 (j f d.1) (λe=>?_) q;have o:=j f d.1;rw[e]at o;have l:ρ.dC=true:=by
   generalize g6 f=w at o;cases o with
   |func u=>cases u
   |jO l=>exact l
  rcases Bool.or_eq_true_iff.1 d.2 with ax|ax
  .rw[<-F.dC,l]at ax
   cases ax
  .obtain⟨g,rfl⟩:∃g,f=.func g:=by cases f<;>first|exact⟨_,rfl⟩|cases ax
   rw[(z g).1]at e;cases e
def L'(S:bK Q P)(b:Builtin)(c:ρ.room=true\/(match b with |.append=>false|_=>true)=true)(ei:Array TypeId)(t:TypeId)(cs:Array Bool)(h:zy Q b ei=true){x y:Array Value}(k:bE ρ x y):aW Q P gN (builtin b ei t cs x) ρ (builtin b ei t cs y):=by
 cases b<;>first|cases h|skip
 .exact gG (L1 S (c.resolve_right (by simp)) ei t h k)
 .exact gG (Mr S ei t k)
 .exact gG (MC ei t k)
 .exact gG (MF ei t k)
def Ma(S:bK Q P)(F:Fits Q ρ)(H:ey Spec Q P)(p:∀x,dH Q x=true->aM ρ (bx x) (g6 x))(u:∀g,bx (.func g)=.func (.func g) #[] #[]/\g6 (.func g)=.func (.func g) #[] #[])(c:Call)(C:ρ.room=true\/uZ (.call c)=true)(t:TypeId)(h:wu Q c=true):
 aW Q P gN (do let d <-resolve bx c t;invoke d.target d.args) ρ (do let d <-resolve g6 c t;invoke d.target d.args):=by
 unfold wu at h;simp only[Bool.and_eq_true]at h;obtain⟨q,J⟩:=h;have j:=vB p q;unfold resolve;dsimp only;cases o:c.callee with
 |builtin b=>
  rw[o]at J;exact aW.aY (A:=λai x y=>ρ.le ai/\x={target:=.builtin b c.argTypes t (c.args.map λ|.const _=>true|_=>false),args:=c.args.map bx}/\y={target:=.builtin b c.argTypes t (c.args.map λ|.const _=>true|_=>false),args:=c.args.map g6}) (.ret ⟨Ren.le_refl _,rfl,rfl⟩)
   (by rintro ai _ _ l ⟨_,rfl,rfl⟩;exact L' S b (C.imp (λe=>l.room.trans e) λe=>by unfold uZ at e;dsimp only at e;rw[o]at e;cases b<;>first|rfl|cases e) _ t _ J (j.mono l))
 |invoke r name=>
  rw[o]at J;simp only[Bool.and_eq_true]at J;refine aW.aY (A:=λai x y=>ρ.le ai/\x={target:=.fn (.method name) #[],args:=#[bx r]++c.args.map bx}/\y={target:=.fn (.method name) #[],args:=#[g6 r]++c.args.map g6}) (.ret ⟨Ren.le_refl _,rfl,rfl⟩) ?_;rintro ai _ _ l ⟨_,rfl,rfl⟩;have key:∀(x:Value) (a:Array Value),invoke (.fn (.method name) #[]) (#[x]++a)=callMethod x name a:=by
   intro x a;unfold invoke;have w:(#[x]++a)[0]?=some x:=by rw[Array.getElem?_append_left (show 0<(#[x]:Array Value).size from Nat.zero_lt_one)];rfl
   have z:(#[x]++a).extract 1 (#[x]++a).size=a:=by
    have:(#[x]++a).size=a.size+1:=(Array.size_append (xs:=#[x]) (ys:=a)).trans (Nat.add_comm _ _);rw[this];apply Array.ext
    .simp
    .intro i q J
     simp
   rw[w];dsimp only;rw[z]
  show aW Q P gN (invoke (.fn (.method name) #[]) (#[bx r]++c.args.map bx)) ai (invoke (.fn (.method name) #[]) (#[g6 r]++c.args.map g6));rw[key,key];exact Mb S (F.mono l) H name (I3 J.2) ((p r J.1).mono l) (j.mono l)
 |value f=>
  rw[o]at J;rcases Bool.or_eq_true_iff.1 J with J|J
  .exact yw S F H (p f J) j
  .obtain⟨g,rfl⟩:∃g,f=.func g:=by cases f<;>first|cases J|exact⟨_,rfl⟩
   have B:dX Q g=some c.args.size:=by simpa using J
   dsimp only;rw[(u g).1,(u g).2];refine aW.aY (A:=λai x y=>ρ.le ai/\x={target:=.fn (.func g) #[],args:=#[]++c.args.map bx}/\y={target:=.fn (.func g) #[],args:=#[]++c.args.map g6}) (.ret ⟨Ren.le_refl _,rfl,rfl⟩) ?_;rintro ai _ _ l ⟨_,rfl,rfl⟩;have key:∀a:Array Value,invoke (.fn (.func g) #[]) (#[]++a)=callFunc g a:=by intro a;unfold invoke;simp
   dsimp only;rw[key,key];exact yv S H g (j.mono l) λn e=>by rw[(F.mono l).dy,B]at e;cases e;simp
def MI(S:bK Q P)(F:Fits Q ρ){v w:Value}(h:aM ρ v w):aW Q P gN (execOp (λ_=>v) {(default:Oper)with op:=.nilCheck (.tmp 0)}) ρ (execOp (λ_=>w) {(default:Oper)with op:=.nilCheck (.tmp 0)}):=by
 unfold execOp;dsimp only;cases h with
 |iL=>exact iz S .nilDeref rfl
 |nilIface=>exact iz S .nilDeref rfl
 |nilFunc=>exact iz S .nilDeref rfl
 |func o g i p q=>
  cases o with
  |func f o=>exact .ret (.value (.func (.func f o) g i p q))
  |yield u=>exact .ret (.value (.func (.yield u) g i p q))
 |bool b=>exact .ret (.value (.bool b))
 |int k n=>exact .ret (.value (.int k n))
 |string s=>exact .ret (.value (.string s))
 |ptr h=>exact .ret (.value (.ptr h))
 |jw l c=>exact .ret (.value (.jw l c))
 |slice h l c=>exact .ret (.value (.slice h l c))
 |oe=>exact .ret (.value .oe)
 |map h=>exact .ret (.value (.map h))
 |rV=>exact .ret (.value .rV)
 |iface t h=>exact .ret (.value (.iface t h))
 |agg g i=>exact .ret (.value (.agg g i))
 |tuple g i=>exact .ret (.value (.tuple g i))
 |fM j d=>
  cases w with
  |agg c=>exact d.elim
  |nilIface=>exact d.elim
  |nilFunc=>exact d.elim
  |bool b=>exact d.elim
  |int k n=>exact d.elim
  |string s=>exact d.elim
  |func f a c=>cases f with
   |method n=>exact d.elim
   |_=>exact aW.ret (A:=gN) (gN.value (aM.fM j d))
  |pointer a=>cases a with
   |none=>exact d.elim
   |some a=>exact aW.ret (A:=gN) (gN.value (aM.fM j d))
  |_=>exact aW.ret (A:=gN) (gN.value (aM.fM j d))
 |jO j=>
  refine aW.dF ?_;show dj Q (program >>= λr=>nilAhead (r.types.size+Made.depth) 1000000000 .nilIface "" >>= λb=>_);exact dj.prog (Jf (zr (F.dC ▸ j)) _)
def CE{t e:TypeId}(h:vb Q t=true)(he:Q.underlying t=some (.slice e)):kt Q e=true:=by unfold vb at h;rw[he]at h;exact h
def CP(S:bK Q P)(F:Fits Q ρ)(H:ey Spec Q P)(o:Oper)(u:ρ.room=true\/uZ o.op=true)(j:nk Q o.op=true)(p:∀x,dH Q x=true->aM ρ (bx x) (g6 x))(E:∀v,bx (.const v)=v/\g6 (.const v)=v)(G:∀g,bx (.func g)=.func (.func g) #[] #[]/\g6 (.func g)=.func (.func g) #[] #[]):PH true Q P gN (execOp bx o) ρ (execOp g6 o):=by
 obtain⟨dst,op,type,pos,after,guard⟩:=o;dsimp only at j u;have K:∀(f:Operand->Value),execOp f ⟨dst,op,type,pos,after,guard⟩=execOp f {(default:Oper)with op:=op,type:=type}:=λf=>by cases op<;>rfl
 cases op<;>first|cases j|skip
 all_goals try simp only[nk,Bool.and_eq_true]at j
 case mapUpdate t m k x=>exact PH.map (C0 S F t j.1.1.1 (p m j.1.1.2) (p k j.1.2) (p x j.2)) λ_ _ _ _ _=>.skip
 case insert t m k x=>exact PH.map (C0 S F t j.1.1.1 (p m j.1.1.2) (p k j.1.2) (p x j.2)) λ_ _ _ _ _=>.skip
 all_goals refine aW.up ?_
 case move x=>exact .ret (.value (p x j))
 case assign x=>exact .ret (.value (p x j))
 case pick c a b=>
  refine(yt (p c j.1.1)).aY ?_;rintro ai I _ l ⟨rfl,_⟩;cases I
  .exact .ret (.value ((p b j.2).mono l))
  .exact .ret (.value ((p a j.1.2).mono l))
 case alloc t=>exact gG (L0 S t j)
 case box t x=>exact gG (L7 (p x j) t)
 case build t J=>exact gG (L8 S t j.1 (B1 p j.2))
 case buildSlice t n J=>exact gG (L9 S t n (λe he=>CE j.1 he) (B1 p j.2))
 case load t a=>exact gG (Mt S t (p a j))
 case store t a x=>exact sP (MQ S t (p a j.1) (p x j.2))
 case nilCheck x=>exact MI S F (p x j)
 case binOp op t x y R=>
  refine gG ?_;have w:=p x j.1.1;have z:=p y j.1.2;have C:∀v,x=.const v->bx x=v/\g6 x=v:=by rintro v rfl;exact E v
  have D:∀v,y=.const v->bx y=v/\g6 y=v:=by rintro v rfl;exact E v
  have he:(op=.eql\/op=.neq)->mg Q t x y=true:=by rintro(rfl|rfl)<;>exact j.2
  by_cases q:(op=.eql\/op=.neq)/\(bx x=.tuple #[]\/bx y=.tuple #[])
  .exact aW.dF (GN op q.1 t x y q.2)
  have B:(op=.eql\/op=.neq)->bx x≠.tuple #[]/\bx y≠.tuple #[]:=λh=>⟨λe=>q ⟨h,.inl e⟩,λe=>q ⟨h,.inr e⟩⟩
  refine(Me S op t x y he w z (λv e=>(C v e).1) (λv e=>(D v e).1) B).aY ?_;rintro ai _ _ l _;by_cases h:op=.eql\/op=.neq
  .exact L5 S (F.mono l) op h t x y (he h) (w.mono l) (z.mono l) C D (B h).1 (B h).2
  .exact L6 S (F.mono l) op (λe=>h (.inl e)) (λe=>h (.inr e)) t (w.mono l) (z.mono l)
 case unOp op t x=>exact gG (MT op (p x j))
 case convert s d x=>exact gG (Mc S s d j.1 (p x j.2))
 case makeInterface t x=>exact gG (Mx S t (p x j))
 case makeFunc fn a b=>
  cases fn<;>first|cases j|skip
  simp only[Bool.and_eq_true]at j;exact gG (Mw _ (by rw[F.dy];simpa using j.1) (vB p j.2.1) (vB p j.2.2))
 case makeMap t r=>
  cases r<;>first|cases j|skip
  exact gG (My S t)
 case makeSlice t l c=>exact gG (Mz S (u.resolve_right (by simp[uZ])) t (λe he=>CE j.1.1 he) (p l j.1.2) (p c j.2))
 case slice t x b4 L M=>exact gG (MP S t (p x j.1.1.1) (xU p j.1.1.2) (xU p j.1.2) (xU p j.2))
 case fieldAddr t x k=>exact gG (Mj S t k j.1 (p x j.2))
 case field t x k=>exact gG (Mi S t k (p x j))
 case indexAddr t x i=>exact gG (Mo S t (p x j.1) (p i j.2))
 case index t x i=>exact gG (Mn S t (p x j.1) (p i j.2))
 case lookup t m k c=>exact gG (Mv S F t j.1.1 (p m j.1.2) (p k j.2) c)
 case range t x=>exact gG (ML S t (p x j))
 case next x b=>exact gG (MH S type b (p x j))
 case entry x=>exact gG (Md (p x j))
 case typeAssert x gn t c=>
  cases c<;>first|cases j|skip
  simp only[Bool.and_eq_true]at j;exact gG (MS S gn t j.1 (p x j.2))
 case extract x k=>exact gG (Mh (p x j) k)
 case call c=>exact Ma S F H p G c u type j
 case defer c=>exact(MM F p G c type j).aY λ_ _ _ _ hd=>.ret (.defer hd)
end
end
end Go.aN
namespace Go.aN
attribute [-simp] Go.Sem.runT_eq
section
def oj(Q:Program)(bJ:Bool)(ops:Array Oper):Bool:=ops.all λo=>nk Q o.op && !(bJ && (match o.op with |.defer _=>true|_=>false))
def codeOk(Q:Program):Bool->Code->Bool
 |_,.skip|_,.exit _|_,.label _|_,.goto _|_,.ret|_,.refuse _=>true
 |bJ,.region _ ops _=>oj Q bJ ops
 |bJ,.seq a b=>codeOk Q bJ a && codeOk Q bJ b
 |bJ,.cond c a b=>dH Q c && (codeOk Q bJ a && codeOk Q bJ b)
 |bJ,.block _ b|bJ,.loop b|bJ,.scope b=>codeOk Q bJ b
 |_,.rangeFunc f _ a b=>dH Q f && (codeOk Q true a && codeOk Q true b)
structure Fit(Q:Program)(ρ:Ren):Prop where
 fits:Fits Q ρ
 dw:ρ.dw=λc=>codeOk Q true c=true
 hR:∀b,hR Q=some b->ρ.r b b
def Fit.mono{Q:Program}{ρ ai:Ren}(h:Fit Q ρ)(k:ρ.le ai):Fit Q ai:=⟨h.fits.mono k,k.dw.trans h.dw,λb e=>k.sub _ _ (h.hR b e)⟩
def Kl{Q:Program}{ρ:Ren}(h:∀b,hR Q=some b->ρ.r b b){v:Value}(c:pinned Q v=true):aM ρ v v:=by
 unfold pinned at c;split at c
 .exact .ptr ⟨h _ (by simpa using c),rfl,rfl⟩
 .cases c
inductive fw(Q:Program)(bJ:Bool)(cJ:Array Oper->Array Oper->Prop):Code->Code->Prop
 |same {c} (h:codeOk Q bJ c=true):fw Q bJ cJ c c
 |seq {a b bb aA} (h:fw Q bJ cJ a bb) (k:fw Q bJ cJ b aA):fw Q bJ cJ (.seq a b) (.seq bb aA)
 |cond {c a b bb aA} (al:dH Q c=true) (h:fw Q bJ cJ a bb) (k:fw Q bJ cJ b aA):fw Q bJ cJ (.cond c a b) (.cond c bb aA)
 |block {id a bb} (h:fw Q bJ cJ a bb):fw Q bJ cJ (.block id a) (.block id bb)
 |loop {a bb} (h:fw Q bJ cJ a bb):fw Q bJ cJ (.loop a) (.loop bb)
 |scope {a bb} (h:fw Q bJ cJ a bb):fw Q bJ cJ (.scope a) (.scope bb)
 |LW {id ops hB d} (h:cJ ops hB):fw Q bJ cJ (.region id ops d) (.region id hB d)
inductive hK(Q:Program)(bJ:Bool)(cJ:Array Oper->Array Oper->Prop)(ρ:Ren):Item->Item->Prop
 |code {c bo} (h:fw Q bJ cJ c bo):hK Q bJ cJ ρ (.code c) (.code bo)
 |inBlock (id):hK Q bJ cJ ρ (.inBlock id) (.inBlock id)
 |inLoop {c bo} (h:fw Q bJ cJ c bo):hK Q bJ cJ ρ (.inLoop c) (.inLoop bo)
 |inScope {c bo} (h:fw Q bJ cJ c bo):hK Q bJ cJ ρ (.inScope c) (.inScope bo)
 |inRegion {ops} (l) (h:oj Q bJ ops=true):hK Q bJ cJ ρ (.inRegion ops l) (.inRegion ops l)
 |inRangeFunc {l aH} (h:ρ.r l aH):hK Q bJ cJ ρ (.inRangeFunc l) (.inRangeFunc aH)
 |endRangeFunc {l aH} (h:ρ.r l aH):hK Q bJ cJ ρ (.endRangeFunc l) (.endRangeFunc aH)
 |beginRound:hK Q bJ cJ ρ .beginRound .beginRound
structure qa(ρ:Ren)(e f:PanicEntry):Prop where
 v:aM ρ e.v f.v
 recovered:e.recovered=false/\f.recovered=false
 goexit:e.goexit=f.goexit
inductive oR(ρ:Ren):FrameMode->FrameMode->Prop
 |run:oR ρ .run .run
 |returning:oR ρ .returning .returning
 |panicking {a b} (h:cA (qa ρ) a b):oR ρ (.panicking a) (.panicking b)
structure fV(Q P:Program) where
 cJ:FuncId->Array Oper->Array Oper->Prop
 fn:FuncId->Prop
variable{Q P:Program}
structure cG(K:fV Q P)(ρ:Ren)(fr bg:Frame):Prop where
 fn:fr.fn=bg.fn
 tmps:bE ρ fr.tmps bg.tmps
 todo:cA (hK Q fr.roundOf.isSome (K.cJ fr.fn) ρ) fr.todo bg.todo
 defers:cA (kP ρ) fr.defers bg.defers
 mode:oR ρ fr.mode bg.mode
 kind:fr.kind=bg.kind
 kindOk:fr.kind=.normal\/fr.kind=.deferred
 round:ez ρ.r fr.roundOf bg.roundOf
 known:fr.roundOf=none->∃hz g7,Q.funcs[fr.fn]?=some hz/\P.funcs[fr.fn]?=some g7/\hz.results=g7.results
 ret:fr.mode=.returning->fr.roundOf=none
def eE(K:fV Q P)(f:FuncId)(d g7:Func):Prop:=
 (∃c bo,d.body=some c/\g7.body=some bo/\d.results=g7.results/\fw Q false (K.cJ f) c bo)\/(∃g,d.body=some (.refuse g))\/K.fn f
inductive nL(K:fV Q P)(ρ:Ren):Frame->Frame->Prop
 |plain {fr bg} (h:cG K ρ fr bg):nL K ρ fr bg
 |refused {fr bg} (ga) (h:fr.todo = [.code (.refuse ga)]) (hm:fr.mode=.run):nL K ρ fr bg
 |qq {f a b kind} (h:K.fn f) (U:kind=.normal\/kind=.deferred) (bY:bE ρ a b) (aa:∀n,ρ.dy f=some n->a.size=n):nL K ρ (Frame.enter Q f a kind) (Frame.enter P f b kind)
variable{K:fV Q P}{ρ ai:Ren}{bJ:Bool}{cJ:Array Oper->Array Oper->Prop}
def hK.mono(h:ρ.le ai){a b:Item}(x:hK Q bJ cJ ρ a b):hK Q bJ cJ ai a b:=by
 cases x with
 |code k=>exact .code k
 |inBlock id=>exact .inBlock id
 |inLoop k=>exact .inLoop k
 |inScope k=>exact .inScope k
 |inRegion l k=>exact .inRegion l k
 |inRangeFunc k=>exact .inRangeFunc (h.sub _ _ k)
 |endRangeFunc k=>exact .endRangeFunc (h.sub _ _ k)
 |beginRound=>exact .beginRound
def qa.mono(h:ρ.le ai){a b:PanicEntry}(x:qa ρ a b):qa ai a b:=⟨x.v.mono h,x.recovered,x.goexit⟩
def oR.mono(h:ρ.le ai){a b:FrameMode}(x:oR ρ a b):oR ai a b:=by
 cases x with
 |run=>exact .run
 |returning=>exact .returning
 |panicking k=>exact .panicking (k.mono λ_ _=>qa.mono h)
def cG.mono(h:ρ.le ai){a b:Frame}(x:cG K ρ a b):cG K ai a b:=
 ⟨x.fn,x.tmps.mono h,x.todo.mono λ_ _=>hK.mono h,x.defers.mono λ_ _ k=>k.mono h,x.mode.mono h,x.kind,x.kindOk,x.round.mono h.sub,x.known,x.ret⟩
def mj(h:ρ.le ai){a b:List Frame}(x:cA (cG K ρ) a b):cA (cG K ai) a b:=x.mono λ_ _=>cG.mono h
def cA.append{α β:Type}{R:α->β->Prop}{a c:List α}{b d:List β}(h:cA R a b)(k:cA R c d):cA R (a++c) (b++d):=by
 induction h with
 |nil=>exact k
 |cons x _ f=>exact .cons x f
def rl:aM ρ undef undef:=.tuple rfl (by simp)
def xf{a b:Array Value}(h:bE ρ a b)(t:Nat):aM ρ (a.getD t undef) (b.getD t undef):=by
 rw[Array.getD_eq_getD_getElem?,Array.getD_eq_getD_getElem?];rcases bE.get? h t with⟨x,y,c,d,f⟩|⟨c,d⟩
 .rw[c,d];exact f
 .rw[c,d];exact rl
def r7(F:Fit Q ρ){fr bg:Frame}(h:bE ρ fr.tmps bg.tmps)(x:Operand)(av:dH Q x=true):aM ρ (fr.eval x) (bg.eval x):=by
 cases x with
 |tmp t=>exact xf h t
 |const v=>
  simp only[dH,Bool.or_eq_true]at av;rcases av with av|av
  .exact zt 64 v av
  .exact Kl F.hR av
 |global g=>cases av
 |func f=>exact .func (.func f (by rw[F.fits.dy];simpa [dH]using av)) rfl (by simp) rfl (by simp)
def Hf(id:Nat){a b:List Item}(h:cA (hK Q bJ cJ ρ) a b):ez (cA (hK Q bJ cJ ρ)) (exitTo id a) (exitTo id b):=by
 induction h with
 |nil=>exact .none
 |cons x t c=>
  cases x with
  |inBlock d=>
   unfold exitTo;split
   .exact .some t
   .exact c
  |_=>unfold exitTo;exact c
def Hs{c:Code}(l:Nat)(h:codeOk Q bJ c=true):∀r,findLabel c l=some r->codeOk Q bJ r=true:=by
 induction c with
 |seq a b f g=>
  intro r d;simp only[codeOk,Bool.and_eq_true]at h;unfold findLabel at d;rcases e:findLabel a l with _|x
  .rw[e]at d;exact g h.2 r d
  .rw[e]at d
   cases d;simp only[codeOk,Bool.and_eq_true];exact⟨f h.1 x e,h.2⟩
 |label m=>
  intro r d;unfold findLabel at d;split at d
  .cases d;rfl
  .cases d
 |_=>intro r d;unfold findLabel at d;cases d
def Hr(l:Nat){c bo:Code}(h:fw Q bJ cJ c bo):ez (fw Q bJ cJ) (findLabel c l) (findLabel bo l):=by
 induction h with
 |same h=>
  rcases e:findLabel _ l with _|r
  .exact .none
  .exact .some (.same (Hs l h r e))
 |seq _ k d g=>
  unfold findLabel;revert d;generalize findLabel _ l=x;generalize findLabel _ l=y;intro d;cases d with
  |none=>exact g
  |some f=>exact .some (.seq f k)
 |_=>unfold findLabel;exact .none
def HN(l:Nat){a b:List Item}(h:cA (hK Q bJ cJ ρ) a b):ez (cA (hK Q bJ cJ ρ)) (gotoIn l a) (gotoIn l b):=by
 induction h with
 |nil=>exact .none
 |cons x t d=>
  cases x with
  |inScope c=>
   unfold gotoIn;have e:=Hr l c;revert e;generalize findLabel _ l=x;generalize findLabel _ l=y;intro e;cases e with
   |none=>exact d
   |some he=>exact .some (.cons (.code he) (.cons (.inScope c) t))
  |_=>unfold gotoIn;exact d
def BM{ops:Array Oper}(h:oj Q bJ ops=true){i:Nat}{o:Oper}(d:ops[i]?=some o):nk Q o.op=true/\(bJ=true->∀c,o.op≠.defer c):=by unfold oj at h;rw[Array.all_eq_true]at h;have f:=bp d;have:=h i f;rw[Pu f]at d;rw[Pm d]at this;simp only[Bool.and_eq_true,Bool.not_eq_true']at this;refine⟨this.1,λj c g=>?_⟩;rw[j,g]at this;simp at this
def pa{fr bg:Frame}(h:cG K ρ fr bg){v w:Value}(I:aM ρ v w):cG K ρ (fr.finish v) (bg.finish w):=by
 obtain⟨f,c,D,g,j,o,p,q,r,u⟩:=h;obtain⟨fn,tmps,todo,defers,mode,kind,roundOf⟩:=fr;obtain⟨G,E,R,F,L,J,P⟩:=bg;dsimp only at f c D g j o p q r u;cases D with
 |nil=>exact⟨f,c,.nil,g,j,o,p,q,r,u⟩
 |@cons _ _ lt mt x t=>
  have M:∀{ops C:Array Oper} {i:Nat} {rest:List Nat},hK Q roundOf.isSome (K.cJ fn) ρ (.inRegion ops rest) (.inRegion C rest)->((ops[i]?).bind (·.dst)=(C[i]?).bind (·.dst))->
   cG K ρ {fn,tmps:=match (ops[i]?).bind (·.dst)with|some d=>tmps.setIfInBounds d v|none=>tmps,todo:=.inRegion ops rest::lt,defers,mode,kind,roundOf} {fn:=G,tmps:=match (C[i]?).bind (·.dst)with|some d=>E.setIfInBounds d w|none=>E,todo:=.inRegion C rest::mt,defers:=F,mode:=L,kind:=J,roundOf:=P}:=by
   intro ops C i rest H hd;refine⟨f,?_,.cons H t,g,j,o,p,q,r,u⟩;dsimp only;rw[<-hd];cases (ops[i]?).bind (·.dst)with
   |none=>exact c
   |some d=>exact c.set d I
  cases x with
  |inRegion l z=>cases l with
   |nil=>exact⟨f,c,.cons (.inRegion [] z) t,g,j,o,p,q,r,u⟩
   |cons i rest=>exact M (.inRegion rest z) rfl
  |inRangeFunc z=>exact⟨f,c,.cons (.endRangeFunc z) t,g,j,o,p,q,r,u⟩
  |beginRound=>exact⟨f,c,t,g,j,o,p,q,r,u⟩
  |code B=>exact⟨f,c,.cons (.code B) t,g,j,o,p,q,r,u⟩
  |inBlock id=>exact⟨f,c,.cons (.inBlock id) t,g,j,o,p,q,r,u⟩
  |inLoop B=>exact⟨f,c,.cons (.inLoop B) t,g,j,o,p,q,r,u⟩
  |inScope B=>exact⟨f,c,.cons (.inScope B) t,g,j,o,p,q,r,u⟩
  |endRangeFunc z=>exact⟨f,c,.cons (.endRangeFunc z) t,g,j,o,p,q,r,u⟩
def uU{fr bg:Frame}(h:cG K ρ fr bg){a b:List PanicEntry}(k:cA (qa ρ) a b):cG K ρ (fr.raise a) (bg.raise b):=by
 obtain⟨c,d,f,g,i,j,l,o,p,r⟩:=h;unfold Frame.raise;revert i;generalize fr.mode=m;generalize bg.mode=cP;intro i;cases i with
 |run=>exact⟨c,d,f,g,.panicking k,j,l,o,p,λe=>by cases e⟩
 |returning=>exact⟨c,d,f,g,.panicking k,j,l,o,p,λe=>by cases e⟩
 |panicking q=>exact⟨c,d,f,g,.panicking (k.append q),j,l,o,p,λe=>by cases e⟩
def nX(H:ey (eE K) Q P)(f:FuncId){a b:Array Value}(h:bE ρ a b)(w:∀n,ρ.dy f=some n->a.size=n)(kind:CallKind)(q:kind=.normal\/kind=.deferred):nL K ρ (Frame.enter Q f a kind) (Frame.enter P f b kind):=by
 cases e:Q.funcs[f]? with
 |none=>exact .refused _ (by simp[Frame.enter,e];rfl) rfl
 |some p=>
 obtain⟨_,D⟩:=H.fn f p e;cases D with
 |none d _ _ _=>exact .refused _ (by simp[Frame.enter,e,d];rfl) rfl
 |ext _ _ _ d=>exact .refused _ (by simp[Frame.enter,e,d];rfl) rfl
 |same g7 l d G I E B=>
  rcases B with⟨c,bo,j,r,u,z⟩|⟨F,j⟩|af
  .refine .plain ⟨rfl,?_,?_,.nil,.run,rfl,q,.none,λ_=>⟨p,g7,e,l,u⟩,λe=>by cases e⟩
   .simp only[Frame.enter,e,l,Option.map_some,Option.getD_some,<-E,<-h.1]
    refine h.append ⟨by simp,λi x y g o=>?_⟩;rw[Array.getElem?_replicate]at g o;split at g
    .rename_i C
     rw[if_pos C]at o;cases g;cases o;exact rl
    .cases g
   .simp only[Frame.enter,e,l,j,r,Option.bind_some,Option.getD_some]
    exact .cons (.code z) .nil
  .exact .refused F (by simp[Frame.enter,e,j]) rfl
  .exact .qq af q h w
end
section
variable{Q P:Program}{K:fV Q P}{ρ ai:Ren}
def hp(K:fV Q P)(ρ:Ren)(w w':World)(du base:List Frame):GStep->GStep->Prop
 |.go g aG _,r=>(∃(ai:Ren) (cs:List Frame) (bg:Frame) (cs':List Frame) (bW:World) (e3:Array Event),r=.go ⟨bg,cs'++base,.running,none,none⟩ bW e3/\
  g=⟨g.frame,cs++du,.running,none,none⟩/\Eff ρ ai w aG w' bW/\gb ai aG bW/\(nL K ai g.frame bg/\(cG K ai g.frame bg\/cs≠[]))/\cA (cG K ai) cs cs'/\∀e∈e3,fe ai w e)\/
  ∃c c₁:Frame,du=c::g.callers/\g=⟨c₁,g.callers,.running,none,none⟩/\((∃v,c₁=c.finish v)\/(∃d,c₁=c.raise d)\/c₁=c\/∃m,c₁={c with mode:=m}/\c.mode≠.panicking [])
 |.ended ..,_=>True
 |_,_=>False
section
variable{w w' aG bW:World}{du base cs cs':List Frame}{fr bg:Frame}{es e3:Array Event}
def hp.PK(he:Eff ρ ai w aG w' bW)(g:gb ai aG bW)(c:cG K ai fr bg)(d:cA (cG K ai) cs cs')(f:∀e∈e3,fe ai w e):
 hp K ρ w w' du base (.go ⟨fr,cs++du,.running,none,none⟩ aG es) (.go ⟨bg,cs'++base,.running,none,none⟩ bW e3):=
 .inl ⟨ai,cs,bg,cs',bW,e3,rfl,rfl,he,g,⟨.plain c,.inl c⟩,d,f⟩
def hp.mk(he:Eff ρ ai w aG w' bW)(g:dp ai aG bW)(f:cG K ai fr bg)(c:cA (cG K ai) cs cs')(d:∀e∈e3,fe ai w e):
 hp K ρ w w' du base (.go ⟨fr,cs++du,.running,none,none⟩ aG es) (.go ⟨bg,cs'++base,.running,none,none⟩ bW e3):=.PK he g.hrel f c d
def hp.PN{c:Frame}(he:Eff ρ ai w aG w' bW)(h:gb ai aG bW)(g:nL K ai fr bg)(d:cA (cG K ai) (c::cs) cs')(f:∀e∈e3,fe ai w e):
 hp K ρ w w' du base (.go ⟨fr,(c::cs)++du,.running,none,none⟩ aG es) (.go ⟨bg,cs'++base,.running,none,none⟩ bW e3):=
 .inl ⟨ai,c::cs,bg,cs',bW,e3,rfl,rfl,he,h,⟨g,.inr (List.cons_ne_nil _ _)⟩,d,f⟩
def hp.call{c:Frame}(he:Eff ρ ai w aG w' bW)(h:dp ai aG bW)(g:nL K ai fr bg)(d:cA (cG K ai) (c::cs) cs')(f:∀e∈e3,fe ai w e):
 hp K ρ w w' du base (.go ⟨fr,(c::cs)++du,.running,none,none⟩ aG es) (.go ⟨bg,cs'++base,.running,none,none⟩ bW e3):=.PN he h.hrel g d f
def hp.stay(f:dp ρ w w')(d:cG K ρ fr bg)(c:cA (cG K ρ) cs cs'):
 hp K ρ w w' du base (.go ⟨fr,cs++du,.running,none,none⟩ w) (.go ⟨bg,cs'++base,.running,none,none⟩ w'):=
 .mk Eff.refl f (d) c (by simp)
def lX(p:Program)(f:FuncId)(es:Array Event):∀e∈seen p f es,e∈es:=by
 have key:∀(f:Bool×Array Event->Event->Bool×Array Event),(∀x e y,y∈(f x e).2->y∈x.2\/y=e)->∀(l:List Event) (x:Bool×Array Event) (y:Event),y∈(l.foldl f x).2->y∈x.2\/y∈l:=by
  intro f c l;induction l with
  |nil=>intro x y h;exact .inl h
  |cons e l d=>
   intro x y h;rcases d (f x e) y h with k|k
   .rcases c x e y k with k|k
    .exact .inl k
    .exact .inr (by rw[k];exact List.mem_cons_self)
   .exact .inr (List.mem_cons_of_mem _ k)
 intro e he;unfold seen at he;dsimp only at he;rw[<-Array.foldl_toList]at he;rcases key _ (by
  rintro⟨q,g⟩ e y;dsimp only;split
  .exact .inl
  .intro hm
   dsimp only at hm;split at hm
   .exact .inl hm
   .exact Array.mem_push.1 hm) es.toList _ e he with k|k
 .simp at k
 .exact Array.mem_toList_iff.1 k
def oT(fr:Frame):Prop:=∀d b r s k,fr.todo≠.call d b r s::k
def cG.sw(h:cG K ρ fr bg):oT fr/\oT bg:=by
 have t:=h.todo;constructor
 .intro d b r s k e
  rw[e]at t;generalize bg.todo=x at t;cases t with|cons h _=>cases h
 .intro d b r s k e
  rw[e]at t;generalize fr.todo=x at t;cases t with|cons h _=>cases h
def cG.early(h:cG K ρ fr bg):(fr.kind == .early)=false/\(bg.kind == .early)=false:=by
 rcases h.kindOk with k|k
 .exact⟨by rw[k];rfl,by rw[<-h.kind,k];rfl⟩
 .exact⟨by rw[k];rfl,by rw[<-h.kind,k];rfl⟩
section
variable{p:Program}{s:Sem Next}
def qf{v:Value}(d:s.runT p w #[]=(.ok (.value v) aG,es))(c:(fr.kind == .early)=false):stepG.apply p true fr cs none s w=.go ⟨fr.finish v,cs,.running,none,none⟩ aG (seen p fr.fn es):=by simp[stepG.apply,d,c,GStep.after]
def rN(d:s.runT p w #[]=(.ok .skip aG,es))(c:(fr.kind == .early)=false):stepG.apply p true fr cs none s w=.go ⟨fr.finish undef,cs,.running,none,none⟩ aG (seen p fr.fn es):=by simp[stepG.apply,d,c,GStep.after]
def tt{d:Deferred}(f:s.runT p w #[]=(.ok (.defer d) aG,es))(c:(fr.kind == .early)=false):stepG.apply p true fr cs none s w=.go ⟨{fr with defers:=d::fr.defers}.finish undef,cs,.running,none,none⟩ aG (seen p fr.fn es):=by simp[stepG.apply,f,c,GStep.after]
def tu{f:FuncId}{a:Array Value}(j:s.runT p w #[]=(.ok (.enter f a) aG,es))(g:(fr.kind == .early)=false)(c:oT fr):stepG.apply p true fr cs none s w=.go ⟨Frame.enter p f a .normal,fr::cs,.running,none,none⟩ aG (seen p fr.fn es):=by
 obtain⟨fn,tmps,todo,defers,mode,kind,roundOf⟩:=fr;unfold oT at c;dsimp only at c g;have:∀x:CallKind,(∀d r s k,todo≠.call d true r s::k)->(match todo with |.call _ true _ _::_=>x|_=>.normal)=.normal:=by
  intro x h;split
  .exact absurd rfl (h _ _ _ _)
  .rfl
 simp only[stepG.apply,if_true,j,g,GStep.after];rcases todo with _|⟨i,k⟩
 .simp
 .cases i with
  |call d b r s=>exact absurd rfl (c d b r s k)
  |_=>simp
def tw{l:Nat}{f:FuncId}{a:Array Value}{c d:Code}(h:s.runT p w #[]=(.ok (.round l f a c d) aG,es))(g:(fr.kind == .early)=false):stepG.apply p true fr cs none s w=.go ⟨Frame.round l f a c d .normal,fr::cs,.running,none,none⟩ aG (seen p fr.fn es):=by simp[stepG.apply,h,g,GStep.after]
def tv{v:Value}(d:s.runT p w #[]=(.halt (.panic v) aG,es))(c:(fr.kind == .early)=false):stepG.apply p true fr cs none s w=.go ⟨fr.raise [{v,recovered:=false}],cs,.running,none,none⟩ aG (seen p fr.fn es):=by simp[stepG.apply,d,c,GStep.after]
def v'{h:Halt}(d:s.runT p w #[]=(.halt h aG,es))(c:iC h):∃o f bd,stepG.apply p true fr cs none s w=.ended o f bd:=by
 cases h with
 |stuck i=>exact⟨_,_,_,by simp only[stepG.apply,if_true,d,GStep.after];exact rfl⟩
 |unsupported u=>
  cases u with
  |initOrder g=>exact c.elim
  |_=>exact⟨_,_,_,by simp only[stepG.apply,if_true,d,GStep.after];exact rfl⟩
 |_=>exact c.elim
end
def Co(F:Fit Q ρ){l aH:Nat}(j:ρ.r l aH)(f:FuncId){a b:Array Value}(h:bE ρ a b){c d:Code}(g:ρ.dw c/\ρ.dw d)(kind:CallKind)(i:kind=.normal\/kind=.deferred):
 cG K ρ (Frame.round l f a c d kind) (Frame.round aH f b c d kind):=by
 rw[F.dw]at g;exact⟨rfl,h,.cons (.code (.same g.1)) (.cons .beginRound (.cons (.code (.same g.2)) .nil)),.nil,.run,rfl,i,.some j,λe=>(by cases e),λe=>(by cases e)⟩
def u1(p:Program){α:Type}(s:Sem α)(w:World){r:Result α}(h:s.run p w=r):∃es,s.runT p w #[]=(r,es):=⟨(s.runT p w #[]).2,by rw[<-h,<-Sem.runT_fst p s w #[]]⟩
def wb{l:Bool}(F:Fit Q ρ)(H:ey (eE K) Q P){s a6:Sem Next}(V:PH l Q P gN s ρ a6)(W:dp ρ w w')(u:cG K ρ fr bg)(G:cA (cG K ρ) cs cs'):
 hp K ρ w w' du base (stepG.apply Q true fr (cs++du) none s w) (stepG.apply P true bg (cs'++base) none a6 w'):=by
 have h:=PH.run V W;have k:=u.early;have I:=u.sw;rcases e:s.run Q w with⟨n,aG⟩|⟨x,aG⟩
 .rw[e]at h
  obtain⟨es,i⟩:=u1 Q s w e;obtain⟨ai,cM,bW,bd,z,he,q,U,C⟩:=h;have j:a6.runT P w' #[]=(.ok cM bW,bd):=by rw[z];simp
  have g:=u.mono he.le;have r:=mj he.le G;have bx:∀e∈seen P bg.fn bd,fe ai w e:=λe h=>C e (lX _ _ _ e h)
  cases U with
  |value E=>
   rw[qf i k.1,qf j k.2];exact .PK he q.1 ((pa g E)) r bx
  |skip=>
   rw[rN i k.1,rN j k.2];exact .PK he q.1 ((pa g rl)) r bx
  |enter f B R=>
   rw[tu i k.1 I.1,tu j k.2 I.2];exact .PN (cs:=cs) (cs':=bg::cs') he q.1 (nX H f B R .normal (.inl rfl)) (.cons g r) bx
  |round T f B c d D=>
   rw[tw i k.1,tw j k.2];exact .PK (cs:=fr::cs) (cs':=bg::cs') he q.1 (Co (F.mono he.le) T f B D .normal (.inl rfl)) (.cons g r) bx
  |@defer d J hd=>
   rw[tt i k.1,tt j k.2];have S:cG K ai {fr with defers:=d::fr.defers} {bg with defers:=J::bg.defers}:=⟨g.fn,g.tmps,g.todo,.cons hd g.defers,g.mode,g.kind,g.kindOk,g.round,g.known,g.ret⟩
   exact .PK he q.1 ((pa S rl)) r bx
 .rw[e]at h
  obtain⟨es,i⟩:=u1 Q s w e;have M:iC x->hp K ρ w w' du base (stepG.apply Q true fr (cs++du) none s w) (stepG.apply P true bg (cs'++base) none a6 w'):=by intro D;obtain⟨o,Y,bd,L⟩:=v' (p:=Q) (fr:=fr) (cs:=cs++du) i D;rw[L];trivial
  cases x with
  |panic v=>
   obtain⟨ai,X,bW,bd,z,he,q,E,C⟩:=h;have j:a6.runT P w' #[]=(.halt (.panic X) bW,bd):=by rw[z];simp
   rw[tv i k.1,tv j k.2];exact .PK he q.1 ((uU (u.mono he.le) (.cons ⟨E,⟨rfl,rfl⟩,rfl⟩ .nil))) (mj he.le G) λe h=>C e (lX _ _ _ e h)
  |_=>exact M h
end
end
section
variable{Q P:Program}{K:fV Q P}{ρ ai:Ren}{bJ:Bool}{cJ:Array Oper->Array Oper->Prop}
section
variable{w w' aG bW:World}{du base cs cs':List Frame}{fr bg:Frame}{es e3:Array Event}
def FF:∀{c:Code},codeOk Q true c=true->codeOk Q false c=true:=by
 intro c;induction c with
 |region id ops d=>
  intro h;simp only[codeOk,oj,Array.all_eq_true,Bool.and_eq_true]at h ⊢;intro i o;exact⟨(h i o).1,by simp⟩
 |seq a b j l=>
  intro h;simp only[codeOk,Bool.and_eq_true]at h ⊢;exact⟨j h.1,l h.2⟩
 |cond c a b j l=>
  intro h;simp only[codeOk,Bool.and_eq_true]at h ⊢;exact⟨h.1,j h.2.1,l h.2.2⟩
 |block id b g=>intro h;simp only[codeOk]at h ⊢;exact g h
 |loop b g=>intro h;simp only[codeOk]at h ⊢;exact g h
 |scope b g=>intro h;simp only[codeOk]at h ⊢;exact g h
 |rangeFunc f p a b _ _=>intro h;simpa only[codeOk]using h
 |_=>intro h;rfl
def FE{c:Code}(h:codeOk Q true c=true)(bJ:Bool):codeOk Q bJ c=true:=by
 cases bJ
 .exact FF h
 .exact h
def Lz{a b c:Code}(h:fw Q bJ cJ (.seq a b) c):∃d f,c=.seq d f/\fw Q bJ cJ a d/\fw Q bJ cJ b f:=by
 cases h with
 |same h=>simp only[codeOk,Bool.and_eq_true]at h;exact⟨_,_,rfl,.same h.1,.same h.2⟩
 |seq h k=>exact⟨_,_,rfl,h,k⟩
def FH{x:Operand}{a b c:Code}(h:fw Q bJ cJ (.cond x a b) c):∃d f,c=.cond x d f/\dH Q x=true/\fw Q bJ cJ a d/\fw Q bJ cJ b f:=by
 cases h with
 |same h=>simp only[codeOk,Bool.and_eq_true]at h;exact⟨_,_,rfl,h.1,.same h.2.1,.same h.2.2⟩
 |cond g h k=>exact⟨_,_,rfl,g,h,k⟩
def E0{id:Nat}{a c:Code}(h:fw Q bJ cJ (.block id a) c):∃d,c=.block id d/\fw Q bJ cJ a d:=by
 cases h with
 |same h=>exact⟨_,rfl,.same (by simpa only[codeOk]using h)⟩
 |block h=>exact⟨_,rfl,h⟩
def IK{a c:Code}(h:fw Q bJ cJ (.loop a) c):∃d,c=.loop d/\fw Q bJ cJ a d:=by
 cases h with
 |same h=>exact⟨_,rfl,.same (by simpa only[codeOk]using h)⟩
 |loop h=>exact⟨_,rfl,h⟩
def Ls{a c:Code}(h:fw Q bJ cJ (.scope a) c):∃d,c=.scope d/\fw Q bJ cJ a d:=by
 cases h with
 |same h=>exact⟨_,rfl,.same (by simpa only[codeOk]using h)⟩
 |scope h=>exact⟨_,rfl,h⟩
def KT{id:Nat}{ops:Array Oper}{d:Bool}{c:Code}(h:fw Q bJ cJ (.region id ops d) c):∃f,c=.region id f d/\((ops=f/\oj Q bJ ops=true)\/cJ ops f):=by
 cases h with
 |same h=>exact⟨_,rfl,.inl ⟨rfl,by simpa only[codeOk]using h⟩⟩
 |LW h=>exact⟨_,rfl,.inr h⟩
def fe.through{aL:Ren}{g h:World}(he:Eff ρ ai w aG w' bW)(k:Eff ai aL aG g bW h){e:Event}(x:fe aL aG e):fe aL w e:=by
 refine x.back (λb c d f=>(he.guard b c d f).1) ?_;rintro b ⟨c,d⟩;rcases k.new b c d with x|⟨x,_⟩
 .rcases he.new b c x with y|⟨y,_⟩
  .exact .inl ⟨_,y⟩
  .exact .inr y
 .exact .inr (Po he.rn x)
def hp.after{r d:GStep}(he:Eff ρ ai w aG w' bW)(z:dp ai aG bW)(q:∀e∈e3,fe ai w e)(h:hp K ai aG bW du base r d):hp K ρ w w' du base (GStep.after es r) (GStep.after e3 d):=by
 cases r with
 |go g C bd=>
  rcases h with⟨aL,cs,bg,cs',D,f,rfl,u,c,i,j,l,p⟩|h
  case inr=>exact .inr h
  refine .inl ⟨aL,cs,bg,cs',D,e3++f,rfl,u,he.trans z c,i,j,l,λe B=>?_⟩;rcases Array.mem_append.1 B with y|y
  .exact(q e y).mono c.le
  .exact fe.through he c (p e y)
 |ended o C bd=>trivial
 |_=>exact h.elim
def z8(main F:Bool)(he:Eff ρ ai w aG w' bW)(p:dp ai aG bW)(i:cG K ai fr bg)(B:cA (cG K ai) cs cs')(E:du≠[]){v u:Value}(D:aM ai v u)(j:∀e∈e3,fe ai w e):
 hp K ρ w w' du base (GStep.after es (doReturn Q main fr (cs++du) none v aG)) (GStep.after e3 (doReturn P F bg (cs'++base) none u bW)):=by
 cases B with
 |nil=>
  rcases du with _|⟨c,rest⟩
  .exact absurd rfl E
  rcases i.kindOk with k|k
  .simp only[doReturn,List.nil_append,k,GStep.after]
   exact .inr ⟨c,c.finish v,rfl,rfl,.inl ⟨v,rfl⟩⟩
  .simp only[doReturn,List.nil_append,k,GStep.after]
   obtain⟨fn,tmps,todo,defers,mode,kind,roundOf⟩:=c;refine .inr ⟨_,_,rfl,rfl,?_⟩;cases mode with
   |run=>exact .inr (.inr (.inl rfl))
   |returning=>exact .inr (.inr (.inl rfl))
   |panicking ch=>
    rcases ch with _|⟨⟨v,r,g⟩,S⟩
    .exact .inr (.inr (.inl rfl))
    .cases r
     .exact .inr (.inr (.inl rfl))
     .refine .inr (.inr (.inr ?_))
      dsimp only;split<;>exact⟨_,rfl,by intro h;cases h⟩
 |@cons c bo l m f o=>
  have d:=i.kind;rcases i.kindOk with k|k
  .rw[k]at d
   simp only[doReturn,List.cons_append,k,<-d,GStep.after];exact .mk he p ((pa f D)) o (by simpa using j)
  .rw[k]at d
   have hm:=f.mode;obtain⟨fn,tmps,todo,defers,mode,kind,roundOf⟩:=c;obtain⟨L,U,V,J,R,M,T⟩:=bo;dsimp only at hm;have fin:=hp.mk (du:=du) (base:=base) (es:=es++#[]) (e3:=e3++#[]) he p (f) o (by simpa using j);cases hm with
   |run=>simpa only[doReturn,List.cons_append,k,<-d,GStep.after]using fin
   |returning=>simpa only[doReturn,List.cons_append,k,<-d,GStep.after]using fin
   |panicking C=>
    cases C with
    |nil=>simpa only[doReturn,List.cons_append,k,<-d,GStep.after]using fin
    |@cons a b _ _ z _=>
     obtain⟨fp,dy,G⟩:=a;obtain⟨bv,I,H⟩:=b;obtain⟨_,⟨r1,q⟩,_⟩:=z;dsimp only at r1 q;subst r1;subst q;simpa only[doReturn,List.cons_append,k,<-d,GStep.after]using fin
end
end
section
variable{Q P:Program}{K:fV Q P}{ρ ai:Ren}{bJ:Bool}{cJ:Array Oper->Array Oper->Prop}
section
variable{w w' aG bW:World}{du base cs cs':List Frame}{fr bg:Frame}{es e3:Array Event}
def PR{l:Bool}{α β:Type}{A:Ren->α->β->Prop}{s:Sem α}{a6:Sem β}(p:PH l Q P A s ρ a6)(q:dp ρ w w'):
 (∃a b aG bW ai bd c,s.runT Q w #[]=(.ok a aG,bd)/\a6.runT P w' #[]=(.ok b bW,c)/\Eff ρ ai w aG w' bW/\PM l ai aG bW/\A ai a b/\∀e∈c,fe ai w e)\/
 (∃v o aG bW ai bd c,s.runT Q w #[]=(.halt (.panic v) aG,bd)/\a6.runT P w' #[]=(.halt (.panic o) bW,c)/\Eff ρ ai w aG w' bW/\PM l ai aG bW/\aM ai v o/\∀e∈c,fe ai w e)\/
 (∃h aG bd,s.runT Q w #[]=(.halt h aG,bd)/\iC h):=by
 have h:=PH.run p q;rcases e:s.run Q w with⟨a,aG⟩|⟨x,aG⟩
 .rw[e]at h
  obtain⟨es,d⟩:=u1 Q s w e;obtain⟨ai,b,bW,bd,f,he,j,i,g⟩:=h;exact .inl ⟨a,b,aG,bW,ai,es,bd,d,by rw[f];simp,he,j,i,g⟩
 .rw[e]at h
  obtain⟨es,d⟩:=u1 Q s w e;cases x with
  |panic v=>
   obtain⟨ai,b,bW,bd,f,he,j,i,g⟩:=h;exact .inr (.inl ⟨v,b,aG,bW,ai,es,bd,d,by rw[f];simp,he,j,i,g⟩)
  |_=>exact .inr (.inr ⟨_,aG,es,d,h⟩)
def mA{α β:Type}{A:Ren->α->β->Prop}{s:Sem α}{a6:Sem β}(o:aW Q P A s ρ a6)(p:dp ρ w w'):
 (∃a b aG bW ai bd c,s.runT Q w #[]=(.ok a aG,bd)/\a6.runT P w' #[]=(.ok b bW,c)/\Eff ρ ai w aG w' bW/\dp ai aG bW/\A ai a b/\∀e∈c,fe ai w e)\/
 (∃v l aG bW ai bd c,s.runT Q w #[]=(.halt (.panic v) aG,bd)/\a6.runT P w' #[]=(.halt (.panic l) bW,c)/\Eff ρ ai w aG w' bW/\dp ai aG bW/\aM ai v l/\∀e∈c,fe ai w e)\/
 (∃h aG bd,s.runT Q w #[]=(.halt h aG,bd)/\iC h):=by
 rcases PR o p with⟨a,b,aG,bW,ai,bd,c,d,f,g,i,j⟩|⟨a,b,aG,bW,ai,bd,c,d,f,g,i,j⟩|h
 .exact .inl ⟨a,b,aG,bW,ai,bd,c,d,f,g,i.2 rfl,j⟩
 .exact .inr (.inl ⟨a,b,aG,bW,ai,bd,c,d,f,g,i.2 rfl,j⟩)
 .exact .inr (.inr h)
def Plain(K:fV Q P)(fr bg:Frame):Prop:=∀id ops c d k f,fr.todo=.code (.region id ops d)::k->bg.todo=.code (.region id c d)::f->¬K.cJ fr.fn ops c
def O6{ops g:Array Oper}(h:∀i:Nat,(ops[i]?).bind (·.dst)=(g[i]?).bind (·.dst)){a b:Array Value}(k:bE ρ a b)(j:Nat):yielded ops a j=yielded g b j:=by
 unfold yielded;rw[<-h j];cases (ops[j]?).bind (·.dst)with
 |none=>rfl
 |some d=>
  rcases bE.get? k d with⟨x,y,c,f,o⟩|⟨c,f⟩
  .simp only[Option.bind_some,c,f]
   cases o with
   |fM p l=>cases y<;>first|rfl|exact l.elim
   |_=>rfl
  .simp only[Option.bind_some,c,f]
def k8(p:Program)(main:Bool)(fr:Frame)(cs:List Frame)(w:World)(c:Option Code):GStep:=
 match fr.roundOf with
 |none=>if c matches none|some .ret then .go ⟨{fr with mode:=.returning},cs,.running,none,none⟩ w else .ended (.stuck "exit, goto: no such block or label" (fr.pos p)) w
 |some l=>
  let (r,es):=(Instr.endRound l c).runT p w #[];GStep.after (seen p fr.fn es) <|match r with
  |.ok v w=>doReturn p main fr cs none v w
  |.halt _ w=>.ended (.stuck "range over a function: no such loop" (fr.pos p)) w
section
variable(p:Program)(main:Bool)(fn:FuncId)(tmps:Array Value)(k:List Item)(defers:List Deferred)(kind:CallKind)(ro:Option Nat)(st:GoStatus)(off:Option (Array CommCase×CommShape))(id:Nat)
def step_end:stepG p main ⟨⟨fn,tmps,[],defers,.run,kind,ro⟩,cs,st,none,off⟩ w=k8 p main ⟨fn,tmps,[],defers,.run,kind,ro⟩ cs w none:=by cases ro<;>rfl
def step_ret:stepG p main ⟨⟨fn,tmps,.code .ret::k,defers,.run,kind,ro⟩,cs,st,none,off⟩ w=k8 p main ⟨fn,tmps,.code .ret::k,defers,.run,kind,ro⟩ cs w (some .ret):=by cases ro<;>rfl
def step_exit:stepG p main ⟨⟨fn,tmps,.code (.exit id)::k,defers,.run,kind,ro⟩,cs,st,none,off⟩ w =
 (exitTo id k).elim (k8 p main ⟨fn,tmps,.code (.exit id)::k,defers,.run,kind,ro⟩ cs w (some (.exit id))) λc=>.go ⟨⟨fn,tmps,c,defers,.run,kind,ro⟩,cs,.running,none,none⟩ w:=by
 cases ro<;>rfl
def step_goto:stepG p main ⟨⟨fn,tmps,.code (.goto id)::k,defers,.run,kind,ro⟩,cs,st,none,off⟩ w =
 (gotoIn id k).elim (k8 p main ⟨fn,tmps,.code (.goto id)::k,defers,.run,kind,ro⟩ cs w (some (.goto id))) λc=>.go ⟨⟨fn,tmps,c,defers,.run,kind,ro⟩,cs,.running,none,none⟩ w:=by
 cases ro<;>rfl
end
def Ij(F:Fit Q ρ)(r:dp ρ w w')(d:cG K ρ fr bg)(o:cA (cG K ρ) cs cs')(H:du≠[])(main z:Bool)(g:Option Code)(E:∀c,g=some c->codeOk Q true c=true):
 hp K ρ w w' du base (k8 Q main fr (cs++du) w g) (k8 P z bg (cs'++base) w' g):=by
 obtain⟨fn,tmps,todo,defers,mode,kind,ro⟩:=fr;obtain⟨C,J,L,B,S,I,T⟩:=bg;have j:=d.round;dsimp only at j;unfold k8;cases j with
 |none=>
  dsimp only;have fin:hp K ρ w w' du base (.go ⟨⟨fn,tmps,todo,defers,.returning,kind,none⟩,cs++du,.running,none,none⟩ w) (.go ⟨⟨C,J,L,B,.returning,I,none⟩,cs'++base,.running,none,none⟩ w'):=
   .stay r ⟨d.fn,d.tmps,d.todo,d.defers,.returning,d.kind,d.kindOk,.none,d.known,λ_=>rfl⟩ o
  cases g with
  |none=>exact fin
  |some c=>cases c<;>first|exact fin|trivial
 |@some l aH G=>
  dsimp only;rcases mA (CM (Q:=Q) (P:=P) G g (λc e=>by rw[F.dw];exact E c e)) r with⟨v,M,aG,bW,ai,bd,D,f,i,he,u,q,p⟩|⟨v,M,aG,bW,ai,bd,D,f,i,he,u,q,p⟩|⟨h,aG,bd,f,R⟩
  .rw[f,i]
   exact z8 main z he u (d.mono he.le) (mj he.le o) H q λe h=>p e (lX _ _ _ e h)
  .rw[f]
   trivial
  .rw[f]
   trivial
def OE{ops:Array Oper}{a b:Array Value}(k:bE ρ a b)(i:Nat):
 ((ops[i]?).map (Region.wanted · (yielded ops a))).getD false=((ops[i]?).map (Region.wanted · (yielded ops b))).getD false:=by
 have c:yielded ops a=yielded ops b:=funext λj=>O6 (λ_=>rfl) k j
 rw[c]
section
variable(p:Program)(main:Bool)(fn:FuncId)(tmps:Array Value)(k:List Item)(defers:List Deferred)(kind:CallKind)(ro:Option Nat)(st:GoStatus)(off:Option (Array CommCase×CommShape))(id:Nat)
def pM(ops:Array Oper)(i:Nat)(rest:List Nat):stepG p main ⟨⟨fn,tmps,.inRegion ops (i::rest)::k,defers,.run,kind,ro⟩,cs,st,none,off⟩ w =
 if ((ops[i]?).map (Region.wanted · (yielded ops tmps))).getD false then stepG.oper p true ⟨fn,tmps,.inRegion ops (i::rest)::k,defers,.run,kind,ro⟩ cs none w
 else .go ⟨Frame.finish ⟨fn,tmps,.inRegion ops (i::rest)::k,defers,.run,kind,ro⟩ undef,cs,.running,none,none⟩ w:=rfl
def yG(ops:Array Oper)(d:Bool):stepG p main ⟨⟨fn,tmps,.code (.region id ops d)::k,defers,.run,kind,ro⟩,cs,st,none,off⟩ w =
 if !d then .go ⟨⟨fn,tmps,.inRegion ops (List.range ops.size)::k,defers,.run,kind,ro⟩,cs,.running,none,none⟩ w
 else .go ⟨⟨fn,tmps,.inRegion ops (Region.schedule (p.follows .mixedOrders) ops (w.tape w.drawn (.order fn id)))::k,defers,.run,kind,ro⟩,cs,.running,none,none⟩ {w with drawn:=w.drawn+1}:=by
 cases d<;>simp[stepG,stepG.exec,choose,Sem.run,Question.forced,Question.cut]
end
def px{p:Program}{o:Oper}(h:fr.oper?=some o)(hd:fr.roundOf=none\/∀c,o.op≠.defer c):stepG.oper p true fr cs none w=stepG.apply p true fr cs none (execOp fr.eval o) w:=by
 unfold stepG.oper;rw[h];dsimp only;rcases hd with hd|hd
 .rw[hd]
 .split
  .rename_i c _ e
   exact absurd e (hd c)
  .rfl
def JL(S:bK Q P)(F:Fit Q ρ)(l:ρ.room=true)(H:ey (eE K) Q P)(p:dp ρ w w')(d:cG K ρ fr bg)(g:cA (cG K ρ) cs cs'){o:Oper}(h:fr.oper?=some o)(f:bg.oper?=some o)(j:nk Q o.op=true)(hd:fr.roundOf=none\/∀c,o.op≠.defer c):hp K ρ w w' du base (stepG.oper Q true fr (cs++du) none w) (stepG.oper P true bg (cs'++base) none w'):=by
 have i:bg.roundOf=none\/∀c,o.op≠.defer c:=by
  rcases hd with hd|hd
  .left
   have:=d.round;rw[hd]at this;revert this;generalize bg.roundOf=x;intro this;cases this;rfl
  .exact .inr hd
 rw[px h hd,px f i];exact wb F H (CP S F.fits H o (.inl l) j (λx q=>r7 F d.tmps x q) (λv=>⟨rfl,rfl⟩) λ_=>⟨rfl,rfl⟩) p d g
def He(S:bK Q P)(F:Fit Q ρ)(aF:ρ.room=true)(H:ey (eE K) Q P)(r:dp ρ w w')(C:cG K ρ fr bg)(q:cA (cG K ρ) cs cs')(ay:fr.mode=.run)(aJ:du≠[])(aI:Plain K fr bg)(main al:Bool)(st aO:GoStatus)(off aM:Option (Array CommCase×CommShape)):
 hp K ρ w w' du base (stepG Q main ⟨fr,cs++du,st,none,off⟩ w) (stepG P al ⟨bg,cs'++base,aO,none,aM⟩ w'):=by
 obtain⟨ap,z,aq,ad,ar,au,T,B,U,V⟩:=id C;obtain⟨fn,tmps,todo,defers,mode,kind,roundOf⟩:=fr;obtain⟨aP,aa,ah,M,aS,aR,Z⟩:=bg;dsimp only at ap z aq ad ar au T B U V ay;subst ap;subst au;subst ay;cases ar;have mv:∀{todo ah:List Item},cA (hK Q roundOf.isSome (K.cJ fn) ρ) todo ah->hp K ρ w w' du base (.go ⟨⟨fn,tmps,todo,defers,.run,kind,roundOf⟩,cs++du,.running,none,none⟩ w) (.go ⟨⟨fn,aa,ah,M,.run,kind,Z⟩,cs'++base,.running,none,none⟩ w'):=
  λh=>.stay r ⟨rfl,z,h,ad,.run,rfl,T,B,U,V⟩ q
 have ag:∀(Y:Option Code),(∀c,Y=some c->codeOk Q true c=true)->hp K ρ w w' du base (k8 Q main ⟨fn,tmps,todo,defers,.run,kind,roundOf⟩ (cs++du) w Y) (k8 P al ⟨fn,aa,ah,M,.run,kind,Z⟩ (cs'++base) w' Y):=
  λY aE=>Ij F r C q aJ main al Y aE
 cases aq with
 |nil=>rw[step_end,step_end];exact ag none (by simp)
 |@cons i aQ k J ae g=>
  cases ae with
  |inBlock id=>simp only[stepG,stepG.exec];exact mv g
  |inLoop h=>simp only[stepG,stepG.exec];exact mv (.cons (.code h) (.cons (.inLoop h) g))
  |inScope h=>simp only[stepG,stepG.exec];exact mv g
  |inRangeFunc h=>simp only[stepG,stepG.exec];trivial
  |@endRangeFunc l aH h=>
   rcases mA (CL S h) r with⟨v,aj,aG,bW,ai,bd,R,j,E,he,D,⟨rfl,I⟩,G⟩|⟨v,aj,aG,bW,ai,bd,R,j,E,he,D,af,G⟩|⟨x,aG,bd,j,I⟩
   .simp only[stepG,stepG.exec,j,E,GStep.after]
    have W:=C.mono he.le;refine .mk (e3:=seen P fn R++#[]) he D (⟨rfl,W.tmps,?_,W.defers,.run,rfl,T,W.round,U,V⟩) (mj he.le q) λe h=>G e (lX P fn _ e (by simpa using h))
    have aw:=g.mono λ_ _=>hK.mono he.le
    cases v with
    |none=>exact aw
    |some c=>
     have:=I c rfl;rw[(F.mono he.le).dw]at this;exact .cons (.code (.same (FE this _))) aw
   .simp only[stepG,stepG.exec,j,E,GStep.after]
    exact .mk (e3:=seen P fn R++#[]) he D ((uU (C.mono he.le) (.cons ⟨af,⟨rfl,rfl⟩,rfl⟩ .nil))) (mj he.le q) λe h=>G e (lX P fn _ e (by simpa using h))
   .simp only[stepG,stepG.exec,j]
    cases x<;>first|exact I.elim|trivial
  |beginRound=>
   simp only[stepG,stepG.exec];refine wb (l:=false) F H ?_ r C q;cases B with
   |none=>exact aW.stuck
   |some X=>exact sP (CJ S X)
  |@inRegion ops l h=>
   cases l with
   |nil=>simp only[stepG,stepG.exec];exact mv g
   |cons i rest=>
    rw[pM,pM];rw[<-OE (ops:=ops) z i];split
    .rename_i az
     rcases av:ops[i]? with _|o
     .rw[av]at az;cases az
     obtain⟨q1,aN⟩:=BM h av;exact JL S F aF H r C q (o:=o) (by simp[Frame.oper?,av]) (by simp[Frame.oper?,av]) q1 (by
      cases B with
      |none=>exact .inl rfl
      |some _=>exact .inr (aN rfl))
    .exact .stay r (pa C rl) q
  |@code c bo h=>
   cases c with
   |skip=>cases h;simp only[stepG,stepG.exec];exact mv g
   |label l=>cases h;simp only[stepG,stepG.exec];exact mv g
   |refuse aT=>cases h;simp only[stepG,stepG.exec];trivial
   |ret=>cases h;rw[step_ret,step_ret];exact ag _ (by rintro c e;cases e;rfl)
   |exit id=>
    cases h;rw[step_exit,step_exit];have e:=Hf id g;revert e;generalize exitTo id k=x;generalize exitTo id J=y;intro e;cases e with
    |none=>exact ag (some (.exit id)) (by rintro c e;cases e;rfl)
    |some e=>exact mv e
   |goto id=>
    cases h;rw[step_goto,step_goto];have e:=HN id g;revert e;generalize gotoIn id k=x;generalize gotoIn id J=y;intro e;cases e with
    |none=>exact ag (some (.goto id)) (by rintro c e;cases e;rfl)
    |some e=>exact mv e
   |seq a b=>
    obtain⟨L,ao,rfl,p,ak⟩:=Lz h;simp only[stepG,stepG.exec];exact mv (.cons (.code p) (.cons (.code ak) g))
   |cond x a b=>
    obtain⟨L,ao,rfl,aK,p,ak⟩:=FH h;simp only[stepG,stepG.exec];have e:=r7 F (fr:=⟨fn,tmps,.code (.cond x a b)::k,defers,.run,kind,roundOf⟩) (bg:=⟨fn,aa,.code (.cond x L ao)::J,M,.run,kind,Z⟩) z x aK;revert e;generalize Frame.eval _ x=u;generalize Frame.eval _ x=v;intro e;cases e with
    |bool b=>
     dsimp only;cases b
     .exact mv (.cons (.code ak) g)
     .exact mv (.cons (.code p) g)
    |_=>trivial
   |block id a=>
    obtain⟨L,rfl,p⟩:=E0 h;simp only[stepG,stepG.exec];exact mv (.cons (.code p) (.cons (.inBlock id) g))
   |loop a=>
    obtain⟨L,rfl,p⟩:=IK h;simp only[stepG,stepG.exec];exact mv (.cons (.code p) (.cons (.inLoop p) g))
   |scope a=>
    obtain⟨L,rfl,p⟩:=Ls h;simp only[stepG,stepG.exec];exact mv (.cons (.code p) (.cons (.inScope p) g))
   |region id ops d=>
    obtain⟨aA,rfl,av⟩:=KT h;obtain⟨rfl,aD⟩:ops=aA/\oj Q roundOf.isSome ops=true:=by
     rcases av with av|av
     .exact av
     .exact absurd av (aI id ops aA d k J rfl rfl)
    have ae:∀l,hK Q roundOf.isSome (K.cJ fn) ρ (.inRegion ops l) (.inRegion ops l):=λl=>.inRegion l aD
    rw[yG,yG];cases d with
    |false=>
     simp only[Bool.not_false,if_true];exact mv (.cons (ae _) g)
    |true=>
     simp only[Bool.not_true,Bool.false_eq_true,if_false];rw[<-S.follows,<-show w.tape w.drawn (.order fn id)=w'.tape w'.drawn (.order fn id)from r.tape 0 _];exact .mk Eff.tick r.tick (⟨rfl,z,.cons (ae _) g,ad,.run,rfl,T,B,U,V⟩) q (by simp)
   |rangeFunc f am a b=>
    cases h with
    |same h=>
    simp only[codeOk,Bool.and_eq_true]at h;have I:ρ.dw a/\ρ.dw b:=by rw[F.dw];exact h.2
    have aC:=r7 F (fr:=⟨fn,tmps,.code (.rangeFunc f am a b)::k,defers,.run,kind,roundOf⟩) (bg:=⟨fn,aa,.code (.rangeFunc f am a b)::J,M,.run,kind,Z⟩) z f h.1;rcases mA (yx (Q:=Q) (P:=P) fn z am a b I B) r with⟨v,aj,aG,bW,ai,bd,R,j,E,he,D,af,G⟩|⟨v,aj,aG,bW,ai,bd,R,j,E,he,D,af,G⟩|⟨x,aG,bd,j,I⟩
    .obtain⟨l,mk⟩:=v
     obtain⟨aH,aL⟩:=aj;obtain⟨X,ax⟩:=af;dsimp only at X ax;simp only[stepG,stepG.exec,j,E];have W:cG K ai ⟨fn,tmps,.inRangeFunc l::k,mk++defers,.run,kind,roundOf⟩ ⟨fn,aa,.inRangeFunc aH::J,aL++M,.run,kind,Z⟩:=
      ⟨rfl,z.mono he.le,.cons (.inRangeFunc X) (g.mono λ_ _=>hK.mono he.le),ax.append (ad.mono λ_ _ k=>k.mono he.le),.run,rfl,T,B.mono he.le.sub,U,V⟩
     refine hp.after he D (λe h=>G e (lX P fn _ e h)) (wb (l:=false) (F.mono he.le) H ?_ D W (mj he.le q));have aB:bE ai #[Value.func (.yield l) #[] #[]] #[Value.func (.yield aH) #[] #[]]:=nz (.func (.yield X) rfl (by simp) rfl (by simp));simp only[resolve,List.map_toArray,List.map_cons,List.map_nil];exact yw S (F.mono he.le).fits H (aC.mono he.le) aB
    .simp only[stepG,stepG.exec,j]
     trivial
    .simp only[stepG,stepG.exec,j]
     trivial
end
end
section
variable{Q P:Program}{K:fV Q P}{ρ ai:Ren}
section
variable{w w' aG bW:World}{du base cs cs':List Frame}{fr bg:Frame}{es e3:Array Event}
section
variable{p:Program}{d:Deferred}
def kX{n:Next}(g:(invoke d.target d.args).runT p w #[]=(.ok n aG,es))(f:(∃v,n=.value v)\/n=.skip\/∃d,n=.defer d)(c:((d.target matches .nil) && (fr.mode matches .panicking _))=false):
 callDeferred p fr cs none d w=.go ⟨fr,cs,.running,none,none⟩ aG (seen p fr.fn es):=by
 unfold callDeferred;refine(if_neg λh=>absurd (c.symm.trans h) (by decide)).trans ?_;rw[g];rcases f with⟨v,rfl⟩|rfl|⟨d,rfl⟩<;>simp[GStep.after]
def tK{f:FuncId}{a:Array Value}(g:(invoke d.target d.args).runT p w #[]=(.ok (.enter f a) aG,es))(c:((d.target matches .nil) && (fr.mode matches .panicking _))=false):
 callDeferred p fr cs none d w=.go ⟨Frame.enter p f a .deferred,fr::cs,.running,none,none⟩ aG (seen p fr.fn es):=by
 unfold callDeferred;refine(if_neg λh=>absurd (c.symm.trans h) (by decide)).trans ?_;rw[g];simp[GStep.after]
def tM{l:Nat}{f:FuncId}{a:Array Value}{c e:Code}(i:(invoke d.target d.args).runT p w #[]=(.ok (.round l f a c e) aG,es))(g:((d.target matches .nil) && (fr.mode matches .panicking _))=false):
 callDeferred p fr cs none d w=.go ⟨Frame.round l f a c e .deferred,fr::cs,.running,none,none⟩ aG (seen p fr.fn es):=by
 unfold callDeferred;refine(if_neg λh=>absurd (g.symm.trans h) (by decide)).trans ?_;rw[i];simp[GStep.after]
def tL{v:Value}(f:(invoke d.target d.args).runT p w #[]=(.halt (.panic v) aG,es))(c:((d.target matches .nil) && (fr.mode matches .panicking _))=false):
 callDeferred p fr cs none d w=.go ⟨fr.raise [{v,recovered:=false}],cs,.running,none,none⟩ aG (seen p fr.fn es):=by
 unfold callDeferred;refine(if_neg λh=>absurd (c.symm.trans h) (by decide)).trans ?_;rw[f];simp[GStep.after]
def FJ{c:String}(g:(invoke d.target d.args).runT p w #[]=(.halt (.stuck c) aG,es))(f:((d.target matches .nil) && (fr.mode matches .panicking _))=false):callDeferred p fr cs none d w=.ended (.stuck c (fr.pos p)) aG (seen p fr.fn es++#[]):=by unfold callDeferred;refine(if_neg λh=>absurd (f.symm.trans h) (by decide)).trans ?_;rw[g];rfl
def FK{u:Unsupported}(f:(invoke d.target d.args).runT p w #[]=(.halt (.unsupported u) aG,es))(c:((d.target matches .nil) && (fr.mode matches .panicking _))=false):callDeferred p fr cs none d w=.ended (.unsupported u (fr.pos p)) aG (seen p fr.fn es++#[]):=by unfold callDeferred;refine(if_neg λh=>absurd (c.symm.trans h) (by decide)).trans ?_;rw[f];rfl
def z6{h:Halt}(f:(invoke d.target d.args).runT p w #[]=(.halt h aG,es))(g:iC h)(c:((d.target matches .nil) && (fr.mode matches .panicking _))=false):∃o i bd,callDeferred p fr cs none d w=.ended o i bd:=by
 cases h with
 |stuck j=>exact⟨_,_,_,FJ f c⟩
 |unsupported u=>exact⟨_,_,_,FK f c⟩
 |_=>exact g.elim
def z7(c:((d.target matches .nil) && (fr.mode matches .panicking _))=true):∃o f bd,callDeferred p fr cs none d w=.ended o f bd:=
 ⟨_,_,_,if_pos c⟩
end
def zG(S:bK Q P)(F:Fit Q ρ)(H:ey (eE K) Q P)(V:dp ρ w w')(E:cG K ρ fr bg)(J:cA (cG K ρ) cs cs'){d B:Deferred}(hd:kP ρ d B):
 hp K ρ w w' du base (callDeferred Q fr (cs++du) none d w) (callDeferred P bg (cs'++base) none B w'):=by
 have M:((d.target matches .nil) && (fr.mode matches .panicking _))=((B.target matches .nil) && (bg.mode matches .panicking _)):=by have a:=hd.target;have b:=E.mode;revert a b;generalize d.target=x;generalize B.target=y;generalize fr.mode=u;generalize bg.mode=v;intro a b;cases a<;>cases b<;>rfl
 by_cases g:((d.target matches .nil) && (fr.mode matches .panicking _))=true
 .obtain⟨o,W,bd,e⟩:=z7 (p:=Q) (w:=w) (cs:=cs++du) g
  rw[e];trivial
 simp only[Bool.not_eq_true]at g;have l:=g;rw[M]at l;rcases mA (yA S H hd.target hd.args) V with⟨n,cM,aG,bW,ai,bd,I,i,j,he,q,U,D⟩|⟨v,X,aG,bW,ai,bd,I,i,j,he,q,L,D⟩|⟨x,aG,bd,i,G⟩
 .have z:=E.mono he.le
  have r:=mj he.le J;have bx:∀e∈seen P bg.fn I,fe ai w e:=λe h=>D e (lX _ _ _ e h)
  cases U with
  |value L=>
   rw[kX i (.inl ⟨_,rfl⟩) g,kX j (.inl ⟨_,rfl⟩) l];exact .mk he q (z) r bx
  |skip=>
   rw[kX i (.inr (.inl rfl)) g,kX j (.inr (.inl rfl)) l];exact .mk he q (z) r bx
  |defer hd=>
   rw[kX i (.inr (.inr ⟨_,rfl⟩)) g,kX j (.inr (.inr ⟨_,rfl⟩)) l];exact .mk he q (z) r bx
  |enter f C R=>
   rw[tK i g,tK j l];exact .call (cs:=cs) (cs':=bg::cs') he q (nX H f C R .deferred (.inr rfl)) (.cons z r) bx
  |round T f C c d G=>
   rw[tM i g,tM j l];exact .mk (cs:=fr::cs) (cs':=bg::cs') he q (Co (F.mono he.le) T f C G .deferred (.inr rfl)) (.cons z r) bx
 .rw[tL i g,tL j l]
  exact .mk he q ((uU (E.mono he.le) (.cons ⟨L,⟨rfl,rfl⟩,rfl⟩ .nil))) (mj he.le J) λe h=>D e (lX _ _ _ e h)
 .obtain⟨o,W,gs,e⟩:=z6 (fr:=fr) (cs:=cs++du) i G g
  rw[e];trivial
def MB{α β iB:Type}{A:Ren->β->iB->Prop}(f:α->Sem β)(g:α->Sem iB)(gS:∀(ai aL:Ren) b c,ai.le aL->A ai b c->A aL b c)(j:∀(ai:Ren) x,ρ.le ai->aW Q P A (f x) ai (g x)):
 ∀(l:List α) (ai:Ren),ρ.le ai->aW Q P (λai=>cA (A ai)) (l.mapM f) ai (l.mapM g):=by
 intro l;induction l with
 |nil=>intro ai _;exact .ret .nil
 |cons x l q=>
  intro ai h;rw[List.mapM_cons,List.mapM_cons];refine(j ai x h).aY ?_;intro aL b c o d;refine(q aL (Ren.le_trans h o)).aY ?_;intro r u cs p i;exact .ret (.cons (gS aL r b c p d) i)
def Ox{l m:List Value}(h:cA (aM ρ) l m):bE ρ l.toArray m.toArray:=by
 induction h with
 |nil=>exact .nil
 |@cons a b l m f _ g=>
  have c:(a::l).toArray=#[a]++l.toArray:=by simp
  have d:(b::m).toArray=#[b]++m.toArray:=by simp
  rw[c,d];exact(nz f).append g
def yC(S:bK Q P){i g7:Func}(e:i.results=g7.results){a b:Array Value}(h:bE ρ a b):aW Q P aM (results i a) ρ (results g7 b):=by
 unfold results;rw[e,Array.mapM_eq_mapM_toList,Array.mapM_eq_mapM_toList];refine aW.aY (A:=bE) (CZ (MB (A:=aM) (ρ:=ρ) _ _ (λ_ _ _ _ h k=>k.mono h) ?_ _ ρ (Ren.le_refl ρ)) λai a b _ o=>Ox o) ?_
 .intro ai x j
  cases x with
  |tmp t=>exact .ret (xf (h.mono j) t)
  |cell t p=>
   refine(ve S (xf (h.mono j) t)).aY ?_;intro aL x y _ g;exact CY S p g
 .intro ai x y _ g
  obtain⟨f,l⟩:=g;by_cases c:x.size=1
  .have d:y.size=1:=f ▸ c
   simp only[c,d,dif_pos];exact .ret (l 0 _ _ (by simp[c]) (by simp[d]))
  .have d:¬y.size=1:=f ▸ c
   simp only[c,d,dif_neg,not_false_eq_true];exact .ret (.tuple f l)
def On(S:bK Q P)(F:Fit Q ρ)(H:ey (eE K) Q P)(z:dp ρ w w')(f:cG K ρ fr bg)(o:cA (cG K ρ) cs cs')(r:fr.mode≠.run)(X:du≠[])(main Z:Bool)(st aw:GoStatus)(off au:Option (Array CommCase×CommShape)):
 hp K ρ w w' du base (stepG Q main ⟨fr,cs++du,st,none,off⟩ w) (stepG P Z ⟨bg,cs'++base,aw,none,au⟩ w'):=by
 have ar:bg.mode≠.run:=by have:=f.mode;intro e;rw[e]at this;revert this r;generalize fr.mode=x;intro r this;cases this;exact r rfl
 have af:∀(p:Program) (main:Bool) (fr:Frame) (cs:List Frame) (st:GoStatus) (off:Option (Array CommCase×CommShape)) (w:World),fr.mode≠.run->stepG p main ⟨fr,cs,st,none,off⟩ w=unwind p main fr cs none w:=by
  intro p main fr cs st off w h;obtain⟨fn,tmps,todo,defers,mode,kind,ro⟩:=fr;cases mode with
  |run=>exact absurd rfl h
  |_=>rfl
 rw[af _ _ _ _ _ _ _ r,af _ _ _ _ _ _ _ ar];have U:=f.defers;obtain⟨fn,tmps,todo,defers,mode,kind,ro⟩:=fr;obtain⟨C,ag,ah,ay,aa,Y,ae⟩:=bg;dsimp only at U;cases U with
 |@cons d aj M R hd al=>
  have J:cG K ρ ⟨fn,tmps,todo,M,mode,kind,ro⟩ ⟨C,ag,ah,R,aa,Y,ae⟩:=⟨f.fn,f.tmps,f.todo,al,f.mode,f.kind,f.kindOk,f.round,f.known,f.ret⟩
  obtain⟨t,a⟩:=d;obtain⟨a',ax⟩:=aj;have E:=hd.target;dsimp only at E;cases E with
  |collected ap=>
   simp only[unwind];rcases mA (C8 (Q:=Q) (P:=P) ap) z with⟨v,G,aG,bW,ai,bd,D,g,j,he,B,u,q⟩|⟨v,G,aG,bW,ai,bd,D,g,j,he,B,u,q⟩|⟨x,aG,bd,g,W⟩
   .rw[g,j]
    have i:=J.mono he.le;have am:cG K ai ⟨fn,tmps,todo,v++M,mode,kind,ro⟩ ⟨C,ag,ah,G++R,aa,Y,ae⟩:=⟨i.fn,i.tmps,i.todo,u.append i.defers,i.mode,i.kind,i.kindOk,i.round,i.known,i.ret⟩
    exact .mk (e3:=seen P C D++#[]) he B (am) (mj he.le o) λe h=>q e (lX P C _ e (by simpa using h))
   .rw[g];trivial
   .rw[g];trivial
  |nil=>exact zG S F H z J o hd
  |fn aA aB=>exact zG S F H z J o hd
 |nil=>
  have V:=f.mode;dsimp only at V;cases V with
  |run=>exact absurd rfl r
  |panicking ao=>
   have L:=f.sw;have I:∀(p:Program) (fr:Frame),oT fr->fr.catches p=false:=by
    intro p fr h;unfold Frame.catches;split
    .rename_i e
     exact absurd e (h _ _ _ _ _)
    .rfl
   cases o with
   |nil=>
    rcases du with _|⟨c,rest⟩
    .exact absurd rfl X
    simp only[unwind,List.nil_append,I _ _ L.1];exact .inr ⟨c,_,rfl,rfl,.inr (.inl ⟨_,rfl⟩)⟩
   |@cons c bo l m ak E=>
    simp only[unwind,List.cons_append,I _ _ L.1,I _ _ L.2];exact .mk Eff.refl z ((uU ak ao)) E (by simp)
  |returning=>
   have aq:=f.ret rfl;obtain⟨az,g7,q1,ad,av⟩:=f.known aq;have T:=f.fn;dsimp only at T q1 ad;subst T;simp only[unwind,q1,ad];rcases mA (yC S av f.tmps) z with⟨v,G,aG,bW,ai,bd,D,g,j,he,B,u,q⟩|⟨v,G,aG,bW,ai,bd,D,g,j,he,B,u,q⟩|⟨x,aG,bd,g,W⟩
   .rw[g,j]
    exact z8 main Z he B (f.mono he.le) (mj he.le o) X u λe h=>q e (lX _ _ _ e h)
   .rw[g];trivial
   .rw[g]
    cases x<;>first|exact W.elim|trivial
def Dg(S:bK Q P)(F:Fit Q ρ)(o:ρ.room=true)(H:ey (eE K) Q P)(l:dp ρ w w')(i:cG K ρ fr bg)(g:cA (cG K ρ) cs cs')(j:du≠[])(p:fr.mode=.run->Plain K fr bg)(main c:Bool)(st f:GoStatus)(off d:Option (Array CommCase×CommShape)):
 hp K ρ w w' du base (stepG Q main ⟨fr,cs++du,st,none,off⟩ w) (stepG P c ⟨bg,cs'++base,f,none,d⟩ w'):=by
 by_cases h:fr.mode=.run
 .exact He S F o H l i g h j (p h) main c st f off d
 .exact On S F H l i g h j main c st f off d
end
end
end Go.aN
