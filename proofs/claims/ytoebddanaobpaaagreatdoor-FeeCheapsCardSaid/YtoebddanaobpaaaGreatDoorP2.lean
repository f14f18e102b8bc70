/- A part. -/
import Derived.Test.YtoebddanaobpaaaGreatDoorP1
set_option maxHeartbeats 8000000
set_option maxRecDepth 100000
set_option linter.all false
namespace Go.aO
variable{n r:Nat}{dd k m x y:S9}{ba es:T5}{Tc:TV}{bY:TZ}{t:Tg}
section
section
variable{Q P:To}{ρ:Ren}
def isNil:Operand->Ta
 |.const .nilIface |.const .nilFunc |.const (.pointer none) |.const (.slice none 0 0) |.const (.map none)=>true
 |_=>false
def Eb(v:S9):Prop:=v=.nilIface\/v=.nilFunc\/v=.pointer none\/v=.slice none 0 0\/v=.map none
def FM(S:Same Q P)(t:Tg){c n:S9}(h:aQ ρ x c)(f:Eb n):a2 Q P (ec λ_=>True) (Op.equal t x n) ρ (Op.equal t c n)/\a2 Q P (ec λ_=>True) (Op.equal t n x) ρ (Op.equal t n c):=by
 constructor;all_goals
  unfold Op.equal Op.maxDepth;unfold Op.equalIn;refine(gD S t).a8 ?_;rintro ai d _ g ⟨rfl,_⟩;replace h:=h.mono g;rcases f with rfl|rfl|rfl|rfl|rfl
  all_goals
   cases h with
   |int k m=>
    cases d<;>first|exact .stuck|trivial|(match m with |.ofNat 0=>trivial |.ofNat (j+1)=>trivial |.negSucc j=>trivial)
   |_=>cases d<;>first|exact .ret ⟨S6,Tf⟩|exact .stuck|trivial
def BB(Q:To)(t:Tg):Ta:=match Q.underlying t with
 |some (.pointer e)=>(match Q.info? e with
  |some i=>i.size == 0
  |none=>false)
 |_=>false
def nT(Q:To)(t:Tg)(x y:Operand):Ta:=(isNil x||isNil y)||((kL Q 24 t||BB Q t) && !Q.eqGuardType Q.depth t)
def PE(S:Same Q P)(t:Tg)(c:BB Q t=true){g j:S9}(h:aQ ρ x g)(k:aQ ρ y j):a2 Q P (ec λ_=>True) (Op.equal t x y) ρ (Op.equal t g j):=by
 unfold Op.equal Op.maxDepth Op.equalIn;refine(gD S t).a8 ?_;rintro ai u _ d ⟨rfl,hu⟩;replace h:=h.mono d;replace k:=k.mono d;unfold BB at c;rw[hu]at c;cases u with
 |pointer e=>
  dsimp only at c;cases h with
  |ptr o=>
   cases k with
   |ptr p=>
    dsimp only;refine(jS S e).a8 ?_;rintro aR n _ f ⟨rfl,i,q,rfl⟩;rw[q]at c;dsimp only at c;have l:i.size=0:=by simpa using c
    rw[l,<-(o.mono f).eq_iff (p.mono f)];simp only[ne_eq,not_true_eq_false,if_false];split
    .exact .ret ⟨S6,Tf⟩
    .refine(s5 _).a8 ?_
     rintro r m _ _ ⟨rfl,_⟩;exact .ret ⟨S6,Tf⟩
   |jH=>exact .ret ⟨S6,Tf⟩
   |_=>exact .stuck
  |jH=>cases k<;>first|exact .ret ⟨S6,Tf⟩|exact .stuck
  |_=>cases k<;>exact .stuck
 |_=>cases c
def J6(S:Same Q P):∀(d:Nat) (t:Tg),Q.eqGuardType d t=P.eqGuardType d t:=by
 obtain⟨T,f⟩:=Q;obtain⟨fo,g⟩:=P;obtain⟨h⟩:=S;simp at h;subst h;intro d;induction d with
 |zero=>intro t;rfl
 |succ d c=>
  intro t;unfold Program.eqGuardType;simp only[c];rfl
def wN{x:Operand}(h:isNil x=true):∃v,x=.const v/\Eb v:=by
 unfold isNil at h;split at h<;>first
  |exact⟨_,S6,.inl S6⟩
  |exact⟨_,S6,.inr (.inl S6)⟩
  |exact⟨_,S6,.inr (.inr (.inl S6))⟩
  |exact⟨_,S6,.inr (.inr (.inr (.inl S6)))⟩
  |exact⟨_,S6,.inr (.inr (.inr (.inr S6)))⟩
  |cases h
def uh(t:Tg)(x y:Operand)(a b:S9):Sem Unit:=do
 match a,b with
 |.nilIface,.nilIface=>
  if (x matches .const _)||(y matches .const _)then return
  if <-Op.eqGuardIn Op.maxDepth t a b then unsupported (.noEntry "binop/eql: two nil values of an interface type with methods, neither of them the literal nil")
 |.agg _,.agg _=>
  if !(<-Go.program).eqGuardType (<-Go.program).depth t then return
  if <-Op.eqGuardIn Op.maxDepth t a b then unsupported (.noEntry "binop/eql: two nil values of an interface type with methods, in a part of a struct or an array")
 |_,_=>pure ()
def y9(op:BinOp)(t:Tg)(x y:Operand)(a b:S9):eqGuard op t x y a b=if op=.eql\/op=.neq then uh t x y a b else pure ():=by cases op<;>rfl
def PL(S:Same Q P)(t:Tg)(x y:Operand)(az:nT Q t x y=true){a b c d:S9}(h:aQ ρ a c)(k:aQ ρ b d)(g:∀v,x=.const v->a=v)(i:∀v,y=.const v->b=v)(j:a≠.tuple #[])(f:b≠.tuple #[]):a2 Q P (ec λ_=>True) (uh t x y a b) ρ (uh t x y c d):=by
 unfold uh;cases h with
 |nilIface=>
  cases k with
  |nilIface=>
   have inner:a2 Q P (ec λ_=>True) (do
    if <-Op.eqGuardIn Op.maxDepth t .nilIface .nilIface then unsupported (.noEntry "binop/eql: two nil values of an interface type with methods, neither of them the literal nil"):Sem Unit) ρ (do
    if <-Op.eqGuardIn Op.maxDepth t .nilIface .nilIface then unsupported (.noEntry "binop/eql: two nil values of an interface type with methods, neither of them the literal nil"):Sem Unit):=by
    refine a2.a8 (A:=ec λ_=>True) ?_ ?_
    .unfold Op.maxDepth Op.eqGuardIn
     refine(gD S t).a8 ?_;rintro ai u _ _ ⟨rfl,_⟩;cases u<;>exact .ret ⟨S6,Tf⟩
    .rintro ai r _ _ ⟨rfl,_⟩
     split
     .trivial
     .exact .ret ⟨S6,Tf⟩
   cases x<;>cases y<;>first|exact inner|exact .ret ⟨S6,Tf⟩
  |gI=>exact Td S6 f
  |_=>exact .ret ⟨S6,Tf⟩
 |agg l m=>
  cases k with
  |agg n o=>
   have hp:Q.eqGuardType Q.depth t=false:=by
    unfold nT at az;simp only[Bool.or_eq_true,TS,Bool.not_eq_true']at az;rcases az with(az|az)|az
    .let⟨v,e,aJ⟩:=wN az
     have:=g v e;subst this;rcases aJ with aJ|aJ|aJ|aJ|aJ<;>cases aJ
    .let⟨v,e,aJ⟩:=wN az
     have:=i v e;subst this;rcases aJ with aJ|aJ|aJ|aJ|aJ<;>cases aJ
    .exact az.2
   dsimp only;refine mP ?_;refine mP ?_;rw[<-J6 S,<-y3 S,hp];exact .ret ⟨S6,Tf⟩
  |gI=>exact Td S6 f
  |_=>exact .ret ⟨S6,Tf⟩
 |gI=>exact Td S6 j
 |_=>cases k<;>first|exact .ret ⟨S6,Tf⟩|exact Td S6 f
def PC(S:Same Q P)(op:BinOp)(t:Tg)(x y:Operand)(i:(op=.eql\/op=.neq)->nT Q t x y=true){a b c d:S9}(h:aQ ρ a c)(k:aQ ρ b d)(j:∀v,x=.const v->a=v)(l:∀v,y=.const v->b=v)(g:(op=.eql\/op=.neq)->a≠.tuple #[]/\b≠.tuple #[]):a2 Q P (ec λ_=>True) (eqGuard op t x y a b) ρ (eqGuard op t x y c d):=by
 rw[y9,y9];split
 .rename_i f
  exact PL S t x y (i f) h k j l (g f).1 (g f).2
 .exact .ret ⟨S6,Tf⟩
def PD(S:Same Q P)(F:Fits Q ρ)(t:Tg)(x y:Operand)(az:nT Q t x y=true){a b c d:S9}(h:aQ ρ a c)(k:aQ ρ b d)(g:∀v,x=.const v->a=v/\c=v)(i:∀v,y=.const v->b=v/\d=v):a2 Q P (ec λ_=>True) (Op.equal t a b) ρ (Op.equal t c d):=by
 unfold nT at az;simp only[Bool.or_eq_true,TS]at az;rcases az with(az|az)|az
 .let⟨v,e,f⟩:=wN az
  obtain⟨rfl,rfl⟩:=g v e;exact(FM S t k f).2
 .let⟨v,e,f⟩:=wN az
  obtain⟨rfl,rfl⟩:=i v e;exact(FM S t h f).1
 .rcases az.1 with hp|hp
  .exact FL S _ 24 t F.lim hp h k
  .exact PE S t hp h k
def binOp_eql(t:Tg)(a b:S9):(∃k m n,a=.int k m/\b=.int k n/\∀op,op=.eql\/op=.neq->binOp op t a b=Op.intCmp op m n)\/
 (∃s u,a=.string s/\b=.string u/\∀op,op=.eql\/op=.neq->binOp op t a b=Op.stringOp op s u)\/
 (∃k j m n,a=.int k m/\b=.int j n/\k≠j)\/(∃k n,a=.float k n)\/(∃k n m,a=.complex k n m)\/
 (binOp .eql t a b=(do pure (.bool (<-Op.equal t a b)))/\binOp .neq t a b=(do pure (.bool (!(<-Op.equal t a b))))):=by
 cases a with
 |float k n=>exact .inr (.inr (.inr (.inl ⟨k,n,S6⟩)))
 |complex k n m=>exact .inr (.inr (.inr (.inr (.inl ⟨k,n,m,S6⟩))))
 |int k m=>
  cases b with
  |int j n=>
   by_cases e:k=j
   .subst e
    exact .inl ⟨k,m,n,S6,S6,λop c=>by rcases c with rfl|rfl<;>simp[binOp]⟩
   .exact .inr (.inr (.inl ⟨k,j,m,n,S6,S6,e⟩))
  |_=>exact .inr (.inr (.inr (.inr (.inr ⟨S6,S6⟩))))
 |string s=>
  cases b with
  |string u=>exact .inr (.inl ⟨s,u,S6,S6,λop c=>by rcases c with rfl|rfl<;>rfl⟩)
  |_=>exact .inr (.inr (.inr (.inr (.inr ⟨S6,S6⟩))))
 |_=>cases b<;>exact .inr (.inr (.inr (.inr (.inr ⟨S6,S6⟩))))
def cY.under{α:Type}{u:TypeDesc}(hu:Q.underlying t=some u){f:TypeDesc->Sem α}(h:cY Q (f u)):cY Q (underlying t >>= f):=λw=>by
 let⟨x,w',e,g,k⟩:=h w;have c:(underlying t >>= f:Sem α).run Q w=(f u).run Q w:=by
  show((underlying t).bind f).run Q w=_;rw[eL];have:(underlying t).run Q w=.ok u w:=by show(match Q.underlying t with|some d=>(pure d:Sem TypeDesc)|none=>stuck "no such type").run Q w=_;rw[hu];rfl
  rw[this];rfl
 have i:∀es,(underlying t >>= f:Sem α).runT Q w es=(f u).runT Q w es:=λes=>by
  show((underlying t).bind f).runT Q w es=_;rw[Sem.runT_bind'];have:(underlying t).runT Q w es=(.ok u w,es):=by show(match Q.underlying t with|some d=>(pure d:Sem TypeDesc)|none=>stuck "no such type").runT Q w es=_;rw[hu];rfl
  rw[this]
 exact⟨x,w',c.trans e,g,λes=>by rw[i es];exact k es⟩
def kY{α:Type}(c:T6):cY Q (stuck c:Sem α):=λw=>⟨_,w,S6,Tf,λes h=>h⟩
def sc{α:Type}:cY Q (unsupported .addressObserved:Sem α):=λw=>⟨_,w,S6,Tf,λes h=>h⟩
def Jf{α:Type}{f:TypeDesc->Sem α}(h:∀u,cY Q (f u)):cY Q (underlying t >>= f):=by
 cases hu:Q.underlying t with
 |some u=>exact cY.under hu (h u)
 |none=>
  have e:cY Q (underlying t:Sem TypeDesc):=λw=>by
   refine⟨.stuck "no such type",w,?_,Tf,λes hm=>?_⟩
   .show(match Q.underlying t with|some d=>(pure d:Sem TypeDesc)|none=>stuck "no such type").run Q w=_
    rw[hu];rfl
   .have:((underlying t:Sem TypeDesc).runT Q w es)=(.halt (.stuck "no such type") w,es):=by show(match Q.underlying t with|some d=>(pure d:Sem TypeDesc)|none=>stuck "no such type").runT Q w es=_;rw[hu];rfl
    rw[this]at hm;exact hm
  exact e.bind f
def v8(t:Tg){a b:S9}(h:a=.tuple #[]\/b=.tuple #[]):cY Q (Op.equal t a b):=by
 unfold Op.equal Op.maxDepth Op.equalIn;refine Jf λu=>?_
 rcases h with rfl|rfl
 .cases u<;>cases b<;>first|exact kY _|exact sc
 .cases u<;>cases a<;>first
   |exact kY _
   |exact sc
   |(rename_i p;cases p<;>first|exact kY _|exact sc)
   |(rename_i p _ _;cases p<;>first|exact kY _|exact sc)
def J7(op:BinOp)(c:op=.eql\/op=.neq)(t:Tg)(x y:Operand){a b:S9}(h:a=.tuple #[]\/b=.tuple #[]):cY Q (do eqGuard op t x y a b;binOp op t a b):=by
 have d:eqGuard op t x y a b=pure ():=by
  rw[y9,Tq c];unfold uh;rcases h with rfl|rfl
  .cases x<;>cases y<;>rfl
  .cases a<;>cases x<;>cases y<;>rfl
 rw[d];show cY Q (binOp op t a b);rcases binOp_eql t a b with⟨q,m,n,rfl,rfl,_⟩|⟨s,u,rfl,rfl,_⟩|⟨q,j,m,n,rfl,rfl,_⟩|⟨q,n,rfl⟩|⟨q,n,m,rfl⟩|⟨f,g⟩
 .rcases h with h|h<;>cases h
 .rcases h with h|h<;>cases h
 .rcases h with h|h<;>cases h
 .rcases h with h|h
  .cases h
  .subst h
   rcases c with rfl|rfl<;>(unfold binOp;first|exact kY _|exact(v8 t (.inr S6)).bind _)
 .rcases h with h|h
  .cases h
  .subst h
   rcases c with rfl|rfl<;>(unfold binOp;first|exact kY _|exact(v8 t (.inr S6)).bind _)
 .rcases c with rfl|rfl
  .rw[f];exact(v8 t h).bind _
  .rw[g];exact(v8 t h).bind _
def Ps(S:Same Q P)(F:Fits Q ρ)(op:BinOp)(f:op=.eql\/op=.neq)(t:Tg)(x y:Operand)(p:nT Q t x y=true){a b c d:S9}(h:aQ ρ a c)(k:aQ ρ b d)(w:∀v,x=.const v->a=v/\c=v)(z:∀v,y=.const v->b=v/\d=v)(D:a≠.tuple #[])(g:b≠.tuple #[]):a2 Q P aQ (binOp op t a b) ρ (binOp op t c d):=by
 have e:=PD S F t x y p h k w z;rcases binOp_eql t a b with⟨q,m,n,rfl,rfl,he⟩|⟨s,u,rfl,rfl,he⟩|⟨q,j,m,n,rfl,rfl,o⟩|⟨q,n,rfl⟩|⟨q,n,m,rfl⟩|⟨i,l⟩
 .cases h;cases k
  rw[he op f];exact AW op m n
 .cases h;cases k
  rw[he op f];exact ta op s u
 .cases h;cases k
  rcases f with rfl|rfl<;>(unfold binOp;simp only[ne_eq,o,not_false_eq_true,if_true];exact .stuck)
 .cases h
 .cases h
 .have key:binOp .eql t c d=(do pure (.bool (<-Op.equal t c d)))/\binOp .neq t c d=(do pure (.bool (!(<-Op.equal t c d))))\/∃q m j n,a=.int q m/\b=.int j n\/∃s u,a=.string s/\b=.string u:=by
   cases h with
   |int q m=>cases k with
    |int j n=>exact .inr ⟨q,m,j,n,.inl ⟨S6,S6⟩⟩
    |gI=>exact Td S6 g
    |_=>exact .inl ⟨S6,S6⟩
   |string s=>cases k with
    |string u=>exact .inr ⟨.i8,0,.i8,0,.inr ⟨s,u,S6,S6⟩⟩
    |gI=>exact Td S6 g
    |_=>exact .inl ⟨S6,S6⟩
   |gI=>exact Td S6 D
   |_=>cases k<;>first|exact .inl ⟨S6,S6⟩|exact Td S6 g
  rcases key with⟨B,C⟩|⟨q,m,j,n,⟨rfl,rfl⟩|⟨s,u,rfl,rfl⟩⟩
  .rcases f with rfl|rfl
   .rw[i,B]
    refine e.a8 ?_;rintro ai r _ _ ⟨rfl,_⟩;exact .ret (.bool _)
   .rw[l,C]
    refine e.a8 ?_;rintro ai r _ _ ⟨rfl,_⟩;exact .ret (.bool _)
  .cases h;cases k
   rcases f with rfl|rfl<;>(unfold binOp;dsimp only;split;(· exact .stuck);exact AW _ _ _)
  .cases h;cases k
   rcases f with rfl|rfl
   .exact ta .eql _ _
   .exact ta .neq _ _
def Qi(op:UnOp){a b:S9}(h:aQ ρ a b):a2 Q P aQ (Op.unary op a) ρ (Op.unary op b):=by
 cases h<;>cases op<;>first
  |exact FT .sub _ 0 _
  |exact FU .xor _ _ _
  |exact .ret (.bool _)
  |exact .stuck
  |trivial
def y0(Q:To)(s d:Tg):Ta:=match Q.underlying s,Q.underlying d with
 |some (.int _),some (.int _)=>true
 |_,_=>false
def PA(S:Same Q P)(s d:Tg)(c:y0 Q s d=true){a b:S9}(h:aQ ρ a b):a2 Q P aQ (convert s d a) ρ (convert s d b):=by
 unfold convert;refine(gD S s).a8 ?_;rintro ai u _ g ⟨rfl,hu⟩;refine(gD S d).a8 ?_;rintro aR v _ i ⟨rfl,f⟩;unfold y0 at c;rw[hu,f]at c;replace h:=(h.mono g).mono i;cases u<;>try (simp at c;done)
 cases v<;>try (simp at c;done)
 cases h<;>first|exact .ret (.int _ _)|trivial
def FI(S:Same Q P)(e:Ta):∀(n m:Nat) (t:Tg) {ρ:Ren} {x d:S9},kL Q m t=true->aQ ρ x d->a2 Q P (ec λ_=>True) (Instr.checkKey e n t x) ρ (Instr.checkKey e n t d):=by
 intro n;induction n with
 |zero=>intro m t ρ x d _ _;trivial
 |succ n p=>
  intro m t ρ x d hp h;cases m with
  |zero=>simp[kL]at hp
  |succ m=>
   unfold Instr.checkKey;refine(gD S t).a8 ?_;rintro ai u _ w ⟨rfl,hu⟩;replace h:=h.mono w;unfold kL at hp;rw[hu]at hp;cases u with
   |struct ba=>
    have r:∀f∈ba.toList,kL Q m f.type=true:=by simpa only[Un]using hp
    cases h with
    |agg g j=>
     dsimp only;refine a2.a8 (A:=ec λ_=>True) ?_ (λai a b _ ⟨_,_⟩=>.ret ⟨S6,Tf⟩);rw[<-Array.forIn_toList,<-Array.forIn_toList];refine xS _ ?_ ai _ (Ren.le_refl ai);intro aR f c q o;split
     .refine(s8 S f.type (bQ.mono o ⟨g,j⟩) f.offset).a8 ?_
      intro B a b _ l;refine(p m f.type (r f q) l).a8 ?_;rintro C _ _ _ _;exact .ret ⟨S6,Tf⟩
     .exact .ret ⟨S6,Tf⟩
    |_=>exact .stuck
   |array len elem=>
    cases h with
    |agg g j=>
     dsimp only;refine a2.a8 (A:=ec λ_=>True) ?_ (λai a b _ ⟨_,_⟩=>.ret ⟨S6,Tf⟩);rw[Std.Legacy.Range.forIn_eq_forIn_range',Std.Legacy.Range.forIn_eq_forIn_range'];refine xS _ ?_ ai _ (Ren.le_refl ai);intro aR i c _ o;refine(jS S elem).a8 ?_;rintro B z _ y ⟨rfl,_⟩;refine(s8 S elem (bQ.mono (Ren.le_trans o y) ⟨g,j⟩) _).a8 ?_;intro C a b _ l;refine(p m elem (by simpa using hp) l).a8 ?_;rintro D _ _ _ _;exact .ret ⟨S6,Tf⟩
    |_=>exact .stuck
   |bool=>cases h<;>exact .ret ⟨S6,Tf⟩
   |int _=>cases h<;>exact .ret ⟨S6,Tf⟩
   |string=>cases h<;>exact .ret ⟨S6,Tf⟩
   |_=>simp at hp
abbrev vp(ai:Ren):Tb TY->Tb TY->Prop:=cK (eR ai)
def Hj(ai:Ren)(x y:Nat×S9):Prop:=x.1=y.1/\aQ ai x.2 y.2
def El{a b c d:TV}(h:fl (ds ρ) a b)(k:fl (ds ρ) c d):(a == c)=(b == d):=by
 cases h<;>cases k<;>first|rfl|skip
 rename_i f _ _ g;have:=f.eq_iff g;simpa using this
def zk(Q:To)(t:Tg):Ta:=match Q.underlying t with
 |some (.int _)|some .string|some .bool=>true
 |_=>false
def wj:S9->Prop
 |.bool _ |.int _ _ |.string _ |.pointer _=>True
 |_=>False
def Ka(c:zk Q t=true)(h:¬(wj x/\wj y)):cY Q (Op.equal t x y):=by
 unfold Op.equal Op.maxDepth Op.equalIn;unfold zk at c;split at c
 .rename_i k hu
  refine cY.under hu ?_;cases x with
  |int k n=>
   cases y with
   |int j m=>exact Td ⟨Tf,Tf⟩ h
   |bool b=>exact Td ⟨Tf,Tf⟩ h
   |string b=>exact Td ⟨Tf,Tf⟩ h
   |pointer b=>exact Td ⟨Tf,Tf⟩ h
   |_=>rcases n with(_|n)|n<;>exact kY _
  |pointer p=>
   cases y with
   |int j m=>exact Td ⟨Tf,Tf⟩ h
   |bool b=>exact Td ⟨Tf,Tf⟩ h
   |string b=>exact Td ⟨Tf,Tf⟩ h
   |pointer b=>exact Td ⟨Tf,Tf⟩ h
   |_=>cases p<;>exact sc
  |bool b=>
   cases y with
   |int j m=>exact Td ⟨Tf,Tf⟩ h
   |bool b=>exact Td ⟨Tf,Tf⟩ h
   |string b=>exact Td ⟨Tf,Tf⟩ h
   |pointer b=>exact Td ⟨Tf,Tf⟩ h
   |_=>exact kY _
  |string b=>
   cases y with
   |int j m=>exact Td ⟨Tf,Tf⟩ h
   |bool b=>exact Td ⟨Tf,Tf⟩ h
   |string b=>exact Td ⟨Tf,Tf⟩ h
   |pointer b=>exact Td ⟨Tf,Tf⟩ h
   |_=>exact kY _
  |_=>
   cases y with
   |int j m=>rcases m with(_|m)|m<;>exact kY _
   |pointer p=>cases p<;>exact sc
   |_=>exact kY _
 .rename_i hu
  refine cY.under hu ?_;cases x<;>cases y<;>first
   |exact kY _
   |exact Td ⟨Tf,Tf⟩ h
 .rename_i hu
  refine cY.under hu ?_;cases x<;>cases y<;>first
   |exact kY _
   |exact Td ⟨Tf,Tf⟩ h
 .cases c
def rO(ai:Ren)(k d:S9)(l aN:Tb TY)(i:Nat)(x y:Nat×S9):Prop:=
 Hj ai x y/\i<=x.1/\∃e c,l[x.1-i]?=some e/\aN[x.1-i]?=some c
def rO.cons{ai:Ren}{k d:S9}{l aN:Tb TY}{e f:TY}{i:Nat}{x y:Nat×S9}(h:rO ai k d l aN (i+1) x y):rO ai k d (e::l) (f::aN) i x y:=by obtain⟨g,n,a,b,j,m⟩:=h;have c:x.1-i=x.1-(i+1)+1:=U;exact⟨g,U,a,b,by rw[c];exact j,by rw[c];exact m⟩
def PK(S:Same Q P)(F:Fits Q ρ)(t:Tg)(m:Nat)(hp:kL Q m t=true):∀(l:Tb TY) (aN:Tb TY) (i:Nat) {ai:Ren} {k c:S9},ρ.le ai->aQ ai k c->vp ai l aN->
 a2 Q P (λaR=>fl (rO aR k c l aN i)) (Instr.findAsking t k l i) ai (Instr.findAsking t c aN i):=by
 intro l;induction l with
 |nil=>intro aN i ai k c _ _ h;cases h;exact .ret .none
 |cons e l p=>
  intro aN i ai k c g f h;cases h with
  |@cons _ j _ q he o=>
   unfold Instr.findAsking;refine(FL S _ m t (F.mono g).lim hp f he.key).a8 ?_;rintro aR r _ d ⟨rfl,_⟩;split
   .exact .ret (.some ⟨⟨S6,he.val.mono d⟩,bg,e,j,aF,aF⟩)
   .refine(p _ (i+1) (Ren.le_trans g d) (f.mono d) (o.mono λ_ _ x=>x.mono d)).mono λu a b _ n=>?_
    cases n with
    |none=>exact .none
    |some h=>exact .some h.cons
def C9:TypeDesc->Ta
 |.int _ |.string |.bool=>true
 |_=>false
def OI(d:TypeDesc){a b c e:S9}(h:aQ ρ a b)(k:aQ ρ c e):Instr.sameNow d a c=Instr.sameNow d b e\/(C9 d=true/\¬(wj a/\wj c)/\Instr.sameNow d a c=none):=by
 by_cases hd:C9 d=true
 .cases h<;>cases k<;>first
   |(left;cases d<;>rfl)
   |(right;refine⟨hd,λf=>f.1,?_⟩;cases d<;>rfl)
   |(right;refine⟨hd,λf=>f.2,?_⟩;cases d<;>rfl)
 .left
  cases d<;>first
   |rfl
   |exact Td S6 hd
   |(cases a<;>cases c<;>cases b<;>cases e<;>rfl)
def Kb{d:TypeDesc}(hu:Q.underlying t=some d)(h:Instr.sameNow d x y=some false){α:Type}(f:Ta->Sem α)(l:cY Q (f false)):cY Q (Op.equal t x y >>= f):=by
 have key:∀(w:S7),(Op.equal t x y).run Q w=.ok false w/\∀es,(Op.equal t x y).runT Q w es=(.ok false w,es):=λw=>by
  unfold Op.equal Op.maxDepth Op.equalIn;have i:(underlying t).run Q w=.ok d w:=by show(match Q.underlying t with|some d=>(pure d:Sem TypeDesc)|none=>stuck "no such type").run Q w=_;rw[hu];rfl
  have j:∀es,(underlying t).runT Q w es=(.ok d w,es):=λes=>by show(match Q.underlying t with|some d=>(pure d:Sem TypeDesc)|none=>stuck "no such type").runT Q w es=_;rw[hu];rfl
  refine⟨?_,λes=>?_⟩
  .show((underlying t).bind _).run Q w=_
   rw[eL,i];dsimp only;unfold Instr.sameNow at h;split at h
   .split at h
    .rename_i c
     subst c;simp only[Option.some.injEq]at h;simp[h]
    .cases h
   .simp only[Option.some.injEq]at h
    simp[h]
   .simp only[Option.some.injEq]at h
    simp[h]
   .cases h
  .show((underlying t).bind _).runT Q w es=_
   rw[Sem.runT_bind',j];dsimp only;unfold Instr.sameNow at h;split at h
   .split at h
    .rename_i c
     subst c;simp only[Option.some.injEq]at h;simp[h]
    .cases h
   .simp only[Option.some.injEq]at h
    simp[h]
   .simp only[Option.some.injEq]at h
    simp[h]
   .cases h
 intro w;let⟨x,w',e,g,k⟩:=l w;refine⟨x,w',?_,g,λes=>?_⟩
 .show((Op.equal t _ _).bind f).run Q w=_
  rw[eL,(key w).1];exact e
 .show noRoomEvent∈(((Op.equal t _ _).bind f).runT Q w es).2->_
  rw[Sem.runT_bind',(key w).2 es];exact k es
def KG(d:TypeDesc)(hu:Q.underlying t=some d){f:S9}(p:aQ ρ k f):∀(l aN:Tb TY) (i:Nat),vp ρ l aN->
 fl (fl (rO ρ k f l aN i)) (Instr.findNow d k l i) (Instr.findNow d f aN i)\/(Instr.findNow d k l i=none/\∀c,cY Q (Instr.findAsking t k l c)):=by
 intro l;induction l with
 |nil=>intro aN i h;cases h;exact .inl (.some .none)
 |cons e l z=>
  intro aN i h;cases h with
  |@cons _ g _ B he w=>
   rcases OI d p he.key with r|⟨y,n,q⟩
   .unfold Instr.findNow
    rw[<-r];cases o:Instr.sameNow d k e.key with
    |none=>exact .inl .none
    |some b=>
     cases b
     .rcases z _ (i+1) w with h|⟨j,m⟩
      .refine .inl ?_
       dsimp only;revert h;generalize Instr.findNow d k l (i+1)=u;generalize Instr.findNow d f B (i+1)=v;intro h;cases h with
       |none=>exact .none
       |some h=>
        cases h with
        |none=>exact .some .none
        |some h=>exact .some (.some h.cons)
      .refine .inr ⟨j,λc=>?_⟩
       unfold Instr.findAsking;exact Kb hu o _ (by simpa using m (c+1))
     .exact .inl (.some (.some ⟨⟨S6,he.val⟩,bg,e,g,aF,aF⟩))
   .refine .inr ⟨by unfold Instr.findNow;rw[q],λc=>?_⟩
    unfold Instr.findAsking;exact(Ka (by unfold zk;rw[hu];cases d<;>first|rfl|cases y) n).bind _
def FO(S:Same Q P)(F:Fits Q ρ)(t:Tg)(m:Nat)(hp:kL Q m t=true){l aN:Tb TY}{f:S9}(g:aQ ρ k f)(h:vp ρ l aN):
 a2 Q P (λaR=>fl (rO aR k f l aN 0)) (Instr.findKey t k l) ρ (Instr.findKey t f aN):=by
 unfold Instr.findKey;refine(gD S t).a8 ?_;rintro ai d _ c ⟨rfl,hd⟩;rcases KG d hd (g.mono c) l aN 0 (h.mono λ_ _ x=>x.mono c)with e|⟨i,j⟩
 .revert e
  generalize Instr.findNow d k l 0=u;generalize Instr.findNow d f aN 0=v;intro e;cases e with
  |none=>exact PK S F t m hp l aN 0 c (g.mono c) (h.mono λ_ _ x=>x.mono c)
  |some x=>exact .ret x
 .rw[i]
  exact a2.dp (j 0)
def tW(h:gb (eR ρ) es ba):vp ρ es.toList ba.toList:=by
 have:∀(l m:Tb TY),l.length=m.length->(∀(i:Nat) x y,l[i]?=some x->m[i]?=some y->eR ρ x y)->cK (eR ρ) l m:=by
  intro l;induction l with
  |nil=>intro m c _;cases m with
   |nil=>exact .nil
   |cons=>simp at c
  |cons x l j=>intro m c k;cases m with
   |nil=>simp at c
   |cons y m=>exact .cons (k 0 x y S6 S6) (j m (by simpa using c) λi u v hu d=>k (i+1) u v (by simpa using hu) (by simpa using d))
 exact this _ _ (by simp[h.1]) λi x y f g=>h.2 i x y (by simpa using f) (by simpa using g)
def sC(Q:To)(t:Tg):Ta:=match Q.underlying t with
 |some (.map k e)=>kL Q 24 k && lO Q e
 |_=>true
def u'{a b c d:S9}(h:aQ ρ a b)(k:aQ ρ c d):aQ ρ (.tuple #[a,c]) (.tuple #[b,d]):=by
 refine ya ⟨S6,λi x y f g=>?_⟩;match i with
 | 0=>simp at f g;subst f;subst g;exact h
 | 1=>simp at f g;subst f;subst g;exact k
 |i+2=>simp at f
def GR{a b c d e f:S9}(h:aQ ρ a b)(k:aQ ρ c d)(l:aQ ρ e f):aQ ρ (.tuple #[a,c,e]) (.tuple #[b,d,f]):=by
 refine ya ⟨S6,λi x y g j=>?_⟩;match i with
 | 0=>simp at g j;subst g;subst j;exact h
 | 1=>simp at g j;subst g;subst j;exact k
 | 2=>simp at g j;subst g;subst j;exact l
 |i+3=>simp at g
def PV(S:Same Q P)(F:Fits Q ρ)(t:Tg)(j:sC Q t=true){u:S9}(h:aQ ρ m dd)(B:aQ ρ k u)(ok:Ta):a2 Q P aQ (Instr.lookup t m k ok) ρ (Instr.lookup t dd u ok):=by
 unfold Instr.lookup;refine(gD S t).a8 ?_;rintro ai d _ q ⟨rfl,hd⟩;cases d with
 |map ew z=>
  unfold sC at j;rw[hd]at j;simp only[TS]at j;have tail:∀(aR:Ren) (es ba:T5),ai.le aR->gb (eR aR) es ba->a2 Q P aQ (do
   Instr.checkKey es.isEmpty 10000 ew k
   let(v,i) <-match <-Instr.findKey ew k es.toList with
    |some (_,v)=>pure (v,true)
    |none=>pure (<-zeroValue z,false)
   pure (if ok then .tuple #[v,.bool i]else v)) aR (do
   Instr.checkKey ba.isEmpty 10000 ew u
   let(v,i) <-match <-Instr.findKey ew u ba.toList with
    |some (_,v)=>pure (v,true)
    |none=>pure (<-zeroValue z,false)
   pure (if ok then .tuple #[v,.bool i]else v)):=by
   intro aR es ba g f;have e:es.isEmpty=ba.isEmpty:=by simp[Array.isEmpty,f.1]
   rw[<-e];refine(FI S _ 10000 24 ew j.1 (B.mono (Ren.le_trans q g))).a8 ?_;rintro w _ _ l _;refine(FO S (F.mono (Ren.le_trans q (Ren.le_trans g l))) ew 24 j.1 (B.mono (Ren.le_trans q (Ren.le_trans g l))) ((tW f).mono λ_ _ x=>x.mono l)).a8 ?_;intro I x y _ H;have fin:∀(n:Ren) (a b:S9) (r:Ta),aQ n a b->a2 Q P aQ (do let(v,i) <-(pure (a,r):Sem (S9×Ta));pure (if ok then .tuple #[v,.bool i]else v)) n (do let(v,i) <-(pure (b,r):Sem (S9×Ta));pure (if ok then .tuple #[v,.bool i]else v)):=by
    intro n a b r p;cases ok
    .exact .ret p
    .exact .ret (u' p (.bool r))
   cases H with
   |none=>
    refine(rz S z j.2).a8 ?_;intro n a b _ p;exact fin n a b false p
   |some D=>exact fin I _ _ true D.1.2
  have C:=h.mono q;cases C with
  |p5=>
   refine a2.a8 (A:=λaR es ba=>gb (eR aR) es ba) (.ret ⟨S6,aF⟩) ?_;exact λaR es ba g f=>tail aR es ba g f
  |map G=>
   dsimp only;refine(mO G).a8 ?_;intro aR o J g E;cases E with
   |map f c=>
    refine a2.a8 (A:=λw es ba=>gb (eR w) es ba) (.ret f) ?_;exact λw es ba l f=>tail w es ba (Ren.le_trans g l) f
   |_=>exact .stuck
  |_=>exact .stuck
 |_=>exact .stuck
end
end
section
section
variable{Q P:To}{ρ:Ren}
def PQ{a b c d:S9}(h:aQ ρ a b)(k:aQ ρ c d)(g:Instr.sameBits 10000 a c=Instr.sameBits 10000 b d):a2 Q P aQ (Instr.keyThatStays a c) ρ (Instr.keyThatStays b d):=by
 unfold Instr.keyThatStays;rw[<-g];split
 .exact .ret k
 .refine(s5 _).a8 ?_
  rintro ai n _ f ⟨rfl,_⟩;split
  .exact .ret (k.mono f)
  .exact .ret (h.mono f)
def Kh(h:gb (eR ρ) es ba)(i:Nat){f g:TY->TY}(o:∀x y,eR ρ x y->eR ρ (f x) (g y)):gb (eR ρ) (es.modify i f) (ba.modify i g):=by
 refine⟨by simp[h.1],λj x y c d=>?_⟩;simp only[Array.getElem?_modify]at c d;by_cases n:i=j
 .subst n
  simp only[if_true]at c d;rcases l:es[i]? with _|u
  .rw[l]at c;cases c
  .rcases m:ba[i]? with _|v
   .rw[m]at d;cases d
   .rw[l]at c;rw[m]at d
    cases c;cases d;exact o u v (h.2 i u v l m)
 .rw[Tm n]at c d
  exact h.2 j x y c d
def Ki(h:gb (eR ρ) es ba){e f:TY}(k:eR ρ e f):gb (eR ρ) (es.push e) (ba.push f):=by
 refine⟨by simp[h.1],λi u v hu c=>?_⟩;rw[iq]at hu c;by_cases d:i=es.size
 .rw[Tq d]at hu;rw[Tq (by rw[d,h.1])]at c
  cases hu;cases c;exact k
 .rw[Tm d]at hu;rw[Tm (by rw[<-h.1];exact d)]at c
  exact h.2 i u v hu c
def qj{d:Nat}{o c:Obj}(h:ρ.r r d)(k:eZ ρ o c)(f:py o):a2 Q P (ec λ_=>True) (setObj r o) ρ (setObj d c):=.inr ⟨d,c,_,S6,h,k,f,(),S6,S6,Tf⟩
def Kg(h:gb (eR ρ) es ba)(i:Nat){f:S9}(g:aQ ρ k f):aQ ρ (((es[i]?).map (·.key)).getD k) (((ba[i]?).map (·.key)).getD f):=by
 rcases c:es[i]? with _|u
 .have:ba[i]?=none:=Um (by rw[<-h.1];exact Array.getElem?_eq_none_iff.1 c)
  rw[this];exact g
 .have j:=bu c
  have d:ba[i]?=some (ba[i]'(by rw[<-h.1];exact j)):=fb _;rw[d];exact(h.2 i u _ c d).key
def SA{f g:S9×S9->Ta}(i:∀x y z w,aQ ρ x z->aQ ρ y w->f (x,y)=true->g (z,w)=true):∀(a b c d:TP),cK (aQ ρ) a c->cK (aQ ρ) b d->(a.zip b).all f=true->(c.zip d).all g=true:=by
 intro a;induction a with
 |nil=>intro b c d h _ _;cases h;rfl
 |cons x a o=>
  intro b c d h k e;cases h with
  |cons m l=>
   cases k with
   |nil=>rfl
   |cons n j=>
    simp only[List.zip_cons_cons,List.all_cons,TS]at e ⊢;exact⟨i _ _ _ _ m n e.1,o _ _ _ l j e.2⟩
def H9:∀(n:Nat) {a b c d:S9},aQ ρ a b->aQ ρ c d->Instr.sameBits n a c=true->Instr.sameBits n b d=true:=by
 intro n;induction n with
 |zero=>
  intro a b c d h k e;cases h<;>cases k<;>first
   |exact e
   |(exfalso;simp[Instr.sameBits]at e;done)
   |(simp only[Instr.sameBits]at e ⊢;rw[<-e];exact(El (by constructor<;>assumption) (by constructor<;>assumption)).symm)
 |succ n l=>
  intro a b c d h k e;cases h<;>cases k<;>first
   |exact e
   |(exfalso;simp[Instr.sameBits]at e;done)
   |(simp only[Instr.sameBits]at e ⊢;rw[<-e];exact(El (by constructor<;>assumption) (by constructor<;>assumption)).symm)
   |(rename_i i _ _ _ j;simp only[Instr.sameBits,TS]at e ⊢;exact⟨e.1,l i j e.2⟩)
   |(rename_i o q i j p r m C
     simp only[Instr.sameBits,TS]at e ⊢;exact⟨by rw[<-i,<-m];exact e.1,SA (f:=λ(x,y)=>Instr.sameBits n x y) (g:=λ(x,y)=>Instr.sameBits n x y) (λx y z w u B=>l u B) o.toList p.toList q.toList r.toList (bQ.toList ⟨i,j⟩) (bQ.toList ⟨m,C⟩) e.2⟩)
def Ia{s u:ByteArray}(e:Instr.sameBits n (.string s) (.string u)=true):s=u:=by
 have e:(s.data == u.data)=true:=by cases n<;>exact e
 exact congrArg ByteArray.mk (beq_iff_eq.1 e)
def H':∀(n:Nat) {a b d:S9},aQ ρ a b->Instr.sameBits n b d=true->aQ ρ a d:=by
 intro n a b d h;induction h generalizing n d with
 |iface t h c=>
  intro e;cases d with
  |iface u w=>
   cases n with
   |zero=>simp[Instr.sameBits]at e
   |succ n=>
    simp only[Instr.sameBits,TS,beq_iff_eq]at e;obtain⟨rfl,e⟩:=e;exact .iface _ (c n e)
  |_=>cases n<;>simp[Instr.sameBits]at e
 |@agg x b p q c=>
  intro e;cases d with
  |agg d=>
   cases n with
   |zero=>simp[Instr.sameBits]at e
   |succ n=>
    simp only[Instr.sameBits,TS,beq_iff_eq]at e;obtain⟨f,g⟩:=e;rw[Un]at g;refine .agg (p.trans f) λi u y hu l=>?_
    obtain⟨z,o⟩:∃z,b[i]?=some z:=⟨_,fb (by rw[f];exact bu l)⟩
    exact c i u z hu o n (g (z,y) (hk (i:=i) (List.getElem?_zip_eq_some.2 ⟨by simpa using o,by simpa using l⟩)))
  |_=>cases n<;>simp[Instr.sameBits]at e
 |@gI b j h=>
  intro e;cases d<;>first
   |exact .gI j Tf
   |(exfalso;cases b<;>first|(cases n<;>simp[Instr.sameBits]at e;done)|exact h)
   |skip
  all_goals (cases b<;>first|(exfalso;cases n<;>simp[Instr.sameBits]at e;done)|(exfalso;exact h)|skip)
  all_goals (cases n<;>(simp only[Instr.sameBits,beq_iff_eq]at e;subst e;exact .gI j h))
 |string s=>
  intro e;cases d with
  |string u=>rw[<-Ia e];exact .string s
  |_=>cases n<;>simp[Instr.sameBits]at e
 |bool b=>
  intro e;cases d<;>first|(cases n<;>simp[Instr.sameBits]at e;done)|(cases n<;>(simp only[Instr.sameBits,beq_iff_eq]at e;subst e;exact .bool _))
 |int k m=>
  intro e;cases d<;>first|(cases n<;>simp[Instr.sameBits]at e;done)|(cases n<;>(simp only[Instr.sameBits,TS,beq_iff_eq]at e;obtain⟨rfl,rfl⟩:=e;exact .int _ _))
 |jH=>
  intro e;cases d<;>first|(cases n<;>simp[Instr.sameBits]at e;done)|(cases n<;>(simp only[Instr.sameBits,beq_iff_eq]at e;subst e;exact .jH))
 |ptr h=>
  intro e;cases d<;>first|(cases n<;>simp[Instr.sameBits]at e;done)|(cases n<;>(simp only[Instr.sameBits,beq_iff_eq]at e;subst e;exact .ptr h))
 |qP=>
  intro e;cases d<;>first|(cases n<;>simp[Instr.sameBits]at e;done)|(cases n<;>(simp only[Instr.sameBits,beq_iff_eq]at e;subst e;exact .qP))
 |nilIface=>
  intro e;cases d<;>first|exact .nilIface|(cases n<;>simp[Instr.sameBits]at e;done)
 |_=>
  intro e;exfalso;cases d<;>(cases n<;>simp[Instr.sameBits]at e)
def FZ(S:Same Q P)(F:Fits Q ρ)(t:Tg)(z:sC Q t=true){l v D:S9}(h:aQ ρ m dd)(w:aQ ρ k l)(aa:aQ ρ v D):ef true Q P (ec λ_=>True) (Instr.mapUpdate t m k v) ρ (Instr.mapUpdate t dd l D):=by
 unfold Instr.mapUpdate;refine ef.a8 (gD S t) ?_;rintro ai d _ ad ⟨rfl,hd⟩;cases d with
 |map ew au=>
  unfold sC at z;rw[hd]at z;simp only[TS]at z;have ag:=h.mono ad;cases ag with
  |p5=>exact(jR S (.plain _) S6).up
  |map Z=>
   dsimp only;refine ef.a8 (mO Z) ?_;intro aR o av ae ao;cases ao with
   |@map es ba ak c=>
    dsimp only;have af:=Ren.le_trans ad ae;refine ef.a8 (FI S _ 10000 24 ew z.1 (w.mono af)) ?_;rintro ap _ _ T _;have V:=Ren.le_trans af T;have Y:=ak.mono λ_ _ (x:eR aR _ _)=>x.mono T
    refine ef.a8 (FO S (F.mono V) ew 24 z.1 (w.mono V) (tW Y)) ?_;intro G x y U R;have C:=Ren.le_trans V U;have J:=Y.mono λ_ _ (x:eR ap _ _)=>x.mono U
    have M:=(Ren.le_trans ae (Ren.le_trans T U)).sub _ _ Z;cases R with
    |none=>exact(qj M (.map (Ki J (e:=⟨k,v,c⟩) (f:=⟨l,D,c⟩) ⟨w.mono C,aa.mono C,S6⟩) _) Tf).up
    |@some p q al=>
     obtain⟨i,u⟩:=p;obtain⟨j,aC⟩:=q;obtain⟨⟨e,_⟩,_,aq,ar,ah,aj⟩:=al;dsimp only at e ah aj;subst e;dsimp only;have L:=Kg J i (w.mono C);have K:=w.mono C;have fin:∀(r:Ren) (a b:S9),G.le r->aQ r a b->eZ r (.map (es.modify i λe=>{e with key:=a,val:=v}) c) (.map (ba.modify i λe=>{e with key:=b,val:=D}) c):=λr a b B H=>
      .map (Kh (J.mono λ_ _ (x:eR G _ _)=>x.mono B) i (f:=λe=>{e with key:=a,val:=v}) (g:=λe=>{e with key:=b,val:=D}) λx y R=>⟨H,aa.mono (Ren.le_trans C B),R.born⟩) _
     by_cases I:Instr.sameBits 10000 (((es[i]?).map (·.key)).getD k) k=Instr.sameBits 10000 (((ba[i]?).map (·.key)).getD l) l
     .refine ef.a8 (PQ L K I) ?_
      intro r a b B H;exact(qj (B.sub _ _ M) (fin r a b B H) Tf).up
     .have W:Instr.sameBits 10000 (((es[i]?).map (·.key)).getD k) k=false:=by
       cases E:Instr.sameBits 10000 (((es[i]?).map (·.key)).getD k) k with
       |false=>rfl
       |true=>exact Td (E.trans (H9 10000 L K E).symm) I
      have X:Instr.sameBits 10000 (((ba[i]?).map (·.key)).getD l) l=true:=by
       cases E:Instr.sameBits 10000 (((ba[i]?).map (·.key)).getD l) l with
       |true=>rfl
       |false=>exact Td (W.trans E.symm) I
      have am:=H' 10000 L X;unfold Instr.keyThatStays;rw[W,X];refine .inr (.inr ⟨S6,λn=>⟨_,_,_,_,(),(),S6,S6,M,fin G _ _ (Ren.le_refl G) ?_,Tf,S6,Tf⟩⟩);split
      .exact K
      .exact am
   |_=>exact a2.up .stuck
  |_=>exact a2.up .stuck
 |_=>exact a2.up .stuck
def Qa(S:Same Q P)(t:Tg){v w:S9}(h:aQ ρ v w):a2 Q P aQ (Instr.range t v) ρ (Instr.range t w):=by
 unfold Instr.range;refine(gD S t).a8 ?_;rintro ai d _ m ⟨rfl,_⟩;have fin:∀(aR:Ren) (o g:Obj),eZ aR o g->a2 Q P aQ (do let it <-(pure o:Sem Obj);pure (Tj (<-newObj it))) aR (do let it <-(pure g:Sem Obj);pure (Tj (<-newObj it))):=by intro aR o g j;refine a2.a8 (A:=eZ) (.ret j) ?_;intro u a b _ l;refine(s7 l).a8 ?_;intro y r q _ f;exact .ret (.ptr ⟨f,S6,S6⟩)
 have i:=h.mono m;cases d with
 |string=>cases i with
  |string s=>exact fin ai _ _ (.stringIter s 0)
  |_=>exact .stuck
 |map k e=>cases i with
  |p5=>exact fin ai _ _ (.mapIter .none 0 #[] 0)
  |map f=>
   dsimp only;refine(mO f).a8 ?_;intro aR o g n j;cases j with
   |map p c=>exact fin aR _ _ (.mapIter (.some (n.sub _ _ f)) c #[] c)
   |_=>exact .stuck
  |_=>exact .stuck
 |_=>cases i<;>exact .stuck
def za(h:gb (eR ρ) es ba)(p:Nat->Ta):gb (eR ρ) (es.filter λe=>p e.born) (ba.filter λe=>p e.born):=by
 have key:∀(l m:Tb TY),cK (eR ρ) l m->cK (eR ρ) (l.filter λe=>p e.born) (m.filter λe=>p e.born):=by
  intro l;induction l with
  |nil=>intro m k;cases k;exact .nil
  |cons x l f=>
   intro m k;cases k with
   |cons c d=>
    simp only[List.filter_cons,<-c.born];split
    .exact .cons c (f _ d)
    .exact f _ d
 have e:=key _ _ (tW h);have back:∀(a b:T5),cK (eR ρ) a.toList b.toList->gb (eR ρ) a b:=by
  intro a b k;have gen:∀(l m:Tb TY),cK (eR ρ) l m->l.length=m.length/\∀(i:Nat) x y,l[i]?=some x->m[i]?=some y->eR ρ x y:=by
   intro l;induction l with
   |nil=>intro m k;cases k;exact⟨S6,aF⟩
   |cons x l f=>
    intro m k;cases k with
    |cons c d=>
     let⟨i1,i2⟩:=f _ d;refine⟨by simp[i1],λi u v hu g=>?_⟩;cases i with
     |zero=>simp at hu g;subst hu;subst g;exact c
     |succ i=>exact i2 i u v (by simpa using hu) (by simpa using g)
  let⟨j,n⟩:=gen _ _ k;exact⟨by simpa using j,λi x y c o=>n i x y (by simpa using c) (by simpa using o)⟩
 exact back _ _ (by simpa using e)
def Ke{a b c d:T5}(h:gb (eR ρ) a b)(k:gb (eR ρ) c d):gb (eR ρ) (a++c) (b++d):=by
 refine⟨by simp[h.1,k.1],λi x y g f=>?_⟩;rw[Array.getElem?_append]at g f;rw[<-h.1]at f;by_cases j:i<a.size
 .rw[Tq j]at g f;exact h.2 i x y g f
 .rw[Tm j]at g f;exact k.2 _ x y g f
def Ij{b:Ta}(h:gb (eR ρ) es ba):gb (fl (eR ρ)) ((if b then #[none]else #[])++es.map some) ((if b then #[none]else #[])++ba.map some):=by
 have k:gb (fl (eR ρ)) (es.map some) (ba.map some):=by refine⟨by simp[h.1],λi x y c d=>?_⟩;simp only[Uk,Ux]at c d;obtain⟨u,hu,rfl⟩:=c;obtain⟨v,g,rfl⟩:=d;exact .some (h.2 i u v hu g)
 cases b
 .simpa using k
 .refine⟨by simp[h.1],λi x y c d=>?_⟩
  simp only[if_true]at c d;rw[Array.getElem?_append]at c d;by_cases f:i<1
  .rw[Tq (by simpa using f)]at c d
   have:i=0:=U;subst this;simp at c d;subst c;subst d;exact .none
  .rw[Tm (by simpa using f)]at c d
   exact k.2 _ x y c d
def Hx(h:gb (eR ρ) es ba)(p:Nat->Ta):es.all (λe=>p e.born)=ba.all (λe=>p e.born):=by
 have e:∀(l m:Tb TY),cK (eR ρ) l m->l.all (λe=>p e.born)=m.all (λe=>p e.born):=by
  intro l;induction l with
  |nil=>intro m k;cases k;rfl
  |cons x l f=>intro m k;cases k with
   |cons d c=>simp[f _ c,d.born]
 have:=e _ _ (tW h);simpa using this
def P7(S:Same Q P)(t:Tg)(b:Ta){v w:S9}(h:aQ ρ v w):a2 Q P aQ (Instr.next v b t) ρ (Instr.next w b t):=by
 unfold Instr.next;cases h with
 |@ptr a J R=>
  obtain⟨r,off,sp⟩:=a;obtain⟨aa,Z,ad⟩:=J;obtain⟨g,q,u⟩:=R;dsimp only at g q u;subst q;subst u;cases off with
  |succ n=>exact .stuck
  |zero=>
   dsimp only;refine(mO g).a8 ?_;intro ai o Y G V;have over:a2 Q P aQ (pure (.tuple #[.bool false]):Sem S9) ai (pure (.tuple #[.bool false])):=.ret (ya (om (.bool false)));cases V with
   |stringIter s p=>
    cases b
    .exact .stuck
    .dsimp only
     split
     .refine(qj (G.sub _ _ g) (.stringIter s _) Tf).a8 ?_
      rintro aR _ _ _ _;exact .ret (GR (.bool _) (.int _ _) (.int _ _))
     .exact over
   |@mapIter m dd hm d seen last=>
    cases b
    .cases hm with
     |none=>exact over
     |@some m dd hm=>
      dsimp only;refine(mO hm).a8 ?_;intro aR x ae H W;cases W with
      |@map es ba j c=>
       dsimp only;have K:es.isEmpty=ba.isEmpty:=by simp[Array.isEmpty,j.1]
       have L:=Hx j λn=>decide (n>=last)
       simp only[<-K,<-L];split
       .trivial
       .have z:=za j λn=>!seen.contains n
        have B:=za z λn=>decide (n<d)
        have U:=za z λn=>decide (n>=d)
        have f:=Ij (b:=(((es.filter λe=>!seen.contains e.born).filter λe=>decide (e.born<d)).isEmpty)) (Ke B U);have M:((es.filter λe=>!seen.contains e.born).filter λe=>decide (e.born<d)).isEmpty=((ba.filter λe=>!seen.contains e.born).filter λe=>decide (e.born<d)).isEmpty:=by have:=B.1;simp only[Array.isEmpty,this]
        rw[<-M];revert f;generalize (if ((es.filter λe=>!seen.contains e.born).filter λe=>decide (e.born<d)).isEmpty then #[none]else #[])++(((es.filter λe=>!seen.contains e.born).filter λe=>decide (e.born<d))++((es.filter λe=>!seen.contains e.born).filter λe=>decide (e.born>=d))).map some=C;generalize (if ((es.filter λe=>!seen.contains e.born).filter λe=>decide (e.born<d)).isEmpty then #[none]else #[])++(((ba.filter λe=>!seen.contains e.born).filter λe=>decide (e.born<d))++((ba.filter λe=>!seen.contains e.born).filter λe=>decide (e.born>=d))).map some=D;intro f;rw[<-f.1];refine(s5 _).a8 ?_;rintro af n _ i ⟨rfl,_⟩;rcases E:C[n]? with _|x
        .exact .stuck
        .have T:=bu E
         obtain⟨y,F⟩:∃y,D[n]?=some y:=⟨_,fb (by rw[<-f.1];exact T)⟩
         have X:=f.2 n x y E F;rw[F];cases X with
         |none=>exact .ret (ya (om (.bool false)))
         |some he=>
          have l:=Ren.le_trans G (Ren.le_trans H i);dsimp only;rw[<-he.born];refine(qj (l.sub _ _ g) (.mapIter (.some ((Ren.le_trans H i).sub _ _ hm)) _ _ _) Tf).a8 ?_;rintro ag _ _ I _;exact .ret (GR (.bool _) ((he.key.mono i).mono I) ((he.val.mono i).mono I))
      |_=>exact .stuck
    .cases hm<;>exact .stuck
   |_=>cases b<;>exact .stuck
 |_=>exact .stuck
def find_born(h:gb (eR ρ) es ba)(n:Nat):fl (eR ρ) (es.find? (·.born == n)) (ba.find? (·.born == n)):=by
 have e:∀(l m:Tb TY),cK (eR ρ) l m->fl (eR ρ) (l.find? (·.born == n)) (m.find? (·.born == n)):=by
  intro l;induction l with
  |nil=>intro m k;cases k;exact .none
  |cons x l g=>intro m k;cases k with
   |@cons _ y _ _ c f=>
    have d:(x.born == n)=(y.born == n):=by rw[c.born]
    simp only[List.find?_cons,<-d];split
    .exact .some c
    .exact g _ f
 have:=e _ _ (tW h);simpa using this
def PB{v w:S9}(h:aQ ρ v w):a2 Q P aQ (Instr.entry v) ρ (Instr.entry w):=by
 unfold Instr.entry;cases h with
 |@ptr a i j=>
  obtain⟨r,off,sp⟩:=a;obtain⟨D,C,F⟩:=i;obtain⟨g,d,f⟩:=j;dsimp only at g d f;subst d;subst f;cases off with
  |succ n=>exact .stuck
  |zero=>
   dsimp only;refine(mO g).a8 ?_;intro ai o B y p;cases p with
   |@mapIter m dd hm E seen last=>
    cases hm with
    |none=>exact .stuck
    |some hm=>
     dsimp only;cases seen.back? with
     |none=>exact .stuck
     |some st=>
      dsimp only;refine(mO hm).a8 ?_;intro aR x G z q;cases q with
      |@map es ba l c=>
       dsimp only;split
       .trivial
       .have e:=find_born l st
        revert e;generalize Array.find? (λ(x:TY)=>x.born == st) es=u;generalize Array.find? (λ(x:TY)=>x.born == st) ba=aC;intro e;cases e with
        |none=>trivial
        |some he=>exact .ret (u' he.key he.val)
      |_=>exact .stuck
   |_=>exact .stuck
 |_=>exact .stuck
end
end
section
section
variable{Q P:To}{ρ:Ren}
def PS{v w:S9}(h:aQ ρ v w):a2 Q P (ec λn=>∀o l c,v=.slice o l c->n=l) (Builtin.lenOf v) ρ (Builtin.lenOf w):=by cases h<;>first|exact .stuck|exact .ret ⟨S6,λo l c e=>by cases e;try rfl⟩
def RS(s:Tb UInt8):bQ ρ (s.toArray.map λb=>.int .u8 b.toNat) (s.toArray.map λb=>.int .u8 b.toNat):=by refine⟨S6,λi x y c d=>?_⟩;rw[c]at d;cases d;simp at c;obtain⟨b,_,rfl⟩:=c;exact .int _ _
def FP(size:Nat){v w:S9}(h:aQ ρ v w):a2 Q P (λ_ a b=>a=#[]/\b=#[]) (Builtin.firstCells size 0 v) ρ (Builtin.firstCells size 0 w):=by
 have z:∀a:TD,loadCells a (0*size)=Sem.pure #[]:=λa=>by rw[Nat.zero_mul];rfl
 cases h with
 |slice h l c=>show a2 Q P _ (loadCells _ (0*size)) ρ (loadCells _ (0*size));rw[z,z];exact .ret ⟨S6,S6⟩
 |ju d f=>show a2 Q P _ (loadCells _ (0*size)) ρ (loadCells _ (0*size));rw[z,z];exact .ret ⟨S6,S6⟩
 |kr l c=>exact .ret ⟨S6,S6⟩
 |string s=>exact .ret ⟨aF,aF⟩
 |_=>exact .stuck
def xR(size n:Nat){v w:S9}(h:aQ ρ v w)(d:∀a c,v=.slice (some a) 0 c->n=0):a2 Q P bQ (Builtin.firstCells size n v) ρ (Builtin.firstCells size n w):=by
 cases h with
 |slice h l c=>exact FW h _
 |@ju a b i j=>
  obtain rfl:=d _ _ S6;exact(FP size (.ju (a:=a) (b:=b) i j)).mono λ_ _ _ _ ⟨f,g⟩=>by rw[f,g];exact .nil
 |kr l c=>exact .ret .nil
 |string s=>exact .ret (RS (ρ:=ρ) _)
 |_=>exact .stuck
def RX{a b:Te}(h:bQ ρ a b)(n:Nat):bQ ρ (Builtin.zeroCells a n) (Builtin.zeroCells b n):=by unfold Builtin.zeroCells;rw[<-h.1];have:=Bj h Bh (n*a.size);rwa [<-h.1]at this
def sd{α:Type}(u:Unsupported)(hu:∀g,u≠.initOrder g):cY Q (unsupported u:Sem α):=λw=>⟨.unsupported u,w,S6,by
 cases u with
 |initOrder g=>exact Td S6 (hu g)
 |_=>trivial,λes h=>h⟩
def Jd{α:Type}(f:Tw)(u:Unsupported)(hu:∀g,u≠.initOrder g):cY Q (do mark (.extern f);unsupported u:Sem α):=λw=>⟨.unsupported u,w,S6,by
 cases u with
 |initOrder g=>exact Td S6 (hu g)
 |_=>trivial,λes h=>by
  have:noRoomEvent∈es.push ⟨.mark (.extern f),false,true⟩:=h;rcases Array.mem_push.1 this with k|k
  .exact k
  .unfold noRoomEvent at k;cases k⟩
def FR{a b:TD}(h:ds ρ a b)(n:Nat):a2 Q P (λ_ x y=>x=true->y=true) (Builtin.holdsCells a n) ρ (Builtin.holdsCells b n):=by
 unfold Builtin.holdsCells;refine(s9 h.block).a8 ?_;rintro ai x y _ c;cases x with
 |none=>cases y with
  |none=>exact .ret id
  |some y=>cases c
 |some x=>cases y with
  |none=>cases c
  |some y=>
   obtain⟨e,f⟩:=x;obtain⟨i,g⟩:=y;refine .ret λd=>?_
   have k:f<=g:=by rcases c.2 with k|k<;>omega
   simp only[TS,decide_eq_true_eq]at d ⊢;rw[<-h.spot,<-h.off];exact⟨d.1,U⟩
def cY.shape{α:Type}{f:TI (Tg×Nat)->Sem α}(h:∀o,cY Q (f o)):cY Q (.shape r f):=λw=>h _ w
def cY.frozen{α:Type}{a:TD}{f:Ta->Sem α}(h:∀o,cY Q (f o)):cY Q (.frozen a f):=λw=>h _ w
def CI{α:Type}{a:TD}{f:Ta->Sem α}(g:a.spot.isSome=true)(h:cY Q (f false)):cY Q (Builtin.holdsCells a n >>= f):=by
 refine cY.shape (f:=λo=>(match o with|some (_,m)=>(Sem.pure (a.spot.isNone && a.off+n<=m):Sem Ta)|none=>Sem.pure false).bind f) λo=>?_
 have c:a.spot.isNone=false:=by cases d:a.spot<;>simp_all
 rcases o with _|⟨e,m⟩
 .exact h
 .dsimp only
  rw[c];exact h
def Je{α:Type}{k:Ta->Sem α}(size l n:Nat){a:TD}(c:a.spot.isSome=true)(x:S9)(d:cY Q (k true)):cY Q (Builtin.mayShare size l n (some a) x >>= k):=by unfold Builtin.mayShare;simp only[bind_assoc,pure_bind];refine CI c ?_;exact cY.frozen λo=>d
def F0{α β:Type}{A:Ren->α->β->Prop}{k:Ta->Sem α}{m:Ta->Sem β}(size l n:Nat){base':TV}(z:fl (ds ρ) Tc base')(h:aQ ρ x y)(E:x≠.tuple #[])(r:cY Q (k true))(D:∀ai,ρ.le ai->a2 Q P A (k false) ai (m false)):a2 Q P A (Builtin.mayShare size l n Tc x >>= k) ρ (Builtin.mayShare size l n base' y >>= m):=by
 have fin:∀(ai:Ren) (b f:Ta),ρ.le ai->(b=false->f=false)->a2 Q P A (k b) ai (m f):=by
  intro ai b f i p;cases b with
  |true=>exact .dp r
  |false=>rw[p S6];exact D ai i
 unfold Builtin.mayShare;have tail:∀(ai:Ren) (t bh:Ta),ρ.le ai->(t=true->bh=true)->a2 Q P A ((if (!t)=true then pure true else(match (generalizing:=false) x with
  |.slice (some j) _ _=>do pure (!(<-Builtin.holdsCells j (n*size))||Tc.any (·.block == j.block))
  |_=>(pure false:Sem Ta)):Sem Ta) >>= k) ai ((if (!bh)=true then pure true else(match (generalizing:=false) y with
  |.slice (some j) _ _=>do pure (!(<-Builtin.holdsCells j (n*size))||base'.any (·.block == j.block))
  |_=>(pure false:Sem Ta)):Sem Ta) >>= m):=by
  intro ai t bh i G;cases t with
  |false=>exact .dp r
  |true=>
   rw[G S6];simp only[Bool.not_true,Uf,if_false];have H:∀(b f:TD),ds ρ b f->a2 Q P A ((do pure (!(<-Builtin.holdsCells b (n*size))||Tc.any (·.block == b.block))) >>= k) ai ((do pure (!(<-Builtin.holdsCells f (n*size))||base'.any (·.block == f.block))) >>= m):=by
    intro b f p;simp only[bind_assoc,pure_bind];refine(FR (p.mono i) _).a8 ?_;intro aR u aC w hu;refine fin aR _ _ (Ren.le_trans i w) λg=>?_
    have e:Tc.any (·.block == b.block)=base'.any (·.block == f.block):=by
     cases z with
     |none=>rfl
     |some h=>exact yM h p
    simp only[Bool.or_eq_false_iff,Bool.not_eq_false']at g ⊢;exact⟨hu g.1,by rw[<-e];exact g.2⟩
   cases h with
   |slice o l c=>exact H _ _ o
   |ju I F=>
    dsimp only;simp only[bind_assoc,pure_bind];exact a2.dp (CI F r)
   |gI=>exact Td S6 E
   |_=>exact fin ai false false i id
 dsimp only;cases z with
 |none=>
  simp only[bind_assoc,pure_bind];exact tail ρ true true (Ren.le_refl _) id
 |some o=>
  simp only[bind_assoc,pure_bind];refine(FR o _).a8 ?_;intro ai c bp i B;refine a2.a8 (A:=λ_ d q=>q=true->d=true) (.inr ⟨_,_,S6,(o.mono i).add _,λb f k _=>⟨f,S6,k⟩⟩) ?_;intro aR d q w hd;exact tail aR _ _ (Ren.le_trans i w) (λg=>by
   simp only[TS,Bool.not_eq_true']at g ⊢;refine⟨B g.1,?_⟩;cases C:q with
   |false=>rfl
   |true=>rw[hd C]at g;exact Td g.2 aF)
inductive px(ρ:Ren):TV->TV->Nat->Nat->Prop
 |none {l c}:px ρ none none l c
 |some {a b:TD} {l c} (h:ds ρ a b):px ρ (some a) (some b) l c
 |spot {a b:TD} (aI:ρ.fu=true) (af:a.spot.isSome=true):px ρ (some a) (some b) 0 0
def px.mono{ρ ai:Ren}(h:ρ.le ai){a b:TV}{l c:Nat}(x:px ρ a b l c):px ai a b l c:=by
 cases x with
 |none=>exact .none
 |some k=>exact .some (k.mono h)
 |spot d f=>exact .spot (h.fu.trans d) f
def F1{α β:Type}{A:Ren->α->β->Prop}{k:Ta->Sem α}{j:Ta->Sem β}(size l n:Nat){f:TV}{aN bp:Nat}(c:px ρ Tc f aN bp)(h:aQ ρ x m)(i:x≠.tuple #[])(d:cY Q (k true))(g:∀ai,ρ.le ai->a2 Q P A (k false) ai (j false)):a2 Q P A (Builtin.mayShare size l n Tc x >>= k) ρ (Builtin.mayShare size l n f m >>= j):=by
 cases c with
 |none=>exact F0 size l n .none h i d g
 |some c=>exact F0 size l n (.some c) h i d g
 |spot p o=>exact a2.dp (Je size l n o x d)
def yE(Q:To)(ee:Tv Tg):Ta:=match ee[0]?,ee[1]? with
 |some s,some x=>(match Q.underlying x with|some (.int _)=>false|_=>true) && (match Q.underlying s with|some (.slice e)=>lO Q e|_=>true)
 |_,_=>false
def Po(S:Same Q P)(E:ρ.room=true)(ee:Tv Tg)(t:Tg)(w:yE Q ee=true){a b:Te}(h:bQ ρ a b):a2 Q P aQ (Builtin.append_ ee t a) ρ (Builtin.append_ ee t b):=by
 unfold Builtin.append_;unfold yE at w;rcases ae:ee[0]? with _|jI
 .exact .stuck
 rcases af:ee[1]? with _|tp
 .rw[ae,af]at w;cases w
 rw[ae,af]at w;simp only[TS]at w;obtain⟨ag,T⟩:=w;rcases bQ.get? h 0 with⟨s,aX,H,aa,ay⟩|⟨H,aa⟩
 rotate_left
 .rw[H];exact .stuck
 rcases bQ.get? h 1 with⟨x,aH,R,ad,ah⟩|⟨R,ad⟩
 rotate_left
 .rw[H,R];exact .stuck
 rw[H,aa,R,ad];dsimp only;refine(gD S jI).a8 ?_;rintro ai d _ am ⟨rfl,hd⟩;cases d with
 |slice elem=>
  dsimp only;rw[hd]at T;dsimp only at T;have az:=ay.mono am;have sl:(∃Tc C l c,s=.slice Tc l c/\aX=.slice C l c/\px ai Tc C l c)\/(∀Tc l c,s≠.slice Tc l c):=by
   cases az with
   |kr l c=>exact .inl ⟨_,_,l,c,S6,S6,.none⟩
   |slice I l c=>exact .inl ⟨_,_,l,c,S6,S6,.some I⟩
   |ju D F=>exact .inl ⟨_,_,0,0,S6,S6,.spot D F⟩
   |_=>exact .inr λ_ _ _ e=>by cases e
  rcases sl with⟨Tc,C,j,B,rfl,rfl,aw⟩|no
  rotate_left
  .split
   .exact Td S6 (no _ _ _)
   .exact .stuck
  dsimp only;refine(jS S elem).a8 ?_;rintro aR size _ ao ⟨rfl,_⟩;refine(gD S tp).a8 ?_;rintro aN u _ ap ⟨rfl,hu⟩;have X:∀k,u≠.int k:=by rintro k rfl;rw[hu]at ag;cases ag
  refine a2.a8 (A:=ec λz=>z=false) (.ret ⟨S6,by cases u<;>first|rfl|exact Td S6 (X _)⟩) ?_;rintro aO z _ aq ⟨rfl,aB⟩;have al:=Ren.le_trans am (Ren.le_trans ao (Ren.le_trans ap aq));subst aB;simp only[Uf,if_false,Bool.not_false,if_true,false_or];by_cases W:x=.tuple #[]
  .subst W
   exact a2.dp ((show cY Q (Builtin.lenOf (.tuple #[]))from kY _).bind _)
  refine(PS (ah.mono al)).a8 ?_;rintro av n _ ar ⟨rfl,hlen⟩;have L:=Ren.le_trans al ar;have aG:=Ren.le_trans ao (Ren.le_trans ap (Ren.le_trans aq ar));have y:=ah.mono L;have J:=aw.mono aG;have V:∀a c,x=.slice (some a) 0 c->n=0:=λa c e=>hlen _ _ _ e
  have aA:aQ av (.slice Tc j B) (.slice C j B):=by
   cases J with
   |none=>exact .kr _ _
   |some h=>exact .slice h _ _
   |spot D F=>exact .ju D F
  split
  .cases J with
   |none=>
    refine(xR size n y V).a8 ?_;intro G new Z f K;exact .ret (.kr _ _)
   |spot D F=>
    obtain rfl:n=0:=U;refine(FP size y).a8 ?_;rintro G new Z f ⟨rfl,rfl⟩;exact .ret (.ju (f.fu.trans D) F)
   |some I=>
    refine(xR size n y V).a8 ?_;intro G new Z f K;dsimp only;refine(F7 _ _ 0 ((I.mono f).add _) K.toList).a8 ?_;rintro M _ _ p _;exact .ret (.slice ((I.mono f).mono p) _ _)
  .refine(nA S elem).a8 ?_
   rintro G i _ f ⟨rfl,_⟩;have fin:∀(M:Ren),av.le M->a2 Q P aQ (do
    let q <-choose (.appendCap (j+n) B elem);let i <-typeInfo elem;askRoom (q*i.bytes)
    let old <-Builtin.firstCells size j (.slice Tc j B);let new <-Builtin.firstCells size n x;let z <-zeroValue elem;let r <-newRow elem (old++new++Builtin.zeroCells z.cells (q-(j+n)));pure (.slice (some r) (j+n) q)) M (do
    let q <-choose (.appendCap (j+n) B elem);let i <-typeInfo elem;askRoom (q*i.bytes)
    let old <-Builtin.firstCells size j (.slice C j B);let new <-Builtin.firstCells size n aH;let z <-zeroValue elem;let r <-newRow elem (old++new++Builtin.zeroCells z.cells (q-(j+n)));pure (.slice (some r) (j+n) q)):=by
    intro aP p;refine(s5 _).a8 ?_;rintro aS m _ aj ⟨rfl,_⟩;refine(nA S elem).a8 ?_;rintro aT i2 _ ak ⟨rfl,_⟩;refine(FG (by rw[ak.room,aj.room,p.room,L.room];exact E) _).a8 ?_;rintro aU _ _ aC _;have au:=Ren.le_trans p (Ren.le_trans aj (Ren.le_trans ak aC));refine(xR size j (aA.mono au) (λa c e=>by cases e;rfl)).a8 ?_;intro aV old aK aD ax;refine(xR size n ((y.mono au).mono aD) V).a8 ?_;intro aW new Z aE K;refine(rz S elem T).a8 ?_;intro aY z aM aF X;refine(xT ((((ax.mono aE).append K).mono aF).append (RX (rI X) _)) elem).a8 ?_;intro aZ r aL aJ E;exact .ret (.slice E _ _)
   split
   .refine a2.a8 (A:=ec λ_=>True) (jR S (.error _) S6) λM _ _ p _=>?_
    refine(nA S elem).a8 ?_;rintro aI i _ o ⟨rfl,_⟩;split
    .refine a2.a8 (A:=λ_ (_:Unit) (_:Unit)=>False) ?_ λ_ _ _ _ h=>h.elim
     refine F1 _ _ _ (J.mono (Ren.le_trans f (Ren.le_trans p o))) (y.mono (Ren.le_trans f (Ren.le_trans p o))) W (sd _ (by intro g e;cases e)) λG Y=>?_
     exact .inr ⟨_,_,S6,.noRoom (by rw[Y.room,o.room,p.room,f.room,L.room];exact E),Tf⟩
    .exact fin _ (Ren.le_trans f (Ren.le_trans p o))
   .refine(nA S elem).a8 ?_
    rintro aI i _ o ⟨rfl,_⟩;split
    .refine a2.a8 (A:=λ_ (_:Unit) (_:Unit)=>False) ?_ λ_ _ _ _ h=>h.elim
     refine F1 _ _ _ (J.mono (Ren.le_trans f o)) (y.mono (Ren.le_trans f o)) W (sd _ (by intro g e;cases e)) λG Y=>?_
     exact .inr ⟨_,_,S6,.noRoom (by rw[Y.room,o.room,f.room,L.room];exact E),Tf⟩
    .exact fin _ (Ren.le_trans f o)
 |_=>exact .stuck
def PR(S:Same Q P)(ee:Tv Tg)(t:Tg){a b:Te}(h:bQ ρ a b):a2 Q P aQ (Builtin.len_ ee t a) ρ (Builtin.len_ ee t b):=by
 unfold Builtin.len_;rcases y:ee[0]? with _|tp
 .exact .stuck
 rcases bQ.get? h 0 with⟨x,C,f,i,q⟩|⟨f,i⟩
 rotate_left
 .rw[f];exact .stuck
 rw[f,i];dsimp only;refine(gD S tp).a8 ?_;rintro ai d _ r ⟨rfl,_⟩;have g:=q.mono r;cases d with
 |array n e=>exact .ret (.int _ _)
 |pointer j=>
  dsimp only;refine(gD S j).a8 ?_;rintro aR u _ z ⟨rfl,_⟩;cases u<;>first|exact .ret (.int _ _)|exact .stuck
 |map ew w=>
  cases g with
  |p5=>exact .ret (.int _ _)
  |map p=>
   dsimp only;refine(mO p).a8 ?_;intro aR o B _ m;cases m with
   |map l c=>
    dsimp only;rw[<-l.1];exact .ret (.int _ _)
   |_=>exact .stuck
  |_=>exact .stuck
 |chan e u=>
  cases g with
  |qP=>exact .ret (.int _ _)
  |_=>exact .stuck
 |_=>cases g<;>first|exact .ret (.int _ _)|exact .stuck
def P3{a b c d:S9}(h:aQ ρ a b)(k:aQ ρ c d):a2 Q P aQ (Builtin.max2 a c) ρ (Builtin.max2 b d):=by
 cases h<;>cases k<;>first|exact .stuck|exact .ret (.int _ _)|trivial|skip
 rename_i s u;unfold Builtin.max2;refine(ta _ _ _).a8 ?_;intro ai x y _ f;refine(AQ f).a8 ?_;rintro aR b _ _ ⟨rfl,_⟩;exact .ret (.string _)
def P6{a b c d:S9}(h:aQ ρ a b)(k:aQ ρ c d):a2 Q P aQ (Builtin.min2 a c) ρ (Builtin.min2 b d):=by
 cases h<;>cases k<;>first|exact .stuck|exact .ret (.int _ _)|trivial|skip
 rename_i s u;unfold Builtin.min2;refine(ta _ _ _).a8 ?_;intro ai x y _ f;refine(AQ f).a8 ?_;rintro aR b _ _ ⟨rfl,_⟩;exact .ret (.string _)
def FQ{f:S9->S9->Sem S9}(i:∀(ai:Ren) a b c d,aQ ai a b->aQ ai c d->a2 Q P aQ (f a c) ai (f b d)):∀(l m:TP) {ai:Ren} {x y:S9},aQ ai x y->cK (aQ ai) l m->a2 Q P aQ (l.foldlM f x) ai (m.foldlM f y):=by
 intro l;induction l with
 |nil=>intro m ai x y h k;cases k;exact .ret h
 |cons a l o=>
  intro m ai x y h k;cases k with
  |cons g j=>
   rw[List.foldlM_cons,List.foldlM_cons];refine(i ai _ _ _ _ h g).a8 ?_;intro aR u v p n;exact o _ n (j.mono λ_ _ k=>k.mono p)
def P2(ee:Tv Tg)(t:Tg){a b:Te}(h:bQ ρ a b):a2 Q P aQ (Builtin.max_ ee t a) ρ (Builtin.max_ ee t b):=by
 unfold Builtin.max_;have:=h.toList;revert this;generalize a.toList=l;generalize b.toList=m;intro k;cases k with
 |nil=>exact .stuck
 |cons d c=>exact FQ (λ_ _ _ _ _ h k=>P3 h k) _ _ d c
def P5(ee:Tv Tg)(t:Tg){a b:Te}(h:bQ ρ a b):a2 Q P aQ (Builtin.min_ ee t a) ρ (Builtin.min_ ee t b):=by
 unfold Builtin.min_;have:=h.toList;revert this;generalize a.toList=l;generalize b.toList=m;intro k;cases k with
 |nil=>exact .stuck
 |cons d c=>exact FQ (λ_ _ _ _ _ h k=>P6 h k) _ _ d c
def A0(S:Same Q P){v w:S9}(h:aQ ρ v w)(y:Nat)(c:BoundsCode):a2 Q P (ec λr=>r<=y) (Instr.sliceBound v y c) ρ (Instr.sliceBound w y c):=by
 unfold Instr.sliceBound;refine(xQ h).a8 ?_;rintro ai ⟨k,i⟩ _ _ ⟨rfl,_⟩;dsimp only;split
 .exact .ret ⟨S6,U⟩
 .exact s4 S _ _ _ _
def OL(c:Ta)(cap:Nat):TZ->Sem Nat
 |some v=>Instr.sliceBound v cap (if c then .slice3Acap else .slice3Alen)
 |none=>pure cap
def OJ(c:Ta)(len m:Nat):TZ->Ta->Sem Nat
 |some v,true=>Instr.sliceBound v m .slice3B
 |some v,false=>Instr.sliceBound v m (if c then .sliceAcap else .sliceAlen)
 |none,false=>pure len
 |none,true=>stuck "Slice: max without high"
def OK(h:Nat)(c:Ta):TZ->Sem Nat
 |some v=>Instr.sliceBound v h (if c then .slice3C else .sliceB)
 |none=>pure 0
def FB(b:Ta)(n c:Nat)(bY f d:TZ):Instr.sliceBounds b n c bY f d=(OL b c d).bind λm=>(OJ b n m f d.isSome).bind λh=>(OK h d.isSome bY).bind λl=>Sem.pure (l,h,m):=by unfold Instr.sliceBounds;cases d<;>cases f<;>cases bY<;>rfl
def s'(S:Same Q P)(b:Ta)(n c:Nat){w p q d g:TZ}(y:fl (aQ ρ) bY w)(B:fl (aQ ρ) p q)(o:fl (aQ ρ) d g):
 a2 Q P (ec λr=>n<=c->r.2.2<=c/\r.2.1<=r.2.2/\r.1<=r.2.1) (Instr.sliceBounds b n c bY p d) ρ (Instr.sliceBounds b n c w q g):=by
 rw[FB,FB];have i:d.isSome=g.isSome:=by cases o<;>rfl
 rw[<-i];refine a2.bind (A:=ec λm=>m<=c/\(d.isSome=false->m=c)) ?_ ?_
 .cases o with
  |none=>exact .ret ⟨S6,bg,λ_=>S6⟩
  |some h=>exact(A0 S h _ _).mono λ_ _ _ _ h=>⟨h.1,h.2,bR⟩
 clear i;generalize I:d.isSome=j;rintro ai m _ u ⟨rfl,hm,G⟩;have z:=y.mono λ_ _ (k:aQ ρ _ _)=>k.mono u
 have C:=B.mono λ_ _ (k:aQ ρ _ _)=>k.mono u
 refine a2.bind (A:=ec λh=>n<=c->h<=m) ?_ ?_
 .cases C with
  |none=>cases j with
   |false=>exact .ret ⟨S6,λf=>by rw[G S6];exact f⟩
   |true=>exact .stuck
  |some h=>cases j<;>exact(A0 S h _ _).mono λ_ _ _ _ h=>⟨h.1,λ_=>h.2⟩
 rintro aR D _ H ⟨rfl,E⟩;refine a2.bind (A:=ec λl=>l<=D) ?_ ?_
 .cases z with
  |none=>exact .ret ⟨S6,T' _⟩
  |some h=>exact A0 S (h.mono H) _ _
 rintro J l _ _ ⟨rfl,F⟩;exact .ret ⟨S6,λf=>⟨hm,E f,F⟩⟩
def Qd(S:Same Q P)(t:Tg){v w:S9}(h:aQ ρ v w){I G H C D:TZ}(L:fl (aQ ρ) bY I)(M:fl (aQ ρ) G H)(F:fl (aQ ρ) C D):
 a2 Q P aQ (Instr.slice t v bY G C) ρ (Instr.slice t w I H D):=by
 unfold Instr.slice;refine(gD S t).a8 ?_;rintro ai d _ y ⟨rfl,_⟩;have q:=h.mono y;have j:=L.mono λ_ _ (k:aQ ρ _ _)=>k.mono y
 have o:=M.mono λ_ _ (k:aQ ρ _ _)=>k.mono y
 have r:=F.mono λ_ _ (k:aQ ρ _ _)=>k.mono y
 have K:C.isSome=D.isSome:=by cases F<;>rfl
 cases d with
 |string=>
  cases q with
  |string s=>
   dsimp only;rw[<-K];split
   .exact .stuck
   .refine(s' S false s.size s.size j o (.none)).a8 ?_
    rintro aR ⟨l,i,m⟩ _ _ ⟨rfl,_⟩;exact .ret (.string _)
  |_=>exact .stuck
 |slice e=>
  cases q with
  |kr l c=>
   dsimp only;refine(s' S true l c j o r).a8 ?_;rintro aR ⟨bY,i,m⟩ _ _ ⟨rfl,_⟩;dsimp only;refine(jS S e).a8 ?_;rintro E n _ _ ⟨rfl,_⟩;simp only[Option.map_none,ite_self];exact .ret (.kr _ _)
  |ju V X=>
   dsimp only;refine(s' S true 0 0 j o r).a8 ?_;rintro aR ⟨bY,i,m⟩ _ p ⟨rfl,R⟩;let⟨hm,T,W⟩:=R (Nat.le_refl 0);dsimp only at hm T W;obtain rfl:m=0:=U;obtain rfl:i=0:=U;obtain rfl:bY=0:=U;dsimp only;refine(jS S e).a8 ?_;rintro E n _ f ⟨rfl,_⟩;exact .ret (.ju ((Ren.le_trans p f).fu.trans V) X)
  |slice z l c=>
   dsimp only;refine(s' S true l c j o r).a8 ?_;rintro aR ⟨bY,i,m⟩ _ p ⟨rfl,_⟩;dsimp only;refine(jS S e).a8 ?_;rintro E n _ f ⟨rfl,_⟩;have g:=z.mono (Ren.le_trans p f);split
   .exact .ret (.slice g _ _)
   .exact .ret (.slice (g.add _) _ _)
  |_=>exact .stuck
 |pointer J=>
  dsimp only;refine(xP S q).a8 ?_;intro aR a b p z;refine(gD S J).a8 ?_;rintro E u _ f ⟨rfl,_⟩;cases u with
  |array n e=>
   dsimp only;have B:=Ren.le_trans p f;refine(s' S false n n (j.mono λ_ _ (k:aQ ai _ _)=>k.mono B) (o.mono λ_ _ (k:aQ ai _ _)=>k.mono B) (r.mono λ_ _ (k:aQ ai _ _)=>k.mono B)).a8 ?_;rintro aa ⟨bY,i,m⟩ _ Y ⟨rfl,_⟩;dsimp only;refine(jS S e).a8 ?_;rintro ad n _ Z ⟨rfl,_⟩;have g:=z.mono (Ren.le_trans f (Ren.le_trans Y Z));split
   .exact .ret (.slice g _ _)
   .exact .ret (.slice (g.add _) _ _)
  |_=>exact .stuck
 |_=>cases q<;>exact .stuck
def Qe(S:Same Q P)(t:Tg){v w:S9}(h:aQ ρ v w){r j l u y:TZ}(z:fl (aQ ρ) bY r)(B:fl (aQ ρ) j l)(C:fl (aQ ρ) u y):
 a2 Q P aQ (Instr.sliceAt t v bY j u) ρ (Instr.sliceAt t w r l y):=by
 unfold Instr.sliceAt;refine(gD S t).a8 ?_;rintro ai d _ c ⟨rfl,_⟩;have g:=h.mono c;have o:=z.mono λ_ _ (k:aQ ρ _ _)=>k.mono c
 have p:=B.mono λ_ _ (k:aQ ρ _ _)=>k.mono c
 have q:=C.mono λ_ _ (k:aQ ρ _ _)=>k.mono c
 cases d with
 |array n e=>
  dsimp only;refine(uU g).a8 ?_;intro aR a b f D;refine(s' S false n n (o.mono λ_ _ (k:aQ ai _ _)=>k.mono f) (p.mono λ_ _ (k:aQ ai _ _)=>k.mono f) (q.mono λ_ _ (k:aQ ai _ _)=>k.mono f)).a8 ?_;rintro H ⟨bY,G,m⟩ _ E ⟨rfl,_⟩;dsimp only;refine(jS S e).a8 ?_;rintro I n _ F ⟨rfl,_⟩;have i:=D.mono (Ren.le_trans E F);split
  .exact .ret (.slice i _ _)
  .exact .ret (.slice (i.add _) _ _)
 |_=>exact Qd S t g o p q
def Qh(S:Same Q P)(hv t:Tg)(f:lO Q t=true){v w:S9}(h:aQ ρ v w):a2 Q P aQ (Instr.typeAssert v hv t true) ρ (Instr.typeAssert w hv t true):=by
 unfold Instr.typeAssert;simp only[if_true];have c:∀ai:Ren,a2 Q P aQ (do pure (.tuple #[<-zeroValue t,.bool false])) ai (do pure (.tuple #[<-zeroValue t,.bool false])):=by intro ai;refine(rz S t f).a8 ?_;intro aR z m _ f;exact .ret (u' f (.bool _))
 refine(gD S t).a8 ?_;rintro ai d _ j ⟨rfl,_⟩;have g:=h.mono j;cases d with
 |interface want=>
  cases g with
  |nilIface=>exact c ai
  |iface u k=>
   dsimp only;refine(nA S u).a8 ?_;rintro aR i _ l ⟨rfl,_⟩;split
   .exact .ret (u' (.iface u (k.mono l)) (.bool _))
   .exact c aR
  |_=>exact .stuck
 |_=>
  cases g with
  |nilIface=>exact c ai
  |iface u k=>
   dsimp only;split
   .exact .ret (u' k (.bool _))
   .exact c ai
  |_=>exact .stuck
def PW(f:Tw)(g:ρ.eb f=none){a b c d:Te}(h:bQ ρ a b)(k:bQ ρ c d):a2 Q P aQ (Instr.makeFunc (.func f) a c) ρ (Instr.makeFunc (.func f) b d):=
 .ret (.func (.func f g) h.1 h.2 k.1 k.2)
def F5{v w:S9}(h:aQ ρ v w)(j:v≠tv){a b:Te}(k:bQ ρ a b):a2 Q P me (Deferred.ofValue v a) ρ (Deferred.ofValue w b):=by
 cases h with
 |func i c d f g=>exact .ret ⟨.fn i ⟨f,g⟩,bQ.append ⟨c,d⟩ k⟩
 |nilFunc=>exact .ret ⟨.nil,k⟩
 |k9=>exact Td S6 j
 |_=>exact .stuck
end
end
section
section
variable{Q P:To}{ρ:Ren}
open Go.Extern.Atomic
def two{α:Type}(a:Tv α)(h:a.size=2):a=#[a[0],a[1]]:=by
 apply Array.ext
 .simp[h]
 .intro i c d
  have:i=0\/i=1:=U;rcases this with rfl|rfl<;>rfl
def one{α:Type}(a:Tv α)(h:a.size=1):a=#[a[0]]:=by
 apply Array.ext
 .simp[h]
 .intro i c d
  have:i=0:=U;rcases this with rfl;rfl
def bQ.at{a b:Te}(h:bQ ρ a b)(i:Nat)(c:i<a.size)(d:i<b.size):aQ ρ a[i] b[i]:=h.2 i _ _ (fb c) (fb d)
def Pr(k:IntKind)(c:k≠.u64){a b:TD}(h:ds ρ a b):a2 Q P (λ_ x y=>∃n,x=.int k n/\y=.int k n) (read (.int k) a) ρ (read (.int k) b):=by
 unfold Extern.Atomic.read;refine(AY h .atomic).a8 ?_;intro ai v w l d;cases d with
 |int f n=>
  dsimp only;split
  .rename_i e
   subst e;exact .ret ⟨n,S6,S6⟩
  .exact .dp (sd _ (by intro g e;cases e))
 |ptr hp=>
  cases k with
  |u64=>exact Td S6 c
  |_=>exact .dp (sd _ (by intro g e;cases e))
 |_=>exact .dp (sd _ (by intro g e;cases e))
def ym(e:Te->Sem S9):Prop:=∀(Q P:To) (_:Same Q P) (ρ:Ren) (a b:Te),bQ ρ a b->a2 Q P aQ (e a) ρ (e b)
def Kr(k:IntKind)(i:k≠.u64):ym (loadT (.int k)):=by
 intro Q P S ρ a b h;by_cases c:a.size=1
 .have g:b.size=1:=h.1 ▸ c
  have j:=h.at 0 U U;rw[one a c,one b g];unfold loadT;refine(xP S j).a8 ?_;intro ai x y _ m;exact(Pr k i m).mono λ_ _ _ _ ⟨n,d,f⟩=>by rw[d,f];exact .int k n
 .obtain⟨l⟩:=a
  rcases l with _|⟨x,_|⟨y,_|⟨z,_|⟨u,l⟩⟩⟩⟩<;>first|exact a2.stuck|exact Td S6 c
def Ks:ym storeT:=by
 intro Q P S ρ a b h;by_cases c:a.size=2
 .have d:b.size=2:=h.1 ▸ c
  have f:=h.at 0 U U;have g:=h.at 1 U U;rw[two a c,two b d];unfold storeT;refine(xP S f).a8 ?_;intro ai x y l i;refine(F6 i (g.mono l) .atomic).a8 ?_;intro aR _ _ _ _;exact .ret (.tuple S6 aF)
 .obtain⟨l⟩:=a
  rcases l with _|⟨x,_|⟨y,_|⟨z,_|⟨u,l⟩⟩⟩⟩<;>first|exact a2.stuck|exact Td S6 c
end
end
section
section
variable{Q P:To}{ρ:Ren}
inductive h2(ρ:Ren):Next->Next->Prop
 |value {v w} (h:aQ ρ v w):h2 ρ (.value v) (.value w)
 |skip:h2 ρ .skip .skip
 |enter (f) {a b} (h:bQ ρ a b) (ae:∀n,ρ.eb f=some n->a.size=n):h2 ρ (.enter f a) (.enter f b)
 |round {l aN} (aj:ρ.r l aN) (f) {a b} (h:bQ ρ a b) (c d) (ag:ρ.cW c/\ρ.cW d):h2 ρ (.round l f a c d) (.round aN f b c d)
 |defer {d e} (h:me ρ d e):h2 ρ (.defer d) (.defer e)
inductive kz(Spec:Tw->TF->TF->Prop)(P:To)(f:Tw)(fn:TF):Prop
 |none (h:fn.body=none) (I:Extern.findNext fn=none) (J:Extern.find fn=none) (ax:(fn.name.endsWith ".init" && !fn.name.startsWith "(" && !fn.name.startsWith "gosem.")=false):kz Spec P f fn
 |ext (e:Te->Sem S9) (eO:TF) (h:P.funcs[f]?=some eO) (hb:fn.body=none) (dk:eO.body=none) (I:Extern.findNext fn=none) (lH:Extern.findNext eO=none) (J:Extern.find fn=some e) (my:Extern.find eO=some e) (k6:eO.name≠ "runtime.NumGoroutine") (he:ym e):kz Spec P f fn
 |same (eO:TF) (h:P.funcs[f]?=some eO) (hb:fn.body.isSome=true) (dk:eO.body.isSome=true) (ak:eO.name≠ "runtime.NumGoroutine") (aA:fn.ntmps=eO.ntmps)
  (aa:Spec f fn eO):kz Spec P f fn
structure fe(Spec:Tw->TF->TF->Prop)(Q P:To):Prop where
 size:Q.funcs.size=P.funcs.size
 fn:∀f fn,Q.funcs[f]?=some fn->fn.name≠ "runtime.NumGoroutine"/\kz Spec P f fn
variable{Spec:Tw->TF->TF->Prop}
def AS(S:Same Q P)(H:fe Spec Q P)(f:Tw){a b:Te}(h:bQ ρ a b)(w:∀n,ρ.eb f=some n->a.size=n):a2 Q P h2 (callFunc f a) ρ (callFunc f b):=by
 unfold callFunc;refine mP ?_;rcases e:Q.funcs[f]? with _|fn
 .exact .stuck
 let⟨B,p⟩:=H.fn f fn e;dsimp only;rw[Tm (by simpa using B)];cases p with
 |none d j l u=>
  rw[Tq (by simp[d]),j,l,u];simp only[Uf,if_false];exact .dp (Jd f _ (by intro g e;cases e))
 |ext e c i d o j q l r m he=>
  rw[i];dsimp only;rw[Tm (show ¬(c.name == "runtime.NumGoroutine")=true by simpa using m),Tq (show fn.body.isNone=true by simp[d]),Tq (show c.body.isNone=true by simp[o]),j,q,l,r];exact .inr ⟨_,_,S6,.extern f,(he Q P S ρ a b h).a8 λ_ _ _ _ C=>.ret (.value C)⟩
 |same c i d o m E p=>
  have y:¬fn.body.isNone=true:=by cases D:fn.body<;>simp_all
  have z:¬c.body.isNone=true:=by cases D:c.body<;>simp_all
  rw[i];dsimp only;rw[Tm y,Tm (by simpa using m),Tm z];exact .ret (.enter f h w)
inductive BE(ρ:Ren)(l m:Loop):Prop
 |mk (I:l.state=m.state) (J:l.pending=m.pending) (ax:l.fn=m.fn) (aZ:bQ ρ l.tmps m.tmps) (bs:l.params=m.params) (cv:l.assign=m.assign) (cP:l.body=m.body) (dV:ρ.r l.defers m.defers) (eo:ρ.cW l.assign/\ρ.cW l.body/\∀c,l.pending=some c->ρ.cW c):BE ρ l m
def uT{l aN:Nat}(h:ρ.r l aN):a2 Q P BE (Instr.getLoop l) ρ (Instr.getLoop aN):=by
 unfold Instr.getLoop;refine(mO h).a8 ?_;intro ai o r _ q;cases q with
 |loop c d f g i j m n p=>exact .ret ⟨c,d,f,g,i,j,m,n,p⟩
 |_=>exact .stuck
def tC(ai:Ren)(x y:Nat×Tb Deferred):Prop:=ai.r x.1 y.1/\cK (me ai) x.2 y.2
def AV(f:Tw){a b:Te}(h:bQ ρ a b)(e9:Tv Tmp)(c d:Code)(n:ρ.cW c/\ρ.cW d){o q:TN}(z:fl ρ.r o q):
 a2 Q P tC (Instr.enterLoop f a e9 c d o) ρ (Instr.enterLoop f b e9 c d q):=by
 unfold Instr.enterLoop;have tail:∀(ai:Ren) (x y:Nat×Tb Deferred),ρ.le ai->tC ai x y->a2 Q P tC (do pure (<-newObj (.loop {state:=.ready,pending:=none,fn:=f,tmps:=a,params:=e9,assign:=c,body:=d,defers:=x.1}),x.2)) ai
  (do pure (<-newObj (.loop {state:=.ready,pending:=none,fn:=f,tmps:=b,params:=e9,assign:=c,body:=d,defers:=y.1}),y.2)):=by
  intro ai x y p g;refine(s7 (.loop (l:={state:=.ready,pending:=none,fn:=f,tmps:=a,params:=e9,assign:=c,body:=d,defers:=x.1}) (m:={state:=.ready,pending:=none,fn:=f,tmps:=b,params:=e9,assign:=c,body:=d,defers:=y.1}) S6 S6 S6 (h.mono p) S6 S6 S6 g.1 (by rw[p.cW];exact⟨n.1,n.2,λ_ e=>by cases e⟩))).a8 ?_;intro aR r B i j;exact .ret ⟨j,g.2.mono λ_ _ k=>k.mono i⟩
 cases z with
 |none=>
  refine(s7 (.deferred (.some .nil))).a8 ?_;intro ai r B l j;exact a2.a8 (A:=tC) (.ret (a:=(_,_)) (b:=(_,_)) ⟨j,.cons ⟨.collected j,.nil⟩ .nil⟩) λaR x y i g=>tail aR x y (Ren.le_trans l i) g
 |some w=>
  refine(uT w).a8 ?_;intro ai x y l g;obtain⟨C,D,E,F,G,H,I,u,J⟩:=g;exact a2.a8 (A:=tC) (.ret (a:=(_,_)) (b:=(_,_)) ⟨u,.nil⟩) λaR x y i g=>tail aR x y (Ren.le_trans l i) g
def RZ{a b:Te}(h:bQ ρ a b)(e9:Tv Tmp){x y:Te}(k:bQ ρ x y):
 bQ ρ ((e9.zip x).foldl (λtmps (t,a)=>tmps.setIfInBounds t a) a) ((e9.zip y).foldl (λtmps (t,a)=>tmps.setIfInBounds t a) b):=by
 have key:∀(l:Tb Tmp) (u v:TP),cK (aQ ρ) u v->∀{a b:Te},bQ ρ a b->bQ ρ ((l.zip u).foldl (λtmps (x:Tmp×S9)=>tmps.setIfInBounds x.1 x.2) a) ((l.zip v).foldl (λtmps (x:Tmp×S9)=>tmps.setIfInBounds x.1 x.2) b):=by
  intro l;induction l with
  |nil=>intro u v _ a b h;exact h
  |cons t l f=>
   intro u v k a b h;cases k with
   |nil=>exact h
   |cons d c=>
    simp only[List.zip_cons_cons,List.foldl_cons];exact f _ _ c (h.set _ d)
 have:=key e9.toList x.toList y.toList k.toList h;rw[<-Array.foldl_toList,<-Array.foldl_toList,Array.toList_zip,Array.toList_zip];exact this
def Qj{l aN:Nat}(h:ρ.r l aN){a b:Te}(k:bQ ρ a b):a2 Q P h2 (Instr.yield l a) ρ (Instr.yield aN b):=by
 unfold Instr.yield;refine(uT h).a8 ?_;intro ai x y d n;obtain⟨o,p,f,g,i,j,m,q,c⟩:=n;dsimp only;rw[<-k.1,<-i,<-f,<-j,<-m];have fin:=a2.ret (Q:=Q) (P:=P) (A:=h2) (ρ:=ai) (.round (d.sub _ _ h) x.fn (RZ g x.params (k.mono d)) x.assign x.body ⟨c.1,c.2.1⟩);split
 .exact a2.stuck
 .exact fin
def FH(S:Same Q P){l aN:Nat}(h:ρ.r l aN):a2 Q P (ec λ_=>True) (Instr.beginRound l) ρ (Instr.beginRound aN):=by
 unfold Instr.beginRound;refine(uT h).a8 ?_;intro ai x y r q;obtain⟨c,d,f,g,i,j,n,o,p⟩:=q;refine(qj (r.sub _ _ h) (.loop (l:={x with state:=.busy}) (m:={y with state:=.busy}) S6 d f g i j n o p) Tf).a8 ?_;rintro aR _ _ _ _;rw[<-c];cases x.state with
 |ready=>exact .ret ⟨S6,Tf⟩
 |done=>exact jR S (.error _) S6
 |busy=>exact jR S (.error _) S6
 |exhausted=>exact jR S (.error _) S6
def FK{l aN:Nat}(h:ρ.r l aN)(j:TI Code)(r:∀c,j=some c->ρ.cW c):a2 Q P aQ (Instr.endRound l j) ρ (Instr.endRound aN j):=by unfold Instr.endRound;refine(uT h).a8 ?_;intro ai x y f u;obtain⟨w,z,g,i,n,o,p,q,d⟩:=u;refine(qj (f.sub _ _ h) (.loop (l:={x with state:=if j.isNone then .ready else .done,pending:=j}) (m:={y with state:=if j.isNone then .ready else .done,pending:=j}) S6 S6 g i n o p q ⟨d.1,d.2.1,λc e=>by rw[f.cW];exact r c e⟩) Tf).a8 ?_;rintro aR _ _ _ _;exact .ret (.bool _)
def FJ(S:Same Q P){l aN:Nat}(h:ρ.r l aN):a2 Q P (λai x y=>x=y/\∀c,x=some c->ai.cW c) (Instr.endLoop l) ρ (Instr.endLoop aN):=by
 unfold Instr.endLoop;refine(uT h).a8 ?_;intro ai x y w u;obtain⟨i,f,j,n,o,p,q,r,g⟩:=u;rw[<-i];have fin:∀aR,ai.le aR->a2 Q P (λai x y=>x=y/\∀c,x=some c->ai.cW c) (do setObj l (.loop {x with state:=.exhausted});pure x.pending) aR (do setObj aN (.loop {y with state:=.exhausted});pure y.pending):=by intro aR d;refine(qj ((Ren.le_trans w d).sub _ _ h) (.loop (l:={x with state:=.exhausted}) (m:={y with state:=.exhausted}) S6 f j (n.mono d) o p q (d.sub _ _ r) (by rw[d.cW];exact g)) Tf).a8 ?_;rintro B _ _ z _;exact .ret ⟨f,λc e=>by rw[z.cW,d.cW];exact g.2.2 c e⟩
 dsimp only;split
 .exact a2.a8 (A:=ec λ_=>True) (jR S (.error _) S6) λaR _ _ d _=>fin aR d
 .exact fin ai (Ren.le_refl _)
def F8{l aN:Nat}(h:ρ.r l aN):a2 Q P (λai=>cK (me ai)) (Instr.takeDeferred l) ρ (Instr.takeDeferred aN):=by
 unfold Instr.takeDeferred;refine(mO h).a8 ?_;intro ai o g d c;cases c with
 |deferred hd=>cases hd with
  |none=>exact .stuck
  |some hd=>
   dsimp only;refine(qj (d.sub _ _ h) (.deferred .none) Tf).a8 ?_;rintro aR _ _ f _;exact .ret (hd.mono λ_ _ k=>k.mono f)
 |_=>exact .stuck
def yv(Q:To)(name:T6):Prop:=∀t i m,Q.info? t=some i->i.methods.find? (·.name == name)=some m->m.path=#[]/\m.func.isSome=true/\(∀e,Q.underlying t=some (.pointer e)->m.func.any (·.2)=true)/\∀x,m.func=some x->eK Q x.1=none
def P4(S:Same Q P)(n:Nat)(t:Tg)(name:T6)(z:yv Q name){v w:S9}(h:aQ ρ v w):
 a2 Q P (λai x y=>x.1=y.1/\aQ ai x.2 y.2/\eK Q x.1=none) (method n t v name) ρ (method n t w name):=by
 cases n with
 |zero=>exact .dp (sd _ (by intro g e;cases e))
 |succ n=>
  unfold method;refine(nA S t).a8 ?_;rintro ai i _ E ⟨rfl,u⟩;rcases e:i.methods.find? (·.name == name)with _|m
  .rw[e];exact .stuck
  let⟨hp,l,o,q⟩:=z t i m u e;rw[e];dsimp only;rw[hp];rcases hm:m.func with _|⟨f,j⟩
  .rw[hm]at l;cases l
  rw[hm]at o;have B:=h.mono E;have r:eK Q f=none:=q _ hm;have tail:∀aR,ai.le aR->a2 Q P (λai x y=>x.1=y.1/\aQ ai x.2 y.2/\eK Q x.1=none) (do pure (f,<-receiverAt t (.val v) j (some ((name.splitOn ".").getLastD name)))) aR (do pure (f,<-receiverAt t (.val w) j (some ((name.splitOn ".").getLastD name)))):=by
   intro aR c;have C:=B.mono c;refine a2.a8 (A:=aQ) ?_ λG a b _ p=>.ret ⟨S6,p,r⟩
   unfold receiverAt;refine(gD S _).a8 ?_;rintro G d _ F ⟨rfl,hd⟩;have D:=C.mono F;cases j<;>cases d<;>first|exact .ret D|exact .stuck|skip
   exact Td (o _ hd) aF
  exact a2.a8 (A:=λ_ x y=>x=(t,.val v)/\y=(t,.val w)) (.ret ⟨S6,S6⟩) (by rintro aR _ _ c ⟨rfl,rfl⟩;exact tail aR c)
end
end
end Go.aO
