/- Part 3 of a law on fees: no conditions. -/
import Derived.Test.YthiiblonjmmnfaaGreatDoorP1
set_option maxHeartbeats 8000000
set_option maxRecDepth 100000
set_option linter.all false
namespace Go.aN
section
section
variable{Q P:Program}{ρ:Ren}
def isNil:Operand->Bool
 |.const .nilIface |.const .nilFunc |.const (.pointer none) |.const (.slice none 0 0) |.const (.map none)=>true
 |_=>false
def BA(v:Value):Prop:=v=.nilIface\/v=.nilFunc\/v=.pointer none\/v=.slice none 0 0\/v=.map none
def CO(S:bK Q P)(t:TypeId){x c n:Value}(h:aM ρ x c)(f:BA n):aW Q P (dx λ_=>True) (Op.equal t x n) ρ (Op.equal t c n)/\aW Q P (dx λ_=>True) (Op.equal t n x) ρ (Op.equal t n c):=by
 constructor;all_goals
  unfold Op.equal Op.maxDepth;unfold Op.equalIn;refine(fE S t).aY ?_;rintro ai d _ g ⟨rfl,_⟩;replace h:=h.mono g;rcases f with rfl|rfl|rfl|rfl|rfl
  all_goals
   cases h with
   |int k m=>
    cases d<;>first|exact .stuck|trivial|(match m with |.ofNat 0=>trivial |.ofNat (j+1)=>trivial |.negSucc j=>trivial)
   |_=>cases d<;>first|exact .ret ⟨rfl,trivial⟩|exact .stuck|trivial
def y9(Q:Program)(t:TypeId):Bool:=match Q.underlying t with
 |some (.pointer e)=>(match Q.info? e with
  |some i=>i.size == 0
  |none=>false)
 |_=>false
def mg(Q:Program)(t:TypeId)(x y:Operand):Bool:=(isNil x||isNil y)||((ju Q 24 t||y9 Q t) && !Q.eqGuardType Q.depth t)
def Mg(S:bK Q P)(t:TypeId)(c:y9 Q t=true){x g y j:Value}(h:aM ρ x g)(k:aM ρ y j):aW Q P (dx λ_=>True) (Op.equal t x y) ρ (Op.equal t g j):=by
 unfold Op.equal Op.maxDepth Op.equalIn;refine(fE S t).aY ?_;rintro ai u _ d ⟨rfl,hu⟩;replace h:=h.mono d;replace k:=k.mono d;unfold y9 at c;rw[hu]at c;cases u with
 |pointer e=>
  dsimp only at c;cases h with
  |ptr o=>
   cases k with
   |ptr p=>
    dsimp only;refine(iM S e).aY ?_;rintro aL n _ f ⟨rfl,i,q,rfl⟩;rw[q]at c;dsimp only at c;have l:i.size=0:=by simpa using c
    rw[l,<-(o.mono f).eq_iff (p.mono f)];simp only[ne_eq,not_true_eq_false,if_false];split
    .exact .ret ⟨rfl,trivial⟩
    .refine(q5 _).aY ?_
     rintro r m _ _ ⟨rfl,_⟩;exact .ret ⟨rfl,trivial⟩
   |iL=>exact .ret ⟨rfl,trivial⟩
   |_=>exact .stuck
  |iL=>cases k<;>first|exact .ret ⟨rfl,trivial⟩|exact .stuck
  |_=>cases k<;>exact .stuck
 |_=>cases c
def GL(S:bK Q P):∀(d:Nat) (t:TypeId),Q.eqGuardType d t=P.eqGuardType d t:=by
 obtain⟨T,f⟩:=Q;obtain⟨jk,g⟩:=P;obtain⟨h⟩:=S;simp at h;subst h;intro d;induction d with
 |zero=>intro t;rfl
 |succ d c=>
  intro t;unfold Program.eqGuardType;simp only[c];rfl
def uu{x:Operand}(h:isNil x=true):∃v,x=.const v/\BA v:=by
 unfold isNil at h;split at h<;>first
  |exact⟨_,rfl,.inl rfl⟩
  |exact⟨_,rfl,.inr (.inl rfl)⟩
  |exact⟨_,rfl,.inr (.inr (.inl rfl))⟩
  |exact⟨_,rfl,.inr (.inr (.inr (.inl rfl)))⟩
  |exact⟨_,rfl,.inr (.inr (.inr (.inr rfl)))⟩
  |cases h
def sc(t:TypeId)(x y:Operand)(a b:Value):Sem Unit:=do
 match a,b with
 |.nilIface,.nilIface=>
  if (x matches .const _)||(y matches .const _)then return
  if <-Op.eqGuardIn Op.maxDepth t a b then unsupported (.noEntry "binop/eql: two nil values of an interface type with methods, neither of them the literal nil")
 |.agg _,.agg _=>
  if !(<-Go.program).eqGuardType (<-Go.program).depth t then return
  if <-Op.eqGuardIn Op.maxDepth t a b then unsupported (.noEntry "binop/eql: two nil values of an interface type with methods, in a part of a struct or an array")
 |_,_=>pure ()
def wP(op:BinOp)(t:TypeId)(x y:Operand)(a b:Value):eqGuard op t x y a b=if op=.eql\/op=.neq then sc t x y a b else pure ():=by cases op<;>rfl
def Mm(S:bK Q P)(t:TypeId)(x y:Operand)(av:mg Q t x y=true){a b c d:Value}(h:aM ρ a c)(k:aM ρ b d)(i:∀v,x=.const v->a=v)(j:∀v,y=.const v->b=v)(l:a≠.tuple #[])(f:b≠.tuple #[]):aW Q P (dx λ_=>True) (sc t x y a b) ρ (sc t x y c d):=by
 unfold sc;cases h with
 |nilIface=>
  cases k with
  |nilIface=>
   have inner:aW Q P (dx λ_=>True) (do
    if <-Op.eqGuardIn Op.maxDepth t .nilIface .nilIface then unsupported (.noEntry "binop/eql: two nil values of an interface type with methods, neither of them the literal nil"):Sem Unit) ρ (do
    if <-Op.eqGuardIn Op.maxDepth t .nilIface .nilIface then unsupported (.noEntry "binop/eql: two nil values of an interface type with methods, neither of them the literal nil"):Sem Unit):=by
    refine aW.aY (A:=dx λ_=>True) ?_ ?_
    .unfold Op.maxDepth Op.eqGuardIn
     refine(fE S t).aY ?_;rintro ai u _ _ ⟨rfl,_⟩;cases u<;>exact .ret ⟨rfl,trivial⟩
    .rintro ai r _ _ ⟨rfl,_⟩
     split
     .trivial
     .exact .ret ⟨rfl,trivial⟩
   cases x<;>cases y<;>first|exact inner|exact .ret ⟨rfl,trivial⟩
  |fM=>exact absurd rfl f
  |_=>exact .ret ⟨rfl,trivial⟩
 |agg o p=>
  cases k with
  |agg q w=>
   have g:Q.eqGuardType Q.depth t=false:=by
    unfold mg at av;simp only[Bool.or_eq_true,Bool.and_eq_true,Bool.not_eq_true']at av;rcases av with(av|av)|av
    .obtain⟨v,e,aD⟩:=uu av
     have:=i v e;subst this;rcases aD with aD|aD|aD|aD|aD<;>cases aD
    .obtain⟨v,e,aD⟩:=uu av
     have:=j v e;subst this;rcases aD with aD|aD|aD|aD|aD<;>cases aD
    .exact av.2
   dsimp only;refine lo ?_;refine lo ?_;rw[<-GL S,<-wI S,g];exact .ret ⟨rfl,trivial⟩
  |fM=>exact absurd rfl f
  |_=>exact .ret ⟨rfl,trivial⟩
 |fM=>exact absurd rfl l
 |_=>cases k<;>first|exact .ret ⟨rfl,trivial⟩|exact absurd rfl f
def Me(S:bK Q P)(op:BinOp)(t:TypeId)(x y:Operand)(i:(op=.eql\/op=.neq)->mg Q t x y=true){a b c d:Value}(h:aM ρ a c)(k:aM ρ b d)(j:∀v,x=.const v->a=v)(l:∀v,y=.const v->b=v)(g:(op=.eql\/op=.neq)->a≠.tuple #[]/\b≠.tuple #[]):aW Q P (dx λ_=>True) (eqGuard op t x y a b) ρ (eqGuard op t x y c d):=by
 rw[wP,wP];split
 .rename_i f
  exact Mm S t x y (i f) h k j l (g f).1 (g f).2
 .exact .ret ⟨rfl,trivial⟩
def Mf(S:bK Q P)(F:Fits Q ρ)(t:TypeId)(x y:Operand)(av:mg Q t x y=true){a b c d:Value}(h:aM ρ a c)(k:aM ρ b d)(g:∀v,x=.const v->a=v/\c=v)(i:∀v,y=.const v->b=v/\d=v):aW Q P (dx λ_=>True) (Op.equal t a b) ρ (Op.equal t c d):=by
 unfold mg at av;simp only[Bool.or_eq_true,Bool.and_eq_true]at av;rcases av with(av|av)|av
 .obtain⟨v,e,f⟩:=uu av
  obtain⟨rfl,rfl⟩:=g v e;exact(CO S t k f).2
 .obtain⟨v,e,f⟩:=uu av
  obtain⟨rfl,rfl⟩:=i v e;exact(CO S t h f).1
 .rcases av.1 with aQ|aQ
  .exact CN S _ 24 t F.lim aQ h k
  .exact Mg S t aQ h k
def binOp_eql(t:TypeId)(a b:Value):(∃k m n,a=.int k m/\b=.int k n/\∀op,op=.eql\/op=.neq->binOp op t a b=Op.intCmp op m n)\/
 (∃s u,a=.string s/\b=.string u/\∀op,op=.eql\/op=.neq->binOp op t a b=Op.stringOp op s u)\/
 (∃k j m n,a=.int k m/\b=.int j n/\k≠j)\/(∃k n,a=.float k n)\/(∃k n m,a=.complex k n m)\/
 (binOp .eql t a b=(do pure (.bool (<-Op.equal t a b)))/\binOp .neq t a b=(do pure (.bool (!(<-Op.equal t a b))))):=by
 cases a with
 |float k n=>exact .inr (.inr (.inr (.inl ⟨k,n,rfl⟩)))
 |complex k n m=>exact .inr (.inr (.inr (.inr (.inl ⟨k,n,m,rfl⟩))))
 |int k m=>
  cases b with
  |int j n=>
   by_cases e:k=j
   .subst e
    exact .inl ⟨k,m,n,rfl,rfl,λop c=>by rcases c with rfl|rfl<;>simp[binOp]⟩
   .exact .inr (.inr (.inl ⟨k,j,m,n,rfl,rfl,e⟩))
  |_=>exact .inr (.inr (.inr (.inr (.inr ⟨rfl,rfl⟩))))
 |string s=>
  cases b with
  |string u=>exact .inr (.inl ⟨s,u,rfl,rfl,λop c=>by rcases c with rfl|rfl<;>rfl⟩)
  |_=>exact .inr (.inr (.inr (.inr (.inr ⟨rfl,rfl⟩))))
 |_=>cases b<;>exact .inr (.inr (.inr (.inr (.inr ⟨rfl,rfl⟩))))
def dj.under{α:Type}{t:TypeId}{u:TypeDesc}(hu:Q.underlying t=some u){f:TypeDesc->Sem α}(h:dj Q (f u)):dj Q (underlying t >>= f):=λw=>by
 obtain⟨x,w',e,g,k⟩:=h w;have c:(underlying t >>= f:Sem α).run Q w=(f u).run Q w:=by
  show((underlying t).bind f).run Q w=_;rw[Pt];have:(underlying t).run Q w=.ok u w:=by show(match Q.underlying t with|some d=>(pure d:Sem TypeDesc)|none=>stuck "no such type").run Q w=_;rw[hu];rfl
  rw[this];rfl
 have i:∀es,(underlying t >>= f:Sem α).runT Q w es=(f u).runT Q w es:=λes=>by
  show((underlying t).bind f).runT Q w es=_;rw[Sem.runT_bind'];have:(underlying t).runT Q w es=(.ok u w,es):=by show(match Q.underlying t with|some d=>(pure d:Sem TypeDesc)|none=>stuck "no such type").runT Q w es=_;rw[hu];rfl
  rw[this]
 exact⟨x,w',c.trans e,g,λes=>by rw[i es];exact k es⟩
def jH{α:Type}(c:String):dj Q (stuck c:Sem α):=λw=>⟨_,w,rfl,trivial,λes h=>h⟩
def qm{α:Type}:dj Q (unsupported .addressObserved:Sem α):=λw=>⟨_,w,rfl,trivial,λes h=>h⟩
def FV{α:Type}{t:TypeId}{f:TypeDesc->Sem α}(h:∀u,dj Q (f u)):dj Q (underlying t >>= f):=by
 cases hu:Q.underlying t with
 |some u=>exact dj.under hu (h u)
 |none=>
  have e:dj Q (underlying t:Sem TypeDesc):=λw=>by
   refine⟨.stuck "no such type",w,?_,trivial,λes hm=>?_⟩
   .show(match Q.underlying t with|some d=>(pure d:Sem TypeDesc)|none=>stuck "no such type").run Q w=_
    rw[hu];rfl
   .have:((underlying t:Sem TypeDesc).runT Q w es)=(.halt (.stuck "no such type") w,es):=by show(match Q.underlying t with|some d=>(pure d:Sem TypeDesc)|none=>stuck "no such type").runT Q w es=_;rw[hu];rfl
    rw[this]at hm;exact hm
  exact e.bind f
def tU(t:TypeId){a b:Value}(h:a=.tuple #[]\/b=.tuple #[]):dj Q (Op.equal t a b):=by
 unfold Op.equal Op.maxDepth Op.equalIn;refine FV λu=>?_
 rcases h with rfl|rfl
 .cases u<;>cases b<;>first|exact jH _|exact qm
 .cases u<;>cases a<;>first
   |exact jH _
   |exact qm
   |(rename_i p;cases p<;>first|exact jH _|exact qm)
   |(rename_i p _ _;cases p<;>first|exact jH _|exact qm)
def GN(op:BinOp)(c:op=.eql\/op=.neq)(t:TypeId)(x y:Operand){a b:Value}(h:a=.tuple #[]\/b=.tuple #[]):dj Q (do eqGuard op t x y a b;binOp op t a b):=by
 have d:eqGuard op t x y a b=pure ():=by
  rw[wP,if_pos c];unfold sc;rcases h with rfl|rfl
  .cases x<;>cases y<;>rfl
  .cases a<;>cases x<;>cases y<;>rfl
 rw[d];show dj Q (binOp op t a b);rcases binOp_eql t a b with⟨q,m,n,rfl,rfl,_⟩|⟨s,u,rfl,rfl,_⟩|⟨q,j,m,n,rfl,rfl,_⟩|⟨q,n,rfl⟩|⟨q,n,m,rfl⟩|⟨f,g⟩
 .rcases h with h|h<;>cases h
 .rcases h with h|h<;>cases h
 .rcases h with h|h<;>cases h
 .rcases h with h|h
  .cases h
  .subst h
   rcases c with rfl|rfl<;>(unfold binOp;first|exact jH _|exact(tU t (.inr rfl)).bind _)
 .rcases h with h|h
  .cases h
  .subst h
   rcases c with rfl|rfl<;>(unfold binOp;first|exact jH _|exact(tU t (.inr rfl)).bind _)
 .rcases c with rfl|rfl
  .rw[f];exact(tU t h).bind _
  .rw[g];exact(tU t h).bind _
def L5(S:bK Q P)(F:Fits Q ρ)(op:BinOp)(f:op=.eql\/op=.neq)(t:TypeId)(x y:Operand)(p:mg Q t x y=true){a b c d:Value}(h:aM ρ a c)(k:aM ρ b d)(w:∀v,x=.const v->a=v/\c=v)(z:∀v,y=.const v->b=v/\d=v)(D:a≠.tuple #[])(g:b≠.tuple #[]):aW Q P aM (binOp op t a b) ρ (binOp op t c d):=by
 have e:=Mf S F t x y p h k w z;rcases binOp_eql t a b with⟨q,m,n,rfl,rfl,he⟩|⟨s,u,rfl,rfl,he⟩|⟨q,j,m,n,rfl,rfl,o⟩|⟨q,n,rfl⟩|⟨q,n,m,rfl⟩|⟨i,l⟩
 .cases h;cases k
  rw[he op f];exact yz op m n
 .cases h;cases k
  rw[he op f];exact ra op s u
 .cases h;cases k
  rcases f with rfl|rfl<;>(unfold binOp;simp only[ne_eq,o,not_false_eq_true,if_true];exact .stuck)
 .cases h
 .cases h
 .have key:binOp .eql t c d=(do pure (.bool (<-Op.equal t c d)))/\binOp .neq t c d=(do pure (.bool (!(<-Op.equal t c d))))\/∃q m j n,a=.int q m/\b=.int j n\/∃s u,a=.string s/\b=.string u:=by
   cases h with
   |int q m=>cases k with
    |int j n=>exact .inr ⟨q,m,j,n,.inl ⟨rfl,rfl⟩⟩
    |fM=>exact absurd rfl g
    |_=>exact .inl ⟨rfl,rfl⟩
   |string s=>cases k with
    |string u=>exact .inr ⟨.i8,0,.i8,0,.inr ⟨s,u,rfl,rfl⟩⟩
    |fM=>exact absurd rfl g
    |_=>exact .inl ⟨rfl,rfl⟩
   |fM=>exact absurd rfl D
   |_=>cases k<;>first|exact .inl ⟨rfl,rfl⟩|exact absurd rfl g
  rcases key with⟨B,C⟩|⟨q,m,j,n,⟨rfl,rfl⟩|⟨s,u,rfl,rfl⟩⟩
  .rcases f with rfl|rfl
   .rw[i,B]
    refine e.aY ?_;rintro ai r _ _ ⟨rfl,_⟩;exact .ret (.bool _)
   .rw[l,C]
    refine e.aY ?_;rintro ai r _ _ ⟨rfl,_⟩;exact .ret (.bool _)
  .cases h;cases k
   rcases f with rfl|rfl<;>(unfold binOp;dsimp only;split;(· exact .stuck);exact yz _ _ _)
  .cases h;cases k
   rcases f with rfl|rfl
   .exact ra .eql _ _
   .exact ra .neq _ _
def MT(op:UnOp){a b:Value}(h:aM ρ a b):aW Q P aM (Op.unary op a) ρ (Op.unary op b):=by
 cases h<;>cases op<;>first
  |exact CU .sub _ 0 _
  |exact CV .xor _ _ _
  |exact .ret (.bool _)
  |exact .stuck
  |trivial
def wF(Q:Program)(s d:TypeId):Bool:=match Q.underlying s,Q.underlying d with
 |some (.int _),some (.int _)=>true
 |_,_=>false
def Mc(S:bK Q P)(s d:TypeId)(c:wF Q s d=true){a b:Value}(h:aM ρ a b):aW Q P aM (convert s d a) ρ (convert s d b):=by
 unfold convert;refine(fE S s).aY ?_;rintro ai u _ g ⟨rfl,hu⟩;refine(fE S d).aY ?_;rintro aL v _ i ⟨rfl,f⟩;unfold wF at c;rw[hu,f]at c;replace h:=(h.mono g).mono i;cases u<;>try (simp at c;done)
 cases v<;>try (simp at c;done)
 cases h<;>first|exact .ret (.int _ _)|trivial
def CK(S:bK Q P)(e:Bool):∀(n m:Nat) (t:TypeId) {ρ:Ren} {x g:Value},ju Q m t=true->aM ρ x g->aW Q P (dx λ_=>True) (Instr.checkKey e n t x) ρ (Instr.checkKey e n t g):=by
 intro n;induction n with
 |zero=>intro m t ρ x g _ _;trivial
 |succ n q=>
  intro m t ρ x g d h;cases m with
  |zero=>simp[ju]at d
  |succ m=>
   unfold Instr.checkKey;refine(fE S t).aY ?_;rintro ai u _ B ⟨rfl,hu⟩;replace h:=h.mono B;unfold ju at d;rw[hu]at d;cases u with
   |struct bd=>
    have w:∀f∈bd.toList,ju Q m f.type=true:=by simpa only[List.all_eq_true]using d
    cases h with
    |agg j l=>
     dsimp only;refine aW.aY (A:=dx λ_=>True) ?_ (λai a b _ ⟨_,_⟩=>.ret ⟨rfl,trivial⟩);rw[<-Array.forIn_toList,<-Array.forIn_toList];refine vg _ ?_ ai _ (Ren.le_refl ai);intro aL f c r p;split
     .refine(q8 S f.type (bE.mono p ⟨j,l⟩) f.offset).aY ?_
      intro D a b _ o;refine(q m f.type (w f r) o).aY ?_;rintro E _ _ _ _;exact .ret ⟨rfl,trivial⟩
     .exact .ret ⟨rfl,trivial⟩
    |_=>exact .stuck
   |array len elem=>
    cases h with
    |agg j l=>
     dsimp only;refine aW.aY (A:=dx λ_=>True) ?_ (λai a b _ ⟨_,_⟩=>.ret ⟨rfl,trivial⟩);rw[Std.Legacy.Range.forIn_eq_forIn_range',Std.Legacy.Range.forIn_eq_forIn_range'];refine vg _ ?_ ai _ (Ren.le_refl ai);intro aL i c _ p;refine(iM S elem).aY ?_;rintro D z _ C ⟨rfl,_⟩;refine(q8 S elem (bE.mono (Ren.le_trans p C) ⟨j,l⟩) _).aY ?_;intro E a b _ o;refine(q m elem (by simpa using d) o).aY ?_;rintro F _ _ _ _;exact .ret ⟨rfl,trivial⟩
    |_=>exact .stuck
   |bool=>cases h<;>exact .ret ⟨rfl,trivial⟩
   |int _=>cases h<;>exact .ret ⟨rfl,trivial⟩
   |string=>cases h<;>exact .ret ⟨rfl,trivial⟩
   |_=>simp at d
abbrev tf(ai:Ren):List MapEntry->List MapEntry->Prop:=cA (d' ai)
def Eb(ai:Ren)(x y:Nat×Value):Prop:=x.1=y.1/\aM ai x.2 y.2
def xN{a b c d:Option Addr}(h:ez (cU ρ) a b)(k:ez (cU ρ) c d):(a == c)=(b == d):=by
 cases h<;>cases k<;>first|rfl|skip
 rename_i f _ _ g;have:=f.eq_iff g;simpa using this
def n2(Q:Program)(t:TypeId):Bool:=match Q.underlying t with
 |some (.int _)|some .string|some .bool=>true
 |_=>false
def k2:Value->Prop
 |.bool _ |.int _ _ |.string _ |.pointer _=>True
 |_=>False
def Am{t:TypeId}(c:n2 Q t=true){x y:Value}(h:¬(k2 x/\k2 y)):dj Q (Op.equal t x y):=by
 unfold Op.equal Op.maxDepth Op.equalIn;unfold n2 at c;split at c
 .rename_i k hu
  refine dj.under hu ?_;cases x with
  |int k n=>
   cases y with
   |int j m=>exact absurd ⟨trivial,trivial⟩ h
   |bool b=>exact absurd ⟨trivial,trivial⟩ h
   |string b=>exact absurd ⟨trivial,trivial⟩ h
   |pointer b=>exact absurd ⟨trivial,trivial⟩ h
   |_=>rcases n with(_|n)|n<;>exact jH _
  |pointer p=>
   cases y with
   |int j m=>exact absurd ⟨trivial,trivial⟩ h
   |bool b=>exact absurd ⟨trivial,trivial⟩ h
   |string b=>exact absurd ⟨trivial,trivial⟩ h
   |pointer b=>exact absurd ⟨trivial,trivial⟩ h
   |_=>cases p<;>exact qm
  |bool b=>
   cases y with
   |int j m=>exact absurd ⟨trivial,trivial⟩ h
   |bool b=>exact absurd ⟨trivial,trivial⟩ h
   |string b=>exact absurd ⟨trivial,trivial⟩ h
   |pointer b=>exact absurd ⟨trivial,trivial⟩ h
   |_=>exact jH _
  |string b=>
   cases y with
   |int j m=>exact absurd ⟨trivial,trivial⟩ h
   |bool b=>exact absurd ⟨trivial,trivial⟩ h
   |string b=>exact absurd ⟨trivial,trivial⟩ h
   |pointer b=>exact absurd ⟨trivial,trivial⟩ h
   |_=>exact jH _
  |_=>
   cases y with
   |int j m=>rcases m with(_|m)|m<;>exact jH _
   |pointer p=>cases p<;>exact qm
   |_=>exact jH _
 .rename_i hu
  refine dj.under hu ?_;cases x<;>cases y<;>first
   |exact jH _
   |exact absurd ⟨trivial,trivial⟩ h
 .rename_i hu
  refine dj.under hu ?_;cases x<;>cases y<;>first
   |exact jH _
   |exact absurd ⟨trivial,trivial⟩ h
 .cases c
def p0(ai:Ren)(k d:Value)(l aH:List MapEntry)(i:Nat)(x y:Nat×Value):Prop:=
 Eb ai x y/\i<=x.1/\∃e c,l[x.1-i]?=some e/\aH[x.1-i]?=some c
def p0.cons{ai:Ren}{k d:Value}{l aH:List MapEntry}{e f:MapEntry}{i:Nat}{x y:Nat×Value}(h:p0 ai k d l aH (i+1) x y):p0 ai k d (e::l) (f::aH) i x y:=by
 obtain⟨g,p,a,b,j,o⟩:=h;have c:x.1-i=x.1-(i+1)+1:=by omega
 exact⟨g,by omega,a,b,by rw[c];exact j,by rw[c];exact o⟩
def Ml(S:bK Q P)(F:Fits Q ρ)(t:TypeId)(m:Nat)(p:ju Q m t=true):∀(l:List MapEntry) (aH:List MapEntry) (i:Nat) {ai:Ren} {k c:Value},ρ.le ai->aM ai k c->tf ai l aH->
 aW Q P (λaL=>ez (p0 aL k c l aH i)) (Instr.findAsking t k l i) ai (Instr.findAsking t c aH i):=by
 intro l;induction l with
 |nil=>intro aH i ai k c _ _ h;cases h;exact .ret .none
 |cons e l u=>
  intro aH i ai k c g f h;cases h with
  |@cons _ j _ w he q=>
   unfold Instr.findAsking;refine(CN S _ m t (F.mono g).lim p f he.key).aY ?_;rintro aL r _ d ⟨rfl,_⟩;split
   .exact .ret (.some ⟨⟨rfl,he.val.mono d⟩,Pk,e,j,by simp,by simp⟩)
   .refine(u _ (i+1) (Ren.le_trans g d) (f.mono d) (q.mono λ_ _ x=>x.mono d)).mono λz a b _ o=>?_
    cases o with
    |none=>exact .none
    |some h=>exact .some h.cons
def PO:TypeDesc->Bool
 |.int _ |.string |.bool=>true
 |_=>false
def Lm(d:TypeDesc){a b c e:Value}(h:aM ρ a b)(k:aM ρ c e):Instr.sameNow d a c=Instr.sameNow d b e\/(PO d=true/\¬(k2 a/\k2 c)/\Instr.sameNow d a c=none):=by
 by_cases hd:PO d=true
 .cases h<;>cases k<;>first
   |(left;cases d<;>rfl)
   |(right;refine⟨hd,λf=>f.1,?_⟩;cases d<;>rfl)
   |(right;refine⟨hd,λf=>f.2,?_⟩;cases d<;>rfl)
 .left
  cases d<;>first
   |rfl
   |exact absurd rfl hd
   |(cases a<;>cases c<;>cases b<;>cases e<;>rfl)
def G1{t:TypeId}{d:TypeDesc}(hu:Q.underlying t=some d){x y:Value}(h:Instr.sameNow d x y=some false){α:Type}(f:Bool->Sem α)(l:dj Q (f false)):dj Q (Op.equal t x y >>= f):=by
 have key:∀(w:World),(Op.equal t x y).run Q w=.ok false w/\∀es,(Op.equal t x y).runT Q w es=(.ok false w,es):=λw=>by
  unfold Op.equal Op.maxDepth Op.equalIn;have i:(underlying t).run Q w=.ok d w:=by show(match Q.underlying t with|some d=>(pure d:Sem TypeDesc)|none=>stuck "no such type").run Q w=_;rw[hu];rfl
  have j:∀es,(underlying t).runT Q w es=(.ok d w,es):=λes=>by show(match Q.underlying t with|some d=>(pure d:Sem TypeDesc)|none=>stuck "no such type").runT Q w es=_;rw[hu];rfl
  refine⟨?_,λes=>?_⟩
  .show((underlying t).bind _).run Q w=_
   rw[Pt,i];dsimp only;unfold Instr.sameNow at h;split at h
   .split at h
    .rename_i c
     subst c;simp only[Option.some.injEq]at h;simp[h]
    .cases h
   .simp only[Option.some.injEq]at h
    simp[h]
   .simp only[Option.some.injEq]at h
    simp[h]
   .cases h
  .show((underlying t).bind _).runT Q w es=_
   rw[Sem.runT_bind',j];dsimp only;unfold Instr.sameNow at h;split at h
   .split at h
    .rename_i c
     subst c;simp only[Option.some.injEq]at h;simp[h]
    .cases h
   .simp only[Option.some.injEq]at h
    simp[h]
   .simp only[Option.some.injEq]at h
    simp[h]
   .cases h
 intro w;obtain⟨x,w',e,g,k⟩:=l w;refine⟨x,w',?_,g,λes=>?_⟩
 .show((Op.equal t _ _).bind f).run Q w=_
  rw[Pt,(key w).1];exact e
 .show noRoomEvent∈(((Op.equal t _ _).bind f).runT Q w es).2->_
  rw[Sem.runT_bind',(key w).2 es];exact k es
def Ht(d:TypeDesc){t:TypeId}(hu:Q.underlying t=some d){k f:Value}(r:aM ρ k f):∀(l aH:List MapEntry) (i:Nat),tf ρ l aH->
 ez (ez (p0 ρ k f l aH i)) (Instr.findNow d k l i) (Instr.findNow d f aH i)\/(Instr.findNow d k l i=none/\∀c,dj Q (Instr.findAsking t k l c)):=by
 intro l;induction l with
 |nil=>intro aH i h;cases h;exact .inl (.some .none)
 |cons e l D=>
  intro aH i h;cases h with
  |@cons _ g _ E he B=>
   rcases Lm d r he.key with z|⟨C,p,w⟩
   .unfold Instr.findNow
    rw[<-z];cases q:Instr.sameNow d k e.key with
    |none=>exact .inl .none
    |some b=>
     cases b
     .rcases D _ (i+1) B with h|⟨j,o⟩
      .refine .inl ?_
       dsimp only;revert h;generalize Instr.findNow d k l (i+1)=u;generalize Instr.findNow d f E (i+1)=v;intro h;cases h with
       |none=>exact .none
       |some h=>
        cases h with
        |none=>exact .some .none
        |some h=>exact .some (.some h.cons)
      .refine .inr ⟨j,λc=>?_⟩
       unfold Instr.findAsking;exact G1 hu q _ (by simpa using o (c+1))
     .exact .inl (.some (.some ⟨⟨rfl,he.val⟩,Pk,e,g,by simp,by simp⟩))
   .refine .inr ⟨by unfold Instr.findNow;rw[w],λc=>?_⟩
    unfold Instr.findAsking;exact(Am (by unfold n2;rw[hu];cases d<;>first|rfl|cases C) p).bind _
def CQ(S:bK Q P)(F:Fits Q ρ)(t:TypeId)(m:Nat)(o:ju Q m t=true){l aH:List MapEntry}{k f:Value}(g:aM ρ k f)(h:tf ρ l aH):
 aW Q P (λaL=>ez (p0 aL k f l aH 0)) (Instr.findKey t k l) ρ (Instr.findKey t f aH):=by
 unfold Instr.findKey;refine(fE S t).aY ?_;rintro ai d _ c ⟨rfl,hd⟩;rcases Ht d hd (g.mono c) l aH 0 (h.mono λ_ _ x=>x.mono c)with e|⟨i,j⟩
 .revert e
  generalize Instr.findNow d k l 0=u;generalize Instr.findNow d f aH 0=v;intro e;cases e with
  |none=>exact Ml S F t m o l aH 0 c (g.mono c) (h.mono λ_ _ x=>x.mono c)
  |some x=>exact .ret x
 .rw[i]
  exact aW.dF (j 0)
def r4{es bd:Array MapEntry}(h:fa (d' ρ) es bd):tf ρ es.toList bd.toList:=by
 have:∀(l m:List MapEntry),l.length=m.length->(∀(i:Nat) x y,l[i]?=some x->m[i]?=some y->d' ρ x y)->cA (d' ρ) l m:=by
  intro l;induction l with
  |nil=>intro m c _;cases m with
   |nil=>exact .nil
   |cons=>simp at c
  |cons x l j=>intro m c k;cases m with
   |nil=>simp at c
   |cons y m=>exact .cons (k 0 x y rfl rfl) (j m (by simpa using c) λi u v hu d=>k (i+1) u v (by simpa using hu) (by simpa using d))
 exact this _ _ (by simp[h.1]) λi x y f g=>h.2 i x y (by simpa using f) (by simpa using g)
def qF(Q:Program)(t:TypeId):Bool:=match Q.underlying t with
 |some (.map k e)=>ju Q 24 k && kt Q e
 |_=>true
def s0{a b c d:Value}(h:aM ρ a b)(k:aM ρ c d):aM ρ (.tuple #[a,c]) (.tuple #[b,d]):=by
 refine vA ⟨rfl,λi x y f g=>?_⟩;match i with
 | 0=>simp at f g;subst f;subst g;exact h
 | 1=>simp at f g;subst f;subst g;exact k
 |i+2=>simp at f
def DO{a b c d e f:Value}(h:aM ρ a b)(k:aM ρ c d)(l:aM ρ e f):aM ρ (.tuple #[a,c,e]) (.tuple #[b,d,f]):=by
 refine vA ⟨rfl,λi x y g j=>?_⟩;match i with
 | 0=>simp at g j;subst g;subst j;exact h
 | 1=>simp at g j;subst g;subst j;exact k
 | 2=>simp at g j;subst g;subst j;exact l
 |i+3=>simp at g
def Mv(S:bK Q P)(F:Fits Q ρ)(t:TypeId)(j:qF Q t=true){m cP k w:Value}(h:aM ρ m cP)(C:aM ρ k w)(ok:Bool):aW Q P aM (Instr.lookup t m k ok) ρ (Instr.lookup t cP w ok):=by
 unfold Instr.lookup;refine(fE S t).aY ?_;rintro ai d _ u ⟨rfl,hd⟩;cases d with
 |map dL B=>
  unfold qF at j;rw[hd]at j;simp only[Bool.and_eq_true]at j;have tail:∀(aL:Ren) (es bd:Array MapEntry),ai.le aL->fa (d' aL) es bd->aW Q P aM (do
   Instr.checkKey es.isEmpty 10000 dL k
   let (v,i) <-match <-Instr.findKey dL k es.toList with
    |some (_,v)=>pure (v,true)
    |none=>pure (<-zeroValue B,false)
   pure (if ok then .tuple #[v,.bool i]else v)) aL (do
   Instr.checkKey bd.isEmpty 10000 dL w
   let (v,i) <-match <-Instr.findKey dL w bd.toList with
    |some (_,v)=>pure (v,true)
    |none=>pure (<-zeroValue B,false)
   pure (if ok then .tuple #[v,.bool i]else v)):=by
   intro aL es bd g f;have e:es.isEmpty=bd.isEmpty:=by simp[Array.isEmpty,f.1]
   rw[<-e];refine(CK S _ 10000 24 dL j.1 (C.mono (Ren.le_trans u g))).aY ?_;rintro z _ _ l _;refine(CQ S (F.mono (Ren.le_trans u (Ren.le_trans g l))) dL 24 j.1 (C.mono (Ren.le_trans u (Ren.le_trans g l))) ((r4 f).mono λ_ _ x=>x.mono l)).aY ?_;intro J x y _ I;have fin:∀(p:Ren) (a b:Value) (r:Bool),aM p a b->aW Q P aM (do let (v,i) <-(pure (a,r):Sem (Value×Bool));pure (if ok then .tuple #[v,.bool i]else v)) p (do let (v,i) <-(pure (b,r):Sem (Value×Bool));pure (if ok then .tuple #[v,.bool i]else v)):=by
    intro p a b r q;cases ok
    .exact .ret q
    .exact .ret (s0 q (.bool r))
   cases I with
   |none=>
    refine(pL S B j.2).aY ?_;intro p a b _ q;exact fin p a b false q
   |some E=>exact fin J _ _ true E.1.2
  have D:=h.mono u;cases D with
  |oe=>
   refine aW.aY (A:=λaL es bd=>fa (d' aL) es bd) (.ret ⟨rfl,by simp⟩) ?_;exact λaL es bd g f=>tail aL es bd g f
  |map H=>
   dsimp only;refine(ln H).aY ?_;intro aL o K g G;cases G with
   |map f c=>
    refine aW.aY (A:=λz es bd=>fa (d' z) es bd) (.ret f) ?_;exact λz es bd l f=>tail z es bd (Ren.le_trans g l) f
   |_=>exact .stuck
  |_=>exact .stuck
 |_=>exact .stuck
end
end
section
section
variable{Q P:Program}{ρ:Ren}
def Mq{a b c d:Value}(h:aM ρ a b)(k:aM ρ c d)(g:Instr.sameBits 10000 a c=Instr.sameBits 10000 b d):aW Q P aM (Instr.keyThatStays a c) ρ (Instr.keyThatStays b d):=by
 unfold Instr.keyThatStays;rw[<-g];split
 .exact .ret k
 .refine(q5 _).aY ?_
  rintro ai n _ f ⟨rfl,_⟩;split
  .exact .ret (k.mono f)
  .exact .ret (h.mono f)
def G6{es bd:Array MapEntry}(h:fa (d' ρ) es bd)(i:Nat){f g:MapEntry->MapEntry}(q:∀x y,d' ρ x y->d' ρ (f x) (g y)):fa (d' ρ) (es.modify i f) (bd.modify i g):=by
 refine⟨by simp[h.1],λj x y c d=>?_⟩;simp only[Array.getElem?_modify]at c d;by_cases p:i=j
 .subst p
  simp only[if_true]at c d;rcases l:es[i]? with _|u
  .rw[l]at c;cases c
  .rcases o:bd[i]? with _|v
   .rw[o]at d;cases d
   .rw[l]at c;rw[o]at d
    cases c;cases d;exact q u v (h.2 i u v l o)
 .rw[if_neg p]at c d
  exact h.2 j x y c d
def G7{es bd:Array MapEntry}(h:fa (d' ρ) es bd){e f:MapEntry}(k:d' ρ e f):fa (d' ρ) (es.push e) (bd.push f):=by
 refine⟨by simp[h.1],λi u v hu c=>?_⟩;rw[PA]at hu c;by_cases d:i=es.size
 .rw[if_pos d]at hu;rw[if_pos (by rw[d,h.1])]at c
  cases hu;cases c;exact k
 .rw[if_neg d]at hu;rw[if_neg (by rw[<-h.1];exact d)]at c
  exact h.2 i u v hu c
def oA{r d:Nat}{o c:Obj}(h:ρ.r r d)(k:ev ρ o c)(f:p9 o):aW Q P (dx λ_=>True) (setObj r o) ρ (setObj d c):=.inr ⟨d,c,_,rfl,h,k,f,(),rfl,rfl,trivial⟩
def wR{es bd:Array MapEntry}(h:fa (d' ρ) es bd)(i:Nat){k f:Value}(g:aM ρ k f):aM ρ (((es[i]?).map (·.key)).getD k) (((bd[i]?).map (·.key)).getD f):=by
 rcases c:es[i]? with _|u
 .have:bd[i]?=none:=Array.getElem?_eq_none (by rw[<-h.1];exact Array.getElem?_eq_none_iff.1 c)
  rw[this];exact g
 .have j:=bp c
  have d:bd[i]?=some (bd[i]'(by rw[<-h.1];exact j)):=Pu _;rw[d];exact(h.2 i u _ c d).key
def PW{f g:Value×Value->Bool}(i:∀x y z w,aM ρ x z->aM ρ y w->f (x,y)=true->g (z,w)=true):∀(a b c d:List Value),cA (aM ρ) a c->cA (aM ρ) b d->(a.zip b).all f=true->(c.zip d).all g=true:=by
 intro a;induction a with
 |nil=>intro b c d h _ _;cases h;rfl
 |cons x a q=>
  intro b c d h k e;cases h with
  |cons o l=>
   cases k with
   |nil=>rfl
   |cons p j=>
    simp only[List.zip_cons_cons,List.all_cons,Bool.and_eq_true]at e ⊢;exact⟨i _ _ _ _ o p e.1,q _ _ _ l j e.2⟩
def PT:∀(n:Nat) {a b c d:Value},aM ρ a b->aM ρ c d->Instr.sameBits n a c=true->Instr.sameBits n b d=true:=by
 intro n;induction n with
 |zero=>
  intro a b c d h k e;cases h<;>cases k<;>first
   |exact e
   |(exfalso;simp[Instr.sameBits]at e;done)
   |(simp only[Instr.sameBits]at e ⊢;rw[<-e];exact(xN (by constructor<;>assumption) (by constructor<;>assumption)).symm)
 |succ n l=>
  intro a b c d h k e;cases h<;>cases k<;>first
   |exact e
   |(exfalso;simp[Instr.sameBits]at e;done)
   |(simp only[Instr.sameBits]at e ⊢;rw[<-e];exact(xN (by constructor<;>assumption) (by constructor<;>assumption)).symm)
   |(rename_i i _ _ _ j;simp only[Instr.sameBits,Bool.and_eq_true]at e ⊢;exact⟨e.1,l i j e.2⟩)
   |(rename_i p r i j q u o D
     simp only[Instr.sameBits,Bool.and_eq_true]at e ⊢;exact⟨by rw[<-i,<-o];exact e.1,PW (f:=λ(x,y)=>Instr.sameBits n x y) (g:=λ(x,y)=>Instr.sameBits n x y) (λx y z w B C=>l B C) p.toList q.toList r.toList u.toList (bE.toList ⟨i,j⟩) (bE.toList ⟨o,D⟩) e.2⟩)
def PV{s u:ByteArray}{n:Nat}(e:Instr.sameBits n (.string s) (.string u)=true):s=u:=by
 have e:(s.data == u.data)=true:=by cases n<;>exact e
 exact congrArg ByteArray.mk (beq_iff_eq.1 e)
def PU:∀(n:Nat) {a b d:Value},aM ρ a b->Instr.sameBits n b d=true->aM ρ a d:=by
 intro n a b d h;induction h generalizing n d with
 |iface t h c=>
  intro e;cases d with
  |iface u w=>
   cases n with
   |zero=>simp[Instr.sameBits]at e
   |succ n=>
    simp only[Instr.sameBits,Bool.and_eq_true,beq_iff_eq]at e;obtain⟨rfl,e⟩:=e;exact .iface _ (c n e)
  |_=>cases n<;>simp[Instr.sameBits]at e
 |@agg x b p q c=>
  intro e;cases d with
  |agg d=>
   cases n with
   |zero=>simp[Instr.sameBits]at e
   |succ n=>
    simp only[Instr.sameBits,Bool.and_eq_true,beq_iff_eq]at e;obtain⟨f,g⟩:=e;rw[List.all_eq_true]at g;refine .agg (p.trans f) λi u y hu l=>?_
    obtain⟨z,o⟩:∃z,b[i]?=some z:=⟨_,Pu (by rw[f];exact bp l)⟩
    exact c i u z hu o n (g (z,y) (Py (i:=i) (List.getElem?_zip_eq_some.2 ⟨by simpa using o,by simpa using l⟩)))
  |_=>cases n<;>simp[Instr.sameBits]at e
 |@fM b j h=>
  intro e;cases d<;>first
   |exact .fM j trivial
   |(exfalso;cases b<;>first|(cases n<;>simp[Instr.sameBits]at e;done)|exact h)
   |skip
  all_goals (cases b<;>first|(exfalso;cases n<;>simp[Instr.sameBits]at e;done)|(exfalso;exact h)|skip)
  all_goals (cases n<;>(simp only[Instr.sameBits,beq_iff_eq]at e;subst e;exact .fM j h))
 |string s=>
  intro e;cases d with
  |string u=>rw[<-PV e];exact .string s
  |_=>cases n<;>simp[Instr.sameBits]at e
 |bool b=>
  intro e;cases d<;>first|(cases n<;>simp[Instr.sameBits]at e;done)|(cases n<;>(simp only[Instr.sameBits,beq_iff_eq]at e;subst e;exact .bool _))
 |int k m=>
  intro e;cases d<;>first|(cases n<;>simp[Instr.sameBits]at e;done)|(cases n<;>(simp only[Instr.sameBits,Bool.and_eq_true,beq_iff_eq]at e;obtain⟨rfl,rfl⟩:=e;exact .int _ _))
 |iL=>
  intro e;cases d<;>first|(cases n<;>simp[Instr.sameBits]at e;done)|(cases n<;>(simp only[Instr.sameBits,beq_iff_eq]at e;subst e;exact .iL))
 |ptr h=>
  intro e;cases d<;>first|(cases n<;>simp[Instr.sameBits]at e;done)|(cases n<;>(simp only[Instr.sameBits,beq_iff_eq]at e;subst e;exact .ptr h))
 |rV=>
  intro e;cases d<;>first|(cases n<;>simp[Instr.sameBits]at e;done)|(cases n<;>(simp only[Instr.sameBits,beq_iff_eq]at e;subst e;exact .rV))
 |nilIface=>
  intro e;cases d<;>first|exact .nilIface|(cases n<;>simp[Instr.sameBits]at e;done)
 |_=>
  intro e;exfalso;cases d<;>(cases n<;>simp[Instr.sameBits]at e)
def C0(S:bK Q P)(F:Fits Q ρ)(t:TypeId)(z:qF Q t=true){m cP k l v D:Value}(h:aM ρ m cP)(w:aM ρ k l)(aa:aM ρ v D):PH true Q P (dx λ_=>True) (Instr.mapUpdate t m k v) ρ (Instr.mapUpdate t cP l D):=by
 unfold Instr.mapUpdate;refine PH.aY (fE S t) ?_;rintro ai d _ ad ⟨rfl,hd⟩;cases d with
 |map dL au=>
  unfold qF at z;rw[hd]at z;simp only[Bool.and_eq_true]at z;have ag:=h.mono ad;cases ag with
  |oe=>exact(iz S (.plain _) rfl).up
  |map Z=>
   dsimp only;refine PH.aY (ln Z) ?_;intro aL o av ae ao;cases ao with
   |@map es bd ak c=>
    dsimp only;have af:=Ren.le_trans ad ae;refine PH.aY (CK S _ 10000 24 dL z.1 (w.mono af)) ?_;rintro ap _ _ T _;have V:=Ren.le_trans af T;have Y:=ak.mono λ_ _ (x:d' aL _ _)=>x.mono T
    refine PH.aY (CQ S (F.mono V) dL 24 z.1 (w.mono V) (r4 Y)) ?_;intro G x y U R;have C:=Ren.le_trans V U;have J:=Y.mono λ_ _ (x:d' ap _ _)=>x.mono U
    have M:=(Ren.le_trans ae (Ren.le_trans T U)).sub _ _ Z;cases R with
    |none=>exact(oA M (.map (G7 J (e:=⟨k,v,c⟩) (f:=⟨l,D,c⟩) ⟨w.mono C,aa.mono C,rfl⟩) _) trivial).up
    |@some p q al=>
     obtain⟨i,u⟩:=p;obtain⟨j,ay⟩:=q;obtain⟨⟨e,_⟩,_,aq,ar,ah,aj⟩:=al;dsimp only at e ah aj;subst e;dsimp only;have L:=wR J i (w.mono C);have K:=w.mono C;have fin:∀(r:Ren) (a b:Value),G.le r->aM r a b->ev r (.map (es.modify i λe=>{e with key:=a,val:=v}) c) (.map (bd.modify i λe=>{e with key:=b,val:=D}) c):=λr a b B H=>
      .map (G6 (J.mono λ_ _ (x:d' G _ _)=>x.mono B) i (f:=λe=>{e with key:=a,val:=v}) (g:=λe=>{e with key:=b,val:=D}) λx y R=>⟨H,aa.mono (Ren.le_trans C B),R.born⟩) _
     by_cases I:Instr.sameBits 10000 (((es[i]?).map (·.key)).getD k) k=Instr.sameBits 10000 (((bd[i]?).map (·.key)).getD l) l
     .refine PH.aY (Mq L K I) ?_
      intro r a b B H;exact(oA (B.sub _ _ M) (fin r a b B H) trivial).up
     .have W:Instr.sameBits 10000 (((es[i]?).map (·.key)).getD k) k=false:=by
       cases E:Instr.sameBits 10000 (((es[i]?).map (·.key)).getD k) k with
       |false=>rfl
       |true=>exact absurd (E.trans (PT 10000 L K E).symm) I
      have X:Instr.sameBits 10000 (((bd[i]?).map (·.key)).getD l) l=true:=by
       cases E:Instr.sameBits 10000 (((bd[i]?).map (·.key)).getD l) l with
       |true=>rfl
       |false=>exact absurd (W.trans E.symm) I
      have am:=PU 10000 L X;unfold Instr.keyThatStays;rw[W,X];refine .inr (.inr ⟨rfl,λn=>⟨_,_,_,_,(),(),rfl,rfl,M,fin G _ _ (Ren.le_refl G) ?_,trivial,rfl,trivial⟩⟩);split
      .exact K
      .exact am
   |_=>exact aW.up .stuck
  |_=>exact aW.up .stuck
 |_=>exact aW.up .stuck
def ML(S:bK Q P)(t:TypeId){v w:Value}(h:aM ρ v w):aW Q P aM (Instr.range t v) ρ (Instr.range t w):=by
 unfold Instr.range;refine(fE S t).aY ?_;rintro ai d _ p ⟨rfl,_⟩;have fin:∀(aL:Ren) (o g:Obj),ev aL o g->aW Q P aM (do let it <-(pure o:Sem Obj);pure (.pointer (some ⟨<-newObj it,0,none⟩))) aL (do let it <-(pure g:Sem Obj);pure (.pointer (some ⟨<-newObj it,0,none⟩))):=by intro aL o g j;refine aW.aY (A:=ev) (.ret j) ?_;intro B a b _ l;refine(q7 l).aY ?_;intro C r z _ f;exact .ret (.ptr ⟨f,rfl,rfl⟩)
 have i:=h.mono p;cases d with
 |string=>cases i with
  |string s=>exact fin ai _ _ (.stringIter s 0)
  |_=>exact .stuck
 |map k e=>cases i with
  |oe=>exact fin ai _ _ (.mapIter .none 0 #[] 0)
  |map f=>
   dsimp only;refine(ln f).aY ?_;intro aL o g q j;cases j with
   |map u c=>exact fin aL _ _ (.mapIter (.some (q.sub _ _ f)) c #[] c)
   |_=>exact .stuck
  |_=>exact .stuck
 |_=>cases i<;>exact .stuck
def wQ{es bd:Array MapEntry}(h:fa (d' ρ) es bd)(p:Nat->Bool):fa (d' ρ) (es.filter λe=>p e.born) (bd.filter λe=>p e.born):=by
 have key:∀(l m:List MapEntry),cA (d' ρ) l m->cA (d' ρ) (l.filter λe=>p e.born) (m.filter λe=>p e.born):=by
  intro l;induction l with
  |nil=>intro m k;cases k;exact .nil
  |cons x l f=>
   intro m k;cases k with
   |cons c d=>
    simp only[List.filter_cons,<-c.born];split
    .exact .cons c (f _ d)
    .exact f _ d
 have e:=key _ _ (r4 h);have back:∀(a b:Array MapEntry),cA (d' ρ) a.toList b.toList->fa (d' ρ) a b:=by
  intro a b k;have gen:∀(l m:List MapEntry),cA (d' ρ) l m->l.length=m.length/\∀(i:Nat) x y,l[i]?=some x->m[i]?=some y->d' ρ x y:=by
   intro l;induction l with
   |nil=>intro m k;cases k;exact⟨rfl,by simp⟩
   |cons x l f=>
    intro m k;cases k with
    |cons c d=>
     obtain⟨i1,i2⟩:=f _ d;refine⟨by simp[i1],λi u v hu g=>?_⟩;cases i with
     |zero=>simp at hu g;subst hu;subst g;exact c
     |succ i=>exact i2 i u v (by simpa using hu) (by simpa using g)
  obtain⟨j,o⟩:=gen _ _ k;exact⟨by simpa using j,λi x y c q=>o i x y (by simpa using c) (by simpa using q)⟩
 exact back _ _ (by simpa using e)
def G4{a b c d:Array MapEntry}(h:fa (d' ρ) a b)(k:fa (d' ρ) c d):fa (d' ρ) (a++c) (b++d):=by
 refine⟨by simp[h.1,k.1],λi x y g f=>?_⟩;rw[Array.getElem?_append]at g f;rw[<-h.1]at f;by_cases j:i<a.size
 .rw[if_pos j]at g f;exact h.2 i x y g f
 .rw[if_neg j]at g f;exact k.2 _ x y g f
def E4{b:Bool}{es bd:Array MapEntry}(h:fa (d' ρ) es bd):fa (ez (d' ρ)) ((if b then #[none]else #[])++es.map some) ((if b then #[none]else #[])++bd.map some):=by
 have k:fa (ez (d' ρ)) (es.map some) (bd.map some):=by refine⟨by simp[h.1],λi x y c d=>?_⟩;simp only[Array.getElem?_map,Option.map_eq_some_iff]at c d;obtain⟨u,hu,rfl⟩:=c;obtain⟨v,g,rfl⟩:=d;exact .some (h.2 i u v hu g)
 cases b
 .simpa using k
 .refine⟨by simp[h.1],λi x y c d=>?_⟩
  simp only[if_true]at c d;rw[Array.getElem?_append]at c d;by_cases f:i<1
  .rw[if_pos (by simpa using f)]at c d
   have:i=0:=by omega
   subst this;simp at c d;subst c;subst d;exact .none
  .rw[if_neg (by simpa using f)]at c d
   exact k.2 _ x y c d
def Ep{es bd:Array MapEntry}(h:fa (d' ρ) es bd)(p:Nat->Bool):es.all (λe=>p e.born)=bd.all (λe=>p e.born):=by
 have e:∀(l m:List MapEntry),cA (d' ρ) l m->l.all (λe=>p e.born)=m.all (λe=>p e.born):=by
  intro l;induction l with
  |nil=>intro m k;cases k;rfl
  |cons x l f=>intro m k;cases k with
   |cons d c=>simp[f _ c,d.born]
 have:=e _ _ (r4 h);simpa using this
def MH(S:bK Q P)(t:TypeId)(b:Bool){v w:Value}(h:aM ρ v w):aW Q P aM (Instr.next v b t) ρ (Instr.next w b t):=by
 unfold Instr.next;cases h with
 |@ptr a J R=>
  obtain⟨r,off,sp⟩:=a;obtain⟨aa,Z,ad⟩:=J;obtain⟨g,q,u⟩:=R;dsimp only at g q u;subst q;subst u;cases off with
  |succ n=>exact .stuck
  |zero=>
   dsimp only;refine(ln g).aY ?_;intro ai o Y G V;have over:aW Q P aM (pure (.tuple #[.bool false]):Sem Value) ai (pure (.tuple #[.bool false])):=.ret (vA (nz (.bool false)));cases V with
   |stringIter s p=>
    cases b
    .exact .stuck
    .dsimp only
     split
     .refine(oA (G.sub _ _ g) (.stringIter s _) trivial).aY ?_
      rintro aL _ _ _ _;exact .ret (DO (.bool _) (.int _ _) (.int _ _))
     .exact over
   |@mapIter m cP hm d seen last=>
    cases b
    .cases hm with
     |none=>exact over
     |@some m cP hm=>
      dsimp only;refine(ln hm).aY ?_;intro aL x ae H W;cases W with
      |@map es bd j c=>
       dsimp only;have K:es.isEmpty=bd.isEmpty:=by simp[Array.isEmpty,j.1]
       have L:=Ep j λn=>decide (n>=last)
       simp only[<-K,<-L];split
       .trivial
       .have z:=wQ j λn=>!seen.contains n
        have B:=wQ z λn=>decide (n<d)
        have U:=wQ z λn=>decide (n>=d)
        have f:=E4 (b:=(((es.filter λe=>!seen.contains e.born).filter λe=>decide (e.born<d)).isEmpty)) (G4 B U);have M:((es.filter λe=>!seen.contains e.born).filter λe=>decide (e.born<d)).isEmpty=((bd.filter λe=>!seen.contains e.born).filter λe=>decide (e.born<d)).isEmpty:=by have:=B.1;simp only[Array.isEmpty,this]
        rw[<-M];revert f;generalize (if ((es.filter λe=>!seen.contains e.born).filter λe=>decide (e.born<d)).isEmpty then #[none]else #[])++(((es.filter λe=>!seen.contains e.born).filter λe=>decide (e.born<d))++((es.filter λe=>!seen.contains e.born).filter λe=>decide (e.born>=d))).map some=C;generalize (if ((es.filter λe=>!seen.contains e.born).filter λe=>decide (e.born<d)).isEmpty then #[none]else #[])++(((bd.filter λe=>!seen.contains e.born).filter λe=>decide (e.born<d))++((bd.filter λe=>!seen.contains e.born).filter λe=>decide (e.born>=d))).map some=D;intro f;rw[<-f.1];refine(q5 _).aY ?_;rintro af n _ i ⟨rfl,_⟩;rcases E:C[n]? with _|x
        .exact .stuck
        .have T:=bp E
         obtain⟨y,F⟩:∃y,D[n]?=some y:=⟨_,Pu (by rw[<-f.1];exact T)⟩
         have X:=f.2 n x y E F;rw[F];cases X with
         |none=>exact .ret (vA (nz (.bool false)))
         |some he=>
          have l:=Ren.le_trans G (Ren.le_trans H i);dsimp only;rw[<-he.born];refine(oA (l.sub _ _ g) (.mapIter (.some ((Ren.le_trans H i).sub _ _ hm)) _ _ _) trivial).aY ?_;rintro ag _ _ I _;exact .ret (DO (.bool _) ((he.key.mono i).mono I) ((he.val.mono i).mono I))
      |_=>exact .stuck
    .cases hm<;>exact .stuck
   |_=>cases b<;>exact .stuck
 |_=>exact .stuck
def find_born{es bd:Array MapEntry}(h:fa (d' ρ) es bd)(n:Nat):ez (d' ρ) (es.find? (·.born == n)) (bd.find? (·.born == n)):=by
 have e:∀(l m:List MapEntry),cA (d' ρ) l m->ez (d' ρ) (l.find? (·.born == n)) (m.find? (·.born == n)):=by
  intro l;induction l with
  |nil=>intro m k;cases k;exact .none
  |cons x l g=>intro m k;cases k with
   |@cons _ y _ _ c f=>
    have d:(x.born == n)=(y.born == n):=by rw[c.born]
    simp only[List.find?_cons,<-d];split
    .exact .some c
    .exact g _ f
 have:=e _ _ (r4 h);simpa using this
def Md{v w:Value}(h:aM ρ v w):aW Q P aM (Instr.entry v) ρ (Instr.entry w):=by
 unfold Instr.entry;cases h with
 |@ptr a i j=>
  obtain⟨r,off,sp⟩:=a;obtain⟨E,D,G⟩:=i;obtain⟨g,d,f⟩:=j;dsimp only at g d f;subst d;subst f;cases off with
  |succ n=>exact .stuck
  |zero=>
   dsimp only;refine(ln g).aY ?_;intro ai o C z p;cases p with
   |@mapIter m cP hm F seen last=>
    cases hm with
    |none=>exact .stuck
    |some hm=>
     dsimp only;cases seen.back? with
     |none=>exact .stuck
     |some st=>
      dsimp only;refine(ln hm).aY ?_;intro aL x H B q;cases q with
      |@map es bd l c=>
       dsimp only;split
       .trivial
       .have e:=find_born l st
        revert e;generalize Array.find? (λ(x:MapEntry)=>x.born == st) es=u;generalize Array.find? (λ(x:MapEntry)=>x.born == st) bd=ay;intro e;cases e with
        |none=>trivial
        |some he=>exact .ret (s0 he.key he.val)
      |_=>exact .stuck
   |_=>exact .stuck
 |_=>exact .stuck
end
end
section
section
variable{Q P:Program}{ρ:Ren}
def Ms{v w:Value}(h:aM ρ v w):aW Q P (dx λ_=>True) (Builtin.lenOf v) ρ (Builtin.lenOf w):=by cases h<;>first|exact .stuck|exact .ret ⟨rfl,trivial⟩
def Ov(s:List UInt8):bE ρ (s.toArray.map λb=>.int .u8 b.toNat) (s.toArray.map λb=>.int .u8 b.toNat):=by refine⟨rfl,λi x y c d=>?_⟩;rw[c]at d;cases d;simp at c;obtain⟨b,_,rfl⟩:=c;exact .int _ _
def yy(size n:Nat){v w:Value}(h:aM ρ v w):aW Q P bE (Builtin.firstCells size n v) ρ (Builtin.firstCells size n w):=by
 cases h with
 |slice h l c=>exact CX h _
 |jw l c=>exact .ret .nil
 |string s=>exact .ret (Ov (ρ:=ρ) _)
 |_=>exact .stuck
def Oy{a b:Array Value}(h:bE ρ a b)(n:Nat):bE ρ (Builtin.zeroCells a n) (Builtin.zeroCells b n):=by unfold Builtin.zeroCells;rw[<-h.1];have:=yU h yT (n*a.size);rwa [<-h.1]at this
def qn{α:Type}(u:Unsupported)(hu:∀g,u≠.initOrder g):dj Q (unsupported u:Sem α):=λw=>⟨.unsupported u,w,rfl,by
 cases u with
 |initOrder g=>exact absurd rfl (hu g)
 |_=>trivial,λes h=>h⟩
def FU{α:Type}(f:FuncId)(u:Unsupported)(hu:∀g,u≠.initOrder g):dj Q (do mark (.extern f);unsupported u:Sem α):=λw=>⟨.unsupported u,w,rfl,by
 cases u with
 |initOrder g=>exact absurd rfl (hu g)
 |_=>trivial,λes h=>by
  have:noRoomEvent∈es.push ⟨.mark (.extern f),false,true⟩:=h;rcases Array.mem_push.1 this with k|k
  .exact k
  .unfold noRoomEvent at k;cases k⟩
def CS{a b:Addr}(h:cU ρ a b)(n:Nat):aW Q P (λ_ x y=>x=true->y=true) (Builtin.holdsCells a n) ρ (Builtin.holdsCells b n):=by
 unfold Builtin.holdsCells;refine(q9 h.block).aY ?_;rintro ai x y _ c;cases x with
 |none=>cases y with
  |none=>exact .ret id
  |some y=>cases c
 |some x=>cases y with
  |none=>cases c
  |some y=>
   obtain⟨e,f⟩:=x;obtain⟨i,g⟩:=y;refine .ret λd=>?_
   have k:f<=g:=by rcases c.2 with k|k<;>omega
   simp only[Bool.and_eq_true,decide_eq_true_eq]at d ⊢;rw[<-h.spot,<-h.off];exact⟨d.1,by omega⟩
def C1{α β:Type}{A:Ren->α->β->Prop}{k:Bool->Sem α}{o:Bool->Sem β}(size l n:Nat){base base':Option Addr}(B:ez (cU ρ) base base'){x z:Value}(h:aM ρ x z)(G:x≠.tuple #[])(C:dj Q (k true))(F:∀ai,ρ.le ai->aW Q P A (k false) ai (o false)):aW Q P A (Builtin.mayShare size l n base x >>= k) ρ (Builtin.mayShare size l n base' z >>= o):=by
 have fin:∀(ai:Ren) (b f:Bool),ρ.le ai->(b=false->f=false)->aW Q P A (k b) ai (o f):=by
  intro ai b f i q;cases b with
  |true=>exact .dF C
  |false=>rw[q rfl];exact F ai i
 unfold Builtin.mayShare;have tail:∀(ai:Ren) (t a':Bool),ρ.le ai->(t=true->a'=true)->aW Q P A ((if (!t)=true then pure true else(match (generalizing:=false) x with
  |.slice (some j) _ _=>do pure (!(<-Builtin.holdsCells j (n*size))||base.any (·.block == j.block))
  |_=>(pure false:Sem Bool)):Sem Bool) >>= k) ai ((if (!a')=true then pure true else(match (generalizing:=false) z with
  |.slice (some j) _ _=>do pure (!(<-Builtin.holdsCells j (n*size))||base'.any (·.block == j.block))
  |_=>(pure false:Sem Bool)):Sem Bool) >>= o):=by
  intro ai t a' i H;cases t with
  |false=>exact .dF C
  |true=>
   rw[H rfl];simp only[Bool.not_true,Bool.false_eq_true,if_false];have I:∀(b f:Addr),cU ρ b f->aW Q P A ((do pure (!(<-Builtin.holdsCells b (n*size))||base.any (·.block == b.block))) >>= k) ai ((do pure (!(<-Builtin.holdsCells f (n*size))||base'.any (·.block == f.block))) >>= o):=by
    intro b f q;simp only[bind_assoc,pure_bind];refine(CS (q.mono i) _).aY ?_;intro aL u ay w hu;refine fin aL _ _ (Ren.le_trans i w) λg=>?_
    have e:base.any (·.block == b.block)=base'.any (·.block == f.block):=by
     cases B with
     |none=>rfl
     |some h=>exact wm h q
    simp only[Bool.or_eq_false_iff,Bool.not_eq_false']at g ⊢;exact⟨hu g.1,by rw[<-e];exact g.2⟩
   cases h with
   |slice p l c=>exact I _ _ p
   |fM=>exact absurd rfl G
   |_=>exact fin ai false false i id
 dsimp only;cases B with
 |none=>
  simp only[bind_assoc,pure_bind];exact tail ρ true true (Ren.le_refl _) id
 |some p=>
  simp only[bind_assoc,pure_bind];refine(CS p _).aY ?_;intro ai c bo i D;refine aW.aY (A:=λ_ d r=>r=true->d=true) (.inr ⟨_,_,rfl,(p.mono i).add _,λb f k _=>⟨f,rfl,k⟩⟩) ?_;intro aL d r w hd;exact tail aL _ _ (Ren.le_trans i w) (λg=>by
   simp only[Bool.and_eq_true,Bool.not_eq_true']at g ⊢;refine⟨D g.1,?_⟩;cases E:r with
   |false=>rfl
   |true=>rw[hd E]at g;exact absurd g.2 (by simp))
def v8(Q:Program)(ei:Array TypeId):Bool:=match ei[0]?,ei[1]? with
 |some s,some x=>(match Q.underlying x with|some (.int _)=>false|_=>true) && (match Q.underlying s with|some (.slice e)=>kt Q e|_=>true)
 |_,_=>false
def L1(S:bK Q P)(D:ρ.room=true)(ei:Array TypeId)(t:TypeId)(w:v8 Q ei=true){a b:Array Value}(h:bE ρ a b):aW Q P aM (Builtin.append_ ei t a) ρ (Builtin.append_ ei t b):=by
 unfold Builtin.append_;unfold v8 at w;rcases Y:ei[0]? with _|ij
 .exact .stuck
 rcases Z:ei[1]? with _|xT
 .rw[Y,Z]at w;cases w
 rw[Y,Z]at w;simp only[Bool.and_eq_true]at w;obtain⟨aa,M⟩:=w;rcases bE.get? h 0 with⟨s,a6,E,W,au⟩|⟨E,W⟩
 rotate_left
 .rw[E];exact .stuck
 rcases bE.get? h 1 with⟨x,aE,K,X,ad⟩|⟨K,X⟩
 rotate_left
 .rw[E,K];exact .stuck
 rw[E,W,K,X];dsimp only;refine(fE S ij).aY ?_;rintro ai d _ ah ⟨rfl,hd⟩;cases d with
 |slice elem=>
  dsimp only;rw[hd]at M;dsimp only at M;have av:=au.mono ah;have sl:(∃base C l c,s=.slice base l c/\a6=.slice C l c/\ez (cU ai) base C)\/(∀base l c,s≠.slice base l c):=by
   cases av with
   |jw l c=>exact .inl ⟨_,_,l,c,rfl,rfl,.none⟩
   |slice F l c=>exact .inl ⟨_,_,l,c,rfl,rfl,.some F⟩
   |_=>exact .inr λ_ _ _ e=>by cases e
  rcases sl with⟨base,C,f,B,rfl,rfl,aq⟩|no
  rotate_left
  .split
   .exact absurd rfl (no _ _ _)
   .exact .stuck
  dsimp only;refine(iM S elem).aY ?_;rintro aL size _ aj ⟨rfl,_⟩;refine(fE S xT).aY ?_;rintro aK u _ ak ⟨rfl,hu⟩;have T:∀k,u≠.int k:=by rintro k rfl;rw[hu]at aa;cases aa
  refine aW.aY (A:=dx λz=>z=false) (.ret ⟨rfl,by cases u<;>first|rfl|exact absurd rfl (T _)⟩) ?_;rintro aN z _ al ⟨rfl,ax⟩;have ag:=Ren.le_trans ah (Ren.le_trans aj (Ren.le_trans ak al));subst ax;simp only[Bool.false_eq_true,if_false,Bool.not_false,if_true,false_or];by_cases R:x=.tuple #[]
  .subst R
   exact aW.dF ((show dj Q (Builtin.lenOf (.tuple #[]))from jH _).bind _)
  refine(Ms (ad.mono ag)).aY ?_;rintro ap n _ am ⟨rfl,_⟩;have I:=Ren.le_trans ag am;have aC:=Ren.le_trans aj (Ren.le_trans ak (Ren.le_trans al am));have H:=ad.mono I;have G:=aq.mono λ_ _ (k:cU ai _ _)=>k.mono aC
  have aw:aM ap (.slice base f B) (.slice C f B):=by
   cases G with
   |none=>exact .jw _ _
   |some h=>exact .slice h _ _
  split
  .refine(yy size n H).aY ?_
   intro V new aD j L;cases G with
   |none=>exact .ret (.jw _ _)
   |some F=>
    dsimp only;refine(C7 _ _ 0 ((F.mono j).add _) L.toList).aY ?_;rintro J _ _ p _;exact .ret (.slice ((F.mono j).mono p) _ _)
  .refine(l2 S elem).aY ?_
   rintro V i _ j ⟨rfl,_⟩;have fin:∀(J:Ren),ap.le J->aW Q P aM (do
    let q <-choose (.appendCap (f+n) B elem);let i <-typeInfo elem;askRoom (q*i.bytes)
    let old <-Builtin.firstCells size f (.slice base f B);let new <-Builtin.firstCells size n x;let z <-zeroValue elem;let r <-newRow elem (old++new++Builtin.zeroCells z.cells (q-(f+n)));pure (.slice (some r) (f+n) q)) J (do
    let q <-choose (.appendCap (f+n) B elem);let i <-typeInfo elem;askRoom (q*i.bytes)
    let old <-Builtin.firstCells size f (.slice C f B);let new <-Builtin.firstCells size n aE;let z <-zeroValue elem;let r <-newRow elem (old++new++Builtin.zeroCells z.cells (q-(f+n)));pure (.slice (some r) (f+n) q)):=by
    intro aO p;refine(q5 _).aY ?_;rintro aP m _ ae ⟨rfl,_⟩;refine(l2 S elem).aY ?_;rintro aQ i2 _ af ⟨rfl,_⟩;refine(CI (by rw[af.room,ae.room,p.room,I.room];exact D) _).aY ?_;rintro aR _ _ ay _;have ao:=Ren.le_trans p (Ren.le_trans ae (Ren.le_trans af ay));refine(yy size f (aw.mono ao)).aY ?_;intro aS old aH az ar;refine(yy size n ((H.mono ao).mono az)).aY ?_;intro aT new aD aA L;refine(pL S elem M).aY ?_;intro aU z aJ aB T;refine(vh ((((ar.mono aA).append L).mono aB).append (Oy (pV T) _)) elem).aY ?_;intro aV r aI aG D;exact .ret (.slice D _ _)
   split
   .refine aW.aY (A:=dx λ_=>True) (iz S (.error _) rfl) λJ _ _ p _=>?_
    refine(l2 S elem).aY ?_;rintro aF i _ o ⟨rfl,_⟩;split
    .refine aW.aY (A:=λ_ (_:Unit) (_:Unit)=>False) ?_ λ_ _ _ _ h=>h.elim
     refine C1 _ _ _ (G.mono λ_ _ k=>k.mono (Ren.le_trans j (Ren.le_trans p o))) (H.mono (Ren.le_trans j (Ren.le_trans p o))) R (qn _ (by intro g e;cases e)) λV U=>?_
     exact .inr ⟨_,_,rfl,.noRoom (by rw[U.room,o.room,p.room,j.room,I.room];exact D),trivial⟩
    .exact fin _ (Ren.le_trans j (Ren.le_trans p o))
   .refine(l2 S elem).aY ?_
    rintro aF i _ o ⟨rfl,_⟩;split
    .refine aW.aY (A:=λ_ (_:Unit) (_:Unit)=>False) ?_ λ_ _ _ _ h=>h.elim
     refine C1 _ _ _ (G.mono λ_ _ k=>k.mono (Ren.le_trans j o)) (H.mono (Ren.le_trans j o)) R (qn _ (by intro g e;cases e)) λV U=>?_
     exact .inr ⟨_,_,rfl,.noRoom (by rw[U.room,o.room,j.room,I.room];exact D),trivial⟩
    .exact fin _ (Ren.le_trans j o)
 |_=>exact .stuck
def Mr(S:bK Q P)(ei:Array TypeId)(t:TypeId){a b:Array Value}(h:bE ρ a b):aW Q P aM (Builtin.len_ ei t a) ρ (Builtin.len_ ei t b):=by
 unfold Builtin.len_;rcases B:ei[0]? with _|xT
 .exact .stuck
 rcases bE.get? h 0 with⟨x,E,f,i,r⟩|⟨f,i⟩
 rotate_left
 .rw[f];exact .stuck
 rw[f,i];dsimp only;refine(fE S xT).aY ?_;rintro ai d _ w ⟨rfl,_⟩;have g:=r.mono w;cases d with
 |array n e=>exact .ret (.int _ _)
 |pointer j=>
  dsimp only;refine(fE S j).aY ?_;rintro aL u _ C ⟨rfl,_⟩;cases u<;>first|exact .ret (.int _ _)|exact .stuck
 |map dL z=>
  cases g with
  |oe=>exact .ret (.int _ _)
  |map q=>
   dsimp only;refine(ln q).aY ?_;intro aL o D _ p;cases p with
   |map l c=>
    dsimp only;rw[<-l.1];exact .ret (.int _ _)
   |_=>exact .stuck
  |_=>exact .stuck
 |chan e u=>
  cases g with
  |rV=>exact .ret (.int _ _)
  |_=>exact .stuck
 |_=>cases g<;>first|exact .ret (.int _ _)|exact .stuck
def MD{a b c d:Value}(h:aM ρ a b)(k:aM ρ c d):aW Q P aM (Builtin.max2 a c) ρ (Builtin.max2 b d):=by
 cases h<;>cases k<;>first|exact .stuck|exact .ret (.int _ _)|trivial|skip
 rename_i s u;unfold Builtin.max2;refine(ra _ _ _).aY ?_;intro ai x y _ f;refine(yt f).aY ?_;rintro aL b _ _ ⟨rfl,_⟩;exact .ret (.string _)
def MG{a b c d:Value}(h:aM ρ a b)(k:aM ρ c d):aW Q P aM (Builtin.min2 a c) ρ (Builtin.min2 b d):=by
 cases h<;>cases k<;>first|exact .stuck|exact .ret (.int _ _)|trivial|skip
 rename_i s u;unfold Builtin.min2;refine(ra _ _ _).aY ?_;intro ai x y _ f;refine(yt f).aY ?_;rintro aL b _ _ ⟨rfl,_⟩;exact .ret (.string _)
def CR{f:Value->Value->Sem Value}(i:∀(ai:Ren) a b c d,aM ai a b->aM ai c d->aW Q P aM (f a c) ai (f b d)):∀(l m:List Value) {ai:Ren} {x y:Value},aM ai x y->cA (aM ai) l m->aW Q P aM (l.foldlM f x) ai (m.foldlM f y):=by
 intro l;induction l with
 |nil=>intro m ai x y h k;cases k;exact .ret h
 |cons a l p=>
  intro m ai x y h k;cases k with
  |cons g j=>
   rw[List.foldlM_cons,List.foldlM_cons];refine(i ai _ _ _ _ h g).aY ?_;intro aL u v q o;exact p _ o (j.mono λ_ _ k=>k.mono q)
def MC(ei:Array TypeId)(t:TypeId){a b:Array Value}(h:bE ρ a b):aW Q P aM (Builtin.max_ ei t a) ρ (Builtin.max_ ei t b):=by
 unfold Builtin.max_;have:=h.toList;revert this;generalize a.toList=l;generalize b.toList=m;intro k;cases k with
 |nil=>exact .stuck
 |cons d c=>exact CR (λ_ _ _ _ _ h k=>MD h k) _ _ d c
def MF(ei:Array TypeId)(t:TypeId){a b:Array Value}(h:bE ρ a b):aW Q P aM (Builtin.min_ ei t a) ρ (Builtin.min_ ei t b):=by
 unfold Builtin.min_;have:=h.toList;revert this;generalize a.toList=l;generalize b.toList=m;intro k;cases k with
 |nil=>exact .stuck
 |cons d c=>exact CR (λ_ _ _ _ _ h k=>MG h k) _ _ d c
def yD(S:bK Q P){v w:Value}(h:aM ρ v w)(y:Nat)(c:BoundsCode):aW Q P (dx λ_=>True) (Instr.sliceBound v y c) ρ (Instr.sliceBound w y c):=by
 unfold Instr.sliceBound;refine(vf h).aY ?_;rintro ai ⟨k,i⟩ _ _ ⟨rfl,_⟩;dsimp only;split
 .exact .ret ⟨rfl,trivial⟩
 .exact sK S _ _ _ _
def Lq(c:Bool)(cap:Nat):Option Value->Sem Nat
 |some v=>Instr.sliceBound v cap (if c then .slice3Acap else .slice3Alen)
 |none=>pure cap
def Lo(c:Bool)(len m:Nat):Option Value->Bool->Sem Nat
 |some v,true=>Instr.sliceBound v m .slice3B
 |some v,false=>Instr.sliceBound v m (if c then .sliceAcap else .sliceAlen)
 |none,false=>pure len
 |none,true=>stuck "Slice: max without high"
def Lp(h:Nat)(c:Bool):Option Value->Sem Nat
 |some v=>Instr.sliceBound v h (if c then .slice3C else .sliceB)
 |none=>pure 0
def CD(b:Bool)(n c:Nat)(b4 f d:Option Value):Instr.sliceBounds b n c b4 f d=(Lq b c d).bind λm=>(Lo b n m f d.isSome).bind λh=>(Lp h d.isSome b4).bind λl=>Sem.pure (l,h,m):=by unfold Instr.sliceBounds;cases d<;>cases f<;>cases b4<;>rfl
def sN(S:bK Q P)(b:Bool)(n c:Nat){b4 q j o d f:Option Value}(u:ez (aM ρ) b4 q)(z:ez (aM ρ) j o)(i:ez (aM ρ) d f):
 aW Q P (dx λ_=>True) (Instr.sliceBounds b n c b4 j d) ρ (Instr.sliceBounds b n c q o f):=by
 rw[CD,CD];have r:d.isSome=f.isSome:=by cases i<;>rfl
 rw[<-r];generalize d.isSome=g;refine aW.bind (A:=dx λ_=>True) ?_ ?_
 .cases i with
  |none=>exact .ret ⟨rfl,trivial⟩
  |some h=>exact yD S h _ _
 rintro ai m _ p ⟨rfl,_⟩;have w:=u.mono λ_ _ (k:aM ρ _ _)=>k.mono p
 have B:=z.mono λ_ _ (k:aM ρ _ _)=>k.mono p
 refine aW.bind (A:=dx λ_=>True) ?_ ?_
 .cases B with
  |none=>cases g with
   |false=>exact .ret ⟨rfl,trivial⟩
   |true=>exact .stuck
  |some h=>cases g<;>exact yD S h _ _
 rintro aL D _ C ⟨rfl,_⟩;refine aW.bind (A:=dx λ_=>True) ?_ ?_
 .cases w with
  |none=>exact .ret ⟨rfl,trivial⟩
  |some h=>exact yD S (h.mono C) _ _
 rintro E l _ _ ⟨rfl,_⟩;exact .ret ⟨rfl,trivial⟩
def MO(S:bK Q P)(t:TypeId){v w:Value}(h:aM ρ v w){b4 I G H D E:Option Value}(M:ez (aM ρ) b4 I)(R:ez (aM ρ) G H)(F:ez (aM ρ) D E):
 aW Q P aM (Instr.slice t v b4 G D) ρ (Instr.slice t w I H E):=by
 unfold Instr.slice;refine(fE S t).aY ?_;rintro ai d _ o ⟨rfl,_⟩;have g:=h.mono o;have i:=M.mono λ_ _ (k:aM ρ _ _)=>k.mono o
 have j:=R.mono λ_ _ (k:aM ρ _ _)=>k.mono o
 have z:=F.mono λ_ _ (k:aM ρ _ _)=>k.mono o
 have L:D.isSome=E.isSome:=by cases F<;>rfl
 cases d with
 |string=>
  cases g with
  |string s=>
   dsimp only;rw[<-L];split
   .exact .stuck
   .refine(sN S false s.size s.size i j (.none)).aY ?_
    rintro aL ⟨l,r,m⟩ _ _ ⟨rfl,_⟩;exact .ret (.string _)
  |_=>exact .stuck
 |slice e=>
  cases g with
  |jw l c=>
   dsimp only;refine(sN S true l c i j z).aY ?_;rintro aL ⟨b4,r,m⟩ _ _ ⟨rfl,_⟩;dsimp only;refine(iM S e).aY ?_;rintro J n _ _ ⟨rfl,_⟩;simp only[Option.map_none,ite_self];exact .ret (.jw _ _)
  |slice q l c=>
   dsimp only;refine(sN S true l c i j z).aY ?_;rintro aL ⟨b4,r,m⟩ _ B ⟨rfl,_⟩;dsimp only;refine(iM S e).aY ?_;rintro J n _ p ⟨rfl,_⟩;have f:=q.mono (Ren.le_trans B p);split
   .exact .ret (.slice f _ _)
   .exact .ret (.slice (f.add _) _ _)
  |_=>exact .stuck
 |pointer K=>
  dsimp only;refine(ve S g).aY ?_;intro aL a b B q;refine(fE S K).aY ?_;rintro J u _ p ⟨rfl,_⟩;cases u with
  |array n e=>
   dsimp only;have C:=Ren.le_trans B p;refine(sN S false n n (i.mono λ_ _ (k:aM ai _ _)=>k.mono C) (j.mono λ_ _ (k:aM ai _ _)=>k.mono C) (z.mono λ_ _ (k:aM ai _ _)=>k.mono C)).aY ?_;rintro V ⟨b4,r,m⟩ _ T ⟨rfl,_⟩;dsimp only;refine(iM S e).aY ?_;rintro W n _ U ⟨rfl,_⟩;have f:=q.mono (Ren.le_trans p (Ren.le_trans T U));split
   .exact .ret (.slice f _ _)
   .exact .ret (.slice (f.add _) _ _)
  |_=>exact .stuck
 |_=>cases g<;>exact .stuck
def MP(S:bK Q P)(t:TypeId){v w:Value}(h:aM ρ v w){b4 r j l u z:Option Value}(B:ez (aM ρ) b4 r)(C:ez (aM ρ) j l)(D:ez (aM ρ) u z):
 aW Q P aM (Instr.sliceAt t v b4 j u) ρ (Instr.sliceAt t w r l z):=by
 unfold Instr.sliceAt;refine(fE S t).aY ?_;rintro ai d _ c ⟨rfl,_⟩;have g:=h.mono c;have o:=B.mono λ_ _ (k:aM ρ _ _)=>k.mono c
 have p:=C.mono λ_ _ (k:aM ρ _ _)=>k.mono c
 have q:=D.mono λ_ _ (k:aM ρ _ _)=>k.mono c
 cases d with
 |array n e=>
  dsimp only;refine(sO g).aY ?_;intro aL a b f E;refine(sN S false n n (o.mono λ_ _ (k:aM ai _ _)=>k.mono f) (p.mono λ_ _ (k:aM ai _ _)=>k.mono f) (q.mono λ_ _ (k:aM ai _ _)=>k.mono f)).aY ?_;rintro I ⟨b4,H,m⟩ _ F ⟨rfl,_⟩;dsimp only;refine(iM S e).aY ?_;rintro J n _ G ⟨rfl,_⟩;have i:=E.mono (Ren.le_trans F G);split
  .exact .ret (.slice i _ _)
  .exact .ret (.slice (i.add _) _ _)
 |_=>exact MO S t g o p q
def MS(S:bK Q P)(gn t:TypeId)(f:kt Q t=true){v w:Value}(h:aM ρ v w):aW Q P aM (Instr.typeAssert v gn t true) ρ (Instr.typeAssert w gn t true):=by
 unfold Instr.typeAssert;simp only[if_true];have c:∀ai:Ren,aW Q P aM (do pure (.tuple #[<-zeroValue t,.bool false])) ai (do pure (.tuple #[<-zeroValue t,.bool false])):=by intro ai;refine(pL S t f).aY ?_;intro aL z o _ f;exact .ret (s0 f (.bool _))
 refine(fE S t).aY ?_;rintro ai d _ j ⟨rfl,_⟩;have g:=h.mono j;cases d with
 |interface want=>
  cases g with
  |nilIface=>exact c ai
  |iface u k=>
   dsimp only;refine(l2 S u).aY ?_;rintro aL i _ l ⟨rfl,_⟩;split
   .exact .ret (s0 (.iface u (k.mono l)) (.bool _))
   .exact c aL
  |_=>exact .stuck
 |_=>
  cases g with
  |nilIface=>exact c ai
  |iface u k=>
   dsimp only;split
   .exact .ret (s0 k (.bool _))
   .exact c ai
  |_=>exact .stuck
def Mw(f:FuncId)(g:ρ.dy f=none){a b c d:Array Value}(h:bE ρ a b)(k:bE ρ c d):aW Q P aM (Instr.makeFunc (.func f) a c) ρ (Instr.makeFunc (.func f) b d):=
 .ret (.func (.func f g) h.1 h.2 k.1 k.2)
def C5{v w:Value}(h:aM ρ v w)(j:v≠rA){a b:Array Value}(k:bE ρ a b):aW Q P kP (Deferred.ofValue v a) ρ (Deferred.ofValue w b):=by
 cases h with
 |func i c d f g=>exact .ret ⟨.fn i ⟨f,g⟩,bE.append ⟨c,d⟩ k⟩
 |nilFunc=>exact .ret ⟨.nil,k⟩
 |jO=>exact absurd rfl j
 |_=>exact .stuck
end
end
section
section
variable{Q P:Program}{ρ:Ren}
open Go.Extern.Atomic
def two{α:Type}(a:Array α)(h:a.size=2):a=#[a[0],a[1]]:=by
 apply Array.ext
 .simp[h]
 .intro i c d
  have:i=0\/i=1:=by omega
  rcases this with rfl|rfl<;>rfl
def one{α:Type}(a:Array α)(h:a.size=1):a=#[a[0]]:=by
 apply Array.ext
 .simp[h]
 .intro i c d
  have:i=0:=by omega
  rcases this with rfl;rfl
def bE.at{a b:Array Value}(h:bE ρ a b)(i:Nat)(c:i<a.size)(d:i<b.size):aM ρ a[i] b[i]:=h.2 i _ _ (Pu c) (Pu d)
def L4(k:IntKind)(c:k≠.u64){a b:Addr}(h:cU ρ a b):aW Q P (λ_ x y=>∃n,x=.int k n/\y=.int k n) (read (.int k) a) ρ (read (.int k) b):=by
 unfold Extern.Atomic.read;refine(yB h .atomic).aY ?_;intro ai v w l d;cases d with
 |int i n=>
  dsimp only;split
  .rename_i e
   subst e;exact .ret ⟨n,rfl,rfl⟩
  .exact .dF (qn _ (by intro g e;cases e))
 |ptr f=>
  cases k with
  |u64=>exact absurd rfl c
  |_=>exact .dF (qn _ (by intro g e;cases e))
 |_=>exact .dF (qn _ (by intro g e;cases e))
def vL(e:Array Value->Sem Value):Prop:=∀(Q P:Program) (_:bK Q P) (ρ:Ren) (a b:Array Value),bE ρ a b->aW Q P aM (e a) ρ (e b)
def Hg(k:IntKind)(i:k≠.u64):vL (loadT (.int k)):=by
 intro Q P S ρ a b h;by_cases c:a.size=1
 .have g:b.size=1:=h.1 ▸ c
  have j:=h.at 0 (by omega) (by omega);rw[one a c,one b g];unfold loadT;refine(ve S j).aY ?_;intro ai x y _ o;exact(L4 k i o).mono λ_ _ _ _ ⟨n,d,f⟩=>by rw[d,f];exact .int k n
 .obtain⟨l⟩:=a
  rcases l with _|⟨x,_|⟨y,_|⟨z,_|⟨u,l⟩⟩⟩⟩<;>first|exact aW.stuck|exact absurd rfl c
def Hh:vL storeT:=by
 intro Q P S ρ a b h;by_cases c:a.size=2
 .have d:b.size=2:=h.1 ▸ c
  have f:=h.at 0 (by omega) (by omega);have g:=h.at 1 (by omega) (by omega);rw[two a c,two b d];unfold storeT;refine(ve S f).aY ?_;intro ai x y l i;refine(C6 i (g.mono l) .atomic).aY ?_;intro aL _ _ _ _;exact .ret (.tuple rfl (by simp))
 .obtain⟨l⟩:=a
  rcases l with _|⟨x,_|⟨y,_|⟨z,_|⟨u,l⟩⟩⟩⟩<;>first|exact aW.stuck|exact absurd rfl c
end
end
section
section
variable{Q P:Program}{ρ:Ren}
inductive gN(ρ:Ren):Next->Next->Prop
 |value {v w} (h:aM ρ v w):gN ρ (.value v) (.value w)
 |skip:gN ρ .skip .skip
 |enter (f) {a b} (h:bE ρ a b) (aa:∀n,ρ.dy f=some n->a.size=n):gN ρ (.enter f a) (.enter f b)
 |round {l aH} (ah:ρ.r l aH) (f) {a b} (h:bE ρ a b) (c d) (ae:ρ.dw c/\ρ.dw d):gN ρ (.round l f a c d) (.round aH f b c d)
 |defer {d e} (h:kP ρ d e):gN ρ (.defer d) (.defer e)
inductive jg(Spec:FuncId->Func->Func->Prop)(P:Program)(f:FuncId)(fn:Func):Prop
 |none (h:fn.body=none) (I:Extern.findNext fn=none) (J:Extern.find fn=none) (ax:(fn.name.endsWith ".init" && !fn.name.startsWith "(" && !fn.name.startsWith "gosem.")=false):jg Spec P f fn
 |ext (e:Array Value->Sem Value) (dY:Func) (h:P.funcs[f]?=some dY) (hb:fn.body=none) (cE:dY.body=none) (I:Extern.findNext fn=none) (lP:Extern.findNext dY=none) (J:Extern.find fn=some e) (k5:Extern.find dY=some e) (jL:dY.name≠ "runtime.NumGoroutine") (he:vL e):jg Spec P f fn
 |same (dY:Func) (h:P.funcs[f]?=some dY) (hb:fn.body.isSome=true) (cE:dY.body.isSome=true) (ak:dY.name≠ "runtime.NumGoroutine") (az:fn.ntmps=dY.ntmps)
  (U:Spec f fn dY):jg Spec P f fn
structure ey(Spec:FuncId->Func->Func->Prop)(Q P:Program):Prop where
 size:Q.funcs.size=P.funcs.size
 fn:∀f fn,Q.funcs[f]?=some fn->fn.name≠ "runtime.NumGoroutine"/\jg Spec P f fn
variable{Spec:FuncId->Func->Func->Prop}
def yv(S:bK Q P)(H:ey Spec Q P)(f:FuncId){a b:Array Value}(h:bE ρ a b)(z:∀n,ρ.dy f=some n->a.size=n):aW Q P gN (callFunc f a) ρ (callFunc f b):=by
 unfold callFunc;refine lo ?_;rcases e:Q.funcs[f]? with _|fn
 .exact .stuck
 obtain⟨D,q⟩:=H.fn f fn e;dsimp only;rw[if_neg (by simpa using D)];cases q with
 |none d j l w=>
  rw[if_pos (by simp[d]),j,l,w];simp only[Bool.false_eq_true,if_false];exact .dF (FU f _ (by intro g e;cases e))
 |ext e c i d p j r l u o he=>
  rw[i];dsimp only;rw[if_neg (show ¬(c.name == "runtime.NumGoroutine")=true by simpa using o),if_pos (show fn.body.isNone=true by simp[d]),if_pos (show c.body.isNone=true by simp[p]),j,r,l,u];exact .inr ⟨_,_,rfl,.extern f,(he Q P S ρ a b h).aY λ_ _ _ _ E=>.ret (.value E)⟩
 |same c i d p o G q=>
  have B:¬fn.body.isNone=true:=by cases F:fn.body<;>simp_all
  have C:¬c.body.isNone=true:=by cases F:c.body<;>simp_all
  rw[i];dsimp only;rw[if_neg B,if_neg (by simpa using o),if_neg C];exact .ret (.enter f h z)
inductive zb(ρ:Ren)(l m:Loop):Prop
 |mk (I:l.state=m.state) (J:l.pending=m.pending) (ax:l.fn=m.fn) (aV:bE ρ l.tmps m.tmps) (bm:l.params=m.params) (b':l.assign=m.assign) (b7:l.body=m.body) (cW:ρ.r l.defers m.defers) (cX:ρ.dw l.assign/\ρ.dw l.body/\∀c,l.pending=some c->ρ.dw c):zb ρ l m
def sM{l aH:Nat}(h:ρ.r l aH):aW Q P zb (Instr.getLoop l) ρ (Instr.getLoop aH):=by
 unfold Instr.getLoop;refine(ln h).aY ?_;intro ai o w _ u;cases u with
 |loop c d f g i j p q r=>exact .ret ⟨c,d,f,g,i,j,p,q,r⟩
 |_=>exact .stuck
def rF(ai:Ren)(x y:Nat×List Deferred):Prop:=ai.r x.1 y.1/\cA (kP ai) x.2 y.2
def yx(f:FuncId){a b:Array Value}(h:bE ρ a b)(i:Array Tmp)(c d:Code)(q:ρ.dw c/\ρ.dw d){o w:Option Nat}(C:ez ρ.r o w):
 aW Q P rF (Instr.enterLoop f a i c d o) ρ (Instr.enterLoop f b i c d w):=by
 unfold Instr.enterLoop;have tail:∀(ai:Ren) (x y:Nat×List Deferred),ρ.le ai->rF ai x y->aW Q P rF (do pure (<-newObj (.loop {state:=.ready,pending:=none,fn:=f,tmps:=a,params:=i,assign:=c,body:=d,defers:=x.1}),x.2)) ai
  (do pure (<-newObj (.loop {state:=.ready,pending:=none,fn:=f,tmps:=b,params:=i,assign:=c,body:=d,defers:=y.1}),y.2)):=by
  intro ai x y u g;refine(q7 (.loop (l:={state:=.ready,pending:=none,fn:=f,tmps:=a,params:=i,assign:=c,body:=d,defers:=x.1}) (m:={state:=.ready,pending:=none,fn:=f,tmps:=b,params:=i,assign:=c,body:=d,defers:=y.1}) rfl rfl rfl (h.mono u) rfl rfl rfl g.1 (by rw[u.dw];exact⟨q.1,q.2,λ_ e=>by cases e⟩))).aY ?_;intro aL r D j p;exact .ret ⟨p,g.2.mono λ_ _ k=>k.mono j⟩
 cases C with
 |none=>
  refine(q7 (.deferred (.some .nil))).aY ?_;intro ai r D l p;exact aW.aY (A:=rF) (.ret (a:=(_,_)) (b:=(_,_)) ⟨p,.cons ⟨.collected p,.nil⟩ .nil⟩) λaL x y j g=>tail aL x y (Ren.le_trans l j) g
 |some B=>
  refine(sM B).aY ?_;intro ai x y l g;obtain⟨E,F,G,H,I,J,K,z,L⟩:=g;exact aW.aY (A:=rF) (.ret (a:=(_,_)) (b:=(_,_)) ⟨z,.nil⟩) λaL x y j g=>tail aL x y (Ren.le_trans l j) g
def OA{a b:Array Value}(h:bE ρ a b)(c:Array Tmp){x y:Array Value}(k:bE ρ x y):
 bE ρ ((c.zip x).foldl (λtmps (t,a)=>tmps.setIfInBounds t a) a) ((c.zip y).foldl (λtmps (t,a)=>tmps.setIfInBounds t a) b):=by
 have key:∀(l:List Tmp) (u v:List Value),cA (aM ρ) u v->∀{a b:Array Value},bE ρ a b->bE ρ ((l.zip u).foldl (λtmps (x:Tmp×Value)=>tmps.setIfInBounds x.1 x.2) a) ((l.zip v).foldl (λtmps (x:Tmp×Value)=>tmps.setIfInBounds x.1 x.2) b):=by
  intro l;induction l with
  |nil=>intro u v _ a b h;exact h
  |cons t l g=>
   intro u v k a b h;cases k with
   |nil=>exact h
   |cons f d=>
    simp only[List.zip_cons_cons,List.foldl_cons];exact g _ _ d (h.set _ f)
 have:=key c.toList x.toList y.toList k.toList h;rw[<-Array.foldl_toList,<-Array.foldl_toList,Array.toList_zip,Array.toList_zip];exact this
def MU{l aH:Nat}(h:ρ.r l aH){a b:Array Value}(k:bE ρ a b):aW Q P gN (Instr.yield l a) ρ (Instr.yield aH b):=by
 unfold Instr.yield;refine(sM h).aY ?_;intro ai x y d p;obtain⟨q,r,f,g,i,j,o,u,c⟩:=p;dsimp only;rw[<-k.1,<-i,<-f,<-j,<-o];have fin:=aW.ret (Q:=Q) (P:=P) (A:=gN) (ρ:=ai) (.round (d.sub _ _ h) x.fn (OA g x.params (k.mono d)) x.assign x.body ⟨c.1,c.2.1⟩);split
 .exact aW.stuck
 .exact fin
def CJ(S:bK Q P){l aH:Nat}(h:ρ.r l aH):aW Q P (dx λ_=>True) (Instr.beginRound l) ρ (Instr.beginRound aH):=by
 unfold Instr.beginRound;refine(sM h).aY ?_;intro ai x y u r;obtain⟨c,d,f,g,i,j,o,p,q⟩:=r;refine(oA (u.sub _ _ h) (.loop (l:={x with state:=.busy}) (m:={y with state:=.busy}) rfl d f g i j o p q) trivial).aY ?_;rintro aL _ _ _ _;rw[<-c];cases x.state with
 |ready=>exact .ret ⟨rfl,trivial⟩
 |done=>exact iz S (.error _) rfl
 |busy=>exact iz S (.error _) rfl
 |exhausted=>exact iz S (.error _) rfl
def CM{l aH:Nat}(h:ρ.r l aH)(j:Option Code)(u:∀c,j=some c->ρ.dw c):aW Q P aM (Instr.endRound l j) ρ (Instr.endRound aH j):=by unfold Instr.endRound;refine(sM h).aY ?_;intro ai x y f w;obtain⟨z,B,g,i,o,p,q,r,d⟩:=w;refine(oA (f.sub _ _ h) (.loop (l:={x with state:=if j.isNone then .ready else .done,pending:=j}) (m:={y with state:=if j.isNone then .ready else .done,pending:=j}) rfl rfl g i o p q r ⟨d.1,d.2.1,λc e=>by rw[f.dw];exact u c e⟩) trivial).aY ?_;rintro aL _ _ _ _;exact .ret (.bool _)
def CL(S:bK Q P){l aH:Nat}(h:ρ.r l aH):aW Q P (λai x y=>x=y/\∀c,x=some c->ai.dw c) (Instr.endLoop l) ρ (Instr.endLoop aH):=by
 unfold Instr.endLoop;refine(sM h).aY ?_;intro ai x y z w;obtain⟨i,f,j,o,p,q,r,u,g⟩:=w;rw[<-i];have fin:∀aL,ai.le aL->aW Q P (λai x y=>x=y/\∀c,x=some c->ai.dw c) (do setObj l (.loop {x with state:=.exhausted});pure x.pending) aL (do setObj aH (.loop {y with state:=.exhausted});pure y.pending):=by intro aL d;refine(oA ((Ren.le_trans z d).sub _ _ h) (.loop (l:={x with state:=.exhausted}) (m:={y with state:=.exhausted}) rfl f j (o.mono d) p q r (d.sub _ _ u) (by rw[d.dw];exact g)) trivial).aY ?_;rintro C _ _ B _;exact .ret ⟨f,λc e=>by rw[B.dw,d.dw];exact g.2.2 c e⟩
 dsimp only;split
 .exact aW.aY (A:=dx λ_=>True) (iz S (.error _) rfl) λaL _ _ d _=>fin aL d
 .exact fin ai (Ren.le_refl _)
def C8{l aH:Nat}(h:ρ.r l aH):aW Q P (λai=>cA (kP ai)) (Instr.takeDeferred l) ρ (Instr.takeDeferred aH):=by
 unfold Instr.takeDeferred;refine(ln h).aY ?_;intro ai o g d c;cases c with
 |deferred hd=>cases hd with
  |none=>exact .stuck
  |some hd=>
   dsimp only;refine(oA (d.sub _ _ h) (.deferred .none) trivial).aY ?_;rintro aL _ _ f _;exact .ret (hd.mono λ_ _ k=>k.mono f)
 |_=>exact .stuck
def vS(Q:Program)(name:String):Prop:=∀t i m,Q.info? t=some i->i.methods.find? (·.name == name)=some m->m.path=#[]/\m.func.isSome=true/\(∀e,Q.underlying t=some (.pointer e)->m.func.any (·.2)=true)/\∀x,m.func=some x->dX Q x.1=none
def ME(S:bK Q P)(n:Nat)(t:TypeId)(name:String)(z:vS Q name){v w:Value}(h:aM ρ v w):
 aW Q P (λai x y=>x.1=y.1/\aM ai x.2 y.2/\dX Q x.1=none) (method n t v name) ρ (method n t w name):=by
 cases n with
 |zero=>exact .dF (qn _ (by intro g e;cases e))
 |succ n=>
  unfold method;refine(l2 S t).aY ?_;rintro ai i _ F ⟨rfl,u⟩;rcases e:i.methods.find? (·.name == name)with _|m
  .rw[e];exact .stuck
  obtain⟨B,l,o,q⟩:=z t i m u e;rw[e];dsimp only;rw[B];rcases hm:m.func with _|⟨f,j⟩
  .rw[hm]at l;cases l
  rw[hm]at o;have C:=h.mono F;have r:dX Q f=none:=q _ hm;have tail:∀aL,ai.le aL->aW Q P (λai x y=>x.1=y.1/\aM ai x.2 y.2/\dX Q x.1=none) (do pure (f,<-receiverAt t (.val v) j (some ((name.splitOn ".").getLastD name)))) aL (do pure (f,<-receiverAt t (.val w) j (some ((name.splitOn ".").getLastD name)))):=by
   intro aL c;have D:=C.mono c;refine aW.aY (A:=aM) ?_ λH a b _ p=>.ret ⟨rfl,p,r⟩
   unfold receiverAt;refine(fE S _).aY ?_;rintro H d _ G ⟨rfl,hd⟩;have E:=D.mono G;cases j<;>cases d<;>first|exact .ret E|exact .stuck|skip
   exact absurd (o _ hd) (by simp)
  exact aW.aY (A:=λ_ x y=>x=(t,.val v)/\y=(t,.val w)) (.ret ⟨rfl,rfl⟩) (by rintro aL _ _ c ⟨rfl,rfl⟩;exact tail aL c)
end
end
end Go.aN
