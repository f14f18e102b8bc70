/- A part. -/
import GoSem.Step
import Derived.KernelRfl
import Derived.Laws.Sem
import Derived.Conc.Events
import Derived.Calls
import Derived.OrdersIn
import Derived.Orders
import Derived.StepT
set_option maxHeartbeats 8000000
set_option maxRecDepth 100000
set_option linter.all false
namespace Go.aO
variable{i:Nat}
abbrev S7:=World
abbrev S9:=Value
abbrev Tb:=@List
abbrev Tv:=@Array
abbrev TB:=Frame
abbrev TC:=Goroutine
abbrev TU:=Machine
abbrev To:=Program
abbrev TI:=@Option
abbrev Ta:=Bool
abbrev Tg:=TypeId
abbrev Tx:=CallKind
abbrev TF:=Func
abbrev TL:=Event
abbrev TY:=MapEntry
abbrev TD:=Addr
abbrev Tt:=Trace
abbrev Tw:=FuncId
abbrev T0:=Outcome
abbrev T6:=String
abbrev Te:=Tv S9
abbrev TP:=Tb S9
abbrev Tz:=Tb TB
abbrev TJ:=Tv TF
abbrev TE:=Tv TL
abbrev TA:=Tb Nat
abbrev TX:=Tb Int
abbrev TN:=TI Nat
abbrev TV:=TI TD
abbrev TR:=Tv TC
abbrev T5:=Tv TY
abbrev T8:=TI (Nat×Nat)
abbrev TZ:=TI S9
abbrev Ty:=Nat->Int
abbrev T2:=Nat->Nat
abbrev TM:=Nat->Prop
abbrev TQ:=S7->Prop
abbrev T9:=Ta->Ta
abbrev Tf:=@trivial
abbrev Td:=@absurd
abbrev Tq:=@if_pos
abbrev Tm:=@if_neg
abbrev T7:=@List.mem_cons
abbrev TS:=@Bool.and_eq_true
abbrev Ux:=@Option.map_eq_some_iff
abbrev Ua:=@decide_eq_false
abbrev Ue:=@Array.getElem?_toList
abbrev Uh:=@Classical.byContradiction
abbrev Ui:=@List.getElem?_eq_getElem
abbrev Un:=@List.all_eq_true
abbrev Uf:=@Bool.false_eq_true
abbrev Ug:=@List.length_append
abbrev Uo:=@Array.getElem?_append_right
abbrev T':=@Nat.zero_le
abbrev Ub:=@Nat.lt_or_ge
abbrev Um:=@Array.getElem?_eq_none
abbrev Up:=@Array.size_setIfInBounds
abbrev Uc:=@decide_eq_true
abbrev T4:=@Iff.rfl
abbrev Uj:=@Array.append_assoc
abbrev TT:=@Ne.symm
abbrev Uq:=@Nat.eq_zero_or_pos
abbrev Ud:=@And.intro
abbrev Us:=@Array.getElem?_append_left
abbrev Uk:=@Array.getElem?_map
abbrev Ur:=@List.mem_cons_of_mem
abbrev Ul:=@Nat.add_assoc
abbrev Uu:=@of_decide_eq_true
def S6.{u}{α:Sort u}{a:α}:a=a:=rfl
abbrev Ti(b:Nat):Addr:=⟨b,0,none⟩
abbrev S8(b o:Nat):Addr:=⟨b,o,none⟩
abbrev Tj(b:Nat):Value:=.pointer (some ⟨b,0,none⟩)
abbrev T1(b o:Nat):Value:=.pointer (some ⟨b,o,none⟩)
abbrev Ts(b:Nat):=Value.slice (some ⟨b,0,none⟩)
abbrev TW(b o:Nat):=Value.slice (some ⟨b,o,none⟩)
abbrev TG(k:CallKind):Prop:=k=.normal\/k=.deferred
abbrev Tk(f:Frame)(c:List Frame):Goroutine:=⟨f,c,.running,none,none⟩
def bI{α:Type _}{a:α}:a∈[a]:=List.mem_singleton.2 rfl
def ev{α:Type _}{a b:α}(h:a∈[b]):a=b:=List.mem_singleton.1 h
def bg{n:Nat}:n<=n:=Nat.le_refl _
def bD{α:Type _}{a b:α}(h:some a=some b):a=b:=Option.some.inj h
def fb{α:Type _}{xs:Array α}(h:i<xs.size):xs[i]?=some xs[i]:=Array.getElem?_eq_getElem h
def iO{α:Type _}{xs:Array α}{a:α}(h:i<xs.size):(xs.setIfInBounds i a)[i]?=some a:=Array.getElem?_setIfInBounds_self_of_lt h
def h7{α:Type _}{xs:Array α}{j:Nat}(h:i≠j){a:α}:(xs.setIfInBounds i a)[j]?=xs[j]?:=Array.getElem?_setIfInBounds_ne h
def cL{n m k:Nat}(h:n<=m)(c:m<=k):n<=k:=Nat.le_trans h c
def gu{n m k:Nat}(h:n<m)(c:m<=k):n<k:=Nat.lt_of_lt_of_le h c
def hk{α:Type _}{l:List α}{a:α}(h:l[i]?=some a):a∈l:=List.mem_of_getElem? h
def jb{α:Type _}{l k:List α}(h:l.length<=i):(l++k)[i]?=k[i-l.length]?:=List.getElem?_append_right h
def jz{α:Type _}{l k:List α}(h:i<l.length):(l++k)[i]?=l[i]?:=List.getElem?_append_left h
def iq{α:Type _}{xs:Array α}{x:α}:(xs.push x)[i]?=if i=xs.size then some x else xs[i]?:=Array.getElem?_push
def iN{α:Type _}{a:α}:¬a∈[]:=List.not_mem_nil
def eL{α β:Type}(P:Program)(x:Sem α)(f:α->Sem β)(w:World):Sem.run P (Sem.bind x f) w=(Sem.run P x w).andThen (λa w'=>Sem.run P (f a) w'):=Sem.run_bind' P x f w
def U{p:Prop}(h:p:=by omega):p:=h
def av{p:Prop}(h:p:=by kernel_rfl):p:=h
def aF{p:Prop}(h:p:=by simp):p:=h
def a6{p:Prop}(h:p:=by decide):p:=h
def dT{p:Prop}(h:p:=by dsimp only;omega):p:=h
def cH{p:Prop}(h:p:=by simp;omega):p:=h
def k4{p:Prop}(h:p:=by rw[decide_eq_true_iff];omega):p:=h
def nd{p:Prop}(h:p:=by rw[decide_eq_false_iff_not];omega):p:=h
def ub{p:Prop}(h:p:=by rw[beq_eq_false_iff_ne];omega):p:=h
def kj{p:Prop}(h:p:=by unfold maxLen;omega):p:=h
def lV{p:Prop}(h:p:=by intro b e;cases e):p:=h
def mx{p:Prop}(h:p:=by rintro(h|h|h)<;>cases h):p:=h
def fX{p:Prop}(h:p:=by repeat' (first|exact trivial|kernel_rfl|refine⟨?_,?_⟩|refine λ(_:eG)=>?_|refine λ(_:e4)=>?_|refine λ(_:Unit)=>?_|refine λ(_:Nat)=>?_|intro _)):p:=h
def bR{p:Prop}(h:p:=by nofun):p:=h
section
structure Ren where
 r:Nat->Nat->Prop
 fwd:∀{a b c:Nat},r a b->r a c->b=c
 bwd:∀{a b c:Nat},r a c->r b c->a=b
 lim:Nat
 low:∀{a b:Nat},r a b->(a<lim↔b<lim)
 exact:Ta
 cells:Tg->Nat
 cW:Code->Prop
 room:Ta
 eb:Tw->TN
 fu:Ta
structure Ren.le(ρ ai:Ren):Prop where
 sub:∀a b,ρ.r a b->ai.r a b
 lim:ai.lim=ρ.lim
 exact:ai.exact=ρ.exact
 cells:ai.cells=ρ.cells
 cW:ai.cW=ρ.cW
 room:ai.room=ρ.room
 eb:ai.eb=ρ.eb
 fu:ai.fu=ρ.fu
def Ren.le_refl(ρ:Ren):ρ.le ρ:=⟨λ_ _ h=>h,S6,S6,S6,S6,S6,S6,S6⟩
def Ren.le_trans{ρ ai aR:Ren}(h:ρ.le ai)(k:ai.le aR):ρ.le aR:=⟨λa b x=>k.sub a b (h.sub a b x),k.lim.trans h.lim,k.exact.trans h.exact,k.cells.trans h.cells,k.cW.trans h.cW,k.room.trans h.room,k.eb.trans h.eb,k.fu.trans h.fu⟩
def gb{α β:Type}(R:α->β->Prop)(a:Tv α)(b:Tv β):Prop:=a.size=b.size/\∀(i:Nat) x y,a[i]?=some x->b[i]?=some y->R x y
inductive fl{α β:Type}(R:α->β->Prop):TI α->TI β->Prop
 |none:fl R none none
 |some {a:α} {b:β} (h:R a b):fl R (some a) (some b)
inductive cK{α β:Type}(R:α->β->Prop):Tb α->Tb β->Prop
 |nil:cK R [] []
 |cons {a:α} {b:β} {l:Tb α} {m:Tb β} (h:R a b) (t:cK R l m):cK R (a::l) (b::m)
structure ds(ρ:Ren)(a b:TD):Prop where
 block:ρ.r a.block b.block
 off:a.off=b.off
 spot:a.spot=b.spot
inductive qv(ρ:Ren):Fn->Fn->Prop
 |func (f) (h:ρ.eb f=none):qv ρ (.func f) (.func f)
 |yield {l aN} (h:ρ.r l aN):qv ρ (.yield l) (.yield aN)
abbrev tv:S9:=.func (.method "") #[.iface 1000000000 .nilIface] #[]
def Hl:S9->Prop
 |.bool _ |.int _ _ |.string _ |.agg _ |.pointer none |.slice none _ _ |.map none |.chan none |.nilIface |.nilFunc |.func (.method _) _ _=>False
 |_=>True
inductive aQ(ρ:Ren):S9->S9->Prop
 |bool (b):aQ ρ (.bool b) (.bool b)
 |int (k n):aQ ρ (.int k n) (.int k n)
 |string (s):aQ ρ (.string s) (.string s)
 |jH:aQ ρ (.pointer none) (.pointer none)
 |ptr {a b} (h:ds ρ a b):aQ ρ (.pointer (some a)) (.pointer (some b))
 |kr (l c):aQ ρ (.slice none l c) (.slice none l c)
 |slice {a b} (h:ds ρ a b) (l c):aQ ρ (.slice (some a) l c) (.slice (some b) l c)
 |ju {a b:TD} (aI:ρ.fu=true) (af:a.spot.isSome=true):aQ ρ (.slice (some a) 0 0) (.slice (some b) 0 0)
 |p5:aQ ρ (.map none) (.map none)
 |map {a b} (h:ρ.r a b):aQ ρ (.map (some a)) (.map (some b))
 |qP:aQ ρ (.chan none) (.chan none)
 |func {f g:Fn} {a b c d:Te} (h:qv ρ f g) (I:a.size=b.size) (J:∀(i:Nat) x y,a[i]?=some x->b[i]?=some y->aQ ρ x y)
  (ax:c.size=d.size) (aZ:∀(i:Nat) x y,c[i]?=some x->d[i]?=some y->aQ ρ x y):aQ ρ (.func f a c) (.func g b d)
 |nilFunc:aQ ρ .nilFunc .nilFunc
 |iface (t) {v w} (h:aQ ρ v w):aQ ρ (.iface t v) (.iface t w)
 |nilIface:aQ ρ .nilIface .nilIface
 |agg {a b:Te} (I:a.size=b.size) (J:∀(i:Nat) x y,a[i]?=some x->b[i]?=some y->aQ ρ x y):aQ ρ (.agg a) (.agg b)
 |tuple {a b:Te} (I:a.size=b.size) (J:∀(i:Nat) x y,a[i]?=some x->b[i]?=some y->aQ ρ x y):aQ ρ (.tuple a) (.tuple b)
 |gI {v:S9} (aI:ρ.fu=true) (h:Hl v):aQ ρ (.tuple #[]) v
 |k9 {n:T6} {b d:Te} (aI:ρ.fu=true):aQ ρ (.func (.method "") #[.iface 1000000000 .nilIface] #[]) (.func (.method n) b d)
def ds.mono{ρ ai:Ren}(h:ρ.le ai){a b:TD}(x:ds ρ a b):ds ai a b:=⟨h.sub _ _ x.block,x.off,x.spot⟩
def qv.mono{ρ ai:Ren}(h:ρ.le ai){a b:Fn}(x:qv ρ a b):qv ai a b:=by
 cases x with
 |yield k=>exact .yield (h.sub _ _ k)
 |func f c=>exact .func f (by rw[h.eb];exact c)
def aQ.mono{ρ ai:Ren}(h:ρ.le ai){v w:S9}(x:aQ ρ v w):aQ ai v w:=by
 induction x with
 |ptr a=>exact .ptr (a.mono h)
 |slice a l c=>exact .slice (a.mono h) l c
 |map a=>exact .map (h.sub _ _ a)
 |func f d _ j _ o p=>exact .func (f.mono h) d o j p
 |iface t _ i=>exact .iface t i
 |agg d _ i=>exact .agg d i
 |tuple d _ i=>exact .tuple d i
 |ju g m=>exact .ju (h.fu.trans g) m
 |gI g n=>exact .gI (h.fu.trans g) n
 |k9 g=>exact .k9 (h.fu.trans g)
 |_=>constructor
abbrev bQ(ρ:Ren):Te->Te->Prop:=gb (aQ ρ)
def gb.mono{α β:Type}{R S:α->β->Prop}(h:∀x y,R x y->S x y){a:Tv α}{b:Tv β}(x:gb R a b):gb S a b:=⟨x.1,λi y z c d=>h _ _ (x.2 i y z c d)⟩
def cK.mono{α β:Type}{R S:α->β->Prop}(h:∀x y,R x y->S x y){a:Tb α}{b:Tb β}(x:cK R a b):cK S a b:=by
 induction x with
 |nil=>exact .nil
 |cons k _ c=>exact .cons (h _ _ k) c
def fl.mono{α β:Type}{R S:α->β->Prop}(h:∀x y,R x y->S x y){a:TI α}{b:TI β}(x:fl R a b):fl S a b:=by
 cases x with
 |none=>exact .none
 |some k=>exact .some (h _ _ k)
def bQ.mono{ρ ai:Ren}(h:ρ.le ai){a b:Te}(x:bQ ρ a b):bQ ai a b:=gb.mono (λ_ _ k=>k.mono h) x
def tl{ρ:Ren}{a b:Te}(h:bQ ρ a b):aQ ρ (.agg a) (.agg b):=.agg h.1 h.2
def ya{ρ:Ren}{a b:Te}(h:bQ ρ a b):aQ ρ (.tuple a) (.tuple b):=.tuple h.1 h.2
inductive tH(ρ:Ren):Target->Target->Prop
 |fn {f g:Fn} {a b:Te} (h:qv ρ f g) (I:bQ ρ a b):tH ρ (.fn f a) (.fn g b)
 |nil:tH ρ .nil .nil
 |collected {r bU} (h:ρ.r r bU):tH ρ (.collected r) (.collected bU)
structure me(ρ:Ren)(d e:Deferred):Prop where
 target:tH ρ d.target e.target
 args:bQ ρ d.args e.args
def me.mono{ρ ai:Ren}(h:ρ.le ai){d e:Deferred}(x:me ρ d e):me ai d e:=by
 obtain⟨t,a⟩:=x;refine⟨?_,a.mono h⟩;generalize d.target=f at t;generalize e.target=g at t;cases t with
 |fn k c=>exact .fn (k.mono h) (c.mono h)
 |nil=>exact .nil
 |collected k=>exact .collected (h.sub _ _ k)
structure eR(ρ:Ren)(e f:TY):Prop where
 key:aQ ρ e.key f.key
 val:aQ ρ e.val f.val
 born:e.born=f.born
def BF(ρ:Ren)(n:Nat)(f g:Nat×Nat):Prop:=f=g\/(ρ.exact=false/\f.1=0/\n<=f.2/\g.2<=f.2)
def w5{ρ:Ren}{n:Nat}{q:Nat×Nat}(h:BF ρ n (0,0) q)(c:0<n):q=(0,0):=by
 rcases h with h|⟨_,_,h,_⟩
 .exact h.symm
 .have h:n<=0:=h
  omega
inductive eZ(ρ:Ren):Obj->Obj->Prop
 |cells {c d:Te} {e:Tg} {f g:Nat×Nat} (I:c.size=d.size\/(c.size<d.size/\c.size<ρ.cells e)) (J:∀(i:Nat) x y,c[i]?=some x->d[i]?=some y->aQ ρ x y) (aD:BF ρ c.size f g):eZ ρ (.cells c e f) (.cells d e g)
 |map {es ba:T5} (h:gb (eR ρ) es ba) (c):eZ ρ (.map es c) (.map ba c)
 |number {a b:TD} (h:ds ρ a b) (l):eZ ρ (.number a l) (.number b l)
 |stringIter (s p):eZ ρ (.stringIter s p) (.stringIter s p)
 |mapIter {m dd:TN} (h:fl ρ.r m dd) (a b c):eZ ρ (.mapIter m a b c) (.mapIter dd a b c)
 |loop {l m:Loop} (I:l.state=m.state) (J:l.pending=m.pending) (ax:l.fn=m.fn) (aZ:bQ ρ l.tmps m.tmps) (bs:l.params=m.params) (cv:l.assign=m.assign) (cP:l.body=m.body) (dV:ρ.r l.defers m.defers) (eo:ρ.cW l.assign/\ρ.cW l.body/\∀c,l.pending=some c->ρ.cW c):eZ ρ (.loop l) (.loop m)
 |deferred {l m:TI (Tb Deferred)} (h:fl (cK (me ρ)) l m):eZ ρ (.deferred l) (.deferred m)
def eR.mono{ρ ai:Ren}(h:ρ.le ai){d e:TY}(x:eR ρ d e):eR ai d e:=⟨x.key.mono h,x.val.mono h,x.born⟩
def eZ.mono{ρ ai:Ren}(h:ρ.le ai){o p:Obj}(x:eZ ρ o p):eZ ai o p:=by
 cases x with
 |cells d f w=>exact .cells (d.imp id λk=>⟨k.1,by rw[h.cells];exact k.2⟩) (λi x y a b=>(f i x y a b).mono h) (w.imp id λk=>⟨h.exact.trans k.1,k.2⟩)
 |map k c=>exact .map (k.mono λ_ _=>eR.mono h) c
 |number k l=>exact .number (k.mono h) l
 |stringIter s p=>exact .stringIter s p
 |mapIter k a b c=>exact .mapIter (k.mono h.sub) a b c
 |loop d f g j m n q r u=>exact .loop d f g (j.mono h) m n q (h.sub _ _ r) (by rw[h.cW];exact u)
 |deferred k=>exact .deferred (k.mono λ_ _ a=>a.mono λ_ _ b=>b.mono h)
inductive yu(ρ:Ren):Mark->Mark->Prop
 |extern (f):yu ρ (.extern f) (.extern f)
 |noRoom (h:ρ.room=true):yu ρ .noRoom .noRoom
def jU:Halt->Prop
 |.stuck _=>True
 |.unsupported (.initOrder _)=>False
 |.unsupported _=>True
 |_=>False
def cY(Q:To){α:Type}(s:Sem α):Prop:=∀w,∃h w',s.run Q w=.halt h w'/\jU h/\∀es,noRoomEvent∈(s.runT Q w es).2->noRoomEvent∈es
def Hk{β:Type}(ρ:Ren)(h:Halt)(s:Sem β):Prop:=
 match h with
 |.panic v=>∃c,s=.halt (.panic c)/\aQ ρ v c
 |h=>jU h
def tF(ρ:Ren):TI (Tg×Nat)->TI (Tg×Nat)->Prop
 |none,none=>True
 |some (e,n),some (c,m)=>e=c/\(n=m\/(n<m/\n<ρ.cells e))
 |_,_=>False
def py:Obj->Prop
 |.cells ..=>False
 |_=>True
def tw{α β:Type}(A:Ren->α->β->Prop)(ρ:Ren)(t:Sem α)(s:Sem β):Prop:=∃r o d c a b,t=.setObj r o (.pure a)/\s=.setObj d c (.pure b)/\ρ.r r d/\eZ ρ o c/\py o/\A ρ a b
def ef(l:Ta)(Q P:To){α β:Type}(A:Ren->α->β->Prop):Sem α->Ren->Sem β->Prop
 |.pure a,ρ,s=>∃b,s=.pure b/\A ρ a b
 |.load m a k,ρ,s=>cY Q (.load m a k)\/∃g d,s=.load m g d/\ds ρ a g/\∀v j,aQ ρ v j->ef l Q P A (k v) ρ (d j)
 |.store m a v k,ρ,s=>cY Q (.store m a v k)\/∃g j d,s=.store m g j d/\ds ρ a g/\aQ ρ v j/\ef l Q P A k ρ d
 |.new o k,ρ,s=>cY Q (.new o k)\/∃i d,s=.new i d/\eZ ρ o i/\∀(ai:Ren) r f,ρ.le ai->ai.r r f->ef l Q P A (k r) ai (d f)
 |.shape r k,ρ,s=>cY Q (.shape r k)\/∃f d,s=.shape f d/\ρ.r r f/\∀(x y:TI (Tg×Nat)),tF ρ x y->ef l Q P A (k x) ρ (d y)
 |.freeze a n k,_,_=>cY Q (.freeze a n k)
 |.frozen a k,ρ,s=>cY Q (.frozen a k)\/∃g d,s=.frozen g d/\ds ρ a g/\∀b p:Ta,(p=true->b=true)->(ρ.exact=true->b=p)->ef l Q P A (k b) ρ (d p)
 |.getObj r k,ρ,s=>cY Q (.getObj r k)\/∃f d,s=.getObj f d/\ρ.r r f/\∀o i,eZ ρ o i->ef l Q P A (k o) ρ (d i)
 |.setObj r o k,ρ,s=>cY Q (.setObj r o k)\/∃f i d,s=.setObj f i d/\ρ.r r f/\eZ ρ o i/\py o/\ef l Q P A k ρ d
 |.choose q k,ρ,s=>cY Q (.choose q k)\/(∃d,s=.choose q d/\∀n,ef l Q P A (k n) ρ (d n))\/(l=true/\∀n,tw A ρ (k n) s)
 |.sys c k,_,_=>cY Q (.sys c k)
 |.program k,ρ,s=>cY Q (.program k)\/∃d,s=.program d/\ef l Q P A (k Q) ρ (d P)
 |.mark m k,ρ,s=>cY Q (.mark m k)\/∃dd d,s=.mark dd d/\yu ρ m dd/\ef l Q P A k ρ d
 |.halt h,ρ,s=>Hk ρ h s
abbrev a2(Q P:To){α β:Type}(A:Ren->α->β->Prop)(s:Sem α)(ρ:Ren)(aX:Sem β):Prop:=ef false Q P A s ρ aX
section
variable{Q P:To}{α β g4 mc:Type}
def ef.dp{l:Ta}{A:Ren->α->β->Prop}{s:Sem α}{ρ:Ren}{aX:Sem β}(h:cY Q s):ef l Q P A s ρ aX:=by
 cases s with
 |pure a=>let⟨x,w',e,_⟩:=h default;simp[Sem.run]at e
 |halt x=>
  let⟨y,w',e,g,_⟩:=h default;simp[Sem.run]at e;obtain⟨rfl,_⟩:=e;cases x with
  |panic v=>exact g.elim
  |_=>exact g
 |freeze a n k=>exact h
 |sys c k=>exact h
 |_=>exact .inl h
def a2.dp{A:Ren->α->β->Prop}{s:Sem α}{ρ:Ren}{aX:Sem β}(h:cY Q s):a2 Q P A s ρ aX:=ef.dp h
def tw.mono{A B:Ren->α->β->Prop}{ρ:Ren}{t:Sem α}{s:Sem β}(h:tw A ρ t s)(f:∀ai a b,ρ.le ai->A ai a b->B ai a b):tw B ρ t s:=by obtain⟨r,o,n,m,a,b,c,d,g,i,j,l⟩:=h;exact⟨r,o,n,m,a,b,c,d,g,i,j,f ρ a b (Ren.le_refl ρ) l⟩
def ef.mono{l m:Ta}(w:l=true->m=true){A B:Ren->α->β->Prop}{s:Sem α}:∀{ρ:Ren} {aX:Sem β},ef l Q P A s ρ aX->(∀ai a b,ρ.le ai->A ai a b->B ai a b)->ef m Q P B s ρ aX:=by
 induction s with
 |pure a=>rintro ρ aX ⟨b,rfl,h⟩ k;exact⟨b,S6,k ρ _ _ (Ren.le_refl ρ) h⟩
 |load m a k g=>rintro ρ aX (hd|⟨p,i,rfl,h,d⟩) f;(· exact .inl hd);exact .inr ⟨p,i,S6,h,λv C z=>g v (d v C z) f⟩
 |store m a v k g=>rintro ρ aX (hd|⟨p,C,i,rfl,h,z,d⟩) f;(· exact .inl hd);exact .inr ⟨p,C,i,S6,h,z,g d f⟩
 |new o k g=>rintro ρ aX (hd|⟨u,i,rfl,h,d⟩) f;(· exact .inl hd);exact .inr ⟨u,i,S6,h,λai r j w H=>g r (d ai r j w H) λaR a b I=>f aR a b (Ren.le_trans w I)⟩
 |shape r k g=>rintro ρ aX (hd|⟨j,i,rfl,h,d⟩) f;(· exact .inl hd);exact .inr ⟨j,i,S6,h,λx y e=>g x (d x y e) f⟩
 |freeze a n k g=>exact λh _=>h
 |frozen a k g=>rintro ρ aX (hd|⟨p,i,rfl,h,d⟩) f;(· exact .inl hd);exact .inr ⟨p,i,S6,h,λb D e E=>g b (d b D e E) f⟩
 |getObj r k g=>rintro ρ aX (hd|⟨j,i,rfl,h,d⟩) f;(· exact .inl hd);exact .inr ⟨j,i,S6,h,λo u e=>g o (d o u e) f⟩
 |setObj r o k g=>rintro ρ aX (hd|⟨j,u,i,rfl,h,G,F,d⟩) f;(· exact .inl hd);exact .inr ⟨j,u,i,S6,h,G,F,g d f⟩
 |choose q k g=>rintro ρ aX (hd|⟨i,rfl,d⟩|⟨e,d⟩) f;(· exact .inl hd);(· exact .inr (.inl ⟨i,S6,λn=>g n (d n) f⟩));exact .inr (.inr ⟨w e,λn=>(d n).mono f⟩)
 |sys c k g=>exact λh _=>h
 |program k g=>rintro ρ aX (hd|⟨i,rfl,d⟩) f;(· exact .inl hd);exact .inr ⟨i,S6,g Q d f⟩
 |mark m k g=>rintro ρ aX (hd|⟨dd,i,rfl,hm,d⟩) f;(· exact .inl hd);exact .inr ⟨dd,i,S6,hm,g d f⟩
 |halt h=>exact λx _=>x
def a2.mono{A B:Ren->α->β->Prop}{s:Sem α}{ρ:Ren}{aX:Sem β}(h:a2 Q P A s ρ aX)(f:∀ai a b,ρ.le ai->A ai a b->B ai a b):a2 Q P B s ρ aX:=ef.mono id h f
def a2.up{l:Ta}{A:Ren->α->β->Prop}{s:Sem α}{ρ:Ren}{aX:Sem β}(h:a2 Q P A s ρ aX):ef l Q P A s ρ aX:=ef.mono bR h λ_ _ _ _ x=>x
def Oe{s:Sem α}(f:α->Sem g4){w w':S7}{h:Halt}(e:s.run Q w=.halt h w'):(s.bind f).run Q w=.halt h w':=by rw[eL,e];rfl
def cY.bind{s:Sem α}(f:α->Sem g4)(h:cY Q s):cY Q (s.bind f):=λw=>by
 let⟨x,w',e,g,k⟩:=h w;refine⟨x,w',Oe f e,g,λes hm=>k es ?_⟩;rw[Sem.runT_bind']at hm;have c:(s.runT Q w es).1=.halt x w':=by rw[Sem.runT_fst,e]
 revert hm c;generalize s.runT Q w es=r;rcases r with⟨_|⟨y,d⟩,ba⟩<;>intro hm c
 .cases c
 .exact hm
def ef.bind{l:Ta}{A:Ren->α->β->Prop}{B:Ren->g4->mc->Prop}{s:Sem α}{f:α->Sem g4}{g:β->Sem mc}:
 ∀{ρ:Ren} {aX:Sem β},a2 Q P A s ρ aX->(∀(ai:Ren) a b,ρ.le ai->A ai a b->ef l Q P B (f a) ai (g b))->ef l Q P B (s.bind f) ρ (aX.bind g):=by
 induction s with
 |pure a=>rintro ρ aX ⟨b,rfl,h⟩ k;exact k ρ _ _ (Ren.le_refl ρ) h
 |load m a k d=>rintro ρ aX (hd|⟨w,j,rfl,h,i⟩) x;(· exact .dp (hd.bind f));exact .inr ⟨w,_,S6,h,λv D z=>d v (i v D z) x⟩
 |store m a v k d=>rintro ρ aX (hd|⟨w,D,j,rfl,h,z,i⟩) x;(· exact .dp (hd.bind f));exact .inr ⟨w,D,_,S6,h,z,d i x⟩
 |new o k d=>rintro ρ aX (hd|⟨C,j,rfl,h,i⟩) x;(· exact .dp (hd.bind f));exact .inr ⟨C,_,S6,h,λai r p E J=>d r (i ai r p E J) λaR a b K=>x aR a b (Ren.le_trans E K)⟩
 |shape r k d=>rintro ρ aX (hd|⟨p,j,rfl,h,i⟩) x;(· exact .dp (hd.bind f));exact .inr ⟨p,_,S6,h,λu y e=>d u (i u y e) x⟩
 |freeze a n k d=>exact λh _=>.dp (cY.bind f h)
 |frozen a k d=>rintro ρ aX (hd|⟨w,j,rfl,h,i⟩) x;(· exact .dp (hd.bind f));exact .inr ⟨w,_,S6,h,λb F e G=>d b (i b F e G) x⟩
 |getObj r k d=>rintro ρ aX (hd|⟨p,j,rfl,h,i⟩) x;(· exact .dp (hd.bind f));exact .inr ⟨p,_,S6,h,λo C e=>d o (i o C e) x⟩
 |setObj r o k d=>rintro ρ aX (hd|⟨p,C,j,rfl,h,I,H,i⟩) x;(· exact .dp (hd.bind f));exact .inr ⟨p,C,_,S6,h,I,H,d i x⟩
 |choose q k d=>rintro ρ aX (hd|⟨j,rfl,i⟩|⟨e,i⟩) x;(· exact .dp (hd.bind f));(· exact .inr (.inl ⟨_,S6,λn=>d n (i n) x⟩));cases e
 |sys c k d=>exact λh _=>.dp (cY.bind f h)
 |program k d=>rintro ρ aX (hd|⟨j,rfl,i⟩) x;(· exact .dp (hd.bind f));exact .inr ⟨_,S6,d Q i x⟩
 |mark m k d=>rintro ρ aX (hd|⟨dd,j,rfl,hm,i⟩) x;(· exact .dp (hd.bind f));exact .inr ⟨dd,_,S6,hm,d i x⟩
 |halt h=>
  intro ρ aX x _;cases h with
  |panic v=>obtain⟨D,rfl,z⟩:=x;exact⟨D,S6,z⟩
  |_=>exact x
def ef.map{l:Ta}{A:Ren->α->β->Prop}{B:Ren->g4->mc->Prop}{s:Sem α}{f:α->g4}{g:β->mc}:
 ∀{ρ:Ren} {aX:Sem β},ef l Q P A s ρ aX->(∀(ai:Ren) a b,ρ.le ai->A ai a b->B ai (f a) (g b))->ef l Q P B (s.bind λa=>.pure (f a)) ρ (aX.bind λb=>.pure (g b)):=by
 induction s with
 |pure a=>rintro ρ aX ⟨b,rfl,h⟩ k;exact⟨_,S6,k ρ _ _ (Ren.le_refl ρ) h⟩
 |load m a k i=>rintro ρ aX (hd|⟨z,j,rfl,h,d⟩) x;(· exact .dp (hd.bind _));exact .inr ⟨z,_,S6,h,λv D C=>i v (d v D C) x⟩
 |store m a v k i=>rintro ρ aX (hd|⟨z,D,j,rfl,h,C,d⟩) x;(· exact .dp (hd.bind _));exact .inr ⟨z,D,_,S6,h,C,i d x⟩
 |new o k i=>rintro ρ aX (hd|⟨w,j,rfl,h,d⟩) x;(· exact .dp (hd.bind _));exact .inr ⟨w,_,S6,h,λai r p E S=>i r (d ai r p E S) λaR a b T=>x aR a b (Ren.le_trans E T)⟩
 |shape r k i=>rintro ρ aX (hd|⟨p,j,rfl,h,d⟩) x;(· exact .dp (hd.bind _));exact .inr ⟨p,_,S6,h,λu y e=>i u (d u y e) x⟩
 |freeze a n k i=>exact λh _=>.dp (cY.bind _ h)
 |frozen a k i=>rintro ρ aX (hd|⟨z,j,rfl,h,d⟩) x;(· exact .dp (hd.bind _));exact .inr ⟨z,_,S6,h,λb F e G=>i b (d b F e G) x⟩
 |getObj r k i=>rintro ρ aX (hd|⟨p,j,rfl,h,d⟩) x;(· exact .dp (hd.bind _));exact .inr ⟨p,_,S6,h,λo w e=>i o (d o w e) x⟩
 |setObj r o k i=>rintro ρ aX (hd|⟨p,w,j,rfl,h,R,M,d⟩) x;(· exact .dp (hd.bind _));exact .inr ⟨p,w,_,S6,h,R,M,i d x⟩
 |choose q k i=>
  rintro ρ aX (hd|⟨j,rfl,d⟩|⟨e,d⟩) x
  .exact .dp (hd.bind _)
  .exact .inr (.inl ⟨_,S6,λn=>i n (d n) x⟩)
  .refine .inr (.inr ⟨e,λn=>?_⟩)
   obtain⟨r,o,p,w,a,b,H,rfl,I,J,K,L⟩:=d n;exact⟨r,o,p,w,f a,g b,by show(k n).bind _=_;rw[H];rfl,S6,I,J,K,x ρ a b (Ren.le_refl ρ) L⟩
 |sys c k i=>exact λh _=>.dp (cY.bind _ h)
 |program k i=>rintro ρ aX (hd|⟨j,rfl,d⟩) x;(· exact .dp (hd.bind _));exact .inr ⟨_,S6,i Q d x⟩
 |mark m k i=>rintro ρ aX (hd|⟨dd,j,rfl,hm,d⟩) x;(· exact .dp (hd.bind _));exact .inr ⟨dd,_,S6,hm,i d x⟩
 |halt h=>
  intro ρ aX x _;cases h with
  |panic v=>obtain⟨D,rfl,C⟩:=x;exact⟨D,S6,C⟩
  |_=>exact x
def a2.bind{A:Ren->α->β->Prop}{B:Ren->g4->mc->Prop}{s:Sem α}{f:α->Sem g4}{g:β->Sem mc}{ρ:Ren}{aX:Sem β}(h:a2 Q P A s ρ aX)(k:∀(ai:Ren) a b,ρ.le ai->A ai a b->a2 Q P B (f a) ai (g b)):a2 Q P B (s.bind f) ρ (aX.bind g):=ef.bind h k
def a2.a8{A:Ren->α->β->Prop}{B:Ren->g4->mc->Prop}{s:Sem α}{aX:Sem β}{f:α->Sem g4}{g:β->Sem mc}{ρ:Ren}(h:a2 Q P A s ρ aX)(k:∀(ai:Ren) a b,ρ.le ai->A ai a b->a2 Q P B (f a) ai (g b)):a2 Q P B (s >>= f) ρ (aX >>= g):=a2.bind h k
def ef.a8{l:Ta}{A:Ren->α->β->Prop}{B:Ren->g4->mc->Prop}{s:Sem α}{aX:Sem β}{f:α->Sem g4}{g:β->Sem mc}{ρ:Ren}(h:a2 Q P A s ρ aX)(k:∀(ai:Ren) a b,ρ.le ai->A ai a b->ef l Q P B (f a) ai (g b)):ef l Q P B (s >>= f) ρ (aX >>= g):=ef.bind h k
def a2.ret{A:Ren->α->β->Prop}{a:α}{b:β}{ρ:Ren}(h:A ρ a b):a2 Q P A (Pure.pure a) ρ (Pure.pure b):=⟨b,S6,h⟩
def a2.stuck{A:Ren->α->β->Prop}{ρ:Ren}{c:T6}{s:Sem β}:a2 Q P A (Go.stuck c) ρ s:=by trivial
end
def jk(w:S7)(b:Nat):Prop:=∃c e N,w.heap[b]?=some (.cells c e (0,N))/\c.size<=N
def jk.of_eq{w aG:S7}{b:Nat}(h:jk w b)(e:aG.heap[b]?=w.heap[b]?):jk aG b:=by obtain⟨c,t,N,h,d⟩:=h;exact⟨c,t,N,e.trans h,d⟩
structure dA(ρ:Ren)(w w':S7):Prop where
 obj:∀b aE,ρ.r b aE->∃o aV,w.heap[b]?=some o/\w'.heap[aE]?=some aV/\eZ ρ o aV
 tape:∀n q,w.tape (w.drawn+n) q=w'.tape (w'.drawn+n) q
 lim:ρ.lim<=w.heap.size
 js:ρ.lim<=w'.heap.size
structure gm(ρ:Ren)(w w':S7):Prop where
 obj:∀b aE,ρ.r b aE->∃o aV,w.heap[b]?=some o/\w'.heap[aE]?=some aV/\eZ ρ o aV
 lim:ρ.lim<=w.heap.size
 js:ρ.lim<=w'.heap.size
def dA.hrel{ρ:Ren}{w w':S7}(h:dA ρ w w'):gm ρ w w':=⟨h.obj,h.lim,h.js⟩
def tJ(l:Ta)(ρ:Ren)(w w':S7):Prop:=gm ρ w w'/\(l=false->dA ρ w w')
def dA.G1{ρ:Ren}{w w':S7}(h:dA ρ w w')(l:Ta):tJ l ρ w w':=⟨h.hrel,λ_=>h⟩
def bu{α:Type}{a:Tv α}{x:α}(h:a[i]?=some x):i<a.size:=by
 rcases Ub i a.size with k|k
 .exact k
 .rw[Um k]at h;cases h
def dA.lt{ρ:Ren}{w w':S7}(h:dA ρ w w'){b c:Nat}(k:ρ.r b c):b<w.heap.size/\c<w'.heap.size:=by let⟨o,g,d,f,_⟩:=h.obj b c k;exact⟨bu d,bu f⟩
structure Eff(ρ ai:Ren)(w aG w' bJ:S7):Prop where
 le:ρ.le ai
 new:∀b aE,ai.r b aE->ρ.r b aE\/(w.heap.size<=b/\w'.heap.size<=aE)
 size:w'.heap.size<=bJ.heap.size
 out:∀aE,aE<w'.heap.size->(∀b,¬ρ.r b aE)->bJ.heap[aE]?=w'.heap[aE]?
 fresh:∀aE,w'.heap.size<=aE->aE<bJ.heap.size->∃b,ai.r b aE
 guard:∀b aE,ρ.r b aE->jk w b->aG.heap[b]?=w.heap[b]?/\bJ.heap[aE]?=w'.heap[aE]?
 tape:bJ.tape=w'.tape
 os:bJ.os=w'.os
 output:bJ.output=w'.output
 yc:aG.tape=w.tape
 rJ:w.heap.size<=aG.heap.size
def Eff.refl{ρ:Ren}{w w':S7}:Eff ρ ρ w w w' w':=
 ⟨Ren.le_refl ρ,λ_ _ h=>.inl h,bg,λ_ _ _=>S6,λc h k=>Td k U,λ_ _ _ _=>⟨S6,S6⟩,S6,S6,S6,S6,bg⟩
def Eff.trans{ρ ai aR:Ren}{w aG j w' bJ l:S7}(B:dA ai aG bJ)(h:Eff ρ ai w aG w' bJ)(k:Eff ai aR aG j bJ l):Eff ρ aR w j w' l where
 le:=Ren.le_trans h.le k.le
 new b c x:=by
  rcases k.new b c x with y|⟨z,m⟩
  .exact h.new b c y
  .exact .inr ⟨cL h.rJ z,cL h.size m⟩
 size:=cL h.size k.size
 out c d i:=by
  have:∀b,¬ai.r b c:=λb x=>by
   rcases h.new b c x with y|⟨_,m⟩
   .exact i b y
   .omega
  rw[k.out c (gu d h.size) this,h.out c d i]
 fresh c q r:=by
  by_cases u:c<bJ.heap.size
  .let⟨b,d⟩:=h.fresh c q u
   exact⟨b,k.le.sub _ _ d⟩
  .exact k.fresh c U r
 guard b c d g:=by let⟨f,n⟩:=h.guard b c d g;let⟨p,o⟩:=k.guard b c (h.le.sub _ _ d) (g.of_eq f);exact⟨p.trans f,o.trans n⟩
 tape:=k.tape.trans h.tape
 os:=k.os.trans h.os
 output:=k.output.trans h.output
 yc:=k.yc.trans h.yc
 rJ:=cL h.rJ k.rJ
inductive fc(ai:Ren)(w:S7):TL->Prop
 |cell {b:Nat} {bd:TD} (h:ai.r b bd.block) (write sync:Ta) (ag:write=true->¬jk w b) (ez:∀c e N,w.heap[b]?=some (.cells c e (0,N))->c.size<=N->bd.off<c.size/\bd.spot=none):fc ai w ⟨.cell bd,write,sync⟩
 |obj {b aE:Nat} (h:ai.r b aE) (write:Ta) (ag:write=true->¬jk w b):fc ai w ⟨.obj aE,write,false⟩
 |mark {m:Mark} (h:m=.noRoom\/∃f,m=.extern f):fc ai w ⟨.mark m,false,true⟩
end
section
section
variable{F:Fence}{n:Nat}{P:To}{md:Region.Mode}{ops:Tv Oper}{Q:Exit->Act->S7->Prop}
def i'(L:Nat->Ta)(i j:Nat):Ta:=if j=i then true else L j
def uy(l:Tv Ta):Nat:=l.toList.countP (λb=>!b)
def DG{l:Tv Ta}(h:l[i]?=some false):uy (l.setIfInBounds i true)+1=uy l:=by
 have c:i<l.toList.length:=by have:=(Array.getElem?_eq_some_iff.1 h).1;simpa using this
 have he:l.toList[i]=false:=by have:=(Array.getElem?_eq_some_iff.1 h).2;simpa using this
 unfold uy;rw[Array.toList_setIfInBounds,List.countP_set c,he];have:0<l.toList.countP (λb=>!b):=List.countP_pos_iff.2 ⟨false,by rw[<-he];exact List.getElem_mem _,S6⟩;simp only[Bool.not_false,if_true,Bool.not_true,if_false,Uf,Nat.add_zero];omega
def Sp{R:(Nat->Ta)->Act->S7->Prop}(C:∀(i:Nat) (o:Oper),ops[i]?=some o->∀e∈o.after,e.on<i)(G:∀(L:Nat->Ta) (i:Nat) (o:Oper) (a:Act) (w:S7),ops[i]?=some o->L i=false->(∀e∈o.after,Region.binds md e=true->L e.on=true)->R L a w->wpOpIn F n P ops Q i (λm w'=>R (i' L i) m w') a w)(D:∀L a w,(∀i,i<ops.size->L i=true)->R L a w->Q .normal a w):
 ∀fuel listed a w,listed.size=ops.size->uy listed<=fuel->R (λj=>listed.getD j false) a w->wpAnyIn F n P md ops Q fuel listed a w:=by
 have done:∀(listed:Tv Ta) a w,listed.size=ops.size->R (λj=>listed.getD j false) a w->Region.ready md ops listed = []->Q .normal a w:=by
  intro listed a w f g h;refine D _ a w ?_ g;intro i;induction i using Nat.strongRecOn with
  |_ i r=>
   intro d;cases u:listed.getD i false with
   |true=>rfl
   |false=>
    have hm:i∈Region.ready md ops listed:=by
     rw[mem_ready];refine⟨?_,ops[i],fb d,λe he _=>?_⟩
     .have c:i<listed.size:=U
      simp only[Array.getD,c,dif_pos]at u ⊢;exact u
     .have E:=C i _ (fb d) e he
      exact r e.on E U
    rw[h]at hm;cases hm
 have pos:∀(listed:Tv Ta) i,listed.size=ops.size->i∈Region.ready md ops listed->listed[i]?=some false:=by
  intro listed i f d;let⟨l,o,q,_⟩:=mem_ready.1 d;have c:i<listed.size:=by have:=(Array.getElem?_eq_some_iff.1 q).1;omega
  rw[fb c];simp only[Array.getD,c,dif_pos]at l;exact congrArg some l
 intro fuel;induction fuel with
 |zero=>
  intro listed a w f c g;have h:Region.ready md ops listed = []:=by
   refine List.eq_nil_iff_forall_not_mem.2 λi d=>?_
   have:=DG (pos listed i f d);omega
  exact⟨h,done listed a w f g h⟩
 |succ fuel r=>
  intro listed a w f c g;refine⟨λh=>done listed a w f g h,λi d=>?_⟩;have hp:=pos listed i f d;let⟨l,o,q,y⟩:=mem_ready.1 d;have z:listed.getD i false=false:=by have c:i<listed.size:=(Array.getElem?_eq_some_iff.1 hp).1;simp only[Array.getD,c,dif_pos]at l ⊢;exact l
  refine wpOpIn_mono (λm w' B=>?_) (G _ i o a w q z y g);refine r _ m w' (by simpa using f) (by have:=DG hp;omega) ?_;have e:(λj=>(listed.setIfInBounds i true).getD j false)=i' (λj=>listed.getD j false) i:=by
   funext j;have c:i<listed.size:=(Array.getElem?_eq_some_iff.1 hp).1;unfold i';by_cases p:j=i
   .subst p
    simp[Array.getD,c]
   .simp only[Tm p,Array.getD,Up]
    split
    .exact Array.getElem_setIfInBounds_ne U (λe=>p e.symm)
    .rfl
  rw[e];exact B
def BS(ops:Tv Oper):Ta:=(List.range ops.size).all λi=>match ops[i]? with|some o=>o.after.all λe=>decide (e.on<i)|none=>true
def HN(h:BS ops=true)(i:Nat)(o:Oper)(c:ops[i]?=some o)(e:Edge)(he:e∈o.after):e.on<i:=by have d:i<ops.size:=(Array.getElem?_eq_some_iff.1 c).1;have:=List.all_eq_true.1 h i (List.mem_range.2 d);rw[c]at this;have:=Array.all_eq_true_iff_forall_mem.1 this e he;simpa using this
def Sq{R:(Nat->Ta)->Act->S7->Prop}(hm:P.follows .mixedOrders=true){id:Nat}{a:Act}{w:S7}(f:BS ops=true)(h:∀(L:Nat->Ta) (i:Nat) (o:Oper) (a:Act) (w:S7),ops[i]?=some o->L i=false->(∀e∈o.after,Region.binds .any e=true->L e.on=true)->R L a w->wpOpIn F n P ops Q i (λc w'=>R (i' L i) c w') a w)(g:∀L a w,(∀i,i<ops.size->L i=true)->R L a w->Q .normal a w)(d:R (λ_=>false) a {w with drawn:=w.drawn+1}):(Code.region id ops true).wpIn F n P Q a w:=by
 refine wpIn_region_any hm (Sp (HN f) h g _ _ _ _ aF ?_ ?_)
 .unfold uy
  refine cL List.countP_le_length ?_;simp
 .have e:(λj=>(Array.replicate ops.size false).getD j false)=λ_=>false:=by funext j;simp[Array.getD]
  rw[e];exact d
end
end
end Go.aO
namespace Go.aO
attribute [-simp] Go.Sem.runT_eq
section
section
variable{Q P:To}{α β:Type}{ρ ai:Ren}{w w':S7}
def fc.mono{w:S7}(h:ρ.le ai){e:TL}(x:fc ρ w e):fc ai w e:=by
 cases x with
 |cell k wr s g i=>exact .cell (h.sub _ _ k) wr s g i
 |obj k wr g=>exact .obj (h.sub _ _ k) wr g
 |mark k=>exact .mark k
def fc.back{w aG:S7}(m:∀b d,ρ.r b d->jk w b->aG.heap[b]?=w.heap[b]?)(n:∀b,(∃d,ai.r b d)->(∃d,ρ.r b d)\/w.heap.size<=b){e:TL}(x:fc ai aG e):fc ai w e:=by
 have key:∀b d,ai.r b d->¬jk aG b->¬jk w b:=by
  intro b d f q j;rcases n b ⟨d,f⟩with⟨c,ar⟩|ar
  .exact q (j.of_eq (m b c ar j))
  .obtain⟨_,_,_,p,_⟩:=j
   have:=bu p;omega
 cases x with
 |@cell b r k wr s g i=>
  refine .cell k wr s (λh=>key _ _ k (g h)) λc e N f l=>?_
  rcases n b ⟨_,k⟩with⟨o,ar⟩|ar
  .exact i c e N ((m b o ar ⟨c,e,N,f,l⟩).trans f) l
  .have:=bu f
   omega
 |obj k wr g=>exact .obj k wr λh=>key _ _ k (g h)
 |mark k=>exact .mark k
def g6(l:Ta)(P:To)(A:Ren->α->β->Prop)(ρ:Ren)(w w':S7)(aX:Sem β):Result α->Prop
 |.ok a aG=>∃(ai:Ren) (b:β) (bJ:S7) (ba:TE),(∀es,aX.runT P w' es=(.ok b bJ,es++ba))/\Eff ρ ai w aG w' bJ/\tJ l ai aG bJ/\A ai a b/\∀e∈ba,fc ai w e
 |.halt (.panic v) aG=>∃(ai:Ren) (c:S9) (bJ:S7) (ba:TE),(∀es,aX.runT P w' es=(.halt (.panic c) bJ,es++ba))/\Eff ρ ai w aG w' bJ/\tJ l ai aG bJ/\aQ ai v c/\∀e∈ba,fc ai w e
 |.halt h _=>jU h
def g6.step{l:Ta}{A:Ren->α->β->Prop}{aG bJ:S7}{hs aX:Sem β}{r:Result α}{ba:TE}(p:∀es,aX.runT P w' es=hs.runT P bJ (es++ba))(he:Eff ρ ai w aG w' bJ)(q:dA ai aG bJ)(u:∀e∈ba,fc ai w e)(h:g6 l P A ai aG bJ hs r):g6 l P A ρ w w' aX r:=by
 have B:∀(aR:Ren) (d c:S7),Eff ai aR aG d bJ c->∀b,(∃f,aR.r b f)->(∃f,ρ.r b f)\/w.heap.size<=b:=by
  rintro aR d c e b ⟨f,o⟩;rcases e.new b f o with x|⟨x,_⟩
  .rcases he.new b f x with y|⟨y,_⟩
   .exact .inl ⟨_,y⟩
   .exact .inr y
  .exact .inr (cL he.rJ x)
 have bz:∀(aR:Ren) (d c:S7) (gs:TE),Eff ai aR aG d bJ c->(∀e∈gs,fc aR aG e)->∀e∈ba++gs,fc aR w e:=by
  intro aR d c gs e k x C;rcases Array.mem_append.1 C with y|y
  .exact(u x y).mono e.le
  .exact(k x y).back (λb f o z=>(he.guard b f o z).1) (B aR d c e)
 cases r with
 |ok a d=>
  obtain⟨aR,b,c,gs,i,g,j,m,n⟩:=h;exact⟨aR,b,c,ba++gs,λes=>by rw[p,i,Uj],he.trans q g,j,m,bz aR d c gs g n⟩
 |halt x d=>
  cases x with
  |panic v=>
   obtain⟨aR,b,c,gs,i,g,j,m,n⟩:=h;exact⟨aR,b,c,ba++gs,λes=>by rw[p,i,Uj],he.trans q g,j,m,bz aR d c gs g n⟩
  |_=>exact h
def yT(y:dA ρ w w'){a h:TD}(i:ds ρ a h):(∃v m,w.cell? a=some v/\w'.cell? h=some m/\aQ ρ v m)\/w.cell? a=none:=by
 let⟨o,C,n,p,q⟩:=y.obj _ _ i.block;unfold World.cell?;rw[n,p];cases q with
 |@cells c d e f g r u z=>
  have r:c.size<=d.size:=U;simp only;rw[i.spot,i.off];by_cases j:h.spot.isSome=true
  .exact .inr (by simp[j])
  .rcases l:c[h.off]? with _|v
   .exact .inr aF
   .have B:=bu l
    have hd:d[h.off]?=some d[h.off]:=fb U;exact .inl ⟨v,_,by simp[j],by simp[j],u _ _ _ l hd⟩
 |_=>exact .inr S6
def Ce{a d:TD}(g:ds ρ a d){v:S9}(h:w.cell? a=some v){c:Te}{e:Tg}{f:Nat×Nat}(i:w.heap[a.block]?=some (.cells c e f)):d.off<c.size/\d.spot=none:=by
 unfold World.cell? at h;rw[i]at h;dsimp only at h;split at h
 .cases h
 .rename_i j
  rw[g.off]at h;exact⟨bu h,by rw[<-g.spot];simpa using j⟩
def Ee(h:dA ρ w w'){a c:TD}(g:ds ρ a c)(what:T6):∃s,w.noCell a what=.stuck s:=by let⟨o,j,d,i,f⟩:=h.obj _ _ g.block;unfold World.noCell;rw[d];cases f<;>exact⟨_,S6⟩
def zd(d:dA ρ w w'){a f:TD}(c:ds ρ a f)(x:Ta):∃s,w.farLoad Q a x=.error (.stuck s):=by let⟨s,i⟩:=Ee d c "load: no such cell";let⟨o,l,g,j,h⟩:=d.obj _ _ c.block;refine⟨s,?_⟩;unfold World.farLoad;rw[g];cases h<;>simp[i]
def CZ(d:dA ρ w w'){a f:TD}(c:ds ρ a f)(v:S9)(x:Ta):∃s,w.farStore Q a v x=.error (.stuck s):=by let⟨s,i⟩:=Ee d c "store: no such cell";let⟨o,l,g,j,h⟩:=d.obj _ _ c.block;refine⟨s,?_⟩;unfold World.farStore;rw[g];cases h<;>simp[i]
def heap_setCell{w:S7}{a:TD}{v:S9}{c:Te}{e:Tg}{f:Nat×Nat}(h:w.heap[a.block]?=some (.cells c e f))(g:a.spot.isSome=false)(b:Nat):
 (w.setCell a v).heap[b]?=if b=a.block then some (.cells (c.setIfInBounds a.off v) e f)else w.heap[b]?:=by
 unfold World.setCell;simp only[Array.getElem?_modify];by_cases d:b=a.block
 .subst d;simp[h,g]
 .have:¬a.block=b:=λx=>d x.symm
  simp[d,this]
def size_setCell{w:S7}{a:TD}{v:S9}:(w.setCell a v).heap.size=w.heap.size:=by simp[World.setCell]
def A5(D:dA ρ w w'){a j:TD}{v H:S9}(l:ds ρ a j)(W:aQ ρ v H){x:S9}(n:w.cell? a=some x)(p:w.frozen? a=false):
 (∃y,w'.cell? j=some y)/\w'.frozen? j=false/\¬jk w a.block/\dA ρ (w.setCell a v) (w'.setCell j H)/\Eff ρ ρ w (w.setCell a v) w' (w'.setCell j H):=by
 let⟨o,ag,u,z,L⟩:=D.obj _ _ l.block;unfold World.cell? at n;rw[u]at n;unfold World.frozen? at p;rw[u]at p;cases L with
 |@cells c d e f g V X hm=>
  have af:c.size<=d.size:=U;simp only at n p;by_cases q:a.spot.isSome=true
  .simp[q]at n
  simp only[Bool.not_eq_true]at q;have F:j.spot.isSome=false:=by rw[<-l.spot];exact q
  simp[q]at n;have R:=bu n;have Q:f=g:=by
   rcases hm with rfl|⟨_,Y,Z,_⟩
   .rfl
   .obtain⟨f1,f2⟩:=f
    simp at p Y Z;omega
  subst Q;have J:¬jk w a.block:=by rintro⟨aa,ad,N,C,ae⟩;rw[u]at C;simp only[Option.some.injEq,Obj.cells.injEq]at C;obtain⟨rfl,rfl,rfl⟩:=C;simp at p;omega
  refine⟨⟨d[j.off]'(by rw[<-l.off];omega),?_⟩,?_,J,⟨?_,D.tape,by rw[size_setCell];exact D.lim,by rw[size_setCell];exact D.js⟩,?_⟩
  .unfold World.cell?;rw[z];simp only[F];simp
  .unfold World.frozen?;rw[z];simp only;rw[<-l.off];exact p
  .intro b m B
   rw[heap_setCell u q,heap_setCell z F];by_cases G:b=a.block
   .subst G
    have M:m=j.block:=ρ.fwd B l.block;subst M;simp only[if_true];refine⟨_,_,S6,S6,.cells (by simpa using V) (λi x y E r=>?_) (.inl S6)⟩;rw[<-l.off]at r;simp only[Array.getElem?_setIfInBounds]at E r;by_cases I:a.off=i
    .subst I
     have hd:a.off<d.size:=U;simp[R]at E;simp[hd]at r;subst E;subst r;exact W
    .simp[I]at E r
     exact X i x y E r
   .have P:¬m=j.block:=λx=>G (by subst x;exact ρ.bwd B l.block)
    simp only[G,P,if_false];exact D.obj b m B
  .refine⟨Ren.le_refl ρ,λ_ _ h=>.inl h,by rw[size_setCell];exact bg,λm _ S=>?_,λm x y=>Td y (by rw[size_setCell];omega),λb m B C=>?_,S6,S6,S6,S6,by rw[size_setCell];exact bg⟩
   .rw[heap_setCell z F]
    have:¬m=j.block:=λx=>S a.block (by subst x;exact l.block)
    simp[this]
   .have K:¬b=a.block:=λx=>by subst x;exact J C
    have T:¬m=j.block:=λx=>K (by subst x;exact ρ.bwd B l.block)
    exact⟨by rw[heap_setCell u q];simp[K],by rw[heap_setCell z F];simp[T]⟩
 |_=>simp at n
def Dg(m:dA ρ w w'){a d:TD}(c:ds ρ a d)(h:w'.frozen? d=true):w.frozen? a=true:=by
 let⟨o,z,i,j,l⟩:=m.obj _ _ c.block;unfold World.frozen? at h ⊢;rw[j]at h;rw[i];cases l with
 |cells u y hm=>
  rename_i f g;rcases hm with hm|hm
  .subst hm
   simpa [c.off]using h
  .obtain⟨_,n,_,p⟩:=hm
   obtain⟨f1,f2⟩:=f;obtain⟨q,r⟩:=g;have:=c.off;simp at h n p ⊢;omega
 |_=>simp at h
def Df(j:dA ρ w w'){a c:TD}(d:ds ρ a c)(l:ρ.exact=true):w.frozen? a=w'.frozen? c:=by
 let⟨o,p,f,g,i⟩:=j.obj _ _ d.block;unfold World.frozen?;rw[f,g];cases i with
 |cells m n hm=>
  rcases hm with rfl|⟨h,_⟩
  .simp[d.off]
  .rw[l]at h;cases h
 |_=>rfl
def dA.tick(c:dA ρ w w'):dA ρ {w with drawn:=w.drawn+1} {w' with drawn:=w'.drawn+1}:=
 ⟨c.obj,λn q=>by have:=c.tape (n+1) q;simp only[Ul,Nat.add_comm 1 n];exact this,c.lim,c.js⟩
def Eff.tick:Eff ρ ρ w {w with drawn:=w.drawn+1} w' {w' with drawn:=w'.drawn+1}:=
 ⟨Ren.le_refl ρ,λ_ _ h=>.inl h,bg,λ_ _ _=>S6,λc h k=>Td k (by simp at *;omega),λ_ _ _ _=>⟨S6,S6⟩,S6,S6,S6,S6,bg⟩
def Ren.push(ρ:Ren)(m n:Nat)(hm:∀b,¬ρ.r m b)(f:∀b,¬ρ.r b n)(g:ρ.lim<=m)(i:ρ.lim<=n):Ren where
 lim:=ρ.lim
 exact:=ρ.exact
 cells:=ρ.cells
 cW:=ρ.cW
 room:=ρ.room
 eb:=ρ.eb
 fu:=ρ.fu
 low:=by
  rintro a b (h|⟨rfl,rfl⟩)
  .exact ρ.low h
  .omega
 r a b:=ρ.r a b\/(a=m/\b=n)
 fwd:=by
  rintro a b c (h|⟨rfl,rfl⟩) (k|⟨d,rfl⟩)
  .exact ρ.fwd h k
  .subst d;exact Td h (hm b)
  .exact Td k (hm c)
  .rfl
 bwd:=by
  rintro a b c (h|⟨rfl,rfl⟩) (k|⟨rfl,d⟩)
  .exact ρ.bwd h k
  .subst d;exact Td h (f a)
  .exact Td k (f b)
  .rfl
def D'(d:dA ρ w w'){o g:Obj}(p:eZ ρ o g):
 ∃ai:Ren,ai.r w.heap.size w'.heap.size/\Eff ρ ai w {w with heap:=w.heap.push o} w' {w' with heap:=w'.heap.push g}/\dA ai {w with heap:=w.heap.push o} {w' with heap:=w'.heap.push g}:=by
 have hm:∀b,¬ρ.r w.heap.size b:=λb h=>by have:=(d.lt h).1;omega
 have m:∀b,¬ρ.r b w'.heap.size:=λb h=>by have:=(d.lt h).2;omega
 refine⟨ρ.push _ _ hm m d.lim d.js,.inr ⟨S6,S6⟩,⟨⟨λ_ _ h=>.inl h,S6,S6,S6,S6,S6,S6,S6⟩,?_,aF,?_,?_,?_,S6,S6,S6,S6,aF⟩,?_,d.tape,by have:=d.lim;simp[Ren.push];omega,by have:=d.js;simp[Ren.push];omega⟩
 .rintro b f (h|⟨rfl,rfl⟩)
  .exact .inl h
  .exact .inr ⟨bg,bg⟩
 .intro f l _
  simp only[iq];rw[Tm U]
 .intro f j i
  simp at i;exact⟨w.heap.size,.inr ⟨S6,U⟩⟩
 .rintro b f l ⟨c,e,r⟩
  have:=d.lt l;refine⟨?_,?_⟩
  .simp only[iq];rw[Tm U]
  .simp only[iq];rw[Tm U]
 .have hle:ρ.le (ρ.push _ _ hm m d.lim d.js):=⟨λ_ _ h=>.inl h,S6,S6,S6,S6,S6,S6,S6⟩
  rintro b f (h|⟨rfl,rfl⟩)
  .let⟨x,q,j,i,n⟩:=d.obj b f h
   have:=d.lt h;refine⟨x,q,?_,?_,n.mono hle⟩
   .simp only[iq];rw[Tm U];exact j
   .simp only[iq];rw[Tm U];exact i
  .exact⟨o,g,aF,aF,p.mono hle⟩
def uj{w:S7}{r:Nat}{o:Obj}(b:Nat)(h:r<w.heap.size):(w.heap.setIfInBounds r o)[b]?=if b=r then some o else w.heap[b]?:=by
 rw[Array.getElem?_setIfInBounds];by_cases c:b=r
 .subst c;simp[h]
 .have:¬r=b:=λx=>c x.symm
  simp[c,this]
def AG(j:dA ρ w w'){r l:Nat}{o m x:Obj}(i:ρ.r r l)(B:eZ ρ o m)(C:w.heap[r]?=some x)(y:py x):
 dA ρ {w with heap:=w.heap.setIfInBounds r o} {w' with heap:=w'.heap.setIfInBounds l m}/\Eff ρ ρ w {w with heap:=w.heap.setIfInBounds r o} w' {w' with heap:=w'.heap.setIfInBounds l m}/\¬jk w r:=by
 have g:=j.lt i;have p:¬jk w r:=by rintro⟨c,e,N,h,_⟩;rw[C]at h;cases h;exact y
 refine⟨⟨?_,j.tape,by simpa using j.lim,by simpa using j.js⟩,⟨Ren.le_refl ρ,λ_ _ h=>.inl h,aF,?_,λd D q=>Td q cH,?_,S6,S6,S6,S6,aF⟩,p⟩
 .intro b d f
  simp only[uj _ g.1,uj _ g.2];by_cases h:b=r
  .subst h
   obtain rfl:=ρ.fwd f i;exact⟨o,m,aF,aF,B⟩
  .have n:¬d=l:=λe=>h (by subst e;exact ρ.bwd f i)
   simp only[h,n,if_false];exact j.obj b d f
 .intro d _ z
  simp only[uj _ g.2];rw[Tm (λe=>z r (by rw[e];exact i))]
 .rintro b d f u
  have h:¬b=r:=λe=>p (by rw[<-e];exact u)
  have n:¬d=l:=λe=>h (by subst e;exact ρ.bwd f i)
  exact⟨by simp only[uj _ g.1];rw[Tm h],by simp only[uj _ g.2];rw[Tm n]⟩
def Fz(i:dA ρ w w'){r c:Nat}(h:ρ.r r c):tF ρ (w.shape? r) (w'.shape? c):=by
 let⟨o,j,d,f,g⟩:=i.obj r c h;unfold World.shape?;rw[d,f];cases g with
 |cells k=>exact⟨S6,k⟩
 |_=>trivial
def Mv{v d:S9}(h:aQ ρ v d):(∀c,v≠.agg c)->(∀c,v≠.tuple c)->(∀c,d≠.agg c)/\(∀c,d≠.tuple c):=by intro f g;cases h<;>simp_all
def xC{α:Type}(p:To)(m:Mode)(a:TD)(v:S9)(k:Sem α)(w:S7)(es:TE)(d:∀c,v≠.agg c)(f:∀c,v≠.tuple c):
 (Sem.store m a v k).runT p w es=match w.cell? a with
 |some _=>
  if w.frozen? a then(.halt (.unsupported (.unsafePointer "a write to bytes that a string shares")) w,es)
  else k.runT p (w.setCell a v) (es.push ⟨.cell a,true,m == .atomic⟩)
 |none=>match w.farStore p a v (m == .atomic)with
  |.ok (w,g)=>k.runT p w (es++g.toArray.map (⟨.cell ·,true,m == .atomic⟩))
  |.error h=>(.halt h w,es):=by
 cases v<;>first|rfl|exact Td S6 (d _)|exact Td S6 (f _)
def g6.dp{l:Ta}{A:Ren->α->β->Prop}{s:Sem α}{aX:Sem β}(h:cY Q s):g6 l P A ρ w w' aX (s.run Q w):=by
 let⟨x,aG,e,g,_⟩:=h w;rw[e];cases x with
 |panic v=>exact g.elim
 |_=>exact g
def DF{A:Ren->α->β->Prop}{t:Sem α}{aX:Sem β}(h:tw A ρ t aX)(y:dA ρ w w')(n:Nat):g6 true P A ρ w w' aX (t.run Q {w with drawn:=n}):=by
 obtain⟨r,o,q,E,a,b,rfl,rfl,m,u,D,hn⟩:=h;let⟨x,G,g,z,B⟩:=y.obj r q m;have F:({w with drawn:=n}:S7).heap[r]?=some x:=g;by_cases i:∃c e f,x=.cells c e f
 .obtain⟨c,e,f,rfl⟩:=i
  have l:(Sem.setObj r o (.pure a)).run Q {w with drawn:=n}=.halt (.stuck "setObj: a row of cells") {w with drawn:=n}:=by simp[Sem.run,g]
  rw[l];trivial
 .have j:py x:=by cases x<;>first|trivial|exact Td ⟨_,_,_,S6⟩ i
  let⟨p,d,C⟩:=AG y m u g j;have l:(Sem.setObj r o (.pure a)).run Q {w with drawn:=n}=.ok a {w with drawn:=n,heap:=w.heap.setIfInBounds r o}:=by simp only[Sem.run,g];cases x<;>first|rfl|exact Td ⟨_,_,_,S6⟩ i
  rw[l];refine⟨ρ,b,{w' with heap:=w'.heap.setIfInBounds q E},#[⟨.obj q,true,false⟩],λes=>?_,⟨d.le,d.new,d.size,d.out,d.fresh,d.guard,d.tape,d.os,d.output,d.yc,d.rJ⟩,⟨⟨p.obj,p.lim,p.js⟩,bR⟩,hn,λx j=>?_⟩
  .simp only[Sem.runT,z]
   cases B with
   |cells a b c=>exact Td ⟨_,_,_,S6⟩ i
   |_=>cases u<;>first|exact D.elim|simp[Obj.isChan,Sem.runT]
  .simp at j;subst j
   exact .obj m _ (λ_=>C)
def ef.run{l:Ta}{A:Ren->α->β->Prop}{s:Sem α}:∀{ρ:Ren} {w w':S7} {aX:Sem β},ef l Q P A s ρ aX->dA ρ w w'->g6 l P A ρ w w' aX (s.run Q w):=by
 induction s with
 |pure a=>
  rintro ρ w w' aX ⟨b,rfl,h⟩ d;exact⟨ρ,b,w',#[],λes=>by simp[Sem.runT],Eff.refl,d.G1 l,h,aF⟩
 |load m a k i=>
  rintro ρ w w' aX (hd|⟨H,j,rfl,p,g⟩) d
  .exact g6.dp hd
  rcases yT d p with⟨v,R,I,J,G⟩|I
  .have e:(Sem.load m a k).run Q w=(k v).run Q w:=by simp[Sem.run,I]
   rw[e];refine g6.step (ai:=ρ) (aG:=w) (bJ:=w') (ba:=#[⟨.cell H,false,m == .atomic⟩]) (λes=>?_) Eff.refl d ?_ (i v (g v R G) d)
   .simp[Sem.runT,J]
   .intro e he
    simp at he;subst he;exact .cell p.block _ _ (λh=>by cases h) λc t _ T _=>Ce p I T
  .let⟨s,Z⟩:=zd (Q:=Q) d p (m == .atomic)
   have e:(Sem.load m a k).run Q w=.halt (.stuck s) w:=by simp[Sem.run,I,Z]
   rw[e];trivial
 |store m a v k i=>
  rintro ρ w w' aX (hd|⟨H,R,j,rfl,p,G,g⟩) d
  .exact g6.dp hd
  by_cases V:∃c,v=.agg c
  .obtain⟨c,rfl⟩:=V
   simp only[Sem.run];trivial
  by_cases aa:∃c,v=.tuple c
  .obtain⟨c,rfl⟩:=aa
   simp only[Sem.run];trivial
  have ah:∀c,v≠.agg c:=λc h=>V ⟨c,h⟩
  have aj:∀c,v≠.tuple c:=λc h=>aa ⟨c,h⟩
  let⟨ak,al⟩:=Mv G ah aj;rcases W:w.cell? a with _|x
  .let⟨s,Z⟩:=CZ (Q:=Q) d p v (m == .atomic)
   have e:(Sem.store m a v k).run Q w=.halt (.stuck s) w:=by cases v<;>simp_all [Sem.run]
   rw[e];trivial
  .by_cases X:w.frozen? a=true
   .have e:(Sem.store m a v k).run Q w=.halt (.unsupported (.unsafePointer "a write to bytes that a string shares")) w:=by cases v<;>simp_all [Sem.run]
    rw[e];trivial
   .simp only[Bool.not_eq_true]at X
    let⟨⟨y,ag⟩,ad,S,C,U⟩:=A5 d p G W X;have e:(Sem.store m a v k).run Q w=k.run Q (w.setCell a v):=by cases v<;>simp_all [Sem.run]
    rw[e];refine g6.step (ai:=ρ) (ba:=#[⟨.cell H,true,m == .atomic⟩]) (hs:=j) (λes=>?_) U C ?_ (i g C)
    .rw[xC _ _ _ _ _ _ _ ak al];simp[ag,ad]
    .intro e he
     simp at he;subst he;exact .cell p.block _ _ (λ_=>S) λc t _ T _=>Ce p W T
 |new o k i=>
  rintro ρ w w' aX (hd|⟨M,j,rfl,L,g⟩) d
  .exact g6.dp hd
  let⟨ai,u,he,C⟩:=D' d L;have e:(Sem.new o k).run Q w=(k w.heap.size).run Q {w with heap:=w.heap.push o}:=by simp[Sem.run]
  rw[e];exact g6.step (ai:=ai) (ba:=#[]) (hs:=j w'.heap.size) (λes=>by simp[Sem.runT]) he C aF (i _ (g ai _ _ he.le u) C)
 |shape r k i=>
  rintro ρ w w' aX (hd|⟨F,j,rfl,u,g⟩) d
  .exact g6.dp hd
  have e:(Sem.shape r k).run Q w=(k (w.shape? r)).run Q w:=by simp[Sem.run]
  rw[e];exact g6.step (ai:=ρ) (ba:=#[]) (hs:=j (w'.shape? F)) (λes=>by simp[Sem.runT]) Eff.refl d aF (i _ (g _ _ (Fz d u)) d)
 |freeze a n k i=>intro ρ w w' aX h d;exact g6.dp h
 |frozen a k i=>
  rintro ρ w w' aX (hd|⟨H,j,rfl,p,g⟩) d
  .exact g6.dp hd
  have e:(Sem.frozen a k).run Q w=(k (w.frozen? a)).run Q w:=by simp[Sem.run]
  rw[e];exact g6.step (ai:=ρ) (ba:=#[]) (hs:=j (w'.frozen? H)) (λes=>by simp[Sem.runT]) Eff.refl d aF (i _ (g _ _ (Dg d p) (Df d p)) d)
 |getObj r k i=>
  rintro ρ w w' aX (hd|⟨F,j,rfl,u,g⟩) d
  .exact g6.dp hd
  let⟨o,M,I,J,K⟩:=d.obj r F u;by_cases B:∃c e f,o=.cells c e f
  .obtain⟨c,e,f,rfl⟩:=B
   have D:(Sem.getObj r k).run Q w=.halt (.stuck "getObj: a row of cells") w:=by simp[Sem.run,I]
   rw[D];trivial
  .have D:(Sem.getObj r k).run Q w=(k o).run Q w:=by simp only[Sem.run,I];cases o<;>first|rfl|exact Td ⟨_,_,_,S6⟩ B
   rw[D];refine g6.step (ai:=ρ) (ba:=#[⟨.obj F,false,false⟩]) (hs:=j M) (λes=>?_) Eff.refl d ?_ (i o (g o M K) d)
   .simp only[Sem.runT,J]
    cases K with
    |cells a b c=>exact Td ⟨_,_,_,S6⟩ B
    |_=>simp[Obj.isChan]
   .intro x z
    simp at z;subst z;exact .obj u _ (λh=>by cases h)
 |setObj r o k i=>
  rintro ρ w w' aX (hd|⟨F,M,j,rfl,u,L,ae,g⟩) d
  .exact g6.dp hd
  let⟨x,am,I,J,K⟩:=d.obj r F u;by_cases B:∃c e f,x=.cells c e f
  .obtain⟨c,e,f,rfl⟩:=B
   have D:(Sem.setObj r o k).run Q w=.halt (.stuck "setObj: a row of cells") w:=by simp[Sem.run,I]
   rw[D];trivial
  .have z:py x:=by cases x<;>first|trivial|exact Td ⟨_,_,_,S6⟩ B
   let⟨C,U,S⟩:=AG d u L I z;have D:(Sem.setObj r o k).run Q w=k.run Q {w with heap:=w.heap.setIfInBounds r o}:=by simp only[Sem.run,I];cases x<;>first|rfl|exact Td ⟨_,_,_,S6⟩ B
   rw[D];refine g6.step (ai:=ρ) (ba:=#[⟨.obj F,true,false⟩]) (hs:=j) (λes=>?_) U C ?_ (i g C)
   .simp only[Sem.runT,J]
    cases K with
    |cells a b c=>exact Td ⟨_,_,_,S6⟩ B
    |_=>cases L<;>first|exact ae.elim|simp[Obj.isChan]
   .intro x z
    simp at z;subst z;exact .obj u _ (λ_=>S)
 |choose q k i=>
  rintro ρ w w' aX (hd|⟨j,rfl,g⟩|⟨el,g⟩) d
  .exact g6.dp hd
  rotate_left
  .subst el
   by_cases E:q.forced=true
   .have e:(Sem.choose q k).run Q w=(k 0).run Q w:=by simp[Sem.run,E]
    rw[e];exact DF (g 0) d w.drawn
   .have e:(Sem.choose q k).run Q w=(k (q.cut (w.tape w.drawn q))).run Q {w with drawn:=w.drawn+1}:=by simp[Sem.run,E]
    rw[e];exact DF (g _) d (w.drawn+1)
  by_cases E:q.forced=true
  .have e:(Sem.choose q k).run Q w=(k 0).run Q w:=by simp[Sem.run,E]
   rw[e];exact g6.step (ai:=ρ) (ba:=#[]) (hs:=j 0) (λes=>by simp[Sem.runT,E]) Eff.refl d aF (i _ (g 0) d)
  .have e:(Sem.choose q k).run Q w=(k (q.cut (w.tape w.drawn q))).run Q {w with drawn:=w.drawn+1}:=by simp[Sem.run,E]
   rw[e];have af:w.tape w.drawn q=w'.tape w'.drawn q:=d.tape 0 q;refine g6.step (ai:=ρ) (ba:=#[]) (hs:=j (q.cut (w.tape w.drawn q))) (λes=>?_) Eff.tick d.tick aF (i _ (g _) d.tick);simp[Sem.runT,E,af]
 |sys c k i=>intro ρ w w' aX h d;exact g6.dp h
 |program k i=>
  rintro ρ w w' aX (hd|⟨j,rfl,g⟩) d
  .exact g6.dp hd
  have e:(Sem.program k).run Q w=(k Q).run Q w:=by simp[Sem.run]
  rw[e];exact g6.step (ai:=ρ) (ba:=#[]) (hs:=j P) (λes=>by simp[Sem.runT]) Eff.refl d aF (i _ g d)
 |mark m k i=>
  rintro ρ w w' aX (hd|⟨dd,j,rfl,hm,g⟩) d
  .exact g6.dp hd
  have e:(Sem.mark m k).run Q w=k.run Q w:=by simp[Sem.run]
  rw[e];refine g6.step (ai:=ρ) (ba:=#[⟨.mark dd,false,true⟩]) (hs:=j) (λes=>by simp[Sem.runT]) Eff.refl d ?_ (i g d);intro x z;simp at z;subst z;cases hm<;>exact .mark aF
 |halt h=>
  intro ρ w w' aX Y d;cases h with
  |panic v=>
   obtain⟨R,rfl,G⟩:=Y;exact⟨ρ,R,w',#[],λes=>by simp[Sem.runT],Eff.refl,d.G1 l,G,aF⟩
  |_=>exact Y
def Hp(P:To)(A:Ren->α->β->Prop)(ρ:Ren)(w w':S7)(aX:Sem β):Result α->Prop
 |.ok a aG=>∃(ai:Ren) (b:β) (bJ:S7) (ba:TE),(∀es,aX.runT P w' es=(.ok b bJ,es++ba))/\Eff ρ ai w aG w' bJ/\dA ai aG bJ/\A ai a b/\∀e∈ba,fc ai w e
 |.halt (.panic v) aG=>∃(ai:Ren) (c:S9) (bJ:S7) (ba:TE),(∀es,aX.runT P w' es=(.halt (.panic c) bJ,es++ba))/\Eff ρ ai w aG w' bJ/\dA ai aG bJ/\aQ ai v c/\∀e∈ba,fc ai w e
 |.halt h _=>jU h
def a2.run{A:Ren->α->β->Prop}{s:Sem α}{ρ:Ren}{w w':S7}{aX:Sem β}(j:a2 Q P A s ρ aX)(l:dA ρ w w'):Hp P A ρ w w' aX (s.run Q w):=by
 have h:=ef.run j l;revert h;generalize s.run Q w=r;intro h;rcases r with⟨a,aG⟩|⟨x,aG⟩
 .obtain⟨ai,b,bJ,ba,c,d,f,g,i⟩:=h
  exact⟨ai,b,bJ,ba,c,d,f.2 S6,g,i⟩
 .cases x with
  |panic v=>
   obtain⟨ai,b,bJ,ba,c,d,f,g,i⟩:=h;exact⟨ai,b,bJ,ba,c,d,f.2 S6,g,i⟩
  |_=>exact h
end
end
section
def BH:Obj->Prop
 |.cells ..=>False
 |_=>True
inductive cD where
 |load (m:Mode) (a:TD) (v:S9)
 |store (m:Mode) (a:TD) (v:S9)
 |new (o:Obj) (b:Nat)
 |shape (r:Nat) (x:TI (Tg×Nat))
 |frozen (a:TD) (b:Ta)
 |choose (q:Question) (n:Nat)
 |mark (m:Mark)
 |sys (c:Sys) (r:SysRet)
 |getObj (r:Nat) (o:Obj)
 |setObj (r:Nat) (o:Obj)
 |pN (x y:Ta)
 |order (f:Tw) (id:Nat) (mixed:Ta) (ops:Tv Oper) (l:TA)
inductive dO where
 |val (v:S9)
 |blk (b:Nat)
 |oe (x:TI (Tg×Nat))
 |wv (b:Ta)
 |num (n:Nat)
 |ret (r:SysRet)
 |obj (o:Obj)
 |cmp (b:Ta)
 |ord (l:TA)
def bz(P:To){α:Type}:Sem α->Tb dO->TI (α×Tb cD×Tb dO)
 |.pure a,as=>some (a,[],as)
 |.program k,as=>bz P (k P) as
 |.load m a k,.val v::as=>(bz P (k v) as).map λx=>(x.1,.load m a v::x.2.1,x.2.2)
 |.store m a v k,as=>match v with
  |.agg _ |.tuple _=>none
  |v=>(bz P k as).map λx=>(x.1,.store m a v::x.2.1,x.2.2)
 |.new o k,.blk b::as=>(bz P (k b) as).map λx=>(x.1,.new o b::x.2.1,x.2.2)
 |.shape r k,.oe y::as=>(bz P (k y) as).map λx=>(x.1,.shape r y::x.2.1,x.2.2)
 |.frozen a k,.wv b::as=>(bz P (k b) as).map λx=>(x.1,.frozen a b::x.2.1,x.2.2)
 |.choose q k,as=>if q.forced then bz P (k 0) as else match as with
  |.num n::as=>(bz P (k n) as).map λx=>(x.1,.choose q n::x.2.1,x.2.2)
  |_=>none
 |.mark m k,as=>(bz P k as).map λx=>(x.1,.mark m::x.2.1,x.2.2)
 |.sys c k,.ret r::as=>(bz P (k r) as).map λx=>(x.1,.sys c r::x.2.1,x.2.2)
 |.getObj r k,.obj o::as=>(bz P (k o) as).map λx=>(x.1,.getObj r o::x.2.1,x.2.2)
 |.setObj r o k,as=>(bz P k as).map λx=>(x.1,.setObj r o::x.2.1,x.2.2)
 |_,_=>none
inductive Does:S7->Tb cD->S7->TE->Prop
 |nil (w:S7):Does w [] w #[]
 |load {w w':S7} {l:Tb cD} {es:TE} {m:Mode} {a:TD} {v:S9} (h:w.cell? a=some v) (k:Does w l w' es):Does w (.load m a v::l) w' (#[⟨.cell a,false,m == .atomic⟩]++es)
 |store {w w':S7} {l:Tb cD} {es:TE} {m:Mode} {a:TD} {v x:S9} (h:w.cell? a=some x) (aD:w.frozen? a=false) (k:Does (w.setCell a v) l w' es):Does w (.store m a v::l) w' (#[⟨.cell a,true,m == .atomic⟩]++es)
 |new {w w':S7} {l:Tb cD} {es:TE} {o:Obj} {b:Nat} (h:w.heap.size=b) (k:Does {w with heap:=w.heap.push o} l w' es):Does w (.new o b::l) w' es
 |shape {w w':S7} {l:Tb cD} {es:TE} {r:Nat} {x:TI (Tg×Nat)} (h:w.shape? r=x) (k:Does w l w' es):Does w (.shape r x::l) w' es
 |frozen {w w':S7} {l:Tb cD} {es:TE} {a:TD} {b:Ta} (h:w.frozen? a=b) (k:Does w l w' es):Does w (.frozen a b::l) w' es
 |choose {w w':S7} {l:Tb cD} {es:TE} {q:Question} {n:Nat} (h:q.cut (w.tape w.drawn q)=n) (k:Does {w with drawn:=w.drawn+1} l w' es):Does w (.choose q n::l) w' es
 |mark {w w':S7} {l:Tb cD} {es:TE} {m:Mark} (k:Does w l w' es):Does w (.mark m::l) w' (#[⟨.mark m,false,true⟩]++es)
 |sys {w w':S7} {l:Tb cD} {es:TE} {c:Sys} {r:SysRet} (h:(w.sys c).1=r) (k:Does (w.sys c).2 l w' es):Does w (.sys c r::l) w' (#[⟨.output,true,false⟩]++es)
 |getObj {w w':S7} {l:Tb cD} {es:TE} {r:Nat} {o:Obj} (h:w.heap[r]?=some o) (ak:BH o) (k:Does w l w' es):Does w (.getObj r o::l) w' (#[⟨.obj r,false,o.isChan⟩]++es)
 |setObj {w w':S7} {l:Tb cD} {es:TE} {r:Nat} {o x:Obj} (h:w.heap[r]?=some x) (ak:BH x) (k:Does {w with heap:=w.heap.setIfInBounds r o} l w' es):Does w (.setObj r o::l) w' (#[⟨.obj r,true,o.isChan⟩]++es)
 |pN {w w':S7} {l:Tb cD} {es:TE} {x y:Ta} (h:x=y) (k:Does w l w' es):Does w (.pN x y::l) w' es
 |order {w w':S7} {l:Tb cD} {es:TE} {f:Tw} {id:Nat} {mixed:Ta} {ops:Tv Oper} {o:TA} (h:Region.schedule mixed ops (w.tape w.drawn (.order f id))=o) (k:Does {w with drawn:=w.drawn+1} l w' es):Does w (.order f id mixed ops o::l) w' es
def nU{α:Type}{x:TI (α×Tb cD×Tb dO)}{f:cD}{a:α}{l:Tb cD}{r:Tb dO}(h:x.map (λx=>(x.1,f::x.2.1,x.2.2))=some (a,l,r)):∃aN,l=f::aN/\x=some (a,aN,r):=by
 cases x with
 |none=>cases h
 |some y=>
  obtain⟨c,d,g⟩:=y;cases h;exact⟨_,S6,S6⟩
def Km{P:To}{α:Type}{s:Sem α}:∀{as:Tb dO} {a:α} {l:Tb cD} {r:Tb dO},bz P s as=some (a,l,r)->∀{w w':S7} {es acc:TE},Does w l w' es->s.runT P w acc=(.ok a w',acc++es):=by
 induction s with
 |pure b=>
  intro as a l r h w w' es acc hd;cases h;cases hd;simp[Sem.runT]
 |program k d=>intro as a l r h w w' es acc hd;exact d P h hd
 |load m bO k d=>
  intro as a l r h w w' es acc hd;rcases as with _|⟨x,as⟩
  .cases h
  cases x<;>try cases h
  obtain⟨aN,rfl,f⟩:=nU h;cases hd with
  |load n g=>
   simp only[Sem.runT,n];rw[d _ f g];simp[Uj]
 |store m bO v k d=>
  intro as a l r h w w' es acc hd;have y:(∀c,v≠.agg c)/\(∀c,v≠.tuple c):=by constructor<;>(rintro c rfl;cases h)
  have f:(bz P k as).map (λx=>(x.1,cD.store m bO v::x.2.1,x.2.2))=some (a,l,r):=by cases v<;>first|exact h|(cases h;done)
  obtain⟨aN,rfl,j⟩:=nU f;cases hd with
  |store n z g=>
   have e:(Sem.store m bO v k).runT P w acc=k.runT P (w.setCell bO v) (acc.push ⟨.cell bO,true,m == .atomic⟩):=by cases v<;>first|exact Td S6 (y.1 _)|exact Td S6 (y.2 _)|(simp only[Sem.runT,n];rw[Tm (by simp[z])])
   rw[e,d j g];simp[Uj]
 |new o k d=>
  intro as a l r h w w' es acc hd;rcases as with _|⟨x,as⟩
  .cases h
  cases x<;>try cases h
  obtain⟨aN,rfl,f⟩:=nU h;cases hd with
  |new i g=>
   simp only[Sem.runT];rw[i];exact d _ f g
 |shape q k d=>
  intro as a l r h w w' es acc hd;rcases as with _|⟨x,as⟩
  .cases h
  cases x<;>try cases h
  obtain⟨aN,rfl,f⟩:=nU h;cases hd with
  |shape i g=>
   simp only[Sem.runT];rw[i];exact d _ f g
 |frozen q k d=>
  intro as a l r h w w' es acc hd;rcases as with _|⟨x,as⟩
  .cases h
  cases x<;>try cases h
  obtain⟨aN,rfl,f⟩:=nU h;cases hd with
  |frozen i g=>
   simp only[Sem.runT];rw[i];exact d _ f g
 |choose q k d=>
  intro as a l r h w w' es acc hd;unfold bz at h;split at h
  .rename_i u
   simp only[Sem.runT,u,if_true];exact d _ h hd
  .rename_i u
   rcases as with _|⟨x,as⟩
   .cases h
   cases x<;>try cases h
   obtain⟨aN,rfl,f⟩:=nU h;cases hd with
   |choose i g=>
    simp only[Sem.runT,u,if_false,Uf];rw[i];exact d _ f g
 |mark m k d=>
  intro as a l r h w w' es acc hd;obtain⟨aN,rfl,f⟩:=nU h;cases hd with
  |mark g=>
   simp only[Sem.runT];rw[d f g];simp[Uj]
 |sys c k d=>
  intro as a l r h w w' es acc hd;rcases as with _|⟨x,as⟩
  .cases h
  cases x<;>try cases h
  obtain⟨aN,rfl,f⟩:=nU h;cases hd with
  |sys i g=>
   simp only[Sem.runT];rw[i,d _ f g];simp[Uj]
 |getObj q k d=>
  intro as a l r h w w' es acc hd;rcases as with _|⟨x,as⟩
  .cases h
  cases x<;>try cases h
  obtain⟨aN,rfl,f⟩:=nU h;cases hd with
  |getObj i p g=>
   rename_i o fg;have e:(Sem.getObj q k).runT P w acc=(k o).runT P w (acc.push ⟨.obj q,false,o.isChan⟩):=by cases o<;>first|exact p.elim|simp only[Sem.runT,i]
   rw[e,d _ f g];simp[Uj]
 |setObj q o k d=>
  intro as a l r h w w' es acc hd;have f:(bz P k as).map (λx=>(x.1,cD.setObj q o::x.2.1,x.2.2))=some (a,l,r):=by cases as<;>exact h
  obtain⟨aN,rfl,j⟩:=nU f;cases hd with
  |setObj i p g=>
   rename_i fg x;have e:(Sem.setObj q o k).runT P w acc=k.runT P {w with heap:=w.heap.setIfInBounds q o} (acc.push ⟨.obj q,true,o.isChan⟩):=by cases x<;>first|exact p.elim|simp only[Sem.runT,i]
   rw[e,d j g];simp[Uj]
 |_=>
  intro as a l r h;cases h
abbrev bA:=TB×Tz
def kZ(P:To){α:Type}(s:Sem α)(as:Tb dO):TI (α×Tb cD):=
 match bz P s as with
 |some (a,l,[])=>some (a,l)
 |_=>none
def qW{P:To}{α:Type}{s:Sem α}{as:Tb dO}{a:α}{l:Tb cD}(h:kZ P s as=some (a,l)){w w':S7}{es:TE}(hd:Does w l w' es):s.runT P w #[]=(.ok a w',es):=by
 unfold kZ at h;split at h
 .rename_i e
  cases h;have:=Km (acc:=#[]) e hd;simpa using this
 .cases h
def zZ(P:To)(lift:Tw->Ta)(fr:TB)(cs:Tz)(l:Tb cD):Next->TI (bA×Tb cD)
 |.value v=>some ((fr.finish v,cs),l)
 |.skip=>some ((fr.finish undef,cs),l)
 |.enter f args=>if lift f then none else some ((Frame.enter P f args .normal,fr::cs),l)
 |.defer d=>some ((({fr with defers:=d::fr.defers}:TB).finish undef,cs),l)
 |_=>none
abbrev Ext:=Tw->TI (Te->Sem S9)
def zc(f:Tw)(e:Te->Sem S9)(args:Te):Sem Next:=do
 mark (.extern f)
 pure (.value (<-e args))
def nn(ext:Ext)(fr:TB)(o:Oper):Sem Next:=
 match o.op with
 |.call c=>match c.callee with
  |.value (.func f)=>match ext f with
   |some e=>zc f e (c.args.map fr.eval)
   |none=>execOp fr.eval o
  |_=>execOp fr.eval o
 |_=>execOp fr.eval o
def vQ(ext:Ext)(t:Target)(args:Te):Sem Next:=
 match t with
 |.fn (.func f) ⟨[]⟩=>match ext f with
  |some e=>zc f e args
  |none=>invoke t args
 |_=>invoke t args
def dn(P:To)(ext:Ext):Prop:=∀f e,ext f=some e->∃fn,P.funcs[f]?=some fn/\(fn.name == "runtime.NumGoroutine")=false/\fn.body.isNone=true/\Extern.findNext fn=none/\Extern.find fn=some e
def CX{P:To}{ext:Ext}(T:dn P ext){f:Tw}{e:Te->Sem S9}(h:ext f=some e)(args:Te)(w:S7)(acc:TE):(callFunc f args).runT P w acc=(zc f e args).runT P w acc:=by
 let⟨fn,d,g,i,j,l⟩:=T f e h;have c:(callFunc f args).runT P w acc=(match P.funcs[f]? with
  |none=>(stuck "call: no such function" : Sem Next)
  |some fn=>
   if fn.name == "runtime.NumGoroutine" then pure .numGoroutine
   else if fn.body.isNone then do
    mark (.extern f)
    if let some e:=Extern.findNext fn then return <-e args
    match Extern.find fn with
    |some e=>pure (.value (<-e args))
    |none=>
     if fn.name.endsWith ".init" && !fn.name.startsWith "(" && !fn.name.startsWith "gosem." then pure (.value (.tuple #[]))
     else unsupported (.extern fn.name)
   else pure (.enter f args)).runT P w acc:=S6
 rw[c,d];dsimp only;rw[g,i,j,l];rfl
def Aa{P:To}{ext:Ext}(T:dn P ext)(fr:TB)(o:Oper)(w:S7)(acc:TE):(execOp fr.eval o).runT P w acc=(nn ext fr o).runT P w acc:=by
 unfold nn;split
 .rename_i c h
  split
  .rename_i f g
   split
   .rename_i e he
    rw[<-CX T he];have d:fr.eval (.func f)=.func (.func f) #[] #[]:=S6;unfold execOp;simp[h,resolve,Deferred.ofValue,invoke,d,g]
   .rfl
  .rfl
 .rfl
def CD{P:To}{ext:Ext}(T:dn P ext)(t:Target)(args:Te)(w:S7)(acc:TE):(invoke t args).runT P w acc=(vQ ext t args).runT P w acc:=by
 unfold vQ;split
 .split
  .rename_i f e he
   rw[<-CX T he];unfold invoke;simp
  .rfl
 .rfl
def rb(P:To)(ext:Ext)(lift:Tw->Ta)(fr:TB)(cs:Tz)(o:Oper)(as:Tb dO):TI (bA×Tb cD):=
 match kZ P (nn ext fr o) as with
 |some (n,l)=>zZ P lift fr cs l n
 |none=>none
def w9(P:To)(ext:Ext)(lift:Tw->Ta)(fr:TB)(cs:Tz)(o:Oper)(as:Tb dO):TI (bA×Tb cD):=
 match as with
 | [.cmp b]=>match kZ P (nn ext fr o) []with
  |some (.value (.bool x),[])=>some ((fr.finish (.bool b),cs),[.pN x b])
  |_=>none
 |as=>rb P ext lift fr cs o as
def l4(x:bA):Tb dO->TI (bA×Tb cD)
 | []=>some (x,[])
 |_=>none
def o2(P:To)(ext:Ext)(lift:Tw->Ta)(fr:TB)(cs:Tz)(as:Tb dO):Tb Item->TI (bA×Tb cD)
 |.code .skip::k |.code (.label _)::k |.inBlock _::k |.inScope _::k |.inRegion _ []::k=>l4 ({fr with todo:=k},cs) as
 |.code (.seq a b)::k=>l4 ({fr with todo:=.code a::.code b::k},cs) as
 |.code (.cond c a b)::k=>match fr.eval c with
  |.bool true=>l4 ({fr with todo:=.code a::k},cs) as
  |.bool false=>l4 ({fr with todo:=.code b::k},cs) as
  |_=>none
 |.code (.block id b)::k=>l4 ({fr with todo:=.code b::.inBlock id::k},cs) as
 |.code (.loop b)::k |.inLoop b::k=>l4 ({fr with todo:=.code b::.inLoop b::k},cs) as
 |.code (.scope b)::k=>l4 ({fr with todo:=.code b::.inScope b::k},cs) as
 |.code (.exit id)::k=>match exitTo id k with
  |some nC=>l4 ({fr with todo:=nC},cs) as
  |none=>none
 |.code (.region id ops d)::k=>match d,as with
  |false,as=>l4 ({fr with todo:=.inRegion ops (List.range ops.size)::k},cs) as
  |true,[.ord l]=>some (({fr with todo:=.inRegion ops l::k},cs),[.order fr.fn id (P.follows .mixedOrders) ops l])
  |true,_=>none
 | [] |.code .ret::_=>l4 ({fr with mode:=.returning},cs) as
 |.inRegion ops (i::_)::_=>
  if ((ops[i]?).map (Region.wanted · (yielded ops fr.tmps))).getD false then
   match ops[i]? with
   |some o=>w9 P ext lift fr cs o as
   |none=>none
  else l4 (fr.finish undef,cs) as
 |_=>none
def zY(P:To)(fr:TB)(as:Tb dO):Tz->TI (bA×Tb cD)
 | []=>none
 |c::cs=>match P.funcs[fr.fn]? with
  |none=>none
  |some fn=>match kZ P (results fn fr.tmps) as with
   |none=>none
   |some (v,l)=>match fr.kind,c.mode with
    |.normal,_=>some ((c.finish v,cs),l)
    |.deferred,.returning=>some ((c,cs),l)
    |.deferred,.panicking ({recovered:=false,..}::_)=>some ((c,cs),l)
    |_,_=>none
def sE(P:To)(ext:Ext)(lift:Tw->Ta)(fr:TB)(cs:Tz)(d:Deferred)(c:Tb Deferred)(as:Tb dO):TI (bA×Tb cD):=
 match d.target with
 |.fn _ _=>match kZ P (vQ ext d.target d.args) as with
  |some (.enter f args,l)=>if lift f then none else some ((Frame.enter P f args .deferred,{fr with defers:=c}::cs),l)
  |some (.value _,l)=>some (({fr with defers:=c},cs),l)
  |_=>none
 |_=>none
def mv(P:To)(ext:Ext)(lift:Tw->Ta)(x:bA)(as:Tb dO):TI (bA×Tb cD):=
 match x.1.kind,x.1.roundOf with
 |.normal,none |.deferred,none=>match x.1.mode with
  |.run=>o2 P ext lift x.1 x.2 as x.1.todo
  |.returning=>match x.1.defers with
   | []=>zY P x.1 as x.2
   |d::c=>sE P ext lift x.1 x.2 d c as
  |.panicking _=>match x.1.defers with
   | []=>none
   |d::c=>sE P ext lift x.1 x.2 d c as
 |_,_=>none
def wJ:Tb cD->Ta
 | []=>true
 |.mark (.extern _)::l=>wJ l
 |_=>false
def nk(P:To)(ext:Ext)(lift:Tw->Ta):Nat->bA->bA
 | 0,x=>x
 |n+1,x=>match mv P ext lift x []with
  |some (y,l)=>if wJ l then nk P ext lift n y else x
  |none=>x
section
variable{P:To}{ext:Ext}{lift:Tw->Ta}{main:Ta}{Tc:Tz}{st:GoStatus}{off:TI (Tv CommCase×CommShape)}{w w':S7}{es:TE}{l:Tb cD}
abbrev bW(x:bA)(Tc:Tz):TC:=(Tk x.1 (x.2++Tc))
def Mj{x y:bA}{as:Tb dO}(h:l4 x as=some (y,l)):y=x/\l = []:=by
 cases as with
 |nil=>cases h;exact⟨S6,S6⟩
 |cons=>cases h
def qg(p:To)(f:Tw):seen p f #[]=#[]:=S6
def D7(T:dn P ext){fr:TB}{cs:Tz}{o:Oper}{as:Tb dO}{y:bA}(h:rb P ext lift fr cs o as=some (y,l))(j:fr.kind=.normal\/fr.kind=.deferred)(g:∀d b r s k,fr.todo≠.call d b r s::k)(hd:Does w l w' es):
 stepG.apply P true fr (cs++Tc) none (execOp fr.eval o) w=.go (bW y Tc) w' (seen P fr.fn es):=by
 unfold rb at h;have c:(fr.kind == .early)=false:=by rcases j with k|k<;>(rw[k];rfl)
 rcases e:kZ P (nn ext fr o) as with _|⟨n,aN⟩
 .rw[e]at h;cases h
 rw[e]at h;dsimp only at h;have m:aN=l:=by cases n<;>simp only[zZ]at h<;>first|(cases h;rfl)|(split at h<;>cases h;rfl)|cases h
 subst m;have f:(execOp fr.eval o).runT P w #[]=_:=(Aa T fr o w #[]).trans (qW e hd);cases n<;>simp only[zZ]at h<;>try cases h
 .simp[stepG.apply,f,c,GStep.after]
 .simp[stepG.apply,f,c,GStep.after]
 .split at h
  .cases h
  .cases h
   obtain⟨fn,tmps,todo,defers,mode,Tl,ro⟩:=fr;dsimp only at g c f;rcases todo with _|⟨i,k⟩
   .simp[stepG.apply,f,c,GStep.after]
   .cases i with
    |call d b r s=>exact Td S6 (g d b r s k)
    |_=>simp[stepG.apply,f,c,GStep.after]
 .simp[stepG.apply,f,c,GStep.after]
def Mi(T:dn P ext){fr:TB}{cs:Tz}{o:Oper}{as:Tb dO}{y:bA}(h:w9 P ext lift fr cs o as=some (y,l))(c:fr.kind=.normal\/fr.kind=.deferred)(f:∀d b r s k,fr.todo≠.call d b r s::k)(hd:Does w l w' es):
 stepG.apply P true fr (cs++Tc) none (execOp fr.eval o) w=.go (bW y Tc) w' (seen P fr.fn es):=by
 unfold w9 at h;split at h
 .rename_i b
  split at h
  .rename_i x e
   cases h;cases hd with
   |pN g k=>
    subst g;have:rb P ext lift fr cs o []=some ((fr.finish (.bool x),cs),[]):=by unfold rb;rw[e];rfl
    exact D7 T this c f k
  .cases h
 .exact D7 T h c f hd
def run_eq{fr:TB}(h:fr.mode=.run)(C:Tz)(w:S7):stepG P main ⟨fr,C,st,none,off⟩ w=stepG.exec P main true fr C none w:=by obtain⟨fn,tmps,todo,defers,mode,Tl,ro⟩:=fr;cases h;rfl
def zJ{fr:TB}(h:fr.mode=.returning)(C:Tz)(w:S7):stepG P main ⟨fr,C,st,none,off⟩ w=unwind P main fr C none w:=by obtain⟨fn,tmps,todo,defers,mode,Tl,ro⟩:=fr;cases h;rfl
def Mk(T:dn P ext){fr:TB}{cs:Tz}{as:Tb dO}{y:bA}(h:o2 P ext lift fr cs as fr.todo=some (y,l))(hm:fr.mode=.run)(m:fr.kind=.normal\/fr.kind=.deferred)(p:fr.roundOf=none)(hd:Does w l w' es):
 stepG P main ⟨fr,cs++Tc,st,none,off⟩ w=.go (bW y Tc) w' (seen P fr.fn es):=by
 rw[run_eq hm];obtain⟨fn,tmps,todo,defers,mode,Tl,ro⟩:=fr;dsimp only at h hm m p;subst hm;subst p;have f:∀{z:bA},l4 z as=some (y,l)->∀{r:GStep},r=.go (bW z Tc) w->r=.go (bW y Tc) w' (seen P fn es):=by intro z u r q;obtain⟨rfl,rfl⟩:=Mj u;cases hd;rw[q,qg]
 cases todo with
 |nil=>exact f h (by simp[stepG.exec])
 |cons i k=>
  cases i with
  |code c=>
   cases c with
   |skip=>exact f h (by simp[stepG.exec])
   |label n=>exact f h (by simp[stepG.exec])
   |seq a b=>exact f h (by simp[stepG.exec])
   |ret=>exact f h (by simp[stepG.exec])
   |block id b=>exact f h (by simp[stepG.exec])
   |loop b=>exact f h (by simp[stepG.exec])
   |scope b=>exact f h (by simp[stepG.exec])
   |cond c a b=>
    simp only[o2]at h;split at h
    .rename_i he
     exact f h (by simp only[stepG.exec];rw[he];rfl)
    .rename_i he
     exact f h (by simp only[stepG.exec];rw[he];rfl)
    .cases h
   |exit id=>
    simp only[o2]at h;split at h
    .rename_i nC he
     exact f h (by simp only[stepG.exec];rw[he];rfl)
    .cases h
   |region id ops d=>
    cases d with
    |false=>exact f h (by simp[stepG.exec])
    |true=>
     simp only[o2]at h;split at h
     .rename_i e;cases e
     .cases h
      cases hd with
      |order g k=>
       cases k;subst g;simp[stepG.exec,choose,Sem.run,Question.forced,Question.cut,qg]
     .cases h
   |_=>cases h
  |inBlock id=>exact f h (by simp[stepG.exec])
  |inLoop c=>exact f h (by simp[stepG.exec])
  |inScope c=>exact f h (by simp[stepG.exec])
  |inRegion ops Tp=>
   cases Tp with
   |nil=>exact f h (by simp[stepG.exec])
   |cons i Tp=>
    simp only[o2]at h;simp only[stepG.exec];split at h
    .rename_i j
     rw[Tq j];rcases g:ops[i]? with _|o
     .rw[g]at h;cases h
     rw[g]at h;dsimp only at h;have:=Mi (Tc:=Tc) T h m (by intro d b r s k e;cases e) hd;rw[<-this];simp[stepG.oper,Frame.oper?,g]
    .rename_i j
     rw[Tm j];exact f h S6
  |_=>cases h
def D8(T:dn P ext){fr:TB}{cs:Tz}{d:Deferred}{g:Tb Deferred}{as:Tb dO}{y:bA}(h:sE P ext lift fr cs d g as=some (y,l))(m:fr.defers=d::g)(hd:Does w l w' es):
 unwind P main fr (cs++Tc) none w=.go (bW y Tc) w' (seen P fr.fn es):=by
 unfold sE at h;obtain⟨t,a⟩:=d;cases t<;>try cases h
 rename_i f c;dsimp only at h;rcases he:kZ P (vQ ext (.fn f c) a) as with _|⟨n,aN⟩
 .rw[he]at h;cases h
 rw[he]at h;try dsimp only at h
 have hu:unwind P main fr (cs++Tc) none w=callDeferred P {fr with defers:=g} (cs++Tc) none ⟨.fn f c,a⟩ w:=by unfold unwind;rw[m]
 have j:((Target.fn f c matches .nil) && (({fr with defers:=g}:TB).mode matches .panicking _))=false:=S6;rw[hu];cases n<;>try cases h
 .have i:=(CD T (.fn f c) a w #[]).trans (qW he hd)
  unfold callDeferred;refine(Tm λh=>Td (j.symm.trans h) a6).trans ?_;dsimp only;rw[i];simp[GStep.after]
 .dsimp only at h
  split at h
  .cases h
  .cases h
   have i:=(CD T (.fn f c) a w #[]).trans (qW he hd);unfold callDeferred;refine(Tm λh=>Td (j.symm.trans h) a6).trans ?_;dsimp only;rw[i];simp[GStep.after]
def o3(T:dn P ext){x y:bA}{as:Tb dO}(h:mv P ext lift x as=some (y,l))(hd:Does w l w' es):
 stepG P main ⟨x.1,x.2++Tc,st,none,off⟩ w=.go (bW y Tc) w' (seen P x.1.fn es):=by
 obtain⟨fr,cs⟩:=x;have key:(fr.kind=.normal\/fr.kind=.deferred)/\fr.roundOf=none/\(match fr.mode with
  |.run=>o2 P ext lift fr cs as fr.todo
  |.returning=>match fr.defers with
   | []=>zY P fr as cs
   |d::g=>sE P ext lift fr cs d g as
  |.panicking _=>match fr.defers with
   | []=>none
   |d::g=>sE P ext lift fr cs d g as)=some (y,l):=by
  unfold mv at h;dsimp only at h;split at h
  .rename_i m n;exact⟨.inl m,n,h⟩
  .rename_i m n;exact⟨.inr m,n,h⟩
  .cases h
 obtain⟨aa,q,h⟩:=key;rcases hm:fr.mode with _|_|ch
 .rw[hm]at h
  exact Mk T h hm aa q hd
 .rw[hm]at h
  dsimp only at h;rw[zJ hm];rcases f:fr.defers with _|⟨d,g⟩
  .rw[f]at h
   dsimp only at h;cases cs with
   |nil=>cases h
   |cons c cs=>
    unfold zY at h;dsimp only at h;rcases j:P.funcs[fr.fn]? with _|fn
    .rw[j]at h;cases h
    rw[j]at h;dsimp only at h;rcases he:kZ P (results fn fr.tmps) as with _|⟨v,aN⟩
    .rw[he]at h;cases h
    rw[he]at h;dsimp only at h;have o:∀{p:Tb cD},aN=p->Does w p w' es->(results fn fr.tmps).runT P w #[]=(.ok v w',es):=by rintro p rfl hd;exact qW he hd
    rcases aa with aa|aa
    .rw[aa]at h
     cases h;simp[unwind,f,hm,j,o S6 hd,doReturn,aa,GStep.after]
    .rw[aa]at h
     rcases i:c.mode with _|_|ch
     .rw[i]at h;cases h
     .rw[i]at h
      cases h;simp[unwind,f,hm,j,o S6 hd,doReturn,aa,GStep.after,i]
     .rw[i]at h
      rcases ch with _|⟨⟨eA,r,z⟩,u⟩
      .cases h
      .cases r
       .cases h
        simp[unwind,f,hm,j,o S6 hd,doReturn,aa,GStep.after,i]
       .cases h
  .rw[f]at h
   exact D8 T h f hd
 .rw[hm]at h
  dsimp only at h;have e:stepG P main ⟨fr,(fr,cs).2++Tc,st,none,off⟩ w=unwind P main fr (cs++Tc) none w:=by obtain⟨fn,tmps,todo,defers,mode,Tl,ro⟩:=fr;cases hm;rfl
  show stepG P main ⟨fr,(fr,cs).2++Tc,st,none,off⟩ w=_;rw[e];rcases f:fr.defers with _|⟨d,g⟩
  .rw[f]at h;cases h
  .rw[f]at h
   exact D8 T h f hd
def K5:∀{l:Tb cD},wJ l=true->∀w,∃es,Does w l w es/\∀e∈es,∃f,e=⟨.mark (.extern f),false,true⟩:=by
 intro l;induction l with
 |nil=>intro _ w;exact⟨#[],.nil w,aF⟩
 |cons x l g=>
  intro h w;cases x<;>try cases h
  rename_i m;cases m<;>try cases h
  rename_i f;let⟨es,c,d⟩:=g h w;refine⟨_,.mark c,λe he=>?_⟩;rcases Array.mem_append.1 he with k|k
  .exact⟨f,by simpa using k⟩
  .exact d e k
def OP(p:To)(f:Tw)(es:TE)(h:∀e∈es,∃f,e=⟨.mark (.extern f),false,true⟩):seen p f es=#[]:=by
 have key:∀(l:Tb TL) (q:Ta),(∀e∈l,∃f,e=⟨.mark (.extern f),false,true⟩)->∃g2,l.foldl (λ(x:Ta×TE) e=>match e.loc with
  |.mark (.extern f)=>((p.funcs[f]?).any (·.norace),x.2)
  |_=>(x.1,if x.1 && !e.sync then x.2 else x.2.push e)) (q,#[])=(g2,#[]):=by
  intro l;induction l with
  |nil=>intro q _;exact⟨q,S6⟩
  |cons e l d=>
   intro q h;obtain⟨g,rfl⟩:=h e aF;exact d _ λe he=>h e (by simp[he])
 let⟨g2,c⟩:=key es.toList ((p.funcs[f]?).any (·.norace)) λe he=>h e (Array.mem_toList_iff.1 he)
 unfold seen;dsimp only;rw[<-Array.foldl_toList];exact congrArg Prod.snd c
end
end
end Go.aO
