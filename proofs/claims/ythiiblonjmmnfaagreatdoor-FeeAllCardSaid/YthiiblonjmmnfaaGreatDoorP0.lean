/- Part 1 of a law on fees: no conditions. -/
import GoSem.Step
import Derived.Laws.Sem
import Derived.Conc.Events
import Derived.Calls
import Derived.OrdersIn
import Derived.Orders
import Derived.StepT
set_option maxHeartbeats 8000000
set_option maxRecDepth 100000
set_option linter.all false
namespace Go.aN
def Pl{α:Type _}{a:α}:a∈[a]:=List.mem_singleton.2 rfl
def Ps{α:Type _}{a b:α}(h:a∈[b]):a=b:=List.mem_singleton.1 h
def Pk{n:Nat}:n<=n:=Nat.le_refl _
def Pm{α:Type _}{a b:α}(h:some a=some b):a=b:=Option.some.inj h
def Pu{α:Type _}{xs:Array α}{i:Nat}(h:i<xs.size):xs[i]?=some xs[i]:=Array.getElem?_eq_getElem h
def PC{α:Type _}{xs:Array α}{i:Nat}{a:α}(h:i<xs.size):(xs.setIfInBounds i a)[i]?=some a:=Array.getElem?_setIfInBounds_self_of_lt h
def PB{α:Type _}{xs:Array α}{i j:Nat}(h:i≠j){a:α}:(xs.setIfInBounds i a)[j]?=xs[j]?:=Array.getElem?_setIfInBounds_ne h
def Po{n m k:Nat}(h:n<=m)(c:m<=k):n<=k:=Nat.le_trans h c
def Px{n m k:Nat}(h:n<m)(c:m<=k):n<k:=Nat.lt_of_lt_of_le h c
def Py{α:Type _}{l:List α}{i:Nat}{a:α}(h:l[i]?=some a):a∈l:=List.mem_of_getElem? h
def PE{α:Type _}{l k:List α}{i:Nat}(h:l.length<=i):(l++k)[i]?=k[i-l.length]?:=List.getElem?_append_right h
def PF{α:Type _}{l k:List α}{i:Nat}(h:i<l.length):(l++k)[i]?=l[i]?:=List.getElem?_append_left h
def PA{α:Type _}{i:Nat}{xs:Array α}{x:α}:(xs.push x)[i]?=if i=xs.size then some x else xs[i]?:=Array.getElem?_push
def PD{α:Type _}{a:α}:¬a∈[]:=List.not_mem_nil
def Pt{α β:Type}(P:Program)(x:Sem α)(f:α->Sem β)(w:World):Sem.run P (Sem.bind x f) w=(Sem.run P x w).andThen (λa w'=>Sem.run P (f a) w'):=Sem.run_bind' P x f w
section
structure Ren where
 r:Nat->Nat->Prop
 fwd:∀{a b c:Nat},r a b->r a c->b=c
 bwd:∀{a b c:Nat},r a c->r b c->a=b
 lim:Nat
 low:∀{a b:Nat},r a b->(a<lim↔b<lim)
 exact:Bool
 cells:TypeId->Nat
 dw:Code->Prop
 room:Bool
 dy:FuncId->Option Nat
 dC:Bool
structure Ren.le(ρ ai:Ren):Prop where
 sub:∀a b,ρ.r a b->ai.r a b
 lim:ai.lim=ρ.lim
 exact:ai.exact=ρ.exact
 cells:ai.cells=ρ.cells
 dw:ai.dw=ρ.dw
 room:ai.room=ρ.room
 dy:ai.dy=ρ.dy
 dC:ai.dC=ρ.dC
def Ren.le_refl(ρ:Ren):ρ.le ρ:=⟨λ_ _ h=>h,rfl,rfl,rfl,rfl,rfl,rfl,rfl⟩
def Ren.le_trans{ρ ai aL:Ren}(h:ρ.le ai)(k:ai.le aL):ρ.le aL:=⟨λa b x=>k.sub a b (h.sub a b x),k.lim.trans h.lim,k.exact.trans h.exact,k.cells.trans h.cells,k.dw.trans h.dw,k.room.trans h.room,k.dy.trans h.dy,k.dC.trans h.dC⟩
def fa{α β:Type}(R:α->β->Prop)(a:Array α)(b:Array β):Prop:=a.size=b.size/\∀(i:Nat) x y,a[i]?=some x->b[i]?=some y->R x y
inductive ez{α β:Type}(R:α->β->Prop):Option α->Option β->Prop
 |none:ez R none none
 |some {a:α} {b:β} (h:R a b):ez R (some a) (some b)
inductive cA{α β:Type}(R:α->β->Prop):List α->List β->Prop
 |nil:cA R [] []
 |cons {a:α} {b:β} {l:List α} {m:List β} (h:R a b) (t:cA R l m):cA R (a::l) (b::m)
structure cU(ρ:Ren)(a b:Addr):Prop where
 block:ρ.r a.block b.block
 off:a.off=b.off
 spot:a.spot=b.spot
inductive oM(ρ:Ren):Fn->Fn->Prop
 |func (f) (h:ρ.dy f=none):oM ρ (.func f) (.func f)
 |yield {l aH} (h:ρ.r l aH):oM ρ (.yield l) (.yield aH)
abbrev rA:Value:=.func (.method "") #[.iface 1000000000 .nilIface] #[]
def Ed:Value->Prop
 |.bool _ |.int _ _ |.string _ |.agg _ |.pointer none |.slice none _ _ |.map none |.chan none |.nilIface |.nilFunc |.func (.method _) _ _=>False
 |_=>True
inductive aM(ρ:Ren):Value->Value->Prop
 |bool (b):aM ρ (.bool b) (.bool b)
 |int (k n):aM ρ (.int k n) (.int k n)
 |string (s):aM ρ (.string s) (.string s)
 |iL:aM ρ (.pointer none) (.pointer none)
 |ptr {a b} (h:cU ρ a b):aM ρ (.pointer (some a)) (.pointer (some b))
 |jw (l c):aM ρ (.slice none l c) (.slice none l c)
 |slice {a b} (h:cU ρ a b) (l c):aM ρ (.slice (some a) l c) (.slice (some b) l c)
 |oe:aM ρ (.map none) (.map none)
 |map {a b} (h:ρ.r a b):aM ρ (.map (some a)) (.map (some b))
 |rV:aM ρ (.chan none) (.chan none)
 |func {f g:Fn} {a b c d:Array Value} (h:oM ρ f g) (I:a.size=b.size) (J:∀(i:Nat) x y,a[i]?=some x->b[i]?=some y->aM ρ x y)
  (ax:c.size=d.size) (aV:∀(i:Nat) x y,c[i]?=some x->d[i]?=some y->aM ρ x y):aM ρ (.func f a c) (.func g b d)
 |nilFunc:aM ρ .nilFunc .nilFunc
 |iface (t) {v w} (h:aM ρ v w):aM ρ (.iface t v) (.iface t w)
 |nilIface:aM ρ .nilIface .nilIface
 |agg {a b:Array Value} (I:a.size=b.size) (J:∀(i:Nat) x y,a[i]?=some x->b[i]?=some y->aM ρ x y):aM ρ (.agg a) (.agg b)
 |tuple {a b:Array Value} (I:a.size=b.size) (J:∀(i:Nat) x y,a[i]?=some x->b[i]?=some y->aM ρ x y):aM ρ (.tuple a) (.tuple b)
 |fM {v:Value} (aC:ρ.dC=true) (h:Ed v):aM ρ (.tuple #[]) v
 |jO {n:String} {b d:Array Value} (aC:ρ.dC=true):aM ρ (.func (.method "") #[.iface 1000000000 .nilIface] #[]) (.func (.method n) b d)
def cU.mono{ρ ai:Ren}(h:ρ.le ai){a b:Addr}(x:cU ρ a b):cU ai a b:=⟨h.sub _ _ x.block,x.off,x.spot⟩
def oM.mono{ρ ai:Ren}(h:ρ.le ai){a b:Fn}(x:oM ρ a b):oM ai a b:=by
 cases x with
 |yield k=>exact .yield (h.sub _ _ k)
 |func f c=>exact .func f (by rw[h.dy];exact c)
def aM.mono{ρ ai:Ren}(h:ρ.le ai){v w:Value}(x:aM ρ v w):aM ai v w:=by
 induction x with
 |ptr a=>exact .ptr (a.mono h)
 |slice a l c=>exact .slice (a.mono h) l c
 |map a=>exact .map (h.sub _ _ a)
 |func f d _ j _ o p=>exact .func (f.mono h) d o j p
 |iface t _ g=>exact .iface t g
 |agg d _ g=>exact .agg d g
 |tuple d _ g=>exact .tuple d g
 |fM i n=>exact .fM (h.dC.trans i) n
 |jO i=>exact .jO (h.dC.trans i)
 |_=>constructor
abbrev bE(ρ:Ren):Array Value->Array Value->Prop:=fa (aM ρ)
def fa.mono{α β:Type}{R S:α->β->Prop}(h:∀x y,R x y->S x y){a:Array α}{b:Array β}(x:fa R a b):fa S a b:=⟨x.1,λi y z c d=>h _ _ (x.2 i y z c d)⟩
def cA.mono{α β:Type}{R S:α->β->Prop}(h:∀x y,R x y->S x y){a:List α}{b:List β}(x:cA R a b):cA S a b:=by
 induction x with
 |nil=>exact .nil
 |cons k _ c=>exact .cons (h _ _ k) c
def ez.mono{α β:Type}{R S:α->β->Prop}(h:∀x y,R x y->S x y){a:Option α}{b:Option β}(x:ez R a b):ez S a b:=by
 cases x with
 |none=>exact .none
 |some k=>exact .some (h _ _ k)
def bE.mono{ρ ai:Ren}(h:ρ.le ai){a b:Array Value}(x:bE ρ a b):bE ai a b:=fa.mono (λ_ _ k=>k.mono h) x
def rm{ρ:Ren}{a b:Array Value}(h:bE ρ a b):aM ρ (.agg a) (.agg b):=.agg h.1 h.2
def vA{ρ:Ren}{a b:Array Value}(h:bE ρ a b):aM ρ (.tuple a) (.tuple b):=.tuple h.1 h.2
inductive rK(ρ:Ren):Target->Target->Prop
 |fn {f g:Fn} {a b:Array Value} (h:oM ρ f g) (I:bE ρ a b):rK ρ (.fn f a) (.fn g b)
 |nil:rK ρ .nil .nil
 |collected {r b0} (h:ρ.r r b0):rK ρ (.collected r) (.collected b0)
structure kP(ρ:Ren)(d e:Deferred):Prop where
 target:rK ρ d.target e.target
 args:bE ρ d.args e.args
def kP.mono{ρ ai:Ren}(h:ρ.le ai){d e:Deferred}(x:kP ρ d e):kP ai d e:=by
 obtain⟨t,a⟩:=x;refine⟨?_,a.mono h⟩;generalize d.target=f at t;generalize e.target=g at t;cases t with
 |fn k c=>exact .fn (k.mono h) (c.mono h)
 |nil=>exact .nil
 |collected k=>exact .collected (h.sub _ _ k)
structure d'(ρ:Ren)(e f:MapEntry):Prop where
 key:aM ρ e.key f.key
 val:aM ρ e.val f.val
 born:e.born=f.born
def zc(ρ:Ren)(n:Nat)(f g:Nat×Nat):Prop:=f=g\/(ρ.exact=false/\f.1=0/\n<=f.2/\g.2<=f.2)
def uF{ρ:Ren}{n:Nat}{q:Nat×Nat}(h:zc ρ n (0,0) q)(c:0<n):q=(0,0):=by
 rcases h with h|⟨_,_,h,_⟩
 .exact h.symm
 .have h:n<=0:=h
  omega
inductive ev(ρ:Ren):Obj->Obj->Prop
 |cells {c d:Array Value} {e:TypeId} {f g:Nat×Nat} (I:c.size=d.size\/(c.size<d.size/\c.size<ρ.cells e)) (J:∀(i:Nat) x y,c[i]?=some x->d[i]?=some y->aM ρ x y) (aB:zc ρ c.size f g):ev ρ (.cells c e f) (.cells d e g)
 |map {es bd:Array MapEntry} (h:fa (d' ρ) es bd) (c):ev ρ (.map es c) (.map bd c)
 |number {a b:Addr} (h:cU ρ a b) (l):ev ρ (.number a l) (.number b l)
 |stringIter (s p):ev ρ (.stringIter s p) (.stringIter s p)
 |mapIter {m cP:Option Nat} (h:ez ρ.r m cP) (a b c):ev ρ (.mapIter m a b c) (.mapIter cP a b c)
 |loop {l m:Loop} (I:l.state=m.state) (J:l.pending=m.pending) (ax:l.fn=m.fn) (aV:bE ρ l.tmps m.tmps) (bm:l.params=m.params) (b':l.assign=m.assign) (b7:l.body=m.body) (cW:ρ.r l.defers m.defers) (cX:ρ.dw l.assign/\ρ.dw l.body/\∀c,l.pending=some c->ρ.dw c):ev ρ (.loop l) (.loop m)
 |deferred {l m:Option (List Deferred)} (h:ez (cA (kP ρ)) l m):ev ρ (.deferred l) (.deferred m)
def d'.mono{ρ ai:Ren}(h:ρ.le ai){d e:MapEntry}(x:d' ρ d e):d' ai d e:=⟨x.key.mono h,x.val.mono h,x.born⟩
def ev.mono{ρ ai:Ren}(h:ρ.le ai){o p:Obj}(x:ev ρ o p):ev ai o p:=by
 cases x with
 |cells d f B=>exact .cells (d.imp id λk=>⟨k.1,by rw[h.cells];exact k.2⟩) (λi x y a b=>(f i x y a b).mono h) (B.imp id λk=>⟨h.exact.trans k.1,k.2⟩)
 |map k c=>exact .map (k.mono λ_ _=>d'.mono h) c
 |number k l=>exact .number (k.mono h) l
 |stringIter s p=>exact .stringIter s p
 |mapIter k a b c=>exact .mapIter (k.mono h.sub) a b c
 |loop d f g j q r u w z=>exact .loop d f g (j.mono h) q r u (h.sub _ _ w) (by rw[h.dw];exact z)
 |deferred k=>exact .deferred (k.mono λ_ _ a=>a.mono λ_ _ b=>b.mono h)
inductive vR(ρ:Ren):Mark->Mark->Prop
 |extern (f):vR ρ (.extern f) (.extern f)
 |noRoom (h:ρ.room=true):vR ρ .noRoom .noRoom
def iC:Halt->Prop
 |.stuck _=>True
 |.unsupported (.initOrder _)=>False
 |.unsupported _=>True
 |_=>False
def dj(Q:Program){α:Type}(s:Sem α):Prop:=∀w,∃h w',s.run Q w=.halt h w'/\iC h/\∀es,noRoomEvent∈(s.runT Q w es).2->noRoomEvent∈es
def Ec{β:Type}(ρ:Ren)(h:Halt)(s:Sem β):Prop:=
 match h with
 |.panic v=>∃c,s=.halt (.panic c)/\aM ρ v c
 |h=>iC h
def rI(ρ:Ren):Option (TypeId×Nat)->Option (TypeId×Nat)->Prop
 |none,none=>True
 |some (e,n),some (c,m)=>e=c/\(n=m\/(n<m/\n<ρ.cells e))
 |_,_=>False
def p9:Obj->Prop
 |.cells ..=>False
 |_=>True
def PL{α β:Type}(A:Ren->α->β->Prop)(ρ:Ren)(t:Sem α)(s:Sem β):Prop:=∃r o d c a b,t=.setObj r o (.pure a)/\s=.setObj d c (.pure b)/\ρ.r r d/\ev ρ o c/\p9 o/\A ρ a b
def PH(l:Bool)(Q P:Program){α β:Type}(A:Ren->α->β->Prop):Sem α->Ren->Sem β->Prop
 |.pure a,ρ,s=>∃b,s=.pure b/\A ρ a b
 |.load m a k,ρ,s=>dj Q (.load m a k)\/∃g d,s=.load m g d/\cU ρ a g/\∀v j,aM ρ v j->PH l Q P A (k v) ρ (d j)
 |.store m a v k,ρ,s=>dj Q (.store m a v k)\/∃g j d,s=.store m g j d/\cU ρ a g/\aM ρ v j/\PH l Q P A k ρ d
 |.new o k,ρ,s=>dj Q (.new o k)\/∃i d,s=.new i d/\ev ρ o i/\∀(ai:Ren) r f,ρ.le ai->ai.r r f->PH l Q P A (k r) ai (d f)
 |.shape r k,ρ,s=>dj Q (.shape r k)\/∃f d,s=.shape f d/\ρ.r r f/\∀(x y:Option (TypeId×Nat)),rI ρ x y->PH l Q P A (k x) ρ (d y)
 |.freeze a n k,_,_=>dj Q (.freeze a n k)
 |.frozen a k,ρ,s=>dj Q (.frozen a k)\/∃g d,s=.frozen g d/\cU ρ a g/\∀b p:Bool,(p=true->b=true)->(ρ.exact=true->b=p)->PH l Q P A (k b) ρ (d p)
 |.getObj r k,ρ,s=>dj Q (.getObj r k)\/∃f d,s=.getObj f d/\ρ.r r f/\∀o i,ev ρ o i->PH l Q P A (k o) ρ (d i)
 |.setObj r o k,ρ,s=>dj Q (.setObj r o k)\/∃f i d,s=.setObj f i d/\ρ.r r f/\ev ρ o i/\p9 o/\PH l Q P A k ρ d
 |.choose q k,ρ,s=>dj Q (.choose q k)\/(∃d,s=.choose q d/\∀n,PH l Q P A (k n) ρ (d n))\/(l=true/\∀n,PL A ρ (k n) s)
 |.sys c k,_,_=>dj Q (.sys c k)
 |.program k,ρ,s=>dj Q (.program k)\/∃d,s=.program d/\PH l Q P A (k Q) ρ (d P)
 |.mark m k,ρ,s=>dj Q (.mark m k)\/∃cP d,s=.mark cP d/\vR ρ m cP/\PH l Q P A k ρ d
 |.halt h,ρ,s=>Ec ρ h s
abbrev aW(Q P:Program){α β:Type}(A:Ren->α->β->Prop)(s:Sem α)(ρ:Ren)(a6:Sem β):Prop:=PH false Q P A s ρ a6
section
variable{Q P:Program}{α β iB pX:Type}
def PH.dF{l:Bool}{A:Ren->α->β->Prop}{s:Sem α}{ρ:Ren}{a6:Sem β}(h:dj Q s):PH l Q P A s ρ a6:=by
 cases s with
 |pure a=>obtain⟨x,w',e,_⟩:=h default;simp[Sem.run]at e
 |halt x=>
  obtain⟨y,w',e,g,_⟩:=h default;simp[Sem.run]at e;obtain⟨rfl,_⟩:=e;cases x with
  |panic v=>exact g.elim
  |_=>exact g
 |freeze a n k=>exact h
 |sys c k=>exact h
 |_=>exact .inl h
def aW.dF{A:Ren->α->β->Prop}{s:Sem α}{ρ:Ren}{a6:Sem β}(h:dj Q s):aW Q P A s ρ a6:=PH.dF h
def PL.mono{A B:Ren->α->β->Prop}{ρ:Ren}{t:Sem α}{s:Sem β}(h:PL A ρ t s)(f:∀ai a b,ρ.le ai->A ai a b->B ai a b):PL B ρ t s:=by obtain⟨r,o,q,p,a,b,c,d,g,i,j,l⟩:=h;exact⟨r,o,q,p,a,b,c,d,g,i,j,f ρ a b (Ren.le_refl ρ) l⟩
def PH.mono{l m:Bool}(w:l=true->m=true){A B:Ren->α->β->Prop}{s:Sem α}:∀{ρ:Ren} {a6:Sem β},PH l Q P A s ρ a6->(∀ai a b,ρ.le ai->A ai a b->B ai a b)->PH m Q P B s ρ a6:=by
 induction s with
 |pure a=>rintro ρ a6 ⟨b,rfl,h⟩ k;exact⟨b,rfl,k ρ _ _ (Ren.le_refl ρ) h⟩
 |load m a k g=>rintro ρ a6 (hd|⟨p,i,rfl,h,d⟩) f;(· exact .inl hd);exact .inr ⟨p,i,rfl,h,λv C z=>g v (d v C z) f⟩
 |store m a v k g=>rintro ρ a6 (hd|⟨p,C,i,rfl,h,z,d⟩) f;(· exact .inl hd);exact .inr ⟨p,C,i,rfl,h,z,g d f⟩
 |new o k g=>rintro ρ a6 (hd|⟨u,i,rfl,h,d⟩) f;(· exact .inl hd);exact .inr ⟨u,i,rfl,h,λai r j w H=>g r (d ai r j w H) λaL a b I=>f aL a b (Ren.le_trans w I)⟩
 |shape r k g=>rintro ρ a6 (hd|⟨j,i,rfl,h,d⟩) f;(· exact .inl hd);exact .inr ⟨j,i,rfl,h,λx y e=>g x (d x y e) f⟩
 |freeze a n k g=>exact λh _=>h
 |frozen a k g=>rintro ρ a6 (hd|⟨p,i,rfl,h,d⟩) f;(· exact .inl hd);exact .inr ⟨p,i,rfl,h,λb D e E=>g b (d b D e E) f⟩
 |getObj r k g=>rintro ρ a6 (hd|⟨j,i,rfl,h,d⟩) f;(· exact .inl hd);exact .inr ⟨j,i,rfl,h,λo u e=>g o (d o u e) f⟩
 |setObj r o k g=>rintro ρ a6 (hd|⟨j,u,i,rfl,h,G,F,d⟩) f;(· exact .inl hd);exact .inr ⟨j,u,i,rfl,h,G,F,g d f⟩
 |choose q k g=>rintro ρ a6 (hd|⟨i,rfl,d⟩|⟨e,d⟩) f;(· exact .inl hd);(· exact .inr (.inl ⟨i,rfl,λn=>g n (d n) f⟩));exact .inr (.inr ⟨w e,λn=>(d n).mono f⟩)
 |sys c k g=>exact λh _=>h
 |program k g=>rintro ρ a6 (hd|⟨i,rfl,d⟩) f;(· exact .inl hd);exact .inr ⟨i,rfl,g Q d f⟩
 |mark m k g=>rintro ρ a6 (hd|⟨cP,i,rfl,hm,d⟩) f;(· exact .inl hd);exact .inr ⟨cP,i,rfl,hm,g d f⟩
 |halt h=>exact λx _=>x
def aW.mono{A B:Ren->α->β->Prop}{s:Sem α}{ρ:Ren}{a6:Sem β}(h:aW Q P A s ρ a6)(f:∀ai a b,ρ.le ai->A ai a b->B ai a b):aW Q P B s ρ a6:=PH.mono id h f
def aW.up{l:Bool}{A:Ren->α->β->Prop}{s:Sem α}{ρ:Ren}{a6:Sem β}(h:aW Q P A s ρ a6):PH l Q P A s ρ a6:=PH.mono (λe=>by cases e) h λ_ _ _ _ x=>x
def KZ{s:Sem α}(f:α->Sem iB){w w':World}{h:Halt}(e:s.run Q w=.halt h w'):(s.bind f).run Q w=.halt h w':=by rw[Pt,e];rfl
def dj.bind{s:Sem α}(f:α->Sem iB)(h:dj Q s):dj Q (s.bind f):=λw=>by
 obtain⟨x,w',e,g,k⟩:=h w;refine⟨x,w',KZ f e,g,λes hm=>k es ?_⟩;rw[Sem.runT_bind']at hm;have c:(s.runT Q w es).1=.halt x w':=by rw[Sem.runT_fst,e]
 revert hm c;generalize s.runT Q w es=r;rcases r with⟨_|⟨y,d⟩,bd⟩<;>intro hm c
 .cases c
 .exact hm
def PH.bind{l:Bool}{A:Ren->α->β->Prop}{B:Ren->iB->pX->Prop}{s:Sem α}{f:α->Sem iB}{g:β->Sem pX}:
 ∀{ρ:Ren} {a6:Sem β},aW Q P A s ρ a6->(∀(ai:Ren) a b,ρ.le ai->A ai a b->PH l Q P B (f a) ai (g b))->PH l Q P B (s.bind f) ρ (a6.bind g):=by
 induction s with
 |pure a=>rintro ρ a6 ⟨b,rfl,h⟩ k;exact k ρ _ _ (Ren.le_refl ρ) h
 |load m a k d=>rintro ρ a6 (hd|⟨w,j,rfl,h,i⟩) x;(· exact .dF (hd.bind f));exact .inr ⟨w,_,rfl,h,λv D z=>d v (i v D z) x⟩
 |store m a v k d=>rintro ρ a6 (hd|⟨w,D,j,rfl,h,z,i⟩) x;(· exact .dF (hd.bind f));exact .inr ⟨w,D,_,rfl,h,z,d i x⟩
 |new o k d=>rintro ρ a6 (hd|⟨C,j,rfl,h,i⟩) x;(· exact .dF (hd.bind f));exact .inr ⟨C,_,rfl,h,λai r p E J=>d r (i ai r p E J) λaL a b K=>x aL a b (Ren.le_trans E K)⟩
 |shape r k d=>rintro ρ a6 (hd|⟨p,j,rfl,h,i⟩) x;(· exact .dF (hd.bind f));exact .inr ⟨p,_,rfl,h,λu y e=>d u (i u y e) x⟩
 |freeze a n k d=>exact λh _=>.dF (dj.bind f h)
 |frozen a k d=>rintro ρ a6 (hd|⟨w,j,rfl,h,i⟩) x;(· exact .dF (hd.bind f));exact .inr ⟨w,_,rfl,h,λb F e G=>d b (i b F e G) x⟩
 |getObj r k d=>rintro ρ a6 (hd|⟨p,j,rfl,h,i⟩) x;(· exact .dF (hd.bind f));exact .inr ⟨p,_,rfl,h,λo C e=>d o (i o C e) x⟩
 |setObj r o k d=>rintro ρ a6 (hd|⟨p,C,j,rfl,h,I,H,i⟩) x;(· exact .dF (hd.bind f));exact .inr ⟨p,C,_,rfl,h,I,H,d i x⟩
 |choose q k d=>rintro ρ a6 (hd|⟨j,rfl,i⟩|⟨e,i⟩) x;(· exact .dF (hd.bind f));(· exact .inr (.inl ⟨_,rfl,λn=>d n (i n) x⟩));cases e
 |sys c k d=>exact λh _=>.dF (dj.bind f h)
 |program k d=>rintro ρ a6 (hd|⟨j,rfl,i⟩) x;(· exact .dF (hd.bind f));exact .inr ⟨_,rfl,d Q i x⟩
 |mark m k d=>rintro ρ a6 (hd|⟨cP,j,rfl,hm,i⟩) x;(· exact .dF (hd.bind f));exact .inr ⟨cP,_,rfl,hm,d i x⟩
 |halt h=>
  intro ρ a6 x _;cases h with
  |panic v=>obtain⟨D,rfl,z⟩:=x;exact⟨D,rfl,z⟩
  |_=>exact x
def PH.map{l:Bool}{A:Ren->α->β->Prop}{B:Ren->iB->pX->Prop}{s:Sem α}{f:α->iB}{g:β->pX}:
 ∀{ρ:Ren} {a6:Sem β},PH l Q P A s ρ a6->(∀(ai:Ren) a b,ρ.le ai->A ai a b->B ai (f a) (g b))->PH l Q P B (s.bind λa=>.pure (f a)) ρ (a6.bind λb=>.pure (g b)):=by
 induction s with
 |pure a=>rintro ρ a6 ⟨b,rfl,h⟩ k;exact⟨_,rfl,k ρ _ _ (Ren.le_refl ρ) h⟩
 |load m a k i=>rintro ρ a6 (hd|⟨z,j,rfl,h,d⟩) x;(· exact .dF (hd.bind _));exact .inr ⟨z,_,rfl,h,λv D C=>i v (d v D C) x⟩
 |store m a v k i=>rintro ρ a6 (hd|⟨z,D,j,rfl,h,C,d⟩) x;(· exact .dF (hd.bind _));exact .inr ⟨z,D,_,rfl,h,C,i d x⟩
 |new o k i=>rintro ρ a6 (hd|⟨w,j,rfl,h,d⟩) x;(· exact .dF (hd.bind _));exact .inr ⟨w,_,rfl,h,λai r p E S=>i r (d ai r p E S) λaL a b T=>x aL a b (Ren.le_trans E T)⟩
 |shape r k i=>rintro ρ a6 (hd|⟨p,j,rfl,h,d⟩) x;(· exact .dF (hd.bind _));exact .inr ⟨p,_,rfl,h,λu y e=>i u (d u y e) x⟩
 |freeze a n k i=>exact λh _=>.dF (dj.bind _ h)
 |frozen a k i=>rintro ρ a6 (hd|⟨z,j,rfl,h,d⟩) x;(· exact .dF (hd.bind _));exact .inr ⟨z,_,rfl,h,λb F e G=>i b (d b F e G) x⟩
 |getObj r k i=>rintro ρ a6 (hd|⟨p,j,rfl,h,d⟩) x;(· exact .dF (hd.bind _));exact .inr ⟨p,_,rfl,h,λo w e=>i o (d o w e) x⟩
 |setObj r o k i=>rintro ρ a6 (hd|⟨p,w,j,rfl,h,R,M,d⟩) x;(· exact .dF (hd.bind _));exact .inr ⟨p,w,_,rfl,h,R,M,i d x⟩
 |choose q k i=>
  rintro ρ a6 (hd|⟨j,rfl,d⟩|⟨e,d⟩) x
  .exact .dF (hd.bind _)
  .exact .inr (.inl ⟨_,rfl,λn=>i n (d n) x⟩)
  .refine .inr (.inr ⟨e,λn=>?_⟩)
   obtain⟨r,o,p,w,a,b,H,rfl,I,J,K,L⟩:=d n;exact⟨r,o,p,w,f a,g b,by show(k n).bind _=_;rw[H];rfl,rfl,I,J,K,x ρ a b (Ren.le_refl ρ) L⟩
 |sys c k i=>exact λh _=>.dF (dj.bind _ h)
 |program k i=>rintro ρ a6 (hd|⟨j,rfl,d⟩) x;(· exact .dF (hd.bind _));exact .inr ⟨_,rfl,i Q d x⟩
 |mark m k i=>rintro ρ a6 (hd|⟨cP,j,rfl,hm,d⟩) x;(· exact .dF (hd.bind _));exact .inr ⟨cP,_,rfl,hm,i d x⟩
 |halt h=>
  intro ρ a6 x _;cases h with
  |panic v=>obtain⟨D,rfl,C⟩:=x;exact⟨D,rfl,C⟩
  |_=>exact x
def aW.bind{A:Ren->α->β->Prop}{B:Ren->iB->pX->Prop}{s:Sem α}{f:α->Sem iB}{g:β->Sem pX}{ρ:Ren}{a6:Sem β}(h:aW Q P A s ρ a6)(k:∀(ai:Ren) a b,ρ.le ai->A ai a b->aW Q P B (f a) ai (g b)):aW Q P B (s.bind f) ρ (a6.bind g):=PH.bind h k
def aW.aY{A:Ren->α->β->Prop}{B:Ren->iB->pX->Prop}{s:Sem α}{a6:Sem β}{f:α->Sem iB}{g:β->Sem pX}{ρ:Ren}(h:aW Q P A s ρ a6)(k:∀(ai:Ren) a b,ρ.le ai->A ai a b->aW Q P B (f a) ai (g b)):aW Q P B (s >>= f) ρ (a6 >>= g):=aW.bind h k
def PH.aY{l:Bool}{A:Ren->α->β->Prop}{B:Ren->iB->pX->Prop}{s:Sem α}{a6:Sem β}{f:α->Sem iB}{g:β->Sem pX}{ρ:Ren}(h:aW Q P A s ρ a6)(k:∀(ai:Ren) a b,ρ.le ai->A ai a b->PH l Q P B (f a) ai (g b)):PH l Q P B (s >>= f) ρ (a6 >>= g):=PH.bind h k
def aW.ret{A:Ren->α->β->Prop}{a:α}{b:β}{ρ:Ren}(h:A ρ a b):aW Q P A (Pure.pure a) ρ (Pure.pure b):=⟨b,rfl,h⟩
def aW.stuck{A:Ren->α->β->Prop}{ρ:Ren}{c:String}{s:Sem β}:aW Q P A (Go.stuck c) ρ s:=by trivial
end
def hY(w:World)(b:Nat):Prop:=∃c e N,w.heap[b]?=some (.cells c e (0,N))/\c.size<=N
def hY.of_eq{w aG:World}{b:Nat}(h:hY w b)(e:aG.heap[b]?=w.heap[b]?):hY aG b:=by obtain⟨c,t,N,h,d⟩:=h;exact⟨c,t,N,e.trans h,d⟩
structure dp(ρ:Ren)(w w':World):Prop where
 obj:∀b aA,ρ.r b aA->∃o aS,w.heap[b]?=some o/\w'.heap[aA]?=some aS/\ev ρ o aS
 tape:∀n q,w.tape (w.drawn+n) q=w'.tape (w'.drawn+n) q
 lim:ρ.lim<=w.heap.size
 iI:ρ.lim<=w'.heap.size
structure gb(ρ:Ren)(w w':World):Prop where
 obj:∀b aA,ρ.r b aA->∃o aS,w.heap[b]?=some o/\w'.heap[aA]?=some aS/\ev ρ o aS
 lim:ρ.lim<=w.heap.size
 iI:ρ.lim<=w'.heap.size
def dp.hrel{ρ:Ren}{w w':World}(h:dp ρ w w'):gb ρ w w':=⟨h.obj,h.lim,h.iI⟩
def PM(l:Bool)(ρ:Ren)(w w':World):Prop:=gb ρ w w'/\(l=false->dp ρ w w')
def dp.PS{ρ:Ren}{w w':World}(h:dp ρ w w')(l:Bool):PM l ρ w w':=⟨h.hrel,λ_=>h⟩
def bp{α:Type}{a:Array α}{i:Nat}{x:α}(h:a[i]?=some x):i<a.size:=by
 rcases Nat.lt_or_ge i a.size with k|k
 .exact k
 .rw[Array.getElem?_eq_none k]at h;cases h
def dp.lt{ρ:Ren}{w w':World}(h:dp ρ w w'){b c:Nat}(k:ρ.r b c):b<w.heap.size/\c<w'.heap.size:=by obtain⟨o,g,d,f,_⟩:=h.obj b c k;exact⟨bp d,bp f⟩
structure Eff(ρ ai:Ren)(w aG w' bW:World):Prop where
 le:ρ.le ai
 new:∀b aA,ai.r b aA->ρ.r b aA\/(w.heap.size<=b/\w'.heap.size<=aA)
 size:w'.heap.size<=bW.heap.size
 out:∀aA,aA<w'.heap.size->(∀b,¬ρ.r b aA)->bW.heap[aA]?=w'.heap[aA]?
 fresh:∀aA,w'.heap.size<=aA->aA<bW.heap.size->∃b,ai.r b aA
 guard:∀b aA,ρ.r b aA->hY w b->aG.heap[b]?=w.heap[b]?/\bW.heap[aA]?=w'.heap[aA]?
 tape:bW.tape=w'.tape
 os:bW.os=w'.os
 output:bW.output=w'.output
 yV:aG.tape=w.tape
 rn:w.heap.size<=aG.heap.size
def Eff.refl{ρ:Ren}{w w':World}:Eff ρ ρ w w w' w':=
 ⟨Ren.le_refl ρ,λ_ _ h=>.inl h,Pk,λ_ _ _=>rfl,λc h k=>absurd k (by omega),λ_ _ _ _=>⟨rfl,rfl⟩,rfl,rfl,rfl,rfl,Pk⟩
def Eff.trans{ρ ai aL:Ren}{w aG j w' bW l:World}(D:dp ai aG bW)(h:Eff ρ ai w aG w' bW)(k:Eff ai aL aG j bW l):Eff ρ aL w j w' l where
 le:=Ren.le_trans h.le k.le
 new b c x:=by
  rcases k.new b c x with y|⟨C,o⟩
  .exact h.new b c y
  .exact .inr ⟨Po h.rn C,Po h.size o⟩
 size:=Po h.size k.size
 out c d i:=by
  have:∀b,¬ai.r b c:=λb x=>by
   rcases h.new b c x with y|⟨_,o⟩
   .exact i b y
   .omega
  rw[k.out c (Px d h.size) this,h.out c d i]
 fresh c u z:=by
  by_cases B:c<bW.heap.size
  .obtain⟨b,d⟩:=h.fresh c u B
   exact⟨b,k.le.sub _ _ d⟩
  .exact k.fresh c (by omega) z
 guard b c d g:=by obtain⟨f,p⟩:=h.guard b c d g;obtain⟨r,q⟩:=k.guard b c (h.le.sub _ _ d) (g.of_eq f);exact⟨r.trans f,q.trans p⟩
 tape:=k.tape.trans h.tape
 os:=k.os.trans h.os
 output:=k.output.trans h.output
 yV:=k.yV.trans h.yV
 rn:=Po h.rn k.rn
inductive fe(ai:Ren)(w:World):Event->Prop
 |cell {b:Nat} {bb:Addr} (h:ai.r b bb.block) (write sync:Bool) (ae:write=true->¬hY w b) (ew:∀c e N,w.heap[b]?=some (.cells c e (0,N))->c.size<=N->bb.off<c.size/\bb.spot=none):fe ai w ⟨.cell bb,write,sync⟩
 |obj {b aA:Nat} (h:ai.r b aA) (write:Bool) (ae:write=true->¬hY w b):fe ai w ⟨.obj aA,write,false⟩
 |mark {m:Mark} (h:m=.noRoom\/∃f,m=.extern f):fe ai w ⟨.mark m,false,true⟩
end
section
section
variable{F:Fence}{n:Nat}{P:Program}{md:Region.Mode}{ops:Array Oper}{Q:Exit->Act->World->Prop}
def bt(L:Nat->Bool)(i j:Nat):Bool:=if j=i then true else L j
def sm(l:Array Bool):Nat:=l.toList.countP (λb=>!b)
def Ba{l:Array Bool}{i:Nat}(h:l[i]?=some false):sm (l.setIfInBounds i true)+1=sm l:=by
 have c:i<l.toList.length:=by have:=(Array.getElem?_eq_some_iff.1 h).1;simpa using this
 have he:l.toList[i]=false:=by have:=(Array.getElem?_eq_some_iff.1 h).2;simpa using this
 unfold sm;rw[Array.toList_setIfInBounds,List.countP_set c,he];have:0<l.toList.countP (λb=>!b):=List.countP_pos_iff.2 ⟨false,by rw[<-he];exact List.getElem_mem _,rfl⟩;simp only[Bool.not_false,if_true,Bool.not_true,if_false,Bool.false_eq_true,Nat.add_zero];omega
def O1{R:(Nat->Bool)->Act->World->Prop}(G:∀(i:Nat) (o:Oper),ops[i]?=some o->∀e∈o.after,e.on<i)(J:∀(L:Nat->Bool) (i:Nat) (o:Oper) (a:Act) (w:World),ops[i]?=some o->L i=false->(∀e∈o.after,Region.binds md e=true->L e.on=true)->R L a w->wpOpIn F n P ops Q i (λp w'=>R (bt L i) p w') a w)(H:∀L a w,(∀i,i<ops.size->L i=true)->R L a w->Q .normal a w):
 ∀fuel listed a w,listed.size=ops.size->sm listed<=fuel->R (λj=>listed.getD j false) a w->wpAnyIn F n P md ops Q fuel listed a w:=by
 have done:∀(listed:Array Bool) a w,listed.size=ops.size->R (λj=>listed.getD j false) a w->Region.ready md ops listed = []->Q .normal a w:=by
  intro listed a w f g h;refine H _ a w ?_ g;intro i;induction i using Nat.strongRecOn with
  |_ i z=>
   intro d;cases B:listed.getD i false with
   |true=>rfl
   |false=>
    have hm:i∈Region.ready md ops listed:=by
     rw[mem_ready];refine⟨?_,ops[i],Pu d,λe he _=>?_⟩
     .have c:i<listed.size:=by omega
      simp only[Array.getD,c,dif_pos]at B ⊢;exact B
     .have I:=G i _ (Pu d) e he
      exact z e.on I (by omega)
    rw[h]at hm;cases hm
 have pos:∀(listed:Array Bool) i,listed.size=ops.size->i∈Region.ready md ops listed->listed[i]?=some false:=by
  intro listed i f d;obtain⟨l,o,r,_⟩:=mem_ready.1 d;have c:i<listed.size:=by have:=(Array.getElem?_eq_some_iff.1 r).1;omega
  rw[Pu c];simp only[Array.getD,c,dif_pos]at l;exact congrArg some l
 intro fuel;induction fuel with
 |zero=>
  intro listed a w f c g;have h:Region.ready md ops listed = []:=by
   refine List.eq_nil_iff_forall_not_mem.2 λi d=>?_
   have:=Ba (pos listed i f d);omega
  exact⟨h,done listed a w f g h⟩
 |succ fuel z=>
  intro listed a w f c g;refine⟨λh=>done listed a w f g h,λi d=>?_⟩;have u:=pos listed i f d;obtain⟨l,o,r,C⟩:=mem_ready.1 d;have D:listed.getD i false=false:=by have c:i<listed.size:=(Array.getElem?_eq_some_iff.1 u).1;simp only[Array.getD,c,dif_pos]at l ⊢;exact l
  refine wpOpIn_mono (λp w' E=>?_) (J _ i o a w r D C g);refine z _ p w' (by simpa using f) (by have:=Ba u;omega) ?_;have e:(λj=>(listed.setIfInBounds i true).getD j false)=bt (λj=>listed.getD j false) i:=by
   funext j;have c:i<listed.size:=(Array.getElem?_eq_some_iff.1 u).1;unfold bt;by_cases q:j=i
   .subst q
    simp[Array.getD,c]
   .simp only[if_neg q,Array.getD,Array.size_setIfInBounds]
    split
    .exact Array.getElem_setIfInBounds_ne (by omega) (λe=>q e.symm)
    .rfl
  rw[e];exact E
def zq(ops:Array Oper):Bool:=(List.range ops.size).all λi=>match ops[i]? with|some o=>o.after.all λe=>decide (e.on<i)|none=>true
def EE(h:zq ops=true)(i:Nat)(o:Oper)(c:ops[i]?=some o)(e:Edge)(he:e∈o.after):e.on<i:=by have d:i<ops.size:=(Array.getElem?_eq_some_iff.1 c).1;have:=List.all_eq_true.1 h i (List.mem_range.2 d);rw[c]at this;have:=Array.all_eq_true_iff_forall_mem.1 this e he;simpa using this
def O2{R:(Nat->Bool)->Act->World->Prop}(hm:P.follows .mixedOrders=true){id:Nat}{a:Act}{w:World}(f:zq ops=true)(h:∀(L:Nat->Bool) (i:Nat) (o:Oper) (a:Act) (w:World),ops[i]?=some o->L i=false->(∀e∈o.after,Region.binds .any e=true->L e.on=true)->R L a w->wpOpIn F n P ops Q i (λc w'=>R (bt L i) c w') a w)(g:∀L a w,(∀i,i<ops.size->L i=true)->R L a w->Q .normal a w)(d:R (λ_=>false) a {w with drawn:=w.drawn+1}):(Code.region id ops true).wpIn F n P Q a w:=by
 refine wpIn_region_any hm (O1 (EE f) h g _ _ _ _ (by simp) ?_ ?_)
 .unfold sm
  refine Po List.countP_le_length ?_;simp
 .have e:(λj=>(Array.replicate ops.size false).getD j false)=λ_=>false:=by funext j;simp[Array.getD]
  rw[e];exact d
end
end
end Go.aN
namespace Go.aN
attribute [-simp] Go.Sem.runT_eq
section
section
variable{Q P:Program}{α β:Type}{ρ ai:Ren}{w w':World}
def fe.mono{w:World}(h:ρ.le ai){e:Event}(x:fe ρ w e):fe ai w e:=by
 cases x with
 |cell k wr s g i=>exact .cell (h.sub _ _ k) wr s g i
 |obj k wr g=>exact .obj (h.sub _ _ k) wr g
 |mark k=>exact .mark k
def fe.back{w aG:World}(o:∀b d,ρ.r b d->hY w b->aG.heap[b]?=w.heap[b]?)(p:∀b,(∃d,ai.r b d)->(∃d,ρ.r b d)\/w.heap.size<=b){e:Event}(x:fe ai aG e):fe ai w e:=by
 have key:∀b d,ai.r b d->¬hY aG b->¬hY w b:=by
  intro b d f u j;rcases p b ⟨d,f⟩with⟨c,al⟩|al
  .exact u (j.of_eq (o b c al j))
  .obtain⟨_,_,_,r,_⟩:=j
   have:=bp r;omega
 cases x with
 |@cell b z k wr s g i=>
  refine .cell k wr s (λh=>key _ _ k (g h)) λc e N f l=>?_
  rcases p b ⟨_,k⟩with⟨q,al⟩|al
  .exact i c e N ((o b q al ⟨c,e,N,f,l⟩).trans f) l
  .have:=bp f
   omega
 |obj k wr g=>exact .obj k wr λh=>key _ _ k (g h)
 |mark k=>exact .mark k
def PI(l:Bool)(P:Program)(A:Ren->α->β->Prop)(ρ:Ren)(w w':World)(a6:Sem β):Result α->Prop
 |.ok a aG=>∃(ai:Ren) (b:β) (bW:World) (bd:Array Event),(∀es,a6.runT P w' es=(.ok b bW,es++bd))/\Eff ρ ai w aG w' bW/\PM l ai aG bW/\A ai a b/\∀e∈bd,fe ai w e
 |.halt (.panic v) aG=>∃(ai:Ren) (c:Value) (bW:World) (bd:Array Event),(∀es,a6.runT P w' es=(.halt (.panic c) bW,es++bd))/\Eff ρ ai w aG w' bW/\PM l ai aG bW/\aM ai v c/\∀e∈bd,fe ai w e
 |.halt h _=>iC h
def PI.step{l:Bool}{A:Ren->α->β->Prop}{aG bW:World}{gI a6:Sem β}{r:Result α}{bd:Array Event}(u:∀es,a6.runT P w' es=gI.runT P bW (es++bd))(he:Eff ρ ai w aG w' bW)(z:dp ai aG bW)(B:∀e∈bd,fe ai w e)(h:PI l P A ai aG bW gI r):PI l P A ρ w w' a6 r:=by
 have D:∀(aL:Ren) (d c:World),Eff ai aL aG d bW c->∀b,(∃f,aL.r b f)->(∃f,ρ.r b f)\/w.heap.size<=b:=by
  rintro aL d c e b ⟨f,q⟩;rcases e.new b f q with x|⟨x,_⟩
  .rcases he.new b f x with y|⟨y,_⟩
   .exact .inl ⟨_,y⟩
   .exact .inr y
  .exact .inr (Po he.rn x)
 have bx:∀(aL:Ren) (d c:World) (gs:Array Event),Eff ai aL aG d bW c->(∀e∈gs,fe aL aG e)->∀e∈bd++gs,fe aL w e:=by
  intro aL d c gs e k x E;rcases Array.mem_append.1 E with y|y
  .exact(B x y).mono e.le
  .exact(k x y).back (λb f q C=>(he.guard b f q C).1) (D aL d c e)
 cases r with
 |ok a d=>
  obtain⟨aL,b,c,gs,i,g,j,o,p⟩:=h;exact⟨aL,b,c,bd++gs,λes=>by rw[u,i,Array.append_assoc],he.trans z g,j,o,bx aL d c gs g p⟩
 |halt x d=>
  cases x with
  |panic v=>
   obtain⟨aL,b,c,gs,i,g,j,o,p⟩:=h;exact⟨aL,b,c,bd++gs,λes=>by rw[u,i,Array.append_assoc],he.trans z g,j,o,bx aL d c gs g p⟩
  |_=>exact h
def wy(C:dp ρ w w'){a h:Addr}(i:cU ρ a h):(∃v p,w.cell? a=some v/\w'.cell? h=some p/\aM ρ v p)\/w.cell? a=none:=by
 obtain⟨o,F,q,r,u⟩:=C.obj _ _ i.block;unfold World.cell?;rw[q,r];cases u with
 |@cells c d e f g z B D=>
  have z:c.size<=d.size:=by omega
  simp only;rw[i.spot,i.off];by_cases j:h.spot.isSome=true
  .exact .inr (by simp[j])
  .rcases l:c[h.off]? with _|v
   .exact .inr (by simp)
   .have E:=bp l
    have hd:d[h.off]?=some d[h.off]:=Pu (by omega);exact .inl ⟨v,_,by simp[j],by simp[j],B _ _ _ l hd⟩
 |_=>exact .inr rfl
def zK{a d:Addr}(g:cU ρ a d){v:Value}(h:w.cell? a=some v){c:Array Value}{e:TypeId}{f:Nat×Nat}(i:w.heap[a.block]?=some (.cells c e f)):d.off<c.size/\d.spot=none:=by
 unfold World.cell? at h;rw[i]at h;dsimp only at h;split at h
 .cases h
 .rename_i j
  rw[g.off]at h;exact⟨bp h,by rw[<-g.spot];simpa using j⟩
def BD(h:dp ρ w w'){a c:Addr}(g:cU ρ a c)(what:String):∃s,w.noCell a what=.stuck s:=by obtain⟨o,j,d,i,f⟩:=h.obj _ _ g.block;unfold World.noCell;rw[d];cases f<;>exact⟨_,rfl⟩
def wV(d:dp ρ w w'){a f:Addr}(c:cU ρ a f)(x:Bool):∃s,w.farLoad Q a x=.error (.stuck s):=by obtain⟨s,i⟩:=BD d c "load: no such cell";obtain⟨o,l,g,j,h⟩:=d.obj _ _ c.block;refine⟨s,?_⟩;unfold World.farLoad;rw[g];cases h<;>simp[i]
def Ar(d:dp ρ w w'){a f:Addr}(c:cU ρ a f)(v:Value)(x:Bool):∃s,w.farStore Q a v x=.error (.stuck s):=by obtain⟨s,i⟩:=BD d c "store: no such cell";obtain⟨o,l,g,j,h⟩:=d.obj _ _ c.block;refine⟨s,?_⟩;unfold World.farStore;rw[g];cases h<;>simp[i]
def heap_setCell{w:World}{a:Addr}{v:Value}{c:Array Value}{e:TypeId}{f:Nat×Nat}(h:w.heap[a.block]?=some (.cells c e f))(g:a.spot.isSome=false)(b:Nat):
 (w.setCell a v).heap[b]?=if b=a.block then some (.cells (c.setIfInBounds a.off v) e f)else w.heap[b]?:=by
 unfold World.setCell;simp only[Array.getElem?_modify];by_cases d:b=a.block
 .subst d;simp[h,g]
 .have:¬a.block=b:=λx=>d x.symm
  simp[d,this]
def size_setCell{w:World}{a:Addr}{v:Value}:(w.setCell a v).heap.size=w.heap.size:=by simp[World.setCell]
def yH(F:dp ρ w w'){a j:Addr}{v J:Value}(l:cU ρ a j)(X:aM ρ v J){x:Value}(q:w.cell? a=some x)(r:w.frozen? a=false):
 (∃y,w'.cell? j=some y)/\w'.frozen? j=false/\¬hY w a.block/\dp ρ (w.setCell a v) (w'.setCell j J)/\Eff ρ ρ w (w.setCell a v) w' (w'.setCell j J):=by
 obtain⟨o,ai,B,C,P⟩:=F.obj _ _ l.block;have ag:=q;unfold World.cell? at q;rw[B]at q;unfold World.frozen? at r;rw[B]at r;cases P with
 |@cells c d e f g W Y hm=>
  have ah:c.size<=d.size:=by omega
  simp only at q r;by_cases u:a.spot.isSome=true
  .simp[u]at q
  simp only[Bool.not_eq_true]at u;have H:j.spot.isSome=false:=by rw[<-l.spot];exact u
  simp[u]at q;have T:=bp q;have S:f=g:=by
   rcases hm with rfl|⟨_,Z,aa,_⟩
   .rfl
   .obtain⟨f1,f2⟩:=f
    simp at r Z aa;omega
  subst S;have L:¬hY w a.block:=by rintro⟨ad,ae,N,E,af⟩;rw[B]at E;simp only[Option.some.injEq,Obj.cells.injEq]at E;obtain⟨rfl,rfl,rfl⟩:=E;simp at r;omega
  refine⟨⟨d[j.off]'(by rw[<-l.off];omega),?_⟩,?_,L,⟨?_,F.tape,by rw[size_setCell];exact F.lim,by rw[size_setCell];exact F.iI⟩,?_⟩
  .unfold World.cell?;rw[C];simp only[H];simp
  .unfold World.frozen?;rw[C];simp only;rw[<-l.off];exact r
  .intro b p D
   rw[heap_setCell B u,heap_setCell C H];by_cases I:b=a.block
   .subst I
    have Q:p=j.block:=ρ.fwd D l.block;subst Q;simp only[if_true];refine⟨_,_,rfl,rfl,.cells (by simpa using W) (λi x y G z=>?_) (.inl rfl)⟩;rw[<-l.off]at z;simp only[Array.getElem?_setIfInBounds]at G z;by_cases K:a.off=i
    .subst K
     have hd:a.off<d.size:=by omega
     simp[T]at G;simp[hd]at z;subst G;subst z;exact X
    .simp[K]at G z
     exact Y i x y G z
   .have R:¬p=j.block:=λx=>I (by subst x;exact ρ.bwd D l.block)
    simp only[I,R,if_false];exact F.obj b p D
  .refine⟨Ren.le_refl ρ,λ_ _ h=>.inl h,by rw[size_setCell];exact Pk,λp _ U=>?_,λp x y=>absurd y (by rw[size_setCell];omega),λb p D E=>?_,rfl,rfl,rfl,rfl,by rw[size_setCell];exact Pk⟩
   .rw[heap_setCell C H]
    have:¬p=j.block:=λx=>U a.block (by subst x;exact l.block)
    simp[this]
   .have M:¬b=a.block:=λx=>by subst x;exact L E
    have V:¬p=j.block:=λx=>M (by subst x;exact ρ.bwd D l.block)
    exact⟨by rw[heap_setCell B u];simp[M],by rw[heap_setCell C H];simp[V]⟩
 |_=>simp at q
def AM(p:dp ρ w w'){a d:Addr}(c:cU ρ a d)(h:w'.frozen? d=true):w.frozen? a=true:=by
 obtain⟨o,D,i,j,l⟩:=p.obj _ _ c.block;unfold World.frozen? at h ⊢;rw[j]at h;rw[i];cases l with
 |cells B C hm=>
  rename_i f g;rcases hm with hm|hm
  .subst hm
   simpa [c.off]using h
  .obtain⟨_,q,_,r⟩:=hm
   obtain⟨f1,f2⟩:=f;obtain⟨u,z⟩:=g;have:=c.off;simp at h q r ⊢;omega
 |_=>simp at h
def AL(j:dp ρ w w'){a c:Addr}(d:cU ρ a c)(l:ρ.exact=true):w.frozen? a=w'.frozen? c:=by
 obtain⟨o,r,f,g,i⟩:=j.obj _ _ d.block;unfold World.frozen?;rw[f,g];cases i with
 |cells p q hm=>
  rcases hm with rfl|⟨h,_⟩
  .simp[d.off]
  .rw[l]at h;cases h
 |_=>rfl
def dp.tick(c:dp ρ w w'):dp ρ {w with drawn:=w.drawn+1} {w' with drawn:=w'.drawn+1}:=
 ⟨c.obj,λn q=>by have:=c.tape (n+1) q;simp only[Nat.add_assoc,Nat.add_comm 1 n];exact this,c.lim,c.iI⟩
def Eff.tick:Eff ρ ρ w {w with drawn:=w.drawn+1} w' {w' with drawn:=w'.drawn+1}:=
 ⟨Ren.le_refl ρ,λ_ _ h=>.inl h,Pk,λ_ _ _=>rfl,λc h k=>absurd k (by simp at *;omega),λ_ _ _ _=>⟨rfl,rfl⟩,rfl,rfl,rfl,rfl,Pk⟩
def Ren.push(ρ:Ren)(m n:Nat)(hm:∀b,¬ρ.r m b)(f:∀b,¬ρ.r b n)(g:ρ.lim<=m)(i:ρ.lim<=n):Ren where
 lim:=ρ.lim
 exact:=ρ.exact
 cells:=ρ.cells
 dw:=ρ.dw
 room:=ρ.room
 dy:=ρ.dy
 dC:=ρ.dC
 low:=by
  rintro a b (h|⟨rfl,rfl⟩)
  .exact ρ.low h
  .omega
 r a b:=ρ.r a b\/(a=m/\b=n)
 fwd:=by
  rintro a b c (h|⟨rfl,rfl⟩) (k|⟨d,rfl⟩)
  .exact ρ.fwd h k
  .subst d;exact absurd h (hm b)
  .exact absurd k (hm c)
  .rfl
 bwd:=by
  rintro a b c (h|⟨rfl,rfl⟩) (k|⟨rfl,d⟩)
  .exact ρ.bwd h k
  .subst d;exact absurd h (f a)
  .exact absurd k (f b)
  .rfl
def By(d:dp ρ w w'){o g:Obj}(r:ev ρ o g):
 ∃ai:Ren,ai.r w.heap.size w'.heap.size/\Eff ρ ai w {w with heap:=w.heap.push o} w' {w' with heap:=w'.heap.push g}/\dp ai {w with heap:=w.heap.push o} {w' with heap:=w'.heap.push g}:=by
 have hm:∀b,¬ρ.r w.heap.size b:=λb h=>by have:=(d.lt h).1;omega
 have p:∀b,¬ρ.r b w'.heap.size:=λb h=>by have:=(d.lt h).2;omega
 refine⟨ρ.push _ _ hm p d.lim d.iI,.inr ⟨rfl,rfl⟩,⟨⟨λ_ _ h=>.inl h,rfl,rfl,rfl,rfl,rfl,rfl,rfl⟩,?_,by simp,?_,?_,?_,rfl,rfl,rfl,rfl,by simp⟩,?_,d.tape,by have:=d.lim;simp[Ren.push];omega,by have:=d.iI;simp[Ren.push];omega⟩
 .rintro b f (h|⟨rfl,rfl⟩)
  .exact .inl h
  .exact .inr ⟨Pk,Pk⟩
 .intro f l _
  simp only[PA];rw[if_neg (by omega)]
 .intro f j i
  simp at i;exact⟨w.heap.size,.inr ⟨rfl,by omega⟩⟩
 .rintro b f l ⟨c,e,z⟩
  have:=d.lt l;refine⟨?_,?_⟩
  .simp only[PA];rw[if_neg (by omega)]
  .simp only[PA];rw[if_neg (by omega)]
 .have hle:ρ.le (ρ.push _ _ hm p d.lim d.iI):=⟨λ_ _ h=>.inl h,rfl,rfl,rfl,rfl,rfl,rfl,rfl⟩
  rintro b f (h|⟨rfl,rfl⟩)
  .obtain⟨x,u,j,i,q⟩:=d.obj b f h
   have:=d.lt h;refine⟨x,u,?_,?_,q.mono hle⟩
   .simp only[PA];rw[if_neg (by omega)];exact j
   .simp only[PA];rw[if_neg (by omega)];exact i
  .exact⟨o,g,by simp,by simp,r.mono hle⟩
def se{w:World}{r:Nat}{o:Obj}(b:Nat)(h:r<w.heap.size):(w.heap.setIfInBounds r o)[b]?=if b=r then some o else w.heap[b]?:=by
 rw[Array.getElem?_setIfInBounds];by_cases c:b=r
 .subst c;simp[h]
 .have:¬r=b:=λx=>c x.symm
  simp[c,this]
def Cx(j:dp ρ w w'){r l:Nat}{o p x:Obj}(i:ρ.r r l)(E:ev ρ o p)(F:w.heap[r]?=some x)(C:p9 x):
 dp ρ {w with heap:=w.heap.setIfInBounds r o} {w' with heap:=w'.heap.setIfInBounds l p}/\Eff ρ ρ w {w with heap:=w.heap.setIfInBounds r o} w' {w' with heap:=w'.heap.setIfInBounds l p}/\¬hY w r:=by
 have g:=j.lt i;have u:¬hY w r:=by rintro⟨c,e,N,h,_⟩;rw[F]at h;cases h;exact C
 refine⟨⟨?_,j.tape,by simpa using j.lim,by simpa using j.iI⟩,⟨Ren.le_refl ρ,λ_ _ h=>.inl h,by simp,?_,λd G z=>absurd z (by simp;omega),?_,rfl,rfl,rfl,rfl,by simp⟩,u⟩
 .intro b d f
  simp only[se _ g.1,se _ g.2];by_cases h:b=r
  .subst h
   obtain rfl:=ρ.fwd f i;exact⟨o,p,by simp,by simp,E⟩
  .have q:¬d=l:=λe=>h (by subst e;exact ρ.bwd f i)
   simp only[h,q,if_false];exact j.obj b d f
 .intro d _ D
  simp only[se _ g.2];rw[if_neg (λe=>D r (by rw[e];exact i))]
 .rintro b d f B
  have h:¬b=r:=λe=>u (by rw[<-e];exact B)
  have q:¬d=l:=λe=>h (by subst e;exact ρ.bwd f i)
  exact⟨by simp only[se _ g.1];rw[if_neg h],by simp only[se _ g.2];rw[if_neg q]⟩
def Cz(i:dp ρ w w'){r c:Nat}(h:ρ.r r c):rI ρ (w.shape? r) (w'.shape? c):=by
 obtain⟨o,j,d,f,g⟩:=i.obj r c h;unfold World.shape?;rw[d,f];cases g with
 |cells k=>exact⟨rfl,k⟩
 |_=>trivial
def Jl{v d:Value}(h:aM ρ v d):(∀c,v≠.agg c)->(∀c,v≠.tuple c)->(∀c,d≠.agg c)/\(∀c,d≠.tuple c):=by intro f g;cases h<;>simp_all
def u2{α:Type}(p:Program)(m:Mode)(a:Addr)(v:Value)(k:Sem α)(w:World)(es:Array Event)(d:∀c,v≠.agg c)(f:∀c,v≠.tuple c):
 (Sem.store m a v k).runT p w es=match w.cell? a with
 |some _=>
  if w.frozen? a then(.halt (.unsupported (.unsafePointer "a write to bytes that a string shares")) w,es)
  else k.runT p (w.setCell a v) (es.push ⟨.cell a,true,m == .atomic⟩)
 |none=>match w.farStore p a v (m == .atomic)with
  |.ok (w,g)=>k.runT p w (es++g.toArray.map (⟨.cell ·,true,m == .atomic⟩))
  |.error h=>(.halt h w,es):=by
 cases v<;>first|rfl|exact absurd rfl (d _)|exact absurd rfl (f _)
def PI.dF{l:Bool}{A:Ren->α->β->Prop}{s:Sem α}{a6:Sem β}(h:dj Q s):PI l P A ρ w w' a6 (s.run Q w):=by
 obtain⟨x,aG,e,g,_⟩:=h w;rw[e];cases x with
 |panic v=>exact g.elim
 |_=>exact g
def PQ{A:Ren->α->β->Prop}{t:Sem α}{a6:Sem β}(h:PL A ρ t a6)(B:dp ρ w w')(n:Nat):PI true P A ρ w w' a6 (t.run Q {w with drawn:=n}):=by
 obtain⟨r,o,u,G,a,b,rfl,rfl,p,z,F,gS⟩:=h;obtain⟨x,I,g,C,D⟩:=B.obj r u p;have H:({w with drawn:=n}:World).heap[r]?=some x:=g;by_cases i:∃c e f,x=.cells c e f
 .obtain⟨c,e,f,rfl⟩:=i
  have l:(Sem.setObj r o (.pure a)).run Q {w with drawn:=n}=.halt (.stuck "setObj: a row of cells") {w with drawn:=n}:=by simp[Sem.run,g]
  rw[l];trivial
 .have j:p9 x:=by cases x<;>first|trivial|exact absurd ⟨_,_,_,rfl⟩ i
  obtain⟨q,d,E⟩:=Cx B p z g j;have l:(Sem.setObj r o (.pure a)).run Q {w with drawn:=n}=.ok a {w with drawn:=n,heap:=w.heap.setIfInBounds r o}:=by simp only[Sem.run,g];cases x<;>first|rfl|exact absurd ⟨_,_,_,rfl⟩ i
  rw[l];refine⟨ρ,b,{w' with heap:=w'.heap.setIfInBounds u G},#[⟨.obj u,true,false⟩],λes=>?_,⟨d.le,d.new,d.size,d.out,d.fresh,d.guard,d.tape,d.os,d.output,d.yV,d.rn⟩,⟨⟨q.obj,q.lim,q.iI⟩,λe=>by cases e⟩,gS,λx j=>?_⟩
  .simp only[Sem.runT,C]
   cases D with
   |cells a b c=>exact absurd ⟨_,_,_,rfl⟩ i
   |_=>cases z<;>first|exact F.elim|simp[Obj.isChan,Sem.runT]
  .simp at j;subst j
   exact .obj p _ (λ_=>E)
def PH.run{l:Bool}{A:Ren->α->β->Prop}{s:Sem α}:∀{ρ:Ren} {w w':World} {a6:Sem β},PH l Q P A s ρ a6->dp ρ w w'->PI l P A ρ w w' a6 (s.run Q w):=by
 induction s with
 |pure a=>
  rintro ρ w w' a6 ⟨b,rfl,h⟩ d;exact⟨ρ,b,w',#[],λes=>by simp[Sem.runT],Eff.refl,d.PS l,h,by simp⟩
 |load m a k i=>
  rintro ρ w w' a6 (hd|⟨H,j,rfl,p,g⟩) d
  .exact PI.dF hd
  rcases wy d p with⟨v,R,I,J,G⟩|I
  .have e:(Sem.load m a k).run Q w=(k v).run Q w:=by simp[Sem.run,I]
   rw[e];refine PI.step (ai:=ρ) (aG:=w) (bW:=w') (bd:=#[⟨.cell H,false,m == .atomic⟩]) (λes=>?_) Eff.refl d ?_ (i v (g v R G) d)
   .simp[Sem.runT,J]
   .intro e he
    simp at he;subst he;exact .cell p.block _ _ (λh=>by cases h) λc t _ T _=>zK p I T
  .obtain⟨s,Z⟩:=wV (Q:=Q) d p (m == .atomic)
   have e:(Sem.load m a k).run Q w=.halt (.stuck s) w:=by simp[Sem.run,I,Z]
   rw[e];trivial
 |store m a v k i=>
  rintro ρ w w' a6 (hd|⟨H,R,j,rfl,p,G,g⟩) d
  .exact PI.dF hd
  by_cases V:∃c,v=.agg c
  .obtain⟨c,rfl⟩:=V
   simp only[Sem.run];trivial
  by_cases aa:∃c,v=.tuple c
  .obtain⟨c,rfl⟩:=aa
   simp only[Sem.run];trivial
  have ah:∀c,v≠.agg c:=λc h=>V ⟨c,h⟩
  have aj:∀c,v≠.tuple c:=λc h=>aa ⟨c,h⟩
  obtain⟨ak,al⟩:=Jl G ah aj;rcases W:w.cell? a with _|x
  .obtain⟨s,Z⟩:=Ar (Q:=Q) d p v (m == .atomic)
   have e:(Sem.store m a v k).run Q w=.halt (.stuck s) w:=by cases v<;>simp_all [Sem.run]
   rw[e];trivial
  .by_cases X:w.frozen? a=true
   .have e:(Sem.store m a v k).run Q w=.halt (.unsupported (.unsafePointer "a write to bytes that a string shares")) w:=by cases v<;>simp_all [Sem.run]
    rw[e];trivial
   .simp only[Bool.not_eq_true]at X
    obtain⟨⟨y,ag⟩,ad,S,C,U⟩:=yH d p G W X;have e:(Sem.store m a v k).run Q w=k.run Q (w.setCell a v):=by cases v<;>simp_all [Sem.run]
    rw[e];refine PI.step (ai:=ρ) (bd:=#[⟨.cell H,true,m == .atomic⟩]) (gI:=j) (λes=>?_) U C ?_ (i g C)
    .rw[u2 _ _ _ _ _ _ _ ak al];simp[ag,ad]
    .intro e he
     simp at he;subst he;exact .cell p.block _ _ (λ_=>S) λc t _ T _=>zK p W T
 |new o k i=>
  rintro ρ w w' a6 (hd|⟨M,j,rfl,L,g⟩) d
  .exact PI.dF hd
  obtain⟨ai,u,he,C⟩:=By d L;have e:(Sem.new o k).run Q w=(k w.heap.size).run Q {w with heap:=w.heap.push o}:=by simp[Sem.run]
  rw[e];exact PI.step (ai:=ai) (bd:=#[]) (gI:=j w'.heap.size) (λes=>by simp[Sem.runT]) he C (by simp) (i _ (g ai _ _ he.le u) C)
 |shape r k i=>
  rintro ρ w w' a6 (hd|⟨F,j,rfl,u,g⟩) d
  .exact PI.dF hd
  have e:(Sem.shape r k).run Q w=(k (w.shape? r)).run Q w:=by simp[Sem.run]
  rw[e];exact PI.step (ai:=ρ) (bd:=#[]) (gI:=j (w'.shape? F)) (λes=>by simp[Sem.runT]) Eff.refl d (by simp) (i _ (g _ _ (Cz d u)) d)
 |freeze a n k i=>intro ρ w w' a6 h d;exact PI.dF h
 |frozen a k i=>
  rintro ρ w w' a6 (hd|⟨H,j,rfl,p,g⟩) d
  .exact PI.dF hd
  have e:(Sem.frozen a k).run Q w=(k (w.frozen? a)).run Q w:=by simp[Sem.run]
  rw[e];exact PI.step (ai:=ρ) (bd:=#[]) (gI:=j (w'.frozen? H)) (λes=>by simp[Sem.runT]) Eff.refl d (by simp) (i _ (g _ _ (AM d p) (AL d p)) d)
 |getObj r k i=>
  rintro ρ w w' a6 (hd|⟨F,j,rfl,u,g⟩) d
  .exact PI.dF hd
  obtain⟨o,M,I,J,K⟩:=d.obj r F u;by_cases B:∃c e f,o=.cells c e f
  .obtain⟨c,e,f,rfl⟩:=B
   have D:(Sem.getObj r k).run Q w=.halt (.stuck "getObj: a row of cells") w:=by simp[Sem.run,I]
   rw[D];trivial
  .have D:(Sem.getObj r k).run Q w=(k o).run Q w:=by simp only[Sem.run,I];cases o<;>first|rfl|exact absurd ⟨_,_,_,rfl⟩ B
   rw[D];refine PI.step (ai:=ρ) (bd:=#[⟨.obj F,false,false⟩]) (gI:=j M) (λes=>?_) Eff.refl d ?_ (i o (g o M K) d)
   .simp only[Sem.runT,J]
    cases K with
    |cells a b c=>exact absurd ⟨_,_,_,rfl⟩ B
    |_=>simp[Obj.isChan]
   .intro x z
    simp at z;subst z;exact .obj u _ (λh=>by cases h)
 |setObj r o k i=>
  rintro ρ w w' a6 (hd|⟨F,M,j,rfl,u,L,ae,g⟩) d
  .exact PI.dF hd
  obtain⟨x,am,I,J,K⟩:=d.obj r F u;by_cases B:∃c e f,x=.cells c e f
  .obtain⟨c,e,f,rfl⟩:=B
   have D:(Sem.setObj r o k).run Q w=.halt (.stuck "setObj: a row of cells") w:=by simp[Sem.run,I]
   rw[D];trivial
  .have z:p9 x:=by cases x<;>first|trivial|exact absurd ⟨_,_,_,rfl⟩ B
   obtain⟨C,U,S⟩:=Cx d u L I z;have D:(Sem.setObj r o k).run Q w=k.run Q {w with heap:=w.heap.setIfInBounds r o}:=by simp only[Sem.run,I];cases x<;>first|rfl|exact absurd ⟨_,_,_,rfl⟩ B
   rw[D];refine PI.step (ai:=ρ) (bd:=#[⟨.obj F,true,false⟩]) (gI:=j) (λes=>?_) U C ?_ (i g C)
   .simp only[Sem.runT,J]
    cases K with
    |cells a b c=>exact absurd ⟨_,_,_,rfl⟩ B
    |_=>cases L<;>first|exact ae.elim|simp[Obj.isChan]
   .intro x z
    simp at z;subst z;exact .obj u _ (λ_=>S)
 |choose q k i=>
  rintro ρ w w' a6 (hd|⟨j,rfl,g⟩|⟨el,g⟩) d
  .exact PI.dF hd
  rotate_left
  .subst el
   by_cases E:q.forced=true
   .have e:(Sem.choose q k).run Q w=(k 0).run Q w:=by simp[Sem.run,E]
    rw[e];exact PQ (g 0) d w.drawn
   .have e:(Sem.choose q k).run Q w=(k (q.cut (w.tape w.drawn q))).run Q {w with drawn:=w.drawn+1}:=by simp[Sem.run,E]
    rw[e];exact PQ (g _) d (w.drawn+1)
  by_cases E:q.forced=true
  .have e:(Sem.choose q k).run Q w=(k 0).run Q w:=by simp[Sem.run,E]
   rw[e];exact PI.step (ai:=ρ) (bd:=#[]) (gI:=j 0) (λes=>by simp[Sem.runT,E]) Eff.refl d (by simp) (i _ (g 0) d)
  .have e:(Sem.choose q k).run Q w=(k (q.cut (w.tape w.drawn q))).run Q {w with drawn:=w.drawn+1}:=by simp[Sem.run,E]
   rw[e];have af:w.tape w.drawn q=w'.tape w'.drawn q:=d.tape 0 q;refine PI.step (ai:=ρ) (bd:=#[]) (gI:=j (q.cut (w.tape w.drawn q))) (λes=>?_) Eff.tick d.tick (by simp) (i _ (g _) d.tick);simp[Sem.runT,E,af]
 |sys c k i=>intro ρ w w' a6 h d;exact PI.dF h
 |program k i=>
  rintro ρ w w' a6 (hd|⟨j,rfl,g⟩) d
  .exact PI.dF hd
  have e:(Sem.program k).run Q w=(k Q).run Q w:=by simp[Sem.run]
  rw[e];exact PI.step (ai:=ρ) (bd:=#[]) (gI:=j P) (λes=>by simp[Sem.runT]) Eff.refl d (by simp) (i _ g d)
 |mark m k i=>
  rintro ρ w w' a6 (hd|⟨cP,j,rfl,hm,g⟩) d
  .exact PI.dF hd
  have e:(Sem.mark m k).run Q w=k.run Q w:=by simp[Sem.run]
  rw[e];refine PI.step (ai:=ρ) (bd:=#[⟨.mark cP,false,true⟩]) (gI:=j) (λes=>by simp[Sem.runT]) Eff.refl d ?_ (i g d);intro x z;simp at z;subst z;cases hm<;>exact .mark (by simp)
 |halt h=>
  intro ρ w w' a6 Y d;cases h with
  |panic v=>
   obtain⟨R,rfl,G⟩:=Y;exact⟨ρ,R,w',#[],λes=>by simp[Sem.runT],Eff.refl,d.PS l,G,by simp⟩
  |_=>exact Y
def gd(P:Program)(A:Ren->α->β->Prop)(ρ:Ren)(w w':World)(a6:Sem β):Result α->Prop
 |.ok a aG=>∃(ai:Ren) (b:β) (bW:World) (bd:Array Event),(∀es,a6.runT P w' es=(.ok b bW,es++bd))/\Eff ρ ai w aG w' bW/\dp ai aG bW/\A ai a b/\∀e∈bd,fe ai w e
 |.halt (.panic v) aG=>∃(ai:Ren) (c:Value) (bW:World) (bd:Array Event),(∀es,a6.runT P w' es=(.halt (.panic c) bW,es++bd))/\Eff ρ ai w aG w' bW/\dp ai aG bW/\aM ai v c/\∀e∈bd,fe ai w e
 |.halt h _=>iC h
def aW.run{A:Ren->α->β->Prop}{s:Sem α}{ρ:Ren}{w w':World}{a6:Sem β}(j:aW Q P A s ρ a6)(l:dp ρ w w'):gd P A ρ w w' a6 (s.run Q w):=by
 have h:=PH.run j l;revert h;generalize s.run Q w=r;intro h;rcases r with⟨a,aG⟩|⟨x,aG⟩
 .obtain⟨ai,b,bW,bd,c,d,f,g,i⟩:=h
  exact⟨ai,b,bW,bd,c,d,f.2 rfl,g,i⟩
 .cases x with
  |panic v=>
   obtain⟨ai,b,bW,bd,c,d,f,g,i⟩:=h;exact⟨ai,b,bW,bd,c,d,f.2 rfl,g,i⟩
  |_=>exact h
end
end
section
def zd:Obj->Prop
 |.cells ..=>False
 |_=>True
inductive cr where
 |load (m:Mode) (a:Addr) (v:Value)
 |store (m:Mode) (a:Addr) (v:Value)
 |new (o:Obj) (b:Nat)
 |shape (r:Nat) (x:Option (TypeId×Nat))
 |frozen (a:Addr) (b:Bool)
 |choose (q:Question) (n:Nat)
 |mark (m:Mark)
 |sys (c:Sys) (r:SysRet)
 |getObj (r:Nat) (o:Obj)
 |setObj (r:Nat) (o:Obj)
 |nV (x y:Bool)
 |order (f:FuncId) (id:Nat) (mixed:Bool) (ops:Array Oper) (l:List Nat)
inductive df where
 |val (v:Value)
 |blk (b:Nat)
 |mC (x:Option (TypeId×Nat))
 |tZ (b:Bool)
 |num (n:Nat)
 |ret (r:SysRet)
 |obj (o:Obj)
 |cmp (b:Bool)
 |ord (l:List Nat)
def bx(P:Program){α:Type}:Sem α->List df->Option (α×List cr×List df)
 |.pure a,as=>some (a,[],as)
 |.program k,as=>bx P (k P) as
 |.load m a k,.val v::as=>(bx P (k v) as).map λx=>(x.1,.load m a v::x.2.1,x.2.2)
 |.store m a v k,as=>match v with
  |.agg _ |.tuple _=>none
  |v=>(bx P k as).map λx=>(x.1,.store m a v::x.2.1,x.2.2)
 |.new o k,.blk b::as=>(bx P (k b) as).map λx=>(x.1,.new o b::x.2.1,x.2.2)
 |.shape r k,.mC y::as=>(bx P (k y) as).map λx=>(x.1,.shape r y::x.2.1,x.2.2)
 |.frozen a k,.tZ b::as=>(bx P (k b) as).map λx=>(x.1,.frozen a b::x.2.1,x.2.2)
 |.choose q k,as=>if q.forced then bx P (k 0) as else match as with
  |.num n::as=>(bx P (k n) as).map λx=>(x.1,.choose q n::x.2.1,x.2.2)
  |_=>none
 |.mark m k,as=>(bx P k as).map λx=>(x.1,.mark m::x.2.1,x.2.2)
 |.sys c k,.ret r::as=>(bx P (k r) as).map λx=>(x.1,.sys c r::x.2.1,x.2.2)
 |.getObj r k,.obj o::as=>(bx P (k o) as).map λx=>(x.1,.getObj r o::x.2.1,x.2.2)
 |.setObj r o k,as=>(bx P k as).map λx=>(x.1,.setObj r o::x.2.1,x.2.2)
 |_,_=>none
inductive Does:World->List cr->World->Array Event->Prop
 |nil (w:World):Does w [] w #[]
 |load {w w':World} {l:List cr} {es:Array Event} {m:Mode} {a:Addr} {v:Value} (h:w.cell? a=some v) (k:Does w l w' es):Does w (.load m a v::l) w' (#[⟨.cell a,false,m == .atomic⟩]++es)
 |store {w w':World} {l:List cr} {es:Array Event} {m:Mode} {a:Addr} {v x:Value} (h:w.cell? a=some x) (aB:w.frozen? a=false) (k:Does (w.setCell a v) l w' es):Does w (.store m a v::l) w' (#[⟨.cell a,true,m == .atomic⟩]++es)
 |new {w w':World} {l:List cr} {es:Array Event} {o:Obj} {b:Nat} (h:w.heap.size=b) (k:Does {w with heap:=w.heap.push o} l w' es):Does w (.new o b::l) w' es
 |shape {w w':World} {l:List cr} {es:Array Event} {r:Nat} {x:Option (TypeId×Nat)} (h:w.shape? r=x) (k:Does w l w' es):Does w (.shape r x::l) w' es
 |frozen {w w':World} {l:List cr} {es:Array Event} {a:Addr} {b:Bool} (h:w.frozen? a=b) (k:Does w l w' es):Does w (.frozen a b::l) w' es
 |choose {w w':World} {l:List cr} {es:Array Event} {q:Question} {n:Nat} (h:q.cut (w.tape w.drawn q)=n) (k:Does {w with drawn:=w.drawn+1} l w' es):Does w (.choose q n::l) w' es
 |mark {w w':World} {l:List cr} {es:Array Event} {m:Mark} (k:Does w l w' es):Does w (.mark m::l) w' (#[⟨.mark m,false,true⟩]++es)
 |sys {w w':World} {l:List cr} {es:Array Event} {c:Sys} {r:SysRet} (h:(w.sys c).1=r) (k:Does (w.sys c).2 l w' es):Does w (.sys c r::l) w' (#[⟨.output,true,false⟩]++es)
 |getObj {w w':World} {l:List cr} {es:Array Event} {r:Nat} {o:Obj} (h:w.heap[r]?=some o) (ak:zd o) (k:Does w l w' es):Does w (.getObj r o::l) w' (#[⟨.obj r,false,o.isChan⟩]++es)
 |setObj {w w':World} {l:List cr} {es:Array Event} {r:Nat} {o x:Obj} (h:w.heap[r]?=some x) (ak:zd x) (k:Does {w with heap:=w.heap.setIfInBounds r o} l w' es):Does w (.setObj r o::l) w' (#[⟨.obj r,true,o.isChan⟩]++es)
 |nV {w w':World} {l:List cr} {es:Array Event} {x y:Bool} (h:x=y) (k:Does w l w' es):Does w (.nV x y::l) w' es
 |order {w w':World} {l:List cr} {es:Array Event} {f:FuncId} {id:Nat} {mixed:Bool} {ops:Array Oper} {o:List Nat} (h:Region.schedule mixed ops (w.tape w.drawn (.order f id))=o) (k:Does {w with drawn:=w.drawn+1} l w' es):Does w (.order f id mixed ops o::l) w' es
def mh{α:Type}{x:Option (α×List cr×List df)}{f:cr}{a:α}{l:List cr}{r:List df}(h:x.map (λx=>(x.1,f::x.2.1,x.2.2))=some (a,l,r)):∃aH,l=f::aH/\x=some (a,aH,r):=by
 cases x with
 |none=>cases h
 |some y=>
  obtain⟨c,d,g⟩:=y;cases h;exact⟨_,rfl,rfl⟩
def Hb{P:Program}{α:Type}{s:Sem α}:∀{as:List df} {a:α} {l:List cr} {r:List df},bx P s as=some (a,l,r)->∀{w w':World} {es acc:Array Event},Does w l w' es->s.runT P w acc=(.ok a w',acc++es):=by
 induction s with
 |pure b=>
  intro as a l r h w w' es acc hd;cases h;cases hd;simp[Sem.runT]
 |program k d=>intro as a l r h w w' es acc hd;exact d P h hd
 |load m j k d=>
  intro as a l r h w w' es acc hd;rcases as with _|⟨x,as⟩
  .cases h
  cases x<;>try cases h
  obtain⟨aH,rfl,f⟩:=mh h;cases hd with
  |load u g=>
   simp only[Sem.runT,u];rw[d _ f g];simp[Array.append_assoc]
 |store m j v k d=>
  intro as a l r h w w' es acc hd;have C:(∀c,v≠.agg c)/\(∀c,v≠.tuple c):=by constructor<;>(rintro c rfl;cases h)
  have f:(bx P k as).map (λx=>(x.1,cr.store m j v::x.2.1,x.2.2))=some (a,l,r):=by cases v<;>first|exact h|(cases h;done)
  obtain⟨aH,rfl,p⟩:=mh f;cases hd with
  |store u D g=>
   have e:(Sem.store m j v k).runT P w acc=k.runT P (w.setCell j v) (acc.push ⟨.cell j,true,m == .atomic⟩):=by cases v<;>first|exact absurd rfl (C.1 _)|exact absurd rfl (C.2 _)|(simp only[Sem.runT,u];rw[if_neg (by simp[D])])
   rw[e,d p g];simp[Array.append_assoc]
 |new o k d=>
  intro as a l r h w w' es acc hd;rcases as with _|⟨x,as⟩
  .cases h
  cases x<;>try cases h
  obtain⟨aH,rfl,f⟩:=mh h;cases hd with
  |new i g=>
   simp only[Sem.runT];rw[i];exact d _ f g
 |shape q k d=>
  intro as a l r h w w' es acc hd;rcases as with _|⟨x,as⟩
  .cases h
  cases x<;>try cases h
  obtain⟨aH,rfl,f⟩:=mh h;cases hd with
  |shape i g=>
   simp only[Sem.runT];rw[i];exact d _ f g
 |frozen q k d=>
  intro as a l r h w w' es acc hd;rcases as with _|⟨x,as⟩
  .cases h
  cases x<;>try cases h
  obtain⟨aH,rfl,f⟩:=mh h;cases hd with
  |frozen i g=>
   simp only[Sem.runT];rw[i];exact d _ f g
 |choose q k d=>
  intro as a l r h w w' es acc hd;unfold bx at h;split at h
  .rename_i B
   simp only[Sem.runT,B,if_true];exact d _ h hd
  .rename_i B
   rcases as with _|⟨x,as⟩
   .cases h
   cases x<;>try cases h
   obtain⟨aH,rfl,f⟩:=mh h;cases hd with
   |choose i g=>
    simp only[Sem.runT,B,if_false,Bool.false_eq_true];rw[i];exact d _ f g
 |mark m k d=>
  intro as a l r h w w' es acc hd;obtain⟨aH,rfl,f⟩:=mh h;cases hd with
  |mark g=>
   simp only[Sem.runT];rw[d f g];simp[Array.append_assoc]
 |sys c k d=>
  intro as a l r h w w' es acc hd;rcases as with _|⟨x,as⟩
  .cases h
  cases x<;>try cases h
  obtain⟨aH,rfl,f⟩:=mh h;cases hd with
  |sys i g=>
   simp only[Sem.runT];rw[i,d _ f g];simp[Array.append_assoc]
 |getObj q k d=>
  intro as a l r h w w' es acc hd;rcases as with _|⟨x,as⟩
  .cases h
  cases x<;>try cases h
  obtain⟨aH,rfl,f⟩:=mh h;cases hd with
  |getObj i z g=>
   rename_i o e3;have e:(Sem.getObj q k).runT P w acc=(k o).runT P w (acc.push ⟨.obj q,false,o.isChan⟩):=by cases o<;>first|exact z.elim|simp only[Sem.runT,i]
   rw[e,d _ f g];simp[Array.append_assoc]
 |setObj q o k d=>
  intro as a l r h w w' es acc hd;have f:(bx P k as).map (λx=>(x.1,cr.setObj q o::x.2.1,x.2.2))=some (a,l,r):=by cases as<;>exact h
  obtain⟨aH,rfl,p⟩:=mh f;cases hd with
  |setObj i z g=>
   rename_i e3 x;have e:(Sem.setObj q o k).runT P w acc=k.runT P {w with heap:=w.heap.setIfInBounds q o} (acc.push ⟨.obj q,true,o.isChan⟩):=by cases x<;>first|exact z.elim|simp only[Sem.runT,i]
   rw[e,d p g];simp[Array.append_assoc]
 |_=>
  intro as a l r h;cases h
abbrev bs:=Frame×List Frame
def ki(P:Program){α:Type}(s:Sem α)(as:List df):Option (α×List cr):=
 match bx P s as with
 |some (a,l,[])=>some (a,l)
 |_=>none
def o'{P:Program}{α:Type}{s:Sem α}{as:List df}{a:α}{l:List cr}(h:ki P s as=some (a,l)){w w':World}{es:Array Event}(hd:Does w l w' es):s.runT P w #[]=(.ok a w',es):=by
 unfold ki at h;split at h
 .rename_i e
  cases h;have:=Hb (acc:=#[]) e hd;simpa using this
 .cases h
def xI(P:Program)(lift:FuncId->Bool)(fr:Frame)(cs:List Frame)(l:List cr):Next->Option (bs×List cr)
 |.value v=>some ((fr.finish v,cs),l)
 |.skip=>some ((fr.finish undef,cs),l)
 |.enter f args=>if lift f then none else some ((Frame.enter P f args .normal,fr::cs),l)
 |.defer d=>some ((({fr with defers:=d::fr.defers}:Frame).finish undef,cs),l)
 |_=>none
abbrev Ext:=FuncId->Option (Array Value->Sem Value)
def wU(f:FuncId)(e:Array Value->Sem Value)(args:Array Value):Sem Next:=do
 mark (.extern f)
 pure (.value (<-e args))
def lT(ext:Ext)(fr:Frame)(o:Oper):Sem Next:=
 match o.op with
 |.call c=>match c.callee with
  |.value (.func f)=>match ext f with
   |some e=>wU f e (c.args.map fr.eval)
   |none=>execOp fr.eval o
  |_=>execOp fr.eval o
 |_=>execOp fr.eval o
def tJ(ext:Ext)(t:Target)(args:Array Value):Sem Next:=
 match t with
 |.fn (.func f) ⟨[]⟩=>match ext f with
  |some e=>wU f e args
  |none=>invoke t args
 |_=>invoke t args
def dk(P:Program)(ext:Ext):Prop:=∀f e,ext f=some e->∃fn,P.funcs[f]?=some fn/\(fn.name == "runtime.NumGoroutine")=false/\fn.body.isNone=true/\Extern.findNext fn=none/\Extern.find fn=some e
def Aq{P:Program}{ext:Ext}(T:dk P ext){f:FuncId}{e:Array Value->Sem Value}(h:ext f=some e)(args:Array Value)(w:World)(acc:Array Event):(callFunc f args).runT P w acc=(wU f e args).runT P w acc:=by
 obtain⟨fn,d,g,i,j,l⟩:=T f e h;have c:(callFunc f args).runT P w acc=(match P.funcs[f]? with
  |none=>(stuck "call: no such function" : Sem Next)
  |some fn=>
   if fn.name == "runtime.NumGoroutine" then pure .numGoroutine
   else if fn.body.isNone then do
    mark (.extern f)
    if let some e:=Extern.findNext fn then return <-e args
    match Extern.find fn with
    |some e=>pure (.value (<-e args))
    |none=>
     if fn.name.endsWith ".init" && !fn.name.startsWith "(" && !fn.name.startsWith "gosem." then pure (.value (.tuple #[]))
     else unsupported (.extern fn.name)
   else pure (.enter f args)).runT P w acc:=rfl
 rw[c,d];dsimp only;rw[g,i,j,l];rfl
def xR{P:Program}{ext:Ext}(T:dk P ext)(fr:Frame)(o:Oper)(w:World)(acc:Array Event):(execOp fr.eval o).runT P w acc=(lT ext fr o).runT P w acc:=by
 unfold lT;split
 .rename_i c h
  split
  .rename_i f g
   split
   .rename_i e he
    rw[<-Aq T he];have d:fr.eval (.func f)=.func (.func f) #[] #[]:=rfl;unfold execOp;simp[h,resolve,Deferred.ofValue,invoke,d,g]
   .rfl
  .rfl
 .rfl
def z2{P:Program}{ext:Ext}(T:dk P ext)(t:Target)(args:Array Value)(w:World)(acc:Array Event):(invoke t args).runT P w acc=(tJ ext t args).runT P w acc:=by
 unfold tJ;split
 .split
  .rename_i f e he
   rw[<-Aq T he];unfold invoke;simp
  .rfl
 .rfl
def pv(P:Program)(ext:Ext)(lift:FuncId->Bool)(fr:Frame)(cs:List Frame)(o:Oper)(as:List df):Option (bs×List cr):=
 match ki P (lT ext fr o) as with
 |some (n,l)=>xI P lift fr cs l n
 |none=>none
def uI(P:Program)(ext:Ext)(lift:FuncId->Bool)(fr:Frame)(cs:List Frame)(o:Oper)(as:List df):Option (bs×List cr):=
 match as with
 | [.cmp b]=>match ki P (lT ext fr o) []with
  |some (.value (.bool x),[])=>some ((fr.finish (.bool b),cs),[.nV x b])
  |_=>none
 |as=>pv P ext lift fr cs o as
def kJ(x:bs):List df->Option (bs×List cr)
 | []=>some (x,[])
 |_=>none
def nh(P:Program)(ext:Ext)(lift:FuncId->Bool)(fr:Frame)(cs:List Frame)(as:List df):List Item->Option (bs×List cr)
 |.code .skip::k |.code (.label _)::k |.inBlock _::k |.inScope _::k |.inRegion _ []::k=>kJ ({fr with todo:=k},cs) as
 |.code (.seq a b)::k=>kJ ({fr with todo:=.code a::.code b::k},cs) as
 |.code (.cond c a b)::k=>match fr.eval c with
  |.bool true=>kJ ({fr with todo:=.code a::k},cs) as
  |.bool false=>kJ ({fr with todo:=.code b::k},cs) as
  |_=>none
 |.code (.block id b)::k=>kJ ({fr with todo:=.code b::.inBlock id::k},cs) as
 |.code (.loop b)::k |.inLoop b::k=>kJ ({fr with todo:=.code b::.inLoop b::k},cs) as
 |.code (.scope b)::k=>kJ ({fr with todo:=.code b::.inScope b::k},cs) as
 |.code (.exit id)::k=>match exitTo id k with
  |some f=>kJ ({fr with todo:=f},cs) as
  |none=>none
 |.code (.region id ops d)::k=>match d,as with
  |false,as=>kJ ({fr with todo:=.inRegion ops (List.range ops.size)::k},cs) as
  |true,[.ord l]=>some (({fr with todo:=.inRegion ops l::k},cs),[.order fr.fn id (P.follows .mixedOrders) ops l])
  |true,_=>none
 | [] |.code .ret::_=>kJ ({fr with mode:=.returning},cs) as
 |.inRegion ops (i::_)::_=>
  if ((ops[i]?).map (Region.wanted · (yielded ops fr.tmps))).getD false then
   match ops[i]? with
   |some o=>uI P ext lift fr cs o as
   |none=>none
  else kJ (fr.finish undef,cs) as
 |_=>none
def xH(P:Program)(fr:Frame)(as:List df):List Frame->Option (bs×List cr)
 | []=>none
 |c::cs=>match P.funcs[fr.fn]? with
  |none=>none
  |some fn=>match ki P (results fn fr.tmps) as with
   |none=>none
   |some (v,l)=>match fr.kind,c.mode with
    |.normal,_=>some ((c.finish v,cs),l)
    |.deferred,.returning=>some ((c,cs),l)
    |.deferred,.panicking ({recovered:=false,..}::_)=>some ((c,cs),l)
    |_,_=>none
def qG(P:Program)(ext:Ext)(lift:FuncId->Bool)(fr:Frame)(cs:List Frame)(d:Deferred)(c:List Deferred)(as:List df):Option (bs×List cr):=
 match d.target with
 |.fn _ _=>match ki P (tJ ext d.target d.args) as with
  |some (.enter f args,l)=>if lift f then none else some ((Frame.enter P f args .deferred,{fr with defers:=c}::cs),l)
  |some (.value _,l)=>some (({fr with defers:=c},cs),l)
  |_=>none
 |_=>none
def mv(P:Program)(ext:Ext)(lift:FuncId->Bool)(x:bs)(as:List df):Option (bs×List cr):=
 match x.1.kind,x.1.roundOf with
 |.normal,none |.deferred,none=>match x.1.mode with
  |.run=>nh P ext lift x.1 x.2 as x.1.todo
  |.returning=>match x.1.defers with
   | []=>xH P x.1 as x.2
   |d::c=>qG P ext lift x.1 x.2 d c as
  |.panicking _=>match x.1.defers with
   | []=>none
   |d::c=>qG P ext lift x.1 x.2 d c as
 |_,_=>none
def uo:List cr->Bool
 | []=>true
 |.mark (.extern _)::l=>uo l
 |_=>false
def lS(P:Program)(ext:Ext)(lift:FuncId->Bool):Nat->bs->bs
 | 0,x=>x
 |n+1,x=>match mv P ext lift x []with
  |some (y,l)=>if uo l then lS P ext lift n y else x
  |none=>x
section
variable{P:Program}{ext:Ext}{lift:FuncId->Bool}{main:Bool}{base:List Frame}{st:GoStatus}{off:Option (Array CommCase×CommShape)}{w w':World}{es:Array Event}{l:List cr}
abbrev bQ(x:bs)(base:List Frame):Goroutine:=⟨x.1,x.2++base,.running,none,none⟩
def Jc{x y:bs}{as:List df}(h:kJ x as=some (y,l)):y=x/\l = []:=by
 cases as with
 |nil=>cases h;exact⟨rfl,rfl⟩
 |cons=>cases h
def ox(p:Program)(f:FuncId):seen p f #[]=#[]:=rfl
def Bw(T:dk P ext){fr:Frame}{cs:List Frame}{o:Oper}{as:List df}{y:bs}(h:pv P ext lift fr cs o as=some (y,l))(j:fr.kind=.normal\/fr.kind=.deferred)(g:∀d b r s k,fr.todo≠.call d b r s::k)(hd:Does w l w' es):
 stepG.apply P true fr (cs++base) none (execOp fr.eval o) w=.go (bQ y base) w' (seen P fr.fn es):=by
 unfold pv at h;have c:(fr.kind == .early)=false:=by rcases j with k|k<;>(rw[k];rfl)
 rcases e:ki P (lT ext fr o) as with _|⟨n,aH⟩
 .rw[e]at h;cases h
 rw[e]at h;dsimp only at h;have p:aH=l:=by cases n<;>simp only[xI]at h<;>first|(cases h;rfl)|(split at h<;>cases h;rfl)|cases h
 subst p;have f:(execOp fr.eval o).runT P w #[]=_:=(xR T fr o w #[]).trans (o' e hd);cases n<;>simp only[xI]at h<;>try cases h
 .simp[stepG.apply,f,c,GStep.after]
 .simp[stepG.apply,f,c,GStep.after]
 .split at h
  .cases h
  .cases h
   obtain⟨fn,tmps,todo,defers,mode,kind,ro⟩:=fr;dsimp only at g c f;rcases todo with _|⟨i,k⟩
   .simp[stepG.apply,f,c,GStep.after]
   .cases i with
    |call d b r s=>exact absurd rfl (g d b r s k)
    |_=>simp[stepG.apply,f,c,GStep.after]
 .simp[stepG.apply,f,c,GStep.after]
def Jb(T:dk P ext){fr:Frame}{cs:List Frame}{o:Oper}{as:List df}{y:bs}(h:uI P ext lift fr cs o as=some (y,l))(c:fr.kind=.normal\/fr.kind=.deferred)(f:∀d b r s k,fr.todo≠.call d b r s::k)(hd:Does w l w' es):
 stepG.apply P true fr (cs++base) none (execOp fr.eval o) w=.go (bQ y base) w' (seen P fr.fn es):=by
 unfold uI at h;split at h
 .rename_i b
  split at h
  .rename_i x e
   cases h;cases hd with
   |nV g k=>
    subst g;have:pv P ext lift fr cs o []=some ((fr.finish (.bool x),cs),[]):=by unfold pv;rw[e];rfl
    exact Bw T this c f k
  .cases h
 .exact Bw T h c f hd
def run_eq{fr:Frame}(h:fr.mode=.run)(C:List Frame)(w:World):stepG P main ⟨fr,C,st,none,off⟩ w=stepG.exec P main true fr C none w:=by obtain⟨fn,tmps,todo,defers,mode,kind,ro⟩:=fr;cases h;rfl
def xt{fr:Frame}(h:fr.mode=.returning)(C:List Frame)(w:World):stepG P main ⟨fr,C,st,none,off⟩ w=unwind P main fr C none w:=by obtain⟨fn,tmps,todo,defers,mode,kind,ro⟩:=fr;cases h;rfl
def Jd(T:dk P ext){fr:Frame}{cs:List Frame}{as:List df}{y:bs}(h:nh P ext lift fr cs as fr.todo=some (y,l))(hm:fr.mode=.run)(p:fr.kind=.normal\/fr.kind=.deferred)(q:fr.roundOf=none)(hd:Does w l w' es):
 stepG P main ⟨fr,cs++base,st,none,off⟩ w=.go (bQ y base) w' (seen P fr.fn es):=by
 rw[run_eq hm];obtain⟨fn,tmps,todo,defers,mode,kind,ro⟩:=fr;dsimp only at h hm p q;subst hm;subst q;have f:∀{z:bs},kJ z as=some (y,l)->∀{r:GStep},r=.go (bQ z base) w->r=.go (bQ y base) w' (seen P fn es):=by intro z B r u;obtain⟨rfl,rfl⟩:=Jc B;cases hd;rw[u,ox]
 cases todo with
 |nil=>exact f h (by simp[stepG.exec])
 |cons i k=>
  cases i with
  |code c=>
   cases c with
   |skip=>exact f h (by simp[stepG.exec])
   |label n=>exact f h (by simp[stepG.exec])
   |seq a b=>exact f h (by simp[stepG.exec])
   |ret=>exact f h (by simp[stepG.exec])
   |block id b=>exact f h (by simp[stepG.exec])
   |loop b=>exact f h (by simp[stepG.exec])
   |scope b=>exact f h (by simp[stepG.exec])
   |cond c a b=>
    simp only[nh]at h;split at h
    .rename_i he
     exact f h (by simp only[stepG.exec];rw[he];rfl)
    .rename_i he
     exact f h (by simp only[stepG.exec];rw[he];rfl)
    .cases h
   |exit id=>
    simp only[nh]at h;split at h
    .rename_i C he
     exact f h (by simp only[stepG.exec];rw[he];rfl)
    .cases h
   |region id ops d=>
    cases d with
    |false=>exact f h (by simp[stepG.exec])
    |true=>
     simp only[nh]at h;split at h
     .rename_i e;cases e
     .cases h
      cases hd with
      |order g k=>
       cases k;subst g;simp[stepG.exec,choose,Sem.run,Question.forced,Question.cut,ox]
     .cases h
   |_=>cases h
  |inBlock id=>exact f h (by simp[stepG.exec])
  |inLoop c=>exact f h (by simp[stepG.exec])
  |inScope c=>exact f h (by simp[stepG.exec])
  |inRegion ops rest=>
   cases rest with
   |nil=>exact f h (by simp[stepG.exec])
   |cons i rest=>
    simp only[nh]at h;simp only[stepG.exec];split at h
    .rename_i j
     rw[if_pos j];rcases g:ops[i]? with _|o
     .rw[g]at h;cases h
     rw[g]at h;dsimp only at h;have:=Jb (base:=base) T h p (by intro d b r s k e;cases e) hd;rw[<-this];simp[stepG.oper,Frame.oper?,g]
    .rename_i j
     rw[if_neg j];exact f h rfl
  |_=>cases h
def Bx(T:dk P ext){fr:Frame}{cs:List Frame}{d:Deferred}{g:List Deferred}{as:List df}{y:bs}(h:qG P ext lift fr cs d g as=some (y,l))(o:fr.defers=d::g)(hd:Does w l w' es):
 unwind P main fr (cs++base) none w=.go (bQ y base) w' (seen P fr.fn es):=by
 unfold qG at h;obtain⟨t,a⟩:=d;cases t<;>try cases h
 rename_i f c;dsimp only at h;rcases he:ki P (tJ ext (.fn f c) a) as with _|⟨n,aH⟩
 .rw[he]at h;cases h
 rw[he]at h;try dsimp only at h
 have hu:unwind P main fr (cs++base) none w=callDeferred P {fr with defers:=g} (cs++base) none ⟨.fn f c,a⟩ w:=by unfold unwind;rw[o]
 have j:((Target.fn f c matches .nil) && (({fr with defers:=g}:Frame).mode matches .panicking _))=false:=rfl;rw[hu];cases n<;>try cases h
 .have i:=(z2 T (.fn f c) a w #[]).trans (o' he hd)
  unfold callDeferred;refine(if_neg λh=>absurd (j.symm.trans h) (by decide)).trans ?_;dsimp only;rw[i];simp[GStep.after]
 .dsimp only at h
  split at h
  .cases h
  .cases h
   have i:=(z2 T (.fn f c) a w #[]).trans (o' he hd);unfold callDeferred;refine(if_neg λh=>absurd (j.symm.trans h) (by decide)).trans ?_;dsimp only;rw[i];simp[GStep.after]
def pw(T:dk P ext){x y:bs}{as:List df}(h:mv P ext lift x as=some (y,l))(hd:Does w l w' es):
 stepG P main ⟨x.1,x.2++base,st,none,off⟩ w=.go (bQ y base) w' (seen P x.1.fn es):=by
 obtain⟨fr,cs⟩:=x;have key:(fr.kind=.normal\/fr.kind=.deferred)/\fr.roundOf=none/\(match fr.mode with
  |.run=>nh P ext lift fr cs as fr.todo
  |.returning=>match fr.defers with
   | []=>xH P fr as cs
   |d::g=>qG P ext lift fr cs d g as
  |.panicking _=>match fr.defers with
   | []=>none
   |d::g=>qG P ext lift fr cs d g as)=some (y,l):=by
  unfold mv at h;dsimp only at h;split at h
  .rename_i o p;exact⟨.inl o,p,h⟩
  .rename_i o p;exact⟨.inr o,p,h⟩
  .cases h
 obtain⟨U,u,h⟩:=key;rcases hm:fr.mode with _|_|ch
 .rw[hm]at h
  exact Jd T h hm U u hd
 .rw[hm]at h
  dsimp only at h;rw[xt hm];rcases f:fr.defers with _|⟨d,g⟩
  .rw[f]at h
   dsimp only at h;cases cs with
   |nil=>cases h
   |cons c cs=>
    unfold xH at h;dsimp only at h;rcases j:P.funcs[fr.fn]? with _|fn
    .rw[j]at h;cases h
    rw[j]at h;dsimp only at h;rcases he:ki P (results fn fr.tmps) as with _|⟨v,aH⟩
    .rw[he]at h;cases h
    rw[he]at h;dsimp only at h;have q:∀{r:List cr},aH=r->Does w r w' es->(results fn fr.tmps).runT P w #[]=(.ok v w',es):=by rintro r rfl hd;exact o' he hd
    rcases U with U|U
    .rw[U]at h
     cases h;simp[unwind,f,hm,j,q rfl hd,doReturn,U,GStep.after]
    .rw[U]at h
     rcases i:c.mode with _|_|ch
     .rw[i]at h;cases h
     .rw[i]at h
      cases h;simp[unwind,f,hm,j,q rfl hd,doReturn,U,GStep.after,i]
     .rw[i]at h
      rcases ch with _|⟨⟨dV,z,C⟩,B⟩
      .cases h
      .cases z
       .cases h
        simp[unwind,f,hm,j,q rfl hd,doReturn,U,GStep.after,i]
       .cases h
  .rw[f]at h
   exact Bx T h f hd
 .rw[hm]at h
  dsimp only at h;have e:stepG P main ⟨fr,(fr,cs).2++base,st,none,off⟩ w=unwind P main fr (cs++base) none w:=by obtain⟨fn,tmps,todo,defers,mode,kind,ro⟩:=fr;cases hm;rfl
  show stepG P main ⟨fr,(fr,cs).2++base,st,none,off⟩ w=_;rw[e];rcases f:fr.defers with _|⟨d,g⟩
  .rw[f]at h;cases h
  .rw[f]at h
   exact Bx T h f hd
def HT:∀{l:List cr},uo l=true->∀w,∃es,Does w l w es/\∀e∈es,∃f,e=⟨.mark (.extern f),false,true⟩:=by
 intro l;induction l with
 |nil=>intro _ w;exact⟨#[],.nil w,by simp⟩
 |cons x l g=>
  intro h w;cases x<;>try cases h
  rename_i m;cases m<;>try cases h
  rename_i f;obtain⟨es,c,d⟩:=g h w;refine⟨_,.mark c,λe he=>?_⟩;rcases Array.mem_append.1 he with k|k
  .exact⟨f,by simpa using k⟩
  .exact d e k
def Lt(p:Program)(f:FuncId)(es:Array Event)(h:∀e∈es,∃f,e=⟨.mark (.extern f),false,true⟩):seen p f es=#[]:=by
 have key:∀(l:List Event) (q:Bool),(∀e∈l,∃f,e=⟨.mark (.extern f),false,true⟩)->∃q',l.foldl (λ(x:Bool×Array Event) e=>match e.loc with
  |.mark (.extern f)=>((p.funcs[f]?).any (·.norace),x.2)
  |_=>(x.1,if x.1 && !e.sync then x.2 else x.2.push e)) (q,#[])=(q',#[]):=by
  intro l;induction l with
  |nil=>intro q _;exact⟨q,rfl⟩
  |cons e l d=>
   intro q h;obtain⟨g,rfl⟩:=h e (by simp);exact d _ λe he=>h e (by simp[he])
 obtain⟨q',c⟩:=key es.toList ((p.funcs[f]?).any (·.norace)) λe he=>h e (Array.mem_toList_iff.1 he)
 unfold seen;dsimp only;rw[<-Array.foldl_toList];exact congrArg Prod.snd c
end
end
end Go.aN
