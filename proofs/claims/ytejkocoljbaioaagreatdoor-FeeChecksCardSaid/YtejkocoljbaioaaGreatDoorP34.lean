/- A part. -/
import Derived.Test.YtejkocoljbaioaaGreatDoorP15
set_option maxHeartbeats 8000000
set_option maxRecDepth 100000
set_option linter.all false
namespace Go.aO
attribute [-simp] Go.Sem.runT_eq
open Go.Proofs Go.Conc Go.ConcN
section
variable{w:World}{t:Trace}{gs:Array Goroutine}{bF:Machine->Outcome->World->Trace->Prop}{aH:Nat->Prop}{bx:Frame}{rest:List Frame}{kd:CallKind}{b m:Nat}{bK:TypeId×Nat}
def ot(b m:Nat)(bK:TypeId×Nat)(kd:CallKind):dn (nj b m bK kd).P (nj b m bK kd).ext:=by unfold nj;exact j8
def mW(b m:Nat)(kd:CallKind):dn (mT b m kd).P (mT b m kd).ext:=by unfold mT;exact j8
def Sv(kd:CallKind):dn (tM kd).P (tM kd).ext:=by unfold tM;exact j8
def GV(c:(w.cell? ⟨b,m,none⟩).isSome):b<w.heap.size:=by
 refine Nat.lt_of_not_le λd=>?_
 have e:w.heap[b]?=none:=Array.getElem?_eq_none d;simp[World.cell?,e]at c
def O0{v:Value}(h:w.shape? b=some bK):(w.setCell ⟨b,m,none⟩ v).shape? b=some bK:=by
 cases d:w.heap[b]? with
 |none=>simp[World.shape?,d]at h
 |some o=>
  cases o with
  |cells c e f=>
   simp only[World.shape?,d]at h;have g:=cU (o:=m) (v:=v) d;simp only[World.shape?,g,Array.size_setIfInBounds];exact h
  |_=>simp[World.shape?,d]at h
def LQ(p:S8 kd)(F:Kept bx)(C:w.shape? b=some bK)(G:m<bK.2)(l:w.cell? ⟨b,m,none⟩=some (.int .i32 0))(z:w.frozen? ⟨b,m,none⟩=false)(i:cc aK aH gs (S6 (Frame.enter aK 128 #[.pointer (some ⟨b,m,none⟩)] kd) (bx::rest)) w t 0)(k:∀gs d t,cc aK aH gs (S6 (eU kd bx (.tuple #[])) rest) ((w.setCell ⟨b,m,none⟩ (.int .i32 1)).at d) t 0->S7 aK bF gs ((w.setCell ⟨b,m,none⟩ (.int .i32 1)).at d) t):S7 aK bF gs w t:=by
 have D:=GV (by rw[l];rfl);have b6:iI (nj b m bK kd) (bx::rest) aH gs w t 0 .jr (Frame.enter aK 128 #[.pointer (some ⟨b,m,none⟩)] kd,[]) 10 400:=⟨⟨_,LJ b m bK kd p,rfl⟩,bg,i⟩
 refine b6.quiet (ot b m bK kd) λgs d1 t x j a s1 g c=>?_
 obtain rfl:a=9:=U;refine s1.fix (ot b m bK kd) (λ_=>bg) c (he:=.head _) λd2=>⟨_,_,.mark (.mark (.nil _)),bg,λe he=>?_,λgs t x s2=>?_⟩
 .have he:e∈[(⟨.mark .disable,false,true⟩:Event)]:=he
  rw[ev he];exact oM (λx f=>by cases f) trivial
 have s2:iI (nj b m bK kd) (bx::rest) aH gs (w.at d2) t 1 .jX x 9 400:=s2;refine s2.quiet (ot b m bK kd) λgs d3 t x j a J g c=>?_
 obtain rfl:a=8:=U;refine J.fix (ot b m bK kd) (λ_=>bg) c (he:=.head _) λd4=>⟨((w.at d2).at d3).at d4 |>.setCell ⟨b,m,none⟩ (.int .i32 1),_,.mark (.shape (show(World.at _ d4).shape? b=some bK from C) (.frozen z (.load l (.store l z (.nil _))))),by show w.heap.size<=(w.setCell _ _).heap.size;simp,λe he=>?_,λgs t x h=>?_⟩
 .have he:e∈[(⟨.cell ⟨b,m,none⟩,false,true⟩:Event),⟨.cell ⟨b,m,none⟩,true,true⟩]:=he
  have B:b<(((w.at d2).at d3).at d4 |>.setCell ⟨b,m,none⟩ (.int .i32 1)).heap.size:=by show b<(w.setCell ⟨b,m,none⟩ (.int .i32 1)).heap.size;simpa using D
  rcases List.mem_cons.1 he with rfl|he
  .exact tX B
  .rw[ev he];exact tX B
 have h:iI (nj b m bK kd) (bx::rest) aH gs ((w.setCell ⟨b,m,none⟩ (.int .i32 1)).at d4) t 1 .h6 x 8 400:=h;show S7 aK bF gs ((w.setCell ⟨b,m,none⟩ (.int .i32 1)).at d4) t;generalize hW:w.setCell ⟨b,m,none⟩ (.int .i32 1)=W at h k ⊢;have H:W.shape? b=some bK:=by rw[<-hW];exact O0 C
 refine h.quiet (ot b m bK kd) λgs d5 t x j a K g c=>?_
 obtain rfl:a=7:=U;refine K.fix (ot b m bK kd) (λ_=>bg) c (he:=.head _) λd6=>⟨_,_,.mark (.mark (.nil _)),bg,λe he=>?_,λgs t x r=>?_⟩
 .have he:e∈[(⟨.mark .enable,false,true⟩:Event)]:=he
  rw[ev he];exact oM (λx f=>by cases f) trivial
 have r:iI (nj b m bK kd) (bx::rest) aH gs (W.at d6) t 0 .gH x 7 400:=r;refine r.quiet (ot b m bK kd) λgs d7 t x j a L g c=>?_
 have f:=c.jN (he:=.head _);obtain⟨o,E⟩:=LO b m bK kd p;refine L.fJ.step λd8=>⟨(S6 ((pZ b m bK kd).1.finish (.pointer (some ⟨b,m,none⟩))) ((pZ b m bK kd).2++(bx::rest))),W.at d8,#[],?_,rfl,bg,(λe he=>by simp at he),λgs t sl u=>?_⟩
 .rw[f]
  exact Cy E (w:=W.at d8) (e:=bK.1) (n:=bK.2) H G true (bx::rest) .running none
 have u:iI (nj b m bK kd) (bx::rest) aH gs (W.at d8) t 0 .aq ((pZ b m bK kd).1.finish (.pointer (some ⟨b,m,none⟩)),(pZ b m bK kd).2) 10 400:=⟨⟨_,LK b m bK kd p,rfl⟩,bg,u⟩
 refine u.quiet (ot b m bK kd) (λgs d9 t x j a M g c=>?_) sl;obtain rfl:a=9:=U;refine M.fix (ot b m bK kd) (λ_=>bg) c (he:=.head _) λd10=>⟨_,_,.mark (.mark (.nil _)),bg,λe he=>?_,λgs t x q=>?_⟩
 .have he:e∈[(⟨.mark (.acquire ⟨b,m,none⟩),false,true⟩:Event)]:=he
  rw[ev he];exact oM (λx f=>by cases f) (by
   have:W.heap.size=w.heap.size:=by rw[<-hW];simp
   show b<W.heap.size;omega)
 have q:iI (nj b m bK kd) (bx::rest) aH gs (W.at d10) t 0 .fin x 9 400:=q;refine q.quiet (ot b m bK kd) λgs d11 t x j a I g c=>?_
 exact I.leave F c (he:=.head _) λgs d12 t i=>k gs d12 t i
def RH(p:S8 kd)(F:Kept bx)(H:w.shape? b=some bK)(G:m<bK.2)(h:w.cell? ⟨b,m,none⟩=some (.int .i32 1))(E:w.frozen? ⟨b,m,none⟩=false)(l:cc aK aH gs (S6 (Frame.enter aK 129 #[.pointer (some ⟨b,m,none⟩)] kd) (bx::rest)) w t 0)(k:∀gs d t,cc aK aH gs (S6 (eU kd bx (.tuple #[])) rest) ((w.setCell ⟨b,m,none⟩ (.int .i32 0)).at d) t 0->S7 aK bF gs ((w.setCell ⟨b,m,none⟩ (.int .i32 0)).at d) t):S7 aK bF gs w t:=by
 have B:=GV (by rw[h];rfl);have b6:iI (mT b m kd) (bx::rest) aH gs w t 0 .ld (Frame.enter aK 129 #[.pointer (some ⟨b,m,none⟩)] kd,[]) 10 400:=⟨⟨_,Rz b m kd p,rfl⟩,bg,l⟩
 refine b6.quiet (mW b m kd) λgs d1 t x j a s1 g c=>?_
 obtain rfl:a=9:=U;refine s1.fix (mW b m kd) (λ_=>bg) c (he:=.head _) λd2=>⟨_,_,.load h (.nil _),bg,λe he=>?_,λgs t x s2=>?_⟩
 .have he:e∈([]:List Event):=he
  cases he
 have s2:iI (mT b m kd) (bx::rest) aH gs (w.at d2) t 0 .gH x 9 400:=s2;refine s2.quiet (mW b m kd) λgs d3 t x j a K g c=>?_
 have f:=c.jN (he:=.head _);obtain⟨o,D⟩:=RF b m kd p;refine K.fJ.step λd4=>⟨(S6 ((qo b m kd).1.finish (.pointer (some ⟨b,m,none⟩))) ((qo b m kd).2++(bx::rest))),w.at d4,#[],?_,rfl,bg,(λe he=>by simp at he),λgs t sl r=>?_⟩
 .rw[f]
  exact Cy D (w:=w.at d4) (e:=bK.1) (n:=bK.2) H G true (bx::rest) .running none
 have r:iI (mT b m kd) (bx::rest) aH gs (w.at d4) t 0 .cx ((qo b m kd).1.finish (.pointer (some ⟨b,m,none⟩)),(qo b m kd).2) 10 400:=⟨⟨_,RA b m kd p,rfl⟩,bg,r⟩
 refine r.quiet (mW b m kd) (λgs d5 t x j a L g c=>?_) sl;obtain rfl:a=9:=U;refine L.fix (mW b m kd) (λ_=>bg) c (he:=.head _) λd6=>⟨_,_,.mark (.mark (.nil _)),bg,λe he=>?_,λgs t x u=>?_⟩
 .have he:e∈[(⟨.mark (.releaseMerge ⟨b,m,none⟩),false,true⟩:Event)]:=he
  rw[ev he];exact oM (λx f=>by cases f) B
 have u:iI (mT b m kd) (bx::rest) aH gs (w.at d6) t 0 .jr x 9 400:=u;refine u.quiet (mW b m kd) λgs d7 t x j a M g c=>?_
 obtain rfl:a=8:=U;refine M.fix (mW b m kd) (λ_=>bg) c (he:=.head _) λd8=>⟨_,_,.mark (.mark (.nil _)),bg,λe he=>?_,λgs t x z=>?_⟩
 .have he:e∈[(⟨.mark .disable,false,true⟩:Event)]:=he
  rw[ev he];exact oM (λx f=>by cases f) trivial
 have z:iI (mT b m kd) (bx::rest) aH gs (w.at d8) t 1 .add x 8 400:=z;refine z.quiet (mW b m kd) λgs d9 t x j a P g c=>?_
 obtain rfl:a=7:=U;refine P.fix (mW b m kd) (λ_=>bg) c (he:=.head _) λd10=>⟨(w.setCell ⟨b,m,none⟩ (.int .i32 0)).at d10,_,.mark (.load h (.store h E (.nil _))),by show w.heap.size<=(w.setCell _ _).heap.size;simp,λe he=>?_,λgs t x i=>?_⟩
 .have he:e∈[(⟨.cell ⟨b,m,none⟩,false,true⟩:Event),⟨.cell ⟨b,m,none⟩,true,true⟩]:=he
  have C:b<((w.setCell ⟨b,m,none⟩ (.int .i32 0)).at d10).heap.size:=by show b<(w.setCell ⟨b,m,none⟩ (.int .i32 0)).heap.size;simpa using B
  rcases List.mem_cons.1 he with rfl|he
  .exact tX C
  .rw[ev he];exact tX C
 have i:iI (mT b m kd) (bx::rest) aH gs ((w.setCell ⟨b,m,none⟩ (.int .i32 0)).at d10) t 1 .h6 x 7 400:=i;generalize w.setCell ⟨b,m,none⟩ (.int .i32 0)=W at i k ⊢;refine i.quiet (mW b m kd) λgs d11 t x j a I g c=>?_
 obtain rfl:a=6:=U;refine I.fix (mW b m kd) (λ_=>bg) c (he:=.head _) λd12=>⟨_,_,.mark (.mark (.nil _)),bg,λe he=>?_,λgs t x q=>?_⟩
 .have he:e∈[(⟨.mark .enable,false,true⟩:Event)]:=he
  rw[ev he];exact oM (λx f=>by cases f) trivial
 have q:iI (mT b m kd) (bx::rest) aH gs (W.at d12) t 0 .fin x 6 400:=q;refine q.quiet (mW b m kd) λgs d13 t x j a J g c=>?_
 exact J.leave F c (he:=.head _) λgs d14 t l=>k gs d14 t l
def HC(g:S8 kd)(h:Kept bx)(y:Value)(c:cc aK aH gs (S6 (Frame.enter aK 71 #[.nilIface,y] kd) (bx::rest)) w t 0)(k:∀gs d t,cc aK aH gs (S6 (eU kd bx (.bool false)) rest) (w.at d) t 0->S7 aK bF gs (w.at d) t):S7 aK bF gs w t:=by
 have b6:iI (tM kd) (bx::rest) aH gs w t 0 .c8 (Frame.enter aK 71 #[.nilIface,y] kd,[]) 5 400:=⟨⟨_,HB y kd g,rfl⟩,bg,c⟩
 refine b6.quiet (Sv kd) λgs d1 t x j a s1 i f=>?_
 exact s1.leave h f (he:=.head _) λgs d14 t c=>k gs d14 t c
end
end Go.aO
namespace Go.aO
attribute [-simp] Go.Sem.runT_eq
open Go.ConcM (OsLater)
open Go.Proofs Go.Conc Go.ConcN
variable{gs:Array Goroutine}{a b:Array Value}{kd:CallKind}{c g:Frame}{f:FuncId}{base cs:List Frame}{i lim n:Nat}{aH:Nat->Prop}{x:Nat×Obj×Obj}{ai ie ρ:Ren}{t:Trace}{v:Value}{R:Value->World->Prop}{aL u v0 w:World}{V:dt}
section
variable{Q:Program}{R:Value->World->Prop}{f0:FuncId}{K:g8 Q aK}{G:Machine->Outcome->World->Trace->Prop}
structure lA(Q:Program):Prop where
 S:Same Q aK
 ek:fe (fj (jv Q)) Q Q
 f75:Q.funcs[71]?=some rq
 f141:Q.funcs[128]?=some sX
 f142:Q.funcs[129]?=some sY
 eb:eK Q 71=some 2/\eK Q 128=some 1/\eK Q 129=some 1
def OT(ek:fe (fj (jv Q)) Q Q){fr:Frame}{aG:World}(g:e3 Q f0 R V)(h:Self Q V)(l:¬V.stop)(i:runN Q n V.m=.next (lone fr (cs++[wall]) aG))(j:V≠⟨fr,cs,aG⟩):
 e3 Q f0 R ⟨fr,cs,aG⟩/\Self Q ⟨fr,cs,aG⟩/\dZ Q ⟨fr,cs,aG⟩ V:=by
 obtain⟨c,d,_,f⟩:=Fx ek n g h rfl i;exact⟨c,d,f.resolve_left j⟩
def lA.x6(D:lA Q):Q.underlying 260=some (.pointer 90):=by rw[D.S.under];exact aK.x6
def lA.rF(D:lA Q):Q.underlying 21=some (.int .i32):=by rw[D.S.under];exact aK.rF
def aK.i21:(aK.info? 21).map (·.size)=some 1:=av
def lA.i21(D:lA Q):∃i,Q.info? 21=some i/\i.size=1:=by
 have h:=aK.i21;have e:Q.info? 21=aK.info? 21:=D.S.info 21;rw[e];cases x:aK.info? 21 with
 |none=>rw[x]at h;cases h
 |some i=>rw[x]at h;exact⟨i,rfl,by simpa using h⟩
def aK.x7:∃m,aK.underlying 81=some (.interface m):=⟨#[("Error",274)],av⟩
def lA.x7(D:lA Q):∃m,Q.underlying 81=some (.interface m):=by obtain⟨m,h⟩:=aK.x7;exact⟨m,by rw[D.S.under];exact h⟩
def zC{i:Frame}(h:cN K ρ i g):Kept i/\Kept g:=by
 refine⟨λe j f=>?_,λe j f=>?_⟩
 .have:=h.mode
  rw[f]at this;generalize g.mode=l at this;cases this with
  |panicking d=>
   cases d with
   |cons c _=>exact c.recovered.1
 .have:=h.mode
  rw[f]at this;generalize i.mode=l at this;cases this with
  |panicking d=>
   cases d with
   |cons c _=>exact c.recovered.2
def HO{f:Frame}(h:cN K ρ f c)(g:S8 kd){d:Value}(i:aQ ρ v d):cN K ρ (eU kd f v) (eU kd c d):=by
 unfold eU;rcases g with rfl|rfl
 .exact qX h i
 .exact h
def xO{d g3:List Frame}{h:Value}{f:World}(D:lA Q)(r:e3 Q f0 R V)(z:Self Q V)(H:V.fr.mode=.run)(F:V.cs=c::d)(hrel:m4 aH ρ)(P:∀b,aH b->b<w.heap.size)(J:Fit Q ρ)(U:ρ.room=true)(C:cN K ρ c g)(E:cK (cN K ρ) d g3)(M:S8 kd)(Y:aQ ρ v h)(X:w.heap.size<=u.heap.size)(L:gm ρ f u)(I:fQ ie ρ v0 f aL u)(S:runN Q n V.m=.next (lone (eU kd c v) (d++[wall]) f))(W:cc aK aH gs (S6 (eU kd g h) (g3++base)) u t 0)(cont:∀i b4 l j bm w' bh,dZ Q b4 V->m0 K f0 R aH i b4 l j base bm w' bh->m2 K i b4 l j w'->fQ ie i v0 b4.w aL w'->S7 aK G bm w' bh):S7 aK G gs u t:=by
 have T:V≠⟨eU kd c v,d,f⟩:=λe=>by have:=congrArg dt.cs e;rw[F]at this;exact absurd (congrArg List.length this) aF
 obtain⟨o,p,q⟩:=OT D.ek r z (p8 H) S T;exact cont ρ ⟨eU kd c v,d,f⟩ (eU kd g h) g3 gs u t q ⟨o,p,hrel,λb B=>gu (P b B) X,W⟩ ⟨J,U,HO C M Y,E,L⟩ I
def sN(a:Array Value)(h:a.size=1):a=#[a[0]]:=by
 apply Array.ext
 .simp[h]
 .intro i c d
  have:i=0:=U;subst this;rfl
def Sj{V:World}{bO c:Addr}(u:gm ρ V w)(h:ds ρ bO c){x:Int}(o:V.cell? bO=some (.int .i32 x))(p:V.frozen? bO=false)(y:Int):
 ∃b m e n,c=⟨b,m,none⟩/\w.shape? b=some (e,n)/\m<n/\w.cell? ⟨b,m,none⟩=some (.int .i32 x)/\w.frozen? ⟨b,m,none⟩=false/\gm ρ (V.setCell bO (.int .i32 y)) (w.setCell ⟨b,m,none⟩ (.int .i32 y))/\fQ ρ ρ V (V.setCell bO (.int .i32 y)) w (w.setCell ⟨b,m,none⟩ (.int .i32 y)):=by
 have j:=u.yg;have d:(dM V (hU V w)).cell? bO=some (.int .i32 x):=o;have r:(dM V (hU V w)).frozen? bO=false:=p;rcases yT j h with⟨v,E,I,g,C⟩|I
 .rw[d]at I
  cases I;cases C;obtain⟨e,n,B,z,i⟩:=World.shape?_of_cell? g;obtain⟨_,q,_,D,he⟩:=A5 j h (aQ.int (ρ:=ρ) .i32 y) d r;obtain⟨b,m,sp⟩:=c;dsimp only at i;cases sp with
  |some s=>cases i
  |none=>
   have f:=D.hrel;exact⟨b,m,e,n,rfl,B,z,g,q,⟨f.obj,f.lim,f.js⟩,⟨he.le,λb l x=>(he.new b l x).imp id And.right,he.size,he.out,he.guard,he.tape,he.output,by rw[he.os];exact OsLater.refl _⟩⟩
 .rw[d]at I;cases I
def FE(D:lA Q):∀aH ρ V bo cs' gs w t,(∀f a kd,K.fn f->V.fr=Frame.enter Q f a kd->f=71\/f=128\/f=129)->m0 K f0 R aH ρ V bo cs' base gs w t->yl K ρ V bo cs' w->fQ ie ρ v0 V.w aL w->
 (∀ao b4 au ap bm w' bh,dZ Q b4 V->m0 K f0 R aH ao b4 au ap base bm w' bh->m2 K ao b4 au ap w'->fQ ie ao v0 b4.w aL w'->S7 aK G bm w' bh)->S7 aK G gs w t:=by
 intro aH ρ V bo cs' gs w t aE g he h cont;obtain⟨ax,aC,⟨f,a,b,kd,aJ,j,W,af,rfl,ad⟩,aA,av,J⟩:=he;obtain⟨S,r,P,g3,E,rfl,ae,aw⟩:∃S r P g3,V.cs=S::r/\cs'=P::g3/\cN K ρ S P/\cK (cN K ρ) r g3:=by
  generalize V.cs=l at av aA;cases av with
  |nil=>exact absurd rfl aA
  |@cons x y l m aS aT=>exact⟨_,_,_,_,rfl,rfl,aS,aT⟩
 obtain⟨cF,al⟩:=zC ae;have az:V.fr.mode=.run:=by rw[af];rfl
 have hC:2<=(V.cs++[wall]).length:=by rw[E];simp
 have A:=g.going.fA (aR:=V.w.tape) (λ_ _=>rfl);have T:dz Q V.m (lone (Frame.enter Q f a kd) (V.cs++[wall]) V.w):=by rw[<-af];exact A
 have B:=g.st;have mutex:∀(x y:Int) (n:Nat) (Y:Func),a.size=1->Q.funcs[f]?=some Y->Y.results=#[]->(∀z,Frame.enter Q f #[z] kd=⟨f,#[z]++Array.replicate (n+3) undef,[.code (tc x y)],[],.run,kd,none⟩)->
  (∀(c m:Nat) (e n:Nat) (am:World),am=w->w.shape? c=some (e,n)->m<n->w.cell? ⟨c,m,none⟩=some (.int .i32 x)->w.frozen? ⟨c,m,none⟩=false->
   cc aK aH gs (S6 (Frame.enter aK f #[.pointer (some ⟨c,m,none⟩)] kd) (P::(g3++base))) w t 0->
   (∀gs d t,cc aK aH gs (S6 (eU kd P (.tuple #[])) (g3++base)) ((w.setCell ⟨c,m,none⟩ (.int .i32 y)).at d) t 0->S7 aK G gs ((w.setCell ⟨c,m,none⟩ (.int .i32 y)).at d) t)->S7 aK G gs w t)->S7 aK G gs w t:=by
  intro x y n Y aD ay aB aI run;have aq:=sN a aD;have ai:b.size=1:=by rw[<-W.1];exact aD
  have ar:=sN b ai;generalize a[0]'U=p at aq;generalize b[0]'U=q at ar;subst aq;subst ar;have X:aQ ρ p q:=W.2 0 p q rfl rfl;rw[aI p]at T;obtain⟨i,aN,aO⟩:=D.i21;obtain⟨bO,fo,rfl,H,I,C⟩:=QD (x:=p) D.x6 D.rF aN aO (λbO hp aV=>by
   subst hp;cases X with
   |ptr aa=>
    exact zd (Q:=Q) J.yg aa false) ⟨r5,cH⟩ T hC j
  cases X with
  |ptr aa=>
   obtain⟨c,m,e,c9,rfl,M,L,aG,aM,ah,o⟩:=Sj J aa H I y;refine run c m e c9 w rfl M L aG aM B λgs d t aj sl=>?_
   have aP:w.heap.size<=((w.setCell ⟨c,m,none⟩ (.int .i32 y)).at d).heap.size:=by show w.heap.size<=(w.setCell _ _).heap.size;simp
   have ag:l2 Q kd ((⟨f,fo,[.code .ret],[],.returning,kd,none⟩:Frame),[]) []=some (.tuple #[],[]):=by
    unfold l2;rcases j with rfl|rfl
    .simp only[ay]
     unfold results;rw[aB];kernel_rfl
    .simp only[ay]
     unfold results;rw[aB];kernel_rfl
   have F:V.cs++[wall]=S::(r++[wall]):=by rw[E];rfl
   rw[F]at C;have ak:=(oY (main:=true) (st:=.running) (off:=none) ag (rest:=r++[wall]) cF (Does.nil (V.w.setCell bO (.int .i32 y)))).2;obtain⟨N,Z⟩:=(C.go (by rw[<-F];exact hC) ak).1;exact xO D g.going g.self az E g.rel g.low ax aC ae aw j tk aP ⟨ah.obj,ah.lim,ah.js⟩ (h.trans ⟨o.le,o.new,o.size,o.out,o.guard,o.tape,o.output,o.os⟩) Z aj cont sl
 rcases aE f a kd aJ af with rfl|rfl|rfl
 .obtain⟨p,y,rfl⟩:∃x y,a=#[x,y]:=⟨_,_,two a (ad 2 D.eb.1)⟩
  have ai:b.size=2:=by rw[<-W.1];rfl
  obtain⟨q,aU,rfl⟩:∃x y,b=#[x,y]:=⟨_,_,two b ai⟩
  have X:aQ ρ p q:=W.2 0 p q rfl rfl;rw[JZ D.f75 p y]at T;obtain⟨rfl,C⟩:=QC D.x7 (x:=p) r5 aF T hC j;cases X;refine HC j al aU B λgs d t aj sl=>?_
  have ag:l2 Q kd ((⟨71,((#[.nilIface,y]++Array.replicate 40 undef).setIfInBounds 2 (.bool true)).setIfInBounds 4 (.bool false),[.code .ret],[],.returning,kd,none⟩:Frame),[]) []=some (.bool false,[]):=by
   unfold l2;rcases j with rfl|rfl
   .simp only[D.f75]
    kernel_rfl
   .simp only[D.f75]
    kernel_rfl
  have F:V.cs++[wall]=S::(r++[wall]):=by rw[E];rfl
  rw[F]at C;have ak:=(oY (main:=true) (st:=.running) (off:=none) ag (rest:=r++[wall]) cF (Does.nil V.w)).2;obtain⟨N,Z⟩:=(C.go (by rw[<-F];exact hC) ak).1;exact xO D g.going g.self az E g.rel g.low ax aC ae aw j (aQ.bool _) (u:=w.at d) (show w.heap.size<=w.heap.size from bg) ⟨J.obj,J.lim,J.js⟩ ⟨h.le,h.new,h.size,h.out,h.guard,h.tape,h.output,h.os⟩ Z aj cont sl
 .exact mutex 0 1 9 sX (ad 1 D.eb.2.1) D.f141 rfl (λz=>by unfold Frame.enter;rw[D.f141];rfl) λc m e n am _ M L H I B k=>LQ (bK:=(e,n)) j al M L H I B k
 .exact mutex 1 0 17 sY (ad 1 D.eb.2.2) D.f142 rfl (λz=>by unfold Frame.enter;rw[D.f142];rfl) λc m e n am _ M L H I B k=>RH (bK:=(e,n)) j al M L H I B k
end
section
variable{Q:Program}{K:g8 Q aK}{G:Machine->Outcome->World->Trace->Prop}
abbrev iG:=List (Nat×Obj×Obj)
def h9(lim:Nat)(bn:iG):World:={heap:=Array.replicate lim (.cells #[] 0 (0,0))++(bn.map (·.2.1)).toArray,tape:=λ_ _=>0,drawn:=0,os:=default,output:=#[]}
def sw(lim:Nat)(bn:iG):(h9 lim bn).heap.size=lim+bn.length:=by simp[h9]
def lI{bn:iG}(h:bn[i]?=some x):(h9 lim bn).heap[lim+i]?=some x.2.1:=by show(Array.replicate lim (Obj.cells #[] 0 (0,0))++(bn.map (·.2.1)).toArray)[lim+i]?=_;rw[Array.getElem?_append_right aF];simp[h]
structure iX(lim:Nat)(bn:iG):Prop where
 bZ:∀(i j:Nat) x y,bn[i]?=some x->bn[j]?=some y->x.1=y.1->i=j
 ge:∀x∈bn,lim<=x.1
def iX.get{bn:iG}(h:iX lim bn)(e:bn[i]?=some x):lim<=x.1:=h.ge x (hk e)
def oX(Q:Program)(e:TypeId):Nat:=max (Q.cellsOf e) (if e=3\/e=67 then 18446744073709551616 else 0)
noncomputable def ho(Q:Program)(bn:iG)(h:iX Q.globals.size bn):Ren where
 r a b:=∃i x,bn[i]?=some x/\a=Q.globals.size+i/\b=x.1
 fwd:=by rintro a b c ⟨i,x,d,rfl,rfl⟩ ⟨j,y,f,e,rfl⟩;obtain rfl:i=j:=U;rw[d]at f;cases f;rfl
 bwd:=by rintro a b c ⟨i,x,d,rfl,rfl⟩ ⟨j,y,f,rfl,e⟩;rw[h.bZ i j x y d f e]
 lim:=Q.globals.size
 low:=by rintro a b ⟨i,x,d,rfl,rfl⟩;have:=h.get d;omega
 exact:=false
 cells:=oX Q
 cW:=λc=>codeOk Q true c=true
 room:=true
 eb:=eK Q
 fu:=ni Q
def uo{bn:iG}{h:iX Q.globals.size bn}(e:bn[i]?=some x):(ho Q bn h).r (Q.globals.size+i) x.1:=⟨i,x,e,rfl,rfl⟩
noncomputable def zy(Q:Program)(bn:iG):Ren where
 r a b:=a=b/\Q.globals.size<=a/\a<Q.globals.size+bn.length
 fwd:=by rintro a b c ⟨rfl,_⟩ ⟨rfl,_⟩;rfl
 bwd:=by rintro a b c ⟨rfl,_⟩ ⟨rfl,_⟩;rfl
 lim:=Q.globals.size
 low:=by rintro a b ⟨rfl,_⟩;exact Iff.rfl
 exact:=false
 cells:=Q.cellsOf
 cW:=λc=>codeOk Q true c=true
 room:=true
 eb:=eK Q
 fu:=ni Q
def K7{bn:iG}{h:iX Q.globals.size bn}{a b:Nat}(k:(ho Q bn h).r a b):(zy Q bn).r a a:=by obtain⟨i,x,e,rfl,rfl⟩:=k;have:=(List.getElem?_eq_some_iff.1 e).1;exact⟨rfl,U,U⟩
def x'(q:∀a b,ρ.r a b->ai.r a a)(r:ai.eb=ρ.eb/\ai.fu=ρ.fu){w:Value}(x:aQ ρ v w):aQ ai v v:=by
 induction x with
 |ptr a=>exact .ptr ⟨q _ _ a.block,rfl,rfl⟩
 |slice a l c=>exact .slice ⟨q _ _ a.block,rfl,rfl⟩ l c
 |ju u D=>exact .ju (r.2.trans u) D
 |map a=>exact .map (q _ _ a)
 |@func f g a b c d fr B _ G _ E F=>
  refine .func ?_ rfl (λi x y h j=>?_) rfl (λi x y h j=>?_)
  .cases fr with
   |func f C=>exact .func f (by rw[r.1];exact C)
   |yield k=>exact .yield (q _ _ k)
  .rw[h]at j;cases j
   obtain⟨z,o⟩:∃z,b[i]?=some z:=⟨_,fb (by have:=bu h;omega)⟩
   exact E i x z h o
  .rw[h]at j;cases j
   obtain⟨z,o⟩:∃z,d[i]?=some z:=⟨_,fb (by have:=bu h;omega)⟩
   exact F i x z h o
 |iface t _ p=>exact .iface t p
 |@agg a b B _ p=>exact .agg rfl (λi x y h j=>by
  rw[h]at j;cases j;obtain⟨z,o⟩:∃z,b[i]?=some z:=⟨_,fb (by have:=bu h;omega)⟩
  exact p i x z h o)
 |@tuple a b B _ p=>exact .tuple rfl (λi x y h j=>by
  rw[h]at j;cases j;obtain⟨z,o⟩:∃z,b[i]?=some z:=⟨_,fb (by have:=bu h;omega)⟩
  exact p i x z h o)
 |gI _ _=>exact .tuple rfl (λi x y h=>by simp at h)
 |k9 u=>exact .k9 (r.2.trans u)
 |_=>constructor
def Bl(g:∀a b,ρ.r a b->ai.r a a)(f:ai.eb=ρ.eb/\ai.fu=ρ.fu)(x:bQ ρ a b):bQ ai a a:=⟨rfl,λi y z d c=>by
 rw[d]at c;cases c;obtain⟨z,c⟩:∃z,b[i]?=some z:=⟨_,fb (by have:=bu d;have:=x.1;omega)⟩
 exact x' g f (x.2 i y z d c)⟩
def nM:Obj->Prop
 |.cells ..=>True
 |.map ..=>True
 |_=>False
def MH(q:∀a b,ρ.r a b->ai.r a a)(p:ai.eb=ρ.eb/\ai.fu=ρ.fu){o u:Obj}(D:nM o)(x:eZ ρ o u)(E:∀c e f d w B,o=.cells c e f->u=.cells d w B->c.size<=d.size):eZ ai o o:=by
 cases x with
 |@cells c d e f g F C G=>
  refine .cells (.inl rfl) (λi x y j l=>?_) (.inl rfl);rw[j]at l;cases l;have:=E _ _ _ _ _ _ rfl rfl;obtain⟨z,r⟩:∃z,d[i]?=some z:=⟨_,fb (by have:=bu j;omega)⟩
  exact x' q p (C i x z j r)
 |@map es ba h c=>
  refine .map ⟨rfl,λi x y j l=>?_⟩ c;rw[j]at l;cases l;obtain⟨z,r⟩:∃z,ba[i]?=some z:=⟨_,fb (by have:=bu j;have:=h.1;omega)⟩
  have k:=h.2 i x z j r;exact⟨x' q p k.key,x' q p k.val,rfl⟩
 |_=>exact D.elim
def K6(D:lA Q)(o5:je Q=none){bn:iG}(br:iX Q.globals.size bn)(E:∀x∈bn,nM x.2.1/\eZ (ho Q bn br) x.2.1 x.2.2/\∀c e f d l q,x.2.1=.cells c e f->x.2.2=.cells d l q->c.size<=d.size)(B:bQ (ho Q bn br) a b)(C:eK Q f=none)(z:e3 Q f R ⟨Frame.enter Q f a .normal,[],h9 Q.globals.size bn⟩):Self Q ⟨Frame.enter Q f a .normal,[],h9 Q.globals.size bn⟩:=by
 have j:∀a b,(ho Q bn br).r a b->(zy Q bn).r a a:=λ_ _ h=>K7 h
 refine⟨zy Q bn,⟨⟨rfl,λ_=>bg,rfl,rfl⟩,rfl,λb e=>by rw[o5]at e;cases e⟩,rfl,?_,.nil,?_,λ_ _=>rfl,?_,?_⟩
 .rcases x4 (pP (K:=jv Q) D.ek f (Bl j ⟨rfl,rfl⟩ B) (λn e=>by have e:eK Q f=some n:=e;rw[C]at e;cases e) .normal (.inl rfl))with h|⟨J,h,hm⟩
  .exact h
  .obtain⟨o,w2,G,p⟩:=rm (Q:=Q) (V:=⟨Frame.enter Q f a .normal,[],h9 Q.globals.size bn⟩) h hm (h9 Q.globals.size bn)
   exact(z.live (aR:=(h9 Q.globals.size bn).tape) (λ_ _=>rfl) (p8 hm) p).elim
 .rintro b F ⟨rfl,H,I⟩
  obtain⟨i,rfl⟩:∃i,b=Q.globals.size+i:=⟨b-Q.globals.size,U⟩
  obtain⟨x,g⟩:∃x,bn[i]?=some x:=⟨_,List.getElem?_eq_getElem U⟩
  obtain⟨r,u,w⟩:=E x (hk g);exact⟨_,_,lI g,lI g,MH j ⟨rfl,rfl⟩ r u w⟩
 .show Q.globals.size<=(h9 Q.globals.size bn).heap.size
  rw[sw];omega
 .show Q.globals.size<=(h9 Q.globals.size bn).heap.size
  rw[sw];omega
def DN(D:lA Q)(H:fe (fj K) Q aK)(U:∀f,K.fn f->f=71\/f=128\/f=129)(au:∀f a b,¬K.db f a b)(o5:je Q=none){bn:iG}(br:iX Q.globals.size bn)(I:∀x∈bn,nM x.2.1/\eZ (ho Q bn br) x.2.1 x.2.2/\∀c e f d P j,x.2.1=.cells c e f->x.2.2=.cells d P j->c.size<=d.size)(af:¬K.fn f)(B:bQ (ho Q bn br) a b)(C:eK Q f=none)(aa:∀w:World,w.heap=(h9 Q.globals.size bn).heap->w.drawn=0->Calls Q f a w λe w'=>∃v,e=.returned v/\R v w')(aF:Kept c)(hu:∀x∈bn,u.heap[x.1]?=some x.2.2/\¬aH x.1)(ap:∀b,aH b->b<u.heap.size)(am:Q.globals.size<=u.heap.size)(Y:cc aK aH gs (S6 (Frame.enter aK f b .normal) (c::cs)) u t 0)(k:∀bm aC bh ai v g dI,R v dI->aQ ai v g->gm ai dI aC->fQ (ho Q bn br) ai (h9 Q.globals.size bn) dI u aC->m4 aH ai->(∀b,aH b->b<aC.heap.size)->
  cc aK aH bm (S6 (c.finish g) cs) aC bh 0->S7 aK G bm aC bh):S7 aK G gs u t:=by
 have p:e3 Q f R ⟨Frame.enter Q f a .normal,[],h9 Q.globals.size bn⟩:=e3.z8 λaR _=>aa (dM (h9 Q.globals.size bn) aR) rfl rfl
 have X:=K6 D o5 br I B C p;have ak:gm (ho Q bn br) (h9 Q.globals.size bn) u:=by refine⟨?_,by show Q.globals.size<=_;rw[sw];omega,am⟩;rintro b r ⟨i,x,e,rfl,rfl⟩;exact⟨_,_,lI e,(hu x (hk e)).1,(I x (hk e)).2.1⟩
 have ah:cN K (ho Q bn br) (Frame.enter Q f a .normal) (Frame.enter aK f b .normal):=by
  have l:=pP (K:=K) H f B (λn e=>by have e:eK Q f=some n:=e;rw[C]at e;cases e) .normal (.inl rfl);generalize L:Frame.enter Q f a .normal=x at l;generalize aJ:Frame.enter aK f b .normal=y at l;cases l with
  |plain h=>exact h
  |refused aM h hm=>
   rw[<-L]at h hm;obtain⟨o,w2,aB,S⟩:=rm (Q:=Q) (V:=⟨Frame.enter Q f a .normal,[],h9 Q.globals.size bn⟩) h hm (h9 Q.globals.size bn);exact(p.live (aR:=(h9 Q.globals.size bn).tape) (λ_ _=>rfl) (p8 hm) S).elim
  |@sh j aA r kd h F _ _=>
   have e:=congrArg Frame.fn L;have:f=j:=e;subst this;exact(af h).elim
 have hrel:m4 aH (ho Q bn br):=by rintro b r ⟨i,x,e,rfl,rfl⟩;exact(hu x (hk e)).2
 refine λsl=>m0.go (base:=c::cs) (ie:=ho Q bn br) (v0:=h9 Q.globals.size bn) (aL:=u) (R:=R) D.S D.ek H au (Ok:=λen=>en=aH) ?_ ?_ rfl ⟨p,X,hrel,ap,Y⟩ ⟨⟨⟨rfl,λ_=>Nat.le_max_left _ _,rfl,rfl⟩,rfl,λb e=>by rw[o5]at e;cases e⟩,rfl,ah,.nil,ak⟩ (fQ.refl _ _ _) sl
 .intro en ρ V bo cs' gs w t q al he E cont
  subst q;exact FE D en ρ V bo cs' gs w t (λf _ _ h _=>U f h) al he E (λaz b4 T M bm w' bh=>cont en az b4 T M bm w' bh rfl)
 .intro en ρ V bo gs w t q aE aI ao E av F aD aq sl
  subst q;refine av.step (λd=>?_) sl;obtain⟨v,g,ai,dI,aG,es,W,ax,aw,aj,ag,ar,J,ae,ad⟩:=aq d;refine⟨(S6 (c.finish g) cs),aG,es,?_,rfl,J,ae,λbm bh ay z=>?_⟩
  .rw[aw]
   simp[GStep.after,doReturn,F]
  .rw[ad]at z
   exact k bm aG bh ai v g dI W ax aj ag ar (λb Z=>gu (ao b Z) J) z ay
end
end Go.aO
namespace Go.aO
attribute [-simp] Go.Sem.runT_eq
open Go.Proofs Go.Conc Go.ConcN
variable{M b7:Mem}
section
variable{bF:Machine->Outcome->World->Trace->Prop}{aH:Nat->Prop}{aL u aC:World}{gs:Array Goroutine}{t:Trace}{c:Frame}{cs:List Frame}
def bN.app{Pos m3 p:Type}{A:de Pos}{kv:de m3}{BC:de p}{en:Nat->Prop}(h:bN A aH aL u M)(k:bN kv en u aC b7)(C:∀b,b<u.heap.size->en b->aH b):bN BC en aL aC (M++b7):=by
 have cs:∀(i:Nat) own b o,(M++b7)[i]?=some (own,b,o)->(i<M.length/\M[i]?=some (own,b,o))\/(M.length<=i/\b7[i-M.length]?=some (own,b,o)):=λi own b o e=>by
  rcases Nat.lt_or_ge i M.length with ad|ad
  .rw[jz ad]at e;exact .inl ⟨ad,e⟩
  .rw[jb ad]at e;exact .inr ⟨ad,e⟩
 have lt:∀(i:Nat) own b o,M[i]?=some (own,b,o)->b<u.heap.size:=λi own b o e=>gL h.mem e
 refine⟨⟨λi own b o e=>?_,λi j own b o l f g c d z=>?_⟩,λb w=>?_,h.calm.trans k.calm,λi own b o e=>?_,k.ej⟩
 .rcases cs i own b o e with⟨_,e⟩|⟨_,e⟩
  .exact(k.old b (lt i own b o e)).trans (h.mem.has i own b o e)
  .exact k.mem.has _ own b o e
 .rcases cs i own b o c with⟨q,c⟩|⟨q,c⟩<;>rcases cs j l f g d with⟨r,d⟩|⟨r,d⟩
  .exact h.mem.fL i j _ _ _ _ _ _ c d z
  .have:=lt i own b o c
   have:=(k.fi _ _ _ _ d).1;omega
  .have:=lt j l f g d
   have:=(k.fi _ _ _ _ c).1;omega
  .exact k.mem.fL _ _ _ _ _ _ _ _ c d U
 .have:=h.calm.size
  exact(k.old b U).trans (h.old b w)
 .rcases cs i own b o e with⟨_,e⟩|⟨_,e⟩
  .exact⟨(h.fi i own b o e).1,λB=>(h.fi i own b o e).2 (C b (lt i own b o e) B)⟩
  .have:=k.fi _ own b o e
   have:=h.calm.size;exact⟨U,(k.fi _ own b o e).2⟩
def bN.start{Pos:Type}{A:de Pos}(u:World)(c:∀b,aH b->b<u.heap.size):bN A aH u u []:=
 ⟨⟨λi own b o e=>by simp at e,λi j own b o g d f e=>by simp at e⟩,λ_ _=>rfl,Calm.refl u,λi own b o e=>by simp at e,c⟩
def bN.to{Pos m3:Type}{A:de Pos}{kv:de m3}(h:bN A aH aL u M):bN kv aH aL u M:=⟨h.mem,h.old,h.calm,h.fi,h.ej⟩
def bN.cast{Pos m3:Type}{A:de Pos}{kv:de m3}(h:bN A aH aL u M)(e:M=b7):bN kv aH aL u b7:=by subst e;exact h.to
def bN.tail{Pos m3:Type}{A:de Pos}{kv:de m3}{x:Bool×Nat×Obj}(h:bN A aH aL u (x::M)):bN kv aH aL u M:=
 (h.sub (kv:=A) (λi own b o e=>⟨i+1,own,e⟩) (λi j own b o l c g d f p=>h.mem.fL (i+1) (j+1) own b o l c g d f U)).to
def bN.none{Pos m3:Type}{A:de Pos}{kv:de m3}(h:bN A aH aL u M):bN kv aH aL u []:=
 (h.sub (kv:=A) (b7:=[]) (λi own b o e=>by simp at e) (λi j own b o g d f c=>by simp at c)).to
structure yB where
 l:Nat
 z:eG
 M:Mem
def f'(z:eG):Value:=.agg #[ah 2,sl z.F 2,sl z.R 2,sl z.Fr 1]
def iE(z:eG):Mem:=[(true,z.F,.cells #[ah 2,ah 1] 3 (0,0)),(true,z.gx,.cells #[ah 1,ah 2] 3 (0,0)),(true,z.gy,.cells #[ah 3,ah 1] 3 (0,0)),(true,z.R,.cells #[ah 0,sl z.gx 2,ah 2,sl z.gy 2] 27 (0,0)),(true,z.Fr,.cells #[ah 3] 3 (0,0))]
def Q3:yB->List (Edge yB)
 |⟨0,z,M⟩=>[.new true (.cells #[i0,dg,dg,dg] 25 (0,0)) λb=>⟨1,z,M++[(true,b,.cells #[i0,dg,dg,dg] 25 (0,0))]⟩]
 |⟨1,z,M⟩=>[.new true (.cells #[ah 2,ah 1] 3 (0,0)) λb=>⟨2,{z with F:=b},M++[(true,b,.cells #[ah 2,ah 1] 3 (0,0))]⟩]
 |⟨2,z,M⟩=>[.new true (.cells #[ah 1,ah 2] 3 (0,0)) λb=>⟨3,{z with gx:=b},M++[(true,b,.cells #[ah 1,ah 2] 3 (0,0))]⟩]
 |⟨3,z,M⟩=>[.new true (.cells #[ah 3,ah 1] 3 (0,0)) λb=>⟨4,{z with gy:=b},M++[(true,b,.cells #[ah 3,ah 1] 3 (0,0))]⟩]
 |⟨4,z,M⟩=>[.new true (.cells #[ah 0,sl z.gx 2,ah 2,sl z.gy 2] 27 (0,0)) λb=>⟨5,{z with R:=b},M++[(true,b,.cells #[ah 0,sl z.gx 2,ah 2,sl z.gy 2] 27 (0,0))]⟩]
 |⟨5,z,M⟩=>[.new true (.cells #[ah 3] 3 (0,0)) λb=>⟨6,{z with Fr:=b},M++[(true,b,.cells #[ah 3] 3 (0,0))]⟩]
 |⟨6,z,M⟩=>[.bL [.st 0 0 (ah 2),.st 0 1 (sl z.F 2),.st 0 2 (sl z.R 2),.st 0 3 (sl z.Fr 1)] ⟨7,z,c0 M [.st 0 0 (ah 2),.st 0 1 (sl z.F 2),.st 0 2 (sl z.R 2),.st 0 3 (sl z.Fr 1)]⟩]
 |⟨7,z,_⟩=>[.k' [.ld 0 0,.ld 0 1,.ld 0 2,.ld 0 3] (f' z)]
 |_=>[]
noncomputable def pf:de yB:=⟨Tryz.prog,hv,λ_=>false,.normal,λp=>p.M,λ_=>400,Q3⟩
def qs:dn pf.P pf.ext:=by unfold pf;exact j8
set_option maxRecDepth 100000 in
def Q5(T:Nat):Good pf 20 ⟨0,⟨T,0,0,0,0,0⟩,[]⟩ (Frame.enter Tryz.prog 21 #[] .normal,[]):=by all_goals exact fX
def rB(q:Kept c)(r:∀b,aH b->b<u.heap.size)(o:cc aK aH gs (S6 (Frame.enter aK 21 #[] .normal) (c::cs)) u t 0)(k:∀bm aC bh z,bN pf aH u aC (iE z)->cc aK aH bm (S6 (c.finish (f' z)) cs) aC bh 0->S7 aK bF bm aC bh):S7 aK bF gs u t:=by
 have d:∀p,pf.dh p<=400:=λ_=>bg
 have b6:dK pf (c::cs) aH u gs u t ⟨0,⟨0,0,0,0,0,0⟩,[]⟩ (Frame.enter aK 21 #[] .normal,[]) 20 400:=⟨⟨_,Q5 0,rfl⟩,bg,bN.start u r,o⟩
 refine b6.new qs d (.head _) λH Q t1 X j s1=>?_
 refine s1.new qs d (.head _) λI S t2 Y F s2=>?_
 refine s2.new qs d (.head _) λJ nE t3 Z g w=>?_
 refine w.new qs d (.head _) λK T t4 aa h B=>?_
 refine B.new qs d (.head _) λL U t5 ad R C=>?_
 refine C.new qs d (.head _) λM V t6 ae f D=>?_
 refine D.bL qs d (.head _) λP W t7 af E=>?_
 refine E.k' qs q (.head _) λl G t8 ed i=>?_
 exact k l G t8 ⟨0,F,R,g,h,f⟩ (bN.tail (x:=(true,j,.cells #[ah 2,sl F 2,sl R 2,sl f 1] 25 (0,0))) (A:=pf) (ed.cast av)) i
structure yA where
 l:Nat
 M:Mem
def ou:Obj:=.cells #[i0,i0] 29 (0,0)
def Qm:yA->List (Edge yA)
 |⟨0,M⟩=>[.new true (.cells #[i0,i0,i0,i0,i0] 31 (0,0)) λb=>⟨1,M++[(true,b,.cells #[i0,i0,i0,i0,i0] 31 (0,0))]⟩]
 |⟨1,M⟩=>[.new true ou λb=>⟨2,M++[(true,b,ou)]⟩]
 |⟨2,M⟩=>[.bL [.st 1 0 (ah 20),.st 1 1 (ah 26)] ⟨3,c0 M [.st 1 0 (ah 20),.st 1 1 (ah 26)]⟩]
 |⟨3,M⟩=>[.bL [.ld 1 0,.ld 1 1] ⟨4,c0 M [.ld 1 0,.ld 1 1]⟩]
 |⟨4,M⟩=>[.new true ou λb=>⟨5,M++[(true,b,ou)]⟩]
 |⟨5,M⟩=>[.bL [.st 2 0 (ah 46),.st 2 1 (ah 50)] ⟨6,c0 M [.st 2 0 (ah 46),.st 2 1 (ah 50)]⟩]
 |⟨6,M⟩=>[.bL [.ld 2 0,.ld 2 1] ⟨7,c0 M [.ld 2 0,.ld 2 1]⟩]
 |⟨7,M⟩=>[.bL [.st 0 0 (ah 0),.st 0 1 (ah 20),.st 0 2 (ah 26),.st 0 3 (ah 46),.st 0 4 (ah 50)] ⟨8,c0 M [.st 0 0 (ah 0),.st 0 1 (ah 20),.st 0 2 (ah 26),.st 0 3 (ah 46),.st 0 4 (ah 50)]⟩]
 |⟨8,_⟩=>[.k' [.ld 0 0,.ld 0 1,.ld 0 2,.ld 0 3,.ld 0 4] (.agg dC)]
 |_=>[]
noncomputable def tb:de yA:=⟨Tryz.prog,hv,λ_=>false,.normal,λp=>p.M,λ_=>400,Qm⟩
def pq:dn tb.P tb.ext:=by unfold tb;exact j8
set_option maxRecDepth 100000 in
def Qn:Good tb 20 ⟨0,[]⟩ (Frame.enter Tryz.prog 23 #[] .normal,[]):=by all_goals exact fX
def uW(h:Kept c)(i:∀b,aH b->b<u.heap.size)(g:cc aK aH gs (S6 (Frame.enter aK 23 #[] .normal) (c::cs)) u t 0)(k:∀bm aC bh,bN pf aH u aC []->cc aK aH bm (S6 (c.finish (.agg dC)) cs) aC bh 0->S7 aK bF bm aC bh):S7 aK bF gs u t:=by
 have d:∀p,tb.dh p<=400:=λ_=>bg
 have b6:dK tb (c::cs) aH u gs u t ⟨0,[]⟩ (Frame.enter aK 23 #[] .normal,[]) 20 400:=⟨⟨_,Qn,rfl⟩,bg,bN.start u i,g⟩
 refine b6.new pq d (.head _) λF P t1 W C s1=>?_
 refine s1.new pq d (.head _) λG Q t2 X D s2=>?_
 refine s2.bL pq d (.head _) λH nE t3 Y l=>?_
 refine l.bL pq d (.head _) λI R t4 Z o=>?_
 refine o.new pq d (.head _) λJ S t5 aa E q=>?_
 refine q.bL pq d (.head _) λK T t6 ad r=>?_
 refine r.bL pq d (.head _) λL U t7 ae w=>?_
 refine w.bL pq d (.head _) λM V t8 af z=>?_
 refine z.k' pq h (.head _) λf B t9 j a9=>?_
 exact k f B t9 j.none a9
end
end Go.aO
