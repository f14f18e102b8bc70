/- A part. -/
import Derived.Test.YtoebddanaobpaaaGreatDoorP15
set_option maxHeartbeats 8000000
set_option maxRecDepth 100000
set_option linter.all false
namespace Go.aO
attribute [-simp] Go.Sem.runT_eq
open Go.Proofs Tryz Go.Conc Go.ConcN
section
variable{w:S7}{t:Tt}{gs:TR}{bF:TU->T0->S7->Tt->Prop}{aH:TM}{bx:TB}{Tp:Tz}{kd:Tx}{b m:Nat}{bK:Tg×Nat}
def ot(b m:Nat)(bK:Tg×Nat)(kd:Tx):dn (nj b m bK kd).P (nj b m bK kd).ext:=by unfold nj;exact j8
def mW(b m:Nat)(kd:Tx):dn (mT b m kd).P (mT b m kd).ext:=by unfold mT;exact j8
def Sv(kd:Tx):dn (tM kd).P (tM kd).ext:=by unfold tM;exact j8
def GV(c:(w.cell? (S8 b m)).isSome):b<w.heap.size:=by
 refine Nat.lt_of_not_le λd=>?_
 have e:w.heap[b]?=none:=Um d;simp[World.cell?,e]at c
def O0{v:S9}(h:w.shape? b=some bK):(w.setCell (S8 b m) v).shape? b=some bK:=by
 cases d:w.heap[b]? with
 |none=>simp[World.shape?,d]at h
 |some o=>
  cases o with
  |cells c e f=>
   simp only[World.shape?,d]at h;have g:=cU (o:=m) (v:=v) d;simp only[World.shape?,g,Up];exact h
  |_=>simp[World.shape?,d]at h
def LQ(p:TG kd)(E:Kept bx)(B:w.shape? b=some bK)(F:m<bK.2)(l:w.cell? (S8 b m)=some (.int .i32 0))(y:w.frozen? (S8 b m)=false)(i:cc aK aH gs (Tk (Frame.enter aK 134 #[T1 b m] kd) (bx::Tp)) w t 0)(k:∀gs d t,cc aK aH gs (Tk (eU kd bx (.tuple #[])) Tp) ((w.setCell (S8 b m) (.int .i32 1)).at d) t 0->Tu aK bF gs ((w.setCell (S8 b m) (.int .i32 1)).at d) t):Tu aK bF gs w t:=by
 have C:=GV (by rw[l];rfl);have b6:iI (nj b m bK kd) (bx::Tp) aH gs w t 0 .jr (Frame.enter aK 134 #[T1 b m] kd,[]) 10 400:=⟨⟨_,LJ b m bK kd p,S6⟩,bg,i⟩
 refine b6.quiet (ot b m bK kd) λgs d1 t x j a s1 g c=>?_
 obtain rfl:a=9:=U;refine s1.fix (ot b m bK kd) (λ_=>bg) c (he:=.head _) λd2=>⟨_,_,.mark (.mark (.nil _)),bg,λe he=>?_,λgs t x s2=>?_⟩
 .have he:e∈[(⟨.mark .disable,false,true⟩:TL)]:=he
  rw[ev he];exact oM (λx f=>by cases f) Tf
 have s2:iI (nj b m bK kd) (bx::Tp) aH gs (w.at d2) t 1 .jX x 9 400:=s2;refine s2.quiet (ot b m bK kd) λgs d3 t x j a I g c=>?_
 obtain rfl:a=8:=U;refine I.fix (ot b m bK kd) (λ_=>bg) c (he:=.head _) λd4=>⟨((w.at d2).at d3).at d4 |>.setCell ⟨b,m,none⟩ (.int .i32 1),_,.mark (.shape (show(World.at _ d4).shape? b=some bK from B) (.frozen y (.load l (.store l y (.nil _))))),by show w.heap.size<=(w.setCell _ _).heap.size;simp,λe he=>?_,λgs t x h=>?_⟩
 .have he:e∈[(⟨.cell ⟨b,m,none⟩,false,true⟩:TL),⟨.cell ⟨b,m,none⟩,true,true⟩]:=he
  have z:b<(((w.at d2).at d3).at d4 |>.setCell ⟨b,m,none⟩ (.int .i32 1)).heap.size:=by show b<(w.setCell (S8 b m) (.int .i32 1)).heap.size;simpa using C
  rcases List.mem_cons.1 he with rfl|he
  .exact tX z
  .rw[ev he];exact tX z
 have h:iI (nj b m bK kd) (bx::Tp) aH gs ((w.setCell (S8 b m) (.int .i32 1)).at d4) t 1 .h6 x 8 400:=h;show Tu aK bF gs ((w.setCell (S8 b m) (.int .i32 1)).at d4) t;generalize hW:w.setCell (S8 b m) (.int .i32 1)=W at h k ⊢;have G:W.shape? b=some bK:=by rw[<-hW];exact O0 B
 refine h.quiet (ot b m bK kd) λgs d5 t x j a J g c=>?_
 obtain rfl:a=7:=U;refine J.fix (ot b m bK kd) (λ_=>bg) c (he:=.head _) λd6=>⟨_,_,.mark (.mark (.nil _)),bg,λe he=>?_,λgs t x r=>?_⟩
 .have he:e∈[(⟨.mark .enable,false,true⟩:TL)]:=he
  rw[ev he];exact oM (λx f=>by cases f) Tf
 have r:iI (nj b m bK kd) (bx::Tp) aH gs (W.at d6) t 0 .gH x 7 400:=r;refine r.quiet (ot b m bK kd) λgs d7 t x j a K g c=>?_
 have f:=c.jN (he:=.head _);let⟨o,D⟩:=LO b m bK kd p;refine K.fJ.step λd8=>⟨(Tk ((pZ b m bK kd).1.finish (T1 b m)) ((pZ b m bK kd).2++(bx::Tp))),W.at d8,#[],?_,S6,bg,(λe he=>by simp at he),λgs t sl u=>?_⟩
 .rw[f]
  exact Cy D (w:=W.at d8) (e:=bK.1) (n:=bK.2) G F true (bx::Tp) .running none
 have u:iI (nj b m bK kd) (bx::Tp) aH gs (W.at d8) t 0 .aq ((pZ b m bK kd).1.finish (T1 b m),(pZ b m bK kd).2) 10 400:=⟨⟨_,LK b m bK kd p,S6⟩,bg,u⟩
 refine u.quiet (ot b m bK kd) (λgs d9 t x j a L g c=>?_) sl;obtain rfl:a=9:=U;refine L.fix (ot b m bK kd) (λ_=>bg) c (he:=.head _) λd10=>⟨_,_,.mark (.mark (.nil _)),bg,λe he=>?_,λgs t x q=>?_⟩
 .have he:e∈[(⟨.mark (.acquire ⟨b,m,none⟩),false,true⟩:TL)]:=he
  rw[ev he];exact oM (λx f=>by cases f) (by
   have:W.heap.size=w.heap.size:=by rw[<-hW];simp
   show b<W.heap.size;omega)
 have q:iI (nj b m bK kd) (bx::Tp) aH gs (W.at d10) t 0 .fin x 9 400:=q;refine q.quiet (ot b m bK kd) λgs d11 t x j a H g c=>?_
 exact H.leave E c (he:=.head _) λgs d12 t i=>k gs d12 t i
def RH(p:TG kd)(E:Kept bx)(G:w.shape? b=some bK)(F:m<bK.2)(h:w.cell? (S8 b m)=some (.int .i32 1))(D:w.frozen? (S8 b m)=false)(l:cc aK aH gs (Tk (Frame.enter aK 135 #[T1 b m] kd) (bx::Tp)) w t 0)(k:∀gs d t,cc aK aH gs (Tk (eU kd bx (.tuple #[])) Tp) ((w.setCell (S8 b m) (.int .i32 0)).at d) t 0->Tu aK bF gs ((w.setCell (S8 b m) (.int .i32 0)).at d) t):Tu aK bF gs w t:=by
 have z:=GV (by rw[h];rfl);have b6:iI (mT b m kd) (bx::Tp) aH gs w t 0 .ld (Frame.enter aK 135 #[T1 b m] kd,[]) 10 400:=⟨⟨_,Rz b m kd p,S6⟩,bg,l⟩
 refine b6.quiet (mW b m kd) λgs d1 t x j a s1 g c=>?_
 obtain rfl:a=9:=U;refine s1.fix (mW b m kd) (λ_=>bg) c (he:=.head _) λd2=>⟨_,_,.load h (.nil _),bg,λe he=>?_,λgs t x s2=>?_⟩
 .have he:e∈([]:Tb TL):=he
  cases he
 have s2:iI (mT b m kd) (bx::Tp) aH gs (w.at d2) t 0 .gH x 9 400:=s2;refine s2.quiet (mW b m kd) λgs d3 t x j a J g c=>?_
 have f:=c.jN (he:=.head _);let⟨o,C⟩:=RF b m kd p;refine J.fJ.step λd4=>⟨(Tk ((qo b m kd).1.finish (T1 b m)) ((qo b m kd).2++(bx::Tp))),w.at d4,#[],?_,S6,bg,(λe he=>by simp at he),λgs t sl r=>?_⟩
 .rw[f]
  exact Cy C (w:=w.at d4) (e:=bK.1) (n:=bK.2) G F true (bx::Tp) .running none
 have r:iI (mT b m kd) (bx::Tp) aH gs (w.at d4) t 0 .cx ((qo b m kd).1.finish (T1 b m),(qo b m kd).2) 10 400:=⟨⟨_,RA b m kd p,S6⟩,bg,r⟩
 refine r.quiet (mW b m kd) (λgs d5 t x j a K g c=>?_) sl;obtain rfl:a=9:=U;refine K.fix (mW b m kd) (λ_=>bg) c (he:=.head _) λd6=>⟨_,_,.mark (.mark (.nil _)),bg,λe he=>?_,λgs t x u=>?_⟩
 .have he:e∈[(⟨.mark (.releaseMerge ⟨b,m,none⟩),false,true⟩:TL)]:=he
  rw[ev he];exact oM (λx f=>by cases f) z
 have u:iI (mT b m kd) (bx::Tp) aH gs (w.at d6) t 0 .jr x 9 400:=u;refine u.quiet (mW b m kd) λgs d7 t x j a L g c=>?_
 obtain rfl:a=8:=U;refine L.fix (mW b m kd) (λ_=>bg) c (he:=.head _) λd8=>⟨_,_,.mark (.mark (.nil _)),bg,λe he=>?_,λgs t x y=>?_⟩
 .have he:e∈[(⟨.mark .disable,false,true⟩:TL)]:=he
  rw[ev he];exact oM (λx f=>by cases f) Tf
 have y:iI (mT b m kd) (bx::Tp) aH gs (w.at d8) t 1 .add x 8 400:=y;refine y.quiet (mW b m kd) λgs d9 t x j a M g c=>?_
 obtain rfl:a=7:=U;refine M.fix (mW b m kd) (λ_=>bg) c (he:=.head _) λd10=>⟨(w.setCell (S8 b m) (.int .i32 0)).at d10,_,.mark (.load h (.store h D (.nil _))),by show w.heap.size<=(w.setCell _ _).heap.size;simp,λe he=>?_,λgs t x i=>?_⟩
 .have he:e∈[(⟨.cell ⟨b,m,none⟩,false,true⟩:TL),⟨.cell ⟨b,m,none⟩,true,true⟩]:=he
  have B:b<((w.setCell (S8 b m) (.int .i32 0)).at d10).heap.size:=by show b<(w.setCell (S8 b m) (.int .i32 0)).heap.size;simpa using z
  rcases List.mem_cons.1 he with rfl|he
  .exact tX B
  .rw[ev he];exact tX B
 have i:iI (mT b m kd) (bx::Tp) aH gs ((w.setCell (S8 b m) (.int .i32 0)).at d10) t 1 .h6 x 7 400:=i;generalize w.setCell (S8 b m) (.int .i32 0)=W at i k ⊢;refine i.quiet (mW b m kd) λgs d11 t x j a H g c=>?_
 obtain rfl:a=6:=U;refine H.fix (mW b m kd) (λ_=>bg) c (he:=.head _) λd12=>⟨_,_,.mark (.mark (.nil _)),bg,λe he=>?_,λgs t x q=>?_⟩
 .have he:e∈[(⟨.mark .enable,false,true⟩:TL)]:=he
  rw[ev he];exact oM (λx f=>by cases f) Tf
 have q:iI (mT b m kd) (bx::Tp) aH gs (W.at d12) t 0 .fin x 6 400:=q;refine q.quiet (mW b m kd) λgs d13 t x j a I g c=>?_
 exact I.leave E c (he:=.head _) λgs d14 t l=>k gs d14 t l
def HC(g:TG kd)(h:Kept bx)(y:S9)(c:cc aK aH gs (Tk (Frame.enter aK 66 #[.nilIface,y] kd) (bx::Tp)) w t 0)(k:∀gs d t,cc aK aH gs (Tk (eU kd bx (.bool false)) Tp) (w.at d) t 0->Tu aK bF gs (w.at d) t):Tu aK bF gs w t:=by
 have b6:iI (tM kd) (bx::Tp) aH gs w t 0 .c8 (Frame.enter aK 66 #[.nilIface,y] kd,[]) 5 400:=⟨⟨_,HB y kd g,S6⟩,bg,c⟩
 refine b6.quiet (Sv kd) λgs d1 t x j a s1 i f=>?_
 exact s1.leave h f (he:=.head _) λgs d14 t c=>k gs d14 t c
end
end Go.aO
namespace Go.aO
attribute [-simp] Go.Sem.runT_eq
open Go.ConcM (OsLater)
open Go.Proofs Tryz Go.Conc Go.ConcN
variable{i lim n:Nat}{x:Nat×Obj×Obj}{ai ie ρ:Ren}{aL u v0 w:S7}{v:S9}{R:S9->S7->Prop}{c g:TB}{aH:TM}{gs:TR}{a b:Te}{t:Tt}{f:Tw}{kd:Tx}{Tc cs:Tz}{V:dt}
section
variable{Q:To}{R:S9->S7->Prop}{f0:Tw}{K:g8 Q aK}{G:TU->T0->S7->Tt->Prop}
structure lA(Q:To):Prop where
 S:Same Q aK
 ek:fe (fj (jv Q)) Q Q
 f75:Q.funcs[66]?=some rq
 f141:Q.funcs[134]?=some sX
 f142:Q.funcs[135]?=some sY
 eb:eK Q 66=some 2/\eK Q 134=some 1/\eK Q 135=some 1
def OT(ek:fe (fj (jv Q)) Q Q){fr:TB}{aG:S7}(g:e3 Q f0 R V)(h:Self Q V)(l:¬V.stop)(i:runN Q n V.m=.next (lone fr (cs++[wall]) aG))(j:V≠⟨fr,cs,aG⟩):
 e3 Q f0 R ⟨fr,cs,aG⟩/\Self Q ⟨fr,cs,aG⟩/\dZ Q ⟨fr,cs,aG⟩ V:=by
 let⟨c,d,_,f⟩:=Fx ek n g h S6 i;exact⟨c,d,f.resolve_left j⟩
def lA.x6(D:lA Q):Q.underlying 268=some (.pointer 122):=by rw[D.S.under];exact aK.x6
def lA.rF(D:lA Q):Q.underlying 21=some (.int .i32):=by rw[D.S.under];exact aK.rF
def aK.i21:(aK.info? 21).map (·.size)=some 1:=av
def lA.i21(D:lA Q):∃i,Q.info? 21=some i/\i.size=1:=by
 have h:=aK.i21;have e:Q.info? 21=aK.info? 21:=D.S.info 21;rw[e];cases x:aK.info? 21 with
 |none=>rw[x]at h;cases h
 |some i=>rw[x]at h;exact⟨i,S6,by simpa using h⟩
def aK.x7:∃m,aK.underlying 114=some (.interface m):=⟨#[("Error",277)],av⟩
def lA.x7(D:lA Q):∃m,Q.underlying 114=some (.interface m):=by let⟨m,h⟩:=aK.x7;exact⟨m,by rw[D.S.under];exact h⟩
def zC{i:TB}(h:cN K ρ i g):Kept i/\Kept g:=by
 refine⟨λe j f=>?_,λe j f=>?_⟩
 .have:=h.mode
  rw[f]at this;generalize g.mode=l at this;cases this with
  |panicking d=>
   cases d with
   |cons c _=>exact c.recovered.1
 .have:=h.mode
  rw[f]at this;generalize i.mode=l at this;cases this with
  |panicking d=>
   cases d with
   |cons c _=>exact c.recovered.2
def HO{f:TB}(h:cN K ρ f c)(g:TG kd){d:S9}(i:aQ ρ v d):cN K ρ (eU kd f v) (eU kd c d):=by
 unfold eU;rcases g with rfl|rfl
 .exact qX h i
 .exact h
def xO{d g3:Tz}{h:S9}{f:S7}(D:lA Q)(q:e3 Q f0 R V)(r:Self Q V)(E:V.fr.mode=.run)(C:V.cs=c::d)(hrel:m4 aH ρ)(L:∀b,aH b->b<w.heap.size)(H:Fit Q ρ)(S:ρ.room=true)(z:cN K ρ c g)(B:cK (cN K ρ) d g3)(J:TG kd)(W:aQ ρ v h)(U:w.heap.size<=u.heap.size)(I:gm ρ f u)(F:fQ ie ρ v0 f aL u)(M:runN Q n V.m=.next (lone (eU kd c v) (d++[wall]) f))(T:cc aK aH gs (Tk (eU kd g h) (g3++Tc)) u t 0)(cont:∀i b4 l j bm w' bh,dZ Q b4 V->m0 K f0 R aH i b4 l j Tc bm w' bh->m2 K i b4 l j w'->fQ ie i v0 b4.w aL w'->Tu aK G bm w' bh):Tu aK G gs u t:=by
 have P:V≠⟨eU kd c v,d,f⟩:=λe=>by have:=congrArg dt.cs e;rw[C]at this;exact Td (congrArg List.length this) aF
 let⟨m,o,p⟩:=OT D.ek q r (p8 E) M P;exact cont ρ ⟨eU kd c v,d,f⟩ (eU kd g h) g3 gs u t p ⟨m,o,hrel,λb y=>gu (L b y) U,T⟩ ⟨H,S,HO z J W,B,I⟩ F
def sN(a:Te)(h:a.size=1):a=#[a[0]]:=by
 apply Array.ext
 .simp[h]
 .intro i c d
  have:i=0:=U;subst this;rfl
def Sj{V:S7}{bO c:TD}(u:gm ρ V w)(h:ds ρ bO c){x:Int}(o:V.cell? bO=some (.int .i32 x))(p:V.frozen? bO=false)(y:Int):
 ∃b m e n,c=(S8 b m)/\w.shape? b=some (e,n)/\m<n/\w.cell? (S8 b m)=some (.int .i32 x)/\w.frozen? (S8 b m)=false/\gm ρ (V.setCell bO (.int .i32 y)) (w.setCell (S8 b m) (.int .i32 y))/\fQ ρ ρ V (V.setCell bO (.int .i32 y)) w (w.setCell (S8 b m) (.int .i32 y)):=by
 have j:=u.yg;have d:(dM V (hU V w)).cell? bO=some (.int .i32 x):=o;have r:(dM V (hU V w)).frozen? bO=false:=p;rcases yT j h with⟨v,E,I,g,C⟩|I
 .rw[d]at I
  cases I;cases C;let⟨e,n,B,z,i⟩:=World.shape?_of_cell? g;let⟨_,q,_,D,he⟩:=A5 j h (aQ.int (ρ:=ρ) .i32 y) d r;obtain⟨b,m,sp⟩:=c;dsimp only at i;cases sp with
  |some s=>cases i
  |none=>
   have f:=D.hrel;exact⟨b,m,e,n,S6,B,z,g,q,⟨f.obj,f.lim,f.js⟩,⟨he.le,λb l x=>(he.new b l x).imp id And.right,he.size,he.out,he.guard,he.tape,he.output,by rw[he.os];exact OsLater.refl _⟩⟩
 .rw[d]at I;cases I
def FE(D:lA Q):∀aH ρ V bo cs' gs w t,(∀f a kd,K.fn f->V.fr=Frame.enter Q f a kd->f=66\/f=134\/f=135)->m0 K f0 R aH ρ V bo cs' Tc gs w t->yl K ρ V bo cs' w->fQ ie ρ v0 V.w aL w->
 (∀ao b4 au ap bm w' bh,dZ Q b4 V->m0 K f0 R aH ao b4 au ap Tc bm w' bh->m2 K ao b4 au ap w'->fQ ie ao v0 b4.w aL w'->Tu aK G bm w' bh)->Tu aK G gs w t:=by
 intro aH ρ V bo cs' gs w t aE g he h cont;obtain⟨ax,aC,⟨f,a,b,kd,aJ,j,W,af,rfl,ad⟩,aA,av,J⟩:=he;obtain⟨S,r,P,g3,E,rfl,ae,aw⟩:∃S r P g3,V.cs=S::r/\cs'=P::g3/\cN K ρ S P/\cK (cN K ρ) r g3:=by
  generalize V.cs=l at av aA;cases av with
  |nil=>exact Td S6 aA
  |@cons x y l m aS aT=>exact⟨_,_,_,_,S6,S6,aS,aT⟩
 let⟨cF,al⟩:=zC ae;have az:V.fr.mode=.run:=by rw[af];rfl
 have hC:2<=(V.cs++[wall]).length:=by rw[E];simp
 have A:=g.going.fA (aR:=V.w.tape) (λ_ _=>S6);have T:dz Q V.m (lone (Frame.enter Q f a kd) (V.cs++[wall]) V.w):=by rw[<-af];exact A
 have B:=g.st;have mutex:∀(x y:Int) (n:Nat) (Y:TF),a.size=1->Q.funcs[f]?=some Y->Y.results=#[]->(∀z,Frame.enter Q f #[z] kd=⟨f,#[z]++Array.replicate (n+3) undef,[.code (tc x y)],[],.run,kd,none⟩)->
  (∀(c m:Nat) (e n:Nat) (am:S7),am=w->w.shape? c=some (e,n)->m<n->w.cell? (S8 c m)=some (.int .i32 x)->w.frozen? (S8 c m)=false->
   cc aK aH gs (Tk (Frame.enter aK f #[T1 c m] kd) (P::(g3++Tc))) w t 0->
   (∀gs d t,cc aK aH gs (Tk (eU kd P (.tuple #[])) (g3++Tc)) ((w.setCell (S8 c m) (.int .i32 y)).at d) t 0->Tu aK G gs ((w.setCell (S8 c m) (.int .i32 y)).at d) t)->Tu aK G gs w t)->Tu aK G gs w t:=by
  intro x y n Y aD ay aB aI run;have aq:=sN a aD;have ai:b.size=1:=by rw[<-W.1];exact aD
  have ar:=sN b ai;generalize a[0]'U=p at aq;generalize b[0]'U=q at ar;subst aq;subst ar;have X:aQ ρ p q:=W.2 0 p q S6 S6;rw[aI p]at T;let⟨i,aN,aO⟩:=D.i21;obtain⟨bO,fo,rfl,H,I,C⟩:=QD (x:=p) D.x6 D.rF aN aO (λbO hp aV=>by
   subst hp;cases X with
   |ptr aa=>
    exact zd (Q:=Q) J.yg aa false) ⟨r5,cH⟩ T hC j
  cases X with
  |ptr aa=>
   obtain⟨c,m,e,c9,rfl,M,L,aG,aM,ah,o⟩:=Sj J aa H I y;refine run c m e c9 w S6 M L aG aM B λgs d t aj sl=>?_
   have aP:w.heap.size<=((w.setCell (S8 c m) (.int .i32 y)).at d).heap.size:=by show w.heap.size<=(w.setCell _ _).heap.size;simp
   have ag:l2 Q kd ((⟨f,fo,[.code .ret],[],.returning,kd,none⟩:TB),[]) []=some (.tuple #[],[]):=by
    unfold l2;rcases j with rfl|rfl
    .simp only[ay]
     unfold results;rw[aB];kernel_rfl
    .simp only[ay]
     unfold results;rw[aB];kernel_rfl
   have F:V.cs++[wall]=S::(r++[wall]):=by rw[E];rfl
   rw[F]at C;have ak:=(oY (main:=true) (st:=.running) (off:=none) ag (Tp:=r++[wall]) cF (Does.nil (V.w.setCell bO (.int .i32 y)))).2;let⟨N,Z⟩:=(C.go (by rw[<-F];exact hC) ak).1;exact xO D g.going g.self az E g.rel g.low ax aC ae aw j tk aP ⟨ah.obj,ah.lim,ah.js⟩ (h.trans ⟨o.le,o.new,o.size,o.out,o.guard,o.tape,o.output,o.os⟩) Z aj cont sl
 rcases aE f a kd aJ af with rfl|rfl|rfl
 .obtain⟨p,y,rfl⟩:∃x y,a=#[x,y]:=⟨_,_,two a (ad 2 D.eb.1)⟩
  have ai:b.size=2:=by rw[<-W.1];rfl
  obtain⟨q,aU,rfl⟩:∃x y,b=#[x,y]:=⟨_,_,two b ai⟩
  have X:aQ ρ p q:=W.2 0 p q S6 S6;rw[JZ D.f75 p y]at T;obtain⟨rfl,C⟩:=QC D.x7 (x:=p) r5 aF T hC j;cases X;refine HC j al aU B λgs d t aj sl=>?_
  have ag:l2 Q kd ((⟨66,((#[.nilIface,y]++Array.replicate 40 undef).setIfInBounds 2 (.bool true)).setIfInBounds 4 (.bool false),[.code .ret],[],.returning,kd,none⟩:TB),[]) []=some (.bool false,[]):=by
   unfold l2;rcases j with rfl|rfl
   .simp only[D.f75]
    kernel_rfl
   .simp only[D.f75]
    kernel_rfl
  have F:V.cs++[wall]=S::(r++[wall]):=by rw[E];rfl
  rw[F]at C;have ak:=(oY (main:=true) (st:=.running) (off:=none) ag (Tp:=r++[wall]) cF (Does.nil V.w)).2;let⟨N,Z⟩:=(C.go (by rw[<-F];exact hC) ak).1;exact xO D g.going g.self az E g.rel g.low ax aC ae aw j (aQ.bool _) (u:=w.at d) (show w.heap.size<=w.heap.size from bg) ⟨J.obj,J.lim,J.js⟩ ⟨h.le,h.new,h.size,h.out,h.guard,h.tape,h.output,h.os⟩ Z aj cont sl
 .exact mutex 0 1 9 sX (ad 1 D.eb.2.1) D.f141 S6 (λz=>by unfold Frame.enter;rw[D.f141];rfl) λc m e n am _ M L H I B k=>LQ (bK:=(e,n)) j al M L H I B k
 .exact mutex 1 0 17 sY (ad 1 D.eb.2.2) D.f142 S6 (λz=>by unfold Frame.enter;rw[D.f142];rfl) λc m e n am _ M L H I B k=>RH (bK:=(e,n)) j al M L H I B k
end
section
variable{Q:To}{K:g8 Q aK}{G:TU->T0->S7->Tt->Prop}
abbrev iG:=Tb (Nat×Obj×Obj)
def h9(lim:Nat)(bn:iG):S7:={heap:=Array.replicate lim (.cells #[] 0 (0,0))++(bn.map (·.2.1)).toArray,tape:=λ_ _=>0,drawn:=0,os:=default,output:=#[]}
def sw(lim:Nat)(bn:iG):(h9 lim bn).heap.size=lim+bn.length:=by simp[h9]
def lI{bn:iG}(h:bn[i]?=some x):(h9 lim bn).heap[lim+i]?=some x.2.1:=by show(Array.replicate lim (Obj.cells #[] 0 (0,0))++(bn.map (·.2.1)).toArray)[lim+i]?=_;rw[Uo aF];simp[h]
structure iX(lim:Nat)(bn:iG):Prop where
 bZ:∀(i j:Nat) x y,bn[i]?=some x->bn[j]?=some y->x.1=y.1->i=j
 ge:∀x∈bn,lim<=x.1
def iX.get{bn:iG}(h:iX lim bn)(e:bn[i]?=some x):lim<=x.1:=h.ge x (hk e)
def oX(Q:To)(e:Tg):Nat:=max (Q.cellsOf e) (if e=3\/e=63 then 18446744073709551616 else 0)
noncomputable def ho(Q:To)(bn:iG)(h:iX Q.globals.size bn):Ren where
 r a b:=∃i x,bn[i]?=some x/\a=Q.globals.size+i/\b=x.1
 fwd:=by rintro a b c ⟨i,x,d,rfl,rfl⟩ ⟨j,y,f,e,rfl⟩;obtain rfl:i=j:=U;rw[d]at f;cases f;rfl
 bwd:=by rintro a b c ⟨i,x,d,rfl,rfl⟩ ⟨j,y,f,rfl,e⟩;rw[h.bZ i j x y d f e]
 lim:=Q.globals.size
 low:=by rintro a b ⟨i,x,d,rfl,rfl⟩;have:=h.get d;omega
 exact:=false
 cells:=oX Q
 cW:=λc=>codeOk Q true c=true
 room:=true
 eb:=eK Q
 fu:=ni Q
def uo{bn:iG}{h:iX Q.globals.size bn}(e:bn[i]?=some x):(ho Q bn h).r (Q.globals.size+i) x.1:=⟨i,x,e,S6,S6⟩
noncomputable def zy(Q:To)(bn:iG):Ren where
 r a b:=a=b/\Q.globals.size<=a/\a<Q.globals.size+bn.length
 fwd:=by rintro a b c ⟨rfl,_⟩ ⟨rfl,_⟩;rfl
 bwd:=by rintro a b c ⟨rfl,_⟩ ⟨rfl,_⟩;rfl
 lim:=Q.globals.size
 low:=by rintro a b ⟨rfl,_⟩;exact T4
 exact:=false
 cells:=Q.cellsOf
 cW:=λc=>codeOk Q true c=true
 room:=true
 eb:=eK Q
 fu:=ni Q
def K7{bn:iG}{h:iX Q.globals.size bn}{a b:Nat}(k:(ho Q bn h).r a b):(zy Q bn).r a a:=by obtain⟨i,x,e,rfl,rfl⟩:=k;have:=(List.getElem?_eq_some_iff.1 e).1;exact⟨S6,U,U⟩
def x'(o:∀a b,ρ.r a b->ai.r a a)(p:ai.eb=ρ.eb/\ai.fu=ρ.fu){w:S9}(x:aQ ρ v w):aQ ai v v:=by
 induction x with
 |ptr a=>exact .ptr ⟨o _ _ a.block,S6,S6⟩
 |slice a l c=>exact .slice ⟨o _ _ a.block,S6,S6⟩ l c
 |ju q B=>exact .ju (p.2.trans q) B
 |map a=>exact .map (o _ _ a)
 |@func f g a b c d fr r _ E _ C D=>
  refine .func ?_ S6 (λi x y h j=>?_) S6 (λi x y h j=>?_)
  .cases fr with
   |func f u=>exact .func f (by rw[p.1];exact u)
   |yield k=>exact .yield (o _ _ k)
  .rw[h]at j;cases j
   obtain⟨z,m⟩:∃z,b[i]?=some z:=⟨_,fb (by have:=bu h;omega)⟩
   exact C i x z h m
  .rw[h]at j;cases j
   obtain⟨z,m⟩:∃z,d[i]?=some z:=⟨_,fb (by have:=bu h;omega)⟩
   exact D i x z h m
 |iface t _ n=>exact .iface t n
 |@agg a b r _ n=>exact .agg S6 (λi x y h j=>by
  rw[h]at j;cases j;obtain⟨z,m⟩:∃z,b[i]?=some z:=⟨_,fb (by have:=bu h;omega)⟩
  exact n i x z h m)
 |@tuple a b r _ n=>exact .tuple S6 (λi x y h j=>by
  rw[h]at j;cases j;obtain⟨z,m⟩:∃z,b[i]?=some z:=⟨_,fb (by have:=bu h;omega)⟩
  exact n i x z h m)
 |gI _ _=>exact .tuple S6 (λi x y h=>by simp at h)
 |k9 q=>exact .k9 (p.2.trans q)
 |_=>constructor
def Bl(g:∀a b,ρ.r a b->ai.r a a)(f:ai.eb=ρ.eb/\ai.fu=ρ.fu)(x:bQ ρ a b):bQ ai a a:=⟨S6,λi y z d c=>by
 rw[d]at c;cases c;obtain⟨z,c⟩:∃z,b[i]?=some z:=⟨_,fb (by have:=bu d;have:=x.1;omega)⟩
 exact x' g f (x.2 i y z d c)⟩
def nM:Obj->Prop
 |.cells ..=>True
 |.map ..=>True
 |_=>False
def MH(n:∀a b,ρ.r a b->ai.r a a)(m:ai.eb=ρ.eb/\ai.fu=ρ.fu){o q:Obj}(B:nM o)(x:eZ ρ o q)(C:∀c e f d r u,o=.cells c e f->q=.cells d r u->c.size<=d.size):eZ ai o o:=by
 cases x with
 |@cells c d e f g D w E=>
  refine .cells (.inl S6) (λi x y j l=>?_) (.inl S6);rw[j]at l;cases l;have:=C _ _ _ _ _ _ S6 S6;obtain⟨z,p⟩:∃z,d[i]?=some z:=⟨_,fb (by have:=bu j;omega)⟩
  exact x' n m (w i x z j p)
 |@map es ba h c=>
  refine .map ⟨S6,λi x y j l=>?_⟩ c;rw[j]at l;cases l;obtain⟨z,p⟩:∃z,ba[i]?=some z:=⟨_,fb (by have:=bu j;have:=h.1;omega)⟩
  have k:=h.2 i x z j p;exact⟨x' n m k.key,x' n m k.val,S6⟩
 |_=>exact B.elim
def K6(D:lA Q)(o5:je Q=none){bn:iG}(br:iX Q.globals.size bn)(B:∀x∈bn,nM x.2.1/\eZ (ho Q bn br) x.2.1 x.2.2/\∀c e f d l p,x.2.1=.cells c e f->x.2.2=.cells d l p->c.size<=d.size)(y:bQ (ho Q bn br) a b)(z:eK Q f=none)(w:e3 Q f R ⟨Frame.enter Q f a .normal,[],h9 Q.globals.size bn⟩):Self Q ⟨Frame.enter Q f a .normal,[],h9 Q.globals.size bn⟩:=by
 have j:∀a b,(ho Q bn br).r a b->(zy Q bn).r a a:=λ_ _ h=>K7 h
 refine⟨zy Q bn,⟨⟨S6,λ_=>bg,S6,S6⟩,S6,λb e=>by rw[o5]at e;cases e⟩,S6,?_,.nil,?_,λ_ _=>S6,?_,?_⟩
 .rcases x4 (pP (K:=jv Q) D.ek f (Bl j ⟨S6,S6⟩ y) (λn e=>by have e:eK Q f=some n:=e;rw[z]at e;cases e) .normal (.inl S6))with h|⟨H,h,hm⟩
  .exact h
  .let⟨o,w2,E,m⟩:=rm (Q:=Q) (V:=⟨Frame.enter Q f a .normal,[],h9 Q.globals.size bn⟩) h hm (h9 Q.globals.size bn)
   exact(w.live (aR:=(h9 Q.globals.size bn).tape) (λ_ _=>S6) (p8 hm) m).elim
 .rintro b C ⟨rfl,F,G⟩
  obtain⟨i,rfl⟩:∃i,b=Q.globals.size+i:=⟨b-Q.globals.size,U⟩
  obtain⟨x,g⟩:∃x,bn[i]?=some x:=⟨_,Ui U⟩
  let⟨q,r,u⟩:=B x (hk g);exact⟨_,_,lI g,lI g,MH j ⟨S6,S6⟩ q r u⟩
 .show Q.globals.size<=(h9 Q.globals.size bn).heap.size
  rw[sw];omega
 .show Q.globals.size<=(h9 Q.globals.size bn).heap.size
  rw[sw];omega
def DN(D:lA Q)(H:fe (fj K) Q aK)(T:∀f,K.fn f->f=66\/f=134\/f=135)(ar:∀f a b,¬K.db f a b)(o5:je Q=none){bn:iG}(br:iX Q.globals.size bn)(F:∀x∈bn,nM x.2.1/\eZ (ho Q bn br) x.2.1 x.2.2/\∀c e f d M j,x.2.1=.cells c e f->x.2.2=.cells d M j->c.size<=d.size)(ae:¬K.fn f)(z:bQ (ho Q bn br) a b)(B:eK Q f=none)(Z:∀w:S7,w.heap=(h9 Q.globals.size bn).heap->w.drawn=0->Calls Q f a w λe w'=>∃v,e=.returned v/\R v w')(aE:Kept c)(hu:∀x∈bn,u.heap[x.1]?=some x.2.2/\¬aH x.1)(ao:∀b,aH b->b<u.heap.size)(al:Q.globals.size<=u.heap.size)(X:cc aK aH gs (Tk (Frame.enter aK f b .normal) (c::cs)) u t 0)(k:∀bm aC bh ai v g dI,R v dI->aQ ai v g->gm ai dI aC->fQ (ho Q bn br) ai (h9 Q.globals.size bn) dI u aC->m4 aH ai->(∀b,aH b->b<aC.heap.size)->
  cc aK aH bm (Tk (c.finish g) cs) aC bh 0->Tu aK G bm aC bh):Tu aK G gs u t:=by
 have m:e3 Q f R ⟨Frame.enter Q f a .normal,[],h9 Q.globals.size bn⟩:=e3.z8 λaR _=>Z (dM (h9 Q.globals.size bn) aR) S6 S6
 have W:=K6 D o5 br F z B m;have aj:gm (ho Q bn br) (h9 Q.globals.size bn) u:=by refine⟨?_,by show Q.globals.size<=_;rw[sw];omega,al⟩;rintro b q ⟨i,x,e,rfl,rfl⟩;exact⟨_,_,lI e,(hu x (hk e)).1,(F x (hk e)).2.1⟩
 have ag:cN K (ho Q bn br) (Frame.enter Q f a .normal) (Frame.enter aK f b .normal):=by
  have l:=pP (K:=K) H f z (λn e=>by have e:eK Q f=some n:=e;rw[B]at e;cases e) .normal (.inl S6);generalize J:Frame.enter Q f a .normal=x at l;generalize aI:Frame.enter aK f b .normal=y at l;cases l with
  |plain h=>exact h
  |refused aJ h hm=>
   rw[<-J]at h hm;let⟨o,w2,aA,P⟩:=rm (Q:=Q) (V:=⟨Frame.enter Q f a .normal,[],h9 Q.globals.size bn⟩) h hm (h9 Q.globals.size bn);exact(m.live (aR:=(h9 Q.globals.size bn).tape) (λ_ _=>S6) (p8 hm) P).elim
  |@sh j az q kd h E _ _=>
   have e:=congrArg Frame.fn J;have:f=j:=e;subst this;exact(ae h).elim
 have hrel:m4 aH (ho Q bn br):=by rintro b q ⟨i,x,e,rfl,rfl⟩;exact(hu x (hk e)).2
 refine λsl=>m0.go (Tc:=c::cs) (ie:=ho Q bn br) (v0:=h9 Q.globals.size bn) (aL:=u) (R:=R) D.S D.ek H ar (Ok:=λen=>en=aH) ?_ ?_ S6 ⟨m,W,hrel,ao,X⟩ ⟨⟨⟨S6,λ_=>Nat.le_max_left _ _,S6,S6⟩,S6,λb e=>by rw[o5]at e;cases e⟩,S6,ag,.nil,aj⟩ (fQ.refl _ _ _) sl
 .intro en ρ V bo cs' gs w t p ak he C cont
  subst p;exact FE D en ρ V bo cs' gs w t (λf _ _ h _=>T f h) ak he C (λay b4 S L bm w' bh=>cont en ay b4 S L bm w' bh S6)
 .intro en ρ V bo gs w t p aD aF am C au E aB ap sl
  subst p;refine au.step (λd=>?_) sl;let⟨v,g,ai,dI,aG,es,U,aw,av,ah,af,aq,I,ad,aa⟩:=ap d;refine⟨(Tk (c.finish g) cs),aG,es,?_,S6,I,ad,λbm bh ax r=>?_⟩
  .rw[av]
   simp[GStep.after,doReturn,E]
  .rw[aa]at r
   exact k bm aG bh ai v g dI U aw ah af aq (λb Y=>gu (am b Y) I) r ax
end
end Go.aO
namespace Go.aO
attribute [-simp] Go.Sem.runT_eq
open Go.Proofs Tryz Go.Conc Go.ConcN
variable{M b7:Mem}
section
variable{bF:TU->T0->S7->Tt->Prop}{aH:TM}{aL u aC:S7}{gs:TR}{t:Tt}{c:TB}{cs:Tz}
def bN.app{Pos m3 m:Type}{A:de Pos}{kv:de m3}{BC:de m}{en:TM}(h:bN A aH aL u M)(k:bN kv en u aC b7)(y:∀b,b<u.heap.size->en b->aH b):bN BC en aL aC (M++b7):=by
 have cs:∀(i:Nat) own b o,(M++b7)[i]?=some (own,b,o)->(i<M.length/\M[i]?=some (own,b,o))\/(M.length<=i/\b7[i-M.length]?=some (own,b,o)):=λi own b o e=>by
  rcases Ub i M.length with ad|ad
  .rw[jz ad]at e;exact .inl ⟨ad,e⟩
  .rw[jb ad]at e;exact .inr ⟨ad,e⟩
 have lt:∀(i:Nat) own b o,M[i]?=some (own,b,o)->b<u.heap.size:=λi own b o e=>gL h.mem e
 refine⟨⟨λi own b o e=>?_,λi j own b o l f g c d r=>?_⟩,λb q=>?_,h.calm.trans k.calm,λi own b o e=>?_,k.ej⟩
 .rcases cs i own b o e with⟨_,e⟩|⟨_,e⟩
  .exact(k.old b (lt i own b o e)).trans (h.mem.has i own b o e)
  .exact k.mem.has _ own b o e
 .rcases cs i own b o c with⟨n,c⟩|⟨n,c⟩<;>rcases cs j l f g d with⟨p,d⟩|⟨p,d⟩
  .exact h.mem.fL i j _ _ _ _ _ _ c d r
  .have:=lt i own b o c
   have:=(k.fi _ _ _ _ d).1;omega
  .have:=lt j l f g d
   have:=(k.fi _ _ _ _ c).1;omega
  .exact k.mem.fL _ _ _ _ _ _ _ _ c d U
 .have:=h.calm.size
  exact(k.old b U).trans (h.old b q)
 .rcases cs i own b o e with⟨_,e⟩|⟨_,e⟩
  .exact⟨(h.fi i own b o e).1,λw=>(h.fi i own b o e).2 (y b (lt i own b o e) w)⟩
  .have:=k.fi _ own b o e
   have:=h.calm.size;exact⟨U,(k.fi _ own b o e).2⟩
def bN.start{Pos:Type}{A:de Pos}(u:S7)(c:∀b,aH b->b<u.heap.size):bN A aH u u []:=
 ⟨⟨λi own b o e=>by simp at e,λi j own b o g d f e=>by simp at e⟩,λ_ _=>S6,Calm.refl u,λi own b o e=>by simp at e,c⟩
def bN.to{Pos m3:Type}{A:de Pos}{kv:de m3}(h:bN A aH aL u M):bN kv aH aL u M:=⟨h.mem,h.old,h.calm,h.fi,h.ej⟩
def bN.cast{Pos m3:Type}{A:de Pos}{kv:de m3}(h:bN A aH aL u M)(e:M=b7):bN kv aH aL u b7:=by subst e;exact h.to
def bN.tail{Pos m3:Type}{A:de Pos}{kv:de m3}{x:Ta×Nat×Obj}(h:bN A aH aL u (x::M)):bN kv aH aL u M:=
 (h.sub (kv:=A) (λi own b o e=>⟨i+1,own,e⟩) (λi j own b o l c g d f m=>h.mem.fL (i+1) (j+1) own b o l c g d f U)).to
def bN.none{Pos m3:Type}{A:de Pos}{kv:de m3}(h:bN A aH aL u M):bN kv aH aL u []:=
 (h.sub (kv:=A) (b7:=[]) (λi own b o e=>by simp at e) (λi j own b o g d f c=>by simp at c)).to
structure yB where
 l:Nat
 z:eG
 M:Mem
def f'(z:eG):S9:=.agg #[ah 2,sl z.F 2,sl z.R 2,sl z.Fr 1]
def iE(z:eG):Mem:=[(true,z.F,.cells #[ah 2,ah 1] 3 (0,0)),(true,z.gx,.cells #[ah 1,ah 2] 3 (0,0)),(true,z.gy,.cells #[ah 3,ah 1] 3 (0,0)),(true,z.R,.cells #[ah 0,sl z.gx 2,ah 2,sl z.gy 2] 27 (0,0)),(true,z.Fr,.cells #[ah 3] 3 (0,0))]
def Q3:yB->Tb (Edge yB)
 |⟨0,z,M⟩=>[.new true (.cells #[i0,dg,dg,dg] 25 (0,0)) λb=>⟨1,z,M++[(true,b,.cells #[i0,dg,dg,dg] 25 (0,0))]⟩]
 |⟨1,z,M⟩=>[.new true (.cells #[ah 2,ah 1] 3 (0,0)) λb=>⟨2,{z with F:=b},M++[(true,b,.cells #[ah 2,ah 1] 3 (0,0))]⟩]
 |⟨2,z,M⟩=>[.new true (.cells #[ah 1,ah 2] 3 (0,0)) λb=>⟨3,{z with gx:=b},M++[(true,b,.cells #[ah 1,ah 2] 3 (0,0))]⟩]
 |⟨3,z,M⟩=>[.new true (.cells #[ah 3,ah 1] 3 (0,0)) λb=>⟨4,{z with gy:=b},M++[(true,b,.cells #[ah 3,ah 1] 3 (0,0))]⟩]
 |⟨4,z,M⟩=>[.new true (.cells #[ah 0,sl z.gx 2,ah 2,sl z.gy 2] 27 (0,0)) λb=>⟨5,{z with R:=b},M++[(true,b,.cells #[ah 0,sl z.gx 2,ah 2,sl z.gy 2] 27 (0,0))]⟩]
 |⟨5,z,M⟩=>[.new true (.cells #[ah 3] 3 (0,0)) λb=>⟨6,{z with Fr:=b},M++[(true,b,.cells #[ah 3] 3 (0,0))]⟩]
 |⟨6,z,M⟩=>[.bL [.st 0 0 (ah 2),.st 0 1 (sl z.F 2),.st 0 2 (sl z.R 2),.st 0 3 (sl z.Fr 1)] ⟨7,z,c0 M [.st 0 0 (ah 2),.st 0 1 (sl z.F 2),.st 0 2 (sl z.R 2),.st 0 3 (sl z.Fr 1)]⟩]
 |⟨7,z,_⟩=>[.k' [.ld 0 0,.ld 0 1,.ld 0 2,.ld 0 3] (f' z)]
 |_=>[]
noncomputable def pf:de yB:=⟨prog,hv,λ_=>false,.normal,λp=>p.M,λ_=>400,Q3⟩
def qs:dn pf.P pf.ext:=by unfold pf;exact j8
set_option maxRecDepth 100000 in
def Q5(T:Nat):Good pf 20 ⟨0,⟨T,0,0,0,0,0⟩,[]⟩ (Frame.enter prog 16 #[] .normal,[]):=by all_goals exact fX
def rB(n:Kept c)(o:∀b,aH b->b<u.heap.size)(m:cc aK aH gs (Tk (Frame.enter aK 16 #[] .normal) (c::cs)) u t 0)(k:∀bm aC bh z,bN pf aH u aC (iE z)->cc aK aH bm (Tk (c.finish (f' z)) cs) aC bh 0->Tu aK bF bm aC bh):Tu aK bF gs u t:=by
 have d:∀p,pf.dh p<=400:=λ_=>bg
 have b6:dK pf (c::cs) aH u gs u t ⟨0,⟨0,0,0,0,0,0⟩,[]⟩ (Frame.enter aK 16 #[] .normal,[]) 20 400:=⟨⟨_,Q5 0,S6⟩,bg,bN.start u o,m⟩
 refine b6.new qs d (.head _) λD L t1 U j s1=>?_
 refine s1.new qs d (.head _) λE M t2 V F s2=>?_
 refine s2.new qs d (.head _) λG nE t3 W g q=>?_
 refine q.new qs d (.head _) λH P t4 X h r=>?_
 refine r.new qs d (.head _) λI Q t5 Y R w=>?_
 refine w.new qs d (.head _) λJ S t6 Z f y=>?_
 refine y.bL qs d (.head _) λK T t7 aa B=>?_
 refine B.k' qs n (.head _) λl C t8 ed i=>?_
 exact k l C t8 ⟨0,F,R,g,h,f⟩ (bN.tail (x:=(true,j,.cells #[ah 2,sl F 2,sl R 2,sl f 1] 25 (0,0))) (A:=pf) (ed.cast av)) i
structure yA where
 l:Nat
 M:Mem
def ou:Obj:=.cells #[i0,i0] 50 (0,0)
def Qm:yA->Tb (Edge yA)
 |⟨0,M⟩=>[.new true (.cells #[i0,i0,i0,i0,i0] 52 (0,0)) λb=>⟨1,M++[(true,b,.cells #[i0,i0,i0,i0,i0] 52 (0,0))]⟩]
 |⟨1,M⟩=>[.new true ou λb=>⟨2,M++[(true,b,ou)]⟩]
 |⟨2,M⟩=>[.bL [.st 1 0 (ah 20),.st 1 1 (ah 26)] ⟨3,c0 M [.st 1 0 (ah 20),.st 1 1 (ah 26)]⟩]
 |⟨3,M⟩=>[.bL [.ld 1 0,.ld 1 1] ⟨4,c0 M [.ld 1 0,.ld 1 1]⟩]
 |⟨4,M⟩=>[.new true ou λb=>⟨5,M++[(true,b,ou)]⟩]
 |⟨5,M⟩=>[.bL [.st 2 0 (ah 46),.st 2 1 (ah 50)] ⟨6,c0 M [.st 2 0 (ah 46),.st 2 1 (ah 50)]⟩]
 |⟨6,M⟩=>[.bL [.ld 2 0,.ld 2 1] ⟨7,c0 M [.ld 2 0,.ld 2 1]⟩]
 |⟨7,M⟩=>[.bL [.st 0 0 (ah 0),.st 0 1 (ah 20),.st 0 2 (ah 26),.st 0 3 (ah 46),.st 0 4 (ah 50)] ⟨8,c0 M [.st 0 0 (ah 0),.st 0 1 (ah 20),.st 0 2 (ah 26),.st 0 3 (ah 46),.st 0 4 (ah 50)]⟩]
 |⟨8,_⟩=>[.k' [.ld 0 0,.ld 0 1,.ld 0 2,.ld 0 3,.ld 0 4] (.agg dC)]
 |_=>[]
noncomputable def tb:de yA:=⟨prog,hv,λ_=>false,.normal,λp=>p.M,λ_=>400,Qm⟩
def pq:dn tb.P tb.ext:=by unfold tb;exact j8
set_option maxRecDepth 100000 in
def Qn:Good tb 20 ⟨0,[]⟩ (Frame.enter prog 18 #[] .normal,[]):=by all_goals exact fX
def uW(h:Kept c)(i:∀b,aH b->b<u.heap.size)(g:cc aK aH gs (Tk (Frame.enter aK 18 #[] .normal) (c::cs)) u t 0)(k:∀bm aC bh,bN pf aH u aC []->cc aK aH bm (Tk (c.finish (.agg dC)) cs) aC bh 0->Tu aK bF bm aC bh):Tu aK bF gs u t:=by
 have d:∀p,tb.dh p<=400:=λ_=>bg
 have b6:dK tb (c::cs) aH u gs u t ⟨0,[]⟩ (Frame.enter aK 18 #[] .normal,[]) 20 400:=⟨⟨_,Qn,S6⟩,bg,bN.start u i,g⟩
 refine b6.new pq d (.head _) λC K t1 T y s1=>?_
 refine s1.new pq d (.head _) λD L t2 U z s2=>?_
 refine s2.bL pq d (.head _) λE nE t3 V l=>?_
 refine l.bL pq d (.head _) λF M t4 W m=>?_
 refine m.new pq d (.head _) λG P t5 X B n=>?_
 refine n.bL pq d (.head _) λH Q t6 Y o=>?_
 refine o.bL pq d (.head _) λI R t7 Z q=>?_
 refine q.bL pq d (.head _) λJ S t8 aa r=>?_
 refine r.k' pq h (.head _) λf w t9 j a9=>?_
 exact k f w t9 j.none a9
end
end Go.aO
