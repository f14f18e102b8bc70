/- Part 17 of a law on fees: no conditions. -/
import Derived.Test.YthiiblonjmmnfaaGreatDoorP15
import Derived.KernelRfl
set_option maxHeartbeats 8000000
set_option maxRecDepth 100000
set_option linter.all false
namespace Go.aN
attribute [-simp] Go.Sem.runT_eq
open Go.Proofs Go.Conc Go.ConcN
section
variable{u ay w:World}{t a':Trace}{gs bf:Array Goroutine}{g:Goroutine}{c bo:e0}{M bR:Mem}{x y:bs}{n j a l aH d:Nat}{bF:Machine->Outcome->World->Trace->Prop}{kd:CallKind}{base:List Frame}{aE:Nat->Prop}{aI:World}{S mR:List (Nat×Obj)}
def hS(c:e0):Mem:=[(false,c.L,fZ),(true,c.a7,.cells #[pt c.T] 60 (0,0)),(true,c.O,.cells #[cN,cN] 22 (0,0)),(true,c.bX,.cells #[.chan (some c.ch)] 194 (0,0)),(true,c.iH,.cells #[ad 0] 3 (0,0)),(true,c.ja,.cells c8 32 (0,0))]
def jj(W ch:Nat)(v:Int):List (Nat×Obj):=[(W,.cells #[.int .u64 v,.int .u32 0] 199 (0,0)),(ch,.chan 0 #[] false 0 0 false)]
def m4{m:Mark}{B:Nat}(c:∀x,(MemAct.mark m).touch?=some x->x.kind≠.plain)(d:(MemAct.mark m).low B):mO aE B ⟨.mark m,false,true⟩:=⟨λx f _ _ _=>c x f,d⟩
def r5{B b o:Nat}{wr:Bool}(d:b<B):mO aE B ⟨.cell ⟨b,o,none⟩,wr,true⟩:=by
 refine⟨λx c _ _ _=>?_,d⟩;have c:some (⟨.cell ⟨b,o,none⟩,wr,.atomic⟩:Touch)=some x:=by cases wr<;>exact c
 rw[<-Pm c];simp
def Km(T L:Nat)(U:kd=.normal\/kd=.deferred)(K:aI.heap[L]?=some fZ)(X:∀b,aE b->b<aI.heap.size)(M:¬aE L)(P:b5 aF aE gs ⟨Frame.enter aF 64 #[pt T,.slice (some (box L)) 2 2] kd,base,.running,none,none⟩ aI t 0)(k:∀gs u t x j a c,c.T=T->c.L=L->(aI.heap.size<=c.W/\aI.heap.size<=c.ch/\c.W≠c.ch)->h6 kd base aE aI (jj c.W c.ch 4294967296) gs u t 0 16 c (hS c) x (a+1) j->At (iX kd) a ⟨16,c,hS c⟩ x->∀sl,Ends aF bF (crowd gs u sl) t):∀sl,Ends aF bF (crowd gs aI sl) t:=by
 have I:h6 kd base aE aI [] gs aI t 0 0 {T:=T,L:=L} [(false,L,fZ)] (Frame.enter aF 64 #[pt T,.slice (some (box L)) 2 2] kd,[]) 60 400:=by
  refine⟨⟨_,IX T L kd U,rfl⟩,Pk,⟨λi own b o e=>?_,λi j own b o ah Y F e H V=>?_⟩,P,λ_ _=>rfl,Calm.refl aI,λi b o e=>?_,λi own b o e=>?_,X,λb o e=>(by cases e)⟩
  .rcases i with _|i<;>simp at e
   obtain⟨rfl,rfl,rfl⟩:=e;exact K
  .rcases i with _|i<;>rcases j with _|j<;>simp at e H V
  .rcases i with _|i<;>simp at e
  .rcases i with _|i<;>simp at e
   rw[<-e.2.1];exact M
 refine I.quiet λn j gs u t x a _ h g f=>h.new g f (aH:=1) (dV:=true) (bC:=λb=>{T:=T,L:=L,a7:=b}) rfl λgs u t x a7 ag h=>?_
 refine h.quiet λn j gs u t x a _ h g f=>h.new g f (aH:=2) (dV:=true) (bC:=λb=>{T:=T,L:=L,a7:=a7,O:=b}) rfl λgs u t x O Z h=>?_
 refine h.quiet λn j gs u t x a _ h g f=>h.new g f (aH:=3) (dV:=false) (bC:=λb=>{T:=T,L:=L,a7:=a7,O:=O,ch:=b}) rfl λgs u t x ch R h=>?_
 refine h.quiet λn j gs u t x a _ h g f=>h.new g f (aH:=4) (dV:=true) (bC:=λb=>{T:=T,L:=L,a7:=a7,O:=O,ch:=ch,bX:=b}) rfl λgs u t x bX aa h=>?_
 refine h.quiet λn j gs u t x a _ h g f=>h.bH g f (aH:=5) (bo:={T:=T,L:=L,a7:=a7,O:=O,ch:=ch,bX:=bX}) (bR:=[(false,L,fZ),(true,a7,.cells #[pt T] 60 (0,0)),(true,O,.cells #[cN,cN] 22 (0,0)),(true,bX,.cells #[.chan (some ch)] 194 (0,0))]) rfl λgs u t x h=>?_
 refine h.quiet λn j gs u t x a _ h g f=>h.new g f (aH:=6) (dV:=false) (bC:=λb=>{T:=T,L:=L,a7:=a7,O:=O,ch:=ch,bX:=bX,W:=b}) rfl λgs u t x W hW h=>?_
 have D:W≠ch:=λe=>by subst e;have J:=(h.bB W _ (.head _)).1;have C:=(h.bB W _ (.tail _ (.head _))).1;rw[J]at C;cases C
 refine h.quiet λn j gs u t x a _ h g f=>h.bH g f (aH:=7) (bo:={T:=T,L:=L,a7:=a7,O:=O,ch:=ch,bX:=bX,W:=W}) (bR:=[(false,L,fZ),(true,a7,.cells #[pt T] 60 (0,0)),(true,O,.cells #[cN,cN] 22 (0,0)),(true,bX,.cells #[.chan (some ch)] 194 (0,0))]) rfl λgs u t x h=>?_
 refine h.quiet λn j gs u t x a _ h g f=>h.new g f (aH:=8) (dV:=true) (bC:=λb=>{T:=T,L:=L,a7:=a7,O:=O,ch:=ch,bX:=bX,W:=W,iH:=b}) rfl λgs u t x B ae h=>?_
 refine h.quiet λn j gs u t x a _ h g f=>h.new g f (aH:=9) (dV:=true) (bC:=λb=>{T:=T,L:=L,a7:=a7,O:=O,ch:=ch,bX:=bX,W:=W,iH:=B,ja:=b}) rfl λgs u t x G af h=>?_
 let c:e0:={T:=T,L:=L,a7:=a7,O:=O,ch:=ch,bX:=bX,W:=W,iH:=B,ja:=G}
 refine h.quiet λn j gs u t x a _ h g f=>h.bH g f (aH:=10) (bo:=c) (bR:=[(false,L,fZ),(true,a7,.cells #[pt T] 60 (0,0)),(true,O,.cells #[cN,cN] 22 (0,0)),(true,bX,.cells #[.chan (some ch)] 194 (0,0)),(true,B,.cells #[ad 0] 3 (0,0)),(true,G,.cells #[i0,i0,i0,i0,i0] 32 (0,0))]) rfl λgs u t x h=>?_
 refine h.quiet λn j gs u t x a _ h g f=>h.bH g f (aH:=11) (bo:=c) (bR:=hS c) rfl λgs u t x h=>?_
 have h:h6 kd base aE aI (jj W ch 0) gs u t 0 11 c (hS c) x _ 400:=h;have still:∀{S:List (Nat×Obj)} {gs u t d l x n j} {cv:List cr} {es:Array Event},h6 kd base aE aI S gs u t d l c (hS c) x n j->(∀p,Does (u.at p) cv (u.at p) es)->∀p,∃ay es,Does (u.at p) cv ay es/\ay.heap.size=u.heap.size/\Calm u ay/\(∀b,b≠W->ay.heap[b]?=u.heap[b]?)/\∀b o,(b,o)∈S->ay.heap[b]?=some o:=
  λ{S gs u t d l x n j cv es} h hd p=>⟨u.at p,es,hd p,rfl,Calm.at u p,λ_ _=>rfl,λb o hbo=>(h.bB b o hbo).1⟩
 have lY:∀{v:Int} {gs u t d l x n j},h6 kd base aE aI (jj W ch v) gs u t d l c (hS c) x n j->∀p,(u.at p).shape? W=some mI:=λh p=>by rw[yk (w:=World.at _ p) (h.bB W _ (.head _)).1];rfl
 have same:∀{v:Int} b o,(b,o)∈jj W ch v->∃F,(b,F)∈jj W ch v:=λb o h=>⟨o,h⟩
 have r:∀v,∃o,(W,o)∈jj W ch v:=λv=>⟨_,.head _⟩
 have E:∀{v:Int} {gs u t d l x n j},h6 kd base aE aI (jj W ch v) gs u t d l c (hS c) x n j->W<u.heap.size:=λh=>bp (h.bB W _ (.head _)).1
 refine h.quiet λn j gs u t x a _ h g f=>h.fix g f (aH:=12) (mR:=jj W ch 0) rfl W (still h λp=>.mark (.mark (.nil _))) (.inl (r 0)) same (λe he=>?_) λgs u t x h=>?_
 .have he:e∈[(⟨.mark .disable,false,true⟩:Event)]:=he
  rw[Ps he];exact m4 (λx q=>by cases q) trivial
 refine h.quiet λn j gs u t x a _ h g f=>h.fix g f (aH:=13) (mR:=jj W ch 4294967296) rfl W (λp=>?_) (.inl (r 0)) (λb o hbo=>?_) (λe he=>?_) λgs u t x h=>?_
 .have z:=(h.bB W _ (.head _)).1
  refine⟨(u.at p).setCell ⟨W,0,none⟩ (.int .u64 4294967296),_,.mark (.load (by rw[aT (w:=u.at p) z];rfl) (.store (by rw[aT (w:=u.at p) z];rfl) (b1 (w:=u.at p) z) (.nil _))),by simp;rfl,(Calm.at u p).trans (yi _ _ _),λb Q=>(ft (a:=⟨W,0,none⟩) Q),λb o hbo=>?_⟩;rcases List.mem_cons.1 hbo with e|hbo
  .cases e
   rw[cQ (w:=u.at p) z];rfl
  .have e:=Ps hbo
   cases e;rw[ft (w:=u.at p) (a:=⟨W,0,none⟩) (Ne.symm D)];exact(h.bB ch _ (.tail _ (.head _))).1
 .rcases List.mem_cons.1 hbo with e|hbo
  .cases e;exact r 0
  .exact⟨o,.tail _ hbo⟩
 .have he:e∈[(⟨.cell (fj W),false,true⟩:Event),⟨.cell (fj W),true,true⟩]:=he
  simp only[List.mem_cons,PD,or_false]at he;rcases he with rfl|rfl<;>exact r5 (E h)
 refine h.quiet λn j gs u t x a _ h g f=>h.fix g f (aH:=14) (mR:=jj W ch 4294967296) rfl W (still h λp=>.shape (lY h p) (.shape (lY h p) (.nil _))) (.inl (r _)) same (λe he=>(by cases he)) λgs u t x h=>?_
 refine h.quiet λn j gs u t x a _ h g f=>h.fix g f (aH:=15) (mR:=jj W ch 4294967296) rfl W (still h λp=>.mark (.mark (.nil _))) (.inl (r _)) same (λe he=>?_) λgs u t x h=>?_
 .have he:e∈[(⟨.mark (.read (gS W)),false,true⟩:Event)]:=he
  rw[Ps he];exact m4 (λx q=>by have q:some (⟨.cell (gS W),false,.said⟩:Touch)=some x:=q;rw[<-Pm q];simp) (E h)
 refine h.quiet λn j gs u t x a _ h g f=>h.fix g f (aH:=16) (mR:=jj W ch 4294967296) rfl W (still h λp=>.mark (.mark (.nil _))) (.inl (r _)) same (λe he=>?_) λgs u t x h=>?_
 .have he:e∈[(⟨.mark .enable,false,true⟩:Event)]:=he
  rw[Ps he];exact m4 (λx q=>by cases q) trivial
 exact h.quiet λn j gs u t x a _ h g f=>by subst g;exact k gs u t x j a c rfl rfl ⟨hW,R,D⟩ h f
end
section
variable{X:dJ}{u ay w:World}{t a':Trace}{gs bf:Array Goroutine}{g:Goroutine}{c bo:e0}{M bR:Mem}{x y:bs}{n j a l aH d:Nat}{bF:Machine->Outcome->World->Trace->Prop}{kd:CallKind}{base:List Frame}{aE:Nat->Prop}{aI:World}
structure vI(z:dr)(L:Nat)(aE:Nat->Prop)(aI:World):Prop where
 aZ:aI.heap[z.T]?=some (.cells (dW z 0 0 false false) 105 (0,0))
 hF:aI.heap[z.F]?=some (.cells #[ad 2,ad 1] 3 (0,0))
 cT:aI.heap[z.R]?=some (.cells #[ad 0,sl z.fl 2,ad 2,sl z.fo 2] 55 (0,0))
 kE:aI.heap[z.fl]?=some (.cells #[ad 1,ad 2] 3 (0,0))
 kk:aI.heap[z.fo]?=some (.cells #[ad 3,ad 1] 3 (0,0))
 kD:aI.heap[z.Fr]?=some (.cells #[ad 3] 3 (0,0))
 eP:aI.heap[L]?=some fZ
 dD:∀b,aE b->b<aI.heap.size
 js:¬aE z.T/\¬aE z.F/\¬aE z.R/\¬aE z.fl/\¬aE z.fo/\¬aE z.Fr/\¬aE L
 uh:aF.globals.size<=z.T/\aF.globals.size<=z.F
def fs(z:dr)(b:Nat):Prop:=b=z.T\/b=z.F\/b=z.R\/b=z.fl\/b=z.fo\/b=z.Fr
instance(z:dr)(b:Nat):Decidable (fs z b):=by unfold fs;infer_instance
def mW(c:e0):kT:=⟨c.W,c.bX,c.iH,c.a7,c.ja,c.ch,c.T,0⟩
def AO(z:dr)(aI:World)(N:Nat)(c:e0)(bP:bZ):bI where
 bO b:=if b<aI.heap.size then(if fs z b then 0 else N+3)else 0
 ro g b:=((g=N\/g=N+1)/\(fs z b\/b=c.bX\/b=c.a7))\/(g=N/\(b=c.iH\/b=c.ja))\/(g=N+2/\b=c.bX)\/(g=0/\b=c.L)
 bC k:=if k then{mW c with i:=1}else mW c
 s k:=if k then⟨.un,false⟩else bP
 k:=.un
 l:=17
 mu:=0
 ms:=0
 aU:=false
 a7:=false
 v:=4294967296
 m:=0
 cl _:=(0,0)
def vj(z:dr)(L:Nat)(aI:World)(N cH:Nat)(c:e0)(kd:CallKind)(base:List Frame)(aE:Nat->Prop):Stat:={z:=z,L:=L,a7:=c.a7,O:=c.O,ch:=c.ch,bX:=c.bX,W:=c.W,N:=N,cH:=cH,aI:=aI,kd:=kd,base:=base,aE:=aE}
def s6{z:dr}{L:Nat}(h:vI z L aE aI){b:Nat}(c:fs z b):b<aI.heap.size/\¬aE b:=by
 rcases c with rfl|rfl|rfl|rfl|rfl|rfl
 .exact⟨bp h.aZ,h.js.1⟩
 .exact⟨bp h.hF,h.js.2.1⟩
 .exact⟨bp h.cT,h.js.2.2.1⟩
 .exact⟨bp h.kE,h.js.2.2.2.1⟩
 .exact⟨bp h.kk,h.js.2.2.2.2.1⟩
 .exact⟨bp h.kD,h.js.2.2.2.2.2.1⟩
def Er(X:dJ){z:dr}(bx:∀b,hR X.Q=some b->b=X.ha/\b=z.T){L:Nat}{bu:Frame}{rest:List Frame}(br:Kept bu)(bs:kd=.normal\/kd=.deferred)(d:vI z L aE aI)(bi:b5 aF aE gs ⟨Frame.enter aF 64 #[pt z.T,.slice (some (box L)) 2 2] kd,bu::rest,.running,none,none⟩ aI t 0)(fin:∀Z:Stat,Z.z=z->Z.aI=aI->∀bf ay a' r aU,mM Z ay r aU->b5 aF (λb=>aE b\/b=Z.W) bf ⟨er kd bu (.slice (some (box Z.O)) 2 2),rest,.running,none,none⟩ ay a' 0->∀sl,Ends aF bF (crowd bf ay sl) a')(sl:Option (Nat×Nat)):Ends aF bF (crowd gs aI sl) t:=by
 refine Km z.T L bs d.eP d.dD d.js.2.2.2.2.2.2 bi (λgs u t x j a c aD ar E h bj sl=>?_) sl;refine h.gr.jY (λgs t sl aZ bE cb C bd ai bm bB=>?_) sl;obtain⟨q,aq⟩:=bd;obtain⟨bX,aK,bH⟩:=h.at cb;have bU:(u.at cb).heap.size=u.heap.size:=rfl;have bC:aI.heap.size<=u.heap.size:=h.calm.size;have aB:0<gs.size:=bp C;have a0:(hS c)[0]?=some (false,c.L,fZ):=rfl;have U:(hS c)[1]?=some (true,c.a7,.cells #[pt c.T] 60 (0,0)):=rfl;have aa:(hS c)[2]?=some (true,c.O,.cells #[cN,cN] 22 (0,0)):=rfl;have V:(hS c)[3]?=some (true,c.bX,.cells #[.chan (some c.ch)] 194 (0,0)):=rfl;have W:(hS c)[4]?=some (true,c.iH,.cells #[ad 0] 3 (0,0)):=rfl;have Y:(hS c)[5]?=some (true,c.ja,.cells c8 32 (0,0)):=rfl;have R:=h.mem;have t1:=h.eD 1 _ _ U;have t2:=h.eD 2 _ _ aa;have t3:=h.eD 3 _ _ V;have t4:=h.eD 4 _ _ W;have t5:=h.eD 5 _ _ Y;have bW:c.L<aI.heap.size:=by rw[ar];exact bp d.eP
 have ag:=h.bB c.W _ (.head _);have af:=h.bB c.ch _ (.tail _ (.head _));have av:∀{i:Nat} {own b o},(hS c)[i]?=some (own,b,o)->b<u.heap.size:=λe=>fB R e
 have bc:c.L≠z.T:=by rw[ar];intro e;have I:=d.eP;rw[e,d.aZ]at I;have:=congrArg (λo:Option Obj=>match o with|some (.cells c _ _)=>c.size|_=>0) I;simp[fZ,vn]at this
 let Z:Stat:=vj z L aI gs.size t.size c kd (bu::rest) aE;haveI:gh X Z:=⟨bx⟩
 let G:bI:=AO z aI gs.size c ⟨.out .bP,false⟩;let aO:bI:=AO z aI gs.size c ⟨.un,false⟩;have aX:∀b,b<aI.heap.size->¬fs z b->G.bO b=gs.size+3:=λb hb aj=>by show(if b<aI.heap.size then(if fs z b then 0 else gs.size+3)else 0)=_;rw[if_pos hb,if_neg aj]
 have aY:∀b,fs z b->G.bO b=0:=λb aj=>by show(if b<aI.heap.size then(if fs z b then 0 else gs.size+3)else 0)=_;rw[if_pos (s6 d aj).1,if_pos aj]
 have M:∀b,aI.heap.size<=b->G.bO b=0:=λb hb=>by show(if b<aI.heap.size then(if fs z b then 0 else gs.size+3)else 0)=_;rw[if_neg (by omega)]
 have aw:∀g b,G.ro g b->(fs z b\/b=c.bX\/b=c.a7\/b=c.iH\/b=c.ja)\/(g=0/\b=c.L):=λg b C=>by
  rcases C with⟨_,h|h|h⟩|⟨_,h|h⟩|⟨_,h⟩|h
  .exact .inl (.inl h)
  .exact .inl (.inr (.inl h))
  .exact .inl (.inr (.inr (.inl h)))
  .exact .inl (.inr (.inr (.inr (.inl h))))
  .exact .inl (.inr (.inr (.inr (.inr h))))
  .exact .inl (.inr (.inl h))
  .exact .inr h
 have bL:∀g b,G.ro g b->b<u.heap.size:=λg b C=>by
  rcases aw g b C with(h|rfl|rfl|rfl|rfl)|⟨_,rfl⟩
  .have:=(s6 d h).1;omega
  .exact av V
  .exact av U
  .exact av W
  .exact av Y
  .omega
 have aN:∀g b,(b=c.W\/b=c.ch\/b=c.O)->g≠0->¬G.ro g b:=λg b hb T C=>by
  rcases aw g b C with(h|rfl|rfl|rfl|rfl)|⟨J,_⟩
  .have:=(s6 d h).1
   rcases hb with rfl|rfl|rfl
   .have:=E.1;omega
   .have:=E.2.1;omega
   .omega
  .rcases hb with e|e|e
   .exact ag.2.2 3 _ _ _ V e
   .exact af.2.2 3 _ _ _ V e
   .exact R.eV 3 2 _ _ _ _ _ _ V aa (by decide) e
  .rcases hb with e|e|e
   .exact ag.2.2 1 _ _ _ U e
   .exact af.2.2 1 _ _ _ U e
   .exact R.eV 1 2 _ _ _ _ _ _ U aa (by decide) e
  .rcases hb with e|e|e
   .exact ag.2.2 4 _ _ _ W e
   .exact af.2.2 4 _ _ _ W e
   .exact R.eV 4 2 _ _ _ _ _ _ W aa (by decide) e
  .rcases hb with e|e|e
   .exact ag.2.2 5 _ _ _ Y e
   .exact af.2.2 5 _ _ _ Y e
   .exact R.eV 5 2 _ _ _ _ _ _ Y aa (by decide) e
  .exact T J
 have bG:=bp d.aZ;have bM:∀g,¬G.ro g c.W/\¬G.ro g c.ch:=λg=>by
  by_cases T:g=0
  .constructor
   .intro C
    rcases C with⟨I|I,_⟩|⟨I,_⟩|⟨I,_⟩|⟨_,I⟩
    all_goals (have:=E.1;omega)
   .intro C
    rcases C with⟨I|I,_⟩|⟨I,_⟩|⟨I,_⟩|⟨_,I⟩
    all_goals (have:=E.2.1;omega)
  .exact⟨aN g _ (.inl rfl) T,aN g _ (.inr (.inl rfl)) T⟩
 have aP:Apart Z G:=by
  refine⟨?_,?_,E.2.2,aB,λb hb=>?_,bM⟩
  .show z.T≠c.W;have:=E.1;omega
  .show z.T≠c.ch;have:=E.2.1;omega
  .have aG:=d.dD b hb
   have aH:¬fs z b:=λh=>(s6 d h).2 hb
   refine⟨λe=>aH (.inl e),?_,?_,aX b aG aH,λg C=>?_⟩
   .show b≠c.W;have:=E.1;omega
   .show b≠c.ch;have:=E.2.1;omega
   .rcases aw g b C with(h|rfl|rfl|rfl|rfl)|⟨_,rfl⟩
    .exact aH h
    .omega
    .omega
    .omega
    .omega
    .rw[ar]at hb;exact d.js.2.2.2.2.2.2 hb
 have bR:dv Z G (u.at cb):=⟨(aK _ bG).trans d.aZ,ag.1,af.1,λb hb _=>aK b hb,bH⟩
 have a3:fT G:=⟨⟨rfl,rfl,rfl⟩,rfl,Nat.le_refl 2,rfl,⟨λ_=>rfl,λ_=>(show(17:Nat)<26 by decide)⟩,⟨λ_=>rfl,λ_=>(show(17:Nat)<27 by decide)⟩,(λe=>by cases e),Nat.le_refl 17,λk w=>by cases k<;>cases w⟩
 have aL:∀i a,t.size<=i->touchAt t i≠some a:=λi a F K=>by obtain⟨y,bD,_⟩:=touch_of K;have:=lt_size_of_getElem? bD;omega
 have aW:∀(i:Nat) op,t.size<=i->t[i]?≠some op:=λi op F ao=>by have:=lt_size_of_getElem? ao;omega
 have bS:(u.at bE).heap.size=u.heap.size:=rfl;have bO:ep Z aO t u.heap.size:=by
  refine⟨⟨ai.clean,Pk,λi a F K=>absurd K (aL i a F),λi op a F ao=>absurd ao (aW i op F),λi a F K=>absurd K (aL i a F),ai.seen⟩,λg C=>?_,λk w=>?_,bm,λk=>?_,?_,λj bq=>?_,λk w=>?_,(λw=>by cases w),λ_ i a F K=>absurd K (aL i a F),λi op F ao=>absurd ao (aW i op F),λi g _ C am bk=>ai.over i g C am bk⟩
  .have:g=0:=by
    rcases C with e|⟨k,_,w⟩|⟨_,w⟩
    .exact e
    .cases k<;>exact absurd rfl w
    .exact absurd rfl w
   subst this;refine⟨λi a _ K hm=>ai.known i a K hm,λl aR _ _ i a K e bV=>?_⟩;rcases ai.known i a K (by rw[e];exact aR.2.1)with k|⟨⟨a1,D,H⟩,_⟩
   .exact k
   .exfalso
    rw[e]at D;have aT:G.ro 0 (blk l):=aR.1;rw[D]at aT;rcases aT with⟨I|I,_⟩|⟨I,_⟩|⟨I,_⟩|⟨_,I⟩
    .omega
    .omega
    .omega
    .omega
    .have I:a1.block=c.L:=I
     rw[I,ar]at H;exact d.js.2.2.2.2.2.2 H
  .cases k<;>cases w
  .rw[aq.above _ (by cases k<;>simp[Stat.wk,Z,vj])]
   cases k<;>rfl
  .exact aq.above _ (by show gs.size<=gs.size+2;omega)
  .exact aq.above _ (by have:gs.size+2<j:=bq;omega)
  .cases k<;>cases w
 have bt:∀g,gp Z G g↔(gp Z aO g\/g=dR.num Z (.de false)):=λg=>by
  constructor
  .rintro(e|⟨k,e,w⟩|⟨e,w⟩)
   .exact .inl (.inl e)
   .cases k
    .exact .inr e
    .exact absurd rfl w
   .exact absurd rfl w
  .rintro((e|⟨k,e,w⟩|⟨e,w⟩)|e)
   .exact .inl e
   .cases k<;>exact absurd rfl w
   .exact absurd rfl w
   .exact .inr (.inl ⟨false,e,λh=>by cases h⟩)
 have row:∀g b,g≠0->G.ro g b->G.bO b=0:=λg b T C=>by
  rcases aw g b C with(h|rfl|rfl|rfl|rfl)|⟨J,_⟩
  .exact aY b h
  .exact M _ t3
  .exact M _ t1
  .exact M _ t4
  .exact M _ t5
  .exact absurd J T
 obtain⟨⟨bv,bT⟩,bA⟩:=bj.spawn (ta kd) (f:=.func 80) (c:=#[pt c.W,pt c.bX,pt c.iH,pt c.a7,pt c.ja]) (a:=#[]) (hi:=[1,3,4,5]) (to:=⟨17,c,nd (hS c) [1,3,4,5]⟩) Pl;have aJ:=runT_crowd_spawn (P:=aF) (sl:=aZ) C (show stepG aF (0 == 0) (bQ x (bu::rest)) (u.at cb)=_ from bA true (x.2++bu::rest) .running none (u.at cb));have bN:ep Z G (t++#[({g:=0,fn:=x.1.fn,pos:=x.1.place,act:=.go gs.size}:MemOp),{g:=gs.size,fn:=Tryz.prog.funcs.size,pos:=x.1.place,act:=.start}]) u.heap.size:=
  bO.spawn (au:=G) (x:={g:=0,fn:=x.1.fn,pos:=x.1.place,act:=.go gs.size}) (y:={g:=gs.size,fn:=Tryz.prog.funcs.size,pos:=x.1.place,act:=.start}) (b3:=.de false) aB rfl rfl (by simp) rfl rfl (λ_ _ h=>h) (λ_ _ _ h=>h) (λb hb=>row _ b (by show gs.size≠0;omega) hb) aP.kB (λj=>⟨by cases j<;>rfl,(λh=>by cases j<;>cases h),λh=>by cases j<;>cases h⟩) ⟨rfl,(λh=>by cases h),λ_=>rfl⟩ bt rfl ⟨rfl,rfl⟩ ⟨rfl,rfl⟩
 have cur:∀b o,b<aI.heap.size->aI.heap[b]?=some o->(u.at cb).heap[b]?=some o:=λb o hb e=>(aK b hb).trans e
 have ba:Base Z G (u.at cb) (t++#[({g:=0,fn:=x.1.fn,pos:=x.1.place,act:=.go gs.size}:MemOp),{g:=gs.size,fn:=Tryz.prog.funcs.size,pos:=x.1.place,act:=.start}]):=by
  refine⟨bR,a3,aP,bN,bL,λb hb=>?_,λb hb aj=>?_,bC,⟨E.1,E.2.1⟩,⟨λk b hb=>?_,λk b hb=>?_,?_,λb hb=>?_,d.hF,d.cT,d.kE,d.kk,d.kD,d.uh⟩,row,λk=>?_⟩
  .have:=d.dD b hb
   show b<u.heap.size;omega
  .by_cases ak:fs z b
   .exact .inr ⟨aY b ak,gs.size,by omega,.inl ⟨.inl rfl,.inl ak⟩⟩
   .exact .inl (aX b hb ak)
  .exact .inl ⟨by cases k<;>simp[Stat.wk,Z,vj],.inl hb⟩
  .exact .inl ⟨by cases k<;>simp[Stat.wk,Z,vj],.inr hb⟩
  .exact .inr (.inr (.inl ⟨rfl,rfl⟩))
  .have ak:fs z b:=.inr hb
   have aG:=(s6 d ak).1;refine⟨⟨λe=>?_,?_,?_⟩,aG⟩
   .have e:b=z.T:=e
    have J:=d.aZ;have ap:∀{o:Obj} {n:Nat},aI.heap[b]?=some o->(match o with |.cells c _ _=>c.size|_=>0)=n->n≠28->False:=λ{o n} I aA a9=>by rw[e,J]at I;have:=Pm I;subst this;simp[vn]at aA;exact a9 aA.symm
    rcases hb with hb|hb|hb|hb|hb
    .exact ap (by rw[hb];exact d.hF) rfl (by simp)
    .exact ap (by rw[hb];exact d.cT) rfl (by simp)
    .exact ap (by rw[hb];exact d.kE) rfl (by simp)
    .exact ap (by rw[hb];exact d.kk) rfl (by simp)
    .exact ap (by rw[hb];exact d.kD) rfl (by simp)
   .show b≠c.W;have:=E.1;omega
   .show b≠c.ch;have:=E.2.1;omega
  .cases k
   .exact⟨rfl,aD,rfl,rfl,rfl⟩
   .exact⟨rfl,aD,rfl,rfl,rfl⟩
 have fq:∀(i:Nat) own b o,(hS c)[i]?=some (own,b,o)->b≠z.T/\b≠c.W/\b≠c.ch:=λi own b o e=>by
  refine⟨λae=>?_,ag.2.2 i own b o e,af.2.2 i own b o e⟩;rcases i with _|_|_|_|_|_|i
  .have e:some (false,c.L,fZ)=some (own,b,o):=e
   cases e;exact bc ae
  .have e:some (true,c.a7,Obj.cells #[pt c.T] 60 (0,0))=some (own,b,o):=e
   cases e;omega
  .have e:some (true,c.O,Obj.cells #[cN,cN] 22 (0,0))=some (own,b,o):=e
   cases e;omega
  .have e:some (true,c.bX,Obj.cells #[.chan (some c.ch)] 194 (0,0))=some (own,b,o):=e
   cases e;omega
  .have e:some (true,c.iH,Obj.cells #[ad 0] 3 (0,0))=some (own,b,o):=e
   cases e;omega
  .have e:some (true,c.ja,Obj.cells c8 32 (0,0))=some (own,b,o):=e
   cases e;omega
  .simp[hS]at e
 have ax:∀(i:Nat) own b o,(lZ c)[i]?=some (own,b,o)->∃Q,(hS c)[i]?=some (Q,b,o)/\(own=true->b=c.O):=by
  intro i own b o e;rcases i with _|_|_|_|_|_|i
  .have e:some (false,c.L,fZ)=some (own,b,o):=e
   cases e;exact⟨_,a0,λh=>by cases h⟩
  .have e:some (false,c.a7,Obj.cells #[pt c.T] 60 (0,0))=some (own,b,o):=e
   cases e;exact⟨_,U,λh=>by cases h⟩
  .have e:some (true,c.O,Obj.cells #[cN,cN] 22 (0,0))=some (own,b,o):=e
   cases e;exact⟨_,aa,λ_=>rfl⟩
  .have e:some (false,c.bX,Obj.cells #[.chan (some c.ch)] 194 (0,0))=some (own,b,o):=e
   cases e;exact⟨_,V,λh=>by cases h⟩
  .have e:some (false,c.iH,Obj.cells #[ad 0] 3 (0,0))=some (own,b,o):=e
   cases e;exact⟨_,W,λh=>by cases h⟩
  .have e:some (false,c.ja,Obj.cells c8 32 (0,0))=some (own,b,o):=e
   cases e;exact⟨_,Y,λh=>by cases h⟩
  .simp[lZ]at e
 have bJ:∀(i:Nat) own b o,(hS c)[i]?=some (own,b,o)->G.bO b=0\/G.ro 0 b:=λi own b o e=>by
  rcases i with _|i
  .have e:some (false,c.L,fZ)=some (own,b,o):=e
   cases e;exact .inr (.inr (.inr (.inr ⟨rfl,rfl⟩)))
  .refine .inl (M b ?_)
   rcases i with _|_|_|_|_|i
   .have e:some (true,c.a7,Obj.cells #[pt c.T] 60 (0,0))=some (own,b,o):=e
    cases e;exact t1
   .have e:some (true,c.O,Obj.cells #[cN,cN] 22 (0,0))=some (own,b,o):=e
    cases e;exact t2
   .have e:some (true,c.bX,Obj.cells #[.chan (some c.ch)] 194 (0,0))=some (own,b,o):=e
    cases e;exact t3
   .have e:some (true,c.iH,Obj.cells #[ad 0] 3 (0,0))=some (own,b,o):=e
    cases e;exact t4
   .have e:some (true,c.ja,Obj.cells c8 32 (0,0))=some (own,b,o):=e
    cases e;exact t5
   .have:(hS c)[i+5+1]?=_:=e
    simp[hS]at this
 have bg:hZ Z G ⟨x.1.finish undef,x.2++(bu::rest),.running,none,none⟩ (u.at cb) c (lZ c) (x.1.finish undef,x.2) a 400:=by
  refine⟨⟨bv,Pk,rfl,rfl,rfl,⟨λi own b o e=>?_,λi j own b o Q az aM e ae am=>?_⟩,λi own b o e=>?_⟩,?_⟩
  .obtain⟨_,D,_⟩:=ax i own b o e
   exact R.has i _ _ _ D
  .obtain⟨_,D,_⟩:=ax i own b o e
   obtain⟨_,H,_⟩:=ax j Q az aM ae;exact R.eV i j _ _ _ _ _ _ D H am
  .obtain⟨_,D,H⟩:=ax i own b o e
   refine⟨fq i _ b o D,bJ i _ b o D,λh=>?_⟩;rw[H h];exact⟨M _ t2,λg T=>aN g _ (.inr (.inr rfl)) T⟩
  .exact tS (λk=>by cases k<;>rfl) (show(17:Nat)<=28 by decide) ⟨aD,rfl,rfl,rfl,rfl,rfl⟩ (λ_=>rfl) rfl
 have ah:∀(i:Nat) own b o,(gZ (mW c))[i]?=some (own,b,o)->own=false/\∃S Q,(hS c)[S]?=some (Q,b,o)/\G.ro gs.size b/\G.bO b=0/\S = [3,4,1,5].getD i 0:=by
  intro i own b o e;rcases i with _|_|_|_|i
  .have e:some (false,c.bX,Obj.cells #[.chan (some c.ch)] 194 (0,0))=some (own,b,o):=e
   cases e;exact⟨rfl,3,_,V,.inl ⟨.inl rfl,.inr (.inl rfl)⟩,M _ t3,rfl⟩
  .have e:some (false,c.iH,Obj.cells #[ad 0] 3 (0,0))=some (own,b,o):=e
   cases e;exact⟨rfl,4,_,W,.inr (.inl ⟨rfl,.inl rfl⟩),M _ t4,rfl⟩
  .have e:some (false,c.a7,Obj.cells #[pt c.T] 60 (0,0))=some (own,b,o):=e
   cases e;exact⟨rfl,1,_,U,.inl ⟨.inl rfl,.inr (.inr rfl)⟩,M _ t1,rfl⟩
  .have e:some (false,c.ja,Obj.cells c8 32 (0,0))=some (own,b,o):=e
   cases e;exact⟨rfl,5,_,Y,.inr (.inl ⟨rfl,.inr rfl⟩),M _ t5,rfl⟩
  .simp[gZ]at e
 have aV:∀{i:Nat} {z:Bool×Nat×Obj},(gZ (mW c))[i]?=some z->i<4:=λe=>by have:=(List.getElem?_eq_some_iff.1 e).1;simpa [gZ]using this
 let fp:ku X.Q:=⟨⟨Frame.enter X.Q 23 #[pt X.ha,.agg c8] .normal,[],X.v0⟩,ds.acc X.going.acc⟩
 have bh:eM X Z G false (bQ (lx (mW c)) []) (u.at cb) (G.s false) (if gC .bP then 3 else 1,fp,30*500+400):=by
  refine .out (p:=.bP) (a2:=false) (x:=lx (mW c)) fp rfl ⟨⟨_,D6 c.W c.bX c.iH c.a7 c.ja c.ch c.T 0,rfl⟩,Pk,rfl,rfl,rfl,⟨λi own b o e=>?_,λi j own b o Q az aM e ae am=>?_⟩,λi own b o e=>?_⟩ (λ_=>rfl) (λi own b o e=>?_) (λv e=>by cases e)
  .obtain⟨_,S,Q,D,_⟩:=ah i own b o e
   exact R.has S _ _ _ D
  .obtain⟨_,S,bY,D,_,_,q1⟩:=ah i own b o e
   obtain⟨_,bn,bZ,H,_,_,bK⟩:=ah j Q az aM ae;refine R.eV S bn _ _ _ _ _ _ D H λhe=>?_
   have I:=aV e;have aA:=aV ae;rw[q1,bK]at he;rcases i with _|_|_|_|i<;>rcases j with _|_|_|_|j<;>first|omega|(simp at he;done)|exact absurd rfl am
  .obtain⟨J,S,Q,D,H,_⟩:=ah i own b o e
   exact⟨fq S _ _ _ D,.inr H,λh=>by rw[J]at h;cases h⟩
  .obtain⟨_,S,Q,D,H,a4,_⟩:=ah i own b o e
   show G.bO b≠gs.size;rw[a4];omega
 have bl:bQ (lx (mW c)) []=(⟨{(default:Frame)with fn:=(iX kd).P.funcs.size,defers:=[⟨.fn (.func 80) #[pt c.W,pt c.bX,pt c.iH,pt c.a7,pt c.ja],#[]⟩],mode:=.panicking [goexitEntry]},[],.running,none,none⟩:Goroutine):=rfl;rw[<-bl]at aJ;obtain⟨bf,al⟩:∃bf,bf=(gs.setIfInBounds 0 (⟨x.1.finish undef,x.2++bu::rest,.running,none,none⟩:Goroutine)).push (bQ (lx (mW c)) []):=⟨_,rfl⟩
 rw[<-al]at aJ;have bP:(gs.setIfInBounds 0 (⟨x.1.finish undef,x.2++bu::rest,.running,none,none⟩:Goroutine)).size=gs.size:=by simp
 have a5:bf[0]?=some ⟨x.1.finish undef,x.2++bu::rest,.running,none,none⟩:=by rw[al,PA,if_neg (by rw[bP];omega),PC aB]
 have a7:∀i,i≠0->i<gs.size->bf[i]?=gs[i]?:=λi J F=>by rw[al,PA,if_neg (by rw[bP];omega),PB (Ne.symm J)]
 have a6:bf[gs.size]?=some (bQ (lx (mW c)) []):=by rw[al,PA,if_pos (by rw[bP])]
 have bo:∀i,Deaf (t++#[({g:=0,fn:=x.1.fn,pos:=x.1.place,act:=.go gs.size}:MemOp),{g:=gs.size,fn:=Tryz.prog.funcs.size,pos:=x.1.place,act:=.start}]) i=Deaf t i:=λi=>by
  refine m0 (B:=0) (λop aS=>?_) i;simp only[List.mem_toArray,List.mem_cons,PD,or_false]at aS;rcases aS with rfl|rfl
  .exact⟨rfl,by simp,by simp,trivial⟩
  .exact⟨rfl,by simp,by simp,trivial⟩
 have bb:dP X Z G bf (u.at cb) (t++#[({g:=0,fn:=x.1.fn,pos:=x.1.place,act:=.go gs.size}:MemOp),{g:=gs.size,fn:=Tryz.prog.funcs.size,pos:=x.1.place,act:=.start}]) (a*500+400) (λ_=>(if gC .bP then 3 else 1,fp,30*500+400)) 0 q true (λ_=>true) false:=by
  refine⟨ba,?_,⟨_,c,lZ c,_,a,400,a5,bg,rfl,.run rfl⟩,λk w=>?_,(λp bw=>by cases bw),λi a8 J aC aQ=>?_⟩
  .rw[al,Array.size_push,bP];rfl
  .cases k
   .exact⟨_,a6,bh,.run rfl (Nat.succ_ne_zero _)⟩
   .exact absurd rfl w
  .have aC:i<gs.size:=aC
   rw[a7 i (by omega) aC]at aQ;rw[bo];exact aq.old i a8 J aQ
 refine Ends.next (bB.trans aJ) ?_;rw[yo];exact dP.ends (Z:=Z) rfl br (λbf ay a' r aU hd bz sl=>fin Z rfl rfl bf ay a' r aU hd bz sl) bb aZ
end
section
variable{Pos:Type}{A:cS Pos}{u ay w:World}{t a':Trace}{gs bf:Array Goroutine}{x y:bs}{n j a d:Nat}{p q:Pos}{bF:Machine->Outcome->World->Trace->Prop}{base:List Frame}{aE:Nat->Prop}
structure hs(A:cS Pos)(base:List Frame)(aE:Nat->Prop)(gs:Array Goroutine)(u:World)(t:Trace)(d:Nat)(p:Pos)(x:bs)(n j:Nat):Prop where
 on:eA A n p j x
 le:j<=400
 gr:b5 A.P aE gs (bQ x base) u t d
def hs.quiet(T:dk A.P A.ext)(h:hs A base aE gs u t d p x n j)(k:∀gs c t x j a,hs A base aE gs (u.at c) t d p x n j->n=a+1->At A a p x->∀sl,Ends A.P bF (crowd gs (u.at c) sl) t):∀sl,Ends A.P bF (crowd gs u sl) t:=by
 have key:∀j gs e t x,hs A base aE gs (u.at e) t d p x n j->∀sl,Ends A.P bF (crowd gs (u.at e) sl) t:=by
  intro j;induction j using Nat.strongRecOn with
  |_ j r=>
  intro gs e t x h sl;rcases h.on.step T with⟨a,l,g⟩|⟨y,bn,i,o,q⟩
  .exact k gs e t x j a h l g sl
  .refine h.gr.step (λc=>⟨bQ y base,u.at c,#[],q true base .running none (u.at c),rfl,Pk,(λe he=>by simp at he),λbf a' w f=>?_⟩) sl
   exact r bn i bf c a' y ⟨o,by have:=h.le;omega,f⟩ w
 exact key j gs u.drawn t x h
def hs.fix(T:dk A.P A.ext)(w:∀p,A.dA p<=400)(h:hs A base aE gs u t d p x n j)(i:At A a p x){nr wk:Bool}{an:List df}{f:List cr}(he:Edge.fix nr wk an f q∈A.cq p)(hd:∀c,∃ay es,Does (u.at c) f ay es/\u.heap.size<=ay.heap.size/\(∀e∈gY nr (cB f),mO aE ay.heap.size e)/\∀gs t x,hs A base aE gs ay t (deafBehind d (gY nr (cB f)).toArray) q x a (A.dA q)->∀sl,Ends A.P bF (crowd gs ay sl) t):∀sl,Ends A.P bF (crowd gs u sl) t:=by
 obtain⟨y,B,_,_,C⟩:=i.fix T he;refine h.gr.step λc=>?_
 obtain⟨ay,es,l,D,r,z⟩:=hd c;exact⟨bQ y base,ay,_,C true base .running none (u.at c) ay _ l,rfl,D,λe o=>r e (by simpa using o),λbf a' E g=>z bf a' y ⟨B,w _,g⟩ E⟩
def hs.leave{bu:Frame}{rest:List Frame}(h:hs A (bu::rest) aE gs u t d p x n j)(i:Kept bu)(g:At A a p x){v:Value}(he:Edge.leave v∈A.cq p)(k:∀gs c t,b5 A.P aE gs ⟨er A.kd bu v,rest,.running,none,none⟩ (u.at c) t d->∀sl,Ends A.P bF (crowd gs (u.at c) sl) t):∀sl,Ends A.P bF (crowd gs u sl) t:=by
 obtain⟨o,l⟩:=g.leave he;refine h.gr.step λc=>⟨_,u.at c,#[],?_,rfl,Pk,(λe he=>by simp at he),λbf a' q f=>k bf c a' f q⟩
 have:=l true .running none bu rest (u.at c) i;show stepG A.P true (bQ x (bu::rest)) (u.at c)=_;rw[show bQ x (bu::rest)=⟨x.1,bu::rest,.running,none,none⟩ by rw[bQ,o];rfl];exact this
end
section
variable{Pos:Type}{A:cS Pos}{u ay aI:World}{t a':Trace}{gs bf:Array Goroutine}{x y:bs}{n j a:Nat}{p q:Pos}{bF:Machine->Outcome->World->Trace->Prop}{base:List Frame}{aE:Nat->Prop}
structure bD(A:cS Pos)(aE:Nat->Prop)(aI:World)(u:World)(M:Mem):Prop where
 mem:fF M u
 old:∀b,b<aI.heap.size->u.heap[b]?=aI.heap[b]?
 calm:Calm aI u
 eD:∀(i:Nat) own b o,M[i]?=some (own,b,o)->aI.heap.size<=b/\¬aE b
 dD:∀b,aE b->b<u.heap.size
def bD.at{M:Mem}(h:bD A aE aI u M)(k:Nat):bD A aE aI (u.at k) M:=⟨⟨h.mem.has,h.mem.eV⟩,h.old,h.calm.trans (Calm.at u k),h.eD,h.dD⟩
structure eB(A:cS Pos)(base:List Frame)(aE:Nat->Prop)(aI:World)(gs:Array Goroutine)(u:World)(t:Trace)(p:Pos)(x:bs)(n j:Nat):Prop where
 on:eA A n p j x
 le:j<=400
 bM:bD A aE aI u (A.mem p)
 gr:b5 A.P aE gs (bQ x base) u t 0
def eB.quiet(T:dk A.P A.ext)(h:eB A base aE aI gs u t p x n j)(k:∀gs u t x a,bD A aE aI u (A.mem p)->b5 A.P aE gs (bQ x base) u t 0->n=a+1->At A a p x->∀sl,Ends A.P bF (crowd gs u sl) t):∀sl,Ends A.P bF (crowd gs u sl) t:=by
 induction j using Nat.strongRecOn generalizing gs u t x with
 |_ j q=>
 intro sl;rcases h.on.step T with⟨a,i,f⟩|⟨y,bn,g,l,o⟩
 .exact k gs u t x a h.bM h.gr i f sl
 .refine h.gr.step (λc=>⟨bQ y base,u.at c,#[],o true base .running none (u.at c),rfl,Pk,(λe he=>by simp at he),λbf a' r d=>?_⟩) sl
  exact q bn g ⟨l,by have:=h.le;omega,h.bM.at c,d⟩ r
def eB.bH(T:dk A.P A.ext)(F:∀p,A.dA p<=400)(h:eB A base aE aI gs u t p x (n+1) j){ops:List gO}(he:Edge.bH ops q∈A.cq p)(k:∀gs u t x,eB A base aE aI gs u t q x n (A.dA q)->∀sl,Ends A.P bF (crowd gs u sl) t):∀sl,Ends A.P bF (crowd gs u sl) t:=by
 refine h.quiet T λgs u t x a P z Q D=>?_
 obtain rfl:n=a:=by omega
 obtain⟨y,H,I,J⟩:=D.bH T he;refine z.step λg=>?_
 have m:=P.at g;obtain⟨ay,hd,hm,r,_,K,G,w,E,_⟩:=sC I m.mem;refine⟨bQ y base,ay,_,J true base .running none (u.at g) ay _ hd,rfl,r.size,λe d=>?_,λbf a' M l=>?_⟩
 .obtain⟨i,own,b,o,off,wr,f,rfl,_⟩:=w e (by simpa using d)
  exact wT (by rw[K];exact fB m.mem f) (m.eD i own b o f).2
 .have C:deafBehind 0 (cB (ih (A.mem p) ops)).toArray=0:=deafBehind_still (λe d=>by obtain⟨i,own,b,o,off,wr,f,rfl,_⟩:=w e (by simpa using d);exact⟨by simp,by simp⟩) 0
  rw[C]at l;refine k bf ay a' y ⟨H,F _,⟨hm,λb c=>?_,m.calm.trans r,λi own b o e=>?_,λb c=>by have:=m.dD b c;omega⟩,l⟩ M
  .rw[G b λi o e=>by have:=(m.eD i true b o e).1;omega]
   exact m.old b c
  .obtain⟨L,B⟩:=E i own b o e
   exact m.eD i own b L B
def eB.new(T:dk A.P A.ext)(E:∀p,A.dA p<=400)(h:eB A base aE aI gs u t p x (n+1) j){dV:Bool}{o:Obj}{to:Nat->Pos}(he:Edge.new dV o to∈A.cq p)(k:∀gs u t x b,eB A base aE aI gs u t (to b) x n (A.dA (to b))->∀sl,Ends A.P bF (crowd gs u sl) t):∀sl,Ends A.P bF (crowd gs u sl) t:=by
 refine h.quiet T λgs u t x a c B J D=>?_
 obtain rfl:n=a:=by omega
 refine B.step λd=>?_
 obtain⟨y,F,r,H⟩:=D.new T he u.heap.size;have m:=c.at d;have w:aI.heap.size<=u.heap.size:=c.calm.size;have l:∀b,b<u.heap.size->((u.at d).heap.push o)[b]?=u.heap[b]?:=λb f=>by rw[PA,if_neg (by show b≠u.heap.size;omega)];rfl
 refine⟨bQ y base,_,#[],H true base .running none (u.at d) rfl,rfl,by simp;exact Nat.le_succ _,(λe he=>by simp at he),λbf a' I C=>?_⟩;have fin:eB A base aE aI bf {(u.at d)with heap:=(u.at d).heap.push o} a' (to u.heap.size) y n (A.dA (to u.heap.size)):=by
  refine⟨F,E _,⟨?_,λb f=>(l b (by omega)).trans (m.old b f),⟨by simp;exact Po w (Nat.le_succ _),c.calm.tape,c.calm.output,c.calm.os⟩,?_,λb f=>by have:=m.dD b f;simp;exact Nat.lt_succ_of_lt this⟩,C⟩
  .rw[r]
   cases dV with
   |true=>exact m.mem.push rfl
   |false=>exact m.mem.keep λi own b g e=>l b (fB c.mem e)
  .intro i own b g e
   rw[r]at e;cases dV with
   |false=>exact m.eD i own b g e
   |true=>
    have e:(A.mem p++[(true,u.heap.size,o)])[i]?=some (own,b,g):=e;rcases Nat.lt_or_ge i (A.mem p).length with aj|aj
    .rw[PF aj]at e;exact m.eD i own b g e
    .rw[PE aj]at e
     rcases z:i-(A.mem p).length with _|q
     .rw[z]at e;simp at e
      obtain⟨_,rfl,_⟩:=e;refine⟨w,λG=>?_⟩;have:=c.dD _ G;omega
     .rw[z]at e;simp at e
 exact k bf _ a' y u.heap.size fin I
def eB.leave(T:dk A.P A.ext){bu:Frame}{rest:List Frame}(h:eB A (bu::rest) aE aI gs u t p x (n+1) j)(i:Kept bu){v:Value}(he:Edge.leave v∈A.cq p)(k:∀gs u t,bD A aE aI u (A.mem p)->b5 A.P aE gs ⟨er A.kd bu v,rest,.running,none,none⟩ u t 0->∀sl,Ends A.P bF (crowd gs u sl) t):∀sl,Ends A.P bF (crowd gs u sl) t:=by
 refine h.quiet T λgs u t x a r d w g=>?_
 obtain⟨o,l⟩:=g.leave he;refine d.step λc=>⟨_,u.at c,#[],?_,rfl,Pk,(λe he=>by simp at he),λbf a' q f=>k bf (u.at c) a' (r.at c) f q⟩
 have:=l true .running none bu rest (u.at c) i;show stepG A.P true (bQ x (bu::rest)) (u.at c)=_;rw[show bQ x (bu::rest)=⟨x.1,bu::rest,.running,none,none⟩ by rw[bQ,o];rfl];exact this
def eB.jP(T:dk A.P A.ext){bu:Frame}{rest:List Frame}(h:eB A (bu::rest) aE aI gs u t p x (n+1) j)(F:Kept bu){ops:List gO}{v:Value}(he:Edge.jP ops v∈A.cq p)(k:∀gs u t,bD A aE aI u (cK (A.mem p) ops)->b5 A.P aE gs ⟨er A.kd bu v,rest,.running,none,none⟩ u t 0->∀sl,Ends A.P bF (crowd gs u sl) t):∀sl,Ends A.P bF (crowd gs u sl) t:=by
 refine h.quiet T λgs u t x a P z Q D=>?_
 obtain⟨M,w,J,H⟩:=D.jP he;refine z.step λc=>?_
 have m:=P.at c;obtain⟨ay,hd,hm,q,_,I,G,r,E,_⟩:=sC w m.mem;have e:cK (A.mem p) ops=M:=by unfold cK;rw[w]
 refine⟨⟨er A.kd bu v,rest,.running,none,none⟩,ay,(cB (ih (A.mem p) ops)).toArray,?_,rfl,q.size,λe f=>?_,λbf a' L l=>?_⟩
 .have:=H true .running none bu rest (u.at c) ay _ F hd
  show stepG A.P true (bQ x (bu::rest)) (u.at c)=_;rw[show bQ x (bu::rest)=⟨x.1,bu::rest,.running,none,none⟩ by rw[bQ,J ⟨_,_,_,hd⟩];rfl];exact this
 .obtain⟨i,own,b,o,off,wr,g,rfl,_⟩:=r e (by simpa using f)
  exact wT (by rw[I];exact fB m.mem g) (m.eD i own b o g).2
 .have C:deafBehind 0 (cB (ih (A.mem p) ops)).toArray=0:=deafBehind_still (λe f=>by obtain⟨i,own,b,o,off,wr,g,rfl,_⟩:=r e (by simpa using f);exact⟨by simp,by simp⟩) 0
  rw[C]at l;refine k bf ay a' (by
   rw[e];refine⟨hm,λb d=>?_,m.calm.trans q,λi own b o e=>?_,λb d=>by have:=m.dD b d;omega⟩
   .rw[G b λi o e=>by have:=(m.eD i true b o e).1;omega]
    exact m.old b d
   .obtain⟨K,B⟩:=E i own b o e
    exact m.eD i own b K B) l L
def bD.sub{jd:cS Pos}{M bR:Mem}(h:bD A aE aI u M)(d:∀(i:Nat) own b o,bR[i]?=some (own,b,o)->∃(i:Nat) (own:Bool),M[i]?=some (own,b,o))(hd:∀(i j:Nat) own b o g c f,bR[i]?=some (own,b,o)->bR[j]?=some (g,c,f)->i≠j->b≠c):bD jd aE aI u bR:=
 ⟨⟨λi own b o e=>by obtain⟨i,own,e⟩:=d i own b o e;exact h.mem.has i own b o e,hd⟩,h.old,h.calm,λi own b o e=>by obtain⟨i,own,e⟩:=d i own b o e;exact h.eD i own b o e,h.dD⟩
end
section
def At.iu{Pos:Type}{A:cS Pos}{n:Nat}{p:Pos}{x:bs}(h:At A n p x){X:bs}{to:Pos}(he:Edge.join X to∈A.cq p):x=X:=by obtain⟨z,c,rfl⟩:=h;exact(g2.mem c _ he).1
inductive vQ where
 |h4|iF|hy|fz|aq|fin|none
section
variable(b m:Nat)(bB:TypeId×Nat)(kd:CallKind)
abbrev oH:Addr:=⟨b,m,none⟩
def zl:List df:=[.mC (some bB),.tZ false,.val (.int .i32 0)]
noncomputable def uD(n:Nat)(x:bs)(l:List df):bs:=qH Tryz.prog gn (λ_=>false) n x l
noncomputable def ob:bs:=lS Tryz.prog gn (λ_=>false) 400 (uD 400 (uD 400 (uD 400 (Frame.enter Tryz.prog 121 #[.pointer (some ⟨b,m,none⟩)] kd,[]) []) (zl bB)) [])
noncomputable def oG:bs:=lS Tryz.prog gn (λ_=>false) 400 (uD 400 (Frame.enter Tryz.prog 122 #[.pointer (some ⟨b,m,none⟩)] kd,[]) [.val (.int .i32 1)])
noncomputable def Iz:vQ->List (Edge vQ)
 |.h4=>[.fix true false [] [.mark (.extern 104),.mark .disable] .iF]
 |.iF=>[.fix true false (zl bB) [.mark (.extern 136),.shape b (some bB),.frozen (oH b m) false,.load .atomic (oH b m) (.int .i32 0),.store .atomic (oH b m) (.int .i32 1)] .hy]
 |.hy=>[.fix true false [] [.mark (.extern 105),.mark .enable] .fz]
 |.fz=>[.join (ob b m bB kd) .none]
 |.aq=>[.fix true false [] [.mark (.extern 116),.mark (.acquire (oH b m))] .fin]
 |.fin=>[.leave (.tuple #[])]
 |.none=>[]
inductive vY where
 |ld|fz|ck|h4|add|hy|fin|none
noncomputable def N':vY->List (Edge vY)
 |.ld=>[.fix true false [.val (.int .i32 1)] [.load .plain (oH b m) (.int .i32 1)] .fz]
 |.fz=>[.join (oG b m kd) .none]
 |.ck=>[.fix true false [] [.mark (.extern 103),.mark (.releaseMerge (oH b m))] .h4]
 |.h4=>[.fix true false [] [.mark (.extern 104),.mark .disable] .add]
 |.add=>[.fix true false [.val (.int .i32 1)] [.mark (.extern 138),.load .atomic (oH b m) (.int .i32 1),.store .atomic (oH b m) (.int .i32 0)] .hy]
 |.hy=>[.fix true false [] [.mark (.extern 105),.mark .enable] .fin]
 |.fin=>[.leave (.tuple #[])]
 |.none=>[]
end
noncomputable def lR(b m:Nat)(bB:TypeId×Nat)(kd:CallKind):cS vQ:=⟨Tryz.prog,gn,λ_=>false,kd,λ_=>[],λ_=>400,Iz b m bB kd⟩
noncomputable def lu(b m:Nat)(kd:CallKind):cS vY:=⟨Tryz.prog,gn,λ_=>false,kd,λ_=>[],λ_=>400,N' b m kd⟩
def sE{P:Program}{t:TypeId}{d:TypeDesc}(hu:P.underlying t=some d)(w:World)(acc:Array Event):(underlying t).runT P w acc=(.ok d w,acc):=by show(match P.underlying t with|some d=>(pure d:Sem TypeDesc)|none=>stuck "no such type").runT P w acc=_;rw[hu];rfl
def B'{P:Program}{t:TypeId}{i:TypeInfo}(c:P.info? t=some i)(w:World)(acc:Array Event):(sizeOf t).runT P w acc=(.ok i.size w,acc):=by show((match P.info? t with|some d=>(pure d:Sem TypeInfo)|none=>stuck "no such type") >>= λi=>(pure i.size:Sem Nat)).runT P w acc=_;rw[c];rfl
def B9{P:Program}(r:Nat)(w:World)(acc:Array Event):(shape r).runT P w acc=(.ok (w.shape? r) w,acc):=rfl
def i'{P:Program}{α β:Type}{s:Sem α}{f:α->Sem β}{w aG:World}{acc c:Array Event}{a:α}(h:s.runT P w acc=(.ok a aG,c)):(s >>= f).runT P w acc=(f a).runT P aG c:=by show(s.bind f).runT P w acc=_;rw[Sem.runT_bind',h]
def FI{P:Program}{src dst t:TypeId}{i:TypeInfo}(c:P.underlying src=some (.pointer t))(hd:P.underlying dst=some .unsafePointer)(j:P.info? t=some i)(o:i.size≠0){w:World}{b m e n:Nat}(d:w.shape? b=some (e,n))(p:m<n):
 (convert src dst (.pointer (some ⟨b,m,none⟩))).runT P w #[]=(.ok (.pointer (some ⟨b,m,none⟩)) w,#[]):=by
 have l:(viewAt b).runT P w #[]=(.ok none w,#[]):=by unfold viewAt;rw[i' (B9 b w #[]),d];rfl
 have g:(cellsIn b).runT P w #[]=(.ok (some n) w,#[]):=by unfold cellsIn;rw[i' (B9 b w #[]),d];rfl
 have f:(Conv.seenAt ⟨b,m,none⟩).runT P w #[]=(.ok ⟨b,m,none⟩ w,#[]):=by unfold Conv.seenAt;rw[i' l];rfl
 unfold convert;rw[i' (sE c w #[]),i' (sE hd w #[])];show(Conv.unsafePointer src dst (.pointer (some ⟨b,m,none⟩))).runT P w #[]=_;unfold Conv.unsafePointer;rw[i' (sE c w #[]),i' (sE hd w #[])];dsimp only;rw[i' f];dsimp only;rw[i' g];dsimp only;rw[i' (B' j w #[])];have h:¬(n<=m):=by omega
 simp[o,h];rfl
def o5(P:Program)(x:bs):Option (Oper×Addr):=
 match x.1.kind,x.1.roundOf,x.1.mode,x.1.todo with
 |.normal,none,.run,.inRegion ops (i::_)::_ |.deferred,none,.run,.inRegion ops (i::_)::_=>
  if ((ops[i]?).map (Region.wanted · (yielded ops x.1.tmps))).getD false then
   match ops[i]? with
   |some o=>match o.op with
    |.convert 257 178 v=>match x.1.eval v with
     |.pointer (some a)=>some (o,a)
     |_=>none
    |_=>none
   |none=>none
  else none
 |_,_,_,_=>none
def aF.vv:aF.underlying 257=some (.pointer 95):=by kernel_rfl
def aF.N6:aF.underlying 178=some .unsafePointer:=by kernel_rfl
def aF.i96:(aF.info? 95).map (·.size)=some 2:=by kernel_rfl
def zW{x:bs}{o:Oper}{b m:Nat}(h:o5 aF x=some (o,⟨b,m,none⟩)){w:World}{e n:Nat}(D:w.shape? b=some (e,n))(u:m<n)(main:Bool)(base:List Frame)(st:GoStatus)(off:Option (Array CommCase×CommShape)):
 stepG aF main ⟨x.1,x.2++base,st,none,off⟩ w=.go ⟨x.1.finish (.pointer (some ⟨b,m,none⟩)),x.2++base,.running,none,none⟩ w #[]:=by
 obtain⟨i96,q,F⟩:∃i,aF.info? 95=some i/\i.size=2:=by
  have:=aF.i96;cases e:aF.info? 95 with
  |none=>rw[e]at this;cases this
  |some i=>rw[e]at this;exact⟨i,rfl,by simpa using this⟩
 obtain⟨⟨fn,tmps,todo,defers,mode,kind,ro⟩,cs⟩:=x;unfold o5 at h;dsimp only at h ⊢;have key:∀(ops:Array Oper) (i:Nat) (rest:List Nat) (k:List Item),todo=.inRegion ops (i::rest)::k->mode=.run->ro=none->(kind=.normal\/kind=.deferred)->
  (if ((ops[i]?).map (Region.wanted · (yielded ops tmps))).getD false then
   match ops[i]? with
   |some o=>match o.op with
    |.convert 257 178 v=>match Frame.eval ⟨fn,tmps,todo,defers,mode,kind,ro⟩ v with
     |.pointer (some a)=>some (o,a)
     |_=>none
    |_=>none
   |none=>none
  else none)=some (o,(⟨b,m,none⟩:Addr))->stepG aF main ⟨⟨fn,tmps,todo,defers,mode,kind,ro⟩,cs++base,st,none,off⟩ w=.go ⟨Frame.finish ⟨fn,tmps,todo,defers,mode,kind,ro⟩ (.pointer (some ⟨b,m,none⟩)),cs++base,.running,none,none⟩ w #[]:=by
  intro ops i rest k E hm C r h;subst E;subst hm;subst C;split at h
  .rename_i d
   rcases c:ops[i]? with _|aS
   .rw[c]at h;cases h
   rw[c]at h;dsimp only at h;split at h
   .rename_i v z
    split at h
    .rename_i a he
     simp only[Option.some.injEq,Prod.mk.injEq]at h;obtain⟨rfl,rfl⟩:=h;rw[pM,c];rw[if_pos (by rw[c]at d;exact d),px (o:=aS) (by simp[Frame.oper?,c]) (.inl rfl)];have B:(execOp (Frame.eval ⟨fn,tmps,.inRegion ops (i::rest)::k,defers,.run,kind,none⟩) aS).runT aF w #[]=(.ok (.value (.pointer (some ⟨b,m,none⟩))) w,#[]):=by
      have f:execOp (Frame.eval ⟨fn,tmps,.inRegion ops (i::rest)::k,defers,.run,kind,none⟩) aS=(convert 257 178 (.pointer (some ⟨b,m,none⟩)) >>= λv=>pure (Next.value v)):=by unfold execOp;rw[z];dsimp only;rw[he]
      rw[f,i' (FI aF.vv aF.N6 q (by omega) D u)];rfl
     refine(qf B ?_).trans ?_
     .rcases r with rfl|rfl<;>rfl
     .rw[ox]
    .cases h
   .cases h
  .cases h
 split at h
 .rename_i g j l p
  exact key _ _ _ _ rfl rfl rfl (.inl rfl) h
 .rename_i g j l p
  exact key _ _ _ _ rfl rfl rfl (.inr rfl) h
 .cases h
set_option maxRecDepth 100000 in
def IA(b m:Nat)(bB:TypeId×Nat)(kd:CallKind)(c:kd=.normal\/kd=.deferred):Good (lR b m bB kd) 10 .h4 (Frame.enter Tryz.prog 121 #[.pointer (some ⟨b,m,none⟩)] kd,[]):=by
 rcases c with rfl|rfl
 all_goals repeat' (first|exact trivial|kernel_rfl|refine⟨?_,?_⟩|intro _)
set_option maxRecDepth 100000 in
def IB(b m:Nat)(bB:TypeId×Nat)(kd:CallKind)(c:kd=.normal\/kd=.deferred):Good (lR b m bB kd) 10 .aq ((ob b m bB kd).1.finish (.pointer (some ⟨b,m,none⟩)),(ob b m bB kd).2):=by
 rcases c with rfl|rfl
 all_goals repeat' (first|exact trivial|kernel_rfl|refine⟨?_,?_⟩|intro _)
def zX{x:bs}{a:Addr}(h:(o5 aF x).map (·.2)=some a):∃o,o5 aF x=some (o,a):=by
 cases e:o5 aF x with
 |none=>rw[e]at h;cases h
 |some y=>rw[e]at h;obtain⟨o,b⟩:=y;cases h;exact⟨o,rfl⟩
def IF(b m:Nat)(bB:TypeId×Nat)(kd:CallKind)(c:kd=.normal\/kd=.deferred):∃o,o5 aF (ob b m bB kd)=some (o,⟨b,m,none⟩):=by
 refine zX ?_;rcases c with rfl|rfl
 .kernel_rfl
 .kernel_rfl
set_option maxRecDepth 100000 in
def Oa(b m:Nat)(kd:CallKind)(c:kd=.normal\/kd=.deferred):Good (lu b m kd) 10 .ld (Frame.enter Tryz.prog 122 #[.pointer (some ⟨b,m,none⟩)] kd,[]):=by
 rcases c with rfl|rfl
 all_goals repeat' (first|exact trivial|kernel_rfl|refine⟨?_,?_⟩|intro _)
set_option maxRecDepth 100000 in
def Ob(b m:Nat)(kd:CallKind)(c:kd=.normal\/kd=.deferred):Good (lu b m kd) 10 .ck ((oG b m kd).1.finish (.pointer (some ⟨b,m,none⟩)),(oG b m kd).2):=by
 rcases c with rfl|rfl
 all_goals repeat' (first|exact trivial|kernel_rfl|refine⟨?_,?_⟩|intro _)
def Of(b m:Nat)(kd:CallKind)(c:kd=.normal\/kd=.deferred):∃o,o5 aF (oG b m kd)=some (o,⟨b,m,none⟩):=by
 refine zX ?_;rcases c with rfl|rfl
 .kernel_rfl
 .kernel_rfl
inductive kQ where
 |di|ar
noncomputable def rO(kd:CallKind):cS kQ:=⟨Tryz.prog,gn,λ_=>false,kd,λ_=>[],λ_=>400,λ_=>[.leave (.bool false)]⟩
set_option maxRecDepth 100000 in
def Et(x:Value)(kd:CallKind)(c:kd=.normal\/kd=.deferred):Good (rO kd) 5 .di (Frame.enter Tryz.prog 54 #[.nilIface,x] kd,[]):=by
 rcases c with rfl|rfl
 all_goals repeat' (first|exact trivial|kernel_rfl|refine⟨?_,?_⟩|intro _)
end
end Go.aN
namespace Go.aN
attribute [-simp] Go.Sem.runT_eq
open Go.Proofs
section
def Cj(fn:Func):Func:={fn with body:=some (.refuse "")}
def hQ(fn:Func):Func:={fn with name:= "",origin:= ""}
def Ji:Extern.allNextRows.lookup "" = none:=by kernel_rfl
def Jg:Extern.allGenericRows.lookup "" = none:=by kernel_rfl
def Jk:Extern.allTypedRows.lookup "" = none:=by kernel_rfl
def Jj:Extern.allRows.lookup "" = none:=by kernel_rfl
def Jv(fn:Func):Extern.findNext (hQ fn)=none:=by unfold Extern.findNext hQ;simp only[Ji];rfl
def Ju(fn:Func):Extern.find (hQ fn)=none:=by unfold Extern.find hQ;simp only[Jg,Jk,Jj];rfl
def iY(fn:Func):Bool:=fn.name != "runtime.NumGoroutine"
def nt(Q:Program)(fn:Func):Bool:=iY fn && match fn.body with
 |some c=>codeOk Q false c
 |none=>false
variable{Q P:Program}{Spec:FuncId->Func->Func->Prop}{K:fV Q P}{f:FuncId}{fn g7:Func}
def qI(h:iY fn=true):fn.name≠ "runtime.NumGoroutine":=by simpa [iY]using h
def Jh:("" : String).endsWith ".init" = false:=by kernel_rfl
def sH(c:fn.body=none)(d:fn.name = "")(g:fn.origin = ""):jg Spec P f fn:=by
 have e:hQ fn=fn:=by unfold hQ;cases fn;simp_all
 exact .none c (by rw[<-e];exact Jv fn) (by rw[<-e];exact Ju fn) (by simp[d,Jh])
def KU(c:fn.body=none):jg Spec P f (hQ fn):=sH c rfl rfl
def my(j:P.funcs[f]?=some fn)(h:nt Q fn=true):jg (eE K) P f fn:=by
 unfold nt at h;rw[Bool.and_eq_true]at h;obtain⟨i,g⟩:=h;cases d:fn.body with
 |none=>rw[d]at g;cases g
 |some c=>
  rw[d]at g;exact .same fn j (by rw[d];rfl) (by rw[d];rfl) (qI i) rfl (.inl ⟨c,c,d,d,rfl,.same g⟩)
def KV(g:P.funcs[f]?=some g7)(c:g7.body.isSome=true)(d:iY g7=true)(h:fn.ntmps=g7.ntmps):jg (eE K) P f (Cj fn):=
 .same g7 g rfl c (qI d) h (.inr (.inl ⟨_,rfl⟩))
def ou(g:K.fn f)(i:P.funcs[f]?=some g7)(c:fn.body.isSome=true)(d:g7.body.isSome=true)(h:iY g7=true)(j:fn.ntmps=g7.ntmps):jg (eE K) P f fn:=
 .same g7 i c d (qI h) j (.inr (.inr g))
def oK(Spec:FuncId->Func->Func->Prop)(P:Program):Nat->List Func->Prop
 |_,[]=>True
 |k,fn::l=>(iY fn=true/\jg Spec P k fn)/\oK Spec P (k+1) l
def oK.get:∀{l:List Func} {k:Nat},oK Spec P k l->∀{i fn},l[i]?=some fn->iY fn=true/\jg Spec P (k+i) fn
 | [],_,_,_,_,e=>by simp at e
 |x::l,k,h,0,fn,e=>by cases e;exact h.1
 |x::l,k,h,i+1,fn,e=>by have:=oK.get (l:=l) h.2 (i:=i) (by simpa using e);rw[Nat.add_assoc,Nat.add_comm 1 i]at this;exact this
def ey.all{l:List Func}(c:Q.funcs=l.toArray)(d:Q.funcs.size=P.funcs.size)(h:oK Spec P 0 l):ey Spec Q P:=⟨d,λf fn e=>by have:=h.get (i:=f) (fn:=fn) (by rw[c]at e;simpa using e);exact⟨qI this.1,by simpa using this.2⟩⟩
end
section
variable{Q P:Program}{K:fV Q P}
def uW(c:P.funcs[88]?=some Tryz.f88):jg (eE K) P 88 Tryz.f88:=
 .ext (Extern.Atomic.loadT (.int .u32)) Tryz.f88 c rfl rfl (by kernel_rfl) (by kernel_rfl) (by kernel_rfl) (by kernel_rfl) (qI rfl) (Hg .u32 (by decide))
def uX(c:P.funcs[123]?=some Tryz.f123):jg (eE K) P 123 Tryz.f123:=
 .ext Extern.Atomic.storeT Tryz.f123 c rfl rfl (by kernel_rfl) (by kernel_rfl) (by kernel_rfl) (by kernel_rfl) (qI rfl) Hh
def pick(sp:List (Nat×Func))(rs:List Nat)(k:Nat)(fn:Func):Func:=
 match sp.lookup k with
 |some g=>g
 |none=>if rs.contains k then Cj fn else if fn.body.isNone then hQ fn else fn
def mix(sp:List (Nat×Func))(rs:List Nat):Nat->List Func->List Func
 |_,[]=>[]
 |k,fn::l=>pick sp rs k fn::mix sp rs (k+1) l
def nH(K:fV Q P):List (Nat×Func)->Prop
 | []=>True
 |x::l=>(iY x.2=true/\jg (eE K) P x.1 x.2)/\nH K l
def nH.get:∀{l:List (Nat×Func)},nH K l->∀{k g},l.lookup k=some g->iY g=true/\jg (eE K) P k g
 | [],_,_,_,e=>by cases e
 |(j,g')::l,h,k,g,e=>by
  rw[List.lookup_cons]at e;by_cases c:k == j
  .simp only[c]at e
   cases e;rw[eq_of_beq c];exact h.1
  .simp only[c]at e
   exact nH.get (l:=l) h.2 e
def uG(Q:Program)(sp:List (Nat×Func))(rs:List Nat):Nat->List Func->Bool
 |_,[]=>true
 |k,fn::l=>((sp.lookup k).isSome||(if rs.contains k then fn.body.isSome && iY fn else fn.body.isNone||nt Q fn)) && uG Q sp rs (k+1) l
def Bt{sp:List (Nat×Func)}{rs:List Nat}(d:nH K sp):∀(l:List Func) (k:Nat),(∀i fn,l[i]?=some fn->P.funcs[k+i]?=some fn)->uG Q sp rs k l=true->oK (eE K) P k (mix sp rs k l)
 | [],_,_,_=>trivial
 |fn::l,k,h,e=>by
  unfold uG at e;rw[Bool.and_eq_true]at e;refine⟨?_,Bt d l (k+1) (λi x q=>by rw[Nat.add_assoc,Nat.add_comm 1 i];exact h (i+1) x (by simpa using q)) e.2⟩;have j:=h 0 fn rfl;rw[Nat.add_zero]at j;unfold pick;cases o:sp.lookup k with
  |some g=>exact d.get o
  |none=>
   have c:=e.1;rw[o]at c;dsimp only at c ⊢;by_cases p:rs.contains k=true
   .rw[if_pos p]at c ⊢
    rw[Option.isSome_none,Bool.false_or,Bool.and_eq_true]at c;exact⟨c.2,KV j c.1 c.2 rfl⟩
   .rw[if_neg p]at c ⊢
    by_cases f:fn.body.isNone=true
    .rw[if_pos f]
     exact⟨rfl,KU (by simpa using f)⟩
    .rw[if_neg f]
     have d:nt Q fn=true:=by simpa [f]using c
     exact⟨by unfold nt at d;rw[Bool.and_eq_true]at d;exact d.1,my j d⟩
def xC{Q:Program}{K:fV Q aF}{sp:List (Nat×Func)}{rs:List Nat}(c:Q.funcs=(mix sp rs 0 aF.funcs.toList).toArray)(f:Q.funcs.size=aF.funcs.size)(d:nH K sp)(h:uG Q sp rs 0 aF.funcs.toList=true):ey (eE K) Q aF:=
 ey.all c f (Bt d _ 0 (λi fn e=>by simpa using e) h)
def p5(Q:Program):List (Nat×Func)->Prop
 | []=>True
 |x::l=>Q.funcs[x.1]?=some x.2/\p5 Q l
def p5.get:∀{l:List (Nat×Func)},p5 Q l->∀{k g},l.lookup k=some g->Q.funcs[k]?=some g
 | [],_,_,_,e=>by cases e
 |(j,g')::l,h,k,g,e=>by
  rw[List.lookup_cons]at e;by_cases c:k == j
  .simp only[c]at e
   cases e;rw[eq_of_beq c];exact h.1
  .simp only[c]at e
   exact p5.get (l:=l) h.2 e
def u7(Q:Program)(sp:List (Nat×Func)):Nat->List Func->Bool
 |_,[]=>true
 |k,fn::l=>((sp.lookup k).isSome||(fn.body.isNone && fn.name == "" && fn.origin == "" || nt Q fn)) && u7 Q sp (k+1) l
def Cu{K:fV Q Q}{sp:List (Nat×Func)}(o:nH K sp)(f:p5 Q sp):∀(l:List Func) (k:Nat),(∀i fn,l[i]?=some fn->Q.funcs[k+i]?=some fn)->u7 Q sp k l=true->oK (eE K) Q k l
 | [],_,_,_=>trivial
 |fn::l,k,h,e=>by
  unfold u7 at e;rw[Bool.and_eq_true]at e;refine⟨?_,Cu o f l (k+1) (λi x p=>by rw[Nat.add_assoc,Nat.add_comm 1 i];exact h (i+1) x (by simpa using p)) e.2⟩;have d:=h 0 fn rfl;rw[Nat.add_zero]at d;cases c:sp.lookup k with
  |some g=>
   have:=f.get c;rw[d]at this;cases this;exact o.get c
  |none=>
   have ar:=e.1;rw[c,Option.isSome_none,Bool.false_or,Bool.or_eq_true]at ar;rcases ar with ar|ar
   .simp only[Bool.and_eq_true,beq_iff_eq]at ar
    have j:fn.name = "":=ar.1.2;exact⟨by unfold iY;rw[j];rfl,sH (by simpa using ar.1.1) j ar.2⟩
   .exact⟨by unfold nt at ar;rw[Bool.and_eq_true]at ar;exact ar.1,my d ar⟩
def yh{Q:Program}{sp:List (Nat×Func)}(d:nH (h5 Q) sp)(c:p5 Q sp)(h:u7 Q sp 0 Q.funcs.toList=true):ey (eE (h5 Q)) Q Q:=
 ey.all (l:=Q.funcs.toList) (by simp) rfl (Cu d c _ 0 (λi fn e=>by simpa using e) h)
end
def vm(T:Nat):Code:=
 .seq (.region 0 #[⟨some 2,.binOp .eql 16 (.tmp 0) (.const (.pointer (some ⟨T,0,none⟩))) 16,4,"",#[],none⟩,⟨some 3,.binOp .eql 3 (.tmp 1) (.const (.int .i64 0)) 3,4,"",#[],none⟩] false)
  (.cond (.tmp 2) (.cond (.tmp 3) (.seq (.region 1 #[⟨some 4,.assign (.const gX),102,"",#[],none⟩] false) .ret) (.refuse "")) (.refuse ""))
noncomputable def bq.bP(T:Nat):Func:={hQ Tryz.f0 with nfree:=T+1}
noncomputable def bq.pI(T:Nat):Func:={Tryz.f37 with body:=some (vm T),results:=#[.tmp 4],nfree:=2,endLine:=1000000007}
def Cs:List Nat:=[54,64,79,80,82,83,121,122,137,187]
noncomputable def bq.list(T:Nat):List Func:=mix [(0,bq.bP T),(37,bq.pI T)] Cs 0 aF.funcs.toList
noncomputable def bq(T:Nat):Program:=⟨Tryz.progTables,(bq.list T).toArray⟩
def bq.size(T:Nat):((bq T)).funcs.size=aF.funcs.size:=by kernel_rfl
def bq.K(T:Nat):fV (bq T) aF:=⟨λ_ _ _=>False,λf=>f=37⟩
def bq.hR(T:Nat):hR (bq T)=some T:=by kernel_rfl
def bq.GG(T:Nat):mg (bq T) 16 (.tmp 0) (.const (.pointer (some ⟨T,0,none⟩)))=true:=by kernel_rfl
def bq.GI(T:Nat):mg (bq T) 3 (.tmp 1) (.const (.int .i64 0))=true:=by kernel_rfl
def bq.JC(T:Nat):nt (bq T) (bq.pI T)=true:=by
 have c:dH (bq T) (.const (.pointer (some ⟨T,0,none⟩)))=true:=by unfold dH pinned;rw[bq.hR];simp
 have d:dH (bq T) (.const (.int .i64 0))=true:=by kernel_rfl
 have f:dH (bq T) (.const gX)=true:=by kernel_rfl
 have g:iY (bq.pI T)=true:=by kernel_rfl
 have h:∀n,dH (bq T) (.tmp n)=true:=λ_=>rfl
 unfold nt;rw[g];show(true && codeOk (bq T) false (vm T))=true;simp[vm,codeOk,oj,nk,c,d,f,h,bq.GG,bq.GI]
def bq.H(T:Nat):ey (eE (bq.K T)) (bq T) aF:=
 xC (sp:=[(0,bq.bP T),(37,bq.pI T)]) (rs:=Cs) rfl (bq.size T) ⟨⟨rfl,sH rfl rfl rfl⟩,⟨rfl,ou rfl Tryz.func37 rfl rfl rfl rfl⟩,trivial⟩ (by kernel_rfl)
def bq.eo(T:Nat):ey (eE (h5 (bq T))) (bq T) (bq T):=
 yh (sp:=[(0,bq.bP T),(37,bq.pI T)]) ⟨⟨rfl,sH rfl rfl rfl⟩,⟨rfl,my (by kernel_rfl) (bq.JC T)⟩,trivial⟩ ⟨by kernel_rfl,by kernel_rfl,trivial⟩ (by kernel_rfl)
def bq.S(T:Nat):bK (bq T) aF:=⟨rfl⟩
def bq.dy(T:Nat):dX (bq T) 37=some 2/\dX (bq T) 23=none:=⟨by kernel_rfl,by kernel_rfl⟩
def bq.tC(T:Nat):(bq T).cellsOf 105=28:=by kernel_rfl
def bq.c3(T:Nat):(bq T).cellsOf 3=1:=by kernel_rfl
end Go.aN
