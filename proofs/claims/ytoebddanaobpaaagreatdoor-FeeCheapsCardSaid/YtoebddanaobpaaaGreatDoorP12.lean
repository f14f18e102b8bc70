/- A part. -/
import Derived.Test.YtoebddanaobpaaaGreatDoorP11
import Derived.KernelRfl
set_option maxHeartbeats 8000000
set_option maxRecDepth 100000
set_option linter.all false
namespace Go.aO
attribute [-simp] Go.Sem.runT_eq
open Go.Proofs Tryz Go.Conc Go.ConcN
variable{M:Mem}{B L b:Nat}{o:Obj}{v:S9}{bx:TB}{ops:Tb gZ}{f:Tw}{Tp:Tz}
section
variable{u aC w:S7}{t bh:Tt}{gs bm:TR}{g:TC}{c bp:fR}{M b7:Mem}{x y:bA}{n j a l aN d:Nat}{bF:TU->T0->S7->Tt->Prop}{kd:Tx}{Tc:Tz}{aH:TM}{aL:S7}{S oz:Tb (Nat×Obj)}
def jf(c:fR):Mem:=[(false,c.L,hf),(true,c.bc,.cells #[pt c.T] 71 (0,0)),(true,c.O,.cells #[dg,dg] 22 (0,0)),(true,c.cg,.cells #[.chan (some c.ch)] 203 (0,0)),(true,c.j0,.cells #[ah 0] 3 (0,0)),(true,c.kq,.cells dC 52 (0,0))]
def kC(W ch:Nat)(v:Int):Tb (Nat×Obj):=[(W,.cells #[.int .u64 v,.int .u32 0] 208 (0,0)),(ch,.chan 0 #[] false 0 0 false)]
def oM{m:Mark}(c:∀x,(MemAct.mark m).touch?=some x->x.kind≠.plain)(d:(MemAct.mark m).low B):ox aH B ⟨.mark m,false,true⟩:=⟨λx f _ _ _=>c x f,d⟩
def tX{o:Nat}{wr:Ta}(d:b<B):ox aH B ⟨.cell (S8 b o),wr,true⟩:=by
 refine⟨λx c _ _ _=>?_,d⟩;have c:some (⟨.cell (S8 b o),wr,.atomic⟩:Touch)=some x:=by cases wr<;>exact c
 rw[<-bD c];simp
def Nw(T L:Nat)(P:TG kd)(H:aL.heap[L]?=some hf)(R:∀b,aH b->b<aL.heap.size)(I:¬aH L)(J:cc aK aH gs (Tk (Frame.enter aK 71 #[pt T,.slice (some (box L)) 2 2] kd) Tc) aL t 0)(k:∀gs u t x j a c,c.T=T->c.L=L->(aL.heap.size<=c.W/\aL.heap.size<=c.ch/\c.W≠c.ch)->jw kd Tc aH aL (kC c.W c.ch 4294967296) gs u t 0 16 c (jf c) x (a+1) j->At (kn kd) a ⟨16,c,jf c⟩ x->Tu aK bF gs u t):Tu aK bF gs aL t:=by
 have F:jw kd Tc aH aL [] gs aL t 0 0 {T:=T,L:=L} [(false,L,hf)] (Frame.enter aK 71 #[pt T,.slice (some (box L)) 2 2] kd,[]) 60 400:=by
  refine⟨⟨_,L2 T L kd P,S6⟩,bg,⟨λi own b o e=>?_,λi j own b o ad U C e E Q=>?_⟩,J,λ_ _=>S6,Calm.refl aL,λi b o e=>?_,λi own b o e=>?_,R,λb o e=>(by cases e)⟩
  .rcases i with _|i<;>simp at e
   obtain⟨rfl,rfl,rfl⟩:=e;exact H
  .rcases i with _|i<;>rcases j with _|j<;>simp at e E Q
  .rcases i with _|i<;>simp at e
  .rcases i with _|i<;>simp at e
   rw[<-e.2.1];exact I
 refine F.quiet λn j gs u t x a _ h g f=>h.new g f (aN:=1) (eA:=true) (bP:=λb=>{T:=T,L:=L,bc:=b}) S6 λgs u t x bc aa h=>?_
 refine h.quiet λn j gs u t x a _ h g f=>h.new g f (aN:=2) (eA:=true) (bP:=λb=>{T:=T,L:=L,bc:=bc,O:=b}) S6 λgs u t x O V h=>?_
 refine h.quiet λn j gs u t x a _ h g f=>h.new g f (aN:=3) (eA:=false) (bP:=λb=>{T:=T,L:=L,bc:=bc,O:=O,ch:=b}) S6 λgs u t x ch M h=>?_
 refine h.quiet λn j gs u t x a _ h g f=>h.new g f (aN:=4) (eA:=true) (bP:=λb=>{T:=T,L:=L,bc:=bc,O:=O,ch:=ch,cg:=b}) S6 λgs u t x cg X h=>?_
 refine h.quiet λn j gs u t x a _ h g f=>h.bL g f (aN:=5) (bp:={T:=T,L:=L,bc:=bc,O:=O,ch:=ch,cg:=cg}) (b7:=[(false,L,hf),(true,bc,.cells #[pt T] 71 (0,0)),(true,O,.cells #[dg,dg] 22 (0,0)),(true,cg,.cells #[.chan (some ch)] 203 (0,0))]) S6 λgs u t x h=>?_
 refine h.quiet λn j gs u t x a _ h g f=>h.new g f (aN:=6) (eA:=false) (bP:=λb=>{T:=T,L:=L,bc:=bc,O:=O,ch:=ch,cg:=cg,W:=b}) S6 λgs u t x W hW h=>?_
 have z:W≠ch:=λe=>by subst e;have G:=(h.bK W _ (.head _)).1;have y:=(h.bK W _ (.tail _ (.head _))).1;rw[G]at y;cases y
 refine h.quiet λn j gs u t x a _ h g f=>h.bL g f (aN:=7) (bp:={T:=T,L:=L,bc:=bc,O:=O,ch:=ch,cg:=cg,W:=W}) (b7:=[(false,L,hf),(true,bc,.cells #[pt T] 71 (0,0)),(true,O,.cells #[dg,dg] 22 (0,0)),(true,cg,.cells #[.chan (some ch)] 203 (0,0))]) S6 λgs u t x h=>?_
 refine h.quiet λn j gs u t x a _ h g f=>h.new g f (aN:=8) (eA:=true) (bP:=λb=>{T:=T,L:=L,bc:=bc,O:=O,ch:=ch,cg:=cg,W:=W,j0:=b}) S6 λgs u t x r Y h=>?_
 refine h.quiet λn j gs u t x a _ h g f=>h.new g f (aN:=9) (eA:=true) (bP:=λb=>{T:=T,L:=L,bc:=bc,O:=O,ch:=ch,cg:=cg,W:=W,j0:=r,kq:=b}) S6 λgs u t x D Z h=>?_
 let c:fR:={T:=T,L:=L,bc:=bc,O:=O,ch:=ch,cg:=cg,W:=W,j0:=r,kq:=D}
 refine h.quiet λn j gs u t x a _ h g f=>h.bL g f (aN:=10) (bp:=c) (b7:=[(false,L,hf),(true,bc,.cells #[pt T] 71 (0,0)),(true,O,.cells #[dg,dg] 22 (0,0)),(true,cg,.cells #[.chan (some ch)] 203 (0,0)),(true,r,.cells #[ah 0] 3 (0,0)),(true,D,.cells #[i0,i0,i0,i0,i0] 52 (0,0))]) S6 λgs u t x h=>?_
 refine h.quiet λn j gs u t x a _ h g f=>h.bL g f (aN:=11) (bp:=c) (b7:=jf c) S6 λgs u t x h=>?_
 have h:jw kd Tc aH aL (kC W ch 0) gs u t 0 11 c (jf c) x _ 400:=h;have still:∀{S:Tb (Nat×Obj)} {gs u t d l x n j} {cJ:Tb cD} {es:TE},jw kd Tc aH aL S gs u t d l c (jf c) x n j->(∀m,Does (u.at m) cJ (u.at m) es)->∀m,∃aC es,Does (u.at m) cJ aC es/\aC.heap.size=u.heap.size/\Calm u aC/\(∀b,b≠W->aC.heap[b]?=u.heap[b]?)/\∀b o,(b,o)∈S->aC.heap[b]?=some o:=
  λ{S gs u t d l x n j cJ es} h hd m=>⟨u.at m,es,hd m,S6,Calm.at u m,λ_ _=>S6,λb o hbo=>(h.bK b o hbo).1⟩
 have ny:∀{v:Int} {gs u t d l x n j},jw kd Tc aH aL (kC W ch v) gs u t d l c (jf c) x n j->∀m,(u.at m).shape? W=some oo:=λh m=>by rw[AI (w:=World.at _ m) (h.bK W _ (.head _)).1];rfl
 have same:∀{v:Int} b o,(b,o)∈kC W ch v->∃C,(b,C)∈kC W ch v:=λb o h=>⟨o,h⟩
 have fE:∀v,∃o,(W,o)∈kC W ch v:=λv=>⟨_,.head _⟩
 have B:∀{v:Int} {gs u t d l x n j},jw kd Tc aH aL (kC W ch v) gs u t d l c (jf c) x n j->W<u.heap.size:=λh=>bu (h.bK W _ (.head _)).1
 refine h.quiet λn j gs u t x a _ h g f=>h.fix g f (aN:=12) (oz:=kC W ch 0) S6 W (still h λm=>.mark (.mark (.nil _))) (.inl (fE 0)) same (λe he=>?_) λgs u t x h=>?_
 .have he:e∈[(⟨.mark .disable,false,true⟩:TL)]:=he
  rw[ev he];exact oM (λx p=>by cases p) Tf
 refine h.quiet λn j gs u t x a _ h g f=>h.fix g f (aN:=13) (oz:=kC W ch 4294967296) S6 W (λm=>?_) (.inl (fE 0)) (λb o hbo=>?_) (λe he=>?_) λgs u t x h=>?_
 .have q:=(h.bK W _ (.head _)).1
  refine⟨(u.at m).setCell (Ti W) (.int .u64 4294967296),_,.mark (.load (by rw[aU (w:=u.at m) q];rfl) (.store (by rw[aU (w:=u.at m) q];rfl) (b3 (w:=u.at m) q) (.nil _))),by simp;rfl,(Calm.at u m).trans (AF _ _ _),λb K=>(e1 (a:=(Ti W)) K),λb o hbo=>?_⟩;rcases List.mem_cons.1 hbo with e|hbo
  .cases e
   rw[cU (w:=u.at m) q];rfl
  .have e:=ev hbo
   cases e;rw[e1 (w:=u.at m) (a:=(Ti W)) (TT z)];exact(h.bK ch _ (.tail _ (.head _))).1
 .rcases List.mem_cons.1 hbo with e|hbo
  .cases e;exact fE 0
  .exact⟨o,.tail _ hbo⟩
 .have he:e∈[(⟨.cell (gr W),false,true⟩:TL),⟨.cell (gr W),true,true⟩]:=he
  simp only[T7,iN,or_false]at he;rcases he with rfl|rfl<;>exact tX (B h)
 refine h.quiet λn j gs u t x a _ h g f=>h.fix g f (aN:=14) (oz:=kC W ch 4294967296) S6 W (still h λm=>.shape (ny h m) (.shape (ny h m) (.nil _))) (.inl (fE _)) same (λe he=>(by cases he)) λgs u t x h=>?_
 refine h.quiet λn j gs u t x a _ h g f=>h.fix g f (aN:=15) (oz:=kC W ch 4294967296) S6 W (still h λm=>.mark (.mark (.nil _))) (.inl (fE _)) same (λe he=>?_) λgs u t x h=>?_
 .have he:e∈[(⟨.mark (.read (hn W)),false,true⟩:TL)]:=he
  rw[ev he];exact oM (λx p=>by have p:some (⟨.cell (hn W),false,.said⟩:Touch)=some x:=p;rw[<-bD p];simp) (B h)
 refine h.quiet λn j gs u t x a _ h g f=>h.fix g f (aN:=16) (oz:=kC W ch 4294967296) S6 W (still h λm=>.mark (.mark (.nil _))) (.inl (fE _)) same (λe he=>?_) λgs u t x h=>?_
 .have he:e∈[(⟨.mark .enable,false,true⟩:TL)]:=he
  rw[ev he];exact oM (λx p=>by cases p) Tf
 exact h.quiet λn j gs u t x a _ h g f=>by subst g;exact k gs u t x j a c S6 S6 ⟨hW,M,z⟩ h f
end
section
variable{X:et}{u aC w:S7}{t bh:Tt}{gs bm:TR}{g:TC}{c bp:fR}{M b7:Mem}{x y:bA}{n j a l aN d:Nat}{bF:TU->T0->S7->Tt->Prop}{kd:Tx}{Tc:Tz}{aH:TM}{aL:S7}
structure yj(z:eG)(L:Nat)(aH:TM)(aL:S7):Prop where
 a':aL.heap[z.T]?=some (.cells (eN z 0 0 false false) 132 (0,0))
 hF:aL.heap[z.F]?=some (.cells #[ah 2,ah 1] 3 (0,0))
 c5:aL.heap[z.R]?=some (.cells #[ah 0,sl z.gx 2,ah 2,sl z.gy 2] 27 (0,0))
 kI:aL.heap[z.gx]?=some (.cells #[ah 1,ah 2] 3 (0,0))
 kk:aL.heap[z.gy]?=some (.cells #[ah 3,ah 1] 3 (0,0))
 lX:aL.heap[z.Fr]?=some (.cells #[ah 3] 3 (0,0))
 fD:aL.heap[L]?=some hf
 ej:∀b,aH b->b<aL.heap.size
 kK:¬aH z.T/\¬aH z.F/\¬aH z.R/\¬aH z.gx/\¬aH z.gy/\¬aH z.Fr/\¬aH L
 wD:aK.globals.size<=z.T/\aK.globals.size<=z.F
def gC(z:eG)(b:Nat):Prop:=b=z.T\/b=z.F\/b=z.R\/b=z.gx\/b=z.gy\/b=z.Fr
instance(z:eG)(b:Nat):Decidable (gC z b):=by unfold gC;infer_instance
def oE(c:fR):mi:=⟨c.W,c.cg,c.j0,c.bc,c.kq,c.ch,c.T,0⟩
def Dh(z:eG)(aL:S7)(N:Nat)(c:fR)(b6:ck):bX where
 b1 b:=if b<aL.heap.size then(if gC z b then 0 else N+3)else 0
 ro g b:=((g=N\/g=N+1)/\(gC z b\/b=c.cg\/b=c.bc))\/(g=N/\(b=c.j0\/b=c.kq))\/(g=N+2/\b=c.cg)\/(g=0/\b=c.L)
 bP k:=if k then{oE c with i:=1}else oE c
 s k:=if k then⟨.un,false⟩else b6
 k:=.un
 l:=17
 mu:=0
 ms:=0
 aY:=false
 bc:=false
 v:=4294967296
 m:=0
 cy _:=(0,0)
def xV(z:eG)(L:Nat)(aL:S7)(N cT:Nat)(c:fR)(kd:Tx)(Tc:Tz)(aH:TM):Stat:={z:=z,L:=L,bc:=c.bc,O:=c.O,ch:=c.ch,cg:=c.cg,W:=c.W,N:=N,cT:=cT,aL:=aL,kd:=kd,base:=Tc,aH:=aH}
def ve{z:eG}(h:yj z L aH aL)(c:gC z b):b<aL.heap.size/\¬aH b:=by
 rcases c with rfl|rfl|rfl|rfl|rfl|rfl
 .exact⟨bu h.a',h.kK.1⟩
 .exact⟨bu h.hF,h.kK.2.1⟩
 .exact⟨bu h.c5,h.kK.2.2.1⟩
 .exact⟨bu h.kI,h.kK.2.2.2.1⟩
 .exact⟨bu h.kk,h.kK.2.2.2.2.1⟩
 .exact⟨bu h.lX,h.kK.2.2.2.2.2.1⟩
def Hy(X:et){z:eG}(bz:∀b,je X.Q=some b->b=X.ht/\b=z.T)(br:Kept bx)(bs:TG kd)(d:yj z L aH aL)(bj:cc aK aH gs (Tk (Frame.enter aK 71 #[pt z.T,.slice (some (box L)) 2 2] kd) (bx::Tp)) aL t 0)(fin:∀Z:Stat,Z.z=z->Z.aL=aL->∀bm aC bh r aY,ov Z aC r aY->cc aK (λb=>aH b\/b=Z.W) bm (Tk (eU kd bx (.slice (some (box Z.O)) 2 2)) Tp) aC bh 0->Tu aK bF bm aC bh)(sl:T8):Ends aK bF (crowd gs aL sl) t:=by
 refine Nw z.T L bs d.fD d.ej d.kK.2.2.2.2.2.2 bj (λgs u t x j a c aD ar D h bk sl=>?_) sl;refine h.fJ.lp (λgs t sl aZ bH cb w bd ai bo bC=>?_) sl;obtain⟨q,aq⟩:=bd;let⟨b0,aU,bK⟩:=h.at cb;have bE:aL.heap.size<=u.heap.size:=h.calm.size;have az:0<gs.size:=bu w;have a0:(jf c)[0]?=some (false,c.L,hf):=S6;have T:(jf c)[1]?=some (true,c.bc,.cells #[pt c.T] 71 (0,0)):=S6;have aa:(jf c)[2]?=some (true,c.O,.cells #[dg,dg] 22 (0,0)):=S6;have V:(jf c)[3]?=some (true,c.cg,.cells #[.chan (some c.ch)] 203 (0,0)):=S6;have W:(jf c)[4]?=some (true,c.j0,.cells #[ah 0] 3 (0,0)):=S6;have Y:(jf c)[5]?=some (true,c.kq,.cells dC 52 (0,0)):=S6;have Q:=h.mem;have t1:=h.fi 1 _ _ T;have t2:=h.fi 2 _ _ aa;have t3:=h.fi 3 _ _ V;have t4:=h.fi 4 _ _ W;have t5:=h.fi 5 _ _ Y;have bZ:c.L<aL.heap.size:=by rw[ar];exact bu d.fD
 have af:=h.bK c.W _ (.head _);have ae:=h.bK c.ch _ (.tail _ (.head _));have au:∀{i:Nat} {own b o},(jf c)[i]?=some (own,b,o)->b<u.heap.size:=λe=>gL Q e
 have bc:c.L≠z.T:=by rw[ar];intro e;have I:=d.fD;rw[e,d.a']at I;have:=congrArg (λo:TI Obj=>match o with|some (.cells c _ _)=>c.size|_=>0) I;simp[hf,xZ]at this
 let Z:Stat:=xV z L aL gs.size t.size c kd (bx::Tp) aH;haveI:hi X Z:=⟨bz⟩
 let G:bX:=Dh z aL gs.size c ⟨.out .b6,false⟩;let aN:bX:=Dh z aL gs.size c ⟨.un,false⟩;have aW:∀b,b<aL.heap.size->¬gC z b->G.b1 b=gs.size+3:=λb hb aj=>by show(if b<aL.heap.size then(if gC z b then 0 else gs.size+3)else 0)=_;rw[Tq hb,Tm aj]
 have aX:∀b,gC z b->G.b1 b=0:=λb aj=>by show(if b<aL.heap.size then(if gC z b then 0 else gs.size+3)else 0)=_;rw[Tq (ve d aj).1,Tq aj]
 have K:∀b,aL.heap.size<=b->G.b1 b=0:=λb hb=>by show(if b<aL.heap.size then(if gC z b then 0 else gs.size+3)else 0)=_;rw[Tm U]
 have av:∀g b,G.ro g b->(gC z b\/b=c.cg\/b=c.bc\/b=c.j0\/b=c.kq)\/(g=0/\b=c.L):=λg b w=>by
  rcases w with⟨_,h|h|h⟩|⟨_,h|h⟩|⟨_,h⟩|h
  .exact .inl (.inl h)
  .exact .inl (.inr (.inl h))
  .exact .inl (.inr (.inr (.inl h)))
  .exact .inl (.inr (.inr (.inr (.inl h))))
  .exact .inl (.inr (.inr (.inr (.inr h))))
  .exact .inl (.inr (.inl h))
  .exact .inr h
 have bN:∀g b,G.ro g b->b<u.heap.size:=λg b w=>by
  rcases av g b w with(h|rfl|rfl|rfl|rfl)|⟨_,rfl⟩
  .have:=(ve d h).1;omega
  .exact au V
  .exact au T
  .exact au W
  .exact au Y
  .omega
 have aM:∀g b,(b=c.W\/b=c.ch\/b=c.O)->g≠0->¬G.ro g b:=λg b hb S w=>by
  rcases av g b w with(h|rfl|rfl|rfl|rfl)|⟨H,_⟩
  .have:=(ve d h).1
   rcases hb with rfl|rfl|rfl
   .have:=D.1;omega
   .have:=D.2.1;omega
   .omega
  .rcases hb with e|e|e
   .exact af.2.2 3 _ _ _ V e
   .exact ae.2.2 3 _ _ _ V e
   .exact Q.fL 3 2 _ _ _ _ _ _ V aa a6 e
  .rcases hb with e|e|e
   .exact af.2.2 1 _ _ _ T e
   .exact ae.2.2 1 _ _ _ T e
   .exact Q.fL 1 2 _ _ _ _ _ _ T aa a6 e
  .rcases hb with e|e|e
   .exact af.2.2 4 _ _ _ W e
   .exact ae.2.2 4 _ _ _ W e
   .exact Q.fL 4 2 _ _ _ _ _ _ W aa a6 e
  .rcases hb with e|e|e
   .exact af.2.2 5 _ _ _ Y e
   .exact ae.2.2 5 _ _ _ Y e
   .exact Q.fL 5 2 _ _ _ _ _ _ Y aa a6 e
  .exact S H
 have bJ:=bu d.a';have bP:∀g,¬G.ro g c.W/\¬G.ro g c.ch:=λg=>by
  by_cases S:g=0
  .constructor
   .intro w
    rcases w with⟨I|I,_⟩|⟨I,_⟩|⟨I,_⟩|⟨_,I⟩
    all_goals (have:=D.1;omega)
   .intro w
    rcases w with⟨I|I,_⟩|⟨I,_⟩|⟨I,_⟩|⟨_,I⟩
    all_goals (have:=D.2.1;omega)
  .exact⟨aM g _ (.inl S6) S,aM g _ (.inr (.inl S6)) S⟩
 have aO:Apart Z G:=by
  refine⟨?_,?_,D.2.2,az,λb hb=>?_,bP⟩
  .show z.T≠c.W;have:=D.1;omega
  .show z.T≠c.ch;have:=D.2.1;omega
  .have aE:=d.ej b hb
   have aG:¬gC z b:=λh=>(ve d h).2 hb
   refine⟨λe=>aG (.inl e),?_,?_,aW b aE aG,λg w=>?_⟩
   .show b≠c.W;have:=D.1;omega
   .show b≠c.ch;have:=D.2.1;omega
   .rcases av g b w with(h|rfl|rfl|rfl|rfl)|⟨_,rfl⟩
    .exact aG h
    .omega
    .omega
    .omega
    .omega
    .rw[ar]at hb;exact d.kK.2.2.2.2.2.2 hb
 have bT:ea Z G (u.at cb):=⟨(aU _ bJ).trans d.a',af.1,ae.1,λb hb _=>aU b hb,bK⟩
 have a1:g5 G:=⟨⟨S6,S6,S6⟩,S6,Nat.le_refl 2,S6,⟨λ_=>S6,λ_=>(show(17:Nat)<26 by decide)⟩,⟨λ_=>S6,λ_=>(show(17:Nat)<27 by decide)⟩,(bR),Nat.le_refl 17,λk m=>by cases k<;>cases m⟩
 have n2:∀i a,t.size<=i->touchAt t i≠some a:=λi a E J=>by let⟨y,bG,_⟩:=touch_of J;have:=lt_size_of_getElem? bG;omega
 have aV:∀(i:Nat) op,t.size<=i->t[i]?≠some op:=λi op E ao=>by have:=lt_size_of_getElem? ao;omega
 have bU:(u.at bH).heap.size=u.heap.size:=S6;have bS:e5 Z aN t u.heap.size:=by
  refine⟨⟨ai.clean,bg,λi a E J=>Td J (n2 i a E),λi op a E ao=>Td ao (aV i op E),λi a E J=>Td J (n2 i a E),ai.seen⟩,λg w=>?_,λk m=>?_,bo,λk=>?_,?_,λj bq=>?_,λk m=>?_,(λm=>by cases m),λ_ i a E J=>Td J (n2 i a E),λi op E ao=>Td ao (aV i op E),λi g _ w am bl=>ai.over i g w am bl⟩
  .have:g=0:=by
    rcases w with e|⟨k,_,m⟩|⟨_,m⟩
    .exact e
    .cases k<;>exact Td S6 m
    .exact Td S6 m
   subst this;refine⟨λi a _ J hm=>ai.known i a J hm,λl aQ _ _ i a J e bY=>?_⟩;rcases ai.known i a J (by rw[e];exact aQ.2.1)with k|⟨⟨bO,C,F⟩,_⟩
   .exact k
   .exfalso
    rw[e]at C;have aS:G.ro 0 (blk l):=aQ.1;rw[C]at aS;rcases aS with⟨I|I,_⟩|⟨I,_⟩|⟨I,_⟩|⟨_,I⟩
    .omega
    .omega
    .omega
    .omega
    .have I:bO.block=c.L:=I
     rw[I,ar]at F;exact d.kK.2.2.2.2.2.2 F
  .cases k<;>cases m
  .rw[aq.above _ (by cases k<;>simp[Stat.wk,Z,xV])]
   cases k<;>rfl
  .exact aq.above _ (by show gs.size<=gs.size+2;omega)
  .exact aq.above _ (by have:gs.size+2<j:=bq;omega)
  .cases k<;>cases m
 have bt:∀g,hy Z G g↔(hy Z aN g\/g=eF.num Z (.dN false)):=λg=>by
  constructor
  .rintro(e|⟨k,e,m⟩|⟨e,m⟩)
   .exact .inl (.inl e)
   .cases k
    .exact .inr e
    .exact Td S6 m
   .exact Td S6 m
  .rintro((e|⟨k,e,m⟩|⟨e,m⟩)|e)
   .exact .inl e
   .cases k<;>exact Td S6 m
   .exact Td S6 m
   .exact .inr (.inl ⟨false,e,λh=>by cases h⟩)
 have row:∀g b,g≠0->G.ro g b->G.b1 b=0:=λg b S w=>by
  rcases av g b w with(h|rfl|rfl|rfl|rfl)|⟨H,_⟩
  .exact aX b h
  .exact K _ t3
  .exact K _ t1
  .exact K _ t4
  .exact K _ t5
  .exact Td H S
 let⟨⟨bv,bV⟩,bB⟩:=bk.spawn (vk kd) (f:=.func 90) (c:=#[pt c.W,pt c.cg,pt c.j0,pt c.bc,pt c.kq]) (a:=#[]) (iA:=[1,3,4,5]) (to:=⟨17,c,oZ (jf c) [1,3,4,5]⟩) bI;have aI:=runT_crowd_spawn (P:=aK) (sl:=aZ) w (show stepG aK (0 == 0) (bW x (bx::Tp)) (u.at cb)=_ from bB true (x.2++bx::Tp) .running none (u.at cb));have bQ:e5 Z G (t++#[({g:=0,fn:=x.1.fn,pos:=x.1.place,act:=.go gs.size}:MemOp),{g:=gs.size,fn:=prog.funcs.size,pos:=x.1.place,act:=.start}]) u.heap.size:=
  bS.spawn (aB:=G) (x:={g:=0,fn:=x.1.fn,pos:=x.1.place,act:=.go gs.size}) (y:={g:=gs.size,fn:=prog.funcs.size,pos:=x.1.place,act:=.start}) (cl:=.dN false) az S6 S6 aF S6 S6 (λ_ _ h=>h) (λ_ _ _ h=>h) (λb hb=>row _ b (by show gs.size≠0;omega) hb) aO.lU (λj=>⟨by cases j<;>rfl,(λh=>by cases j<;>cases h),λh=>by cases j<;>cases h⟩) ⟨S6,(λh=>by cases h),λ_=>S6⟩ bt S6 ⟨S6,S6⟩ ⟨S6,S6⟩
 have a9:Base Z G (u.at cb) (t++#[({g:=0,fn:=x.1.fn,pos:=x.1.place,act:=.go gs.size}:MemOp),{g:=gs.size,fn:=prog.funcs.size,pos:=x.1.place,act:=.start}]):=by
  refine⟨bT,a1,aO,bQ,bN,λb hb=>?_,λb hb aj=>?_,bE,⟨D.1,D.2.1⟩,⟨λk b hb=>?_,λk b hb=>?_,?_,λb hb=>?_,d.hF,d.c5,d.kI,d.kk,d.lX,d.wD⟩,row,λk=>?_⟩
  .have:=d.ej b hb
   show b<u.heap.size;omega
  .by_cases ak:gC z b
   .exact .inr ⟨aX b ak,gs.size,U,.inl ⟨.inl S6,.inl ak⟩⟩
   .exact .inl (aW b hb ak)
  .exact .inl ⟨by cases k<;>simp[Stat.wk,Z,xV],.inl hb⟩
  .exact .inl ⟨by cases k<;>simp[Stat.wk,Z,xV],.inr hb⟩
  .exact .inr (.inr (.inl ⟨S6,S6⟩))
  .have ak:gC z b:=.inr hb
   have aE:=(ve d ak).1;refine⟨⟨λe=>?_,?_,?_⟩,aE⟩
   .have e:b=z.T:=e
    have H:=d.a';have ap:∀{o:Obj} {n:Nat},aL.heap[b]?=some o->(match o with |.cells c _ _=>c.size|_=>0)=n->n≠28->False:=λ{o n} I ay a8=>by rw[e,H]at I;have:=bD I;subst this;simp[xZ]at ay;exact a8 ay.symm
    rcases hb with hb|hb|hb|hb|hb
    .exact ap (by rw[hb];exact d.hF) S6 aF
    .exact ap (by rw[hb];exact d.c5) S6 aF
    .exact ap (by rw[hb];exact d.kI) S6 aF
    .exact ap (by rw[hb];exact d.kk) S6 aF
    .exact ap (by rw[hb];exact d.lX) S6 aF
   .show b≠c.W;have:=D.1;omega
   .show b≠c.ch;have:=D.2.1;omega
  .cases k
   .exact⟨S6,aD,S6,S6,S6⟩
   .exact⟨S6,aD,S6,S6,S6⟩
 have gB:∀(i:Nat) own b o,(jf c)[i]?=some (own,b,o)->b≠z.T/\b≠c.W/\b≠c.ch:=λi own b o e=>by
  refine⟨λad=>?_,af.2.2 i own b o e,ae.2.2 i own b o e⟩;rcases i with _|_|_|_|_|_|i
  .have e:some (false,c.L,hf)=some (own,b,o):=e
   cases e;exact bc ad
  .have e:some (true,c.bc,Obj.cells #[pt c.T] 71 (0,0))=some (own,b,o):=e
   cases e;omega
  .have e:some (true,c.O,Obj.cells #[dg,dg] 22 (0,0))=some (own,b,o):=e
   cases e;omega
  .have e:some (true,c.cg,Obj.cells #[.chan (some c.ch)] 203 (0,0))=some (own,b,o):=e
   cases e;omega
  .have e:some (true,c.j0,Obj.cells #[ah 0] 3 (0,0))=some (own,b,o):=e
   cases e;omega
  .have e:some (true,c.kq,Obj.cells dC 52 (0,0))=some (own,b,o):=e
   cases e;omega
  .simp[jf]at e
 have aw:∀(i:Nat) own b o,(nz c)[i]?=some (own,b,o)->∃M,(jf c)[i]?=some (M,b,o)/\(own=true->b=c.O):=by
  intro i own b o e;rcases i with _|_|_|_|_|_|i
  .have e:some (false,c.L,hf)=some (own,b,o):=e
   cases e;exact⟨_,a0,λh=>by cases h⟩
  .have e:some (false,c.bc,Obj.cells #[pt c.T] 71 (0,0))=some (own,b,o):=e
   cases e;exact⟨_,T,λh=>by cases h⟩
  .have e:some (true,c.O,Obj.cells #[dg,dg] 22 (0,0))=some (own,b,o):=e
   cases e;exact⟨_,aa,λ_=>S6⟩
  .have e:some (false,c.cg,Obj.cells #[.chan (some c.ch)] 203 (0,0))=some (own,b,o):=e
   cases e;exact⟨_,V,λh=>by cases h⟩
  .have e:some (false,c.j0,Obj.cells #[ah 0] 3 (0,0))=some (own,b,o):=e
   cases e;exact⟨_,W,λh=>by cases h⟩
  .have e:some (false,c.kq,Obj.cells dC 52 (0,0))=some (own,b,o):=e
   cases e;exact⟨_,Y,λh=>by cases h⟩
  .simp[nz]at e
 have bL:∀(i:Nat) own b o,(jf c)[i]?=some (own,b,o)->G.b1 b=0\/G.ro 0 b:=λi own b o e=>by
  rcases i with _|i
  .have e:some (false,c.L,hf)=some (own,b,o):=e
   cases e;exact .inr (.inr (.inr (.inr ⟨S6,S6⟩)))
  .refine .inl (K b ?_)
   rcases i with _|_|_|_|_|i
   .have e:some (true,c.bc,Obj.cells #[pt c.T] 71 (0,0))=some (own,b,o):=e
    cases e;exact t1
   .have e:some (true,c.O,Obj.cells #[dg,dg] 22 (0,0))=some (own,b,o):=e
    cases e;exact t2
   .have e:some (true,c.cg,Obj.cells #[.chan (some c.ch)] 203 (0,0))=some (own,b,o):=e
    cases e;exact t3
   .have e:some (true,c.j0,Obj.cells #[ah 0] 3 (0,0))=some (own,b,o):=e
    cases e;exact t4
   .have e:some (true,c.kq,Obj.cells dC 52 (0,0))=some (own,b,o):=e
    cases e;exact t5
   .have:(jf c)[i+5+1]?=_:=e
    simp[jf]at this
 have bf:jl Z G (Tk (x.1.finish undef) (x.2++(bx::Tp))) (u.at cb) c (nz c) (x.1.finish undef,x.2) a 400:=by
  refine⟨⟨bv,bg,S6,S6,S6,⟨λi own b o e=>?_,λi j own b o M ax aJ e ad am=>?_⟩,λi own b o e=>?_⟩,?_⟩
  .let⟨_,C,_⟩:=aw i own b o e
   exact Q.has i _ _ _ C
  .let⟨_,C,_⟩:=aw i own b o e
   let⟨_,F,_⟩:=aw j M ax aJ ad;exact Q.fL i j _ _ _ _ _ _ C F am
  .let⟨_,C,F⟩:=aw i own b o e
   refine⟨gB i _ b o C,bL i _ b o C,λh=>?_⟩;rw[F h];exact⟨K _ t2,λg S=>aM g _ (.inr (.inr S6)) S⟩
  .exact vZ (λk=>by cases k<;>rfl) (show(17:Nat)<=28 by decide) ⟨aD,S6,S6,S6,S6,S6⟩ (λ_=>S6) S6
 have ag:∀(i:Nat) own b o,(ib (oE c))[i]?=some (own,b,o)->own=false/\∃R M,(jf c)[R]?=some (M,b,o)/\G.ro gs.size b/\G.b1 b=0/\R = [3,4,1,5].getD i 0:=by
  intro i own b o e;rcases i with _|_|_|_|i
  .have e:some (false,c.cg,Obj.cells #[.chan (some c.ch)] 203 (0,0))=some (own,b,o):=e
   cases e;exact⟨S6,3,_,V,.inl ⟨.inl S6,.inr (.inl S6)⟩,K _ t3,S6⟩
  .have e:some (false,c.j0,Obj.cells #[ah 0] 3 (0,0))=some (own,b,o):=e
   cases e;exact⟨S6,4,_,W,.inr (.inl ⟨S6,.inl S6⟩),K _ t4,S6⟩
  .have e:some (false,c.bc,Obj.cells #[pt c.T] 71 (0,0))=some (own,b,o):=e
   cases e;exact⟨S6,1,_,T,.inl ⟨.inl S6,.inr (.inr S6)⟩,K _ t1,S6⟩
  .have e:some (false,c.kq,Obj.cells dC 52 (0,0))=some (own,b,o):=e
   cases e;exact⟨S6,5,_,Y,.inr (.inl ⟨S6,.inr S6⟩),K _ t5,S6⟩
  .simp[ib]at e
 have aT:∀{i:Nat} {z:Ta×Nat×Obj},(ib (oE c))[i]?=some z->i<4:=λe=>by have:=(List.getElem?_eq_some_iff.1 e).1;simpa [ib]using this
 let gA:lP X.Q:=⟨⟨Frame.enter X.Q 38 #[pt X.ht,.agg dC] .normal,[],X.v0⟩,dZ.acc X.going.acc⟩
 have bi:fz X Z G false (bW (mV (oE c)) []) (u.at cb) (G.s false) (if hQ .b6 then 3 else 1,gA,30*500+400):=by
  refine .out (p:=.b6) (bb:=false) (x:=mV (oE c)) gA S6 ⟨⟨_,G' c.W c.cg c.j0 c.bc c.kq c.ch c.T 0,S6⟩,bg,S6,S6,S6,⟨λi own b o e=>?_,λi j own b o M ax aJ e ad am=>?_⟩,λi own b o e=>?_⟩ (λ_=>S6) (λi own b o e=>?_) (λv e=>by cases e)
  .let⟨_,R,M,C,_⟩:=ag i own b o e
   exact Q.has R _ _ _ C
  .let⟨_,R,b1,C,_,_,q1⟩:=ag i own b o e
   let⟨_,bw,b2,F,_,_,bM⟩:=ag j M ax aJ ad;refine Q.fL R bw _ _ _ _ _ _ C F λhe=>?_
   have I:=aT e;have ay:=aT ad;rw[q1,bM]at he;rcases i with _|_|_|_|i<;>rcases j with _|_|_|_|j<;>first|omega|(simp at he;done)|exact Td S6 am
  .let⟨H,R,M,C,F,_⟩:=ag i own b o e
   exact⟨gB R _ _ _ C,.inr F,λh=>by rw[H]at h;cases h⟩
  .let⟨_,R,M,C,F,a2,_⟩:=ag i own b o e
   show G.b1 b≠gs.size;rw[a2];omega
 have bn:bW (mV (oE c)) []=((Tk ({(default:TB)with fn:=(kn kd).P.funcs.size,defers:=[⟨.fn (.func 90) #[pt c.W,pt c.cg,pt c.j0,pt c.bc,pt c.kq],#[]⟩],mode:=.panicking [goexitEntry]}) []):TC):=S6;rw[<-bn]at aI;obtain⟨bm,al⟩:∃bm,bm=(gs.setIfInBounds 0 ((Tk (x.1.finish undef) (x.2++bx::Tp)):TC)).push (bW (mV (oE c)) []):=⟨_,S6⟩
 rw[<-al]at aI;have b6:(gs.setIfInBounds 0 ((Tk (x.1.finish undef) (x.2++bx::Tp)):TC)).size=gs.size:=aF;have a3:bm[0]?=some (Tk (x.1.finish undef) (x.2++bx::Tp)):=by rw[al,iq,Tm (by rw[b6];omega),iO az]
 have a5:∀i,i≠0->i<gs.size->bm[i]?=gs[i]?:=λi H E=>by rw[al,iq,Tm (by rw[b6];omega),h7 (TT H)]
 have a4:bm[gs.size]?=some (bW (mV (oE c)) []):=by rw[al,iq,Tq (by rw[b6])]
 have bp:∀i,Deaf (t++#[({g:=0,fn:=x.1.fn,pos:=x.1.place,act:=.go gs.size}:MemOp),{g:=gs.size,fn:=prog.funcs.size,pos:=x.1.place,act:=.start}]) i=Deaf t i:=λi=>by
  refine oI (B:=0) (λop aR=>?_) i;simp only[List.mem_toArray,T7,iN,or_false]at aR;rcases aR with rfl|rfl
  .exact⟨S6,aF,aF,Tf⟩
  .exact⟨S6,aF,aF,Tf⟩
 have ba:eD X Z G bm (u.at cb) (t++#[({g:=0,fn:=x.1.fn,pos:=x.1.place,act:=.go gs.size}:MemOp),{g:=gs.size,fn:=prog.funcs.size,pos:=x.1.place,act:=.start}]) (a*500+400) (λ_=>(if hQ .b6 then 3 else 1,gA,30*500+400)) 0 q true (λ_=>true) false:=by
  refine⟨a9,?_,⟨_,c,nz c,_,a,400,a3,bf,S6,.run S6⟩,λk m=>?_,(λp hp=>by cases hp),λi a7 H aA aP=>?_⟩
  .rw[al,Array.size_push,b6];rfl
  .cases k
   .exact⟨_,a4,bi,.run S6 (Nat.succ_ne_zero _)⟩
   .exact Td S6 m
  .have aA:i<gs.size:=aA
   rw[a5 i U aA]at aP;rw[bp];exact aq.old i a7 H aP
 refine Ends.next (bC.trans aI) ?_;rw[AM];exact eD.ends (Z:=Z) S6 br (λbm aC bh r aY hd bA sl=>fin Z S6 S6 bm aC bh r aY hd bA sl) ba aZ
end
section
variable{Pos:Type}{A:de Pos}{u aC w:S7}{t bh:Tt}{gs bm:TR}{x y:bA}{n j a d:Nat}{p q:Pos}{bF:TU->T0->S7->Tt->Prop}{Tc:Tz}{aH:TM}
structure iI(A:de Pos)(Tc:Tz)(aH:TM)(gs:TR)(u:S7)(t:Tt)(d:Nat)(p:Pos)(x:bA)(n j:Nat):Prop where
 on:eJ A n p j x
 le:j<=400
 fJ:cc A.P aH gs (bW x Tc) u t d
def iI.quiet(T:dn A.P A.ext)(h:iI A Tc aH gs u t d p x n j)(k:∀gs c t x j a,iI A Tc aH gs (u.at c) t d p x n j->n=a+1->At A a p x->Tu A.P bF gs (u.at c) t):Tu A.P bF gs u t:=by
 have key:∀j gs e t x,iI A Tc aH gs (u.at e) t d p x n j->Tu A.P bF gs (u.at e) t:=by
  intro j;induction j using Nat.strongRecOn with
  |_ j q=>
  intro gs e t x h sl;rcases h.on.step T with⟨a,l,g⟩|⟨y,bw,i,m,o⟩
  .exact k gs e t x j a h l g sl
  .refine h.fJ.step (λc=>⟨bW y Tc,u.at c,#[],o true Tc .running none (u.at c),S6,bg,(λe he=>by simp at he),λbm bh r f=>?_⟩) sl
   exact q bw i bm c bh y ⟨m,by have:=h.le;omega,f⟩ r
 exact key j gs u.drawn t x h
def iI.fix(T:dn A.P A.ext)(r:∀p,A.dh p<=400)(h:iI A Tc aH gs u t d p x n j)(i:At A a p x){nr wk:Ta}{an:Tb dO}{f:Tb cD}(he:Edge.fix nr wk an f q∈A.cz p)(hd:∀c,∃aC es,Does (u.at c) f aC es/\u.heap.size<=aC.heap.size/\(∀e∈hZ nr (cI f),ox aH aC.heap.size e)/\∀gs t x,iI A Tc aH gs aC t (deafBehind d (hZ nr (cI f)).toArray) q x a (A.dh q)->Tu A.P bF gs aC t):Tu A.P bF gs u t:=by
 let⟨y,z,_,_,B⟩:=i.fix T he;refine h.fJ.step λc=>?_
 let⟨aC,es,l,C,o,w⟩:=hd c;exact⟨bW y Tc,aC,_,B true Tc .running none (u.at c) aC _ l,S6,C,λe m=>o e (by simpa using m),λbm bh D g=>w bm bh y ⟨z,r _,g⟩ D⟩
def iI.leave(h:iI A (bx::Tp) aH gs u t d p x n j)(i:Kept bx)(g:At A a p x)(he:Edge.leave v∈A.cz p)(k:∀gs c t,cc A.P aH gs (Tk (eU A.kd bx v) Tp) (u.at c) t d->Tu A.P bF gs (u.at c) t):Tu A.P bF gs u t:=by
 let⟨m,l⟩:=g.leave he;refine h.fJ.step λc=>⟨_,u.at c,#[],?_,S6,bg,(λe he=>by simp at he),λbm bh o f=>k bm c bh f o⟩
 have:=l true .running none bx Tp (u.at c) i;show stepG A.P true (bW x (bx::Tp)) (u.at c)=_;rw[show bW x (bx::Tp)=(Tk x.1 (bx::Tp)) by rw[bW,m];rfl];exact this
end
section
variable{Pos:Type}{A:de Pos}{u aC aL:S7}{t bh:Tt}{gs bm:TR}{x y:bA}{n j a:Nat}{p q:Pos}{bF:TU->T0->S7->Tt->Prop}{Tc:Tz}{aH:TM}
structure bN(A:de Pos)(aH:TM)(aL:S7)(u:S7)(M:Mem):Prop where
 mem:gN M u
 old:∀b,b<aL.heap.size->u.heap[b]?=aL.heap[b]?
 calm:Calm aL u
 fi:∀(i:Nat) own b o,M[i]?=some (own,b,o)->aL.heap.size<=b/\¬aH b
 ej:∀b,aH b->b<u.heap.size
def bN.at(h:bN A aH aL u M)(k:Nat):bN A aH aL (u.at k) M:=⟨⟨h.mem.has,h.mem.fL⟩,h.old,h.calm.trans (Calm.at u k),h.fi,h.ej⟩
structure dK(A:de Pos)(Tc:Tz)(aH:TM)(aL:S7)(gs:TR)(u:S7)(t:Tt)(p:Pos)(x:bA)(n j:Nat):Prop where
 on:eJ A n p j x
 le:j<=400
 bM:bN A aH aL u (A.mem p)
 fJ:cc A.P aH gs (bW x Tc) u t 0
def dK.quiet(T:dn A.P A.ext)(h:dK A Tc aH aL gs u t p x n j)(k:∀gs u t x a,bN A aH aL u (A.mem p)->cc A.P aH gs (bW x Tc) u t 0->n=a+1->At A a p x->Tu A.P bF gs u t):Tu A.P bF gs u t:=by
 induction j using Nat.strongRecOn generalizing gs u t x with
 |_ j o=>
 intro sl;rcases h.on.step T with⟨a,i,f⟩|⟨y,bw,g,l,m⟩
 .exact k gs u t x a h.bM h.fJ i f sl
 .refine h.fJ.step (λc=>⟨bW y Tc,u.at c,#[],m true Tc .running none (u.at c),S6,bg,(λe he=>by simp at he),λbm bh q d=>?_⟩) sl
  exact o bw g ⟨l,by have:=h.le;omega,h.bM.at c,d⟩ q
def dK.ES(D:∀p,A.dh p<=400)(L:bN A aH aL u (A.mem p))(r:cc A.P aH gs (bW x Tc) u t 0){y:bA}(F:eJ A n q (A.dh q) y)(G:prun (A.mem p) ops=some (ns (A.mem p) ops,eh (A.mem p) ops,A.mem q))(H:∀main Tc st off (w w':S7) es,Does w (eh (A.mem p) ops) w' es->stepG A.P main ⟨x.1,x.2++Tc,st,none,off⟩ w=.go (bW y Tc) w' (cI (eh (A.mem p) ops)).toArray)(k:∀gs u t x,dK A Tc aH aL gs u t q x n (A.dh q)->Tu A.P bF gs u t):Tu A.P bF gs u t:=by
 refine r.step λg=>?_
 have m:=L.at g;let⟨aC,hd,hm,j,_,I,E,l,C,_⟩:=uJ G m.mem;refine⟨bW y Tc,aC,_,H true Tc .running none (u.at g) aC _ hd,S6,j.size,λe d=>?_,λbm bh K h=>?_⟩
 .obtain⟨i,own,b,o,off,wr,f,rfl,_⟩:=l e (by simpa using d)
  exact wa (by rw[I];exact gL m.mem f) (m.fi i own b o f).2
 .have B:deafBehind 0 (cI (eh (A.mem p) ops)).toArray=0:=deafBehind_still (λe d=>by obtain⟨i,own,b,o,off,wr,f,rfl,_⟩:=l e (by simpa using d);exact⟨aF,aF⟩) 0
  rw[B]at h;refine k bm aC bh y ⟨F,D _,⟨hm,λb c=>?_,m.calm.trans j,λi own b o e=>?_,λb c=>by have:=m.ej b c;omega⟩,h⟩ K
  .rw[E b λi o e=>by have:=(m.fi i true b o e).1;omega]
   exact m.old b c
  .let⟨J,z⟩:=C i own b o e
   exact m.fi i own b J z
def dK.bL(T:dn A.P A.ext)(f:∀p,A.dh p<=400)(h:dK A Tc aH aL gs u t p x (n+1) j)(he:Edge.bL ops q∈A.cz p)(k:∀gs u t x,dK A Tc aH aL gs u t q x n (A.dh q)->Tu A.P bF gs u t):Tu A.P bF gs u t:=by
 refine h.quiet T λgs u t x a m c o d=>?_
 obtain rfl:n=a:=U;let⟨y,g,i,l⟩:=d.bL T he;exact dK.ES f m c g i l k
def dK.mb(T:dn A.P A.ext)(g:∀p,A.dh p<=400)(h:dK A Tc aH aL gs u t p x (n+1) j)(he:Edge.mb f ops q∈A.cz p)(k:∀gs u t x,dK A Tc aH aL gs u t q x n (A.dh q)->Tu A.P bF gs u t):Tu A.P bF gs u t:=by
 refine h.quiet T λgs u t x a o c r d=>?_
 obtain rfl:n=a:=U;let⟨y,i,l,m⟩:=d.mb T he;exact dK.ES g o c i l m k
def dK.look(T:dn A.P A.ext)(B:∀p,A.dh p<=400)(h:dK A Tc aH aL gs u t p x (n+1) j){c g:Nat}(he:Edge.fix false false [.val v] [.load .plain (S8 c g) v] q∈A.cz p)(i:aL.cell? (S8 c g)=some v)(D:¬aH c)(k:∀gs u t x,dK A Tc aH aL gs u t q x n (A.dh q)->Tu A.P bF gs u t):Tu A.P bF gs u t:=by
 refine h.quiet T λgs u t x a l o H w=>?_
 obtain rfl:n=a:=U;let⟨y,C,hm,_,E⟩:=w.fix T he;refine o.step λd=>?_
 have m:c<aL.heap.size:=by
  unfold World.cell? at i;split at i
  .rename_i e;exact(Array.getElem?_eq_some_iff.1 e).1
  .cases i
 have F:=l.calm.size;have z:(u.at d).cell? (S8 c g)=some v:=by rw[<-i];unfold World.cell?;rw[show(u.at d).heap[c]?=aL.heap[c]? from l.old _ m]
 refine⟨bW y Tc,u.at d,_,E true Tc .running none (u.at d) (u.at d) _ (.load z (.nil _)),S6,bg,λe f=>?_,λbm bh G r=>?_⟩
 .have f:e∈hZ false (cI [cD.load .plain ⟨c,g,none⟩ v]):=by simpa using f
  have f:e∈[(⟨.cell (S8 c g),false,false⟩:TL)]:=f;rw[ev f];exact wa (gu m F) D
 .exact k bm (u.at d) bh y ⟨C,B _,by rw[hm];exact l.at d,r⟩ G
def dK.D9(C:∀p,A.dh p<=400)(c:bN A aH aL u (A.mem p))(z:cc A.P aH gs (bW x Tc) u t 0){eA:Ta}{to:Nat->Pos}{y:bA}(D:eJ A n (to u.heap.size) (A.dh (to u.heap.size)) y)(j:A.mem (to u.heap.size)=p6 eA (A.mem p) u.heap.size o)(F:∀main Tc st off (w:S7),w.heap.size=u.heap.size->stepG A.P main ⟨x.1,x.2++Tc,st,none,off⟩ w=.go (bW y Tc) {w with heap:=w.heap.push o})(k:∀gs u t x b,dK A Tc aH aL gs u t (to b) x n (A.dh (to b))->Tu A.P bF gs u t):Tu A.P bF gs u t:=by
 refine z.step λd=>?_
 have m:=c.at d;have l:aL.heap.size<=u.heap.size:=c.calm.size;have h:∀b,b<u.heap.size->((u.at d).heap.push o)[b]?=u.heap[b]?:=λb f=>by rw[iq,Tm (by show b≠u.heap.size;omega)];rfl
 refine⟨bW y Tc,_,#[],F true Tc .running none (u.at d) S6,S6,by simp;exact Nat.le_succ _,(λe he=>by simp at he),λbm bh G B=>?_⟩;have fin:dK A Tc aH aL bm {(u.at d)with heap:=(u.at d).heap.push o} bh (to u.heap.size) y n (A.dh (to u.heap.size)):=by
  refine⟨D,C _,⟨?_,λb f=>(h b U).trans (m.old b f),⟨by simp;exact cL l (Nat.le_succ _),c.calm.tape,c.calm.output,c.calm.os⟩,?_,λb f=>by have:=m.ej b f;simp;exact Nat.lt_succ_of_lt this⟩,B⟩
  .rw[j]
   cases eA with
   |true=>exact m.mem.push S6
   |false=>exact m.mem.keep λi own b g e=>h b (gL c.mem e)
  .intro i own b g e
   rw[j]at e;cases eA with
   |false=>exact m.fi i own b g e
   |true=>
    have e:(A.mem p++[(true,u.heap.size,o)])[i]?=some (own,b,g):=e;rcases Ub i (A.mem p).length with ad|ad
    .rw[jz ad]at e;exact m.fi i own b g e
    .rw[jb ad]at e
     rcases r:i-(A.mem p).length with _|q
     .rw[r]at e;simp at e
      obtain⟨_,rfl,_⟩:=e;refine⟨l,λE=>?_⟩;have:=c.ej _ E;omega
     .rw[r]at e;simp at e
 exact k bm _ bh y u.heap.size fin G
def dK.new(T:dn A.P A.ext)(f:∀p,A.dh p<=400)(h:dK A Tc aH aL gs u t p x (n+1) j){eA:Ta}{to:Nat->Pos}(he:Edge.new eA o to∈A.cz p)(k:∀gs u t x b,dK A Tc aH aL gs u t (to b) x n (A.dh (to b))->Tu A.P bF gs u t):Tu A.P bF gs u t:=by
 refine h.quiet T λgs u t x a m c q d=>?_
 obtain rfl:n=a:=U;let⟨y,i,g,l⟩:=d.new T he u.heap.size;exact dK.D9 f m c i g l k
def dK.nI(T:dn A.P A.ext)(g:∀p,A.dh p<=400)(h:dK A Tc aH aL gs u t p x (n+1) j){to:Nat->Pos}(he:Edge.nI f o to∈A.cz p)(k:∀gs u t x b,dK A Tc aH aL gs u t (to b) x n (A.dh (to b))->Tu A.P bF gs u t):Tu A.P bF gs u t:=by
 refine h.quiet T λgs u t x a q c r d=>?_
 obtain rfl:n=a:=U;let⟨y,l,i,m⟩:=d.nI T he u.heap.size;exact dK.D9 g q c l i m k
def dK.leave(T:dn A.P A.ext)(h:dK A (bx::Tp) aH aL gs u t p x (n+1) j)(i:Kept bx)(he:Edge.leave v∈A.cz p)(k:∀gs u t,bN A aH aL u (A.mem p)->cc A.P aH gs (Tk (eU A.kd bx v) Tp) u t 0->Tu A.P bF gs u t):Tu A.P bF gs u t:=by
 refine h.quiet T λgs u t x a q d r g=>?_
 let⟨m,l⟩:=g.leave he;refine d.step λc=>⟨_,u.at c,#[],?_,S6,bg,(λe he=>by simp at he),λbm bh o f=>k bm (u.at c) bh (q.at c) f o⟩
 have:=l true .running none bx Tp (u.at c) i;show stepG A.P true (bW x (bx::Tp)) (u.at c)=_;rw[show bW x (bx::Tp)=(Tk x.1 (bx::Tp)) by rw[bW,m];rfl];exact this
def dK.k'(T:dn A.P A.ext)(h:dK A (bx::Tp) aH aL gs u t p x (n+1) j)(E:Kept bx)(he:Edge.k' ops v∈A.cz p)(k:∀gs u t,bN A aH aL u (c0 (A.mem p) ops)->cc A.P aH gs (Tk (eU A.kd bx v) Tp) u t 0->Tu A.P bF gs u t):Tu A.P bF gs u t:=by
 refine h.quiet T λgs u t x a L y P C=>?_
 let⟨M,w,I,G⟩:=C.k' he;refine y.step λc=>?_
 have m:=L.at c;let⟨aC,hd,hm,q,_,H,F,r,D,_⟩:=uJ w m.mem;have e:c0 (A.mem p) ops=M:=by unfold c0;rw[w]
 refine⟨(Tk (eU A.kd bx v) Tp),aC,(cI (eh (A.mem p) ops)).toArray,?_,S6,q.size,λe f=>?_,λbm bh K l=>?_⟩
 .have:=G true .running none bx Tp (u.at c) aC _ E hd
  show stepG A.P true (bW x (bx::Tp)) (u.at c)=_;rw[show bW x (bx::Tp)=(Tk x.1 (bx::Tp)) by rw[bW,I ⟨_,_,_,hd⟩];rfl];exact this
 .obtain⟨i,own,b,o,off,wr,g,rfl,_⟩:=r e (by simpa using f)
  exact wa (by rw[H];exact gL m.mem g) (m.fi i own b o g).2
 .have B:deafBehind 0 (cI (eh (A.mem p) ops)).toArray=0:=deafBehind_still (λe f=>by obtain⟨i,own,b,o,off,wr,g,rfl,_⟩:=r e (by simpa using f);exact⟨aF,aF⟩) 0
  rw[B]at l;refine k bm aC bh (by
   rw[e];refine⟨hm,λb d=>?_,m.calm.trans q,λi own b o e=>?_,λb d=>by have:=m.ej b d;omega⟩
   .rw[F b λi o e=>by have:=(m.fi i true b o e).1;omega]
    exact m.old b d
   .let⟨J,z⟩:=D i own b o e
    exact m.fi i own b J z) l K
def bN.sub{kv:de Pos}{b7:Mem}(h:bN A aH aL u M)(d:∀(i:Nat) own b o,b7[i]?=some (own,b,o)->∃(i:Nat) (own:Ta),M[i]?=some (own,b,o))(hd:∀(i j:Nat) own b o g c f,b7[i]?=some (own,b,o)->b7[j]?=some (g,c,f)->i≠j->b≠c):bN kv aH aL u b7:=
 ⟨⟨λi own b o e=>by let⟨i,own,e⟩:=d i own b o e;exact h.mem.has i own b o e,hd⟩,h.old,h.calm,λi own b o e=>by let⟨i,own,e⟩:=d i own b o e;exact h.fi i own b o e,h.ej⟩
end
end Go.aO
namespace Go.aO
attribute [-simp] Go.Sem.runT_eq
open Go.Proofs Tryz
variable{cW:S9->S7->Prop}{sp:Tb (Nat×TF)}{t:Tg}
section
def ob(fn:TF):TF:={fn with body:=some (.refuse "")}
def gM(fn:TF):TF:={fn with name:= "",origin:= ""}
def Mr:Extern.allNextRows.lookup "" = none:=av
def Mo:Extern.allGenericRows.lookup "" = none:=av
def Mu:Extern.allTypedRows.lookup "" = none:=av
def Ms:Extern.allRows.lookup "" = none:=av
def MF(fn:TF):Extern.findNext (gM fn)=none:=by unfold Extern.findNext gM;simp only[Mr];rfl
def ME(fn:TF):Extern.find (gM fn)=none:=by unfold Extern.find gM;simp only[Mo,Mu,Ms];rfl
def ko(fn:TF):Ta:=fn.name != "runtime.NumGoroutine"
def pd(Q:To)(fn:TF):Ta:=ko fn && match fn.body with
 |some c=>codeOk Q false c
 |none=>false
variable{Q P:To}{Spec:Tw->TF->TF->Prop}{K:g8 Q P}{f:Tw}{fn im:TF}
def sG(h:ko fn=true):fn.name≠ "runtime.NumGoroutine":=by simpa [ko]using h
def Mq:("" : T6).endsWith ".init" = false:=av
def uO(c:fn.body=none)(d:fn.name = "")(g:fn.origin = ""):kz Spec P f fn:=by
 have e:gM fn=fn:=by unfold gM;cases fn;simp_all
 exact .none c (by rw[<-e];exact MF fn) (by rw[<-e];exact ME fn) (by simp[d,Mq])
def N9(c:fn.body=none):kz Spec P f (gM fn):=uO c S6 S6
def nt(hp:P.funcs[f]?=some fn)(h:pd Q fn=true):kz (fj K) P f fn:=by
 unfold pd at h;rw[TS]at h;obtain⟨i,g⟩:=h;cases d:fn.body with
 |none=>rw[d]at g;cases g
 |some c=>
  rw[d]at g;exact .same fn hp (by rw[d];rfl) (by rw[d];rfl) (sG i) S6 (.inl ⟨c,c,d,d,S6,.same g⟩)
def N'(hp:P.funcs[f]?=some im)(c:im.body.isSome=true)(d:ko im=true)(g:fn.ntmps=im.ntmps):kz (fj K) P f (ob fn):=
 .same im hp rfl c (sG d) g (.inr (.inl ⟨_,rfl⟩))
def o'(g:K.fn f)(hp:P.funcs[f]?=some im)(c:fn.body.isSome=true)(d:im.body.isSome=true)(h:ko im=true)(i:fn.ntmps=im.ntmps):kz (fj K) P f fn:=
 .same im hp c d (sG h) i (.inr (.inr g))
def qt(Spec:Tw->TF->TF->Prop)(P:To):Nat->Tb TF->Prop
 |_,[]=>True
 |k,fn::l=>(ko fn=true/\kz Spec P k fn)/\qt Spec P (k+1) l
def qt.get:∀{l:Tb TF} {k:Nat},qt Spec P k l->∀{i fn},l[i]?=some fn->ko fn=true/\kz Spec P (k+i) fn
 | [],_,_,_,_,e=>by simp at e
 |x::l,k,h,0,fn,e=>by cases e;exact h.1
 |x::l,k,h,i+1,fn,e=>by have:=qt.get (l:=l) h.2 (i:=i) (by simpa using e);rw[Ul,Nat.add_comm 1 i]at this;exact this
def fe.all{l:Tb TF}(c:Q.funcs=l.toArray)(d:Q.funcs.size=P.funcs.size)(h:qt Spec P 0 l):fe Spec Q P:=⟨d,λf fn e=>by have:=h.get (i:=f) (fn:=fn) (by rw[c]at e;simpa using e);exact⟨sG this.1,by simpa using this.2⟩⟩
end
section
variable{Q P:To}{K:g8 Q P}
def xv(hp:P.funcs[101]?=some f101):kz (fj K) P 101 f101:=
 .ext (Extern.Atomic.loadT (.int .u32)) f101 hp rfl rfl av av av av (sG rfl) (Kr .u32 a6)
def xw(hp:P.funcs[136]?=some f136):kz (fj K) P 136 f136:=
 .ext Extern.Atomic.storeT f136 hp rfl rfl av av av av (sG rfl) Ks
def pick(sp:Tb (Nat×TF))(rs:TA)(k:Nat)(fn:TF):TF:=
 match sp.lookup k with
 |some g=>g
 |none=>if rs.contains k then ob fn else if fn.body.isNone then gM fn else fn
def mix(sp:Tb (Nat×TF))(rs:TA):Nat->Tb TF->Tb TF
 |_,[]=>[]
 |k,fn::l=>pick sp rs k fn::mix sp rs (k+1) l
def pw(K:g8 Q P):Tb (Nat×TF)->Prop
 | []=>True
 |x::l=>(ko x.2=true/\kz (fj K) P x.1 x.2)/\pw K l
def pw.get:∀{l:Tb (Nat×TF)},pw K l->∀{k g},l.lookup k=some g->ko g=true/\kz (fj K) P k g
 | [],_,_,_,e=>by cases e
 |(j,g')::l,h,k,g,e=>by
  rw[List.lookup_cons]at e;by_cases c:k == j
  .simp only[c]at e
   cases e;rw[eq_of_beq c];exact h.1
  .simp only[c]at e
   exact pw.get (l:=l) h.2 e
def w7(Q:To)(sp:Tb (Nat×TF))(rs:TA):Nat->Tb TF->Ta
 |_,[]=>true
 |k,fn::l=>((sp.lookup k).isSome||(if rs.contains k then fn.body.isSome && ko fn else fn.body.isNone||pd Q fn)) && w7 Q sp rs (k+1) l
def D3{sp:Tb (Nat×TF)}{rs:TA}(d:pw K sp):∀(l:Tb TF) (k:Nat),(∀i fn,l[i]?=some fn->P.funcs[k+i]?=some fn)->w7 Q sp rs k l=true->qt (fj K) P k (mix sp rs k l)
 | [],_,_,_=>trivial
 |fn::l,k,h,e=>by
  unfold w7 at e;rw[TS]at e;refine⟨?_,D3 d l (k+1) (λi x n=>by rw[Ul,Nat.add_comm 1 i];exact h (i+1) x (by simpa using n)) e.2⟩;have hp:=h 0 fn S6;rw[Nat.add_zero]at hp;unfold pick;cases j:sp.lookup k with
  |some g=>exact d.get j
  |none=>
   have c:=e.1;rw[j]at c;dsimp only at c ⊢;by_cases m:rs.contains k=true
   .rw[Tq m]at c ⊢
    rw[Option.isSome_none,Bool.false_or,TS]at c;exact⟨c.2,N' hp c.1 c.2 S6⟩
   .rw[Tm m]at c ⊢
    by_cases f:fn.body.isNone=true
    .rw[Tq f]
     exact⟨S6,N9 (by simpa using f)⟩
    .rw[Tm f]
     have d:pd Q fn=true:=by simpa [f]using c
     exact⟨by unfold pd at d;rw[TS]at d;exact d.1,nt hp d⟩
def zS{Q:To}{K:g8 Q aK}{rs:TA}(c:Q.funcs=(mix sp rs 0 aK.funcs.toList).toArray)(f:Q.funcs.size=aK.funcs.size)(d:pw K sp)(h:w7 Q sp rs 0 aK.funcs.toList=true):fe (fj K) Q aK:=
 fe.all c f (D3 d _ 0 (λi fn e=>by simpa using e) h)
def rQ(Q:To):Tb (Nat×TF)->Prop
 | []=>True
 |x::l=>Q.funcs[x.1]?=some x.2/\rQ Q l
def rQ.get:∀{l:Tb (Nat×TF)},rQ Q l->∀{k g},l.lookup k=some g->Q.funcs[k]?=some g
 | [],_,_,_,e=>by cases e
 |(j,g')::l,h,k,g,e=>by
  rw[List.lookup_cons]at e;by_cases c:k == j
  .simp only[c]at e
   cases e;rw[eq_of_beq c];exact h.1
  .simp only[c]at e
   exact rQ.get (l:=l) h.2 e
def xG(Q:To)(sp:Tb (Nat×TF)):Nat->Tb TF->Ta
 |_,[]=>true
 |k,fn::l=>((sp.lookup k).isSome||(fn.body.isNone && fn.name == "" && fn.origin == "" || pd Q fn)) && xG Q sp (k+1) l
def Fv{K:g8 Q Q}{sp:Tb (Nat×TF)}(j:pw K sp)(d:rQ Q sp):∀(l:Tb TF) (k:Nat),(∀i fn,l[i]?=some fn->Q.funcs[k+i]?=some fn)->xG Q sp k l=true->qt (fj K) Q k l
 | [],_,_,_=>trivial
 |fn::l,k,h,e=>by
  unfold xG at e;rw[TS]at e;refine⟨?_,Fv j d l (k+1) (λi x m=>by rw[Ul,Nat.add_comm 1 i];exact h (i+1) x (by simpa using m)) e.2⟩;have hp:=h 0 fn S6;rw[Nat.add_zero]at hp;cases c:sp.lookup k with
  |some g=>
   have:=d.get c;rw[hp]at this;cases this;exact j.get c
  |none=>
   have ay:=e.1;rw[c,Option.isSome_none,Bool.false_or,Bool.or_eq_true]at ay;rcases ay with ay|ay
   .simp only[TS,beq_iff_eq]at ay
    have f:fn.name = "":=ay.1.2;exact⟨by unfold ko;rw[f];rfl,uO (by simpa using ay.1.1) f ay.2⟩
   .exact⟨by unfold pd at ay;rw[TS]at ay;exact ay.1,nt hp ay⟩
def AE{Q:To}(d:pw (jv Q) sp)(c:rQ Q sp)(h:xG Q sp 0 Q.funcs.toList=true):fe (fj (jv Q)) Q Q:=
 fe.all (l:=Q.funcs.toList) aF S6 (Fv d c _ 0 (λi fn e=>by simpa using e) h)
end
def xY(T:Nat):Code:=
 .seq (.region 0 #[⟨some 2,.binOp .eql 16 (.tmp 0) (.const (Tj T)) 16,4,"",#[],none⟩,⟨some 3,.binOp .eql 3 (.tmp 1) (.const (ah 0)) 3,4,"",#[],none⟩] false)
  (.cond (.tmp 2) (.cond (.tmp 3) (.seq (.region 1 #[⟨some 4,.assign (.const iT),129,"",#[],none⟩] false) .ret) (.refuse "")) (.refuse ""))
noncomputable def bS.b6(T:Nat):TF:={gM f0 with nfree:=T+1}
noncomputable def bS.rp(T:Nat):TF:={f46 with body:=some (xY T),results:=#[.tmp 4],nfree:=2,endLine:=1000000007}
def Fs:TA:=[66,71,89,90,92,93,134,135,150,200]
noncomputable def bS.list(T:Nat):Tb TF:=mix [(0,bS.b6 T),(46,bS.rp T)] Fs 0 aK.funcs.toList
noncomputable def bS(T:Nat):To:=⟨Tryz.progTables,(bS.list T).toArray⟩
def bS.size(T:Nat):((bS T)).funcs.size=aK.funcs.size:=av
def bS.K(T:Nat):g8 (bS T) aK:=⟨λ_ _ _=>False,λf=>f=46⟩
def bS.je(T:Nat):je (bS T)=some T:=av
def bS.J1(T:Nat):nT (bS T) 16 (.tmp 0) (.const (Tj T))=true:=av
def bS.J3(T:Nat):nT (bS T) 3 (.tmp 1) (.const (ah 0))=true:=av
def bS.MM(T:Nat):pd (bS T) (bS.rp T)=true:=by
 have c:er (bS T) (.const (Tj T))=true:=by unfold er pinned;rw[bS.je];simp
 have d:er (bS T) (.const (ah 0))=true:=av;have f:er (bS T) (.const iT)=true:=av;have g:ko (bS.rp T)=true:=av;have h:∀n,er (bS T) (.tmp n)=true:=λ_=>S6
 unfold pd;rw[g];show(true && codeOk (bS T) false (xY T))=true;simp[xY,codeOk,p9,o6,c,d,f,h,bS.J1,bS.J3]
def bS.H(T:Nat):fe (fj (bS.K T)) (bS T) aK:=
 zS (sp:=[(0,bS.b6 T),(46,bS.rp T)]) (rs:=Fs) S6 (bS.size T) ⟨⟨S6,uO S6 S6 S6⟩,⟨S6,o' S6 func46 S6 S6 S6 S6⟩,Tf⟩ av
def bS.ek(T:Nat):fe (fj (jv (bS T))) (bS T) (bS T):=
 AE (sp:=[(0,bS.b6 T),(46,bS.rp T)]) ⟨⟨S6,uO S6 S6 S6⟩,⟨S6,nt av (bS.MM T)⟩,Tf⟩ ⟨av,av,Tf⟩ av
def bS.S(T:Nat):Same (bS T) aK:=⟨S6⟩
def bS.eb(T:Nat):eK (bS T) 46=some 2/\eK (bS T) 38=none:=⟨av,av⟩
def bS.vJ(T:Nat):(bS T).cellsOf 132=28:=av
def bS.c3(T:Nat):(bS T).cellsOf 3=1:=av
section
variable{Q:To}{R:S9->S7->Prop}{f0:Tw}
def dz(Q:To)(dx m:TU):Prop:=Steps Q dx m/\∃bo w',Steps Q m (lone bo [wall] w')
def e3.fA{V:dt}(h:e3 Q f0 R V){aR:Tape}(d:∀k,k<V.w.drawn->aR k=V.w.tape k):dz Q (V.iF aR).m (V.iF aR).m:=by let⟨v,w',bo,_,c,_⟩:=h aR d;exact⟨Steps.refl _ _,bo,w',c⟩
section
variable{dx:TU}{fr wx:TB}{cs y1:Tz}{w aG:S7}{es:TE}
def dz.go(h:dz Q dx (lone fr cs w))(d:2<=cs.length)(e:stepG Q true (Tk fr cs) w=.go (Tk wx y1) aG es):dz Q dx (lone wx y1 aG):=by
 obtain⟨⟨cT,g⟩,bo,w',n,c⟩:=h;have f:step Q (lone fr cs w)=.next (lone wx y1 aG):=step_lone_go (by rw[e];rfl);refine⟨(show Steps Q dx (lone fr cs w)from⟨cT,g⟩).trans (Steps.head f (Steps.refl _ _)),bo,w',?_⟩;cases n with
 |zero=>
  simp only[runN]at c;injection c with c
  let⟨_,i,_⟩:=p0 c;rw[i]at d;simp at d
 |succ n=>
  simp only[runN,f]at c;exact⟨n,c⟩
def dz.dead{o:T0}(h:dz Q dx (lone fr cs w))(d:2<=cs.length)(e:stepG Q true (Tk fr cs) w=.ended o aG es):False:=by
 obtain⟨_,bo,w',n,c⟩:=h;have g:step Q (lone fr cs w)=.ended o aG:=step_lone_ended (by rw[e];rfl);cases n with
 |zero=>
  simp only[runN]at c;injection c with c
  let⟨_,f,_⟩:=p0 c;rw[f]at d;simp at d
 |succ n=>
  simp only[runN,g]at c;cases c
variable{fn:Tw}{tmps:Te}{k:Tb Item}{Tl:Tx}{ops:Tv Oper}{i:Nat}{Tp:TA}{o:Oper}
def dz.op(h:dz Q dx (lone ⟨fn,tmps,.inRegion ops (i::Tp)::k,[],.run,Tl,none⟩ cs w))(d:2<=cs.length)(g:TG Tl)(c:ops[i]?=some o)(f:o.guard=none){v:S9}(j:(execOp (Frame.eval ⟨fn,tmps,.inRegion ops (i::Tp)::k,[],.run,Tl,none⟩) o).runT Q w #[]=(.ok (.value v) aG,es)):
 dz Q dx (lone (Frame.finish ⟨fn,tmps,.inRegion ops (i::Tp)::k,[],.run,Tl,none⟩ v) cs aG):=by
 refine h.go (es:=seen Q fn es) d ?_;rw[rA,c];rw[Tq (by simp[Region.wanted,f]),rf (o:=o) (by simp[Frame.oper?,c]) (.inl S6),r6 j (by rcases g with rfl|rfl<;>rfl)]
def dz.Ef(h:dz Q dx (lone ⟨fn,tmps,.inRegion ops (i::Tp)::k,[],.run,Tl,none⟩ cs w))(d:2<=cs.length)(c:ops[i]?=some o)(f:o.guard=none){x:Halt}(g:(execOp (Frame.eval ⟨fn,tmps,.inRegion ops (i::Tp)::k,[],.run,Tl,none⟩) o).runT Q w #[]=(.halt x aG,es))(j:jU x):False:=by let⟨l,m,ba,e⟩:=yF (p:=Q) (fr:=⟨fn,tmps,.inRegion ops (i::Tp)::k,[],.run,Tl,none⟩) (cs:=cs) g j;refine h.dead (o:=l) (aG:=m) (es:=ba) d ?_;rw[rA,c];rw[Tq (by simp[Region.wanted,f]),rf (o:=o) (by simp[Frame.oper?,c]) (.inl S6),e]
end
def mI{d:TypeDesc}(hu:Q.underlying t=some d)(w:S7)(acc:TE):(underlying t).runT Q w acc=(.ok d w,acc):=by show(match Q.underlying t with|some d=>(pure d:Sem TypeDesc)|none=>stuck "no such type").runT Q w acc=_;rw[hu];rfl
def xr{i:TypeInfo}(c:Q.info? t=some i)(w:S7)(acc:TE):(sizeOf t).runT Q w acc=(.ok i.size w,acc):=by show((match Q.info? t with|some d=>(pure d:Sem TypeInfo)|none=>stuck "no such type") >>= λi=>(pure i.size:Sem Nat)).runT Q w acc=_;rw[c];rfl
section
variable{α β g4:Type}{s:Sem α}{F:α->Sem β}{w aG:S7}{acc qJ:TE}
def gj{a:α}(h:s.runT Q w acc=(.ok a aG,qJ)):(s >>= F).runT Q w acc=(F a).runT Q aG qJ:=by show(s.bind F).runT Q w acc=_;rw[Sem.runT_bind',h]
def n'{x:Halt}(h:s.runT Q w acc=(.halt x aG,qJ)):(s >>= F).runT Q w acc=(.halt x aG,qJ):=by show(s.bind F).runT Q w acc=_;rw[Sem.runT_bind',h]
def dJ(Q:To)(w:S7)(s:Sem α)(f:β->α)(cW:β->S7->Prop):Prop:=
 (∃v aG es,cW v aG/\s.runT Q w #[]=(.ok (f v) aG,es))\/∃x aG es,s.runT Q w #[]=(.halt x aG,es)/\jU x
def dJ.ok{f:g4->α}{cW:g4->S7->Prop}{v:g4}(g:cW v aG)(e:s.runT Q w #[]=(.ok (f v) aG,acc)):dJ Q w s f cW:=.inl ⟨_,_,_,g,e⟩
def dJ.no{f:g4->α}{cW:g4->S7->Prop}{x:Halt}(e:s.runT Q w #[]=(.halt x aG,acc))(g:jU x):dJ Q w s f cW:=.inr ⟨_,_,_,e,g⟩
end
section
variable{dx:TU}{C:Tz}{w:S7}{Tl:Tx}{fn:Tw}{T:Te}{k:Tb Item}{ops:Tv Oper}{i j n:Nat}{Tp l:TA}{o:Oper}{K A B:Code}{u v x y:S9}
def dz.reg(h:dz Q dx (lone ⟨fn,T,[.code (.seq (.region j ops false) K)],[],.run,Tl,none⟩ C w))(hC:2<=C.length)(e:stepG Q true (Tk ⟨fn,T,[.code (.region j ops false),.code K],[],.run,Tl,none⟩ C) w=.go (Tk ⟨fn,T,[.inRegion ops l,.code K],[],.run,Tl,none⟩ C) w #[]):
 dz Q dx (lone ⟨fn,T,[.inRegion ops l,.code K],[],.run,Tl,none⟩ C w):=
 (h.go (wx:=⟨fn,T,[.code (.region j ops false),.code K],[],.run,Tl,none⟩) (es:=#[]) hC S6).go hC e
def dz.gM(h:dz Q dx (lone ⟨fn,T,[.inRegion ops [],.code K],[],.run,Tl,none⟩ C w))(hC:2<=C.length):dz Q dx (lone ⟨fn,T,[.code K],[],.run,Tl,none⟩ C w):=h.go (es:=#[]) hC S6
def dz.n3{d:Nat}(h:dz Q dx (lone ⟨fn,T,.inRegion ops (i::Tp)::k,[],.run,Tl,none⟩ C w))(hC:2<=C.length)(l:TG Tl)(f:ops[i]?=some o)(j:o.guard=none)(hd:o.dst=some d)(c:dJ Q w (execOp (Frame.eval ⟨fn,T,.inRegion ops (i::Tp)::k,[],.run,Tl,none⟩) o) .value cW):∃v aG,cW v aG/\dz Q dx (lone ⟨fn,T.setIfInBounds d v,.inRegion ops Tp::k,[],.run,Tl,none⟩ C aG):=by
 rcases c with⟨v,aG,es,g,c⟩|⟨x,aG,es,c,g⟩
 .have h:=h.op hC l f j c
  rw[show Frame.finish ⟨fn,T,.inRegion ops (i::Tp)::k,[],.run,Tl,none⟩ v=⟨fn,T.setIfInBounds d v,.inRegion ops Tp::k,[],.run,Tl,none⟩ by simp[Frame.finish,f,hd]]at h;exact⟨v,aG,g,h⟩
 .exact(h.Ef hC f j c g).elim
def dz.Ew{cW:Unit->S7->Prop}(h:dz Q dx (lone ⟨fn,T,.inRegion ops (i::Tp)::k,[],.run,Tl,none⟩ C w))(hC:2<=C.length)(j:TG Tl)(d:ops[i]?=some o)(f:o.guard=none)(hd:o.dst=none)(c:dJ Q w (execOp (Frame.eval ⟨fn,T,.inRegion ops (i::Tp)::k,[],.run,Tl,none⟩) o) (λ_=>.skip) cW):∃aG,cW () aG/\dz Q dx (lone ⟨fn,T,.inRegion ops Tp::k,[],.run,Tl,none⟩ C aG):=by
 rcases c with⟨v,aG,es,g,c⟩|⟨x,aG,es,c,g⟩
 .refine⟨aG,g,?_⟩
  have e:Frame.finish ⟨fn,T,.inRegion ops (i::Tp)::k,[],.run,Tl,none⟩ undef=⟨fn,T,.inRegion ops Tp::k,[],.run,Tl,none⟩:=by simp[Frame.finish,d,hd]
  refine h.go (es:=seen Q fn es) hC ?_;rw[rA,d];rw[Tq (by simp[Region.wanted,f]),rf (o:=o) (by simp[Frame.oper?,d]) (.inl S6),tL c (by rcases j with rfl|rfl<;>rfl),e]
 .exact(h.Ef hC d f c g).elim
def dz.cd(h:dz Q dx (lone ⟨fn,T,[.code (.cond (.tmp i) A B)],[],.run,Tl,none⟩ C w))(hC:2<=C.length){v:Ta}(c:T.getD i undef=.bool v):dz Q dx (lone ⟨fn,T,[.code (if v then A else B)],[],.run,Tl,none⟩ C w):=by refine h.go (es:=#[]) hC ?_;have e:Frame.eval ⟨fn,T,[.code (.cond (.tmp i) A B)],[],.run,Tl,none⟩ (.tmp i)=.bool v:=c;simp only[stepG,stepG.exec,e]
def dz.ob(h:dz Q dx (lone ⟨fn,T,[.code (.refuse "")],[],.run,Tl,none⟩ C w))(hC:2<=C.length):False:=h.dead (es:=#[]) hC S6
def dz.rt(h:dz Q dx (lone ⟨fn,T,[.code .ret],[],.run,Tl,none⟩ C w))(hC:2<=C.length):dz Q dx (lone ⟨fn,T,[.code .ret],[],.returning,Tl,none⟩ C w):=h.go (es:=#[]) hC S6
def uR(h:i<T.size):(T.setIfInBounds i v).getD i undef=v:=by rw[Array.getD_eq_getD_getElem?,iO h];rfl
def OZ(h:i≠j):(T.setIfInBounds i v).getD j undef=T.getD j undef:=by rw[Array.getD_eq_getD_getElem?,h7 h,Array.getD_eq_getD_getElem?]
def r5{c:Te}(h:i<T.size:=by simp):(T++c).getD i undef=T.getD i undef:=by rw[Array.getD_eq_getD_getElem?,Us h,Array.getD_eq_getD_getElem?]
def mN(h:T.getD j undef=x/\n<=T.size)(e:i≠j:=by omega):(T.setIfInBounds i v).getD j undef=x/\n<=(T.setIfInBounds i v).size:=⟨(OZ e).trans h.1,by simpa using h.2⟩
def nx(h:n<=T.size)(e:i<n:=by omega):(T.setIfInBounds i v).getD i undef=v/\n<=(T.setIfInBounds i v).size:=⟨uR (by omega),by simpa using h⟩
variable{t bh:Tg}{X Y:Operand}{bz:Operand->S9}
def CW(c:o.op=.binOp .eql t X Y bh)(d:bz X=x)(f:bz Y=y):execOp bz o=(do let v <-(do eqGuard .eql t X Y x y;binOp .eql t x y);pure (.value v)):=by unfold execOp;rw[c];dsimp only;rw[d,f]
def dJ.eql(f:o.op=.binOp .eql t X Y bh)(i:bz X=x)(j:bz Y=y)(d:eqGuard .eql t X Y x y=pure ())(c:binOp .eql t x y=(do pure (.bool (<-Op.equal t x y))))(r:dJ Q w (Op.equal t x y) id λb=>cW (.bool b)):
 dJ Q w (execOp bz o) .value cW:=by
 rw[CW f i j,d,c];show dJ Q w (do let v <-(do pure (.bool (<-Op.equal t x y)):Sem S9);pure (Next.value v)) .value cW;rcases r with⟨b,aG,es,g,r⟩|⟨h,aG,es,r,g⟩
 .exact .ok g (gj (a:=Value.bool b) (gj r))
 .exact .no (n' (n' r)) g
def dJ.int{q:IntKind}{a:Int}(hu:Q.underlying t=some (.int q))(h:o.op=.binOp .eql t X Y bh)(i:bz X=x)(j:bz Y=.int q a):dJ Q w (execOp bz o) .value λv aG=>w=aG/\((v=.bool true/\x=.int q a)\/v=.bool false):=by
 by_cases d:∃g2 n,x=.int g2 n
 .obtain⟨g2,n,rfl⟩:=d
  rw[CW h i j];by_cases f:g2=q
  .subst f
   have c:binOp .eql t (.int g2 n) (.int g2 a)=pure (.bool (n == a)):=(Tm aF).trans S6;rw[c];refine .ok (v:=.bool (n == a)) (acc:=#[]) ⟨S6,?_⟩ S6;by_cases g:n=a
   .subst g;exact .inl ⟨by rw[beq_self_eq_true],S6⟩
   .exact .inr (by rw[beq_eq_false_iff_ne.2 g])
  .have c:binOp .eql t (.int g2 n) (.int q a)=stuck "BinOp: operands of different kinds":=Tq f
   rw[c];exact .no (x:=.stuck _) (aG:=w) (acc:=#[]) S6 Tf
 .refine dJ.eql h i j (by cases x<;>rfl) (by cases x<;>first|rfl|exact Td ⟨_,_,S6⟩ d) ?_
  unfold dJ Op.equal Op.maxDepth Op.equalIn;rw[gj (mI hu w #[])];cases x with
  |int g2 n=>exact Td ⟨_,_,S6⟩ d
  |pointer p=>
   cases p with
   |none=>exact dJ.no (acc:=#[]) (aG:=w) S6 Tf
   |some p=>
    rcases a with(_|a)|a
    .exact dJ.ok (v:=false) (acc:=#[]) (aG:=w) ⟨S6,.inr S6⟩ S6
    all_goals exact dJ.no (acc:=#[]) (aG:=w) S6 Tf
  |_=>exact dJ.no (acc:=#[]) (aG:=w) S6 Tf
def dJ.nil(hu:∃m,Q.underlying t=some (.interface m))(d:o.op=.binOp .eql t X Y bh)(f:bz X=x)(g:bz Y=.nilIface)(c:Y=.const .nilIface):dJ Q w (execOp bz o) .value λv aG=>w=aG/\((v=.bool true/\x=.nilIface)\/(v=.bool false/\∃t u,x=.iface t u)):=by
 obtain⟨m,hu⟩:=hu;subst c;refine dJ.eql d f g (by cases x<;>cases X<;>rfl) (by cases x<;>rfl) ?_;unfold dJ Op.equal Op.maxDepth Op.equalIn;rw[gj (mI hu w #[])];cases x with
 |nilIface=>exact dJ.ok (v:=true) (acc:=#[]) (aG:=w) ⟨S6,.inl ⟨S6,S6⟩⟩ S6
 |iface t v=>exact dJ.ok (v:=false) (acc:=#[]) (aG:=w) ⟨S6,.inr ⟨S6,t,v,S6⟩⟩ S6
 |_=>exact dJ.no (acc:=#[]) (aG:=w) S6 Tf
end
def bS.Ru(T:Nat):(bS T).underlying 16=some (.pointer 282):=av
def bS.Rv(T:Nat):(bS T).underlying 3=some (.int .i64):=av
def bS.O5(T:Nat):((bS T).info? 282).map (·.size)=some 0:=av
def y'(T:Nat)(x:S9)(w:S7):(x=pt T->(Op.equal 16 x (pt T)).runT (bS T) w #[]=(.ok true w,#[]))/\(x≠pt T->w.tape w.drawn .zeroSizeEq=0->dJ (bS T) w (Op.equal 16 x (pt T)) id λb _=>b=false):=by
 obtain⟨i,c,d⟩:∃i,(bS T).info? 282=some i/\i.size=0:=by
  have:=bS.O5 T;cases e:(bS T).info? 282 with
  |none=>rw[e]at this;cases this
  |some i=>rw[e]at this;exact⟨i,S6,by simpa using this⟩
 unfold dJ Op.equal Op.maxDepth Op.equalIn;rw[gj (mI (bS.Ru T) w #[])];cases x with
 |pointer b=>
  cases b with
  |none=>exact⟨nofun,λ_ _=>dJ.ok (v:=false) (acc:=#[]) (aG:=w) S6 S6⟩
  |some b=>
   dsimp only[pt];rw[gj (xr c w #[]),d];simp only[ne_eq,not_true_eq_false,if_false];refine⟨λe=>?_,λe f=>?_⟩
   .have e:b=⟨T,0,none⟩:=by simpa using e
    subst e;rw[Tq aF];rfl
   .rw[Tm (by simpa using e)]
    refine dJ.ok (v:=false) (acc:=#[]) (aG:={w with drawn:=w.drawn+1}) S6 ?_;have e:(choose .zeroSizeEq >>= λx=>(pure (decide (x=1)):Sem Ta)).runT (bS T) w #[]=(.ok (decide (w.tape w.drawn .zeroSizeEq%2=1)) {w with drawn:=w.drawn+1},#[]):=by simp[choose,bind,Sem.bind,pure,Sem.runT,Question.forced,Question.cut];rfl
    refine e.trans ?_;rw[f];rfl
 |_=>exact⟨nofun,λ_ _=>dJ.no (acc:=#[]) (aG:=w) S6 Tf⟩
end
end Go.aO
namespace Go.aO
attribute [-simp] Go.Sem.runT_eq
open Go.Proofs Tryz Go.Conc Go.ConcN
variable{b e m n:Nat}{w:S7}{P:To}
section
def At.jN{Pos:Type}{A:de Pos}{p:Pos}{x:bA}(h:At A n p x){X:bA}{to:Pos}(he:Edge.join X to∈A.cz p):x=X:=by obtain⟨z,c,rfl⟩:=h;exact(hK.mem c _ he).1
inductive yr where
 |jr|jX|h6|gH|aq|fin|none
section
variable(b m:Nat)(bK:Tg×Nat)(kd:Tx)
abbrev qp:TD:=(S8 b m)
def BN:Tb dO:=[.oe (some bK),.wv false,.val (.int .i32 0)]
noncomputable def wZ(n:Nat)(x:bA)(l:Tb dO):bA:=sF prog hv (λ_=>false) n x l
noncomputable def pZ:bA:=nk prog hv (λ_=>false) 400 (wZ 400 (wZ 400 (wZ 400 (Frame.enter prog 134 #[T1 b m] kd,[]) []) (BN bK)) [])
noncomputable def qo:bA:=nk prog hv (λ_=>false) 400 (wZ 400 (Frame.enter prog 135 #[T1 b m] kd,[]) [.val (.int .i32 1)])
noncomputable def LI:yr->Tb (Edge yr)
 |.jr=>[.fix true false [] [.mark (.extern 106),.mark .disable] .jX]
 |.jX=>[.fix true false (BN bK) [.mark (.extern 149),.shape b (some bK),.frozen (qp b m) false,.load .atomic (qp b m) (.int .i32 0),.store .atomic (qp b m) (.int .i32 1)] .h6]
 |.h6=>[.fix true false [] [.mark (.extern 107),.mark .enable] .gH]
 |.gH=>[.join (pZ b m bK kd) .none]
 |.aq=>[.fix true false [] [.mark (.extern 118),.mark (.acquire (qp b m))] .fin]
 |.fin=>[.leave (.tuple #[])]
 |.none=>[]
inductive tI where
 |ld|gH|cx|jr|add|h6|fin|none
noncomputable def Ry:tI->Tb (Edge tI)
 |.ld=>[.fix true false [.val (.int .i32 1)] [.load .plain (qp b m) (.int .i32 1)] .gH]
 |.gH=>[.join (qo b m kd) .none]
 |.cx=>[.fix true false [] [.mark (.extern 105),.mark (.releaseMerge (qp b m))] .jr]
 |.jr=>[.fix true false [] [.mark (.extern 106),.mark .disable] .add]
 |.add=>[.fix true false [.val (.int .i32 1)] [.mark (.extern 151),.load .atomic (qp b m) (.int .i32 1),.store .atomic (qp b m) (.int .i32 0)] .h6]
 |.h6=>[.fix true false [] [.mark (.extern 107),.mark .enable] .fin]
 |.fin=>[.leave (.tuple #[])]
 |.none=>[]
end
noncomputable def nj(b m:Nat)(bK:Tg×Nat)(kd:Tx):de yr:=⟨prog,hv,λ_=>false,kd,λ_=>[],λ_=>400,LI b m bK kd⟩
noncomputable def mT(b m:Nat)(kd:Tx):de tI:=⟨prog,hv,λ_=>false,kd,λ_=>[],λ_=>400,Ry b m kd⟩
def E0(r:Nat)(w:S7)(acc:TE):(shape r).runT P w acc=(.ok (w.shape? r) w,acc):=S6
def I3{src dst t:Tg}{i:TypeInfo}(c:P.underlying src=some (.pointer t))(hd:P.underlying dst=some .unsafePointer)(j:P.info? t=some i)(o:i.size≠0)(d:w.shape? b=some (e,n))(p:m<n):
 (convert src dst (T1 b m)).runT P w #[]=(.ok (T1 b m) w,#[]):=by
 have l:(viewAt b).runT P w #[]=(.ok none w,#[]):=by unfold viewAt;rw[gj (E0 b w #[]),d];rfl
 have g:(cellsIn b).runT P w #[]=(.ok (some n) w,#[]):=by unfold cellsIn;rw[gj (E0 b w #[]),d];rfl
 have f:(Conv.seenAt (S8 b m)).runT P w #[]=(.ok (S8 b m) w,#[]):=by unfold Conv.seenAt;rw[gj l];rfl
 unfold convert;rw[gj (mI c w #[]),gj (mI hd w #[])];show(Conv.unsafePointer src dst (T1 b m)).runT P w #[]=_;unfold Conv.unsafePointer;rw[gj (mI c w #[]),gj (mI hd w #[])];dsimp only;rw[gj f];dsimp only;rw[gj g];dsimp only;rw[gj (xr j w #[])];have h:¬(n<=m):=U;simp[o,h];rfl
def qR(P:To)(x:bA):TI (Oper×TD):=
 match x.1.kind,x.1.roundOf,x.1.mode,x.1.todo with
 |.normal,none,.run,.inRegion ops (i::_)::_ |.deferred,none,.run,.inRegion ops (i::_)::_=>
  if ((ops[i]?).map (Region.wanted · (yielded ops x.1.tmps))).getD false then
   match ops[i]? with
   |some o=>match o.op with
    |.convert 268 190 v=>match x.1.eval v with
     |.pointer (some a)=>some (o,a)
     |_=>none
    |_=>none
   |none=>none
  else none
 |_,_,_,_=>none
def aK.x6:aK.underlying 268=some (.pointer 122):=av
def aK.Rt:aK.underlying 190=some .unsafePointer:=av
def aK.i96:(aK.info? 122).map (·.size)=some 2:=av
def Cy{x:bA}{o:Oper}(h:qR aK x=some (o,(S8 b m)))(C:w.shape? b=some (e,n))(u:m<n)(main:Ta)(Tc:Tz)(st:GoStatus)(off:TI (Tv CommCase×CommShape)):
 stepG aK main ⟨x.1,x.2++Tc,st,none,off⟩ w=.go (Tk (x.1.finish (T1 b m)) (x.2++Tc)) w #[]:=by
 obtain⟨i96,q,E⟩:∃i,aK.info? 122=some i/\i.size=2:=by
  have:=aK.i96;cases e:aK.info? 122 with
  |none=>rw[e]at this;cases this
  |some i=>rw[e]at this;exact⟨i,S6,by simpa using this⟩
 obtain⟨⟨fn,tmps,todo,defers,mode,Tl,ro⟩,cs⟩:=x;unfold qR at h;dsimp only at h ⊢;have key:∀(ops:Tv Oper) (i:Nat) (Tp:TA) (k:Tb Item),todo=.inRegion ops (i::Tp)::k->mode=.run->ro=none->(TG Tl)->
  (if ((ops[i]?).map (Region.wanted · (yielded ops tmps))).getD false then
   match ops[i]? with
   |some o=>match o.op with
    |.convert 268 190 v=>match Frame.eval ⟨fn,tmps,todo,defers,mode,Tl,ro⟩ v with
     |.pointer (some a)=>some (o,a)
     |_=>none
    |_=>none
   |none=>none
  else none)=some (o,((S8 b m):TD))->stepG aK main ⟨⟨fn,tmps,todo,defers,mode,Tl,ro⟩,cs++Tc,st,none,off⟩ w=.go (Tk (Frame.finish ⟨fn,tmps,todo,defers,mode,Tl,ro⟩ (T1 b m)) (cs++Tc)) w #[]:=by
  intro ops i Tp k D hm B r h;subst D;subst hm;subst B;split at h
  .rename_i d
   rcases c:ops[i]? with _|aV
   .rw[c]at h;cases h
   rw[c]at h;dsimp only at h;split at h
   .rename_i v y
    split at h
    .rename_i a he
     simp only[Option.some.injEq,Prod.mk.injEq]at h;obtain⟨rfl,rfl⟩:=h;rw[rA,c];rw[Tq (by rw[c]at d;exact d),rf (o:=aV) (by simp[Frame.oper?,c]) (.inl S6)];have z:(execOp (Frame.eval ⟨fn,tmps,.inRegion ops (i::Tp)::k,defers,.run,Tl,none⟩) aV).runT aK w #[]=(.ok (.value (T1 b m)) w,#[]):=by
      have f:execOp (Frame.eval ⟨fn,tmps,.inRegion ops (i::Tp)::k,defers,.run,Tl,none⟩) aV=(convert 268 190 (T1 b m) >>= λv=>pure (Next.value v)):=by unfold execOp;rw[y];dsimp only;rw[he]
      rw[f,gj (I3 aK.x6 aK.Rt q U C u)];rfl
     refine(r6 z ?_).trans ?_
     .rcases r with rfl|rfl<;>rfl
     .rw[qg]
    .cases h
   .cases h
  .cases h
 split at h
 .rename_i g j l p
  exact key _ _ _ _ S6 S6 S6 (.inl S6) h
 .rename_i g j l p
  exact key _ _ _ _ S6 S6 S6 (.inr S6) h
 .cases h
set_option maxRecDepth 100000 in
def LJ(b m:Nat)(bK:Tg×Nat)(kd:Tx)(c:TG kd):Good (nj b m bK kd) 10 .jr (Frame.enter prog 134 #[T1 b m] kd,[]):=by rcases c with rfl|rfl<;>exact fX
set_option maxRecDepth 100000 in
def LK(b m:Nat)(bK:Tg×Nat)(kd:Tx)(c:TG kd):Good (nj b m bK kd) 10 .aq ((pZ b m bK kd).1.finish (T1 b m),(pZ b m bK kd).2):=by rcases c with rfl|rfl<;>exact fX
def Cz{x:bA}{a:TD}(h:(qR aK x).map (·.2)=some a):∃o,qR aK x=some (o,a):=by
 cases e:qR aK x with
 |none=>rw[e]at h;cases h
 |some y=>rw[e]at h;obtain⟨o,b⟩:=y;cases h;exact⟨o,S6⟩
def LO(b m:Nat)(bK:Tg×Nat)(kd:Tx)(c:TG kd):∃o,qR aK (pZ b m bK kd)=some (o,(S8 b m)):=by
 refine Cz ?_;rcases c with rfl|rfl
 .kernel_rfl
 .kernel_rfl
set_option maxRecDepth 100000 in
def Rz(b m:Nat)(kd:Tx)(c:TG kd):Good (mT b m kd) 10 .ld (Frame.enter prog 135 #[T1 b m] kd,[]):=by rcases c with rfl|rfl<;>exact fX
set_option maxRecDepth 100000 in
def RA(b m:Nat)(kd:Tx)(c:TG kd):Good (mT b m kd) 10 .cx ((qo b m kd).1.finish (T1 b m),(qo b m kd).2):=by rcases c with rfl|rfl<;>exact fX
def RF(b m:Nat)(kd:Tx)(c:TG kd):∃o,qR aK (qo b m kd)=some (o,(S8 b m)):=by
 refine Cz ?_;rcases c with rfl|rfl
 .kernel_rfl
 .kernel_rfl
inductive mf where
 |c8|ay
noncomputable def tM(kd:Tx):de mf:=⟨prog,hv,λ_=>false,kd,λ_=>[],λ_=>400,λ_=>[.leave (.bool false)]⟩
set_option maxRecDepth 100000 in
def HB(x:S9)(kd:Tx)(c:TG kd):Good (tM kd) 5 .c8 (Frame.enter prog 66 #[.nilIface,x] kd,[]):=by rcases c with rfl|rfl<;>exact fX
end
end Go.aO
