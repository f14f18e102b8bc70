/- A part. -/
import Derived.Test.YtejkocoljbaioaaGreatDoorP11
import Derived.KernelRfl
set_option maxHeartbeats 8000000
set_option maxRecDepth 100000
set_option linter.all false
namespace Go.aO
attribute [-simp] Go.Sem.runT_eq
open Go.Proofs Go.Conc Go.ConcN
variable{bx:Frame}{f:FuncId}{rest:List Frame}{ops:List gZ}{M:Mem}{B L b:Nat}{o:Obj}{v:Value}
section
variable{u aC w:World}{t bh:Trace}{gs bm:Array Goroutine}{g:Goroutine}{c bp:fR}{M b7:Mem}{x y:bA}{n j a l aN d:Nat}{bF:Machine->Outcome->World->Trace->Prop}{kd:CallKind}{base:List Frame}{aH:Nat->Prop}{aL:World}{S oz:List (Nat×Obj)}
def jf(c:fR):Mem:=[(false,c.L,hf),(true,c.bc,.cells #[pt c.T] 76 (0,0)),(true,c.O,.cells #[dg,dg] 22 (0,0)),(true,c.cg,.cells #[.chan (some c.ch)] 199 (0,0)),(true,c.j0,.cells #[ah 0] 3 (0,0)),(true,c.kq,.cells dC 31 (0,0))]
def kC(W ch:Nat)(v:Int):List (Nat×Obj):=[(W,.cells #[.int .u64 v,.int .u32 0] 204 (0,0)),(ch,.chan 0 #[] false 0 0 false)]
def oM{m:Mark}(c:∀x,(MemAct.mark m).touch?=some x->x.kind≠.plain)(d:(MemAct.mark m).low B):ox aH B ⟨.mark m,false,true⟩:=⟨λx f _ _ _=>c x f,d⟩
def tX{o:Nat}{wr:Bool}(d:b<B):ox aH B ⟨.cell ⟨b,o,none⟩,wr,true⟩:=by
 refine⟨λx c _ _ _=>?_,d⟩;have c:some (⟨.cell ⟨b,o,none⟩,wr,.atomic⟩:Touch)=some x:=by cases wr<;>exact c
 rw[<-bD c];simp
def Nw(T L:Nat)(R:S8 kd)(J:aL.heap[L]?=some hf)(V:∀b,aH b->b<aL.heap.size)(K:¬aH L)(M:cc aK aH gs (S6 (Frame.enter aK 79 #[pt T,.slice (some (box L)) 2 2] kd) base) aL t 0)(k:∀gs u t x j a c,c.T=T->c.L=L->(aL.heap.size<=c.W/\aL.heap.size<=c.ch/\c.W≠c.ch)->jw kd base aH aL (kC c.W c.ch 4294967296) gs u t 0 16 c (jf c) x (a+1) j->At (kn kd) a ⟨16,c,jf c⟩ x->S7 aK bF gs u t):S7 aK bF gs aL t:=by
 have H:jw kd base aH aL [] gs aL t 0 0 {T:=T,L:=L} [(false,L,hf)] (Frame.enter aK 79 #[pt T,.slice (some (box L)) 2 2] kd,[]) 60 400:=by
  refine⟨⟨_,L2 T L kd R,rfl⟩,bg,⟨λi own b o e=>?_,λi j own b o af X E e G U=>?_⟩,M,λ_ _=>rfl,Calm.refl aL,λi b o e=>?_,λi own b o e=>?_,V,λb o e=>(by cases e)⟩
  .rcases i with _|i<;>simp at e
   obtain⟨rfl,rfl,rfl⟩:=e;exact J
  .rcases i with _|i<;>rcases j with _|j<;>simp at e G U
  .rcases i with _|i<;>simp at e
  .rcases i with _|i<;>simp at e
   rw[<-e.2.1];exact K
 refine H.quiet λn j gs u t x a _ h g f=>h.new g f (aN:=1) (eA:=true) (bP:=λb=>{T:=T,L:=L,bc:=b}) rfl λgs u t x bc ae h=>?_
 refine h.quiet λn j gs u t x a _ h g f=>h.new g f (aN:=2) (eA:=true) (bP:=λb=>{T:=T,L:=L,bc:=bc,O:=b}) rfl λgs u t x O Y h=>?_
 refine h.quiet λn j gs u t x a _ h g f=>h.new g f (aN:=3) (eA:=false) (bP:=λb=>{T:=T,L:=L,bc:=bc,O:=O,ch:=b}) rfl λgs u t x ch Q h=>?_
 refine h.quiet λn j gs u t x a _ h g f=>h.new g f (aN:=4) (eA:=true) (bP:=λb=>{T:=T,L:=L,bc:=bc,O:=O,ch:=ch,cg:=b}) rfl λgs u t x cg Z h=>?_
 refine h.quiet λn j gs u t x a _ h g f=>h.bL g f (aN:=5) (bp:={T:=T,L:=L,bc:=bc,O:=O,ch:=ch,cg:=cg}) (b7:=[(false,L,hf),(true,bc,.cells #[pt T] 76 (0,0)),(true,O,.cells #[dg,dg] 22 (0,0)),(true,cg,.cells #[.chan (some ch)] 199 (0,0))]) rfl λgs u t x h=>?_
 refine h.quiet λn j gs u t x a _ h g f=>h.new g f (aN:=6) (eA:=false) (bP:=λb=>{T:=T,L:=L,bc:=bc,O:=O,ch:=ch,cg:=cg,W:=b}) rfl λgs u t x W hW h=>?_
 have C:W≠ch:=λe=>by subst e;have I:=(h.bK W _ (.head _)).1;have B:=(h.bK W _ (.tail _ (.head _))).1;rw[I]at B;cases B
 refine h.quiet λn j gs u t x a _ h g f=>h.bL g f (aN:=7) (bp:={T:=T,L:=L,bc:=bc,O:=O,ch:=ch,cg:=cg,W:=W}) (b7:=[(false,L,hf),(true,bc,.cells #[pt T] 76 (0,0)),(true,O,.cells #[dg,dg] 22 (0,0)),(true,cg,.cells #[.chan (some ch)] 199 (0,0))]) rfl λgs u t x h=>?_
 refine h.quiet λn j gs u t x a _ h g f=>h.new g f (aN:=8) (eA:=true) (bP:=λb=>{T:=T,L:=L,bc:=bc,O:=O,ch:=ch,cg:=cg,W:=W,j0:=b}) rfl λgs u t x z aa h=>?_
 refine h.quiet λn j gs u t x a _ h g f=>h.new g f (aN:=9) (eA:=true) (bP:=λb=>{T:=T,L:=L,bc:=bc,O:=O,ch:=ch,cg:=cg,W:=W,j0:=z,kq:=b}) rfl λgs u t x F ad h=>?_
 let c:fR:={T:=T,L:=L,bc:=bc,O:=O,ch:=ch,cg:=cg,W:=W,j0:=z,kq:=F}
 refine h.quiet λn j gs u t x a _ h g f=>h.bL g f (aN:=10) (bp:=c) (b7:=[(false,L,hf),(true,bc,.cells #[pt T] 76 (0,0)),(true,O,.cells #[dg,dg] 22 (0,0)),(true,cg,.cells #[.chan (some ch)] 199 (0,0)),(true,z,.cells #[ah 0] 3 (0,0)),(true,F,.cells #[i0,i0,i0,i0,i0] 31 (0,0))]) rfl λgs u t x h=>?_
 refine h.quiet λn j gs u t x a _ h g f=>h.bL g f (aN:=11) (bp:=c) (b7:=jf c) rfl λgs u t x h=>?_
 have h:jw kd base aH aL (kC W ch 0) gs u t 0 11 c (jf c) x _ 400:=h;have still:∀{S:List (Nat×Obj)} {gs u t d l x n j} {cJ:List cD} {es:Array Event},jw kd base aH aL S gs u t d l c (jf c) x n j->(∀p,Does (u.at p) cJ (u.at p) es)->∀p,∃aC es,Does (u.at p) cJ aC es/\aC.heap.size=u.heap.size/\Calm u aC/\(∀b,b≠W->aC.heap[b]?=u.heap[b]?)/\∀b o,(b,o)∈S->aC.heap[b]?=some o:=
  λ{S gs u t d l x n j cJ es} h hd p=>⟨u.at p,es,hd p,rfl,Calm.at u p,λ_ _=>rfl,λb o hbo=>(h.bK b o hbo).1⟩
 have ny:∀{v:Int} {gs u t d l x n j},jw kd base aH aL (kC W ch v) gs u t d l c (jf c) x n j->∀p,(u.at p).shape? W=some oo:=λh p=>by rw[AI (w:=World.at _ p) (h.bK W _ (.head _)).1];rfl
 have same:∀{v:Int} b o,(b,o)∈kC W ch v->∃E,(b,E)∈kC W ch v:=λb o h=>⟨o,h⟩
 have fE:∀v,∃o,(W,o)∈kC W ch v:=λv=>⟨_,.head _⟩
 have D:∀{v:Int} {gs u t d l x n j},jw kd base aH aL (kC W ch v) gs u t d l c (jf c) x n j->W<u.heap.size:=λh=>bu (h.bK W _ (.head _)).1
 refine h.quiet λn j gs u t x a _ h g f=>h.fix g f (aN:=12) (oz:=kC W ch 0) rfl W (still h λp=>.mark (.mark (.nil _))) (.inl (fE 0)) same (λe he=>?_) λgs u t x h=>?_
 .have he:e∈[(⟨.mark .disable,false,true⟩:Event)]:=he
  rw[ev he];exact oM (λx q=>by cases q) trivial
 refine h.quiet λn j gs u t x a _ h g f=>h.fix g f (aN:=13) (oz:=kC W ch 4294967296) rfl W (λp=>?_) (.inl (fE 0)) (λb o hbo=>?_) (λe he=>?_) λgs u t x h=>?_
 .have r:=(h.bK W _ (.head _)).1
  refine⟨(u.at p).setCell ⟨W,0,none⟩ (.int .u64 4294967296),_,.mark (.load (by rw[aU (w:=u.at p) r];rfl) (.store (by rw[aU (w:=u.at p) r];rfl) (b3 (w:=u.at p) r) (.nil _))),by simp;rfl,(Calm.at u p).trans (AF _ _ _),λb P=>(e1 (a:=⟨W,0,none⟩) P),λb o hbo=>?_⟩;rcases List.mem_cons.1 hbo with e|hbo
  .cases e
   rw[cU (w:=u.at p) r];rfl
  .have e:=ev hbo
   cases e;rw[e1 (w:=u.at p) (a:=⟨W,0,none⟩) (Ne.symm C)];exact(h.bK ch _ (.tail _ (.head _))).1
 .rcases List.mem_cons.1 hbo with e|hbo
  .cases e;exact fE 0
  .exact⟨o,.tail _ hbo⟩
 .have he:e∈[(⟨.cell (gr W),false,true⟩:Event),⟨.cell (gr W),true,true⟩]:=he
  simp only[List.mem_cons,iN,or_false]at he;rcases he with rfl|rfl<;>exact tX (D h)
 refine h.quiet λn j gs u t x a _ h g f=>h.fix g f (aN:=14) (oz:=kC W ch 4294967296) rfl W (still h λp=>.shape (ny h p) (.shape (ny h p) (.nil _))) (.inl (fE _)) same (λe he=>(by cases he)) λgs u t x h=>?_
 refine h.quiet λn j gs u t x a _ h g f=>h.fix g f (aN:=15) (oz:=kC W ch 4294967296) rfl W (still h λp=>.mark (.mark (.nil _))) (.inl (fE _)) same (λe he=>?_) λgs u t x h=>?_
 .have he:e∈[(⟨.mark (.read (hn W)),false,true⟩:Event)]:=he
  rw[ev he];exact oM (λx q=>by have q:some (⟨.cell (hn W),false,.said⟩:Touch)=some x:=q;rw[<-bD q];simp) (D h)
 refine h.quiet λn j gs u t x a _ h g f=>h.fix g f (aN:=16) (oz:=kC W ch 4294967296) rfl W (still h λp=>.mark (.mark (.nil _))) (.inl (fE _)) same (λe he=>?_) λgs u t x h=>?_
 .have he:e∈[(⟨.mark .enable,false,true⟩:Event)]:=he
  rw[ev he];exact oM (λx q=>by cases q) trivial
 exact h.quiet λn j gs u t x a _ h g f=>by subst g;exact k gs u t x j a c rfl rfl ⟨hW,Q,C⟩ h f
end
section
variable{X:et}{u aC w:World}{t bh:Trace}{gs bm:Array Goroutine}{g:Goroutine}{c bp:fR}{M b7:Mem}{x y:bA}{n j a l aN d:Nat}{bF:Machine->Outcome->World->Trace->Prop}{kd:CallKind}{base:List Frame}{aH:Nat->Prop}{aL:World}
structure yj(z:eG)(L:Nat)(aH:Nat->Prop)(aL:World):Prop where
 a':aL.heap[z.T]?=some (.cells (eN z 0 0 false false) 100 (0,0))
 hF:aL.heap[z.F]?=some (.cells #[ah 2,ah 1] 3 (0,0))
 c5:aL.heap[z.R]?=some (.cells #[ah 0,sl z.gx 2,ah 2,sl z.gy 2] 27 (0,0))
 kI:aL.heap[z.gx]?=some (.cells #[ah 1,ah 2] 3 (0,0))
 kk:aL.heap[z.gy]?=some (.cells #[ah 3,ah 1] 3 (0,0))
 lX:aL.heap[z.Fr]?=some (.cells #[ah 3] 3 (0,0))
 fD:aL.heap[L]?=some hf
 ej:∀b,aH b->b<aL.heap.size
 kK:¬aH z.T/\¬aH z.F/\¬aH z.R/\¬aH z.gx/\¬aH z.gy/\¬aH z.Fr/\¬aH L
 wD:aK.globals.size<=z.T/\aK.globals.size<=z.F
def gC(z:eG)(b:Nat):Prop:=b=z.T\/b=z.F\/b=z.R\/b=z.gx\/b=z.gy\/b=z.Fr
instance(z:eG)(b:Nat):Decidable (gC z b):=by unfold gC;infer_instance
def oE(c:fR):mi:=⟨c.W,c.cg,c.j0,c.bc,c.kq,c.ch,c.T,0⟩
def Dh(z:eG)(aL:World)(N:Nat)(c:fR)(b6:ck):bX where
 b1 b:=if b<aL.heap.size then(if gC z b then 0 else N+3)else 0
 ro g b:=((g=N\/g=N+1)/\(gC z b\/b=c.cg\/b=c.bc))\/(g=N/\(b=c.j0\/b=c.kq))\/(g=N+2/\b=c.cg)\/(g=0/\b=c.L)
 bP k:=if k then{oE c with i:=1}else oE c
 s k:=if k then⟨.un,false⟩else b6
 k:=.un
 l:=17
 mu:=0
 ms:=0
 aY:=false
 bc:=false
 v:=4294967296
 m:=0
 cy _:=(0,0)
def xV(z:eG)(L:Nat)(aL:World)(N cT:Nat)(c:fR)(kd:CallKind)(base:List Frame)(aH:Nat->Prop):Stat:={z:=z,L:=L,bc:=c.bc,O:=c.O,ch:=c.ch,cg:=c.cg,W:=c.W,N:=N,cT:=cT,aL:=aL,kd:=kd,base:=base,aH:=aH}
def ve{z:eG}(h:yj z L aH aL)(c:gC z b):b<aL.heap.size/\¬aH b:=by
 rcases c with rfl|rfl|rfl|rfl|rfl|rfl
 .exact⟨bu h.a',h.kK.1⟩
 .exact⟨bu h.hF,h.kK.2.1⟩
 .exact⟨bu h.c5,h.kK.2.2.1⟩
 .exact⟨bu h.kI,h.kK.2.2.2.1⟩
 .exact⟨bu h.kk,h.kK.2.2.2.2.1⟩
 .exact⟨bu h.lX,h.kK.2.2.2.2.2.1⟩
def Hy(X:et){z:eG}(bA:∀b,je X.Q=some b->b=X.ht/\b=z.T)(bs:Kept bx)(bt:S8 kd)(d:yj z L aH aL)(bk:cc aK aH gs (S6 (Frame.enter aK 79 #[pt z.T,.slice (some (box L)) 2 2] kd) (bx::rest)) aL t 0)(fin:∀Z:Stat,Z.z=z->Z.aL=aL->∀bm aC bh r aY,ov Z aC r aY->cc aK (λb=>aH b\/b=Z.W) bm (S6 (eU kd bx (.slice (some (box Z.O)) 2 2)) rest) aC bh 0->S7 aK bF bm aC bh)(sl:Option (Nat×Nat)):Ends aK bF (crowd gs aL sl) t:=by
 refine Nw z.T L bt d.fD d.ej d.kK.2.2.2.2.2.2 bk (λgs u t x j a c aE au E h bl sl=>?_) sl;refine h.fJ.lp (λgs t sl a0 bJ cb C bf aj bp bE=>?_) sl;obtain⟨q,ar⟩:=bf;obtain⟨b1,aV,bL⟩:=h.at cb;have bG:aL.heap.size<=u.heap.size:=h.calm.size;have aA:0<gs.size:=bu C;have a1:(jf c)[0]?=some (false,c.L,hf):=rfl;have V:(jf c)[1]?=some (true,c.bc,.cells #[pt c.T] 76 (0,0)):=rfl;have ad:(jf c)[2]?=some (true,c.O,.cells #[dg,dg] 22 (0,0)):=rfl;have W:(jf c)[3]?=some (true,c.cg,.cells #[.chan (some c.ch)] 199 (0,0)):=rfl;have Y:(jf c)[4]?=some (true,c.j0,.cells #[ah 0] 3 (0,0)):=rfl;have aa:(jf c)[5]?=some (true,c.kq,.cells dC 31 (0,0)):=rfl;have R:=h.mem;have t1:=h.fi 1 _ _ V;have t2:=h.fi 2 _ _ ad;have t3:=h.fi 3 _ _ W;have t4:=h.fi 4 _ _ Y;have t5:=h.fi 5 _ _ aa;have b0:c.L<aL.heap.size:=by rw[au];exact bu d.fD
 have ag:=h.bK c.W _ (.head _);have af:=h.bK c.ch _ (.tail _ (.head _));have av:∀{i:Nat} {own b o},(jf c)[i]?=some (own,b,o)->b<u.heap.size:=λe=>gL R e
 have bd:c.L≠z.T:=by rw[au];intro e;have I:=d.fD;rw[e,d.a']at I;have:=congrArg (λo:Option Obj=>match o with|some (.cells c _ _)=>c.size|_=>0) I;simp[hf,xZ]at this
 let Z:Stat:=xV z L aL gs.size t.size c kd (bx::rest) aH;haveI:hi X Z:=⟨bA⟩
 let G:bX:=Dh z aL gs.size c ⟨.out .b6,false⟩;let aO:bX:=Dh z aL gs.size c ⟨.un,false⟩;have aX:∀b,b<aL.heap.size->¬gC z b->G.b1 b=gs.size+3:=λb hb ak=>by show(if b<aL.heap.size then(if gC z b then 0 else gs.size+3)else 0)=_;rw[if_pos hb,if_neg ak]
 have aZ:∀b,gC z b->G.b1 b=0:=λb ak=>by show(if b<aL.heap.size then(if gC z b then 0 else gs.size+3)else 0)=_;rw[if_pos (ve d ak).1,if_pos ak]
 have M:∀b,aL.heap.size<=b->G.b1 b=0:=λb hb=>by show(if b<aL.heap.size then(if gC z b then 0 else gs.size+3)else 0)=_;rw[if_neg U]
 have aw:∀g b,G.ro g b->(gC z b\/b=c.cg\/b=c.bc\/b=c.j0\/b=c.kq)\/(g=0/\b=c.L):=λg b C=>by
  rcases C with⟨_,h|h|h⟩|⟨_,h|h⟩|⟨_,h⟩|h
  .exact .inl (.inl h)
  .exact .inl (.inr (.inl h))
  .exact .inl (.inr (.inr (.inl h)))
  .exact .inl (.inr (.inr (.inr (.inl h))))
  .exact .inl (.inr (.inr (.inr (.inr h))))
  .exact .inl (.inr (.inl h))
  .exact .inr h
 have bP:∀g b,G.ro g b->b<u.heap.size:=λg b C=>by
  rcases aw g b C with(h|rfl|rfl|rfl|rfl)|⟨_,rfl⟩
  .have:=(ve d h).1;omega
  .exact av W
  .exact av V
  .exact av Y
  .exact av aa
  .omega
 have aN:∀g b,(b=c.W\/b=c.ch\/b=c.O)->g≠0->¬G.ro g b:=λg b hb T C=>by
  rcases aw g b C with(h|rfl|rfl|rfl|rfl)|⟨J,_⟩
  .have:=(ve d h).1
   rcases hb with rfl|rfl|rfl
   .have:=E.1;omega
   .have:=E.2.1;omega
   .omega
  .rcases hb with e|e|e
   .exact ag.2.2 3 _ _ _ W e
   .exact af.2.2 3 _ _ _ W e
   .exact R.fL 3 2 _ _ _ _ _ _ W ad a6 e
  .rcases hb with e|e|e
   .exact ag.2.2 1 _ _ _ V e
   .exact af.2.2 1 _ _ _ V e
   .exact R.fL 1 2 _ _ _ _ _ _ V ad a6 e
  .rcases hb with e|e|e
   .exact ag.2.2 4 _ _ _ Y e
   .exact af.2.2 4 _ _ _ Y e
   .exact R.fL 4 2 _ _ _ _ _ _ Y ad a6 e
  .rcases hb with e|e|e
   .exact ag.2.2 5 _ _ _ aa e
   .exact af.2.2 5 _ _ _ aa e
   .exact R.fL 5 2 _ _ _ _ _ _ aa ad a6 e
  .exact T J
 have bK:=bu d.a';have bQ:∀g,¬G.ro g c.W/\¬G.ro g c.ch:=λg=>by
  by_cases T:g=0
  .constructor
   .intro C
    rcases C with⟨I|I,_⟩|⟨I,_⟩|⟨I,_⟩|⟨_,I⟩
    all_goals (have:=E.1;omega)
   .intro C
    rcases C with⟨I|I,_⟩|⟨I,_⟩|⟨I,_⟩|⟨_,I⟩
    all_goals (have:=E.2.1;omega)
  .exact⟨aN g _ (.inl rfl) T,aN g _ (.inr (.inl rfl)) T⟩
 have aP:Apart Z G:=by
  refine⟨?_,?_,E.2.2,aA,λb hb=>?_,bQ⟩
  .show z.T≠c.W;have:=E.1;omega
  .show z.T≠c.ch;have:=E.2.1;omega
  .have aG:=d.ej b hb
   have aI:¬gC z b:=λh=>(ve d h).2 hb
   refine⟨λe=>aI (.inl e),?_,?_,aX b aG aI,λg C=>?_⟩
   .show b≠c.W;have:=E.1;omega
   .show b≠c.ch;have:=E.2.1;omega
   .rcases aw g b C with(h|rfl|rfl|rfl|rfl)|⟨_,rfl⟩
    .exact aI h
    .omega
    .omega
    .omega
    .omega
    .rw[au]at hb;exact d.kK.2.2.2.2.2.2 hb
 have bU:ea Z G (u.at cb):=⟨(aV _ bK).trans d.a',ag.1,af.1,λb hb _=>aV b hb,bL⟩
 have a2:g5 G:=⟨⟨rfl,rfl,rfl⟩,rfl,Nat.le_refl 2,rfl,⟨λ_=>rfl,λ_=>(show(17:Nat)<26 by decide)⟩,⟨λ_=>rfl,λ_=>(show(17:Nat)<27 by decide)⟩,(bR),Nat.le_refl 17,λk w=>by cases k<;>cases w⟩
 have n2:∀i a,t.size<=i->touchAt t i≠some a:=λi a F K=>by obtain⟨y,bH,_⟩:=touch_of K;have:=lt_size_of_getElem? bH;omega
 have aW:∀(i:Nat) op,t.size<=i->t[i]?≠some op:=λi op F ap=>by have:=lt_size_of_getElem? ap;omega
 have bV:(u.at bJ).heap.size=u.heap.size:=rfl;have bT:e5 Z aO t u.heap.size:=by
  refine⟨⟨aj.clean,bg,λi a F K=>absurd K (n2 i a F),λi op a F ap=>absurd ap (aW i op F),λi a F K=>absurd K (n2 i a F),aj.seen⟩,λg C=>?_,λk w=>?_,bp,λk=>?_,?_,λj br=>?_,λk w=>?_,(λw=>by cases w),λ_ i a F K=>absurd K (n2 i a F),λi op F ap=>absurd ap (aW i op F),λi g _ C ao bn=>aj.over i g C ao bn⟩
  .have:g=0:=by
    rcases C with e|⟨k,_,w⟩|⟨_,w⟩
    .exact e
    .cases k<;>exact absurd rfl w
    .exact absurd rfl w
   subst this;refine⟨λi a _ K hm=>aj.known i a K hm,λl aR _ _ i a K e bZ=>?_⟩;rcases aj.known i a K (by rw[e];exact aR.2.1)with k|⟨⟨bO,D,H⟩,_⟩
   .exact k
   .exfalso
    rw[e]at D;have aT:G.ro 0 (blk l):=aR.1;rw[D]at aT;rcases aT with⟨I|I,_⟩|⟨I,_⟩|⟨I,_⟩|⟨_,I⟩
    .omega
    .omega
    .omega
    .omega
    .have I:bO.block=c.L:=I
     rw[I,au]at H;exact d.kK.2.2.2.2.2.2 H
  .cases k<;>cases w
  .rw[ar.above _ (by cases k<;>simp[Stat.wk,Z,xV])]
   cases k<;>rfl
  .exact ar.above _ (by show gs.size<=gs.size+2;omega)
  .exact ar.above _ (by have:gs.size+2<j:=br;omega)
  .cases k<;>cases w
 have bv:∀g,hy Z G g↔(hy Z aO g\/g=eF.num Z (.dN false)):=λg=>by
  constructor
  .rintro(e|⟨k,e,w⟩|⟨e,w⟩)
   .exact .inl (.inl e)
   .cases k
    .exact .inr e
    .exact absurd rfl w
   .exact absurd rfl w
  .rintro((e|⟨k,e,w⟩|⟨e,w⟩)|e)
   .exact .inl e
   .cases k<;>exact absurd rfl w
   .exact absurd rfl w
   .exact .inr (.inl ⟨false,e,λh=>by cases h⟩)
 have row:∀g b,g≠0->G.ro g b->G.b1 b=0:=λg b T C=>by
  rcases aw g b C with(h|rfl|rfl|rfl|rfl)|⟨J,_⟩
  .exact aZ b h
  .exact M _ t3
  .exact M _ t1
  .exact M _ t4
  .exact M _ t5
  .exact absurd J T
 obtain⟨⟨bz,bY⟩,bC⟩:=bl.spawn (vk kd) (f:=.func 95) (c:=#[pt c.W,pt c.cg,pt c.j0,pt c.bc,pt c.kq]) (a:=#[]) (iA:=[1,3,4,5]) (to:=⟨17,c,oZ (jf c) [1,3,4,5]⟩) bI;have aJ:=runT_crowd_spawn (P:=aK) (sl:=a0) C (show stepG aK (0 == 0) (bW x (bx::rest)) (u.at cb)=_ from bC true (x.2++bx::rest) .running none (u.at cb));have bS:e5 Z G (t++#[({g:=0,fn:=x.1.fn,pos:=x.1.place,act:=.go gs.size}:MemOp),{g:=gs.size,fn:=Tryz.prog.funcs.size,pos:=x.1.place,act:=.start}]) u.heap.size:=
  bT.spawn (aB:=G) (x:={g:=0,fn:=x.1.fn,pos:=x.1.place,act:=.go gs.size}) (y:={g:=gs.size,fn:=Tryz.prog.funcs.size,pos:=x.1.place,act:=.start}) (cl:=.dN false) aA rfl rfl aF rfl rfl (λ_ _ h=>h) (λ_ _ _ h=>h) (λb hb=>row _ b (by show gs.size≠0;omega) hb) aP.lU (λj=>⟨by cases j<;>rfl,(λh=>by cases j<;>cases h),λh=>by cases j<;>cases h⟩) ⟨rfl,(λh=>by cases h),λ_=>rfl⟩ bv rfl ⟨rfl,rfl⟩ ⟨rfl,rfl⟩
 have ba:Base Z G (u.at cb) (t++#[({g:=0,fn:=x.1.fn,pos:=x.1.place,act:=.go gs.size}:MemOp),{g:=gs.size,fn:=Tryz.prog.funcs.size,pos:=x.1.place,act:=.start}]):=by
  refine⟨bU,a2,aP,bS,bP,λb hb=>?_,λb hb ak=>?_,bG,⟨E.1,E.2.1⟩,⟨λk b hb=>?_,λk b hb=>?_,?_,λb hb=>?_,d.hF,d.c5,d.kI,d.kk,d.lX,d.wD⟩,row,λk=>?_⟩
  .have:=d.ej b hb
   show b<u.heap.size;omega
  .by_cases al:gC z b
   .exact .inr ⟨aZ b al,gs.size,U,.inl ⟨.inl rfl,.inl al⟩⟩
   .exact .inl (aX b hb al)
  .exact .inl ⟨by cases k<;>simp[Stat.wk,Z,xV],.inl hb⟩
  .exact .inl ⟨by cases k<;>simp[Stat.wk,Z,xV],.inr hb⟩
  .exact .inr (.inr (.inl ⟨rfl,rfl⟩))
  .have al:gC z b:=.inr hb
   have aG:=(ve d al).1;refine⟨⟨λe=>?_,?_,?_⟩,aG⟩
   .have e:b=z.T:=e
    have J:=d.a';have aq:∀{o:Obj} {n:Nat},aL.heap[b]?=some o->(match o with |.cells c _ _=>c.size|_=>0)=n->n≠28->False:=λ{o n} I az a9=>by rw[e,J]at I;have:=bD I;subst this;simp[xZ]at az;exact a9 az.symm
    rcases hb with hb|hb|hb|hb|hb
    .exact aq (by rw[hb];exact d.hF) rfl aF
    .exact aq (by rw[hb];exact d.c5) rfl aF
    .exact aq (by rw[hb];exact d.kI) rfl aF
    .exact aq (by rw[hb];exact d.kk) rfl aF
    .exact aq (by rw[hb];exact d.lX) rfl aF
   .show b≠c.W;have:=E.1;omega
   .show b≠c.ch;have:=E.2.1;omega
  .cases k
   .exact⟨rfl,aE,rfl,rfl,rfl⟩
   .exact⟨rfl,aE,rfl,rfl,rfl⟩
 have gB:∀(i:Nat) own b o,(jf c)[i]?=some (own,b,o)->b≠z.T/\b≠c.W/\b≠c.ch:=λi own b o e=>by
  refine⟨λae=>?_,ag.2.2 i own b o e,af.2.2 i own b o e⟩;rcases i with _|_|_|_|_|_|i
  .have e:some (false,c.L,hf)=some (own,b,o):=e
   cases e;exact bd ae
  .have e:some (true,c.bc,Obj.cells #[pt c.T] 76 (0,0))=some (own,b,o):=e
   cases e;omega
  .have e:some (true,c.O,Obj.cells #[dg,dg] 22 (0,0))=some (own,b,o):=e
   cases e;omega
  .have e:some (true,c.cg,Obj.cells #[.chan (some c.ch)] 199 (0,0))=some (own,b,o):=e
   cases e;omega
  .have e:some (true,c.j0,Obj.cells #[ah 0] 3 (0,0))=some (own,b,o):=e
   cases e;omega
  .have e:some (true,c.kq,Obj.cells dC 31 (0,0))=some (own,b,o):=e
   cases e;omega
  .simp[jf]at e
 have ax:∀(i:Nat) own b o,(nz c)[i]?=some (own,b,o)->∃Q,(jf c)[i]?=some (Q,b,o)/\(own=true->b=c.O):=by
  intro i own b o e;rcases i with _|_|_|_|_|_|i
  .have e:some (false,c.L,hf)=some (own,b,o):=e
   cases e;exact⟨_,a1,λh=>by cases h⟩
  .have e:some (false,c.bc,Obj.cells #[pt c.T] 76 (0,0))=some (own,b,o):=e
   cases e;exact⟨_,V,λh=>by cases h⟩
  .have e:some (true,c.O,Obj.cells #[dg,dg] 22 (0,0))=some (own,b,o):=e
   cases e;exact⟨_,ad,λ_=>rfl⟩
  .have e:some (false,c.cg,Obj.cells #[.chan (some c.ch)] 199 (0,0))=some (own,b,o):=e
   cases e;exact⟨_,W,λh=>by cases h⟩
  .have e:some (false,c.j0,Obj.cells #[ah 0] 3 (0,0))=some (own,b,o):=e
   cases e;exact⟨_,Y,λh=>by cases h⟩
  .have e:some (false,c.kq,Obj.cells dC 31 (0,0))=some (own,b,o):=e
   cases e;exact⟨_,aa,λh=>by cases h⟩
  .simp[nz]at e
 have bM:∀(i:Nat) own b o,(jf c)[i]?=some (own,b,o)->G.b1 b=0\/G.ro 0 b:=λi own b o e=>by
  rcases i with _|i
  .have e:some (false,c.L,hf)=some (own,b,o):=e
   cases e;exact .inr (.inr (.inr (.inr ⟨rfl,rfl⟩)))
  .refine .inl (M b ?_)
   rcases i with _|_|_|_|_|i
   .have e:some (true,c.bc,Obj.cells #[pt c.T] 76 (0,0))=some (own,b,o):=e
    cases e;exact t1
   .have e:some (true,c.O,Obj.cells #[dg,dg] 22 (0,0))=some (own,b,o):=e
    cases e;exact t2
   .have e:some (true,c.cg,Obj.cells #[.chan (some c.ch)] 199 (0,0))=some (own,b,o):=e
    cases e;exact t3
   .have e:some (true,c.j0,Obj.cells #[ah 0] 3 (0,0))=some (own,b,o):=e
    cases e;exact t4
   .have e:some (true,c.kq,Obj.cells dC 31 (0,0))=some (own,b,o):=e
    cases e;exact t5
   .have:(jf c)[i+5+1]?=_:=e
    simp[jf]at this
 have bi:jl Z G (S6 (x.1.finish undef) (x.2++(bx::rest))) (u.at cb) c (nz c) (x.1.finish undef,x.2) a 400:=by
  refine⟨⟨bz,bg,rfl,rfl,rfl,⟨λi own b o e=>?_,λi j own b o Q ay aM e ae ao=>?_⟩,λi own b o e=>?_⟩,?_⟩
  .obtain⟨_,D,_⟩:=ax i own b o e
   exact R.has i _ _ _ D
  .obtain⟨_,D,_⟩:=ax i own b o e
   obtain⟨_,H,_⟩:=ax j Q ay aM ae;exact R.fL i j _ _ _ _ _ _ D H ao
  .obtain⟨_,D,H⟩:=ax i own b o e
   refine⟨gB i _ b o D,bM i _ b o D,λh=>?_⟩;rw[H h];exact⟨M _ t2,λg T=>aN g _ (.inr (.inr rfl)) T⟩
  .exact vZ (λk=>by cases k<;>rfl) (show(17:Nat)<=28 by decide) ⟨aE,rfl,rfl,rfl,rfl,rfl⟩ (λ_=>rfl) rfl
 have ai:∀(i:Nat) own b o,(ib (oE c))[i]?=some (own,b,o)->own=false/\∃S Q,(jf c)[S]?=some (Q,b,o)/\G.ro gs.size b/\G.b1 b=0/\S = [3,4,1,5].getD i 0:=by
  intro i own b o e;rcases i with _|_|_|_|i
  .have e:some (false,c.cg,Obj.cells #[.chan (some c.ch)] 199 (0,0))=some (own,b,o):=e
   cases e;exact⟨rfl,3,_,W,.inl ⟨.inl rfl,.inr (.inl rfl)⟩,M _ t3,rfl⟩
  .have e:some (false,c.j0,Obj.cells #[ah 0] 3 (0,0))=some (own,b,o):=e
   cases e;exact⟨rfl,4,_,Y,.inr (.inl ⟨rfl,.inl rfl⟩),M _ t4,rfl⟩
  .have e:some (false,c.bc,Obj.cells #[pt c.T] 76 (0,0))=some (own,b,o):=e
   cases e;exact⟨rfl,1,_,V,.inl ⟨.inl rfl,.inr (.inr rfl)⟩,M _ t1,rfl⟩
  .have e:some (false,c.kq,Obj.cells dC 31 (0,0))=some (own,b,o):=e
   cases e;exact⟨rfl,5,_,aa,.inr (.inl ⟨rfl,.inr rfl⟩),M _ t5,rfl⟩
  .simp[ib]at e
 have aU:∀{i:Nat} {z:Bool×Nat×Obj},(ib (oE c))[i]?=some z->i<4:=λe=>by have:=(List.getElem?_eq_some_iff.1 e).1;simpa [ib]using this
 let gA:lP X.Q:=⟨⟨Frame.enter X.Q 56 #[pt X.ht,.agg dC] .normal,[],X.v0⟩,dZ.acc X.going.acc⟩
 have bj:fz X Z G false (bW (mV (oE c)) []) (u.at cb) (G.s false) (if hQ .b6 then 3 else 1,gA,30*500+400):=by
  refine .out (p:=.b6) (bb:=false) (x:=mV (oE c)) gA rfl ⟨⟨_,G' c.W c.cg c.j0 c.bc c.kq c.ch c.T 0,rfl⟩,bg,rfl,rfl,rfl,⟨λi own b o e=>?_,λi j own b o Q ay aM e ae ao=>?_⟩,λi own b o e=>?_⟩ (λ_=>rfl) (λi own b o e=>?_) (λv e=>by cases e)
  .obtain⟨_,S,Q,D,_⟩:=ai i own b o e
   exact R.has S _ _ _ D
  .obtain⟨_,S,b2,D,_,_,q1⟩:=ai i own b o e
   obtain⟨_,bw,b3,H,_,_,bN⟩:=ai j Q ay aM ae;refine R.fL S bw _ _ _ _ _ _ D H λhe=>?_
   have I:=aU e;have az:=aU ae;rw[q1,bN]at he;rcases i with _|_|_|_|i<;>rcases j with _|_|_|_|j<;>first|omega|(simp at he;done)|exact absurd rfl ao
  .obtain⟨J,S,Q,D,H,_⟩:=ai i own b o e
   exact⟨gB S _ _ _ D,.inr H,λh=>by rw[J]at h;cases h⟩
  .obtain⟨_,S,Q,D,H,a3,_⟩:=ai i own b o e
   show G.b1 b≠gs.size;rw[a3];omega
 have bo:bW (mV (oE c)) []=((S6 ({(default:Frame)with fn:=(kn kd).P.funcs.size,defers:=[⟨.fn (.func 95) #[pt c.W,pt c.cg,pt c.j0,pt c.bc,pt c.kq],#[]⟩],mode:=.panicking [goexitEntry]}) []):Goroutine):=rfl;rw[<-bo]at aJ;obtain⟨bm,am⟩:∃bm,bm=(gs.setIfInBounds 0 ((S6 (x.1.finish undef) (x.2++bx::rest)):Goroutine)).push (bW (mV (oE c)) []):=⟨_,rfl⟩
 rw[<-am]at aJ;have b6:(gs.setIfInBounds 0 ((S6 (x.1.finish undef) (x.2++bx::rest)):Goroutine)).size=gs.size:=aF;have a4:bm[0]?=some (S6 (x.1.finish undef) (x.2++bx::rest)):=by rw[am,iq,if_neg (by rw[b6];omega),iO aA]
 have a7:∀i,i≠0->i<gs.size->bm[i]?=gs[i]?:=λi J F=>by rw[am,iq,if_neg (by rw[b6];omega),h7 (Ne.symm J)]
 have a5:bm[gs.size]?=some (bW (mV (oE c)) []):=by rw[am,iq,if_pos (by rw[b6])]
 have bq:∀i,Deaf (t++#[({g:=0,fn:=x.1.fn,pos:=x.1.place,act:=.go gs.size}:MemOp),{g:=gs.size,fn:=Tryz.prog.funcs.size,pos:=x.1.place,act:=.start}]) i=Deaf t i:=λi=>by
  refine oI (B:=0) (λop aS=>?_) i;simp only[List.mem_toArray,List.mem_cons,iN,or_false]at aS;rcases aS with rfl|rfl
  .exact⟨rfl,aF,aF,trivial⟩
  .exact⟨rfl,aF,aF,trivial⟩
 have bc:eD X Z G bm (u.at cb) (t++#[({g:=0,fn:=x.1.fn,pos:=x.1.place,act:=.go gs.size}:MemOp),{g:=gs.size,fn:=Tryz.prog.funcs.size,pos:=x.1.place,act:=.start}]) (a*500+400) (λ_=>(if hQ .b6 then 3 else 1,gA,30*500+400)) 0 q true (λ_=>true) false:=by
  refine⟨ba,?_,⟨_,c,nz c,_,a,400,a4,bi,rfl,.run rfl⟩,λk w=>?_,(λp hp=>by cases hp),λi a8 J aD aQ=>?_⟩
  .rw[am,Array.size_push,b6];rfl
  .cases k
   .exact⟨_,a5,bj,.run rfl (Nat.succ_ne_zero _)⟩
   .exact absurd rfl w
  .have aD:i<gs.size:=aD
   rw[a7 i U aD]at aQ;rw[bq];exact ar.old i a8 J aQ
 refine Ends.next (bE.trans aJ) ?_;rw[AM];exact eD.ends (Z:=Z) rfl bs (λbm aC bh r aY hd bB sl=>fin Z rfl rfl bm aC bh r aY hd bB sl) bc a0
end
section
variable{Pos:Type}{A:de Pos}{u aC w:World}{t bh:Trace}{gs bm:Array Goroutine}{x y:bA}{n j a d:Nat}{p q:Pos}{bF:Machine->Outcome->World->Trace->Prop}{base:List Frame}{aH:Nat->Prop}
structure iI(A:de Pos)(base:List Frame)(aH:Nat->Prop)(gs:Array Goroutine)(u:World)(t:Trace)(d:Nat)(p:Pos)(x:bA)(n j:Nat):Prop where
 on:eJ A n p j x
 le:j<=400
 fJ:cc A.P aH gs (bW x base) u t d
def iI.quiet(T:dn A.P A.ext)(h:iI A base aH gs u t d p x n j)(k:∀gs c t x j a,iI A base aH gs (u.at c) t d p x n j->n=a+1->At A a p x->S7 A.P bF gs (u.at c) t):S7 A.P bF gs u t:=by
 have key:∀j gs e t x,iI A base aH gs (u.at e) t d p x n j->S7 A.P bF gs (u.at e) t:=by
  intro j;induction j using Nat.strongRecOn with
  |_ j r=>
  intro gs e t x h sl;rcases h.on.step T with⟨a,l,g⟩|⟨y,bw,i,o,q⟩
  .exact k gs e t x j a h l g sl
  .refine h.fJ.step (λc=>⟨bW y base,u.at c,#[],q true base .running none (u.at c),rfl,bg,(λe he=>by simp at he),λbm bh w f=>?_⟩) sl
   exact r bw i bm c bh y ⟨o,by have:=h.le;omega,f⟩ w
 exact key j gs u.drawn t x h
def iI.fix(T:dn A.P A.ext)(w:∀p,A.dh p<=400)(h:iI A base aH gs u t d p x n j)(i:At A a p x){nr wk:Bool}{an:List dO}{f:List cD}(he:Edge.fix nr wk an f q∈A.cz p)(hd:∀c,∃aC es,Does (u.at c) f aC es/\u.heap.size<=aC.heap.size/\(∀e∈hZ nr (cI f),ox aH aC.heap.size e)/\∀gs t x,iI A base aH gs aC t (deafBehind d (hZ nr (cI f)).toArray) q x a (A.dh q)->S7 A.P bF gs aC t):S7 A.P bF gs u t:=by
 obtain⟨y,B,_,_,C⟩:=i.fix T he;refine h.fJ.step λc=>?_
 obtain⟨aC,es,l,D,r,z⟩:=hd c;exact⟨bW y base,aC,_,C true base .running none (u.at c) aC _ l,rfl,D,λe o=>r e (by simpa using o),λbm bh E g=>z bm bh y ⟨B,w _,g⟩ E⟩
def iI.leave(h:iI A (bx::rest) aH gs u t d p x n j)(i:Kept bx)(g:At A a p x)(he:Edge.leave v∈A.cz p)(k:∀gs c t,cc A.P aH gs (S6 (eU A.kd bx v) rest) (u.at c) t d->S7 A.P bF gs (u.at c) t):S7 A.P bF gs u t:=by
 obtain⟨o,l⟩:=g.leave he;refine h.fJ.step λc=>⟨_,u.at c,#[],?_,rfl,bg,(λe he=>by simp at he),λbm bh q f=>k bm c bh f q⟩
 have:=l true .running none bx rest (u.at c) i;show stepG A.P true (bW x (bx::rest)) (u.at c)=_;rw[show bW x (bx::rest)=(S6 x.1 (bx::rest)) by rw[bW,o];rfl];exact this
end
section
variable{Pos:Type}{A:de Pos}{u aC aL:World}{t bh:Trace}{gs bm:Array Goroutine}{x y:bA}{n j a:Nat}{p q:Pos}{bF:Machine->Outcome->World->Trace->Prop}{base:List Frame}{aH:Nat->Prop}
structure bN(A:de Pos)(aH:Nat->Prop)(aL:World)(u:World)(M:Mem):Prop where
 mem:gN M u
 old:∀b,b<aL.heap.size->u.heap[b]?=aL.heap[b]?
 calm:Calm aL u
 fi:∀(i:Nat) own b o,M[i]?=some (own,b,o)->aL.heap.size<=b/\¬aH b
 ej:∀b,aH b->b<u.heap.size
def bN.at(h:bN A aH aL u M)(k:Nat):bN A aH aL (u.at k) M:=⟨⟨h.mem.has,h.mem.fL⟩,h.old,h.calm.trans (Calm.at u k),h.fi,h.ej⟩
structure dK(A:de Pos)(base:List Frame)(aH:Nat->Prop)(aL:World)(gs:Array Goroutine)(u:World)(t:Trace)(p:Pos)(x:bA)(n j:Nat):Prop where
 on:eJ A n p j x
 le:j<=400
 bM:bN A aH aL u (A.mem p)
 fJ:cc A.P aH gs (bW x base) u t 0
def dK.quiet(T:dn A.P A.ext)(h:dK A base aH aL gs u t p x n j)(k:∀gs u t x a,bN A aH aL u (A.mem p)->cc A.P aH gs (bW x base) u t 0->n=a+1->At A a p x->S7 A.P bF gs u t):S7 A.P bF gs u t:=by
 induction j using Nat.strongRecOn generalizing gs u t x with
 |_ j q=>
 intro sl;rcases h.on.step T with⟨a,i,f⟩|⟨y,bw,g,l,o⟩
 .exact k gs u t x a h.bM h.fJ i f sl
 .refine h.fJ.step (λc=>⟨bW y base,u.at c,#[],o true base .running none (u.at c),rfl,bg,(λe he=>by simp at he),λbm bh r d=>?_⟩) sl
  exact q bw g ⟨l,by have:=h.le;omega,h.bM.at c,d⟩ r
def dK.ES(D:∀p,A.dh p<=400)(L:bN A aH aL u (A.mem p))(r:cc A.P aH gs (bW x base) u t 0){y:bA}(F:eJ A n q (A.dh q) y)(G:prun (A.mem p) ops=some (ns (A.mem p) ops,eh (A.mem p) ops,A.mem q))(H:∀main base st off (w w':World) es,Does w (eh (A.mem p) ops) w' es->stepG A.P main ⟨x.1,x.2++base,st,none,off⟩ w=.go (bW y base) w' (cI (eh (A.mem p) ops)).toArray)(k:∀gs u t x,dK A base aH aL gs u t q x n (A.dh q)->S7 A.P bF gs u t):S7 A.P bF gs u t:=by
 refine r.step λg=>?_
 have m:=L.at g;obtain⟨aC,hd,hm,j,_,I,E,l,C,_⟩:=uJ G m.mem;refine⟨bW y base,aC,_,H true base .running none (u.at g) aC _ hd,rfl,j.size,λe d=>?_,λbm bh K h=>?_⟩
 .obtain⟨i,own,b,o,off,wr,f,rfl,_⟩:=l e (by simpa using d)
  exact wa (by rw[I];exact gL m.mem f) (m.fi i own b o f).2
 .have B:deafBehind 0 (cI (eh (A.mem p) ops)).toArray=0:=deafBehind_still (λe d=>by obtain⟨i,own,b,o,off,wr,f,rfl,_⟩:=l e (by simpa using d);exact⟨aF,aF⟩) 0
  rw[B]at h;refine k bm aC bh y ⟨F,D _,⟨hm,λb c=>?_,m.calm.trans j,λi own b o e=>?_,λb c=>by have:=m.ej b c;omega⟩,h⟩ K
  .rw[E b λi o e=>by have:=(m.fi i true b o e).1;omega]
   exact m.old b c
  .obtain⟨J,z⟩:=C i own b o e
   exact m.fi i own b J z
def dK.bL(T:dn A.P A.ext)(f:∀p,A.dh p<=400)(h:dK A base aH aL gs u t p x (n+1) j)(he:Edge.bL ops q∈A.cz p)(k:∀gs u t x,dK A base aH aL gs u t q x n (A.dh q)->S7 A.P bF gs u t):S7 A.P bF gs u t:=by
 refine h.quiet T λgs u t x a o c r d=>?_
 obtain rfl:n=a:=U;obtain⟨y,g,i,l⟩:=d.bL T he;exact dK.ES f o c g i l k
def dK.mb(T:dn A.P A.ext)(g:∀p,A.dh p<=400)(h:dK A base aH aL gs u t p x (n+1) j)(he:Edge.mb f ops q∈A.cz p)(k:∀gs u t x,dK A base aH aL gs u t q x n (A.dh q)->S7 A.P bF gs u t):S7 A.P bF gs u t:=by
 refine h.quiet T λgs u t x a r c w d=>?_
 obtain rfl:n=a:=U;obtain⟨y,i,l,o⟩:=d.mb T he;exact dK.ES g r c i l o k
def dK.look(T:dn A.P A.ext)(C:∀p,A.dh p<=400)(h:dK A base aH aL gs u t p x (n+1) j){c g:Nat}(he:Edge.fix false false [.val v] [.load .plain ⟨c,g,none⟩ v] q∈A.cz p)(i:aL.cell? ⟨c,g,none⟩=some v)(E:¬aH c)(k:∀gs u t x,dK A base aH aL gs u t q x n (A.dh q)->S7 A.P bF gs u t):S7 A.P bF gs u t:=by
 refine h.quiet T λgs u t x a l r I z=>?_
 obtain rfl:n=a:=U;obtain⟨y,D,hm,_,F⟩:=z.fix T he;refine r.step λd=>?_
 have o:c<aL.heap.size:=by
  unfold World.cell? at i;split at i
  .rename_i e;exact(Array.getElem?_eq_some_iff.1 e).1
  .cases i
 have G:=l.calm.size;have B:(u.at d).cell? ⟨c,g,none⟩=some v:=by rw[<-i];unfold World.cell?;rw[show(u.at d).heap[c]?=aL.heap[c]? from l.old _ o]
 refine⟨bW y base,u.at d,_,F true base .running none (u.at d) (u.at d) _ (.load B (.nil _)),rfl,bg,λe f=>?_,λbm bh H w=>?_⟩
 .have f:e∈hZ false (cI [cD.load .plain ⟨c,g,none⟩ v]):=by simpa using f
  have f:e∈[(⟨.cell ⟨c,g,none⟩,false,false⟩:Event)]:=f;rw[ev f];exact wa (gu o G) E
 .exact k bm (u.at d) bh y ⟨D,C _,by rw[hm];exact l.at d,w⟩ H
def dK.D9(C:∀p,A.dh p<=400)(c:bN A aH aL u (A.mem p))(z:cc A.P aH gs (bW x base) u t 0){eA:Bool}{to:Nat->Pos}{y:bA}(D:eJ A n (to u.heap.size) (A.dh (to u.heap.size)) y)(j:A.mem (to u.heap.size)=p6 eA (A.mem p) u.heap.size o)(F:∀main base st off (w:World),w.heap.size=u.heap.size->stepG A.P main ⟨x.1,x.2++base,st,none,off⟩ w=.go (bW y base) {w with heap:=w.heap.push o})(k:∀gs u t x b,dK A base aH aL gs u t (to b) x n (A.dh (to b))->S7 A.P bF gs u t):S7 A.P bF gs u t:=by
 refine z.step λd=>?_
 have m:=c.at d;have l:aL.heap.size<=u.heap.size:=c.calm.size;have h:∀b,b<u.heap.size->((u.at d).heap.push o)[b]?=u.heap[b]?:=λb f=>by rw[iq,if_neg (by show b≠u.heap.size;omega)];rfl
 refine⟨bW y base,_,#[],F true base .running none (u.at d) rfl,rfl,by simp;exact Nat.le_succ _,(λe he=>by simp at he),λbm bh G B=>?_⟩;have fin:dK A base aH aL bm {(u.at d)with heap:=(u.at d).heap.push o} bh (to u.heap.size) y n (A.dh (to u.heap.size)):=by
  refine⟨D,C _,⟨?_,λb f=>(h b U).trans (m.old b f),⟨by simp;exact cL l (Nat.le_succ _),c.calm.tape,c.calm.output,c.calm.os⟩,?_,λb f=>by have:=m.ej b f;simp;exact Nat.lt_succ_of_lt this⟩,B⟩
  .rw[j]
   cases eA with
   |true=>exact m.mem.push rfl
   |false=>exact m.mem.keep λi own b g e=>h b (gL c.mem e)
  .intro i own b g e
   rw[j]at e;cases eA with
   |false=>exact m.fi i own b g e
   |true=>
    have e:(A.mem p++[(true,u.heap.size,o)])[i]?=some (own,b,g):=e;rcases Nat.lt_or_ge i (A.mem p).length with ad|ad
    .rw[jz ad]at e;exact m.fi i own b g e
    .rw[jb ad]at e
     rcases r:i-(A.mem p).length with _|q
     .rw[r]at e;simp at e
      obtain⟨_,rfl,_⟩:=e;refine⟨l,λE=>?_⟩;have:=c.ej _ E;omega
     .rw[r]at e;simp at e
 exact k bm _ bh y u.heap.size fin G
def dK.new(T:dn A.P A.ext)(f:∀p,A.dh p<=400)(h:dK A base aH aL gs u t p x (n+1) j){eA:Bool}{to:Nat->Pos}(he:Edge.new eA o to∈A.cz p)(k:∀gs u t x b,dK A base aH aL gs u t (to b) x n (A.dh (to b))->S7 A.P bF gs u t):S7 A.P bF gs u t:=by
 refine h.quiet T λgs u t x a q c r d=>?_
 obtain rfl:n=a:=U;obtain⟨y,i,g,l⟩:=d.new T he u.heap.size;exact dK.D9 f q c i g l k
def dK.nI(T:dn A.P A.ext)(g:∀p,A.dh p<=400)(h:dK A base aH aL gs u t p x (n+1) j){to:Nat->Pos}(he:Edge.nI f o to∈A.cz p)(k:∀gs u t x b,dK A base aH aL gs u t (to b) x n (A.dh (to b))->S7 A.P bF gs u t):S7 A.P bF gs u t:=by
 refine h.quiet T λgs u t x a r c w d=>?_
 obtain rfl:n=a:=U;obtain⟨y,l,i,q⟩:=d.nI T he u.heap.size;exact dK.D9 g r c l i q k
def dK.leave(T:dn A.P A.ext)(h:dK A (bx::rest) aH aL gs u t p x (n+1) j)(i:Kept bx)(he:Edge.leave v∈A.cz p)(k:∀gs u t,bN A aH aL u (A.mem p)->cc A.P aH gs (S6 (eU A.kd bx v) rest) u t 0->S7 A.P bF gs u t):S7 A.P bF gs u t:=by
 refine h.quiet T λgs u t x a r d w g=>?_
 obtain⟨o,l⟩:=g.leave he;refine d.step λc=>⟨_,u.at c,#[],?_,rfl,bg,(λe he=>by simp at he),λbm bh q f=>k bm (u.at c) bh (r.at c) f q⟩
 have:=l true .running none bx rest (u.at c) i;show stepG A.P true (bW x (bx::rest)) (u.at c)=_;rw[show bW x (bx::rest)=(S6 x.1 (bx::rest)) by rw[bW,o];rfl];exact this
def dK.k'(T:dn A.P A.ext)(h:dK A (bx::rest) aH aL gs u t p x (n+1) j)(F:Kept bx)(he:Edge.k' ops v∈A.cz p)(k:∀gs u t,bN A aH aL u (c0 (A.mem p) ops)->cc A.P aH gs (S6 (eU A.kd bx v) rest) u t 0->S7 A.P bF gs u t):S7 A.P bF gs u t:=by
 refine h.quiet T λgs u t x a P z Q D=>?_
 obtain⟨M,w,J,H⟩:=D.k' he;refine z.step λc=>?_
 have m:=P.at c;obtain⟨aC,hd,hm,q,_,I,G,r,E,_⟩:=uJ w m.mem;have e:c0 (A.mem p) ops=M:=by unfold c0;rw[w]
 refine⟨(S6 (eU A.kd bx v) rest),aC,(cI (eh (A.mem p) ops)).toArray,?_,rfl,q.size,λe f=>?_,λbm bh L l=>?_⟩
 .have:=H true .running none bx rest (u.at c) aC _ F hd
  show stepG A.P true (bW x (bx::rest)) (u.at c)=_;rw[show bW x (bx::rest)=(S6 x.1 (bx::rest)) by rw[bW,J ⟨_,_,_,hd⟩];rfl];exact this
 .obtain⟨i,own,b,o,off,wr,g,rfl,_⟩:=r e (by simpa using f)
  exact wa (by rw[I];exact gL m.mem g) (m.fi i own b o g).2
 .have C:deafBehind 0 (cI (eh (A.mem p) ops)).toArray=0:=deafBehind_still (λe f=>by obtain⟨i,own,b,o,off,wr,g,rfl,_⟩:=r e (by simpa using f);exact⟨aF,aF⟩) 0
  rw[C]at l;refine k bm aC bh (by
   rw[e];refine⟨hm,λb d=>?_,m.calm.trans q,λi own b o e=>?_,λb d=>by have:=m.ej b d;omega⟩
   .rw[G b λi o e=>by have:=(m.fi i true b o e).1;omega]
    exact m.old b d
   .obtain⟨K,B⟩:=E i own b o e
    exact m.fi i own b K B) l L
def bN.sub{kv:de Pos}{b7:Mem}(h:bN A aH aL u M)(d:∀(i:Nat) own b o,b7[i]?=some (own,b,o)->∃(i:Nat) (own:Bool),M[i]?=some (own,b,o))(hd:∀(i j:Nat) own b o g c f,b7[i]?=some (own,b,o)->b7[j]?=some (g,c,f)->i≠j->b≠c):bN kv aH aL u b7:=
 ⟨⟨λi own b o e=>by obtain⟨i,own,e⟩:=d i own b o e;exact h.mem.has i own b o e,hd⟩,h.old,h.calm,λi own b o e=>by obtain⟨i,own,e⟩:=d i own b o e;exact h.fi i own b o e,h.ej⟩
end
end Go.aO
namespace Go.aO
attribute [-simp] Go.Sem.runT_eq
open Go.Proofs
variable{sp:List (Nat×Func)}{t:TypeId}{cW:Value->World->Prop}
section
def ob(fn:Func):Func:={fn with body:=some (.refuse "")}
def gM(fn:Func):Func:={fn with name:= "",origin:= ""}
def Mr:Extern.allNextRows.lookup "" = none:=av
def Mo:Extern.allGenericRows.lookup "" = none:=av
def Mu:Extern.allTypedRows.lookup "" = none:=av
def Ms:Extern.allRows.lookup "" = none:=av
def MF(fn:Func):Extern.findNext (gM fn)=none:=by unfold Extern.findNext gM;simp only[Mr];rfl
def ME(fn:Func):Extern.find (gM fn)=none:=by unfold Extern.find gM;simp only[Mo,Mu,Ms];rfl
def ko(fn:Func):Bool:=fn.name != "runtime.NumGoroutine"
def pd(Q:Program)(fn:Func):Bool:=ko fn && match fn.body with
 |some c=>codeOk Q false c
 |none=>false
variable{Q P:Program}{Spec:FuncId->Func->Func->Prop}{K:g8 Q P}{f:FuncId}{fn im:Func}
def sG(h:ko fn=true):fn.name≠ "runtime.NumGoroutine":=by simpa [ko]using h
def Mq:("" : String).endsWith ".init" = false:=av
def uO(c:fn.body=none)(d:fn.name = "")(g:fn.origin = ""):kz Spec P f fn:=by
 have e:gM fn=fn:=by unfold gM;cases fn;simp_all
 exact .none c (by rw[<-e];exact MF fn) (by rw[<-e];exact ME fn) (by simp[d,Mq])
def N9(c:fn.body=none):kz Spec P f (gM fn):=uO c rfl rfl
def nt(hp:P.funcs[f]?=some fn)(h:pd Q fn=true):kz (fj K) P f fn:=by
 unfold pd at h;rw[Bool.and_eq_true]at h;obtain⟨i,g⟩:=h;cases d:fn.body with
 |none=>rw[d]at g;cases g
 |some c=>
  rw[d]at g;exact .same fn hp (by rw[d];rfl) (by rw[d];rfl) (sG i) rfl (.inl ⟨c,c,d,d,rfl,.same g⟩)
def N'(hp:P.funcs[f]?=some im)(c:im.body.isSome=true)(d:ko im=true)(g:fn.ntmps=im.ntmps):kz (fj K) P f (ob fn):=
 .same im hp rfl c (sG d) g (.inr (.inl ⟨_,rfl⟩))
def o'(g:K.fn f)(hp:P.funcs[f]?=some im)(c:fn.body.isSome=true)(d:im.body.isSome=true)(h:ko im=true)(i:fn.ntmps=im.ntmps):kz (fj K) P f fn:=
 .same im hp c d (sG h) i (.inr (.inr g))
def qt(Spec:FuncId->Func->Func->Prop)(P:Program):Nat->List Func->Prop
 |_,[]=>True
 |k,fn::l=>(ko fn=true/\kz Spec P k fn)/\qt Spec P (k+1) l
def qt.get:∀{l:List Func} {k:Nat},qt Spec P k l->∀{i fn},l[i]?=some fn->ko fn=true/\kz Spec P (k+i) fn
 | [],_,_,_,_,e=>by simp at e
 |x::l,k,h,0,fn,e=>by cases e;exact h.1
 |x::l,k,h,i+1,fn,e=>by have:=qt.get (l:=l) h.2 (i:=i) (by simpa using e);rw[Nat.add_assoc,Nat.add_comm 1 i]at this;exact this
def fe.all{l:List Func}(c:Q.funcs=l.toArray)(d:Q.funcs.size=P.funcs.size)(h:qt Spec P 0 l):fe Spec Q P:=⟨d,λf fn e=>by have:=h.get (i:=f) (fn:=fn) (by rw[c]at e;simpa using e);exact⟨sG this.1,by simpa using this.2⟩⟩
end
section
variable{Q P:Program}{K:g8 Q P}
def xv(hp:P.funcs[103]?=some Tryz.f103):kz (fj K) P 103 Tryz.f103:=
 .ext (Extern.Atomic.loadT (.int .u32)) Tryz.f103 hp rfl rfl av av av av (sG rfl) (Kr .u32 a6)
def xw(hp:P.funcs[130]?=some Tryz.f130):kz (fj K) P 130 Tryz.f130:=
 .ext Extern.Atomic.storeT Tryz.f130 hp rfl rfl av av av av (sG rfl) Ks
def pick(sp:List (Nat×Func))(rs:List Nat)(k:Nat)(fn:Func):Func:=
 match sp.lookup k with
 |some g=>g
 |none=>if rs.contains k then ob fn else if fn.body.isNone then gM fn else fn
def mix(sp:List (Nat×Func))(rs:List Nat):Nat->List Func->List Func
 |_,[]=>[]
 |k,fn::l=>pick sp rs k fn::mix sp rs (k+1) l
def pw(K:g8 Q P):List (Nat×Func)->Prop
 | []=>True
 |x::l=>(ko x.2=true/\kz (fj K) P x.1 x.2)/\pw K l
def pw.get:∀{l:List (Nat×Func)},pw K l->∀{k g},l.lookup k=some g->ko g=true/\kz (fj K) P k g
 | [],_,_,_,e=>by cases e
 |(j,g')::l,h,k,g,e=>by
  rw[List.lookup_cons]at e;by_cases c:k == j
  .simp only[c]at e
   cases e;rw[eq_of_beq c];exact h.1
  .simp only[c]at e
   exact pw.get (l:=l) h.2 e
def w7(Q:Program)(sp:List (Nat×Func))(rs:List Nat):Nat->List Func->Bool
 |_,[]=>true
 |k,fn::l=>((sp.lookup k).isSome||(if rs.contains k then fn.body.isSome && ko fn else fn.body.isNone||pd Q fn)) && w7 Q sp rs (k+1) l
def D3{sp:List (Nat×Func)}{rs:List Nat}(d:pw K sp):∀(l:List Func) (k:Nat),(∀i fn,l[i]?=some fn->P.funcs[k+i]?=some fn)->w7 Q sp rs k l=true->qt (fj K) P k (mix sp rs k l)
 | [],_,_,_=>trivial
 |fn::l,k,h,e=>by
  unfold w7 at e;rw[Bool.and_eq_true]at e;refine⟨?_,D3 d l (k+1) (λi x p=>by rw[Nat.add_assoc,Nat.add_comm 1 i];exact h (i+1) x (by simpa using p)) e.2⟩;have hp:=h 0 fn rfl;rw[Nat.add_zero]at hp;unfold pick;cases j:sp.lookup k with
  |some g=>exact d.get j
  |none=>
   have c:=e.1;rw[j]at c;dsimp only at c ⊢;by_cases o:rs.contains k=true
   .rw[if_pos o]at c ⊢
    rw[Option.isSome_none,Bool.false_or,Bool.and_eq_true]at c;exact⟨c.2,N' hp c.1 c.2 rfl⟩
   .rw[if_neg o]at c ⊢
    by_cases f:fn.body.isNone=true
    .rw[if_pos f]
     exact⟨rfl,N9 (by simpa using f)⟩
    .rw[if_neg f]
     have d:pd Q fn=true:=by simpa [f]using c
     exact⟨by unfold pd at d;rw[Bool.and_eq_true]at d;exact d.1,nt hp d⟩
def zS{Q:Program}{K:g8 Q aK}{rs:List Nat}(c:Q.funcs=(mix sp rs 0 aK.funcs.toList).toArray)(f:Q.funcs.size=aK.funcs.size)(d:pw K sp)(h:w7 Q sp rs 0 aK.funcs.toList=true):fe (fj K) Q aK:=
 fe.all c f (D3 d _ 0 (λi fn e=>by simpa using e) h)
def rQ(Q:Program):List (Nat×Func)->Prop
 | []=>True
 |x::l=>Q.funcs[x.1]?=some x.2/\rQ Q l
def rQ.get:∀{l:List (Nat×Func)},rQ Q l->∀{k g},l.lookup k=some g->Q.funcs[k]?=some g
 | [],_,_,_,e=>by cases e
 |(j,g')::l,h,k,g,e=>by
  rw[List.lookup_cons]at e;by_cases c:k == j
  .simp only[c]at e
   cases e;rw[eq_of_beq c];exact h.1
  .simp only[c]at e
   exact rQ.get (l:=l) h.2 e
def xG(Q:Program)(sp:List (Nat×Func)):Nat->List Func->Bool
 |_,[]=>true
 |k,fn::l=>((sp.lookup k).isSome||(fn.body.isNone && fn.name == "" && fn.origin == "" || pd Q fn)) && xG Q sp (k+1) l
def Fv{K:g8 Q Q}{sp:List (Nat×Func)}(j:pw K sp)(d:rQ Q sp):∀(l:List Func) (k:Nat),(∀i fn,l[i]?=some fn->Q.funcs[k+i]?=some fn)->xG Q sp k l=true->qt (fj K) Q k l
 | [],_,_,_=>trivial
 |fn::l,k,h,e=>by
  unfold xG at e;rw[Bool.and_eq_true]at e;refine⟨?_,Fv j d l (k+1) (λi x o=>by rw[Nat.add_assoc,Nat.add_comm 1 i];exact h (i+1) x (by simpa using o)) e.2⟩;have hp:=h 0 fn rfl;rw[Nat.add_zero]at hp;cases c:sp.lookup k with
  |some g=>
   have:=d.get c;rw[hp]at this;cases this;exact j.get c
  |none=>
   have ay:=e.1;rw[c,Option.isSome_none,Bool.false_or,Bool.or_eq_true]at ay;rcases ay with ay|ay
   .simp only[Bool.and_eq_true,beq_iff_eq]at ay
    have f:fn.name = "":=ay.1.2;exact⟨by unfold ko;rw[f];rfl,uO (by simpa using ay.1.1) f ay.2⟩
   .exact⟨by unfold pd at ay;rw[Bool.and_eq_true]at ay;exact ay.1,nt hp ay⟩
def AE{Q:Program}(d:pw (jv Q) sp)(c:rQ Q sp)(h:xG Q sp 0 Q.funcs.toList=true):fe (fj (jv Q)) Q Q:=
 fe.all (l:=Q.funcs.toList) aF rfl (Fv d c _ 0 (λi fn e=>by simpa using e) h)
end
def xY(T:Nat):Code:=
 .seq (.region 0 #[⟨some 2,.binOp .eql 16 (.tmp 0) (.const (.pointer (some ⟨T,0,none⟩))) 16,4,"",#[],none⟩,⟨some 3,.binOp .eql 3 (.tmp 1) (.const (ah 0)) 3,4,"",#[],none⟩] false)
  (.cond (.tmp 2) (.cond (.tmp 3) (.seq (.region 1 #[⟨some 4,.assign (.const iT),97,"",#[],none⟩] false) .ret) (.refuse "")) (.refuse ""))
noncomputable def bS.b6(T:Nat):Func:={gM Tryz.f0 with nfree:=T+1}
noncomputable def bS.rp(T:Nat):Func:={Tryz.f42 with body:=some (xY T),results:=#[.tmp 4],nfree:=2,endLine:=1000000007}
def Fs:List Nat:=[71,79,94,95,97,98,128,129,149,205]
noncomputable def bS.list(T:Nat):List Func:=mix [(0,bS.b6 T),(42,bS.rp T)] Fs 0 aK.funcs.toList
noncomputable def bS(T:Nat):Program:=⟨Tryz.progTables,(bS.list T).toArray⟩
def bS.size(T:Nat):((bS T)).funcs.size=aK.funcs.size:=av
def bS.K(T:Nat):g8 (bS T) aK:=⟨λ_ _ _=>False,λf=>f=42⟩
def bS.je(T:Nat):je (bS T)=some T:=av
def bS.J1(T:Nat):nT (bS T) 16 (.tmp 0) (.const (.pointer (some ⟨T,0,none⟩)))=true:=av
def bS.J3(T:Nat):nT (bS T) 3 (.tmp 1) (.const (ah 0))=true:=av
def bS.MM(T:Nat):pd (bS T) (bS.rp T)=true:=by
 have c:er (bS T) (.const (.pointer (some ⟨T,0,none⟩)))=true:=by unfold er pinned;rw[bS.je];simp
 have d:er (bS T) (.const (ah 0))=true:=av;have f:er (bS T) (.const iT)=true:=av;have g:ko (bS.rp T)=true:=av;have h:∀n,er (bS T) (.tmp n)=true:=λ_=>rfl
 unfold pd;rw[g];show(true && codeOk (bS T) false (xY T))=true;simp[xY,codeOk,p9,o6,c,d,f,h,bS.J1,bS.J3]
def bS.H(T:Nat):fe (fj (bS.K T)) (bS T) aK:=
 zS (sp:=[(0,bS.b6 T),(42,bS.rp T)]) (rs:=Fs) rfl (bS.size T) ⟨⟨rfl,uO rfl rfl rfl⟩,⟨rfl,o' rfl Tryz.func42 rfl rfl rfl rfl⟩,trivial⟩ av
def bS.ek(T:Nat):fe (fj (jv (bS T))) (bS T) (bS T):=
 AE (sp:=[(0,bS.b6 T),(42,bS.rp T)]) ⟨⟨rfl,uO rfl rfl rfl⟩,⟨rfl,nt av (bS.MM T)⟩,trivial⟩ ⟨av,av,trivial⟩ av
def bS.S(T:Nat):Same (bS T) aK:=⟨rfl⟩
def bS.eb(T:Nat):eK (bS T) 42=some 2/\eK (bS T) 56=none:=⟨av,av⟩
def bS.vJ(T:Nat):(bS T).cellsOf 100=28:=av
def bS.c3(T:Nat):(bS T).cellsOf 3=1:=av
section
variable{Q:Program}{R:Value->World->Prop}{f0:FuncId}
def dz(Q:Program)(dx m:Machine):Prop:=Steps Q dx m/\∃bo w',Steps Q m (lone bo [wall] w')
def e3.fA{V:dt}(h:e3 Q f0 R V){aR:Tape}(d:∀k,k<V.w.drawn->aR k=V.w.tape k):dz Q (V.iF aR).m (V.iF aR).m:=by obtain⟨v,w',bo,_,c,_⟩:=h aR d;exact⟨Steps.refl _ _,bo,w',c⟩
section
variable{dx:Machine}{fr wx:Frame}{cs y1:List Frame}{w aG:World}{es:Array Event}
def dz.go(h:dz Q dx (lone fr cs w))(d:2<=cs.length)(e:stepG Q true (S6 fr cs) w=.go (S6 wx y1) aG es):dz Q dx (lone wx y1 aG):=by
 obtain⟨⟨cT,g⟩,bo,w',n,c⟩:=h;have f:step Q (lone fr cs w)=.next (lone wx y1 aG):=step_lone_go (by rw[e];rfl);refine⟨(show Steps Q dx (lone fr cs w)from⟨cT,g⟩).trans (Steps.head f (Steps.refl _ _)),bo,w',?_⟩;cases n with
 |zero=>
  simp only[runN]at c;injection c with c
  obtain⟨_,i,_⟩:=p0 c;rw[i]at d;simp at d
 |succ n=>
  simp only[runN,f]at c;exact⟨n,c⟩
def dz.dead{o:Outcome}(h:dz Q dx (lone fr cs w))(d:2<=cs.length)(e:stepG Q true (S6 fr cs) w=.ended o aG es):False:=by
 obtain⟨_,bo,w',n,c⟩:=h;have g:step Q (lone fr cs w)=.ended o aG:=step_lone_ended (by rw[e];rfl);cases n with
 |zero=>
  simp only[runN]at c;injection c with c
  obtain⟨_,f,_⟩:=p0 c;rw[f]at d;simp at d
 |succ n=>
  simp only[runN,g]at c;cases c
variable{fn:FuncId}{tmps:Array Value}{k:List Item}{kind:CallKind}{ops:Array Oper}{i:Nat}{rest:List Nat}{o:Oper}
def dz.op(h:dz Q dx (lone ⟨fn,tmps,.inRegion ops (i::rest)::k,[],.run,kind,none⟩ cs w))(d:2<=cs.length)(g:S8 kind)(c:ops[i]?=some o)(f:o.guard=none){v:Value}(j:(execOp (Frame.eval ⟨fn,tmps,.inRegion ops (i::rest)::k,[],.run,kind,none⟩) o).runT Q w #[]=(.ok (.value v) aG,es)):
 dz Q dx (lone (Frame.finish ⟨fn,tmps,.inRegion ops (i::rest)::k,[],.run,kind,none⟩ v) cs aG):=by
 refine h.go (es:=seen Q fn es) d ?_;rw[rA,c];rw[if_pos (by simp[Region.wanted,f]),rf (o:=o) (by simp[Frame.oper?,c]) (.inl rfl),r6 j (by rcases g with rfl|rfl<;>rfl)]
def dz.Ef(h:dz Q dx (lone ⟨fn,tmps,.inRegion ops (i::rest)::k,[],.run,kind,none⟩ cs w))(d:2<=cs.length)(c:ops[i]?=some o)(f:o.guard=none){x:Halt}(g:(execOp (Frame.eval ⟨fn,tmps,.inRegion ops (i::rest)::k,[],.run,kind,none⟩) o).runT Q w #[]=(.halt x aG,es))(j:jU x):False:=by obtain⟨l,q,ba,e⟩:=yF (p:=Q) (fr:=⟨fn,tmps,.inRegion ops (i::rest)::k,[],.run,kind,none⟩) (cs:=cs) g j;refine h.dead (o:=l) (aG:=q) (es:=ba) d ?_;rw[rA,c];rw[if_pos (by simp[Region.wanted,f]),rf (o:=o) (by simp[Frame.oper?,c]) (.inl rfl),e]
end
def mI{d:TypeDesc}(hu:Q.underlying t=some d)(w:World)(acc:Array Event):(underlying t).runT Q w acc=(.ok d w,acc):=by show(match Q.underlying t with|some d=>(pure d:Sem TypeDesc)|none=>stuck "no such type").runT Q w acc=_;rw[hu];rfl
def xr{i:TypeInfo}(c:Q.info? t=some i)(w:World)(acc:Array Event):(sizeOf t).runT Q w acc=(.ok i.size w,acc):=by show((match Q.info? t with|some d=>(pure d:Sem TypeInfo)|none=>stuck "no such type") >>= λi=>(pure i.size:Sem Nat)).runT Q w acc=_;rw[c];rfl
section
variable{α β g4:Type}{s:Sem α}{F:α->Sem β}{w aG:World}{acc qJ:Array Event}
def gj{a:α}(h:s.runT Q w acc=(.ok a aG,qJ)):(s >>= F).runT Q w acc=(F a).runT Q aG qJ:=by show(s.bind F).runT Q w acc=_;rw[Sem.runT_bind',h]
def n'{x:Halt}(h:s.runT Q w acc=(.halt x aG,qJ)):(s >>= F).runT Q w acc=(.halt x aG,qJ):=by show(s.bind F).runT Q w acc=_;rw[Sem.runT_bind',h]
def dJ(Q:Program)(w:World)(s:Sem α)(f:β->α)(cW:β->World->Prop):Prop:=
 (∃v aG es,cW v aG/\s.runT Q w #[]=(.ok (f v) aG,es))\/∃x aG es,s.runT Q w #[]=(.halt x aG,es)/\jU x
def dJ.ok{f:g4->α}{cW:g4->World->Prop}{v:g4}(g:cW v aG)(e:s.runT Q w #[]=(.ok (f v) aG,acc)):dJ Q w s f cW:=.inl ⟨_,_,_,g,e⟩
def dJ.no{f:g4->α}{cW:g4->World->Prop}{x:Halt}(e:s.runT Q w #[]=(.halt x aG,acc))(g:jU x):dJ Q w s f cW:=.inr ⟨_,_,_,e,g⟩
end
section
variable{dx:Machine}{C:List Frame}{w:World}{kind:CallKind}{fn:FuncId}{T:Array Value}{k:List Item}{ops:Array Oper}{i j n:Nat}{rest l:List Nat}{o:Oper}{K A B:Code}{u v x y:Value}
def dz.reg(h:dz Q dx (lone ⟨fn,T,[.code (.seq (.region j ops false) K)],[],.run,kind,none⟩ C w))(hC:2<=C.length)(e:stepG Q true (S6 ⟨fn,T,[.code (.region j ops false),.code K],[],.run,kind,none⟩ C) w=.go (S6 ⟨fn,T,[.inRegion ops l,.code K],[],.run,kind,none⟩ C) w #[]):
 dz Q dx (lone ⟨fn,T,[.inRegion ops l,.code K],[],.run,kind,none⟩ C w):=
 (h.go (wx:=⟨fn,T,[.code (.region j ops false),.code K],[],.run,kind,none⟩) (es:=#[]) hC rfl).go hC e
def dz.gM(h:dz Q dx (lone ⟨fn,T,[.inRegion ops [],.code K],[],.run,kind,none⟩ C w))(hC:2<=C.length):dz Q dx (lone ⟨fn,T,[.code K],[],.run,kind,none⟩ C w):=h.go (es:=#[]) hC rfl
def dz.n3{d:Nat}(h:dz Q dx (lone ⟨fn,T,.inRegion ops (i::rest)::k,[],.run,kind,none⟩ C w))(hC:2<=C.length)(l:S8 kind)(f:ops[i]?=some o)(j:o.guard=none)(hd:o.dst=some d)(c:dJ Q w (execOp (Frame.eval ⟨fn,T,.inRegion ops (i::rest)::k,[],.run,kind,none⟩) o) .value cW):∃v aG,cW v aG/\dz Q dx (lone ⟨fn,T.setIfInBounds d v,.inRegion ops rest::k,[],.run,kind,none⟩ C aG):=by
 rcases c with⟨v,aG,es,g,c⟩|⟨x,aG,es,c,g⟩
 .have h:=h.op hC l f j c
  rw[show Frame.finish ⟨fn,T,.inRegion ops (i::rest)::k,[],.run,kind,none⟩ v=⟨fn,T.setIfInBounds d v,.inRegion ops rest::k,[],.run,kind,none⟩ by simp[Frame.finish,f,hd]]at h;exact⟨v,aG,g,h⟩
 .exact(h.Ef hC f j c g).elim
def dz.Ew{cW:Unit->World->Prop}(h:dz Q dx (lone ⟨fn,T,.inRegion ops (i::rest)::k,[],.run,kind,none⟩ C w))(hC:2<=C.length)(j:S8 kind)(d:ops[i]?=some o)(f:o.guard=none)(hd:o.dst=none)(c:dJ Q w (execOp (Frame.eval ⟨fn,T,.inRegion ops (i::rest)::k,[],.run,kind,none⟩) o) (λ_=>.skip) cW):∃aG,cW () aG/\dz Q dx (lone ⟨fn,T,.inRegion ops rest::k,[],.run,kind,none⟩ C aG):=by
 rcases c with⟨v,aG,es,g,c⟩|⟨x,aG,es,c,g⟩
 .refine⟨aG,g,?_⟩
  have e:Frame.finish ⟨fn,T,.inRegion ops (i::rest)::k,[],.run,kind,none⟩ undef=⟨fn,T,.inRegion ops rest::k,[],.run,kind,none⟩:=by simp[Frame.finish,d,hd]
  refine h.go (es:=seen Q fn es) hC ?_;rw[rA,d];rw[if_pos (by simp[Region.wanted,f]),rf (o:=o) (by simp[Frame.oper?,d]) (.inl rfl),tL c (by rcases j with rfl|rfl<;>rfl),e]
 .exact(h.Ef hC d f c g).elim
def dz.cd(h:dz Q dx (lone ⟨fn,T,[.code (.cond (.tmp i) A B)],[],.run,kind,none⟩ C w))(hC:2<=C.length){v:Bool}(c:T.getD i undef=.bool v):dz Q dx (lone ⟨fn,T,[.code (if v then A else B)],[],.run,kind,none⟩ C w):=by refine h.go (es:=#[]) hC ?_;have e:Frame.eval ⟨fn,T,[.code (.cond (.tmp i) A B)],[],.run,kind,none⟩ (.tmp i)=.bool v:=c;simp only[stepG,stepG.exec,e]
def dz.ob(h:dz Q dx (lone ⟨fn,T,[.code (.refuse "")],[],.run,kind,none⟩ C w))(hC:2<=C.length):False:=h.dead (es:=#[]) hC rfl
def dz.rt(h:dz Q dx (lone ⟨fn,T,[.code .ret],[],.run,kind,none⟩ C w))(hC:2<=C.length):dz Q dx (lone ⟨fn,T,[.code .ret],[],.returning,kind,none⟩ C w):=h.go (es:=#[]) hC rfl
def uR(h:i<T.size):(T.setIfInBounds i v).getD i undef=v:=by rw[Array.getD_eq_getD_getElem?,iO h];rfl
def OZ(h:i≠j):(T.setIfInBounds i v).getD j undef=T.getD j undef:=by rw[Array.getD_eq_getD_getElem?,h7 h,Array.getD_eq_getD_getElem?]
def r5{c:Array Value}(h:i<T.size:=by simp):(T++c).getD i undef=T.getD i undef:=by rw[Array.getD_eq_getD_getElem?,Array.getElem?_append_left h,Array.getD_eq_getD_getElem?]
def mN(h:T.getD j undef=x/\n<=T.size)(e:i≠j:=by omega):(T.setIfInBounds i v).getD j undef=x/\n<=(T.setIfInBounds i v).size:=⟨(OZ e).trans h.1,by simpa using h.2⟩
def nx(h:n<=T.size)(e:i<n:=by omega):(T.setIfInBounds i v).getD i undef=v/\n<=(T.setIfInBounds i v).size:=⟨uR (by omega),by simpa using h⟩
variable{t bh:TypeId}{X Y:Operand}{bz:Operand->Value}
def CW(c:o.op=.binOp .eql t X Y bh)(d:bz X=x)(f:bz Y=y):execOp bz o=(do let v <-(do eqGuard .eql t X Y x y;binOp .eql t x y);pure (.value v)):=by unfold execOp;rw[c];dsimp only;rw[d,f]
def dJ.eql(f:o.op=.binOp .eql t X Y bh)(i:bz X=x)(j:bz Y=y)(d:eqGuard .eql t X Y x y=pure ())(c:binOp .eql t x y=(do pure (.bool (<-Op.equal t x y))))(r:dJ Q w (Op.equal t x y) id λb=>cW (.bool b)):
 dJ Q w (execOp bz o) .value cW:=by
 rw[CW f i j,d,c];show dJ Q w (do let v <-(do pure (.bool (<-Op.equal t x y)):Sem Value);pure (Next.value v)) .value cW;rcases r with⟨b,aG,es,g,r⟩|⟨h,aG,es,r,g⟩
 .exact .ok g (gj (a:=Value.bool b) (gj r))
 .exact .no (n' (n' r)) g
def dJ.int{q:IntKind}{a:Int}(hu:Q.underlying t=some (.int q))(h:o.op=.binOp .eql t X Y bh)(i:bz X=x)(j:bz Y=.int q a):dJ Q w (execOp bz o) .value λv aG=>w=aG/\((v=.bool true/\x=.int q a)\/v=.bool false):=by
 by_cases d:∃g2 n,x=.int g2 n
 .obtain⟨g2,n,rfl⟩:=d
  rw[CW h i j];by_cases f:g2=q
  .subst f
   have c:binOp .eql t (.int g2 n) (.int g2 a)=pure (.bool (n == a)):=(if_neg aF).trans rfl;rw[c];refine .ok (v:=.bool (n == a)) (acc:=#[]) ⟨rfl,?_⟩ rfl;by_cases g:n=a
   .subst g;exact .inl ⟨by rw[beq_self_eq_true],rfl⟩
   .exact .inr (by rw[beq_eq_false_iff_ne.2 g])
  .have c:binOp .eql t (.int g2 n) (.int q a)=stuck "BinOp: operands of different kinds":=if_pos f
   rw[c];exact .no (x:=.stuck _) (aG:=w) (acc:=#[]) rfl trivial
 .refine dJ.eql h i j (by cases x<;>rfl) (by cases x<;>first|rfl|exact absurd ⟨_,_,rfl⟩ d) ?_
  unfold dJ Op.equal Op.maxDepth Op.equalIn;rw[gj (mI hu w #[])];cases x with
  |int g2 n=>exact absurd ⟨_,_,rfl⟩ d
  |pointer p=>
   cases p with
   |none=>exact dJ.no (acc:=#[]) (aG:=w) rfl trivial
   |some p=>
    rcases a with(_|a)|a
    .exact dJ.ok (v:=false) (acc:=#[]) (aG:=w) ⟨rfl,.inr rfl⟩ rfl
    all_goals exact dJ.no (acc:=#[]) (aG:=w) rfl trivial
  |_=>exact dJ.no (acc:=#[]) (aG:=w) rfl trivial
def dJ.nil(hu:∃m,Q.underlying t=some (.interface m))(d:o.op=.binOp .eql t X Y bh)(f:bz X=x)(g:bz Y=.nilIface)(c:Y=.const .nilIface):dJ Q w (execOp bz o) .value λv aG=>w=aG/\((v=.bool true/\x=.nilIface)\/(v=.bool false/\∃t u,x=.iface t u)):=by
 obtain⟨m,hu⟩:=hu;subst c;refine dJ.eql d f g (by cases x<;>cases X<;>rfl) (by cases x<;>rfl) ?_;unfold dJ Op.equal Op.maxDepth Op.equalIn;rw[gj (mI hu w #[])];cases x with
 |nilIface=>exact dJ.ok (v:=true) (acc:=#[]) (aG:=w) ⟨rfl,.inl ⟨rfl,rfl⟩⟩ rfl
 |iface t v=>exact dJ.ok (v:=false) (acc:=#[]) (aG:=w) ⟨rfl,.inr ⟨rfl,t,v,rfl⟩⟩ rfl
 |_=>exact dJ.no (acc:=#[]) (aG:=w) rfl trivial
end
def bS.Ru(T:Nat):(bS T).underlying 16=some (.pointer 279):=av
def bS.Rv(T:Nat):(bS T).underlying 3=some (.int .i64):=av
def bS.O5(T:Nat):((bS T).info? 279).map (·.size)=some 0:=av
def y'(T:Nat)(x:Value)(w:World):(x=pt T->(Op.equal 16 x (pt T)).runT (bS T) w #[]=(.ok true w,#[]))/\(x≠pt T->w.tape w.drawn .zeroSizeEq=0->dJ (bS T) w (Op.equal 16 x (pt T)) id λb _=>b=false):=by
 obtain⟨i,c,d⟩:∃i,(bS T).info? 279=some i/\i.size=0:=by
  have:=bS.O5 T;cases e:(bS T).info? 279 with
  |none=>rw[e]at this;cases this
  |some i=>rw[e]at this;exact⟨i,rfl,by simpa using this⟩
 unfold dJ Op.equal Op.maxDepth Op.equalIn;rw[gj (mI (bS.Ru T) w #[])];cases x with
 |pointer b=>
  cases b with
  |none=>exact⟨nofun,λ_ _=>dJ.ok (v:=false) (acc:=#[]) (aG:=w) rfl rfl⟩
  |some b=>
   dsimp only[pt];rw[gj (xr c w #[]),d];simp only[ne_eq,not_true_eq_false,if_false];refine⟨λe=>?_,λe f=>?_⟩
   .have e:b=⟨T,0,none⟩:=by simpa using e
    subst e;rw[if_pos aF];rfl
   .rw[if_neg (by simpa using e)]
    refine dJ.ok (v:=false) (acc:=#[]) (aG:={w with drawn:=w.drawn+1}) rfl ?_;have e:(choose .zeroSizeEq >>= λx=>(pure (decide (x=1)):Sem Bool)).runT (bS T) w #[]=(.ok (decide (w.tape w.drawn .zeroSizeEq%2=1)) {w with drawn:=w.drawn+1},#[]):=by simp[choose,bind,Sem.bind,pure,Sem.runT,Question.forced,Question.cut];rfl
    refine e.trans ?_;rw[f];rfl
 |_=>exact⟨nofun,λ_ _=>dJ.no (acc:=#[]) (aG:=w) rfl trivial⟩
end
end Go.aO
namespace Go.aO
attribute [-simp] Go.Sem.runT_eq
open Go.Proofs Go.Conc Go.ConcN
variable{b e m n:Nat}{P:Program}{w:World}
section
def At.jN{Pos:Type}{A:de Pos}{p:Pos}{x:bA}(h:At A n p x){X:bA}{to:Pos}(he:Edge.join X to∈A.cz p):x=X:=by obtain⟨z,c,rfl⟩:=h;exact(hK.mem c _ he).1
inductive yr where
 |jr|jX|h6|gH|aq|fin|none
section
variable(b m:Nat)(bK:TypeId×Nat)(kd:CallKind)
abbrev qp:Addr:=⟨b,m,none⟩
def BN:List dO:=[.oe (some bK),.wv false,.val (.int .i32 0)]
noncomputable def wZ(n:Nat)(x:bA)(l:List dO):bA:=sF Tryz.prog hv (λ_=>false) n x l
noncomputable def pZ:bA:=nk Tryz.prog hv (λ_=>false) 400 (wZ 400 (wZ 400 (wZ 400 (Frame.enter Tryz.prog 128 #[.pointer (some ⟨b,m,none⟩)] kd,[]) []) (BN bK)) [])
noncomputable def qo:bA:=nk Tryz.prog hv (λ_=>false) 400 (wZ 400 (Frame.enter Tryz.prog 129 #[.pointer (some ⟨b,m,none⟩)] kd,[]) [.val (.int .i32 1)])
noncomputable def LI:yr->List (Edge yr)
 |.jr=>[.fix true false [] [.mark (.extern 111),.mark .disable] .jX]
 |.jX=>[.fix true false (BN bK) [.mark (.extern 148),.shape b (some bK),.frozen (qp b m) false,.load .atomic (qp b m) (.int .i32 0),.store .atomic (qp b m) (.int .i32 1)] .h6]
 |.h6=>[.fix true false [] [.mark (.extern 112),.mark .enable] .gH]
 |.gH=>[.join (pZ b m bK kd) .none]
 |.aq=>[.fix true false [] [.mark (.extern 123),.mark (.acquire (qp b m))] .fin]
 |.fin=>[.leave (.tuple #[])]
 |.none=>[]
inductive tI where
 |ld|gH|cx|jr|add|h6|fin|none
noncomputable def Ry:tI->List (Edge tI)
 |.ld=>[.fix true false [.val (.int .i32 1)] [.load .plain (qp b m) (.int .i32 1)] .gH]
 |.gH=>[.join (qo b m kd) .none]
 |.cx=>[.fix true false [] [.mark (.extern 110),.mark (.releaseMerge (qp b m))] .jr]
 |.jr=>[.fix true false [] [.mark (.extern 111),.mark .disable] .add]
 |.add=>[.fix true false [.val (.int .i32 1)] [.mark (.extern 150),.load .atomic (qp b m) (.int .i32 1),.store .atomic (qp b m) (.int .i32 0)] .h6]
 |.h6=>[.fix true false [] [.mark (.extern 112),.mark .enable] .fin]
 |.fin=>[.leave (.tuple #[])]
 |.none=>[]
end
noncomputable def nj(b m:Nat)(bK:TypeId×Nat)(kd:CallKind):de yr:=⟨Tryz.prog,hv,λ_=>false,kd,λ_=>[],λ_=>400,LI b m bK kd⟩
noncomputable def mT(b m:Nat)(kd:CallKind):de tI:=⟨Tryz.prog,hv,λ_=>false,kd,λ_=>[],λ_=>400,Ry b m kd⟩
def E0(r:Nat)(w:World)(acc:Array Event):(shape r).runT P w acc=(.ok (w.shape? r) w,acc):=rfl
def I3{src dst t:TypeId}{i:TypeInfo}(c:P.underlying src=some (.pointer t))(hd:P.underlying dst=some .unsafePointer)(j:P.info? t=some i)(o:i.size≠0)(d:w.shape? b=some (e,n))(p:m<n):
 (convert src dst (.pointer (some ⟨b,m,none⟩))).runT P w #[]=(.ok (.pointer (some ⟨b,m,none⟩)) w,#[]):=by
 have l:(viewAt b).runT P w #[]=(.ok none w,#[]):=by unfold viewAt;rw[gj (E0 b w #[]),d];rfl
 have g:(cellsIn b).runT P w #[]=(.ok (some n) w,#[]):=by unfold cellsIn;rw[gj (E0 b w #[]),d];rfl
 have f:(Conv.seenAt ⟨b,m,none⟩).runT P w #[]=(.ok ⟨b,m,none⟩ w,#[]):=by unfold Conv.seenAt;rw[gj l];rfl
 unfold convert;rw[gj (mI c w #[]),gj (mI hd w #[])];show(Conv.unsafePointer src dst (.pointer (some ⟨b,m,none⟩))).runT P w #[]=_;unfold Conv.unsafePointer;rw[gj (mI c w #[]),gj (mI hd w #[])];dsimp only;rw[gj f];dsimp only;rw[gj g];dsimp only;rw[gj (xr j w #[])];have h:¬(n<=m):=U;simp[o,h];rfl
def qR(P:Program)(x:bA):Option (Oper×Addr):=
 match x.1.kind,x.1.roundOf,x.1.mode,x.1.todo with
 |.normal,none,.run,.inRegion ops (i::_)::_ |.deferred,none,.run,.inRegion ops (i::_)::_=>
  if ((ops[i]?).map (Region.wanted · (yielded ops x.1.tmps))).getD false then
   match ops[i]? with
   |some o=>match o.op with
    |.convert 260 185 v=>match x.1.eval v with
     |.pointer (some a)=>some (o,a)
     |_=>none
    |_=>none
   |none=>none
  else none
 |_,_,_,_=>none
def aK.x6:aK.underlying 260=some (.pointer 90):=av
def aK.Rt:aK.underlying 185=some .unsafePointer:=av
def aK.i96:(aK.info? 90).map (·.size)=some 2:=av
def Cy{x:bA}{o:Oper}(h:qR aK x=some (o,⟨b,m,none⟩))(D:w.shape? b=some (e,n))(u:m<n)(main:Bool)(base:List Frame)(st:GoStatus)(off:Option (Array CommCase×CommShape)):
 stepG aK main ⟨x.1,x.2++base,st,none,off⟩ w=.go (S6 (x.1.finish (.pointer (some ⟨b,m,none⟩))) (x.2++base)) w #[]:=by
 obtain⟨i96,q,F⟩:∃i,aK.info? 90=some i/\i.size=2:=by
  have:=aK.i96;cases e:aK.info? 90 with
  |none=>rw[e]at this;cases this
  |some i=>rw[e]at this;exact⟨i,rfl,by simpa using this⟩
 obtain⟨⟨fn,tmps,todo,defers,mode,kind,ro⟩,cs⟩:=x;unfold qR at h;dsimp only at h ⊢;have key:∀(ops:Array Oper) (i:Nat) (rest:List Nat) (k:List Item),todo=.inRegion ops (i::rest)::k->mode=.run->ro=none->(S8 kind)->
  (if ((ops[i]?).map (Region.wanted · (yielded ops tmps))).getD false then
   match ops[i]? with
   |some o=>match o.op with
    |.convert 260 185 v=>match Frame.eval ⟨fn,tmps,todo,defers,mode,kind,ro⟩ v with
     |.pointer (some a)=>some (o,a)
     |_=>none
    |_=>none
   |none=>none
  else none)=some (o,(⟨b,m,none⟩:Addr))->stepG aK main ⟨⟨fn,tmps,todo,defers,mode,kind,ro⟩,cs++base,st,none,off⟩ w=.go (S6 (Frame.finish ⟨fn,tmps,todo,defers,mode,kind,ro⟩ (.pointer (some ⟨b,m,none⟩))) (cs++base)) w #[]:=by
  intro ops i rest k E hm C r h;subst E;subst hm;subst C;split at h
  .rename_i d
   rcases c:ops[i]? with _|aV
   .rw[c]at h;cases h
   rw[c]at h;dsimp only at h;split at h
   .rename_i v z
    split at h
    .rename_i a he
     simp only[Option.some.injEq,Prod.mk.injEq]at h;obtain⟨rfl,rfl⟩:=h;rw[rA,c];rw[if_pos (by rw[c]at d;exact d),rf (o:=aV) (by simp[Frame.oper?,c]) (.inl rfl)];have B:(execOp (Frame.eval ⟨fn,tmps,.inRegion ops (i::rest)::k,defers,.run,kind,none⟩) aV).runT aK w #[]=(.ok (.value (.pointer (some ⟨b,m,none⟩))) w,#[]):=by
      have f:execOp (Frame.eval ⟨fn,tmps,.inRegion ops (i::rest)::k,defers,.run,kind,none⟩) aV=(convert 260 185 (.pointer (some ⟨b,m,none⟩)) >>= λv=>pure (Next.value v)):=by unfold execOp;rw[z];dsimp only;rw[he]
      rw[f,gj (I3 aK.x6 aK.Rt q U D u)];rfl
     refine(r6 B ?_).trans ?_
     .rcases r with rfl|rfl<;>rfl
     .rw[qg]
    .cases h
   .cases h
  .cases h
 split at h
 .rename_i g j l p
  exact key _ _ _ _ rfl rfl rfl (.inl rfl) h
 .rename_i g j l p
  exact key _ _ _ _ rfl rfl rfl (.inr rfl) h
 .cases h
set_option maxRecDepth 100000 in
def LJ(b m:Nat)(bK:TypeId×Nat)(kd:CallKind)(c:S8 kd):Good (nj b m bK kd) 10 .jr (Frame.enter Tryz.prog 128 #[.pointer (some ⟨b,m,none⟩)] kd,[]):=by rcases c with rfl|rfl<;>exact fX
set_option maxRecDepth 100000 in
def LK(b m:Nat)(bK:TypeId×Nat)(kd:CallKind)(c:S8 kd):Good (nj b m bK kd) 10 .aq ((pZ b m bK kd).1.finish (.pointer (some ⟨b,m,none⟩)),(pZ b m bK kd).2):=by rcases c with rfl|rfl<;>exact fX
def Cz{x:bA}{a:Addr}(h:(qR aK x).map (·.2)=some a):∃o,qR aK x=some (o,a):=by
 cases e:qR aK x with
 |none=>rw[e]at h;cases h
 |some y=>rw[e]at h;obtain⟨o,b⟩:=y;cases h;exact⟨o,rfl⟩
def LO(b m:Nat)(bK:TypeId×Nat)(kd:CallKind)(c:S8 kd):∃o,qR aK (pZ b m bK kd)=some (o,⟨b,m,none⟩):=by
 refine Cz ?_;rcases c with rfl|rfl
 .kernel_rfl
 .kernel_rfl
set_option maxRecDepth 100000 in
def Rz(b m:Nat)(kd:CallKind)(c:S8 kd):Good (mT b m kd) 10 .ld (Frame.enter Tryz.prog 129 #[.pointer (some ⟨b,m,none⟩)] kd,[]):=by rcases c with rfl|rfl<;>exact fX
set_option maxRecDepth 100000 in
def RA(b m:Nat)(kd:CallKind)(c:S8 kd):Good (mT b m kd) 10 .cx ((qo b m kd).1.finish (.pointer (some ⟨b,m,none⟩)),(qo b m kd).2):=by rcases c with rfl|rfl<;>exact fX
def RF(b m:Nat)(kd:CallKind)(c:S8 kd):∃o,qR aK (qo b m kd)=some (o,⟨b,m,none⟩):=by
 refine Cz ?_;rcases c with rfl|rfl
 .kernel_rfl
 .kernel_rfl
inductive mf where
 |c8|ay
noncomputable def tM(kd:CallKind):de mf:=⟨Tryz.prog,hv,λ_=>false,kd,λ_=>[],λ_=>400,λ_=>[.leave (.bool false)]⟩
set_option maxRecDepth 100000 in
def HB(x:Value)(kd:CallKind)(c:S8 kd):Good (tM kd) 5 .c8 (Frame.enter Tryz.prog 71 #[.nilIface,x] kd,[]):=by rcases c with rfl|rfl<;>exact fX
end
end Go.aO
