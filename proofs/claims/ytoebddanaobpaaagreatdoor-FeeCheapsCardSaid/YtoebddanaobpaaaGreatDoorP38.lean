/- A part. -/
import Derived.Test.YtoebddanaobpaaaGreatDoorP30
import Derived.Test.YtoebddanaobpaaaGreatDoorP37
set_option maxHeartbeats 8000000
set_option maxRecDepth 100000
set_option linter.all false
namespace Go.aO
attribute [-simp] Go.Sem.runT_eq
open Go.ConcM (OsLater)
open Go.Proofs Tryz Go.Conc Go.ConcN
variable{M b7:Mem}{lim m:Nat}{ai ρ:Ren}{aC dI u w:S7}{f g v y z:S9}{R:S9->S9->Prop}{aH:TM}{l xs:TP}{V:Tb Obj}{args d:Te}{e:Tg}{Q:To}{s:e4}{bn:iG}
section
variable{G:TU->T0->S7->Tt->Prop}
inductive Flat:S9->Prop
 |bool (b):Flat (.bool b)
 |int (k n):Flat (.int k n)
 |Ec (n c):Flat (.slice none n c)
 |agg {a:Te} (h:∀(i:Nat) x,a[i]?=some x->Flat x):Flat (.agg a)
 |tuple {a:Te} (h:∀(i:Nat) x,a[i]?=some x->Flat x) (aT:0<a.size:=by decide):Flat (.tuple a)
def Flat.rel(h:Flat v):aQ ρ v v:=by
 induction h with
 |bool b=>exact .bool b
 |int k n=>exact .int k n
 |Ec n c=>exact .kr n c
 |agg _ g=>exact .agg S6 (λi x y d f=>by rw[d]at f;cases f;exact g i x d)
 |tuple _ _ g=>exact .tuple S6 (λi x y d f=>by rw[d]at f;cases f;exact g i x d)
def BO{a b:Te}(c:a.size=b.size)(h:∀(i:Nat) x y,a[i]?=some x->b[i]?=some y->y=x):b=a:=by apply Array.ext c.symm;intro i d f;exact h i _ _ (fb f) (fb d)
def Flat.eq(h:Flat v):∀{w:S9},aQ ρ v w->w=v:=by
 induction h with
 |bool b=>intro w k;cases k;rfl
 |int k n=>intro w k;cases k;rfl
 |Ec n c=>intro w k;cases k;rfl
 |agg _ l=>
  intro w k;cases k with
  |agg f g=>rw[BO f λi x y d j=>l i x d (g i x y d j)]
 |tuple _ m l=>
  intro w k;cases k with
  |gI _ _=>simp at m
  |tuple f g=>rw[BO f λi x y d j=>l i x d (g i x y d j)]
def qZ{x:S9}(c:Flat x)(d:Flat y):∀(i:Nat) z,(#[x,y]:Te)[i]?=some z->Flat z:=λi z h=>by
 rcases i with _|_|i
 .simp at h;subst h;exact c
 .simp at h;subst h;exact d
 .simp at h
def C8{x:S9}(c:Flat x)(d:Flat y)(f:Flat z):∀(i:Nat) u,(#[x,y,z]:Te)[i]?=some u->Flat u:=λi u h=>by
 rcases i with _|_|_|i
 .simp at h;subst h;exact c
 .simp at h;subst h;exact d
 .simp at h;subst h;exact f
 .simp at h
def KO{x u:S9}(c:Flat x)(d:Flat y)(f:Flat z)(g:Flat u)(j:Flat v):∀(i:Nat) t,(#[x,y,z,u,v]:Te)[i]?=some t->Flat t:=λi t h=>by
 rcases i with _|_|_|_|_|i
 .simp at h;subst h;exact c
 .simp at h;subst h;exact d
 .simp at h;subst h;exact f
 .simp at h;subst h;exact g
 .simp at h;subst h;exact j
 .simp at h
def ft:Mem->Tb Obj->iG
 |m::M,o::V=>(m.2.1,o,m.2.2)::ft M V
 |_,_=>[]
def q4:∀{M:Mem} {V:Tb Obj} {i:Nat} {x:Nat×Obj×Obj},(ft M V)[i]?=some x->∃own,M[i]?=some (own,x.1,x.2.2)/\V[i]?=some x.2.1
 |m::M,o::V,0,x,h=>by
  have:x=(m.2.1,o,m.2.2):=by simpa [ft]using h.symm
  subst this;exact⟨m.1,S6,S6⟩
 |m::M,o::V,i+1,x,h=>q4 (M:=M) (V:=V) (i:=i) (by simpa [ft]using h)
 | [],_,i,x,h=>by simp[ft]at h
 |_::_,[],i,x,h=>by simp[ft]at h
def Dn{Pos:Type}{A:de Pos}{aL:S7}(h:bN A aH aL u M)(o:lim<=aL.heap.size):iX lim (ft M V)/\∀x∈ft M V,u.heap[x.1]?=some x.2.2/\¬aH x.1:=by
 refine⟨⟨λi j x y d n e=>?_,λx d=>?_⟩,λx d=>?_⟩
 .let⟨g,c,_⟩:=q4 d
  let⟨p,l,_⟩:=q4 n;refine Uh λm=>?_
  exact h.mem.fL i j _ _ _ _ _ _ c l m e
 .let⟨i,f⟩:=List.mem_iff_getElem?.1 d
  let⟨g,c,_⟩:=q4 f;have:=(h.fi i _ _ _ c).1;omega
 .let⟨i,f⟩:=List.mem_iff_getElem?.1 d
  let⟨g,c,_⟩:=q4 f;exact⟨h.mem.has i _ _ _ c,(h.fi i _ _ _ c).2⟩
def cr(c:Te)(e:Tg):Obj:=.cells c e (0,c.size)
def pv(bn:iG):Prop:=∀x∈bn,∃c e,x.2.1=cr c e
def KY(he:ρ.exact=false){c:Te}(h:bQ ρ c d):eZ ρ (cr c e) (.cells d e (0,0)):=.cells (.inl h.1) h.2 (.inr ⟨he,S6,bg,T' _⟩)
def C1{br:iX Q.globals.size bn}(m:pv bn)(f:fQ (ho Q bn br) ai (h9 Q.globals.size bn) dI u aC):∀b,b<u.heap.size->aC.heap[b]?=u.heap[b]?:=by
 intro b j;by_cases h:∃a,(ho Q bn br).r a b
 .obtain⟨a,d⟩:=h
  refine(f.guard a b d ?_).2;obtain⟨i,x,g,rfl,rfl⟩:=d;let⟨c,e,l⟩:=m x (hk g);exact⟨c,e,c.size,by rw[lI g,l];rfl,bg⟩
 .exact f.out b j λa d=>h ⟨a,d⟩
def ze{v:S7}(c:fQ ρ ai v dI u aC):Calm u aC:=⟨c.size,c.tape,c.output,c.os⟩
def C0{br:iX Q.globals.size bn}(c:fQ (ho Q bn br) ai (h9 Q.globals.size bn) dI u aC){a b:Nat}(h:ai.r a b)(f:Q.globals.size+bn.length<=a):u.heap.size<=b:=by
 rcases c.new a b h with⟨i,x,d,rfl,rfl⟩|h
 .have:=(List.getElem?_eq_some_iff.1 d).1
  omega
 .exact h
def LB{Pos:Type}{A:de Pos}{br:iX Q.globals.size bn}(d:pv bn)(c:fQ (ho Q bn br) ai (h9 Q.globals.size bn) dI u aC)(h:m4 aH ai)(f:∀b,aH b->b<aC.heap.size):bN A aH u aC []:=
 ⟨⟨λi own b o e=>by simp at e,λi j own b o m g l e=>by simp at e⟩,C1 d c,ze c,λi own b o e=>by simp at e,f⟩
def LC{Pos:Type}{A:de Pos}{br:iX Q.globals.size bn}(n:pv bn)(c:fQ (ho Q bn br) ai (h9 Q.globals.size bn) dI u aC)(r:m4 aH ai)(p:∀b,aH b->b<aC.heap.size){a b:Nat}(g:ai.r a b)(m:Q.globals.size+bn.length<=a){o:Obj}(q:aC.heap[b]?=some o):bN A aH u aC [(true,b,o)]:=by
 refine⟨⟨λi own d h e=>?_,λi j own d h B w z f l y=>?_⟩,C1 n c,ze c,λi own d h e=>?_,p⟩
 .rcases i with _|i
  .simp at e;obtain⟨rfl,rfl,rfl⟩:=e;exact q
  .simp at e
 .rcases i with _|i<;>rcases j with _|j
  .omega
  .simp at l
  .simp at f
  .simp at f
 .rcases i with _|i
  .simp at e;obtain⟨rfl,rfl,rfl⟩:=e;exact⟨C0 c g m,r a _ g⟩
  .simp at e
end
section
variable{bF:TU->T0->S7->Tt->Prop}{aH:TM}{aL u aC:S7}{gs:TR}{t:Tt}{c:TB}{cs:Tz}
def bl.rv:lA bl:=⟨bl.S,bl.ek,bl.sp.f75,bl.sp.f141,bl.sp.f142,bl.eb⟩
def A'(lim:Nat):Tb Obj:=[cr #[ah 2,ah 1] 3,cr #[ah 1,ah 2] 3,cr #[ah 3,ah 1] 3,cr #[ah 0,sl (lim+1) 2,ah 2,sl (lim+2) 2] 27,cr #[ah 3] 3]
abbrev jh(lim:Nat)(z:eG)(M:Mem)(V:Tb Obj):iG:=ft (iE z++M) (A' lim++V)
def lN(lim:Nat):eg where
 gg:=lim
 hG:=0
 cA:=2
 fV:=lim+3
 gU:=0
 dq:=2
 dj:=λi=>match i with|0=>lim+1|_=>lim+2
 uG:=λ_=>0
 cq:=λ_=>2
 ei:=some (Ti (lim+4))
 dc:=1
def Gv{z:eG}(d:w.heap=(h9 lim (jh lim z M V)).heap):e' w fW (lN lim):=by
 have g:w.heap[lim]?=some (cr #[ah 2,ah 1] 3):=by rw[d];exact lI (bn:=jh lim z M V) (i:=0) S6
 have h:w.heap[lim+1]?=some (cr #[ah 1,ah 2] 3):=by rw[d];exact lI (bn:=jh lim z M V) (i:=1) S6
 have j:w.heap[lim+2]?=some (cr #[ah 3,ah 1] 3):=by rw[d];exact lI (bn:=jh lim z M V) (i:=2) S6
 have cG:w.heap[lim+3]?=some (cr #[ah 0,sl (lim+1) 2,ah 2,sl (lim+2) 2] 27):=by rw[d];exact lI (bn:=jh lim z M V) (i:=3) S6
 have l:w.heap[lim+4]?=some (cr #[ah 3] 3):=by rw[d];exact lI (bn:=jh lim z M V) (i:=4) S6
 refine⟨λi c=>?_,λi c=>?_,λi c=>?_,λi c k f=>?_,λ_=>⟨_,_,S6,λi c=>?_⟩⟩
 .have:=aU (o:=0+i) g
  rcases kt c with rfl|rfl<;>exact this
 .have:=aU (o:=0+i*2) cG
  rcases kt c with rfl|rfl<;>exact this
 .have:=aU (o:=0+i*2+1) cG
  rcases kt c with rfl|rfl<;>exact this
 .rcases kt c with rfl|rfl
  .have:=aU (o:=0+k) h
   rcases kt f with rfl|rfl<;>exact this
  .have:=aU (o:=0+k) j
   rcases kt f with rfl|rfl<;>exact this
 .have m:i<1:=c
  obtain rfl:i=0:=U;exact aU (o:=0) l
def rE{x:S9}(h:R x f)(j:R y g):gb R #[x,y] #[f,g]:=⟨S6,λi a b c d=>by
 rcases i with _|_|i
 .simp at c d;subst c;subst d;exact h
 .simp at c d;subst c;subst d;exact j
 .simp at c⟩
def Da{x:S9}{h j:S9}(l:R x g)(m:R y h)(n:R z j)(o:R v f):gb R #[x,y,z,v] #[g,h,j,f]:=⟨S6,λi a b c d=>by
 rcases i with _|_|_|_|i
 .simp at c d;subst c;subst d;exact l
 .simp at c d;subst c;subst d;exact m
 .simp at c d;subst c;subst d;exact n
 .simp at c d;subst c;subst d;exact o
 .simp at c⟩
def z'{x:S9}(g:R x f):gb R #[x] #[f]:=⟨S6,λi a b c d=>by
 rcases i with _|i
 .simp at c d;subst c;subst d;exact g
 .simp at c⟩
def qh{br:iX Q.globals.size bn}(i:Nat){x:Nat×Obj×Obj}(e:bn[i]?=some x)(n:Nat):aQ (ho Q bn br) (sl (Q.globals.size+i) n) (sl x.1 n):=.slice (a:=(Ti (Q.globals.size+i))) (b:=(Ti x.1)) ⟨uo e,S6,S6⟩ n n
def yw(ρ:Ren)(bn:iG):Prop:=∀x∈bn,nM x.2.1/\eZ ρ x.2.1 x.2.2/\∀c e f d g h,x.2.1=.cells c e f->x.2.2=.cells d g h->c.size<=d.size
def nZ(he:ρ.exact=false){c:Te}(h:bQ ρ c d):nM (cr c e)/\eZ ρ (cr c e) (.cells d e (0,0))/\∀bp i f g j l,cr c e=.cells bp i f->Obj.cells d e (0,0)=.cells g j l->bp.size<=g.size:=by refine⟨Tf,KY he h,λbp i f g j l m n=>?_⟩;cases m;cases n;exact Nat.le_of_eq h.1
def Gx{z:eG}(br:iX bl.globals.size (jh bl.globals.size z M V))(i:∀x∈ft M V,nM x.2.1/\eZ (ho bl (jh bl.globals.size z M V) br) x.2.1 x.2.2/\∀c e f d g h,x.2.1=.cells c e f->x.2.2=.cells d g h->c.size<=d.size):yw (ho bl (jh bl.globals.size z M V) br) (jh bl.globals.size z M V):=by
 intro x hx;have hx:x∈(z.F,cr #[ah 2,ah 1] 3,Obj.cells #[ah 2,ah 1] 3 (0,0))::(z.gx,cr #[ah 1,ah 2] 3,Obj.cells #[ah 1,ah 2] 3 (0,0))::(z.gy,cr #[ah 3,ah 1] 3,Obj.cells #[ah 3,ah 1] 3 (0,0))::(z.R,cr #[ah 0,sl (bl.globals.size+1) 2,ah 2,sl (bl.globals.size+2) 2] 27,Obj.cells #[ah 0,sl z.gx 2,ah 2,sl z.gy 2] 27 (0,0))::(z.Fr,cr #[ah 3] 3,Obj.cells #[ah 3] 3 (0,0))::ft M V:=hx;rcases List.mem_cons.1 hx with rfl|hx
 .exact nZ S6 (rE (.int _ _) (.int _ _))
 rcases List.mem_cons.1 hx with rfl|hx
 .exact nZ S6 (rE (.int _ _) (.int _ _))
 rcases List.mem_cons.1 hx with rfl|hx
 .exact nZ S6 (rE (.int _ _) (.int _ _))
 rcases List.mem_cons.1 hx with rfl|hx
 .exact nZ S6 (Da (.int _ _) (qh (bn:=jh bl.globals.size z M V) 1 S6 2) (.int _ _) (qh (bn:=jh bl.globals.size z M V) 2 S6 2))
 rcases List.mem_cons.1 hx with rfl|hx
 .exact nZ S6 (z' (.int _ _))
 .exact i x hx
def Gy{z:eG}(br:iX bl.globals.size (jh bl.globals.size z M V)):aQ (ho bl (jh bl.globals.size z M V) br) (.agg (dv fW (lN bl.globals.size))) (f' z):=
 tl (Da (.int _ _) (qh (bn:=jh bl.globals.size z M V) 0 S6 2) (qh (bn:=jh bl.globals.size z M V) 3 S6 2) (qh (bn:=jh bl.globals.size z M V) 4 S6 1))
def Gw{z:eG}(h:pv (ft M V)):pv (jh lim z M V):=by
 intro x hx;have hx:x∈(z.F,cr #[ah 2,ah 1] 3,Obj.cells #[ah 2,ah 1] 3 (0,0))::(z.gx,cr #[ah 1,ah 2] 3,Obj.cells #[ah 1,ah 2] 3 (0,0))::(z.gy,cr #[ah 3,ah 1] 3,Obj.cells #[ah 3,ah 1] 3 (0,0))::(z.R,cr #[ah 0,sl (lim+1) 2,ah 2,sl (lim+2) 2] 27,Obj.cells #[ah 0,sl z.gx 2,ah 2,sl z.gy 2] 27 (0,0))::(z.Fr,cr #[ah 3] 3,Obj.cells #[ah 3] 3 (0,0))::ft M V:=hx;rcases List.mem_cons.1 hx with rfl|hx
 .exact⟨_,_,S6⟩
 rcases List.mem_cons.1 hx with rfl|hx
 .exact⟨_,_,S6⟩
 rcases List.mem_cons.1 hx with rfl|hx
 .exact⟨_,_,S6⟩
 rcases List.mem_cons.1 hx with rfl|hx
 .exact⟨_,_,S6⟩
 rcases List.mem_cons.1 hx with rfl|hx
 .exact⟨_,_,S6⟩
 .exact h x hx
def HA{x:S9}(h:aQ ρ x y)(j:∀v∈l,Flat v):bQ ρ (x::l).toArray (y::l).toArray:=⟨S6,λi a b c d=>by
 rcases i with _|i
 .simp at c d;subst c;subst d;exact h
 .have f:l[i]?=some a:=by simpa using c
  have g:l[i]?=some b:=by simpa using d
  rw[f]at g;cases g;exact(j a (hk f)).rel⟩
def tg{Pos:Type}{A:de Pos}{z:eG}(h:bN A aH aL u (M++iE z))(P:aK.globals.size<=aL.heap.size){f:Tw}(L:¬bl.K.fn f)(H:eK bl f=none)(T:∀v∈l,Flat v){R:S9->S7->Prop}(J:∀w:S7,e' w fW (lN bl.globals.size)->w.heap.size=bl.globals.size+5->Calls bl f (Value.agg (dv fW (lN bl.globals.size))::l).toArray w λe w'=>∃v,e=.returned v/\R v w')(S:Kept c)(I:cc aK aH gs (Tk (Frame.enter aK f (f' z::l).toArray .normal) (c::cs)) u t 0)(k:∀bm aC bh (ai:Ren) v g dI,R v dI->aQ ai v g->gm ai dI aC->(∀a b o,ai.r a b->bl.globals.size+5<=a->aC.heap[b]?=some o->bN A aH u aC [(true,b,o)])->ai.cells=oX bl->ai.exact=false->bN A aH u aC []->
  cc aK aH bm (Tk (c.finish g) cs) aC bh 0->Tu aK bF bm aC bh):Tu aK bF gs u t:=by
 have C:bN A aH aL u (iE z):=h.sub (λi own b o e=>⟨M.length+i,own,by rw[jb U];simpa using e⟩) (λi j own b o aa r Z y B ad=>h.mem.fL (M.length+i) (M.length+j) own b o aa r Z (by rw[jb U];simpa using y) (by rw[jb U];simpa using B) U);have E:iE z++([]:Mem)=iE z:=List.append_nil _;obtain⟨br,hu⟩:=Dn (V:=A' bl.globals.size++[]) (lim:=bl.globals.size) (M:=iE z++[]) (by rw[E];exact C) P;have n:pv (jh bl.globals.size z [] []):=Gw (λx m=>by simp[ft]at m);refine DN (K:=bl.K) bl.rv bl.H (λf h=>h) (λ_ _ _ h=>h) bl.o5 br (Gx br (λx m=>by simp[ft]at m)) L (HA (Gy br) T) H (R:=R) (λw q _=>J w (Gv q) (by rw[q,sw];rfl)) S hu h.ej (by have:=h.calm.size;show aK.globals.size<=_;omega) I ?_;intro bm aC bh ai v g dI D Y Q d hrel p X;exact k bm aC bh ai v g dI D Y Q (λa b o G F W=>LC n d hrel p G (by show bl.globals.size+5<=a;exact F) W) d.le.cells d.le.exact (LB n d hrel p) X
end
section
def q8{α:Type}{l:Tb α}{i:Nat}{x:α}(h:l[i]?=some x):i<l.length:=(List.getElem?_eq_some_iff.1 h).1
section
variable{Pos:Type}{A:de Pos}{u aL:S7}{t:Tt}{gs:TR}{x:bA}{n j:Nat}{p:Pos}{bF:TU->T0->S7->Tt->Prop}{Tc:Tz}{aH:TM}
def At.gS{n:Nat}{p:Pos}{x:bA}(h:At A n p x){f:Tw}{α:Type}{cy:α->S9}{g:α->Pos}(he:Edge.call f args cy g∈A.cz p):Kept x.1:=by obtain⟨z,d,rfl⟩:=h;let⟨c,_⟩:=hK.mem d _ he;exact uu (B7 c)
def dK.gS(T:dn A.P A.ext)(w:∀p,A.dh p<=400)(h:dK A Tc aH aL gs u t p x (n+1) j){f:Tw}{α:Type}{cy:α->S9}{g:α->Pos}(he:Edge.call f args cy g∈A.cz p)(k:∀gs u t (c:TB) (cs:Tz),Kept c->bN A aH aL u (A.mem p)->cc A.P aH gs (Tk (Frame.enter A.P f args .normal) (c::cs)) u t 0->
  (∀en bm aC bh (r:α),bN A en aL aC (A.mem (g r))->cc A.P en bm (Tk (c.finish (cy r)) cs) aC bh 0->∃x,dK A Tc en aL bm aC bh (g r) x n (A.dh (g r)))->Tu A.P bF gs u t):Tu A.P bF gs u t:=by
 refine h.quiet T λgs u t x a C l E i=>?_
 obtain rfl:n=a:=U;let⟨y,z⟩:=i.call T he;have q:=i.gS he;refine l.step λd=>⟨_,u.at d,#[],z true Tc .running none (u.at d),S6,bg,(λe he=>by simp at he),λbm bh B o=>?_⟩
 exact k bm (u.at d) bh x.1 (x.2++Tc) q (C.at d) o (λen bm aC bh r D m=>⟨_,y r,w _,D,m⟩) B
def dK.jN(T:dn A.P A.ext)(h:dK A Tc aH aL gs u t p x (n+1) j){X:bA}{g:Pos}(he:Edge.join X g∈A.cz p)(k:∀gs u t,bN A aH aL u (A.mem p)->cc A.P aH gs (bW X Tc) u t 0->Tu A.P bF gs u t):Tu A.P bF gs u t:=by
 refine h.quiet T λgs u t x a f c i d=>?_
 obtain rfl:=d.jN he;exact k gs u t f c
def bN.mR(h:bN A aH aL u M)(k:bN A aH u aC b7):bN A aH aL aC (M++b7):=h.app (BC:=A) k (λ_ _ h=>h)
def bN.on(h:bN A aH aL u M)(k:bN A aH u aC []):bN A aH aL aC M:=(h.mR k).cast (List.append_nil M)
def bN.nil(h:bN A aH aL u M):bN A aH aL u []:=h.none
def bN.left(h:bN A aH aL u (M++b7)):bN A aH aL u M:=
 h.sub (λi own b o e=>⟨i,own,by rw[jz (q8 e)];exact e⟩) (λi j own b o m f l c d g=>h.mem.fL i j own b o m f l (by rw[jz (q8 c)];exact c) (by rw[jz (q8 d)];exact d) g)
end
variable{bF:TU->T0->S7->Tt->Prop}{aH:TM}{aL u aC:S7}{gs:TR}{t:Tt}{Tc:Tz}{kd:Tx}{f:Nat->S9}
def Az{aC:S7}(K:gm ai w aC){s n:Nat}(h:w.ownsRow m e s v n xs)(f:n≠0)(R:0<s)(T:∀x∈xs,Flat x)(S:aQ ai v z):
 ∃(g g' cap:Nat) (l:Te),ai.r g g'/\m<=g/\z=Ts g' n cap/\aC.heap[g']?=some (.cells (xs.toArray++l) e (0,0)):=by
 obtain⟨W,⟨_,r⟩|⟨g,cap,cur,rfl,hm,G,H,V,X,y⟩⟩:=h
 .exact Td r f
 cases S with
 |ju _ _=>exact Td S6 f
 |@slice a b h _ _=>
  obtain⟨g',off,spot⟩:=b;obtain⟨u,D,F⟩:=h;cases D;cases F;let⟨o,Z,j,B,Q⟩:=K.obj g g' u;rw[G]at j;cases j;cases Q with
  |@cells _ d _ _ q C E J=>
   have Y:cur.size<=d.size:=by rcases C with h|h<;>omega
   have hle:n*s<=cap*s:=Nat.mul_le_mul_right s H;have r:0<n*s:=Nat.mul_pos (Nat.pos_of_ne_zero f) R;have P:q=(0,0):=w5 J U;refine⟨g,g',cap,(d.toList.drop (n*s)).toArray,u,hm,S6,?_⟩;rw[B,P];congr 2;apply Array.ext';rw[Array.toList_append,<-y];have hd:d.toList.take (n*s)=cur.toList.take (n*s):=by
    apply List.ext_getElem?;intro i;rw[List.getElem?_take,List.getElem?_take];split
    .rename_i L
     have I:i<cur.size:=U;have c:cur[i]?=some cur[i]:=fb I;have p:d[i]?=some d[i]:=fb U;have M:cur[i]∈xs:=by rw[<-y];refine hk (i:=i) ?_;rw[List.getElem?_take,Tq L,Ue,c]
     rw[Ue,Ue,c,p,(T _ M).eq (E i _ _ c p)]
    .rfl
   rw[<-hd];simp
def kE:eS:=⟨⟨0,0,0,0,0,0⟩,⟨0,0,#[]⟩,0,0,0,⟨0,0,#[]⟩,⟨0,0,#[]⟩⟩
def NZ(d:TG kd)(g:bN (fZ kd) aH aL u [])(c:cc aK aH gs (bW (eE kd 0 f) Tc) u t 0)(k:∀gs u t,bN (fZ kd) aH aL u []->cc aK aH gs (bW (eE kd 1 (up f [(0,.bool false)])) Tc) u t 0->Tu aK bF gs u t):Tu aK bF gs u t:=by
 have b6:dK (fZ kd) Tc aH aL gs u t ⟨0,0,f,kE,[]⟩ (eE kd 0 f) 11 4:=⟨⟨_,Ng kd d f kE,S6⟩,a6,g,c⟩
 exact b6.jN (gW kd) (.head _) k
def eH(h:∀v∈l,Flat v)(c:Flat v):∀x∈v::l,Flat x:=λx hx=>by
 rcases List.mem_cons.1 hx with rfl|hx
 .exact c
 .exact h x hx
def lG:∀v∈([]:TP),Flat v:=λv c=>by simp at c
def GU{x:S9}(h:aQ ρ (.tuple #[x,y]) v):∃f g,v=.tuple #[f,g]/\aQ ρ x f/\aQ ρ y g:=by
 cases h with
 |@tuple _ b c d=>
  obtain⟨l⟩:=b;match l,c,d with
  | [f,g],_,d=>exact⟨f,g,S6,d 0 _ _ S6 S6,d 1 _ _ S6 S6⟩
  | [],c,_=>simp at c
  | [_],c,_=>simp at c
  |_::_::_::_,c,_=>simp at c
def R1{x:S9}(h:aQ ρ (.tuple #[x,y,z]) v):∃f g i,v=.tuple #[f,g,i]/\aQ ρ x f/\aQ ρ y g/\aQ ρ z i:=by
 cases h with
 |@tuple _ b c d=>
  obtain⟨l⟩:=b;match l,c,d with
  | [f,g,i],_,d=>exact⟨f,g,i,S6,d 0 _ _ S6 S6,d 1 _ _ S6 S6,d 2 _ _ S6 S6⟩
  | [],c,_=>simp at c
  | [_],c,_=>simp at c
  | [_,_],c,_=>simp at c
  |_::_::_::_::_,c,_=>simp at c
def O7{d:TX}(h:d.Perm [2,3,5,6]):(d.mergeSort (λx y=>decide (x<=y))).map encZ = [ah 2,ah 3,ah 5,ah 6]:=by
 have e:d.mergeSort (λx y=>decide (x<=y)) = [2,3,5,6]:=by refine List.Perm.eq_of_pairwise (le:=λx y=>decide (x<=y)=true) (λa b _ _ f g=>by simp at f g;omega) (List.pairwise_mergeSort (λa b c f g=>by simp at *;omega) (λa b=>cH) d) a6 ?_;exact(List.mergeSort_perm d _).trans h
 rw[e];rfl
def M'{dd:Nat}{s n:Nat}(h:w.ownsRow m e s v n xs)(hm:dd<=m):w.ownsRow dd e s v n xs:=by
 obtain⟨c,h|⟨g,cap,cur,d,i,f⟩⟩:=h
 .exact⟨c,.inl h⟩
 .exact⟨c,.inr ⟨g,cap,cur,d,U,f⟩⟩
def A2:Flat (.agg dC):=.agg (KO (.int _ _) (.int _ _) (.int _ _) (.int _ _) (.int _ _))
def N0(p:TG kd)(o:aK.globals.size<=aL.heap.size)(y:bN (fZ kd) aH aL u [])(n:cc aK aH gs (bW (eE kd 1 f) Tc) u t 0)(k:∀gs u t z,bN (fZ kd) aH aL u []->cc aK aH gs (bW (eE kd 2 (up (up (up f [(19,f' z)]) [(20,.tuple #[ah 9,ah 0])]) [(18,.tuple #[ah 9,ah 0]),(21,ah 9),(22,ah 0),(1,ah 9),(2,ah 0)])) Tc) u t 0->Tu aK bF gs u t):Tu aK bF gs u t:=by
 have b6:dK (fZ kd) Tc aH aL gs u t ⟨1,0,f,kE,[]⟩ (eE kd 1 f) 11 400:=⟨⟨_,Nh kd p f kE,S6⟩,a6,y,n⟩
 refine b6.gS (gW kd) (iC kd) (.head _) λgs u t c cs h d g back=>?_
 refine rB h d.ej g λgs u t z m i=>?_
 let⟨x,s1⟩:=back aH gs u t z (d.mR m.to) i;refine s1.gS (gW kd) (iC kd) (.head _) λgs u t c cs h d g back=>?_
 refine tg (M:=[]) (z:=z) d o (f:=15) mx av (l:=[ah 0,ah 20,ah 100]) (eH (eH (eH lG (.int _ _)) (.int _ _)) (.int _ _)) (R:=λv _=>v=.tuple #[ah 9,ah 0]) (λw r _=>?_) h g ?_
 .refine(Kx (A:=bl.list.toArray) fW qS (lN bl.globals.size) 0 a6 20 100 U U w r).mono ?_
  rintro e w' ⟨rfl,_⟩;rw[Ky];exact⟨_,S6,S6⟩
 intro gs u t ai v G dI j q E F C D B a4;subst j;obtain rfl:=Flat.eq (.tuple (qZ (.int _ _) (.int _ _))) q;let⟨x,s2⟩:=back aH gs u t () (d.nil.mR B) a4;exact s2.jN (gW kd) (.head _) (k · · · z)
def N1(D:TG kd)(y:aK.globals.size<=aL.heap.size)(P:bN (fZ kd) aH aL u [])(q:cc aK aH gs (bW (eE kd 2 f) Tc) u t 0)(k:∀gs u t z s,bN (fZ kd) aH aL u [dr s]->cc aK aH gs (bW (eE kd 3 (up (up (up (up f [(24,f' z)]) [(25,.agg dC)]) [(26,s.td)]) [(23,s.td),(27,s.four),(28,ah 0),(3,s.four),(4,ah 0)])) Tc) u t 0->Tu aK bF gs u t):Tu aK bF gs u t:=by
 have b6:dK (fZ kd) Tc aH aL gs u t ⟨2,0,f,kE,[]⟩ (eE kd 2 f) 11 400:=⟨⟨_,Ni kd D f kE,S6⟩,a6,P,q⟩
 refine b6.gS (gW kd) (iC kd) (.head _) λgs u t c cs i d h back=>?_
 refine rB i d.ej h λgs u t z m n=>?_
 let⟨x,s1⟩:=back aH gs u t z (d.mR m.to) n;refine s1.gS (gW kd) (iC kd) (.head _) λgs u t c cs i d h back=>?_
 refine uW i d.ej h λgs u t m n=>?_
 let⟨x,s2⟩:=back aH gs u t () (d.on m.to) n;refine s2.gS (gW kd) (iC kd) (.head _) λgs u t c cs i d h back=>?_
 refine tg (M:=[]) (z:=z) d y (f:=17) mx av (l:=[.agg dC]) (eH lG A2) (R:=λv w=>∃v0,v=.tuple #[v0,ah 0]/\w.ownsRow (bl.globals.size+5) 3 1 v0 4 [ah 2,ah 3,ah 5,ah 6]) (λw J T=>?_) i h ?_
 .refine(Ht (A:=bl.list.toArray) fW qS (lN bl.globals.size) w J jI xE).mono ?_
  rintro e w' ⟨v,L,m,rfl,hp,hm,j,_⟩;rw[QO]at hp;refine⟨_,S6,v,S6,?_⟩;have o:L.length=4:=hp.length_eq;rw[o,O7 hp]at j;exact M' j U
 intro gs u t ai v W dI ⟨v0,p,j⟩ G C F Q S V a4;subst p;obtain⟨X,dS,rfl,H,I⟩:=GU G;obtain rfl:=Flat.eq (.int _ _) I;obtain⟨g,g',cap,l,B,E,rfl,r⟩:=Az C j a6 a6 (eH (eH (eH (eH lG (.int _ _)) (.int _ _)) (.int _ _)) (.int _ _)) H;let⟨x,K⟩:=back aH gs u t ⟨g',cap,l⟩ (d.nil.mR (F g g' _ B E r)) a4;exact K.jN (gW kd) (.head _) (k · · · z ⟨g',cap,l⟩)
def N2(r:TG kd)(q:aK.globals.size<=aL.heap.size)(I:bN (fZ kd) aH aL u [dr s])(p:cc aK aH gs (bW (eE kd 3 f) Tc) u t 0)(k:∀gs u t z x y,bN (fZ kd) aH aL u [dr s,fB x,fC y]->cc aK aH gs (bW (eE kd 4 (up (up (up (up (up (up f [(30,f' z)]) [(31,.agg dC)]) [(32,.tuple #[.agg #[ah 24,ah 26],.agg #[ah 48,ah 50],ah 0])]) [(29,.tuple #[.agg #[ah 24,ah 26],.agg #[ah 48,ah 50],ah 0]),(33,.agg #[ah 24,ah 26]),(34,.agg #[ah 48,ah 50]),(35,ah 0),(5,pt x)]) [(6,pt y)]) [(7,ah 0)])) Tc) u t 0->Tu aK bF gs u t):Tu aK bF gs u t:=by
 have b6:dK (fZ kd) Tc aH aL gs u t ⟨3,0,f,{kE with s:=s},[dr s]⟩ (eE kd 3 f) 11 400:=⟨⟨_,Nj kd r f {kE with s:=s},S6⟩,a6,I,p⟩
 refine b6.gS (gW kd) (iC kd) (.head _) λgs u t c cs h d g back=>?_
 refine rB h d.ej g λgs u t z m i=>?_
 let⟨x,s1⟩:=back aH gs u t z (d.mR m.to) i;refine s1.gS (gW kd) (iC kd) (.head _) λgs u t c cs h d g back=>?_
 refine uW h d.ej g λgs u t m i=>?_
 let⟨x,s2⟩:=back aH gs u t () (d.on m.to) i;refine s2.gS (gW kd) (iC kd) (.head _) λgs u t c cs h d g back=>?_
 refine tg (M:=[dr s]) (z:=z) d q (f:=19) mx av (l:=[.agg dC,ah 5]) (eH (eH lG (.int _ _)) A2) (R:=λv _=>v=.tuple #[.agg #[ah 24,ah 26],.agg #[ah 48,ah 50],ah 0]) (λw C _=>?_) h g ?_
 .refine(callsIn_wide.1 (K3 (A:=bl.list.toArray) fW qS (lN bl.globals.size) w C jI xE 5 U)).mono ?_
  rintro e w' ⟨rfl,_⟩;exact⟨_,S6,K4⟩
 intro gs u t ai v S dI o B P Q K L J a4;subst o;obtain rfl:=Flat.eq (.tuple (C8 (.agg (qZ (.int _ _) (.int _ _))) (.agg (qZ (.int _ _) (.int _ _))) (.int _ _))) B;let⟨x,D⟩:=back aH gs u t () ((bN.left (M:=[dr s]) (b7:=iE z) d).on J) a4;refine D.new (gW kd) (iC kd) (.head _) λgs u t x n E=>?_
 refine E.new (gW kd) (iC kd) (.head _) λgs u t x j F=>?_
 refine F.bL (gW kd) (iC kd) (.head _) λgs u t x G=>?_
 refine G.bL (gW kd) (iC kd) (.head _) λgs u t x H=>?_
 exact H.jN (gW kd) (.head _) (k · · · z n j)
def N3(p:TG kd)(o:aK.globals.size<=aL.heap.size){x y:Nat}(C:bN (fZ kd) aH aL u [dr s,fB x,fC y])(n:cc aK aH gs (bW (eE kd 4 f) Tc) u t 0)(k:∀gs u t z,bN (fZ kd) aH aL u [dr s,fB x,fC y]->cc aK aH gs (bW (eE kd 5 (up (up (up (up f [(37,f' z)]) [(38,.agg dC)]) [(39,.tuple #[ah 0,ah 2,ah 0])]) [(36,.tuple #[ah 0,ah 2,ah 0]),(40,ah 0),(41,ah 2),(42,ah 0),(8,ah 0),(9,ah 2),(10,ah 0)])) Tc) u t 0->Tu aK bF gs u t):Tu aK bF gs u t:=by
 have b6:dK (fZ kd) Tc aH aL gs u t ⟨4,0,f,{kE with s:=s,x:=x,y:=y},[dr s,fB x,fC y]⟩ (eE kd 4 f) 11 400:=⟨⟨_,Nk kd p f {kE with s:=s,x:=x,y:=y},S6⟩,a6,C,n⟩
 refine b6.gS (gW kd) (iC kd) (.head _) λgs u t c cs h d g back=>?_
 refine rB h d.ej g λgs u t z m i=>?_
 let⟨_,s1⟩:=back aH gs u t z (d.mR m.to) i;refine s1.gS (gW kd) (iC kd) (.head _) λgs u t c cs h d g back=>?_
 refine uW h d.ej g λgs u t m i=>?_
 let⟨_,s2⟩:=back aH gs u t () (d.on m.to) i;refine s2.gS (gW kd) (iC kd) (.head _) λgs u t c cs h d g back=>?_
 refine tg (M:=[dr s,fB x,fC y]) (z:=z) d o (f:=20) mx av (l:=[.agg dC]) (eH lG A2) (R:=λv _=>v=.tuple #[ah 0,ah 2,ah 0]) (λw r _=>?_) h g ?_
 .refine(Hg (A:=bl.list.toArray) fW qS (lN bl.globals.size) w r jI xE).mono ?_
  rintro e w' ⟨rfl,_⟩;rw[HF];exact⟨_,S6,S6⟩
 intro gs u t ai v I dI j q G H E F D a4;subst j;obtain rfl:=Flat.eq (.tuple (C8 (.int _ _) (.int _ _) (.int _ _))) q;let⟨_,B⟩:=back aH gs u t () ((bN.left (M:=[dr s,fB x,fC y]) (b7:=iE z) d).on D) a4;exact B.jN (gW kd) (.head _) (k · · · z)
def N4(q:TG kd)(p:aK.globals.size<=aL.heap.size){x y:Nat}(C:bN (fZ kd) aH aL u [dr s,fB x,fC y])(o:cc aK aH gs (bW (eE kd 5 f) Tc) u t 0)(k:∀gs u t z,bN (fZ kd) aH aL u [dr s,fB x,fC y]->cc aK aH gs (bW (eE kd 6 (up (up (up f [(44,f' z)]) [(45,.tuple #[ah 95,ah 0])]) [(43,.tuple #[ah 95,ah 0]),(46,ah 95),(47,ah 0),(11,ah 95),(12,ah 0)])) Tc) u t 0->Tu aK bF gs u t):Tu aK bF gs u t:=by
 have b6:dK (fZ kd) Tc aH aL gs u t ⟨5,0,f,{kE with s:=s,x:=x,y:=y},[dr s,fB x,fC y]⟩ (eE kd 5 f) 11 400:=⟨⟨_,Nl kd q f {kE with s:=s,x:=x,y:=y},S6⟩,a6,C,o⟩
 refine b6.gS (gW kd) (iC kd) (.head _) λgs u t c cs h d g back=>?_
 refine rB h d.ej g λgs u t z m i=>?_
 let⟨_,s1⟩:=back aH gs u t z (d.mR m.to) i;refine s1.gS (gW kd) (iC kd) (.head _) λgs u t c cs h d g back=>?_
 refine tg (M:=[dr s,fB x,fC y]) (z:=z) d p (f:=21) mx av (l:=[ah 0,ah 20,ah 6]) (eH (eH (eH lG (.int _ _)) (.int _ _)) (.int _ _)) (R:=λv _=>v=.tuple #[ah 95,ah 0]) (λw B _=>?_) h g ?_
 .refine(RJ (A:=bl.list.toArray) fW qS (lN bl.globals.size) 0 a6 20 U 6 U a6 w B).mono ?_
  rintro e w' ⟨rfl,_⟩;exact⟨_,S6,congrArg (λn:Nat=>Value.tuple #[ah n,ah 0]) RK⟩
 intro gs u t ai v I dI j r G H E F D a4;subst j;obtain rfl:=Flat.eq (.tuple (qZ (.int _ _) (.int _ _))) r;let⟨_,s2⟩:=back aH gs u t () ((bN.left (M:=[dr s,fB x,fC y]) (b7:=iE z) d).on D) a4;exact s2.jN (gW kd) (.head _) (k · · · z)
def N6(F:TG kd)(C:aK.globals.size<=aL.heap.size){p:e4}{x y:Nat}(T:bN (fZ kd) aH aL u [dr s,fB x,fC y,lE p])(r:cc aK aH gs (bW (eE kd 7 f) Tc) u t 0)(k:∀gs u t z q,bN (fZ kd) aH aL u [dr s,fB x,fC y,lE p,y5 q]->cc aK aH gs (bW (eE kd 8 (up (up (up f [(57,f' z)]) [(58,q.sa)]) [(56,q.sa),(59,q.two),(60,ah 5),(61,ah 0),(15,q.two),(16,ah 5),(17,ah 0)])) Tc) u t 0->Tu aK bF gs u t):Tu aK bF gs u t:=by
 have b6:dK (fZ kd) Tc aH aL gs u t ⟨7,0,f,{kE with s:=s,x:=x,y:=y,p:=p},[dr s,fB x,fC y,lE p]⟩ (eE kd 7 f) 11 400:=⟨⟨_,Nn kd F f {kE with s:=s,x:=x,y:=y,p:=p},S6⟩,a6,T,r⟩
 refine b6.gS (gW kd) (iC kd) (.head _) λgs u t c cs j d i back=>?_
 refine rB j d.ej i λgs u t z m n=>?_
 let⟨_,s1⟩:=back aH gs u t z (d.mR m.to) n;refine s1.gS (gW kd) (iC kd) (.head _) λgs u t c cs j d i back=>?_
 refine tg (M:=[dr s,fB x,fC y,lE p]) (z:=z) d C (f:=11) mx av (l:=[ah 0,ah 20,ah 60,ah 2]) (eH (eH (eH (eH lG (.int _ _)) (.int _ _)) (.int _ _)) (.int _ _)) (R:=λv w=>∃v0,v=.tuple #[v0,ah 5,ah 0]/\w.ownsRow (bl.globals.size+5) 63 2 v0 2 [ah 20,ah 46,ah 48,ah 60]) (λw P Q=>?_) j i ?_
 .refine(Iz (A:=bl.list.toArray) fW qS (lN bl.globals.size) 0 a6 20 60 U U 2 U w P).mono ?_
  rintro e w' ⟨v,rfl,h,_⟩;rw[Ci.2]at h;rw[Ci.1];refine⟨_,S6,v,S6,?_⟩;rw[<-Q];exact h
 intro gs u t ai v Y dI ⟨v0,o,h⟩ I E H V W X a4;subst o;obtain⟨Z,dS,aa,rfl,J,K,L⟩:=R1 I;obtain rfl:=Flat.eq (.int _ _) K;obtain rfl:=Flat.eq (.int _ _) L;obtain⟨g,g',cap,l,D,G,rfl,B⟩:=Az E h a6 a6 (eH (eH (eH (eH lG (.int _ _)) (.int _ _)) (.int _ _)) (.int _ _)) J;let⟨_,S⟩:=back aH gs u t ⟨g',cap,l⟩ ((bN.left (M:=[dr s,fB x,fC y,lE p]) (b7:=iE z) d).mR (H g g' _ D G B)) a4;exact S.jN (gW kd) (.head _) (k · · · z ⟨g',cap,l⟩)
end
end Go.aO
namespace Go.aO
attribute [-simp] Go.Sem.runT_eq
open Go.Proofs Tryz Go.Conc Go.ConcN
section
def nS(O:Nat)(r s:e4):Ta×Nat×Obj:=(true,O,.cells #[r.four,s.four] 22 (0,0))
def sf(m:Nat)(es:T5)(c:Nat):Ta×Nat×Obj:=(true,m,.map es c)
def se(li O m:Nat):Ta×Nat×Obj:=(true,li,.cells #[sl O 2,dg,.map (some m)] 179 (0,0))
structure vw where
 z:eG
 s:e4
 x:Nat
 y:Nat
 L:Nat
 T:Nat
 O:Nat
 r0:e4
 r1:e4
 m:Nat
 es:T5
 fO:Nat
 li:Nat
 out:Nat
 p:e4
structure yz where
 l:Nat
 d:vw
 M:Mem
def mq(T:Nat)(z:eG):Ta×Nat×Obj:=(true,T,.cells (eN z 0 0 false false) 132 (0,0))
def xN(d:vw):Mem:=[dr d.s,fB d.x,fC d.y]++iE d.z++[(true,d.L,hf)]
noncomputable def Pb:yz->Tb (Edge yz)
 |⟨0,d,M⟩=>[.new true (.cells #[ah 2,sl d.z.F 2,sl d.z.R 2,sl d.z.Fr 1] 25 (0,0)) λb=>⟨1,d,M++[(true,b,.cells #[ah 2,sl d.z.F 2,sl d.z.R 2,sl d.z.Fr 1] 25 (0,0))]⟩]
 |⟨1,d,M⟩=>[.bL [.ld 9 0,.ld 9 1,.ld 9 2,.ld 9 3] ⟨2,d,c0 M [.ld 9 0,.ld 9 1,.ld 9 2,.ld 9 3]⟩]
 |⟨2,d,_⟩=>[.call 47 #[f' d.z,sl d.L 2,ah 8] (λT:Nat=>.tuple #[pt T,ah 0]) λT=>⟨3,{d with T:=T},xN d++[mq T d.z]⟩]
 |⟨3,d,_⟩=>[.call 71 #[pt d.T,.slice (some (box d.L)) 2 2] (λo:Nat×e4×e4=>.slice (some (box o.1)) 2 2) λo=>⟨4,{d with O:=o.1,r0:=o.2.1,r1:=o.2.2},[dr d.s,fB d.x,fC d.y,dr o.2.1,dr o.2.2,nS o.1 o.2.1 o.2.2]⟩]
 |⟨4,d,M⟩=>[.new true (.map #[] 0) λm=>⟨5,{d with m:=m},M++[sf m #[] 0]⟩]
 |⟨5,d,M⟩=>[.new true (.cells #[sl d.O 2,dg,.map (some d.m)] 179 (0,0)) λb=>⟨6,{d with li:=b},M++[se b d.O d.m]⟩]
 |⟨6,d,_⟩=>[.call 49 #[pt d.li,.agg #[ah 0,ah 8]] (λ_:T5×Nat=>ah 4) λe=>⟨7,{d with es:=e.1,fO:=e.2},[dr d.s,fB d.x,fC d.y,dr d.r0,dr d.r1,nS d.O d.r0 d.r1,se d.li d.O d.m,sf d.m e.1 e.2]⟩]
 |⟨7,d,M⟩=>[.new true (.cells #[dg] 22 (0,0)) λb=>⟨8,{d with out:=b},M++[(true,b,.cells #[dg] 22 (0,0))]⟩]
 |⟨8,d,_⟩=>[.call 50 #[pt d.li,.agg #[ah 0,ah 8],.func (.func 51) #[] #[pt d.out]] (λ_:e4=>.bool true) λp=>⟨9,{d with p:=p},[dr d.s,fB d.x,fC d.y,lE p,(true,d.out,.cells #[p.two] 22 (0,0))]⟩]
 |⟨9,d,M⟩=>[.bL [.ld 4 0] ⟨10,d,c0 M [.ld 4 0]⟩]
 |⟨10,d,_⟩=>[.leave d.p.qi]
 |_=>[]
def Lz(f:Tw):Ta:=[47,71,49,50].any (· == f)
noncomputable def og:de yz:=⟨prog,hv,Lz,.normal,λp=>p.M,λ_=>400,Pb⟩
def nJ:dn og.P og.ext:=by unfold og;exact j8
set_option maxHeartbeats 4000000
set_option maxRecDepth 100000
def Pd(d:vw):Good og 12 ⟨0,d,xN d⟩ (Frame.enter prog 22 #[f' d.z,sl d.L 2,ah 8] .normal,[]):=by all_goals repeat' (first|exact Tf|kernel_rfl|refine⟨?_,?_⟩|refine λ(_:Nat)=>?_|refine λ(_:e4)=>?_|refine λ(_:Nat×e4×e4)=>?_|refine λ(_:T5×Nat)=>?_|intro _)
end
end Go.aO
namespace Go.aO
attribute [-simp] Go.Sem.runT_eq
open Go.ConcM (OsLater)
open Go.Proofs Tryz Go.Conc Go.ConcN
variable{M b7:Mem}{L O g li m:Nat}{h:Nat->S9}{ai ρ:Ren}{w:S7}{T:TA}{y:Ta×Nat×Obj}{e:Tg}{Q:To}{f:Tw}{Tc:Tz}{r0 r1:e4}{z:eG}{d:eS}{bn:iG}
section
section
variable{Pos m3:Type}{A:de Pos}{kv:de m3}{u aC aL:S7}{aH en:TM}
def bN.swap{X:Mem}(h:bN A aH aL u (M++X))(calm:Calm u aC)(old:∀b,b<u.heap.size->(∀(i:Nat) own o,X[i]?≠some (own,b,o))->aC.heap[b]?=u.heap[b]?)(new:gN b7 aC)(y:∀(i:Nat) own b o,b7[i]?=some (own,b,o)->(u.heap.size<=b\/∃(j:Nat) (d:Ta) (c:Obj),X[j]?=some (d,b,c))/\¬en b)(F:∀b,en b->b<aC.heap.size)(E:∀b,b<u.heap.size->en b->aH b):bN kv en aL aC (M++b7):=by
 have m:∀(i:Nat) own b o,M[i]?=some (own,b,o)->(M++X)[i]?=some (own,b,o):=λi own b o e=>by rw[jz (q8 e)];exact e
 have q:∀(i:Nat) own b o,X[i]?=some (own,b,o)->(M++X)[M.length+i]?=some (own,b,o):=λi own b o e=>by rw[jb U];simpa using e
 have cs:∀(i:Nat) own b o,(M++b7)[i]?=some (own,b,o)->(i<M.length/\M[i]?=some (own,b,o))\/(M.length<=i/\b7[i-M.length]?=some (own,b,o)):=λi own b o e=>by
  rcases Ub i M.length with ad|ad
  .rw[jz ad]at e;exact .inl ⟨ad,e⟩
  .rw[jb ad]at e;exact .inr ⟨ad,e⟩
 have lt:∀(i:Nat) own b o,M[i]?=some (own,b,o)->b<u.heap.size:=λi own b o e=>gL h.mem (m i own b o e)
 have off:∀(i:Nat) own b o,M[i]?=some (own,b,o)->∀(j:Nat) d c,X[j]?≠some (d,b,c):=λi own b o e j d c p=>
  h.mem.fL i (M.length+j) own b o d b c (m i own b o e) (q j d b c p) (by have:=q8 e;omega) S6
 have apart:∀(i:Nat) own b o,M[i]?=some (own,b,o)->∀(j:Nat) d n c,b7[j]?=some (d,n,c)->b≠n:=λi own b o e j d n c p=>by
  rintro rfl;rcases(y j d b c p).1 with l|⟨bw,w,r,l⟩
  .have:=lt i own b o e;omega
  .exact off i own b o e bw w r l
 refine⟨⟨λi own b o e=>?_,λi j own b o d n c f g C=>?_⟩,λb B=>?_,h.calm.trans calm,λi own b o e=>?_,F⟩
 .rcases cs i own b o e with⟨_,e⟩|⟨_,e⟩
  .exact(old b (lt i own b o e) (off i own b o e)).trans (h.mem.has i own b o (m i own b o e))
  .exact new.has _ own b o e
 .rcases cs i own b o f with⟨l,f⟩|⟨l,f⟩<;>rcases cs j d n c g with⟨z,g⟩|⟨z,g⟩
  .exact h.mem.fL i j _ _ _ _ _ _ (m _ _ _ _ f) (m _ _ _ _ g) C
  .exact apart _ _ _ _ f _ _ _ _ g
  .exact(apart _ _ _ _ g _ _ _ _ f).symm
  .exact new.fL _ _ _ _ _ _ _ _ f g U
 .have:=h.calm.size
  refine(old b U λi own o e=>?_).trans (h.old b B);have:=(h.fi _ _ _ _ (q i own b o e)).1;omega
 .rcases cs i own b o e with⟨_,e⟩|⟨_,e⟩
  .have:=h.fi _ _ _ _ (m _ _ _ _ e)
   exact⟨this.1,λD=>this.2 (E b (lt i own b o e) D)⟩
  .have t:=y _ own b o e
   refine⟨?_,t.2⟩;rcases t.1 with l|⟨bw,w,r,l⟩
   .have:=h.calm.size;omega
   .exact(h.fi _ _ _ _ (q _ _ _ _ l)).1
def bN.right(h:bN A aH aL u (M++b7)):bN A aH aL u b7:=
 h.sub (λi own b o e=>⟨M.length+i,own,by rw[jb U];simpa using e⟩) (λi j own b o l c g d f m=>h.mem.fL (M.length+i) (M.length+j) own b o l c g (by rw[jb U];simpa using d) (by rw[jb U];simpa using f) U)
def Ro(calm:Calm u aC)(low:∀b,aH b->b<aC.heap.size)(keep:∀b,b<u.heap.size->aC.heap[b]?=u.heap[b]?){b:Nat}(h:u.heap.size<=b/\¬aH b){o:Obj}(l:aC.heap[b]?=some o):bN A aH u aC [(true,b,o)]:=by
 refine⟨⟨λi own c f e=>?_,λi j own c f q m p d g n=>?_⟩,keep,calm,λi own c f e=>?_,low⟩
 .rcases i with _|i
  .simp at e;obtain⟨rfl,rfl,rfl⟩:=e;exact l
  .simp at e
 .rcases i with _|i<;>rcases j with _|j
  .omega
  .simp at g
  .simp at d
  .simp at d
 .rcases i with _|i
  .simp at e;obtain⟨rfl,rfl,rfl⟩:=e;exact h
  .simp at e
end
def tA(ai:Ren)(x y:S9):Prop:=∀c,aQ ai x c->c=y
def Flat.only{v:S9}(h:Flat v):tA ai v v:=λ_ k=>h.eq k
def AJ{a b:Nat}(h:ai.r a b)(n c:Nat):tA ai (Ts a n c) (Ts b n c):=λq k=>by
 cases k with
 |ju _ o=>exact Td o aF
 |@slice _ d g _ _=>
  obtain⟨f,p,s1⟩:=d;obtain⟨i,j,l⟩:=g;cases j;cases l;have m:f=b:=ai.fwd i h;subst m;rfl
def En{ai:Ren}:∀{xs ys:TP},cK (tA ai) xs ys->∀{d:TP},d.length=xs.length->(∀(i:Nat) x y,xs[i]?=some x->d[i]?=some y->aQ ai x y)->d=ys
 |_,_,.nil,d,hd,_=>by simpa using hd
 |_,_,.cons h t,[],hd,_=>by simp at hd
 |_,_,.cons h t,y::d,hd,c=>by rw[h y (c 0 _ _ S6 S6),En t (by simpa using hd) λi x y f g=>c (i+1) x y f g]
def Ix{aC:S7}(p:gm ai w aC){a b:Nat}(h:ai.r a b){xs ys:TP}(m:w.heap[a]?=some (.cells xs.toArray e (0,0)))(E:ai.cells e<=xs.length)(g:0<xs.length)(r:cK (tA ai) xs ys):aC.heap[b]?=some (.cells ys.toArray e (0,0)):=by
 let⟨o,F,c,f,z⟩:=p.obj a b h;rw[m]at c;cases c;cases z with
 |@cells _ d _ _ q j l n=>
  have u:q=(0,0):=w5 n (by simpa using g);have B:d.size=xs.length:=by
   rcases j with h|h
   .rw[<-h];simp
   .have:=h.2;simp at this;omega
  rw[f,u];congr 2;apply Array.ext';rw[List.toList_toArray];exact En r (by rw[Array.length_toList];exact B) λi x y C D=>l i x y (by rw[List.getElem?_toArray];exact C) (by rw[<-Ue];exact D)
variable{bF:TU->T0->S7->Tt->Prop}{aH:TM}{aL u aC:S7}{gs:TR}{t:Tt}{c:TB}{cs:Tz}
def wK{Pos:Type}{A:de Pos}(h:bN A aH aL u M)(C:aK.globals.size<=aL.heap.size)(V:Tb Obj)(G:∀br:iX bl.globals.size (ft M V),yw (ho bl (ft M V) br) (ft M V))(B:¬bl.K.fn f)(p:eK bl f=none){a b:Te}(j:∀br:iX bl.globals.size (ft M V),bQ (ho bl (ft M V) br) a b){R:S9->S7->Prop}(z:∀w:S7,w.heap=(h9 bl.globals.size (ft M V)).heap->Calls bl f a w λe w'=>∃v,e=.returned v/\R v w')(E:Kept c)(q:cc aK aH gs (Tk (Frame.enter aK f b .normal) (c::cs)) u t 0)(k:∀bm aC bh (ai:Ren) v l dI,R v dI->aQ ai v l->gm ai dI aC->(∀(i:Nat) x,(ft M V)[i]?=some x->ai.r (bl.globals.size+i) x.1)->ai.cells=oX bl->Calm u aC->(∀b,aH b->b<aC.heap.size)->
  (∀b,b<u.heap.size->(∀(i:Nat) x,(ft M V)[i]?=some x->x.1=b->∃c e,x.2.1=cr c e)->aC.heap[b]?=u.heap[b]?)->(∀a b,ai.r a b->bl.globals.size+(ft M V).length<=a->u.heap.size<=b/\¬aH b)->
  cc aK aH bm (Tk (c.finish l) cs) aC bh 0->Tu aK bF bm aC bh):Tu aK bF gs u t:=by
 let⟨br,hu⟩:=Dn (V:=V) (lim:=bl.globals.size) (M:=M) h C;refine DN (K:=bl.K) bl.rv bl.H (λf h=>h) (λ_ _ _ h=>h) bl.o5 br (G br) B (j br) p (R:=R) (λw J _=>z w J) E hu h.ej (by have:=h.calm.size;show aK.globals.size<=_;omega) q ?_;intro bm aC bh ai v l dI o I D g hrel F H;refine k bm aC bh ai v l dI o I D (λi x e=>g.le.sub _ _ (uo e)) g.le.cells (ze g) F (λb r L=>?_) (λa b j d=>⟨C0 g j d,hrel a b j⟩) H;by_cases m:∃a,(ho bl (ft M V) br).r a b
 .obtain⟨a,d⟩:=m
  refine(g.guard a b d ?_).2;obtain⟨i,x,e,rfl,rfl⟩:=d;let⟨c,n,y⟩:=L i x e S6;exact⟨c,n,c.size,by rw[lI e,y];rfl,bg⟩
 .exact g.out b r λa d=>m ⟨a,d⟩
def l8:TP:=[ah 0,ah 20,ah 26,ah 46,ah 50,ah 0,ah 20,ah 26,ah 46,ah 50]
def C'{l:TP}(h:∀v∈l,Flat v):bQ ρ l.toArray l.toArray:=⟨S6,λi a b c d=>by rw[c]at d;cases d;rw[List.getElem?_toArray]at c;exact(h a (hk c)).rel⟩
def Qk:∀v∈l8,Flat v:=eH (eH (eH (eH (eH (eH (eH (eH (eH (eH lG (.int _ _)) (.int _ _)) (.int _ _)) (.int _ _)) (.int _ _)) (.int _ _)) (.int _ _)) (.int _ _)) (.int _ _)) (.int _ _)
def x2{x y z:S9}{R:S9->S9->Prop}{f g h:S9}(j:R x f)(l:R y g)(m:R z h):gb R #[x,y,z] #[f,g,h]:=⟨S6,λi a b c d=>by
 rcases i with _|_|_|i
 .simp at c d;subst c;subst d;exact j
 .simp at c d;subst c;subst d;exact l
 .simp at c d;subst c;subst d;exact m
 .simp at c⟩
def Qw{b:Nat}(d:w.heap[b]?=some (cr l8.toArray 52)):qG w b 0 2 λ_=>jI:=by
 refine⟨λi c=>?_,λi c=>?_,λi c=>?_,λi c=>?_,λi c=>?_⟩
 .have:=aU (o:=0+i*5) d
  rcases kt c with rfl|rfl<;>exact this
 .have:=aU (o:=0+i*5+1) d
  rcases kt c with rfl|rfl<;>exact this
 .have:=aU (o:=0+i*5+2) d
  rcases kt c with rfl|rfl<;>exact this
 .have:=aU (o:=0+i*5+3) d
  rcases kt c with rfl|rfl<;>exact this
 .have:=aU (o:=0+i*5+4) d
  rcases kt c with rfl|rfl<;>exact this
end
section
variable{bF:TU->T0->S7->Tt->Prop}{aH:TM}{aL u aC:S7}{gs:TR}{t:Tt}{c:TB}{cs:Tz}{Pos:Type}{A:de Pos}
def u5(z:eG):TP:=[ah 2,sl z.F 2,sl z.R 2,sl z.Fr 1,.int .u32 0,.int .i32 0,.int .u32 0,.int .u32 0,.int .i32 0,.int .u32 0,.int .u32 0,.int .i32 0,.int .u32 0,ah 0,ah 0,ah 0,ah 0,ah 0,ah 0,ah 0,ah 0,ah 0,ah 0,ah 0,ah 0,ah 0,ah 0,ah 0]
def Q8(z:eG):eN z 0 0 false false=(u5 z).toArray:=av
def Rk:nD fW (lN bl.globals.size)=(u5 ⟨0,bl.globals.size,bl.globals.size+3,0,0,bl.globals.size+4⟩).toArray:=av
def It:oX bl 132=28:=av
def Iu:oX bl 22=1:=av
def Q9{c:eG}(hF:ai.r z.F c.F)(f:ai.r z.R c.R)(d:ai.r z.Fr c.Fr):cK (tA ai) (u5 z) (u5 c):=by refine .cons (Flat.only (.int _ _)) (.cons (AJ hF _ _) (.cons (AJ f _ _) (.cons (AJ d _ _) ?_)));repeat' first|exact .nil|refine .cons (Flat.only (.int _ _)) ?_
def MR(h:bN A aH aL u (M++(iE z++[(true,L,hf)])))(r:aK.globals.size<=aL.heap.size)(J:Kept c)(F:cc aK aH gs (Tk (Frame.enter aK 47 #[f' z,sl L 2,ah 8] .normal) (c::cs)) u t 0)(k:∀bm aC bh T,bN A aH aL aC (M++(iE z++[(true,L,hf)])++[mq T z])->aK.globals.size<=T->cc aK aH bm (Tk (c.finish (.tuple #[pt T,ah 0])) cs) aC bh 0->Tu aK bF bm aC bh):Tu aK bF gs u t:=by
 have B:∀x∈ft [(true,L,hf)] [cr l8.toArray 52],x=(L,cr l8.toArray 52,hf):=λx g=>by simpa [ft]using g
 have H:pv (jh bl.globals.size z [(true,L,hf)] [cr l8.toArray 52]):=Gw λx g=>⟨l8.toArray,52,by rw[B x g]⟩
 refine wK h.right r (A' bl.globals.size++[cr l8.toArray 52]) (λbr=>Gx (M:=[(true,L,hf)]) (V:=[cr l8.toArray 52]) br λx g=>?_) (f:=47) mx av
  (a:=#[.agg (dv fW (lN bl.globals.size)),sl (bl.globals.size+5) 2,ah 8]) (λbr=>x2 (Gy (M:=[(true,L,hf)]) (V:=[cr l8.toArray 52]) br) (qh (bn:=jh bl.globals.size z [(true,L,hf)] [cr l8.toArray 52]) (br:=br) 5 S6 2) (.int _ _))
  (R:=λv w=>∃T,v=.tuple #[pt T,ah 0]/\bl.globals.size+6<=T/\w.heap[T]?=some (.cells (nD fW (lN bl.globals.size)) 132 (0,0))) (λw m=>?_) J F ?_
 .rw[B x g]
  exact nZ S6 (C' Qk)
 .have d:w.heap[bl.globals.size+5]?=some (cr l8.toArray 52):=by rw[m];exact lI (bn:=jh bl.globals.size z [(true,L,hf)] [cr l8.toArray 52]) (i:=5) S6
  have X:w.heap.size=bl.globals.size+6:=by rw[m,sw];rfl
  refine(Eo (A:=bl.list.toArray) fW qS (lN bl.globals.size) w (Gv (M:=[(true,L,hf)]) (V:=[cr l8.toArray 52]) m) (bl.globals.size+5) 0 2 2 U (λ_=>jI) (Qw d) (λ_ _=>xE) 8 U).mono ?_;rintro e w' ⟨T,rfl,p,j,_⟩;exact⟨_,S6,T,S6,U,j⟩
 intro bm aC bh ai v Y dI ⟨T,Q,p,d⟩ P I l G calm low keep fresh C;subst Q;obtain⟨Z,dS,rfl,S,W⟩:=GU P;obtain rfl:=Flat.eq (.int _ _) W;cases S with
 |@ptr _ b j=>
  obtain⟨b,o,s⟩:=b;obtain⟨n,D,E⟩:=j;cases D;cases E;rw[Rk]at d;have y:=Ix I n (ys:=u5 z) d (by rw[G,It];exact bg) a6 (Q9 (l 0 _ S6) (l 3 _ S6) (l 4 _ S6));rw[<-Q8]at y;have q:=fresh _ _ n (by show bl.globals.size+6<=T;exact p);have K:=h.calm.size;refine k bm aC bh b (h.mR (Ro calm low (λb d=>keep b d λi x e _=>H x (hk e)) q y)) (cL (cL r K) q.1) C
def LG{T:Nat}(h:bN A aH aL u (M++(iE z++[(true,L,hf)]++[mq T z])))(ah:aK.globals.size<=aL.heap.size)(n:aK.globals.size<=T)(V:Kept c)(R:cc aK aH gs (Tk (Frame.enter aK 71 #[pt T,.slice (some (box L)) 2 2] .normal) (c::cs)) u t 0)(k:∀en bm aC bh O r0 r1,(∀b,aH b->en b)->(∀b,en b->aH b\/u.heap.size<=b)->bN A en aL aC (M++[dr r0,dr r1,nS O r0 r1])->cc aK en bm (Tk (c.finish (.slice (some (box O)) 2 2)) cs) aC bh 0->Tu aK bF bm aC bh):Tu aK bF gs u t:=by
 have l:=h.right;have f:∀(i:Nat) b o,(iE z++[(true,L,hf)]++[mq T z])[i]?=some (true,b,o)->u.heap[b]?=some o/\¬aH b:=λi b o e=>⟨l.mem.has i true b o e,(l.fi i true b o e).2⟩
 have S:yj {z with T:=T} L aH u:=by have q:=f 0 _ _ S6;have B:=f 1 _ _ S6;have C:=f 2 _ _ S6;have D:=f 3 _ _ S6;have w:=f 4 _ _ S6;have y:=f 5 _ _ S6;have mq:=f 6 _ _ S6;refine⟨mq.1,q.1,D.1,B.1,C.1,w.1,y.1,h.ej,⟨mq.2,q.2,D.2,B.2,C.2,w.2,y.2⟩,n,?_⟩;have:=(l.fi 0 true z.F _ S6).1;show aK.globals.size<=z.F;omega
 refine λsl=>Hy (Ba T n) (z:={z with T:=T}) (λb e=>Rc T n b e) V (.inl S6) S R ?_ sl
 intro Z Y g bm aC bh r aY hd W;let⟨aa,bx,_⟩:=hd.res false;let⟨ad,H,_⟩:=hd.res true;let⟨E,p,ak,F,ae,af,G⟩:=hd.new;rw[g]at E p ae;have m:=hd.calm;rw[g]at m;have aj:=m.size;have Q:Z.z.T=T:=by rw[Y]
 refine k (λb=>aH b\/b=Z.W) bm aC bh Z.O ⟨(r false).1,(r false).2,aa⟩ ⟨(r true).1,(r true).2,ad⟩ (λb d=>.inl d) (λb d=>d.imp id λe=>U) ?_ W;have low:∀b,aH b->b<u.heap.size:=h.ej;refine h.swap m (λb d X=>?_) ⟨λi own b o e=>?_,λi j own b o am ag al I J ai=>?_⟩ (λi own b o e=>?_) (λb d=>?_) (λb d h=>h.elim id λe=>U)
 .have:=hd.old b (by rw[g];exact d) (by rw[Q];rintro rfl;exact X 6 true _ S6)
  rw[this,g]
 .rcases i with _|_|_|i
  .simp[dr]at e;obtain⟨rfl,rfl,rfl⟩:=e;exact bx
  .simp[dr]at e;obtain⟨rfl,rfl,rfl⟩:=e;exact H
  .simp[nS]at e;obtain⟨rfl,rfl,rfl⟩:=e;exact hd.O
  .simp at e
 .have f0:=F false
  have f1:=F true;rcases i with _|_|_|i<;>rcases j with _|_|_|j<;>simp[dr,nS]at I J<;>omega
 .have f0:=p false
  have f1:=p true;have K:=G false;have P:=G true;rcases i with _|_|_|i<;>simp[dr,nS]at e
  .obtain⟨_,rfl,_⟩:=e;exact⟨.inl f0,λh=>h.elim (λh=>by have:=low _ h;omega) K⟩
  .obtain⟨_,rfl,_⟩:=e;exact⟨.inl f1,λh=>h.elim (λh=>by have:=low _ h;omega) P⟩
  .obtain⟨_,rfl,_⟩:=e;exact⟨.inl E,λh=>h.elim (λh=>by have:=low _ h;omega) (λe=>af e.symm)⟩
 .rcases d with d|rfl
  .have:=low b d;omega
  .exact hd.G8
def sI(j:Nat):Int:=match j with|0=>2|1=>3|2=>5|_=>6
def mm:h1:=⟨2,λ_=>4,λ_=>sI⟩
def CB:mm.ok:=⟨a6,λ_ _=>(by decide:(4:Nat)<=200),λi _ j _=>by show 0<=sI j/\sI j<=1000000;unfold sI;split<;>decide⟩
def n4(g bx c:Nat):jL:=⟨g+2,0,2,λi=>match i with|0=>g|_=>g+1,λ_=>0,λi=>match i with|0=>bx|_=>c⟩
def R4:hg mm 2 8=4:=av
def Iv:4<oX bl 3:=by refine gu ?_ (Nat.le_max_right _ _);rw[Tq (.inl S6)];omega
def jd:Te:=#[ah 2,ah 3,ah 5,ah 6]
def xc{b:Nat}(h:w.heap[b]?=some (cr jd 3)):gn w b 0 4 sI:=by
 intro k c;have:=aU (o:=0+k) h;rcases k with _|_|_|_|k
 .exact this
 .exact this
 .exact this
 .exact this
 .omega
def MD(he:ρ.exact=false)(f:ρ.cells=oX bl)(l:Te):eZ ρ (cr jd 3) (.cells (#[ah 2,ah 3,ah 5,ah 6]++l) 3 (0,0)):=by
 refine .cells ?_ (λi x y c d=>?_) (.inr ⟨he,S6,bg,T' _⟩)
 .rcases Uq l.size with h|h
  .exact .inl (by simp[jd,h])
  .refine .inr ⟨by simp[jd];omega,?_⟩
   rw[f];exact Iv
 .have g:i<4:=bu c
  rw[Us (by simpa using g)]at d;have:x=y:=bD (c.symm.trans d);subst this;have hm:x∈[ah 2,ah 3,ah 5,ah 6]:=by refine hk (i:=i) ?_;rw[<-c,<-Ue];rfl
  exact(eH (eH (eH (eH lG (.int _ _)) (.int _ _)) (.int _ _)) (.int _ _) x hm).rel
def xd(he:ρ.exact=false)(m:ρ.cells=oX bl)(l:Te):nM (cr jd 3)/\eZ ρ (cr jd 3) (.cells (#[ah 2,ah 3,ah 5,ah 6]++l) 3 (0,0))/\∀bp d f c g h,cr jd 3=.cells bp d f->Obj.cells (#[ah 2,ah 3,ah 5,ah 6]++l) 3 (0,0)=.cells c g h->bp.size<=c.size:=by refine⟨Tf,MD he m l,λbp d f c g h i j=>?_⟩;cases i;cases j;simp[jd]
def vo(es:T5):Prop:=∀e∈es.toList,Flat e.key/\Flat e.val
def Kj{es:T5}(h:vo es):gb (eR ρ) es es:=⟨S6,λi x y c d=>by rw[c]at d;cases d;have:=h x (hk (by rw[Ue];exact c));exact⟨this.1.rel,this.2.rel,S6⟩⟩
def Kf{es ba:T5}(h:vo es)(k:gb (eR ρ) es ba):ba=es:=by apply Array.ext k.1.symm;intro i j l;have d:es[i]?=some es[i]:=fb l;have g:ba[i]?=some ba[i]:=fb j;have r:=k.2 i _ _ d g;have f:=h es[i] (hk (by rw[Ue];exact d));have a:=f.1.eq r.key;have b:=f.2.eq r.val;have c:=r.born;generalize es[i]=x at *;generalize ba[i]=y at *;obtain⟨_,_,_⟩:=x;obtain⟨_,_,_⟩:=y;simp at a b c;subst a;subst b;subst c;rfl
structure tt(es:T5):Prop where
 mp:∀(w:S7) (m c:Nat),w.heap[m]?=some (.map es c)->∃M,lu w m M/\tx mm M
 flat:vo es
def Kc:tt #[]:=⟨λw m c h=>⟨_,lu.new w m c h,λa p v h=>by cases h⟩,λe he=>by simp at he⟩
def Kd{c:Nat}{es:T5}(h:w.heap[m]?=some (.map es c)){M:Int->Int->TZ}(p:lu w m M)(r:tx mm M):tt es:=by
 obtain⟨⟨fg,bp,g,i,o⟩,j⟩:=p;rw[h]at g;cases g;refine⟨λw' dd l f=>⟨M,⟨⟨es,l,f,i,o⟩,λz y d=>?_⟩,r⟩,λe he=>?_⟩
 .rw[f]at d
  cases d;exact j es c h
 .let⟨a,b,q⟩:=i e he
  let⟨n,u⟩:=j es c h e he;rw[q,u];exact⟨.agg (qZ (.int _ _) (.int _ _)),.int _ _⟩
def va(r0 r1:e4)(O m li:Nat)(es:T5)(c:Nat):Mem:=[dr r0,dr r1,nS O r0 r1,sf m es c,se li O m]
def Bo(g:Nat)(r0 r1:e4)(es:T5)(c:Nat):Tb Obj:=[cr jd 3,cr jd 3,cr #[Ts g 4 r0.c,Ts (g+1) 4 r1.c] 22,.map es c,cr #[sl (g+2) 2,dg,.map (some (g+3))] 179]
def s3{br:iX Q.globals.size bn}(i:Nat){x:Nat×Obj×Obj}(e:bn[i]?=some x)(n c:Nat):aQ (ho Q bn br) (Ts (Q.globals.size+i) n c) (Ts x.1 n c):=.slice (a:=(Ti (Q.globals.size+i))) (b:=(Ti x.1)) ⟨uo e,S6,S6⟩ n c
def An{br:iX Q.globals.size bn}(i:Nat){x:Nat×Obj×Obj}(e:bn[i]?=some x):aQ (ho Q bn br) (Tj (Q.globals.size+i)) (Tj x.1):=.ptr (a:=(Ti (Q.globals.size+i))) (b:=(Ti x.1)) ⟨uo e,S6,S6⟩
def DY{br:iX Q.globals.size bn}(i:Nat){x:Nat×Obj×Obj}(e:bn[i]?=some x):aQ (ho Q bn br) (.map (some (Q.globals.size+i))) (.map (some x.1)):=.map (uo e)
def DX{es:T5}(h:vo es)(c:Nat):nM (.map es c)/\eZ ρ (.map es c) (.map es c)/\∀bp g f d i j,Obj.map es c=.cells bp g f->Obj.map es c=.cells d i j->bp.size<=d.size:=⟨Tf,.map (Kj h) c,λbp g f d i j l _=>by cases l⟩
def GZ{es:T5}{h:Nat}(q:tt es)(j:w.heap[g]?=some (cr jd 3))(l:w.heap[g+1]?=some (cr jd 3))(n:w.heap[g+2]?=some (cr #[Ts g 4 r0.c,Ts (g+1) 4 r1.c] 22))(p:w.heap[m]?=some (.map es h)){f:Nat×Nat}(d:w.heap[li]?=some (.cells #[sl (g+2) 2,dg,.map (some m)] 179 f)):lv w li m mm (n4 g r0.c r1.c):=by
 refine⟨(aU d).trans S6,(aU d).trans S6,λi c=>?_,λi c=>?_,q.mp w m h p⟩
 .have:=aU (o:=0+i) n
  rcases kt c with rfl|rfl<;>exact this
 .rcases kt c with rfl|rfl
  .exact xc j
  .exact xc l
def R6(h:bN A aH aL u (M++va r0 r1 O m li #[] 0))(Q:aK.globals.size<=aL.heap.size)(V:Kept c)(P:cc aK aH gs (Tk (Frame.enter aK 49 #[pt li,.agg #[ah 0,ah 8]] .normal) (c::cs)) u t 0)(k:∀bm aC bh es z,tt es->bN A aH aL aC (M++[dr r0,dr r1,nS O r0 r1,se li O m,sf m es z])->cc aK aH bm (Tk (c.finish (ah 4)) cs) aC bh 0->Tu aK bF bm aC bh):Tu aK bF gs u t:=by
 have I:∀x∈ft (va r0 r1 O m li #[] 0) (Bo bl.globals.size r0 r1 #[] 0),x=(r0.b,cr jd 3,.cells (#[ah 2,ah 3,ah 5,ah 6]++r0.l) 3 (0,0))\/x=(r1.b,cr jd 3,.cells (#[ah 2,ah 3,ah 5,ah 6]++r1.l) 3 (0,0))\/x=(O,cr #[Ts bl.globals.size 4 r0.c,Ts (bl.globals.size+1) 4 r1.c] 22,.cells #[r0.four,r1.four] 22 (0,0))\/x=(m,.map #[] 0,.map #[] 0)\/x=(li,cr #[sl (bl.globals.size+2) 2,dg,.map (some (bl.globals.size+3))] 179,.cells #[sl O 2,dg,.map (some m)] 179 (0,0)):=λx d=>by have d:x∈[(r0.b,cr jd 3,Obj.cells (#[ah 2,ah 3,ah 5,ah 6]++r0.l) 3 (0,0)),(r1.b,cr jd 3,.cells (#[ah 2,ah 3,ah 5,ah 6]++r1.l) 3 (0,0)),(O,cr #[Ts bl.globals.size 4 r0.c,Ts (bl.globals.size+1) 4 r1.c] 22,.cells #[r0.four,r1.four] 22 (0,0)),(m,.map #[] 0,.map #[] 0),(li,cr #[sl (bl.globals.size+2) 2,dg,.map (some (bl.globals.size+3))] 179,.cells #[sl O 2,dg,.map (some m)] 179 (0,0))]:=d;simpa only[T7,iN,or_false]using d
 refine wK h.right Q (Bo bl.globals.size r0 r1 #[] 0) (λbr x d=>?_) (f:=49) mx av
  (a:=#[pt (bl.globals.size+4),.agg #[ah 0,ah 8]]) (λbr=>rE (An (br:=br) 4 S6) (Flat.rel (.agg (qZ (.int _ _) (.int _ _)))))
  (R:=λv w=>v=ah 4/\lv w (bl.globals.size+4) (bl.globals.size+3) mm (n4 bl.globals.size r0.c r1.c)) (λw aa=>?_) V P ?_
 .rcases I x d with rfl|rfl|rfl|rfl|rfl
  .exact xd S6 S6 _
  .exact xd S6 S6 _
  .exact nZ S6 (rE (s3 (br:=br) 0 S6 4 r0.c) (s3 (br:=br) 1 S6 4 r1.c))
  .exact DX (λe he=>by simp at he) 0
  .exact nZ S6 (x2 (qh (br:=br) 2 S6 2) (.kr _ _) (DY (br:=br) 3 S6))
 .have b:∀(i:Nat) x,(ft (va r0 r1 O m li #[] 0) (Bo bl.globals.size r0 r1 #[] 0))[i]?=some x->w.heap[bl.globals.size+i]?=some x.2.1:=λi x e=>by rw[aa];exact lI e
  refine(G0 (A:=bl.list.toArray) (bl.globals.size+4) (bl.globals.size+3) mm CB (n4 bl.globals.size r0.c r1.c) 2 0 S6 8 U w (GZ Kc (b 0 _ S6) (b 1 _ S6) (b 2 _ S6) (b 3 _ S6) (b 4 _ S6))).mono ?_;rintro e w' ⟨rfl,D,_⟩;refine⟨_,S6,?_,D⟩;exact congrArg (λn:Nat=>ah n) R4
 intro bm aC bh ai v ax dI ⟨Z,D⟩ Y S T ap calm low keep fresh J;subst Z;obtain rfl:=Flat.eq (.int _ _) Y;let⟨am,E,W⟩:=D.mp;let⟨⟨es,z,y,ar,au⟩,aq⟩:=E;have F:=Kd y E W;let⟨o,p,g,l,X⟩:=S.obj _ _ (T 3 _ S6);have g:dI.heap[bl.globals.size+3]?=some o:=g;rw[y]at g;cases g;have l:aC.heap[m]?=some p:=l;cases X with
 |@map _ ba hm _=>
  obtain rfl:=Kf F.flat hm;have q:=h.right;have B:∀(i:Nat) own b o,(va r0 r1 O m li #[] 0)[i]?=some (own,b,o)->i≠3->aC.heap[b]?=some o:=λi own b o e G=>by
   refine(keep b (gL q.mem e) λj x H d=>?_).trans (q.mem.has i own b o e);rcases I x (hk H)with rfl|rfl|rfl|rfl|rfl
   .exact⟨_,_,S6⟩
   .exact⟨_,_,S6⟩
   .exact⟨_,_,S6⟩
   .exact(q.mem.fL i 3 own b o true m _ e S6 G d.symm).elim
   .exact⟨_,_,S6⟩
  have ae:=B 0 _ _ _ S6 U;have af:=B 1 _ _ _ S6 U;have ag:=B 2 _ _ _ S6 U;have aj:=B 4 _ _ _ S6 U;have back:∀(i:Nat) own b o,[dr r0,dr r1,nS O r0 r1,se li O m,sf m ba z][i]?=some (own,b,o)->∃(j:Nat) (C:Ta) (p:Obj),(va r0 r1 O m li #[] 0)[j]?=some (C,b,p)/\j=(match i with|3=>4|4=>3|i=>i):=λi own b o e=>by
   rcases i with _|_|_|_|_|i
   .cases e;exact⟨0,_,_,S6,S6⟩
   .cases e;exact⟨1,_,_,S6,S6⟩
   .cases e;exact⟨2,_,_,S6,S6⟩
   .cases e;exact⟨4,_,_,S6,S6⟩
   .cases e;exact⟨3,_,_,S6,S6⟩
   .simp at e
  refine k bm aC bh ba z F (h.swap calm (λb y d=>?_) ⟨λi own b o e=>?_,λi j own b o C ao p g l aw=>?_⟩ (λi own b o e=>?_) low (λb _ h=>h)) J
  .refine keep b y λi x e ad=>?_
   subst ad;let⟨own,L,_⟩:=q4 e;exact(d i own _ L).elim
  .rcases i with _|_|_|_|_|i
   .cases e;exact ae
   .cases e;exact af
   .cases e;exact ag
   .cases e;exact aj
   .cases e;exact l
   .simp at e
  .let⟨r,_,_,q1,r1⟩:=back i _ _ _ g
   let⟨K,_,_,ak,al⟩:=back j _ _ _ l;refine q.mem.fL r K _ _ _ _ _ _ q1 ak ?_;have G:i<5:=q8 g;have H:j<5:=q8 l;rcases i with _|_|_|_|_|i<;>rcases j with _|_|_|_|_|j<;>simp at r1 al<;>omega
  .let⟨r,C,p,q1,_⟩:=back i _ _ _ e
   exact⟨.inr ⟨r,C,p,q1⟩,(q.fi r _ _ _ q1).2⟩
def Jl(out:Nat):Ta×Nat×Obj:=(true,out,.cells #[dg] 22 (0,0))
def y6(r0 r1:e4)(O m li out:Nat)(es:T5)(c:Nat):Mem:=[dr r0,dr r1,nS O r0 r1,se li O m,sf m es c,Jl out]
def y7(g:Nat)(r0 r1:e4)(es:T5)(c:Nat):Tb Obj:=[cr jd 3,cr jd 3,cr #[Ts g 4 r0.c,Ts (g+1) 4 r1.c] 22,.cells #[sl (g+2) 2,dg,.map (some (g+4))] 179 (0,0),.map es c,.cells #[dg] 22 (0,0)]
def Jn(y B:Nat)(c:y<B):na (AP (A:=bl.list.toArray) y B c).stop (AP (A:=bl.list.toArray) y B c).next mm 2 8 [] none=(true,some [2,6]):=av
def EN{c d:Te}(h:bQ ρ c d):nM (.cells c e (0,0))/\eZ ρ (.cells c e (0,0)) (.cells d e (0,0))/\∀bp i f g j l,Obj.cells c e (0,0)=.cells bp i f->Obj.cells d e (0,0)=.cells g j l->bp.size<=g.size:=by refine⟨Tf,.cells (.inl h.1) h.2 (.inl S6),λbp i f g j l m n=>?_⟩;cases m;cases n;exact Nat.le_of_eq h.1
def Jp(g bx d:Nat):ow mm (n4 g bx d) (g+3) (g+4) (g+5) (g+6):=by
 have f:∀i,i<2->(n4 g bx d).o7 i=g\/(n4 g bx d).o7 i=g+1:=λi c=>by
  rcases kt c with rfl|rfl
  .exact .inl S6
  .exact .inr S6
 have j:(n4 g bx d).nN=g+2:=S6;refine⟨U,U,U,U,λi c=>?_,U,U,λi c=>?_,U,U,U,λi c=>?_⟩<;>(rcases f i c with h|h<;>omega)
def Jq{out r:Nat}{es:T5}(J:tt es)(h:bN A aH aL u (M++y6 r0 r1 O m li out es r))(ae:aK.globals.size<=aL.heap.size)(aj:Kept c)(X:cc aK aH gs (Tk (Frame.enter aK 50 #[pt li,.agg #[ah 0,ah 8],.func (.func 51) #[] #[pt out]] .normal) (c::cs)) u t 0)(k:∀bm aC bh p,bN A aH aL aC (M++[lE p,(true,out,.cells #[p.two] 22 (0,0))])->cc aK aH bm (Tk (c.finish (.bool true)) cs) aC bh 0->Tu aK bF bm aC bh):Tu aK bF gs u t:=by
 have aq:∀x∈ft (y6 r0 r1 O m li out es r) (y7 bl.globals.size r0 r1 es r),x=(r0.b,cr jd 3,.cells (#[ah 2,ah 3,ah 5,ah 6]++r0.l) 3 (0,0))\/x=(r1.b,cr jd 3,.cells (#[ah 2,ah 3,ah 5,ah 6]++r1.l) 3 (0,0))\/x=(O,cr #[Ts bl.globals.size 4 r0.c,Ts (bl.globals.size+1) 4 r1.c] 22,.cells #[r0.four,r1.four] 22 (0,0))\/x=(li,.cells #[sl (bl.globals.size+2) 2,dg,.map (some (bl.globals.size+4))] 179 (0,0),.cells #[sl O 2,dg,.map (some m)] 179 (0,0))\/x=(m,.map es r,.map es r)\/x=(out,.cells #[dg] 22 (0,0),.cells #[dg] 22 (0,0)):=λx h=>by have D:x∈[(r0.b,cr jd 3,Obj.cells (#[ah 2,ah 3,ah 5,ah 6]++r0.l) 3 (0,0)),(r1.b,cr jd 3,.cells (#[ah 2,ah 3,ah 5,ah 6]++r1.l) 3 (0,0)),(O,cr #[Ts bl.globals.size 4 r0.c,Ts (bl.globals.size+1) 4 r1.c] 22,.cells #[r0.four,r1.four] 22 (0,0)),(li,.cells #[sl (bl.globals.size+2) 2,dg,.map (some (bl.globals.size+4))] 179 (0,0),.cells #[sl O 2,dg,.map (some m)] 179 (0,0)),(m,.map es r,.map es r),(out,.cells #[dg] 22 (0,0),.cells #[dg] 22 (0,0))]:=h;simpa only[T7,iN,or_false]using D
 refine wK h.right ae (y7 bl.globals.size r0 r1 es r) (λbr x D=>?_) (f:=50) mx av
  (a:=#[pt (bl.globals.size+3),.agg #[ah 0,ah 8],.func (.func 51) #[] #[pt (bl.globals.size+5)]]) (b:=#[pt li,.agg #[ah 0,ah 8],.func (.func 51) #[] #[pt out]]) (λbr=>x2 (An (br:=br) 3 S6) (Flat.rel (.agg (qZ (.int _ _) (.int _ _)))) (.func (.func _ av) S6 (λi x y D G=>by simp at D) S6 (z' (R:=aQ _) (An (br:=br) 5 S6)).2))
  (R:=λv w=>v=.bool true/\∃v0,w.heap[bl.globals.size+5]?=some (.cells #[v0] 22 (0,0))/\w.ownsRow (bl.globals.size+6) 3 1 v0 2 [ah 2,ah 6]) (λw P=>?_) aj X ?_
 .rcases aq x D with rfl|rfl|rfl|rfl|rfl|rfl
  .exact xd S6 S6 _
  .exact xd S6 S6 _
  .exact nZ S6 (rE (s3 (br:=br) 0 S6 4 r0.c) (s3 (br:=br) 1 S6 4 r1.c))
  .exact EN (x2 (qh (br:=br) 2 S6 2) (.kr _ _) (DY (br:=br) 4 S6))
  .exact DX J.flat r
  .exact EN (z' (.kr _ _))
 .have b:∀(i:Nat) x,(ft (y6 r0 r1 O m li out es r) (y7 bl.globals.size r0 r1 es r))[i]?=some x->w.heap[bl.globals.size+i]?=some x.2.1:=λi x e=>by rw[P];exact lI e
  have az:w.heap.size=bl.globals.size+6:=by rw[P,sw];rfl
  have ls:lv w (bl.globals.size+3) (bl.globals.size+4) mm (n4 bl.globals.size r0.c r1.c):=GZ J (b 0 _ S6) (b 1 _ S6) (b 2 _ S6) (b 4 _ S6) (b 3 _ S6);have W:ih mm (n4 bl.globals.size r0.c r1.c) (bl.globals.size+3) (bl.globals.size+4) (bl.globals.size+6) (.slice none 0 0) [] w:=
   ⟨b 3 _ rfl,ls.rows,ls.el,ls.mp,⟨rfl,.inl ⟨rfl,rfl⟩⟩,U⟩
  have G:bl.globals.size+5<bl.globals.size+6:=U;have I:=CO (A:=bl.list.toArray) (AP (bl.globals.size+5) (bl.globals.size+6) G) mm (n4 bl.globals.size r0.c r1.c) (bl.globals.size+3) (bl.globals.size+4) (Jp _ _ _) CB 2 0 8 [] none (.slice none 0 0) w S6 U a6 W ⟨⟨.slice none 0 0,b 5 _ S6,S6⟩,U⟩;rw[Jn]at I;refine Calls.mono I ?_;rintro e w' ⟨au,rfl,_,⟨⟨v0,F,C⟩,_⟩,_⟩;refine⟨_,S6,S6,v0,F,?_⟩;rcases C with⟨C,_⟩|⟨C,_⟩
  .exact C
  .cases C
 intro bm aC bh ai v au dI ⟨ap,v0,F,C⟩ ao L ag Z calm low keep fresh S;subst ap;obtain rfl:=Flat.eq (.bool _) ao;let⟨o,Q,z,B,am⟩:=L.obj _ _ (ag 5 _ S6);have z:dI.heap[bl.globals.size+5]?=some o:=z;rw[F]at z;cases z;have B:aC.heap[out]?=some Q:=B;cases am with
 |@cells _ d _ _ q E V ad=>
  have al:q=(0,0):=w5 ad (Nat.succ_pos 0);have aa:d.size=1:=by
   rcases E with E|⟨_,E⟩
   .exact E.symm
   .rw[Z,Iu]at E
    exact Td E aF
  obtain⟨y,rfl⟩:∃y,d=#[y]:=⟨_,sN d aa⟩
  have G:aQ ai v0 y:=V 0 _ _ S6 S6;obtain⟨g,g',cap,l,af,ak,rfl,Y⟩:=Az L C a6 a6 (eH (eH lG (.int _ _)) (.int _ _)) G;have K:=fresh g g' af (by show bl.globals.size+6<=g;exact ak);have H:=h.right;have ay:out<u.heap.size:=gL H.mem (n:=5) (own:=true) (b:=out) (o:=.cells #[dg] 22 (0,0)) S6;refine k bm aC bh ⟨g',cap,l⟩ (h.swap calm (λb F D=>?_) ⟨λi own b o e=>?_,λi j own b o aA aw Q z B ax=>?_⟩ (λi own b o e=>?_) low (λb _ h=>h)) S
  .refine keep b F λi x e ar=>?_
   subst ar;let⟨own,T,_⟩:=q4 e;exact(D i own _ T).elim
  .rcases i with _|_|i
   .cases e;exact Y
   .cases e;rw[B,al];rfl
   .simp at e
  .rcases i with _|_|i<;>rcases j with _|_|j
   .omega
   .cases z;cases B;show g'≠out;omega
   .simp at B
   .cases z;cases B;show out≠g';omega
   .omega
   .simp at B
   .simp at z
   .simp at z
   .simp at z
  .rcases i with _|_|i
   .cases e;exact⟨.inl K.1,K.2⟩
   .cases e;exact⟨.inr ⟨5,true,_,S6⟩,(H.fi 5 true out _ S6).2⟩
   .simp at e
def Pk{d:vw}(q:aK.globals.size<=aL.heap.size)(h:bN A aH aL u (xN d))(D:Kept c)(r:cc aK aH gs (Tk (Frame.enter aK 22 #[f' d.z,sl d.L 2,ah 8] .normal) (c::cs)) u t 0)(k:∀en bm aC bh p,(∀b,aH b->en b)->(∀b,en b->aH b\/aL.heap.size<=b)->bN A en aL aC [dr d.s,fB d.x,fC d.y,lE p]->cc aK en bm (Tk (c.finish p.qi) cs) aC bh 0->Tu aK bF bm aC bh):Tu aK bF gs u t:=by
 have f:∀p,og.dh p<=400:=λ_=>bg
 have b6:dK og (c::cs) aH aL gs u t ⟨0,d,xN d⟩ (Frame.enter aK 22 #[f' d.z,sl d.L 2,ah 8] .normal,[]) 12 400:=⟨⟨_,Pd d,S6⟩,bg,h.to,r⟩
 clear r;refine b6.new nJ f (.head _) λgs u t x b s1=>?_
 refine s1.bL nJ f (.head _) λgs u t x s2=>?_
 refine s2.gS nJ f (.head _) λgs u t c cs l g i back=>?_
 have H:bN og aH aL u (([dr d.s,fB d.x,fC d.y]++(iE d.z++[(true,d.L,hf)]))++[(true,b,.cells #[ah 2,sl d.z.F 2,sl d.z.R 2,sl d.z.Fr 1] 25 (0,0))]):=g.cast av;refine MR (M:=[dr d.s,fB d.x,fC d.y]) (z:=d.z) (L:=d.L) H.left q l i λgs u t T n w j=>?_
 obtain⟨_,P⟩:=back aH gs u t T (n.cast S6) j;clear back;refine P.gS nJ f (.head _) λgs u t c cs l g i back=>?_
 have B:=g.calm.size;refine LG (A:=og) (M:=[dr d.s,fB d.x,fC d.y]) (z:=d.z) (L:=d.L) (T:=T) (g.cast S6) q w l i λo gs u t O r0 r1 E F n j=>?_
 have G:∀b,o b->aH b\/aL.heap.size<=b:=λb y=>(F b y).imp id λh=>cL B h
 obtain⟨_,Q⟩:=back o gs u t (O,r0,r1) (n.cast S6) j;clear back;refine Q.new nJ f (.head _) λgs u t x m R=>?_
 refine R.new nJ f (.head _) λgs u t x li S=>?_
 refine S.gS nJ f (.head _) λgs u t c cs l g i back=>?_
 refine R6 (A:=og) (M:=[dr d.s,fB d.x,fC d.y]) (r0:=r0) (r1:=r1) (O:=O) (m:=m) (li:=li) (g.cast S6) q l i λgs u t es J C n j=>?_
 obtain⟨_,U⟩:=back o gs u t (es,J) (n.cast S6) j;clear back;refine U.new nJ f (.head _) λgs u t x out V=>?_
 refine V.gS nJ f (.head _) λgs u t c cs l g i back=>?_
 refine Jq (A:=og) (M:=[dr d.s,fB d.x,fC d.y]) (r0:=r0) (r1:=r1) (O:=O) (m:=m) (li:=li) (out:=out) C (g.cast S6) q l i λgs u t p n j=>?_
 obtain⟨_,W⟩:=back o gs u t p (n.cast S6) j;clear back;refine W.bL nJ f (.head _) λgs u t x K=>?_
 refine K.leave nJ D (.head _) λgs u t X a=>?_
 have I:bN A o aL u ([dr d.s,fB d.x,fC d.y,lE p]++[(true,out,.cells #[p.two] 22 (0,0))]):=X.cast av;exact k o gs u t p E G I.left a
def N5{kd:Tx}{f:Nat->S9}(r:TG kd)(q:aK.globals.size<=aL.heap.size){s:e4}{x y:Nat}(D:bN (fZ kd) aH aL u [dr s,fB x,fC y])(o:cc aK aH gs (bW (eE kd 6 f) Tc) u t 0)(k:∀en gs u t z L p,(∀b,aH b->en b)->(∀b,en b->aH b\/aL.heap.size<=b)->bN (fZ kd) en aL u [dr s,fB x,fC y,lE p]->cc aK en gs (bW (eE kd 7 (up (up (up (up (up (up f [(49,f' z)]) [(50,.agg dC)]) [(51,.agg dC)]) [(52,sl L 2)]) [(53,p.qi)]) [(48,p.qi),(54,p.two),(55,ah 0),(13,p.two),(14,ah 0)])) Tc) u t 0->Tu aK bF gs u t):Tu aK bF gs u t:=by
 have b6:dK (fZ kd) Tc aH aL gs u t ⟨6,0,f,{kE with s:=s,x:=x,y:=y},[dr s,fB x,fC y]⟩ (eE kd 6 f) 11 400:=⟨⟨_,Nm kd r f {kE with s:=s,x:=x,y:=y},S6⟩,a6,D,o⟩
 refine b6.gS (gW kd) (iC kd) (.head _) λgs u t c cs j g h back=>?_
 refine rB j g.ej h λgs u t z m i=>?_
 obtain⟨_,s1⟩:=back aH gs u t z (g.mR m.to) i;refine s1.gS (gW kd) (iC kd) (.head _) λgs u t c cs j g h back=>?_
 refine uW j g.ej h λgs u t m i=>?_
 obtain⟨_,s2⟩:=back aH gs u t () (g.on m.to) i;refine s2.gS (gW kd) (iC kd) (.head _) λgs u t c cs j g h back=>?_
 refine uW j g.ej h λgs u t m i=>?_
 obtain⟨_,w⟩:=back aH gs u t () (g.on m.to) i;refine w.new (gW kd) (iC kd) (.head _) λgs u t _ L B=>?_
 refine B.gS (gW kd) (iC kd) (.head _) λgs u t c cs j g h back=>?_
 refine Pk (d:=⟨z,s,x,y,L,0,0,⟨0,0,#[]⟩,⟨0,0,#[]⟩,0,#[],0,0,0,⟨0,0,#[]⟩⟩) q (g.cast (kv:=fZ kd) S6) j h λen gs u t p l n E i=>?_
 obtain⟨_,C⟩:=back en gs u t p (E.cast S6) i;exact C.jN (gW kd) (.head _) (k en · · · z L p l n)
end
section
section
variable{Pos:Type}{A:de Pos}{u aL:S7}{t:Tt}{gs:TR}{x:bA}{n j:Nat}{p:Pos}{bF:TU->T0->S7->Tt->Prop}{Tc:Tz}{aH:TM}
def dK.ord(T:dn A.P A.ext)(o:∀p,A.dh p<=400)(h:dK A Tc aH aL gs u t p x (n+1) j){id:Nat}{ops:Tv Oper}{L:Tb TA}{d:TA->Pos}(he:Edge.ord f id ops L d∈A.cz p)(k:∀gs u t x l,l∈L->dK A Tc aH aL gs u t (d l) x n (A.dh (d l))->Tu A.P bF gs u t):Tu A.P bF gs u t:=by
 refine h.quiet T λgs u t x a B g C m=>?_
 obtain rfl:n=a:=U;refine g.step λc=>?_
 let⟨l,y,q,r,hm,w⟩:=m.ord T he (u.at c);refine⟨bW y Tc,u.at (c+1),#[],w true Tc .running none,S6,bg,(λe he=>by simp at he),λbm bh z i=>?_⟩;exact k bm (u.at (c+1)) bh y l q ⟨r,o _,by rw[hm];exact B.at _,i⟩ z
def bN.Nq(h:bN A aH aL u M)(i j:Nat)(m:i≠j){x:Ta×Nat×Obj}(f:M[i]?=some x)(g:M[j]?=some y):bN A aH aL u [x,y]:=by
 refine h.sub (λk own b o e=>?_) (λk l own b o r n q c d p=>?_)
 .rcases k with _|_|k
  .cases e;exact⟨i,_,f⟩
  .cases e;exact⟨j,_,g⟩
  .simp at e
 .rcases k with _|_|k<;>rcases l with _|_|l
  .omega
  .cases c;cases d;exact h.mem.fL i j _ _ _ _ _ _ f g m
  .simp at d
  .cases c;cases d;exact h.mem.fL j i _ _ _ _ _ _ g f m.symm
  .omega
  .simp at d
  .simp at c
  .simp at c
  .simp at c
end
variable{bF:TU->T0->S7->Tt->Prop}{aH:TM}{aL u aC:S7}{gs:TR}{t:Tt}{c bx:TB}{cs Tc Tp:Tz}{Pos:Type}{A:de Pos}{kd:Tx}
structure yk where
 l:Nat
 M:Mem
def HP(a b:Int):yk->Tb (Edge yk)
 |⟨0,M⟩=>[.new true ou λb=>⟨1,M++[(true,b,ou)]⟩]
 |⟨1,M⟩=>[.bL [.st 0 0 (ah a),.st 0 1 (ah b)] ⟨2,c0 M [.st 0 0 (ah a),.st 0 1 (ah b)]⟩]
 |⟨2,_⟩=>[.k' [.ld 0 0,.ld 0 1] (.agg #[ah a,ah b])]
 |_=>[]
noncomputable def r7(a b:Int):de yk:=⟨prog,hv,λ_=>false,.normal,λp=>p.M,λ_=>400,HP a b⟩
def Bz(a b:Int):dn (r7 a b).P (r7 a b).ext:=by unfold r7;exact j8
def HQ(a b:Int):Good (r7 a b) 6 ⟨0,[]⟩ (Frame.enter prog 23 #[ah a,ah b] .normal,[]):=by all_goals exact fX
def vI(a b:Int)(h:Kept c)(i:∀b,aH b->b<u.heap.size)(g:cc aK aH gs (Tk (Frame.enter aK 23 #[ah a,ah b] .normal) (c::cs)) u t 0)(k:∀bm aC bh,bN A aH u aC []->cc aK aH bm (Tk (c.finish (.agg #[ah a,ah b])) cs) aC bh 0->Tu aK bF bm aC bh):Tu aK bF gs u t:=by
 have d:∀p,(r7 a b).dh p<=400:=λ_=>bg
 have b6:dK (r7 a b) (c::cs) aH u gs u t ⟨0,[]⟩ (Frame.enter aK 23 #[ah a,ah b] .normal,[]) 6 400:=⟨⟨_,HQ a b,S6⟩,bg,bN.start u i,g⟩
 refine b6.new (Bz a b) d (.head _) λn q t1 w m s1=>?_
 refine s1.bL (Bz a b) d (.head _) λo r t2 y s2=>?_
 refine s2.k' (Bz a b) h (.head _) λf l t9 j a9=>?_
 exact k f l t9 j.none a9
def KR(h:bN A aH aL u M)(z:aK.globals.size<=aL.heap.size)(V:Tb Obj)(D:∀br:iX bl.globals.size (ft M V),yw (ho bl (ft M V) br) (ft M V))(B:pv (ft M V))(y:¬bl.K.fn f)(m:eK bl f=none){a b:Te}(l:∀br:iX bl.globals.size (ft M V),bQ (ho bl (ft M V) br) a b){r:S9}(E:Flat r)(q:∀w:S7,w.heap=(h9 bl.globals.size (ft M V)).heap->Calls bl f a w λe _=>e=.returned r)(C:Kept c)(n:cc aK aH gs (Tk (Frame.enter aK f b .normal) (c::cs)) u t 0)(k:∀bm aC bh,bN A aH u aC []->cc aK aH bm (Tk (c.finish r) cs) aC bh 0->Tu aK bF bm aC bh):Tu aK bF gs u t:=by refine wK h z V D y m l (R:=λv _=>v=r) (λw G=>(q w G).mono λe w' he=>⟨_,he,S6⟩) C n ?_;intro bm aC bh ai v Q dI g F J K I calm low keep fresh d;subst g;obtain rfl:=E.eq F;exact k bm aC bh ⟨⟨λi own b o e=>by simp at e,λi j own b o P H L e=>by simp at e⟩,λb p=>keep b p λi x e _=>B x (hk e),calm,λi own b o e=>by simp at e,low⟩ d
def Oc(he:ρ.exact=false)(r:ρ.cells=oX bl)(q:e=3\/e=63)(xs:TP)(w:∀v∈xs,Flat v)(hlen:xs.length<18446744073709551616)(l:Te):
 nM (cr xs.toArray e)/\eZ ρ (cr xs.toArray e) (.cells (xs.toArray++l) e (0,0))/\∀bp g f d j m,cr xs.toArray e=.cells bp g f->Obj.cells (xs.toArray++l) e (0,0)=.cells d j m->bp.size<=d.size:=by
 refine⟨Tf,.cells ?_ (λi x y c n=>?_) (.inr ⟨he,S6,bg,T' _⟩),λbp g f d j m o p=>?_⟩
 .rcases Uq l.size with h|h
  .exact .inl (by simp[h])
  .refine .inr ⟨cH,?_⟩
   rw[r];refine gu ?_ (Nat.le_max_right _ _);rw[Tq q];simpa using hlen
 .have u:i<xs.toArray.size:=bu c
  rw[Us u]at n;have:x=y:=bD (c.symm.trans n);subst this;rw[List.getElem?_toArray]at c;exact(w x (hk c)).rel
 .cases o
  cases p;simp
def zK{n b cap:Nat}(o:e=3\/e=63){l:Te}(xs:TP)(d:∀v∈xs,Flat v)(hlen:xs.length<18446744073709551616)(h:bN A aH aL u [(true,g,.cells (xs.toArray++l) e (0,0)),(true,b,.cells xs.toArray e (0,0))])(z:aK.globals.size<=aL.heap.size)(y:¬bl.K.fn f)(p:eK bl f=none)(r:∀w:S7,∀i j,w.heap[i]?=some (cr xs.toArray e)->w.heap[j]?=some (cr xs.toArray e)->Calls bl f #[Ts i n cap,Ts j n n] w λe _=>e=.returned (.bool true))(B:Kept c)(q:cc aK aH gs (Tk (Frame.enter aK f #[Ts g n cap,sl b n] .normal) (c::cs)) u t 0)(k:∀bm aC bh,bN A aH u aC []->cc aK aH bm (Tk (c.finish (.bool true)) cs) aC bh 0->Tu aK bF bm aC bh):Tu aK bF gs u t:=by
 have m:∀x∈ft [(true,g,.cells (xs.toArray++l) e (0,0)),(true,b,.cells xs.toArray e (0,0))] [cr xs.toArray e,cr xs.toArray e],x=(g,cr xs.toArray e,.cells (xs.toArray++l) e (0,0))\/x=(b,cr xs.toArray e,.cells xs.toArray e (0,0)):=λx d=>by have d:x∈[(g,cr xs.toArray e,Obj.cells (xs.toArray++l) e (0,0)),(b,cr xs.toArray e,.cells xs.toArray e (0,0))]:=d;simpa only[T7,iN,or_false]using d
 refine KR h z [cr xs.toArray e,cr xs.toArray e] (λbr x hm=>?_) (λx hm=>?_) y p (a:=#[Ts bl.globals.size n cap,Ts (bl.globals.size+1) n n]) (λbr=>rE (s3 (br:=br) 0 S6 n cap) (s3 (br:=br) 1 S6 n n)) (.bool true) (λw C=>?_) B q k
 .rcases m x hm with rfl|rfl
  .exact Oc S6 S6 o xs d hlen l
  .exact nZ S6 (C' d)
 .rcases m x hm with rfl|rfl
  .exact⟨_,_,S6⟩
  .exact⟨_,_,S6⟩
 .have b:∀(i:Nat) x,(ft [(true,g,.cells (xs.toArray++l) e (0,0)),(true,b,.cells xs.toArray e (0,0))] [cr xs.toArray e,cr xs.toArray e])[i]?=some x->w.heap[bl.globals.size+i]?=some x.2.1:=λi x e=>by rw[C];exact lI e
  exact r w _ _ (b 0 _ S6) (b 1 _ S6)
def zO{x:Ta×Nat×Obj}(h:bN A aH aL u (ed d++[x]))(i:Nat)(c:i<5)(f:(ed d)[i]?=some y):bN A aH aL u [y,x]:=
 h.Nq i 5 U (by rw[jz (by exact c)];exact f) S6
def Qo(p:TG kd){a:TA}(n:a∈[[31,32],[32,31]])(g:bN (t8 kd) aH aL u (ed d))(o:cc aK aH gs (bW (gG kd ([0,1,2,3,4,5,6,7,8,9,10,11,12,13,14,15,16,17,18,19,20,21,22,23,24,25,26,27,28,29,30]++(a++([33,34,35]++T))) (jc h d)) Tc) u t 0)(k:∀gs u t,bN (t8 kd) aH aL u (ed d)->cc aK aH gs (bW (gG kd T (lL (jc h d) d)) Tc) u t 0->Tu aK bF gs u t):Tu aK bF gs u t:=by
 simp only[T7,iN,or_false]at n;rcases n with rfl|rfl
 .have b6:dK (t8 kd) Tc aH aL gs u t ⟨10,h,d,T,0,ed d⟩ _ 6 400:=⟨⟨_,Ol kd p h d T,S6⟩,a6,g,o⟩
  refine b6.bL (iW kd) (k3 kd) (.head _) λgs u t x s1=>?_
  refine s1.gS (iW kd) (k3 kd) (.head _) λgs u t c cs l f i back=>?_
  refine vI (A:=t8 kd) 24 26 l f.ej i λgs u t m j=>?_
  let⟨_,s2⟩:=back aH gs u t () ((f.cast (b7:=ed d) av).on m) j;exact s2.jN (iW kd) (.head _) k
 .have b6:dK (t8 kd) Tc aH aL gs u t ⟨12,h,d,T,0,ed d⟩ _ 6 400:=⟨⟨_,Om kd p h d T,S6⟩,a6,g,o⟩
  refine b6.gS (iW kd) (k3 kd) (.head _) λgs u t c cs l f i back=>?_
  refine vI (A:=t8 kd) 24 26 l f.ej i λgs u t m j=>?_
  let⟨_,s1⟩:=back aH gs u t () (bN.on (A:=t8 kd) f m) j;refine s1.bL (iW kd) (k3 kd) (.head _) λgs u t x s2=>?_
  exact s2.jN (iW kd) (.head _) λgs u t g a=>k gs u t (g.cast av) a
def Qp(p:TG kd){a:TA}(n:a∈[[36,37],[37,36]])(g:bN (t8 kd) aH aL u (ed d))(o:cc aK aH gs (bW (gG kd (a++([38,39,40,41,42,43,44,45,46,47,48,49,50,51,52]++T)) (k8 h d)) Tc) u t 0)(k:∀gs u t,bN (t8 kd) aH aL u (ed d)->cc aK aH gs (bW (gG kd T (np (k8 h d) d)) Tc) u t 0->Tu aK bF gs u t):Tu aK bF gs u t:=by
 simp only[T7,iN,or_false]at n;rcases n with rfl|rfl
 .have b6:dK (t8 kd) Tc aH aL gs u t ⟨20,h,d,T,0,ed d⟩ _ 6 400:=⟨⟨_,On kd p h d T,S6⟩,a6,g,o⟩
  refine b6.bL (iW kd) (k3 kd) (.head _) λgs u t x s1=>?_
  refine s1.gS (iW kd) (k3 kd) (.head _) λgs u t c cs l f i back=>?_
  refine vI (A:=t8 kd) 48 50 l f.ej i λgs u t m j=>?_
  let⟨_,s2⟩:=back aH gs u t () ((f.cast (b7:=ed d) av).on m) j;exact s2.jN (iW kd) (.head _) k
 .have b6:dK (t8 kd) Tc aH aL gs u t ⟨22,h,d,T,0,ed d⟩ _ 6 400:=⟨⟨_,Oo kd p h d T,S6⟩,a6,g,o⟩
  refine b6.gS (iW kd) (k3 kd) (.head _) λgs u t c cs l f i back=>?_
  refine vI (A:=t8 kd) 48 50 l f.ej i λgs u t m j=>?_
  let⟨_,s1⟩:=back aH gs u t () (bN.on (A:=t8 kd) f m) j;refine s1.bL (iW kd) (k3 kd) (.head _) λgs u t x s2=>?_
  exact s2.jN (iW kd) (.head _) λgs u t g a=>k gs u t (g.cast av) a
def MB(w:S7)(i j cap:Nat)(c:w.heap[i]?=some (cr #[ah 2,ah 3,ah 5,ah 6] 3))(d:w.heap[j]?=some (cr #[ah 2,ah 3,ah 5,ah 6] 3)):Calls bl 24 #[Ts i 4 cap,Ts j 4 4] w λe _=>e=.returned (.bool true):=
 (DO (A:=bl.list.toArray) i 0 j 0 4 cap 4 U sI w (xc c) (xc d)).mono λ_ _ h=>h.1
def Ei(j:Nat):Int:=match j with|0=>2|_=>6
def Ej{b:Nat}(h:w.heap[b]?=some (cr #[ah 2,ah 6] 3)):gn w b 0 2 Ei:=by intro k c;have:=aU (o:=0+k) h;rcases kt c with rfl|rfl<;>exact this
def MA(w:S7)(i j cap:Nat)(c:w.heap[i]?=some (cr #[ah 2,ah 6] 3))(d:w.heap[j]?=some (cr #[ah 2,ah 6] 3)):Calls bl 24 #[Ts i 2 cap,Ts j 2 2] w λe _=>e=.returned (.bool true):=
 (DO (A:=bl.list.toArray) i 0 j 0 2 cap 2 U Ei w (Ej c) (Ej d)).mono λ_ _ h=>h.1
def Gz(j:Nat):Int:=match j with|0=>20|_=>48
def GC(j:Nat):Int:=match j with|0=>46|_=>60
def GD{b:Nat}(h:w.heap[b]?=some (cr #[ah 20,ah 46,ah 48,ah 60] 63)):rY w b 0 2 Gz GC:=by
 refine⟨λk c=>?_,λk c=>?_⟩
 .have:=aU (o:=0+k*2) h
  rcases kt c with rfl|rfl<;>exact this
 .have:=aU (o:=0+k*2+1) h
  rcases kt c with rfl|rfl<;>exact this
def Rb(w:S7)(i j cap:Nat)(c:w.heap[i]?=some (cr #[ah 20,ah 46,ah 48,ah 60] 63))(d:w.heap[j]?=some (cr #[ah 20,ah 46,ah 48,ah 60] 63)):Calls bl 13 #[Ts i 2 cap,Ts j 2 2] w λe _=>e=.returned (.bool true):=
 (LD (A:=bl.list.toArray) i 0 j 0 2 cap 2 U Gz GC w (GD c) (GD d)).mono λ_ _ h=>h.1
def KI:∀v∈[ah 2,ah 6],Flat v:=eH (eH lG (.int _ _)) (.int _ _)
def KJ:∀v∈[ah 2,ah 3,ah 5,ah 6],Flat v:=eH (eH (eH (eH lG (.int _ _)) (.int _ _)) (.int _ _)) (.int _ _)
def KL:∀v∈[ah 20,ah 46,ah 48,ah 60],Flat v:=eH (eH (eH (eH lG (.int _ _)) (.int _ _)) (.int _ _)) (.int _ _)
def Qq(p:TG kd)(D:aK.globals.size<=aL.heap.size){a:TA}(n:a∈[[53,54],[54,53]])(q:bN (t8 kd) aH aL u (ed d))(o:cc aK aH gs (bW (gG kd (a++([55,56,57]++T)) (mz h d)) Tc) u t 0)(k:∀gs u t b,bN (t8 kd) aH aL u (ed d)->cc aK aH gs (bW (gG kd T (p' (mz h d) d b)) Tc) u t 0->Tu aK bF gs u t):Tu aK bF gs u t:=by
 obtain⟨x,b6⟩:∃x,dK (t8 kd) Tc aH aL gs u t ⟨30,h,d,T,0,ed d⟩ x 6 400:=by
  simp only[T7,iN,or_false]at n;rcases n with rfl|rfl
  .exact⟨_,⟨_,Oq kd p h d T,S6⟩,a6,q,o⟩
  .exact⟨_,⟨_,Ot kd p h d T,S6⟩,a6,q,o⟩
 refine b6.new (iW kd) (k3 kd) (.head _) λgs u t x b s1=>?_
 refine s1.gS (iW kd) (k3 kd) (.head _) λgs u t c cs C g r back=>?_
 have g:bN (t8 kd) aH aL u (ed d++[EY b]):=g;refine zK (A:=t8 kd) (.inl S6) (l:=d.s.l) [ah 2,ah 3,ah 5,ah 6] KJ a6 (zO g 0 U S6) D (f:=24) mx av (λw i j z B=>MB w i j d.s.c z B) C r λgs u t m y=>?_
 let⟨_,s2⟩:=back aH gs u t () (g.left.on m) y;exact s2.jN (iW kd) (.head _) (k · · · b)
def Qr(p:TG kd)(D:aK.globals.size<=aL.heap.size){a:TA}(n:a∈[[58,59],[59,58]])(q:bN (t8 kd) aH aL u (ed d))(o:cc aK aH gs (bW (gG kd (a++([60,61,62]++T)) (oS h d)) Tc) u t 0)(k:∀gs u t b,bN (t8 kd) aH aL u (ed d)->cc aK aH gs (bW (gG kd T (uH (oS h d) d b)) Tc) u t 0->Tu aK bF gs u t):Tu aK bF gs u t:=by
 obtain⟨x,b6⟩:∃x,dK (t8 kd) Tc aH aL gs u t ⟨40,h,d,T,0,ed d⟩ x 6 400:=by
  simp only[T7,iN,or_false]at n;rcases n with rfl|rfl
  .exact⟨_,⟨_,Ou kd p h d T,S6⟩,a6,q,o⟩
  .exact⟨_,⟨_,Ov kd p h d T,S6⟩,a6,q,o⟩
 refine b6.new (iW kd) (k3 kd) (.head _) λgs u t x b s1=>?_
 refine s1.gS (iW kd) (k3 kd) (.head _) λgs u t c cs C g r back=>?_
 have g:bN (t8 kd) aH aL u (ed d++[EX b]):=g;refine zK (A:=t8 kd) (.inl S6) (l:=d.p.l) [ah 2,ah 6] KI a6 (zO g 3 U S6) D (f:=24) mx av (λw i j z B=>MA w i j d.p.c z B) C r λgs u t m y=>?_
 let⟨_,s2⟩:=back aH gs u t () (g.left.on m) y;exact s2.jN (iW kd) (.head _) (k · · · b)
def Qs(n:TG kd)(E:Kept bx)(D:aK.globals.size<=aL.heap.size){a:TA}(q:a∈[[63,64,65,66],[63,65,64,66],[64,63,65,66],[64,65,63,66],[64,65,66,63],[65,63,64,66],[65,64,63,66],[65,64,66,63]])(o:bN (t8 kd) aH aL u (ed d))(g:cc aK aH gs (bW (gG kd (a++[67,68,69]) (n1 h d)) (bx::Tp)) u t 0)(k:∀gs u t,bN (t8 kd) aH aL u (ed d)->cc aK aH gs (Tk (eU kd bx (.bool true)) Tp) u t 0->Tu aK bF gs u t):Tu aK bF gs u t:=by
 obtain⟨x,b6⟩:∃x,dK (t8 kd) (bx::Tp) aH aL gs u t ⟨50,h,d,[],0,ed d⟩ x 6 400:=by
  simp only[T7,iN,or_false]at q;rcases q with rfl|rfl|rfl|rfl|rfl|rfl|rfl|rfl
  .exact⟨_,⟨_,Ow kd n h d,S6⟩,a6,o,g⟩
  .exact⟨_,⟨_,Ox kd n h d,S6⟩,a6,o,g⟩
  .exact⟨_,⟨_,Oy kd n h d,S6⟩,a6,o,g⟩
  .exact⟨_,⟨_,Oz kd n h d,S6⟩,a6,o,g⟩
  .exact⟨_,⟨_,OA kd n h d,S6⟩,a6,o,g⟩
  .exact⟨_,⟨_,OB kd n h d,S6⟩,a6,o,g⟩
  .exact⟨_,⟨_,OC kd n h d,S6⟩,a6,o,g⟩
  .exact⟨_,⟨_,OD kd n h d,S6⟩,a6,o,g⟩
 refine b6.new (iW kd) (k3 kd) (.head _) λgs u t x b s1=>?_
 refine s1.gS (iW kd) (k3 kd) (.head _) λgs u t c cs C p r back=>?_
 have p:bN (t8 kd) aH aL u (ed d++[EZ b]):=p;refine zK (A:=t8 kd) (.inr S6) (l:=d.q.l) [ah 20,ah 46,ah 48,ah 60] KL a6 (zO p 4 U S6) D (f:=13) mx av (λw i j z B=>Rb w i j d.q.c z B) C r λgs u t m y=>?_
 let⟨_,s2⟩:=back aH gs u t () (p.left.on m) y;exact s2.leave (iW kd) E (.head _) k
end
section
variable{bF:TU->T0->S7->Tt->Prop}{aH:TM}{aL u w:S7}{gs:TR}{t:Tt}{bx:TB}{Tp:Tz}{kd:Tx}
def xu{f g:Nat->S9}(e:kD f=kD g)(a:cc aK aH gs (bW (gG kd T f) Tc) u t 0):cc aK aH gs (bW (gG kd T g) Tc) u t 0:=by unfold gG at a ⊢;rw[<-e];exact a
def NW{b:Nat}{f g:Nat->S9}(e:kD f=kD g)(a:cc aK aH gs (bW (eE kd b f) Tc) u t 0):cc aK aH gs (bW (eE kd b g) Tc) u t 0:=by unfold eE at a ⊢;rw[<-e];exact a
def N7(f:TG kd)(B:Kept bx)(i:aK.globals.size<=aL.heap.size)(c:bN (t8 kd) aH aL u (ed d))(z:cc aK aH gs (bW (eE kd 8 (jc h d)) (bx::Tp)) u t 0)(k:∀gs u t,bN (t8 kd) aH aL u (ed d)->cc aK aH gs (Tk (eU kd bx (.bool true)) Tp) u t 0->Tu aK bF gs u t):Tu aK bF gs u t:=by
 have b6:dK (t8 kd) (bx::Tp) aH aL gs u t ⟨0,h,d,[],0,ed d⟩ (eE kd 8 (jc h d)) 4 400:=⟨⟨_,Oj kd f h d,S6⟩,bg,c,z⟩
 refine b6.ord (iW kd) (k3 kd) (.head _) λgs u t x l C s1=>?_
 refine s1.jN (iW kd) (.head _) λgs u t c a=>?_
 obtain⟨D,p,E,q,F,r,G,w,H,y,rfl⟩:=M1 C;refine Qo f p c a λgs u t c a=>?_
 have j:kD (lL (jc h d) d)=kD (k8 (lL (jc h d) d) d):=av;refine Qp f q c (h:=lL (jc h d) d) (xu j a) λgs u t c a=>?_
 have m:kD (np (k8 (lL (jc h d) d) d) d)=kD (mz (np (k8 (lL (jc h d) d) d) d) d):=av;refine Qq f i r c (h:=np (k8 (lL (jc h d) d) d) d) (xu m a) λgs u t b c a=>?_
 have n:kD (p' (mz (np (k8 (lL (jc h d) d) d) d) d) d b)=kD (oS (p' (mz (np (k8 (lL (jc h d) d) d) d) d) d b) d):=av;refine Qr f i w c (h:=p' (mz (np (k8 (lL (jc h d) d) d) d) d) d b) (xu n a) λgs u t g c a=>?_
 have o:kD (uH (oS (p' (mz (np (k8 (lL (jc h d) d) d) d) d) d b) d) d g)=kD (n1 (uH (oS (p' (mz (np (k8 (lL (jc h d) d) d) d) d) d b) d) d g) d):=av;refine Qs f B i y c (h:=uH (oS (p' (mz (np (k8 (lL (jc h d) d) d) d) d) d b) d) d g) (xu o a) k
def Na(g:TG kd)(z:Kept bx)(i:aK.globals.size<=w.heap.size)(B:∀b,aH b->b<w.heap.size)(j:cc aK aH gs (Tk (Frame.enter aK 5 #[] kd) (bx::Tp)) w t 0)(k:∀en gs u t,(∀b,aH b->en b)->(∀b,en b->aH b\/w.heap.size<=b)->(∀b,en b->b<u.heap.size)->(∀b,b<w.heap.size->u.heap[b]?=w.heap[b]?)->Calm w u->cc aK en gs (Tk (eU kd bx (.bool true)) Tp) u t 0->Tu aK bF gs u t):Tu aK bF gs w t:=by
 have m:((Tk (Frame.enter aK 5 #[] kd) (bx::Tp)):TC)=bW (eE kd 0 λ_=>undef) (bx::Tp):=by
  have:(Frame.enter aK 5 #[] kd)=(eE kd 0 λ_=>undef).1:=by rcases g with rfl|rfl<;>kernel_rfl
  rw[this];rfl
 rw[m]at j;refine NZ g (bN.start w B) j λgs u t c a=>?_
 refine N0 g i c a λgs u t C c a=>?_
 refine N1 g i c a λgs u t D s c a=>?_
 refine N2 g i c a λgs u t z3 x y c a=>?_
 refine N3 g i c a λgs u t z4 c a=>?_
 refine N4 g i c a λgs u t z5 c a=>?_
 refine N5 g i c a λen gs u t E L p n o c a=>?_
 refine N6 g i c a λgs u t l q c a=>?_
 generalize r:up _ _=f at a;have e:kD f=kD (jc f ⟨l,s,x,y,L,p,q⟩):=by rw[<-r];kernel_rfl
 exact N7 g z i (d:=⟨l,s,x,y,L,p,q⟩) (h:=f) c.to (NW e a) λgs u t c a=>k en gs u t n o c.ej c.old c.calm a
end
end Go.aO
