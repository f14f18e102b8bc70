/- A part. -/
import Derived.Test.YtejkocoljbaioaaGreatDoorP30
import Derived.Test.YtejkocoljbaioaaGreatDoorP37
set_option maxHeartbeats 8000000
set_option maxRecDepth 100000
set_option linter.all false
namespace Go.aO
attribute [-simp] Go.Sem.runT_eq
open Go.ConcM (OsLater)
open Go.Proofs Go.Conc Go.ConcN
variable{args d:Array Value}{V:List Obj}{l xs:List Value}{M b7:Mem}{lim m:Nat}{aH:Nat->Prop}{Q:Program}{ai ρ:Ren}{e:TypeId}{f g v x y:Value}{R:Value->Value->Prop}{aC dI u w:World}{s:e4}{z:eG}{bn:iG}
section
variable{G:Machine->Outcome->World->Trace->Prop}
inductive Flat:Value->Prop
 |bool (b):Flat (.bool b)
 |int (k n):Flat (.int k n)
 |Ec (n c):Flat (.slice none n c)
 |agg {a:Array Value} (h:∀(i:Nat) x,a[i]?=some x->Flat x):Flat (.agg a)
 |tuple {a:Array Value} (h:∀(i:Nat) x,a[i]?=some x->Flat x) (aT:0<a.size:=by decide):Flat (.tuple a)
def Flat.rel(h:Flat v):aQ ρ v v:=by
 induction h with
 |bool b=>exact .bool b
 |int k n=>exact .int k n
 |Ec n c=>exact .kr n c
 |agg _ g=>exact .agg rfl (λi x y d f=>by rw[d]at f;cases f;exact g i x d)
 |tuple _ _ g=>exact .tuple rfl (λi x y d f=>by rw[d]at f;cases f;exact g i x d)
def BO{a b:Array Value}(c:a.size=b.size)(h:∀(i:Nat) x y,a[i]?=some x->b[i]?=some y->y=x):b=a:=by apply Array.ext c.symm;intro i d f;exact h i _ _ (fb f) (fb d)
def Flat.eq(h:Flat v):∀{w:Value},aQ ρ v w->w=v:=by
 induction h with
 |bool b=>intro w k;cases k;rfl
 |int k n=>intro w k;cases k;rfl
 |Ec n c=>intro w k;cases k;rfl
 |agg _ l=>
  intro w k;cases k with
  |agg f g=>rw[BO f λi x y d j=>l i x d (g i x y d j)]
 |tuple _ o l=>
  intro w k;cases k with
  |gI _ _=>simp at o
  |tuple f g=>rw[BO f λi x y d j=>l i x d (g i x y d j)]
def qZ(c:Flat x)(d:Flat y):∀(i:Nat) z,(#[x,y]:Array Value)[i]?=some z->Flat z:=λi z h=>by
 rcases i with _|_|i
 .simp at h;subst h;exact c
 .simp at h;subst h;exact d
 .simp at h
def C8{z:Value}(c:Flat x)(d:Flat y)(f:Flat z):∀(i:Nat) u,(#[x,y,z]:Array Value)[i]?=some u->Flat u:=λi u h=>by
 rcases i with _|_|_|i
 .simp at h;subst h;exact c
 .simp at h;subst h;exact d
 .simp at h;subst h;exact f
 .simp at h
def KO{z u:Value}(c:Flat x)(d:Flat y)(f:Flat z)(g:Flat u)(j:Flat v):∀(i:Nat) t,(#[x,y,z,u,v]:Array Value)[i]?=some t->Flat t:=λi t h=>by
 rcases i with _|_|_|_|_|i
 .simp at h;subst h;exact c
 .simp at h;subst h;exact d
 .simp at h;subst h;exact f
 .simp at h;subst h;exact g
 .simp at h;subst h;exact j
 .simp at h
def ft:Mem->List Obj->iG
 |m::M,o::V=>(m.2.1,o,m.2.2)::ft M V
 |_,_=>[]
def q4:∀{M:Mem} {V:List Obj} {i:Nat} {x:Nat×Obj×Obj},(ft M V)[i]?=some x->∃own,M[i]?=some (own,x.1,x.2.2)/\V[i]?=some x.2.1
 |m::M,o::V,0,x,h=>by
  have:x=(m.2.1,o,m.2.2):=by simpa [ft]using h.symm
  subst this;exact⟨m.1,rfl,rfl⟩
 |m::M,o::V,i+1,x,h=>q4 (M:=M) (V:=V) (i:=i) (by simpa [ft]using h)
 | [],_,i,x,h=>by simp[ft]at h
 |_::_,[],i,x,h=>by simp[ft]at h
def Dn{Pos:Type}{A:de Pos}{aL:World}(h:bN A aH aL u M)(q:lim<=aL.heap.size):iX lim (ft M V)/\∀x∈ft M V,u.heap[x.1]?=some x.2.2/\¬aH x.1:=by
 refine⟨⟨λi j x y d p e=>?_,λx d=>?_⟩,λx d=>?_⟩
 .obtain⟨g,c,_⟩:=q4 d
  obtain⟨r,l,_⟩:=q4 p;refine Classical.byContradiction λo=>?_
  exact h.mem.fL i j _ _ _ _ _ _ c l o e
 .obtain⟨i,f⟩:=List.mem_iff_getElem?.1 d
  obtain⟨g,c,_⟩:=q4 f;have:=(h.fi i _ _ _ c).1;omega
 .obtain⟨i,f⟩:=List.mem_iff_getElem?.1 d
  obtain⟨g,c,_⟩:=q4 f;exact⟨h.mem.has i _ _ _ c,(h.fi i _ _ _ c).2⟩
def cr(c:Array Value)(e:TypeId):Obj:=.cells c e (0,c.size)
def pv(bn:iG):Prop:=∀x∈bn,∃c e,x.2.1=cr c e
def KY(he:ρ.exact=false){c:Array Value}(h:bQ ρ c d):eZ ρ (cr c e) (.cells d e (0,0)):=.cells (.inl h.1) h.2 (.inr ⟨he,rfl,bg,Nat.zero_le _⟩)
def C1{br:iX Q.globals.size bn}(o:pv bn)(f:fQ (ho Q bn br) ai (h9 Q.globals.size bn) dI u aC):∀b,b<u.heap.size->aC.heap[b]?=u.heap[b]?:=by
 intro b j;by_cases h:∃a,(ho Q bn br).r a b
 .obtain⟨a,d⟩:=h
  refine(f.guard a b d ?_).2;obtain⟨i,x,g,rfl,rfl⟩:=d;obtain⟨c,e,l⟩:=o x (hk g);exact⟨c,e,c.size,by rw[lI g,l];rfl,bg⟩
 .exact f.out b j λa d=>h ⟨a,d⟩
def ze{v:World}(c:fQ ρ ai v dI u aC):Calm u aC:=⟨c.size,c.tape,c.output,c.os⟩
def C0{br:iX Q.globals.size bn}(c:fQ (ho Q bn br) ai (h9 Q.globals.size bn) dI u aC){a b:Nat}(h:ai.r a b)(f:Q.globals.size+bn.length<=a):u.heap.size<=b:=by
 rcases c.new a b h with⟨i,x,d,rfl,rfl⟩|h
 .have:=(List.getElem?_eq_some_iff.1 d).1
  omega
 .exact h
def LB{Pos:Type}{A:de Pos}{br:iX Q.globals.size bn}(d:pv bn)(c:fQ (ho Q bn br) ai (h9 Q.globals.size bn) dI u aC)(h:m4 aH ai)(f:∀b,aH b->b<aC.heap.size):bN A aH u aC []:=
 ⟨⟨λi own b o e=>by simp at e,λi j own b o p g l e=>by simp at e⟩,C1 d c,ze c,λi own b o e=>by simp at e,f⟩
def LC{Pos:Type}{A:de Pos}{br:iX Q.globals.size bn}(q:pv bn)(c:fQ (ho Q bn br) ai (h9 Q.globals.size bn) dI u aC)(z:m4 aH ai)(r:∀b,aH b->b<aC.heap.size){a b:Nat}(g:ai.r a b)(p:Q.globals.size+bn.length<=a){o:Obj}(w:aC.heap[b]?=some o):bN A aH u aC [(true,b,o)]:=by
 refine⟨⟨λi own d h e=>?_,λi j own d h E B D f l C=>?_⟩,C1 q c,ze c,λi own d h e=>?_,r⟩
 .rcases i with _|i
  .simp at e;obtain⟨rfl,rfl,rfl⟩:=e;exact w
  .simp at e
 .rcases i with _|i<;>rcases j with _|j
  .omega
  .simp at l
  .simp at f
  .simp at f
 .rcases i with _|i
  .simp at e;obtain⟨rfl,rfl,rfl⟩:=e;exact⟨C0 c g p,z a _ g⟩
  .simp at e
end
section
variable{bF:Machine->Outcome->World->Trace->Prop}{aH:Nat->Prop}{aL u aC:World}{gs:Array Goroutine}{t:Trace}{c:Frame}{cs:List Frame}
def bl.rv:lA bl:=⟨bl.S,bl.ek,bl.sp.f75,bl.sp.f141,bl.sp.f142,bl.eb⟩
def A'(lim:Nat):List Obj:=[cr #[ah 2,ah 1] 3,cr #[ah 1,ah 2] 3,cr #[ah 3,ah 1] 3,cr #[ah 0,sl (lim+1) 2,ah 2,sl (lim+2) 2] 27,cr #[ah 3] 3]
abbrev jh(lim:Nat)(z:eG)(M:Mem)(V:List Obj):iG:=ft (iE z++M) (A' lim++V)
def lN(lim:Nat):eg where
 gg:=lim
 hG:=0
 cA:=2
 fV:=lim+3
 gU:=0
 dq:=2
 dj:=λi=>match i with|0=>lim+1|_=>lim+2
 uG:=λ_=>0
 cq:=λ_=>2
 ei:=some ⟨lim+4,0,none⟩
 dc:=1
def Gv(d:w.heap=(h9 lim (jh lim z M V)).heap):e' w fW (lN lim):=by
 have g:w.heap[lim]?=some (cr #[ah 2,ah 1] 3):=by rw[d];exact lI (bn:=jh lim z M V) (i:=0) rfl
 have h:w.heap[lim+1]?=some (cr #[ah 1,ah 2] 3):=by rw[d];exact lI (bn:=jh lim z M V) (i:=1) rfl
 have j:w.heap[lim+2]?=some (cr #[ah 3,ah 1] 3):=by rw[d];exact lI (bn:=jh lim z M V) (i:=2) rfl
 have cG:w.heap[lim+3]?=some (cr #[ah 0,sl (lim+1) 2,ah 2,sl (lim+2) 2] 27):=by rw[d];exact lI (bn:=jh lim z M V) (i:=3) rfl
 have l:w.heap[lim+4]?=some (cr #[ah 3] 3):=by rw[d];exact lI (bn:=jh lim z M V) (i:=4) rfl
 refine⟨λi c=>?_,λi c=>?_,λi c=>?_,λi c k f=>?_,λ_=>⟨_,_,rfl,λi c=>?_⟩⟩
 .have:=aU (o:=0+i) g
  rcases kt c with rfl|rfl<;>exact this
 .have:=aU (o:=0+i*2) cG
  rcases kt c with rfl|rfl<;>exact this
 .have:=aU (o:=0+i*2+1) cG
  rcases kt c with rfl|rfl<;>exact this
 .rcases kt c with rfl|rfl
  .have:=aU (o:=0+k) h
   rcases kt f with rfl|rfl<;>exact this
  .have:=aU (o:=0+k) j
   rcases kt f with rfl|rfl<;>exact this
 .have p:i<1:=c
  obtain rfl:i=0:=U;exact aU (o:=0) l
def rE(h:R x f)(j:R y g):gb R #[x,y] #[f,g]:=⟨rfl,λi a b c d=>by
 rcases i with _|_|i
 .simp at c d;subst c;subst d;exact h
 .simp at c d;subst c;subst d;exact j
 .simp at c⟩
def Da{z:Value}{h j:Value}(l:R x g)(o:R y h)(p:R z j)(q:R v f):gb R #[x,y,z,v] #[g,h,j,f]:=⟨rfl,λi a b c d=>by
 rcases i with _|_|_|_|i
 .simp at c d;subst c;subst d;exact l
 .simp at c d;subst c;subst d;exact o
 .simp at c d;subst c;subst d;exact p
 .simp at c d;subst c;subst d;exact q
 .simp at c⟩
def z'(g:R x f):gb R #[x] #[f]:=⟨rfl,λi a b c d=>by
 rcases i with _|i
 .simp at c d;subst c;subst d;exact g
 .simp at c⟩
def qh{br:iX Q.globals.size bn}(i:Nat){x:Nat×Obj×Obj}(e:bn[i]?=some x)(n:Nat):aQ (ho Q bn br) (sl (Q.globals.size+i) n) (sl x.1 n):=.slice (a:=⟨Q.globals.size+i,0,none⟩) (b:=⟨x.1,0,none⟩) ⟨uo e,rfl,rfl⟩ n n
def yw(ρ:Ren)(bn:iG):Prop:=∀x∈bn,nM x.2.1/\eZ ρ x.2.1 x.2.2/\∀c e f d g h,x.2.1=.cells c e f->x.2.2=.cells d g h->c.size<=d.size
def nZ(he:ρ.exact=false){c:Array Value}(h:bQ ρ c d):nM (cr c e)/\eZ ρ (cr c e) (.cells d e (0,0))/\∀bp i f g j l,cr c e=.cells bp i f->Obj.cells d e (0,0)=.cells g j l->bp.size<=g.size:=by refine⟨trivial,KY he h,λbp i f g j l o p=>?_⟩;cases o;cases p;exact Nat.le_of_eq h.1
def Gx(br:iX bl.globals.size (jh bl.globals.size z M V))(i:∀x∈ft M V,nM x.2.1/\eZ (ho bl (jh bl.globals.size z M V) br) x.2.1 x.2.2/\∀c e f d g h,x.2.1=.cells c e f->x.2.2=.cells d g h->c.size<=d.size):yw (ho bl (jh bl.globals.size z M V) br) (jh bl.globals.size z M V):=by
 intro x hx;have hx:x∈(z.F,cr #[ah 2,ah 1] 3,Obj.cells #[ah 2,ah 1] 3 (0,0))::(z.gx,cr #[ah 1,ah 2] 3,Obj.cells #[ah 1,ah 2] 3 (0,0))::(z.gy,cr #[ah 3,ah 1] 3,Obj.cells #[ah 3,ah 1] 3 (0,0))::(z.R,cr #[ah 0,sl (bl.globals.size+1) 2,ah 2,sl (bl.globals.size+2) 2] 27,Obj.cells #[ah 0,sl z.gx 2,ah 2,sl z.gy 2] 27 (0,0))::(z.Fr,cr #[ah 3] 3,Obj.cells #[ah 3] 3 (0,0))::ft M V:=hx;rcases List.mem_cons.1 hx with rfl|hx
 .exact nZ rfl (rE (.int _ _) (.int _ _))
 rcases List.mem_cons.1 hx with rfl|hx
 .exact nZ rfl (rE (.int _ _) (.int _ _))
 rcases List.mem_cons.1 hx with rfl|hx
 .exact nZ rfl (rE (.int _ _) (.int _ _))
 rcases List.mem_cons.1 hx with rfl|hx
 .exact nZ rfl (Da (.int _ _) (qh (bn:=jh bl.globals.size z M V) 1 rfl 2) (.int _ _) (qh (bn:=jh bl.globals.size z M V) 2 rfl 2))
 rcases List.mem_cons.1 hx with rfl|hx
 .exact nZ rfl (z' (.int _ _))
 .exact i x hx
def Gy(br:iX bl.globals.size (jh bl.globals.size z M V)):aQ (ho bl (jh bl.globals.size z M V) br) (.agg (dv fW (lN bl.globals.size))) (f' z):=
 tl (Da (.int _ _) (qh (bn:=jh bl.globals.size z M V) 0 rfl 2) (qh (bn:=jh bl.globals.size z M V) 3 rfl 2) (qh (bn:=jh bl.globals.size z M V) 4 rfl 1))
def Gw(h:pv (ft M V)):pv (jh lim z M V):=by
 intro x hx;have hx:x∈(z.F,cr #[ah 2,ah 1] 3,Obj.cells #[ah 2,ah 1] 3 (0,0))::(z.gx,cr #[ah 1,ah 2] 3,Obj.cells #[ah 1,ah 2] 3 (0,0))::(z.gy,cr #[ah 3,ah 1] 3,Obj.cells #[ah 3,ah 1] 3 (0,0))::(z.R,cr #[ah 0,sl (lim+1) 2,ah 2,sl (lim+2) 2] 27,Obj.cells #[ah 0,sl z.gx 2,ah 2,sl z.gy 2] 27 (0,0))::(z.Fr,cr #[ah 3] 3,Obj.cells #[ah 3] 3 (0,0))::ft M V:=hx;rcases List.mem_cons.1 hx with rfl|hx
 .exact⟨_,_,rfl⟩
 rcases List.mem_cons.1 hx with rfl|hx
 .exact⟨_,_,rfl⟩
 rcases List.mem_cons.1 hx with rfl|hx
 .exact⟨_,_,rfl⟩
 rcases List.mem_cons.1 hx with rfl|hx
 .exact⟨_,_,rfl⟩
 rcases List.mem_cons.1 hx with rfl|hx
 .exact⟨_,_,rfl⟩
 .exact h x hx
def HA(h:aQ ρ x y)(j:∀v∈l,Flat v):bQ ρ (x::l).toArray (y::l).toArray:=⟨rfl,λi a b c d=>by
 rcases i with _|i
 .simp at c d;subst c;subst d;exact h
 .have f:l[i]?=some a:=by simpa using c
  have g:l[i]?=some b:=by simpa using d
  rw[f]at g;cases g;exact(j a (hk f)).rel⟩
def tg{Pos:Type}{A:de Pos}(h:bN A aH aL u (M++iE z))(T:aK.globals.size<=aL.heap.size){f:FuncId}(S:¬bl.K.fn f)(L:eK bl f=none)(Y:∀v∈l,Flat v){R:Value->World->Prop}(Q:∀w:World,e' w fW (lN bl.globals.size)->w.heap.size=bl.globals.size+5->Calls bl f (Value.agg (dv fW (lN bl.globals.size))::l).toArray w λe w'=>∃v,e=.returned v/\R v w')(X:Kept c)(P:cc aK aH gs (S6 (Frame.enter aK f (f' z::l).toArray .normal) (c::cs)) u t 0)(k:∀bm aC bh (ai:Ren) v g dI,R v dI->aQ ai v g->gm ai dI aC->(∀a b o,ai.r a b->bl.globals.size+5<=a->aC.heap[b]?=some o->bN A aH u aC [(true,b,o)])->ai.cells=oX bl->ai.exact=false->bN A aH u aC []->
  cc aK aH bm (S6 (c.finish g) cs) aC bh 0->S7 aK bF bm aC bh):S7 aK bF gs u t:=by
 have F:bN A aH aL u (iE z):=h.sub (λi own b o e=>⟨M.length+i,own,by rw[jb U];simpa using e⟩) (λi j own b o af C ae D E ag=>h.mem.fL (M.length+i) (M.length+j) own b o af C ae (by rw[jb U];simpa using D) (by rw[jb U];simpa using E) U);have H:iE z++([]:Mem)=iE z:=List.append_nil _;obtain⟨br,hu⟩:=Dn (V:=A' bl.globals.size++[]) (lim:=bl.globals.size) (M:=iE z++[]) (by rw[H];exact F) T;have q:pv (jh bl.globals.size z [] []):=Gw (λx p=>by simp[ft]at p);refine DN (K:=bl.K) bl.rv bl.H (λf h=>h) (λ_ _ _ h=>h) bl.o5 br (Gx br (λx p=>by simp[ft]at p)) S (HA (Gy br) Y) L (R:=R) (λw B _=>Q w (Gv B) (by rw[B,sw];rfl)) X hu h.ej (by have:=h.calm.size;show aK.globals.size<=_;omega) P ?_;intro bm aC bh ai v g dI G ad W d hrel r aa;exact k bm aC bh ai v g dI G ad W (λa b o J I Z=>LC q d hrel r J (by show bl.globals.size+5<=a;exact I) Z) d.le.cells d.le.exact (LB q d hrel r) aa
end
section
def q8{α:Type}{l:List α}{i:Nat}{x:α}(h:l[i]?=some x):i<l.length:=(List.getElem?_eq_some_iff.1 h).1
section
variable{Pos:Type}{A:de Pos}{u aL:World}{t:Trace}{gs:Array Goroutine}{x:bA}{n j:Nat}{p:Pos}{bF:Machine->Outcome->World->Trace->Prop}{base:List Frame}{aH:Nat->Prop}
def At.gS{n:Nat}{p:Pos}{x:bA}(h:At A n p x){f:FuncId}{α:Type}{cy:α->Value}{g:α->Pos}(he:Edge.call f args cy g∈A.cz p):Kept x.1:=by obtain⟨z,d,rfl⟩:=h;obtain⟨c,_⟩:=hK.mem d _ he;exact uu (B7 c)
def dK.gS(T:dn A.P A.ext)(z:∀p,A.dh p<=400)(h:dK A base aH aL gs u t p x (n+1) j){f:FuncId}{α:Type}{cy:α->Value}{g:α->Pos}(he:Edge.call f args cy g∈A.cz p)(k:∀gs u t (c:Frame) (cs:List Frame),Kept c->bN A aH aL u (A.mem p)->cc A.P aH gs (S6 (Frame.enter A.P f args .normal) (c::cs)) u t 0->
  (∀en bm aC bh (r:α),bN A en aL aC (A.mem (g r))->cc A.P en bm (S6 (c.finish (cy r)) cs) aC bh 0->∃x,dK A base en aL bm aC bh (g r) x n (A.dh (g r)))->S7 A.P bF gs u t):S7 A.P bF gs u t:=by
 refine h.quiet T λgs u t x a E l G i=>?_
 obtain rfl:n=a:=U;obtain⟨B,C⟩:=i.call T he;have w:=i.gS he;refine l.step λd=>⟨_,u.at d,#[],C true base .running none (u.at d),rfl,bg,(λe he=>by simp at he),λbm bh D q=>?_⟩
 exact k bm (u.at d) bh x.1 (x.2++base) w (E.at d) q (λen bm aC bh r F o=>⟨_,B r,z _,F,o⟩) D
def dK.jN(T:dn A.P A.ext)(h:dK A base aH aL gs u t p x (n+1) j){X:bA}{g:Pos}(he:Edge.join X g∈A.cz p)(k:∀gs u t,bN A aH aL u (A.mem p)->cc A.P aH gs (bW X base) u t 0->S7 A.P bF gs u t):S7 A.P bF gs u t:=by
 refine h.quiet T λgs u t x a f c i d=>?_
 obtain rfl:=d.jN he;exact k gs u t f c
def bN.mR(h:bN A aH aL u M)(k:bN A aH u aC b7):bN A aH aL aC (M++b7):=h.app (BC:=A) k (λ_ _ h=>h)
def bN.on(h:bN A aH aL u M)(k:bN A aH u aC []):bN A aH aL aC M:=(h.mR k).cast (List.append_nil M)
def bN.nil(h:bN A aH aL u M):bN A aH aL u []:=h.none
def bN.left(h:bN A aH aL u (M++b7)):bN A aH aL u M:=
 h.sub (λi own b o e=>⟨i,own,by rw[jz (q8 e)];exact e⟩) (λi j own b o p f l c d g=>h.mem.fL i j own b o p f l (by rw[jz (q8 c)];exact c) (by rw[jz (q8 d)];exact d) g)
end
variable{bF:Machine->Outcome->World->Trace->Prop}{aH:Nat->Prop}{aL u aC:World}{gs:Array Goroutine}{t:Trace}{base:List Frame}{kd:CallKind}{f:Nat->Value}
def Az{aC:World}(L:gm ai w aC){s n:Nat}{B:Value}(h:w.ownsRow m e s v n xs)(f:n≠0)(S:0<s)(V:∀x∈xs,Flat x)(T:aQ ai v B):
 ∃(g g' cap:Nat) (l:Array Value),ai.r g g'/\m<=g/\B=.slice (some ⟨g',0,none⟩) n cap/\aC.heap[g']?=some (.cells (xs.toArray++l) e (0,0)):=by
 obtain⟨X,⟨_,r⟩|⟨g,cap,cur,rfl,hm,H,I,W,Y,z⟩⟩:=h
 .exact absurd r f
 cases T with
 |ju _ _=>exact absurd rfl f
 |@slice a b h _ _=>
  obtain⟨g',off,spot⟩:=b;obtain⟨u,E,G⟩:=h;cases E;cases G;obtain⟨o,aa,j,C,R⟩:=L.obj g g' u;rw[H]at j;cases j;cases R with
  |@cells _ d _ _ q D F K=>
   have Z:cur.size<=d.size:=by rcases D with h|h<;>omega
   have hle:n*s<=cap*s:=Nat.mul_le_mul_right s I;have r:0<n*s:=Nat.mul_pos (Nat.pos_of_ne_zero f) S;have Q:q=(0,0):=w5 K U;refine⟨g,g',cap,(d.toList.drop (n*s)).toArray,u,hm,rfl,?_⟩;rw[C,Q];congr 2;apply Array.ext';rw[Array.toList_append,<-z];have hd:d.toList.take (n*s)=cur.toList.take (n*s):=by
    apply List.ext_getElem?;intro i;rw[List.getElem?_take,List.getElem?_take];split
    .rename_i M
     have J:i<cur.size:=U;have c:cur[i]?=some cur[i]:=fb J;have p:d[i]?=some d[i]:=fb U;have P:cur[i]∈xs:=by rw[<-z];refine hk (i:=i) ?_;rw[List.getElem?_take,if_pos M,Array.getElem?_toList,c]
     rw[Array.getElem?_toList,Array.getElem?_toList,c,p,(V _ P).eq (F i _ _ c p)]
    .rfl
   rw[<-hd];simp
def kE:eS:=⟨⟨0,0,0,0,0,0⟩,⟨0,0,#[]⟩,0,0,0,⟨0,0,#[]⟩,⟨0,0,#[]⟩⟩
def NZ(d:S8 kd)(g:bN (fZ kd) aH aL u [])(c:cc aK aH gs (bW (eE kd 0 f) base) u t 0)(k:∀gs u t,bN (fZ kd) aH aL u []->cc aK aH gs (bW (eE kd 1 (up f [(0,.bool false)])) base) u t 0->S7 aK bF gs u t):S7 aK bF gs u t:=by
 have b6:dK (fZ kd) base aH aL gs u t ⟨0,0,f,kE,[]⟩ (eE kd 0 f) 11 4:=⟨⟨_,Ng kd d f kE,rfl⟩,a6,g,c⟩
 exact b6.jN (gW kd) (.head _) k
def eH(h:∀v∈l,Flat v)(c:Flat v):∀x∈v::l,Flat x:=λx hx=>by
 rcases List.mem_cons.1 hx with rfl|hx
 .exact c
 .exact h x hx
def lG:∀v∈([]:List Value),Flat v:=λv c=>by simp at c
def GU(h:aQ ρ (.tuple #[x,y]) v):∃f g,v=.tuple #[f,g]/\aQ ρ x f/\aQ ρ y g:=by
 cases h with
 |@tuple _ b c d=>
  obtain⟨l⟩:=b;match l,c,d with
  | [f,g],_,d=>exact⟨f,g,rfl,d 0 _ _ rfl rfl,d 1 _ _ rfl rfl⟩
  | [],c,_=>simp at c
  | [_],c,_=>simp at c
  |_::_::_::_,c,_=>simp at c
def R1{z:Value}(h:aQ ρ (.tuple #[x,y,z]) v):∃f g i,v=.tuple #[f,g,i]/\aQ ρ x f/\aQ ρ y g/\aQ ρ z i:=by
 cases h with
 |@tuple _ b c d=>
  obtain⟨l⟩:=b;match l,c,d with
  | [f,g,i],_,d=>exact⟨f,g,i,rfl,d 0 _ _ rfl rfl,d 1 _ _ rfl rfl,d 2 _ _ rfl rfl⟩
  | [],c,_=>simp at c
  | [_],c,_=>simp at c
  | [_,_],c,_=>simp at c
  |_::_::_::_::_,c,_=>simp at c
def O7{d:List Int}(h:d.Perm [2,3,5,6]):(d.mergeSort (λx y=>decide (x<=y))).map encZ = [ah 2,ah 3,ah 5,ah 6]:=by
 have e:d.mergeSort (λx y=>decide (x<=y)) = [2,3,5,6]:=by refine List.Perm.eq_of_pairwise (le:=λx y=>decide (x<=y)=true) (λa b _ _ f g=>by simp at f g;omega) (List.pairwise_mergeSort (λa b c f g=>by simp at *;omega) (λa b=>cH) d) a6 ?_;exact(List.mergeSort_perm d _).trans h
 rw[e];rfl
def M'{dd:Nat}{s n:Nat}(h:w.ownsRow m e s v n xs)(hm:dd<=m):w.ownsRow dd e s v n xs:=by
 obtain⟨c,h|⟨g,cap,cur,d,i,f⟩⟩:=h
 .exact⟨c,.inl h⟩
 .exact⟨c,.inr ⟨g,cap,cur,d,U,f⟩⟩
def A2:Flat (.agg dC):=.agg (KO (.int _ _) (.int _ _) (.int _ _) (.int _ _) (.int _ _))
def N0(q:S8 kd)(p:aK.globals.size<=aL.heap.size)(C:bN (fZ kd) aH aL u [])(o:cc aK aH gs (bW (eE kd 1 f) base) u t 0)(k:∀gs u t z,bN (fZ kd) aH aL u []->cc aK aH gs (bW (eE kd 2 (up (up (up f [(19,f' z)]) [(20,.tuple #[ah 9,ah 0])]) [(18,.tuple #[ah 9,ah 0]),(21,ah 9),(22,ah 0),(1,ah 9),(2,ah 0)])) base) u t 0->S7 aK bF gs u t):S7 aK bF gs u t:=by
 have b6:dK (fZ kd) base aH aL gs u t ⟨1,0,f,kE,[]⟩ (eE kd 1 f) 11 400:=⟨⟨_,Nh kd q f kE,rfl⟩,a6,C,o⟩
 refine b6.gS (gW kd) (iC kd) (.head _) λgs u t c cs h d g back=>?_
 refine rB h d.ej g λgs u t z m i=>?_
 obtain⟨x,s1⟩:=back aH gs u t z (d.mR m.to) i;refine s1.gS (gW kd) (iC kd) (.head _) λgs u t c cs h d g back=>?_
 refine tg (M:=[]) (z:=z) d p (f:=16) mx av (l:=[ah 0,ah 20,ah 100]) (eH (eH (eH lG (.int _ _)) (.int _ _)) (.int _ _)) (R:=λv _=>v=.tuple #[ah 9,ah 0]) (λw B _=>?_) h g ?_
 .refine(Kx (A:=bl.list.toArray) fW qS (lN bl.globals.size) 0 a6 20 100 U U w B).mono ?_
  rintro e w' ⟨rfl,_⟩;rw[Ky];exact⟨_,rfl,rfl⟩
 intro gs u t ai v I dI j r G H E F D a4;subst j;obtain rfl:=Flat.eq (.tuple (qZ (.int _ _) (.int _ _))) r;obtain⟨x,s2⟩:=back aH gs u t () (d.nil.mR D) a4;exact s2.jN (gW kd) (.head _) (k · · · z)
def N1(F:S8 kd)(C:aK.globals.size<=aL.heap.size)(S:bN (fZ kd) aH aL u [])(r:cc aK aH gs (bW (eE kd 2 f) base) u t 0)(k:∀gs u t z s,bN (fZ kd) aH aL u [dr s]->cc aK aH gs (bW (eE kd 3 (up (up (up (up f [(24,f' z)]) [(25,.agg dC)]) [(26,s.td)]) [(23,s.td),(27,s.four),(28,ah 0),(3,s.four),(4,ah 0)])) base) u t 0->S7 aK bF gs u t):S7 aK bF gs u t:=by
 have b6:dK (fZ kd) base aH aL gs u t ⟨2,0,f,kE,[]⟩ (eE kd 2 f) 11 400:=⟨⟨_,Ni kd F f kE,rfl⟩,a6,S,r⟩
 refine b6.gS (gW kd) (iC kd) (.head _) λgs u t c cs i d h back=>?_
 refine rB i d.ej h λgs u t z m o=>?_
 obtain⟨x,s1⟩:=back aH gs u t z (d.mR m.to) o;refine s1.gS (gW kd) (iC kd) (.head _) λgs u t c cs i d h back=>?_
 refine uW i d.ej h λgs u t m o=>?_
 obtain⟨x,s2⟩:=back aH gs u t () (d.on m.to) o;refine s2.gS (gW kd) (iC kd) (.head _) λgs u t c cs i d h back=>?_
 refine tg (M:=[]) (z:=z) d C (f:=22) mx av (l:=[.agg dC]) (eH lG A2) (R:=λv w=>∃v0,v=.tuple #[v0,ah 0]/\w.ownsRow (bl.globals.size+5) 3 1 v0 4 [ah 2,ah 3,ah 5,ah 6]) (λw L W=>?_) i h ?_
 .refine(Ht (A:=bl.list.toArray) fW qS (lN bl.globals.size) w L jI xE).mono ?_
  rintro e w' ⟨v,Q,m,rfl,hp,hm,j,_⟩;rw[QO]at hp;refine⟨_,rfl,v,rfl,?_⟩;have p:Q.length=4:=hp.length_eq;rw[p,O7 hp]at j;exact M' j U
 intro gs u t ai v Y dI ⟨v0,q,j⟩ I E H T V X a4;subst q;obtain⟨Z,dS,rfl,J,K⟩:=GU I;obtain rfl:=Flat.eq (.int _ _) K;obtain⟨g,g',cap,l,D,G,rfl,B⟩:=Az E j a6 a6 (eH (eH (eH (eH lG (.int _ _)) (.int _ _)) (.int _ _)) (.int _ _)) J;obtain⟨x,P⟩:=back aH gs u t ⟨g',cap,l⟩ (d.nil.mR (H g g' _ D G B)) a4;exact P.jN (gW kd) (.head _) (k · · · z ⟨g',cap,l⟩)
def N2(B:S8 kd)(r:aK.globals.size<=aL.heap.size)(J:bN (fZ kd) aH aL u [dr s])(q:cc aK aH gs (bW (eE kd 3 f) base) u t 0)(k:∀gs u t z x y,bN (fZ kd) aH aL u [dr s,fB x,fC y]->cc aK aH gs (bW (eE kd 4 (up (up (up (up (up (up f [(30,f' z)]) [(31,.agg dC)]) [(32,.tuple #[.agg #[ah 24,ah 26],.agg #[ah 48,ah 50],ah 0])]) [(29,.tuple #[.agg #[ah 24,ah 26],.agg #[ah 48,ah 50],ah 0]),(33,.agg #[ah 24,ah 26]),(34,.agg #[ah 48,ah 50]),(35,ah 0),(5,pt x)]) [(6,pt y)]) [(7,ah 0)])) base) u t 0->S7 aK bF gs u t):S7 aK bF gs u t:=by
 have b6:dK (fZ kd) base aH aL gs u t ⟨3,0,f,{kE with s:=s},[dr s]⟩ (eE kd 3 f) 11 400:=⟨⟨_,Nj kd B f {kE with s:=s},rfl⟩,a6,J,q⟩
 refine b6.gS (gW kd) (iC kd) (.head _) λgs u t c cs h d g back=>?_
 refine rB h d.ej g λgs u t z m i=>?_
 obtain⟨x,s1⟩:=back aH gs u t z (d.mR m.to) i;refine s1.gS (gW kd) (iC kd) (.head _) λgs u t c cs h d g back=>?_
 refine uW h d.ej g λgs u t m i=>?_
 obtain⟨x,s2⟩:=back aH gs u t () (d.on m.to) i;refine s2.gS (gW kd) (iC kd) (.head _) λgs u t c cs h d g back=>?_
 refine tg (M:=[dr s]) (z:=z) d r (f:=24) mx av (l:=[.agg dC,ah 5]) (eH (eH lG (.int _ _)) A2) (R:=λv _=>v=.tuple #[.agg #[ah 24,ah 26],.agg #[ah 48,ah 50],ah 0]) (λw D _=>?_) h g ?_
 .refine(callsIn_wide.1 (K3 (A:=bl.list.toArray) fW qS (lN bl.globals.size) w D jI xE 5 U)).mono ?_
  rintro e w' ⟨rfl,_⟩;exact⟨_,rfl,K4⟩
 intro gs u t ai v T dI p C Q S L P K a4;subst p;obtain rfl:=Flat.eq (.tuple (C8 (.agg (qZ (.int _ _) (.int _ _))) (.agg (qZ (.int _ _) (.int _ _))) (.int _ _))) C;obtain⟨x,E⟩:=back aH gs u t () ((bN.left (M:=[dr s]) (b7:=iE z) d).on K) a4;refine E.new (gW kd) (iC kd) (.head _) λgs u t x o F=>?_
 refine F.new (gW kd) (iC kd) (.head _) λgs u t x j G=>?_
 refine G.bL (gW kd) (iC kd) (.head _) λgs u t x H=>?_
 refine H.bL (gW kd) (iC kd) (.head _) λgs u t x I=>?_
 exact I.jN (gW kd) (.head _) (k · · · z o j)
def N3(q:S8 kd)(p:aK.globals.size<=aL.heap.size){x y:Nat}(D:bN (fZ kd) aH aL u [dr s,fB x,fC y])(o:cc aK aH gs (bW (eE kd 4 f) base) u t 0)(k:∀gs u t z,bN (fZ kd) aH aL u [dr s,fB x,fC y]->cc aK aH gs (bW (eE kd 5 (up (up (up (up f [(37,f' z)]) [(38,.agg dC)]) [(39,.tuple #[ah 0,ah 2,ah 0])]) [(36,.tuple #[ah 0,ah 2,ah 0]),(40,ah 0),(41,ah 2),(42,ah 0),(8,ah 0),(9,ah 2),(10,ah 0)])) base) u t 0->S7 aK bF gs u t):S7 aK bF gs u t:=by
 have b6:dK (fZ kd) base aH aL gs u t ⟨4,0,f,{kE with s:=s,x:=x,y:=y},[dr s,fB x,fC y]⟩ (eE kd 4 f) 11 400:=⟨⟨_,Nk kd q f {kE with s:=s,x:=x,y:=y},rfl⟩,a6,D,o⟩
 refine b6.gS (gW kd) (iC kd) (.head _) λgs u t c cs h d g back=>?_
 refine rB h d.ej g λgs u t z m i=>?_
 obtain⟨_,s1⟩:=back aH gs u t z (d.mR m.to) i;refine s1.gS (gW kd) (iC kd) (.head _) λgs u t c cs h d g back=>?_
 refine uW h d.ej g λgs u t m i=>?_
 obtain⟨_,s2⟩:=back aH gs u t () (d.on m.to) i;refine s2.gS (gW kd) (iC kd) (.head _) λgs u t c cs h d g back=>?_
 refine tg (M:=[dr s,fB x,fC y]) (z:=z) d p (f:=25) mx av (l:=[.agg dC]) (eH lG A2) (R:=λv _=>v=.tuple #[ah 0,ah 2,ah 0]) (λw B _=>?_) h g ?_
 .refine(Hg (A:=bl.list.toArray) fW qS (lN bl.globals.size) w B jI xE).mono ?_
  rintro e w' ⟨rfl,_⟩;rw[HF];exact⟨_,rfl,rfl⟩
 intro gs u t ai v J dI j r H I F G E a4;subst j;obtain rfl:=Flat.eq (.tuple (C8 (.int _ _) (.int _ _) (.int _ _))) r;obtain⟨_,C⟩:=back aH gs u t () ((bN.left (M:=[dr s,fB x,fC y]) (b7:=iE z) d).on E) a4;exact C.jN (gW kd) (.head _) (k · · · z)
def N4(q:S8 kd)(p:aK.globals.size<=aL.heap.size){x y:Nat}(C:bN (fZ kd) aH aL u [dr s,fB x,fC y])(o:cc aK aH gs (bW (eE kd 5 f) base) u t 0)(k:∀gs u t z,bN (fZ kd) aH aL u [dr s,fB x,fC y]->cc aK aH gs (bW (eE kd 6 (up (up (up f [(44,f' z)]) [(45,.tuple #[ah 95,ah 0])]) [(43,.tuple #[ah 95,ah 0]),(46,ah 95),(47,ah 0),(11,ah 95),(12,ah 0)])) base) u t 0->S7 aK bF gs u t):S7 aK bF gs u t:=by
 have b6:dK (fZ kd) base aH aL gs u t ⟨5,0,f,{kE with s:=s,x:=x,y:=y},[dr s,fB x,fC y]⟩ (eE kd 5 f) 11 400:=⟨⟨_,Nl kd q f {kE with s:=s,x:=x,y:=y},rfl⟩,a6,C,o⟩
 refine b6.gS (gW kd) (iC kd) (.head _) λgs u t c cs h d g back=>?_
 refine rB h d.ej g λgs u t z m i=>?_
 obtain⟨_,s1⟩:=back aH gs u t z (d.mR m.to) i;refine s1.gS (gW kd) (iC kd) (.head _) λgs u t c cs h d g back=>?_
 refine tg (M:=[dr s,fB x,fC y]) (z:=z) d p (f:=26) mx av (l:=[ah 0,ah 20,ah 6]) (eH (eH (eH lG (.int _ _)) (.int _ _)) (.int _ _)) (R:=λv _=>v=.tuple #[ah 95,ah 0]) (λw B _=>?_) h g ?_
 .refine(RJ (A:=bl.list.toArray) fW qS (lN bl.globals.size) 0 a6 20 U 6 U a6 w B).mono ?_
  rintro e w' ⟨rfl,_⟩;exact⟨_,rfl,congrArg (λn:Nat=>Value.tuple #[ah n,ah 0]) RK⟩
 intro gs u t ai v I dI j r G H E F D a4;subst j;obtain rfl:=Flat.eq (.tuple (qZ (.int _ _) (.int _ _))) r;obtain⟨_,s2⟩:=back aH gs u t () ((bN.left (M:=[dr s,fB x,fC y]) (b7:=iE z) d).on D) a4;exact s2.jN (gW kd) (.head _) (k · · · z)
def N6(G:S8 kd)(D:aK.globals.size<=aL.heap.size){p:e4}{x y:Nat}(V:bN (fZ kd) aH aL u [dr s,fB x,fC y,lE p])(B:cc aK aH gs (bW (eE kd 7 f) base) u t 0)(k:∀gs u t z q,bN (fZ kd) aH aL u [dr s,fB x,fC y,lE p,y5 q]->cc aK aH gs (bW (eE kd 8 (up (up (up f [(57,f' z)]) [(58,q.sa)]) [(56,q.sa),(59,q.two),(60,ah 5),(61,ah 0),(15,q.two),(16,ah 5),(17,ah 0)])) base) u t 0->S7 aK bF gs u t):S7 aK bF gs u t:=by
 have b6:dK (fZ kd) base aH aL gs u t ⟨7,0,f,{kE with s:=s,x:=x,y:=y,p:=p},[dr s,fB x,fC y,lE p]⟩ (eE kd 7 f) 11 400:=⟨⟨_,Nn kd G f {kE with s:=s,x:=x,y:=y,p:=p},rfl⟩,a6,V,B⟩
 refine b6.gS (gW kd) (iC kd) (.head _) λgs u t c cs j d i back=>?_
 refine rB j d.ej i λgs u t z m o=>?_
 obtain⟨_,s1⟩:=back aH gs u t z (d.mR m.to) o;refine s1.gS (gW kd) (iC kd) (.head _) λgs u t c cs j d i back=>?_
 refine tg (M:=[dr s,fB x,fC y,lE p]) (z:=z) d D (f:=28) mx av (l:=[ah 0,ah 20,ah 60,ah 2]) (eH (eH (eH (eH lG (.int _ _)) (.int _ _)) (.int _ _)) (.int _ _)) (R:=λv w=>∃v0,v=.tuple #[v0,ah 5,ah 0]/\w.ownsRow (bl.globals.size+5) 67 2 v0 2 [ah 20,ah 46,ah 48,ah 60]) (λw Q S=>?_) j i ?_
 .refine(Iz (A:=bl.list.toArray) fW qS (lN bl.globals.size) 0 a6 20 60 U U 2 U w Q).mono ?_
  rintro e w' ⟨v,rfl,h,_⟩;rw[Ci.2]at h;rw[Ci.1];refine⟨_,rfl,v,rfl,?_⟩;rw[<-S];exact h
 intro gs u t ai v Z dI ⟨v0,r,h⟩ J F I W X Y a4;subst r;obtain⟨aa,dS,ad,rfl,K,L,P⟩:=R1 J;obtain rfl:=Flat.eq (.int _ _) L;obtain rfl:=Flat.eq (.int _ _) P;obtain⟨g,g',cap,l,E,H,rfl,C⟩:=Az F h a6 a6 (eH (eH (eH (eH lG (.int _ _)) (.int _ _)) (.int _ _)) (.int _ _)) K;obtain⟨_,T⟩:=back aH gs u t ⟨g',cap,l⟩ ((bN.left (M:=[dr s,fB x,fC y,lE p]) (b7:=iE z) d).mR (I g g' _ E H C)) a4;exact T.jN (gW kd) (.head _) (k · · · z ⟨g',cap,l⟩)
end
end Go.aO
namespace Go.aO
attribute [-simp] Go.Sem.runT_eq
open Go.Proofs Go.Conc Go.ConcN
section
def nS(O:Nat)(r s:e4):Bool×Nat×Obj:=(true,O,.cells #[r.four,s.four] 22 (0,0))
def sf(m:Nat)(es:Array MapEntry)(c:Nat):Bool×Nat×Obj:=(true,m,.map es c)
def se(li O m:Nat):Bool×Nat×Obj:=(true,li,.cells #[sl O 2,dg,.map (some m)] 176 (0,0))
structure vw where
 z:eG
 s:e4
 x:Nat
 y:Nat
 L:Nat
 T:Nat
 O:Nat
 r0:e4
 r1:e4
 m:Nat
 es:Array MapEntry
 fO:Nat
 li:Nat
 out:Nat
 p:e4
structure yz where
 l:Nat
 d:vw
 M:Mem
def mq(T:Nat)(z:eG):Bool×Nat×Obj:=(true,T,.cells (eN z 0 0 false false) 100 (0,0))
def xN(d:vw):Mem:=[dr d.s,fB d.x,fC d.y]++iE d.z++[(true,d.L,hf)]
noncomputable def Pb:yz->List (Edge yz)
 |⟨0,d,M⟩=>[.new true (.cells #[ah 2,sl d.z.F 2,sl d.z.R 2,sl d.z.Fr 1] 25 (0,0)) λb=>⟨1,d,M++[(true,b,.cells #[ah 2,sl d.z.F 2,sl d.z.R 2,sl d.z.Fr 1] 25 (0,0))]⟩]
 |⟨1,d,M⟩=>[.bL [.ld 9 0,.ld 9 1,.ld 9 2,.ld 9 3] ⟨2,d,c0 M [.ld 9 0,.ld 9 1,.ld 9 2,.ld 9 3]⟩]
 |⟨2,d,_⟩=>[.call 62 #[f' d.z,sl d.L 2,ah 8] (λT:Nat=>.tuple #[pt T,ah 0]) λT=>⟨3,{d with T:=T},xN d++[mq T d.z]⟩]
 |⟨3,d,_⟩=>[.call 79 #[pt d.T,.slice (some (box d.L)) 2 2] (λo:Nat×e4×e4=>.slice (some (box o.1)) 2 2) λo=>⟨4,{d with O:=o.1,r0:=o.2.1,r1:=o.2.2},[dr d.s,fB d.x,fC d.y,dr o.2.1,dr o.2.2,nS o.1 o.2.1 o.2.2]⟩]
 |⟨4,d,M⟩=>[.new true (.map #[] 0) λm=>⟨5,{d with m:=m},M++[sf m #[] 0]⟩]
 |⟨5,d,M⟩=>[.new true (.cells #[sl d.O 2,dg,.map (some d.m)] 176 (0,0)) λb=>⟨6,{d with li:=b},M++[se b d.O d.m]⟩]
 |⟨6,d,_⟩=>[.call 64 #[pt d.li,.agg #[ah 0,ah 8]] (λ_:Array MapEntry×Nat=>ah 4) λe=>⟨7,{d with es:=e.1,fO:=e.2},[dr d.s,fB d.x,fC d.y,dr d.r0,dr d.r1,nS d.O d.r0 d.r1,se d.li d.O d.m,sf d.m e.1 e.2]⟩]
 |⟨7,d,M⟩=>[.new true (.cells #[dg] 22 (0,0)) λb=>⟨8,{d with out:=b},M++[(true,b,.cells #[dg] 22 (0,0))]⟩]
 |⟨8,d,_⟩=>[.call 65 #[pt d.li,.agg #[ah 0,ah 8],.func (.func 66) #[] #[pt d.out]] (λ_:e4=>.bool true) λp=>⟨9,{d with p:=p},[dr d.s,fB d.x,fC d.y,lE p,(true,d.out,.cells #[p.two] 22 (0,0))]⟩]
 |⟨9,d,M⟩=>[.bL [.ld 4 0] ⟨10,d,c0 M [.ld 4 0]⟩]
 |⟨10,d,_⟩=>[.leave d.p.qi]
 |_=>[]
def Lz(f:FuncId):Bool:=[62,79,64,65].any (· == f)
noncomputable def og:de yz:=⟨Tryz.prog,hv,Lz,.normal,λp=>p.M,λ_=>400,Pb⟩
def nJ:dn og.P og.ext:=by unfold og;exact j8
set_option maxHeartbeats 4000000
set_option maxRecDepth 100000
def Pd(d:vw):Good og 12 ⟨0,d,xN d⟩ (Frame.enter Tryz.prog 27 #[f' d.z,sl d.L 2,ah 8] .normal,[]):=by all_goals repeat' (first|exact trivial|kernel_rfl|refine⟨?_,?_⟩|refine λ(_:Nat)=>?_|refine λ(_:e4)=>?_|refine λ(_:Nat×e4×e4)=>?_|refine λ(_:Array MapEntry×Nat)=>?_|intro _)
end
end Go.aO
namespace Go.aO
attribute [-simp] Go.Sem.runT_eq
open Go.ConcM (OsLater)
open Go.Proofs Go.Conc Go.ConcN
variable{y:Bool×Nat×Obj}{f:FuncId}{base:List Frame}{T:List Nat}{M b7:Mem}{L O g li m:Nat}{h:Nat->Value}{x:Nat×Obj×Obj}{Q:Program}{ai ρ:Ren}{e:TypeId}{w:World}{r0 r1:e4}{z:eG}{d:eS}{bn:iG}
section
section
variable{Pos m3:Type}{A:de Pos}{kv:de m3}{u aC aL:World}{aH en:Nat->Prop}
def bN.swap{X:Mem}(h:bN A aH aL u (M++X))(calm:Calm u aC)(old:∀b,b<u.heap.size->(∀(i:Nat) own o,X[i]?≠some (own,b,o))->aC.heap[b]?=u.heap[b]?)(new:gN b7 aC)(C:∀(i:Nat) own b o,b7[i]?=some (own,b,o)->(u.heap.size<=b\/∃(j:Nat) (d:Bool) (c:Obj),X[j]?=some (d,b,c))/\¬en b)(I:∀b,en b->b<aC.heap.size)(H:∀b,b<u.heap.size->en b->aH b):bN kv en aL aC (M++b7):=by
 have p:∀(i:Nat) own b o,M[i]?=some (own,b,o)->(M++X)[i]?=some (own,b,o):=λi own b o e=>by rw[jz (q8 e)];exact e
 have w:∀(i:Nat) own b o,X[i]?=some (own,b,o)->(M++X)[M.length+i]?=some (own,b,o):=λi own b o e=>by rw[jb U];simpa using e
 have cs:∀(i:Nat) own b o,(M++b7)[i]?=some (own,b,o)->(i<M.length/\M[i]?=some (own,b,o))\/(M.length<=i/\b7[i-M.length]?=some (own,b,o)):=λi own b o e=>by
  rcases Nat.lt_or_ge i M.length with ad|ad
  .rw[jz ad]at e;exact .inl ⟨ad,e⟩
  .rw[jb ad]at e;exact .inr ⟨ad,e⟩
 have lt:∀(i:Nat) own b o,M[i]?=some (own,b,o)->b<u.heap.size:=λi own b o e=>gL h.mem (p i own b o e)
 have off:∀(i:Nat) own b o,M[i]?=some (own,b,o)->∀(j:Nat) d c,X[j]?≠some (d,b,c):=λi own b o e j d c r=>
  h.mem.fL i (M.length+j) own b o d b c (p i own b o e) (w j d b c r) (by have:=q8 e;omega) rfl
 have apart:∀(i:Nat) own b o,M[i]?=some (own,b,o)->∀(j:Nat) d q c,b7[j]?=some (d,q,c)->b≠q:=λi own b o e j d q c r=>by
  rintro rfl;rcases(C j d b c r).1 with l|⟨bw,B,z,l⟩
  .have:=lt i own b o e;omega
  .exact off i own b o e bw B z l
 refine⟨⟨λi own b o e=>?_,λi j own b o d q c f g F=>?_⟩,λb E=>?_,h.calm.trans calm,λi own b o e=>?_,I⟩
 .rcases cs i own b o e with⟨_,e⟩|⟨_,e⟩
  .exact(old b (lt i own b o e) (off i own b o e)).trans (h.mem.has i own b o (p i own b o e))
  .exact new.has _ own b o e
 .rcases cs i own b o f with⟨l,f⟩|⟨l,f⟩<;>rcases cs j d q c g with⟨D,g⟩|⟨D,g⟩
  .exact h.mem.fL i j _ _ _ _ _ _ (p _ _ _ _ f) (p _ _ _ _ g) F
  .exact apart _ _ _ _ f _ _ _ _ g
  .exact(apart _ _ _ _ g _ _ _ _ f).symm
  .exact new.fL _ _ _ _ _ _ _ _ f g U
 .have:=h.calm.size
  refine(old b U λi own o e=>?_).trans (h.old b E);have:=(h.fi _ _ _ _ (w i own b o e)).1;omega
 .rcases cs i own b o e with⟨_,e⟩|⟨_,e⟩
  .have:=h.fi _ _ _ _ (p _ _ _ _ e)
   exact⟨this.1,λG=>this.2 (H b (lt i own b o e) G)⟩
  .have t:=C _ own b o e
   refine⟨?_,t.2⟩;rcases t.1 with l|⟨bw,B,z,l⟩
   .have:=h.calm.size;omega
   .exact(h.fi _ _ _ _ (w _ _ _ _ l)).1
def bN.right(h:bN A aH aL u (M++b7)):bN A aH aL u b7:=
 h.sub (λi own b o e=>⟨M.length+i,own,by rw[jb U];simpa using e⟩) (λi j own b o l c g d f p=>h.mem.fL (M.length+i) (M.length+j) own b o l c g (by rw[jb U];simpa using d) (by rw[jb U];simpa using f) U)
def Ro(calm:Calm u aC)(low:∀b,aH b->b<aC.heap.size)(keep:∀b,b<u.heap.size->aC.heap[b]?=u.heap[b]?){b:Nat}(h:u.heap.size<=b/\¬aH b){o:Obj}(l:aC.heap[b]?=some o):bN A aH u aC [(true,b,o)]:=by
 refine⟨⟨λi own c f e=>?_,λi j own c f w p r d g q=>?_⟩,keep,calm,λi own c f e=>?_,low⟩
 .rcases i with _|i
  .simp at e;obtain⟨rfl,rfl,rfl⟩:=e;exact l
  .simp at e
 .rcases i with _|i<;>rcases j with _|j
  .omega
  .simp at g
  .simp at d
  .simp at d
 .rcases i with _|i
  .simp at e;obtain⟨rfl,rfl,rfl⟩:=e;exact h
  .simp at e
end
def tA(ai:Ren)(x y:Value):Prop:=∀c,aQ ai x c->c=y
def Flat.only{v:Value}(h:Flat v):tA ai v v:=λ_ k=>h.eq k
def AJ{a b:Nat}(h:ai.r a b)(n c:Nat):tA ai (.slice (some ⟨a,0,none⟩) n c) (.slice (some ⟨b,0,none⟩) n c):=λr k=>by
 cases k with
 |ju _ p=>exact absurd p aF
 |@slice _ d g _ _=>
  obtain⟨f,q,s1⟩:=d;obtain⟨i,j,l⟩:=g;cases j;cases l;have o:f=b:=ai.fwd i h;subst o;rfl
def En{ai:Ren}:∀{xs ys:List Value},cK (tA ai) xs ys->∀{d:List Value},d.length=xs.length->(∀(i:Nat) x y,xs[i]?=some x->d[i]?=some y->aQ ai x y)->d=ys
 |_,_,.nil,d,hd,_=>by simpa using hd
 |_,_,.cons h t,[],hd,_=>by simp at hd
 |_,_,.cons h t,y::d,hd,c=>by rw[h y (c 0 _ _ rfl rfl),En t (by simpa using hd) λi x y f g=>c (i+1) x y f g]
def Ix{aC:World}(u:gm ai w aC){a b:Nat}(h:ai.r a b){xs ys:List Value}(p:w.heap[a]?=some (.cells xs.toArray e (0,0)))(G:ai.cells e<=xs.length)(g:0<xs.length)(z:cK (tA ai) xs ys):aC.heap[b]?=some (.cells ys.toArray e (0,0)):=by
 obtain⟨o,H,c,f,C⟩:=u.obj a b h;rw[p]at c;cases c;cases C with
 |@cells _ d _ _ q j l r=>
  have B:q=(0,0):=w5 r (by simpa using g);have D:d.size=xs.length:=by
   rcases j with h|h
   .rw[<-h];simp
   .have:=h.2;simp at this;omega
  rw[f,B];congr 2;apply Array.ext';rw[List.toList_toArray];exact En z (by rw[Array.length_toList];exact D) λi x y E F=>l i x y (by rw[List.getElem?_toArray];exact E) (by rw[<-Array.getElem?_toList];exact F)
variable{bF:Machine->Outcome->World->Trace->Prop}{aH:Nat->Prop}{aL u aC:World}{gs:Array Goroutine}{t:Trace}{c:Frame}{cs:List Frame}
def wK{Pos:Type}{A:de Pos}(h:bN A aH aL u M)(F:aK.globals.size<=aL.heap.size)(V:List Obj)(J:∀br:iX bl.globals.size (ft M V),yw (ho bl (ft M V) br) (ft M V))(E:¬bl.K.fn f)(r:eK bl f=none){a b:Array Value}(j:∀br:iX bl.globals.size (ft M V),bQ (ho bl (ft M V) br) a b){R:Value->World->Prop}(D:∀w:World,w.heap=(h9 bl.globals.size (ft M V)).heap->Calls bl f a w λe w'=>∃v,e=.returned v/\R v w')(H:Kept c)(z:cc aK aH gs (S6 (Frame.enter aK f b .normal) (c::cs)) u t 0)(k:∀bm aC bh (ai:Ren) v l dI,R v dI->aQ ai v l->gm ai dI aC->(∀(i:Nat) x,(ft M V)[i]?=some x->ai.r (bl.globals.size+i) x.1)->ai.cells=oX bl->Calm u aC->(∀b,aH b->b<aC.heap.size)->
  (∀b,b<u.heap.size->(∀(i:Nat) x,(ft M V)[i]?=some x->x.1=b->∃c e,x.2.1=cr c e)->aC.heap[b]?=u.heap[b]?)->(∀a b,ai.r a b->bl.globals.size+(ft M V).length<=a->u.heap.size<=b/\¬aH b)->
  cc aK aH bm (S6 (c.finish l) cs) aC bh 0->S7 aK bF bm aC bh):S7 aK bF gs u t:=by
 obtain⟨br,hu⟩:=Dn (V:=V) (lim:=bl.globals.size) (M:=M) h F;refine DN (K:=bl.K) bl.rv bl.H (λf h=>h) (λ_ _ _ h=>h) bl.o5 br (J br) E (j br) r (R:=R) (λw Q _=>D w Q) H hu h.ej (by have:=h.calm.size;show aK.globals.size<=_;omega) z ?_;intro bm aC bh ai v l dI q P G g hrel I L;refine k bm aC bh ai v l dI q P G (λi x e=>g.le.sub _ _ (uo e)) g.le.cells (ze g) I (λb B S=>?_) (λa b j d=>⟨C0 g j d,hrel a b j⟩) L;by_cases o:∃a,(ho bl (ft M V) br).r a b
 .obtain⟨a,d⟩:=o
  refine(g.guard a b d ?_).2;obtain⟨i,x,e,rfl,rfl⟩:=d;obtain⟨c,p,C⟩:=S i x e rfl;exact⟨c,p,c.size,by rw[lI e,C];rfl,bg⟩
 .exact g.out b B λa d=>o ⟨a,d⟩
def l8:List Value:=[ah 0,ah 20,ah 26,ah 46,ah 50,ah 0,ah 20,ah 26,ah 46,ah 50]
def C'{l:List Value}(h:∀v∈l,Flat v):bQ ρ l.toArray l.toArray:=⟨rfl,λi a b c d=>by rw[c]at d;cases d;rw[List.getElem?_toArray]at c;exact(h a (hk c)).rel⟩
def Qk:∀v∈l8,Flat v:=eH (eH (eH (eH (eH (eH (eH (eH (eH (eH lG (.int _ _)) (.int _ _)) (.int _ _)) (.int _ _)) (.int _ _)) (.int _ _)) (.int _ _)) (.int _ _)) (.int _ _)) (.int _ _)
def x2{x y z:Value}{R:Value->Value->Prop}{f g h:Value}(j:R x f)(l:R y g)(o:R z h):gb R #[x,y,z] #[f,g,h]:=⟨rfl,λi a b c d=>by
 rcases i with _|_|_|i
 .simp at c d;subst c;subst d;exact j
 .simp at c d;subst c;subst d;exact l
 .simp at c d;subst c;subst d;exact o
 .simp at c⟩
def Qw{b:Nat}(d:w.heap[b]?=some (cr l8.toArray 31)):qG w b 0 2 λ_=>jI:=by
 refine⟨λi c=>?_,λi c=>?_,λi c=>?_,λi c=>?_,λi c=>?_⟩
 .have:=aU (o:=0+i*5) d
  rcases kt c with rfl|rfl<;>exact this
 .have:=aU (o:=0+i*5+1) d
  rcases kt c with rfl|rfl<;>exact this
 .have:=aU (o:=0+i*5+2) d
  rcases kt c with rfl|rfl<;>exact this
 .have:=aU (o:=0+i*5+3) d
  rcases kt c with rfl|rfl<;>exact this
 .have:=aU (o:=0+i*5+4) d
  rcases kt c with rfl|rfl<;>exact this
end
section
variable{bF:Machine->Outcome->World->Trace->Prop}{aH:Nat->Prop}{aL u aC:World}{gs:Array Goroutine}{t:Trace}{c:Frame}{cs:List Frame}{Pos:Type}{A:de Pos}
def u5(z:eG):List Value:=[ah 2,sl z.F 2,sl z.R 2,sl z.Fr 1,.int .u32 0,.int .i32 0,.int .u32 0,.int .u32 0,.int .i32 0,.int .u32 0,.int .u32 0,.int .i32 0,.int .u32 0,ah 0,ah 0,ah 0,ah 0,ah 0,ah 0,ah 0,ah 0,ah 0,ah 0,ah 0,ah 0,ah 0,ah 0,ah 0]
def Q8(z:eG):eN z 0 0 false false=(u5 z).toArray:=av
def Rk:nD fW (lN bl.globals.size)=(u5 ⟨0,bl.globals.size,bl.globals.size+3,0,0,bl.globals.size+4⟩).toArray:=av
def It:oX bl 100=28:=av
def Iu:oX bl 22=1:=av
def Q9{c:eG}(hF:ai.r z.F c.F)(f:ai.r z.R c.R)(d:ai.r z.Fr c.Fr):cK (tA ai) (u5 z) (u5 c):=by refine .cons (Flat.only (.int _ _)) (.cons (AJ hF _ _) (.cons (AJ f _ _) (.cons (AJ d _ _) ?_)));repeat' first|exact .nil|refine .cons (Flat.only (.int _ _)) ?_
def MR(h:bN A aH aL u (M++(iE z++[(true,L,hf)])))(C:aK.globals.size<=aL.heap.size)(Q:Kept c)(I:cc aK aH gs (S6 (Frame.enter aK 62 #[f' z,sl L 2,ah 8] .normal) (c::cs)) u t 0)(k:∀bm aC bh T,bN A aH aL aC (M++(iE z++[(true,L,hf)])++[mq T z])->aK.globals.size<=T->cc aK aH bm (S6 (c.finish (.tuple #[pt T,ah 0])) cs) aC bh 0->S7 aK bF bm aC bh):S7 aK bF gs u t:=by
 have E:∀x∈ft [(true,L,hf)] [cr l8.toArray 31],x=(L,cr l8.toArray 31,hf):=λx g=>by simpa [ft]using g
 have K:pv (jh bl.globals.size z [(true,L,hf)] [cr l8.toArray 31]):=Gw λx g=>⟨l8.toArray,31,by rw[E x g]⟩
 refine wK h.right C (A' bl.globals.size++[cr l8.toArray 31]) (λbr=>Gx (M:=[(true,L,hf)]) (V:=[cr l8.toArray 31]) br λx g=>?_) (f:=62) mx av
  (a:=#[.agg (dv fW (lN bl.globals.size)),sl (bl.globals.size+5) 2,ah 8]) (λbr=>x2 (Gy (M:=[(true,L,hf)]) (V:=[cr l8.toArray 31]) br) (qh (bn:=jh bl.globals.size z [(true,L,hf)] [cr l8.toArray 31]) (br:=br) 5 rfl 2) (.int _ _))
  (R:=λv w=>∃T,v=.tuple #[pt T,ah 0]/\bl.globals.size+6<=T/\w.heap[T]?=some (.cells (nD fW (lN bl.globals.size)) 100 (0,0))) (λw p=>?_) Q I ?_
 .rw[E x g]
  exact nZ rfl (C' Qk)
 .have d:w.heap[bl.globals.size+5]?=some (cr l8.toArray 31):=by rw[p];exact lI (bn:=jh bl.globals.size z [(true,L,hf)] [cr l8.toArray 31]) (i:=5) rfl
  have aa:w.heap.size=bl.globals.size+6:=by rw[p,sw];rfl
  refine(Eo (A:=bl.list.toArray) fW qS (lN bl.globals.size) w (Gv (M:=[(true,L,hf)]) (V:=[cr l8.toArray 31]) p) (bl.globals.size+5) 0 2 2 U (λ_=>jI) (Qw d) (λ_ _=>xE) 8 U).mono ?_;rintro e w' ⟨T,rfl,r,j,_⟩;exact⟨_,rfl,T,rfl,U,j⟩
 intro bm aC bh ai v ad dI ⟨T,X,r,d⟩ W P l J calm low keep fresh F;subst X;obtain⟨ae,dS,rfl,Y,Z⟩:=GU W;obtain rfl:=Flat.eq (.int _ _) Z;cases Y with
 |@ptr _ b j=>
  obtain⟨b,o,s⟩:=b;obtain⟨q,G,H⟩:=j;cases G;cases H;rw[Rk]at d;have D:=Ix P q (ys:=u5 z) d (by rw[J,It];exact bg) a6 (Q9 (l 0 _ rfl) (l 3 _ rfl) (l 4 _ rfl));rw[<-Q8]at D;have B:=fresh _ _ q (by show bl.globals.size+6<=T;exact r);have S:=h.calm.size;refine k bm aC bh b (h.mR (Ro calm low (λb d=>keep b d λi x e _=>K x (hk e)) B D)) (cL (cL C S) B.1) F
def LG{T:Nat}(h:bN A aH aL u (M++(iE z++[(true,L,hf)]++[mq T z])))(ak:aK.globals.size<=aL.heap.size)(q:aK.globals.size<=T)(Y:Kept c)(W:cc aK aH gs (S6 (Frame.enter aK 79 #[pt T,.slice (some (box L)) 2 2] .normal) (c::cs)) u t 0)(k:∀en bm aC bh O r0 r1,(∀b,aH b->en b)->(∀b,en b->aH b\/u.heap.size<=b)->bN A en aL aC (M++[dr r0,dr r1,nS O r0 r1])->cc aK en bm (S6 (c.finish (.slice (some (box O)) 2 2)) cs) aC bh 0->S7 aK bF bm aC bh):S7 aK bF gs u t:=by
 have l:=h.right;have f:∀(i:Nat) b o,(iE z++[(true,L,hf)]++[mq T z])[i]?=some (true,b,o)->u.heap[b]?=some o/\¬aH b:=λi b o e=>⟨l.mem.has i true b o e,(l.fi i true b o e).2⟩
 have X:yj {z with T:=T} L aH u:=by have B:=f 0 _ _ rfl;have E:=f 1 _ _ rfl;have F:=f 2 _ _ rfl;have G:=f 3 _ _ rfl;have C:=f 4 _ _ rfl;have D:=f 5 _ _ rfl;have mq:=f 6 _ _ rfl;refine⟨mq.1,B.1,G.1,E.1,F.1,C.1,D.1,h.ej,⟨mq.2,B.2,G.2,E.2,F.2,C.2,D.2⟩,q,?_⟩;have:=(l.fi 0 true z.F _ rfl).1;show aK.globals.size<=z.F;omega
 refine λsl=>Hy (Ba T q) (z:={z with T:=T}) (λb e=>Rc T q b e) Y (.inl rfl) X W ?_ sl
 intro Z ae g bm aC bh r aY hd aa;obtain⟨af,bx,_⟩:=hd.res false;obtain⟨ag,K,_⟩:=hd.res true;obtain⟨H,w,ao,I,ah,ai,J⟩:=hd.new;rw[g]at H w ah;have p:=hd.calm;rw[g]at p;have am:=p.size;have V:Z.z.T=T:=by rw[ae]
 refine k (λb=>aH b\/b=Z.W) bm aC bh Z.O ⟨(r false).1,(r false).2,af⟩ ⟨(r true).1,(r true).2,ag⟩ (λb d=>.inl d) (λb d=>d.imp id λe=>U) ?_ aa;have low:∀b,aH b->b<u.heap.size:=h.ej;refine h.swap p (λb d ad=>?_) ⟨λi own b o e=>?_,λi j own b o aq aj ap P Q al=>?_⟩ (λi own b o e=>?_) (λb d=>?_) (λb d h=>h.elim id λe=>U)
 .have:=hd.old b (by rw[g];exact d) (by rw[V];rintro rfl;exact ad 6 true _ rfl)
  rw[this,g]
 .rcases i with _|_|_|i
  .simp[dr]at e;obtain⟨rfl,rfl,rfl⟩:=e;exact bx
  .simp[dr]at e;obtain⟨rfl,rfl,rfl⟩:=e;exact K
  .simp[nS]at e;obtain⟨rfl,rfl,rfl⟩:=e;exact hd.O
  .simp at e
 .have f0:=I false
  have f1:=I true;rcases i with _|_|_|i<;>rcases j with _|_|_|j<;>simp[dr,nS]at P Q<;>omega
 .have f0:=w false
  have f1:=w true;have R:=J false;have S:=J true;rcases i with _|_|_|i<;>simp[dr,nS]at e
  .obtain⟨_,rfl,_⟩:=e;exact⟨.inl f0,λh=>h.elim (λh=>by have:=low _ h;omega) R⟩
  .obtain⟨_,rfl,_⟩:=e;exact⟨.inl f1,λh=>h.elim (λh=>by have:=low _ h;omega) S⟩
  .obtain⟨_,rfl,_⟩:=e;exact⟨.inl H,λh=>h.elim (λh=>by have:=low _ h;omega) (λe=>ai e.symm)⟩
 .rcases d with d|rfl
  .have:=low b d;omega
  .exact hd.G8
def sI(j:Nat):Int:=match j with|0=>2|1=>3|2=>5|_=>6
def mm:h1:=⟨2,λ_=>4,λ_=>sI⟩
def CB:mm.ok:=⟨a6,λ_ _=>(by decide:(4:Nat)<=200),λi _ j _=>by show 0<=sI j/\sI j<=1000000;unfold sI;split<;>decide⟩
def n4(g bx c:Nat):jL:=⟨g+2,0,2,λi=>match i with|0=>g|_=>g+1,λ_=>0,λi=>match i with|0=>bx|_=>c⟩
def R4:hg mm 2 8=4:=av
def Iv:4<oX bl 3:=by refine gu ?_ (Nat.le_max_right _ _);rw[if_pos (.inl rfl)];omega
def jd:Array Value:=#[ah 2,ah 3,ah 5,ah 6]
def xc{b:Nat}(h:w.heap[b]?=some (cr jd 3)):gn w b 0 4 sI:=by
 intro k c;have:=aU (o:=0+k) h;rcases k with _|_|_|_|k
 .exact this
 .exact this
 .exact this
 .exact this
 .omega
def MD(he:ρ.exact=false)(f:ρ.cells=oX bl)(l:Array Value):eZ ρ (cr jd 3) (.cells (#[ah 2,ah 3,ah 5,ah 6]++l) 3 (0,0)):=by
 refine .cells ?_ (λi x y c d=>?_) (.inr ⟨he,rfl,bg,Nat.zero_le _⟩)
 .rcases Nat.eq_zero_or_pos l.size with h|h
  .exact .inl (by simp[jd,h])
  .refine .inr ⟨by simp[jd];omega,?_⟩
   rw[f];exact Iv
 .have g:i<4:=bu c
  rw[Array.getElem?_append_left (by simpa using g)]at d;have:x=y:=bD (c.symm.trans d);subst this;have hm:x∈[ah 2,ah 3,ah 5,ah 6]:=by refine hk (i:=i) ?_;rw[<-c,<-Array.getElem?_toList];rfl
  exact(eH (eH (eH (eH lG (.int _ _)) (.int _ _)) (.int _ _)) (.int _ _) x hm).rel
def xd(he:ρ.exact=false)(o:ρ.cells=oX bl)(l:Array Value):nM (cr jd 3)/\eZ ρ (cr jd 3) (.cells (#[ah 2,ah 3,ah 5,ah 6]++l) 3 (0,0))/\∀bp d f c g h,cr jd 3=.cells bp d f->Obj.cells (#[ah 2,ah 3,ah 5,ah 6]++l) 3 (0,0)=.cells c g h->bp.size<=c.size:=by refine⟨trivial,MD he o l,λbp d f c g h i j=>?_⟩;cases i;cases j;simp[jd]
def vo(es:Array MapEntry):Prop:=∀e∈es.toList,Flat e.key/\Flat e.val
def Kj{es:Array MapEntry}(h:vo es):gb (eR ρ) es es:=⟨rfl,λi x y c d=>by rw[c]at d;cases d;have:=h x (hk (by rw[Array.getElem?_toList];exact c));exact⟨this.1.rel,this.2.rel,rfl⟩⟩
def Kf{es ba:Array MapEntry}(h:vo es)(k:gb (eR ρ) es ba):ba=es:=by apply Array.ext k.1.symm;intro i j l;have d:es[i]?=some es[i]:=fb l;have g:ba[i]?=some ba[i]:=fb j;have r:=k.2 i _ _ d g;have f:=h es[i] (hk (by rw[Array.getElem?_toList];exact d));have a:=f.1.eq r.key;have b:=f.2.eq r.val;have c:=r.born;generalize es[i]=x at *;generalize ba[i]=y at *;obtain⟨_,_,_⟩:=x;obtain⟨_,_,_⟩:=y;simp at a b c;subst a;subst b;subst c;rfl
structure tt(es:Array MapEntry):Prop where
 mp:∀(w:World) (m c:Nat),w.heap[m]?=some (.map es c)->∃M,lu w m M/\tx mm M
 flat:vo es
def Kc:tt #[]:=⟨λw m c h=>⟨_,lu.new w m c h,λa p v h=>by cases h⟩,λe he=>by simp at he⟩
def Kd{c:Nat}{es:Array MapEntry}(h:w.heap[m]?=some (.map es c)){M:Int->Int->Option Value}(p:lu w m M)(r:tx mm M):tt es:=by
 obtain⟨⟨fg,bp,g,i,o⟩,j⟩:=p;rw[h]at g;cases g;refine⟨λw' dd l f=>⟨M,⟨⟨es,l,f,i,o⟩,λB z d=>?_⟩,r⟩,λe he=>?_⟩
 .rw[f]at d
  cases d;exact j es c h
 .obtain⟨a,b,q⟩:=i e he
  obtain⟨n,u⟩:=j es c h e he;rw[q,u];exact⟨.agg (qZ (.int _ _) (.int _ _)),.int _ _⟩
def va(r0 r1:e4)(O m li:Nat)(es:Array MapEntry)(c:Nat):Mem:=[dr r0,dr r1,nS O r0 r1,sf m es c,se li O m]
def Bo(g:Nat)(r0 r1:e4)(es:Array MapEntry)(c:Nat):List Obj:=[cr jd 3,cr jd 3,cr #[.slice (some ⟨g,0,none⟩) 4 r0.c,.slice (some ⟨g+1,0,none⟩) 4 r1.c] 22,.map es c,cr #[sl (g+2) 2,dg,.map (some (g+3))] 176]
def s3{br:iX Q.globals.size bn}(i:Nat)(e:bn[i]?=some x)(n c:Nat):aQ (ho Q bn br) (.slice (some ⟨Q.globals.size+i,0,none⟩) n c) (.slice (some ⟨x.1,0,none⟩) n c):=.slice (a:=⟨Q.globals.size+i,0,none⟩) (b:=⟨x.1,0,none⟩) ⟨uo e,rfl,rfl⟩ n c
def An{br:iX Q.globals.size bn}(i:Nat)(e:bn[i]?=some x):aQ (ho Q bn br) (.pointer (some ⟨Q.globals.size+i,0,none⟩)) (.pointer (some ⟨x.1,0,none⟩)):=.ptr (a:=⟨Q.globals.size+i,0,none⟩) (b:=⟨x.1,0,none⟩) ⟨uo e,rfl,rfl⟩
def DY{br:iX Q.globals.size bn}(i:Nat)(e:bn[i]?=some x):aQ (ho Q bn br) (.map (some (Q.globals.size+i))) (.map (some x.1)):=.map (uo e)
def DX{es:Array MapEntry}(h:vo es)(c:Nat):nM (.map es c)/\eZ ρ (.map es c) (.map es c)/\∀bp g f d i j,Obj.map es c=.cells bp g f->Obj.map es c=.cells d i j->bp.size<=d.size:=⟨trivial,.map (Kj h) c,λbp g f d i j l _=>by cases l⟩
def GZ{es:Array MapEntry}{h:Nat}(r:tt es)(j:w.heap[g]?=some (cr jd 3))(l:w.heap[g+1]?=some (cr jd 3))(p:w.heap[g+2]?=some (cr #[.slice (some ⟨g,0,none⟩) 4 r0.c,.slice (some ⟨g+1,0,none⟩) 4 r1.c] 22))(q:w.heap[m]?=some (.map es h)){f:Nat×Nat}(d:w.heap[li]?=some (.cells #[sl (g+2) 2,dg,.map (some m)] 176 f)):lv w li m mm (n4 g r0.c r1.c):=by
 refine⟨(aU d).trans rfl,(aU d).trans rfl,λi c=>?_,λi c=>?_,r.mp w m h q⟩
 .have:=aU (o:=0+i) p
  rcases kt c with rfl|rfl<;>exact this
 .rcases kt c with rfl|rfl
  .exact xc j
  .exact xc l
def R6(h:bN A aH aL u (M++va r0 r1 O m li #[] 0))(S:aK.globals.size<=aL.heap.size)(W:Kept c)(Q:cc aK aH gs (S6 (Frame.enter aK 64 #[pt li,.agg #[ah 0,ah 8]] .normal) (c::cs)) u t 0)(k:∀bm aC bh es B,tt es->bN A aH aL aC (M++[dr r0,dr r1,nS O r0 r1,se li O m,sf m es B])->cc aK aH bm (S6 (c.finish (ah 4)) cs) aC bh 0->S7 aK bF bm aC bh):S7 aK bF gs u t:=by
 have J:∀x∈ft (va r0 r1 O m li #[] 0) (Bo bl.globals.size r0 r1 #[] 0),x=(r0.b,cr jd 3,.cells (#[ah 2,ah 3,ah 5,ah 6]++r0.l) 3 (0,0))\/x=(r1.b,cr jd 3,.cells (#[ah 2,ah 3,ah 5,ah 6]++r1.l) 3 (0,0))\/x=(O,cr #[.slice (some ⟨bl.globals.size,0,none⟩) 4 r0.c,.slice (some ⟨bl.globals.size+1,0,none⟩) 4 r1.c] 22,.cells #[r0.four,r1.four] 22 (0,0))\/x=(m,.map #[] 0,.map #[] 0)\/x=(li,cr #[sl (bl.globals.size+2) 2,dg,.map (some (bl.globals.size+3))] 176,.cells #[sl O 2,dg,.map (some m)] 176 (0,0)):=λx d=>by have d:x∈[(r0.b,cr jd 3,Obj.cells (#[ah 2,ah 3,ah 5,ah 6]++r0.l) 3 (0,0)),(r1.b,cr jd 3,.cells (#[ah 2,ah 3,ah 5,ah 6]++r1.l) 3 (0,0)),(O,cr #[.slice (some ⟨bl.globals.size,0,none⟩) 4 r0.c,.slice (some ⟨bl.globals.size+1,0,none⟩) 4 r1.c] 22,.cells #[r0.four,r1.four] 22 (0,0)),(m,.map #[] 0,.map #[] 0),(li,cr #[sl (bl.globals.size+2) 2,dg,.map (some (bl.globals.size+3))] 176,.cells #[sl O 2,dg,.map (some m)] 176 (0,0))]:=d;simpa only[List.mem_cons,iN,or_false]using d
 refine wK h.right S (Bo bl.globals.size r0 r1 #[] 0) (λbr x d=>?_) (f:=64) mx av
  (a:=#[pt (bl.globals.size+4),.agg #[ah 0,ah 8]]) (λbr=>rE (An (br:=br) 4 rfl) (Flat.rel (.agg (qZ (.int _ _) (.int _ _)))))
  (R:=λv w=>v=ah 4/\lv w (bl.globals.size+4) (bl.globals.size+3) mm (n4 bl.globals.size r0.c r1.c)) (λw ad=>?_) W Q ?_
 .rcases J x d with rfl|rfl|rfl|rfl|rfl
  .exact xd rfl rfl _
  .exact xd rfl rfl _
  .exact nZ rfl (rE (s3 (br:=br) 0 rfl 4 r0.c) (s3 (br:=br) 1 rfl 4 r1.c))
  .exact DX (λe he=>by simp at he) 0
  .exact nZ rfl (x2 (qh (br:=br) 2 rfl 2) (.kr _ _) (DY (br:=br) 3 rfl))
 .have b:∀(i:Nat) x,(ft (va r0 r1 O m li #[] 0) (Bo bl.globals.size r0 r1 #[] 0))[i]?=some x->w.heap[bl.globals.size+i]?=some x.2.1:=λi x e=>by rw[ad];exact lI e
  refine(G0 (A:=bl.list.toArray) (bl.globals.size+4) (bl.globals.size+3) mm CB (n4 bl.globals.size r0.c r1.c) 2 0 rfl 8 U w (GZ Kc (b 0 _ rfl) (b 1 _ rfl) (b 2 _ rfl) (b 3 _ rfl) (b 4 _ rfl))).mono ?_;rintro e w' ⟨rfl,E,_⟩;refine⟨_,rfl,?_,E⟩;exact congrArg (λn:Nat=>ah n) R4
 intro bm aC bh ai v ay dI ⟨aa,E⟩ Z T V aq calm low keep fresh K;subst aa;obtain rfl:=Flat.eq (.int _ _) Z;obtain⟨ao,F,X⟩:=E.mp;obtain⟨⟨es,B,z,au,aw⟩,ar⟩:=id F;have G:=Kd z F X;obtain⟨o,p,g,l,Y⟩:=T.obj _ _ (V 3 _ rfl);have g:dI.heap[bl.globals.size+3]?=some o:=g;rw[z]at g;cases g;have l:aC.heap[m]?=some p:=l;cases Y with
 |@map _ ba hm _=>
  obtain rfl:=Kf G.flat hm;have q:=h.right;have C:∀(i:Nat) own b o,(va r0 r1 O m li #[] 0)[i]?=some (own,b,o)->i≠3->aC.heap[b]?=some o:=λi own b o e H=>by
   refine(keep b (gL q.mem e) λj x I d=>?_).trans (q.mem.has i own b o e);rcases J x (hk I)with rfl|rfl|rfl|rfl|rfl
   .exact⟨_,_,rfl⟩
   .exact⟨_,_,rfl⟩
   .exact⟨_,_,rfl⟩
   .exact(q.mem.fL i 3 own b o true m _ e rfl H d.symm).elim
   .exact⟨_,_,rfl⟩
  have af:=C 0 _ _ _ rfl U;have ag:=C 1 _ _ _ rfl U;have aj:=C 2 _ _ _ rfl U;have ak:=C 4 _ _ _ rfl U;have back:∀(i:Nat) own b o,[dr r0,dr r1,nS O r0 r1,se li O m,sf m ba B][i]?=some (own,b,o)->∃(j:Nat) (D:Bool) (p:Obj),(va r0 r1 O m li #[] 0)[j]?=some (D,b,p)/\j=(match i with|3=>4|4=>3|i=>i):=λi own b o e=>by
   rcases i with _|_|_|_|_|i
   .cases e;exact⟨0,_,_,rfl,rfl⟩
   .cases e;exact⟨1,_,_,rfl,rfl⟩
   .cases e;exact⟨2,_,_,rfl,rfl⟩
   .cases e;exact⟨4,_,_,rfl,rfl⟩
   .cases e;exact⟨3,_,_,rfl,rfl⟩
   .simp at e
  refine k bm aC bh ba B G (h.swap calm (λb z d=>?_) ⟨λi own b o e=>?_,λi j own b o D ap p g l ax=>?_⟩ (λi own b o e=>?_) low (λb _ h=>h)) K
  .refine keep b z λi x e ae=>?_
   subst ae;obtain⟨own,P,_⟩:=q4 e;exact(d i own _ P).elim
  .rcases i with _|_|_|_|_|i
   .cases e;exact af
   .cases e;exact ag
   .cases e;exact aj
   .cases e;exact ak
   .cases e;exact l
   .simp at e
  .obtain⟨r,_,_,q1,r1⟩:=back i _ _ _ g
   obtain⟨L,_,_,al,am⟩:=back j _ _ _ l;refine q.mem.fL r L _ _ _ _ _ _ q1 al ?_;have H:i<5:=q8 g;have I:j<5:=q8 l;rcases i with _|_|_|_|_|i<;>rcases j with _|_|_|_|_|j<;>simp at r1 am<;>omega
  .obtain⟨r,D,p,q1,_⟩:=back i _ _ _ e
   exact⟨.inr ⟨r,D,p,q1⟩,(q.fi r _ _ _ q1).2⟩
def Jl(out:Nat):Bool×Nat×Obj:=(true,out,.cells #[dg] 22 (0,0))
def y6(r0 r1:e4)(O m li out:Nat)(es:Array MapEntry)(c:Nat):Mem:=[dr r0,dr r1,nS O r0 r1,se li O m,sf m es c,Jl out]
def y7(g:Nat)(r0 r1:e4)(es:Array MapEntry)(c:Nat):List Obj:=[cr jd 3,cr jd 3,cr #[.slice (some ⟨g,0,none⟩) 4 r0.c,.slice (some ⟨g+1,0,none⟩) 4 r1.c] 22,.cells #[sl (g+2) 2,dg,.map (some (g+4))] 176 (0,0),.map es c,.cells #[dg] 22 (0,0)]
def Jn(y B:Nat)(c:y<B):na (AP (A:=bl.list.toArray) y B c).stop (AP (A:=bl.list.toArray) y B c).next mm 2 8 [] none=(true,some [2,6]):=av
def EN{c d:Array Value}(h:bQ ρ c d):nM (.cells c e (0,0))/\eZ ρ (.cells c e (0,0)) (.cells d e (0,0))/\∀bp i f g j l,Obj.cells c e (0,0)=.cells bp i f->Obj.cells d e (0,0)=.cells g j l->bp.size<=g.size:=by refine⟨trivial,.cells (.inl h.1) h.2 (.inl rfl),λbp i f g j l o p=>?_⟩;cases o;cases p;exact Nat.le_of_eq h.1
def Jp(g bx d:Nat):ow mm (n4 g bx d) (g+3) (g+4) (g+5) (g+6):=by
 have f:∀i,i<2->(n4 g bx d).o7 i=g\/(n4 g bx d).o7 i=g+1:=λi c=>by
  rcases kt c with rfl|rfl
  .exact .inl rfl
  .exact .inr rfl
 have j:(n4 g bx d).nN=g+2:=rfl;refine⟨U,U,U,U,λi c=>?_,U,U,λi c=>?_,U,U,U,λi c=>?_⟩<;>(rcases f i c with h|h<;>omega)
def Jq{out r:Nat}{es:Array MapEntry}(J:tt es)(h:bN A aH aL u (M++y6 r0 r1 O m li out es r))(ae:aK.globals.size<=aL.heap.size)(aj:Kept c)(X:cc aK aH gs (S6 (Frame.enter aK 65 #[pt li,.agg #[ah 0,ah 8],.func (.func 66) #[] #[pt out]] .normal) (c::cs)) u t 0)(k:∀bm aC bh p,bN A aH aL aC (M++[lE p,(true,out,.cells #[p.two] 22 (0,0))])->cc aK aH bm (S6 (c.finish (.bool true)) cs) aC bh 0->S7 aK bF bm aC bh):S7 aK bF gs u t:=by
 have aq:∀x∈ft (y6 r0 r1 O m li out es r) (y7 bl.globals.size r0 r1 es r),x=(r0.b,cr jd 3,.cells (#[ah 2,ah 3,ah 5,ah 6]++r0.l) 3 (0,0))\/x=(r1.b,cr jd 3,.cells (#[ah 2,ah 3,ah 5,ah 6]++r1.l) 3 (0,0))\/x=(O,cr #[.slice (some ⟨bl.globals.size,0,none⟩) 4 r0.c,.slice (some ⟨bl.globals.size+1,0,none⟩) 4 r1.c] 22,.cells #[r0.four,r1.four] 22 (0,0))\/x=(li,.cells #[sl (bl.globals.size+2) 2,dg,.map (some (bl.globals.size+4))] 176 (0,0),.cells #[sl O 2,dg,.map (some m)] 176 (0,0))\/x=(m,.map es r,.map es r)\/x=(out,.cells #[dg] 22 (0,0),.cells #[dg] 22 (0,0)):=λx h=>by have D:x∈[(r0.b,cr jd 3,Obj.cells (#[ah 2,ah 3,ah 5,ah 6]++r0.l) 3 (0,0)),(r1.b,cr jd 3,.cells (#[ah 2,ah 3,ah 5,ah 6]++r1.l) 3 (0,0)),(O,cr #[.slice (some ⟨bl.globals.size,0,none⟩) 4 r0.c,.slice (some ⟨bl.globals.size+1,0,none⟩) 4 r1.c] 22,.cells #[r0.four,r1.four] 22 (0,0)),(li,.cells #[sl (bl.globals.size+2) 2,dg,.map (some (bl.globals.size+4))] 176 (0,0),.cells #[sl O 2,dg,.map (some m)] 176 (0,0)),(m,.map es r,.map es r),(out,.cells #[dg] 22 (0,0),.cells #[dg] 22 (0,0))]:=h;simpa only[List.mem_cons,iN,or_false]using D
 refine wK h.right ae (y7 bl.globals.size r0 r1 es r) (λbr x D=>?_) (f:=65) mx av
  (a:=#[pt (bl.globals.size+3),.agg #[ah 0,ah 8],.func (.func 66) #[] #[pt (bl.globals.size+5)]]) (b:=#[pt li,.agg #[ah 0,ah 8],.func (.func 66) #[] #[pt out]]) (λbr=>x2 (An (br:=br) 3 rfl) (Flat.rel (.agg (qZ (.int _ _) (.int _ _)))) (.func (.func _ av) rfl (λi x y D G=>by simp at D) rfl (z' (R:=aQ _) (An (br:=br) 5 rfl)).2))
  (R:=λv w=>v=.bool true/\∃v0,w.heap[bl.globals.size+5]?=some (.cells #[v0] 22 (0,0))/\w.ownsRow (bl.globals.size+6) 3 1 v0 2 [ah 2,ah 6]) (λw P=>?_) aj X ?_
 .rcases aq x D with rfl|rfl|rfl|rfl|rfl|rfl
  .exact xd rfl rfl _
  .exact xd rfl rfl _
  .exact nZ rfl (rE (s3 (br:=br) 0 rfl 4 r0.c) (s3 (br:=br) 1 rfl 4 r1.c))
  .exact EN (x2 (qh (br:=br) 2 rfl 2) (.kr _ _) (DY (br:=br) 4 rfl))
  .exact DX J.flat r
  .exact EN (z' (.kr _ _))
 .have b:∀(i:Nat) x,(ft (y6 r0 r1 O m li out es r) (y7 bl.globals.size r0 r1 es r))[i]?=some x->w.heap[bl.globals.size+i]?=some x.2.1:=λi x e=>by rw[P];exact lI e
  have az:w.heap.size=bl.globals.size+6:=by rw[P,sw];rfl
  have ls:lv w (bl.globals.size+3) (bl.globals.size+4) mm (n4 bl.globals.size r0.c r1.c):=GZ J (b 0 _ rfl) (b 1 _ rfl) (b 2 _ rfl) (b 4 _ rfl) (b 3 _ rfl);have W:ih mm (n4 bl.globals.size r0.c r1.c) (bl.globals.size+3) (bl.globals.size+4) (bl.globals.size+6) (.slice none 0 0) [] w:=
   ⟨b 3 _ rfl,ls.rows,ls.el,ls.mp,⟨rfl,.inl ⟨rfl,rfl⟩⟩,U⟩
  have G:bl.globals.size+5<bl.globals.size+6:=U;have I:=CO (A:=bl.list.toArray) (AP (bl.globals.size+5) (bl.globals.size+6) G) mm (n4 bl.globals.size r0.c r1.c) (bl.globals.size+3) (bl.globals.size+4) (Jp _ _ _) CB 2 0 8 [] none (.slice none 0 0) w rfl U a6 W ⟨⟨.slice none 0 0,b 5 _ rfl,rfl⟩,U⟩;rw[Jn]at I;refine Calls.mono I ?_;rintro e w' ⟨au,rfl,_,⟨⟨v0,F,C⟩,_⟩,_⟩;refine⟨_,rfl,rfl,v0,F,?_⟩;rcases C with⟨C,_⟩|⟨C,_⟩
  .exact C
  .cases C
 intro bm aC bh ai v au dI ⟨ap,v0,F,C⟩ ao L ag Z calm low keep fresh S;subst ap;obtain rfl:=Flat.eq (.bool _) ao;obtain⟨o,Q,z,B,am⟩:=L.obj _ _ (ag 5 _ rfl);have z:dI.heap[bl.globals.size+5]?=some o:=z;rw[F]at z;cases z;have B:aC.heap[out]?=some Q:=B;cases am with
 |@cells _ d _ _ q E V ad=>
  have al:q=(0,0):=w5 ad (Nat.succ_pos 0);have aa:d.size=1:=by
   rcases E with E|⟨_,E⟩
   .exact E.symm
   .rw[Z,Iu]at E
    exact absurd E aF
  obtain⟨y,rfl⟩:∃y,d=#[y]:=⟨_,sN d aa⟩
  have G:aQ ai v0 y:=V 0 _ _ rfl rfl;obtain⟨g,g',cap,l,af,ak,rfl,Y⟩:=Az L C a6 a6 (eH (eH lG (.int _ _)) (.int _ _)) G;have K:=fresh g g' af (by show bl.globals.size+6<=g;exact ak);have H:=h.right;have ay:out<u.heap.size:=gL H.mem (n:=5) (own:=true) (b:=out) (o:=.cells #[dg] 22 (0,0)) rfl;refine k bm aC bh ⟨g',cap,l⟩ (h.swap calm (λb F D=>?_) ⟨λi own b o e=>?_,λi j own b o aA aw Q z B ax=>?_⟩ (λi own b o e=>?_) low (λb _ h=>h)) S
  .refine keep b F λi x e ar=>?_
   subst ar;obtain⟨own,T,_⟩:=q4 e;exact(D i own _ T).elim
  .rcases i with _|_|i
   .cases e;exact Y
   .cases e;rw[B,al];rfl
   .simp at e
  .rcases i with _|_|i<;>rcases j with _|_|j
   .omega
   .cases z;cases B;show g'≠out;omega
   .simp at B
   .cases z;cases B;show out≠g';omega
   .omega
   .simp at B
   .simp at z
   .simp at z
   .simp at z
  .rcases i with _|_|i
   .cases e;exact⟨.inl K.1,K.2⟩
   .cases e;exact⟨.inr ⟨5,true,_,rfl⟩,(H.fi 5 true out _ rfl).2⟩
   .simp at e
def Pk{d:vw}(r:aK.globals.size<=aL.heap.size)(h:bN A aH aL u (xN d))(F:Kept c)(w:cc aK aH gs (S6 (Frame.enter aK 27 #[f' d.z,sl d.L 2,ah 8] .normal) (c::cs)) u t 0)(k:∀en bm aC bh p,(∀b,aH b->en b)->(∀b,en b->aH b\/aL.heap.size<=b)->bN A en aL aC [dr d.s,fB d.x,fC d.y,lE p]->cc aK en bm (S6 (c.finish p.qi) cs) aC bh 0->S7 aK bF bm aC bh):S7 aK bF gs u t:=by
 have f:∀p,og.dh p<=400:=λ_=>bg
 have b6:dK og (c::cs) aH aL gs u t ⟨0,d,xN d⟩ (Frame.enter aK 27 #[f' d.z,sl d.L 2,ah 8] .normal,[]) 12 400:=⟨⟨_,Pd d,rfl⟩,bg,h.to,w⟩
 clear w;refine b6.new nJ f (.head _) λgs u t x b s1=>?_
 refine s1.bL nJ f (.head _) λgs u t x s2=>?_
 refine s2.gS nJ f (.head _) λgs u t c cs l g i back=>?_
 have J:bN og aH aL u (([dr d.s,fB d.x,fC d.y]++(iE d.z++[(true,d.L,hf)]))++[(true,b,.cells #[ah 2,sl d.z.F 2,sl d.z.R 2,sl d.z.Fr 1] 25 (0,0))]):=g.cast av;refine MR (M:=[dr d.s,fB d.x,fC d.y]) (z:=d.z) (L:=d.L) J.left r l i λgs u t T o B j=>?_
 obtain⟨_,R⟩:=back aH gs u t T (o.cast rfl) j;clear back;refine R.gS nJ f (.head _) λgs u t c cs l g i back=>?_
 have D:=g.calm.size;refine LG (A:=og) (M:=[dr d.s,fB d.x,fC d.y]) (z:=d.z) (L:=d.L) (T:=T) (g.cast rfl) r B l i λq gs u t O r0 r1 G H o j=>?_
 have I:∀b,q b->aH b\/aL.heap.size<=b:=λb C=>(H b C).imp id λh=>cL D h
 obtain⟨_,S⟩:=back q gs u t (O,r0,r1) (o.cast rfl) j;clear back;refine S.new nJ f (.head _) λgs u t x m U=>?_
 refine U.new nJ f (.head _) λgs u t x li V=>?_
 refine V.gS nJ f (.head _) λgs u t c cs l g i back=>?_
 refine R6 (A:=og) (M:=[dr d.s,fB d.x,fC d.y]) (r0:=r0) (r1:=r1) (O:=O) (m:=m) (li:=li) (g.cast rfl) r l i λgs u t es P E o j=>?_
 obtain⟨_,W⟩:=back q gs u t (es,P) (o.cast rfl) j;clear back;refine W.new nJ f (.head _) λgs u t x out X=>?_
 refine X.gS nJ f (.head _) λgs u t c cs l g i back=>?_
 refine Jq (A:=og) (M:=[dr d.s,fB d.x,fC d.y]) (r0:=r0) (r1:=r1) (O:=O) (m:=m) (li:=li) (out:=out) E (g.cast rfl) r l i λgs u t p o j=>?_
 obtain⟨_,Y⟩:=back q gs u t p (o.cast rfl) j;clear back;refine Y.bL nJ f (.head _) λgs u t x Q=>?_
 refine Q.leave nJ F (.head _) λgs u t Z a=>?_
 have K:bN A q aL u ([dr d.s,fB d.x,fC d.y,lE p]++[(true,out,.cells #[p.two] 22 (0,0))]):=Z.cast av;exact k q gs u t p G I K.left a
def N5{kd:CallKind}{f:Nat->Value}(w:S8 kd)(r:aK.globals.size<=aL.heap.size){s:e4}{x y:Nat}(E:bN (fZ kd) aH aL u [dr s,fB x,fC y])(q:cc aK aH gs (bW (eE kd 6 f) base) u t 0)(k:∀en gs u t z L p,(∀b,aH b->en b)->(∀b,en b->aH b\/aL.heap.size<=b)->bN (fZ kd) en aL u [dr s,fB x,fC y,lE p]->cc aK en gs (bW (eE kd 7 (up (up (up (up (up (up f [(49,f' z)]) [(50,.agg dC)]) [(51,.agg dC)]) [(52,sl L 2)]) [(53,p.qi)]) [(48,p.qi),(54,p.two),(55,ah 0),(13,p.two),(14,ah 0)])) base) u t 0->S7 aK bF gs u t):S7 aK bF gs u t:=by
 have b6:dK (fZ kd) base aH aL gs u t ⟨6,0,f,{kE with s:=s,x:=x,y:=y},[dr s,fB x,fC y]⟩ (eE kd 6 f) 11 400:=⟨⟨_,Nm kd w f {kE with s:=s,x:=x,y:=y},rfl⟩,a6,E,q⟩
 refine b6.gS (gW kd) (iC kd) (.head _) λgs u t c cs j g h back=>?_
 refine rB j g.ej h λgs u t z m i=>?_
 obtain⟨_,s1⟩:=back aH gs u t z (g.mR m.to) i;refine s1.gS (gW kd) (iC kd) (.head _) λgs u t c cs j g h back=>?_
 refine uW j g.ej h λgs u t m i=>?_
 obtain⟨_,s2⟩:=back aH gs u t () (g.on m.to) i;refine s2.gS (gW kd) (iC kd) (.head _) λgs u t c cs j g h back=>?_
 refine uW j g.ej h λgs u t m i=>?_
 obtain⟨_,B⟩:=back aH gs u t () (g.on m.to) i;refine B.new (gW kd) (iC kd) (.head _) λgs u t _ L C=>?_
 refine C.gS (gW kd) (iC kd) (.head _) λgs u t c cs j g h back=>?_
 refine Pk (d:=⟨z,s,x,y,L,0,0,⟨0,0,#[]⟩,⟨0,0,#[]⟩,0,#[],0,0,0,⟨0,0,#[]⟩⟩) r (g.cast (kv:=fZ kd) rfl) j h λen gs u t p l o F i=>?_
 obtain⟨_,D⟩:=back en gs u t p (F.cast rfl) i;exact D.jN (gW kd) (.head _) (k en · · · z L p l o)
end
section
section
variable{Pos:Type}{A:de Pos}{u aL:World}{t:Trace}{gs:Array Goroutine}{x:bA}{n j:Nat}{p:Pos}{bF:Machine->Outcome->World->Trace->Prop}{base:List Frame}{aH:Nat->Prop}
def dK.ord(T:dn A.P A.ext)(q:∀p,A.dh p<=400)(h:dK A base aH aL gs u t p x (n+1) j){id:Nat}{ops:Array Oper}{L:List (List Nat)}{d:List Nat->Pos}(he:Edge.ord f id ops L d∈A.cz p)(k:∀gs u t x l,l∈L->dK A base aH aL gs u t (d l) x n (A.dh (d l))->S7 A.P bF gs u t):S7 A.P bF gs u t:=by
 refine h.quiet T λgs u t x a C g D o=>?_
 obtain rfl:n=a:=U;refine g.step λc=>?_
 obtain⟨l,y,r,w,hm,z⟩:=o.ord T he (u.at c);refine⟨bW y base,u.at (c+1),#[],z true base .running none,rfl,bg,(λe he=>by simp at he),λbm bh B i=>?_⟩;exact k bm (u.at (c+1)) bh y l r ⟨w,q _,by rw[hm];exact C.at _,i⟩ B
def bN.Nq(h:bN A aH aL u M)(i j:Nat)(p:i≠j){x:Bool×Nat×Obj}(f:M[i]?=some x)(g:M[j]?=some y):bN A aH aL u [x,y]:=by
 refine h.sub (λk own b o e=>?_) (λk l own b o z q w c d r=>?_)
 .rcases k with _|_|k
  .cases e;exact⟨i,_,f⟩
  .cases e;exact⟨j,_,g⟩
  .simp at e
 .rcases k with _|_|k<;>rcases l with _|_|l
  .omega
  .cases c;cases d;exact h.mem.fL i j _ _ _ _ _ _ f g p
  .simp at d
  .cases c;cases d;exact h.mem.fL j i _ _ _ _ _ _ g f p.symm
  .omega
  .simp at d
  .simp at c
  .simp at c
  .simp at c
end
variable{bF:Machine->Outcome->World->Trace->Prop}{aH:Nat->Prop}{aL u aC:World}{gs:Array Goroutine}{t:Trace}{c bx:Frame}{cs base rest:List Frame}{Pos:Type}{A:de Pos}{kd:CallKind}
structure yk where
 l:Nat
 M:Mem
def HP(a b:Int):yk->List (Edge yk)
 |⟨0,M⟩=>[.new true ou λb=>⟨1,M++[(true,b,ou)]⟩]
 |⟨1,M⟩=>[.bL [.st 0 0 (ah a),.st 0 1 (ah b)] ⟨2,c0 M [.st 0 0 (ah a),.st 0 1 (ah b)]⟩]
 |⟨2,_⟩=>[.k' [.ld 0 0,.ld 0 1] (.agg #[ah a,ah b])]
 |_=>[]
noncomputable def r7(a b:Int):de yk:=⟨Tryz.prog,hv,λ_=>false,.normal,λp=>p.M,λ_=>400,HP a b⟩
def Bz(a b:Int):dn (r7 a b).P (r7 a b).ext:=by unfold r7;exact j8
def HQ(a b:Int):Good (r7 a b) 6 ⟨0,[]⟩ (Frame.enter Tryz.prog 29 #[ah a,ah b] .normal,[]):=by all_goals exact fX
def vI(a b:Int)(h:Kept c)(i:∀b,aH b->b<u.heap.size)(g:cc aK aH gs (S6 (Frame.enter aK 29 #[ah a,ah b] .normal) (c::cs)) u t 0)(k:∀bm aC bh,bN A aH u aC []->cc aK aH bm (S6 (c.finish (.agg #[ah a,ah b])) cs) aC bh 0->S7 aK bF bm aC bh):S7 aK bF gs u t:=by
 have d:∀p,(r7 a b).dh p<=400:=λ_=>bg
 have b6:dK (r7 a b) (c::cs) aH u gs u t ⟨0,[]⟩ (Frame.enter aK 29 #[ah a,ah b] .normal,[]) 6 400:=⟨⟨_,HQ a b,rfl⟩,bg,bN.start u i,g⟩
 refine b6.new (Bz a b) d (.head _) λq w t1 B o s1=>?_
 refine s1.bL (Bz a b) d (.head _) λr z t2 C s2=>?_
 refine s2.k' (Bz a b) h (.head _) λf l t9 j a9=>?_
 exact k f l t9 j.none a9
def KR(h:bN A aH aL u M)(D:aK.globals.size<=aL.heap.size)(V:List Obj)(G:∀br:iX bl.globals.size (ft M V),yw (ho bl (ft M V) br) (ft M V))(E:pv (ft M V))(C:¬bl.K.fn f)(p:eK bl f=none){a b:Array Value}(l:∀br:iX bl.globals.size (ft M V),bQ (ho bl (ft M V) br) a b){r:Value}(H:Flat r)(B:∀w:World,w.heap=(h9 bl.globals.size (ft M V)).heap->Calls bl f a w λe _=>e=.returned r)(F:Kept c)(q:cc aK aH gs (S6 (Frame.enter aK f b .normal) (c::cs)) u t 0)(k:∀bm aC bh,bN A aH u aC []->cc aK aH bm (S6 (c.finish r) cs) aC bh 0->S7 aK bF bm aC bh):S7 aK bF gs u t:=by refine wK h D V G C p l (R:=λv _=>v=r) (λw J=>(B w J).mono λe w' he=>⟨_,he,rfl⟩) F q ?_;intro bm aC bh ai v U dI g I P Q L calm low keep fresh d;subst g;obtain rfl:=H.eq I;exact k bm aC bh ⟨⟨λi own b o e=>by simp at e,λi j own b o T K S e=>by simp at e⟩,λb z=>keep b z λi x e _=>E x (hk e),calm,λi own b o e=>by simp at e,low⟩ d
def Oc(he:ρ.exact=false)(w:ρ.cells=oX bl)(u:e=3\/e=67)(xs:List Value)(B:∀v∈xs,Flat v)(hlen:xs.length<18446744073709551616)(l:Array Value):
 nM (cr xs.toArray e)/\eZ ρ (cr xs.toArray e) (.cells (xs.toArray++l) e (0,0))/\∀bp g f d j o,cr xs.toArray e=.cells bp g f->Obj.cells (xs.toArray++l) e (0,0)=.cells d j o->bp.size<=d.size:=by
 refine⟨trivial,.cells ?_ (λi x y c p=>?_) (.inr ⟨he,rfl,bg,Nat.zero_le _⟩),λbp g f d j o q r=>?_⟩
 .rcases Nat.eq_zero_or_pos l.size with h|h
  .exact .inl (by simp[h])
  .refine .inr ⟨cH,?_⟩
   rw[w];refine gu ?_ (Nat.le_max_right _ _);rw[if_pos u];simpa using hlen
 .have z:i<xs.toArray.size:=bu c
  rw[Array.getElem?_append_left z]at p;have:x=y:=bD (c.symm.trans p);subst this;rw[List.getElem?_toArray]at c;exact(B x (hk c)).rel
 .cases q
  cases r;simp
def zK{n b cap:Nat}(p:e=3\/e=67){l:Array Value}(xs:List Value)(d:∀v∈xs,Flat v)(hlen:xs.length<18446744073709551616)(h:bN A aH aL u [(true,g,.cells (xs.toArray++l) e (0,0)),(true,b,.cells xs.toArray e (0,0))])(C:aK.globals.size<=aL.heap.size)(B:¬bl.K.fn f)(q:eK bl f=none)(z:∀w:World,∀i j,w.heap[i]?=some (cr xs.toArray e)->w.heap[j]?=some (cr xs.toArray e)->Calls bl f #[.slice (some ⟨i,0,none⟩) n cap,.slice (some ⟨j,0,none⟩) n n] w λe _=>e=.returned (.bool true))(D:Kept c)(r:cc aK aH gs (S6 (Frame.enter aK f #[.slice (some ⟨g,0,none⟩) n cap,sl b n] .normal) (c::cs)) u t 0)(k:∀bm aC bh,bN A aH u aC []->cc aK aH bm (S6 (c.finish (.bool true)) cs) aC bh 0->S7 aK bF bm aC bh):S7 aK bF gs u t:=by
 have o:∀x∈ft [(true,g,.cells (xs.toArray++l) e (0,0)),(true,b,.cells xs.toArray e (0,0))] [cr xs.toArray e,cr xs.toArray e],x=(g,cr xs.toArray e,.cells (xs.toArray++l) e (0,0))\/x=(b,cr xs.toArray e,.cells xs.toArray e (0,0)):=λx d=>by have d:x∈[(g,cr xs.toArray e,Obj.cells (xs.toArray++l) e (0,0)),(b,cr xs.toArray e,.cells xs.toArray e (0,0))]:=d;simpa only[List.mem_cons,iN,or_false]using d
 refine KR h C [cr xs.toArray e,cr xs.toArray e] (λbr x hm=>?_) (λx hm=>?_) B q (a:=#[.slice (some ⟨bl.globals.size,0,none⟩) n cap,.slice (some ⟨bl.globals.size+1,0,none⟩) n n]) (λbr=>rE (s3 (br:=br) 0 rfl n cap) (s3 (br:=br) 1 rfl n n)) (.bool true) (λw E=>?_) D r k
 .rcases o x hm with rfl|rfl
  .exact Oc rfl rfl p xs d hlen l
  .exact nZ rfl (C' d)
 .rcases o x hm with rfl|rfl
  .exact⟨_,_,rfl⟩
  .exact⟨_,_,rfl⟩
 .have b:∀(i:Nat) x,(ft [(true,g,.cells (xs.toArray++l) e (0,0)),(true,b,.cells xs.toArray e (0,0))] [cr xs.toArray e,cr xs.toArray e])[i]?=some x->w.heap[bl.globals.size+i]?=some x.2.1:=λi x e=>by rw[E];exact lI e
  exact z w _ _ (b 0 _ rfl) (b 1 _ rfl)
def zO{x:Bool×Nat×Obj}(h:bN A aH aL u (ed d++[x]))(i:Nat)(c:i<5)(f:(ed d)[i]?=some y):bN A aH aL u [y,x]:=
 h.Nq i 5 U (by rw[jz (by exact c)];exact f) rfl
def Qo(q:S8 kd){a:List Nat}(o:a∈[[31,32],[32,31]])(g:bN (t8 kd) aH aL u (ed d))(p:cc aK aH gs (bW (gG kd ([0,1,2,3,4,5,6,7,8,9,10,11,12,13,14,15,16,17,18,19,20,21,22,23,24,25,26,27,28,29,30]++(a++([33,34,35]++T))) (jc h d)) base) u t 0)(k:∀gs u t,bN (t8 kd) aH aL u (ed d)->cc aK aH gs (bW (gG kd T (lL (jc h d) d)) base) u t 0->S7 aK bF gs u t):S7 aK bF gs u t:=by
 simp only[List.mem_cons,iN,or_false]at o;rcases o with rfl|rfl
 .have b6:dK (t8 kd) base aH aL gs u t ⟨10,h,d,T,0,ed d⟩ _ 6 400:=⟨⟨_,Ol kd q h d T,rfl⟩,a6,g,p⟩
  refine b6.bL (iW kd) (k3 kd) (.head _) λgs u t x s1=>?_
  refine s1.gS (iW kd) (k3 kd) (.head _) λgs u t c cs l f i back=>?_
  refine vI (A:=t8 kd) 24 26 l f.ej i λgs u t m j=>?_
  obtain⟨_,s2⟩:=back aH gs u t () ((f.cast (b7:=ed d) av).on m) j;exact s2.jN (iW kd) (.head _) k
 .have b6:dK (t8 kd) base aH aL gs u t ⟨12,h,d,T,0,ed d⟩ _ 6 400:=⟨⟨_,Om kd q h d T,rfl⟩,a6,g,p⟩
  refine b6.gS (iW kd) (k3 kd) (.head _) λgs u t c cs l f i back=>?_
  refine vI (A:=t8 kd) 24 26 l f.ej i λgs u t m j=>?_
  obtain⟨_,s1⟩:=back aH gs u t () (bN.on (A:=t8 kd) f m) j;refine s1.bL (iW kd) (k3 kd) (.head _) λgs u t x s2=>?_
  exact s2.jN (iW kd) (.head _) λgs u t g a=>k gs u t (g.cast av) a
def Qp(q:S8 kd){a:List Nat}(o:a∈[[36,37],[37,36]])(g:bN (t8 kd) aH aL u (ed d))(p:cc aK aH gs (bW (gG kd (a++([38,39,40,41,42,43,44,45,46,47,48,49,50,51,52]++T)) (k8 h d)) base) u t 0)(k:∀gs u t,bN (t8 kd) aH aL u (ed d)->cc aK aH gs (bW (gG kd T (np (k8 h d) d)) base) u t 0->S7 aK bF gs u t):S7 aK bF gs u t:=by
 simp only[List.mem_cons,iN,or_false]at o;rcases o with rfl|rfl
 .have b6:dK (t8 kd) base aH aL gs u t ⟨20,h,d,T,0,ed d⟩ _ 6 400:=⟨⟨_,On kd q h d T,rfl⟩,a6,g,p⟩
  refine b6.bL (iW kd) (k3 kd) (.head _) λgs u t x s1=>?_
  refine s1.gS (iW kd) (k3 kd) (.head _) λgs u t c cs l f i back=>?_
  refine vI (A:=t8 kd) 48 50 l f.ej i λgs u t m j=>?_
  obtain⟨_,s2⟩:=back aH gs u t () ((f.cast (b7:=ed d) av).on m) j;exact s2.jN (iW kd) (.head _) k
 .have b6:dK (t8 kd) base aH aL gs u t ⟨22,h,d,T,0,ed d⟩ _ 6 400:=⟨⟨_,Oo kd q h d T,rfl⟩,a6,g,p⟩
  refine b6.gS (iW kd) (k3 kd) (.head _) λgs u t c cs l f i back=>?_
  refine vI (A:=t8 kd) 48 50 l f.ej i λgs u t m j=>?_
  obtain⟨_,s1⟩:=back aH gs u t () (bN.on (A:=t8 kd) f m) j;refine s1.bL (iW kd) (k3 kd) (.head _) λgs u t x s2=>?_
  exact s2.jN (iW kd) (.head _) λgs u t g a=>k gs u t (g.cast av) a
def MB(w:World)(i j cap:Nat)(c:w.heap[i]?=some (cr #[ah 2,ah 3,ah 5,ah 6] 3))(d:w.heap[j]?=some (cr #[ah 2,ah 3,ah 5,ah 6] 3)):Calls bl 30 #[.slice (some ⟨i,0,none⟩) 4 cap,.slice (some ⟨j,0,none⟩) 4 4] w λe _=>e=.returned (.bool true):=
 (DO (A:=bl.list.toArray) i 0 j 0 4 cap 4 U sI w (xc c) (xc d)).mono λ_ _ h=>h.1
def Ei(j:Nat):Int:=match j with|0=>2|_=>6
def Ej{b:Nat}(h:w.heap[b]?=some (cr #[ah 2,ah 6] 3)):gn w b 0 2 Ei:=by intro k c;have:=aU (o:=0+k) h;rcases kt c with rfl|rfl<;>exact this
def MA(w:World)(i j cap:Nat)(c:w.heap[i]?=some (cr #[ah 2,ah 6] 3))(d:w.heap[j]?=some (cr #[ah 2,ah 6] 3)):Calls bl 30 #[.slice (some ⟨i,0,none⟩) 2 cap,.slice (some ⟨j,0,none⟩) 2 2] w λe _=>e=.returned (.bool true):=
 (DO (A:=bl.list.toArray) i 0 j 0 2 cap 2 U Ei w (Ej c) (Ej d)).mono λ_ _ h=>h.1
def Gz(j:Nat):Int:=match j with|0=>20|_=>48
def GC(j:Nat):Int:=match j with|0=>46|_=>60
def GD{b:Nat}(h:w.heap[b]?=some (cr #[ah 20,ah 46,ah 48,ah 60] 67)):rY w b 0 2 Gz GC:=by
 refine⟨λk c=>?_,λk c=>?_⟩
 .have:=aU (o:=0+k*2) h
  rcases kt c with rfl|rfl<;>exact this
 .have:=aU (o:=0+k*2+1) h
  rcases kt c with rfl|rfl<;>exact this
def Rb(w:World)(i j cap:Nat)(c:w.heap[i]?=some (cr #[ah 20,ah 46,ah 48,ah 60] 67))(d:w.heap[j]?=some (cr #[ah 20,ah 46,ah 48,ah 60] 67)):Calls bl 31 #[.slice (some ⟨i,0,none⟩) 2 cap,.slice (some ⟨j,0,none⟩) 2 2] w λe _=>e=.returned (.bool true):=
 (LD (A:=bl.list.toArray) i 0 j 0 2 cap 2 U Gz GC w (GD c) (GD d)).mono λ_ _ h=>h.1
def KI:∀v∈[ah 2,ah 6],Flat v:=eH (eH lG (.int _ _)) (.int _ _)
def KJ:∀v∈[ah 2,ah 3,ah 5,ah 6],Flat v:=eH (eH (eH (eH lG (.int _ _)) (.int _ _)) (.int _ _)) (.int _ _)
def KL:∀v∈[ah 20,ah 46,ah 48,ah 60],Flat v:=eH (eH (eH (eH lG (.int _ _)) (.int _ _)) (.int _ _)) (.int _ _)
def Qq(q:S8 kd)(F:aK.globals.size<=aL.heap.size){a:List Nat}(o:a∈[[53,54],[54,53]])(r:bN (t8 kd) aH aL u (ed d))(p:cc aK aH gs (bW (gG kd (a++([55,56,57]++T)) (mz h d)) base) u t 0)(k:∀gs u t b,bN (t8 kd) aH aL u (ed d)->cc aK aH gs (bW (gG kd T (p' (mz h d) d b)) base) u t 0->S7 aK bF gs u t):S7 aK bF gs u t:=by
 obtain⟨x,b6⟩:∃x,dK (t8 kd) base aH aL gs u t ⟨30,h,d,T,0,ed d⟩ x 6 400:=by
  simp only[List.mem_cons,iN,or_false]at o;rcases o with rfl|rfl
  .exact⟨_,⟨_,Oq kd q h d T,rfl⟩,a6,r,p⟩
  .exact⟨_,⟨_,Ot kd q h d T,rfl⟩,a6,r,p⟩
 refine b6.new (iW kd) (k3 kd) (.head _) λgs u t x b s1=>?_
 refine s1.gS (iW kd) (k3 kd) (.head _) λgs u t c cs E g z back=>?_
 have g:bN (t8 kd) aH aL u (ed d++[EY b]):=g;refine zK (A:=t8 kd) (.inl rfl) (l:=d.s.l) [ah 2,ah 3,ah 5,ah 6] KJ a6 (zO g 0 U rfl) F (f:=30) mx av (λw i j C D=>MB w i j d.s.c C D) E z λgs u t m B=>?_
 obtain⟨_,s2⟩:=back aH gs u t () (g.left.on m) B;exact s2.jN (iW kd) (.head _) (k · · · b)
def Qr(q:S8 kd)(F:aK.globals.size<=aL.heap.size){a:List Nat}(o:a∈[[58,59],[59,58]])(r:bN (t8 kd) aH aL u (ed d))(p:cc aK aH gs (bW (gG kd (a++([60,61,62]++T)) (oS h d)) base) u t 0)(k:∀gs u t b,bN (t8 kd) aH aL u (ed d)->cc aK aH gs (bW (gG kd T (uH (oS h d) d b)) base) u t 0->S7 aK bF gs u t):S7 aK bF gs u t:=by
 obtain⟨x,b6⟩:∃x,dK (t8 kd) base aH aL gs u t ⟨40,h,d,T,0,ed d⟩ x 6 400:=by
  simp only[List.mem_cons,iN,or_false]at o;rcases o with rfl|rfl
  .exact⟨_,⟨_,Ou kd q h d T,rfl⟩,a6,r,p⟩
  .exact⟨_,⟨_,Ov kd q h d T,rfl⟩,a6,r,p⟩
 refine b6.new (iW kd) (k3 kd) (.head _) λgs u t x b s1=>?_
 refine s1.gS (iW kd) (k3 kd) (.head _) λgs u t c cs E g z back=>?_
 have g:bN (t8 kd) aH aL u (ed d++[EX b]):=g;refine zK (A:=t8 kd) (.inl rfl) (l:=d.p.l) [ah 2,ah 6] KI a6 (zO g 3 U rfl) F (f:=30) mx av (λw i j C D=>MA w i j d.p.c C D) E z λgs u t m B=>?_
 obtain⟨_,s2⟩:=back aH gs u t () (g.left.on m) B;exact s2.jN (iW kd) (.head _) (k · · · b)
def Qs(o:S8 kd)(G:Kept bx)(F:aK.globals.size<=aL.heap.size){a:List Nat}(r:a∈[[63,64,65,66],[63,65,64,66],[64,63,65,66],[64,65,63,66],[64,65,66,63],[65,63,64,66],[65,64,63,66],[65,64,66,63]])(p:bN (t8 kd) aH aL u (ed d))(g:cc aK aH gs (bW (gG kd (a++[67,68,69]) (n1 h d)) (bx::rest)) u t 0)(k:∀gs u t,bN (t8 kd) aH aL u (ed d)->cc aK aH gs (S6 (eU kd bx (.bool true)) rest) u t 0->S7 aK bF gs u t):S7 aK bF gs u t:=by
 obtain⟨x,b6⟩:∃x,dK (t8 kd) (bx::rest) aH aL gs u t ⟨50,h,d,[],0,ed d⟩ x 6 400:=by
  simp only[List.mem_cons,iN,or_false]at r;rcases r with rfl|rfl|rfl|rfl|rfl|rfl|rfl|rfl
  .exact⟨_,⟨_,Ow kd o h d,rfl⟩,a6,p,g⟩
  .exact⟨_,⟨_,Ox kd o h d,rfl⟩,a6,p,g⟩
  .exact⟨_,⟨_,Oy kd o h d,rfl⟩,a6,p,g⟩
  .exact⟨_,⟨_,Oz kd o h d,rfl⟩,a6,p,g⟩
  .exact⟨_,⟨_,OA kd o h d,rfl⟩,a6,p,g⟩
  .exact⟨_,⟨_,OB kd o h d,rfl⟩,a6,p,g⟩
  .exact⟨_,⟨_,OC kd o h d,rfl⟩,a6,p,g⟩
  .exact⟨_,⟨_,OD kd o h d,rfl⟩,a6,p,g⟩
 refine b6.new (iW kd) (k3 kd) (.head _) λgs u t x b s1=>?_
 refine s1.gS (iW kd) (k3 kd) (.head _) λgs u t c cs E q z back=>?_
 have q:bN (t8 kd) aH aL u (ed d++[EZ b]):=q;refine zK (A:=t8 kd) (.inr rfl) (l:=d.q.l) [ah 20,ah 46,ah 48,ah 60] KL a6 (zO q 4 U rfl) F (f:=31) mx av (λw i j C D=>Rb w i j d.q.c C D) E z λgs u t m B=>?_
 obtain⟨_,s2⟩:=back aH gs u t () (q.left.on m) B;exact s2.leave (iW kd) G (.head _) k
end
section
variable{bF:Machine->Outcome->World->Trace->Prop}{aH:Nat->Prop}{aL u w:World}{gs:Array Goroutine}{t:Trace}{bx:Frame}{rest:List Frame}{kd:CallKind}
def xu{f g:Nat->Value}(e:kD f=kD g)(a:cc aK aH gs (bW (gG kd T f) base) u t 0):cc aK aH gs (bW (gG kd T g) base) u t 0:=by unfold gG at a ⊢;rw[<-e];exact a
def NW{b:Nat}{f g:Nat->Value}(e:kD f=kD g)(a:cc aK aH gs (bW (eE kd b f) base) u t 0):cc aK aH gs (bW (eE kd b g) base) u t 0:=by unfold eE at a ⊢;rw[<-e];exact a
def N7(f:S8 kd)(E:Kept bx)(i:aK.globals.size<=aL.heap.size)(c:bN (t8 kd) aH aL u (ed d))(D:cc aK aH gs (bW (eE kd 8 (jc h d)) (bx::rest)) u t 0)(k:∀gs u t,bN (t8 kd) aH aL u (ed d)->cc aK aH gs (S6 (eU kd bx (.bool true)) rest) u t 0->S7 aK bF gs u t):S7 aK bF gs u t:=by
 have b6:dK (t8 kd) (bx::rest) aH aL gs u t ⟨0,h,d,[],0,ed d⟩ (eE kd 8 (jc h d)) 4 400:=⟨⟨_,Oj kd f h d,rfl⟩,bg,c,D⟩
 refine b6.ord (iW kd) (k3 kd) (.head _) λgs u t x l F s1=>?_
 refine s1.jN (iW kd) (.head _) λgs u t c a=>?_
 obtain⟨G,r,H,w,I,z,J,B,K,C,rfl⟩:=M1 F;refine Qo f r c a λgs u t c a=>?_
 have j:kD (lL (jc h d) d)=kD (k8 (lL (jc h d) d) d):=av;refine Qp f w c (h:=lL (jc h d) d) (xu j a) λgs u t c a=>?_
 have o:kD (np (k8 (lL (jc h d) d) d) d)=kD (mz (np (k8 (lL (jc h d) d) d) d) d):=av;refine Qq f i z c (h:=np (k8 (lL (jc h d) d) d) d) (xu o a) λgs u t b c a=>?_
 have p:kD (p' (mz (np (k8 (lL (jc h d) d) d) d) d) d b)=kD (oS (p' (mz (np (k8 (lL (jc h d) d) d) d) d) d b) d):=av;refine Qr f i B c (h:=p' (mz (np (k8 (lL (jc h d) d) d) d) d) d b) (xu p a) λgs u t g c a=>?_
 have q:kD (uH (oS (p' (mz (np (k8 (lL (jc h d) d) d) d) d) d b) d) d g)=kD (n1 (uH (oS (p' (mz (np (k8 (lL (jc h d) d) d) d) d) d b) d) d g) d):=av;refine Qs f E i C c (h:=uH (oS (p' (mz (np (k8 (lL (jc h d) d) d) d) d) d b) d) d g) (xu q a) k
def Na(g:S8 kd)(C:Kept bx)(i:aK.globals.size<=w.heap.size)(D:∀b,aH b->b<w.heap.size)(j:cc aK aH gs (S6 (Frame.enter aK 5 #[] kd) (bx::rest)) w t 0)(k:∀en gs u t,(∀b,aH b->en b)->(∀b,en b->aH b\/w.heap.size<=b)->(∀b,en b->b<u.heap.size)->(∀b,b<w.heap.size->u.heap[b]?=w.heap[b]?)->Calm w u->cc aK en gs (S6 (eU kd bx (.bool true)) rest) u t 0->S7 aK bF gs u t):S7 aK bF gs w t:=by
 have o:((S6 (Frame.enter aK 5 #[] kd) (bx::rest)):Goroutine)=bW (eE kd 0 λ_=>undef) (bx::rest):=by
  have:(Frame.enter aK 5 #[] kd)=(eE kd 0 λ_=>undef).1:=by rcases g with rfl|rfl<;>kernel_rfl
  rw[this];rfl
 rw[o]at j;refine NZ g (bN.start w D) j λgs u t c a=>?_
 refine N0 g i c a λgs u t E c a=>?_
 refine N1 g i c a λgs u t F s c a=>?_
 refine N2 g i c a λgs u t z3 x y c a=>?_
 refine N3 g i c a λgs u t z4 c a=>?_
 refine N4 g i c a λgs u t z5 c a=>?_
 refine N5 g i c a λen gs u t G L p r z c a=>?_
 refine N6 g i c a λgs u t l q c a=>?_
 generalize B:up _ _=f at a;have e:kD f=kD (jc f ⟨l,s,x,y,L,p,q⟩):=by rw[<-B];kernel_rfl
 exact N7 g C i (d:=⟨l,s,x,y,L,p,q⟩) (h:=f) c.to (NW e a) λgs u t c a=>k en gs u t r z c.ej c.old c.calm a
end
end Go.aO
