/- A part of FeeChecks: no conditions. -/
import Derived.Test.YtejkocoljbaioaaGreatDoorRChecks0
set_option maxHeartbeats 8000000
set_option maxRecDepth 100000
set_option linter.all false
namespace Go.aO
open Go.Proofs Go.RowKit
section
variable{A:Array Func}
def TA(d:dw)(kind day:Int):Int×Int:=if jY d≠0 then(0,jY d)else if ¬(0<=kind/\kind<=d.kinds-1)then(0,3)else if ¬(0<=day/\day<=4)then(0,1)else(cX d.nC kind.toNat day.toNat,0)
def Tz(d:dw)(kind l f:Int):Int×Int:=if jY d≠0 then(0,jY d)else if ¬(0<=kind/\kind<=d.kinds-1)then(0,3)else if ¬((0<=l/\l<=119)/\(0<=f/\f<=119))then(0,1)else if f<l then(0,5)else(ha (d.first kind.toNat) (cX d.nC kind.toNat) l.toNat f.toNat,0)
def T4[S:Std A](w:World)(cT dx f0 d fG f1:Int)(b c:Nat)(hb:w.heap[b]?=some (.cells #[ah cT,ah dx,ah f0,ah d,ah fG,ah f1] 103))(aT:0<=cT/\cT<=dx)(I:0<=d/\d<=fG):
 Calls (ao A) 41 #[.slice (some ⟨b,0,none⟩) 2 c] w λe w'=>e=.returned .nilIface/\w.grownBy w' none:=by
 refine vG b 0 2 c U w (λi=>match i with|0=>cT|_=>d) (λi=>match i with|0=>dx|_=>fG) (λi=>match i with|0=>f0|_=>f1) (λi ad=>?_) (λi ad=>?_) (λi ad=>?_) (λi ad=>?_)
 .rw[aU hb];rcases i with _|_|i<;>first|rfl|omega
 .rw[aU hb];rcases i with _|_|i<;>first|rfl|omega
 .rw[aU hb];rcases i with _|_|i<;>first|rfl|omega
 .rcases i with _|_|i
  .exact aT
  .exact I
  .omega
def T5[S:Std A](w:World)(cT dx f0 d fG f1:Int)(b c:Nat)(hb:w.heap[b]?=some (.cells #[ah cT,ah dx,ah f0,ah d,ah fG,ah f1] 103))(f:Int)(g:(¬(0<=cT/\cT<=dx)/\f=f0)\/((0<=cT/\cT<=dx)/\¬(0<=d/\d<=fG)/\f=f1)):
 Calls (ao A) 41 #[.slice (some ⟨b,0,none⟩) 2 c] w λe w'=>e=.returned (.iface 152 (.agg #[ah f]))/\w.grownBy w' none:=by
 have H:=λj aI dk l=>TR (A:=A) b 0 2 c U w (λi=>match i with|0=>cT|_=>d) (λi=>match i with|0=>dx|_=>fG) (λi=>match i with|0=>f0|_=>f1)
  (λi ad=>by rw[aU hb];rcases i with _|_|i<;>first|rfl|omega) (λi ad=>by rw[aU hb];rcases i with _|_|i<;>first|rfl|omega) (λi ad=>by rw[aU hb];rcases i with _|_|i<;>first|rfl|omega) j aI dk l
 rcases g with⟨h,rfl⟩|⟨aT,h,rfl⟩
 .exact H 0 U (λi ad=>U) h
 .exact H 1 U (λi ad=>by obtain rfl:i=0:=U;exact aT) h
def Ui[S:Std A](d:dw)(fit:d.fit)(p:gz)(kind day:Int)(w:World)(h:iZ w d p)(ar:jY d≠0):
 Calls (ao A) 14 #[.agg (eB d p),ah kind,ah day] w λe w'=>e=.returned (.tuple #[ah 0,ah (jY d)])/\w.grownBy w' none:=by
 have f:=al (dU w (.cells (eB d p) 25) none);have i:=al (TW (A:=A) d fit p _ (h.keep f.out) ar);clear h;generalize jY d=c at *;have j:(c == 0)=false:=by simpa using ar
 go_enter (S.f Tryz.func14),Tryz.ntmps14;go_wp2_with (go_at_call 39;refine i.out.mono ?_;rintro e w2 ⟨rfl,ag⟩;have g:=al ag;clear ag)
 go_ret2
 exact⟨rfl,f.out.trans g.out⟩
def TY[S:Std A][P:hA A][N:Hi A](d:cC)(ok:d.ok)(p:eg)(kind day:Int)(w:World)(h:e' w d p)(f c:Int)(D:(f,c)∈pQ)(ar:c≠0)(l:(¬(0<=kind/\kind<=(d.kinds:Int)-1)/\f=0)\/((0<=kind/\kind<=(d.kinds:Int)-1)/\¬(0<=day/\day<=4)/\f=1)):
 Calls (ao A) 14 #[.agg (dv d p),ah kind,ah day] w λe w'=>e=.returned (.tuple #[ah 0,ah c])/\w.grownBy w' none:=by
 have ax:=ok.kinds;have g:=al (dU w (.cells (dv d p) 25) none);have B:=al (Ab (A:=A) d ok p _ (h.keep g.out));have q:=al λ(w:World) (b c:Nat) hb=>T5 (A:=A) w kind (d.kinds-1) 0 day 4 1 b c hb f l
 have z:=al λ(w:World)=>N.iy f c w D
 have G:(c == 0)=false:=by simpa using ar
 clear h l;go_enter (S.f Tryz.func14),Tryz.ntmps14;go_wp2_with (first|(go_at_call 39;refine B.out.mono ?_;rintro e w3 ⟨T,rfl,C,hb,ag⟩;have t0:w3.cell? ⟨T,0,none⟩=some (ah d.kinds):=(aU hb).trans rfl;have r:=al ag;clear hb ag C)|(go_at_call 41;refine(q.out _ _ _ (fM _ _)).mono ?_;rintro e E ⟨rfl,i⟩;have u:=al i;clear i)|(go_at_call 40;refine(z.out _).mono ?_;rintro e F ⟨rfl,j⟩;clear t0;have o:=al (((dU w3 _ _).trans u.out).trans j);clear j))
 go_ret2
 exact⟨rfl,g.out.trans (r.out.trans o.out)⟩
def Ud(t:Nat->Int)(j:Nat)(aI:j<5)(w:World):Sem.run (ao A) (Instr.index 97 (.agg #[ah (t 0),ah (t 1),ah (t 2),ah (t 3),ah (t 4)]) (ah j)) w=Result.ok (ah (t j)) w:=by
 rcases j with _|_|_|_|_|j
 all_goals first|omega|kernel_rfl
def Uj[S:Std A][P:hA A](d:cC)(ok:d.ok)(p:eg)(k:Nat)(aa:k<d.kinds)(day:Nat)(hd:day<5)(w:World)(h:e' w d p):
 Calls (ao A) 14 #[.agg (dv d p),ah k,ah day] w λe w'=>e=.returned (.tuple #[ah (cX d k day),ah 0])/\w.grownBy w' none:=by
 have ax:=ok.kinds;have g:=al (dU w (.cells (dv d p) 25) none);have E:=al (Ab (A:=A) d ok p _ (h.keep g.out));have F:=al λ(T:Nat) (w3:World) (f:(w.alloc (.cells (dv d p) 25)).heap.size<=T) (hb:w3.heap[T]?=some (.cells (nD d p) 100)) (ag:(w.alloc (.cells (dv d p) 25)).grownBy w3 none)=>
  have x:=sO ok (h.keep g.out) f hb ag;And.intro x (rk (A:=A) ok x.2.2.1 x.2.1 aa)
 have D:=al (v' (A:=A));have z:=al λ(w:World) (b c:Nat) hb=>T4 (A:=A) w k (d.kinds-1) 0 day 4 1 b c hb U U
 clear h;have J:=λw=>Ud (A:=A) (cX d k) day hd w
 go_enter (S.f Tryz.func14),Tryz.ntmps14;go_wp2_with (first|(go_at_call 39;refine E.out.mono ?_;rintro e w3 ⟨T,rfl,f,hb,ag⟩;have t0:w3.cell? ⟨T,0,none⟩=some (ah d.kinds):=(aU hb).trans rfl;have i:=al (F.out T w3 f hb ag);have B:=al ag;have G:=al f;clear hb ag f)|(go_at_call 41;refine(z.out _ _ _ (fM _ _)).mono ?_;rintro e K ⟨rfl,l⟩;have C:=al l;clear l)|(go_at_call 40;refine(D.out _).mono ?_;rintro e L ⟨rfl,o⟩;clear t0;have j:=((dU w3 _ _).trans C.out).trans o;have H:=al (i.out.1.1.more ok i.out.1.2.2.1 i.out.1.2.2.2 j);have r:=al j;clear j o)|(go_at_call 42;refine(i.out.2 _ H.out).mono ?_;rintro e M ⟨rfl,I,q⟩;have u:=al q;clear I q))
 go_ret2
 have Q:=G.out;have:=g.out.size;exact⟨rfl,kH (g.out.trans (B.out.trans r.out)) u.out U⟩
def Uk[S:Std A][P:hA A][N:Hi A](d:dw)(fit:d.fit)(p:gz)(kind day:Int)(w:World)(h:iZ w d p):
 Calls (ao A) 14 #[.agg (eB d p),ah kind,ah day] w λe w'=>e=.returned (.tuple #[ah (TA d kind day).1,ah (TA d kind day).2])/\w.grownBy w' none:=by
 unfold TA;by_cases ar:jY d=0;rotate_left
 .rw[if_pos ar]
  exact Ui d fit p kind day w h ar
 obtain⟨ok,_,i,_⟩:=IB ar;obtain⟨c,g,f⟩:=h.tf ar;rw[g,if_neg U];by_cases I:0<=kind/\kind<=d.kinds-1;rotate_left
 .rw[if_pos I]
  exact TY d.nC ok c kind day w f 0 3 a6 U (.inl ⟨U,rfl⟩)
 rw[if_neg U];by_cases J:0<=day/\day<=4;rotate_left
 .rw[if_pos J]
  exact TY d.nC ok c kind day w f 1 1 a6 U (.inr ⟨U,J,rfl⟩)
 rw[if_neg U];obtain⟨k,rfl⟩:∃k:Nat,kind=k:=⟨kind.toNat,U⟩
 obtain⟨l,rfl⟩:∃k:Nat,day=k:=⟨day.toNat,U⟩
 exact Uj d.nC ok c k U l U w f
def Ux[S:Std A](d:dw)(fit:d.fit)(p:gz)(kind left aP:Int)(w:World)(h:iZ w d p)(ar:jY d≠0):
 Calls (ao A) 46 #[.agg (eB d p),ah kind,.agg #[ah left,ah aP],.slice none 0 0] w λe w'=>(∃v,e=.returned (.tuple #[v,ah (jY d)]))/\w.grownBy w' none:=by
 have f:=al (Tw w (.cells (eB d p) 25) (.cells #[ah left,ah aP] 67)).2.2;have i:=al (TW (A:=A) d fit p _ (h.keep f.out) ar);clear h;generalize jY d=c at *;have j:(c == 0)=false:=by simpa using ar
 go_enter (S.f Tryz.func46),Tryz.ntmps46;go_wp2_with (go_at_call 39;refine i.out.mono ?_;rintro e w2 ⟨rfl,ag⟩;have g:=al ag;clear ag)
 go_ret2
 exact⟨⟨_,rfl⟩,f.out.trans g.out⟩
def Uv[S:Std A][P:hA A][N:Hi A](d:cC)(ok:d.ok)(p:eg)(kind left aP:Int)(w:World)(h:e' w d p)(f c:Int)(F:(f,c)∈pQ)(g:(¬(0<=kind/\kind<=(d.kinds:Int)-1)/\f=0)\/((0<=kind/\kind<=(d.kinds:Int)-1)/\¬(0<=left/\left<=119)/\f=2)\/((0<=kind/\kind<=(d.kinds:Int)-1)/\(0<=left/\left<=119)/\¬(0<=aP/\aP<=119)/\f=2)):
 Calls (ao A) 46 #[.agg (dv d p),ah kind,.agg #[ah left,ah aP],.slice none 0 0] w λe w'=>(∃v,e=.returned (.tuple #[v,ah c]))/\w.grownBy w' none:=by
 have ax:=ok.kinds;have Q:=Tw w (.cells (dv d p) 25) (.cells #[ah left,ah aP] 67);have C:=al (Ab (A:=A) d ok p _ (h.keep Q.2.2));have l:=al Q.2.2;have D:=al Q.2.1;have q:=al λ(w:World) (b c:Nat) hb=>T6 (A:=A) w kind (d.kinds-1) 0 left 119 2 aP 119 2 b c hb f g
 have B:=al λ(w:World)=>N.iy f c w F
 clear h g Q;go_enter (S.f Tryz.func46),Tryz.ntmps46;go_wp2_with (go_at_call 39;refine C.out.mono ?_;rintro e w3 ⟨T,rfl,E,hb,ag⟩;have g:=(ag.block _ aF aF).trans D.out;have I:=(aU (o:=0) g).trans rfl;have J:=(aU (o:=1) g).trans rfl;have t0:w3.cell? ⟨T,0,none⟩=some (ah d.kinds):=(aU hb).trans rfl;have r:=al ag;clear hb ag E g)
 go_region
 go_wp2_with (first|(go_at_call 41;refine Calls.mono (q.out (World.drew _) _ _ (fM w3 _)) ?_;rintro e G ⟨rfl,i⟩;have u:=al i;clear i)|(go_at_call 40;refine(B.out _).mono ?_;rintro e H ⟨rfl,j⟩;have z:=al j;clear j))
 go_ret2
 exact⟨⟨_,rfl⟩,(l.out.trans r.out).trans (((gv bT).trans u.out).trans z.out)⟩
def Uw[S:Std A][P:hA A][N:Hi A](d:cC)(ok:d.ok)(p:eg)(k left aP:Nat)(aa:k<d.kinds)(aj:left<120)(aD:aP<left)(w:World)(h:e' w d p):
 Calls (ao A) 46 #[.agg (dv d p),ah k,.agg #[ah left,ah aP],.slice none 0 0] w λe w'=>(∃v,e=.returned (.tuple #[v,ah 5]))/\w.grownBy w' none:=by
 have ax:=ok.kinds;have Q:=Tw w (.cells (dv d p) 25) (.cells #[ah left,ah aP] 67);have C:=al (Ab (A:=A) d ok p _ (h.keep Q.2.2));have l:=al Q.2.2;have D:=al Q.2.1;have q:=al λ(w:World) (b c:Nat) hb=>HH (A:=A) w k (d.kinds-1) 0 left 119 2 aP 119 2 U U U b c hb
 have B:=al λ(w:World)=>N.iy 4 5 w a6
 clear h Q;go_enter (S.f Tryz.func46),Tryz.ntmps46;go_wp2_with (go_at_call 39;refine C.out.mono ?_;rintro e w3 ⟨T,rfl,E,hb,ag⟩;have f:=(ag.block _ aF aF).trans D.out;have F:=(aU (o:=0) f).trans rfl;have G:=(aU (o:=1) f).trans rfl;have t0:w3.cell? ⟨T,0,none⟩=some (ah d.kinds):=(aU hb).trans rfl;have i:=al f;have r:=al ag;clear hb ag E f)
 go_region
 go_wp2_with (first|(go_at_call 41;refine Calls.mono (q.out (World.drew _) _ _ (fM w3 _)) ?_;rintro e H ⟨rfl,g⟩;have f:=(((gv (dU w3 _ none)).trans g).block _ (bu i.out) aF).trans i.out;have F:=(aU (o:=0) f).trans rfl;have G:=(aU (o:=1) f).trans rfl;have u:=al g;clear g f)|(go_at_call 40;refine(B.out _).mono ?_;rintro e I ⟨rfl,j⟩;have z:=al j;clear j))
 go_ret2
 exact⟨⟨_,rfl⟩,(l.out.trans r.out).trans (((gv bT).trans u.out).trans z.out)⟩
def TP[S:Std A](a:Array Value)(kind left aP c:Int)(ar:c≠0)(w:World)(h:∀w',w.grownBy w' none->Calls (ao A) 46 #[.agg a,ah kind,.agg #[ah left,ah aP],.slice none 0 0] w' λe w'=>(∃v,e=.returned (.tuple #[v,ah c]))/\w.grownBy w' none)(kd:Int)(v1 v2 v3:Value)(ae:a=#[ah kd,v1,v2,v3]):
 Calls (ao A) 16 #[.agg a,ah kind,ah left,ah aP] w λe w'=>e=.returned (.tuple #[ah 0,ah c])/\w.grownBy w' none:=by
 subst ae;have d:=al (Tw w (.cells #[ah kd,v1,v2,v3] 25) (.cells #[ah left,ah aP] 67)).2.2;have H:=al h;clear h;have g:(c == 0)=false:=by simpa using ar
 go_enter (S.f Tryz.func16),Tryz.ntmps16;go_wp2_with (go_at_call 46;refine(H.out _ d.out).mono ?_;rintro e w3 ⟨⟨v,rfl⟩,ag⟩;have f:=al ag;clear ag)
 go_ret2
 exact⟨rfl,f.out⟩
def Uc[S:Std A][P:hA A][N:Hi A](d:dw)(fit:d.fit)(p:gz)(kind left aP:Int)(w:World)(h:iZ w d p):
 Calls (ao A) 16 #[.agg (eB d p),ah kind,ah left,ah aP] w λe w'=>e=.returned (.tuple #[ah (Tz d kind left aP).1,ah (Tz d kind left aP).2])/\w.grownBy w' none:=by
 unfold Tz;by_cases ar:jY d=0;rotate_left
 .rw[if_pos ar]
  exact TP _ kind left aP _ ar w (λw' g=>(Ux d fit p kind left aP w' (h.keep g) ar).mono λe w2 x=>⟨x.1,g.trans x.2⟩) _ _ _ _ rfl
 obtain⟨ok,_,z,_⟩:=IB ar;obtain⟨j,q,o⟩:=h.tf ar;rw[q,if_neg U];have i:∀f c,(f,c)∈pQ->c≠0->_->_:=λf c r aT u=>TP (A:=A) _ kind left aP c aT w (λw' g=>(Uv d.nC ok j kind left aP w' (o.keep g) f c r u).mono λe w2 x=>⟨x.1,g.trans x.2⟩) _ _ _ _ rfl
 by_cases I:0<=kind/\kind<=d.kinds-1;rotate_left
 .rw[if_pos I]
  exact i 0 3 a6 U (.inl ⟨U,rfl⟩)
 rw[if_neg U];by_cases J:0<=left/\left<=119;rotate_left
 .rw[if_pos (λx=>J x.1)]
  exact i 2 1 a6 U (.inr (.inl ⟨U,J,rfl⟩))
 by_cases ax:0<=aP/\aP<=119;rotate_left
 .rw[if_pos (λx=>ax x.2)]
  exact i 2 1 a6 U (.inr (.inr ⟨U,J,ax,rfl⟩))
 rw[if_neg U];clear i;obtain⟨k,rfl⟩:∃k:Nat,kind=k:=⟨kind.toNat,U⟩
 obtain⟨l,rfl⟩:∃k:Nat,left=k:=⟨left.toNat,U⟩
 obtain⟨m,rfl⟩:∃k:Nat,aP=k:=⟨aP.toNat,U⟩
 by_cases aZ:(m:Int)<l
 .rw[if_pos aZ]
  exact TP _ k l m 5 U w (λw' g=>(Uw d.nC ok j k l m U U U w' (o.keep g)).mono λe w2 x=>⟨x.1,g.trans x.2⟩) _ _ _ _ rfl
 .rw[if_neg aZ]
  exact Kx d.nC ok j k U l m U U w o
def TV{d:dw}{kind:Int}(h:(if jY d≠0 then jY d else if 0<=kind/\kind<=d.kinds-1 then 0 else 3)=0):jY d=0/\0<=kind/\kind<=d.kinds-1:=by
 split at h
 .omega
 .split at h<;>omega
def TU{d:dw}{kind:Int}{α:Type}{x:Int->α}{y:α}(h:(if jY d≠0 then jY d else if 0<=kind/\kind<=d.kinds-1 then 0 else 3)≠0):(if jY d≠0 then x (jY d)else if ¬(0<=kind/\kind<=d.kinds-1)then x 3 else y)=x (if jY d≠0 then jY d else if 0<=kind/\kind<=d.kinds-1 then 0 else 3):=by
 split at h
 .rename_i I;rw[if_pos I,if_pos I]
 .rename_i I
  split at h
  .omega
  .rename_i J;rw[if_neg I,if_pos J,if_neg I,if_neg J]
def Up[S:Std A](d:dw)(fit:d.fit)(p:gz)(kind day:Int)(w:World)(h:iZ w d p):
 Calls (ao A) 15 #[.agg (eB d p),ah kind,ah day] w λe w'=>e=.returned (.tuple #[ah (TA d kind day).1,ah (TA d kind day).2])/\w.grownBy w' none:=by
 have o:=al (dU w (.cells (eB d p) 25) none);have f:=TZ (A:=A) d fit p kind _ (h.keep o.out);unfold TA;obtain⟨c,i⟩:∃c,(if jY d≠0 then jY d else if 0<=kind/\kind<=d.kinds-1 then 0 else 3)=c:=⟨_,rfl⟩
 by_cases ar:c=0;rotate_left
 .rw[TU (x:=λc=>((0,c):Int×Int)) (by rw[i];exact ar),i]
  rw[i]at f;have f:=al f;have H:(c == 0)=false:=by simpa using ar
  clear i h;go_enter (S.f Tryz.func15),Tryz.ntmps15;go_wp2_with (go_at_call 43;refine f.out.mono ?_;rintro e w2 ⟨rfl,ag⟩;have j:=al ag;clear ag)
  go_ret2
  exact⟨rfl,o.out.trans j.out⟩
 subst ar;rw[i]at f;obtain⟨aT,I⟩:=TV i;clear i;obtain⟨ok,_,u,_⟩:=IB aT;obtain⟨C,q,r⟩:=h.tf aT;rw[if_neg U,if_neg U];rw[q]at f ⊢;rw[q]at o;have f:=al f;by_cases J:0<=day/\day<=4;rotate_left
 .have ax:decide (0<=day/\day<=4)=false:=decide_eq_false J
  rw[if_pos J];clear u;go_enter (S.f Tryz.func15),Tryz.ntmps15;go_wp2_with (first|(go_at_call 43;refine f.out.mono ?_;rintro e w2 ⟨rfl,ag⟩;have j:=al ag;clear ag)|(go_at_call 44;refine(nh _ _ _ _).mono ?_;rintro e w' ⟨rfl,rfl⟩;rw[ax]))
  go_ret2
  exact⟨rfl,o.out.trans j.out⟩
 .have ax:decide (0<=day/\day<=4)=true:=decide_eq_true J
  rw[if_neg U];obtain⟨k,rfl⟩:∃k:Nat,kind=k:=⟨kind.toNat,U⟩
  obtain⟨l,rfl⟩:∃k:Nat,day=k:=⟨day.toNat,U⟩
  have B:=al λ(w':World) (g:w.grownBy w' none)=>T0 (A:=A) d.nC ok C k U l w' (r.keep g)
  clear r h u;simp only[Int.toNat_natCast];go_enter (S.f Tryz.func15),Tryz.ntmps15;go_wp2_with (first|(go_at_call 43;refine f.out.mono ?_;rintro e w2 ⟨rfl,ag⟩;obtain⟨D,E,F,G,_⟩:=yO ag;have j:=al (o.out.trans ag);clear ag)|(go_at_call 44;refine(nh _ _ _ _).mono ?_;rintro e w' ⟨rfl,rfl⟩;rw[ax])|(go_at_call 45;refine(B.out _ j.out).mono ?_;rintro e w3 ⟨rfl,ag⟩;have z:=al (j.out.trans ag);clear ag))
  go_ret2
  exact⟨rfl,z.out⟩
def Uo[S:Std A](l f:Int)(w:World):Calls (ao A) 49 #[ah l,ah f] w λe w'=>e=.returned (ah (if (0<=l/\l<=119)/\(0<=f/\f<=119)then 0 else 1))/\w=w':=by
 have e:(if (0<=l/\l<=119)/\(0<=f/\f<=119)then 0 else 1)=(if (decide (0<=l/\l<=119) && decide (0<=f/\f<=119))=true then(0:Int)else 1):=aF;rw[e];cases c:decide (0<=l/\l<=119)<;>cases d:decide (0<=f/\f<=119)
 all_goals (
  go_enter (S.f Tryz.func49),Tryz.ntmps49;go_wp2_with (first|(go_at_call_of 44 (ah l);refine(nh _ _ _ _).mono ?_;rintro e w' ⟨rfl,rfl⟩;rw[c])|(go_at_call_of 44 (ah f);refine(nh _ _ _ _).mono ?_;rintro e w' ⟨rfl,rfl⟩;rw[d]))
  go_ret;exact⟨rfl,rfl⟩)
def Un[S:Std A](d:dw)(fit:d.fit)(p:gz)(kind left aP:Int)(w:World)(h:iZ w d p):
 Calls (ao A) 17 #[.agg (eB d p),ah kind,ah left,ah aP] w λe w'=>e=.returned (.tuple #[ah (Tz d kind left aP).1,ah (Tz d kind left aP).2])/\w.grownBy w' none:=by
 have q:=al (dU w (.cells (eB d p) 25) none);have f:=TZ (A:=A) d fit p kind _ (h.keep q.out);unfold Tz;obtain⟨c,o⟩:∃c,(if jY d≠0 then jY d else if 0<=kind/\kind<=d.kinds-1 then 0 else 3)=c:=⟨_,rfl⟩
 by_cases ar:c=0;rotate_left
 .rw[TU (x:=λc=>((0,c):Int×Int)) (by rw[o];exact ar),o]
  rw[o]at f;have f:=al f;have L:(c == 0)=false:=by simpa using ar
  clear o h;go_enter (S.f Tryz.func17),Tryz.ntmps17;go_wp2_with (go_at_call 43;refine f.out.mono ?_;rintro e w2 ⟨rfl,ag⟩;have j:=al ag;clear ag)
  go_ret2
  exact⟨rfl,q.out.trans j.out⟩
 subst ar;rw[o]at f;obtain⟨aT,I⟩:=TV o;clear o;obtain⟨ok,_,z,_⟩:=IB aT;obtain⟨D,r,u⟩:=h.tf aT;rw[if_neg U,if_neg U];rw[r]at f ⊢;rw[r]at q;have f:=al f;have i:=Uo (A:=A) left aP;by_cases J:(0<=left/\left<=119)/\(0<=aP/\aP<=119)
 rotate_left
 .rw[if_pos J]
  rw[if_neg J]at i;have i:=al i;clear z;go_enter (S.f Tryz.func17),Tryz.ntmps17;go_wp2_with (first|(go_at_call 43;refine f.out.mono ?_;rintro e w2 ⟨rfl,ag⟩;have j:=al ag;clear ag)|(go_at_call 49;refine(i.out _).mono ?_;rintro e w' ⟨rfl,rfl⟩))
  go_ret2
  exact⟨rfl,q.out.trans j.out⟩
 .rw[if_neg (λx=>x J)]
  rw[if_pos J]at i;have i:=al i;obtain⟨k,rfl⟩:∃k:Nat,kind=k:=⟨kind.toNat,U⟩
  obtain⟨l,rfl⟩:∃k:Nat,left=k:=⟨left.toNat,U⟩
  obtain⟨m,rfl⟩:∃k:Nat,aP=k:=⟨aP.toNat,U⟩
  have C:=al λ(w':World) (g:w.grownBy w' none)=>Um (A:=A) d.nC ok D k U l m U U w' (u.keep g)
  clear u h z;simp only[Int.toNat_natCast];by_cases aZ:(m:Int)<l
  .have E:decide (m<l)=true:=k4
   rw[if_pos aZ];clear aZ;go_enter (S.f Tryz.func17),Tryz.ntmps17;go_wp2_with (first|(go_at_call 43;refine f.out.mono ?_;rintro e w2 ⟨rfl,ag⟩;have j:=al ag;clear ag)|(go_at_call 49;refine(i.out _).mono ?_;rintro e w' ⟨rfl,rfl⟩))
   go_ret2
   exact⟨rfl,q.out.trans j.out⟩
  .have E:decide (m<l)=false:=nd
   rw[if_neg aZ];clear aZ;go_enter (S.f Tryz.func17),Tryz.ntmps17;go_wp2_with (first|(go_at_call 43;refine f.out.mono ?_;rintro e w2 ⟨rfl,ag⟩;obtain⟨F,G,H,K,_⟩:=yO ag;have j:=al (q.out.trans ag);clear ag)|(go_at_call 49;refine(i.out _).mono ?_;rintro e w' ⟨rfl,rfl⟩)|(go_at_call 50;refine(C.out _ j.out).mono ?_;rintro e w3 ⟨rfl,ag⟩;have B:=al (j.out.trans ag);clear ag))
   go_ret2
   exact⟨rfl,B.out⟩
def qx.iV{w w':World}{d:dw}{p:gz}{T:Nat}(K:qx w d p w')(G:T<w.heap.size):iZ (iV T w') d p:=by
 obtain⟨⟨gg,l,hF,_⟩,⟨C,r,B,_⟩,z⟩:=K.plain;have one:∀{q:Option Addr} {n b:Nat} {f:Nat->Int},kU w' q n f->q=some ⟨b,0,none⟩->w.heap.size<=b->kU (Go.aO.iV T w') q n f:=λ{q n b f} h e hb ak=>by obtain⟨aE,o,c,k⟩:=h ak;rw[e]at c;cases c;exact⟨b,0,e,k.lK (ma U)⟩
 refine⟨one K.raw.first l hF,λak=>?_,λi ad=>?_,one K.raw.free r B⟩
 .obtain⟨g,D,cur,e,hb,J,ax⟩:=xk K.own ak
  obtain⟨b,o,c,k⟩:=K.raw.kM ak;injection e with ay E F
  rw[ay]at c;cases c;have j:g≠T:=U;exact⟨g,0,ay,λi ad=>⟨(World.cell?_of_block (ma j)).trans (k i ad).1,(World.cell?_of_block (ma j)).trans (k i ad).2⟩⟩
 .obtain⟨b,u,I,_⟩:=z i ad
  exact one (K.raw.cQ i ad) u I
structure TC(w:World)(T:Nat)(Tp:Nat->dw)(pp:Nat->gz)(B:Nat):Prop where
 small:∀i,(Tp i).small
 raw:∀i,iZ (iV T w) (Tp i) (pp i)
 cell:∀i,i<3->w.cell? ⟨B,i*4,none⟩=some (ah (Tp i).kinds)/\w.cell? ⟨B,i*4+1,none⟩=some (.slice (pp i).eh (Tp i).c' (pp i).cA)/\w.cell? ⟨B,i*4+2,none⟩=some (.slice (pp i).hH (Tp i).bk (pp i).dq)/\w.cell? ⟨B,i*4+3,none⟩=some (.slice (pp i).ei (Tp i).b' (pp i).dc)
 apart:B≠T
def TC.keep{w w':World}{T B:Nat}{c:Nat->dw}{d:Nat->gz}(h:TC w T c d B)(g:w.grownBy w' (some T)):TC w' T c d B:=by
 have hb:some B≠some T:=λe=>h.apart (bD e)
 exact⟨h.small,λi=>(h.raw i).keep (Bv g),λi ad=>⟨g.cell (h.cell i ad).1 hb,g.cell (h.cell i ad).2.1 hb,g.cell (h.cell i ad).2.2.1 hb,g.cell (h.cell i ad).2.2.2 hb⟩,h.apart⟩
def Hq.three{w w':World}{T B:Nat}{L:Value}{d:dw}{p:gz}(h:Hq w w' T L d p B)(q:d.small)(au:iZ (iV T w) d p):∃(g':Nat) (D:cC) (P:eg) (d2:dw) (c:gz),D.ok/\e' (iV T w') D P/\TC w' T (λi=>match i with|0=>d|1=>D.raw|_=>d2) (λi=>match i with|0=>p|1=>P.raw|_=>c) B/\g'<=1000/\fS w' T L g'/\w.grownBy w' (some T):=by
 obtain⟨g',D,P,d2,c,ok,s2,f,l,j,hb,ag,aA,g⟩:=h;refine⟨g',D,P,d2,c,ok,f,⟨λi=>?_,λi=>?_,λi ad=>?_,j⟩,ag,aA,g⟩
 .match i with
  | 0=>exact q
  | 1=>exact cC.rl ok
  |_+2=>exact s2
 .match i with
  | 0=>exact au.keep (Bv g)
  | 1=>exact f.raw
  |_+2=>exact l
 .match i,ad with
  | 0,_=>exact⟨(aU (o:=0) hb).trans rfl,(aU (o:=1) hb).trans rfl,(aU (o:=2) hb).trans rfl,(aU (o:=3) hb).trans rfl⟩
  | 1,_=>exact⟨(aU (o:=4) hb).trans rfl,(aU (o:=5) hb).trans rfl,(aU (o:=6) hb).trans rfl,(aU (o:=7) hb).trans rfl⟩
  | 2,_=>exact⟨(aU (o:=8) hb).trans rfl,(aU (o:=9) hb).trans rfl,(aU (o:=10) hb).trans rfl,(aU (o:=11) hb).trans rfl⟩
def Tq(a b c:Int)(j:Nat):Int:=match j with|0=>a|1=>b|_=>c
def TN{w:World}{b:Nat}{x y z:Int}{t:TypeId}(h:w.heap[b]?=some (.cells #[ah x,ah y,ah z] t)):gn w b 0 3 (Tq x y z):=by
 intro j aI;have:=aU (o:=0+j) h;rcases j with _|_|_|j
 .exact this
 .exact this
 .exact this
 .omega
end
end Go.aO
namespace Go.aO
attribute [-simp] Go.Sem.runT_eq
open Go.ChangeShapes Go.WideShapes Go.ChangeAt Go.RowKit Go.Proofs Go.Conc Go.ConcN Go.Deep Go.Joins
open Go.ConcM (OsLater)
section
section
variable{H:Type}{enc:TypeId×Value->H}{W:World}{base:Nat}{v:Value}{d:DataW H}{e9:List MemPlace}
def TS{fuel:Nat}{cs:List Value}{x:DataW H×List MemPlace}(h:DataW.trod enc Tryz.prog W 0 (λ_=>true) true fuel 29 cs=some x):∃a b,cs = [ah a,ah b]:=by
 obtain⟨⟨ba⟩,hu,aD⟩:=zg (t:=29) (l:=[(3,0),(3,1)]) av;match ba,aD with
 | [f0,f1],aD=>
  simp only[List.map_cons,List.map_nil,List.cons.injEq,Prod.mk.injEq,and_true]at aD;obtain⟨⟨t0,c⟩,t1,d⟩:=aD;obtain⟨f,g,n,_,aj,aT,I⟩:=trod_struct2 hu h;rw[show Tryz.prog.cellsOf 29=2 by kernel_rfl]at aj;match cs,aj with
  | [bx,c1],_=>
   rw[t0,c,g9.c3]at aT;rw[t1,d,g9.c3]at I;obtain⟨a,c8,_,_⟩:=DataW.trod_int g9.nE aT;obtain⟨b,ay,_,_⟩:=DataW.trod_int g9.nE I;have c8:[bx] = [ah a]:=c8;have ay:[c1] = [ah b]:=ay;cases c8;cases ay;exact⟨a,b,rfl⟩
def Ut{fuel:Nat}{cs:List Value}{x:DataW H×List MemPlace}(h:DataW.trod enc Tryz.prog W 0 (λ_=>true) true fuel 31 cs=some x):∃s:Tr,cs=s.v.toList:=by
 obtain⟨⟨ba⟩,hu,aD⟩:=zg (t:=31) (l:=[(3,0),(29,1),(29,3)]) av;match ba,aD with
 | [f0,f1,f2],aD=>
  simp only[List.map_cons,List.map_nil,List.cons.injEq,Prod.mk.injEq,and_true]at aD;obtain⟨⟨t0,f⟩,⟨t1,g⟩,t2,i⟩:=aD;obtain⟨j,o,p,n,_,aj,aT,I,J⟩:=trod_struct3 hu h;rw[show Tryz.prog.cellsOf 31=5 by kernel_rfl]at aj;match cs,aj with
  | [bx,c1,c2,c3,c4],_=>
   rw[t0,f,g9.c3]at aT;rw[t1,g,show Tryz.prog.cellsOf 29=2 by kernel_rfl]at I;rw[t2,i,show Tryz.prog.cellsOf 29=2 by kernel_rfl]at J;obtain⟨k,c8,_,_⟩:=DataW.trod_int g9.nE aT;obtain⟨a,b,ay⟩:=TS I;obtain⟨c,e,d⟩:=TS J;have c8:[bx] = [ah k]:=c8;have ay:[c1,c2] = [ah a,ah b]:=ay;have d:[c3,c4] = [ah c,ah e]:=d;cases c8;cases ay;cases d;exact⟨⟨k,a,b,c,e⟩,rfl⟩
def T3(aJ:Value.okWide Tryz.prog W .any base 31 v)(h:DataW.Trod enc Tryz.prog W 0 (λ_=>true) true 31 v d e9):∃s:Tr,v=.agg s.v:=by obtain⟨cs,rfl⟩:=Em (l:=[(3,0),(29,1),(29,3)]) av aJ;obtain⟨fuel,h⟩:=h;obtain⟨s,e⟩:=Ut h;have e:cs.toList=s.v.toList:=e;exact⟨s,congrArg _ (Array.ext' e)⟩
end
end
end Go.aO
