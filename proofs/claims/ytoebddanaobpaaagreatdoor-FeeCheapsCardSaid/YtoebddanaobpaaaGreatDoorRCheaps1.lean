/- A part of FeeCheaps: no conditions. -/
import Derived.Test.YtoebddanaobpaaaGreatDoorRCheaps0
set_option maxHeartbeats 8000000
set_option maxRecDepth 100000
set_option linter.all false
namespace Go.aO
open Go.Proofs Go.RowKit
def Vn(w:World)(o aV:Obj):((w.alloc o).alloc aV).heap[w.heap.size]?=some o/\((w.alloc o).alloc aV).heap[w.heap.size+1]?=some aV/\w.grownBy ((w.alloc o).alloc aV) none:=by refine⟨(Go.heap_alloc_old _ _ (by simp)).trans (fM _ _),?_,(World.grownBy_alloc _ _ _).trans (World.grownBy_alloc _ _ _)⟩;have:=fM (w.alloc o) aV;rwa [World.size_alloc]at this
def VH{w w':World}(g:w.grownBy w' none)(T:Option Nat):w.grownBy w' T:=⟨g.os,g.tape,g.output,g.size,λi ad _=>g.block i ad (by simp)⟩
section
variable{A:Array Func}
def Vq(a b c e:Int)(i:Nat):Int:=match i with|0=>a|1=>b|2=>c|_=>e
def VO(kinds kind left aP carry f:Int):Prop:=∃j,j<4/\(∀i,i<j->0<=Vq kind left aP carry i/\Vq kind left aP carry i<=Vq (kinds-1) 119 119 30 i)/\¬(0<=Vq kind left aP carry j/\Vq kind left aP carry j<=Vq (kinds-1) 119 119 30 j)/\f=Vq 0 2 2 3 j
def Wc[S:Std A](g c:Nat)(w:World)(kinds kind left aP carry f:Int)(d:VO kinds kind left aP carry f)(h:∀(j:Nat) u,([.int .i64 kind,.int .i64 (kinds-1),.int .i64 0,.int .i64 left,.int .i64 119,.int .i64 2,.int .i64 aP,.int .i64 119,.int .i64 2]++[.int .i64 carry,.int .i64 30,.int .i64 3]:List Value)[j]?=some u->w.cell? ⟨g,j,none⟩=some u):
 Calls (ao A) 45 #[.slice (some ⟨g,0,none⟩) 4 c] w λe w'=>e=.returned (.iface 146 (.agg #[.int .i64 f]))/\w.grownBy w' none:=by
 obtain⟨j,aI,hb,d,rfl⟩:=d;refine Wd (A:=A) g 0 4 c (by omega) w (Vq kind left aP carry) (Vq (kinds-1) 119 119 30) (Vq 0 2 2 3) (λi ad=>?_) (λi ad=>?_) (λi ad=>?_) j aI hb d
 .rcases i with _|_|_|_|i<;>first|exact h _ _ rfl|omega
 .rcases i with _|_|_|_|i<;>first|exact h _ _ rfl|omega
 .rcases i with _|_|_|_|i<;>first|exact h _ _ rfl|omega
def VG(c:Int)(w:World)(e:Ending)(w':World):Prop:=(∃v,e=.returned (.tuple #[v,.int .i64 c]))/\w.grownBy w' none
def WO[S:Std A](d:dw)(fit:d.fit)(p:gz)(kind left aP:Int)(b:Nat)(w:World)(h:iZ w d p)(ar:jY d≠0):
 Calls (ao A) 29 #[.agg (eB d p),.int .i64 kind,.agg #[.int .i64 left,.int .i64 aP],.slice (some ⟨b,0,none⟩) 1 1] w (VG (jY d) w):=by
 have f:=Lib.hid (Vn w (.cells (eB d p) 25) (.cells #[.int .i64 left,.int .i64 aP] 63)).2.2;have i:=Lib.hid (WA (A:=A) d fit p _ (h.keep f.out) ar);clear h;generalize jY d=c at *;have j:(c == 0)=false:=by simpa using ar
 have l:decide (c=0)=false:=by simpa using ar
 go_enter (S.f Tryz.func29),Tryz.ntmps29;go_wp2_with (go_at_call 37;refine i.out.mono ?_;rintro e w2 ⟨rfl,ag⟩;have g:=Lib.hid ag;clear ag)
 go_ret2
 exact⟨⟨_,rfl⟩,f.out.trans g.out⟩
def WM[S:Std A][P:hA A][N:Hi A](d:cC)(ok:d.ok)(p:eg)(kind left aP carry:Int)(w:World)(h:e' w d p)(b:Nat)(hm:w.heap[b]?=some (.cells #[.int .i64 carry,.int .i64 30,.int .i64 3] 76))(c f:Int)(aq:(f,c)∈pQ)(m:VO d.kinds kind left aP carry f):
 Calls (ao A) 29 #[.agg (dv d p),.int .i64 kind,.agg #[.int .i64 left,.int .i64 aP],.slice (some ⟨b,0,none⟩) 1 1] w (VG c w):=by
 have ax:=ok.kinds;have Q:=Vn w (.cells (dv d p) 25) (.cells #[.int .i64 left,.int .i64 aP] 63);have af:=Lib.hid (Ab (A:=A) d ok p _ (h.keep Q.2.2));have U:=Lib.hid Q.2.2;have am:=Lib.hid Q.2.1;have z:=Lib.hid ((Q.2.2.block b (bu hm) (by simp)).trans hm);have V:=Lib.hid λ(w:World) (g c:Nat) h=>Wc (A:=A) g c w d.kinds kind left aP carry f m h
 have ae:=Lib.hid λ(w:World)=>N.iy f c w aq
 obtain⟨i0,ad,I,J,K⟩:=K8 (A:=A);have aa:=Lib.hid ad;have ah:=Lib.hid I;have ai:=Lib.hid J;have aj:=Lib.hid K;clear h m Q hm ad I J K;go_enter (S.f Tryz.func29),Tryz.ntmps29;go_wp2_with (go_at_call 37;refine af.out.mono ?_;rintro e w3 ⟨T,rfl,a',hb,ag⟩;have m:=(ag.block _ (by simp) (by simp)).trans am.out;have aw:=(aU (o:=0) m).trans rfl;have ay:=(aU (o:=1) m).trans rfl;have t0:w3.cell? ⟨T,0,none⟩=some (.int .i64 d.kinds):=(aU hb).trans rfl;have X:=Lib.hid ag;have B:=Lib.hid ((ag.block b (bu z.out) (by simp)).trans z.out);clear hb ag a' m)
 go_region
 obtain⟨q,y⟩:∃W,W=(w3.alloc (.cells #[.int .i64 kind,.int .i64 (d.kinds-1),.int .i64 0,.int .i64 left,.int .i64 119,.int .i64 2,.int .i64 aP,.int .i64 119,.int .i64 2] 76)).drew:=⟨_,rfl⟩
 have r:w3.grownBy q none:=by rw[y];exact gv (World.grownBy_alloc _ _ _)
 have C:q.heap[w3.heap.size]?=some (.cells #[.int .i64 kind,.int .i64 (d.kinds-1),.int .i64 0,.int .i64 left,.int .i64 119,.int .i64 2,.int .i64 aP,.int .i64 119,.int .i64 2] 76):=by rw[y];exact fM _ _
 have L:=(r.block b (bu B.out) (by simp)).trans B.out;have own:q.ownsRow w3.heap.size 76 3 (.slice (some ⟨w3.heap.size,0,none⟩) 3 3) 3 [.int .i64 kind,.int .i64 (d.kinds-1),.int .i64 0,.int .i64 left,.int .i64 119,.int .i64 2,.int .i64 aP,.int .i64 119,.int .i64 2]:=
  ⟨rfl,.inr ⟨w3.heap.size,3,_,rfl,Nat.le_refl _,C,by omega,by unfold maxLen;omega,rfl,rfl⟩⟩
 have al:=Lib.hid own;have ak:=Lib.hid L;have l:=Lib.hid r;have av:w3.heap.size<=q.heap.size:=r.size;rw[<-y];clear own L C r y aw ay t0;go_wp2_with (first|(at_builtin;refine wpList_append_own_at _ rfl _ _ 144 rfl w3.heap.size 76 i0 (.agg #[.int .i64 0,.int .i64 0,.int .i64 0]) 3 24 (ao.underlying161 A) aa.out ah.out ai.out aj.out rfl (by decide) _ 3 _ rfl al.out ⟨b,0,none⟩ 1 1 [.int .i64 carry,.int .i64 30,.int .i64 3] rfl rfl (λj u aI=>by rcases j with _|_|_|j<;>first|(rw[show((⟨b,0,none⟩:Addr).add _)=⟨b,_,none⟩from rfl];rw[aU ak.out];exact aI)|(simp at aI)) (λu hu=>by simp at hu;rcases hu with rfl|rfl|rfl<;>rfl) (by unfold maxLen;omega) (by omega) av ?_;intro az M H G au aM;obtain⟨g,oH,rfl,ar,D⟩:=EC H (by omega);have R:=Lib.hid (V.out M g oH D);have n:=Lib.hid G;clear H G au aM D ar)|(go_at_call 45;refine R.out.mono ?_;rintro e aA ⟨rfl,E⟩;have Y:=Lib.hid E;clear E)|(go_at_call 44;refine(ae.out _).mono ?_;rintro e aB ⟨rfl,F⟩;have Z:=Lib.hid F;clear F))
 go_ret2
 have ap:w3.grownBy M none:=⟨n.out.os.trans l.out.os,n.out.tape.trans l.out.tape,n.out.output.trans l.out.output,Nat.le_trans l.out.size n.out.size,λi ad _=>(n.out.block i (Nat.lt_of_lt_of_le ad l.out.size) (by show some i≠some w3.heap.size;simp;omega)).trans (l.out.block i ad (by simp))⟩
 exact⟨⟨_,rfl⟩,(U.out.trans X.out).trans ((ap.trans Y.out).trans Z.out)⟩
def WN[S:Std A][eY:jx A][P:hA A][N:Hi A](d:cC)(ok:d.ok)(p:eg)(k left aP carry:Nat)(aa:k<d.kinds)(aA:left<120)(av:aP<left)(ar:carry<=30)(w:World)(h:e' w d p)(b:Nat)(hm:w.heap[b]?=some (.cells #[.int .i64 carry,.int .i64 30,.int .i64 3] 76)):
 Calls (ao A) 29 #[.agg (dv d p),.int .i64 k,.agg #[.int .i64 left,.int .i64 aP],.slice (some ⟨b,0,none⟩) 1 1] w (VG 5 w):=by
 have ax:=ok.kinds;have Q:=Vn w (.cells (dv d p) 25) (.cells #[.int .i64 left,.int .i64 aP] 63);have ah:=Lib.hid (Ab (A:=A) d ok p _ (h.keep Q.2.2));have X:=Lib.hid Q.2.2;have aq:=Lib.hid Q.2.1;have B:=Lib.hid ((Q.2.2.block b (bu hm) (by simp)).trans hm);have af:=Lib.hid λ(w:World)=>N.iy 4 5 w (by decide)
 obtain⟨i0,ad,I,J,K⟩:=K8 (A:=A);have ae:=Lib.hid ad;have aj:=Lib.hid I;have ak:=Lib.hid J;have al:=Lib.hid K;have aB:decide ((aP:Int)<left)=true:=by rw[decide_eq_true_iff];omega
 have aC:decide (aP<left)=true:=by simpa using av
 clear h Q hm ad I J K;go_enter (S.f Tryz.func29),Tryz.ntmps29;go_wp2_with (go_at_call 37;refine ah.out.mono ?_;rintro e w3 ⟨T,rfl,a',hb,ag⟩;have c:=(ag.block _ (by simp) (by simp)).trans aq.out;have R:=(aU (o:=0) c).trans rfl;have U:=(aU (o:=1) c).trans rfl;have t0:w3.cell? ⟨T,0,none⟩=some (.int .i64 d.kinds):=(aU hb).trans rfl;have ai:=Lib.hid c;have z:=Lib.hid ag;have C:=Lib.hid ((ag.block b (bu B.out) (by simp)).trans B.out);clear hb ag a' c)
 go_region
 obtain⟨m,q⟩:∃W,W=(w3.alloc (.cells #[.int .i64 k,.int .i64 (d.kinds-1),.int .i64 0,.int .i64 left,.int .i64 119,.int .i64 2,.int .i64 aP,.int .i64 119,.int .i64 2] 76)).drew:=⟨_,rfl⟩
 have n:w3.grownBy m none:=by rw[q];exact gv (World.grownBy_alloc _ _ _)
 have E:m.heap[w3.heap.size]?=some (.cells #[.int .i64 k,.int .i64 (d.kinds-1),.int .i64 0,.int .i64 left,.int .i64 119,.int .i64 2,.int .i64 aP,.int .i64 119,.int .i64 2] 76):=by rw[q];exact fM _ _
 have L:=(n.block b (bu C.out) (by simp)).trans C.out;have own:m.ownsRow w3.heap.size 76 3 (.slice (some ⟨w3.heap.size,0,none⟩) 3 3) 3 [.int .i64 k,.int .i64 (d.kinds-1),.int .i64 0,.int .i64 left,.int .i64 119,.int .i64 2,.int .i64 aP,.int .i64 119,.int .i64 2]:=
  ⟨rfl,.inr ⟨w3.heap.size,3,_,rfl,Nat.le_refl _,E,by omega,by unfold maxLen;omega,rfl,rfl⟩⟩
 have ap:=Lib.hid own;have am:=Lib.hid L;have f:=Lib.hid n;have az:w3.heap.size<=m.heap.size:=n.size;have aS:w.heap.size+1<w3.heap.size:=by have:=z.out.size;simp at this;omega
 rw[<-q];clear own L E n q R U t0;go_wp2_with (first|(at_builtin;refine wpList_append_own_at _ rfl _ _ 144 rfl w3.heap.size 76 i0 (.agg #[.int .i64 0,.int .i64 0,.int .i64 0]) 3 24 (ao.underlying161 A) ae.out aj.out ak.out al.out rfl (by decide) _ 3 _ rfl ap.out ⟨b,0,none⟩ 1 1 [.int .i64 carry,.int .i64 30,.int .i64 3] rfl rfl (λj u aI=>by rcases j with _|_|_|j<;>first|(rw[show((⟨b,0,none⟩:Addr).add _)=⟨b,_,none⟩from rfl];rw[aU am.out];exact aI)|(simp at aI)) (λu hu=>by simp at hu;rcases hu with rfl|rfl|rfl<;>rfl) (by unfold maxLen;omega) (by omega) az ?_;intro aD M H y ay aM;obtain⟨g,oH,rfl,aw,F⟩:=EC H (by omega);have V:=Lib.hid (HE (A:=A) g oH M k (d.kinds-1) 0 left 119 2 aP 119 2 carry 30 3 F (by omega) (by omega) (by omega) (by omega));have c:=(y.block (w.heap.size+1) (by omega) (by show some (w.heap.size+1)≠some w3.heap.size;simp;omega)).trans ((f.out.block _ aS (by simp)).trans ai.out);have D:=Lib.hid c;have l:=Lib.hid y;clear H y ay aM F aw c)|(go_at_call 45;refine V.out.mono ?_;rintro e aE ⟨rfl,r⟩;have c:=(r.block _ (bu D.out) (by simp)).trans D.out;have R:=(aU (o:=0) c).trans rfl;have U:=(aU (o:=1) c).trans rfl;have Y:=Lib.hid r;clear r c)|(go_at_call 44;refine(af.out _).mono ?_;rintro e aF ⟨rfl,G⟩;have Z:=Lib.hid G;clear G))
 go_ret2
 have au:w3.grownBy M none:=⟨l.out.os.trans f.out.os,l.out.tape.trans f.out.tape,l.out.output.trans f.out.output,Nat.le_trans f.out.size l.out.size,λi ad _=>(l.out.block i (Nat.lt_of_lt_of_le ad f.out.size) (by show some i≠some w3.heap.size;simp;omega)).trans (f.out.block i ad (by simp))⟩
 exact⟨⟨_,rfl⟩,(X.out.trans z.out).trans ((au.trans Y.out).trans Z.out)⟩
def Wk[S:Std A](kd:Int)(v1 v2 v3:Value)(kind left aP carry c:Int)(ar:c≠0)(w:World)(h:∀(w':World) (b:Nat),w.grownBy w' none->w'.heap[b]?=some (.cells #[.int .i64 carry,.int .i64 30,.int .i64 3] 76)->Calls (ao A) 29 #[.agg #[.int .i64 kd,v1,v2,v3],.int .i64 kind,.agg #[.int .i64 left,.int .i64 aP],.slice (some ⟨b,0,none⟩) 1 1] w' (VG c w)):
 Calls (ao A) 11 #[.agg #[.int .i64 kd,v1,v2,v3],.int .i64 kind,.int .i64 left,.int .i64 aP,.int .i64 carry] w λe w'=>e=.returned (.tuple #[.slice none 0 0,.int .i64 0,.int .i64 c])/\w.grownBy w' none:=by
 have Q:=Lib.hid (Vn w (.cells #[.int .i64 kd,v1,v2,v3] 25) (.cells #[.int .i64 carry,.int .i64 30,.int .i64 3] 76));have H:=Lib.hid h;clear h;have f:(c == 0)=false:=by simpa using ar
 have g:decide (c=0)=false:=by simpa using ar
 go_enter (S.f Tryz.func11),Tryz.ntmps11;go_wp2_with (go_at_call 29;refine(H.out _ _ Q.out.2.2 Q.out.2.1).mono ?_;rintro e w3 ⟨⟨v,rfl⟩,ag⟩;have d:=Lib.hid ag;clear ag)
 go_ret3
 exact⟨rfl,d.out⟩
def Vd(d:dw)(kind left aP carry:Int):Int:=if jY d≠0 then jY d else if ¬(0<=kind/\kind<=d.kinds-1)then 3 else if ¬((0<=left/\left<=119)/\(0<=aP/\aP<=119))then 1 else if ¬(0<=carry/\carry<=30)then 1 else if aP<left then 5 else 0
def Vo(d:dw)(kind left aP carry:Int):Vb:=if Vd d kind left aP carry=0 then U6 (hj d.nC kind.toNat) aP.toNat carry.toNat left.toNat else⟨[],0⟩
def Vg(w:World)(q:Option Addr)(l:List (Nat×Nat)):Prop:=l.length≠0->∃b,q=some ⟨b,0,none⟩/\rY w b 0 l.length (λi=>((l.getD i (0,0)).1:Nat)) (λi=>((l.getD i (0,0)).2:Nat))
def Vg.keep{w w':World}{q:Option Addr}{l:List (Nat×Nat)}(h:Vg w q l)(g:w.grownBy w' none):Vg w' q l:=λak=>by obtain⟨b,e,k⟩:=h ak;exact⟨b,e,k.keep g⟩
def Vv(w:World)(r:Vb)(x:Int)(e:Ending)(w':World):Prop:=∃q c,e=.returned (.tuple #[.slice q r.eW.length c,.int .i64 r.cost,.int .i64 x])/\Vg w' q r.eW/\w.grownBy w' none
def V2:∀(l:List dY) (i:Nat) b,l[i]?=some b->(nb l)[i*2]?=some (.int .i64 b.left)/\(nb l)[i*2+1]?=some (.int .i64 b.aP)
 | [],i,b,h=>by simp at h
 |a::l,0,b,h=>by simp at h;subst h;exact⟨rfl,rfl⟩
 |a::l,i+1,b,h=>by have c:=V2 l i b (by simpa using h);rw[show(i+1)*2+1=i*2+1+1+1 by omega,show(i+1)*2=i*2+1+1 by omega];simpa [nb]using c
def V0{a7:Nat->Nat->Int}{e carry:Nat}:∀(n left:Nat),left<=e->e-left<=n->∀b,b∈r' a7 e carry left->0<=b.left/\0<=b.aP
 |n,left,d,ak,b,hb=>by
  obtain⟨f,c⟩:=VY a7 e carry left d;have aT:0<=(b2 a7 e carry left).left/\0<=(b2 a7 e carry left).aP:=by rw[c.aj,c.aD];omega
  rcases c.gM with⟨_,I,_,J⟩|⟨l,I,J,ax,_,_,aZ,_,bs⟩
  .rw[VP I]at hb
   rcases List.mem_singleton.1 hb with rfl
   exact aT
  .have ar:=c.le
   rw[VQ I ax]at hb;rcases List.mem_cons.1 hb with rfl|hb
   .exact aT
   .match n,ak with
    | 0,ak=>omega
    |n+1,ak=>exact V0 n l ax (by omega) b hb
def Vv.of{w w':World}{a7:Nat->Nat->Int}{e carry left:Nat}(f:left<=e){v:Value}(az:w'.ownsRow w.heap.size 63 2 v (r' a7 e carry left).length (nb (r' a7 e carry left)))(g:w.grownBy w' none):
 Vv w (U6 a7 e carry left) 0 (.returned (.tuple #[v,.int .i64 (b2 a7 e carry left).cost,.int .i64 0])) w':=by
 obtain⟨o,f1,r1,n⟩:=VC (a7:=a7) (carry:=carry) f;have hlen:(U6 a7 e carry left).eW.length=(r' a7 e carry left).length:=by simp[U6,Vm]
 have j:(r' a7 e carry left).length≠0:=by rw[<-hlen,n];simp
 obtain⟨b,c,rfl,_,ar⟩:=EC az j;have key:∀i,i<(U6 a7 e carry left).eW.length->w'.cell? ⟨b,0+i*2,none⟩=some (.int .i64 (((U6 a7 e carry left).eW.getD i (0,0)).1:Nat))/\w'.cell? ⟨b,0+i*2+1,none⟩=some (.int .i64 (((U6 a7 e carry left).eW.getD i (0,0)).2:Nat)):=λi ad=>by
  have d:i<(r' a7 e carry left).length:=by omega
  have h:=List.getElem?_eq_getElem d;obtain⟨I,J⟩:=V2 _ i _ h;obtain⟨l,m⟩:=V0 (a7:=a7) (carry:=carry) _ left f (Nat.le_refl _) _ (List.getElem_mem d);have aA:(U6 a7 e carry left).eW.getD i (0,0)=((r' a7 e carry left)[i].left.toNat,(r' a7 e carry left)[i].aP.toNat):=by show(Vm (r' a7 e carry left)).getD i (0,0)=_;rw[List.getD_eq_getElem?_getD,Vm,List.getElem?_map,h];rfl
  rw[aA,Nat.zero_add];refine⟨(ar _ _ I).trans ?_,(ar _ _ J).trans ?_⟩
  .rw[Int.toNat_of_nonneg l]
  .rw[Int.toNat_of_nonneg m]
 refine⟨some ⟨b,0,none⟩,c,by rw[hlen];rfl,λ_=>⟨b,rfl,?_⟩,g⟩;exact⟨λi ad=>(key i ad).1,λi ad=>(key i ad).2⟩
def Wl[S:Std A][eY:jx A][P:hA A][N:Hi A](d:dw)(fit:d.fit)(p:gz)(kind left aP carry:Int)(w:World)(h:iZ w d p):
 Calls (ao A) 11 #[.agg (eB d p),.int .i64 kind,.int .i64 left,.int .i64 aP,.int .i64 carry] w (Vv w (Vo d kind left aP carry) (Vd d kind left aP carry)):=by
 have none:∀c,Vd d kind left aP carry=c->c≠0->(∀(w':World) (b:Nat),w.grownBy w' none->w'.heap[b]?=some (.cells #[.int .i64 carry,.int .i64 30,.int .i64 3] 76)->Calls (ao A) 29 #[.agg (eB d p),.int .i64 kind,.agg #[.int .i64 left,.int .i64 aP],.slice (some ⟨b,0,none⟩) 1 1] w' (VG c w))->Calls (ao A) 11 #[.agg (eB d p),.int .i64 kind,.int .i64 left,.int .i64 aP,.int .i64 carry] w (Vv w (Vo d kind left aP carry) (Vd d kind left aP carry)):=λc e ar u=>by rw[Vo,e,if_neg ar];refine(Wk (A:=A) d.kinds _ _ _ kind left aP carry c ar w u).mono ?_;rintro _ w' ⟨rfl,g⟩;exact⟨_,_,rfl,λak=>absurd rfl ak,g⟩
 by_cases ar:jY d=0;rotate_left
 .refine none (jY d) (by rw[Vd,if_pos ar]) ar λw' b g _=>(WO d fit p kind left aP b w' (h.keep g) ar).mono λe w2 x=>⟨x.1,g.trans x.2⟩
 obtain⟨ok,_,B,_⟩:=IB ar;obtain⟨n,o,a'⟩:=h.tf ar;have j:∀c f,Vd d kind left aP carry=c->(f,c)∈pQ->c≠0->VO d.nC.kinds kind left aP carry f->_:=λc f e r aT z=>none c e aT λw' b g hm=>by rw[o];exact(WM d.nC ok n kind left aP carry w' (a'.keep g) b hm c f r z).mono λe w2 x=>⟨x.1,g.trans x.2⟩
 by_cases I:0<=kind/\kind<=d.kinds-1;rotate_left
 .exact j 3 0 (by rw[Vd,if_neg (by omega),if_pos I]) (by decide) (by omega) ⟨0,by omega,λi ad=>by omega,by show ¬(0<=kind/\kind<=(d.nC.kinds:Int)-1);omega,rfl⟩
 have q:0<=kind/\kind<=(d.nC.kinds:Int)-1:=by omega
 by_cases J:0<=left/\left<=119;rotate_left
 .exact j 1 2 (by rw[Vd,if_neg (by omega),if_neg (by omega),if_pos (λx=>J x.1)]) (by decide) (by omega) ⟨1,by omega,λi ad=>by obtain rfl:i=0:=(by omega);exact q,J,rfl⟩
 by_cases ax:0<=aP/\aP<=119;rotate_left
 .exact j 1 2 (by rw[Vd,if_neg (by omega),if_neg (by omega),if_pos (λx=>ax x.2)]) (by decide) (by omega) ⟨2,by omega,λi ad=>by rcases i with _|_|i<;>first|exact q|exact J|omega,ax,rfl⟩
 by_cases aZ:0<=carry/\carry<=30;rotate_left
 .exact j 1 3 (by rw[Vd,if_neg (by omega),if_neg (by omega),if_neg (by omega),if_pos aZ]) (by decide) (by omega) ⟨3,by omega,λi ad=>by rcases i with _|_|_|i<;>first|exact q|exact J|exact ax|omega,aZ,rfl⟩
 clear j;obtain⟨k,rfl⟩:∃k:Nat,kind=k:=⟨kind.toNat,by omega⟩
 obtain⟨l,rfl⟩:∃k:Nat,left=k:=⟨left.toNat,by omega⟩
 obtain⟨m,rfl⟩:∃k:Nat,aP=k:=⟨aP.toNat,by omega⟩
 obtain⟨y,rfl⟩:∃k:Nat,carry=k:=⟨carry.toNat,by omega⟩
 by_cases bs:(m:Int)<l
 .refine none 5 (by rw[Vd,if_neg (by omega),if_neg (by omega),if_neg (by omega),if_neg (by omega),if_pos bs]) (by omega) λw' b g hm=>?_
  rw[o];exact(WN d.nC ok n k l m y (by omega) (by omega) (by omega) (by omega) w' (a'.keep g) b hm).mono λe w2 x=>⟨x.1,g.trans x.2⟩
 .have c8:Vd d k l m y=0:=by rw[Vd,if_neg (by omega),if_neg (by omega),if_neg (by omega),if_neg (by omega),if_neg bs]
  rw[Vo,c8,if_pos rfl,o];refine(Iz (A:=A) d.nC ok n k (by omega) l m (by omega) (by omega) y (by omega) w a').mono ?_;rintro _ w' ⟨v,rfl,az,g⟩;exact Vv.of (by omega) az g
def Wy[S:Std A](q g2:Option Addr)(l:List (Nat×Nat))(c bp:Nat)(ak:l.length<=100000)(w:World)(I:Vg w q l)(J:Vg w g2 l):
 Calls (ao A) 13 #[.slice q l.length c,.slice g2 l.length bp] w λe w'=>e=.returned (.bool true)/\w.grownBy w' none:=by
 by_cases aT:l.length=0
 .rw[aT]
  clear I J ak aT;go_enter (S.f Tryz.func13),Tryz.ntmps13;go_wp2;go_loopw [5] (λi wr=>i=.int .i64 0/\w.grownBy wr none) (λi _=>0)
  case atStart=>exact⟨rfl,World.grownBy.refl _ _⟩
  case round=>
   obtain⟨rfl,ag⟩:=hrel;go_wp2;go_ret;exact⟨rfl,ag⟩
 .obtain⟨b,rfl,k1⟩:=I aT
  obtain⟨aE,rfl,cn⟩:=J aT;exact LD b 0 aE 0 l.length c bp ak _ _ w k1 cn
end
end Go.aO
