/- A part of FeeCheaps: no conditions. -/
import Derived.Test.YtoebddanaobpaaaGreatDoorRCheaps1
set_option maxHeartbeats 8000000
set_option maxRecDepth 100000
set_option linter.all false
namespace Go.aO
open Go.Proofs Go.RowKit
section
variable{A:Array Func}
section
variable{F:Array Func}
@[simp] theorem ao.W2(w:World):Sem.run (ao F) (Go.sizeOf 37) w=Result.ok 1 w:=by kernel_rfl
@[simp] theorem ao.WZ(w:World):Sem.run (ao F) (isAgg 37) w=Result.ok false w:=by kernel_rfl
@[simp] theorem ao.WS:(ao F).underlying 90=some (TypeDesc.slice 92):=by kernel_rfl
@[simp] theorem ao.W1(w:World):Sem.run (ao F) (Go.sizeOf 92) w=Result.ok 2 w:=by kernel_rfl
@[simp] theorem ao.WR:(ao F).underlying 92=some (TypeDesc.struct #[⟨ "Terms",37,0,false, "", "",0⟩,⟨ "Pennies",3,1,false, "", "",24⟩]):=by kernel_rfl
@[simp] theorem ao.W0(w:World):Sem.run (ao F) (underlying 92) w=Result.ok (TypeDesc.struct #[⟨ "Terms",37,0,false, "", "",0⟩,⟨ "Pennies",3,1,false, "", "",24⟩]) w:=by kernel_rfl
@[simp] theorem ao.WY(w:World):Sem.run (ao F) (isAgg 92) w=Result.ok true w:=by kernel_rfl
@[simp] theorem ao.W3(w:World):Sem.run (ao F) (zeroValue 92) w=Result.ok (Value.agg #[Value.slice none 0 0,Value.int IntKind.i64 0]) w:=by kernel_rfl
end
def Wh[S:Std A](a b:Vb)(f g:Option Addr)(vK cg:Nat)(G:a.eW.length<=1000)(w:World)(I:Vg w f a.eW)(J:Vg w g b.eW):
 Calls (ao A) 59 #[.agg #[.slice f a.eW.length vK,.int .i64 a.cost],.agg #[.slice g b.eW.length cg,.int .i64 b.cost]] w λe w'=>e=.returned (.bool (Vt a b))/\w.grownBy w' none:=by
 obtain⟨c,x⟩:=a;obtain⟨lb,y⟩:=b;dsimp only at G I J ⊢;by_cases ar:x=y;rotate_left
 .have R:(x !=y)=true:=by simpa using ar
  rw[Vt,if_pos ar];have Q:=Lib.hid (Vn w (.cells #[.slice f c.length vK,.int .i64 x] 92) (.cells #[.slice g lb.length cg,.int .i64 y] 92));clear I J ar;go_enter (S.f Tryz.func59),Tryz.ntmps59;go_wp2;go_ret;exact⟨rfl,Q.out.2.2⟩
 subst ar;by_cases ak:c.length=lb.length;rotate_left
 .have T:((c.length:Int) !=lb.length)=true:=by simp;omega
  rw[Vt,if_neg (by simp),if_pos ak];have Q:=Lib.hid (Vn w (.cells #[.slice f c.length vK,.int .i64 x] 92) (.cells #[.slice g lb.length cg,.int .i64 x] 92));clear I J ak;go_enter (S.f Tryz.func59),Tryz.ntmps59;go_wp2;go_ret;exact⟨rfl,Q.out.2.2⟩
 rw[Vt,if_neg (by simp),if_neg (by simpa using ak),<-ak];dsimp only;have Q:=Lib.hid (Vn w (.cells #[.slice f c.length vK,.int .i64 x] 92) (.cells #[.slice g c.length cg,.int .i64 x] 92));have F:=Lib.hid ak;have B:=Lib.hid I;have C:=Lib.hid J;clear I J ak;go_enter (S.f Tryz.func59),Tryz.ntmps59;go_wp2;go_loopw [5] (λi wr=>∃k:Nat,k<=c.length/\i=.int .i64 k/\lexB (c.drop k) (lb.drop k)=lexB c lb/\((w.alloc (.cells #[.slice f c.length vK,.int .i64 x] 92)).alloc (.cells #[.slice g c.length cg,.int .i64 x] 92)).grownBy wr none) (λi _=>c.length-numOf i)
 case atStart=>exact⟨0,by omega,by go_num,rfl,World.grownBy.refl _ _⟩
 case round=>
  obtain⟨k,aa,rfl,m,ag⟩:=hrel;have V:=(aU (o:=0) ((ag.block _ (by simp only[World.size_alloc];omega) (by simp)).trans Q.out.1)).trans rfl;have W:=(aU (o:=0) ((ag.block _ (by simp) (by simp)).trans Q.out.2.1)).trans rfl;have l:=Q.out.2.2.trans ag;have GW:=Lib.hid l;have E:=Lib.hid ag;by_cases aS:k<c.length
  .have H:decide ((k:Int)<c.length)=true:=by simpa using aS
   have q1:(k:Int)<c.length:=by omega
   have U:(0:Int)<=k:=by omega
   have ak:=F.out;obtain⟨M,rfl,t1⟩:=B.out (by omega);obtain⟨P,rfl,t2⟩:=C.out (by omega);have t1:=t1.keep l;have t2:=t2.keep l;have r:=t1.bx k aS;have K:=t1.c1 k aS;have z:=t2.bx k (by omega);have L:=t2.c1 k (by omega);have ay:=List.getElem?_eq_getElem aS;have q:=List.getElem?_eq_getElem (show k<lb.length by omega);rw[List.getD_eq_getElem?_getD,ay,Option.getD_some,Nat.zero_add]at r K;rw[List.getD_eq_getElem?_getD,q,Option.getD_some,Nat.zero_add]at z L;have p:=Lib.hid ((Ww ay q).symm.trans m);generalize c[k]=u at *;generalize lb[k]=v at *;have s1:w.heap.size+1<wr.heap.size:=by have:=ag.size;simp only[World.size_alloc]at this;omega
   have b6:w.heap.size<wr.heap.size:=by omega
   have qf:=lD r;have ej:=lD z;dsimp only at qf ej;clear t1 t2 l ag m ay q ak;go_wp2;go_big_region
   all_goals (
    by_cases d:u.1=v.1
    .have fG:((u.1:Int) !=v.1)=false:=by simp[d]
     by_cases j:u.2=v.2
     .have gK:((u.2:Int) !=v.2)=false:=by simp[j]
      have h:=Lib.hid d;have n:=Lib.hid j;clear d j;go_wp2;go_roundw
      case rel=>exact⟨k+1,by omega,by go_num,by rw[<-p.out,if_neg (by simpa using h.out),if_neg (by simpa using n.out)],E.out.trans (gv ((World.grownBy_alloc _ _ _).trans (World.grownBy_alloc _ _ _)))⟩
      case measure=>simp[numOf];omega
     .have gK:((u.2:Int) !=v.2)=true:=by simp;omega
      have h:=Lib.hid d;have n:=Lib.hid j;clear d j;go_wp2;go_ret;exact⟨by rw[<-p.out,if_neg (by simpa using h.out),if_pos n.out];rfl,GW.out.trans (gv ((World.grownBy_alloc _ _ _).trans (World.grownBy_alloc _ _ _)))⟩
    .have fG:((u.1:Int) !=v.1)=true:=by simp;omega
     have h:=Lib.hid d;clear d;go_wp2;go_ret;exact⟨by rw[<-p.out,if_pos h.out];rfl,GW.out.trans (gv ((World.grownBy_alloc _ _ _).trans (World.grownBy_alloc _ _ _)))⟩)
  .obtain rfl:k=c.length:=by omega
   have H:decide ((c.length:Int)<c.length)=false:=by simp
   have e:lexB c lb=false:=by rw[<-m,List.drop_length];rfl
   have D:=Lib.hid e;clear m ag l e;go_wp2;go_ret;exact⟨by rw[D.out];rfl,GW.out⟩
end
section
variable{A:Array Func}
def WG[S:Std A](d:cC)(ok:d.ok)(p:eg)(k:Nat)(aa:k<d.kinds)(l f:Nat)(g:l<120)(c:f<120)(w:World)(h:e' w d p):
 Calls (ao A) 58 #[.agg (dv d p),.int .i64 k,.int .i64 l,.int .i64 f] w λe w'=>e=.returned (.int .i64 (hj d k l f))/\w.grownBy w' none:=by
 rw[hj,if_pos c];exact UQ d ok p k aa l f g c w h
def Vl(l:List (Nat×Nat)):List Value:=l.flatMap λx=>[.int .i64 x.1,.int .i64 x.2]
def VK:∀(l:List (Nat×Nat)) (i:Nat) x,l[i]?=some x->(Vl l)[i*2]?=some (.int .i64 x.1)/\(Vl l)[i*2+1]?=some (.int .i64 x.2)
 | [],i,x,h=>by simp at h
 |a::l,0,x,h=>by simp at h;subst h;exact⟨rfl,rfl⟩
 |a::l,i+1,x,h=>by have c:=VK l i x (by simpa using h);rw[show(i+1)*2+1=i*2+1+1+1 by omega,show(i+1)*2=i*2+1+1 by omega];simpa [Vl]using c
def VR:∀l:List (Nat×Nat),(Vl l).length=l.length*2
 | []=>rfl
 |a::l=>by show([_,_]++Vl l).length=_;rw[List.length_append,VR l];simp;omega
def Ws(l:List (Nat×Nat)):∀u,u∈Vl l->u.oneCell'=true:=λu h=>by
 obtain⟨x,_,h⟩:=List.mem_flatMap.1 h;rcases List.mem_cons.1 h with rfl|h
 .rfl
 .rcases List.mem_singleton.1 h with rfl
  rfl
def Wr{w:World}{b:Nat}{l:List (Nat×Nat)}(h:rY w b 0 l.length (λi=>((l.getD i (0,0)).1:Nat)) (λi=>((l.getD i (0,0)).2:Nat)))(j:Nat)(u:Value)(aI:(Vl l)[j]?=some u):w.cell? ⟨b,j,none⟩=some u:=by
 have aS:j<(Vl l).length:=(List.getElem?_eq_some_iff.1 aI).1;rw[VR]at aS;have ad:j / 2<l.length:=by omega
 have f:=List.getElem?_eq_getElem ad;obtain⟨c,d⟩:=VK l _ _ f;have bx:=h.bx _ ad;have c1:=h.c1 _ ad;rw[List.getD_eq_getElem?_getD,f,Option.getD_some,Nat.zero_add]at bx c1;rcases Nat.mod_two_eq_zero_or_one j with m|m
 .rw[show j / 2*2=j by omega]at c bx
  rw[c]at aI;cases aI;exact bx
 .rw[show j / 2*2+1=j by omega]at d c1
  rw[d]at aI;cases aI;exact c1
def WQ{w:World}{b:Nat}{l:List (Nat×Nat)}(h:∀j u,(Vl l)[j]?=some u->w.cell? ⟨b,j,none⟩=some u):Vg w (some ⟨b,0,none⟩) l:=λ_=>by
 refine⟨b,rfl,⟨λi ad=>?_,λi ad=>?_⟩⟩
 .rw[List.getD_eq_getElem?_getD,List.getElem?_eq_getElem ad,Option.getD_some,Nat.zero_add]
  exact h _ _ (VK l _ _ (List.getElem?_eq_getElem ad)).1
 .rw[List.getD_eq_getElem?_getD,List.getElem?_eq_getElem ad,Option.getD_some,Nat.zero_add]
  exact h _ _ (VK l _ _ (List.getElem?_eq_getElem ad)).2
def VF(w:World)(d:Nat)(a7:Nat->Nat->Int)(e carry bY:Nat):Prop:=∀h,bY<h->h<=e->∃q c,w.cell? ⟨d,h*2,none⟩=some (.slice q (U6 a7 e carry h).eW.length c)/\w.cell? ⟨d,h*2+1,none⟩=some (.int .i64 (U6 a7 e carry h).cost)/\Vg w q (U6 a7 e carry h).eW
def VF.keep{w w':World}{d:Nat}{a7:Nat->Nat->Int}{e carry bY:Nat}(h:VF w d a7 e carry bY)(g:w.grownBy w' none):VF w' d a7 e carry bY:=λi I J=>by obtain⟨q,c,k1,cn,f⟩:=h i I J;exact⟨q,c,g.cell k1 (by simp),g.cell cn (by simp),f.keep g⟩
structure Vs(w Va:World)(B:Nat)(b:Vb)(W:World):Prop where
 cu:∃q c,W.heap[B]?=some (.cells #[.slice q b.eW.length c,.int .i64 b.cost] 92)/\Vg W q b.eW/\∀r,q=some ⟨r,0,none⟩->r≠B/\w.heap.size+2<=r
 fY:Va.grownBy W (some B)
def Vg.uq{w w':World}{q:Option Addr}{l:List (Nat×Nat)}{B:Nat}(h:Vg w q l)(g:w.grownBy w' (some B))(c:∀r,q=some ⟨r,0,none⟩->r≠B):Vg w' q l:=λak=>by obtain⟨b,e,k⟩:=h ak;have hb:=c b e;exact⟨b,e,⟨λi ad=>g.cell (k.bx i ad) (λx=>hb (Option.some.inj x)),λi ad=>g.cell (k.c1 i ad) (λx=>hb (Option.some.inj x))⟩⟩
def Vs.keep{w d:World}{B:Nat}{b:Vb}{W d':World}(h:Vs w d B b W)(g:W.grownBy d' none):Vs w d B b d':=by obtain⟨q,c,I,J,ax⟩:=h.cu;exact⟨⟨q,c,(g.block _ (bu I) (by simp)).trans I,J.keep g,ax⟩,h.fY.trans (VH g _)⟩
def Vs.put{w d:World}{B:Nat}{b aE:Vb}{W:World}(h:Vs w d B b W){q:Option Addr}{c:Nat}(i:Vg W q aE.eW)(f:∀r,q=some ⟨r,0,none⟩->r≠B/\w.heap.size+2<=r):Vs w d B aE ((W.setCell ⟨B,0,none⟩ (.slice q aE.eW.length c)).setCell ⟨B,1,none⟩ (.int .i64 aE.cost)):=by obtain⟨j,bx,I,J,ax⟩:=h.cu;have ay:=cU (o:=1) (v:=.int .i64 aE.cost) (cU (o:=0) (v:=.slice q aE.eW.length c) I);have g:W.grownBy ((W.setCell ⟨B,0,none⟩ (.slice q aE.eW.length c)).setCell ⟨B,1,none⟩ (.int .i64 aE.cost)) (some B):=e7 (e7 (World.grownBy.refl _ _));exact⟨⟨q,c,ay,i.uq g (λr e=>(f r e).1),f⟩,h.fY.trans g⟩
section
variable{F:Array Func}[Std F]
@[simp] theorem ao.WX:c7 F 59:=dL Tryz.func59
@[simp] theorem ao.WW:c7 F 35:=dL Tryz.func35
end
def WJ:((ao A).info? 92).map (·.size)=some 2:=by kernel_rfl
def Wg[S:Std A][eY:jx A](d:cC)(ok:d.ok)(p:eg)(k:Nat)(aa:k<d.kinds)(left e carry:Nat)(b2:left<=e)(he:e<120)(ar:carry<=30)(aQ aN bW:Nat)(ak:e<aN)(w:World)(h:e' w d p)(fD:VF w aQ (hj d k) e carry left):
 Calls (ao A) 35 #[.agg (dv d p),.int .i64 k,.int .i64 left,.int .i64 e,.int .i64 carry,.slice (some ⟨aQ,0,none⟩) aN bW] w λx w'=>∃q c,x=.returned (.agg #[.slice q (U6 (hj d k) e carry left).eW.length c,.int .i64 (U6 (hj d k) e carry left).cost])/\Vg w' q (U6 (hj d k) e carry left).eW/\(∀r,q=some ⟨r,0,none⟩->w.heap.size<=r)/\w.grownBy w' none:=by
 have a4:=Lib.hid λ(V:World) (g:w.grownBy V none) (f:Nat) (am:f<120)=>WG (A:=A) d ok p k aa left f (by omega) am V (h.keep g)
 have bJ:=Lib.hid λ(V:World) (g:w.grownBy V none)=>fD.keep g
 have Q:=Lib.hid (Vn w (.cells (dv d p) 25) (.cells #[.slice none 0 0,.int .i64 0] 92));clear h fD;go_enter (S.f Tryz.func35),Tryz.ntmps35;go_upto_region 2 with(go_at_call 58;refine(a4.out _ (Q.out.2.2.trans (World.grownBy_alloc _ _ _)) e he).mono ?_;rintro x n ⟨rfl,ag⟩;have M:=Lib.hid ag;clear ag)
 have bn:w.heap.size+3<=n.heap.size:=by have:=M.out.size;simp only[World.size_alloc]at this;omega
 have a8:w.grownBy n none:=(Q.out.2.2.trans (World.grownBy_alloc _ _ _)).trans M.out;have bG:n.heap[w.heap.size]?=some (.cells (dv d p) 25):=(M.out.block _ (by simp only[World.size_alloc];omega) (by simp)).trans ((Go.heap_alloc_old _ _ (by simp only[World.size_alloc];omega)).trans Q.out.1);have y:n.heap[w.heap.size+1]?=some (.cells #[.slice none 0 0,.int .i64 0] 92):=(M.out.block _ (by simp only[World.size_alloc];omega) (by simp)).trans ((Go.heap_alloc_old _ _ (by simp only[World.size_alloc];omega)).trans Q.out.2.1);have F:n.heap[w.heap.size+1+1]?=some (.cells #[.int .i64 left,.int .i64 e] 63):=(M.out.block _ (by simp only[World.size_alloc];omega) (by simp)).trans (zx _ _ _ _);obtain⟨C,al⟩:∃W,n.alloc (.cells #[.slice (some ⟨w.heap.size+1+1,0,none⟩) 1 1,.int .i64 (hj d k left e)] 92)=W:=⟨_,rfl⟩
 have b8:n.grownBy C none:=by rw[<-al];exact World.grownBy_alloc _ _ _
 have bG:=(b8.block _ (bu bG) (by simp)).trans bG;have y:=(b8.block _ (bu y) (by simp)).trans y;have F:=(b8.block _ (bu F) (by simp)).trans F;have aG:C.heap[n.heap.size]?=some (.cells #[.slice (some ⟨w.heap.size+1+1,0,none⟩) 1 1,.int .i64 (hj d k left e)] 92):=by rw[<-al];exact fM _ _
 have ba:=a8.trans b8;have br:Vs w C n.heap.size (Vi (hj d k) e carry (U6 (hj d k) e carry) left 0) C:=by
  refine⟨⟨some ⟨w.heap.size+1+1,0,none⟩,1,aG,λ_=>⟨_,rfl,⟨λi ad=>?_,λi ad=>?_⟩⟩,λr au=>?_⟩,World.grownBy.refl _ _⟩
  .obtain rfl:i=0:=by have:i<1:=ad;omega
   exact(aU F).trans rfl
  .obtain rfl:i=0:=by have:i<1:=ad;omega
   exact(aU F).trans rfl
  .cases au;omega
 have GW:=Lib.hid λ(V:World) (g:C.grownBy V (some n.heap.size))=>kH ba g (by omega)
 have b4:w.heap.size≠n.heap.size:=by omega
 have b5:w.heap.size+1≠n.heap.size:=by omega
 have a5:=Lib.hid λ(V:World) (g:C.grownBy V (some n.heap.size))=>And.intro ((g.block _ (bu bG) (λx=>b4 (Option.some.inj x))).trans bG) ((g.block _ (bu y) (λx=>b5 (Option.some.inj x))).trans y)
 have bH:=Lib.hid br;have cm:n.heap.size<C.heap.size:=bu aG;have bP:=Lib.hid al;have bT:=Lib.hid bn;clear bn a8 b8 bG y F aG ba br al;rw[bP.out];generalize n.heap.size=B at *;have bd:=λl f=>Kv ok aa l f
 have L:=Lib.hid bd;clear bd;go_wp2;go_loopw [14] (λf wr=>∃j:Nat,j<=e+1-left/\f=.int .i64 ((left+j:Nat):Int)/\Vs w C B (Vi (hj d k) e carry (U6 (hj d k) e carry) left j) wr) (λf _=>e+1-numOf f)
 case atStart=>exact⟨0,by omega,by simp,bH.out⟩
 case round=>
  obtain⟨j,aI,rfl,hb⟩:=hrel;have bB:=Lib.hid hb;by_cases aS:left+j<=e
  .have b7:decide (((left+j:Nat):Int)<=e)=true:=by rw[decide_eq_true_iff];omega
   have cq:decide (left+j<=e)=true:=by simpa using aS
   clear hb;generalize am:left+j=f at *;have aB:=Lib.hid am;clear am;go_wp2;go_loopw [15] (λgM wr=>∃i:Nat,i<=Ve e carry left f/\gM=.int .i64 ((U8 left f+i:Nat):Int)/\Vs w C B (Vp (hj d k) (U6 (hj d k) e carry) left f (Vi (hj d k) e carry (U6 (hj d k) e carry) left j) i) wr) (λgM _=>e+1-numOf gM)
   case atStart=>exact⟨0,by omega,by unfold U8;congr 1;omega,bB.out⟩
   case round=>
    obtain⟨i,ad,rfl,hb⟩:=hrel;have H:=Lib.hid hb;by_cases bi:i<Ve e carry left f
    .have Z:=GW.out _ hb.fY
     have I:left<U8 left f+i:=by unfold U8;omega
     have J:U8 left f+i<=e:=by unfold Ve at bi;omega
     have b9:decide (((U8 left f+i:Nat):Int)<=min ((f:Int)+carry) e)=true:=by rw[decide_eq_true_iff];unfold Ve at bi;omega
     obtain⟨bv,aH,r0,r1,rt⟩:=bJ.out _ Z _ I J;have a2:=Lib.hid rt;have a0:=Lib.hid Z;clear hb Z rt;have bK:=Lib.hid (rfl:U8 left f+i=U8 left f+i);generalize bj:U8 left f+i=m at *;have T:=Lib.hid bj;have q1:(m:Int)<aN:=by omega
     have cy:(0:Int)<=m:=by omega
     clear bj;go_upto_region 9 with fail
     have aP:=fM wr (.cells #[.slice bv (U6 (hj d k) e carry m).eW.length aH,.int .i64 (U6 (hj d k) e carry m).cost] 92);have ae:=World.grownBy_alloc wr (.cells #[.slice bv (U6 (hj d k) e carry m).eW.length aH,.int .i64 (U6 (hj d k) e carry m).cost] 92) none;have cn:B<wr.heap.size:=by obtain⟨_,_,x,_⟩:=H.out.cu;exact bu x
     have cp:w.heap.size<=wr.heap.size:=a0.out.size;generalize World.alloc wr _=X at *;generalize wr.heap.size=R at *;have aR:=Lib.hid (a0.out.trans ae);have aF:=Lib.hid λ(V:World) (g:X.grownBy V none)=>And.intro ((a5.out V (H.out.fY.trans (VH (ae.trans g) _))).1) ((g.block R (bu aP) (by simp)).trans aP)
     have aV:=Lib.hid (H.out.keep ae);have a3:=Lib.hid (a2.out.keep ae);obtain⟨cT,ct,ca⟩:=VU (carry:=carry) L.out he J;have cv:=L.out left f;have co:IntKind.i64.wrap (hj d k left f+(U6 (hj d k) e carry m).cost)=hj d k left f+(U6 (hj d k) e carry m).cost:=IntWalk.i64_in _ (by omega);have bZ:f<120:=by omega
     clear aP ae;have aE:=Lib.hid (show ∀V:World,X.grownBy V none->(V.cell? ⟨w.heap.size,0,none⟩=some (.int .i64 d.kinds)/\V.cell? ⟨w.heap.size,1,none⟩=some (.slice (some ⟨p.gg,p.hG,none⟩) d.kinds p.cA)/\V.cell? ⟨w.heap.size,2,none⟩=some (.slice (some ⟨p.fV,p.gU,none⟩) d.bk p.dq)/\V.cell? ⟨w.heap.size,3,none⟩=some (.slice p.ei d.b' p.dc))/\V.cell? ⟨R,1,none⟩=some (.int .i64 (U6 (hj d k) e carry m).cost)from λV g=>
      have h:=aF.out V g
      ⟨⟨(aU (o:=0) h.1).trans rfl,(aU (o:=1) h.1).trans rfl,(aU (o:=2) h.1).trans rfl,(aU (o:=3) h.1).trans rfl⟩,(aU (o:=1) h.2).trans rfl⟩)
     have ah:=Lib.hid (show X.grownBy X.drew none from gv (World.grownBy.refl _ _));have aZ:=Lib.hid λ(V:World) (g:X.grownBy V none)=>a4.out V (aR.out.trans g) f bZ
     go_region_held3 (λV=>(V.cell? ⟨w.heap.size,0,none⟩=some (.int .i64 d.kinds)/\V.cell? ⟨w.heap.size,1,none⟩=some (.slice (some ⟨p.gg,p.hG,none⟩) d.kinds p.cA)/\V.cell? ⟨w.heap.size,2,none⟩=some (.slice (some ⟨p.fV,p.gU,none⟩) d.bk p.dq)/\V.cell? ⟨w.heap.size,3,none⟩=some (.slice p.ei d.b' p.dc))/\V.cell? ⟨R,1,none⟩=some (.int .i64 (U6 (hj d k) e carry m).cost))
      (first|with_reducible exact aE.out _ ah.out|with_reducible exact aE.out _ P.out)
      (first|(go_at_call 58;refine(aZ.out _ ah.out).mono ?_;rintro x w2 ⟨rfl,ag⟩;have P:=Lib.hid (ah.out.trans ag);clear ag))
     have b0:(U6 (hj d k) e carry m).cost=(U6 (hj d k) e carry m).cost:=rfl;have cg:=Lib.hid (aR.out.trans P.out);have K:=Lib.hid (aV.out.keep P.out);have bM:=Lib.hid (a3.out.keep P.out);have bb:=VV (carry:=carry) (left:=left) (f:=f) L.out he (Wb (carry:=carry) (left:=left) L.out he j) i ad;have D:=(P.out.block R (bu (aF.out _ (World.grownBy.refl _ _)).2) (by simp)).trans (aF.out _ (World.grownBy.refl _ _)).2;have aC:=Lib.hid D;have ch:=Lib.hid bb;have aj:=Lib.hid (show Vp (hj d k) (U6 (hj d k) e carry) left f (Vi (hj d k) e carry (U6 (hj d k) e carry) left j) (i+1)=Vz (hj d k) (U6 (hj d k) e carry) left f (Vp (hj d k) (U6 (hj d k) e carry) left f (Vi (hj d k) e carry (U6 (hj d k) e carry) left j) i) m by rw[Vp,T.out]);clear b0 bb D ah aE aZ aV a3 H a2 bK;generalize bX:Vp (hj d k) (U6 (hj d k) e carry) left f (Vi (hj d k) e carry (U6 (hj d k) e carry) left j) i=b at *;obtain⟨q,c,c1,c2,c3⟩:=K.out.cu;have bw:=aU (o:=0) c1;have bx:=aU (o:=1) c1;have ce:=aU (o:=0) aC.out;have cf:=aU (o:=1) aC.out;have aY:=Lib.hid c2;have az:=Lib.hid c3;clear c1 c2 c3 bX;by_cases E:b.cost<(Vf (hj d k) (U6 (hj d k) e carry) left f m).cost\/((Vf (hj d k) (U6 (hj d k) e carry) left f m).cost=b.cost/\b.eW.length<=(U6 (hj d k) e carry m).eW.length)
     .have aW:Vz (hj d k) (U6 (hj d k) e carry) left f b m=b:=if_pos E
      have U:=Lib.hid aW;have E:b.cost<hj d k left f+(U6 (hj d k) e carry m).cost\/(hj d k left f+(U6 (hj d k) e carry m).cost=b.cost/\b.eW.length<=(U6 (hj d k) e carry m).eW.length):=E;clear aW;rcases E with af|⟨bl,bm⟩
      .have fG:decide (b.cost<hj d k left f+(U6 (hj d k) e carry m).cost)=true:=decide_eq_true af
       clear af;go_wp2;exact⟨⟨i+1,by omega,by have:=T.out;congr 1;omega,by rw[aj.out,U.out];exact K.out⟩,by simp[numOf];omega⟩
      .have fG:decide (b.cost<hj d k left f+(U6 (hj d k) e carry m).cost)=false:=by rw[decide_eq_false_iff_not];omega
       have gK:(hj d k left f+(U6 (hj d k) e carry m).cost == b.cost)=true:=by rw[beq_iff_eq];exact bl
       have cr:decide (b.eW.length<=(U6 (hj d k) e carry m).eW.length)=true:=decide_eq_true bm;have cs:decide ((b.eW.length:Int)<=(U6 (hj d k) e carry m).eW.length)=true:=by rw[decide_eq_true_iff];omega
       clear bl bm;go_wp2;exact⟨⟨i+1,by omega,by have:=T.out;congr 1;omega,by rw[aj.out,U.out];exact K.out⟩,by simp[numOf];omega⟩
     .have aW:Vz (hj d k) (U6 (hj d k) e carry) left f b m=if Vt (Vf (hj d k) (U6 (hj d k) e carry) left f m) b then Vf (hj d k) (U6 (hj d k) e carry) left f m else b:=if_neg E
      have U:=Lib.hid aW;have E:¬(b.cost<hj d k left f+(U6 (hj d k) e carry m).cost\/(hj d k left f+(U6 (hj d k) e carry m).cost=b.cost/\b.eW.length<=(U6 (hj d k) e carry m).eW.length)):=E;have fG:decide (b.cost<hj d k left f+(U6 (hj d k) e carry m).cost)=false:=by rw[decide_eq_false_iff_not];omega
      obtain⟨df,bY,gK⟩:∃df:Bool,df=false/\(if (hj d k left f+(U6 (hj d k) e carry m).cost == b.cost)=true then decide (b.eW.length<=(U6 (hj d k) e carry m).eW.length)else false)=df:=by
       refine⟨_,?_,rfl⟩;by_cases z:hj d k left f+(U6 (hj d k) e carry m).cost=b.cost
       .rw[if_pos (by simpa using z),decide_eq_false_iff_not];omega
       .rw[if_neg (by simpa using z)]
      subst bY;clear aW;obtain⟨cb,cw,cx,bt⟩:=VC (a7:=hj d k) (carry:=carry) J;have aL:(U6 (hj d k) e carry m).eW.length≠0:=by rw[bt];simp
      obtain⟨y,rfl,aA⟩:=bM.out aL;have bO:=Lib.hid aA;clear cb bt aA;have cA:R<w2.heap.size:=bu aC.out;have cz:B<w2.heap.size:=by obtain⟨_,_,x,_⟩:=K.out.cu;exact bu x
      have cj:=Lib.hid aL;have cu:=ca;have aT:∀V:World,w2.grownBy V none->∀j u,(Vl (U6 (hj d k) e carry m).eW)[j]?=some u->V.cell? ⟨y,j,none⟩=some u:=λV g j u aI=>Wr (bO.out.keep g) j u aI
      have bA:=Lib.hid aT;obtain⟨i0,bh,bo,bq,bs⟩:=K' (A:=A);have bI:=Lib.hid bh;have bQ:=Lib.hid bo;have bR:=Lib.hid bq;have bS:=Lib.hid bs;have bC:=Lib.hid (show ∀j u,(Vl (U6 (hj d k) e carry m).eW)[j]?=some u->(w2.alloc (.cells #[.int .i64 left,.int .i64 f] 63)).cell? ((⟨y,0,none⟩:Addr).add j)=some u from λj u aI=>by
       have h:=bA.out _ (World.grownBy_alloc w2 (.cells #[.int .i64 left,.int .i64 f] 63) none) j u aI;have e:((⟨y,0,none⟩:Addr).add j)=⟨y,j,none⟩:=by simp[Addr.add];omega
       rw[e];exact h)
      clear aL aT bh bo bq bs;by_cases z:hj d k left f+(U6 (hj d k) e carry m).cost=b.cost;have bV:(hj d k left f+(U6 (hj d k) e carry m).cost == b.cost)=true:=by simpa using z
      have cG:decide (b.eW.length<=(U6 (hj d k) e carry m).eW.length)=false:=by rw[decide_eq_false_iff_not];omega
      have cl:decide ((b.eW.length:Int)<=(U6 (hj d k) e carry m).eW.length)=false:=by rw[decide_eq_false_iff_not];omega
      rotate_left
      have bV:(hj d k left f+(U6 (hj d k) e carry m).cost == b.cost)=false:=by simpa using z
      rotate_left
      all_goals (
       have ck:=Lib.hid z;clear z E gK;go_upto_region 12 with(at_builtin;refine wpList_append_own_at _ rfl _ _ 37 rfl w2.heap.size 63 i0 (.agg #[.int .i64 0,.int .i64 0]) 2 16 (show(ao A).underlying 37=some (TypeDesc.slice 63) by kernel_rfl) bI.out bQ.out bR.out bS.out rfl (by decide) _ 1 [.int .i64 left,.int .i64 f] rfl ⟨rfl,.inr ⟨w2.heap.size,1,_,rfl,Nat.le_refl _,fM _ _,Nat.le_refl _,by unfold maxLen;omega,rfl,rfl⟩⟩ ⟨y,0,none⟩ (U6 (hj d k) e carry m).eW.length aH (Vl (U6 (hj d k) e carry m).eW) rfl (by rw[VR]) (λj u aI=>bC.out j u aI) (Ws _) (by unfold maxLen;omega) (by omega) (by simp) ?_;intro cD aq bk bg b6 aM;obtain⟨g,oH,rfl,bf,bc⟩:=EC bk (by omega);rw[Nat.add_comm 1 _];have bD:=Lib.hid bc;have bE:=Lib.hid bf;have bF:=Lib.hid bg;clear bk bg b6 aM bc bf)
       have aJ:=kH (World.grownBy_alloc w2 (.cells #[.int .i64 left,.int .i64 f] 63) none) bF.out (Nat.le_refl _);have ap:=fM aq (.cells #[.slice (some ⟨g,0,none⟩) ((U6 (hj d k) e carry m).eW.length+1) oH,.int .i64 (hj d k left f+(U6 (hj d k) e carry m).cost)] 92);have gr:=World.grownBy_alloc aq (.cells #[.slice (some ⟨g,0,none⟩) ((U6 (hj d k) e carry m).eW.length+1) oH,.int .i64 (hj d k left f+(U6 (hj d k) e carry m).cost)] 92) none;have a9:=aJ.trans gr;have cB:=aJ.size;generalize World.alloc aq _=a6 at *;have aO:Vg a6 (some ⟨g,0,none⟩) (Vf (hj d k) (U6 (hj d k) e carry) left f m).eW:=WQ λj u aI=>gr.cell (bD.out j u aI) (by simp)
       generalize aq.heap.size=bU at *;have av:=K.out.keep a9;obtain⟨g2,bp,c1,c2,c3⟩:=av.cu;have hlen:(Vf (hj d k) (U6 (hj d k) e carry) left f m).eW.length<=1000:=by show(U6 (hj d k) e carry m).eW.length+1<=1000;omega
       have G:=Wh (A:=A) (Vf (hj d k) (U6 (hj d k) e carry) left f m) b (some ⟨g,0,none⟩) g2 oH bp hlen a6 aO c2;have t0:=aU (o:=0) ap;have t1:=aU (o:=1) ap;have v0:=aU (o:=0) c1;have v1:=aU (o:=1) c1;have a1:=Lib.hid ap;have ax:=Lib.hid c1;have aX:=Lib.hid av;have bN:=Lib.hid aO;have ci:=bE.out;have b1:g≠B:=by omega
       have Z:w.heap.size+2<=g:=by have I:=bT.out;omega
       clear bw bx ce cf aJ gr a9 aO c1 c2 c3 ap av hlen;cases D:Vt (Vf (hj d k) (U6 (hj d k) e carry) left f m) b
       .rw[D]at G
        have aw:=Lib.hid G;have aD:=Lib.hid D;clear G D;go_wp2_with (go_at_call 59;refine aw.out.mono ?_;rintro x cc ⟨rfl,ag⟩;have ai:=Lib.hid ag;clear ag)
        exact⟨⟨i+1,by omega,by have:=T.out;congr 1;omega,by rw[aj.out,U.out,aD.out];exact aX.out.keep ai.out⟩,by simp[numOf];omega⟩
       .rw[D]at G
        have aw:=Lib.hid G;have aD:=Lib.hid D;clear G D;go_wp2_with (go_at_call 59;refine aw.out.mono ?_;rintro x cc ⟨rfl,ag⟩;have aK:=(ag.block bU (bu a1.out) (by simp)).trans a1.out;have Y:=(ag.block B (bu ax.out) (by simp)).trans ax.out;have t0:=aU (o:=0) aK;have t1:=aU (o:=1) aK;have v0:=aU (o:=0) Y;have v1:=aU (o:=1) Y;have f0:=b3 (o:=0) Y;have f1:=b3 (o:=1) Y;have ai:=Lib.hid ag;clear ag aK Y)
        exact⟨⟨i+1,by omega,by have:=T.out;congr 1;omega,by rw[aj.out,U.out,aD.out];exact(aX.out.keep ai.out).put (bN.out.keep ai.out) (λr au=>by cases au;exact⟨b1,Z⟩)⟩,by simp[numOf];omega⟩)
    .obtain rfl:i=Ve e carry left f:=by omega
     have b9:decide (((U8 left f+Ve e carry left f:Nat):Int)<=min ((f:Int)+carry) e)=false:=by rw[decide_eq_false_iff_not];unfold Ve U8;omega
     clear hb;generalize U8 left f+Ve e carry left f=m at *;go_wp2;go_roundw
     case rel=>exact⟨j+1,by have:=aB.out;omega,by have:=aB.out;go_num,by rw[Vi,aB.out];exact H.out⟩
     case measure=>simp[numOf];omega
  .have b7:decide (((left+j:Nat):Int)<=e)=false:=by rw[decide_eq_false_iff_not];omega
   obtain rfl:j=e+1-left:=by omega
   rw[WI (λl f=>(L.out l f).1) b2]at hb;obtain⟨q,c,c1,c2,c3⟩:=hb.cu;have ax:=Lib.hid c1;have aY:=Lib.hid c2;have bw:=aU (o:=0) c1;have bx:=aU (o:=1) c1;have au:=(a5.out _ hb.fY).2;have bL:=Lib.hid au;have z0:=aU (o:=0) au;have cE:=aU (o:=1) au;have f0:=b3 (o:=0) au;have f1:=b3 (o:=1) au;have bz:=Lib.hid (GW.out _ hb.fY);clear c1 c2 au hb;have az:=Lib.hid c3;clear c3;go_wp2;have ay:=cU (o:=1) (v:=.int .i64 (U6 (hj d k) e carry left).cost) (cU (o:=0) (v:=.slice q (U6 (hj d k) e carry left).eW.length c) bL.out);have gs:wr.grownBy ((wr.setCell ⟨w.heap.size+1,0,none⟩ (.slice q (U6 (hj d k) e carry left).eW.length c)).setCell ⟨w.heap.size+1,1,none⟩ (.int .i64 (U6 (hj d k) e carry left).cost)) (some (w.heap.size+1)):=e7 (e7 (World.grownBy.refl _ _));refine bodyPost_ret (results_cell_row rfl _ _ (w.heap.size+1) 92 #[.slice q (U6 (hj d k) e carry left).eW.length c,.int .i64 (U6 (hj d k) e carry left).cost] (0,0) _ rfl ay ao.WR rfl WJ) rfl ?_;exact⟨q,c,rfl,aY.out.uq gs (λr au=>by have:=(az.out r au).2;omega),λr au=>by have:=(az.out r au).2;omega,kH bz.out gs (by omega)⟩
end
section
variable{A:Array Func}
section
variable{F:Array Func}[Std F]
@[simp] theorem ao.WU:c7 F 12:=dL Tryz.func12
end
def V9[S:Std A](l f:Int)(w:World):Calls (ao A) 33 #[.int .i64 l,.int .i64 f] w λe w'=>e=.returned (.int .i64 (if (0<=l/\l<=119)/\(0<=f/\f<=119)then 0 else 1))/\w=w':=by
 have e:(if (0<=l/\l<=119)/\(0<=f/\f<=119)then 0 else 1)=(if (decide (0<=l/\l<=119) && decide (0<=f/\f<=119))=true then(0:Int)else 1):=by simp
 rw[e];cases c:decide (0<=l/\l<=119)<;>cases d:decide (0<=f/\f<=119)
 all_goals (
  go_enter (S.f Tryz.func33),Tryz.ntmps33;go_wp2_with (first|(go_at_call_of 34 (Value.int .i64 l);refine(nh _ _ _ _).mono ?_;rintro e w' ⟨rfl,rfl⟩;rw[c])|(go_at_call_of 34 (Value.int .i64 f);refine(nh _ _ _ _).mono ?_;rintro e w' ⟨rfl,rfl⟩;rw[d]))
  go_ret;exact⟨rfl,rfl⟩)
def Wt:∃i,(ao A).info? 92=some i/\i.zero=some (.agg #[.slice none 0 0,.int .i64 0])/\i.size=2/\i.bytes=32:=⟨_,rfl,rfl,rfl,rfl⟩
def Wz(n:Nat)(ak:n<=1000):∃cs:Array Value,cs.size=n*2/\∀w:World,Sem.run (ao A) (Instr.makeSlice 90 (.int .i64 n) (.int .i64 n)) w=Result.ok (.slice (some ⟨w.heap.size,0,none⟩) n n) (w.alloc (.cells cs 92)):=by obtain⟨i,I,J,ax,aZ⟩:=Wt (A:=A);refine⟨madeCells (Value.agg #[.slice none 0 0,.int .i64 0]).cells (n*2),size_madeCells _ _,λw=>(run_makeSlice (P:=ao A) w 90 92 i _ (ao.WS (F:=A)) I J .i64 .i64 n n (by omega) (by omega) (by rw[ax];omega) (by rw[aZ];omega) (by omega)).trans ?_⟩;rw[ax];rfl
def hIn:Value->Int
 |.int _ n=>n
 |_=>0
structure Vj(Va:World)(U7:Nat)(a7:Nat->Nat->Int)(e carry bY:Nat)(W:World):Prop where
 box:∃cs:Array Value,W.heap[U7]?=some (.cells cs 92)/\cs.size=(e+1)*2
 made:∀h,bY<=h->h<=e->∃q c,W.cell? ⟨U7,h*2,none⟩=some (.slice q (U6 a7 e carry h).eW.length c)/\W.cell? ⟨U7,h*2+1,none⟩=some (.int .i64 (U6 a7 e carry h).cost)/\Vg W q (U6 a7 e carry h).eW/\∀r,q=some ⟨r,0,none⟩->r≠U7
 fY:Va.grownBy W (some U7)
def Vj.keep{f W d':World}{d:Nat}{a7:Nat->Nat->Int}{e carry bY:Nat}(h:Vj f d a7 e carry bY W)(g:W.grownBy d' none):Vj f d a7 e carry bY d':=by obtain⟨⟨cs,k,n⟩,m,i⟩:=h;refine⟨⟨cs,(g.block _ (bu k) (by simp)).trans k,n⟩,λx I J=>?_,i.trans (VH g _)⟩;obtain⟨q,c,k1,cn,j,l⟩:=m x I J;exact⟨q,c,g.cell k1 (by simp),g.cell cn (by simp),j.keep g,l⟩
def Vj.later{f W:World}{d:Nat}{a7:Nat->Nat->Int}{e carry bY:Nat}(h:Vj f d a7 e carry (bY+1) W):VF W d a7 e carry bY:=λx I J=>by obtain⟨q,c,k1,cn,g,_⟩:=h.made x I J;exact⟨q,c,k1,cn,g⟩
def Vj.put{f W:World}{d:Nat}{a7:Nat->Nat->Int}{e carry x:Nat}(h:Vj f d a7 e carry (x+1) W)(w:x<=e){q:Option Addr}{c:Nat}(aA:Vg W q (U6 a7 e carry x).eW)(i:∀r,q=some ⟨r,0,none⟩->r≠d):
 Vj f d a7 e carry x ((W.setCell ⟨d,x*2,none⟩ (.slice q (U6 a7 e carry x).eW.length c)).setCell ⟨d,x*2+1,none⟩ (.int .i64 (U6 a7 e carry x).cost)):=by
 obtain⟨⟨cs,k,n⟩,m,l⟩:=h;have ay:=cU (o:=x*2+1) (v:=.int .i64 (U6 a7 e carry x).cost) (cU (o:=x*2) (v:=.slice q (U6 a7 e carry x).eW.length c) k);have g:W.grownBy ((W.setCell ⟨d,x*2,none⟩ (.slice q (U6 a7 e carry x).eW.length c)).setCell ⟨d,x*2+1,none⟩ (.int .i64 (U6 a7 e carry x).cost)) (some d):=e7 (e7 (World.grownBy.refl _ _));refine⟨⟨_,ay,by simpa using n⟩,λy I J=>?_,l.trans g⟩;by_cases p:y=x
 .subst p
  refine⟨q,c,?_,?_,aA.uq g i,i⟩
  .rw[aU ay,Array.getElem?_setIfInBounds,if_neg (by omega),Array.getElem?_setIfInBounds,if_pos rfl,if_pos (by omega)]
  .rw[aU ay,Array.getElem?_setIfInBounds,if_pos rfl,if_pos (by simp;omega)]
 .obtain⟨g2,bp,k1,cn,u,j⟩:=m y (by omega) J
  rw[aU k]at k1 cn;refine⟨g2,bp,?_,?_,u.uq g j,j⟩
  .rw[aU ay,Array.getElem?_setIfInBounds,if_neg (by omega),Array.getElem?_setIfInBounds,if_neg (by omega),k1]
  .rw[aU ay,Array.getElem?_setIfInBounds,if_neg (by omega),Array.getElem?_setIfInBounds,if_neg (by omega),cn]
def Vj.cells{d W:World}{c:Nat}{a7:Nat->Nat->Int}{e carry bY:Nat}(h:Vj d c a7 e carry bY W){x:Nat}(f:x<=e):(∃u v,W.cell? ⟨c,x*2,none⟩=some u/\W.cell? ⟨c,x*2+1,none⟩=some v)/\W.frozen? ⟨c,x*2,none⟩=false/\W.frozen? ⟨c,x*2+1,none⟩=false:=by obtain⟨⟨cs,k,n⟩,_,_⟩:=h;exact⟨⟨_,_,(aU k).trans (Array.getElem?_eq_getElem (by omega)),(aU k).trans (Array.getElem?_eq_getElem (by omega))⟩,b3 k,b3 k⟩
def Wv{d:dw}{kind:Int}(h:(if jY d≠0 then jY d else if 0<=kind/\kind<=d.kinds-1 then 0 else 3)=0):jY d=0/\0<=kind/\kind<=d.kinds-1:=by
 split at h
 .omega
 .split at h<;>omega
def Wu{d:dw}{kind left aP carry c:Int}(h:(if jY d≠0 then jY d else if 0<=kind/\kind<=d.kinds-1 then 0 else 3)=c)(ar:c≠0):Vd d kind left aP carry=c:=by
 unfold Vd;by_cases I:jY d=0
 .rw[if_neg (by omega)]at h ⊢
  by_cases J:0<=kind/\kind<=d.kinds-1
  .rw[if_pos J]at h;omega
  .rw[if_neg J]at h;rw[if_pos J];exact h
 .rw[if_pos I]at h ⊢;exact h
def WC[S:Std A][eY:jx A](d:cC)(ok:d.ok)(p:eg)(k:Nat)(aa:k<d.kinds)(l m y:Nat)(af:l<=m)(hm:m<120)(ai:y<=30)(w:World)(h:e' w d p)(D:∀w',w.grownBy w' none->Calls (ao A) 32 #[.agg (dv d p),.int .i64 k] w' λe w2=>e=.returned (.int .i64 0)/\w'.grownBy w2 none):
 Calls (ao A) 12 #[.agg (dv d p),.int .i64 k,.int .i64 l,.int .i64 m,.int .i64 y] w (Vv w (U6 (hj d k) m y l) 0):=by
 have H:=Lib.hid (World.grownBy_alloc w (.cells (dv d p) 25) none);have jj:=Lib.hid (fM w (.cells (dv d p) 25));have D:=Lib.hid (D _ H.out);have u:=V9 (A:=A) l m;rw[if_pos (by omega)]at u;have u:=Lib.hid u;have B:=nh (A:=A) y 0 30;rw[decide_eq_true (show(0:Int)<=y/\(y:Int)<=30 by omega)]at B;have B:=Lib.hid B;have Z:=Lib.hid λ(V:World) (g:w.grownBy V none)=>h.keep g
 have ax:decide ((m:Int)<l)=false:=by rw[decide_eq_false_iff_not];omega
 have ay:decide (m<l)=false:=by rw[decide_eq_false_iff_not];omega
 obtain⟨cs,e8,P⟩:=Wz (A:=A) (m+1) (by omega);rw[show((m+1:Nat):Int)=(m:Int)+1 by omega]at P;have ah:IntKind.i64.wrap ((m:Int)+1)=(m:Int)+1:=IntWalk.i64_in _ (by omega);clear h;go_enter (S.f Tryz.func12),Tryz.ntmps12;go_upto_region 12 with(first|(go_at_call 32;refine D.out.mono ?_;rintro e w2 ⟨rfl,ag⟩;have C:=Lib.hid ag;clear ag)|(go_at_call 33;refine(u.out _).mono ?_;rintro e w' ⟨rfl,rfl⟩)|(go_at_call 34;refine(B.out _).mono ?_;rintro e w' ⟨rfl,rfl⟩))
 have b8:=World.grownBy_alloc w2 (.cells cs 92) none;have hb:=fM w2 (.cells cs 92);have T:w.heap.size+1<=w2.heap.size:=by have:=C.out.size;simpa using this
 have bG:=(b8.block _ (by omega) (by simp)).trans ((C.out.block w.heap.size (by simp) (by simp)).trans jj.out);clear P;generalize World.alloc w2 _=n at *;generalize w2.heap.size=i at *;have L:=(H.out.trans C.out).trans b8;have br:Vj n i (hj d k) m y (m+1) n:=⟨⟨cs,hb,e8⟩,λh I J=>by omega,World.grownBy.refl _ _⟩
 have Y:=Lib.hid br;have GW:=Lib.hid λ(V:World) (g:n.grownBy V (some i))=>kH L g (by omega)
 have BT:=Lib.hid λ(V:World) (g:n.grownBy V (some i))=>(g.block _ (bu bG) (λe=>by have:=Option.some.inj e;omega)).trans bG
 have am:=Lib.hid T;clear b8 hb bG L br ah T e8;go_wp2;go_loopw [16] (λh wr=>∃j:Nat,j<=m+1-l/\h=.int .i64 ((m:Int)-j)/\Vj n i (hj d k) m y (m+1-j) wr) (λh _=>(hIn h+1-l).toNat)
 case atStart=>exact⟨0,by omega,by simp,Y.out⟩
 case round=>
  obtain⟨j,aI,rfl,f⟩:=hrel;by_cases aS:j<m+1-l
  .obtain⟨x,Q⟩:∃x:Nat,x+j=m:=⟨m-j,by omega⟩
   have G:(m:Int)-j=x:=by omega
   have f:Vj n i (hj d k) m y (x+1) wr:=by rw[show x+1=m+1-j by omega];exact f
   have ap:=Lib.hid G;have F:=Lib.hid Q;have az:l<=x:=by omega
   have q1:x<=m:=by omega
   rw[G];clear G Q;have c1:decide ((l:Int)<=x)=true:=by rw[decide_eq_true_iff];omega
   have c2:decide (l<=x)=true:=by rw[decide_eq_true_iff];omega
   have ak:(x:Int)<((m+1:Nat):Int):=by omega
   have al:(0:Int)<=x:=by omega
   have bG:=BT.out _ f.fY;have t0:=(aU (o:=0) bG).trans rfl;have t1:=(aU (o:=1) bG).trans rfl;have t2:=(aU (o:=2) bG).trans rfl;have t3:=(aU (o:=3) bG).trans rfl;have W:=Lib.hid λV g=>(Wg (A:=A) d ok p k aa x m y q1 hm ai i (m+1) (m+1) (by omega) V (Z.out V g))
   have E:=Lib.hid f;have av:=(GW.out _ f.fY).size;have ar:i<wr.heap.size:=by obtain⟨⟨_,k1,_⟩,_,_⟩:=f;exact bu k1
   clear bG f;go_wp2_with (go_at_call 35;refine(W.out wr (GW.out _ E.out.fY) E.out.later).mono ?_;rintro e aB ⟨q,c,rfl,aA,M,ag⟩;have K:=Lib.hid (E.out.keep ag);obtain⟨⟨a0,aq,aw,k1⟩,f0,f1⟩:=K.out.cells q1;have ad:=Lib.hid aA;have X:=Lib.hid (show ∀r,q=some ⟨r,0,none⟩->r≠i from λr au=>by have:=M r au;omega);clear aA M ag)
   exact⟨⟨j+1,by have:=F.out;omega,by have:=F.out;congr 1;omega,by rw[show m+1-(j+1)=x by have:=F.out;omega];exact K.out.put q1 ad.out X.out⟩,by show((x:Int)-1+1-l).toNat<((x:Int)+1-l).toNat;omega⟩
  .obtain rfl:j=m+1-l:=by omega
   have c1:decide ((l:Int)<=(m:Int)-((m+1-l:Nat):Int))=false:=by rw[decide_eq_false_iff_not];omega
   rw[show m+1-(m+1-l)=l by omega]at f;obtain⟨q,c,k1,cn,R,_⟩:=f.made l (Nat.le_refl _) af;have ae:=Lib.hid R;have U:=Lib.hid (GW.out _ f.fY);have ak:(l:Int)<((m+1:Nat):Int):=by omega
   have al:(0:Int)<=l:=by omega
   generalize aj:(m:Int)-((m+1-l:Nat):Int)=z at *;clear f R aj;go_upto_region 16 with fail
   go_quiet (fail);go_wp2;go_ret3
   exact⟨q,c,rfl,ae.out.keep (hl _ _),U.out.trans (hl _ _)⟩
def WE[S:Std A][eY:jx A](d:dw)(fit:d.fit)(p:gz)(kind left aP carry:Int)(w:World)(h:iZ w d p):
 Calls (ao A) 12 #[.agg (eB d p),.int .i64 kind,.int .i64 left,.int .i64 aP,.int .i64 carry] w (Vv w (Vo d kind left aP carry) (Vd d kind left aP carry)):=by
 have j:=Lib.hid (World.grownBy_alloc w (.cells (eB d p) 25) none);have f:=λw' (g:w.grownBy w' none)=>WH (A:=A) d fit p kind w' (h.keep g)
 have none:∀c,Vd d kind left aP carry=c->c≠0->Calls (ao A) 12 #[.agg (eB d p),.int .i64 kind,.int .i64 left,.int .i64 aP,.int .i64 carry] w (λe w'=>e=.returned (.tuple #[.slice none 0 0,.int .i64 0,.int .i64 c])/\w.grownBy w' none)->Calls (ao A) 12 #[.agg (eB d p),.int .i64 kind,.int .i64 left,.int .i64 aP,.int .i64 carry] w (Vv w (Vo d kind left aP carry) (Vd d kind left aP carry)):=λc e ar B=>by rw[Vo,e,if_neg ar];refine B.mono ?_;rintro _ w' ⟨rfl,g⟩;exact⟨_,_,rfl,λak=>absurd rfl ak,g⟩
 obtain⟨c,q⟩:∃c,(if jY d≠0 then jY d else if 0<=kind/\kind<=d.kinds-1 then 0 else 3)=c:=⟨_,rfl⟩
 rw[q]at f;by_cases ar:c=0;rotate_left
 .refine none c (Wu q ar) ar ?_
  have f:=Lib.hid (f _ j.out);have E:(c == 0)=false:=by simpa using ar
  have F:decide (c=0)=false:=by simpa using ar
  clear q h none;go_enter (S.f Tryz.func12),Tryz.ntmps12;go_wp2_with (go_at_call 32;refine f.out.mono ?_;rintro e w2 ⟨rfl,ag⟩;have o:=Lib.hid ag;clear ag)
  go_ret3
  exact⟨rfl,j.out.trans o.out⟩
 subst ar;obtain⟨aT,I⟩:=Wv q;clear q;obtain⟨ok,_,u,_⟩:=IB aT;obtain⟨z,r,a'⟩:=h.tf aT;have i:=V9 (A:=A) left aP;by_cases J:(0<=left/\left<=119)/\(0<=aP/\aP<=119)
 rotate_left
 .rw[if_neg J]at i
  refine none 1 (by rw[Vd,if_neg (by omega),if_neg (by omega),if_pos J]) (by omega) ?_;have f:=Lib.hid (f _ j.out);have i:=Lib.hid i;clear h none r a' u I J;go_enter (S.f Tryz.func12),Tryz.ntmps12;go_wp2_with (first|(go_at_call 32;refine f.out.mono ?_;rintro e w2 ⟨rfl,ag⟩;have o:=Lib.hid ag;clear ag)|(go_at_call 33;refine(i.out _).mono ?_;rintro e w' ⟨rfl,rfl⟩))
  go_ret3
  exact⟨rfl,j.out.trans o.out⟩
 rw[if_pos J]at i;have i:=Lib.hid i;have n:=nh (A:=A) carry 0 30;by_cases ax:0<=carry/\carry<=30;rotate_left
 .rw[decide_eq_false ax]at n
  refine none 1 (by rw[Vd,if_neg (by omega),if_neg (by omega),if_neg (λx=>x J),if_pos ax]) (by omega) ?_;have f:=Lib.hid (f _ j.out);have n:=Lib.hid n;clear h none r a' u I J ax;go_enter (S.f Tryz.func12),Tryz.ntmps12;go_wp2_with (first|(go_at_call 32;refine f.out.mono ?_;rintro e w2 ⟨rfl,ag⟩;have o:=Lib.hid ag;clear ag)|(go_at_call 33;refine(i.out _).mono ?_;rintro e w' ⟨rfl,rfl⟩)|(go_at_call 34;refine(n.out _).mono ?_;rintro e w' ⟨rfl,rfl⟩))
  go_ret3
  exact⟨rfl,j.out.trans o.out⟩
 rw[decide_eq_true ax]at n;have n:=Lib.hid n;obtain⟨k,rfl⟩:∃k:Nat,kind=k:=⟨kind.toNat,by omega⟩
 obtain⟨l,rfl⟩:∃k:Nat,left=k:=⟨left.toNat,by omega⟩
 obtain⟨m,rfl⟩:∃k:Nat,aP=k:=⟨aP.toNat,by omega⟩
 obtain⟨y,rfl⟩:∃k:Nat,carry=k:=⟨carry.toNat,by omega⟩
 by_cases aZ:(m:Int)<l
 .refine none 5 (by rw[Vd,if_neg (by omega),if_neg (by omega),if_neg (λx=>x J),if_neg (λx=>x ax),if_pos aZ]) (by omega) ?_
  have C:decide ((m:Int)<l)=true:=by simpa using aZ
  have D:decide (m<l)=true:=by rw[decide_eq_true_iff];omega
  have f:=Lib.hid (f _ j.out);clear h none r a' u I J ax aZ;go_enter (S.f Tryz.func12),Tryz.ntmps12;go_wp2_with (first|(go_at_call 32;refine f.out.mono ?_;rintro e w2 ⟨rfl,ag⟩;have o:=Lib.hid ag;clear ag)|(go_at_call 33;refine(i.out _).mono ?_;rintro e w' ⟨rfl,rfl⟩)|(go_at_call 34;refine(n.out _).mono ?_;rintro e w' ⟨rfl,rfl⟩))
  go_ret3
  exact⟨rfl,j.out.trans o.out⟩
 .have c8:Vd d k l m y=0:=by rw[Vd,if_neg (by omega),if_neg (by omega),if_neg (λx=>x J),if_neg (λx=>x ax),if_neg aZ]
  rw[Vo,c8,if_pos rfl];rw[r]at f ⊢;exact WC d.nC ok z k (by omega) l m y (by omega) (by omega) (by omega) w a' f
end
end Go.aO
