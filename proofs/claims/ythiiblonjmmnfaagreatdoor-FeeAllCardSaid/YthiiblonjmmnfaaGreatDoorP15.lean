/- Part 16 of a law on fees: no conditions. -/
import Derived.Test.YthiiblonjmmnfaaGreatDoorP14
set_option maxHeartbeats 8000000
set_option maxRecDepth 100000
set_option linter.all false
namespace Go.aN
attribute [-simp] Go.Sem.runT_eq
open Go.Proofs Go.Conc Go.ConcN
section
variable{X:dJ}{Z:Stat}[gh X Z]{G au:bI}{gs bf:Array Goroutine}{u ay w:World}{t a':Trace}{k:Bool}{g g':Goroutine}{m cP cb hh:Nat}{bl:Bool->fI X.Q}{q:Nat->Nat}{ck c0:Bool}{gD rw:Bool->Bool}{sl:Option (Nat×Nat)}{es:Array Event}{p hD:fG}
def DH{i j a:Nat}{x y:Goroutine}(c:a≠i)(d:a≠j):((gs.setIfInBounds j x).setIfInBounds i y)[a]?=gs[a]?:=by rw[PB (Ne.symm c),PB (Ne.symm d)]
def A7(d:Base Z G u t)(ah:G.l=28\/G.l=34\/G.l=40)(h:(G.s k).cI=false):G.l=28\/G.l=34:=by
 rcases ah with ah|ah|ah
 .exact .inl ah
 .exact .inr ah
 .exfalso
  have:=d.bT.cnt;rw[ah]at this;have c:da 40=2:=rfl;rw[c]at this;cases k
  .rw[h]at this
   rcases e:(G.s true).cI with _|_<;>rw[e]at this<;>simp at this
  .rw[h]at this
   rcases e:(G.s false).cI with _|_<;>rw[e]at this<;>simp at this
def u9{g:Goroutine}{v:Value}(h:g.dying=none):Go.Conc.served g v=⟨g.frame.finish v,g.callers,.running,none,none⟩:=by obtain⟨fr,cs,st,c,off⟩:=g;dsimp only at h;subst h;rfl
def dP.Lx(h:dP X Z G gs u t m bl cb q ck rw c0)(H:(G.s k).c≠.un)(r:gs[Z.wk k]?=some g)(ad:g.status=.running){v:Nat×Nat}{x:bs}{n j a:Nat}(C:fU (G.s k) ⟨.out (.snd v),(G.s k).a2⟩)(l:cn (eZ (G.bC k)) Z G (Z.wk k) (.snd v) [] x g u n j)(F:At (eZ (G.bC k)) a (.snd v) x)(aG:n=a+1)(Y:(∀(n:Nat) own b o,(gZ (G.bC k))[n]?=some (own,b,o)->G.bO b≠Z.wk k)/\jh Z G (Z.wk k) u v):j5 X Z gs u sl t (Z.wk k) (gV Z m bl cb q ck rw c0):=by
 have E:=h.base.ap.pos;obtain⟨aP,aQ,c3,aR,ah⟩:=h.base.cfg k;obtain⟨aS,S,aj,ak⟩:=h.de k H;rw[r]at S;obtain rfl:=Pm S;obtain⟨aV,aM⟩:=y6 ak ad;have aK:(G.s k).cI=false:=by rw[<-C.cI];rfl
 have av:(G.s k).cy=.no:=by rw[<-C.cy];rfl
 have aa:=tF h.base (uO h.base av);obtain⟨aT,aL⟩:=D7 (k:=k) c3 ah F;obtain⟨st,off,ax⟩:=l.shape;have ae:stepG aF (Z.wk k == 0) g u=.comm ⟨x.1,x.2++[],.running,none,none⟩ #[scase Z.ch (iN k v) (.tuple #[])] true .send u:=by rw[ax];exact aL _ _ _ _ _
 obtain⟨al,c,M,ag,aY,aX,z,B,ao,ap⟩:=h.main;have aU:=h.base.ww.ch;cases ap with
 |run aJ=>
  have R:partners (gs.setIfInBounds (Z.wk k) ph) Z.ch false = []:=by
   refine partners_nil λi D K=>?_
   rcases getElem?_stand gs _ i D K with⟨_,rfl⟩|⟨aH,w⟩
   .rfl
   .by_cases T:i=0
    .subst T
     rw[z]at w;obtain rfl:=Pm w;exact offersAt_of_not_blocked (by rw[aJ];simp) _ _
    .exact h.BE T w _
  have af:=crowd_waits (sl:=sl) r ae (λai au=>by
   have:ai=scase Z.ch (iN k v) (.tuple #[]):=by simpa using au
   rw[this];exact ways_send_none aa (Nat.zero_le _) R)
  have Q:MemOp.ofEvents (Z.wk k) g.frame.fn g.frame.place #[]=#[]:=by rw[ofEvents_eq];simp
  rw[Q]at af;refine h.Cf (g':=parked ⟨x.1,x.2++[],.running,none,none⟩ #[scase Z.ch (iN k v) (.tuple #[])] .send) k H r ad aj l.fr.symm l.cs.symm l.lL.symm ?_ af;exact .snd v x n j a ⟨_,rfl⟩ C ⟨l.on,l.le,rfl,rfl,rfl,l.mem,l.own⟩ F aG Y rfl aM
 |pB am aw aA aI ar aW=>
  obtain⟨f,J⟩:=aw;have aB:=A7 h.base aA aK;have R:partners (gs.setIfInBounds (Z.wk k) ph) Z.ch false = [(0,0)]:=by
   have az:(gs.setIfInBounds (Z.wk k) ph)[0]?=some al:=by rw[PB (hV E k)];exact z
   rw[partners_one az λi D L K=>?_]
   .rw[J,offersAt_parked_recv,if_pos rfl];rfl
   .rcases getElem?_stand gs _ i D K with⟨_,rfl⟩|⟨aH,w⟩
    .rfl
    .exact h.BE L w _
  have U:=z;rw[J]at U;have P:=crowd_send_meets (sl:=sl) r ae aa (Ne.symm (hV E k)) U R;rw[finishComm_send,finishComm_recv]at P;have Q:MemOp.ofEvents (Z.wk k) g.frame.fn g.frame.place #[]=#[]:=by rw[ofEvents_eq];simp
  rw[Q,Array.empty_append]at P;have I:f.frame=ag.1/\f.callers=ag.2++Z.base/\f.dying=none:=by have:=B.at_.fr;have V:=B.at_.cs;have W:=B.at_.lL;rw[J]at this V W;exact⟨this,V,W⟩
  have aD:=bp z;have aE:=bp r;obtain⟨cP,e',aO,aN,aq,aC⟩:=h.meet (k:=k) (qz:=Go.Conc.served ⟨x.1,x.2++[],.running,none,none⟩ undef) (qx:=Go.Conc.served f (recvd true (iN k v) true)) (bf:=(gs.setIfInBounds 0 (Go.Conc.served f (recvd true (iN k v) true))).setIfInBounds (Z.wk k) (Go.Conc.served ⟨x.1,x.2++[],.running,none,none⟩ undef)) (d:=u.drawn)
   H C aB l F Y B ar aI ao (by rw[u9 rfl];simp) (by
    rw[u9 I.2.2,I.1,I.2.1];have:recvd true (iN k v) true=m6 (some (k,v)):=by cases k<;>rfl
    rw[this]) (by simp) (by rw[PB (hV E k),PC aD]) (by rw[PC (by simpa using aE)]) (λi L ay=>DH ay L) (cap:=0) (x:={g:=Z.wk k,fn:=x.1.fn,pos:=x.1.place,act:=.send Z.ch (da G.l)}) (y:={g:=0,fn:=f.frame.fn,pos:=f.frame.place,act:=.recv Z.ch (da G.l) 0}) (p:={g:=Z.wk k,fn:=x.1.fn,pos:=x.1.place,act:=.sendDone Z.ch (da G.l)}) (q':={g:=0,fn:=f.frame.fn,pos:=f.frame.place,act:=.recvDone Z.ch (da G.l)}) ⟨rfl,rfl⟩ rfl rfl ⟨rfl,rfl⟩
  exact⟨_,_,_,_,cP,e',cb,q,true,aO,aN,P,aq,ss aC rfl⟩
def dP.E2{bo:e0}{bR:Mem}{U:bs}{cM bn:Nat}(h:dP X Z G gs u t m bl cb q ck rw c0)(I:gs[0]?=some g)(aq:stepG aF true g u=.go g' ay es)(C:Base Z au ay (t++MemOp.ofEvents 0 g.frame.fn g.frame.place es))(Q:g'.status=.running)(S:au.s=G.s)(ag:au.k=G.k)(E:au.bC=G.bC)(R:au.cl=G.cl)(w:∀i,i≠0->eh Z G au i u ay)(hm:hZ Z au g' ay bo bR U cM bn)(ak:au.ms=G.ms)(aj:au.m=G.m)(ai:cM*500+bn<m)(L:(au.l<26↔G.l<26)/\(au.l<27↔G.l<27)):j5 X Z gs u sl t 0 (gV Z m bl cb q ck rw c0):=by
 have o:=h.base.ap.pos;have ao:=runT_crowd_go (P:=aF) (sl:=sl) I (show stepG aF (0 == 0) g u=_ from aq);have F:=jA.woken Z g g' ay (.inl Q);have ae:∀i,i≠0->Deaf (t++MemOp.ofEvents 0 g.frame.fn g.frame.place es) i=Deaf t i:=λi af=>Deaf_other t (g':=0) (Ne.symm af) _ λop al=>by obtain⟨e,_,rfl⟩:=Go.Conc.mem_ofEvents al;rfl
 obtain⟨ax,ap⟩:=qW (P:=λk b=>∃c,((gs.map (woken aF g g' ay)).setIfInBounds 0 g')[Z.wk k]?=some c/\eM X Z au k c ay (au.s k) (bl k)/\ht Z au k c ay true (bl k).1 b) (D:=λk=>(au.s k).c≠.un) λk K=>by
  rw[S]at K;obtain⟨gk,ar,av,aw⟩:=h.de k K;have T:au.s k=G.s k:=by rw[S]
  obtain⟨d,f,j,l,W⟩:=aw.jY F C T (by rw[E]) (by rw[R]) (w _ (hV o k)) (.inl ak) (λ_=>rfl);refine⟨d,woken aF g g' ay gk,by rw[qw (hV o k),ar];rfl,?_,f⟩;rw[T];exact av.rely (by rw[E]) (by rw[R]) (w _ (hV o k)) j l W λH=>by rw[F.rest gk (.inr H)];exact H
 obtain⟨z,am⟩:∃z,∀p,au.k=.at p->∃c,((gs.map (woken aF g g' ay)).setIfInBounds 0 g')[Z.N+2]?=some c/\j0 Z au p c ay cb z:=by
  rw[ag];rcases ah:G.k with _|p
  .exact⟨false,λp r=>by cases r⟩
  .obtain⟨Y,f,j⟩:=h.dK p ah
   obtain⟨d,l⟩:=j.jY F (w _ (by omega)) (.inl aj);exact⟨d,λhD r=>by cases r;exact⟨woken aF g g' ay Y,by rw[qw (by omega),f];rfl,l⟩⟩
 refine⟨au,_,ay,_,cM*500+bn,bl,cb,q,true,ax,z,ao,⟨C,?_,⟨g',bo,bR,U,cM,bn,sb I,hm,rfl,.run Q⟩,ap,am,λi az aa ad J=>?_⟩,ss ai rfl⟩
 .have:=h.size
  simp only[Array.size_setIfInBounds,Array.size_map];rw[this];simp only[L.1,L.2]
 .rw[qw (by omega)]at J
  obtain⟨B,V,rfl⟩:=Option.map_eq_some_iff.1 J;have M:=h.old i B aa ad V;rw[F.rest B M.status,ae i (by omega)];exact M
end
section
variable{X:dJ}{Z:Stat}[gh X Z]{G au:bI}{gs bf:Array Goroutine}{u ay w:World}{t a':Trace}{k:Bool}{g g':Goroutine}{m cP cb hh:Nat}{bl:Bool->fI X.Q}{q:Nat->Nat}{ck c0:Bool}{gD rw:Bool->Bool}{sl:Option (Nat×Nat)}{es:Array Event}{p hD:fG}{c:e0}{M:Mem}{x:bs}{n j a:Nat}
def mX(c:e0):kT:=⟨c.W,c.bX,c.ib,c.a7,c.ix,c.ch,c.T,1⟩
def bI.gE(G:bI)(Z:Stat)(c:e0):bI:={G with s:=pS G.s true ⟨.out .bP,false⟩,l:=26,bC:=gJ G.bC true (mX c),ro:=λg b=>G.ro g b\/(g=Z.wk true/\(b=c.ib\/b=c.ix))}
def bI.iy(G:bI):bI:={G with k:=.at .bu,l:=27}
def yo(t:Trace)(fn:FuncId)(pos:String)(x y:MemOp):t++((MemOp.ofEvents 0 fn pos #[]).push x).push y=t++#[x,y]:=by rw[ofEvents_eq];simp
def IP(d:M=jQ c 25):M[1]?=some (false,c.a7,.cells #[pt c.T] 60 (0,0))/\M[3]?=some (false,c.bX,.cells #[.chan (some c.ch)] 194 (0,0))/\M[6]?=some (true,c.ib,.cells #[ad 1] 3 (0,0))/\M[7]?=some (true,c.ix,.cells c8 32 (0,0)):=by subst d;exact⟨rfl,rfl,rfl,rfl⟩
def dP.LR(h:dP X Z G gs u t m bl cb q ck rw c0)(ak:G.l=25)(d:gs[0]?=some g)(hm:hZ Z G g u c M x n j)(ba:At (gB Z) a ⟨25,c,M⟩ x)(bL:n=a+1)(bK:m=n*500+j):j5 X Z gs u sl t 0 (gV Z m bl cb q ck rw c0):=by
 have l:=h.base;have W:=l.ap.pos;have eJ:=l.eJ;obtain⟨f1,f2,f3,f4,f5,f6⟩:=hm.ok.cfg;have ar:=hm.ok.early (by omega);rw[ak]at ar;obtain⟨Y,aa,Q,R⟩:=IP ar;have C:=hm.at_.mem;have aw:=hm.at_.own;have T:=aw 6 _ _ _ Q;have U:=aw 7 _ _ _ R;have bm:=fB C Q;have bo:=fB C R;have bN:=fB C Y;have bO:=fB C aa;have d67:=C.eV 6 7 _ _ _ _ _ _ Q R (by decide);have d36:=C.eV 3 6 _ _ _ _ _ _ aa Q (by decide);have d37:=C.eV 3 7 _ _ _ _ _ _ aa R (by decide);have d16:=C.eV 1 6 _ _ _ _ _ _ Y Q (by decide);have d17:=C.eV 1 7 _ _ _ _ _ _ Y R (by decide);have d13:=C.eV 1 3 _ _ _ _ _ _ Y aa (by decide);have am:(G.s true).c=.un:=l.bT.kN.1 (by omega);have aM:G.k=.un:=l.bT.lr.1 (by omega);have az:gs.size=Z.N+1:=by have:=h.size;rw[if_pos (by omega)]at this;exact this
 have es:∀j,(G.gE Z c).s j=if j=true then⟨.out .bP,false⟩else G.s j:=λ_=>rfl
 have bx:(G.s true).role=.idle:=by unfold bZ.role;rw[am]
 have aW:(G.s true).cy=.no:=by unfold bZ.cy;rw[am]
 have bA:(G.s true).cI=false:=by unfold bZ.cI;rw[am]
 have deaf1:(G.s true).deaf=0:=by unfold bZ.deaf;rw[am]
 have ay:∀j,((G.gE Z c).s j).role=(G.s j).role:=λj=>by
  rw[es];split
  .rename_i I;subst I;rw[bx];rfl
  .rfl
 have av:∀j,((G.gE Z c).s j).cy=(G.s j).cy:=λj=>by
  rw[es];split
  .rename_i I;subst I;rw[aW];rfl
  .rfl
 have aV:fT (G.gE Z c):=by
  obtain⟨aT,aH,a3,a4,a5,bG,aU,bH,a9⟩:=l.bT;refine⟨by rw[ay,ay];exact aT,?_,by rw[av,av];exact a3,?_,?_,?_,aU,(by decide:17<=26),λj I=>?_⟩
  .rw[av,av]
   rw[ak]at aH;exact aH
  .show da 26=_
   rw[ak,bA]at a4;rw[es,es];exact a4
  .rw[es,if_pos rfl]
   show(26:Nat)<26↔_;exact⟨λh=>absurd h (by decide),λh=>by cases h⟩
  .show(26:Nat)<27↔G.k=.un
   exact⟨λ_=>aM,λ_=>by decide⟩
  .rw[es]at I
   split at I
   .cases I
   .exact a9 j I
 have bF:dv Z (G.gE Z c) u:=by obtain⟨bC,w2,w3,bD,bE⟩:=l.ww;refine⟨bC,w2,?_,bD,bE⟩;show u.heap[Z.ch]?=some (.chan 0 #[] G.k.shut (da 26) (da 26) false);rw[ak]at w3;exact w3
 have qZ:∀g b,G.ro g b->(G.gE Z c).ro g b:=λg b L=>.inl L
 have aI:Apart Z (G.gE Z c):=by
  obtain⟨bq,br,bs,bt,bu,aS⟩:=l.ap;refine⟨bq,br,bs,bt,λb S=>?_,λg=>⟨?_,?_⟩⟩
  .obtain⟨q1,ao,aA,bv,bw⟩:=bu b S
   refine⟨q1,ao,aA,bv,λg d=>?_⟩;rcases d with d|⟨_,rfl|rfl⟩
   .exact bw g d
   .have:=(T.2.2 rfl).1;omega
   .have:=(U.2.2 rfl).1;omega
  .rintro(d|⟨_,e|e⟩)
   .exact(aS g).1 d
   .exact T.1.2.1 e.symm
   .exact U.1.2.1 e.symm
  .rintro(d|⟨_,e|e⟩)
   .exact(aS g).2 d
   .exact T.1.2.2 e.symm
   .exact U.1.2.2 e.symm
 have ei:ef Z (G.gE Z c)=ef Z G:=by unfold ef;rw[ay,ay];rfl
 have aQ:∀b,(G.gE Z c).ro (Z.wk true) b->G.bO b=0:=λb S=>by
  rcases S with S|⟨_,rfl|rfl⟩
  .exact l.pF _ b (hV W true) S
  .exact(T.2.2 rfl).1
  .exact(U.2.2 rfl).1
 have bh:∀g,gp Z (G.gE Z c) g↔(gp Z G g\/g=dR.num Z (.de true)):=λg=>by
  constructor
  .rintro(e|⟨k,e,K⟩|⟨e,K⟩)
   .exact .inl (.inl e)
   .cases k
    .exact .inl (.inr (.inl ⟨false,e,K⟩))
    .exact .inr e
   .exact .inl (.inr (.inr ⟨e,K⟩))
  .rintro((e|⟨k,e,K⟩|⟨e,K⟩)|e)
   .exact .inl e
   .cases k
    .exact .inr (.inl ⟨false,e,K⟩)
    .exact absurd am K
   .exact .inr (.inr ⟨e,K⟩)
   .exact .inr (.inl ⟨true,e,λh=>by cases h⟩)
 obtain⟨⟨aO,bJ⟩,bj⟩:=ba.spawn (nC Z) (f:=.func 80) (c:=#[pt c.W,pt c.bX,pt c.ib,pt c.a7,pt c.ix]) (a:=#[]) (hi:=[6,7]) (to:=⟨26,c,nd M [6,7]⟩) Pl;obtain⟨st,off,bg⟩:=hm.at_.shape;have aE:=runT_crowd_spawn (P:=aF) (sl:=sl) d (show stepG aF (0 == 0) g u=_ by rw[bg];exact bj true _ st off u);have bB:ep Z (G.gE Z c) (t++#[({g:=0,fn:=g.frame.fn,pos:=g.frame.place,act:=.go gs.size}:MemOp),{g:=gs.size,fn:=Tryz.prog.funcs.size,pos:=g.frame.place,act:=.start}]) u.heap.size:=by
  refine l.c6.spawn (au:=G.gE Z c) (x:={g:=0,fn:=g.frame.fn,pos:=g.frame.place,act:=.go gs.size}) (y:={g:=gs.size,fn:=Tryz.prog.funcs.size,pos:=g.frame.place,act:=.start}) (b3:=.de true) W (by rw[ak];rfl) rfl (by simp) deaf1 rfl qZ (λg b al d=>?_) aQ aI.kB (λj=>?_) ⟨rfl,id,id⟩ bh ei ⟨rfl,by rw[az];rfl⟩ ⟨by rw[az];rfl,rfl⟩
  .rcases d with d|⟨e,_⟩
   .exact d
   .exact absurd e al
  .rw[es]
   split
   .rename_i I;subst I
    exact⟨deaf1.symm,(λh=>by cases h),λh=>by cases h⟩
   .exact⟨rfl,id,id⟩
 have aK:Base Z (G.gE Z c) u (t++#[({g:=0,fn:=g.frame.fn,pos:=g.frame.place,act:=.go gs.size}:MemOp),{g:=gs.size,fn:=Tryz.prog.funcs.size,pos:=g.frame.place,act:=.start}]):=by
  refine⟨bF,aV,aI,bB,λg b d=>?_,l.q3,λb S a7=>(l.hold b S a7).imp _root_.id λ⟨w,i,E,aB⟩=>⟨w,i,E,.inl aB⟩,l.old,l.ni,l.hi.grow qZ,λg b bd d=>?_,λk=>?_⟩
  .rcases d with d|⟨_,rfl|rfl⟩
   .exact l.mz g b d
   .exact bm
   .exact bo
  .rcases d with d|⟨_,rfl|rfl⟩
   .exact l.pF g b bd d
   .exact(T.2.2 rfl).1
   .exact(U.2.2 rfl).1
  .cases k
   .exact l.cfg false
   .exact⟨f5,f1,f3,f4,rfl⟩
 have L:∀i,i≠0->eh Z G (G.gE Z c) i u u:=λi aj=>⟨Pk,λ_ _=>rfl,qZ,λg b _ d=>by
  rcases d with d|⟨_,rfl|rfl⟩
  .exact .inl d
  .exact .inr (by rw[(T.2.2 rfl).1];exact Ne.symm aj)
  .exact .inr (by rw[(U.2.2 rfl).1];exact Ne.symm aj),λ_ _ _ _ _ _ _=>rfl,⟨_,_,_,_,l.ww.T⟩⟩
 have a2:nd M [6,7]=jQ c 26:=by rw[ar];rfl
 have aN:fF (jQ c 26) u/\Own Z (G.gE Z c) 0 (jQ c 26):=by
  have ap:∀(i:Nat) own b o,(jQ c 26)[i]?=some (own,b,o)->∃r,M[i]?=some (r,b,o)/\(own=true->r=true/\b≠c.ib/\b≠c.ix):=by
   intro i own b o e;have hd:∀(i:Nat) own b o,M[i]?=some (own,b,o)->i≠6->i≠7->b≠c.ib/\b≠c.ix:=λi own b o e aC aD=>⟨C.eV i 6 _ _ _ _ _ _ e Q aC,C.eV i 7 _ _ _ _ _ _ e R aD⟩
   have H:∀r,M[i]?=some (r,b,o)->i≠6->i≠7->own=r->∃r,M[i]?=some (r,b,o)/\(own=true->r=true/\b≠c.ib/\b≠c.ix):=λr V aC aD aq=>⟨r,V,λh=>⟨by rw[<-aq];exact h,hd i r b o V aC aD⟩⟩
   rw[ar]at H ⊢;rcases i with _|_|_|_|_|_|_|_|i
   .exact H own e (by decide) (by decide) rfl
   .exact H own e (by decide) (by decide) rfl
   .exact H own e (by decide) (by decide) rfl
   .exact H own e (by decide) (by decide) rfl
   .exact H own e (by decide) (by decide) rfl
   .exact H own e (by decide) (by decide) rfl
   .have e:some (false,c.ib,Obj.cells #[ad 1] 3 (0,0))=some (own,b,o):=e
    cases e;exact⟨true,rfl,λh=>by cases h⟩
   .have e:some (false,c.ix,Obj.cells c8 32 (0,0))=some (own,b,o):=e
    cases e;exact⟨true,rfl,λh=>by cases h⟩
   .have e:(jQ c 26)[i+8]?=_:=e
    simp[jQ,lZ]at e
  refine⟨⟨λi own b o e=>?_,λi j own b o r ae aG e H al=>?_⟩,λi own b o e=>?_⟩
  .obtain⟨_,w,_⟩:=ap i own b o e
   exact C.has i _ _ _ w
  .obtain⟨_,w,_⟩:=ap i own b o e
   obtain⟨_,E,_⟩:=ap j r ae aG H;exact C.eV i j _ _ _ _ _ _ w E al
  .obtain⟨r,w,E⟩:=ap i own b o e
   obtain⟨q1,ao,aA⟩:=aw i _ _ _ w;refine⟨q1,ao.imp _root_.id (qZ _ _),λh=>?_⟩;obtain⟨V,aq,a0⟩:=E h;refine⟨(aA V).1,λi aj L=>?_⟩;rcases L with L|⟨_,e|e⟩
   .exact(aA V).2 i aj L
   .exact aq e
   .exact a0 e
 have a1:hZ Z (G.gE Z c) ⟨x.1.finish undef,x.2++Z.base,.running,none,none⟩ u c (jQ c 26) (x.1.finish undef,x.2) a 400:=by
  refine⟨⟨?_,Pk,rfl,rfl,rfl,aN.1,aN.2⟩,?_⟩
  .rw[a2]at aO
   exact aO
  .exact tS (λk=>by
    rw[es];split
    .rfl
    .exact wN l (by omega) k) (show(26:Nat)<=28 by decide) hm.ok.cfg (λ_=>rfl) rfl
 have bI:(G.gE Z c).bC true=mX c:=rfl;have af:∀(i:Nat) own b o,(gZ (mX c))[i]?=some (own,b,o)->own=false/\∃J r,M[J]?=some (r,b,o)/\(G.gE Z c).ro (Z.wk true) b/\J = [3,6,1,7].getD i 0:=by
  intro i own b o e;rcases i with _|_|_|_|i
  .have e:some (false,c.bX,Obj.cells #[.chan (some c.ch)] 194 (0,0))=some (own,b,o):=e
   cases e;exact⟨rfl,3,_,aa,.inl (l.hi.yb true _ (.inl f4)),rfl⟩
  .have e:some (false,c.ib,Obj.cells #[ad 1] 3 (0,0))=some (own,b,o):=e
   cases e;exact⟨rfl,6,_,Q,.inr ⟨rfl,.inl rfl⟩,rfl⟩
  .have e:some (false,c.a7,Obj.cells #[pt c.T] 60 (0,0))=some (own,b,o):=e
   cases e;exact⟨rfl,1,_,Y,.inl (l.hi.yb true _ (.inr f6)),rfl⟩
  .have e:some (false,c.ix,Obj.cells c8 32 (0,0))=some (own,b,o):=e
   cases e;exact⟨rfl,7,_,R,.inr ⟨rfl,.inr rfl⟩,rfl⟩
  .simp[gZ]at e
 have aR:∀{i:Nat} {z:Bool×Nat×Obj},(gZ (mX c))[i]?=some z->i<4:=λe=>by have:=(List.getElem?_eq_some_iff.1 e).1;simpa [gZ]using this
 have a8:eM X Z (G.gE Z c) true (bQ (lx (mX c)) []) u ((G.gE Z c).s true) (if gC .bP then 3 else 1,(bl true).2.1,30*500+400):=by
  rw[es,if_pos rfl];refine .out (p:=.bP) (x:=lx (mX c)) (bl true).2.1 rfl ⟨⟨_,D6 c.W c.bX c.ib c.a7 c.ix c.ch c.T 1,rfl⟩,Pk,rfl,rfl,rfl,⟨λi own b o e=>?_,λi j own b o r ae aG e H al=>?_⟩,λi own b o e=>?_⟩ (λ_=>rfl) (λi own b o e=>?_) (λv e=>by cases e)
  .obtain⟨_,J,r,w,_⟩:=af i own b o e
   exact C.has J _ _ _ w
  .obtain⟨_,J,bR,w,_,q1⟩:=af i own b o e
   obtain⟨_,bn,bS,E,_,ao⟩:=af j r ae aG H;refine C.eV J bn _ _ _ _ _ _ w E λhe=>?_
   have V:=aR e;have aq:=aR H;rw[q1,ao]at he;rcases i with _|_|_|_|i<;>rcases j with _|_|_|_|j<;>first|omega|(simp at he;done)|exact absurd rfl al
  .obtain⟨ah,J,r,w,E,_⟩:=af i own b o e
   exact⟨(aw J _ _ _ w).1,.inr E,λh=>by rw[ah]at h;cases h⟩
  .obtain⟨_,J,r,w,E,_⟩:=af i own b o e
   show G.bO b≠Z.wk true;rw[aQ b E];exact Ne.symm (hV W true)
 have bb:bQ (lx (mX c)) []=(⟨{(default:Frame)with fn:=(gB Z).P.funcs.size,defers:=[⟨.fn (.func 80) #[pt c.W,pt c.bX,pt c.ib,pt c.a7,pt c.ix],#[]⟩],mode:=.panicking [goexitEntry]},[],.running,none,none⟩:Goroutine):=rfl;rw[<-bb]at aE;obtain⟨bf,ai⟩:∃bf,bf=(gs.setIfInBounds 0 (⟨x.1.finish undef,x.2++Z.base,.running,none,none⟩:Goroutine)).push (bQ (lx (mX c)) []):=⟨_,rfl⟩
 rw[<-ai]at aE;have bk:=bp d;have bP:(gs.setIfInBounds 0 (⟨x.1.finish undef,x.2++Z.base,.running,none,none⟩:Goroutine)).size=gs.size:=by simp
 have aX:bf[0]?=some ⟨x.1.finish undef,x.2++Z.base,.running,none,none⟩:=by rw[ai,PA,if_neg (by rw[bP];omega),PC bk]
 have aJ:∀i,i≠0->i<gs.size->bf[i]?=gs[i]?:=λi ah aj=>by rw[ai,PA,if_neg (by rw[bP];omega),PB (Ne.symm ah)]
 have aY:bf[Z.wk true]?=some (bQ (lx (mX c)) []):=by rw[ai,PA,if_pos (by rw[bP,az];rfl)]
 have F:=jA.id Z u;have bc:∀i,Deaf (t++#[({g:=0,fn:=g.frame.fn,pos:=g.frame.place,act:=.go gs.size}:MemOp),{g:=gs.size,fn:=Tryz.prog.funcs.size,pos:=g.frame.place,act:=.start}]) i=Deaf t i:=λi=>by
  refine m0 (B:=0) (λop aP=>?_) i;simp only[List.mem_toArray,List.mem_cons,PD,or_false]at aP;rcases aP with rfl|rfl
  .exact⟨rfl,by simp,by simp,trivial⟩
  .exact⟨rfl,by simp,by simp,trivial⟩
 obtain⟨bz,bi⟩:=qW (P:=λj b=>∃ag,bf[Z.wk j]?=some ag/\eM X Z (G.gE Z c) j ag u ((G.gE Z c).s j) (gJ bl true (if gC .bP then 3 else 1,(bl true).2.1,30*500+400) j)/\ht Z (G.gE Z c) j ag u true (gJ bl true (if gC .bP then 3 else 1,(bl true).2.1,30*500+400) j).1 b) (D:=λj=>((G.gE Z c).s j).c≠.un) λj I=>by
  cases j with
  |true=>exact⟨true,_,aY,a8,.run rfl (Nat.succ_ne_zero _)⟩
  |false=>
   obtain⟨ag,w,E,aB⟩:=h.de false I;obtain⟨ae,s1,s2,bT,bU⟩:=aB.jY (au:=G.gE Z c) (eR:=true) F aK rfl rfl rfl (L _ (hV W false)) (.inl rfl) (λ_=>rfl);exact⟨ae,ag,by rw[aJ _ (hV W false) (bp w)];exact w,E.rely (dh:=G.gE Z c) rfl rfl (L _ (hV W false)) rfl rfl rfl _root_.id,s1⟩
 have bM:MemOp.ofEvents 0 g.frame.fn g.frame.place #[]=#[]:=by rw[ofEvents_eq];simp
 refine⟨G.gE Z c,bf,u,_,a*500+400,gJ bl true (if gC .bP then 3 else 1,(bl true).2.1,30*500+400),cb,q,true,bz,c0,aE,?_,ss (cP:=a*500+400) (by omega) rfl⟩;rw[yo];refine⟨aK,?_,⟨_,c,jQ c 26,_,a,400,aX,a1,rfl,.run rfl⟩,bi,λp ax=>?_,λi aZ ah a6 aL=>?_⟩
 .rw[ai,Array.size_push,bP,az];rfl
 .have ax:G.k=.at p:=ax
  rw[aM]at ax;cases ax
 .rw[aJ i (by omega) (by omega)]at aL
  have:=h.old i aZ ah a6 aL;rw[<-bc i]at this;exact this
end
section
variable{X:dJ}{Z:Stat}[gh X Z]{G au:bI}{gs bf:Array Goroutine}{u ay w:World}{t a':Trace}{k:Bool}{g g':Goroutine}{m cP cb hh:Nat}{bl:Bool->fI X.Q}{q:Nat->Nat}{ck c0:Bool}{gD rw:Bool->Bool}{sl:Option (Nat×Nat)}{es:Array Event}{p hD:fG}{c:e0}{M:Mem}{x:bs}{n j a:Nat}
def dP.LS(h:dP X Z G gs u t m bl cb q ck rw c0)(C:G.l=26)(E:gs[0]?=some g)(hm:hZ Z G g u c M x n j)(ax:At (gB Z) a ⟨26,c,M⟩ x)(aV:n=a+1)(aU:m=n*500+j):j5 X Z gs u sl t 0 (gV Z m bl cb q ck rw c0):=by
 have d:=h.base;have Y:=d.ap.pos;have eJ:=d.eJ;obtain⟨f1,f2,f3,f4,f5,f6⟩:=hm.ok.cfg;have L:=hm.ok.early (by omega);rw[C]at L;have S:M[3]?=some (false,c.bX,.cells #[.chan (some c.ch)] 194 (0,0)):=by rw[L];rfl
 have ad:=hm.at_.mem;have af:=hm.at_.own;have az:(G.s true).c≠.un:=λe=>absurd (d.bT.kN.2 e) (by omega)
 have r:G.k=.un:=d.bT.lr.1 (by omega);have H:gs.size=Z.N+2:=by have:=h.size;rw[if_neg (by omega),if_pos (by omega)]at this;exact this
 have ak:fT G.iy:=by
  obtain⟨ai,I,a3,a4,a5,aQ,aj,aR,a9⟩:=d.bT;rw[C]at I;rw[r]at I a3;refine⟨ai,I,a3,?_,?_,?_,aj,(by decide:17<=27),a9⟩
  .show da 27=_
   rw[C]at a4;exact a4
  .show(27:Nat)<26↔(G.s true).c=.un
   exact⟨λh=>absurd h (by decide),λh=>absurd h az⟩
  .show(27:Nat)<27↔c'.at .bu=.un
   exact⟨λh=>absurd h (by decide),λh=>by cases h⟩
 have ah:dv Z G.iy u:=by obtain⟨aN,w2,w3,aO,aP⟩:=d.ww;refine⟨aN,w2,?_,aO,aP⟩;rw[C,r]at w3;exact w3
 have aE:∀g,gp Z G.iy g↔(gp Z G g\/g=dR.num Z .dK):=λg=>by
  constructor
  .rintro(e|⟨k,e,l⟩|⟨e,l⟩)
   .exact .inl (.inl e)
   .exact .inl (.inr (.inl ⟨k,e,l⟩))
   .exact .inr e
  .rintro((e|⟨k,e,l⟩|⟨e,l⟩)|e)
   .exact .inl e
   .exact .inr (.inl ⟨k,e,l⟩)
   .exact absurd r l
   .exact .inr (.inr ⟨e,λh=>by cases h⟩)
 obtain⟨⟨aH,aT⟩,aJ⟩:=ax.spawn (nC Z) (f:=.func 82) (c:=#[pt c.W,pt c.bX]) (a:=#[]) (hi:=[]) (to:=⟨27,c,M⟩) Pl;obtain⟨st,off,aC⟩:=hm.at_.shape;have R:=runT_crowd_spawn (P:=aF) (sl:=sl) E (show stepG aF (0 == 0) g u=_ by rw[aC];exact aJ true _ st off u);have aM:ep Z G.iy (t++#[({g:=0,fn:=g.frame.fn,pos:=g.frame.place,act:=.go gs.size}:MemOp),{g:=gs.size,fn:=Tryz.prog.funcs.size,pos:=g.frame.place,act:=.start}]) u.heap.size:=by refine d.c6.spawn (au:=G.iy) (x:={g:=0,fn:=g.frame.fn,pos:=g.frame.place,act:=.go gs.size}) (y:={g:=gs.size,fn:=Tryz.prog.funcs.size,pos:=g.frame.place,act:=.start}) (b3:=.dK) Y (by rw[C];rfl) rfl (by simp) (by show G.k.deaf=0;rw[r];rfl) rfl (λ_ _ h=>h) (λg b _ E=>E) (λb ay=>d.pF _ b (by show Z.N+2≠0;omega) ay) (d.ap.same (au:=G.iy) rfl rfl).kB (λj=>⟨rfl,_root_.id,_root_.id⟩) ⟨by rw[r];rfl,(λh=>by cases h),λ_=>by rw[r];rfl⟩ aE rfl ⟨rfl,by rw[H];rfl⟩ ⟨by rw[H];rfl,rfl⟩
 have W:Base Z G.iy u (t++#[({g:=0,fn:=g.frame.fn,pos:=g.frame.place,act:=.go gs.size}:MemOp),{g:=gs.size,fn:=Tryz.prog.funcs.size,pos:=g.frame.place,act:=.start}]):=d.rest (au:=G.iy) rfl rfl rfl rfl ah ak aM;have ag:∀i,eh Z G G.iy i u u:=λi=>eh.same rfl rfl rfl (λ_ _ _ _=>rfl) ah
 have av:hZ Z G.iy ⟨x.1.finish undef,x.2++Z.base,.running,none,none⟩ u c M (x.1.finish undef,x.2) a 400:=by
  refine⟨⟨aH,Pk,rfl,rfl,rfl,ad,af⟩,?_⟩;refine tS (λk=>wN d (by omega) k) (show(27:Nat)<=28 by decide) hm.ok.cfg (λhle=>?_) ?_
  .have:G.iy.l=27:=rfl
   omega
  .rw[L];rfl
 have ar:j0 Z G.iy .bu (bQ (born 82 #[pt c.W,pt c.bX]) []) u (30*500+400+1) true:=by
  refine .run (born 82 #[pt c.W,pt c.bX]) 30 400 ⟨⟨_,by rw[f5,f4];exact FD Z.W Z.bX Z.ch,rfl⟩,Pk,rfl,rfl,rfl,⟨λi own b o e=>?_,λi j own b o aX T aW e J aG=>?_⟩,λi own b o e=>?_⟩ rfl
  .rcases i with _|i
   .have e:some (false,Z.bX,Obj.cells #[.chan (some Z.ch)] 194 (0,0))=some (own,b,o):=e
    cases e;rw[<-f4,<-f3];exact ad.has 3 _ _ _ S
   .have e:(lK ⟨Z.W,Z.bX,Z.ch⟩)[i+1]?=_:=e
    simp[lK]at e
  .rcases i with _|i<;>rcases j with _|j
   .exact absurd rfl aG
   .have J:(lK ⟨Z.W,Z.bX,Z.ch⟩)[j+1]?=_:=J
    simp[lK]at J
   .have e:(lK ⟨Z.W,Z.bX,Z.ch⟩)[i+1]?=_:=e
    simp[lK]at e
   .have e:(lK ⟨Z.W,Z.bX,Z.ch⟩)[i+1]?=_:=e
    simp[lK]at e
  .rcases i with _|i
   .have e:some (false,Z.bX,Obj.cells #[.chan (some Z.ch)] 194 (0,0))=some (own,b,o):=e
    cases e;refine⟨?_,.inr d.hi.Cn,λh=>by cases h⟩;rw[<-f4];exact(af 3 _ _ _ S).1
   .have e:(lK ⟨Z.W,Z.bX,Z.ch⟩)[i+1]?=_:=e
    simp[lK]at e
 have aA:bQ (born 82 #[pt c.W,pt c.bX]) []=(⟨{(default:Frame)with fn:=(gB Z).P.funcs.size,defers:=[⟨.fn (.func 82) #[pt c.W,pt c.bX],#[]⟩],mode:=.panicking [goexitEntry]},[],.running,none,none⟩:Goroutine):=rfl;rw[<-aA]at R;obtain⟨bf,z⟩:∃bf,bf=(gs.setIfInBounds 0 (⟨x.1.finish undef,x.2++Z.base,.running,none,none⟩:Goroutine)).push (bQ (born 82 #[pt c.W,pt c.bX]) []):=⟨_,rfl⟩
 rw[<-z]at R;have aK:=bp E;have bP:(gs.setIfInBounds 0 (⟨x.1.finish undef,x.2++Z.base,.running,none,none⟩:Goroutine)).size=gs.size:=by simp
 have ao:bf[0]?=some ⟨x.1.finish undef,x.2++Z.base,.running,none,none⟩:=by rw[z,PA,if_neg (by rw[bP];omega),PC aK]
 have V:∀i,i≠0->i<gs.size->bf[i]?=gs[i]?:=λi K aS=>by rw[z,PA,if_neg (by rw[bP];omega),PB (Ne.symm K)]
 have ap:bf[Z.N+2]?=some (bQ (born 82 #[pt c.W,pt c.bX]) []):=by rw[z,PA,if_pos (by rw[bP,H])]
 have F:=jA.id Z u;have aB:∀i,Deaf (t++#[({g:=0,fn:=g.frame.fn,pos:=g.frame.place,act:=.go gs.size}:MemOp),{g:=gs.size,fn:=Tryz.prog.funcs.size,pos:=g.frame.place,act:=.start}]) i=Deaf t i:=λi=>by
  refine m0 (B:=0) (λop ae=>?_) i;simp only[List.mem_toArray,List.mem_cons,PD,or_false]at ae;rcases ae with rfl|rfl
  .exact⟨rfl,by simp,by simp,trivial⟩
  .exact⟨rfl,by simp,by simp,trivial⟩
 obtain⟨aL,aI⟩:=qW (P:=λj b=>∃w,bf[Z.wk j]?=some w/\eM X Z G.iy j w u (G.iy.s j) (bl j)/\ht Z G.iy j w u true (bl j).1 b) (D:=λj=>(G.iy.s j).c≠.un) λj aD=>by obtain⟨w,U,al,am⟩:=h.de j aD;obtain⟨T,s1,s2,aY,aZ⟩:=am.jY (au:=G.iy) (eR:=true) F W rfl rfl rfl (ag _) (.inl rfl) (λ_=>rfl);exact⟨T,w,by rw[V _ (hV Y j) (bp U)];exact U,al.rely (dh:=G.iy) rfl rfl (ag _) rfl rfl rfl _root_.id,s1⟩
 refine⟨G.iy,bf,u,_,a*500+400,bl,30*500+400+1,q,true,aL,true,R,?_,ss (cP:=a*500+400) (by omega) rfl⟩;rw[yo];refine⟨W,?_,⟨_,c,M,_,a,400,ao,av,rfl,.run rfl⟩,aI,λp Q=>?_,λi aq K aw aa=>?_⟩
 .rw[z,Array.size_push,bP,H];rfl
 .have Q:c'.at .bu=.at p:=Q
  cases Q;exact⟨_,ap,ar⟩
 .rw[V i (by omega) (by omega)]at aa
  have:=h.old i aq K aw aa;rw[<-aB i]at this;exact this
end
section
variable{X:dJ}{Z:Stat}[gh X Z]{G au:bI}{gs bf:Array Goroutine}{u ay w:World}{t a':Trace}{k:Bool}{g g':Goroutine}{m cP cb hh:Nat}{bl:Bool->fI X.Q}{q:Nat->Nat}{ck c0:Bool}{gD rw:Bool->Bool}{sl:Option (Nat×Nat)}{es:Array Event}{p hD:fG}{c:e0}{M:Mem}{x:bs}{n j a:Nat}{bF:Machine->Outcome->World->Trace->Prop}
def EU(a j N:Nat)(h:(a+1)*500+j<=N+1):a*500+400<=N:=by have c:(a+1)*500=a*500+500:=Nat.succ_mul a 500;rw[c]at h;generalize a*500=b at h ⊢;have d:b+500<=N+1:=Po (Nat.le_add_right _ _) h;exact Nat.le_of_succ_le_succ (Po (Nat.add_le_add_left (by decide:401<=500) b) d)
def Ku(bC:kT)(a2:Bool):∀(N n j:Nat) (p:gR) (x:bs) (off:Option (Array CommCase×CommShape)),n*500+j<=N->j<=400->eA (eZ bC) n p j x->(p=.d6\/p=.fin)->∃q,QuitsD aF q (⟨.out p,a2⟩:bZ).deaf ⟨x.1,x.2,.running,none,off⟩:=by
 intro N;induction N with
 |zero=>
  intro n j p x off i r d g;obtain⟨z,C,_⟩:=d;cases n with
  |zero=>exact C.elim
  |succ n=>omega
 |succ N o=>
  intro n j p x off i r d g;rcases d.step (nE bC)with⟨a,u,l⟩|⟨y,bn,D,f,c⟩
  .have hle:a*500+400<=N:=EU a j N (u ▸ i)
   rcases g with rfl|rfl
   .obtain⟨y,f,_,_,c⟩:=l.fix (nE bC) (show Edge.fix true false [] [.mark (.extern 105),.mark .enable] .fin∈(eZ bC).cq .d6 from Pl)
    obtain⟨q,h⟩:=o a 400 .fin y none hle Pk f (.inr rfl);refine⟨q+1,.inr ⟨rfl,⟨y.1,y.2,.running,none,none⟩,#[⟨.mark .enable,false,true⟩],λe he=>?_,λw=>?_,h⟩⟩
    .have:e=⟨.mark .enable,false,true⟩:=by simpa using he
     rw[this];rfl
    .have:=c false [] .running off w w _ (.mark (.mark (.nil w)))
     simp only[bQ,List.append_nil]at this;exact this
   .obtain⟨B,c⟩:=l.done Pl
    refine⟨1,.inr ⟨rfl,⟨x.1,[],.finished,none,none⟩,#[],λe he=>(by simp at he),λw=>?_,⟨rfl,rfl⟩⟩⟩;have:=c false .running off w;rw[B];exact this
  .obtain⟨q,h⟩:=o n bn p y none (by omega) (by omega) f g
   refine⟨q+1,QuitsD.ctl rfl (λw=>?_) h⟩;have:=c false [] .running off w;simp only[bQ,List.append_nil]at this;exact this
def Kt(Z:Stat):∀(N n j:Nat) (x:bs) (off:Option (Array CommCase×CommShape)),n*500+j<=N->j<=400->eA (ic Z) n .fin j x->∃q,QuitsD aF q 0 ⟨x.1,x.2,.running,none,off⟩:=by
 intro N;induction N with
 |zero=>
  intro n j x off f h c;obtain⟨z,p,_⟩:=c;cases n with
  |zero=>exact p.elim
  |succ n=>omega
 |succ N r=>
  intro n j x off f h c;rcases c.step (pW Z)with⟨a,B,g⟩|⟨y,bn,u,i,d⟩
  .obtain⟨o,d⟩:=g.done Pl
   refine⟨1,.inr ⟨rfl,⟨x.1,[],.finished,none,none⟩,#[],λe he=>(by simp at he),λw=>?_,⟨rfl,rfl⟩⟩⟩;have:=d false .running off w;rw[o];exact this
  .obtain⟨q,l⟩:=r n bn y none (by omega) (by omega) i
   refine⟨q+1,QuitsD.ctl rfl (λw=>?_) l⟩;have:=d false [] .running off w;simp only[bQ,List.append_nil]at this;exact this
structure mM(Z:Stat)(u:World)(r:Bool->Nat×Nat)(aU:Bool):Prop where
 calm:Calm Z.aI u
 old:∀b,b<Z.aI.heap.size->b≠Z.z.T->u.heap[b]?=Z.aI.heap[b]?
 D4:Z.W<u.heap.size
 T:u.heap[Z.z.T]?=some (.cells (dW Z.z 0 0 aU aU) 105 (0,0))
 O:u.heap[Z.O]?=some (.cells #[four (r false),four (r true)] 22 (0,0))
 res:∀k,∃l,u.heap[(r k).1]?=some (.cells (#[ad 2,ad 3,ad 5,ad 6]++l) 3 (0,0))/\(r k).2<=l.size+4
 new:Z.aI.heap.size<=Z.O/\(∀k,Z.aI.heap.size<=(r k).1)/\(r false).1≠(r true).1/\(∀k,(r k).1≠Z.O)/\Z.aI.heap.size<=Z.W/\Z.W≠Z.O/\∀k,(r k).1≠Z.W
def mM.at{r:Bool->Nat×Nat}{aU:Bool}(h:mM Z u r aU)(d:Nat):mM Z (u.at d) r aU:=⟨h.calm.trans (Calm.at u d),h.old,h.D4,h.T,h.O,h.res,h.new⟩
def dP.Eo(h:dP X Z G gs u t m bl cb q ck rw c0)(R:G.l=40)(C:G.k.shut=true)(hm:hZ Z G g u c M x n j):mM Z u G.cl G.aU/\(∀k,∃p,(G.s k).c=.out p/\(p=.d6\/p=.fin))/\G.k=.at .fin:=by
 have d:=h.base;have l:G.k=.at .fin:=by
  rcases l:G.k with _|p
  .rw[l]at C;cases C
  .rw[l]at C
   cases p<;>first|rfl|cases C
 have wg:=d.bT.pk l;obtain⟨_,Y,aa⟩:=s5 wg;have pos:∀k,∃p,(G.s k).c=.out p/\(p=.d6\/p=.fin):=λk=>by
  have E:(G.s k).cy=.yes:=by cases k<;>assumption
  generalize W:G.s k=s at E;obtain⟨K,a2⟩:=s;cases K with
  |out p=>cases p<;>first|exact⟨_,rfl,.inl rfl⟩|exact⟨_,rfl,.inr rfl⟩|cases E
  |_=>cases E
 have S:∀k,(G.s k).cI=true:=λk=>by obtain⟨p,e,B⟩:=pos k;unfold bZ.cI;rw[e];rcases B with rfl|rfl<;>rfl
 have o:∀k,jh Z G (Z.wk k) u (G.cl k):=λk=>by obtain⟨p,e,B⟩:=pos k;obtain⟨U,ar,L,T⟩:=h.de k (by rw[e];intro h;cases h);exact L.res e (by rcases B with rfl|rfl<;>rfl)
 have role:∀k,(G.s k).role=.idle\/(G.s k).role=.fin:=λk=>by
  obtain⟨p,e,B⟩:=pos k;unfold bZ.role;rw[e];rcases V:(G.s k).a2 with _|_
  .exact .inl rfl
  .exact .inr rfl
 have once:=d.bT.once;have r:G.mu=0/\G.ms=0/\G.a7=G.aU:=by have f:=once.mu;have w:=once.aU;have D:=once.a7;rcases role false with di|di<;>rcases role true with ar|ar<;>rw[di,ar]at f w D<;>simp[iw,iK,rY,sW,h0.xk,h0.fs]at f w D<;>exact⟨f.1.symm,f.2.symm,D.trans w.symm⟩
 have z:fO Z G 0 Z.O:=by have:=hm.at_.own 2 _ _ _ hm.ok.out;exact⟨this.1,this.2.2 rfl⟩
 have H:=hm.at_.mem.has 2 _ _ _ hm.ok.out;have I:∀k,hk G c k=four (G.cl k):=λk=>by unfold hk;rw[S k,R];rfl
 rw[I,I]at H;have J:∀b,b≠Z.z.T->(∃i,i<=Z.N+2/\fO Z G i b)\/(∃k,G.bO b=Z.wk k)->Z.aI.heap.size<=b:=λb r P=>by
  refine Nat.le_of_not_lt λF=>?_
  rcases P with⟨i,Q,hm⟩|⟨k,l⟩
  .exact d.BF b F r i Q hm
  .rcases d.hold b F r with e|⟨e,_⟩
   .rw[l]at e;have:=OV Z k;omega
   .rw[l]at e;exact hV d.ap.pos k e
 refine⟨⟨d.ww.calm,d.ww.old,bp d.ww.W,?_,H,λk=>(o k).cells,J _ z.1.1 (.inl ⟨0,by omega,z⟩),λk=>J _ (o k).fq.1 (.inr ⟨k,(o k).own⟩),λe=>?_,λk e=>?_,d.ni.1,Ne.symm z.1.2.1,λk=>(o k).fq.2.1⟩,pos,l⟩
 .have:=d.ww.T
  rw[r.1,r.2.1,r.2.2]at this;exact this
 .have f:=(o false).own
  have w:=(o true).own;rw[e,w]at f;exact absurd (y4 f) (by simp)
 .have f:=(o k).own
  rw[e,z.2.1]at f;exact hV d.ap.pos k f.symm
def IZ{bu:Frame}{rest:List Frame}(q:Z.base=bu::rest)(B:Kept bu){r:Bool->Nat×Nat}{aU:Bool}(o:c.O=Z.O)(fin:∀bf ay a',mM Z ay r aU->b5 aF (λb=>Z.aE b\/b=Z.W) bf ⟨er Z.kd bu (.slice (some (box Z.O)) 2 2),rest,.running,none,none⟩ ay a' 0->∀sl,Ends aF bF (crowd bf ay sl) a'):
 ∀(N n j:Nat) (x:bs),n*500+j<=N->j<=400->eA (gB Z) n ⟨41,c,M⟩ j x->∀gs u t,mM Z u r aU->b5 aF (λb=>Z.aE b\/b=Z.W) gs ⟨x.1,x.2++Z.base,.running,none,none⟩ u t 0->∀sl,Ends aF bF (crowd gs u sl) t:=by
 intro N;induction N with
 |zero=>
  intro n j x l w f;obtain⟨z,E,_⟩:=f;cases n with
  |zero=>exact E.elim
  |succ n=>omega
 |succ N F=>
  intro n j x l w f gs u t hd i sl;rcases f.step (nC Z)with⟨a,H,p⟩|⟨y,bn,G,C,g⟩
  .obtain⟨D,g⟩:=p.leave (v:=.slice (some (box c.O)) 2 2) Pl
   refine i.step (λk=>⟨⟨er Z.kd bu (.slice (some (box Z.O)) 2 2),rest,.running,none,none⟩,u.at k,#[],?_,rfl,Pk,(λe he=>by simp at he),λbf a' h d=>fin bf _ a' (hd.at k) d h⟩) sl;have:=g true .running none bu rest (u.at k) B;rw[o]at this;rw[q,D];exact this
  .refine i.step (λk=>⟨bQ y Z.base,u.at k,#[],g true Z.base .running none (u.at k),rfl,Pk,(λe he=>by simp at he),λbf a' h d=>?_⟩) sl
   exact F n bn y (by omega) (by omega) C bf _ a' (hd.at k) d h
end
section
variable{X:dJ}{Z:Stat}[gh X Z]{G au:bI}{gs bf:Array Goroutine}{u ay w:World}{t a':Trace}{k:Bool}{g g':Goroutine}{m cP cb hh:Nat}{bl:Bool->fI X.Q}{q:Nat->Nat}{ck c0:Bool}{gD rw:Bool->Bool}{sl:Option (Nat×Nat)}{es:Array Event}{p hD:fG}{c:e0}{M:Mem}{x:bs}{n j a:Nat}{bF:Machine->Outcome->World->Trace->Prop}
def Over(Z:Stat)(gs:Array Goroutine)(u:World)(sl:Option (Nat×Nat))(t:Trace):Prop:=
 ∃(bf:Array Goroutine) (ops:Array MemOp) (c:e0) (M:Mem) (x:bs) (a:Nat) (r:Bool->Nat×Nat) (aU:Bool),runT aF (crowd gs u sl) 0=(.next (crowd bf u sl),ops)/\c.O=Z.O/\eA (gB Z) a ⟨41,c,M⟩ 400 x/\mM Z u r aU/\
  b5 aF (λb=>Z.aE b\/b=Z.W) bf ⟨x.1,x.2++Z.base,.running,none,none⟩ u (t++ops) 0
def OY(I:Base Z G u t){r:fI X.Q}{H b:Bool}{s:bZ}(F:eM X Z G k g u s r)(o:G.s k=s)(D:ht Z G k g u H r.1 b){p:gR}(f:s.c=.out p)(l:p=.d6\/p=.fin):∃q,QuitsD aF q s.deaf g:=by
 cases F with
 |@out hD a2 x n j fp ok h J K E=>
  cases f;have d:g.status=.running:=by
   have w:((if gC p then 3 else 1:Nat),fp,n*500+j).1≠0:=by show(if gC p then 3 else 1)≠0;split<;>decide
   cases D with
   |run h _=>exact h
   |sema _ _ c _ _=>obtain⟨b,c⟩:=c;rw[o]at c;cases c
   |snd v _ _ _ _ _ c _ _ _ _ _ _=>
    rw[o]at c;have:=c.cy;rcases l with rfl|rfl<;>cases this
   |gone _ _ z=>exact absurd z w
  obtain⟨st,off,i⟩:=h.shape;obtain⟨q,C⟩:=Ku (G.bC k) a2 (n*500+j) n j p x off Pk h.le h.on l;refine⟨q,?_⟩;have e:g=⟨x.1,x.2,.running,none,off⟩:=by rw[i];rw[i]at d;dsimp only at d;rw[d];simp
  rw[e];exact C
 |gone fp B E=>
  exact⟨0,B,rfl⟩
 |_=>cases f
def dP.recvs(h:dP X Z G gs u t m bl cb q ck rw c0)(ah:G.l=28\/G.l=34\/G.l=40)(K:gs[0]?=some g)(bw:g.status=.running)(hm:hZ Z G g u c M x n j)(aa:At (gB Z) a ⟨G.l,c,M⟩ x)(av:n=a+1)(aN:m=n*500+j):
 j5 X Z gs u sl t 0 (gV Z m bl cb q ck rw c0)\/Over Z gs u sl t:=by
 have r:=h.base;have Y:=r.ap.pos;have au:=bp K;obtain⟨bt,bB⟩:=Bo ah hm.ok.cfg.2.2.1 aa;obtain⟨st,off,bi⟩:=hm.at_.shape;have aB:stepG aF (0 == 0) g u=.comm ⟨x.1,x.2++Z.base,.running,none,none⟩ (gW Z) true (.recv true) u:=by rw[bi];exact bB true _ _ _ _
 have aK:=r.ww.ch;have ay:MemOp.ofEvents 0 g.frame.fn g.frame.place #[]=#[]:=by rw[ofEvents_eq];simp
 have ag:∀i b,(i,b)∈partners (gs.setIfInBounds 0 ph) Z.ch true->b=0/\i≠0/\∃k v x n j aE,i=Z.wk k/\(G.s k).c≠.un/\(∃l,gs[i]?=some (parked l #[scase Z.ch (iN k v) (.tuple #[])] .send))/\fU (G.s k) ⟨.out (.snd v),(G.s k).a2⟩/\(∀l,gs[i]?=some (parked l #[scase Z.ch (iN k v) (.tuple #[])] .send)->cn (eZ (G.bC k)) Z G (Z.wk k) (.snd v) [] x (parked l #[scase Z.ch (iN k v) (.tuple #[])] .send) u n j)/\At (eZ (G.bC k)) aE (.snd v) x/\n=aE+1/\
  ((∀(n:Nat) own b o,(gZ (G.bC k))[n]?=some (own,b,o)->G.bO b≠Z.wk k)/\jh Z G (Z.wk k) u v):=by
  intro i b aq;obtain⟨f,W,Q⟩:=mem_partners.1 aq;rcases getElem?_stand gs 0 i f W with⟨rfl,rfl⟩|⟨L,ao⟩
  .rw[offersAt_ph]at Q;cases Q
  .obtain⟨bd,k,v,U,nw,aS,aG,w,C,⟨l,H⟩,a2,a4,a5,a6,a7⟩:=h.sends ao Q L
   subst H;refine⟨bd,L,k,v,U,nw,aS,aG,w,C,⟨l,ao⟩,a2,λa8 P=>?_,a5,a6,a7⟩;rw[ao]at P;rw[<-Pm P];exact a4
 by_cases L:partners (gs.setIfInBounds 0 ph) Z.ch true = []
 .rcases J:G.k.shut with _|_
  ·
   left;have ai:=tF r J;have aR:=crowd_waits (sl:=sl) K aB (λa1 bg=>by
    have:a1=rcase Z.ch z0:=by simpa using bg
    rw[this];exact ways_recv_none ai L)
   rw[ay]at aR;have bv:ck=true:=by
    obtain⟨a8,bL,bK,bR,bQ,bP,P,aH,bM,a9⟩:=h.main;rw[K]at P;obtain rfl:=Pm P;cases a9 with
    |run _=>rfl
    |pB _ am _ _ _ _=>obtain⟨l,rfl⟩:=am;cases bw
   have aC:∀i,i≠0->(gs.setIfInBounds 0 (parked ⟨x.1,x.2++Z.base,.running,none,none⟩ (gW Z) (.recv true)))[i]?=gs[i]?:=λi W=>PB (Ne.symm W)
   have bD:∀k,(G.s k).c≠.un->∃E,gs[Z.wk k]?=some E/\eM X Z G k E u (G.s k) (bl k)/\ht Z G k E u false (bl k).1 (rw k):=λk F=>by
    obtain⟨E,w,C,H⟩:=h.de k F;refine⟨E,w,C,?_⟩;generalize rw k=b at H ⊢;generalize (bl k).1=mk at H ⊢;cases H with
    |run h S=>exact .run h S
    |sema h bs D br S=>exact .sema h bs D br S
    |snd v x n j b am D ae aa av aI bO S=>
     exfalso;obtain⟨l,rfl⟩:=am;have:(Z.wk k,0)∈partners (gs.setIfInBounds 0 ph) Z.ch true:=mem_partners.2 ⟨_,by rw[PB (Ne.symm (hV Y k))];exact w,by rw[offersAt_parked_send,if_pos rfl];exact Pl⟩;rw[L]at this;cases this
    |gone h D S=>exact .gone h D S
   refine⟨G,_,u,#[],m,bl,cb,q,false,rw,c0,aR,⟨by simpa using r,by rw[Array.size_setIfInBounds];exact h.size,⟨_,c,M,x,n,j,by rw[PC au],⟨⟨hm.at_.on,hm.at_.le,rfl,rfl,rfl,hm.at_.mem,hm.at_.own⟩,hm.ok⟩,aN,.pB a ⟨_,rfl⟩ ah av aa J⟩,λk F=>?_,λp I=>?_,λi f V bb z=>?_⟩,xF (by rw[bv];simp[jD])⟩
   .obtain⟨E,w,C⟩:=bD k F
    exact⟨E,by rw[aC _ (hV Y k)];exact w,C⟩
   .obtain⟨E,w,C⟩:=h.dK p I
    exact⟨E,by rw[aC _ (by omega)];exact w,C⟩
   .rw[aC i (by omega)]at z
    simpa using h.old i f V bb z
  ·
   right;have F:G.k=.at .fin:=by
    rcases F:G.k with _|p
    .rw[F]at J;cases J
    .rw[F]at J
     cases p<;>first|rfl|cases J
   have ar:G.l=40:=by
    have wg:=r.bT.pk F;obtain⟨_,bH,bI⟩:=s5 wg;have D:=r.bT.cnt;rw[tQ bH,tQ bI]at D;rcases ah with ah|ah|ah
    .rw[ah]at D;cases D
    .rw[ah]at D;cases D
    .exact ah
   obtain⟨hd,aP,_⟩:=h.Eo ar J hm;rw[J]at aK;have aj:=crowd_recv_closed (sl:=sl) K aB aK L;rw[finishComm_recv,ay,Array.empty_append]at aj;have bC:toGot G.l c M none=⟨41,c,M⟩:=by show(if G.l=40 then _ else _)=_;rw[if_pos ar]
   have aO:=bt none;rw[bC]at aO;have bx:∀k,(G.s k).cI=true:=λk=>by obtain⟨p,e,I⟩:=aP k;unfold bZ.cI;rw[e];rcases I with rfl|rfl<;>rfl
   have bz:Go.Conc.served (⟨x.1,x.2++Z.base,.running,none,none⟩:Goroutine) (recvd true z0 false)=⟨x.1.finish (m6 none),x.2++Z.base,.running,none,none⟩:=rfl;rw[bz]at aj;have aM:iJ G.l=0:=by rw[ar];rfl
   have aw:∀i,Deaf (t++#[({g:=0,fn:=x.1.fn,pos:=x.1.place,act:=.recvClosed Z.ch}:MemOp)]) i=Deaf t i:=λi=>m0 (B:=u.heap.size) (λop ax=>by
    have:op={g:=0,fn:=x.1.fn,pos:=x.1.place,act:=.recvClosed Z.ch}:=by simpa using ax
    rw[this];exact⟨rfl,by simp,by simp,r.eJ.2.2⟩) i
   refine⟨_,_,c,M,(x.1.finish (m6 none),x.2),a,G.cl,G.aU,aj,hm.ok.cfg.2.1,aO,hd,⟨by rw[PC au],rfl,?_,r.c6.finish Y r.eJ.2.2 bx J aM ⟨rfl,rfl⟩,by rw[aw];exact r.c6.d0.trans aM⟩⟩;have each:∀i f,0<i->gs[i]?=some f->∃R,QuitsD aF R (Deaf t i) f:=λi f V z=>by
    rcases h.l7 z with e|⟨_,e⟩|⟨k,rfl,Q⟩|⟨rfl,p,I⟩
    .omega
    .exact⟨q i,h.old i f V e z⟩
    .obtain⟨p,e,I⟩:=aP k
     obtain⟨E,w,C,H⟩:=h.de k Q;rw[z]at w;obtain rfl:=Pm w;rw[r.c6.o8];exact OY r C rfl H e I
    .obtain⟨E,w,C⟩:=h.dK p I
     rw[z]at w;obtain rfl:=Pm w;rw[F]at I;cases I;rw[r.c6.m1,F];clear h;cases C with
     |run aD aU dC ae aA=>
      obtain⟨st,off,K⟩:=ae.shape;obtain⟨bE,az⟩:=Kt Z (aU*500+dC) aU dC aD off Pk ae.le ae.on;refine⟨bE,?_⟩;have e:f=⟨aD.1,aD.2,.running,none,off⟩:=by rw[K];rw[K]at aA;dsimp only at aA;rw[aA];simp
      rw[e];exact az
     |wait _ _ _ _ _ _ bu _=>cases bu
     |gone _ bh=>exact⟨0,bh,rfl⟩
   refine⟨λi=>Classical.epsilon λR=>∀f,gs[i]?=some f->QuitsD aF R (Deaf t i) f,⟨λi f V z=>?_,λi W=>?_⟩⟩
   .rw[PB (by omega)]at z
    rw[aw];obtain⟨R,az⟩:=each i f V z;exact Classical.epsilon_spec (p:=λR=>∀f,gs[i]?=some f->QuitsD aF R (Deaf t i) f) ⟨R,λg' aL=>by rw[z]at aL;rw[<-Pm aL];exact az⟩ f z
   .rw[aw]
    refine r.c6.above i ?_;rw[Array.size_setIfInBounds,h.size,if_neg (by omega),if_neg (by omega)]at W;omega
 ·
  left;obtain⟨⟨i1,af⟩,bj⟩:=List.exists_mem_of_ne_nil _ L;obtain⟨_,_,aT,v1,_,_,_,_,_,_,_,aJ,_⟩:=ag i1 af bj;have bA:(G.s aT).cI=false:=by rw[<-aJ.cI];rfl
  have ax:G.k.shut=false:=uO (k:=aT) r (by rw[<-aJ.cy];rfl);have ai:=tF r ax;have bn:=A7 r ah bA;obtain⟨i,f,aW,bJ,aV,d,ap,z,aQ⟩:=crowd_recv_meets_some (sl:=sl) K aB ai L λi b aq=>by obtain⟨w,C,k,v,_,_,_,_,_,_,⟨l,H⟩,_⟩:=ag i b aq;exact⟨w,C,l,_,_,_,H⟩
  have bm:(i,0)∈partners (gs.setIfInBounds 0 ph) Z.ch true:=mem_partners.2 ⟨_,by rw[PB (Ne.symm ap)];exact z,by rw[offersAt_parked_send,if_pos rfl];exact Pl⟩;obtain⟨_,_,k,v,U,nw,aS,aG,rfl,Q,⟨l,al⟩,D,T,bc,bN,aI⟩:=ag i 0 bm;have T:=T l al;have ad:parked f #[scase Z.ch aW bJ] aV=parked l #[scase Z.ch (iN k v) (.tuple #[])] .send:=by rw[z]at al;exact Pm al
  obtain⟨P,aH⟩:aW=iN k v/\aV=.send:=by have:=congrArg Goroutine.offers ad;simp[parked,scase]at this;exact⟨this.1.1,this.2⟩
  have ak:f.frame=U.1/\f.callers=U.2/\f.dying=none:=by
   have aX:f.frame=l.frame:=by have:=congrArg Goroutine.frame ad;exact this
   have aY:f.callers=l.callers:=by have:=congrArg Goroutine.callers ad;exact this
   have a3:f.dying=l.dying:=by have:=congrArg Goroutine.dying ad;exact this
   have af:l.frame=U.1:=T.fr;have aZ:l.callers=U.2++[]:=T.cs;have a0:l.dying=none:=T.lL;exact⟨aX.trans af,aY.trans (by rw[aZ];simp),a3.trans a0⟩
  subst P;subst aH;rw[finishComm_send,finishComm_recv,ay,Array.empty_append]at aQ;have bq:=bp z;obtain⟨cP,e',bG,bF,ba,bo⟩:=h.meet (k:=k) (qz:=Go.Conc.served f undef) (qx:=Go.Conc.served (⟨x.1,x.2++Z.base,.running,none,none⟩:Goroutine) (recvd true (iN k v) true)) (bf:=(gs.setIfInBounds (Z.wk k) (Go.Conc.served f undef)).setIfInBounds 0 (Go.Conc.served (⟨x.1,x.2++Z.base,.running,none,none⟩:Goroutine) (recvd true (iN k v) true))) (d:=d)
   Q D bn T bc aI hm aa av aN (by rw[u9 ak.2.2,ak.1,ak.2.1]) (by
    rw[u9 rfl];have:recvd true (iN k v) true=m6 (some (k,v)):=by cases k<;>rfl
    rw[this]) (by simp) (by rw[PC (by simpa using au)]) (by rw[PB (Ne.symm (hV Y k)),PC bq]) (λi ap bk=>DH ap bk) (cap:=0) (x:={g:=Z.wk k,fn:=f.frame.fn,pos:=f.frame.place,act:=.send Z.ch (da G.l)}) (y:={g:=0,fn:=x.1.fn,pos:=x.1.place,act:=.recv Z.ch (da G.l) 0}) (p:={g:=Z.wk k,fn:=f.frame.fn,pos:=f.frame.place,act:=.sendDone Z.ch (da G.l)}) (q':={g:=0,fn:=x.1.fn,pos:=x.1.place,act:=.recvDone Z.ch (da G.l)}) ⟨rfl,rfl⟩ rfl rfl ⟨rfl,rfl⟩
  exact⟨_,_,_,_,cP,e',cb,q,true,bG,bF,aQ,ba,ss bo rfl⟩
def dP.NU(h:dP X Z G gs u t m bl cb q ck rw c0)(f:gs[0]?=some g)(L:g.status=.running):j5 X Z gs u sl t 0 (gV Z m bl cb q ck rw c0)\/Over Z gs u sl t:=by
 obtain⟨S,c,M,x,n,j,B,E,i,T⟩:=h.main;rw[f]at B;obtain rfl:=Pm B;rcases IY h.base E with⟨au,ay,l,g',bo,bR,U,cM,bn,R,D,C,F,Q,r,K,hm,H,P,J,I⟩|⟨c,M,x,n,j,a,ah,hm,d,w,z⟩
 .refine .inl (h.E2 f R r P D C F Q K hm J I (by rw[i];exact H) ⟨?_,?_⟩)
  .have o:=r.bT.kN
   have p:=h.base.bT.kN;rw[o,p,D]
  .have o:=r.bT.lr
   have p:=h.base.bT.lr;rw[o,p,C]
 .rcases ah with ah|ah|ah
  .exact .inl (h.LR ah f hm (by rw[ah]at d;exact d) w (i.trans z))
  .exact .inl (h.LS ah f hm (by rw[ah]at d;exact d) w (i.trans z))
  .exact h.recvs ah f L hm d w (i.trans z)
def dP.ends{bu:Frame}{rest:List Frame}(ag:Z.base=bu::rest)(ai:Kept bu)(fin:∀bf ay a' r aU,mM Z ay r aU->b5 aF (λb=>Z.aE b\/b=Z.W) bf ⟨er Z.kd bu (.slice (some (box Z.O)) 2 2),rest,.running,none,none⟩ ay a' 0->∀sl,Ends aF bF (crowd bf ay sl) a')(h:dP X Z G gs u t m bl cb q ck rw c0)(sl:Option (Nat×Nat)):Ends aF bF (crowd gs u sl) t:=by
 have key:∀x:p8 X.Q,∀(G:bI) (gs:Array Goroutine) (u:World) (t:Trace) (m:Nat) (bl:Bool->fI X.Q) (cb:Nat) (q:Nat->Nat) (ck:Bool) (rw:Bool->Bool) (c0:Bool),x=gV Z m bl cb q ck rw c0->dP X Z G gs u t m bl cb q ck rw c0->∀sl,Ends aF bF (crowd gs u sl) t:=by
  intro x;induction x using(I7 X.Q).induction with
  |_ x aq=>
  intro G gs u t m bl cb q ck rw c0 ap h sl;subst ap;have T:=h.base.ap.pos;have af:∀g∈gs,awake g:=by
   intro g l;obtain⟨i,ah,rfl⟩:=Array.mem_iff_getElem.1 l;have C:=Pu ah;rcases h.l7 C with rfl|⟨I,T⟩|⟨k,rfl,F⟩|⟨rfl,p,L⟩
   .obtain⟨R,c,M,x,n,j,S,av,aw,W⟩:=h.main
    rw[C]at S;obtain rfl:=Pm S;cases W with
    |run f=>exact awake_of (.inl f)
    |pB _ K _ _ _ _=>obtain⟨V,e⟩:=K;rw[e];exact awake_of (.inr (.inl rfl))
   .exact awake_of ((h.old i _ I T C).status.elim .inl λx=>.inr (.inr x))
   .obtain⟨R,B,_,H⟩:=h.de k F
    rw[C]at B;obtain rfl:=Pm B;generalize rw k=b at H;generalize (bl k).1=mk at H;cases H with
    |run f _=>exact awake_of (.inl f)
    |sema f _ _ _ _=>exact awake_of (.inr (.inl f))
    |snd _ _ _ _ _ K _ _ _ _ _ _ _=>obtain⟨V,e⟩:=K;rw[e];exact awake_of (.inr (.inl rfl))
    |gone f _ _=>exact awake_of (.inr (.inr f))
   .obtain⟨R,B,U⟩:=h.dK p L
    rw[C]at B;obtain rfl:=Pm B;clear h;cases U with
    |run _ _ _ _ f=>exact awake_of (.inl f)
    |wait _ _ _ _ f _ _ _=>exact awake_of (.inr (.inl f))
    |gone _ f=>exact awake_of (.inr (.inr f))
  obtain⟨i,g,d,E,l,D,o⟩:=crowd_pick (P:=aF) (w:=u) (sl:=sl) af h.live;have z:=h.at d;have on:∀{i},stepT aF (crowd gs u sl)=runT aF (crowd gs (u.at d) E) i->j5 X Z gs (u.at d) E t i (gV Z m bl cb q ck rw c0)->Ends aF bF (crowd gs u sl) t:=by rintro i o ⟨au,bf,ay,ops,cP,e',hh,q',eR,gD,ar,f,J,aj⟩;exact Ends.next (o.trans f) (aq _ aj au bf ay _ cP e' hh q' eR gD ar rfl J E)
  rcases z.l7 l with rfl|⟨I,aa⟩|⟨k,rfl,F⟩|⟨rfl,p,L⟩
  .rcases z.NU (sl:=E) l D with al|⟨bf,ops,c,M,x,a,r,aU,f,ad,am,hd,Q⟩
   .exact on o al
   .exact Ends.next (o.trans f) (IZ ag ai ad (λbf ay a' hd Q sl=>fin bf ay a' r aU hd Q sl) (a*500+400) a 400 x Pk Pk am bf _ _ hd Q E)
  .exact on o (z.E1 I aa l D)
  .exact on o (z.NV F l D λv x n j a J ao ae ak Y=>z.Lx F l D J ao ae ak Y)
  .exact on o (z.NT L l D)
 exact key _ G gs u t m bl cb q ck rw c0 rfl h sl
end
section
variable{u ay w:World}{t a':Trace}{gs bf:Array Goroutine}{g:Goroutine}{c bo:e0}{M bR:Mem}{x y:bs}{n j a l aH d:Nat}{bF:Machine->Outcome->World->Trace->Prop}{kd:CallKind}{base:List Frame}{aE:Nat->Prop}{aI:World}{S mR:List (Nat×Obj)}
structure h6(kd:CallKind)(base:List Frame)(aE:Nat->Prop)(aI:World)(S:List (Nat×Obj))(gs:Array Goroutine)(u:World)(t:Trace)(d l:Nat)(c:e0)(M:Mem)(x:bs)(n j:Nat):Prop where
 on:eA (iX kd) n ⟨l,c,M⟩ j x
 le:j<=400
 mem:fF M u
 gr:b5 aF aE gs (bQ x base) u t d
 old:∀b,b<aI.heap.size->u.heap[b]?=aI.heap[b]?
 calm:Calm aI u
 eD:∀(i:Nat) b o,M[i]?=some (true,b,o)->aI.heap.size<=b
 js:∀(i:Nat) own b o,M[i]?=some (own,b,o)->¬aE b
 dD:∀b,aE b->b<aI.heap.size
 bB:∀b o,(b,o)∈S->u.heap[b]?=some o/\aI.heap.size<=b/\∀(i:Nat) own aA aS,M[i]?=some (own,aA,aS)->aA≠b
def ta(kd:CallKind):dk (iX kd).P (iX kd).ext:=by unfold iX;exact iQ
def h6.at(h:h6 kd base aE aI S gs u t d l c M x n j)(k:Nat):fF M (u.at k)/\(∀b,b<aI.heap.size->(u.at k).heap[b]?=aI.heap[b]?)/\Calm aI (u.at k):=⟨⟨h.mem.has,h.mem.eV⟩,h.old,h.calm.trans (Calm.at u k)⟩
def h6.quiet(h:h6 kd base aE aI S gs u t d l c M x n j)(k:∀n j gs u t x a,n*500+j<=n*500+400->h6 kd base aE aI S gs u t d l c M x n j->n=a+1->At (iX kd) a ⟨l,c,M⟩ x->∀sl,Ends aF bF (crowd gs u sl) t):∀sl,Ends aF bF (crowd gs u sl) t:=by
 induction j using Nat.strongRecOn generalizing gs u t x with
 |_ j w=>
 intro sl;rcases h.on.step (ta kd)with⟨a,p,i⟩|⟨y,bn,o,q,r⟩
 .exact k n j gs u t x a (by have:=h.le;omega) h p i sl
 .refine h.gr.step (λf=>⟨bQ y base,u.at f,#[],r true base .running none (u.at f),rfl,Pk,(λe he=>by simp at he),λbf a' D g=>?_⟩) sl
  obtain⟨z,B,C⟩:=h.at f;exact w bn o ⟨q,by have:=h.le;omega,z,g,B,C,h.eD,h.js,h.dD,h.bB⟩ D
def wT{B b off:Nat}{wr:Bool}(f:b<B)(g:¬aE b):mO aE B ⟨.cell ⟨b,off,none⟩,wr,false⟩:=by
 refine⟨λx c h he d=>?_,f⟩;have c:some (⟨.cell ⟨b,off,none⟩,wr,.plain⟩:Touch)=some x:=by cases wr<;>exact c
 rw[<-Pm c]at he;injection he with he
 rw[<-he]at d;exact absurd d g
def h6.bH(h:h6 kd base aE aI S gs u t d l c M x n j)(Q:n=a+1)(K:At (iX kd) a ⟨l,c,M⟩ x){ops:List gO}(he:(iX kd).cq ⟨l,c,M⟩ = [.bH ops ⟨aH,bo,bR⟩])(k:∀gs u t x,h6 kd base aE aI S gs u t d aH bo bR x a 400->∀sl,Ends aF bF (crowd gs u sl) t):∀sl,Ends aF bF (crowd gs u sl) t:=by
 subst Q;obtain⟨y,R,r,T⟩:=K.bH (ta kd) (ops:=ops) (to:=⟨aH,bo,bR⟩) (by rw[he];exact .head _);have r:prun M ops=some (_,_,bR):=r;refine h.gr.step λB=>?_
 obtain⟨G,V,W⟩:=h.at B;obtain⟨ay,hd,hm,D,_,U,F,E,p,_⟩:=sC r G;refine⟨bQ y base,ay,_,T true base .running none (u.at B) ay _ hd,rfl,D.size,λe q=>?_,λbf a' Y C=>?_⟩
 .obtain⟨i,own,b,o,off,wr,w,rfl,_⟩:=E e (by simpa using q)
  exact wT (by rw[U];exact fB G w) (h.js i own b o w)
 .have J:deafBehind d (cB (ih ((iX kd).mem ⟨l,c,M⟩) ops)).toArray=d:=deafBehind_still (λe q=>by obtain⟨i,own,b,o,off,wr,w,rfl,_⟩:=E e (by simpa using q);exact⟨by simp,by simp⟩) d
  rw[J]at C;refine k bf ay a' y ⟨R,Pk,hm,C,λb L=>?_,W.trans D,λi b o e=>?_,λi own b o e=>?_,h.dD,λb o P=>?_⟩ Y
  .rw[F b λi o e=>by have:=h.eD i b o e;omega]
   exact V b L
  .obtain⟨f,g⟩:=p i true b o e
   exact h.eD i b f g
  .obtain⟨f,g⟩:=p i own b o e
   exact h.js i own b f g
  .obtain⟨s1,s2,H⟩:=h.bB b o P
   refine⟨?_,s2,λi own z f e=>?_⟩
   .rw[F b λi o e=>H i true b o e rfl]
    exact s1
   .obtain⟨X,I⟩:=p i own z f e
    exact H i own z X I
def h6.new(h:h6 kd base aE aI S gs u t d l c M x n j)(K:n=a+1)(I:At (iX kd) a ⟨l,c,M⟩ x){dV:Bool}{o:Obj}{bC:Nat->e0}(he:(iX kd).cq ⟨l,c,M⟩ = [.new dV o λb=>⟨aH,bC b,sn dV M b o⟩])(k:∀gs u t x b,aI.heap.size<=b->h6 kd base aE aI (if dV then S else(b,o)::S) gs u t d aH (bC b) (sn dV M b o) x a 400->∀sl,Ends aF bF (crowd gs u sl) t):∀sl,Ends aF bF (crowd gs u sl) t:=by
 subst K;refine h.gr.step λr=>?_
 obtain⟨y,L,U,Q⟩:=I.new (ta kd) (dV:=dV) (o:=o) (to:=λb=>⟨aH,bC b,sn dV M b o⟩) (by rw[he];exact .head _) u.heap.size;obtain⟨G,R,V⟩:=h.at r;have B:aI.heap.size<=u.heap.size:=h.calm.size;refine⟨bQ y base,_,#[],Q true base .running none (u.at r) rfl,rfl,by simp;exact Nat.le_succ _,(λe he=>by simp at he),λbf a' T H=>?_⟩;have C:∀b,b<u.heap.size->((u.at r).heap.push o)[b]?=u.heap[b]?:=λb D=>by rw[PA,if_neg (by show b≠u.heap.size;omega)];rfl
 have J:((u.at r).heap.push o)[u.heap.size]?=some o:=by rw[PA,if_pos (show u.heap.size=(u.at r).heap.size from rfl)]
 refine k bf _ a' y u.heap.size B ⟨L,Pk,?_,H,λb D=>(C b (by omega)).trans (R b D),⟨by simp;exact Po B (Nat.le_succ _),h.calm.tape,h.calm.output,h.calm.os⟩,?_,?_,h.dD,?_⟩ T
 .cases dV with
  |true=>exact G.push rfl
  |false=>exact G.keep λi own b f e=>C b (fB h.mem e)
 .intro i b f e
  cases dV with
  |false=>exact h.eD i b f e
  |true=>
   have e:(M++[(true,u.heap.size,o)])[i]?=some (true,b,f):=e;rcases Nat.lt_or_ge i M.length with aj|aj
   .rw[PF aj]at e;exact h.eD i b f e
   .rw[PE aj]at e
    rcases g:i-M.length with _|q
    .rw[g]at e;simp at e;rw[<-e.1];exact B
    .rw[g]at e;simp at e
 .intro i own b f e
  cases dV with
  |false=>exact h.js i own b f e
  |true=>
   have e:(M++[(true,u.heap.size,o)])[i]?=some (own,b,f):=e;rcases Nat.lt_or_ge i M.length with aj|aj
   .rw[PF aj]at e;exact h.js i own b f e
   .rw[PE aj]at e
    rcases g:i-M.length with _|q
    .rw[g]at e;simp at e
     intro P;have:=h.dD b P;omega
    .rw[g]at e;simp at e
 .intro b f E
  have old:(b,f)∈S->((u.at r).heap.push o)[b]?=some f/\aI.heap.size<=b/\b<u.heap.size/\∀(i:Nat) own p w,M[i]?=some (own,p,w)->p≠b:=λhm=>by obtain⟨s1,s2,z⟩:=h.bB b f hm;have F:=bp s1;exact⟨(C b F).trans s1,s2,F,z⟩
  cases dV with
  |true=>
   obtain⟨s1,s2,W,z⟩:=old E;refine⟨s1,s2,λi own p w e=>?_⟩;have e:(M++[(true,u.heap.size,o)])[i]?=some (own,p,w):=e;rcases Nat.lt_or_ge i M.length with aj|aj
   .rw[PF aj]at e;exact z i own p w e
   .rw[PE aj]at e
    rcases g:i-M.length with _|q
    .rw[g]at e;simp at e;omega
    .rw[g]at e;simp at e
  |false=>
   rcases List.mem_cons.1 E with e|hm
   .cases e
    exact⟨J,B,λi own p w e=>Nat.ne_of_lt (fB h.mem e)⟩
   .obtain⟨s1,s2,_,z⟩:=old hm
    exact⟨s1,s2,z⟩
def h6.fix(h:h6 kd base aE aI S gs u t d l c M x n j)(L:n=a+1)(F:At (iX kd) a ⟨l,c,M⟩ x){an:List df}{g:List cr}(he:(iX kd).cq ⟨l,c,M⟩ = [.fix true false an g ⟨aH,c,M⟩])(w:Nat)(hd:∀f,∃ay es,Does (u.at f) g ay es/\ay.heap.size=u.heap.size/\Calm u ay/\(∀b,b≠w->ay.heap[b]?=u.heap[b]?)/\∀b o,(b,o)∈mR->ay.heap[b]?=some o)(G:(∃o,(w,o)∈S)\/∀f ay es,Does (u.at f) g ay es->ay.heap=u.heap)(D:∀b o,(b,o)∈mR->∃q,(b,q)∈S)(J:∀e∈gY true (cB g),mO aE u.heap.size e)(k:∀gs u t x,h6 kd base aE aI mR gs u t (deafBehind d (gY true (cB g)).toArray) aH c M x a 400->∀sl,Ends aF bF (crowd gs u sl) t):∀sl,Ends aF bF (crowd gs u sl) t:=by
 subst L;obtain⟨y,R,W,_,U⟩:=F.fix (ta kd) (show Edge.fix true false an g ⟨aH,c,M⟩∈_ by rw[he];exact .head _);refine h.gr.step λf=>?_
 obtain⟨X,Y,Z⟩:=h.at f;obtain⟨ay,es,B,C,H,K,T⟩:=hd f;have keep:∀b,(b<aI.heap.size\/∃(i:Nat) (own:Bool) (o:Obj),M[i]?=some (own,b,o))->ay.heap[b]?=u.heap[b]?:=λb p=>by
  rcases G with⟨o,P⟩|hh
  .refine K b λe=>?_
   subst e;obtain⟨s1,s2,r⟩:=h.bB b o P;rcases p with p|⟨i,own,q,e⟩
   .omega
   .exact r i own b q e rfl
  .rw[hh f ay es B]
 refine⟨bQ y base,ay,_,U true base .running none (u.at f) ay _ B,rfl,Nat.le_of_eq C.symm,λe I=>by rw[C];exact J e (by simpa using I),λbf a' V E=>?_⟩;refine k bf ay a' y ⟨R,Pk,h.mem.keep λi own b o e=>keep b (.inr ⟨i,own,o,e⟩),E,λb p=>(keep b (.inl p)).trans (h.old b p),h.calm.trans H,h.eD,h.js,h.dD,λb o z=>?_⟩ V;obtain⟨q,Q⟩:=D b o z;obtain⟨_,s2,r⟩:=h.bB b q Q;exact⟨T b o z,s2,r⟩
end
end Go.aN
