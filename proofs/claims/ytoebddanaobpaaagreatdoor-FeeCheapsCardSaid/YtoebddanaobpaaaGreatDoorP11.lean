/- A part. -/
import Derived.Test.YtoebddanaobpaaaGreatDoorP10
set_option maxHeartbeats 8000000
set_option maxRecDepth 100000
set_option linter.all false
namespace Go.aO
attribute [-simp] Go.Sem.runT_eq
open Go.Proofs Tryz Go.Conc Go.ConcN
variable{a j:Nat}{bx:TB}{Tp:Tz}
section
variable{X:et}{Z:Stat}[hi X Z]{G aB:bX}{gs bm:TR}{u aC w:S7}{t bh:Tt}{k:Ta}{g g':TC}{m dd cb iz:Nat}{bt:Ta->gQ X.Q}{q:T2}{cx du:Ta}{hS rw:T9}{sl:T8}{es:TE}{p ia:gO}
def GK{i:Nat}{x y:TC}(c:a≠i)(d:a≠j):((gs.setIfInBounds j x).setIfInBounds i y)[a]?=gs[a]?:=by rw[h7 (TT c),h7 (TT d)]
def Dy(d:Base Z G u t)(aj:G.l=28\/G.l=34\/G.l=40)(h:(G.s k).da=false):G.l=28\/G.l=34:=by
 rcases aj with aj|aj|aj
 .exact .inl aj
 .exact .inr aj
 .exfalso
  have:=d.b9.cnt;rw[aj]at this;have c:dF 40=2:=S6;rw[c]at this;cases k
  .rw[h]at this
   rcases e:(G.s true).da with _|_<;>rw[e]at this<;>simp at this
  .rw[h]at this
   rcases e:(G.s false).da with _|_<;>rw[e]at this<;>simp at this
def xH{g:TC}{v:S9}(h:g.dying=none):Go.Conc.served g v=(Tk (g.frame.finish v) g.callers):=by obtain⟨fr,cs,st,c,off⟩:=g;dsimp only at h;subst h;rfl
def eD.OU(h:eD X Z G gs u t m bt cb q cx rw du)(H:(G.s k).c≠.un)(r:gs[Z.wk k]?=some g)(ad:g.status=.running){v:Nat×Nat}{x:bA}{n:Nat}(C:g7 (G.s k) ⟨.out (.snd v),(G.s k).bb⟩)(l:cB (fP (G.bP k)) Z G (Z.wk k) (.snd v) [] x g u n j)(F:At (fP (G.bP k)) a (.snd v) x)(aG:n=a+1)(Y:(∀(n:Nat) own b o,(ib (G.bP k))[n]?=some (own,b,o)->G.b1 b≠Z.wk k)/\kA Z G (Z.wk k) u v):lz X Z gs u sl t (Z.wk k) (h' Z m bt cb q cx rw du):=by
 have E:=h.base.ap.pos;let⟨aQ,aR,c3,aS,ah⟩:=h.base.cfg k;let⟨aT,S,aj,ak⟩:=h.dN k H;rw[r]at S;obtain rfl:=bD S;let⟨aV,aN⟩:=By ak ad;have aL:(G.s k).da=false:=by rw[<-C.da];rfl
 have av:(G.s k).cR=.no:=by rw[<-C.cR];rfl
 have aa:=vL h.base (xg h.base av);let⟨aU,aM⟩:=Ha (k:=k) c3 ah F;let⟨st,off,ax⟩:=l.shape;have ae:stepG aK (Z.wk k == 0) g u=.comm (Tk x.1 (x.2++[])) #[scase Z.ch (j5 k v) (.tuple #[])] true .send u:=by rw[ax];exact aM _ _ _ _ _
 let⟨al,c,M,ag,aY,aX,z,B,ao,ap⟩:=h.main;cases ap with
 |run aJ=>
  have R:partners (gs.setIfInBounds (Z.wk k) ph) Z.ch false = []:=by
   refine partners_nil λi D K=>?_
   rcases getElem?_stand gs _ i D K with⟨_,rfl⟩|⟨aH,w⟩
   .rfl
   .by_cases T:i=0
    .subst T
     rw[z]at w;obtain rfl:=bD w;exact offersAt_of_not_blocked (by rw[aJ];simp) _ _
    .exact h.Eg T w _
  have af:=crowd_waits (sl:=sl) r ae (λai au=>by
   have:ai=scase Z.ch (j5 k v) (.tuple #[]):=by simpa using au
   rw[this];exact ways_send_none aa (T' _) R)
  have Q:MemOp.ofEvents (Z.wk k) g.frame.fn g.frame.place #[]=#[]:=by rw[ofEvents_eq];simp
  rw[Q]at af;refine h.Fa (g':=parked (Tk x.1 (x.2++[])) #[scase Z.ch (j5 k v) (.tuple #[])] .send) k H r ad aj l.fr.symm l.cs.symm l.m'.symm ?_ af;exact .snd v x n j a ⟨_,S6⟩ C ⟨l.on,l.le,S6,S6,S6,l.mem,l.own⟩ F aG Y S6 aN
 |ri am aw aA aI ar aW=>
  obtain⟨f,J⟩:=aw;have aB:=Dy h.base aA aL;have R:partners (gs.setIfInBounds (Z.wk k) ph) Z.ch false = [(0,0)]:=by
   have az:(gs.setIfInBounds (Z.wk k) ph)[0]?=some al:=by rw[h7 (ji E k)];exact z
   rw[partners_one az λi D L K=>?_]
   .rw[J,offersAt_parked_recv,Tq S6];rfl
   .rcases getElem?_stand gs _ i D K with⟨_,rfl⟩|⟨aH,w⟩
    .rfl
    .exact h.Eg L w _
  have U:=z;rw[J]at U;have P:=crowd_send_meets (sl:=sl) r ae aa (TT (ji E k)) U R;rw[finishComm_send,finishComm_recv]at P;have Q:MemOp.ofEvents (Z.wk k) g.frame.fn g.frame.place #[]=#[]:=by rw[ofEvents_eq];simp
  rw[Q,Array.empty_append]at P;have I:f.frame=ag.1/\f.callers=ag.2++Z.base/\f.dying=none:=by have:=B.at_.fr;have V:=B.at_.cs;have W:=B.at_.m';rw[J]at this V W;exact⟨this,V,W⟩
  have aD:=bu z;have aE:=bu r;let⟨dd,ga,aP,aO,aq,aC⟩:=h.meet (k:=k) (su:=Go.Conc.served (Tk x.1 (x.2++[])) undef) (sr:=Go.Conc.served f (recvd true (j5 k v) true)) (bm:=(gs.setIfInBounds 0 (Go.Conc.served f (recvd true (j5 k v) true))).setIfInBounds (Z.wk k) (Go.Conc.served (Tk x.1 (x.2++[])) undef)) (d:=u.drawn)
   H C aB l F Y B ar aI ao (by rw[xH S6];simp) (by
    rw[xH I.2.2,I.1,I.2.1];have:recvd true (j5 k v) true=oP (some (k,v)):=by cases k<;>rfl
    rw[this]) aF (by rw[h7 (ji E k),iO aD]) (by rw[iO (by simpa using aE)]) (λi L ay=>GK ay L) (cap:=0) (x:={g:=Z.wk k,fn:=x.1.fn,pos:=x.1.place,act:=.send Z.ch (dF G.l)}) (y:={g:=0,fn:=f.frame.fn,pos:=f.frame.place,act:=.recv Z.ch (dF G.l) 0}) (p:={g:=Z.wk k,fn:=x.1.fn,pos:=x.1.place,act:=.sendDone Z.ch (dF G.l)}) (g2:={g:=0,fn:=f.frame.fn,pos:=f.frame.place,act:=.recvDone Z.ch (dF G.l)}) ⟨S6,S6⟩ S6 S6 ⟨S6,S6⟩
  exact⟨_,_,_,_,dd,ga,cb,q,true,aP,aO,P,aq,uD aC S6⟩
def eD.Ie{bp:fR}{b7:Mem}{R:bA}{c9 bw:Nat}(h:eD X Z G gs u t m bt cb q cx rw du)(C:gs[0]?=some g)(ao:stepG aK true g u=.go g' aC es)(y:Base Z aB aC (t++MemOp.ofEvents 0 g.frame.fn g.frame.place es))(K:g'.status=.running)(M:aB.s=G.s)(ae:aB.k=G.k)(z:aB.bP=G.bP)(L:aB.cy=G.cy)(o:∀i,i≠0->e0 Z G aB i u aC)(hm:jl Z aB g' aC bp b7 R c9 bw)(ai:aB.ms=G.ms)(ah:aB.m=G.m)(ag:c9*500+bw<m)(I:(aB.l<26↔G.l<26)/\(aB.l<27↔G.l<27)):lz X Z gs u sl t 0 (h' Z m bt cb q cx rw du):=by
 have n:=h.base.ap.pos;have al:=runT_crowd_go (P:=aK) (sl:=sl) C (show stepG aK (0 == 0) g u=_ from ao);have F:=kS.woken Z g g' aC (.inl K);have aa:∀i,i≠0->Deaf (t++MemOp.ofEvents 0 g.frame.fn g.frame.place es) i=Deaf t i:=λi ad=>Deaf_other t (g':=0) (TT ad) _ λop aj=>by obtain⟨e,_,rfl⟩:=Go.Conc.mem_ofEvents aj;rfl
 let⟨au,am⟩:=sT (P:=λk b=>∃c,((gs.map (woken aK g g' aC)).setIfInBounds 0 g')[Z.wk k]?=some c/\fz X Z aB k c aC (aB.s k) (bt k)/\iJ Z aB k c aC true (bt k).1 b) (D:=λk=>(aB.s k).c≠.un) λk H=>by
  rw[M]at H;let⟨gk,ap,aq,ar⟩:=h.dN k H;have Q:aB.s k=G.s k:=by rw[M]
  let⟨d,f,j,l,T⟩:=ar.lp F y Q (by rw[z]) (by rw[L]) (o _ (ji n k)) (.inl ai) (λ_=>S6);refine⟨d,woken aK g g' aC gk,by rw[so (ji n k),ap];rfl,?_,f⟩;rw[Q];exact aq.rely (by rw[z]) (by rw[L]) (o _ (ji n k)) j l T λB=>by rw[F.rest gk (.inr B)];exact B
 obtain⟨r,ak⟩:∃r,∀p,aB.k=.at p->∃c,((gs.map (woken aK g g' aC)).setIfInBounds 0 g')[Z.N+2]?=some c/\lr Z aB p c aC cb r:=by
  rw[ae];rcases af:G.k with _|p
  .exact⟨false,λp hp=>by cases hp⟩
  .let⟨V,f,j⟩:=h.eu p af
   let⟨d,l⟩:=j.lp F (o _ U) (.inl ah);exact⟨d,λia hp=>by cases hp;exact⟨woken aK g g' aC V,by rw[so U,f];rfl,l⟩⟩
 refine⟨aB,_,aC,_,c9*500+bw,bt,cb,q,true,au,r,al,⟨y,?_,⟨g',bp,b7,R,c9,bw,ug C,hm,S6,.run K⟩,am,ak,λi av W Y E=>?_⟩,uD ag S6⟩
 .have:=h.size
  simp only[Up,Array.size_map];rw[this];simp only[I.1,I.2]
 .rw[so U]at E
  obtain⟨w,S,rfl⟩:=Option.map_eq_some_iff.1 E;have J:=h.old i w W Y S;rw[F.rest w J.status,aa i U];exact J
end
section
variable{X:et}{Z:Stat}[hi X Z]{G aB:bX}{gs bm:TR}{u aC w:S7}{t bh:Tt}{k:Ta}{g g':TC}{m dd cb iz:Nat}{bt:Ta->gQ X.Q}{q:T2}{cx du:Ta}{hS rw:T9}{sl:T8}{es:TE}{p ia:gO}{c:fR}{M:Mem}{x:bA}{n j a:Nat}
def oF(c:fR):mi:=⟨c.W,c.cg,c.jC,c.bc,c.jP,c.ch,c.T,1⟩
def bX.hT(G:bX)(Z:Stat)(c:fR):bX:={G with s:=rG G.s true ⟨.out .b6,false⟩,l:=26,bP:=hY G.bP true (oF c),ro:=λg b=>G.ro g b\/(g=Z.wk true/\(b=c.jC\/b=c.jP))}
def bX.jQ(G:bX):bX:={G with k:=.at .bx,l:=27}
def AM(t:Tt)(fn:Tw)(pos:T6)(x y:MemOp):t++((MemOp.ofEvents 0 fn pos #[]).push x).push y=t++#[x,y]:=by rw[ofEvents_eq];simp
def LW(d:M=lf c 25):M[1]?=some (false,c.bc,.cells #[pt c.T] 71 (0,0))/\M[3]?=some (false,c.cg,.cells #[.chan (some c.ch)] 203 (0,0))/\M[6]?=some (true,c.jC,.cells #[ah 1] 3 (0,0))/\M[7]?=some (true,c.jP,.cells dC 52 (0,0)):=by subst d;exact⟨S6,S6,S6,S6⟩
def eD.Pe(h:eD X Z G gs u t m bt cb q cx rw du)(ag:G.l=25)(d:gs[0]?=some g)(hm:jl Z G g u c M x n j)(bc:At (hP Z) a ⟨25,c,M⟩ x)(bO:n=a+1)(bN:m=n*500+j):lz X Z gs u sl t 0 (h' Z m bt cb q cx rw du):=by
 have r:=h.base;have V:=r.ap.pos;let⟨f1,f2,f3,f4,f5,f6⟩:=hm.ok.cfg;have aq:=hm.ok.early U;rw[ag]at aq;let⟨aS,aT,al,am⟩:=LW aq;have K:=hm.at_.mem;have au:=hm.at_.own;have R:=au 6 _ _ _ al;have S:=au 7 _ _ _ am;have bo:=gL K al;have bp:=gL K am;have aj:(G.s true).c=.un:=r.b9.l9.1 U;have aL:G.k=.un:=r.b9.mS.1 U;have aw:gs.size=Z.N+1:=by have:=h.size;rw[Tq U]at this;exact this
 have es:∀j,(G.hT Z c).s j=if j=true then⟨.out .b6,false⟩else G.s j:=λ_=>S6
 have bB:(G.s true).role=.idle:=by unfold ck.role;rw[aj]
 have aX:(G.s true).cR=.no:=by unfold ck.cR;rw[aj]
 have bD:(G.s true).da=false:=by unfold ck.da;rw[aj]
 have deaf1:(G.s true).deaf=0:=by unfold ck.deaf;rw[aj]
 have av:∀j,((G.hT Z c).s j).role=(G.s j).role:=λj=>by
  rw[es];split
  .rename_i H;subst H;rw[bB];rfl
  .rfl
 have ar:∀j,((G.hT Z c).s j).cR=(G.s j).cR:=λj=>by
  rw[es];split
  .rename_i H;subst H;rw[aX];rfl
  .rfl
 have aW:g5 (G.hT Z c):=by
  let⟨aU,aE,a3,a4,a5,bK,aV,bL,a9⟩:=r.b9;refine⟨by rw[av,av];exact aU,?_,by rw[ar,ar];exact a3,?_,?_,?_,aV,(by decide:17<=26),λj H=>?_⟩
  .rw[ar,ar]
   rw[ag]at aE;exact aE
  .show dF 26=_
   rw[ag,bD]at a4;rw[es,es];exact a4
  .rw[es,Tq S6]
   show(26:Nat)<26↔_;exact⟨λh=>Td h a6,λh=>by cases h⟩
  .show(26:Nat)<27↔G.k=.un
   exact⟨λ_=>aL,λ_=>a6⟩
  .rw[es]at H
   split at H
   .cases H
   .exact a9 j H
 have bJ:ea Z (G.hT Z c) u:=by let⟨bF,w2,w3,bG,bH⟩:=r.ww;refine⟨bF,w2,?_,bG,bH⟩;show u.heap[Z.ch]?=some (.chan 0 #[] G.k.shut (dF 26) (dF 26) false);rw[ag]at w3;exact w3
 have sW:∀g b,G.ro g b->(G.hT Z c).ro g b:=λg b L=>.inl L
 have aG:Apart Z (G.hT Z c):=by
  let⟨bq,br,bs,bv,bx,aR⟩:=r.ap;refine⟨bq,br,bs,bv,λb Q=>?_,λg=>⟨?_,?_⟩⟩
  .let⟨q1,ak,ax,bz,bA⟩:=bx b Q
   refine⟨q1,ak,ax,bz,λg d=>?_⟩;rcases d with d|⟨_,rfl|rfl⟩
   .exact bA g d
   .have:=(R.2.2 S6).1;omega
   .have:=(S.2.2 S6).1;omega
  .rintro(d|⟨_,e|e⟩)
   .exact(aR g).1 d
   .exact R.1.2.1 e.symm
   .exact S.1.2.1 e.symm
  .rintro(d|⟨_,e|e⟩)
   .exact(aR g).2 d
   .exact R.1.2.2 e.symm
   .exact S.1.2.2 e.symm
 have ee:eX Z (G.hT Z c)=eX Z G:=by unfold eX;rw[av,av];rfl
 have aP:∀b,(G.hT Z c).ro (Z.wk true) b->G.b1 b=0:=λb Q=>by
  rcases Q with Q|⟨_,rfl|rfl⟩
  .exact r.rn _ b (ji V true) Q
  .exact(R.2.2 S6).1
  .exact(S.2.2 S6).1
 have bj:∀g,hy Z (G.hT Z c) g↔(hy Z G g\/g=eF.num Z (.dN true)):=λg=>by
  constructor
  .rintro(e|⟨k,e,J⟩|⟨e,J⟩)
   .exact .inl (.inl e)
   .cases k
    .exact .inl (.inr (.inl ⟨false,e,J⟩))
    .exact .inr e
   .exact .inl (.inr (.inr ⟨e,J⟩))
  .rintro((e|⟨k,e,J⟩|⟨e,J⟩)|e)
   .exact .inl e
   .cases k
    .exact .inr (.inl ⟨false,e,J⟩)
    .exact Td aj J
   .exact .inr (.inr ⟨e,J⟩)
   .exact .inr (.inl ⟨true,e,λh=>by cases h⟩)
 let⟨⟨aN,bM⟩,bl⟩:=bc.spawn (po Z) (f:=.func 90) (c:=#[pt c.W,pt c.cg,pt c.jC,pt c.bc,pt c.jP]) (a:=#[]) (iA:=[6,7]) (to:=⟨26,c,oZ M [6,7]⟩) bI;let⟨st,off,bi⟩:=hm.at_.shape;have aC:=runT_crowd_spawn (P:=aK) (sl:=sl) d (show stepG aK (0 == 0) g u=_ by rw[bi];exact bl true _ st off u);have bE:e5 Z (G.hT Z c) (t++#[({g:=0,fn:=g.frame.fn,pos:=g.frame.place,act:=.go gs.size}:MemOp),{g:=gs.size,fn:=prog.funcs.size,pos:=g.frame.place,act:=.start}]) u.heap.size:=by
  refine r.dy.spawn (aB:=G.hT Z c) (x:={g:=0,fn:=g.frame.fn,pos:=g.frame.place,act:=.go gs.size}) (y:={g:=gs.size,fn:=prog.funcs.size,pos:=g.frame.place,act:=.start}) (cl:=.dN true) V (by rw[ag];rfl) S6 aF deaf1 S6 sW (λg b ai d=>?_) aP aG.lU (λj=>?_) ⟨S6,id,id⟩ bj ee ⟨S6,by rw[aw];rfl⟩ ⟨by rw[aw];rfl,S6⟩
  .rcases d with d|⟨e,_⟩
   .exact d
   .exact Td e ai
  .rw[es]
   split
   .rename_i H;subst H
    exact⟨deaf1.symm,(λh=>by cases h),λh=>by cases h⟩
   .exact⟨S6,id,id⟩
 have aI:Base Z (G.hT Z c) u (t++#[({g:=0,fn:=g.frame.fn,pos:=g.frame.place,act:=.go gs.size}:MemOp),{g:=gs.size,fn:=prog.funcs.size,pos:=g.frame.place,act:=.start}]):=by
  refine⟨bJ,aW,aG,bE,λg b d=>?_,r.s0,λb Q ba=>(r.hold b Q ba).imp _root_.id λ⟨w,i,C,ay⟩=>⟨w,i,C,.inl ay⟩,r.old,r.o4,r.iA.grow sW,λg b bh d=>?_,λk=>?_⟩
  .rcases d with d|⟨_,rfl|rfl⟩
   .exact r.oc g b d
   .exact bo
   .exact bp
  .rcases d with d|⟨_,rfl|rfl⟩
   .exact r.rn g b bh d
   .exact(R.2.2 S6).1
   .exact(S.2.2 S6).1
  .cases k
   .exact r.cfg false
   .exact⟨f5,f1,f3,f4,S6⟩
 have L:∀i,i≠0->e0 Z G (G.hT Z c) i u u:=λi af=>⟨bg,λ_ _=>S6,sW,λg b _ d=>by
  rcases d with d|⟨_,rfl|rfl⟩
  .exact .inl d
  .exact .inr (by rw[(R.2.2 S6).1];exact TT af)
  .exact .inr (by rw[(S.2.2 S6).1];exact TT af),λ_ _ _ _ _ _ _=>S6,⟨_,_,_,_,r.ww.T⟩⟩
 have a7:oZ M [6,7]=lf c 26:=by rw[aq];rfl
 have aM:gN (lf c 26) u/\Own Z (G.hT Z c) 0 (lf c 26):=by
  have ao:∀(i:Nat) own b o,(lf c 26)[i]?=some (own,b,o)->∃l,M[i]?=some (l,b,o)/\(own=true->l=true/\b≠c.jC/\b≠c.jP):=by
   intro i own b o e;have hd:∀(i:Nat) own b o,M[i]?=some (own,b,o)->i≠6->i≠7->b≠c.jC/\b≠c.jP:=λi own b o e az aA=>⟨K.fL i 6 _ _ _ _ _ _ e al az,K.fL i 7 _ _ _ _ _ _ e am aA⟩
   have E:∀l,M[i]?=some (l,b,o)->i≠6->i≠7->own=l->∃l,M[i]?=some (l,b,o)/\(own=true->l=true/\b≠c.jC/\b≠c.jP):=λl T az aA ap=>⟨l,T,λh=>⟨by rw[<-ap];exact h,hd i l b o T az aA⟩⟩
   rw[aq]at E ⊢;rcases i with _|_|_|_|_|_|_|_|i
   .exact E own e a6 a6 S6
   .exact E own e a6 a6 S6
   .exact E own e a6 a6 S6
   .exact E own e a6 a6 S6
   .exact E own e a6 a6 S6
   .exact E own e a6 a6 S6
   .have e:some (false,c.jC,Obj.cells #[ah 1] 3 (0,0))=some (own,b,o):=e
    cases e;exact⟨true,S6,λh=>by cases h⟩
   .have e:some (false,c.jP,Obj.cells dC 52 (0,0))=some (own,b,o):=e
    cases e;exact⟨true,S6,λh=>by cases h⟩
   .have e:(lf c 26)[i+8]?=_:=e
    simp[lf,nz]at e
  refine⟨⟨λi own b o e=>?_,λi j own b o l W aD e E ai=>?_⟩,λi own b o e=>?_⟩
  .let⟨_,w,_⟩:=ao i own b o e
   exact K.has i _ _ _ w
  .let⟨_,w,_⟩:=ao i own b o e
   let⟨_,C,_⟩:=ao j l W aD E;exact K.fL i j _ _ _ _ _ _ w C ai
  .let⟨l,w,C⟩:=ao i own b o e
   let⟨q1,ak,ax⟩:=au i _ _ _ w;refine⟨q1,ak.imp _root_.id (sW _ _),λh=>?_⟩;let⟨T,ap,a1⟩:=C h;refine⟨(ax T).1,λi af L=>?_⟩;rcases L with L|⟨_,e|e⟩
   .exact(ax T).2 i af L
   .exact ap e
   .exact a1 e
 have a2:jl Z (G.hT Z c) (Tk (x.1.finish undef) (x.2++Z.base)) u c (lf c 26) (x.1.finish undef,x.2) a 400:=by
  refine⟨⟨?_,bg,S6,S6,S6,aM.1,aM.2⟩,?_⟩
  .rw[a7]at aN
   exact aN
  .exact vZ (λk=>by
    rw[es];split
    .rfl
    .exact y8 r U k) (show(26:Nat)<=28 by decide) hm.ok.cfg (λ_=>S6) S6
 have Y:∀(i:Nat) own b o,(ib (oF c))[i]?=some (own,b,o)->own=false/\∃I l,M[I]?=some (l,b,o)/\(G.hT Z c).ro (Z.wk true) b/\I = [3,6,1,7].getD i 0:=by
  intro i own b o e;rcases i with _|_|_|_|i
  .have e:some (false,c.cg,Obj.cells #[.chan (some c.ch)] 203 (0,0))=some (own,b,o):=e
   cases e;exact⟨S6,3,_,aT,.inl (r.iA.Ax true _ (.inl f4)),S6⟩
  .have e:some (false,c.jC,Obj.cells #[ah 1] 3 (0,0))=some (own,b,o):=e
   cases e;exact⟨S6,6,_,al,.inr ⟨S6,.inl S6⟩,S6⟩
  .have e:some (false,c.bc,Obj.cells #[pt c.T] 71 (0,0))=some (own,b,o):=e
   cases e;exact⟨S6,1,_,aS,.inl (r.iA.Ax true _ (.inr f6)),S6⟩
  .have e:some (false,c.jP,Obj.cells dC 52 (0,0))=some (own,b,o):=e
   cases e;exact⟨S6,7,_,am,.inr ⟨S6,.inr S6⟩,S6⟩
  .simp[ib]at e
 have aQ:∀{i:Nat} {z:Ta×Nat×Obj},(ib (oF c))[i]?=some z->i<4:=λe=>by have:=(List.getElem?_eq_some_iff.1 e).1;simpa [ib]using this
 have bb:fz X Z (G.hT Z c) true (bW (mV (oF c)) []) u ((G.hT Z c).s true) (if hQ .b6 then 3 else 1,(bt true).2.1,30*500+400):=by
  rw[es,Tq S6];refine .out (p:=.b6) (x:=mV (oF c)) (bt true).2.1 S6 ⟨⟨_,G' c.W c.cg c.jC c.bc c.jP c.ch c.T 1,S6⟩,bg,S6,S6,S6,⟨λi own b o e=>?_,λi j own b o l W aD e E ai=>?_⟩,λi own b o e=>?_⟩ (λ_=>S6) (λi own b o e=>?_) (λv e=>by cases e)
  .let⟨_,I,l,w,_⟩:=Y i own b o e
   exact K.has I _ _ _ w
  .let⟨_,I,bP,w,_,q1⟩:=Y i own b o e
   let⟨_,bw,bQ,C,_,ak⟩:=Y j l W aD E;refine K.fL I bw _ _ _ _ _ _ w C λhe=>?_
   have T:=aQ e;have ap:=aQ E;rw[q1,ak]at he;rcases i with _|_|_|_|i<;>rcases j with _|_|_|_|j<;>first|omega|(simp at he;done)|exact Td S6 ai
  .let⟨ad,I,l,w,C,_⟩:=Y i own b o e
   exact⟨(au I _ _ _ w).1,.inr C,λh=>by rw[ad]at h;cases h⟩
  .let⟨_,I,l,w,C,_⟩:=Y i own b o e
   show G.b1 b≠Z.wk true;rw[aP b C];exact TT (ji V true)
 have bd:bW (mV (oF c)) []=((Tk ({(default:TB)with fn:=(hP Z).P.funcs.size,defers:=[⟨.fn (.func 90) #[pt c.W,pt c.cg,pt c.jC,pt c.bc,pt c.jP],#[]⟩],mode:=.panicking [goexitEntry]}) []):TC):=S6;rw[<-bd]at aC;obtain⟨bm,ae⟩:∃bm,bm=(gs.setIfInBounds 0 ((Tk (x.1.finish undef) (x.2++Z.base)):TC)).push (bW (mV (oF c)) []):=⟨_,S6⟩
 rw[<-ae]at aC;have bn:=bu d;have b6:(gs.setIfInBounds 0 ((Tk (x.1.finish undef) (x.2++Z.base)):TC)).size=gs.size:=aF;have aY:bm[0]?=some (Tk (x.1.finish undef) (x.2++Z.base)):=by rw[ae,iq,Tm (by rw[b6];omega),iO bn]
 have aH:∀i,i≠0->i<gs.size->bm[i]?=gs[i]?:=λi ad af=>by rw[ae,iq,Tm (by rw[b6];omega),h7 (TT ad)]
 have aZ:bm[Z.wk true]?=some (bW (mV (oF c)) []):=by rw[ae,iq,Tq (by rw[b6,aw];rfl)]
 have F:=kS.id Z u;have bf:∀i,Deaf (t++#[({g:=0,fn:=g.frame.fn,pos:=g.frame.place,act:=.go gs.size}:MemOp),{g:=gs.size,fn:=prog.funcs.size,pos:=g.frame.place,act:=.start}]) i=Deaf t i:=λi=>by
  refine oI (B:=0) (λop aO=>?_) i;simp only[List.mem_toArray,T7,iN,or_false]at aO;rcases aO with rfl|rfl
  .exact⟨S6,aF,aF,Tf⟩
  .exact⟨S6,aF,aF,Tf⟩
 let⟨bC,bk⟩:=sT (P:=λj b=>∃aa,bm[Z.wk j]?=some aa/\fz X Z (G.hT Z c) j aa u ((G.hT Z c).s j) (hY bt true (if hQ .b6 then 3 else 1,(bt true).2.1,30*500+400) j)/\iJ Z (G.hT Z c) j aa u true (hY bt true (if hQ .b6 then 3 else 1,(bt true).2.1,30*500+400) j).1 b) (D:=λj=>((G.hT Z c).s j).c≠.un) λj H=>by
  cases j with
  |true=>exact⟨true,_,aZ,bb,.run S6 (Nat.succ_ne_zero _)⟩
  |false=>
   let⟨aa,w,C,ay⟩:=h.dN false H;let⟨W,s1,s2,bR,bS⟩:=ay.lp (aB:=G.hT Z c) (fH:=true) F aI S6 S6 S6 (L _ (ji V false)) (.inl S6) (λ_=>S6);exact⟨W,aa,by rw[aH _ (ji V false) (bu w)];exact w,C.rely (dP:=G.hT Z c) S6 S6 (L _ (ji V false)) S6 S6 S6 _root_.id,s1⟩
 refine⟨G.hT Z c,bm,u,_,a*500+400,hY bt true (if hQ .b6 then 3 else 1,(bt true).2.1,30*500+400),cb,q,true,bC,du,aC,?_,uD (dd:=a*500+400) U S6⟩;rw[AM];refine⟨aI,?_,⟨_,c,lf c 26,_,a,400,aY,a2,S6,.run S6⟩,bk,λp hp=>?_,λi a0 ad a8 aJ=>?_⟩
 .rw[ae,Array.size_push,b6,aw];rfl
 .have hp:G.k=.at p:=hp
  rw[aL]at hp;cases hp
 .rw[aH i U U]at aJ
  have:=h.old i a0 ad a8 aJ;rw[<-bf i]at this;exact this
def eD.Pf(h:eD X Z G gs u t m bt cb q cx rw du)(C:G.l=26)(E:gs[0]?=some g)(hm:jl Z G g u c M x n j)(aw:At (hP Z) a ⟨26,c,M⟩ x)(aW:n=a+1)(aV:m=n*500+j):lz X Z gs u sl t 0 (h' Z m bt cb q cx rw du):=by
 have d:=h.base;have Y:=d.ap.pos;let⟨f1,f2,f3,f4,f5,f6⟩:=hm.ok.cfg;have L:=hm.ok.early U;rw[C]at L;have R:M[3]?=some (false,c.cg,.cells #[.chan (some c.ch)] 203 (0,0)):=by rw[L];rfl
 have ad:=hm.at_.mem;have af:=hm.at_.own;have ay:(G.s true).c≠.un:=λe=>Td (d.b9.l9.2 e) U
 have r:G.k=.un:=d.b9.mS.1 U;have H:gs.size=Z.N+2:=by have:=h.size;rw[Tm U,Tq U]at this;exact this
 have ak:g5 G.jQ:=by
  let⟨ai,I,a3,a4,a5,aR,aj,aS,a9⟩:=d.b9;rw[C]at I;rw[r]at I a3;refine⟨ai,I,a3,?_,?_,?_,aj,(by decide:17<=27),a9⟩
  .show dF 27=_
   rw[C]at a4;exact a4
  .show(27:Nat)<26↔(G.s true).c=.un
   exact⟨λh=>Td h a6,λh=>Td h ay⟩
  .show(27:Nat)<27↔dE.at .bx=.un
   exact⟨λh=>Td h a6,λh=>by cases h⟩
 have ah:ea Z G.jQ u:=by let⟨aO,w2,w3,aP,aQ⟩:=d.ww;refine⟨aO,w2,?_,aP,aQ⟩;rw[C,r]at w3;exact w3
 have aE:∀g,hy Z G.jQ g↔(hy Z G g\/g=eF.num Z .eu):=λg=>by
  constructor
  .rintro(e|⟨k,e,l⟩|⟨e,l⟩)
   .exact .inl (.inl e)
   .exact .inl (.inr (.inl ⟨k,e,l⟩))
   .exact .inr e
  .rintro((e|⟨k,e,l⟩|⟨e,l⟩)|e)
   .exact .inl e
   .exact .inr (.inl ⟨k,e,l⟩)
   .exact Td r l
   .exact .inr (.inr ⟨e,λh=>by cases h⟩)
 let⟨⟨aH,aU⟩,aJ⟩:=aw.spawn (po Z) (f:=.func 92) (c:=#[pt c.W,pt c.cg]) (a:=#[]) (iA:=[]) (to:=⟨27,c,M⟩) bI;let⟨st,off,aC⟩:=hm.at_.shape;have Q:=runT_crowd_spawn (P:=aK) (sl:=sl) E (show stepG aK (0 == 0) g u=_ by rw[aC];exact aJ true _ st off u);have aN:e5 Z G.jQ (t++#[({g:=0,fn:=g.frame.fn,pos:=g.frame.place,act:=.go gs.size}:MemOp),{g:=gs.size,fn:=prog.funcs.size,pos:=g.frame.place,act:=.start}]) u.heap.size:=by refine d.dy.spawn (aB:=G.jQ) (x:={g:=0,fn:=g.frame.fn,pos:=g.frame.place,act:=.go gs.size}) (y:={g:=gs.size,fn:=prog.funcs.size,pos:=g.frame.place,act:=.start}) (cl:=.eu) Y (by rw[C];rfl) S6 aF (by show G.k.deaf=0;rw[r];rfl) S6 (λ_ _ h=>h) (λg b _ E=>E) (λb ax=>d.rn _ b (by show Z.N+2≠0;omega) ax) (d.ap.same (aB:=G.jQ) S6 S6).lU (λj=>⟨S6,_root_.id,_root_.id⟩) ⟨by rw[r];rfl,(λh=>by cases h),λ_=>by rw[r];rfl⟩ aE S6 ⟨S6,by rw[H];rfl⟩ ⟨by rw[H];rfl,S6⟩
 have W:Base Z G.jQ u (t++#[({g:=0,fn:=g.frame.fn,pos:=g.frame.place,act:=.go gs.size}:MemOp),{g:=gs.size,fn:=prog.funcs.size,pos:=g.frame.place,act:=.start}]):=d.rest (aB:=G.jQ) S6 S6 S6 S6 ah ak aN;have ag:∀i,e0 Z G G.jQ i u u:=λi=>e0.same S6 S6 S6 (λ_ _ _ _=>S6) ah
 have au:jl Z G.jQ (Tk (x.1.finish undef) (x.2++Z.base)) u c M (x.1.finish undef,x.2) a 400:=by
  refine⟨⟨aH,bg,S6,S6,S6,ad,af⟩,?_⟩;refine vZ (λk=>y8 d U k) (show(27:Nat)<=28 by decide) hm.ok.cfg (λhle=>?_) ?_
  .have:G.jQ.l=27:=S6
   omega
  .rw[L];rfl
 have ar:lr Z G.jQ .bx (bW (born 92 #[pt c.W,pt c.cg]) []) u (30*500+400+1) true:=by
  refine .run (born 92 #[pt c.W,pt c.cg]) 30 400 ⟨⟨_,by rw[f5,f4];exact IY Z.W Z.cg Z.ch,S6⟩,bg,S6,S6,S6,⟨λi own b o e=>?_,λi j own b o aY S aX e J aG=>?_⟩,λi own b o e=>?_⟩ S6
  .rcases i with _|i
   .have e:some (false,Z.cg,Obj.cells #[.chan (some Z.ch)] 203 (0,0))=some (own,b,o):=e
    cases e;rw[<-f4,<-f3];exact ad.has 3 _ _ _ R
   .have e:(m9 ⟨Z.W,Z.cg,Z.ch⟩)[i+1]?=_:=e
    simp[m9]at e
  .rcases i with _|i<;>rcases j with _|j
   .exact Td S6 aG
   .have J:(m9 ⟨Z.W,Z.cg,Z.ch⟩)[j+1]?=_:=J
    simp[m9]at J
   .have e:(m9 ⟨Z.W,Z.cg,Z.ch⟩)[i+1]?=_:=e
    simp[m9]at e
   .have e:(m9 ⟨Z.W,Z.cg,Z.ch⟩)[i+1]?=_:=e
    simp[m9]at e
  .rcases i with _|i
   .have e:some (false,Z.cg,Obj.cells #[.chan (some Z.ch)] 203 (0,0))=some (own,b,o):=e
    cases e;refine⟨?_,.inr d.iA.Fj,λh=>by cases h⟩;rw[<-f4];exact(af 3 _ _ _ R).1
   .have e:(m9 ⟨Z.W,Z.cg,Z.ch⟩)[i+1]?=_:=e
    simp[m9]at e
 have az:bW (born 92 #[pt c.W,pt c.cg]) []=((Tk ({(default:TB)with fn:=(hP Z).P.funcs.size,defers:=[⟨.fn (.func 92) #[pt c.W,pt c.cg],#[]⟩],mode:=.panicking [goexitEntry]}) []):TC):=S6;rw[<-az]at Q;obtain⟨bm,z⟩:∃bm,bm=(gs.setIfInBounds 0 ((Tk (x.1.finish undef) (x.2++Z.base)):TC)).push (bW (born 92 #[pt c.W,pt c.cg]) []):=⟨_,S6⟩
 rw[<-z]at Q;have aL:=bu E;have b6:(gs.setIfInBounds 0 ((Tk (x.1.finish undef) (x.2++Z.base)):TC)).size=gs.size:=aF;have ao:bm[0]?=some (Tk (x.1.finish undef) (x.2++Z.base)):=by rw[z,iq,Tm (by rw[b6];omega),iO aL]
 have V:∀i,i≠0->i<gs.size->bm[i]?=gs[i]?:=λi K aT=>by rw[z,iq,Tm (by rw[b6];omega),h7 (TT K)]
 have ap:bm[Z.N+2]?=some (bW (born 92 #[pt c.W,pt c.cg]) []):=by rw[z,iq,Tq (by rw[b6,H])]
 have F:=kS.id Z u;have aA:∀i,Deaf (t++#[({g:=0,fn:=g.frame.fn,pos:=g.frame.place,act:=.go gs.size}:MemOp),{g:=gs.size,fn:=prog.funcs.size,pos:=g.frame.place,act:=.start}]) i=Deaf t i:=λi=>by
  refine oI (B:=0) (λop ae=>?_) i;simp only[List.mem_toArray,T7,iN,or_false]at ae;rcases ae with rfl|rfl
  .exact⟨S6,aF,aF,Tf⟩
  .exact⟨S6,aF,aF,Tf⟩
 let⟨aM,aI⟩:=sT (P:=λj b=>∃w,bm[Z.wk j]?=some w/\fz X Z G.jQ j w u (G.jQ.s j) (bt j)/\iJ Z G.jQ j w u true (bt j).1 b) (D:=λj=>(G.jQ.s j).c≠.un) λj aD=>by let⟨w,T,al,am⟩:=h.dN j aD;let⟨S,s1,s2,aZ,a0⟩:=am.lp (aB:=G.jQ) (fH:=true) F W S6 S6 S6 (ag _) (.inl S6) (λ_=>S6);exact⟨S,w,by rw[V _ (ji Y j) (bu T)];exact T,al.rely (dP:=G.jQ) S6 S6 (ag _) S6 S6 S6 _root_.id,s1⟩
 refine⟨G.jQ,bm,u,_,a*500+400,bt,30*500+400+1,q,true,aM,true,Q,?_,uD (dd:=a*500+400) U S6⟩;rw[AM];refine⟨W,?_,⟨_,c,M,_,a,400,ao,au,S6,.run S6⟩,aI,λp hp=>?_,λi aq K av aa=>?_⟩
 .rw[z,Array.size_push,b6,H];rfl
 .have hp:dE.at .bx=.at p:=hp
  cases hp;exact⟨_,ap,ar⟩
 .rw[V i U U]at aa
  have:=h.old i aq K av aa;rw[<-aA i]at this;exact this
end
section
variable{X:et}{Z:Stat}[hi X Z]{G aB:bX}{gs bm:TR}{u aC w:S7}{t bh:Tt}{k:Ta}{g g':TC}{m dd cb iz:Nat}{bt:Ta->gQ X.Q}{q:T2}{cx du:Ta}{hS rw:T9}{sl:T8}{es:TE}{p ia:gO}{c:fR}{M:Mem}{x:bA}{n j a:Nat}{bF:TU->T0->S7->Tt->Prop}
def H3(a j N:Nat)(h:(a+1)*500+j<=N+1):a*500+400<=N:=by have c:(a+1)*500=a*500+500:=Nat.succ_mul a 500;rw[c]at h;generalize a*500=b at h ⊢;have d:b+500<=N+1:=cL (Nat.le_add_right _ _) h;exact Nat.le_of_succ_le_succ (cL (Nat.add_le_add_left (by decide:401<=500) b) d)
def NF(bP:mi)(bb:Ta):∀(N n j:Nat) (p:h5) (x:bA) (off:TI (Tv CommCase×CommShape)),n*500+j<=N->j<=400->eJ (fP bP) n p j x->(p=.d6\/p=.fin)->∃q,QuitsD aK q (⟨.out p,bb⟩:ck).deaf ⟨x.1,x.2,.running,none,off⟩:=by
 intro N;induction N with
 |zero=>
  intro n j p x off h m d hp;obtain⟨z,u,_⟩:=d;cases n with
  |zero=>exact u.elim
  |succ n=>omega
 |succ N l=>
  intro n j p x off h m d hp;rcases d.step (pr bP)with⟨a,o,i⟩|⟨y,bw,B,f,c⟩
  .have hle:a*500+400<=N:=H3 a j N (o ▸ h)
   rcases hp with rfl|rfl
   .let⟨y,f,_,_,c⟩:=i.fix (pr bP) (show Edge.fix true false [] [.mark (.extern 107),.mark .enable] .fin∈(fP bP).cz .d6 from bI)
    let⟨q,g⟩:=l a 400 .fin y none hle bg f (.inr S6);refine⟨q+1,.inr ⟨S6,(Tk y.1 y.2),#[⟨.mark .enable,false,true⟩],λe he=>?_,λw=>?_,g⟩⟩
    .have:e=⟨.mark .enable,false,true⟩:=by simpa using he
     rw[this];rfl
    .have:=c false [] .running off w w _ (.mark (.mark (.nil w)))
     simp only[bW,List.append_nil]at this;exact this
   .let⟨r,c⟩:=i.done bI
    refine⟨1,.inr ⟨S6,⟨x.1,[],.finished,none,none⟩,#[],λe he=>(by simp at he),λw=>?_,⟨S6,S6⟩⟩⟩;have:=c false .running off w;rw[r];exact this
  .let⟨q,g⟩:=l n bw p y none U U f hp
   refine⟨q+1,QuitsD.ctl S6 (λw=>?_) g⟩;have:=c false [] .running off w;simp only[bW,List.append_nil]at this;exact this
def ND(Z:Stat):∀(N n j:Nat) (x:bA) (off:TI (Tv CommCase×CommShape)),n*500+j<=N->j<=400->eJ (jD Z) n .fin j x->∃q,QuitsD aK q 0 ⟨x.1,x.2,.running,none,off⟩:=by
 intro N;induction N with
 |zero=>
  intro n j x off f h c;obtain⟨z,o,_⟩:=c;cases n with
  |zero=>exact o.elim
  |succ n=>omega
 |succ N p=>
  intro n j x off f h c;rcases c.step (rK Z)with⟨a,u,g⟩|⟨y,bw,r,i,d⟩
  .let⟨m,d⟩:=g.done bI
   refine⟨1,.inr ⟨S6,⟨x.1,[],.finished,none,none⟩,#[],λe he=>(by simp at he),λw=>?_,⟨S6,S6⟩⟩⟩;have:=d false .running off w;rw[m];exact this
  .let⟨q,l⟩:=p n bw y none U U i
   refine⟨q+1,QuitsD.ctl S6 (λw=>?_) l⟩;have:=d false [] .running off w;simp only[bW,List.append_nil]at this;exact this
structure ov(Z:Stat)(u:S7)(r:Ta->Nat×Nat)(aY:Ta):Prop where
 calm:Calm Z.aL u
 old:∀b,b<Z.aL.heap.size->b≠Z.z.T->u.heap[b]?=Z.aL.heap[b]?
 G8:Z.W<u.heap.size
 T:u.heap[Z.z.T]?=some (.cells (eN Z.z 0 0 aY aY) 132 (0,0))
 O:u.heap[Z.O]?=some (.cells #[four (r false),four (r true)] 22 (0,0))
 res:∀k,∃l,u.heap[(r k).1]?=some (.cells (#[ah 2,ah 3,ah 5,ah 6]++l) 3 (0,0))/\(r k).2<=l.size+4
 new:Z.aL.heap.size<=Z.O/\(∀k,Z.aL.heap.size<=(r k).1)/\(r false).1≠(r true).1/\(∀k,(r k).1≠Z.O)/\Z.aL.heap.size<=Z.W/\Z.W≠Z.O/\∀k,(r k).1≠Z.W
def ov.at{r:Ta->Nat×Nat}{aY:Ta}(h:ov Z u r aY)(d:Nat):ov Z (u.at d) r aY:=⟨h.calm.trans (Calm.at u d),h.old,h.G8,h.T,h.O,h.res,h.new⟩
def eD.Hw(h:eD X Z G gs u t m bt cb q cx rw du)(Q:G.l=40)(z:G.k.shut=true)(hm:jl Z G g u c M x n j):ov Z u G.cy G.aY/\(∀k,∃p,(G.s k).c=.out p/\(p=.d6\/p=.fin))/\G.k=.at .fin:=by
 have d:=h.base;have l:G.k=.at .fin:=by
  rcases l:G.k with _|p
  .rw[l]at z;cases z
  .rw[l]at z
   cases p<;>first|rfl|cases z
 have wg:=d.b9.q6 l;let⟨_,Y,aa⟩:=vc wg;have pos:∀k,∃p,(G.s k).c=.out p/\(p=.d6\/p=.fin):=λk=>by
  have C:(G.s k).cR=.yes:=by cases k<;>assumption
  generalize W:G.s k=s at C;obtain⟨J,bb⟩:=s;cases J with
  |out p=>cases p<;>first|exact⟨_,S6,.inl S6⟩|exact⟨_,S6,.inr S6⟩|cases C
  |_=>cases C
 have R:∀k,(G.s k).da=true:=λk=>by let⟨p,e,hp⟩:=pos k;unfold ck.da;rw[e];rcases hp with rfl|rfl<;>rfl
 have o:∀k,kA Z G (Z.wk k) u (G.cy k):=λk=>by let⟨p,e,hp⟩:=pos k;let⟨T,ay,K,S⟩:=h.dN k (by rw[e];intro h;cases h);exact K.res e (by rcases hp with rfl|rfl<;>rfl)
 have role:∀k,(G.s k).role=.idle\/(G.s k).role=.fin:=λk=>by
  let⟨p,e,hp⟩:=pos k;unfold ck.role;rw[e];rcases V:(G.s k).bb with _|_
  .exact .inl S6
  .exact .inr S6
 have D:=d.b9.once;have r:G.mu=0/\G.ms=0/\G.bc=G.aY:=by have f:=D.mu;have w:=D.aY;have B:=D.bc;rcases role false with c8|c8<;>rcases role true with ay|ay<;>rw[c8,ay]at f w B<;>simp[jO,j2,tU,u2,jm.zA,jm.gC]at f w B<;>exact⟨f.1.symm,f.2.symm,B.trans w.symm⟩
 have y:gY Z G 0 Z.O:=by have:=hm.at_.own 2 _ _ _ hm.ok.out;exact⟨this.1,this.2.2 S6⟩
 have F:=hm.at_.mem.has 2 _ _ _ hm.ok.out;have H:∀k,iB G c k=four (G.cy k):=λk=>by unfold iB;rw[R k,Q];rfl
 rw[H,H]at F;have I:∀b,b≠Z.z.T->(∃i,i<=Z.N+2/\gY Z G i b)\/(∃k,G.b1 b=Z.wk k)->Z.aL.heap.size<=b:=λb r L=>by
  refine Nat.le_of_not_lt λE=>?_
  rcases L with⟨i,P,hm⟩|⟨k,l⟩
  .exact d.Eh b E r i P hm
  .rcases d.hold b E r with e|⟨e,_⟩
   .rw[l]at e;have:=Si Z k;omega
   .rw[l]at e;exact ji d.ap.pos k e
 refine⟨⟨d.ww.calm,d.ww.old,bu d.ww.W,?_,F,λk=>(o k).cells,I _ y.1.1 (.inl ⟨0,U,y⟩),λk=>I _ (o k).gB.1 (.inr ⟨k,(o k).own⟩),λe=>?_,λk e=>?_,d.o4.1,TT y.1.2.1,λk=>(o k).gB.2.1⟩,pos,l⟩
 .have:=d.ww.T
  rw[r.1,r.2.1,r.2.2]at this;exact this
 .have f:=(o false).own
  have w:=(o true).own;rw[e,w]at f;exact Td (Bw f) aF
 .have f:=(o k).own
  rw[e,y.2.1]at f;exact ji d.ap.pos k f.symm
def L4(p:Z.base=bx::Tp)(w:Kept bx){r:Ta->Nat×Nat}{aY:Ta}(m:c.O=Z.O)(fin:∀bm aC bh,ov Z aC r aY->cc aK (λb=>Z.aH b\/b=Z.W) bm (Tk (eU Z.kd bx (.slice (some (box Z.O)) 2 2)) Tp) aC bh 0->Tu aK bF bm aC bh):
 ∀(N n j:Nat) (x:bA),n*500+j<=N->j<=400->eJ (hP Z) n ⟨41,c,M⟩ j x->∀gs u t,ov Z u r aY->cc aK (λb=>Z.aH b\/b=Z.W) gs (Tk x.1 (x.2++Z.base)) u t 0->Tu aK bF gs u t:=by
 intro N;induction N with
 |zero=>
  intro n j x l q f;obtain⟨z,D,_⟩:=f;cases n with
  |zero=>exact D.elim
  |succ n=>omega
 |succ N E=>
  intro n j x l q f gs u t hd i sl;rcases f.step (po Z)with⟨a,G,o⟩|⟨y,bw,F,B,g⟩
  .let⟨C,g⟩:=o.leave (v:=.slice (some (box c.O)) 2 2) bI
   refine i.step (λk=>⟨(Tk (eU Z.kd bx (.slice (some (box Z.O)) 2 2)) Tp),u.at k,#[],?_,S6,bg,(λe he=>by simp at he),λbm bh h d=>fin bm _ bh (hd.at k) d h⟩) sl;have:=g true .running none bx Tp (u.at k) w;rw[m]at this;rw[p,C];exact this
  .refine i.step (λk=>⟨bW y Z.base,u.at k,#[],g true Z.base .running none (u.at k),S6,bg,(λe he=>by simp at he),λbm bh h d=>?_⟩) sl
   exact E n bw y U U B bm _ bh (hd.at k) d h
def Over(Z:Stat)(gs:TR)(u:S7)(sl:T8)(t:Tt):Prop:=
 ∃(bm:TR) (ops:Tv MemOp) (c:fR) (M:Mem) (x:bA) (a:Nat) (r:Ta->Nat×Nat) (aY:Ta),runT aK (crowd gs u sl) 0=(.next (crowd bm u sl),ops)/\c.O=Z.O/\eJ (hP Z) a ⟨41,c,M⟩ 400 x/\ov Z u r aY/\
  cc aK (λb=>Z.aH b\/b=Z.W) bm (Tk x.1 (x.2++Z.base)) u (t++ops) 0
def Sl(E:Base Z G u t){m:gQ X.Q}{D b:Ta}{s:ck}(C:fz X Z G k g u s m)(l:G.s k=s)(z:iJ Z G k g u D m.1 b){p:h5}(f:s.c=.out p)(hp:p=.d6\/p=.fin):∃q,QuitsD aK q s.deaf g:=by
 cases C with
 |@out ia bb x n j gA ok h F H B=>
  cases f;have d:g.status=.running:=by
   have o:((if hQ p then 3 else 1:Nat),gA,n*500+j).1≠0:=by show(if hQ p then 3 else 1)≠0;split<;>decide
   cases z with
   |run h _=>exact h
   |sema _ _ c _ _=>obtain⟨b,c⟩:=c;rw[l]at c;cases c
   |snd v _ _ _ _ _ c _ _ _ _ _ _=>
    rw[l]at c;have:=c.cR;rcases hp with rfl|rfl<;>cases this
   |gone _ _ r=>exact Td r o
  let⟨st,off,i⟩:=h.shape;let⟨q,y⟩:=NF (G.bP k) bb (n*500+j) n j p x off bg h.le h.on hp;refine⟨q,?_⟩;have e:g=⟨x.1,x.2,.running,none,off⟩:=by rw[i];rw[i]at d;dsimp only at d;rw[d];simp
  rw[e];exact y
 |gone gA w B=>
  exact⟨0,w,S6⟩
 |_=>cases f
def eD.recvs(h:eD X Z G gs u t m bt cb q cx rw du)(aj:G.l=28\/G.l=34\/G.l=40)(J:gs[0]?=some g)(bz:g.status=.running)(hm:jl Z G g u c M x n j)(aa:At (hP Z) a ⟨G.l,c,M⟩ x)(av:n=a+1)(aO:m=n*500+j):
 lz X Z gs u sl t 0 (h' Z m bt cb q cx rw du)\/Over Z gs u sl t:=by
 have r:=h.base;have Y:=r.ap.pos;have au:=bu J;let⟨bv,bE⟩:=DW aj hm.ok.cfg.2.2.1 aa;let⟨st,off,bj⟩:=hm.at_.shape;have aB:stepG aK (0 == 0) g u=.comm (Tk x.1 (x.2++Z.base)) (g3 Z) true (.recv true) u:=by rw[bj];exact bE true _ _ _ _
 have aL:=r.ww.ch;have ay:MemOp.ofEvents 0 g.frame.fn g.frame.place #[]=#[]:=by rw[ofEvents_eq];simp
 have ag:∀i b,(i,b)∈partners (gs.setIfInBounds 0 ph) Z.ch true->b=0/\i≠0/\∃k v x n j aE,i=Z.wk k/\(G.s k).c≠.un/\(∃l,gs[i]?=some (parked l #[scase Z.ch (j5 k v) (.tuple #[])] .send))/\g7 (G.s k) ⟨.out (.snd v),(G.s k).bb⟩/\(∀l,gs[i]?=some (parked l #[scase Z.ch (j5 k v) (.tuple #[])] .send)->cB (fP (G.bP k)) Z G (Z.wk k) (.snd v) [] x (parked l #[scase Z.ch (j5 k v) (.tuple #[])] .send) u n j)/\At (fP (G.bP k)) aE (.snd v) x/\n=aE+1/\
  ((∀(n:Nat) own b o,(ib (G.bP k))[n]?=some (own,b,o)->G.b1 b≠Z.wk k)/\kA Z G (Z.wk k) u v):=by
  intro i b aq;let⟨f,W,P⟩:=mem_partners.1 aq;rcases getElem?_stand gs 0 i f W with⟨rfl,rfl⟩|⟨K,ao⟩
  .rw[offersAt_ph]at P;cases P
  .let⟨bf,k,v,T,nw,aU,aG,w,C,⟨l,H⟩,a4,a5,a6,a7,a8⟩:=h.sends ao P K
   subst H;refine⟨bf,K,k,v,T,nw,aU,aG,w,C,⟨l,ao⟩,a4,λa9 L=>?_,a6,a7,a8⟩;rw[ao]at L;rw[<-bD L];exact a5
 by_cases K:partners (gs.setIfInBounds 0 ph) Z.ch true = []
 .rcases I:G.k.shut with _|_
  ·
   left;have ah:=vL r I;have aS:=crowd_waits (sl:=sl) J aB (λa2 bh=>by
    have:a2=rcase Z.ch z0:=by simpa using bh
    rw[this];exact ways_recv_none ah K)
   rw[ay]at aS;have bx:cx=true:=by
    let⟨a9,bP,bO,bV,bU,bT,L,aH,bQ,ba⟩:=h.main;rw[J]at L;obtain rfl:=bD L;cases ba with
    |run _=>rfl
    |ri _ am _ _ _ _=>obtain⟨l,rfl⟩:=am;cases bz
   have aC:∀i,i≠0->(gs.setIfInBounds 0 (parked (Tk x.1 (x.2++Z.base)) (g3 Z) (.recv true)))[i]?=gs[i]?:=λi W=>h7 (TT W)
   have bG:∀k,(G.s k).c≠.un->∃E,gs[Z.wk k]?=some E/\fz X Z G k E u (G.s k) (bt k)/\iJ Z G k E u false (bt k).1 (rw k):=λk F=>by
    let⟨E,w,C,H⟩:=h.dN k F;refine⟨E,w,C,?_⟩;generalize rw k=b at H ⊢;generalize (bt k).1=mk at H ⊢;cases H with
    |run h R=>exact .run h R
    |sema h bs D br R=>exact .sema h bs D br R
    |snd v x n j b am D ae aa av aI bS R=>
     exfalso;obtain⟨l,rfl⟩:=am;have:(Z.wk k,0)∈partners (gs.setIfInBounds 0 ph) Z.ch true:=mem_partners.2 ⟨_,by rw[h7 (TT (ji Y k))];exact w,by rw[offersAt_parked_send,Tq S6];exact bI⟩;rw[K]at this;cases this
    |gone h D R=>exact .gone h D R
   refine⟨G,_,u,#[],m,bt,cb,q,false,rw,du,aS,⟨by simpa using r,by rw[Up];exact h.size,⟨_,c,M,x,n,j,by rw[iO au],⟨⟨hm.at_.on,hm.at_.le,S6,S6,S6,hm.at_.mem,hm.at_.own⟩,hm.ok⟩,aO,.ri a ⟨_,S6⟩ aj av aa I⟩,λk F=>?_,λp hp=>?_,λi f V bc z=>?_⟩,zW (by rw[bx];simp[kW])⟩
   .let⟨E,w,C⟩:=bG k F
    exact⟨E,by rw[aC _ (ji Y k)];exact w,C⟩
   .let⟨E,w,C⟩:=h.eu p hp
    exact⟨E,by rw[aC _ U];exact w,C⟩
   .rw[aC i U]at z
    simpa using h.old i f V bc z
  ·
   right;have F:G.k=.at .fin:=by
    rcases F:G.k with _|p
    .rw[F]at I;cases I
    .rw[F]at I
     cases p<;>first|rfl|cases I
   have ar:G.l=40:=by
    have wg:=r.b9.q6 F;let⟨_,bL,bM⟩:=vc wg;have D:=r.b9.cnt;rw[vX bL,vX bM]at D;rcases aj with aj|aj|aj
    .rw[aj]at D;cases D
    .rw[aj]at D;cases D
    .exact aj
   let⟨hd,aQ,_⟩:=h.Hw ar I hm;rw[I]at aL;have ai:=crowd_recv_closed (sl:=sl) J aB aL K;rw[finishComm_recv,ay,Array.empty_append]at ai;have bF:toGot G.l c M none=⟨41,c,M⟩:=by show(if G.l=40 then _ else _)=_;rw[Tq ar]
   have aP:=bv none;rw[bF]at aP;have bA:∀k,(G.s k).da=true:=λk=>by let⟨p,e,hp⟩:=aQ k;unfold ck.da;rw[e];rcases hp with rfl|rfl<;>rfl
   have bB:Go.Conc.served ((Tk x.1 (x.2++Z.base)):TC) (recvd true z0 false)=(Tk (x.1.finish (oP none)) (x.2++Z.base)):=S6;rw[bB]at ai;have aN:j1 G.l=0:=by rw[ar];rfl
   have aw:∀i,Deaf (t++#[({g:=0,fn:=x.1.fn,pos:=x.1.place,act:=.recvClosed Z.ch}:MemOp)]) i=Deaf t i:=λi=>oI (B:=u.heap.size) (λop ax=>by
    have:op={g:=0,fn:=x.1.fn,pos:=x.1.place,act:=.recvClosed Z.ch}:=by simpa using ax
    rw[this];exact⟨S6,aF,aF,r.fv.2.2⟩) i
   refine⟨_,_,c,M,(x.1.finish (oP none),x.2),a,G.cy,G.aY,ai,hm.ok.cfg.2.1,aP,hd,⟨by rw[iO au],S6,?_,r.dy.finish Y r.fv.2.2 bA I aN ⟨S6,S6⟩,by rw[aw];exact r.dy.d0.trans aN⟩⟩;have each:∀i f,0<i->gs[i]?=some f->∃Q,QuitsD aK Q (Deaf t i) f:=λi f V z=>by
    rcases h.nH z with e|⟨_,e⟩|⟨k,rfl,P⟩|⟨rfl,p,hp⟩
    .omega
    .exact⟨q i,h.old i f V e z⟩
    .let⟨p,e,hp⟩:=aQ k
     let⟨E,w,C,H⟩:=h.dN k P;rw[z]at w;obtain rfl:=bD w;rw[r.dy.qU];exact Sl r C S6 H e hp
    .let⟨E,w,C⟩:=h.eu p hp
     rw[z]at w;obtain rfl:=bD w;rw[F]at hp;cases hp;rw[r.dy.oJ,F];clear h;cases C with
     |run aD aW aT ae aA=>
      let⟨st,off,J⟩:=ae.shape;let⟨bH,az⟩:=ND Z (aW*500+aT) aW aT aD off bg ae.le ae.on;refine⟨bH,?_⟩;have e:f=⟨aD.1,aD.2,.running,none,off⟩:=by rw[J];rw[J]at aA;dsimp only at aA;rw[aA];simp
      rw[e];exact az
     |wait _ _ _ _ _ _ bw _=>cases bw
     |gone _ bi=>exact⟨0,bi,S6⟩
   refine⟨λi=>Classical.epsilon λQ=>∀f,gs[i]?=some f->QuitsD aK Q (Deaf t i) f,⟨λi f V z=>?_,λi W=>?_⟩⟩
   .rw[h7 U]at z
    rw[aw];let⟨Q,az⟩:=each i f V z;exact Classical.epsilon_spec (p:=λQ=>∀f,gs[i]?=some f->QuitsD aK Q (Deaf t i) f) ⟨Q,λg' aM=>by rw[z]at aM;rw[<-bD aM];exact az⟩ f z
   .rw[aw]
    refine r.dy.above i ?_;rw[Up,h.size,Tm U,Tm U]at W;omega
 ·
  left;let⟨⟨i1,af⟩,bk⟩:=List.exists_mem_of_ne_nil _ K;let⟨_,_,aV,v1,_,_,_,_,_,_,_,aJ,_⟩:=ag i1 af bk;have bC:(G.s aV).da=false:=by rw[<-aJ.da];rfl
  have ax:G.k.shut=false:=xg (k:=aV) r (by rw[<-aJ.cR];rfl);have ah:=vL r ax;have bo:=Dy r aj bC;let⟨i,f,aY,bN,aX,d,ap,z,aR⟩:=crowd_recv_meets_some (sl:=sl) J aB ah K λi b aq=>by let⟨w,C,k,v,_,_,_,_,_,_,⟨l,H⟩,_⟩:=ag i b aq;exact⟨w,C,l,_,_,_,H⟩
  have bn:(i,0)∈partners (gs.setIfInBounds 0 ph) Z.ch true:=mem_partners.2 ⟨_,by rw[h7 (TT ap)];exact z,by rw[offersAt_parked_send,Tq S6];exact bI⟩;obtain⟨_,_,k,v,T,nw,aU,aG,rfl,P,⟨l,al⟩,D,S,bd,bR,aI⟩:=ag i 0 bn;have S:=S l al;have ad:parked f #[scase Z.ch aY bN] aX=parked l #[scase Z.ch (j5 k v) (.tuple #[])] .send:=by rw[z]at al;exact bD al
  obtain⟨L,aH⟩:aY=j5 k v/\aX=.send:=by have:=congrArg Goroutine.offers ad;simp[parked,scase]at this;exact⟨this.1.1,this.2⟩
  have ak:f.frame=T.1/\f.callers=T.2/\f.dying=none:=by
   have aZ:f.frame=l.frame:=by have:=congrArg Goroutine.frame ad;exact this
   have a0:f.callers=l.callers:=by have:=congrArg Goroutine.callers ad;exact this
   have a3:f.dying=l.dying:=by have:=congrArg Goroutine.dying ad;exact this
   have af:l.frame=T.1:=S.fr;have a1:l.callers=T.2++[]:=S.cs;have cG:l.dying=none:=S.m';exact⟨aZ.trans af,a0.trans (by rw[a1];simp),a3.trans cG⟩
  subst L;subst aH;rw[finishComm_send,finishComm_recv,ay,Array.empty_append]at aR;have bq:=bu z;let⟨dd,ga,bK,bJ,bb,bp⟩:=h.meet (k:=k) (su:=Go.Conc.served f undef) (sr:=Go.Conc.served ((Tk x.1 (x.2++Z.base)):TC) (recvd true (j5 k v) true)) (bm:=(gs.setIfInBounds (Z.wk k) (Go.Conc.served f undef)).setIfInBounds 0 (Go.Conc.served ((Tk x.1 (x.2++Z.base)):TC) (recvd true (j5 k v) true))) (d:=d)
   P D bo S bd aI hm aa av aO (by rw[xH ak.2.2,ak.1,ak.2.1]) (by
    rw[xH S6];have:recvd true (j5 k v) true=oP (some (k,v)):=by cases k<;>rfl
    rw[this]) aF (by rw[iO (by simpa using au)]) (by rw[h7 (TT (ji Y k)),iO bq]) (λi ap bl=>GK ap bl) (cap:=0) (x:={g:=Z.wk k,fn:=f.frame.fn,pos:=f.frame.place,act:=.send Z.ch (dF G.l)}) (y:={g:=0,fn:=x.1.fn,pos:=x.1.place,act:=.recv Z.ch (dF G.l) 0}) (p:={g:=Z.wk k,fn:=f.frame.fn,pos:=f.frame.place,act:=.sendDone Z.ch (dF G.l)}) (g2:={g:=0,fn:=x.1.fn,pos:=x.1.place,act:=.recvDone Z.ch (dF G.l)}) ⟨S6,S6⟩ S6 S6 ⟨S6,S6⟩
  exact⟨_,_,_,_,dd,ga,cb,q,true,bK,bJ,aR,bb,uD bp S6⟩
def eD.Ri(h:eD X Z G gs u t m bt cb q cx rw du)(f:gs[0]?=some g)(K:g.status=.running):lz X Z gs u sl t 0 (h' Z m bt cb q cx rw du)\/Over Z gs u sl t:=by
 let⟨R,c,M,x,n,j,z,D,i,S⟩:=h.main;rw[f]at z;obtain rfl:=bD z;rcases L3 h.base D with⟨aB,aC,l,g',bp,b7,T,c9,bw,Q,C,B,E,P,r,J,hm,F,L,I,H⟩|⟨c,M,x,n,j,a,aj,hm,d,w,y⟩
 .refine .inl (h.Ie f Q r L C B E P J hm I H (by rw[i];exact F) ⟨?_,?_⟩)
  .have o:=r.b9.l9
   have p:=h.base.b9.l9;rw[o,p,C]
  .have o:=r.b9.mS
   have p:=h.base.b9.mS;rw[o,p,B]
 .rcases aj with aj|aj|aj
  .exact .inl (h.Pe aj f hm (by rw[aj]at d;exact d) w (i.trans y))
  .exact .inl (h.Pf aj f hm (by rw[aj]at d;exact d) w (i.trans y))
  .exact h.recvs aj f K hm d w (i.trans y)
def eD.ends(ae:Z.base=bx::Tp)(ag:Kept bx)(fin:∀bm aC bh r aY,ov Z aC r aY->cc aK (λb=>Z.aH b\/b=Z.W) bm (Tk (eU Z.kd bx (.slice (some (box Z.O)) 2 2)) Tp) aC bh 0->Tu aK bF bm aC bh)(h:eD X Z G gs u t m bt cb q cx rw du)(sl:T8):Ends aK bF (crowd gs u sl) t:=by
 have key:∀x:rT X.Q,∀(G:bX) (gs:TR) (u:S7) (t:Tt) (m:Nat) (bt:Ta->gQ X.Q) (cb:Nat) (q:T2) (cx:Ta) (rw:T9) (du:Ta),x=h' Z m bt cb q cx rw du->eD X Z G gs u t m bt cb q cx rw du->Tu aK bF gs u t:=by
  intro x;induction x using(Md X.Q).induction with
  |_ x ao=>
  intro G gs u t m bt cb q cx rw du am h sl;subst am;have R:=h.base.ap.pos;have ad:∀g∈gs,awake g:=by
   intro g l;obtain⟨i,af,rfl⟩:=Array.mem_iff_getElem.1 l;have B:=fb af;rcases h.nH B with rfl|⟨H,R⟩|⟨k,rfl,E⟩|⟨rfl,p,hp⟩
   .let⟨L,c,M,x,n,j,Q,aq,ar,U⟩:=h.main
    rw[B]at Q;obtain rfl:=bD Q;cases U with
    |run f=>exact awake_of (.inl f)
    |ri _ J _ _ _ _=>obtain⟨T,e⟩:=J;rw[e];exact awake_of (.inr (.inl S6))
   .exact awake_of ((h.old i _ H R B).status.elim .inl λx=>.inr (.inr x))
   .let⟨L,z,_,F⟩:=h.dN k E
    rw[B]at z;obtain rfl:=bD z;generalize rw k=b at F;generalize (bt k).1=mk at F;cases F with
    |run f _=>exact awake_of (.inl f)
    |sema f _ _ _ _=>exact awake_of (.inr (.inl f))
    |snd _ _ _ _ _ J _ _ _ _ _ _ _=>obtain⟨T,e⟩:=J;rw[e];exact awake_of (.inr (.inl S6))
    |gone f _ _=>exact awake_of (.inr (.inr f))
   .let⟨L,z,S⟩:=h.eu p hp
    rw[B]at z;obtain rfl:=bD z;clear h;cases S with
    |run _ _ _ _ f=>exact awake_of (.inl f)
    |wait _ _ _ _ f _ _ _=>exact awake_of (.inr (.inl f))
    |gone _ f=>exact awake_of (.inr (.inr f))
  let⟨i,g,d,D,l,C,o⟩:=crowd_pick (P:=aK) (w:=u) (sl:=sl) ad h.live;have y:=h.at d;have on:∀{i},stepT aK (crowd gs u sl)=runT aK (crowd gs (u.at d) D) i->lz X Z gs (u.at d) D t i (h' Z m bt cb q cx rw du)->Ends aK bF (crowd gs u sl) t:=by rintro i o ⟨aB,bm,aC,ops,dd,ga,iz,g2,fH,hS,ap,f,I,ah⟩;exact Ends.next (o.trans f) (ao _ ah aB bm aC _ dd ga iz g2 fH hS ap S6 I D)
  rcases y.nH l with rfl|⟨H,W⟩|⟨k,rfl,E⟩|⟨rfl,p,hp⟩
  .rcases y.Ri (sl:=D) l C with aj|⟨bm,ops,c,M,x,a,r,aY,f,Y,ak,hd,K⟩
   .exact on o aj
   .exact Ends.next (o.trans f) (L4 ae ag Y (λbm aC bh hd K sl=>fin bm aC bh r aY hd K sl) (a*500+400) a 400 x bg bg ak bm _ _ hd K D)
  .exact on o (y.Ic H W l C)
  .exact on o (y.Rj E l C λv x n j a I al aa ai V=>y.OU E l C I al aa ai V)
  .exact on o (y.Rh hp l C)
 exact key _ G gs u t m bt cb q cx rw du S6 h sl
end
section
variable{u aC w:S7}{t bh:Tt}{gs bm:TR}{g:TC}{c bp:fR}{M b7:Mem}{x y:bA}{n j a l aN d:Nat}{bF:TU->T0->S7->Tt->Prop}{kd:Tx}{Tc:Tz}{aH:TM}{aL:S7}{S oz:Tb (Nat×Obj)}
structure jw(kd:Tx)(Tc:Tz)(aH:TM)(aL:S7)(S:Tb (Nat×Obj))(gs:TR)(u:S7)(t:Tt)(d l:Nat)(c:fR)(M:Mem)(x:bA)(n j:Nat):Prop where
 on:eJ (kn kd) n ⟨l,c,M⟩ j x
 le:j<=400
 mem:gN M u
 fJ:cc aK aH gs (bW x Tc) u t d
 old:∀b,b<aL.heap.size->u.heap[b]?=aL.heap[b]?
 calm:Calm aL u
 fi:∀(i:Nat) b o,M[i]?=some (true,b,o)->aL.heap.size<=b
 kK:∀(i:Nat) own b o,M[i]?=some (own,b,o)->¬aH b
 ej:∀b,aH b->b<aL.heap.size
 bK:∀b o,(b,o)∈S->u.heap[b]?=some o/\aL.heap.size<=b/\∀(i:Nat) own aE aV,M[i]?=some (own,aE,aV)->aE≠b
def vk(kd:Tx):dn (kn kd).P (kn kd).ext:=by unfold kn;exact j8
def jw.at(h:jw kd Tc aH aL S gs u t d l c M x n j)(k:Nat):gN M (u.at k)/\(∀b,b<aL.heap.size->(u.at k).heap[b]?=aL.heap[b]?)/\Calm aL (u.at k):=⟨⟨h.mem.has,h.mem.fL⟩,h.old,h.calm.trans (Calm.at u k)⟩
def jw.quiet(h:jw kd Tc aH aL S gs u t d l c M x n j)(k:∀n j gs u t x a,n*500+j<=n*500+400->jw kd Tc aH aL S gs u t d l c M x n j->n=a+1->At (kn kd) a ⟨l,c,M⟩ x->Tu aK bF gs u t):Tu aK bF gs u t:=by
 induction j using Nat.strongRecOn generalizing gs u t x with
 |_ j r=>
 intro sl;rcases h.on.step (vk kd)with⟨a,o,i⟩|⟨y,bw,m,p,q⟩
 .exact k n j gs u t x a (by have:=h.le;omega) h o i sl
 .refine h.fJ.step (λf=>⟨bW y Tc,u.at f,#[],q true Tc .running none (u.at f),S6,bg,(λe he=>by simp at he),λbm bh C g=>?_⟩) sl
  let⟨w,z,B⟩:=h.at f;exact r bw m ⟨p,by have:=h.le;omega,w,g,z,B,h.fi,h.kK,h.ej,h.bK⟩ C
def wa{B b off:Nat}{wr:Ta}(f:b<B)(g:¬aH b):ox aH B ⟨.cell (S8 b off),wr,false⟩:=by
 refine⟨λx c bO he d=>?_,f⟩;have c:some (⟨.cell (S8 b off),wr,.plain⟩:Touch)=some x:=by cases wr<;>exact c
 rw[<-bD c]at he;injection he with he
 rw[<-he]at d;exact Td d g
def jw.bL(h:jw kd Tc aH aL S gs u t d l c M x n j)(P:n=a+1)(J:At (kn kd) a ⟨l,c,M⟩ x){ops:Tb gZ}(he:(kn kd).cz ⟨l,c,M⟩ = [.bL ops ⟨aN,bp,b7⟩])(k:∀gs u t x,jw kd Tc aH aL S gs u t d aN bp b7 x a 400->Tu aK bF gs u t):Tu aK bF gs u t:=by
 subst P;let⟨y,Q,q,R⟩:=J.bL (vk kd) (ops:=ops) (to:=⟨aN,bp,b7⟩) (by rw[he];exact .head _);have q:prun M ops=some (_,_,b7):=q;refine h.fJ.step λz=>?_
 let⟨F,U,V⟩:=h.at z;let⟨aC,hd,hm,C,_,T,E,D,m,_⟩:=uJ q F;refine⟨bW y Tc,aC,_,R true Tc .running none (u.at z) aC _ hd,S6,C.size,λe p=>?_,λbm bh X B=>?_⟩
 .obtain⟨i,own,b,o,off,wr,r,rfl,_⟩:=D e (by simpa using p)
  exact wa (by rw[T];exact gL F r) (h.kK i own b o r)
 .have I:deafBehind d (cI (eh ((kn kd).mem ⟨l,c,M⟩) ops)).toArray=d:=deafBehind_still (λe p=>by obtain⟨i,own,b,o,off,wr,r,rfl,_⟩:=D e (by simpa using p);exact⟨aF,aF⟩) d
  rw[I]at B;refine k bm aC bh y ⟨Q,bg,hm,B,λb K=>?_,V.trans C,λi b o e=>?_,λi own b o e=>?_,h.ej,λb o L=>?_⟩ X
  .rw[E b λi o e=>by have:=h.fi i b o e;omega]
   exact U b K
  .let⟨f,g⟩:=m i true b o e
   exact h.fi i b f g
  .let⟨f,g⟩:=m i own b o e
   exact h.kK i own b f g
  .let⟨s1,s2,G⟩:=h.bK b o L
   refine⟨?_,s2,λi own w f e=>?_⟩
   .rw[E b λi o e=>G i true b o e S6]
    exact s1
   .let⟨W,H⟩:=m i own w f e
    exact G i own w W H
def jw.new(h:jw kd Tc aH aL S gs u t d l c M x n j)(J:n=a+1)(H:At (kn kd) a ⟨l,c,M⟩ x){eA:Ta}{o:Obj}{bP:Nat->fR}(he:(kn kd).cz ⟨l,c,M⟩ = [.new eA o λb=>⟨aN,bP b,p6 eA M b o⟩])(k:∀gs u t x b,aL.heap.size<=b->jw kd Tc aH aL (if eA then S else(b,o)::S) gs u t d aN (bP b) (p6 eA M b o) x a 400->Tu aK bF gs u t):Tu aK bF gs u t:=by
 subst J;refine h.fJ.step λp=>?_
 let⟨y,K,T,P⟩:=H.new (vk kd) (eA:=eA) (o:=o) (to:=λb=>⟨aN,bP b,p6 eA M b o⟩) (by rw[he];exact .head _) u.heap.size;let⟨F,Q,V⟩:=h.at p;have z:aL.heap.size<=u.heap.size:=h.calm.size;refine⟨bW y Tc,_,#[],P true Tc .running none (u.at p) S6,S6,by simp;exact Nat.le_succ _,(λe he=>by simp at he),λbm bh R G=>?_⟩;have B:∀b,b<u.heap.size->((u.at p).heap.push o)[b]?=u.heap[b]?:=λb C=>by rw[iq,Tm (by show b≠u.heap.size;omega)];rfl
 have I:((u.at p).heap.push o)[u.heap.size]?=some o:=by rw[iq,Tq (show u.heap.size=(u.at p).heap.size from S6)]
 refine k bm _ bh y u.heap.size z ⟨K,bg,?_,G,λb C=>(B b U).trans (Q b C),⟨by simp;exact cL z (Nat.le_succ _),h.calm.tape,h.calm.output,h.calm.os⟩,?_,?_,h.ej,?_⟩ R
 .cases eA with
  |true=>exact F.push S6
  |false=>exact F.keep λi own b f e=>B b (gL h.mem e)
 .intro i b f e
  cases eA with
  |false=>exact h.fi i b f e
  |true=>
   have e:(M++[(true,u.heap.size,o)])[i]?=some (true,b,f):=e;rcases Ub i M.length with ad|ad
   .rw[jz ad]at e;exact h.fi i b f e
   .rw[jb ad]at e
    rcases g:i-M.length with _|q
    .rw[g]at e;simp at e;rw[<-e.1];exact z
    .rw[g]at e;simp at e
 .intro i own b f e
  cases eA with
  |false=>exact h.kK i own b f e
  |true=>
   have e:(M++[(true,u.heap.size,o)])[i]?=some (own,b,f):=e;rcases Ub i M.length with ad|ad
   .rw[jz ad]at e;exact h.kK i own b f e
   .rw[jb ad]at e
    rcases g:i-M.length with _|q
    .rw[g]at e;simp at e
     intro L;have:=h.ej b L;omega
    .rw[g]at e;simp at e
 .intro b f D
  have old:(b,f)∈S->((u.at p).heap.push o)[b]?=some f/\aL.heap.size<=b/\b<u.heap.size/\∀(i:Nat) own m r,M[i]?=some (own,m,r)->m≠b:=λhm=>by let⟨s1,s2,w⟩:=h.bK b f hm;have E:=bu s1;exact⟨(B b E).trans s1,s2,E,w⟩
  cases eA with
  |true=>
   let⟨s1,s2,W,w⟩:=old D;refine⟨s1,s2,λi own m r e=>?_⟩;have e:(M++[(true,u.heap.size,o)])[i]?=some (own,m,r):=e;rcases Ub i M.length with ad|ad
   .rw[jz ad]at e;exact w i own m r e
   .rw[jb ad]at e
    rcases g:i-M.length with _|q
    .rw[g]at e;simp at e;omega
    .rw[g]at e;simp at e
  |false=>
   rcases List.mem_cons.1 D with e|hm
   .cases e
    exact⟨I,z,λi own m r e=>Nat.ne_of_lt (gL h.mem e)⟩
   .let⟨s1,s2,_,w⟩:=old hm
    exact⟨s1,s2,w⟩
def jw.fix(h:jw kd Tc aH aL S gs u t d l c M x n j)(K:n=a+1)(E:At (kn kd) a ⟨l,c,M⟩ x){an:Tb dO}{g:Tb cD}(he:(kn kd).cz ⟨l,c,M⟩ = [.fix true false an g ⟨aN,c,M⟩])(r:Nat)(hd:∀f,∃aC es,Does (u.at f) g aC es/\aC.heap.size=u.heap.size/\Calm u aC/\(∀b,b≠r->aC.heap[b]?=u.heap[b]?)/\∀b o,(b,o)∈oz->aC.heap[b]?=some o)(F:(∃o,(r,o)∈S)\/∀f aC es,Does (u.at f) g aC es->aC.heap=u.heap)(C:∀b o,(b,o)∈oz->∃p,(b,p)∈S)(I:∀e∈hZ true (cI g),ox aH u.heap.size e)(k:∀gs u t x,jw kd Tc aH aL oz gs u t (deafBehind d (hZ true (cI g)).toArray) aN c M x a 400->Tu aK bF gs u t):Tu aK bF gs u t:=by
 subst K;let⟨y,Q,V,_,T⟩:=E.fix (vk kd) (show Edge.fix true false an g ⟨aN,c,M⟩∈_ by rw[he];exact .head _);refine h.fJ.step λf=>?_
 let⟨W,X,Y⟩:=h.at f;let⟨aC,es,z,B,G,J,R⟩:=hd f;have keep:∀b,(b<aL.heap.size\/∃(i:Nat) (own:Ta) (o:Obj),M[i]?=some (own,b,o))->aC.heap[b]?=u.heap[b]?:=λb m=>by
  rcases F with⟨o,L⟩|hh
  .refine J b λe=>?_
   subst e;let⟨s1,s2,q⟩:=h.bK b o L;rcases m with m|⟨i,own,p,e⟩
   .omega
   .exact q i own b p e S6
  .rw[hh f aC es z]
 refine⟨bW y Tc,aC,_,T true Tc .running none (u.at f) aC _ z,S6,Nat.le_of_eq B.symm,λe H=>by rw[B];exact I e (by simpa using H),λbm bh U D=>?_⟩;refine k bm aC bh y ⟨Q,bg,h.mem.keep λi own b o e=>keep b (.inr ⟨i,own,o,e⟩),D,λb m=>(keep b (.inl m)).trans (h.old b m),h.calm.trans G,h.fi,h.kK,h.ej,λb o w=>?_⟩ U;let⟨p,P⟩:=C b o w;let⟨_,s2,q⟩:=h.bK b p P;exact⟨R b o w,s2,q⟩
end
end Go.aO
