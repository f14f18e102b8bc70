/- A part. -/
import Derived.Test.YtejkocoljbaioaaGreatDoorP10
set_option maxHeartbeats 8000000
set_option maxRecDepth 100000
set_option linter.all false
namespace Go.aO
attribute [-simp] Go.Sem.runT_eq
open Go.Proofs Go.Conc Go.ConcN
variable{bx:Frame}{rest:List Frame}{a j:Nat}
section
variable{X:et}{Z:Stat}[hi X Z]{G aB:bX}{gs bm:Array Goroutine}{u aC w:World}{t bh:Trace}{k:Bool}{g g':Goroutine}{m dd cb iz:Nat}{bt:Bool->gQ X.Q}{q:Nat->Nat}{cx du:Bool}{hS rw:Bool->Bool}{sl:Option (Nat×Nat)}{es:Array Event}{p ia:gO}
def GK{i:Nat}{x y:Goroutine}(c:a≠i)(d:a≠j):((gs.setIfInBounds j x).setIfInBounds i y)[a]?=gs[a]?:=by rw[h7 (Ne.symm c),h7 (Ne.symm d)]
def Dy(d:Base Z G u t)(aj:G.l=28\/G.l=34\/G.l=40)(h:(G.s k).da=false):G.l=28\/G.l=34:=by
 rcases aj with aj|aj|aj
 .exact .inl aj
 .exact .inr aj
 .exfalso
  have:=d.b9.cnt;rw[aj]at this;have c:dF 40=2:=rfl;rw[c]at this;cases k
  .rw[h]at this
   rcases e:(G.s true).da with _|_<;>rw[e]at this<;>simp at this
  .rw[h]at this
   rcases e:(G.s false).da with _|_<;>rw[e]at this<;>simp at this
def xH{g:Goroutine}{v:Value}(h:g.dying=none):Go.Conc.served g v=(S6 (g.frame.finish v) g.callers):=by obtain⟨fr,cs,st,c,off⟩:=g;dsimp only at h;subst h;rfl
def eD.OU(h:eD X Z G gs u t m bt cb q cx rw du)(H:(G.s k).c≠.un)(r:gs[Z.wk k]?=some g)(ad:g.status=.running){v:Nat×Nat}{x:bA}{n:Nat}(C:g7 (G.s k) ⟨.out (.snd v),(G.s k).bb⟩)(l:cB (fP (G.bP k)) Z G (Z.wk k) (.snd v) [] x g u n j)(F:At (fP (G.bP k)) a (.snd v) x)(aG:n=a+1)(Y:(∀(n:Nat) own b o,(ib (G.bP k))[n]?=some (own,b,o)->G.b1 b≠Z.wk k)/\kA Z G (Z.wk k) u v):lz X Z gs u sl t (Z.wk k) (h' Z m bt cb q cx rw du):=by
 have E:=h.base.ap.pos;obtain⟨aQ,aR,c3,aS,ah⟩:=h.base.cfg k;obtain⟨aT,S,aj,ak⟩:=h.dN k H;rw[r]at S;obtain rfl:=bD S;obtain⟨aV,aN⟩:=By ak ad;have aL:(G.s k).da=false:=by rw[<-C.da];rfl
 have av:(G.s k).cR=.no:=by rw[<-C.cR];rfl
 have aa:=vL h.base (xg h.base av);obtain⟨aU,aM⟩:=Ha (k:=k) c3 ah F;obtain⟨st,off,ax⟩:=l.shape;have ae:stepG aK (Z.wk k == 0) g u=.comm (S6 x.1 (x.2++[])) #[scase Z.ch (j5 k v) (.tuple #[])] true .send u:=by rw[ax];exact aM _ _ _ _ _
 obtain⟨al,c,M,ag,aY,aX,z,B,ao,ap⟩:=h.main;cases ap with
 |run aJ=>
  have R:partners (gs.setIfInBounds (Z.wk k) ph) Z.ch false = []:=by
   refine partners_nil λi D K=>?_
   rcases getElem?_stand gs _ i D K with⟨_,rfl⟩|⟨aH,w⟩
   .rfl
   .by_cases T:i=0
    .subst T
     rw[z]at w;obtain rfl:=bD w;exact offersAt_of_not_blocked (by rw[aJ];simp) _ _
    .exact h.Eg T w _
  have af:=crowd_waits (sl:=sl) r ae (λai au=>by
   have:ai=scase Z.ch (j5 k v) (.tuple #[]):=by simpa using au
   rw[this];exact ways_send_none aa (Nat.zero_le _) R)
  have Q:MemOp.ofEvents (Z.wk k) g.frame.fn g.frame.place #[]=#[]:=by rw[ofEvents_eq];simp
  rw[Q]at af;refine h.Fa (g':=parked (S6 x.1 (x.2++[])) #[scase Z.ch (j5 k v) (.tuple #[])] .send) k H r ad aj l.fr.symm l.cs.symm l.m'.symm ?_ af;exact .snd v x n j a ⟨_,rfl⟩ C ⟨l.on,l.le,rfl,rfl,rfl,l.mem,l.own⟩ F aG Y rfl aN
 |ri am aw aA aI ar aW=>
  obtain⟨f,J⟩:=aw;have aB:=Dy h.base aA aL;have R:partners (gs.setIfInBounds (Z.wk k) ph) Z.ch false = [(0,0)]:=by
   have az:(gs.setIfInBounds (Z.wk k) ph)[0]?=some al:=by rw[h7 (ji E k)];exact z
   rw[partners_one az λi D L K=>?_]
   .rw[J,offersAt_parked_recv,if_pos rfl];rfl
   .rcases getElem?_stand gs _ i D K with⟨_,rfl⟩|⟨aH,w⟩
    .rfl
    .exact h.Eg L w _
  have U:=z;rw[J]at U;have P:=crowd_send_meets (sl:=sl) r ae aa (Ne.symm (ji E k)) U R;rw[finishComm_send,finishComm_recv]at P;have Q:MemOp.ofEvents (Z.wk k) g.frame.fn g.frame.place #[]=#[]:=by rw[ofEvents_eq];simp
  rw[Q,Array.empty_append]at P;have I:f.frame=ag.1/\f.callers=ag.2++Z.base/\f.dying=none:=by have:=B.at_.fr;have V:=B.at_.cs;have W:=B.at_.m';rw[J]at this V W;exact⟨this,V,W⟩
  have aD:=bu z;have aE:=bu r;obtain⟨dd,ga,aP,aO,aq,aC⟩:=h.meet (k:=k) (su:=Go.Conc.served (S6 x.1 (x.2++[])) undef) (sr:=Go.Conc.served f (recvd true (j5 k v) true)) (bm:=(gs.setIfInBounds 0 (Go.Conc.served f (recvd true (j5 k v) true))).setIfInBounds (Z.wk k) (Go.Conc.served (S6 x.1 (x.2++[])) undef)) (d:=u.drawn)
   H C aB l F Y B ar aI ao (by rw[xH rfl];simp) (by
    rw[xH I.2.2,I.1,I.2.1];have:recvd true (j5 k v) true=oP (some (k,v)):=by cases k<;>rfl
    rw[this]) aF (by rw[h7 (ji E k),iO aD]) (by rw[iO (by simpa using aE)]) (λi L ay=>GK ay L) (cap:=0) (x:={g:=Z.wk k,fn:=x.1.fn,pos:=x.1.place,act:=.send Z.ch (dF G.l)}) (y:={g:=0,fn:=f.frame.fn,pos:=f.frame.place,act:=.recv Z.ch (dF G.l) 0}) (p:={g:=Z.wk k,fn:=x.1.fn,pos:=x.1.place,act:=.sendDone Z.ch (dF G.l)}) (g2:={g:=0,fn:=f.frame.fn,pos:=f.frame.place,act:=.recvDone Z.ch (dF G.l)}) ⟨rfl,rfl⟩ rfl rfl ⟨rfl,rfl⟩
  exact⟨_,_,_,_,dd,ga,cb,q,true,aP,aO,P,aq,uD aC rfl⟩
def eD.Ie{bp:fR}{b7:Mem}{T:bA}{c9 bw:Nat}(h:eD X Z G gs u t m bt cb q cx rw du)(H:gs[0]?=some g)(aq:stepG aK true g u=.go g' aC es)(B:Base Z aB aC (t++MemOp.ofEvents 0 g.frame.fn g.frame.place es))(M:g'.status=.running)(R:aB.s=G.s)(ag:aB.k=G.k)(C:aB.bP=G.bP)(Q:aB.cy=G.cy)(r:∀i,i≠0->e0 Z G aB i u aC)(hm:jl Z aB g' aC bp b7 T c9 bw)(ak:aB.ms=G.ms)(aj:aB.m=G.m)(ai:c9*500+bw<m)(K:(aB.l<26↔G.l<26)/\(aB.l<27↔G.l<27)):lz X Z gs u sl t 0 (h' Z m bt cb q cx rw du):=by
 have o:=h.base.ap.pos;have ao:=runT_crowd_go (P:=aK) (sl:=sl) H (show stepG aK (0 == 0) g u=_ from aq);have F:=kS.woken Z g g' aC (.inl M);have ae:∀i,i≠0->Deaf (t++MemOp.ofEvents 0 g.frame.fn g.frame.place es) i=Deaf t i:=λi af=>Deaf_other t (g':=0) (Ne.symm af) _ λop al=>by obtain⟨e,_,rfl⟩:=Go.Conc.mem_ofEvents al;rfl
 obtain⟨aw,ap⟩:=sT (P:=λk b=>∃c,((gs.map (woken aK g g' aC)).setIfInBounds 0 g')[Z.wk k]?=some c/\fz X Z aB k c aC (aB.s k) (bt k)/\iJ Z aB k c aC true (bt k).1 b) (D:=λk=>(aB.s k).c≠.un) λk J=>by
  rw[R]at J;obtain⟨gk,ar,au,av⟩:=h.dN k J;have S:aB.s k=G.s k:=by rw[R]
  obtain⟨d,f,j,l,W⟩:=av.lp F B S (by rw[C]) (by rw[Q]) (r _ (ji o k)) (.inl ak) (λ_=>rfl);refine⟨d,woken aK g g' aC gk,by rw[so (ji o k),ar];rfl,?_,f⟩;rw[S];exact au.rely (by rw[C]) (by rw[Q]) (r _ (ji o k)) j l W λE=>by rw[F.rest gk (.inr E)];exact E
 obtain⟨w,am⟩:∃w,∀p,aB.k=.at p->∃c,((gs.map (woken aK g g' aC)).setIfInBounds 0 g')[Z.N+2]?=some c/\lr Z aB p c aC cb w:=by
  rw[ag];rcases ah:G.k with _|p
  .exact⟨false,λp hp=>by cases hp⟩
  .obtain⟨Y,f,j⟩:=h.eu p ah
   obtain⟨d,l⟩:=j.lp F (r _ U) (.inl aj);exact⟨d,λia hp=>by cases hp;exact⟨woken aK g g' aC Y,by rw[so U,f];rfl,l⟩⟩
 refine⟨aB,_,aC,_,c9*500+bw,bt,cb,q,true,aw,w,ao,⟨B,?_,⟨g',bp,b7,T,c9,bw,ug H,hm,rfl,.run M⟩,ap,am,λi ax aa ad I=>?_⟩,uD ai rfl⟩
 .have:=h.size
  simp only[Array.size_setIfInBounds,Array.size_map];rw[this];simp only[K.1,K.2]
 .rw[so U]at I
  obtain⟨z,V,rfl⟩:=Option.map_eq_some_iff.1 I;have L:=h.old i z aa ad V;rw[F.rest z L.status,ae i U];exact L
end
section
variable{X:et}{Z:Stat}[hi X Z]{G aB:bX}{gs bm:Array Goroutine}{u aC w:World}{t bh:Trace}{k:Bool}{g g':Goroutine}{m dd cb iz:Nat}{bt:Bool->gQ X.Q}{q:Nat->Nat}{cx du:Bool}{hS rw:Bool->Bool}{sl:Option (Nat×Nat)}{es:Array Event}{p ia:gO}{c:fR}{M:Mem}{x:bA}{n j a:Nat}
def oF(c:fR):mi:=⟨c.W,c.cg,c.jC,c.bc,c.jP,c.ch,c.T,1⟩
def bX.hT(G:bX)(Z:Stat)(c:fR):bX:={G with s:=rG G.s true ⟨.out .b6,false⟩,l:=26,bP:=hY G.bP true (oF c),ro:=λg b=>G.ro g b\/(g=Z.wk true/\(b=c.jC\/b=c.jP))}
def bX.jQ(G:bX):bX:={G with k:=.at .bx,l:=27}
def AM(t:Trace)(fn:FuncId)(pos:String)(x y:MemOp):t++((MemOp.ofEvents 0 fn pos #[]).push x).push y=t++#[x,y]:=by rw[ofEvents_eq];simp
def LW(d:M=lf c 25):M[1]?=some (false,c.bc,.cells #[pt c.T] 76 (0,0))/\M[3]?=some (false,c.cg,.cells #[.chan (some c.ch)] 199 (0,0))/\M[6]?=some (true,c.jC,.cells #[ah 1] 3 (0,0))/\M[7]?=some (true,c.jP,.cells dC 31 (0,0)):=by subst d;exact⟨rfl,rfl,rfl,rfl⟩
def eD.Pe(h:eD X Z G gs u t m bt cb q cx rw du)(ag:G.l=25)(d:gs[0]?=some g)(hm:jl Z G g u c M x n j)(bc:At (hP Z) a ⟨25,c,M⟩ x)(bO:n=a+1)(bN:m=n*500+j):lz X Z gs u sl t 0 (h' Z m bt cb q cx rw du):=by
 have r:=h.base;have V:=r.ap.pos;obtain⟨f1,f2,f3,f4,f5,f6⟩:=hm.ok.cfg;have aq:=hm.ok.early U;rw[ag]at aq;obtain⟨aS,aT,al,am⟩:=LW aq;have K:=hm.at_.mem;have au:=hm.at_.own;have R:=au 6 _ _ _ al;have S:=au 7 _ _ _ am;have bo:=gL K al;have bp:=gL K am;have aj:(G.s true).c=.un:=r.b9.l9.1 U;have aL:G.k=.un:=r.b9.mS.1 U;have aw:gs.size=Z.N+1:=by have:=h.size;rw[if_pos U]at this;exact this
 have es:∀j,(G.hT Z c).s j=if j=true then⟨.out .b6,false⟩else G.s j:=λ_=>rfl
 have bB:(G.s true).role=.idle:=by unfold ck.role;rw[aj]
 have aX:(G.s true).cR=.no:=by unfold ck.cR;rw[aj]
 have bD:(G.s true).da=false:=by unfold ck.da;rw[aj]
 have deaf1:(G.s true).deaf=0:=by unfold ck.deaf;rw[aj]
 have av:∀j,((G.hT Z c).s j).role=(G.s j).role:=λj=>by
  rw[es];split
  .rename_i H;subst H;rw[bB];rfl
  .rfl
 have ar:∀j,((G.hT Z c).s j).cR=(G.s j).cR:=λj=>by
  rw[es];split
  .rename_i H;subst H;rw[aX];rfl
  .rfl
 have aW:g5 (G.hT Z c):=by
  obtain⟨aU,aE,a3,a4,a5,bK,aV,bL,a9⟩:=r.b9;refine⟨by rw[av,av];exact aU,?_,by rw[ar,ar];exact a3,?_,?_,?_,aV,(by decide:17<=26),λj H=>?_⟩
  .rw[ar,ar]
   rw[ag]at aE;exact aE
  .show dF 26=_
   rw[ag,bD]at a4;rw[es,es];exact a4
  .rw[es,if_pos rfl]
   show(26:Nat)<26↔_;exact⟨λh=>absurd h a6,λh=>by cases h⟩
  .show(26:Nat)<27↔G.k=.un
   exact⟨λ_=>aL,λ_=>a6⟩
  .rw[es]at H
   split at H
   .cases H
   .exact a9 j H
 have bJ:ea Z (G.hT Z c) u:=by obtain⟨bF,w2,w3,bG,bH⟩:=r.ww;refine⟨bF,w2,?_,bG,bH⟩;show u.heap[Z.ch]?=some (.chan 0 #[] G.k.shut (dF 26) (dF 26) false);rw[ag]at w3;exact w3
 have sW:∀g b,G.ro g b->(G.hT Z c).ro g b:=λg b L=>.inl L
 have aG:Apart Z (G.hT Z c):=by
  obtain⟨bq,br,bs,bv,bx,aR⟩:=r.ap;refine⟨bq,br,bs,bv,λb Q=>?_,λg=>⟨?_,?_⟩⟩
  .obtain⟨q1,ak,ax,bz,bA⟩:=bx b Q
   refine⟨q1,ak,ax,bz,λg d=>?_⟩;rcases d with d|⟨_,rfl|rfl⟩
   .exact bA g d
   .have:=(R.2.2 rfl).1;omega
   .have:=(S.2.2 rfl).1;omega
  .rintro(d|⟨_,e|e⟩)
   .exact(aR g).1 d
   .exact R.1.2.1 e.symm
   .exact S.1.2.1 e.symm
  .rintro(d|⟨_,e|e⟩)
   .exact(aR g).2 d
   .exact R.1.2.2 e.symm
   .exact S.1.2.2 e.symm
 have ee:eX Z (G.hT Z c)=eX Z G:=by unfold eX;rw[av,av];rfl
 have aP:∀b,(G.hT Z c).ro (Z.wk true) b->G.b1 b=0:=λb Q=>by
  rcases Q with Q|⟨_,rfl|rfl⟩
  .exact r.rn _ b (ji V true) Q
  .exact(R.2.2 rfl).1
  .exact(S.2.2 rfl).1
 have bj:∀g,hy Z (G.hT Z c) g↔(hy Z G g\/g=eF.num Z (.dN true)):=λg=>by
  constructor
  .rintro(e|⟨k,e,J⟩|⟨e,J⟩)
   .exact .inl (.inl e)
   .cases k
    .exact .inl (.inr (.inl ⟨false,e,J⟩))
    .exact .inr e
   .exact .inl (.inr (.inr ⟨e,J⟩))
  .rintro((e|⟨k,e,J⟩|⟨e,J⟩)|e)
   .exact .inl e
   .cases k
    .exact .inr (.inl ⟨false,e,J⟩)
    .exact absurd aj J
   .exact .inr (.inr ⟨e,J⟩)
   .exact .inr (.inl ⟨true,e,λh=>by cases h⟩)
 obtain⟨⟨aN,bM⟩,bl⟩:=bc.spawn (po Z) (f:=.func 95) (c:=#[pt c.W,pt c.cg,pt c.jC,pt c.bc,pt c.jP]) (a:=#[]) (iA:=[6,7]) (to:=⟨26,c,oZ M [6,7]⟩) bI;obtain⟨st,off,bi⟩:=hm.at_.shape;have aC:=runT_crowd_spawn (P:=aK) (sl:=sl) d (show stepG aK (0 == 0) g u=_ by rw[bi];exact bl true _ st off u);have bE:e5 Z (G.hT Z c) (t++#[({g:=0,fn:=g.frame.fn,pos:=g.frame.place,act:=.go gs.size}:MemOp),{g:=gs.size,fn:=Tryz.prog.funcs.size,pos:=g.frame.place,act:=.start}]) u.heap.size:=by
  refine r.dy.spawn (aB:=G.hT Z c) (x:={g:=0,fn:=g.frame.fn,pos:=g.frame.place,act:=.go gs.size}) (y:={g:=gs.size,fn:=Tryz.prog.funcs.size,pos:=g.frame.place,act:=.start}) (cl:=.dN true) V (by rw[ag];rfl) rfl aF deaf1 rfl sW (λg b ai d=>?_) aP aG.lU (λj=>?_) ⟨rfl,id,id⟩ bj ee ⟨rfl,by rw[aw];rfl⟩ ⟨by rw[aw];rfl,rfl⟩
  .rcases d with d|⟨e,_⟩
   .exact d
   .exact absurd e ai
  .rw[es]
   split
   .rename_i H;subst H
    exact⟨deaf1.symm,(λh=>by cases h),λh=>by cases h⟩
   .exact⟨rfl,id,id⟩
 have aI:Base Z (G.hT Z c) u (t++#[({g:=0,fn:=g.frame.fn,pos:=g.frame.place,act:=.go gs.size}:MemOp),{g:=gs.size,fn:=Tryz.prog.funcs.size,pos:=g.frame.place,act:=.start}]):=by
  refine⟨bJ,aW,aG,bE,λg b d=>?_,r.s0,λb Q ba=>(r.hold b Q ba).imp _root_.id λ⟨w,i,C,ay⟩=>⟨w,i,C,.inl ay⟩,r.old,r.o4,r.iA.grow sW,λg b bh d=>?_,λk=>?_⟩
  .rcases d with d|⟨_,rfl|rfl⟩
   .exact r.oc g b d
   .exact bo
   .exact bp
  .rcases d with d|⟨_,rfl|rfl⟩
   .exact r.rn g b bh d
   .exact(R.2.2 rfl).1
   .exact(S.2.2 rfl).1
  .cases k
   .exact r.cfg false
   .exact⟨f5,f1,f3,f4,rfl⟩
 have L:∀i,i≠0->e0 Z G (G.hT Z c) i u u:=λi af=>⟨bg,λ_ _=>rfl,sW,λg b _ d=>by
  rcases d with d|⟨_,rfl|rfl⟩
  .exact .inl d
  .exact .inr (by rw[(R.2.2 rfl).1];exact Ne.symm af)
  .exact .inr (by rw[(S.2.2 rfl).1];exact Ne.symm af),λ_ _ _ _ _ _ _=>rfl,⟨_,_,_,_,r.ww.T⟩⟩
 have a7:oZ M [6,7]=lf c 26:=by rw[aq];rfl
 have aM:gN (lf c 26) u/\Own Z (G.hT Z c) 0 (lf c 26):=by
  have ao:∀(i:Nat) own b o,(lf c 26)[i]?=some (own,b,o)->∃l,M[i]?=some (l,b,o)/\(own=true->l=true/\b≠c.jC/\b≠c.jP):=by
   intro i own b o e;have hd:∀(i:Nat) own b o,M[i]?=some (own,b,o)->i≠6->i≠7->b≠c.jC/\b≠c.jP:=λi own b o e az aA=>⟨K.fL i 6 _ _ _ _ _ _ e al az,K.fL i 7 _ _ _ _ _ _ e am aA⟩
   have E:∀l,M[i]?=some (l,b,o)->i≠6->i≠7->own=l->∃l,M[i]?=some (l,b,o)/\(own=true->l=true/\b≠c.jC/\b≠c.jP):=λl T az aA ap=>⟨l,T,λh=>⟨by rw[<-ap];exact h,hd i l b o T az aA⟩⟩
   rw[aq]at E ⊢;rcases i with _|_|_|_|_|_|_|_|i
   .exact E own e a6 a6 rfl
   .exact E own e a6 a6 rfl
   .exact E own e a6 a6 rfl
   .exact E own e a6 a6 rfl
   .exact E own e a6 a6 rfl
   .exact E own e a6 a6 rfl
   .have e:some (false,c.jC,Obj.cells #[ah 1] 3 (0,0))=some (own,b,o):=e
    cases e;exact⟨true,rfl,λh=>by cases h⟩
   .have e:some (false,c.jP,Obj.cells dC 31 (0,0))=some (own,b,o):=e
    cases e;exact⟨true,rfl,λh=>by cases h⟩
   .have e:(lf c 26)[i+8]?=_:=e
    simp[lf,nz]at e
  refine⟨⟨λi own b o e=>?_,λi j own b o l W aD e E ai=>?_⟩,λi own b o e=>?_⟩
  .obtain⟨_,w,_⟩:=ao i own b o e
   exact K.has i _ _ _ w
  .obtain⟨_,w,_⟩:=ao i own b o e
   obtain⟨_,C,_⟩:=ao j l W aD E;exact K.fL i j _ _ _ _ _ _ w C ai
  .obtain⟨l,w,C⟩:=ao i own b o e
   obtain⟨q1,ak,ax⟩:=au i _ _ _ w;refine⟨q1,ak.imp _root_.id (sW _ _),λh=>?_⟩;obtain⟨T,ap,a1⟩:=C h;refine⟨(ax T).1,λi af L=>?_⟩;rcases L with L|⟨_,e|e⟩
   .exact(ax T).2 i af L
   .exact ap e
   .exact a1 e
 have a2:jl Z (G.hT Z c) (S6 (x.1.finish undef) (x.2++Z.base)) u c (lf c 26) (x.1.finish undef,x.2) a 400:=by
  refine⟨⟨?_,bg,rfl,rfl,rfl,aM.1,aM.2⟩,?_⟩
  .rw[a7]at aN
   exact aN
  .exact vZ (λk=>by
    rw[es];split
    .rfl
    .exact y8 r U k) (show(26:Nat)<=28 by decide) hm.ok.cfg (λ_=>rfl) rfl
 have Y:∀(i:Nat) own b o,(ib (oF c))[i]?=some (own,b,o)->own=false/\∃I l,M[I]?=some (l,b,o)/\(G.hT Z c).ro (Z.wk true) b/\I = [3,6,1,7].getD i 0:=by
  intro i own b o e;rcases i with _|_|_|_|i
  .have e:some (false,c.cg,Obj.cells #[.chan (some c.ch)] 199 (0,0))=some (own,b,o):=e
   cases e;exact⟨rfl,3,_,aT,.inl (r.iA.Ax true _ (.inl f4)),rfl⟩
  .have e:some (false,c.jC,Obj.cells #[ah 1] 3 (0,0))=some (own,b,o):=e
   cases e;exact⟨rfl,6,_,al,.inr ⟨rfl,.inl rfl⟩,rfl⟩
  .have e:some (false,c.bc,Obj.cells #[pt c.T] 76 (0,0))=some (own,b,o):=e
   cases e;exact⟨rfl,1,_,aS,.inl (r.iA.Ax true _ (.inr f6)),rfl⟩
  .have e:some (false,c.jP,Obj.cells dC 31 (0,0))=some (own,b,o):=e
   cases e;exact⟨rfl,7,_,am,.inr ⟨rfl,.inr rfl⟩,rfl⟩
  .simp[ib]at e
 have aQ:∀{i:Nat} {z:Bool×Nat×Obj},(ib (oF c))[i]?=some z->i<4:=λe=>by have:=(List.getElem?_eq_some_iff.1 e).1;simpa [ib]using this
 have bb:fz X Z (G.hT Z c) true (bW (mV (oF c)) []) u ((G.hT Z c).s true) (if hQ .b6 then 3 else 1,(bt true).2.1,30*500+400):=by
  rw[es,if_pos rfl];refine .out (p:=.b6) (x:=mV (oF c)) (bt true).2.1 rfl ⟨⟨_,G' c.W c.cg c.jC c.bc c.jP c.ch c.T 1,rfl⟩,bg,rfl,rfl,rfl,⟨λi own b o e=>?_,λi j own b o l W aD e E ai=>?_⟩,λi own b o e=>?_⟩ (λ_=>rfl) (λi own b o e=>?_) (λv e=>by cases e)
  .obtain⟨_,I,l,w,_⟩:=Y i own b o e
   exact K.has I _ _ _ w
  .obtain⟨_,I,bP,w,_,q1⟩:=Y i own b o e
   obtain⟨_,bw,bQ,C,_,ak⟩:=Y j l W aD E;refine K.fL I bw _ _ _ _ _ _ w C λhe=>?_
   have T:=aQ e;have ap:=aQ E;rw[q1,ak]at he;rcases i with _|_|_|_|i<;>rcases j with _|_|_|_|j<;>first|omega|(simp at he;done)|exact absurd rfl ai
  .obtain⟨ad,I,l,w,C,_⟩:=Y i own b o e
   exact⟨(au I _ _ _ w).1,.inr C,λh=>by rw[ad]at h;cases h⟩
  .obtain⟨_,I,l,w,C,_⟩:=Y i own b o e
   show G.b1 b≠Z.wk true;rw[aP b C];exact Ne.symm (ji V true)
 have bd:bW (mV (oF c)) []=((S6 ({(default:Frame)with fn:=(hP Z).P.funcs.size,defers:=[⟨.fn (.func 95) #[pt c.W,pt c.cg,pt c.jC,pt c.bc,pt c.jP],#[]⟩],mode:=.panicking [goexitEntry]}) []):Goroutine):=rfl;rw[<-bd]at aC;obtain⟨bm,ae⟩:∃bm,bm=(gs.setIfInBounds 0 ((S6 (x.1.finish undef) (x.2++Z.base)):Goroutine)).push (bW (mV (oF c)) []):=⟨_,rfl⟩
 rw[<-ae]at aC;have bn:=bu d;have b6:(gs.setIfInBounds 0 ((S6 (x.1.finish undef) (x.2++Z.base)):Goroutine)).size=gs.size:=aF;have aY:bm[0]?=some (S6 (x.1.finish undef) (x.2++Z.base)):=by rw[ae,iq,if_neg (by rw[b6];omega),iO bn]
 have aH:∀i,i≠0->i<gs.size->bm[i]?=gs[i]?:=λi ad af=>by rw[ae,iq,if_neg (by rw[b6];omega),h7 (Ne.symm ad)]
 have aZ:bm[Z.wk true]?=some (bW (mV (oF c)) []):=by rw[ae,iq,if_pos (by rw[b6,aw];rfl)]
 have F:=kS.id Z u;have bf:∀i,Deaf (t++#[({g:=0,fn:=g.frame.fn,pos:=g.frame.place,act:=.go gs.size}:MemOp),{g:=gs.size,fn:=Tryz.prog.funcs.size,pos:=g.frame.place,act:=.start}]) i=Deaf t i:=λi=>by
  refine oI (B:=0) (λop aO=>?_) i;simp only[List.mem_toArray,List.mem_cons,iN,or_false]at aO;rcases aO with rfl|rfl
  .exact⟨rfl,aF,aF,trivial⟩
  .exact⟨rfl,aF,aF,trivial⟩
 obtain⟨bC,bk⟩:=sT (P:=λj b=>∃aa,bm[Z.wk j]?=some aa/\fz X Z (G.hT Z c) j aa u ((G.hT Z c).s j) (hY bt true (if hQ .b6 then 3 else 1,(bt true).2.1,30*500+400) j)/\iJ Z (G.hT Z c) j aa u true (hY bt true (if hQ .b6 then 3 else 1,(bt true).2.1,30*500+400) j).1 b) (D:=λj=>((G.hT Z c).s j).c≠.un) λj H=>by
  cases j with
  |true=>exact⟨true,_,aZ,bb,.run rfl (Nat.succ_ne_zero _)⟩
  |false=>
   obtain⟨aa,w,C,ay⟩:=h.dN false H;obtain⟨W,s1,s2,bR,bS⟩:=ay.lp (aB:=G.hT Z c) (fH:=true) F aI rfl rfl rfl (L _ (ji V false)) (.inl rfl) (λ_=>rfl);exact⟨W,aa,by rw[aH _ (ji V false) (bu w)];exact w,C.rely (dP:=G.hT Z c) rfl rfl (L _ (ji V false)) rfl rfl rfl _root_.id,s1⟩
 refine⟨G.hT Z c,bm,u,_,a*500+400,hY bt true (if hQ .b6 then 3 else 1,(bt true).2.1,30*500+400),cb,q,true,bC,du,aC,?_,uD (dd:=a*500+400) U rfl⟩;rw[AM];refine⟨aI,?_,⟨_,c,lf c 26,_,a,400,aY,a2,rfl,.run rfl⟩,bk,λp hp=>?_,λi a0 ad a8 aJ=>?_⟩
 .rw[ae,Array.size_push,b6,aw];rfl
 .have hp:G.k=.at p:=hp
  rw[aL]at hp;cases hp
 .rw[aH i U U]at aJ
  have:=h.old i a0 ad a8 aJ;rw[<-bf i]at this;exact this
def eD.Pf(h:eD X Z G gs u t m bt cb q cx rw du)(C:G.l=26)(E:gs[0]?=some g)(hm:jl Z G g u c M x n j)(aw:At (hP Z) a ⟨26,c,M⟩ x)(aW:n=a+1)(aV:m=n*500+j):lz X Z gs u sl t 0 (h' Z m bt cb q cx rw du):=by
 have d:=h.base;have Y:=d.ap.pos;obtain⟨f1,f2,f3,f4,f5,f6⟩:=hm.ok.cfg;have L:=hm.ok.early U;rw[C]at L;have R:M[3]?=some (false,c.cg,.cells #[.chan (some c.ch)] 199 (0,0)):=by rw[L];rfl
 have ad:=hm.at_.mem;have af:=hm.at_.own;have ay:(G.s true).c≠.un:=λe=>absurd (d.b9.l9.2 e) U
 have r:G.k=.un:=d.b9.mS.1 U;have H:gs.size=Z.N+2:=by have:=h.size;rw[if_neg U,if_pos U]at this;exact this
 have ak:g5 G.jQ:=by
  obtain⟨ai,I,a3,a4,a5,aR,aj,aS,a9⟩:=d.b9;rw[C]at I;rw[r]at I a3;refine⟨ai,I,a3,?_,?_,?_,aj,(by decide:17<=27),a9⟩
  .show dF 27=_
   rw[C]at a4;exact a4
  .show(27:Nat)<26↔(G.s true).c=.un
   exact⟨λh=>absurd h a6,λh=>absurd h ay⟩
  .show(27:Nat)<27↔dE.at .bx=.un
   exact⟨λh=>absurd h a6,λh=>by cases h⟩
 have ah:ea Z G.jQ u:=by obtain⟨aO,w2,w3,aP,aQ⟩:=d.ww;refine⟨aO,w2,?_,aP,aQ⟩;rw[C,r]at w3;exact w3
 have aE:∀g,hy Z G.jQ g↔(hy Z G g\/g=eF.num Z .eu):=λg=>by
  constructor
  .rintro(e|⟨k,e,l⟩|⟨e,l⟩)
   .exact .inl (.inl e)
   .exact .inl (.inr (.inl ⟨k,e,l⟩))
   .exact .inr e
  .rintro((e|⟨k,e,l⟩|⟨e,l⟩)|e)
   .exact .inl e
   .exact .inr (.inl ⟨k,e,l⟩)
   .exact absurd r l
   .exact .inr (.inr ⟨e,λh=>by cases h⟩)
 obtain⟨⟨aH,aU⟩,aJ⟩:=aw.spawn (po Z) (f:=.func 97) (c:=#[pt c.W,pt c.cg]) (a:=#[]) (iA:=[]) (to:=⟨27,c,M⟩) bI;obtain⟨st,off,aC⟩:=hm.at_.shape;have Q:=runT_crowd_spawn (P:=aK) (sl:=sl) E (show stepG aK (0 == 0) g u=_ by rw[aC];exact aJ true _ st off u);have aN:e5 Z G.jQ (t++#[({g:=0,fn:=g.frame.fn,pos:=g.frame.place,act:=.go gs.size}:MemOp),{g:=gs.size,fn:=Tryz.prog.funcs.size,pos:=g.frame.place,act:=.start}]) u.heap.size:=by refine d.dy.spawn (aB:=G.jQ) (x:={g:=0,fn:=g.frame.fn,pos:=g.frame.place,act:=.go gs.size}) (y:={g:=gs.size,fn:=Tryz.prog.funcs.size,pos:=g.frame.place,act:=.start}) (cl:=.eu) Y (by rw[C];rfl) rfl aF (by show G.k.deaf=0;rw[r];rfl) rfl (λ_ _ h=>h) (λg b _ E=>E) (λb ax=>d.rn _ b (by show Z.N+2≠0;omega) ax) (d.ap.same (aB:=G.jQ) rfl rfl).lU (λj=>⟨rfl,_root_.id,_root_.id⟩) ⟨by rw[r];rfl,(λh=>by cases h),λ_=>by rw[r];rfl⟩ aE rfl ⟨rfl,by rw[H];rfl⟩ ⟨by rw[H];rfl,rfl⟩
 have W:Base Z G.jQ u (t++#[({g:=0,fn:=g.frame.fn,pos:=g.frame.place,act:=.go gs.size}:MemOp),{g:=gs.size,fn:=Tryz.prog.funcs.size,pos:=g.frame.place,act:=.start}]):=d.rest (aB:=G.jQ) rfl rfl rfl rfl ah ak aN;have ag:∀i,e0 Z G G.jQ i u u:=λi=>e0.same rfl rfl rfl (λ_ _ _ _=>rfl) ah
 have au:jl Z G.jQ (S6 (x.1.finish undef) (x.2++Z.base)) u c M (x.1.finish undef,x.2) a 400:=by
  refine⟨⟨aH,bg,rfl,rfl,rfl,ad,af⟩,?_⟩;refine vZ (λk=>y8 d U k) (show(27:Nat)<=28 by decide) hm.ok.cfg (λhle=>?_) ?_
  .have:G.jQ.l=27:=rfl
   omega
  .rw[L];rfl
 have ar:lr Z G.jQ .bx (bW (born 97 #[pt c.W,pt c.cg]) []) u (30*500+400+1) true:=by
  refine .run (born 97 #[pt c.W,pt c.cg]) 30 400 ⟨⟨_,by rw[f5,f4];exact IY Z.W Z.cg Z.ch,rfl⟩,bg,rfl,rfl,rfl,⟨λi own b o e=>?_,λi j own b o aY S aX e J aG=>?_⟩,λi own b o e=>?_⟩ rfl
  .rcases i with _|i
   .have e:some (false,Z.cg,Obj.cells #[.chan (some Z.ch)] 199 (0,0))=some (own,b,o):=e
    cases e;rw[<-f4,<-f3];exact ad.has 3 _ _ _ R
   .have e:(m9 ⟨Z.W,Z.cg,Z.ch⟩)[i+1]?=_:=e
    simp[m9]at e
  .rcases i with _|i<;>rcases j with _|j
   .exact absurd rfl aG
   .have J:(m9 ⟨Z.W,Z.cg,Z.ch⟩)[j+1]?=_:=J
    simp[m9]at J
   .have e:(m9 ⟨Z.W,Z.cg,Z.ch⟩)[i+1]?=_:=e
    simp[m9]at e
   .have e:(m9 ⟨Z.W,Z.cg,Z.ch⟩)[i+1]?=_:=e
    simp[m9]at e
  .rcases i with _|i
   .have e:some (false,Z.cg,Obj.cells #[.chan (some Z.ch)] 199 (0,0))=some (own,b,o):=e
    cases e;refine⟨?_,.inr d.iA.Fj,λh=>by cases h⟩;rw[<-f4];exact(af 3 _ _ _ R).1
   .have e:(m9 ⟨Z.W,Z.cg,Z.ch⟩)[i+1]?=_:=e
    simp[m9]at e
 have az:bW (born 97 #[pt c.W,pt c.cg]) []=((S6 ({(default:Frame)with fn:=(hP Z).P.funcs.size,defers:=[⟨.fn (.func 97) #[pt c.W,pt c.cg],#[]⟩],mode:=.panicking [goexitEntry]}) []):Goroutine):=rfl;rw[<-az]at Q;obtain⟨bm,z⟩:∃bm,bm=(gs.setIfInBounds 0 ((S6 (x.1.finish undef) (x.2++Z.base)):Goroutine)).push (bW (born 97 #[pt c.W,pt c.cg]) []):=⟨_,rfl⟩
 rw[<-z]at Q;have aL:=bu E;have b6:(gs.setIfInBounds 0 ((S6 (x.1.finish undef) (x.2++Z.base)):Goroutine)).size=gs.size:=aF;have ao:bm[0]?=some (S6 (x.1.finish undef) (x.2++Z.base)):=by rw[z,iq,if_neg (by rw[b6];omega),iO aL]
 have V:∀i,i≠0->i<gs.size->bm[i]?=gs[i]?:=λi K aT=>by rw[z,iq,if_neg (by rw[b6];omega),h7 (Ne.symm K)]
 have ap:bm[Z.N+2]?=some (bW (born 97 #[pt c.W,pt c.cg]) []):=by rw[z,iq,if_pos (by rw[b6,H])]
 have F:=kS.id Z u;have aA:∀i,Deaf (t++#[({g:=0,fn:=g.frame.fn,pos:=g.frame.place,act:=.go gs.size}:MemOp),{g:=gs.size,fn:=Tryz.prog.funcs.size,pos:=g.frame.place,act:=.start}]) i=Deaf t i:=λi=>by
  refine oI (B:=0) (λop ae=>?_) i;simp only[List.mem_toArray,List.mem_cons,iN,or_false]at ae;rcases ae with rfl|rfl
  .exact⟨rfl,aF,aF,trivial⟩
  .exact⟨rfl,aF,aF,trivial⟩
 obtain⟨aM,aI⟩:=sT (P:=λj b=>∃w,bm[Z.wk j]?=some w/\fz X Z G.jQ j w u (G.jQ.s j) (bt j)/\iJ Z G.jQ j w u true (bt j).1 b) (D:=λj=>(G.jQ.s j).c≠.un) λj aD=>by obtain⟨w,T,al,am⟩:=h.dN j aD;obtain⟨S,s1,s2,aZ,a0⟩:=am.lp (aB:=G.jQ) (fH:=true) F W rfl rfl rfl (ag _) (.inl rfl) (λ_=>rfl);exact⟨S,w,by rw[V _ (ji Y j) (bu T)];exact T,al.rely (dP:=G.jQ) rfl rfl (ag _) rfl rfl rfl _root_.id,s1⟩
 refine⟨G.jQ,bm,u,_,a*500+400,bt,30*500+400+1,q,true,aM,true,Q,?_,uD (dd:=a*500+400) U rfl⟩;rw[AM];refine⟨W,?_,⟨_,c,M,_,a,400,ao,au,rfl,.run rfl⟩,aI,λp hp=>?_,λi aq K av aa=>?_⟩
 .rw[z,Array.size_push,b6,H];rfl
 .have hp:dE.at .bx=.at p:=hp
  cases hp;exact⟨_,ap,ar⟩
 .rw[V i U U]at aa
  have:=h.old i aq K av aa;rw[<-aA i]at this;exact this
end
section
variable{X:et}{Z:Stat}[hi X Z]{G aB:bX}{gs bm:Array Goroutine}{u aC w:World}{t bh:Trace}{k:Bool}{g g':Goroutine}{m dd cb iz:Nat}{bt:Bool->gQ X.Q}{q:Nat->Nat}{cx du:Bool}{hS rw:Bool->Bool}{sl:Option (Nat×Nat)}{es:Array Event}{p ia:gO}{c:fR}{M:Mem}{x:bA}{n j a:Nat}{bF:Machine->Outcome->World->Trace->Prop}
def H3(a j N:Nat)(h:(a+1)*500+j<=N+1):a*500+400<=N:=by have c:(a+1)*500=a*500+500:=Nat.succ_mul a 500;rw[c]at h;generalize a*500=b at h ⊢;have d:b+500<=N+1:=cL (Nat.le_add_right _ _) h;exact Nat.le_of_succ_le_succ (cL (Nat.add_le_add_left (by decide:401<=500) b) d)
def NF(bP:mi)(bb:Bool):∀(N n j:Nat) (p:h5) (x:bA) (off:Option (Array CommCase×CommShape)),n*500+j<=N->j<=400->eJ (fP bP) n p j x->(p=.d6\/p=.fin)->∃q,QuitsD aK q (⟨.out p,bb⟩:ck).deaf ⟨x.1,x.2,.running,none,off⟩:=by
 intro N;induction N with
 |zero=>
  intro n j p x off h o d hp;obtain⟨z,B,_⟩:=d;cases n with
  |zero=>exact B.elim
  |succ n=>omega
 |succ N l=>
  intro n j p x off h o d hp;rcases d.step (pr bP)with⟨a,r,i⟩|⟨y,bw,C,f,c⟩
  .have hle:a*500+400<=N:=H3 a j N (r ▸ h)
   rcases hp with rfl|rfl
   .obtain⟨y,f,_,_,c⟩:=i.fix (pr bP) (show Edge.fix true false [] [.mark (.extern 112),.mark .enable] .fin∈(fP bP).cz .d6 from bI)
    obtain⟨q,g⟩:=l a 400 .fin y none hle bg f (.inr rfl);refine⟨q+1,.inr ⟨rfl,(S6 y.1 y.2),#[⟨.mark .enable,false,true⟩],λe he=>?_,λw=>?_,g⟩⟩
    .have:e=⟨.mark .enable,false,true⟩:=by simpa using he
     rw[this];rfl
    .have:=c false [] .running off w w _ (.mark (.mark (.nil w)))
     simp only[bW,List.append_nil]at this;exact this
   .obtain⟨u,c⟩:=i.done bI
    refine⟨1,.inr ⟨rfl,⟨x.1,[],.finished,none,none⟩,#[],λe he=>(by simp at he),λw=>?_,⟨rfl,rfl⟩⟩⟩;have:=c false .running off w;rw[u];exact this
  .obtain⟨q,g⟩:=l n bw p y none U U f hp
   refine⟨q+1,QuitsD.ctl rfl (λw=>?_) g⟩;have:=c false [] .running off w;simp only[bW,List.append_nil]at this;exact this
def ND(Z:Stat):∀(N n j:Nat) (x:bA) (off:Option (Array CommCase×CommShape)),n*500+j<=N->j<=400->eJ (jD Z) n .fin j x->∃q,QuitsD aK q 0 ⟨x.1,x.2,.running,none,off⟩:=by
 intro N;induction N with
 |zero=>
  intro n j x off f h c;obtain⟨z,p,_⟩:=c;cases n with
  |zero=>exact p.elim
  |succ n=>omega
 |succ N r=>
  intro n j x off f h c;rcases c.step (rK Z)with⟨a,B,g⟩|⟨y,bw,u,i,d⟩
  .obtain⟨o,d⟩:=g.done bI
   refine⟨1,.inr ⟨rfl,⟨x.1,[],.finished,none,none⟩,#[],λe he=>(by simp at he),λw=>?_,⟨rfl,rfl⟩⟩⟩;have:=d false .running off w;rw[o];exact this
  .obtain⟨q,l⟩:=r n bw y none U U i
   refine⟨q+1,QuitsD.ctl rfl (λw=>?_) l⟩;have:=d false [] .running off w;simp only[bW,List.append_nil]at this;exact this
structure ov(Z:Stat)(u:World)(r:Bool->Nat×Nat)(aY:Bool):Prop where
 calm:Calm Z.aL u
 old:∀b,b<Z.aL.heap.size->b≠Z.z.T->u.heap[b]?=Z.aL.heap[b]?
 G8:Z.W<u.heap.size
 T:u.heap[Z.z.T]?=some (.cells (eN Z.z 0 0 aY aY) 100 (0,0))
 O:u.heap[Z.O]?=some (.cells #[four (r false),four (r true)] 22 (0,0))
 res:∀k,∃l,u.heap[(r k).1]?=some (.cells (#[ah 2,ah 3,ah 5,ah 6]++l) 3 (0,0))/\(r k).2<=l.size+4
 new:Z.aL.heap.size<=Z.O/\(∀k,Z.aL.heap.size<=(r k).1)/\(r false).1≠(r true).1/\(∀k,(r k).1≠Z.O)/\Z.aL.heap.size<=Z.W/\Z.W≠Z.O/\∀k,(r k).1≠Z.W
def ov.at{r:Bool->Nat×Nat}{aY:Bool}(h:ov Z u r aY)(d:Nat):ov Z (u.at d) r aY:=⟨h.calm.trans (Calm.at u d),h.old,h.G8,h.T,h.O,h.res,h.new⟩
def eD.Hw(h:eD X Z G gs u t m bt cb q cx rw du)(Q:G.l=40)(B:G.k.shut=true)(hm:jl Z G g u c M x n j):ov Z u G.cy G.aY/\(∀k,∃p,(G.s k).c=.out p/\(p=.d6\/p=.fin))/\G.k=.at .fin:=by
 have d:=h.base;have l:G.k=.at .fin:=by
  rcases l:G.k with _|p
  .rw[l]at B;cases B
  .rw[l]at B
   cases p<;>first|rfl|cases B
 have wg:=d.b9.q6 l;obtain⟨_,Y,aa⟩:=vc wg;have pos:∀k,∃p,(G.s k).c=.out p/\(p=.d6\/p=.fin):=λk=>by
  have D:(G.s k).cR=.yes:=by cases k<;>assumption
  generalize W:G.s k=s at D;obtain⟨J,bb⟩:=s;cases J with
  |out p=>cases p<;>first|exact⟨_,rfl,.inl rfl⟩|exact⟨_,rfl,.inr rfl⟩|cases D
  |_=>cases D
 have R:∀k,(G.s k).da=true:=λk=>by obtain⟨p,e,hp⟩:=pos k;unfold ck.da;rw[e];rcases hp with rfl|rfl<;>rfl
 have o:∀k,kA Z G (Z.wk k) u (G.cy k):=λk=>by obtain⟨p,e,hp⟩:=pos k;obtain⟨T,ay,K,S⟩:=h.dN k (by rw[e];intro h;cases h);exact K.res e (by rcases hp with rfl|rfl<;>rfl)
 have role:∀k,(G.s k).role=.idle\/(G.s k).role=.fin:=λk=>by
  obtain⟨p,e,hp⟩:=pos k;unfold ck.role;rw[e];rcases V:(G.s k).bb with _|_
  .exact .inl rfl
  .exact .inr rfl
 have once:=d.b9.once;have r:G.mu=0/\G.ms=0/\G.bc=G.aY:=by have f:=once.mu;have w:=once.aY;have C:=once.bc;rcases role false with c8|c8<;>rcases role true with ay|ay<;>rw[c8,ay]at f w C<;>simp[jO,j2,tU,u2,jm.zA,jm.gC]at f w C<;>exact⟨f.1.symm,f.2.symm,C.trans w.symm⟩
 have z:gY Z G 0 Z.O:=by have:=hm.at_.own 2 _ _ _ hm.ok.out;exact⟨this.1,this.2.2 rfl⟩
 have F:=hm.at_.mem.has 2 _ _ _ hm.ok.out;have H:∀k,iB G c k=four (G.cy k):=λk=>by unfold iB;rw[R k,Q];rfl
 rw[H,H]at F;have I:∀b,b≠Z.z.T->(∃i,i<=Z.N+2/\gY Z G i b)\/(∃k,G.b1 b=Z.wk k)->Z.aL.heap.size<=b:=λb r L=>by
  refine Nat.le_of_not_lt λE=>?_
  rcases L with⟨i,P,hm⟩|⟨k,l⟩
  .exact d.Eh b E r i P hm
  .rcases d.hold b E r with e|⟨e,_⟩
   .rw[l]at e;have:=Si Z k;omega
   .rw[l]at e;exact ji d.ap.pos k e
 refine⟨⟨d.ww.calm,d.ww.old,bu d.ww.W,?_,F,λk=>(o k).cells,I _ z.1.1 (.inl ⟨0,U,z⟩),λk=>I _ (o k).gB.1 (.inr ⟨k,(o k).own⟩),λe=>?_,λk e=>?_,d.o4.1,Ne.symm z.1.2.1,λk=>(o k).gB.2.1⟩,pos,l⟩
 .have:=d.ww.T
  rw[r.1,r.2.1,r.2.2]at this;exact this
 .have f:=(o false).own
  have w:=(o true).own;rw[e,w]at f;exact absurd (Bw f) aF
 .have f:=(o k).own
  rw[e,z.2.1]at f;exact ji d.ap.pos k f.symm
def L4(q:Z.base=bx::rest)(B:Kept bx){r:Bool->Nat×Nat}{aY:Bool}(o:c.O=Z.O)(fin:∀bm aC bh,ov Z aC r aY->cc aK (λb=>Z.aH b\/b=Z.W) bm (S6 (eU Z.kd bx (.slice (some (box Z.O)) 2 2)) rest) aC bh 0->S7 aK bF bm aC bh):
 ∀(N n j:Nat) (x:bA),n*500+j<=N->j<=400->eJ (hP Z) n ⟨41,c,M⟩ j x->∀gs u t,ov Z u r aY->cc aK (λb=>Z.aH b\/b=Z.W) gs (S6 x.1 (x.2++Z.base)) u t 0->S7 aK bF gs u t:=by
 intro N;induction N with
 |zero=>
  intro n j x l w f;obtain⟨z,E,_⟩:=f;cases n with
  |zero=>exact E.elim
  |succ n=>omega
 |succ N F=>
  intro n j x l w f gs u t hd i sl;rcases f.step (po Z)with⟨a,H,p⟩|⟨y,bw,G,C,g⟩
  .obtain⟨D,g⟩:=p.leave (v:=.slice (some (box c.O)) 2 2) bI
   refine i.step (λk=>⟨(S6 (eU Z.kd bx (.slice (some (box Z.O)) 2 2)) rest),u.at k,#[],?_,rfl,bg,(λe he=>by simp at he),λbm bh h d=>fin bm _ bh (hd.at k) d h⟩) sl;have:=g true .running none bx rest (u.at k) B;rw[o]at this;rw[q,D];exact this
  .refine i.step (λk=>⟨bW y Z.base,u.at k,#[],g true Z.base .running none (u.at k),rfl,bg,(λe he=>by simp at he),λbm bh h d=>?_⟩) sl
   exact F n bw y U U C bm _ bh (hd.at k) d h
def Over(Z:Stat)(gs:Array Goroutine)(u:World)(sl:Option (Nat×Nat))(t:Trace):Prop:=
 ∃(bm:Array Goroutine) (ops:Array MemOp) (c:fR) (M:Mem) (x:bA) (a:Nat) (r:Bool->Nat×Nat) (aY:Bool),runT aK (crowd gs u sl) 0=(.next (crowd bm u sl),ops)/\c.O=Z.O/\eJ (hP Z) a ⟨41,c,M⟩ 400 x/\ov Z u r aY/\
  cc aK (λb=>Z.aH b\/b=Z.W) bm (S6 x.1 (x.2++Z.base)) u (t++ops) 0
def Sl(H:Base Z G u t){o:gQ X.Q}{F b:Bool}{s:ck}(E:fz X Z G k g u s o)(l:G.s k=s)(C:iJ Z G k g u F o.1 b){p:h5}(f:s.c=.out p)(hp:p=.d6\/p=.fin):∃q,QuitsD aK q s.deaf g:=by
 cases E with
 |@out ia bb x n j gA ok h I J D=>
  cases f;have d:g.status=.running:=by
   have r:((if hQ p then 3 else 1:Nat),gA,n*500+j).1≠0:=by show(if hQ p then 3 else 1)≠0;split<;>decide
   cases C with
   |run h _=>exact h
   |sema _ _ c _ _=>obtain⟨b,c⟩:=c;rw[l]at c;cases c
   |snd v _ _ _ _ _ c _ _ _ _ _ _=>
    rw[l]at c;have:=c.cR;rcases hp with rfl|rfl<;>cases this
   |gone _ _ w=>exact absurd w r
  obtain⟨st,off,i⟩:=h.shape;obtain⟨q,B⟩:=NF (G.bP k) bb (n*500+j) n j p x off bg h.le h.on hp;refine⟨q,?_⟩;have e:g=⟨x.1,x.2,.running,none,off⟩:=by rw[i];rw[i]at d;dsimp only at d;rw[d];simp
  rw[e];exact B
 |gone gA z D=>
  exact⟨0,z,rfl⟩
 |_=>cases f
def eD.recvs(h:eD X Z G gs u t m bt cb q cx rw du)(aj:G.l=28\/G.l=34\/G.l=40)(J:gs[0]?=some g)(bz:g.status=.running)(hm:jl Z G g u c M x n j)(aa:At (hP Z) a ⟨G.l,c,M⟩ x)(av:n=a+1)(aO:m=n*500+j):
 lz X Z gs u sl t 0 (h' Z m bt cb q cx rw du)\/Over Z gs u sl t:=by
 have r:=h.base;have Y:=r.ap.pos;have au:=bu J;obtain⟨bv,bE⟩:=DW aj hm.ok.cfg.2.2.1 aa;obtain⟨st,off,bj⟩:=hm.at_.shape;have aB:stepG aK (0 == 0) g u=.comm (S6 x.1 (x.2++Z.base)) (g3 Z) true (.recv true) u:=by rw[bj];exact bE true _ _ _ _
 have aL:=r.ww.ch;have ay:MemOp.ofEvents 0 g.frame.fn g.frame.place #[]=#[]:=by rw[ofEvents_eq];simp
 have ag:∀i b,(i,b)∈partners (gs.setIfInBounds 0 ph) Z.ch true->b=0/\i≠0/\∃k v x n j aE,i=Z.wk k/\(G.s k).c≠.un/\(∃l,gs[i]?=some (parked l #[scase Z.ch (j5 k v) (.tuple #[])] .send))/\g7 (G.s k) ⟨.out (.snd v),(G.s k).bb⟩/\(∀l,gs[i]?=some (parked l #[scase Z.ch (j5 k v) (.tuple #[])] .send)->cB (fP (G.bP k)) Z G (Z.wk k) (.snd v) [] x (parked l #[scase Z.ch (j5 k v) (.tuple #[])] .send) u n j)/\At (fP (G.bP k)) aE (.snd v) x/\n=aE+1/\
  ((∀(n:Nat) own b o,(ib (G.bP k))[n]?=some (own,b,o)->G.b1 b≠Z.wk k)/\kA Z G (Z.wk k) u v):=by
  intro i b aq;obtain⟨f,W,P⟩:=mem_partners.1 aq;rcases getElem?_stand gs 0 i f W with⟨rfl,rfl⟩|⟨K,ao⟩
  .rw[offersAt_ph]at P;cases P
  .obtain⟨bf,k,v,T,nw,aU,aG,w,C,⟨l,H⟩,a4,a5,a6,a7,a8⟩:=h.sends ao P K
   subst H;refine⟨bf,K,k,v,T,nw,aU,aG,w,C,⟨l,ao⟩,a4,λa9 L=>?_,a6,a7,a8⟩;rw[ao]at L;rw[<-bD L];exact a5
 by_cases K:partners (gs.setIfInBounds 0 ph) Z.ch true = []
 .rcases I:G.k.shut with _|_
  ·
   left;have ah:=vL r I;have aS:=crowd_waits (sl:=sl) J aB (λa2 bh=>by
    have:a2=rcase Z.ch z0:=by simpa using bh
    rw[this];exact ways_recv_none ah K)
   rw[ay]at aS;have bx:cx=true:=by
    obtain⟨a9,bP,bO,bV,bU,bT,L,aH,bQ,ba⟩:=h.main;rw[J]at L;obtain rfl:=bD L;cases ba with
    |run _=>rfl
    |ri _ am _ _ _ _=>obtain⟨l,rfl⟩:=am;cases bz
   have aC:∀i,i≠0->(gs.setIfInBounds 0 (parked (S6 x.1 (x.2++Z.base)) (g3 Z) (.recv true)))[i]?=gs[i]?:=λi W=>h7 (Ne.symm W)
   have bG:∀k,(G.s k).c≠.un->∃E,gs[Z.wk k]?=some E/\fz X Z G k E u (G.s k) (bt k)/\iJ Z G k E u false (bt k).1 (rw k):=λk F=>by
    obtain⟨E,w,C,H⟩:=h.dN k F;refine⟨E,w,C,?_⟩;generalize rw k=b at H ⊢;generalize (bt k).1=mk at H ⊢;cases H with
    |run h R=>exact .run h R
    |sema h bs D br R=>exact .sema h bs D br R
    |snd v x n j b am D ae aa av aI bS R=>
     exfalso;obtain⟨l,rfl⟩:=am;have:(Z.wk k,0)∈partners (gs.setIfInBounds 0 ph) Z.ch true:=mem_partners.2 ⟨_,by rw[h7 (Ne.symm (ji Y k))];exact w,by rw[offersAt_parked_send,if_pos rfl];exact bI⟩;rw[K]at this;cases this
    |gone h D R=>exact .gone h D R
   refine⟨G,_,u,#[],m,bt,cb,q,false,rw,du,aS,⟨by simpa using r,by rw[Array.size_setIfInBounds];exact h.size,⟨_,c,M,x,n,j,by rw[iO au],⟨⟨hm.at_.on,hm.at_.le,rfl,rfl,rfl,hm.at_.mem,hm.at_.own⟩,hm.ok⟩,aO,.ri a ⟨_,rfl⟩ aj av aa I⟩,λk F=>?_,λp hp=>?_,λi f V bc z=>?_⟩,zW (by rw[bx];simp[kW])⟩
   .obtain⟨E,w,C⟩:=bG k F
    exact⟨E,by rw[aC _ (ji Y k)];exact w,C⟩
   .obtain⟨E,w,C⟩:=h.eu p hp
    exact⟨E,by rw[aC _ U];exact w,C⟩
   .rw[aC i U]at z
    simpa using h.old i f V bc z
  ·
   right;have F:G.k=.at .fin:=by
    rcases F:G.k with _|p
    .rw[F]at I;cases I
    .rw[F]at I
     cases p<;>first|rfl|cases I
   have ar:G.l=40:=by
    have wg:=r.b9.q6 F;obtain⟨_,bL,bM⟩:=vc wg;have D:=r.b9.cnt;rw[vX bL,vX bM]at D;rcases aj with aj|aj|aj
    .rw[aj]at D;cases D
    .rw[aj]at D;cases D
    .exact aj
   obtain⟨hd,aQ,_⟩:=h.Hw ar I hm;rw[I]at aL;have ai:=crowd_recv_closed (sl:=sl) J aB aL K;rw[finishComm_recv,ay,Array.empty_append]at ai;have bF:toGot G.l c M none=⟨41,c,M⟩:=by show(if G.l=40 then _ else _)=_;rw[if_pos ar]
   have aP:=bv none;rw[bF]at aP;have bA:∀k,(G.s k).da=true:=λk=>by obtain⟨p,e,hp⟩:=aQ k;unfold ck.da;rw[e];rcases hp with rfl|rfl<;>rfl
   have bB:Go.Conc.served ((S6 x.1 (x.2++Z.base)):Goroutine) (recvd true z0 false)=(S6 (x.1.finish (oP none)) (x.2++Z.base)):=rfl;rw[bB]at ai;have aN:j1 G.l=0:=by rw[ar];rfl
   have aw:∀i,Deaf (t++#[({g:=0,fn:=x.1.fn,pos:=x.1.place,act:=.recvClosed Z.ch}:MemOp)]) i=Deaf t i:=λi=>oI (B:=u.heap.size) (λop ax=>by
    have:op={g:=0,fn:=x.1.fn,pos:=x.1.place,act:=.recvClosed Z.ch}:=by simpa using ax
    rw[this];exact⟨rfl,aF,aF,r.fv.2.2⟩) i
   refine⟨_,_,c,M,(x.1.finish (oP none),x.2),a,G.cy,G.aY,ai,hm.ok.cfg.2.1,aP,hd,⟨by rw[iO au],rfl,?_,r.dy.finish Y r.fv.2.2 bA I aN ⟨rfl,rfl⟩,by rw[aw];exact r.dy.d0.trans aN⟩⟩;have each:∀i f,0<i->gs[i]?=some f->∃Q,QuitsD aK Q (Deaf t i) f:=λi f V z=>by
    rcases h.nH z with e|⟨_,e⟩|⟨k,rfl,P⟩|⟨rfl,p,hp⟩
    .omega
    .exact⟨q i,h.old i f V e z⟩
    .obtain⟨p,e,hp⟩:=aQ k
     obtain⟨E,w,C,H⟩:=h.dN k P;rw[z]at w;obtain rfl:=bD w;rw[r.dy.qU];exact Sl r C rfl H e hp
    .obtain⟨E,w,C⟩:=h.eu p hp
     rw[z]at w;obtain rfl:=bD w;rw[F]at hp;cases hp;rw[r.dy.oJ,F];clear h;cases C with
     |run aD aW aT ae aA=>
      obtain⟨st,off,J⟩:=ae.shape;obtain⟨bH,az⟩:=ND Z (aW*500+aT) aW aT aD off bg ae.le ae.on;refine⟨bH,?_⟩;have e:f=⟨aD.1,aD.2,.running,none,off⟩:=by rw[J];rw[J]at aA;dsimp only at aA;rw[aA];simp
      rw[e];exact az
     |wait _ _ _ _ _ _ bw _=>cases bw
     |gone _ bi=>exact⟨0,bi,rfl⟩
   refine⟨λi=>Classical.epsilon λQ=>∀f,gs[i]?=some f->QuitsD aK Q (Deaf t i) f,⟨λi f V z=>?_,λi W=>?_⟩⟩
   .rw[h7 U]at z
    rw[aw];obtain⟨Q,az⟩:=each i f V z;exact Classical.epsilon_spec (p:=λQ=>∀f,gs[i]?=some f->QuitsD aK Q (Deaf t i) f) ⟨Q,λg' aM=>by rw[z]at aM;rw[<-bD aM];exact az⟩ f z
   .rw[aw]
    refine r.dy.above i ?_;rw[Array.size_setIfInBounds,h.size,if_neg U,if_neg U]at W;omega
 ·
  left;obtain⟨⟨i1,af⟩,bk⟩:=List.exists_mem_of_ne_nil _ K;obtain⟨_,_,aV,v1,_,_,_,_,_,_,_,aJ,_⟩:=ag i1 af bk;have bC:(G.s aV).da=false:=by rw[<-aJ.da];rfl
  have ax:G.k.shut=false:=xg (k:=aV) r (by rw[<-aJ.cR];rfl);have ah:=vL r ax;have bo:=Dy r aj bC;obtain⟨i,f,aY,bN,aX,d,ap,z,aR⟩:=crowd_recv_meets_some (sl:=sl) J aB ah K λi b aq=>by obtain⟨w,C,k,v,_,_,_,_,_,_,⟨l,H⟩,_⟩:=ag i b aq;exact⟨w,C,l,_,_,_,H⟩
  have bn:(i,0)∈partners (gs.setIfInBounds 0 ph) Z.ch true:=mem_partners.2 ⟨_,by rw[h7 (Ne.symm ap)];exact z,by rw[offersAt_parked_send,if_pos rfl];exact bI⟩;obtain⟨_,_,k,v,T,nw,aU,aG,rfl,P,⟨l,al⟩,D,S,bd,bR,aI⟩:=ag i 0 bn;have S:=S l al;have ad:parked f #[scase Z.ch aY bN] aX=parked l #[scase Z.ch (j5 k v) (.tuple #[])] .send:=by rw[z]at al;exact bD al
  obtain⟨L,aH⟩:aY=j5 k v/\aX=.send:=by have:=congrArg Goroutine.offers ad;simp[parked,scase]at this;exact⟨this.1.1,this.2⟩
  have ak:f.frame=T.1/\f.callers=T.2/\f.dying=none:=by
   have aZ:f.frame=l.frame:=by have:=congrArg Goroutine.frame ad;exact this
   have a0:f.callers=l.callers:=by have:=congrArg Goroutine.callers ad;exact this
   have a3:f.dying=l.dying:=by have:=congrArg Goroutine.dying ad;exact this
   have af:l.frame=T.1:=S.fr;have a1:l.callers=T.2++[]:=S.cs;have cG:l.dying=none:=S.m';exact⟨aZ.trans af,a0.trans (by rw[a1];simp),a3.trans cG⟩
  subst L;subst aH;rw[finishComm_send,finishComm_recv,ay,Array.empty_append]at aR;have bq:=bu z;obtain⟨dd,ga,bK,bJ,bb,bp⟩:=h.meet (k:=k) (su:=Go.Conc.served f undef) (sr:=Go.Conc.served ((S6 x.1 (x.2++Z.base)):Goroutine) (recvd true (j5 k v) true)) (bm:=(gs.setIfInBounds (Z.wk k) (Go.Conc.served f undef)).setIfInBounds 0 (Go.Conc.served ((S6 x.1 (x.2++Z.base)):Goroutine) (recvd true (j5 k v) true))) (d:=d)
   P D bo S bd aI hm aa av aO (by rw[xH ak.2.2,ak.1,ak.2.1]) (by
    rw[xH rfl];have:recvd true (j5 k v) true=oP (some (k,v)):=by cases k<;>rfl
    rw[this]) aF (by rw[iO (by simpa using au)]) (by rw[h7 (Ne.symm (ji Y k)),iO bq]) (λi ap bl=>GK ap bl) (cap:=0) (x:={g:=Z.wk k,fn:=f.frame.fn,pos:=f.frame.place,act:=.send Z.ch (dF G.l)}) (y:={g:=0,fn:=x.1.fn,pos:=x.1.place,act:=.recv Z.ch (dF G.l) 0}) (p:={g:=Z.wk k,fn:=f.frame.fn,pos:=f.frame.place,act:=.sendDone Z.ch (dF G.l)}) (g2:={g:=0,fn:=x.1.fn,pos:=x.1.place,act:=.recvDone Z.ch (dF G.l)}) ⟨rfl,rfl⟩ rfl rfl ⟨rfl,rfl⟩
  exact⟨_,_,_,_,dd,ga,cb,q,true,bK,bJ,aR,bb,uD bp rfl⟩
def eD.Ri(h:eD X Z G gs u t m bt cb q cx rw du)(f:gs[0]?=some g)(L:g.status=.running):lz X Z gs u sl t 0 (h' Z m bt cb q cx rw du)\/Over Z gs u sl t:=by
 obtain⟨S,c,M,x,n,j,B,E,i,T⟩:=h.main;rw[f]at B;obtain rfl:=bD B;rcases L3 h.base E with⟨aB,aC,l,g',bp,b7,U,c9,bw,R,D,C,F,Q,r,K,hm,H,P,J,I⟩|⟨c,M,x,n,j,a,aj,hm,d,w,z⟩
 .refine .inl (h.Ie f R r P D C F Q K hm J I (by rw[i];exact H) ⟨?_,?_⟩)
  .have o:=r.b9.l9
   have p:=h.base.b9.l9;rw[o,p,D]
  .have o:=r.b9.mS
   have p:=h.base.b9.mS;rw[o,p,C]
 .rcases aj with aj|aj|aj
  .exact .inl (h.Pe aj f hm (by rw[aj]at d;exact d) w (i.trans z))
  .exact .inl (h.Pf aj f hm (by rw[aj]at d;exact d) w (i.trans z))
  .exact h.recvs aj f L hm d w (i.trans z)
def eD.ends(af:Z.base=bx::rest)(ah:Kept bx)(fin:∀bm aC bh r aY,ov Z aC r aY->cc aK (λb=>Z.aH b\/b=Z.W) bm (S6 (eU Z.kd bx (.slice (some (box Z.O)) 2 2)) rest) aC bh 0->S7 aK bF bm aC bh)(h:eD X Z G gs u t m bt cb q cx rw du)(sl:Option (Nat×Nat)):Ends aK bF (crowd gs u sl) t:=by
 have key:∀x:rT X.Q,∀(G:bX) (gs:Array Goroutine) (u:World) (t:Trace) (m:Nat) (bt:Bool->gQ X.Q) (cb:Nat) (q:Nat->Nat) (cx:Bool) (rw:Bool->Bool) (du:Bool),x=h' Z m bt cb q cx rw du->eD X Z G gs u t m bt cb q cx rw du->S7 aK bF gs u t:=by
  intro x;induction x using(Md X.Q).induction with
  |_ x ap=>
  intro G gs u t m bt cb q cx rw du ao h sl;subst ao;have S:=h.base.ap.pos;have ae:∀g∈gs,awake g:=by
   intro g l;obtain⟨i,ag,rfl⟩:=Array.mem_iff_getElem.1 l;have C:=fb ag;rcases h.nH C with rfl|⟨I,S⟩|⟨k,rfl,F⟩|⟨rfl,p,hp⟩
   .obtain⟨Q,c,M,x,n,j,R,ar,au,V⟩:=h.main
    rw[C]at R;obtain rfl:=bD R;cases V with
    |run f=>exact awake_of (.inl f)
    |ri _ K _ _ _ _=>obtain⟨U,e⟩:=K;rw[e];exact awake_of (.inr (.inl rfl))
   .exact awake_of ((h.old i _ I S C).status.elim .inl λx=>.inr (.inr x))
   .obtain⟨Q,B,_,H⟩:=h.dN k F
    rw[C]at B;obtain rfl:=bD B;generalize rw k=b at H;generalize (bt k).1=mk at H;cases H with
    |run f _=>exact awake_of (.inl f)
    |sema f _ _ _ _=>exact awake_of (.inr (.inl f))
    |snd _ _ _ _ _ K _ _ _ _ _ _ _=>obtain⟨U,e⟩:=K;rw[e];exact awake_of (.inr (.inl rfl))
    |gone f _ _=>exact awake_of (.inr (.inr f))
   .obtain⟨Q,B,T⟩:=h.eu p hp
    rw[C]at B;obtain rfl:=bD B;clear h;cases T with
    |run _ _ _ _ f=>exact awake_of (.inl f)
    |wait _ _ _ _ f _ _ _=>exact awake_of (.inr (.inl f))
    |gone _ f=>exact awake_of (.inr (.inr f))
  obtain⟨i,g,d,E,l,D,o⟩:=crowd_pick (P:=aK) (w:=u) (sl:=sl) ae h.live;have z:=h.at d;have on:∀{i},stepT aK (crowd gs u sl)=runT aK (crowd gs (u.at d) E) i->lz X Z gs (u.at d) E t i (h' Z m bt cb q cx rw du)->Ends aK bF (crowd gs u sl) t:=by rintro i o ⟨aB,bm,aC,ops,dd,ga,iz,g2,fH,hS,aq,f,J,ai⟩;exact Ends.next (o.trans f) (ap _ ai aB bm aC _ dd ga iz g2 fH hS aq rfl J E)
  rcases z.nH l with rfl|⟨I,Y⟩|⟨k,rfl,F⟩|⟨rfl,p,hp⟩
  .rcases z.Ri (sl:=E) l D with ak|⟨bm,ops,c,M,x,a,r,aY,f,aa,al,hd,L⟩
   .exact on o ak
   .exact Ends.next (o.trans f) (L4 af ah aa (λbm aC bh hd L sl=>fin bm aC bh r aY hd L sl) (a*500+400) a 400 x bg bg al bm _ _ hd L E)
  .exact on o (z.Ic I Y l D)
  .exact on o (z.Rj F l D λv x n j a J am ad aj W=>z.OU F l D J am ad aj W)
  .exact on o (z.Rh hp l D)
 exact key _ G gs u t m bt cb q cx rw du rfl h sl
end
section
variable{u aC w:World}{t bh:Trace}{gs bm:Array Goroutine}{g:Goroutine}{c bp:fR}{M b7:Mem}{x y:bA}{n j a l aN d:Nat}{bF:Machine->Outcome->World->Trace->Prop}{kd:CallKind}{base:List Frame}{aH:Nat->Prop}{aL:World}{S oz:List (Nat×Obj)}
structure jw(kd:CallKind)(base:List Frame)(aH:Nat->Prop)(aL:World)(S:List (Nat×Obj))(gs:Array Goroutine)(u:World)(t:Trace)(d l:Nat)(c:fR)(M:Mem)(x:bA)(n j:Nat):Prop where
 on:eJ (kn kd) n ⟨l,c,M⟩ j x
 le:j<=400
 mem:gN M u
 fJ:cc aK aH gs (bW x base) u t d
 old:∀b,b<aL.heap.size->u.heap[b]?=aL.heap[b]?
 calm:Calm aL u
 fi:∀(i:Nat) b o,M[i]?=some (true,b,o)->aL.heap.size<=b
 kK:∀(i:Nat) own b o,M[i]?=some (own,b,o)->¬aH b
 ej:∀b,aH b->b<aL.heap.size
 bK:∀b o,(b,o)∈S->u.heap[b]?=some o/\aL.heap.size<=b/\∀(i:Nat) own aE aV,M[i]?=some (own,aE,aV)->aE≠b
def vk(kd:CallKind):dn (kn kd).P (kn kd).ext:=by unfold kn;exact j8
def jw.at(h:jw kd base aH aL S gs u t d l c M x n j)(k:Nat):gN M (u.at k)/\(∀b,b<aL.heap.size->(u.at k).heap[b]?=aL.heap[b]?)/\Calm aL (u.at k):=⟨⟨h.mem.has,h.mem.fL⟩,h.old,h.calm.trans (Calm.at u k)⟩
def jw.quiet(h:jw kd base aH aL S gs u t d l c M x n j)(k:∀n j gs u t x a,n*500+j<=n*500+400->jw kd base aH aL S gs u t d l c M x n j->n=a+1->At (kn kd) a ⟨l,c,M⟩ x->S7 aK bF gs u t):S7 aK bF gs u t:=by
 induction j using Nat.strongRecOn generalizing gs u t x with
 |_ j w=>
 intro sl;rcases h.on.step (vk kd)with⟨a,p,i⟩|⟨y,bw,o,q,r⟩
 .exact k n j gs u t x a (by have:=h.le;omega) h p i sl
 .refine h.fJ.step (λf=>⟨bW y base,u.at f,#[],r true base .running none (u.at f),rfl,bg,(λe he=>by simp at he),λbm bh D g=>?_⟩) sl
  obtain⟨z,B,C⟩:=h.at f;exact w bw o ⟨q,by have:=h.le;omega,z,g,B,C,h.fi,h.kK,h.ej,h.bK⟩ D
def wa{B b off:Nat}{wr:Bool}(f:b<B)(g:¬aH b):ox aH B ⟨.cell ⟨b,off,none⟩,wr,false⟩:=by
 refine⟨λx c bO he d=>?_,f⟩;have c:some (⟨.cell ⟨b,off,none⟩,wr,.plain⟩:Touch)=some x:=by cases wr<;>exact c
 rw[<-bD c]at he;injection he with he
 rw[<-he]at d;exact absurd d g
def jw.bL(h:jw kd base aH aL S gs u t d l c M x n j)(Q:n=a+1)(K:At (kn kd) a ⟨l,c,M⟩ x){ops:List gZ}(he:(kn kd).cz ⟨l,c,M⟩ = [.bL ops ⟨aN,bp,b7⟩])(k:∀gs u t x,jw kd base aH aL S gs u t d aN bp b7 x a 400->S7 aK bF gs u t):S7 aK bF gs u t:=by
 subst Q;obtain⟨y,R,r,T⟩:=K.bL (vk kd) (ops:=ops) (to:=⟨aN,bp,b7⟩) (by rw[he];exact .head _);have r:prun M ops=some (_,_,b7):=r;refine h.fJ.step λB=>?_
 obtain⟨G,V,W⟩:=h.at B;obtain⟨aC,hd,hm,D,_,U,F,E,p,_⟩:=uJ r G;refine⟨bW y base,aC,_,T true base .running none (u.at B) aC _ hd,rfl,D.size,λe q=>?_,λbm bh Y C=>?_⟩
 .obtain⟨i,own,b,o,off,wr,w,rfl,_⟩:=E e (by simpa using q)
  exact wa (by rw[U];exact gL G w) (h.kK i own b o w)
 .have J:deafBehind d (cI (eh ((kn kd).mem ⟨l,c,M⟩) ops)).toArray=d:=deafBehind_still (λe q=>by obtain⟨i,own,b,o,off,wr,w,rfl,_⟩:=E e (by simpa using q);exact⟨aF,aF⟩) d
  rw[J]at C;refine k bm aC bh y ⟨R,bg,hm,C,λb L=>?_,W.trans D,λi b o e=>?_,λi own b o e=>?_,h.ej,λb o P=>?_⟩ Y
  .rw[F b λi o e=>by have:=h.fi i b o e;omega]
   exact V b L
  .obtain⟨f,g⟩:=p i true b o e
   exact h.fi i b f g
  .obtain⟨f,g⟩:=p i own b o e
   exact h.kK i own b f g
  .obtain⟨s1,s2,H⟩:=h.bK b o P
   refine⟨?_,s2,λi own z f e=>?_⟩
   .rw[F b λi o e=>H i true b o e rfl]
    exact s1
   .obtain⟨X,I⟩:=p i own z f e
    exact H i own z X I
def jw.new(h:jw kd base aH aL S gs u t d l c M x n j)(K:n=a+1)(I:At (kn kd) a ⟨l,c,M⟩ x){eA:Bool}{o:Obj}{bP:Nat->fR}(he:(kn kd).cz ⟨l,c,M⟩ = [.new eA o λb=>⟨aN,bP b,p6 eA M b o⟩])(k:∀gs u t x b,aL.heap.size<=b->jw kd base aH aL (if eA then S else(b,o)::S) gs u t d aN (bP b) (p6 eA M b o) x a 400->S7 aK bF gs u t):S7 aK bF gs u t:=by
 subst K;refine h.fJ.step λr=>?_
 obtain⟨y,L,V,Q⟩:=I.new (vk kd) (eA:=eA) (o:=o) (to:=λb=>⟨aN,bP b,p6 eA M b o⟩) (by rw[he];exact .head _) u.heap.size;obtain⟨G,R,W⟩:=h.at r;have B:aL.heap.size<=u.heap.size:=h.calm.size;refine⟨bW y base,_,#[],Q true base .running none (u.at r) rfl,rfl,by simp;exact Nat.le_succ _,(λe he=>by simp at he),λbm bh T H=>?_⟩;have C:∀b,b<u.heap.size->((u.at r).heap.push o)[b]?=u.heap[b]?:=λb D=>by rw[iq,if_neg (by show b≠u.heap.size;omega)];rfl
 have J:((u.at r).heap.push o)[u.heap.size]?=some o:=by rw[iq,if_pos (show u.heap.size=(u.at r).heap.size from rfl)]
 refine k bm _ bh y u.heap.size B ⟨L,bg,?_,H,λb D=>(C b U).trans (R b D),⟨by simp;exact cL B (Nat.le_succ _),h.calm.tape,h.calm.output,h.calm.os⟩,?_,?_,h.ej,?_⟩ T
 .cases eA with
  |true=>exact G.push rfl
  |false=>exact G.keep λi own b f e=>C b (gL h.mem e)
 .intro i b f e
  cases eA with
  |false=>exact h.fi i b f e
  |true=>
   have e:(M++[(true,u.heap.size,o)])[i]?=some (true,b,f):=e;rcases Nat.lt_or_ge i M.length with ad|ad
   .rw[jz ad]at e;exact h.fi i b f e
   .rw[jb ad]at e
    rcases g:i-M.length with _|q
    .rw[g]at e;simp at e;rw[<-e.1];exact B
    .rw[g]at e;simp at e
 .intro i own b f e
  cases eA with
  |false=>exact h.kK i own b f e
  |true=>
   have e:(M++[(true,u.heap.size,o)])[i]?=some (own,b,f):=e;rcases Nat.lt_or_ge i M.length with ad|ad
   .rw[jz ad]at e;exact h.kK i own b f e
   .rw[jb ad]at e
    rcases g:i-M.length with _|q
    .rw[g]at e;simp at e
     intro P;have:=h.ej b P;omega
    .rw[g]at e;simp at e
 .intro b f E
  have old:(b,f)∈S->((u.at r).heap.push o)[b]?=some f/\aL.heap.size<=b/\b<u.heap.size/\∀(i:Nat) own p w,M[i]?=some (own,p,w)->p≠b:=λhm=>by obtain⟨s1,s2,z⟩:=h.bK b f hm;have F:=bu s1;exact⟨(C b F).trans s1,s2,F,z⟩
  cases eA with
  |true=>
   obtain⟨s1,s2,X,z⟩:=old E;refine⟨s1,s2,λi own p w e=>?_⟩;have e:(M++[(true,u.heap.size,o)])[i]?=some (own,p,w):=e;rcases Nat.lt_or_ge i M.length with ad|ad
   .rw[jz ad]at e;exact z i own p w e
   .rw[jb ad]at e
    rcases g:i-M.length with _|q
    .rw[g]at e;simp at e;omega
    .rw[g]at e;simp at e
  |false=>
   rcases List.mem_cons.1 E with e|hm
   .cases e
    exact⟨J,B,λi own p w e=>Nat.ne_of_lt (gL h.mem e)⟩
   .obtain⟨s1,s2,_,z⟩:=old hm
    exact⟨s1,s2,z⟩
def jw.fix(h:jw kd base aH aL S gs u t d l c M x n j)(L:n=a+1)(F:At (kn kd) a ⟨l,c,M⟩ x){an:List dO}{g:List cD}(he:(kn kd).cz ⟨l,c,M⟩ = [.fix true false an g ⟨aN,c,M⟩])(w:Nat)(hd:∀f,∃aC es,Does (u.at f) g aC es/\aC.heap.size=u.heap.size/\Calm u aC/\(∀b,b≠w->aC.heap[b]?=u.heap[b]?)/\∀b o,(b,o)∈oz->aC.heap[b]?=some o)(G:(∃o,(w,o)∈S)\/∀f aC es,Does (u.at f) g aC es->aC.heap=u.heap)(D:∀b o,(b,o)∈oz->∃q,(b,q)∈S)(J:∀e∈hZ true (cI g),ox aH u.heap.size e)(k:∀gs u t x,jw kd base aH aL oz gs u t (deafBehind d (hZ true (cI g)).toArray) aN c M x a 400->S7 aK bF gs u t):S7 aK bF gs u t:=by
 subst L;obtain⟨y,R,W,_,U⟩:=F.fix (vk kd) (show Edge.fix true false an g ⟨aN,c,M⟩∈_ by rw[he];exact .head _);refine h.fJ.step λf=>?_
 obtain⟨X,Y,Z⟩:=h.at f;obtain⟨aC,es,B,C,H,K,T⟩:=hd f;have keep:∀b,(b<aL.heap.size\/∃(i:Nat) (own:Bool) (o:Obj),M[i]?=some (own,b,o))->aC.heap[b]?=u.heap[b]?:=λb p=>by
  rcases G with⟨o,P⟩|hh
  .refine K b λe=>?_
   subst e;obtain⟨s1,s2,r⟩:=h.bK b o P;rcases p with p|⟨i,own,q,e⟩
   .omega
   .exact r i own b q e rfl
  .rw[hh f aC es B]
 refine⟨bW y base,aC,_,U true base .running none (u.at f) aC _ B,rfl,Nat.le_of_eq C.symm,λe I=>by rw[C];exact J e (by simpa using I),λbm bh V E=>?_⟩;refine k bm aC bh y ⟨R,bg,h.mem.keep λi own b o e=>keep b (.inr ⟨i,own,o,e⟩),E,λb p=>(keep b (.inl p)).trans (h.old b p),h.calm.trans H,h.fi,h.kK,h.ej,λb o z=>?_⟩ V;obtain⟨q,Q⟩:=D b o z;obtain⟨_,s2,r⟩:=h.bK b q Q;exact⟨T b o z,s2,r⟩
end
end Go.aO
