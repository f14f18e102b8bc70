/- A part. -/
import Derived.Test.YtoebddanaobpaaaGreatDoorP12
import Derived.WalkKit
import Derived.Lib.Hide
import Derived.OwnWalk
import Derived.Laws.AppendOwn
import Derived.Laws.IdiomRangeMap
import Derived.Laws.NewBlocks
import Derived.LoopTactic
import Derived.Maps.AppendAt
set_option maxHeartbeats 8000000
set_option maxRecDepth 100000
set_option linter.all false
namespace Go.aO
attribute [-simp] Go.Sem.runT_eq
open Go.Proofs Tryz
section
variable{R:S9->S7->Prop}{T:Nat}
def J'(w:S7):(Op.equal 16 (pt T) (pt T)).runT (bS T) w #[]=(.ok true w,#[]):=(y' T _ w).1 S6
def Ev(T:Nat):Tv Oper:=#[⟨some 2,.binOp .eql 16 (.tmp 0) (.const (Tj T)) 16,4,"",#[],none⟩,⟨some 3,.binOp .eql 3 (.tmp 1) (.const (ah 0)) 3,4,"",#[],none⟩]
def MV:Tv Oper:=#[⟨some 4,.assign (.const iT),129,"",#[],none⟩]
def Cx:Code:=.cond (.tmp 2) (.cond (.tmp 3) (.seq (.region 1 MV false) .ret) (.refuse "")) (.refuse "")
def zl(Tl:Tx)(x y:S9):TB:=⟨46,#[x,y]++Array.replicate 16 undef,[.code (.seq (.region 0 (Ev T) false) Cx)],[],.run,Tl,none⟩
def J0(Tl:Tx)(x y:S9):Frame.enter (bS T) 46 #[x,y] Tl=zl (T:=T) Tl x y:=av
def Gl{dx:TU}{Tl:Tx}{x y:S9}{C:Tz}{w:S7}{c:Te}(o:c.getD 0 undef=x)(n:c.getD 1 undef=y/\5<=c.size)(z:x=pt T\/w.tape w.drawn .zeroSizeEq=0)(h:dz (bS T) dx (lone ⟨46,c,[.code (.seq (.region 0 (Ev T) false) Cx)],[],.run,Tl,none⟩ C w))(hC:2<=C.length)(j:TG Tl):
 x=pt T/\y=ah 0/\dz (bS T) dx (lone ⟨46,((c.setIfInBounds 2 (.bool true)).setIfInBounds 3 (.bool true)).setIfInBounds 4 iT,[.code .ret],[],.returning,Tl,none⟩ C w):=by
 replace h:=h.reg (l:=[0,1]) hC S6;let⟨v,aG,g,h⟩:=h.n3 (cW:=λv aG=>(v=.bool true/\x=pt T/\w=aG)\/v=.bool false) hC j S6 S6 S6 (dJ.eql S6 o (y:=pt T) S6 (by cases x<;>rfl) (by cases x<;>rfl) (by
  by_cases e:x=pt T
  .exact .ok (v:=true) (.inl ⟨S6,e,S6⟩) ((y' T x w).1 e)
  .rcases(y' T x w).2 e (z.resolve_left e)with⟨b,aG,es,rfl,r⟩|⟨B,aG,es,r,g⟩
   .exact .ok (.inr S6) r
   .exact .no r g))
 have f:=nx (T:=c) (i:=2) (v:=v) n.2;have d:=mN (i:=2) (v:=v) n;generalize p:c.setIfInBounds 2 v=tI at h f d;obtain⟨m,_,⟨rfl,g'⟩,h⟩:=h.n3 hC j S6 S6 S6 (dJ.int (bS.Rv T) S6 d.1 S6);replace h:=h.gM hC;rcases g with⟨rfl,q,rfl⟩|rfl
 .replace h:=h.cd hC (v:=true) (mN (i:=3) (v:=m) f).1
  have d:=nx (T:=tI) (i:=3) (v:=m) d.2;rcases g' with⟨rfl,u⟩|rfl
  .replace h:=(h.cd hC (v:=true) d.1).reg (l:=[0]) hC S6
   obtain⟨_,_,⟨rfl,rfl⟩,h⟩:=h.n3 hC j S6 S6 S6 (dJ.ok (cW:=λv aG=>v=iT/\w=aG) (acc:=#[]) ⟨S6,S6⟩ S6);subst p;exact⟨q,u,(h.gM hC).rt hC⟩
  .exact((h.cd hC (v:=false) d.1).ob hC).elim
 .exact((h.cd hC (v:=false) (mN (i:=3) (v:=m) f).1).ob hC).elim
def bS.stub(V:dt)(g:e3 (bS T) 38 R V)(a:Te)(Tl:Tx)(c:TB)(cs:Tz)(f:TG Tl)(j:a.size=2)(d:V.fr=Frame.enter (bS T) 46 a Tl)(i:V.cs=c::cs)(kc:Kept c):
 a=#[pt T,ah 0]/\∃n,runN (bS T) n V.m=.next (lone (eU Tl c iT) (cs++[wall]) V.w):=by
 obtain⟨x,y,rfl⟩:∃x y,a=#[x,y]:=⟨_,_,two a j⟩
 have hC:2<=(V.cs++[wall]).length:=by rw[i];simp
 rw[J0]at d;let aR:Tape:=λk q=>if k<V.w.drawn then V.w.tape k q else 0
 have A:dz (bS T) (V.iF aR).m (lone (zl (T:=T) Tl x y) (V.cs++[wall]) (dM V.w aR)):=by rw[<-d];exact g.fA (aR:=aR) (λk h=>by funext q;simp[aR,h])
 obtain⟨rfl,rfl,_⟩:=Gl (x:=x) (y:=y) r5 ⟨r5,aF⟩ (.inr (by simp[aR,dM])) A hC f;refine⟨S6,?_⟩;have A:dz (bS T) V.m (lone (zl (T:=T) Tl (pt T) (ah 0)) (V.cs++[wall]) V.w):=by rw[<-d];exact g.fA (aR:=V.w.tape) (λ_ _=>S6)
 let⟨_,_,A⟩:=Gl (x:=pt T) (y:=ah 0) r5 ⟨r5,aF⟩ (.inl S6) A hC f;have l:l2 (bS T) Tl ((⟨46,(((#[pt T,ah 0]++Array.replicate 16 undef).setIfInBounds 2 (.bool true)).setIfInBounds 3 (.bool true)).setIfInBounds 4 iT,[.code .ret],[],.returning,Tl,none⟩:TB),[]) []=some (iT,[]):=by rcases f with rfl|rfl<;>kernel_rfl
 rw[i]at A;exact(A.go aF (oY (main:=true) (st:=.running) (off:=none) l (Tp:=cs++[wall]) kc (Does.nil V.w)).2).1
end
def nG(T:Nat):Tv Obj:=(Array.replicate T (.cells #[] 0 (0,0))).push (.cells #[ah 2,sl (T+1) 2] 132 (0,2)) |>.push (.cells #[ah 2,ah 1] 3 (0,2))
def Bf(T:Nat):S7:={heap:=nG T,tape:=λ_ _=>0,drawn:=0,os:=default,output:=#[]}
def yy(v:S9)(w:S7):Prop:=∃b c l,v=four (b,c)/\w.heap[b]?=some (.cells (#[ah 2,ah 3,ah 5,ah 6]++l) 3 (0,0))/\c=l.size+4
def yf(T:Nat):(nG T)[T]?=some (.cells #[ah 2,sl (T+1) 2] 132 (0,2)):=by unfold nG;rw[iq,Tm aF,iq,Tq aF]
def ye(T:Nat):(nG T)[T+1]?=some (.cells #[ah 2,ah 1] 3 (0,2)):=by unfold nG;rw[iq,Tq aF]
noncomputable def OQ(T:Nat)(h:(bS T).globals.size<=T):Ren where
 r a b:=a=b/\(a=T\/a=T+1)
 fwd:=by rintro a b c ⟨rfl,_⟩ ⟨rfl,_⟩;rfl
 bwd:=by rintro a b c ⟨rfl,_⟩ ⟨rfl,_⟩;rfl
 lim:=(bS T).globals.size
 low:=by rintro a b ⟨rfl,h⟩;exact T4
 exact:=false
 cells:=(bS T).cellsOf
 cW:=λc=>codeOk (bS T) true c=true
 room:=true
 eb:=eK (bS T)
 fu:=ni (bS T)
def OS(T:Nat)(h:(bS T).globals.size<=T):Self (bS T) ⟨Frame.enter (bS T) 38 #[pt T,.agg dC] .normal,[],Bf T⟩:=by
 let ai:=OQ T h;have f:ai.r T T:=⟨S6,.inl S6⟩
 have l:ai.r (T+1) (T+1):=⟨S6,.inr S6⟩
 have fit:Fit (bS T) ai:=⟨⟨S6,λ_=>bg,S6,S6⟩,S6,λb e=>by rw[bS.je]at e;cases e;exact f⟩
 have g:bQ ai #[pt T,.agg dC] #[pt T,.agg dC]:=⟨S6,λi x y c d=>by
  rw[c]at d;cases d;rcases i with _|_|i<;>simp at c<;>subst c
  .exact .ptr ⟨f,S6,S6⟩
  .exact Gc ai⟩
 refine⟨ai,fit,S6,?_,.nil,?_,λ_ _=>S6,?_,?_⟩
 .rcases x4 (pP (K:=jv (bS T)) (bS.ek T) 38 g (λn e=>by have e:eK (bS T) 38=some n:=e;rw[(bS.eb T).2]at e;cases e) .normal (.inl S6))with h|⟨o,h,_⟩
  .exact h
  .have j:(Frame.enter (bS T) 38 #[pt T,.agg dC] .normal).todo = [.code (f38.body.getD (.refuse ""))]:=av
   rw[j]at h;injection h with h _
   injection h with h
   have:(match f38.body.getD (.refuse "")with |.refuse _=>true|_=>false)=false:=av;rw[h]at this;cases this
 .rintro b m ⟨rfl,rfl|rfl⟩
  .refine⟨_,_,yf b,yf b,.cells (.inl S6) (λi x y c d=>?_) (.inl S6)⟩
   rw[c]at d;cases d;rcases i with _|_|i<;>simp at c<;>subst c
   .exact .int _ _
   .exact aQ.slice (a:=(Ti (b+1))) (b:=(Ti (b+1))) ⟨l,S6,S6⟩ 2 2
  .refine⟨_,_,ye T,ye T,.cells (.inl S6) (λi x y c d=>?_) (.inl S6)⟩
   rw[c]at d;cases d;rcases i with _|_|i<;>simp at c<;>subst c<;>exact .int _ _
 .show(bS T).globals.size<=(nG T).size
  simp[nG];omega
 .show(bS T).globals.size<=(nG T).size
  simp[nG];omega
noncomputable def zU(T:Nat)(d:(bS T).globals.size<=T)(i:∀w:S7,w.heap=nG T->w.drawn=0->Calls (bS T) 38 #[pt T,.agg dC] w λe w'=>∃v,e=.returned v/\yy v w'):et where
 Q:=bS T
 K:=bS.K T
 ht:=T
 fI:=T+1
 v0:=Bf T
 R:=yy
 S:=bS.S T
 ek:=bS.ek T
 H:=bS.H T
 db:=λ_ _ _ h=>h
 fn:=λ_ h=>h
 eb:=bS.eb T
 vJ:=bS.vJ T
 c3:=bS.c3 T
 tj:=⟨d,U,U⟩
 ui:=yf T
 zw:=ye T
 going:=e3.z8 λaR _=>i (dM (Bf T) aR) S6 S6
 self:=OS T d
 stub:=λV f a Tl c cs m g l j kc=>bS.stub V f a Tl c cs m g l j kc
 res:=λ_ _ h=>h
def Mc(T:Nat)(c d)(b:Nat)(h:je (zU T c d).Q=some b):b=(zU T c d).ht/\b=T:=by have:je (bS T)=some b:=h;rw[bS.je]at this;cases this;exact⟨S6,S6⟩
end Go.aO
namespace Go.aO
open Go.Proofs Tryz Go.RowKit
variable{t:Nat}
section
noncomputable abbrev ao(F:TJ):To:=⟨Tryz.progTables,F⟩
variable(F:TJ)
def xn(t:Nat):(ao F).info? t=prog.info? t:=congrArg (λx:Tables=>x.info? t) (show(ao F).toTables=prog.toTables from S6)
def EM(t:Nat):(ao F).underlying t=prog.underlying t:=by
 unfold Program.underlying;rw[xn F];rcases prog.info? t with _|⟨d,_,_,_,_,_,_,_,_,_⟩
 .rfl
 .cases d<;>first|rfl|(dsimp only;rw[xn F])
def gV{d:TI TypeDesc}(h:prog.underlying t=d):(ao F).underlying t=d:=(EM F t).trans h
def Np{d:TypeInfo}(h:∀w,Sem.run prog (typeInfo t) w=Result.ok d w)(w:S7):Sem.run (ao F) (typeInfo t) w=Result.ok d w:=by have e:=h w;simp only[typeInfo,Sem.run_bind,run_program,Result.andThen_ok]at e ⊢;rw[xn F];revert e;cases prog.info? t<;>exact id
def hr{d:TypeDesc}(h:∀w,Sem.run prog (Go.underlying t) w=Result.ok d w)(w:S7):Sem.run (ao F) (Go.underlying t) w=Result.ok d w:=by have e:=h w;simp only[Go.underlying,Sem.run_bind,run_program,Result.andThen_ok]at e ⊢;rw[EM F];revert e;cases prog.underlying t<;>exact id
def fw{n:Nat}(h:∀w,Sem.run prog (Go.sizeOf t) w=Result.ok n w)(w:S7):Sem.run (ao F) (Go.sizeOf t) w=Result.ok n w:=by have e:=h w;simp only[Go.sizeOf,typeInfo,Sem.run_bind,run_program,Result.andThen_ok]at e ⊢;rw[xn F];revert e;cases prog.info? t<;>exact id
@[simp] def ao.typeInfo109:=Np F Tryz.typeInfo76
@[simp] def ao.sizeOf3:=fw F Tryz.sizeOf3
@[simp] def ao.sizeOf4:=fw F Tryz.sizeOf4
@[simp] def ao.sizeOf21:=fw F Tryz.sizeOf21
@[simp] def ao.sizeOf22:=fw F Tryz.sizeOf22
@[simp] def ao.sizeOf23:=fw F Tryz.sizeOf23
@[simp] def ao.sizeOf25:=fw F Tryz.sizeOf25
@[simp] def ao.sizeOf27:=fw F Tryz.sizeOf27
@[simp] def ao.sizeOf50:=fw F Tryz.sizeOf141
@[simp] def ao.sizeOf52:=fw F Tryz.sizeOf50
@[simp] def ao.sizeOf54:=fw F Tryz.sizeOf52
@[simp] def ao.sizeOf64:=fw F Tryz.sizeOf63
@[simp] def ao.sizeOf77:=fw F Tryz.sizeOf64
@[simp] def ao.sizeOf82:=fw F Tryz.sizeOf71
@[simp] def ao.sizeOf92:=fw F Tryz.sizeOf118
@[simp] def ao.sizeOf94:=fw F Tryz.sizeOf120
@[simp] def ao.sizeOf96:=fw F Tryz.sizeOf122
@[simp] def ao.sizeOf98:=fw F Tryz.sizeOf124
@[simp] def ao.sizeOf100:=fw F Tryz.sizeOf126
@[simp] def ao.sizeOf101:=fw F Tryz.sizeOf127
@[simp] def ao.sizeOf103:=fw F Tryz.sizeOf129
@[simp] def ao.sizeOf104:=fw F Tryz.sizeOf130
@[simp] def ao.sizeOf107:=fw F Tryz.sizeOf74
@[simp] def ao.sizeOf109:=fw F Tryz.sizeOf76
@[simp] def ao.sizeOf111:=fw F Tryz.sizeOf82
@[simp] def ao.sizeOf119:=fw F Tryz.sizeOf78
@[simp] def ao.sizeOf120:=fw F Tryz.sizeOf79
@[simp] def ao.sizeOf124:=fw F Tryz.sizeOf84
@[simp] def ao.sizeOf132:=fw F Tryz.sizeOf105
@[simp] def ao.sizeOf134:=fw F Tryz.sizeOf107
@[simp] def ao.sizeOf147:=fw F Tryz.sizeOf135
@[simp] def ao.sizeOf151:=fw F Tryz.sizeOf139
@[simp] def ao.sizeOf157:=fw F Tryz.sizeOf146
@[simp] def ao.sizeOf167:=fw F Tryz.sizeOf148
@[simp] def ao.sizeOf169:=fw F Tryz.sizeOf150
@[simp] def ao.sizeOf173:=fw F Tryz.sizeOf159
@[simp] def ao.sizeOf178:=fw F Tryz.sizeOf166
@[simp] def ao.sizeOf179:=fw F Tryz.sizeOf167
@[simp] def ao.sizeOf182:=fw F Tryz.sizeOf170
@[simp] def ao.sizeOf185:=fw F Tryz.sizeOf175
@[simp] def ao.sizeOf187:=fw F Tryz.sizeOf177
@[simp] def ao.underlying3:=gV F Tryz.underlying3
@[simp] def ao.underlying4:=gV F Tryz.underlying4
@[simp] def ao.underlying22:=gV F Tryz.underlying22
@[simp] def ao.underlying23:=gV F Tryz.underlying23
@[simp] def ao.underlying25:=gV F Tryz.underlying25
@[simp] def ao.underlying32:=gV F Tryz.underlying32
@[simp] def ao.underlying42:=gV F Tryz.underlying37
@[simp] def ao.underlying52:=gV F Tryz.underlying50
@[simp] def ao.underlying64:=gV F Tryz.underlying63
@[simp] def ao.underlying76:=gV F Tryz.underlying59
@[simp] def ao.underlying77:=gV F Tryz.underlying64
@[simp] def ao.underlying87:=gV F Tryz.underlying114
@[simp] def ao.underlying101:=gV F Tryz.underlying127
@[simp] def ao.underlying103:=gV F Tryz.underlying129
@[simp] def ao.underlying104:=gV F Tryz.underlying130
@[simp] def ao.underlying119:=gV F Tryz.underlying78
@[simp] def ao.underlying120:=gV F Tryz.underlying79
@[simp] def ao.underlying124:=gV F Tryz.underlying84
@[simp] def ao.underlying132:=gV F Tryz.underlying105
@[simp] def ao.underlying136:=gV F Tryz.underlying109
@[simp] def ao.underlying151:=gV F Tryz.underlying139
@[simp] def ao.underlying157:=gV F Tryz.underlying146
@[simp] def ao.underlying159:=gV F Tryz.underlying172
@[simp] def ao.underlying161:=gV F Tryz.underlying144
@[simp] def ao.underlying173:=gV F Tryz.underlying159
@[simp] def ao.underlying178:=gV F Tryz.underlying166
@[simp] def ao.underlying179:=gV F Tryz.underlying167
@[simp] def ao.underlying182:=gV F Tryz.underlying170
@[simp] def ao.underlying185:=gV F Tryz.underlying175
@[simp] def ao.underlying187:=gV F Tryz.underlying177
@[simp] def ao.underlying193:=gV F Tryz.underlying187
@[simp] def ao.underlying271:=gV F Tryz.underlying268
@[simp] def ao.runUnderlying22:=hr F Tryz.runUnderlying22
@[simp] def ao.runUnderlying23:=hr F Tryz.runUnderlying23
@[simp] def ao.runUnderlying25:=hr F Tryz.runUnderlying25
@[simp] def ao.runUnderlying27:=hr F Tryz.runUnderlying27
@[simp] def ao.runUnderlying32:=hr F Tryz.runUnderlying32
@[simp] def ao.runUnderlying42:=hr F Tryz.runUnderlying37
@[simp] def ao.runUnderlying52:=hr F Tryz.runUnderlying50
@[simp] def ao.runUnderlying54:=hr F Tryz.runUnderlying52
@[simp] def ao.runUnderlying64:=hr F Tryz.runUnderlying63
@[simp] def ao.runUnderlying76:=hr F Tryz.runUnderlying59
@[simp] def ao.runUnderlying79:=hr F Tryz.runUnderlying66
@[simp] def ao.runUnderlying94:=hr F Tryz.runUnderlying120
@[simp] def ao.runUnderlying98:=hr F Tryz.runUnderlying124
@[simp] def ao.runUnderlying100:=hr F Tryz.runUnderlying126
@[simp] def ao.runUnderlying103:=hr F Tryz.runUnderlying129
@[simp] def ao.runUnderlying106:=hr F Tryz.runUnderlying132
@[simp] def ao.runUnderlying109:=hr F Tryz.runUnderlying76
@[simp] def ao.runUnderlying122:=hr F Tryz.runUnderlying81
@[simp] def ao.runUnderlying124:=hr F Tryz.runUnderlying84
@[simp] def ao.runUnderlying132:=hr F Tryz.runUnderlying105
@[simp] def ao.runUnderlying136:=hr F Tryz.runUnderlying109
@[simp] def ao.runUnderlying141:=hr F Tryz.runUnderlying99
@[simp] def ao.runUnderlying151:=hr F Tryz.runUnderlying139
@[simp] def ao.runUnderlying157:=hr F Tryz.runUnderlying146
@[simp] def ao.runUnderlying161:=hr F Tryz.runUnderlying144
@[simp] def ao.runUnderlying169:=hr F Tryz.runUnderlying150
@[simp] def ao.runUnderlying182:=hr F Tryz.runUnderlying170
@[simp] def ao.runUnderlying189:=hr F Tryz.runUnderlying179
@[simp] def ao.runUnderlying193:=hr F Tryz.runUnderlying187
@[simp] theorem ao.isAgg3(w:S7):Sem.run (ao F) (isAgg 3) w=.ok false w:=av
@[simp] theorem ao.isAgg4(w:S7):Sem.run (ao F) (isAgg 4) w=.ok false w:=av
@[simp] theorem ao.isAgg21(w:S7):Sem.run (ao F) (isAgg 21) w=.ok false w:=av
@[simp] theorem ao.isAgg22(w:S7):Sem.run (ao F) (isAgg 22) w=.ok false w:=av
@[simp] theorem ao.isAgg23(w:S7):Sem.run (ao F) (isAgg 23) w=.ok false w:=av
@[simp] theorem ao.isAgg25(w:S7):Sem.run (ao F) (isAgg 25) w=.ok true w:=av
@[simp] theorem ao.isAgg27(w:S7):Sem.run (ao F) (isAgg 27) w=.ok true w:=av
@[simp] theorem ao.isAgg50(w:S7):Sem.run (ao F) (isAgg 141) w=.ok false w:=av
@[simp] theorem ao.isAgg52(w:S7):Sem.run (ao F) (isAgg 50) w=.ok true w:=av
@[simp] theorem ao.isAgg54(w:S7):Sem.run (ao F) (isAgg 52) w=.ok true w:=av
@[simp] theorem ao.isAgg64(w:S7):Sem.run (ao F) (isAgg 63) w=.ok true w:=av
@[simp] theorem ao.isAgg77(w:S7):Sem.run (ao F) (isAgg 64) w=.ok false w:=av
@[simp] theorem ao.isAgg82(w:S7):Sem.run (ao F) (isAgg 71) w=.ok false w:=av
@[simp] theorem ao.isAgg103(w:S7):Sem.run (ao F) (isAgg 129) w=.ok true w:=av
@[simp] theorem ao.isAgg107(w:S7):Sem.run (ao F) (isAgg 74) w=.ok false w:=av
@[simp] theorem ao.isAgg109(w:S7):Sem.run (ao F) (isAgg 76) w=.ok true w:=av
@[simp] theorem ao.isAgg111(w:S7):Sem.run (ao F) (isAgg 82) w=.ok false w:=av
@[simp] theorem ao.isAgg119(w:S7):Sem.run (ao F) (isAgg 78) w=.ok false w:=av
@[simp] theorem ao.isAgg120(w:S7):Sem.run (ao F) (isAgg 79) w=.ok false w:=av
@[simp] theorem ao.isAgg124(w:S7):Sem.run (ao F) (isAgg 84) w=.ok true w:=av
@[simp] theorem ao.isAgg134(w:S7):Sem.run (ao F) (isAgg 107) w=.ok false w:=av
@[simp] theorem ao.isAgg147(w:S7):Sem.run (ao F) (isAgg 135) w=.ok false w:=av
@[simp] theorem ao.isAgg151(w:S7):Sem.run (ao F) (isAgg 139) w=.ok true w:=av
@[simp] theorem ao.isAgg167(w:S7):Sem.run (ao F) (isAgg 148) w=.ok false w:=av
@[simp] theorem ao.isAgg173(w:S7):Sem.run (ao F) (isAgg 159) w=.ok false w:=av
@[simp] theorem ao.isAgg178(w:S7):Sem.run (ao F) (isAgg 166) w=.ok false w:=av
@[simp] theorem ao.isAgg179(w:S7):Sem.run (ao F) (isAgg 167) w=.ok false w:=av
@[simp] theorem ao.isAgg182(w:S7):Sem.run (ao F) (isAgg 170) w=.ok true w:=av
@[simp] theorem ao.isAgg185(w:S7):Sem.run (ao F) (isAgg 175) w=.ok false w:=av
@[simp] theorem ao.isAgg187(w:S7):Sem.run (ao F) (isAgg 177) w=.ok false w:=av
@[simp] theorem ao.zeroValue3(w:S7):Sem.run (ao F) (zeroValue 3) w=.ok (ah 0) w:=av
@[simp] theorem ao.zeroValue25(w:S7):Sem.run (ao F) (zeroValue 25) w=.ok (.agg #[ah 0,.slice none 0 0,.slice none 0 0,.slice none 0 0]) w:=av
@[simp] theorem ao.zeroValue27(w:S7):Sem.run (ao F) (zeroValue 27) w=.ok (.agg #[ah 0,.slice none 0 0]) w:=av
@[simp] theorem ao.zeroValue52(w:S7):Sem.run (ao F) (zeroValue 50) w=.ok (.agg #[ah 0,ah 0]) w:=av
@[simp] theorem ao.zeroValue54(w:S7):Sem.run (ao F) (zeroValue 52) w=.ok (.agg #[ah 0,ah 0,ah 0,ah 0,ah 0]) w:=av
@[simp] theorem ao.zeroValue64(w:S7):Sem.run (ao F) (zeroValue 63) w=.ok (.agg #[ah 0,ah 0]) w:=av
@[simp] theorem ao.zeroValue79(w:S7):Sem.run (ao F) (zeroValue 66) w=.ok (.agg #[.slice none 0 0,ah 0,.int .u64 0]) w:=av
@[simp] theorem ao.zeroValue82(w:S7):Sem.run (ao F) (zeroValue 71) w=.ok (.pointer none) w:=av
@[simp] theorem ao.zeroValue103(w:S7):Sem.run (ao F) (zeroValue 129) w=.ok (.agg #[ah 0,ah 0,ah 0,ah 0,ah 0]) w:=av
@[simp] theorem ao.zeroValue106(w:S7):Sem.run (ao F) (zeroValue 132) w=.ok (.agg #[ah 0,.slice none 0 0,.slice none 0 0,.slice none 0 0,.int .u32 0,.int .i32 0,.int .u32 0,.int .u32 0,.int .i32 0,.int .u32 0,.int .u32 0,.int .i32 0,.int .u32 0,ah 0,ah 0,ah 0,ah 0,ah 0,ah 0,ah 0,ah 0,ah 0,ah 0,ah 0,ah 0,ah 0,ah 0,ah 0]) w:=av
@[simp] theorem ao.zeroValue109(w:S7):Sem.run (ao F) (zeroValue 76) w=.ok (.agg #[ah 0,ah 0,ah 0]) w:=av
@[simp] theorem ao.zeroValue122(w:S7):Sem.run (ao F) (zeroValue 81) w=.ok (.agg #[.pointer none,ah 0,ah 0,ah 0,.map none,.map none]) w:=av
@[simp] theorem ao.zeroValue124(w:S7):Sem.run (ao F) (zeroValue 84) w=.ok (.agg #[ah 0,ah 0,ah 0,ah 0,ah 0]) w:=av
@[simp] theorem ao.zeroValue132(w:S7):Sem.run (ao F) (zeroValue 105) w=.ok (.agg #[]) w:=av
@[simp] theorem ao.zeroValue136(w:S7):Sem.run (ao F) (zeroValue 109) w=.ok (.agg #[]) w:=av
@[simp] theorem ao.zeroValue141(w:S7):Sem.run (ao F) (zeroValue 99) w=.ok (.agg #[ah 0,ah 0,.bool false]) w:=av
@[simp] theorem ao.zeroValue151(w:S7):Sem.run (ao F) (zeroValue 139) w=.ok (.agg #[ah 0,ah 0]) w:=av
@[simp] theorem ao.zeroValue157(w:S7):Sem.run (ao F) (zeroValue 146) w=.ok (.agg #[ah 0]) w:=av
@[simp] theorem ao.zeroValue169(w:S7):Sem.run (ao F) (zeroValue 150) w=.ok (.agg #[Value.nilFunc,ah 0,ah 0,ah 0,ah 0,ah 0,.bool false]) w:=av
@[simp] theorem ao.zeroValue173(w:S7):Sem.run (ao F) (zeroValue 159) w=.ok (.map none) w:=av
@[simp] theorem ao.zeroValue178(w:S7):Sem.run (ao F) (zeroValue 166) w=.ok (.map none) w:=av
@[simp] theorem ao.zeroValue179(w:S7):Sem.run (ao F) (zeroValue 167) w=.ok (.map none) w:=av
@[simp] theorem ao.zeroValue182(w:S7):Sem.run (ao F) (zeroValue 170) w=.ok (.agg #[ah 0,ah 0]) w:=av
@[simp] theorem ao.stoodInHeld64:(ao F).stoodInHeld 63=false:=av
@[simp] theorem ao.S3:(ao F).stoodInHeld 139=false:=av
@[simp] theorem ao.S4:(ao F).stoodInHeld 170=false:=av
@[simp] theorem ao.eqGuardType64:(ao F).eqGuardType (ao F).depth 63=false:=av
@[simp] theorem ao.SS:(ao F).eqGuardType (ao F).depth 129=false:=av
end
end Go.aO
namespace Go.aO
variable{o:Obj}{w:World}
def al{p:Prop}(h:p):RowKit.Hid p:=h
def bT{row:Option Nat}:w.grownBy (w.alloc o) row:=World.grownBy_alloc _ _ _
def dU(w:World)(o:Obj)(row:Option Nat):w.grownBy (w.alloc o) row:=World.grownBy_alloc w o row
def e6(w:World)(row:Option Nat):w.grownBy w row:=World.grownBy.refl w row
def dR{c:Array Value}{t:TypeId}{n i:Nat}(h:n=w.heap.size):(w.alloc (.cells c t)).cell? {block:=n,off:=i}=c[i]?:=World.cell?_alloc_at _ _ _ _ h
def hD(o:Obj)(n i:Nat)(h:n<w.heap.size):(w.alloc o).cell? {block:=n,off:=i}=w.cell? {block:=n,off:=i}:=World.cell?_alloc_past o n i h
def cV(w:World)(o:Obj):(w.alloc o).heap.size=w.heap.size+1:=World.size_alloc w o
def dm{r:Nat}(h:r<w.heap.size):(w.alloc o).heap[r]?=w.heap[r]?:=Go.heap_alloc_old _ _ h
end Go.aO
namespace Go.aO
open Go.Proofs Tryz Go.RowKit
variable{B:Nat}{fn:TF}{bj:Ty}
section
def Body(F:TJ)(f:Tw):Prop:=∃fn,F[f]?=some fn/\ko fn=true/\fn.body.isSome=true
def ML:TA:=[5,44,46,42,49,66,56,71,72,89,90,92,93,134,135,150,200]
def stays(k:Nat):Ta:=!ML.contains k
def yN:TA:=[44,42,49,56,72,5,46,66,71,134,135]
class Std(F:TJ):Prop where
 on:∀k fn,aK.funcs[k]?=some fn->fn.body.isSome=true->stays k=true->F[k]?=some fn
 hL:∀k,k∈yN->Body F k
def Std.f{F:TJ}(S:Std F){k:Nat}(e:aK.funcs[k]?=some fn)(b:fn.body.isSome=true:=by rfl)(o:stays k=true:=by rfl):F[k]?=some fn:=S.on k fn e b o
def D2{sp:Tb (Nat×TF)}{rs:TA}:∀(l:Tb TF) (j k:Nat),(mix sp rs j l)[k]?=l[k]?.map (pick sp rs (j+k))
 | [],_,_=>by simp[mix]
 |x::l,j,0=>by simp[mix]
 |x::l,j,k+1=>by have:=D2 (sp:=sp) (rs:=rs) l (j+1) k;rw[Ul,Nat.add_comm 1 k]at this;simpa [mix]using this
noncomputable def Ge(sp:Tb (Nat×TF))(rs:TA):Ta:=sp.all (λx=>!stays x.1||x.1<2||x.1 == 101||x.1 == 136) && rs.all (λk=>!stays k) && yN.all λk=>((mix sp rs 0 aK.funcs.toList)[k]?).any λfn=>ko fn && fn.body.isSome
noncomputable def CR:Ta:=[0,1,101,136].all λk=>(aK.funcs[k]?).all λfn=>fn.body.isNone
def Jt:CR=true:=av
def DT:∀{sp:Tb (Nat×TF)} {k:Nat},(∀x∈sp,x.1≠k)->sp.lookup k=none
 | [],_,_=>rfl
 |(j,g)::l,k,h=>by
  rw[List.lookup_cons];have:¬(k == j)=true:=λe=>h (j,g) aF (eq_of_beq e).symm
  simp only[this];exact DT (λx c=>h x (by simp[c]))
theorem zT{sp:Tb (Nat×TF)}{rs:TA}(h:Ge sp rs=true):Std (mix sp rs 0 aK.funcs.toList).toArray:=by
 unfold Ge at h;rw[TS,TS]at h;obtain⟨⟨g,i⟩,l⟩:=h;rw[Un]at g i l;refine⟨λk fn e b o=>?_,λk u=>?_⟩
 .have f:=Jt
  unfold CR at f;rw[Un]at f;have c:∀j∈[0,1,101,136],j≠k:=λj r n=>by have:=f j r;rw[n,e]at this;simp at this;rw[this]at b;cases b
  have w:sp.lookup k=none:=DT (λx d p=>by have:=g x d;rw[p,o]at this;have cT:=c 0 aF;have z:=c 1 aF;have B:=c 101 aF;have C:=c 136 aF;simp at this;omega)
  have y:¬rs.contains k=true:=λq=>by have:=i k (by simpa using q);rw[o]at this;cases this
  have hp:pick sp rs k fn=fn:=by unfold pick;rw[w];dsimp only;rw[Tm y,Tm (λd=>by rw[Option.isNone_iff_eq_none.1 d]at b;cases b)]
  rw[List.getElem?_toArray,D2,Nat.zero_add];have m:aK.funcs.toList[k]?=some fn:=by simpa using e
  rw[m,Option.map_some,hp]
 .have:=l k u
  cases hm:(mix sp rs 0 aK.funcs.toList)[k]? with
  |none=>rw[hm]at this;cases this
  |some fn=>
   rw[hm]at this;simp at this;exact⟨fn,by rw[List.getElem?_toArray];exact hm,this.1,by simpa using this.2⟩
class jx(F:TJ):Prop where
 f62:F[42]?=some f42
 f69:F[49]?=some f49
 f85:F[56]?=some f56
class oA(F:TJ):Prop extends jx F where
 f91:F[72]?=some f72
def Cb{P:To}{f:Tw}(h:P.funcs[f]?=some fn)(g:ko fn=true)(i:fn.body.isSome=true)(args:Te)(w:S7):Sem.run P (callFunc f args) w=.ok (.enter f args) w:=by
 have c:¬(fn.name == "runtime.NumGoroutine")=true:=by simpa [ko]using g
 have d:¬fn.body.isNone=true:=by cases j:fn.body<;>simp_all
 have e:Sem.run P (callFunc f args) w=(match P.funcs[f]? with
  |none=>(stuck "call: no such function" : Sem Next)
  |some fn=>
   if fn.name == "runtime.NumGoroutine" then pure .numGoroutine
   else if fn.body.isNone then do
    mark (.extern f)
    if let some e:=Extern.findNext fn then return <-e args
    match Extern.find fn with
    |some e=>pure (.value (<-e args))
    |none=>
     if fn.name.endsWith ".init" && !fn.name.startsWith "(" && !fn.name.startsWith "gosem." then pure (.value (.tuple #[]))
     else unsupported (.extern fn.name)
   else pure (.enter f args)).run P w:=S6
 rw[e,h];dsimp only;rw[Tm c,Tm d];rfl
abbrev c7(F:TJ)(k:Nat):Prop:=∀(args:Te) (w:S7),Sem.run (ao F) (callFunc k args) w=.ok (.enter k args) w
variable{F:TJ}[S:Std F]
def dL{k:Nat}(e:aK.funcs[k]?=some fn)(n:ko fn=true:=by rfl)(b:fn.body.isSome=true:=by rfl)(o:stays k=true:=by rfl):c7 F k:=
 Cb (P:=ao F) (S.on k fn e b o) n b
def nO(k:Nat)(h:k∈yN:=by decide):c7 F k:=by let⟨fn,c,d,f⟩:=S.hL k h;exact Cb (P:=ao F) c d f
@[simp] theorem ao.call15:c7 F 4:=dL func4
@[simp] theorem ao.call17:c7 F 6:=dL func6
@[simp] theorem ao.call18:c7 F 7:=dL func7
@[simp] theorem ao.call19:c7 F 8:=dL func8
@[simp] theorem ao.call20:c7 F 9:=dL func9
@[simp] theorem ao.call23:c7 F 14:=dL func14
@[simp] theorem ao.call24:c7 F 10:=dL func10
@[simp] theorem ao.call28:c7 F 25:=dL func25
@[simp] theorem ao.call36:c7 F 53:=dL func53
@[simp] theorem ao.call38:c7 F 27:=dL func27
@[simp] theorem ao.call39:c7 F 24:=dL func24
@[simp] theorem ao.call46:c7 F 26:=dL func26
@[simp] theorem ao.call47:c7 F 28:=dL func28
@[simp] theorem ao.call48:c7 F 37:=dL func37
@[simp] theorem ao.call49:c7 F 44:=nO 44
@[simp] theorem ao.call50:c7 F 45:=dL func45
@[simp] theorem ao.call52:c7 F 36:=dL func36
@[simp] theorem ao.call53:c7 F 31:=dL func31
@[simp] theorem ao.call54:c7 F 32:=dL func32
@[simp] theorem ao.call55:c7 F 34:=dL func34
@[simp] theorem ao.call56:c7 F 58:=dL func58
@[simp] theorem ao.call57:c7 F 29:=dL func29
@[simp] theorem ao.call58:c7 F 30:=dL func30
@[simp] theorem ao.call59:c7 F 33:=dL func33
@[simp] theorem ao.call61:c7 F 38:=dL func38
@[simp] theorem ao.call62:c7 F 42:=nO 42
@[simp] theorem ao.call63:c7 F 43:=dL func43
@[simp] theorem ao.call64:c7 F 39:=dL func39
@[simp] theorem ao.call65:c7 F 40:=dL func40
@[simp] theorem ao.call66:c7 F 41:=dL func41
@[simp] theorem ao.call67:c7 F 47:=dL func47
@[simp] theorem ao.call69:c7 F 49:=nO 49
@[simp] theorem ao.call70:c7 F 50:=dL func50
@[simp] theorem ao.call71:c7 F 51:=dL func51
@[simp] theorem ao.call72:c7 F 52:=dL func52
@[simp] theorem ao.call73:c7 F 61:=dL func61
@[simp] theorem ao.call74:c7 F 62:=dL func62
@[simp] theorem ao.SM:c7 F 68:=dL func68
@[simp] theorem ao.call78:c7 F 69:=dL func69
@[simp] theorem ao.call79:c7 F 70:=dL func70
@[simp] theorem ao.call80:c7 F 60:=dL func60
@[simp] theorem ao.call81:c7 F 57:=dL func57
@[simp] theorem ao.call82:c7 F 76:=dL func76
@[simp] theorem ao.U3:c7 F 54:=dL func54
@[simp] theorem ao.U4:c7 F 55:=dL func55
@[simp] theorem ao.U5:c7 F 56:=nO 56
@[simp] theorem ao.call87:c7 F 63:=dL func63
@[simp] theorem ao.call88:c7 F 64:=dL func64
@[simp] theorem ao.UE:c7 F 72:=nO 72
@[simp] theorem ao.SN:c7 F 73:=dL func73
@[simp] theorem ao.SO:c7 F 77:=dL func77
@[simp] theorem ao.SP:c7 F 78:=dL func78
@[simp] theorem ao.SQ:c7 F 79:=dL func79
@[simp] theorem ao.U0:c7 F 87:=dL func87
@[simp] theorem ao.U1:c7 F 88:=dL func88
@[simp] theorem ao.SF:c7 F 74:=dL func74
@[simp] theorem ao.SG:c7 F 75:=dL func75
@[simp] theorem ao.UB:c7 F 94:=dL func94
@[simp] theorem ao.UC:c7 F 102:=dL func102
@[simp] theorem ao.SH:c7 F 103:=dL func103
@[simp] theorem ao.SI:c7 F 104:=dL func104
@[simp] theorem ao.call144:c7 F 137:=dL func137
@[simp] theorem ao.UD:c7 F 179:=dL func179
@[simp] theorem ao.SK:c7 F 180:=dL func180
@[simp] theorem ao.call16:c7 F 5:=nO 5
@[simp] theorem ao.call51:c7 F 46:=nO 46
@[simp] theorem ao.SL:c7 F 66:=nO 66
@[simp] theorem ao.U2:c7 F 134:=nO 134
@[simp] theorem ao.SJ:c7 F 135:=nO 135
instance bS.Gd(T:Nat):Std (bS.list T).toArray:=zT (by kernel_rfl)
def ER(w:S7)(p n:Int)(h:0<=p/\p<=1000000000)(c:0<=n/\n<=1000000000):Calls (ao F) 60 #[ah p,ah n] w λe w'=>e=.returned (ah (p+n))/\w=w':=by go_enter (S.f func60),ntmps60;go_wp2;go_ret;exact⟨S6,S6⟩
def oT(w:S7)(p:Int):Calls (ao F) 31 #[ah p] w λe w'=>e=.returned (ah p)/\w=w':=by go_enter (S.f func31),ntmps31;go_wp2;go_ret;exact⟨S6,S6⟩
end
section
variable{F:TJ}
structure pB(bf:TQ)(T B gg hG c' cA:Nat)(first:Ty):Prop where
 lt:T<B/\gg<B
 keep:∀w w' row,bf w->w.grownBy w' row->(∀b,row=some b->B<=b)->bf w'
 size:∀w,bf w->B<=w.heap.size
 k5:∀w,bf w->w.cell? (S8 T 1)=some (TW gg hG c' cA)
 cell:∀w,bf w->∀k,k<c'->w.cell? (S8 gg (hG+k))=Tn (first k)
 hL:∀k,0<=first k/\first k<=1000000
def ks(bj:Ty)(a:Nat):Nat->Int
 | 0=>0
 |n+1=>ks bj a n+bj (a+n)
def ha(f:Int)(bj:Ty)(S' aP:Nat):Int:=f+ks bj (S' / 24+1) (aP / 24-S' / 24)
def pA(F:TJ)(c:TQ)(T k:Nat)(bj:Ty):Prop:=
 ∀w,c w->Calls (ao F) 46 #[Tj T,ah k] w λe w'=>e=.returned (.agg #[ah (bj 0),ah (bj 1),ah (bj 2),ah (bj 3),ah (bj 4)])/\c w'/\w.grownBy w' (some T)
def Gm(c:∀d,0<=bj d/\bj d<=1000000)(a n:Nat):0<=ks bj a n/\ks bj a n<=n*1000000:=by
 induction n with
 |zero=>simp[ks]
 |succ n f=>have:=c (a+n);simp only[ks];omega
abbrev u3(bj:Ty):Obj:=.cells #[ah (bj 0),ah (bj 1),ah (bj 2),ah (bj 3),ah (bj 4)] 129
def Kz{c:TQ}{T i n m cA:Nat}{first:Ty}(K:pB c T B i n m cA first){w w2:S7}{x y:S9}(l:c w)(j:c w2)(f:(w.alloc (.cells #[x,y] 63)).grownBy w2 (some T)):
 (w2.alloc (u3 bj)).cell? (Ti w.heap.size)=some x/\(w2.alloc (u3 bj)).cell? (S8 w.heap.size 1)=some y/\(∀d,d<5->(w2.alloc (u3 bj)).cell? (S8 w2.heap.size d)=Tn (bj d))/\c (w2.alloc (u3 bj))/\w.grownBy (w2.alloc (u3 bj)) (some T):=by
 have h:w.heap.size<w2.heap.size:=by have:=f.size;rw[cV]at this;omega
 have g:some w.heap.size≠some T:=by have:=K.lt;have:=K.size w l;simp;omega
 refine⟨?_,?_,λd hd=>?_,K.keep _ _ none j bT lV,((dU w _ _).trans f).trans bT⟩
 .rw[hD _ _ _ h]
  exact f.cell (a:=(Ti w.heap.size)) (dR S6) g
 .rw[hD _ _ _ h]
  exact f.cell (a:=(S8 w.heap.size 1)) (dR S6) g
 .rw[dR S6]
  rcases d with _|_|_|_|_|d<;>first|rfl|omega
def si[S:Std F]{c:TQ}{T u H g cA:Nat}{first:Ty}(K:pB c T B u H g cA first){k:Nat}(C:k<g)(Q:g<=1000)(n:∀d,0<=bj d/\bj d<=1000000)(E:pA F c T k bj)(S' aP:Nat)(P:S'<120)(M:aP<120)(w:S7)(p:c w):
 Calls (ao F) 36 #[Tj T,ah k,.agg #[ah S',ah aP]] w λe w'=>e=.returned (ah (ha (first k) bj S' aP))/\c w'/\w.grownBy w' (some T):=by
 have D:=K.lt;have f:c (w.alloc (.cells #[ah S',ah aP] 63)):=K.keep _ _ none p bT lV;have i:=K.k5 _ f;have j:=K.cell _ f k C;have I:=K.hL k;go_enter (S.f func36),ntmps36;go_wp2_with (go_at_call 46;refine(E _ f).mono ?_;rintro e w2 ⟨rfl,l,o⟩;let⟨V,q1,q,y,z⟩:=Kz (bj:=bj) K p l o;clear o l i j;have r:=al q;clear q)
 go_loop [7,10] (λs v=>∃d:Nat,v=ah d/\S' / 24+1<=d/\(d<=aP / 24+1\/d=S' / 24+1)/\s=ah (first k+ks bj (S' / 24+1) (d-(S' / 24+1)))) (λ_ v=>aP / 24+1-(intOf v).toNat)
 case atStart=>exact⟨S' / 24+1,aF,bg,.inr S6,by simp[ks]⟩
 case round=>
  obtain⟨d,rfl,i,j,rfl⟩:=hrel;have G:=Gm n (S' / 24+1) (d-(S' / 24+1));have L:d-(S' / 24+1)<=6:=U;generalize m:ks bj (S' / 24+1) (d-(S' / 24+1))=W at G ⊢;have h:=al m;clear m;by_cases D:d<=aP / 24
  .have R:=r.out d U
   have J:=n d;go_wp2_with (go_at_call 60;refine(ER _ _ _ U U).mono ?_;rintro e w' ⟨rfl,rfl⟩)
   go_round
   case rel=>
    refine⟨d+1,by go_num,U,U,?_⟩;have e:d+1-(S' / 24+1)=d-(S' / 24+1)+1:=U;rw[e,ks,h.out,show S' / 24+1+(d-(S' / 24+1))=d by omega];go_num
   case measure=>simp[intOf];omega
  .go_wp2
   go_ret;refine⟨?_,y,z⟩;rw[ha,<-h.out,show d-(S' / 24+1)=aP / 24-S' / 24 by omega];rfl
end
section
variable{A:TJ}
def ku[S:Std A](n bY c:Int)(w:S7):Calls (ao A) 68 #[ah n,ah bY,ah c] w λe w'=>e=.returned (.bool (decide (bY<=n/\n<=c)))/\w=w':=by
 by_cases d:bY<=n
 .by_cases f:n<=c
  .have e:decide (bY<=n/\n<=c)=true:=by simp[d,f]
   rw[e];go_enter (S.f func68),ntmps68;go_wp2;go_ret;exact⟨S6,S6⟩
  .have e:decide (bY<=n/\n<=c)=false:=by simp[f]
   rw[e];go_enter (S.f func68),ntmps68;go_wp2;go_ret;exact⟨S6,S6⟩
 .have e:decide (bY<=n/\n<=c)=false:=by simp[d]
  rw[e];go_enter (S.f func68),ntmps68;go_wp2;go_ret;exact⟨S6,S6⟩
def jJ(n bY c:Int):Int:=if n<bY then 7 else if c<n then 6 else 0
def ru[S:Std A](n bY c:Int)(w:S7):Calls (ao A) 78 #[ah n,ah bY,ah c] w λe w'=>e=.returned (ah (jJ n bY c))/\w=w':=by
 by_cases d:n<bY
 .rw[show jJ n bY c=7 by simp[jJ,d]]
  go_enter (S.f func78),ntmps78;go_wp2;go_ret;exact⟨S6,S6⟩
 .by_cases f:c<n
  .rw[show jJ n bY c=6 by simp[jJ,d,f]]
   go_enter (S.f func78),ntmps78;go_wp2;go_ret;exact⟨S6,S6⟩
  .rw[show jJ n bY c=0 by simp[jJ,d,f]]
   go_enter (S.f func78),ntmps78;go_wp2;go_ret;exact⟨S6,S6⟩
def gn(w:S7)(b o n:Nat)(f:Ty):Prop:=∀k,k<n->w.cell? (S8 b (o+k))=Tn (f k)
end
end Go.aO
