/- A part. -/
import Derived.Test.YtejkocoljbaioaaGreatDoorP12
import Derived.WalkKit
import Derived.Lib.Hide
import Derived.OwnWalk
import Derived.Laws.AppendOwn
import Derived.Laws.IdiomRangeMap
import Derived.Laws.NewBlocks
import Derived.LoopTactic
import Derived.Maps.AppendAt
set_option maxHeartbeats 8000000
set_option maxRecDepth 100000
set_option linter.all false
namespace Go.aO
attribute [-simp] Go.Sem.runT_eq
open Go.Proofs
section
variable{R:Value->World->Prop}{T:Nat}
def J'(w:World):(Op.equal 16 (pt T) (pt T)).runT (bS T) w #[]=(.ok true w,#[]):=(y' T _ w).1 rfl
def Ev(T:Nat):Array Oper:=#[⟨some 2,.binOp .eql 16 (.tmp 0) (.const (.pointer (some ⟨T,0,none⟩))) 16,4,"",#[],none⟩,⟨some 3,.binOp .eql 3 (.tmp 1) (.const (ah 0)) 3,4,"",#[],none⟩]
def MV:Array Oper:=#[⟨some 4,.assign (.const iT),97,"",#[],none⟩]
def Cx:Code:=.cond (.tmp 2) (.cond (.tmp 3) (.seq (.region 1 MV false) .ret) (.refuse "")) (.refuse "")
def zl(kind:CallKind)(x y:Value):Frame:=⟨42,#[x,y]++Array.replicate 16 undef,[.code (.seq (.region 0 (Ev T) false) Cx)],[],.run,kind,none⟩
def J0(kind:CallKind)(x y:Value):Frame.enter (bS T) 42 #[x,y] kind=zl (T:=T) kind x y:=av
def Gl{dx:Machine}{kind:CallKind}{x y:Value}{C:List Frame}{w:World}{c:Array Value}(q:c.getD 0 undef=x)(p:c.getD 1 undef=y/\5<=c.size)(D:x=pt T\/w.tape w.drawn .zeroSizeEq=0)(h:dz (bS T) dx (lone ⟨42,c,[.code (.seq (.region 0 (Ev T) false) Cx)],[],.run,kind,none⟩ C w))(hC:2<=C.length)(j:S8 kind):
 x=pt T/\y=ah 0/\dz (bS T) dx (lone ⟨42,((c.setIfInBounds 2 (.bool true)).setIfInBounds 3 (.bool true)).setIfInBounds 4 iT,[.code .ret],[],.returning,kind,none⟩ C w):=by
 replace h:=h.reg (l:=[0,1]) hC rfl;obtain⟨v,aG,g,h⟩:=h.n3 (cW:=λv aG=>(v=.bool true/\x=pt T/\w=aG)\/v=.bool false) hC j rfl rfl rfl (dJ.eql rfl q (y:=pt T) rfl (by cases x<;>rfl) (by cases x<;>rfl) (by
  by_cases e:x=pt T
  .exact .ok (v:=true) (.inl ⟨rfl,e,rfl⟩) ((y' T x w).1 e)
  .rcases(y' T x w).2 e (D.resolve_left e)with⟨b,aG,es,rfl,r⟩|⟨E,aG,es,r,g⟩
   .exact .ok (.inr rfl) r
   .exact .no r g))
 have f:=nx (T:=c) (i:=2) (v:=v) p.2;have d:=mN (i:=2) (v:=v) p;generalize u:c.setIfInBounds 2 v=tI at h f d;obtain⟨o,_,⟨rfl,g'⟩,h⟩:=h.n3 hC j rfl rfl rfl (dJ.int (bS.Rv T) rfl d.1 rfl);replace h:=h.gM hC;rcases g with⟨rfl,z,rfl⟩|rfl
 .replace h:=h.cd hC (v:=true) (mN (i:=3) (v:=o) f).1
  have d:=nx (T:=tI) (i:=3) (v:=o) d.2;rcases g' with⟨rfl,B⟩|rfl
  .replace h:=(h.cd hC (v:=true) d.1).reg (l:=[0]) hC rfl
   obtain⟨_,_,⟨rfl,rfl⟩,h⟩:=h.n3 hC j rfl rfl rfl (dJ.ok (cW:=λv aG=>v=iT/\w=aG) (acc:=#[]) ⟨rfl,rfl⟩ rfl);subst u;exact⟨z,B,(h.gM hC).rt hC⟩
  .exact((h.cd hC (v:=false) d.1).ob hC).elim
 .exact((h.cd hC (v:=false) (mN (i:=3) (v:=o) f).1).ob hC).elim
def bS.stub(V:dt)(g:e3 (bS T) 56 R V)(a:Array Value)(kind:CallKind)(c:Frame)(cs:List Frame)(f:S8 kind)(j:a.size=2)(d:V.fr=Frame.enter (bS T) 42 a kind)(i:V.cs=c::cs)(kc:Kept c):
 a=#[pt T,ah 0]/\∃n,runN (bS T) n V.m=.next (lone (eU kind c iT) (cs++[wall]) V.w):=by
 obtain⟨x,y,rfl⟩:∃x y,a=#[x,y]:=⟨_,_,two a j⟩
 have hC:2<=(V.cs++[wall]).length:=by rw[i];simp
 rw[J0]at d;let aR:Tape:=λk q=>if k<V.w.drawn then V.w.tape k q else 0
 have A:dz (bS T) (V.iF aR).m (lone (zl (T:=T) kind x y) (V.cs++[wall]) (dM V.w aR)):=by rw[<-d];exact g.fA (aR:=aR) (λk h=>by funext q;simp[aR,h])
 obtain⟨rfl,rfl,_⟩:=Gl (x:=x) (y:=y) r5 ⟨r5,aF⟩ (.inr (by simp[aR,dM])) A hC f;refine⟨rfl,?_⟩;have A:dz (bS T) V.m (lone (zl (T:=T) kind (pt T) (ah 0)) (V.cs++[wall]) V.w):=by rw[<-d];exact g.fA (aR:=V.w.tape) (λ_ _=>rfl)
 obtain⟨_,_,A⟩:=Gl (x:=pt T) (y:=ah 0) r5 ⟨r5,aF⟩ (.inl rfl) A hC f;have l:l2 (bS T) kind ((⟨42,(((#[pt T,ah 0]++Array.replicate 16 undef).setIfInBounds 2 (.bool true)).setIfInBounds 3 (.bool true)).setIfInBounds 4 iT,[.code .ret],[],.returning,kind,none⟩:Frame),[]) []=some (iT,[]):=by rcases f with rfl|rfl<;>kernel_rfl
 rw[i]at A;exact(A.go aF (oY (main:=true) (st:=.running) (off:=none) l (rest:=cs++[wall]) kc (Does.nil V.w)).2).1
end
def nG(T:Nat):Array Obj:=(Array.replicate T (.cells #[] 0 (0,0))).push (.cells #[ah 2,sl (T+1) 2] 100 (0,2)) |>.push (.cells #[ah 2,ah 1] 3 (0,2))
def Bf(T:Nat):World:={heap:=nG T,tape:=λ_ _=>0,drawn:=0,os:=default,output:=#[]}
def yy(v:Value)(w:World):Prop:=∃b c l,v=four (b,c)/\w.heap[b]?=some (.cells (#[ah 2,ah 3,ah 5,ah 6]++l) 3 (0,0))/\c=l.size+4
def yf(T:Nat):(nG T)[T]?=some (.cells #[ah 2,sl (T+1) 2] 100 (0,2)):=by unfold nG;rw[iq,if_neg aF,iq,if_pos aF]
def ye(T:Nat):(nG T)[T+1]?=some (.cells #[ah 2,ah 1] 3 (0,2)):=by unfold nG;rw[iq,if_pos aF]
noncomputable def OQ(T:Nat)(h:(bS T).globals.size<=T):Ren where
 r a b:=a=b/\(a=T\/a=T+1)
 fwd:=by rintro a b c ⟨rfl,_⟩ ⟨rfl,_⟩;rfl
 bwd:=by rintro a b c ⟨rfl,_⟩ ⟨rfl,_⟩;rfl
 lim:=(bS T).globals.size
 low:=by rintro a b ⟨rfl,h⟩;exact Iff.rfl
 exact:=false
 cells:=(bS T).cellsOf
 cW:=λc=>codeOk (bS T) true c=true
 room:=true
 eb:=eK (bS T)
 fu:=ni (bS T)
def OS(T:Nat)(h:(bS T).globals.size<=T):Self (bS T) ⟨Frame.enter (bS T) 56 #[pt T,.agg dC] .normal,[],Bf T⟩:=by
 let ai:=OQ T h;have f:ai.r T T:=⟨rfl,.inl rfl⟩
 have l:ai.r (T+1) (T+1):=⟨rfl,.inr rfl⟩
 have fit:Fit (bS T) ai:=⟨⟨rfl,λ_=>bg,rfl,rfl⟩,rfl,λb e=>by rw[bS.je]at e;cases e;exact f⟩
 have g:bQ ai #[pt T,.agg dC] #[pt T,.agg dC]:=⟨rfl,λi x y c d=>by
  rw[c]at d;cases d;rcases i with _|_|i<;>simp at c<;>subst c
  .exact .ptr ⟨f,rfl,rfl⟩
  .exact Gc ai⟩
 refine⟨ai,fit,rfl,?_,.nil,?_,λ_ _=>rfl,?_,?_⟩
 .rcases x4 (pP (K:=jv (bS T)) (bS.ek T) 56 g (λn e=>by have e:eK (bS T) 56=some n:=e;rw[(bS.eb T).2]at e;cases e) .normal (.inl rfl))with h|⟨p,h,_⟩
  .exact h
  .have j:(Frame.enter (bS T) 56 #[pt T,.agg dC] .normal).todo = [.code (Tryz.f56.body.getD (.refuse ""))]:=av
   rw[j]at h;injection h with h _
   injection h with h
   have:(match Tryz.f56.body.getD (.refuse "")with |.refuse _=>true|_=>false)=false:=av;rw[h]at this;cases this
 .rintro b o ⟨rfl,rfl|rfl⟩
  .refine⟨_,_,yf b,yf b,.cells (.inl rfl) (λi x y c d=>?_) (.inl rfl)⟩
   rw[c]at d;cases d;rcases i with _|_|i<;>simp at c<;>subst c
   .exact .int _ _
   .exact aQ.slice (a:=⟨b+1,0,none⟩) (b:=⟨b+1,0,none⟩) ⟨l,rfl,rfl⟩ 2 2
  .refine⟨_,_,ye T,ye T,.cells (.inl rfl) (λi x y c d=>?_) (.inl rfl)⟩
   rw[c]at d;cases d;rcases i with _|_|i<;>simp at c<;>subst c<;>exact .int _ _
 .show(bS T).globals.size<=(nG T).size
  simp[nG];omega
 .show(bS T).globals.size<=(nG T).size
  simp[nG];omega
noncomputable def zU(T:Nat)(d:(bS T).globals.size<=T)(i:∀w:World,w.heap=nG T->w.drawn=0->Calls (bS T) 56 #[pt T,.agg dC] w λe w'=>∃v,e=.returned v/\yy v w'):et where
 Q:=bS T
 K:=bS.K T
 ht:=T
 fI:=T+1
 v0:=Bf T
 R:=yy
 S:=bS.S T
 ek:=bS.ek T
 H:=bS.H T
 db:=λ_ _ _ h=>h
 fn:=λ_ h=>h
 eb:=bS.eb T
 vJ:=bS.vJ T
 c3:=bS.c3 T
 tj:=⟨d,U,U⟩
 ui:=yf T
 zw:=ye T
 going:=e3.z8 λaR _=>i (dM (Bf T) aR) rfl rfl
 self:=OS T d
 stub:=λV f a kind c cs o g l j kc=>bS.stub V f a kind c cs o g l j kc
 res:=λ_ _ h=>h
def Mc(T:Nat)(c d)(b:Nat)(h:je (zU T c d).Q=some b):b=(zU T c d).ht/\b=T:=by have:je (bS T)=some b:=h;rw[bS.je]at this;cases this;exact⟨rfl,rfl⟩
end Go.aO
namespace Go.aO
open Go.Proofs Go.RowKit
variable{t:Nat}
section
noncomputable abbrev ao(F:Array Func):Program:=⟨Tryz.progTables,F⟩
variable(F:Array Func)
def xn(t:Nat):(ao F).info? t=Tryz.prog.info? t:=congrArg (λx:Tables=>x.info? t) (show(ao F).toTables=Tryz.prog.toTables from rfl)
def EM(t:Nat):(ao F).underlying t=Tryz.prog.underlying t:=by
 unfold Program.underlying;rw[xn F];rcases Tryz.prog.info? t with _|⟨d,_,_,_,_,_,_,_,_,_⟩
 .rfl
 .cases d<;>first|rfl|(dsimp only;rw[xn F])
def gV{d:Option TypeDesc}(h:Tryz.prog.underlying t=d):(ao F).underlying t=d:=(EM F t).trans h
def Np{d:TypeInfo}(h:∀w,Sem.run Tryz.prog (typeInfo t) w=Result.ok d w)(w:World):Sem.run (ao F) (typeInfo t) w=Result.ok d w:=by have e:=h w;simp only[typeInfo,Sem.run_bind,run_program,Result.andThen_ok]at e ⊢;rw[xn F];revert e;cases Tryz.prog.info? t<;>exact id
def hr{d:TypeDesc}(h:∀w,Sem.run Tryz.prog (Go.underlying t) w=Result.ok d w)(w:World):Sem.run (ao F) (Go.underlying t) w=Result.ok d w:=by have e:=h w;simp only[Go.underlying,Sem.run_bind,run_program,Result.andThen_ok]at e ⊢;rw[EM F];revert e;cases Tryz.prog.underlying t<;>exact id
def fw{n:Nat}(h:∀w,Sem.run Tryz.prog (Go.sizeOf t) w=Result.ok n w)(w:World):Sem.run (ao F) (Go.sizeOf t) w=Result.ok n w:=by have e:=h w;simp only[Go.sizeOf,typeInfo,Sem.run_bind,run_program,Result.andThen_ok]at e ⊢;rw[xn F];revert e;cases Tryz.prog.info? t<;>exact id
@[simp] def ao.typeInfo109:=Np F Tryz.typeInfo103
@[simp] def ao.sizeOf3:=fw F Tryz.sizeOf3
@[simp] def ao.sizeOf4:=fw F Tryz.sizeOf4
@[simp] def ao.sizeOf21:=fw F Tryz.sizeOf21
@[simp] def ao.sizeOf22:=fw F Tryz.sizeOf22
@[simp] def ao.sizeOf23:=fw F Tryz.sizeOf23
@[simp] def ao.sizeOf25:=fw F Tryz.sizeOf25
@[simp] def ao.sizeOf27:=fw F Tryz.sizeOf27
@[simp] def ao.sizeOf50:=fw F Tryz.sizeOf139
@[simp] def ao.sizeOf52:=fw F Tryz.sizeOf29
@[simp] def ao.sizeOf54:=fw F Tryz.sizeOf31
@[simp] def ao.sizeOf64:=fw F Tryz.sizeOf67
@[simp] def ao.sizeOf77:=fw F Tryz.sizeOf68
@[simp] def ao.sizeOf82:=fw F Tryz.sizeOf76
@[simp] def ao.sizeOf92:=fw F Tryz.sizeOf86
@[simp] def ao.sizeOf94:=fw F Tryz.sizeOf88
@[simp] def ao.sizeOf96:=fw F Tryz.sizeOf90
@[simp] def ao.sizeOf98:=fw F Tryz.sizeOf92
@[simp] def ao.sizeOf100:=fw F Tryz.sizeOf94
@[simp] def ao.sizeOf101:=fw F Tryz.sizeOf95
@[simp] def ao.sizeOf103:=fw F Tryz.sizeOf97
@[simp] def ao.sizeOf104:=fw F Tryz.sizeOf98
@[simp] def ao.sizeOf107:=fw F Tryz.sizeOf101
@[simp] def ao.sizeOf109:=fw F Tryz.sizeOf103
@[simp] def ao.sizeOf111:=fw F Tryz.sizeOf109
@[simp] def ao.sizeOf119:=fw F Tryz.sizeOf141
@[simp] def ao.sizeOf120:=fw F Tryz.sizeOf142
@[simp] def ao.sizeOf124:=fw F Tryz.sizeOf146
@[simp] def ao.sizeOf132:=fw F Tryz.sizeOf125
@[simp] def ao.sizeOf134:=fw F Tryz.sizeOf127
@[simp] def ao.sizeOf147:=fw F Tryz.sizeOf133
@[simp] def ao.sizeOf151:=fw F Tryz.sizeOf137
@[simp] def ao.sizeOf157:=fw F Tryz.sizeOf152
@[simp] def ao.sizeOf167:=fw F Tryz.sizeOf180
@[simp] def ao.sizeOf169:=fw F Tryz.sizeOf182
@[simp] def ao.sizeOf173:=fw F Tryz.sizeOf160
@[simp] def ao.sizeOf178:=fw F Tryz.sizeOf167
@[simp] def ao.sizeOf179:=fw F Tryz.sizeOf168
@[simp] def ao.sizeOf182:=fw F Tryz.sizeOf171
@[simp] def ao.sizeOf185:=fw F Tryz.sizeOf172
@[simp] def ao.sizeOf187:=fw F Tryz.sizeOf174
@[simp] def ao.underlying3:=gV F Tryz.underlying3
@[simp] def ao.underlying4:=gV F Tryz.underlying4
@[simp] def ao.underlying22:=gV F Tryz.underlying22
@[simp] def ao.underlying23:=gV F Tryz.underlying23
@[simp] def ao.underlying25:=gV F Tryz.underlying25
@[simp] def ao.underlying32:=gV F Tryz.underlying36
@[simp] def ao.underlying42:=gV F Tryz.underlying60
@[simp] def ao.underlying52:=gV F Tryz.underlying29
@[simp] def ao.underlying54:=gV F Tryz.underlying31
@[simp] def ao.underlying64:=gV F Tryz.underlying67
@[simp] def ao.underlying76:=gV F Tryz.underlying39
@[simp] def ao.underlying77:=gV F Tryz.underlying68
@[simp] def ao.underlying87:=gV F Tryz.underlying81
@[simp] def ao.underlying101:=gV F Tryz.underlying95
@[simp] def ao.underlying103:=gV F Tryz.underlying97
@[simp] def ao.underlying104:=gV F Tryz.underlying98
@[simp] def ao.underlying119:=gV F Tryz.underlying141
@[simp] def ao.underlying120:=gV F Tryz.underlying142
@[simp] def ao.underlying124:=gV F Tryz.underlying146
@[simp] def ao.underlying132:=gV F Tryz.underlying125
@[simp] def ao.underlying136:=gV F Tryz.underlying129
@[simp] def ao.underlying151:=gV F Tryz.underlying137
@[simp] def ao.underlying157:=gV F Tryz.underlying152
@[simp] def ao.underlying159:=gV F Tryz.underlying154
@[simp] def ao.underlying161:=gV F Tryz.underlying156
@[simp] def ao.underlying173:=gV F Tryz.underlying160
@[simp] def ao.underlying178:=gV F Tryz.underlying167
@[simp] def ao.underlying179:=gV F Tryz.underlying168
@[simp] def ao.underlying182:=gV F Tryz.underlying171
@[simp] def ao.underlying185:=gV F Tryz.underlying172
@[simp] def ao.underlying187:=gV F Tryz.underlying174
@[simp] def ao.underlying193:=gV F Tryz.underlying148
@[simp] def ao.underlying271:=gV F Tryz.underlying260
@[simp] def ao.runUnderlying22:=hr F Tryz.runUnderlying22
@[simp] def ao.runUnderlying23:=hr F Tryz.runUnderlying23
@[simp] def ao.runUnderlying25:=hr F Tryz.runUnderlying25
@[simp] def ao.runUnderlying27:=hr F Tryz.runUnderlying27
@[simp] def ao.runUnderlying32:=hr F Tryz.runUnderlying36
@[simp] def ao.runUnderlying42:=hr F Tryz.runUnderlying60
@[simp] def ao.runUnderlying52:=hr F Tryz.runUnderlying29
@[simp] def ao.runUnderlying54:=hr F Tryz.runUnderlying31
@[simp] def ao.runUnderlying64:=hr F Tryz.runUnderlying67
@[simp] def ao.runUnderlying76:=hr F Tryz.runUnderlying39
@[simp] def ao.runUnderlying79:=hr F Tryz.runUnderlying70
@[simp] def ao.runUnderlying94:=hr F Tryz.runUnderlying88
@[simp] def ao.runUnderlying98:=hr F Tryz.runUnderlying92
@[simp] def ao.runUnderlying100:=hr F Tryz.runUnderlying94
@[simp] def ao.runUnderlying103:=hr F Tryz.runUnderlying97
@[simp] def ao.runUnderlying106:=hr F Tryz.runUnderlying100
@[simp] def ao.runUnderlying109:=hr F Tryz.runUnderlying103
@[simp] def ao.runUnderlying122:=hr F Tryz.runUnderlying144
@[simp] def ao.runUnderlying124:=hr F Tryz.runUnderlying146
@[simp] def ao.runUnderlying132:=hr F Tryz.runUnderlying125
@[simp] def ao.runUnderlying136:=hr F Tryz.runUnderlying129
@[simp] def ao.runUnderlying141:=hr F Tryz.runUnderlying120
@[simp] def ao.runUnderlying151:=hr F Tryz.runUnderlying137
@[simp] def ao.runUnderlying157:=hr F Tryz.runUnderlying152
@[simp] def ao.runUnderlying161:=hr F Tryz.runUnderlying156
@[simp] def ao.runUnderlying169:=hr F Tryz.runUnderlying182
@[simp] def ao.runUnderlying182:=hr F Tryz.runUnderlying171
@[simp] def ao.runUnderlying189:=hr F Tryz.runUnderlying176
@[simp] def ao.runUnderlying193:=hr F Tryz.runUnderlying148
@[simp] theorem ao.isAgg3(w:World):Sem.run (ao F) (isAgg 3) w=.ok false w:=av
@[simp] theorem ao.isAgg4(w:World):Sem.run (ao F) (isAgg 4) w=.ok false w:=av
@[simp] theorem ao.isAgg21(w:World):Sem.run (ao F) (isAgg 21) w=.ok false w:=av
@[simp] theorem ao.isAgg22(w:World):Sem.run (ao F) (isAgg 22) w=.ok false w:=av
@[simp] theorem ao.isAgg23(w:World):Sem.run (ao F) (isAgg 23) w=.ok false w:=av
@[simp] theorem ao.isAgg25(w:World):Sem.run (ao F) (isAgg 25) w=.ok true w:=av
@[simp] theorem ao.isAgg27(w:World):Sem.run (ao F) (isAgg 27) w=.ok true w:=av
@[simp] theorem ao.isAgg50(w:World):Sem.run (ao F) (isAgg 139) w=.ok false w:=av
@[simp] theorem ao.isAgg52(w:World):Sem.run (ao F) (isAgg 29) w=.ok true w:=av
@[simp] theorem ao.isAgg54(w:World):Sem.run (ao F) (isAgg 31) w=.ok true w:=av
@[simp] theorem ao.isAgg64(w:World):Sem.run (ao F) (isAgg 67) w=.ok true w:=av
@[simp] theorem ao.isAgg77(w:World):Sem.run (ao F) (isAgg 68) w=.ok false w:=av
@[simp] theorem ao.isAgg82(w:World):Sem.run (ao F) (isAgg 76) w=.ok false w:=av
@[simp] theorem ao.isAgg103(w:World):Sem.run (ao F) (isAgg 97) w=.ok true w:=av
@[simp] theorem ao.isAgg107(w:World):Sem.run (ao F) (isAgg 101) w=.ok false w:=av
@[simp] theorem ao.isAgg109(w:World):Sem.run (ao F) (isAgg 103) w=.ok true w:=av
@[simp] theorem ao.isAgg111(w:World):Sem.run (ao F) (isAgg 109) w=.ok false w:=av
@[simp] theorem ao.isAgg119(w:World):Sem.run (ao F) (isAgg 141) w=.ok false w:=av
@[simp] theorem ao.isAgg120(w:World):Sem.run (ao F) (isAgg 142) w=.ok false w:=av
@[simp] theorem ao.isAgg124(w:World):Sem.run (ao F) (isAgg 146) w=.ok true w:=av
@[simp] theorem ao.isAgg134(w:World):Sem.run (ao F) (isAgg 127) w=.ok false w:=av
@[simp] theorem ao.isAgg147(w:World):Sem.run (ao F) (isAgg 133) w=.ok false w:=av
@[simp] theorem ao.isAgg151(w:World):Sem.run (ao F) (isAgg 137) w=.ok true w:=av
@[simp] theorem ao.isAgg167(w:World):Sem.run (ao F) (isAgg 180) w=.ok false w:=av
@[simp] theorem ao.isAgg173(w:World):Sem.run (ao F) (isAgg 160) w=.ok false w:=av
@[simp] theorem ao.isAgg178(w:World):Sem.run (ao F) (isAgg 167) w=.ok false w:=av
@[simp] theorem ao.isAgg179(w:World):Sem.run (ao F) (isAgg 168) w=.ok false w:=av
@[simp] theorem ao.isAgg182(w:World):Sem.run (ao F) (isAgg 171) w=.ok true w:=av
@[simp] theorem ao.isAgg185(w:World):Sem.run (ao F) (isAgg 172) w=.ok false w:=av
@[simp] theorem ao.isAgg187(w:World):Sem.run (ao F) (isAgg 174) w=.ok false w:=av
@[simp] theorem ao.zeroValue3(w:World):Sem.run (ao F) (zeroValue 3) w=.ok (ah 0) w:=av
@[simp] theorem ao.zeroValue25(w:World):Sem.run (ao F) (zeroValue 25) w=.ok (.agg #[ah 0,.slice none 0 0,.slice none 0 0,.slice none 0 0]) w:=av
@[simp] theorem ao.zeroValue27(w:World):Sem.run (ao F) (zeroValue 27) w=.ok (.agg #[ah 0,.slice none 0 0]) w:=av
@[simp] theorem ao.zeroValue52(w:World):Sem.run (ao F) (zeroValue 29) w=.ok (.agg #[ah 0,ah 0]) w:=av
@[simp] theorem ao.zeroValue54(w:World):Sem.run (ao F) (zeroValue 31) w=.ok (.agg #[ah 0,ah 0,ah 0,ah 0,ah 0]) w:=av
@[simp] theorem ao.zeroValue64(w:World):Sem.run (ao F) (zeroValue 67) w=.ok (.agg #[ah 0,ah 0]) w:=av
@[simp] theorem ao.zeroValue79(w:World):Sem.run (ao F) (zeroValue 70) w=.ok (.agg #[.slice none 0 0,ah 0,.int .u64 0]) w:=av
@[simp] theorem ao.zeroValue82(w:World):Sem.run (ao F) (zeroValue 76) w=.ok (.pointer none) w:=av
@[simp] theorem ao.zeroValue103(w:World):Sem.run (ao F) (zeroValue 97) w=.ok (.agg #[ah 0,ah 0,ah 0,ah 0,ah 0]) w:=av
@[simp] theorem ao.zeroValue106(w:World):Sem.run (ao F) (zeroValue 100) w=.ok (.agg #[ah 0,.slice none 0 0,.slice none 0 0,.slice none 0 0,.int .u32 0,.int .i32 0,.int .u32 0,.int .u32 0,.int .i32 0,.int .u32 0,.int .u32 0,.int .i32 0,.int .u32 0,ah 0,ah 0,ah 0,ah 0,ah 0,ah 0,ah 0,ah 0,ah 0,ah 0,ah 0,ah 0,ah 0,ah 0,ah 0]) w:=av
@[simp] theorem ao.zeroValue109(w:World):Sem.run (ao F) (zeroValue 103) w=.ok (.agg #[ah 0,ah 0,ah 0]) w:=av
@[simp] theorem ao.zeroValue122(w:World):Sem.run (ao F) (zeroValue 144) w=.ok (.agg #[.pointer none,ah 0,ah 0,ah 0,.map none,.map none]) w:=av
@[simp] theorem ao.zeroValue124(w:World):Sem.run (ao F) (zeroValue 146) w=.ok (.agg #[ah 0,ah 0,ah 0,ah 0,ah 0]) w:=av
@[simp] theorem ao.zeroValue132(w:World):Sem.run (ao F) (zeroValue 125) w=.ok (.agg #[]) w:=av
@[simp] theorem ao.zeroValue136(w:World):Sem.run (ao F) (zeroValue 129) w=.ok (.agg #[]) w:=av
@[simp] theorem ao.zeroValue141(w:World):Sem.run (ao F) (zeroValue 120) w=.ok (.agg #[ah 0,ah 0,.bool false]) w:=av
@[simp] theorem ao.zeroValue151(w:World):Sem.run (ao F) (zeroValue 137) w=.ok (.agg #[ah 0,ah 0]) w:=av
@[simp] theorem ao.zeroValue157(w:World):Sem.run (ao F) (zeroValue 152) w=.ok (.agg #[ah 0]) w:=av
@[simp] theorem ao.zeroValue169(w:World):Sem.run (ao F) (zeroValue 182) w=.ok (.agg #[Value.nilFunc,ah 0,ah 0,ah 0,ah 0,ah 0,.bool false]) w:=av
@[simp] theorem ao.zeroValue173(w:World):Sem.run (ao F) (zeroValue 160) w=.ok (.map none) w:=av
@[simp] theorem ao.zeroValue178(w:World):Sem.run (ao F) (zeroValue 167) w=.ok (.map none) w:=av
@[simp] theorem ao.zeroValue179(w:World):Sem.run (ao F) (zeroValue 168) w=.ok (.map none) w:=av
@[simp] theorem ao.zeroValue182(w:World):Sem.run (ao F) (zeroValue 171) w=.ok (.agg #[ah 0,ah 0]) w:=av
@[simp] theorem ao.stoodInHeld64:(ao F).stoodInHeld 67=false:=av
@[simp] theorem ao.S3:(ao F).stoodInHeld 137=false:=av
@[simp] theorem ao.S4:(ao F).stoodInHeld 171=false:=av
@[simp] theorem ao.eqGuardType64:(ao F).eqGuardType (ao F).depth 67=false:=av
@[simp] theorem ao.SS:(ao F).eqGuardType (ao F).depth 97=false:=av
end
end Go.aO
namespace Go.aO
variable{o:Obj}{w:World}
def al{p:Prop}(h:p):RowKit.Hid p:=h
def bT{row:Option Nat}:w.grownBy (w.alloc o) row:=World.grownBy_alloc _ _ _
def dU(w:World)(o:Obj)(row:Option Nat):w.grownBy (w.alloc o) row:=World.grownBy_alloc w o row
def e6(w:World)(row:Option Nat):w.grownBy w row:=World.grownBy.refl w row
def dR{c:Array Value}{t:TypeId}{n i:Nat}(h:n=w.heap.size):(w.alloc (.cells c t)).cell? {block:=n,off:=i}=c[i]?:=World.cell?_alloc_at _ _ _ _ h
def hD(o:Obj)(n i:Nat)(h:n<w.heap.size):(w.alloc o).cell? {block:=n,off:=i}=w.cell? {block:=n,off:=i}:=World.cell?_alloc_past o n i h
def cV(w:World)(o:Obj):(w.alloc o).heap.size=w.heap.size+1:=World.size_alloc w o
def dm{r:Nat}(h:r<w.heap.size):(w.alloc o).heap[r]?=w.heap[r]?:=Go.heap_alloc_old _ _ h
end Go.aO
namespace Go.aO
open Go.Proofs Go.RowKit
variable{fn:Func}{B T cA:Nat}{bj:Nat->Int}
section
def Body(F:Array Func)(f:FuncId):Prop:=∃fn,F[f]?=some fn/\ko fn=true/\fn.body.isSome=true
def ML:List Nat:=[5,40,42,60,64,71,84,79,80,94,95,97,98,128,129,149,205]
def stays(k:Nat):Bool:=!ML.contains k
def yN:List Nat:=[40,60,64,84,80,5,42,71,79,128,129]
class Std(F:Array Func):Prop where
 on:∀k fn,aK.funcs[k]?=some fn->fn.body.isSome=true->stays k=true->F[k]?=some fn
 hL:∀k,k∈yN->Body F k
def Std.f{F:Array Func}(S:Std F){k:Nat}(e:aK.funcs[k]?=some fn)(b:fn.body.isSome=true:=by rfl)(o:stays k=true:=by rfl):F[k]?=some fn:=S.on k fn e b o
def D2{sp:List (Nat×Func)}{rs:List Nat}:∀(l:List Func) (j k:Nat),(mix sp rs j l)[k]?=l[k]?.map (pick sp rs (j+k))
 | [],_,_=>by simp[mix]
 |x::l,j,0=>by simp[mix]
 |x::l,j,k+1=>by have:=D2 (sp:=sp) (rs:=rs) l (j+1) k;rw[Nat.add_assoc,Nat.add_comm 1 k]at this;simpa [mix]using this
noncomputable def Ge(sp:List (Nat×Func))(rs:List Nat):Bool:=sp.all (λx=>!stays x.1||x.1<2||x.1 == 103||x.1 == 130) && rs.all (λk=>!stays k) && yN.all λk=>((mix sp rs 0 aK.funcs.toList)[k]?).any λfn=>ko fn && fn.body.isSome
noncomputable def CR:Bool:=[0,1,103,130].all λk=>(aK.funcs[k]?).all λfn=>fn.body.isNone
def Jt:CR=true:=av
def DT:∀{sp:List (Nat×Func)} {k:Nat},(∀x∈sp,x.1≠k)->sp.lookup k=none
 | [],_,_=>rfl
 |(j,g)::l,k,h=>by
  rw[List.lookup_cons];have:¬(k == j)=true:=λe=>h (j,g) aF (eq_of_beq e).symm
  simp only[this];exact DT (λx c=>h x (by simp[c]))
theorem zT{sp:List (Nat×Func)}{rs:List Nat}(h:Ge sp rs=true):Std (mix sp rs 0 aK.funcs.toList).toArray:=by
 unfold Ge at h;rw[Bool.and_eq_true,Bool.and_eq_true]at h;obtain⟨⟨g,i⟩,l⟩:=h;rw[List.all_eq_true]at g i l;refine⟨λk fn e b o=>?_,λk z=>?_⟩
 .have f:=Jt
  unfold CR at f;rw[List.all_eq_true]at f;have c:∀j∈[0,1,103,130],j≠k:=λj w q=>by have:=f j w;rw[q,e]at this;simp at this;rw[this]at b;cases b
  have B:sp.lookup k=none:=DT (λx d r=>by have:=g x d;rw[r,o]at this;have cT:=c 0 aF;have D:=c 1 aF;have E:=c 103 aF;have F:=c 130 aF;simp at this;omega)
  have C:¬rs.contains k=true:=λu=>by have:=i k (by simpa using u);rw[o]at this;cases this
  have hp:pick sp rs k fn=fn:=by unfold pick;rw[B];dsimp only;rw[if_neg C,if_neg (λd=>by rw[Option.isNone_iff_eq_none.1 d]at b;cases b)]
  rw[List.getElem?_toArray,D2,Nat.zero_add];have p:aK.funcs.toList[k]?=some fn:=by simpa using e
  rw[p,Option.map_some,hp]
 .have:=l k z
  cases hm:(mix sp rs 0 aK.funcs.toList)[k]? with
  |none=>rw[hm]at this;cases this
  |some fn=>
   rw[hm]at this;simp at this;exact⟨fn,by rw[List.getElem?_toArray];exact hm,this.1,by simpa using this.2⟩
class jx(F:Array Func):Prop where
 f62:F[60]?=some Tryz.f60
 f69:F[64]?=some Tryz.f64
 f85:F[84]?=some Tryz.f84
class oA(F:Array Func):Prop extends jx F where
 f91:F[80]?=some Tryz.f80
def Cb{P:Program}{f:FuncId}(h:P.funcs[f]?=some fn)(g:ko fn=true)(i:fn.body.isSome=true)(args:Array Value)(w:World):Sem.run P (callFunc f args) w=.ok (.enter f args) w:=by
 have c:¬(fn.name == "runtime.NumGoroutine")=true:=by simpa [ko]using g
 have d:¬fn.body.isNone=true:=by cases j:fn.body<;>simp_all
 have e:Sem.run P (callFunc f args) w=(match P.funcs[f]? with
  |none=>(stuck "call: no such function" : Sem Next)
  |some fn=>
   if fn.name == "runtime.NumGoroutine" then pure .numGoroutine
   else if fn.body.isNone then do
    mark (.extern f)
    if let some e:=Extern.findNext fn then return <-e args
    match Extern.find fn with
    |some e=>pure (.value (<-e args))
    |none=>
     if fn.name.endsWith ".init" && !fn.name.startsWith "(" && !fn.name.startsWith "gosem." then pure (.value (.tuple #[]))
     else unsupported (.extern fn.name)
   else pure (.enter f args)).run P w:=rfl
 rw[e,h];dsimp only;rw[if_neg c,if_neg d];rfl
abbrev c7(F:Array Func)(k:Nat):Prop:=∀(args:Array Value) (w:World),Sem.run (ao F) (callFunc k args) w=.ok (.enter k args) w
variable{F:Array Func}[S:Std F]
def dL{k:Nat}(e:aK.funcs[k]?=some fn)(n:ko fn=true:=by rfl)(b:fn.body.isSome=true:=by rfl)(o:stays k=true:=by rfl):c7 F k:=
 Cb (P:=ao F) (S.on k fn e b o) n b
def nO(k:Nat)(h:k∈yN:=by decide):c7 F k:=by obtain⟨fn,c,d,f⟩:=S.hL k h;exact Cb (P:=ao F) c d f
@[simp] theorem ao.Ti:c7 F 10:=dL Tryz.func10
@[simp] theorem ao.Tj:c7 F 11:=dL Tryz.func11
@[simp] theorem ao.Tk:c7 F 15:=dL Tryz.func15
@[simp] theorem ao.Tl:c7 F 17:=dL Tryz.func17
@[simp] theorem ao.Tm:c7 F 37:=dL Tryz.func37
@[simp] theorem ao.Tn:c7 F 70:=dL Tryz.func70
@[simp] theorem ao.call15:c7 F 4:=dL Tryz.func4
@[simp] theorem ao.call17:c7 F 6:=dL Tryz.func6
@[simp] theorem ao.call18:c7 F 7:=dL Tryz.func7
@[simp] theorem ao.call19:c7 F 9:=dL Tryz.func9
@[simp] theorem ao.call20:c7 F 12:=dL Tryz.func12
@[simp] theorem ao.call23:c7 F 20:=dL Tryz.func20
@[simp] theorem ao.call24:c7 F 35:=dL Tryz.func35
@[simp] theorem ao.call28:c7 F 32:=dL Tryz.func32
@[simp] theorem ao.call30:c7 F 16:=dL Tryz.func16
@[simp] theorem ao.call31:c7 F 8:=dL Tryz.func8
@[simp] theorem ao.call36:c7 F 13:=dL Tryz.func13
@[simp] theorem ao.call38:c7 F 34:=dL Tryz.func34
@[simp] theorem ao.call39:c7 F 30:=dL Tryz.func30
@[simp] theorem ao.call41:c7 F 14:=dL Tryz.func14
@[simp] theorem ao.call46:c7 F 33:=dL Tryz.func33
@[simp] theorem ao.call47:c7 F 38:=dL Tryz.func38
@[simp] theorem ao.call48:c7 F 39:=dL Tryz.func39
@[simp] theorem ao.call49:c7 F 40:=nO 40
@[simp] theorem ao.call50:c7 F 41:=dL Tryz.func41
@[simp] theorem ao.call52:c7 F 47:=dL Tryz.func47
@[simp] theorem ao.call53:c7 F 48:=dL Tryz.func48
@[simp] theorem ao.call54:c7 F 43:=dL Tryz.func43
@[simp] theorem ao.call55:c7 F 44:=dL Tryz.func44
@[simp] theorem ao.call56:c7 F 50:=dL Tryz.func50
@[simp] theorem ao.call57:c7 F 46:=dL Tryz.func46
@[simp] theorem ao.call58:c7 F 68:=dL Tryz.func68
@[simp] theorem ao.call59:c7 F 49:=dL Tryz.func49
@[simp] theorem ao.call61:c7 F 56:=dL Tryz.func56
@[simp] theorem ao.call62:c7 F 60:=nO 60
@[simp] theorem ao.call63:c7 F 61:=dL Tryz.func61
@[simp] theorem ao.call64:c7 F 57:=dL Tryz.func57
@[simp] theorem ao.call65:c7 F 58:=dL Tryz.func58
@[simp] theorem ao.call66:c7 F 59:=dL Tryz.func59
@[simp] theorem ao.call67:c7 F 62:=dL Tryz.func62
@[simp] theorem ao.call69:c7 F 64:=nO 64
@[simp] theorem ao.call70:c7 F 65:=dL Tryz.func65
@[simp] theorem ao.call71:c7 F 66:=dL Tryz.func66
@[simp] theorem ao.call72:c7 F 67:=dL Tryz.func67
@[simp] theorem ao.call73:c7 F 18:=dL Tryz.func18
@[simp] theorem ao.call74:c7 F 36:=dL Tryz.func36
@[simp] theorem ao.SM:c7 F 51:=dL Tryz.func51
@[simp] theorem ao.call78:c7 F 73:=dL Tryz.func73
@[simp] theorem ao.call79:c7 F 74:=dL Tryz.func74
@[simp] theorem ao.call80:c7 F 75:=dL Tryz.func75
@[simp] theorem ao.call81:c7 F 19:=dL Tryz.func19
@[simp] theorem ao.call82:c7 F 45:=dL Tryz.func45
@[simp] theorem ao.call83:c7 F 82:=dL Tryz.func82
@[simp] theorem ao.call84:c7 F 83:=dL Tryz.func83
@[simp] theorem ao.Tf:c7 F 84:=nO 84
@[simp] theorem ao.Tg:c7 F 76:=dL Tryz.func76
@[simp] theorem ao.call88:c7 F 77:=dL Tryz.func77
@[simp] theorem ao.call91:c7 F 80:=nO 80
@[simp] theorem ao.SN:c7 F 81:=dL Tryz.func81
@[simp] theorem ao.SO:c7 F 52:=dL Tryz.func52
@[simp] theorem ao.SP:c7 F 53:=dL Tryz.func53
@[simp] theorem ao.SQ:c7 F 69:=dL Tryz.func69
@[simp] theorem ao.Ta:c7 F 89:=dL Tryz.func89
@[simp] theorem ao.Tb:c7 F 90:=dL Tryz.func90
@[simp] theorem ao.SF:c7 F 54:=dL Tryz.func54
@[simp] theorem ao.SG:c7 F 55:=dL Tryz.func55
@[simp] theorem ao.Tc:c7 F 99:=dL Tryz.func99
@[simp] theorem ao.call117:c7 F 104:=dL Tryz.func104
@[simp] theorem ao.SH:c7 F 105:=dL Tryz.func105
@[simp] theorem ao.SI:c7 F 106:=dL Tryz.func106
@[simp] theorem ao.Td:c7 F 131:=dL Tryz.func131
@[simp] theorem ao.Te:c7 F 184:=dL Tryz.func184
@[simp] theorem ao.SK:c7 F 185:=dL Tryz.func185
@[simp] theorem ao.call16:c7 F 5:=nO 5
@[simp] theorem ao.call51:c7 F 42:=nO 42
@[simp] theorem ao.SL:c7 F 71:=nO 71
@[simp] theorem ao.call141:c7 F 128:=nO 128
@[simp] theorem ao.SJ:c7 F 129:=nO 129
instance bS.Gd(T:Nat):Std (bS.list T).toArray:=zT (by kernel_rfl)
def ER(w:World)(p n:Int)(h:0<=p/\p<=1000000000)(c:0<=n/\n<=1000000000):Calls (ao F) 75 #[ah p,ah n] w λe w'=>e=.returned (ah (p+n))/\w=w':=by go_enter (S.f Tryz.func75),Tryz.ntmps75;go_wp2;go_ret;exact⟨rfl,rfl⟩
def oT(w:World)(p:Int):Calls (ao F) 48 #[ah p] w λe w'=>e=.returned (ah p)/\w=w':=by go_enter (S.f Tryz.func48),Tryz.ntmps48;go_wp2;go_ret;exact⟨rfl,rfl⟩
end
section
variable{F:Array Func}
structure pB(bf:World->Prop)(T B gg hG c' cA:Nat)(first:Nat->Int):Prop where
 lt:T<B/\gg<B
 keep:∀w w' row,bf w->w.grownBy w' row->(∀b,row=some b->B<=b)->bf w'
 size:∀w,bf w->B<=w.heap.size
 k5:∀w,bf w->w.cell? ⟨T,1,none⟩=some (.slice (some ⟨gg,hG,none⟩) c' cA)
 cell:∀w,bf w->∀k,k<c'->w.cell? ⟨gg,hG+k,none⟩=some (ah (first k))
 hL:∀k,0<=first k/\first k<=1000000
def ks(bj:Nat->Int)(a:Nat):Nat->Int
 | 0=>0
 |n+1=>ks bj a n+bj (a+n)
def ha(f:Int)(bj:Nat->Int)(left aP:Nat):Int:=f+ks bj (left / 24+1) (aP / 24-left / 24)
def pA(F:Array Func)(c:World->Prop)(T k:Nat)(bj:Nat->Int):Prop:=
 ∀w,c w->Calls (ao F) 42 #[.pointer (some ⟨T,0,none⟩),ah k] w λe w'=>e=.returned (.agg #[ah (bj 0),ah (bj 1),ah (bj 2),ah (bj 3),ah (bj 4)])/\c w'/\w.grownBy w' (some T)
def Gm(c:∀d,0<=bj d/\bj d<=1000000)(a n:Nat):0<=ks bj a n/\ks bj a n<=n*1000000:=by
 induction n with
 |zero=>simp[ks]
 |succ n f=>have:=c (a+n);simp only[ks];omega
abbrev u3(bj:Nat->Int):Obj:=.cells #[ah (bj 0),ah (bj 1),ah (bj 2),ah (bj 3),ah (bj 4)] 97
def Kz{c:World->Prop}{i p o:Nat}{first:Nat->Int}(K:pB c T B i p o cA first){w w2:World}{x y:Value}(l:c w)(j:c w2)(f:(w.alloc (.cells #[x,y] 67)).grownBy w2 (some T)):
 (w2.alloc (u3 bj)).cell? ⟨w.heap.size,0,none⟩=some x/\(w2.alloc (u3 bj)).cell? ⟨w.heap.size,1,none⟩=some y/\(∀d,d<5->(w2.alloc (u3 bj)).cell? ⟨w2.heap.size,d,none⟩=some (ah (bj d)))/\c (w2.alloc (u3 bj))/\w.grownBy (w2.alloc (u3 bj)) (some T):=by
 have h:w.heap.size<w2.heap.size:=by have:=f.size;rw[cV]at this;omega
 have g:some w.heap.size≠some T:=by have:=K.lt;have:=K.size w l;simp;omega
 refine⟨?_,?_,λd hd=>?_,K.keep _ _ none j bT lV,((dU w _ _).trans f).trans bT⟩
 .rw[hD _ _ _ h]
  exact f.cell (a:=⟨w.heap.size,0,none⟩) (dR rfl) g
 .rw[hD _ _ _ h]
  exact f.cell (a:=⟨w.heap.size,1,none⟩) (dR rfl) g
 .rw[dR rfl]
  rcases d with _|_|_|_|_|d<;>first|rfl|omega
def si[S:Std F]{c:World->Prop}{C L g:Nat}{first:Nat->Int}(K:pB c T B C L g cA first){k:Nat}(G:k<g)(W:g<=1000)(p:∀d,0<=bj d/\bj d<=1000000)(I:pA F c T k bj)(left aP:Nat)(V:left<120)(R:aP<120)(w:World)(r:c w):
 Calls (ao F) 47 #[.pointer (some ⟨T,0,none⟩),ah k,.agg #[ah left,ah aP]] w λe w'=>e=.returned (ah (ha (first k) bj left aP))/\c w'/\w.grownBy w' (some T):=by
 have H:=K.lt;have f:c (w.alloc (.cells #[ah left,ah aP] 67)):=K.keep _ _ none r bT lV;have i:=K.k5 _ f;have j:=K.cell _ f k G;have M:=K.hL k;go_enter (S.f Tryz.func47),Tryz.ntmps47;go_wp2_with (go_at_call 42;refine(I _ f).mono ?_;rintro e w2 ⟨rfl,l,q⟩;obtain⟨Y,q1,u,D,E⟩:=Kz (bj:=bj) K r l q;clear q l i j;have z:=al u;clear u)
 go_loop [7,10] (λs v=>∃d:Nat,v=ah d/\left / 24+1<=d/\(d<=aP / 24+1\/d=left / 24+1)/\s=ah (first k+ks bj (left / 24+1) (d-(left / 24+1)))) (λ_ v=>aP / 24+1-(intOf v).toNat)
 case atStart=>exact⟨left / 24+1,aF,bg,.inr rfl,by simp[ks]⟩
 case round=>
  obtain⟨d,rfl,i,j,rfl⟩:=hrel;have J:=Gm p (left / 24+1) (d-(left / 24+1));have Q:d-(left / 24+1)<=6:=U;generalize o:ks bj (left / 24+1) (d-(left / 24+1))=Z at J ⊢;have h:=al o;clear o;by_cases H:d<=aP / 24
  .have X:=z.out d U
   have P:=p d;go_wp2_with (go_at_call 75;refine(ER _ _ _ U U).mono ?_;rintro e w' ⟨rfl,rfl⟩)
   go_round
   case rel=>
    refine⟨d+1,by go_num,U,U,?_⟩;have e:d+1-(left / 24+1)=d-(left / 24+1)+1:=U;rw[e,ks,h.out,show left / 24+1+(d-(left / 24+1))=d by omega];go_num
   case measure=>simp[intOf];omega
  .go_wp2
   go_ret;refine⟨?_,D,E⟩;rw[ha,<-h.out,show d-(left / 24+1)=aP / 24-left / 24 by omega];rfl
end
section
variable{A:Array Func}
def ku[S:Std A](n bY c:Int)(w:World):Calls (ao A) 51 #[ah n,ah bY,ah c] w λe w'=>e=.returned (.bool (decide (bY<=n/\n<=c)))/\w=w':=by
 by_cases d:bY<=n
 .by_cases f:n<=c
  .have e:decide (bY<=n/\n<=c)=true:=by simp[d,f]
   rw[e];go_enter (S.f Tryz.func51),Tryz.ntmps51;go_wp2;go_ret;exact⟨rfl,rfl⟩
  .have e:decide (bY<=n/\n<=c)=false:=by simp[f]
   rw[e];go_enter (S.f Tryz.func51),Tryz.ntmps51;go_wp2;go_ret;exact⟨rfl,rfl⟩
 .have e:decide (bY<=n/\n<=c)=false:=by simp[d]
  rw[e];go_enter (S.f Tryz.func51),Tryz.ntmps51;go_wp2;go_ret;exact⟨rfl,rfl⟩
def jJ(n bY c:Int):Int:=if n<bY then 7 else if c<n then 6 else 0
def ru[S:Std A](n bY c:Int)(w:World):Calls (ao A) 53 #[ah n,ah bY,ah c] w λe w'=>e=.returned (ah (jJ n bY c))/\w=w':=by
 by_cases d:n<bY
 .rw[show jJ n bY c=7 by simp[jJ,d]]
  go_enter (S.f Tryz.func53),Tryz.ntmps53;go_wp2;go_ret;exact⟨rfl,rfl⟩
 .by_cases f:c<n
  .rw[show jJ n bY c=6 by simp[jJ,d,f]]
   go_enter (S.f Tryz.func53),Tryz.ntmps53;go_wp2;go_ret;exact⟨rfl,rfl⟩
  .rw[show jJ n bY c=0 by simp[jJ,d,f]]
   go_enter (S.f Tryz.func53),Tryz.ntmps53;go_wp2;go_ret;exact⟨rfl,rfl⟩
def gn(w:World)(b o n:Nat)(f:Nat->Int):Prop:=∀k,k<n->w.cell? ⟨b,o+k,none⟩=some (ah (f k))
end
end Go.aO
