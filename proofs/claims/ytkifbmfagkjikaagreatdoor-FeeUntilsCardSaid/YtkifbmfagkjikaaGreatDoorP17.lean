/- A part; no conditions. -/
import Derived.Test.YtkifbmfagkjikaaGreatDoorP16
import Derived.WalkKit
import Derived.Lib.Hide
import Derived.OwnWalk
import Derived.Laws.AppendOwn
import Derived.Laws.IdiomRangeMap
import Derived.Laws.NewBlocks
import Derived.LoopTactic
import Derived.Maps.AppendAt
set_option maxHeartbeats 8000000
set_option maxRecDepth 100000
set_option linter.all false
namespace Go.aO
attribute [-simp] Go.Sem.runT_eq
open Go.Proofs
section
variable{R:Value->World->Prop}{T:Nat}
def J'(w:World):(Op.equal 16 (pt T) (pt T)).runT (bS T) w #[]=(.ok true w,#[]):=(y' T _ w).1 rfl
def Ev(T:Nat):Array Oper:=#[⟨some 2,.binOp .eql 16 (.tmp 0) (.const (.pointer (some ⟨T,0,none⟩))) 16,4,"",#[],none⟩,⟨some 3,.binOp .eql 3 (.tmp 1) (.const (.int .i64 0)) 3,4,"",#[],none⟩]
def MV:Array Oper:=#[⟨some 4,.assign (.const iT),91,"",#[],none⟩]
def Cx:Code:=.cond (.tmp 2) (.cond (.tmp 3) (.seq (.region 1 MV false) .ret) (.refuse "")) (.refuse "")
def zl(kind:CallKind)(x y:Value):Frame:=⟨31,#[x,y]++Array.replicate 16 undef,[.code (.seq (.region 0 (Ev T) false) Cx)],[],.run,kind,none⟩
def J0(kind:CallKind)(x y:Value):Frame.enter (bS T) 31 #[x,y] kind=zl (T:=T) kind x y:=av
def Gl{dx:Machine}{kind:CallKind}{x y:Value}{C:List Frame}{w:World}{c:Array Value}(o:c.getD 0 undef=x)(n:c.getD 1 undef=y/\5<=c.size)(z:x=pt T\/w.tape w.drawn .zeroSizeEq=0)(h:dz (bS T) dx (lone ⟨31,c,[.code (.seq (.region 0 (Ev T) false) Cx)],[],.run,kind,none⟩ C w))(hC:2<=C.length)(j:kind=.normal\/kind=.deferred):
 x=pt T/\y=ah 0/\dz (bS T) dx (lone ⟨31,((c.setIfInBounds 2 (.bool true)).setIfInBounds 3 (.bool true)).setIfInBounds 4 iT,[.code .ret],[],.returning,kind,none⟩ C w):=by
 replace h:=h.reg (l:=[0,1]) hC rfl;obtain⟨v,aG,g,h⟩:=h.n3 (cW:=λv aG=>(v=.bool true/\x=pt T/\w=aG)\/v=.bool false) hC j rfl rfl rfl (dJ.eql rfl o (y:=pt T) rfl (by cases x<;>rfl) (by cases x<;>rfl) (by
  by_cases e:x=pt T
  .exact .ok (v:=true) (.inl ⟨rfl,e,rfl⟩) ((y' T x w).1 e)
  .rcases(y' T x w).2 e (z.resolve_left e)with⟨b,aG,es,rfl,r⟩|⟨B,aG,es,r,g⟩
   .exact .ok (.inr rfl) r
   .exact .no r g))
 have f:=nx (T:=c) (i:=2) (v:=v) n.2;have d:=mN (i:=2) (v:=v) n;generalize p:c.setIfInBounds 2 v=tI at h f d;obtain⟨m,_,⟨rfl,g'⟩,h⟩:=h.n3 hC j rfl rfl rfl (dJ.int (bS.Rv T) rfl d.1 rfl);replace h:=h.gM hC;rcases g with⟨rfl,q,rfl⟩|rfl
 .replace h:=h.cd hC (v:=true) (mN (i:=3) (v:=m) f).1
  have d:=nx (T:=tI) (i:=3) (v:=m) d.2;rcases g' with⟨rfl,u⟩|rfl
  .replace h:=(h.cd hC (v:=true) d.1).reg (l:=[0]) hC rfl
   obtain⟨_,_,⟨rfl,rfl⟩,h⟩:=h.n3 hC j rfl rfl rfl (dJ.ok (cW:=λv aG=>v=iT/\w=aG) (acc:=#[]) ⟨rfl,rfl⟩ rfl);subst p;exact⟨q,u,(h.gM hC).rt hC⟩
  .exact((h.cd hC (v:=false) d.1).ob hC).elim
 .exact((h.cd hC (v:=false) (mN (i:=3) (v:=m) f).1).ob hC).elim
def bS.stub(V:dt)(g:e3 (bS T) 38 R V)(a:Array Value)(kind:CallKind)(c:Frame)(cs:List Frame)(f:kind=.normal\/kind=.deferred)(j:a.size=2)(d:V.fr=Frame.enter (bS T) 31 a kind)(i:V.cs=c::cs)(kc:Kept c):
 a=#[pt T,ah 0]/\∃n,runN (bS T) n V.m=.next (lone (eU kind c iT) (cs++[wall]) V.w):=by
 obtain⟨x,y,rfl⟩:∃x y,a=#[x,y]:=⟨_,_,two a j⟩
 have hC:2<=(V.cs++[wall]).length:=by rw[i];simp
 rw[J0]at d;let aR:Tape:=λk q=>if k<V.w.drawn then V.w.tape k q else 0
 have A:dz (bS T) (V.iF aR).m (lone (zl (T:=T) kind x y) (V.cs++[wall]) (dM V.w aR)):=by rw[<-d];exact g.fA (aR:=aR) (λk h=>by funext q;simp[aR,h])
 obtain⟨rfl,rfl,_⟩:=Gl (x:=x) (y:=y) r5 ⟨r5,aF⟩ (.inr (by simp[aR,dM])) A hC f;refine⟨rfl,?_⟩;have A:dz (bS T) V.m (lone (zl (T:=T) kind (pt T) (ah 0)) (V.cs++[wall]) V.w):=by rw[<-d];exact g.fA (aR:=V.w.tape) (λ_ _=>rfl)
 obtain⟨_,_,A⟩:=Gl (x:=pt T) (y:=ah 0) r5 ⟨r5,aF⟩ (.inl rfl) A hC f;have l:l2 (bS T) kind ((⟨31,(((#[pt T,ah 0]++Array.replicate 16 undef).setIfInBounds 2 (.bool true)).setIfInBounds 3 (.bool true)).setIfInBounds 4 iT,[.code .ret],[],.returning,kind,none⟩:Frame),[]) []=some (iT,[]):=by rcases f with rfl|rfl<;>kernel_rfl
 rw[i]at A;exact(A.go aF (oY (main:=true) (st:=.running) (off:=none) l (rest:=cs++[wall]) kc (Does.nil V.w)).2).1
end
def nG(T:Nat):Array Obj:=(Array.replicate T (.cells #[] 0 (0,0))).push (.cells #[ah 2,sl (T+1) 2] 94 (0,2)) |>.push (.cells #[ah 2,ah 1] 3 (0,2))
def Bf(T:Nat):World:={heap:=nG T,tape:=λ_ _=>0,drawn:=0,os:=default,output:=#[]}
def yy(v:Value)(w:World):Prop:=∃b c l,v=four (b,c)/\w.heap[b]?=some (.cells (#[ah 2,ah 3,ah 5,ah 6]++l) 3 (0,0))/\c=l.size+4
def yf(T:Nat):(nG T)[T]?=some (.cells #[ah 2,sl (T+1) 2] 94 (0,2)):=by unfold nG;rw[iq,if_neg aF,iq,if_pos aF]
def ye(T:Nat):(nG T)[T+1]?=some (.cells #[ah 2,ah 1] 3 (0,2)):=by unfold nG;rw[iq,if_pos aF]
noncomputable def OQ(T:Nat)(h:(bS T).globals.size<=T):Ren where
 r a b:=a=b/\(a=T\/a=T+1)
 fwd:=by rintro a b c ⟨rfl,_⟩ ⟨rfl,_⟩;rfl
 bwd:=by rintro a b c ⟨rfl,_⟩ ⟨rfl,_⟩;rfl
 lim:=(bS T).globals.size
 low:=by rintro a b ⟨rfl,h⟩;exact Iff.rfl
 exact:=false
 cells:=(bS T).cellsOf
 cW:=λc=>codeOk (bS T) true c=true
 room:=true
 eb:=eK (bS T)
 fu:=ni (bS T)
def OS(T:Nat)(h:(bS T).globals.size<=T):Self (bS T) ⟨Frame.enter (bS T) 38 #[pt T,.agg dC] .normal,[],Bf T⟩:=by
 let ai:=OQ T h;have f:ai.r T T:=⟨rfl,.inl rfl⟩
 have l:ai.r (T+1) (T+1):=⟨rfl,.inr rfl⟩
 have fit:Fit (bS T) ai:=⟨⟨rfl,λ_=>bg,rfl,rfl⟩,rfl,λb e=>by rw[bS.je]at e;cases e;exact f⟩
 have g:bQ ai #[pt T,.agg dC] #[pt T,.agg dC]:=⟨rfl,λi x y c d=>by
  rw[c]at d;cases d;rcases i with _|_|i<;>simp at c<;>subst c
  .exact .ptr ⟨f,rfl,rfl⟩
  .exact Gc ai⟩
 refine⟨ai,fit,rfl,?_,.nil,?_,λ_ _=>rfl,?_,?_⟩
 .rcases x4 (pP (K:=jv (bS T)) (bS.ek T) 38 g (λn e=>by have e:eK (bS T) 38=some n:=e;rw[(bS.eb T).2]at e;cases e) .normal (.inl rfl))with h|⟨o,h,_⟩
  .exact h
  .have j:(Frame.enter (bS T) 38 #[pt T,.agg dC] .normal).todo = [.code (Tryz.f38.body.getD (.refuse ""))]:=av
   rw[j]at h;injection h with h _
   injection h with h
   have:(match Tryz.f38.body.getD (.refuse "")with |.refuse _=>true|_=>false)=false:=av;rw[h]at this;cases this
 .rintro b m ⟨rfl,rfl|rfl⟩
  .refine⟨_,_,yf b,yf b,.cells (.inl rfl) (λi x y c d=>?_) (.inl rfl)⟩
   rw[c]at d;cases d;rcases i with _|_|i<;>simp at c<;>subst c
   .exact .int _ _
   .exact aQ.slice (a:=⟨b+1,0,none⟩) (b:=⟨b+1,0,none⟩) ⟨l,rfl,rfl⟩ 2 2
  .refine⟨_,_,ye T,ye T,.cells (.inl rfl) (λi x y c d=>?_) (.inl rfl)⟩
   rw[c]at d;cases d;rcases i with _|_|i<;>simp at c<;>subst c<;>exact .int _ _
 .show(bS T).globals.size<=(nG T).size
  simp[nG];omega
 .show(bS T).globals.size<=(nG T).size
  simp[nG];omega
noncomputable def zU(T:Nat)(d:(bS T).globals.size<=T)(i:∀w:World,w.heap=nG T->w.drawn=0->Calls (bS T) 38 #[pt T,.agg dC] w λe w'=>∃v,e=.returned v/\yy v w'):et where
 Q:=bS T
 K:=bS.K T
 ht:=T
 fI:=T+1
 v0:=Bf T
 R:=yy
 S:=bS.S T
 ek:=bS.ek T
 H:=bS.H T
 db:=λ_ _ _ h=>h
 fn:=λ_ h=>h
 eb:=bS.eb T
 vJ:=bS.vJ T
 c3:=bS.c3 T
 tj:=⟨d,U,U⟩
 ui:=yf T
 zw:=ye T
 going:=e3.z8 λaR _=>i (dM (Bf T) aR) rfl rfl
 self:=OS T d
 stub:=λV f a kind c cs m g l j kc=>bS.stub V f a kind c cs m g l j kc
 res:=λ_ _ h=>h
def Mc(T:Nat)(c d)(b:Nat)(h:je (zU T c d).Q=some b):b=(zU T c d).ht/\b=T:=by have:je (bS T)=some b:=h;rw[bS.je]at this;cases this;exact⟨rfl,rfl⟩
end Go.aO
namespace Go.aO
open Go.Proofs Go.RowKit
variable{t:Nat}
section
noncomputable abbrev ao(F:Array Func):Program:=⟨Tryz.progTables,F⟩
variable(F:Array Func)
def xn(t:Nat):(ao F).info? t=Tryz.prog.info? t:=congrArg (λx:Tables=>x.info? t) (show(ao F).toTables=Tryz.prog.toTables from rfl)
def EM(t:Nat):(ao F).underlying t=Tryz.prog.underlying t:=by
 unfold Program.underlying;rw[xn F];rcases Tryz.prog.info? t with _|⟨d,_,_,_,_,_,_,_,_,_⟩
 .rfl
 .cases d<;>first|rfl|(dsimp only;rw[xn F])
def gV{d:Option TypeDesc}(h:Tryz.prog.underlying t=d):(ao F).underlying t=d:=(EM F t).trans h
def Np{d:TypeInfo}(h:∀w,Sem.run Tryz.prog (typeInfo t) w=Result.ok d w)(w:World):Sem.run (ao F) (typeInfo t) w=Result.ok d w:=by have e:=h w;simp only[typeInfo,Sem.run_bind,run_program,Result.andThen_ok]at e ⊢;rw[xn F];revert e;cases Tryz.prog.info? t<;>exact id
def hr{d:TypeDesc}(h:∀w,Sem.run Tryz.prog (Go.underlying t) w=Result.ok d w)(w:World):Sem.run (ao F) (Go.underlying t) w=Result.ok d w:=by have e:=h w;simp only[Go.underlying,Sem.run_bind,run_program,Result.andThen_ok]at e ⊢;rw[EM F];revert e;cases Tryz.prog.underlying t<;>exact id
def fw{n:Nat}(h:∀w,Sem.run Tryz.prog (Go.sizeOf t) w=Result.ok n w)(w:World):Sem.run (ao F) (Go.sizeOf t) w=Result.ok n w:=by have e:=h w;simp only[Go.sizeOf,typeInfo,Sem.run_bind,run_program,Result.andThen_ok]at e ⊢;rw[xn F];revert e;cases Tryz.prog.info? t<;>exact id
@[simp] def ao.typeInfo109:=Np F Tryz.typeInfo97
@[simp] def ao.sizeOf3:=fw F Tryz.sizeOf3
@[simp] def ao.sizeOf4:=fw F Tryz.sizeOf4
@[simp] def ao.sizeOf21:=fw F Tryz.sizeOf21
@[simp] def ao.sizeOf22:=fw F Tryz.sizeOf22
@[simp] def ao.sizeOf23:=fw F Tryz.sizeOf23
@[simp] def ao.sizeOf25:=fw F Tryz.sizeOf25
@[simp] def ao.sizeOf27:=fw F Tryz.sizeOf27
@[simp] def ao.sizeOf50:=fw F Tryz.sizeOf128
@[simp] def ao.sizeOf52:=fw F Tryz.sizeOf45
@[simp] def ao.sizeOf54:=fw F Tryz.sizeOf47
@[simp] def ao.sizeOf64:=fw F Tryz.sizeOf62
@[simp] def ao.sizeOf77:=fw F Tryz.sizeOf63
@[simp] def ao.sizeOf82:=fw F Tryz.sizeOf70
@[simp] def ao.sizeOf92:=fw F Tryz.sizeOf80
@[simp] def ao.sizeOf94:=fw F Tryz.sizeOf82
@[simp] def ao.sizeOf96:=fw F Tryz.sizeOf84
@[simp] def ao.sizeOf98:=fw F Tryz.sizeOf86
@[simp] def ao.sizeOf100:=fw F Tryz.sizeOf88
@[simp] def ao.sizeOf101:=fw F Tryz.sizeOf89
@[simp] def ao.sizeOf103:=fw F Tryz.sizeOf91
@[simp] def ao.sizeOf104:=fw F Tryz.sizeOf92
@[simp] def ao.sizeOf107:=fw F Tryz.sizeOf95
@[simp] def ao.sizeOf109:=fw F Tryz.sizeOf97
@[simp] def ao.sizeOf111:=fw F Tryz.sizeOf99
@[simp] def ao.sizeOf119:=fw F Tryz.sizeOf130
@[simp] def ao.sizeOf120:=fw F Tryz.sizeOf131
@[simp] def ao.sizeOf124:=fw F Tryz.sizeOf135
@[simp] def ao.sizeOf132:=fw F Tryz.sizeOf114
@[simp] def ao.sizeOf134:=fw F Tryz.sizeOf116
@[simp] def ao.sizeOf147:=fw F Tryz.sizeOf122
@[simp] def ao.sizeOf151:=fw F Tryz.sizeOf126
@[simp] def ao.sizeOf157:=fw F Tryz.sizeOf143
@[simp] def ao.sizeOf167:=fw F Tryz.sizeOf172
@[simp] def ao.sizeOf169:=fw F Tryz.sizeOf174
@[simp] def ao.sizeOf173:=fw F Tryz.sizeOf152
@[simp] def ao.sizeOf178:=fw F Tryz.sizeOf159
@[simp] def ao.sizeOf179:=fw F Tryz.sizeOf160
@[simp] def ao.sizeOf182:=fw F Tryz.sizeOf163
@[simp] def ao.sizeOf185:=fw F Tryz.sizeOf164
@[simp] def ao.sizeOf187:=fw F Tryz.sizeOf166
@[simp] def ao.underlying3:=gV F Tryz.underlying3
@[simp] def ao.underlying4:=gV F Tryz.underlying4
@[simp] def ao.underlying22:=gV F Tryz.underlying22
@[simp] def ao.underlying23:=gV F Tryz.underlying23
@[simp] def ao.underlying25:=gV F Tryz.underlying25
@[simp] def ao.underlying32:=gV F Tryz.underlying32
@[simp] def ao.underlying42:=gV F Tryz.underlying55
@[simp] def ao.underlying52:=gV F Tryz.underlying45
@[simp] def ao.underlying64:=gV F Tryz.underlying62
@[simp] def ao.underlying76:=gV F Tryz.underlying54
@[simp] def ao.underlying77:=gV F Tryz.underlying63
@[simp] def ao.underlying87:=gV F Tryz.underlying75
@[simp] def ao.underlying101:=gV F Tryz.underlying89
@[simp] def ao.underlying103:=gV F Tryz.underlying91
@[simp] def ao.underlying104:=gV F Tryz.underlying92
@[simp] def ao.underlying119:=gV F Tryz.underlying130
@[simp] def ao.underlying120:=gV F Tryz.underlying131
@[simp] def ao.underlying124:=gV F Tryz.underlying135
@[simp] def ao.underlying132:=gV F Tryz.underlying114
@[simp] def ao.underlying136:=gV F Tryz.underlying118
@[simp] def ao.underlying151:=gV F Tryz.underlying126
@[simp] def ao.underlying157:=gV F Tryz.underlying143
@[simp] def ao.underlying159:=gV F Tryz.underlying145
@[simp] def ao.underlying161:=gV F Tryz.underlying147
@[simp] def ao.underlying173:=gV F Tryz.underlying152
@[simp] def ao.underlying178:=gV F Tryz.underlying159
@[simp] def ao.underlying179:=gV F Tryz.underlying160
@[simp] def ao.underlying182:=gV F Tryz.underlying163
@[simp] def ao.underlying185:=gV F Tryz.underlying164
@[simp] def ao.underlying187:=gV F Tryz.underlying166
@[simp] def ao.underlying193:=gV F Tryz.underlying179
@[simp] def ao.underlying271:=gV F Tryz.underlying257
@[simp] def ao.runUnderlying22:=hr F Tryz.runUnderlying22
@[simp] def ao.runUnderlying23:=hr F Tryz.runUnderlying23
@[simp] def ao.runUnderlying25:=hr F Tryz.runUnderlying25
@[simp] def ao.runUnderlying27:=hr F Tryz.runUnderlying27
@[simp] def ao.runUnderlying32:=hr F Tryz.runUnderlying32
@[simp] def ao.runUnderlying42:=hr F Tryz.runUnderlying55
@[simp] def ao.runUnderlying52:=hr F Tryz.runUnderlying45
@[simp] def ao.runUnderlying54:=hr F Tryz.runUnderlying47
@[simp] def ao.runUnderlying64:=hr F Tryz.runUnderlying62
@[simp] def ao.runUnderlying76:=hr F Tryz.runUnderlying54
@[simp] def ao.runUnderlying79:=hr F Tryz.runUnderlying65
@[simp] def ao.runUnderlying94:=hr F Tryz.runUnderlying82
@[simp] def ao.runUnderlying98:=hr F Tryz.runUnderlying86
@[simp] def ao.runUnderlying100:=hr F Tryz.runUnderlying88
@[simp] def ao.runUnderlying103:=hr F Tryz.runUnderlying91
@[simp] def ao.runUnderlying106:=hr F Tryz.runUnderlying94
@[simp] def ao.runUnderlying109:=hr F Tryz.runUnderlying97
@[simp] def ao.runUnderlying122:=hr F Tryz.runUnderlying133
@[simp] def ao.runUnderlying124:=hr F Tryz.runUnderlying135
@[simp] def ao.runUnderlying132:=hr F Tryz.runUnderlying114
@[simp] def ao.runUnderlying136:=hr F Tryz.runUnderlying118
@[simp] def ao.runUnderlying141:=hr F Tryz.runUnderlying109
@[simp] def ao.runUnderlying151:=hr F Tryz.runUnderlying126
@[simp] def ao.runUnderlying157:=hr F Tryz.runUnderlying143
@[simp] def ao.runUnderlying161:=hr F Tryz.runUnderlying147
@[simp] def ao.runUnderlying169:=hr F Tryz.runUnderlying174
@[simp] def ao.runUnderlying182:=hr F Tryz.runUnderlying163
@[simp] def ao.runUnderlying189:=hr F Tryz.runUnderlying168
@[simp] def ao.runUnderlying193:=hr F Tryz.runUnderlying179
@[simp] theorem ao.isAgg3(w:World):Sem.run (ao F) (isAgg 3) w=.ok false w:=av
@[simp] theorem ao.isAgg4(w:World):Sem.run (ao F) (isAgg 4) w=.ok false w:=av
@[simp] theorem ao.isAgg21(w:World):Sem.run (ao F) (isAgg 21) w=.ok false w:=av
@[simp] theorem ao.isAgg22(w:World):Sem.run (ao F) (isAgg 22) w=.ok false w:=av
@[simp] theorem ao.isAgg23(w:World):Sem.run (ao F) (isAgg 23) w=.ok false w:=av
@[simp] theorem ao.isAgg25(w:World):Sem.run (ao F) (isAgg 25) w=.ok true w:=av
@[simp] theorem ao.isAgg27(w:World):Sem.run (ao F) (isAgg 27) w=.ok true w:=av
@[simp] theorem ao.isAgg50(w:World):Sem.run (ao F) (isAgg 128) w=.ok false w:=av
@[simp] theorem ao.isAgg52(w:World):Sem.run (ao F) (isAgg 45) w=.ok true w:=av
@[simp] theorem ao.isAgg54(w:World):Sem.run (ao F) (isAgg 47) w=.ok true w:=av
@[simp] theorem ao.isAgg64(w:World):Sem.run (ao F) (isAgg 62) w=.ok true w:=av
@[simp] theorem ao.isAgg77(w:World):Sem.run (ao F) (isAgg 63) w=.ok false w:=av
@[simp] theorem ao.isAgg82(w:World):Sem.run (ao F) (isAgg 70) w=.ok false w:=av
@[simp] theorem ao.isAgg103(w:World):Sem.run (ao F) (isAgg 91) w=.ok true w:=av
@[simp] theorem ao.isAgg107(w:World):Sem.run (ao F) (isAgg 95) w=.ok false w:=av
@[simp] theorem ao.isAgg109(w:World):Sem.run (ao F) (isAgg 97) w=.ok true w:=av
@[simp] theorem ao.isAgg111(w:World):Sem.run (ao F) (isAgg 99) w=.ok false w:=av
@[simp] theorem ao.isAgg119(w:World):Sem.run (ao F) (isAgg 130) w=.ok false w:=av
@[simp] theorem ao.isAgg120(w:World):Sem.run (ao F) (isAgg 131) w=.ok false w:=av
@[simp] theorem ao.isAgg124(w:World):Sem.run (ao F) (isAgg 135) w=.ok true w:=av
@[simp] theorem ao.isAgg134(w:World):Sem.run (ao F) (isAgg 116) w=.ok false w:=av
@[simp] theorem ao.isAgg147(w:World):Sem.run (ao F) (isAgg 122) w=.ok false w:=av
@[simp] theorem ao.isAgg151(w:World):Sem.run (ao F) (isAgg 126) w=.ok true w:=av
@[simp] theorem ao.isAgg167(w:World):Sem.run (ao F) (isAgg 172) w=.ok false w:=av
@[simp] theorem ao.isAgg173(w:World):Sem.run (ao F) (isAgg 152) w=.ok false w:=av
@[simp] theorem ao.isAgg178(w:World):Sem.run (ao F) (isAgg 159) w=.ok false w:=av
@[simp] theorem ao.isAgg179(w:World):Sem.run (ao F) (isAgg 160) w=.ok false w:=av
@[simp] theorem ao.isAgg182(w:World):Sem.run (ao F) (isAgg 163) w=.ok true w:=av
@[simp] theorem ao.isAgg185(w:World):Sem.run (ao F) (isAgg 164) w=.ok false w:=av
@[simp] theorem ao.isAgg187(w:World):Sem.run (ao F) (isAgg 166) w=.ok false w:=av
@[simp] theorem ao.zeroValue3(w:World):Sem.run (ao F) (zeroValue 3) w=.ok (.int .i64 0) w:=av
@[simp] theorem ao.zeroValue25(w:World):Sem.run (ao F) (zeroValue 25) w=.ok (.agg #[.int .i64 0,.slice none 0 0,.slice none 0 0,.slice none 0 0]) w:=av
@[simp] theorem ao.zeroValue27(w:World):Sem.run (ao F) (zeroValue 27) w=.ok (.agg #[.int .i64 0,.slice none 0 0]) w:=av
@[simp] theorem ao.zeroValue52(w:World):Sem.run (ao F) (zeroValue 45) w=.ok (.agg #[.int .i64 0,.int .i64 0]) w:=av
@[simp] theorem ao.zeroValue54(w:World):Sem.run (ao F) (zeroValue 47) w=.ok (.agg #[.int .i64 0,.int .i64 0,.int .i64 0,.int .i64 0,.int .i64 0]) w:=av
@[simp] theorem ao.zeroValue64(w:World):Sem.run (ao F) (zeroValue 62) w=.ok (.agg #[.int .i64 0,.int .i64 0]) w:=av
@[simp] theorem ao.zeroValue79(w:World):Sem.run (ao F) (zeroValue 65) w=.ok (.agg #[.slice none 0 0,.int .i64 0,.int .u64 0]) w:=av
@[simp] theorem ao.zeroValue82(w:World):Sem.run (ao F) (zeroValue 70) w=.ok (.pointer none) w:=av
@[simp] theorem ao.zeroValue103(w:World):Sem.run (ao F) (zeroValue 91) w=.ok (.agg #[.int .i64 0,.int .i64 0,.int .i64 0,.int .i64 0,.int .i64 0]) w:=av
@[simp] theorem ao.zeroValue106(w:World):Sem.run (ao F) (zeroValue 94) w=.ok (.agg #[.int .i64 0,.slice none 0 0,.slice none 0 0,.slice none 0 0,.int .u32 0,.int .i32 0,.int .u32 0,.int .u32 0,.int .i32 0,.int .u32 0,.int .u32 0,.int .i32 0,.int .u32 0,.int .i64 0,.int .i64 0,.int .i64 0,.int .i64 0,.int .i64 0,.int .i64 0,.int .i64 0,.int .i64 0,.int .i64 0,.int .i64 0,.int .i64 0,.int .i64 0,.int .i64 0,.int .i64 0,.int .i64 0]) w:=av
@[simp] theorem ao.zeroValue109(w:World):Sem.run (ao F) (zeroValue 97) w=.ok (.agg #[.int .i64 0,.int .i64 0,.int .i64 0]) w:=av
@[simp] theorem ao.zeroValue122(w:World):Sem.run (ao F) (zeroValue 133) w=.ok (.agg #[.pointer none,.int .i64 0,.int .i64 0,.int .i64 0,.map none,.map none]) w:=av
@[simp] theorem ao.zeroValue124(w:World):Sem.run (ao F) (zeroValue 135) w=.ok (.agg #[.int .i64 0,.int .i64 0,.int .i64 0,.int .i64 0,.int .i64 0]) w:=av
@[simp] theorem ao.zeroValue132(w:World):Sem.run (ao F) (zeroValue 114) w=.ok (.agg #[]) w:=av
@[simp] theorem ao.zeroValue136(w:World):Sem.run (ao F) (zeroValue 118) w=.ok (.agg #[]) w:=av
@[simp] theorem ao.zeroValue141(w:World):Sem.run (ao F) (zeroValue 109) w=.ok (.agg #[.int .i64 0,.int .i64 0,.bool false]) w:=av
@[simp] theorem ao.zeroValue151(w:World):Sem.run (ao F) (zeroValue 126) w=.ok (.agg #[.int .i64 0,.int .i64 0]) w:=av
@[simp] theorem ao.zeroValue157(w:World):Sem.run (ao F) (zeroValue 143) w=.ok (.agg #[.int .i64 0]) w:=av
@[simp] theorem ao.zeroValue169(w:World):Sem.run (ao F) (zeroValue 174) w=.ok (.agg #[Value.nilFunc,.int .i64 0,.int .i64 0,.int .i64 0,.int .i64 0,.int .i64 0,.bool false]) w:=av
@[simp] theorem ao.zeroValue173(w:World):Sem.run (ao F) (zeroValue 152) w=.ok (.map none) w:=av
@[simp] theorem ao.zeroValue178(w:World):Sem.run (ao F) (zeroValue 159) w=.ok (.map none) w:=av
@[simp] theorem ao.zeroValue179(w:World):Sem.run (ao F) (zeroValue 160) w=.ok (.map none) w:=av
@[simp] theorem ao.zeroValue182(w:World):Sem.run (ao F) (zeroValue 163) w=.ok (.agg #[.int .i64 0,.int .i64 0]) w:=av
@[simp] theorem ao.stoodInHeld64:(ao F).stoodInHeld 62=false:=av
@[simp] theorem ao.S3:(ao F).stoodInHeld 126=false:=av
@[simp] theorem ao.S4:(ao F).stoodInHeld 163=false:=av
@[simp] theorem ao.eqGuardType64:(ao F).eqGuardType (ao F).depth 62=false:=av
@[simp] theorem ao.SS:(ao F).eqGuardType (ao F).depth 91=false:=av
end
end Go.aO
namespace Go.aO
variable{o:Obj}{w:World}
def al{p:Prop}(h:p):RowKit.Hid p:=h
def bT{row:Option Nat}:w.grownBy (w.alloc o) row:=World.grownBy_alloc _ _ _
def dU(w:World)(o:Obj)(row:Option Nat):w.grownBy (w.alloc o) row:=World.grownBy_alloc w o row
def e6(w:World)(row:Option Nat):w.grownBy w row:=World.grownBy.refl w row
def dR{c:Array Value}{t:TypeId}{n i:Nat}(h:n=w.heap.size):(w.alloc (.cells c t)).cell? {block:=n,off:=i}=c[i]?:=World.cell?_alloc_at _ _ _ _ h
def hD(o:Obj)(n i:Nat)(h:n<w.heap.size):(w.alloc o).cell? {block:=n,off:=i}=w.cell? {block:=n,off:=i}:=World.cell?_alloc_past o n i h
def cV(w:World)(o:Obj):(w.alloc o).heap.size=w.heap.size+1:=World.size_alloc w o
def dm{r:Nat}(h:r<w.heap.size):(w.alloc o).heap[r]?=w.heap[r]?:=Go.heap_alloc_old _ _ h
end Go.aO
namespace Go.aO
open Go.Proofs Go.RowKit
variable{fn:Func}{B T cA:Nat}{bj:Nat->Int}
section
def Body(F:Array Func)(f:FuncId):Prop:=∃fn,F[f]?=some fn/\ko fn=true/\fn.body.isSome=true
def ML:List Nat:=[5,29,31,42,46,55,71,66,67,86,87,89,90,120,121,141,197]
def stays(k:Nat):Bool:=!ML.contains k
def yN:List Nat:=[29,42,46,71,67,5,31,55,66,120,121]
class Std(F:Array Func):Prop where
 on:∀k fn,aK.funcs[k]?=some fn->fn.body.isSome=true->stays k=true->F[k]?=some fn
 hL:∀k,k∈yN->Body F k
def Std.f{F:Array Func}(S:Std F){k:Nat}(e:aK.funcs[k]?=some fn)(b:fn.body.isSome=true:=by rfl)(o:stays k=true:=by rfl):F[k]?=some fn:=S.on k fn e b o
def D2{sp:List (Nat×Func)}{rs:List Nat}:∀(l:List Func) (j k:Nat),(mix sp rs j l)[k]?=l[k]?.map (pick sp rs (j+k))
 | [],_,_=>by simp[mix]
 |x::l,j,0=>by simp[mix]
 |x::l,j,k+1=>by have:=D2 (sp:=sp) (rs:=rs) l (j+1) k;rw[Nat.add_assoc,Nat.add_comm 1 k]at this;simpa [mix]using this
noncomputable def Ge(sp:List (Nat×Func))(rs:List Nat):Bool:=sp.all (λx=>!stays x.1||x.1<2||x.1 == 95||x.1 == 122) && rs.all (λk=>!stays k) && yN.all λk=>((mix sp rs 0 aK.funcs.toList)[k]?).any λfn=>ko fn && fn.body.isSome
noncomputable def CR:Bool:=[0,1,95,122].all λk=>(aK.funcs[k]?).all λfn=>fn.body.isNone
def Jt:CR=true:=av
def DT:∀{sp:List (Nat×Func)} {k:Nat},(∀x∈sp,x.1≠k)->sp.lookup k=none
 | [],_,_=>rfl
 |(j,g)::l,k,h=>by
  rw[List.lookup_cons];have:¬(k == j)=true:=λe=>h (j,g) aF (eq_of_beq e).symm
  simp only[this];exact DT (λx c=>h x (by simp[c]))
theorem zT{sp:List (Nat×Func)}{rs:List Nat}(h:Ge sp rs=true):Std (mix sp rs 0 aK.funcs.toList).toArray:=by
 unfold Ge at h;rw[Bool.and_eq_true,Bool.and_eq_true]at h;obtain⟨⟨g,i⟩,l⟩:=h;rw[List.all_eq_true]at g i l;refine⟨λk fn e b o=>?_,λk u=>?_⟩
 .have f:=Jt
  unfold CR at f;rw[List.all_eq_true]at f;have c:∀j∈[0,1,95,122],j≠k:=λj r n=>by have:=f j r;rw[n,e]at this;simp at this;rw[this]at b;cases b
  have w:sp.lookup k=none:=DT (λx d p=>by have:=g x d;rw[p,o]at this;have cT:=c 0 aF;have z:=c 1 aF;have B:=c 95 aF;have C:=c 122 aF;simp at this;omega)
  have y:¬rs.contains k=true:=λq=>by have:=i k (by simpa using q);rw[o]at this;cases this
  have hp:pick sp rs k fn=fn:=by unfold pick;rw[w];dsimp only;rw[if_neg y,if_neg (λd=>by rw[Option.isNone_iff_eq_none.1 d]at b;cases b)]
  rw[List.getElem?_toArray,D2,Nat.zero_add];have m:aK.funcs.toList[k]?=some fn:=by simpa using e
  rw[m,Option.map_some,hp]
 .have:=l k u
  cases hm:(mix sp rs 0 aK.funcs.toList)[k]? with
  |none=>rw[hm]at this;cases this
  |some fn=>
   rw[hm]at this;simp at this;exact⟨fn,by rw[List.getElem?_toArray];exact hm,this.1,by simpa using this.2⟩
class jx(F:Array Func):Prop where
 f62:F[42]?=some Tryz.f42
 f69:F[46]?=some Tryz.f46
 f85:F[71]?=some Tryz.f71
class oA(F:Array Func):Prop extends jx F where
 f91:F[67]?=some Tryz.f67
def Cb{P:Program}{f:FuncId}(h:P.funcs[f]?=some fn)(g:ko fn=true)(i:fn.body.isSome=true)(args:Array Value)(w:World):Sem.run P (callFunc f args) w=.ok (.enter f args) w:=by
 have c:¬(fn.name == "runtime.NumGoroutine")=true:=by simpa [ko]using g
 have d:¬fn.body.isNone=true:=by cases j:fn.body<;>simp_all
 have e:Sem.run P (callFunc f args) w=(match P.funcs[f]? with
  |none=>(stuck "call: no such function" : Sem Next)
  |some fn=>
   if fn.name == "runtime.NumGoroutine" then pure .numGoroutine
   else if fn.body.isNone then do
    mark (.extern f)
    if let some e:=Extern.findNext fn then return <-e args
    match Extern.find fn with
    |some e=>pure (.value (<-e args))
    |none=>
     if fn.name.endsWith ".init" && !fn.name.startsWith "(" && !fn.name.startsWith "gosem." then pure (.value (.tuple #[]))
     else unsupported (.extern fn.name)
   else pure (.enter f args)).run P w:=rfl
 rw[e,h];dsimp only;rw[if_neg c,if_neg d];rfl
abbrev c7(F:Array Func)(k:Nat):Prop:=∀(args:Array Value) (w:World),Sem.run (ao F) (callFunc k args) w=.ok (.enter k args) w
variable{F:Array Func}[S:Std F]
def dL{k:Nat}(e:aK.funcs[k]?=some fn)(n:ko fn=true:=by rfl)(b:fn.body.isSome=true:=by rfl)(o:stays k=true:=by rfl):c7 F k:=
 Cb (P:=ao F) (S.on k fn e b o) n b
def nO(k:Nat)(h:k∈yN:=by decide):c7 F k:=by obtain⟨fn,c,d,f⟩:=S.hL k h;exact Cb (P:=ao F) c d f
@[simp] theorem ao.call15:c7 F 4:=dL Tryz.func4
@[simp] theorem ao.call17:c7 F 6:=dL Tryz.func6
@[simp] theorem ao.call18:c7 F 7:=dL Tryz.func7
@[simp] theorem ao.call19:c7 F 8:=dL Tryz.func8
@[simp] theorem ao.call20:c7 F 9:=dL Tryz.func9
@[simp] theorem ao.call21:c7 F 10:=dL Tryz.func10
@[simp] theorem ao.call22:c7 F 11:=dL Tryz.func11
@[simp] theorem ao.call23:c7 F 12:=dL Tryz.func12
@[simp] theorem ao.call24:c7 F 52:=dL Tryz.func52
@[simp] theorem ao.call28:c7 F 24:=dL Tryz.func24
@[simp] theorem ao.call36:c7 F 51:=dL Tryz.func51
@[simp] theorem ao.call38:c7 F 26:=dL Tryz.func26
@[simp] theorem ao.call39:c7 F 22:=dL Tryz.func22
@[simp] theorem ao.call46:c7 F 25:=dL Tryz.func25
@[simp] theorem ao.call47:c7 F 27:=dL Tryz.func27
@[simp] theorem ao.call48:c7 F 28:=dL Tryz.func28
@[simp] theorem ao.call49:c7 F 29:=nO 29
@[simp] theorem ao.call50:c7 F 30:=dL Tryz.func30
@[simp] theorem ao.call52:c7 F 32:=dL Tryz.func32
@[simp] theorem ao.call53:c7 F 33:=dL Tryz.func33
@[simp] theorem ao.call54:c7 F 34:=dL Tryz.func34
@[simp] theorem ao.call55:c7 F 35:=dL Tryz.func35
@[simp] theorem ao.call56:c7 F 36:=dL Tryz.func36
@[simp] theorem ao.call57:c7 F 37:=dL Tryz.func37
@[simp] theorem ao.call58:c7 F 50:=dL Tryz.func50
@[simp] theorem ao.call61:c7 F 38:=dL Tryz.func38
@[simp] theorem ao.call62:c7 F 42:=nO 42
@[simp] theorem ao.call63:c7 F 43:=dL Tryz.func43
@[simp] theorem ao.call64:c7 F 39:=dL Tryz.func39
@[simp] theorem ao.call65:c7 F 40:=dL Tryz.func40
@[simp] theorem ao.call66:c7 F 41:=dL Tryz.func41
@[simp] theorem ao.call67:c7 F 44:=dL Tryz.func44
@[simp] theorem ao.call69:c7 F 46:=nO 46
@[simp] theorem ao.call70:c7 F 47:=dL Tryz.func47
@[simp] theorem ao.call71:c7 F 48:=dL Tryz.func48
@[simp] theorem ao.call72:c7 F 49:=dL Tryz.func49
@[simp] theorem ao.call73:c7 F 53:=dL Tryz.func53
@[simp] theorem ao.call74:c7 F 54:=dL Tryz.func54
@[simp] theorem ao.SM:c7 F 57:=dL Tryz.func57
@[simp] theorem ao.call78:c7 F 58:=dL Tryz.func58
@[simp] theorem ao.call79:c7 F 59:=dL Tryz.func59
@[simp] theorem ao.call80:c7 F 60:=dL Tryz.func60
@[simp] theorem ao.call81:c7 F 61:=dL Tryz.func61
@[simp] theorem ao.call82:c7 F 62:=dL Tryz.func62
@[simp] theorem ao.call83:c7 F 69:=dL Tryz.func69
@[simp] theorem ao.call84:c7 F 70:=dL Tryz.func70
@[simp] theorem ao.call85:c7 F 71:=nO 71
@[simp] theorem ao.call87:c7 F 63:=dL Tryz.func63
@[simp] theorem ao.call88:c7 F 64:=dL Tryz.func64
@[simp] theorem ao.call91:c7 F 67:=nO 67
@[simp] theorem ao.SN:c7 F 68:=dL Tryz.func68
@[simp] theorem ao.SO:c7 F 72:=dL Tryz.func72
@[simp] theorem ao.SP:c7 F 73:=dL Tryz.func73
@[simp] theorem ao.SQ:c7 F 74:=dL Tryz.func74
@[simp] theorem ao.call100:c7 F 79:=dL Tryz.func79
@[simp] theorem ao.call101:c7 F 80:=dL Tryz.func80
@[simp] theorem ao.SF:c7 F 81:=dL Tryz.func81
@[simp] theorem ao.SG:c7 F 82:=dL Tryz.func82
@[simp] theorem ao.call112:c7 F 91:=dL Tryz.func91
@[simp] theorem ao.call117:c7 F 96:=dL Tryz.func96
@[simp] theorem ao.SH:c7 F 97:=dL Tryz.func97
@[simp] theorem ao.SI:c7 F 98:=dL Tryz.func98
@[simp] theorem ao.call144:c7 F 123:=dL Tryz.func123
@[simp] theorem ao.call197:c7 F 176:=dL Tryz.func176
@[simp] theorem ao.SK:c7 F 177:=dL Tryz.func177
@[simp] theorem ao.call16:c7 F 5:=nO 5
@[simp] theorem ao.call51:c7 F 31:=nO 31
@[simp] theorem ao.SL:c7 F 55:=nO 55
@[simp] theorem ao.call141:c7 F 120:=nO 120
@[simp] theorem ao.SJ:c7 F 121:=nO 121
instance bS.Gd(T:Nat):Std (bS.list T).toArray:=zT (by kernel_rfl)
def ER(w:World)(p n:Int)(h:0<=p/\p<=1000000000)(c:0<=n/\n<=1000000000):Calls (ao F) 60 #[.int .i64 p,.int .i64 n] w λe w'=>e=.returned (.int .i64 (p+n))/\w=w':=by go_enter (S.f Tryz.func60),Tryz.ntmps60;go_wp2;go_ret;exact⟨rfl,rfl⟩
def oT(w:World)(p:Int):Calls (ao F) 33 #[.int .i64 p] w λe w'=>e=.returned (.int .i64 p)/\w=w':=by go_enter (S.f Tryz.func33),Tryz.ntmps33;go_wp2;go_ret;exact⟨rfl,rfl⟩
end
section
variable{F:Array Func}
structure pB(bf:World->Prop)(T B gg hG c' cA:Nat)(first:Nat->Int):Prop where
 lt:T<B/\gg<B
 keep:∀w w' row,bf w->w.grownBy w' row->(∀b,row=some b->B<=b)->bf w'
 size:∀w,bf w->B<=w.heap.size
 k5:∀w,bf w->w.cell? ⟨T,1,none⟩=some (.slice (some ⟨gg,hG,none⟩) c' cA)
 cell:∀w,bf w->∀k,k<c'->w.cell? ⟨gg,hG+k,none⟩=some (.int .i64 (first k))
 hL:∀k,0<=first k/\first k<=1000000
def ks(bj:Nat->Int)(a:Nat):Nat->Int
 | 0=>0
 |n+1=>ks bj a n+bj (a+n)
def ha(f:Int)(bj:Nat->Int)(left aP:Nat):Int:=f+ks bj (left / 24+1) (aP / 24-left / 24)
def pA(F:Array Func)(c:World->Prop)(T k:Nat)(bj:Nat->Int):Prop:=
 ∀w,c w->Calls (ao F) 31 #[.pointer (some ⟨T,0,none⟩),.int .i64 k] w λe w'=>e=.returned (.agg #[.int .i64 (bj 0),.int .i64 (bj 1),.int .i64 (bj 2),.int .i64 (bj 3),.int .i64 (bj 4)])/\c w'/\w.grownBy w' (some T)
def Gm(c:∀d,0<=bj d/\bj d<=1000000)(a n:Nat):0<=ks bj a n/\ks bj a n<=n*1000000:=by
 induction n with
 |zero=>simp[ks]
 |succ n f=>have:=c (a+n);simp only[ks];omega
abbrev u3(bj:Nat->Int):Obj:=.cells #[.int .i64 (bj 0),.int .i64 (bj 1),.int .i64 (bj 2),.int .i64 (bj 3),.int .i64 (bj 4)] 91
def Kz{c:World->Prop}{i n m:Nat}{first:Nat->Int}(K:pB c T B i n m cA first){w w2:World}{x y:Value}(l:c w)(j:c w2)(f:(w.alloc (.cells #[x,y] 62)).grownBy w2 (some T)):
 (w2.alloc (u3 bj)).cell? ⟨w.heap.size,0,none⟩=some x/\(w2.alloc (u3 bj)).cell? ⟨w.heap.size,1,none⟩=some y/\(∀d,d<5->(w2.alloc (u3 bj)).cell? ⟨w2.heap.size,d,none⟩=some (.int .i64 (bj d)))/\c (w2.alloc (u3 bj))/\w.grownBy (w2.alloc (u3 bj)) (some T):=by
 have h:w.heap.size<w2.heap.size:=by have:=f.size;rw[cV]at this;omega
 have g:some w.heap.size≠some T:=by have:=K.lt;have:=K.size w l;simp;omega
 refine⟨?_,?_,λd hd=>?_,K.keep _ _ none j bT lV,((dU w _ _).trans f).trans bT⟩
 .rw[hD _ _ _ h]
  exact f.cell (a:=⟨w.heap.size,0,none⟩) (dR rfl) g
 .rw[hD _ _ _ h]
  exact f.cell (a:=⟨w.heap.size,1,none⟩) (dR rfl) g
 .rw[dR rfl]
  rcases d with _|_|_|_|_|d<;>first|rfl|omega
def si[S:Std F]{c:World->Prop}{u H h:Nat}{first:Nat->Int}(K:pB c T B u H h cA first){k:Nat}(C:k<h)(Q:h<=1000)(o:∀d,0<=bj d/\bj d<=1000000)(E:pA F c T k bj)(left aP:Nat)(P:left<120)(M:aP<120)(w:World)(f:c w):
 Calls (ao F) 32 #[.pointer (some ⟨T,0,none⟩),.int .i64 k,.agg #[.int .i64 left,.int .i64 aP]] w λe w'=>e=.returned (.int .i64 (ha (first k) bj left aP))/\c w'/\w.grownBy w' (some T):=by
 have V:=K.size w f;have D:=K.lt;have g:c (w.alloc (.cells #[.int .i64 left,.int .i64 aP] 62)):=K.keep _ _ none f bT lV;have j:=K.k5 _ g;have l:=K.cell _ g k C;have I:=K.hL k;go_enter (S.f Tryz.func32),Tryz.ntmps32;go_wp2_with (go_at_call 31;refine(E _ g).mono ?_;rintro e w2 ⟨rfl,m,p⟩;obtain⟨W,q1,q,y,z⟩:=Kz (bj:=bj) K f m p;clear p m j l;have r:=al q;clear q)
 go_loop [7,10] (λs v=>∃d:Nat,v=.int .i64 d/\left / 24+1<=d/\(d<=aP / 24+1\/d=left / 24+1)/\s=.int .i64 (first k+ks bj (left / 24+1) (d-(left / 24+1)))) (λ_ v=>aP / 24+1-(intOf v).toNat)
 case atStart=>exact⟨left / 24+1,aF,bg,.inr rfl,by simp[ks]⟩
 case round=>
  obtain⟨d,rfl,j,l,rfl⟩:=hrel;have G:=Gm o (left / 24+1) (d-(left / 24+1));have L:d-(left / 24+1)<=6:=U;generalize n:ks bj (left / 24+1) (d-(left / 24+1))=X at G ⊢;have i:=al n;clear n;by_cases D:d<=aP / 24
  .have R:=r.out d U
   have J:=o d;go_wp2_with (go_at_call 60;refine(ER _ _ _ U U).mono ?_;rintro e w' ⟨rfl,rfl⟩)
   go_round
   case rel=>
    refine⟨d+1,by go_num,U,U,?_⟩;have e:d+1-(left / 24+1)=d-(left / 24+1)+1:=U;rw[e,ks,i.out,show left / 24+1+(d-(left / 24+1))=d by omega];go_num
   case measure=>simp[intOf];omega
  .go_wp2
   go_ret;refine⟨?_,y,z⟩;rw[ha,<-i.out,show d-(left / 24+1)=aP / 24-left / 24 by omega];rfl
end
section
variable{A:Array Func}
def ku[S:Std A](n bY c:Int)(w:World):Calls (ao A) 57 #[.int .i64 n,.int .i64 bY,.int .i64 c] w λe w'=>e=.returned (.bool (decide (bY<=n/\n<=c)))/\w=w':=by
 by_cases d:bY<=n
 .by_cases f:n<=c
  .have e:decide (bY<=n/\n<=c)=true:=by simp[d,f]
   rw[e];go_enter (S.f Tryz.func57),Tryz.ntmps57;go_wp2;go_ret;exact⟨rfl,rfl⟩
  .have e:decide (bY<=n/\n<=c)=false:=by simp[f]
   rw[e];go_enter (S.f Tryz.func57),Tryz.ntmps57;go_wp2;go_ret;exact⟨rfl,rfl⟩
 .have e:decide (bY<=n/\n<=c)=false:=by simp[d]
  rw[e];go_enter (S.f Tryz.func57),Tryz.ntmps57;go_wp2;go_ret;exact⟨rfl,rfl⟩
def jJ(n bY c:Int):Int:=if n<bY then 7 else if c<n then 6 else 0
def ru[S:Std A](n bY c:Int)(w:World):Calls (ao A) 73 #[.int .i64 n,.int .i64 bY,.int .i64 c] w λe w'=>e=.returned (.int .i64 (jJ n bY c))/\w=w':=by
 by_cases d:n<bY
 .rw[show jJ n bY c=7 by simp[jJ,d]]
  go_enter (S.f Tryz.func73),Tryz.ntmps73;go_wp2;go_ret;exact⟨rfl,rfl⟩
 .by_cases f:c<n
  .rw[show jJ n bY c=6 by simp[jJ,d,f]]
   go_enter (S.f Tryz.func73),Tryz.ntmps73;go_wp2;go_ret;exact⟨rfl,rfl⟩
  .rw[show jJ n bY c=0 by simp[jJ,d,f]]
   go_enter (S.f Tryz.func73),Tryz.ntmps73;go_wp2;go_ret;exact⟨rfl,rfl⟩
def gn(w:World)(b o n:Nat)(f:Nat->Int):Prop:=∀k,k<n->w.cell? ⟨b,o+k,none⟩=some (.int .i64 (f k))
end
end Go.aO
