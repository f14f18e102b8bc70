/- A part. -/
import Derived.Test.YtejkocoljbaioaaGreatDoorP12
set_option maxHeartbeats 8000000
set_option maxRecDepth 100000
set_option linter.all false
namespace Go.aO
attribute [-simp] Go.Sem.runT_eq
open Go.Proofs Go.Conc Go.ConcN
variable{kd:CallKind}{c k:Int}
section
open Extern in
def Hb:List (FuncId×(Array Value->Sem Value)):=
 [(85,λargs=>ReflectliteValue.unpack (args.getD 0 (.tuple #[]))),(86,ReflectliteValue.methodAny (ReflectliteValue.valueError "reflectlite.Value.Type" 0) (λt _ _ _=>ReflectliteType.toType t)),
  (87,ReflectliteValue.method (ReflectliteValue.valueError "reflectlite.Value.IsNil" 0) ReflectliteValue.isNil),(180,ReflectliteType.abiMethod λt=>do pure (.int .u8 (<-Rtype.kind t))),
  (193,ReflectliteType.method ReflectliteType.elem),(194,ReflectliteType.relation "Implements" ReflectliteType.implements_),(100,ReflectliteType.typeOf),(191,ReflectliteType.relation "AssignableTo" ReflectliteType.assignableTo),
  (101,ReflectliteValue.method (ReflectliteValue.valueError "reflectlite.Value.Elem" 0) ReflectliteValue.elem),(102,ReflectliteValue.set)]
def vh:Ext:=λf=>look f Hb
open Extern in
def Hc:dn Tryz.prog vh:=by
 have e:∀f (fn:Func) (e:Array Value->Sem Value),Tryz.prog.funcs[f]?=some fn->(fn.name == "runtime.NumGoroutine")=false->fn.body.isNone=true->Extern.findNext fn=none->Extern.find fn=some e->Entry f e:=λf fn e c d g i j=>⟨fn,c,d,g,i,j⟩
 intro f e h;have hm:=DS h;unfold Hb at hm;simp only[List.mem_cons,Prod.mk.injEq,iN,or_false]at hm;rcases hm with⟨rfl,rfl⟩|⟨rfl,rfl⟩|⟨rfl,rfl⟩|⟨rfl,rfl⟩|⟨rfl,rfl⟩|⟨rfl,rfl⟩|⟨rfl,rfl⟩|⟨rfl,rfl⟩|⟨rfl,rfl⟩|⟨rfl,rfl⟩
 .exact⟨Tryz.f85,Tryz.func85,av,av,av,av⟩
 .exact⟨Tryz.f86,Tryz.func86,av,av,av,av⟩
 .exact⟨Tryz.f87,Tryz.func87,av,av,av,av⟩
 .exact⟨Tryz.f180,Tryz.func180,av,av,av,av⟩
 .exact⟨Tryz.f193,Tryz.func193,av,av,av,av⟩
 .exact⟨Tryz.f194,Tryz.func194,av,av,av,av⟩
 .exact⟨Tryz.f100,Tryz.func100,av,av,av,av⟩
 .exact⟨Tryz.f191,Tryz.func191,av,av,av,av⟩
 .exact⟨Tryz.f101,Tryz.func101,av,av,av,av⟩
 .exact⟨Tryz.f102,Tryz.func102,av,av,av,av⟩
structure rN where
 l:Nat
 M:Mem
def tP(M:Mem)(i:Nat):Value:=match M[i]? with
 |some (_,b,_)=>.pointer (some ⟨b,0,none⟩)
 |none=>undef
abbrev kl(n:Int):Value:=ah n
abbrev ht:Value:=.pointer (some ⟨1,154,none⟩)
abbrev oO:Value:=.iface 209 (.agg #[.pointer (some ⟨1,81,none⟩)])
def lF(c:Array Value)(t:TypeId):Obj:=.cells c t
def tp(M:Mem):Array Value:=#[ht,tP M 1,.int .u64 150]
def wU(i:Nat):List gZ:=[.ld i 0,.ld i 1,.ld i 2]
def Ju(k c:Int):rN->List (Edge rN)
 |⟨0,M⟩=>[.new true (lF #[kl 0] 152) λb=>⟨1,M++[(true,b,lF #[kl 0] 152)]⟩]
 |⟨1,M⟩=>[.nI 85 (lF #[tP M 0] 154) λb=>⟨2,M++[(true,b,lF #[tP M 0] 154)]⟩]
 |⟨2,M⟩=>[.new true (lF #[.pointer none,.pointer none,.int .u64 0] 188) λb=>⟨3,M++[(true,b,lF #[.pointer none,.pointer none,.int .u64 0] 188)]⟩]
 |⟨3,M⟩=>[.bL [.st 2 0 ht,.st 2 1 (tP M 1),.st 2 2 (.int .u64 150)] ⟨4,c0 M [.st 2 0 ht,.st 2 1 (tP M 1),.st 2 2 (.int .u64 150)]⟩]
 |⟨4,M⟩=>[.bL (wU 2) ⟨5,M⟩]
 |⟨5,M⟩=>[.bL (wU 2) ⟨6,M⟩]
 |⟨6,M⟩=>[.mb 87 [.ld 1 0] ⟨7,M⟩]
 |⟨7,M⟩=>[.fix false false [.val oO] [.load .plain ⟨0,0,none⟩ oO] ⟨8,M⟩]
 |⟨8,M⟩=>[.bL (wU 2) ⟨9,M⟩]
 |⟨9,M⟩=>[.new true (lF (tp M) 188) λb=>⟨10,M++[(true,b,lF (tp M) 188)]⟩]
 |⟨10,M⟩=>[.bL (wU 3) ⟨11,M⟩]
 |⟨11,M⟩=>[.mb 101 [.ld 1 0] ⟨12,M⟩]
 |⟨12,M⟩=>[.nI 85 (lF #[kl k] 152) λb=>⟨13,M++[(true,b,lF #[kl k] 152)]⟩]
 |⟨13,M⟩=>[.mb 102 [.ld 4 0,.st 0 0 (kl k)] ⟨14,c0 M [.ld 4 0,.st 0 0 (kl k)]⟩]
 |⟨14,M⟩=>[.bL [.ld 0 0] ⟨15,M⟩]
 |⟨15,M⟩=>[.new true (lF #[kl k] 152) λb=>⟨16,M++[(true,b,lF #[kl k] 152)]⟩]
 |⟨16,M⟩=>[.bL [.ld 5 0] ⟨17,M⟩]
 |⟨17,_⟩=>[.leave (kl c)]
 |_=>[]
noncomputable def sg(k c:Int)(kd:CallKind):de rN:=⟨Tryz.prog,vh,λ_=>false,kd,λp=>p.M,λ_=>400,Ju k c⟩
def St(k c:Int)(kd:CallKind):dn (sg k c kd).P (sg k c kd).ext:=by unfold sg;exact Hc
def Jv(d:S8 kd)(h:(k=0/\c=3)\/(k=1/\c=1)\/(k=2/\c=1)\/(k=3/\c=1)\/(k=4/\c=5)):Good (sg k c kd) 20 ⟨0,[]⟩ (Frame.enter Tryz.prog 40 #[.iface 152 (.agg #[kl k])] kd,[]):=by
 rcases d with rfl|rfl<;>rcases h with⟨rfl,rfl⟩|⟨rfl,rfl⟩|⟨rfl,rfl⟩|⟨rfl,rfl⟩|⟨rfl,rfl⟩
 all_goals repeat' (first|exact trivial|kernel_rfl|refine⟨?_,?_⟩|refine λ(_:Nat)=>?_)
def Mn:rN->List (Edge rN)
 |⟨0,M⟩=>[.new true (lF #[kl 0] 152) λb=>⟨1,M++[(true,b,lF #[kl 0] 152)]⟩]
 |⟨1,_⟩=>[.leave (kl 0)]
 |_=>[]
noncomputable def n2(kd:CallKind):de rN:=⟨Tryz.prog,vh,λ_=>false,kd,λp=>p.M,λ_=>400,Mn⟩
def Su(kd:CallKind):dn (n2 kd).P (n2 kd).ext:=by unfold n2;exact Hc
def Mp(c:S8 kd):Good (n2 kd) 3 ⟨0,[]⟩ (Frame.enter Tryz.prog 40 #[.nilIface] kd,[]):=by
 rcases c with rfl|rfl
 all_goals repeat' (first|exact trivial|kernel_rfl|refine⟨?_,?_⟩|refine λ(_:Nat)=>?_)
section
variable{bF:Machine->Outcome->World->Trace->Prop}{aH:Nat->Prop}{gs:Array Goroutine}{w:World}{t:Trace}{bx:Frame}{rest:List Frame}{kd:CallKind}
def GI{Pos:Type}{A:de Pos}(c:∀b,aH b->b<w.heap.size):bN A aH w w []:=⟨⟨λi own b o h=>by simp at h,λi j own b o g d f h=>by simp at h⟩,λ_ _=>rfl,Calm.refl w,λi own b o h=>by simp at h,c⟩
def Jx(j:S8 kd)(l:Kept bx)(h:(k=0/\c=3)\/(k=1/\c=1)\/(k=2/\c=1)\/(k=3/\c=1)\/(k=4/\c=5))(i:w.cell? ⟨0,0,none⟩=some oO)(g:¬aH 0)(o:∀b,aH b->b<w.heap.size)(d:cc aK aH gs (S6 (Frame.enter aK 40 #[.iface 152 (.agg #[kl k])] kd) (bx::rest)) w t 0)(K:∀gs u t,(∀b,b<w.heap.size->u.heap[b]?=w.heap[b]?)->Calm w u->cc aK aH gs (S6 (eU kd bx (kl c)) rest) u t 0->S7 aK bF gs u t):S7 aK bF gs w t:=by
 have X:=St k c kd;have F:∀p,(sg k c kd).dh p<=400:=λ_=>bg
 have s:dK (sg k c kd) (bx::rest) aH w gs w t ⟨0,[]⟩ (Frame.enter aK 40 #[.iface 152 (.agg #[kl k])] kd,[]) 20 400:=⟨⟨_,Jv j h,rfl⟩,bg,GI o,d⟩
 refine s.new X F (.head _) λ_ _ _ _ _ s=>?_
 refine s.nI X F (.head _) λ_ _ _ _ _ s=>?_
 refine s.new X F (.head _) λ_ _ _ _ _ s=>?_
 refine s.bL X F (.head _) λ_ _ _ _ s=>?_
 refine s.bL X F (.head _) λ_ _ _ _ s=>?_
 refine s.bL X F (.head _) λ_ _ _ _ s=>?_
 refine s.mb X F (.head _) λ_ _ _ _ s=>?_
 refine s.look X F (.head _) i g λ_ _ _ _ s=>?_
 refine s.bL X F (.head _) λ_ _ _ _ s=>?_
 refine s.new X F (.head _) λ_ _ _ _ _ s=>?_
 refine s.bL X F (.head _) λ_ _ _ _ s=>?_
 refine s.mb X F (.head _) λ_ _ _ _ s=>?_
 refine s.nI X F (.head _) λ_ _ _ _ _ s=>?_
 refine s.mb X F (.head _) λ_ _ _ _ s=>?_
 refine s.bL X F (.head _) λ_ _ _ _ s=>?_
 refine s.new X F (.head _) λ_ _ _ _ _ s=>?_
 refine s.bL X F (.head _) λ_ _ _ _ s=>?_
 exact s.leave X l (.head _) λgs u t f d=>K gs u t f.old f.calm d
def Mt(f:S8 kd)(g:Kept bx)(h:∀b,aH b->b<w.heap.size)(c:cc aK aH gs (S6 (Frame.enter aK 40 #[.nilIface] kd) (bx::rest)) w t 0)(K:∀gs u t,(∀b,b<w.heap.size->u.heap[b]?=w.heap[b]?)->Calm w u->cc aK aH gs (S6 (eU kd bx (kl 0)) rest) u t 0->S7 aK bF gs u t):S7 aK bF gs w t:=by
 have X:=Su kd;have F:∀p,(n2 kd).dh p<=400:=λ_=>bg
 have s:dK (n2 kd) (bx::rest) aH w gs w t ⟨0,[]⟩ (Frame.enter aK 40 #[.nilIface] kd,[]) 3 400:=⟨⟨_,Mp f,rfl⟩,bg,GI h,c⟩
 refine s.new X F (.head _) λ_ _ _ _ _ s=>?_
 exact s.leave X g (.head _) λgs u t d c=>K gs u t d.old d.calm c
end
end
end Go.aO
