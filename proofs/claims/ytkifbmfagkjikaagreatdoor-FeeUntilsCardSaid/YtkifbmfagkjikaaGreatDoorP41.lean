/- A part; no conditions. -/
import Derived.Test.YtkifbmfagkjikaaGreatDoorP16
set_option maxHeartbeats 8000000
set_option maxRecDepth 100000
set_option linter.all false
namespace Go.aO
attribute [-simp] Go.Sem.runT_eq
open Go.Proofs Go.Conc Go.ConcN
variable{kd:CallKind}{c k:Int}
section
open Extern in
def Hb:List (FuncId×(Array Value->Sem Value)):=
 [(75,λargs=>ReflectliteValue.unpack (args.getD 0 (.tuple #[]))),(76,ReflectliteValue.methodAny (ReflectliteValue.valueError "reflectlite.Value.Type" 0) (λt _ _ _=>ReflectliteType.toType t)),
  (77,ReflectliteValue.method (ReflectliteValue.valueError "reflectlite.Value.IsNil" 0) ReflectliteValue.isNil),(172,ReflectliteType.abiMethod λt=>do pure (.int .u8 (<-Rtype.kind t))),
  (185,ReflectliteType.method ReflectliteType.elem),(186,ReflectliteType.relation "Implements" ReflectliteType.implements_),(92,ReflectliteType.typeOf),(183,ReflectliteType.relation "AssignableTo" ReflectliteType.assignableTo),
  (93,ReflectliteValue.method (ReflectliteValue.valueError "reflectlite.Value.Elem" 0) ReflectliteValue.elem),(94,ReflectliteValue.set)]
def vh:Ext:=λf=>look f Hb
open Extern in
def Hc:dn Tryz.prog vh:=by
 have e:∀f (fn:Func) (e:Array Value->Sem Value),Tryz.prog.funcs[f]?=some fn->(fn.name == "runtime.NumGoroutine")=false->fn.body.isNone=true->Extern.findNext fn=none->Extern.find fn=some e->Entry f e:=λf fn e c d g i j=>⟨fn,c,d,g,i,j⟩
 intro f e h;have hm:=DS h;unfold Hb at hm;simp only[List.mem_cons,Prod.mk.injEq,iN,or_false]at hm;rcases hm with⟨rfl,rfl⟩|⟨rfl,rfl⟩|⟨rfl,rfl⟩|⟨rfl,rfl⟩|⟨rfl,rfl⟩|⟨rfl,rfl⟩|⟨rfl,rfl⟩|⟨rfl,rfl⟩|⟨rfl,rfl⟩|⟨rfl,rfl⟩
 .exact⟨Tryz.f75,Tryz.func75,av,av,av,av⟩
 .exact⟨Tryz.f76,Tryz.func76,av,av,av,av⟩
 .exact⟨Tryz.f77,Tryz.func77,av,av,av,av⟩
 .exact⟨Tryz.f172,Tryz.func172,av,av,av,av⟩
 .exact⟨Tryz.f185,Tryz.func185,av,av,av,av⟩
 .exact⟨Tryz.f186,Tryz.func186,av,av,av,av⟩
 .exact⟨Tryz.f92,Tryz.func92,av,av,av,av⟩
 .exact⟨Tryz.f183,Tryz.func183,av,av,av,av⟩
 .exact⟨Tryz.f93,Tryz.func93,av,av,av,av⟩
 .exact⟨Tryz.f94,Tryz.func94,av,av,av,av⟩
structure rN where
 l:Nat
 M:Mem
def tP(M:Mem)(i:Nat):Value:=match M[i]? with
 |some (_,b,_)=>.pointer (some ⟨b,0,none⟩)
 |none=>undef
abbrev kl(n:Int):Value:=.int .i64 n
abbrev ht:Value:=.pointer (some ⟨1,145,none⟩)
abbrev oO:Value:=.iface 206 (.agg #[.pointer (some ⟨1,75,none⟩)])
def lF(c:Array Value)(t:TypeId):Obj:=.cells c t
def tp(M:Mem):Array Value:=#[ht,tP M 1,.int .u64 150]
def wU(i:Nat):List gZ:=[.ld i 0,.ld i 1,.ld i 2]
def Ju(k c:Int):rN->List (Edge rN)
 |⟨0,M⟩=>[.new true (lF #[kl 0] 143) λb=>⟨1,M++[(true,b,lF #[kl 0] 143)]⟩]
 |⟨1,M⟩=>[.nI 75 (lF #[tP M 0] 145) λb=>⟨2,M++[(true,b,lF #[tP M 0] 145)]⟩]
 |⟨2,M⟩=>[.new true (lF #[.pointer none,.pointer none,.int .u64 0] 184) λb=>⟨3,M++[(true,b,lF #[.pointer none,.pointer none,.int .u64 0] 184)]⟩]
 |⟨3,M⟩=>[.bL [.st 2 0 ht,.st 2 1 (tP M 1),.st 2 2 (.int .u64 150)] ⟨4,c0 M [.st 2 0 ht,.st 2 1 (tP M 1),.st 2 2 (.int .u64 150)]⟩]
 |⟨4,M⟩=>[.bL (wU 2) ⟨5,M⟩]
 |⟨5,M⟩=>[.bL (wU 2) ⟨6,M⟩]
 |⟨6,M⟩=>[.mb 77 [.ld 1 0] ⟨7,M⟩]
 |⟨7,M⟩=>[.fix false false [.val oO] [.load .plain ⟨0,0,none⟩ oO] ⟨8,M⟩]
 |⟨8,M⟩=>[.bL (wU 2) ⟨9,M⟩]
 |⟨9,M⟩=>[.new true (lF (tp M) 184) λb=>⟨10,M++[(true,b,lF (tp M) 184)]⟩]
 |⟨10,M⟩=>[.bL (wU 3) ⟨11,M⟩]
 |⟨11,M⟩=>[.mb 93 [.ld 1 0] ⟨12,M⟩]
 |⟨12,M⟩=>[.nI 75 (lF #[kl k] 143) λb=>⟨13,M++[(true,b,lF #[kl k] 143)]⟩]
 |⟨13,M⟩=>[.mb 94 [.ld 4 0,.st 0 0 (kl k)] ⟨14,c0 M [.ld 4 0,.st 0 0 (kl k)]⟩]
 |⟨14,M⟩=>[.bL [.ld 0 0] ⟨15,M⟩]
 |⟨15,M⟩=>[.new true (lF #[kl k] 143) λb=>⟨16,M++[(true,b,lF #[kl k] 143)]⟩]
 |⟨16,M⟩=>[.bL [.ld 5 0] ⟨17,M⟩]
 |⟨17,_⟩=>[.leave (kl c)]
 |_=>[]
noncomputable def sg(k c:Int)(kd:CallKind):de rN:=⟨Tryz.prog,vh,λ_=>false,kd,λp=>p.M,λ_=>400,Ju k c⟩
def St(k c:Int)(kd:CallKind):dn (sg k c kd).P (sg k c kd).ext:=by unfold sg;exact Hc
def Jv(d:kd=.normal\/kd=.deferred)(h:(k=0/\c=3)\/(k=1/\c=1)\/(k=2/\c=1)\/(k=3/\c=1)\/(k=4/\c=5)):Good (sg k c kd) 20 ⟨0,[]⟩ (Frame.enter Tryz.prog 29 #[.iface 143 (.agg #[kl k])] kd,[]):=by
 rcases d with rfl|rfl<;>rcases h with⟨rfl,rfl⟩|⟨rfl,rfl⟩|⟨rfl,rfl⟩|⟨rfl,rfl⟩|⟨rfl,rfl⟩
 all_goals repeat' (first|exact trivial|kernel_rfl|refine⟨?_,?_⟩|refine λ(_:Nat)=>?_)
def Mn:rN->List (Edge rN)
 |⟨0,M⟩=>[.new true (lF #[kl 0] 143) λb=>⟨1,M++[(true,b,lF #[kl 0] 143)]⟩]
 |⟨1,_⟩=>[.leave (kl 0)]
 |_=>[]
noncomputable def n2(kd:CallKind):de rN:=⟨Tryz.prog,vh,λ_=>false,kd,λp=>p.M,λ_=>400,Mn⟩
def Su(kd:CallKind):dn (n2 kd).P (n2 kd).ext:=by unfold n2;exact Hc
def Mp(c:kd=.normal\/kd=.deferred):Good (n2 kd) 3 ⟨0,[]⟩ (Frame.enter Tryz.prog 29 #[.nilIface] kd,[]):=by
 rcases c with rfl|rfl
 all_goals repeat' (first|exact trivial|kernel_rfl|refine⟨?_,?_⟩|refine λ(_:Nat)=>?_)
section
variable{bF:Machine->Outcome->World->Trace->Prop}{aH:Nat->Prop}{gs:Array Goroutine}{w:World}{t:Trace}{bx:Frame}{rest:List Frame}{kd:CallKind}
def GI{Pos:Type}{A:de Pos}(c:∀b,aH b->b<w.heap.size):bN A aH w w []:=⟨⟨λi own b o h=>by simp at h,λi j own b o g d f h=>by simp at h⟩,λ_ _=>rfl,Calm.refl w,λi own b o h=>by simp at h,c⟩
def Jx(j:kd=.normal\/kd=.deferred)(l:Kept bx)(h:(k=0/\c=3)\/(k=1/\c=1)\/(k=2/\c=1)\/(k=3/\c=1)\/(k=4/\c=5))(i:w.cell? ⟨0,0,none⟩=some oO)(g:¬aH 0)(m:∀b,aH b->b<w.heap.size)(d:cc aK aH gs ⟨Frame.enter aK 29 #[.iface 143 (.agg #[kl k])] kd,bx::rest,.running,none,none⟩ w t 0)(K:∀gs u t,(∀b,b<w.heap.size->u.heap[b]?=w.heap[b]?)->Calm w u->cc aK aH gs ⟨eU kd bx (kl c),rest,.running,none,none⟩ u t 0->∀sl,Ends aK bF (crowd gs u sl) t):∀sl,Ends aK bF (crowd gs w sl) t:=by
 have X:=St k c kd;have F:∀p,(sg k c kd).dh p<=400:=λ_=>bg
 have s:dK (sg k c kd) (bx::rest) aH w gs w t ⟨0,[]⟩ (Frame.enter aK 29 #[.iface 143 (.agg #[kl k])] kd,[]) 20 400:=⟨⟨_,Jv j h,rfl⟩,bg,GI m,d⟩
 refine s.new X F (.head _) λ_ _ _ _ _ s=>?_
 refine s.nI X F (.head _) λ_ _ _ _ _ s=>?_
 refine s.new X F (.head _) λ_ _ _ _ _ s=>?_
 refine s.bL X F (.head _) λ_ _ _ _ s=>?_
 refine s.bL X F (.head _) λ_ _ _ _ s=>?_
 refine s.bL X F (.head _) λ_ _ _ _ s=>?_
 refine s.mb X F (.head _) λ_ _ _ _ s=>?_
 refine s.look X F (.head _) i g λ_ _ _ _ s=>?_
 refine s.bL X F (.head _) λ_ _ _ _ s=>?_
 refine s.new X F (.head _) λ_ _ _ _ _ s=>?_
 refine s.bL X F (.head _) λ_ _ _ _ s=>?_
 refine s.mb X F (.head _) λ_ _ _ _ s=>?_
 refine s.nI X F (.head _) λ_ _ _ _ _ s=>?_
 refine s.mb X F (.head _) λ_ _ _ _ s=>?_
 refine s.bL X F (.head _) λ_ _ _ _ s=>?_
 refine s.new X F (.head _) λ_ _ _ _ _ s=>?_
 refine s.bL X F (.head _) λ_ _ _ _ s=>?_
 exact s.leave X l (.head _) λgs u t f d=>K gs u t f.old f.calm d
def Mt(f:kd=.normal\/kd=.deferred)(g:Kept bx)(h:∀b,aH b->b<w.heap.size)(c:cc aK aH gs ⟨Frame.enter aK 29 #[.nilIface] kd,bx::rest,.running,none,none⟩ w t 0)(K:∀gs u t,(∀b,b<w.heap.size->u.heap[b]?=w.heap[b]?)->Calm w u->cc aK aH gs ⟨eU kd bx (kl 0),rest,.running,none,none⟩ u t 0->∀sl,Ends aK bF (crowd gs u sl) t):∀sl,Ends aK bF (crowd gs w sl) t:=by
 have X:=Su kd;have F:∀p,(n2 kd).dh p<=400:=λ_=>bg
 have s:dK (n2 kd) (bx::rest) aH w gs w t ⟨0,[]⟩ (Frame.enter aK 29 #[.nilIface] kd,[]) 3 400:=⟨⟨_,Mp f,rfl⟩,bg,GI h,c⟩
 refine s.new X F (.head _) λ_ _ _ _ _ s=>?_
 exact s.leave X g (.head _) λgs u t d c=>K gs u t d.old d.calm c
end
end
end Go.aO
