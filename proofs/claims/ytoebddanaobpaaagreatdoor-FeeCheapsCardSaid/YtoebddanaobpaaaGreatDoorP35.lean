/- A part. -/
import Derived.Test.YtoebddanaobpaaaGreatDoorP12
set_option maxHeartbeats 8000000
set_option maxRecDepth 100000
set_option linter.all false
namespace Go.aO
attribute [-simp] Go.Sem.runT_eq
open Go.Proofs Tryz Go.Conc Go.ConcN
variable{c k:Int}{kd:Tx}
section
open Extern in
def Hb:Tb (Tw×(Te->Sem S9)):=
 [(83,λargs=>ReflectliteValue.unpack (args.getD 0 (.tuple #[]))),(84,ReflectliteValue.methodAny (ReflectliteValue.valueError "reflectlite.Value.Type" 0) (λt _ _ _=>ReflectliteType.toType t)),
  (85,ReflectliteValue.method (ReflectliteValue.valueError "reflectlite.Value.IsNil" 0) ReflectliteValue.isNil),(175,ReflectliteType.abiMethod λt=>do pure (.int .u8 (<-Rtype.kind t))),
  (188,ReflectliteType.method ReflectliteType.elem),(189,ReflectliteType.relation "Implements" ReflectliteType.implements_),(98,ReflectliteType.typeOf),(186,ReflectliteType.relation "AssignableTo" ReflectliteType.assignableTo),
  (99,ReflectliteValue.method (ReflectliteValue.valueError "reflectlite.Value.Elem" 0) ReflectliteValue.elem),(100,ReflectliteValue.set)]
def vh:Ext:=λf=>look f Hb
open Extern in
def Hc:dn prog vh:=by
 have e:∀f (fn:TF) (e:Te->Sem S9),prog.funcs[f]?=some fn->(fn.name == "runtime.NumGoroutine")=false->fn.body.isNone=true->Extern.findNext fn=none->Extern.find fn=some e->Entry f e:=λf fn e c d g i j=>⟨fn,c,d,g,i,j⟩
 intro f e h;have hm:=DS h;unfold Hb at hm;simp only[T7,Prod.mk.injEq,iN,or_false]at hm;rcases hm with⟨rfl,rfl⟩|⟨rfl,rfl⟩|⟨rfl,rfl⟩|⟨rfl,rfl⟩|⟨rfl,rfl⟩|⟨rfl,rfl⟩|⟨rfl,rfl⟩|⟨rfl,rfl⟩|⟨rfl,rfl⟩|⟨rfl,rfl⟩
 .exact⟨f83,func83,av,av,av,av⟩
 .exact⟨f84,func84,av,av,av,av⟩
 .exact⟨f85,func85,av,av,av,av⟩
 .exact⟨f175,func175,av,av,av,av⟩
 .exact⟨f188,func188,av,av,av,av⟩
 .exact⟨f189,func189,av,av,av,av⟩
 .exact⟨f98,func98,av,av,av,av⟩
 .exact⟨f186,func186,av,av,av,av⟩
 .exact⟨f99,func99,av,av,av,av⟩
 .exact⟨f100,func100,av,av,av,av⟩
structure rN where
 l:Nat
 M:Mem
def tP(M:Mem)(i:Nat):S9:=match M[i]? with
 |some (_,b,_)=>Tj b
 |none=>undef
abbrev kl(n:Int):S9:=ah n
abbrev ht:S9:=T1 1 172
abbrev oO:S9:=.iface 215 (.agg #[T1 1 114])
def lF(c:Te)(t:Tg):Obj:=.cells c t
def tp(M:Mem):Te:=#[ht,tP M 1,.int .u64 150]
def wU(i:Nat):Tb gZ:=[.ld i 0,.ld i 1,.ld i 2]
def Ju(k c:Int):rN->Tb (Edge rN)
 |⟨0,M⟩=>[.new true (lF #[kl 0] 146) λb=>⟨1,M++[(true,b,lF #[kl 0] 146)]⟩]
 |⟨1,M⟩=>[.nI 83 (lF #[tP M 0] 172) λb=>⟨2,M++[(true,b,lF #[tP M 0] 172)]⟩]
 |⟨2,M⟩=>[.new true (lF #[.pointer none,.pointer none,.int .u64 0] 193) λb=>⟨3,M++[(true,b,lF #[.pointer none,.pointer none,.int .u64 0] 193)]⟩]
 |⟨3,M⟩=>[.bL [.st 2 0 ht,.st 2 1 (tP M 1),.st 2 2 (.int .u64 150)] ⟨4,c0 M [.st 2 0 ht,.st 2 1 (tP M 1),.st 2 2 (.int .u64 150)]⟩]
 |⟨4,M⟩=>[.bL (wU 2) ⟨5,M⟩]
 |⟨5,M⟩=>[.bL (wU 2) ⟨6,M⟩]
 |⟨6,M⟩=>[.mb 85 [.ld 1 0] ⟨7,M⟩]
 |⟨7,M⟩=>[.fix false false [.val oO] [.load .plain (Ti 0) oO] ⟨8,M⟩]
 |⟨8,M⟩=>[.bL (wU 2) ⟨9,M⟩]
 |⟨9,M⟩=>[.new true (lF (tp M) 193) λb=>⟨10,M++[(true,b,lF (tp M) 193)]⟩]
 |⟨10,M⟩=>[.bL (wU 3) ⟨11,M⟩]
 |⟨11,M⟩=>[.mb 99 [.ld 1 0] ⟨12,M⟩]
 |⟨12,M⟩=>[.nI 83 (lF #[kl k] 146) λb=>⟨13,M++[(true,b,lF #[kl k] 146)]⟩]
 |⟨13,M⟩=>[.mb 100 [.ld 4 0,.st 0 0 (kl k)] ⟨14,c0 M [.ld 4 0,.st 0 0 (kl k)]⟩]
 |⟨14,M⟩=>[.bL [.ld 0 0] ⟨15,M⟩]
 |⟨15,M⟩=>[.new true (lF #[kl k] 146) λb=>⟨16,M++[(true,b,lF #[kl k] 146)]⟩]
 |⟨16,M⟩=>[.bL [.ld 5 0] ⟨17,M⟩]
 |⟨17,_⟩=>[.leave (kl c)]
 |_=>[]
noncomputable def sg(k c:Int)(kd:Tx):de rN:=⟨prog,vh,λ_=>false,kd,λp=>p.M,λ_=>400,Ju k c⟩
def St(k c:Int)(kd:Tx):dn (sg k c kd).P (sg k c kd).ext:=by unfold sg;exact Hc
def Jv(d:TG kd)(h:(k=0/\c=3)\/(k=1/\c=1)\/(k=2/\c=1)\/(k=3/\c=1)\/(k=4/\c=5)):Good (sg k c kd) 20 ⟨0,[]⟩ (Frame.enter prog 44 #[.iface 146 (.agg #[kl k])] kd,[]):=by
 rcases d with rfl|rfl<;>rcases h with⟨rfl,rfl⟩|⟨rfl,rfl⟩|⟨rfl,rfl⟩|⟨rfl,rfl⟩|⟨rfl,rfl⟩
 all_goals repeat' (first|exact Tf|kernel_rfl|refine⟨?_,?_⟩|refine λ(_:Nat)=>?_)
def Mn:rN->Tb (Edge rN)
 |⟨0,M⟩=>[.new true (lF #[kl 0] 146) λb=>⟨1,M++[(true,b,lF #[kl 0] 146)]⟩]
 |⟨1,_⟩=>[.leave (kl 0)]
 |_=>[]
noncomputable def n2(kd:Tx):de rN:=⟨prog,vh,λ_=>false,kd,λp=>p.M,λ_=>400,Mn⟩
def Su(kd:Tx):dn (n2 kd).P (n2 kd).ext:=by unfold n2;exact Hc
def Mp(c:TG kd):Good (n2 kd) 3 ⟨0,[]⟩ (Frame.enter prog 44 #[.nilIface] kd,[]):=by
 rcases c with rfl|rfl
 all_goals repeat' (first|exact Tf|kernel_rfl|refine⟨?_,?_⟩|refine λ(_:Nat)=>?_)
section
variable{bF:TU->T0->S7->Tt->Prop}{aH:TM}{gs:TR}{w:S7}{t:Tt}{bx:TB}{Tp:Tz}{kd:Tx}
def GI{Pos:Type}{A:de Pos}(c:∀b,aH b->b<w.heap.size):bN A aH w w []:=⟨⟨λi own b o h=>by simp at h,λi j own b o g d f h=>by simp at h⟩,λ_ _=>S6,Calm.refl w,λi own b o h=>by simp at h,c⟩
def Jx(j:TG kd)(l:Kept bx)(h:(k=0/\c=3)\/(k=1/\c=1)\/(k=2/\c=1)\/(k=3/\c=1)\/(k=4/\c=5))(i:w.cell? (Ti 0)=some oO)(g:¬aH 0)(m:∀b,aH b->b<w.heap.size)(d:cc aK aH gs (Tk (Frame.enter aK 44 #[.iface 146 (.agg #[kl k])] kd) (bx::Tp)) w t 0)(K:∀gs u t,(∀b,b<w.heap.size->u.heap[b]?=w.heap[b]?)->Calm w u->cc aK aH gs (Tk (eU kd bx (kl c)) Tp) u t 0->Tu aK bF gs u t):Tu aK bF gs w t:=by
 have X:=St k c kd;have F:∀p,(sg k c kd).dh p<=400:=λ_=>bg
 have s:dK (sg k c kd) (bx::Tp) aH w gs w t ⟨0,[]⟩ (Frame.enter aK 44 #[.iface 146 (.agg #[kl k])] kd,[]) 20 400:=⟨⟨_,Jv j h,S6⟩,bg,GI m,d⟩
 refine s.new X F (.head _) λ_ _ _ _ _ s=>?_
 refine s.nI X F (.head _) λ_ _ _ _ _ s=>?_
 refine s.new X F (.head _) λ_ _ _ _ _ s=>?_
 refine s.bL X F (.head _) λ_ _ _ _ s=>?_
 refine s.bL X F (.head _) λ_ _ _ _ s=>?_
 refine s.bL X F (.head _) λ_ _ _ _ s=>?_
 refine s.mb X F (.head _) λ_ _ _ _ s=>?_
 refine s.look X F (.head _) i g λ_ _ _ _ s=>?_
 refine s.bL X F (.head _) λ_ _ _ _ s=>?_
 refine s.new X F (.head _) λ_ _ _ _ _ s=>?_
 refine s.bL X F (.head _) λ_ _ _ _ s=>?_
 refine s.mb X F (.head _) λ_ _ _ _ s=>?_
 refine s.nI X F (.head _) λ_ _ _ _ _ s=>?_
 refine s.mb X F (.head _) λ_ _ _ _ s=>?_
 refine s.bL X F (.head _) λ_ _ _ _ s=>?_
 refine s.new X F (.head _) λ_ _ _ _ _ s=>?_
 refine s.bL X F (.head _) λ_ _ _ _ s=>?_
 exact s.leave X l (.head _) λgs u t f d=>K gs u t f.old f.calm d
def Mt(f:TG kd)(g:Kept bx)(h:∀b,aH b->b<w.heap.size)(c:cc aK aH gs (Tk (Frame.enter aK 44 #[.nilIface] kd) (bx::Tp)) w t 0)(K:∀gs u t,(∀b,b<w.heap.size->u.heap[b]?=w.heap[b]?)->Calm w u->cc aK aH gs (Tk (eU kd bx (kl 0)) Tp) u t 0->Tu aK bF gs u t):Tu aK bF gs w t:=by
 have X:=Su kd;have F:∀p,(n2 kd).dh p<=400:=λ_=>bg
 have s:dK (n2 kd) (bx::Tp) aH w gs w t ⟨0,[]⟩ (Frame.enter aK 44 #[.nilIface] kd,[]) 3 400:=⟨⟨_,Mp f,S6⟩,bg,GI h,c⟩
 refine s.new X F (.head _) λ_ _ _ _ _ s=>?_
 exact s.leave X g (.head _) λgs u t d c=>K gs u t d.old d.calm c
end
end
end Go.aO
