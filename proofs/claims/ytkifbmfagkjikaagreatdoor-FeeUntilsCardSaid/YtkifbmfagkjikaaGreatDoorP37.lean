/- A part; no conditions. -/
import Derived.Test.YtkifbmfagkjikaaGreatDoorP36
set_option maxHeartbeats 8000000
set_option maxRecDepth 100000
set_option linter.all false
namespace Go.aO
open Go.Proofs Go.RowKit
section
variable{A:Array Func}
def SY[S:Std A](L:Value)(w:World)(h:ly w L w.heap.size)(f:L.oneCell'=true):
 Calls (ao A) 6 #[L] w λe w'=>e=.returned (.pointer (some ⟨w.heap.size,0,none⟩))/\fS w' w.heap.size L 0/\w.grownBy w' none:=by
 have d:=al h;rcases h with⟨q,rfl⟩|⟨b,off,n,c,z,rfl,_,_,_⟩
 all_goals (
  go_enter (S.f Tryz.func6),Tryz.ntmps6;go_wp2;go_ret;exact⟨rfl,⟨⟨_,fM _ _,U,U⟩,d.out.keep bT⟩,bT⟩)
def MC{w:World}{B n:Nat}{v:Value}{f:Nat->Int}(m:0<n)(h:w.ownsRow B 3 1 v n ((List.range n).map λj=>gi (f j))):∃g cap cur,v=.slice (some ⟨g,0,none⟩) n cap/\B<=g/\w.heap[g]?=some (.cells cur 3)/\gn w g 0 n f:=by
 obtain⟨g,cap,cur,rfl,i,_,c,l⟩:=xj h m;refine⟨g,cap,cur,rfl,i,c,λj d=>?_⟩;rw[aU c,Nat.zero_add,<-Array.getElem?_toList];have e:(cur.toList.take n)[j]?=some (gi (f j)):=by rw[l];simp[d]
 rw[List.getElem?_take,if_pos d]at e;exact e
def Od(b:Nat)(q:Option Addr)(c:Nat)(w:World):Sem.run (ao A) (Builtin.append_ #[22,22] 22 #[.slice (some ⟨b,0,none⟩) 0 0,.slice q 0 c]) w=.ok (.slice (some ⟨b,0,none⟩) 0 0) w:=by cases q<;>kernel_rfl
def Sr{ops:Array Oper}{rest:List Oper}{o:Oper}{a:Act}{Q:Exit->Act->World->Prop}{w:World}(f:o.guard=none)(s x:Operand)(g:o.op=.call {callee:=.builtin .append,args:=#[s,x],argTypes:=#[22,22]})(j:o.type=22)(b:Nat)(q:Option Addr)(c:Nat)(i:a.eval s=.slice (some ⟨b,0,none⟩) 0 0)(l:a.eval x=.slice q 0 c)(h:wpList (ao A) ops Q rest (a.put o.dst (.slice (some ⟨b,0,none⟩) 0 0)) w):
 wpList (ao A) ops Q (o::rest) a w:=by
 refine wpList_plain f λK d=>?_
 unfold Oper.wp execOp;simp only[g,j,resolve,invoke,builtin,Sem.run_bind,Sem.run_pure,Result.andThen_ok,List.map_toArray,List.map_cons,List.map_nil,i,l,Od];exact d _ _ h
def wP[S:Std A](q:Option Addr)(n c:Nat)(f:Nat->Int)(Y:n<=100)(w:World)(h:n≠0->∃b o,q=some ⟨b,o,none⟩/\gn w b o n f):
 Calls (ao A) 26 #[.slice q n c] w λe w'=>∃p:Nat,(∃bp:Nat,e=.returned (.slice (some ⟨p,0,none⟩) n bp))/\w.heap.size<=p/\(∃cur:Array Value,w'.heap[p]?=some (.cells cur 3))/\gn w' p 0 n f/\w.grownBy w' none:=by
 obtain⟨W,m,y,z,B⟩:=wL (A:=A);by_cases C:n=0
 .subst C
  clear h m y z B;go_enter (S.f Tryz.func26),Tryz.ntmps26;go_wp2_with (at_builtin;refine Sr rfl _ _ rfl rfl w.heap.size q c rfl rfl ?_)
  go_ret;exact⟨w.heap.size,⟨0,rfl⟩,bg,⟨#[],fM _ _⟩,λj d=>U,bT⟩
 .obtain⟨b,o,rfl,r⟩:=h C
  have K:=al r;have G:=al m;have L:=al y;have M:=al z;have P:=al B;have H:=al (lD (r 0 U));have F:(w.alloc (.cells #[] 3)).ownsRow w.heap.size 3 1 (.slice (some ⟨w.heap.size,0,none⟩) 0 0) 0 []:=⟨rfl,.inr ⟨w.heap.size,0,#[],rfl,bg,fM _ _,bg,kj,rfl,rfl⟩⟩
  have Q:=al F;clear m y z B F r h;go_enter (S.f Tryz.func26),Tryz.ntmps26;have I:=al (show ∀(j:Nat) u,((List.range n).map λj=>gi (f j))[j]?=some u->(w.alloc (.cells #[] 3)).cell? ((⟨b,o,none⟩:Addr).add j)=some u from λj u d=>by
   have D:j<n/\gi (f j)=u:=by
    rw[List.getElem?_map]at d;rcases Nat.lt_or_ge j n with x|x
    .rw[List.getElem?_range x]at d
     exact⟨x,by simpa using d⟩
    .rw[List.getElem?_eq_none (by simpa using x)]at d
     cases d
   have:=K.out j D.1;rw[show((⟨b,o,none⟩:Addr).add j)=⟨b,o+j,none⟩ by simp[Addr.add]];rw[<-D.2];exact(hD _ _ _ H.out).trans this)
  have J:=al (show ∀u∈(List.range n).map (λj=>gi (f j)),u.oneCell'=true from λu hu=>by obtain⟨n,_,rfl⟩:=List.mem_map.1 hu;rfl)
  go_wp2_with (at_builtin;refine wpList_append_own_at _ rfl _ _ 22 rfl w.heap.size 3 W (.int .i64 0) 1 8 (ao.underlying22 A) G.out L.out M.out P.out rfl a6 _ 0 _ rfl Q.out ⟨b,o,none⟩ n c ((List.range n).map λj=>gi (f j)) rfl aF I.out J.out kj U aF ?_;intro aa ad E l Z X)
  go_ret;rw[Nat.zero_add,List.nil_append]at E;obtain⟨g,cap,cur,rfl,V,T,R⟩:=MC U E;refine⟨g,⟨cap,rfl⟩,V,⟨cur,T⟩,R,?_⟩;refine⟨l.os,l.tape,l.output,cL aF l.size,λi m _=>(l.block i cH (λe=>?_)).trans (dm m)⟩;have e:some i=some w.heap.size:=e;have:=bD e;omega
end
end Go.aO
