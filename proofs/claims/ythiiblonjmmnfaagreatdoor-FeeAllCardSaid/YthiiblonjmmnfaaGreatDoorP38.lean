/- Part 39 of a law on fees: no conditions. -/
import Derived.Test.YthiiblonjmmnfaaGreatDoorP37
set_option maxHeartbeats 8000000
set_option maxRecDepth 100000
set_option linter.all false
namespace Go.aN
attribute [-simp] Go.Sem.runT_eq
open Go.Proofs Go.Conc Go.ConcN
def ng(n:Nat):Array Bool:=((List.range 70).map λi=>n.testBit i).toArray
noncomputable def Cq(S:Array Bool):List Nat:=(List.range jR.size).filter λi=>!S.getD i true && ((jR[i]?).map (·.after.all λe=>!Region.binds .any e||S.getD e.on false)).getD false
noncomputable def part:Nat->Array Bool->List (List Nat×Array Bool)
 | 0,S=>[([],S)]
 |m+1,S=>match Cq S with
  | []=>[([999],S)]
  |i::rs=>(i::rs).flatMap λi=>(part m (S.setIfInBounds i true)).map λx=>(i::x.1,x.2)
def BV{l:List Nat}{fuel:Nat}:∀(m:Nat) (S:Array Bool) (acc:List Nat),l∈kK .any jR (m+fuel) S acc->∃x∈part m S,999∈x.1\/l∈kK .any jR fuel x.2 (x.1.reverse++acc)
 | 0,S,acc,h=>⟨([],S),by simp[part],.inr (by rw[Nat.zero_add]at h;exact h)⟩
 |m+1,S,acc,h=>by
  rw[show m+1+fuel=(m+fuel)+1 by omega]at h;unfold kK at h;cases c:Cq S with
  |nil=>exact⟨([999],S),by unfold part;rw[c];simp,.inl (by simp)⟩
  |cons i rs=>
   rw[show((List.range jR.size).filter λi=>!S.getD i true && ((jR[i]?).map (·.after.all λe=>!Region.binds .any e||S.getD e.on false)).getD false)=i::rs from c]at h;obtain⟨j,d,h⟩:=List.mem_flatMap.1 h;obtain⟨x,f,h⟩:=BV m _ _ h;refine⟨(j::x.1,x.2),?_,h.imp (λy=>List.mem_cons_of_mem _ y) λy=>by simpa using y⟩;unfold part;rw[c];exact List.mem_flatMap.2 ⟨j,d,List.mem_map.2 ⟨x,f,rfl⟩⟩
def qM(m n cM fuel:Nat)(L:List (List Nat))(g:part m (ng n)=L.map λa=>(a,ng cM))(f:(L.all λa=>!a.contains 999)=true){acc l:List Nat}(h:l∈kK .any jR (m+fuel) (ng n) acc):∃a∈L,l∈kK .any jR fuel (ng cM) (a.reverse++acc):=by
 obtain⟨x,d,h⟩:=BV m _ _ h;rw[g]at d;obtain⟨a,c,rfl⟩:=List.mem_map.1 d;rcases h with h|h
 .have:=List.all_eq_true.1 f a c
  simp at this;exact absurd h this
 .exact⟨a,c,h⟩
def qN(m n cM fuel:Nat)(L:List Nat)(f:part m (ng n) = [(L,ng cM)])(c:L.contains 999=false){acc l:List Nat}(h:l∈kK .any jR (m+fuel) (ng n) acc):l∈kK .any jR fuel (ng cM) (L.reverse++acc):=by obtain⟨a,d,h⟩:=qM m n cM fuel [L] f (by simp only[List.all_cons,List.all_nil,c];rfl) h;rw[Ps d]at h;exact h
def zY(a b c d e:List Nat):List Nat:=[0,1,2,3,4,5,6,7,8,9,10,11,12,13,14,15,16,17,18,19,20,21,22,23,24,25,26,27,28,29,30]++(a++([33,34,35]++(b++([38,39,40,41,42,43,44,45,46,47,48,49,50,51,52]++(c++([55,56,57]++(d++([60,61,62]++(e++[67,68,69])))))))))
def JM:jR.size=70:=by kernel_rfl
def JS{l:List Nat}(h:l∈qS .any jR):∃a∈[[31,32],[32,31]],∃b∈[[36,37],[37,36]],∃c∈[[53,54],[54,53]],∃d∈[[58,59],[59,58]],∃e∈[[63,64,65,66],[63,65,64,66],[64,63,65,66],[64,65,63,66],[64,65,66,63],[65,63,64,66],[65,64,63,66],[65,64,66,63]],l=zY a b c d e:=by unfold qS at h;rw[JM,show Array.replicate 70 false=ng 0 by decide]at h;have h:=qN 31 0 (2 ^ 31-1) 39 (List.range 31) (by kernel_rfl) (by kernel_rfl) h;obtain⟨a,f,h⟩:=qM 2 _ (2 ^ 33-1) 37 [[31,32],[32,31]] (by kernel_rfl) (by kernel_rfl) h;have h:=qN 3 _ (2 ^ 36-1) 34 [33,34,35] (by kernel_rfl) (by kernel_rfl) h;obtain⟨b,g,h⟩:=qM 2 _ (2 ^ 38-1) 32 [[36,37],[37,36]] (by kernel_rfl) (by kernel_rfl) h;have h:=qN 15 _ (2 ^ 53-1) 17 [38,39,40,41,42,43,44,45,46,47,48,49,50,51,52] (by kernel_rfl) (by kernel_rfl) h;obtain⟨c,i,h⟩:=qM 2 _ (2 ^ 55-1) 15 [[53,54],[54,53]] (by kernel_rfl) (by kernel_rfl) h;have h:=qN 3 _ (2 ^ 58-1) 12 [55,56,57] (by kernel_rfl) (by kernel_rfl) h;obtain⟨d,hd,h⟩:=qM 2 _ (2 ^ 60-1) 10 [[58,59],[59,58]] (by kernel_rfl) (by kernel_rfl) h;have h:=qN 3 _ (2 ^ 63-1) 7 [60,61,62] (by kernel_rfl) (by kernel_rfl) h;obtain⟨e,he,h⟩:=qM 4 _ (2 ^ 67-1) 3 [[63,64,65,66],[63,65,64,66],[64,63,65,66],[64,65,63,66],[64,65,66,63],[65,63,64,66],[65,64,63,66],[65,64,66,63]] (by kernel_rfl) (by kernel_rfl) h;have h:=qN 3 _ (2 ^ 70-1) 0 [67,68,69] (by kernel_rfl) (by kernel_rfl) h;refine⟨a,f,b,g,c,i,d,hd,e,he,?_⟩;unfold kK at h;have h:=Ps h;rw[h];unfold zY;simp[List.range,List.range.loop]
def vZ{p:List Nat->Prop}(h:∀l,p l):∀L,qe p L
 | []=>trivial
 |l::L=>⟨h l,vZ h L⟩
def K2(kd:CallKind)(c:kd=.normal\/kd=.deferred)(h:Nat->Value)(d:ea):Good (t8 kd) 4 ⟨0,h,d,[],0,dB d⟩ (dQ kd 8 (hN h d)):=by
 rcases c with rfl|rfl
 .exact⟨⟨⟨rfl,by kernel_rfl,trivial⟩,vZ (λl=>⟨by kernel_rfl,by kernel_rfl,⟨⟨by kernel_rfl,by kernel_rfl,trivial⟩,trivial⟩⟩) _⟩,trivial⟩
 .exact⟨⟨⟨rfl,by kernel_rfl,trivial⟩,vZ (λl=>⟨by kernel_rfl,by kernel_rfl,⟨⟨by kernel_rfl,by kernel_rfl,trivial⟩,trivial⟩⟩) _⟩,trivial⟩
end Go.aN
