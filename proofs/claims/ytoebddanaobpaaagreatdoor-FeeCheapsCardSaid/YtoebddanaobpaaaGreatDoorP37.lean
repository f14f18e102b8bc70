/- A part. -/
import Derived.Test.YtoebddanaobpaaaGreatDoorP36
set_option maxHeartbeats 8000000
set_option maxRecDepth 100000
set_option linter.all false
namespace Go.aO
attribute [-simp] Go.Sem.runT_eq
open Go.Proofs Tryz Go.Conc Go.ConcN
variable{acc l:TA}
def o1(n:Nat):Tv Ta:=((List.range 70).map λi=>n.testBit i).toArray
noncomputable def Fp(S:Tv Ta):TA:=(List.range lg.size).filter λi=>!S.getD i true && ((lg[i]?).map (·.after.all λe=>!Region.binds .any e||S.getD e.on false)).getD false
noncomputable def part:Nat->Tv Ta->Tb (TA×Tv Ta)
 | 0,S=>[([],S)]
 |m+1,S=>match Fp S with
  | []=>[([999],S)]
  |i::rs=>(i::rs).flatMap λi=>(part m (S.setIfInBounds i true)).map λx=>(i::x.1,x.2)
def EF{l:TA}{fuel:Nat}:∀(m:Nat) (S:Tv Ta) (acc:TA),l∈l5 .any lg (m+fuel) S acc->∃x∈part m S,999∈x.1\/l∈l5 .any lg fuel x.2 (x.1.reverse++acc)
 | 0,S,acc,h=>⟨([],S),by simp[part],.inr (by rw[Nat.zero_add]at h;exact h)⟩
 |m+1,S,acc,h=>by
  rw[show m+1+fuel=(m+fuel)+1 by omega]at h;unfold l5 at h;cases c:Fp S with
  |nil=>exact⟨([999],S),by unfold part;rw[c];simp,.inl aF⟩
  |cons i rs=>
   rw[show((List.range lg.size).filter λi=>!S.getD i true && ((lg[i]?).map (·.after.all λe=>!Region.binds .any e||S.getD e.on false)).getD false)=i::rs from c]at h;let⟨j,d,h⟩:=List.mem_flatMap.1 h;let⟨x,f,h⟩:=EF m _ _ h;refine⟨(j::x.1,x.2),?_,h.imp (λy=>Ur _ y) λy=>by simpa using y⟩;unfold part;rw[c];exact List.mem_flatMap.2 ⟨j,d,List.mem_map.2 ⟨x,f,S6⟩⟩
def sK(m n c9 fuel:Nat)(L:Tb TA)(hp:part m (o1 n)=L.map λa=>(a,o1 c9))(f:(L.all λa=>!a.contains 999)=true)(h:l∈l5 .any lg (m+fuel) (o1 n) acc):∃a∈L,l∈l5 .any lg fuel (o1 c9) (a.reverse++acc):=by
 let⟨x,d,h⟩:=EF m _ _ h;rw[hp]at d;obtain⟨a,c,rfl⟩:=List.mem_map.1 d;rcases h with h|h
 .have:=List.all_eq_true.1 f a c
  simp at this;exact Td h this
 .exact⟨a,c,h⟩
def sL(m n c9 fuel:Nat)(L:TA)(hp:part m (o1 n) = [(L,o1 c9)])(c:L.contains 999=false)(h:l∈l5 .any lg (m+fuel) (o1 n) acc):l∈l5 .any lg fuel (o1 c9) (L.reverse++acc):=by let⟨a,d,h⟩:=sK m n c9 fuel [L] hp (by simp only[List.all_cons,List.all_nil,c];rfl) h;rw[ev d]at h;exact h
def CA(a b c d e:TA):TA:=[0,1,2,3,4,5,6,7,8,9,10,11,12,13,14,15,16,17,18,19,20,21,22,23,24,25,26,27,28,29,30]++(a++([33,34,35]++(b++([38,39,40,41,42,43,44,45,46,47,48,49,50,51,52]++(c++([55,56,57]++(d++([60,61,62]++(e++[67,68,69])))))))))
def MU:lg.size=70:=av
def M1(h:l∈sQ .any lg):∃a∈[[31,32],[32,31]],∃b∈[[36,37],[37,36]],∃c∈[[53,54],[54,53]],∃d∈[[58,59],[59,58]],∃e∈[[63,64,65,66],[63,65,64,66],[64,63,65,66],[64,65,63,66],[64,65,66,63],[65,63,64,66],[65,64,63,66],[65,64,66,63]],l=CA a b c d e:=by unfold sQ at h;rw[MU,show Array.replicate 70 false=o1 0 by decide]at h;have h:=sL 31 0 (2 ^ 31-1) 39 (List.range 31) av av h;let⟨a,f,h⟩:=sK 2 _ (2 ^ 33-1) 37 [[31,32],[32,31]] av av h;have h:=sL 3 _ (2 ^ 36-1) 34 [33,34,35] av av h;let⟨b,g,h⟩:=sK 2 _ (2 ^ 38-1) 32 [[36,37],[37,36]] av av h;have h:=sL 15 _ (2 ^ 53-1) 17 [38,39,40,41,42,43,44,45,46,47,48,49,50,51,52] av av h;let⟨c,i,h⟩:=sK 2 _ (2 ^ 55-1) 15 [[53,54],[54,53]] av av h;have h:=sL 3 _ (2 ^ 58-1) 12 [55,56,57] av av h;let⟨d,hd,h⟩:=sK 2 _ (2 ^ 60-1) 10 [[58,59],[59,58]] av av h;have h:=sL 3 _ (2 ^ 63-1) 7 [60,61,62] av av h;let⟨e,he,h⟩:=sK 4 _ (2 ^ 67-1) 3 [[63,64,65,66],[63,65,64,66],[64,63,65,66],[64,65,63,66],[64,65,66,63],[65,63,64,66],[65,64,63,66],[65,64,66,63]] av av h;have h:=sL 3 _ (2 ^ 70-1) 0 [67,68,69] av av h;refine⟨a,f,b,g,c,i,d,hd,e,he,?_⟩;unfold l5 at h;have h:=ev h;rw[h];unfold CA;simp[List.range,List.range.loop]
def yC{p:TA->Prop}(h:∀l,p l):∀L,r4 p L
 | []=>trivial
 |l::L=>⟨h l,yC h L⟩
def Oj(kd:Tx)(c:TG kd)(h:Nat->S9)(d:eS):Good (t8 kd) 4 ⟨0,h,d,[],0,ed d⟩ (eE kd 8 (jc h d)):=by
 rcases c with rfl|rfl
 .exact⟨⟨⟨S6,av,Tf⟩,yC (λl=>⟨av,av,⟨⟨av,av,Tf⟩,Tf⟩⟩) _⟩,Tf⟩
 .exact⟨⟨⟨S6,av,Tf⟩,yC (λl=>⟨av,av,⟨⟨av,av,Tf⟩,Tf⟩⟩) _⟩,Tf⟩
end Go.aO
