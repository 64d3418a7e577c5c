/- The plain law, in Lean alone: V3. No condition: lemmas for the claim. -/
import Derived.Test.YtfmhkakoakcpgaaGreatDoorPlV1
import Derived.Test.YtfmhkakoakcpgaaGreatDoorPlB4
set_option linter.unusedVariables false
set_option linter.unusedSectionVars false
set_option linter.unusedSimpArgs false
set_option maxRecDepth 100000
namespace Go.Am
open Go Go.Proofs
variable [Fuel]
theorem yGIy {a b:List G_Deed} (ha:a.length≤100000) (hb:b.length≤100000) (R:Type) (k:List G_Deed→Option R):z11z [a,b] k = k (a ++ b):=by
 rw [yIIy]; exact ywTy a b ha hb (by omega) (by have:=NN_ok; omega) k
theorem yejy (d:List G_Deed) (hl:d.length≤1000) (at0:Int):∀ (n:Nat) (m:List (G_net_own×Bool)) (out:List Int),n≤d.length→out.length + n≤d.length→(∀ j ∈ out,0≤j∧j < (d.length:Int)) →
  ∃ (m':List (G_net_own×Bool)) (r:List Int),r.length≤d.length∧(∀ j ∈ r,0≤j∧j < (d.length:Int))∧∀ (R:Type) (e0:Int→List (G_net_own×Bool)→List Int→Option R),z12z_L6 ybSy n d at0 m out e0 = e0 at0 m' r
 | 0,m,out,_,ho,hr=>⟨m,out,by omega,hr,fun R e0=>by rw [z12z_L6]⟩
 | n + 1,m,out,hn,ho,hr=>by
  have hx:d[n]? = some d[n]:=List.getElem?_eq_getElem (by omega)
  generalize d[n] = x at hx
  have hr2:∀ j ∈ out ++ [(n:Int)],0≤j∧j < (d.length:Int):=fun j hj=>by
   rcases List.mem_append.1 hj with hj | hj
   ·exact hr j hj
   ·rw [List.mem_singleton] at hj; omega
  obtain ⟨m1,r1,a1,a2,a3⟩:=yejy d hl at0 n m out (by omega) (by omega) hr
  obtain ⟨m2,r2,b1,b2,b3⟩:=yejy d hl at0 n (yaLy ⟨x.f_Of,x.f_Other⟩ true m) (out ++ [(n:Int)]) (by omega) (by simp; omega) hr2
  obtain ⟨m3,r3,c1,c2,c3⟩:=yejy d hl at0 n m (out ++ [(n:Int)]) (by omega) (by simp; omega) hr2
  have hroom:=room1 out (n:Int) 8 (show out.length≤1000000 by omega) (by omega)
  cases h1:decide (x.f_At > at0) with
  | true=>exact ⟨m1,r1,a1,a2,fun R e0=>by rw [z12z_L6,hx]; simp only [h1,cond_true]; exact a3 R e0⟩
  | false =>
   cases h2:(ya1y ⟨x.f_Site,x.f_No⟩ m).getD false with
   | true=>exact ⟨m1,r1,a1,a2,fun R e0=>by rw [z12z_L6,hx]; simp only [h1,h2,cond_true,cond_false]; exact a3 R e0⟩
   | false =>
    cases h3:x.f_Kind == 5 with
    | true=>exact ⟨m2,r2,b1,b2,fun R e0=>by rw [z12z_L6,hx]; simp only [h1,h2,h3,hroom,cond_true,cond_false]; exact b3 R e0⟩
    | false=>exact ⟨m3,r3,c1,c2,fun R e0=>by rw [z12z_L6,hx]; simp only [h1,h2,h3,hroom,cond_true,cond_false]; exact c3 R e0⟩
theorem yJey (g:Nat):@z39z_ g = @sRev Int g:=by kernel_rfl
theorem z12z_gives {d:List G_Deed} (hl:d.length≤1000) (at0:Int):∃ r:List Int,r.length≤d.length∧(∀ j ∈ r,0≤j∧j < (d.length:Int))∧∀ (R:Type) (k:List Int→Option R),z12z d at0 k = k r:=by
 obtain ⟨m',r,g1,g2,g3⟩:=yejy d hl at0 d.length [] [] (Nat.le_refl _) (by simp) (fun j h=>by cases h)
 have hraw:∀ (R:Type) (k:List Int→Option R),ygey ybSy d at0 k = k r.reverse:=fun R k=>by
  have hrev:∀ k:List Int→Option R,ybSy.z39z r k = k r.reverse:=fun k=>by
   show z39z_ NN r k = _
   rw [yJey]
   exact yHAy (by omega) (by have:=NN_ok; omega) k
  show (bif decide (d.length < 4611686018427387904) then (z12z_L6 ybSy d.length d at0 [] [] (fun e9 e10 e11=>ybSy.z39z e11 (fun r12=>k r12))) else none) = _
  rw [decide_eq_true (by omega),cond_true,g3,hrev]
 refine ⟨r.reverse,by rw [List.length_reverse]; exact g1,fun j hj=>g2 j (List.mem_reverse.1 hj),fun R k=>?_⟩
 show (ygey ybSy d at0 (fun z0=>some (ydvy z0))).bind _ = _
 rw [hraw]
 rfl
end Go.Am
