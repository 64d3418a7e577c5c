/- The plain law, in Lean alone: H1, H2, H3, H4, Y6, C3. No condition: lemmas for the claim. -/
import Derived.Test.YtfmhkakoakcpgaaGreatDoorPlS1
import Derived.Test.YtfmhkakoakcpgaaGreatDoorPlB4
import Derived.Test.YtfmhkakoakcpgaaGreatDoorPlR4
import Derived.Test.YtfmhkakoakcpgaaGreatDoorPlD1
set_option linter.unusedVariables false
set_option linter.unusedSectionVars false
set_option linter.unusedSimpArgs false
set_option maxRecDepth 100000
namespace Go.Am
open Go Go.Proofs
variable [Fuel]
end Go.Am
set_option linter.unusedVariables false
set_option linter.unusedSectionVars false
set_option linter.unusedSimpArgs false
set_option maxRecDepth 100000
namespace Go.Am
open Go Go.Proofs
variable [Fuel]
end Go.Am
set_option linter.unusedVariables false
set_option linter.unusedSectionVars false
set_option linter.unusedSimpArgs false
set_option maxRecDepth 100000
namespace Go.Am
open Go Go.Proofs
variable [Fuel]
end Go.Am
set_option linter.unusedVariables false
set_option linter.unusedSectionVars false
set_option linter.unusedSimpArgs false
set_option maxRecDepth 100000
namespace Go.Am
open Go Go.Proofs
variable [Fuel]
end Go.Am
set_option linter.unusedVariables false
set_option linter.unusedSectionVars false
set_option linter.unusedSimpArgs false
set_option maxRecDepth 100000
namespace Go.Am
open Go Go.Proofs
variable [Fuel]
theorem ys2y:∀ (l:List G_Contact) (p:Option G_Contact),(∀ c ∈ l,chk c = 0)→l.Pairwise (fun a b=>cmpC a b < 0)→(∀ q,p = some q→∀ c ∈ l,cmpC q c < 0)→ygDy p l = 0
 | [],_,_,_,_=>rfl
 | c :: cs,p,hc,hi,hp=>by
  have h1:=List.pairwise_cons.1 hi
  have ih:=ys2y cs (some c) (fun x hx=>hc x (by simp [hx])) h1.2 (fun q hq x hx=>by cases hq; exact h1.1 x hx)
  unfold ygDy
  rw [hc c (by simp)]
  simp only [bne_self_eq_false,cond_false]
  cases p with
  | none=>exact ih
  | some q =>
   simp only
   rw [decide_eq_false (show ¬ cmpC q c ≥ 0 by have:=hp q rfl c (by simp); omega)]
   exact ih
theorem yDdy {l:List G_Contact} (h1:∀ c ∈ l,chk c = 0) (h2:l.Pairwise fun a b=>cmpC a b < 0) (hl:l.length≤1000):yh7y l = 0:=by
 unfold yh7y
 rw [decide_eq_false (show ¬ ((l.length:Int) > 2000) by omega)]
 exact ys2y l none h1 h2 (fun q hq=>by cases hq)
end Go.Am
set_option linter.unusedVariables false
set_option linter.unusedSectionVars false
set_option linter.unusedSimpArgs false
set_option maxRecDepth 100000
namespace Go.Am
open Go Go.Proofs
variable [Fuel]
theorem yAry {α:Type} {d xs:List α} {x:α} {i:Nat} (h:d.drop i = x :: xs):d.take (i + 1) = d.take i ++ [x]:=by
 rw [List.take_add_one,(yapy h).1]; rfl
noncomputable def keyW (c:G_Contact):G_log_worked:=⟨baseB c.f_Call,c.f_Band,c.f_Mode⟩
theorem ykZy (d:List G_Contact) (hd:∀ c ∈ d,c.f_Call ∈ ydYy) (hl:d.length≤1000):∀ (xs:List G_Contact) (n i:Nat) (m:List (G_log_worked×Bool)) (out:List Int),d.drop i = xs→xs.length < n→out.length≤i→i≤d.length→(∀ w,(yaEy w m).getD false = (d.take i).any fun c=>decide (keyW c = w)) →
  ∃ r:List Int,r.length≤d.length∧(∀ j ∈ r,j ∈ out ∨ ∃ (q:Nat) (c:G_Contact),j = (q:Int)∧d[q]? = some c∧(d.take q).any (fun o=>decide (keyW o = keyW c)) = true)∧∀ (R:Type) (e0:List Int→Option R),ybGy yb6y n d (d.length:Int) (i:Int) m out e0 = e0 r
 | _,0,_,_,_,_,h,_,_,_=>by omega
 | [],n + 1,i,m,out,hx,_,ho,hi,hm=>⟨out,by omega,fun j hj=>.inl hj,fun R e0=>by rw [ybGy,yaOy hx]; rfl⟩
 | c :: cs,n + 1,i,m,out,hx,hn,ho,hi,hm=>by
  have h':=yapy hx
  have hn':cs.length < n:=Nat.lt_of_succ_lt_succ (by simpa only [List.length_cons] using hn)
  have hc:=hd c (ybNy hx)
  have hw:=yary (show i < 4611686018427387904 by omega)
  have hm2:∀ w,(yaEy w (ya6y (keyW c) true m)).getD false = (d.take (i + 1)).any fun c=>decide (keyW c = w):=fun w=>by
   rw [yAry hx,List.any_append,List.any_cons,List.any_nil,Bool.or_false,ycyy,yiVy,ydyy ydUy]
   have hmw:=hm w
   rw [ycyy] at hmw
   by_cases e:w = keyW c
   ·rw [(ydUy _ _).2 e,decide_eq_true e.symm]; simp
   ·have e':ybqy w (keyW c) = false:=by
     cases hq:ybqy w (keyW c) with
     | false=>rfl
     | true=>exact absurd ((ydUy _ _).1 hq) e
    rw [e',decide_eq_false (fun h=>e h.symm),cond_false,Bool.or_false]
    exact hmw
  have e:∀ (R:Type) (k:List UInt8→Option R),yb6y.z82z c.f_Call k = k (baseB c.f_Call):=fun R k=>z82z_is hc R k
  cases hq:(yaEy (keyW c) m).getD false with
  | true =>
   obtain ⟨r,g0,g1,g2⟩:=ykZy d hd hl cs n (i + 1) _ (out ++ [(i:Int)]) h'.2.2.1 hn' (by simp; omega) h'.2.1 hm2
   refine ⟨r,g0,fun j hj=>?_,fun R e0=>?_⟩
   ·rcases g1 j hj with hj | hj
    ·rcases List.mem_append.1 hj with hj | hj
     ·exact .inl hj
     ·rw [List.mem_singleton] at hj
      exact .inr ⟨i,c,hj,h'.1,by rw [← hm]; exact hq⟩
    ·exact .inr hj
   ·have hq':(yaEy ⟨baseB c.f_Call,c.f_Band,c.f_Mode⟩ m).getD false = true:=hq
    rw [ybGy,yaAy hx,cond_true,yaZy hx,e,hq',cond_true,room1 out (i:Int) 8 (show out.length≤1000000 by omega) (by omega),cond_true,hw]
    exact g2 R e0
  | false =>
   obtain ⟨r,g0,g1,g2⟩:=ykZy d hd hl cs n (i + 1) _ out h'.2.2.1 hn' (by omega) h'.2.1 hm2
   refine ⟨r,g0,g1,fun R e0=>?_⟩
   have hq':(yaEy ⟨baseB c.f_Call,c.f_Band,c.f_Mode⟩ m).getD false = false:=hq
   rw [ybGy,yaAy hx,cond_true,yaZy hx,e,hq',cond_false,hw]
   exact g2 R e0
theorem ypJy {d:List G_Contact} (hf:∀ c ∈ d,Fine c) (hl:d.length≤1000) (h0:yh7y d = 0):∃ r:List Int,r.length≤1000∧(∀ j ∈ r,∃ (q:Nat) (c:G_Contact),j = (q:Int)∧d[q]? = some c∧(d.take q).any (fun o=>decide (keyW o = keyW c)) = true)∧∀ (R:Type) (k:List Int→Int→Option R),log_Dupes d k = k r 0:=by
 obtain ⟨r,g0,g1,g2⟩:=ykZy d (fun c hc=>(hf c hc).call) hl d NN 0 [] [] rfl (by have:=NN_ok; omega) (by simp) (by omega) (fun w=>by rw [ycyy]; rfl)
 refine ⟨r,by omega,fun j hj=>?_,fun R k=>?_⟩
 ·rcases g1 j hj with hj | hj
  ·cases hj
  ·exact hj
 ·have e1:∀ k:Int→Option R,ydWy.z36z d k = k 0:=fun k=>by
   show z36z d k = _
   rw [z36z_is hf (by omega),h0]
  have e2:∀ k:List Int→Option R,ydWy.log_dupes d k = k r:=fun k=>g2 R k
  show yhry ydWy d k = _
  unfold yhry
  rw [e1,bne_self_eq_false,cond_false,e2]
end Go.Am
