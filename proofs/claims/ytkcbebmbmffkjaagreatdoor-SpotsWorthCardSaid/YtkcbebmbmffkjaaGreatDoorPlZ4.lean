/- The plain law, in Lean alone: Z4, Z5, Z6. No condition: lemmas for the claim. -/
import Derived.Test.YtkcbebmbmffkjaaGreatDoorPlZ1
import Derived.Test.YtkcbebmbmffkjaaGreatDoorPlS1
import Derived.Test.YtkcbebmbmffkjaaGreatDoorPlR4
set_option linter.unusedVariables false
set_option linter.unusedSectionVars false
set_option linter.unusedSimpArgs false
set_option maxRecDepth 100000
namespace Go.Am
open Go Go.Proofs
variable [Fuel]
def yh8y (b:List G_Band) (l:List G_Spot):List Int:=l.map fun s=>bandI b s.f_Hertz
theorem ygLy {b:List G_Band} {life at0:Int} {l:List G_Spot} {s:G_Spot} (h:s ∈ yajy b life at0 l):s ∈ l∧cntS b life at0 s = true:=ye2y h
theorem yGzy {b:List G_Band} {life at0:Int} {s:G_Spot} (h:cntS b life at0 s = true):¬ bandI b s.f_Hertz < 0:=fun hn=>by
 unfold cntS at h
 rw [decide_eq_true hn] at h
 simp at h
end Go.Am
set_option linter.unusedVariables false
set_option linter.unusedSectionVars false
set_option linter.unusedSimpArgs false
set_option maxRecDepth 100000
namespace Go.Am
open Go Go.Proofs
variable [Fuel]
theorem yPqy {x:Int}:sgn x < 0 ↔ x < 0:=by
 unfold sgn
 by_cases h:x < 0
 ·rw [decide_eq_true h]; simp [h]
 ·rw [decide_eq_false h]
  by_cases h2:x > 0
  ·rw [decide_eq_true h2]; simp; omega
  ·rw [decide_eq_false h2]; simp; omega
theorem yDmy {b:List G_Band} {life at0:Int} {l:List G_Spot}:∀ s ∈ yajy b life at0 l,¬ bandI b s.f_Hertz < 0:=fun s hs=>yGzy (ygLy hs).2
end Go.Am
set_option linter.unusedVariables false
set_option linter.unusedSectionVars false
set_option linter.unusedSimpArgs false
set_option maxRecDepth 100000
namespace Go.Am
open Go Go.Proofs
variable [Fuel]
def ybLy (h:Int) (down:Bool) (s:G_Spot):Bool:=bif s.f_Hertz == h then true else (decide (s.f_Hertz < h)) == down
def farW (h:Int) (s:G_Spot):Int:=if (w64 (h - s.f_Hertz)) > (w64 (s.f_Hertz - h)) then (w64 (h - s.f_Hertz)) else (w64 (s.f_Hertz - h))
def cmpW (h:Int) (down:Bool) (x y:G_Spot):Int:=bif !(ybLy h down x == ybLy h down y) then (bif ybLy h down x then -1 else 1) else w64 (farW h x - farW h y)
theorem ywdy (x y:G_Spot) (h:Int) (down:Bool) (R:Type) (k:Int→Int→Bool→Int→Option R):z45z x y h down h k = k (cmpW h down x y) h down h:=by
 have e1:∀ (x:G_Spot) (R:Type) (k:Bool→Option R),z108z x h down k = k (ybLy h down x):=fun x R k=>by
  simp only [z108z,z108z_,ybLy]
  cases x.f_Hertz == h <;> rfl
 have e2:∀ (x:G_Spot) (R:Type) (k:Int→Option R),z117z x h k = k (farW h x):=fun x R k=>rfl
 simp only [z45z,z45z_,yxXy,e1,e2,cmpW]
 cases ybLy h down x <;> cases ybLy h down y <;> rfl
theorem yKBy (g:C_z2z):@z2z_ g = @sInsU G_Spot Int Bool Int g.N g.z45z:=by kernel_rfl
theorem yNAy (g:C_z0z):@z0z_ g = @sStaU G_Spot Int Bool Int g.N g.z2z:=by kernel_rfl
theorem yHfy {l:List G_Spot} (hl:l.length≤20) (h:Int) (down:Bool) (R:Type) (k:List G_Spot→Int→Bool→Int→Option R):z30z l h down h k = k (sortI (cmpW h down) l) h down h:=by
 simp only [z30z,z30z_,yxey]
 show z0z_ I_z0z l (l.length:Int) h down h _ = _
 rw [yNAy]
 exact yIXy (N:=NN) (cmpW h down) (fun _=>True) h down h l (fun _ _=>trivial) hl (by have:=NN_ok; omega) (by have:=NN_ok; omega) _ (fun l a b R k hl=>by
  show z2z_ I_z2z l a b h down h _ = _
  rw [yKBy]
  exact yI4y (S:=fun _=>True) (fun x y _ _ R k=>ywdy x y h down R k) NN hl R k) k
theorem ymLy (d:List G_Spot) (hl:d.length≤100000):∀ (xs:List G_Spot) (n i:Nat) (out:List (List UInt8)),d.drop i = xs→xs.length < n→out.length≤i→∀ (R:Type) (e0:List (List UInt8)→Option R),
  ycty yc4y n (d.length:Int) (i:Int) d out e0 = e0 (out ++ xs.map (·.f_Call))
 | _,0,_,_,_,h,_,_,_=>by omega
 | [],n + 1,i,out,h,_,_,R,e0=>by rw [ycty,yaCy h,List.map_nil,List.append_nil]; rfl
 | x :: xs,n + 1,i,out,h,hn,ho,R,e0=>by
  have h':=yaly h
  have ih:=ymLy d hl xs n (i + 1) (out ++ [x.f_Call]) h'.2.2.1 (Nat.lt_of_succ_lt_succ (by simpa only [List.length_cons] using hn)) (by simp; omega) R e0
  rw [ycty,yayy h,cond_true,ycuy h,ydfy h,room1 out x.f_Call 16 (show out.length≤1000000 by omega) (by omega),yamy (show i < 4611686018427387904 by omega),List.map_cons]
  refine Eq.trans ih ?_
  rw [List.append_assoc]; rfl
theorem yr1y {l:List G_Spot} (hl:l.length≤1000000) (R:Type) (k:List G_Spot→Option R):z90z l k = k l:=yDPy l hl (by omega) k
theorem yBdy {l:List G_Spot} (hl:l.length≤20) (h:Int) (down:Bool) (R:Type) (k:List (List UInt8)→Option R):band_way l h down k = k ((sortI (cmpW h down) l).map (·.f_Call)):=by
 have e:=ymLy (sortI (cmpW h down) l) (by rw [ybzy]; omega) (sortI (cmpW h down) l) NN 0 [] rfl (by rw [ybzy]; have:=NN_ok; omega) (by simp) R k
 show (z90z l fun r4=>_) = _
 rw [yr1y (by omega)]
 refine (yHfy hl h down R _).trans ?_
 rw [List.nil_append] at e
 exact e
def yaMy (h:Int) (p:Int×Int) (s:G_Spot):Int×Int:=(if (w64 (h - s.f_Hertz)) > p.1 then (w64 (h - s.f_Hertz)) else p.1,if (w64 (s.f_Hertz - h)) > p.2 then (w64 (s.f_Hertz - h)) else p.2)
theorem yjay (h:Int) (d:List G_Spot) (hl:d.length≤100000):∀ (xs:List G_Spot) (n i:Nat) (p:Int×Int),d.drop i = xs→xs.length < n→∀ (R:Type) (e0:Int→Int→Int→List G_Spot→Option R),
  ybvy ybky n h p.1 p.2 (d.length:Int) (i:Int) d e0 = e0 h (xs.foldl (yaMy h) p).1 (xs.foldl (yaMy h) p).2 d
 | _,0,_,_,_,h,_,_=>by omega
 | [],n + 1,i,p,hd,_,R,e0=>by rw [ybvy,yaCy hd]; rfl
 | x :: xs,n + 1,i,p,hd,hn,R,e0=>by
  have h':=yaly hd
  have ih:=yjay h d hl xs n (i + 1) (yaMy h p x) h'.2.2.1 (Nat.lt_of_succ_lt_succ (by simpa only [List.length_cons] using hn)) R e0
  rw [ybvy,yayy hd,cond_true,ycuy hd,ydfy hd,yamy (show i < 4611686018427387904 by omega)]
  exact ih
def yaYy (h:Int) (l:List G_Spot):Int×Int:=l.foldl (yaMy h) (0,0)
def downS (h:Int) (l:List G_Spot):Int:=bif (yaYy h l).2 == 0 then (yaYy h l).1 else w64 (w64 (2 * (yaYy h l).1) + (yaYy h l).2)
def upS (h:Int) (l:List G_Spot):Int:=bif (yaYy h l).1 == 0 then (yaYy h l).2 else w64 (w64 (2 * (yaYy h l).2) + (yaYy h l).1)
def ycoy (h:Int) (l:List G_Spot):List (List UInt8)×Int:=bif decide (downS h l≤upS h l) then ((sortI (cmpW h true) l).map (·.f_Call),downS h l) else ((sortI (cmpW h false) l).map (·.f_Call),upS h l)
theorem ywIy {b:List G_Band} {l:List G_Spot} (hb:∀ c ∈ b,FineB c) (hl:∀ c ∈ l,FineS c) (h1:b.length≤100000) (h2:l.length≤20) (life at0 hertz:Int) (R:Type) (k:List (List UInt8)→Int→Int→Option R) :
  band_Sweep b l life at0 hertz k = bif orL [yaxy b,yaDy l,bif lifeB life at0 && inB hertz 0 30000000000 then 0 else 1] != 0 then k [] 0 (orL [yaxy b,yaDy l,bif lifeB life at0 && inB hertz 0 30000000000 then 0 else 1]) else k (ycoy hertz (yajy b life at0 l)).1 (ycoy hertz (yajy b life at0 l)).2 0:=by
 simp only [band_Sweep,yjBy,ybky,z86z_is hb hl h1 (show l.length≤100000 by omega),z87z_is,orL]
 cases q1:yaxy b != 0 with
 | true=>simp only [cond_true,q1]
 | false =>
  simp only [cond_false]
  cases q2:yaDy l != 0 with
  | true=>simp only [cond_true,q2]
  | false =>
   simp only [cond_false,bne_self_eq_false]
   cases q3:lifeB life at0 with
   | false=>rfl
   | true =>
    cases q4:inB hertz 0 30000000000 with
    | false=>rfl
    | true =>
     obtain ⟨a1,a2⟩:=ylky q3
     have hle:=ydUy b life at0 l
     have hL:∀ (R:Type) (e0:Int→Int→Int→List G_Spot→Option R),ybvy ybky NN hertz 0 0 ((yajy b life at0 l).length:Int) 0 (yajy b life at0 l) e0 = e0 hertz (yaYy hertz (yajy b life at0 l)).1 (yaYy hertz (yajy b life at0 l)).2 (yajy b life at0 l):=fun R e0 =>
      yjay hertz (yajy b life at0 l) (by omega) (yajy b life at0 l) NN 0 (0,0) rfl (by have:=NN_ok; omega) R e0
     simp only [ybky] at hL
     simp only [cond_true,Bool.and_self,bne_self_eq_false,cond_false,ymzy h1 (life:=life) (at0:=at0) ⟨by omega,by omega⟩ ⟨by omega,by omega⟩ (show l.length≤1000 by omega),hL,yBdy (show (yajy b life at0 l).length≤20 by omega)]
     cases hc:(yaYy hertz (yajy b life at0 l)).2 == 0 <;> cases ha:(yaYy hertz (yajy b life at0 l)).1 == 0 <;> simp only [cond_true,cond_false] <;> unfold ycoy downS upS <;> rw [hc,ha] <;> simp only [cond_true,cond_false]
     ·cases decide (w64 (w64 (2 * (yaYy hertz (yajy b life at0 l)).1) + (yaYy hertz (yajy b life at0 l)).2)≤w64 (w64 (2 * (yaYy hertz (yajy b life at0 l)).2) + (yaYy hertz (yajy b life at0 l)).1)) <;> rfl
     ·cases decide (w64 (w64 (2 * (yaYy hertz (yajy b life at0 l)).1) + (yaYy hertz (yajy b life at0 l)).2)≤(yaYy hertz (yajy b life at0 l)).2) <;> rfl
     ·cases decide ((yaYy hertz (yajy b life at0 l)).1≤w64 (w64 (2 * (yaYy hertz (yajy b life at0 l)).2) + (yaYy hertz (yajy b life at0 l)).1)) <;> rfl
     ·cases decide ((yaYy hertz (yajy b life at0 l)).1≤(yaYy hertz (yajy b life at0 l)).2) <;> rfl
end Go.Am
