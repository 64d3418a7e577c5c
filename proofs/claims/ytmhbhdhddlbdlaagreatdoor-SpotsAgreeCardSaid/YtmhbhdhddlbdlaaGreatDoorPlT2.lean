/- The plain law, in Lean alone: T2, T3. No condition: lemmas for the claim. -/
import Derived.Test.YtmhbhdhddlbdlaaGreatDoorPlT0
set_option linter.unusedVariables false
set_option linter.unusedSectionVars false
set_option linter.unusedSimpArgs false
set_option maxRecDepth 100000
namespace Go.Am
open Go Go.Proofs
variable [Fuel]
theorem yCjy {s:List UInt8} (h:yfay s = true):ascB s:=fun x hx=>by
 have h1:=List.all_eq_true.1 h x hx
 have h2:∀ x:Fin 256,ymmy.contains (UInt8.ofNat x) = true→(UInt8.ofNat x).toNat < 128:=by decide +kernel
 have:=h2 ⟨x.toNat,x.toNat_lt⟩ (by simpa using h1)
 simpa using this
def inBx (n lo hi:Int):Bool:=decide (lo≤n) && decide (n≤hi)
def anyS (s:List UInt8):Bool:=s.any fun b=>ybZy.contains b
def digD (s:List UInt8):Int:=lastAny s digS
def yaSy (s:List UInt8):Bool:=yfay s && (decide (s.length≤10) && (inBx (digD s) 1 3 && (inBx ((s.length:Int) - 1 - digD s) 1 4 && anyS (s.take (digD s).toNat))))
theorem yK0y (s:List UInt8):-1≤digD s∧digD s < (s.length:Int):=yhuy digS s
def ycxy (s:List UInt8):G_Parts:=⟨s,s.take (digD s + 1).toNat,s.drop (digD s + 1).toNat,0,[]⟩
def ybyy:G_Parts:=⟨[],[],[],0,[]⟩
theorem yATy {s:List UInt8} (h:yaSy s = true):1≤digD s∧digD s≤3:=by
 unfold yaSy at h
 simp only [Bool.and_eq_true] at h
 simpa [inBx] using h.2.2.1
theorem yh3y {s:List UInt8} (hl:s.length≤1000000) (R:Type) (k:G_Parts→Bool→Option R):call_based s k = bif yaSy s then k (ycxy s) true else k ybyy false:=by
 have hd:=yK0y s
 have hsp:∃ d:Int,(yaSy s = true→d = digD s)∧∀ (k:Int→Bool→Option R),ydwy.call_split s k = k d (yaSy s):=by
  have h1:∀ k:Int→Bool→Option R,ycIy.z39z s k = bif yfay s then k (letN s:Int) true else k 0 false:=fun k=>z39z_g hl R k
  have unf:∀ k:Int→Bool→Option R,ydwy.call_split s k = ybiy ycIy s k:=fun _=>rfl
  cases hp:yfay s with
  | false =>
   refine ⟨0,(fun h=>by unfold yaSy at h; rw [hp] at h; cases h),fun k=>?_⟩
   rw [unf]
   unfold ybiy yaSy
   rw [h1,hp]; rfl
  | true =>
   have h2:∀ k:Int→Option R,ycIy.z3z s digS k = k (digD s):=fun k=>LIA_g (yCjy hp) hl R k
   have h3:∀ k:Int→Bool→Option R,ycIy.z39z (s.take (digD s).toNat) k = k (letN (s.take (digD s).toNat):Int) true:=fun k=>by
    have:=z39z_g (s:=s.take (digD s).toNat) (by rw [List.length_take]; omega) R k
    refine this.trans ?_
    have hp2:yfay (s.take (digD s).toNat) = true:=List.all_eq_true.2 fun x hx=>List.all_eq_true.1 hp x (List.mem_of_mem_take hx)
    rw [hp2]; rfl
   have hw:w64 (w64 ((s.length:Int) - digD s) - 1) = (s.length:Int) - 1 - digD s:=by rw [yayy (x:=(s.length:Int) - digD s) (by omega) (by omega),yayy (by omega) (by omega)]; omega
   by_cases hc:yaSy s = true
   ·have hc2:=hc
    unfold yaSy at hc2
    simp only [Bool.and_eq_true,decide_eq_true_eq] at hc2
    obtain ⟨_,q1,q2,q3,q4⟩:=hc2
    have q2':1≤digD s∧digD s≤3:=by simpa [inBx] using q2
    have q3':1≤(s.length:Int) - 1 - digD s∧(s.length:Int) - 1 - digD s≤4:=by simpa [inBx] using q3
    refine ⟨digD s,fun _=>rfl,fun k=>?_⟩
    rw [unf]
    unfold ybiy
    rw [h1,hp,cond_true,Bool.not_true,cond_false,decide_eq_false (show ¬ (s.length:Int) > 10 by omega),cond_false,h2,decide_eq_false (show ¬ digD s < 1 by omega),cond_false,decide_eq_false (show ¬ digD s > 3 by omega),cond_false,hw,
     decide_eq_false (show ¬ (s.length:Int) - 1 - digD s < 1 by omega),cond_false,decide_eq_false (show ¬ (s.length:Int) - 1 - digD s > 4 by omega),cond_false,show (decide (0≤digD s) && decide (digD s≤(s.length:Int))) = true by simp; omega,cond_true,h3,yo3y]
    show k (digD s) (anyS (s.take (digD s).toNat)) = _
    rw [q4,hc]
   ·have hc':yaSy s = false:=by simpa using hc
    by_cases z1:(s.length:Int) > 10
    ·refine ⟨0,fun h=>absurd h hc,fun k=>?_⟩
     rw [unf]
     unfold ybiy
     rw [h1,hp,cond_true,Bool.not_true,cond_false,decide_eq_true z1,cond_true,hc']
    by_cases z2:digD s < 1
    ·refine ⟨0,fun h=>absurd h hc,fun k=>?_⟩
     rw [unf]
     unfold ybiy
     rw [h1,hp,cond_true,Bool.not_true,cond_false,decide_eq_false z1,cond_false,h2,decide_eq_true z2,cond_true,hc']
    by_cases z3:digD s > 3
    ·refine ⟨0,fun h=>absurd h hc,fun k=>?_⟩
     rw [unf]
     unfold ybiy
     rw [h1,hp,cond_true,Bool.not_true,cond_false,decide_eq_false z1,cond_false,h2,decide_eq_false z2,cond_false,decide_eq_true z3,cond_true,hc']
    by_cases z4:(s.length:Int) - 1 - digD s < 1
    ·refine ⟨0,fun h=>absurd h hc,fun k=>?_⟩
     rw [unf]
     unfold ybiy
     rw [h1,hp,cond_true,Bool.not_true,cond_false,decide_eq_false z1,cond_false,h2,decide_eq_false z2,cond_false,decide_eq_false z3,cond_false,hw,decide_eq_true z4,cond_true,hc']
    by_cases z5:(s.length:Int) - 1 - digD s > 4
    ·refine ⟨0,fun h=>absurd h hc,fun k=>?_⟩
     rw [unf]
     unfold ybiy
     rw [h1,hp,cond_true,Bool.not_true,cond_false,decide_eq_false z1,cond_false,h2,decide_eq_false z2,cond_false,decide_eq_false z3,cond_false,hw,decide_eq_false z4,cond_false,decide_eq_true z5,cond_true,hc']
    refine ⟨digD s,fun h=>absurd h hc,fun k=>?_⟩
    rw [unf]
    unfold ybiy
    rw [h1,hp,cond_true,Bool.not_true,cond_false,decide_eq_false z1,cond_false,h2,decide_eq_false z2,cond_false,decide_eq_false z3,cond_false,hw,decide_eq_false z4,cond_false,decide_eq_false z5,cond_false,show (decide (0≤digD s) && decide (digD s≤(s.length:Int))) = true by simp; omega,cond_true,h3,yo3y]
    show k (digD s) (anyS (s.take (digD s).toNat)) = _
    have:anyS (s.take (digD s).toNat) = false:=by
     cases hq:anyS (s.take (digD s).toNat) with
     | false=>rfl
     | true =>
      exfalso
      apply hc
      unfold yaSy
      rw [hp,hq,decide_eq_true (show s.length≤10 by omega)]
      simp [inBx]; omega
    rw [this,hc']
 obtain ⟨d,h0,h⟩:=hsp
 show ygly ydwy s k = _
 unfold ygly
 rw [h]
 cases hb:yaSy s with
 | false=>rfl
 | true =>
  obtain rfl:=h0 hb
  have hd2:=yATy hb
  have hw:w64 (digD s + 1) = digD s + 1:=yayy (by omega) (by omega)
  have hg:(decide (0≤digD s + 1) && decide (digD s + 1≤(s.length:Int))) = true:=by simp; omega
  rw [Bool.not_true,cond_false,hw,hg]
  rfl
def yfiy (s:List UInt8):Bool:=decide (s.length≤4) && (yfay s && anyS s)
theorem z64z_g {s:List UInt8} (hl:s.length≤1000000) (R:Type) (k:Bool→Option R):z64z s k = k (yfiy s):=by
 have h1:∀ k:Int→Bool→Option R,ypYy.z39z s k = bif yfay s then k (letN s:Int) true else k 0 false:=fun k=>z39z_g hl R k
 show z64z_ ypYy s k = _
 unfold z64z_ yfiy
 rw [h1]
 cases hp:yfay s with
 | false=>simp
 | true =>
  rw [cond_true,cond_true,yo3y]
  show (bif anyS s then k (decide ((s.length:Int)≤4)) else k false) = _
  have hd:decide ((s.length:Int)≤4) = decide (s.length≤4):=by
   by_cases h:s.length≤4
   ·rw [decide_eq_true h,decide_eq_true (by omega)]
   ·rw [decide_eq_false h,decide_eq_false (by omega)]
  rw [hd]
  cases anyS s <;> cases decide (s.length≤4) <;> rfl
def tailG (b:List UInt8):Option (Int×List UInt8) :=
 if b == [112] then some (3,[]) else if b == [109] then some (4,[]) else if b == [109,109] then some (5,[]) else if b == [97,109] then some (6,[]) else
 bif (b.length == 1) && b.all (fun x=>digS.contains x) then some (2,b) else bif yfiy b then some (1,b) else none
theorem yxuy {b:List UInt8} (hl:b.length≤1000000) (R:Type) (k:Int→List UInt8→Bool→Option R):∃ n a,call_tail b k = k ((tailG b).elim n (·.1)) ((tailG b).elim a (·.2)) (tailG b).isSome:=by
 have h1:∀ k:Bool→Option R,ydQy.z64z b k = k (yfiy b):=fun k=>z64z_g hl R k
 refine ⟨1,b,?_⟩
 show yhhy ydQy b k = _
 unfold yhhy tailG
 cases b == [112] with
 | true=>rfl
 | false =>
  cases b == [109] with
  | true=>rfl
  | false =>
   cases b == [109,109] with
   | true=>rfl
   | false =>
    cases b == [97,109] with
    | true=>rfl
    | false =>
     simp only [cond_false,Bool.false_eq_true,if_false]
     cases h2:(b.length:Int) == 1 with
     | false =>
      have:(b.length == 1) = false:=by
       rw [beq_eq_false_iff_ne] at h2 ⊢
       omega
      rw [this,cond_false,h1]
      cases yfiy b <;> rfl
     | true =>
      have h3:(b.length == 1) = true:=by
       rw [beq_iff_eq] at h2 ⊢
       omega
      obtain ⟨x,rfl⟩:∃ x,b = [x]:=by
       match b,beq_iff_eq.1 h3 with
       | [x],_=>exact ⟨x,rfl⟩
      have hx:x.toNat < 256:=x.toNat_lt
      have hs:digS.contains x = (bif decide ((x.toNat:Int) ≥ 48) then decide ((x.toNat:Int)≤57) else false):=by
       have:∀ x:Fin 256,digS.contains (UInt8.ofNat x) = (bif decide (((UInt8.ofNat x).toNat:Int) ≥ 48) then decide (((UInt8.ofNat x).toNat:Int)≤57) else false):=by decide +kernel
       have:=this ⟨x.toNat,hx⟩
       simpa using this
      have l2:∀ k:Bool→Option R,ydQy.z82z (x.toNat:Int) k = k (digS.contains x):=fun k=>by
       show (bif decide ((x.toNat:Int) ≥ 48) then k (decide ((x.toNat:Int)≤57)) else k false) = _
       rw [hs]
       cases decide ((x.toNat:Int) ≥ 48) <;> rfl
      have ha:∀ k:UInt8→Option R,at_ [x] 0 k = k x:=fun k=>yaOy (i:=0) rfl k
      rw [cond_true,ha,l2,h1,h3]
      have e:([x].all fun x=>digS.contains x) = digS.contains x:=by simp
      rw [e]
      cases digS.contains x with
      | true=>rfl
      | false=>cases yfiy [x] <;> rfl
end Go.Am
set_option linter.unusedVariables false
set_option linter.unusedSectionVars false
set_option linter.unusedSimpArgs false
set_option maxRecDepth 100000
namespace Go.Am
open Go Go.Proofs
variable [Fuel]
theorem yDWy {s:List UInt8} (c:UInt8) (hl:s.length≤1000000) (R:Type) (k:List UInt8→List UInt8→Bool→Option R):z15z s [c] k = k (cutB c s).1 (cutB c s).2.1 (cutB c s).2.2:=by
 have h1:∀ k:Int→Option R,yqty.stringslite_Index s [c] k = k (Lib.indexByte s c):=fun k=>rfl
 show z15z_ yqty s [c] k = _
 unfold z15z_
 rw [h1,ysby]
 cases h:s.contains c with
 | false=>rw [yiCy c s h]; rfl
 | true =>
  obtain ⟨i,e1,e2,e3,e4⟩:=yemy c s h
  rw [ycLy c s i e3 e4,e1,cond_true]
  have hw:w64 ((i:Int) + ((([c]:List UInt8).length:Nat):Int)) = ((i + 1:Nat):Int):=yauy (show i < 4611686018427387904 by omega)
  have g1:(true && decide ((i:Int)≤(s.length:Int))) = true:=by simp; omega
  have g2:(decide (0≤((i + 1:Nat):Int)) && decide (((i + 1:Nat):Int)≤(s.length:Int))) = true:=by simp; omega
  rw [g1,cond_true,hw,g2,cond_true]
  rfl
theorem Cut_g {s:List UInt8} (c:UInt8) (hl:s.length≤1000000) (R:Type) (k:List UInt8→List UInt8→Bool→Option R):z32z s [c] k = k (cutB c s).1 (cutB c s).2.1 (cutB c s).2.2:=yDWy c hl R k
def ypay (p:G_Parts) (n:Int) (a:List UInt8):G_Parts:=⟨p.f_Base,p.f_Prefix,p.f_Suffix,n,a⟩
def ymby (s:List UInt8):Option G_Parts :=
 if s.length > 14 then none else
 bif !(cutB 47 s).2.2 then (bif yaSy s then some (ycxy s) else none) else
 bif yaSy (cutB 47 s).2.1 && yfiy (cutB 47 s).1 then some (ypay (ycxy (cutB 47 s).2.1) 1 (cutB 47 s).1) else
 bif yaSy (cutB 47 s).1 then (tailG (cutB 47 s).2.1).map fun t=>ypay (ycxy (cutB 47 s).1) t.1 t.2 else none
theorem yrSy (c:UInt8) (s:List UInt8):(cutB c s).2.2 = s.contains c:=by
 cases h:s.contains c with
 | false=>rw [yiCy c s h]
 | true =>
  obtain ⟨i,e1,e2,e3,e4⟩:=yemy c s h
  rw [ycLy c s i e3 e4]
theorem yxNy {s:List UInt8} (h:(cutB 47 s).2.2 = true):yaSy s = false:=by
 rw [yrSy] at h
 cases hb:yaSy s with
 | false=>rfl
 | true =>
  exfalso
  unfold yaSy at hb
  simp only [Bool.and_eq_true] at hb
  have:=List.all_eq_true.1 hb.1 47 (by simpa using h)
  revert this
  decide
theorem yvvy {s:List UInt8} (hl:s.length≤1000000) (R:Type) (k:G_Parts→Bool→Option R):call_Parts s k = (ymby s).elim (k ybyy false) fun p=>k p true:=by
 have hcl:=(yoHy 47 s).1
 have h1:∀ k:G_Parts→Bool→Option R,ybay.call_based s k = bif yaSy s then k (ycxy s) true else k ybyy false:=fun k=>yh3y hl R k
 have h2:∀ k:List UInt8→List UInt8→Bool→Option R,ybay.z32z s [47] k = k (cutB 47 s).1 (cutB 47 s).2.1 (cutB 47 s).2.2:=fun k=>Cut_g 47 hl R k
 have h3:∀ k:G_Parts→Bool→Option R,ybay.call_based (cutB 47 s).2.1 k = bif yaSy (cutB 47 s).2.1 then k (ycxy (cutB 47 s).2.1) true else k ybyy false:=fun k=>yh3y (by omega) R k
 have h4:∀ k:G_Parts→Bool→Option R,ybay.call_based (cutB 47 s).1 k = bif yaSy (cutB 47 s).1 then k (ycxy (cutB 47 s).1) true else k ybyy false:=fun k=>yh3y (by omega) R k
 have h5:∀ k:Bool→Option R,ybay.z64z (cutB 47 s).1 k = k (yfiy (cutB 47 s).1):=fun k=>z64z_g (by omega) R k
 show ygjy ybay s k = _
 unfold ygjy ymby
 by_cases h14:s.length > 14
 ·rw [decide_eq_true (show (s.length:Int) > 14 by omega),if_pos h14]; rfl
 rw [decide_eq_false (show ¬ (s.length:Int) > 14 by omega),if_neg h14,cond_false,h1]
 cases hc:(cutB 47 s).2.2 with
 | false =>
  rw [Bool.not_false,cond_true]
  cases yaSy s with
  | true=>rfl
  | false =>
   rw [cond_false,h2,hc]; rfl
 | true =>
  rw [yxNy hc,cond_false,cond_false,h2,hc,Bool.not_true,cond_false,cond_false,h3]
  have key:(ybay.call_based (cutB 47 s).1 fun r10 r11=>ybay.call_tail (cutB 47 s).2.1 fun r12 r13 r14=>bif !r11 then k ybyy false else bif !r14 then k ybyy false else k ⟨r10.f_Base,r10.f_Prefix,r10.f_Suffix,r12,r13⟩ true) =
    ((bif yaSy (cutB 47 s).1 then (tailG (cutB 47 s).2.1).map fun t=>ypay (ycxy (cutB 47 s).1) t.1 t.2 else none):Option G_Parts).elim (k ybyy false) fun p=>k p true:=by
   rw [h4]
   have ht:∀ k:Int→List UInt8→Bool→Option R,∃ n a,ybay.call_tail (cutB 47 s).2.1 k = k ((tailG (cutB 47 s).2.1).elim n (·.1)) ((tailG (cutB 47 s).2.1).elim a (·.2)) (tailG (cutB 47 s).2.1).isSome:=fun k=>yxuy (by omega) R k
   cases yaSy (cutB 47 s).1 with
   | false =>
    rw [cond_false,cond_false]
    obtain ⟨n,a,e⟩:=ht (fun r12 r13 r14=>bif !false then k ybyy false else bif !r14 then k ybyy false else k ⟨ybyy.f_Base,ybyy.f_Prefix,ybyy.f_Suffix,r12,r13⟩ true)
    rw [e]; rfl
   | true =>
    rw [cond_true,cond_true]
    obtain ⟨n,a,e⟩:=ht (fun r12 r13 r14=>bif !true then k ybyy false else bif !r14 then k ybyy false else k ⟨(ycxy (cutB 47 s).1).f_Base,(ycxy (cutB 47 s).1).f_Prefix,(ycxy (cutB 47 s).1).f_Suffix,r12,r13⟩ true)
    rw [e]
    cases tailG (cutB 47 s).2.1 <;> rfl
  cases hb:yaSy (cutB 47 s).2.1 with
  | false =>
   rw [cond_false,cond_false,Bool.false_and,cond_false]
   exact key
  | true =>
   rw [cond_true,cond_true,h5,Bool.true_and]
   cases yfiy (cutB 47 s).1 with
   | false=>exact key
   | true=>rfl
def callG (s:List UInt8):Bool:=(ymby s).isSome
theorem ysCy {s:List UInt8} (hl:s.length≤1000000) (R:Type) (k:Bool→Option R):call_Is s k = k (callG s):=by
 have h1:∀ k:G_Parts→Bool→Option R,yity.call_Parts s k = (ymby s).elim (k ybyy false) fun p=>k p true:=fun k=>yvvy hl R k
 show yity.call_Parts s (fun r2 r3=>k r3) = _
 rw [h1]
 unfold callG
 cases ymby s <;> rfl
end Go.Am
