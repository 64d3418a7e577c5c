/- The plain law, in Lean alone: T0, T1, T2, T3. No condition: lemmas for the claim. -/
import Derived.Test.YtmhbhdhddlbdlaaGreatDoorF1
import Derived.Test.YtmhbhdhddlbdlaaGreatDoorF2
import Derived.Test.YtmhbhdhddlbdlaaGreatDoorF3
import Derived.Test.YtmhbhdhddlbdlaaGreatDoorF4
import Derived.Test.YtmhbhdhddlbdlaaGreatDoorF5
import Derived.Test.YtmhbhdhddlbdlaaGreatDoorF6
import Derived.Test.YtmhbhdhddlbdlaaGreatDoorF7
import Derived.Test.YtmhbhdhddlbdlaaGreatDoorF8
import Derived.Test.YtmhbhdhddlbdlaaGreatDoorF9
import Derived.Test.YtmhbhdhddlbdlaaGreatDoorF10
import Derived.Test.YtmhbhdhddlbdlaaGreatDoorF11
import Derived.Test.YtmhbhdhddlbdlaaGreatDoorPlB1
set_option linter.unusedVariables false
set_option linter.unusedSectionVars false
set_option linter.unusedSimpArgs false
set_option maxRecDepth 100000
namespace Go.Am
open Go Go.Proofs
theorem yx5y (c:UInt8):∀ l:List UInt8,l.contains c = false→Lib.indexByte l c = -1
 | [],_=>rfl
 | b::l,h=>by
  simp only [List.contains_cons,Bool.or_eq_false_iff] at h
  have hb:(b == c) = false:=by rw [beq_eq_false_iff_ne];intro e;rw [e] at h;simp at h
  unfold Lib.indexByte
  rw [yx5y c l h.2,hb]
  rfl
theorem ygUy (c:UInt8):∀ l:List UInt8,l.contains c = true→∃ i:Nat,Lib.indexByte l c = i∧i < l.length∧l[i]? = some c∧(l.take i).contains c = false
 | [],h=>by simp at h
 | b::l,h=>by
  unfold Lib.indexByte
  cases hb:b == c with
  | true =>
   obtain rfl:b = c:=by simpa using hb
   exact ⟨0,rfl,by simp,rfl,rfl⟩
  | false =>
   have hc:l.contains c = true:=by
    simp only [List.contains_cons,Bool.or_eq_true] at h
    rcases h with h | h
    ·have:b = c:=by have:=beq_iff_eq.1 h;exact this.symm
     rw [this] at hb;simp at hb
    ·exact h
   obtain ⟨i,h1,h2,h3,h4⟩:=ygUy c l hc
   refine ⟨i + 1,?_,by simpa using h2,by simpa using h3,?_⟩
   ·rw [h1]
    have:((i:Int) == -1) = false:=by rw [beq_eq_false_iff_ne];omega
    simp [this]
   ·simp only [List.take_succ_cons,List.contains_cons,Bool.or_eq_false_iff]
    exact ⟨by rw [beq_eq_false_iff_ne];intro e;rw [e] at hb;simp at hb,h4⟩
theorem yH4y (l:List UInt8) (c:UInt8):decide (Lib.indexByte l c ≥ 0) = l.contains c:=by
 cases h:l.contains c with
 | false=>rw [yx5y c l h];rfl
 | true =>
  obtain ⟨i,h1,_⟩:=ygUy c l h
  rw [h1]
  simp
theorem yqIy (p:UInt8→Bool):∀ l:List UInt8,(l.dropWhile p == []) = l.all p
 | []=>rfl
 | b::l=>by
  rw [List.dropWhile_cons,List.all_cons]
  cases h:p b with
  | true=>simpa using yqIy p l
  | false=>simp
theorem ymTy (p:UInt8→Bool) (l:List UInt8):l.dropWhile p = [] ↔ l.all p = true:=by
 rw [← yqIy];simp
theorem yqwy (l cs:List UInt8):(Lib.trimS l cs == []) = l.all fun b=>cs.contains b:=by
 unfold Lib.trimS Lib.trimLeftS Lib.trimRightS
 rw [yqIy]
 cases h:l.all fun b=>cs.contains b with
 | true =>
  have h2:l.reverse.dropWhile (fun b=>cs.contains b) = []:=by rw [ymTy,List.all_reverse];exact h
  rw [h2];rfl
 | false =>
  rw [Bool.eq_false_iff]
  intro hh
  rw [List.all_reverse] at hh
  have h5:l.reverse.dropWhile (fun b=>cs.contains b) = []:=by
   rw [ymTy,List.all_eq_true]
   intro x hx
   rw [← List.takeWhile_append_dropWhile (p:=fun b=>cs.contains b) (l:=l.reverse),List.mem_append] at hx
   rcases hx with hx | hx
   ·exact List.all_eq_true.1 List.all_takeWhile x hx
   ·exact List.all_eq_true.1 hh x hx
  rw [ymTy,List.all_reverse,h] at h5
  cases h5
def cutB (c:UInt8):List UInt8→List UInt8×List UInt8×Bool
 | []=>([],[],false)
 | b::l=>if b == c then ([],l,true) else let q:=cutB c l;(b::q.1,q.2.1,q.2.2)
theorem ynGy (c:UInt8):∀ l:List UInt8,l.contains c = false→cutB c l = (l,[],false)
 | [],_=>rfl
 | b::l,h=>by
  simp only [List.contains_cons,Bool.or_eq_false_iff] at h
  have hb:(b == c) = false:=by rw [beq_eq_false_iff_ne];intro e;rw [e] at h;simp at h
  unfold cutB
  rw [hb,ynGy c l h.2]
  rfl
theorem ydPy (c:UInt8):∀ (l:List UInt8) (i:Nat),l[i]? = some c→(l.take i).contains c = false→cutB c l = (l.take i,l.drop (i + 1),true)
 | [],i,h,_=>by simp at h
 | b::l,0,h,_=>by
  simp only [List.getElem?_cons_zero,Option.some.injEq] at h
  subst h
  simp [cutB]
 | b::l,i + 1,h,hn=>by
  simp only [List.take_succ_cons,List.contains_cons,Bool.or_eq_false_iff] at hn
  have hb:(b == c) = false:=by rw [beq_eq_false_iff_ne];intro e;rw [e] at hn;simp at hn
  have ih:=ydPy c l i (by simpa using h) hn.2
  unfold cutB
  rw [hb,ih]
  simp
theorem ywBy (c:UInt8):∀ l:List UInt8,(cutB c l).1.length + (cutB c l).2.1.length≤l.length∧((cutB c l).2.2 = true→(cutB c l).1.length + (cutB c l).2.1.length + 1 = l.length)
 | []=>⟨by simp [cutB],fun h=>by simp [cutB] at h⟩
 | b::l=>by
  have ih:=ywBy c l
  unfold cutB
  split
  ·exact ⟨by simp,fun _=>by simp⟩
  ·refine ⟨by simp;omega,fun h=>?_⟩
   have:=ih.2 h
   simp;omega
def yaAy (c:UInt8):List UInt8→List (List UInt8)
 | []=>[[]]
 | b::l=>if b == c then []::yaAy c l else match yaAy c l with | []=>[[b]] | w::ws=>(b::w)::ws
theorem yySy (c b:UInt8) (l:List UInt8):yaAy c (b::l) = if b == c then []::yaAy c l else match yaAy c l with | []=>[[b]] | w::ws=>(b::w)::ws:=rfl
theorem yEJy (c b:UInt8) (l:List UInt8):cutB c (b::l) = if b == c then ([],l,true) else (b::(cutB c l).1,(cutB c l).2.1,(cutB c l).2.2):=rfl
theorem ym4y (c:UInt8) (l:List UInt8):yaAy c l≠[]:=by
 cases l with
 | nil=>simp [yaAy]
 | cons b l =>
  unfold yaAy
  split
  ·simp
  ·split <;> simp
theorem yf2y (c:UInt8):∀ l:List UInt8,yaAy c l = bif (cutB c l).2.2 then (cutB c l).1::yaAy c (cutB c l).2.1 else [l]
 | []=>rfl
 | b::l=>by
  have ih:=yf2y c l
  rw [yySy,yEJy]
  cases hb:b == c with
  | true=>rfl
  | false =>
   simp only [Bool.false_eq_true,if_false]
   rw [ih]
   cases h2:(cutB c l).2.2 <;> rfl
theorem yf0y (c:UInt8):∀ l:List UInt8,(yaAy c l).length = l.count c + 1
 | []=>rfl
 | b::l=>by
  have ih:=yf0y c l
  unfold yaAy
  cases hb:b == c with
  | true =>
   obtain rfl:b = c:=by simpa using hb
   simp [ih]
  | false =>
   have hne:b≠c:=by simpa using hb
   rw [List.count_cons_of_ne hne]
   simp only [Bool.false_eq_true,if_false]
   split
   ·rename_i h;exact absurd h (ym4y c l)
   ·rename_i w ws h
    rw [h] at ih
    simpa using ih
end Go.Am
set_option linter.unusedVariables false
set_option linter.unusedSectionVars false
set_option linter.unusedSimpArgs false
set_option maxRecDepth 100000
namespace Go.Am
open Go Go.Proofs
variable [Fuel]
def ascB (s:List UInt8):Prop:=∀ x∈s,x.toNat < 128
abbrev yiRy:List UInt8:=[97,98,99,100,101,102,103,104,105,106,107,108,109,110,111,112,113,114,115,116,117,118,119,120,121,122]
abbrev digS:List UInt8:=[48,49,50,51,52,53,54,55,56,57]
abbrev keyS:List UInt8:=[97,98,99,100,101,102,103,104,105,106,107,108,109,110,111,112,113,114,115,116,117,118,119,120,121,122,48,49,50,51,52,53,54,55,56,57,45,95]
theorem yL4y (x:UInt8):((x.toNat:Int)).toNat.toUInt8 = x:=by
 simp
theorem ymGy (a:List UInt8) (x:UInt8) (R:Type) (k:Int→Option R):strings_IndexByte a (x.toNat:Int) k = k (Lib.indexByte a x):=by
 show k (Lib.indexByte a ((x.toNat:Int)).toNat.toUInt8) = _
 rw [yL4y]
theorem yETy {a cs:List UInt8} (ha:a.length≤1000000) (hc:(decide (cs.length < 4294967281)&&yfky cs) = true) (R:Type) (k:List UInt8→Option R):strings_Trim a cs k = k (Lib.trimS a cs):=by
 show (bif decide (a.length≤9223372036854775807)&&(decide (cs.length < 4294967281)&&yfky cs) then _ else none) = _
 rw [hc,decide_eq_true (by omega)]
 rfl
def keyG (s:List UInt8):Bool:=match s with | []=>false | b::_=>decide (s.length≤40)&&(yiRy.contains b&&s.all fun x=>keyS.contains x)
theorem yDCy (b:UInt8) (l:List UInt8):keyG (b::l) = (decide ((b::l).length≤40)&&(yiRy.contains b&&(b::l).all fun x=>keyS.contains x)):=rfl
theorem yjMy {s:List UInt8} (hl:s.length≤1000000) (R:Type) (k:Bool→Option R):kit_IsKey s k = k (keyG s):=by
 cases s with
 | nil=>rfl
 | cons b l =>
  have h1:∀ k:Int→Option R,yduy.strings_IndexByte yiRy (b.toNat:Int) k = k (Lib.indexByte yiRy b):=fun k=>ymGy yiRy b R k
  have h2:∀ k:List UInt8→Option R,yduy.strings_Trim (b::l) keyS k = k (Lib.trimS (b::l) keyS):=fun k=>yETy hl (by decide) R k
  have he:((b::l) == []) = false:=rfl
  show yh1y yduy (b::l) k = _
  rw [yDCy]
  unfold yh1y
  rw [he,Bool.not_false,cond_true]
  have hd:decide (((b::l).length:Int)≤40) = decide ((b::l).length≤40):=by
   by_cases h:(b::l).length≤40
   ·rw [decide_eq_true h,decide_eq_true (by omega)]
   ·rw [decide_eq_false h,decide_eq_false (by omega)]
  rw [hd]
  cases decide ((b::l).length≤40) with
  | false=>rfl
  | true =>
   show yduy.strings_IndexByte yiRy (b.toNat:Int) _ = _
   rw [h1,yH4y]
   cases yiRy.contains b with
   | false=>rfl
   | true =>
    rw [cond_true,h2,yqwy]
    rfl
end Go.Am
set_option linter.unusedVariables false
set_option linter.unusedSectionVars false
set_option linter.unusedSimpArgs false
set_option maxRecDepth 100000
namespace Go.Am
open Go Go.Proofs
variable [Fuel]
end Go.Am
set_option linter.unusedVariables false
set_option linter.unusedSectionVars false
set_option linter.unusedSimpArgs false
set_option maxRecDepth 100000
namespace Go.Am
open Go Go.Proofs
variable [Fuel]
theorem yBVy (c:UInt8) (s:List UInt8):(cutB c s).2.2 = s.contains c:=by
 cases h:s.contains c with
 | false=>rw [ynGy c s h]
 | true =>
  obtain ⟨i,e1,e2,e3,e4⟩:=ygUy c s h
  rw [ydPy c s i e3 e4]
end Go.Am
