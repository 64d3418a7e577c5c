/- The plain law, in Lean alone: T0, T1, T2, T3. No condition: lemmas for the claim. -/
import Derived.Test.YtoajjnhmofegcaaGreatDoorF1
import Derived.Test.YtoajjnhmofegcaaGreatDoorF2
import Derived.Test.YtoajjnhmofegcaaGreatDoorF3
import Derived.Test.YtoajjnhmofegcaaGreatDoorF4
import Derived.Test.YtoajjnhmofegcaaGreatDoorF5
import Derived.Test.YtoajjnhmofegcaaGreatDoorF6
import Derived.Test.YtoajjnhmofegcaaGreatDoorF7
import Derived.Test.YtoajjnhmofegcaaGreatDoorF8
import Derived.Test.YtoajjnhmofegcaaGreatDoorF9
import Derived.Test.YtoajjnhmofegcaaGreatDoorF10
import Derived.Test.YtoajjnhmofegcaaGreatDoorPlB1
set_option linter.unusedVariables false
set_option linter.unusedSectionVars false
set_option linter.unusedSimpArgs false
set_option maxRecDepth 100000
namespace Go.Am
open Go Go.Proofs
theorem yo9y (c:UInt8):∀ l:List UInt8,l.contains c = false→Lib.indexByte l c = -1
 | [],_=>rfl
 | b::l,h=>by
  simp only [List.contains_cons,Bool.or_eq_false_iff] at h
  have hb:(b == c) = false:=by rw [beq_eq_false_iff_ne];intro e;rw [e] at h;simp at h
  unfold Lib.indexByte
  rw [yo9y c l h.2,hb]
  rfl
theorem ydCy (c:UInt8):∀ l:List UInt8,l.contains c = true→∃ i:Nat,Lib.indexByte l c = i∧i < l.length∧l[i]? = some c∧(l.take i).contains c = false
 | [],h=>by simp at h
 | b::l,h=>by
  unfold Lib.indexByte
  cases hb:b == c with
  | true =>
   obtain rfl:b = c:=by simpa using hb
   exact ⟨0,rfl,by simp,rfl,rfl⟩
  | false =>
   have hc:l.contains c = true:=by
    simp only [List.contains_cons,Bool.or_eq_true] at h
    rcases h with h | h
    ·have:b = c:=by have:=beq_iff_eq.1 h;exact this.symm
     rw [this] at hb;simp at hb
    ·exact h
   obtain ⟨i,h1,h2,h3,h4⟩:=ydCy c l hc
   refine ⟨i + 1,?_,by simpa using h2,by simpa using h3,?_⟩
   ·rw [h1]
    have:((i:Int) == -1) = false:=by rw [beq_eq_false_iff_ne];omega
    simp [this]
   ·simp only [List.take_succ_cons,List.contains_cons,Bool.or_eq_false_iff]
    exact ⟨by rw [beq_eq_false_iff_ne];intro e;rw [e] at hb;simp at hb,h4⟩
theorem yFWy (l:List UInt8) (c:UInt8):decide (Lib.indexByte l c < 0) = !l.contains c:=by
 cases h:l.contains c with
 | false=>rw [yo9y c l h];rfl
 | true =>
  obtain ⟨i,h1,_⟩:=ydCy c l h
  rw [h1]
  simp
theorem yj6y (l:List UInt8) (c:UInt8):decide (Lib.indexByte l c ≥ 0) = l.contains c:=by
 cases h:l.contains c with
 | false=>rw [yo9y c l h];rfl
 | true =>
  obtain ⟨i,h1,_⟩:=ydCy c l h
  rw [h1]
  simp
theorem ypey (p:UInt8→Bool):∀ l:List UInt8,(l.dropWhile p == []) = l.all p
 | []=>rfl
 | b::l=>by
  rw [List.dropWhile_cons,List.all_cons]
  cases h:p b with
  | true=>simpa using ypey p l
  | false=>simp
theorem ym9y (p:UInt8→Bool) (l:List UInt8):l.dropWhile p = [] ↔ l.all p = true:=by
 rw [← ypey];simp
theorem ylay (l cs:List UInt8):(Lib.trimS l cs == []) = l.all fun b=>cs.contains b:=by
 unfold Lib.trimS Lib.trimLeftS Lib.trimRightS
 rw [ypey]
 cases h:l.all fun b=>cs.contains b with
 | true =>
  have h2:l.reverse.dropWhile (fun b=>cs.contains b) = []:=by rw [ym9y,List.all_reverse];exact h
  rw [h2];rfl
 | false =>
  rw [Bool.eq_false_iff]
  intro hh
  rw [List.all_reverse] at hh
  have h5:l.reverse.dropWhile (fun b=>cs.contains b) = []:=by
   rw [ym9y,List.all_eq_true]
   intro x hx
   rw [← List.takeWhile_append_dropWhile (p:=fun b=>cs.contains b) (l:=l.reverse),List.mem_append] at hx
   rcases hx with hx | hx
   ·exact List.all_eq_true.1 List.all_takeWhile x hx
   ·exact List.all_eq_true.1 hh x hx
  rw [ym9y,List.all_reverse,h] at h5
  cases h5
theorem yvcy (cs:List UInt8):∀ l:List UInt8,Lib.containsAny l cs = l.any fun b=>cs.contains b
 | []=>rfl
 | b::l=>by
  have ih:=yvcy cs l
  unfold Lib.containsAny at ih ⊢
  have hg:=Lib.indexAny_ge cs l
  unfold Lib.indexAny
  rw [List.any_cons]
  cases hb:cs.contains b with
  | true=>simp
  | false =>
   simp only [Bool.false_eq_true,if_false,Bool.false_or]
   rw [← ih]
   by_cases h:Lib.indexAny l cs = -1
   ·rw [h];rfl
   ·have h2:(Lib.indexAny l cs == -1) = false:=by simpa using h
    rw [h2]
    simp only [Bool.false_eq_true,if_false]
    rw [decide_eq_true (show 0≤Lib.indexAny l cs by omega),decide_eq_true (show 0≤Lib.indexAny l cs + 1 by omega)]
theorem yhFy (cs:List UInt8):∀ l:List UInt8,-1≤lastAny l cs∧lastAny l cs < (l.length:Int)
 | []=>⟨Int.le_refl _,by simp [lastAny]⟩
 | x::l=>by
  have ih:=yhFy cs l
  have hl:((x::l).length:Int) = (l.length:Int) + 1:=by simp
  unfold lastAny
  rw [hl]
  split
  ·split <;> omega
  ·omega
def cutB (c:UInt8):List UInt8→List UInt8×List UInt8×Bool
 | []=>([],[],false)
 | b::l=>if b == c then ([],l,true) else let q:=cutB c l;(b::q.1,q.2.1,q.2.2)
theorem yg9y (c:UInt8):∀ l:List UInt8,l.contains c = false→cutB c l = (l,[],false)
 | [],_=>rfl
 | b::l,h=>by
  simp only [List.contains_cons,Bool.or_eq_false_iff] at h
  have hb:(b == c) = false:=by rw [beq_eq_false_iff_ne];intro e;rw [e] at h;simp at h
  unfold cutB
  rw [hb,yg9y c l h.2]
  rfl
theorem ydFy (c:UInt8):∀ (l:List UInt8) (i:Nat),l[i]? = some c→(l.take i).contains c = false→cutB c l = (l.take i,l.drop (i + 1),true)
 | [],i,h,_=>by simp at h
 | b::l,0,h,_=>by
  simp only [List.getElem?_cons_zero,Option.some.injEq] at h
  subst h
  simp [cutB]
 | b::l,i + 1,h,hn=>by
  simp only [List.take_succ_cons,List.contains_cons,Bool.or_eq_false_iff] at hn
  have hb:(b == c) = false:=by rw [beq_eq_false_iff_ne];intro e;rw [e] at hn;simp at hn
  have ih:=ydFy c l i (by simpa using h) hn.2
  unfold cutB
  rw [hb,ih]
  simp
theorem yiay (c:UInt8):∀ l:List UInt8,(cutB c l).1.length + (cutB c l).2.1.length≤l.length∧((cutB c l).2.2 = true→(cutB c l).1.length + (cutB c l).2.1.length + 1 = l.length)
 | []=>⟨by simp [cutB],fun h=>by simp [cutB] at h⟩
 | b::l=>by
  have ih:=yiay c l
  unfold cutB
  split
  ·exact ⟨by simp,fun _=>by simp⟩
  ·refine ⟨by simp;omega,fun h=>?_⟩
   have:=ih.2 h
   simp;omega
theorem yv7y (c:UInt8):∀ l:List UInt8,(∀ x∈(cutB c l).1,x∈l)∧(∀ x∈(cutB c l).2.1,x∈l)
 | []=>⟨fun x h=>by simp [cutB] at h,fun x h=>by simp [cutB] at h⟩
 | b::l=>by
  have ih:=yv7y c l
  unfold cutB
  split
  ·exact ⟨fun x h=>by simp at h,fun x h=>by simp at h ⊢;exact .inr h⟩
  ·refine ⟨fun x h=>?_,fun x h=>?_⟩
   ·simp only [List.mem_cons] at h ⊢
    rcases h with h | h
    ·exact .inl h
    ·exact .inr (ih.1 x h)
   ·exact List.mem_cons_of_mem _ (ih.2 x h)
def yaly (c:UInt8):List UInt8→List (List UInt8)
 | []=>[[]]
 | b::l=>if b == c then []::yaly c l else match yaly c l with | []=>[[b]] | w::ws=>(b::w)::ws
theorem yw7y (c b:UInt8) (l:List UInt8):yaly c (b::l) = if b == c then []::yaly c l else match yaly c l with | []=>[[b]] | w::ws=>(b::w)::ws:=rfl
theorem yA2y (c b:UInt8) (l:List UInt8):cutB c (b::l) = if b == c then ([],l,true) else (b::(cutB c l).1,(cutB c l).2.1,(cutB c l).2.2):=rfl
theorem yi3y (c:UInt8) (l:List UInt8):yaly c l≠[]:=by
 cases l with
 | nil=>simp [yaly]
 | cons b l =>
  unfold yaly
  split
  ·simp
  ·split <;> simp
theorem yhBy (c:UInt8):∀ l:List UInt8,yaly c l = bif (cutB c l).2.2 then (cutB c l).1::yaly c (cutB c l).2.1 else [l]
 | []=>rfl
 | b::l=>by
  have ih:=yhBy c l
  rw [yw7y,yA2y]
  cases hb:b == c with
  | true=>rfl
  | false =>
   simp only [Bool.false_eq_true,if_false]
   rw [ih]
   cases h2:(cutB c l).2.2 <;> rfl
theorem ycRy (c:UInt8):∀ l:List UInt8,(yaly c l).length = l.count c + 1
 | []=>rfl
 | b::l=>by
  have ih:=ycRy c l
  unfold yaly
  cases hb:b == c with
  | true =>
   obtain rfl:b = c:=by simpa using hb
   simp [ih]
  | false =>
   have hne:b≠c:=by simpa using hb
   rw [List.count_cons_of_ne hne]
   simp only [Bool.false_eq_true,if_false]
   split
   ·rename_i h;exact absurd h (yi3y c l)
   ·rename_i w ws h
    rw [h] at ih
    simpa using ih
theorem yk3y (c:UInt8):∀ l:List UInt8,∀ w∈yaly c l,∀ x∈w,x∈l∧x≠c
 | []=>fun w h x hx=>by simp [yaly] at h;subst h;cases hx
 | b::l=>fun w h x hx=>by
  have ih:=yk3y c l
  unfold yaly at h
  cases hb:b == c with
  | true =>
   rw [hb] at h
   simp only [if_true,List.mem_cons] at h
   rcases h with rfl | h
   ·cases hx
   ·exact ⟨List.mem_cons_of_mem _ (ih w h x hx).1,(ih w h x hx).2⟩
  | false =>
   have hne:b≠c:=by simpa using hb
   rw [hb] at h
   simp only [Bool.false_eq_true,if_false] at h
   split at h
   ·rename_i h0;exact absurd h0 (yi3y c l)
   ·rename_i v vs h0
    rw [h0] at ih
    simp only [List.mem_cons] at h
    rcases h with rfl | h
    ·rcases List.mem_cons.1 hx with rfl | hx
     ·exact ⟨List.mem_cons_self,hne⟩
     ·exact ⟨List.mem_cons_of_mem _ (ih v (by simp) x hx).1,(ih v (by simp) x hx).2⟩
    ·exact ⟨List.mem_cons_of_mem _ (ih w (by simp [h]) x hx).1,(ih w (by simp [h]) x hx).2⟩
theorem ykTy (c:UInt8):∀ l:List UInt8,∀ w∈yaly c l,w.length≤l.length
 | []=>fun w h=>by simp [yaly] at h;subst h;exact Nat.le_refl _
 | b::l=>fun w h=>by
  have ih:=ykTy c l
  unfold yaly at h
  split at h
  ·simp only [List.mem_cons] at h
   rcases h with rfl | h
   ·simp
   ·have:=ih w h;simp;omega
  ·split at h
   ·simp only [List.mem_cons,List.not_mem_nil,or_false] at h;subst h;simp
   ·rename_i v vs h0
    rw [h0] at ih
    simp only [List.mem_cons] at h
    rcases h with rfl | h
    ·have:=ih v (by simp);simp;omega
    ·have:=ih w (by simp [h]);simp;omega
end Go.Am
set_option linter.unusedVariables false
set_option linter.unusedSectionVars false
set_option linter.unusedSimpArgs false
set_option maxRecDepth 100000
namespace Go.Am
open Go Go.Proofs
variable [Fuel]
def ascB (s:List UInt8):Prop:=∀ x∈s,x.toNat < 128
abbrev yaAy:List UInt8:=[97,98,99,100,101,102,103,104,105,106,107,108,109,110,111,112,113,114,115,116,117,118,119,120,121,122]
abbrev digS:List UInt8:=[48,49,50,51,52,53,54,55,56,57]
abbrev yh6y:List UInt8:=[97,98,99,100,101,102,103,104,105,106,107,108,109,110,111,112,113,114,115,116,117,118,119,120,121,122,48,49,50,51,52,53,54,55,56,57]
abbrev keyS:List UInt8:=[97,98,99,100,101,102,103,104,105,106,107,108,109,110,111,112,113,114,115,116,117,118,119,120,121,122,48,49,50,51,52,53,54,55,56,57,45,95]
theorem yjKy (x:UInt8):((x.toNat:Int)).toNat.toUInt8 = x:=by
 simp
theorem ypvy (x:UInt8):IntKind.i32.wrap (x.toNat:Int) = (x.toNat:Int):=by
 have h:∀ x:Fin 256,IntKind.i32.wrap (((UInt8.ofNat x).toNat:Nat):Int) = (((UInt8.ofNat x).toNat:Nat):Int):=by decide +kernel
 have:=h ⟨x.toNat,x.toNat_lt⟩
 simpa using this
theorem yf3y (a:List UInt8) (x:UInt8) (R:Type) (k:Int→Option R):strings_IndexByte a (x.toNat:Int) k = k (Lib.indexByte a x):=by
 show k (Lib.indexByte a ((x.toNat:Int)).toNat.toUInt8) = _
 rw [yjKy]
theorem yvDy {a cs:List UInt8} (ha:a.length≤1000000) (hc:(decide (cs.length < 4294967281)&&ydjy cs) = true) (R:Type) (k:List UInt8→Option R):strings_Trim a cs k = k (Lib.trimS a cs):=by
 show (bif decide (a.length≤9223372036854775807)&&(decide (cs.length < 4294967281)&&ydjy cs) then _ else none) = _
 rw [hc,decide_eq_true (by omega)]
 rfl
theorem yrWy (some1:List UInt8) (d:List UInt8) (hl:d.length≤1000000):∀ (xs:List UInt8) (n i:Nat),d.drop i = xs→xs.length < n→∀ (R:Type) (e0:Bool→Option R) (e1:Option R),
  yc6y yc8y n d some1 (d.length:Int) (i:Int) e0 e1 = bif xs.all (fun b=>some1.contains b) then e1 else e0 false
 | _,0,_,_,h,_,_,_=>by omega
 | [],n + 1,i,h,_,R,e0,e1=>by rw [yc6y,ya2y h];rfl
 | c::cs,n + 1,i,h,hn,R,e0,e1=>by
  have h':=yavy h
  have ih:=yrWy some1 d hl cs n (i + 1) h'.2.2.1 (Nat.lt_of_succ_lt_succ (by simpa only [List.length_cons] using hn)) R e0 e1
  have hi:∀ k:Int→Option R,yc8y.strings_IndexByte some1 (c.toNat:Int) k = k (Lib.indexByte some1 c):=fun k=>yf3y some1 c R k
  rw [yc6y,yaYy h,cond_true,yaPy h,hi,yFWy,yapy (show i < 4611686018427387904 by omega),ih,List.all_cons]
  cases some1.contains c <;> rfl
theorem ypdy {s:List UInt8} (some1:List UInt8) (hl:s.length≤1000000) (R:Type) (k:Bool→Option R):Q_only s some1 k = k (s.all fun b=>some1.contains b):=by
 show yc6y yc8y NN s some1 (s.length:Int) 0 (fun e=>k e) (k true) = _
 refine (yrWy some1 s hl s NN 0 rfl (by have:=NN_ok;omega) R _ _).trans ?_
 cases s.all fun b=>some1.contains b <;> rfl
def keyG (s:List UInt8):Bool:=match s with | []=>false | b::_=>decide (s.length≤40)&&(yaAy.contains b&&s.all fun x=>keyS.contains x)
theorem yssy (b:UInt8) (l:List UInt8):keyG (b::l) = (decide ((b::l).length≤40)&&(yaAy.contains b&&(b::l).all fun x=>keyS.contains x)):=rfl
theorem ygBy {s:List UInt8} (hl:s.length≤1000000) (R:Type) (k:Bool→Option R):kit_IsKey s k = k (keyG s):=by
 cases s with
 | nil=>rfl
 | cons b l =>
  have h1:∀ k:Int→Option R,ydry.strings_IndexByte yaAy (b.toNat:Int) k = k (Lib.indexByte yaAy b):=fun k=>yf3y yaAy b R k
  have h2:∀ k:List UInt8→Option R,ydry.strings_Trim (b::l) keyS k = k (Lib.trimS (b::l) keyS):=fun k=>yvDy hl (by decide) R k
  have he:((b::l) == []) = false:=rfl
  show yhIy ydry (b::l) k = _
  rw [yssy]
  unfold yhIy
  rw [he,Bool.not_false,cond_true]
  have hd:decide (((b::l).length:Int)≤40) = decide ((b::l).length≤40):=by
   by_cases h:(b::l).length≤40
   ·rw [decide_eq_true h,decide_eq_true (by omega)]
   ·rw [decide_eq_false h,decide_eq_false (by omega)]
  rw [hd]
  cases decide ((b::l).length≤40) with
  | false=>rfl
  | true =>
   show ydry.strings_IndexByte yaAy (b.toNat:Int) _ = _
   rw [h1,yj6y]
   cases yaAy.contains b with
   | false=>rfl
   | true =>
    rw [cond_true,h2,ylay]
    rfl
theorem yGpy {s:List UInt8} (hl:s.length≤1000000) (R:Type) (k:Bool→Option R):Q_Key s k = k (keyG s):=by
 cases s with
 | nil=>rfl
 | cons b l =>
  have h0:∀ k:Bool→Option R,yhVy.Q_in ((b::l).length:Int) 1 40 k = k (decide ((b::l).length≤40)):=fun k=>by
   show (bif decide ((1:Int)≤((b::l).length:Int)) then k (decide (((b::l).length:Int)≤40)) else k false) = _
   rw [decide_eq_true (by simp;omega),cond_true]
   congr 1
   by_cases h:(b::l).length≤40
   ·rw [decide_eq_true h,decide_eq_true (by omega)]
   ·rw [decide_eq_false h,decide_eq_false (by omega)]
  have h1:∀ k:Bool→Option R,yhVy.Q_only ((b::l).take ((1:Int)).toNat) yaAy k = k (yaAy.contains b):=fun k=>by
   have:=ypdy (s:=(b::l).take ((1:Int)).toNat) yaAy (by simp) R k
   refine this.trans ?_
   show k ([b].all fun b=>yaAy.contains b) = _
   simp
  have h2:∀ k:Bool→Option R,yhVy.Q_only (b::l) keyS k = k ((b::l).all fun x=>keyS.contains x):=fun k=>ypdy keyS hl R k
  show ypAy yhVy (b::l) k = _
  rw [yssy]
  unfold ypAy
  rw [h0]
  cases decide ((b::l).length≤40) with
  | false=>rfl
  | true =>
   have hd:(decide ((0:Nat)≤1)&&decide ((1:Int)≤((b::l).length:Int))) = true:=by simp;omega
   rw [cond_true,hd,cond_true,h1]
   cases yaAy.contains b with
   | false=>rfl
   | true=>rw [cond_true,h2];rfl
theorem ymuy (d:List UInt8) (hl:d.length≤1000000):∀ (xs:List UInt8) (n i c:Nat),d.drop i = xs→xs.length < n→c≤i→∀ (R:Type) (e0:Int→Bool→Option R) (e1:Int→Option R),
  z30z_L2 yesy n d (c:Int) (d.length:Int) (i:Int) e0 e1 = bif xs.all (fun b=>yh6y.contains b) then e1 ((c + xs.countP (fun b=>yaAy.contains b):Nat):Int) else e0 0 false
 | _,0,_,_,_,h,_,_,_,_=>by omega
 | [],n + 1,i,c,h,_,_,R,e0,e1=>by rw [z30z_L2,ya2y h];rfl
 | x::cs,n + 1,i,c,h,hn,hc,R,e0,e1=>by
  have h':=yavy h
  have hn':=Nat.lt_of_succ_lt_succ (by simpa only [List.length_cons] using hn)
  have ih:=fun c hc=>ymuy d hl cs n (i + 1) c h'.2.2.1 hn' hc R e0 e1
  have hx:x.toNat < 256:=x.toNat_lt
  have hs:yaAy.contains x = (bif decide ((x.toNat:Int) ≥ 97) then decide ((x.toNat:Int)≤122) else false):=by
   have:∀ x:Fin 256,yaAy.contains (UInt8.ofNat x) = (bif decide (((UInt8.ofNat x).toNat:Int) ≥ 97) then decide (((UInt8.ofNat x).toNat:Int)≤122) else false):=by decide +kernel
   have:=this ⟨x.toNat,hx⟩
   simpa using this
  have hp:yh6y.contains x = (yaAy.contains x || bif decide ((x.toNat:Int) ≥ 48) then decide ((x.toNat:Int)≤57) else false):=by
   have:∀ x:Fin 256,yh6y.contains (UInt8.ofNat x) = (yaAy.contains (UInt8.ofNat x) || bif decide (((UInt8.ofNat x).toNat:Int) ≥ 48) then decide (((UInt8.ofNat x).toNat:Int)≤57) else false):=by decide +kernel
   have:=this ⟨x.toNat,hx⟩
   simpa using this
  have l1:∀ k:Bool→Option R,yesy.z83z (x.toNat:Int) k = k (yaAy.contains x):=fun k=>by
   show (bif decide ((x.toNat:Int) ≥ 97) then k (decide ((x.toNat:Int)≤122)) else k false) = _
   rw [hs]
   cases decide ((x.toNat:Int) ≥ 97) <;> rfl
  have l2:∀ k:Bool→Option R,yesy.z80z (x.toNat:Int) k = k (bif decide ((x.toNat:Int) ≥ 48) then decide ((x.toNat:Int)≤57) else false):=fun k=>by
   show (bif decide ((x.toNat:Int) ≥ 48) then k (decide ((x.toNat:Int)≤57)) else k false) = _
   cases decide ((x.toNat:Int) ≥ 48) <;> rfl
  have hlt:=h'.1
  rw [z30z_L2,yaYy h,cond_true,yaPy h,l1,yaPy h,l2,yapy (show i < 4611686018427387904 by omega),yapy (show c < 4611686018427387904 by omega),ih (c + 1) (by omega),ih c (by omega),List.all_cons,hp,List.countP_cons]
  cases hsx:yaAy.contains x with
  | true =>
   simp only [cond_true,Bool.true_or,Bool.true_and,if_true]
   rw [show c + 1 + cs.countP (fun b=>yaAy.contains b) = c + (cs.countP (fun b=>yaAy.contains b) + 1) by omega]
  | false =>
   simp only [cond_false,Bool.false_or,Bool.false_eq_true,if_false,Nat.add_zero]
   cases bif decide ((x.toNat:Int) ≥ 48) then decide ((x.toNat:Int)≤57) else false <;> rfl
def ycny (s:List UInt8):Bool:=s.all fun b=>yh6y.contains b
def letN (s:List UInt8):Nat:=s.countP fun b=>yaAy.contains b
theorem z30z_g {s:List UInt8} (hl:s.length≤1000000) (R:Type) (k:Int→Bool→Option R):z30z s k = bif ycny s then k (letN s:Int) true else k 0 false:=by
 show z30z_L2 yesy NN s ((0:Nat):Int) (s.length:Int) ((0:Nat):Int) (fun a b=>k a b) (fun a=>k a true) = _
 refine (ymuy s hl s NN 0 0 rfl (by have:=NN_ok;omega) (Nat.le_refl _) R _ _).trans ?_
 rw [Nat.zero_add];rfl
theorem yoMy (s:List UInt8):decide ((letN s:Int) > 0) = s.any fun b=>yaAy.contains b:=by
 unfold letN
 cases h:s.any fun b=>yaAy.contains b with
 | true =>
  obtain ⟨x,hx,hp⟩:=List.any_eq_true.1 h
  have:0 < s.countP (fun b=>yaAy.contains b):=List.countP_pos_iff.2 ⟨x,hx,hp⟩
  rw [decide_eq_true (by omega)]
 | false =>
  have:s.countP (fun b=>yaAy.contains b) = 0:=by
   rw [List.countP_eq_zero]
   intro x hx
   have:=List.any_eq_false.1 h x hx
   simpa using this
  rw [this];rfl
theorem yvTy {s:List UInt8} {x:UInt8} (h:s.getLast? = some x) (hx:x.toNat < 128) (hl:s.length≤1000000) (R:Type) (k:Int→Int→Option R):z10z s k = k (x.toNat:Int) 1:=by
 have hne:s≠[]:=by rintro rfl;cases h
 have hpos:0 < s.length:=List.length_pos_iff.2 hne
 have hg:s[s.length - 1]? = some x:=by rw [← h,List.getLast?_eq_getElem?]
 have h0:((s.length:Int) == 0) = false:=by rw [beq_eq_false_iff_ne];omega
 have hw:w64 ((s.length:Int) - 1) = ((s.length - 1:Nat):Int):=yf9y (by omega) hpos
 show z10z_ yioy s k = _
 unfold z10z_
 rw [h0,cond_false,hw,yhNy hg,ypvy,decide_eq_true (by omega),cond_true]
theorem ylYy (cs:List UInt8) (x:UInt8):∀ l:List UInt8,lastAny (l++[x]) cs = if cs.contains x then (l.length:Int) else lastAny l cs
 | []=>by
  show (if lastAny [] cs == -1 then (if cs.contains x then (0:Int) else -1) else lastAny [] cs + 1) = _
  rfl
 | y::l=>by
  have ih:=ylYy cs x l
  have hge:=yhFy cs l
  show (if lastAny (l++[x]) cs == -1 then (if cs.contains y then (0:Int) else -1) else lastAny (l++[x]) cs + 1) = _
  rw [ih]
  cases cs.contains x with
  | true =>
   have:((l.length:Int) == -1) = false:=by rw [beq_eq_false_iff_ne];omega
   simp [this]
  | false=>rfl
theorem yvsy (d cs:List UInt8) (hd:ascB d) (hl:d.length≤1000000):∀ (i n:Nat),i≤d.length→i < n→∀ (R:Type) (e0:Int→Option R) (e1:Option R),
  z6z_L31 I_z6z n d cs (i:Int) e0 e1 = bif decide (lastAny (d.take i) cs ≥ 0) then e0 (lastAny (d.take i) cs) else e1
 | _,0,_,h,_,_,_=>by omega
 | 0,n + 1,_,_,R,e0,e1=>by rw [z6z_L31];rfl
 | i + 1,n + 1,hi,hn,R,e0,e1=>by
  have hlt:i < d.length:=hi
  obtain ⟨x,hx⟩:∃ x,d[i]? = some x:=⟨_,List.getElem?_eq_getElem hlt⟩
  have htk:d.take (i + 1) = d.take i++[x]:=by
   rw [List.take_add_one,hx];rfl
  have hxa:=hd x (List.mem_of_getElem? hx)
  have ih:=yvsy d cs hd hl i n (by omega) (by omega) R e0 e1
  have h1:∀ k:Int→Int→Option R,I_z6z.z10z (d.take (i + 1)) k = k (x.toNat:Int) 1:=fun k=>yvTy (by rw [htk];simp) hxa (by rw [List.length_take];omega) R k
  have h2:∀ k:Int→Option R,I_z6z.strings_IndexRune cs (x.toNat:Int) k = k (Lib.indexByte cs x):=fun k=>by
   show (bif decide ((0:Int)≤(x.toNat:Int))&&decide ((x.toNat:Int) < 128) then k (Lib.indexByte cs ((x.toNat:Int)).toNat.toUInt8) else none) = _
   rw [decide_eq_true (by omega),decide_eq_true (by omega),yjKy];rfl
  have hg:(decide (0≤((i + 1:Nat):Int))&&decide (((i + 1:Nat):Int)≤(d.length:Int))) = true:=by simp;omega
  have hw:w64 (((i + 1:Nat):Int) - 1) = (i:Int):=by rw [yaZy (by omega) (by omega)];omega
  rw [z6z_L31,decide_eq_true (show ((i + 1:Nat):Int) > 0 by omega),cond_true,hg,cond_true]
  rw [show (((i + 1:Nat):Int)).toNat = i + 1 by omega,h1,h2,hw,ih,yj6y,htk,ylYy]
  have hlen:((d.take i).length:Int) = (i:Int):=by rw [List.length_take];omega
  cases cs.contains x with
  | true =>
   simp only [cond_true,if_true]
   rw [hlen,decide_eq_true (show (i:Int) ≥ 0 by omega)];rfl
  | false=>rfl
theorem LIA_g {s:List UInt8} (hs:ascB s) (hl:s.length≤1000000) (R:Type) (k:Int→Option R):z4z s digS k = k (lastAny s digS):=by
 show (bif decide (8 < s.length) then (bif longB s digS then k (lastAny s digS) else none) else z6z s digS k) = _
 cases h8:decide (8 < s.length) with
 | true =>
  have:longB s digS = true:=by
   unfold longB
   rw [decide_eq_true (show s.length < 4294967281 by omega)]
   decide
  rw [this];rfl
 | false =>
  have h8':s.length≤8:=by simpa using h8
  rw [cond_false]
  show z6z_ I_z6z s digS k = _
  unfold z6z_
  have hd:(digS == []) = false:=rfl
  rw [hd,cond_false]
  cases h1:(s.length:Int) == 1 with
  | true =>
   have hl1:s.length = 1:=by have:=beq_iff_eq.1 h1;omega
   obtain ⟨x,rfl⟩:∃ x,s = [x]:=by
    match s,hl1 with
    | [x],_=>exact ⟨x,rfl⟩
   have hxa:=hs x (by simp)
   have h2:∀ k:Int→Option R,I_z6z.strings_IndexRune digS (x.toNat:Int) k = k (Lib.indexByte digS x):=fun k=>by
    show (bif decide ((0:Int)≤(x.toNat:Int))&&decide ((x.toNat:Int) < 128) then k (Lib.indexByte digS ((x.toNat:Int)).toNat.toUInt8) else none) = _
    rw [decide_eq_true (by omega),decide_eq_true (by omega),yjKy];rfl
   have ha:∀ k:UInt8→Option R,at_ [x] 0 k = k x:=fun k=>ycyy (i:=0) rfl k
   rw [cond_true,ha,ypvy,decide_eq_false (show ¬ ((x.toNat:Int) ≥ 128) by omega),cond_false,h2,yj6y]
   have e:lastAny [x] digS = if digS.contains x then (0:Int) else -1:=rfl
   rw [e]
   cases digS.contains x <;> rfl
  | false =>
   have h3:∀ k:Bool→Option R,I_z6z.strings_shouldUseASCIISet (s.length:Int) k = k false:=fun k=>by
    show k (decide ((s.length:Int) > 8)) = _
    rw [decide_eq_false (by omega)]
   have h4:((digS.length:Int) == 1) = false:=rfl
   rw [cond_false,h3,cond_false,h4,cond_false]
   refine (yvsy s digS hs hl s.length NN (Nat.le_refl _) (by have:=NN_ok;omega) R (fun e=>k e) (k (-1))).trans ?_
   rw [List.take_length]
   have:=yhFy digS s
   by_cases h:lastAny s digS ≥ 0
   ·rw [decide_eq_true h];rfl
   ·rw [decide_eq_false h,cond_false]
    congr 1;omega
end Go.Am
set_option linter.unusedVariables false
set_option linter.unusedSectionVars false
set_option linter.unusedSimpArgs false
set_option maxRecDepth 100000
namespace Go.Am
open Go Go.Proofs
variable [Fuel]
theorem yscy {s:List UInt8} (h:ycny s = true):ascB s:=fun x hx=>by
 have h1:=List.all_eq_true.1 h x hx
 have h2:∀ x:Fin 256,yh6y.contains (UInt8.ofNat x) = true→(UInt8.ofNat x).toNat < 128:=by decide +kernel
 have:=h2 ⟨x.toNat,x.toNat_lt⟩ (by simpa using h1)
 simpa using this
def inBx (n lo hi:Int):Bool:=decide (lo≤n)&&decide (n≤hi)
theorem yucy (n lo hi:Int) (R:Type) (k:Bool→Option R):R_in n lo hi k = k (inBx n lo hi):=by
 show (bif decide (lo≤n) then k (decide (n≤hi)) else k false) = _
 unfold inBx
 cases decide (lo≤n) <;> rfl
def anyS (s:List UInt8):Bool:=s.any fun b=>yaAy.contains b
theorem yCzy {s:List UInt8} (h:ascB s):ydjy s = true:=List.all_eq_true.2 fun x hx=>decide_eq_true (h x hx)
theorem ylNy {s:List UInt8} (hs:ascB s) (hl:s.length≤1000000) (R:Type) (k:Bool→Option R):strings_ContainsAny s yaAy k = k (anyS s):=by
 have e:∀ k:Bool→Option R,strings_ContainsAny s yaAy k = bif decide (s.length < 4294967281)&&(decide (yaAy.length < 4294967281)&&(ydjy s&&ydjy yaAy)) then k (Lib.containsAny s yaAy) else none:=fun k=>rfl
 rw [e,decide_eq_true (by omega),yCzy hs,yvcy]
 rfl
theorem yrUy {s:List UInt8} (hl:s.length≤1000000) (lo hi:Int) (R:Type) (k:Bool→Option R):R_plain s lo hi k = k (inBx (s.length:Int) lo hi&&(ycny s&&anyS s)):=by
 have h1:∀ k:Bool→Option R,ye4y.R_in (s.length:Int) lo hi k = k (inBx (s.length:Int) lo hi):=fun k=>yucy _ lo hi R k
 have h2:∀ k:List UInt8→Option R,ye4y.strings_Trim s yh6y k = k (Lib.trimS s yh6y):=fun k=>yvDy hl (by decide) R k
 show ykAy ye4y s lo hi k = _
 unfold ykAy
 rw [h1]
 cases inBx (s.length:Int) lo hi with
 | false=>rfl
 | true =>
  rw [cond_true,h2,ylay]
  show (bif ycny s then _ else _) = _
  cases hp:ycny s with
  | false=>rfl
  | true =>
   have h3:∀ k:Bool→Option R,ye4y.strings_ContainsAny s yaAy k = k (anyS s):=fun k=>ylNy (yscy hp) hl R k
   rw [cond_true,h3];rfl
def digD (s:List UInt8):Int:=lastAny s digS
def yaEy (s:List UInt8):Bool:=ycny s&&(decide (s.length≤10)&&(inBx (digD s) 1 3&&(inBx ((s.length:Int) - 1 - digD s) 1 4&&anyS (s.take (digD s).toNat))))
def baseG (s:List UInt8):Int:=bif yaEy s then digD s else -1
theorem yDqy {s:List UInt8} {n:Nat} (h:anyS (s.take n) = true):anyS s = true:=by
 obtain ⟨x,hx,hp⟩:=List.any_eq_true.1 h
 exact List.any_eq_true.2 ⟨x,List.mem_of_mem_take hx,hp⟩
theorem ytmy (s:List UInt8):-1≤digD s∧digD s < (s.length:Int):=yhFy digS s
theorem ykEy {s:List UInt8} (hs:ascB s) (hl:s.length≤1000000) (R:Type) (k:Int→Option R):R_baseAt s k = k (baseG s):=by
 have hd:=ytmy s
 have h1:∀ k:Int→Option R,yaKy.z4z s digS k = k (digD s):=fun k=>LIA_g hs hl R k
 have h2:∀ k:Bool→Option R,yaKy.R_plain s 3 10 k = k (inBx (s.length:Int) 3 10&&(ycny s&&anyS s)):=fun k=>yrUy hl 3 10 R k
 have h3:∀ k:Bool→Option R,yaKy.R_in (digD s) 1 3 k = k (inBx (digD s) 1 3):=fun k=>yucy _ 1 3 R k
 have hw:w64 (w64 ((s.length:Int) - 1) - digD s) = (s.length:Int) - 1 - digD s:=by rw [yaZy (x:=(s.length:Int) - 1) (by omega) (by omega),yaZy (by omega) (by omega)]
 have h4:∀ k:Bool→Option R,yaKy.R_in (w64 (w64 ((s.length:Int) - 1) - digD s)) 1 4 k = k (inBx ((s.length:Int) - 1 - digD s) 1 4):=fun k=>by rw [hw];exact yucy _ 1 4 R k
 have h5:∀ k:Bool→Option R,yaKy.strings_ContainsAny (s.take (digD s).toNat) yaAy k = k (anyS (s.take (digD s).toNat)):=fun k=>ylNy (fun x hx=>hs x (List.mem_of_mem_take hx)) (by rw [List.length_take];omega) R k
 show yiCy yaKy s k = _
 unfold yiCy
 rw [h1,h2]
 unfold baseG yaEy
 cases hp:ycny s with
 | false=>simp only [Bool.false_and,Bool.and_false,Bool.not_false,cond_true,cond_false]
 | true =>
  cases h10:decide (s.length≤10) with
  | false =>
   have h10':inBx (s.length:Int) 3 10 = false:=by
    unfold inBx
    have:¬ s.length≤10:=by simpa using h10
    rw [decide_eq_false (show ¬ (s.length:Int)≤10 by omega),Bool.and_false]
   rw [h10'];rfl
  | true =>
   have h10':s.length≤10:=by simpa using h10
   cases hA:inBx (digD s) 1 3 with
   | false =>
    have:∀ b:Bool,(bif !b then k (-1) else yaKy.R_in (digD s) 1 3 fun r4=>bif !r4 then k (-1) else yaKy.R_in (w64 (w64 ((s.length:Int) - 1) - digD s)) 1 4 fun r5=>bif !r5 then k (-1) else bif decide (0≤digD s)&&decide (digD s≤(s.length:Int)) then yaKy.strings_ContainsAny (s.take (digD s).toNat) yaAy fun r6=>bif !r6 then k (-1) else k (digD s) else none) = k (-1):=fun b=>by
     cases b with
     | false=>rfl
     | true=>rw [h3,hA];rfl
    exact this _
   | true =>
    have hA':1≤digD s∧digD s≤3:=by simpa [inBx] using hA
    cases hB:inBx ((s.length:Int) - 1 - digD s) 1 4 with
    | false =>
     have:∀ b:Bool,(bif !b then k (-1) else yaKy.R_in (digD s) 1 3 fun r4=>bif !r4 then k (-1) else yaKy.R_in (w64 (w64 ((s.length:Int) - 1) - digD s)) 1 4 fun r5=>bif !r5 then k (-1) else bif decide (0≤digD s)&&decide (digD s≤(s.length:Int)) then yaKy.strings_ContainsAny (s.take (digD s).toNat) yaAy fun r6=>bif !r6 then k (-1) else k (digD s) else none) = k (-1):=fun b=>by
      cases b with
      | false=>rfl
      | true=>rw [h3,hA,Bool.not_true,cond_false,h4,hB];rfl
     exact this _
    | true =>
     have hB':1≤(s.length:Int) - 1 - digD s∧(s.length:Int) - 1 - digD s≤4:=by simpa [inBx] using hB
     have hL:inBx (s.length:Int) 3 10 = true:=by
      unfold inBx
      rw [decide_eq_true (by omega),decide_eq_true (by omega)];rfl
     have hg:(decide (0≤digD s)&&decide (digD s≤(s.length:Int))) = true:=by simp;omega
     rw [hL]
     cases hC:anyS (s.take (digD s).toNat) with
     | false =>
      have:∀ b:Bool,(bif !b then k (-1) else yaKy.R_in (digD s) 1 3 fun r4=>bif !r4 then k (-1) else yaKy.R_in (w64 (w64 ((s.length:Int) - 1) - digD s)) 1 4 fun r5=>bif !r5 then k (-1) else bif decide (0≤digD s)&&decide (digD s≤(s.length:Int)) then yaKy.strings_ContainsAny (s.take (digD s).toNat) yaAy fun r6=>bif !r6 then k (-1) else k (digD s) else none) = k (-1):=fun b=>by
       cases b with
       | false=>rfl
       | true=>rw [h3,hA,Bool.not_true,cond_false,h4,hB,Bool.not_true,cond_false,hg,cond_true,h5,hC];rfl
      exact this _
     | true =>
      rw [yDqy hC]
      show (yaKy.R_in (digD s) 1 3 fun r4=>bif !r4 then k (-1) else yaKy.R_in (w64 (w64 ((s.length:Int) - 1) - digD s)) 1 4 fun r5=>bif !r5 then k (-1) else bif decide (0≤digD s)&&decide (digD s≤(s.length:Int)) then yaKy.strings_ContainsAny (s.take (digD s).toNat) yaAy fun r6=>bif !r6 then k (-1) else k (digD s) else none) = _
      rw [h3,hA,Bool.not_true,cond_false,h4,hB,Bool.not_true,cond_false,hg,cond_true,h5,hC];rfl
def ybSy (s:List UInt8):G_Parts:=⟨s,s.take (digD s + 1).toNat,s.drop (digD s + 1).toNat,0,[]⟩
def ya5y:G_Parts:=⟨[],[],[],0,[]⟩
theorem yhEy {s:List UInt8} (h:yaEy s = true):1≤digD s∧digD s≤3:=by
 unfold yaEy at h
 simp only [Bool.and_eq_true] at h
 simpa [inBx] using h.2.2.1
theorem yiry {s:List UInt8} (hl:s.length≤1000000) (R:Type) (k:G_Parts→Bool→Option R):call_based s k = bif yaEy s then k (ybSy s) true else k ya5y false:=by
 have hd:=ytmy s
 have hsp:∃ d:Int,(yaEy s = true→d = digD s)∧∀ (k:Int→Bool→Option R),ydEy.call_split s k = k d (yaEy s):=by
  have h1:∀ k:Int→Bool→Option R,yc2y.z30z s k = bif ycny s then k (letN s:Int) true else k 0 false:=fun k=>z30z_g hl R k
  have unf:∀ k:Int→Bool→Option R,ydEy.call_split s k = ybty yc2y s k:=fun _=>rfl
  cases hp:ycny s with
  | false =>
   refine ⟨0,(fun h=>by unfold yaEy at h;rw [hp] at h;cases h),fun k=>?_⟩
   rw [unf]
   unfold ybty yaEy
   rw [h1,hp];rfl
  | true =>
   have h2:∀ k:Int→Option R,yc2y.z4z s digS k = k (digD s):=fun k=>LIA_g (yscy hp) hl R k
   have h3:∀ k:Int→Bool→Option R,yc2y.z30z (s.take (digD s).toNat) k = k (letN (s.take (digD s).toNat):Int) true:=fun k=>by
    have:=z30z_g (s:=s.take (digD s).toNat) (by rw [List.length_take];omega) R k
    refine this.trans ?_
    have hp2:ycny (s.take (digD s).toNat) = true:=List.all_eq_true.2 fun x hx=>List.all_eq_true.1 hp x (List.mem_of_mem_take hx)
    rw [hp2];rfl
   have hw:w64 (w64 ((s.length:Int) - digD s) - 1) = (s.length:Int) - 1 - digD s:=by rw [yaZy (x:=(s.length:Int) - digD s) (by omega) (by omega),yaZy (by omega) (by omega)];omega
   by_cases hc:yaEy s = true
   ·have hc2:=hc
    unfold yaEy at hc2
    simp only [Bool.and_eq_true,decide_eq_true_eq] at hc2
    obtain ⟨_,q1,q2,q3,q4⟩:=hc2
    have q2':1≤digD s∧digD s≤3:=by simpa [inBx] using q2
    have q3':1≤(s.length:Int) - 1 - digD s∧(s.length:Int) - 1 - digD s≤4:=by simpa [inBx] using q3
    refine ⟨digD s,fun _=>rfl,fun k=>?_⟩
    rw [unf]
    unfold ybty
    rw [h1,hp,cond_true,Bool.not_true,cond_false,decide_eq_false (show ¬ (s.length:Int) > 10 by omega),cond_false,h2,decide_eq_false (show ¬ digD s < 1 by omega),cond_false,decide_eq_false (show ¬ digD s > 3 by omega),cond_false,hw,
     decide_eq_false (show ¬ (s.length:Int) - 1 - digD s < 1 by omega),cond_false,decide_eq_false (show ¬ (s.length:Int) - 1 - digD s > 4 by omega),cond_false,show (decide (0≤digD s)&&decide (digD s≤(s.length:Int))) = true by simp;omega,cond_true,h3,yoMy]
    show k (digD s) (anyS (s.take (digD s).toNat)) = _
    rw [q4,hc]
   ·have hc':yaEy s = false:=by simpa using hc
    by_cases z1:(s.length:Int) > 10
    ·refine ⟨0,fun h=>absurd h hc,fun k=>?_⟩
     rw [unf]
     unfold ybty
     rw [h1,hp,cond_true,Bool.not_true,cond_false,decide_eq_true z1,cond_true,hc']
    by_cases z2:digD s < 1
    ·refine ⟨0,fun h=>absurd h hc,fun k=>?_⟩
     rw [unf]
     unfold ybty
     rw [h1,hp,cond_true,Bool.not_true,cond_false,decide_eq_false z1,cond_false,h2,decide_eq_true z2,cond_true,hc']
    by_cases z3:digD s > 3
    ·refine ⟨0,fun h=>absurd h hc,fun k=>?_⟩
     rw [unf]
     unfold ybty
     rw [h1,hp,cond_true,Bool.not_true,cond_false,decide_eq_false z1,cond_false,h2,decide_eq_false z2,cond_false,decide_eq_true z3,cond_true,hc']
    by_cases z4:(s.length:Int) - 1 - digD s < 1
    ·refine ⟨0,fun h=>absurd h hc,fun k=>?_⟩
     rw [unf]
     unfold ybty
     rw [h1,hp,cond_true,Bool.not_true,cond_false,decide_eq_false z1,cond_false,h2,decide_eq_false z2,cond_false,decide_eq_false z3,cond_false,hw,decide_eq_true z4,cond_true,hc']
    by_cases z5:(s.length:Int) - 1 - digD s > 4
    ·refine ⟨0,fun h=>absurd h hc,fun k=>?_⟩
     rw [unf]
     unfold ybty
     rw [h1,hp,cond_true,Bool.not_true,cond_false,decide_eq_false z1,cond_false,h2,decide_eq_false z2,cond_false,decide_eq_false z3,cond_false,hw,decide_eq_false z4,cond_false,decide_eq_true z5,cond_true,hc']
    refine ⟨digD s,fun h=>absurd h hc,fun k=>?_⟩
    rw [unf]
    unfold ybty
    rw [h1,hp,cond_true,Bool.not_true,cond_false,decide_eq_false z1,cond_false,h2,decide_eq_false z2,cond_false,decide_eq_false z3,cond_false,hw,decide_eq_false z4,cond_false,decide_eq_false z5,cond_false,show (decide (0≤digD s)&&decide (digD s≤(s.length:Int))) = true by simp;omega,cond_true,h3,yoMy]
    show k (digD s) (anyS (s.take (digD s).toNat)) = _
    have:anyS (s.take (digD s).toNat) = false:=by
     cases hq:anyS (s.take (digD s).toNat) with
     | false=>rfl
     | true =>
      exfalso
      apply hc
      unfold yaEy
      rw [hp,hq,decide_eq_true (show s.length≤10 by omega)]
      simp [inBx];omega
    rw [this,hc']
 obtain ⟨d,h0,h⟩:=hsp
 show ygLy ydEy s k = _
 unfold ygLy
 rw [h]
 cases hb:yaEy s with
 | false=>rfl
 | true =>
  obtain rfl:=h0 hb
  have hd2:=yhEy hb
  have hw:w64 (digD s + 1) = digD s + 1:=yaZy (by omega) (by omega)
  have hg:(decide (0≤digD s + 1)&&decide (digD s + 1≤(s.length:Int))) = true:=by simp;omega
  rw [Bool.not_true,cond_false,hw,hg]
  rfl
theorem z70z_g {s:List UInt8} (hs:ascB s) (hl:s.length≤1000000) (hb:yaEy s = true) (R:Type) (k:G_Parts→Option R):z70z s k = k (ybSy s):=by
 have h1:∀ k:Int→Option R,yqsy.R_baseAt s k = k (baseG s):=fun k=>ykEy hs hl R k
 have hd:=ytmy s
 have hd2:=yhEy hb
 have hbg:baseG s = digD s:=by unfold baseG;rw [hb];rfl
 have hw:w64 (digD s + 1) = digD s + 1:=yaZy (by omega) (by omega)
 have hg:(decide (0≤digD s + 1)&&decide (digD s + 1≤(s.length:Int))) = true:=by simp;omega
 show z70z_ yqsy s k = _
 unfold z70z_
 rw [h1,hbg,hw,hg]
 rfl
theorem ysey (s:List UInt8):decide (baseG s < 0) = !yaEy s:=by
 unfold baseG
 cases hb:yaEy s with
 | false=>rfl
 | true =>
  have:=yhEy hb
  rw [cond_true,decide_eq_false (by omega)];rfl
theorem yBZy (s:List UInt8):decide (baseG s ≥ 0) = yaEy s:=by
 unfold baseG
 cases hb:yaEy s with
 | false=>rfl
 | true =>
  have:=yhEy hb
  rw [cond_true,decide_eq_true (by omega)]
def ycay (s:List UInt8):Bool:=decide (s.length≤4)&&(ycny s&&anyS s)
theorem z64z_g {s:List UInt8} (hl:s.length≤1000000) (R:Type) (k:Bool→Option R):z64z s k = k (ycay s):=by
 have h1:∀ k:Int→Bool→Option R,yqPy.z30z s k = bif ycny s then k (letN s:Int) true else k 0 false:=fun k=>z30z_g hl R k
 show z64z_ yqPy s k = _
 unfold z64z_ ycay
 rw [h1]
 cases hp:ycny s with
 | false=>simp
 | true =>
  rw [cond_true,cond_true,yoMy]
  show (bif anyS s then k (decide ((s.length:Int)≤4)) else k false) = _
  have hd:decide ((s.length:Int)≤4) = decide (s.length≤4):=by
   by_cases h:s.length≤4
   ·rw [decide_eq_true h,decide_eq_true (by omega)]
   ·rw [decide_eq_false h,decide_eq_false (by omega)]
  rw [hd]
  cases anyS s <;> cases decide (s.length≤4) <;> rfl
theorem yr3y {s:List UInt8} (hl:s.length≤1000000) (R:Type) (k:Bool→Option R):R_begin s k = k (ycay s):=by
 have h1:∀ k:Bool→Option R,yiKy.R_plain s 1 4 k = k (inBx (s.length:Int) 1 4&&(ycny s&&anyS s)):=fun k=>yrUy hl 1 4 R k
 show yiKy.R_plain s 1 4 (fun r=>k r) = _
 rw [h1]
 unfold ycay inBx
 congr 1
 cases ha:anyS s with
 | false=>simp
 | true =>
  have hpos:0 < s.length:=by
   obtain ⟨x,hx,_⟩:=List.any_eq_true.1 ha
   exact List.length_pos_of_mem hx
  rw [decide_eq_true (show (1:Int)≤(s.length:Int) by omega),Bool.true_and]
  by_cases h:s.length≤4
  ·rw [decide_eq_true h,decide_eq_true (show (s.length:Int)≤4 by omega)]
  ·rw [decide_eq_false h,decide_eq_false (show ¬ (s.length:Int)≤4 by omega)]
def tailG (b:List UInt8):Option (Int×List UInt8) :=
 if b == [112] then some (3,[]) else if b == [109] then some (4,[]) else if b == [109,109] then some (5,[]) else if b == [97,109] then some (6,[]) else
 bif (b.length == 1)&&b.all (fun x=>digS.contains x) then some (2,b) else bif ycay b then some (1,b) else none
theorem ywvy {b:List UInt8} (hl:b.length≤1000000) (R:Type) (k:Int→List UInt8→Bool→Option R):∃ n a,call_tail b k = k ((tailG b).elim n (·.1)) ((tailG b).elim a (·.2)) (tailG b).isSome:=by
 have h1:∀ k:Bool→Option R,yevy.z64z b k = k (ycay b):=fun k=>z64z_g hl R k
 refine ⟨1,b,?_⟩
 show yhJy yevy b k = _
 unfold yhJy tailG
 cases b == [112] with
 | true=>rfl
 | false =>
  cases b == [109] with
  | true=>rfl
  | false =>
   cases b == [109,109] with
   | true=>rfl
   | false =>
    cases b == [97,109] with
    | true=>rfl
    | false =>
     simp only [cond_false,Bool.false_eq_true,if_false]
     cases h2:(b.length:Int) == 1 with
     | false =>
      have:(b.length == 1) = false:=by
       rw [beq_eq_false_iff_ne] at h2 ⊢
       omega
      rw [this,cond_false,h1]
      cases ycay b <;> rfl
     | true =>
      have h3:(b.length == 1) = true:=by
       rw [beq_iff_eq] at h2 ⊢
       omega
      obtain ⟨x,rfl⟩:∃ x,b = [x]:=by
       match b,beq_iff_eq.1 h3 with
       | [x],_=>exact ⟨x,rfl⟩
      have hx:x.toNat < 256:=x.toNat_lt
      have hs:digS.contains x = (bif decide ((x.toNat:Int) ≥ 48) then decide ((x.toNat:Int)≤57) else false):=by
       have:∀ x:Fin 256,digS.contains (UInt8.ofNat x) = (bif decide (((UInt8.ofNat x).toNat:Int) ≥ 48) then decide (((UInt8.ofNat x).toNat:Int)≤57) else false):=by decide +kernel
       have:=this ⟨x.toNat,hx⟩
       simpa using this
      have l2:∀ k:Bool→Option R,yevy.z80z (x.toNat:Int) k = k (digS.contains x):=fun k=>by
       show (bif decide ((x.toNat:Int) ≥ 48) then k (decide ((x.toNat:Int)≤57)) else k false) = _
       rw [hs]
       cases decide ((x.toNat:Int) ≥ 48) <;> rfl
      have ha:∀ k:UInt8→Option R,at_ [x] 0 k = k x:=fun k=>ycyy (i:=0) rfl k
      rw [cond_true,ha,l2,h1,h3]
      have e:([x].all fun x=>digS.contains x) = digS.contains x:=by simp
      rw [e]
      cases digS.contains x with
      | true=>rfl
      | false=>cases ycay [x] <;> rfl
end Go.Am
set_option linter.unusedVariables false
set_option linter.unusedSectionVars false
set_option linter.unusedSimpArgs false
set_option maxRecDepth 100000
namespace Go.Am
open Go Go.Proofs
variable [Fuel]
theorem yABy {s:List UInt8} (c:UInt8) (hl:s.length≤1000000) (R:Type) (k:List UInt8→List UInt8→Bool→Option R):z15z s [c] k = k (cutB c s).1 (cutB c s).2.1 (cutB c s).2.2:=by
 have h1:∀ k:Int→Option R,yqVy.stringslite_Index s [c] k = k (Lib.indexByte s c):=fun k=>rfl
 show z15z_ yqVy s [c] k = _
 unfold z15z_
 rw [h1,yj6y]
 cases h:s.contains c with
 | false=>rw [yg9y c s h];rfl
 | true =>
  obtain ⟨i,e1,e2,e3,e4⟩:=ydCy c s h
  rw [ydFy c s i e3 e4,e1,cond_true]
  have hw:w64 ((i:Int) + ((([c]:List UInt8).length:Nat):Int)) = ((i + 1:Nat):Int):=yapy (show i < 4611686018427387904 by omega)
  have g1:(true&&decide ((i:Int)≤(s.length:Int))) = true:=by simp;omega
  have g2:(decide (0≤((i + 1:Nat):Int))&&decide (((i + 1:Nat):Int)≤(s.length:Int))) = true:=by simp;omega
  rw [g1,cond_true,hw,g2,cond_true]
  rfl
theorem Cut_g {s:List UInt8} (c:UInt8) (hl:s.length≤1000000) (R:Type) (k:List UInt8→List UInt8→Bool→Option R):z22z s [c] k = k (cutB c s).1 (cutB c s).2.1 (cutB c s).2.2:=yABy c hl R k
def ykRy (p:G_Parts) (n:Int) (a:List UInt8):G_Parts:=⟨p.f_Base,p.f_Prefix,p.f_Suffix,n,a⟩
def yfpy (s:List UInt8):Option G_Parts :=
 if s.length > 14 then none else
 bif !(cutB 47 s).2.2 then (bif yaEy s then some (ybSy s) else none) else
 bif yaEy (cutB 47 s).2.1&&ycay (cutB 47 s).1 then some (ykRy (ybSy (cutB 47 s).2.1) 1 (cutB 47 s).1) else
 bif yaEy (cutB 47 s).1 then (tailG (cutB 47 s).2.1).map fun t=>ykRy (ybSy (cutB 47 s).1) t.1 t.2 else none
theorem yocy (c:UInt8) (s:List UInt8):(cutB c s).2.2 = s.contains c:=by
 cases h:s.contains c with
 | false=>rw [yg9y c s h]
 | true =>
  obtain ⟨i,e1,e2,e3,e4⟩:=ydCy c s h
  rw [ydFy c s i e3 e4]
theorem ywKy {s:List UInt8} (h:(cutB 47 s).2.2 = true):yaEy s = false:=by
 rw [yocy] at h
 cases hb:yaEy s with
 | false=>rfl
 | true =>
  exfalso
  unfold yaEy at hb
  simp only [Bool.and_eq_true] at hb
  have:=List.all_eq_true.1 hb.1 47 (by simpa using h)
  revert this
  decide
theorem yvqy {s:List UInt8} (hl:s.length≤1000000) (R:Type) (k:G_Parts→Bool→Option R):call_Parts s k = (yfpy s).elim (k ya5y false) fun p=>k p true:=by
 have hcl:=(yiay 47 s).1
 have h1:∀ k:G_Parts→Bool→Option R,ybhy.call_based s k = bif yaEy s then k (ybSy s) true else k ya5y false:=fun k=>yiry hl R k
 have h2:∀ k:List UInt8→List UInt8→Bool→Option R,ybhy.z22z s [47] k = k (cutB 47 s).1 (cutB 47 s).2.1 (cutB 47 s).2.2:=fun k=>Cut_g 47 hl R k
 have h3:∀ k:G_Parts→Bool→Option R,ybhy.call_based (cutB 47 s).2.1 k = bif yaEy (cutB 47 s).2.1 then k (ybSy (cutB 47 s).2.1) true else k ya5y false:=fun k=>yiry (by omega) R k
 have h4:∀ k:G_Parts→Bool→Option R,ybhy.call_based (cutB 47 s).1 k = bif yaEy (cutB 47 s).1 then k (ybSy (cutB 47 s).1) true else k ya5y false:=fun k=>yiry (by omega) R k
 have h5:∀ k:Bool→Option R,ybhy.z64z (cutB 47 s).1 k = k (ycay (cutB 47 s).1):=fun k=>z64z_g (by omega) R k
 show ygPy ybhy s k = _
 unfold ygPy yfpy
 by_cases h14:s.length > 14
 ·rw [decide_eq_true (show (s.length:Int) > 14 by omega),if_pos h14];rfl
 rw [decide_eq_false (show ¬ (s.length:Int) > 14 by omega),if_neg h14,cond_false,h1]
 cases hc:(cutB 47 s).2.2 with
 | false =>
  rw [Bool.not_false,cond_true]
  cases yaEy s with
  | true=>rfl
  | false =>
   rw [cond_false,h2,hc];rfl
 | true =>
  rw [ywKy hc,cond_false,cond_false,h2,hc,Bool.not_true,cond_false,cond_false,h3]
  have key:(ybhy.call_based (cutB 47 s).1 fun r10 r11=>ybhy.call_tail (cutB 47 s).2.1 fun r12 r13 r14=>bif !r11 then k ya5y false else bif !r14 then k ya5y false else k ⟨r10.f_Base,r10.f_Prefix,r10.f_Suffix,r12,r13⟩ true) =
    ((bif yaEy (cutB 47 s).1 then (tailG (cutB 47 s).2.1).map fun t=>ykRy (ybSy (cutB 47 s).1) t.1 t.2 else none):Option G_Parts).elim (k ya5y false) fun p=>k p true:=by
   rw [h4]
   have ht:∀ k:Int→List UInt8→Bool→Option R,∃ n a,ybhy.call_tail (cutB 47 s).2.1 k = k ((tailG (cutB 47 s).2.1).elim n (·.1)) ((tailG (cutB 47 s).2.1).elim a (·.2)) (tailG (cutB 47 s).2.1).isSome:=fun k=>ywvy (by omega) R k
   cases yaEy (cutB 47 s).1 with
   | false =>
    rw [cond_false,cond_false]
    obtain ⟨n,a,e⟩:=ht (fun r12 r13 r14=>bif !false then k ya5y false else bif !r14 then k ya5y false else k ⟨ya5y.f_Base,ya5y.f_Prefix,ya5y.f_Suffix,r12,r13⟩ true)
    rw [e];rfl
   | true =>
    rw [cond_true,cond_true]
    obtain ⟨n,a,e⟩:=ht (fun r12 r13 r14=>bif !true then k ya5y false else bif !r14 then k ya5y false else k ⟨(ybSy (cutB 47 s).1).f_Base,(ybSy (cutB 47 s).1).f_Prefix,(ybSy (cutB 47 s).1).f_Suffix,r12,r13⟩ true)
    rw [e]
    cases tailG (cutB 47 s).2.1 <;> rfl
  cases hb:yaEy (cutB 47 s).2.1 with
  | false =>
   rw [cond_false,cond_false,Bool.false_and,cond_false]
   exact key
  | true =>
   rw [cond_true,cond_true,h5,Bool.true_and]
   cases ycay (cutB 47 s).1 with
   | false=>exact key
   | true=>rfl
theorem ywIy {s:List UInt8} (hs:ascB s) (hl:s.length≤1000000) (R:Type) (k:G_Parts→Bool→Option R):R_PartsOf s k = (yfpy s).elim (k ya5y false) fun p=>k p true:=by
 have hcl:=(yiay 47 s).1
 have hcm:=yv7y 47 s
 have sa:ascB (cutB 47 s).1:=fun x hx=>hs x (hcm.1 x hx)
 have sb:ascB (cutB 47 s).2.1:=fun x hx=>hs x (hcm.2 x hx)
 have h2:∀ k:List UInt8→List UInt8→Bool→Option R,ya8y.z22z s [47] k = k (cutB 47 s).1 (cutB 47 s).2.1 (cutB 47 s).2.2:=fun k=>Cut_g 47 hl R k
 have h3:∀ k:Int→Option R,ya8y.R_baseAt (cutB 47 s).2.1 k = k (baseG (cutB 47 s).2.1):=fun k=>ykEy sb (by omega) R k
 have h4:∀ k:Int→Option R,ya8y.R_baseAt (cutB 47 s).1 k = k (baseG (cutB 47 s).1):=fun k=>ykEy sa (by omega) R k
 have h5:∀ k:Bool→Option R,ya8y.R_begin (cutB 47 s).1 k = k (ycay (cutB 47 s).1):=fun k=>yr3y (by omega) R k
 have h6:∀ k:Bool→Option R,ya8y.R_begin (cutB 47 s).2.1 k = k (ycay (cutB 47 s).2.1):=fun k=>yr3y (by omega) R k
 show yhKy ya8y s k = _
 unfold yhKy yfpy
 rw [h2]
 by_cases h14:s.length > 14
 ·rw [decide_eq_true (show (s.length:Int) > 14 by omega),if_pos h14];rfl
 rw [decide_eq_false (show ¬ (s.length:Int) > 14 by omega),if_neg h14,cond_false]
 cases hc:(cutB 47 s).2.2 with
 | false =>
  have he:(cutB 47 s).1 = s:=by rw [yocy] at hc;rw [yg9y 47 s hc]
  rw [Bool.not_false,cond_true,cond_true,h4,he,ysey]
  cases hb:yaEy s with
  | false=>rfl
  | true =>
   have h7:∀ k:G_Parts→Option R,ya8y.z70z s k = k (ybSy s):=fun k=>z70z_g hs hl hb R k
   rw [Bool.not_true,cond_false,h7];rfl
 | true =>
  rw [Bool.not_true,cond_false,cond_false,h3,yBZy]
  generalize hkey:((bif yaEy (cutB 47 s).1 then (tailG (cutB 47 s).2.1).map fun t=>ykRy (ybSy (cutB 47 s).1) t.1 t.2 else none):Option G_Parts) = res
  have key:∀ g:C_R_PartsOf,g = ya8y→(g.R_baseAt (cutB 47 s).1 fun r15=>bif decide (r15 < 0) then k ya5y false else g.z70z (cutB 47 s).1 fun r16=>bif (cutB 47 s).2.1 == [112] then k ⟨r16.f_Base,r16.f_Prefix,r16.f_Suffix,3,r16.f_Added⟩ true else bif (cutB 47 s).2.1 == [109] then k ⟨r16.f_Base,r16.f_Prefix,r16.f_Suffix,4,r16.f_Added⟩ true else
    bif (cutB 47 s).2.1 == [109,109] then k ⟨r16.f_Base,r16.f_Prefix,r16.f_Suffix,5,r16.f_Added⟩ true else bif (cutB 47 s).2.1 == [97,109] then k ⟨r16.f_Base,r16.f_Prefix,r16.f_Suffix,6,r16.f_Added⟩ true else
    bif (((cutB 47 s).2.1.length:Int) == 1) then (g.strings_Contains digS (cutB 47 s).2.1 fun r12=>bif r12 then k ⟨r16.f_Base,r16.f_Prefix,r16.f_Suffix,2,(cutB 47 s).2.1⟩ true else g.R_begin (cutB 47 s).2.1 fun r13=>bif r13 then k ⟨r16.f_Base,r16.f_Prefix,r16.f_Suffix,1,(cutB 47 s).2.1⟩ true else k ya5y false) else
    (g.R_begin (cutB 47 s).2.1 fun r14=>bif r14 then k ⟨r16.f_Base,r16.f_Prefix,r16.f_Suffix,1,(cutB 47 s).2.1⟩ true else k ya5y false)) = res.elim (k ya5y false) fun p=>k p true:=by
   rintro g rfl
   subst hkey
   rw [h4,ysey]
   cases hb:yaEy (cutB 47 s).1 with
   | false=>rfl
   | true =>
    have h7:∀ k:G_Parts→Option R,ya8y.z70z (cutB 47 s).1 k = k (ybSy (cutB 47 s).1):=fun k=>z70z_g sa (by omega) hb R k
    rw [Bool.not_true,cond_false,h7,cond_true]
    generalize hB:(cutB 47 s).2.1 = b at h6
    unfold tailG
    cases b == [112] with
    | true=>rfl
    | false =>
     cases b == [109] with
     | true=>rfl
     | false =>
      cases b == [109,109] with
      | true=>rfl
      | false =>
       cases b == [97,109] with
       | true=>rfl
       | false =>
        simp only [cond_false,Bool.false_eq_true,if_false]
        cases h8:(b.length:Int) == 1 with
        | false =>
         have:(b.length == 1) = false:=by
          rw [beq_eq_false_iff_ne] at h8 ⊢
          omega
         rw [this,cond_false,h6]
         cases ycay b <;> rfl
        | true =>
         have h9:(b.length == 1) = true:=by
          rw [beq_iff_eq] at h8 ⊢
          omega
         obtain ⟨x,rfl⟩:∃ x,b = [x]:=by
          match b,beq_iff_eq.1 h9 with
          | [x],_=>exact ⟨x,rfl⟩
         have hct:∀ k:Bool→Option R,ya8y.strings_Contains digS [x] k = k (digS.contains x):=fun k=>by
          show k (decide (Lib.indexByte digS x ≥ 0)) = _
          rw [yj6y]
         rw [cond_true,hct,h6,h9]
         have e:([x].all fun x=>digS.contains x) = digS.contains x:=by simp
         rw [e]
         cases digS.contains x with
         | true=>rfl
         | false=>cases ycay [x] <;> rfl
  cases hb:yaEy (cutB 47 s).2.1 with
  | false =>
   rw [cond_false,Bool.false_and,cond_false]
   exact key _ rfl
  | true =>
   have h7:∀ k:G_Parts→Option R,ya8y.z70z (cutB 47 s).2.1 k = k (ybSy (cutB 47 s).2.1):=fun k=>z70z_g sb (by omega) hb R k
   rw [cond_true,h5,Bool.true_and]
   cases ycay (cutB 47 s).1 with
   | false=>exact key _ rfl
   | true=>rw [cond_true,cond_true,h7];rfl
def callG (s:List UInt8):Bool:=(yfpy s).isSome
theorem ymAy {s:List UInt8} (hl:s.length≤1000000) (R:Type) (k:Bool→Option R):call_Is s k = k (callG s):=by
 have h1:∀ k:G_Parts→Bool→Option R,yiMy.call_Parts s k = (yfpy s).elim (k ya5y false) fun p=>k p true:=fun k=>yvqy hl R k
 show yiMy.call_Parts s (fun r2 r3=>k r3) = _
 rw [h1]
 unfold callG
 cases yfpy s <;> rfl
theorem yDAy {s:List UInt8} (hs:ascB s) (hl:s.length≤1000000) (R:Type) (k:Bool→Option R):Q_Call s k = k (callG s):=by
 have h1:∀ k:G_Parts→Bool→Option R,ykzy.R_PartsOf s k = (yfpy s).elim (k ya5y false) fun p=>k p true:=fun k=>ywIy hs hl R k
 show ykzy.R_PartsOf s (fun r2 r3=>k r3) = _
 rw [h1]
 unfold callG
 cases yfpy s <;> rfl
end Go.Am
