/- The plain law, in Lean alone: T0, T1. No condition: lemmas for the claim. -/
import Derived.Test.YtmhbhdhddlbdlaaGreatDoorF1
import Derived.Test.YtmhbhdhddlbdlaaGreatDoorF2
import Derived.Test.YtmhbhdhddlbdlaaGreatDoorF3
import Derived.Test.YtmhbhdhddlbdlaaGreatDoorF4
import Derived.Test.YtmhbhdhddlbdlaaGreatDoorF5
import Derived.Test.YtmhbhdhddlbdlaaGreatDoorF6
import Derived.Test.YtmhbhdhddlbdlaaGreatDoorF7
import Derived.Test.YtmhbhdhddlbdlaaGreatDoorF8
import Derived.Test.YtmhbhdhddlbdlaaGreatDoorF9
import Derived.Test.YtmhbhdhddlbdlaaGreatDoorF10
import Derived.Test.YtmhbhdhddlbdlaaGreatDoorPlB1
set_option linter.unusedVariables false
set_option linter.unusedSectionVars false
set_option linter.unusedSimpArgs false
set_option maxRecDepth 100000
namespace Go.Am
open Go Go.Proofs
theorem yuVy (c:UInt8):∀ l:List UInt8,l.contains c = false→Lib.indexByte l c = -1
 | [],_=>rfl
 | b :: l,h=>by
  simp only [List.contains_cons,Bool.or_eq_false_iff] at h
  have hb:(b == c) = false:=by rw [beq_eq_false_iff_ne]; intro e; rw [e] at h; simp at h
  unfold Lib.indexByte
  rw [yuVy c l h.2,hb]
  rfl
theorem yemy (c:UInt8):∀ l:List UInt8,l.contains c = true→∃ i:Nat,Lib.indexByte l c = i∧i < l.length∧l[i]? = some c∧(l.take i).contains c = false
 | [],h=>by simp at h
 | b :: l,h=>by
  unfold Lib.indexByte
  cases hb:b == c with
  | true =>
   obtain rfl:b = c:=by simpa using hb
   exact ⟨0,rfl,by simp,rfl,rfl⟩
  | false =>
   have hc:l.contains c = true:=by
    simp only [List.contains_cons,Bool.or_eq_true] at h
    rcases h with h | h
    ·have:b = c:=by have:=beq_iff_eq.1 h; exact this.symm
     rw [this] at hb; simp at hb
    ·exact h
   obtain ⟨i,h1,h2,h3,h4⟩:=yemy c l hc
   refine ⟨i + 1,?_,by simpa using h2,by simpa using h3,?_⟩
   ·rw [h1]
    have:((i:Int) == -1) = false:=by rw [beq_eq_false_iff_ne]; omega
    simp [this]
   ·simp only [List.take_succ_cons,List.contains_cons,Bool.or_eq_false_iff]
    exact ⟨by rw [beq_eq_false_iff_ne]; intro e; rw [e] at hb; simp at hb,h4⟩
theorem ysby (l:List UInt8) (c:UInt8):decide (Lib.indexByte l c ≥ 0) = l.contains c:=by
 cases h:l.contains c with
 | false=>rw [yuVy c l h]; rfl
 | true =>
  obtain ⟨i,h1,_⟩:=yemy c l h
  rw [h1]
  simp
theorem yoJy (p:UInt8→Bool):∀ l:List UInt8,(l.dropWhile p == []) = l.all p
 | []=>rfl
 | b :: l=>by
  rw [List.dropWhile_cons,List.all_cons]
  cases h:p b with
  | true=>simpa using yoJy p l
  | false=>simp
theorem ymEy (p:UInt8→Bool) (l:List UInt8):l.dropWhile p = [] ↔ l.all p = true:=by
 rw [← yoJy]; simp
theorem yvNy (l cs:List UInt8):(Lib.trimS l cs == []) = l.all fun b=>cs.contains b:=by
 unfold Lib.trimS Lib.trimLeftS Lib.trimRightS
 rw [yoJy]
 cases h:l.all fun b=>cs.contains b with
 | true =>
  have h2:l.reverse.dropWhile (fun b=>cs.contains b) = []:=by rw [ymEy,List.all_reverse]; exact h
  rw [h2]; rfl
 | false =>
  rw [Bool.eq_false_iff]
  intro hh
  rw [List.all_reverse] at hh
  have h5:l.reverse.dropWhile (fun b=>cs.contains b) = []:=by
   rw [ymEy,List.all_eq_true]
   intro x hx
   rw [← List.takeWhile_append_dropWhile (p:=fun b=>cs.contains b) (l:=l.reverse),List.mem_append] at hx
   rcases hx with hx | hx
   ·exact List.all_eq_true.1 List.all_takeWhile x hx
   ·exact List.all_eq_true.1 hh x hx
  rw [ymEy,List.all_reverse,h] at h5
  cases h5
theorem yhuy (cs:List UInt8):∀ l:List UInt8,-1≤lastAny l cs∧lastAny l cs < (l.length:Int)
 | []=>⟨Int.le_refl _,by simp [lastAny]⟩
 | x :: l=>by
  have ih:=yhuy cs l
  have hl:((x :: l).length:Int) = (l.length:Int) + 1:=by simp
  unfold lastAny
  rw [hl]
  split
  ·split <;> omega
  ·omega
def cutB (c:UInt8):List UInt8→List UInt8×List UInt8×Bool
 | []=>([],[],false)
 | b :: l=>if b == c then ([],l,true) else let q:=cutB c l; (b :: q.1,q.2.1,q.2.2)
theorem yiCy (c:UInt8):∀ l:List UInt8,l.contains c = false→cutB c l = (l,[],false)
 | [],_=>rfl
 | b :: l,h=>by
  simp only [List.contains_cons,Bool.or_eq_false_iff] at h
  have hb:(b == c) = false:=by rw [beq_eq_false_iff_ne]; intro e; rw [e] at h; simp at h
  unfold cutB
  rw [hb,yiCy c l h.2]
  rfl
theorem ycLy (c:UInt8):∀ (l:List UInt8) (i:Nat),l[i]? = some c→(l.take i).contains c = false→cutB c l = (l.take i,l.drop (i + 1),true)
 | [],i,h,_=>by simp at h
 | b :: l,0,h,_=>by
  simp only [List.getElem?_cons_zero,Option.some.injEq] at h
  subst h
  simp [cutB]
 | b :: l,i + 1,h,hn=>by
  simp only [List.take_succ_cons,List.contains_cons,Bool.or_eq_false_iff] at hn
  have hb:(b == c) = false:=by rw [beq_eq_false_iff_ne]; intro e; rw [e] at hn; simp at hn
  have ih:=ycLy c l i (by simpa using h) hn.2
  unfold cutB
  rw [hb,ih]
  simp
theorem yoHy (c:UInt8):∀ l:List UInt8,(cutB c l).1.length + (cutB c l).2.1.length≤l.length∧((cutB c l).2.2 = true→(cutB c l).1.length + (cutB c l).2.1.length + 1 = l.length)
 | []=>⟨by simp [cutB],fun h=>by simp [cutB] at h⟩
 | b :: l=>by
  have ih:=yoHy c l
  unfold cutB
  split
  ·exact ⟨by simp,fun _=>by simp⟩
  ·refine ⟨by simp; omega,fun h=>?_⟩
   have:=ih.2 h
   simp; omega
def yaky (c:UInt8):List UInt8→List (List UInt8)
 | []=>[[]]
 | b :: l=>if b == c then [] :: yaky c l else match yaky c l with | []=>[[b]] | w :: ws=>(b :: w) :: ws
theorem yyfy (c b:UInt8) (l:List UInt8):yaky c (b :: l) = if b == c then [] :: yaky c l else match yaky c l with | []=>[[b]] | w :: ws=>(b :: w) :: ws:=rfl
theorem yC4y (c b:UInt8) (l:List UInt8):cutB c (b :: l) = if b == c then ([],l,true) else (b :: (cutB c l).1,(cutB c l).2.1,(cutB c l).2.2):=rfl
theorem yiAy (c:UInt8) (l:List UInt8):yaky c l ≠ []:=by
 cases l with
 | nil=>simp [yaky]
 | cons b l =>
  unfold yaky
  split
  ·simp
  ·split <;> simp
theorem yeZy (c:UInt8):∀ l:List UInt8,yaky c l = bif (cutB c l).2.2 then (cutB c l).1 :: yaky c (cutB c l).2.1 else [l]
 | []=>rfl
 | b :: l=>by
  have ih:=yeZy c l
  rw [yyfy,yC4y]
  cases hb:b == c with
  | true=>rfl
  | false =>
   simp only [Bool.false_eq_true,if_false]
   rw [ih]
   cases h2:(cutB c l).2.2 <;> rfl
theorem ydty (c:UInt8):∀ l:List UInt8,(yaky c l).length = l.count c + 1
 | []=>rfl
 | b :: l=>by
  have ih:=ydty c l
  unfold yaky
  cases hb:b == c with
  | true =>
   obtain rfl:b = c:=by simpa using hb
   simp [ih]
  | false =>
   have hne:b ≠ c:=by simpa using hb
   rw [List.count_cons_of_ne hne]
   simp only [Bool.false_eq_true,if_false]
   split
   ·rename_i h; exact absurd h (yiAy c l)
   ·rename_i w ws h
    rw [h] at ih
    simpa using ih
theorem ykpy (c:UInt8):∀ l:List UInt8,∀ w ∈ yaky c l,∀ x ∈ w,x ∈ l∧x ≠ c
 | []=>fun w h x hx=>by simp [yaky] at h; subst h; cases hx
 | b :: l=>fun w h x hx=>by
  have ih:=ykpy c l
  unfold yaky at h
  cases hb:b == c with
  | true =>
   rw [hb] at h
   simp only [if_true,List.mem_cons] at h
   rcases h with rfl | h
   ·cases hx
   ·exact ⟨List.mem_cons_of_mem _ (ih w h x hx).1,(ih w h x hx).2⟩
  | false =>
   have hne:b ≠ c:=by simpa using hb
   rw [hb] at h
   simp only [Bool.false_eq_true,if_false] at h
   split at h
   ·rename_i h0; exact absurd h0 (yiAy c l)
   ·rename_i v vs h0
    rw [h0] at ih
    simp only [List.mem_cons] at h
    rcases h with rfl | h
    ·rcases List.mem_cons.1 hx with rfl | hx
     ·exact ⟨List.mem_cons_self,hne⟩
     ·exact ⟨List.mem_cons_of_mem _ (ih v (by simp) x hx).1,(ih v (by simp) x hx).2⟩
    ·exact ⟨List.mem_cons_of_mem _ (ih w (by simp [h]) x hx).1,(ih w (by simp [h]) x hx).2⟩
theorem ykjy (c:UInt8):∀ l:List UInt8,∀ w ∈ yaky c l,w.length≤l.length
 | []=>fun w h=>by simp [yaky] at h; subst h; exact Nat.le_refl _
 | b :: l=>fun w h=>by
  have ih:=ykjy c l
  unfold yaky at h
  split at h
  ·simp only [List.mem_cons] at h
   rcases h with rfl | h
   ·simp
   ·have:=ih w h; simp; omega
  ·split at h
   ·simp only [List.mem_cons,List.not_mem_nil,or_false] at h; subst h; simp
   ·rename_i v vs h0
    rw [h0] at ih
    simp only [List.mem_cons] at h
    rcases h with rfl | h
    ·have:=ih v (by simp); simp; omega
    ·have:=ih w (by simp [h]); simp; omega
end Go.Am
set_option linter.unusedVariables false
set_option linter.unusedSectionVars false
set_option linter.unusedSimpArgs false
set_option maxRecDepth 100000
namespace Go.Am
open Go Go.Proofs
variable [Fuel]
def ascB (s:List UInt8):Prop:=∀ x ∈ s,x.toNat < 128
abbrev ybZy:List UInt8:=[97,98,99,100,101,102,103,104,105,106,107,108,109,110,111,112,113,114,115,116,117,118,119,120,121,122]
abbrev digS:List UInt8:=[48,49,50,51,52,53,54,55,56,57]
abbrev ymmy:List UInt8:=[97,98,99,100,101,102,103,104,105,106,107,108,109,110,111,112,113,114,115,116,117,118,119,120,121,122,48,49,50,51,52,53,54,55,56,57]
theorem yzCy (x:UInt8):((x.toNat:Int)).toNat.toUInt8 = x:=by
 simp
theorem yCVy (x:UInt8):IntKind.i32.wrap (x.toNat:Int) = (x.toNat:Int):=by
 have h:∀ x:Fin 256,IntKind.i32.wrap (((UInt8.ofNat x).toNat:Nat):Int) = (((UInt8.ofNat x).toNat:Nat):Int):=by decide +kernel
 have:=h ⟨x.toNat,x.toNat_lt⟩
 simpa using this
theorem yKhy {a cs:List UInt8} (ha:a.length≤1000000) (hc:(decide (cs.length < 4294967281) && yfhy cs) = true) (R:Type) (k:List UInt8→Option R):strings_Trim a cs k = k (Lib.trimS a cs):=by
 show (bif decide (a.length≤9223372036854775807) && (decide (cs.length < 4294967281) && yfhy cs) then _ else none) = _
 rw [hc,decide_eq_true (by omega)]
 rfl
theorem ymry (d:List UInt8) (hl:d.length≤1000000):∀ (xs:List UInt8) (n i c:Nat),d.drop i = xs→xs.length < n→c≤i→∀ (R:Type) (e0:Int→Bool→Option R) (e1:Int→Option R),
  z39z_L2 ydZy n d (c:Int) (d.length:Int) (i:Int) e0 e1 = bif xs.all (fun b=>ymmy.contains b) then e1 ((c + xs.countP (fun b=>ybZy.contains b):Nat):Int) else e0 0 false
 | _,0,_,_,_,h,_,_,_,_=>by omega
 | [],n + 1,i,c,h,_,_,R,e0,e1=>by rw [z39z_L2,ybqy h]; rfl
 | x :: cs,n + 1,i,c,h,hn,hc,R,e0,e1=>by
  have h':=yaqy h
  have hn':=Nat.lt_of_succ_lt_succ (by simpa only [List.length_cons] using hn)
  have ih:=fun c hc=>ymry d hl cs n (i + 1) c h'.2.2.1 hn' hc R e0 e1
  have hx:x.toNat < 256:=x.toNat_lt
  have hs:ybZy.contains x = (bif decide ((x.toNat:Int) ≥ 97) then decide ((x.toNat:Int)≤122) else false):=by
   have:∀ x:Fin 256,ybZy.contains (UInt8.ofNat x) = (bif decide (((UInt8.ofNat x).toNat:Int) ≥ 97) then decide (((UInt8.ofNat x).toNat:Int)≤122) else false):=by decide +kernel
   have:=this ⟨x.toNat,hx⟩
   simpa using this
  have hp:ymmy.contains x = (ybZy.contains x || bif decide ((x.toNat:Int) ≥ 48) then decide ((x.toNat:Int)≤57) else false):=by
   have:∀ x:Fin 256,ymmy.contains (UInt8.ofNat x) = (ybZy.contains (UInt8.ofNat x) || bif decide (((UInt8.ofNat x).toNat:Int) ≥ 48) then decide (((UInt8.ofNat x).toNat:Int)≤57) else false):=by decide +kernel
   have:=this ⟨x.toNat,hx⟩
   simpa using this
  have l1:∀ k:Bool→Option R,ydZy.z88z (x.toNat:Int) k = k (ybZy.contains x):=fun k=>by
   show (bif decide ((x.toNat:Int) ≥ 97) then k (decide ((x.toNat:Int)≤122)) else k false) = _
   rw [hs]
   cases decide ((x.toNat:Int) ≥ 97) <;> rfl
  have l2:∀ k:Bool→Option R,ydZy.z82z (x.toNat:Int) k = k (bif decide ((x.toNat:Int) ≥ 48) then decide ((x.toNat:Int)≤57) else false):=fun k=>by
   show (bif decide ((x.toNat:Int) ≥ 48) then k (decide ((x.toNat:Int)≤57)) else k false) = _
   cases decide ((x.toNat:Int) ≥ 48) <;> rfl
  have hlt:=h'.1
  rw [z39z_L2,ybdy h,cond_true,ya2y h,l1,ya2y h,l2,yauy (show i < 4611686018427387904 by omega),yauy (show c < 4611686018427387904 by omega),ih (c + 1) (by omega),ih c (by omega),List.all_cons,hp,List.countP_cons]
  cases hsx:ybZy.contains x with
  | true =>
   simp only [cond_true,Bool.true_or,Bool.true_and,if_true]
   rw [show c + 1 + cs.countP (fun b=>ybZy.contains b) = c + (cs.countP (fun b=>ybZy.contains b) + 1) by omega]
  | false =>
   simp only [cond_false,Bool.false_or,Bool.false_eq_true,if_false,Nat.add_zero]
   cases bif decide ((x.toNat:Int) ≥ 48) then decide ((x.toNat:Int)≤57) else false <;> rfl
def yfay (s:List UInt8):Bool:=s.all fun b=>ymmy.contains b
def letN (s:List UInt8):Nat:=s.countP fun b=>ybZy.contains b
theorem z39z_g {s:List UInt8} (hl:s.length≤1000000) (R:Type) (k:Int→Bool→Option R):z39z s k = bif yfay s then k (letN s:Int) true else k 0 false:=by
 show z39z_L2 ydZy NN s ((0:Nat):Int) (s.length:Int) ((0:Nat):Int) (fun a b=>k a b) (fun a=>k a true) = _
 refine (ymry s hl s NN 0 0 rfl (by have:=NN_ok; omega) (Nat.le_refl _) R _ _).trans ?_
 rw [Nat.zero_add]; rfl
theorem yo3y (s:List UInt8):decide ((letN s:Int) > 0) = s.any fun b=>ybZy.contains b:=by
 unfold letN
 cases h:s.any fun b=>ybZy.contains b with
 | true =>
  obtain ⟨x,hx,hp⟩:=List.any_eq_true.1 h
  have:0 < s.countP (fun b=>ybZy.contains b):=List.countP_pos_iff.2 ⟨x,hx,hp⟩
  rw [decide_eq_true (by omega)]
 | false =>
  have:s.countP (fun b=>ybZy.contains b) = 0:=by
   rw [List.countP_eq_zero]
   intro x hx
   have:=List.any_eq_false.1 h x hx
   simpa using this
  rw [this]; rfl
theorem ywZy {s:List UInt8} {x:UInt8} (h:s.getLast? = some x) (hx:x.toNat < 128) (hl:s.length≤1000000) (R:Type) (k:Int→Int→Option R):z8z s k = k (x.toNat:Int) 1:=by
 have hne:s ≠ []:=by rintro rfl; cases h
 have hpos:0 < s.length:=List.length_pos_iff.2 hne
 have hg:s[s.length - 1]? = some x:=by rw [← h,List.getLast?_eq_getElem?]
 have h0:((s.length:Int) == 0) = false:=by rw [beq_eq_false_iff_ne]; omega
 have hw:w64 ((s.length:Int) - 1) = ((s.length - 1:Nat):Int):=yf8y (by omega) hpos
 show z8z_ I_z8z s k = _
 unfold z8z_
 rw [h0,cond_false,hw,yesy hg,yCVy,decide_eq_true (by omega),cond_true]
theorem ymKy (cs:List UInt8) (x:UInt8):∀ l:List UInt8,lastAny (l ++ [x]) cs = if cs.contains x then (l.length:Int) else lastAny l cs
 | []=>by
  show (if lastAny [] cs == -1 then (if cs.contains x then (0:Int) else -1) else lastAny [] cs + 1) = _
  rfl
 | y :: l=>by
  have ih:=ymKy cs x l
  have hge:=yhuy cs l
  show (if lastAny (l ++ [x]) cs == -1 then (if cs.contains y then (0:Int) else -1) else lastAny (l ++ [x]) cs + 1) = _
  rw [ih]
  cases cs.contains x with
  | true =>
   have:((l.length:Int) == -1) = false:=by rw [beq_eq_false_iff_ne]; omega
   simp [this]
  | false=>rfl
theorem yvXy (d cs:List UInt8) (hd:ascB d) (hl:d.length≤1000000):∀ (i n:Nat),i≤d.length→i < n→∀ (R:Type) (e0:Int→Option R) (e1:Option R),
  z4z_L31 I_z4z n d cs (i:Int) e0 e1 = bif decide (lastAny (d.take i) cs ≥ 0) then e0 (lastAny (d.take i) cs) else e1
 | _,0,_,h,_,_,_=>by omega
 | 0,n + 1,_,_,R,e0,e1=>by rw [z4z_L31]; rfl
 | i + 1,n + 1,hi,hn,R,e0,e1=>by
  have hlt:i < d.length:=hi
  obtain ⟨x,hx⟩:∃ x,d[i]? = some x:=⟨_,List.getElem?_eq_getElem hlt⟩
  have htk:d.take (i + 1) = d.take i ++ [x]:=by
   rw [List.take_add_one,hx]; rfl
  have hxa:=hd x (List.mem_of_getElem? hx)
  have ih:=yvXy d cs hd hl i n (by omega) (by omega) R e0 e1
  have h1:∀ k:Int→Int→Option R,I_z4z.z8z (d.take (i + 1)) k = k (x.toNat:Int) 1:=fun k=>ywZy (by rw [htk]; simp) hxa (by rw [List.length_take]; omega) R k
  have h2:∀ k:Int→Option R,I_z4z.strings_IndexRune cs (x.toNat:Int) k = k (Lib.indexByte cs x):=fun k=>by
   show (bif decide ((0:Int)≤(x.toNat:Int)) && decide ((x.toNat:Int) < 128) then k (Lib.indexByte cs ((x.toNat:Int)).toNat.toUInt8) else none) = _
   rw [decide_eq_true (by omega),decide_eq_true (by omega),yzCy]; rfl
  have hg:(decide (0≤((i + 1:Nat):Int)) && decide (((i + 1:Nat):Int)≤(d.length:Int))) = true:=by simp; omega
  have hw:w64 (((i + 1:Nat):Int) - 1) = (i:Int):=by rw [yayy (by omega) (by omega)]; omega
  rw [z4z_L31,decide_eq_true (show ((i + 1:Nat):Int) > 0 by omega),cond_true,hg,cond_true]
  rw [show (((i + 1:Nat):Int)).toNat = i + 1 by omega,h1,h2,hw,ih,ysby,htk,ymKy]
  have hlen:((d.take i).length:Int) = (i:Int):=by rw [List.length_take]; omega
  cases cs.contains x with
  | true =>
   simp only [cond_true,if_true]
   rw [hlen,decide_eq_true (show (i:Int) ≥ 0 by omega)]; rfl
  | false=>rfl
theorem LIA_g {s:List UInt8} (hs:ascB s) (hl:s.length≤1000000) (R:Type) (k:Int→Option R):z3z s digS k = k (lastAny s digS):=by
 show (bif decide (8 < s.length) then (bif longB s digS then k (lastAny s digS) else none) else z4z s digS k) = _
 cases h8:decide (8 < s.length) with
 | true =>
  have:longB s digS = true:=by
   unfold longB
   rw [decide_eq_true (show s.length < 4294967281 by omega)]
   decide
  rw [this]; rfl
 | false =>
  have h8':s.length≤8:=by simpa using h8
  rw [cond_false]
  show z4z_ I_z4z s digS k = _
  unfold z4z_
  have hd:(digS == []) = false:=rfl
  rw [hd,cond_false]
  cases h1:(s.length:Int) == 1 with
  | true =>
   have hl1:s.length = 1:=by have:=beq_iff_eq.1 h1; omega
   obtain ⟨x,rfl⟩:∃ x,s = [x]:=by
    match s,hl1 with
    | [x],_=>exact ⟨x,rfl⟩
   have hxa:=hs x (by simp)
   have h2:∀ k:Int→Option R,I_z4z.strings_IndexRune digS (x.toNat:Int) k = k (Lib.indexByte digS x):=fun k=>by
    show (bif decide ((0:Int)≤(x.toNat:Int)) && decide ((x.toNat:Int) < 128) then k (Lib.indexByte digS ((x.toNat:Int)).toNat.toUInt8) else none) = _
    rw [decide_eq_true (by omega),decide_eq_true (by omega),yzCy]; rfl
   have ha:∀ k:UInt8→Option R,at_ [x] 0 k = k x:=fun k=>yaOy (i:=0) rfl k
   rw [cond_true,ha,yCVy,decide_eq_false (show ¬ ((x.toNat:Int) ≥ 128) by omega),cond_false,h2,ysby]
   have e:lastAny [x] digS = if digS.contains x then (0:Int) else -1:=rfl
   rw [e]
   cases digS.contains x <;> rfl
  | false =>
   have h3:∀ k:Bool→Option R,I_z4z.strings_shouldUseASCIISet (s.length:Int) k = k false:=fun k=>by
    show k (decide ((s.length:Int) > 8)) = _
    rw [decide_eq_false (by omega)]
   have h4:((digS.length:Int) == 1) = false:=rfl
   rw [cond_false,h3,cond_false,h4,cond_false]
   refine (yvXy s digS hs hl s.length NN (Nat.le_refl _) (by have:=NN_ok; omega) R (fun e=>k e) (k (-1))).trans ?_
   rw [List.take_length]
   have:=yhuy digS s
   by_cases h:lastAny s digS ≥ 0
   ·rw [decide_eq_true h]; rfl
   ·rw [decide_eq_false h,cond_false]
    congr 1; omega
end Go.Am
