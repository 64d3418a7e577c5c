/- The plain law, in Lean alone: S1, C1, C2, E1. No condition: lemmas for the claim. -/
import Derived.Test.YtnlblmnoiepeaaaGreatDoorF1
import Derived.Test.YtnlblmnoiepeaaaGreatDoorF2
import Derived.Test.YtnlblmnoiepeaaaGreatDoorF3
import Derived.Test.YtnlblmnoiepeaaaGreatDoorF4
import Derived.Test.YtnlblmnoiepeaaaGreatDoorF5
import Derived.Test.YtnlblmnoiepeaaaGreatDoorF6
import Derived.Test.YtnlblmnoiepeaaaGreatDoorF7
import Derived.Test.YtnlblmnoiepeaaaGreatDoorF8
import Derived.Test.YtnlblmnoiepeaaaGreatDoorF9
import Derived.Test.YtnlblmnoiepeaaaGreatDoorF10
import Derived.Test.YtnlblmnoiepeaaaGreatDoorF11
import Derived.Test.YtnlblmnoiepeaaaGreatDoorF12
import Derived.Test.YtnlblmnoiepeaaaGreatDoorF13
import Derived.Test.YtnlblmnoiepeaaaGreatDoorPlB1
import Derived.Test.YtnlblmnoiepeaaaGreatDoorPlB4
import Derived.Test.YtnlblmnoiepeaaaGreatDoorPlK
set_option linter.unusedVariables false
set_option linter.unusedSectionVars false
set_option linter.unusedSimpArgs false
set_option maxRecDepth 100000
namespace Go.Am
open Go Go.Proofs
variable [Fuel]
def SOk (b:Int) (s:G_Stream):Prop:=0≤s.f_at∧s.f_at≤b
theorem SOk.mono {a b:Int} {s:G_Stream} (h:SOk a s) (hab:a≤b):SOk b s:=⟨h.1,Int.le_trans h.2 hab⟩
theorem sOk0 (l:List Int):SOk 0 ⟨l,0⟩:=⟨Int.le_refl _,Int.le_refl _⟩
theorem yhsy (x n:Int) (hn:n≤1099511627776):∃ r,0≤r∧(1≤n→r < n)∧(n < 1→r = 0)∧∀ (R:Type) (k:Int→Option R),M_Below x n k = k r:=by
 unfold M_Below yqay
 by_cases h:n < 1
 ·exact ⟨0,Int.le_refl _,fun h'=>by omega,fun _=>rfl,fun R k=>by simp [h]⟩
 ·have h0:(n == 0) = false:=by simp; omega
  have hb1:=Int.tmod_lt_of_pos x (show 0 < n by omega)
  have hb2:-n < Int.tmod x n:=by
   rcases Int.lt_or_le x 0 with hx | hx
   ·have h1:=Int.tmod_lt_of_pos (-x) (show 0 < n by omega)
    rw [Int.neg_tmod] at h1
    omega
   ·have:=Int.tmod_nonneg n hx
    omega
  by_cases h2:Int.tmod x n < 0
  ·refine ⟨Int.tmod x n + n,by omega,fun _=>by omega,fun h'=>by omega,fun R k=>?_⟩
   rw [yaqy (by omega) (by omega)]
   simp [h,h0,h2]
  ·exact ⟨Int.tmod x n,by omega,fun _=>hb1,fun h'=>by omega,fun R k=>by simp [h,h0,h2]⟩
theorem z72z_gives {b:Int} {s:G_Stream} (hs:SOk b s) (n:Int) (hb:b≤1099511627776) (hn:n≤1099511627776) :
  ∃ r s',0≤r∧(1≤n→r < n)∧SOk (b + 1) s'∧∀ (R:Type) (k:Int→G_Stream→Option R),z72z s n k = k r s':=by
 obtain ⟨l,a⟩:=s
 obtain ⟨ha,ha2⟩:=hs
 simp only at ha ha2
 have e1:w64 (a + 1) = a + 1:=yaqy (by omega) (by omega)
 have e2:w64 (a + 1 - 1) = a:=by rw [yaqy (by omega) (by omega)]; omega
 have hso:SOk (b + 1) ⟨l,a + 1⟩:=⟨by simp only; omega,by simp only; omega⟩
 simp only [z72z,z72z_,yyWy,e1,e2]
 cases l with
 | nil =>
  obtain ⟨r,h1,h2,h3,h4⟩:=yhsy (w64 ((a + 1) * 7919)) n hn
  exact ⟨r,_,h1,h2,hso,fun R k=>by simp [h4]⟩
 | cons x xs =>
  have hlen:(0:Int) < ((x :: xs).length:Int):=by rw [List.length_cons]; omega
  have hne:(((x :: xs).length:Int) == 0) = false:=by rw [beq_eq_false_iff_ne]; omega
  have h0:=Int.tmod_nonneg ((x :: xs).length:Int) ha
  have hlt:=Int.tmod_lt_of_pos a hlen
  obtain ⟨y,hy⟩:∃ y,(x :: xs)[(Int.tmod a ((x :: xs).length:Int)).toNat]? = some y:=⟨_,List.getElem?_eq_getElem (by omega)⟩
  obtain ⟨r1,_,_,_,g4⟩:=yhsy y 1073741824 (by omega)
  obtain ⟨r,h1,h2,h3,h4⟩:=yhsy (w64 (r1 + w64 (w64 (Int.tdiv a ((x :: xs).length:Int)) * w64 (7919 + Int.tmod a ((x :: xs).length:Int))))) n hn
  refine ⟨r,_,h1,h2,hso,fun R k=>?_⟩
  simp only [hne,cond_false,get_,h0,decide_true,cond_true,ywYy hy,g4,h4]
theorem z71z_gives {b:Int} {s:G_Stream} (hs:SOk b s) (lo hi:Int) (hb:b≤1099511627776) (h1:-1099511627776≤lo) (h2:hi≤1099511627776) (h3:lo≤hi) (h4:hi - lo≤1099511627775) :
  ∃ r s',lo≤r∧r≤hi∧SOk (b + 1) s'∧∀ (R:Type) (k:Int→G_Stream→Option R),z71z s lo hi k = k r s':=by
 have e:w64 (w64 (hi - lo) + 1) = hi - lo + 1:=by
  rw [yaqy (x:=hi - lo) (by omega) (by omega),yaqy (by omega) (by omega)]
 obtain ⟨r,s',g1,g2,g4,g3⟩:=z72z_gives hs (hi - lo + 1) hb (by omega)
 have:=g2 (by omega)
 refine ⟨lo + r,s',by omega,by omega,g4,fun R k=>?_⟩
 have hd:decide (hi < lo) = false:=by simp; omega
 simp only [z71z,z71z_,yyLy,hd,cond_false,e,g3]
 rw [yaqy (by omega) (by omega)]
theorem z84z_gives {b:Int} {s:G_Stream} (hs:SOk b s) (xs:List Int) (hb:b≤1099511627776) (hx:xs ≠ []) (hl:xs.length≤1000) :
  ∃ r s',r ∈ xs∧SOk (b + 1) s'∧∀ (R:Type) (k:Int→G_Stream→Option R),z84z s xs k = k r s':=by
 obtain ⟨r,s',g1,g2,g4,g3⟩:=z72z_gives hs (xs.length:Int) hb (by omega)
 have hpos:0 < xs.length:=List.length_pos_iff.2 hx
 have:=g2 (by omega)
 have hlt:r.toNat < xs.length:=by omega
 refine ⟨xs[r.toNat],s',List.getElem_mem hlt,g4,fun R k=>?_⟩
 simp only [z84z,z84z_,ywxy,g3,get_,g1,decide_true,cond_true,ywYy (List.getElem?_eq_getElem hlt)]
theorem z80z_gives {b:Int} {s:G_Stream} (hs:SOk b s) (xs:List (List UInt8)) (hb:b≤1099511627776) (hx:xs ≠ []) (hl:xs.length≤1000) :
  ∃ r s',r ∈ xs∧SOk (b + 1) s'∧∀ (R:Type) (k:List UInt8→G_Stream→Option R),z80z s xs k = k r s':=by
 obtain ⟨r,s',g1,g2,g4,g3⟩:=z72z_gives hs (xs.length:Int) hb (by omega)
 have hpos:0 < xs.length:=List.length_pos_iff.2 hx
 have:=g2 (by omega)
 have hlt:r.toNat < xs.length:=by omega
 refine ⟨xs[r.toNat],s',List.getElem_mem hlt,g4,fun R k=>?_⟩
 simp only [z80z,z80z_,ywKy,g3,get_,g1,decide_true,cond_true,ywYy (List.getElem?_eq_getElem hlt)]
theorem z69z_gives {b:Int} {s:G_Stream} (hs:SOk b s) (n:Int) (hb:b≤1099511627776) (hn:n≤1099511627776) :
  ∃ f s',SOk (b + 1) s'∧∀ (R:Type) (k:Bool→G_Stream→Option R),z69z s n k = k f s':=by
 obtain ⟨r,s',g1,g2,g4,g3⟩:=z72z_gives hs n hb hn
 exact ⟨r == 0,s',g4,fun R k=>by simp only [z69z,z69z_,ywHy,g3]⟩
def yfly:List (List UInt8):=[[],[107,49],[75,49,65,66],[107,49,97,98,47],[49,97],[107,49,97,98,47,109,109,47,112],[107,49,97,98],[107,49,97,97],[107,49,97,98,47,52],[111,104,50,97,98,99],[111,104,50,97,98,100],[119,49,97,119],[110,49,109,109],[103,51,120,121,122,47,112]]
theorem yn7y {α:Type} [BEq α] [LawfulBEq α] {xs ys:List α} {x:α} (h:x ∈ xs) (hs:xs.all (fun y=>ys.contains y) = true):x ∈ ys:=by
 have:=List.all_eq_true.1 hs x h
 simpa using this
theorem z89z_gives {b:Int} {s:G_Stream} (hs:SOk b s) (hb:b≤1099511627000) :
  ∃ r s',r ∈ yfly∧SOk (b + 2) s'∧∀ (R:Type) (k:List UInt8→G_Stream→Option R),z89z s k = k r s':=by
 obtain ⟨f,s1,h1,e1⟩:=z69z_gives hs 60 (by omega) (by omega)
 cases f with
 | true =>
  obtain ⟨r,s2,hr,h2,e2⟩:=z80z_gives h1 [[],[107,49],[75,49,65,66],[107,49,97,98,47],[49,97],[107,49,97,98,47,109,109,47,112]] (by omega) (by simp) (by simp)
  exact ⟨r,s2,yn7y hr (by decide +kernel),h2.mono (by omega),fun R k=>by simp only [z89z,z89z_,yscy,e1,cond_true,e2]⟩
 | false =>
  obtain ⟨r,s2,hr,h2,e2⟩:=z80z_gives h1 [[107,49,97,98],[107,49,97,97],[107,49,97,98,47,52],[111,104,50,97,98,99],[111,104,50,97,98,100],[119,49,97,119],[110,49,109,109],[103,51,120,121,122,47,112]] (by omega) (by simp) (by simp)
  exact ⟨r,s2,yn7y hr (by decide +kernel),h2.mono (by omega),fun R k=>by simp only [z89z,z89z_,yscy,e1,cond_false,e2]⟩
theorem yh9y {b:Int} {s:G_Stream} (hs:SOk b s) (lo hi:Int) (hb:b≤1099511627000) (h1:-1000000000000≤lo) (h2:hi≤1000000000000) (h3:lo≤hi) (h4:hi - lo≤1000000000000) :
  ∃ r s',-1099511627776≤r∧r≤1099511627776∧SOk (b + 2) s'∧∀ (R:Type) (k:Int→G_Stream→Option R),Stream_Odd s lo hi k = k r s':=by
 obtain ⟨f,s1,g1,e1⟩:=z69z_gives hs 12 (by omega) (by omega)
 cases f with
 | true =>
  obtain ⟨r,s2,hr,g2,e2⟩:=z84z_gives g1 [lo - 1,hi + 1,lo,hi,-1099511627776,1099511627776] (by omega) (by simp) (by simp)
  refine ⟨r,s2,?_,?_,g2.mono (by omega),fun R k=>?_⟩
  ·simp only [List.mem_cons,List.not_mem_nil,or_false] at hr; omega
  ·simp only [List.mem_cons,List.not_mem_nil,or_false] at hr; omega
  ·simp only [Stream_Odd,ygyy,ye9y,e1,cond_true]
   rw [yaqy (x:=lo - 1) (by omega) (by omega),yaqy (x:=hi + 1) (by omega) (by omega),e2]
 | false =>
  obtain ⟨r,s2,r1,r2,g2,e2⟩:=z71z_gives g1 lo hi (by omega) (by omega) (by omega) h3 (by omega)
  exact ⟨r,s2,by omega,by omega,g2.mono (by omega),fun R k=>by simp only [Stream_Odd,ygyy,ye9y,e1,cond_false,e2]⟩
abbrev Mid (x:Int):Prop:=-2199023255552≤x∧x≤2199023255552
end Go.Am
set_option linter.unusedVariables false
set_option linter.unusedSectionVars false
set_option linter.unusedSimpArgs false
set_option maxRecDepth 100000
namespace Go.Am
open Go Go.Proofs
variable [Fuel]
theorem yhcy (a b:List UInt8) (R:Type) (k:Int→Option R):strings_Compare a b k = k (Lib.compareBytes a b):=rfl
theorem z25z_is (a b:Int) (R:Type) (k:Int→Option R):z25z a b k = k (cmpI a b):=by
 have h1:(a != a) = false:=by simp
 have h2:(b != b) = false:=by simp
 simp only [z25z,z25z_,yq5y,z81z,z81z_,h1,h2,cond_false,cmpI]
 cases decide (a < b) <;> cases decide (a > b) <;> rfl
theorem ypsy (l:List Int) (hl:l.length < 1000000):∀ (xs:List Int) (n i:Nat),l.drop i = xs→xs.length < n→∀ (R:Type) (k:Int→Option R),
  z35z_L3 NN n 0 l (l.length:Int) (i:Int) (fun e8 e9=>k e8) (fun e10=>k e10) = k (orL xs)
 | _,0,_,_,h,_,_=>by omega
 | [],n + 1,i,h,_,_,_=>by rw [z35z_L3,ybgy h]; rfl
 | x :: xs,n + 1,i,h,hn,R,k=>by
  have h':=yamy h
  rw [z35z_L3,ya4y h]
  simp only [cond_true,ybJy h,orL]
  cases hx:x != 0 with
  | true=>rfl
  | false =>
   simp only [cond_false]
   rw [yaAy (by omega)]
   exact ypsy l hl xs n (i + 1) h'.2.2.1 (by simp at hn; omega) R k
theorem z35z_is (l:List Int) (hl:l.length < 1000000) (R:Type) (k:Int→Option R):z35z l k = k (orL l) :=
 ypsy l hl l NN 0 rfl (by have:=NN_ok; omega) R k
noncomputable def keyB (s:List UInt8):Bool:=(kit_IsKey s some).getD false
noncomputable def callB (s:List UInt8):Bool:=(call_Is s some).getD false
def yvMy (a b:Option Bool):Bool:=match a,b with | some x,some y=>x == y | _,_=>false
theorem yDVy {a b:Option Bool} (h:yvMy a b = true):a = some (a.getD false)∧b = some (a.getD false):=by
 unfold yvMy at h
 split at h
 ·simp at h; subst h; exact ⟨rfl,rfl⟩
 ·cases h
theorem yjoy {a:Option Bool} (h:a.isSome = true):a = some (a.getD false):=by
 cases a with
 | none=>cases h
 | some x=>rfl
theorem yFOy:yfly.all (fun s=>(call_Is s some).isSome) = true:=by
 obtain ⟨m,h,rfl⟩:=ya1y ‹Fuel›
 kernel_rfl
theorem yGzy:yfly.all (fun s=>yvMy (call_Is s some) (Q_Call s some)) = true:=by
 obtain ⟨m,h,rfl⟩:=ya1y ‹Fuel›
 kernel_rfl
theorem ysNy {s:List UInt8} (h:s ∈ yfly) (R:Type) (k:Bool→Option R):call_Is s k = k (callB s) :=
 ylFy ydFy.na (args:=[.d (.str s)]) (F:=@call_Is _ s) (fun _ _=>rfl) (yjoy (List.all_eq_true.1 yFOy s h)) R k
theorem ytXy {s:List UInt8} (h:s ∈ yfly) (R:Type) (k:Bool→Option R):Q_Call s k = k (callB s) :=
 ylFy ymEy.na (args:=[.d (.str s)]) (F:=@Q_Call _ s) (fun _ _=>rfl) (yDVy (List.all_eq_true.1 yGzy s h)).2 R k
def inB (n lo hi:Int):Bool:=bif decide (lo≤n) then decide (n≤hi) else false
theorem ygOy {n lo hi:Int}:inB n lo hi = true ↔ lo≤n∧n≤hi:=by
 unfold inB
 by_cases h:lo≤n <;> simp [h]
theorem z45z_is (n lo hi:Int) (R:Type) (k:Bool→Option R):z45z n lo hi k = k (!inB n lo hi):=by
 unfold z45z z45z_ inB
 by_cases h1:n < lo
 ·have h2:¬ lo≤n:=by omega
  rw [decide_eq_true h1,decide_eq_false h2]; rfl
 ·have h2:lo≤n:=by omega
  rw [decide_eq_false h1,decide_eq_true h2]
  simp only [cond_false,cond_true]
  congr 1
  by_cases h3:n≤hi
  ·rw [decide_eq_true h3,decide_eq_false (show ¬ n > hi by omega)]; rfl
  ·rw [decide_eq_false h3,decide_eq_true (show n > hi by omega)]; rfl
theorem yApy (n lo hi:Int) (R:Type) (k:Bool→Option R):Q_in n lo hi k = k (inB n lo hi):=by
 unfold Q_in Q_in_ inB
 cases decide (lo≤n) <;> rfl
def momB (x:Int):Bool:=inB x 0 345686399999
theorem z62z_is (x:Int) (R:Type) (k:Bool→Option R):z62z x k = k (momB x):=by
 simp only [z62z,z62z_,yy7y,z45z_is,Bool.not_not,momB]
theorem yhuy (x:Int) (R:Type) (k:Bool→Option R):kit_IsMode x k = k (inB x 1 3):=by
 simp only [kit_IsMode,yjry,yh7y,z45z_is,Bool.not_not]
theorem yzuy (x:Int) (R:Type) (k:Bool→Option R):Q_Moment x k = k (momB x):=by
 simp only [Q_Moment,ymRy,ylwy,yApy,momB]
def ydmy {α:Type} (d:List α) (i:Nat) (p:Option α):Prop:=match p with | none=>i = 0 | some q=>0 < i∧∃ xs,d.drop (i - 1) = q :: xs
theorem yd5y {α:Type} {d:List α} {i:Nat} {c:α} {cs:List α} (h:d.drop i = c :: cs):ydmy d (i + 1) (some c):=⟨by omega,cs,h⟩
end Go.Am
set_option linter.unusedVariables false
set_option linter.unusedSectionVars false
set_option linter.unusedSimpArgs false
set_option maxRecDepth 100000
namespace Go.Am
open Go Go.Proofs
variable [Fuel]
end Go.Am
set_option linter.unusedVariables false
set_option linter.unusedSectionVars false
set_option linter.unusedSimpArgs false
set_option maxRecDepth 100000
namespace Go.Am
open Go Go.Proofs
variable [Fuel]
end Go.Am
