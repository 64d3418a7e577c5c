/- The plain law, in Lean alone: S1, C1, E1. No condition: lemmas for the claim. -/
import Derived.Test.YtmhbhdhddlbdlaaGreatDoorF1
import Derived.Test.YtmhbhdhddlbdlaaGreatDoorF2
import Derived.Test.YtmhbhdhddlbdlaaGreatDoorF3
import Derived.Test.YtmhbhdhddlbdlaaGreatDoorF4
import Derived.Test.YtmhbhdhddlbdlaaGreatDoorF5
import Derived.Test.YtmhbhdhddlbdlaaGreatDoorF6
import Derived.Test.YtmhbhdhddlbdlaaGreatDoorF7
import Derived.Test.YtmhbhdhddlbdlaaGreatDoorF8
import Derived.Test.YtmhbhdhddlbdlaaGreatDoorF9
import Derived.Test.YtmhbhdhddlbdlaaGreatDoorF10
import Derived.Test.YtmhbhdhddlbdlaaGreatDoorPlB1
set_option linter.unusedVariables false
set_option linter.unusedSectionVars false
set_option linter.unusedSimpArgs false
set_option maxRecDepth 100000
namespace Go.Am
open Go Go.Proofs
variable [Fuel]
def SOk (b:Int) (s:G_Stream):Prop:=0≤s.f_at∧s.f_at≤b
theorem SOk.mono {a b:Int} {s:G_Stream} (h:SOk a s) (hab:a≤b):SOk b s:=⟨h.1,Int.le_trans h.2 hab⟩
theorem sOk0 (l:List Int):SOk 0 ⟨l,0⟩:=⟨Int.le_refl _,Int.le_refl _⟩
theorem yg2y (x n:Int) (hn:n≤1099511627776):∃ r,0≤r∧(1≤n→r < n)∧(n < 1→r = 0)∧∀ (R:Type) (k:Int→Option R),M_Below x n k = k r:=by
 unfold M_Below yo6y
 by_cases h:n < 1
 ·exact ⟨0,Int.le_refl _,fun h'=>by omega,fun _=>rfl,fun R k=>by simp [h]⟩
 ·have h0:(n == 0) = false:=by simp; omega
  have hb1:=Int.tmod_lt_of_pos x (show 0 < n by omega)
  have hb2:-n < Int.tmod x n:=by
   rcases Int.lt_or_le x 0 with hx | hx
   ·have h1:=Int.tmod_lt_of_pos (-x) (show 0 < n by omega)
    rw [Int.neg_tmod] at h1
    omega
   ·have:=Int.tmod_nonneg n hx
    omega
  by_cases h2:Int.tmod x n < 0
  ·refine ⟨Int.tmod x n + n,by omega,fun _=>by omega,fun h'=>by omega,fun R k=>?_⟩
   rw [yayy (by omega) (by omega)]
   simp [h,h0,h2]
  ·exact ⟨Int.tmod x n,by omega,fun _=>hb1,fun h'=>by omega,fun R k=>by simp [h,h0,h2]⟩
theorem z51z_gives {b:Int} {s:G_Stream} (hs:SOk b s) (n:Int) (hb:b≤1099511627776) (hn:n≤1099511627776) :
  ∃ r s',0≤r∧(1≤n→r < n)∧SOk (b + 1) s'∧∀ (R:Type) (k:Int→G_Stream→Option R),z51z s n k = k r s':=by
 obtain ⟨l,a⟩:=s
 obtain ⟨ha,ha2⟩:=hs
 simp only at ha ha2
 have e1:w64 (a + 1) = a + 1:=yayy (by omega) (by omega)
 have e2:w64 (a + 1 - 1) = a:=by rw [yayy (by omega) (by omega)]; omega
 have hso:SOk (b + 1) ⟨l,a + 1⟩:=⟨by simp only; omega,by simp only; omega⟩
 simp only [z51z,z51z_,ywAy,e1,e2]
 cases l with
 | nil =>
  obtain ⟨r,h1,h2,h3,h4⟩:=yg2y (w64 ((a + 1) * 7919)) n hn
  exact ⟨r,_,h1,h2,hso,fun R k=>by simp [h4]⟩
 | cons x xs =>
  have hlen:(0:Int) < ((x :: xs).length:Int):=by rw [List.length_cons]; omega
  have hne:(((x :: xs).length:Int) == 0) = false:=by rw [beq_eq_false_iff_ne]; omega
  have h0:=Int.tmod_nonneg ((x :: xs).length:Int) ha
  have hlt:=Int.tmod_lt_of_pos a hlen
  obtain ⟨y,hy⟩:∃ y,(x :: xs)[(Int.tmod a ((x :: xs).length:Int)).toNat]? = some y:=⟨_,List.getElem?_eq_getElem (by omega)⟩
  obtain ⟨r1,_,_,_,g4⟩:=yg2y y 1073741824 (by omega)
  obtain ⟨r,h1,h2,h3,h4⟩:=yg2y (w64 (r1 + w64 (w64 (Int.tdiv a ((x :: xs).length:Int)) * w64 (7919 + Int.tmod a ((x :: xs).length:Int))))) n hn
  refine ⟨r,_,h1,h2,hso,fun R k=>?_⟩
  simp only [hne,cond_false,get_,h0,decide_true,cond_true,yvJy hy,g4,h4]
theorem z69z_gives {b:Int} {s:G_Stream} (hs:SOk b s) (lo hi:Int) (hb:b≤1099511627776) (h1:-1099511627776≤lo) (h2:hi≤1099511627776) (h3:lo≤hi) (h4:hi - lo≤1099511627775) :
  ∃ r s',lo≤r∧r≤hi∧SOk (b + 1) s'∧∀ (R:Type) (k:Int→G_Stream→Option R),z69z s lo hi k = k r s':=by
 have e:w64 (w64 (hi - lo) + 1) = hi - lo + 1:=by
  rw [yayy (x:=hi - lo) (by omega) (by omega),yayy (by omega) (by omega)]
 obtain ⟨r,s',g1,g2,g4,g3⟩:=z51z_gives hs (hi - lo + 1) hb (by omega)
 have:=g2 (by omega)
 refine ⟨lo + r,s',by omega,by omega,g4,fun R k=>?_⟩
 have hd:decide (hi < lo) = false:=by simp; omega
 simp only [z69z,z69z_,ywKy,hd,cond_false,e,g3]
 rw [yayy (by omega) (by omega)]
theorem z73z_gives {b:Int} {s:G_Stream} (hs:SOk b s) (xs:List Int) (hb:b≤1099511627776) (hx:xs ≠ []) (hl:xs.length≤1000) :
  ∃ r s',r ∈ xs∧SOk (b + 1) s'∧∀ (R:Type) (k:Int→G_Stream→Option R),z73z s xs k = k r s':=by
 obtain ⟨r,s',g1,g2,g4,g3⟩:=z51z_gives hs (xs.length:Int) hb (by omega)
 have hpos:0 < xs.length:=List.length_pos_iff.2 hx
 have:=g2 (by omega)
 have hlt:r.toNat < xs.length:=by omega
 refine ⟨xs[r.toNat],s',List.getElem_mem hlt,g4,fun R k=>?_⟩
 simp only [z73z,z73z_,yvDy,g3,get_,g1,decide_true,cond_true,yvJy (List.getElem?_eq_getElem hlt)]
theorem z70z_gives {b:Int} {s:G_Stream} (hs:SOk b s) (xs:List (List UInt8)) (hb:b≤1099511627776) (hx:xs ≠ []) (hl:xs.length≤1000) :
  ∃ r s',r ∈ xs∧SOk (b + 1) s'∧∀ (R:Type) (k:List UInt8→G_Stream→Option R),z70z s xs k = k r s':=by
 obtain ⟨r,s',g1,g2,g4,g3⟩:=z51z_gives hs (xs.length:Int) hb (by omega)
 have hpos:0 < xs.length:=List.length_pos_iff.2 hx
 have:=g2 (by omega)
 have hlt:r.toNat < xs.length:=by omega
 refine ⟨xs[r.toNat],s',List.getElem_mem hlt,g4,fun R k=>?_⟩
 simp only [z70z,z70z_,ywTy,g3,get_,g1,decide_true,cond_true,yvJy (List.getElem?_eq_getElem hlt)]
theorem z63z_gives {b:Int} {s:G_Stream} (hs:SOk b s) (n:Int) (hb:b≤1099511627776) (hn:n≤1099511627776) :
  ∃ f s',SOk (b + 1) s'∧∀ (R:Type) (k:Bool→G_Stream→Option R),z63z s n k = k f s':=by
 obtain ⟨r,s',g1,g2,g4,g3⟩:=z51z_gives hs n hb hn
 exact ⟨r == 0,s',g4,fun R k=>by simp only [z63z,z63z_,ywGy,g3]⟩
def ydOy:List (List UInt8):=[[],[107,49],[75,49,65,66],[107,49,97,98,47],[49,97],[107,49,97,98,47,109,109,47,112],[107,49,97,98],[107,49,97,97],[107,49,97,98,47,52],[111,104,50,97,98,99],[111,104,50,97,98,100],[119,49,97,119],[110,49,109,109],[103,51,120,121,122,47,112]]
theorem ymVy {α:Type} [BEq α] [LawfulBEq α] {xs ys:List α} {x:α} (h:x ∈ xs) (hs:xs.all (fun y=>ys.contains y) = true):x ∈ ys:=by
 have:=List.all_eq_true.1 hs x h
 simpa using this
theorem z75z_gives {b:Int} {s:G_Stream} (hs:SOk b s) (hb:b≤1099511627000) :
  ∃ r s',r ∈ ydOy∧SOk (b + 2) s'∧∀ (R:Type) (k:List UInt8→G_Stream→Option R),z75z s k = k r s':=by
 obtain ⟨f,s1,h1,e1⟩:=z63z_gives hs 60 (by omega) (by omega)
 cases f with
 | true =>
  obtain ⟨r,s2,hr,h2,e2⟩:=z70z_gives h1 [[],[107,49],[75,49,65,66],[107,49,97,98,47],[49,97],[107,49,97,98,47,109,109,47,112]] (by omega) (by simp) (by simp)
  exact ⟨r,s2,ymVy hr (by decide +kernel),h2.mono (by omega),fun R k=>by simp only [z75z,z75z_,yrby,e1,cond_true,e2]⟩
 | false =>
  obtain ⟨r,s2,hr,h2,e2⟩:=z70z_gives h1 [[107,49,97,98],[107,49,97,97],[107,49,97,98,47,52],[111,104,50,97,98,99],[111,104,50,97,98,100],[119,49,97,119],[110,49,109,109],[103,51,120,121,122,47,112]] (by omega) (by simp) (by simp)
  exact ⟨r,s2,ymVy hr (by decide +kernel),h2.mono (by omega),fun R k=>by simp only [z75z,z75z_,yrby,e1,cond_false,e2]⟩
theorem yhSy {b:Int} {s:G_Stream} (hs:SOk b s) (lo hi:Int) (hb:b≤1099511627000) (h1:-1000000000000≤lo) (h2:hi≤1000000000000) (h3:lo≤hi) (h4:hi - lo≤1000000000000) :
  ∃ r s',-1099511627776≤r∧r≤1099511627776∧SOk (b + 2) s'∧∀ (R:Type) (k:Int→G_Stream→Option R),Stream_Odd s lo hi k = k r s':=by
 obtain ⟨f,s1,g1,e1⟩:=z63z_gives hs 12 (by omega) (by omega)
 cases f with
 | true =>
  obtain ⟨r,s2,hr,g2,e2⟩:=z73z_gives g1 [lo - 1,hi + 1,lo,hi,-1099511627776,1099511627776] (by omega) (by simp) (by simp)
  refine ⟨r,s2,?_,?_,g2.mono (by omega),fun R k=>?_⟩
  ·simp only [List.mem_cons,List.not_mem_nil,or_false] at hr; omega
  ·simp only [List.mem_cons,List.not_mem_nil,or_false] at hr; omega
  ·simp only [Stream_Odd,ygvy,yeOy,e1,cond_true]
   rw [yayy (x:=lo - 1) (by omega) (by omega),yayy (x:=hi + 1) (by omega) (by omega),e2]
 | false =>
  obtain ⟨r,s2,r1,r2,g2,e2⟩:=z69z_gives g1 lo hi (by omega) (by omega) (by omega) h3 (by omega)
  exact ⟨r,s2,by omega,by omega,g2.mono (by omega),fun R k=>by simp only [Stream_Odd,ygvy,yeOy,e1,cond_false,e2]⟩
abbrev Mid (x:Int):Prop:=-2199023255552≤x∧x≤2199023255552
end Go.Am
set_option linter.unusedVariables false
set_option linter.unusedSectionVars false
set_option linter.unusedSimpArgs false
set_option maxRecDepth 100000
namespace Go.Am
open Go Go.Proofs
variable [Fuel]
theorem ygPy (a b:List UInt8) (R:Type) (k:Int→Option R):strings_Compare a b k = k (Lib.compareBytes a b):=rfl
theorem z14z_is (a b:Int) (R:Type) (k:Int→Option R):z14z a b k = k (cmpI a b):=by
 have h1:(a != a) = false:=by simp
 have h2:(b != b) = false:=by simp
 simp only [z14z,z14z_,yp5y,z71z,z71z_,h1,h2,cond_false,cmpI]
 cases decide (a < b) <;> cases decide (a > b) <;> rfl
theorem yoiy (l:List Int) (hl:l.length < 1000000):∀ (xs:List Int) (n i:Nat),l.drop i = xs→xs.length < n→∀ (R:Type) (k:Int→Option R),
  z20z_L3 NN n 0 l (l.length:Int) (i:Int) (fun e8 e9=>k e8) (fun e10=>k e10) = k (orL xs)
 | _,0,_,_,h,_,_=>by omega
 | [],n + 1,i,h,_,_,_=>by rw [z20z_L3,ybqy h]; rfl
 | x :: xs,n + 1,i,h,hn,R,k=>by
  have h':=yaqy h
  rw [z20z_L3,ybdy h]
  simp only [cond_true,ya2y h,orL]
  cases hx:x != 0 with
  | true=>rfl
  | false =>
   simp only [cond_false]
   rw [yauy (by omega)]
   exact yoiy l hl xs n (i + 1) h'.2.2.1 (by simp at hn; omega) R k
theorem z20z_is (l:List Int) (hl:l.length < 1000000) (R:Type) (k:Int→Option R):z20z l k = k (orL l) :=
 yoiy l hl l NN 0 rfl (by have:=NN_ok; omega) R k
noncomputable def keyB (s:List UInt8):Bool:=(kit_IsKey s some).getD false
noncomputable def callB (s:List UInt8):Bool:=(call_Is s some).getD false
def yu7y (a b:Option Bool):Bool:=match a,b with | some x,some y=>x == y | _,_=>false
theorem yDBy {a b:Option Bool} (h:yu7y a b = true):a = some (a.getD false)∧b = some (a.getD false):=by
 unfold yu7y at h
 split at h
 ·simp at h; subst h; exact ⟨rfl,rfl⟩
 ·cases h
theorem yn2y {a:Option Bool} (h:a.isSome = true):a = some (a.getD false):=by
 cases a with
 | none=>cases h
 | some x=>rfl
theorem yBGy:ydOy.all (fun s=>(call_Is s some).isSome) = true:=by
 obtain ⟨m,h,rfl⟩:=ybey ‹Fuel›
 kernel_rfl
theorem yE6y:ydOy.all (fun s=>yu7y (call_Is s some) (Q_Call s some)) = true:=by
 obtain ⟨m,h,rfl⟩:=ybey ‹Fuel›
 kernel_rfl
theorem yqYy {s:List UInt8} (h:s ∈ ydOy) (R:Type) (k:Bool→Option R):call_Is s k = k (callB s) :=
 yoCy ydEy.na (args:=[.d (.str s)]) (F:=@call_Is _ s) (fun _ _=>rfl) (yn2y (List.all_eq_true.1 yBGy s h)) R k
theorem ysMy {s:List UInt8} (h:s ∈ ydOy) (R:Type) (k:Bool→Option R):Q_Call s k = k (callB s) :=
 yoCy ymOy.na (args:=[.d (.str s)]) (F:=@Q_Call _ s) (fun _ _=>rfl) (yDBy (List.all_eq_true.1 yE6y s h)).2 R k
def inB (n lo hi:Int):Bool:=bif decide (lo≤n) then decide (n≤hi) else false
theorem yB5y {n lo hi:Int}:inB n lo hi = true ↔ lo≤n∧n≤hi:=by
 unfold inB
 by_cases h:lo≤n <;> simp [h]
theorem z45z_is (n lo hi:Int) (R:Type) (k:Bool→Option R):z45z n lo hi k = k (!inB n lo hi):=by
 unfold z45z z45z_ inB
 by_cases h1:n < lo
 ·have h2:¬ lo≤n:=by omega
  rw [decide_eq_true h1,decide_eq_false h2]; rfl
 ·have h2:lo≤n:=by omega
  rw [decide_eq_false h1,decide_eq_true h2]
  simp only [cond_false,cond_true]
  congr 1
  by_cases h3:n≤hi
  ·rw [decide_eq_true h3,decide_eq_false (show ¬ n > hi by omega)]; rfl
  ·rw [decide_eq_false h3,decide_eq_true (show n > hi by omega)]; rfl
theorem yyDy (n lo hi:Int) (R:Type) (k:Bool→Option R):Q_in n lo hi k = k (inB n lo hi):=by
 unfold Q_in Q_in_ inB
 cases decide (lo≤n) <;> rfl
def momB (x:Int):Bool:=inB x 0 345686399999
theorem z49z_is (x:Int) (R:Type) (k:Bool→Option R):z49z x k = k (momB x):=by
 simp only [z49z,z49z_,ywwy,z45z_is,Bool.not_not,momB]
theorem ylmy (x:Int) (R:Type) (k:Bool→Option R):kit_IsMode x k = k (inB x 1 3):=by
 simp only [kit_IsMode,yi3y,yhVy,z45z_is,Bool.not_not]
theorem yxMy (x:Int) (R:Type) (k:Bool→Option R):Q_Moment x k = k (momB x):=by
 simp only [Q_Moment,yl2y,yj8y,yyDy,momB]
def ydiy {α:Type} (d:List α) (i:Nat) (p:Option α):Prop:=match p with | none=>i = 0 | some q=>0 < i∧∃ xs,d.drop (i - 1) = q :: xs
theorem ydYy {α:Type} {d:List α} {i:Nat} {c:α} {cs:List α} (h:d.drop i = c :: cs):ydiy d (i + 1) (some c):=⟨by omega,cs,h⟩
end Go.Am
set_option linter.unusedVariables false
set_option linter.unusedSectionVars false
set_option linter.unusedSimpArgs false
set_option maxRecDepth 100000
namespace Go.Am
open Go Go.Proofs
variable [Fuel]
end Go.Am
