/- The plain law, in Lean alone: S1, C1, C2, E1. No condition: lemmas for the claim. -/
import Derived.Test.YtkcbebmbmffkjaaGreatDoorF1
import Derived.Test.YtkcbebmbmffkjaaGreatDoorF2
import Derived.Test.YtkcbebmbmffkjaaGreatDoorF3
import Derived.Test.YtkcbebmbmffkjaaGreatDoorF4
import Derived.Test.YtkcbebmbmffkjaaGreatDoorF5
import Derived.Test.YtkcbebmbmffkjaaGreatDoorF6
import Derived.Test.YtkcbebmbmffkjaaGreatDoorF7
import Derived.Test.YtkcbebmbmffkjaaGreatDoorF8
import Derived.Test.YtkcbebmbmffkjaaGreatDoorF9
import Derived.Test.YtkcbebmbmffkjaaGreatDoorF10
import Derived.Test.YtkcbebmbmffkjaaGreatDoorF11
import Derived.Test.YtkcbebmbmffkjaaGreatDoorF12
import Derived.Test.YtkcbebmbmffkjaaGreatDoorF13
import Derived.Test.YtkcbebmbmffkjaaGreatDoorF14
import Derived.Test.YtkcbebmbmffkjaaGreatDoorPlB1
import Derived.Test.YtkcbebmbmffkjaaGreatDoorPlB4
import Derived.Test.YtkcbebmbmffkjaaGreatDoorPlK
set_option linter.unusedVariables false
set_option linter.unusedSectionVars false
set_option linter.unusedSimpArgs false
set_option maxRecDepth 100000
namespace Go.Am
open Go Go.Proofs
variable [Fuel]
def SOk (b:Int) (s:G_Stream):Prop:=0≤s.f_at∧s.f_at≤b
theorem SOk.mono {a b:Int} {s:G_Stream} (h:SOk a s) (hab:a≤b):SOk b s:=⟨h.1,Int.le_trans h.2 hab⟩
theorem sOk0 (l:List Int):SOk 0 ⟨l,0⟩:=⟨Int.le_refl _,Int.le_refl _⟩
theorem yhxy (x n:Int) (hn:n≤1099511627776):∃ r,0≤r∧(1≤n→r < n)∧(n < 1→r = 0)∧∀ (R:Type) (k:Int→Option R),M_Below x n k = k r:=by
 unfold M_Below yqTy
 by_cases h:n < 1
 ·exact ⟨0,Int.le_refl _,fun h'=>by omega,fun _=>rfl,fun R k=>by simp [h]⟩
 ·have h0:(n == 0) = false:=by simp; omega
  have hb1:=Int.tmod_lt_of_pos x (show 0 < n by omega)
  have hb2:-n < Int.tmod x n:=by
   rcases Int.lt_or_le x 0 with hx | hx
   ·have h1:=Int.tmod_lt_of_pos (-x) (show 0 < n by omega)
    rw [Int.neg_tmod] at h1
    omega
   ·have:=Int.tmod_nonneg n hx
    omega
  by_cases h2:Int.tmod x n < 0
  ·refine ⟨Int.tmod x n + n,by omega,fun _=>by omega,fun h'=>by omega,fun R k=>?_⟩
   rw [yaky (by omega) (by omega)]
   simp [h,h0,h2]
  ·exact ⟨Int.tmod x n,by omega,fun _=>hb1,fun h'=>by omega,fun R k=>by simp [h,h0,h2]⟩
theorem z80z_gives {b:Int} {s:G_Stream} (hs:SOk b s) (n:Int) (hb:b≤1099511627776) (hn:n≤1099511627776) :
  ∃ r s',0≤r∧(1≤n→r < n)∧SOk (b + 1) s'∧∀ (R:Type) (k:Int→G_Stream→Option R),z80z s n k = k r s':=by
 obtain ⟨l,a⟩:=s
 obtain ⟨ha,ha2⟩:=hs
 simp only at ha ha2
 have e1:w64 (a + 1) = a + 1:=yaky (by omega) (by omega)
 have e2:w64 (a + 1 - 1) = a:=by rw [yaky (by omega) (by omega)]; omega
 have hso:SOk (b + 1) ⟨l,a + 1⟩:=⟨by simp only; omega,by simp only; omega⟩
 simp only [z80z,z80z_,yxuy,e1,e2]
 cases l with
 | nil =>
  obtain ⟨r,h1,h2,h3,h4⟩:=yhxy (w64 ((a + 1) * 7919)) n hn
  exact ⟨r,_,h1,h2,hso,fun R k=>by simp [h4]⟩
 | cons x xs =>
  have hlen:(0:Int) < ((x :: xs).length:Int):=by rw [List.length_cons]; omega
  have hne:(((x :: xs).length:Int) == 0) = false:=by rw [beq_eq_false_iff_ne]; omega
  have h0:=Int.tmod_nonneg ((x :: xs).length:Int) ha
  have hlt:=Int.tmod_lt_of_pos a hlen
  obtain ⟨y,hy⟩:∃ y,(x :: xs)[(Int.tmod a ((x :: xs).length:Int)).toNat]? = some y:=⟨_,List.getElem?_eq_getElem (by omega)⟩
  obtain ⟨r1,_,_,_,g4⟩:=yhxy y 1073741824 (by omega)
  obtain ⟨r,h1,h2,h3,h4⟩:=yhxy (w64 (r1 + w64 (w64 (Int.tdiv a ((x :: xs).length:Int)) * w64 (7919 + Int.tmod a ((x :: xs).length:Int))))) n hn
  refine ⟨r,_,h1,h2,hso,fun R k=>?_⟩
  simp only [hne,cond_false,get_,h0,decide_true,cond_true,yxFy hy,g4,h4]
theorem z97z_gives {b:Int} {s:G_Stream} (hs:SOk b s) (lo hi:Int) (hb:b≤1099511627776) (h1:-1099511627776≤lo) (h2:hi≤1099511627776) (h3:lo≤hi) (h4:hi - lo≤1099511627775) :
  ∃ r s',lo≤r∧r≤hi∧SOk (b + 1) s'∧∀ (R:Type) (k:Int→G_Stream→Option R),z97z s lo hi k = k r s':=by
 have e:w64 (w64 (hi - lo) + 1) = hi - lo + 1:=by
  rw [yaky (x:=hi - lo) (by omega) (by omega),yaky (by omega) (by omega)]
 obtain ⟨r,s',g1,g2,g4,g3⟩:=z80z_gives hs (hi - lo + 1) hb (by omega)
 have:=g2 (by omega)
 refine ⟨lo + r,s',by omega,by omega,g4,fun R k=>?_⟩
 have hd:decide (hi < lo) = false:=by simp; omega
 simp only [z97z,z97z_,yw7y,hd,cond_false,e,g3]
 rw [yaky (by omega) (by omega)]
theorem z65z_gives {b:Int} {s:G_Stream} (hs:SOk b s) (xs:List Int) (hb:b≤1099511627776) (hx:xs ≠ []) (hl:xs.length≤1000) :
  ∃ r s',r ∈ xs∧SOk (b + 1) s'∧∀ (R:Type) (k:Int→G_Stream→Option R),z65z s xs k = k r s':=by
 obtain ⟨r,s',g1,g2,g4,g3⟩:=z80z_gives hs (xs.length:Int) hb (by omega)
 have hpos:0 < xs.length:=List.length_pos_iff.2 hx
 have:=g2 (by omega)
 have hlt:r.toNat < xs.length:=by omega
 refine ⟨xs[r.toNat],s',List.getElem_mem hlt,g4,fun R k=>?_⟩
 simp only [z65z,z65z_,yxpy,g3,get_,g1,decide_true,cond_true,yxFy (List.getElem?_eq_getElem hlt)]
theorem z59z_gives {b:Int} {s:G_Stream} (hs:SOk b s) (xs:List (List UInt8)) (hb:b≤1099511627776) (hx:xs ≠ []) (hl:xs.length≤1000) :
  ∃ r s',r ∈ xs∧SOk (b + 1) s'∧∀ (R:Type) (k:List UInt8→G_Stream→Option R),z59z s xs k = k r s':=by
 obtain ⟨r,s',g1,g2,g4,g3⟩:=z80z_gives hs (xs.length:Int) hb (by omega)
 have hpos:0 < xs.length:=List.length_pos_iff.2 hx
 have:=g2 (by omega)
 have hlt:r.toNat < xs.length:=by omega
 refine ⟨xs[r.toNat],s',List.getElem_mem hlt,g4,fun R k=>?_⟩
 simp only [z59z,z59z_,yzLy,g3,get_,g1,decide_true,cond_true,yxFy (List.getElem?_eq_getElem hlt)]
theorem z76z_gives {b:Int} {s:G_Stream} (hs:SOk b s) (n:Int) (hb:b≤1099511627776) (hn:n≤1099511627776) :
  ∃ f s',SOk (b + 1) s'∧∀ (R:Type) (k:Bool→G_Stream→Option R),z76z s n k = k f s':=by
 obtain ⟨r,s',g1,g2,g4,g3⟩:=z80z_gives hs n hb hn
 exact ⟨r == 0,s',g4,fun R k=>by simp only [z76z,z76z_,yzdy,g3]⟩
def yc8y:List (List UInt8):=[[],[107,49],[75,49,65,66],[107,49,97,98,47],[49,97],[107,49,97,98,47,109,109,47,112],[107,49,97,98],[107,49,97,97],[107,49,97,98,47,52],[111,104,50,97,98,99],[111,104,50,97,98,100],[119,49,97,119],[110,49,109,109],[103,51,120,121,122,47,112]]
theorem ydqy {α:Type} [BEq α] [LawfulBEq α] {xs ys:List α} {x:α} (h:x ∈ xs) (hs:xs.all (fun y=>ys.contains y) = true):x ∈ ys:=by
 have:=List.all_eq_true.1 hs x h
 simpa using this
theorem z95z_gives {b:Int} {s:G_Stream} (hs:SOk b s) (hb:b≤1099511627000) :
  ∃ r s',r ∈ yc8y∧SOk (b + 2) s'∧∀ (R:Type) (k:List UInt8→G_Stream→Option R),z95z s k = k r s':=by
 obtain ⟨f,s1,h1,e1⟩:=z76z_gives hs 60 (by omega) (by omega)
 cases f with
 | true =>
  obtain ⟨r,s2,hr,h2,e2⟩:=z59z_gives h1 [[],[107,49],[75,49,65,66],[107,49,97,98,47],[49,97],[107,49,97,98,47,109,109,47,112]] (by omega) (by simp) (by simp)
  exact ⟨r,s2,ydqy hr (by decide +kernel),h2.mono (by omega),fun R k=>by simp only [z95z,z95z_,yrZy,e1,cond_true,e2]⟩
 | false =>
  obtain ⟨r,s2,hr,h2,e2⟩:=z59z_gives h1 [[107,49,97,98],[107,49,97,97],[107,49,97,98,47,52],[111,104,50,97,98,99],[111,104,50,97,98,100],[119,49,97,119],[110,49,109,109],[103,51,120,121,122,47,112]] (by omega) (by simp) (by simp)
  exact ⟨r,s2,ydqy hr (by decide +kernel),h2.mono (by omega),fun R k=>by simp only [z95z,z95z_,yrZy,e1,cond_false,e2]⟩
theorem ybby {b:Int} {s:G_Stream} (hs:SOk b s) (lo hi:Int) (hb:b≤1099511627000) (h1:-1000000000000≤lo) (h2:hi≤1000000000000) (h3:lo≤hi) (h4:hi - lo≤1000000000000) :
  ∃ r s',-1099511627776≤r∧r≤1099511627776∧SOk (b + 2) s'∧∀ (R:Type) (k:Int→G_Stream→Option R),Stream_Odd s lo hi k = k r s':=by
 obtain ⟨f,s1,g1,e1⟩:=z76z_gives hs 12 (by omega) (by omega)
 cases f with
 | true =>
  obtain ⟨r,s2,hr,g2,e2⟩:=z65z_gives g1 [lo - 1,hi + 1,lo,hi,-1099511627776,1099511627776] (by omega) (by simp) (by simp)
  refine ⟨r,s2,?_,?_,g2.mono (by omega),fun R k=>?_⟩
  ·simp only [List.mem_cons,List.not_mem_nil,or_false] at hr; omega
  ·simp only [List.mem_cons,List.not_mem_nil,or_false] at hr; omega
  ·simp only [Stream_Odd,ygNy,yfDy,e1,cond_true]
   rw [yaky (x:=lo - 1) (by omega) (by omega),yaky (x:=hi + 1) (by omega) (by omega),e2]
 | false =>
  obtain ⟨r,s2,r1,r2,g2,e2⟩:=z97z_gives g1 lo hi (by omega) (by omega) (by omega) h3 (by omega)
  exact ⟨r,s2,by omega,by omega,g2.mono (by omega),fun R k=>by simp only [Stream_Odd,ygNy,yfDy,e1,cond_false,e2]⟩
def keysL:List (List UInt8):=[[98,50,48],[98,52,48],[],[66],[102,105,110],[117,115,97],[65],[49]]
abbrev Mid (x:Int):Prop:=-2199023255552≤x∧x≤2199023255552
structure Fine (c:G_Contact):Prop where
 at1:Mid c.f_At
 mode:Mid c.f_Mode
 sent:Mid c.f_Sent
 heard:Mid c.f_Heard
 band:c.f_Band ∈ keysL
 call:c.f_Call ∈ yc8y
 gave:c.f_Gave ∈ keysL
 got:c.f_Got ∈ keysL
theorem z89z_gives {b0:Int} {s:G_Stream} (hs:SOk b0 s) (at0:Int) (hb:b0≤1099511626000) (h1:0≤at0) (h2:at0≤1000000000) :
  ∃ (c:G_Contact) (s':G_Stream),Fine c∧c.f_Heard≤1099511627776∧SOk (b0 + 30) s'∧∀ (R:Type) (k:G_Contact→G_Stream→Option R),z89z s at0 k = k c s':=by
 obtain ⟨m,s1,hm,z1,em⟩:=z65z_gives hs [1,1,2,3] (by omega) (by simp) (by simp)
 obtain ⟨b,s2,hb2,z2,eb⟩:=z59z_gives z1 [[98,50,48],[98,50,48],[98,52,48]] (by omega) (by simp) (by simp)
 obtain ⟨c,s3,hc,z3,ec⟩:=z95z_gives z2 (by omega)
 obtain ⟨s,s4,hs,z4,es⟩:=z65z_gives z3 [0,1,2,3,4,5,6,7] (by omega) (by simp) (by simp)
 obtain ⟨h,s5,hh,z5,eh⟩:=z65z_gives z4 [0,1,2,9] (by omega) (by simp) (by simp)
 obtain ⟨g,s6,hg,z6,eg⟩:=z59z_gives z5 [[],[],[102,105,110]] (by omega) (by simp) (by simp)
 obtain ⟨o,s7,ho,z7,eo⟩:=z59z_gives z6 [[],[],[117,115,97]] (by omega) (by simp) (by simp)
 obtain ⟨f,s8,z8,ef⟩:=z76z_gives z7 100 (by omega) (by omega)
 have kb:b ∈ keysL:=ydqy hb2 (by decide +kernel)
 have kg:g ∈ keysL:=ydqy hg (by decide +kernel)
 have ko:o ∈ keysL:=ydqy ho (by decide +kernel)
 simp only [List.mem_cons,List.not_mem_nil,or_false] at hm hs hh
 simp only [z89z,z89z_,yz6y,em,eb,ec,es,eh,eg,eo,ef]
 cases f with
 | false=>exact ⟨⟨at0,m,b,c,s,h,g,o⟩,s8,⟨⟨by simp only; omega,by simp only; omega⟩,⟨by simp only; omega,by simp only; omega⟩,⟨by simp only; omega,by simp only; omega⟩,⟨by simp only; omega,by simp only; omega⟩,kb,hc,kg,ko⟩,by simp only; omega,z8.mono (by omega),fun R k=>by simp only [cond_false]⟩
 | true =>
  obtain ⟨q,s9,q1,q2,z9,eq⟩:=z80z_gives z8 4 (by omega) (by omega)
  simp only [cond_true,eq]
  by_cases c0:q = 0
  ·obtain ⟨x,t1,x1,x2,y1,ex⟩:=ybby z9 0 500 (by omega) (by omega) (by omega) (by omega) (by omega)
   obtain ⟨y,t2,x3,x4,y2,ey⟩:=ybby y1 1 3 (by omega) (by omega) (by omega) (by omega) (by omega)
   exact ⟨⟨x,y,b,c,s,h,g,o⟩,t2,⟨⟨by simp only; omega,by simp only; omega⟩,⟨by simp only; omega,by simp only; omega⟩,⟨by simp only; omega,by simp only; omega⟩,⟨by simp only; omega,by simp only; omega⟩,kb,hc,kg,ko⟩,by simp only; omega,y2.mono (by omega),fun R k=>by simp only [c0,beq_self_eq_true,cond_true,ex,ey]⟩
  ·have c0':(q == 0) = false:=by simpa using c0
   by_cases c1:q = 1
   ·obtain ⟨x,t1,hx,y1,ex⟩:=z59z_gives z9 [[],[66],[98,50,48]] (by omega) (by simp) (by simp)
    exact ⟨⟨at0,m,x,c,s,h,g,o⟩,t1,⟨⟨by simp only; omega,by simp only; omega⟩,⟨by simp only; omega,by simp only; omega⟩,⟨by simp only; omega,by simp only; omega⟩,⟨by simp only; omega,by simp only; omega⟩,ydqy hx (by decide +kernel),hc,kg,ko⟩,by simp only; omega,y1.mono (by omega),fun R k=>by simp only [c0',cond_false,c1,beq_self_eq_true,cond_true,ex]; rfl⟩
   ·have c1':(q == 1) = false:=by simpa using c1
    by_cases c2:q = 2
    ·obtain ⟨x,t1,x1,x2,y1,ex⟩:=ybby z9 0 99999 (by omega) (by omega) (by omega) (by omega) (by omega)
     obtain ⟨y,t2,x3,x4,y2,ey⟩:=ybby y1 0 99999 (by omega) (by omega) (by omega) (by omega) (by omega)
     exact ⟨⟨at0,m,b,c,x,y,g,o⟩,t2,⟨⟨by simp only; omega,by simp only; omega⟩,⟨by simp only; omega,by simp only; omega⟩,⟨by simp only; omega,by simp only; omega⟩,⟨by simp only; omega,by simp only; omega⟩,kb,hc,kg,ko⟩,by simp only; omega,y2.mono (by omega),fun R k=>by simp only [c0',c1',cond_false,c2,beq_self_eq_true,cond_true,ex,ey]; rfl⟩
    ·have c2':(q == 2) = false:=by simpa using c2
     obtain ⟨x,t1,hx,y1,ex⟩:=z59z_gives z9 [[],[65]] (by omega) (by simp) (by simp)
     obtain ⟨y,t2,hy,y2,ey⟩:=z59z_gives y1 [[49],[117,115,97]] (by omega) (by simp) (by simp)
     exact ⟨⟨at0,m,b,c,s,h,x,y⟩,t2,⟨⟨by simp only; omega,by simp only; omega⟩,⟨by simp only; omega,by simp only; omega⟩,⟨by simp only; omega,by simp only; omega⟩,⟨by simp only; omega,by simp only; omega⟩,kb,hc,ydqy hx (by decide +kernel),ydqy hy (by decide +kernel)⟩,by simp only; omega,y2.mono (by omega),fun R k=>by simp only [c0',c1',c2',cond_false,ex,ey]⟩
end Go.Am
set_option linter.unusedVariables false
set_option linter.unusedSectionVars false
set_option linter.unusedSimpArgs false
set_option maxRecDepth 100000
namespace Go.Am
open Go Go.Proofs
variable [Fuel]
theorem yjcy (x:Int) (R:Type) (k:Int→Option R):Q_sign x k = k (sgn x):=by
 unfold Q_sign yupy sgn
 cases decide (x < 0) <;> cases decide (x > 0) <;> rfl
theorem yciy (a b:List UInt8) (R:Type) (k:Int→Option R):strings_Compare a b k = k (Lib.compareBytes a b):=rfl
theorem z69z_is (a b:Int) (R:Type) (k:Int→Option R):z69z a b k = k (cmpI a b):=by
 have h1:(a != a) = false:=by simp
 have h2:(b != b) = false:=by simp
 simp only [z69z,z69z_,ywSy,z114z,z114z_,h1,h2,cond_false,cmpI]
 cases decide (a < b) <;> cases decide (a > b) <;> rfl
theorem yqxy (l:List Int) (hl:l.length < 1000000):∀ (xs:List Int) (n i:Nat),l.drop i = xs→xs.length < n→∀ (R:Type) (k:Int→Option R),
  z81z_L3 NN n 0 l (l.length:Int) (i:Int) (fun e8 e9=>k e8) (fun e10=>k e10) = k (orL xs)
 | _,0,_,_,h,_,_=>by omega
 | [],n + 1,i,h,_,_,_=>by rw [z81z_L3,yaCy h]; rfl
 | x :: xs,n + 1,i,h,hn,R,k=>by
  have h':=yaly h
  rw [z81z_L3,yayy h]
  simp only [cond_true,yaHy h,orL]
  cases hx:x != 0 with
  | true=>rfl
  | false =>
   simp only [cond_false]
   rw [yamy (by omega)]
   exact yqxy l hl xs n (i + 1) h'.2.2.1 (by simp at hn; omega) R k
theorem z81z_is (l:List Int) (hl:l.length < 1000000) (R:Type) (k:Int→Option R):z81z l k = k (orL l) :=
 yqxy l hl l NN 0 rfl (by have:=NN_ok; omega) R k
def ordC (x y:G_Contact):Int :=
 bif x.f_At != y.f_At then sgn (w64 (x.f_At - y.f_At)) else bif !(x.f_Call == y.f_Call) then Lib.compareBytes x.f_Call y.f_Call
 else bif !(x.f_Band == y.f_Band) then Lib.compareBytes x.f_Band y.f_Band else sgn (w64 (x.f_Mode - y.f_Mode))
theorem z13z_ord (x y:G_Contact) (R:Type) (k:Int→Option R):z13z x y k = k (ordC x y):=by
 simp only [z13z,z13z_,yyhy,ordC,yjcy,yciy]
 cases x.f_At != y.f_At <;> cases !(x.f_Call == y.f_Call) <;> cases !(x.f_Band == y.f_Band) <;> rfl
def cmpC (x y:G_Contact):Int:=orL [cmpI x.f_At y.f_At,Lib.compareBytes x.f_Call y.f_Call,Lib.compareBytes x.f_Band y.f_Band,cmpI x.f_Mode y.f_Mode]
theorem z111z_is (x y:G_Contact) (R:Type) (k:Int→Option R):z111z x y k = k (cmpC x y):=by
 simp only [z111z,z111z_,ytVy,cmpC,z69z_is,yciy,z81z_is _ (show [cmpI x.f_At y.f_At,Lib.compareBytes x.f_Call y.f_Call,Lib.compareBytes x.f_Band y.f_Band,cmpI x.f_Mode y.f_Mode].length < 1000000 by simp)]
theorem yKTy {x y:G_Contact} (hx:Mid x.f_At) (hx2:Mid x.f_Mode) (hy:Mid y.f_At) (hy2:Mid y.f_Mode):ordC x y = cmpC x y:=by
 unfold ordC cmpC
 simp only [orL]
 rw [yCWy ⟨by omega,by omega⟩ ⟨by omega,by omega⟩,yCWy ⟨by omega,by omega⟩ ⟨by omega,by omega⟩]
 rw [yKJy,ne_cb,ne_cb]
 cases h4:cmpI x.f_Mode y.f_Mode != 0 with
 | true=>rfl
 | false =>
  have:cmpI x.f_Mode y.f_Mode = 0:=by simpa using h4
  rw [this]; rfl
theorem z13z_is {x y:G_Contact} (hx:Fine x) (hy:Fine y) (R:Type) (k:Int→Option R):z13z x y k = k (cmpC x y):=by
 rw [z13z_ord,yKTy hx.at1 hx.mode hy.at1 hy.mode]
noncomputable def keyB (s:List UInt8):Bool:=(kit_IsKey s some).getD false
noncomputable def callB (s:List UInt8):Bool:=(call_Is s some).getD false
def ynMy (a b:Option Bool):Bool:=match a,b with | some x,some y=>x == y | _,_=>false
theorem ym8y {a b:Option Bool} (h:ynMy a b = true):a = some (a.getD false)∧b = some (a.getD false):=by
 unfold ynMy at h
 split at h
 ·simp at h; subst h; exact ⟨rfl,rfl⟩
 ·cases h
theorem ygGy {a:Option Bool} (h:a.isSome = true):a = some (a.getD false):=by
 cases a with
 | none=>cases h
 | some x=>rfl
theorem yHRy:keysL.all (fun s=>(kit_IsKey s some).isSome) = true:=by
 obtain ⟨m,h,rfl⟩:=ycLy ‹Fuel›
 kernel_rfl
theorem yGuy:yc8y.all (fun s=>(call_Is s some).isSome) = true:=by
 obtain ⟨m,h,rfl⟩:=ycLy ‹Fuel›
 kernel_rfl
theorem yJIy:keysL.all (fun s=>ynMy (kit_IsKey s some) (Q_Key s some)) = true:=by
 obtain ⟨m,h,rfl⟩:=ycLy ‹Fuel›
 kernel_rfl
theorem yIMy:yc8y.all (fun s=>ynMy (call_Is s some) (Q_Call s some)) = true:=by
 obtain ⟨m,h,rfl⟩:=ycLy ‹Fuel›
 kernel_rfl
theorem ynry {s:List UInt8} (h:s ∈ keysL) (R:Type) (k:Bool→Option R):kit_IsKey s k = k (keyB s) :=
 yexy ybly.na (args:=[.d (.str s)]) (F:=@kit_IsKey _ s) (fun _ _=>rfl) (ygGy (List.all_eq_true.1 yHRy s h)) R k
theorem yqPy {s:List UInt8} (h:s ∈ keysL) (R:Type) (k:Bool→Option R):Q_Key s k = k (keyB s) :=
 yexy yiey.na (args:=[.d (.str s)]) (F:=@Q_Key _ s) (fun _ _=>rfl) (ym8y (List.all_eq_true.1 yJIy s h)).2 R k
theorem ylmy {s:List UInt8} (h:s ∈ yc8y) (R:Type) (k:Bool→Option R):call_Is s k = k (callB s) :=
 yexy yhQy.na (args:=[.d (.str s)]) (F:=@call_Is _ s) (fun _ _=>rfl) (ygGy (List.all_eq_true.1 yGuy s h)) R k
theorem ynwy {s:List UInt8} (h:s ∈ yc8y) (R:Type) (k:Bool→Option R):Q_Call s k = k (callB s) :=
 yexy yjfy.na (args:=[.d (.str s)]) (F:=@Q_Call _ s) (fun _ _=>rfl) (ym8y (List.all_eq_true.1 yIMy s h)).2 R k
noncomputable def nameB (s:List UInt8):Bool:=bif s == [] then true else keyB s
theorem ymCy {s:List UInt8} (h:s ∈ keysL) (R:Type) (k:Bool→Option R):kit_IsName s k = k (nameB s):=by
 simp only [kit_IsName,yjhy,yisy,nameB,ynry h]
 cases s == [] <;> rfl
def inB (n lo hi:Int):Bool:=bif decide (lo≤n) then decide (n≤hi) else false
theorem yiPy {n lo hi:Int}:inB n lo hi = true ↔ lo≤n∧n≤hi:=by
 unfold inB
 by_cases h:lo≤n <;> simp [h]
theorem z78z_is (n lo hi:Int) (R:Type) (k:Bool→Option R):z78z n lo hi k = k (!inB n lo hi):=by
 unfold z78z z78z_ inB
 by_cases h1:n < lo
 ·have h2:¬ lo≤n:=by omega
  rw [decide_eq_true h1,decide_eq_false h2]; rfl
 ·have h2:lo≤n:=by omega
  rw [decide_eq_false h1,decide_eq_true h2]
  simp only [cond_false,cond_true]
  congr 1
  by_cases h3:n≤hi
  ·rw [decide_eq_true h3,decide_eq_false (show ¬ n > hi by omega)]; rfl
  ·rw [decide_eq_false h3,decide_eq_true (show n > hi by omega)]; rfl
theorem ykCy (n lo hi:Int) (R:Type) (k:Bool→Option R):Q_in n lo hi k = k (inB n lo hi):=by
 unfold Q_in Q_in_ inB
 cases decide (lo≤n) <;> rfl
def momB (x:Int):Bool:=inB x 0 345686399999
theorem z85z_is (x:Int) (R:Type) (k:Bool→Option R):z85z x k = k (momB x):=by
 simp only [z85z,z85z_,yAgy,z78z_is,Bool.not_not,momB]
theorem yeky (x:Int) (R:Type) (k:Bool→Option R):kit_IsMode x k = k (inB x 1 3):=by
 simp only [kit_IsMode,yjqy,yity,z78z_is,Bool.not_not]
theorem yjiy (x:Int) (R:Type) (k:Bool→Option R):Q_Moment x k = k (momB x):=by
 simp only [Q_Moment,yoiy,ylPy,ykCy,momB]
noncomputable def chk (c:G_Contact):Int :=
 bif !momB c.f_At then 1 else bif !inB c.f_Mode 1 3 then 4 else bif !keyB c.f_Band then 5 else bif !callB c.f_Call then 3 else
 bif !inB c.f_Sent 0 99999 then 1 else bif !inB c.f_Heard 0 99999 then 1 else bif !nameB c.f_Gave then 5 else bif !nameB c.f_Got then 5 else 0
theorem z94z_is {c:G_Contact} (h:Fine c) (R:Type) (k:Int→Option R):z94z c k = k (chk c):=by
 simp only [z94z,z94z_,yzfy,chk,z85z_is,yeky,z78z_is,ynry h.band,ylmy h.call,ymCy h.gave,ymCy h.got]
 cases momB c.f_At <;> cases inB c.f_Mode 1 3 <;> cases keyB c.f_Band <;> cases callB c.f_Call <;> cases inB c.f_Sent 0 99999 <;> cases inB c.f_Heard 0 99999 <;> cases nameB c.f_Gave <;> cases nameB c.f_Got <;> rfl
theorem z100z_is {c:G_Contact} (h:Fine c) (R:Type) (k:Int→Option R):z100z c k = k (chk c):=by
 simp only [z100z,z100z_,ytXy,chk,yjiy,ykCy,yqPy h.band,ynwy h.call,yqPy h.gave,yqPy h.got,nameB]
 cases momB c.f_At <;> cases inB c.f_Mode 1 3 <;> cases keyB c.f_Band <;> cases callB c.f_Call <;> cases inB c.f_Sent 0 99999 <;> cases inB c.f_Heard 0 99999 <;> cases c.f_Gave == [] <;> cases keyB c.f_Gave <;> cases c.f_Got == [] <;> cases keyB c.f_Got <;> rfl
noncomputable def ygay:Option G_Contact→List G_Contact→Int
 | _,[]=>0
 | p,c :: cs=>bif chk c != 0 then chk c else match p with
  | none=>ygay (some c) cs
  | some q=>bif decide (cmpC q c ≥ 0) then 7 else ygay (some c) cs
def ybJy {α:Type} (d:List α) (i:Nat) (p:Option α):Prop:=match p with | none=>i = 0 | some q=>0 < i∧∃ xs,d.drop (i - 1) = q :: xs
theorem yb2y {α:Type} {d:List α} {i:Nat} {c:α} {cs:List α} (h:d.drop i = c :: cs):ybJy d (i + 1) (some c):=⟨by omega,cs,h⟩
theorem z72z_loop (d:List G_Contact) (hf:∀ c ∈ d,Fine c) (hl:d.length≤100000):∀ (xs:List G_Contact) (n i:Nat) (p:Option G_Contact),d.drop i = xs→ybJy d i p→xs.length < n→∀ (R:Type) (k:Int→Option R),
  z72z_L4 yduy n d d (d.length:Int) (i:Int) k (k 0) = k (ygay p xs)
 | _,0,_,_,_,_,h,_,_=>by omega
 | [],n + 1,i,p,h,_,_,_,_=>by rw [z72z_L4,yaCy h]; rfl
 | c :: cs,n + 1,i,p,h,hp,hn,R,k=>by
  have h':=yaly h
  have ih:=z72z_loop d hf hl cs n (i + 1) (some c) h'.2.2.1 (yb2y h) (by simp at hn; omega) R k
  rw [z72z_L4,yayy h]
  simp only [cond_true,yaHy h,yduy,z94z_is (hf c (yaWy h)),z111z_is,ygay]
  cases hq:chk c != 0 with
  | true=>rfl
  | false =>
   simp only [cond_false]
   cases p with
   | none =>
    rw [decide_eq_false (show ¬ ((i:Int) > 0) by unfold ybJy at hp; omega),yamy (by omega)]
    exact ih
   | some q =>
    obtain ⟨h0,ys,hq⟩:=hp
    rw [decide_eq_true (show ((i:Int) > 0) by omega),ycUy hq h0 (by omega),yamy (by omega)]
    simp only [cond_true]
    cases decide (cmpC q c ≥ 0) with
    | true=>rfl
    | false=>exact ih
theorem yiUy (d:List G_Contact) (hf:∀ c ∈ d,Fine c) (hl:d.length≤100000):∀ (xs:List G_Contact) (n i:Nat) (p:Option G_Contact),d.drop i = xs→ybJy d i p→xs.length < n→∀ (R:Type) (k:Int→Option R),
  ybpy ybay n d d (d.length:Int) (i:Int) k (k 0) = k (ygay p xs)
 | _,0,_,_,_,_,h,_,_=>by omega
 | [],n + 1,i,p,h,_,_,_,_=>by rw [ybpy,yaCy h]; rfl
 | c :: cs,n + 1,i,p,h,hp,hn,R,k=>by
  have h':=yaly h
  have ih:=yiUy d hf hl cs n (i + 1) (some c) h'.2.2.1 (yb2y h) (by simp at hn; omega) R k
  rw [ybpy,yayy h]
  simp only [cond_true,yaHy h,ybay,z100z_is (hf c (yaWy h)),ygay]
  cases hq:chk c != 0 with
  | true=>rfl
  | false =>
   simp only [cond_false]
   cases p with
   | none =>
    rw [decide_eq_false (show ¬ ((i:Int) > 0) by unfold ybJy at hp; omega),yamy (by omega)]
    exact ih
   | some q =>
    obtain ⟨h0,ys,hq⟩:=hp
    rw [decide_eq_true (show ((i:Int) > 0) by omega),ycUy hq h0 (by omega),yamy (by omega)]
    simp only [z13z_is (hf q (yaWy hq)) (hf c (yaWy h)),cond_true]
    cases decide (cmpC q c ≥ 0) with
    | true=>rfl
    | false=>exact ih
noncomputable def ychy (d:List G_Contact):Int:=bif decide ((d.length:Int) > 2000) then 2 else ygay none d
theorem z72z_is {d:List G_Contact} (hf:∀ c ∈ d,Fine c) (hl:d.length≤100000) (R:Type) (k:Int→Option R):z72z d k = k (ychy d):=by
 have h:z72z_L4 yduy yduy.N d d (d.length:Int) 0 k (k 0) = k (ygay none d):=z72z_loop d hf hl d yduy.N 0 none rfl rfl (show d.length < NN by have:=NN_ok; omega) R k
 simp only [z72z,z72z_,ychy,h]
 cases decide ((d.length:Int) > 2000) <;> rfl
theorem ywiy {d:List G_Contact} (hf:∀ c ∈ d,Fine c) (hl:d.length≤100000) (R:Type) (k:Int→Option R):Q_LogFault d k = k (ychy d):=by
 have h:ybpy ybay ybay.N d d (d.length:Int) 0 k (k 0) = k (ygay none d):=yiUy d hf hl d ybay.N 0 none rfl rfl (show d.length < NN by have:=NN_ok; omega) R k
 simp only [Q_LogFault,yjpy,ychy,h]
 cases decide ((d.length:Int) > 2000) <;> rfl
end Go.Am
set_option linter.unusedVariables false
set_option linter.unusedSectionVars false
set_option linter.unusedSimpArgs false
set_option maxRecDepth 100000
namespace Go.Am
open Go Go.Proofs
variable [Fuel]
theorem yFwy {l:List G_Contact} (hf:∀ c ∈ l,Fine c) (hl:l.length≤20) (R:Type) (k:List G_Contact→Option R):z43z l k = k (sortI cmpC l):=by
 simp only [z43z,z43z_,yyHy,yORy]
 exact yB4y cmpC Fine (fun x y hx hy=>z13z_is hx hy) l hf hl (by have:=NN_ok; omega) (by have:=NN_ok; omega) _ (fun l a b R k=>by rw [yPWy]) k
theorem z28z_is {x y:G_Contact} (hx:Fine x) (hy:Fine y) (R:Type) (k:Bool→Option R):z28z x y k = k (cmpC x y == 0):=by
 simp only [z28z,z28z_,ywRy,z13z_is hx hy]
theorem yFCy {l:List G_Contact} (hf:∀ c ∈ l,Fine c) (hl:l.length≤100000) (R:Type) (k:List G_Contact→Option R):z12z l k = k (ybSy (fun x y=>cmpC x y == 0) l):=by
 rw [yMLy]
 exact ywKy _ Fine (fun x y hx hy R k=>z28z_is hx hy R k) l (by have:=NN_ok; omega) (by have:=NN_ok; omega) hf k
theorem z21z_loop (m:Nat) (hm:m≤1000):∀ (n i:Nat) (at0:Int) (s:G_Stream) (out:List G_Contact) (b:Int),m - i < n→i≤m→SOk (b + 31 * (i:Int)) s→b≤1000000→0≤at0→at0≤1500000 * (i:Int)→out.length = i→(∀ c ∈ out,Fine c∧c.f_Heard≤1099511627776)→m≤600 →
  ∃ (r:List G_Contact) (s':G_Stream),SOk (b + 31 * (m:Int)) s'∧r.length = m∧(∀ c ∈ r,Fine c∧c.f_Heard≤1099511627776)∧∀ (R:Type) (e0:G_Stream→List G_Contact→Option R),z21z_L4 ydyy n at0 (m:Int) (i:Int) s out e0 = e0 s' r
 | 0,i,_,_,_,_,h,_,_,_,_,_,_,_,_=>by omega
 | n + 1,i,at0,s,out,b,h,hi,hs,hb,h1,h2,ho,hf,hm6=>by
  by_cases hc:i < m
  ·obtain ⟨p,s1,hp,z1,ep⟩:=z65z_gives hs [0,1,10,50,1000,40000,1500000] (by omega) (by simp) (by simp)
   have hp':0≤p∧p≤1500000:=by
    simp only [List.mem_cons,List.not_mem_nil,or_false] at hp
    omega
   have e1:w64 (at0 + p) = at0 + p:=yaky (by omega) (by omega)
   obtain ⟨c,s2,hcf,hch,z2,ec⟩:=z89z_gives z1 (at0 + p) (by omega) (by omega) (by omega)
   obtain ⟨r,s',g1,g2,g3,g4⟩:=z21z_loop m hm n (i + 1) (at0 + p) s2 (out ++ [c]) b (by omega) (by omega) (z2.mono (by omega)) hb (by omega) (by omega) (by simp [ho]) (fun x hx=>by
    rcases List.mem_append.1 hx with h | h
    ·exact hf x h
    ·simp at h; rw [h]; exact ⟨hcf,hch⟩) hm6
   refine ⟨r,s',g1,g2,g3,fun R e0=>?_⟩
   rw [z21z_L4]
   simp only [ydyy,decide_eq_true (show (i:Int) < (m:Int) by omega),cond_true,ep,e1,ec,room1 out c 96 (by omega) (by omega)]
   rw [yamy (by omega)]
   exact g4 R e0
  ·refine ⟨out,s,hs.mono (by omega),by omega,hf,fun R e0=>?_⟩
   rw [z21z_L4,decide_eq_false (by omega)]; rfl
theorem z21z_gives {b:Int} {s:G_Stream} (hs:SOk b s) (hb:b≤1000000) (m:Nat) (hm:m≤20) :
  ∃ (r:List G_Contact) (s':G_Stream),SOk (b + 31 * (m:Int)) s'∧r.length≤m∧(∀ c ∈ r,Fine c∧c.f_Heard≤1099511627776)∧∀ (R:Type) (k:List G_Contact→G_Stream→Option R),z21z s (m:Int) k = k r s':=by
 obtain ⟨r,s',g1,g2,g3,g4⟩:=z21z_loop m (by omega) NN 0 0 s [] b (by have:=NN_ok; omega) (by omega) (hs.mono (by omega)) hb (by omega) (by omega) rfl (fun c h=>by cases h) (by omega)
 have g4':∀ (R:Type) (e0:G_Stream→List G_Contact→Option R),z21z_L4 ydyy ydyy.N 0 (m:Int) 0 s [] e0 = e0 s' r:=g4
 have hr:∀ c ∈ r,Fine c:=fun c h=>(g3 c h).1
 have hsr:∀ c ∈ sortI cmpC r,Fine c:=fun c h=>hr c (ycny.1 h)
 refine ⟨ybSy (fun x y=>cmpC x y == 0) (sortI cmpC r),s',g1,?_,fun c h=>g3 c (ycny.1 (yiKy h)),fun R k=>?_⟩
 ·have:=ynWy (fun x y=>cmpC x y == 0) (sortI cmpC r)
  have:=ybzy cmpC r
  omega
 ·simp only [z21z,z21z_,g4']
  simp only [ydyy,yFwy hr (by omega),yFCy hsr (by rw [ybzy]; omega)]
end Go.Am
set_option linter.unusedVariables false
set_option linter.unusedSectionVars false
set_option linter.unusedSimpArgs false
set_option maxRecDepth 100000
namespace Go.Am
open Go Go.Proofs
variable [Fuel]
theorem ymxy (l:List Int) (hl:l.length < 1000000):∀ (xs:List Int) (n i:Nat),l.drop i = xs→xs.length < n→∀ (R:Type) (k:Int→Option R),
  ycwy NN n l (l.length:Int) (i:Int) k (k 0) = k (orL xs)
 | _,0,_,_,h,_,_=>by omega
 | [],n + 1,i,h,_,_,_=>by rw [ycwy,yaCy h]; rfl
 | x :: xs,n + 1,i,h,hn,R,k=>by
  have h':=yaly h
  have ih:=ymxy l hl xs n (i + 1) h'.2.2.1 (by simp at hn; omega) R k
  rw [ycwy,yayy h,yamy (by omega),ih]
  simp only [cond_true,yaHy h,orL]
  cases x != 0 <;> rfl
theorem yjly (l:List Int) (hl:l.length < 1000000) (R:Type) (k:Int→Option R):law_errs l k = k (orL l) :=
 ymxy l hl l NN 0 rfl (by have:=NN_ok; omega) R k
end Go.Am
