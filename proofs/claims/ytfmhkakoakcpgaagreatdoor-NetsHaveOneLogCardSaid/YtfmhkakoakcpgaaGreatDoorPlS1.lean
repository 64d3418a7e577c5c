/- The plain law, in Lean alone: S1, C1, C2, E1. No condition: lemmas for the claim. -/
import Derived.Test.YtfmhkakoakcpgaaGreatDoorF1
import Derived.Test.YtfmhkakoakcpgaaGreatDoorF2
import Derived.Test.YtfmhkakoakcpgaaGreatDoorF3
import Derived.Test.YtfmhkakoakcpgaaGreatDoorF4
import Derived.Test.YtfmhkakoakcpgaaGreatDoorF5
import Derived.Test.YtfmhkakoakcpgaaGreatDoorF6
import Derived.Test.YtfmhkakoakcpgaaGreatDoorF7
import Derived.Test.YtfmhkakoakcpgaaGreatDoorF8
import Derived.Test.YtfmhkakoakcpgaaGreatDoorF9
import Derived.Test.YtfmhkakoakcpgaaGreatDoorF10
import Derived.Test.YtfmhkakoakcpgaaGreatDoorF11
import Derived.Test.YtfmhkakoakcpgaaGreatDoorPlB1
import Derived.Test.YtfmhkakoakcpgaaGreatDoorPlB4
import Derived.Test.YtfmhkakoakcpgaaGreatDoorPlK
set_option linter.unusedVariables false
set_option linter.unusedSectionVars false
set_option linter.unusedSimpArgs false
set_option maxRecDepth 100000
namespace Go.Am
open Go Go.Proofs
variable [Fuel]
def SOk (b:Int) (s:G_Stream):Prop:=0≤s.f_at∧s.f_at≤b
theorem SOk.mono {a b:Int} {s:G_Stream} (h:SOk a s) (hab:a≤b):SOk b s:=⟨h.1,Int.le_trans h.2 hab⟩
theorem sOk0 (l:List Int):SOk 0 ⟨l,0⟩:=⟨Int.le_refl _,Int.le_refl _⟩
theorem yg1y (x n:Int) (hn:n≤1099511627776):∃ r,0≤r∧(1≤n→r < n)∧(n < 1→r = 0)∧∀ (R:Type) (k:Int→Option R),M_Below x n k = k r:=by
 unfold M_Below yoDy
 by_cases h:n < 1
 ·exact ⟨0,Int.le_refl _,fun h'=>by omega,fun _=>rfl,fun R k=>by simp [h]⟩
 ·have h0:(n == 0) = false:=by simp; omega
  have hb1:=Int.tmod_lt_of_pos x (show 0 < n by omega)
  have hb2:-n < Int.tmod x n:=by
   rcases Int.lt_or_le x 0 with hx | hx
   ·have h1:=Int.tmod_lt_of_pos (-x) (show 0 < n by omega)
    rw [Int.neg_tmod] at h1
    omega
   ·have:=Int.tmod_nonneg n hx
    omega
  by_cases h2:Int.tmod x n < 0
  ·refine ⟨Int.tmod x n + n,by omega,fun _=>by omega,fun h'=>by omega,fun R k=>?_⟩
   rw [yaGy (by omega) (by omega)]
   simp [h,h0,h2]
  ·exact ⟨Int.tmod x n,by omega,fun _=>hb1,fun h'=>by omega,fun R k=>by simp [h,h0,h2]⟩
theorem z41z_gives {b:Int} {s:G_Stream} (hs:SOk b s) (n:Int) (hb:b≤1099511627776) (hn:n≤1099511627776) :
  ∃ r s',0≤r∧(1≤n→r < n)∧SOk (b + 1) s'∧∀ (R:Type) (k:Int→G_Stream→Option R),z41z s n k = k r s':=by
 obtain ⟨l,a⟩:=s
 obtain ⟨ha,ha2⟩:=hs
 simp only at ha ha2
 have e1:w64 (a + 1) = a + 1:=yaGy (by omega) (by omega)
 have e2:w64 (a + 1 - 1) = a:=by rw [yaGy (by omega) (by omega)]; omega
 have hso:SOk (b + 1) ⟨l,a + 1⟩:=⟨by simp only; omega,by simp only; omega⟩
 simp only [z41z,z41z_,yvDy,e1,e2]
 cases l with
 | nil =>
  obtain ⟨r,h1,h2,h3,h4⟩:=yg1y (w64 ((a + 1) * 7919)) n hn
  exact ⟨r,_,h1,h2,hso,fun R k=>by simp [h4]⟩
 | cons x xs =>
  have hlen:(0:Int) < ((x :: xs).length:Int):=by rw [List.length_cons]; omega
  have hne:(((x :: xs).length:Int) == 0) = false:=by rw [beq_eq_false_iff_ne]; omega
  have h0:=Int.tmod_nonneg ((x :: xs).length:Int) ha
  have hlt:=Int.tmod_lt_of_pos a hlen
  obtain ⟨y,hy⟩:∃ y,(x :: xs)[(Int.tmod a ((x :: xs).length:Int)).toNat]? = some y:=⟨_,List.getElem?_eq_getElem (by omega)⟩
  obtain ⟨r1,_,_,_,g4⟩:=yg1y y 1073741824 (by omega)
  obtain ⟨r,h1,h2,h3,h4⟩:=yg1y (w64 (r1 + w64 (w64 (Int.tdiv a ((x :: xs).length:Int)) * w64 (7919 + Int.tmod a ((x :: xs).length:Int))))) n hn
  refine ⟨r,_,h1,h2,hso,fun R k=>?_⟩
  simp only [hne,cond_false,get_,h0,decide_true,cond_true,yqHy hy,g4,h4]
theorem z54z_gives {b:Int} {s:G_Stream} (hs:SOk b s) (lo hi:Int) (hb:b≤1099511627776) (h1:-1099511627776≤lo) (h2:hi≤1099511627776) (h3:lo≤hi) (h4:hi - lo≤1099511627775) :
  ∃ r s',lo≤r∧r≤hi∧SOk (b + 1) s'∧∀ (R:Type) (k:Int→G_Stream→Option R),z54z s lo hi k = k r s':=by
 have e:w64 (w64 (hi - lo) + 1) = hi - lo + 1:=by
  rw [yaGy (x:=hi - lo) (by omega) (by omega),yaGy (by omega) (by omega)]
 obtain ⟨r,s',g1,g2,g4,g3⟩:=z41z_gives hs (hi - lo + 1) hb (by omega)
 have:=g2 (by omega)
 refine ⟨lo + r,s',by omega,by omega,g4,fun R k=>?_⟩
 have hd:decide (hi < lo) = false:=by simp; omega
 simp only [z54z,z54z_,ytMy,hd,cond_false,e,g3]
 rw [yaGy (by omega) (by omega)]
theorem z64z_gives {b:Int} {s:G_Stream} (hs:SOk b s) (xs:List Int) (hb:b≤1099511627776) (hx:xs ≠ []) (hl:xs.length≤1000) :
  ∃ r s',r ∈ xs∧SOk (b + 1) s'∧∀ (R:Type) (k:Int→G_Stream→Option R),z64z s xs k = k r s':=by
 obtain ⟨r,s',g1,g2,g4,g3⟩:=z41z_gives hs (xs.length:Int) hb (by omega)
 have hpos:0 < xs.length:=List.length_pos_iff.2 hx
 have:=g2 (by omega)
 have hlt:r.toNat < xs.length:=by omega
 refine ⟨xs[r.toNat],s',List.getElem_mem hlt,g4,fun R k=>?_⟩
 simp only [z64z,z64z_,yusy,g3,get_,g1,decide_true,cond_true,yqHy (List.getElem?_eq_getElem hlt)]
theorem z22z_gives {b:Int} {s:G_Stream} (hs:SOk b s) (xs:List (List UInt8)) (hb:b≤1099511627776) (hx:xs ≠ []) (hl:xs.length≤1000) :
  ∃ r s',r ∈ xs∧SOk (b + 1) s'∧∀ (R:Type) (k:List UInt8→G_Stream→Option R),z22z s xs k = k r s':=by
 obtain ⟨r,s',g1,g2,g4,g3⟩:=z41z_gives hs (xs.length:Int) hb (by omega)
 have hpos:0 < xs.length:=List.length_pos_iff.2 hx
 have:=g2 (by omega)
 have hlt:r.toNat < xs.length:=by omega
 refine ⟨xs[r.toNat],s',List.getElem_mem hlt,g4,fun R k=>?_⟩
 simp only [z22z,z22z_,ytwy,g3,get_,g1,decide_true,cond_true,yqHy (List.getElem?_eq_getElem hlt)]
theorem z58z_gives {b:Int} {s:G_Stream} (hs:SOk b s) (n:Int) (hb:b≤1099511627776) (hn:n≤1099511627776) :
  ∃ f s',SOk (b + 1) s'∧∀ (R:Type) (k:Bool→G_Stream→Option R),z58z s n k = k f s':=by
 obtain ⟨r,s',g1,g2,g4,g3⟩:=z41z_gives hs n hb hn
 exact ⟨r == 0,s',g4,fun R k=>by simp only [z58z,z58z_,yv3y,g3]⟩
def ydYy:List (List UInt8):=[[],[107,49],[75,49,65,66],[107,49,97,98,47],[49,97],[107,49,97,98,47,109,109,47,112],[107,49,97,98],[107,49,97,97],[107,49,97,98,47,52],[111,104,50,97,98,99],[111,104,50,97,98,100],[119,49,97,119],[110,49,109,109],[103,51,120,121,122,47,112]]
theorem ybXy {α:Type} [BEq α] [LawfulBEq α] {xs ys:List α} {x:α} (h:x ∈ xs) (hs:xs.all (fun y=>ys.contains y) = true):x ∈ ys:=by
 have:=List.all_eq_true.1 hs x h
 simpa using this
theorem z77z_gives {b:Int} {s:G_Stream} (hs:SOk b s) (hb:b≤1099511627000) :
  ∃ r s',r ∈ ydYy∧SOk (b + 2) s'∧∀ (R:Type) (k:List UInt8→G_Stream→Option R),z77z s k = k r s':=by
 obtain ⟨f,s1,h1,e1⟩:=z58z_gives hs 60 (by omega) (by omega)
 cases f with
 | true =>
  obtain ⟨r,s2,hr,h2,e2⟩:=z22z_gives h1 [[],[107,49],[75,49,65,66],[107,49,97,98,47],[49,97],[107,49,97,98,47,109,109,47,112]] (by omega) (by simp) (by simp)
  exact ⟨r,s2,ybXy hr (by decide +kernel),h2.mono (by omega),fun R k=>by simp only [z77z,z77z_,yqcy,e1,cond_true,e2]⟩
 | false =>
  obtain ⟨r,s2,hr,h2,e2⟩:=z22z_gives h1 [[107,49,97,98],[107,49,97,97],[107,49,97,98,47,52],[111,104,50,97,98,99],[111,104,50,97,98,100],[119,49,97,119],[110,49,109,109],[103,51,120,121,122,47,112]] (by omega) (by simp) (by simp)
  exact ⟨r,s2,ybXy hr (by decide +kernel),h2.mono (by omega),fun R k=>by simp only [z77z,z77z_,yqcy,e1,cond_false,e2]⟩
theorem ybmy {b:Int} {s:G_Stream} (hs:SOk b s) (lo hi:Int) (hb:b≤1099511627000) (h1:-1000000000000≤lo) (h2:hi≤1000000000000) (h3:lo≤hi) (h4:hi - lo≤1000000000000) :
  ∃ r s',-1099511627776≤r∧r≤1099511627776∧SOk (b + 2) s'∧∀ (R:Type) (k:Int→G_Stream→Option R),Stream_Odd s lo hi k = k r s':=by
 obtain ⟨f,s1,g1,e1⟩:=z58z_gives hs 12 (by omega) (by omega)
 cases f with
 | true =>
  obtain ⟨r,s2,hr,g2,e2⟩:=z64z_gives g1 [lo - 1,hi + 1,lo,hi,-1099511627776,1099511627776] (by omega) (by simp) (by simp)
  refine ⟨r,s2,?_,?_,g2.mono (by omega),fun R k=>?_⟩
  ·simp only [List.mem_cons,List.not_mem_nil,or_false] at hr; omega
  ·simp only [List.mem_cons,List.not_mem_nil,or_false] at hr; omega
  ·simp only [Stream_Odd,ygsy,yeVy,e1,cond_true]
   rw [yaGy (x:=lo - 1) (by omega) (by omega),yaGy (x:=hi + 1) (by omega) (by omega),e2]
 | false =>
  obtain ⟨r,s2,r1,r2,g2,e2⟩:=z54z_gives g1 lo hi (by omega) (by omega) (by omega) h3 (by omega)
  exact ⟨r,s2,by omega,by omega,g2.mono (by omega),fun R k=>by simp only [Stream_Odd,ygsy,yeVy,e1,cond_false,e2]⟩
def keysL:List (List UInt8):=[[98,50,48],[98,52,48],[],[66],[102,105,110],[117,115,97],[65],[49],[98,49,54,48],[98,51,48]]
abbrev Mid (x:Int):Prop:=-2199023255552≤x∧x≤2199023255552
structure Fine (c:G_Contact):Prop where
 at1:Mid c.f_At
 mode:Mid c.f_Mode
 sent:Mid c.f_Sent
 heard:Mid c.f_Heard
 band:c.f_Band ∈ keysL
 call:c.f_Call ∈ ydYy
 gave:c.f_Gave ∈ keysL
 got:c.f_Got ∈ keysL
theorem z60z_gives {b0:Int} {s:G_Stream} (hs:SOk b0 s) (at0:Int) (hb:b0≤1099511626000) (h1:0≤at0) (h2:at0≤1000000000) :
  ∃ (c:G_Contact) (s':G_Stream),Fine c∧c.f_Heard≤1099511627776∧SOk (b0 + 30) s'∧∀ (R:Type) (k:G_Contact→G_Stream→Option R),z60z s at0 k = k c s':=by
 obtain ⟨m,s1,hm,z1,em⟩:=z64z_gives hs [1,1,2,3] (by omega) (by simp) (by simp)
 obtain ⟨b,s2,hb2,z2,eb⟩:=z22z_gives z1 [[98,50,48],[98,50,48],[98,52,48]] (by omega) (by simp) (by simp)
 obtain ⟨c,s3,hc,z3,ec⟩:=z77z_gives z2 (by omega)
 obtain ⟨s,s4,hs,z4,es⟩:=z64z_gives z3 [0,1,2,3,4,5,6,7] (by omega) (by simp) (by simp)
 obtain ⟨h,s5,hh,z5,eh⟩:=z64z_gives z4 [0,1,2,9] (by omega) (by simp) (by simp)
 obtain ⟨g,s6,hg,z6,eg⟩:=z22z_gives z5 [[],[],[102,105,110]] (by omega) (by simp) (by simp)
 obtain ⟨o,s7,ho,z7,eo⟩:=z22z_gives z6 [[],[],[117,115,97]] (by omega) (by simp) (by simp)
 obtain ⟨f,s8,z8,ef⟩:=z58z_gives z7 100 (by omega) (by omega)
 have kb:b ∈ keysL:=ybXy hb2 (by decide +kernel)
 have kg:g ∈ keysL:=ybXy hg (by decide +kernel)
 have ko:o ∈ keysL:=ybXy ho (by decide +kernel)
 simp only [List.mem_cons,List.not_mem_nil,or_false] at hm hs hh
 simp only [z60z,z60z_,ywuy,em,eb,ec,es,eh,eg,eo,ef]
 cases f with
 | false=>exact ⟨⟨at0,m,b,c,s,h,g,o⟩,s8,⟨⟨by simp only; omega,by simp only; omega⟩,⟨by simp only; omega,by simp only; omega⟩,⟨by simp only; omega,by simp only; omega⟩,⟨by simp only; omega,by simp only; omega⟩,kb,hc,kg,ko⟩,by simp only; omega,z8.mono (by omega),fun R k=>by simp only [cond_false]⟩
 | true =>
  obtain ⟨q,s9,q1,q2,z9,eq⟩:=z41z_gives z8 4 (by omega) (by omega)
  simp only [cond_true,eq]
  by_cases c0:q = 0
  ·obtain ⟨x,t1,x1,x2,y1,ex⟩:=ybmy z9 0 500 (by omega) (by omega) (by omega) (by omega) (by omega)
   obtain ⟨y,t2,x3,x4,y2,ey⟩:=ybmy y1 1 3 (by omega) (by omega) (by omega) (by omega) (by omega)
   exact ⟨⟨x,y,b,c,s,h,g,o⟩,t2,⟨⟨by simp only; omega,by simp only; omega⟩,⟨by simp only; omega,by simp only; omega⟩,⟨by simp only; omega,by simp only; omega⟩,⟨by simp only; omega,by simp only; omega⟩,kb,hc,kg,ko⟩,by simp only; omega,y2.mono (by omega),fun R k=>by simp only [c0,beq_self_eq_true,cond_true,ex,ey]⟩
  ·have c0':(q == 0) = false:=by simpa using c0
   by_cases c1:q = 1
   ·obtain ⟨x,t1,hx,y1,ex⟩:=z22z_gives z9 [[],[66],[98,50,48]] (by omega) (by simp) (by simp)
    exact ⟨⟨at0,m,x,c,s,h,g,o⟩,t1,⟨⟨by simp only; omega,by simp only; omega⟩,⟨by simp only; omega,by simp only; omega⟩,⟨by simp only; omega,by simp only; omega⟩,⟨by simp only; omega,by simp only; omega⟩,ybXy hx (by decide +kernel),hc,kg,ko⟩,by simp only; omega,y1.mono (by omega),fun R k=>by simp only [c0',cond_false,c1,beq_self_eq_true,cond_true,ex]; rfl⟩
   ·have c1':(q == 1) = false:=by simpa using c1
    by_cases c2:q = 2
    ·obtain ⟨x,t1,x1,x2,y1,ex⟩:=ybmy z9 0 99999 (by omega) (by omega) (by omega) (by omega) (by omega)
     obtain ⟨y,t2,x3,x4,y2,ey⟩:=ybmy y1 0 99999 (by omega) (by omega) (by omega) (by omega) (by omega)
     exact ⟨⟨at0,m,b,c,x,y,g,o⟩,t2,⟨⟨by simp only; omega,by simp only; omega⟩,⟨by simp only; omega,by simp only; omega⟩,⟨by simp only; omega,by simp only; omega⟩,⟨by simp only; omega,by simp only; omega⟩,kb,hc,kg,ko⟩,by simp only; omega,y2.mono (by omega),fun R k=>by simp only [c0',c1',cond_false,c2,beq_self_eq_true,cond_true,ex,ey]; rfl⟩
    ·have c2':(q == 2) = false:=by simpa using c2
     obtain ⟨x,t1,hx,y1,ex⟩:=z22z_gives z9 [[],[65]] (by omega) (by simp) (by simp)
     obtain ⟨y,t2,hy,y2,ey⟩:=z22z_gives y1 [[49],[117,115,97]] (by omega) (by simp) (by simp)
     exact ⟨⟨at0,m,b,c,s,h,x,y⟩,t2,⟨⟨by simp only; omega,by simp only; omega⟩,⟨by simp only; omega,by simp only; omega⟩,⟨by simp only; omega,by simp only; omega⟩,⟨by simp only; omega,by simp only; omega⟩,kb,hc,ybXy hx (by decide +kernel),ybXy hy (by decide +kernel)⟩,by simp only; omega,y2.mono (by omega),fun R k=>by simp only [c0',c1',c2',cond_false,ex,ey]⟩
end Go.Am
set_option linter.unusedVariables false
set_option linter.unusedSectionVars false
set_option linter.unusedSimpArgs false
set_option maxRecDepth 100000
namespace Go.Am
open Go Go.Proofs
variable [Fuel]
theorem yB9y (x:Int) (R:Type) (k:Int→Option R):Q_sign x k = k (sgn x):=by
 unfold Q_sign yr5y sgn
 cases decide (x < 0) <;> cases decide (x > 0) <;> rfl
theorem ycty (a b:List UInt8) (R:Type) (k:Int→Option R):strings_Compare a b k = k (Lib.compareBytes a b):=rfl
theorem z26z_is (a b:Int) (R:Type) (k:Int→Option R):z26z a b k = k (cmpI a b):=by
 have h1:(a != a) = false:=by simp
 have h2:(b != b) = false:=by simp
 simp only [z26z,z26z_,yqiy,z72z,z72z_,h1,h2,cond_false,cmpI]
 cases decide (a < b) <;> cases decide (a > b) <;> rfl
theorem yn7y (l:List Int) (hl:l.length < 1000000):∀ (xs:List Int) (n i:Nat),l.drop i = xs→xs.length < n→∀ (R:Type) (k:Int→Option R),
  z25z_L3 NN n 0 l (l.length:Int) (i:Int) (fun e8 e9=>k e8) (fun e10=>k e10) = k (orL xs)
 | _,0,_,_,h,_,_=>by omega
 | [],n + 1,i,h,_,_,_=>by rw [z25z_L3,yaOy h]; rfl
 | x :: xs,n + 1,i,h,hn,R,k=>by
  have h':=yapy h
  rw [z25z_L3,yaAy h]
  simp only [cond_true,yaZy h,orL]
  cases hx:x != 0 with
  | true=>rfl
  | false =>
   simp only [cond_false]
   rw [yary (by omega)]
   exact yn7y l hl xs n (i + 1) h'.2.2.1 (by simp at hn; omega) R k
theorem z25z_is (l:List Int) (hl:l.length < 1000000) (R:Type) (k:Int→Option R):z25z l k = k (orL l) :=
 yn7y l hl l NN 0 rfl (by have:=NN_ok; omega) R k
def cmpC (x y:G_Contact):Int:=orL [cmpI x.f_At y.f_At,Lib.compareBytes x.f_Call y.f_Call,Lib.compareBytes x.f_Band y.f_Band,cmpI x.f_Mode y.f_Mode]
theorem z42z_is (x y:G_Contact) (R:Type) (k:Int→Option R):z42z x y k = k (cmpC x y):=by
 simp only [z42z,z42z_,yqty,cmpC,z26z_is,ycty,z25z_is _ (show [cmpI x.f_At y.f_At,Lib.compareBytes x.f_Call y.f_Call,Lib.compareBytes x.f_Band y.f_Band,cmpI x.f_Mode y.f_Mode].length < 1000000 by simp)]
theorem yBPy:Ords cmpC:=.lex (yimy.on fun c:G_Contact=>c.f_At) (.lex (yjdy.on fun c:G_Contact=>c.f_Call) (.lex (yjdy.on fun c:G_Contact=>c.f_Band) (.lex (yimy.on fun c:G_Contact=>c.f_Mode) .nil)))
noncomputable def keyB (s:List UInt8):Bool:=(kit_IsKey s some).getD false
noncomputable def callB (s:List UInt8):Bool:=(call_Is s some).getD false
def ymqy (a b:Option Bool):Bool:=match a,b with | some x,some y=>x == y | _,_=>false
theorem ylPy {a b:Option Bool} (h:ymqy a b = true):a = some (a.getD false)∧b = some (a.getD false):=by
 unfold ymqy at h
 split at h
 ·simp at h; subst h; exact ⟨rfl,rfl⟩
 ·cases h
theorem ygqy {a:Option Bool} (h:a.isSome = true):a = some (a.getD false):=by
 cases a with
 | none=>cases h
 | some x=>rfl
theorem yDWy:keysL.all (fun s=>(kit_IsKey s some).isSome) = true:=by
 obtain ⟨m,h,rfl⟩:=ya5y ‹Fuel›
 kernel_rfl
theorem yCMy:ydYy.all (fun s=>(call_Is s some).isSome) = true:=by
 obtain ⟨m,h,rfl⟩:=ya5y ‹Fuel›
 kernel_rfl
theorem yHYy:keysL.all (fun s=>ymqy (kit_IsKey s some) (Q_Key s some)) = true:=by
 obtain ⟨m,h,rfl⟩:=ya5y ‹Fuel›
 kernel_rfl
theorem yDTy:ydYy.all (fun s=>ymqy (call_Is s some) (Q_Call s some)) = true:=by
 obtain ⟨m,h,rfl⟩:=ya5y ‹Fuel›
 kernel_rfl
theorem ylUy {s:List UInt8} (h:s ∈ keysL) (R:Type) (k:Bool→Option R):kit_IsKey s k = k (keyB s) :=
 yexy yaXy.na (args:=[.d (.str s)]) (F:=@kit_IsKey _ s) (fun _ _=>rfl) (ygqy (List.all_eq_true.1 yDWy s h)) R k
theorem yoZy {s:List UInt8} (h:s ∈ keysL) (R:Type) (k:Bool→Option R):Q_Key s k = k (keyB s) :=
 yexy yk0y.na (args:=[.d (.str s)]) (F:=@Q_Key _ s) (fun _ _=>rfl) (ylPy (List.all_eq_true.1 yHYy s h)).2 R k
theorem yACy {s:List UInt8} (h:s ∈ ydYy) (R:Type) (k:Bool→Option R):call_Is s k = k (callB s) :=
 yexy yhiy.na (args:=[.d (.str s)]) (F:=@call_Is _ s) (fun _ _=>rfl) (ygqy (List.all_eq_true.1 yCMy s h)) R k
theorem yCwy {s:List UInt8} (h:s ∈ ydYy) (R:Type) (k:Bool→Option R):Q_Call s k = k (callB s) :=
 yexy yshy.na (args:=[.d (.str s)]) (F:=@Q_Call _ s) (fun _ _=>rfl) (ylPy (List.all_eq_true.1 yDTy s h)).2 R k
noncomputable def nameB (s:List UInt8):Bool:=bif s == [] then true else keyB s
theorem ylly {s:List UInt8} (h:s ∈ keysL) (R:Type) (k:Bool→Option R):kit_IsName s k = k (nameB s):=by
 simp only [kit_IsName,yi2y,yiey,nameB,ylUy h]
 cases s == [] <;> rfl
def inB (n lo hi:Int):Bool:=bif decide (lo≤n) then decide (n≤hi) else false
theorem yJ4y {n lo hi:Int}:inB n lo hi = true ↔ lo≤n∧n≤hi:=by
 unfold inB
 by_cases h:lo≤n <;> simp [h]
theorem z49z_is (n lo hi:Int) (R:Type) (k:Bool→Option R):z49z n lo hi k = k (!inB n lo hi):=by
 unfold z49z z49z_ inB
 by_cases h1:n < lo
 ·have h2:¬ lo≤n:=by omega
  rw [decide_eq_true h1,decide_eq_false h2]; rfl
 ·have h2:lo≤n:=by omega
  rw [decide_eq_false h1,decide_eq_true h2]
  simp only [cond_false,cond_true]
  congr 1
  by_cases h3:n≤hi
  ·rw [decide_eq_true h3,decide_eq_false (show ¬ n > hi by omega)]; rfl
  ·rw [decide_eq_false h3,decide_eq_true (show n > hi by omega)]; rfl
theorem ynyy (n lo hi:Int) (R:Type) (k:Bool→Option R):Q_in n lo hi k = k (inB n lo hi):=by
 unfold Q_in Q_in_ inB
 cases decide (lo≤n) <;> rfl
def momB (x:Int):Bool:=inB x 0 345686399999
theorem z50z_is (x:Int) (R:Type) (k:Bool→Option R):z50z x k = k (momB x):=by
 simp only [z50z,z50z_,ytBy,z49z_is,Bool.not_not,momB]
theorem ygYy (x:Int) (R:Type) (k:Bool→Option R):kit_IsMode x k = k (inB x 1 3):=by
 simp only [kit_IsMode,yi1y,yhOy,z49z_is,Bool.not_not]
theorem yi6y (x:Int) (R:Type) (k:Bool→Option R):Q_Moment x k = k (momB x):=by
 simp only [Q_Moment,ymwy,yksy,ynyy,momB]
noncomputable def chk (c:G_Contact):Int :=
 bif !momB c.f_At then 1 else bif !inB c.f_Mode 1 3 then 4 else bif !keyB c.f_Band then 5 else bif !callB c.f_Call then 3 else
 bif !inB c.f_Sent 0 99999 then 1 else bif !inB c.f_Heard 0 99999 then 1 else bif !nameB c.f_Gave then 5 else bif !nameB c.f_Got then 5 else 0
theorem z59z_is {c:G_Contact} (h:Fine c) (R:Type) (k:Int→Option R):z59z c k = k (chk c):=by
 simp only [z59z,z59z_,yvRy,chk,z50z_is,ygYy,z49z_is,ylUy h.band,yACy h.call,ylly h.gave,ylly h.got]
 cases momB c.f_At <;> cases inB c.f_Mode 1 3 <;> cases keyB c.f_Band <;> cases callB c.f_Call <;> cases inB c.f_Sent 0 99999 <;> cases inB c.f_Heard 0 99999 <;> cases nameB c.f_Gave <;> cases nameB c.f_Got <;> rfl
theorem z74z_is {c:G_Contact} (h:Fine c) (R:Type) (k:Int→Option R):z74z c k = k (chk c):=by
 simp only [z74z,z74z_,ywSy,chk,yi6y,ynyy,yoZy h.band,yCwy h.call,yoZy h.gave,yoZy h.got,nameB]
 cases momB c.f_At <;> cases inB c.f_Mode 1 3 <;> cases keyB c.f_Band <;> cases callB c.f_Call <;> cases inB c.f_Sent 0 99999 <;> cases inB c.f_Heard 0 99999 <;> cases c.f_Gave == [] <;> cases keyB c.f_Gave <;> cases c.f_Got == [] <;> cases keyB c.f_Got <;> rfl
noncomputable def ygDy:Option G_Contact→List G_Contact→Int
 | _,[]=>0
 | p,c :: cs=>bif chk c != 0 then chk c else match p with
  | none=>ygDy (some c) cs
  | some q=>bif decide (cmpC q c ≥ 0) then 7 else ygDy (some c) cs
def yfHy {α:Type} (d:List α) (i:Nat) (p:Option α):Prop:=match p with | none=>i = 0 | some q=>0 < i∧∃ xs,d.drop (i - 1) = q :: xs
theorem ygpy {α:Type} {d:List α} {i:Nat} {c:α} {cs:List α} (h:d.drop i = c :: cs):yfHy d (i + 1) (some c):=⟨by omega,cs,h⟩
theorem z36z_loop (d:List G_Contact) (hf:∀ c ∈ d,Fine c) (hl:d.length≤100000):∀ (xs:List G_Contact) (n i:Nat) (p:Option G_Contact),d.drop i = xs→yfHy d i p→xs.length < n→∀ (R:Type) (k:Int→Option R),
  z36z_L4 ydry n d d (d.length:Int) (i:Int) k (k 0) = k (ygDy p xs)
 | _,0,_,_,_,_,h,_,_=>by omega
 | [],n + 1,i,p,h,_,_,_,_=>by rw [z36z_L4,yaOy h]; rfl
 | c :: cs,n + 1,i,p,h,hp,hn,R,k=>by
  have h':=yapy h
  have ih:=z36z_loop d hf hl cs n (i + 1) (some c) h'.2.2.1 (ygpy h) (by simp at hn; omega) R k
  rw [z36z_L4,yaAy h]
  simp only [cond_true,yaZy h,ydry,z59z_is (hf c (ybNy h)),z42z_is,ygDy]
  cases hq:chk c != 0 with
  | true=>rfl
  | false =>
   simp only [cond_false]
   cases p with
   | none =>
    rw [decide_eq_false (show ¬ ((i:Int) > 0) by unfold yfHy at hp; omega),yary (by omega)]
    exact ih
   | some q =>
    obtain ⟨h0,ys,hq⟩:=hp
    rw [decide_eq_true (show ((i:Int) > 0) by omega),yiFy hq h0 (by omega),yary (by omega)]
    simp only [cond_true]
    cases decide (cmpC q c ≥ 0) with
    | true=>rfl
    | false=>exact ih
noncomputable def yh7y (d:List G_Contact):Int:=bif decide ((d.length:Int) > 2000) then 2 else ygDy none d
theorem z36z_is {d:List G_Contact} (hf:∀ c ∈ d,Fine c) (hl:d.length≤100000) (R:Type) (k:Int→Option R):z36z d k = k (yh7y d):=by
 have h:z36z_L4 ydry ydry.N d d (d.length:Int) 0 k (k 0) = k (ygDy none d):=z36z_loop d hf hl d ydry.N 0 none rfl rfl (show d.length < NN by have:=NN_ok; omega) R k
 simp only [z36z,z36z_,yh7y,h]
 cases decide ((d.length:Int) > 2000) <;> rfl
end Go.Am
set_option linter.unusedVariables false
set_option linter.unusedSectionVars false
set_option linter.unusedSimpArgs false
set_option maxRecDepth 100000
namespace Go.Am
open Go Go.Proofs
variable [Fuel]
theorem yGHy {a b:List G_Contact} (ha:a.length≤100000) (hb:b.length≤100000) (R:Type) (k:List G_Contact→Option R):z6z [a,b] k = k (a ++ b):=by
 rw [yJAy]; exact ywTy a b ha hb (by omega) (by have:=NN_ok; omega) k
theorem z37z_l3 (l:List G_Contact) (a:List G_Contact) (hl:l.length≤100000):∀ (xs:List G_Contact) (n i:Nat) (m:List (G_Contact×Bool)),l.drop i = xs→xs.length < n→(∀ w,(ybey w m).getD false = (l.take i).contains w) →
  ∃ m',(∀ w,(ybey w m').getD false = l.contains w)∧∀ (R:Type) (e0:List G_Contact→List (G_Contact×Bool)→Option R),z37z_L3 NN n a l (l.length:Int) (i:Int) m e0 = e0 a m'
 | _,0,_,_,_,h,_=>by omega
 | [],n + 1,i,m,h,_,hm=>by
  have:=yoQy h
  refine ⟨m,fun w=>by rw [hm w,List.take_of_length_le this],fun R e0=>?_⟩
  rw [z37z_L3,yaOy h]; rfl
 | x :: xs,n + 1,i,m,h,hn,hm=>by
  have h':=yapy h
  obtain ⟨m',g1,g2⟩:=z37z_l3 l a hl xs n (i + 1) (ybKy x true m) h'.2.2.1 (by simp at hn; omega) (fun w=>by
   have e:=hm w
   rw [ylBy] at e ⊢
   rw [ylAy,ydyy yb9y,List.take_add_one,h'.1]
   cases hq:yaQy w x with
   | true=>have:=(yb9y w x).1 hq; simp [this]
   | false =>
    have:w ≠ x:=fun e=>by rw [e,(yb9y x x).2 rfl] at hq; cases hq
    simp only [cond_false]
    rw [e]; simp [this])
  refine ⟨m',g1,fun R e0=>?_⟩
  rw [z37z_L3,yaAy h]
  simp only [cond_true,yaZy h]
  rw [yary (by omega)]
  exact g2 R e0
theorem z37z_l9 (l:List G_Contact) (p:G_Contact→Bool) (m:List (G_Contact×Bool)) (hm:∀ w,(ybey w m).getD false = p w) (hl:l.length≤100000):∀ (xs:List G_Contact) (n i:Nat) (out:List G_Contact),l.drop i = xs→xs.length < n→out.length≤i →
  ∀ (R:Type) (e0:List G_Contact→Option R),z37z_L9 NN n l (l.length:Int) (i:Int) m out e0 = e0 (out ++ xs.filter (fun x=>!p x))
 | _,0,_,_,_,h,_,_,_=>by omega
 | [],n + 1,i,out,h,_,_,R,e0=>by rw [z37z_L9,yaOy h]; simp
 | x :: xs,n + 1,i,out,h,hn,ho,R,e0=>by
  have h':=yapy h
  rw [z37z_L9,yaAy h]
  simp only [cond_true,yaZy h,hm]
  rw [room1 out x 96 (by omega) (by omega),yary (by omega)]
  cases hp:p x with
  | true =>
   simp only [Bool.not_true,cond_false]
   rw [z37z_l9 l p m hm hl xs n (i + 1) out h'.2.2.1 (by simp at hn; omega) (by omega) R e0]
   simp [hp]
  | false =>
   simp only [Bool.not_false,cond_true]
   rw [z37z_l9 l p m hm hl xs n (i + 1) (out ++ [x]) h'.2.2.1 (by simp at hn; omega) (by simp; omega) R e0]
   simp [hp]
def lackC (l more:List G_Contact):List G_Contact:=more.filter (fun x=>!l.contains x)
theorem z37z_is {l others:List G_Contact} (h1:l.length≤100000) (h2:others.length≤100000) (R:Type) (k:List G_Contact→Option R):z37z l others k = k (lackC others l):=by
 obtain ⟨m,g1,g2⟩:=z37z_l3 others l h2 others NN 0 [] rfl (by have:=NN_ok; omega) (fun w=>by rw [yjly]; simp)
 have g3:=z37z_l9 l others.contains m g1 h1 l NN 0 [] rfl (by have:=NN_ok; omega) (by simp)
 have g2':∀ (R:Type) (e0:List G_Contact→List (G_Contact×Bool)→Option R),z37z_L3 NN NN l others (others.length:Int) 0 [] e0 = e0 l m:=g2
 have g3':∀ (R:Type) (e0:List G_Contact→Option R),z37z_L9 NN NN l (l.length:Int) 0 m [] e0 = e0 (lackC others l):=g3
 simp only [z37z,z37z_,g2',g3']
end Go.Am
set_option linter.unusedVariables false
set_option linter.unusedSectionVars false
set_option linter.unusedSimpArgs false
set_option maxRecDepth 100000
namespace Go.Am
open Go Go.Proofs
variable [Fuel]
end Go.Am
