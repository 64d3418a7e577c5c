/- The plain law, in Lean alone: S1, C1, C2, E1, D1. No condition: lemmas for the claim. -/
import Derived.Test.YtoajjnhmofegcaaGreatDoorF1
import Derived.Test.YtoajjnhmofegcaaGreatDoorF2
import Derived.Test.YtoajjnhmofegcaaGreatDoorF3
import Derived.Test.YtoajjnhmofegcaaGreatDoorF4
import Derived.Test.YtoajjnhmofegcaaGreatDoorF5
import Derived.Test.YtoajjnhmofegcaaGreatDoorF6
import Derived.Test.YtoajjnhmofegcaaGreatDoorF7
import Derived.Test.YtoajjnhmofegcaaGreatDoorF8
import Derived.Test.YtoajjnhmofegcaaGreatDoorF9
import Derived.Test.YtoajjnhmofegcaaGreatDoorF10
import Derived.Test.YtoajjnhmofegcaaGreatDoorPlB1
import Derived.Test.YtoajjnhmofegcaaGreatDoorPlK
set_option linter.unusedVariables false
set_option linter.unusedSectionVars false
set_option linter.unusedSimpArgs false
set_option maxRecDepth 100000
namespace Go.Am
open Go Go.Proofs
variable [Fuel]
def SOk (b:Int) (s:G_Stream):Prop:=0≤s.f_at∧s.f_at≤b
theorem SOk.mono {a b:Int} {s:G_Stream} (h:SOk a s) (hab:a≤b):SOk b s:=⟨h.1,Int.le_trans h.2 hab⟩
theorem sOk0 (l:List Int):SOk 0 ⟨l,0⟩:=⟨Int.le_refl _,Int.le_refl _⟩
theorem yhcy (x n:Int) (hn:n≤1099511627776):∃ r,0≤r∧(1≤n→r < n)∧(n < 1→r = 0)∧∀ (R:Type) (k:Int→Option R),M_Below x n k = k r:=by
 unfold M_Below yo5y
 by_cases h:n < 1
 ·exact ⟨0,Int.le_refl _,fun h'=>by omega,fun _=>rfl,fun R k=>by simp [h]⟩
 ·have h0:(n == 0) = false:=by simp;omega
  have hb1:=Int.tmod_lt_of_pos x (show 0 < n by omega)
  have hb2:-n < Int.tmod x n:=by
   rcases Int.lt_or_le x 0 with hx | hx
   ·have h1:=Int.tmod_lt_of_pos (-x) (show 0 < n by omega)
    rw [Int.neg_tmod] at h1
    omega
   ·have:=Int.tmod_nonneg n hx
    omega
  by_cases h2:Int.tmod x n < 0
  ·refine ⟨Int.tmod x n + n,by omega,fun _=>by omega,fun h'=>by omega,fun R k=>?_⟩
   rw [yaZy (by omega) (by omega)]
   simp [h,h0,h2]
  ·exact ⟨Int.tmod x n,by omega,fun _=>hb1,fun h'=>by omega,fun R k=>by simp [h,h0,h2]⟩
theorem z29z_gives {b:Int} {s:G_Stream} (hs:SOk b s) (n:Int) (hb:b≤1099511627776) (hn:n≤1099511627776) :
  ∃ r s',0≤r∧(1≤n→r < n)∧SOk (b + 1) s'∧∀ (R:Type) (k:Int→G_Stream→Option R),z29z s n k = k r s':=by
 obtain ⟨l,a⟩:=s
 obtain ⟨ha,ha2⟩:=hs
 simp only at ha ha2
 have e1:w64 (a + 1) = a + 1:=yaZy (by omega) (by omega)
 have e2:w64 (a + 1 - 1) = a:=by rw [yaZy (by omega) (by omega)];omega
 have hso:SOk (b + 1) ⟨l,a + 1⟩:=⟨by simp only;omega,by simp only;omega⟩
 simp only [z29z,z29z_,ytRy,e1,e2]
 cases l with
 | nil =>
  obtain ⟨r,h1,h2,h3,h4⟩:=yhcy (w64 ((a + 1) * 7919)) n hn
  exact ⟨r,_,h1,h2,hso,fun R k=>by simp [h4]⟩
 | cons x xs =>
  have hlen:(0:Int) < ((x::xs).length:Int):=by rw [List.length_cons];omega
  have hne:(((x::xs).length:Int) == 0) = false:=by rw [beq_eq_false_iff_ne];omega
  have h0:=Int.tmod_nonneg ((x::xs).length:Int) ha
  have hlt:=Int.tmod_lt_of_pos a hlen
  obtain ⟨y,hy⟩:∃ y,(x::xs)[(Int.tmod a ((x::xs).length:Int)).toNat]? = some y:=⟨_,List.getElem?_eq_getElem (by omega)⟩
  obtain ⟨r1,_,_,_,g4⟩:=yhcy y 1073741824 (by omega)
  obtain ⟨r,h1,h2,h3,h4⟩:=yhcy (w64 (r1 + w64 (w64 (Int.tdiv a ((x::xs).length:Int)) * w64 (7919 + Int.tmod a ((x::xs).length:Int))))) n hn
  refine ⟨r,_,h1,h2,hso,fun R k=>?_⟩
  simp only [hne,cond_false,get_,h0,decide_true,cond_true,yv9y hy,g4,h4]
theorem z38z_gives {b:Int} {s:G_Stream} (hs:SOk b s) (lo hi:Int) (hb:b≤1099511627776) (h1:-1099511627776≤lo) (h2:hi≤1099511627776) (h3:lo≤hi) (h4:hi - lo≤1099511627775) :
  ∃ r s',lo≤r∧r≤hi∧SOk (b + 1) s'∧∀ (R:Type) (k:Int→G_Stream→Option R),z38z s lo hi k = k r s':=by
 have e:w64 (w64 (hi - lo) + 1) = hi - lo + 1:=by
  rw [yaZy (x:=hi - lo) (by omega) (by omega),yaZy (by omega) (by omega)]
 obtain ⟨r,s',g1,g2,g4,g3⟩:=z29z_gives hs (hi - lo + 1) hb (by omega)
 have:=g2 (by omega)
 refine ⟨lo + r,s',by omega,by omega,g4,fun R k=>?_⟩
 have hd:decide (hi < lo) = false:=by simp;omega
 simp only [z38z,z38z_,yuPy,hd,cond_false,e,g3]
 rw [yaZy (by omega) (by omega)]
theorem z45z_gives {b:Int} {s:G_Stream} (hs:SOk b s) (xs:List Int) (hb:b≤1099511627776) (hx:xs≠[]) (hl:xs.length≤1000) :
  ∃ r s',r∈xs∧SOk (b + 1) s'∧∀ (R:Type) (k:Int→G_Stream→Option R),z45z s xs k = k r s':=by
 obtain ⟨r,s',g1,g2,g4,g3⟩:=z29z_gives hs (xs.length:Int) hb (by omega)
 have hpos:0 < xs.length:=List.length_pos_iff.2 hx
 have:=g2 (by omega)
 have hlt:r.toNat < xs.length:=by omega
 refine ⟨xs[r.toNat],s',List.getElem_mem hlt,g4,fun R k=>?_⟩
 simp only [z45z,z45z_,ytGy,g3,get_,g1,decide_true,cond_true,yv9y (List.getElem?_eq_getElem hlt)]
theorem z20z_gives {b:Int} {s:G_Stream} (hs:SOk b s) (xs:List (List UInt8)) (hb:b≤1099511627776) (hx:xs≠[]) (hl:xs.length≤1000) :
  ∃ r s',r∈xs∧SOk (b + 1) s'∧∀ (R:Type) (k:List UInt8→G_Stream→Option R),z20z s xs k = k r s':=by
 obtain ⟨r,s',g1,g2,g4,g3⟩:=z29z_gives hs (xs.length:Int) hb (by omega)
 have hpos:0 < xs.length:=List.length_pos_iff.2 hx
 have:=g2 (by omega)
 have hlt:r.toNat < xs.length:=by omega
 refine ⟨xs[r.toNat],s',List.getElem_mem hlt,g4,fun R k=>?_⟩
 simp only [z20z,z20z_,yvHy,g3,get_,g1,decide_true,cond_true,yv9y (List.getElem?_eq_getElem hlt)]
theorem z48z_gives {b:Int} {s:G_Stream} (hs:SOk b s) (n:Int) (hb:b≤1099511627776) (hn:n≤1099511627776) :
  ∃ f s',SOk (b + 1) s'∧∀ (R:Type) (k:Bool→G_Stream→Option R),z48z s n k = k f s':=by
 obtain ⟨r,s',g1,g2,g4,g3⟩:=z29z_gives hs n hb hn
 exact ⟨r == 0,s',g4,fun R k=>by simp only [z48z,z48z_,yv8y,g3]⟩
def yely:List (List UInt8):=[[],[107,49],[75,49,65,66],[107,49,97,98,47],[49,97],[107,49,97,98,47,109,109,47,112],[107,49,97,98],[107,49,97,97],[107,49,97,98,47,52],[111,104,50,97,98,99],[111,104,50,97,98,100],[119,49,97,119],[110,49,109,109],[103,51,120,121,122,47,112]]
theorem yb6y {α:Type} [BEq α] [LawfulBEq α] {xs ys:List α} {x:α} (h:x∈xs) (hs:xs.all (fun y=>ys.contains y) = true):x∈ys:=by
 have:=List.all_eq_true.1 hs x h
 simpa using this
theorem z75z_gives {b:Int} {s:G_Stream} (hs:SOk b s) (hb:b≤1099511627000) :
  ∃ r s',r∈yely∧SOk (b + 2) s'∧∀ (R:Type) (k:List UInt8→G_Stream→Option R),z75z s k = k r s':=by
 obtain ⟨f,s1,h1,e1⟩:=z48z_gives hs 60 (by omega) (by omega)
 cases f with
 | true =>
  obtain ⟨r,s2,hr,h2,e2⟩:=z20z_gives h1 [[],[107,49],[75,49,65,66],[107,49,97,98,47],[49,97],[107,49,97,98,47,109,109,47,112]] (by omega) (by simp) (by simp)
  exact ⟨r,s2,yb6y hr (by decide +kernel),h2.mono (by omega),fun R k=>by simp only [z75z,z75z_,yrcy,e1,cond_true,e2]⟩
 | false =>
  obtain ⟨r,s2,hr,h2,e2⟩:=z20z_gives h1 [[107,49,97,98],[107,49,97,97],[107,49,97,98,47,52],[111,104,50,97,98,99],[111,104,50,97,98,100],[119,49,97,119],[110,49,109,109],[103,51,120,121,122,47,112]] (by omega) (by simp) (by simp)
  exact ⟨r,s2,yb6y hr (by decide +kernel),h2.mono (by omega),fun R k=>by simp only [z75z,z75z_,yrcy,e1,cond_false,e2]⟩
theorem ybly {b:Int} {s:G_Stream} (hs:SOk b s) (lo hi:Int) (hb:b≤1099511627000) (h1:-1000000000000≤lo) (h2:hi≤1000000000000) (h3:lo≤hi) (h4:hi - lo≤1000000000000) :
  ∃ r s',-1099511627776≤r∧r≤1099511627776∧SOk (b + 2) s'∧∀ (R:Type) (k:Int→G_Stream→Option R),Stream_Odd s lo hi k = k r s':=by
 obtain ⟨f,s1,g1,e1⟩:=z48z_gives hs 12 (by omega) (by omega)
 cases f with
 | true =>
  obtain ⟨r,s2,hr,g2,e2⟩:=z45z_gives g1 [lo - 1,hi + 1,lo,hi,-1099511627776,1099511627776] (by omega) (by simp) (by simp)
  refine ⟨r,s2,?_,?_,g2.mono (by omega),fun R k=>?_⟩
  ·simp only [List.mem_cons,List.not_mem_nil,or_false] at hr;omega
  ·simp only [List.mem_cons,List.not_mem_nil,or_false] at hr;omega
  ·simp only [Stream_Odd,ygFy,yfNy,e1,cond_true]
   rw [yaZy (x:=lo - 1) (by omega) (by omega),yaZy (x:=hi + 1) (by omega) (by omega),e2]
 | false =>
  obtain ⟨r,s2,r1,r2,g2,e2⟩:=z38z_gives g1 lo hi (by omega) (by omega) (by omega) h3 (by omega)
  exact ⟨r,s2,by omega,by omega,g2.mono (by omega),fun R k=>by simp only [Stream_Odd,ygFy,yfNy,e1,cond_false,e2]⟩
def keysL:List (List UInt8):=[[98,50,48],[98,52,48],[],[66],[102,105,110],[117,115,97],[65],[49],[98,49,54,48],[98,51,48]]
abbrev Mid (x:Int):Prop:=-2199023255552≤x∧x≤2199023255552
structure Fine (c:G_Contact):Prop where
 at1:Mid c.f_At
 mode:Mid c.f_Mode
 sent:Mid c.f_Sent
 heard:Mid c.f_Heard
 band:c.f_Band∈keysL
 call:c.f_Call∈yely
 gave:c.f_Gave∈keysL
 got:c.f_Got∈keysL
theorem z53z_gives {b0:Int} {s:G_Stream} (hs:SOk b0 s) (at0:Int) (hb:b0≤1099511626000) (h1:0≤at0) (h2:at0≤1000000000) :
  ∃ (c:G_Contact) (s':G_Stream),Fine c∧c.f_Heard≤1099511627776∧SOk (b0 + 30) s'∧∀ (R:Type) (k:G_Contact→G_Stream→Option R),z53z s at0 k = k c s':=by
 obtain ⟨m,s1,hm,z1,em⟩:=z45z_gives hs [1,1,2,3] (by omega) (by simp) (by simp)
 obtain ⟨b,s2,hb2,z2,eb⟩:=z20z_gives z1 [[98,50,48],[98,50,48],[98,52,48]] (by omega) (by simp) (by simp)
 obtain ⟨c,s3,hc,z3,ec⟩:=z75z_gives z2 (by omega)
 obtain ⟨s,s4,hs,z4,es⟩:=z45z_gives z3 [0,1,2,3,4,5,6,7] (by omega) (by simp) (by simp)
 obtain ⟨h,s5,hh,z5,eh⟩:=z45z_gives z4 [0,1,2,9] (by omega) (by simp) (by simp)
 obtain ⟨g,s6,hg,z6,eg⟩:=z20z_gives z5 [[],[],[102,105,110]] (by omega) (by simp) (by simp)
 obtain ⟨o,s7,ho,z7,eo⟩:=z20z_gives z6 [[],[],[117,115,97]] (by omega) (by simp) (by simp)
 obtain ⟨f,s8,z8,ef⟩:=z48z_gives z7 100 (by omega) (by omega)
 have kb:b∈keysL:=yb6y hb2 (by decide +kernel)
 have kg:g∈keysL:=yb6y hg (by decide +kernel)
 have ko:o∈keysL:=yb6y ho (by decide +kernel)
 simp only [List.mem_cons,List.not_mem_nil,or_false] at hm hs hh
 simp only [z53z,z53z_,yuvy,em,eb,ec,es,eh,eg,eo,ef]
 cases f with
 | false=>exact ⟨⟨at0,m,b,c,s,h,g,o⟩,s8,⟨⟨by simp only;omega,by simp only;omega⟩,⟨by simp only;omega,by simp only;omega⟩,⟨by simp only;omega,by simp only;omega⟩,⟨by simp only;omega,by simp only;omega⟩,kb,hc,kg,ko⟩,by simp only;omega,z8.mono (by omega),fun R k=>by simp only [cond_false]⟩
 | true =>
  obtain ⟨q,s9,q1,q2,z9,eq⟩:=z29z_gives z8 4 (by omega) (by omega)
  simp only [cond_true,eq]
  by_cases c0:q = 0
  ·obtain ⟨x,t1,x1,x2,y1,ex⟩:=ybly z9 0 500 (by omega) (by omega) (by omega) (by omega) (by omega)
   obtain ⟨y,t2,x3,x4,y2,ey⟩:=ybly y1 1 3 (by omega) (by omega) (by omega) (by omega) (by omega)
   exact ⟨⟨x,y,b,c,s,h,g,o⟩,t2,⟨⟨by simp only;omega,by simp only;omega⟩,⟨by simp only;omega,by simp only;omega⟩,⟨by simp only;omega,by simp only;omega⟩,⟨by simp only;omega,by simp only;omega⟩,kb,hc,kg,ko⟩,by simp only;omega,y2.mono (by omega),fun R k=>by simp only [c0,beq_self_eq_true,cond_true,ex,ey]⟩
  ·have c0':(q == 0) = false:=by simpa using c0
   by_cases c1:q = 1
   ·obtain ⟨x,t1,hx,y1,ex⟩:=z20z_gives z9 [[],[66],[98,50,48]] (by omega) (by simp) (by simp)
    exact ⟨⟨at0,m,x,c,s,h,g,o⟩,t1,⟨⟨by simp only;omega,by simp only;omega⟩,⟨by simp only;omega,by simp only;omega⟩,⟨by simp only;omega,by simp only;omega⟩,⟨by simp only;omega,by simp only;omega⟩,yb6y hx (by decide +kernel),hc,kg,ko⟩,by simp only;omega,y1.mono (by omega),fun R k=>by simp only [c0',cond_false,c1,beq_self_eq_true,cond_true,ex];rfl⟩
   ·have c1':(q == 1) = false:=by simpa using c1
    by_cases c2:q = 2
    ·obtain ⟨x,t1,x1,x2,y1,ex⟩:=ybly z9 0 99999 (by omega) (by omega) (by omega) (by omega) (by omega)
     obtain ⟨y,t2,x3,x4,y2,ey⟩:=ybly y1 0 99999 (by omega) (by omega) (by omega) (by omega) (by omega)
     exact ⟨⟨at0,m,b,c,x,y,g,o⟩,t2,⟨⟨by simp only;omega,by simp only;omega⟩,⟨by simp only;omega,by simp only;omega⟩,⟨by simp only;omega,by simp only;omega⟩,⟨by simp only;omega,by simp only;omega⟩,kb,hc,kg,ko⟩,by simp only;omega,y2.mono (by omega),fun R k=>by simp only [c0',c1',cond_false,c2,beq_self_eq_true,cond_true,ex,ey];rfl⟩
    ·have c2':(q == 2) = false:=by simpa using c2
     obtain ⟨x,t1,hx,y1,ex⟩:=z20z_gives z9 [[],[65]] (by omega) (by simp) (by simp)
     obtain ⟨y,t2,hy,y2,ey⟩:=z20z_gives y1 [[49],[117,115,97]] (by omega) (by simp) (by simp)
     exact ⟨⟨at0,m,b,c,s,h,x,y⟩,t2,⟨⟨by simp only;omega,by simp only;omega⟩,⟨by simp only;omega,by simp only;omega⟩,⟨by simp only;omega,by simp only;omega⟩,⟨by simp only;omega,by simp only;omega⟩,kb,hc,yb6y hx (by decide +kernel),yb6y hy (by decide +kernel)⟩,by simp only;omega,y2.mono (by omega),fun R k=>by simp only [c0',c1',c2',cond_false,ex,ey]⟩
end Go.Am
set_option linter.unusedVariables false
set_option linter.unusedSectionVars false
set_option linter.unusedSimpArgs false
set_option maxRecDepth 100000
namespace Go.Am
open Go Go.Proofs
variable [Fuel]
theorem ysoy (x:Int) (R:Type) (k:Int→Option R):Q_sign x k = k (sgn x):=by
 unfold Q_sign yrRy sgn
 cases decide (x < 0) <;> cases decide (x > 0) <;> rfl
theorem ydJy (a b:List UInt8) (R:Type) (k:Int→Option R):strings_Compare a b k = k (Lib.compareBytes a b):=rfl
theorem z34z_is (a b:Int) (R:Type) (k:Int→Option R):z34z a b k = k (cmpI a b):=by
 have h1:(a != a) = false:=by simp
 have h2:(b != b) = false:=by simp
 simp only [z34z,z34z_,yp1y,z68z,z68z_,h1,h2,cond_false,cmpI]
 cases decide (a < b) <;> cases decide (a > b) <;> rfl
theorem yoDy (l:List Int) (hl:l.length < 1000000):∀ (xs:List Int) (n i:Nat),l.drop i = xs→xs.length < n→∀ (R:Type) (k:Int→Option R),
  z32z_L3 NN n 0 l (l.length:Int) (i:Int) (fun e8 e9=>k e8) (fun e10=>k e10) = k (orL xs)
 | _,0,_,_,h,_,_=>by omega
 | [],n + 1,i,h,_,_,_=>by rw [z32z_L3,ya2y h];rfl
 | x::xs,n + 1,i,h,hn,R,k=>by
  have h':=yavy h
  rw [z32z_L3,yaYy h]
  simp only [cond_true,yaPy h,orL]
  cases hx:x != 0 with
  | true=>rfl
  | false =>
   simp only [cond_false]
   rw [yapy (by omega)]
   exact yoDy l hl xs n (i + 1) h'.2.2.1 (by simp at hn;omega) R k
theorem z32z_is (l:List Int) (hl:l.length < 1000000) (R:Type) (k:Int→Option R):z32z l k = k (orL l) :=
 yoDy l hl l NN 0 rfl (by have:=NN_ok;omega) R k
noncomputable def keyB (s:List UInt8):Bool:=(kit_IsKey s some).getD false
noncomputable def callB (s:List UInt8):Bool:=(call_Is s some).getD false
def ymOy (a b:Option Bool):Bool:=match a,b with | some x,some y=>x == y | _,_=>false
theorem ymty {a b:Option Bool} (h:ymOy a b = true):a = some (a.getD false)∧b = some (a.getD false):=by
 unfold ymOy at h
 split at h
 ·simp at h;subst h;exact ⟨rfl,rfl⟩
 ·cases h
theorem yjgy {a:Option Bool} (h:a.isSome = true):a = some (a.getD false):=by
 cases a with
 | none=>cases h
 | some x=>rfl
theorem yExy:keysL.all (fun s=>(kit_IsKey s some).isSome) = true:=by
 obtain ⟨m,h,rfl⟩:=ycfy ‹Fuel›
 kernel_rfl
theorem yBoy:yely.all (fun s=>(call_Is s some).isSome) = true:=by
 obtain ⟨m,h,rfl⟩:=ycfy ‹Fuel›
 kernel_rfl
theorem yHqy:keysL.all (fun s=>ymOy (kit_IsKey s some) (Q_Key s some)) = true:=by
 obtain ⟨m,h,rfl⟩:=ycfy ‹Fuel›
 kernel_rfl
theorem yD0y:yely.all (fun s=>ymOy (call_Is s some) (Q_Call s some)) = true:=by
 obtain ⟨m,h,rfl⟩:=ycfy ‹Fuel›
 kernel_rfl
theorem ymyy {s:List UInt8} (h:s∈keysL) (R:Type) (k:Bool→Option R):kit_IsKey s k = k (keyB s) :=
 yf5y yc4y.na (args:=[.d (.str s)]) (F:=@kit_IsKey _ s) (fun _ _=>rfl) (yjgy (List.all_eq_true.1 yExy s h)) R k
theorem ypcy {s:List UInt8} (h:s∈keysL) (R:Type) (k:Bool→Option R):Q_Key s k = k (keyB s) :=
 yf5y ykZy.na (args:=[.d (.str s)]) (F:=@Q_Key _ s) (fun _ _=>rfl) (ymty (List.all_eq_true.1 yHqy s h)).2 R k
theorem yzAy {s:List UInt8} (h:s∈yely) (R:Type) (k:Bool→Option R):call_Is s k = k (callB s) :=
 yf5y ypMy.na (args:=[.d (.str s)]) (F:=@call_Is _ s) (fun _ _=>rfl) (yjgy (List.all_eq_true.1 yBoy s h)) R k
theorem yAzy {s:List UInt8} (h:s∈yely) (R:Type) (k:Bool→Option R):Q_Call s k = k (callB s) :=
 yf5y ysDy.na (args:=[.d (.str s)]) (F:=@Q_Call _ s) (fun _ _=>rfl) (ymty (List.all_eq_true.1 yD0y s h)).2 R k
noncomputable def nameB (s:List UInt8):Bool:=bif s == [] then true else keyB s
theorem ylwy {s:List UInt8} (h:s∈keysL) (R:Type) (k:Bool→Option R):kit_IsName s k = k (nameB s):=by
 simp only [kit_IsName,yeBy,ydSy,nameB,ymyy h]
 cases s == [] <;> rfl
def inB (n lo hi:Int):Bool:=bif decide (lo≤n) then decide (n≤hi) else false
theorem yczy {n lo hi:Int}:inB n lo hi = true ↔ lo≤n∧n≤hi:=by
 unfold inB
 by_cases h:lo≤n <;> simp [h]
theorem z39z_is (n lo hi:Int) (R:Type) (k:Bool→Option R):z39z n lo hi k = k (!inB n lo hi):=by
 unfold z39z z39z_ inB
 by_cases h1:n < lo
 ·have h2:¬ lo≤n:=by omega
  rw [decide_eq_true h1,decide_eq_false h2];rfl
 ·have h2:lo≤n:=by omega
  rw [decide_eq_false h1,decide_eq_true h2]
  simp only [cond_false,cond_true]
  congr 1
  by_cases h3:n≤hi
  ·rw [decide_eq_true h3,decide_eq_false (show ¬ n > hi by omega)];rfl
  ·rw [decide_eq_false h3,decide_eq_true (show n > hi by omega)];rfl
theorem ye5y (n lo hi:Int) (R:Type) (k:Bool→Option R):Q_in n lo hi k = k (inB n lo hi):=by
 unfold Q_in Q_in_ inB
 cases decide (lo≤n) <;> rfl
def momB (x:Int):Bool:=inB x 0 345686399999
theorem z55z_is (x:Int) (R:Type) (k:Bool→Option R):z55z x k = k (momB x):=by
 simp only [z55z,z55z_,yt7y,z39z_is,Bool.not_not,momB]
theorem ylyy (x:Int) (R:Type) (k:Bool→Option R):kit_IsMode x k = k (inB x 1 3):=by
 simp only [kit_IsMode,yjhy,yiuy,z39z_is,Bool.not_not]
theorem ycEy (x:Int) (R:Type) (k:Bool→Option R):Q_Moment x k = k (momB x):=by
 simp only [Q_Moment,ymcy,yk6y,ye5y,momB]
noncomputable def chk (c:G_Contact):Int :=
 bif !momB c.f_At then 1 else bif !inB c.f_Mode 1 3 then 4 else bif !keyB c.f_Band then 5 else bif !callB c.f_Call then 3 else
 bif !inB c.f_Sent 0 99999 then 1 else bif !inB c.f_Heard 0 99999 then 1 else bif !nameB c.f_Gave then 5 else bif !nameB c.f_Got then 5 else 0
theorem z52z_is {c:G_Contact} (h:Fine c) (R:Type) (k:Int→Option R):z52z c k = k (chk c):=by
 simp only [z52z,z52z_,ypSy,chk,z55z_is,ylyy,z39z_is,ymyy h.band,yzAy h.call,ylwy h.gave,ylwy h.got]
 cases momB c.f_At <;> cases inB c.f_Mode 1 3 <;> cases keyB c.f_Band <;> cases callB c.f_Call <;> cases inB c.f_Sent 0 99999 <;> cases inB c.f_Heard 0 99999 <;> cases nameB c.f_Gave <;> cases nameB c.f_Got <;> rfl
theorem z58z_is {c:G_Contact} (h:Fine c) (R:Type) (k:Int→Option R):z58z c k = k (chk c):=by
 simp only [z58z,z58z_,ypxy,chk,ycEy,ye5y,ypcy h.band,yAzy h.call,ypcy h.gave,ypcy h.got,nameB]
 cases momB c.f_At <;> cases inB c.f_Mode 1 3 <;> cases keyB c.f_Band <;> cases callB c.f_Call <;> cases inB c.f_Sent 0 99999 <;> cases inB c.f_Heard 0 99999 <;> cases c.f_Gave == [] <;> cases keyB c.f_Gave <;> cases c.f_Got == [] <;> cases keyB c.f_Got <;> rfl
def yfmy {α:Type} (d:List α) (i:Nat) (p:Option α):Prop:=match p with | none=>i = 0 | some q=>0 < i∧∃ xs,d.drop (i - 1) = q::xs
theorem ygyy {α:Type} {d:List α} {i:Nat} {c:α} {cs:List α} (h:d.drop i = c::cs):yfmy d (i + 1) (some c):=⟨by omega,cs,h⟩
end Go.Am
set_option linter.unusedVariables false
set_option linter.unusedSectionVars false
set_option linter.unusedSimpArgs false
set_option maxRecDepth 100000
namespace Go.Am
open Go Go.Proofs
variable [Fuel]
end Go.Am
set_option linter.unusedVariables false
set_option linter.unusedSectionVars false
set_option linter.unusedSimpArgs false
set_option maxRecDepth 100000
namespace Go.Am
open Go Go.Proofs
variable [Fuel]
end Go.Am
set_option linter.unusedVariables false
set_option linter.unusedSectionVars false
set_option linter.unusedSimpArgs false
set_option maxRecDepth 100000
namespace Go.Am
open Go Go.Proofs
variable [Fuel]
end Go.Am
