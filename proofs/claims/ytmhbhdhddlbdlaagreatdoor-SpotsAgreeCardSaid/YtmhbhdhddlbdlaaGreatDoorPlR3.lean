/- The plain law, in Lean alone: R3. No condition: lemmas for the claim. -/
import Derived.Test.YtmhbhdhddlbdlaaGreatDoorPlR1
import Derived.Test.YtmhbhdhddlbdlaaGreatDoorPlS1
set_option linter.unusedVariables false
set_option linter.unusedSectionVars false
set_option linter.unusedSimpArgs false
set_option maxRecDepth 100000
namespace Go.Am
open Go Go.Proofs
variable [Fuel]
def okSeg (cls:List UInt8) (mode at0:Int) (s:G_Segment):Bool:=s.f_Class == cls && ((mode == 0 || s.f_Modes.any (fun y=>mode == y)) && (decide (s.f_Time.f_From≤at0) && decide (at0 < s.f_Time.f_To)))
def permL (cls:List UInt8) (mode at0:Int):List G_Row→List G_Segment→List G_Row
 | out,[]=>out
 | out,s :: ss=>bif okSeg cls mode at0 s then permL cls mode at0 (out ++ [⟨s.f_Low,s.f_High⟩]) ss else permL cls mode at0 out ss
theorem yiNy (cls:List UInt8) (mode at0:Int):∀ (l:List G_Segment) (out:List G_Row) (r:G_Row),r ∈ permL cls mode at0 out l→r ∈ out ∨ ∃ s ∈ l,r = ⟨s.f_Low,s.f_High⟩
 | [],out,r,h=>.inl h
 | s :: ss,out,r,h=>by
  unfold permL at h
  cases hq:okSeg cls mode at0 s with
  | true =>
   rw [hq] at h
   rcases yiNy cls mode at0 ss _ r h with h | ⟨x,hx,h⟩
   ·rcases List.mem_append.1 h with h | h
    ·exact .inl h
    ·simp at h; exact .inr ⟨s,by simp,h⟩
   ·exact .inr ⟨x,by simp [hx],h⟩
  | false =>
   rw [hq] at h
   rcases yiNy cls mode at0 ss _ r h with h | ⟨x,hx,h⟩
   ·exact .inl h
   ·exact .inr ⟨x,by simp [hx],h⟩
theorem yl5y (cls:List UInt8) (mode at0:Int):∀ (l:List G_Segment) (out:List G_Row),(permL cls mode at0 out l).length≤out.length + l.length
 | [],out=>by simp [permL]
 | s :: ss,out=>by
  unfold permL
  have h1:=yl5y cls mode at0 ss (out ++ [⟨s.f_Low,s.f_High⟩])
  have h2:=yl5y cls mode at0 ss out
  simp at h1
  cases okSeg cls mode at0 s <;> simp <;> omega
theorem z53z_is {l:List Int} (hl:l.length≤1000) (v:Int) (R:Type) (k:Bool→Option R):z53z l v k = k (l.any fun y=>v == y):=by
 simp only [z53z,z53z_,ywry,yHmy]
 rw [yAZy _ v l (by have:=NN_ok; omega) (by have:=NN_ok; omega),yzBy]
theorem yAry (w:G_Window) (at0:Int) (R:Type) (k:Bool→Option R):kit_Has w at0 k = k (decide (w.f_From≤at0) && decide (at0 < w.f_To)):=by
 simp only [kit_Has,yoWy]
 cases decide (w.f_From≤at0) <;> rfl
theorem z28z_loop (l:List G_Segment) (hm:∀ s ∈ l,s.f_Modes.length≤1000) (hl:l.length≤1000) (cls:List UInt8) (mode at0:Int):∀ (xs:List G_Segment) (n i:Nat) (out:List G_Row),l.drop i = xs→xs.length < n→out.length≤i →
  ∀ (R:Type) (e0:List G_Row→Option R),z28z_L3 ycVy n cls mode at0 l (l.length:Int) (i:Int) out e0 = e0 (permL cls mode at0 out xs)
 | _,0,_,_,_,h,_,_,_=>by omega
 | [],n + 1,i,out,h,_,_,R,e0=>by rw [z28z_L3,ybqy h]; rfl
 | s :: ss,n + 1,i,out,h,hn,ho,R,e0=>by
  have h':=yaqy h
  have ih1:=z28z_loop l hm hl cls mode at0 ss n (i + 1) (out ++ [⟨s.f_Low,s.f_High⟩]) h'.2.2.1 (by simp at hn; omega) (by simp; omega) R e0
  have ih2:=z28z_loop l hm hl cls mode at0 ss n (i + 1) out h'.2.2.1 (by simp at hn; omega) (by omega) R e0
  rw [z28z_L3,ybdy h]
  simp only [ycVy] at ih1 ih2
  simp only [cond_true,ya2y h,ycVy,yAry,z53z_is (hm s (ybPy h)),yauy (show i < 4611686018427387904 by omega),room1 out _ 16 (show out.length≤1000000 by omega) (by omega),ih1,ih2,permL,okSeg]
  cases s.f_Class == cls <;> cases mode == 0 <;> cases (s.f_Modes.any fun y=>mode == y) <;> cases decide (s.f_Time.f_From≤at0) <;> cases decide (at0 < s.f_Time.f_To) <;> rfl
structure GoodG (s:G_Segment):Prop where
 low:0≤s.f_Low
 lt:s.f_Low < s.f_High
 high:s.f_High≤30000000000
theorem yDcy {l:List G_Segment} (hg:∀ s ∈ l,GoodG s) (cls:List UInt8) (mode at0:Int):BigR (permL cls mode at0 [] l)∧∀ r ∈ permL cls mode at0 [] l,r.f_From < r.f_To:=by
 constructor
 ·intro r hr
  rcases yiNy cls mode at0 l [] r hr with h | ⟨s,hs,rfl⟩
  ·cases h
  ·have:=hg s hs; have:=this.low; have:=(hg s hs).lt; have:=(hg s hs).high; simp only; omega
 ·intro r hr
  rcases yiNy cls mode at0 l [] r hr with h | ⟨s,hs,rfl⟩
  ·cases h
  ·exact (hg s hs).lt
theorem z28z_is {l:List G_Segment} (hm:∀ s ∈ l,s.f_Modes.length≤1000) (hg:∀ s ∈ l,GoodG s) (hl:l.length≤500) (cls:List UInt8) (mode at0:Int) :
  (rowsL (permL cls mode at0 [] l) []).length≤l.length∧∀ (R:Type) (k:List G_Row→Option R),z28z l cls mode at0 k = k (rowsL (permL cls mode at0 [] l) []):=by
 obtain ⟨b1,b2⟩:=yDcy hg cls mode at0
 have hlen:=yl5y cls mode at0 l []
 obtain ⟨J,j1,j2,j3,j4⟩:=z11z_is b1 b2 (by simp at hlen; omega)
 obtain ⟨r1,r2⟩:=yo1y (permL cls mode at0 [] l) []
 have e:J = rowsL (permL cls mode at0 [] l) []:=yrKy j1 r1 fun n=>by rw [j2,r2]; simp [cov]
 have h:∀ (R:Type) (e0:List G_Row→Option R),z28z_L3 ycVy ycVy.N cls mode at0 l (l.length:Int) 0 [] e0 = e0 (permL cls mode at0 [] l):=fun R e0 =>
  z28z_loop l hm (by omega) cls mode at0 l NN 0 [] rfl (by have:=NN_ok; omega) (by simp) R e0
 rw [← e]
 refine ⟨by simp at hlen; omega,fun R k=>?_⟩
 simp only [z28z,z28z_,h]
 simp only [ycVy,j4]
theorem ytuy (r u:G_Row) (R:Type) (k:Bool→G_Row→Option R):band_May_1 r u k = k (decide (r.f_From≤u.f_From) && decide (u.f_To≤r.f_To)) u:=by
 simp only [band_May_1,yiWy]
 cases decide (r.f_From≤u.f_From) <;> rfl
theorem yJJy {l:List G_Row} (hl:l.length≤100000) (u:G_Row) (R:Type) (k:Bool→G_Row→Option R):z29z l u k = k (l.any fun r=>decide (r.f_From≤u.f_From) && decide (u.f_To≤r.f_To)) u:=by
 simp only [z29z,z29z_,yt9y,yJ6y]
 rw [yz9y _ (fun r=>decide (r.f_From≤u.f_From) && decide (u.f_To≤r.f_To)) u l (fun x hx R k=>ytuy x u R k) (by have:=NN_ok; omega) (by have:=NN_ok; omega),yzBy]
def usedR (hertz width:Int):G_Row:=⟨w64 (hertz - w64 (Int.tdiv width 2)),w64 (w64 (hertz - w64 (Int.tdiv width 2)) + width)⟩
end Go.Am
