/- The plain law, in Lean alone: U2, U3. No condition: lemmas for the claim. -/
import Derived.Test.YtoajjnhmofegcaaGreatDoorPlT4
import Derived.Test.YtoajjnhmofegcaaGreatDoorPlV6
import Derived.Test.YtoajjnhmofegcaaGreatDoorPlR4
set_option linter.unusedVariables false
set_option linter.unusedSectionVars false
set_option linter.unusedSimpArgs false
set_option maxRecDepth 100000
namespace Go.Am
open Go Go.Proofs
variable [Fuel]
def ydfy (w:List UInt8):Prop:=w.contains 32 = false∧w.contains 10 = false∧w≠[]
theorem ydNy {n:Int} (h:0≤n):ydfy (Lib.itoa n):=by
 obtain ⟨u,rfl⟩:∃ u:Nat,n = (u:Int):=⟨n.toNat,by omega⟩
 rw [Lib.itoa_nonneg]
 exact ⟨yyGy (by decide),yyGy (by decide),yriy u⟩
theorem yu2y:keyB [] = false:=by
 unfold keyB
 rw [ygBy (by simp)];rfl
theorem yzqy:callB [] = false:=by
 obtain ⟨m,h,rfl⟩:=ycfy ‹Fuel›
 kernel_rfl
theorem yEgy {s:List UInt8} (hs:s∈keysL) (hb:keyB s = true):ydfy s:=by
 have h:∀ s∈keysL,s.contains 32 = false∧s.contains 10 = false:=by decide
 refine ⟨(h s hs).1,(h s hs).2,?_⟩
 rintro rfl
 rw [yu2y] at hb;cases hb
theorem ylUy {s:List UInt8} (hs:s∈ycNy) (hb:keyB s = true):ydfy s:=by
 have h:∀ s∈ycNy,s.contains 32 = false∧s.contains 10 = false:=by decide
 refine ⟨(h s hs).1,(h s hs).2,?_⟩
 rintro rfl
 rw [yu2y] at hb;cases hb
theorem yzHy {s:List UInt8} (hs:s∈yely) (hb:callB s = true):ydfy s:=by
 have h:∀ s∈yely,s.contains 32 = false∧s.contains 10 = false:=by decide
 refine ⟨(h s hs).1,(h s hs).2,?_⟩
 rintro rfl
 rw [yzqy] at hb;cases hb
theorem ysby {s:List UInt8} (hs:s∈keysL):ydfy (dashS s)∧ybqy (dashS s) = s:=by
 have h:∀ s∈keysL,((dashS s).contains 32 = false∧(dashS s).contains 10 = false∧dashS s≠[])∧ybqy (dashS s) = s:=by decide
 exact h s hs
theorem yB3y {m:Int} (h:1≤m∧m≤3):ydfy (modeW m)∧idxG (modeW m) yaHy = m:=by
 have:m = 1 ∨ m = 2 ∨ m = 3:=by omega
 rcases this with rfl | rfl | rfl <;> exact ⟨by unfold ydfy;decide,by decide⟩
theorem yB1y {c:G_Contact} (h:chk c = 0):(0≤c.f_At∧c.f_At≤345686399999)∧(1≤c.f_Mode∧c.f_Mode≤3)∧keyB c.f_Band = true∧callB c.f_Call = true∧(0≤c.f_Sent∧c.f_Sent≤99999)∧(0≤c.f_Heard∧c.f_Heard≤99999):=by
 unfold chk at h
 cases h1:momB c.f_At with
 | false=>rw [h1] at h;cases h
 | true =>
  cases h2:inB c.f_Mode 1 3 with
  | false=>rw [h1,h2] at h;cases h
  | true =>
   cases h3:keyB c.f_Band with
   | false=>rw [h1,h2,h3] at h;cases h
   | true =>
    cases h4:callB c.f_Call with
    | false=>rw [h1,h2,h3,h4] at h;cases h
    | true =>
     cases h5:inB c.f_Sent 0 99999 with
     | false=>rw [h1,h2,h3,h4,h5] at h;cases h
     | true =>
      cases h6:inB c.f_Heard 0 99999 with
      | false=>rw [h1,h2,h3,h4,h5,h6] at h;cases h
      | true=>exact ⟨yczy.1 h1,yczy.1 h2,rfl,rfl,yczy.1 h5,yczy.1 h6⟩
theorem yxzy {c:G_Contact} (hf:Fine c) (h:chk c = 0):(∀ w∈ybIy c,ydfy w)∧contB (ybIy c) = true∧contQ (ybIy c) = c:=by
 obtain ⟨h1,h2,h3,h4,h5,h6⟩:=yB1y h
 have n1:=ypjy (n:=c.f_At) (by omega) (by omega)
 have n2:=ypjy (n:=c.f_Sent) (by omega) (by omega)
 have n3:=ypjy (n:=c.f_Heard) (by omega) (by omega)
 have m1:=yB3y h2
 have d1:=ysby hf.gave
 have d2:=ysby hf.got
 refine ⟨?_,?_,?_⟩
 ·intro w hw
  unfold ybIy at hw
  simp only [List.mem_cons,List.not_mem_nil,or_false] at hw
  rcases hw with rfl | rfl | rfl | rfl | rfl | rfl | rfl | rfl
  ·exact ydNy h1.1
  ·exact m1.1
  ·exact yEgy hf.band h3
  ·exact yzHy hf.call h4
  ·exact ydNy h5.1
  ·exact d1.1
  ·exact ydNy h6.1
  ·exact d2.1
 ·show ([Lib.itoa c.f_At,Lib.itoa c.f_Sent,Lib.itoa c.f_Heard].all numB&&decide (idxG (modeW c.f_Mode) yaHy > 0)) = true
  rw [m1.2,decide_eq_true (by omega)]
  simp [n1.1,n2.1,n3.1]
 ·show (⟨numQ (Lib.itoa c.f_At),idxG (modeW c.f_Mode) yaHy,c.f_Band,c.f_Call,numQ (Lib.itoa c.f_Sent),numQ (Lib.itoa c.f_Heard),ybqy (dashS c.f_Gave),ybqy (dashS c.f_Got)⟩:G_Contact) = c
  rw [n1.2,m1.2,n2.2,n3.2,d1.2,d2.2]
def noCon:G_Contact:=⟨0,0,[],[],0,0,[],[]⟩
structure DeedOk (x:G_Deed):Prop where
 fine:FineD x
 site:keyB x.f_Site = true
 no:1≤x.f_No∧x.f_No≤1000000
 at1:0≤x.f_At∧x.f_At≤345686399999
 kinds:(x.f_Kind = 1∧chk x.f_Contact = 0∧x.f_Band = []∧x.f_Of = []∧x.f_Other = 0) ∨ (x.f_Kind = 2∧keyB x.f_Band = true∧x.f_Contact = noCon∧x.f_Of = []∧x.f_Other = 0) ∨
  ((x.f_Kind = 3 ∨ x.f_Kind = 4)∧(1≤x.f_Contact.f_Sent∧x.f_Contact.f_Sent≤99999)∧x.f_Contact = ⟨0,0,[],[],x.f_Contact.f_Sent,0,[],[]⟩∧x.f_Band = []∧x.f_Of = []∧x.f_Other = 0) ∨
  (x.f_Kind = 5∧keyB x.f_Of = true∧(1≤x.f_Other∧x.f_Other≤1000000)∧x.f_Contact = noCon∧x.f_Band = [])
theorem ybjy {s:List UInt8} (h:s∈ycNy):s.length≤100∧ascB s:=by
 have:∀ s∈ycNy,s.length≤100∧∀ x∈s,x.toNat < 128:=by decide
 exact this s h
theorem idle1 {x:G_Deed} (hk:x.f_Kind = 1) (R:Type) (k:Bool→Option R):net_idle x k = (bif x.f_Band == [] then (bif x.f_Of == [] then k (x.f_Other == 0) else k false) else k false):=by
 show yawy NN x k = _
 unfold yawy
 rw [hk];rfl
theorem idle2 {x:G_Deed} (hk:x.f_Kind = 2) (R:Type) (k:Bool→Option R):net_idle x k = (bif yaky x.f_Contact noCon then (bif x.f_Of == [] then k (x.f_Other == 0) else k false) else k false):=by
 show yawy NN x k = _
 unfold yawy
 rw [hk];rfl
theorem idle3 {x:G_Deed} (hk:x.f_Kind = 3) (R:Type) (k:Bool→Option R):net_idle x k = (bif yaky x.f_Contact ⟨0,0,[],[],x.f_Contact.f_Sent,0,[],[]⟩ then (bif x.f_Band == [] then (bif x.f_Of == [] then k (x.f_Other == 0) else k false) else k false) else k false):=by
 show yawy NN x k = _
 unfold yawy
 rw [hk];rfl
theorem idle4 {x:G_Deed} (hk:x.f_Kind = 4) (R:Type) (k:Bool→Option R):net_idle x k = (bif yaky x.f_Contact ⟨0,0,[],[],x.f_Contact.f_Sent,0,[],[]⟩ then (bif x.f_Band == [] then (bif x.f_Of == [] then k (x.f_Other == 0) else k false) else k false) else k false):=by
 show yawy NN x k = _
 unfold yawy
 rw [hk];rfl
theorem idle5 {x:G_Deed} (hk:x.f_Kind = 5) (R:Type) (k:Bool→Option R):net_idle x k = (bif yaky x.f_Contact noCon then (bif x.f_Band == [] then k true else k false) else k false):=by
 show yawy NN x k = _
 unfold yawy
 rw [hk];rfl
theorem used1 {x:G_Deed} (hf:FineD x) (hk:x.f_Kind = 1) (hc:chk x.f_Contact = 0) (R:Type) (k:Int→Option R):z23z x k = (bif decide (x.f_Contact.f_At > x.f_At) then k 1 else k 0):=by
 have o6:∀ k:Int→Option R,yity.z52z x.f_Contact k = k (chk x.f_Contact):=fun k=>z52z_is hf.con R k
 have o1:z69z x k = (bif decide (x.f_Contact.f_At > x.f_At) then k 1 else k 0):=by
  show z69z_ yity x k = _
  unfold z69z_
  rw [o6,hc];rfl
 show z23z_ ya6y x k = _
 unfold z23z_
 rw [hk]
 exact o1
theorem used2 {x:G_Deed} (hf:FineD x) (hk:x.f_Kind = 2) (R:Type) (k:Int→Option R):z23z x k = (bif !keyB x.f_Band then k 5 else k 0):=by
 have o2:∀ k:Bool→Option R,ya6y.kit_IsKey x.f_Band k = k (keyB x.f_Band):=fun k=>ycdy (by have:=ybjy hf.band;omega) R k
 show z23z_ ya6y x k = _
 unfold z23z_
 rw [hk]
 exact o2 _
theorem yAvy {x:G_Deed} (hk:x.f_Kind = 3 ∨ x.f_Kind = 4) (R:Type) (k:Int→Option R):z23z x k = (bif !inB x.f_Contact.f_Sent 1 99999 then k 1 else k 0):=by
 have o5:∀ k:Bool→Option R,ya6y.z39z x.f_Contact.f_Sent 1 99999 k = k (!inB x.f_Contact.f_Sent 1 99999):=fun k=>z39z_is _ _ _ R k
 show z23z_ ya6y x k = _
 unfold z23z_
 rcases hk with hk | hk <;> rw [hk] <;> exact o5 _
theorem used5 {x:G_Deed} (hf:FineD x) (hk:x.f_Kind = 5) (R:Type) (k:Int→Option R):z23z x k = (bif !keyB x.f_Of then k 5 else bif !inB x.f_Other 1 1000000 then k 1 else k 0):=by
 have o3:∀ k:Bool→Option R,ya6y.kit_IsKey x.f_Of k = k (keyB x.f_Of):=fun k=>ycdy (by have:=ybjy hf.of1;omega) R k
 have o4:∀ k:Bool→Option R,ya6y.z39z x.f_Other 1 1000000 k = k (!inB x.f_Other 1 1000000):=fun k=>z39z_is _ _ _ R k
 show z23z_ ya6y x k = _
 unfold z23z_
 rw [hk]
 refine (o3 _).trans ?_
 rw [o4]
theorem no1 (h:some (1:Int) = some 0):False:=by cases h
theorem no3 (h:some (3:Int) = some 0):False:=by cases h
theorem no4 (h:some (4:Int) = some 0):False:=by cases h
theorem no5 (h:some (5:Int) = some 0):False:=by cases h
theorem yxey {x:G_Deed} (hf:FineD x) (h:net_formed x some = some (0:Int)):keyB x.f_Site = true∧inB x.f_No 1 1000000 = true∧momB x.f_At = true∧inB x.f_Kind 1 5 = true ∧
  (z23z x fun r6=>bif r6 != 0 then some r6 else net_idle x fun r7=>bif !r7 then some (3:Int) else some 0) = some 0:=by
 have f1:∀ k:Bool→Option Int,ybuy.kit_IsKey x.f_Site k = k (keyB x.f_Site):=fun k=>ycdy (by have:=ybjy hf.site;omega) Int k
 have f2:∀ k:Bool→Option Int,ybuy.z39z x.f_No 1 1000000 k = k (!inB x.f_No 1 1000000):=fun k=>z39z_is _ _ _ Int k
 have f3:∀ k:Bool→Option Int,ybuy.z55z x.f_At k = k (momB x.f_At):=fun k=>z55z_is _ Int k
 have f4:∀ k:Bool→Option Int,ybuy.z39z x.f_Kind 1 5 k = k (!inB x.f_Kind 1 5):=fun k=>z39z_is _ _ _ Int k
 have h:ycDy ybuy x some = some 0:=h
 unfold ycDy at h
 rw [f1] at h
 cases c1:keyB x.f_Site with
 | false=>rw [c1] at h;exact (no5 h).elim
 | true =>
  rw [c1,Bool.not_true,cond_false,f2] at h
  cases c2:inB x.f_No 1 1000000 with
  | false=>rw [c2] at h;exact (no1 h).elim
  | true =>
   rw [c2,Bool.not_true,cond_false,f3] at h
   cases c3:momB x.f_At with
   | false=>rw [c3] at h;exact (no1 h).elim
   | true =>
    rw [c3,Bool.not_true,cond_false,f4] at h
    cases c4:inB x.f_Kind 1 5 with
    | false=>rw [c4] at h;exact (no4 h).elim
    | true =>
     rw [c4,Bool.not_true,cond_false] at h
     exact ⟨rfl,rfl,rfl,rfl,h⟩
theorem mask {b:Bool} (h:(bif !b then some (3:Int) else some 0) = some 0):b = true:=by
 cases b
 ·exact (no3 h).elim
 ·rfl
theorem yycy {x:G_Deed} (hf:FineD x) (h0:fD x = 0):DeedOk x:=by
 obtain ⟨g,gc⟩:=yr0y hf h0
 obtain ⟨c1,c2,c3,c4,h⟩:=yxey hf (g Int some)
 have hk:=yczy.1 c4
 refine ⟨hf,c1,yczy.1 c2,yczy.1 c3,?_⟩
 have kk:x.f_Kind = 1 ∨ x.f_Kind = 2 ∨ x.f_Kind = 3 ∨ x.f_Kind = 4 ∨ x.f_Kind = 5:=by omega
 rcases kk with hk | hk | hk | hk | hk
 ·left
  have hc:=gc hk
  rw [used1 hf hk hc] at h
  cases d1:decide (x.f_Contact.f_At > x.f_At) with
  | true=>rw [d1] at h;exact (no1 h).elim
  | false =>
   rw [d1,cond_false,bne_self_eq_false,cond_false,idle1 hk] at h
   cases e1:x.f_Band == [] with
   | false=>rw [e1] at h;exact (no3 h).elim
   | true =>
    rw [e1,cond_true] at h
    cases e2:x.f_Of == [] with
    | false=>rw [e2] at h;exact (no3 h).elim
    | true =>
     rw [e2,cond_true] at h
     exact ⟨hk,hc,beq_iff_eq.1 e1,beq_iff_eq.1 e2,beq_iff_eq.1 (mask h)⟩
 ·right;left
  rw [used2 hf hk] at h
  cases d1:keyB x.f_Band with
  | false=>rw [d1] at h;exact (no5 h).elim
  | true =>
   rw [d1,Bool.not_true,cond_false,bne_self_eq_false,cond_false,idle2 hk] at h
   cases e0:yaky x.f_Contact noCon with
   | false=>rw [e0] at h;exact (no3 h).elim
   | true =>
    rw [e0,cond_true] at h
    cases e2:x.f_Of == [] with
    | false=>rw [e2] at h;exact (no3 h).elim
    | true =>
     rw [e2,cond_true] at h
     exact ⟨hk,rfl,(yb7y _ _).1 e0,beq_iff_eq.1 e2,beq_iff_eq.1 (mask h)⟩
 ·right;right;left
  rw [yAvy (.inl hk)] at h
  cases d1:inB x.f_Contact.f_Sent 1 99999 with
  | false=>rw [d1] at h;exact (no1 h).elim
  | true =>
   rw [d1,Bool.not_true,cond_false,bne_self_eq_false,cond_false,idle3 hk] at h
   cases e0:yaky x.f_Contact ⟨0,0,[],[],x.f_Contact.f_Sent,0,[],[]⟩ with
   | false=>rw [e0] at h;exact (no3 h).elim
   | true =>
    rw [e0,cond_true] at h
    cases e1:x.f_Band == [] with
    | false=>rw [e1] at h;exact (no3 h).elim
    | true =>
     rw [e1,cond_true] at h
     cases e2:x.f_Of == [] with
     | false=>rw [e2] at h;exact (no3 h).elim
     | true =>
      rw [e2,cond_true] at h
      exact ⟨.inl hk,yczy.1 d1,(yb7y _ _).1 e0,beq_iff_eq.1 e1,beq_iff_eq.1 e2,beq_iff_eq.1 (mask h)⟩
 ·right;right;left
  rw [yAvy (.inr hk)] at h
  cases d1:inB x.f_Contact.f_Sent 1 99999 with
  | false=>rw [d1] at h;exact (no1 h).elim
  | true =>
   rw [d1,Bool.not_true,cond_false,bne_self_eq_false,cond_false,idle4 hk] at h
   cases e0:yaky x.f_Contact ⟨0,0,[],[],x.f_Contact.f_Sent,0,[],[]⟩ with
   | false=>rw [e0] at h;exact (no3 h).elim
   | true =>
    rw [e0,cond_true] at h
    cases e1:x.f_Band == [] with
    | false=>rw [e1] at h;exact (no3 h).elim
    | true =>
     rw [e1,cond_true] at h
     cases e2:x.f_Of == [] with
     | false=>rw [e2] at h;exact (no3 h).elim
     | true =>
      rw [e2,cond_true] at h
      exact ⟨.inr hk,yczy.1 d1,(yb7y _ _).1 e0,beq_iff_eq.1 e1,beq_iff_eq.1 e2,beq_iff_eq.1 (mask h)⟩
 ·right;right;right
  rw [used5 hf hk] at h
  cases d1:keyB x.f_Of with
  | false=>rw [d1] at h;exact (no5 h).elim
  | true =>
   rw [d1,Bool.not_true,cond_false] at h
   cases d2:inB x.f_Other 1 1000000 with
   | false=>rw [d2] at h;exact (no1 h).elim
   | true =>
    rw [d2,Bool.not_true,cond_false,bne_self_eq_false,cond_false,idle5 hk] at h
    cases e0:yaky x.f_Contact noCon with
    | false=>rw [e0] at h;exact (no3 h).elim
    | true =>
     rw [e0,cond_true] at h
     cases e1:x.f_Band == [] with
     | false=>rw [e1] at h;exact (no3 h).elim
     | true=>exact ⟨hk,rfl,yczy.1 d2,(yb7y _ _).1 e0,beq_iff_eq.1 e1⟩
end Go.Am
set_option linter.unusedVariables false
set_option linter.unusedSectionVars false
set_option linter.unusedSimpArgs false
set_option maxRecDepth 100000
namespace Go.Am
open Go Go.Proofs
variable [Fuel]
def ycLy:List (List UInt8):=[[],[108,111,103],[116,117,110,101],[104,101,108,100],[102,114,101,101],[117,110,100,111]]
def kindW (m:Int):List UInt8:=(ycLy[m.toNat]?).getD []
def restD (x:G_Deed):List (List UInt8):=bif x.f_Kind == 1 then ybIy x.f_Contact else bif x.f_Kind == 2 then [x.f_Band] else bif x.f_Kind == 5 then [x.f_Of,Lib.itoa x.f_Other] else [Lib.itoa x.f_Contact.f_Sent]
def ye9y (x:G_Deed):List (List UInt8):=x.f_Site::Lib.itoa x.f_No::Lib.itoa x.f_At::kindW x.f_Kind::restD x
def lineD (x:G_Deed):List UInt8:=Lib.join (ye9y x) [32]
theorem ynjy {x:G_Deed} (h:DeedOk x):1≤x.f_Kind∧x.f_Kind≤5:=by
 rcases h.kinds with h | h | h | h
 ·omega
 ·omega
 ·omega
 ·omega
theorem yqcy {m:Int} (h:1≤m∧m≤5):ydfy (kindW m)∧idxG (kindW m) ycLy = m∧(kindW m).length≤10:=by
 have:m = 1 ∨ m = 2 ∨ m = 3 ∨ m = 4 ∨ m = 5:=by omega
 rcases this with rfl | rfl | rfl | rfl | rfl <;> exact ⟨by unfold ydfy;decide,by decide,by decide⟩
theorem yC3y {m:Int} (h:1≤m∧m≤5) (R:Type) (k:List UInt8→Option R):inr ycLy m (at_ ycLy m k) = k (kindW m):=by
 have:m = 1 ∨ m = 2 ∨ m = 3 ∨ m = 4 ∨ m = 5:=by omega
 rcases this with rfl | rfl | rfl | rfl | rfl <;> rfl
theorem yaJy {n:Int} (h0:0≤n) (h1:n≤1000000000000):Wide n:=⟨by omega,by omega⟩
theorem yiIy {x:G_Deed} (h:DeedOk x) (hk:x.f_Kind = 1):Short x.f_Contact∧chk x.f_Contact = 0:=by
 rcases h.kinds with g | g | g | g
 ·have:=yC0y g.2.1
  exact ⟨yzjy h.fine.con ⟨by omega,by omega⟩,g.2.1⟩
 ·omega
 ·omega
 ·omega
theorem yjfy {x:G_Deed} (h:DeedOk x):restD x≠[]∧∀ w∈restD x,ydfy w∧w.length≤100:=by
 unfold restD
 rcases h.kinds with g | g | g | g
 ·rw [g.1]
  refine ⟨List.cons_ne_nil _ _,fun w hw=>⟨(yxzy h.fine.con g.2.1).1 w hw,(ydWy (yiIy h g.1).1 w hw).1⟩⟩
 ·rw [g.1]
  refine ⟨List.cons_ne_nil _ _,fun w hw=>?_⟩
  have hw:w = x.f_Band:=List.mem_singleton.1 hw
  rw [hw]
  exact ⟨ylUy h.fine.band g.2.1,(ybjy h.fine.band).1⟩
 ·have i:=ybky (yaJy (n:=x.f_Contact.f_Sent) (by omega) (by omega))
  have e:(bif x.f_Kind == 1 then ybIy x.f_Contact else bif x.f_Kind == 2 then [x.f_Band] else bif x.f_Kind == 5 then [x.f_Of,Lib.itoa x.f_Other] else [Lib.itoa x.f_Contact.f_Sent]) = [Lib.itoa x.f_Contact.f_Sent]:=by
   rcases g.1 with hk | hk <;> rw [hk] <;> rfl
  rw [e]
  refine ⟨List.cons_ne_nil _ _,fun w hw=>?_⟩
  rw [List.mem_singleton.1 hw]
  exact ⟨ydNy (by omega),by omega⟩
 ·have i:=ybky (yaJy (n:=x.f_Other) (by omega) (by omega))
  rw [g.1]
  refine ⟨List.cons_ne_nil _ _,fun w hw=>?_⟩
  have hw:w = x.f_Of ∨ w = Lib.itoa x.f_Other:=by
   have hw:w∈[x.f_Of,Lib.itoa x.f_Other]:=hw
   simpa using hw
  rcases hw with rfl | rfl
  ·exact ⟨ylUy h.fine.of1 g.2.1,(ybjy h.fine.of1).1⟩
  ·exact ⟨ydNy (by omega),by omega⟩
theorem ys3y {x:G_Deed} (h:DeedOk x):∀ w∈ye9y x,ydfy w∧w.length≤100:=by
 intro w hw
 have hn:=h.no
 have ha:=h.at1
 have i1:=ybky (yaJy (n:=x.f_No) (by omega) (by omega))
 have i2:=ybky (yaJy (n:=x.f_At) (by omega) (by omega))
 have k1:=yqcy (ynjy h)
 unfold ye9y at hw
 simp only [List.mem_cons] at hw
 rcases hw with rfl | rfl | rfl | rfl | hw
 ·exact ⟨ylUy h.fine.site h.site,(ybjy h.fine.site).1⟩
 ·exact ⟨ydNy (by omega),by omega⟩
 ·exact ⟨ydNy (by omega),by omega⟩
 ·exact ⟨k1.1,by omega⟩
 ·exact (yjfy h).2 w hw
theorem ysly (x:G_Deed):(restD x).length≤8:=by
 unfold restD
 cases x.f_Kind == 1 with
 | true=>exact Nat.le_refl 8
 | false=>cases x.f_Kind == 2 <;> cases x.f_Kind == 5 <;> simp
theorem ylZy {x:G_Deed} (h:DeedOk x):(lineD x).length≤1300:=by
 have hw:=ys3y h
 have hr:=ysly x
 have:=yify (ws:=ye9y x) (sep:=[32]) (n:=100) fun w hh=>(hw w hh).2
 have e:(ye9y x).length = 4 + (restD x).length:=by unfold ye9y;simp;omega
 rw [e] at this
 unfold lineD
 simp only [List.length_cons,List.length_nil] at this
 omega
theorem yoLy (a b c d:List UInt8) {r:List (List UInt8)} (hr:r≠[]) (t:List UInt8):(((((((a++[32])++b)++[32])++c)++[32])++d)++[32])++(Lib.join r [32]++t) = Lib.join (a::b::c::d::r) [32]++t:=by
 cases r with
 | nil=>exact absurd rfl hr
 | cons r0 rs =>
  rw [Lib.join_cons,Lib.join_cons]
  simp [Lib.joinTail,List.append_assoc]
theorem ylSy {ws:List (List UInt8)} (hl:ws.length≤1000) (hw:∀ w∈ws,w.length≤1000) (R:Type) (k:List UInt8→Option R):kit_Join ws k = k (Lib.join ws [32]++[10]):=by
 have b1:∀ k:List UInt8→Option R,yd0y.strings_Join ws [32] k = k (Lib.join ws [32]):=fun k=>yqYy hl (fun w hh=>by have:=hw w hh;omega) (by simp) R k
 have h:=yify (sep:=[32]) hw
 simp only [List.length_cons,List.length_nil] at h
 show ye3y yd0y ws k = _
 unfold ye3y
 rw [b1,yaxy (by simp;omega),cond_true]
theorem yzXy {x:G_Deed} (h:DeedOk x) (R:Type) (k:List UInt8→Option R):z67z x k = k (lineD x++[10]):=by
 have hn:=h.no
 have ha:=h.at1
 have i1:=ybky (yaJy (n:=x.f_No) (by omega) (by omega))
 have i2:=ybky (yaJy (n:=x.f_At) (by omega) (by omega))
 have s1:=ybjy h.fine.site
 have k1:=yqcy (ynjy h)
 have hr:=yjfy h
 have hrl:=ysly x
 have hj:=yify (ws:=restD x) (sep:=[32]) (n:=100) fun w hh=>(hr.2 w hh).2
 simp only [List.length_cons,List.length_nil] at hj
 have a1:∀ k:List UInt8→Option R,ydhy.strconv_Itoa x.f_No k = k (Lib.itoa x.f_No):=fun k=>ycAy (yaJy (by omega) (by omega)) R k
 have a2:∀ k:List UInt8→Option R,ydhy.strconv_Itoa x.f_At k = k (Lib.itoa x.f_At):=fun k=>ycAy (yaJy (by omega) (by omega)) R k
 have a3:∀ k:List (List UInt8)→Option R,ydhy.z78z k = k ycLy:=fun k=>rfl
 have key:k ((((((((x.f_Site++[32])++Lib.itoa x.f_No)++[32])++Lib.itoa x.f_At)++[32])++kindW x.f_Kind)++[32])++(Lib.join (restD x) [32]++[10])) = k (lineD x++[10]):=by
  rw [yoLy _ _ _ _ hr.1];rfl
 have ok:strOk (((((((x.f_Site++[32])++Lib.itoa x.f_No)++[32])++Lib.itoa x.f_At)++[32])++kindW x.f_Kind)++[32]) (Lib.join (restD x) [32]++[10]) = true:=yaxy (by simp;omega)
 show z67z_ ydhy x k = _
 unfold z67z_
 rw [yaxy (a:=x.f_Site) (by simp;omega),cond_true,a1,yaxy (by simp;omega),cond_true,yaxy (by simp;omega),cond_true,a2,yaxy (by simp;omega),cond_true,yaxy (by simp;omega),cond_true,a3,yC3y (ynjy h),yaxy (by simp;omega),cond_true,yaxy (by simp;omega),cond_true]
 rcases h.kinds with g | g | g | g
 ·have e:restD x = ybIy x.f_Contact:=by unfold restD;rw [g.1];rfl
  have b1:∀ k:List UInt8→Option R,ydhy.log_Line x.f_Contact k = k (Lib.join (restD x) [32]++[10]):=fun k=>by
   rw [e];exact yzWy (yiIy h g.1).1 R k
  have c1:(x.f_Kind == 1) = true:=by rw [g.1];rfl
  rw [c1,cond_true,b1,ok,cond_true,key]
 ·have e:restD x = [x.f_Band]:=by unfold restD;rw [g.1];rfl
  have b1:∀ k:List UInt8→Option R,ydhy.kit_Join [x.f_Band] k = k (Lib.join (restD x) [32]++[10]):=fun k=>by
   rw [e];exact ylSy (by simp) (fun w hw=>by rw [List.mem_singleton.1 hw];have:=ybjy h.fine.band;omega) R k
  have c1:(x.f_Kind == 1) = false:=by rw [g.1];rfl
  have c2:(x.f_Kind == 2) = true:=by rw [g.1];rfl
  rw [c1,cond_false,c2,cond_true,b1,ok,cond_true,key]
 ·have e:restD x = [Lib.itoa x.f_Contact.f_Sent]:=by
   unfold restD
   rcases g.1 with hk | hk <;> rw [hk] <;> rfl
  have i3:=ybky (yaJy (n:=x.f_Contact.f_Sent) (by omega) (by omega))
  have a4:∀ k:List UInt8→Option R,ydhy.strconv_Itoa x.f_Contact.f_Sent k = k (Lib.itoa x.f_Contact.f_Sent):=fun k=>ycAy (yaJy (by omega) (by omega)) R k
  have b1:∀ k:List UInt8→Option R,ydhy.kit_Join [Lib.itoa x.f_Contact.f_Sent] k = k (Lib.join (restD x) [32]++[10]):=fun k=>by
   rw [e];exact ylSy (by simp) (fun w hw=>by rw [List.mem_singleton.1 hw];omega) R k
  have c1:(x.f_Kind == 1) = false:=by rcases g.1 with hk | hk <;> rw [hk] <;> rfl
  have c2:(x.f_Kind == 2) = false:=by rcases g.1 with hk | hk <;> rw [hk] <;> rfl
  have c3:(x.f_Kind == 5) = false:=by rcases g.1 with hk | hk <;> rw [hk] <;> rfl
  rw [c1,cond_false,c2,cond_false,c3,cond_false,a4,b1,ok,cond_true,key]
 ·have e:restD x = [x.f_Of,Lib.itoa x.f_Other]:=by unfold restD;rw [g.1];rfl
  have i3:=ybky (yaJy (n:=x.f_Other) (by omega) (by omega))
  have a4:∀ k:List UInt8→Option R,ydhy.strconv_Itoa x.f_Other k = k (Lib.itoa x.f_Other):=fun k=>ycAy (yaJy (by omega) (by omega)) R k
  have b1:∀ k:List UInt8→Option R,ydhy.kit_Join [x.f_Of,Lib.itoa x.f_Other] k = k (Lib.join (restD x) [32]++[10]):=fun k=>by
   rw [e]
   exact ylSy (by simp) (fun w hw=>by
    have:=ybjy h.fine.of1
    simp only [List.mem_cons,List.not_mem_nil,or_false] at hw
    rcases hw with rfl | rfl <;> omega) R k
  have c1:(x.f_Kind == 1) = false:=by rw [g.1];rfl
  have c2:(x.f_Kind == 2) = false:=by rw [g.1];rfl
  have c3:(x.f_Kind == 5) = true:=by rw [g.1];rfl
  rw [c1,cond_false,c2,cond_false,c3,cond_true,a4,b1,ok,cond_true,key]
theorem yl0y:∀ {d:List G_Deed},(∀ c∈d,DeedOk c)→(ybKy lineD d).length≤1301 * d.length
 | [],_=>by simp [ybKy]
 | c::cs,h=>by
  have h1:=ylZy (h c (by simp))
  have h2:=yl0y (d:=cs) fun c hc=>h c (List.mem_cons_of_mem _ hc)
  show ((lineD c++[10])++ybKy lineD cs).length≤_
  rw [List.length_append,List.length_append,List.length_cons]
  simp only [List.length_cons,List.length_nil]
  omega
theorem ymry (d:List G_Deed) (hd:∀ c∈d,DeedOk c) (hl:d.length≤100):∀ (xs:List G_Deed) (n i:Nat) (acc:List UInt8),d.drop i = xs→xs.length < n→acc.length≤1301 * i→∀ (R:Type) (e0:List UInt8→Option R),
  ycHy ybwy n d (d.length:Int) (i:Int) acc e0 = e0 (acc++ybKy lineD xs)
 | _,0,_,_,_,h,_,_,_=>by omega
 | [],n + 1,i,acc,h,_,_,R,e0=>by rw [ycHy,ya2y h,ybKy,List.append_nil];rfl
 | c::cs,n + 1,i,acc,h,hn,ha,R,e0=>by
  have h':=yavy h
  have hlt:=h'.2.1
  have hsh:=ylZy (hd c (ybOy h))
  have ih:=ymry d hd hl cs n (i + 1) (acc++(lineD c++[10])) h'.2.2.1 (Nat.lt_of_succ_lt_succ (by simpa only [List.length_cons] using hn)) (by simp;omega) R e0
  have w1:∀ k:List UInt8→Option R,ybwy.z67z c k = k (lineD c++[10]):=fun k=>yzXy (hd c (ybOy h)) R k
  rw [ycHy,yaYy h,cond_true,yaPy h,w1,decide_eq_true (by simp;omega),cond_true,yapy (show i < 4611686018427387904 by omega),ih,ybKy,List.append_assoc]
theorem yrKy {d:List G_Deed} (hr:RightD d) (hl:d.length≤100) (R:Type) (k:List UInt8→Int→Option R):net_Text d k = k (ybKy lineD d) 0:=by
 have hd:∀ c∈d,DeedOk c:=fun c hc=>yycy (hr.fine c hc) (hr.good c hc)
 have w1:∀ k:Int→Option R,ybwy.z7z d k = k 0:=fun k=>z7z_right hr (by omega) R k
 have hs:=yl0y hd
 show ye2y ybwy d k = _
 unfold ye2y
 rw [w1]
 refine (ymry d hd hl d NN 0 [] rfl (by have:=NN_ok;omega) (by simp) R _).trans ?_
 rw [List.nil_append,decide_eq_false (show ¬ (((ybKy lineD d).length:Int) > 200000) by omega)]
 rfl
end Go.Am
