/- The plain law, in Lean alone: U2, U3. No condition: lemmas for the claim. -/
import Derived.Test.YtmhbhdhddlbdlaaGreatDoorPlT4
import Derived.Test.YtmhbhdhddlbdlaaGreatDoorPlV6
import Derived.Test.YtmhbhdhddlbdlaaGreatDoorPlR4
set_option linter.unusedVariables false
set_option linter.unusedSectionVars false
set_option linter.unusedSimpArgs false
set_option maxRecDepth 100000
namespace Go.Am
open Go Go.Proofs
variable [Fuel]
def ydiy (w:List UInt8):Prop:=w.contains 32 = false∧w.contains 10 = false∧w≠[]
theorem ydKy {n:Int} (h:0≤n):ydiy (Lib.itoa n):=by
 obtain ⟨u,rfl⟩:∃ u:Nat,n = (u:Int):=⟨n.toNat,by omega⟩
 rw [Lib.itoa_nonneg]
 exact ⟨yBGy (by decide),yBGy (by decide),ytry u⟩
theorem yyfy:keyB [] = false:=by
 unfold keyB
 rw [yjMy (by simp)];rfl
theorem yCXy:callB [] = false:=by
 obtain ⟨m,h,rfl⟩:=yaYy ‹Fuel›
 kernel_rfl
theorem yG8y {s:List UInt8} (hs:s∈keysL) (hb:keyB s = true):ydiy s:=by
 have h:∀ s∈keysL,s.contains 32 = false∧s.contains 10 = false:=by decide
 refine ⟨(h s hs).1,(h s hs).2,?_⟩
 rintro rfl
 rw [yyfy] at hb;cases hb
theorem ynfy {s:List UInt8} (hs:s∈ycXy) (hb:keyB s = true):ydiy s:=by
 have h:∀ s∈ycXy,s.contains 32 = false∧s.contains 10 = false:=by decide
 refine ⟨(h s hs).1,(h s hs).2,?_⟩
 rintro rfl
 rw [yyfy] at hb;cases hb
theorem yCqy {s:List UInt8} (hs:s∈yely) (hb:callB s = true):ydiy s:=by
 have h:∀ s∈yely,s.contains 32 = false∧s.contains 10 = false:=by decide
 refine ⟨(h s hs).1,(h s hs).2,?_⟩
 rintro rfl
 rw [yCXy] at hb;cases hb
theorem yuby {s:List UInt8} (hs:s∈keysL):ydiy (dashS s)∧ydmy (dashS s) = s:=by
 have h:∀ s∈keysL,((dashS s).contains 32 = false∧(dashS s).contains 10 = false∧dashS s≠[])∧ydmy (dashS s) = s:=by decide
 exact h s hs
theorem yFPy {m:Int} (h:1≤m∧m≤3):ydiy (modeW m)∧idxG (modeW m) ybby = m:=by
 have:m = 1 ∨ m = 2 ∨ m = 3:=by omega
 rcases this with rfl | rfl | rfl <;> exact ⟨by unfold ydiy;decide,by decide⟩
theorem yFRy {c:G_Contact} (h:chk c = 0):(0≤c.f_At∧c.f_At≤345686399999)∧(1≤c.f_Mode∧c.f_Mode≤3)∧keyB c.f_Band = true∧callB c.f_Call = true∧(0≤c.f_Sent∧c.f_Sent≤99999)∧(0≤c.f_Heard∧c.f_Heard≤99999):=by
 unfold chk at h
 cases h1:momB c.f_At with
 | false=>rw [h1] at h;cases h
 | true =>
  cases h2:inB c.f_Mode 1 3 with
  | false=>rw [h1,h2] at h;cases h
  | true =>
   cases h3:keyB c.f_Band with
   | false=>rw [h1,h2,h3] at h;cases h
   | true =>
    cases h4:callB c.f_Call with
    | false=>rw [h1,h2,h3,h4] at h;cases h
    | true =>
     cases h5:inB c.f_Sent 0 99999 with
     | false=>rw [h1,h2,h3,h4,h5] at h;cases h
     | true =>
      cases h6:inB c.f_Heard 0 99999 with
      | false=>rw [h1,h2,h3,h4,h5,h6] at h;cases h
      | true=>exact ⟨ydly.1 h1,ydly.1 h2,rfl,rfl,ydly.1 h5,ydly.1 h6⟩
theorem ypMy {c:G_Contact} (hf:Fine c) (h:chk c = 0):(∀ w∈ybZy c,ydiy w)∧contB (ybZy c) = true∧contQ (ybZy c) = c:=by
 obtain ⟨h1,h2,h3,h4,h5,h6⟩:=yFRy h
 have n1:=yeQy (n:=c.f_At) (by omega) (by omega)
 have n2:=yeQy (n:=c.f_Sent) (by omega) (by omega)
 have n3:=yeQy (n:=c.f_Heard) (by omega) (by omega)
 have m1:=yFPy h2
 have d1:=yuby hf.gave
 have d2:=yuby hf.got
 refine ⟨?_,?_,?_⟩
 ·intro w hw
  unfold ybZy at hw
  simp only [List.mem_cons,List.not_mem_nil,or_false] at hw
  rcases hw with rfl | rfl | rfl | rfl | rfl | rfl | rfl | rfl
  ·exact ydKy h1.1
  ·exact m1.1
  ·exact yG8y hf.band h3
  ·exact yCqy hf.call h4
  ·exact ydKy h5.1
  ·exact d1.1
  ·exact ydKy h6.1
  ·exact d2.1
 ·show ([Lib.itoa c.f_At,Lib.itoa c.f_Sent,Lib.itoa c.f_Heard].all numB&&decide (idxG (modeW c.f_Mode) ybby > 0)) = true
  rw [m1.2,decide_eq_true (by omega)]
  simp [n1.1,n2.1,n3.1]
 ·show (⟨numQ (Lib.itoa c.f_At),idxG (modeW c.f_Mode) ybby,c.f_Band,c.f_Call,numQ (Lib.itoa c.f_Sent),numQ (Lib.itoa c.f_Heard),ydmy (dashS c.f_Gave),ydmy (dashS c.f_Got)⟩:G_Contact) = c
  rw [n1.2,m1.2,n2.2,n3.2,d1.2,d2.2]
def noCon:G_Contact:=⟨0,0,[],[],0,0,[],[]⟩
structure DeedOk (x:G_Deed):Prop where
 fine:FineD x
 site:keyB x.f_Site = true
 no:1≤x.f_No∧x.f_No≤1000000
 at1:0≤x.f_At∧x.f_At≤345686399999
 kinds:(x.f_Kind = 1∧chk x.f_Contact = 0∧x.f_Band = []∧x.f_Of = []∧x.f_Other = 0) ∨ (x.f_Kind = 2∧keyB x.f_Band = true∧x.f_Contact = noCon∧x.f_Of = []∧x.f_Other = 0) ∨
  ((x.f_Kind = 3 ∨ x.f_Kind = 4)∧(1≤x.f_Contact.f_Sent∧x.f_Contact.f_Sent≤99999)∧x.f_Contact = ⟨0,0,[],[],x.f_Contact.f_Sent,0,[],[]⟩∧x.f_Band = []∧x.f_Of = []∧x.f_Other = 0) ∨
  (x.f_Kind = 5∧keyB x.f_Of = true∧(1≤x.f_Other∧x.f_Other≤1000000)∧x.f_Contact = noCon∧x.f_Band = [])
theorem ycCy {s:List UInt8} (h:s∈ycXy):s.length≤100∧ascB s:=by
 have:∀ s∈ycXy,s.length≤100∧∀ x∈s,x.toNat < 128:=by decide
 exact this s h
theorem idle1 {x:G_Deed} (hk:x.f_Kind = 1) (R:Type) (k:Bool→Option R):net_idle x k = (bif x.f_Band == [] then (bif x.f_Of == [] then k (x.f_Other == 0) else k false) else k false):=by
 show ya2y NN x k = _
 unfold ya2y
 rw [hk];rfl
theorem idle2 {x:G_Deed} (hk:x.f_Kind = 2) (R:Type) (k:Bool→Option R):net_idle x k = (bif yaMy x.f_Contact noCon then (bif x.f_Of == [] then k (x.f_Other == 0) else k false) else k false):=by
 show ya2y NN x k = _
 unfold ya2y
 rw [hk];rfl
theorem idle3 {x:G_Deed} (hk:x.f_Kind = 3) (R:Type) (k:Bool→Option R):net_idle x k = (bif yaMy x.f_Contact ⟨0,0,[],[],x.f_Contact.f_Sent,0,[],[]⟩ then (bif x.f_Band == [] then (bif x.f_Of == [] then k (x.f_Other == 0) else k false) else k false) else k false):=by
 show ya2y NN x k = _
 unfold ya2y
 rw [hk];rfl
theorem idle4 {x:G_Deed} (hk:x.f_Kind = 4) (R:Type) (k:Bool→Option R):net_idle x k = (bif yaMy x.f_Contact ⟨0,0,[],[],x.f_Contact.f_Sent,0,[],[]⟩ then (bif x.f_Band == [] then (bif x.f_Of == [] then k (x.f_Other == 0) else k false) else k false) else k false):=by
 show ya2y NN x k = _
 unfold ya2y
 rw [hk];rfl
theorem idle5 {x:G_Deed} (hk:x.f_Kind = 5) (R:Type) (k:Bool→Option R):net_idle x k = (bif yaMy x.f_Contact noCon then (bif x.f_Band == [] then k true else k false) else k false):=by
 show ya2y NN x k = _
 unfold ya2y
 rw [hk];rfl
theorem used1 {x:G_Deed} (hf:FineD x) (hk:x.f_Kind = 1) (hc:chk x.f_Contact = 0) (R:Type) (k:Int→Option R):z50z x k = (bif decide (x.f_Contact.f_At > x.f_At) then k 1 else k 0):=by
 have o6:∀ k:Int→Option R,ym1y.z58z x.f_Contact k = k (chk x.f_Contact):=fun k=>z58z_is hf.con R k
 have o1:z84z x k = (bif decide (x.f_Contact.f_At > x.f_At) then k 1 else k 0):=by
  show z84z_ ym1y x k = _
  unfold z84z_
  rw [o6,hc];rfl
 show z50z_ ycoy x k = _
 unfold z50z_
 rw [hk]
 exact o1
theorem used2 {x:G_Deed} (hf:FineD x) (hk:x.f_Kind = 2) (R:Type) (k:Int→Option R):z50z x k = (bif !keyB x.f_Band then k 5 else k 0):=by
 have o2:∀ k:Bool→Option R,ycoy.kit_IsKey x.f_Band k = k (keyB x.f_Band):=fun k=>yj7y (by have:=ycCy hf.band;omega) R k
 show z50z_ ycoy x k = _
 unfold z50z_
 rw [hk]
 exact o2 _
theorem yDQy {x:G_Deed} (hk:x.f_Kind = 3 ∨ x.f_Kind = 4) (R:Type) (k:Int→Option R):z50z x k = (bif !inB x.f_Contact.f_Sent 1 99999 then k 1 else k 0):=by
 have o5:∀ k:Bool→Option R,ycoy.z45z x.f_Contact.f_Sent 1 99999 k = k (!inB x.f_Contact.f_Sent 1 99999):=fun k=>z45z_is _ _ _ R k
 show z50z_ ycoy x k = _
 unfold z50z_
 rcases hk with hk | hk <;> rw [hk] <;> exact o5 _
theorem used5 {x:G_Deed} (hf:FineD x) (hk:x.f_Kind = 5) (R:Type) (k:Int→Option R):z50z x k = (bif !keyB x.f_Of then k 5 else bif !inB x.f_Other 1 1000000 then k 1 else k 0):=by
 have o3:∀ k:Bool→Option R,ycoy.kit_IsKey x.f_Of k = k (keyB x.f_Of):=fun k=>yj7y (by have:=ycCy hf.of1;omega) R k
 have o4:∀ k:Bool→Option R,ycoy.z45z x.f_Other 1 1000000 k = k (!inB x.f_Other 1 1000000):=fun k=>z45z_is _ _ _ R k
 show z50z_ ycoy x k = _
 unfold z50z_
 rw [hk]
 refine (o3 _).trans ?_
 rw [o4]
theorem no1 (h:some (1:Int) = some 0):False:=by cases h
theorem no3 (h:some (3:Int) = some 0):False:=by cases h
theorem no4 (h:some (4:Int) = some 0):False:=by cases h
theorem no5 (h:some (5:Int) = some 0):False:=by cases h
theorem yzXy {x:G_Deed} (hf:FineD x) (h:net_formed x some = some (0:Int)):keyB x.f_Site = true∧inB x.f_No 1 1000000 = true∧momB x.f_At = true∧inB x.f_Kind 1 5 = true ∧
  (z50z x fun r6=>bif r6 != 0 then some r6 else net_idle x fun r7=>bif !r7 then some (3:Int) else some 0) = some 0:=by
 have f1:∀ k:Bool→Option Int,yb2y.kit_IsKey x.f_Site k = k (keyB x.f_Site):=fun k=>yj7y (by have:=ycCy hf.site;omega) Int k
 have f2:∀ k:Bool→Option Int,yb2y.z45z x.f_No 1 1000000 k = k (!inB x.f_No 1 1000000):=fun k=>z45z_is _ _ _ Int k
 have f3:∀ k:Bool→Option Int,yb2y.z54z x.f_At k = k (momB x.f_At):=fun k=>z54z_is _ Int k
 have f4:∀ k:Bool→Option Int,yb2y.z45z x.f_Kind 1 5 k = k (!inB x.f_Kind 1 5):=fun k=>z45z_is _ _ _ Int k
 have h:yevy yb2y x some = some 0:=h
 unfold yevy at h
 rw [f1] at h
 cases c1:keyB x.f_Site with
 | false=>rw [c1] at h;exact (no5 h).elim
 | true =>
  rw [c1,Bool.not_true,cond_false,f2] at h
  cases c2:inB x.f_No 1 1000000 with
  | false=>rw [c2] at h;exact (no1 h).elim
  | true =>
   rw [c2,Bool.not_true,cond_false,f3] at h
   cases c3:momB x.f_At with
   | false=>rw [c3] at h;exact (no1 h).elim
   | true =>
    rw [c3,Bool.not_true,cond_false,f4] at h
    cases c4:inB x.f_Kind 1 5 with
    | false=>rw [c4] at h;exact (no4 h).elim
    | true =>
     rw [c4,Bool.not_true,cond_false] at h
     exact ⟨rfl,rfl,rfl,rfl,h⟩
theorem mask {b:Bool} (h:(bif !b then some (3:Int) else some 0) = some 0):b = true:=by
 cases b
 ·exact (no3 h).elim
 ·rfl
theorem yAKy {x:G_Deed} (hf:FineD x) (h0:fD x = 0):DeedOk x:=by
 obtain ⟨g,gc⟩:=yuoy hf h0
 obtain ⟨c1,c2,c3,c4,h⟩:=yzXy hf (g Int some)
 have hk:=ydly.1 c4
 refine ⟨hf,c1,ydly.1 c2,ydly.1 c3,?_⟩
 have kk:x.f_Kind = 1 ∨ x.f_Kind = 2 ∨ x.f_Kind = 3 ∨ x.f_Kind = 4 ∨ x.f_Kind = 5:=by omega
 rcases kk with hk | hk | hk | hk | hk
 ·left
  have hc:=gc hk
  rw [used1 hf hk hc] at h
  cases d1:decide (x.f_Contact.f_At > x.f_At) with
  | true=>rw [d1] at h;exact (no1 h).elim
  | false =>
   rw [d1,cond_false,bne_self_eq_false,cond_false,idle1 hk] at h
   cases e1:x.f_Band == [] with
   | false=>rw [e1] at h;exact (no3 h).elim
   | true =>
    rw [e1,cond_true] at h
    cases e2:x.f_Of == [] with
    | false=>rw [e2] at h;exact (no3 h).elim
    | true =>
     rw [e2,cond_true] at h
     exact ⟨hk,hc,beq_iff_eq.1 e1,beq_iff_eq.1 e2,beq_iff_eq.1 (mask h)⟩
 ·right;left
  rw [used2 hf hk] at h
  cases d1:keyB x.f_Band with
  | false=>rw [d1] at h;exact (no5 h).elim
  | true =>
   rw [d1,Bool.not_true,cond_false,bne_self_eq_false,cond_false,idle2 hk] at h
   cases e0:yaMy x.f_Contact noCon with
   | false=>rw [e0] at h;exact (no3 h).elim
   | true =>
    rw [e0,cond_true] at h
    cases e2:x.f_Of == [] with
    | false=>rw [e2] at h;exact (no3 h).elim
    | true =>
     rw [e2,cond_true] at h
     exact ⟨hk,rfl,(yb5y _ _).1 e0,beq_iff_eq.1 e2,beq_iff_eq.1 (mask h)⟩
 ·right;right;left
  rw [yDQy (.inl hk)] at h
  cases d1:inB x.f_Contact.f_Sent 1 99999 with
  | false=>rw [d1] at h;exact (no1 h).elim
  | true =>
   rw [d1,Bool.not_true,cond_false,bne_self_eq_false,cond_false,idle3 hk] at h
   cases e0:yaMy x.f_Contact ⟨0,0,[],[],x.f_Contact.f_Sent,0,[],[]⟩ with
   | false=>rw [e0] at h;exact (no3 h).elim
   | true =>
    rw [e0,cond_true] at h
    cases e1:x.f_Band == [] with
    | false=>rw [e1] at h;exact (no3 h).elim
    | true =>
     rw [e1,cond_true] at h
     cases e2:x.f_Of == [] with
     | false=>rw [e2] at h;exact (no3 h).elim
     | true =>
      rw [e2,cond_true] at h
      exact ⟨.inl hk,ydly.1 d1,(yb5y _ _).1 e0,beq_iff_eq.1 e1,beq_iff_eq.1 e2,beq_iff_eq.1 (mask h)⟩
 ·right;right;left
  rw [yDQy (.inr hk)] at h
  cases d1:inB x.f_Contact.f_Sent 1 99999 with
  | false=>rw [d1] at h;exact (no1 h).elim
  | true =>
   rw [d1,Bool.not_true,cond_false,bne_self_eq_false,cond_false,idle4 hk] at h
   cases e0:yaMy x.f_Contact ⟨0,0,[],[],x.f_Contact.f_Sent,0,[],[]⟩ with
   | false=>rw [e0] at h;exact (no3 h).elim
   | true =>
    rw [e0,cond_true] at h
    cases e1:x.f_Band == [] with
    | false=>rw [e1] at h;exact (no3 h).elim
    | true =>
     rw [e1,cond_true] at h
     cases e2:x.f_Of == [] with
     | false=>rw [e2] at h;exact (no3 h).elim
     | true =>
      rw [e2,cond_true] at h
      exact ⟨.inr hk,ydly.1 d1,(yb5y _ _).1 e0,beq_iff_eq.1 e1,beq_iff_eq.1 e2,beq_iff_eq.1 (mask h)⟩
 ·right;right;right
  rw [used5 hf hk] at h
  cases d1:keyB x.f_Of with
  | false=>rw [d1] at h;exact (no5 h).elim
  | true =>
   rw [d1,Bool.not_true,cond_false] at h
   cases d2:inB x.f_Other 1 1000000 with
   | false=>rw [d2] at h;exact (no1 h).elim
   | true =>
    rw [d2,Bool.not_true,cond_false,bne_self_eq_false,cond_false,idle5 hk] at h
    cases e0:yaMy x.f_Contact noCon with
    | false=>rw [e0] at h;exact (no3 h).elim
    | true =>
     rw [e0,cond_true] at h
     cases e1:x.f_Band == [] with
     | false=>rw [e1] at h;exact (no3 h).elim
     | true=>exact ⟨hk,rfl,ydly.1 d2,(yb5y _ _).1 e0,beq_iff_eq.1 e1⟩
end Go.Am
set_option linter.unusedVariables false
set_option linter.unusedSectionVars false
set_option linter.unusedSimpArgs false
set_option maxRecDepth 100000
namespace Go.Am
open Go Go.Proofs
variable [Fuel]
def yhxy:List (List UInt8):=[[],[108,111,103],[116,117,110,101],[104,101,108,100],[102,114,101,101],[117,110,100,111]]
def kindW (m:Int):List UInt8:=(yhxy[m.toNat]?).getD []
def restD (x:G_Deed):List (List UInt8):=bif x.f_Kind == 1 then ybZy x.f_Contact else bif x.f_Kind == 2 then [x.f_Band] else bif x.f_Kind == 5 then [x.f_Of,Lib.itoa x.f_Other] else [Lib.itoa x.f_Contact.f_Sent]
def ybfy (x:G_Deed):List (List UInt8):=x.f_Site::Lib.itoa x.f_No::Lib.itoa x.f_At::kindW x.f_Kind::restD x
def lineD (x:G_Deed):List UInt8:=Lib.join (ybfy x) [32]
theorem yo7y {x:G_Deed} (h:DeedOk x):1≤x.f_Kind∧x.f_Kind≤5:=by
 rcases h.kinds with h | h | h | h
 ·omega
 ·omega
 ·omega
 ·omega
theorem ylFy {m:Int} (h:1≤m∧m≤5):ydiy (kindW m)∧idxG (kindW m) yhxy = m∧(kindW m).length≤10:=by
 have:m = 1 ∨ m = 2 ∨ m = 3 ∨ m = 4 ∨ m = 5:=by omega
 rcases this with rfl | rfl | rfl | rfl | rfl <;> exact ⟨by unfold ydiy;decide,by decide,by decide⟩
theorem yGsy {m:Int} (h:1≤m∧m≤5) (R:Type) (k:List UInt8→Option R):inr yhxy m (at_ yhxy m k) = k (kindW m):=by
 have:m = 1 ∨ m = 2 ∨ m = 3 ∨ m = 4 ∨ m = 5:=by omega
 rcases this with rfl | rfl | rfl | rfl | rfl <;> rfl
theorem ybdy {n:Int} (h0:0≤n) (h1:n≤1000000000000):Wide n:=⟨by omega,by omega⟩
theorem ynly {x:G_Deed} (h:DeedOk x) (hk:x.f_Kind = 1):Short x.f_Contact∧chk x.f_Contact = 0:=by
 rcases h.kinds with g | g | g | g
 ·have:=yHLy g.2.1
  exact ⟨yB3y h.fine.con ⟨by omega,by omega⟩,g.2.1⟩
 ·omega
 ·omega
 ·omega
theorem yjNy {x:G_Deed} (h:DeedOk x):restD x≠[]∧∀ w∈restD x,ydiy w∧w.length≤100:=by
 unfold restD
 rcases h.kinds with g | g | g | g
 ·rw [g.1]
  refine ⟨List.cons_ne_nil _ _,fun w hw=>⟨(ypMy h.fine.con g.2.1).1 w hw,(yfoy (ynly h g.1).1 w hw).1⟩⟩
 ·rw [g.1]
  refine ⟨List.cons_ne_nil _ _,fun w hw=>?_⟩
  have hw:w = x.f_Band:=List.mem_singleton.1 hw
  rw [hw]
  exact ⟨ynfy h.fine.band g.2.1,(ycCy h.fine.band).1⟩
 ·have i:=ybRy (ybdy (n:=x.f_Contact.f_Sent) (by omega) (by omega))
  have e:(bif x.f_Kind == 1 then ybZy x.f_Contact else bif x.f_Kind == 2 then [x.f_Band] else bif x.f_Kind == 5 then [x.f_Of,Lib.itoa x.f_Other] else [Lib.itoa x.f_Contact.f_Sent]) = [Lib.itoa x.f_Contact.f_Sent]:=by
   rcases g.1 with hk | hk <;> rw [hk] <;> rfl
  rw [e]
  refine ⟨List.cons_ne_nil _ _,fun w hw=>?_⟩
  rw [List.mem_singleton.1 hw]
  exact ⟨ydKy (by omega),by omega⟩
 ·have i:=ybRy (ybdy (n:=x.f_Other) (by omega) (by omega))
  rw [g.1]
  refine ⟨List.cons_ne_nil _ _,fun w hw=>?_⟩
  have hw:w = x.f_Of ∨ w = Lib.itoa x.f_Other:=by
   have hw:w∈[x.f_Of,Lib.itoa x.f_Other]:=hw
   simpa using hw
  rcases hw with rfl | rfl
  ·exact ⟨ynfy h.fine.of1 g.2.1,(ycCy h.fine.of1).1⟩
  ·exact ⟨ydKy (by omega),by omega⟩
theorem yhPy {x:G_Deed} (h:DeedOk x):∀ w∈ybfy x,ydiy w∧w.length≤100:=by
 intro w hw
 have hn:=h.no
 have ha:=h.at1
 have i1:=ybRy (ybdy (n:=x.f_No) (by omega) (by omega))
 have i2:=ybRy (ybdy (n:=x.f_At) (by omega) (by omega))
 have k1:=ylFy (yo7y h)
 unfold ybfy at hw
 simp only [List.mem_cons] at hw
 rcases hw with rfl | rfl | rfl | rfl | hw
 ·exact ⟨ynfy h.fine.site h.site,(ycCy h.fine.site).1⟩
 ·exact ⟨ydKy (by omega),by omega⟩
 ·exact ⟨ydKy (by omega),by omega⟩
 ·exact ⟨k1.1,by omega⟩
 ·exact (yjNy h).2 w hw
theorem yujy (x:G_Deed):(restD x).length≤8:=by
 unfold restD
 cases x.f_Kind == 1 with
 | true=>exact Nat.le_refl 8
 | false=>cases x.f_Kind == 2 <;> cases x.f_Kind == 5 <;> simp
theorem ynay {x:G_Deed} (h:DeedOk x):(lineD x).length≤1300:=by
 have hw:=yhPy h
 have hr:=yujy x
 have:=yi0y (ws:=ybfy x) (sep:=[32]) (n:=100) fun w hh=>(hw w hh).2
 have e:(ybfy x).length = 4 + (restD x).length:=by unfold ybfy;simp;omega
 rw [e] at this
 unfold lineD
 simp only [List.length_cons,List.length_nil] at this
 omega
theorem yzvy (a b c d:List UInt8) {r:List (List UInt8)} (hr:r≠[]) (t:List UInt8):(((((((a++[32])++b)++[32])++c)++[32])++d)++[32])++(Lib.join r [32]++t) = Lib.join (a::b::c::d::r) [32]++t:=by
 cases r with
 | nil=>exact absurd rfl hr
 | cons r0 rs =>
  rw [Lib.join_cons,Lib.join_cons]
  simp [Lib.joinTail,List.append_assoc]
theorem ynRy {ws:List (List UInt8)} (hl:ws.length≤1000) (hw:∀ w∈ws,w.length≤1000) (R:Type) (k:List UInt8→Option R):kit_Join ws k = k (Lib.join ws [32]++[10]):=by
 have b1:∀ k:List UInt8→Option R,yd2y.strings_Join ws [32] k = k (Lib.join ws [32]):=fun k=>yESy hl (fun w hh=>by have:=hw w hh;omega) (by simp) R k
 have h:=yi0y (sep:=[32]) hw
 simp only [List.length_cons,List.length_nil] at h
 show ye5y yd2y ws k = _
 unfold ye5y
 rw [b1,ydry (by simp;omega),cond_true]
theorem yDqy {x:G_Deed} (h:DeedOk x) (R:Type) (k:List UInt8→Option R):z74z x k = k (lineD x++[10]):=by
 have hn:=h.no
 have ha:=h.at1
 have i1:=ybRy (ybdy (n:=x.f_No) (by omega) (by omega))
 have i2:=ybRy (ybdy (n:=x.f_At) (by omega) (by omega))
 have s1:=ycCy h.fine.site
 have k1:=ylFy (yo7y h)
 have hr:=yjNy h
 have hrl:=yujy x
 have hj:=yi0y (ws:=restD x) (sep:=[32]) (n:=100) fun w hh=>(hr.2 w hh).2
 simp only [List.length_cons,List.length_nil] at hj
 have a1:∀ k:List UInt8→Option R,ydfy.strconv_Itoa x.f_No k = k (Lib.itoa x.f_No):=fun k=>yi4y (ybdy (by omega) (by omega)) R k
 have a2:∀ k:List UInt8→Option R,ydfy.strconv_Itoa x.f_At k = k (Lib.itoa x.f_At):=fun k=>yi4y (ybdy (by omega) (by omega)) R k
 have a3:∀ k:List (List UInt8)→Option R,ydfy.z88z k = k yhxy:=fun k=>rfl
 have key:k ((((((((x.f_Site++[32])++Lib.itoa x.f_No)++[32])++Lib.itoa x.f_At)++[32])++kindW x.f_Kind)++[32])++(Lib.join (restD x) [32]++[10])) = k (lineD x++[10]):=by
  rw [yzvy _ _ _ _ hr.1];rfl
 have ok:strOk (((((((x.f_Site++[32])++Lib.itoa x.f_No)++[32])++Lib.itoa x.f_At)++[32])++kindW x.f_Kind)++[32]) (Lib.join (restD x) [32]++[10]) = true:=ydry (by simp;omega)
 show z74z_ ydfy x k = _
 unfold z74z_
 rw [ydry (a:=x.f_Site) (by simp;omega),cond_true,a1,ydry (by simp;omega),cond_true,ydry (by simp;omega),cond_true,a2,ydry (by simp;omega),cond_true,ydry (by simp;omega),cond_true,a3,yGsy (yo7y h),ydry (by simp;omega),cond_true,ydry (by simp;omega),cond_true]
 rcases h.kinds with g | g | g | g
 ·have e:restD x = ybZy x.f_Contact:=by unfold restD;rw [g.1];rfl
  have b1:∀ k:List UInt8→Option R,ydfy.log_Line x.f_Contact k = k (Lib.join (restD x) [32]++[10]):=fun k=>by
   rw [e];exact yCMy (ynly h g.1).1 R k
  have c1:(x.f_Kind == 1) = true:=by rw [g.1];rfl
  rw [c1,cond_true,b1,ok,cond_true,key]
 ·have e:restD x = [x.f_Band]:=by unfold restD;rw [g.1];rfl
  have b1:∀ k:List UInt8→Option R,ydfy.kit_Join [x.f_Band] k = k (Lib.join (restD x) [32]++[10]):=fun k=>by
   rw [e];exact ynRy (by simp) (fun w hw=>by rw [List.mem_singleton.1 hw];have:=ycCy h.fine.band;omega) R k
  have c1:(x.f_Kind == 1) = false:=by rw [g.1];rfl
  have c2:(x.f_Kind == 2) = true:=by rw [g.1];rfl
  rw [c1,cond_false,c2,cond_true,b1,ok,cond_true,key]
 ·have e:restD x = [Lib.itoa x.f_Contact.f_Sent]:=by
   unfold restD
   rcases g.1 with hk | hk <;> rw [hk] <;> rfl
  have i3:=ybRy (ybdy (n:=x.f_Contact.f_Sent) (by omega) (by omega))
  have a4:∀ k:List UInt8→Option R,ydfy.strconv_Itoa x.f_Contact.f_Sent k = k (Lib.itoa x.f_Contact.f_Sent):=fun k=>yi4y (ybdy (by omega) (by omega)) R k
  have b1:∀ k:List UInt8→Option R,ydfy.kit_Join [Lib.itoa x.f_Contact.f_Sent] k = k (Lib.join (restD x) [32]++[10]):=fun k=>by
   rw [e];exact ynRy (by simp) (fun w hw=>by rw [List.mem_singleton.1 hw];omega) R k
  have c1:(x.f_Kind == 1) = false:=by rcases g.1 with hk | hk <;> rw [hk] <;> rfl
  have c2:(x.f_Kind == 2) = false:=by rcases g.1 with hk | hk <;> rw [hk] <;> rfl
  have c3:(x.f_Kind == 5) = false:=by rcases g.1 with hk | hk <;> rw [hk] <;> rfl
  rw [c1,cond_false,c2,cond_false,c3,cond_false,a4,b1,ok,cond_true,key]
 ·have e:restD x = [x.f_Of,Lib.itoa x.f_Other]:=by unfold restD;rw [g.1];rfl
  have i3:=ybRy (ybdy (n:=x.f_Other) (by omega) (by omega))
  have a4:∀ k:List UInt8→Option R,ydfy.strconv_Itoa x.f_Other k = k (Lib.itoa x.f_Other):=fun k=>yi4y (ybdy (by omega) (by omega)) R k
  have b1:∀ k:List UInt8→Option R,ydfy.kit_Join [x.f_Of,Lib.itoa x.f_Other] k = k (Lib.join (restD x) [32]++[10]):=fun k=>by
   rw [e]
   exact ynRy (by simp) (fun w hw=>by
    have:=ycCy h.fine.of1
    simp only [List.mem_cons,List.not_mem_nil,or_false] at hw
    rcases hw with rfl | rfl <;> omega) R k
  have c1:(x.f_Kind == 1) = false:=by rw [g.1];rfl
  have c2:(x.f_Kind == 2) = false:=by rw [g.1];rfl
  have c3:(x.f_Kind == 5) = true:=by rw [g.1];rfl
  rw [c1,cond_false,c2,cond_false,c3,cond_true,a4,b1,ok,cond_true,key]
theorem ymNy:∀ {d:List G_Deed},(∀ c∈d,DeedOk c)→(yaEy lineD d).length≤1301 * d.length
 | [],_=>by simp [yaEy]
 | c::cs,h=>by
  have h1:=ynay (h c (by simp))
  have h2:=ymNy (d:=cs) fun c hc=>h c (List.mem_cons_of_mem _ hc)
  show ((lineD c++[10])++yaEy lineD cs).length≤_
  rw [List.length_append,List.length_append,List.length_cons]
  simp only [List.length_cons,List.length_nil]
  omega
theorem yn7y (d:List G_Deed) (hd:∀ c∈d,DeedOk c) (hl:d.length≤100):∀ (xs:List G_Deed) (n i:Nat) (acc:List UInt8),d.drop i = xs→xs.length < n→acc.length≤1301 * i→∀ (R:Type) (e0:List UInt8→Option R),
  ycIy ybWy n d (d.length:Int) (i:Int) acc e0 = e0 (acc++yaEy lineD xs)
 | _,0,_,_,_,h,_,_,_=>by omega
 | [],n + 1,i,acc,h,_,_,R,e0=>by rw [ycIy,ya5y h,yaEy,List.append_nil];rfl
 | c::cs,n + 1,i,acc,h,hn,ha,R,e0=>by
  have h':=yaty h
  have hlt:=h'.2.1
  have hsh:=ynay (hd c (ycpy h))
  have ih:=yn7y d hd hl cs n (i + 1) (acc++(lineD c++[10])) h'.2.2.1 (Nat.lt_of_succ_lt_succ (by simpa only [List.length_cons] using hn)) (by simp;omega) R e0
  have w1:∀ k:List UInt8→Option R,ybWy.z74z c k = k (lineD c++[10]):=fun k=>yDqy (hd c (ycpy h)) R k
  rw [ycIy,yaWy h,cond_true,ybay h,w1,decide_eq_true (by simp;omega),cond_true,yayy (show i < 4611686018427387904 by omega),ih,yaEy,List.append_assoc]
theorem ytGy {d:List G_Deed} (hr:RightD d) (hl:d.length≤100) (R:Type) (k:List UInt8→Int→Option R):net_Text d k = k (yaEy lineD d) 0:=by
 have hd:∀ c∈d,DeedOk c:=fun c hc=>yAKy (hr.fine c hc) (hr.good c hc)
 have w1:∀ k:Int→Option R,ybWy.z10z d k = k 0:=fun k=>z10z_right hr (by omega) R k
 have hs:=ymNy hd
 show yjby ybWy d k = _
 unfold yjby
 rw [w1]
 refine (yn7y d hd hl d NN 0 [] rfl (by have:=NN_ok;omega) (by simp) R _).trans ?_
 rw [List.nil_append,decide_eq_false (show ¬ (((yaEy lineD d).length:Int) > 200000) by omega)]
 rfl
theorem yCNy {x:G_Deed} (h:DeedOk x) (R:Type) (k:G_Deed→Bool→Option R):z79z (lineD x) k = k x true:=by
 have hw:=yhPy h
 have hr:=yjNy h
 have hl:=ynay h
 have hn:=h.no
 have ha:=h.at1
 have k1:=ylFy (yo7y h)
 have n1:=yeQy (n:=x.f_No) (by omega) (by omega)
 have n2:=yeQy (n:=x.f_At) (by omega) (by omega)
 have hsp:yaAy 32 (lineD x) = ybfy x:=yl0y (List.cons_ne_nil _ _) fun w hh=>(hw w hh).1.1
 have hok:ykly (lineD x) = true:=ywdy (List.cons_ne_nil _ _) fun w hh=>⟨(hw w hh).1.1,(hw w hh).1.2.2⟩
 have w1:∀ k:List (List UInt8)→Bool→Option R,yeAy.kit_Words (lineD x) k = k (ybfy x) true:=fun k=>by
  refine (yyQy (by omega) R k).trans ?_
  rw [hok,hsp];rfl
 have hrl:1≤(restD x).length:=List.length_pos_iff.2 hr.1
 have el:(((ybfy x).length:Nat):Int) = 4 + ((restD x).length:Int):=by unfold ybfy;simp;omega
 have g1:decide ((((ybfy x).length:Nat):Int)≤4) = false:=decide_eq_false (by omega)
 have g2:(decide ((0:Nat)≤1)&&(decide ((1:Nat)≤3)&&decide ((3:Int)≤(((ybfy x).length:Nat):Int)))) = true:=by rw [decide_eq_true (p:=(3:Int)≤_) (by omega)];rfl
 have g3:(decide ((0:Nat)≤4)&&decide ((4:Int)≤(((ybfy x).length:Nat):Int))) = true:=by rw [decide_eq_true (p:=(4:Int)≤_) (by omega)];rfl
 have t1:((ybfy x).take ((3:Int)).toNat).drop ((1:Int)).toNat = [Lib.itoa x.f_No,Lib.itoa x.f_At]:=rfl
 have t2:(ybfy x).drop ((4:Int)).toNat = restD x:=rfl
 have w2:∀ k:List Int→Bool→Option R,yeAy.z48z [Lib.itoa x.f_No,Lib.itoa x.f_At] k = k [x.f_No,x.f_At] true:=fun k=>by
  refine (z48z_g (d:=[Lib.itoa x.f_No,Lib.itoa x.f_At]) (fun w hh=>by
   have:=(hw w (by
    simp only [List.mem_cons,List.not_mem_nil,or_false] at hh
    unfold ybfy
    rcases hh with rfl | rfl <;> simp)).2
   omega) (by simp) R k).trans ?_
  have e1:[Lib.itoa x.f_No,Lib.itoa x.f_At].all numB = true:=by simp [n1.1,n2.1]
  rw [e1]
  show k [numQ (Lib.itoa x.f_No),numQ (Lib.itoa x.f_At)] true = _
  rw [n1.2,n2.2]
 have a0:∀ k:List UInt8→Option R,inr (ybfy x) 0 (at_ (ybfy x) 0 k) = k x.f_Site:=fun k=>by
  rw [ys1y (by omega) (by omega)];rfl
 have a3:∀ k:List UInt8→Option R,inr (ybfy x) 3 (at_ (ybfy x) 3 k) = k (kindW x.f_Kind):=fun k=>by
  rw [ys1y (by omega) (by omega)];rfl
 have b0:∀ k:Int→Option R,inr [x.f_No,x.f_At] 0 (at_ [x.f_No,x.f_At] 0 k) = k x.f_No:=fun k=>rfl
 have b1:∀ k:Int→Option R,inr [x.f_No,x.f_At] 1 (at_ [x.f_No,x.f_At] 1 k) = k x.f_At:=fun k=>rfl
 have c0:∀ k:List (List UInt8)→Option R,yeAy.z88z k = k yhxy:=fun k=>rfl
 have c1:∀ k:Int→Option R,yeAy.z26z yhxy (kindW x.f_Kind) k = k x.f_Kind:=fun k=>by
  refine (ykxy (kindW x.f_Kind) yhxy (by decide) R k).trans ?_
  rw [k1.2.1]
 show z79z_ yeAy (lineD x) k = _
 unfold z79z_
 rw [w1,Bool.not_true,cond_false,g1,cond_false,g2,cond_true,t1,w2,Bool.not_true,cond_false,a0,b0,b1,a3,c0,c1,g3,cond_true,t2]
 rcases h.kinds with g | g | g | g
 ·have e:restD x = ybZy x.f_Contact:=by unfold restD;rw [g.1];rfl
  have hb:=ypMy h.fine.con g.2.1
  have d1:∀ k:G_Contact→Bool→Option R,yeAy.z69z (restD x) k = k x.f_Contact true:=fun k=>by
   rw [e]
   refine (z69z_g (fun w hh=>by have:=(yfoy (ynly h g.1).1 w hh).1;omega) R k).trans ?_
   rw [hb.2.1,hb.2.2];rfl
  have q1:(x.f_Kind == 1) = true:=by rw [g.1];rfl
  have fin:(⟨x.f_Site,x.f_No,x.f_At,x.f_Kind,x.f_Contact,[],[],0⟩:G_Deed) = x:=by
   conv=>rhs;rw [show x = ⟨x.f_Site,x.f_No,x.f_At,x.f_Kind,x.f_Contact,x.f_Band,x.f_Of,x.f_Other⟩ from rfl]
   rw [g.2.2.1,g.2.2.2.1,g.2.2.2.2]
  rw [q1,cond_true,d1,fin]
 ·have e:restD x = [x.f_Band]:=by unfold restD;rw [g.1];rfl
  have q1:(x.f_Kind == 1) = false:=by rw [g.1];rfl
  have q2:(x.f_Kind == 2) = true:=by rw [g.1];rfl
  have q3:((([x.f_Band]:List (List UInt8)).length:Int) == 1) = true:=rfl
  have q4:∀ k:List UInt8→Option R,at_ [x.f_Band] 0 k = k x.f_Band:=fun k=>rfl
  have fin:(⟨x.f_Site,x.f_No,x.f_At,x.f_Kind,⟨0,0,[],[],0,0,[],[]⟩,x.f_Band,[],0⟩:G_Deed) = x:=by
   conv=>rhs;rw [show x = ⟨x.f_Site,x.f_No,x.f_At,x.f_Kind,x.f_Contact,x.f_Band,x.f_Of,x.f_Other⟩ from rfl]
   rw [g.2.2.1,g.2.2.2.1,g.2.2.2.2];rfl
  rw [e,q1,cond_false,q2,cond_true,q3,cond_true,q4,fin]
 ·have e:restD x = [Lib.itoa x.f_Contact.f_Sent]:=by
   unfold restD
   rcases g.1 with hk | hk <;> rw [hk] <;> rfl
  have n3:=yeQy (n:=x.f_Contact.f_Sent) (by omega) (by omega)
  have i3:=ybRy (ybdy (n:=x.f_Contact.f_Sent) (by omega) (by omega))
  have q1:(x.f_Kind == 1) = false:=by rcases g.1 with hk | hk <;> rw [hk] <;> rfl
  have q2:(x.f_Kind == 2) = false:=by rcases g.1 with hk | hk <;> rw [hk] <;> rfl
  have q5:(x.f_Kind == 5) = false:=by rcases g.1 with hk | hk <;> rw [hk] <;> rfl
  have q3:((([Lib.itoa x.f_Contact.f_Sent]:List (List UInt8)).length:Int) == 1) = true:=rfl
  have q4:∀ k:List UInt8→Option R,at_ [Lib.itoa x.f_Contact.f_Sent] 0 k = k (Lib.itoa x.f_Contact.f_Sent):=fun k=>rfl
  have d1:∀ k:Int→Bool→Option R,yeAy.kit_Number (Lib.itoa x.f_Contact.f_Sent) 15 k = k x.f_Contact.f_Sent true:=fun k=>by
   refine (yizy (by omega) R k).trans ?_
   rw [yymy,n3.1,if_pos rfl,n3.2];rfl
  have fin:(⟨x.f_Site,x.f_No,x.f_At,x.f_Kind,⟨0,0,[],[],x.f_Contact.f_Sent,0,[],[]⟩,[],[],0⟩:G_Deed) = x:=by
   conv=>rhs;rw [show x = ⟨x.f_Site,x.f_No,x.f_At,x.f_Kind,x.f_Contact,x.f_Band,x.f_Of,x.f_Other⟩ from rfl]
   rw [g.2.2.2.1,g.2.2.2.2.1,g.2.2.2.2.2,← g.2.2.1]
  rw [e,q1,cond_false,q2,cond_false]
  rcases g.1 with hk | hk
  ·have q6:(x.f_Kind == 3) = true:=by rw [hk];rfl
   rw [q6,cond_true,q3,cond_true,q4,d1,fin]
  ·have q6:(x.f_Kind == 3) = false:=by rw [hk];rfl
   have q7:(x.f_Kind == 4) = true:=by rw [hk];rfl
   rw [q6,cond_false,q7,cond_true,q3,cond_true,q4,d1,fin]
 ·have e:restD x = [x.f_Of,Lib.itoa x.f_Other]:=by unfold restD;rw [g.1];rfl
  have n3:=yeQy (n:=x.f_Other) (by omega) (by omega)
  have i3:=ybRy (ybdy (n:=x.f_Other) (by omega) (by omega))
  have q1:(x.f_Kind == 1) = false:=by rw [g.1];rfl
  have q2:(x.f_Kind == 2) = false:=by rw [g.1];rfl
  have q3:(x.f_Kind == 3) = false:=by rw [g.1];rfl
  have q4:(x.f_Kind == 4) = false:=by rw [g.1];rfl
  have q5:(x.f_Kind == 5) = true:=by rw [g.1];rfl
  have q6:((([x.f_Of,Lib.itoa x.f_Other]:List (List UInt8)).length:Int) == 2) = true:=rfl
  have q7:∀ k:List UInt8→Option R,at_ [x.f_Of,Lib.itoa x.f_Other] 0 k = k x.f_Of:=fun k=>rfl
  have q8:∀ k:List UInt8→Option R,at_ [x.f_Of,Lib.itoa x.f_Other] 1 k = k (Lib.itoa x.f_Other):=fun k=>rfl
  have d1:∀ k:Int→Bool→Option R,yeAy.kit_Number (Lib.itoa x.f_Other) 15 k = k x.f_Other true:=fun k=>by
   refine (yizy (by omega) R k).trans ?_
   rw [yymy,n3.1,if_pos rfl,n3.2];rfl
  have fin:(⟨x.f_Site,x.f_No,x.f_At,x.f_Kind,⟨0,0,[],[],0,0,[],[]⟩,[],x.f_Of,x.f_Other⟩:G_Deed) = x:=by
   conv=>rhs;rw [show x = ⟨x.f_Site,x.f_No,x.f_At,x.f_Kind,x.f_Contact,x.f_Band,x.f_Of,x.f_Other⟩ from rfl]
   rw [g.2.2.2.1,g.2.2.2.2];rfl
  have q9:((([x.f_Of,Lib.itoa x.f_Other]:List (List UInt8)).length:Int) == 1) = false:=rfl
  rw [e,q1,cond_false,q2,cond_false,q3,cond_false,q4,cond_false,q5,cond_true,q6,cond_true,q7,q8,d1,fin]
theorem ymVy (d:List G_Deed) (hd:∀ c∈d,DeedOk c) (hl:d.length≤100):∀ (xs:List G_Deed) (n i:Nat) (acc:List G_Deed),d.drop i = xs→xs.length < n→acc.length≤i→∀ (R:Type) (e0:Int→Int→List G_Deed→Option R) (e1:List G_Deed→Option R),
  yccy ybEy n true (((d.map lineD).length:Nat):Int) (i:Int) (d.map lineD) acc e0 e1 = e1 (acc++xs)
 | _,0,_,_,_,h,_,_,_,_=>by omega
 | [],n + 1,i,acc,h,_,_,R,e0,e1=>by
  have hm:(d.map lineD).drop i = []:=by rw [← List.map_drop,h];rfl
  rw [yccy,ya5y hm,List.append_nil];rfl
 | c::cs,n + 1,i,acc,h,hn,ha,R,e0,e1=>by
  have h':=yaty h
  have hlt:=h'.2.1
  have hm:(d.map lineD).drop i = lineD c::cs.map lineD:=by rw [← List.map_drop,h];rfl
  have ih:=ymVy d hd hl cs n (i + 1) (acc++[c]) h'.2.2.1 (Nat.lt_of_succ_lt_succ (by simpa only [List.length_cons] using hn)) (by simp;omega) R e0 e1
  have w1:∀ k:G_Deed→Bool→Option R,ybEy.z79z (lineD c) k = k c true:=fun k=>yCNy (hd c (ycpy h)) R k
  rw [yccy,yaWy hm,cond_true,yePy hm,yboy (yaty hm).1,w1,Bool.not_true,cond_false,cond_false,room1 acc c 176 (by omega) (by omega),cond_true,yayy (show i < 4611686018427387904 by omega),ih,List.append_assoc];rfl
theorem ywiy (e:Bool):∀ (ls:List (List UInt8)) (i:Nat) (acc r:List (List UInt8)),goG some e i ls acc = .inr r→r = acc++ls∧(ls≠[]→e = true)
 | [],i,acc,r,h=>by
  have:acc = r:=Sum.inr.inj h
  rw [this,List.append_nil]
  exact ⟨rfl,fun h=>absurd rfl h⟩
 | l::ls,i,acc,r,h=>by
  rw [ylKy] at h
  cases hc:(!e&&ls == []) with
  | true=>rw [hc] at h;cases h
  | false =>
   rw [hc] at h
   have ih:=ywiy e ls (i + 1) (acc++[l]) r h
   refine ⟨by rw [ih.1,List.append_assoc];rfl,fun _=>?_⟩
   cases e with
   | true=>rfl
   | false =>
    rw [Bool.not_false,Bool.true_and] at hc
    exact absurd (ih.2 (beq_eq_false_iff_ne.1 hc)) (by decide)
theorem ysDy {α:Type} (g:α→List UInt8):∀ x:List α,yaEy (fun l=>l) (x.map g) = yaEy g x
 | []=>rfl
 | c::cs=>by
  show (g c++[10])++yaEy (fun l=>l) (cs.map g) = (g c++[10])++yaEy g cs
  rw [ysDy g cs]
theorem yC8y {α:Type} {g:α→List UInt8} {x:List α} (h:∀ c∈x,(g c).contains 10 = false):yfxy (yaEy g x) = x.map g∧endG (yaEy g x) = true:=by
 have hg:=yGmy (f:=some) (g:=fun l:List UInt8=>l) (x:=x.map g) (fun c hc=>by
  obtain ⟨y,hy,rfl⟩:=List.mem_map.1 hc
  exact ⟨rfl,h y hy⟩)
 rw [ysDy] at hg
 have:=ywiy _ _ 0 [] _ hg
 refine ⟨by rw [this.1];rfl,?_⟩
 cases x with
 | nil=>rfl
 | cons c cs =>
  have h1:=this.1
  exact this.2 (by rw [List.nil_append] at h1;rw [← h1];exact List.cons_ne_nil _ _)
theorem ythy {d:List G_Deed} (hr:RightD d) (hl:d.length≤100) (R:Type) (k:List G_Deed→Int→Int→Option R):net_Read (yaEy lineD d) k = k d 0 0:=by
 have hd:∀ c∈d,DeedOk c:=fun c hc=>yAKy (hr.fine c hc) (hr.good c hc)
 have hs:=ymNy hd
 have hln:=yC8y (g:=lineD) (x:=d) fun c hc=>yLBy (by decide) fun w hw=>((yhPy (hd c hc)) w hw).1.2.1
 have w1:∀ k:List (List UInt8)→Bool→Option R,ybEy.kit_Lines (yaEy lineD d) k = k (d.map lineD) true:=fun k=>by
  refine (yy8y (by omega) R k).trans ?_
  rw [hln.1,hln.2]
 have w2:∀ k:Int→Option R,ybEy.z10z d k = k 0:=fun k=>z10z_right hr (by omega) R k
 show yjpy ybEy (yaEy lineD d) k = _
 unfold yjpy
 rw [decide_eq_false (show ¬ (((yaEy lineD d).length:Int) > 200000) by omega),cond_false,w1]
 refine (ymVy d hd hl d NN 0 [] rfl (by have:=NN_ok;omega) (Nat.zero_le _) R _ _).trans ?_
 rw [List.nil_append,w2]
 rfl
theorem yAZy:∀ (l:List G_Deed) (bs:List Bool) (w:G_net_own),(∀ y∈l,y.f_Kind≠5)→undK w l bs = false
 | [],bs,w,_=>by cases bs <;> rfl
 | y::ys,[],w,_=>rfl
 | y::ys,b::bs,w,h=>by
  have h5:(y.f_Kind == 5) = false:=beq_eq_false_iff_ne.2 (h y (by simp))
  rw [yjey,h5,Bool.false_and,Bool.and_false,Bool.false_or,yAZy ys bs w fun z hz=>h z (List.mem_cons_of_mem _ hz)]
theorem yt0y:∀ (l:List G_Deed),(∀ y∈l,y.f_Kind≠5)→cntsD l = List.replicate l.length true
 | [],_=>rfl
 | y::ys,h=>by
  have h2:∀ z∈ys,z.f_Kind≠5:=fun z hz=>h z (List.mem_cons_of_mem _ hz)
  rw [cntsD,yAZy ys _ _ h2,yt0y ys h2,List.length_cons,List.replicate_succ];rfl
theorem yxEy:∀ (n o:Nat),(idxD o (List.replicate n true)).length = n
 | 0,_=>rfl
 | n + 1,o=>by
  rw [List.replicate_succ,idxD,cond_true,List.length_cons,yxEy n (o + 1)]
theorem yC3y {y:List G_Deed} (h:∀ z∈y,z.f_Kind≠5) (at0:Int):(yfjy y at0).length = (tillD y at0).length:=by
 have h2:∀ z∈tillD y at0,z.f_Kind≠5:=fun z hz=>h z (List.mem_filter.1 hz).1
 unfold yfjy
 rw [yt0y (tillD y at0) h2,yxEy]
theorem yyyy (at0:Int) (d:List G_Deed) (hl:d.length≤1000):∀ (xs:List G_Deed) (n i:Nat) (acc:List G_Deed),d.drop i = xs→xs.length < n→acc.length≤i→∀ (R:Type) (e0:Int→List G_Deed→Option R),
  yaNy yaiy n at0 (d.length:Int) (i:Int) d acc e0 = e0 at0 (acc++xs.filter fun z=>z.f_Kind != 5)
 | _,0,_,_,_,h,_,_,_=>by omega
 | [],n + 1,i,acc,h,_,_,R,e0=>by rw [yaNy,ya5y h,List.filter_nil,List.append_nil];rfl
 | c::cs,n + 1,i,acc,h,hn,ha,R,e0=>by
  have h':=yaty h
  have hlt:=h'.2.1
  have hn':cs.length < n:=Nat.lt_of_succ_lt_succ (by simpa only [List.length_cons] using hn)
  rw [yaNy,yaWy h,cond_true,yePy h,yboy h'.1,yayy (show i < 4611686018427387904 by omega),List.filter_cons]
  cases hk:c.f_Kind != 5 with
  | true =>
   rw [cond_true,room1 acc c 176 (by omega) (by omega),cond_true,yyyy at0 d hl cs n (i + 1) (acc++[c]) h'.2.2.1 hn' (by simp;omega) R e0,if_pos rfl,List.append_assoc];rfl
  | false =>
   rw [cond_false,yyyy at0 d hl cs n (i + 1) acc h'.2.2.1 hn' (by omega) R e0,if_neg (by decide)]
theorem ywJy (at0 e:Int) (js:List Int) (d:List G_Deed) (hl:d.length≤1000):∀ (xs:List G_Deed) (n i c:Nat),d.drop i = xs→xs.length < n→c≤i→∀ (R:Type) (e0:Int→Int→List Int→Option R),
  yaOy yaiy n at0 e (c:Int) (d.length:Int) (i:Int) d js e0 = e0 e ((c + (tillD xs at0).length:Nat):Int) js
 | _,0,_,_,_,h,_,_,_=>by omega
 | [],n + 1,i,c,h,_,_,R,e0=>by rw [yaOy,ya5y h];rfl
 | y::ys,n + 1,i,c,h,hn,hc,R,e0=>by
  have h':=yaty h
  have hlt:=h'.2.1
  have hn':ys.length < n:=Nat.lt_of_succ_lt_succ (by simpa only [List.length_cons] using hn)
  rw [yaOy,yaWy h,cond_true,yePy h,yboy h'.1,yayy (show i < 4611686018427387904 by omega),yayy (show c < 4611686018427387904 by omega)]
  have e1:tillD (y::ys) at0 = if decide (y.f_At≤at0) = true then y::tillD ys at0 else tillD ys at0:=by
   unfold tillD
   rw [List.filter_cons]
  rw [e1]
  cases hd:decide (y.f_At≤at0) with
  | true =>
   rw [cond_true,ywJy at0 e js d hl ys n (i + 1) (c + 1) h'.2.2.1 hn' (by omega) R e0,if_pos rfl,List.length_cons,show c + 1 + (tillD ys at0).length = c + ((tillD ys at0).length + 1) by omega]
  | false =>
   rw [cond_false,ywJy at0 e js d hl ys n (i + 1) c h'.2.2.1 hn' (by omega) R e0,if_neg (by decide)]
theorem yz0y (R:Type) (k:Int→Option R):keep_errs [0,0,0,0] k = k 0:=by
 obtain ⟨m,h,rfl⟩:=yaYy ‹Fuel›
 kernel_rfl
theorem keep_DeedsAgree_true (l:List Int) (R:Type) (k:Bool→Option R):keep_DeedsAgree l k = k true:=by
 obtain ⟨n,s1,n1,n2,z1,e1⟩:=z52z_gives (sOk0 l) 0 12 (by omega) (by omega) (by omega) (by omega) (by omega)
 obtain ⟨nn,rfl⟩:=Int.eq_ofNat_of_zero_le n1
 obtain ⟨x,s2,lx,hx,z2,e2⟩:=yp7y z1 (by omega) nn (by omega)
 obtain ⟨at0,s3,a1,a2,z3,e3⟩:=z52z_gives z2 0 60 (by omega) (by omega) (by omega) (by omega) (by omega)
 have ha:momB at0 = true:=by
  unfold momB inB
  simp;omega
 obtain ⟨P,Q,s4,p1,p2,p3,e4⟩:=yzry (d:=x) (by omega) z3 (by omega)
 have hy:RightD (x.filter fun z=>z.f_Kind != 5):=hx.sub List.filter_sublist
 have ly:(x.filter fun z=>z.f_Kind != 5).length≤12:=Nat.le_trans (List.length_filter_le _ _) (by omega)
 have h5:∀ z∈x.filter (fun z=>z.f_Kind != 5),z.f_Kind≠5:=fun z hz=>by
  have:=(List.mem_filter.1 hz).2
  simpa using this
 have cn:=yC3y h5 at0
 have eq:∀ k:Bool→Option R,yaiy.z38z x x k = k true:=fun k=>by
  show z38z x x k = _
  rw [yIYy]
  exact yzSy (by have:=NN_ok;omega) (by have:=NN_ok;omega) (fun y=>by rw [(ychy y y).2 rfl];rfl) k
 have v1:∀ k:Int→G_Stream→Option R,yaiy.z52z ⟨l,0⟩ 0 12 k = k (nn:Int) s1:=fun k=>e1 R k
 have v2:∀ k:List G_Deed→G_Stream→Option R,yaiy.z28z s1 (nn:Int) k = k x s2:=fun k=>e2 R k
 have v3:∀ k:Int→G_Stream→Option R,yaiy.z52z s2 0 60 k = k at0 s3:=fun k=>e3 R k
 have v4:∀ k:List G_Deed→List G_Deed→G_Stream→Option R,yaiy.z32z s3 x k = k P Q s4:=fun k=>e4 R k
 have v5:∀ k:List G_Deed→Int→Option R,yaiy.net_Merge Q P k = k x 0:=fun k=>yjcy hx p1 p2 (by omega) p3 R k
 have v6:∀ k:List G_Deed→Int→Option R,yaiy.net_Merge P Q k = k x 0:=fun k=>yjcy hx p2 p1 (by omega) (fun y hy=>(p3 y hy).symm) R k
 have v7:∀ k:List UInt8→Int→Option R,yaiy.net_Text x k = k (yaEy lineD x) 0:=fun k=>ytGy hx (by omega) R k
 have v8:∀ k:List G_Deed→Int→Int→Option R,yaiy.net_Read (yaEy lineD x) k = k x 0 0:=fun k=>ythy hx (by omega) R k
 have v9:∀ k:Int→Option R,yaiy.keep_errs [0,0,0,0] k = k 0:=fun k=>yz0y R k
 have v10:∀ k:List Int→Int→Option R,yaiy.z86z (x.filter fun z=>z.f_Kind != 5) at0 k = k (yfjy (x.filter fun z=>z.f_Kind != 5) at0) 0:=fun k=>by
  have f1:∀ (k:Int→Option R),ymZy.z65z (x.filter fun z=>z.f_Kind != 5) at0 k = k 0:=fun k=>ysky hy (by omega) ha R k
  have f2:∀ (k:List Int→Option R),ymZy.z12z (x.filter fun z=>z.f_Kind != 5) at0 k = k (yfjy (x.filter fun z=>z.f_Kind != 5) at0):=fun k=>z12z_is hy (by omega) at0 R k
  show z86z_ ymZy _ at0 k = _
  unfold z86z_
  rw [f1,bne_self_eq_false,cond_false,f2]
 have v11:∀ k:Bool→Option R,yaiy.keep_ready k = k true:=fun k=>yuOy R k
 have w1:∀ e0:Int→List G_Deed→Option R,yaNy yaiy yaiy.N at0 (x.length:Int) 0 x [] e0 = e0 at0 (x.filter fun z=>z.f_Kind != 5):=fun e0=>yyyy at0 x (by omega) x NN 0 [] rfl (by have:=NN_ok;omega) (Nat.zero_le _) R e0
 have w2:∀ e0:Int→Int→List Int→Option R,yaOy yaiy yaiy.N at0 0 0 ((x.filter fun z=>z.f_Kind != 5).length:Int) 0 (x.filter fun z=>z.f_Kind != 5) (yfjy (x.filter fun z=>z.f_Kind != 5) at0) e0 = e0 0 (((tillD (x.filter fun z=>z.f_Kind != 5) at0).length:Nat):Int) (yfjy (x.filter fun z=>z.f_Kind != 5) at0):=fun e0=>by
  have:=ywJy at0 0 (yfjy (x.filter fun z=>z.f_Kind != 5) at0) (x.filter fun z=>z.f_Kind != 5) (by omega) (x.filter fun z=>z.f_Kind != 5) NN 0 0 rfl (by have:=NN_ok;omega) (Nat.le_refl _) R e0
  rw [Nat.zero_add] at this
  exact this
 show yc8y yaiy l k = _
 unfold yc8y
 rw [v1,v2,v3,v4,v6,v5,v7,v8,v9,bne_self_eq_false,cond_false,eq,Bool.not_true,cond_false,eq,Bool.not_true,cond_false,eq,Bool.not_true,cond_false,w1,v10,w2,beq_self_eq_true,cond_true,cn,beq_self_eq_true,cond_true,v11]
end Go.Am
