/- The plain law, in Lean alone: V4, V5. No condition: lemmas for the claim. -/
import Derived.Test.YtfmhkakoakcpgaaGreatDoorPlV3
import Derived.Test.YtfmhkakoakcpgaaGreatDoorPlR4
set_option linter.unusedVariables false
set_option linter.unusedSectionVars false
set_option linter.unusedSimpArgs false
set_option maxRecDepth 100000
namespace Go.Am
open Go Go.Proofs
variable [Fuel]
def keyCo (c:G_Contact):G_Contact:=⟨c.f_At,c.f_Mode,c.f_Band,c.f_Call,0,0,[],[]⟩
def heldF (x:G_Deed) (m:List (G_net_own×Bool)):List (G_net_own×Bool):=bif x.f_Kind == 3 then yaLy ⟨x.f_Site,x.f_Contact.f_Sent⟩ true m else bif x.f_Kind == 4 then yaJy ⟨x.f_Site,x.f_Contact.f_Sent⟩ m else bif x.f_Kind == 1 then yaJy ⟨x.f_Site,x.f_Contact.f_Sent⟩ m else m
def byF (x:G_Deed) (m:List (G_Contact×G_Deed)):List (G_Contact×G_Deed):=bif x.f_Kind == 1 then (bif (yaly (keyCo x.f_Contact) m).isSome then m else yaIy (keyCo x.f_Contact) x m) else m
def conF (x:G_Deed) (m:List (G_Contact×G_Deed)) (c:List G_Contact):List G_Contact:=bif x.f_Kind == 1 then (bif (yaly (keyCo x.f_Contact) m).isSome then c else c ++ [x.f_Contact]) else c
def othF (x:G_Deed) (m:List (G_Contact×G_Deed)) (o:List Int) (j:Int):List Int:=bif x.f_Kind == 1 then (bif (yaly (keyCo x.f_Contact) m).isSome then o ++ [j] else o) else o
theorem yBmy {d:List G_Deed} {js:List Int} {n i:Nat} {j:Int} {x:G_Deed} (hi:i < 1000000) (hj:js[i]? = some j) (hj0:0≤j) (hx:d[j.toNat]? = some x) (held:List (G_net_own×Bool)) (by1:List (G_Contact×G_Deed)) {D:List G_Deed} {C:List G_Contact} (S:List (List UInt8)) {O:List Int} (hD:D.length≤1000000) (hC:C.length≤1000000) (hO:O.length≤1000000) (R:Type) (e0:List (G_net_own×Bool)→List (G_Contact×G_Deed)→List G_Deed→List G_Contact→List (List UInt8)→List Int→Option R) :
  z16z_L4 ybfy (n + 1) d (js.length:Int) (i:Int) held by1 js D C S O e0 = z16z_L4 ybfy n d (js.length:Int) ((i + 1:Nat):Int) (heldF x held) (byF x by1) js (D ++ [x]) (conF x by1 C) S (othF x by1 O j) e0:=by
 have hil:i < js.length:=by obtain ⟨h,_⟩:=List.getElem?_eq_some_iff.1 hj; exact h
 have r1:=room1 D x 176 hD (by omega)
 have r2:=room1 C x.f_Contact 96 hC (by omega)
 have r3:=room1 O j 8 hO (by omega)
 have hg:∀ (k:G_Deed→Option R),get_ d j k = k x:=fun k=>by
  unfold get_
  rw [decide_eq_true hj0,cond_true]
  exact yqHy hx k
 have hk:∀ (c:G_Contact) (k:G_Contact→Option R),ybfy.net_key c k = k (keyCo c):=fun c k=>rfl
 have hne:(x.f_Kind != 1) = !(x.f_Kind == 1):=rfl
 rw [z16z_L4,decide_eq_true (show (i:Int) < (js.length:Int) by omega),cond_true,ybLy hil,ybTy hj,hg,r1,cond_true]
 simp only [hk,hne,r2,r3,cond_true,yary (show i < 4611686018427387904 by omega)]
 unfold heldF byF conF othF
 cases x.f_Kind == 3 <;> cases x.f_Kind == 4 <;> cases x.f_Kind == 1 <;> (try rfl) <;> cases (yaly (keyCo x.f_Contact) by1).isSome <;> rfl
structure StOk (D:List G_Deed) (C:List G_Contact) (S:List (List UInt8)) (O:List Int):Prop where
 lD:D.length≤1000
 lC:C.length≤1000
 lS:S.length≤1000
 lO:O.length≤1000
 fD:∀ x ∈ D,FineD x
theorem yC5y (ks:List (List UInt8)) (hn:ks.Nodup) (hl:∀ s ∈ ks,s.length≤100000) (hc:ks.length≤1000000):srtK9 ks = some (sortI Lib.compareBytes ks):=by
 have e:∀ l:List (List UInt8),List.map (fun x:List UInt8=>x) l = l:=fun l=>List.map_id' l
 have h:=yHmy (A:=A) (k:=9) rfl ks (fun x=>x) (fun x=>x) (by show (List.map (fun x:List UInt8=>x) ks).Nodup; rw [e]; exact hn) (fun s hs=>by
  have hs:s ∈ List.map (fun x:List UInt8=>x) ks:=hs
  rw [e] at hs; exact hl s hs) hc
 refine h.trans ?_
 show some (List.map (fun x:List UInt8=>x) (sortI Lib.compareBytes (List.map (fun x:List UInt8=>x) ks))) = _
 rw [e,e]
theorem yzLy:∀ s ∈ ycPy,s.length≤100000:=by
 intro s hs
 simp only [ycPy,List.mem_cons,List.not_mem_nil,or_false] at hs
 rcases hs with rfl | rfl | rfl | rfl | rfl | rfl | rfl <;> simp
end Go.Am
set_option linter.unusedVariables false
set_option linter.unusedSectionVars false
set_option linter.unusedSimpArgs false
set_option maxRecDepth 100000
namespace Go.Am
open Go Go.Proofs
variable [Fuel]
end Go.Am
