/- Part of an abstract machine for this program, with its soundness: AmPrint. No condition: lemmas for the claim. -/
import Derived.Test.YtoajjnhmofegcaaGreatDoorAmSort2
import Derived.Test.YtoajjnhmofegcaaGreatDoorAmRange
import Derived.Test.YtoajjnhmofegcaaGreatDoorAmExt2
namespace Go.Am
open Go
class Fuel where
 n:Nat
 ok:1000000000≤n∧n≤4000000000000000000
abbrev NN [Fuel]:Nat:=Fuel.n
theorem NN_ok [Fuel]:1000000000≤NN∧NN≤4000000000000000000:=Fuel.ok
theorem ycfy (F:Fuel):∃ m h,F = ⟨m + 64,h⟩:=by
 obtain ⟨n,h⟩:=F
 obtain ⟨m,rfl⟩:∃ m,n = m + 64:=⟨n - 64,by omega⟩
 exact ⟨m,h,rfl⟩
theorem yyoy [Fuel]:∃ m,NN = m + 1∧999999999≤m:=⟨NN - 1,by have:=NN_ok;omega,by have:=NN_ok;omega⟩
abbrev w64 (x:Int):Int:=IntKind.i64.wrap x
def at_ {α:Type} (l:List α) (i:Int) {R:Type} (k:α→Option R):Option R:=match l[i.toNat]? with | some x=>k x | none=>none
def get_ {α:Type} (l:List α) (i:Int) {R:Type} (k:α→Option R):Option R:=bif decide (0≤i) then at_ l i k else none
def inr {α:Type} (l:List α) (i:Int) {R:Type} (k:Option R):Option R:=bif decide (0≤i)&&decide (i < (l.length:Int)) then k else none
def set_ {α:Type} (l:List α) (i:Int) (x:α):List α:=l.set i.toNat x
theorem ct_of {A:Nat→Type} {P:Program} {T:Ty A} {l:List (Nat×Spec A)} {C:Table A} (h:TabOk P T l) (hC:C = fun f=>l.lookup f):yahy C:=by subst hC;exact h.nat
end Go.Am
