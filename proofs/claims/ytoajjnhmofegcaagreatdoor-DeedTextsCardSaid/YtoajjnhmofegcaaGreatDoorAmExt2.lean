/- Part of an abstract machine for this program, with its soundness: AmExt2. No condition: lemmas for the claim. -/
import Derived.Test.YtoajjnhmofegcaaGreatDoorAmExt
import Derived.Shelf.Spec.SlicesGrow
import Derived.Shelf.Strconv.Itoa3
import Derived.Shelf.SlIter.Nil
import Derived.Shelf.SlIterI.Nil
import Derived.Shelf.SortM.Plain
import Derived.Shelf.SortM.SortNone
set_option linter.unusedVariables false
set_option linter.unusedSimpArgs false
namespace Go.Am
open Go Go.Proofs Go.RowKit
variable {A:Nat→Type} {P:Program} {T:Ty A} {f:Nat}
end Go.Am
set_option linter.unusedVariables false
set_option linter.unusedSimpArgs false
namespace Go.Am
open Go Go.Proofs Go.RowKit Go.Sort
variable {A:Nat→Type} {P:Program} {T:Ty A} {f:Nat}
theorem yHOy {name:String} {k:IntKind} {zs:List Int} {g:Nat} (hg:P.globalNamed name = some g) (w w':World) (h:∀ b∈[g],w'.heap[b]? = w.heap[b]?) (ha:Lib.TabIs P w name k zs):Lib.TabIs P w' name k zs:=by
 unfold Lib.TabIs World.var? at *
 rw [hg] at *
 simp only [Option.bind_some] at *
 rw [h g (by simp)]
 exact ha
theorem tab_lt {name:String} {k:IntKind} {zs:List Int} {g:Nat} (hg:P.globalNamed name = some g) {w:World} (ha:Lib.TabIs P w name k zs):g < w.heap.size:=by
 unfold Lib.TabIs World.var? at ha
 rw [hg] at ha
 simp only [Option.bind_some] at ha
 rcases Nat.lt_or_ge g w.heap.size with h | h
 ·exact h
 ·rw [Array.getElem?_eq_none h] at ha;cases ha
def in64 (n:Int):Bool:=decide (-9223372036854775808≤n)&&decide (n≤9223372036854775807)
def yl5y (n:Int) {R:Type} (k0:List UInt8→Option R):Option R:=bif in64 n then k0 (Lib.itoa n) else none
def yh3y (g:Int→{R:Type}→(List UInt8→Option R)→Option R):Spec A:=fun args _ k=>match args with | [.d (.int .i64 n)]=>g n (fun s=>k (.d (.str s)) [.undef]) | _=>none
theorem yvgy:yaIy (yh3y (A:=A) @yl5y):=fun args R k=>by
 unfold yh3y
 split
 ·unfold yl5y
  rename_i n
  cases in64 n <;> rfl
 ·rfl
theorem yrxy (ht:∀ w,T.amb w→Lib.TabIs P w "internal/strconv.uint64pow10" .u64 Lib.pow10Tab)
  (h:∀ (n:Int) (w:World),-9223372036854775808≤n→n≤9223372036854775807→Lib.TabIs P w "internal/strconv.uint64pow10" .u64 Lib.pow10Tab →
   Calls P f #[.int .i64 n] w fun e w'=>e = .returned (.string ⟨(Lib.itoa n).toArray⟩)∧∃ k os,w' = grow (w.drewN k) os):yany P T f (yh3y @yl5y):=by
 intro args R k res hk w vs F av hr hF hFa hav hamb
 unfold yh3y at hk
 split at hk
 ·rename_i n
  unfold yl5y at hk
  cases hn:in64 n with
  | false=>rw [hn] at hk;cases hk
  | true =>
   rw [hn] at hk
   simp only [cond_true] at hk
   unfold in64 at hn
   rw [Bool.and_eq_true,decide_eq_true_eq,decide_eq_true_eq] at hn
   simp only [RIVs,RIV,DR.int] at hr
   obtain ⟨v,vs',F1,F2,rfl,rfl,⟨rfl,rfl⟩,rfl,rfl⟩:=hr
   refine (h n w hn.1 hn.2 (ht w hamb.1)).mono ?_
   rintro e w' ⟨rfl,q,os,rfl⟩
   refine ⟨_,_,_,[],[],av,hk,rfl,?_,?_,by simp,?_,by simp,⟨rfl,⟨rfl,fun _=>?_⟩,rfl,?_,?_⟩⟩
   ·simp only [RIV,DR.str]
    exact ⟨trivial,by simp⟩
   ·simp only [RIVs,RIV]
    exact ⟨_,_,[],[],rfl,rfl,rfl,rfl,rfl⟩
   ·intro b hb
    rcases hb with hb | hb
    ·exact hb.1
    ·cases hb
   ·show w.drawn≤w.drawn + q
    omega
   ·show w.heap.size≤(w.heap++os).size
    simp
   ·intro b hb _
    show (w.heap++os)[b]? = _
    rw [Array.getElem?_append,if_pos hb]
 ·cases hk
end Go.Am
set_option linter.unusedVariables false
namespace Go.Am
open Go Go.Maps Go.Proofs Go.RowKit
open Go.WideElems (Fit rd rg rg_of)
variable {A:Nat→Type} {P:Program} {T:Ty A}
def SpAll (P:Program) (T:Ty A) (l:List (Nat×Sp A)):Prop:=∀ p∈l,SpOk P T p.1 p.2
theorem SpAll.nil:SpAll P T []:=fun _ h=>by cases h
theorem SpAll.cons {f:Nat} {s:Sp A} {l:List (Nat×Sp A)} (h:SpOk P T f s) (t:SpAll P T l):SpAll P T ((f,s)::l):=fun p hp=>by
 rcases List.mem_cons.1 hp with rfl | hp
 ·exact h
 ·exact t p hp
theorem SpAll.ok {l:List (Nat×Sp A)} (h:SpAll P T l):∀ f s,l.lookup f = some s→SpOk P T f s:=by
 induction l with
 | nil=>intro f s hl;cases hl
 | cons p l ih =>
  obtain ⟨g,t⟩:=p
  intro f s hl
  rw [List.lookup_cons] at hl
  cases he:f == g with
  | true =>
   rw [he] at hl
   simp only [Option.some.injEq] at hl
   obtain rfl:f = g:=by simpa using he
   subst hl
   exact h (f,t) (by simp)
  | false =>
   rw [he] at hl
   exact ih (fun p hp=>h p (by simp [hp])) f s hl
end Go.Am
