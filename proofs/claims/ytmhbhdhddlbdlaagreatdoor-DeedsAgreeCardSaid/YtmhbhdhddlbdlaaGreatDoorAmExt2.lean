/- Part of an abstract machine for this program, with its soundness: AmExt2. No condition: lemmas for the claim. -/
import Derived.Test.YtmhbhdhddlbdlaaGreatDoorAmExt
import Derived.Shelf.Spec.SlicesGrow
import Derived.Shelf.Strconv.Itoa3
import Derived.Shelf.SlIter.Nil
import Derived.Shelf.SlIterI.Nil
import Derived.Shelf.SortM.Plain
import Derived.Shelf.SortM.SortNone
set_option linter.unusedVariables false
set_option linter.unusedSimpArgs false
namespace Go.Am
open Go Go.Proofs Go.RowKit
variable {A:Nat→Type} {P:Program} {T:Ty A} {f:Nat}
def yxwy (e bytes:Nat) (args:List (IV A)):Option (Bool×IV A×List (IV A)):=match args with
 | [.d .nsl,.d (.int .i64 n)]=>some (decide (0≤n)&&(decide (n.toNat * bytes≤140737488355328)&&decide (n≤4611686018427387904)),.arr e [],[.undef,.undef])
 | _=>none
theorem yCOy (hn0:T.dr = false) (hok:TyOk P T) {e size bytes:Nat} {ty:TypeId} (hsz:T.size e = size)
  (h0:∀ (w:World),Calls P f #[.slice none 0 0,.int .i64 0] w fun e w'=>e = .returned (.slice none 0 0)∧w' = w)
  (h1:∀ (n:Nat) (w:World),0 < n→n * bytes≤140737488355328→n≤4611686018427387904 →
   Calls P f #[.slice none 0 0,.int .i64 n] w fun e w'=>∃ cap cs,e = .returned (.slice (some ⟨w.heap.size,0,none⟩) 0 cap)∧w' = w.drew.alloc (.cells cs ty)∧cap * size≤cs.size):yany P T f (ofP (yxwy e bytes)):=by
 refine ytRy fun args r ys hp=>?_
 unfold yxwy at hp
 split at hp
 ·rename_i n
  simp only [Option.some.injEq,Prod.mk.injEq,Bool.and_eq_true,decide_eq_true_eq] at hp
  obtain ⟨⟨hn,hb,hm⟩,rfl,rfl⟩:=hp
  refine ⟨rfl,fun w vs F av hr hav=>?_⟩
  simp only [RIVs,RIV] at hr
  obtain ⟨v,vs',F1,F2,rfl,rfl,⟨rfl,hd⟩,v2,vs2,F3,F4,rfl,rfl,⟨rfl,hd2⟩,rfl,rfl⟩:=hr
  rw [DR.nsl] at hd
  rw [DR.int] at hd2
  subst hd hd2
  rcases Int.le_iff_eq_or_lt.1 hn with rfl | hpos
  ·refine (h0 w).mono ?_
   rintro e1 w' ⟨rfl,rfl⟩
   refine ⟨_,[],rfl,?_,List.nodup_nil,fun b hb=>(List.not_mem_nil hb).elim,Below.refl _ _,fun _=>Nat.le_refl _⟩
   simp only [RIV]
   exact ⟨none,rfl,⟨rfl,rfl⟩,fun b hb=>by cases hb⟩
  ·have hnn:n = ((n.toNat:Nat):Int):=by omega
   have hc:=h1 n.toNat w (by omega) hb (by omega)
   rw [← hnn] at hc
   refine hc.mono ?_
   rintro e1 w' ⟨cap,cs,rfl,rfl,hcap⟩
   have hsize:(w.drew.alloc (.cells cs ty)).heap.size = w.heap.size + 1:=by show (w.heap.push _).size = _;simp
   have hcell:(w.drew.alloc (.cells cs ty)).heap[w.heap.size]? = some (.cells cs ty):=by show (w.heap.push _)[w.heap.size]? = _;simp
   refine ⟨_,[w.heap.size],rfl,?_,by simp,fun b' hb'=>?_,((Below.refl _ w).drew).alloc (Nat.le_refl _) _,fun _=>Nat.le_succ _⟩
   ·simp only [RIV]
    refine ⟨some w.heap.size,rfl,⟨cap,cs,ty,rfl,Nat.zero_le _,hcell,by rw [hsz];exact hcap⟩,fun b' hb'=>?_⟩
    cases hb'
    exact ⟨cs,ty,hcell,fun i x hi=>by simp at hi⟩
   ·simp at hb';subst hb';exact ⟨Nat.le_refl _,by rw [hsize];omega⟩
 ·cases hp
def yhsy {α:Type} (bytes:Nat) (n:Int) {R:Type} (k0:List α→Option R):Option R:=bif decide (0≤n)&&(decide (n.toNat * bytes≤140737488355328)&&decide (n≤4611686018427387904)) then k0 [] else none
theorem yJsy {e bytes:Nat} (h:yany P T f (ofP (yxwy e bytes))) {S:Spec A} (h1:∀ (n:Int) (R:Type) (k:IV A→List (IV A)→Option R),S [.d .nsl,.d (.int .i64 n)] k = yhsy (α:=A e) bytes n (fun z=>k (.arr e z) [.undef,.undef]))
  (h2:∀ args (R:Type) (k:IV A→List (IV A)→Option R),(∀ n:Int,args≠[.d .nsl,.d (.int .i64 n)])→S args k = none):yany P T f S:=by
 intro args R k res hk
 by_cases hh:∃ n:Int,args = [.d .nsl,.d (.int .i64 n)]
 ·obtain ⟨n,rfl⟩:=hh
  rw [h1] at hk
  exact h _ R k res hk
 ·rw [h2 args R k (fun xs hx=>hh ⟨xs,hx⟩)] at hk;cases hk
theorem yKYy {e bytes:Nat} {S:Spec A} (h1:∀ (n:Int) (R:Type) (k:IV A→List (IV A)→Option R),S [.d .nsl,.d (.int .i64 n)] k = yhsy (α:=A e) bytes n (fun z=>k (.arr e z) [.undef,.undef]))
  (h2:∀ args (R:Type) (k:IV A→List (IV A)→Option R),(∀ n:Int,args≠[.d .nsl,.d (.int .i64 n)])→S args k = none):yaCy S:=by
 intro args R k
 by_cases hh:∃ n:Int,args = [.d .nsl,.d (.int .i64 n)]
 ·obtain ⟨n,rfl⟩:=hh
  rw [h1,h1]
  unfold yhsy
  cases decide (0≤n)&&(decide (n.toNat * bytes≤140737488355328)&&decide (n≤4611686018427387904)) <;> rfl
 ·rw [h2 args R k (fun xs hx=>hh ⟨xs,hx⟩),h2 args _ _ (fun xs hx=>hh ⟨xs,hx⟩)];rfl
theorem yNwy {ρ:Go.Shelf.Ren} (L:Lays8.n4 P ρ) (i0:TypeInfo) (z:Value) (hi0:P.info? (ρ.t 25) = some i0) (hz0:i0.zero = some z) (size bytes:Nat) (hs:i0.size = size) (hbt:i0.bytes = bytes) (hs0:0 < size) (hzc:z.cells.size = size)
  (n:Nat) (w:World) (hn:0 < n) (hb:n * bytes≤140737488355328) (hm:n≤4611686018427387904) :
  Calls P (ρ.f 4) #[.slice none 0 0,.int .i64 n] w fun e w'=>∃ cap cs,e = .returned (.slice (some ⟨w.heap.size,0,none⟩) 0 cap)∧w' = w.drew.alloc (.cells cs (ρ.t 25))∧cap * size≤cs.size:=by
 refine (Any8.slices_Grow_grow L i0 z hi0 hz0 (by omega) none 0 0 n [] w (Nat.le_refl _) (by omega) (by rw [hbt];simpa using hb) (by omega) (by simp) (fun _=>rfl) (fun a h=>by cases h)).mono ?_
 rintro e w' ⟨rfl,rfl⟩
 refine ⟨_,_,rfl,rfl,?_⟩
 have h:=grownCap_ge w (0 + n) 0 (ρ.t 25)
 simp only [Array.size_append,ygQy,hzc]
 have:(0 + n - 0) * size + (grownCap w (0 + n) 0 (ρ.t 25) - (0 + n)) * size = grownCap w (0 + n) 0 (ρ.t 25) * size:=by
  rw [← Nat.add_mul];congr 1;omega
 simp only [List.size_toArray,List.length_nil,Nat.zero_add] at this ⊢
 omega
theorem yMiy {ρ:Go.Shelf.Ren} (L:Lays8.n4 P ρ) (w:World):Calls P (ρ.f 4) #[.slice none 0 0,.int .i64 0] w fun e w'=>e = .returned (.slice none 0 0)∧w' = w :=
 Any8.slices_Grow_room L none 0 0 0 w (Nat.le_refl _) (by omega) (by omega) (by omega)
end Go.Am
set_option linter.unusedVariables false
set_option linter.unusedSimpArgs false
namespace Go.Am
open Go Go.Proofs Go.RowKit Go.Sort
variable {A:Nat→Type} {P:Program} {T:Ty A} {f:Nat}
theorem yJCy {name:String} {k:IntKind} {zs:List Int} {g:Nat} (hg:P.globalNamed name = some g) (w w':World) (h:∀ b∈[g],w'.heap[b]? = w.heap[b]?) (ha:Lib.TabIs P w name k zs):Lib.TabIs P w' name k zs:=by
 unfold Lib.TabIs World.var? at *
 rw [hg] at *
 simp only [Option.bind_some] at *
 rw [h g (by simp)]
 exact ha
theorem tab_lt {name:String} {k:IntKind} {zs:List Int} {g:Nat} (hg:P.globalNamed name = some g) {w:World} (ha:Lib.TabIs P w name k zs):g < w.heap.size:=by
 unfold Lib.TabIs World.var? at ha
 rw [hg] at ha
 simp only [Option.bind_some] at ha
 rcases Nat.lt_or_ge g w.heap.size with h | h
 ·exact h
 ·rw [Array.getElem?_eq_none h] at ha;cases ha
def in64 (n:Int):Bool:=decide (-9223372036854775808≤n)&&decide (n≤9223372036854775807)
def ynEy (n:Int) {R:Type} (k0:List UInt8→Option R):Option R:=bif in64 n then k0 (Lib.itoa n) else none
def yi7y (g:Int→{R:Type}→(List UInt8→Option R)→Option R):Spec A:=fun args _ k=>match args with | [.d (.int .i64 n)]=>g n (fun s=>k (.d (.str s)) [.undef]) | _=>none
theorem yxyy:yaCy (yi7y (A:=A) @ynEy):=fun args R k=>by
 unfold yi7y
 split
 ·unfold ynEy
  rename_i n
  cases in64 n <;> rfl
 ·rfl
theorem ytny (ht:∀ w,T.amb w→Lib.TabIs P w "internal/strconv.uint64pow10" .u64 Lib.pow10Tab)
  (h:∀ (n:Int) (w:World),-9223372036854775808≤n→n≤9223372036854775807→Lib.TabIs P w "internal/strconv.uint64pow10" .u64 Lib.pow10Tab →
   Calls P f #[.int .i64 n] w fun e w'=>e = .returned (.string ⟨(Lib.itoa n).toArray⟩)∧∃ k os,w' = grow (w.drewN k) os):yany P T f (yi7y @ynEy):=by
 intro args R k res hk w vs F av hr hF hFa hav hamb
 unfold yi7y at hk
 split at hk
 ·rename_i n
  unfold ynEy at hk
  cases hn:in64 n with
  | false=>rw [hn] at hk;cases hk
  | true =>
   rw [hn] at hk
   simp only [cond_true] at hk
   unfold in64 at hn
   rw [Bool.and_eq_true,decide_eq_true_eq,decide_eq_true_eq] at hn
   simp only [RIVs,RIV,DR.int] at hr
   obtain ⟨v,vs',F1,F2,rfl,rfl,⟨rfl,rfl⟩,rfl,rfl⟩:=hr
   refine (h n w hn.1 hn.2 (ht w hamb.1)).mono ?_
   rintro e w' ⟨rfl,q,os,rfl⟩
   refine ⟨_,_,_,[],[],av,hk,rfl,?_,?_,by simp,?_,by simp,⟨rfl,⟨rfl,fun _=>?_⟩,rfl,?_,?_⟩⟩
   ·simp only [RIV,DR.str]
    exact ⟨trivial,by simp⟩
   ·simp only [RIVs,RIV]
    exact ⟨_,_,[],[],rfl,rfl,rfl,rfl,rfl⟩
   ·intro b hb
    rcases hb with hb | hb
    ·exact hb.1
    ·cases hb
   ·show w.drawn≤w.drawn + q
    omega
   ·show w.heap.size≤(w.heap++os).size
    simp
   ·intro b hb _
    show (w.heap++os)[b]? = _
    rw [Array.getElem?_append,if_pos hb]
 ·cases hk
end Go.Am
set_option linter.unusedVariables false
namespace Go.Am
open Go Go.Maps Go.Proofs Go.RowKit
open Go.WideElems (Fit rd rg rg_of)
variable {A:Nat→Type} {P:Program} {T:Ty A}
def SpAll (P:Program) (T:Ty A) (l:List (Nat×Sp A)):Prop:=∀ p∈l,SpOk P T p.1 p.2
theorem SpAll.nil:SpAll P T []:=fun _ h=>by cases h
theorem SpAll.cons {f:Nat} {s:Sp A} {l:List (Nat×Sp A)} (h:SpOk P T f s) (t:SpAll P T l):SpAll P T ((f,s)::l):=fun p hp=>by
 rcases List.mem_cons.1 hp with rfl | hp
 ·exact h
 ·exact t p hp
theorem SpAll.ok {l:List (Nat×Sp A)} (h:SpAll P T l):∀ f s,l.lookup f = some s→SpOk P T f s:=by
 induction l with
 | nil=>intro f s hl;cases hl
 | cons p l ih =>
  obtain ⟨g,t⟩:=p
  intro f s hl
  rw [List.lookup_cons] at hl
  cases he:f == g with
  | true =>
   rw [he] at hl
   simp only [Option.some.injEq] at hl
   obtain rfl:f = g:=by simpa using he
   subst hl
   exact h (f,t) (by simp)
  | false =>
   rw [he] at hl
   exact ih (fun p hp=>h p (by simp [hp])) f s hl
end Go.Am
