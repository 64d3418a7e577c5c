/- Part of an abstract machine for this program, with its soundness: AmExt. No condition: lemmas for the claim. -/
import Derived.Test.YtoajjnhmofegcaaGreatDoorAmTab
import Derived.Shelf.Small.Strs
import Derived.Shelf.Strings.Search2
import Derived.Shelf.Strings.Runes
import Derived.Shelf.Strings.SlTrimAscii
import Derived.Shelf.SlicesE.Clone
set_option linter.unusedVariables false
set_option linter.unusedSimpArgs false
namespace Go.Am
open Go Go.Proofs Go.RowKit
variable {A:Nat→Type} {P:Program} {T:Ty A} {f:Nat}
def ofP (p:List (IV A)→Option (Bool×IV A×List (IV A))):Spec A:=fun args _ k =>
 match p args with
 | some (g,r,ys)=>bif g then k r ys else none
 | none=>none
theorem yeXy (p:List (IV A)→Option (Bool×IV A×List (IV A))):yaIy (ofP p):=by
 intro args R k
 unfold ofP
 cases p args with
 | none=>rfl
 | some x =>
  obtain ⟨g,r,ys⟩:=x
  cases g <;> rfl
theorem yBry {w:World} {av:Nat→Prop}:∀ {args:List (IV A)} {vs:List Value} {F:List Nat},RIVs T w av args vs F→∀ (w':World) (av':Nat→Prop),RIVs T w' av' (args.map fun _=>.undef) vs []
 | [],vs,F,h,w',av'=>by simp only [RIVs] at h;simp only [List.map_nil,RIVs];exact ⟨h.1,trivial⟩
 | x::xs,vs,F,h,w',av'=>by
  simp only [RIVs] at h
  obtain ⟨v,vs',F1,F2,rfl,_,_,h2⟩:=h
  simp only [List.map_cons,RIVs]
  exact ⟨v,vs',[],[],rfl,rfl,rfl,yBry h2 w' av'⟩
theorem yBRy {p:List (IV A)→Option (Bool×IV A×List (IV A))}
  (h:∀ args r ys,p args = some (true,r,ys)→ys = args.map (fun _=>.undef)∧∀ (w:World) vs F (av:Nat→Prop),RIVs T w av args vs F→(∀ b,av b→b < w.heap.size) →
   Calls P f vs.toArray w fun e w'=>∃ v F1,e = .returned v∧RIV T w' (fun b=>(av b∧b ∉ F) ∨ b∈F1) r v F1∧F1.Nodup∧(∀ b∈F1,w.heap.size≤b∧b < w'.heap.size)∧Below w.heap.size w w'∧(T.dr = true→w.drawn≤w'.drawn)):yany P T f (ofP p):=by
 intro args R k res hk w vs F av hr hF hFa hav _
 unfold ofP at hk
 cases hp:p args with
 | none=>simp [hp] at hk
 | some x =>
  obtain ⟨g,r,ys⟩:=x
  rw [hp] at hk
  cases g with
  | false=>cases hk
  | true =>
   obtain ⟨rfl,hc⟩:=h args r ys hp
   refine (hc w vs F av hr hav).mono ?_
   rintro e w' ⟨v,F1,rfl,h1,h2,h3,h4,h5⟩
   refine ⟨r,_,v,F1,[],_,hk,rfl,h1,yBry hr _ _,by simpa using h2,fun b hb=>by simpa using hb,fun b hb=>?_,h4.os,⟨h4.tape,h5⟩,h4.output,h4.size,fun b hb _=>h4.block b hb⟩
   simp only [List.append_nil] at hb
   exact ⟨.inr (h3 b hb).1,(h3 b hb).2⟩
theorem ydey {p:List (IV A)→Option (Bool×IV A×List (IV A))}
  (h:∀ args r ys,p args = some (true,r,ys)→ys = args.map (fun _=>.undef)∧∀ (w:World) vs F (av:Nat→Prop),RIVs T w av args vs F →
   Calls P f vs.toArray w fun e w'=>∃ v,e = .returned v∧(∀ (w:World) (av:Nat→Prop),RIV T w av r v [])∧Below w.heap.size w w'∧(T.dr = true→w.drawn≤w'.drawn)):yany P T f (ofP p) :=
 yBRy fun args r ys hp=>⟨(h args r ys hp).1,fun w vs F av hr hav=>((h args r ys hp).2 w vs F av hr).mono (by
  rintro e w' ⟨v,rfl,h1,h2⟩
  exact ⟨v,[],rfl,h1 _ _,List.nodup_nil,fun b hb=>(List.not_mem_nil hb).elim,h2⟩)⟩
theorem yhXy {w:World} {av:Nat→Prop} {a b:List UInt8} {vs:List Value} {F:List Nat} (h:RIVs T w av [.d (.str a),.d (.str b)] vs F):vs = [.string ⟨⟨a⟩⟩,.string ⟨⟨b⟩⟩]:=by
 simp only [RIVs,RIV,DR.str] at h
 obtain ⟨v,vs',F1,F2,rfl,rfl,⟨rfl,rfl⟩,v',vs'',F3,F4,rfl,rfl,⟨rfl,rfl⟩,rfl,rfl⟩:=h
 rfl
theorem yySy {w:World} {av:Nat→Prop} {a:List UInt8} {ki:IntKind} {n:Int} {vs:List Value} {F:List Nat} (h:RIVs T w av [.d (.str a),.d (.int ki n)] vs F):vs = [.string ⟨⟨a⟩⟩,.int ki n]:=by
 simp only [RIVs,RIV,DR.str,DR.int] at h
 obtain ⟨v,vs',F1,F2,rfl,rfl,⟨rfl,rfl⟩,v',vs'',F3,F4,rfl,rfl,⟨rfl,rfl⟩,rfl,rfl⟩:=h
 rfl
def P_cmp (args:List (IV A)):Option (Bool×IV A×List (IV A)):=match args with
 | [.d (.str a),.d (.str b)]=>some (true,.d (.int .i64 (Lib.compareBytes a b)),[.undef,.undef])
 | _=>none
theorem ysty (h:∀ (a b:ByteArray) (w:World),Calls P f #[.string a,.string b] w fun e w'=>e = .returned (.int .i64 (Lib.compareBytes a.data.toList b.data.toList))∧w' = w):yany P T f (ofP P_cmp):=by
 refine ydey fun args r ys hp=>?_
 unfold P_cmp at hp
 split at hp
 ·rename_i a b
  cases hp
  refine ⟨rfl,fun w vs F av hr=>?_⟩
  obtain rfl:=yhXy hr
  refine (h ⟨⟨a⟩⟩ ⟨⟨b⟩⟩ w).mono ?_
  rintro e w' ⟨rfl,rfl⟩
  exact ⟨_,rfl,fun w av=>by simp only [RIV,DR.int];exact ⟨trivial,trivial⟩,Below.refl _ _,fun _=>Nat.le_refl _⟩
 ·cases hp
def P_ixb (args:List (IV A)):Option (Bool×IV A×List (IV A)):=match args with
 | [.d (.str a),.d (.int .u8 c)]=>some (true,.d (.int .i64 (Lib.indexByte a c.toNat.toUInt8)),[.undef,.undef])
 | _=>none
theorem yCmy (h:∀ (s:ByteArray) (c:Int) (w:World),Calls P f #[.string s,.int .u8 c] w fun e w'=>e = .returned (.int .i64 (Lib.indexByte s.data.toList c.toNat.toUInt8))∧w' = w):yany P T f (ofP P_ixb):=by
 refine ydey fun args r ys hp=>?_
 unfold P_ixb at hp
 split at hp
 ·rename_i a c
  cases hp
  refine ⟨rfl,fun w vs F av hr=>?_⟩
  obtain rfl:=yySy hr
  refine (h ⟨⟨a⟩⟩ c w).mono ?_
  rintro e w' ⟨rfl,rfl⟩
  exact ⟨_,rfl,fun w av=>by simp only [RIV,DR.int];exact ⟨trivial,trivial⟩,Below.refl _ _,fun _=>Nat.le_refl _⟩
 ·cases hp
def P_ixr (args:List (IV A)):Option (Bool×IV A×List (IV A)):=match args with
 | [.d (.str a),.d (.int .i32 c)]=>some (decide (0≤c)&&decide (c < 128),.d (.int .i64 (Lib.indexByte a c.toNat.toUInt8)),[.undef,.undef])
 | _=>none
theorem yA3y (h:∀ (s:ByteArray) (r:Int) (w:World),0≤r→r < 128→Calls P f #[.string s,.int .i32 r] w fun e w'=>e = .returned (.int .i64 (Lib.indexByte s.data.toList r.toNat.toUInt8))∧w' = w):yany P T f (ofP P_ixr):=by
 refine ydey fun args r ys hp=>?_
 unfold P_ixr at hp
 split at hp
 ·rename_i a c
  simp only [Option.some.injEq,Prod.mk.injEq,Bool.and_eq_true,decide_eq_true_eq] at hp
  obtain ⟨⟨h0,h1⟩,rfl,rfl⟩:=hp
  refine ⟨rfl,fun w vs F av hr=>?_⟩
  obtain rfl:=yySy hr
  refine (h ⟨⟨a⟩⟩ c w h0 h1).mono ?_
  rintro e w' ⟨rfl,rfl⟩
  exact ⟨_,rfl,fun w av=>by simp only [RIV,DR.int];exact ⟨trivial,trivial⟩,Below.refl _ _,fun _=>Nat.le_refl _⟩
 ·cases hp
def one0 (l:List UInt8):UInt8:=l.headD 0
def P_ix1 (args:List (IV A)):Option (Bool×IV A×List (IV A)):=match args with
 | [.d (.str a),.d (.str b)]=>some (b.length == 1,.d (.int .i64 (Lib.indexByte a (one0 b))),[.undef,.undef])
 | _=>none
theorem yChy (h:∀ (s:ByteArray) (c:UInt8) (w:World),Calls P f #[.string s,.string ⟨#[c]⟩] w fun e w'=>e = .returned (.int .i64 (Lib.indexByte s.data.toList c))∧w' = w):yany P T f (ofP P_ix1):=by
 refine ydey fun args r ys hp=>?_
 unfold P_ix1 at hp
 split at hp
 ·rename_i a b
  simp only [Option.some.injEq,Prod.mk.injEq,beq_iff_eq] at hp
  obtain ⟨h0,rfl,rfl⟩:=hp
  obtain ⟨c,rfl⟩:∃ c,b = [c]:=by
   cases b with
   | nil=>cases h0
   | cons c r=>cases r with
    | nil=>exact ⟨c,rfl⟩
    | cons _ _=>simp at h0
  refine ⟨rfl,fun w vs F av hr=>?_⟩
  obtain rfl:=yhXy hr
  refine (h ⟨⟨a⟩⟩ c w).mono ?_
  rintro e w' ⟨rfl,rfl⟩
  exact ⟨_,rfl,fun w av=>by simp only [RIV,DR.int];exact ⟨trivial,rfl⟩,Below.refl _ _,fun _=>Nat.le_refl _⟩
 ·cases hp
def ydjy (l:List UInt8):Bool:=l.all fun b=>decide (b.toNat < 128)
def ymNy (args:List (IV A)):Option (Bool×IV A×List (IV A)):=match args with
 | [.d (.str a),.d (.str b)]=>some (decide (a.length≤9223372036854775807)&&(decide (b.length < 4294967281)&&ydjy b),.d (.str (Lib.trimS a b)),[.undef,.undef])
 | _=>none
theorem yyYy (hn:T.dr = false) (h:∀ (s cs:ByteArray) (w:World),s.size≤9223372036854775807→cs.size < 4294967281→(∀ (j:Nat) b,cs.data.toList[j]? = some b→b.toNat < 128) →
  Calls P f #[.string s,.string cs] w fun e w'=>e = .returned (.string ⟨(Lib.trimS s.data.toList cs.data.toList).toArray⟩)∧Below w.heap.size w w'):yany P T f (ofP ymNy):=by
 refine ydey fun args r ys hp=>?_
 unfold ymNy at hp
 split at hp
 ·rename_i a b
  simp only [Option.some.injEq,Prod.mk.injEq,Bool.and_eq_true,decide_eq_true_eq] at hp
  obtain ⟨⟨h0,h1,h2⟩,rfl,rfl⟩:=hp
  refine ⟨rfl,fun w vs F av hr=>?_⟩
  obtain rfl:=yhXy hr
  refine (h ⟨⟨a⟩⟩ ⟨⟨b⟩⟩ w h0 h1 (fun j x hx=>?_)).mono ?_
  ·have:=List.all_eq_true.1 h2 x (List.mem_of_getElem? hx)
   simpa using this
  ·rintro e w' ⟨rfl,hb⟩
   exact ⟨_,rfl,fun w av=>by simp only [RIV,DR.str];exact ⟨trivial,trivial⟩,hb,fun hd=>by rw [hn] at hd;cases hd⟩
 ·cases hp
def yl7y (args:List (IV A)):Option (Bool×IV A×List (IV A)):=match args with
 | [.d (.str a),.d (.str b)]=>some (decide (a.length < 4294967281)&&(decide (b.length < 4294967281)&&(ydjy a&&ydjy b)),.d (.bool (Lib.containsAny a b)),[.undef,.undef])
 | _=>none
theorem yz7y (hn:T.dr = false) (h:∀ (s cs:ByteArray) (w:World),s.size < 4294967281→cs.size < 4294967281→(∀ (j:Nat) b,s.data.toList[j]? = some b→b.toNat < 128)→(∀ (j:Nat) b,cs.data.toList[j]? = some b→b.toNat < 128) →
  Calls P f #[.string s,.string cs] w fun e w'=>e = .returned (.bool (Lib.containsAny s.data.toList cs.data.toList))∧Below w.heap.size w w'):yany P T f (ofP yl7y):=by
 refine ydey fun args r ys hp=>?_
 unfold yl7y at hp
 split at hp
 ·rename_i a b
  simp only [Option.some.injEq,Prod.mk.injEq,Bool.and_eq_true,decide_eq_true_eq] at hp
  obtain ⟨⟨h0,h1,h2,h3⟩,rfl,rfl⟩:=hp
  refine ⟨rfl,fun w vs F av hr=>?_⟩
  obtain rfl:=yhXy hr
  refine (h ⟨⟨a⟩⟩ ⟨⟨b⟩⟩ w h0 h1 (fun j x hx=>?_) (fun j x hx=>?_)).mono ?_
  ·have:=List.all_eq_true.1 h2 x (List.mem_of_getElem? hx)
   simpa using this
  ·have:=List.all_eq_true.1 h3 x (List.mem_of_getElem? hx)
   simpa using this
  ·rintro e w' ⟨rfl,hb⟩
   exact ⟨_,rfl,fun w av=>by simp only [RIV,DR.bool];exact ⟨trivial,trivial⟩,hb,fun hd=>by rw [hn] at hd;cases hd⟩
 ·cases hp
def X_cmp (a b:List UInt8) {R:Type} (k0:Int→Option R):Option R:=k0 (Lib.compareBytes a b)
def yjUy (g:List UInt8→List UInt8→{R:Type}→(Int→Option R)→Option R):Spec A:=fun args _ k=>match args with | [.d (.str a),.d (.str b)]=>g a b (fun z=>k (.d (.int .i64 z)) [.undef,.undef]) | _=>none
theorem yrSy:∀ args (R:Type) (k:IV A→List (IV A)→Option R),yjUy @X_cmp args k = ofP P_cmp args k:=by
 intro args R k
 unfold yjUy ofP P_cmp
 split
 ·rfl
 ·rename_i h
  split
  ·rename_i heq
   cases heq
  ·rfl
theorem yozy:yaIy (yjUy (A:=A) @X_cmp):=fun args R k=>by
 rw [yrSy,yrSy]
 exact yeXy _ args R k
theorem ylzy (h:yany P T f (ofP P_cmp)):yany P T f (yjUy @X_cmp):=fun args R k res hk=>h args R k res (by rw [← yrSy];exact hk)
def X_ixb (a:List UInt8) (b:Int) {R:Type} (k0:Int→Option R):Option R:=k0 (Lib.indexByte a b.toNat.toUInt8)
def yjZy (g:List UInt8→Int→{R:Type}→(Int→Option R)→Option R):Spec A:=fun args _ k=>match args with | [.d (.str a),.d (.int .u8 b)]=>g a b (fun z=>k (.d (.int .i64 z)) [.undef,.undef]) | _=>none
theorem yrBy:∀ args (R:Type) (k:IV A→List (IV A)→Option R),yjZy @X_ixb args k = ofP P_ixb args k:=by
 intro args R k
 unfold yjZy ofP P_ixb
 split
 ·rfl
 ·rename_i h
  split
  ·rename_i heq
   cases heq
  ·rfl
theorem yw4y:yaIy (yjZy (A:=A) @X_ixb):=fun args R k=>by
 rw [yrBy,yrBy]
 exact yeXy _ args R k
theorem ysYy (h:yany P T f (ofP P_ixb)):yany P T f (yjZy @X_ixb):=fun args R k res hk=>h args R k res (by rw [← yrBy];exact hk)
def X_ixr (a:List UInt8) (b:Int) {R:Type} (k0:Int→Option R):Option R:=bif decide (0≤b)&&decide (b < 128) then k0 (Lib.indexByte a b.toNat.toUInt8) else none
def yjWy (g:List UInt8→Int→{R:Type}→(Int→Option R)→Option R):Spec A:=fun args _ k=>match args with | [.d (.str a),.d (.int .i32 b)]=>g a b (fun z=>k (.d (.int .i64 z)) [.undef,.undef]) | _=>none
theorem yroy:∀ args (R:Type) (k:IV A→List (IV A)→Option R),yjWy @X_ixr args k = ofP P_ixr args k:=by
 intro args R k
 unfold yjWy ofP P_ixr
 split
 ·rfl
 ·rename_i h
  split
  ·rename_i heq
   cases heq
  ·rfl
theorem ywPy:yaIy (yjWy (A:=A) @X_ixr):=fun args R k=>by
 rw [yroy,yroy]
 exact yeXy _ args R k
theorem ys9y (h:yany P T f (ofP P_ixr)):yany P T f (yjWy @X_ixr):=fun args R k res hk=>h args R k res (by rw [← yroy];exact hk)
def X_ix1 (a b:List UInt8) {R:Type} (k0:Int→Option R):Option R:=bif b.length == 1 then k0 (Lib.indexByte a (one0 b)) else none
def yjyy (g:List UInt8→List UInt8→{R:Type}→(Int→Option R)→Option R):Spec A:=fun args _ k=>match args with | [.d (.str a),.d (.str b)]=>g a b (fun z=>k (.d (.int .i64 z)) [.undef,.undef]) | _=>none
theorem yrpy:∀ args (R:Type) (k:IV A→List (IV A)→Option R),yjyy @X_ix1 args k = ofP P_ix1 args k:=by
 intro args R k
 unfold yjyy ofP P_ix1
 split
 ·rfl
 ·rename_i h
  split
  ·rename_i heq
   cases heq
  ·rfl
theorem yw9y:yaIy (yjyy (A:=A) @X_ix1):=fun args R k=>by
 rw [yrpy,yrpy]
 exact yeXy _ args R k
theorem ysZy (h:yany P T f (ofP P_ix1)):yany P T f (yjyy @X_ix1):=fun args R k res hk=>h args R k res (by rw [← yrpy];exact hk)
def yqKy (a b:List UInt8) {R:Type} (k0:List UInt8→Option R):Option R:=bif decide (a.length≤9223372036854775807)&&(decide (b.length < 4294967281)&&ydjy b) then k0 (Lib.trimS a b) else none
def yivy (g:List UInt8→List UInt8→{R:Type}→(List UInt8→Option R)→Option R):Spec A:=fun args _ k=>match args with | [.d (.str a),.d (.str b)]=>g a b (fun z=>k (.d (.str z)) [.undef,.undef]) | _=>none
theorem ypgy:∀ args (R:Type) (k:IV A→List (IV A)→Option R),yivy @yqKy args k = ofP ymNy args k:=by
 intro args R k
 unfold yivy ofP ymNy
 split
 ·rfl
 ·rename_i h
  split
  ·rename_i heq
   cases heq
  ·rfl
theorem ytBy:yaIy (yivy (A:=A) @yqKy):=fun args R k=>by
 rw [ypgy,ypgy]
 exact yeXy _ args R k
theorem yrsy (h:yany P T f (ofP ymNy)):yany P T f (yivy @yqKy):=fun args R k res hk=>h args R k res (by rw [← ypgy];exact hk)
def ypWy (a b:List UInt8) {R:Type} (k0:Bool→Option R):Option R:=bif decide (a.length < 4294967281)&&(decide (b.length < 4294967281)&&(ydjy a&&ydjy b)) then k0 (Lib.containsAny a b) else none
def yihy (g:List UInt8→List UInt8→{R:Type}→(Bool→Option R)→Option R):Spec A:=fun args _ k=>match args with | [.d (.str a),.d (.str b)]=>g a b (fun z=>k (.d (.bool z)) [.undef,.undef]) | _=>none
theorem yoXy:∀ args (R:Type) (k:IV A→List (IV A)→Option R),yihy @ypWy args k = ofP yl7y args k:=by
 intro args R k
 unfold yihy ofP yl7y
 split
 ·rfl
 ·rename_i h
  split
  ·rename_i heq
   cases heq
  ·rfl
theorem ywiy:yaIy (yihy (A:=A) @ypWy):=fun args R k=>by
 rw [yoXy,yoXy]
 exact yeXy _ args R k
theorem yryy (h:yany P T f (ofP yl7y)):yany P T f (yihy @ypWy):=fun args R k res hk=>h args R k res (by rw [← yoXy];exact hk)
end Go.Am
