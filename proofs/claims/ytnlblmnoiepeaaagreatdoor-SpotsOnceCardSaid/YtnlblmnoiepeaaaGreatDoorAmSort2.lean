/- Part of an abstract machine for this program, with its soundness: AmSort2. No condition: lemmas for the claim. -/
import Derived.Test.YtnlblmnoiepeaaaGreatDoorAmSort
import Derived.Shelf.Sort.Plain
import Derived.Shelf.Slices.In.SortNone
set_option linter.unusedVariables false
set_option linter.unusedSimpArgs false
namespace Go.Am
open Go Go.Proofs Go.RowKit Go.Sort
variable {A:Nat→Type} {P:Program} {T:Ty A} {f:Nat}
def yeIy {α:Type} (srt:List α→List α) (xs:List α) {R:Type} (k0:List α→Option R):Option R:=bif decide (xs.length < 4611686018427387904) then k0 (srt xs) else none
theorem yrOy {α:Type} {srt:List α→List α} {xs:List α} (h:xs.length≤1000000) {R:Type} (k0:List α→Option R):yeIy srt xs k0 = k0 (srt xs):=by
 unfold yeIy
 rw [decide_eq_true (by omega)]; rfl
def srtI (xs:List Int):List Int:=xs.mergeSort fun x y=>decide (x≤y)
def srtS (xs:List (List UInt8)):List (List UInt8):=xs.mergeSort fun x y=>decide (x≤y)
theorem yzKy (hok:TyOk P T) {e g:Nat} (inst:Inhabited (A e)) (val:A e→Value) (srt:List (A e)→List (A e)) (hlen:∀ xs,(srt xs).length = xs.length)
  (henc:∀ x,∃ d,T.enc e x = [d]∧scal d = true∧val x = valD d) (hsz1:T.size e = 1)
  (hmain:∀ (blk cap:Nat) (xs:List (A e)) (w:World),Holds val w blk 0 xs.toArray→blk < w.heap.size→xs.length < 4611686018427387904→Calls P g #[.slice (some ⟨blk,0,none⟩) xs.length cap] w fun e1 w'=>e1 = .returned (.tuple #[])∧∃ n os,w' = grow (putRow val (Sort.ahead w n) blk 0 (srt xs).toArray) os)
  (hnone:∀ (p:Option Addr) (cap:Nat) (w:World),Calls P g #[.slice p 0 cap] w fun e1 w'=>e1 = .returned (.tuple #[])∧w' = w)
  {S:Spec A} (h1:∀ (xs:List (A e)) (R:Type) (k:IV A→List (IV A)→Option R),S [.arr e xs] k = yeIy srt xs (fun z=>k (.tup []) [.arr e z]))
  (h2:∀ args (R:Type) (k:IV A→List (IV A)→Option R),(∀ xs:List (A e),args ≠ [.arr e xs])→S args k = none):yapy P T g S:=by
 intro args R k res hk w vs F av hr hF hFa hav _
 by_cases hh:∃ xs:List (A e),args = [.arr e xs]
 ·obtain ⟨xs,rfl⟩:=hh
  rw [h1] at hk
  unfold yeIy at hk
  cases hd:decide (xs.length < 4611686018427387904) with
  | false=>rw [hd] at hk; cases hk
  | true =>
   rw [hd] at hk
   simp only [cond_true] at hk
   have hl0:xs.length < 4611686018427387904:=of_decide_eq_true hd
   simp only [RIVs] at hr
   obtain ⟨v1,vs',F1,F2,rfl,rfl,hr1,rfl,rfl⟩:=hr
   simp only [RIV] at hr1
   obtain ⟨ob,rfl,hown,hrow⟩:=hr1
   by_cases hx0:xs = []
   ·subst hx0
    have hs0:srt [] = []:=List.eq_nil_of_length_eq_zero (by rw [hlen]; rfl)
    have hv:∃ p cap,v1 = .slice p 0 cap:=by
     cases ob with
     | none=>simp only [OwnSl] at hown; exact ⟨none,0,hown.2⟩
     | some b=>simp only [OwnSl] at hown; obtain ⟨cap,cc,ty,rfl,_⟩:=hown; exact ⟨_,_,rfl⟩
    obtain ⟨p,cap,rfl⟩:=hv
    refine (hnone p cap w).mono ?_
    rintro e1 w' ⟨rfl,rfl⟩
    refine ⟨_,_,_,[],ob.toList,av,hk,rfl,?_,?_,?_,?_,?_,⟨rfl,ycuy.refl _ _,rfl,Nat.le_refl _,fun b _ _=>rfl⟩⟩
    ·simp only [RIV,RIVs]; exact ⟨#[],rfl,rfl,trivial⟩
    ·simp only [RIVs]
     refine ⟨_,_,ob.toList,[],rfl,by simp,?_,rfl,rfl⟩
     simp only [RIV]
     rw [hs0]
     exact ⟨ob,rfl,hown,hrow⟩
    ·simpa using hF
    ·intro b hb
     rcases hb with hb | hb
     ·exact hb.1
     ·exact hFa b (by simpa using hb)
    ·intro b hb
     have:b ∈ ob.toList:=by simpa using hb
     exact ⟨.inl (by simpa using this),hav b (hFa b (by simpa using this))⟩
   ·cases ob with
    | none=>simp only [OwnSl] at hown; exact absurd hown.1 (by simpa using hx0)
    | some b =>
     simp only [OwnSl] at hown
     obtain ⟨cap,cl,ty,rfl,hcap,hb,hcl⟩:=hown
     obtain ⟨cl',ty',hb',hrw⟩:=hrow b rfl
     rw [hb] at hb'
     obtain ⟨rfl,rfl⟩:cl = cl'∧ty = ty':=by cases hb'; exact ⟨rfl,rfl⟩
     have hbl:b < w.heap.size:=hav b (hFa b (by simp))
     have hH:Holds val w b 0 xs.toArray:=by
      intro j hj
      have hj':j < xs.length:=by simpa using hj
      obtain ⟨d,hd1,hd2,hd3⟩:=henc xs[j]
      obtain ⟨u,hu,hdu⟩:=hrw j xs[j] (List.getElem?_eq_getElem hj') 0 d (by rw [hd1]; rfl)
      have:=(yjKy hd2).1 hdu
      subst this
      rw [hsz1] at hu
      constructor
      ·simp only [World.cell?,Nat.zero_add,hb]
       rw [getElem!_pos xs.toArray j hj]
       simp only [List.getElem_toArray]
       rw [hd3]
       simpa using hu
      ·simp only [World.frozen?,hb]; simp
     refine (hmain b cap xs w hH hbl hl0).mono ?_
     rintro e1 w' ⟨rfl,n,os,rfl⟩
     have hnew:(grow (putRow val (Sort.ahead w n) b 0 (srt xs).toArray) os).heap[b]? = some (.cells (putCells val 0 (srt xs).toArray cl) ty (0,0)):=by
      unfold putRow grow mapBlock
      simp only [heap_ahead]
      rw [Array.getElem?_append_left (by simpa using hbl),Array.getElem?_modify,if_pos rfl,hb]
      rfl
     have hsz:w.heap.size≤(grow (putRow val (Sort.ahead w n) b 0 (srt xs).toArray) os).heap.size:=by
      unfold putRow grow mapBlock
      simp only [heap_ahead,Array.size_append,Array.size_modify]
      omega
     have hold:∀ b',b' < w.heap.size→b' ≠ b→(grow (putRow val (Sort.ahead w n) b 0 (srt xs).toArray) os).heap[b']? = w.heap[b']?:=by
      intro b' hb1 hb2
      unfold putRow grow mapBlock
      simp only [heap_ahead]
      rw [Array.getElem?_append_left (by simpa using hb1),Array.getElem?_modify,if_neg (fun hh=>hb2 hh.symm)]
     refine ⟨_,_,_,[],[b],av,hk,rfl,?_,?_,?_,?_,?_,⟨rfl,⟨rfl,fun _=>Nat.le_add_right _ _⟩,rfl,hsz,fun b' hb1 hb2=>hold b' hb1 (fun hh=>hb2 (by simp [hh]))⟩⟩
     ·simp only [RIV,RIVs]; exact ⟨#[],rfl,rfl,trivial⟩
     ·simp only [RIVs]
      refine ⟨_,_,[b],[],rfl,by simp,?_,rfl,rfl⟩
      simp only [RIV]
      refine ⟨some b,rfl,?_,fun b' hb'=>?_⟩
      ·simp only [OwnSl]
       refine ⟨cap,_,ty,by rw [hlen],by rw [hlen]; exact hcap,hnew,by simpa [putCells] using hcl⟩
      ·cases hb'
       refine ⟨_,ty,hnew,fun i x hi j d hj=>?_⟩
       have hil:i < (srt xs).length:=by
        rcases Nat.lt_or_ge i (srt xs).length with hh | hh
        ·exact hh
        ·rw [List.getElem?_eq_none hh] at hi; cases hi
       have hx:(srt xs)[i] = x:=by rw [List.getElem?_eq_getElem hil] at hi; exact Option.some.inj hi
       obtain ⟨d',hd1,hd2,hd3⟩:=henc x
       rw [hd1] at hj
       obtain ⟨rfl,rfl⟩:j = 0∧d' = d:=by
        cases j with
        | zero=>simp at hj; exact ⟨rfl,hj⟩
        | succ j=>simp at hj
       refine ⟨valD d',?_,(yjKy hd2).2 rfl⟩
       rw [hsz1]
       have hcl2:i < cl.size:=by
        have h3:cap * T.size e≤cl.size:=by simpa using hcl
        rw [hsz1] at h3
        rw [hlen] at hil
        omega
       simp only [putCells,Array.getElem?_mapIdx,Nat.zero_add,Nat.mul_one,Nat.add_zero]
       rw [Array.getElem?_eq_getElem hcl2]
       simp only [Option.map_some]
       rw [if_pos ⟨Nat.zero_le _,by simpa using hil⟩]
       simp only [Nat.sub_zero]
       rw [getElem!_pos (srt xs).toArray i (by simpa using hil)]
       simp only [List.getElem_toArray]
       rw [hx,hd3]
     ·simp
     ·intro b' hb1
      rcases hb1 with hb1 | hb1
      ·exact hb1.1
      ·simp at hb1; subst hb1; exact hFa _ (by simp)
     ·intro b' hb1
      simp at hb1; subst hb1
      exact ⟨.inl (by simp),Nat.lt_of_lt_of_le hbl hsz⟩
 ·rw [h2 args R k (fun xs hx=>hh ⟨xs,hx⟩)] at hk; cases hk
theorem yHjy {e:Nat} {srt:List (A e)→List (A e)} {S:Spec A} (h1:∀ (xs:List (A e)) (R:Type) (k:IV A→List (IV A)→Option R),S [.arr e xs] k = yeIy srt xs (fun z=>k (.tup []) [.arr e z]))
  (h2:∀ args (R:Type) (k:IV A→List (IV A)→Option R),(∀ xs:List (A e),args ≠ [.arr e xs])→S args k = none):yaDy S:=by
 intro args R k
 by_cases hh:∃ xs:List (A e),args = [.arr e xs]
 ·obtain ⟨xs,rfl⟩:=hh
  rw [h1,h1]
  unfold yeIy
  cases decide (xs.length < 4611686018427387904) <;> rfl
 ·rw [h2 args R k (fun xs hx=>hh ⟨xs,hx⟩),h2 args _ _ (fun xs hx=>hh ⟨xs,hx⟩)]; rfl
end Go.Am
