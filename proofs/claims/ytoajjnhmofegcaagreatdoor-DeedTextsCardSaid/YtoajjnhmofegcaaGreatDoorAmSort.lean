/- Part of an abstract machine for this program, with its soundness: AmSort. No condition: lemmas for the claim. -/
import Derived.Test.YtoajjnhmofegcaaGreatDoorAmExt2
import Derived.Shelf.SlSortCmp.NoneTotal
set_option linter.unusedVariables false
set_option linter.unusedSimpArgs false
namespace Go.Am
open Go Go.Proofs Go.RowKit Go.Sort
variable {A:Nat→Type} {P:Program} {T:Ty A} {f:Nat}
abbrev CmpT (α:Type):Type 1:=α→α→{R:Type}→(Int→Option R)→Option R
structure Pre {α:Type} (c:α→α→Int) (S:α→Prop):Prop where
 total:∀ x y,S x→S y→c x y≤0 ∨ c y x≤0
 trans:∀ x y z,S x→S y→S z→c x y≤0→c y z≤0→c x z≤0
 neg:∀ x y,S x→S y→(c x y < 0 ↔ ¬ c y x≤0)
def ltM {α:Type} (c:α→α→Int) (xs:List α) (a b:{x // x∈xs}):Int:=c a.1 b.1
theorem swoM {α:Type} {c:α→α→Int} {xs:List α} (h:Pre c (·∈xs)):SWO (ltOf (ltM c xs)):=by
 refine ⟨fun x=>?_,fun x y z h1 h2=>?_,fun x y z h1 h2=>?_⟩
 ·have:=h.neg x.1 x.1 x.2 x.2
  exact decide_eq_false (fun hh=>(this.1 hh) (Int.le_of_lt hh))
 ·have h1:=of_decide_eq_true h1
  have h2:=of_decide_eq_true h2
  simp only [ltM] at h1 h2
  refine decide_eq_true ((h.neg x.1 z.1 x.2 z.2).2 fun hzx=>?_)
  have h3:=h.trans y.1 z.1 x.1 y.2 z.2 x.2 (Int.le_of_lt h2) hzx
  exact (h.neg x.1 y.1 x.2 y.2).1 h1 h3
 ·have h1:=of_decide_eq_false h1
  have h2:=of_decide_eq_false h2
  simp only [ltM] at h1 h2
  have g1:c y.1 x.1≤0:=Classical.byContradiction fun hh=>h1 ((h.neg x.1 y.1 x.2 y.2).2 hh)
  have g2:c z.1 y.1≤0:=Classical.byContradiction fun hh=>h2 ((h.neg y.1 z.1 y.2 z.2).2 hh)
  exact decide_eq_false (fun hh=>(h.neg x.1 z.1 x.2 z.2).1 hh (h.trans z.1 y.1 x.1 z.2 y.2 x.2 g2 g1))
def sortQ {α:Type} (c:α→α→Int) (xs:List α):List α :=
 match xs with
 | []=>[]
 | x::r=>@Array.toList α (((@pdq {y // y∈x::r} ⟨⟨x,List.mem_cons_self⟩⟩ (ltOf (ltM c (x::r))) (x::r).attach.toArray 0 (x::r).attach.toArray.size (Lib.bitLen (x::r).attach.toArray.size) true true).map Subtype.val))
theorem yuAy {α:Type} {c:α→α→Int} {xs:List α} (h:Pre c (·∈xs)):(sortQ c xs).Perm xs∧(sortQ c xs).Pairwise fun a b=>c a b≤0:=by
 cases xs with
 | nil=>exact ⟨.refl _,.nil⟩
 | cons x r =>
  letI:Inhabited {y // y∈x::r}:=⟨⟨x,List.mem_cons_self⟩⟩
  have hp:=pdq_sorts (ltOf (ltM c (x::r))) (swoM h) (x::r).attach.toArray 0 (x::r).attach.toArray.size (Lib.bitLen (x::r).attach.toArray.size) true true (Nat.zero_le _) (Nat.le_refl _) (Or.inl rfl)
  unfold sortQ
  simp only
  generalize hD:pdq (ltOf (ltM c (x::r))) (x::r).attach.toArray 0 (x::r).attach.toArray.size (Lib.bitLen (x::r).attach.toArray.size) true true = D at hp
  obtain ⟨⟨hs,_,hpm⟩,hso⟩:=hp
  have e1:(D.extract 0 (x::r).attach.toArray.size) = D:=by rw [← hs];exact Array.extract_size
  have e2:((x::r).attach.toArray.extract 0 (x::r).attach.toArray.size) = (x::r).attach.toArray:=Array.extract_size
  rw [e1,e2] at hpm
  refine ⟨?_,?_⟩
  ·have:=hpm.map Subtype.val
   simpa using this
  ·rw [Array.toList_map,List.pairwise_map,List.pairwise_iff_getElem]
   intro i j hi hj hij
   simp at hi hj
   have hb:j < (x::r).attach.toArray.size:=by rw [← hs];exact hj
   have:=hso i j (Nat.zero_le _) hij hb
   rw [getElem!_pos D j hj,getElem!_pos D i hi] at this
   have h2:=of_decide_eq_false this
   simp only [ltM] at h2
   have h3:=h.neg D[j].1 D[i].1 D[j].2 D[i].2
   simp only [Array.getElem_toList]
   exact Classical.byContradiction fun hh=>h2 (h3.2 hh)
def yA1y {α:Type} (call:CmpT α) (xs:List α):Prop:=xs.length < 4611686018427387904∧∃ c:α→α→Int,(∀ x∈xs,∀ y∈xs,∀ (R:Type) (k:Int→Option R),call x y k = k (c x y))∧Pre c (·∈xs)
open Classical in
noncomputable def yeay {α:Type} (call:CmpT α) (xs:List α) {R:Type} (k0:List α→Option R):Option R:=if h:yA1y call xs then k0 (sortQ (Classical.choose h.2) xs) else none
theorem yzly {α:Type} {call:CmpT α} {xs:List α} {c:α→α→Int} (hl:xs.length < 4611686018427387904) (hc:∀ x∈xs,∀ y∈xs,∀ (R:Type) (k:Int→Option R),call x y k = k (c x y)) (hp:Pre c (·∈xs)) :
  ∃ ys:List α,ys.Perm xs∧ys.Pairwise (fun a b=>c a b≤0)∧∀ (R:Type) (k:List α→Option R),yeay call xs k = k ys:=by
 have h:yA1y call xs:=⟨hl,c,hc,hp⟩
 obtain ⟨g1,g2⟩:=Classical.choose_spec h.2
 have s:=yuAy g2
 refine ⟨_,s.1,s.2.imp_of_mem ?_,fun R k=>by unfold yeay;rw [dif_pos h]⟩
 intro a b ha hb hab
 have ha:=s.1.mem_iff.1 ha
 have hb:=s.1.mem_iff.1 hb
 have e1:=hc a ha b hb Int some
 rw [g1 a ha b hb Int some] at e1
 rw [← Option.some.inj e1]
 exact hab
def scal:D A→Bool
 | .int _ _ | .bool _ | .str _=>true
 | _=>false
def valD:D A→Value
 | .int k n=>.int k n
 | .bool b=>.bool b
 | .str s=>.string ⟨⟨s⟩⟩
 | _=>.nilIface
theorem yrJy {w:World} {av:Nat→Prop} {d:D A} {v:Value} (h:scal d = true):DR T w av d v ↔ v = valD d:=by
 cases d <;> first | exact DR.int | exact DR.bool | exact DR.str | cases h
theorem yDEy {d:D A}:(valD d).oneCell' = true:=by cases d <;> rfl
def yjvy (T:Ty A) (e:Nat) (x:A e):List Value:=(T.enc e x).map valD
def yvxy (T:Ty A) (cs:Spec A) (e:Nat):CmpT (A e):=fun x y {R} k=>cs [.agg ((T.enc e x).map .d),.agg ((T.enc e y).map .d)] (fun r _=>match r with | .d (.int .i64 z)=>k z | _=>none)
theorem ytLy {w:World} {av:Nat→Prop}:∀ (l:List (D A)),(∀ d∈l,scal d = true)→RIVs T w av (l.map .d) (l.map valD) []
 | [],_=>by simp [RIVs]
 | d::l,h=>by
  simp only [List.map_cons,RIVs,RIV]
  exact ⟨valD d,_,[],[],rfl,rfl,⟨rfl,(yrJy (h d (by simp))).2 rfl⟩,ytLy l (fun x hx=>h x (by simp [hx]))⟩
theorem yHIy {w w':World} (h1:w'.os = w.os) (h2:w'.tape = w.tape) (h3:w'.output = w.output) (h4:w.drawn≤w'.drawn) (h5:w.heap.size≤w'.heap.size) (h6:∀ b,b < w.heap.size→w'.heap[b]? = w.heap[b]?) :
  ∃ q os',w' = grow (w.drewN q) os':=by
 refine ⟨w'.drawn - w.drawn,w'.heap.extract w.heap.size w'.heap.size,?_⟩
 have hh:w'.heap = w.heap++w'.heap.extract w.heap.size w'.heap.size:=by
  apply Array.ext_getElem?
  intro i
  rw [Array.getElem?_append]
  split
  ·rename_i hi;exact h6 i hi
  ·rename_i hi
   rw [Array.getElem?_extract]
   split
   ·congr 1;omega
   ·rw [Array.getElem?_eq_none (by omega)]
 cases w with
 | mk a b c d e =>
  cases w' with
  | mk a' b' c' d' e' =>
   simp only at h1 h2 h3 h4 hh
   subst h1 h2 h3
   simp only [grow,World.drewN]
   rw [World.mk.injEq]
   exact ⟨hh,rfl,by omega,rfl,rfl⟩
theorem yC9y (hok:TyOk P T) {e:Nat} (hsc:∀ x:A e,∀ d∈T.enc e x,scal d = true) {w:World} {av:Nat→Prop} {cl:Array Value} {xs:List (A e)} (hr:Row T w av cl 0 e xs) {β:Type} [Inhabited β] (val:β→A e) {D:Array β} (hD:D.toList.map val = xs)
  {j:Nat} (hj:j < D.size * T.size e):cl[j]? = some ((flatK (fun x=>yjvy T e (val x)) (T.size e) D)[j]!):=by
 have hpos:=hok.size e
 have hi:j / T.size e < D.size:=Nat.div_lt_of_lt_mul (by rw [Nat.mul_comm];exact hj)
 have hm:j % T.size e < T.size e:=Nat.mod_lt _ hpos
 rw [get_flatK _ _ _ _ hj,getElem!_pos D _ hi]
 have hx:xs[j / T.size e]? = some (val D[j / T.size e]):=by
  rw [← hD,List.getElem?_map,Array.getElem?_toList,Array.getElem?_eq_getElem hi];rfl
 have hlen:=hok.len e (val D[j / T.size e])
 have hd:(T.enc e (val D[j / T.size e]))[j % T.size e]? = some (T.enc e (val D[j / T.size e]))[j % T.size e]:=List.getElem?_eq_getElem (by omega)
 obtain ⟨u,hu,hdu⟩:=hr _ _ hx _ _ hd
 have:=(yrJy (hsc _ _ (List.getElem_mem _))).1 hdu
 subst this
 have hidx:0 + j / T.size e * T.size e + j % T.size e = j:=by
  rw [Nat.zero_add,Nat.mul_comm];exact Nat.div_add_mod j _
 rw [hidx] at hu
 rw [hu]
 congr 1
 unfold yjvy
 rw [getElem!_pos _ _ (by simp;omega)]
 simp
theorem ywyy (hok:TyOk P T) {e g:Nat} {ρ:Go.Shelf.Ren} (L:SlLaysF0.n6 P ρ) (aE:∀ w,(isAgg (ρ.t 24)).run P w = .ok true w) (zE:∀ w,(Go.sizeOf (ρ.t 24)).run P w = .ok (T.size e) w)
  (hsc:∀ x:A e,∀ d∈T.enc e x,scal d = true) {cs:Spec A} {cmp:CmpT (A e)} (hcs:∀ x y (R:Type) (k:Int→Option R),yvxy T cs e x y k = cmp x y k) (hg:yany P T.day g cs) (eg:∀ args w,(callFunc g args).run P w = .ok (.enter g args) w)
  {S:Spec A} (h1:∀ (xs:List (A e)) (R:Type) (k:IV A→List (IV A)→Option R),S [.arr e xs,.fn g []] k = yeay cmp xs (fun z=>k (.tup []) [.arr e z,.fn g []]))
  (h2:∀ args (R:Type) (k:IV A→List (IV A)→Option R),(∀ xs:List (A e),args≠[.arr e xs,.fn g []])→S args k = none):yany P T (ρ.f 6) S:=by
 intro args R k res hk w vs F av hr hF hFa hav _
 by_cases hh:∃ xs:List (A e),args = [.arr e xs,.fn g []]
 ·obtain ⟨xs,rfl⟩:=hh
  rw [h1] at hk
  unfold yeay at hk
  split at hk
  ·rename_i hso
   obtain ⟨hlen,hex⟩:=hso
   obtain ⟨hcall,hpre⟩:=Classical.choose_spec hex
   generalize Classical.choose hex = c at hk hcall hpre
   simp only [RIVs] at hr
   obtain ⟨v1,vs',F1,F2,rfl,rfl,hr1,v2,vs2,F3,F4,rfl,rfl,hr2,rfl,rfl⟩:=hr
   simp only [RIV,RIVs] at hr1 hr2
   obtain ⟨fv,rfl,hfv,rfl⟩:=hr2
   obtain rfl:fv = #[]:=by cases fv;simp_all
   obtain ⟨ob,rfl,hown,hrow⟩:=hr1
   have hfn:∀ (w:World) (av:Nat→Prop),RIV T w av (.fn g []:IV A) (.func (.func g) #[] #[]) []:=fun w av=>by simp only [RIV,RIVs];exact ⟨#[],rfl,rfl,trivial⟩
   cases xs with
   | nil =>
    have hv:∃ p cap,v1 = .slice p 0 cap:=by
     cases ob with
     | none=>simp only [OwnSl] at hown;exact ⟨none,0,hown.2⟩
     | some b=>simp only [OwnSl] at hown;obtain ⟨cap,cc,ty,rfl,_⟩:=hown;exact ⟨_,_,rfl⟩
    obtain ⟨p,cap,rfl⟩:=hv
    refine (AnyF.slices_SortFunc_none L p cap _ w).mono ?_
    rintro e1 w' ⟨rfl,rfl⟩
    refine ⟨_,_,_,[],ob.toList,av,hk,rfl,?_,?_,?_,?_,?_,⟨rfl,ycZy.refl _ _,rfl,Nat.le_refl _,fun b _ _=>rfl⟩⟩
    ·simp only [RIV,RIVs];exact ⟨#[],rfl,rfl,trivial⟩
    ·simp only [RIVs]
     refine ⟨_,_,ob.toList,[],rfl,by simp,?_,_,_,[],[],rfl,rfl,hfn _ _,rfl,rfl⟩
     simp only [RIV]
     exact ⟨ob,rfl,hown,hrow⟩
    ·simpa using hF
    ·intro b hb
     rcases hb with hb | hb
     ·exact hb.1
     ·exact hFa b (by simpa using hb)
    ·intro b hb
     have:b∈ob.toList:=by simpa using hb
     exact ⟨.inl (by simpa using this),hav b (hFa b (by simpa using this))⟩
   | cons x0 r0 =>
    cases ob with
    | none=>simp only [OwnSl] at hown;simp at hown
    | some b =>
     simp only [OwnSl] at hown
     obtain ⟨cap,cl,ty,rfl,hcap,hb,hcl⟩:=hown
     obtain ⟨cl',ty',hb',hrw⟩:=hrow b rfl
     rw [hb] at hb'
     obtain ⟨rfl,rfl⟩:cl = cl'∧ty = ty':=by cases hb';exact ⟨rfl,rfl⟩
     let β:={y // y∈x0::r0}
     letI:Inhabited β:=⟨⟨x0,List.mem_cons_self⟩⟩
     let D:Array β:=(x0::r0).attach.toArray
     have hDs:D.size = (x0::r0).length:=by simp [D]
     have hDl:D.toList.map Subtype.val = x0::r0:=by simp [D]
     let enc:β→List Value:=fun x=>yjvy T e x.1
     have hbl:b < w.heap.size:=hav b (hFa b (by simp))
     have hk1:∀ x:β,(enc x).length = T.size e:=fun x=>by simp [enc,yjvy,hok.len]
     have ho1:∀ x:β,∀ v∈enc x,v.oneCell' = true:=fun x v hv=>by
      simp only [enc,yjvy,List.mem_map] at hv
      obtain ⟨d,_,rfl⟩:=hv
      exact yDEy
     have hH:HoldsK enc (T.size e) w b 0 D:=by
      intro j hj
      rw [size_flatK] at hj
      have:=yC9y hok hsc hrw Subtype.val hDl hj
      constructor
      ·simp only [World.cell?,Nat.zero_add,hb]
       exact this
      ·simp only [World.frozen?,hb];simp
     have hcmp:CmpLays P g #[] enc (T.size e) (ltM c (x0::r0)) b 0 D.size w:=by
      intro m os dk _ x y
      have hc:=hcall x.1 x.2 y.1 y.2 Int some
      rw [← hcs] at hc
      unfold yvxy at hc
      have hs:=hg _ _ _ _ hc (sortWorldK enc (T.size e) w b 0 m dk os) [.agg (enc x).toArray,.agg (enc y).toArray] [] (fun _=>False) (by
       simp only [RIVs,RIV]
       refine ⟨_,_,[],[],rfl,rfl,⟨_,rfl,?_⟩,_,_,[],[],rfl,rfl,⟨_,rfl,?_⟩,rfl,rfl⟩
       ·exact ytLy _ (hsc x.1)
       ·exact ytLy _ (hsc y.1)) List.nodup_nil (fun b hb=>by cases hb) (fun b hb=>hb.elim) ⟨trivial,fun b hb=>by cases hb⟩
      rw [Array.append_empty]
      refine Calls.mono hs ?_
      rintro e1 w' ⟨r,ys,v,F1,F2,av',hr1,rfl,hrv,_,_,_,_,hl⟩
      cases r with
      | d dd =>
       cases dd with
       | int ki z =>
        cases ki <;> simp only at hr1 <;> try (cases hr1;done)
        simp only [Option.some.injEq] at hr1
        subst hr1
        simp only [RIV,DR.int] at hrv
        obtain ⟨_,rfl⟩:=hrv
        exact ⟨rfl,yHIy hl.os hl.tape.1 hl.output (hl.tape.2 rfl) hl.size (fun b hb=>hl.block b hb (by simp))⟩
       | _=>cases hr1
      | _=>cases hr1
     have main:=AnyQ.slices_SortFunc_eq L (T.size e) aE zE enc hk1 ho1 (ltM c (x0::r0)) (swoM hpre) g #[] b 0 cap D w eg hcmp hH hbl (by rw [hDs];exact hlen)
     rw [hDs] at main
     refine main.mono ?_
     rintro e1 w' ⟨rfl,n,os,rfl⟩
     generalize hQ:pdq (ltOf (ltM c (x0::r0))) D 0 (x0::r0).length (Lib.bitLen (x0::r0).length) true true = Q
     have hys:sortQ c (x0::r0) = Q.toList.map Subtype.val:=by
      rw [← hQ]
      unfold sortQ
      simp only [Array.toList_map]
      have:(x0::r0).attach.toArray.size = (x0::r0).length:=by simp
      rw [this]
     have hQs:Q.size = (x0::r0).length:=by
      have:=(yuAy hpre).1.length_eq
      rw [hys] at this
      simpa using this
     have hnew:(sortWorldK enc (T.size e) w b 0 n Q os).heap[b]? = some (.cells (putCells id 0 (flatK enc (T.size e) Q) cl) ty (0,0)):=by
      unfold sortWorldK putRowK putRow grow mapBlock
      simp only [heap_ahead]
      rw [Array.getElem?_append_left (by simpa using hbl),Array.getElem?_modify,if_pos rfl,hb]
      rfl
     have hsz:w.heap.size≤(sortWorldK enc (T.size e) w b 0 n Q os).heap.size:=size_sortWorldK_c _ _ _ _ _ _ _ _
     have hold:∀ b',b' < w.heap.size→b'≠b→(sortWorldK enc (T.size e) w b 0 n Q os).heap[b']? = w.heap[b']?:=by
      intro b' hb1 hb2
      unfold sortWorldK putRowK putRow grow mapBlock
      simp only [heap_ahead]
      rw [Array.getElem?_append_left (by simpa using hb1),Array.getElem?_modify,if_neg (fun hh=>hb2 hh.symm)]
     refine ⟨_,_,_,[],[b],av,hk,rfl,?_,?_,?_,?_,?_,⟨rfl,⟨rfl,fun _=>Nat.le_add_right _ _⟩,rfl,hsz,fun b' hb1 hb2=>hold b' hb1 (fun hh=>hb2 (by simp [hh]))⟩⟩
     ·simp only [RIV,RIVs];exact ⟨#[],rfl,rfl,trivial⟩
     ·simp only [RIVs]
      refine ⟨_,_,[b],[],rfl,by simp,?_,_,_,[],[],rfl,rfl,hfn _ _,rfl,rfl⟩
      simp only [RIV]
      refine ⟨some b,rfl,?_,fun b' hb'=>?_⟩
      ·simp only [OwnSl]
       refine ⟨cap,_,ty,by rw [hys];simp [hQs],by rw [hys];simpa [hQs] using hcap,hnew,by simpa [putCells] using hcl⟩
      ·cases hb'
       refine ⟨_,ty,hnew,fun i x hi j d hj=>?_⟩
       have hil:i < Q.size:=by
        rw [hys] at hi
        rcases Nat.lt_or_ge i Q.size with hh | hh
        ·exact hh
        ·rw [List.getElem?_eq_none (by simpa using hh)] at hi;cases hi
       have hx:x = (Q[i]).1:=by
        rw [hys,List.getElem?_map,Array.getElem?_toList,Array.getElem?_eq_getElem hil] at hi
        simpa using hi.symm
       have hjl:=yjBy hok hj
       have hlt:i * T.size e + j < Q.size * T.size e:=by
        have:(i + 1) * T.size e≤Q.size * T.size e:=Nat.mul_le_mul_right _ hil
        rw [Nat.add_mul,Nat.one_mul] at this
        omega
       have hcl2:i * T.size e + j < cl.size:=by
        rw [hQs] at hlt
        have:(x0::r0).length * T.size e≤cap * T.size e:=Nat.mul_le_mul_right _ hcap
        omega
       refine ⟨valD d,?_,(yrJy (hsc x d (List.mem_of_getElem? hj))).2 rfl⟩
       simp only [putCells,Array.getElem?_mapIdx,Nat.zero_add]
       rw [Array.getElem?_eq_getElem hcl2]
       simp only [Option.map_some]
       rw [if_pos ⟨Nat.zero_le _,by rw [size_flatK];exact hlt⟩]
       simp only [Nat.sub_zero,id]
       rw [get_flatK _ _ _ _ hlt]
       have hpos:=hok.size e
       have d1:(i * T.size e + j) / T.size e = i:=by rw [Nat.mul_comm,Nat.mul_add_div hpos,Nat.div_eq_of_lt hjl];rfl
       have d2:(i * T.size e + j) % T.size e = j:=by rw [Nat.mul_comm,Nat.mul_add_mod,Nat.mod_eq_of_lt hjl]
       rw [d1,d2,getElem!_pos Q _ hil]
       simp only [enc,yjvy]
       rw [← hx]
       rw [List.getElem?_eq_some_iff] at hj
       obtain ⟨hj1,hj2⟩:=hj
       rw [getElem!_pos _ _ (by simpa using hj1)]
       simp [hj2]
     ·simp
     ·intro b' hb1
      rcases hb1 with hb1 | hb1
      ·exact hb1.1
      ·simp at hb1;subst hb1;exact hFa _ (by simp)
     ·intro b' hb1
      simp at hb1;subst hb1
      exact ⟨.inl (by simp),Nat.lt_of_lt_of_le hbl hsz⟩
  ·cases hk
 ·rw [h2 args R k (fun xs hx=>hh ⟨xs,hx⟩)] at hk;cases hk
theorem yCUy {e g:Nat} {cmp:CmpT (A e)} {S:Spec A} (h1:∀ (xs:List (A e)) (R:Type) (k:IV A→List (IV A)→Option R),S [.arr e xs,.fn g []] k = yeay cmp xs (fun z=>k (.tup []) [.arr e z,.fn g []]))
  (h2:∀ args (R:Type) (k:IV A→List (IV A)→Option R),(∀ xs:List (A e),args≠[.arr e xs,.fn g []])→S args k = none):yaIy S:=by
 intro args R k
 by_cases hh:∃ xs:List (A e),args = [.arr e xs,.fn g []]
 ·obtain ⟨xs,rfl⟩:=hh
  rw [h1,h1]
  unfold yeay
  split <;> rfl
 ·rw [h2 args R k (fun xs hx=>hh ⟨xs,hx⟩),h2 args _ _ (fun xs hx=>hh ⟨xs,hx⟩)];rfl
end Go.Am
