/- Part of an abstract machine for this program, with its soundness: AmExt2. No condition: lemmas for the claim. -/
import Derived.Test.YtfmhkakoakcpgaaGreatDoorAmExt
import Derived.Shelf.Spec.SlicesGrow
import Derived.Shelf.Strconv.Itoa3
import Derived.Shelf.SlIter.Nil
import Derived.Shelf.SlIterI.Nil
import Derived.Shelf.SortM.Plain
import Derived.Shelf.SortM.SortNone
set_option linter.unusedVariables false
set_option linter.unusedSimpArgs false
namespace Go.Am
open Go Go.Proofs Go.RowKit
variable {A:Nat→Type} {P:Program} {T:Ty A} {f:Nat}
def ytGy (e bytes:Nat) (args:List (IV A)):Option (Bool×IV A×List (IV A)):=match args with
 | [.d .nsl,.d (.int .i64 n)]=>some (decide (0≤n) && (decide (n.toNat * bytes≤140737488355328) && decide (n≤4611686018427387904)),.arr e [],[.undef,.undef])
 | _=>none
theorem yqhy (hn0:T.dr = false) (hok:TyOk P T) {e size bytes:Nat} {ty:TypeId} (hsz:T.size e = size)
  (h0:∀ (w:World),Calls P f #[.slice none 0 0,.int .i64 0] w fun e w'=>e = .returned (.slice none 0 0)∧w' = w)
  (h1:∀ (n:Nat) (w:World),0 < n→n * bytes≤140737488355328→n≤4611686018427387904 →
   Calls P f #[.slice none 0 0,.int .i64 n] w fun e w'=>∃ cap cs,e = .returned (.slice (some ⟨w.heap.size,0,none⟩) 0 cap)∧w' = w.drew.alloc (.cells cs ty)∧cap * size≤cs.size):yavy P T f (ofP (ytGy e bytes)):=by
 refine ysly fun args r ys hp=>?_
 unfold ytGy at hp
 split at hp
 ·rename_i n
  simp only [Option.some.injEq,Prod.mk.injEq,Bool.and_eq_true,decide_eq_true_eq] at hp
  obtain ⟨⟨hn,hb,hm⟩,rfl,rfl⟩:=hp
  refine ⟨rfl,fun w vs F av hr hav=>?_⟩
  simp only [RIVs,RIV] at hr
  obtain ⟨v,vs',F1,F2,rfl,rfl,⟨rfl,hd⟩,v2,vs2,F3,F4,rfl,rfl,⟨rfl,hd2⟩,rfl,rfl⟩:=hr
  rw [DR.nsl] at hd
  rw [DR.int] at hd2
  subst hd hd2
  rcases Int.le_iff_eq_or_lt.1 hn with rfl | hpos
  ·refine (h0 w).mono ?_
   rintro e1 w' ⟨rfl,rfl⟩
   refine ⟨_,[],rfl,?_,List.nodup_nil,fun b hb=>(List.not_mem_nil hb).elim,Below.refl _ _,fun _=>Nat.le_refl _⟩
   simp only [RIV]
   exact ⟨none,rfl,⟨rfl,rfl⟩,fun b hb=>by cases hb⟩
  ·have hnn:n = ((n.toNat:Nat):Int):=by omega
   have hc:=h1 n.toNat w (by omega) hb (by omega)
   rw [← hnn] at hc
   refine hc.mono ?_
   rintro e1 w' ⟨cap,cs,rfl,rfl,hcap⟩
   have hsize:(w.drew.alloc (.cells cs ty)).heap.size = w.heap.size + 1:=by show (w.heap.push _).size = _; simp
   have hcell:(w.drew.alloc (.cells cs ty)).heap[w.heap.size]? = some (.cells cs ty):=by show (w.heap.push _)[w.heap.size]? = _; simp
   refine ⟨_,[w.heap.size],rfl,?_,by simp,fun b' hb'=>?_,((Below.refl _ w).drew).alloc (Nat.le_refl _) _,fun _=>Nat.le_succ _⟩
   ·simp only [RIV]
    refine ⟨some w.heap.size,rfl,⟨cap,cs,ty,rfl,Nat.zero_le _,hcell,by rw [hsz]; exact hcap⟩,fun b' hb'=>?_⟩
    cases hb'
    exact ⟨cs,ty,hcell,fun i x hi=>by simp at hi⟩
   ·simp at hb'; subst hb'; exact ⟨Nat.le_refl _,by rw [hsize]; omega⟩
 ·cases hp
def ydpy {α:Type} (bytes:Nat) (n:Int) {R:Type} (k0:List α→Option R):Option R:=bif decide (0≤n) && (decide (n.toNat * bytes≤140737488355328) && decide (n≤4611686018427387904)) then k0 [] else none
theorem yzjy {e bytes:Nat} (h:yavy P T f (ofP (ytGy e bytes))) {S:Spec A} (h1:∀ (n:Int) (R:Type) (k:IV A→List (IV A)→Option R),S [.d .nsl,.d (.int .i64 n)] k = ydpy (α:=A e) bytes n (fun z=>k (.arr e z) [.undef,.undef]))
  (h2:∀ args (R:Type) (k:IV A→List (IV A)→Option R),(∀ n:Int,args ≠ [.d .nsl,.d (.int .i64 n)])→S args k = none):yavy P T f S:=by
 intro args R k res hk
 by_cases hh:∃ n:Int,args = [.d .nsl,.d (.int .i64 n)]
 ·obtain ⟨n,rfl⟩:=hh
  rw [h1] at hk
  exact h _ R k res hk
 ·rw [h2 args R k (fun xs hx=>hh ⟨xs,hx⟩)] at hk; cases hk
theorem yzCy {e bytes:Nat} {S:Spec A} (h1:∀ (n:Int) (R:Type) (k:IV A→List (IV A)→Option R),S [.d .nsl,.d (.int .i64 n)] k = ydpy (α:=A e) bytes n (fun z=>k (.arr e z) [.undef,.undef]))
  (h2:∀ args (R:Type) (k:IV A→List (IV A)→Option R),(∀ n:Int,args ≠ [.d .nsl,.d (.int .i64 n)])→S args k = none):yaWy S:=by
 intro args R k
 by_cases hh:∃ n:Int,args = [.d .nsl,.d (.int .i64 n)]
 ·obtain ⟨n,rfl⟩:=hh
  rw [h1,h1]
  unfold ydpy
  cases decide (0≤n) && (decide (n.toNat * bytes≤140737488355328) && decide (n≤4611686018427387904)) <;> rfl
 ·rw [h2 args R k (fun xs hx=>hh ⟨xs,hx⟩),h2 args _ _ (fun xs hx=>hh ⟨xs,hx⟩)]; rfl
theorem yCRy {ρ:Go.Shelf.Ren} (L:Lays8.n4 P ρ) (i0:TypeInfo) (z:Value) (hi0:P.info? (ρ.t 25) = some i0) (hz0:i0.zero = some z) (size bytes:Nat) (hs:i0.size = size) (hbt:i0.bytes = bytes) (hs0:0 < size) (hzc:z.cells.size = size)
  (n:Nat) (w:World) (hn:0 < n) (hb:n * bytes≤140737488355328) (hm:n≤4611686018427387904) :
  Calls P (ρ.f 4) #[.slice none 0 0,.int .i64 n] w fun e w'=>∃ cap cs,e = .returned (.slice (some ⟨w.heap.size,0,none⟩) 0 cap)∧w' = w.drew.alloc (.cells cs (ρ.t 25))∧cap * size≤cs.size:=by
 refine (Any8.slices_Grow_grow L i0 z hi0 hz0 (by omega) none 0 0 n [] w (Nat.le_refl _) (by omega) (by rw [hbt]; simpa using hb) (by omega) (by simp) (fun _=>rfl) (fun a h=>by cases h)).mono ?_
 rintro e w' ⟨rfl,rfl⟩
 refine ⟨_,_,rfl,rfl,?_⟩
 have h:=grownCap_ge w (0 + n) 0 (ρ.t 25)
 simp only [Array.size_append,ygiy,hzc]
 have:(0 + n - 0) * size + (grownCap w (0 + n) 0 (ρ.t 25) - (0 + n)) * size = grownCap w (0 + n) 0 (ρ.t 25) * size:=by
  rw [← Nat.add_mul]; congr 1; omega
 simp only [List.size_toArray,List.length_nil,Nat.zero_add] at this ⊢
 omega
theorem yCAy {ρ:Go.Shelf.Ren} (L:Lays8.n4 P ρ) (w:World):Calls P (ρ.f 4) #[.slice none 0 0,.int .i64 0] w fun e w'=>e = .returned (.slice none 0 0)∧w' = w :=
 Any8.slices_Grow_room L none 0 0 0 w (Nat.le_refl _) (by omega) (by omega) (by omega)
end Go.Am
set_option linter.unusedVariables false
set_option linter.unusedSimpArgs false
namespace Go.Am
open Go Go.Proofs Go.RowKit Go.Sort
variable {A:Nat→Type} {P:Program} {T:Ty A} {f:Nat}
end Go.Am
set_option linter.unusedVariables false
namespace Go.Am
open Go Go.Maps Go.Proofs Go.RowKit
open Go.WideElems (Fit rd rg rg_of)
variable {A:Nat→Type} {P:Program} {T:Ty A}
def ordS {k:Nat} (str:A k→List UInt8) (un:List UInt8→A k) (ks:List (A k)):Option (List (A k)) :=
 bif decide (ks.map str).Nodup && ((ks.map str).all (fun s=>decide (s.length≤maxLen)) && decide (ks.length * 16≤140737488355328)) then some (((ks.map str).mergeSort leB).map un) else none
theorem yofy {H:Type} (x:Lit×DataW H):∀ l:List (Lit×DataW H),(DataW.insert x l).Perm (x :: l)
 | []=>.refl _
 | y :: r=>by
  unfold DataW.insert
  split
  ·exact .refl _
  ·exact ((yofy x r).cons y).trans (.swap x y r)
theorem ydTy {H:Type}:∀ l:List (Lit×DataW H),(l.foldr DataW.insert []).Perm l
 | []=>.refl _
 | x :: l=>(yofy x _).trans ((ydTy l).cons x)
theorem yoty {k e:Nat} {w:World} {av:Nat→Prop} (hsz:T.size k = 1) (hagg:T.agg k = false) (f:A k→Value) (hf:∀ x u n,∀ d,(T.enc k x)[0]? = some d→DRep T w av n d u→u = f x) (h0:∀ x,(T.enc k x)[0]?.isSome = true) :
  ∀ (es:List MapEntry) (m:List (A k×A e)),yaxy T w av k e es m→es.map (·.key) = m.map fun p=>f p.1
 | [],[],_=>rfl
 | x :: xs,[],h=>by simp [yaxy] at h
 | [],p :: ps,h=>by simp [yaxy] at h
 | x :: xs,p :: ps,h=>by
  simp only [yaxy] at h
  obtain ⟨⟨us,hus,hp,hd⟩,_,hr⟩:=h
  simp only [hagg,packV] at hp
  obtain ⟨d,hd0⟩:=Option.isSome_iff_exists.1 (h0 p.1)
  obtain ⟨u,hu,n,hn⟩:=hd 0 d hd0
  have:=hf _ _ _ _ hd0 hn
  rw [hp] at hu
  simp at hu
  simp only [List.map_cons]
  rw [yoty hsz hagg f hf h0 xs ps hr,hu,this]
def yC0y (P:Program) (k fS g:Nat):Prop :=
 ∀ (b nn B:Nat) (D0:DataW Unit) (R:Value→Option (DataW Unit×List MemPlace)) (w:World),w.ownsMap P k R b nn D0→Maps.size D0≤maxLen→Maps.size D0 * 16≤140737488355328→w.cell? ⟨B,0,none⟩ = some (.map (some b))→B < w.heap.size →
  Calls P fS #[.func (.func g) #[] #[.pointer (some ⟨B,0,none⟩)]] w fun e w'=>∃ (v:Value) (ss:List (List UInt8)),e = .returned v∧ss.Perm (strKeys D0) ∧
   w'.ownsRow w.heap.size k 1 v ss.length ((ss.mergeSort (fun x y=>decide (x≤y))).map encStr)∧(v = .slice none 0 0 ↔ ss = [])∧Below w.heap.size w w'
theorem yJWy (hdr:T.dr = false) {k fS:Nat} {gs:List Nat} (str:A k→List UInt8) (un:List UInt8→A k) (henc:∀ x,T.enc k x = [.str (str x)]) (hun:∀ s,str (un s) = s) (hsz:T.size k = 1) (hagg:T.agg k = false) (hk:P.underlying k = some .string) (hen:yb4y P fS)
  (hc:∀ g ∈ gs,yC0y P k fS g) :
  SpOk P T fS (.keys gs k (ordS str un)):=by
 refine ⟨hen,fun g hg w av B b ty es clock e m xs hB hb hrep hst hs=>?_⟩
 unfold ordS at hs
 cases hcond:decide ((m.map (·.1)).map str).Nodup && (((m.map (·.1)).map str).all (fun s=>decide (s.length≤maxLen)) && decide ((m.map (·.1)).length * 16≤140737488355328)) with
 | false=>rw [hcond] at hs; cases hs
 | true =>
  rw [hcond] at hs
  simp only [cond_true,Option.some.injEq] at hs
  simp only [Bool.and_eq_true,decide_eq_true_eq,List.all_eq_true] at hcond
  obtain ⟨hnd,hlen,hroom⟩:=hcond
  have hkeys:es.toList.map (·.key) = m.map fun p=>encStr (str p.1):=by
   refine yoty hsz hagg (fun x=>encStr (str x)) (fun x u n d hd hn=>?_) (fun x=>by rw [henc]; rfl) _ _ hrep
   rw [henc] at hd
   simp at hd
   subst hd
   cases n <;> exact hn
  let R:Value→Option (DataW Unit×List MemPlace):=fun _=>some (.nil,[])
  have hread:∀ x ∈ es.toList,∃ s:List UInt8,x.key = encStr s∧s.length≤maxLen:=by
   intro x hx
   have:x.key ∈ es.toList.map (·.key):=List.mem_map_of_mem hx
   rw [hkeys] at this
   obtain ⟨p,hp,hpx⟩:=List.mem_map.1 this
   exact ⟨str p.1,hpx.symm,hlen _ (List.mem_map_of_mem (List.mem_map_of_mem hp))⟩
  have hrd:∀ x ∈ es.toList,∀ s:List UInt8,x.key = encStr s→s.length≤maxLen→rd P k R x = some (.string s,.nil):=by
   intro x hx s hxs hs
   unfold rd
   rw [hxs]
   have:keyOf P k (encStr s) = some (.string s):=by
    simp only [keyOf,hk,mapKey,encStr]
    have:(⟨⟨s⟩⟩:ByteArray).size = s.length:=rfl
    simp [this,hs]
   rw [this]
   rfl
  have hesl:es.size = m.length:=by
   have:=congrArg List.length hkeys
   simpa using this
  have hml:m.length * 16≤140737488355328:=by simpa using hroom
  have hown:w.ownsMap P k R b es.size (.map ((es.toList.map (rg P k R)).foldr DataW.insert [])):=by
   refine ⟨es,clock,hb,⟨by rw [hesl]; unfold maxLen; omega,⟨hst.2,hst.1,?_⟩,fun x hx=>?_⟩,Nat.le_refl _,rfl⟩
   ·rw [hkeys]
    have:(m.map fun p=>encStr (str p.1)) = ((m.map (·.1)).map str).map encStr:=by simp
    rw [this]
    exact List.pairwise_map.2 (hnd.imp fun {a b} hne he=>hne (encStr_inj he))
   ·obtain ⟨s,h1,h2⟩:=hread x hx
    exact ⟨_,hrd x hx s h1 h2⟩
  have hperm:(strKeys (.map ((es.toList.map (rg P k R)).foldr DataW.insert []))).Perm ((m.map (·.1)).map str):=by
   show (List.map (fun p:Lit×DataW Unit=>Go.strOf p.1) _).Perm _
   refine ((ydTy _).map _).trans (List.Perm.of_eq ?_)
   rw [List.map_map]
   have h1:es.toList.map ((fun p:Lit×DataW Unit=>Go.strOf p.1) ∘ rg P k R) = (es.toList.map (·.key)).map fun v=>match v with | .string s=>s.data.toList | _=>[]:=by
    rw [List.map_map]
    refine List.map_congr_left fun x hx=>?_
    obtain ⟨s,h1,h2⟩:=hread x hx
    simp only [Function.comp,rg_of (hrd x hx s h1 h2),h1,encStr,Go.strOf]
   rw [h1,hkeys]
   simp [encStr]
  have hsize:Maps.size (.map ((es.toList.map (rg P k R)).foldr DataW.insert []):DataW Unit) = m.length:=by
   show List.length _ = _
   rw [(ydTy _).length_eq]
   simpa using hesl
  have hBl:B < w.heap.size:=by
   rcases Nat.lt_or_ge B w.heap.size with h | h
   ·exact h
   ·rw [Array.getElem?_eq_none h] at hB; cases hB
  refine (hc g hg b es.size B _ R w hown (by rw [hsize]; unfold maxLen; omega) (by rw [hsize]; exact hml) (by simp [World.cell?,hB]) hBl).mono ?_
  rintro r w' ⟨v,ss,rfl,hss,hrow,hnil,hbel⟩
  have hms:ss.mergeSort leB = ((m.map (·.1)).map str).mergeSort leB:=mergeSort_of_perm (hss.trans hperm)
  have hxs:xs = (ss.mergeSort leB).map un:=by rw [hms]; exact hs.symm
  have hxl:xs.length = ss.length:=by rw [hxs]; simp
  have hleft:Left T w w' (fun _=>False):=⟨hbel.os,⟨hbel.tape,fun h=>by rw [hdr] at h; cases h⟩,hbel.output,hbel.size,fun c hc _=>hbel.block c hc⟩
  obtain ⟨hl,⟨rfl,hn⟩ | ⟨gb,cap,cur,rfl,hbase,hgb,hncap,hcm,hcs,htk⟩⟩:=hrow
  ·exact ⟨_,none,rfl,by simp only [OwnSl]; exact ⟨by rw [hxl]; exact hn,trivial⟩,(fun c hc=>by cases hc),hleft⟩
  ·refine ⟨_,some gb,rfl,?_,fun c hc=>?_,hleft⟩
   ·simp only [OwnSl,hsz]
    exact ⟨cap,cur,k,by rw [hxl],by omega,hgb,by omega⟩
   ·cases hc
    refine ⟨hbase,(Array.getElem?_eq_some_iff.1 hgb).1,cur,k,hgb,fun av' i x hx j d hj=>?_⟩
    rw [henc] at hj
    obtain ⟨rfl,rfl⟩:j = 0∧d = .str (str x):=by
     cases j with
     | zero=>simp at hj; exact ⟨rfl,hj.symm⟩
     | succ j=>simp at hj
    refine ⟨encStr (str x),?_,0,rfl⟩
    have hi:i < ss.length:=by
     rw [← hxl]
     rcases Nat.lt_or_ge i xs.length with h | h
     ·exact h
     ·rw [List.getElem?_eq_none h] at hx; cases hx
    have h1:(cur.toList.take (ss.length * 1))[i]? = some (encStr (str x)):=by
     rw [htk,List.getElem?_map]
     rw [hxs,List.getElem?_map] at hx
     obtain ⟨s,h2,rfl⟩:=Option.map_eq_some_iff.1 hx
     show ((ss.mergeSort leB)[i]?).map encStr = _
     rw [h2,hun]
     rfl
    rw [List.getElem?_take_of_lt (by omega)] at h1
    rw [hsz]
    simpa using h1
theorem yHCy {f f1 M:Nat} (hen:yb4y P f) (h:∀ (mb:Option Nat) (w:World),Calls P f #[.map mb] w fun e w'=>e = .returned (.func (.func f1) #[] #[.pointer (some ⟨w.heap.size,0,none⟩)])∧w' = w.alloc (.cells #[.map mb] M)):SpOk P T f (.wrap f1 true):=by
 refine ⟨hen,fun v w hv=>?_⟩
 obtain ⟨b,rfl⟩:=hv.1 rfl
 exact (h (some b) w).mono fun e w' hh=>⟨hh.1,M,hh.2⟩
def SpAll (P:Program) (T:Ty A) (l:List (Nat×Sp A)):Prop:=∀ p ∈ l,SpOk P T p.1 p.2
theorem SpAll.nil:SpAll P T []:=fun _ h=>by cases h
theorem SpAll.cons {f:Nat} {s:Sp A} {l:List (Nat×Sp A)} (h:SpOk P T f s) (t:SpAll P T l):SpAll P T ((f,s) :: l):=fun p hp=>by
 rcases List.mem_cons.1 hp with rfl | hp
 ·exact h
 ·exact t p hp
theorem SpAll.ok {l:List (Nat×Sp A)} (h:SpAll P T l):∀ f s,l.lookup f = some s→SpOk P T f s:=by
 induction l with
 | nil=>intro f s hl; cases hl
 | cons p l ih =>
  obtain ⟨g,t⟩:=p
  intro f s hl
  rw [List.lookup_cons] at hl
  cases he:f == g with
  | true =>
   rw [he] at hl
   simp only [Option.some.injEq] at hl
   obtain rfl:f = g:=by simpa using he
   subst hl
   exact h (f,t) (by simp)
  | false =>
   rw [he] at hl
   exact ih (fun p hp=>h p (by simp [hp])) f s hl
end Go.Am
