/- The plain law, in Lean alone: T6, T7, U0. No condition: lemmas for the claim. -/
import Derived.Test.YtmhbhdhddlbdlaaGreatDoorPlT4
import Derived.Test.YtmhbhdhddlbdlaaGreatDoorPlS1
set_option linter.unusedVariables false
set_option linter.unusedSectionVars false
set_option linter.unusedSimpArgs false
set_option maxRecDepth 100000
namespace Go.Am
open Go Go.Proofs
variable [Fuel]
abbrev Wide (x:Int):Prop:=-1000000000000000000≤x∧x≤1000000000000000000
theorem ysHy {s:List UInt8} (hl:s.length≤1000000) (R:Type) (k:Bool→Option R):call_Is s k = k (callB s):=by
 have e:callB s = callG s:=by unfold callB; rw [ysCy hl]; rfl
 rw [ysCy hl,e]
def numB (s:List UInt8):Bool:=(numG s).isSome
theorem yJ8y {s:List UInt8}:numG s = if numB s then some (numQ s) else none:=by
 unfold numB
 cases h:numG s with
 | none=>rfl
 | some n=>rw [yLvy h]; rfl
theorem yl1y (d:List (List UInt8)) (hd:∀ w ∈ d,w.length≤1000000) (hl:d.length≤1000):∀ (xs:List (List UInt8)) (n i:Nat) (acc:List Int),d.drop i = xs→xs.length < n→acc.length≤i→∀ (R:Type) (e0:Bool→Option R) (e1:List Int→Option R),
  z48z_L3 ygFy n d (d.length:Int) (i:Int) acc (fun b _=>e0 b) e1 = bif xs.all numB then e1 (acc ++ xs.map numQ) else e0 false
 | _,0,_,_,_,h,_,_,_,_=>by omega
 | [],n + 1,i,acc,h,_,_,R,e0,e1=>by
  rw [z48z_L3,ybqy h,List.map_nil,List.append_nil]; rfl
 | w :: ws,n + 1,i,acc,h,hn,ha,R,e0,e1=>by
  have h':=yaqy h
  have hlt:=h'.2.1
  have ih:=yl1y d hd hl ws n (i + 1) (acc ++ [numQ w]) h'.2.2.1 (Nat.lt_of_succ_lt_succ (by simpa only [List.length_cons] using hn)) (by simp; omega) R e0 e1
  have hN:∀ k:Int→Bool→Option R,ygFy.kit_Number w 15 k = (numG w).elim (k 0 false) fun n=>k n true:=fun k=>yvCy (hd w (ybPy h)) R k
  rw [z48z_L3,ybdy h,cond_true,ya2y h,hN,List.all_cons,yJ8y]
  cases numB w with
  | false=>rfl
  | true =>
   show (bif !true then e0 false else bif decide ((acc.length + [numQ w].length) * 8≤yaiy) then _ else none) = _
   rw [Bool.not_true,cond_false,room1 acc _ 8 (by omega) (by omega),cond_true,yauy (show i < 4611686018427387904 by omega),ih,List.append_assoc]; rfl
theorem z48z_g {d:List (List UInt8)} (hd:∀ w ∈ d,w.length≤1000000) (hl:d.length≤1000) (R:Type) (k:List Int→Bool→Option R):z48z d k = bif d.all numB then k (d.map numQ) true else k [] false:=by
 exact yl1y d hd hl d NN 0 [] rfl (by have:=NN_ok; omega) (Nat.zero_le _) R (fun b=>k [] b) (fun e=>k e true)
theorem ysYy {l:List UInt8} (hl:l.length≤1000000):∀ w ∈ yaky 32 l,w.length≤1000000:=fun w hw=>by have:=ykjy 32 l w hw; omega
theorem yzay {α:Type} (f:List UInt8→Option α) (P:α→Prop) (ended:Bool):∀ (ls:List (List UInt8)) (i:Nat) (acc r:List α),(∀ l ∈ ls,∀ c,f l = some c→P c)→(∀ c ∈ acc,P c)→goG f ended i ls acc = .inr r→(∀ c ∈ r,P c)∧r.length≤acc.length + ls.length
 | [],i,acc,r,_,ha,h=>by
  have:acc = r:=Sum.inr.inj h
  subst this
  exact ⟨ha,Nat.le_refl _⟩
 | l :: ls,i,acc,r,hf,ha,h=>by
  rw [yh0y] at h
  cases hc:(if !ended && ls == [] then none else f l) with
  | none=>rw [hc] at h; cases h
  | some a =>
   rw [hc] at h
   have hfa:f l = some a:=by
    split at hc
    ·cases hc
    ·exact hc
   have:=yzay f P ended ls (i + 1) (acc ++ [a]) r (fun l' hl'=>hf l' (List.mem_cons_of_mem _ hl')) (fun c hcc=>by
    rcases List.mem_append.1 hcc with h1 | h1
    ·exact ha c h1
    ·rw [List.mem_singleton.1 h1]; exact hf l (by simp) a hfa) h
   refine ⟨this.1,?_⟩
   have h2:=this.2
   simp only [List.length_append,List.length_cons,List.length_nil] at h2 ⊢
   omega
end Go.Am
set_option linter.unusedVariables false
set_option linter.unusedSectionVars false
set_option linter.unusedSimpArgs false
set_option maxRecDepth 100000
namespace Go.Am
open Go Go.Proofs
variable [Fuel]
theorem ywsy (u:Nat):ascB (Lib.decDigits u):=by
 induction u using Nat.strongRecOn with
 | _ u ih =>
  intro x hx
  rw [Lib.decDigits] at hx
  have hone:∀ d,d < 10→(UInt8.ofNat (48 + d)).toNat < 128:=by decide
  split at hx
  ·rename_i hu
   rw [List.mem_singleton] at hx
   rw [hx]; exact hone u hu
  ·rcases List.mem_append.1 hx with h | h
   ·exact ih (u / 10) (by omega) x h
   ·rw [List.mem_singleton] at h
    rw [h]; exact hone _ (Nat.mod_lt _ (by omega))
theorem yt1y (n:Int):ascB (Lib.itoa n):=by
 unfold Lib.itoa
 split
 ·intro x hx
  rcases List.mem_cons.1 hx with h | h
  ·rw [h]; decide
  ·exact ywsy _ x h
 ·exact ywsy _
theorem yvMy {n:Int} (h:Wide n):(Lib.itoa n).length≤21:=by
 have hd:∀ u,u < 10 ^ 20→(Lib.decDigits u).length≤20:=by
  have:∀ k u,u < 10 ^ (k + 1)→(Lib.decDigits u).length≤k + 1:=by
   intro k
   induction k with
   | zero =>
    intro u hu
    rw [Lib.decDigits,dif_pos (by omega)]; simp
   | succ k ih =>
    intro u hu
    rw [Lib.decDigits]
    split
    ·simp
    ·rw [List.length_append]
     have:=ih (u / 10) (by rw [Nat.pow_succ] at hu; omega)
     simp; omega
  exact this 19
 have h20:(10:Nat) ^ 20 = 100000000000000000000:=by decide
 unfold Lib.itoa
 split
 ·have:=hd n.natAbs (by omega)
  simp; omega
 ·have:=hd n.toNat (by omega)
  omega
theorem yCvy {n:Int} (h:Wide n) (R:Type) (k:List UInt8→Option R):strconv_Itoa n k = k (Lib.itoa n):=by
 show (bif in64 n then k (Lib.itoa n) else none) = _
 have:in64 n = true:=by unfold in64; simp; omega
 rw [this]; rfl
theorem yyQy {n:Nat}:∀ {ws:List (List UInt8)},(∀ w ∈ ws,w.length≤n)→Lib.lens ws≤n * ws.length
 | [],_=>by simp [Lib.lens]
 | w :: ws,h=>by
  have h1:=h w (by simp)
  have h2:=yyQy (n:=n) (ws:=ws) fun v hv=>h v (List.mem_cons_of_mem _ hv)
  simp only [Lib.lens,List.map_cons,List.sum_cons,List.length_cons] at h2 ⊢
  rw [Nat.mul_succ]
  omega
theorem yw5y {n:Nat} {ws:List (List UInt8)} {sep:List UInt8} (h:∀ w ∈ ws,w.length≤n):(Lib.join ws sep).length≤sep.length * ws.length + n * ws.length:=by
 cases ws with
 | nil=>rw [Lib.join_nil]; simp
 | cons w ws =>
  have:=yyQy h
  rw [Lib.join_length]
  have h2:sep.length * ws.length≤sep.length * (w :: ws).length:=Nat.mul_le_mul_left _ (by simp)
  omega
theorem yEby {ws:List (List UInt8)} {sep:List UInt8} (h:∀ w ∈ ws,ascB w) (hs:ascB sep):ascB (Lib.join ws sep):=by
 cases ws with
 | nil=>rw [Lib.join_nil]; intro x hx; cases hx
 | cons w ws =>
  rw [Lib.join_cons]
  intro x hx
  rcases List.mem_append.1 hx with h1 | h1
  ·exact h w (by simp) x h1
  ·unfold Lib.joinTail at h1
   obtain ⟨l,hl,hxl⟩:=List.mem_flatten.1 h1
   obtain ⟨v,hv,rfl⟩:=List.mem_map.1 hl
   rcases List.mem_append.1 hxl with h2 | h2
   ·exact hs x h2
   ·exact h v (List.mem_cons_of_mem _ hv) x h2
theorem yKMy {ws:List (List UInt8)} {sep:List UInt8} (hl:ws.length≤1000) (hw:∀ w ∈ ws,w.length≤1000000) (hs:sep.length≤1000) (R:Type) (k:List UInt8→Option R):strings_Join ws sep k = k (Lib.join ws sep):=by
 have e:ws.map (fun x=>x) = ws:=List.map_id' ws
 have h1:=yw5y (sep:=sep) hw
 have h2:sep.length * ws.length≤1000 * 1000:=Nat.mul_le_mul hs hl
 have h3:1000000 * ws.length≤1000000 * 1000:=Nat.mul_le_mul_left _ hl
 show (bif decide (ws.length≤140737488355328) && decide ((Lib.join (ws.map fun x=>x) sep).length≤140737488355328) then k (Lib.join (ws.map fun x=>x) sep) else none) = _
 rw [e,decide_eq_true (by omega),decide_eq_true (by omega)]; rfl
theorem yuXy {a b:List UInt8} (ha:ascB a) (hb:ascB b):ascB (a ++ b):=fun x hx=>by
 rcases List.mem_append.1 hx with h | h
 ·exact ha x h
 ·exact hb x h
theorem ywdy {x:UInt8} (h:x.toNat < 128):ascB [x]:=fun y hy=>by rw [List.mem_singleton.1 hy]; exact h
theorem yJuy {a b:List UInt8} (h:a.length + b.length≤9000000):strOk a b = true:=by
 unfold strOk
 exact decide_eq_true (by omega)
end Go.Am
set_option linter.unusedVariables false
set_option linter.unusedSectionVars false
set_option linter.unusedSimpArgs false
set_option maxRecDepth 100000
namespace Go.Am
open Go Go.Proofs
variable [Fuel]
theorem yy0y:∀ (t:List UInt8) (a:Nat) (b:UInt8) (n d:Nat),Lib.decFrom a t = some n→Lib.digitVal b = some d→Lib.decFrom a (t ++ [b]) = some (n * 10 + d)
 | [],a,b,n,d,h,hd=>by
  have:a = n:=Option.some.inj h
  subst this
  rw [List.nil_append,Lib.decFrom,hd]; rfl
 | c :: t,a,b,n,d,h,hd=>by
  rw [Lib.decFrom] at h
  cases hc:Lib.digitVal c with
  | none=>rw [hc] at h; cases h
  | some e =>
   rw [hc] at h
   rw [List.cons_append,Lib.decFrom,hc]
   exact yy0y t _ b n d h hd
theorem yDSy {d:Nat} (h:d < 10):Lib.digitVal (UInt8.ofNat (48 + d)) = some d:=by
 have:∀ d:Fin 10,Lib.digitVal (UInt8.ofNat (48 + d.val)) = some d.val:=by decide
 exact this ⟨d,h⟩
theorem yuNy (u:Nat):Lib.decFrom 0 (Lib.decDigits u) = some u:=by
 induction u using Nat.strongRecOn with
 | _ u ih =>
  rw [Lib.decDigits]
  split
  ·rename_i hu
   rw [Lib.decFrom,yDSy hu]
   show some (0 * 10 + u) = some u
   rw [Nat.zero_mul,Nat.zero_add]
  ·rename_i hu
   rw [yy0y _ 0 _ _ _ (ih (u / 10) (by omega)) (yDSy (Nat.mod_lt u (by omega)))]
   congr 1; omega
theorem yuWy (u:Nat):((Lib.decDigits u).all fun b=>digS.contains b) = true:=by
 rw [List.all_eq_true]
 intro b hb
 obtain ⟨k,hk⟩:=List.getElem?_of_mem hb
 obtain ⟨d,hd⟩:=Lib.digit_of_decFrom _ 0 u (yuNy u) k b hk
 rw [yy2y,hd]; rfl
theorem yBBy {u:Nat} (h:u < 1000000000000000):(Lib.decDigits u).length≤15:=by
 have:∀ k u,u < 10 ^ (k + 1)→(Lib.decDigits u).length≤k + 1:=by
  intro k
  induction k with
  | zero =>
   intro u hu
   rw [Lib.decDigits,dif_pos (by omega)]; simp
  | succ k ih =>
   intro u hu
   rw [Lib.decDigits]
   split
   ·simp
   ·rw [List.length_append]
    have:=ih (u / 10) (by rw [Nat.pow_succ] at hu; omega)
    simp; omega
 have h15:(10:Nat) ^ (14 + 1) = 1000000000000000:=by decide
 exact this 14 u (by omega)
theorem yvay {n:Int} (h0:0≤n) (h1:n < 1000000000000000):numB (Lib.itoa n) = true∧numQ (Lib.itoa n) = n:=by
 obtain ⟨u,rfl⟩:∃ u:Nat,n = (u:Int):=⟨n.toNat,by omega⟩
 rw [Lib.itoa_nonneg]
 have hne:=ym3y u
 have hall:=yuWy u
 have hneg:ybTy (Lib.decDigits u) = false:=by
  unfold ybTy
  cases hd:Lib.decDigits u with
  | nil=>exact absurd hd hne
  | cons b r =>
   rw [List.head?_cons]
   cases hb:some b == some (45:UInt8) with
   | false=>rfl
   | true =>
    have:b = 45:=Option.some.inj (beq_iff_eq.1 hb)
    rw [hd,this,List.all_cons,Bool.and_eq_true] at hall
    exact absurd hall.1 (by decide)
 have hT:numT (Lib.decDigits u) = Lib.decDigits u:=by unfold numT; rw [hneg]; rfl
 have hok:numOk (Lib.decDigits u) = true:=by
  unfold numOk
  rw [hT,hall,decide_eq_true (yBBy (by omega)),beq_eq_false_iff_ne.2 hne]; rfl
 have hat:=ypQy hok (by rw [hT]; exact yuNy u)
 rw [hneg] at hat
 have hat':Lib.atoi (Lib.decDigits u) = some (u:Int):=hat
 have hcan:((Lib.decDigits u).head? == some 48 && (decide ((Lib.decDigits u).length > 1) || false)) = false:=by
  cases hh:(Lib.decDigits u).head? == some 48 with
  | false=>rfl
  | true =>
   have:=yCby u (beq_iff_eq.1 hh)
   subst this
   rw [show Lib.decDigits 0 = [48] by rw [Lib.decDigits,dif_pos (by omega)]; rfl]; rfl
 constructor
 ·unfold numB numG
  rw [hok,hT,hneg,hcan]; rfl
 ·unfold numQ
  rw [hok,if_pos rfl,hat']; rfl
theorem ymXy {u:Nat} {c:UInt8} (hc:digS.contains c = false):(Lib.decDigits u).contains c = false:=by
 cases h:(Lib.decDigits u).contains c with
 | false=>rfl
 | true =>
  have:=List.all_eq_true.1 (yuWy u) c (by simpa using h)
  rw [hc] at this; cases this
theorem yw2y {c:UInt8} {a b:List UInt8} (h:a.contains c = false):cutB c (a ++ c :: b) = (a,b,true):=by
 have:=ycLy c (a ++ c :: b) a.length (by simp) (by rw [List.take_left']; exact h; rfl)
 rw [this]
 simp
theorem yEMy {c:UInt8} {a:List UInt8} (h:a.contains c = false):a.count c = 0:=by
 rw [List.count_eq_zero]; intro hm
 rw [← List.contains_iff_mem,h] at hm; cases hm
theorem ykZy {c:UInt8}:∀ {ws:List (List UInt8)},ws ≠ []→(∀ w ∈ ws,w.contains c = false)→yaky c (Lib.join ws [c]) = ws
 | [],h,_=>absurd rfl h
 | [w],_,h=>by rw [Lib.join_one,yhky (yEMy (h w (by simp)))]
 | w :: v :: r,_,h=>by
  have ih:=ykZy (c:=c) (ws:=v :: r) (List.cons_ne_nil _ _) fun x hx=>h x (List.mem_cons_of_mem _ hx)
  have e:Lib.join (w :: v :: r) [c] = w ++ c :: Lib.join (v :: r) [c]:=by
   rw [Lib.join_cons,Lib.join_cons]
   simp [Lib.joinTail]
  rw [e,yeZy,yw2y (h w (by simp)),cond_true,ih]
theorem yIcy {c d:UInt8} (hcd:([d]:List UInt8).contains c = false) {ws:List (List UInt8)} (h:∀ w ∈ ws,w.contains c = false):(Lib.join ws [d]).contains c = false:=by
 cases hc:(Lib.join ws [d]).contains c with
 | false=>rfl
 | true =>
  exfalso
  have hm:c ∈ Lib.join ws [d]:=by simpa using hc
  cases ws with
  | nil=>rw [Lib.join_nil] at hm; cases hm
  | cons w ws =>
   rw [Lib.join_cons] at hm
   rcases List.mem_append.1 hm with h1 | h1
   ·have:=h w (by simp); rw [List.contains_iff_mem.2 h1] at this; cases this
   ·unfold Lib.joinTail at h1
    obtain ⟨l,hl,hxl⟩:=List.mem_flatten.1 h1
    obtain ⟨v,hv,rfl⟩:=List.mem_map.1 hl
    rcases List.mem_append.1 hxl with h2 | h2
    ·rw [List.contains_iff_mem.2 h2] at hcd; cases hcd
    ·have:=h v (List.mem_cons_of_mem _ hv); rw [List.contains_iff_mem.2 h2] at this; cases this
theorem yv9y {ws:List (List UInt8)} (hne:ws ≠ []) (h:∀ w ∈ ws,w.contains 32 = false∧w ≠ []):yewy (Lib.join ws [32]) = true:=by
 unfold yewy
 rw [ykZy hne fun w hw=>(h w hw).1]
 cases hc:ws.contains [] with
 | false=>rfl
 | true=>exact absurd rfl (h [] (by simpa using hc)).2
def yb7y {α:Type} (g:α→List UInt8):List α→List UInt8
 | []=>[]
 | c :: cs=>(g c ++ [10]) ++ yb7y g cs
theorem yvwy {α:Type} {f:List UInt8→Option α} {g:α→List UInt8}:∀ (x:List α) (n i:Nat) (acc:List α),(∀ c ∈ x,f (g c) = some c∧(g c).contains 10 = false)→(yb7y g x).length < n→goQ f n i (yb7y g x) acc = .inr (acc ++ x)
 | _,0,_,_,_,h=>by omega
 | [],n + 1,i,acc,_,_=>by
  rw [List.append_nil]; rfl
 | c :: cs,n + 1,i,acc,hf,hn=>by
  have hc:=hf c (by simp)
  have e:yb7y g (c :: cs) = g c ++ 10 :: yb7y g cs:=by
   show (g c ++ [10]) ++ yb7y g cs = _
   rw [List.append_assoc]; rfl
  have hl:(yb7y g cs).length < n:=by
   rw [e,List.length_append,List.length_cons] at hn; omega
  have hne:(yb7y g (c :: cs) == []) = false:=by
   rw [e,beq_eq_false_iff_ne]; simp
  rw [goQ,hne,if_neg (by decide),e,yw2y hc.2]
  show (if (!true) = true then _ else match f (g c) with | none=>_ | some a=>_) = _
  rw [hc.1,if_neg (by decide)]
  show goQ f n (i + 1) (yb7y g cs) (acc ++ [c]) = _
  rw [yvwy cs n (i + 1) (acc ++ [c]) (fun y hy=>hf y (List.mem_cons_of_mem _ hy)) hl,List.append_assoc]; rfl
theorem yE9y {α:Type} {f:List UInt8→Option α} {g:α→List UInt8} {x:List α} (hf:∀ c ∈ x,f (g c) = some c∧(g c).contains 10 = false):goG f (endG (yb7y g x)) 0 (ybfy (yb7y g x)) [] = .inr x:=by
 rw [← goQ_G f ((yb7y g x).length + 1) 0 (yb7y g x) [] (by omega),yvwy x _ 0 [] hf (by omega),List.nil_append]
end Go.Am
