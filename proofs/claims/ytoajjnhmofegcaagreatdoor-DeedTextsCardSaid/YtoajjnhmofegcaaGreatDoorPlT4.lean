/- The plain law, in Lean alone: T4, T5, T6, T7, U0, T8. No condition: lemmas for the claim. -/
import Derived.Test.YtoajjnhmofegcaaGreatDoorPlT0
import Derived.Test.YtoajjnhmofegcaaGreatDoorPlS1
set_option linter.unusedVariables false
set_option linter.unusedSectionVars false
set_option linter.unusedSimpArgs false
set_option maxRecDepth 100000
namespace Go.Am
open Go Go.Proofs
variable [Fuel]
theorem yyqy (b:UInt8):digS.contains b = (Lib.digitVal b).isSome:=by
 have h:∀ x:Fin 256,digS.contains (UInt8.ofNat x) = (Lib.digitVal (UInt8.ofNat x)).isSome:=by decide +kernel
 have:=h ⟨b.toNat,b.toNat_lt⟩
 simpa using this
theorem yjQy:∀ (t:List UInt8) (a:Nat),(t.all fun b=>digS.contains b) = true→∃ m,Lib.decFrom a t = some m
 | [],a,_=>⟨a,rfl⟩
 | b::t,a,h=>by
  rw [List.all_cons,Bool.and_eq_true,yyqy] at h
  obtain ⟨d,hd⟩:=Option.isSome_iff_exists.1 h.1
  obtain ⟨m,hm⟩:=yjQy t (a * 10 + d) h.2
  exact ⟨m,by rw [Lib.decFrom,hd];exact hm⟩
theorem yuoy:∀ (t:List UInt8) (a:Nat) (b:UInt8) (m:Nat),Lib.decFrom a (t++[b]) = some m→∃ n d,Lib.decFrom a t = some n∧Lib.digitVal b = some d∧m = n * 10 + d
 | [],a,b,m,h=>by
  rw [List.nil_append,Lib.decFrom] at h
  cases hd:Lib.digitVal b with
  | none=>rw [hd] at h;cases h
  | some d =>
   rw [hd] at h
   exact ⟨a,d,rfl,rfl,by have:=Option.some.inj h;omega⟩
 | c::t,a,b,m,h=>by
  rw [List.cons_append,Lib.decFrom] at h
  cases hd:Lib.digitVal c with
  | none=>rw [hd] at h;cases h
  | some d =>
   rw [hd] at h
   obtain ⟨n,e,h1,h2,h3⟩:=yuoy t (a * 10 + d) b m h
   exact ⟨n,e,by rw [Lib.decFrom,hd];exact h1,h2,h3⟩
theorem yvZy {u v:List UInt8} (h:u≠[]):(u++v).head? = u.head?:=by
 cases u with
 | nil=>exact absurd rfl h
 | cons a r=>rfl
theorem yriy (u:Nat):Lib.decDigits u≠[]:=by
 rw [Lib.decDigits];split <;> simp
theorem ymUy (u:Nat):(Lib.decDigits u).head? = some 48→u = 0:=by
 induction u using Nat.strongRecOn with
 | _ u ih =>
  intro h
  rw [Lib.decDigits] at h
  split at h
  ·rename_i hu
   rw [List.head?_cons] at h
   have h':=Option.some.inj h
   have:(UInt8.ofNat (48 + u)).toNat = 48:=by rw [h'];rfl
   rw [UInt8.toNat_ofNat'] at this
   omega
  ·rename_i hu
   rw [yvZy (yriy _)] at h
   have:=ih (u / 10) (by omega) h
   omega
theorem val_b {b:UInt8} {d:Nat} (h:Lib.digitVal b = some d):UInt8.ofNat (48 + d) = b:=by
 obtain ⟨h1,h2,h3⟩:=Lib.digitVal_eq h
 rw [show 48 + d = b.toNat by omega,UInt8.ofNat_toNat]
theorem ykQy:∀ (n:Nat) (t:List UInt8) (m:Nat),t.length = n→t≠[]→t.head?≠some 48→Lib.decFrom 0 t = some m→Lib.decDigits m = t∧1≤m
 | 0,t,m,hl,hne,_,_=>absurd (List.length_eq_zero_iff.1 hl) hne
 | n + 1,t,m,hl,hne,hh,hm=>by
  obtain ⟨u,b,rfl⟩:∃ u b,t = u++[b]:=⟨t.dropLast,t.getLast hne,(List.dropLast_concat_getLast hne).symm⟩
  obtain ⟨k,d,h1,h2,h3⟩:=yuoy u 0 b m hm
  obtain ⟨e1,e2,e3⟩:=Lib.digitVal_eq h2
  cases hu:u with
  | nil =>
   subst hu
   have hk:k = 0:=(Option.some.inj h1).symm
   have hb:b.toNat≠48:=fun h=>hh (by rw [List.nil_append,List.head?_cons,show b = 48 from UInt8.toNat_inj.1 h])
   have hmd:m = d:=by omega
   subst hmd
   refine ⟨?_,by omega⟩
   rw [Lib.decDigits,dif_pos (by omega),val_b h2];rfl
  | cons c r =>
   have hune:u≠[]:=by rw [hu];exact List.cons_ne_nil _ _
   rw [yvZy hune] at hh
   obtain ⟨i1,i2⟩:=ykQy n u k (by simpa using hl) hune hh h1
   refine ⟨?_,by omega⟩
   rw [Lib.decDigits,dif_neg (by omega),show m / 10 = k by omega,show m % 10 = d by omega,i1,val_b h2,hu]
theorem yEEy {t:List UInt8} {m:Nat} (hne:t≠[]) (hm:Lib.decFrom 0 t = some m):(Lib.decDigits m == t) = !(t.head? == some 48&&decide (t.length > 1)):=by
 by_cases hh:t.head? = some 48
 ·by_cases hl:t.length > 1
  ·rw [hh,decide_eq_true hl]
   show _ = false
   rw [beq_eq_false_iff_ne]
   intro he
   have h0:=ymUy m (by rw [he];exact hh)
   subst h0
   rw [show Lib.decDigits 0 = [48] by rw [Lib.decDigits,dif_pos (by omega)];rfl] at he
   rw [← he] at hl
   simp at hl
  ·rw [hh,decide_eq_false hl]
   show _ = true
   obtain ⟨b,rfl⟩:∃ b,t = [b]:=by
    match t,hne,hl with
    | [b],_,_=>exact ⟨b,rfl⟩
    | a::b::r,_,hl=>exact absurd (by simp) hl
   have:b = 48:=Option.some.inj hh
   subst this
   have:m = 0:=by
    have:Lib.decFrom 0 [48] = some 0:=by decide
    rw [this] at hm;exact (Option.some.inj hm).symm
   subst this
   rw [show Lib.decDigits 0 = [48] by rw [Lib.decDigits,dif_pos (by omega)];rfl];rfl
 ·rw [(ykQy _ t m rfl hne hh hm).1]
  have:(t.head? == some 48) = false:=beq_eq_false_iff_ne.2 hh
  rw [this];simp
def ybcy (s:List UInt8):Bool:=s.head? == some 45
def numT (s:List UInt8):List UInt8:=if ybcy s then s.drop 1 else s
def numOk (s:List UInt8):Bool:=!(numT s == [])&&(decide ((numT s).length≤15)&&((numT s).all fun b=>digS.contains b))
def numG (s:List UInt8):Option Int:=if numOk s&&!((numT s).head? == some 48&&(decide ((numT s).length > 1) || ybcy s)) then some ((Lib.atoi s).getD 0) else none
theorem z62z_g (s:List UInt8) (R:Type) (k:List UInt8→Bool→Option R):z62z s [45] k = k (numT s) (ybcy s):=by
 cases s with
 | nil=>rfl
 | cons b l =>
  have h1:∀ k:Bool→Option R,yqHy.z47z (b::l) [45] k = k (b == 45):=fun k=>by
   show z47z_ NN (b::l) [45] k = _
   unfold z47z_
   have g1:decide (((b::l).length:Int) ≥ (([45]:List UInt8).length:Int)) = true:=by simp;omega
   rw [g1,cond_true]
   show k ([b] == [45]) = _
   congr 1
   simp
  have g2:(decide (0≤(([45]:List UInt8).length:Int))&&decide ((([45]:List UInt8).length:Int)≤((b::l).length:Int))) = true:=by simp;omega
  show z51z_ yqHy (b::l) [45] k = _
  unfold z51z_
  rw [h1,g2,cond_true]
  have e:ybcy (b::l) = (b == 45):=by unfold ybcy;simp
  unfold numT
  rw [e]
  cases b == 45 <;> rfl
theorem z59z_g (s:List UInt8) (R:Type) (k:List UInt8→Option R):z59z s [45] k = k (numT s):=by
 cases s with
 | nil=>rfl
 | cons b l =>
  have h1:∀ k:Bool→Option R,ypXy.z47z (b::l) [45] k = k (b == 45):=fun k=>by
   show z47z_ NN (b::l) [45] k = _
   unfold z47z_
   have g1:decide (((b::l).length:Int) ≥ (([45]:List UInt8).length:Int)) = true:=by simp;omega
   rw [g1,cond_true]
   show k ([b] == [45]) = _
   congr 1
   simp
  have g2:(decide (0≤(([45]:List UInt8).length:Int))&&decide ((([45]:List UInt8).length:Int)≤((b::l).length:Int))) = true:=by simp;omega
  show z43z_ ypXy (b::l) [45] k = _
  unfold z43z_
  rw [h1,g2,cond_true]
  have e:ybcy (b::l) = (b == 45):=by unfold ybcy;simp
  unfold numT
  rw [e]
  cases b == 45 <;> rfl
theorem yIny {t:List UInt8} {m:Nat} (hne:t≠[]) (hd:(t.all fun b=>digS.contains b) = true) (hm:Lib.decFrom 0 t = some m):Lib.atoi t = some (m:Int):=by
 cases t with
 | nil=>exact absurd rfl hne
 | cons b r =>
  rw [List.all_cons,Bool.and_eq_true] at hd
  have h45:(b == 45) = false:=by
   cases h:b == 45 with
   | false=>rfl
   | true=>rw [beq_iff_eq.1 h] at hd;exact absurd hd.1 (by decide)
  have h43:(b == 43) = false:=by
   cases h:b == 43 with
   | false=>rfl
   | true=>rw [beq_iff_eq.1 h] at hd;exact absurd hd.1 (by decide)
  show (if b == 45 then (Lib.decNat r).map (fun (m:Nat)=>-(m:Int)) else if b == 43 then (Lib.decNat r).map (fun (m:Nat)=>(m:Int)) else (Lib.decNat (b::r)).map (fun (m:Nat)=>(m:Int))) = _
  rw [h45,h43,if_neg (by decide),if_neg (by decide)]
  unfold Lib.decNat
  rw [List.isEmpty_cons,if_neg (by decide),hm];rfl
theorem yj9y {s:List UInt8} {m:Nat} (hok:numOk s = true) (hm:Lib.decFrom 0 (numT s) = some m):Lib.atoi s = some (if ybcy s then -(m:Int) else (m:Int)):=by
 unfold numOk at hok
 rw [Bool.and_eq_true,Bool.and_eq_true,Bool.not_eq_true'] at hok
 obtain ⟨h1,h2,h3⟩:=hok
 have hne:numT s≠[]:=beq_eq_false_iff_ne.1 h1
 cases hn:ybcy s with
 | false =>
  have e:numT s = s:=by unfold numT;rw [hn];rfl
  rw [e] at hne h3 hm
  exact yIny hne h3 hm
 | true =>
  obtain ⟨r,rfl⟩:∃ r,s = 45::r:=by
   cases s with
   | nil=>cases hn
   | cons b r =>
    have:b = 45:=by unfold ybcy at hn;simpa using hn
    exact ⟨r,by rw [this]⟩
  have e:numT (45::r) = r:=by unfold numT;rw [hn];rfl
  rw [e] at hne hm
  show (Lib.decNat r).map (fun (m:Nat)=>-(m:Int)) = _
  unfold Lib.decNat
  have:r.isEmpty = false:=by cases r with | nil=>exact absurd rfl hne | cons=>rfl
  rw [this,if_neg (by decide),hm];rfl
theorem yvXy (s:List UInt8):s.length≤(numT s).length + 1:=by
 unfold numT
 split
 ·rw [List.length_drop];omega
 ·omega
theorem yuVy {s:List UInt8} (hok:numOk s = true) (R:Type) (k:Int→Option R):strconv_Atoi s k = k ((Lib.atoi s).getD 0):=by
 have hok':=hok
 unfold numOk at hok
 rw [Bool.and_eq_true,Bool.and_eq_true] at hok
 have hl:=yvXy s
 have h15:=of_decide_eq_true hok.2.1
 obtain ⟨m,hm⟩:=yjQy (numT s) 0 hok.2.2
 have ha:=yj9y hok' hm
 show (bif decide (s.length≤18)&&(Lib.atoi s).isSome then k ((Lib.atoi s).getD 0) else none) = _
 rw [decide_eq_true (by omega),ha];rfl
theorem yH4y {s:List UInt8} (hok:numOk s = true):numT (numT s) = numT s∧ybcy (numT s) = false∧numOk (numT s) = true:=by
 have hok':=hok
 unfold numOk at hok
 rw [Bool.and_eq_true,Bool.and_eq_true,Bool.not_eq_true'] at hok
 have hn:ybcy (numT s) = false:=by
  cases ht:numT s with
  | nil=>rfl
  | cons b r =>
   have h:=hok.2.2
   rw [ht,List.all_cons,Bool.and_eq_true] at h
   unfold ybcy
   cases h45:(b::r).head? == some 45 with
   | false=>rfl
   | true =>
    have:b = 45:=by simpa using h45
    rw [this] at h;exact absurd h.1 (by decide)
 have e:numT (numT s) = numT s:=by
  show (if ybcy (numT s) then (numT s).drop 1 else numT s) = numT s
  rw [hn];rfl
 refine ⟨e,hn,?_⟩
 unfold numOk
 rw [e]
 exact hok'
theorem ymXy {s:List UInt8} (hl:s.length≤1000000) (R:Type) (k:Int→Bool→Option R):kit_Number s 15 k = (numG s).elim (k 0 false) fun n=>k n true:=by
 have h1:∀ k:List UInt8→Bool→Option R,ycWy.z62z s [45] k = k (numT s) (ybcy s):=fun k=>z62z_g s R k
 have hT:(numT s).length≤1000000:=by unfold numT;split;(rw [List.length_drop];omega);exact hl
 have h2:∀ k:List UInt8→Option R,ycWy.strings_Trim (numT s) digS k = k (Lib.trimS (numT s) digS):=fun k=>yvDy hT (by decide) R k
 show ygCy ycWy s 15 k = _
 unfold ygCy
 rw [h1]
 unfold numG
 cases hok:numOk s with
 | false =>
  show _ = k 0 false
  unfold numOk at hok
  cases he:numT s == [] with
  | true=>rfl
  | false =>
   rw [cond_false]
   by_cases h15:(numT s).length≤15
   ·rw [decide_eq_false (show ¬ ((numT s).length:Int) > 15 by omega),cond_false,h2,ylay]
    rw [he,decide_eq_true h15,Bool.not_false,Bool.true_and,Bool.true_and] at hok
    rw [hok];rfl
   ·rw [decide_eq_true (show ((numT s).length:Int) > 15 by omega),cond_true]
 | true =>
  obtain ⟨tT,tN,tok⟩:=yH4y hok
  have h3:∀ k:Int→Option R,ycWy.strconv_Atoi (numT s) k = k ((Lib.atoi (numT s)).getD 0):=fun k=>yuVy tok R k
  have hok':=hok
  unfold numOk at hok'
  rw [Bool.and_eq_true,Bool.and_eq_true,Bool.not_eq_true'] at hok'
  obtain ⟨he,h15,hall⟩:=hok'
  have h15:=of_decide_eq_true h15
  obtain ⟨m,hm⟩:=yjQy (numT s) 0 hall
  have ha:=yj9y hok hm
  have hat:=yj9y tok (by rw [tT];exact hm)
  have hlt:=Lib.decFrom_lt18 hm (by omega)
  rw [he,cond_false,decide_eq_false (show ¬ ((numT s).length:Int) > 15 by omega),cond_false,h2,ylay,hall,Bool.not_true,cond_false]
  obtain ⟨b,r,hbr⟩:∃ b r,numT s = b::r:=by
   cases h:numT s with
   | nil=>rw [h] at he;cases he
   | cons b r=>exact ⟨b,r,rfl⟩
  have hat0:∀ k:UInt8→Option R,at_ (numT s) 0 k = k b:=fun k=>ycyy (i:=0) (by rw [hbr];rfl) k
  have hb:((b.toNat:Int) == 48) = ((numT s).head? == some 48):=by
   rw [hbr,List.head?_cons]
   by_cases hb:b = 48
   ·subst hb;rfl
   ·have hn:b.toNat≠48:=fun h=>hb (UInt8.toNat_inj.1 h)
    have h1:((b.toNat:Int) == 48) = false:=beq_eq_false_iff_ne.2 (by omega)
    have h2:(some b == some (48:UInt8)) = false:=beq_eq_false_iff_ne.2 fun h=>hb (Option.some.inj h)
    rw [h1,h2]
  have hgt:decide (((numT s).length:Int) > 1) = decide ((numT s).length > 1):=by
   by_cases h:(numT s).length > 1
   ·rw [decide_eq_true h,decide_eq_true (by omega)]
   ·rw [decide_eq_false h,decide_eq_false (by omega)]
  rw [hat0,hb,h3,hgt,hat,ha,tN]
  have hw:w64 (0 - (m:Int)) = -(m:Int):=by rw [yaZy (by omega) (by omega)];omega
  simp only [Bool.false_eq_true,if_false,Option.getD_some,hw]
  cases (numT s).head? == some 48 <;> cases decide ((numT s).length > 1) <;> cases ybcy s <;> rfl
def numQ (s:List UInt8):Int:=if numOk s then (Lib.atoi s).getD 0 else 0
theorem yJsy {s:List UInt8} {n:Int} (h:numG s = some n):numQ s = n:=by
 unfold numG at h
 unfold numQ
 cases hok:numOk s with
 | false=>rw [hok] at h;cases h
 | true =>
  rw [hok] at h
  simp only [Bool.true_and] at h
  split at h
  ·exact Option.some.inj h
  ·cases h
theorem ypVy {s:List UInt8} (hl:s.length≤1000000) (R:Type) (k:Int→Bool→Option R):Q_Number s 15 k = k (numQ s) (numG s).isSome:=by
 have hT:(numT s).length≤1000000:=by unfold numT;split;(rw [List.length_drop];omega);exact hl
 have h1:∀ k:List UInt8→Option R,yday.z59z s [45] k = k (numT s):=fun k=>z59z_g s R k
 have h2:∀ k:Bool→Option R,yday.Q_only (numT s) digS k = k ((numT s).all fun b=>digS.contains b):=fun k=>ypdy digS hT R k
 show yiRy yday s 15 k = _
 unfold yiRy
 rw [h1]
 unfold numG numQ
 cases hok:numOk s with
 | false =>
  show _ = k 0 false
  unfold numOk at hok
  cases he:numT s == [] with
  | true=>rfl
  | false =>
   rw [cond_false]
   by_cases h15:(numT s).length≤15
   ·rw [decide_eq_false (show ¬ ((numT s).length:Int) > 15 by omega),cond_false,h2]
    rw [he,decide_eq_true h15,Bool.not_false,Bool.true_and,Bool.true_and] at hok
    rw [hok];rfl
   ·rw [decide_eq_true (show ((numT s).length:Int) > 15 by omega),cond_true]
 | true =>
  have hok':=hok
  unfold numOk at hok'
  rw [Bool.and_eq_true,Bool.and_eq_true,Bool.not_eq_true'] at hok'
  obtain ⟨he,h15,hall⟩:=hok'
  have h15:=of_decide_eq_true h15
  have hne:numT s≠[]:=beq_eq_false_iff_ne.1 he
  obtain ⟨m,hm⟩:=yjQy (numT s) 0 hall
  have ha:=yj9y hok hm
  have hlt:=Lib.decFrom_lt18 hm (by omega)
  have h3:∀ k:Int→Option R,yday.strconv_Atoi s k = k ((Lib.atoi s).getD 0):=fun k=>yuVy hok R k
  have h4:∀ k:List UInt8→Option R,yday.strconv_Itoa ((Lib.atoi s).getD 0) k = k (Lib.itoa ((Lib.atoi s).getD 0)):=fun k=>by
   show (bif in64 ((Lib.atoi s).getD 0) then k _ else none) = _
   have:in64 ((Lib.atoi s).getD 0) = true:=by
    rw [ha,Option.getD_some]
    unfold in64
    cases ybcy s <;> simp <;> omega
   rw [this];rfl
  rw [he,cond_false,decide_eq_false (show ¬ ((numT s).length:Int) > 15 by omega),cond_false,h2,hall,Bool.not_true,cond_false,h3,h4]
  have key:(Lib.itoa ((Lib.atoi s).getD 0) == s) = !((numT s).head? == some 48&&(decide ((numT s).length > 1) || ybcy s)):=by
   rw [ha,Option.getD_some]
   have hi:=yEEy hne hm
   cases hn:ybcy s with
   | false =>
    have e:numT s = s:=by unfold numT;rw [hn];rfl
    rw [if_neg (by decide),Lib.itoa_nonneg,Bool.or_false,← hi,e]
   | true =>
    obtain ⟨r,rfl⟩:∃ r,s = 45::r:=by
     cases s with
     | nil=>cases hn
     | cons b r =>
      have:b = 45:=by unfold ybcy at hn;simpa using hn
      exact ⟨r,by rw [this]⟩
    have e:numT (45::r) = r:=by unfold numT;rw [hn];rfl
    rw [e] at hne hm hi ⊢
    rw [if_pos rfl,Bool.or_true,Bool.and_true]
    by_cases hm0:m = 0
    ·subst hm0
     have hz:Lib.itoa (-((0:Nat):Int)) = [48]:=by
      show Lib.decDigits 0 = [48]
      rw [Lib.decDigits,dif_pos (by omega)];rfl
     rw [hz]
     have h48:r.head? = some 48:=Classical.byContradiction fun h=>by
      have:=(ykQy _ r 0 rfl hne h hm).2
      omega
     rw [h48];rfl
    ·rw [Lib.itoa_neg m (by omega)]
     have hc:(45::Lib.decDigits m == 45::r) = (Lib.decDigits m == r):=by simp
     rw [hc,hi]
     by_cases h48:r.head? = some 48
     ·have hl1:r.length > 1:=Classical.byContradiction fun h=>by
       rw [decide_eq_false h,Bool.and_false,Bool.not_false,beq_iff_eq] at hi
       exact hm0 (ymUy m (by rw [hi];exact h48))
      rw [decide_eq_true hl1,Bool.and_true]
     ·have:(r.head? == some 48) = false:=beq_eq_false_iff_ne.2 h48
      rw [this];rfl
  rw [key]
  simp only [if_true,Bool.true_and]
  cases (!((numT s).head? == some 48&&(decide ((numT s).length > 1) || ybcy s))) <;> rfl
end Go.Am
set_option linter.unusedVariables false
set_option linter.unusedSectionVars false
set_option linter.unusedSimpArgs false
set_option maxRecDepth 100000
namespace Go.Am
open Go Go.Proofs
variable [Fuel]
theorem ykFy {c:UInt8} {s:List UInt8} (h:s.count c = 0):yaly c s = [s]:=by
 have:(yaly c s).length = 1:=by rw [ycRy,h]
 rw [yhBy] at this ⊢
 cases hc:(cutB c s).2.2 with
 | false=>rfl
 | true =>
  rw [hc,cond_true,List.length_cons] at this
  have h2:=yi3y c (cutB c s).2.1
  have:=List.length_pos_iff.2 h2
  omega
theorem ylIy (c:UInt8):∀ (m:Nat) (s:List UInt8) (n i:Nat) (done:List (List UInt8)),s.count c = m→s.length≤1000000→done.length = i→i + m≤1000000→m < n →
  ∃ last pre,yaly c s = pre++[last]∧pre.length = m∧∀ (R:Type) (e0:List UInt8→Int→List (List UInt8)→Option R),
   z25z_L11 yeky n s [c] 0 ((i + m:Nat):Int) (i:Int) (done++List.replicate (m + 1) []) e0 = e0 last ((i + m:Nat):Int) (done++(pre++[[]]))
 | _,_,0,_,_,_,_,_,_,h=>by omega
 | 0,s,n + 1,i,done,hc,hl,hd,hi,_=>by
  refine ⟨s,[],by rw [ykFy hc];rfl,rfl,fun R e0=>?_⟩
  rw [z25z_L11,decide_eq_false (show ¬ ((i:Int) < ((i + 0:Nat):Int)) by omega),cond_false]
  rfl
 | m + 1,s,n + 1,i,done,hc,hl,hd,hi,hn=>by
  have hcon:s.contains c = true:=by
   rw [List.contains_iff_mem]
   exact List.count_pos_iff.1 (by omega)
  obtain ⟨j,e1,e2,e3,e4⟩:=ydCy c s hcon
  have hcut:=ydFy c s j e3 e4
  have hdec:s = s.take j++c::s.drop (j + 1):=by
   have:=List.drop_eq_getElem_cons (l:=s) (i:=j) e2
   have hg:s[j] = c:=by rw [List.getElem?_eq_getElem e2] at e3;exact Option.some.inj e3
   rw [hg] at this
   rw [← this,List.take_append_drop]
  have hct:(s.take j).count c = 0:=by
   rw [List.count_eq_zero]
   intro h
   rw [← List.contains_iff_mem,e4] at h
   cases h
  have hcd:(s.drop (j + 1)).count c = m:=by
   have h:=congrArg (List.count c) hdec
   rw [List.count_append,List.count_cons_self,hct,hc] at h
   omega
  obtain ⟨last,pre,p1,p2,p3⟩:=ylIy c m (s.drop (j + 1)) n (i + 1) (done++[s.take j]) hcd (by rw [List.length_drop];omega) (by rw [List.length_append,hd];rfl) (by omega) (by omega)
  refine ⟨last,s.take j::pre,?_,by rw [List.length_cons,p2],fun R e0=>?_⟩
  ·rw [yhBy,hcut,cond_true,p1];rfl
  ·have h1:∀ k:Int→Option R,yeky.strings_Index s [c] k = k (j:Int):=fun k=>by rw [← e1];rfl
   have hw0:w64 ((j:Int) + 0) = (j:Int):=by rw [yaZy (by omega) (by omega)];omega
   have hw1:w64 ((j:Int) + ((([c]:List UInt8).length:Nat):Int)) = ((j + 1:Nat):Int):=yapy (show j < 4611686018427387904 by omega)
   have g1:(decide (0≤(j:Int))&&decide ((j:Int)≤(s.length:Int))) = true:=by simp;omega
   have g2:(decide (0≤((j + 1:Nat):Int))&&decide (((j + 1:Nat):Int)≤(s.length:Int))) = true:=by simp;omega
   have hlen:i < (done++List.replicate (m + 1 + 1) ([]:List UInt8)).length:=by simp;omega
   have hget:(done++List.replicate (m + 1 + 1) ([]:List UInt8))[i]? = some []:=by
    rw [List.getElem?_append_right (by omega),List.getElem?_replicate,if_pos (by omega)]
   rw [z25z_L11,decide_eq_true (show ((i:Int) < ((i + (m + 1):Nat):Int)) by omega),cond_true,h1,decide_eq_false (show ¬ ((j:Int) < 0) by omega),cond_false,hw0,g1,cond_true,yd6y hlen,ycyy hget,hw1,g2,cond_true,yapy (show i < 4611686018427387904 by omega),ynoy]
   have hset:(done++List.replicate (m + 1 + 1) ([]:List UInt8)).set i (s.take j) = (done++[s.take j])++List.replicate (m + 1) []:=by
    rw [List.replicate_succ,← hd,ynky,List.append_assoc];rfl
   have hi':((j:Int)).toNat = j:=by omega
   have hi2:(((j + 1:Nat):Int)).toNat = j + 1:=by omega
   rw [hi',hi2,hset,show i + (m + 1) = i + 1 + m by omega,p3,List.append_assoc];rfl
theorem yrmy {s:List UInt8} (c:UInt8) (hl:s.length≤900000) (R:Type) (k:List (List UInt8)→Option R):z56z s [c] k = k (yaly c s):=by
 have hcl:s.count c≤s.length:=List.count_le_length
 have h1:∀ k:Int→Option R,yeky.strings_Count s [c] k = k ((s.count c:Nat):Int):=fun k=>rfl
 obtain ⟨last,pre,p1,p2,p3⟩:=ylIy c (s.count c) s NN 0 [] rfl (by omega) rfl (by omega) (by have:=NN_ok;omega)
 have hw1:w64 ((s.length:Int) + 1) = ((s.length + 1:Nat):Int):=yapy (by omega)
 have hw2:w64 (((s.count c:Nat):Int) + 1) = ((s.count c + 1:Nat):Int):=yapy (by omega)
 have hmin:(if ((s.length + 1:Nat):Int) < ((s.count c + 1:Nat):Int) then ((s.length + 1:Nat):Int) else ((s.count c + 1:Nat):Int)) = ((s.count c + 1:Nat):Int):=if_neg (by omega)
 have hw3:w64 (((s.count c + 1:Nat):Int) - 1) = ((s.count c:Nat):Int):=by rw [yf9y (by omega) (by omega)];rfl
 have g1:(decide (0≤((s.count c + 1:Nat):Int))&&(decide (((s.count c + 1:Nat):Int)≤((s.count c + 1:Nat):Int))&&decide (((s.count c + 1:Nat):Int) * (16:Nat)≤140737488355328))) = true:=by simp;omega
 show z25z_ yeky s [c] 0 (-1) k = _
 unfold z25z_
 have e0:((-1:Int) == 0) = false:=rfl
 have e1:(([c]:List UInt8) == []) = false:=rfl
 have e2:decide ((-1:Int) < 0) = true:=rfl
 rw [e0,e1,e2,cond_false,cond_false,cond_true,h1,hw1,hw2,hmin,g1,cond_true,hw3]
 have hrep:(((s.count c + 1:Nat):Int)).toNat = s.count c + 1:=by omega
 rw [hrep]
 have:=p3 R (fun e16 e17 e18=>(inr e18 e17 (at_ e18 e17 fun x19=>(bif (decide (0≤(w64 (e17 + 1)))&&decide ((w64 (e17 + 1))≤((set_ e18 e17 e16).length:Int))) then k ((set_ e18 e17 e16).take ((w64 (e17 + 1)):Int).toNat) else none))))
 rw [Nat.zero_add,List.nil_append,List.nil_append] at this
 refine this.trans ?_
 have hlen:s.count c < (pre++[([]:List UInt8)]).length:=by simp;omega
 have hget:(pre++[([]:List UInt8)])[s.count c]? = some []:=by rw [← p2];simp
 have hset:(pre++[([]:List UInt8)]).set (s.count c) last = yaly c s:=by
  rw [← p2,ynky,p1]
 rw [yd6y hlen,ycyy hget,hw2,ynoy,hset]
 have hsl:(yaly c s).length = s.count c + 1:=ycRy c s
 have g2:(decide (0≤((s.count c + 1:Nat):Int))&&decide (((s.count c + 1:Nat):Int)≤((yaly c s).length:Int))) = true:=by rw [hsl];simp;omega
 rw [g2,cond_true,hrep,List.take_of_length_le (by omega)]
def idxG (x:List UInt8):List (List UInt8)→Int
 | []=>-1
 | y::ys=>if x == y then 0 else if idxG x ys == -1 then -1 else idxG x ys + 1
theorem yn4y (x:List UInt8):∀ l,-1≤idxG x l∧idxG x l < (l.length:Int)
 | []=>by simp [idxG]
 | y::ys=>by
  have ih:=yn4y x ys
  unfold idxG
  split
  ·refine ⟨by omega,?_⟩;rw [List.length_cons];omega
  ·split
   ·simp;omega
   ·simp;omega
theorem yxKy (x:List UInt8):∀ l,decide (idxG x l ≥ 0) = l.contains x
 | []=>rfl
 | y::ys=>by
  have ih:=yxKy x ys
  have hge:=yn4y x ys
  rw [List.contains_cons]
  unfold idxG
  cases hxy:x == y with
  | true=>rfl
  | false =>
   rw [Bool.false_or,← ih]
   simp only [Bool.false_eq_true,if_false]
   cases h1:idxG x ys == -1 with
   | true=>rw [beq_iff_eq.1 h1];rfl
   | false =>
    have:=beq_eq_false_iff_ne.1 h1
    simp only [Bool.false_eq_true,if_false]
    rw [decide_eq_true (show idxG x ys + 1 ≥ 0 by omega),decide_eq_true (show idxG x ys ≥ 0 by omega)]
theorem yqny (x:List UInt8) (d:List (List UInt8)) (hl:d.length≤1000000):∀ (xs:List (List UInt8)) (n i:Nat),d.drop i = xs→xs.length < n→∀ (R:Type) (e0:Int→Option R) (e1:Option R),
  z14z_L2 NN n d x (d.length:Int) (i:Int) e0 e1 = bif idxG x xs == -1 then e1 else e0 ((i:Int) + idxG x xs)
 | _,0,_,_,h,_,_,_=>by omega
 | [],n + 1,i,h,_,R,e0,e1=>by rw [z14z_L2,ya2y h];rfl
 | y::ys,n + 1,i,h,hn,R,e0,e1=>by
  have h':=yavy h
  have hlt:=h'.2.1
  have ih:=yqny x d hl ys n (i + 1) h'.2.2.1 (Nat.lt_of_succ_lt_succ (by simpa only [List.length_cons] using hn)) R e0 e1
  rw [z14z_L2,yaYy h,cond_true,yaPy h,yapy (show i < 4611686018427387904 by omega),ih]
  have hge:=yn4y x ys
  show _ = bif (if x == y then (0:Int) else if idxG x ys == -1 then -1 else idxG x ys + 1) == -1 then e1 else e0 ((i:Int) + if x == y then (0:Int) else if idxG x ys == -1 then -1 else idxG x ys + 1)
  cases x == y with
  | true =>
   rw [cond_true,if_pos rfl,show ((0:Int) == -1) = false from rfl,cond_false]
   congr 1
  | false =>
   simp only [cond_false,Bool.false_eq_true,if_false]
   cases h1:idxG x ys == -1 with
   | true=>rfl
   | false =>
    have:=beq_eq_false_iff_ne.1 h1
    have h2:(idxG x ys + 1 == -1) = false:=beq_eq_false_iff_ne.2 (by omega)
    simp only [cond_false,Bool.false_eq_true,if_false]
    rw [h2,cond_false]
    congr 1
    omega
theorem yd3y (x:List UInt8) (d:List (List UInt8)) (hl:d.length≤1000000) (R:Type) (k:Int→Option R):z14z d x k = k (idxG x d):=by
 show z14z_L2 NN NN d x (d.length:Int) ((0:Nat):Int) (fun e=>k e) (k (-1)) = _
 refine (yqny x d hl d NN 0 rfl (by have:=NN_ok;omega) R _ _).trans ?_
 cases h:idxG x d == -1 with
 | true=>rw [beq_iff_eq.1 h];rfl
 | false =>
  rw [cond_false]
  congr 1
  omega
theorem yq2y (d:List (List UInt8)) (hl:d.length≤1000000):∀ (xs:List (List UInt8)) (n i:Nat),d.drop i = xs→xs.length < n→∀ (R:Type) (e0:Bool→List (List UInt8)→Option R) (e1:List (List UInt8)→Option R),
  yciy ybVy n (d.length:Int) (i:Int) d e0 e1 = bif xs.contains [] then e0 false d else e1 d
 | _,0,_,_,h,_,_,_=>by omega
 | [],n + 1,i,h,_,R,e0,e1=>by rw [yciy,ya2y h];rfl
 | y::ys,n + 1,i,h,hn,R,e0,e1=>by
  have h':=yavy h
  have hlt:=h'.2.1
  have ih:=yq2y d hl ys n (i + 1) h'.2.2.1 (Nat.lt_of_succ_lt_succ (by simpa only [List.length_cons] using hn)) R e0 e1
  rw [yciy,yaYy h,cond_true,ytYy h,ycyy h'.1,yapy (show i < 4611686018427387904 by omega),ih,List.contains_cons]
  have hc:(([]:List UInt8) == y) = (y == []):=by cases y <;> rfl
  rw [hc]
  cases y == [] <;> rfl
def ygty (s:List UInt8):Bool:=!(yaly 32 s).contains []
theorem youy {s:List UInt8} (hl:s.length≤900000) (R:Type) (k:List (List UInt8)→Bool→Option R):kit_Words s k = bif ygty s then k (yaly 32 s) true else k [] false:=by
 have h1:∀ k:List (List UInt8)→Option R,ybVy.z56z s [32] k = k (yaly 32 s):=fun k=>yrmy 32 hl R k
 have hsl:(yaly 32 s).length = s.count 32 + 1:=ycRy 32 s
 have hcl:s.count 32≤s.length:=List.count_le_length
 show ybVy.z56z s [32] _ = _
 rw [h1]
 refine (yq2y (yaly 32 s) (by omega) (yaly 32 s) NN 0 rfl (by have:=NN_ok;omega) R _ _).trans ?_
 unfold ygty
 cases (yaly 32 s).contains [] <;> rfl
theorem yBby {s:List UInt8} (hl:s.length≤900000) (R:Type) (k:List (List UInt8)→Bool→Option R):Q_Words s k = k (yaly 32 s) (ygty s):=by
 have hsl:(yaly 32 s).length = s.count 32 + 1:=ycRy 32 s
 have hcl:s.count 32≤s.length:=List.count_le_length
 have h1:∀ k:List (List UInt8)→Option R,ygSy.z56z s [32] k = k (yaly 32 s):=fun k=>yrmy 32 hl R k
 have h2:∀ k:Bool→Option R,ygSy.z42z (yaly 32 s) [] k = k ((yaly 32 s).contains []):=fun k=>by
  have h3:∀ k:Int→Option R,yrgy.z14z (yaly 32 s) [] k = k (idxG [] (yaly 32 s)):=fun k=>yd3y [] _ (by omega) R k
  show yrgy.z14z (yaly 32 s) [] _ = _
  rw [h3,yxKy]
 show ygSy.z56z s [32] _ = _
 rw [h1,h2]
 rfl
def ybNy (s:List UInt8):Bool:=s.getLast? == some 10
def chop (s:List UInt8):List UInt8:=if ybNy s then s.dropLast else s
theorem yw5y {s:List UInt8} (hl:s.length≤1000000) (R:Type) (k:List UInt8→Bool→Option R):z65z s [10] k = k (chop s) (ybNy s):=by
 cases hs:s with
 | nil=>rfl
 | cons b l =>
  rw [← hs]
  have hlen:1≤s.length:=by rw [hs];simp
  have hw:w64 ((s.length:Int) - ((([10]:List UInt8).length:Nat):Int)) = ((s.length - 1:Nat):Int):=yf9y (by omega) (by omega)
  have g1:decide ((s.length:Int) ≥ ((([10]:List UInt8).length:Nat):Int)) = true:=by simp;omega
  have g2:(decide (0≤((s.length - 1:Nat):Int))&&decide (((s.length - 1:Nat):Int)≤(s.length:Int))) = true:=by rw [decide_eq_true (by omega),decide_eq_true (by omega)];rfl
  have hto:(((s.length - 1:Nat):Int)).toNat = s.length - 1:=by omega
  have hdrop:(s.drop (s.length - 1) == [10]) = ybNy s:=by
   unfold ybNy
   have hne:s≠[]:=by rw [hs];exact List.cons_ne_nil _ _
   have hsp:s = s.dropLast++[s.getLast hne]:=(List.dropLast_concat_getLast hne).symm
   have hd:s.drop (s.length - 1) = [s.getLast hne]:=by
    conv=>lhs;rw [hsp]
    rw [List.drop_append]
    simp
   rw [hd,List.getLast?_eq_some_getLast hne]
   simp
  have h1:∀ k:Bool→Option R,yp0y.z66z s [10] k = k (ybNy s):=fun k=>by
   show z66z_ NN s [10] k = _
   unfold z66z_
   rw [g1,cond_true,hw,g2,cond_true,hto,hdrop]
  show z50z_ yp0y s [10] k = _
  unfold z50z_ chop
  rw [h1,hw,g2,cond_true,hto]
  cases ybNy s with
  | false=>rfl
  | true =>
   rw [Bool.not_true,cond_false,if_pos rfl,List.dropLast_eq_take]
def ybpy (s:List UInt8):List (List UInt8):=if s == [] then [] else yaly 10 (chop s)
def endG (s:List UInt8):Bool:=s == [] || ybNy s
theorem yo8y (s:List UInt8):(chop s).length≤s.length:=by
 unfold chop;split
 ·rw [List.length_dropLast];omega
 ·exact Nat.le_refl _
theorem yxuy {s:List UInt8} (hl:s.length≤900000) (R:Type) (k:List (List UInt8)→Bool→Option R):kit_Lines s k = k (ybpy s) (endG s):=by
 have h1:∀ k:List UInt8→Bool→Option R,yety.z65z s [10] k = k (chop s) (ybNy s):=fun k=>yw5y (by omega) R k
 have h2:∀ k:List (List UInt8)→Option R,yety.z56z (chop s) [10] k = k (yaly 10 (chop s)):=fun k=>yrmy 10 (by have:=yo8y s;omega) R k
 show yhCy yety s k = _
 unfold yhCy ybpy endG
 rw [h1,h2]
 cases s == [] <;> rfl
def goG {α:Type} (f:List UInt8→Option α) (ended:Bool):Nat→List (List UInt8)→List α→Sum Nat (List α)
 | _,[],acc=>.inr acc
 | i,l::ls,acc=>match (if !ended&&ls == [] then none else f l) with
  | none=>.inl i
  | some a=>goG f ended (i + 1) ls (acc++[a])
theorem yiny {α:Type} (f:List UInt8→Option α) (ended:Bool) (i:Nat) (l:List UInt8) (ls:List (List UInt8)) (acc:List α):goG f ended i (l::ls) acc = match (if !ended&&ls == [] then none else f l) with
  | none=>.inl i
  | some a=>goG f ended (i + 1) ls (acc++[a]):=rfl
def goQ {α:Type} (f:List UInt8→Option α):Nat→Nat→List UInt8→List α→Sum Nat (List α)
 | 0,i,_,_=>.inl i
 | n + 1,i,t,acc=>if t == [] then .inr acc else if !(cutB 10 t).2.2 then .inl i else match f (cutB 10 t).1 with
  | none=>.inl i
  | some a=>goQ f n (i + 1) (cutB 10 t).2.1 (acc++[a])
theorem yCDy (t:List UInt8) (h:(cutB 10 t).2.2 = true):t = (cutB 10 t).1++10::(cutB 10 t).2.1:=by
 rw [yocy] at h
 obtain ⟨j,e1,e2,e3,e4⟩:=ydCy 10 t h
 rw [ydFy 10 t j e3 e4]
 have:=List.drop_eq_getElem_cons (l:=t) (i:=j) e2
 have hg:t[j] = 10:=by rw [List.getElem?_eq_getElem e2] at e3;exact Option.some.inj e3
 rw [hg] at this
 show t = t.take j++10::t.drop (j + 1)
 rw [← this,List.take_append_drop]
theorem yIKy (t:List UInt8):(cutB 10 t).1.contains 10 = false:=by
 cases h:t.contains 10 with
 | false=>rw [yg9y 10 t h];exact h
 | true =>
  obtain ⟨j,e1,e2,e3,e4⟩:=ydCy 10 t h
  rw [ydFy 10 t j e3 e4]
  exact e4
theorem yFiy {a b:List UInt8} (h:a.contains 10 = false):cutB 10 (a++10::b) = (a,b,true):=by
 have:=ydFy 10 (a++10::b) a.length (by simp) (by rw [List.take_left'];exact h;rfl)
 rw [this]
 simp
theorem goQ_G {α:Type} (f:List UInt8→Option α):∀ (n i:Nat) (t:List UInt8) (acc:List α),t.length < n→goQ f n i t acc = goG f (endG t) i (ybpy t) acc
 | 0,_,_,_,h=>by omega
 | n + 1,i,t,acc,h=>by
  cases ht:t == [] with
  | true =>
   rw [beq_iff_eq.1 ht];rfl
  | false =>
   have hne:t≠[]:=beq_eq_false_iff_ne.1 ht
   have hL:ybpy t = yaly 10 (chop t):=by unfold ybpy;rw [ht];rfl
   have hE:endG t = ybNy t:=by unfold endG;rw [ht];rfl
   rw [goQ,ht,hL,hE,if_neg (by decide)]
   cases hc:(cutB 10 t).2.2 with
   | false =>
    have hcon:t.contains 10 = false:=by rw [← yocy];exact hc
    have hend:ybNy t = false:=by
     unfold ybNy
     rw [beq_eq_false_iff_ne]
     intro hl
     have:=List.mem_of_getLast? hl
     rw [← List.contains_iff_mem,hcon] at this
     cases this
    have hchop:chop t = t:=by unfold chop;rw [hend];rfl
    have hcnt:t.count 10 = 0:=by
     rw [List.count_eq_zero];intro hm
     rw [← List.contains_iff_mem,hcon] at hm;cases hm
    rw [hchop,ykFy hcnt,hend,yiny]
    rfl
   | true =>
    rw [if_neg (by decide)]
    have hback:=yCDy t hc
    have hno:=yIKy t
    have hlen:=(yiay 10 t).2 hc
    generalize (cutB 10 t).1 = a at *
    generalize (cutB 10 t).2.1 = b at *
    subst hback
    cases hb:b == [] with
    | true =>
     have:=beq_iff_eq.1 hb
     subst this
     have hend:ybNy (a++[10]) = true:=by unfold ybNy;simp
     have hchop:chop (a++[10]) = a:=by unfold chop;rw [hend];simp
     have hcnt:a.count 10 = 0:=by
      rw [List.count_eq_zero];intro hm
      rw [← List.contains_iff_mem,hno] at hm;cases hm
     rw [hchop,ykFy hcnt,hend,yiny]
     show _ = match f a with | none=>_ | some x=>_
     cases f a with
     | none=>rfl
     | some x =>
      show goQ f n (i + 1) [] _ = _
      cases n with
      | zero=>omega
      | succ n=>rfl
    | false =>
     have hbne:b≠[]:=beq_eq_false_iff_ne.1 hb
     have hend:ybNy (a++10::b) = ybNy b:=by
      unfold ybNy
      rw [List.getLast?_append,List.getLast?_cons]
      cases hg:b.getLast? with
      | none=>exact absurd (List.getLast?_eq_none_iff.1 hg) hbne
      | some x=>rfl
     have hchop:chop (a++10::b) = a++10::chop b:=by
      unfold chop
      rw [hend]
      cases ybNy b with
      | false=>rfl
      | true =>
       rw [if_pos rfl,if_pos rfl,List.dropLast_append_of_ne_nil (List.cons_ne_nil _ _),List.dropLast_cons_of_ne_nil hbne]
     have hsp:yaly 10 (chop (a++10::b)) = a::yaly 10 (chop b):=by
      rw [hchop,yhBy,yFiy hno];rfl
     have ih:=fun acc=>goQ_G f n (i + 1) b acc (by omega)
     have hLb:ybpy b = yaly 10 (chop b):=by unfold ybpy;rw [hb];rfl
     have hEb:endG b = ybNy b:=by unfold endG;rw [hb];rfl
     rw [hsp,hend,yiny]
     have hnn:(yaly 10 (chop b) == []) = false:=beq_eq_false_iff_ne.2 (yi3y _ _)
     rw [hnn,Bool.and_false]
     show _ = match f a with | none=>_ | some x=>_
     cases f a with
     | none=>rfl
     | some x =>
      show goQ f n (i + 1) b _ = goG f (ybNy b) (i + 1) (yaly 10 (chop b)) _
      rw [ih,hLb,hEb]
theorem ypGy (s:List UInt8):(ybpy s).length≤s.length + 1:=by
 unfold ybpy
 split
 ·simp
 ·have h1:(yaly 10 (chop s)).length = (chop s).count 10 + 1:=ycRy 10 _
  have h2:(chop s).count 10≤(chop s).length:=List.count_le_length
  have h3:=yo8y s
  omega
theorem ypFy (s:List UInt8):∀ l∈ybpy s,l.length≤s.length∧∀ x∈l,x∈s:=by
 intro l h
 unfold ybpy at h
 split at h
 ·cases h
 ·have h1:=ykTy 10 _ l h
  have h2:=yo8y s
  refine ⟨by omega,fun x hx=>?_⟩
  have:=(yk3y 10 _ l h x hx).1
  unfold chop at this
  split at this
  ·exact List.dropLast_subset _ this
  ·exact this
end Go.Am
set_option linter.unusedVariables false
set_option linter.unusedSectionVars false
set_option linter.unusedSimpArgs false
set_option maxRecDepth 100000
namespace Go.Am
open Go Go.Proofs
variable [Fuel]
abbrev Wide (x:Int):Prop:=-1000000000000000000≤x∧x≤1000000000000000000
theorem yusy {a b:Int} (h1:Wide a) (h2:Wide b):sgn (w64 (a - b)) = cmpI a b:=by
 rw [yaZy (by omega) (by omega)]
 unfold sgn cmpI
 by_cases h1:a < b
 ·have:a - b < 0:=by omega
  simp [h1,this]
 ·have g1:¬ a - b < 0:=by omega
  by_cases h2:a > b
  ·have:a - b > 0:=by omega
   simp [h1,h2,g1,this]
  ·have:¬ a - b > 0:=by omega
   simp [h1,h2,g1,this]
theorem ycdy {s:List UInt8} (hl:s.length≤1000000) (R:Type) (k:Bool→Option R):kit_IsKey s k = k (keyB s):=by
 have e:keyB s = keyG s:=by unfold keyB;rw [ygBy hl];rfl
 rw [ygBy hl,e]
theorem yeby {s:List UInt8} (hl:s.length≤1000000) (R:Type) (k:Bool→Option R):Q_Key s k = k (keyB s):=by
 have e:keyB s = keyG s:=by unfold keyB;rw [ygBy hl];rfl
 rw [yGpy hl,e]
theorem ymwy {s:List UInt8} (hl:s.length≤1000000) (R:Type) (k:Bool→Option R):kit_IsName s k = k (nameB s):=by
 have h1:∀ k:Bool→Option R,ydSy.kit_IsKey s k = k (keyB s):=fun k=>ycdy hl R k
 show yeBy ydSy s k = _
 unfold yeBy nameB
 rw [h1]
 cases s == [] <;> rfl
theorem yBTy {s:List UInt8} (hl:s.length≤1000000) (R:Type) (k:Bool→Option R):call_Is s k = k (callB s):=by
 have e:callB s = callG s:=by unfold callB;rw [ymAy hl];rfl
 rw [ymAy hl,e]
theorem yEly {s:List UInt8} (hs:ascB s) (hl:s.length≤1000000) (R:Type) (k:Bool→Option R):Q_Call s k = k (callB s):=by
 have e:callB s = callG s:=by unfold callB;rw [ymAy hl];rfl
 rw [yDAy hs hl,e]
structure FineW (c:G_Contact):Prop where
 at1:Wide c.f_At
 mode:Wide c.f_Mode
 sent:Wide c.f_Sent
 heard:Wide c.f_Heard
 band:c.f_Band.length≤1000000
 call:c.f_Call.length≤1000000
 calla:ascB c.f_Call
 gave:c.f_Gave.length≤1000000
 got:c.f_Got.length≤1000000
theorem z52z_W {c:G_Contact} (h:FineW c) (R:Type) (k:Int→Option R):z52z c k = k (chk c):=by
 simp only [z52z,z52z_,ypSy,chk,z55z_is,ylyy,z39z_is,ycdy h.band,yBTy h.call,ymwy h.gave,ymwy h.got]
 cases momB c.f_At <;> cases inB c.f_Mode 1 3 <;> cases keyB c.f_Band <;> cases callB c.f_Call <;> cases inB c.f_Sent 0 99999 <;> cases inB c.f_Heard 0 99999 <;> cases nameB c.f_Gave <;> cases nameB c.f_Got <;> rfl
theorem z58z_W {c:G_Contact} (h:FineW c) (R:Type) (k:Int→Option R):z58z c k = k (chk c):=by
 simp only [z58z,z58z_,ypxy,chk,ycEy,ye5y,yeby h.band,yEly h.calla h.call,yeby h.gave,yeby h.got,nameB]
 cases momB c.f_At <;> cases inB c.f_Mode 1 3 <;> cases keyB c.f_Band <;> cases callB c.f_Call <;> cases inB c.f_Sent 0 99999 <;> cases inB c.f_Heard 0 99999 <;> cases c.f_Gave == [] <;> cases keyB c.f_Gave <;> cases c.f_Got == [] <;> cases keyB c.f_Got <;> rfl
def numB (s:List UInt8):Bool:=(numG s).isSome
theorem yqCy {s:List UInt8}:numG s = if numB s then some (numQ s) else none:=by
 unfold numB
 cases h:numG s with
 | none=>rfl
 | some n=>rw [yJsy h];rfl
theorem ympy (d:List (List UInt8)) (hd:∀ w∈d,w.length≤1000000) (hl:d.length≤1000):∀ (xs:List (List UInt8)) (n i:Nat) (acc:List Int),d.drop i = xs→xs.length < n→acc.length≤i→∀ (R:Type) (e0:Bool→Option R) (e1:List Int→Option R),
  z37z_L3 yg8y n d (d.length:Int) (i:Int) acc (fun b _=>e0 b) e1 = bif xs.all numB then e1 (acc++xs.map numQ) else e0 false
 | _,0,_,_,_,h,_,_,_,_=>by omega
 | [],n + 1,i,acc,h,_,_,R,e0,e1=>by
  rw [z37z_L3,ya2y h,List.map_nil,List.append_nil];rfl
 | w::ws,n + 1,i,acc,h,hn,ha,R,e0,e1=>by
  have h':=yavy h
  have hlt:=h'.2.1
  have ih:=ympy d hd hl ws n (i + 1) (acc++[numQ w]) h'.2.2.1 (Nat.lt_of_succ_lt_succ (by simpa only [List.length_cons] using hn)) (by simp;omega) R e0 e1
  have hN:∀ k:Int→Bool→Option R,yg8y.kit_Number w 15 k = (numG w).elim (k 0 false) fun n=>k n true:=fun k=>ymXy (hd w (ybOy h)) R k
  rw [z37z_L3,yaYy h,cond_true,yaPy h,hN,List.all_cons,yqCy]
  cases numB w with
  | false=>rfl
  | true =>
   show (bif !true then e0 false else bif decide ((acc.length + [numQ w].length) * 8≤yaey) then _ else none) = _
   rw [Bool.not_true,cond_false,room1 acc _ 8 (by omega) (by omega),cond_true,yapy (show i < 4611686018427387904 by omega),ih,List.append_assoc];rfl
theorem z37z_g {d:List (List UInt8)} (hd:∀ w∈d,w.length≤1000000) (hl:d.length≤1000) (R:Type) (k:List Int→Bool→Option R):z37z d k = bif d.all numB then k (d.map numQ) true else k [] false:=by
 exact ympy d hd hl d NN 0 [] rfl (by have:=NN_ok;omega) (Nat.zero_le _) R (fun b=>k [] b) (fun e=>k e true)
theorem ylEy (d:List (List UInt8)) (hd:∀ w∈d,w.length≤1000000) (hl:d.length≤1000):∀ (xs:List (List UInt8)) (n i:Nat) (b:Bool) (acc:List Int),d.drop i = xs→xs.length < n→acc.length≤i→∀ (R:Type) (e0:Bool→List Int→Option R),
  z36z_L4 ygQy n 15 b d (d.length:Int) (i:Int) acc e0 = e0 (b&&xs.all numB) (acc++xs.map numQ)
 | _,0,_,_,_,_,h,_,_,_=>by omega
 | [],n + 1,i,b,acc,h,_,_,R,e0=>by
  rw [z36z_L4,ya2y h,List.map_nil,List.append_nil,List.all_nil,Bool.and_true];rfl
 | w::ws,n + 1,i,b,acc,h,hn,ha,R,e0=>by
  have h':=yavy h
  have hlt:=h'.2.1
  have ih:=fun b=>ylEy d hd hl ws n (i + 1) b (acc++[numQ w]) h'.2.2.1 (Nat.lt_of_succ_lt_succ (by simpa only [List.length_cons] using hn)) (by simp;omega) R e0
  have hN:∀ k:Int→Bool→Option R,ygQy.Q_Number w 15 k = k (numQ w) (numB w):=fun k=>ypVy (hd w (ybOy h)) R k
  rw [z36z_L4,yaYy h,cond_true,yaPy h,hN,room1 acc _ 8 (by omega) (by omega),cond_true,yapy (show i < 4611686018427387904 by omega),ih,ih,List.all_cons,List.append_assoc]
  cases b <;> cases numB w <;> rfl
theorem z36z_g {d:List (List UInt8)} (hd:∀ w∈d,w.length≤1000000) (hl:d.length≤1000) (R:Type) (k:List Int→Bool→Option R):z36z d 15 k = k (d.map numQ) (d.all numB) :=
 ylEy d hd hl d NN 0 true [] rfl (by have:=NN_ok;omega) (Nat.zero_le _) R (fun e15 e16=>k e16 e15)
def yaHy:List (List UInt8):=[[],[99,111,100,101],[118,111,105,99,101],[100,97,116,97]]
def ybqy (s:List UInt8):List UInt8:=if s == [45] then [] else s
theorem ym4y (s:List UInt8) (R:Type) (k:List UInt8→Option R):kit_Undash s k = k (ybqy s):=by
 show ygMy NN s k = _
 unfold ygMy ybqy
 cases s == [45] <;> rfl
theorem ypZy (s:List UInt8) (R:Type) (k:List UInt8→Option R):Q_undash s k = k (ybqy s):=by
 show yiSy NN s k = _
 unfold yiSy ybqy
 cases s == [45] <;> rfl
def contQ:List (List UInt8)→G_Contact
 | [w0,w1,w2,w3,w4,w5,w6,w7]=>⟨numQ w0,idxG w1 yaHy,w2,w3,numQ w4,numQ w6,ybqy w5,ybqy w7⟩
 | _=>⟨0,0,[],[],0,0,[],[]⟩
def contB:List (List UInt8)→Bool
 | [w0,w1,w2,w3,w4,w5,w6,w7]=>[w0,w4,w6].all numB&&decide (idxG w1 yaHy > 0)
 | _=>false
theorem eight {ws:List (List UInt8)}:(((ws.length:Int) != 8) = true∧contB ws = false∧contQ ws = ⟨0,0,[],[],0,0,[],[]⟩) ∨ ∃ w0 w1 w2 w3 w4 w5 w6 w7,ws = [w0,w1,w2,w3,w4,w5,w6,w7]:=by
 match ws with
 | [w0,w1,w2,w3,w4,w5,w6,w7]=>exact .inr ⟨w0,w1,w2,w3,w4,w5,w6,w7,rfl⟩
 | []=>exact .inl ⟨rfl,rfl,rfl⟩
 | [_]=>exact .inl ⟨rfl,rfl,rfl⟩
 | [_,_]=>exact .inl ⟨rfl,rfl,rfl⟩
 | [_,_,_]=>exact .inl ⟨rfl,rfl,rfl⟩
 | [_,_,_,_]=>exact .inl ⟨rfl,rfl,rfl⟩
 | [_,_,_,_,_]=>exact .inl ⟨rfl,rfl,rfl⟩
 | [_,_,_,_,_,_]=>exact .inl ⟨rfl,rfl,rfl⟩
 | [_,_,_,_,_,_,_]=>exact .inl ⟨rfl,rfl,rfl⟩
 | _::_::_::_::_::_::_::_::_::l=>exact .inl ⟨by rw [bne_iff_ne];simp only [List.length_cons];omega,rfl,rfl⟩
theorem z61z_g {ws:List (List UInt8)} (hd:∀ w∈ws,w.length≤1000000) (R:Type) (k:G_Contact→Bool→Option R):z61z ws k = bif contB ws then k (contQ ws) true else k ⟨0,0,[],[],0,0,[],[]⟩ false:=by
 show z61z_ ydQy ws k = _
 unfold z61z_
 rcases eight (ws:=ws) with ⟨h1,h2,h3⟩ | ⟨w0,w1,w2,w3,w4,w5,w6,w7,rfl⟩
 ·rw [h1,h2];rfl
 ·have n1:∀ k:Int→Option R,ydQy.z14z yaHy w1 k = k (idxG w1 yaHy):=fun k=>yd3y w1 yaHy (by decide) R k
  have n2:∀ k:List Int→Bool→Option R,ydQy.z37z [w0,w4,w6] k = bif [w0,w4,w6].all numB then k [numQ w0,numQ w4,numQ w6] true else k [] false:=fun k=>z37z_g (d:=[w0,w4,w6]) (fun w hw=>by
   simp only [List.mem_cons,List.not_mem_nil,or_false] at hw
   rcases hw with rfl | rfl | rfl <;> exact hd _ (by simp)) (by simp) R k
  have n3:∀ k:List UInt8→Option R,ydQy.kit_Undash w5 k = k (ybqy w5):=fun k=>ym4y w5 R k
  have n4:∀ k:List UInt8→Option R,ydQy.kit_Undash w7 k = k (ybqy w7):=fun k=>ym4y w7 R k
  show ydQy.z14z yaHy w1 (fun r4=>ydQy.z37z [w0,w4,w6] fun r8 r9=>_) = _
  rw [n1,n2]
  have eB:contB [w0,w1,w2,w3,w4,w5,w6,w7] = ([w0,w4,w6].all numB&&decide (idxG w1 yaHy > 0)):=rfl
  have eQ:contQ [w0,w1,w2,w3,w4,w5,w6,w7] = ⟨numQ w0,idxG w1 yaHy,w2,w3,numQ w4,numQ w6,ybqy w5,ybqy w7⟩:=rfl
  rw [eB,eQ]
  cases [w0,w4,w6].all numB with
  | false=>rfl
  | true =>
   rw [cond_true,Bool.not_true,cond_false,Bool.true_and]
   have hidx:decide (idxG w1 yaHy > 0) = !decide (idxG w1 yaHy < 1):=by
    by_cases h:idxG w1 yaHy < 1
    ·rw [decide_eq_true h,decide_eq_false (by omega)];rfl
    ·rw [decide_eq_false h,decide_eq_true (by omega)];rfl
   rw [hidx]
   cases decide (idxG w1 yaHy < 1) with
   | true=>rfl
   | false =>
    show ydQy.kit_Undash w5 (fun r17=>ydQy.kit_Undash w7 fun r18=>k ⟨numQ w0,idxG w1 yaHy,w2,w3,numQ w4,numQ w6,r17,r18⟩ true) = _
    rw [n3,n4];rfl
theorem z72z_g {ws:List (List UInt8)} (hd:∀ w∈ws,w.length≤1000000) (R:Type) (k:G_Contact→Bool→Option R):z72z ws k = k (contQ ws) (contB ws):=by
 show z72z_ ydIy ws k = _
 unfold z72z_
 rcases eight (ws:=ws) with ⟨h1,h2,h3⟩ | ⟨w0,w1,w2,w3,w4,w5,w6,w7,rfl⟩
 ·rw [h1,h2,h3];rfl
 ·have n1:∀ k:Int→Option R,ydIy.z14z yaHy w1 k = k (idxG w1 yaHy):=fun k=>yd3y w1 yaHy (by decide) R k
  have n2:∀ k:List Int→Bool→Option R,ydIy.z36z [w0,w4,w6] 15 k = k [numQ w0,numQ w4,numQ w6] ([w0,w4,w6].all numB):=fun k=>z36z_g (d:=[w0,w4,w6]) (fun w hw=>by
   simp only [List.mem_cons,List.not_mem_nil,or_false] at hw
   rcases hw with rfl | rfl | rfl <;> exact hd _ (by simp)) (by simp) R k
  have n3:∀ k:List UInt8→Option R,ydIy.Q_undash w5 k = k (ybqy w5):=fun k=>ypZy w5 R k
  have n4:∀ k:List UInt8→Option R,ydIy.Q_undash w7 k = k (ybqy w7):=fun k=>ypZy w7 R k
  show ydIy.z36z [w0,w4,w6] 15 (fun r5 r6=>_) = _
  rw [n2]
  show ydIy.z14z yaHy w1 (fun r16=>ydIy.Q_undash w5 fun r17=>ydIy.Q_undash w7 fun r18=>bif [w0,w4,w6].all numB then k ⟨numQ w0,r16,w2,w3,numQ w4,numQ w6,r17,r18⟩ (decide (r16 > 0)) else k ⟨numQ w0,r16,w2,w3,numQ w4,numQ w6,r17,r18⟩ false) = _
  rw [n1,n3,n4]
  have eB:contB [w0,w1,w2,w3,w4,w5,w6,w7] = ([w0,w4,w6].all numB&&decide (idxG w1 yaHy > 0)):=rfl
  have eQ:contQ [w0,w1,w2,w3,w4,w5,w6,w7] = ⟨numQ w0,idxG w1 yaHy,w2,w3,numQ w4,numQ w6,ybqy w5,ybqy w7⟩:=rfl
  rw [eB,eQ]
  cases [w0,w4,w6].all numB <;> rfl
theorem ymzy {l:List UInt8} (hl:l.length≤1000000):∀ w∈yaly 32 l,w.length≤1000000:=fun w hw=>by have:=ykTy 32 l w hw;omega
theorem ybBy (s:List UInt8):Wide (numQ s):=by
 unfold numQ
 cases hok:numOk s with
 | false=>exact ⟨by simp,by simp⟩
 | true =>
  have h:=hok
  unfold numOk at h
  rw [Bool.and_eq_true,Bool.and_eq_true] at h
  have h15:=of_decide_eq_true h.2.1
  have hl:=yvXy s
  obtain ⟨m,hm⟩:=yjQy (numT s) 0 h.2.2
  have ha:=yj9y hok hm
  have:=Lib.decFrom_lt18 hm (by omega)
  rw [if_pos rfl,ha,Option.getD_some]
  cases ybcy s
  ·exact ⟨by simp;try omega,by simp;try omega⟩
  ·exact ⟨by simp;try omega,by simp;try omega⟩
theorem yyQy {α:Type} (f:List UInt8→Option α) (P:α→Prop) (ended:Bool):∀ (ls:List (List UInt8)) (i:Nat) (acc r:List α),(∀ l∈ls,∀ c,f l = some c→P c)→(∀ c∈acc,P c)→goG f ended i ls acc = .inr r→(∀ c∈r,P c)∧r.length≤acc.length + ls.length
 | [],i,acc,r,_,ha,h=>by
  have:acc = r:=Sum.inr.inj h
  subst this
  exact ⟨ha,Nat.le_refl _⟩
 | l::ls,i,acc,r,hf,ha,h=>by
  rw [yiny] at h
  cases hc:(if !ended&&ls == [] then none else f l) with
  | none=>rw [hc] at h;cases h
  | some a =>
   rw [hc] at h
   have hfa:f l = some a:=by
    split at hc
    ·cases hc
    ·exact hc
   have:=yyQy f P ended ls (i + 1) (acc++[a]) r (fun l' hl'=>hf l' (List.mem_cons_of_mem _ hl')) (fun c hcc=>by
    rcases List.mem_append.1 hcc with h1 | h1
    ·exact ha c h1
    ·rw [List.mem_singleton.1 h1];exact hf l (by simp) a hfa) h
   refine ⟨this.1,?_⟩
   have h2:=this.2
   simp only [List.length_append,List.length_cons,List.length_nil] at h2 ⊢
   omega
end Go.Am
set_option linter.unusedVariables false
set_option linter.unusedSectionVars false
set_option linter.unusedSimpArgs false
set_option maxRecDepth 100000
namespace Go.Am
open Go Go.Proofs
variable [Fuel]
theorem yuGy (u:Nat):ascB (Lib.decDigits u):=by
 induction u using Nat.strongRecOn with
 | _ u ih =>
  intro x hx
  rw [Lib.decDigits] at hx
  have hone:∀ d,d < 10→(UInt8.ofNat (48 + d)).toNat < 128:=by decide
  split at hx
  ·rename_i hu
   rw [List.mem_singleton] at hx
   rw [hx];exact hone u hu
  ·rcases List.mem_append.1 hx with h | h
   ·exact ih (u / 10) (by omega) x h
   ·rw [List.mem_singleton] at h
    rw [h];exact hone _ (Nat.mod_lt _ (by omega))
theorem yeQy (n:Int):ascB (Lib.itoa n):=by
 unfold Lib.itoa
 split
 ·intro x hx
  rcases List.mem_cons.1 hx with h | h
  ·rw [h];decide
  ·exact yuGy _ x h
 ·exact yuGy _
theorem ybky {n:Int} (h:Wide n):(Lib.itoa n).length≤21:=by
 have hd:∀ u,u < 10 ^ 20→(Lib.decDigits u).length≤20:=by
  have:∀ k u,u < 10 ^ (k + 1)→(Lib.decDigits u).length≤k + 1:=by
   intro k
   induction k with
   | zero =>
    intro u hu
    rw [Lib.decDigits,dif_pos (by omega)];simp
   | succ k ih =>
    intro u hu
    rw [Lib.decDigits]
    split
    ·simp
    ·rw [List.length_append]
     have:=ih (u / 10) (by rw [Nat.pow_succ] at hu;omega)
     simp;omega
  exact this 19
 have h20:(10:Nat) ^ 20 = 100000000000000000000:=by decide
 unfold Lib.itoa
 split
 ·have:=hd n.natAbs (by omega)
  simp;omega
 ·have:=hd n.toNat (by omega)
  omega
theorem ycAy {n:Int} (h:Wide n) (R:Type) (k:List UInt8→Option R):strconv_Itoa n k = k (Lib.itoa n):=by
 show (bif in64 n then k (Lib.itoa n) else none) = _
 have:in64 n = true:=by unfold in64;simp;omega
 rw [this];rfl
theorem yyny {n:Nat}:∀ {ws:List (List UInt8)},(∀ w∈ws,w.length≤n)→Lib.lens ws≤n * ws.length
 | [],_=>by simp [Lib.lens]
 | w::ws,h=>by
  have h1:=h w (by simp)
  have h2:=yyny (n:=n) (ws:=ws) fun v hv=>h v (List.mem_cons_of_mem _ hv)
  simp only [Lib.lens,List.map_cons,List.sum_cons,List.length_cons] at h2 ⊢
  rw [Nat.mul_succ]
  omega
theorem yify {n:Nat} {ws:List (List UInt8)} {sep:List UInt8} (h:∀ w∈ws,w.length≤n):(Lib.join ws sep).length≤sep.length * ws.length + n * ws.length:=by
 cases ws with
 | nil=>rw [Lib.join_nil];simp
 | cons w ws =>
  have:=yyny h
  rw [Lib.join_length]
  have h2:sep.length * ws.length≤sep.length * (w::ws).length:=Nat.mul_le_mul_left _ (by simp)
  omega
theorem ytey {ws:List (List UInt8)} {sep:List UInt8} (h:∀ w∈ws,ascB w) (hs:ascB sep):ascB (Lib.join ws sep):=by
 cases ws with
 | nil=>rw [Lib.join_nil];intro x hx;cases hx
 | cons w ws =>
  rw [Lib.join_cons]
  intro x hx
  rcases List.mem_append.1 hx with h1 | h1
  ·exact h w (by simp) x h1
  ·unfold Lib.joinTail at h1
   obtain ⟨l,hl,hxl⟩:=List.mem_flatten.1 h1
   obtain ⟨v,hv,rfl⟩:=List.mem_map.1 hl
   rcases List.mem_append.1 hxl with h2 | h2
   ·exact hs x h2
   ·exact h v (List.mem_cons_of_mem _ hv) x h2
theorem yqYy {ws:List (List UInt8)} {sep:List UInt8} (hl:ws.length≤1000) (hw:∀ w∈ws,w.length≤1000000) (hs:sep.length≤1000) (R:Type) (k:List UInt8→Option R):strings_Join ws sep k = k (Lib.join ws sep):=by
 have e:ws.map (fun x=>x) = ws:=List.map_id' ws
 have h1:=yify (sep:=sep) hw
 have h2:sep.length * ws.length≤1000 * 1000:=Nat.mul_le_mul hs hl
 have h3:1000000 * ws.length≤1000000 * 1000:=Nat.mul_le_mul_left _ hl
 show (bif decide (ws.length≤140737488355328)&&decide ((Lib.join (ws.map fun x=>x) sep).length≤140737488355328) then k (Lib.join (ws.map fun x=>x) sep) else none) = _
 rw [e,decide_eq_true (by omega),decide_eq_true (by omega)];rfl
theorem yeNy {a b:List UInt8} (ha:ascB a) (hb:ascB b):ascB (a++b):=fun x hx=>by
 rcases List.mem_append.1 hx with h | h
 ·exact ha x h
 ·exact hb x h
theorem yijy {x:UInt8} (h:x.toNat < 128):ascB [x]:=fun y hy=>by rw [List.mem_singleton.1 hy];exact h
theorem yBny {a:List UInt8} (n:Nat) (ha:ascB a):ascB (a.take n):=fun x hx=>ha x (List.mem_of_mem_take hx)
theorem ysAy {a:List UInt8} (n:Nat) (ha:ascB a):ascB (a.drop n):=fun x hx=>ha x (List.mem_of_mem_drop hx)
theorem yaxy {a b:List UInt8} (h:a.length + b.length≤9000000):strOk a b = true:=by
 unfold strOk
 exact decide_eq_true (by omega)
theorem ysKy {b:Int} {s:G_Stream} (hs:SOk b s) (hb:b≤1000000) {t ls:List UInt8} (ht:t.length≤1000000) (ha:ascB t) (hl:ls.length≤1000) (hla:ascB ls) :
  ∃ r s',r.length≤t.length + ls.length + 1∧r.length≤(if t = [] then ls.length else t.length + 1)∧ascB r∧SOk (b + 3) s'∧∀ (R:Type) (k:List UInt8→G_Stream→Option R),z54z s t ls k = k r s':=by
 cases htn:t == [] with
 | true =>
  have he:=beq_iff_eq.1 htn
  subst he
  exact ⟨ls,s,by simp,by simp,hla,hs.mono (by omega),fun R k=>rfl⟩
 | false =>
  have hne:t≠[]:=beq_eq_false_iff_ne.1 htn
  have hpos:=List.length_pos_iff.2 hne
  cases hln:ls == [] with
  | true =>
   have he:=beq_iff_eq.1 hln
   subst he
   refine ⟨[],s,by simp,by rw [if_neg hne];simp,(fun x hx=>by cases hx),hs.mono (by omega),fun R k=>?_⟩
   show z54z_ yf2y s t [] k = _
   unfold z54z_
   rw [htn];rfl
  | false =>
   have hlne:ls≠[]:=beq_eq_false_iff_ne.1 hln
   have hlpos:=List.length_pos_iff.2 hlne
   obtain ⟨i,s1,i1,i2,z1,e1⟩:=z29z_gives hs (t.length:Int) (by omega) (by omega)
   obtain ⟨j,s2,j1,j2,z2,e2⟩:=z29z_gives z1 (ls.length:Int) (by omega) (by omega)
   obtain ⟨q,s3,q1,q2,z3,e3⟩:=z29z_gives z2 3 (by omega) (by omega)
   have i2:=i2 (by omega)
   have j2:=j2 (by omega)
   obtain ⟨m,rfl⟩:∃ m:Nat,i = (m:Int):=⟨i.toNat,by omega⟩
   obtain ⟨p,rfl⟩:∃ p:Nat,j = (p:Int):=⟨j.toNat,by omega⟩
   have hm:m < t.length:=by omega
   have hp:p < ls.length:=by omega
   obtain ⟨x,hx⟩:∃ x,ls[p]? = some x:=⟨_,List.getElem?_eq_getElem hp⟩
   have hxa:=hla x (List.mem_of_getElem? hx)
   have f1:∀ (R:Type) (k:Int→G_Stream→Option R),yf2y.z29z s (t.length:Int) k = k (m:Int) s1:=e1
   have f2:∀ (R:Type) (k:Int→G_Stream→Option R),yf2y.z29z s1 (ls.length:Int) k = k (p:Int) s2:=e2
   have f3:∀ (R:Type) (k:Int→G_Stream→Option R),yf2y.z29z s2 3 k = k q s3:=e3
   have g1:(decide (0≤(m:Int))&&decide ((m:Int)≤(t.length:Int))) = true:=by rw [decide_eq_true (by omega),decide_eq_true (by omega)];rfl
   have g2:(decide (0≤(x.toNat:Int))&&decide ((x.toNat:Int) < 128)) = true:=by rw [decide_eq_true (by omega),decide_eq_true (by omega)];rfl
   have g3:(decide (0≤((m + 1:Nat):Int))&&decide (((m + 1:Nat):Int)≤(t.length:Int))) = true:=by rw [decide_eq_true (by omega),decide_eq_true (by omega)];rfl
   have hw:w64 ((m:Int) + 1) = ((m + 1:Nat):Int):=yapy (by omega)
   have n1:((m:Int)).toNat = m:=by omega
   have n2:(((m + 1:Nat):Int)).toNat = m + 1:=by omega
   have lt:(t.take m).length = m:=by rw [List.length_take];omega
   have ld:(t.drop (m + 1)).length = t.length - (m + 1):=List.length_drop
   have ld0:(t.drop m).length = t.length - m:=List.length_drop
   have s1k:strOk (t.take m) [x] = true:=yaxy (by rw [lt];simp;omega)
   have s2k:strOk (t.take m++[x]) (t.drop (m + 1)) = true:=yaxy (by rw [List.length_append,lt,ld];simp;omega)
   have s3k:strOk (t.take m++[x]) (t.drop m) = true:=yaxy (by rw [List.length_append,lt,ld0];simp;omega)
   have s4k:strOk (t.take m) (t.drop (m + 1)) = true:=yaxy (by rw [lt,ld];omega)
   have a1:=yBny m ha
   have a2:=ysAy (m + 1) ha
   have a3:=ysAy m ha
   have ax:=yijy hxa
   by_cases c0:q = 0
   ·subst c0
    refine ⟨t.take m++[x]++t.drop (m + 1),s3,?_,?_,yeNy (yeNy a1 ax) a2,z3.mono (by omega),fun R k=>?_⟩
    ·rw [List.length_append,List.length_append,lt,ld];simp;omega
    ·rw [if_neg hne,List.length_append,List.length_append,lt,ld];simp;omega
    ·show z54z_ yf2y s t ls k = _
     unfold z54z_
     rw [htn,hln,cond_false,cond_false,f1,f2,yhNy hx,f3,ypvy,yjKy,g1,g2,hw,g3,n1,n2,s1k,s2k]
     rfl
   ·have c0':(q == 0) = false:=beq_eq_false_iff_ne.2 c0
    by_cases c1:q = 1
    ·subst c1
     refine ⟨t.take m++[x]++t.drop m,s3,?_,?_,yeNy (yeNy a1 ax) a3,z3.mono (by omega),fun R k=>?_⟩
     ·rw [List.length_append,List.length_append,lt,ld0];simp;omega
     ·rw [if_neg hne,List.length_append,List.length_append,lt,ld0];simp;omega
     ·show z54z_ yf2y s t ls k = _
      unfold z54z_
      rw [htn,hln,cond_false,cond_false,f1,f2,yhNy hx,f3,ypvy,yjKy,g1,g2,hw,g3,n1,n2,s1k,s3k]
      rfl
    ·have c1':(q == 1) = false:=beq_eq_false_iff_ne.2 c1
     refine ⟨t.take m++t.drop (m + 1),s3,?_,?_,yeNy a1 a2,z3.mono (by omega),fun R k=>?_⟩
     ·rw [List.length_append,lt,ld];omega
     ·rw [if_neg hne,List.length_append,lt,ld];omega
     ·show z54z_ yf2y s t ls k = _
      unfold z54z_
      rw [htn,hln,cond_false,cond_false,f1,f2,yhNy hx,f3,c0',c1',cond_false,cond_false,g1,hw,g3,n1,n2,s4k]
      rfl
end Go.Am
set_option linter.unusedVariables false
set_option linter.unusedSectionVars false
set_option linter.unusedSimpArgs false
set_option maxRecDepth 100000
namespace Go.Am
open Go Go.Proofs
variable [Fuel]
theorem yxFy:∀ (t:List UInt8) (a:Nat) (b:UInt8) (n d:Nat),Lib.decFrom a t = some n→Lib.digitVal b = some d→Lib.decFrom a (t++[b]) = some (n * 10 + d)
 | [],a,b,n,d,h,hd=>by
  have:a = n:=Option.some.inj h
  subst this
  rw [List.nil_append,Lib.decFrom,hd];rfl
 | c::t,a,b,n,d,h,hd=>by
  rw [Lib.decFrom] at h
  cases hc:Lib.digitVal c with
  | none=>rw [hc] at h;cases h
  | some e =>
   rw [hc] at h
   rw [List.cons_append,Lib.decFrom,hc]
   exact yxFy t _ b n d h hd
theorem yCiy {d:Nat} (h:d < 10):Lib.digitVal (UInt8.ofNat (48 + d)) = some d:=by
 have:∀ d:Fin 10,Lib.digitVal (UInt8.ofNat (48 + d.val)) = some d.val:=by decide
 exact this ⟨d,h⟩
theorem yvGy (u:Nat):Lib.decFrom 0 (Lib.decDigits u) = some u:=by
 induction u using Nat.strongRecOn with
 | _ u ih =>
  rw [Lib.decDigits]
  split
  ·rename_i hu
   rw [Lib.decFrom,yCiy hu]
   show some (0 * 10 + u) = some u
   rw [Nat.zero_mul,Nat.zero_add]
  ·rename_i hu
   rw [yxFy _ 0 _ _ _ (ih (u / 10) (by omega)) (yCiy (Nat.mod_lt u (by omega)))]
   congr 1;omega
theorem yvty (u:Nat):((Lib.decDigits u).all fun b=>digS.contains b) = true:=by
 rw [List.all_eq_true]
 intro b hb
 obtain ⟨k,hk⟩:=List.getElem?_of_mem hb
 obtain ⟨d,hd⟩:=Lib.digit_of_decFrom _ 0 u (yvGy u) k b hk
 rw [yyqy,hd];rfl
theorem yy6y {u:Nat} (h:u < 1000000000000000):(Lib.decDigits u).length≤15:=by
 have:∀ k u,u < 10 ^ (k + 1)→(Lib.decDigits u).length≤k + 1:=by
  intro k
  induction k with
  | zero =>
   intro u hu
   rw [Lib.decDigits,dif_pos (by omega)];simp
  | succ k ih =>
   intro u hu
   rw [Lib.decDigits]
   split
   ·simp
   ·rw [List.length_append]
    have:=ih (u / 10) (by rw [Nat.pow_succ] at hu;omega)
    simp;omega
 have h15:(10:Nat) ^ (14 + 1) = 1000000000000000:=by decide
 exact this 14 u (by omega)
theorem ypjy {n:Int} (h0:0≤n) (h1:n < 1000000000000000):numB (Lib.itoa n) = true∧numQ (Lib.itoa n) = n:=by
 obtain ⟨u,rfl⟩:∃ u:Nat,n = (u:Int):=⟨n.toNat,by omega⟩
 rw [Lib.itoa_nonneg]
 have hne:=yriy u
 have hall:=yvty u
 have hneg:ybcy (Lib.decDigits u) = false:=by
  unfold ybcy
  cases hd:Lib.decDigits u with
  | nil=>exact absurd hd hne
  | cons b r =>
   rw [List.head?_cons]
   cases hb:some b == some (45:UInt8) with
   | false=>rfl
   | true =>
    have:b = 45:=Option.some.inj (beq_iff_eq.1 hb)
    rw [hd,this,List.all_cons,Bool.and_eq_true] at hall
    exact absurd hall.1 (by decide)
 have hT:numT (Lib.decDigits u) = Lib.decDigits u:=by unfold numT;rw [hneg];rfl
 have hok:numOk (Lib.decDigits u) = true:=by
  unfold numOk
  rw [hT,hall,decide_eq_true (yy6y (by omega)),beq_eq_false_iff_ne.2 hne];rfl
 have hat:=yj9y hok (by rw [hT];exact yvGy u)
 rw [hneg] at hat
 have hat':Lib.atoi (Lib.decDigits u) = some (u:Int):=hat
 have hcan:((Lib.decDigits u).head? == some 48&&(decide ((Lib.decDigits u).length > 1) || false)) = false:=by
  cases hh:(Lib.decDigits u).head? == some 48 with
  | false=>rfl
  | true =>
   have:=ymUy u (beq_iff_eq.1 hh)
   subst this
   rw [show Lib.decDigits 0 = [48] by rw [Lib.decDigits,dif_pos (by omega)];rfl];rfl
 constructor
 ·unfold numB numG
  rw [hok,hT,hneg,hcan];rfl
 ·unfold numQ
  rw [hok,if_pos rfl,hat'];rfl
theorem yyGy {u:Nat} {c:UInt8} (hc:digS.contains c = false):(Lib.decDigits u).contains c = false:=by
 cases h:(Lib.decDigits u).contains c with
 | false=>rfl
 | true =>
  have:=List.all_eq_true.1 (yvty u) c (by simpa using h)
  rw [hc] at this;cases this
def ybKy {α:Type} (g:α→List UInt8):List α→List UInt8
 | []=>[]
 | c::cs=>(g c++[10])++ybKy g cs
end Go.Am
set_option linter.unusedVariables false
set_option linter.unusedSectionVars false
set_option linter.unusedSimpArgs false
set_option maxRecDepth 100000
namespace Go.Am
open Go Go.Proofs
variable [Fuel]
theorem yC0y {c:G_Contact} (h:chk c = 0):1≤c.f_Mode∧c.f_Mode≤3:=by
 unfold chk at h
 cases h1:momB c.f_At with
 | false=>rw [h1] at h;cases h
 | true =>
  cases h2:inB c.f_Mode 1 3 with
  | false=>rw [h1,h2] at h;cases h
  | true=>exact yczy.1 h2
def dashS (s:List UInt8):List UInt8:=if s == [] then [45] else s
theorem yqNy (s:List UInt8) (R:Type) (k:List UInt8→Option R):kit_Dash s k = k (dashS s):=by
 show yi4y NN s k = _
 unfold yi4y dashS
 cases s == [] <;> rfl
theorem yt3y (s:List UInt8) (R:Type) (k:List UInt8→Option R):Q_dash s k = k (dashS s):=by
 show ynAy NN s k = _
 unfold ynAy dashS
 cases s == [] <;> rfl
def modeW (m:Int):List UInt8:=(yaHy[m.toNat]?).getD []
def ybIy (c:G_Contact):List (List UInt8):=[Lib.itoa c.f_At,modeW c.f_Mode,c.f_Band,c.f_Call,Lib.itoa c.f_Sent,dashS c.f_Gave,Lib.itoa c.f_Heard,dashS c.f_Got]
def lineC (c:G_Contact):List UInt8:=Lib.join (ybIy c) [32]
structure Short (c:G_Contact):Prop where
 at1:Wide c.f_At
 mode:0≤c.f_Mode∧c.f_Mode≤3
 sent:Wide c.f_Sent
 heard:Wide c.f_Heard
 band:c.f_Band.length≤100∧ascB c.f_Band
 call:c.f_Call.length≤100∧ascB c.f_Call
 gave:c.f_Gave.length≤100∧ascB c.f_Gave
 got:c.f_Got.length≤100∧ascB c.f_Got
theorem yzjy {c:G_Contact} (h:Fine c) (hm:0≤c.f_Mode∧c.f_Mode≤3):Short c:=by
 have hk:∀ s∈keysL,s.length≤100∧∀ x∈s,x.toNat < 128:=by decide
 have hc:∀ s∈yely,s.length≤100∧∀ x∈s,x.toNat < 128:=by decide
 have a:=h.at1
 have b:=h.sent
 have d:=h.heard
 exact ⟨⟨by omega,by omega⟩,hm,⟨by omega,by omega⟩,⟨by omega,by omega⟩,hk _ h.band,hc _ h.call,hk _ h.gave,hk _ h.got⟩
theorem yoIy {s:List UInt8} (h:s.length≤100∧ascB s):(dashS s).length≤100∧ascB (dashS s):=by
 unfold dashS
 split
 ·exact ⟨by simp,yijy (by decide)⟩
 ·exact h
theorem yw2y (m:Int):(modeW m).length≤100∧ascB (modeW m):=by
 unfold modeW
 have:∀ s∈yaHy,s.length≤100∧∀ x∈s,x.toNat < 128:=by decide
 cases h:yaHy[m.toNat]? with
 | none=>exact ⟨by simp,fun x hx=>by cases hx⟩
 | some s=>exact this s (List.mem_of_getElem? h)
theorem ydWy {c:G_Contact} (h:Short c):∀ w∈ybIy c,w.length≤100∧ascB w:=by
 intro w hw
 have i1:=ybky h.at1
 have i2:=ybky h.sent
 have i3:=ybky h.heard
 unfold ybIy at hw
 simp only [List.mem_cons,List.not_mem_nil,or_false] at hw
 rcases hw with rfl | rfl | rfl | rfl | rfl | rfl | rfl | rfl
 ·exact ⟨by omega,yeQy _⟩
 ·exact yw2y _
 ·exact h.band
 ·exact h.call
 ·exact ⟨by omega,yeQy _⟩
 ·exact yoIy h.gave
 ·exact ⟨by omega,yeQy _⟩
 ·exact yoIy h.got
theorem yosy {c:G_Contact} (h:Short c):(lineC c).length≤900∧ascB (lineC c):=by
 have hw:=ydWy h
 have:=yify (ws:=ybIy c) (sep:=[32]) (n:=100) fun w hh=>(hw w hh).1
 have e:(ybIy c).length = 8:=rfl
 rw [e] at this
 exact ⟨by unfold lineC;simp at this;omega,ytey (fun w hh=>(hw w hh).2) (yijy (by decide))⟩
theorem yuBy {m:Int} (h:0≤m∧m≤3) (R:Type) (k:List UInt8→Option R):inr yaHy m (at_ yaHy m k) = k (modeW m):=by
 have hl:yaHy.length = 4:=rfl
 rw [yhLy h.1 (by rw [hl];omega)]
 unfold at_ modeW
 obtain ⟨s,hs⟩:∃ s,yaHy[m.toNat]? = some s:=⟨_,List.getElem?_eq_getElem (by rw [hl];omega)⟩
 rw [hs];rfl
theorem z63z_g {c:G_Contact} (h:Short c) (R:Type) (k:List UInt8→Option R):z63z c k = k (lineC c):=by
 have hw:=ydWy h
 have a1:∀ k:List UInt8→Option R,yeoy.strconv_Itoa c.f_At k = k (Lib.itoa c.f_At):=fun k=>ycAy h.at1 R k
 have a2:∀ k:List UInt8→Option R,yeoy.strconv_Itoa c.f_Sent k = k (Lib.itoa c.f_Sent):=fun k=>ycAy h.sent R k
 have a3:∀ k:List UInt8→Option R,yeoy.strconv_Itoa c.f_Heard k = k (Lib.itoa c.f_Heard):=fun k=>ycAy h.heard R k
 have a4:∀ k:List UInt8→Option R,yeoy.Q_dash c.f_Gave k = k (dashS c.f_Gave):=fun k=>yt3y _ R k
 have a5:∀ k:List UInt8→Option R,yeoy.Q_dash c.f_Got k = k (dashS c.f_Got):=fun k=>yt3y _ R k
 have a6:∀ k:List (List UInt8)→Option R,yeoy.z81z k = k yaHy:=fun k=>rfl
 have a7:∀ k:List UInt8→Option R,yeoy.strings_Join [Lib.itoa c.f_At,modeW c.f_Mode,c.f_Band,c.f_Call,Lib.itoa c.f_Sent,dashS c.f_Gave,Lib.itoa c.f_Heard,dashS c.f_Got] [32] k = k (lineC c):=fun k=>yqYy (ws:=ybIy c) (by simp [ybIy]) (fun w hh=>by have:=(hw w hh).1;omega) (by simp) R k
 show z63z_ yeoy c k = _
 unfold z63z_
 rw [a1,a6,yuBy h.mode,a2,a4,a3,a5,a7]
theorem yzWy {c:G_Contact} (h:Short c) (R:Type) (k:List UInt8→Option R):log_Line c k = k (lineC c++[10]):=by
 have hw:=ydWy h
 have hs:=yosy h
 have a1:∀ k:List UInt8→Option R,ybWy.strconv_Itoa c.f_At k = k (Lib.itoa c.f_At):=fun k=>ycAy h.at1 R k
 have a2:∀ k:List UInt8→Option R,ybWy.strconv_Itoa c.f_Sent k = k (Lib.itoa c.f_Sent):=fun k=>ycAy h.sent R k
 have a3:∀ k:List UInt8→Option R,ybWy.strconv_Itoa c.f_Heard k = k (Lib.itoa c.f_Heard):=fun k=>ycAy h.heard R k
 have a4:∀ k:List UInt8→Option R,ybWy.kit_Dash c.f_Gave k = k (dashS c.f_Gave):=fun k=>yqNy _ R k
 have a5:∀ k:List UInt8→Option R,ybWy.kit_Dash c.f_Got k = k (dashS c.f_Got):=fun k=>yqNy _ R k
 have a6:∀ k:List (List UInt8)→Option R,ybWy.z79z k = k yaHy:=fun k=>rfl
 have a7:∀ k:List UInt8→Option R,ybWy.kit_Join [Lib.itoa c.f_At,modeW c.f_Mode,c.f_Band,c.f_Call,Lib.itoa c.f_Sent,dashS c.f_Gave,Lib.itoa c.f_Heard,dashS c.f_Got] k = k (lineC c++[10]):=fun k=>by
  have b1:∀ k:List UInt8→Option R,yd0y.strings_Join (ybIy c) [32] k = k (lineC c):=fun k=>yqYy (ws:=ybIy c) (by simp [ybIy]) (fun w hh=>by have:=(hw w hh).1;omega) (by simp) R k
  show ye3y yd0y (ybIy c) k = _
  unfold ye3y
  rw [b1,yaxy (by simp;omega),cond_true]
 show yiUy ybWy c k = _
 unfold yiUy
 rw [a1,a6,yuBy h.mode,a2,a4,a3,a5,a7]
end Go.Am
