/- The plain law, in Lean alone: T4, T5. No condition: lemmas for the claim. -/
import Derived.Test.YtmhbhdhddlbdlaaGreatDoorPlT2
set_option linter.unusedVariables false
set_option linter.unusedSectionVars false
set_option linter.unusedSimpArgs false
set_option maxRecDepth 100000
namespace Go.Am
open Go Go.Proofs
variable [Fuel]
theorem yy2y (b:UInt8):digS.contains b = (Lib.digitVal b).isSome:=by
 have h:∀ x:Fin 256,digS.contains (UInt8.ofNat x) = (Lib.digitVal (UInt8.ofNat x)).isSome:=by decide +kernel
 have:=h ⟨b.toNat,b.toNat_lt⟩
 simpa using this
theorem yr3y:∀ (t:List UInt8) (a:Nat),(t.all fun b=>digS.contains b) = true→∃ m,Lib.decFrom a t = some m
 | [],a,_=>⟨a,rfl⟩
 | b :: t,a,h=>by
  rw [List.all_cons,Bool.and_eq_true,yy2y] at h
  obtain ⟨d,hd⟩:=Option.isSome_iff_exists.1 h.1
  obtain ⟨m,hm⟩:=yr3y t (a * 10 + d) h.2
  exact ⟨m,by rw [Lib.decFrom,hd]; exact hm⟩
theorem yEsy {u v:List UInt8} (h:u ≠ []):(u ++ v).head? = u.head?:=by
 cases u with
 | nil=>exact absurd rfl h
 | cons a r=>rfl
theorem ym3y (u:Nat):Lib.decDigits u ≠ []:=by
 rw [Lib.decDigits]; split <;> simp
theorem yCby (u:Nat):(Lib.decDigits u).head? = some 48→u = 0:=by
 induction u using Nat.strongRecOn with
 | _ u ih =>
  intro h
  rw [Lib.decDigits] at h
  split at h
  ·rename_i hu
   rw [List.head?_cons] at h
   have h':=Option.some.inj h
   have:(UInt8.ofNat (48 + u)).toNat = 48:=by rw [h']; rfl
   rw [UInt8.toNat_ofNat'] at this
   omega
  ·rename_i hu
   rw [yEsy (ym3y _)] at h
   have:=ih (u / 10) (by omega) h
   omega
def ybTy (s:List UInt8):Bool:=s.head? == some 45
def numT (s:List UInt8):List UInt8:=if ybTy s then s.drop 1 else s
def numOk (s:List UInt8):Bool:=!(numT s == []) && (decide ((numT s).length≤15) && ((numT s).all fun b=>digS.contains b))
def numG (s:List UInt8):Option Int:=if numOk s && !((numT s).head? == some 48 && (decide ((numT s).length > 1) || ybTy s)) then some ((Lib.atoi s).getD 0) else none
theorem z62z_g (s:List UInt8) (R:Type) (k:List UInt8→Bool→Option R):z62z s [45] k = k (numT s) (ybTy s):=by
 cases s with
 | nil=>rfl
 | cons b l =>
  have h1:∀ k:Bool→Option R,ypRy.z68z (b :: l) [45] k = k (b == 45):=fun k=>by
   show z68z_ NN (b :: l) [45] k = _
   unfold z68z_
   have g1:decide (((b :: l).length:Int) ≥ (([45]:List UInt8).length:Int)) = true:=by simp; omega
   rw [g1,cond_true]
   show k ([b] == [45]) = _
   congr 1
   simp
  have g2:(decide (0≤(([45]:List UInt8).length:Int)) && decide ((([45]:List UInt8).length:Int)≤((b :: l).length:Int))) = true:=by simp; omega
  show z56z_ ypRy (b :: l) [45] k = _
  unfold z56z_
  rw [h1,g2,cond_true]
  have e:ybTy (b :: l) = (b == 45):=by unfold ybTy; simp
  unfold numT
  rw [e]
  cases b == 45 <;> rfl
theorem yJ7y {t:List UInt8} {m:Nat} (hne:t ≠ []) (hd:(t.all fun b=>digS.contains b) = true) (hm:Lib.decFrom 0 t = some m):Lib.atoi t = some (m:Int):=by
 cases t with
 | nil=>exact absurd rfl hne
 | cons b r =>
  rw [List.all_cons,Bool.and_eq_true] at hd
  have h45:(b == 45) = false:=by
   cases h:b == 45 with
   | false=>rfl
   | true=>rw [beq_iff_eq.1 h] at hd; exact absurd hd.1 (by decide)
  have h43:(b == 43) = false:=by
   cases h:b == 43 with
   | false=>rfl
   | true=>rw [beq_iff_eq.1 h] at hd; exact absurd hd.1 (by decide)
  show (if b == 45 then (Lib.decNat r).map (fun (m:Nat)=>-(m:Int)) else if b == 43 then (Lib.decNat r).map (fun (m:Nat)=>(m:Int)) else (Lib.decNat (b :: r)).map (fun (m:Nat)=>(m:Int))) = _
  rw [h45,h43,if_neg (by decide),if_neg (by decide)]
  unfold Lib.decNat
  rw [List.isEmpty_cons,if_neg (by decide),hm]; rfl
theorem ypQy {s:List UInt8} {m:Nat} (hok:numOk s = true) (hm:Lib.decFrom 0 (numT s) = some m):Lib.atoi s = some (if ybTy s then -(m:Int) else (m:Int)):=by
 unfold numOk at hok
 rw [Bool.and_eq_true,Bool.and_eq_true,Bool.not_eq_true'] at hok
 obtain ⟨h1,h2,h3⟩:=hok
 have hne:numT s ≠ []:=beq_eq_false_iff_ne.1 h1
 cases hn:ybTy s with
 | false =>
  have e:numT s = s:=by unfold numT; rw [hn]; rfl
  rw [e] at hne h3 hm
  exact yJ7y hne h3 hm
 | true =>
  obtain ⟨r,rfl⟩:∃ r,s = 45 :: r:=by
   cases s with
   | nil=>cases hn
   | cons b r =>
    have:b = 45:=by unfold ybTy at hn; simpa using hn
    exact ⟨r,by rw [this]⟩
  have e:numT (45 :: r) = r:=by unfold numT; rw [hn]; rfl
  rw [e] at hne hm
  show (Lib.decNat r).map (fun (m:Nat)=>-(m:Int)) = _
  unfold Lib.decNat
  have:r.isEmpty = false:=by cases r with | nil=>exact absurd rfl hne | cons=>rfl
  rw [this,if_neg (by decide),hm]; rfl
theorem yFzy (s:List UInt8):s.length≤(numT s).length + 1:=by
 unfold numT
 split
 ·rw [List.length_drop]; omega
 ·omega
theorem yEBy {s:List UInt8} (hok:numOk s = true) (R:Type) (k:Int→Option R):strconv_Atoi s k = k ((Lib.atoi s).getD 0):=by
 have hok':=hok
 unfold numOk at hok
 rw [Bool.and_eq_true,Bool.and_eq_true] at hok
 have hl:=yFzy s
 have h15:=of_decide_eq_true hok.2.1
 obtain ⟨m,hm⟩:=yr3y (numT s) 0 hok.2.2
 have ha:=ypQy hok' hm
 show (bif decide (s.length≤18) && (Lib.atoi s).isSome then k ((Lib.atoi s).getD 0) else none) = _
 rw [decide_eq_true (by omega),ha]; rfl
theorem yLBy {s:List UInt8} (hok:numOk s = true):numT (numT s) = numT s∧ybTy (numT s) = false∧numOk (numT s) = true:=by
 have hok':=hok
 unfold numOk at hok
 rw [Bool.and_eq_true,Bool.and_eq_true,Bool.not_eq_true'] at hok
 have hn:ybTy (numT s) = false:=by
  cases ht:numT s with
  | nil=>rfl
  | cons b r =>
   have h:=hok.2.2
   rw [ht,List.all_cons,Bool.and_eq_true] at h
   unfold ybTy
   cases h45:(b :: r).head? == some 45 with
   | false=>rfl
   | true =>
    have:b = 45:=by simpa using h45
    rw [this] at h; exact absurd h.1 (by decide)
 have e:numT (numT s) = numT s:=by
  show (if ybTy (numT s) then (numT s).drop 1 else numT s) = numT s
  rw [hn]; rfl
 refine ⟨e,hn,?_⟩
 unfold numOk
 rw [e]
 exact hok'
theorem yvCy {s:List UInt8} (hl:s.length≤1000000) (R:Type) (k:Int→Bool→Option R):kit_Number s 15 k = (numG s).elim (k 0 false) fun n=>k n true:=by
 have h1:∀ k:List UInt8→Bool→Option R,ycDy.z62z s [45] k = k (numT s) (ybTy s):=fun k=>z62z_g s R k
 have hT:(numT s).length≤1000000:=by unfold numT; split; (rw [List.length_drop]; omega); exact hl
 have h2:∀ k:List UInt8→Option R,ycDy.strings_Trim (numT s) digS k = k (Lib.trimS (numT s) digS):=fun k=>yKhy hT (by decide) R k
 show ygry ycDy s 15 k = _
 unfold ygry
 rw [h1]
 unfold numG
 cases hok:numOk s with
 | false =>
  show _ = k 0 false
  unfold numOk at hok
  cases he:numT s == [] with
  | true=>rfl
  | false =>
   rw [cond_false]
   by_cases h15:(numT s).length≤15
   ·rw [decide_eq_false (show ¬ ((numT s).length:Int) > 15 by omega),cond_false,h2,yvNy]
    rw [he,decide_eq_true h15,Bool.not_false,Bool.true_and,Bool.true_and] at hok
    rw [hok]; rfl
   ·rw [decide_eq_true (show ((numT s).length:Int) > 15 by omega),cond_true]
 | true =>
  obtain ⟨tT,tN,tok⟩:=yLBy hok
  have h3:∀ k:Int→Option R,ycDy.strconv_Atoi (numT s) k = k ((Lib.atoi (numT s)).getD 0):=fun k=>yEBy tok R k
  have hok':=hok
  unfold numOk at hok'
  rw [Bool.and_eq_true,Bool.and_eq_true,Bool.not_eq_true'] at hok'
  obtain ⟨he,h15,hall⟩:=hok'
  have h15:=of_decide_eq_true h15
  obtain ⟨m,hm⟩:=yr3y (numT s) 0 hall
  have ha:=ypQy hok hm
  have hat:=ypQy tok (by rw [tT]; exact hm)
  have hlt:=Lib.decFrom_lt18 hm (by omega)
  rw [he,cond_false,decide_eq_false (show ¬ ((numT s).length:Int) > 15 by omega),cond_false,h2,yvNy,hall,Bool.not_true,cond_false]
  obtain ⟨b,r,hbr⟩:∃ b r,numT s = b :: r:=by
   cases h:numT s with
   | nil=>rw [h] at he; cases he
   | cons b r=>exact ⟨b,r,rfl⟩
  have hat0:∀ k:UInt8→Option R,at_ (numT s) 0 k = k b:=fun k=>yaOy (i:=0) (by rw [hbr]; rfl) k
  have hb:((b.toNat:Int) == 48) = ((numT s).head? == some 48):=by
   rw [hbr,List.head?_cons]
   by_cases hb:b = 48
   ·subst hb; rfl
   ·have hn:b.toNat ≠ 48:=fun h=>hb (UInt8.toNat_inj.1 h)
    have h1:((b.toNat:Int) == 48) = false:=beq_eq_false_iff_ne.2 (by omega)
    have h2:(some b == some (48:UInt8)) = false:=beq_eq_false_iff_ne.2 fun h=>hb (Option.some.inj h)
    rw [h1,h2]
  have hgt:decide (((numT s).length:Int) > 1) = decide ((numT s).length > 1):=by
   by_cases h:(numT s).length > 1
   ·rw [decide_eq_true h,decide_eq_true (by omega)]
   ·rw [decide_eq_false h,decide_eq_false (by omega)]
  rw [hat0,hb,h3,hgt,hat,ha,tN]
  have hw:w64 (0 - (m:Int)) = -(m:Int):=by rw [yayy (by omega) (by omega)]; omega
  simp only [Bool.false_eq_true,if_false,Option.getD_some,hw]
  cases (numT s).head? == some 48 <;> cases decide ((numT s).length > 1) <;> cases ybTy s <;> rfl
def numQ (s:List UInt8):Int:=if numOk s then (Lib.atoi s).getD 0 else 0
theorem yLvy {s:List UInt8} {n:Int} (h:numG s = some n):numQ s = n:=by
 unfold numG at h
 unfold numQ
 cases hok:numOk s with
 | false=>rw [hok] at h; cases h
 | true =>
  rw [hok] at h
  simp only [Bool.true_and] at h
  split at h
  ·exact Option.some.inj h
  ·cases h
end Go.Am
set_option linter.unusedVariables false
set_option linter.unusedSectionVars false
set_option linter.unusedSimpArgs false
set_option maxRecDepth 100000
namespace Go.Am
open Go Go.Proofs
variable [Fuel]
theorem yhky {c:UInt8} {s:List UInt8} (h:s.count c = 0):yaky c s = [s]:=by
 have:(yaky c s).length = 1:=by rw [ydty,h]
 rw [yeZy] at this ⊢
 cases hc:(cutB c s).2.2 with
 | false=>rfl
 | true =>
  rw [hc,cond_true,List.length_cons] at this
  have h2:=yiAy c (cutB c s).2.1
  have:=List.length_pos_iff.2 h2
  omega
theorem ylqy (c:UInt8):∀ (m:Nat) (s:List UInt8) (n i:Nat) (done:List (List UInt8)),s.count c = m→s.length≤1000000→done.length = i→i + m≤1000000→m < n →
  ∃ last pre,yaky c s = pre ++ [last]∧pre.length = m∧∀ (R:Type) (e0:List UInt8→Int→List (List UInt8)→Option R),
   z33z_L11 ydUy n s [c] 0 ((i + m:Nat):Int) (i:Int) (done ++ List.replicate (m + 1) []) e0 = e0 last ((i + m:Nat):Int) (done ++ (pre ++ [[]]))
 | _,_,0,_,_,_,_,_,_,h=>by omega
 | 0,s,n + 1,i,done,hc,hl,hd,hi,_=>by
  refine ⟨s,[],by rw [yhky hc]; rfl,rfl,fun R e0=>?_⟩
  rw [z33z_L11,decide_eq_false (show ¬ ((i:Int) < ((i + 0:Nat):Int)) by omega),cond_false]
  rfl
 | m + 1,s,n + 1,i,done,hc,hl,hd,hi,hn=>by
  have hcon:s.contains c = true:=by
   rw [List.contains_iff_mem]
   exact List.count_pos_iff.1 (by omega)
  obtain ⟨j,e1,e2,e3,e4⟩:=yemy c s hcon
  have hcut:=ycLy c s j e3 e4
  have hdec:s = s.take j ++ c :: s.drop (j + 1):=by
   have:=List.drop_eq_getElem_cons (l:=s) (i:=j) e2
   have hg:s[j] = c:=by rw [List.getElem?_eq_getElem e2] at e3; exact Option.some.inj e3
   rw [hg] at this
   rw [← this,List.take_append_drop]
  have hct:(s.take j).count c = 0:=by
   rw [List.count_eq_zero]
   intro h
   rw [← List.contains_iff_mem,e4] at h
   cases h
  have hcd:(s.drop (j + 1)).count c = m:=by
   have h:=congrArg (List.count c) hdec
   rw [List.count_append,List.count_cons_self,hct,hc] at h
   omega
  obtain ⟨last,pre,p1,p2,p3⟩:=ylqy c m (s.drop (j + 1)) n (i + 1) (done ++ [s.take j]) hcd (by rw [List.length_drop]; omega) (by rw [List.length_append,hd]; rfl) (by omega) (by omega)
  refine ⟨last,s.take j :: pre,?_,by rw [List.length_cons,p2],fun R e0=>?_⟩
  ·rw [yeZy,hcut,cond_true,p1]; rfl
  ·have h1:∀ k:Int→Option R,ydUy.strings_Index s [c] k = k (j:Int):=fun k=>by rw [← e1]; rfl
   have hw0:w64 ((j:Int) + 0) = (j:Int):=by rw [yayy (by omega) (by omega)]; omega
   have hw1:w64 ((j:Int) + ((([c]:List UInt8).length:Nat):Int)) = ((j + 1:Nat):Int):=yauy (show j < 4611686018427387904 by omega)
   have g1:(decide (0≤(j:Int)) && decide ((j:Int)≤(s.length:Int))) = true:=by simp; omega
   have g2:(decide (0≤((j + 1:Nat):Int)) && decide (((j + 1:Nat):Int)≤(s.length:Int))) = true:=by simp; omega
   have hlen:i < (done ++ List.replicate (m + 1 + 1) ([]:List UInt8)).length:=by simp; omega
   have hget:(done ++ List.replicate (m + 1 + 1) ([]:List UInt8))[i]? = some []:=by
    rw [List.getElem?_append_right (by omega),List.getElem?_replicate,if_pos (by omega)]
   rw [z33z_L11,decide_eq_true (show ((i:Int) < ((i + (m + 1):Nat):Int)) by omega),cond_true,h1,decide_eq_false (show ¬ ((j:Int) < 0) by omega),cond_false,hw0,g1,cond_true,ybEy hlen,yaOy hget,hw1,g2,cond_true,yauy (show i < 4611686018427387904 by omega),yhDy]
   have hset:(done ++ List.replicate (m + 1 + 1) ([]:List UInt8)).set i (s.take j) = (done ++ [s.take j]) ++ List.replicate (m + 1) []:=by
    rw [List.replicate_succ,← hd,yjBy,List.append_assoc]; rfl
   have hi':((j:Int)).toNat = j:=by omega
   have hi2:(((j + 1:Nat):Int)).toNat = j + 1:=by omega
   rw [hi',hi2,hset,show i + (m + 1) = i + 1 + m by omega,p3,List.append_assoc]; rfl
theorem yyEy {s:List UInt8} (c:UInt8) (hl:s.length≤900000) (R:Type) (k:List (List UInt8)→Option R):z66z s [c] k = k (yaky c s):=by
 have hcl:s.count c≤s.length:=List.count_le_length
 have h1:∀ k:Int→Option R,ydUy.strings_Count s [c] k = k ((s.count c:Nat):Int):=fun k=>rfl
 obtain ⟨last,pre,p1,p2,p3⟩:=ylqy c (s.count c) s NN 0 [] rfl (by omega) rfl (by omega) (by have:=NN_ok; omega)
 have hw1:w64 ((s.length:Int) + 1) = ((s.length + 1:Nat):Int):=yauy (by omega)
 have hw2:w64 (((s.count c:Nat):Int) + 1) = ((s.count c + 1:Nat):Int):=yauy (by omega)
 have hmin:(if ((s.length + 1:Nat):Int) < ((s.count c + 1:Nat):Int) then ((s.length + 1:Nat):Int) else ((s.count c + 1:Nat):Int)) = ((s.count c + 1:Nat):Int):=if_neg (by omega)
 have hw3:w64 (((s.count c + 1:Nat):Int) - 1) = ((s.count c:Nat):Int):=by rw [yf8y (by omega) (by omega)]; rfl
 have g1:(decide (0≤((s.count c + 1:Nat):Int)) && (decide (((s.count c + 1:Nat):Int)≤((s.count c + 1:Nat):Int)) && decide (((s.count c + 1:Nat):Int) * (16:Nat)≤140737488355328))) = true:=by simp; omega
 show z33z_ ydUy s [c] 0 (-1) k = _
 unfold z33z_
 have e0:((-1:Int) == 0) = false:=rfl
 have e1:(([c]:List UInt8) == []) = false:=rfl
 have e2:decide ((-1:Int) < 0) = true:=rfl
 rw [e0,e1,e2,cond_false,cond_false,cond_true,h1,hw1,hw2,hmin,g1,cond_true,hw3]
 have hrep:(((s.count c + 1:Nat):Int)).toNat = s.count c + 1:=by omega
 rw [hrep]
 have:=p3 R (fun e16 e17 e18=>(inr e18 e17 (at_ e18 e17 fun x19=>(bif (decide (0≤(w64 (e17 + 1))) && decide ((w64 (e17 + 1))≤((set_ e18 e17 e16).length:Int))) then k ((set_ e18 e17 e16).take ((w64 (e17 + 1)):Int).toNat) else none))))
 rw [Nat.zero_add,List.nil_append,List.nil_append] at this
 refine this.trans ?_
 have hlen:s.count c < (pre ++ [([]:List UInt8)]).length:=by simp; omega
 have hget:(pre ++ [([]:List UInt8)])[s.count c]? = some []:=by rw [← p2]; simp
 have hset:(pre ++ [([]:List UInt8)]).set (s.count c) last = yaky c s:=by
  rw [← p2,yjBy,p1]
 rw [ybEy hlen,yaOy hget,hw2,yhDy,hset]
 have hsl:(yaky c s).length = s.count c + 1:=ydty c s
 have g2:(decide (0≤((s.count c + 1:Nat):Int)) && decide (((s.count c + 1:Nat):Int)≤((yaky c s).length:Int))) = true:=by rw [hsl]; simp; omega
 rw [g2,cond_true,hrep,List.take_of_length_le (by omega)]
theorem ypry (d:List (List UInt8)) (hl:d.length≤1000000):∀ (xs:List (List UInt8)) (n i:Nat),d.drop i = xs→xs.length < n→∀ (R:Type) (e0:Bool→List (List UInt8)→Option R) (e1:List (List UInt8)→Option R),
  yb2y ybFy n (d.length:Int) (i:Int) d e0 e1 = bif xs.contains [] then e0 false d else e1 d
 | _,0,_,_,h,_,_,_=>by omega
 | [],n + 1,i,h,_,R,e0,e1=>by rw [yb2y,ybqy h]; rfl
 | y :: ys,n + 1,i,h,hn,R,e0,e1=>by
  have h':=yaqy h
  have hlt:=h'.2.1
  have ih:=ypry d hl ys n (i + 1) h'.2.2.1 (Nat.lt_of_succ_lt_succ (by simpa only [List.length_cons] using hn)) R e0 e1
  rw [yb2y,ybdy h,cond_true,yoSy h,yaOy h'.1,yauy (show i < 4611686018427387904 by omega),ih,List.contains_cons]
  have hc:(([]:List UInt8) == y) = (y == []):=by cases y <;> rfl
  rw [hc]
  cases y == [] <;> rfl
def yewy (s:List UInt8):Bool:=!(yaky 32 s).contains []
theorem yyly {s:List UInt8} (hl:s.length≤900000) (R:Type) (k:List (List UInt8)→Bool→Option R):kit_Words s k = bif yewy s then k (yaky 32 s) true else k [] false:=by
 have h1:∀ k:List (List UInt8)→Option R,ybFy.z66z s [32] k = k (yaky 32 s):=fun k=>yyEy 32 hl R k
 have hsl:(yaky 32 s).length = s.count 32 + 1:=ydty 32 s
 have hcl:s.count 32≤s.length:=List.count_le_length
 show ybFy.z66z s [32] _ = _
 rw [h1]
 refine (ypry (yaky 32 s) (by omega) (yaky 32 s) NN 0 rfl (by have:=NN_ok; omega) R _ _).trans ?_
 unfold yewy
 cases (yaky 32 s).contains [] <;> rfl
def ybwy (s:List UInt8):Bool:=s.getLast? == some 10
def chop (s:List UInt8):List UInt8:=if ybwy s then s.dropLast else s
theorem yx7y {s:List UInt8} (hl:s.length≤1000000) (R:Type) (k:List UInt8→Bool→Option R):z65z s [10] k = k (chop s) (ybwy s):=by
 cases hs:s with
 | nil=>rfl
 | cons b l =>
  rw [← hs]
  have hlen:1≤s.length:=by rw [hs]; simp
  have hw:w64 ((s.length:Int) - ((([10]:List UInt8).length:Nat):Int)) = ((s.length - 1:Nat):Int):=yf8y (by omega) (by omega)
  have g1:decide ((s.length:Int) ≥ ((([10]:List UInt8).length:Nat):Int)) = true:=by simp; omega
  have g2:(decide (0≤((s.length - 1:Nat):Int)) && decide (((s.length - 1:Nat):Int)≤(s.length:Int))) = true:=by rw [decide_eq_true (by omega),decide_eq_true (by omega)]; rfl
  have hto:(((s.length - 1:Nat):Int)).toNat = s.length - 1:=by omega
  have hdrop:(s.drop (s.length - 1) == [10]) = ybwy s:=by
   unfold ybwy
   have hne:s ≠ []:=by rw [hs]; exact List.cons_ne_nil _ _
   have hsp:s = s.dropLast ++ [s.getLast hne]:=(List.dropLast_concat_getLast hne).symm
   have hd:s.drop (s.length - 1) = [s.getLast hne]:=by
    conv=>lhs; rw [hsp]
    rw [List.drop_append]
    simp
   rw [hd,List.getLast?_eq_some_getLast hne]
   simp
  have h1:∀ k:Bool→Option R,ypzy.z67z s [10] k = k (ybwy s):=fun k=>by
   show z67z_ NN s [10] k = _
   unfold z67z_
   rw [g1,cond_true,hw,g2,cond_true,hto,hdrop]
  show z55z_ ypzy s [10] k = _
  unfold z55z_ chop
  rw [h1,hw,g2,cond_true,hto]
  cases ybwy s with
  | false=>rfl
  | true =>
   rw [Bool.not_true,cond_false,if_pos rfl,List.dropLast_eq_take]
def ybfy (s:List UInt8):List (List UInt8):=if s == [] then [] else yaky 10 (chop s)
def endG (s:List UInt8):Bool:=s == [] || ybwy s
theorem yoYy (s:List UInt8):(chop s).length≤s.length:=by
 unfold chop; split
 ·rw [List.length_dropLast]; omega
 ·exact Nat.le_refl _
theorem yxty {s:List UInt8} (hl:s.length≤900000) (R:Type) (k:List (List UInt8)→Bool→Option R):kit_Lines s k = k (ybfy s) (endG s):=by
 have h1:∀ k:List UInt8→Bool→Option R,ydLy.z65z s [10] k = k (chop s) (ybwy s):=fun k=>yx7y (by omega) R k
 have h2:∀ k:List (List UInt8)→Option R,ydLy.z66z (chop s) [10] k = k (yaky 10 (chop s)):=fun k=>yyEy 10 (by have:=yoYy s; omega) R k
 show yhsy ydLy s k = _
 unfold yhsy ybfy endG
 rw [h1,h2]
 cases s == [] <;> rfl
def goG {α:Type} (f:List UInt8→Option α) (ended:Bool):Nat→List (List UInt8)→List α→Sum Nat (List α)
 | _,[],acc=>.inr acc
 | i,l :: ls,acc=>match (if !ended && ls == [] then none else f l) with
  | none=>.inl i
  | some a=>goG f ended (i + 1) ls (acc ++ [a])
theorem yh0y {α:Type} (f:List UInt8→Option α) (ended:Bool) (i:Nat) (l:List UInt8) (ls:List (List UInt8)) (acc:List α):goG f ended i (l :: ls) acc = match (if !ended && ls == [] then none else f l) with
  | none=>.inl i
  | some a=>goG f ended (i + 1) ls (acc ++ [a]):=rfl
def goQ {α:Type} (f:List UInt8→Option α):Nat→Nat→List UInt8→List α→Sum Nat (List α)
 | 0,i,_,_=>.inl i
 | n + 1,i,t,acc=>if t == [] then .inr acc else if !(cutB 10 t).2.2 then .inl i else match f (cutB 10 t).1 with
  | none=>.inl i
  | some a=>goQ f n (i + 1) (cutB 10 t).2.1 (acc ++ [a])
theorem yEPy (t:List UInt8) (h:(cutB 10 t).2.2 = true):t = (cutB 10 t).1 ++ 10 :: (cutB 10 t).2.1:=by
 rw [yrSy] at h
 obtain ⟨j,e1,e2,e3,e4⟩:=yemy 10 t h
 rw [ycLy 10 t j e3 e4]
 have:=List.drop_eq_getElem_cons (l:=t) (i:=j) e2
 have hg:t[j] = 10:=by rw [List.getElem?_eq_getElem e2] at e3; exact Option.some.inj e3
 rw [hg] at this
 show t = t.take j ++ 10 :: t.drop (j + 1)
 rw [← this,List.take_append_drop]
theorem yLNy (t:List UInt8):(cutB 10 t).1.contains 10 = false:=by
 cases h:t.contains 10 with
 | false=>rw [yiCy 10 t h]; exact h
 | true =>
  obtain ⟨j,e1,e2,e3,e4⟩:=yemy 10 t h
  rw [ycLy 10 t j e3 e4]
  exact e4
theorem yJPy {a b:List UInt8} (h:a.contains 10 = false):cutB 10 (a ++ 10 :: b) = (a,b,true):=by
 have:=ycLy 10 (a ++ 10 :: b) a.length (by simp) (by rw [List.take_left']; exact h; rfl)
 rw [this]
 simp
theorem goQ_G {α:Type} (f:List UInt8→Option α):∀ (n i:Nat) (t:List UInt8) (acc:List α),t.length < n→goQ f n i t acc = goG f (endG t) i (ybfy t) acc
 | 0,_,_,_,h=>by omega
 | n + 1,i,t,acc,h=>by
  cases ht:t == [] with
  | true =>
   rw [beq_iff_eq.1 ht]; rfl
  | false =>
   have hne:t ≠ []:=beq_eq_false_iff_ne.1 ht
   have hL:ybfy t = yaky 10 (chop t):=by unfold ybfy; rw [ht]; rfl
   have hE:endG t = ybwy t:=by unfold endG; rw [ht]; rfl
   rw [goQ,ht,hL,hE,if_neg (by decide)]
   cases hc:(cutB 10 t).2.2 with
   | false =>
    have hcon:t.contains 10 = false:=by rw [← yrSy]; exact hc
    have hend:ybwy t = false:=by
     unfold ybwy
     rw [beq_eq_false_iff_ne]
     intro hl
     have:=List.mem_of_getLast? hl
     rw [← List.contains_iff_mem,hcon] at this
     cases this
    have hchop:chop t = t:=by unfold chop; rw [hend]; rfl
    have hcnt:t.count 10 = 0:=by
     rw [List.count_eq_zero]; intro hm
     rw [← List.contains_iff_mem,hcon] at hm; cases hm
    rw [hchop,yhky hcnt,hend,yh0y]
    rfl
   | true =>
    rw [if_neg (by decide)]
    have hback:=yEPy t hc
    have hno:=yLNy t
    have hlen:=(yoHy 10 t).2 hc
    generalize (cutB 10 t).1 = a at *
    generalize (cutB 10 t).2.1 = b at *
    subst hback
    cases hb:b == [] with
    | true =>
     have:=beq_iff_eq.1 hb
     subst this
     have hend:ybwy (a ++ [10]) = true:=by unfold ybwy; simp
     have hchop:chop (a ++ [10]) = a:=by unfold chop; rw [hend]; simp
     have hcnt:a.count 10 = 0:=by
      rw [List.count_eq_zero]; intro hm
      rw [← List.contains_iff_mem,hno] at hm; cases hm
     rw [hchop,yhky hcnt,hend,yh0y]
     show _ = match f a with | none=>_ | some x=>_
     cases f a with
     | none=>rfl
     | some x =>
      show goQ f n (i + 1) [] _ = _
      cases n with
      | zero=>omega
      | succ n=>rfl
    | false =>
     have hbne:b ≠ []:=beq_eq_false_iff_ne.1 hb
     have hend:ybwy (a ++ 10 :: b) = ybwy b:=by
      unfold ybwy
      rw [List.getLast?_append,List.getLast?_cons]
      cases hg:b.getLast? with
      | none=>exact absurd (List.getLast?_eq_none_iff.1 hg) hbne
      | some x=>rfl
     have hchop:chop (a ++ 10 :: b) = a ++ 10 :: chop b:=by
      unfold chop
      rw [hend]
      cases ybwy b with
      | false=>rfl
      | true =>
       rw [if_pos rfl,if_pos rfl,List.dropLast_append_of_ne_nil (List.cons_ne_nil _ _),List.dropLast_cons_of_ne_nil hbne]
     have hsp:yaky 10 (chop (a ++ 10 :: b)) = a :: yaky 10 (chop b):=by
      rw [hchop,yeZy,yJPy hno]; rfl
     have ih:=fun acc=>goQ_G f n (i + 1) b acc (by omega)
     have hLb:ybfy b = yaky 10 (chop b):=by unfold ybfy; rw [hb]; rfl
     have hEb:endG b = ybwy b:=by unfold endG; rw [hb]; rfl
     rw [hsp,hend,yh0y]
     have hnn:(yaky 10 (chop b) == []) = false:=beq_eq_false_iff_ne.2 (yiAy _ _)
     rw [hnn,Bool.and_false]
     show _ = match f a with | none=>_ | some x=>_
     cases f a with
     | none=>rfl
     | some x =>
      show goQ f n (i + 1) b _ = goG f (ybwy b) (i + 1) (yaky 10 (chop b)) _
      rw [ih,hLb,hEb]
theorem ypEy (s:List UInt8):(ybfy s).length≤s.length + 1:=by
 unfold ybfy
 split
 ·simp
 ·have h1:(yaky 10 (chop s)).length = (chop s).count 10 + 1:=ydty 10 _
  have h2:(chop s).count 10≤(chop s).length:=List.count_le_length
  have h3:=yoYy s
  omega
theorem yqKy (s:List UInt8):∀ l ∈ ybfy s,l.length≤s.length∧∀ x ∈ l,x ∈ s:=by
 intro l h
 unfold ybfy at h
 split at h
 ·cases h
 ·have h1:=ykjy 10 _ l h
  have h2:=yoYy s
  refine ⟨by omega,fun x hx=>?_⟩
  have:=(ykpy 10 _ l h x hx).1
  unfold chop at this
  split at this
  ·exact List.dropLast_subset _ this
  ·exact this
end Go.Am
