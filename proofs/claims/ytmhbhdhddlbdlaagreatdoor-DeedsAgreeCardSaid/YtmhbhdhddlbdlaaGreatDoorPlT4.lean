/- The plain law, in Lean alone: T4, T5, T6, T7, U0, T8. No condition: lemmas for the claim. -/
import Derived.Test.YtmhbhdhddlbdlaaGreatDoorPlT0
import Derived.Test.YtmhbhdhddlbdlaaGreatDoorPlS1
set_option linter.unusedVariables false
set_option linter.unusedSectionVars false
set_option linter.unusedSimpArgs false
set_option maxRecDepth 100000
namespace Go.Am
open Go Go.Proofs
variable [Fuel]
theorem yAJy (b:UInt8):digS.contains b = (Lib.digitVal b).isSome:=by
 have h:∀ x:Fin 256,digS.contains (UInt8.ofNat x) = (Lib.digitVal (UInt8.ofNat x)).isSome:=by decide +kernel
 have:=h ⟨b.toNat,b.toNat_lt⟩
 simpa using this
theorem ytdy:∀ (t:List UInt8) (a:Nat),(t.all fun b=>digS.contains b) = true→∃ m,Lib.decFrom a t = some m
 | [],a,_=>⟨a,rfl⟩
 | b::t,a,h=>by
  rw [List.all_cons,Bool.and_eq_true,yAJy] at h
  obtain ⟨d,hd⟩:=Option.isSome_iff_exists.1 h.1
  obtain ⟨m,hm⟩:=ytdy t (a * 10 + d) h.2
  exact ⟨m,by rw [Lib.decFrom,hd];exact hm⟩
theorem yHNy {u v:List UInt8} (h:u≠[]):(u++v).head? = u.head?:=by
 cases u with
 | nil=>exact absurd rfl h
 | cons a r=>rfl
theorem ytry (u:Nat):Lib.decDigits u≠[]:=by
 rw [Lib.decDigits];split <;> simp
theorem yD5y (u:Nat):(Lib.decDigits u).head? = some 48→u = 0:=by
 induction u using Nat.strongRecOn with
 | _ u ih =>
  intro h
  rw [Lib.decDigits] at h
  split at h
  ·rename_i hu
   rw [List.head?_cons] at h
   have h':=Option.some.inj h
   have:(UInt8.ofNat (48 + u)).toNat = 48:=by rw [h'];rfl
   rw [UInt8.toNat_ofNat'] at this
   omega
  ·rename_i hu
   rw [yHNy (ytry _)] at h
   have:=ih (u / 10) (by omega) h
   omega
def yb8y (s:List UInt8):Bool:=s.head? == some 45
def numT (s:List UInt8):List UInt8:=if yb8y s then s.drop 1 else s
def numOk (s:List UInt8):Bool:=!(numT s == [])&&(decide ((numT s).length≤15)&&((numT s).all fun b=>digS.contains b))
def numG (s:List UInt8):Option Int:=if numOk s&&!((numT s).head? == some 48&&(decide ((numT s).length > 1) || yb8y s)) then some ((Lib.atoi s).getD 0) else none
theorem z68z_g (s:List UInt8) (R:Type) (k:List UInt8→Bool→Option R):z68z s [45] k = k (numT s) (yb8y s):=by
 cases s with
 | nil=>rfl
 | cons b l =>
  have h1:∀ k:Bool→Option R,yr0y.z73z (b::l) [45] k = k (b == 45):=fun k=>by
   show z73z_ NN (b::l) [45] k = _
   unfold z73z_
   have g1:decide (((b::l).length:Int) ≥ (([45]:List UInt8).length:Int)) = true:=by simp;omega
   rw [g1,cond_true]
   show k ([b] == [45]) = _
   congr 1
   simp
  have g2:(decide (0≤(([45]:List UInt8).length:Int))&&decide ((([45]:List UInt8).length:Int)≤((b::l).length:Int))) = true:=by simp;omega
  show z60z_ yr0y (b::l) [45] k = _
  unfold z60z_
  rw [h1,g2,cond_true]
  have e:yb8y (b::l) = (b == 45):=by unfold yb8y;simp
  unfold numT
  rw [e]
  cases b == 45 <;> rfl
theorem yN7y {t:List UInt8} {m:Nat} (hne:t≠[]) (hd:(t.all fun b=>digS.contains b) = true) (hm:Lib.decFrom 0 t = some m):Lib.atoi t = some (m:Int):=by
 cases t with
 | nil=>exact absurd rfl hne
 | cons b r =>
  rw [List.all_cons,Bool.and_eq_true] at hd
  have h45:(b == 45) = false:=by
   cases h:b == 45 with
   | false=>rfl
   | true=>rw [beq_iff_eq.1 h] at hd;exact absurd hd.1 (by decide)
  have h43:(b == 43) = false:=by
   cases h:b == 43 with
   | false=>rfl
   | true=>rw [beq_iff_eq.1 h] at hd;exact absurd hd.1 (by decide)
  show (if b == 45 then (Lib.decNat r).map (fun (m:Nat)=>-(m:Int)) else if b == 43 then (Lib.decNat r).map (fun (m:Nat)=>(m:Int)) else (Lib.decNat (b::r)).map (fun (m:Nat)=>(m:Int))) = _
  rw [h45,h43,if_neg (by decide),if_neg (by decide)]
  unfold Lib.decNat
  rw [List.isEmpty_cons,if_neg (by decide),hm];rfl
theorem yscy {s:List UInt8} {m:Nat} (hok:numOk s = true) (hm:Lib.decFrom 0 (numT s) = some m):Lib.atoi s = some (if yb8y s then -(m:Int) else (m:Int)):=by
 unfold numOk at hok
 rw [Bool.and_eq_true,Bool.and_eq_true,Bool.not_eq_true'] at hok
 obtain ⟨h1,h2,h3⟩:=hok
 have hne:numT s≠[]:=beq_eq_false_iff_ne.1 h1
 cases hn:yb8y s with
 | false =>
  have e:numT s = s:=by unfold numT;rw [hn];rfl
  rw [e] at hne h3 hm
  exact yN7y hne h3 hm
 | true =>
  obtain ⟨r,rfl⟩:∃ r,s = 45::r:=by
   cases s with
   | nil=>cases hn
   | cons b r =>
    have:b = 45:=by unfold yb8y at hn;simpa using hn
    exact ⟨r,by rw [this]⟩
  have e:numT (45::r) = r:=by unfold numT;rw [hn];rfl
  rw [e] at hne hm
  show (Lib.decNat r).map (fun (m:Nat)=>-(m:Int)) = _
  unfold Lib.decNat
  have:r.isEmpty = false:=by cases r with | nil=>exact absurd rfl hne | cons=>rfl
  rw [this,if_neg (by decide),hm];rfl
theorem yG1y (s:List UInt8):s.length≤(numT s).length + 1:=by
 unfold numT
 split
 ·rw [List.length_drop];omega
 ·omega
theorem yGly {s:List UInt8} (hok:numOk s = true) (R:Type) (k:Int→Option R):strconv_Atoi s k = k ((Lib.atoi s).getD 0):=by
 have hok':=hok
 unfold numOk at hok
 rw [Bool.and_eq_true,Bool.and_eq_true] at hok
 have hl:=yG1y s
 have h15:=of_decide_eq_true hok.2.1
 obtain ⟨m,hm⟩:=ytdy (numT s) 0 hok.2.2
 have ha:=yscy hok' hm
 show (bif decide (s.length≤18)&&(Lib.atoi s).isSome then k ((Lib.atoi s).getD 0) else none) = _
 rw [decide_eq_true (by omega),ha];rfl
theorem yNOy {s:List UInt8} (hok:numOk s = true):numT (numT s) = numT s∧yb8y (numT s) = false∧numOk (numT s) = true:=by
 have hok':=hok
 unfold numOk at hok
 rw [Bool.and_eq_true,Bool.and_eq_true,Bool.not_eq_true'] at hok
 have hn:yb8y (numT s) = false:=by
  cases ht:numT s with
  | nil=>rfl
  | cons b r =>
   have h:=hok.2.2
   rw [ht,List.all_cons,Bool.and_eq_true] at h
   unfold yb8y
   cases h45:(b::r).head? == some 45 with
   | false=>rfl
   | true =>
    have:b = 45:=by simpa using h45
    rw [this] at h;exact absurd h.1 (by decide)
 have e:numT (numT s) = numT s:=by
  show (if yb8y (numT s) then (numT s).drop 1 else numT s) = numT s
  rw [hn];rfl
 refine ⟨e,hn,?_⟩
 unfold numOk
 rw [e]
 exact hok'
theorem yizy {s:List UInt8} (hl:s.length≤1000000) (R:Type) (k:Int→Bool→Option R):kit_Number s 15 k = (numG s).elim (k 0 false) fun n=>k n true:=by
 have h1:∀ k:List UInt8→Bool→Option R,ycTy.z68z s [45] k = k (numT s) (yb8y s):=fun k=>z68z_g s R k
 have hT:(numT s).length≤1000000:=by unfold numT;split;(rw [List.length_drop];omega);exact hl
 have h2:∀ k:List UInt8→Option R,ycTy.strings_Trim (numT s) digS k = k (Lib.trimS (numT s) digS):=fun k=>yETy hT (by decide) R k
 show yhay ycTy s 15 k = _
 unfold yhay
 rw [h1]
 unfold numG
 cases hok:numOk s with
 | false =>
  show _ = k 0 false
  unfold numOk at hok
  cases he:numT s == [] with
  | true=>rfl
  | false =>
   rw [cond_false]
   by_cases h15:(numT s).length≤15
   ·rw [decide_eq_false (show ¬ ((numT s).length:Int) > 15 by omega),cond_false,h2,yqwy]
    rw [he,decide_eq_true h15,Bool.not_false,Bool.true_and,Bool.true_and] at hok
    rw [hok];rfl
   ·rw [decide_eq_true (show ((numT s).length:Int) > 15 by omega),cond_true]
 | true =>
  obtain ⟨tT,tN,tok⟩:=yNOy hok
  have h3:∀ k:Int→Option R,ycTy.strconv_Atoi (numT s) k = k ((Lib.atoi (numT s)).getD 0):=fun k=>yGly tok R k
  have hok':=hok
  unfold numOk at hok'
  rw [Bool.and_eq_true,Bool.and_eq_true,Bool.not_eq_true'] at hok'
  obtain ⟨he,h15,hall⟩:=hok'
  have h15:=of_decide_eq_true h15
  obtain ⟨m,hm⟩:=ytdy (numT s) 0 hall
  have ha:=yscy hok hm
  have hat:=yscy tok (by rw [tT];exact hm)
  have hlt:=Lib.decFrom_lt18 hm (by omega)
  rw [he,cond_false,decide_eq_false (show ¬ ((numT s).length:Int) > 15 by omega),cond_false,h2,yqwy,hall,Bool.not_true,cond_false]
  obtain ⟨b,r,hbr⟩:∃ b r,numT s = b::r:=by
   cases h:numT s with
   | nil=>rw [h] at he;cases he
   | cons b r=>exact ⟨b,r,rfl⟩
  have hat0:∀ k:UInt8→Option R,at_ (numT s) 0 k = k b:=fun k=>yboy (i:=0) (by rw [hbr];rfl) k
  have hb:((b.toNat:Int) == 48) = ((numT s).head? == some 48):=by
   rw [hbr,List.head?_cons]
   by_cases hb:b = 48
   ·subst hb;rfl
   ·have hn:b.toNat≠48:=fun h=>hb (UInt8.toNat_inj.1 h)
    have h1:((b.toNat:Int) == 48) = false:=beq_eq_false_iff_ne.2 (by omega)
    have h2:(some b == some (48:UInt8)) = false:=beq_eq_false_iff_ne.2 fun h=>hb (Option.some.inj h)
    rw [h1,h2]
  have hgt:decide (((numT s).length:Int) > 1) = decide ((numT s).length > 1):=by
   by_cases h:(numT s).length > 1
   ·rw [decide_eq_true h,decide_eq_true (by omega)]
   ·rw [decide_eq_false h,decide_eq_false (by omega)]
  rw [hat0,hb,h3,hgt,hat,ha,tN]
  have hw:w64 (0 - (m:Int)) = -(m:Int):=by rw [yaFy (by omega) (by omega)];omega
  simp only [Bool.false_eq_true,if_false,Option.getD_some,hw]
  cases (numT s).head? == some 48 <;> cases decide ((numT s).length > 1) <;> cases yb8y s <;> rfl
def numQ (s:List UInt8):Int:=if numOk s then (Lib.atoi s).getD 0 else 0
theorem yN2y {s:List UInt8} {n:Int} (h:numG s = some n):numQ s = n:=by
 unfold numG at h
 unfold numQ
 cases hok:numOk s with
 | false=>rw [hok] at h;cases h
 | true =>
  rw [hok] at h
  simp only [Bool.true_and] at h
  split at h
  ·exact Option.some.inj h
  ·cases h
end Go.Am
set_option linter.unusedVariables false
set_option linter.unusedSectionVars false
set_option linter.unusedSimpArgs false
set_option maxRecDepth 100000
namespace Go.Am
open Go Go.Proofs
variable [Fuel]
theorem yicy {c:UInt8} {s:List UInt8} (h:s.count c = 0):yaAy c s = [s]:=by
 have:(yaAy c s).length = 1:=by rw [yf0y,h]
 rw [yf2y] at this ⊢
 cases hc:(cutB c s).2.2 with
 | false=>rfl
 | true =>
  rw [hc,cond_true,List.length_cons] at this
  have h2:=ym4y c (cutB c s).2.1
  have:=List.length_pos_iff.2 h2
  omega
theorem ymwy (c:UInt8):∀ (m:Nat) (s:List UInt8) (n i:Nat) (done:List (List UInt8)),s.count c = m→s.length≤1000000→done.length = i→i + m≤1000000→m < n →
  ∃ last pre,yaAy c s = pre++[last]∧pre.length = m∧∀ (R:Type) (e0:List UInt8→Int→List (List UInt8)→Option R),
   z33z_L11 yeBy n s [c] 0 ((i + m:Nat):Int) (i:Int) (done++List.replicate (m + 1) []) e0 = e0 last ((i + m:Nat):Int) (done++(pre++[[]]))
 | _,_,0,_,_,_,_,_,_,h=>by omega
 | 0,s,n + 1,i,done,hc,hl,hd,hi,_=>by
  refine ⟨s,[],by rw [yicy hc];rfl,rfl,fun R e0=>?_⟩
  rw [z33z_L11,decide_eq_false (show ¬ ((i:Int) < ((i + 0:Nat):Int)) by omega),cond_false]
  rfl
 | m + 1,s,n + 1,i,done,hc,hl,hd,hi,hn=>by
  have hcon:s.contains c = true:=by
   rw [List.contains_iff_mem]
   exact List.count_pos_iff.1 (by omega)
  obtain ⟨j,e1,e2,e3,e4⟩:=ygUy c s hcon
  have hcut:=ydPy c s j e3 e4
  have hdec:s = s.take j++c::s.drop (j + 1):=by
   have:=List.drop_eq_getElem_cons (l:=s) (i:=j) e2
   have hg:s[j] = c:=by rw [List.getElem?_eq_getElem e2] at e3;exact Option.some.inj e3
   rw [hg] at this
   rw [← this,List.take_append_drop]
  have hct:(s.take j).count c = 0:=by
   rw [List.count_eq_zero]
   intro h
   rw [← List.contains_iff_mem,e4] at h
   cases h
  have hcd:(s.drop (j + 1)).count c = m:=by
   have h:=congrArg (List.count c) hdec
   rw [List.count_append,List.count_cons_self,hct,hc] at h
   omega
  obtain ⟨last,pre,p1,p2,p3⟩:=ymwy c m (s.drop (j + 1)) n (i + 1) (done++[s.take j]) hcd (by rw [List.length_drop];omega) (by rw [List.length_append,hd];rfl) (by omega) (by omega)
  refine ⟨last,s.take j::pre,?_,by rw [List.length_cons,p2],fun R e0=>?_⟩
  ·rw [yf2y,hcut,cond_true,p1];rfl
  ·have h1:∀ k:Int→Option R,yeBy.strings_Index s [c] k = k (j:Int):=fun k=>by rw [← e1];rfl
   have hw0:w64 ((j:Int) + 0) = (j:Int):=by rw [yaFy (by omega) (by omega)];omega
   have hw1:w64 ((j:Int) + ((([c]:List UInt8).length:Nat):Int)) = ((j + 1:Nat):Int):=yayy (show j < 4611686018427387904 by omega)
   have g1:(decide (0≤(j:Int))&&decide ((j:Int)≤(s.length:Int))) = true:=by simp;omega
   have g2:(decide (0≤((j + 1:Nat):Int))&&decide (((j + 1:Nat):Int)≤(s.length:Int))) = true:=by simp;omega
   have hlen:i < (done++List.replicate (m + 1 + 1) ([]:List UInt8)).length:=by simp;omega
   have hget:(done++List.replicate (m + 1 + 1) ([]:List UInt8))[i]? = some []:=by
    rw [List.getElem?_append_right (by omega),List.getElem?_replicate,if_pos (by omega)]
   rw [z33z_L11,decide_eq_true (show ((i:Int) < ((i + (m + 1):Nat):Int)) by omega),cond_true,h1,decide_eq_false (show ¬ ((j:Int) < 0) by omega),cond_false,hw0,g1,cond_true,ybMy hlen,yboy hget,hw1,g2,cond_true,yayy (show i < 4611686018427387904 by omega),ygLy]
   have hset:(done++List.replicate (m + 1 + 1) ([]:List UInt8)).set i (s.take j) = (done++[s.take j])++List.replicate (m + 1) []:=by
    rw [List.replicate_succ,← hd,ygsy,List.append_assoc];rfl
   have hi':((j:Int)).toNat = j:=by omega
   have hi2:(((j + 1:Nat):Int)).toNat = j + 1:=by omega
   rw [hi',hi2,hset,show i + (m + 1) = i + 1 + m by omega,p3,List.append_assoc];rfl
theorem yAuy {s:List UInt8} (c:UInt8) (hl:s.length≤900000) (R:Type) (k:List (List UInt8)→Option R):z71z s [c] k = k (yaAy c s):=by
 have hcl:s.count c≤s.length:=List.count_le_length
 have h1:∀ k:Int→Option R,yeBy.strings_Count s [c] k = k ((s.count c:Nat):Int):=fun k=>rfl
 obtain ⟨last,pre,p1,p2,p3⟩:=ymwy c (s.count c) s NN 0 [] rfl (by omega) rfl (by omega) (by have:=NN_ok;omega)
 have hw1:w64 ((s.length:Int) + 1) = ((s.length + 1:Nat):Int):=yayy (by omega)
 have hw2:w64 (((s.count c:Nat):Int) + 1) = ((s.count c + 1:Nat):Int):=yayy (by omega)
 have hmin:(if ((s.length + 1:Nat):Int) < ((s.count c + 1:Nat):Int) then ((s.length + 1:Nat):Int) else ((s.count c + 1:Nat):Int)) = ((s.count c + 1:Nat):Int):=if_neg (by omega)
 have hw3:w64 (((s.count c + 1:Nat):Int) - 1) = ((s.count c:Nat):Int):=by rw [yliy (by omega) (by omega)];rfl
 have g1:(decide (0≤((s.count c + 1:Nat):Int))&&(decide (((s.count c + 1:Nat):Int)≤((s.count c + 1:Nat):Int))&&decide (((s.count c + 1:Nat):Int) * (16:Nat)≤140737488355328))) = true:=by simp;omega
 show z33z_ yeBy s [c] 0 (-1) k = _
 unfold z33z_
 have e0:((-1:Int) == 0) = false:=rfl
 have e1:(([c]:List UInt8) == []) = false:=rfl
 have e2:decide ((-1:Int) < 0) = true:=rfl
 rw [e0,e1,e2,cond_false,cond_false,cond_true,h1,hw1,hw2,hmin,g1,cond_true,hw3]
 have hrep:(((s.count c + 1:Nat):Int)).toNat = s.count c + 1:=by omega
 rw [hrep]
 have:=p3 R (fun e16 e17 e18=>(inr e18 e17 (at_ e18 e17 fun x19=>(bif (decide (0≤(w64 (e17 + 1)))&&decide ((w64 (e17 + 1))≤((set_ e18 e17 e16).length:Int))) then k ((set_ e18 e17 e16).take ((w64 (e17 + 1)):Int).toNat) else none))))
 rw [Nat.zero_add,List.nil_append,List.nil_append] at this
 refine this.trans ?_
 have hlen:s.count c < (pre++[([]:List UInt8)]).length:=by simp;omega
 have hget:(pre++[([]:List UInt8)])[s.count c]? = some []:=by rw [← p2];simp
 have hset:(pre++[([]:List UInt8)]).set (s.count c) last = yaAy c s:=by
  rw [← p2,ygsy,p1]
 rw [ybMy hlen,yboy hget,hw2,ygLy,hset]
 have hsl:(yaAy c s).length = s.count c + 1:=yf0y c s
 have g2:(decide (0≤((s.count c + 1:Nat):Int))&&decide (((s.count c + 1:Nat):Int)≤((yaAy c s).length:Int))) = true:=by rw [hsl];simp;omega
 rw [g2,cond_true,hrep,List.take_of_length_le (by omega)]
def idxG (x:List UInt8):List (List UInt8)→Int
 | []=>-1
 | y::ys=>if x == y then 0 else if idxG x ys == -1 then -1 else idxG x ys + 1
theorem yBay (x:List UInt8):∀ l,-1≤idxG x l∧idxG x l < (l.length:Int)
 | []=>by simp [idxG]
 | y::ys=>by
  have ih:=yBay x ys
  unfold idxG
  split
  ·refine ⟨by omega,?_⟩;rw [List.length_cons];omega
  ·split
   ·simp;omega
   ·simp;omega
theorem yrry (x:List UInt8) (d:List (List UInt8)) (hl:d.length≤1000000):∀ (xs:List (List UInt8)) (n i:Nat),d.drop i = xs→xs.length < n→∀ (R:Type) (e0:Int→Option R) (e1:Option R),
  z26z_L2 NN n d x (d.length:Int) (i:Int) e0 e1 = bif idxG x xs == -1 then e1 else e0 ((i:Int) + idxG x xs)
 | _,0,_,_,h,_,_,_=>by omega
 | [],n + 1,i,h,_,R,e0,e1=>by rw [z26z_L2,ya5y h];rfl
 | y::ys,n + 1,i,h,hn,R,e0,e1=>by
  have h':=yaty h
  have hlt:=h'.2.1
  have ih:=yrry x d hl ys n (i + 1) h'.2.2.1 (Nat.lt_of_succ_lt_succ (by simpa only [List.length_cons] using hn)) R e0 e1
  rw [z26z_L2,yaWy h,cond_true,ybay h,yayy (show i < 4611686018427387904 by omega),ih]
  have hge:=yBay x ys
  show _ = bif (if x == y then (0:Int) else if idxG x ys == -1 then -1 else idxG x ys + 1) == -1 then e1 else e0 ((i:Int) + if x == y then (0:Int) else if idxG x ys == -1 then -1 else idxG x ys + 1)
  cases x == y with
  | true =>
   rw [cond_true,if_pos rfl,show ((0:Int) == -1) = false from rfl,cond_false]
   congr 1
  | false =>
   simp only [cond_false,Bool.false_eq_true,if_false]
   cases h1:idxG x ys == -1 with
   | true=>rfl
   | false =>
    have:=beq_eq_false_iff_ne.1 h1
    have h2:(idxG x ys + 1 == -1) = false:=beq_eq_false_iff_ne.2 (by omega)
    simp only [cond_false,Bool.false_eq_true,if_false]
    rw [h2,cond_false]
    congr 1
    omega
theorem ykxy (x:List UInt8) (d:List (List UInt8)) (hl:d.length≤1000000) (R:Type) (k:Int→Option R):z26z d x k = k (idxG x d):=by
 show z26z_L2 NN NN d x (d.length:Int) ((0:Nat):Int) (fun e=>k e) (k (-1)) = _
 refine (yrry x d hl d NN 0 rfl (by have:=NN_ok;omega) R _ _).trans ?_
 cases h:idxG x d == -1 with
 | true=>rw [beq_iff_eq.1 h];rfl
 | false =>
  rw [cond_false]
  congr 1
  omega
theorem yrUy (d:List (List UInt8)) (hl:d.length≤1000000):∀ (xs:List (List UInt8)) (n i:Nat),d.drop i = xs→xs.length < n→∀ (R:Type) (e0:Bool→List (List UInt8)→Option R) (e1:List (List UInt8)→Option R),
  ycfy ybUy n (d.length:Int) (i:Int) d e0 e1 = bif xs.contains [] then e0 false d else e1 d
 | _,0,_,_,h,_,_,_=>by omega
 | [],n + 1,i,h,_,R,e0,e1=>by rw [ycfy,ya5y h];rfl
 | y::ys,n + 1,i,h,hn,R,e0,e1=>by
  have h':=yaty h
  have hlt:=h'.2.1
  have ih:=yrUy d hl ys n (i + 1) h'.2.2.1 (Nat.lt_of_succ_lt_succ (by simpa only [List.length_cons] using hn)) R e0 e1
  rw [ycfy,yaWy h,cond_true,yePy h,yboy h'.1,yayy (show i < 4611686018427387904 by omega),ih,List.contains_cons]
  have hc:(([]:List UInt8) == y) = (y == []):=by cases y <;> rfl
  rw [hc]
  cases y == [] <;> rfl
def ykly (s:List UInt8):Bool:=!(yaAy 32 s).contains []
theorem yyQy {s:List UInt8} (hl:s.length≤900000) (R:Type) (k:List (List UInt8)→Bool→Option R):kit_Words s k = bif ykly s then k (yaAy 32 s) true else k [] false:=by
 have h1:∀ k:List (List UInt8)→Option R,ybUy.z71z s [32] k = k (yaAy 32 s):=fun k=>yAuy 32 hl R k
 have hsl:(yaAy 32 s).length = s.count 32 + 1:=yf0y 32 s
 have hcl:s.count 32≤s.length:=List.count_le_length
 show ybUy.z71z s [32] _ = _
 rw [h1]
 refine (yrUy (yaAy 32 s) (by omega) (yaAy 32 s) NN 0 rfl (by have:=NN_ok;omega) R _ _).trans ?_
 unfold ykly
 cases (yaAy 32 s).contains [] <;> rfl
def ybIy (s:List UInt8):Bool:=s.getLast? == some 10
def chop (s:List UInt8):List UInt8:=if ybIy s then s.dropLast else s
theorem yy5y {s:List UInt8} (hl:s.length≤1000000) (R:Type) (k:List UInt8→Bool→Option R):z70z s [10] k = k (chop s) (ybIy s):=by
 cases hs:s with
 | nil=>rfl
 | cons b l =>
  rw [← hs]
  have hlen:1≤s.length:=by rw [hs];simp
  have hw:w64 ((s.length:Int) - ((([10]:List UInt8).length:Nat):Int)) = ((s.length - 1:Nat):Int):=yliy (by omega) (by omega)
  have g1:decide ((s.length:Int) ≥ ((([10]:List UInt8).length:Nat):Int)) = true:=by simp;omega
  have g2:(decide (0≤((s.length - 1:Nat):Int))&&decide (((s.length - 1:Nat):Int)≤(s.length:Int))) = true:=by rw [decide_eq_true (by omega),decide_eq_true (by omega)];rfl
  have hto:(((s.length - 1:Nat):Int)).toNat = s.length - 1:=by omega
  have hdrop:(s.drop (s.length - 1) == [10]) = ybIy s:=by
   unfold ybIy
   have hne:s≠[]:=by rw [hs];exact List.cons_ne_nil _ _
   have hsp:s = s.dropLast++[s.getLast hne]:=(List.dropLast_concat_getLast hne).symm
   have hd:s.drop (s.length - 1) = [s.getLast hne]:=by
    conv=>lhs;rw [hsp]
    rw [List.drop_append]
    simp
   rw [hd,List.getLast?_eq_some_getLast hne]
   simp
  have h1:∀ k:Bool→Option R,yrIy.z72z s [10] k = k (ybIy s):=fun k=>by
   show z72z_ NN s [10] k = _
   unfold z72z_
   rw [g1,cond_true,hw,g2,cond_true,hto,hdrop]
  show z61z_ yrIy s [10] k = _
  unfold z61z_ chop
  rw [h1,hw,g2,cond_true,hto]
  cases ybIy s with
  | false=>rfl
  | true =>
   rw [Bool.not_true,cond_false,if_pos rfl,List.dropLast_eq_take]
def yfxy (s:List UInt8):List (List UInt8):=if s == [] then [] else yaAy 10 (chop s)
def endG (s:List UInt8):Bool:=s == [] || ybIy s
theorem yHOy (s:List UInt8):(chop s).length≤s.length:=by
 unfold chop;split
 ·rw [List.length_dropLast];omega
 ·exact Nat.le_refl _
theorem yy8y {s:List UInt8} (hl:s.length≤900000) (R:Type) (k:List (List UInt8)→Bool→Option R):kit_Lines s k = k (yfxy s) (endG s):=by
 have h1:∀ k:List UInt8→Bool→Option R,yexy.z70z s [10] k = k (chop s) (ybIy s):=fun k=>yy5y (by omega) R k
 have h2:∀ k:List (List UInt8)→Option R,yexy.z71z (chop s) [10] k = k (yaAy 10 (chop s)):=fun k=>yAuy 10 (by have:=yHOy s;omega) R k
 show yigy yexy s k = _
 unfold yigy yfxy endG
 rw [h1,h2]
 cases s == [] <;> rfl
def goG {α:Type} (f:List UInt8→Option α) (ended:Bool):Nat→List (List UInt8)→List α→Sum Nat (List α)
 | _,[],acc=>.inr acc
 | i,l::ls,acc=>match (if !ended&&ls == [] then none else f l) with
  | none=>.inl i
  | some a=>goG f ended (i + 1) ls (acc++[a])
theorem ylKy {α:Type} (f:List UInt8→Option α) (ended:Bool) (i:Nat) (l:List UInt8) (ls:List (List UInt8)) (acc:List α):goG f ended i (l::ls) acc = match (if !ended&&ls == [] then none else f l) with
  | none=>.inl i
  | some a=>goG f ended (i + 1) ls (acc++[a]):=rfl
def goQ {α:Type} (f:List UInt8→Option α):Nat→Nat→List UInt8→List α→Sum Nat (List α)
 | 0,i,_,_=>.inl i
 | n + 1,i,t,acc=>if t == [] then .inr acc else if !(cutB 10 t).2.2 then .inl i else match f (cutB 10 t).1 with
  | none=>.inl i
  | some a=>goQ f n (i + 1) (cutB 10 t).2.1 (acc++[a])
theorem yGiy (t:List UInt8) (h:(cutB 10 t).2.2 = true):t = (cutB 10 t).1++10::(cutB 10 t).2.1:=by
 rw [yBVy] at h
 obtain ⟨j,e1,e2,e3,e4⟩:=ygUy 10 t h
 rw [ydPy 10 t j e3 e4]
 have:=List.drop_eq_getElem_cons (l:=t) (i:=j) e2
 have hg:t[j] = 10:=by rw [List.getElem?_eq_getElem e2] at e3;exact Option.some.inj e3
 rw [hg] at this
 show t = t.take j++10::t.drop (j + 1)
 rw [← this,List.take_append_drop]
theorem yN4y (t:List UInt8):(cutB 10 t).1.contains 10 = false:=by
 cases h:t.contains 10 with
 | false=>rw [ynGy 10 t h];exact h
 | true =>
  obtain ⟨j,e1,e2,e3,e4⟩:=ygUy 10 t h
  rw [ydPy 10 t j e3 e4]
  exact e4
theorem yMby {a b:List UInt8} (h:a.contains 10 = false):cutB 10 (a++10::b) = (a,b,true):=by
 have:=ydPy 10 (a++10::b) a.length (by simp) (by rw [List.take_left'];exact h;rfl)
 rw [this]
 simp
theorem goQ_G {α:Type} (f:List UInt8→Option α):∀ (n i:Nat) (t:List UInt8) (acc:List α),t.length < n→goQ f n i t acc = goG f (endG t) i (yfxy t) acc
 | 0,_,_,_,h=>by omega
 | n + 1,i,t,acc,h=>by
  cases ht:t == [] with
  | true =>
   rw [beq_iff_eq.1 ht];rfl
  | false =>
   have hne:t≠[]:=beq_eq_false_iff_ne.1 ht
   have hL:yfxy t = yaAy 10 (chop t):=by unfold yfxy;rw [ht];rfl
   have hE:endG t = ybIy t:=by unfold endG;rw [ht];rfl
   rw [goQ,ht,hL,hE,if_neg (by decide)]
   cases hc:(cutB 10 t).2.2 with
   | false =>
    have hcon:t.contains 10 = false:=by rw [← yBVy];exact hc
    have hend:ybIy t = false:=by
     unfold ybIy
     rw [beq_eq_false_iff_ne]
     intro hl
     have:=List.mem_of_getLast? hl
     rw [← List.contains_iff_mem,hcon] at this
     cases this
    have hchop:chop t = t:=by unfold chop;rw [hend];rfl
    have hcnt:t.count 10 = 0:=by
     rw [List.count_eq_zero];intro hm
     rw [← List.contains_iff_mem,hcon] at hm;cases hm
    rw [hchop,yicy hcnt,hend,ylKy]
    rfl
   | true =>
    rw [if_neg (by decide)]
    have hback:=yGiy t hc
    have hno:=yN4y t
    have hlen:=(ywBy 10 t).2 hc
    generalize (cutB 10 t).1 = a at *
    generalize (cutB 10 t).2.1 = b at *
    subst hback
    cases hb:b == [] with
    | true =>
     have:=beq_iff_eq.1 hb
     subst this
     have hend:ybIy (a++[10]) = true:=by unfold ybIy;simp
     have hchop:chop (a++[10]) = a:=by unfold chop;rw [hend];simp
     have hcnt:a.count 10 = 0:=by
      rw [List.count_eq_zero];intro hm
      rw [← List.contains_iff_mem,hno] at hm;cases hm
     rw [hchop,yicy hcnt,hend,ylKy]
     show _ = match f a with | none=>_ | some x=>_
     cases f a with
     | none=>rfl
     | some x =>
      show goQ f n (i + 1) [] _ = _
      cases n with
      | zero=>omega
      | succ n=>rfl
    | false =>
     have hbne:b≠[]:=beq_eq_false_iff_ne.1 hb
     have hend:ybIy (a++10::b) = ybIy b:=by
      unfold ybIy
      rw [List.getLast?_append,List.getLast?_cons]
      cases hg:b.getLast? with
      | none=>exact absurd (List.getLast?_eq_none_iff.1 hg) hbne
      | some x=>rfl
     have hchop:chop (a++10::b) = a++10::chop b:=by
      unfold chop
      rw [hend]
      cases ybIy b with
      | false=>rfl
      | true =>
       rw [if_pos rfl,if_pos rfl,List.dropLast_append_of_ne_nil (List.cons_ne_nil _ _),List.dropLast_cons_of_ne_nil hbne]
     have hsp:yaAy 10 (chop (a++10::b)) = a::yaAy 10 (chop b):=by
      rw [hchop,yf2y,yMby hno];rfl
     have ih:=fun acc=>goQ_G f n (i + 1) b acc (by omega)
     have hLb:yfxy b = yaAy 10 (chop b):=by unfold yfxy;rw [hb];rfl
     have hEb:endG b = ybIy b:=by unfold endG;rw [hb];rfl
     rw [hsp,hend,ylKy]
     have hnn:(yaAy 10 (chop b) == []) = false:=beq_eq_false_iff_ne.2 (ym4y _ _)
     rw [hnn,Bool.and_false]
     show _ = match f a with | none=>_ | some x=>_
     cases f a with
     | none=>rfl
     | some x =>
      show goQ f n (i + 1) b _ = goG f (ybIy b) (i + 1) (yaAy 10 (chop b)) _
      rw [ih,hLb,hEb]
end Go.Am
set_option linter.unusedVariables false
set_option linter.unusedSectionVars false
set_option linter.unusedSimpArgs false
set_option maxRecDepth 100000
namespace Go.Am
open Go Go.Proofs
variable [Fuel]
abbrev Wide (x:Int):Prop:=-1000000000000000000≤x∧x≤1000000000000000000
theorem yj7y {s:List UInt8} (hl:s.length≤1000000) (R:Type) (k:Bool→Option R):kit_IsKey s k = k (keyB s):=by
 have e:keyB s = keyG s:=by unfold keyB;rw [yjMy hl];rfl
 rw [yjMy hl,e]
def numB (s:List UInt8):Bool:=(numG s).isSome
theorem yymy {s:List UInt8}:numG s = if numB s then some (numQ s) else none:=by
 unfold numB
 cases h:numG s with
 | none=>rfl
 | some n=>rw [yN2y h];rfl
theorem yn6y (d:List (List UInt8)) (hd:∀ w∈d,w.length≤1000000) (hl:d.length≤1000):∀ (xs:List (List UInt8)) (n i:Nat) (acc:List Int),d.drop i = xs→xs.length < n→acc.length≤i→∀ (R:Type) (e0:Bool→Option R) (e1:List Int→Option R),
  z48z_L3 yhry n d (d.length:Int) (i:Int) acc (fun b _=>e0 b) e1 = bif xs.all numB then e1 (acc++xs.map numQ) else e0 false
 | _,0,_,_,_,h,_,_,_,_=>by omega
 | [],n + 1,i,acc,h,_,_,R,e0,e1=>by
  rw [z48z_L3,ya5y h,List.map_nil,List.append_nil];rfl
 | w::ws,n + 1,i,acc,h,hn,ha,R,e0,e1=>by
  have h':=yaty h
  have hlt:=h'.2.1
  have ih:=yn6y d hd hl ws n (i + 1) (acc++[numQ w]) h'.2.2.1 (Nat.lt_of_succ_lt_succ (by simpa only [List.length_cons] using hn)) (by simp;omega) R e0 e1
  have hN:∀ k:Int→Bool→Option R,yhry.kit_Number w 15 k = (numG w).elim (k 0 false) fun n=>k n true:=fun k=>yizy (hd w (ycpy h)) R k
  rw [z48z_L3,yaWy h,cond_true,ybay h,hN,List.all_cons,yymy]
  cases numB w with
  | false=>rfl
  | true =>
   show (bif !true then e0 false else bif decide ((acc.length + [numQ w].length) * 8≤yady) then _ else none) = _
   rw [Bool.not_true,cond_false,room1 acc _ 8 (by omega) (by omega),cond_true,yayy (show i < 4611686018427387904 by omega),ih,List.append_assoc];rfl
theorem z48z_g {d:List (List UInt8)} (hd:∀ w∈d,w.length≤1000000) (hl:d.length≤1000) (R:Type) (k:List Int→Bool→Option R):z48z d k = bif d.all numB then k (d.map numQ) true else k [] false:=by
 exact yn6y d hd hl d NN 0 [] rfl (by have:=NN_ok;omega) (Nat.zero_le _) R (fun b=>k [] b) (fun e=>k e true)
def ybby:List (List UInt8):=[[],[99,111,100,101],[118,111,105,99,101],[100,97,116,97]]
def ydmy (s:List UInt8):List UInt8:=if s == [45] then [] else s
theorem ynoy (s:List UInt8) (R:Type) (k:List UInt8→Option R):kit_Undash s k = k (ydmy s):=by
 show yhby NN s k = _
 unfold yhby ydmy
 cases s == [45] <;> rfl
def contQ:List (List UInt8)→G_Contact
 | [w0,w1,w2,w3,w4,w5,w6,w7]=>⟨numQ w0,idxG w1 ybby,w2,w3,numQ w4,numQ w6,ydmy w5,ydmy w7⟩
 | _=>⟨0,0,[],[],0,0,[],[]⟩
def contB:List (List UInt8)→Bool
 | [w0,w1,w2,w3,w4,w5,w6,w7]=>[w0,w4,w6].all numB&&decide (idxG w1 ybby > 0)
 | _=>false
theorem eight {ws:List (List UInt8)}:(((ws.length:Int) != 8) = true∧contB ws = false∧contQ ws = ⟨0,0,[],[],0,0,[],[]⟩) ∨ ∃ w0 w1 w2 w3 w4 w5 w6 w7,ws = [w0,w1,w2,w3,w4,w5,w6,w7]:=by
 match ws with
 | [w0,w1,w2,w3,w4,w5,w6,w7]=>exact .inr ⟨w0,w1,w2,w3,w4,w5,w6,w7,rfl⟩
 | []=>exact .inl ⟨rfl,rfl,rfl⟩
 | [_]=>exact .inl ⟨rfl,rfl,rfl⟩
 | [_,_]=>exact .inl ⟨rfl,rfl,rfl⟩
 | [_,_,_]=>exact .inl ⟨rfl,rfl,rfl⟩
 | [_,_,_,_]=>exact .inl ⟨rfl,rfl,rfl⟩
 | [_,_,_,_,_]=>exact .inl ⟨rfl,rfl,rfl⟩
 | [_,_,_,_,_,_]=>exact .inl ⟨rfl,rfl,rfl⟩
 | [_,_,_,_,_,_,_]=>exact .inl ⟨rfl,rfl,rfl⟩
 | _::_::_::_::_::_::_::_::_::l=>exact .inl ⟨by rw [bne_iff_ne];simp only [List.length_cons];omega,rfl,rfl⟩
theorem z69z_g {ws:List (List UInt8)} (hd:∀ w∈ws,w.length≤1000000) (R:Type) (k:G_Contact→Bool→Option R):z69z ws k = bif contB ws then k (contQ ws) true else k ⟨0,0,[],[],0,0,[],[]⟩ false:=by
 show z69z_ ydOy ws k = _
 unfold z69z_
 rcases eight (ws:=ws) with ⟨h1,h2,h3⟩ | ⟨w0,w1,w2,w3,w4,w5,w6,w7,rfl⟩
 ·rw [h1,h2];rfl
 ·have n1:∀ k:Int→Option R,ydOy.z26z ybby w1 k = k (idxG w1 ybby):=fun k=>ykxy w1 ybby (by decide) R k
  have n2:∀ k:List Int→Bool→Option R,ydOy.z48z [w0,w4,w6] k = bif [w0,w4,w6].all numB then k [numQ w0,numQ w4,numQ w6] true else k [] false:=fun k=>z48z_g (d:=[w0,w4,w6]) (fun w hw=>by
   simp only [List.mem_cons,List.not_mem_nil,or_false] at hw
   rcases hw with rfl | rfl | rfl <;> exact hd _ (by simp)) (by simp) R k
  have n3:∀ k:List UInt8→Option R,ydOy.kit_Undash w5 k = k (ydmy w5):=fun k=>ynoy w5 R k
  have n4:∀ k:List UInt8→Option R,ydOy.kit_Undash w7 k = k (ydmy w7):=fun k=>ynoy w7 R k
  show ydOy.z26z ybby w1 (fun r4=>ydOy.z48z [w0,w4,w6] fun r8 r9=>_) = _
  rw [n1,n2]
  have eB:contB [w0,w1,w2,w3,w4,w5,w6,w7] = ([w0,w4,w6].all numB&&decide (idxG w1 ybby > 0)):=rfl
  have eQ:contQ [w0,w1,w2,w3,w4,w5,w6,w7] = ⟨numQ w0,idxG w1 ybby,w2,w3,numQ w4,numQ w6,ydmy w5,ydmy w7⟩:=rfl
  rw [eB,eQ]
  cases [w0,w4,w6].all numB with
  | false=>rfl
  | true =>
   rw [cond_true,Bool.not_true,cond_false,Bool.true_and]
   have hidx:decide (idxG w1 ybby > 0) = !decide (idxG w1 ybby < 1):=by
    by_cases h:idxG w1 ybby < 1
    ·rw [decide_eq_true h,decide_eq_false (by omega)];rfl
    ·rw [decide_eq_false h,decide_eq_true (by omega)];rfl
   rw [hidx]
   cases decide (idxG w1 ybby < 1) with
   | true=>rfl
   | false =>
    show ydOy.kit_Undash w5 (fun r17=>ydOy.kit_Undash w7 fun r18=>k ⟨numQ w0,idxG w1 ybby,w2,w3,numQ w4,numQ w6,r17,r18⟩ true) = _
    rw [n3,n4];rfl
end Go.Am
set_option linter.unusedVariables false
set_option linter.unusedSectionVars false
set_option linter.unusedSimpArgs false
set_option maxRecDepth 100000
namespace Go.Am
open Go Go.Proofs
variable [Fuel]
theorem ywVy (u:Nat):ascB (Lib.decDigits u):=by
 induction u using Nat.strongRecOn with
 | _ u ih =>
  intro x hx
  rw [Lib.decDigits] at hx
  have hone:∀ d,d < 10→(UInt8.ofNat (48 + d)).toNat < 128:=by decide
  split at hx
  ·rename_i hu
   rw [List.mem_singleton] at hx
   rw [hx];exact hone u hu
  ·rcases List.mem_append.1 hx with h | h
   ·exact ih (u / 10) (by omega) x h
   ·rw [List.mem_singleton] at h
    rw [h];exact hone _ (Nat.mod_lt _ (by omega))
theorem yp4y (n:Int):ascB (Lib.itoa n):=by
 unfold Lib.itoa
 split
 ·intro x hx
  rcases List.mem_cons.1 hx with h | h
  ·rw [h];decide
  ·exact ywVy _ x h
 ·exact ywVy _
theorem ybRy {n:Int} (h:Wide n):(Lib.itoa n).length≤21:=by
 have hd:∀ u,u < 10 ^ 20→(Lib.decDigits u).length≤20:=by
  have:∀ k u,u < 10 ^ (k + 1)→(Lib.decDigits u).length≤k + 1:=by
   intro k
   induction k with
   | zero =>
    intro u hu
    rw [Lib.decDigits,dif_pos (by omega)];simp
   | succ k ih =>
    intro u hu
    rw [Lib.decDigits]
    split
    ·simp
    ·rw [List.length_append]
     have:=ih (u / 10) (by rw [Nat.pow_succ] at hu;omega)
     simp;omega
  exact this 19
 have h20:(10:Nat) ^ 20 = 100000000000000000000:=by decide
 unfold Lib.itoa
 split
 ·have:=hd n.natAbs (by omega)
  simp;omega
 ·have:=hd n.toNat (by omega)
  omega
theorem yi4y {n:Int} (h:Wide n) (R:Type) (k:List UInt8→Option R):strconv_Itoa n k = k (Lib.itoa n):=by
 show (bif in64 n then k (Lib.itoa n) else none) = _
 have:in64 n = true:=by unfold in64;simp;omega
 rw [this];rfl
theorem yBQy {n:Nat}:∀ {ws:List (List UInt8)},(∀ w∈ws,w.length≤n)→Lib.lens ws≤n * ws.length
 | [],_=>by simp [Lib.lens]
 | w::ws,h=>by
  have h1:=h w (by simp)
  have h2:=yBQy (n:=n) (ws:=ws) fun v hv=>h v (List.mem_cons_of_mem _ hv)
  simp only [Lib.lens,List.map_cons,List.sum_cons,List.length_cons] at h2 ⊢
  rw [Nat.mul_succ]
  omega
theorem yi0y {n:Nat} {ws:List (List UInt8)} {sep:List UInt8} (h:∀ w∈ws,w.length≤n):(Lib.join ws sep).length≤sep.length * ws.length + n * ws.length:=by
 cases ws with
 | nil=>rw [Lib.join_nil];simp
 | cons w ws =>
  have:=yBQy h
  rw [Lib.join_length]
  have h2:sep.length * ws.length≤sep.length * (w::ws).length:=Nat.mul_le_mul_left _ (by simp)
  omega
theorem yHQy {ws:List (List UInt8)} {sep:List UInt8} (h:∀ w∈ws,ascB w) (hs:ascB sep):ascB (Lib.join ws sep):=by
 cases ws with
 | nil=>rw [Lib.join_nil];intro x hx;cases hx
 | cons w ws =>
  rw [Lib.join_cons]
  intro x hx
  rcases List.mem_append.1 hx with h1 | h1
  ·exact h w (by simp) x h1
  ·unfold Lib.joinTail at h1
   obtain ⟨l,hl,hxl⟩:=List.mem_flatten.1 h1
   obtain ⟨v,hv,rfl⟩:=List.mem_map.1 hl
   rcases List.mem_append.1 hxl with h2 | h2
   ·exact hs x h2
   ·exact h v (List.mem_cons_of_mem _ hv) x h2
theorem yESy {ws:List (List UInt8)} {sep:List UInt8} (hl:ws.length≤1000) (hw:∀ w∈ws,w.length≤1000000) (hs:sep.length≤1000) (R:Type) (k:List UInt8→Option R):strings_Join ws sep k = k (Lib.join ws sep):=by
 have e:ws.map (fun x=>x) = ws:=List.map_id' ws
 have h1:=yi0y (sep:=sep) hw
 have h2:sep.length * ws.length≤1000 * 1000:=Nat.mul_le_mul hs hl
 have h3:1000000 * ws.length≤1000000 * 1000:=Nat.mul_le_mul_left _ hl
 show (bif decide (ws.length≤140737488355328)&&decide ((Lib.join (ws.map fun x=>x) sep).length≤140737488355328) then k (Lib.join (ws.map fun x=>x) sep) else none) = _
 rw [e,decide_eq_true (by omega),decide_eq_true (by omega)];rfl
theorem ywry {x:UInt8} (h:x.toNat < 128):ascB [x]:=fun y hy=>by rw [List.mem_singleton.1 hy];exact h
theorem ydry {a b:List UInt8} (h:a.length + b.length≤9000000):strOk a b = true:=by
 unfold strOk
 exact decide_eq_true (by omega)
end Go.Am
set_option linter.unusedVariables false
set_option linter.unusedSectionVars false
set_option linter.unusedSimpArgs false
set_option maxRecDepth 100000
namespace Go.Am
open Go Go.Proofs
variable [Fuel]
theorem yAOy:∀ (t:List UInt8) (a:Nat) (b:UInt8) (n d:Nat),Lib.decFrom a t = some n→Lib.digitVal b = some d→Lib.decFrom a (t++[b]) = some (n * 10 + d)
 | [],a,b,n,d,h,hd=>by
  have:a = n:=Option.some.inj h
  subst this
  rw [List.nil_append,Lib.decFrom,hd];rfl
 | c::t,a,b,n,d,h,hd=>by
  rw [Lib.decFrom] at h
  cases hc:Lib.digitVal c with
  | none=>rw [hc] at h;cases h
  | some e =>
   rw [hc] at h
   rw [List.cons_append,Lib.decFrom,hc]
   exact yAOy t _ b n d h hd
theorem yEPy {d:Nat} (h:d < 10):Lib.digitVal (UInt8.ofNat (48 + d)) = some d:=by
 have:∀ d:Fin 10,Lib.digitVal (UInt8.ofNat (48 + d.val)) = some d.val:=by decide
 exact this ⟨d,h⟩
theorem yxry (u:Nat):Lib.decFrom 0 (Lib.decDigits u) = some u:=by
 induction u using Nat.strongRecOn with
 | _ u ih =>
  rw [Lib.decDigits]
  split
  ·rename_i hu
   rw [Lib.decFrom,yEPy hu]
   show some (0 * 10 + u) = some u
   rw [Nat.zero_mul,Nat.zero_add]
  ·rename_i hu
   rw [yAOy _ 0 _ _ _ (ih (u / 10) (by omega)) (yEPy (Nat.mod_lt u (by omega)))]
   congr 1;omega
theorem yyiy (u:Nat):((Lib.decDigits u).all fun b=>digS.contains b) = true:=by
 rw [List.all_eq_true]
 intro b hb
 obtain ⟨k,hk⟩:=List.getElem?_of_mem hb
 obtain ⟨d,hd⟩:=Lib.digit_of_decFrom _ 0 u (yxry u) k b hk
 rw [yAJy,hd];rfl
theorem yB9y {u:Nat} (h:u < 1000000000000000):(Lib.decDigits u).length≤15:=by
 have:∀ k u,u < 10 ^ (k + 1)→(Lib.decDigits u).length≤k + 1:=by
  intro k
  induction k with
  | zero =>
   intro u hu
   rw [Lib.decDigits,dif_pos (by omega)];simp
  | succ k ih =>
   intro u hu
   rw [Lib.decDigits]
   split
   ·simp
   ·rw [List.length_append]
    have:=ih (u / 10) (by rw [Nat.pow_succ] at hu;omega)
    simp;omega
 have h15:(10:Nat) ^ (14 + 1) = 1000000000000000:=by decide
 exact this 14 u (by omega)
theorem yeQy {n:Int} (h0:0≤n) (h1:n < 1000000000000000):numB (Lib.itoa n) = true∧numQ (Lib.itoa n) = n:=by
 obtain ⟨u,rfl⟩:∃ u:Nat,n = (u:Int):=⟨n.toNat,by omega⟩
 rw [Lib.itoa_nonneg]
 have hne:=ytry u
 have hall:=yyiy u
 have hneg:yb8y (Lib.decDigits u) = false:=by
  unfold yb8y
  cases hd:Lib.decDigits u with
  | nil=>exact absurd hd hne
  | cons b r =>
   rw [List.head?_cons]
   cases hb:some b == some (45:UInt8) with
   | false=>rfl
   | true =>
    have:b = 45:=Option.some.inj (beq_iff_eq.1 hb)
    rw [hd,this,List.all_cons,Bool.and_eq_true] at hall
    exact absurd hall.1 (by decide)
 have hT:numT (Lib.decDigits u) = Lib.decDigits u:=by unfold numT;rw [hneg];rfl
 have hok:numOk (Lib.decDigits u) = true:=by
  unfold numOk
  rw [hT,hall,decide_eq_true (yB9y (by omega)),beq_eq_false_iff_ne.2 hne];rfl
 have hat:=yscy hok (by rw [hT];exact yxry u)
 rw [hneg] at hat
 have hat':Lib.atoi (Lib.decDigits u) = some (u:Int):=hat
 have hcan:((Lib.decDigits u).head? == some 48&&(decide ((Lib.decDigits u).length > 1) || false)) = false:=by
  cases hh:(Lib.decDigits u).head? == some 48 with
  | false=>rfl
  | true =>
   have:=yD5y u (beq_iff_eq.1 hh)
   subst this
   rw [show Lib.decDigits 0 = [48] by rw [Lib.decDigits,dif_pos (by omega)];rfl];rfl
 constructor
 ·unfold numB numG
  rw [hok,hT,hneg,hcan];rfl
 ·unfold numQ
  rw [hok,if_pos rfl,hat'];rfl
theorem yBGy {u:Nat} {c:UInt8} (hc:digS.contains c = false):(Lib.decDigits u).contains c = false:=by
 cases h:(Lib.decDigits u).contains c with
 | false=>rfl
 | true =>
  have:=List.all_eq_true.1 (yyiy u) c (by simpa using h)
  rw [hc] at this;cases this
theorem yvVy {c:UInt8} {a b:List UInt8} (h:a.contains c = false):cutB c (a++c::b) = (a,b,true):=by
 have:=ydPy c (a++c::b) a.length (by simp) (by rw [List.take_left'];exact h;rfl)
 rw [this]
 simp
theorem yHPy {c:UInt8} {a:List UInt8} (h:a.contains c = false):a.count c = 0:=by
 rw [List.count_eq_zero];intro hm
 rw [← List.contains_iff_mem,h] at hm;cases hm
theorem yl0y {c:UInt8}:∀ {ws:List (List UInt8)},ws≠[]→(∀ w∈ws,w.contains c = false)→yaAy c (Lib.join ws [c]) = ws
 | [],h,_=>absurd rfl h
 | [w],_,h=>by rw [Lib.join_one,yicy (yHPy (h w (by simp)))]
 | w::v::r,_,h=>by
  have ih:=yl0y (c:=c) (ws:=v::r) (List.cons_ne_nil _ _) fun x hx=>h x (List.mem_cons_of_mem _ hx)
  have e:Lib.join (w::v::r) [c] = w++c::Lib.join (v::r) [c]:=by
   rw [Lib.join_cons,Lib.join_cons]
   simp [Lib.joinTail]
  rw [e,yf2y,yvVy (h w (by simp)),cond_true,ih]
theorem yLBy {c d:UInt8} (hcd:([d]:List UInt8).contains c = false) {ws:List (List UInt8)} (h:∀ w∈ws,w.contains c = false):(Lib.join ws [d]).contains c = false:=by
 cases hc:(Lib.join ws [d]).contains c with
 | false=>rfl
 | true =>
  exfalso
  have hm:c∈Lib.join ws [d]:=by simpa using hc
  cases ws with
  | nil=>rw [Lib.join_nil] at hm;cases hm
  | cons w ws =>
   rw [Lib.join_cons] at hm
   rcases List.mem_append.1 hm with h1 | h1
   ·have:=h w (by simp);rw [List.contains_iff_mem.2 h1] at this;cases this
   ·unfold Lib.joinTail at h1
    obtain ⟨l,hl,hxl⟩:=List.mem_flatten.1 h1
    obtain ⟨v,hv,rfl⟩:=List.mem_map.1 hl
    rcases List.mem_append.1 hxl with h2 | h2
    ·rw [List.contains_iff_mem.2 h2] at hcd;cases hcd
    ·have:=h v (List.mem_cons_of_mem _ hv);rw [List.contains_iff_mem.2 h2] at this;cases this
theorem ywdy {ws:List (List UInt8)} (hne:ws≠[]) (h:∀ w∈ws,w.contains 32 = false∧w≠[]):ykly (Lib.join ws [32]) = true:=by
 unfold ykly
 rw [yl0y hne fun w hw=>(h w hw).1]
 cases hc:ws.contains [] with
 | false=>rfl
 | true=>exact absurd rfl (h [] (by simpa using hc)).2
def yaEy {α:Type} (g:α→List UInt8):List α→List UInt8
 | []=>[]
 | c::cs=>(g c++[10])++yaEy g cs
theorem yx8y {α:Type} {f:List UInt8→Option α} {g:α→List UInt8}:∀ (x:List α) (n i:Nat) (acc:List α),(∀ c∈x,f (g c) = some c∧(g c).contains 10 = false)→(yaEy g x).length < n→goQ f n i (yaEy g x) acc = .inr (acc++x)
 | _,0,_,_,_,h=>by omega
 | [],n + 1,i,acc,_,_=>by
  rw [List.append_nil];rfl
 | c::cs,n + 1,i,acc,hf,hn=>by
  have hc:=hf c (by simp)
  have e:yaEy g (c::cs) = g c++10::yaEy g cs:=by
   show (g c++[10])++yaEy g cs = _
   rw [List.append_assoc];rfl
  have hl:(yaEy g cs).length < n:=by
   rw [e,List.length_append,List.length_cons] at hn;omega
  have hne:(yaEy g (c::cs) == []) = false:=by
   rw [e,beq_eq_false_iff_ne];simp
  rw [goQ,hne,if_neg (by decide),e,yvVy hc.2]
  show (if (!true) = true then _ else match f (g c) with | none=>_ | some a=>_) = _
  rw [hc.1,if_neg (by decide)]
  show goQ f n (i + 1) (yaEy g cs) (acc++[c]) = _
  rw [yx8y cs n (i + 1) (acc++[c]) (fun y hy=>hf y (List.mem_cons_of_mem _ hy)) hl,List.append_assoc];rfl
theorem yGmy {α:Type} {f:List UInt8→Option α} {g:α→List UInt8} {x:List α} (hf:∀ c∈x,f (g c) = some c∧(g c).contains 10 = false):goG f (endG (yaEy g x)) 0 (yfxy (yaEy g x)) [] = .inr x:=by
 rw [← goQ_G f ((yaEy g x).length + 1) 0 (yaEy g x) [] (by omega),yx8y x _ 0 [] hf (by omega),List.nil_append]
end Go.Am
set_option linter.unusedVariables false
set_option linter.unusedSectionVars false
set_option linter.unusedSimpArgs false
set_option maxRecDepth 100000
namespace Go.Am
open Go Go.Proofs
variable [Fuel]
theorem yHLy {c:G_Contact} (h:chk c = 0):1≤c.f_Mode∧c.f_Mode≤3:=by
 unfold chk at h
 cases h1:momB c.f_At with
 | false=>rw [h1] at h;cases h
 | true =>
  cases h2:inB c.f_Mode 1 3 with
  | false=>rw [h1,h2] at h;cases h
  | true=>exact ydly.1 h2
def dashS (s:List UInt8):List UInt8:=if s == [] then [45] else s
theorem ysxy (s:List UInt8) (R:Type) (k:List UInt8→Option R):kit_Dash s k = k (dashS s):=by
 show yjdy NN s k = _
 unfold yjdy dashS
 cases s == [] <;> rfl
def modeW (m:Int):List UInt8:=(ybby[m.toNat]?).getD []
def ybZy (c:G_Contact):List (List UInt8):=[Lib.itoa c.f_At,modeW c.f_Mode,c.f_Band,c.f_Call,Lib.itoa c.f_Sent,dashS c.f_Gave,Lib.itoa c.f_Heard,dashS c.f_Got]
def lineC (c:G_Contact):List UInt8:=Lib.join (ybZy c) [32]
structure Short (c:G_Contact):Prop where
 at1:Wide c.f_At
 mode:0≤c.f_Mode∧c.f_Mode≤3
 sent:Wide c.f_Sent
 heard:Wide c.f_Heard
 band:c.f_Band.length≤100∧ascB c.f_Band
 call:c.f_Call.length≤100∧ascB c.f_Call
 gave:c.f_Gave.length≤100∧ascB c.f_Gave
 got:c.f_Got.length≤100∧ascB c.f_Got
theorem yB3y {c:G_Contact} (h:Fine c) (hm:0≤c.f_Mode∧c.f_Mode≤3):Short c:=by
 have hk:∀ s∈keysL,s.length≤100∧∀ x∈s,x.toNat < 128:=by decide
 have hc:∀ s∈yely,s.length≤100∧∀ x∈s,x.toNat < 128:=by decide
 have a:=h.at1
 have b:=h.sent
 have d:=h.heard
 exact ⟨⟨by omega,by omega⟩,hm,⟨by omega,by omega⟩,⟨by omega,by omega⟩,hk _ h.band,hc _ h.call,hk _ h.gave,hk _ h.got⟩
theorem ypIy {s:List UInt8} (h:s.length≤100∧ascB s):(dashS s).length≤100∧ascB (dashS s):=by
 unfold dashS
 split
 ·exact ⟨by simp,ywry (by decide)⟩
 ·exact h
theorem yzxy (m:Int):(modeW m).length≤100∧ascB (modeW m):=by
 unfold modeW
 have:∀ s∈ybby,s.length≤100∧∀ x∈s,x.toNat < 128:=by decide
 cases h:ybby[m.toNat]? with
 | none=>exact ⟨by simp,fun x hx=>by cases hx⟩
 | some s=>exact this s (List.mem_of_getElem? h)
theorem yfoy {c:G_Contact} (h:Short c):∀ w∈ybZy c,w.length≤100∧ascB w:=by
 intro w hw
 have i1:=ybRy h.at1
 have i2:=ybRy h.sent
 have i3:=ybRy h.heard
 unfold ybZy at hw
 simp only [List.mem_cons,List.not_mem_nil,or_false] at hw
 rcases hw with rfl | rfl | rfl | rfl | rfl | rfl | rfl | rfl
 ·exact ⟨by omega,yp4y _⟩
 ·exact yzxy _
 ·exact h.band
 ·exact h.call
 ·exact ⟨by omega,yp4y _⟩
 ·exact ypIy h.gave
 ·exact ⟨by omega,yp4y _⟩
 ·exact ypIy h.got
theorem yy2y {c:G_Contact} (h:Short c):(lineC c).length≤900∧ascB (lineC c):=by
 have hw:=yfoy h
 have:=yi0y (ws:=ybZy c) (sep:=[32]) (n:=100) fun w hh=>(hw w hh).1
 have e:(ybZy c).length = 8:=rfl
 rw [e] at this
 exact ⟨by unfold lineC;simp at this;omega,yHQy (fun w hh=>(hw w hh).2) (ywry (by decide))⟩
theorem yGky {m:Int} (h:0≤m∧m≤3) (R:Type) (k:List UInt8→Option R):inr ybby m (at_ ybby m k) = k (modeW m):=by
 have hl:ybby.length = 4:=rfl
 rw [ys1y h.1 (by rw [hl];omega)]
 unfold at_ modeW
 obtain ⟨s,hs⟩:∃ s,ybby[m.toNat]? = some s:=⟨_,List.getElem?_eq_getElem (by rw [hl];omega)⟩
 rw [hs];rfl
theorem yCMy {c:G_Contact} (h:Short c) (R:Type) (k:List UInt8→Option R):log_Line c k = k (lineC c++[10]):=by
 have hw:=yfoy h
 have hs:=yy2y h
 have a1:∀ k:List UInt8→Option R,ybVy.strconv_Itoa c.f_At k = k (Lib.itoa c.f_At):=fun k=>yi4y h.at1 R k
 have a2:∀ k:List UInt8→Option R,ybVy.strconv_Itoa c.f_Sent k = k (Lib.itoa c.f_Sent):=fun k=>yi4y h.sent R k
 have a3:∀ k:List UInt8→Option R,ybVy.strconv_Itoa c.f_Heard k = k (Lib.itoa c.f_Heard):=fun k=>yi4y h.heard R k
 have a4:∀ k:List UInt8→Option R,ybVy.kit_Dash c.f_Gave k = k (dashS c.f_Gave):=fun k=>ysxy _ R k
 have a5:∀ k:List UInt8→Option R,ybVy.kit_Dash c.f_Got k = k (dashS c.f_Got):=fun k=>ysxy _ R k
 have a6:∀ k:List (List UInt8)→Option R,ybVy.z89z k = k ybby:=fun k=>rfl
 have a7:∀ k:List UInt8→Option R,ybVy.kit_Join [Lib.itoa c.f_At,modeW c.f_Mode,c.f_Band,c.f_Call,Lib.itoa c.f_Sent,dashS c.f_Gave,Lib.itoa c.f_Heard,dashS c.f_Got] k = k (lineC c++[10]):=fun k=>by
  have b1:∀ k:List UInt8→Option R,yd2y.strings_Join (ybZy c) [32] k = k (lineC c):=fun k=>yESy (ws:=ybZy c) (by simp [ybZy]) (fun w hh=>by have:=(hw w hh).1;omega) (by simp) R k
  show ye5y yd2y (ybZy c) k = _
  unfold ye5y
  rw [b1,ydry (by simp;omega),cond_true]
 show yjky ybVy c k = _
 unfold yjky
 rw [a1,a6,yGky h.mode,a2,a4,a3,a5,a7]
end Go.Am
