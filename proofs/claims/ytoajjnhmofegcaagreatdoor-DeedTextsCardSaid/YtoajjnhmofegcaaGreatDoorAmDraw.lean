/- Part of an abstract machine for this program, with its soundness: AmDraw. No condition: lemmas for the claim. -/
import Derived.Test.YtoajjnhmofegcaaGreatDoorAmFrame
set_option linter.unusedVariables false
set_option linter.unusedSimpArgs false
namespace Go.Am
open Go
variable {A:Nat→Type} {R:Type}
variable {w0 w w':World} {F0:List Nat} {X:Nat→Prop} {tmps:Array Value} {S S':St A} {res:R}
def pair2 (S:St A) (ts:List Nat):Option (St A×List Nat):=some (S,ts)
def opD (E:Env A) (ops:List Oper) (o:Oper) (S:St A):Option (O3 A) :=
 bif E.pinned o then none else
 match o.guard with
 | none=>opK E S.look (yafy S.fr) ret3 o
 | some (j,want) =>
  match (ops[j]?).bind (·.dst) with
  | none=>none
  | some d =>
   match (S.fr[d]?).getD .undef with
   | .d (.bool b)=>bif b == want then opK E S.look (yafy S.fr) ret3 o else some (.tup [],[],[])
   | .tup []=>some (.tup [],[],[])
   | _=>none
theorem ysky (ops:List Oper) (i:Nat) (o:Oper) (S:St A) (flt:AV A→Upd A→List Nat→Bool) (k:St A→List Nat→Option R) (v:AV A) (u:Upd A) (ts:List Nat) :
  behind ops i o S flt k v u ts = bif yazy S u&&flt v u ts then k ((S.upd u).put o.dst v) ts else none:=by
 unfold behind
 cases hf:yazy S u&&flt v u ts with
 | false=>rfl
 | true =>
  simp only [Bool.not_true,cond_false,cond_true]
  split
  ·rename_i b d _ hd
   rw [hd]
   cases b <;> rfl
  ·rfl
theorem ybAy (E:Env A) (hC:yahy E.C) (ops:List Oper) (i:Nat) (o:Oper) (S:St A) (flt:AV A→Upd A→List Nat→Bool) (k:St A→List Nat→Option R) :
  stepK E ops i o S flt k = (opD E ops o S).bind fun p=>bif yazy S p.2.1&&flt p.1 p.2.1 p.2.2 then k ((S.upd p.2.1).put o.dst p.1) p.2.2 else none:=by
 have hop:opK E S.look (yafy S.fr) (behind ops i o S flt k) o = (opK E S.look (yafy S.fr) ret3 o).bind fun p=>bif yazy S p.2.1&&flt p.1 p.2.1 p.2.2 then k ((S.upd p.2.1).put o.dst p.1) p.2.2 else none:=by
  rw [yFuy E S.look (yafy S.fr) _ hC]
  congr 1
  funext p
  exact ysky _ _ _ _ _ _ _ _ _
 have hskip:behind ops i o S flt k (.tup []) [] [] = (some ((.tup [],[],[]):O3 A)).bind fun p=>bif yazy S p.2.1&&flt p.1 p.2.1 p.2.2 then k ((S.upd p.2.1).put o.dst p.1) p.2.2 else none:=ysky _ _ _ _ _ _ _ _ _
 unfold stepK opD
 cases E.pinned o with
 | true=>rfl
 | false =>
  simp only [cond_false]
  cases o.guard with
  | none=>exact hop
  | some g =>
   obtain ⟨j,want⟩:=g
   simp only
   cases (ops[j]?).bind (·.dst) with
   | none=>rfl
   | some d =>
    simp only
    cases (S.fr[d]?).getD .undef with
    | d y =>
     cases y <;> simp only [Option.bind_none]
     rename_i b
     cases b == want with
     | true=>exact hop
     | false=>exact hskip
    | tup cs =>
     cases cs with
     | nil=>exact hskip
     | cons c cs=>rfl
    | _=>rfl
def ygUy (ops:List Oper) (o:Oper) (fr fr':List (AV A)):Prop:=∀ t∈freeB.looks ops o,(fr[t]?).getD .undef = (fr'[t]?).getD .undef
theorem ygUy.eval {ops:List Oper} {o:Oper} {fr fr':List (AV A)} (h:ygUy ops o fr fr'):∀ x∈o.op.operands,yafy fr x = yafy fr' x:=by
 intro x hx
 cases x with
 | tmp t =>
  refine h t ?_
  simp only [freeB.looks,List.mem_append,List.mem_filterMap]
  exact .inl ⟨.tmp t,by simpa using hx,rfl⟩
 | _=>rfl
theorem yipy (E:Env A) {ops:List Oper} {o:Oper} {S S':St A} {p:O3 A} (hs:ygUy ops o S.fr S'.fr)
  (hop:opK E S.look (yafy S.fr) ret3 o = some p→opK E S'.look (yafy S.fr) ret3 o = some p) (h:opD E ops o S = some p):opD E ops o S' = some p:=by
 have hop':opK E S.look (yafy S.fr) ret3 o = some p→opK E S'.look (yafy S'.fr) ret3 o = some p:=fun h=>by
  rw [← yBpy E S'.look ret3 (ρ:=yafy S.fr) o hs.eval];exact hop h
 unfold opD at h ⊢
 cases hp:E.pinned o with
 | true=>simp [hp] at h
 | false =>
  simp only [hp,cond_false] at h ⊢
  cases hg:o.guard with
  | none=>simp only [hg] at h ⊢;exact hop' h
  | some g =>
   obtain ⟨j,want⟩:=g
   simp only [hg] at h ⊢
   cases hd:(ops[j]?).bind (·.dst) with
   | none=>rw [hd] at h;cases h
   | some d =>
    rw [hd] at h
    simp only at h ⊢
    have:(S.fr[d]?).getD .undef = (S'.fr[d]?).getD .undef:=hs d (by simp only [freeB.looks,hg,hd,List.mem_append];right;simp)
    rw [← this]
    cases hv:(S.fr[d]?).getD .undef with
    | d y =>
     rw [hv] at h
     cases y <;> simp only at h ⊢ <;> (try cases h;done)
     rename_i b
     cases hb:b == want with
     | true=>rw [hb] at h;exact hop' h
     | false=>rw [hb] at h;exact h
    | tup cs =>
     rw [hv] at h
     cases cs with
     | nil=>exact h
     | cons c cs=>simp at h
    | _=>rw [hv] at h;simp at h
theorem yrry {l:List (AV A)} {d t:Nat} {v:AV A} (h:d≠t):((l.set d v)[t]?).getD .undef = (l[t]?).getD .undef:=by rw [List.getElem?_set_ne h]
theorem yc3y {dst:Option Nat} {v:AV A} {t:Nat} (h:dst≠some t):((S.put dst v).fr[t]?).getD .undef = (S.fr[t]?).getD .undef:=by
 cases dst with
 | none=>rfl
 | some d=>exact yrry (fun e=>h (by rw [e]))
theorem yeTy {dst:Option Nat} {v:AV A}:(S.put dst v).look = S.look:=by cases dst <;> rfl
theorem yury {dst:Option Nat} {v:AV A}:(S.put dst v).st = S.st:=by cases dst <;> rfl
theorem yjEy {dst:Option Nat} {v:AV A}:∀ (u:Upd A) (S:St A),(S.put dst v).upd u = (S.upd u).put dst v
 | [],S=>rfl
 | (t,o)::r,S=>by
  simp only [St.upd]
  rw [← yjEy r]
  congr 1
  cases dst <;> rfl
theorem ypmy {d d':Option Nat} {v v':AV A} (h:∀ x,d = some x→d'≠some x):(S.put d v).put d' v' = (S.put d' v').put d v:=by
 cases d with
 | none=>cases d' <;> rfl
 | some d =>
  cases d' with
  | none=>rfl
  | some d' =>
   have hne:d≠d':=fun e=>h d rfl (by rw [e])
   simp only [St.put,List.set_comm _ _ hne]
theorem yx8y {dst:Option Nat} {v:AV A} {t:Nat} (hu:∀ d,dst = some d→∀ t,occAV t ((S.fr[d]?).getD .undef) = false) (h:occSt t S = true):occSt t (S.put dst v) = true:=by
 cases dst with
 | none=>exact h
 | some d =>
  unfold occSt at h ⊢
  rw [Bool.or_eq_true] at h ⊢
  refine h.imp (fun h=>?_) id
  have key:∀ (l:List (AV A)) (d:Nat),occAV t ((l[d]?).getD .undef) = false→yady t l = true→yady t (l.set d v) = true:=by
   intro l
   induction l with
   | nil=>intro d _ h;simpa using h
   | cons x xs ih =>
    intro d hd h
    simp only [yady,Bool.or_eq_true] at h
    cases d with
    | zero =>
     simp at hd
     simp only [List.set_cons_zero,yady,Bool.or_eq_true]
     exact .inr (h.resolve_left (by simp [hd]))
    | succ d =>
     simp only [List.set_cons_succ,yady,Bool.or_eq_true]
     exact h.imp id (ih d (by simpa using hd))
  exact key _ _ (hu d rfl t) h
theorem ysjy {dst:Option Nat} {v:AV A} {u:Upd A} (hu:∀ d,dst = some d→∀ t,occAV t ((S.fr[d]?).getD .undef) = false) (h:yazy (S.put dst v) u = true):yazy S u = true:=by
 simp only [yazy,List.all_eq_true] at h ⊢
 intro x hx
 have:=h x hx
 rw [yeTy,yury] at this
 cases ho:occSt x.1 S with
 | false =>
  revert this
  cases x.2.isNone <;> cases (S.look x.1).isSome <;> simp
  intro h1 _;exact h1
 | true =>
  rw [yx8y hu ho] at this
  exact this
theorem ywJy {u:Upd A} (h:∀ x∈u,S.look x.1 = none) {t:Nat} {ob:Ob A} (ht:S.look t = some ob):(S.upd u).look t = some ob:=by
 rw [yd1y (fun y hy e=>?_)]
 ·exact ht
 ·have:=h y hy
  rw [e,ht] at this;cases this
def fltJ (E:Env A) (ops:Array Oper) (al:List Nat) (rd:Nat→List Nat) (L:Array Bool) (j:Nat) (S:St A):AV A→Upd A→List Nat→Bool:=fun v u _ =>
 ((List.range ops.size).all fun i=>!L.getD i false || (i == j || (yfiy ops i j || (yfiy ops j i || ((u.all fun x=>!(rd i).contains x.1) || u.all fun x=>(S.look x.1).isNone)))))&&ydiy E ops al j v u
theorem yHUy {E:Env A} {ops:Array Oper} {al:List Nat} {rd:Nat→List Nat} {L:Array Bool} {acc:List (Nat×List Nat)} {j:Nat} {v:AV A} {u:Upd A} {ts:List Nat} (hrd:∀ i,L.getD i false = true→rd i = rdOf acc i) (h:fltK E ops al acc j S v u ts = true):fltJ E ops al rd L j S v u ts = true:=by
 unfold fltK at h
 unfold fltJ
 rw [Bool.and_eq_true] at h ⊢
 refine ⟨List.all_eq_true.2 (fun i _=>?_),h.2⟩
 cases hL:L.getD i false with
 | false=>rfl
 | true =>
  simp only [Bool.not_true,Bool.false_or]
  rw [hrd i hL]
  unfold rdOf
  cases hf:acc.find? fun p=>p.1 == i with
  | none=>simp
  | some p =>
   have h1:=List.mem_of_find?_eq_some hf
   have h2:=List.find?_some hf
   simp only [beq_iff_eq] at h2
   have h3:=List.all_eq_true.1 h.1 p h1
   subst h2
   simp only [Option.map_some,Option.getD_some]
   simp only [Bool.or_eq_true] at h3 ⊢
   rcases h3 with h3 | h3 | h3 | h3 | h3
   ·exact .inr (.inr (.inr (.inl h3)))
   ·exact .inl h3
   ·exact .inr (.inl h3)
   ·exact .inr (.inr (.inl h3))
   ·exact .inr (.inr (.inr (.inr h3)))
theorem yvCy {E:Env A} {ops:Array Oper} {al:List Nat} {rd:Nat→List Nat} {L:Array Bool} {j:Nat} {v:AV A} {ts:List Nat} (h:ydiy E ops al j v [] = true):fltJ E ops al rd L j S v [] ts = true:=by
 unfold fltJ
 rw [h,Bool.and_true]
 exact List.all_eq_true.2 (fun i _=>by simp)
theorem yrny {E:Env A} {ops:Array Oper} {al:List Nat} {rd:Nat→List Nat} {L L':Array Bool} {j:Nat} {v:AV A} {u:Upd A} {ts ts':List Nat} {S1:St A} (hL:∀ i,L.getD i false = true→L'.getD i false = true) (hS:∀ x∈u,S1.look x.1 = none→S.look x.1 = none)
  (h:fltJ E ops al rd L' j S1 v u ts = true):fltJ E ops al rd L j S v u ts' = true:=by
 unfold fltJ at h ⊢
 rw [Bool.and_eq_true] at h ⊢
 refine ⟨List.all_eq_true.2 (fun i hi=>?_),h.2⟩
 have h1:=List.all_eq_true.1 h.1 i hi
 cases hi':L.getD i false with
 | false=>rfl
 | true =>
  rw [hL i hi'] at h1
  simp only [Bool.not_true,Bool.false_or,Bool.or_eq_true] at h1 ⊢
  rcases h1 with h3 | h3 | h3 | h3 | h3
  ·exact .inl h3
  ·exact .inr (.inl h3)
  ·exact .inr (.inr (.inl h3))
  ·exact .inr (.inr (.inr (.inl h3)))
  ·refine .inr (.inr (.inr (.inr ?_)))
   rw [List.all_eq_true] at h3 ⊢
   intro x hx
   have:=h3 x hx
   rw [Option.isNone_iff_eq_none] at this ⊢
   exact hS x hx this
def AAny (E:Env A) (ops:Array Oper) (al:List Nat) (rd:Nat→List Nat) (Q:St A→Prop):Nat→Array Bool→St A→Prop
 | 0,L,S=>yaqy ops L = []∧Q S
 | n + 1,L,S=>(yaqy ops L = []→Q S) ∧
  ∀ i∈yaqy ops L,∀ o,ops[i]? = some o→∃ S' ts,stepK E ops.toList i o S (fltJ E ops al rd L i S) pair2 = some (S',ts)∧AAny E ops al rd Q n (L.setIfInBounds i true) S'
theorem ya3y (ops:Array Oper) (L:Array Bool):yaqy ops L = Region.ready .any ops L:=rfl
theorem yjly {ops:List Oper} {x y:Oper} (h:freeB.apartB ops x y = true) :
  (∀ d,x.dst = some d→d ∉ freeB.looks ops y∧y.dst≠some d)∧(∀ d,y.dst = some d→d ∉ freeB.looks ops x):=by
 unfold freeB.apartB at h
 rw [Bool.and_eq_true] at h
 refine ⟨fun d hd=>?_,fun d hd=>?_⟩
 ·rw [hd] at h
  simpa using h.1
 ·rw [hd] at h
  simpa using h.2
theorem ykwy {ops:Array Oper} {L:Array Bool} {i j:Nat} (h:freeB ops L i = true):freeB ops (L.setIfInBounds j true) i = true:=by
 simp only [freeB,List.all_eq_true,Bool.or_eq_true] at h ⊢
 intro x hx
 rcases h x hx with h | h | h
 ·exact .inl h
 ·refine .inr (.inl ?_)
  by_cases hjx:j = x
  ·subst hjx
   rcases Nat.lt_or_ge j L.size with hl | hl
   ·simp [hl]
   ·simp [Nat.not_lt.2 hl]
  ·rw [getD_set_ne true hjx];exact h
 ·exact .inr (.inr h)
theorem yiDy {ops:Array Oper} {L:Array Bool} {i j:Nat} (hi:i∈yaqy ops L) (hj:j∈yaqy ops L):ycpy ops j i = false:=by
 cases hw:ycpy ops j i with
 | false=>rfl
 | true =>
  rw [ya3y] at hi hj
  obtain ⟨hjun,oj,hoj,hall⟩:=mem_ready.1 hj
  simp only [ycpy,hoj,Option.any_some,Array.any_eq_true'] at hw
  obtain ⟨e,he,hb⟩:=hw
  simp only [Bool.and_eq_true,beq_iff_eq] at hb
  have h1:=hall e he hb.1
  have h0:=(mem_ready.1 hi).1
  rw [hb.2] at h1
  rcases Nat.lt_or_ge i L.size with h' | h'
  ·simp [h'] at h0 h1;rw [h0] at h1;cases h1
  ·simp [Array.getElem?_eq_none h'] at h1
def ycVy (ops:Array Oper) (L:Array Bool):Prop:=∀ k i,L.getD k false = true→ycpy ops k i = true→L.getD i false = true
theorem ybyy {L:Array Bool} {i j:Nat} (h:L.getD i false = true):(L.setIfInBounds j true).getD i false = true:=by
 by_cases hji:j = i
 ·subst hji
  rcases Nat.lt_or_ge j L.size with hl | hl
  ·simp [hl]
  ·simp [Array.getElem?_eq_none hl] at h
 ·rw [getD_set_ne false hji];exact h
theorem yl8y {ops:Array Oper} {L:Array Bool} {i j:Nat} (hj:j∈yaqy ops L) (hw:ycpy ops j i = true):L.getD i false = true:=by
 rw [ya3y] at hj
 obtain ⟨hjun,oj,hoj,hall⟩:=mem_ready.1 hj
 simp only [ycpy,hoj,Option.any_some,Array.any_eq_true'] at hw
 obtain ⟨e,he,hb⟩:=hw
 simp only [Bool.and_eq_true,beq_iff_eq] at hb
 have h1:=hall e he hb.1
 rw [hb.2] at h1
 exact h1
theorem ycVy.start {ops:Array Oper} (n:Nat):ycVy ops (Array.replicate n false):=by
 intro k i h
 rcases Nat.lt_or_ge k n with hl | hl
 ·simp [hl] at h
 ·simp [Nat.not_lt.2 hl] at h
theorem ycVy.set {ops:Array Oper} {L:Array Bool} {j:Nat} (h:ycVy ops L) (hj:j∈yaqy ops L):ycVy ops (L.setIfInBounds j true):=by
 intro k i hk hw
 by_cases hjk:j = k
 ·subst hjk
  exact ybyy (yl8y hj hw)
 ·rw [getD_set_ne false hjk] at hk
  exact ybyy (h k i hk hw)
theorem ylMy {ops:Array Oper} {L:Array Bool} (hc:ycVy ops L):∀ (n i j:Nat),L.getD i false = true→yjYy ops n i j = true→L.getD j false = true
 | 0,i,j,hi,hw=>hc i j hi hw
 | n + 1,i,j,hi,hw=>by
  simp only [yjYy,Bool.or_eq_true] at hw
  rcases hw with hw | hw
  ·exact hc i j hi hw
  ·cases ho:ops[i]? with
   | none=>rw [ho] at hw;cases hw
   | some o =>
    simp only [ho,Option.any_some,Array.any_eq_true',Bool.and_eq_true] at hw
    obtain ⟨e,he,h1,h2⟩:=hw
    refine ylMy hc n e.on j (hc i e.on hi ?_) h2
    simp only [ycpy,ho,Option.any_some,Array.any_eq_true',Bool.and_eq_true]
    exact ⟨e,he,h1,by simp⟩
theorem ykMy {ops:Array Oper} {L:Array Bool} {i j:Nat} (hc:ycVy ops L) (hi:i∈yaqy ops L) (hj:j∈yaqy ops L):yfiy ops j i = false:=by
 cases hw:yfiy ops j i with
 | false=>rfl
 | true =>
  simp only [yfiy,yjYy,Bool.or_eq_true] at hw
  rcases hw with hw | hw
  ·rw [yiDy hi hj] at hw;cases hw
  ·exfalso
   cases ho:ops[j]? with
   | none=>rw [ho] at hw;cases hw
   | some o =>
    simp only [ho,Option.any_some,Array.any_eq_true',Bool.and_eq_true] at hw
    obtain ⟨e,he,h1,h2⟩:=hw
    have hl:L.getD e.on false = true:=yl8y hj (by
     simp only [ycpy,ho,Option.any_some,Array.any_eq_true',Bool.and_eq_true]
     exact ⟨e,he,h1,by simp⟩)
    have hk:L.getD i false = true:=ylMy hc 1 e.on i hl (by simpa only [yjYy,Bool.or_eq_true] using h2)
    have h0:=(mem_ready.1 (ya3y ops L ▸ hi)).1
    rcases Nat.lt_or_ge i L.size with h' | h'
    ·simp [h'] at h0 hk;rw [h0] at hk;cases hk
    ·simp [Array.getElem?_eq_none h'] at hk
theorem ygzy {u:Upd A} {t:Nat} (h:∀ x∈u,x.1≠t):(S.upd u).look t = S.look t:=yd1y (fun y hy e=>h y hy e)
theorem AAny.first (E:Env A) (hC:yahy E.C) {ops:Array Oper} {al:List Nat} {rd:Nat→List Nat} {Q:St A→Prop} {i:Nat} {oi:Oper} (hi:ops[i]? = some oi) (hl:yf6y oi.op = true) {v:AV A} {ts:List Nat} (hpi:ydiy E ops al i v [] = true):∀ (n:Nat) (L:Array Bool) (S:St A),
  opD E ops.toList oi S = some (v,[],ts)→(∀ t∈ygpy E S oi,t∈rd i)→(∀ d,oi.dst = some d→∀ t,occAV t ((S.fr[d]?).getD .undef) = false)→freeB ops L i = true→i∈yaqy ops L→ycVy ops L →
  AAny E ops al rd Q n (L.setIfInBounds i true) (S.put oi.dst v)→AAny E ops al rd Q (n + 1) L S:=by
 have self:∀ (n:Nat) (L:Array Bool) (S:St A),opD E ops.toList oi S = some (v,[],ts)→AAny E ops al rd Q n (L.setIfInBounds i true) (S.put oi.dst v) →
   ∀ o,ops[i]? = some o→∃ S' ts,stepK E ops.toList i o S (fltJ E ops al rd L i S) pair2 = some (S',ts)∧AAny E ops al rd Q n (L.setIfInBounds i true) S':=by
  intro n L S hv H o ho
  rw [hi] at ho
  cases ho
  refine ⟨_,ts,?_,H⟩
  rw [ybAy E hC ops.toList i oi S _,hv]
  have:fltJ E ops al rd L i S v [] ts = true:=yvCy hpi
  simp only [Option.bind_some,this]
  rfl
 intro n
 induction n with
 | zero =>
  intro L S hv htd hu hf hr hcl H
  refine ⟨fun h=>(by rw [h] at hr;cases hr),fun j hj o ho=>?_⟩
  by_cases hji:j = i
  ·subst hji;exact self 0 L S hv H o ho
  ·have:=ready_mono (md:=.any) hj hji
   rw [← ya3y,H.1] at this
   cases this
 | succ n ih =>
  intro L S hv htd hu hf hr hcl H
  refine ⟨fun h=>(by rw [h] at hr;cases hr),fun j hj oj hoj=>?_⟩
  by_cases hji:j = i
  ·subst hji;exact self (n + 1) L S hv H oj hoj
  ·obtain ⟨S'',ts'',hstep,HA⟩:=H.2 j (ready_mono (md:=.any) hj hji) oj hoj
   have hap:freeB.apartB ops.toList oi oj = true:=by
    simp only [freeB,List.all_eq_true,Bool.or_eq_true] at hf
    have hjs:j∈List.range ops.size:=by
     have:=hj
     simp only [yaqy,List.mem_filter] at this
     exact this.1
    have hun:=(mem_ready.1 (ya3y ops L ▸ hj)).1
    rcases hf j hjs with h | h | h | h
    ·simp at h;exact absurd h hji
    ·rw [hun] at h;cases h
    ·rw [yiDy hr hj] at h;cases h
    ·simpa [hi,hoj] using h
   obtain ⟨hap1,hap2⟩:=yjly hap
   have hlook:(S.put oi.dst v).look = S.look:=yeTy
   rw [ybAy E hC ops.toList j oj (S.put oi.dst v) _] at hstep
   cases hd:opD E ops.toList oj (S.put oi.dst v) with
   | none=>rw [hd] at hstep;cases hstep
   | some p =>
    rw [hd] at hstep
    obtain ⟨vj,uj,tj⟩:=p
    simp only [Option.bind_some] at hstep
    cases hfr:yazy (S.put oi.dst v) uj&&fltJ E ops al rd (L.setIfInBounds i true) j (S.put oi.dst v) vj uj tj with
    | false=>simp [hfr] at hstep
    | true =>
     simp only [hfr,cond_true,pair2,Option.some.injEq,Prod.mk.injEq] at hstep
     obtain ⟨hS,rfl⟩:=hstep
     rw [Bool.and_eq_true] at hfr
     have hd':opD E ops.toList oj S = some (vj,uj,tj):=by
      refine yipy E (S:=S.put oi.dst v) (fun t ht=>?_) (fun h=>by rw [hlook] at h;exact h) hd
      exact yc3y (fun e=>(hap1 t e).1 ht)
     have hiL:(L.setIfInBounds i true).getD i false = true:=by
      have h0:=(mem_ready.1 (ya3y ops L ▸ hr)).1
      rcases Nat.lt_or_ge i L.size with h' | h'
      ·simp [h']
      ·simp [Array.getElem?_eq_none h'] at h0
     have hfl:fltJ E ops al rd L j S vj uj tj = true:=yrny (fun k hk=>ybyy hk) (fun x _ h=>by rw [hlook] at h;exact h) hfr.2
     let Tn:St A:=(S.upd uj).put oj.dst vj
     have hTS:Tn.put oi.dst v = S'':=by
      rw [← hS,yjEy]
      exact ypmy (fun x hx hy=>(hap1 x hy).2 hx)
     have hTfr:∀ t,oj.dst≠some t→(Tn.fr[t]?).getD .undef = (S.fr[t]?).getD .undef:=by
      intro t ht
      rw [show Tn.fr = ((S.upd uj).put oj.dst vj).fr from rfl,yc3y ht,yf1y]
     have hTl:Tn.look = (S.upd uj).look:=yeTy
     have hTsame:ygUy ops.toList oi S.fr Tn.fr:=fun t ht=>(hTfr t (fun e=>hap2 t e ht)).symm
     have hv':opD E ops.toList oi Tn = some (v,[],ts):=by
      refine yipy E (S:=S) hTsame (fun h=>?_) hv
      have hck:=hfr.2
      unfold fltJ at hck
      rw [Bool.and_eq_true] at hck
      have his:i∈List.range ops.size:=by
       have:=hr
       simp only [yaqy,List.mem_filter] at this
       exact this.1
      have h1:=List.all_eq_true.1 hck.1 i his
      rw [hiL] at h1
      simp only [Bool.not_true,Bool.false_or,Bool.or_eq_true,beq_iff_eq] at h1
      rcases h1 with h2 | h2 | h2 | h2 | h2
      ·exact absurd h2.symm hji
      ·rw [ykMy hcl hj hr] at h2;cases h2
      ·rw [ykMy hcl hr hj] at h2;cases h2
      ·cases hrd:ykny oi.op with
       | false=>exact yqXy E _ hl (fun h=>by rw [hrd] at h;cases h) rfl h
       | true =>
       have hkeep:∀ t,t∈ygpy E S oi→S.look t = Tn.look t:=by
        intro t ht
        rw [hTl,ygzy (fun x hx e=>?_)]
        have h3:=List.all_eq_true.1 h2 x hx
        rw [e,List.contains_iff_mem.2 (htd t ht)] at h3
        cases h3
       rw [← yAay E ret3 hl (fun x hx t ht=>hkeep t ?_) (fun t ht=>hkeep t ?_)]
       ·exact h
       ·unfold ygpy
        rw [hrd,cond_true,List.mem_append]
        exact .inl (List.mem_filterMap.2 ⟨x,by simpa using hx,ht⟩)
       ·unfold ygpy
        rw [hrd,cond_true,List.mem_append]
        exact .inr ht
      ·refine yqXy E _ hl (fun hrd t ob hob=>?_) rfl h
       rw [hTl]
       refine ywJy (fun x hx=>?_) hob
       rw [List.all_eq_true] at h2
       have:=h2 x hx
       rw [hlook] at this
       simpa using this
     have htd':∀ t∈ygpy E Tn oi,t∈rd i:=by
      intro t ht
      refine htd t ?_
      unfold ygpy at ht ⊢
      cases hrd:ykny oi.op with
      | false=>rw [hrd] at ht;exact ht
      | true =>
      rw [hrd,cond_true] at ht
      rw [cond_true]
      rw [List.mem_append] at ht ⊢
      refine ht.imp (fun h=>?_) id
      obtain ⟨x,hx,hxt⟩:=List.mem_filterMap.1 h
      exact List.mem_filterMap.2 ⟨x,hx,by rw [hTsame.eval x (by simpa using hx)];exact hxt⟩
     refine ⟨Tn,tj,?_,ih (L.setIfInBounds j true) Tn hv' htd' (fun d hd=>?_) (ykwy hf) (ready_mono (md:=.any) hr (Ne.symm hji)) (hcl.set hj) ?_⟩
     ·rw [ybAy E hC ops.toList j oj S _,hd']
      simp only [Option.bind_some]
      rw [ysjy hu hfr.1,hfl]
      rfl
     ·intro t;rw [hTfr d (hap1 d hd).2];exact hu d hd t
     ·rw [hTS,Array.setIfInBounds_comm _ _ hji]
      exact HA
theorem yymy {E:Env A} {ops:List Oper} {o:Oper} {S:St A} (h:offB ops S o = true):opD E ops o S = bif E.pinned o then none else some (.tup [],[],[]):=by
 unfold offB at h
 unfold opD
 cases hg:o.guard with
 | none=>rw [hg] at h;cases h
 | some g =>
  obtain ⟨j,want⟩:=g
  rw [hg] at h
  simp only at h ⊢
  cases hd:(ops[j]?).bind (·.dst) with
  | none=>rw [hd] at h;cases h
  | some d =>
   rw [hd] at h
   simp only at h ⊢
   cases hv:(S.fr[d]?).getD .undef with
   | d y =>
    rw [hv] at h
    cases y <;> simp only at h ⊢ <;> (try cases h;done)
    rw [Bool.not_eq_true'] at h
    rw [h];rfl
   | tup cs =>
    rw [hv] at h
    cases cs with
    | nil=>rfl
    | cons c cs=>cases h
   | _=>rw [hv] at h;cases h
theorem yAVy {ops:List Oper} {o:Oper} {S S':St A} (h:ygUy ops o S.fr S'.fr):offB ops S o = offB ops S' o:=by
 unfold offB
 cases hg:o.guard with
 | none=>rfl
 | some g =>
  obtain ⟨j,want⟩:=g
  simp only
  cases hd:(ops[j]?).bind (·.dst) with
  | none=>rfl
  | some d =>
   simp only
   rw [h d (by simp only [freeB.looks,hg,hd,List.mem_append];right;simp)]
theorem AAny.firstOff (E:Env A) (hC:yahy E.C) {ops:Array Oper} {al:List Nat} {rd:Nat→List Nat} {Q:St A→Prop} {i:Nat} {oi:Oper} (hi:ops[i]? = some oi) (hpin:E.pinned oi = false) (hpi:ydiy E ops al i (.tup []) [] = true):∀ (n:Nat) (L:Array Bool) (S:St A),
  offB ops.toList S oi = true→(∀ d,oi.dst = some d→∀ t,occAV t ((S.fr[d]?).getD .undef) = false)→freeB ops L i = true→i∈yaqy ops L→ycVy ops L →
  AAny E ops al rd Q n (L.setIfInBounds i true) (S.put oi.dst (.tup []))→AAny E ops al rd Q (n + 1) L S:=by
 have self:∀ (n:Nat) (L:Array Bool) (S:St A),offB ops.toList S oi = true→AAny E ops al rd Q n (L.setIfInBounds i true) (S.put oi.dst (.tup [])) →
   ∀ o,ops[i]? = some o→∃ S' ts,stepK E ops.toList i o S (fltJ E ops al rd L i S) pair2 = some (S',ts)∧AAny E ops al rd Q n (L.setIfInBounds i true) S':=by
  intro n L S hv H o ho
  rw [hi] at ho
  cases ho
  refine ⟨_,[],?_,H⟩
  rw [ybAy E hC ops.toList i oi S _,yymy hv,hpin]
  have:fltJ E ops al rd L i S (.tup []) [] [] = true:=yvCy hpi
  simp only [cond_false,Option.bind_some,this]
  rfl
 intro n
 induction n with
 | zero =>
  intro L S hv hu hf hr hcl H
  refine ⟨fun h=>(by rw [h] at hr;cases hr),fun j hj o ho=>?_⟩
  by_cases hji:j = i
  ·subst hji;exact self 0 L S hv H o ho
  ·have:=ready_mono (md:=.any) hj hji
   rw [← ya3y,H.1] at this
   cases this
 | succ n ih =>
  intro L S hv hu hf hr hcl H
  refine ⟨fun h=>(by rw [h] at hr;cases hr),fun j hj oj hoj=>?_⟩
  by_cases hji:j = i
  ·subst hji;exact self (n + 1) L S hv H oj hoj
  ·obtain ⟨S'',ts'',hstep,HA⟩:=H.2 j (ready_mono (md:=.any) hj hji) oj hoj
   have hap:freeB.apartB ops.toList oi oj = true:=by
    simp only [freeB,List.all_eq_true,Bool.or_eq_true] at hf
    have hjs:j∈List.range ops.size:=by
     have:=hj
     simp only [yaqy,List.mem_filter] at this
     exact this.1
    have hun:=(mem_ready.1 (ya3y ops L ▸ hj)).1
    rcases hf j hjs with h | h | h | h
    ·simp at h;exact absurd h hji
    ·rw [hun] at h;cases h
    ·rw [yiDy hr hj] at h;cases h
    ·simpa [hi,hoj] using h
   obtain ⟨hap1,hap2⟩:=yjly hap
   have hlook:(S.put oi.dst (.tup [])).look = S.look:=yeTy
   rw [ybAy E hC ops.toList j oj (S.put oi.dst (.tup [])) _] at hstep
   cases hd:opD E ops.toList oj (S.put oi.dst (.tup [])) with
   | none=>rw [hd] at hstep;cases hstep
   | some p =>
    rw [hd] at hstep
    obtain ⟨vj,uj,tj⟩:=p
    simp only [Option.bind_some] at hstep
    cases hfr:yazy (S.put oi.dst (.tup [])) uj&&fltJ E ops al rd (L.setIfInBounds i true) j (S.put oi.dst (.tup [])) vj uj tj with
    | false=>simp [hfr] at hstep
    | true =>
     simp only [hfr,cond_true,pair2,Option.some.injEq,Prod.mk.injEq] at hstep
     obtain ⟨hS,rfl⟩:=hstep
     rw [Bool.and_eq_true] at hfr
     have hd':opD E ops.toList oj S = some (vj,uj,tj):=by
      refine yipy E (S:=S.put oi.dst (.tup [])) (fun t ht=>?_) (fun h=>by rw [hlook] at h;exact h) hd
      exact yc3y (fun e=>(hap1 t e).1 ht)
     have hiL:(L.setIfInBounds i true).getD i false = true:=by
      have h0:=(mem_ready.1 (ya3y ops L ▸ hr)).1
      rcases Nat.lt_or_ge i L.size with h' | h'
      ·simp [h']
      ·simp [Array.getElem?_eq_none h'] at h0
     have hfl:fltJ E ops al rd L j S vj uj tj = true:=yrny (fun k hk=>ybyy hk) (fun x _ h=>by rw [hlook] at h;exact h) hfr.2
     let Tn:St A:=(S.upd uj).put oj.dst vj
     have hTS:Tn.put oi.dst (.tup []) = S'':=by
      rw [← hS,yjEy]
      exact ypmy (fun x hx hy=>(hap1 x hy).2 hx)
     have hTfr:∀ t,oj.dst≠some t→(Tn.fr[t]?).getD .undef = (S.fr[t]?).getD .undef:=by
      intro t ht
      rw [show Tn.fr = ((S.upd uj).put oj.dst vj).fr from rfl,yc3y ht,yf1y]
     have hTl:Tn.look = (S.upd uj).look:=yeTy
     have hTsame:ygUy ops.toList oi S.fr Tn.fr:=fun t ht=>(hTfr t (fun e=>hap2 t e ht)).symm
     have hv':offB ops.toList Tn oi = true:=by rw [← yAVy hTsame];exact hv
     refine ⟨Tn,tj,?_,ih (L.setIfInBounds j true) Tn hv' (fun d hd=>?_) (ykwy hf) (ready_mono (md:=.any) hr (Ne.symm hji)) (hcl.set hj) ?_⟩
     ·rw [ybAy E hC ops.toList j oj S _,hd']
      simp only [Option.bind_some]
      rw [ysjy hu hfr.1,hfl]
      rfl
     ·intro t;rw [hTfr d (hap1 d hd).2];exact hu d hd t
     ·rw [hTS,Array.setIfInBounds_comm _ _ hji]
      exact HA
theorem yv5y {t:Nat} {o:Option (Ob A)}:∀ (u:Upd A) (S:St A),(∀ x∈u,x.1≠t)→(S.upd [(t,o)]).upd u = (S.upd u).upd [(t,o)]
 | [],S,_=>rfl
 | (a,oa)::r,S,h=>by
  have hne:a≠t:=h (a,oa) (by simp)
  have:=yv5y (t:=t) (o:=o) r { S with st:=S.st.set a oa } (fun x hx=>h x (by simp [hx]))
  simp only [St.upd] at this ⊢
  rw [← this]
  congr 2
  exact List.set_comm _ _ (Ne.symm hne)
theorem yAhy {t a:Nat} {o:Option (Ob A)} (ho:occOb t o = false) (h:occSt t { S with st:=S.st.set a o } = true):occSt t S = true:=by
 unfold occSt at h ⊢
 rw [Bool.or_eq_true] at h ⊢
 refine h.imp id (fun h=>?_)
 exact yjry (i:=a) (o:=o) (t:=t) ho h
theorem ypYy {t:Nat}:∀ (u:Upd A) (S:St A),(∀ x∈u,occOb t x.2 = false)→occSt t S = false→occSt t (S.upd u) = false
 | [],S,_,hs=>hs
 | (a,o)::r,S,h,hs=>by
  simp only [St.upd]
  refine ypYy r _ (fun x hx=>h x (by simp [hx])) ?_
  cases hh:occSt t { S with st:=S.st.set a o } with
  | false=>rfl
  | true=>rw [yAhy (h (a,o) (by simp)) hh] at hs;cases hs
theorem yy5y {t:Nat} {dst:Option Nat} {v:AV A} (hv:occAV t v = false) (hs:occSt t S = false):occSt t (S.put dst v) = false:=by
 cases dst with
 | none=>exact hs
 | some d =>
  unfold occSt at hs ⊢
  rw [Bool.or_eq_false_iff] at hs ⊢
  refine ⟨?_,hs.2⟩
  have key:∀ (l:List (AV A)) (d:Nat),yady t l = false→yady t (l.set d v) = false:=by
   intro l
   induction l with
   | nil=>intro d h;simpa using h
   | cons x xs ih =>
    intro d h
    simp only [yady,Bool.or_eq_false_iff] at h
    cases d with
    | zero=>simp only [List.set_cons_zero,yady,hv,h.2,Bool.or_false]
    | succ d=>simp only [List.set_cons_succ,yady,h.1,ih d h.2,Bool.or_false]
  exact key _ d hs.1
theorem yH7y {t d:Nat} (h:occSt t S = false):occAV t ((S.fr[d]?).getD .undef) = false:=by
 unfold occSt at h
 rw [Bool.or_eq_false_iff] at h
 have key:∀ (l:List (AV A)) (d:Nat),yady t l = false→occAV t ((l[d]?).getD .undef) = false:=by
  intro l
  induction l with
  | nil=>intro d _;rfl
  | cons x xs ih =>
   intro d h
   simp only [yady,Bool.or_eq_false_iff] at h
   cases d with
   | zero=>simpa using h.1
   | succ d=>simpa using ih d h.2
 exact key _ d h.1
theorem yy3y {t:Nat} (h:occSt t S = false) (x:Operand):occAV t (yafy S.fr x) = false:=by
 cases x with
 | tmp d=>exact yH7y h
 | const v =>
  simp only [yafy]
  unfold constAV
  split
  ·simp only [occAV];exact ytry _
  ·unfold const1;split <;> rfl
 | global _=>rfl
 | func _=>rfl
theorem yzsy {t:Nat} (h:occSt t S = false):yfay t S.look:=by
 intro x ob hx
 unfold occSt at h
 rw [Bool.or_eq_false_iff] at h
 cases hh:occOb t (some ob) with
 | false=>rfl
 | true =>
  unfold St.look at hx
  cases hg:S.st[x]? with
  | none=>rw [hg] at hx;cases hx
  | some y =>
   rw [hg] at hx
   simp only [Option.getD_some] at hx
   subst hx
   have:S.st.any (occOb t) = true:=List.any_eq_true.2 ⟨_,List.mem_of_getElem? hg,hh⟩
   rw [h.2] at this;cases this
theorem yBsy {E:Env A} {ops:Array Oper} {al:List Nat} {i j:Nat} {oi oj:Oper} {v:AV A} {u:Upd A} (h:ydiy E ops al j v u = true) (hm:i∈al) (hij:i≠j) (hw:yfiy ops j i = false) (hi:ops[i]? = some oi) (hj:ops[j]? = some oj)
  {t:Nat} (ht:t∈E.tags oi):t ∉ E.tags oj∧occAV t v = false∧∀ x∈u,x.1≠t∧occOb t x.2 = false:=by
 unfold ydiy at h
 have h1:=List.all_eq_true.1 h i hm
 simp only [Bool.or_eq_true,beq_iff_eq,hw,hi,hj,Bool.false_eq_true,false_or] at h1
 have h2:=List.all_eq_true.1 (h1.resolve_left hij) t ht
 simp only [Bool.and_eq_true,Bool.not_eq_true',List.all_eq_true,bne_iff_ne,ne_eq] at h2
 refine ⟨?_,h2.2.1,fun x hx=>h2.2.2 x hx⟩
 intro hc
 have:=h2.1
 rw [List.contains_iff_mem.2 hc] at this
 cases this
theorem AAny.firstA (E:Env A) (hC:yahy E.C) {ops:Array Oper} {al:List Nat} {rd:Nat→List Nat} {Q:St A→Prop} {i:Nat} {oi:Oper} (hi:ops[i]? = some oi) (ha:yjsy oi.op = true) (hal:i∈al) {v:AV A} {t:Nat} {ob:Ob A} (htag:t∈E.tags oi)
  (hpi:ydiy E ops al i v [(t,some ob)] = true):∀ (n:Nat) (L:Array Bool) (S:St A),
  opD E ops.toList oi S = some (v,[(t,some ob)],[t])→yj2y S oi = true→S.look t = none→t < S.st.length→occSt t S = false→(∀ d,oi.dst = some d→∀ t,occAV t ((S.fr[d]?).getD .undef) = false)→freeB ops L i = true→i∈yaqy ops L→ycVy ops L →
  AAny E ops al rd Q n (L.setIfInBounds i true) ((S.upd [(t,some ob)]).put oi.dst v)→AAny E ops al rd Q (n + 1) L S:=by
 have self:∀ (n:Nat) (L:Array Bool) (S:St A),opD E ops.toList oi S = some (v,[(t,some ob)],[t])→S.look t = none→t < S.st.length→occSt t S = false→AAny E ops al rd Q n (L.setIfInBounds i true) ((S.upd [(t,some ob)]).put oi.dst v) →
   ∀ o,ops[i]? = some o→∃ S' ts,stepK E ops.toList i o S (fltJ E ops al rd L i S) pair2 = some (S',ts)∧AAny E ops al rd Q n (L.setIfInBounds i true) S':=by
  intro n L S hv hn hlt hocc H o ho
  rw [hi] at ho
  cases ho
  refine ⟨_,[t],?_,H⟩
  rw [ybAy E hC ops.toList i oi S _,hv]
  have h1:fltJ E ops al rd L i S v [(t,some ob)] [t] = true:=by simp [fltJ,hpi,hn]
  have h2:yazy S [(t,some ob)] = true:=by simp [yazy,hn,hlt,hocc]
  simp only [Option.bind_some,h1,h2]
  rfl
 intro n
 induction n with
 | zero =>
  intro L S hv hdat hn hlt hocc hu hf hr hcl H
  refine ⟨fun h=>(by rw [h] at hr;cases hr),fun j hj o ho=>?_⟩
  by_cases hji:j = i
  ·subst hji;exact self 0 L S hv hn hlt hocc H o ho
  ·have:=ready_mono (md:=.any) hj hji
   rw [← ya3y,H.1] at this
   cases this
 | succ n ih =>
  intro L S hv hdat hn hlt hocc hu hf hr hcl H
  refine ⟨fun h=>(by rw [h] at hr;cases hr),fun j hj oj hoj=>?_⟩
  by_cases hji:j = i
  ·subst hji;exact self (n + 1) L S hv hn hlt hocc H oj hoj
  ·obtain ⟨S'',ts'',hstep,HA⟩:=H.2 j (ready_mono (md:=.any) hj hji) oj hoj
   have hap:freeB.apartB ops.toList oi oj = true:=by
    simp only [freeB,List.all_eq_true,Bool.or_eq_true] at hf
    have hjs:j∈List.range ops.size:=by
     have:=hj
     simp only [yaqy,List.mem_filter] at this
     exact this.1
    have hun:=(mem_ready.1 (ya3y ops L ▸ hj)).1
    rcases hf j hjs with h | h | h | h
    ·simp at h;exact absurd h hji
    ·rw [hun] at h;cases h
    ·rw [yiDy hr hj] at h;cases h
    ·simpa [hi,hoj] using h
   obtain ⟨hap1,hap2⟩:=yjly hap
   let S1:St A:=(S.upd [(t,some ob)]).put oi.dst v
   have hl1:But t S.look S1.look:=by
    intro x hx
    show S.look x = ((S.upd [(t,some ob)]).put oi.dst v).look x
    rw [yeTy,ygzy (fun y hy=>by simp at hy;subst hy;exact Ne.symm hx)]
   have hfr1:∀ d,oi.dst≠some d→(S1.fr[d]?).getD .undef = (S.fr[d]?).getD .undef:=by
    intro d hd
    rw [show S1.fr = ((S.upd [(t,some ob)]).put oi.dst v).fr from rfl,yc3y hd,yf1y]
   have hstep:stepK E ops.toList j oj S1 (fltJ E ops al rd (L.setIfInBounds i true) j S1) pair2 = some (S'',ts''):=hstep
   rw [ybAy E hC ops.toList j oj S1 _] at hstep
   cases hd:opD E ops.toList oj S1 with
   | none=>rw [hd] at hstep;cases hstep
   | some p =>
    rw [hd] at hstep
    obtain ⟨vj,uj,tj⟩:=p
    simp only [Option.bind_some] at hstep
    cases hfr:yazy S1 uj&&fltJ E ops al rd (L.setIfInBounds i true) j S1 vj uj tj with
    | false=>simp [hfr] at hstep
    | true =>
     simp only [hfr,cond_true,pair2,Option.some.injEq,Prod.mk.injEq] at hstep
     obtain ⟨hS,rfl⟩:=hstep
     rw [Bool.and_eq_true] at hfr
     have hpj:ydiy E ops al j vj uj = true:=by
      have:=hfr.2
      unfold fltJ at this
      rw [Bool.and_eq_true] at this
      exact this.2
     obtain ⟨q1,q2,q3⟩:=yBsy hpj hal (Ne.symm hji) (ykMy hcl hr hj) hi hoj htag
     have hsame:ygUy ops.toList oj S1.fr S.fr:=fun d hd'=>hfr1 d (fun e=>(hap1 d e).1 hd')
     have hd':opD E ops.toList oj S = some (vj,uj,tj):=by
      refine yipy E (S:=S1) hsame (fun h=>?_) hd
      rw [yBLy E ret3 hl1 (yzsy hocc) oj (fun x hx=>?_) q1]
      ·exact h
      ·rw [hsame.eval x hx];exact yy3y hocc x
     have hfl:fltJ E ops al rd L j S vj uj tj = true:=yrny (fun k hk=>ybyy hk) (fun x hx h=>by rw [hl1 x.1 (q3 x hx).1];exact h) hfr.2
     have hfs:yazy S uj = true:=by
      have:=hfr.1
      simp only [yazy,List.all_eq_true] at this ⊢
      intro x hx
      have h1:=this x hx
      rw [← hl1 x.1 (q3 x hx).1] at h1
      have hlen:S1.st.length = S.st.length:=by
       show ((S.upd [(t,some ob)]).put oi.dst v).st.length = _
       rw [yury,yb4y]
      rw [hlen] at h1
      cases ho:occSt x.1 S with
      | false =>
       revert h1
       cases x.2.isNone <;> cases (S.look x.1).isSome <;> simp
       intro h1 _;exact h1
      | true =>
       have hocc1:occSt x.1 S1 = true:=by
        refine yx8y (S:=S.upd [(t,some ob)]) (fun d hd=>?_) ?_
        ·intro t;rw [yf1y];exact hu d hd t
        ·unfold occSt at ho ⊢
         rw [Bool.or_eq_true] at ho ⊢
         refine ho.imp (fun h=>by rw [yf1y];exact h) (fun h=>?_)
         obtain ⟨y,hy,hyo⟩:=List.any_eq_true.1 h
         obtain ⟨m,hm⟩:=List.getElem?_of_mem hy
         have hmt:m≠t:=by
          rintro rfl
          unfold St.look at hn
          rw [hm] at hn
          simp only [Option.getD_some] at hn
          subst hn
          simp [occOb] at hyo
         refine List.any_eq_true.2 ⟨y,?_,hyo⟩
         show y∈(S.st.set t (some ob))
         refine List.mem_of_getElem? (i:=m) ?_
         rw [List.getElem?_set_ne (Ne.symm hmt)]
         exact hm
       rw [hocc1] at h1
       exact h1
     let Tn:St A:=(S.upd uj).put oj.dst vj
     have hTfr:∀ d,oj.dst≠some d→(Tn.fr[d]?).getD .undef = (S.fr[d]?).getD .undef:=by
      intro d hd
      rw [show Tn.fr = ((S.upd uj).put oj.dst vj).fr from rfl,yc3y hd,yf1y]
     have hTl:Tn.look t = none:=by
      show ((S.upd uj).put oj.dst vj).look t = none
      rw [yeTy,ygzy (fun x hx=>(q3 x hx).1)]
      exact hn
     have hTsame:ygUy ops.toList oi S.fr Tn.fr:=fun d hd'=>(hTfr d (fun e=>hap2 d e hd')).symm
     have hdat':yj2y Tn oi = true:=by
      simp only [yj2y,Array.all_eq_true'] at hdat ⊢
      intro x hx
      rw [← hTsame.eval x hx]
      exact hdat x hx
     have hv':opD E ops.toList oi Tn = some (v,[(t,some ob)],[t]):=by
      refine yipy E (S:=S) hTsame (fun h=>?_) hv
      refine yz4y E ha (fun x hx=>?_) hTl h
      simp only [yj2y,Array.all_eq_true'] at hdat
      exact hdat x hx
     have hTS:(Tn.upd [(t,some ob)]).put oi.dst v = S'':=by
      rw [← hS]
      show (((S.upd uj).put oj.dst vj).upd [(t,some ob)]).put oi.dst v = (((S.upd [(t,some ob)]).put oi.dst v).upd uj).put oj.dst vj
      rw [yjEy,yjEy,yv5y uj S (fun x hx=>(q3 x hx).1)]
      exact ypmy (fun x hx hy=>(hap1 x hy).2 hx)
     refine ⟨Tn,tj,?_,ih (L.setIfInBounds j true) Tn hv' hdat' hTl ?_ ?_ (fun d hd=>?_) (ykwy hf) (ready_mono (md:=.any) hr (Ne.symm hji)) (hcl.set hj) ?_⟩
     ·rw [ybAy E hC ops.toList j oj S _,hd']
      simp only [Option.bind_some]
      rw [hfs,hfl]
      rfl
     ·show t < ((S.upd uj).put oj.dst vj).st.length
      rw [yury,yb4y];exact hlt
     ·exact yy5y q2 (ypYy uj S (fun x hx=>(q3 x hx).2) hocc)
     ·intro t;rw [hTfr d (hap1 d hd).2];exact hu d hd t
     ·rw [hTS,Array.setIfInBounds_comm _ _ hji]
      exact HA
theorem yBEy {v:AV A} (h:noTag v = true) (t:Nat):occAV t v = false:=by
 cases v <;> simp only [noTag] at h <;> (try cases h) <;> simp only [occAV]
 ·rename_i cs
  induction cs with
  | nil=>rfl
  | cons c cs ih =>
   simp only [List.all_cons,Bool.and_eq_true] at h
   simp only [yady]
   rw [ih h.2,Bool.or_false]
   obtain ⟨h1,_⟩:=h
   cases c <;> simp only at h1 <;> (try cases h1) <;> rfl
 ·rename_i cs
  cases cs with
  | nil=>rfl
  | cons c cs=>cases h
theorem ykuy {o:Oper} (hu:yhMy S o = true):∀ d,o.dst = some d→∀ t,occAV t ((S.fr[d]?).getD .undef) = false:=by
 intro d hd t
 simp only [yhMy,hd] at hu
 exact yBEy hu t
theorem yrTy (E:Env A) (hC:yahy E.C) {ops:Array Oper} {al:List Nat} {k:St A→Option R}:∀ (n:Nat) (L:Array Bool) (l:List (Nat×Nat)) (acc:List (Nat×List Nat)) (S:St A),ycVy ops L→ybJy ops n L = some l→drawK E ops al acc l S k = some res →
  ∃ rd:Nat→List Nat,(∀ i,L.getD i false = true→rd i = rdOf acc i)∧AAny E ops al rd (fun S'=>k S' = some res) n L S:=by
 intro n
 induction n with
 | zero =>
  intro L l acc S hcl hl hk
  simp only [ybJy] at hl
  cases hr:yaqy ops L with
  | cons x xs=>simp [hr] at hl
  | nil =>
   simp [hr] at hl
   subst hl
   exact ⟨rdOf acc,fun _ _=>rfl,hr,by simpa [drawK] using hk⟩
 | succ n ih =>
  intro L l acc S hcl hl hk
  simp only [ybJy] at hl
  cases hr:yaqy ops L with
  | nil =>
   simp only [hr,Option.some.injEq] at hl
   subst hl
   exact ⟨rdOf acc,fun _ _=>rfl,fun _=>by simpa [drawK] using hk,fun i hi=>by rw [hr] at hi;cases hi⟩
  | cons x xs =>
   simp only [hr] at hl
   have un:∀ {i:Nat},i∈yaqy ops L→L.getD i false = true→False:=by
    intro i hi h
    have h0:=(mem_ready.1 (ya3y ops L ▸ hi)).1
    rcases Nat.lt_or_ge i L.size with h' | h'
    ·simp [h'] at h0 h;rw [h0] at h;cases h
    ·simp [Array.getElem?_eq_none h'] at h
   cases hf:(x::xs).find? fun i=>((ops[i]?).any (fun o=>yf6y o.op)&&freeB ops L i)&&!xs.isEmpty with
   | some i =>
    simp only [hf] at hl
    cases hd:ybJy ops n (L.setIfInBounds i true) with
    | none=>simp [hd] at hl
    | some l' =>
     simp only [hd,Option.map_some,Option.some.injEq] at hl
     subst hl
     have hmem:i∈yaqy ops L:=by rw [hr];exact List.mem_of_find?_eq_some hf
     have hp:=List.find?_some hf
     simp only [drawK] at hk
     cases ho:ops[i]? with
     | none=>simp [ho] at hk
     | some o =>
      simp only [ho,Option.any_some,Bool.and_eq_true] at hp
      obtain ⟨hp,_⟩:=hp
      simp only [ho] at hk
      cases hu:yhMy S o with
      | false=>rw [hu] at hk;cases hk
      | true =>
       rw [hu] at hk
       simp only [Bool.not_true,cond_false] at hk
       rw [ybAy E hC ops.toList i o S _] at hk
       cases hv:opD E ops.toList o S with
       | none=>rw [hv] at hk;cases hk
       | some p =>
        rw [hv] at hk
        obtain ⟨v,u,ts⟩:=p
        simp only [Option.bind_some] at hk
        cases u with
        | cons y ys=>simp [fltL] at hk
        | nil =>
         cases hpk:ydiy E ops al i v [] with
         | false=>simp [fltL,hpk] at hk
         | true =>
          have hff:(yazy S []&&fltL E ops al i v [] ts) = true:=by simp [fltL,hpk,yazy]
          rw [hff] at hk
          simp only [cond_true] at hk
          obtain ⟨rd,h1,h2⟩:=ih _ _ _ _ (hcl.set hmem) hd hk
          refine ⟨rd,fun i' hi'=>?_,AAny.first E hC ho hp.1 hpk n L S hv (fun t ht=>?_) (ykuy hu) hp.2 hmem hcl h2⟩
          ·rw [h1 i' (ybyy hi')]
           have hne:i≠i':=by rintro rfl;exact un hmem hi'
           unfold rdOf
           rw [List.find?_cons_of_neg (by simpa using hne)]
          ·rw [h1 i ?_]
           ·unfold rdOf
            simpa using ht
           ·have h0:=(mem_ready.1 (ya3y ops L ▸ hmem)).1
            rcases Nat.lt_or_ge i L.size with h' | h'
            ·simp [h']
            ·simp [Array.getElem?_eq_none h'] at h0
   | none =>
    simp only [hf] at hl
    cases xs with
    | cons y ys =>
     simp only at hl
     cases hf2:(x::y::ys).find? fun i=>(ops[i]?).any (fun o=>yjsy o.op)&&freeB ops L i with
     | none=>rw [hf2] at hl;cases hl
     | some i =>
      rw [hf2] at hl
      simp only at hl
      cases hd:ybJy ops n (L.setIfInBounds i true) with
      | none=>simp [hd] at hl
      | some l' =>
       simp only [hd,Option.map_some,Option.some.injEq] at hl
       subst hl
       have hmem:i∈yaqy ops L:=by rw [hr];exact List.mem_of_find?_eq_some hf2
       have hp:=List.find?_some hf2
       simp only [drawK] at hk
       cases ho:ops[i]? with
       | none=>simp [ho] at hk
       | some o =>
        simp only [ho,Option.any_some,Bool.and_eq_true] at hp
        simp only [ho] at hk
        cases hu:yhMy S o with
        | false=>rw [hu] at hk;cases hk
        | true =>
         rw [hu] at hk
         simp only [Bool.not_true,cond_false] at hk
         rw [ybAy E hC ops.toList i o S _] at hk
         cases hv:opD E ops.toList o S with
         | none=>rw [hv] at hk;cases hk
         | some p =>
          rw [hv] at hk
          obtain ⟨v,u,ts⟩:=p
          simp only [Option.bind_some] at hk
          cases hc:yazy S u&&fltA E ops al i o S v u ts with
          | false=>rw [hc] at hk;cases hk
          | true =>
           rw [hc] at hk
           simp only [cond_true] at hk
           rw [Bool.and_eq_true] at hc
           obtain ⟨hc1,hc2⟩:=hc
           unfold fltA at hc2
           split at hc2
           ·rename_i t ob t'
            simp only [Bool.and_eq_true,beq_iff_eq,List.contains_iff_mem,Option.isNone_iff_eq_none] at hc2
            obtain ⟨⟨rfl,h1,h2,h3,h4⟩,h5⟩:=hc2
            have h6:t < S.st.length∧occSt t S = false:=by
             simpa [yazy,h3] using hc1
            obtain ⟨rd,g1,g2⟩:=ih _ _ _ _ (hcl.set hmem) hd hk
            exact ⟨rd,fun i' hi'=>g1 i' (ybyy hi'),AAny.firstA E hC ho hp.1 h1 h2 h5 n L S hv h4 h3 h6.1 h6.2 (ykuy hu) hp.2 hmem hcl g2⟩
           ·rw [Bool.and_eq_true] at hc2
            obtain ⟨rd,g1,g2⟩:=ih _ _ _ _ (hcl.set hmem) hd hk
            rw [yymy hc2.1] at hv
            cases hpin:E.pinned o with
            | true=>rw [hpin] at hv;cases hv
            | false =>
             rw [hpin] at hv
             cases hv
             exact ⟨rd,fun i' hi'=>g1 i' (ybyy hi'),AAny.firstOff E hC ho hpin hc2.2 n L S hc2.1 (ykuy hu) hp.2 hmem hcl g2⟩
           ·simp at hc2
    | nil =>
     simp only at hl
     cases hd:ybJy ops n (L.setIfInBounds x true) with
     | none=>simp [hd] at hl
     | some l' =>
      simp only [hd,Option.map_some,Option.some.injEq] at hl
      subst hl
      have hmem:x∈yaqy ops L:=by rw [hr];simp
      simp only [drawK] at hk
      cases ho:ops[x]? with
      | none=>simp [ho] at hk
      | some o =>
       simp only [ho] at hk
       rw [ybAy E hC ops.toList x o S _] at hk
       cases hv:opD E ops.toList o S with
       | none=>rw [hv] at hk;cases hk
       | some p =>
        rw [hv] at hk
        obtain ⟨v,u,ts⟩:=p
        simp only [Option.bind_some] at hk
        cases hc:yazy S u&&fltK E ops al acc x S v u ts with
        | false=>simp [hc] at hk
        | true =>
         simp only [hc,cond_true] at hk
         obtain ⟨rd,g1,g2⟩:=ih _ _ _ _ (hcl.set hmem) hd hk
         have g3:∀ i',L.getD i' false = true→rd i' = rdOf acc i':=fun i' hi'=>g1 i' (ybyy hi')
         refine ⟨rd,g3,fun h=>(by rw [h] at hr;cases hr),fun i hi o' ho'=>?_⟩
         rw [hr] at hi
         simp at hi
         subst hi
         rw [ho] at ho'
         cases ho'
         refine ⟨(S.upd u).put o.dst v,ts,?_,g2⟩
         rw [ybAy E hC ops.toList i o S _,hv]
         simp only [Option.bind_some]
         rw [Bool.and_eq_true] at hc
         rw [hc.1,yHUy g3 hc.2]
         rfl
theorem AAny.sound (E:Env A) (hE:EnvOk E) {us:Array Value} {ops:Array Oper} {al:List Nat} {rd:Nat→List Nat} {Q:Exit→Act→World→Prop} {Q':St A→Prop} :
  ∀ (n:Nat) (L:Array Bool) (S:St A) (tmps:Array Value) (w:World),AAny E ops al rd Q' n L S→Rels E w0 F0 X us w tmps S →
  (∀ S' tmps' w',Q' S'→Rels E w0 F0 X us w' tmps' S'→Q .normal ⟨tmps',[]⟩ w')→wpAny E.P .any ops Q n L ⟨tmps,[]⟩ w:=by
 intro n
 induction n with
 | zero =>
  intro L S tmps w h hr hq
  have h1:yaqy ops L = []∧Q' S:=h
  exact ⟨h1.1,hq _ _ _ h1.2 hr⟩
 | succ n ih =>
  intro L S tmps w h hr hq
  have h':(yaqy ops L = []→Q' S)∧∀ i∈yaqy ops L,∀ o,ops[i]? = some o→∃ S' ts,stepK E ops.toList i o S (fltJ E ops al rd L i S) pair2 = some (S',ts)∧AAny E ops al rd Q' n (L.setIfInBounds i true) S':=h
  refine ⟨fun h0=>hq _ _ _ (h'.1 h0) hr,fun i hi=>?_⟩
  obtain ⟨hun,o,ho,_⟩:=mem_ready.1 hi
  obtain ⟨S',ts,h1,h2⟩:=h'.2 i hi o ho
  refine yjiy E hE ho hr h1 (fun S1 ts1 tmps1 w1 h3 h4=>?_)
  simp only [pair2,Option.some.injEq,Prod.mk.injEq] at h3
  obtain ⟨rfl,rfl⟩:=h3
  exact ih _ _ _ _ h2 h4 hq
end Go.Am
