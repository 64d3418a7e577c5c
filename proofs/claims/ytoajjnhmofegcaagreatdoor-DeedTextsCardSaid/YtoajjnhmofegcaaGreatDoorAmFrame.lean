/- Part of an abstract machine for this program, with its soundness: AmFrame. No condition: lemmas for the claim. -/
import Derived.Test.YtoajjnhmofegcaaGreatDoorAmOp
set_option linter.unusedVariables false
set_option linter.unusedSimpArgs false
namespace Go.Am
open Go
variable {A:Nat→Type} {R:Type}
variable {look look1:Nat→Option (Ob A)} {t:Nat}
def But (t:Nat) (look look1:Nat→Option (Ob A)):Prop:=∀ x,x≠t→look x = look1 x
def yfay (t:Nat) (look:Nat→Option (Ob A)):Prop:=∀ x ob,look x = some ob→occOb t (some ob) = false
theorem yary {a:Nat} (h:(a == t) = false):a≠t:=by simpa using h
theorem yzOy (hl:But t look look1) (hb:yfay t look):∀ n,
  (∀ v:AV A,occAV t v = false→hand look n v = hand look1 n v∧∀ x ts,hand look n v = some (x,ts)→t ∉ ts) ∧
  (∀ vs:List (AV A),yady t vs = false→hands look n vs = hands look1 n vs∧∀ x ts,hands look n vs = some (x,ts)→t ∉ ts):=by
 intro n
 induction n with
 | zero=>exact ⟨fun v _=>⟨by simp [hand],fun x ts h=>by simp [hand] at h⟩,fun vs _=>⟨by simp [hands],fun x ts h=>by simp [hands] at h⟩⟩
 | succ n ih =>
  have sub:∀ {α:Type} (f:List (IV A)→α) (cs:List (AV A)),yady t cs = false→((hands look n cs).map (fun (x,ts)=>(f x,ts))) = ((hands look1 n cs).map fun (x,ts)=>(f x,ts)) ∧
    ∀ x ts,((hands look n cs).map fun (x,ts)=>(f x,ts)) = some (x,ts)→t ∉ ts:=by
   intro α f cs h
   obtain ⟨h1,h2⟩:=ih.2 cs h
   refine ⟨by rw [h1],fun x ts hx=>?_⟩
   cases hh:hands look n cs with
   | none=>rw [hh] at hx;cases hx
   | some p =>
    rw [hh] at hx
    simp only [Option.map_some,Option.some.injEq,Prod.mk.injEq] at hx
    obtain ⟨_,rfl⟩:=hx
    exact h2 p.1 p.2 hh
  refine ⟨fun v hv=>?_,fun vs hv=>?_⟩
  ·cases v <;> simp only [hand] <;> simp only [occAV] at hv
   case undef=>exact ⟨trivial,fun x ts h=>by cases h;simp⟩
   case d y=>exact ⟨trivial,fun x ts h=>by cases h;simp⟩
   case cel cs off=>exact ⟨trivial,fun x ts h=>by cases h;simp⟩
   case agg cs=>exact sub _ cs hv
   case tup cs=>exact sub _ cs hv
   case fn f cs=>exact sub _ cs hv
   case own e a =>
    have hne:=yary hv
    rw [hl a hne]
    refine ⟨rfl,fun x ts h=>?_⟩
    split at h
    ·split at h
     ·cases h;simpa using Ne.symm hne
     ·cases h
    ·split at h
     ·cases h;simp
     ·cases h
    ·cases h
   case mp a =>
    have hne:=yary hv
    rw [hl a hne]
    refine ⟨rfl,fun x ts h=>?_⟩
    split at h
    ·cases h;simpa using Ne.symm hne
    ·cases h
   case ptr a off =>
    have hne:=yary hv
    cases off with
    | succ m=>exact ⟨by simp,fun x ts h=>by simp at h⟩
    | zero =>
     rw [← hl a hne]
     cases hx:look a with
     | none=>exact ⟨rfl,fun x ts h=>by simp at h⟩
     | some ob =>
      cases ob <;> simp only
      case box cs =>
       have hcs:=hb a _ hx
       simp only [occOb] at hcs
       obtain ⟨h1,h2⟩:=ih.2 cs hcs
       refine ⟨by rw [h1],fun x ts h=>?_⟩
       cases hh:hands look n cs with
       | none=>rw [hh] at h;cases h
       | some p =>
        rw [hh] at h
        simp only [Option.map_some,Option.some.injEq,Prod.mk.injEq] at h
        obtain ⟨_,rfl⟩:=h
        have:=h2 p.1 p.2 hh
        simp only [List.mem_cons,not_or]
        exact ⟨Ne.symm hne,this⟩
      all_goals exact ⟨trivial,fun x ts h=>by simp at h⟩
   all_goals exact ⟨trivial,fun x ts h=>by simp at h⟩
  ·cases vs with
   | nil=>simp only [hands];exact ⟨trivial,fun x ts h=>by cases h;simp⟩
   | cons v vs =>
    simp only [yady,Bool.or_eq_false_iff] at hv
    simp only [hands]
    obtain ⟨a1,a2⟩:=ih.1 v hv.1
    obtain ⟨b1,b2⟩:=ih.2 vs hv.2
    refine ⟨by rw [a1,b1],fun x ts h=>?_⟩
    cases h1:hand look n v with
    | none=>rw [h1] at h;cases h
    | some p =>
     cases h2:hands look n vs with
     | none=>rw [h1,h2] at h;cases h
     | some q =>
      rw [h1,h2] at h
      simp only [Option.bind_some,Option.some.injEq,Prod.mk.injEq] at h
      obtain ⟨_,rfl⟩:=h
      rw [List.mem_append]
      exact fun hh=>hh.elim (a2 _ _ h1) (b2 _ _ h2)
theorem ysTy (hl:But t look look1) (hb:yfay t look) (wr:Bool) (v:AV A) (hv:occAV t v = false):ydpy look wr v = ydpy look1 wr v∧∀ x ts ls,ydpy look wr v = some (x,ts,ls)→t ∉ ts∧t ∉ ls:=by
 have gen:((hand look 64 v).map fun (x,ts)=>(x,ts,([]:List Nat))) = ((hand look1 64 v).map fun (x,ts)=>(x,ts,([]:List Nat)))∧∀ x ts ls,((hand look 64 v).map fun (x,ts)=>(x,ts,([]:List Nat))) = some (x,ts,ls)→t ∉ ts∧t ∉ ls:=by
  obtain ⟨h1,h2⟩:=(yzOy hl hb 64).1 v hv
  refine ⟨by rw [h1],fun x ts ls h=>?_⟩
  cases hh:hand look 64 v with
  | none=>rw [hh] at h;cases h
  | some p =>
   rw [hh] at h
   simp only [Option.map_some,Option.some.injEq,Prod.mk.injEq] at h
   obtain ⟨_,rfl,rfl⟩:=h
   exact ⟨h2 p.1 p.2 hh,by simp⟩
 cases wr with
 | true=>simpa only [ydpy] using gen
 | false =>
  cases v <;> try (simpa only [ydpy] using gen)
  rename_i e a
  simp only [occAV] at hv
  have hne:=yary hv
  simp only [ydpy]
  rw [hl a hne]
  refine ⟨rfl,fun x ts ls h=>?_⟩
  split at h
  ·cases h;simpa using Ne.symm hne
  ·cases h;simpa using Ne.symm hne
  ·cases h
theorem yjuy (hl:But t look look1) (hb:yfay t look) (wr:Nat→Bool):∀ (vs:List (AV A)) (j:Nat),yady t vs = false→ybzy look wr j vs = ybzy look1 wr j vs∧∀ x ts ls,ybzy look wr j vs = some (x,ts,ls)→t ∉ ts∧t ∉ ls
 | [],j,_=>by simp only [ybzy];exact ⟨trivial,fun x ts ls h=>by cases h;simp⟩
 | v::vs,j,hv=>by
  simp only [yady,Bool.or_eq_false_iff] at hv
  obtain ⟨a1,a2⟩:=ysTy hl hb (wr j) v hv.1
  obtain ⟨b1,b2⟩:=yjuy hl hb wr vs (j + 1) hv.2
  simp only [ybzy]
  refine ⟨by rw [a1,b1],fun x ts ls h=>?_⟩
  cases h1:ydpy look (wr j) v with
  | none=>rw [h1] at h;cases h
  | some p =>
   cases h2:ybzy look wr (j + 1) vs with
   | none=>rw [h1,h2] at h;cases h
   | some q =>
    rw [h1,h2] at h
    simp only [Option.bind_some,Option.some.injEq,Prod.mk.injEq] at h
    obtain ⟨_,rfl,rfl⟩:=h
    obtain ⟨c1,c2⟩:=a2 _ _ _ h1
    obtain ⟨d1,d2⟩:=b2 _ _ _ h2
    simp only [List.mem_append]
    exact ⟨fun hh=>hh.elim c1 d1,fun hh=>hh.elim c2 d2⟩
variable (E:Env A) (k:AV A→Upd A→List Nat→Option R)
theorem yBmy {tags:List Nat} {p:Nat→Bool} (hl:But t look look1) (ht:t ∉ tags):(tags.all fun x=>(look x).isNone&&p x) = tags.all fun x=>(look1 x).isNone&&p x:=by
 induction tags with
 | nil=>rfl
 | cons x xs ih =>
  simp only [List.mem_cons,not_or] at ht
  simp only [List.all_cons]
  rw [ih ht.2,hl x (Ne.symm ht.1)]
theorem yxxy {ts:List Nat} (hl:But t look look1) (ht:t ∉ ts):lentU look ts = lentU look1 ts:=by
 unfold lentU
 refine List.map_congr_left (fun x hx=>?_)
 rw [hl x (fun e=>ht (e ▸ hx))]
theorem yxsy {ts:List Nat} (hl:But t look look1) (ht:t ∉ ts):goneU look ts = goneU look1 ts:=by
 unfold goneU
 refine List.map_congr_left (fun x hx=>?_)
 rw [hl x (fun e=>ht (e ▸ hx))]
theorem yoqy (hl:But t look look1) (hb:yfay t look) {tags:List Nat} (ht:t ∉ tags) (f:Nat) (caps args:List (AV A)) (hv:yady t (args++caps) = false) :
  callK E look k tags f caps args = callK E look1 k tags f caps args:=by
 obtain ⟨h1,h2⟩:=yjuy hl hb (E.mode f) (args++caps) 0 hv
 unfold callK
 rw [← h1]
 cases E.C f with
 | none=>rfl
 | some spec =>
  cases hh:ybzy look (E.mode f) 0 (args++caps) with
  | none=>rfl
  | some p =>
   obtain ⟨xs,ts,lent⟩:=p
   obtain ⟨c1,c2⟩:=h2 _ _ _ hh
   simp only
   rw [yBmy hl ht,yxxy hl c2,yxsy hl c1]
theorem yB9y (hl:But t look look1) (v:AV A) (hv:occAV t v = false):toD look v = toD look1 v:=by
 cases v <;> simp only [toD]
 simp only [occAV] at hv
 rw [hl _ (yary hv)]
theorem ysvy:∀ (u:Upd A) {look look1:Nat→Option (Ob A)},But t look look1→But t (lookU look u) (lookU look1 u)
 | [],look,look1,hl=>hl
 | (a,o)::r,look,look1,hl=>ysvy r (fun x hx=>by
  show (if x = a then o else look x) = if x = a then o else look1 x
  rw [hl x hx])
theorem ykBy:∀ (vs:List (AV A)) {look look1:Nat→Option (Ob A)},But t look look1→yady t vs = false→toDs look vs = toDs look1 vs
 | [],look,look1,hl,_=>rfl
 | v::vs,look,look1,hl,hv=>by
  simp only [yady,Bool.or_eq_false_iff] at hv
  simp only [toDs]
  rw [yB9y hl v hv.1]
  congr 1
  funext ⟨x,u,ts⟩
  simp only
  rw [ykBy vs (ysvy u hl) hv.2]
theorem ykIy (hl:But t look look1) (v:AV A) (hv:occAV t v = false):oneB look v = oneB look1 v:=by
 cases v <;> simp only [oneB] <;> simp only [occAV] at hv
 all_goals first | rw [hl _ (yary hv)] | (rename_i d;cases d <;> rfl)
theorem ylKy (hl:But t look look1) (v:AV A) (hv:occAV t v = false):ybsy look v = ybsy look1 v:=by
 cases v <;> simp only [ybsy] <;> exact ykIy hl _ hv
theorem yoly {v:AV A} (hv:occAV t v = false):yady t v.cells = false:=by
 cases v <;> simp only [AV.cells,yady,Bool.or_false] <;> first | exact hv | simpa only [occAV] using hv
theorem ym1y (hl:But t look look1):∀ (vs:List (AV A)),yady t vs = false→vs.all (oneB look) = vs.all (oneB look1)
 | [],_=>rfl
 | v::vs,hv=>by
  simp only [yady,Bool.or_eq_false_iff] at hv
  simp only [List.all_cons]
  rw [ykIy hl v hv.1,ym1y hl vs hv.2]
theorem yh2y (hl:But t look look1) {tags:List Nat} (ht:t ∉ tags):yboy look tags = yboy look1 tags:=by
 cases tags with
 | nil=>rfl
 | cons x xs =>
  simp only [yboy]
  rw [hl x (fun e=>ht (by simp [e]))]
theorem yxvy (hl:But t look look1) {tags:List Nat} (ht:t ∉ tags) (f1:Nat) (mp:Bool) (vs:List (AV A)) (hv:yady t vs = false):wrapK look k tags f1 mp vs = wrapK look1 k tags f1 mp vs:=by
 unfold wrapK
 rw [yh2y hl ht]
 cases vs with
 | nil=>rfl
 | cons x r =>
  cases r with
  | cons y r=>rfl
  | nil =>
   simp only [yady,Bool.or_false] at hv
   have ho:=ykIy hl x hv
   have hw:wrapV look mp x = wrapV look1 mp x:=by
    cases mp <;> cases x <;> simp only [wrapV] <;> simp only [occAV] at hv <;> first | rfl | rw [hl _ (yary hv)] | (rename_i d;cases d <;> rfl)
   cases yboy look1 tags with
   | none=>rfl
   | some u=>simp only [ho,hw]
theorem yway (hl:But t look look1) (hb:yfay t look) (f1:List Nat) (kk:Nat) (vs:List (AV A)) (hv:yady t vs = false):ykcy look f1 kk vs = ykcy look1 f1 kk vs:=by
 unfold ykcy
 split
 ·rename_i g tB
  simp only [yady,occAV,Bool.or_false] at hv
  have hne:=yary hv
  rw [← hl tB hne]
  split
  ·split
   ·rename_i u hbx
    have hu:=hb tB _ hbx
    simp only [occOb,yady,occAV,Bool.or_false] at hu
    rw [hl u (yary hu)]
   ·rfl
  ·rfl
 ·rfl
theorem ywry (hl:But t look look1) (x:AV A) (hv:occAV t x = false):bldOf look x = bldOf look1 x:=by
 unfold bldOf
 split
 ·simp only [occAV] at hv
  rw [hl _ (yary hv)]
 ·rfl
theorem yliy (hl:But t look look1) (m:Nat) (vs:List (AV A)) (hv:yady t vs = false):bldK look k m vs = bldK look1 k m vs:=by
 unfold bldK
 split <;> (try simp only [yady,Bool.or_eq_false_iff] at hv) <;> first | rfl | rw [ywry hl _ hv.1]
theorem yoBy (hl:But t look look1) (hb:yfay t look) {tags:List Nat} (ht:t ∉ tags) (f:Nat) (caps args:List (AV A)) (hv:yady t (args++caps) = false) :
  callS E look k tags f caps args = callS E look1 k tags f caps args:=by
 unfold callS
 cases E.sp f with
 | none=>exact yoqy E k hl hb ht f caps args hv
 | some s =>
  cases s with
  | wrap f1 mp=>exact yxvy k hl ht f1 mp _ hv
  | bwr=>exact yliy k hl 0 _ hv
  | bln=>exact yliy k hl 1 _ hv
  | bst=>exact yliy k hl 2 _ hv
  | keys f1 kk srt =>
   simp only
   rw [yway hl hb f1 kk _ hv]
   split
   ·split
    ·exact yoqy _ _ hl hb ht f [] [.undef] (by simp [yady,occAV])
    ·rfl
   ·rfl
theorem ygIy (hl:But t look look1) (place:Nat→Option (Nat×Nat)):∀ (ps:List (Nat×AV A)) (cs:List (AV A)),(∀ p∈ps,occAV t p.2 = false)→fillS look place cs ps = fillS look1 place cs ps
 | [],cs,_=>rfl
 | (i,v)::r,cs,h=>by
  simp only [fillS]
  cases place i with
  | none=>rfl
  | some p =>
   obtain ⟨off,size⟩:=p
   simp only
   rw [ylKy hl v (h (i,v) (by simp)),ygIy hl place r _ (fun p hp=>h p (by simp [hp]))]
theorem yrZy (place:Nat→Option (Nat×Nat)):∀ (ps:List (Nat×AV A)) (cs cs':List (AV A)),(∀ p∈ps,occAV t p.2 = false)→yady t cs = false→fillS look place cs ps = some cs'→yady t cs' = false
 | [],cs,cs',_,hc,hf=>by simp only [fillS] at hf;cases hf;exact hc
 | (i,v)::r,cs,cs',h,hc,hf=>by
  simp only [fillS] at hf
  cases hp:place i with
  | none=>simp [hp] at hf
  | some p =>
   obtain ⟨off,size⟩:=p
   simp only [hp] at hf
   split at hf
   ·refine yrZy place r _ cs' (fun p hp=>h p (by simp [hp])) ?_ hf
    cases ho:yady t (splice cs off v.cells) with
    | false=>rfl
    | true =>
     rcases yq8y ho with h1 | h1
     ·rw [hc] at h1;cases h1
     ·rw [yoly (h (i,v) (by simp))] at h1;cases h1
   ·cases hf
theorem ys5y (hl:But t look look1) {ty:TypeId} {ps:List (Nat×AV A)} (h:∀ p∈ps,occAV t p.2 = false):ychy E.P look ty ps = ychy E.P look1 ty ps:=by
 unfold ychy
 split
 ·split
  ·exact ygIy hl _ _ _ h
  ·rfl
 ·split
  ·exact ygIy hl _ _ _ h
  ·rfl
 ·rfl
theorem yoiy (hl:But t look look1) (e:Nat) (v:AV A) (hv:occAV t v = false):rowOf look e v = rowOf look1 e v:=by
 cases v <;> simp only [rowOf] <;> simp only [occAV] at hv
 case d y=>cases y <;> rfl
 case own e' a=>rw [hl _ (yary hv)]
theorem yxqy (hl:But t look look1) (v:AV A) (hv:occAV t v = false):lenAV look v = lenAV look1 v:=by
 cases v <;> simp only [lenAV] <;> simp only [occAV] at hv
 case d y=>cases y <;> rfl
 case own e' a=>rw [hl _ (yary hv)]
 case vw e' a lo hi=>rw [hl _ (yary hv)]
 case mp a=>rw [hl _ (yary hv)]
theorem ysQy (hl:But t look look1) {tags:List Nat} (ht:t ∉ tags) (sT:Nat) (z:Bool) (s x:AV A) (hs:occAV t s = false) (hx:occAV t x = false):ycTy E look k tags sT z s x = ycTy E look1 k tags sT z s x:=by
 unfold ycTy
 rw [yh2y hl ht]
 split
 ·rename_i e t1 _ _
  split
  ·cases s <;> (try rfl)
   case d y=>cases y <;> (try rfl);simp only [yoiy hl e x hx]
   case own e' a =>
    simp only [occAV] at hs
    simp only [hl _ (yary hs),yoiy hl e x hx]
  ·rfl
 ·rfl
theorem ym2y {ρ:Operand→AV A} {ps:Array (Nat×Operand)} (h:∀ x∈(ps.toList.map (·.2)).toArray,occAV t (ρ x) = false):∀ p∈(ps.toList.map fun p=>(p.1,ρ p.2)),occAV t p.2 = false:=by
 intro p hp
 obtain ⟨q,hq,rfl⟩:=List.mem_map.1 hp
 exact h q.2 (by simp;exact ⟨q.1,by simpa using hq⟩)
theorem ytry (l:List Value):yady t (l.map (const1 (A:=A))) = false:=by
 induction l with
 | nil=>rfl
 | cons v l ih =>
  simp only [List.map_cons,yady,ih,Bool.or_false]
  unfold const1
  split <;> rfl
theorem yljy {xs ys:List (AV A)}:yady t (xs++ys) = (yady t xs || yady t ys):=by
 induction xs with
 | nil=>simp [yady]
 | cons x xs ih=>simp only [List.cons_append,yady,ih,Bool.or_assoc]
theorem yDPy (n:Nat) {cs:List (AV A)} (h:yady t cs = false):yady t (List.replicate n cs).flatten = false:=by
 induction n with
 | zero=>rfl
 | succ n ih=>simp only [List.replicate_succ,List.flatten_cons,yljy,h,ih,Bool.or_false]
theorem yBLy (hl:But t look look1) (hb:yfay t look) {ρ:Operand→AV A} (o:Oper) (h:∀ x∈o.op.operands,occAV t (ρ x) = false) (ht:t ∉ E.tags o):opK E look ρ k o = opK E look1 ρ k o:=by
 unfold opK
 have hnt:=yh2y hl ht
 cases ho:o.op <;> rw [ho] at h <;> simp only [Op.operands] at h <;> simp only <;> (try rfl)
 case alloc e=>rw [hnt]
 case box e x=>rw [hnt,ylKy hl _ (h x (by simp))]
 case build ty ps=>rw [ys5y E hl (ym2y h)]
 case buildSlice ty n ps =>
  rw [hnt]
  split
  ·split
   ·cases hz:zeros (A:=A) E.P _ with
    | none=>rfl
    | some zs =>
     simp only
     split
     ·rw [ygIy hl _ _ _ (ym2y h)]
      cases hf:fillS look1 _ _ _ with
      | none=>rfl
      | some cs =>
       simp only
       rw [ykBy cs hl (yrZy _ _ _ cs (ym2y h) (yDPy n (by
        unfold zeros at hz
        cases hzz:(E.P.info? _).bind (·.zero) with
        | none=>rw [hzz] at hz;cases hz
        | some v=>rw [hzz] at hz;cases hz;exact ytry _)) hf)]
     ·rfl
   ·rfl
  ·rfl
 case load ty a =>
  have ha:=h a (by simp)
  cases hx:ρ a <;> simp only <;> rw [hx] at ha <;> simp only [occAV] at ha
  ·rw [hl _ (yary ha)]
  ·rw [hl _ (yary ha)]
 case store ty a x =>
  have ha:=h a (by simp)
  have hx:=yoly (h x (by simp))
  rw [ym1y hl _ hx,ykBy _ hl hx]
  split
  ·cases hx:ρ a <;> simp only <;> rw [hx] at ha <;> simp only [occAV] at ha
   ·rw [hl _ (yary ha)]
   ·rw [hl _ (yary ha)]
  ·rfl
 case nilCheck x =>
  have ha:=h x (by simp)
  cases hx:ρ x <;> (try simp only) <;> rw [hx] at ha <;> simp only [occAV] at ha
  ·rw [hl _ (yary ha)]
  ·rw [hl _ (yary ha)]
 case makeSlice ty n c=>rw [hnt]
 case slice ty x lo hi mx =>
  have ha:=h x (by simp)
  cases mx with
  | some m=>rfl
  | none =>
   cases hx:ρ x <;> (try simp only) <;> rw [hx] at ha <;> simp only [occAV] at ha
   rename_i e a
   rw [hl _ (yary ha)]
   split
   ·rename_i t2 heq
    rw [heq] at ht
    rw [hl t2 (by rintro rfl;simp at ht)]
   ·rfl
   ·rfl
 case fieldAddr s x f =>
  have ha:=h x (by simp)
  split
  ·cases hx:ρ x <;> (try simp only) <;> rw [hx] at ha <;> simp only [occAV] at ha
   ·rw [hl _ (yary ha)]
   ·rw [hl _ (yary ha)]
  ·rfl
 case indexAddr ty x i =>
  have ha:=h x (by simp)
  split
  ·split
   ·cases hx:ρ x <;> (try rfl) <;> rw [hx] at ha <;> simp only [occAV] at ha
    case d y=>cases y <;> rfl
    case own e a=>simp only [hl _ (yary ha)]
    case vw e a lo hi=>simp only [hl _ (yary ha)]
   ·rfl
  ·rfl
 case makeMap ty r=>cases r with
  | none=>simp only;rw [hnt]
  | some _=>rfl
 case lookup ty x i ok =>
  have ha:=h x (by simp)
  split
  ·rename_i tg _ hx
   rw [hx] at ha
   simp only [occAV] at ha
   rw [hl _ (yary ha)]
  ·rfl
 case mapUpdate ty x i y =>
  have ha:=h x (by simp)
  split
  ·rename_i tg _ hx
   rw [hx] at ha
   simp only [occAV] at ha
   rw [hl _ (yary ha)]
  ·rfl
 case insert ty x i y =>
  have ha:=h x (by simp)
  split
  ·rename_i tg _ hx
   rw [hx] at ha
   simp only [occAV] at ha
   rw [hl _ (yary ha)]
  ·rfl
 case call c =>
  have hargs:∀ x∈c.args,occAV t (ρ x) = false:=fun x hx=>h x (by simp [Call.operands,hx])
  cases hc:c.callee with
  | invoke r n=>rfl
  | value f =>
   have hf:occAV t (ρ f) = false:=h f (by simp [Call.operands,hc])
   have:∀ (l:List Operand),(∀ x∈l,occAV t (ρ x) = false)→yady t (l.map ρ) = false:=by
    intro l
    induction l with
    | nil=>intro _;rfl
    | cons x xs ih=>intro hh;simp only [List.map_cons,yady,hh x (by simp),ih (fun y hy=>hh y (by simp [hy])),Bool.or_false]
   have hl':=this c.args.toList (fun x hx=>hargs x (by simpa using hx))
   simp only
   cases hx:ρ f <;> (try simp only)
   case d y =>
    cases y <;> (try simp only)
    refine yoBy E k hl hb ht _ _ _ ?_
    rw [yljy,hl'];rfl
   case fn fn caps =>
    rw [hx] at hf
    simp only [occAV] at hf
    refine yoBy E k hl hb ht fn caps _ ?_
    rw [yljy,hf,Bool.or_false]
    exact hl'
  | builtin b =>
   cases b <;> (try rfl) <;> simp only
   case append =>
    split
    ·rename_i s x _ _ heq _
     exact ysQy E k hl ht _ _ _ _ (hargs s (by rw [← Array.mem_toList_iff,heq];simp)) (hargs x (by rw [← Array.mem_toList_iff,heq];simp))
    ·rfl
   case len =>
    split
    ·rename_i x _ heq _
     rw [yxqy hl _ (hargs x (by rw [← Array.mem_toList_iff,heq];simp))]
    ·rfl
   case clear =>
    split
    ·rename_i x _ heq _
     have ha:=hargs x (by rw [← Array.mem_toList_iff,heq];simp)
     split
     ·rename_i hx _
      rw [hx] at ha
      simp only [occAV] at ha
      rw [hl _ (yary ha)]
     ·rfl
    ·rfl
   case delete =>
    split
    ·rename_i x y _ _ heq _
     have ha:=hargs x (by rw [← Array.mem_toList_iff,heq];simp)
     split
     ·rename_i hx
      rw [hx] at ha
      simp only [occAV] at ha
      rw [hl _ (yary ha)]
     ·rfl
    ·rfl
theorem yvNy {look look':Nat→Option (Ob A)} {v:AV A} (h:∀ t,ymvy v = some t→look t = look' t):ybsy look v = ybsy look' v:=by
 cases v <;> simp only [ybsy,oneB] <;> first | rw [h _ rfl] | rfl | (rename_i d;cases d <;> rfl)
theorem ykUy {look look':Nat→Option (Ob A)} (place:Nat→Option (Nat×Nat)):∀ (ps:List (Nat×AV A)) (cs:List (AV A)),(∀ p∈ps,∀ t,ymvy p.2 = some t→look t = look' t)→fillS look place cs ps = fillS look' place cs ps
 | [],cs,_=>rfl
 | (i,v)::r,cs,h=>by
  simp only [fillS]
  cases place i with
  | none=>rfl
  | some p =>
   obtain ⟨off,size⟩:=p
   simp only
   rw [yvNy (look':=look') (h (i,v) (by simp)),ykUy (look':=look') place r _ (fun p hp=>h p (by simp [hp]))]
theorem yAay {look look':Nat→Option (Ob A)} {ρ:Operand→AV A} {o:Oper} (hl:yf6y o.op = true) (h:∀ x∈o.op.operands,∀ t,ymvy (ρ x) = some t→look t = look' t) (ht:∀ t∈E.tags o,look t = look' t) :
  opK E look ρ k o = opK E look' ρ k o:=by
 unfold opK
 cases ho:o.op <;> rw [ho] at hl h <;> simp only [yf6y] at hl <;> (try cases hl) <;> simp only [Op.operands] at h <;> simp only <;> (try rfl)
 case build ty ps =>
  have hp:∀ p∈(ps.toList.map fun p=>(p.1,ρ p.2)),∀ t,ymvy p.2 = some t→look t = look' t:=by
   intro p hp
   obtain ⟨q,hq,rfl⟩:=List.mem_map.1 hp
   exact h q.2 (by simp;exact ⟨q.1,by simpa using hq⟩)
  have:ychy E.P look ty (ps.toList.map fun p=>(p.1,ρ p.2)) = ychy E.P look' ty (ps.toList.map fun p=>(p.1,ρ p.2)):=by
   unfold ychy
   split
   ·split
    ·exact ykUy _ _ _ hp
    ·rfl
   ·split
    ·exact ykUy _ _ _ hp
    ·rfl
   ·rfl
  rw [this]
 case load ty a =>
  have ha:=h a (by simp)
  cases hx:ρ a <;> (try rfl) <;> rw [hx] at ha <;> simp only [ha _ rfl]
 case nilCheck x =>
  have ha:=h x (by simp)
  cases hx:ρ x <;> (try rfl) <;> rw [hx] at ha <;> simp only [ha _ rfl]
 case slice ty x lo hi mx =>
  have ha:=h x (by simp)
  cases mx with
  | some m=>rfl
  | none =>
   cases hx:ρ x <;> (try rfl)
   rename_i e a
   rw [hx] at ha
   simp only [ha _ rfl]
   split
   ·rename_i t2 heq
    simp only [ht t2 (by rw [heq];simp)]
   ·rfl
   ·rfl
 case fieldAddr s x f =>
  have ha:=h x (by simp)
  split
  ·cases hx:ρ x <;> (try rfl) <;> rw [hx] at ha <;> simp only [ha _ rfl]
  ·rfl
 case lookup ty x i ok =>
  have ha:=h x (by simp)
  split
  ·rename_i tg _ hx
   rw [hx] at ha
   rw [ha _ rfl]
  ·rfl
 case indexAddr ty x i =>
  have ha:=h x (by simp)
  split
  ·split
   ·cases hx:ρ x <;> (try rfl) <;> rw [hx] at ha
    case d y=>cases y <;> rfl
    case own e a=>simp only [ha _ rfl]
    case vw e a lo hi=>simp only [ha _ rfl]
   ·rfl
  ·rfl
 case call c =>
  cases hc:c.callee with
  | invoke r n=>rfl
  | value f=>simp [hc] at hl
  | builtin b =>
   cases b <;> (try rfl) <;> simp only [hc] at hl <;> (try cases hl)
   simp only
   split
   ·rename_i x _ heq _
    have ha:=h x (by simp only [Call.operands,hc];simp;rw [← Array.mem_toList_iff,heq];simp)
    have:lenAV look (ρ x) = lenAV look' (ρ x):=by
     cases hx:ρ x <;> simp only [lenAV] <;> rw [hx] at ha
     case d y=>cases y <;> rfl
     case own e a=>rw [ha _ rfl]
     case vw e a lo hi=>rw [ha _ rfl]
     case mp a=>rw [ha _ rfl]
    rw [this]
   ·rfl
theorem yr2y {look look':Nat→Option (Ob A)} {v:AV A} (h:ykdy v = true):ybsy look v = ybsy look' v:=by
 cases v <;> simp only [ykdy] at h <;> (try cases h) <;> simp only [ybsy]
 rename_i d
 cases d <;> rfl
theorem ypqy {look look':Nat→Option (Ob A)} (place:Nat→Option (Nat×Nat)):∀ (ps:List (Nat×AV A)) (cs:List (AV A)),(∀ p∈ps,ykdy p.2 = true)→fillS look place cs ps = fillS look' place cs ps
 | [],cs,_=>rfl
 | (i,v)::r,cs,h=>by
  simp only [fillS]
  cases place i with
  | none=>rfl
  | some p =>
   obtain ⟨off,size⟩:=p
   simp only
   rw [yr2y (look':=look') (h (i,v) (by simp)),ypqy (look':=look') place r _ (fun p hp=>h p (by simp [hp]))]
theorem ysfy:∀ {cs:List (AV A)} {look look':Nat→Option (Ob A)} {ds:List (D A)},toDs look cs = some (ds,[],[])→toDs look' cs = some (ds,[],[])
 | [],look,look',ds,h=>by simp only [toDs] at h ⊢;exact h
 | v::vs,look,look',ds,h=>by
  simp only [toDs] at h ⊢
  cases h1:toD look v with
  | none=>rw [h1] at h;cases h
  | some p =>
   obtain ⟨x,u,ts⟩:=p
   rw [h1] at h
   simp only [Option.bind_some] at h
   cases h2:toDs (lookU look u) vs with
   | none=>rw [h2] at h;cases h
   | some q =>
    obtain ⟨xs,us,ts'⟩:=q
    rw [h2] at h
    simp only [Option.bind_some,Option.some.injEq,Prod.mk.injEq,List.append_eq_nil_iff] at h
    obtain ⟨rfl,⟨rfl,rfl⟩,rfl,rfl⟩:=h
    have h3:toD look' v = some (x,[],[]):=by
     cases v <;> simp only [toD] at h1 ⊢ <;> (try cases h1)
     ·rfl
     ·split at h1 <;> cases h1
    rw [h3]
    simp only [Option.bind_some]
    rw [ysfy (look':=lookU look' []) h2]
    rfl
theorem ywHy {look look':Nat→Option (Ob A)} {tags:List Nat} {tg:Nat} (h:yboy look tags = some tg) (ht:look' tg = none):yboy look' tags = some tg:=by
 cases tags with
 | nil=>cases h
 | cons x xs =>
  simp only [yboy] at h ⊢
  split at h
  ·cases h;simp [ht]
  ·cases h
theorem yz4y {look look':Nat→Option (Ob A)} {ρ:Operand→AV A} {o:Oper} {v:AV A} {t:Nat} {ob:Ob A} (ha:yjsy o.op = true) (hd:∀ x∈o.op.operands,ykdy (ρ x) = true)
  (ht:look' t = none) (h:opK E look ρ ret3 o = some (v,[(t,some ob)],[t])):opK E look' ρ ret3 o = some (v,[(t,some ob)],[t]):=by
 unfold opK at h ⊢
 have nt:∀ {tg:Nat},yboy look (E.tags o) = some tg→tg = t→yboy look' (E.tags o) = some tg:=fun h e=>ywHy h (e ▸ ht)
 cases ho:o.op <;> rw [ho] at ha hd <;> simp only [yjsy] at ha <;> (try cases ha) <;> simp only [ho] at h ⊢
 case alloc e =>
  split at h
  ·rename_i tg cs h1 h2
   split at h
   ·rename_i hb
    split at h
    ·simp only [ret3,Option.some.injEq,Prod.mk.injEq,List.cons.injEq,and_true] at h
     obtain ⟨hv,⟨rfl,hob⟩,_⟩:=h
     rw [nt h1 rfl,h2]
     simp only [hb,if_true,ret3,← hv,← hob]
    ·cases h
   ·rename_i hb
    simp only [ret3,Option.some.injEq,Prod.mk.injEq,List.cons.injEq,and_true] at h
    obtain ⟨hv,⟨rfl,hob⟩,_⟩:=h
    rw [nt h1 rfl,h2]
    simp only [hb,if_false,ret3,← hv,← hob]
  ·cases h
 case box e x =>
  split at h
  ·rename_i tg h1
   split at h
   ·rename_i hb
    simp only [ret3,Option.some.injEq,Prod.mk.injEq,List.cons.injEq,and_true] at h
    obtain ⟨hv,⟨rfl,hob⟩,_⟩:=h
    rw [nt h1 rfl]
    simp only [Op.operands] at hd
    rw [yr2y (look':=look') (hd x (by simp))] at hb
    simp only [hb,if_true,ret3,← hv,← hob]
   ·cases h
  ·cases h
 case makeMap ty r =>
  cases r with
  | some x=>cases ha
  | none =>
   simp only at h ⊢
   split at h
   ·rename_i ki e tg h1 h2
    simp only [ret3,Option.some.injEq,Prod.mk.injEq,List.cons.injEq,and_true] at h
    obtain ⟨hv,⟨rfl,hob⟩,_⟩:=h
    rw [nt h2 rfl,h1]
    simp only [ret3,← hv,← hob]
   ·cases h
 case makeSlice ty n c =>
  split at h
  ·rename_i e tg kn n' kc c' h1 h2 h3 h4
   have key:tg = t:=by
    split at h
    ·split at h
     ·split at h
      ·replace h:=yvvy h
       simp only [ret3,Option.some.injEq,Prod.mk.injEq,List.cons.injEq,and_true] at h
       exact h.2.1.1
      ·cases h
     ·cases h
    ·cases h
   rw [nt h2 key,h1,h3,h4]
   exact h
  ·cases h
 case buildSlice ty n ps =>
  have hps:∀ p∈(ps.toList.map fun p=>(p.1,ρ p.2)),ykdy p.2 = true:=by
   intro p hp
   obtain ⟨q,hq,rfl⟩:=List.mem_map.1 hp
   exact hd q.2 (by simp only [Op.operands];simp;exact ⟨q.1,by simpa using hq⟩)
  split at h
  ·rename_i e tg h1 h2
   split at h
   ·rename_i hsz
    cases hz:zeros (A:=A) E.P e with
    | none=>rw [hz] at h;cases h
    | some zs =>
     rw [hz] at h
     simp only at h
     split at h
     ·rename_i hlen
      rw [ypqy (look':=look') _ _ _ hps] at h
      cases hf:fillS look' (fun i=>some (i * E.P.cellsOf e,E.P.cellsOf e)) ((List.replicate n zs).flatten) (ps.toList.map fun p=>(p.1,ρ p.2)) with
      | none=>rw [hf] at h;cases h
      | some cs =>
       rw [hf] at h
       simp only at h
       cases hds:toDs look cs with
       | none=>rw [hds] at h;cases h
       | some p =>
        obtain ⟨ds,u,ts⟩:=p
        rw [hds] at h
        simp only at h
        cases hdec:decs E.T e (chunk (E.P.cellsOf e) n ds) with
        | none=>rw [hdec] at h;cases h
        | some xs =>
         rw [hdec] at h
         simp only [ret3,Option.some.injEq,Prod.mk.injEq] at h
         obtain ⟨hv,hu,hts⟩:=h
         have hts':tg = t∧ts = []:=by simpa using hts
         obtain ⟨rfl,rfl⟩:=hts'
         have hu':u = []:=by
          cases u with
          | nil=>rfl
          | cons y ys=>have:=congrArg List.length hu;simp at this
         subst hu'
         rw [nt h2 rfl,h1]
         simp only [if_pos hsz,hz,if_pos hlen,hf,ysfy (look':=look') hds,hdec,ret3,hv]
         rw [← hu]
     ·cases h
   ·cases h
  ·cases h
end Go.Am
