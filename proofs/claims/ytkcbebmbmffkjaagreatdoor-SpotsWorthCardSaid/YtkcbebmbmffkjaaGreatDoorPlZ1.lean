/- The plain law, in Lean alone: Z1, Z2, Z3. No condition: lemmas for the claim. -/
import Derived.Test.YtkcbebmbmffkjaaGreatDoorPlS1
import Derived.Test.YtkcbebmbmffkjaaGreatDoorPlB4
import Derived.Test.YtkcbebmbmffkjaaGreatDoorPlK
set_option linter.unusedVariables false
set_option linter.unusedSectionVars false
set_option linter.unusedSimpArgs false
set_option maxRecDepth 100000
namespace Go.Am
open Go Go.Proofs
variable [Fuel]
def keysZ:List (List UInt8):=[[98,49,54,48],[98,52,48],[98,51,48],[98,50,48],[]]
theorem yHYy:keysZ.all (fun s=>(kit_IsKey s some).isSome) = true:=by
 obtain ⟨m,h,rfl⟩:=ycLy ‹Fuel›
 kernel_rfl
theorem yOry:keysZ.all (fun s=>ynMy (kit_IsKey s some) (Q_Key s some)) = true:=by
 obtain ⟨m,h,rfl⟩:=ycLy ‹Fuel›
 kernel_rfl
theorem yqAy {s:List UInt8} (h:s ∈ keysZ) (R:Type) (k:Bool→Option R):kit_IsKey s k = k (keyB s) :=
 yexy ybly.na (args:=[.d (.str s)]) (F:=@kit_IsKey _ s) (fun _ _=>rfl) (ygGy (List.all_eq_true.1 yHYy s h)) R k
theorem yMOy {s:List UInt8} (h:s ∈ keysZ) (R:Type) (k:Bool→Option R):Q_Key s k = k (keyB s) :=
 yexy yiey.na (args:=[.d (.str s)]) (F:=@Q_Key _ s) (fun _ _=>rfl) (ym8y (List.all_eq_true.1 yOry s h)).2 R k
theorem yNTy:(match kit_IsKey [] some with | some b=>b | none=>true) = false:=by
 obtain ⟨m,h,rfl⟩:=ycLy ‹Fuel›
 kernel_rfl
theorem yHuy:keyB [] = false:=by
 have h:=yNTy
 rw [yqAy (by decide +kernel)] at h
 exact h
abbrev Far (x:Int):Prop:=-4503599627370496≤x∧x≤4503599627370496
structure FineB (x:G_Band):Prop where
 key:x.f_Key ∈ keysZ
 low:Far x.f_Low
 high:Far x.f_High
def yiIy:List G_Band:=[⟨[98,49,54,48],1800000,2000000⟩,⟨[98,52,48],7000000,7300000⟩,⟨[98,51,48],7300000,10150000⟩,⟨[98,50,48],14000000,14350000⟩]
theorem yAQy:∀ x ∈ yiIy,FineB x:=by
 intro x hx
 simp only [yiIy,List.mem_cons,List.not_mem_nil,or_false] at hx
 rcases hx with rfl | rfl | rfl | rfl <;> exact ⟨by decide +kernel,⟨by decide,by decide⟩,⟨by decide,by decide⟩⟩
theorem z53z_loop (l:List G_Band) (hl:l.length≤4):∀ (xs:List G_Band) (n i:Nat) (s:G_Stream) (out:List G_Band) (b:Int),l.drop i = xs→xs.length < n→SOk b s→b + (xs.length:Int)≤2000000→out.length≤i →
  ∃ (ys:List G_Band) (s':G_Stream),SOk (b + (xs.length:Int)) s'∧ys.Sublist xs∧∀ (R:Type) (e0:G_Stream→List G_Band→Option R),z53z_L3 ygdy n (l.length:Int) (i:Int) s l out e0 = e0 s' (out ++ ys)
 | _,0,_,_,_,_,_,h,_,_,_=>by omega
 | [],n + 1,i,s,out,b,h,_,hs,hb,ho=>⟨[],s,hs.mono (by simp),List.Sublist.slnil,fun R e0=>by rw [z53z_L3,yaCy h,List.append_nil]; rfl⟩
 | x :: xs,n + 1,i,s,out,b,h,hn,hs,hb,ho=>by
  have h':=yaly h
  have hn':xs.length < n:=Nat.lt_of_succ_lt_succ (by simpa only [List.length_cons] using hn)
  obtain ⟨f,s1,z1,e1⟩:=z76z_gives hs 8 (by simp only [List.length_cons] at hb; omega) (by omega)
  cases f with
  | true =>
   obtain ⟨ys,s',g1,g2,g4⟩:=z53z_loop l hl xs n (i + 1) s1 out (b + 1) h'.2.2.1 hn' z1 (by simp only [List.length_cons] at hb; omega) (by omega)
   refine ⟨ys,s',g1.mono (by simp; omega),g2.cons x,fun R e0=>?_⟩
   rw [z53z_L3,yayy h]
   simp only [cond_true,ycuy h,ydfy h,ygdy,e1,Bool.not_true,cond_false,yamy (show i < 4611686018427387904 by omega)]
   exact g4 R e0
  | false =>
   obtain ⟨ys,s',g1,g2,g4⟩:=z53z_loop l hl xs n (i + 1) s1 (out ++ [x]) (b + 1) h'.2.2.1 hn' z1 (by simp only [List.length_cons] at hb; omega) (by simp; omega)
   refine ⟨x :: ys,s',g1.mono (by simp; omega),g2.cons_cons x,fun R e0=>?_⟩
   rw [z53z_L3,yayy h]
   simp only [cond_true,ycuy h,ydfy h,ygdy,e1,Bool.not_false,room1 out x 32 (show out.length≤1000000 by omega) (by omega),yamy (show i < 4611686018427387904 by omega)]
   have:=g4 R e0
   rw [List.append_assoc] at this
   exact this
theorem z53z_gives {b:Int} {s:G_Stream} (hs:SOk b s) (hb:b≤1000000) :
  ∃ (r:List G_Band) (s':G_Stream),SOk (b + 4) s'∧r.Sublist yiIy∧∀ (R:Type) (k:List G_Band→G_Stream→Option R),z53z s k = k r s':=by
 obtain ⟨ys,s',g1,g2,g4⟩:=z53z_loop yiIy (by decide) yiIy NN 0 s [] b rfl (by have:=NN_ok; show 4 < NN; omega) hs (by show b + 4≤_; omega) (by simp)
 refine ⟨ys,s',g1,g2,fun R k=>?_⟩
 simp only [z53z,z53z_]
 exact g4 R _
theorem yDQy {r:List G_Band} (h:r.Sublist yiIy):r.length≤4∧∀ x ∈ r,FineB x:=⟨h.length_le,fun x hx=>yAQy x (h.subset hx)⟩
theorem z101z_gives {b:Int} {s:G_Stream} (hs:SOk b s) (hb:b≤1000000) :
  ∃ (r:List G_Band) (s':G_Stream),SOk (b + 20) s'∧r.length≤4∧(∀ x ∈ r,FineB x)∧∀ (R:Type) (k:List G_Band→G_Stream→Option R),z101z s k = k r s':=by
 obtain ⟨r,s1,z1,hr,e1⟩:=z53z_gives hs hb
 obtain ⟨hl,hf⟩:=yDQy hr
 by_cases h0:r.length = 0
 ·refine ⟨r,s1,z1.mono (by omega),hl,hf,fun R k=>?_⟩
  simp only [z101z,z101z_,ykzy,e1,decide_eq_false (show ¬ ((r.length:Int) > 0) by omega),cond_false]
 ·obtain ⟨f,s2,z2,e2⟩:=z76z_gives z1 12 (by omega) (by omega)
  have hp:decide ((r.length:Int) > 0) = true:=decide_eq_true (by omega)
  cases f with
  | false=>exact ⟨r,s2,z2.mono (by omega),hl,hf,fun R k=>by simp only [z101z,z101z_,ykzy,e1,hp,cond_true,e2,cond_false]⟩
  | true =>
   obtain ⟨i,s3,hi0,hi1,z3,e3⟩:=z80z_gives z2 (r.length:Int) (by omega) (by omega)
   obtain ⟨j,rfl⟩:∃ j:Nat,i = (j:Int):=⟨i.toNat,by omega⟩
   have hj:j < r.length:=by have:=hi1 (by omega); omega
   obtain ⟨x,hx⟩:∃ x,r[j]? = some x:=⟨r[j],List.getElem?_eq_getElem hj⟩
   have hxf:=hf x (List.mem_of_getElem? hx)
   obtain ⟨ky,s4,hk,z4,e4⟩:=z59z_gives z3 [x.f_Key,[],[98,50,48]] (by omega) (by simp) (by simp)
   obtain ⟨lo,s5,l1,l2,z5,e5⟩:=ybby z4 0 20000 (by omega) (by omega) (by omega) (by omega) (by omega)
   have hh:Mid x.f_High:=by
    have:=hr.subset (List.mem_of_getElem? hx)
    simp only [yiIy,List.mem_cons,List.not_mem_nil,or_false] at this
    rcases this with rfl | rfl | rfl | rfl <;> exact ⟨by decide,by decide⟩
   have w1:w64 (x.f_High + 1) = x.f_High + 1:=yaky (by omega) (by omega)
   obtain ⟨hg,s6,hhg,z6,e6⟩:=z65z_gives z5 [x.f_High,x.f_High + 1,30000000000,30000001000,0] (by omega) (by simp) (by simp)
   have hg':Far hg:=by
    simp only [List.mem_cons,List.not_mem_nil,or_false] at hhg
    omega
   have lo':Far (w64 (1000 * lo)):=by
    rw [yaky (by omega) (by omega)]
    exact ⟨by omega,by omega⟩
   have hk':ky ∈ keysZ:=by
    simp only [List.mem_cons,List.not_mem_nil,or_false] at hk
    rcases hk with rfl | rfl | rfl
    ·exact hxf.key
    all_goals decide +kernel
   have a0:∀ {R:Type} (k:G_Band→Option R),at_ r (j:Int) k = k x:=fun k=>yaOy hx k
   have i0:∀ {R:Type} (k:Option R),inr r (j:Int) k = k:=fun k=>ya6y hj k
   have a1:∀ (y:G_Band) {R:Type} (k:G_Band→Option R),at_ (set_ r (j:Int) y) (j:Int) k = k y:=fun y R k=>yaOy (by rw [ydjy,List.getElem?_set_self hj]) k
   have a2:∀ (y z:G_Band) {R:Type} (k:G_Band→Option R),at_ (set_ (set_ r (j:Int) y) (j:Int) z) (j:Int) k = k z:=fun y z R k=>yaOy (by rw [ydjy,ydjy,List.getElem?_set_self (by rw [List.length_set]; exact hj)]) k
   refine ⟨set_ (set_ (set_ r (j:Int) ⟨ky,x.f_Low,x.f_High⟩) (j:Int) ⟨ky,w64 (1000 * lo),x.f_High⟩) (j:Int) ⟨ky,w64 (1000 * lo),hg⟩,s6,z6.mono (by omega),by rw [yqLy,yqLy,yqLy]; exact hl,fun y hy=>?_,fun R k=>?_⟩
   ·rcases ygjy hy with hy | rfl
    ·rcases ygjy hy with hy | rfl
     ·rcases ygjy hy with hy | rfl
      ·exact hf y hy
      ·exact ⟨hk',hxf.low,hxf.high⟩
     ·exact ⟨hk',lo',hxf.high⟩
    ·exact ⟨hk',lo',hg'⟩
   ·simp only [z101z,z101z_,ykzy,e1,hp,cond_true,e2,e3,i0,a0,e4,e5,w1,e6,a1,a2]
def badB (x:G_Band):Bool:=!inB x.f_Low 0 30000000000 || (!inB x.f_High 0 30000000000 || (Int.tmod x.f_Low 1000 != 0 || (Int.tmod x.f_High 1000 != 0 || decide (x.f_High≤x.f_Low))))
noncomputable def ya7y:Option G_Band→List G_Band→Int
 | _,[]=>0
 | p,x :: xs=>bif !keyB x.f_Key then 5 else bif badB x then 1 else match p with
  | none=>ya7y (some x) xs
  | some q=>bif decide (x.f_Low < q.f_High) then 7 else ya7y (some x) xs
def dupB:List G_Band→List G_Band→Bool
 | _,[]=>false
 | seen,x :: xs=>(seen.any fun o=>o.f_Key == x.f_Key) || dupB (seen ++ [x]) xs
noncomputable def yaxy (d:List G_Band):Int:=bif decide ((d.length:Int) > 30) then 2 else bif ya7y none d != 0 then ya7y none d else bif dupB [] d then 6 else 0
theorem z19z_loop1 (d:List G_Band) (hf:∀ c ∈ d,FineB c) (hl:d.length≤100000):∀ (xs:List G_Band) (n i:Nat) (p:Option G_Band),d.drop i = xs→ybJy d i p→xs.length < n→∀ (R:Type) (e0:List G_Band→Int→Option R) (e1:List G_Band→Option R),
  z19z_L4 ybny n d d (d.length:Int) (i:Int) e0 e1 = bif ya7y p xs != 0 then e0 d (ya7y p xs) else e1 d
 | _,0,_,_,_,_,h,_,_,_=>by omega
 | [],n + 1,i,p,h,_,_,R,e0,e1=>by rw [z19z_L4,yaCy h]; rfl
 | c :: cs,n + 1,i,p,h,hp,hn,R,e0,e1=>by
  have h':=yaly h
  have hn':cs.length < n:=Nat.lt_of_succ_lt_succ (by simpa only [List.length_cons] using hn)
  have ih:=z19z_loop1 d hf hl cs n (i + 1) (some c) h'.2.2.1 (yb2y h) hn' R e0 e1
  have hc:=hf c (yaWy h)
  rw [z19z_L4,yayy h]
  simp only [ybny] at ih
  simp only [cond_true,yaHy h,ybny,yqAy hc.key,z78z_is,ya7y,badB,yamy (show i < 4611686018427387904 by omega),ih]
  cases keyB c.f_Key with
  | false=>rfl
  | true =>
   cases inB c.f_Low 0 30000000000 <;> cases inB c.f_High 0 30000000000 <;> cases Int.tmod c.f_Low 1000 != 0 <;> cases Int.tmod c.f_High 1000 != 0 <;> cases decide (c.f_High≤c.f_Low) <;> try rfl
   cases p with
   | none=>rw [decide_eq_false (show ¬ ((i:Int) > 0) by unfold ybJy at hp; omega)]; rfl
   | some q =>
    obtain ⟨h0,ys,hq⟩:=hp
    rw [decide_eq_true (show ((i:Int) > 0) by omega),ycUy hq h0 (by omega)]
    simp only [Bool.not_true,Bool.not_false,cond_false,cond_true,Bool.or_self]
    cases decide (c.f_Low < q.f_High) <;> rfl
theorem yLIy {c:G_Band} (h:FineB c):badB c = (!inB c.f_Low 0 30000000000 || (!inB c.f_High (w64 (c.f_Low + 1)) 30000000000 || (Int.tmod c.f_Low 1000 != 0 || Int.tmod c.f_High 1000 != 0))):=by
 have h1:=h.low
 unfold badB
 rw [yaky (by omega) (by omega)]
 cases hlo:inB c.f_Low 0 30000000000 with
 | false=>rfl
 | true =>
  rw [yiPy] at hlo
  have:inB c.f_High (c.f_Low + 1) 30000000000 = (inB c.f_High 0 30000000000 && !decide (c.f_High≤c.f_Low)):=by
   rw [Bool.eq_iff_iff,Bool.and_eq_true,yiPy,yiPy]
   simp only [Bool.not_eq_true',decide_eq_false_iff_not]
   omega
  rw [this]
  cases inB c.f_High 0 30000000000 <;> cases Int.tmod c.f_Low 1000 != 0 <;> cases Int.tmod c.f_High 1000 != 0 <;> cases decide (c.f_High≤c.f_Low) <;> rfl
theorem z47z_loop1 (d:List G_Band) (hf:∀ c ∈ d,FineB c) (hl:d.length≤100000):∀ (xs:List G_Band) (n i:Nat) (p:Option G_Band),d.drop i = xs→ybJy d i p→xs.length < n→∀ (R:Type) (e0:List G_Band→Int→Option R) (e1:List G_Band→Option R),
  z47z_L4 ybmy n d d (d.length:Int) (i:Int) e0 e1 = bif ya7y p xs != 0 then e0 d (ya7y p xs) else e1 d
 | _,0,_,_,_,_,h,_,_,_=>by omega
 | [],n + 1,i,p,h,_,_,R,e0,e1=>by rw [z47z_L4,yaCy h]; rfl
 | c :: cs,n + 1,i,p,h,hp,hn,R,e0,e1=>by
  have h':=yaly h
  have hn':cs.length < n:=Nat.lt_of_succ_lt_succ (by simpa only [List.length_cons] using hn)
  have ih:=z47z_loop1 d hf hl cs n (i + 1) (some c) h'.2.2.1 (yb2y h) hn' R e0 e1
  have hc:=hf c (yaWy h)
  rw [z47z_L4,yayy h]
  simp only [ybmy] at ih
  simp only [cond_true,yaHy h,ybmy,yMOy hc.key,ykCy,ya7y,yLIy hc,yamy (show i < 4611686018427387904 by omega),ih]
  cases keyB c.f_Key with
  | false=>rfl
  | true =>
   cases inB c.f_Low 0 30000000000 <;> cases inB c.f_High (w64 (c.f_Low + 1)) 30000000000 <;> cases Int.tmod c.f_Low 1000 != 0 <;> cases Int.tmod c.f_High 1000 != 0 <;> try rfl
   cases p with
   | none=>rw [decide_eq_false (show ¬ ((i:Int) > 0) by unfold ybJy at hp; omega)]; rfl
   | some q =>
    obtain ⟨h0,ys,hq⟩:=hp
    rw [decide_eq_true (show ((i:Int) > 0) by omega),ycUy hq h0 (by omega)]
    simp only [Bool.not_true,Bool.not_false,cond_false,cond_true,Bool.or_self]
    cases decide (c.f_Low < q.f_High) <;> rfl
theorem yIEy (d:List G_Band) (hl:d.length≤100000) (x:G_Band) (R:Type) (k:Bool→G_Band→Option R):z46z d x k = k (d.any fun o=>o.f_Key == x.f_Key) x:=by
 simp only [z46z,z46z_,yxUy,yKzy]
 rw [yhKy _ (fun o:G_Band=>o.f_Key == x.f_Key) x d (fun y _ R k=>rfl) (by have:=NN_ok; omega) (by have:=NN_ok; omega)]
 rw [yo3y]
theorem z48z_is (d:List G_Band) (hl:d.length≤100000) (s:List UInt8) (R:Type) (k:Int→Option R):z48z d s k = k (idxI (fun o:G_Band=>o.f_Key == s) d):=by
 simp only [z48z,z48z_,yypy,yOsy]
 rw [yhKy _ (fun o:G_Band=>o.f_Key == s) s d (fun y _ R k=>rfl) (by have:=NN_ok; omega) (by have:=NN_ok; omega)]
theorem yi2y {α:Type} {d xs:List α} {x:α} {i:Nat} (h:d.drop i = x :: xs):d.take (i + 1) = d.take i ++ [x]:=by
 rw [List.take_add_one,(yaly h).1]; rfl
theorem z19z_loop2 (d:List G_Band) (hl:d.length≤100000):∀ (xs:List G_Band) (n i:Nat),d.drop i = xs→xs.length < n→∀ (R:Type) (e0:Int→Option R) (e1:Option R),
  z19z_L14 ybny n d d (d.length:Int) (i:Int) e0 e1 = bif dupB (d.take i) xs then e0 6 else e1
 | _,0,_,_,h,_,_,_=>by omega
 | [],n + 1,i,h,_,R,e0,e1=>by rw [z19z_L14,yaCy h]; rfl
 | c :: cs,n + 1,i,h,hn,R,e0,e1=>by
  have h':=yaly h
  have hn':cs.length < n:=Nat.lt_of_succ_lt_succ (by simpa only [List.length_cons] using hn)
  have ih:=z19z_loop2 d hl cs n (i + 1) h'.2.2.1 hn' R e0 e1
  rw [z19z_L14,yayy h]
  simp only [ybny] at ih
  simp only [cond_true,yaHy h,ybny,yamy (show i < 4611686018427387904 by omega),ih,Int.toNat_natCast,yIEy (d.take i) (by rw [List.length_take]; omega),dupB,yi2y h]
  rw [decide_eq_true (show (0:Int)≤(i:Int) by omega),decide_eq_true (show (i:Int)≤(d.length:Int) by omega)]
  cases (d.take i).any fun o=>o.f_Key == c.f_Key <;> rfl
theorem z47z_loop2 (d:List G_Band) (hl:d.length≤100000):∀ (xs:List G_Band) (n i:Nat),d.drop i = xs→xs.length < n→∀ (R:Type) (e0:Int→Option R) (e1:Option R),
  z47z_L14 ybmy n d d (d.length:Int) (i:Int) e0 e1 = bif dupB (d.take i) xs then e0 6 else e1
 | _,0,_,_,h,_,_,_=>by omega
 | [],n + 1,i,h,_,R,e0,e1=>by rw [z47z_L14,yaCy h]; rfl
 | c :: cs,n + 1,i,h,hn,R,e0,e1=>by
  have h':=yaly h
  have hn':cs.length < n:=Nat.lt_of_succ_lt_succ (by simpa only [List.length_cons] using hn)
  have ih:=z47z_loop2 d hl cs n (i + 1) h'.2.2.1 hn' R e0 e1
  rw [z47z_L14,yayy h]
  simp only [ybmy] at ih
  simp only [cond_true,yaHy h,ybmy,yamy (show i < 4611686018427387904 by omega),ih,Int.toNat_natCast,z48z_is (d.take i) (by rw [List.length_take]; omega),dupB,yi2y h,yo3y]
  rw [decide_eq_true (show (0:Int)≤(i:Int) by omega),decide_eq_true (show (i:Int)≤(d.length:Int) by omega)]
  cases (d.take i).any fun o=>o.f_Key == c.f_Key <;> rfl
theorem z19z_is {d:List G_Band} (hf:∀ c ∈ d,FineB c) (hl:d.length≤100000) (R:Type) (k:Int→Option R):z19z d k = k (yaxy d):=by
 have h1:∀ (R:Type) (e0:List G_Band→Int→Option R) (e1:List G_Band→Option R),z19z_L4 ybny ybny.N d d (d.length:Int) 0 e0 e1 = bif ya7y none d != 0 then e0 d (ya7y none d) else e1 d:=fun R e0 e1=>z19z_loop1 d hf hl d ybny.N 0 none rfl rfl (show d.length < NN by have:=NN_ok; omega) R e0 e1
 have h2:∀ (R:Type) (e0:Int→Option R) (e1:Option R),z19z_L14 ybny ybny.N d d (d.length:Int) 0 e0 e1 = bif dupB [] d then e0 6 else e1:=fun R e0 e1=>z19z_loop2 d hl d ybny.N 0 rfl (show d.length < NN by have:=NN_ok; omega) R e0 e1
 simp only [z19z,z19z_,yaxy,h1,h2]
 cases decide ((d.length:Int) > 30) <;> cases ya7y none d != 0 <;> cases dupB [] d <;> rfl
theorem z47z_is {d:List G_Band} (hf:∀ c ∈ d,FineB c) (hl:d.length≤100000) (R:Type) (k:Int→Option R):z47z d k = k (yaxy d):=by
 have h1:∀ (R:Type) (e0:List G_Band→Int→Option R) (e1:List G_Band→Option R),z47z_L4 ybmy ybmy.N d d (d.length:Int) 0 e0 e1 = bif ya7y none d != 0 then e0 d (ya7y none d) else e1 d:=fun R e0 e1=>z47z_loop1 d hf hl d ybmy.N 0 none rfl rfl (show d.length < NN by have:=NN_ok; omega) R e0 e1
 have h2:∀ (R:Type) (e0:Int→Option R) (e1:Option R),z47z_L14 ybmy ybmy.N d d (d.length:Int) 0 e0 e1 = bif dupB [] d then e0 6 else e1:=fun R e0 e1=>z47z_loop2 d hl d ybmy.N 0 rfl (show d.length < NN by have:=NN_ok; omega) R e0 e1
 simp only [z47z,z47z_,yaxy,h1,h2]
 cases decide ((d.length:Int) > 30) <;> cases ya7y none d != 0 <;> cases dupB [] d <;> rfl
def yc9y (h:Int) (x:G_Band):Bool:=decide (x.f_Low≤h) && decide (h < x.f_High)
def bandI (b:List G_Band) (h:Int):Int:=idxI (yc9y h) b
def bandA (b:List G_Band) (h:Int):List UInt8:=((b.find? (yc9y h)).map (·.f_Key)).getD []
theorem yGPy {b:List G_Band} (hl:b.length≤100000) (h:Int) (R:Type) (k:Int→Option R):log_At b h k = k (bandI b h):=by
 simp only [log_At,yumy,yqZy,yKmy,bandI]
 rw [yhKy _ (yc9y h) h b (fun y _ R k=>by
  simp only [log_At_1,ynty,yc9y]
  cases decide (y.f_Low≤h) <;> rfl) (by have:=NN_ok; omega) (by have:=NN_ok; omega)]
theorem ymEy (d:List G_Band) (h:Int) (hl:d.length≤100000):∀ (xs:List G_Band) (n i:Nat),d.drop i = xs→xs.length < n→∀ (R:Type) (e0:List UInt8→Option R) (e1:Option R),
  ybHy NN n h d (d.length:Int) (i:Int) e0 e1 = match xs.find? (yc9y h) with | some x=>e0 x.f_Key | none=>e1
 | _,0,_,_,h,_,_,_=>by omega
 | [],n + 1,i,hd,_,R,e0,e1=>by rw [ybHy,yaCy hd]; rfl
 | c :: cs,n + 1,i,hd,hn,R,e0,e1=>by
  have h':=yaly hd
  have hn':cs.length < n:=Nat.lt_of_succ_lt_succ (by simpa only [List.length_cons] using hn)
  have ih:=ymEy d h hl cs n (i + 1) h'.2.2.1 hn' R e0 e1
  rw [ybHy,yayy hd]
  simp only [cond_true,yaHy hd,yamy (show i < 4611686018427387904 by omega),ih,List.find?_cons,yc9y]
  cases decide (c.f_Low≤h) <;> cases decide (h < c.f_High) <;> rfl
theorem yjAy {b:List G_Band} (hl:b.length≤100000) (h:Int) (R:Type) (k:List UInt8→Option R):Q_BandAt b h k = k (bandA b h):=by
 have hb:∀ (R:Type) (e0:List UInt8→Option R) (e1:Option R),ybHy NN NN h b (b.length:Int) 0 e0 e1 = match b.find? (yc9y h) with | some x=>e0 x.f_Key | none=>e1:=fun R e0 e1=>ymEy b h hl b NN 0 rfl (by have:=NN_ok; omega) R e0 e1
 simp only [Q_BandAt,ym2y,hb,bandA]
 cases b.find? (yc9y h) <;> rfl
theorem yqoy:∀ (l:List G_Band) (p:Option G_Band),ya7y p l = 0→∀ x ∈ l,keyB x.f_Key = true
 | [],_,_,x,h=>by cases h
 | y :: ys,p,h,x,hx=>by
  unfold ya7y at h
  cases hk:keyB y.f_Key with
  | false=>rw [hk] at h; simp at h
  | true =>
   rw [hk] at h
   simp only [Bool.not_true,cond_false] at h
   cases hb:badB y with
   | true=>rw [hb] at h; simp at h
   | false =>
    rw [hb] at h
    simp only [cond_false] at h
    have h2:ya7y (some y) ys = 0:=by
     cases p with
     | none=>exact h
     | some q =>
      simp only at h
      cases hd:decide (y.f_Low < q.f_High) with
      | true=>rw [hd] at h; simp at h
      | false=>rw [hd] at h; exact h
    rcases List.mem_cons.1 hx with rfl | hx
    ·exact hk
    ·exact yqoy ys (some y) h2 x hx
theorem yvQy:∀ (l seen:List G_Band),dupB seen l = false→(∀ o ∈ seen,∀ x ∈ l,o.f_Key ≠ x.f_Key)∧l.Pairwise fun a b=>a.f_Key ≠ b.f_Key
 | [],_,_=>⟨fun _ _ _ h=>(by cases h),List.Pairwise.nil⟩
 | y :: ys,seen,h=>by
  simp only [dupB,Bool.or_eq_false_iff] at h
  obtain ⟨h1,h2⟩:=yvQy ys (seen ++ [y]) h.2
  have h3:∀ o ∈ seen,o.f_Key ≠ y.f_Key:=fun o ho e=>by
   have:=List.any_eq_false.1 h.1 o ho
   simp [e] at this
  refine ⟨fun o ho x hx=>?_,List.pairwise_cons.2 ⟨fun x hx=>h1 y (by simp) x hx,h2⟩⟩
  rcases List.mem_cons.1 hx with rfl | hx
  ·exact h3 o ho
  ·exact h1 o (by simp [ho]) x hx
theorem ym4y {d:List G_Band} (h:yaxy d = 0):(∀ x ∈ d,x.f_Key ≠ [])∧(d.Pairwise fun a b=>a.f_Key ≠ b.f_Key):=by
 unfold yaxy at h
 cases h1:decide ((d.length:Int) > 30) with
 | true=>rw [h1] at h; simp at h
 | false =>
  rw [h1] at h
  simp only [cond_false] at h
  cases h2:ya7y none d != 0 with
  | true=>rw [h2] at h; simp only [cond_true] at h; rw [h] at h2; cases h2
  | false =>
   rw [h2] at h
   simp only [cond_false] at h
   cases h3:dupB [] d with
   | true=>rw [h3] at h; simp at h
   | false =>
    refine ⟨fun x hx e=>?_,(yvQy d [] h3).2⟩
    have:=yqoy d none (by simpa using h2) x hx
    rw [e,yHuy] at this
    cases this
theorem yJ3y {d:List G_Band} (h:d.Pairwise fun a b=>a.f_Key ≠ b.f_Key) {i j:Nat} {x y:G_Band} (hi:d[i]? = some x) (hj:d[j]? = some y) (e:x.f_Key = y.f_Key):i = j:=by
 obtain ⟨h1,rfl⟩:=List.getElem?_eq_some_iff.1 hi
 obtain ⟨h2,rfl⟩:=List.getElem?_eq_some_iff.1 hj
 have hp:=List.pairwise_iff_getElem.1 h
 rcases Nat.lt_trichotomy i j with hij | hij | hij
 ·exact absurd e (hp i j h1 h2 hij)
 ·exact hij
 ·exact absurd e.symm (hp j i h2 h1 hij)
theorem yvxy {b:List G_Band} (h:yaxy b = 0) (x:Int):decide (bandI b x < 0) = (bandA b x == []):=by
 obtain ⟨h1,h2⟩:=ym4y h
 unfold bandI bandA
 rcases yhTy (yc9y x) b with ⟨e1,e2⟩ | ⟨i,y,e1,e2,e3,e4⟩
 ·rw [e1,e2]; rfl
 ·rw [e1,e4,decide_eq_false (by omega)]
  have:=h1 y (List.mem_of_getElem? e2)
  simp [this]
theorem yG5y {b:List G_Band} (h:yaxy b = 0) {x y:Int} (hx:¬ bandI b x < 0) (hy:¬ bandI b y < 0):(bandI b x == bandI b y) = (bandA b x == bandA b y):=by
 obtain ⟨h1,h2⟩:=ym4y h
 unfold bandI at hx hy
 unfold bandI bandA
 rcases yhTy (yc9y x) b with ⟨e1,e2⟩ | ⟨i,u,e1,e2,e3,e4⟩
 ·rw [e1] at hx; omega
 ·rcases yhTy (yc9y y) b with ⟨f1,f2⟩ | ⟨j,v,f1,f2,f3,f4⟩
  ·rw [f1] at hy; omega
  ·rw [e1,f1,e4,f4]
   simp only [Option.map_some,Option.getD_some]
   rw [Bool.eq_iff_iff,beq_iff_eq,beq_iff_eq]
   constructor
   ·intro e
    have:i = j:=by omega
    subst this
    rw [e2] at f2
    rw [Option.some.inj f2]
   ·intro e
    rw [yJ3y h2 e2 f2 e]
end Go.Am
set_option linter.unusedVariables false
set_option linter.unusedSectionVars false
set_option linter.unusedSimpArgs false
set_option maxRecDepth 100000
namespace Go.Am
open Go Go.Proofs
variable [Fuel]
structure FineS (c:G_Spot):Prop where
 at1:Mid c.f_At
 hertz:Mid c.f_Hertz
 call:c.f_Call ∈ yc8y
 by1:c.f_By ∈ yc8y
def cmpSp (x y:G_Spot):Int:=orL [cmpI x.f_At y.f_At,cmpI x.f_Hertz y.f_Hertz,Lib.compareBytes x.f_Call y.f_Call,Lib.compareBytes x.f_By y.f_By]
theorem z92z_is (x y:G_Spot) (R:Type) (k:Int→Option R):z92z x y k = k (cmpSp x y):=by
 simp only [z92z,z92z_,yxhy,cmpSp,z69z_is,yciy]
 rw [z81z_is _ (by simp)]
theorem ymPy (a b c d:Int) (R:Type) (k:Int→Option R):z56z [a,b] [c,d] k = k (bif cmpI a c != 0 then cmpI a c else cmpI b d):=by
 obtain ⟨m,e,hm⟩:=yuyy
 obtain ⟨m,rfl⟩:∃ q,m = q + 2:=⟨m - 2,by omega⟩
 have w1:w64 (0 + 1) = ((1:Nat):Int):=yaky (by omega) (by omega)
 have w2:w64 (((1:Nat):Int) + 1) = ((2:Nat):Int):=by rw [yaky (by omega) (by omega)]; rfl
 have a0:∀ {R:Type} (x y:Int) (k:Int→Option R),get_ [x,y] 0 k = k x:=fun x y k=>yh6y (i:=0) rfl k
 have a1:∀ {R:Type} (x y:Int) (k:Int→Option R),get_ [x,y] ((1:Nat):Int) k = k y:=fun x y k=>yh6y (i:=1) rfl k
 have d0:decide ((0:Int) < ([a,b].length:Int)) = true:=rfl
 have d1:decide (((1:Nat):Int) < ([a,b].length:Int)) = true:=rfl
 have d2:decide (((2:Nat):Int) < ([a,b].length:Int)) = false:=rfl
 have f0:decide ((0:Int) ≥ ([c,d].length:Int)) = false:=rfl
 have f1:decide (((1:Nat):Int) ≥ ([c,d].length:Int)) = false:=rfl
 have f2:decide (([a,b].length:Int) < ([c,d].length:Int)) = false:=rfl
 simp only [z56z,z56z_]
 rw [show yhhy.N = m + 2 + 1 from e]
 simp only [z56z_L2,d0,d1,d2,f0,f1,f2,w1,w2,a0,a1,yhhy,cond_true,cond_false,z69z_is]
 cases h1:cmpI a c != 0 with
 | true=>simp only [cond_true]
 | false =>
  simp only [cond_false]
  cases h2:cmpI b d != 0 with
  | true=>simp only [cond_true]
  | false =>
   have h3:cmpI b d = 0:=by simpa using h2
   simp only [cond_false,h3]
theorem yryy (a b:List UInt8) (R:Type) (k:Int→Option R):z88z a b k = k (Lib.compareBytes a b):=by
 simp only [z88z,z88z_,yzyy,z107z,z107z_,beq_self_eq_true,Bool.not_true,cond_false,ynQy]
 rcases yJey a b with h | h | h
 ·rw [h]; rfl
 ·have e:=yuQy a b h
  subst e
  rw [h,beq_self_eq_true]; rfl
 ·have e:(a == b) = false:=by
   cases hq:a == b with
   | false=>rfl
   | true=>have:=eq_of_beq hq; subst this; rw [yuNy] at h; cases h
  rw [h,e]; rfl
theorem ymQy (a b c d:List UInt8) (R:Type) (k:Int→Option R):z44z [a,b] [c,d] k = k (bif Lib.compareBytes a c != 0 then Lib.compareBytes a c else Lib.compareBytes b d):=by
 obtain ⟨m,e,hm⟩:=yuyy
 obtain ⟨m,rfl⟩:∃ q,m = q + 2:=⟨m - 2,by omega⟩
 have w1:w64 (0 + 1) = ((1:Nat):Int):=yaky (by omega) (by omega)
 have w2:w64 (((1:Nat):Int) + 1) = ((2:Nat):Int):=by rw [yaky (by omega) (by omega)]; rfl
 have a0:∀ {R:Type} (x y:List UInt8) (k:List UInt8→Option R),get_ [x,y] 0 k = k x:=fun x y k=>yh6y (i:=0) rfl k
 have a1:∀ {R:Type} (x y:List UInt8) (k:List UInt8→Option R),get_ [x,y] ((1:Nat):Int) k = k y:=fun x y k=>yh6y (i:=1) rfl k
 have d0:decide ((0:Int) < ([a,b].length:Int)) = true:=rfl
 have d1:decide (((1:Nat):Int) < ([a,b].length:Int)) = true:=rfl
 have d2:decide (((2:Nat):Int) < ([a,b].length:Int)) = false:=rfl
 have f0:decide ((0:Int) ≥ ([c,d].length:Int)) = false:=rfl
 have f1:decide (((1:Nat):Int) ≥ ([c,d].length:Int)) = false:=rfl
 have f2:decide (([a,b].length:Int) < ([c,d].length:Int)) = false:=rfl
 simp only [z44z,z44z_]
 rw [show yhuy.N = m + 2 + 1 from e]
 simp only [z44z_L2,d0,d1,d2,f0,f1,f2,w1,w2,a0,a1,yhuy,cond_true,cond_false,yryy]
 cases h1:Lib.compareBytes a c != 0 with
 | true=>simp only [cond_true]
 | false =>
  simp only [cond_false]
  cases h2:Lib.compareBytes b d != 0 with
  | true=>simp only [cond_true]
  | false =>
   have h3:Lib.compareBytes b d = 0:=by simpa using h2
   simp only [cond_false,h3]
theorem z20z_is (x y:G_Spot) (R:Type) (k:Int→Option R):z20z x y k = k (cmpSp x y):=by
 simp only [z20z,z20z_,yxgy,ymPy,ymQy,cmpSp,orL]
 cases h1:cmpI x.f_At y.f_At != 0 with
 | true=>simp only [cond_true,h1]
 | false =>
  cases h2:cmpI x.f_Hertz y.f_Hertz != 0 with
  | true=>simp only [cond_true,cond_false,h2]
  | false =>
   simp only [cond_false,h2]
   cases h3:Lib.compareBytes x.f_Call y.f_Call != 0 with
   | true=>simp only [cond_true]
   | false =>
    simp only [cond_false]
    cases h4:Lib.compareBytes x.f_By y.f_By != 0 with
    | true=>rfl
    | false =>
     have:Lib.compareBytes x.f_By y.f_By = 0:=by simpa using h4
     rw [this]; rfl
theorem yESy {l:List G_Spot} (hl:l.length≤20) (R:Type) (k:List G_Spot→Option R):z51z l k = k (sortI cmpSp l):=by
 simp only [z51z,z51z_,yzzy,yONy]
 exact yB4y cmpSp (fun _=>True) (fun x y _ _=>z20z_is x y) l (fun _ _=>trivial) hl (by have:=NN_ok; omega) (by have:=NN_ok; omega) _ (fun l a b R k=>by rw [yLmy]) k
theorem yIHy {l:List G_Spot} (hl:l.length≤100000) (R:Type) (k:List G_Spot→Option R):z42z l k = k (ybSy ybty l):=by
 rw [yLVy]
 exact ywKy ybty (fun _=>True) (fun x y _ _ R k=>rfl) l (by have:=NN_ok; omega) (by have:=NN_ok; omega) (fun _ _=>trivial) k
theorem yF3y {l:List G_Spot} (hl:l.length≤1000000) (R:Type) (k:Bool→Option R):z37z l l k = k true:=by
 rw [yJ0y]; exact yqwy (by have:=NN_ok; omega) (by have:=NN_ok; omega) (fun x=>by rw [(yxzy x x).2 rfl]; rfl) k
theorem yrTy (R:Type) (k:Bool→Option R):z64z [] k = k true:=by
 rw [yLJy]; exact yqDy (by have:=NN_ok; omega) k
theorem z68z_loop (m:Nat):∀ (n i:Nat) (at0:Int) (s:G_Stream) (out:List G_Spot) (b:Int),m - i < n→i≤m→SOk (b + 20 * (i:Int)) s→b≤1000000→0≤at0→at0≤20 * (i:Int)→out.length = i→(∀ c ∈ out,FineS c)→m≤600 →
  ∃ (r:List G_Spot) (s':G_Stream),SOk (b + 20 * (m:Int)) s'∧r.length = m∧(∀ c ∈ r,FineS c)∧∀ (R:Type) (e0:G_Stream→List G_Spot→Option R),z68z_L4 ycqy n at0 (m:Int) (i:Int) s out e0 = e0 s' r
 | 0,i,_,_,_,_,h,_,_,_,_,_,_,_,_=>by omega
 | n + 1,i,at0,s,out,b,h,hi,hs,hb,h1,h2,ho,hf,hm6=>by
  by_cases hc:i < m
  ·obtain ⟨p,s1,hp,z1,e1⟩:=z65z_gives hs [0,1,5,20] (by omega) (by simp) (by simp)
   obtain ⟨hz,s2,hhz,z2,e2⟩:=z65z_gives z1 [7000000,7100000,7299999,7300000,14000000,14010000,14020000,14020000,1800000,5000000] (by omega) (by simp) (by simp)
   obtain ⟨cl,s3,hcl,z3,e3⟩:=z95z_gives z2 (by omega)
   obtain ⟨bd,s4,hbd,z4,e4⟩:=z59z_gives z3 [[119,49,97,119],[110,49,109,109]] (by omega) (by simp) (by simp)
   obtain ⟨f,s5,z5,e5⟩:=z76z_gives z4 80 (by omega) (by omega)
   simp only [List.mem_cons,List.not_mem_nil,or_false] at hp hhz
   have ea:w64 (at0 + p) = at0 + p:=yaky (by omega) (by omega)
   have hcard:∃ (c:G_Spot) (s':G_Stream),FineS c∧SOk (b + 20 * ((i + 1:Nat):Int)) s'∧∀ (R:Type) (e0:G_Stream→List G_Spot→Option R),z68z_L4 ycqy (n + 1) at0 (m:Int) (i:Int) s out e0 = z68z_L4 ycqy n (at0 + p) (m:Int) ((i + 1:Nat):Int) s' (out ++ [c]) e0:=by
    cases f with
    | false =>
     refine ⟨⟨at0 + p,hz,cl,bd⟩,s5,⟨⟨by simp only; omega,by simp only; omega⟩,⟨by simp only; omega,by simp only; omega⟩,hcl,ydqy hbd (by decide +kernel)⟩,z5.mono (by omega),fun R e0=>?_⟩
     rw [z68z_L4]
     simp only [ycqy,decide_eq_true (show (i:Int) < (m:Int) by omega),cond_true,e1,e2,e3,e4,e5,ea,cond_false,room1 out _ 48 (show out.length≤1000000 by omega) (by omega)]
     rw [yamy (by omega)]
    | true =>
     obtain ⟨x1,t1,x11,x12,y1,f1⟩:=ybby z5 0 100 (by omega) (by omega) (by omega) (by omega) (by omega)
     obtain ⟨x2,t2,x21,x22,y2,f2⟩:=ybby y1 0 30000000000 (by omega) (by omega) (by omega) (by omega) (by omega)
     obtain ⟨x4,t4,hx4,y4,f4⟩:=z59z_gives y2 [[],[119,49,97,119]] (by omega) (by simp) (by simp)
     refine ⟨⟨x1,x2,cl,x4⟩,t4,⟨⟨by simp only; omega,by simp only; omega⟩,⟨by simp only; omega,by simp only; omega⟩,hcl,ydqy hx4 (by decide +kernel)⟩,y4.mono (by omega),fun R e0=>?_⟩
     rw [z68z_L4]
     simp only [ycqy,decide_eq_true (show (i:Int) < (m:Int) by omega),cond_true,e1,e2,e3,e4,e5,ea,f1,f2,f4,room1 out _ 48 (show out.length≤1000000 by omega) (by omega)]
     rw [yamy (by omega)]
   obtain ⟨c,s',hcf,zs,hstep⟩:=hcard
   obtain ⟨r,s'',g1,g2,g3,g4⟩:=z68z_loop m n (i + 1) (at0 + p) s' (out ++ [c]) b (by omega) (by omega) zs hb (by omega) (by omega) (by simp [ho]) (fun x hx=>by
    rcases List.mem_append.1 hx with h | h
    ·exact hf x h
    ·simp at h; rw [h]; exact hcf) hm6
   exact ⟨r,s'',g1,g2,g3,fun R e0=>by rw [hstep,g4]⟩
  ·refine ⟨out,s,hs.mono (by omega),by omega,hf,fun R e0=>?_⟩
   rw [z68z_L4,decide_eq_false (by omega)]; rfl
theorem z68z_gives {b:Int} {s:G_Stream} (hs:SOk b s) (hb:b≤1000000) (m:Nat) (hm:m≤20) :
  ∃ (r:List G_Spot) (s':G_Stream),SOk (b + 20 * (m:Int)) s'∧r.length≤m∧(∀ c ∈ r,FineS c)∧∀ (R:Type) (k:List G_Spot→G_Stream→Option R),z68z s (m:Int) k = k r s':=by
 obtain ⟨r,s',g1,g2,g3,g4⟩:=z68z_loop m NN 0 0 s [] b (by have:=NN_ok; omega) (by omega) (hs.mono (by omega)) hb (by omega) (by omega) rfl (fun c h=>by cases h) (by omega)
 have g4':∀ (R:Type) (e0:G_Stream→List G_Spot→Option R),z68z_L4 ycqy ycqy.N 0 (m:Int) 0 s [] e0 = e0 s' r:=g4
 refine ⟨ybSy ybty (sortI cmpSp r),s',g1,?_,fun c h=>g3 c (ycny.1 (yiKy h)),fun R k=>?_⟩
 ·have:=ynWy ybty (sortI cmpSp r)
  have:=ybzy cmpSp r
  omega
 ·simp only [z68z,z68z_,g4']
  simp only [ycqy,yESy (show r.length≤20 by omega),yIHy (show (sortI cmpSp r).length≤100000 by rw [ybzy]; omega)]
noncomputable def chkS (c:G_Spot):Int:=bif !momB c.f_At then 1 else bif !inB c.f_Hertz 0 30000000000 then 1 else bif !callB c.f_Call then 3 else bif !callB c.f_By then 3 else 0
noncomputable def yb4y:Option G_Spot→List G_Spot→Int
 | _,[]=>0
 | p,c :: cs=>bif chkS c != 0 then chkS c else match p with
  | none=>yb4y (some c) cs
  | some q=>bif decide (cmpSp q c ≥ 0) then 7 else yb4y (some c) cs
theorem z61z_loop (d:List G_Spot) (hf:∀ c ∈ d,FineS c) (hl:d.length≤100000):∀ (xs:List G_Spot) (n i:Nat) (p:Option G_Spot),d.drop i = xs→ybJy d i p→xs.length < n→∀ (R:Type) (k:Int→Option R),
  z61z_L4 yc6y n d d (d.length:Int) (i:Int) k (k 0) = k (yb4y p xs)
 | _,0,_,_,_,_,h,_,_=>by omega
 | [],n + 1,i,p,h,_,_,_,_=>by rw [z61z_L4,yaCy h]; rfl
 | c :: cs,n + 1,i,p,h,hp,hn,R,k=>by
  have h':=yaly h
  have ih:=z61z_loop d hf hl cs n (i + 1) (some c) h'.2.2.1 (yb2y h) (Nat.lt_of_succ_lt_succ (by simpa only [List.length_cons] using hn)) R k
  have hc:=hf c (yaWy h)
  rw [z61z_L4,yayy h]
  simp only [yc6y] at ih
  simp only [cond_true,yaHy h,yc6y,z85z_is,z78z_is,ylmy hc.call,ylmy hc.by1,z92z_is,yb4y,chkS,yamy (show i < 4611686018427387904 by omega),ih]
  cases momB c.f_At <;> cases inB c.f_Hertz 0 30000000000 <;> cases callB c.f_Call <;> cases callB c.f_By <;> try rfl
  cases p with
  | none=>rw [decide_eq_false (show ¬ ((i:Int) > 0) by unfold ybJy at hp; omega)]; rfl
  | some q =>
   obtain ⟨h0,ys,hq⟩:=hp
   rw [decide_eq_true (show ((i:Int) > 0) by omega),ycUy hq h0 (by omega)]
   simp only [Bool.not_true,cond_false,cond_true,bne_self_eq_false]
   cases decide (cmpSp q c ≥ 0) <;> rfl
theorem z71z_loop (d:List G_Spot) (hf:∀ c ∈ d,FineS c) (hl:d.length≤100000):∀ (xs:List G_Spot) (n i:Nat) (p:Option G_Spot),d.drop i = xs→ybJy d i p→xs.length < n→∀ (R:Type) (k:Int→Option R),
  z71z_L4 yc5y n d d (d.length:Int) (i:Int) k (k 0) = k (yb4y p xs)
 | _,0,_,_,_,_,h,_,_=>by omega
 | [],n + 1,i,p,h,_,_,_,_=>by rw [z71z_L4,yaCy h]; rfl
 | c :: cs,n + 1,i,p,h,hp,hn,R,k=>by
  have h':=yaly h
  have ih:=z71z_loop d hf hl cs n (i + 1) (some c) h'.2.2.1 (yb2y h) (Nat.lt_of_succ_lt_succ (by simpa only [List.length_cons] using hn)) R k
  have hc:=hf c (yaWy h)
  rw [z71z_L4,yayy h]
  simp only [yc5y] at ih
  simp only [cond_true,yaHy h,yc5y,yjiy,ykCy,ynwy hc.call,ynwy hc.by1,z20z_is,yb4y,chkS,yamy (show i < 4611686018427387904 by omega),ih]
  cases momB c.f_At <;> cases inB c.f_Hertz 0 30000000000 <;> cases callB c.f_Call <;> cases callB c.f_By <;> try rfl
  cases p with
  | none=>rw [decide_eq_false (show ¬ ((i:Int) > 0) by unfold ybJy at hp; omega)]; rfl
  | some q =>
   obtain ⟨h0,ys,hq⟩:=hp
   rw [decide_eq_true (show ((i:Int) > 0) by omega),ycUy hq h0 (by omega)]
   simp only [Bool.not_true,cond_false,cond_true,bne_self_eq_false]
   cases decide (cmpSp q c ≥ 0) <;> rfl
noncomputable def yaDy (d:List G_Spot):Int:=bif decide ((d.length:Int) > 2000) then 2 else yb4y none d
theorem z61z_is {d:List G_Spot} (hf:∀ c ∈ d,FineS c) (hl:d.length≤100000) (R:Type) (k:Int→Option R):z61z d k = k (yaDy d):=by
 have h:z61z_L4 yc6y yc6y.N d d (d.length:Int) 0 k (k 0) = k (yb4y none d):=z61z_loop d hf hl d yc6y.N 0 none rfl rfl (show d.length < NN by have:=NN_ok; omega) R k
 simp only [z61z,z61z_,yaDy,h]
 cases decide ((d.length:Int) > 2000) <;> rfl
theorem z71z_is {d:List G_Spot} (hf:∀ c ∈ d,FineS c) (hl:d.length≤100000) (R:Type) (k:Int→Option R):z71z d k = k (yaDy d):=by
 have h:z71z_L4 yc5y yc5y.N d d (d.length:Int) 0 k (k 0) = k (yb4y none d):=z71z_loop d hf hl d yc5y.N 0 none rfl rfl (show d.length < NN by have:=NN_ok; omega) R k
 simp only [z71z,z71z_,yaDy,h]
 cases decide ((d.length:Int) > 2000) <;> rfl
end Go.Am
set_option linter.unusedVariables false
set_option linter.unusedSectionVars false
set_option linter.unusedSimpArgs false
set_option maxRecDepth 100000
namespace Go.Am
open Go Go.Proofs
variable [Fuel]
def cntS (b:List G_Band) (life at0:Int) (s:G_Spot):Bool:=decide (at0 - life < s.f_At) && (decide (s.f_At≤at0) && !decide (bandI b s.f_Hertz < 0))
def keyS (b:List G_Band) (s:G_Spot):G_band_onBand:=⟨s.f_Call,bandI b s.f_Hertz⟩
def sameS (b:List G_Band) (s o:G_Spot):Bool:=decide (keyS b o = keyS b s)
def yajy (b:List G_Band) (life at0:Int) (l:List G_Spot):List G_Spot:=ybBy (cntS b life at0) (sameS b) l
theorem yKfy (g:Nat):@z66z_ g = @sRev G_Spot g:=by kernel_rfl
theorem yK4y (g:Nat):@z70z_ g = @sRev Int g:=by kernel_rfl
theorem yNKy {l:List G_Spot} (hl:l.length≤100000) (R:Type) (k:List G_Spot→Option R):z66z l k = k l.reverse:=by
 show z66z_ NN l k = _
 rw [yKfy]
 exact yCNy (by omega) (by have:=NN_ok; omega) k
theorem yLPy {l:List Int} (hl:l.length≤100000) (R:Type) (k:List Int→Option R):z70z l k = k l.reverse:=by
 show z70z_ NN l k = _
 rw [yK4y]
 exact yCNy (by omega) (by have:=NN_ok; omega) k
theorem yGmy {α:Type} {d:List α} {n:Nat} {x:α} (h:d[n]? = some x):d.drop n = x :: d.drop (n + 1):=by
 obtain ⟨h1,rfl⟩:=List.getElem?_eq_some_iff.1 h
 exact List.drop_eq_getElem_cons h1
theorem yjFy {α:Type} (cnt:α→Bool) (same:α→α→Bool) (x:α) (r:List α):ybBy cnt same (x :: r) = bif cnt x && !(r.any fun o=>cnt o && same x o) then x :: ybBy cnt same r else ybBy cnt same r:=by
 simp only [ybBy]
theorem yfky (b:List G_Band) (hb:b.length≤100000) (life at0:Int) (ha:-1000000000000≤at0∧at0≤1000000000000) (hf:-1000000000000≤life∧life≤1000000000000) (d:List G_Spot) (hl:d.length≤100000):∀ (n:Nat) (m:List (G_band_onBand×Bool)) (sp:List G_Spot) (bd:List Int),n≤d.length →
  sp = (yajy b life at0 (d.drop n)).reverse→bd = sp.map (fun s=>bandI b s.f_Hertz)→(∀ w,(yany w m).getD false = (d.drop n).any fun o=>cntS b life at0 o && decide (keyS b o = w)) →
  ∃ m',∀ (R:Type) (e0:List G_Band→Int→Int→List (G_band_onBand×Bool)→List G_Spot→List Int→Option R),yaGy yauy n d b life at0 m sp bd e0 = e0 b life at0 m' (yajy b life at0 d).reverse ((yajy b life at0 d).reverse.map (fun s=>bandI b s.f_Hertz))
 | 0,m,sp,bd,_,hs,hbd,hm=>⟨m,fun R e0=>by rw [yaGy,hbd,hs]; rfl⟩
 | n + 1,m,sp,bd,hn,hs,hbd,hm=>by
  have hx:d[n]? = some d[n]:=List.getElem?_eq_getElem (by omega)
  have hd:=yGmy hx
  generalize d[n] = x at hx hd
  have hls:sp.length≤100000:=by
   rw [hs,List.length_reverse]
   refine Nat.le_trans (ylSy _ _ _) ?_
   rw [List.length_drop]; omega
  have hlb:bd.length≤100000:=by rw [hbd,List.length_map]; exact hls
  have hw:w64 (at0 - life) = at0 - life:=yaky (by omega) (by omega)
  have step:∀ (c:Bool),cntS b life at0 x = false ∨ ((yany (keyS b x) m).getD false = true)→yajy b life at0 (d.drop n) = yajy b life at0 (d.drop (n + 1))∧∀ w,(yany w m).getD false = (d.drop n).any fun o=>cntS b life at0 o && decide (keyS b o = w):=fun _ hc=>by
   rw [hd]
   unfold yajy
   rw [yjFy]
   rcases hc with hc | hc
   ·rw [hc]
    refine ⟨rfl,fun w=>?_⟩
    rw [List.any_cons,hc,hm w]; rfl
   ·rw [hm] at hc
    have hany:((d.drop (n + 1)).any fun o=>cntS b life at0 o && sameS b x o) = true:=hc
    refine ⟨?_,fun w=>?_⟩
    ·rw [hany]; simp
    ·rw [List.any_cons,hm w]
     cases hq:(cntS b life at0 x && decide (keyS b x = w)) with
     | false=>rfl
     | true =>
      simp only [Bool.and_eq_true,decide_eq_true_eq] at hq
      rw [← hq.2,hc]; rfl
  have skip:cntS b life at0 x = false ∨ ((yany (keyS b x) m).getD false = true)→∃ m',∀ (R:Type) (e0:List G_Band→Int→Int→List (G_band_onBand×Bool)→List G_Spot→List Int→Option R),yaGy yauy n d b life at0 m sp bd e0 = e0 b life at0 m' (yajy b life at0 d).reverse ((yajy b life at0 d).reverse.map (fun s=>bandI b s.f_Hertz)):=fun hc=>by
   obtain ⟨h1,h2⟩:=step true hc
   exact yfky b hb life at0 ha hf d hl n m sp bd (by omega) (by rw [h1]; exact hs) hbd h2
  have unf:∀ (R:Type) (e0:List G_Band→Int→Int→List (G_band_onBand×Bool)→List G_Spot→List Int→Option R),yaGy yauy (n + 1) d b life at0 m sp bd e0 = bif cntS b life at0 x && !((yany (keyS b x) m).getD false) then yaGy yauy n d b life at0 (yaTy (keyS b x) true m) (sp ++ [x]) (bd ++ [bandI b x.f_Hertz]) e0 else yaGy yauy n d b life at0 m sp bd e0:=fun R e0=>by
   rw [yaGy,hx]
   simp only [yauy,yGPy hb,hw,room1 sp x 48 (show sp.length≤1000000 by omega) (by omega),room1 bd (bandI b x.f_Hertz) 8 (show bd.length≤1000000 by omega) (by omega),cond_true,cntS]
   have e1:decide (at0 - life < x.f_At) = !decide (x.f_At≤at0 - life):=by
    rw [Bool.eq_iff_iff]; simp
   have e2:decide (x.f_At≤at0) = !decide (x.f_At > at0):=by
    rw [Bool.eq_iff_iff]; simp
   rw [e1,e2]
   show (bif decide (x.f_At≤at0 - life) then _ else bif decide (x.f_At > at0) then _ else bif decide (bandI b x.f_Hertz < 0) then _ else bif (yany (keyS b x) m).getD false then _ else _) = _
   cases decide (x.f_At≤at0 - life) <;> cases decide (x.f_At > at0) <;> cases decide (bandI b x.f_Hertz < 0) <;> cases (yany (keyS b x) m).getD false <;> rfl
  cases hc:cntS b life at0 x with
  | false =>
   obtain ⟨m',h⟩:=skip (.inl hc)
   exact ⟨m',fun R e0=>by rw [unf,hc,← h R e0]; rfl⟩
  | true =>
   cases hg:(yany (keyS b x) m).getD false with
   | true =>
    obtain ⟨m',h⟩:=skip (.inr hg)
    exact ⟨m',fun R e0=>by rw [unf,hc,hg,← h R e0]; rfl⟩
   | false =>
    have hany:((d.drop (n + 1)).any fun o=>cntS b life at0 o && sameS b x o) = false:=by
     have:=hm (keyS b x)
     rw [hg] at this
     exact this.symm
    have hh:yajy b life at0 (d.drop n) = x :: yajy b life at0 (d.drop (n + 1)):=by
     rw [hd]
     unfold yajy
     rw [yjFy,hc,hany]; rfl
    obtain ⟨m',h⟩:=yfky b hb life at0 ha hf d hl n (yaTy (keyS b x) true m) (sp ++ [x]) (bd ++ [bandI b x.f_Hertz]) (by omega) (by rw [hh,hs,List.reverse_cons]) (by rw [hbd,List.map_append]; rfl) (fun w=>by
     rw [hd,List.any_cons,hc,yccy,yiSy,ynSy ydzy,Bool.true_and]
     have:=hm w
     rw [yccy] at this
     by_cases e:w = keyS b x
     ·rw [(ydzy _ _).2 e,decide_eq_true e.symm]; rfl
     ·have e':ya5y w (keyS b x) = false:=by
       cases hq:ya5y w (keyS b x) with
       | false=>rfl
       | true=>exact absurd ((ydzy _ _).1 hq) e
      rw [e',decide_eq_false (fun h=>e h.symm),Bool.false_or]
      exact this)
    exact ⟨m',fun R e0=>by rw [unf,hc,hg,← h R e0]; rfl⟩
theorem ynHy (l:List G_Spot) (R:Type) (k:List G_Spot→Option R):z99z l k = k l:=rfl
theorem ydUy (b:List G_Band) (life at0:Int) (l:List G_Spot):(yajy b life at0 l).length≤l.length:=ylSy _ _ l
theorem ypTy {b:List G_Band} (hb:b.length≤100000) {life at0:Int} (ha:-1000000000000≤at0∧at0≤1000000000000) (hf:-1000000000000≤life∧life≤1000000000000) {l:List G_Spot} (hl:l.length≤1000) (R:Type) (k:List G_Spot→List Int→Option R) :
  yb3y yauy b l life at0 k = k (yajy b life at0 l) ((yajy b life at0 l).map (fun s=>bandI b s.f_Hertz)):=by
 obtain ⟨m',h⟩:=yfky b hb life at0 ha hf l (by omega) l.length [] [] [] (Nat.le_refl _) (by rw [List.drop_length]; rfl) rfl (fun w=>by rw [List.drop_length,yccy]; rfl)
 have hle:=ydUy b life at0 l
 simp only [yauy] at h
 simp only [yb3y,yauy,ynHy,decide_eq_true (show l.length < 4611686018427387904 by omega),cond_true,h,yNKy (show (yajy b life at0 l).reverse.length≤100000 by rw [List.length_reverse]; omega),yLPy (show ((yajy b life at0 l).reverse.map (fun s=>bandI b s.f_Hertz)).length≤100000 by rw [List.length_map,List.length_reverse]; omega),List.reverse_reverse,← List.map_reverse]
theorem ymzy {b:List G_Band} (hb:b.length≤100000) {life at0:Int} (ha:-1000000000000≤at0∧at0≤1000000000000) (hf:-1000000000000≤life∧life≤1000000000000) {l:List G_Spot} (hl:l.length≤1000) (R:Type) (k:List G_Spot→List Int→Option R) :
  band_heard b l life at0 k = k (yajy b life at0 l) ((yajy b life at0 l).map (fun s=>bandI b s.f_Hertz)):=by
 show (yb3y yauy b l life at0 (fun z0 z1=>some (ycmy (z0,z1)))).bind _ = _
 rw [ypTy hb ha hf hl]
 rfl
def lifeB (life at0:Int):Bool:=inB life 1 86400000 && momB at0
theorem z109z_is (life at0:Int) (R:Type) (k:Int→Option R):z109z life at0 k = k (bif lifeB life at0 then 0 else 1):=by
 simp only [z109z,z109z_,yuxy,ykCy,yjiy,lifeB]
 cases inB life 1 86400000 <;> cases momB at0 <;> rfl
theorem z87z_is (life at0 hertz:Int) (R:Type) (k:Int→Option R):z87z life at0 hertz k = k (bif lifeB life at0 && inB hertz 0 30000000000 then 0 else 1):=by
 simp only [z87z,z87z_,ywWy,z78z_is,z85z_is,lifeB]
 cases inB life 1 86400000 <;> cases momB at0 <;> cases inB hertz 0 30000000000 <;> rfl
theorem ylky {life at0:Int} (h:lifeB life at0 = true):(1≤life∧life≤86400000)∧0≤at0∧at0≤345686399999:=by
 unfold lifeB momB at h
 rw [Bool.and_eq_true,yiPy,yiPy] at h
 exact h
theorem z86z_is {b:List G_Band} {l:List G_Spot} (hb:∀ c ∈ b,FineB c) (hl:∀ c ∈ l,FineS c) (h1:b.length≤100000) (h2:l.length≤100000) (R:Type) (k:Int→Option R):z86z b l k = k (orL [yaxy b,yaDy l]):=by
 simp only [z86z,z86z_,yzCy,z19z_is hb h1,z61z_is hl h2,orL]
 cases yaxy b != 0 with
 | true=>rfl
 | false =>
  cases h:yaDy l != 0 with
  | true=>rfl
  | false =>
   have:yaDy l = 0:=by simpa using h
   rw [this]; rfl
def cntQ (b:List G_Band) (life at0:Int) (s:G_Spot):Bool:=decide (at0 - life < s.f_At) && (decide (s.f_At≤at0) && !(bandA b s.f_Hertz == []))
def sameQ (b:List G_Band) (s o:G_Spot):Bool:=o.f_Call == s.f_Call && bandA b o.f_Hertz == bandA b s.f_Hertz
theorem yFzy {b:List G_Band} (h:yaxy b = 0) (life at0:Int) (l:List G_Spot):ybBy (cntQ b life at0) (sameQ b) l = yajy b life at0 l:=by
 unfold yajy
 refine yoby (fun x _=>?_) (fun x _ y _ hx hy=>?_)
 ·unfold cntQ cntS
  rw [yvxy h]
 ·have e:∀ z,cntQ b life at0 z = true→¬ bandI b z.f_Hertz < 0:=fun z hz hn=>by
   unfold cntQ at hz
   rw [← yvxy h,decide_eq_true hn] at hz
   simp at hz
  unfold sameQ sameS
  rw [← yG5y h (e y hy) (e x hx),Bool.eq_iff_iff]
  simp only [Bool.and_eq_true,beq_iff_eq,decide_eq_true_eq,keyS,G_band_onBand.mk.injEq]
theorem ytky {b:List G_Band} (hb:b.length≤100000) {life at0:Int} (ha:-1000000000000≤at0∧at0≤1000000000000) (hf:-1000000000000≤life∧life≤1000000000000) (s:G_Spot) (R:Type) (k:Bool→Option R):z73z s at0 life b k = k (cntQ b life at0 s):=by
 simp only [z73z,z73z_,yAiy,yjAy hb,yaky (x:=at0 - life) (by omega) (by omega),cntQ]
 cases decide (at0 - life < s.f_At) <;> cases decide (s.f_At≤at0) <;> rfl
theorem yE6y {b:List G_Band} (hb:b.length≤100000) {life at0:Int} (ha:-1000000000000≤at0∧at0≤1000000000000) (hf:-1000000000000≤life∧life≤1000000000000) (s o:G_Spot) (R:Type) (k:Bool→Int→Int→List G_Band→G_Spot→Option R):z55z o at0 life b s b k = k (cntQ b life at0 o && sameQ b s o) at0 life b s:=by
 simp only [z55z,z55z_,yxEy,ytky hb ha hf,yjAy hb,sameQ]
 cases cntQ b life at0 o <;> cases o.f_Call == s.f_Call <;> rfl
theorem yvuy {b:List G_Band} (hb:b.length≤100000) {life at0:Int} (ha:-1000000000000≤at0∧at0≤1000000000000) (hf:-1000000000000≤life∧life≤1000000000000) (s:G_Spot) (d:List G_Spot) (hl:d.length≤100000) (R:Type) (K:Bool→Int→Int→List G_Band→G_Spot→Option R):∀ (xs:List G_Spot) (n i:Nat),d.drop i = xs→xs.length < n →
  z18z_L2 yfHy n d b (d.length:Int) (i:Int) at0 life b s (fun _ e28 e29 e30 e31 e32=>K (decide (e28 ≥ 0)) e29 e30 e31 e32) (fun _ e34 e35 e36 e37=>K (decide ((-1:Int) ≥ 0)) e34 e35 e36 e37) = K (xs.any fun o=>cntQ b life at0 o && sameQ b s o) at0 life b s
 | _,0,_,_,h=>by omega
 | [],n + 1,i,h,_=>by rw [z18z_L2,yaCy h]; rfl
 | c :: cs,n + 1,i,h,hn=>by
  have h':=yaly h
  have ih:=yvuy hb ha hf s d hl R K cs n (i + 1) h'.2.2.1 (Nat.lt_of_succ_lt_succ (by simpa only [List.length_cons] using hn))
  rw [z18z_L2,yayy h]
  simp only [yfHy] at ih
  simp only [cond_true,yaHy h,yfHy,yE6y hb ha hf,yamy (show i < 4611686018427387904 by omega),ih,List.any_cons]
  cases (cntQ b life at0 c && sameQ b s c) with
  | false=>rfl
  | true=>rw [decide_eq_true (show (i:Int) ≥ 0 by omega)]; rfl
theorem yJdy {b:List G_Band} (hb:b.length≤100000) {life at0:Int} (ha:-1000000000000≤at0∧at0≤1000000000000) (hf:-1000000000000≤life∧life≤1000000000000) (s:G_Spot) (d:List G_Spot) (hl:d.length≤100000) (R:Type) (k:Bool→Int→Int→List G_Band→G_Spot→List G_Band→Option R) :
  z38z d at0 life b s b k = k (d.any fun o=>cntQ b life at0 o && sameQ b s o) at0 life b s b:=by
 have h:=yvuy hb ha hf s d hl R (fun a c d e f=>k a c d e f b) d NN 0 rfl (by have:=NN_ok; omega)
 exact h
theorem z10z_loop {b:List G_Band} (hb:b.length≤100000) {life at0:Int} (ha:-1000000000000≤at0∧at0≤1000000000000) (hf:-1000000000000≤life∧life≤1000000000000) (d:List G_Spot) (hl:d.length≤100000):∀ (xs:List G_Spot) (n i:Nat) (out:List G_Spot),d.drop i = xs→xs.length < n→out.length≤i→∀ (R:Type) (e0:List G_Spot→Option R),
  z10z_L3 yfYy n d b life at0 d (d.length:Int) (i:Int) out e0 = e0 (out ++ ybBy (cntQ b life at0) (sameQ b) xs)
 | _,0,_,_,_,h,_,_,_=>by omega
 | [],n + 1,i,out,h,_,_,R,e0=>by rw [z10z_L3,yaCy h,ybBy,List.append_nil]; rfl
 | c :: cs,n + 1,i,out,h,hn,ho,R,e0=>by
  have h':=yaly h
  have hn':cs.length < n:=Nat.lt_of_succ_lt_succ (by simpa only [List.length_cons] using hn)
  have ih:=fun out ho=>z10z_loop hb ha hf d hl cs n (i + 1) out h'.2.2.1 hn' ho R e0
  have hw:w64 ((i:Int) + 1) = ((i + 1:Nat):Int):=yamy (by omega)
  rw [z10z_L3,yayy h]
  simp only [yfYy] at ih
  simp only [cond_true,yaHy h,yfYy,hw,Int.toNat_natCast,h'.2.2.1,yJdy hb ha hf c cs (by have:=h'.2.2.2; omega),ytky hb ha hf,room1 out c 48 (show out.length≤1000000 by omega) (by omega),ih (out ++ [c]) (by simp; omega),ih out (by omega),yjFy,List.append_assoc]
  rw [decide_eq_true (show (0:Int)≤((i + 1:Nat):Int) by omega),decide_eq_true (show ((i + 1:Nat):Int)≤(d.length:Int) by omega)]
  cases cntQ b life at0 c <;> cases (cs.any fun o=>cntQ b life at0 o && sameQ b c o) <;> rfl
theorem z10z_is {b:List G_Band} (hr:yaxy b = 0) (hb:b.length≤100000) {life at0:Int} (ha:-1000000000000≤at0∧at0≤1000000000000) (hf:-1000000000000≤life∧life≤1000000000000) {l:List G_Spot} (hl:l.length≤1000) (R:Type) (k:List G_Spot→Option R) :
  z10z b l life at0 k = k (yajy b life at0 l):=by
 have h:=z10z_loop hb ha hf l (by omega) l NN 0 [] rfl (by have:=NN_ok; omega) (by simp) R k
 rw [List.nil_append,yFzy hr] at h
 exact h
end Go.Am
