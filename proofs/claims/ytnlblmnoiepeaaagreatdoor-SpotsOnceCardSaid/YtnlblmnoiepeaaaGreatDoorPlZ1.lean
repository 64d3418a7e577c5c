/- The plain law, in Lean alone: Z1, Z2, Z3. No condition: lemmas for the claim. -/
import Derived.Test.YtnlblmnoiepeaaaGreatDoorPlS1
import Derived.Test.YtnlblmnoiepeaaaGreatDoorPlB4
import Derived.Test.YtnlblmnoiepeaaaGreatDoorPlK
set_option linter.unusedVariables false
set_option linter.unusedSectionVars false
set_option linter.unusedSimpArgs false
set_option maxRecDepth 100000
namespace Go.Am
open Go Go.Proofs
variable [Fuel]
def keysZ:List (List UInt8):=[[98,49,54,48],[98,52,48],[98,51,48],[98,50,48],[]]
theorem yGky:keysZ.all (fun s=>(kit_IsKey s some).isSome) = true:=by
 obtain ⟨m,h,rfl⟩:=ya1y ‹Fuel›
 kernel_rfl
theorem yi7y {s:List UInt8} (h:s ∈ keysZ) (R:Type) (k:Bool→Option R):kit_IsKey s k = k (keyB s) :=
 ylFy yaKy.na (args:=[.d (.str s)]) (F:=@kit_IsKey _ s) (fun _ _=>rfl) (yjoy (List.all_eq_true.1 yGky s h)) R k
theorem yMHy:(match kit_IsKey [] some with | some b=>b | none=>true) = false:=by
 obtain ⟨m,h,rfl⟩:=ya1y ‹Fuel›
 kernel_rfl
theorem yGIy:keyB [] = false:=by
 have h:=yMHy
 rw [yi7y (by decide +kernel)] at h
 exact h
abbrev Far (x:Int):Prop:=-4503599627370496≤x∧x≤4503599627370496
structure FineB (x:G_Band):Prop where
 key:x.f_Key ∈ keysZ
 low:Far x.f_Low
 high:Far x.f_High
def ydWy:List G_Band:=[⟨[98,49,54,48],1800000,2000000⟩,⟨[98,52,48],7000000,7300000⟩,⟨[98,51,48],7300000,10150000⟩,⟨[98,50,48],14000000,14350000⟩]
theorem ypvy:∀ x ∈ ydWy,FineB x:=by
 intro x hx
 simp only [ydWy,List.mem_cons,List.not_mem_nil,or_false] at hx
 rcases hx with rfl | rfl | rfl | rfl <;> exact ⟨by decide +kernel,⟨by decide,by decide⟩,⟨by decide,by decide⟩⟩
theorem z33z_loop (l:List G_Band) (hl:l.length≤4):∀ (xs:List G_Band) (n i:Nat) (s:G_Stream) (out:List G_Band) (b:Int),l.drop i = xs→xs.length < n→SOk b s→b + (xs.length:Int)≤2000000→out.length≤i →
  ∃ (ys:List G_Band) (s':G_Stream),SOk (b + (xs.length:Int)) s'∧ys.Sublist xs∧∀ (R:Type) (e0:G_Stream→List G_Band→Option R),z33z_L3 yfYy n (l.length:Int) (i:Int) s l out e0 = e0 s' (out ++ ys)
 | _,0,_,_,_,_,_,h,_,_,_=>by omega
 | [],n + 1,i,s,out,b,h,_,hs,hb,ho=>⟨[],s,hs.mono (by simp),List.Sublist.slnil,fun R e0=>by rw [z33z_L3,ybgy h,List.append_nil]; rfl⟩
 | x :: xs,n + 1,i,s,out,b,h,hn,hs,hb,ho=>by
  have h':=yamy h
  have hn':xs.length < n:=Nat.lt_of_succ_lt_succ (by simpa only [List.length_cons] using hn)
  obtain ⟨f,s1,z1,e1⟩:=z69z_gives hs 8 (by simp only [List.length_cons] at hb; omega) (by omega)
  cases f with
  | true =>
   obtain ⟨ys,s',g1,g2,g4⟩:=z33z_loop l hl xs n (i + 1) s1 out (b + 1) h'.2.2.1 hn' z1 (by simp only [List.length_cons] at hb; omega) (by omega)
   refine ⟨ys,s',g1.mono (by simp; omega),g2.cons x,fun R e0=>?_⟩
   rw [z33z_L3,ya4y h]
   simp only [cond_true,ydsy h,yePy h,yfYy,e1,Bool.not_true,cond_false,yaAy (show i < 4611686018427387904 by omega)]
   exact g4 R e0
  | false =>
   obtain ⟨ys,s',g1,g2,g4⟩:=z33z_loop l hl xs n (i + 1) s1 (out ++ [x]) (b + 1) h'.2.2.1 hn' z1 (by simp only [List.length_cons] at hb; omega) (by simp; omega)
   refine ⟨x :: ys,s',g1.mono (by simp; omega),g2.cons_cons x,fun R e0=>?_⟩
   rw [z33z_L3,ya4y h]
   simp only [cond_true,ydsy h,yePy h,yfYy,e1,Bool.not_false,room1 out x 32 (show out.length≤1000000 by omega) (by omega),yaAy (show i < 4611686018427387904 by omega)]
   have:=g4 R e0
   rw [List.append_assoc] at this
   exact this
theorem z33z_gives {b:Int} {s:G_Stream} (hs:SOk b s) (hb:b≤1000000) :
  ∃ (r:List G_Band) (s':G_Stream),SOk (b + 4) s'∧r.Sublist ydWy∧∀ (R:Type) (k:List G_Band→G_Stream→Option R),z33z s k = k r s':=by
 obtain ⟨ys,s',g1,g2,g4⟩:=z33z_loop ydWy (by decide) ydWy NN 0 s [] b rfl (by have:=NN_ok; show 4 < NN; omega) hs (by show b + 4≤_; omega) (by simp)
 refine ⟨ys,s',g1,g2,fun R k=>?_⟩
 simp only [z33z,z33z_]
 exact g4 R _
theorem yDky {r:List G_Band} (h:r.Sublist ydWy):r.length≤4∧∀ x ∈ r,FineB x:=⟨h.length_le,fun x hx=>ypvy x (h.subset hx)⟩
def badB (x:G_Band):Bool:=!inB x.f_Low 0 30000000000 || (!inB x.f_High 0 30000000000 || (Int.tmod x.f_Low 1000 != 0 || (Int.tmod x.f_High 1000 != 0 || decide (x.f_High≤x.f_Low))))
noncomputable def ybKy:Option G_Band→List G_Band→Int
 | _,[]=>0
 | p,x :: xs=>bif !keyB x.f_Key then 5 else bif badB x then 1 else match p with
  | none=>ybKy (some x) xs
  | some q=>bif decide (x.f_Low < q.f_High) then 7 else ybKy (some x) xs
def dupB:List G_Band→List G_Band→Bool
 | _,[]=>false
 | seen,x :: xs=>(seen.any fun o=>o.f_Key == x.f_Key) || dupB (seen ++ [x]) xs
noncomputable def ybny (d:List G_Band):Int:=bif decide ((d.length:Int) > 30) then 2 else bif ybKy none d != 0 then ybKy none d else bif dupB [] d then 6 else 0
theorem z9z_loop1 (d:List G_Band) (hf:∀ c ∈ d,FineB c) (hl:d.length≤100000):∀ (xs:List G_Band) (n i:Nat) (p:Option G_Band),d.drop i = xs→ydmy d i p→xs.length < n→∀ (R:Type) (e0:List G_Band→Int→Option R) (e1:List G_Band→Option R),
  z9z_L4 I_z9z n d d (d.length:Int) (i:Int) e0 e1 = bif ybKy p xs != 0 then e0 d (ybKy p xs) else e1 d
 | _,0,_,_,_,_,h,_,_,_=>by omega
 | [],n + 1,i,p,h,_,_,R,e0,e1=>by rw [z9z_L4,ybgy h]; rfl
 | c :: cs,n + 1,i,p,h,hp,hn,R,e0,e1=>by
  have h':=yamy h
  have hn':cs.length < n:=Nat.lt_of_succ_lt_succ (by simpa only [List.length_cons] using hn)
  have ih:=z9z_loop1 d hf hl cs n (i + 1) (some c) h'.2.2.1 (yd5y h) hn' R e0 e1
  have hc:=hf c (ybuy h)
  rw [z9z_L4,ya4y h]
  simp only [I_z9z] at ih
  simp only [cond_true,ybJy h,I_z9z,yi7y hc.key,z45z_is,ybKy,badB,yaAy (show i < 4611686018427387904 by omega),ih]
  cases keyB c.f_Key with
  | false=>rfl
  | true =>
   cases inB c.f_Low 0 30000000000 <;> cases inB c.f_High 0 30000000000 <;> cases Int.tmod c.f_Low 1000 != 0 <;> cases Int.tmod c.f_High 1000 != 0 <;> cases decide (c.f_High≤c.f_Low) <;> try rfl
   cases p with
   | none=>rw [decide_eq_false (show ¬ ((i:Int) > 0) by unfold ydmy at hp; omega)]; rfl
   | some q =>
    obtain ⟨h0,ys,hq⟩:=hp
    rw [decide_eq_true (show ((i:Int) > 0) by omega),yg0y hq h0 (by omega)]
    simp only [Bool.not_true,Bool.not_false,cond_false,cond_true,Bool.or_self]
    cases decide (c.f_Low < q.f_High) <;> rfl
theorem yHXy (d:List G_Band) (hl:d.length≤100000) (x:G_Band) (R:Type) (k:Bool→G_Band→Option R):z29z d x k = k (d.any fun o=>o.f_Key == x.f_Key) x:=by
 simp only [z29z,z29z_,ywby,yLYy]
 rw [ylfy _ (fun o:G_Band=>o.f_Key == x.f_Key) x d (fun y _ R k=>rfl) (by have:=NN_ok; omega) (by have:=NN_ok; omega)]
 rw [ys4y]
theorem yt9y {α:Type} {d xs:List α} {x:α} {i:Nat} (h:d.drop i = x :: xs):d.take (i + 1) = d.take i ++ [x]:=by
 rw [List.take_add_one,(yamy h).1]; rfl
theorem z9z_loop2 (d:List G_Band) (hl:d.length≤100000):∀ (xs:List G_Band) (n i:Nat),d.drop i = xs→xs.length < n→∀ (R:Type) (e0:Int→Option R) (e1:Option R),
  z9z_L14 I_z9z n d d (d.length:Int) (i:Int) e0 e1 = bif dupB (d.take i) xs then e0 6 else e1
 | _,0,_,_,h,_,_,_=>by omega
 | [],n + 1,i,h,_,R,e0,e1=>by rw [z9z_L14,ybgy h]; rfl
 | c :: cs,n + 1,i,h,hn,R,e0,e1=>by
  have h':=yamy h
  have hn':cs.length < n:=Nat.lt_of_succ_lt_succ (by simpa only [List.length_cons] using hn)
  have ih:=z9z_loop2 d hl cs n (i + 1) h'.2.2.1 hn' R e0 e1
  rw [z9z_L14,ya4y h]
  simp only [I_z9z] at ih
  simp only [cond_true,ybJy h,I_z9z,yaAy (show i < 4611686018427387904 by omega),ih,Int.toNat_natCast,yHXy (d.take i) (by rw [List.length_take]; omega),dupB,yt9y h]
  rw [decide_eq_true (show (0:Int)≤(i:Int) by omega),decide_eq_true (show (i:Int)≤(d.length:Int) by omega)]
  cases (d.take i).any fun o=>o.f_Key == c.f_Key <;> rfl
theorem z9z_is {d:List G_Band} (hf:∀ c ∈ d,FineB c) (hl:d.length≤100000) (R:Type) (k:Int→Option R):z9z d k = k (ybny d):=by
 have h1:∀ (R:Type) (e0:List G_Band→Int→Option R) (e1:List G_Band→Option R),z9z_L4 I_z9z I_z9z.N d d (d.length:Int) 0 e0 e1 = bif ybKy none d != 0 then e0 d (ybKy none d) else e1 d:=fun R e0 e1=>z9z_loop1 d hf hl d I_z9z.N 0 none rfl rfl (show d.length < NN by have:=NN_ok; omega) R e0 e1
 have h2:∀ (R:Type) (e0:Int→Option R) (e1:Option R),z9z_L14 I_z9z I_z9z.N d d (d.length:Int) 0 e0 e1 = bif dupB [] d then e0 6 else e1:=fun R e0 e1=>z9z_loop2 d hl d I_z9z.N 0 rfl (show d.length < NN by have:=NN_ok; omega) R e0 e1
 simp only [z9z,z9z_,ybny,h1,h2]
 cases decide ((d.length:Int) > 30) <;> cases ybKy none d != 0 <;> cases dupB [] d <;> rfl
def yfGy (h:Int) (x:G_Band):Bool:=decide (x.f_Low≤h) && decide (h < x.f_High)
def bandI (b:List G_Band) (h:Int):Int:=idxI (yfGy h) b
def bandA (b:List G_Band) (h:Int):List UInt8:=((b.find? (yfGy h)).map (·.f_Key)).getD []
theorem yuLy {b:List G_Band} (hl:b.length≤100000) (h:Int) (R:Type) (k:Int→Option R):log_At b h k = k (bandI b h):=by
 simp only [log_At,ytty,yqhy,yILy,bandI]
 rw [ylfy _ (yfGy h) h b (fun y _ R k=>by
  simp only [log_At_1,ymzy,yfGy]
  cases decide (y.f_Low≤h) <;> rfl) (by have:=NN_ok; omega) (by have:=NN_ok; omega)]
theorem ypMy:∀ (l:List G_Band) (p:Option G_Band),ybKy p l = 0→∀ x ∈ l,keyB x.f_Key = true
 | [],_,_,x,h=>by cases h
 | y :: ys,p,h,x,hx=>by
  unfold ybKy at h
  cases hk:keyB y.f_Key with
  | false=>rw [hk] at h; simp at h
  | true =>
   rw [hk] at h
   simp only [Bool.not_true,cond_false] at h
   cases hb:badB y with
   | true=>rw [hb] at h; simp at h
   | false =>
    rw [hb] at h
    simp only [cond_false] at h
    have h2:ybKy (some y) ys = 0:=by
     cases p with
     | none=>exact h
     | some q =>
      simp only at h
      cases hd:decide (y.f_Low < q.f_High) with
      | true=>rw [hd] at h; simp at h
      | false=>rw [hd] at h; exact h
    rcases List.mem_cons.1 hx with rfl | hx
    ·exact hk
    ·exact ypMy ys (some y) h2 x hx
theorem yt1y:∀ (l seen:List G_Band),dupB seen l = false→(∀ o ∈ seen,∀ x ∈ l,o.f_Key ≠ x.f_Key)∧l.Pairwise fun a b=>a.f_Key ≠ b.f_Key
 | [],_,_=>⟨fun _ _ _ h=>(by cases h),List.Pairwise.nil⟩
 | y :: ys,seen,h=>by
  simp only [dupB,Bool.or_eq_false_iff] at h
  obtain ⟨h1,h2⟩:=yt1y ys (seen ++ [y]) h.2
  have h3:∀ o ∈ seen,o.f_Key ≠ y.f_Key:=fun o ho e=>by
   have:=List.any_eq_false.1 h.1 o ho
   simp [e] at this
  refine ⟨fun o ho x hx=>?_,List.pairwise_cons.2 ⟨fun x hx=>h1 y (by simp) x hx,h2⟩⟩
  rcases List.mem_cons.1 hx with rfl | hx
  ·exact h3 o ho
  ·exact h1 o (by simp [ho]) x hx
theorem ym6y {d:List G_Band} (h:ybny d = 0):(∀ x ∈ d,x.f_Key ≠ [])∧(d.Pairwise fun a b=>a.f_Key ≠ b.f_Key):=by
 unfold ybny at h
 cases h1:decide ((d.length:Int) > 30) with
 | true=>rw [h1] at h; simp at h
 | false =>
  rw [h1] at h
  simp only [cond_false] at h
  cases h2:ybKy none d != 0 with
  | true=>rw [h2] at h; simp only [cond_true] at h; rw [h] at h2; cases h2
  | false =>
   rw [h2] at h
   simp only [cond_false] at h
   cases h3:dupB [] d with
   | true=>rw [h3] at h; simp at h
   | false =>
    refine ⟨fun x hx e=>?_,(yt1y d [] h3).2⟩
    have:=ypMy d none (by simpa using h2) x hx
    rw [e,yGIy] at this
    cases this
theorem yJ1y {d:List G_Band} (h:d.Pairwise fun a b=>a.f_Key ≠ b.f_Key) {i j:Nat} {x y:G_Band} (hi:d[i]? = some x) (hj:d[j]? = some y) (e:x.f_Key = y.f_Key):i = j:=by
 obtain ⟨h1,rfl⟩:=List.getElem?_eq_some_iff.1 hi
 obtain ⟨h2,rfl⟩:=List.getElem?_eq_some_iff.1 hj
 have hp:=List.pairwise_iff_getElem.1 h
 rcases Nat.lt_trichotomy i j with hij | hij | hij
 ·exact absurd e (hp i j h1 h2 hij)
 ·exact hij
 ·exact absurd e.symm (hp j i h2 h1 hij)
theorem yDXy {b:List G_Band} (h:ybny b = 0) (x:Int):decide (bandI b x < 0) = (bandA b x == []):=by
 obtain ⟨h1,h2⟩:=ym6y h
 unfold bandI bandA
 rcases yfRy (yfGy x) b with ⟨e1,e2⟩ | ⟨i,y,e1,e2,e3,e4⟩
 ·rw [e1,e2]; rfl
 ·rw [e1,e4,decide_eq_false (by omega)]
  have:=h1 y (List.mem_of_getElem? e2)
  simp [this]
theorem yH4y {b:List G_Band} (h:ybny b = 0) {x y:Int} (hx:¬ bandI b x < 0) (hy:¬ bandI b y < 0):(bandI b x == bandI b y) = (bandA b x == bandA b y):=by
 obtain ⟨h1,h2⟩:=ym6y h
 unfold bandI at hx hy
 unfold bandI bandA
 rcases yfRy (yfGy x) b with ⟨e1,e2⟩ | ⟨i,u,e1,e2,e3,e4⟩
 ·rw [e1] at hx; omega
 ·rcases yfRy (yfGy y) b with ⟨f1,f2⟩ | ⟨j,v,f1,f2,f3,f4⟩
  ·rw [f1] at hy; omega
  ·rw [e1,f1,e4,f4]
   simp only [Option.map_some,Option.getD_some]
   rw [Bool.eq_iff_iff,beq_iff_eq,beq_iff_eq]
   constructor
   ·intro e
    have:i = j:=by omega
    subst this
    rw [e2] at f2
    rw [Option.some.inj f2]
   ·intro e
    rw [yJ1y h2 e2 f2 e]
end Go.Am
set_option linter.unusedVariables false
set_option linter.unusedSectionVars false
set_option linter.unusedSimpArgs false
set_option maxRecDepth 100000
namespace Go.Am
open Go Go.Proofs
variable [Fuel]
structure FineS (c:G_Spot):Prop where
 at1:Mid c.f_At
 hertz:Mid c.f_Hertz
 call:c.f_Call ∈ yfly
 by1:c.f_By ∈ yfly
def cmpSp (x y:G_Spot):Int:=orL [cmpI x.f_At y.f_At,cmpI x.f_Hertz y.f_Hertz,Lib.compareBytes x.f_Call y.f_Call,Lib.compareBytes x.f_By y.f_By]
theorem z74z_is (x y:G_Spot) (R:Type) (k:Int→Option R):z74z x y k = k (cmpSp x y):=by
 simp only [z74z,z74z_,yy8y,cmpSp,z25z_is,yhcy]
 rw [z35z_is _ (by simp)]
theorem ymuy (a b c d:Int) (R:Type) (k:Int→Option R):z38z [a,b] [c,d] k = k (bif cmpI a c != 0 then cmpI a c else cmpI b d):=by
 obtain ⟨m,e,hm⟩:=yoBy
 obtain ⟨m,rfl⟩:∃ q,m = q + 2:=⟨m - 2,by omega⟩
 have w1:w64 (0 + 1) = ((1:Nat):Int):=yaqy (by omega) (by omega)
 have w2:w64 (((1:Nat):Int) + 1) = ((2:Nat):Int):=by rw [yaqy (by omega) (by omega)]; rfl
 have a0:∀ {R:Type} (x y:Int) (k:Int→Option R),get_ [x,y] 0 k = k x:=fun x y k=>yeCy (i:=0) rfl k
 have a1:∀ {R:Type} (x y:Int) (k:Int→Option R),get_ [x,y] ((1:Nat):Int) k = k y:=fun x y k=>yeCy (i:=1) rfl k
 have d0:decide ((0:Int) < ([a,b].length:Int)) = true:=rfl
 have d1:decide (((1:Nat):Int) < ([a,b].length:Int)) = true:=rfl
 have d2:decide (((2:Nat):Int) < ([a,b].length:Int)) = false:=rfl
 have f0:decide ((0:Int) ≥ ([c,d].length:Int)) = false:=rfl
 have f1:decide (((1:Nat):Int) ≥ ([c,d].length:Int)) = false:=rfl
 have f2:decide (([a,b].length:Int) < ([c,d].length:Int)) = false:=rfl
 simp only [z38z,z38z_]
 rw [show ygRy.N = m + 2 + 1 from e]
 simp only [z38z_L2,d0,d1,d2,f0,f1,f2,w1,w2,a0,a1,ygRy,cond_true,cond_false,z25z_is]
 cases h1:cmpI a c != 0 with
 | true=>simp only [cond_true]
 | false =>
  simp only [cond_false]
  cases h2:cmpI b d != 0 with
  | true=>simp only [cond_true]
  | false =>
   have h3:cmpI b d = 0:=by simpa using h2
   simp only [cond_false,h3]
theorem yrky (a b:List UInt8) (R:Type) (k:Int→Option R):z70z a b k = k (Lib.compareBytes a b):=by
 simp only [z70z,z70z_,yyDy,z96z,z96z_,beq_self_eq_true,Bool.not_true,cond_false,ynny]
 rcases yGly a b with h | h | h
 ·rw [h]; rfl
 ·have e:=ytly a b h
  subst e
  rw [h,beq_self_eq_true]; rfl
 ·have e:(a == b) = false:=by
   cases hq:a == b with
   | false=>rfl
   | true=>have:=eq_of_beq hq; subst this; rw [ytLy] at h; cases h
  rw [h,e]; rfl
theorem ymty (a b c d:List UInt8) (R:Type) (k:Int→Option R):z27z [a,b] [c,d] k = k (bif Lib.compareBytes a c != 0 then Lib.compareBytes a c else Lib.compareBytes b d):=by
 obtain ⟨m,e,hm⟩:=yoBy
 obtain ⟨m,rfl⟩:∃ q,m = q + 2:=⟨m - 2,by omega⟩
 have w1:w64 (0 + 1) = ((1:Nat):Int):=yaqy (by omega) (by omega)
 have w2:w64 (((1:Nat):Int) + 1) = ((2:Nat):Int):=by rw [yaqy (by omega) (by omega)]; rfl
 have a0:∀ {R:Type} (x y:List UInt8) (k:List UInt8→Option R),get_ [x,y] 0 k = k x:=fun x y k=>yeCy (i:=0) rfl k
 have a1:∀ {R:Type} (x y:List UInt8) (k:List UInt8→Option R),get_ [x,y] ((1:Nat):Int) k = k y:=fun x y k=>yeCy (i:=1) rfl k
 have d0:decide ((0:Int) < ([a,b].length:Int)) = true:=rfl
 have d1:decide (((1:Nat):Int) < ([a,b].length:Int)) = true:=rfl
 have d2:decide (((2:Nat):Int) < ([a,b].length:Int)) = false:=rfl
 have f0:decide ((0:Int) ≥ ([c,d].length:Int)) = false:=rfl
 have f1:decide (((1:Nat):Int) ≥ ([c,d].length:Int)) = false:=rfl
 have f2:decide (([a,b].length:Int) < ([c,d].length:Int)) = false:=rfl
 simp only [z27z,z27z_]
 rw [show yhly.N = m + 2 + 1 from e]
 simp only [z27z_L2,d0,d1,d2,f0,f1,f2,w1,w2,a0,a1,yhly,cond_true,cond_false,yrky]
 cases h1:Lib.compareBytes a c != 0 with
 | true=>simp only [cond_true]
 | false =>
  simp only [cond_false]
  cases h2:Lib.compareBytes b d != 0 with
  | true=>simp only [cond_true]
  | false =>
   have h3:Lib.compareBytes b d = 0:=by simpa using h2
   simp only [cond_false,h3]
theorem z10z_is (x y:G_Spot) (R:Type) (k:Int→Option R):z10z x y k = k (cmpSp x y):=by
 simp only [z10z,z10z_,yvJy,ymuy,ymty,cmpSp,orL]
 cases h1:cmpI x.f_At y.f_At != 0 with
 | true=>simp only [cond_true,h1]
 | false =>
  cases h2:cmpI x.f_Hertz y.f_Hertz != 0 with
  | true=>simp only [cond_true,cond_false,h2]
  | false =>
   simp only [cond_false,h2]
   cases h3:Lib.compareBytes x.f_Call y.f_Call != 0 with
   | true=>simp only [cond_true]
   | false =>
    simp only [cond_false]
    cases h4:Lib.compareBytes x.f_By y.f_By != 0 with
    | true=>rfl
    | false =>
     have:Lib.compareBytes x.f_By y.f_By = 0:=by simpa using h4
     rw [this]; rfl
theorem yFPy {l:List G_Spot} (hl:l.length≤20) (R:Type) (k:List G_Spot→Option R):z34z l k = k (sortI cmpSp l):=by
 simp only [z34z,z34z_,yyby,yN9y]
 exact yJny cmpSp (fun _=>True) (fun x y _ _=>z10z_is x y) l (fun _ _=>trivial) hl (by have:=NN_ok; omega) (by have:=NN_ok; omega) _ (fun l a b R k=>by rw [yNyy]) k
theorem yIsy {l:List G_Spot} (hl:l.length≤100000) (R:Type) (k:List G_Spot→Option R):z22z l k = k (ycvy ycVy l):=by
 rw [yKpy]
 exact yHhy ycVy (fun _=>True) (fun x y _ _ R k=>rfl) l (by have:=NN_ok; omega) (by have:=NN_ok; omega) (fun _ _=>trivial) k
theorem z52z_loop (m:Nat):∀ (n i:Nat) (at0:Int) (s:G_Stream) (out:List G_Spot) (b:Int),m - i < n→i≤m→SOk (b + 20 * (i:Int)) s→b≤1000000→0≤at0→at0≤20 * (i:Int)→out.length = i→(∀ c ∈ out,FineS c)→m≤600 →
  ∃ (r:List G_Spot) (s':G_Stream),SOk (b + 20 * (m:Int)) s'∧r.length = m∧(∀ c ∈ r,FineS c)∧∀ (R:Type) (e0:G_Stream→List G_Spot→Option R),z52z_L4 ycmy n at0 (m:Int) (i:Int) s out e0 = e0 s' r
 | 0,i,_,_,_,_,h,_,_,_,_,_,_,_,_=>by omega
 | n + 1,i,at0,s,out,b,h,hi,hs,hb,h1,h2,ho,hf,hm6=>by
  by_cases hc:i < m
  ·obtain ⟨p,s1,hp,z1,e1⟩:=z84z_gives hs [0,1,5,20] (by omega) (by simp) (by simp)
   obtain ⟨hz,s2,hhz,z2,e2⟩:=z84z_gives z1 [7000000,7100000,7299999,7300000,14000000,14010000,14020000,14020000,1800000,5000000] (by omega) (by simp) (by simp)
   obtain ⟨cl,s3,hcl,z3,e3⟩:=z89z_gives z2 (by omega)
   obtain ⟨bd,s4,hbd,z4,e4⟩:=z80z_gives z3 [[119,49,97,119],[110,49,109,109]] (by omega) (by simp) (by simp)
   obtain ⟨f,s5,z5,e5⟩:=z69z_gives z4 80 (by omega) (by omega)
   simp only [List.mem_cons,List.not_mem_nil,or_false] at hp hhz
   have ea:w64 (at0 + p) = at0 + p:=yaqy (by omega) (by omega)
   have hcard:∃ (c:G_Spot) (s':G_Stream),FineS c∧SOk (b + 20 * ((i + 1:Nat):Int)) s'∧∀ (R:Type) (e0:G_Stream→List G_Spot→Option R),z52z_L4 ycmy (n + 1) at0 (m:Int) (i:Int) s out e0 = z52z_L4 ycmy n (at0 + p) (m:Int) ((i + 1:Nat):Int) s' (out ++ [c]) e0:=by
    cases f with
    | false =>
     refine ⟨⟨at0 + p,hz,cl,bd⟩,s5,⟨⟨by simp only; omega,by simp only; omega⟩,⟨by simp only; omega,by simp only; omega⟩,hcl,yn7y hbd (by decide +kernel)⟩,z5.mono (by omega),fun R e0=>?_⟩
     rw [z52z_L4]
     simp only [ycmy,decide_eq_true (show (i:Int) < (m:Int) by omega),cond_true,e1,e2,e3,e4,e5,ea,cond_false,room1 out _ 48 (show out.length≤1000000 by omega) (by omega)]
     rw [yaAy (by omega)]
    | true =>
     obtain ⟨x1,t1,x11,x12,y1,f1⟩:=yh9y z5 0 100 (by omega) (by omega) (by omega) (by omega) (by omega)
     obtain ⟨x2,t2,x21,x22,y2,f2⟩:=yh9y y1 0 30000000000 (by omega) (by omega) (by omega) (by omega) (by omega)
     obtain ⟨x4,t4,hx4,y4,f4⟩:=z80z_gives y2 [[],[119,49,97,119]] (by omega) (by simp) (by simp)
     refine ⟨⟨x1,x2,cl,x4⟩,t4,⟨⟨by simp only; omega,by simp only; omega⟩,⟨by simp only; omega,by simp only; omega⟩,hcl,yn7y hx4 (by decide +kernel)⟩,y4.mono (by omega),fun R e0=>?_⟩
     rw [z52z_L4]
     simp only [ycmy,decide_eq_true (show (i:Int) < (m:Int) by omega),cond_true,e1,e2,e3,e4,e5,ea,f1,f2,f4,room1 out _ 48 (show out.length≤1000000 by omega) (by omega)]
     rw [yaAy (by omega)]
   obtain ⟨c,s',hcf,zs,hstep⟩:=hcard
   obtain ⟨r,s'',g1,g2,g3,g4⟩:=z52z_loop m n (i + 1) (at0 + p) s' (out ++ [c]) b (by omega) (by omega) zs hb (by omega) (by omega) (by simp [ho]) (fun x hx=>by
    rcases List.mem_append.1 hx with h | h
    ·exact hf x h
    ·simp at h; rw [h]; exact hcf) hm6
   exact ⟨r,s'',g1,g2,g3,fun R e0=>by rw [hstep,g4]⟩
  ·refine ⟨out,s,hs.mono (by omega),by omega,hf,fun R e0=>?_⟩
   rw [z52z_L4,decide_eq_false (by omega)]; rfl
theorem z52z_gives {b:Int} {s:G_Stream} (hs:SOk b s) (hb:b≤1000000) (m:Nat) (hm:m≤20) :
  ∃ (r:List G_Spot) (s':G_Stream),SOk (b + 20 * (m:Int)) s'∧r.length≤m∧(∀ c ∈ r,FineS c)∧∀ (R:Type) (k:List G_Spot→G_Stream→Option R),z52z s (m:Int) k = k r s':=by
 obtain ⟨r,s',g1,g2,g3,g4⟩:=z52z_loop m NN 0 0 s [] b (by have:=NN_ok; omega) (by omega) (hs.mono (by omega)) hb (by omega) (by omega) rfl (fun c h=>by cases h) (by omega)
 have g4':∀ (R:Type) (e0:G_Stream→List G_Spot→Option R),z52z_L4 ycmy ycmy.N 0 (m:Int) 0 s [] e0 = e0 s' r:=g4
 refine ⟨ycvy ycVy (sortI cmpSp r),s',g1,?_,fun c h=>g3 c (yiWy.1 (yniy h)),fun R k=>?_⟩
 ·have:=yxny ycVy (sortI cmpSp r)
  have:=ybFy cmpSp r
  omega
 ·simp only [z52z,z52z_,g4']
  simp only [ycmy,yFPy (show r.length≤20 by omega),yIsy (show (sortI cmpSp r).length≤100000 by rw [ybFy]; omega)]
noncomputable def chkS (c:G_Spot):Int:=bif !momB c.f_At then 1 else bif !inB c.f_Hertz 0 30000000000 then 1 else bif !callB c.f_Call then 3 else bif !callB c.f_By then 3 else 0
noncomputable def yb9y:Option G_Spot→List G_Spot→Int
 | _,[]=>0
 | p,c :: cs=>bif chkS c != 0 then chkS c else match p with
  | none=>yb9y (some c) cs
  | some q=>bif decide (cmpSp q c ≥ 0) then 7 else yb9y (some c) cs
theorem z42z_loop (d:List G_Spot) (hf:∀ c ∈ d,FineS c) (hl:d.length≤100000):∀ (xs:List G_Spot) (n i:Nat) (p:Option G_Spot),d.drop i = xs→ydmy d i p→xs.length < n→∀ (R:Type) (k:Int→Option R),
  z42z_L4 yc5y n d d (d.length:Int) (i:Int) k (k 0) = k (yb9y p xs)
 | _,0,_,_,_,_,h,_,_=>by omega
 | [],n + 1,i,p,h,_,_,_,_=>by rw [z42z_L4,ybgy h]; rfl
 | c :: cs,n + 1,i,p,h,hp,hn,R,k=>by
  have h':=yamy h
  have ih:=z42z_loop d hf hl cs n (i + 1) (some c) h'.2.2.1 (yd5y h) (Nat.lt_of_succ_lt_succ (by simpa only [List.length_cons] using hn)) R k
  have hc:=hf c (ybuy h)
  rw [z42z_L4,ya4y h]
  simp only [yc5y] at ih
  simp only [cond_true,ybJy h,yc5y,z62z_is,z45z_is,ysNy hc.call,ysNy hc.by1,z74z_is,yb9y,chkS,yaAy (show i < 4611686018427387904 by omega),ih]
  cases momB c.f_At <;> cases inB c.f_Hertz 0 30000000000 <;> cases callB c.f_Call <;> cases callB c.f_By <;> try rfl
  cases p with
  | none=>rw [decide_eq_false (show ¬ ((i:Int) > 0) by unfold ydmy at hp; omega)]; rfl
  | some q =>
   obtain ⟨h0,ys,hq⟩:=hp
   rw [decide_eq_true (show ((i:Int) > 0) by omega),yg0y hq h0 (by omega)]
   simp only [Bool.not_true,cond_false,cond_true,bne_self_eq_false]
   cases decide (cmpSp q c ≥ 0) <;> rfl
theorem z54z_loop (d:List G_Spot) (hf:∀ c ∈ d,FineS c) (hl:d.length≤100000):∀ (xs:List G_Spot) (n i:Nat) (p:Option G_Spot),d.drop i = xs→ydmy d i p→xs.length < n→∀ (R:Type) (k:Int→Option R),
  z54z_L4 yc9y n d d (d.length:Int) (i:Int) k (k 0) = k (yb9y p xs)
 | _,0,_,_,_,_,h,_,_=>by omega
 | [],n + 1,i,p,h,_,_,_,_=>by rw [z54z_L4,ybgy h]; rfl
 | c :: cs,n + 1,i,p,h,hp,hn,R,k=>by
  have h':=yamy h
  have ih:=z54z_loop d hf hl cs n (i + 1) (some c) h'.2.2.1 (yd5y h) (Nat.lt_of_succ_lt_succ (by simpa only [List.length_cons] using hn)) R k
  have hc:=hf c (ybuy h)
  rw [z54z_L4,ya4y h]
  simp only [yc9y] at ih
  simp only [cond_true,ybJy h,yc9y,yzuy,yApy,ytXy hc.call,ytXy hc.by1,z10z_is,yb9y,chkS,yaAy (show i < 4611686018427387904 by omega),ih]
  cases momB c.f_At <;> cases inB c.f_Hertz 0 30000000000 <;> cases callB c.f_Call <;> cases callB c.f_By <;> try rfl
  cases p with
  | none=>rw [decide_eq_false (show ¬ ((i:Int) > 0) by unfold ydmy at hp; omega)]; rfl
  | some q =>
   obtain ⟨h0,ys,hq⟩:=hp
   rw [decide_eq_true (show ((i:Int) > 0) by omega),yg0y hq h0 (by omega)]
   simp only [Bool.not_true,cond_false,cond_true,bne_self_eq_false]
   cases decide (cmpSp q c ≥ 0) <;> rfl
noncomputable def ybpy (d:List G_Spot):Int:=bif decide ((d.length:Int) > 2000) then 2 else yb9y none d
theorem z42z_is {d:List G_Spot} (hf:∀ c ∈ d,FineS c) (hl:d.length≤100000) (R:Type) (k:Int→Option R):z42z d k = k (ybpy d):=by
 have h:z42z_L4 yc5y yc5y.N d d (d.length:Int) 0 k (k 0) = k (yb9y none d):=z42z_loop d hf hl d yc5y.N 0 none rfl rfl (show d.length < NN by have:=NN_ok; omega) R k
 simp only [z42z,z42z_,ybpy,h]
 cases decide ((d.length:Int) > 2000) <;> rfl
theorem z54z_is {d:List G_Spot} (hf:∀ c ∈ d,FineS c) (hl:d.length≤100000) (R:Type) (k:Int→Option R):z54z d k = k (ybpy d):=by
 have h:z54z_L4 yc9y yc9y.N d d (d.length:Int) 0 k (k 0) = k (yb9y none d):=z54z_loop d hf hl d yc9y.N 0 none rfl rfl (show d.length < NN by have:=NN_ok; omega) R k
 simp only [z54z,z54z_,ybpy,h]
 cases decide ((d.length:Int) > 2000) <;> rfl
end Go.Am
set_option linter.unusedVariables false
set_option linter.unusedSectionVars false
set_option linter.unusedSimpArgs false
set_option maxRecDepth 100000
namespace Go.Am
open Go Go.Proofs
variable [Fuel]
def cntS (b:List G_Band) (life at0:Int) (s:G_Spot):Bool:=decide (at0 - life < s.f_At) && (decide (s.f_At≤at0) && !decide (bandI b s.f_Hertz < 0))
def keyS (b:List G_Band) (s:G_Spot):G_band_onBand:=⟨s.f_Call,bandI b s.f_Hertz⟩
def sameS (b:List G_Band) (s o:G_Spot):Bool:=decide (keyS b o = keyS b s)
def yagy (b:List G_Band) (life at0:Int) (l:List G_Spot):List G_Spot:=ycOy (cntS b life at0) (sameS b) l
theorem yLry (g:Nat):@z51z_ g = @sRev G_Spot g:=by kernel_rfl
theorem yI2y (g:Nat):@z48z_ g = @sRev Int g:=by kernel_rfl
theorem yJOy {l:List G_Spot} (hl:l.length≤100000) (R:Type) (k:List G_Spot→Option R):z51z l k = k l.reverse:=by
 show z51z_ NN l k = _
 rw [yLry]
 exact yAFy (by omega) (by have:=NN_ok; omega) k
theorem yJvy {l:List Int} (hl:l.length≤100000) (R:Type) (k:List Int→Option R):z48z l k = k l.reverse:=by
 show z48z_ NN l k = _
 rw [yI2y]
 exact yAFy (by omega) (by have:=NN_ok; omega) k
theorem yEFy {α:Type} {d:List α} {n:Nat} {x:α} (h:d[n]? = some x):d.drop n = x :: d.drop (n + 1):=by
 obtain ⟨h1,rfl⟩:=List.getElem?_eq_some_iff.1 h
 exact List.drop_eq_getElem_cons h1
theorem yjfy {α:Type} (cnt:α→Bool) (same:α→α→Bool) (x:α) (r:List α):ycOy cnt same (x :: r) = bif cnt x && !(r.any fun o=>cnt o && same x o) then x :: ycOy cnt same r else ycOy cnt same r:=by
 simp only [ycOy]
theorem yfny (b:List G_Band) (hb:b.length≤100000) (life at0:Int) (ha:-1000000000000≤at0∧at0≤1000000000000) (hf:-1000000000000≤life∧life≤1000000000000) (d:List G_Spot) (hl:d.length≤100000):∀ (n:Nat) (m:List (G_band_onBand×Bool)) (sp:List G_Spot) (bd:List Int),n≤d.length →
  sp = (yagy b life at0 (d.drop n)).reverse→bd = sp.map (fun s=>bandI b s.f_Hertz)→(∀ w,(yany w m).getD false = (d.drop n).any fun o=>cntS b life at0 o && decide (keyS b o = w)) →
  ∃ m',∀ (R:Type) (e0:List G_Band→Int→Int→List (G_band_onBand×Bool)→List G_Spot→List Int→Option R),yaJy yavy n d b life at0 m sp bd e0 = e0 b life at0 m' (yagy b life at0 d).reverse ((yagy b life at0 d).reverse.map (fun s=>bandI b s.f_Hertz))
 | 0,m,sp,bd,_,hs,hbd,hm=>⟨m,fun R e0=>by rw [yaJy,hbd,hs]; rfl⟩
 | n + 1,m,sp,bd,hn,hs,hbd,hm=>by
  have hx:d[n]? = some d[n]:=List.getElem?_eq_getElem (by omega)
  have hd:=yEFy hx
  generalize d[n] = x at hx hd
  have hls:sp.length≤100000:=by
   rw [hs,List.length_reverse]
   refine Nat.le_trans (ylOy _ _ _) ?_
   rw [List.length_drop]; omega
  have hlb:bd.length≤100000:=by rw [hbd,List.length_map]; exact hls
  have hw:w64 (at0 - life) = at0 - life:=yaqy (by omega) (by omega)
  have step:∀ (c:Bool),cntS b life at0 x = false ∨ ((yany (keyS b x) m).getD false = true)→yagy b life at0 (d.drop n) = yagy b life at0 (d.drop (n + 1))∧∀ w,(yany w m).getD false = (d.drop n).any fun o=>cntS b life at0 o && decide (keyS b o = w):=fun _ hc=>by
   rw [hd]
   unfold yagy
   rw [yjfy]
   rcases hc with hc | hc
   ·rw [hc]
    refine ⟨rfl,fun w=>?_⟩
    rw [List.any_cons,hc,hm w]; rfl
   ·rw [hm] at hc
    have hany:((d.drop (n + 1)).any fun o=>cntS b life at0 o && sameS b x o) = true:=hc
    refine ⟨?_,fun w=>?_⟩
    ·rw [hany]; simp
    ·rw [List.any_cons,hm w]
     cases hq:(cntS b life at0 x && decide (keyS b x = w)) with
     | false=>rfl
     | true =>
      simp only [Bool.and_eq_true,decide_eq_true_eq] at hq
      rw [← hq.2,hc]; rfl
  have skip:cntS b life at0 x = false ∨ ((yany (keyS b x) m).getD false = true)→∃ m',∀ (R:Type) (e0:List G_Band→Int→Int→List (G_band_onBand×Bool)→List G_Spot→List Int→Option R),yaJy yavy n d b life at0 m sp bd e0 = e0 b life at0 m' (yagy b life at0 d).reverse ((yagy b life at0 d).reverse.map (fun s=>bandI b s.f_Hertz)):=fun hc=>by
   obtain ⟨h1,h2⟩:=step true hc
   exact yfny b hb life at0 ha hf d hl n m sp bd (by omega) (by rw [h1]; exact hs) hbd h2
  have unf:∀ (R:Type) (e0:List G_Band→Int→Int→List (G_band_onBand×Bool)→List G_Spot→List Int→Option R),yaJy yavy (n + 1) d b life at0 m sp bd e0 = bif cntS b life at0 x && !((yany (keyS b x) m).getD false) then yaJy yavy n d b life at0 (yaWy (keyS b x) true m) (sp ++ [x]) (bd ++ [bandI b x.f_Hertz]) e0 else yaJy yavy n d b life at0 m sp bd e0:=fun R e0=>by
   rw [yaJy,hx]
   simp only [yavy,yuLy hb,hw,room1 sp x 48 (show sp.length≤1000000 by omega) (by omega),room1 bd (bandI b x.f_Hertz) 8 (show bd.length≤1000000 by omega) (by omega),cond_true,cntS]
   have e1:decide (at0 - life < x.f_At) = !decide (x.f_At≤at0 - life):=by
    rw [Bool.eq_iff_iff]; simp
   have e2:decide (x.f_At≤at0) = !decide (x.f_At > at0):=by
    rw [Bool.eq_iff_iff]; simp
   rw [e1,e2]
   show (bif decide (x.f_At≤at0 - life) then _ else bif decide (x.f_At > at0) then _ else bif decide (bandI b x.f_Hertz < 0) then _ else bif (yany (keyS b x) m).getD false then _ else _) = _
   cases decide (x.f_At≤at0 - life) <;> cases decide (x.f_At > at0) <;> cases decide (bandI b x.f_Hertz < 0) <;> cases (yany (keyS b x) m).getD false <;> rfl
  cases hc:cntS b life at0 x with
  | false =>
   obtain ⟨m',h⟩:=skip (.inl hc)
   exact ⟨m',fun R e0=>by rw [unf,hc,← h R e0]; rfl⟩
  | true =>
   cases hg:(yany (keyS b x) m).getD false with
   | true =>
    obtain ⟨m',h⟩:=skip (.inr hg)
    exact ⟨m',fun R e0=>by rw [unf,hc,hg,← h R e0]; rfl⟩
   | false =>
    have hany:((d.drop (n + 1)).any fun o=>cntS b life at0 o && sameS b x o) = false:=by
     have:=hm (keyS b x)
     rw [hg] at this
     exact this.symm
    have hh:yagy b life at0 (d.drop n) = x :: yagy b life at0 (d.drop (n + 1)):=by
     rw [hd]
     unfold yagy
     rw [yjfy,hc,hany]; rfl
    obtain ⟨m',h⟩:=yfny b hb life at0 ha hf d hl n (yaWy (keyS b x) true m) (sp ++ [x]) (bd ++ [bandI b x.f_Hertz]) (by omega) (by rw [hh,hs,List.reverse_cons]) (by rw [hbd,List.map_append]; rfl) (fun w=>by
     rw [hd,List.any_cons,hc,ychy,yiFy,ytVy ydyy,Bool.true_and]
     have:=hm w
     rw [ychy] at this
     by_cases e:w = keyS b x
     ·rw [(ydyy _ _).2 e,decide_eq_true e.symm]; rfl
     ·have e':ybdy w (keyS b x) = false:=by
       cases hq:ybdy w (keyS b x) with
       | false=>rfl
       | true=>exact absurd ((ydyy _ _).1 hq) e
      rw [e',decide_eq_false (fun h=>e h.symm),Bool.false_or]
      exact this)
    exact ⟨m',fun R e0=>by rw [unf,hc,hg,← h R e0]; rfl⟩
theorem ymxy (l:List G_Spot) (R:Type) (k:List G_Spot→Option R):z83z l k = k l:=rfl
theorem yfZy (b:List G_Band) (life at0:Int) (l:List G_Spot):(yagy b life at0 l).length≤l.length:=ylOy _ _ l
theorem yo9y {b:List G_Band} (hb:b.length≤100000) {life at0:Int} (ha:-1000000000000≤at0∧at0≤1000000000000) (hf:-1000000000000≤life∧life≤1000000000000) {l:List G_Spot} (hl:l.length≤1000) (R:Type) (k:List G_Spot→List Int→Option R) :
  yb7y yavy b l life at0 k = k (yagy b life at0 l) ((yagy b life at0 l).map (fun s=>bandI b s.f_Hertz)):=by
 obtain ⟨m',h⟩:=yfny b hb life at0 ha hf l (by omega) l.length [] [] [] (Nat.le_refl _) (by rw [List.drop_length]; rfl) rfl (fun w=>by rw [List.drop_length,ychy]; rfl)
 have hle:=yfZy b life at0 l
 simp only [yavy] at h
 simp only [yb7y,yavy,ymxy,decide_eq_true (show l.length < 4611686018427387904 by omega),cond_true,h,yJOy (show (yagy b life at0 l).reverse.length≤100000 by rw [List.length_reverse]; omega),yJvy (show ((yagy b life at0 l).reverse.map (fun s=>bandI b s.f_Hertz)).length≤100000 by rw [List.length_map,List.length_reverse]; omega),List.reverse_reverse,← List.map_reverse]
theorem yeey {b:List G_Band} (hb:b.length≤100000) {life at0:Int} (ha:-1000000000000≤at0∧at0≤1000000000000) (hf:-1000000000000≤life∧life≤1000000000000) {l:List G_Spot} (hl:l.length≤1000) (R:Type) (k:List G_Spot→List Int→Option R) :
  band_heard b l life at0 k = k (yagy b life at0 l) ((yagy b life at0 l).map (fun s=>bandI b s.f_Hertz)):=by
 show (yb7y yavy b l life at0 (fun z0 z1=>some (ycoy (z0,z1)))).bind _ = _
 rw [yo9y hb ha hf hl]
 rfl
def lifeB (life at0:Int):Bool:=inB life 1 86400000 && momB at0
theorem z56z_is (life at0 hertz:Int) (R:Type) (k:Int→Option R):z56z life at0 hertz k = k (bif lifeB life at0 && inB hertz 0 30000000000 then 0 else 1):=by
 simp only [z56z,z56z_,yxTy,z45z_is,z62z_is,lifeB]
 cases inB life 1 86400000 <;> cases momB at0 <;> cases inB hertz 0 30000000000 <;> rfl
theorem ylny {life at0:Int} (h:lifeB life at0 = true):(1≤life∧life≤86400000)∧0≤at0∧at0≤345686399999:=by
 unfold lifeB momB at h
 rw [Bool.and_eq_true,ygOy,ygOy] at h
 exact h
theorem z57z_is {b:List G_Band} {l:List G_Spot} (hb:∀ c ∈ b,FineB c) (hl:∀ c ∈ l,FineS c) (h1:b.length≤100000) (h2:l.length≤100000) (R:Type) (k:Int→Option R):z57z b l k = k (orL [ybny b,ybpy l]):=by
 simp only [z57z,z57z_,yvOy,z9z_is hb h1,z42z_is hl h2,orL]
 cases ybny b != 0 with
 | true=>rfl
 | false =>
  cases h:ybpy l != 0 with
  | true=>rfl
  | false =>
   have:ybpy l = 0:=by simpa using h
   rw [this]; rfl
theorem yvuy {b:List G_Band} {l:List G_Spot} (hb:∀ c ∈ b,FineB c) (hl:∀ c ∈ l,FineS c) (h1:b.length≤100000) (h2:l.length≤1000) (life at0:Int) (R:Type) (k:List G_Spot→Int→Option R) :
  band_Heard b l life at0 k = bif orL [ybny b,ybpy l,bif lifeB life at0 then 0 else 1] != 0 then k [] (orL [ybny b,ybpy l,bif lifeB life at0 then 0 else 1]) else k (yagy b life at0 l) 0:=by
 simp only [band_Heard,yi2y,yh2y,z57z_is hb hl h1 (show l.length≤100000 by omega),z56z_is,show inB 0 0 30000000000 = true from rfl,Bool.and_true,orL]
 cases q1:ybny b != 0 with
 | true=>simp only [cond_true,q1]
 | false =>
  simp only [cond_false]
  cases q2:ybpy l != 0 with
  | true=>simp only [cond_true,q2]
  | false =>
   simp only [cond_false,bne_self_eq_false]
   cases q3:lifeB life at0 with
   | false=>rfl
   | true =>
    obtain ⟨a1,a2⟩:=ylny q3
    simp only [cond_true,bne_self_eq_false,cond_false,yeey h1 (life:=life) (at0:=at0) ⟨by omega,by omega⟩ ⟨by omega,by omega⟩ h2]
end Go.Am
