/- The plain law, in Lean alone: Z1, Z2, Z3. No condition: lemmas for the claim. -/
import Derived.Test.YtfngnnmdgfkenaaGreatDoorPlS1
import Derived.Test.YtfngnnmdgfkenaaGreatDoorPlB4
import Derived.Test.YtfngnnmdgfkenaaGreatDoorPlK
set_option linter.unusedVariables false
set_option linter.unusedSectionVars false
set_option linter.unusedSimpArgs false
set_option maxRecDepth 100000
namespace Go.Am
open Go Go.Proofs
variable [Fuel]
def keysZ:List (List UInt8):=[[98,49,54,48],[98,52,48],[98,51,48],[98,50,48],[]]
theorem yKey:keysZ.all (fun s=>(kit_IsKey s some).isSome) = true:=by
 obtain ⟨m,h,rfl⟩:=ybpy ‹Fuel›
 kernel_rfl
theorem yBUy {s:List UInt8} (h:s ∈ keysZ) (R:Type) (k:Bool→Option R):kit_IsKey s k = k (keyB s) :=
 ymHy yaDy.na (args:=[.d (.str s)]) (F:=@kit_IsKey _ s) (fun _ _=>rfl) (yjUy (List.all_eq_true.1 yKey s h)) R k
abbrev Far (x:Int):Prop:=-4503599627370496≤x∧x≤4503599627370496
structure FineB (x:G_Band):Prop where
 key:x.f_Key ∈ keysZ
 low:Far x.f_Low
 high:Far x.f_High
def ykly:List G_Band:=[⟨[98,49,54,48],1800000,2000000⟩,⟨[98,52,48],7000000,7300000⟩,⟨[98,51,48],7300000,10150000⟩,⟨[98,50,48],14000000,14350000⟩]
theorem yBny:∀ x ∈ ykly,FineB x:=by
 intro x hx
 simp only [ykly,List.mem_cons,List.not_mem_nil,or_false] at hx
 rcases hx with rfl | rfl | rfl | rfl <;> exact ⟨by decide +kernel,⟨by decide,by decide⟩,⟨by decide,by decide⟩⟩
theorem z46z_loop (l:List G_Band) (hl:l.length≤4):∀ (xs:List G_Band) (n i:Nat) (s:G_Stream) (out:List G_Band) (b:Int),l.drop i = xs→xs.length < n→SOk b s→b + (xs.length:Int)≤2000000→out.length≤i →
  ∃ (ys:List G_Band) (s':G_Stream),SOk (b + (xs.length:Int)) s'∧ys.Sublist xs∧∀ (R:Type) (e0:G_Stream→List G_Band→Option R),z46z_L3 yfiy n (l.length:Int) (i:Int) s l out e0 = e0 s' (out ++ ys)
 | _,0,_,_,_,_,_,h,_,_,_=>by omega
 | [],n + 1,i,s,out,b,h,_,hs,hb,ho=>⟨[],s,hs.mono (by simp),List.Sublist.slnil,fun R e0=>by rw [z46z_L3,ya1y h,List.append_nil]; rfl⟩
 | x :: xs,n + 1,i,s,out,b,h,hn,hs,hb,ho=>by
  have h':=yaly h
  have hn':xs.length < n:=Nat.lt_of_succ_lt_succ (by simpa only [List.length_cons] using hn)
  obtain ⟨f,s1,z1,e1⟩:=z74z_gives hs 8 (by simp only [List.length_cons] at hb; omega) (by omega)
  cases f with
  | true =>
   obtain ⟨ys,s',g1,g2,g4⟩:=z46z_loop l hl xs n (i + 1) s1 out (b + 1) h'.2.2.1 hn' z1 (by simp only [List.length_cons] at hb; omega) (by omega)
   refine ⟨ys,s',g1.mono (by simp; omega),g2.cons x,fun R e0=>?_⟩
   rw [z46z_L3,yaZy h]
   simp only [cond_true,ygHy h,yity h,yfiy,e1,Bool.not_true,cond_false,yasy (show i < 4611686018427387904 by omega)]
   exact g4 R e0
  | false =>
   obtain ⟨ys,s',g1,g2,g4⟩:=z46z_loop l hl xs n (i + 1) s1 (out ++ [x]) (b + 1) h'.2.2.1 hn' z1 (by simp only [List.length_cons] at hb; omega) (by simp; omega)
   refine ⟨x :: ys,s',g1.mono (by simp; omega),g2.cons_cons x,fun R e0=>?_⟩
   rw [z46z_L3,yaZy h]
   simp only [cond_true,ygHy h,yity h,yfiy,e1,Bool.not_false,room1 out x 32 (show out.length≤1000000 by omega) (by omega),yasy (show i < 4611686018427387904 by omega)]
   have:=g4 R e0
   rw [List.append_assoc] at this
   exact this
theorem z46z_gives {b:Int} {s:G_Stream} (hs:SOk b s) (hb:b≤1000000) :
  ∃ (r:List G_Band) (s':G_Stream),SOk (b + 4) s'∧r.Sublist ykly∧∀ (R:Type) (k:List G_Band→G_Stream→Option R),z46z s k = k r s':=by
 obtain ⟨ys,s',g1,g2,g4⟩:=z46z_loop ykly (by decide) ykly NN 0 s [] b rfl (by have:=NN_ok; show 4 < NN; omega) hs (by show b + 4≤_; omega) (by simp)
 refine ⟨ys,s',g1,g2,fun R k=>?_⟩
 simp only [z46z,z46z_]
 exact g4 R _
theorem yFhy {r:List G_Band} (h:r.Sublist ykly):r.length≤4∧∀ x ∈ r,FineB x:=⟨h.length_le,fun x hx=>yBny x (h.subset hx)⟩
def badB (x:G_Band):Bool:=!inB x.f_Low 0 30000000000 || (!inB x.f_High 0 30000000000 || (Int.tmod x.f_Low 1000 != 0 || (Int.tmod x.f_High 1000 != 0 || decide (x.f_High≤x.f_Low))))
noncomputable def ydhy:Option G_Band→List G_Band→Int
 | _,[]=>0
 | p,x :: xs=>bif !keyB x.f_Key then 5 else bif badB x then 1 else match p with
  | none=>ydhy (some x) xs
  | some q=>bif decide (x.f_Low < q.f_High) then 7 else ydhy (some x) xs
def dupB:List G_Band→List G_Band→Bool
 | _,[]=>false
 | seen,x :: xs=>(seen.any fun o=>o.f_Key == x.f_Key) || dupB (seen ++ [x]) xs
noncomputable def yc1y (d:List G_Band):Int:=bif decide ((d.length:Int) > 30) then 2 else bif ydhy none d != 0 then ydhy none d else bif dupB [] d then 6 else 0
theorem z15z_loop1 (d:List G_Band) (hf:∀ c ∈ d,FineB c) (hl:d.length≤100000):∀ (xs:List G_Band) (n i:Nat) (p:Option G_Band),d.drop i = xs→ycJy d i p→xs.length < n→∀ (R:Type) (e0:List G_Band→Int→Option R) (e1:List G_Band→Option R),
  z15z_L4 ybqy n d d (d.length:Int) (i:Int) e0 e1 = bif ydhy p xs != 0 then e0 d (ydhy p xs) else e1 d
 | _,0,_,_,_,_,h,_,_,_=>by omega
 | [],n + 1,i,p,h,_,_,R,e0,e1=>by rw [z15z_L4,ya1y h]; rfl
 | c :: cs,n + 1,i,p,h,hp,hn,R,e0,e1=>by
  have h':=yaly h
  have hn':cs.length < n:=Nat.lt_of_succ_lt_succ (by simpa only [List.length_cons] using hn)
  have ih:=z15z_loop1 d hf hl cs n (i + 1) (some c) h'.2.2.1 (ydly h) hn' R e0 e1
  have hc:=hf c (yb6y h)
  rw [z15z_L4,yaZy h]
  simp only [ybqy] at ih
  simp only [cond_true,ybcy h,ybqy,yBUy hc.key,z48z_is,ydhy,badB,yasy (show i < 4611686018427387904 by omega),ih]
  cases keyB c.f_Key with
  | false=>rfl
  | true =>
   cases inB c.f_Low 0 30000000000 <;> cases inB c.f_High 0 30000000000 <;> cases Int.tmod c.f_Low 1000 != 0 <;> cases Int.tmod c.f_High 1000 != 0 <;> cases decide (c.f_High≤c.f_Low) <;> try rfl
   cases p with
   | none=>rw [decide_eq_false (show ¬ ((i:Int) > 0) by unfold ycJy at hp; omega)]; rfl
   | some q =>
    obtain ⟨h0,ys,hq⟩:=hp
    rw [decide_eq_true (show ((i:Int) > 0) by omega),yeUy hq h0 (by omega)]
    simp only [Bool.not_true,Bool.not_false,cond_false,cond_true,Bool.or_self]
    cases decide (c.f_Low < q.f_High) <;> rfl
theorem yJby (d:List G_Band) (hl:d.length≤100000) (x:G_Band) (R:Type) (k:Bool→G_Band→Option R):z42z d x k = k (d.any fun o=>o.f_Key == x.f_Key) x:=by
 simp only [z42z,z42z_,yxoy,yMLy]
 rw [ymUy _ (fun o:G_Band=>o.f_Key == x.f_Key) x d (fun y _ R k=>rfl) (by have:=NN_ok; omega) (by have:=NN_ok; omega)]
 rw [yvjy]
theorem yHyy {α:Type} {d xs:List α} {x:α} {i:Nat} (h:d.drop i = x :: xs):d.take (i + 1) = d.take i ++ [x]:=by
 rw [List.take_add_one,(yaly h).1]; rfl
theorem z15z_loop2 (d:List G_Band) (hl:d.length≤100000):∀ (xs:List G_Band) (n i:Nat),d.drop i = xs→xs.length < n→∀ (R:Type) (e0:Int→Option R) (e1:Option R),
  z15z_L14 ybqy n d d (d.length:Int) (i:Int) e0 e1 = bif dupB (d.take i) xs then e0 6 else e1
 | _,0,_,_,h,_,_,_=>by omega
 | [],n + 1,i,h,_,R,e0,e1=>by rw [z15z_L14,ya1y h]; rfl
 | c :: cs,n + 1,i,h,hn,R,e0,e1=>by
  have h':=yaly h
  have hn':cs.length < n:=Nat.lt_of_succ_lt_succ (by simpa only [List.length_cons] using hn)
  have ih:=z15z_loop2 d hl cs n (i + 1) h'.2.2.1 hn' R e0 e1
  rw [z15z_L14,yaZy h]
  simp only [ybqy] at ih
  simp only [cond_true,ybcy h,ybqy,yasy (show i < 4611686018427387904 by omega),ih,Int.toNat_natCast,yJby (d.take i) (by rw [List.length_take]; omega),dupB,yHyy h]
  rw [decide_eq_true (show (0:Int)≤(i:Int) by omega),decide_eq_true (show (i:Int)≤(d.length:Int) by omega)]
  cases (d.take i).any fun o=>o.f_Key == c.f_Key <;> rfl
theorem z15z_is {d:List G_Band} (hf:∀ c ∈ d,FineB c) (hl:d.length≤100000) (R:Type) (k:Int→Option R):z15z d k = k (yc1y d):=by
 have h1:∀ (R:Type) (e0:List G_Band→Int→Option R) (e1:List G_Band→Option R),z15z_L4 ybqy ybqy.N d d (d.length:Int) 0 e0 e1 = bif ydhy none d != 0 then e0 d (ydhy none d) else e1 d:=fun R e0 e1=>z15z_loop1 d hf hl d ybqy.N 0 none rfl rfl (show d.length < NN by have:=NN_ok; omega) R e0 e1
 have h2:∀ (R:Type) (e0:Int→Option R) (e1:Option R),z15z_L14 ybqy ybqy.N d d (d.length:Int) 0 e0 e1 = bif dupB [] d then e0 6 else e1:=fun R e0 e1=>z15z_loop2 d hl d ybqy.N 0 rfl (show d.length < NN by have:=NN_ok; omega) R e0 e1
 simp only [z15z,z15z_,yc1y,h1,h2]
 cases decide ((d.length:Int) > 30) <;> cases ydhy none d != 0 <;> cases dupB [] d <;> rfl
def yxXy (h:Int) (x:G_Band):Bool:=decide (x.f_Low≤h) && decide (h < x.f_High)
def bandI (b:List G_Band) (h:Int):Int:=idxI (yxXy h) b
theorem yH3y {b:List G_Band} (hl:b.length≤100000) (h:Int) (R:Type) (k:Int→Option R):log_At b h k = k (bandI b h):=by
 simp only [log_At,yuEy,yrfy,yP5y,bandI]
 rw [ymUy _ (yxXy h) h b (fun y _ R k=>by
  simp only [log_At_1,ynSy,yxXy]
  cases decide (y.f_Low≤h) <;> rfl) (by have:=NN_ok; omega) (by have:=NN_ok; omega)]
end Go.Am
set_option linter.unusedVariables false
set_option linter.unusedSectionVars false
set_option linter.unusedSimpArgs false
set_option maxRecDepth 100000
namespace Go.Am
open Go Go.Proofs
variable [Fuel]
structure FineS (c:G_Spot):Prop where
 at1:Mid c.f_At
 hertz:Mid c.f_Hertz
 call:c.f_Call ∈ ydGy
 by1:c.f_By ∈ ydGy
def cmpSp (x y:G_Spot):Int:=orL [cmpI x.f_At y.f_At,cmpI x.f_Hertz y.f_Hertz,Lib.compareBytes x.f_Call y.f_Call,Lib.compareBytes x.f_By y.f_By]
theorem yEry:Ords cmpSp:=.lex (yvBy.on fun c:G_Spot=>c.f_At) (.lex (yvBy.on fun c:G_Spot=>c.f_Hertz) (.lex (yD0y.on fun c:G_Spot=>c.f_Call) (.lex (yD0y.on fun c:G_Spot=>c.f_By) .nil)))
theorem yELy {x y:G_Spot} (h:cmpSp x y = 0):x = y:=by
 unfold cmpSp at h
 rw [yyAy] at h
 simp only [List.mem_cons,List.not_mem_nil,or_false,forall_eq_or_imp,forall_eq,yIry,ysgy] at h
 obtain ⟨h1,h2,h3,h4⟩:=h
 cases x; cases y
 simp only at h1 h2 h3 h4
 subst h1 h2 h3 h4
 rfl
theorem z39z_is (x y:G_Spot) (R:Type) (k:Int→Option R):z39z x y k = k (cmpSp x y):=by
 simp only [z39z,z39z_,yrsy,cmpSp,z29z_is,ydJy]
 rw [z40z_is _ (by simp)]
theorem yngy (a b c d:Int) (R:Type) (k:Int→Option R):z27z [a,b] [c,d] k = k (bif cmpI a c != 0 then cmpI a c else cmpI b d):=by
 obtain ⟨m,e,hm⟩:=yiky
 obtain ⟨m,rfl⟩:∃ q,m = q + 2:=⟨m - 2,by omega⟩
 have w1:w64 (0 + 1) = ((1:Nat):Int):=yaky (by omega) (by omega)
 have w2:w64 (((1:Nat):Int) + 1) = ((2:Nat):Int):=by rw [yaky (by omega) (by omega)]; rfl
 have a0:∀ {R:Type} (x y:Int) (k:Int→Option R),get_ [x,y] 0 k = k x:=fun x y k=>ycay (i:=0) rfl k
 have a1:∀ {R:Type} (x y:Int) (k:Int→Option R),get_ [x,y] ((1:Nat):Int) k = k y:=fun x y k=>ycay (i:=1) rfl k
 have d0:decide ((0:Int) < ([a,b].length:Int)) = true:=rfl
 have d1:decide (((1:Nat):Int) < ([a,b].length:Int)) = true:=rfl
 have d2:decide (((2:Nat):Int) < ([a,b].length:Int)) = false:=rfl
 have f0:decide ((0:Int) ≥ ([c,d].length:Int)) = false:=rfl
 have f1:decide (((1:Nat):Int) ≥ ([c,d].length:Int)) = false:=rfl
 have f2:decide (([a,b].length:Int) < ([c,d].length:Int)) = false:=rfl
 simp only [z27z,z27z_]
 rw [show yc0y.N = m + 2 + 1 from e]
 simp only [z27z_L2,d0,d1,d2,f0,f1,f2,w1,w2,a0,a1,yc0y,cond_true,cond_false,z29z_is]
 cases h1:cmpI a c != 0 with
 | true=>simp only [cond_true]
 | false =>
  simp only [cond_false]
  cases h2:cmpI b d != 0 with
  | true=>simp only [cond_true]
  | false =>
   have h3:cmpI b d = 0:=by simpa using h2
   simp only [cond_false,h3]
theorem ytmy (a b:List UInt8) (R:Type) (k:Int→Option R):z90z a b k = k (Lib.compareBytes a b):=by
 simp only [z90z,z90z_,yyKy,z112z,z112z_,beq_self_eq_true,Bool.not_true,cond_false,yi1y]
 rcases yypy a b with h | h | h
 ·rw [h]; rfl
 ·have e:=yvfy a b h
  subst e
  rw [h,beq_self_eq_true]; rfl
 ·have e:(a == b) = false:=by
   cases hq:a == b with
   | false=>rfl
   | true=>have:=eq_of_beq hq; subst this; rw [yuQy] at h; cases h
  rw [h,e]; rfl
theorem ynhy (a b c d:List UInt8) (R:Type) (k:Int→Option R):z38z [a,b] [c,d] k = k (bif Lib.compareBytes a c != 0 then Lib.compareBytes a c else Lib.compareBytes b d):=by
 obtain ⟨m,e,hm⟩:=yiky
 obtain ⟨m,rfl⟩:∃ q,m = q + 2:=⟨m - 2,by omega⟩
 have w1:w64 (0 + 1) = ((1:Nat):Int):=yaky (by omega) (by omega)
 have w2:w64 (((1:Nat):Int) + 1) = ((2:Nat):Int):=by rw [yaky (by omega) (by omega)]; rfl
 have a0:∀ {R:Type} (x y:List UInt8) (k:List UInt8→Option R),get_ [x,y] 0 k = k x:=fun x y k=>ycay (i:=0) rfl k
 have a1:∀ {R:Type} (x y:List UInt8) (k:List UInt8→Option R),get_ [x,y] ((1:Nat):Int) k = k y:=fun x y k=>ycay (i:=1) rfl k
 have d0:decide ((0:Int) < ([a,b].length:Int)) = true:=rfl
 have d1:decide (((1:Nat):Int) < ([a,b].length:Int)) = true:=rfl
 have d2:decide (((2:Nat):Int) < ([a,b].length:Int)) = false:=rfl
 have f0:decide ((0:Int) ≥ ([c,d].length:Int)) = false:=rfl
 have f1:decide (((1:Nat):Int) ≥ ([c,d].length:Int)) = false:=rfl
 have f2:decide (([a,b].length:Int) < ([c,d].length:Int)) = false:=rfl
 simp only [z38z,z38z_]
 rw [show yhBy.N = m + 2 + 1 from e]
 simp only [z38z_L2,d0,d1,d2,f0,f1,f2,w1,w2,a0,a1,yhBy,cond_true,cond_false,ytmy]
 cases h1:Lib.compareBytes a c != 0 with
 | true=>simp only [cond_true]
 | false =>
  simp only [cond_false]
  cases h2:Lib.compareBytes b d != 0 with
  | true=>simp only [cond_true]
  | false =>
   have h3:Lib.compareBytes b d = 0:=by simpa using h2
   simp only [cond_false,h3]
theorem z16z_is (x y:G_Spot) (R:Type) (k:Int→Option R):z16z x y k = k (cmpSp x y):=by
 simp only [z16z,z16z_,yyHy,yngy,ynhy,cmpSp,orL]
 cases h1:cmpI x.f_At y.f_At != 0 with
 | true=>simp only [cond_true,h1]
 | false =>
  cases h2:cmpI x.f_Hertz y.f_Hertz != 0 with
  | true=>simp only [cond_true,cond_false,h2]
  | false =>
   simp only [cond_false,h2]
   cases h3:Lib.compareBytes x.f_Call y.f_Call != 0 with
   | true=>simp only [cond_true]
   | false =>
    simp only [cond_false]
    cases h4:Lib.compareBytes x.f_By y.f_By != 0 with
    | true=>rfl
    | false =>
     have:Lib.compareBytes x.f_By y.f_By = 0:=by simpa using h4
     rw [this]; rfl
theorem yG5y {l:List G_Spot} (hl:l.length≤20) (R:Type) (k:List G_Spot→Option R):z44z l k = k (sortI cmpSp l):=by
 simp only [z44z,z44z_,yx4y,yNAy]
 exact yuGy cmpSp (fun _=>True) (fun x y _ _=>z16z_is x y) l (fun _ _=>trivial) hl (by have:=NN_ok; omega) (by have:=NN_ok; omega) _ (fun l a b R k=>by rw [yNOy]) k
theorem yAly {l:List G_Spot} (hl:l.length≤100000) (R:Type) (k:List G_Spot→Option R):z26z l k = k (yb2y ybdy l):=by
 rw [yO4y]
 exact yLhy ybdy (fun _=>True) (fun x y _ _ R k=>rfl) l (by have:=NN_ok; omega) (by have:=NN_ok; omega) (fun _ _=>trivial) k
theorem yNfy {a b:List G_Spot} (ha:a.length≤100000) (hb:b.length≤100000) (R:Type) (k:List G_Spot→Option R):z24z [a,b] k = k (a ++ b):=by
 rw [yNdy]; exact yKPy a b ha hb (by omega) (by have:=NN_ok; omega) k
theorem yIAy {l:List G_Spot} (hl:l.length≤1000000) (R:Type) (k:Bool→Option R):z67z l l k = k true:=by
 rw [yL7y]; exact yg4y (by have:=NN_ok; omega) (by have:=NN_ok; omega) (fun x=>by rw [(yyTy x x).2 rfl]; rfl) k
theorem z63z_loop (m:Nat):∀ (n i:Nat) (at0:Int) (s:G_Stream) (out:List G_Spot) (b:Int),m - i < n→i≤m→SOk (b + 20 * (i:Int)) s→b≤1000000→0≤at0→at0≤20 * (i:Int)→out.length = i→(∀ c ∈ out,FineS c)→m≤600 →
  ∃ (r:List G_Spot) (s':G_Stream),SOk (b + 20 * (m:Int)) s'∧r.length = m∧(∀ c ∈ r,FineS c)∧∀ (R:Type) (e0:G_Stream→List G_Spot→Option R),z63z_L4 yciy n at0 (m:Int) (i:Int) s out e0 = e0 s' r
 | 0,i,_,_,_,_,h,_,_,_,_,_,_,_,_=>by omega
 | n + 1,i,at0,s,out,b,h,hi,hs,hb,h1,h2,ho,hf,hm6=>by
  by_cases hc:i < m
  ·obtain ⟨p,s1,hp,z1,e1⟩:=z79z_gives hs [0,1,5,20] (by omega) (by simp) (by simp)
   obtain ⟨hz,s2,hhz,z2,e2⟩:=z79z_gives z1 [7000000,7100000,7299999,7300000,14000000,14010000,14020000,14020000,1800000,5000000] (by omega) (by simp) (by simp)
   obtain ⟨cl,s3,hcl,z3,e3⟩:=z105z_gives z2 (by omega)
   obtain ⟨bd,s4,hbd,z4,e4⟩:=z83z_gives z3 [[119,49,97,119],[110,49,109,109]] (by omega) (by simp) (by simp)
   obtain ⟨f,s5,z5,e5⟩:=z74z_gives z4 80 (by omega) (by omega)
   simp only [List.mem_cons,List.not_mem_nil,or_false] at hp hhz
   have ea:w64 (at0 + p) = at0 + p:=yaky (by omega) (by omega)
   have hcard:∃ (c:G_Spot) (s':G_Stream),FineS c∧SOk (b + 20 * ((i + 1:Nat):Int)) s'∧∀ (R:Type) (e0:G_Stream→List G_Spot→Option R),z63z_L4 yciy (n + 1) at0 (m:Int) (i:Int) s out e0 = z63z_L4 yciy n (at0 + p) (m:Int) ((i + 1:Nat):Int) s' (out ++ [c]) e0:=by
    cases f with
    | false =>
     refine ⟨⟨at0 + p,hz,cl,bd⟩,s5,⟨⟨by simp only; omega,by simp only; omega⟩,⟨by simp only; omega,by simp only; omega⟩,hcl,ykVy hbd (by decide +kernel)⟩,z5.mono (by omega),fun R e0=>?_⟩
     rw [z63z_L4]
     simp only [yciy,decide_eq_true (show (i:Int) < (m:Int) by omega),cond_true,e1,e2,e3,e4,e5,ea,cond_false,room1 out _ 48 (show out.length≤1000000 by omega) (by omega)]
     rw [yasy (by omega)]
    | true =>
     obtain ⟨x1,t1,x11,x12,y1,f1⟩:=yaBy z5 0 100 (by omega) (by omega) (by omega) (by omega) (by omega)
     obtain ⟨x2,t2,x21,x22,y2,f2⟩:=yaBy y1 0 30000000000 (by omega) (by omega) (by omega) (by omega) (by omega)
     obtain ⟨x4,t4,hx4,y4,f4⟩:=z83z_gives y2 [[],[119,49,97,119]] (by omega) (by simp) (by simp)
     refine ⟨⟨x1,x2,cl,x4⟩,t4,⟨⟨by simp only; omega,by simp only; omega⟩,⟨by simp only; omega,by simp only; omega⟩,hcl,ykVy hx4 (by decide +kernel)⟩,y4.mono (by omega),fun R e0=>?_⟩
     rw [z63z_L4]
     simp only [yciy,decide_eq_true (show (i:Int) < (m:Int) by omega),cond_true,e1,e2,e3,e4,e5,ea,f1,f2,f4,room1 out _ 48 (show out.length≤1000000 by omega) (by omega)]
     rw [yasy (by omega)]
   obtain ⟨c,s',hcf,zs,hstep⟩:=hcard
   obtain ⟨r,s'',g1,g2,g3,g4⟩:=z63z_loop m n (i + 1) (at0 + p) s' (out ++ [c]) b (by omega) (by omega) zs hb (by omega) (by omega) (by simp [ho]) (fun x hx=>by
    rcases List.mem_append.1 hx with h | h
    ·exact hf x h
    ·simp at h; rw [h]; exact hcf) hm6
   exact ⟨r,s'',g1,g2,g3,fun R e0=>by rw [hstep,g4]⟩
  ·refine ⟨out,s,hs.mono (by omega),by omega,hf,fun R e0=>?_⟩
   rw [z63z_L4,decide_eq_false (by omega)]; rfl
theorem z63z_gives {b:Int} {s:G_Stream} (hs:SOk b s) (hb:b≤1000000) (m:Nat) (hm:m≤20) :
  ∃ (r:List G_Spot) (s':G_Stream),SOk (b + 20 * (m:Int)) s'∧r.length≤m∧(∀ c ∈ r,FineS c)∧∀ (R:Type) (k:List G_Spot→G_Stream→Option R),z63z s (m:Int) k = k r s':=by
 obtain ⟨r,s',g1,g2,g3,g4⟩:=z63z_loop m NN 0 0 s [] b (by have:=NN_ok; omega) (by omega) (hs.mono (by omega)) hb (by omega) (by omega) rfl (fun c h=>by cases h) (by omega)
 have g4':∀ (R:Type) (e0:G_Stream→List G_Spot→Option R),z63z_L4 yciy yciy.N 0 (m:Int) 0 s [] e0 = e0 s' r:=g4
 refine ⟨yb2y ybdy (sortI cmpSp r),s',g1,?_,fun c h=>g3 c (yjty.1 (yn8y h)),fun R k=>?_⟩
 ·have:=yjdy ybdy (sortI cmpSp r)
  have:=ybPy cmpSp r
  omega
 ·simp only [z63z,z63z_,g4']
  simp only [yciy,yG5y (show r.length≤20 by omega),yAly (show (sortI cmpSp r).length≤100000 by rw [ybPy]; omega)]
noncomputable def chkS (c:G_Spot):Int:=bif !momB c.f_At then 1 else bif !inB c.f_Hertz 0 30000000000 then 1 else bif !callB c.f_Call then 3 else bif !callB c.f_By then 3 else 0
noncomputable def ydQy:Option G_Spot→List G_Spot→Int
 | _,[]=>0
 | p,c :: cs=>bif chkS c != 0 then chkS c else match p with
  | none=>ydQy (some c) cs
  | some q=>bif decide (cmpSp q c ≥ 0) then 7 else ydQy (some c) cs
theorem z45z_loop (d:List G_Spot) (hf:∀ c ∈ d,FineS c) (hl:d.length≤100000):∀ (xs:List G_Spot) (n i:Nat) (p:Option G_Spot),d.drop i = xs→ycJy d i p→xs.length < n→∀ (R:Type) (k:Int→Option R),
  z45z_L4 yc7y n d d (d.length:Int) (i:Int) k (k 0) = k (ydQy p xs)
 | _,0,_,_,_,_,h,_,_=>by omega
 | [],n + 1,i,p,h,_,_,_,_=>by rw [z45z_L4,ya1y h]; rfl
 | c :: cs,n + 1,i,p,h,hp,hn,R,k=>by
  have h':=yaly h
  have ih:=z45z_loop d hf hl cs n (i + 1) (some c) h'.2.2.1 (ydly h) (Nat.lt_of_succ_lt_succ (by simpa only [List.length_cons] using hn)) R k
  have hc:=hf c (yb6y h)
  rw [z45z_L4,yaZy h]
  simp only [yc7y] at ih
  simp only [cond_true,ybcy h,yc7y,z71z_is,z48z_is,ylcy hc.call,ylcy hc.by1,z39z_is,ydQy,chkS,yasy (show i < 4611686018427387904 by omega),ih]
  cases momB c.f_At <;> cases inB c.f_Hertz 0 30000000000 <;> cases callB c.f_Call <;> cases callB c.f_By <;> try rfl
  cases p with
  | none=>rw [decide_eq_false (show ¬ ((i:Int) > 0) by unfold ycJy at hp; omega)]; rfl
  | some q =>
   obtain ⟨h0,ys,hq⟩:=hp
   rw [decide_eq_true (show ((i:Int) > 0) by omega),yeUy hq h0 (by omega)]
   simp only [Bool.not_true,cond_false,cond_true,bne_self_eq_false]
   cases decide (cmpSp q c ≥ 0) <;> rfl
theorem z69z_loop (d:List G_Spot) (hf:∀ c ∈ d,FineS c) (hl:d.length≤100000):∀ (xs:List G_Spot) (n i:Nat) (p:Option G_Spot),d.drop i = xs→ycJy d i p→xs.length < n→∀ (R:Type) (k:Int→Option R),
  z69z_L4 yc3y n d d (d.length:Int) (i:Int) k (k 0) = k (ydQy p xs)
 | _,0,_,_,_,_,h,_,_=>by omega
 | [],n + 1,i,p,h,_,_,_,_=>by rw [z69z_L4,ya1y h]; rfl
 | c :: cs,n + 1,i,p,h,hp,hn,R,k=>by
  have h':=yaly h
  have ih:=z69z_loop d hf hl cs n (i + 1) (some c) h'.2.2.1 (ydly h) (Nat.lt_of_succ_lt_succ (by simpa only [List.length_cons] using hn)) R k
  have hc:=hf c (yb6y h)
  rw [z69z_L4,yaZy h]
  simp only [yc3y] at ih
  simp only [cond_true,ybcy h,yc3y,yCay,yDCy,yvUy hc.call,yvUy hc.by1,z16z_is,ydQy,chkS,yasy (show i < 4611686018427387904 by omega),ih]
  cases momB c.f_At <;> cases inB c.f_Hertz 0 30000000000 <;> cases callB c.f_Call <;> cases callB c.f_By <;> try rfl
  cases p with
  | none=>rw [decide_eq_false (show ¬ ((i:Int) > 0) by unfold ycJy at hp; omega)]; rfl
  | some q =>
   obtain ⟨h0,ys,hq⟩:=hp
   rw [decide_eq_true (show ((i:Int) > 0) by omega),yeUy hq h0 (by omega)]
   simp only [Bool.not_true,cond_false,cond_true,bne_self_eq_false]
   cases decide (cmpSp q c ≥ 0) <;> rfl
noncomputable def ybmy (d:List G_Spot):Int:=bif decide ((d.length:Int) > 2000) then 2 else ydQy none d
theorem z45z_is {d:List G_Spot} (hf:∀ c ∈ d,FineS c) (hl:d.length≤100000) (R:Type) (k:Int→Option R):z45z d k = k (ybmy d):=by
 have h:z45z_L4 yc7y yc7y.N d d (d.length:Int) 0 k (k 0) = k (ydQy none d):=z45z_loop d hf hl d yc7y.N 0 none rfl rfl (show d.length < NN by have:=NN_ok; omega) R k
 simp only [z45z,z45z_,ybmy,h]
 cases decide ((d.length:Int) > 2000) <;> rfl
theorem z69z_is {d:List G_Spot} (hf:∀ c ∈ d,FineS c) (hl:d.length≤100000) (R:Type) (k:Int→Option R):z69z d k = k (ybmy d):=by
 have h:z69z_L4 yc3y yc3y.N d d (d.length:Int) 0 k (k 0) = k (ydQy none d):=z69z_loop d hf hl d yc3y.N 0 none rfl rfl (show d.length < NN by have:=NN_ok; omega) R k
 simp only [z69z,z69z_,ybmy,h]
 cases decide ((d.length:Int) > 2000) <;> rfl
theorem yFUy {l:List G_Spot} (hl:l.length≤100000) (R:Type) (k:List G_Spot→Option R):z56z l k = k (sortI cmpSp l) :=
 yBmy yEry (by omega) (fun x _ y _ h=>yELy h) (fun x _ y _=>z39z_is x y) k
def yoxy (a b:List G_Spot):List G_Spot:=yb2y ybdy (sortI cmpSp (a ++ b))
theorem yFgy (a b:List G_Spot):(yoxy a b).length≤a.length + b.length:=by
 have h1:=yjdy ybdy (sortI cmpSp (a ++ b))
 have h2:=ybPy cmpSp (a ++ b)
 simp at h2
 unfold yoxy; omega
end Go.Am
set_option linter.unusedVariables false
set_option linter.unusedSectionVars false
set_option linter.unusedSimpArgs false
set_option maxRecDepth 100000
namespace Go.Am
open Go Go.Proofs
variable [Fuel]
def cntS (b:List G_Band) (life at0:Int) (s:G_Spot):Bool:=decide (at0 - life < s.f_At) && (decide (s.f_At≤at0) && !decide (bandI b s.f_Hertz < 0))
def keyS (b:List G_Band) (s:G_Spot):G_band_onBand:=⟨s.f_Call,bandI b s.f_Hertz⟩
def sameS (b:List G_Band) (s o:G_Spot):Bool:=decide (keyS b o = keyS b s)
def yaty (b:List G_Band) (life at0:Int) (l:List G_Spot):List G_Spot:=yeiy (cntS b life at0) (sameS b) l
theorem yNmy (g:Nat):@z62z_ g = @sRev G_Spot g:=by kernel_rfl
theorem yPjy (g:Nat):@z58z_ g = @sRev Int g:=by kernel_rfl
theorem yPRy {l:List G_Spot} (hl:l.length≤100000) (R:Type) (k:List G_Spot→Option R):z62z l k = k l.reverse:=by
 show z62z_ NN l k = _
 rw [yNmy]
 exact yDEy (by omega) (by have:=NN_ok; omega) k
theorem yMby {l:List Int} (hl:l.length≤100000) (R:Type) (k:List Int→Option R):z58z l k = k l.reverse:=by
 show z58z_ NN l k = _
 rw [yPjy]
 exact yDEy (by omega) (by have:=NN_ok; omega) k
theorem yIgy {α:Type} {d:List α} {n:Nat} {x:α} (h:d[n]? = some x):d.drop n = x :: d.drop (n + 1):=by
 obtain ⟨h1,rfl⟩:=List.getElem?_eq_some_iff.1 h
 exact List.drop_eq_getElem_cons h1
theorem yqgy {α:Type} (cnt:α→Bool) (same:α→α→Bool) (x:α) (r:List α):yeiy cnt same (x :: r) = bif cnt x && !(r.any fun o=>cnt o && same x o) then x :: yeiy cnt same r else yeiy cnt same r:=by
 simp only [yeiy]
theorem ye5y (b:List G_Band) (hb:b.length≤100000) (life at0:Int) (ha:-1000000000000≤at0∧at0≤1000000000000) (hf:-1000000000000≤life∧life≤1000000000000) (d:List G_Spot) (hl:d.length≤100000):∀ (n:Nat) (m:List (G_band_onBand×Bool)) (sp:List G_Spot) (bd:List Int),n≤d.length →
  sp = (yaty b life at0 (d.drop n)).reverse→bd = sp.map (fun s=>bandI b s.f_Hertz)→(∀ w,(yamy w m).getD false = (d.drop n).any fun o=>cntS b life at0 o && decide (keyS b o = w)) →
  ∃ m',∀ (R:Type) (e0:List G_Band→Int→Int→List (G_band_onBand×Bool)→List G_Spot→List Int→Option R),yaHy yawy n d b life at0 m sp bd e0 = e0 b life at0 m' (yaty b life at0 d).reverse ((yaty b life at0 d).reverse.map (fun s=>bandI b s.f_Hertz))
 | 0,m,sp,bd,_,hs,hbd,hm=>⟨m,fun R e0=>by rw [yaHy,hbd,hs]; rfl⟩
 | n + 1,m,sp,bd,hn,hs,hbd,hm=>by
  have hx:d[n]? = some d[n]:=List.getElem?_eq_getElem (by omega)
  have hd:=yIgy hx
  generalize d[n] = x at hx hd
  have hls:sp.length≤100000:=by
   rw [hs,List.length_reverse]
   refine Nat.le_trans (ylwy _ _ _) ?_
   rw [List.length_drop]; omega
  have hlb:bd.length≤100000:=by rw [hbd,List.length_map]; exact hls
  have hw:w64 (at0 - life) = at0 - life:=yaky (by omega) (by omega)
  have step:∀ (c:Bool),cntS b life at0 x = false ∨ ((yamy (keyS b x) m).getD false = true)→yaty b life at0 (d.drop n) = yaty b life at0 (d.drop (n + 1))∧∀ w,(yamy w m).getD false = (d.drop n).any fun o=>cntS b life at0 o && decide (keyS b o = w):=fun _ hc=>by
   rw [hd]
   unfold yaty
   rw [yqgy]
   rcases hc with hc | hc
   ·rw [hc]
    refine ⟨rfl,fun w=>?_⟩
    rw [List.any_cons,hc,hm w]; rfl
   ·rw [hm] at hc
    have hany:((d.drop (n + 1)).any fun o=>cntS b life at0 o && sameS b x o) = true:=hc
    refine ⟨?_,fun w=>?_⟩
    ·rw [hany]; simp
    ·rw [List.any_cons,hm w]
     cases hq:(cntS b life at0 x && decide (keyS b x = w)) with
     | false=>rfl
     | true =>
      simp only [Bool.and_eq_true,decide_eq_true_eq] at hq
      rw [← hq.2,hc]; rfl
  have skip:cntS b life at0 x = false ∨ ((yamy (keyS b x) m).getD false = true)→∃ m',∀ (R:Type) (e0:List G_Band→Int→Int→List (G_band_onBand×Bool)→List G_Spot→List Int→Option R),yaHy yawy n d b life at0 m sp bd e0 = e0 b life at0 m' (yaty b life at0 d).reverse ((yaty b life at0 d).reverse.map (fun s=>bandI b s.f_Hertz)):=fun hc=>by
   obtain ⟨h1,h2⟩:=step true hc
   exact ye5y b hb life at0 ha hf d hl n m sp bd (by omega) (by rw [h1]; exact hs) hbd h2
  have unf:∀ (R:Type) (e0:List G_Band→Int→Int→List (G_band_onBand×Bool)→List G_Spot→List Int→Option R),yaHy yawy (n + 1) d b life at0 m sp bd e0 = bif cntS b life at0 x && !((yamy (keyS b x) m).getD false) then yaHy yawy n d b life at0 (yaSy (keyS b x) true m) (sp ++ [x]) (bd ++ [bandI b x.f_Hertz]) e0 else yaHy yawy n d b life at0 m sp bd e0:=fun R e0=>by
   rw [yaHy,hx]
   simp only [yawy,yH3y hb,hw,room1 sp x 48 (show sp.length≤1000000 by omega) (by omega),room1 bd (bandI b x.f_Hertz) 8 (show bd.length≤1000000 by omega) (by omega),cond_true,cntS]
   have e1:decide (at0 - life < x.f_At) = !decide (x.f_At≤at0 - life):=by
    rw [Bool.eq_iff_iff]; simp
   have e2:decide (x.f_At≤at0) = !decide (x.f_At > at0):=by
    rw [Bool.eq_iff_iff]; simp
   rw [e1,e2]
   show (bif decide (x.f_At≤at0 - life) then _ else bif decide (x.f_At > at0) then _ else bif decide (bandI b x.f_Hertz < 0) then _ else bif (yamy (keyS b x) m).getD false then _ else _) = _
   cases decide (x.f_At≤at0 - life) <;> cases decide (x.f_At > at0) <;> cases decide (bandI b x.f_Hertz < 0) <;> cases (yamy (keyS b x) m).getD false <;> rfl
  cases hc:cntS b life at0 x with
  | false =>
   obtain ⟨m',h⟩:=skip (.inl hc)
   exact ⟨m',fun R e0=>by rw [unf,hc,← h R e0]; rfl⟩
  | true =>
   cases hg:(yamy (keyS b x) m).getD false with
   | true =>
    obtain ⟨m',h⟩:=skip (.inr hg)
    exact ⟨m',fun R e0=>by rw [unf,hc,hg,← h R e0]; rfl⟩
   | false =>
    have hany:((d.drop (n + 1)).any fun o=>cntS b life at0 o && sameS b x o) = false:=by
     have:=hm (keyS b x)
     rw [hg] at this
     exact this.symm
    have hh:yaty b life at0 (d.drop n) = x :: yaty b life at0 (d.drop (n + 1)):=by
     rw [hd]
     unfold yaty
     rw [yqgy,hc,hany]; rfl
    obtain ⟨m',h⟩:=ye5y b hb life at0 ha hf d hl n (yaSy (keyS b x) true m) (sp ++ [x]) (bd ++ [bandI b x.f_Hertz]) (by omega) (by rw [hh,hs,List.reverse_cons]) (by rw [hbd,List.map_append]; rfl) (fun w=>by
     rw [hd,List.any_cons,hc,yb9y,yjey,yv6y ydKy,Bool.true_and]
     have:=hm w
     rw [yb9y] at this
     by_cases e:w = keyS b x
     ·rw [(ydKy _ _).2 e,decide_eq_true e.symm]; rfl
     ·have e':ya8y w (keyS b x) = false:=by
       cases hq:ya8y w (keyS b x) with
       | false=>rfl
       | true=>exact absurd ((ydKy _ _).1 hq) e
      rw [e',decide_eq_false (fun h=>e h.symm),Bool.false_or]
      exact this)
    exact ⟨m',fun R e0=>by rw [unf,hc,hg,← h R e0]; rfl⟩
theorem yofy (l:List G_Spot) (R:Type) (k:List G_Spot→Option R):z102z l k = k l:=rfl
theorem ylfy (b:List G_Band) (life at0:Int) (l:List G_Spot):(yaty b life at0 l).length≤l.length:=ylwy _ _ l
theorem ypXy {b:List G_Band} (hb:b.length≤100000) {life at0:Int} (ha:-1000000000000≤at0∧at0≤1000000000000) (hf:-1000000000000≤life∧life≤1000000000000) {l:List G_Spot} (hl:l.length≤1000) (R:Type) (k:List G_Spot→List Int→Option R) :
  ybYy yawy b l life at0 k = k (yaty b life at0 l) ((yaty b life at0 l).map (fun s=>bandI b s.f_Hertz)):=by
 obtain ⟨m',h⟩:=ye5y b hb life at0 ha hf l (by omega) l.length [] [] [] (Nat.le_refl _) (by rw [List.drop_length]; rfl) rfl (fun w=>by rw [List.drop_length,yb9y]; rfl)
 have hle:=ylfy b life at0 l
 simp only [yawy] at h
 simp only [ybYy,yawy,yofy,decide_eq_true (show l.length < 4611686018427387904 by omega),cond_true,h,yPRy (show (yaty b life at0 l).reverse.length≤100000 by rw [List.length_reverse]; omega),yMby (show ((yaty b life at0 l).reverse.map (fun s=>bandI b s.f_Hertz)).length≤100000 by rw [List.length_map,List.length_reverse]; omega),List.reverse_reverse,← List.map_reverse]
theorem yndy {b:List G_Band} (hb:b.length≤100000) {life at0:Int} (ha:-1000000000000≤at0∧at0≤1000000000000) (hf:-1000000000000≤life∧life≤1000000000000) {l:List G_Spot} (hl:l.length≤1000) (R:Type) (k:List G_Spot→List Int→Option R) :
  band_heard b l life at0 k = k (yaty b life at0 l) ((yaty b life at0 l).map (fun s=>bandI b s.f_Hertz)):=by
 show (ybYy yawy b l life at0 (fun z0 z1=>some (ycky (z0,z1)))).bind _ = _
 rw [ypXy hb ha hf hl]
 rfl
def lifeB (life at0:Int):Bool:=inB life 1 86400000 && momB at0
theorem z88z_is (life at0 hertz:Int) (R:Type) (k:Int→Option R):z88z life at0 hertz k = k (bif lifeB life at0 && inB hertz 0 30000000000 then 0 else 1):=by
 simp only [z88z,z88z_,yA5y,z48z_is,z71z_is,lifeB]
 cases inB life 1 86400000 <;> cases momB at0 <;> cases inB hertz 0 30000000000 <;> rfl
theorem yzNy {life at0:Int} (h:lifeB life at0 = true):(1≤life∧life≤86400000)∧0≤at0∧at0≤345686399999:=by
 unfold lifeB momB at h
 rw [Bool.and_eq_true,yn4y,yn4y] at h
 exact h
theorem z89z_is {b:List G_Band} {l:List G_Spot} (hb:∀ c ∈ b,FineB c) (hl:∀ c ∈ l,FineS c) (h1:b.length≤100000) (h2:l.length≤100000) (R:Type) (k:Int→Option R):z89z b l k = k (orL [yc1y b,ybmy l]):=by
 simp only [z89z,z89z_,yxly,z15z_is hb h1,z45z_is hl h2,orL]
 cases yc1y b != 0 with
 | true=>rfl
 | false =>
  cases h:ybmy l != 0 with
  | true=>rfl
  | false =>
   have:ybmy l = 0:=by simpa using h
   rw [this]; rfl
theorem ynby {b:List G_Band} {l:List G_Spot} (hb:∀ c ∈ b,FineB c) (hl:∀ c ∈ l,FineS c) (h1:b.length≤100000) (h2:l.length≤1000) (life at0:Int) (R:Type) (k:List G_Spot→Int→Option R) :
  band_Heard b l life at0 k = bif orL [yc1y b,ybmy l,bif lifeB life at0 then 0 else 1] != 0 then k [] (orL [yc1y b,ybmy l,bif lifeB life at0 then 0 else 1]) else k (yaty b life at0 l) 0:=by
 simp only [band_Heard,yjMy,yiGy,z89z_is hb hl h1 (show l.length≤100000 by omega),z88z_is,show inB 0 0 30000000000 = true from rfl,Bool.and_true,orL]
 cases q1:yc1y b != 0 with
 | true=>simp only [cond_true,q1]
 | false =>
  simp only [cond_false]
  cases q2:ybmy l != 0 with
  | true=>simp only [cond_true,q2]
  | false =>
   simp only [cond_false,bne_self_eq_false]
   cases q3:lifeB life at0 with
   | false=>rfl
   | true =>
    obtain ⟨a1,a2⟩:=yzNy q3
    simp only [cond_true,bne_self_eq_false,cond_false,yndy h1 (life:=life) (at0:=at0) ⟨by omega,by omega⟩ ⟨by omega,by omega⟩ h2]
end Go.Am
