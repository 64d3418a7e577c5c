/- The plain law, in Lean alone: Z4, Z5, Z6. No condition: lemmas for the claim. -/
import Derived.Test.YtnlblmnoiepeaaaGreatDoorPlZ1
import Derived.Test.YtnlblmnoiepeaaaGreatDoorPlS1
import Derived.Test.YtnlblmnoiepeaaaGreatDoorPlR4
set_option linter.unusedVariables false
set_option linter.unusedSectionVars false
set_option linter.unusedSimpArgs false
set_option maxRecDepth 100000
namespace Go.Am
open Go Go.Proofs
variable [Fuel]
theorem yHBy {n:Int} (h0:-9223372036854775808≤n) (h1:n≤9223372036854775807) (R:Type) (k:List UInt8→Option R):strconv_Itoa n k = k (Lib.itoa n):=by
 show yify n k = _
 unfold yify in64
 rw [decide_eq_true h0,decide_eq_true h1]; rfl
def upTo (n:Nat):List Int:=(List.range n).map fun (i:Nat)=>(i:Int)
theorem yFey (n:Nat):upTo (n + 1) = upTo n ++ [(n:Int)]:=by
 unfold upTo
 rw [List.range_succ,List.map_append]; rfl
theorem yiry (n:Nat):(upTo n).length = n:=by simp [upTo]
theorem yvTy {n:Nat} {x:Int}:x ∈ upTo n ↔ 0≤x∧x < (n:Int):=by
 unfold upTo
 rw [List.mem_map]
 constructor
 ·rintro ⟨i,hi,rfl⟩
  have:=List.mem_range.1 hi
  omega
 ·rintro ⟨h1,h2⟩
  exact ⟨x.toNat,List.mem_range.2 (show x.toNat < n by omega),show ((x.toNat:Nat):Int) = x by omega⟩
def cntL (bs:List Int) (i:Int):Int:=((bs.filter fun x=>x == i).length:Int)
theorem yGLy (bs:List Int) (x i:Int):cntL (bs ++ [x]) i = cntL bs i + (bif x == i then 1 else 0):=by
 unfold cntL
 rw [List.filter_append,List.length_append]
 cases h:x == i <;> simp [h]
theorem yB5y (bs:List Int) (i:Int):0≤cntL bs i∧cntL bs i≤(bs.length:Int):=by
 unfold cntL
 have:=List.length_filter_le (fun x=>x == i) bs
 omega
def cnts (n:Nat) (bs:List Int):List Int:=(upTo n).map (cntL bs)
theorem yeyy (n:Nat) (bs:List Int):(cnts n bs).length = n:=by simp [cnts,upTo]
theorem ylUy {n i:Nat} (bs:List Int) (h:i < n):(cnts n bs)[i]? = some (cntL bs (i:Int)):=by
 simp [cnts,upTo,h]
theorem yGwy (n:Nat):List.replicate n (0:Int) = cnts n []:=by
 apply List.ext_getElem?
 intro i
 by_cases h:i < n
 ·rw [ylUy _ h]; simp [h,cntL]
 ·rw [List.getElem?_eq_none (by simp; omega),List.getElem?_eq_none (by rw [yeyy]; omega)]
theorem yIGy {n j:Nat} (bs:List Int) (h:j < n):(cnts n bs).set j (cntL bs (j:Int) + 1) = cnts n (bs ++ [(j:Int)]):=by
 apply List.ext_getElem?
 intro i
 by_cases hi:i < n
 ·rw [ylUy _ hi,yGLy]
  by_cases e:j = i
  ·subst e
   rw [List.getElem?_set_self (by rw [yeyy]; exact hi)]
   simp
  ·rw [List.getElem?_set_ne e,ylUy _ hi]
   have:((j:Int) == (i:Int)) = false:=by simp; omega
   rw [this]; simp
 ·rw [List.getElem?_eq_none (by rw [List.length_set,yeyy]; omega),List.getElem?_eq_none (by rw [yeyy]; omega)]
theorem yjJy (b:List G_Band) (hb:b.length≤100000) (r8 many:List Int):∀ (m n i:Nat),m + i = b.length→m < n→∀ (R:Type) (e0:List G_Band→List Int→List Int→List Int→Option R),
  z5z_L11 I_z5z n b (b.length:Int) (i:Int) r8 (upTo i) many e0 = e0 b r8 (upTo b.length) many
 | _,0,_,_,h,_,_=>by omega
 | 0,n + 1,i,h,_,R,e0=>by
  have:i = b.length:=by omega
  subst this
  rw [z5z_L11,decide_eq_false (by omega)]; rfl
 | m + 1,n + 1,i,h,hn,R,e0=>by
  have ih:=yjJy b hb r8 many m n (i + 1) (by omega) (by omega) R e0
  have hr:=room1 (upTo i) (i:Int) 8 (by rw [yiry]; omega) (by omega)
  rw [z5z_L11,decide_eq_true (by omega),hr,yaAy (by omega),← yFey]
  exact ih
theorem ykpy (b:List G_Band) (hb:b.length≤100000) (order:List Int) (d:List Int) (hd:∀ x ∈ d,0≤x∧x < (b.length:Int)) (hl:d.length≤100000):∀ (xs:List Int) (n i:Nat),d.drop i = xs→xs.length < n→∀ (R:Type) (e0:List G_Band→List Int→List Int→Option R),
  z5z_L16 I_z5z n b (d.length:Int) (i:Int) d order (cnts b.length (d.take i)) e0 = e0 b order (cnts b.length d)
 | _,0,_,_,h,_,_=>by omega
 | [],n + 1,i,h,_,R,e0=>by
  have:=yxBy h
  rw [z5z_L16,ybgy h,List.take_of_length_le this]; rfl
 | x :: xs,n + 1,i,h,hn,R,e0=>by
  have h':=yamy h
  obtain ⟨hx0,hx1⟩:=hd x (ybuy h)
  obtain ⟨j,rfl⟩:∃ j:Nat,x = (j:Int):=⟨x.toNat,by omega⟩
  have ih:=ykpy b hb order d hd hl xs n (i + 1) h'.2.2.1 (Nat.lt_of_succ_lt_succ (by simpa only [List.length_cons] using hn)) R e0
  have hj:j < b.length:=by omega
  have hlen:j < (cnts b.length (d.take i)).length:=by rw [yeyy]; exact hj
  have hget:=ylUy (d.take i) hj
  have hle:=yB5y (d.take i) (j:Int)
  have htl:(d.take i).length≤100000:=by rw [List.length_take]; omega
  have hs:=yIGy (d.take i) hj
  rw [← yt9y h] at hs
  rw [z5z_L16,ya4y h,cond_true,ydsy h,yePy h,ya6y hlen,yaUy hget,ya6y hlen,yaUy hget,yaqy (x:=cntL (d.take i) (j:Int) + 1) (by omega) (by omega),ygvy,hs,yaAy (by omega)]
  exact ih
def cmpBy (m:List Int) (x y:Int):Int:=w64 ((m[y.toNat]?).getD 0 - (m[x.toNat]?).getD 0)
theorem yxyy {m:List Int} {x y:Int} (hx:0≤x∧x < (m.length:Int)) (hy:0≤y∧y < (m.length:Int)) (R:Type) (k:Int→List Int→Option R):z87z x y m k = k (cmpBy m x y) m:=by
 obtain ⟨i,rfl⟩:∃ i:Nat,x = (i:Int):=⟨x.toNat,by omega⟩
 obtain ⟨j,rfl⟩:∃ j:Nat,y = (j:Int):=⟨y.toNat,by omega⟩
 have hi:i < m.length:=by omega
 have hj:j < m.length:=by omega
 simp only [z87z,z87z_,cmpBy,Int.toNat_natCast,List.getElem?_eq_getElem hi,List.getElem?_eq_getElem hj,Option.getD_some,ya6y hi,ya6y hj]
 rw [yaUy (List.getElem?_eq_getElem hj),yaUy (List.getElem?_eq_getElem hi)]
theorem yIIy (g:C_z6z):@z6z_ g = @sInsS Int (List Int) g.N g.z87z:=by kernel_rfl
theorem yIiy (g:C_z4z):@z4z_ g = @sStaS Int (List Int) g.N g.z6z:=by kernel_rfl
theorem yEzy {m l:List Int} (hS:∀ y ∈ l,0≤y∧y < (m.length:Int)) (hl:l.length≤20) (R:Type) (k:List Int→List Int→Option R):z26z l m k = k (sortI (cmpBy m) l) m:=by
 simp only [z26z,z26z_,yv0y]
 show z4z_ I_z4z l (l.length:Int) m _ = _
 rw [yIiy]
 exact yziy (N:=NN) (cmpBy m) (fun y=>0≤y∧y < (m.length:Int)) m l hS hl (by have:=NN_ok; omega) (by have:=NN_ok; omega) _ (fun l a b R k hl=>by
  show z6z_ I_z6z l a b m _ = _
  rw [yIIy]
  exact yGfy (fun x y hx hy R k=>yxyy hx hy R k) NN hl R k) k
def pairB (b:List G_Band) (m:List Int) (i:Int):G_Pair:=⟨((b[i.toNat]?).map (·.f_Key)).getD [],Lib.itoa ((m[i.toNat]?).getD 0)⟩
theorem yjCy (b:List G_Band) (m:List Int) (hm:m.length = b.length) (hv:∀ x ∈ m,0≤x∧x≤1000000) (d:List Int) (hd:∀ x ∈ d,0≤x∧x < (b.length:Int)) (hl:d.length≤100000):∀ (xs:List Int) (n i:Nat) (out:List G_Pair),d.drop i = xs→xs.length < n→out.length≤i→∀ (R:Type) (e0:List G_Pair→Option R),
  z5z_L23 I_z5z n b (d.length:Int) (i:Int) d out m e0 = e0 (out ++ xs.map (pairB b m))
 | _,0,_,_,_,h,_,_,_=>by omega
 | [],n + 1,i,out,h,_,_,R,e0=>by rw [z5z_L23,ybgy h,List.map_nil,List.append_nil]; rfl
 | x :: xs,n + 1,i,out,h,hn,ho,R,e0=>by
  have h':=yamy h
  obtain ⟨hx0,hx1⟩:=hd x (ybuy h)
  obtain ⟨j,rfl⟩:∃ j:Nat,x = (j:Int):=⟨x.toNat,by omega⟩
  have hj:j < b.length:=by omega
  have hjm:j < m.length:=by omega
  have hmv:=hv m[j] (List.getElem_mem hjm)
  have gb:=List.getElem?_eq_getElem hj
  have gm:=List.getElem?_eq_getElem hjm
  have hp:pairB b m (j:Int) = ⟨b[j].f_Key,Lib.itoa m[j]⟩:=by
   unfold pairB
   rw [Int.toNat_natCast,gb,gm]; rfl
  have ih:=yjCy b m hm hv d hd hl xs n (i + 1) (out ++ [pairB b m (j:Int)]) h'.2.2.1 (Nat.lt_of_succ_lt_succ (by simpa only [List.length_cons] using hn)) (by simp; omega) R e0
  rw [z5z_L23,ya4y h,cond_true,ydsy h,yePy h,yeCy gb,ya6y hjm,yaUy gm]
  simp only [I_z5z] at ih
  simp only [I_z5z,yHBy (show -9223372036854775808≤m[j] by omega) (show m[j]≤9223372036854775807 by omega),room1 out _ 32 (show out.length≤1000000 by omega) (by omega),cond_true,yaAy (show i < 4611686018427387904 by omega),← hp,ih,List.map_cons,List.append_assoc]
  rfl
def yaIy (b:List G_Band) (l:List G_Spot):List Int:=l.map fun s=>bandI b s.f_Hertz
def busyB (b:List G_Band) (h:List G_Spot):List G_Pair:=(sortI (cmpBy (cnts b.length (yaIy b h))) (upTo b.length)).map (pairB b (cnts b.length (yaIy b h)))
theorem ydXy {b:List G_Band} {life at0:Int} {l:List G_Spot} {s:G_Spot} (h:s ∈ yagy b life at0 l):s ∈ l∧cntS b life at0 s = true:=ydHy h
theorem yiXy {b:List G_Band} {life at0:Int} {s:G_Spot} (h:cntS b life at0 s = true):¬ bandI b s.f_Hertz < 0:=fun hn=>by
 unfold cntS at h
 rw [decide_eq_true hn] at h
 simp at h
theorem yyCy {b:List G_Band} {x:Int} (h:¬ bandI b x < 0):0≤bandI b x∧bandI b x < (b.length:Int):=by
 unfold bandI at *
 rcases yfRy (yfGy x) b with ⟨e1,_⟩ | ⟨i,y,e1,e2,_⟩
 ·rw [e1] at h; omega
 ·obtain ⟨h1,_⟩:=List.getElem?_eq_some_iff.1 e2
  rw [e1]; omega
theorem z5z_is {b:List G_Band} {l:List G_Spot} (hb:∀ c ∈ b,FineB c) (hl:∀ c ∈ l,FineS c) (h1:b.length≤20) (h2:l.length≤1000) (life at0:Int) (R:Type) (k:List G_Pair→Int→Option R) :
  z5z b l life at0 k = bif orL [ybny b,ybpy l,bif lifeB life at0 then 0 else 1] != 0 then k [] (orL [ybny b,ybpy l,bif lifeB life at0 then 0 else 1]) else k (busyB b (yagy b life at0 l)) 0:=by
 simp only [z5z,z5z_,I_z5z,z57z_is hb hl (show b.length≤100000 by omega) (show l.length≤100000 by omega),z56z_is,show inB 0 0 30000000000 = true from rfl,Bool.and_true,orL]
 cases q1:ybny b != 0 with
 | true=>simp only [cond_true,q1]
 | false =>
  simp only [cond_false]
  cases q2:ybpy l != 0 with
  | true=>simp only [cond_true,q2]
  | false =>
   simp only [cond_false,bne_self_eq_false]
   cases q3:lifeB life at0 with
   | false=>rfl
   | true =>
    obtain ⟨a1,a2⟩:=ylny q3
    have hbs:∀ x ∈ yaIy b (yagy b life at0 l),0≤x∧x < (b.length:Int):=fun x hx=>by
     obtain ⟨s,hs,rfl⟩:=List.mem_map.1 hx
     exact yyCy (yiXy (ydXy hs).2)
    have hle:=yfZy b life at0 l
    have hll:(yaIy b (yagy b life at0 l)).length≤1000:=by unfold yaIy; rw [List.length_map]; omega
    have hso:∀ y ∈ upTo b.length,0≤y∧y < ((cnts b.length (yaIy b (yagy b life at0 l))).length:Int):=fun y hy=>by
     rw [yeyy]; exact yvTy.1 hy
    have e11:∀ (R:Type) (e0:List G_Band→List Int→List Int→List Int→Option R),z5z_L11 I_z5z NN b (b.length:Int) 0 (yaIy b (yagy b life at0 l)) [] (List.replicate b.length 0) e0 = e0 b (yaIy b (yagy b life at0 l)) (upTo b.length) (List.replicate b.length 0):=fun R e0 =>
     yjJy b (by omega) _ _ b.length NN 0 rfl (by have:=NN_ok; omega) R e0
    have e16:∀ (R:Type) (e0:List G_Band→List Int→List Int→Option R),z5z_L16 I_z5z NN b ((yaIy b (yagy b life at0 l)).length:Int) 0 (yaIy b (yagy b life at0 l)) (upTo b.length) (List.replicate b.length 0) e0 = e0 b (upTo b.length) (cnts b.length (yaIy b (yagy b life at0 l))):=fun R e0=>by
     rw [yGwy]
     exact ykpy b (by omega) (upTo b.length) (yaIy b (yagy b life at0 l)) hbs (by omega) (yaIy b (yagy b life at0 l)) NN 0 rfl (by have:=NN_ok; omega) R e0
    have e23:∀ (R:Type) (e0:List G_Pair→Option R),z5z_L23 I_z5z NN b ((sortI (cmpBy (cnts b.length (yaIy b (yagy b life at0 l)))) (upTo b.length)).length:Int) 0 (sortI (cmpBy (cnts b.length (yaIy b (yagy b life at0 l)))) (upTo b.length)) [] (cnts b.length (yaIy b (yagy b life at0 l))) e0 = e0 (busyB b (yagy b life at0 l)):=fun R e0=>by
     have:=yjCy b (cnts b.length (yaIy b (yagy b life at0 l))) (yeyy _ _) (fun x hx=>by
      obtain ⟨i,hi,rfl⟩:=List.mem_map.1 hx
      have:=yB5y (yaIy b (yagy b life at0 l)) i
      omega) (sortI (cmpBy (cnts b.length (yaIy b (yagy b life at0 l)))) (upTo b.length)) (fun x hx=>yvTy.1 (yiWy.1 hx)) (by rw [ybFy,yiry]; omega) (sortI (cmpBy (cnts b.length (yaIy b (yagy b life at0 l)))) (upTo b.length)) NN 0 [] rfl (by rw [ybFy,yiry]; have:=NN_ok; omega) (by simp) R e0
     rw [List.nil_append] at this
     exact this
    simp only [I_z5z] at e11 e16 e23
    simp only [cond_true,bne_self_eq_false,cond_false,yeey (show b.length≤100000 by omega) (life:=life) (at0:=at0) ⟨by omega,by omega⟩ ⟨by omega,by omega⟩ h2]
    rw [decide_eq_true (show (0:Int)≤(b.length:Int) by omega),decide_eq_true (show (b.length:Int)≤(b.length:Int) by omega),decide_eq_true (show (b.length:Int) * (8:Nat)≤140737488355328 by omega)]
    simp only [Bool.true_and,cond_true,show decide ((0:Int)≤0) = true from rfl,show (0:Int).toNat = 0 from rfl,Int.toNat_natCast,List.replicate_zero]
    refine (e11 R _).trans ?_
    refine (e16 R _).trans ?_
    refine (yEzy hso (by rw [yiry]; exact h1) R _).trans ?_
    exact e23 R _
end Go.Am
set_option linter.unusedVariables false
set_option linter.unusedSectionVars false
set_option linter.unusedSimpArgs false
set_option maxRecDepth 100000
namespace Go.Am
open Go Go.Proofs
variable [Fuel]
theorem yCny {b:List G_Band} {life at0:Int} {l:List G_Spot}:∀ s ∈ yagy b life at0 l,¬ bandI b s.f_Hertz < 0:=fun s hs=>yiXy (ydXy hs).2
end Go.Am
set_option linter.unusedVariables false
set_option linter.unusedSectionVars false
set_option linter.unusedSimpArgs false
set_option maxRecDepth 100000
namespace Go.Am
open Go Go.Proofs
variable [Fuel]
def yh0y (h:Int) (down:Bool) (s:G_Spot):Bool:=bif s.f_Hertz == h then true else (decide (s.f_Hertz < h)) == down
def farW (h:Int) (s:G_Spot):Int:=if (w64 (h - s.f_Hertz)) > (w64 (s.f_Hertz - h)) then (w64 (h - s.f_Hertz)) else (w64 (s.f_Hertz - h))
def cmpW (h:Int) (down:Bool) (x y:G_Spot):Int:=bif !(yh0y h down x == yh0y h down y) then (bif yh0y h down x then -1 else 1) else w64 (farW h x - farW h y)
theorem yu5y (x y:G_Spot) (h:Int) (down:Bool) (R:Type) (k:Int→Int→Bool→Int→Option R):z28z x y h down h k = k (cmpW h down x y) h down h:=by
 have e1:∀ (x:G_Spot) (R:Type) (k:Bool→Option R),z97z x h down k = k (yh0y h down x):=fun x R k=>by
  simp only [z97z,z97z_,yh0y]
  cases x.f_Hertz == h <;> rfl
 have e2:∀ (x:G_Spot) (R:Type) (k:Int→Option R),z106z x h k = k (farW h x):=fun x R k=>rfl
 simp only [z28z,z28z_,yywy,e1,e2,cmpW]
 cases yh0y h down x <;> cases yh0y h down y <;> rfl
theorem yL8y (g:C_z1z):@z1z_ g = @sInsU G_Spot Int Bool Int g.N g.z28z:=by kernel_rfl
theorem yL1y (g:C_z0z):@z0z_ g = @sStaU G_Spot Int Bool Int g.N g.z1z:=by kernel_rfl
theorem yHRy {l:List G_Spot} (hl:l.length≤20) (h:Int) (down:Bool) (R:Type) (k:List G_Spot→Int→Bool→Int→Option R):z12z l h down h k = k (sortI (cmpW h down) l) h down h:=by
 simp only [z12z,z12z_,yxfy]
 show z0z_ I_z0z l (l.length:Int) h down h _ = _
 rw [yL1y]
 exact yGJy (N:=NN) (cmpW h down) (fun _=>True) h down h l (fun _ _=>trivial) hl (by have:=NN_ok; omega) (by have:=NN_ok; omega) _ (fun l a b R k hl=>by
  show z1z_ I_z1z l a b h down h _ = _
  rw [yL8y]
  exact yGEy (S:=fun _=>True) (fun x y _ _ R k=>yu5y x y h down R k) NN hl R k) k
theorem ymky (d:List G_Spot) (hl:d.length≤100000):∀ (xs:List G_Spot) (n i:Nat) (out:List (List UInt8)),d.drop i = xs→xs.length < n→out.length≤i→∀ (R:Type) (e0:List (List UInt8)→Option R),
  ycwy yc1y n (d.length:Int) (i:Int) d out e0 = e0 (out ++ xs.map (·.f_Call))
 | _,0,_,_,_,h,_,_,_=>by omega
 | [],n + 1,i,out,h,_,_,R,e0=>by rw [ycwy,ybgy h,List.map_nil,List.append_nil]; rfl
 | x :: xs,n + 1,i,out,h,hn,ho,R,e0=>by
  have h':=yamy h
  have ih:=ymky d hl xs n (i + 1) (out ++ [x.f_Call]) h'.2.2.1 (Nat.lt_of_succ_lt_succ (by simpa only [List.length_cons] using hn)) (by simp; omega) R e0
  rw [ycwy,ya4y h,cond_true,ydsy h,yePy h,room1 out x.f_Call 16 (show out.length≤1000000 by omega) (by omega),yaAy (show i < 4611686018427387904 by omega),List.map_cons]
  refine Eq.trans ih ?_
  rw [List.append_assoc]; rfl
theorem yCJy {l:List G_Spot} (hl:l.length≤1000000) (R:Type) (k:List G_Spot→Option R):z88z l k = k l:=yr7y l hl (by omega) k
theorem yz1y {l:List G_Spot} (hl:l.length≤20) (h:Int) (down:Bool) (R:Type) (k:List (List UInt8)→Option R):band_way l h down k = k ((sortI (cmpW h down) l).map (·.f_Call)):=by
 have e:=ymky (sortI (cmpW h down) l) (by rw [ybFy]; omega) (sortI (cmpW h down) l) NN 0 [] rfl (by rw [ybFy]; have:=NN_ok; omega) (by simp) R k
 show (z88z l fun r4=>_) = _
 rw [yCJy (by omega)]
 refine (yHRy hl h down R _).trans ?_
 rw [List.nil_append] at e
 exact e
def yaxy (h:Int) (p:Int×Int) (s:G_Spot):Int×Int:=(if (w64 (h - s.f_Hertz)) > p.1 then (w64 (h - s.f_Hertz)) else p.1,if (w64 (s.f_Hertz - h)) > p.2 then (w64 (s.f_Hertz - h)) else p.2)
theorem yiGy (h:Int) (d:List G_Spot) (hl:d.length≤100000):∀ (xs:List G_Spot) (n i:Nat) (p:Int×Int),d.drop i = xs→xs.length < n→∀ (R:Type) (e0:Int→Int→Int→List G_Spot→Option R),
  ybzy ybsy n h p.1 p.2 (d.length:Int) (i:Int) d e0 = e0 h (xs.foldl (yaxy h) p).1 (xs.foldl (yaxy h) p).2 d
 | _,0,_,_,_,h,_,_=>by omega
 | [],n + 1,i,p,hd,_,R,e0=>by rw [ybzy,ybgy hd]; rfl
 | x :: xs,n + 1,i,p,hd,hn,R,e0=>by
  have h':=yamy hd
  have ih:=yiGy h d hl xs n (i + 1) (yaxy h p x) h'.2.2.1 (Nat.lt_of_succ_lt_succ (by simpa only [List.length_cons] using hn)) R e0
  rw [ybzy,ya4y hd,cond_true,ydsy hd,yePy hd,yaAy (show i < 4611686018427387904 by omega)]
  exact ih
def yaZy (h:Int) (l:List G_Spot):Int×Int:=l.foldl (yaxy h) (0,0)
def downS (h:Int) (l:List G_Spot):Int:=bif (yaZy h l).2 == 0 then (yaZy h l).1 else w64 (w64 (2 * (yaZy h l).1) + (yaZy h l).2)
def upS (h:Int) (l:List G_Spot):Int:=bif (yaZy h l).1 == 0 then (yaZy h l).2 else w64 (w64 (2 * (yaZy h l).2) + (yaZy h l).1)
def ybEy (h:Int) (l:List G_Spot):List (List UInt8)×Int:=bif decide (downS h l≤upS h l) then ((sortI (cmpW h true) l).map (·.f_Call),downS h l) else ((sortI (cmpW h false) l).map (·.f_Call),upS h l)
theorem yu4y {b:List G_Band} {l:List G_Spot} (hb:∀ c ∈ b,FineB c) (hl:∀ c ∈ l,FineS c) (h1:b.length≤100000) (h2:l.length≤20) (life at0 hertz:Int) (R:Type) (k:List (List UInt8)→Int→Int→Option R) :
  band_Sweep b l life at0 hertz k = bif orL [ybny b,ybpy l,bif lifeB life at0 && inB hertz 0 30000000000 then 0 else 1] != 0 then k [] 0 (orL [ybny b,ybpy l,bif lifeB life at0 && inB hertz 0 30000000000 then 0 else 1]) else k (ybEy hertz (yagy b life at0 l)).1 (ybEy hertz (yagy b life at0 l)).2 0:=by
 simp only [band_Sweep,yjgy,ybsy,z57z_is hb hl h1 (show l.length≤100000 by omega),z56z_is,orL]
 cases q1:ybny b != 0 with
 | true=>simp only [cond_true,q1]
 | false =>
  simp only [cond_false]
  cases q2:ybpy l != 0 with
  | true=>simp only [cond_true,q2]
  | false =>
   simp only [cond_false,bne_self_eq_false]
   cases q3:lifeB life at0 with
   | false=>rfl
   | true =>
    cases q4:inB hertz 0 30000000000 with
    | false=>rfl
    | true =>
     obtain ⟨a1,a2⟩:=ylny q3
     have hle:=yfZy b life at0 l
     have hL:∀ (R:Type) (e0:Int→Int→Int→List G_Spot→Option R),ybzy ybsy NN hertz 0 0 ((yagy b life at0 l).length:Int) 0 (yagy b life at0 l) e0 = e0 hertz (yaZy hertz (yagy b life at0 l)).1 (yaZy hertz (yagy b life at0 l)).2 (yagy b life at0 l):=fun R e0 =>
      yiGy hertz (yagy b life at0 l) (by omega) (yagy b life at0 l) NN 0 (0,0) rfl (by have:=NN_ok; omega) R e0
     simp only [ybsy] at hL
     simp only [cond_true,Bool.and_self,bne_self_eq_false,cond_false,yeey h1 (life:=life) (at0:=at0) ⟨by omega,by omega⟩ ⟨by omega,by omega⟩ (show l.length≤1000 by omega),hL,yz1y (show (yagy b life at0 l).length≤20 by omega)]
     cases hc:(yaZy hertz (yagy b life at0 l)).2 == 0 <;> cases ha:(yaZy hertz (yagy b life at0 l)).1 == 0 <;> simp only [cond_true,cond_false] <;> unfold ybEy downS upS <;> rw [hc,ha] <;> simp only [cond_true,cond_false]
     ·cases decide (w64 (w64 (2 * (yaZy hertz (yagy b life at0 l)).1) + (yaZy hertz (yagy b life at0 l)).2)≤w64 (w64 (2 * (yaZy hertz (yagy b life at0 l)).2) + (yaZy hertz (yagy b life at0 l)).1)) <;> rfl
     ·cases decide (w64 (w64 (2 * (yaZy hertz (yagy b life at0 l)).1) + (yaZy hertz (yagy b life at0 l)).2)≤(yaZy hertz (yagy b life at0 l)).2) <;> rfl
     ·cases decide ((yaZy hertz (yagy b life at0 l)).1≤w64 (w64 (2 * (yaZy hertz (yagy b life at0 l)).2) + (yaZy hertz (yagy b life at0 l)).1)) <;> rfl
     ·cases decide ((yaZy hertz (yagy b life at0 l)).1≤(yaZy hertz (yagy b life at0 l)).2) <;> rfl
theorem z32z_loop (m:Nat) (hm:m≤20):∀ (n i:Nat) (s:G_Stream) (b:Int),5 - i < n→SOk (b + 20 * (m:Int) * (i:Int)) s→i≤5→b≤1000 →
  (∃ (r:List G_Spot) (s':G_Stream),SOk (b + 2000) s'∧r.length≤m∧(∀ c ∈ r,FineS c)∧ybpy r = 0∧∀ (R:Type) (e0:G_Stream→List G_Spot→Option R) (e1:G_Stream→Option R),z32z_L2 yc6y n (m:Int) (i:Int) s e0 e1 = e0 s' r) ∨
  ∃ s':G_Stream,SOk (b + 2000) s'∧∀ (R:Type) (e0:G_Stream→List G_Spot→Option R) (e1:G_Stream→Option R),z32z_L2 yc6y n (m:Int) (i:Int) s e0 e1 = e1 s'
 | 0,i,_,_,h,_,_,_=>by omega
 | n + 1,i,s,b,h,hs,hi,hb=>by
  have hmi:20 * (m:Int) * (i:Int)≤2000:=by
   have:(i:Int) = 0 ∨ (i:Int) = 1 ∨ (i:Int) = 2 ∨ (i:Int) = 3 ∨ (i:Int) = 4 ∨ (i:Int) = 5:=by omega
   rcases this with e | e | e | e | e | e <;> rw [e] <;> omega
  by_cases hc:i < 5
  ·obtain ⟨r,s1,z1,hr,hf,e1⟩:=z52z_gives hs (by omega) m hm
   have z1':SOk (b + 20 * (m:Int) * ((i + 1:Nat):Int)) s1:=z1.mono (by
    have:(i:Int) = 0 ∨ (i:Int) = 1 ∨ (i:Int) = 2 ∨ (i:Int) = 3 ∨ (i:Int) = 4:=by omega
    push_cast
    rcases this with e | e | e | e | e <;> rw [e] <;> omega)
   have hmi1:20 * (m:Int) * ((i + 1:Nat):Int)≤2000:=by
    have:(i:Int) = 0 ∨ (i:Int) = 1 ∨ (i:Int) = 2 ∨ (i:Int) = 3 ∨ (i:Int) = 4:=by omega
    push_cast
    rcases this with e | e | e | e | e <;> rw [e] <;> omega
   have hq:=fun (R:Type) (k:Int→Option R)=>z54z_is hf (show r.length≤100000 by omega) R k
   cases h0:ybpy r == 0 with
   | true =>
    refine .inl ⟨r,s1,z1'.mono (by omega),hr,hf,by simpa using h0,fun R e0 e1'=>?_⟩
    rw [z32z_L2]
    simp only [yc6y,decide_eq_true (show (i:Int) < 5 by omega),cond_true,e1,hq,h0]
   | false =>
    have unf:∀ (R:Type) (e0:G_Stream→List G_Spot→Option R) (e1:G_Stream→Option R),z32z_L2 yc6y (n + 1) (m:Int) (i:Int) s e0 e1 = z32z_L2 yc6y n (m:Int) ((i + 1:Nat):Int) s1 e0 e1:=fun R e0 e1'=>by
     rw [z32z_L2]
     simp only [yc6y,decide_eq_true (show (i:Int) < 5 by omega),cond_true,e1,hq,h0,cond_false]
     rw [yaAy (by omega)]
    rcases z32z_loop m hm n (i + 1) s1 b (by omega) z1' (by omega) hb with ⟨r',s',g1,g2,g3,g4,g5⟩ | ⟨s',g1,g2⟩
    ·exact .inl ⟨r',s',g1,g2,g3,g4,fun R e0 e1'=>by rw [unf,g5]⟩
    ·exact .inr ⟨s',g1,fun R e0 e1'=>by rw [unf,g2]⟩
  ·refine .inr ⟨s,hs.mono (by omega),fun R e0 e1=>?_⟩
   rw [z32z_L2,decide_eq_false (by omega)]; rfl
theorem z32z_gives {b:Int} {s:G_Stream} (hs:SOk b s) (hb:b≤1000) (m:Nat) (hm:m≤20) :
  ∃ (r:List G_Spot) (s':G_Stream),SOk (b + 2000) s'∧r.length≤m∧(∀ c ∈ r,FineS c)∧ybpy r = 0∧∀ (R:Type) (k:List G_Spot→G_Stream→Option R),z32z s (m:Int) k = k r s':=by
 rcases z32z_loop m hm NN 0 s b (by have:=NN_ok; omega) (hs.mono (by omega)) (by omega) hb with ⟨r,s',g1,g2,g3,g4,g5⟩ | ⟨s',g1,g2⟩
 ·exact ⟨r,s',g1,g2,g3,g4,fun R k=>g5 R _ _⟩
 ·exact ⟨[],s',g1,by simp,fun c h=>(by cases h),rfl,fun R k=>g2 R _ _⟩
end Go.Am
