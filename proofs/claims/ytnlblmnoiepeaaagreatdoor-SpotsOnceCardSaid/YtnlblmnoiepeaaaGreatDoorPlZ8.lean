/- The plain law, in Lean alone: Z8, Z9, ZA, ZB. No condition: lemmas for the claim. -/
import Derived.Test.YtnlblmnoiepeaaaGreatDoorPlZ4
import Derived.Test.YtnlblmnoiepeaaaGreatDoorPlD1
import Derived.Test.YtnlblmnoiepeaaaGreatDoorPlS1
import Derived.Test.YtnlblmnoiepeaaaGreatDoorPlR4
import Derived.Test.YtnlblmnoiepeaaaGreatDoorPlB4
set_option linter.unusedVariables false
set_option linter.unusedSectionVars false
set_option linter.unusedSimpArgs false
set_option maxRecDepth 100000
namespace Go.Am
open Go Go.Proofs
variable [Fuel]
section
variable {c:List G_Contact} {at0 mode:Int} {b:List G_Band} {p:G_Spot→Bool} {S:G_Spot→Prop}
end
def cmpF (h:Int) (x y:G_Spot):Int:=w64 (farW h x - farW h y)
theorem yMEy (g:C_z3z):@z3z_ g = @sInsZ G_Spot Int g.N g.z58z:=by kernel_rfl
theorem yJCy (g:C_z2z):@z2z_ g = @sStaS G_Spot Int g.N g.z3z:=by kernel_rfl
theorem yHzy {l:List G_Spot} (hl:l.length≤20) (h:Int) (R:Type) (k:List G_Spot→Int→Option R):z18z l h k = k (sortI (cmpF h) l) h:=by
 simp only [z18z,z18z_,yx1y]
 show z2z_ I_z2z l (l.length:Int) h _ = _
 rw [yJCy]
 exact yziy (N:=NN) (cmpF h) (fun _=>True) h l (fun _ _=>trivial) hl (by have:=NN_ok; omega) (by have:=NN_ok; omega) _ (fun l a b R k hl=>by
  show z3z_ I_z3z l a b h _ = _
  rw [yMEy]
  exact yG8y (c:=cmpF h) (S:=fun _=>True) (fun x y _ _ R k=>rfl) NN hl R k) k
end Go.Am
set_option linter.unusedVariables false
set_option linter.unusedSectionVars false
set_option linter.unusedSimpArgs false
set_option maxRecDepth 100000
namespace Go.Am
open Go Go.Proofs
variable [Fuel]
section
variable {h way first:Int}
end
abbrev InM (x:Int):Prop:=0≤x∧x≤30000000000
theorem yyxy (h:Int) (hh:InM h):∀ (l:List G_Spot) (p:Int×Int),(∀ s ∈ l,InM s.f_Hertz)→InM p.1→InM p.2 →
  (InM (l.foldl (yaxy h) p).1∧InM (l.foldl (yaxy h) p).2)∧(p.1≤(l.foldl (yaxy h) p).1∧p.2≤(l.foldl (yaxy h) p).2)∧(∀ s ∈ l,h - s.f_Hertz≤(l.foldl (yaxy h) p).1∧s.f_Hertz - h≤(l.foldl (yaxy h) p).2)∧((l.foldl (yaxy h) p).1 = p.1 ∨ ∃ s ∈ l,(l.foldl (yaxy h) p).1 = h - s.f_Hertz)∧((l.foldl (yaxy h) p).2 = p.2 ∨ ∃ s ∈ l,(l.foldl (yaxy h) p).2 = s.f_Hertz - h)
 | [],p,_,h1,h2=>⟨⟨h1,h2⟩,⟨Int.le_refl _,Int.le_refl _⟩,fun s h=>(by cases h),.inl rfl,.inl rfl⟩
 | s :: ss,p,hm,h1,h2=>by
  have hs:=hm s (by simp)
  have hr:yaxy h p s = (if h - s.f_Hertz > p.1 then h - s.f_Hertz else p.1,if s.f_Hertz - h > p.2 then s.f_Hertz - h else p.2):=by
   unfold yaxy
   rw [yaqy (x:=h - s.f_Hertz) (by omega) (by omega),yaqy (x:=s.f_Hertz - h) (by omega) (by omega)]
  have hr1:InM (yaxy h p s).1∧p.1≤(yaxy h p s).1∧h - s.f_Hertz≤(yaxy h p s).1∧((yaxy h p s).1 = p.1 ∨ (yaxy h p s).1 = h - s.f_Hertz):=by
   rw [hr]
   simp only
   split
   ·exact ⟨⟨by omega,by omega⟩,by omega,by omega,.inr rfl⟩
   ·exact ⟨h1,by omega,by omega,.inl rfl⟩
  have hr2:InM (yaxy h p s).2∧p.2≤(yaxy h p s).2∧s.f_Hertz - h≤(yaxy h p s).2∧((yaxy h p s).2 = p.2 ∨ (yaxy h p s).2 = s.f_Hertz - h):=by
   rw [hr]
   simp only
   split
   ·exact ⟨⟨by omega,by omega⟩,by omega,by omega,.inr rfl⟩
   ·exact ⟨h2,by omega,by omega,.inl rfl⟩
  obtain ⟨g1,g2,g3,g4,g5⟩:=yyxy h hh ss (yaxy h p s) (fun x hx=>hm x (by simp [hx])) hr1.1 hr2.1
  rw [List.foldl_cons]
  refine ⟨g1,⟨by omega,by omega⟩,fun x hx=>?_,?_,?_⟩
  ·rcases List.mem_cons.1 hx with rfl | hx
   ·exact ⟨by omega,by omega⟩
   ·exact g3 x hx
  ·rcases g4 with g4 | ⟨x,hx,g4⟩
   ·rcases hr1.2.2.2 with e | e
    ·exact .inl (by rw [g4,e])
    ·exact .inr ⟨s,by simp,by rw [g4,e]⟩
   ·exact .inr ⟨x,by simp [hx],g4⟩
  ·rcases g5 with g5 | ⟨x,hx,g5⟩
   ·rcases hr2.2.2.2 with e | e
    ·exact .inl (by rw [g5,e])
    ·exact .inr ⟨s,by simp,by rw [g5,e]⟩
   ·exact .inr ⟨x,by simp [hx],g5⟩
end Go.Am
set_option linter.unusedVariables false
set_option linter.unusedSectionVars false
set_option linter.unusedSimpArgs false
set_option maxRecDepth 100000
namespace Go.Am
open Go Go.Proofs
variable [Fuel]
theorem ypcy:∀ (l:List G_Spot) (p:Option G_Spot),yb9y p l = 0→∀ c ∈ l,chkS c = 0
 | [],_,_,c,h=>by cases h
 | x :: xs,p,h,c,hc=>by
  unfold yb9y at h
  cases hq:chkS x != 0 with
  | true=>rw [hq] at h; simp only [cond_true] at h; rw [h] at hq; cases hq
  | false =>
   rw [hq] at h
   simp only [cond_false] at h
   have h0:chkS x = 0:=by simpa using hq
   have h2:yb9y (some x) xs = 0:=by
    cases p with
    | none=>exact h
    | some q =>
     simp only at h
     cases hd:decide (cmpSp q x ≥ 0) with
     | true=>rw [hd] at h; simp only [cond_true] at h; omega
     | false=>rw [hd] at h; exact h
   rcases List.mem_cons.1 hc with rfl | hc
   ·exact h0
   ·exact ypcy xs (some x) h2 c hc
theorem yDly {l:List G_Spot} (h:ybpy l = 0):∀ c ∈ l,InM c.f_Hertz:=fun c hc=>by
 unfold ybpy at h
 have h2:yb9y none l = 0:=by
  cases hd:decide ((l.length:Int) > 2000) with
  | true=>rw [hd] at h; simp only [cond_true] at h; omega
  | false=>rw [hd] at h; exact h
 have h3:=ypcy l none h2 c hc
 unfold chkS at h3
 cases hi:inB c.f_Hertz 0 30000000000 with
 | true=>exact ygOy.1 hi
 | false=>rw [hi] at h3; revert h3; cases momB c.f_At <;> simp
theorem yzty {l:List (List UInt8)} (hl:l.length≤1000000) (R:Type) (k:Bool→Option R):z47z l l k = k true:=by
 rw [yMUy]; exact yAoy (by have:=NN_ok; omega) (by have:=NN_ok; omega) (fun x=>by simp) k
theorem yr9y (h:Int) (l:List G_Spot):(ybEy h l).1.length = l.length:=by
 unfold ybEy
 cases decide (downS h l≤upS h l) <;> simp [ybFy]
end Go.Am
set_option linter.unusedVariables false
set_option linter.unusedSectionVars false
set_option linter.unusedSimpArgs false
set_option maxRecDepth 100000
namespace Go.Am
open Go Go.Proofs
variable [Fuel]
theorem yGNy:ydWy.all (fun x=>(match kit_IsKey x.f_Key some with | some b=>b | none=>false)) = true:=by
 obtain ⟨m,h,rfl⟩:=ya1y ‹Fuel›
 kernel_rfl
theorem keys4:∀ x ∈ ydWy,keyB x.f_Key = true:=fun x hx=>by
 have h:=List.all_eq_true.1 yGNy x hx
 rw [yi7y (ypvy x hx).key] at h
 exact h
def yo2y:Option G_Band→List G_Band→Int
 | _,[]=>0
 | p,x :: xs=>bif badB x then 1 else match p with
  | none=>yo2y (some x) xs
  | some q=>bif decide (x.f_Low < q.f_High) then 7 else yo2y (some x) xs
theorem yuUy:∀ (l:List G_Band) (p:Option G_Band),(∀ x ∈ l,keyB x.f_Key = true)→ybKy p l = yo2y p l
 | [],_,_=>rfl
 | x :: xs,p,h=>by
  unfold ybKy yo2y
  rw [h x (by simp),yuUy xs (some x) (fun y hy=>h y (by simp [hy]))]
  rfl
theorem yxzy {r:List G_Band} (h:r.Sublist ydWy):ybny r = 0:=by
 have hk:∀ x ∈ r,keyB x.f_Key = true:=fun x hx=>keys4 x (h.subset hx)
 unfold ybny
 rw [yuUy r none hk]
 simp only [ydWy,List.sublist_cons_iff,List.sublist_nil] at h
 rcases h with h | ⟨r,rfl,h⟩ <;> rcases h with h | ⟨r,rfl,h⟩ <;> rcases h with h | ⟨r,rfl,h⟩ <;> rcases h with rfl | ⟨r,rfl,rfl⟩ <;> decide +kernel
theorem ymhy {b:List G_Band} (hb:∀ c ∈ b,FineB c) (h1:b.length≤100000) (hr:ybny b = 0) {h:Int} (hh:InM h) (hn:¬ bandI b h < 0) (R:Type) (k:List UInt8→Bool→Int→Option R):log_BandOf b h k = k (bandA b h) true 0:=by
 obtain ⟨j,x,hj,hjx,hA⟩:∃ (j:Nat) (x:G_Band),bandI b h = (j:Int)∧b[j]? = some x∧bandA b h = x.f_Key:=by
  unfold bandI at hn
  unfold bandI bandA
  rcases yfRy (yfGy h) b with ⟨e1,_⟩ | ⟨j,x,e1,e2,e3,e4⟩
  ·rw [e1] at hn; omega
  ·exact ⟨j,x,e1,e2,by rw [e4]; rfl⟩
 simp only [log_BandOf,yi0y,yicy,z9z_is hb h1,hr,bne_self_eq_false,cond_false,z45z_is,ygOy.2 hh,Bool.not_true,yuLy h1,hj,decide_eq_false (show ¬ (j:Int) < 0 by omega),yeCy hjx,hA]
theorem yjsy {α:Type} {cnt:α→Bool} {same:α→α→Bool}:∀ l:List α,(ycOy cnt same l).Pairwise fun a b=>same a b = false
 | []=>List.Pairwise.nil
 | s :: r=>by
  rw [yjfy]
  cases hc:(cnt s && !(r.any fun o=>cnt o && same s o)) with
  | false=>exact yjsy r
  | true =>
   rw [Bool.and_eq_true,Bool.not_eq_true'] at hc
   refine List.pairwise_cons.2 ⟨fun o ho=>?_,yjsy r⟩
   obtain ⟨h1,h2⟩:=ydHy ho
   have:=List.any_eq_false.1 hc.2 o h1
   rw [h2,Bool.true_and] at this
   simpa using this
structure HeardOk (b:List G_Band) (life at0:Int) (d:List G_Spot):Prop where
 fb:∀ c ∈ b,FineB c
 lb:b.length≤100000
 rb:ybny b = 0
 mid:∀ s ∈ d,InM s.f_Hertz
 cnt:∀ s ∈ d,cntS b life at0 s = true
 pair:d.Pairwise fun a b'=>sameS b a b' = false
 len:d.length≤1000
theorem ypmy {b:List G_Band} {life at0:Int} {d:List G_Spot} (H:HeardOk b life at0 d) (v100 v101 v102:Int) (v103:List G_Spot) (v104 v105 v106:Int) (v108:List G_Spot) (v109 v110:Int) (v115 v116:List (List UInt8)) (y:G_Spot) (d':List G_Spot) (hd:∀ z ∈ d',z ∈ d∧sameS b z y = false) (hy:¬ bandI b y.f_Hertz < 0):∀ (xs:List G_Spot) (n i:Nat),d'.drop i = xs→xs.length < n→d'.length≤1000→∀ (R:Type) (e0:Bool→Int→Int→Int→List G_Spot→Int→Int→Int→List G_Spot→Int→Int→List G_Band→List (List UInt8)→List (List UInt8)→G_Spot→Option R) (e1:Int→Int→Int→List G_Spot→Int→Int→Int→List G_Spot→Int→Int→List G_Band→List (List UInt8)→List (List UInt8)→G_Spot→Option R),
  yaYy yaiy n v100 v101 v102 v103 v104 v105 v106 (bandA b y.f_Hertz) v108 v109 v110 d' (d'.length:Int) (i:Int) b v115 v116 y e0 e1 = e1 v100 v101 v102 v103 v104 v105 v106 v108 v109 v110 b v115 v116 y
 | _,0,_,_,h,_,_,_,_=>by omega
 | [],n + 1,i,hx,_,_,R,e0,e1=>by rw [yaYy,ybgy hx]; rfl
 | z :: zs,n + 1,i,hx,hn,hl,R,e0,e1=>by
  have h':=yamy hx
  obtain ⟨hz,hs⟩:=hd z (ybuy hx)
  have hzb:=yiXy (H.cnt z hz)
  have ih:=ypmy H v100 v101 v102 v103 v104 v105 v106 v108 v109 v110 v115 v116 y d' hd hy zs n (i + 1) h'.2.2.1 (Nat.lt_of_succ_lt_succ (by simpa only [List.length_cons] using hn)) hl R e0 e1
  have e:∀ k:List UInt8→Bool→Int→Option R,yaiy.log_BandOf b z.f_Hertz k = k (bandA b z.f_Hertz) true 0:=fun k=>ymhy H.fb H.lb H.rb (H.mid z hz) hzb R k
  have hne:(bandA b z.f_Hertz == bandA b y.f_Hertz && z.f_Call == y.f_Call) = false:=by
   rw [← yH4y H.rb hzb hy]
   cases hq:(bandI b z.f_Hertz == bandI b y.f_Hertz && z.f_Call == y.f_Call) with
   | false=>rfl
   | true =>
    rw [Bool.and_eq_true,beq_iff_eq,beq_iff_eq] at hq
    unfold sameS keyS at hs
    rw [decide_eq_false_iff_not] at hs
    exact absurd (by rw [hq.1,hq.2]) hs
  rw [yaYy,ya4y hx,cond_true,ybJy hx,e,yaAy (show i < 4611686018427387904 by omega)]
  cases h1:bandA b z.f_Hertz == bandA b y.f_Hertz with
  | false=>exact ih
  | true =>
   rw [h1,Bool.true_and] at hne
   rw [hne]
   exact ih
theorem ypuy {b:List G_Band} {life at0 h nn:Int} (hh:InM h) (ha:-1000000000000≤at0∧at0≤1000000000000) (hf:-1000000000000≤life∧life≤1000000000000) {d:List G_Spot} (H:HeardOk b life at0 d) (o:List (List UInt8)):∀ (xs:List G_Spot) (n i:Nat) (p:Int×Int) (out:List (List UInt8)),d.drop i = xs→xs.length < n→InM p.1→InM p.2→out.length≤i→∀ (R:Type) (e0:Bool→Int→Int→Int→Int→List (List UInt8)→List (List UInt8)→Option R) (e1:Int→Int→Int→Int→List (List UInt8)→List (List UInt8)→Option R),
  ybjy yaiy n life at0 h d nn (h - p.1) (h + p.2) d (d.length:Int) (i:Int) b o out e0 e1 = e1 h nn (h - (xs.foldl (yaxy h) p).1) (h + (xs.foldl (yaxy h) p).2) o (out ++ xs.map (·.f_Call))
 | _,0,_,_,_,_,hn,_,_,_,_,_,_=>by omega
 | [],n + 1,i,p,out,hx,_,_,_,_,R,e0,e1=>by rw [ybjy,ybgy hx,List.map_nil,List.append_nil]; rfl
 | y :: ys,n + 1,i,p,out,hx,hn,hp1,hp2,ho,R,e0,e1=>by
  have h':=yamy hx
  have hyd:=ybuy hx
  have hym:=H.mid y hyd
  have hyc:=H.cnt y hyd
  have hyb:=yiXy hyc
  have hlen:=H.len
  have hr:yaxy h p y = (if h - y.f_Hertz > p.1 then h - y.f_Hertz else p.1,if y.f_Hertz - h > p.2 then y.f_Hertz - h else p.2):=by
   unfold yaxy
   rw [yaqy (x:=h - y.f_Hertz) (by omega) (by omega),yaqy (x:=y.f_Hertz - h) (by omega) (by omega)]
  have hr1:InM (yaxy h p y).1:=by rw [hr]; simp only; split <;> (constructor <;> omega)
  have hr2:InM (yaxy h p y).2:=by rw [hr]; simp only; split <;> (constructor <;> omega)
  have hlow:(if y.f_Hertz < h - p.1 then y.f_Hertz else h - p.1) = h - (yaxy h p y).1:=by rw [hr]; simp only; split <;> split <;> omega
  have hhigh:(if y.f_Hertz > h + p.2 then y.f_Hertz else h + p.2) = h + (yaxy h p y).2:=by rw [hr]; simp only; split <;> split <;> omega
  have ih:=ypuy (nn:=nn) hh ha hf H o ys n (i + 1) (yaxy h p y) (out ++ [y.f_Call]) h'.2.2.1 (Nat.lt_of_succ_lt_succ (by simpa only [List.length_cons] using hn)) hr1 hr2 (by simp; omega) R e0 e1
  have e:∀ k:List UInt8→Bool→Int→Option R,yaiy.log_BandOf b y.f_Hertz k = k (bandA b y.f_Hertz) true 0:=fun k=>ymhy H.fb H.lb H.rb hym hyb R k
  have hne:(bandA b y.f_Hertz == []) = false:=by rw [← yDXy H.rb,decide_eq_false hyb]
  have hc2:=hyc
  unfold cntS at hc2
  rw [Bool.and_eq_true,Bool.and_eq_true,decide_eq_true_eq,decide_eq_true_eq] at hc2
  have hd:∀ z ∈ d.take i,z ∈ d∧sameS b z y = false:=fun z hz=>by
   refine ⟨List.mem_of_mem_take hz,?_⟩
   obtain ⟨j,hj,rfl⟩:=List.mem_iff_getElem.1 hz
   rw [List.length_take] at hj
   have hp:=List.pairwise_iff_getElem.1 H.pair j i (by omega) h'.2.1 (by omega)
   obtain ⟨hi,rfl⟩:=List.getElem?_eq_some_iff.1 h'.1
   rw [List.getElem_take]
   exact hp
  rw [ybjy,ya4y hx,cond_true,ybJy hx,e,hne,cond_false,decide_eq_false (show ¬ y.f_At > at0 by omega),cond_false,yaqy (x:=at0 - life) (by omega) (by omega),decide_eq_false (show ¬ y.f_At≤at0 - life by omega),cond_false,decide_eq_true (show (0:Int)≤(i:Int) by omega),decide_eq_true (show (i:Int)≤(d.length:Int) by omega),Bool.and_self,cond_true,Int.toNat_natCast]
  refine (ypmy H life at0 h d nn (h - p.1) (h + p.2) d (d.length:Int) (i:Int) o out y (d.take i) hd hyb (d.take i) yaiy.N 0 rfl (show _ < NN by rw [List.length_take]; have:=NN_ok; omega) (by rw [List.length_take]; omega) R _ _).trans ?_
  rw [room1 out y.f_Call 16 (show out.length≤1000000 by omega) (by omega),cond_true,hlow,hhigh,yaAy (show i < 4611686018427387904 by omega)]
  refine ih.trans ?_
  rw [List.foldl_cons,List.map_cons,List.append_assoc]; rfl
theorem yzFy (R:Type) (k:Int→Option R):z64z k = k 0:=by
 obtain ⟨m,h,rfl⟩:=ya1y ‹Fuel›
 kernel_rfl
theorem ymey (b:List G_Band) (h:Int) (d:List G_Spot) (hd:∀ s ∈ d,FineS s) (hb:∀ s ∈ d,¬ bandI b s.f_Hertz < 0) (hl:d.length≤100000):∀ (xs:List G_Spot) (n i:Nat) (out:List G_Spot),d.drop i = xs→xs.length < n→out.length≤i→∀ (R:Type) (e0:Int→List G_Spot→Option R),
  z30z_L22 ybAy n b (d.length:Int) (i:Int) h [] d (yaIy b d) out e0 = e0 h (out ++ xs)
 | _,0,_,_,_,hn,_,_,_=>by omega
 | [],n + 1,i,out,hx,_,_,R,e0=>by rw [z30z_L22,ybgy hx,List.append_nil]; rfl
 | s :: ss,n + 1,i,out,hx,hn,ho,R,e0=>by
  have h':=yamy hx
  have hs:=hd s (ybuy hx)
  have hbs:=hb s (ybuy hx)
  have hn':ss.length < n:=Nat.lt_of_succ_lt_succ (by simpa only [List.length_cons] using hn)
  have ih:=ymey b h d hd hb hl ss n (i + 1) (out ++ [s]) h'.2.2.1 hn' (by simp; omega) R e0
  have hbi:(yaIy b d)[i]? = some (bandI b s.f_Hertz):=by unfold yaIy; rw [List.getElem?_map,h'.1]; rfl
  have hli:i < (yaIy b d).length:=by unfold yaIy; rw [List.length_map]; exact h'.2.1
  obtain ⟨b0,b1⟩:=yyCy hbs
  obtain ⟨j,hj⟩:∃ j:Nat,bandI b s.f_Hertz = (j:Int):=⟨(bandI b s.f_Hertz).toNat,by omega⟩
  have hjb:j < b.length:=by omega
  have e:∀ k:List UInt8→Option R,ybAy.z85z s.f_Call k = k (baseB s.f_Call):=fun k=>z85z_is hs.call R k
  have hm:∀ w:G_band_worked,(ybfy w []).getD false = false:=fun w=>by rw [yiEy]; rfl
  rw [z30z_L22,ya4y hx,cond_true,ydsy hx,yePy hx,ya6y hli,yaUy hbi,hj,yeCy (List.getElem?_eq_getElem hjb),e,hm,Bool.not_false,cond_true,room1 out s 48 (show out.length≤1000000 by omega) (by omega),cond_true,yaAy (show i < 4611686018427387904 by omega)]
  refine ih.trans ?_
  rw [List.append_assoc]; rfl
theorem yDZy {b:List G_Band} {l:List G_Spot} (hb:∀ c ∈ b,FineB c) (hl:∀ c ∈ l,FineS c) (h1:b.length≤100000) (h2:l.length≤20) (hr:ybny b = 0) (hs:ybpy l = 0) {life at0 h:Int} (hq:lifeB life at0 = true) (hh:InM h) (R:Type) (k:List G_Spot→Int→Option R) :
  z30z b l 1 life at0 h k = k (sortI (cmpF h) (yagy b life at0 l)) 0:=by
 obtain ⟨a1,a2⟩:=ylny hq
 have hle:=yfZy b life at0 l
 obtain ⟨m,e,hm⟩:=yoBy
 have e14:∀ e0:List G_Band→List G_Spot→Int→Int→Int→List (G_band_worked×Bool)→Option R,z30z_L14 ybAy NN b l 1 life at0 0 0 h [] e0 = e0 b l life at0 h []:=fun e0=>by
  rw [show (NN:Nat) = m + 1 from e]; rfl
 have e22:∀ e0:Int→List G_Spot→Option R,z30z_L22 ybAy NN b ((yagy b life at0 l).length:Int) 0 h [] (yagy b life at0 l) (yaIy b (yagy b life at0 l)) [] e0 = e0 h (yagy b life at0 l):=fun e0 =>
  ymey b h (yagy b life at0 l) (fun s hs=>hl s (ydXy hs).1) yCny (by omega) (yagy b life at0 l) NN 0 [] rfl (by have:=NN_ok; omega) (by simp) R e0
 have f1:∀ k:Int→Option R,ybAy.z57z b l k = k 0:=fun k=>by
  show z57z b l k = _
  rw [z57z_is hb hl h1 (by omega),hr,hs]; rfl
 have f2:∀ k:Int→Option R,ybAy.z64z k = k 0:=fun k=>yzFy R k
 have f3:∀ k:Bool→Option R,ybAy.kit_IsMode 1 k = k true:=fun k=>yhuy 1 R k
 have f4:∀ k:Int→Option R,ybAy.z56z life at0 h k = k 0:=fun k=>by
  show z56z life at0 h k = _
  rw [z56z_is,hq,ygOy.2 hh]; rfl
 have f5:∀ k:List G_Spot→List Int→Option R,ybAy.band_heard b l life at0 k = k (yagy b life at0 l) (yaIy b (yagy b life at0 l)):=fun k=>yeey h1 (life:=life) (at0:=at0) ⟨by omega,by omega⟩ ⟨by omega,by omega⟩ (show l.length≤1000 by omega) R k
 have f6:∀ k:List G_Spot→Int→Option R,ybAy.z18z (yagy b life at0 l) h k = k (sortI (cmpF h) (yagy b life at0 l)) h:=fun k=>yHzy (by omega) h R k
 show z30z_ ybAy b l 1 life at0 h k = _
 unfold z30z_
 rw [f1,bne_self_eq_false,cond_false,f2,bne_self_eq_false,cond_false,f3,Bool.not_true,cond_false,f4,bne_self_eq_false,cond_false]
 refine (e14 _).trans ?_
 rw [f5]
 refine (e22 _).trans ?_
 rw [f6]
theorem yGry {x y:List (List UInt8)} (h:x.Perm y):srtS x = srtS y:=by
 have tr:∀ a b c:List UInt8,decide (a≤b) = true→decide (b≤c) = true→decide (a≤c) = true:=fun a b c h1 h2=>by simp only [decide_eq_true_eq] at *; exact List.le_trans h1 h2
 have to:∀ a b:List UInt8,(decide (a≤b) || decide (b≤a)) = true:=fun a b=>by simp only [Bool.or_eq_true,decide_eq_true_eq]; exact List.le_total a b
 have hs:∀ l:List (List UInt8),(srtS l).Pairwise fun a b=>Lib.compareBytes a b≤0:=fun l=>(List.pairwise_mergeSort tr to l).imp fun h=>(cb_le _ _).2 (of_decide_eq_true h)
 refine yDCy yJIy (fun x _ y _ h=>yC9y.1 h) ?_ (hs x) (hs y)
 exact ((List.mergeSort_perm x _).trans h).trans (List.mergeSort_perm y _).symm
theorem yCzy (h:Int) (l:List G_Spot) {x y:Int} (hq:l.foldl (yaxy h) (0,0) = (x,y)) (hx:InM x) (hy:InM y):(ybEy h l).2 = x + y + (if x < y then x else y):=by
 have wd:w64 (w64 (2 * x) + y) = 2 * x + y:=by rw [yaqy (x:=2 * x) (by omega) (by omega),yaqy (by omega) (by omega)]
 have wu:w64 (w64 (2 * y) + x) = 2 * y + x:=by rw [yaqy (x:=2 * y) (by omega) (by omega),yaqy (by omega) (by omega)]
 have hd:downS h l = bif y == 0 then x else 2 * x + y:=by unfold downS yaZy; rw [hq,wd]
 have hu:upS h l = bif x == 0 then y else 2 * y + x:=by unfold upS yaZy; rw [hq,wu]
 unfold ybEy
 by_cases hle:downS h l≤upS h l
 ·rw [decide_eq_true hle,cond_true]
  show downS h l = _
  rw [hd,hu] at hle
  rw [hd]
  revert hle
  cases hyb:y == 0 <;> cases hxb:x == 0 <;> simp only [cond_true,cond_false] <;> intro hle <;> simp only [beq_iff_eq,beq_eq_false_iff_ne,ne_eq] at hyb hxb <;> split <;> omega
 ·rw [decide_eq_false hle,cond_false]
  show upS h l = _
  rw [hd,hu] at hle
  rw [hu]
  revert hle
  cases hyb:y == 0 <;> cases hxb:x == 0 <;> simp only [cond_true,cond_false] <;> intro hle <;> simp only [beq_iff_eq,beq_eq_false_iff_ne,ne_eq] at hyb hxb <;> split <;> omega
theorem keep_SpotsOnce_true (l:List Int) (R:Type) (k:Bool→Option R):keep_SpotsOnce l k = k true:=by
 obtain ⟨b,s1,z1,hb,e1⟩:=z33z_gives (sOk0 l) (by omega)
 obtain ⟨lb,fb⟩:=yDky hb
 have rb:=yxzy hb
 obtain ⟨n,s2,n1,n2,z2,e2⟩:=z71z_gives z1 0 12 (by omega) (by omega) (by omega) (by omega) (by omega)
 obtain ⟨n,rfl⟩:∃ q:Nat,n = (q:Int):=⟨n.toNat,by omega⟩
 obtain ⟨x,s3,z3,lx,hx,fx,e3⟩:=z32z_gives z2 (by omega) n (by omega)
 obtain ⟨life,s4,l1,l2,z4,e4⟩:=z71z_gives z3 1 100 (by omega) (by omega) (by omega) (by omega) (by omega)
 obtain ⟨at0,s5,a1,a2,z5,e5⟩:=z71z_gives z4 0 100 (by omega) (by omega) (by omega) (by omega) (by omega)
 obtain ⟨h,s6,h1,h2,z6,e6⟩:=z71z_gives z5 7000000 14100000 (by omega) (by omega) (by omega) (by omega) (by omega)
 have hh:InM h:=⟨by omega,by omega⟩
 have hq:lifeB life at0 = true:=by
  unfold lifeB momB
  rw [ygOy.2 ⟨by omega,by omega⟩,ygOy.2 ⟨by omega,by omega⟩]; rfl
 have hle:=yfZy b life at0 x
 have hmx:=yDly fx
 have H:HeardOk b life at0 (yagy b life at0 x):=⟨fb,by omega,rb,fun s hs=>hmx s (ydXy hs).1,fun s hs=>(ydXy hs).2,yjsy x,by omega⟩
 have w1:∀ k:List G_Spot→Int→Option R,yaiy.band_Heard b x life at0 k = k (yagy b life at0 x) 0:=fun k=>by
  show band_Heard b x life at0 k = _
  rw [yvuy fb hx (by omega) (by omega),rb,fx,hq]; rfl
 have w2:∀ k:List G_Spot→Int→Option R,yaiy.z30z b x 1 life at0 h k = k (sortI (cmpF h) (yagy b life at0 x)) 0:=fun k=>yDZy fb hx (by omega) (by omega) rb fx hq hh R k
 have w3:∀ k:List (List UInt8)→Int→Int→Option R,yaiy.band_Sweep b x life at0 h k = k (ybEy h (yagy b life at0 x)).1 (ybEy h (yagy b life at0 x)).2 0:=fun k=>by
  show band_Sweep b x life at0 h k = _
  rw [yu4y fb hx (by omega) (by omega),rb,fx,hq,ygOy.2 hh]; rfl
 have w4:∀ k:List G_Pair→Int→Option R,yaiy.z5z b x life at0 k = k (busyB b (yagy b life at0 x)) 0:=fun k=>by
  show z5z b x life at0 k = _
  rw [z5z_is fb hx (by omega) (by omega),rb,fx,hq]; rfl
 have w5:∀ k:Int→Option R,yaiy.keep_errs [0,0,0,0] k = k 0:=fun k=>yBry R k
 have v1:∀ k:List G_Band→G_Stream→Option R,yaiy.z33z ⟨l,0⟩ k = k b s1:=fun k=>e1 R k
 have v2:∀ k:Int→G_Stream→Option R,yaiy.z71z s1 0 12 k = k n s2:=fun k=>e2 R k
 have v3:∀ k:List G_Spot→G_Stream→Option R,yaiy.z32z s2 n k = k x s3:=fun k=>e3 R k
 have v4:∀ k:Int→G_Stream→Option R,yaiy.z71z s3 1 100 k = k life s4:=fun k=>e4 R k
 have v5:∀ k:Int→G_Stream→Option R,yaiy.z71z s4 0 100 k = k at0 s5:=fun k=>e5 R k
 have v6:∀ k:Int→G_Stream→Option R,yaiy.z71z s5 7000000 14100000 k = k h s6:=fun k=>e6 R k
 show ydly yaiy l k = _
 unfold ydly
 rw [v1,v2,v3,v4,v5,v6,w1,w2,w3,w4,w5,bne_self_eq_false,cond_false,ybFy,bne_self_eq_false,cond_false,yr9y,bne_self_eq_false,cond_false]
 have hbu:(busyB b (yagy b life at0 x)).length = b.length:=by unfold busyB; rw [List.length_map,ybFy,yiry]
 rw [hbu,bne_self_eq_false,cond_false]
 have L:=ypuy (nn:=(ybEy h (yagy b life at0 x)).2) hh (at0:=at0) (life:=life) ⟨by omega,by omega⟩ ⟨by omega,by omega⟩ H (ybEy h (yagy b life at0 x)).1 (yagy b life at0 x) NN 0 (0,0) [] rfl (by have:=NN_ok; omega) ⟨by decide,by decide⟩ ⟨by decide,by decide⟩ (by simp) R
 simp only [Int.sub_zero,Int.add_zero,List.nil_append] at L
 refine (L _ _).trans ?_
 have hperm:((yagy b life at0 x).map (·.f_Call)).Perm (ybEy h (yagy b life at0 x)).1:=by
  unfold ybEy
  cases decide (downS h (yagy b life at0 x)≤upS h (yagy b life at0 x)) <;> exact ((ykEy _ _).map _).symm
 have lsw:=yr9y h (yagy b life at0 x)
 have c1:∀ k:List (List UInt8)→Option R,yaiy.z82z (ybEy h (yagy b life at0 x)).1 k = k (ybEy h (yagy b life at0 x)).1:=fun k=>yr7y _ (by omega) (by omega) k
 have c2:∀ k:List (List UInt8)→Option R,yaiy.z78z ((yagy b life at0 x).map (·.f_Call)) k = k (srtS ((yagy b life at0 x).map (·.f_Call))):=fun k=>yrOy (by rw [List.length_map]; omega) k
 have c3:∀ k:List (List UInt8)→Option R,yaiy.z78z (ybEy h (yagy b life at0 x)).1 k = k (srtS (ybEy h (yagy b life at0 x)).1):=fun k=>yrOy (by omega) k
 have c4:∀ k:Bool→Option R,yaiy.z47z (srtS (ybEy h (yagy b life at0 x)).1) (srtS (ybEy h (yagy b life at0 x)).1) k = k true:=fun k=>yzty (by unfold srtS; rw [List.length_mergeSort]; omega) R k
 have c5:∀ k:Bool→Option R,yaiy.keep_ready k = k true:=fun k=>yvxy R k
 rw [c1,c2,c3,yGry hperm,c4,cond_true]
 obtain ⟨⟨r1,r2⟩,_,_,_,_⟩:=yyxy h hh (yagy b life at0 x) (0,0) H.mid ⟨by decide,by decide⟩ ⟨by decide,by decide⟩
 cases hfo:(yagy b life at0 x).foldl (yaxy h) (0,0) with
 | mk u v =>
  rw [hfo] at r1 r2
  simp only at r1 r2 ⊢
  rw [yaqy (x:=h + v - (h - u)) (by omega) (by omega),yaqy (x:=h - (h - u)) (by omega) (by omega),yaqy (x:=h + v - h) (by omega) (by omega),yCzy h _ hfo r1 r2]
  have hn:(u + v + (if u < v then u else v)) = w64 (h + v - (h - u) + (if h - (h - u) < h + v - h then h - (h - u) else h + v - h)):=by
   rw [yaqy (by split <;> omega) (by split <;> omega)]
   split <;> split <;> omega
  rw [← hn,beq_self_eq_true,cond_true,c5]
end Go.Am
