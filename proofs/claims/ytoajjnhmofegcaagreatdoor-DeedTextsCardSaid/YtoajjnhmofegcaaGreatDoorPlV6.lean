/- The plain law, in Lean alone: V6, V7, V8, V9, W1, W2, W3, W4, W5. No condition: lemmas for the claim. -/
import Derived.Test.YtoajjnhmofegcaaGreatDoorPlV1
import Derived.Test.YtoajjnhmofegcaaGreatDoorPlH1
import Derived.Test.YtoajjnhmofegcaaGreatDoorPlB1
import Derived.Test.YtoajjnhmofegcaaGreatDoorPlS1
set_option linter.unusedVariables false
set_option linter.unusedSectionVars false
set_option linter.unusedSimpArgs false
set_option maxRecDepth 100000
namespace Go.Am
open Go Go.Proofs
variable [Fuel]
noncomputable def fD (x:G_Deed):Int:=(z49z x some).getD 0
theorem z49z_is {x:G_Deed} (h:FineD x) (R:Type) (k:Int→Option R):z49z x k = k (fD x):=by
 obtain ⟨e,he⟩:=z49z_gives h
 rw [he]
 unfold fD
 rw [he];rfl
theorem yr0y {x:G_Deed} (h:FineD x) (h0:fD x = 0):(∀ (R:Type) (k:Int→Option R),net_formed x k = k 0)∧(x.f_Kind = 1→chk x.f_Contact = 0):=by
 have hq:z49z x some = some 0:=by rw [z49z_is h,h0]
 have f1:=fun (R:Type) (k:Bool→Option R)=>ydZy h.site R k
 have f2:=fun (R:Type) (k:Bool→Option R)=>ydZy h.band R k
 have f3:=fun (R:Type) (k:Bool→Option R)=>ydZy h.of1 R k
 have f4:=fun (R:Type) (k:Int→Option R)=>z58z_is h.con R k
 have p1:=fun (R:Type) (k:Bool→Option R)=>ydsy h.site R k
 have p2:=fun (R:Type) (k:Bool→Option R)=>ydsy h.band R k
 have p3:=fun (R:Type) (k:Bool→Option R)=>ydsy h.of1 R k
 have p4:=fun (R:Type) (k:Int→Option R)=>z52z_is h.con R k
 simp only [z49z,z49z_,yicy,f1,f2,f3,f4,ye5y,ycEy] at hq
 have hF:∀ (R:Type) (k:Int→Option R),net_formed x k = bif !keyB x.f_Site then k 5 else bif !inB x.f_No 1 1000000 then k 1 else bif !momB x.f_At then k 1 else bif !inB x.f_Kind 1 5 then k 4 else z23z x (fun r6=>bif r6 != 0 then k r6 else net_idle x (fun r7=>bif !r7 then k 3 else k 0)):=fun R k=>by
  simp only [net_formed,ycDy,ybuy,p1,z39z_is,z55z_is]
 cases a1:keyB x.f_Site with
 | false=>rw [a1] at hq;simp at hq
 | true =>
  cases a2:inB x.f_No 1 1000000 with
  | false=>rw [a1,a2] at hq;simp at hq
  | true =>
   cases a3:momB x.f_At with
   | false=>rw [a1,a2,a3] at hq;simp at hq
   | true =>
    cases a4:inB x.f_Kind 1 5 with
    | false=>rw [a1,a2,a3,a4] at hq;simp at hq
    | true =>
     rw [a1,a2,a3,a4] at hq
     simp only [Bool.not_true,cond_false] at hq
     have hk:=yczy.1 a4
     have hk5:x.f_Kind = 1 ∨ x.f_Kind = 2 ∨ x.f_Kind = 3 ∨ x.f_Kind = 4 ∨ x.f_Kind = 5:=by omega
     have hF2:∀ (R:Type) (k:Int→Option R),net_formed x k = z23z x (fun r6=>bif r6 != 0 then k r6 else net_idle x (fun r7=>bif !r7 then k 3 else k 0)):=fun R k=>by
      rw [hF,a1,a2,a3,a4];rfl
     rcases hk5 with e | e | e | e | e
     ·simp only [e,beq_self_eq_true,cond_true] at hq
      cases b1:chk x.f_Contact != 0 with
      | true=>rw [b1] at hq;simp at hq;rw [hq] at b1;cases b1
      | false =>
       cases b2:decide (x.f_Contact.f_At > x.f_At) with
       | true=>rw [b1,b2] at hq;simp at hq
       | false =>
        rw [b1,b2] at hq
        simp only [cond_false] at hq
        cases b3:yaoy x ⟨x.f_Site,x.f_No,x.f_At,1,x.f_Contact,[],[],0⟩ with
        | false=>rw [b3] at hq;simp at hq
        | true =>
         have hx:=(ycOy _ _).1 b3
         have c1:x.f_Band = []:=by rw [hx]
         have c2:x.f_Of = []:=by rw [hx]
         have c3:x.f_Other = 0:=by rw [hx]
         refine ⟨fun R k=>?_,fun _=>by simpa using b1⟩
         rw [hF2]
         simp only [z23z,z23z_,ya6y,z69z,z69z_,yity,p4,e,beq_self_eq_true,cond_true,b1,b2,cond_false,bne_self_eq_false,net_idle,yawy,c1,c2,c3]
         rfl
     ·simp only [e,show ((2:Int) == 1) = false from rfl,beq_self_eq_true,cond_true,cond_false] at hq
      cases b1:keyB x.f_Band with
      | false=>rw [b1] at hq;simp at hq
      | true =>
       rw [b1] at hq
       simp only [Bool.not_true,cond_false] at hq
       cases b3:yaoy x ⟨x.f_Site,x.f_No,x.f_At,2,⟨0,0,[],[],0,0,[],[]⟩,x.f_Band,[],0⟩ with
       | false=>rw [b3] at hq;simp at hq
       | true =>
        have hx:=(ycOy _ _).1 b3
        have c1:x.f_Contact = ⟨0,0,[],[],0,0,[],[]⟩:=by rw [hx]
        have c2:x.f_Of = []:=by rw [hx]
        have c3:x.f_Other = 0:=by rw [hx]
        refine ⟨fun R k=>?_,fun h=>by omega⟩
        rw [hF2]
        simp only [z23z,z23z_,ya6y,p2,e,show ((2:Int) == 1) = false from rfl,beq_self_eq_true,cond_true,b1,cond_false,Bool.not_true,bne_self_eq_false,net_idle,yawy,c1,c2,c3]
        rfl
     ·simp only [e,show ((3:Int) == 1) = false from rfl,show ((3:Int) == 2) = false from rfl,show ((3:Int) == 5) = false from rfl,cond_false] at hq
      cases b1:inB x.f_Contact.f_Sent 1 99999 with
      | false=>rw [b1] at hq;simp at hq
      | true =>
       rw [b1] at hq
       simp only [Bool.not_true,cond_false] at hq
       cases b3:yaoy x ⟨x.f_Site,x.f_No,x.f_At,3,⟨0,0,[],[],x.f_Contact.f_Sent,0,[],[]⟩,[],[],0⟩ with
       | false=>rw [b3] at hq;simp at hq
       | true =>
        have hx:=(ycOy _ _).1 b3
        have c1:x.f_Contact = ⟨0,0,[],[],x.f_Contact.f_Sent,0,[],[]⟩:=congrArg G_Deed.f_Contact hx
        have c2:x.f_Of = []:=congrArg G_Deed.f_Of hx
        have c3:x.f_Other = 0:=congrArg G_Deed.f_Other hx
        have c4:x.f_Band = []:=congrArg G_Deed.f_Band hx
        have c5:yaky x.f_Contact ⟨0,0,[],[],x.f_Contact.f_Sent,0,[],[]⟩ = true:=(yb7y _ _).2 c1
        refine ⟨fun R k=>?_,fun h=>by omega⟩
        rw [hF2]
        simp only [z23z,z23z_,ya6y,e,show ((3:Int) == 1) = false from rfl,show ((3:Int) == 2) = false from rfl,show ((3:Int) == 5) = false from rfl,beq_self_eq_true,cond_true,z39z_is,b1,cond_false,Bool.not_true,bne_self_eq_false,net_idle,yawy,c2,c3,c4,c5]
     ·simp only [e,show ((4:Int) == 1) = false from rfl,show ((4:Int) == 2) = false from rfl,show ((4:Int) == 5) = false from rfl,cond_false] at hq
      cases b1:inB x.f_Contact.f_Sent 1 99999 with
      | false=>rw [b1] at hq;simp at hq
      | true =>
       rw [b1] at hq
       simp only [Bool.not_true,cond_false] at hq
       cases b3:yaoy x ⟨x.f_Site,x.f_No,x.f_At,4,⟨0,0,[],[],x.f_Contact.f_Sent,0,[],[]⟩,[],[],0⟩ with
       | false=>rw [b3] at hq;simp at hq
       | true =>
        have hx:=(ycOy _ _).1 b3
        have c1:x.f_Contact = ⟨0,0,[],[],x.f_Contact.f_Sent,0,[],[]⟩:=congrArg G_Deed.f_Contact hx
        have c2:x.f_Of = []:=congrArg G_Deed.f_Of hx
        have c3:x.f_Other = 0:=congrArg G_Deed.f_Other hx
        have c4:x.f_Band = []:=congrArg G_Deed.f_Band hx
        have c5:yaky x.f_Contact ⟨0,0,[],[],x.f_Contact.f_Sent,0,[],[]⟩ = true:=(yb7y _ _).2 c1
        refine ⟨fun R k=>?_,fun h=>by omega⟩
        rw [hF2]
        simp only [z23z,z23z_,ya6y,e,show ((4:Int) == 1) = false from rfl,show ((4:Int) == 2) = false from rfl,show ((4:Int) == 3) = false from rfl,show ((4:Int) == 5) = false from rfl,beq_self_eq_true,cond_true,z39z_is,b1,cond_false,Bool.not_true,bne_self_eq_false,net_idle,yawy,c2,c3,c4,c5]
     ·simp only [e,show ((5:Int) == 1) = false from rfl,show ((5:Int) == 2) = false from rfl,beq_self_eq_true,cond_true,cond_false] at hq
      cases b1:keyB x.f_Of with
      | false=>rw [b1] at hq;simp at hq
      | true =>
       cases b2:inB x.f_Other 1 1000000 with
       | false=>rw [b1,b2] at hq;simp at hq
       | true =>
        rw [b1,b2] at hq
        simp only [Bool.not_true,cond_false] at hq
        cases b3:yaoy x ⟨x.f_Site,x.f_No,x.f_At,5,⟨0,0,[],[],0,0,[],[]⟩,[],x.f_Of,x.f_Other⟩ with
        | false=>rw [b3] at hq;simp at hq
        | true =>
         have hx:=(ycOy _ _).1 b3
         have c1:x.f_Contact = ⟨0,0,[],[],0,0,[],[]⟩:=congrArg G_Deed.f_Contact hx
         have c4:x.f_Band = []:=congrArg G_Deed.f_Band hx
         refine ⟨fun R k=>?_,fun h=>by omega⟩
         rw [hF2]
         simp only [z23z,z23z_,ya6y,p3,e,show ((5:Int) == 1) = false from rfl,show ((5:Int) == 2) = false from rfl,show ((5:Int) == 3) = false from rfl,show ((5:Int) == 4) = false from rfl,beq_self_eq_true,cond_true,z39z_is,b1,b2,cond_false,Bool.not_true,bne_self_eq_false,net_idle,yawy,c1,c4]
         rfl
end Go.Am
set_option linter.unusedVariables false
set_option linter.unusedSectionVars false
set_option linter.unusedSimpArgs false
set_option maxRecDepth 100000
namespace Go.Am
open Go Go.Proofs
variable [Fuel]
def ownD (x:G_Deed):G_net_own:=⟨x.f_Site,x.f_No⟩
structure RightD (d:List G_Deed):Prop where
 fine:∀ x∈d,FineD x
 good:∀ x∈d,fD x = 0
 ord:d.Pairwise fun a b=>cmpD a b < 0
 own:d.Pairwise fun a b=>ownD a≠ownD b
theorem yqmy:RightD []:=⟨fun _ h=>(by cases h),fun _ h=>(by cases h),.nil,.nil⟩
theorem yddy {α:Type} {d xs:List α} {x:α} {i:Nat} (h:d.drop i = x::xs):d.take (i + 1) = d.take i++[x]:=by
 rw [List.take_add_one,(yavy h).1];rfl
theorem yoAy (d:List G_Deed) (hr:RightD d) (hl:d.length≤1000):∀ (xs:List G_Deed) (n i:Nat),d.drop i = xs→xs.length < n→∀ (R:Type) (e0:List G_Deed→Int→Option R) (e1:List G_Deed→Option R),
  z7z_L4 I_z7z n d d (d.length:Int) (i:Int) e0 e1 = e1 d
 | _,0,_,_,h,_,_,_=>by omega
 | [],n + 1,i,h,_,R,e0,e1=>by rw [z7z_L4,ya2y h];rfl
 | c::cs,n + 1,i,h,hn,R,e0,e1=>by
  have h':=yavy h
  have hm:=ybOy h
  have ih:=yoAy d hr hl cs n (i + 1) h'.2.2.1 (Nat.lt_of_succ_lt_succ (by simpa only [List.length_cons] using hn)) R e0 e1
  have he:∀ k:Int→Option R,I_z7z.net_formed c k = k 0:=fun k=>(yr0y (hr.fine c hm) (hr.good c hm)).1 R k
  have hw:=yapy (show i < 4611686018427387904 by omega)
  rw [z7z_L4,yaYy h,cond_true,yaPy h,he,bne_self_eq_false,cond_false]
  by_cases hi:i = 0
  ·subst hi
   rw [decide_eq_false (show ¬ (((0:Nat):Int) > 0) by omega),cond_false,hw,ih]
  ·have hp:d[i - 1]? = some d[i - 1]:=List.getElem?_eq_getElem (by omega)
   have hlt:cmpD d[i - 1] c < 0:=by
    obtain ⟨hi2,rfl⟩:=List.getElem?_eq_some_iff.1 h'.1
    exact List.pairwise_iff_getElem.1 hr.ord (i - 1) i (by omega) hi2 (by omega)
   generalize d[i - 1] = p at hp hlt
   have hw2:w64 ((i:Int) - 1) = ((i - 1:Nat):Int):=yf9y (by omega) (by omega)
   have ho:∀ (k:Int→Option R),I_z7z.z76z p c k = k (cmpD p c):=fun k=>z76z_is p c R k
   rw [decide_eq_true (show ((i:Int) > 0) by omega),cond_true,hw2,yhNy hp,ho,decide_eq_false (by omega),cond_false,hw,ih]
theorem ymly (d:List G_Deed) (hr:RightD d) (hl:d.length≤1000):∀ (xs:List G_Deed) (n i:Nat) (m:List (G_net_own×Bool)),d.drop i = xs→xs.length < n→(∀ w,(yaFy w m).getD false = (d.take i).any fun c=>decide (ownD c = w))→∀ (R:Type) (e0:Int→Option R) (e1:Option R),
  z7z_L14 I_z7z n d (d.length:Int) (i:Int) m e0 e1 = e1
 | _,0,_,_,_,h,_,_,_,_=>by omega
 | [],n + 1,i,m,h,_,_,R,e0,e1=>by rw [z7z_L14,ya2y h];rfl
 | c::cs,n + 1,i,m,h,hn,hm,R,e0,e1=>by
  have h':=yavy h
  have hno:(yaFy ⟨c.f_Site,c.f_No⟩ m).getD false = false:=by
   have:=hm (ownD c)
   refine this.trans ?_
   rw [List.any_eq_false]
   intro o ho he
   obtain ⟨j,hj,rfl⟩:=List.mem_iff_getElem.1 ho
   rw [List.length_take] at hj
   obtain ⟨hi2,rfl⟩:=List.getElem?_eq_some_iff.1 h'.1
   rw [List.getElem_take] at he
   exact List.pairwise_iff_getElem.1 hr.own j i (by omega) hi2 (by omega) (of_decide_eq_true he)
  rw [z7z_L14,yaYy h,cond_true,yaPy h,hno,cond_false,yapy (show i < 4611686018427387904 by omega)]
  refine ymly d hr hl cs n (i + 1) _ h'.2.2.1 (Nat.lt_of_succ_lt_succ (by simpa only [List.length_cons] using hn)) (fun w=>?_) R e0 e1
  rw [yddy h,List.any_append,List.any_cons,List.any_nil,Bool.or_false,yaRy,ydvy,yg7y ybny]
  have hmw:=hm w
  rw [yaRy] at hmw
  by_cases e:w = ownD c
  ·have e2:yaUy w ⟨c.f_Site,c.f_No⟩ = true:=(ybny _ _).2 e
   rw [e2,decide_eq_true e.symm];simp
  ·have e2:yaUy w ⟨c.f_Site,c.f_No⟩ = false:=by
    cases hq:yaUy w ⟨c.f_Site,c.f_No⟩ with
    | false=>rfl
    | true=>exact absurd ((ybny _ _).1 hq) e
   rw [e2,decide_eq_false (fun h=>e h.symm),cond_false,Bool.or_false]
   exact hmw
theorem z7z_right {d:List G_Deed} (hr:RightD d) (hl:d.length≤1000) (R:Type) (k:Int→Option R):z7z d k = k 0:=by
 have unf:z7z d k = (z7z_L4 I_z7z NN d d (d.length:Int) 0 (fun e14 e15=>k e15) (fun e16=>(z7z_L14 I_z7z NN e16 (e16.length:Int) 0 [] (fun e23=>k e23) (k 0)))):=by
  show (bif (decide ((d.length:Int) > 2000)) then k 2 else _) = _
  rw [decide_eq_false (by omega)];rfl
 rw [unf]
 refine (yoAy d hr hl d NN 0 rfl (by have:=NN_ok;omega) R _ _).trans ?_
 exact ymly d hr hl d NN 0 [] rfl (by have:=NN_ok;omega) (fun w=>by rw [yaRy];rfl) R _ _
noncomputable def yaSy:Option G_Deed→List G_Deed→Int
 | _,[]=>0
 | p,c::cs=>bif fD c != 0 then fD c else match p with
  | none=>yaSy (some c) cs
  | some q=>bif decide (cmpD q c ≥ 0) then 7 else yaSy (some c) cs
theorem yfly (c:G_Deed) (cs:List G_Deed):yaSy none (c::cs) = bif fD c != 0 then fD c else yaSy (some c) cs:=by simp only [yaSy]
theorem yfny (q c:G_Deed) (cs:List G_Deed):yaSy (some q) (c::cs) = bif fD c != 0 then fD c else bif decide (cmpD q c ≥ 0) then 7 else yaSy (some c) cs:=by simp only [yaSy]
def dupD:List G_Deed→List G_Deed→Bool
 | _,[]=>false
 | seen,x::xs=>(seen.any fun o=>o.f_Site == x.f_Site&&o.f_No == x.f_No) || dupD (seen++[x]) xs
theorem ymhy (d:List G_Deed) (hf:∀ c∈d,FineD c) (hl:d.length≤1000):∀ (xs:List G_Deed) (n i:Nat) (p:Option G_Deed),d.drop i = xs→yfmy d i p→xs.length < n→∀ (R:Type) (e0:List G_Deed→Int→Option R) (e1:List G_Deed→Option R),
  z3z_L4 I_z3z n d d (d.length:Int) (i:Int) e0 e1 = bif yaSy p xs != 0 then e0 d (yaSy p xs) else e1 d
 | _,0,_,_,_,_,h,_,_,_=>by omega
 | [],n + 1,i,p,h,_,_,R,e0,e1=>by rw [z3z_L4,ya2y h];rfl
 | c::cs,n + 1,i,p,h,hp,hn,R,e0,e1=>by
  have h':=yavy h
  have hn':cs.length < n:=Nat.lt_of_succ_lt_succ (by simpa only [List.length_cons] using hn)
  have ih:=ymhy d hf hl cs n (i + 1) (some c) h'.2.2.1 (ygyy h) hn' R e0 e1
  have hc:=hf c (ybOy h)
  have he:∀ k:Int→Option R,I_z3z.z49z c k = k (fD c):=fun k=>z49z_is hc R k
  rw [z3z_L4,yaYy h,cond_true,yaPy h,he,yapy (show i < 4611686018427387904 by omega),ih]
  cases p with
  | none =>
   rw [yfly]
   cases q0:fD c != 0 with
   | true=>simp only [cond_true,q0]
   | false =>
    rw [decide_eq_false (show ¬ ((i:Int) > 0) by unfold yfmy at hp;omega)];rfl
  | some q =>
   rw [yfny]
   cases q0:fD c != 0 with
   | true=>simp only [cond_true,q0]
   | false =>
    obtain ⟨h0,ys,hq⟩:=hp
    have ho:∀ (k:Int→Option R),I_z3z.z2z q c k = k (cmpD q c):=fun k=>z2z_is (hf q (ybOy hq)) hc R k
    simp only [cond_false]
    rw [decide_eq_true (show ((i:Int) > 0) by omega),cond_true,yiPy hq h0 (by omega),ho]
    cases decide (cmpD q c ≥ 0) <;> rfl
theorem ylJy (d:List G_Deed) (hl:d.length≤1000):∀ (xs:List G_Deed) (n i:Nat),d.drop i = xs→xs.length < n→∀ (R:Type) (e0:Int→Option R) (e1:Option R),
  z3z_L13 I_z3z n d d (d.length:Int) (i:Int) e0 e1 = bif dupD (d.take i) xs then e0 6 else e1
 | _,0,_,_,h,_,_,_=>by omega
 | [],n + 1,i,h,_,R,e0,e1=>by rw [z3z_L13,ya2y h];rfl
 | c::cs,n + 1,i,h,hn,R,e0,e1=>by
  have h':=yavy h
  have ih:=ylJy d hl cs n (i + 1) h'.2.2.1 (Nat.lt_of_succ_lt_succ (by simpa only [List.length_cons] using hn)) R e0 e1
  have hc:∀ (k:Bool→G_Deed→Option R),I_z3z.z18z (d.take i) c k = k ((d.take i).any fun o=>o.f_Site == c.f_Site&&o.f_No == c.f_No) c:=fun k=>yuRy _ (by rw [List.length_take];omega) c R k
  rw [z3z_L13,yaYy h,cond_true,yaPy h,decide_eq_true (show (0:Int)≤(i:Int) by omega),decide_eq_true (show (i:Int)≤(d.length:Int) by omega),Bool.and_self,cond_true,Int.toNat_natCast,hc,yapy (show i < 4611686018427387904 by omega),ih,dupD,yddy h]
  cases (d.take i).any fun o=>o.f_Site == c.f_Site&&o.f_No == c.f_No <;> rfl
noncomputable def ybHy (d:List G_Deed):Int:=bif yaSy none d != 0 then yaSy none d else bif dupD [] d then 6 else 0
theorem z3z_is {d:List G_Deed} (hf:∀ c∈d,FineD c) (hl:d.length≤1000) (R:Type) (k:Int→Option R):z3z d k = k (ybHy d):=by
 have unf:z3z d k = (z3z_L4 I_z3z NN d d (d.length:Int) 0 (fun e14 e15=>k e15) (fun e16=>(z3z_L13 I_z3z NN e16 e16 (e16.length:Int) 0 (fun e27=>k e27) (k 0)))):=by
  show (bif (decide ((d.length:Int) > 2000)) then k 2 else _) = _
  rw [decide_eq_false (by omega)];rfl
 rw [unf]
 refine (ymhy d hf hl d NN 0 none rfl rfl (by have:=NN_ok;omega) R _ _).trans ?_
 have h2:=ylJy d hl d NN 0 rfl (by have:=NN_ok;omega) R (fun e27=>k e27) (k 0)
 unfold ybHy
 cases yaSy none d != 0 with
 | true=>rfl
 | false =>
  simp only [cond_false]
  refine h2.trans ?_
  rw [List.take_zero]
  cases dupD [] d <;> rfl
theorem ylBy:∀ (l:List G_Deed) (p:Option G_Deed),yaSy p l = 0→(∀ c∈l,fD c = 0)∧l.Pairwise (fun a b=>cmpD a b < 0)∧∀ q,p = some q→∀ c∈l,cmpD q c < 0
 | [],_,_=>⟨fun _ h=>(by cases h),.nil,fun _ _ _ h=>(by cases h)⟩
 | x::xs,p,h=>by
  unfold yaSy at h
  cases hq:fD x != 0 with
  | true=>rw [hq] at h;simp only [cond_true] at h;rw [h] at hq;cases hq
  | false =>
   rw [hq] at h
   simp only [cond_false] at h
   have h0:fD x = 0:=by simpa using hq
   have h2:yaSy (some x) xs = 0∧∀ q,p = some q→cmpD q x < 0:=by
    cases p with
    | none=>exact ⟨h,fun q hq=>by cases hq⟩
    | some q =>
     simp only at h
     cases hd:decide (cmpD q x ≥ 0) with
     | true=>rw [hd] at h;simp only [cond_true] at h;omega
     | false =>
      rw [hd] at h
      refine ⟨h,fun q' hq'=>?_⟩
      cases hq'
      have:=of_decide_eq_false hd
      omega
   obtain ⟨g1,g2,g3⟩:=ylBy xs (some x) h2.1
   refine ⟨fun c hc=>?_,List.pairwise_cons.2 ⟨g3 x rfl,g2⟩,fun q hq c hc=>?_⟩
   ·rcases List.mem_cons.1 hc with rfl | hc
    ·exact h0
    ·exact g1 c hc
   ·have hqx:=h2.2 q hq
    rcases List.mem_cons.1 hc with rfl | hc
    ·exact hqx
    ·have h3:=g3 x rfl c hc
     have t:=yiXy.trans q x c (by omega) (by omega)
     rcases Int.lt_or_eq_of_le t with t | t
     ·exact t
     ·exfalso
      have a1:=yiXy.anti q c
      have a2:=yiXy.trans c q x (by omega) (by omega)
      have a3:=yiXy.anti x c
      omega
theorem yszy:∀ (l seen:List G_Deed),dupD seen l = false→(∀ o∈seen,∀ x∈l,ownD o≠ownD x)∧l.Pairwise fun a b=>ownD a≠ownD b
 | [],_,_=>⟨fun _ _ _ h=>(by cases h),.nil⟩
 | y::ys,seen,h=>by
  simp only [dupD,Bool.or_eq_false_iff] at h
  obtain ⟨h1,h2⟩:=yszy ys (seen++[y]) h.2
  have h3:∀ o∈seen,ownD o≠ownD y:=fun o ho e=>by
   have:=List.any_eq_false.1 h.1 o ho
   unfold ownD at e
   simp only [G_net_own.mk.injEq] at e
   simp [e.1,e.2] at this
  refine ⟨fun o ho x hx=>?_,List.pairwise_cons.2 ⟨fun x hx=>h1 y (by simp) x hx,h2⟩⟩
  rcases List.mem_cons.1 hx with rfl | hx
  ·exact h3 o ho
  ·exact h1 o (by simp [ho]) x hx
theorem yl1y {d:List G_Deed} (hf:∀ c∈d,FineD c) (h:ybHy d = 0):RightD d:=by
 unfold ybHy at h
 cases h1:yaSy none d != 0 with
 | true=>rw [h1] at h;simp only [cond_true] at h;rw [h] at h1;cases h1
 | false =>
  rw [h1] at h
  simp only [cond_false] at h
  cases h2:dupD [] d with
  | true=>rw [h2] at h;simp at h
  | false =>
   obtain ⟨g1,g2,_⟩:=ylBy d none (by simpa using h1)
   exact ⟨hf,g1,g2,(yszy d [] h2).2⟩
theorem yiNy (many:Nat) (hm:many≤20):∀ (j n i:Nat) (b:Int) (s:G_Stream),i + j = 5→j < n→SOk b s→b + 2000 * (j:Int)≤50000 →
  ∃ (q:Bool) (r:List G_Deed) (s':G_Stream),r.length≤many∧RightD r∧SOk (b + 2000 * (j:Int)) s'∧∀ (R:Type) (e0:G_Stream→List G_Deed→Option R) (e1:G_Stream→Option R),z24z_L2 yfVy n (many:Int) (i:Int) s e0 e1 = bif q then e0 s' r else e1 s'
 | _,0,_,_,_,_,h,_,_=>by omega
 | 0,n + 1,i,b,s,hi,_,hs,hb=>⟨false,[],s,by simp,yqmy,hs.mono (by omega),fun R e0 e1=>by rw [z24z_L2,decide_eq_false (by omega)];rfl⟩
 | j + 1,n + 1,i,b,s,hi,hn,hs,hb=>by
  obtain ⟨r,s1,z1,l1,f1,e1⟩:=z13z_gives hs (by omega) many hm
  have g1:∀ (R:Type) (k:List G_Deed→G_Stream→Option R),yfVy.z13z s (many:Int) k = k r s1:=e1
  have g2:∀ (R:Type) (k:Int→Option R),yfVy.z3z r k = k (ybHy r):=fun R k=>z3z_is f1 (by omega) R k
  cases h0:ybHy r == 0 with
  | true=>exact ⟨true,r,s1,by omega,yl1y f1 (by simpa using h0),z1.mono (by omega),fun R e0 e1'=>by rw [z24z_L2,decide_eq_true (show (i:Int) < 5 by omega),cond_true,g1,g2,h0];rfl⟩
  | false =>
   obtain ⟨q,r',s',g3,g4,g6,g5⟩:=yiNy many hm j n (i + 1) (b + 2000) s1 (by omega) (by omega) z1 (by omega)
   exact ⟨q,r',s',g3,g4,g6.mono (by omega),fun R e0 e1'=>by rw [z24z_L2,decide_eq_true (show (i:Int) < 5 by omega),cond_true,g1,g2,h0,cond_false,yapy (show i < 4611686018427387904 by omega),g5]⟩
theorem yo0y {b:Int} {s:G_Stream} (hs:SOk b s) (hb:b≤30000) (many:Nat) (hm:many≤20) :
  ∃ (r:List G_Deed) (s':G_Stream),r.length≤many∧RightD r∧SOk (b + 10000) s'∧∀ (R:Type) (k:List G_Deed→G_Stream→Option R),z24z s (many:Int) k = k r s':=by
 obtain ⟨q,r,s',g1,g2,g4,g3⟩:=yiNy many hm 5 NN 0 b s (by omega) (by have:=NN_ok;omega) hs (by omega)
 cases q with
 | true=>exact ⟨r,s',g1,g2,g4.mono (by omega),fun R k=>g3 R _ _⟩
 | false=>exact ⟨[],s',by simp,yqmy,g4.mono (by omega),fun R k=>g3 R _ _⟩
end Go.Am
set_option linter.unusedVariables false
set_option linter.unusedSectionVars false
set_option linter.unusedSimpArgs false
set_option maxRecDepth 100000
namespace Go.Am
open Go Go.Proofs
variable [Fuel]
end Go.Am
set_option linter.unusedVariables false
set_option linter.unusedSectionVars false
set_option linter.unusedSimpArgs false
set_option maxRecDepth 100000
namespace Go.Am
open Go Go.Proofs
variable [Fuel]
end Go.Am
set_option linter.unusedVariables false
set_option linter.unusedSectionVars false
set_option linter.unusedSimpArgs false
set_option maxRecDepth 100000
namespace Go.Am
open Go Go.Proofs
variable [Fuel]
theorem ysVy {x:G_Deed} (h:FineD x) (R:Type) (k:Int→Option R):net_formed x k = k (fD x):=by
 rw [← z49z_is h R k]
 have f1:=fun (R:Type) (k:Bool→Option R)=>ydZy h.site R k
 have f2:=fun (R:Type) (k:Bool→Option R)=>ydZy h.band R k
 have f3:=fun (R:Type) (k:Bool→Option R)=>ydZy h.of1 R k
 have f4:=fun (R:Type) (k:Int→Option R)=>z58z_is h.con R k
 have p1:=fun (R:Type) (k:Bool→Option R)=>ydsy h.site R k
 have p2:=fun (R:Type) (k:Bool→Option R)=>ydsy h.band R k
 have p3:=fun (R:Type) (k:Bool→Option R)=>ydsy h.of1 R k
 have p4:=fun (R:Type) (k:Int→Option R)=>z52z_is h.con R k
 have hL:net_formed x k = bif !keyB x.f_Site then k 5 else bif !inB x.f_No 1 1000000 then k 1 else bif !momB x.f_At then k 1 else bif !inB x.f_Kind 1 5 then k 4 else z23z x (fun r6=>bif r6 != 0 then k r6 else net_idle x (fun r7=>bif !r7 then k 3 else k 0)):=by
  simp only [net_formed,ycDy,ybuy,p1,z39z_is,z55z_is]
 rw [hL]
 simp only [z49z,z49z_,yicy,f1,f2,f3,f4,ye5y,ycEy]
 cases a1:keyB x.f_Site with
 | false=>rfl
 | true =>
  cases a2:inB x.f_No 1 1000000 with
  | false=>rfl
  | true =>
   cases a3:momB x.f_At with
   | false=>rfl
   | true =>
    cases a4:inB x.f_Kind 1 5 with
    | false=>rfl
    | true =>
     simp only [Bool.not_true,cond_false]
     have hk:=yczy.1 a4
     have hk5:x.f_Kind = 1 ∨ x.f_Kind = 2 ∨ x.f_Kind = 3 ∨ x.f_Kind = 4 ∨ x.f_Kind = 5:=by omega
     rcases hk5 with e | e | e | e | e
     ·simp only [z23z,z23z_,ya6y,z69z,z69z_,yity,p4,net_idle,yawy,e,beq_self_eq_true,show ((1:Int) == 2) = false from rfl,show ((1:Int) == 3) = false from rfl,show ((1:Int) == 4) = false from rfl,show ((1:Int) == 5) = false from rfl,cond_true,cond_false,yaoy,Bool.true_and,Bool.and_true]
      cases b1:chk x.f_Contact != 0 with
      | true=>simp only [cond_true,b1]
      | false =>
       cases decide (x.f_Contact.f_At > x.f_At) with
       | true=>rfl
       | false=>cases x.f_Band == [] <;> cases x.f_Of == [] <;> cases x.f_Other == 0 <;> rfl
     ·simp only [z23z,z23z_,ya6y,p2,net_idle,yawy,e,beq_self_eq_true,show ((2:Int) == 1) = false from rfl,show ((2:Int) == 3) = false from rfl,show ((2:Int) == 4) = false from rfl,show ((2:Int) == 5) = false from rfl,cond_true,cond_false,yaoy,Bool.true_and,Bool.and_true]
      have hE:yaky x.f_Contact ⟨0,0,[],[],0,0,[],[]⟩ = (x.f_Contact.f_At == 0&&(x.f_Contact.f_Mode == 0&&(x.f_Contact.f_Band == []&&(x.f_Contact.f_Call == []&&(x.f_Contact.f_Sent == 0&&(x.f_Contact.f_Heard == 0&&(x.f_Contact.f_Gave == []&&(x.f_Contact.f_Got == []))))))))  := by unfold yaky;simp only [Bool.and_true]
      rw [hE]
      generalize (x.f_Contact.f_At == 0&&(x.f_Contact.f_Mode == 0&&(x.f_Contact.f_Band == []&&(x.f_Contact.f_Call == []&&(x.f_Contact.f_Sent == 0&&(x.f_Contact.f_Heard == 0&&(x.f_Contact.f_Gave == []&&(x.f_Contact.f_Got == [])))))))) = b
      cases keyB x.f_Band with
      | false=>rfl
      | true=>cases b <;> cases x.f_Of == [] <;> cases x.f_Other == 0 <;> rfl
     ·simp only [z23z,z23z_,ya6y,z39z_is,net_idle,yawy,e,beq_self_eq_true,show ((3:Int) == 1) = false from rfl,show ((3:Int) == 2) = false from rfl,show ((3:Int) == 4) = false from rfl,show ((3:Int) == 5) = false from rfl,cond_true,cond_false,yaoy,Bool.true_and,Bool.and_true]
      have hE:yaky x.f_Contact ⟨0,0,[],[],x.f_Contact.f_Sent,0,[],[]⟩ = (x.f_Contact.f_At == 0&&(x.f_Contact.f_Mode == 0&&(x.f_Contact.f_Band == []&&(x.f_Contact.f_Call == []&&(x.f_Contact.f_Heard == 0&&(x.f_Contact.f_Gave == []&&(x.f_Contact.f_Got == [])))))))  := by unfold yaky;simp only [beq_self_eq_true,Bool.true_and,Bool.and_true]
      rw [hE]
      generalize (x.f_Contact.f_At == 0&&(x.f_Contact.f_Mode == 0&&(x.f_Contact.f_Band == []&&(x.f_Contact.f_Call == []&&(x.f_Contact.f_Heard == 0&&(x.f_Contact.f_Gave == []&&(x.f_Contact.f_Got == []))))))) = b
      cases inB x.f_Contact.f_Sent 1 99999 with
      | false=>rfl
      | true=>cases b <;> cases x.f_Band == [] <;> cases x.f_Of == [] <;> cases x.f_Other == 0 <;> rfl
     ·simp only [z23z,z23z_,ya6y,z39z_is,net_idle,yawy,e,beq_self_eq_true,show ((4:Int) == 1) = false from rfl,show ((4:Int) == 2) = false from rfl,show ((4:Int) == 3) = false from rfl,show ((4:Int) == 5) = false from rfl,cond_true,cond_false,yaoy,Bool.true_and,Bool.and_true]
      have hE:yaky x.f_Contact ⟨0,0,[],[],x.f_Contact.f_Sent,0,[],[]⟩ = (x.f_Contact.f_At == 0&&(x.f_Contact.f_Mode == 0&&(x.f_Contact.f_Band == []&&(x.f_Contact.f_Call == []&&(x.f_Contact.f_Heard == 0&&(x.f_Contact.f_Gave == []&&(x.f_Contact.f_Got == [])))))))  := by unfold yaky;simp only [beq_self_eq_true,Bool.true_and,Bool.and_true]
      rw [hE]
      generalize (x.f_Contact.f_At == 0&&(x.f_Contact.f_Mode == 0&&(x.f_Contact.f_Band == []&&(x.f_Contact.f_Call == []&&(x.f_Contact.f_Heard == 0&&(x.f_Contact.f_Gave == []&&(x.f_Contact.f_Got == []))))))) = b
      cases inB x.f_Contact.f_Sent 1 99999 with
      | false=>rfl
      | true=>cases b <;> cases x.f_Band == [] <;> cases x.f_Of == [] <;> cases x.f_Other == 0 <;> rfl
     ·simp only [z23z,z23z_,ya6y,p3,z39z_is,net_idle,yawy,e,beq_self_eq_true,show ((5:Int) == 1) = false from rfl,show ((5:Int) == 2) = false from rfl,show ((5:Int) == 3) = false from rfl,show ((5:Int) == 4) = false from rfl,cond_true,cond_false,yaoy,Bool.true_and,Bool.and_true]
      have hE:yaky x.f_Contact ⟨0,0,[],[],0,0,[],[]⟩ = (x.f_Contact.f_At == 0&&(x.f_Contact.f_Mode == 0&&(x.f_Contact.f_Band == []&&(x.f_Contact.f_Call == []&&(x.f_Contact.f_Sent == 0&&(x.f_Contact.f_Heard == 0&&(x.f_Contact.f_Gave == []&&(x.f_Contact.f_Got == []))))))))  := by unfold yaky;simp only [Bool.and_true]
      rw [hE]
      generalize (x.f_Contact.f_At == 0&&(x.f_Contact.f_Mode == 0&&(x.f_Contact.f_Band == []&&(x.f_Contact.f_Call == []&&(x.f_Contact.f_Sent == 0&&(x.f_Contact.f_Heard == 0&&(x.f_Contact.f_Gave == []&&(x.f_Contact.f_Got == [])))))))) = b
      cases keyB x.f_Of with
      | false=>rfl
      | true =>
       cases inB x.f_Other 1 1000000 with
       | false=>rfl
       | true=>cases b <;> cases x.f_Band == [] <;> rfl
theorem ymQy (d:List G_Deed) (hf:∀ c∈d,FineD c) (hl:d.length≤1000):∀ (xs:List G_Deed) (n i:Nat) (p:Option G_Deed),d.drop i = xs→yfmy d i p→xs.length < n→∀ (R:Type) (e0:List G_Deed→Int→Option R) (e1:List G_Deed→Option R),
  z7z_L4 I_z7z n d d (d.length:Int) (i:Int) e0 e1 = bif yaSy p xs != 0 then e0 d (yaSy p xs) else e1 d
 | _,0,_,_,_,_,h,_,_,_=>by omega
 | [],n + 1,i,p,h,_,_,R,e0,e1=>by rw [z7z_L4,ya2y h];rfl
 | c::cs,n + 1,i,p,h,hp,hn,R,e0,e1=>by
  have h':=yavy h
  have hn':cs.length < n:=Nat.lt_of_succ_lt_succ (by simpa only [List.length_cons] using hn)
  have ih:=ymQy d hf hl cs n (i + 1) (some c) h'.2.2.1 (ygyy h) hn' R e0 e1
  have hc:=hf c (ybOy h)
  have he:∀ k:Int→Option R,I_z7z.net_formed c k = k (fD c):=fun k=>ysVy hc R k
  rw [z7z_L4,yaYy h,cond_true,yaPy h,he,yapy (show i < 4611686018427387904 by omega),ih]
  cases p with
  | none =>
   rw [yfly]
   cases q0:fD c != 0 with
   | true=>simp only [cond_true,q0]
   | false =>
    rw [decide_eq_false (show ¬ ((i:Int) > 0) by unfold yfmy at hp;omega)];rfl
  | some q =>
   rw [yfny]
   cases q0:fD c != 0 with
   | true=>simp only [cond_true,q0]
   | false =>
    obtain ⟨h0,ys,hq⟩:=hp
    have ho:∀ (k:Int→Option R),I_z7z.z76z q c k = k (cmpD q c):=fun k=>z76z_is q c R k
    simp only [cond_false]
    rw [decide_eq_true (show ((i:Int) > 0) by omega),cond_true,yiPy hq h0 (by omega),ho]
    cases decide (cmpD q c ≥ 0) <;> rfl
theorem yxUy (seen:List G_Deed) (c:G_Deed):(seen.any fun o=>decide (ownD o = ownD c)) = seen.any fun o=>o.f_Site == c.f_Site&&o.f_No == c.f_No:=by
 congr 1
 funext o
 rw [Bool.eq_iff_iff]
 simp [ownD]
theorem ylGy (d:List G_Deed) (hl:d.length≤1000):∀ (xs:List G_Deed) (n i:Nat) (m:List (G_net_own×Bool)),d.drop i = xs→xs.length < n→(∀ w,(yaFy w m).getD false = (d.take i).any fun c=>decide (ownD c = w))→∀ (R:Type) (e0:Int→Option R) (e1:Option R),
  z7z_L14 I_z7z n d (d.length:Int) (i:Int) m e0 e1 = bif dupD (d.take i) xs then e0 6 else e1
 | _,0,_,_,_,h,_,_,_,_=>by omega
 | [],n + 1,i,m,h,_,_,R,e0,e1=>by rw [z7z_L14,ya2y h];rfl
 | c::cs,n + 1,i,m,h,hn,hm,R,e0,e1=>by
  have h':=yavy h
  have hh:(yaFy ⟨c.f_Site,c.f_No⟩ m).getD false = (d.take i).any fun o=>o.f_Site == c.f_Site&&o.f_No == c.f_No:=(hm (ownD c)).trans (yxUy _ c)
  have ih:=ylGy d hl cs n (i + 1) (yaMy ⟨c.f_Site,c.f_No⟩ true m) h'.2.2.1 (Nat.lt_of_succ_lt_succ (by simpa only [List.length_cons] using hn)) (fun w=>by
   rw [yddy h,List.any_append,List.any_cons,List.any_nil,Bool.or_false,yaRy,ydvy,yg7y ybny]
   have hmw:=hm w
   rw [yaRy] at hmw
   by_cases e:w = ownD c
   ·have e2:yaUy w ⟨c.f_Site,c.f_No⟩ = true:=(ybny _ _).2 e
    rw [e2,decide_eq_true e.symm];simp
   ·have e2:yaUy w ⟨c.f_Site,c.f_No⟩ = false:=by
     cases hq:yaUy w ⟨c.f_Site,c.f_No⟩ with
     | false=>rfl
     | true=>exact absurd ((ybny _ _).1 hq) e
    rw [e2,decide_eq_false (fun h=>e h.symm),cond_false,Bool.or_false]
    exact hmw) R e0 e1
  rw [z7z_L14,yaYy h,cond_true,yaPy h,hh,yapy (show i < 4611686018427387904 by omega),ih,dupD,yddy h]
  cases (d.take i).any fun o=>o.f_Site == c.f_Site&&o.f_No == c.f_No <;> rfl
theorem z7z_is {d:List G_Deed} (hf:∀ c∈d,FineD c) (hl:d.length≤1000) (R:Type) (k:Int→Option R):z7z d k = k (ybHy d):=by
 have unf:z7z d k = (z7z_L4 I_z7z NN d d (d.length:Int) 0 (fun e14 e15=>k e15) (fun e16=>(z7z_L14 I_z7z NN e16 (e16.length:Int) 0 [] (fun e23=>k e23) (k 0)))):=by
  show (bif (decide ((d.length:Int) > 2000)) then k 2 else _) = _
  rw [decide_eq_false (by omega)];rfl
 rw [unf]
 refine (ymQy d hf hl d NN 0 none rfl rfl (by have:=NN_ok;omega) R _ _).trans ?_
 have h2:=ylGy d hl d NN 0 [] rfl (by have:=NN_ok;omega) (fun w=>by rw [yaRy];rfl) R (fun e27=>k e27) (k 0)
 unfold ybHy
 cases yaSy none d != 0 with
 | true=>rfl
 | false =>
  simp only [cond_false]
  refine h2.trans ?_
  rw [List.take_zero]
  cases dupD [] d <;> rfl
end Go.Am
set_option linter.unusedVariables false
set_option linter.unusedSectionVars false
set_option linter.unusedSimpArgs false
set_option maxRecDepth 100000
namespace Go.Am
open Go Go.Proofs
variable [Fuel]
end Go.Am
set_option linter.unusedVariables false
set_option linter.unusedSectionVars false
set_option linter.unusedSimpArgs false
set_option maxRecDepth 100000
namespace Go.Am
open Go Go.Proofs
variable [Fuel]
end Go.Am
set_option linter.unusedVariables false
set_option linter.unusedSectionVars false
set_option linter.unusedSimpArgs false
set_option maxRecDepth 100000
namespace Go.Am
open Go Go.Proofs
variable [Fuel]
end Go.Am
set_option linter.unusedVariables false
set_option linter.unusedSectionVars false
set_option linter.unusedSimpArgs false
set_option maxRecDepth 100000
namespace Go.Am
open Go Go.Proofs
variable [Fuel]
theorem ytby (R:Type) (k:Bool→Option R):law_netted k = k true:=by
 have h4:∀ k:Int→Int→Option R,yfty.net_Next [rdD] 0 k = k 2 0:=fun k=>yHby R k
 show yfty.net_Next [rdD] 0 (fun r1 r2=>bif r2 == 0 then k (r1 == 2) else k false) = _
 rw [h4]
 rfl
end Go.Am
