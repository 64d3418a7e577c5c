/- The plain law, in Lean alone: X1, X2, X3. No condition: lemmas for the claim. -/
import Derived.Test.YtoajjnhmofegcaaGreatDoorPlT4
import Derived.Test.YtoajjnhmofegcaaGreatDoorPlV6
import Derived.Test.YtoajjnhmofegcaaGreatDoorPlU2
set_option linter.unusedVariables false
set_option linter.unusedSectionVars false
set_option linter.unusedSimpArgs false
set_option maxRecDepth 100000
namespace Go.Am
open Go Go.Proofs
variable [Fuel]
structure FineDW (x:G_Deed):Prop where
 site:x.f_Site.length≤1000000
 no:Wide x.f_No
 at1:Wide x.f_At
 con:FineW x.f_Contact
 band:x.f_Band.length≤1000000
 of1:x.f_Of.length≤1000000
theorem z2z_W {x y:G_Deed} (hx:FineDW x) (hy:FineDW y) (R:Type) (k:Int→Option R):z2z x y k = k (cmpD x y):=by
 simp only [z2z,z2z_,I_z2z,ysoy,ydJy,cmpD,orL]
 rw [yusy hx.at1 hy.at1,yusy hx.no hy.no,yxEy x.f_At y.f_At,ne_cb x.f_Site]
 cases cmpI x.f_At y.f_At != 0 <;> cases Lib.compareBytes x.f_Site y.f_Site != 0 <;> simp only [cond_true,cond_false]
 cases h:cmpI x.f_No y.f_No != 0 with
 | true=>rfl
 | false =>
  have:cmpI x.f_No y.f_No = 0:=by simpa using h
  rw [this];rfl
theorem z49z_givesW {x:G_Deed} (h:FineDW x):∃ e:Int,∀ (R:Type) (k:Int→Option R),z49z x k = k e:=by
 have f1:=fun (R:Type) (k:Bool→Option R)=>yeby h.site R k
 have f2:=fun (R:Type) (k:Bool→Option R)=>yeby h.band R k
 have f3:=fun (R:Type) (k:Bool→Option R)=>yeby h.of1 R k
 have f4:=fun (R:Type) (k:Int→Option R)=>z58z_W h.con R k
 refine ⟨(z49z x some).getD 0,fun R k=>?_⟩
 simp only [z49z,z49z_,yicy,f1,f2,f3,f4,ye5y,ycEy]
 cases keyB x.f_Site <;> cases inB x.f_No 1 1000000 <;> cases momB x.f_At <;> cases inB x.f_Kind 1 5 <;> try rfl
 cases x.f_Kind == 1 with
 | true =>
  cases chk x.f_Contact != 0 <;> cases decide (x.f_Contact.f_At > x.f_At) <;> cases yaoy x ⟨x.f_Site,x.f_No,x.f_At,x.f_Kind,x.f_Contact,[],[],0⟩ <;> rfl
 | false =>
  cases x.f_Kind == 2 with
  | true=>cases keyB x.f_Band <;> cases yaoy x ⟨x.f_Site,x.f_No,x.f_At,x.f_Kind,⟨0,0,[],[],0,0,[],[]⟩,x.f_Band,[],0⟩ <;> rfl
  | false =>
   cases x.f_Kind == 5 with
   | true=>cases keyB x.f_Of <;> cases inB x.f_Other 1 1000000 <;> cases yaoy x ⟨x.f_Site,x.f_No,x.f_At,x.f_Kind,⟨0,0,[],[],0,0,[],[]⟩,[],x.f_Of,x.f_Other⟩ <;> rfl
   | false=>cases inB x.f_Contact.f_Sent 1 99999 <;> cases yaoy x ⟨x.f_Site,x.f_No,x.f_At,x.f_Kind,⟨0,0,[],[],x.f_Contact.f_Sent,0,[],[]⟩,[],[],0⟩ <;> rfl
theorem z49z_W {x:G_Deed} (h:FineDW x) (R:Type) (k:Int→Option R):z49z x k = k (fD x):=by
 obtain ⟨e,he⟩:=z49z_givesW h
 rw [he]
 unfold fD
 rw [he];rfl
theorem ytJy {x:G_Deed} (h:FineDW x) (R:Type) (k:Int→Option R):net_formed x k = k (fD x):=by
 rw [← z49z_W h R k]
 have f1:=fun (R:Type) (k:Bool→Option R)=>yeby h.site R k
 have f2:=fun (R:Type) (k:Bool→Option R)=>yeby h.band R k
 have f3:=fun (R:Type) (k:Bool→Option R)=>yeby h.of1 R k
 have f4:=fun (R:Type) (k:Int→Option R)=>z58z_W h.con R k
 have p1:=fun (R:Type) (k:Bool→Option R)=>ycdy h.site R k
 have p2:=fun (R:Type) (k:Bool→Option R)=>ycdy h.band R k
 have p3:=fun (R:Type) (k:Bool→Option R)=>ycdy h.of1 R k
 have p4:=fun (R:Type) (k:Int→Option R)=>z52z_W h.con R k
 have hL:net_formed x k = bif !keyB x.f_Site then k 5 else bif !inB x.f_No 1 1000000 then k 1 else bif !momB x.f_At then k 1 else bif !inB x.f_Kind 1 5 then k 4 else z23z x (fun r6=>bif r6 != 0 then k r6 else net_idle x (fun r7=>bif !r7 then k 3 else k 0)):=by
  simp only [net_formed,ycDy,ybuy,p1,z39z_is,z55z_is]
 rw [hL]
 simp only [z49z,z49z_,yicy,f1,f2,f3,f4,ye5y,ycEy]
 cases a1:keyB x.f_Site with
 | false=>rfl
 | true =>
  cases a2:inB x.f_No 1 1000000 with
  | false=>rfl
  | true =>
   cases a3:momB x.f_At with
   | false=>rfl
   | true =>
    cases a4:inB x.f_Kind 1 5 with
    | false=>rfl
    | true =>
     simp only [Bool.not_true,cond_false]
     have hk:=yczy.1 a4
     have hk5:x.f_Kind = 1 ∨ x.f_Kind = 2 ∨ x.f_Kind = 3 ∨ x.f_Kind = 4 ∨ x.f_Kind = 5:=by omega
     rcases hk5 with e | e | e | e | e
     ·simp only [z23z,z23z_,ya6y,z69z,z69z_,yity,p4,net_idle,yawy,e,beq_self_eq_true,show ((1:Int) == 2) = false from rfl,show ((1:Int) == 3) = false from rfl,show ((1:Int) == 4) = false from rfl,show ((1:Int) == 5) = false from rfl,cond_true,cond_false,yaoy,Bool.true_and,Bool.and_true]
      cases b1:chk x.f_Contact != 0 with
      | true=>simp only [cond_true,b1]
      | false =>
       cases decide (x.f_Contact.f_At > x.f_At) with
       | true=>rfl
       | false=>cases x.f_Band == [] <;> cases x.f_Of == [] <;> cases x.f_Other == 0 <;> rfl
     ·simp only [z23z,z23z_,ya6y,p2,net_idle,yawy,e,beq_self_eq_true,show ((2:Int) == 1) = false from rfl,show ((2:Int) == 3) = false from rfl,show ((2:Int) == 4) = false from rfl,show ((2:Int) == 5) = false from rfl,cond_true,cond_false,yaoy,Bool.true_and,Bool.and_true]
      have hE:yaky x.f_Contact ⟨0,0,[],[],0,0,[],[]⟩ = (x.f_Contact.f_At == 0&&(x.f_Contact.f_Mode == 0&&(x.f_Contact.f_Band == []&&(x.f_Contact.f_Call == []&&(x.f_Contact.f_Sent == 0&&(x.f_Contact.f_Heard == 0&&(x.f_Contact.f_Gave == []&&(x.f_Contact.f_Got == []))))))))  := by unfold yaky;simp only [Bool.and_true]
      rw [hE]
      generalize (x.f_Contact.f_At == 0&&(x.f_Contact.f_Mode == 0&&(x.f_Contact.f_Band == []&&(x.f_Contact.f_Call == []&&(x.f_Contact.f_Sent == 0&&(x.f_Contact.f_Heard == 0&&(x.f_Contact.f_Gave == []&&(x.f_Contact.f_Got == [])))))))) = b
      cases keyB x.f_Band with
      | false=>rfl
      | true=>cases b <;> cases x.f_Of == [] <;> cases x.f_Other == 0 <;> rfl
     ·simp only [z23z,z23z_,ya6y,z39z_is,net_idle,yawy,e,beq_self_eq_true,show ((3:Int) == 1) = false from rfl,show ((3:Int) == 2) = false from rfl,show ((3:Int) == 4) = false from rfl,show ((3:Int) == 5) = false from rfl,cond_true,cond_false,yaoy,Bool.true_and,Bool.and_true]
      have hE:yaky x.f_Contact ⟨0,0,[],[],x.f_Contact.f_Sent,0,[],[]⟩ = (x.f_Contact.f_At == 0&&(x.f_Contact.f_Mode == 0&&(x.f_Contact.f_Band == []&&(x.f_Contact.f_Call == []&&(x.f_Contact.f_Heard == 0&&(x.f_Contact.f_Gave == []&&(x.f_Contact.f_Got == [])))))))  := by unfold yaky;simp only [beq_self_eq_true,Bool.true_and,Bool.and_true]
      rw [hE]
      generalize (x.f_Contact.f_At == 0&&(x.f_Contact.f_Mode == 0&&(x.f_Contact.f_Band == []&&(x.f_Contact.f_Call == []&&(x.f_Contact.f_Heard == 0&&(x.f_Contact.f_Gave == []&&(x.f_Contact.f_Got == []))))))) = b
      cases inB x.f_Contact.f_Sent 1 99999 with
      | false=>rfl
      | true=>cases b <;> cases x.f_Band == [] <;> cases x.f_Of == [] <;> cases x.f_Other == 0 <;> rfl
     ·simp only [z23z,z23z_,ya6y,z39z_is,net_idle,yawy,e,beq_self_eq_true,show ((4:Int) == 1) = false from rfl,show ((4:Int) == 2) = false from rfl,show ((4:Int) == 3) = false from rfl,show ((4:Int) == 5) = false from rfl,cond_true,cond_false,yaoy,Bool.true_and,Bool.and_true]
      have hE:yaky x.f_Contact ⟨0,0,[],[],x.f_Contact.f_Sent,0,[],[]⟩ = (x.f_Contact.f_At == 0&&(x.f_Contact.f_Mode == 0&&(x.f_Contact.f_Band == []&&(x.f_Contact.f_Call == []&&(x.f_Contact.f_Heard == 0&&(x.f_Contact.f_Gave == []&&(x.f_Contact.f_Got == [])))))))  := by unfold yaky;simp only [beq_self_eq_true,Bool.true_and,Bool.and_true]
      rw [hE]
      generalize (x.f_Contact.f_At == 0&&(x.f_Contact.f_Mode == 0&&(x.f_Contact.f_Band == []&&(x.f_Contact.f_Call == []&&(x.f_Contact.f_Heard == 0&&(x.f_Contact.f_Gave == []&&(x.f_Contact.f_Got == []))))))) = b
      cases inB x.f_Contact.f_Sent 1 99999 with
      | false=>rfl
      | true=>cases b <;> cases x.f_Band == [] <;> cases x.f_Of == [] <;> cases x.f_Other == 0 <;> rfl
     ·simp only [z23z,z23z_,ya6y,p3,z39z_is,net_idle,yawy,e,beq_self_eq_true,show ((5:Int) == 1) = false from rfl,show ((5:Int) == 2) = false from rfl,show ((5:Int) == 3) = false from rfl,show ((5:Int) == 4) = false from rfl,cond_true,cond_false,yaoy,Bool.true_and,Bool.and_true]
      have hE:yaky x.f_Contact ⟨0,0,[],[],0,0,[],[]⟩ = (x.f_Contact.f_At == 0&&(x.f_Contact.f_Mode == 0&&(x.f_Contact.f_Band == []&&(x.f_Contact.f_Call == []&&(x.f_Contact.f_Sent == 0&&(x.f_Contact.f_Heard == 0&&(x.f_Contact.f_Gave == []&&(x.f_Contact.f_Got == []))))))))  := by unfold yaky;simp only [Bool.and_true]
      rw [hE]
      generalize (x.f_Contact.f_At == 0&&(x.f_Contact.f_Mode == 0&&(x.f_Contact.f_Band == []&&(x.f_Contact.f_Call == []&&(x.f_Contact.f_Sent == 0&&(x.f_Contact.f_Heard == 0&&(x.f_Contact.f_Gave == []&&(x.f_Contact.f_Got == [])))))))) = b
      cases keyB x.f_Of with
      | false=>rfl
      | true =>
       cases inB x.f_Other 1 1000000 with
       | false=>rfl
       | true=>cases b <;> cases x.f_Band == [] <;> rfl
theorem ylAy (d:List G_Deed) (hf:∀ c∈d,FineDW c) (hl:d.length≤2000):∀ (xs:List G_Deed) (n i:Nat) (p:Option G_Deed),d.drop i = xs→yfmy d i p→xs.length < n→∀ (R:Type) (e0:List G_Deed→Int→Option R) (e1:List G_Deed→Option R),
  z3z_L4 I_z3z n d d (d.length:Int) (i:Int) e0 e1 = bif yaSy p xs != 0 then e0 d (yaSy p xs) else e1 d
 | _,0,_,_,_,_,h,_,_,_=>by omega
 | [],n + 1,i,p,h,_,_,R,e0,e1=>by rw [z3z_L4,ya2y h];rfl
 | c::cs,n + 1,i,p,h,hp,hn,R,e0,e1=>by
  have h':=yavy h
  have hn':cs.length < n:=Nat.lt_of_succ_lt_succ (by simpa only [List.length_cons] using hn)
  have ih:=ylAy d hf hl cs n (i + 1) (some c) h'.2.2.1 (ygyy h) hn' R e0 e1
  have hc:=hf c (ybOy h)
  have he:∀ k:Int→Option R,I_z3z.z49z c k = k (fD c):=fun k=>z49z_W hc R k
  rw [z3z_L4,yaYy h,cond_true,yaPy h,he,yapy (show i < 4611686018427387904 by omega),ih]
  cases p with
  | none =>
   rw [yfly]
   cases q0:fD c != 0 with
   | true=>simp only [cond_true,q0]
   | false =>
    rw [decide_eq_false (show ¬ ((i:Int) > 0) by unfold yfmy at hp;omega)];rfl
  | some q =>
   rw [yfny]
   cases q0:fD c != 0 with
   | true=>simp only [cond_true,q0]
   | false =>
    obtain ⟨h0,ys,hq⟩:=hp
    have ho:∀ (k:Int→Option R),I_z3z.z2z q c k = k (cmpD q c):=fun k=>z2z_W (hf q (ybOy hq)) hc R k
    simp only [cond_false]
    rw [decide_eq_true (show ((i:Int) > 0) by omega),cond_true,yiPy hq h0 (by omega),ho]
    cases decide (cmpD q c ≥ 0) <;> rfl
theorem yjzy (d:List G_Deed) (hl:d.length≤2000):∀ (xs:List G_Deed) (n i:Nat),d.drop i = xs→xs.length < n→∀ (R:Type) (e0:Int→Option R) (e1:Option R),
  z3z_L13 I_z3z n d d (d.length:Int) (i:Int) e0 e1 = bif dupD (d.take i) xs then e0 6 else e1
 | _,0,_,_,h,_,_,_=>by omega
 | [],n + 1,i,h,_,R,e0,e1=>by rw [z3z_L13,ya2y h];rfl
 | c::cs,n + 1,i,h,hn,R,e0,e1=>by
  have h':=yavy h
  have ih:=yjzy d hl cs n (i + 1) h'.2.2.1 (Nat.lt_of_succ_lt_succ (by simpa only [List.length_cons] using hn)) R e0 e1
  have hc:∀ (k:Bool→G_Deed→Option R),I_z3z.z18z (d.take i) c k = k ((d.take i).any fun o=>o.f_Site == c.f_Site&&o.f_No == c.f_No) c:=fun k=>yuRy _ (by rw [List.length_take];omega) c R k
  rw [z3z_L13,yaYy h,cond_true,yaPy h,decide_eq_true (show (0:Int)≤(i:Int) by omega),decide_eq_true (show (i:Int)≤(d.length:Int) by omega),Bool.and_self,cond_true,Int.toNat_natCast,hc,yapy (show i < 4611686018427387904 by omega),ih,dupD,yddy h]
  cases (d.take i).any fun o=>o.f_Site == c.f_Site&&o.f_No == c.f_No <;> rfl
theorem z3z_W {d:List G_Deed} (hf:∀ c∈d,FineDW c) (hl:d.length≤2000) (R:Type) (k:Int→Option R):z3z d k = k (ybHy d):=by
 have unf:z3z d k = (z3z_L4 I_z3z NN d d (d.length:Int) 0 (fun e14 e15=>k e15) (fun e16=>(z3z_L13 I_z3z NN e16 e16 (e16.length:Int) 0 (fun e27=>k e27) (k 0)))):=by
  show (bif (decide ((d.length:Int) > 2000)) then k 2 else _) = _
  rw [decide_eq_false (by omega)];rfl
 rw [unf]
 refine (ylAy d hf hl d NN 0 none rfl rfl (by have:=NN_ok;omega) R _ _).trans ?_
 have h2:=yjzy d hl d NN 0 rfl (by have:=NN_ok;omega) R (fun e27=>k e27) (k 0)
 unfold ybHy
 cases yaSy none d != 0 with
 | true=>rfl
 | false =>
  simp only [cond_false]
  refine h2.trans ?_
  rw [List.take_zero]
  cases dupD [] d <;> rfl
theorem ylCy (d:List G_Deed) (hf:∀ c∈d,FineDW c) (hl:d.length≤2000):∀ (xs:List G_Deed) (n i:Nat) (p:Option G_Deed),d.drop i = xs→yfmy d i p→xs.length < n→∀ (R:Type) (e0:List G_Deed→Int→Option R) (e1:List G_Deed→Option R),
  z7z_L4 I_z7z n d d (d.length:Int) (i:Int) e0 e1 = bif yaSy p xs != 0 then e0 d (yaSy p xs) else e1 d
 | _,0,_,_,_,_,h,_,_,_=>by omega
 | [],n + 1,i,p,h,_,_,R,e0,e1=>by rw [z7z_L4,ya2y h];rfl
 | c::cs,n + 1,i,p,h,hp,hn,R,e0,e1=>by
  have h':=yavy h
  have hn':cs.length < n:=Nat.lt_of_succ_lt_succ (by simpa only [List.length_cons] using hn)
  have ih:=ylCy d hf hl cs n (i + 1) (some c) h'.2.2.1 (ygyy h) hn' R e0 e1
  have hc:=hf c (ybOy h)
  have he:∀ k:Int→Option R,I_z7z.net_formed c k = k (fD c):=fun k=>ytJy hc R k
  rw [z7z_L4,yaYy h,cond_true,yaPy h,he,yapy (show i < 4611686018427387904 by omega),ih]
  cases p with
  | none =>
   rw [yfly]
   cases q0:fD c != 0 with
   | true=>simp only [cond_true,q0]
   | false =>
    rw [decide_eq_false (show ¬ ((i:Int) > 0) by unfold yfmy at hp;omega)];rfl
  | some q =>
   rw [yfny]
   cases q0:fD c != 0 with
   | true=>simp only [cond_true,q0]
   | false =>
    obtain ⟨h0,ys,hq⟩:=hp
    have ho:∀ (k:Int→Option R),I_z7z.z76z q c k = k (cmpD q c):=fun k=>z76z_is q c R k
    simp only [cond_false]
    rw [decide_eq_true (show ((i:Int) > 0) by omega),cond_true,yiPy hq h0 (by omega),ho]
    cases decide (cmpD q c ≥ 0) <;> rfl
theorem yjLy (d:List G_Deed) (hl:d.length≤2000):∀ (xs:List G_Deed) (n i:Nat) (m:List (G_net_own×Bool)),d.drop i = xs→xs.length < n→(∀ w,(yaFy w m).getD false = (d.take i).any fun c=>decide (ownD c = w))→∀ (R:Type) (e0:Int→Option R) (e1:Option R),
  z7z_L14 I_z7z n d (d.length:Int) (i:Int) m e0 e1 = bif dupD (d.take i) xs then e0 6 else e1
 | _,0,_,_,_,h,_,_,_,_=>by omega
 | [],n + 1,i,m,h,_,_,R,e0,e1=>by rw [z7z_L14,ya2y h];rfl
 | c::cs,n + 1,i,m,h,hn,hm,R,e0,e1=>by
  have h':=yavy h
  have hh:(yaFy ⟨c.f_Site,c.f_No⟩ m).getD false = (d.take i).any fun o=>o.f_Site == c.f_Site&&o.f_No == c.f_No:=(hm (ownD c)).trans (yxUy _ c)
  have ih:=yjLy d hl cs n (i + 1) (yaMy ⟨c.f_Site,c.f_No⟩ true m) h'.2.2.1 (Nat.lt_of_succ_lt_succ (by simpa only [List.length_cons] using hn)) (fun w=>by
   rw [yddy h,List.any_append,List.any_cons,List.any_nil,Bool.or_false,yaRy,ydvy,yg7y ybny]
   have hmw:=hm w
   rw [yaRy] at hmw
   by_cases e:w = ownD c
   ·have e2:yaUy w ⟨c.f_Site,c.f_No⟩ = true:=(ybny _ _).2 e
    rw [e2,decide_eq_true e.symm];simp
   ·have e2:yaUy w ⟨c.f_Site,c.f_No⟩ = false:=by
     cases hq:yaUy w ⟨c.f_Site,c.f_No⟩ with
     | false=>rfl
     | true=>exact absurd ((ybny _ _).1 hq) e
    rw [e2,decide_eq_false (fun h=>e h.symm),cond_false,Bool.or_false]
    exact hmw) R e0 e1
  rw [z7z_L14,yaYy h,cond_true,yaPy h,hh,yapy (show i < 4611686018427387904 by omega),ih,dupD,yddy h]
  cases (d.take i).any fun o=>o.f_Site == c.f_Site&&o.f_No == c.f_No <;> rfl
theorem z7z_W {d:List G_Deed} (hf:∀ c∈d,FineDW c) (hl:d.length≤2000) (R:Type) (k:Int→Option R):z7z d k = k (ybHy d):=by
 have unf:z7z d k = (z7z_L4 I_z7z NN d d (d.length:Int) 0 (fun e14 e15=>k e15) (fun e16=>(z7z_L14 I_z7z NN e16 (e16.length:Int) 0 [] (fun e23=>k e23) (k 0)))):=by
  show (bif (decide ((d.length:Int) > 2000)) then k 2 else _) = _
  rw [decide_eq_false (by omega)];rfl
 rw [unf]
 refine (ylCy d hf hl d NN 0 none rfl rfl (by have:=NN_ok;omega) R _ _).trans ?_
 have h2:=yjLy d hl d NN 0 [] rfl (by have:=NN_ok;omega) (fun w=>by rw [yaRy];rfl) R (fun e27=>k e27) (k 0)
 unfold ybHy
 cases yaSy none d != 0 with
 | true=>rfl
 | false =>
  simp only [cond_false]
  refine h2.trans ?_
  rw [List.take_zero]
  cases dupD [] d <;> rfl
noncomputable def ycgy (d:List G_Deed):Int:=if d.length > 2000 then 2 else ybHy d
theorem z3z_any {d:List G_Deed} (hf:∀ c∈d,FineDW c) (hl:d.length≤1000000) (R:Type) (k:Int→Option R):z3z d k = k (ycgy d):=by
 unfold ycgy
 by_cases h:d.length > 2000
 ·rw [if_pos h]
  show (bif (decide ((d.length:Int) > 2000)) then k 2 else _) = _
  rw [decide_eq_true (by omega)];rfl
 ·rw [if_neg h]
  exact z3z_W hf (by omega) R k
theorem z7z_any {d:List G_Deed} (hf:∀ c∈d,FineDW c) (hl:d.length≤1000000) (R:Type) (k:Int→Option R):z7z d k = k (ycgy d):=by
 unfold ycgy
 by_cases h:d.length > 2000
 ·rw [if_pos h]
  show (bif (decide ((d.length:Int) > 2000)) then k 2 else _) = _
  rw [decide_eq_true (by omega)];rfl
 ·rw [if_neg h]
  exact z7z_W hf (by omega) R k
end Go.Am
set_option linter.unusedVariables false
set_option linter.unusedSectionVars false
set_option linter.unusedSimpArgs false
set_option maxRecDepth 100000
namespace Go.Am
open Go Go.Proofs
variable [Fuel]
abbrev logW:List UInt8:=[108,111,103]
abbrev tuneW:List UInt8:=[116,117,110,101]
abbrev heldW:List UInt8:=[104,101,108,100]
abbrev freeW:List UInt8:=[102,114,101,101]
abbrev undoW:List UInt8:=[117,110,100,111]
abbrev conS (n:Int):G_Contact:=⟨0,0,[],[],n,0,[],[]⟩
def deedK (s:List UInt8) (n a:Int) (kw r0:List UInt8) (rs:List (List UInt8)):Option G_Deed :=
 if kw = logW then (if contB (r0::rs) then some ⟨s,n,a,1,contQ (r0::rs),[],[],0⟩ else none)
 else if kw = tuneW then (match rs with | []=>some ⟨s,n,a,2,noCon,r0,[],0⟩ | _=>none)
 else if kw = heldW then (match rs with | []=>if numB r0 then some ⟨s,n,a,3,conS (numQ r0),[],[],0⟩ else none | _=>none)
 else if kw = freeW then (match rs with | []=>if numB r0 then some ⟨s,n,a,4,conS (numQ r0),[],[],0⟩ else none | _=>none)
 else if kw = undoW then (match rs with | [r1]=>if numB r1 then some ⟨s,n,a,5,noCon,[],r0,numQ r1⟩ else none | _=>none)
 else none
def deedG:List (List UInt8)→Option G_Deed
 | s::n::a::kw::r0::rs=>if numB n&&numB a then deedK s (numQ n) (numQ a) kw r0 rs else none
 | _=>none
def deedL (l:List UInt8):Option G_Deed:=if ygty l then deedG (yaly 32 l) else none
theorem yrwy {ws:List (List UInt8)}:(ws.length≤4∧deedG ws = none) ∨ ∃ s n a kw r0 rs,ws = s::n::a::kw::r0::rs:=by
 match ws with
 | s::n::a::kw::r0::rs=>exact .inr ⟨s,n,a,kw,r0,rs,rfl⟩
 | []=>exact .inl ⟨by simp,rfl⟩
 | [_]=>exact .inl ⟨by simp,rfl⟩
 | [_,_]=>exact .inl ⟨by simp,rfl⟩
 | [_,_,_]=>exact .inl ⟨by simp,rfl⟩
 | [_,_,_,_]=>exact .inl ⟨by simp,rfl⟩
theorem yBvy {kw:List UInt8} (h1:kw≠logW) (h2:kw≠tuneW) (h3:kw≠heldW) (h4:kw≠freeW) (h5:kw≠undoW):idxG kw ycLy = 0 ∨ idxG kw ycLy = -1:=by
 have e1:(kw == logW) = false:=beq_eq_false_iff_ne.2 h1
 have e2:(kw == tuneW) = false:=beq_eq_false_iff_ne.2 h2
 have e3:(kw == heldW) = false:=beq_eq_false_iff_ne.2 h3
 have e4:(kw == freeW) = false:=beq_eq_false_iff_ne.2 h4
 have e5:(kw == undoW) = false:=beq_eq_false_iff_ne.2 h5
 unfold ycLy
 simp only [idxG,e1,e2,e3,e4,e5]
 cases kw == [] <;> simp
theorem yvIy {l:List UInt8} (hl:l.length≤900000):∃ z:G_Deed,∀ (R:Type) (k:G_Deed→Bool→Option R),z46z l k = (deedL l).elim (k z false) fun c=>k c true:=by
 have hd:=ymzy (l:=l) (by omega)
 have start:∀ (R:Type) (k:G_Deed→Bool→Option R),z46z l k = z46z_ ybby l k:=fun _ _=>rfl
 unfold deedL
 cases hok:ygty l with
 | false =>
  refine ⟨⟨[],0,0,0,noCon,[],[],0⟩,fun R k=>?_⟩
  have w1:∀ k:List (List UInt8)→Bool→Option R,ybby.kit_Words l k = k [] false:=fun k=>by
   refine (youy hl R k).trans ?_
   rw [hok];rfl
  rw [start]
  unfold z46z_
  rw [w1];rfl
 | true =>
  rw [if_pos rfl]
  have w1:∀ (R:Type) (k:List (List UInt8)→Bool→Option R),ybby.kit_Words l k = k (yaly 32 l) true:=fun R k=>by
   refine (youy hl R k).trans ?_
   rw [hok];rfl
  generalize yaly 32 l = ws at hd w1
  rcases yrwy (ws:=ws) with ⟨h1,h2⟩ | ⟨s,n,a,kw,r0,rs,rfl⟩
  ·refine ⟨⟨[],0,0,0,noCon,[],[],0⟩,fun R k=>?_⟩
   rw [start]
   unfold z46z_
   rw [w1,Bool.not_true,cond_false,decide_eq_true (show (ws.length:Int)≤4 by omega),h2];rfl
  ·have g1:decide ((((s::n::a::kw::r0::rs).length:Nat):Int)≤4) = false:=decide_eq_false (by simp;omega)
   have g2:(decide ((0:Nat)≤1)&&(decide ((1:Nat)≤3)&&decide ((3:Int)≤(((s::n::a::kw::r0::rs).length:Nat):Int)))) = true:=by rw [decide_eq_true (p:=(3:Int)≤_) (by simp;omega)];rfl
   have g3:(decide ((0:Nat)≤4)&&decide ((4:Int)≤(((s::n::a::kw::r0::rs).length:Nat):Int))) = true:=by rw [decide_eq_true (p:=(4:Int)≤_) (by simp;omega)];rfl
   have t1:((s::n::a::kw::r0::rs).take ((3:Int)).toNat).drop ((1:Int)).toNat = [n,a]:=rfl
   have t2:(s::n::a::kw::r0::rs).drop ((4:Int)).toNat = r0::rs:=rfl
   have w2:∀ (R:Type) (k:List Int→Bool→Option R),ybby.z37z [n,a] k = bif [n,a].all numB then k [numQ n,numQ a] true else k [] false:=fun R k=>z37z_g (d:=[n,a]) (fun w hw=>by
    simp only [List.mem_cons,List.not_mem_nil,or_false] at hw
    rcases hw with rfl | rfl <;> exact hd _ (by simp)) (by simp) R k
   have e1:[n,a].all numB = (numB n&&numB a):=by simp
   show ∃ z:G_Deed,∀ (R:Type) (k:G_Deed→Bool→Option R),z46z l k = (if numB n&&numB a then deedK s (numQ n) (numQ a) kw r0 rs else none).elim (k z false) fun c=>k c true
   cases hna:(numB n&&numB a) with
   | false =>
    refine ⟨⟨[],0,0,0,noCon,[],[],0⟩,fun R k=>?_⟩
    rw [start]
    unfold z46z_
    rw [w1,Bool.not_true,cond_false,g1,cond_false,g2,cond_true,t1,w2,e1,hna];rfl
   | true =>
    rw [if_pos rfl]
    have a0:∀ (R:Type) (k:List UInt8→Option R),inr (s::n::a::kw::r0::rs) 0 (at_ (s::n::a::kw::r0::rs) 0 k) = k s:=fun R k=>by
     rw [yhLy (by omega) (by simp;omega)];rfl
    have a3:∀ (R:Type) (k:List UInt8→Option R),inr (s::n::a::kw::r0::rs) 3 (at_ (s::n::a::kw::r0::rs) 3 k) = k kw:=fun R k=>by
     rw [yhLy (by omega) (by simp;omega)];rfl
    have b0:∀ (R:Type) (k:Int→Option R),inr [numQ n,numQ a] 0 (at_ [numQ n,numQ a] 0 k) = k (numQ n):=fun R k=>rfl
    have b1:∀ (R:Type) (k:Int→Option R),inr [numQ n,numQ a] 1 (at_ [numQ n,numQ a] 1 k) = k (numQ a):=fun R k=>rfl
    have c0:∀ (R:Type) (k:List (List UInt8)→Option R),ybby.z78z k = k ycLy:=fun R k=>rfl
    have c1:∀ (R:Type) (k:Int→Option R),ybby.z14z ycLy kw k = k (idxG kw ycLy):=fun R k=>yd3y kw ycLy (by decide) R k
    have num:∀ (w:List UInt8),w∈r0::rs→∀ (R:Type) (k:Int→Bool→Option R),ybby.kit_Number w 15 k = (numG w).elim (k 0 false) fun n=>k n true:=fun w hw R k=>ymXy (hd w (by simp at hw ⊢;rcases hw with h | h <;> simp [h])) R k
    have d1:∀ (R:Type) (k:G_Contact→Bool→Option R),ybby.z61z (r0::rs) k = bif contB (r0::rs) then k (contQ (r0::rs)) true else k ⟨0,0,[],[],0,0,[],[]⟩ false:=fun R k=>z61z_g (fun w hw=>hd w (by simp at hw ⊢;rcases hw with h | h <;> simp [h])) R k
    have at0:∀ (R:Type) (k:List UInt8→Option R),at_ (r0::rs) 0 k = k r0:=fun R k=>rfl
    have base:∀ (R:Type) (k:G_Deed→Bool→Option R) (j:Int),idxG kw ycLy = j→z46z l k = (bif j == 1 then (ybby.z61z (r0::rs) fun r12 r13=>k ⟨s,numQ n,numQ a,j,r12,[],[],0⟩ r13)
      else bif j == 2 then (bif ((r0::rs).length:Int) == 1 then (at_ (r0::rs) 0 fun x14=>k ⟨s,numQ n,numQ a,j,noCon,x14,[],0⟩ true) else (bif j == 3 then (bif ((r0::rs).length:Int) == 1 then (at_ (r0::rs) 0 fun x15=>ybby.kit_Number x15 15 fun r16 r17=>k ⟨s,numQ n,numQ a,j,conS r16,[],[],0⟩ r17) else (bif j == 5 then (bif ((r0::rs).length:Int) == 2 then (at_ (r0::rs) 0 fun x18=>at_ (r0::rs) 1 fun x19=>ybby.kit_Number x19 15 fun r20 r21=>k ⟨s,numQ n,numQ a,j,noCon,[],x18,r20⟩ r21) else k ⟨[],0,0,0,noCon,[],[],0⟩ false) else k ⟨[],0,0,0,noCon,[],[],0⟩ false)) else (bif j == 4 then (bif ((r0::rs).length:Int) == 1 then (at_ (r0::rs) 0 fun x22=>ybby.kit_Number x22 15 fun r23 r24=>k ⟨s,numQ n,numQ a,j,conS r23,[],[],0⟩ r24) else (bif j == 5 then (bif ((r0::rs).length:Int) == 2 then (at_ (r0::rs) 0 fun x25=>at_ (r0::rs) 1 fun x26=>ybby.kit_Number x26 15 fun r27 r28=>k ⟨s,numQ n,numQ a,j,noCon,[],x25,r27⟩ r28) else k ⟨[],0,0,0,noCon,[],[],0⟩ false) else k ⟨[],0,0,0,noCon,[],[],0⟩ false)) else (bif j == 5 then (bif ((r0::rs).length:Int) == 2 then (at_ (r0::rs) 0 fun x29=>at_ (r0::rs) 1 fun x30=>ybby.kit_Number x30 15 fun r31 r32=>k ⟨s,numQ n,numQ a,j,noCon,[],x29,r31⟩ r32) else k ⟨[],0,0,0,noCon,[],[],0⟩ false) else k ⟨[],0,0,0,noCon,[],[],0⟩ false))))
      else (bif j == 3 then (bif ((r0::rs).length:Int) == 1 then (at_ (r0::rs) 0 fun x33=>ybby.kit_Number x33 15 fun r34 r35=>k ⟨s,numQ n,numQ a,j,conS r34,[],[],0⟩ r35) else (bif j == 5 then (bif ((r0::rs).length:Int) == 2 then (at_ (r0::rs) 0 fun x36=>at_ (r0::rs) 1 fun x37=>ybby.kit_Number x37 15 fun r38 r39=>k ⟨s,numQ n,numQ a,j,noCon,[],x36,r38⟩ r39) else k ⟨[],0,0,0,noCon,[],[],0⟩ false) else k ⟨[],0,0,0,noCon,[],[],0⟩ false)) else (bif j == 4 then (bif ((r0::rs).length:Int) == 1 then (at_ (r0::rs) 0 fun x40=>ybby.kit_Number x40 15 fun r41 r42=>k ⟨s,numQ n,numQ a,j,conS r41,[],[],0⟩ r42) else (bif j == 5 then (bif ((r0::rs).length:Int) == 2 then (at_ (r0::rs) 0 fun x43=>at_ (r0::rs) 1 fun x44=>ybby.kit_Number x44 15 fun r45 r46=>k ⟨s,numQ n,numQ a,j,noCon,[],x43,r45⟩ r46) else k ⟨[],0,0,0,noCon,[],[],0⟩ false) else k ⟨[],0,0,0,noCon,[],[],0⟩ false)) else (bif j == 5 then (bif ((r0::rs).length:Int) == 2 then (at_ (r0::rs) 0 fun x47=>at_ (r0::rs) 1 fun x48=>ybby.kit_Number x48 15 fun r49 r50=>k ⟨s,numQ n,numQ a,j,noCon,[],x47,r49⟩ r50) else k ⟨[],0,0,0,noCon,[],[],0⟩ false) else k ⟨[],0,0,0,noCon,[],[],0⟩ false))):Option R):=fun R k j hj=>by
     subst hj
     rw [start]
     unfold z46z_
     rw [w1,Bool.not_true,cond_false,g1,cond_false,g2,cond_true,t1,w2,e1,hna,cond_true,Bool.not_true,cond_false,a0,b0,b1,a3,c0,c1,g3,cond_true,t2]
     rfl
    have l1:∀ (rs:List (List UInt8)) (x:List UInt8),rs≠[]→(((r0::rs).length:Int) == 1) = false:=fun rs x h=>beq_eq_false_iff_ne.2 (by
     have:=List.length_pos_iff.2 h
     rw [List.length_cons];omega)
    unfold deedK
    by_cases k1:kw = logW
    ·subst k1
     rw [if_pos rfl]
     refine ⟨⟨s,numQ n,numQ a,1,⟨0,0,[],[],0,0,[],[]⟩,[],[],0⟩,fun R k=>?_⟩
     rw [base R k 1 (by decide),beq_self_eq_true,cond_true,d1]
     cases contB (r0::rs) <;> rfl
    ·rw [if_neg k1]
     by_cases k2:kw = tuneW
     ·subst k2
      rw [if_pos rfl]
      refine ⟨⟨[],0,0,0,noCon,[],[],0⟩,fun R k=>?_⟩
      rw [base R k 2 (by decide)]
      cases rs with
      | nil=>rfl
      | cons r1 rs =>
       rw [l1 (r1::rs) r1 (List.cons_ne_nil _ _)]
       rfl
     ·rw [if_neg k2]
      by_cases k3:kw = heldW
      ·subst k3
       rw [if_pos rfl]
       cases rs with
       | nil =>
        refine ⟨⟨s,numQ n,numQ a,3,conS 0,[],[],0⟩,fun R k=>?_⟩
        rw [base R k 3 (by decide)]
        show ybby.kit_Number r0 15 _ = _
        rw [num r0 (by simp),yqCy]
        cases numB r0 <;> rfl
       | cons r1 rs =>
        refine ⟨⟨[],0,0,0,noCon,[],[],0⟩,fun R k=>?_⟩
        rw [base R k 3 (by decide),l1 (r1::rs) r1 (List.cons_ne_nil _ _)]
        rfl
      ·rw [if_neg k3]
       by_cases k4:kw = freeW
       ·subst k4
        rw [if_pos rfl]
        cases rs with
        | nil =>
         refine ⟨⟨s,numQ n,numQ a,4,conS 0,[],[],0⟩,fun R k=>?_⟩
         rw [base R k 4 (by decide)]
         show ybby.kit_Number r0 15 _ = _
         rw [num r0 (by simp),yqCy]
         cases numB r0 <;> rfl
        | cons r1 rs =>
         refine ⟨⟨[],0,0,0,noCon,[],[],0⟩,fun R k=>?_⟩
         rw [base R k 4 (by decide),l1 (r1::rs) r1 (List.cons_ne_nil _ _)]
         rfl
       ·rw [if_neg k4]
        by_cases k5:kw = undoW
        ·subst k5
         rw [if_pos rfl]
         match rs with
         | []=>exact ⟨⟨[],0,0,0,noCon,[],[],0⟩,fun R k=>by rw [base R k 5 (by decide)];rfl⟩
         | [r1] =>
          refine ⟨⟨s,numQ n,numQ a,5,noCon,[],r0,0⟩,fun R k=>?_⟩
          rw [base R k 5 (by decide)]
          show (ybby.kit_Number r1 15 fun r49 r50=>k ⟨s,numQ n,numQ a,5,noCon,[],r0,r49⟩ r50) = Option.elim (if numB r1 = true then some (⟨s,numQ n,numQ a,5,noCon,[],r0,numQ r1⟩:G_Deed) else none) (k ⟨s,numQ n,numQ a,5,noCon,[],r0,0⟩ false) fun c=>k c true
          rw [num r1 (by simp),yqCy]
          cases numB r1 <;> rfl
         | r1::r2::rs =>
          refine ⟨⟨[],0,0,0,noCon,[],[],0⟩,fun R k=>?_⟩
          have l2:(((r0::r1::r2::rs).length:Int) == 2) = false:=beq_eq_false_iff_ne.2 (by simp only [List.length_cons];omega)
          rw [base R k 5 (by decide),l2]
          rfl
        ·rw [if_neg k5]
         refine ⟨⟨[],0,0,0,noCon,[],[],0⟩,fun R k=>?_⟩
         rcases yBvy k1 k2 k3 k4 k5 with h | h
         ·rw [base R k 0 h];rfl
         ·rw [base R k (-1) h];rfl
end Go.Am
set_option linter.unusedVariables false
set_option linter.unusedSectionVars false
set_option linter.unusedSimpArgs false
set_option maxRecDepth 100000
namespace Go.Am
open Go Go.Proofs
variable [Fuel]
def needD (kw:List UInt8):Int:=if kw = logW then 12 else if kw = tuneW then 5 else if kw = heldW then 5 else if kw = freeW then 5 else if kw = undoW then 6 else 0
theorem tabD:yaby undoW 6 (yaby freeW 5 (yaby heldW 5 (yaby tuneW 5 (yaby logW 12 [])))) = [(logW,12),(tuneW,5),(heldW,5),(freeW,5),(undoW,6)]:=by kernel_rfl
theorem ytUy (kw:List UInt8):(yaay kw (yaby undoW 6 (yaby freeW 5 (yaby heldW 5 (yaby tuneW 5 (yaby logW 12 [])))))).getD 0 = needD kw:=by
 rw [tabD]
 simp only [yk8y,ylRy,ycby,Bool.and_true]
 unfold needD
 have e:∀ v:List UInt8,(kw == v) = decide (kw = v):=fun v=>by
  by_cases h:kw = v
  ·rw [decide_eq_true h,beq_iff_eq.2 h]
  ·rw [decide_eq_false h,beq_eq_false_iff_ne.2 h]
 simp only [e]
 by_cases h1:kw = logW
 ·rw [if_pos h1,decide_eq_true h1];rfl
 ·rw [if_neg h1,decide_eq_false h1,cond_false]
  by_cases h2:kw = tuneW
  ·rw [if_pos h2,decide_eq_true h2];rfl
  ·rw [if_neg h2,decide_eq_false h2,cond_false]
   by_cases h3:kw = heldW
   ·rw [if_pos h3,decide_eq_true h3];rfl
   ·rw [if_neg h3,decide_eq_false h3,cond_false]
    by_cases h4:kw = freeW
    ·rw [if_pos h4,decide_eq_true h4];rfl
    ·rw [if_neg h4,decide_eq_false h4,cond_false]
     by_cases h5:kw = undoW
     ·rw [if_pos h5,decide_eq_true h5];rfl
     ·rw [if_neg h5,decide_eq_false h5];rfl
def GotD (o:Option G_Deed) (acc acc':List G_Deed):Prop:=∀ c,o = some c→acc' = acc++[c]
theorem yzey {l:List UInt8} {acc:List G_Deed} (hl:l.length≤900000) (ha:acc.length≤1000000):∃ acc',(∀ (R:Type) (k:Bool→List G_Deed→Option R),z40z l acc k = k (deedL l).isSome acc')∧GotD (deedL l) acc acc':=by
 have hd:=ymzy (l:=l) (by omega)
 have start:∀ (R:Type) (k:Bool→List G_Deed→Option R),z40z l acc k = z40z_ yfhy l acc k:=fun _ _=>rfl
 have w1:∀ (R:Type) (k:List (List UInt8)→Bool→Option R),yfhy.Q_Words l k = k (yaly 32 l) (ygty l):=fun R k=>yBby hl R k
 unfold deedL
 cases hok:ygty l with
 | false =>
  refine ⟨acc,fun R k=>?_,fun c h=>by cases h⟩
  rw [start]
  unfold z40z_
  rw [w1,hok];rfl
 | true =>
  rw [if_pos rfl]
  rw [hok] at w1
  generalize yaly 32 l = ws at hd w1
  rcases yrwy (ws:=ws) with ⟨h1,h2⟩ | ⟨s,n,a,kw,r0,rs,rfl⟩
  ·refine ⟨acc,fun R k=>?_,fun c h=>by rw [h2] at h;cases h⟩
   rw [start]
   unfold z40z_
   rw [w1,Bool.not_true,cond_false,decide_eq_true (show (ws.length:Int) < 5 by omega),h2];rfl
  ·have el:(((s::n::a::kw::r0::rs).length:Nat):Int) = 5 + (rs.length:Int):=by simp;omega
   have g1:decide ((((s::n::a::kw::r0::rs).length:Nat):Int) < 5) = false:=decide_eq_false (by omega)
   have g2:(decide ((0:Nat)≤1)&&(decide ((1:Nat)≤3)&&decide ((3:Int)≤(((s::n::a::kw::r0::rs).length:Nat):Int)))) = true:=by rw [decide_eq_true (p:=(3:Int)≤_) (by omega)];rfl
   have g3:(decide ((0:Nat)≤4)&&decide ((4:Int)≤(((s::n::a::kw::r0::rs).length:Nat):Int))) = true:=by rw [decide_eq_true (p:=(4:Int)≤_) (by omega)];rfl
   have t1:((s::n::a::kw::r0::rs).take ((3:Int)).toNat).drop ((1:Int)).toNat = [n,a]:=rfl
   have t2:(s::n::a::kw::r0::rs).drop ((4:Int)).toNat = r0::rs:=rfl
   have w2:∀ (R:Type) (k:List Int→Bool→Option R),yfhy.z36z [n,a] 15 k = k [numQ n,numQ a] (numB n&&numB a):=fun R k=>by
    refine (z36z_g (d:=[n,a]) (fun w hw=>by
     simp only [List.mem_cons,List.not_mem_nil,or_false] at hw
     rcases hw with rfl | rfl <;> exact hd _ (by simp)) (by simp) R k).trans ?_
    simp
   have a0:∀ (R:Type) (k:List UInt8→Option R),inr (s::n::a::kw::r0::rs) 0 (at_ (s::n::a::kw::r0::rs) 0 k) = k s:=fun R k=>by
    rw [yhLy (by omega) (by omega)];rfl
   have a3:∀ (R:Type) (k:List UInt8→Option R),inr (s::n::a::kw::r0::rs) 3 (at_ (s::n::a::kw::r0::rs) 3 k) = k kw:=fun R k=>by
    rw [yhLy (by omega) (by omega)];rfl
   have a4:∀ (R:Type) (k:List UInt8→Option R),inr (s::n::a::kw::r0::rs) 4 (at_ (s::n::a::kw::r0::rs) 4 k) = k r0:=fun R k=>by
    rw [yhLy (by omega) (by omega)];rfl
   have b0:∀ (R:Type) (k:Int→Option R),inr [numQ n,numQ a] 0 (at_ [numQ n,numQ a] 0 k) = k (numQ n):=fun R k=>rfl
   have b1:∀ (R:Type) (k:Int→Option R),inr [numQ n,numQ a] 1 (at_ [numQ n,numQ a] 1 k) = k (numQ a):=fun R k=>rfl
   have num:∀ (w:List UInt8),w∈r0::rs→∀ (R:Type) (k:Int→Bool→Option R),yfhy.Q_Number w 15 k = k (numQ w) (numB w):=fun w hw R k=>ypVy (hd w (by simp at hw ⊢;rcases hw with h | h <;> simp [h])) R k
   have d1:∀ (R:Type) (k:G_Contact→Bool→Option R),yfhy.z72z (r0::rs) k = k (contQ (r0::rs)) (contB (r0::rs)):=fun R k=>z72z_g (fun w hw=>hd w (by simp at hw ⊢;rcases hw with h | h <;> simp [h])) R k
   have rm:∀ x:G_Deed,decide ((acc.length + [x].length) * 176≤yaey) = true:=fun x=>room1 acc x 176 (by omega) (by omega)
   show ∃ acc',(∀ (R:Type) (k:Bool→List G_Deed→Option R),z40z l acc k = k (if numB n&&numB a then deedK s (numQ n) (numQ a) kw r0 rs else none).isSome acc')∧GotD (if numB n&&numB a then deedK s (numQ n) (numQ a) kw r0 rs else none) acc acc'
   have short:(((s::n::a::kw::r0::rs).length:Int) != needD kw) = true→deedK s (numQ n) (numQ a) kw r0 rs = none→∃ acc',(∀ (R:Type) (k:Bool→List G_Deed→Option R),z40z l acc k = k (if numB n&&numB a then deedK s (numQ n) (numQ a) kw r0 rs else none).isSome acc')∧GotD (if numB n&&numB a then deedK s (numQ n) (numQ a) kw r0 rs else none) acc acc':=fun hne hk=>by
    have hz:(if numB n&&numB a then deedK s (numQ n) (numQ a) kw r0 rs else none) = none:=by rw [hk];split <;> rfl
    rw [hz]
    refine ⟨acc,fun R k=>?_,fun c h=>by cases h⟩
    rw [start]
    unfold z40z_
    rw [w1,Bool.not_true,cond_false,g1,cond_false,a3,ytUy,hne];rfl
   have long:∀ (x:G_Deed) (b:Bool),deedK s (numQ n) (numQ a) kw r0 rs = (if b then some x else none)→(∀ (R:Type) (k:Bool→List G_Deed→Option R),z40z l acc k = (bif (numB n&&numB a) then k b (acc++[x]) else k false (acc++[x])))→∃ acc',(∀ (R:Type) (k:Bool→List G_Deed→Option R),z40z l acc k = k (if numB n&&numB a then deedK s (numQ n) (numQ a) kw r0 rs else none).isSome acc')∧GotD (if numB n&&numB a then deedK s (numQ n) (numQ a) kw r0 rs else none) acc acc':=fun x b hk hr=>by
    refine ⟨acc++[x],fun R k=>?_,fun c h=>?_⟩
    ·rw [hr,hk]
     cases (numB n&&numB a) <;> cases b <;> rfl
    ·rw [hk] at h
     cases hb:(numB n&&numB a) with
     | false=>rw [hb] at h;cases h
     | true =>
      rw [hb] at h
      cases b with
      | false=>cases h
      | true=>rw [← Option.some.inj h]
   have pre:(((s::n::a::kw::r0::rs).length:Int) != needD kw) = false→∀ (R:Type) (k:Bool→List G_Deed→Option R),z40z l acc k = (bif kw == logW then k (bif (numB n&&numB a) then contB (r0::rs) else false) (acc++[⟨s,numQ n,numQ a,1,contQ (r0::rs),[],[],0⟩]) else
     bif kw == tuneW then k (numB n&&numB a) (acc++[⟨s,numQ n,numQ a,2,noCon,r0,[],0⟩]) else bif kw == heldW then k (bif (numB n&&numB a) then numB r0 else false) (acc++[⟨s,numQ n,numQ a,3,conS (numQ r0),[],[],0⟩]) else
     bif kw == freeW then k (bif (numB n&&numB a) then numB r0 else false) (acc++[⟨s,numQ n,numQ a,4,conS (numQ r0),[],[],0⟩]) else
     inr (s::n::a::kw::r0::rs) 5 (at_ (s::n::a::kw::r0::rs) 5 fun x22=>yfhy.Q_Number x22 15 fun r23 r24=>k (bif (numB n&&numB a) then r24 else false) (acc++[⟨s,numQ n,numQ a,5,noCon,[],r0,r23⟩])):Option R):=fun hne R k=>by
    rw [start]
    unfold z40z_
    rw [w1,Bool.not_true,cond_false,g1,cond_false,a3,ytUy,hne,cond_false,g2,cond_true,t1,w2,a0,b0,b1,a3,g3,cond_true,t2,d1,a4,a4,a4,a4,rm,rm,num r0 (by simp),num r0 (by simp),rm,rm]
    simp only [rm,cond_true]
    cases (numB n&&numB a) <;> rfl
   by_cases k1:kw = logW
   ·subst k1
    cases hne:(((s::n::a::logW::r0::rs).length:Int) != needD logW) with
    | true =>
     refine short hne ?_
     have h8:contB (r0::rs) = false:=by
      rcases eight (ws:=r0::rs) with ⟨q1,q2,q3⟩ | ⟨v0,v1,v2,v3,v4,v5,v6,v7,e⟩
      ·exact q2
      ·have hn12:needD logW = 12:=by decide
       have e7:rs.length = 7:=by
        have:=congrArg List.length e
        simpa using this
       rw [el,hn12,e7] at hne
       exact absurd hne (by decide)
     unfold deedK
     rw [if_pos rfl,h8];rfl
    | false =>
     refine long ⟨s,numQ n,numQ a,1,contQ (r0::rs),[],[],0⟩ (contB (r0::rs)) (by unfold deedK;rw [if_pos rfl]) fun R k=>?_
     rw [pre hne]
     cases (numB n&&numB a) <;> rfl
   ·by_cases k2:kw = tuneW
    ·subst k2
     have hn5:needD tuneW = 5:=by decide
     cases rs with
     | nil =>
      refine long ⟨s,numQ n,numQ a,2,noCon,r0,[],0⟩ true rfl fun R k=>?_
      rw [pre (by rw [hn5];rfl)]
      cases (numB n&&numB a) <;> rfl
     | cons r1 rs=>exact short (by rw [el,hn5,bne_iff_ne];simp only [List.length_cons];omega) rfl
    ·by_cases k3:kw = heldW
     ·subst k3
      have hn5:needD heldW = 5:=by decide
      cases rs with
      | nil =>
       refine long ⟨s,numQ n,numQ a,3,conS (numQ r0),[],[],0⟩ (numB r0) rfl fun R k=>?_
       rw [pre (by rw [hn5];rfl)]
       cases (numB n&&numB a) <;> rfl
      | cons r1 rs=>exact short (by rw [el,hn5,bne_iff_ne];simp only [List.length_cons];omega) rfl
     ·by_cases k4:kw = freeW
      ·subst k4
       have hn5:needD freeW = 5:=by decide
       cases rs with
       | nil =>
        refine long ⟨s,numQ n,numQ a,4,conS (numQ r0),[],[],0⟩ (numB r0) rfl fun R k=>?_
        rw [pre (by rw [hn5];rfl)]
        cases (numB n&&numB a) <;> rfl
       | cons r1 rs=>exact short (by rw [el,hn5,bne_iff_ne];simp only [List.length_cons];omega) rfl
      ·by_cases k5:kw = undoW
       ·subst k5
        have hn6:needD undoW = 6:=by decide
        cases rs with
        | nil=>exact short (by rw [hn6];rfl) rfl
        | cons r1 rs =>
         cases rs with
         | nil =>
          refine long ⟨s,numQ n,numQ a,5,noCon,[],r0,numQ r1⟩ (numB r1) rfl fun R k=>?_
          rw [pre (by rw [hn6];rfl)]
          show (yfhy.Q_Number r1 15 fun r23 r24=>k (bif (numB n&&numB a) then r24 else false) (acc++[⟨s,numQ n,numQ a,5,noCon,[],r0,r23⟩])) = _
          rw [num r1 (by simp)]
          cases (numB n&&numB a) <;> rfl
         | cons r2 rs=>exact short (by rw [el,hn6,bne_iff_ne];simp only [List.length_cons];omega) rfl
       ·have hn0:needD kw = 0:=by unfold needD;rw [if_neg k1,if_neg k2,if_neg k3,if_neg k4,if_neg k5]
        exact short (by rw [el,hn0,bne_iff_ne];omega) (by unfold deedK;rw [if_neg k1,if_neg k2,if_neg k3,if_neg k4,if_neg k5])
end Go.Am
