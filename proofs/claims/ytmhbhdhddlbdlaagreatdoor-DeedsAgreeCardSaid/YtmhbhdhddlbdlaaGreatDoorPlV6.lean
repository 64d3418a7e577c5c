/- The plain law, in Lean alone: V6, V7, V8, V9, W1, W2, W3. No condition: lemmas for the claim. -/
import Derived.Test.YtmhbhdhddlbdlaaGreatDoorPlV1
import Derived.Test.YtmhbhdhddlbdlaaGreatDoorPlH1
import Derived.Test.YtmhbhdhddlbdlaaGreatDoorPlB1
set_option linter.unusedVariables false
set_option linter.unusedSectionVars false
set_option linter.unusedSimpArgs false
set_option maxRecDepth 100000
namespace Go.Am
open Go Go.Proofs
variable [Fuel]
noncomputable def fD (x:G_Deed):Int:=(z77z x some).getD 0
theorem z77z_is {x:G_Deed} (h:FineD x) (R:Type) (k:Int→Option R):z77z x k = k (fD x):=by
 obtain ⟨e,he⟩:=z77z_gives h
 rw [he]
 unfold fD
 rw [he];rfl
theorem yuoy {x:G_Deed} (h:FineD x) (h0:fD x = 0):(∀ (R:Type) (k:Int→Option R),net_formed x k = k 0)∧(x.f_Kind = 1→chk x.f_Contact = 0):=by
 have hq:z77z x some = some 0:=by rw [z77z_is h,h0]
 have f1:=fun (R:Type) (k:Bool→Option R)=>yiiy h.site R k
 have f2:=fun (R:Type) (k:Bool→Option R)=>yiiy h.band R k
 have f3:=fun (R:Type) (k:Bool→Option R)=>yiiy h.of1 R k
 have f4:=fun (R:Type) (k:Int→Option R)=>z78z_is h.con R k
 have p1:=fun (R:Type) (k:Bool→Option R)=>ykay h.site R k
 have p2:=fun (R:Type) (k:Bool→Option R)=>ykay h.band R k
 have p3:=fun (R:Type) (k:Bool→Option R)=>ykay h.of1 R k
 have p4:=fun (R:Type) (k:Int→Option R)=>z58z_is h.con R k
 simp only [z77z,z77z_,ysyy,f1,f2,f3,f4,yovy,yjFy] at hq
 have hF:∀ (R:Type) (k:Int→Option R),net_formed x k = bif !keyB x.f_Site then k 5 else bif !inB x.f_No 1 1000000 then k 1 else bif !momB x.f_At then k 1 else bif !inB x.f_Kind 1 5 then k 4 else z50z x (fun r6=>bif r6 != 0 then k r6 else net_idle x (fun r7=>bif !r7 then k 3 else k 0)):=fun R k=>by
  simp only [net_formed,yevy,yb2y,p1,z45z_is,z54z_is]
 cases a1:keyB x.f_Site with
 | false=>rw [a1] at hq;simp at hq
 | true =>
  cases a2:inB x.f_No 1 1000000 with
  | false=>rw [a1,a2] at hq;simp at hq
  | true =>
   cases a3:momB x.f_At with
   | false=>rw [a1,a2,a3] at hq;simp at hq
   | true =>
    cases a4:inB x.f_Kind 1 5 with
    | false=>rw [a1,a2,a3,a4] at hq;simp at hq
    | true =>
     rw [a1,a2,a3,a4] at hq
     simp only [Bool.not_true,cond_false] at hq
     have hk:=ydly.1 a4
     have hk5:x.f_Kind = 1 ∨ x.f_Kind = 2 ∨ x.f_Kind = 3 ∨ x.f_Kind = 4 ∨ x.f_Kind = 5:=by omega
     have hF2:∀ (R:Type) (k:Int→Option R),net_formed x k = z50z x (fun r6=>bif r6 != 0 then k r6 else net_idle x (fun r7=>bif !r7 then k 3 else k 0)):=fun R k=>by
      rw [hF,a1,a2,a3,a4];rfl
     rcases hk5 with e | e | e | e | e
     ·simp only [e,beq_self_eq_true,cond_true] at hq
      cases b1:chk x.f_Contact != 0 with
      | true=>rw [b1] at hq;simp at hq;rw [hq] at b1;cases b1
      | false =>
       cases b2:decide (x.f_Contact.f_At > x.f_At) with
       | true=>rw [b1,b2] at hq;simp at hq
       | false =>
        rw [b1,b2] at hq
        simp only [cond_false] at hq
        cases b3:yaKy x ⟨x.f_Site,x.f_No,x.f_At,1,x.f_Contact,[],[],0⟩ with
        | false=>rw [b3] at hq;simp at hq
        | true =>
         have hx:=(ychy _ _).1 b3
         have c1:x.f_Band = []:=by rw [hx]
         have c2:x.f_Of = []:=by rw [hx]
         have c3:x.f_Other = 0:=by rw [hx]
         refine ⟨fun R k=>?_,fun _=>by simpa using b1⟩
         rw [hF2]
         simp only [z50z,z50z_,ycoy,z84z,z84z_,ym1y,p4,e,beq_self_eq_true,cond_true,b1,b2,cond_false,bne_self_eq_false,net_idle,ya2y,c1,c2,c3]
         rfl
     ·simp only [e,show ((2:Int) == 1) = false from rfl,beq_self_eq_true,cond_true,cond_false] at hq
      cases b1:keyB x.f_Band with
      | false=>rw [b1] at hq;simp at hq
      | true =>
       rw [b1] at hq
       simp only [Bool.not_true,cond_false] at hq
       cases b3:yaKy x ⟨x.f_Site,x.f_No,x.f_At,2,⟨0,0,[],[],0,0,[],[]⟩,x.f_Band,[],0⟩ with
       | false=>rw [b3] at hq;simp at hq
       | true =>
        have hx:=(ychy _ _).1 b3
        have c1:x.f_Contact = ⟨0,0,[],[],0,0,[],[]⟩:=by rw [hx]
        have c2:x.f_Of = []:=by rw [hx]
        have c3:x.f_Other = 0:=by rw [hx]
        refine ⟨fun R k=>?_,fun h=>by omega⟩
        rw [hF2]
        simp only [z50z,z50z_,ycoy,p2,e,show ((2:Int) == 1) = false from rfl,beq_self_eq_true,cond_true,b1,cond_false,Bool.not_true,bne_self_eq_false,net_idle,ya2y,c1,c2,c3]
        rfl
     ·simp only [e,show ((3:Int) == 1) = false from rfl,show ((3:Int) == 2) = false from rfl,show ((3:Int) == 5) = false from rfl,cond_false] at hq
      cases b1:inB x.f_Contact.f_Sent 1 99999 with
      | false=>rw [b1] at hq;simp at hq
      | true =>
       rw [b1] at hq
       simp only [Bool.not_true,cond_false] at hq
       cases b3:yaKy x ⟨x.f_Site,x.f_No,x.f_At,3,⟨0,0,[],[],x.f_Contact.f_Sent,0,[],[]⟩,[],[],0⟩ with
       | false=>rw [b3] at hq;simp at hq
       | true =>
        have hx:=(ychy _ _).1 b3
        have c1:x.f_Contact = ⟨0,0,[],[],x.f_Contact.f_Sent,0,[],[]⟩:=congrArg G_Deed.f_Contact hx
        have c2:x.f_Of = []:=congrArg G_Deed.f_Of hx
        have c3:x.f_Other = 0:=congrArg G_Deed.f_Other hx
        have c4:x.f_Band = []:=congrArg G_Deed.f_Band hx
        have c5:yaMy x.f_Contact ⟨0,0,[],[],x.f_Contact.f_Sent,0,[],[]⟩ = true:=(yb5y _ _).2 c1
        refine ⟨fun R k=>?_,fun h=>by omega⟩
        rw [hF2]
        simp only [z50z,z50z_,ycoy,e,show ((3:Int) == 1) = false from rfl,show ((3:Int) == 2) = false from rfl,show ((3:Int) == 5) = false from rfl,beq_self_eq_true,cond_true,z45z_is,b1,cond_false,Bool.not_true,bne_self_eq_false,net_idle,ya2y,c2,c3,c4,c5]
     ·simp only [e,show ((4:Int) == 1) = false from rfl,show ((4:Int) == 2) = false from rfl,show ((4:Int) == 5) = false from rfl,cond_false] at hq
      cases b1:inB x.f_Contact.f_Sent 1 99999 with
      | false=>rw [b1] at hq;simp at hq
      | true =>
       rw [b1] at hq
       simp only [Bool.not_true,cond_false] at hq
       cases b3:yaKy x ⟨x.f_Site,x.f_No,x.f_At,4,⟨0,0,[],[],x.f_Contact.f_Sent,0,[],[]⟩,[],[],0⟩ with
       | false=>rw [b3] at hq;simp at hq
       | true =>
        have hx:=(ychy _ _).1 b3
        have c1:x.f_Contact = ⟨0,0,[],[],x.f_Contact.f_Sent,0,[],[]⟩:=congrArg G_Deed.f_Contact hx
        have c2:x.f_Of = []:=congrArg G_Deed.f_Of hx
        have c3:x.f_Other = 0:=congrArg G_Deed.f_Other hx
        have c4:x.f_Band = []:=congrArg G_Deed.f_Band hx
        have c5:yaMy x.f_Contact ⟨0,0,[],[],x.f_Contact.f_Sent,0,[],[]⟩ = true:=(yb5y _ _).2 c1
        refine ⟨fun R k=>?_,fun h=>by omega⟩
        rw [hF2]
        simp only [z50z,z50z_,ycoy,e,show ((4:Int) == 1) = false from rfl,show ((4:Int) == 2) = false from rfl,show ((4:Int) == 3) = false from rfl,show ((4:Int) == 5) = false from rfl,beq_self_eq_true,cond_true,z45z_is,b1,cond_false,Bool.not_true,bne_self_eq_false,net_idle,ya2y,c2,c3,c4,c5]
     ·simp only [e,show ((5:Int) == 1) = false from rfl,show ((5:Int) == 2) = false from rfl,beq_self_eq_true,cond_true,cond_false] at hq
      cases b1:keyB x.f_Of with
      | false=>rw [b1] at hq;simp at hq
      | true =>
       cases b2:inB x.f_Other 1 1000000 with
       | false=>rw [b1,b2] at hq;simp at hq
       | true =>
        rw [b1,b2] at hq
        simp only [Bool.not_true,cond_false] at hq
        cases b3:yaKy x ⟨x.f_Site,x.f_No,x.f_At,5,⟨0,0,[],[],0,0,[],[]⟩,[],x.f_Of,x.f_Other⟩ with
        | false=>rw [b3] at hq;simp at hq
        | true =>
         have hx:=(ychy _ _).1 b3
         have c1:x.f_Contact = ⟨0,0,[],[],0,0,[],[]⟩:=congrArg G_Deed.f_Contact hx
         have c4:x.f_Band = []:=congrArg G_Deed.f_Band hx
         refine ⟨fun R k=>?_,fun h=>by omega⟩
         rw [hF2]
         simp only [z50z,z50z_,ycoy,p3,e,show ((5:Int) == 1) = false from rfl,show ((5:Int) == 2) = false from rfl,show ((5:Int) == 3) = false from rfl,show ((5:Int) == 4) = false from rfl,beq_self_eq_true,cond_true,z45z_is,b1,b2,cond_false,Bool.not_true,bne_self_eq_false,net_idle,ya2y,c1,c4]
         rfl
end Go.Am
set_option linter.unusedVariables false
set_option linter.unusedSectionVars false
set_option linter.unusedSimpArgs false
set_option maxRecDepth 100000
namespace Go.Am
open Go Go.Proofs
variable [Fuel]
def ownD (x:G_Deed):G_net_own:=⟨x.f_Site,x.f_No⟩
structure RightD (d:List G_Deed):Prop where
 fine:∀ x∈d,FineD x
 good:∀ x∈d,fD x = 0
 ord:d.Pairwise fun a b=>cmpD a b < 0
 own:d.Pairwise fun a b=>ownD a≠ownD b
theorem RightD.sub {d p:List G_Deed} (h:RightD d) (hs:p.Sublist d):RightD p:=⟨fun x hx=>h.fine x (hs.subset hx),fun x hx=>h.good x (hs.subset hx),h.ord.sublist hs,h.own.sublist hs⟩
theorem ysQy:RightD []:=⟨fun _ h=>(by cases h),fun _ h=>(by cases h),.nil,.nil⟩
theorem yqVy {α:Type} {d xs:List α} {x:α} {i:Nat} (h:d.drop i = x::xs):d.take (i + 1) = d.take i++[x]:=by
 rw [List.take_add_one,(yaty h).1];rfl
theorem ypQy (d:List G_Deed) (hr:RightD d) (hl:d.length≤1000):∀ (xs:List G_Deed) (n i:Nat),d.drop i = xs→xs.length < n→∀ (R:Type) (e0:List G_Deed→Int→Option R) (e1:List G_Deed→Option R),
  z10z_L4 ycmy n d d (d.length:Int) (i:Int) e0 e1 = e1 d
 | _,0,_,_,h,_,_,_=>by omega
 | [],n + 1,i,h,_,R,e0,e1=>by rw [z10z_L4,ya5y h];rfl
 | c::cs,n + 1,i,h,hn,R,e0,e1=>by
  have h':=yaty h
  have hm:=ycpy h
  have ih:=ypQy d hr hl cs n (i + 1) h'.2.2.1 (Nat.lt_of_succ_lt_succ (by simpa only [List.length_cons] using hn)) R e0 e1
  have he:∀ k:Int→Option R,ycmy.net_formed c k = k 0:=fun k=>(yuoy (hr.fine c hm) (hr.good c hm)).1 R k
  have hw:=yayy (show i < 4611686018427387904 by omega)
  rw [z10z_L4,yaWy h,cond_true,ybay h,he,bne_self_eq_false,cond_false]
  by_cases hi:i = 0
  ·subst hi
   rw [decide_eq_false (show ¬ (((0:Nat):Int) > 0) by omega),cond_false,hw,ih]
  ·have hp:d[i - 1]? = some d[i - 1]:=List.getElem?_eq_getElem (by omega)
   have hlt:cmpD d[i - 1] c < 0:=by
    obtain ⟨hi2,rfl⟩:=List.getElem?_eq_some_iff.1 h'.1
    exact List.pairwise_iff_getElem.1 hr.ord (i - 1) i (by omega) hi2 (by omega)
   generalize d[i - 1] = p at hp hlt
   have hw2:w64 ((i:Int) - 1) = ((i - 1:Nat):Int):=yliy (by omega) (by omega)
   have ho:∀ (k:Int→Option R),ycmy.z43z p c k = k (cmpD p c):=fun k=>z43z_is p c R k
   rw [decide_eq_true (show ((i:Int) > 0) by omega),cond_true,hw2,yory hp,ho,decide_eq_false (by omega),cond_false,hw,ih]
theorem yn9y (d:List G_Deed) (hr:RightD d) (hl:d.length≤1000):∀ (xs:List G_Deed) (n i:Nat) (m:List (G_net_own×Bool)),d.drop i = xs→xs.length < n→(∀ w,(yaSy w m).getD false = (d.take i).any fun c=>decide (ownD c = w))→∀ (R:Type) (e0:Int→Option R) (e1:Option R),
  z10z_L14 ycmy n d (d.length:Int) (i:Int) m e0 e1 = e1
 | _,0,_,_,_,h,_,_,_,_=>by omega
 | [],n + 1,i,m,h,_,_,R,e0,e1=>by rw [z10z_L14,ya5y h];rfl
 | c::cs,n + 1,i,m,h,hn,hm,R,e0,e1=>by
  have h':=yaty h
  have hno:(yaSy ⟨c.f_Site,c.f_No⟩ m).getD false = false:=by
   have:=hm (ownD c)
   refine this.trans ?_
   rw [List.any_eq_false]
   intro o ho he
   obtain ⟨j,hj,rfl⟩:=List.mem_iff_getElem.1 ho
   rw [List.length_take] at hj
   obtain ⟨hi2,rfl⟩:=List.getElem?_eq_some_iff.1 h'.1
   rw [List.getElem_take] at he
   exact List.pairwise_iff_getElem.1 hr.own j i (by omega) hi2 (by omega) (of_decide_eq_true he)
  rw [z10z_L14,yaWy h,cond_true,ybay h,hno,cond_false,yayy (show i < 4611686018427387904 by omega)]
  refine yn9y d hr hl cs n (i + 1) _ h'.2.2.1 (Nat.lt_of_succ_lt_succ (by simpa only [List.length_cons] using hn)) (fun w=>?_) R e0 e1
  rw [yqVy h,List.any_append,List.any_cons,List.any_nil,Bool.or_false,ybqy,ygqy,yhwy ya6y]
  have hmw:=hm w
  rw [ybqy] at hmw
  by_cases e:w = ownD c
  ·have e2:yawy w ⟨c.f_Site,c.f_No⟩ = true:=(ya6y _ _).2 e
   rw [e2,decide_eq_true e.symm];simp
  ·have e2:yawy w ⟨c.f_Site,c.f_No⟩ = false:=by
    cases hq:yawy w ⟨c.f_Site,c.f_No⟩ with
    | false=>rfl
    | true=>exact absurd ((ya6y _ _).1 hq) e
   rw [e2,decide_eq_false (fun h=>e h.symm),cond_false,Bool.or_false]
   exact hmw
theorem z10z_right {d:List G_Deed} (hr:RightD d) (hl:d.length≤1000) (R:Type) (k:Int→Option R):z10z d k = k 0:=by
 have unf:z10z d k = (z10z_L4 ycmy NN d d (d.length:Int) 0 (fun e14 e15=>k e15) (fun e16=>(z10z_L14 ycmy NN e16 (e16.length:Int) 0 [] (fun e23=>k e23) (k 0)))):=by
  show (bif (decide ((d.length:Int) > 2000)) then k 2 else _) = _
  rw [decide_eq_false (by omega)];rfl
 rw [unf]
 refine (ypQy d hr hl d NN 0 rfl (by have:=NN_ok;omega) R _ _).trans ?_
 exact yn9y d hr hl d NN 0 [] rfl (by have:=NN_ok;omega) (fun w=>by rw [ybqy];rfl) R _ _
noncomputable def ybAy:Option G_Deed→List G_Deed→Int
 | _,[]=>0
 | p,c::cs=>bif fD c != 0 then fD c else match p with
  | none=>ybAy (some c) cs
  | some q=>bif decide (cmpD q c ≥ 0) then 7 else ybAy (some c) cs
theorem yvPy (c:G_Deed) (cs:List G_Deed):ybAy none (c::cs) = bif fD c != 0 then fD c else ybAy (some c) cs:=by simp only [ybAy]
theorem yvTy (q c:G_Deed) (cs:List G_Deed):ybAy (some q) (c::cs) = bif fD c != 0 then fD c else bif decide (cmpD q c ≥ 0) then 7 else ybAy (some c) cs:=by simp only [ybAy]
def dupD:List G_Deed→List G_Deed→Bool
 | _,[]=>false
 | seen,x::xs=>(seen.any fun o=>o.f_Site == x.f_Site&&o.f_No == x.f_No) || dupD (seen++[x]) xs
theorem ynky (d:List G_Deed) (hf:∀ c∈d,FineD c) (hl:d.length≤1000):∀ (xs:List G_Deed) (n i:Nat) (p:Option G_Deed),d.drop i = xs→yiYy d i p→xs.length < n→∀ (R:Type) (e0:List G_Deed→Int→Option R) (e1:List G_Deed→Option R),
  z3z_L4 I_z3z n d d (d.length:Int) (i:Int) e0 e1 = bif ybAy p xs != 0 then e0 d (ybAy p xs) else e1 d
 | _,0,_,_,_,_,h,_,_,_=>by omega
 | [],n + 1,i,p,h,_,_,R,e0,e1=>by rw [z3z_L4,ya5y h];rfl
 | c::cs,n + 1,i,p,h,hp,hn,R,e0,e1=>by
  have h':=yaty h
  have hn':cs.length < n:=Nat.lt_of_succ_lt_succ (by simpa only [List.length_cons] using hn)
  have ih:=ynky d hf hl cs n (i + 1) (some c) h'.2.2.1 (yjQy h) hn' R e0 e1
  have hc:=hf c (ycpy h)
  have he:∀ k:Int→Option R,I_z3z.z77z c k = k (fD c):=fun k=>z77z_is hc R k
  rw [z3z_L4,yaWy h,cond_true,ybay h,he,yayy (show i < 4611686018427387904 by omega),ih]
  cases p with
  | none =>
   rw [yvPy]
   cases q0:fD c != 0 with
   | true=>simp only [cond_true,q0]
   | false =>
    rw [decide_eq_false (show ¬ ((i:Int) > 0) by unfold yiYy at hp;omega)];rfl
  | some q =>
   rw [yvTy]
   cases q0:fD c != 0 with
   | true=>simp only [cond_true,q0]
   | false =>
    obtain ⟨h0,ys,hq⟩:=hp
    have ho:∀ (k:Int→Option R),I_z3z.z2z q c k = k (cmpD q c):=fun k=>z2z_is (hf q (ycpy hq)) hc R k
    simp only [cond_false]
    rw [decide_eq_true (show ((i:Int) > 0) by omega),cond_true,yngy hq h0 (by omega),ho]
    cases decide (cmpD q c ≥ 0) <;> rfl
theorem ymuy (d:List G_Deed) (hl:d.length≤1000):∀ (xs:List G_Deed) (n i:Nat),d.drop i = xs→xs.length < n→∀ (R:Type) (e0:Int→Option R) (e1:Option R),
  z3z_L13 I_z3z n d d (d.length:Int) (i:Int) e0 e1 = bif dupD (d.take i) xs then e0 6 else e1
 | _,0,_,_,h,_,_,_=>by omega
 | [],n + 1,i,h,_,R,e0,e1=>by rw [z3z_L13,ya5y h];rfl
 | c::cs,n + 1,i,h,hn,R,e0,e1=>by
  have h':=yaty h
  have ih:=ymuy d hl cs n (i + 1) h'.2.2.1 (Nat.lt_of_succ_lt_succ (by simpa only [List.length_cons] using hn)) R e0 e1
  have hc:∀ (k:Bool→G_Deed→Option R),I_z3z.z20z (d.take i) c k = k ((d.take i).any fun o=>o.f_Site == c.f_Site&&o.f_No == c.f_No) c:=fun k=>yH1y _ (by rw [List.length_take];omega) c R k
  rw [z3z_L13,yaWy h,cond_true,ybay h,decide_eq_true (show (0:Int)≤(i:Int) by omega),decide_eq_true (show (i:Int)≤(d.length:Int) by omega),Bool.and_self,cond_true,Int.toNat_natCast,hc,yayy (show i < 4611686018427387904 by omega),ih,dupD,yqVy h]
  cases (d.take i).any fun o=>o.f_Site == c.f_Site&&o.f_No == c.f_No <;> rfl
noncomputable def ykoy (d:List G_Deed):Int:=bif ybAy none d != 0 then ybAy none d else bif dupD [] d then 6 else 0
theorem z3z_is {d:List G_Deed} (hf:∀ c∈d,FineD c) (hl:d.length≤1000) (R:Type) (k:Int→Option R):z3z d k = k (ykoy d):=by
 have unf:z3z d k = (z3z_L4 I_z3z NN d d (d.length:Int) 0 (fun e14 e15=>k e15) (fun e16=>(z3z_L13 I_z3z NN e16 e16 (e16.length:Int) 0 (fun e27=>k e27) (k 0)))):=by
  show (bif (decide ((d.length:Int) > 2000)) then k 2 else _) = _
  rw [decide_eq_false (by omega)];rfl
 rw [unf]
 refine (ynky d hf hl d NN 0 none rfl rfl (by have:=NN_ok;omega) R _ _).trans ?_
 have h2:=ymuy d hl d NN 0 rfl (by have:=NN_ok;omega) R (fun e27=>k e27) (k 0)
 unfold ykoy
 cases ybAy none d != 0 with
 | true=>rfl
 | false =>
  simp only [cond_false]
  refine h2.trans ?_
  rw [List.take_zero]
  cases dupD [] d <;> rfl
theorem ymry:∀ (l:List G_Deed) (p:Option G_Deed),ybAy p l = 0→(∀ c∈l,fD c = 0)∧l.Pairwise (fun a b=>cmpD a b < 0)∧∀ q,p = some q→∀ c∈l,cmpD q c < 0
 | [],_,_=>⟨fun _ h=>(by cases h),.nil,fun _ _ _ h=>(by cases h)⟩
 | x::xs,p,h=>by
  unfold ybAy at h
  cases hq:fD x != 0 with
  | true=>rw [hq] at h;simp only [cond_true] at h;rw [h] at hq;cases hq
  | false =>
   rw [hq] at h
   simp only [cond_false] at h
   have h0:fD x = 0:=by simpa using hq
   have h2:ybAy (some x) xs = 0∧∀ q,p = some q→cmpD q x < 0:=by
    cases p with
    | none=>exact ⟨h,fun q hq=>by cases hq⟩
    | some q =>
     simp only at h
     cases hd:decide (cmpD q x ≥ 0) with
     | true=>rw [hd] at h;simp only [cond_true] at h;omega
     | false =>
      rw [hd] at h
      refine ⟨h,fun q' hq'=>?_⟩
      cases hq'
      have:=of_decide_eq_false hd
      omega
   obtain ⟨g1,g2,g3⟩:=ymry xs (some x) h2.1
   refine ⟨fun c hc=>?_,List.pairwise_cons.2 ⟨g3 x rfl,g2⟩,fun q hq c hc=>?_⟩
   ·rcases List.mem_cons.1 hc with rfl | hc
    ·exact h0
    ·exact g1 c hc
   ·have hqx:=h2.2 q hq
    rcases List.mem_cons.1 hc with rfl | hc
    ·exact hqx
    ·have h3:=g3 x rfl c hc
     have t:=ye7y.trans q x c (by omega) (by omega)
     rcases Int.lt_or_eq_of_le t with t | t
     ·exact t
     ·exfalso
      have a1:=ye7y.anti q c
      have a2:=ye7y.trans c q x (by omega) (by omega)
      have a3:=ye7y.anti x c
      omega
theorem yugy:∀ (l seen:List G_Deed),dupD seen l = false→(∀ o∈seen,∀ x∈l,ownD o≠ownD x)∧l.Pairwise fun a b=>ownD a≠ownD b
 | [],_,_=>⟨fun _ _ _ h=>(by cases h),.nil⟩
 | y::ys,seen,h=>by
  simp only [dupD,Bool.or_eq_false_iff] at h
  obtain ⟨h1,h2⟩:=yugy ys (seen++[y]) h.2
  have h3:∀ o∈seen,ownD o≠ownD y:=fun o ho e=>by
   have:=List.any_eq_false.1 h.1 o ho
   unfold ownD at e
   simp only [G_net_own.mk.injEq] at e
   simp [e.1,e.2] at this
  refine ⟨fun o ho x hx=>?_,List.pairwise_cons.2 ⟨fun x hx=>h1 y (by simp) x hx,h2⟩⟩
  rcases List.mem_cons.1 hx with rfl | hx
  ·exact h3 o ho
  ·exact h1 o (by simp [ho]) x hx
theorem yx4y {d:List G_Deed} (hf:∀ c∈d,FineD c) (h:ykoy d = 0):RightD d:=by
 unfold ykoy at h
 cases h1:ybAy none d != 0 with
 | true=>rw [h1] at h;simp only [cond_true] at h;rw [h] at h1;cases h1
 | false =>
  rw [h1] at h
  simp only [cond_false] at h
  cases h2:dupD [] d with
  | true=>rw [h2] at h;simp at h
  | false =>
   obtain ⟨g1,g2,_⟩:=ymry d none (by simpa using h1)
   exact ⟨hf,g1,g2,(yugy d [] h2).2⟩
theorem yjmy (many:Nat) (hm:many≤20):∀ (j n i:Nat) (b:Int) (s:G_Stream),i + j = 5→j < n→SOk b s→b + 2000 * (j:Int)≤50000 →
  ∃ (q:Bool) (r:List G_Deed) (s':G_Stream),r.length≤many∧RightD r∧SOk (b + 2000 * (j:Int)) s'∧∀ (R:Type) (e0:G_Stream→List G_Deed→Option R) (e1:G_Stream→Option R),z28z_L2 yf3y n (many:Int) (i:Int) s e0 e1 = bif q then e0 s' r else e1 s'
 | _,0,_,_,_,_,h,_,_=>by omega
 | 0,n + 1,i,b,s,hi,_,hs,hb=>⟨false,[],s,by simp,ysQy,hs.mono (by omega),fun R e0 e1=>by rw [z28z_L2,decide_eq_false (by omega)];rfl⟩
 | j + 1,n + 1,i,b,s,hi,hn,hs,hb=>by
  obtain ⟨r,s1,z1,l1,f1,e1⟩:=z17z_gives hs (by omega) many hm
  have g1:∀ (R:Type) (k:List G_Deed→G_Stream→Option R),yf3y.z17z s (many:Int) k = k r s1:=e1
  have g2:∀ (R:Type) (k:Int→Option R),yf3y.z3z r k = k (ykoy r):=fun R k=>z3z_is f1 (by omega) R k
  cases h0:ykoy r == 0 with
  | true=>exact ⟨true,r,s1,by omega,yx4y f1 (by simpa using h0),z1.mono (by omega),fun R e0 e1'=>by rw [z28z_L2,decide_eq_true (show (i:Int) < 5 by omega),cond_true,g1,g2,h0];rfl⟩
  | false =>
   obtain ⟨q,r',s',g3,g4,g6,g5⟩:=yjmy many hm j n (i + 1) (b + 2000) s1 (by omega) (by omega) z1 (by omega)
   exact ⟨q,r',s',g3,g4,g6.mono (by omega),fun R e0 e1'=>by rw [z28z_L2,decide_eq_true (show (i:Int) < 5 by omega),cond_true,g1,g2,h0,cond_false,yayy (show i < 4611686018427387904 by omega),g5]⟩
theorem yp7y {b:Int} {s:G_Stream} (hs:SOk b s) (hb:b≤30000) (many:Nat) (hm:many≤20) :
  ∃ (r:List G_Deed) (s':G_Stream),r.length≤many∧RightD r∧SOk (b + 10000) s'∧∀ (R:Type) (k:List G_Deed→G_Stream→Option R),z28z s (many:Int) k = k r s':=by
 obtain ⟨q,r,s',g1,g2,g4,g3⟩:=yjmy many hm 5 NN 0 b s (by omega) (by have:=NN_ok;omega) hs (by omega)
 cases q with
 | true=>exact ⟨r,s',g1,g2,g4.mono (by omega),fun R k=>g3 R _ _⟩
 | false=>exact ⟨[],s',by simp,ysQy,g4.mono (by omega),fun R k=>g3 R _ _⟩
end Go.Am
set_option linter.unusedVariables false
set_option linter.unusedSectionVars false
set_option linter.unusedSimpArgs false
set_option maxRecDepth 100000
namespace Go.Am
open Go Go.Proofs
variable [Fuel]
theorem yidy (d:List G_Deed) (hl:d.length≤1000):∀ (xs:List G_Deed) (n i:Nat) (b:Int) (s:G_Stream) (p q:List G_Deed),d.drop i = xs→xs.length < n→SOk b s→b + (xs.length:Int)≤1000000→p.length≤i→q.length≤i →
  ∃ (P Q:List G_Deed) (s':G_Stream),P.Sublist xs∧Q.Sublist xs∧(∀ y∈xs,y∈P ∨ y∈Q)∧∀ (R:Type) (e0:G_Stream→List G_Deed→List G_Deed→Option R),z32z_L3 yhmy n d (d.length:Int) (i:Int) s p q e0 = e0 s' (p++P) (q++Q)
 | _,0,_,_,_,_,_,_,h,_,_,_,_=>by omega
 | [],n + 1,i,b,s,p,q,h,_,hs,hb,hp,hq=>⟨[],[],s,.slnil,.slnil,fun y h=>(by cases h),fun R e0=>by rw [z32z_L3,ya5y h,List.append_nil,List.append_nil];rfl⟩
 | c::cs,n + 1,i,b,s,p,q,h,hn,hs,hb,hp,hq=>by
  have h':=yaty h
  simp only [List.length_cons] at hb hn
  obtain ⟨t,s1,t1,t2,z1,e1⟩:=z42z_gives hs 3 (by omega) (by omega)
  have g1:∀ (R:Type) (k:Int→G_Stream→Option R),yhmy.z42z s 3 k = k t s1:=e1
  have rp:=room1 p c 176 (show p.length≤1000000 by omega) (by omega)
  have rq:=room1 q c 176 (show q.length≤1000000 by omega) (by omega)
  have hw:=yayy (show i < 4611686018427387904 by omega)
  by_cases c0:t = 0
  ·subst c0
   obtain ⟨P,Q,s',a1,a2,a3,a4⟩:=yidy d hl cs n (i + 1) (b + 1) s1 (p++[c]) q h'.2.2.1 (by omega) z1 (by omega) (by simp;omega) (by omega)
   refine ⟨c::P,Q,s',a1.cons_cons c,a2.cons c,fun y hy=>?_,fun R e0=>?_⟩
   ·rcases List.mem_cons.1 hy with rfl | hy
    ·exact .inl (by simp)
    ·rcases a3 y hy with h | h
     ·exact .inl (by simp [h])
     ·exact .inr h
   ·rw [z32z_L3,yaWy h,cond_true,ybay h,g1,beq_self_eq_true,cond_true,rp,cond_true,hw,a4,List.append_assoc];rfl
  ·by_cases c1:t = 1
   ·subst c1
    obtain ⟨P,Q,s',a1,a2,a3,a4⟩:=yidy d hl cs n (i + 1) (b + 1) s1 p (q++[c]) h'.2.2.1 (by omega) z1 (by omega) (by omega) (by simp;omega)
    refine ⟨P,c::Q,s',a1.cons c,a2.cons_cons c,fun y hy=>?_,fun R e0=>?_⟩
    ·rcases List.mem_cons.1 hy with rfl | hy
     ·exact .inr (by simp)
     ·rcases a3 y hy with h | h
      ·exact .inl h
      ·exact .inr (by simp [h])
    ·rw [z32z_L3,yaWy h,cond_true,ybay h,g1,show ((1:Int) == 0) = false from rfl,cond_false,beq_self_eq_true,cond_true,rq,cond_true,hw,a4,List.append_assoc];rfl
   ·obtain ⟨P,Q,s',a1,a2,a3,a4⟩:=yidy d hl cs n (i + 1) (b + 1) s1 (p++[c]) (q++[c]) h'.2.2.1 (by omega) z1 (by omega) (by simp;omega) (by simp;omega)
    refine ⟨c::P,c::Q,s',a1.cons_cons c,a2.cons_cons c,fun y hy=>?_,fun R e0=>?_⟩
    ·rcases List.mem_cons.1 hy with rfl | hy
     ·exact .inl (by simp)
     ·rcases a3 y hy with h | h
      ·exact .inl (by simp [h])
      ·exact .inr (by simp [h])
    ·rw [z32z_L3,yaWy h,cond_true,ybay h,g1,beq_eq_false_iff_ne.2 c0,cond_false,beq_eq_false_iff_ne.2 c1,cond_false,rp,cond_true,rq,cond_true,hw,a4,List.append_assoc,List.append_assoc];rfl
theorem yzry {d:List G_Deed} (hl:d.length≤1000) {b:Int} {s:G_Stream} (hs:SOk b s) (hb:b≤900000):∃ (P Q:List G_Deed) (s':G_Stream),P.Sublist d∧Q.Sublist d∧(∀ y∈d,y∈P ∨ y∈Q)∧∀ (R:Type) (k:List G_Deed→List G_Deed→G_Stream→Option R),z32z s d k = k P Q s':=by
 obtain ⟨P,Q,s',a1,a2,a3,a4⟩:=yidy d hl d NN 0 b s [] [] rfl (by have:=NN_ok;omega) hs (by omega) (by simp) (by simp)
 exact ⟨P,Q,s',a1,a2,a3,fun R k=>a4 R _⟩
theorem yK5y {x:List G_Deed} (h:RightD x) {a b:G_Deed} (ha:a∈x) (hb:b∈x) (e:ownD a = ownD b):a = b:=by
 obtain ⟨i,hi,rfl⟩:=List.mem_iff_getElem.1 ha
 obtain ⟨j,hj,rfl⟩:=List.mem_iff_getElem.1 hb
 have hp:=List.pairwise_iff_getElem.1 h.own
 rcases Nat.lt_trichotomy i j with hij | hij | hij
 ·exact absurd e (hp i j hi hj hij)
 ·subst hij;rfl
 ·exact absurd e.symm (hp j i hj hi hij)
theorem yiZy {x:List G_Deed} (hx:RightD x) (d:List G_Deed) (hl:d.length≤1000) (hd:∀ c∈d,c∈x):∀ (xs:List G_Deed) (n i:Nat) (m:List (G_net_own×G_Deed)) (out:List G_Deed),d.drop i = xs→xs.length < n→out.length≤i→i≤d.length →
  (∀ w v,yamy w m = some v→v∈out∧ownD v = w)→(∀ c∈out,yamy (ownD c) m = some c)→out.Pairwise (fun a b=>ownD a≠ownD b)→(∀ c∈out,c∈x) →
  ∃ r:List G_Deed,r.length≤d.length∧r.Pairwise (fun a b=>ownD a≠ownD b)∧(∀ c∈r,c∈x)∧(∀ c∈out,c∈r)∧(∀ c∈xs,c∈r)∧∀ (R:Type) (e0:Int→List G_Deed→Option R) (e1:List G_Deed→Option R),
   ybuy yaTy n (d.length:Int) (i:Int) m d out e0 e1 = e1 r
 | _,0,_,_,_,_,h,_,_,_,_,_,_=>by omega
 | [],n + 1,i,m,out,h,_,ho,hi,i1,i2,i3,i5=>⟨out,by omega,i3,i5,fun c h=>h,fun c h=>(by cases h),fun R e0 e1=>by rw [ybuy,ya5y h];rfl⟩
 | c::cs,n + 1,i,m,out,h,hn,ho,hi,i1,i2,i3,i5=>by
  have h':=yaty h
  have hcx:=hd c (ycpy h)
  have hn':cs.length < n:=Nat.lt_of_succ_lt_succ (by simpa only [List.length_cons] using hn)
  have hw:=yayy (show i < 4611686018427387904 by omega)
  cases hq:yamy ⟨c.f_Site,c.f_No⟩ m with
  | none =>
   have hne:∀ a∈out,ownD a≠ownD c:=fun a ha e=>by
    have:=i2 a ha
    rw [e] at this
    have hq':yamy (ownD c) m = none:=hq
    rw [hq'] at this
    cases this
   have hg:∀ w,yamy w (ybpy (ownD c) c m) = bif yawy w (ownD c) then some c else yamy w m:=fun w=>by
    rw [ygry,ymJy,yhwy ya6y]
   obtain ⟨r,g1,g2,g3,g4,g5,g6⟩:=yiZy hx d hl hd cs n (i + 1) (ybpy (ownD c) c m) (out++[c]) h'.2.2.1 hn' (by simp;omega) h'.2.1
    (fun w v hv=>by
     rw [hg] at hv
     cases hk:yawy w (ownD c) with
     | true =>
      rw [hk] at hv
      have:=Option.some.inj hv
      subst this
      exact ⟨by simp,((ya6y _ _).1 hk).symm⟩
     | false =>
      rw [hk] at hv
      obtain ⟨a1,a2⟩:=i1 w v hv
      exact ⟨by simp [a1],a2⟩)
    (fun a ha=>by
     rw [hg]
     rcases List.mem_append.1 ha with ha | ha
     ·have:yawy (ownD a) (ownD c) = false:=by
       cases hk:yawy (ownD a) (ownD c) with
       | false=>rfl
       | true=>exact absurd ((ya6y _ _).1 hk) (hne a ha)
      rw [this];exact i2 a ha
     ·rw [List.mem_singleton] at ha
      rw [ha,(ya6y _ _).2 rfl];rfl)
    (List.pairwise_append.2 ⟨i3,List.pairwise_singleton _ _,fun a ha b hb=>by rw [List.mem_singleton] at hb;rw [hb];exact hne a ha⟩)
    (fun a ha=>by
     rcases List.mem_append.1 ha with ha | ha
     ·exact i5 a ha
     ·rw [List.mem_singleton] at ha;rw [ha];exact hcx)
   refine ⟨r,g1,g2,g3,fun a ha=>g4 a (by simp [ha]),fun a ha=>?_,fun R e0 e1=>?_⟩
   ·rcases List.mem_cons.1 ha with rfl | ha
    ·exact g4 a (by simp)
    ·exact g5 a ha
   ·rw [ybuy,yaWy h,cond_true,yePy h,ysVy h,hq]
    simp only [Option.isSome_none,Bool.not_false,cond_true,room1 out c 176 (show out.length≤1000000 by omega) (by omega),hw]
    exact g6 R e0 e1
  | some v =>
   obtain ⟨a1,a2⟩:=i1 _ v hq
   have hvc:v = c:=yK5y hx (i5 v a1) hcx a2
   subst hvc
   obtain ⟨r,g1,g2,g3,g4,g5,g6⟩:=yiZy hx d hl hd cs n (i + 1) m out h'.2.2.1 hn' (by omega) h'.2.1 i1 i2 i3 i5
   refine ⟨r,g1,g2,g3,g4,fun a ha=>?_,fun R e0 e1=>?_⟩
   ·rcases List.mem_cons.1 ha with rfl | ha
    ·exact g4 a a1
    ·exact g5 a ha
   ·have he:yaKy ⟨v.f_Site,v.f_No,v.f_At,v.f_Kind,v.f_Contact,v.f_Band,v.f_Of,v.f_Other⟩ v = true:=(ychy _ _).2 rfl
    rw [ybuy,yaWy h,cond_true,yePy h,ysVy h,hq]
    show (bif !(yaKy ⟨v.f_Site,v.f_No,v.f_At,v.f_Kind,v.f_Contact,v.f_Band,v.f_Of,v.f_Other⟩ v) then _ else _) = _
    rw [he,Bool.not_true,cond_false,hw]
    exact g6 R e0 e1
theorem yHey {a b:G_Deed} (h:cmpD a b = 0):ownD a = ownD b:=by
 unfold cmpD at h
 rw [yF7y] at h
 simp only [List.mem_cons,List.not_mem_nil,or_false,forall_eq_or_imp,forall_eq,ynmy,ysvy] at h
 unfold ownD
 rw [h.2.1,h.2.2]
theorem yjcy {x p q:List G_Deed} (hx:RightD x) (hp:p.Sublist x) (hq:q.Sublist x) (hl:x.length≤400) (hc:∀ y∈x,y∈p ∨ y∈q) (R:Type) (k:List G_Deed→Int→Option R):net_Merge q p k = k x 0:=by
 have lp:=hp.length_le
 have lq:=hq.length_le
 have ca:∀ k:Int→Option R,yaTy.z10z q k = k 0:=fun k=>z10z_right (hx.sub hq) (by omega) R k
 have cb:∀ k:Int→Option R,yaTy.z10z p k = k 0:=fun k=>z10z_right (hx.sub hp) (by omega) R k
 have hloop:∀ (e0:List G_Deed→List G_Deed→Int→Option R) (e1:List G_Deed→List G_Deed→Option R),ybHy yaTy NN q p ([q,p].length:Int) 0 [q,p] e0 e1 = e1 q p:=fun e0 e1=>by
  obtain ⟨m,e,hm⟩:=yA3y
  obtain ⟨m,rfl⟩:∃ q,m = q + 2:=⟨m - 2,by omega⟩
  have w1:w64 (0 + 1) = ((1:Nat):Int):=yaFy (by omega) (by omega)
  have w2:w64 (((1:Nat):Int) + 1) = ((2:Nat):Int):=by rw [yaFy (by omega) (by omega)];rfl
  have i0:∀ {R:Type} (k:Option R),inr [q,p] 0 k = k:=fun k=>ybMy (i:=0) (by simp) k
  have a0:∀ {R:Type} (k:List G_Deed→Option R),at_ [q,p] 0 k = k q:=fun k=>yboy (i:=0) rfl k
  have i1:∀ {R:Type} (k:Option R),inr [q,p] ((1:Nat):Int) k = k:=fun k=>ybMy (i:=1) (by simp) k
  have a1:∀ {R:Type} (k:List G_Deed→Option R),at_ [q,p] ((1:Nat):Int) k = k p:=fun k=>yboy (i:=1) rfl k
  have d0:decide ((0:Int) < ([q,p].length:Int)) = true:=rfl
  have d1:decide (((1:Nat):Int) < ([q,p].length:Int)) = true:=rfl
  have d2:decide (((2:Nat):Int) < ([q,p].length:Int)) = false:=rfl
  rw [show (NN:Nat) = m + 2 + 1 from e,ybHy,d0,cond_true,i0,a0,ca,bne_self_eq_false,cond_false,w1,ybHy,d1,cond_true,i1,a1,cb,bne_self_eq_false,cond_false,w2,ybHy,d2,cond_false]
 obtain ⟨r,g1,g2,g3,g4,g5,g6⟩:=yiZy hx (q++p) (by simp;omega) (fun c h=>by
   rcases List.mem_append.1 h with h | h
   ·exact hq.subset h
   ·exact hp.subset h) (q++p) NN 0 [] [] rfl (by simp;have:=NN_ok;omega) (by simp) (by simp) (fun w v h=>by rw [ygry] at h;cases h) (fun c h=>by cases h) .nil (fun c h=>by cases h)
 have hr:r.length≤1000:=by simp at g1;omega
 obtain ⟨ys,y1,y2,y3⟩:=yh0y (call:=@z43z _) (xs:=r) (c:=cmpD) (by omega) (fun x _ y _=>z43z_is x y) (ye7y.pre _)
 have ystrict:ys.Pairwise fun a b=>cmpD a b < 0:=by
  have hown:ys.Pairwise fun a b=>ownD a≠ownD b:=(y1.pairwise_iff (fun {a b} h e=>h e.symm)).2 g2
  refine (y2.and hown).imp fun {a b} h=>?_
  rcases Int.lt_or_eq_of_le h.1 with t | t
  ·exact t
  ·exact absurd (yHey t) h.2
 have hyx:ys = x:=yq2y ye7y ystrict hx.ord fun a=>by
  rw [y1.mem_iff]
  constructor
  ·exact g3 a
  ·intro ha
   refine g5 a (List.mem_append.2 ?_)
   rcases hc a ha with h | h
   ·exact .inr h
   ·exact .inl h
 have cc:∀ k:List G_Deed→Option R,yaTy.z11z [q,p] k = k (q++p):=fun k=>yLhy (by omega) (by omega) R k
 have cs:∀ k:List G_Deed→Option R,yaTy.z41z r k = k x:=fun k=>by rw [← hyx];exact y3 R k
 show ybHy yaTy NN q p ([q,p].length:Int) 0 [q,p] _ _ = _
 refine (hloop _ _).trans ?_
 rw [cc]
 refine (g6 R _ _).trans ?_
 rw [decide_eq_false (show ¬ ((r.length:Int) > 2000) by omega),cond_false,cs]
end Go.Am
set_option linter.unusedVariables false
set_option linter.unusedSectionVars false
set_option linter.unusedSimpArgs false
set_option maxRecDepth 100000
namespace Go.Am
open Go Go.Proofs
variable [Fuel]
theorem ysky {d:List G_Deed} (hr:RightD d) (hl:d.length≤1000) {at0:Int} (ha:momB at0 = true) (R:Type) (k:Int→Option R):z65z d at0 k = k 0:=by
 have f1:∀ (k:Int→Option R),ym2y.z10z d k = k 0:=fun k=>z10z_right hr hl R k
 have f2:∀ (k:Bool→Option R),ym2y.z54z at0 k = k true:=fun k=>by
  show z54z at0 k = _
  rw [z54z_is,ha]
 show z65z_ ym2y d at0 k = _
 unfold z65z_
 rw [f1,bne_self_eq_false,cond_false,f2];rfl
end Go.Am
set_option linter.unusedVariables false
set_option linter.unusedSectionVars false
set_option linter.unusedSimpArgs false
set_option maxRecDepth 100000
namespace Go.Am
open Go Go.Proofs
variable [Fuel]
end Go.Am
set_option linter.unusedVariables false
set_option linter.unusedSectionVars false
set_option linter.unusedSimpArgs false
set_option maxRecDepth 100000
namespace Go.Am
open Go Go.Proofs
variable [Fuel]
end Go.Am
set_option linter.unusedVariables false
set_option linter.unusedSectionVars false
set_option linter.unusedSimpArgs false
set_option maxRecDepth 100000
namespace Go.Am
open Go Go.Proofs
variable [Fuel]
def undK (w:G_net_own):List G_Deed→List Bool→Bool
 | y::ys,b::bs=>(b&&(y.f_Kind == 5&&decide ((⟨y.f_Of,y.f_Other⟩:G_net_own) = w))) || undK w ys bs
 | _,_=>false
def cntsD:List G_Deed→List Bool
 | []=>[]
 | x::xs=>(!undK (ownD x) xs (cntsD xs))::cntsD xs
def idxD:Nat→List Bool→List Int
 | _,[]=>[]
 | o,b::bs=>bif b then (o:Int)::idxD (o + 1) bs else idxD (o + 1) bs
theorem ymUy:∀ l:List G_Deed,(cntsD l).length = l.length
 | []=>rfl
 | x::xs=>by rw [cntsD,List.length_cons,List.length_cons,ymUy xs]
theorem yqEy:∀ (bs:List Bool) (o:Nat),(idxD o bs).length≤bs.length
 | [],_=>Nat.le_refl _
 | b::bs,o=>by
  have:=yqEy bs (o + 1)
  cases b <;> simp only [idxD,cond_true,cond_false,List.length_cons] <;> omega
theorem yjey (w:G_net_own) (y:G_Deed) (ys:List G_Deed) (b:Bool) (bs:List Bool):undK w (y::ys) (b::bs) = ((b&&(y.f_Kind == 5&&decide ((⟨y.f_Of,y.f_Other⟩:G_net_own) = w))) || undK w ys bs):=rfl
def tillD (d:List G_Deed) (at0:Int):List G_Deed:=d.filter fun x=>decide (x.f_At≤at0)
def yfjy (d:List G_Deed) (at0:Int):List Int:=idxD 0 (cntsD (tillD d at0))
theorem yFly (d:List G_Deed) (at0:Int):(tillD d at0).length≤d.length:=List.length_filter_le _ _
theorem yKty {a b:G_Deed} (h:cmpD a b < 0):a.f_At≤b.f_At:=by
 unfold cmpD at h
 rw [orL] at h
 cases hc:cmpI a.f_At b.f_At != 0 with
 | true =>
  rw [hc,cond_true] at h
  rcases Int.lt_or_le b.f_At a.f_At with q | q
  ·unfold cmpI at h
   rw [decide_eq_false (show ¬ a.f_At < b.f_At by omega),decide_eq_true (show a.f_At > b.f_At by omega)] at h
   simp at h
  ·exact q
 | false =>
  have:=ynmy.1 (show cmpI a.f_At b.f_At = 0 by simpa using hc)
  omega
theorem yyJy (at0:Int):∀ d:List G_Deed,d.Pairwise (fun a b=>a.f_At≤b.f_At)→∃ b:List G_Deed,d = tillD d at0++b∧(∀ x∈b,at0 < x.f_At)∧∀ x∈tillD d at0,x.f_At≤at0
 | [],_=>⟨[],rfl,fun x h=>(by cases h),fun x h=>(by cases h)⟩
 | x::d,h=>by
  obtain ⟨h1,h2⟩:=List.pairwise_cons.1 h
  obtain ⟨b,e,g1,g2⟩:=yyJy at0 d h2
  cases ha:decide (x.f_At≤at0) with
  | true =>
   have ht:tillD (x::d) at0 = x::tillD d at0:=by unfold tillD;rw [List.filter_cons,ha];rfl
   refine ⟨b,by rw [ht,List.cons_append,← e],g1,fun y hy=>?_⟩
   rw [ht] at hy
   rcases List.mem_cons.1 hy with rfl | hy
   ·exact of_decide_eq_true ha
   ·exact g2 y hy
  | false =>
   have hn:at0 < x.f_At:=by have:=of_decide_eq_false ha;omega
   have hall:∀ y∈x::d,at0 < y.f_At:=fun y hy=>by
    rcases List.mem_cons.1 hy with rfl | hy
    ·exact hn
    ·have:=h1 y hy;omega
   have ht:tillD (x::d) at0 = []:=List.filter_eq_nil_iff.2 fun y hy=>by have:=hall y hy;simp;omega
   exact ⟨x::d,by rw [ht];rfl,hall,fun y hy=>by rw [ht] at hy;cases hy⟩
theorem yuty (a b:List G_Deed) (at0:Int) (hb:∀ x∈b,at0 < x.f_At):∀ (j:Nat) (m:List (G_net_own×Bool)) (out:List Int),j≤b.length→∀ (R:Type) (e0:Int→List (G_net_own×Bool)→List Int→Option R),
  z12z_L6 ybLy (a.length + j) (a++b) at0 m out e0 = z12z_L6 ybLy a.length (a++b) at0 m out e0
 | 0,_,_,_,_,_=>rfl
 | j + 1,m,out,hj,R,e0=>by
  have hx:(a++b)[a.length + j]? = some b[j]:=by rw [List.getElem?_append_right (by omega),show a.length + j - a.length = j by omega];exact List.getElem?_eq_getElem (by omega)
  have hm:=hb b[j] (List.getElem_mem (by omega))
  rw [show a.length + (j + 1) = (a.length + j) + 1 by omega,z12z_L6,hx]
  simp only
  rw [decide_eq_true (show b[j].f_At > at0 by omega),cond_true]
  exact yuty a b at0 hb j m out (by omega) R e0
theorem yjoy (a b:List G_Deed) (at0:Int) (ha:∀ x∈a,x.f_At≤at0) (hl:a.length≤1000):∀ (n:Nat) (m:List (G_net_own×Bool)),n≤a.length→(∀ w,(yaSy w m).getD false = undK w (a.drop n) (cntsD (a.drop n))) →
  ∃ m':List (G_net_own×Bool),∀ (R:Type) (e0:Int→List (G_net_own×Bool)→List Int→Option R),z12z_L6 ybLy n (a++b) at0 m (idxD n (cntsD (a.drop n))).reverse e0 = e0 at0 m' (idxD 0 (cntsD a)).reverse
 | 0,m,_,_=>⟨m,fun R e0=>by rw [z12z_L6,List.drop_zero]⟩
 | n + 1,m,hn,hm=>by
  have hx:(a++b)[n]? = some a[n]:=by rw [List.getElem?_append_left (by omega)];exact List.getElem?_eq_getElem (by omega)
  have hd:a.drop n = a[n]::a.drop (n + 1):=List.drop_eq_getElem_cons (by omega)
  have hat:=ha a[n] (List.getElem_mem (by omega))
  generalize a[n] = x at hx hd hat
  have hmx:(yaSy ⟨x.f_Site,x.f_No⟩ m).getD false = undK (ownD x) (a.drop (n + 1)) (cntsD (a.drop (n + 1))):=hm (ownD x)
  have hc:cntsD (a.drop n) = (!undK (ownD x) (a.drop (n + 1)) (cntsD (a.drop (n + 1))))::cntsD (a.drop (n + 1)):=by rw [hd,cntsD]
  have hlen:(idxD (n + 1) (cntsD (a.drop (n + 1)))).reverse.length≤1000:=by
   have h1:=yqEy (cntsD (a.drop (n + 1))) (n + 1)
   rw [ymUy,List.length_drop] at h1
   rw [List.length_reverse];omega
  have hroom:=room1 (idxD (n + 1) (cntsD (a.drop (n + 1)))).reverse (n:Int) 8 (show _≤1000000 by omega) (by omega)
  cases hu:undK (ownD x) (a.drop (n + 1)) (cntsD (a.drop (n + 1))) with
  | true =>
   rw [hu] at hmx hc
   obtain ⟨m',g⟩:=yjoy a b at0 ha hl n m (by omega) (fun w=>by rw [hm w,hc,hd,yjey];rfl)
   refine ⟨m',fun R e0=>?_⟩
   have he:idxD n (cntsD (a.drop n)) = idxD (n + 1) (cntsD (a.drop (n + 1))):=by rw [hc];rfl
   rw [z12z_L6,hx]
   simp only
   rw [decide_eq_false (show ¬ x.f_At > at0 by omega),cond_false,hmx,cond_true,← he]
   exact g R e0
  | false =>
   rw [hu] at hmx hc
   have he:(idxD n (cntsD (a.drop n))).reverse = (idxD (n + 1) (cntsD (a.drop (n + 1)))).reverse++[(n:Int)]:=by
    rw [hc]
    show ((n:Int)::idxD (n + 1) (cntsD (a.drop (n + 1)))).reverse = _
    rw [List.reverse_cons]
   cases hk:x.f_Kind == 5 with
   | true =>
    obtain ⟨m',g⟩:=yjoy a b at0 ha hl n (yaQy ⟨x.f_Of,x.f_Other⟩ true m) (by omega) (fun w=>by
     rw [hc,hd,yjey,hk,ybqy,ygqy,yhwy ya6y]
     have hmw:=hm w
     rw [ybqy] at hmw
     by_cases e:w = ⟨x.f_Of,x.f_Other⟩
     ·rw [(ya6y _ _).2 e,decide_eq_true e.symm];rfl
     ·have e2:yawy w ⟨x.f_Of,x.f_Other⟩ = false:=by
       cases hq:yawy w ⟨x.f_Of,x.f_Other⟩ with
       | false=>rfl
       | true=>exact absurd ((ya6y _ _).1 hq) e
      rw [e2,decide_eq_false (fun h=>e h.symm),cond_false,hmw];rfl)
    refine ⟨m',fun R e0=>?_⟩
    rw [z12z_L6,hx]
    simp only
    rw [decide_eq_false (show ¬ x.f_At > at0 by omega),cond_false,hmx,cond_false,hroom,cond_true,hk,cond_true,← he]
    exact g R e0
   | false =>
    obtain ⟨m',g⟩:=yjoy a b at0 ha hl n m (by omega) (fun w=>by rw [hm w,hc,hd,yjey,hk];rfl)
    refine ⟨m',fun R e0=>?_⟩
    rw [z12z_L6,hx]
    simp only
    rw [decide_eq_false (show ¬ x.f_At > at0 by omega),cond_false,hmx,cond_false,hroom,cond_true,hk,cond_false,← he]
    exact g R e0
theorem z12z_is {d:List G_Deed} (hr:RightD d) (hl:d.length≤1000) (at0:Int) (R:Type) (k:List Int→Option R):z12z d at0 k = k (yfjy d at0):=by
 obtain ⟨b,e,hb,ha⟩:=yyJy at0 d (hr.ord.imp fun {a b} h=>yKty h)
 have l2:=yFly d at0
 unfold yfjy
 generalize tillD d at0 = a at e ha l2
 subst e
 have hlen:(a++b).length = a.length + b.length:=List.length_append
 obtain ⟨m',g⟩:=yjoy a b at0 ha (by omega) a.length [] (Nat.le_refl _) (fun w=>by rw [List.drop_length,ybqy];rfl)
 rw [List.drop_length] at g
 have hcl:=ymUy a
 have hil:=yqEy (cntsD a) 0
 have hraw:∀ (R:Type) (k:List Int→Option R),ygBy ybLy (a++b) at0 k = k (idxD 0 (cntsD a)):=fun R k=>by
  have hrev:∀ (k:List Int→Option R),ybLy.z40z (idxD 0 (cntsD a)).reverse k = k (idxD 0 (cntsD a)):=fun k=>by
   show z40z_ NN _ k = _
   rw [yJYy]
   refine (yLyy (by rw [List.length_reverse];omega) (by rw [List.length_reverse];have:=NN_ok;omega) k).trans ?_
   rw [List.reverse_reverse]
  show (bif decide ((a++b).length < 4611686018427387904) then (z12z_L6 ybLy (a++b).length (a++b) at0 [] [] (fun e9 e10 e11=>ybLy.z40z e11 (fun r12=>k r12))) else none) = _
  rw [decide_eq_true (by omega),cond_true,hlen,yuty a b at0 hb b.length [] [] (Nat.le_refl _)]
  refine (g R _).trans ?_
  rw [hrev]
 show (ygBy ybLy (a++b) at0 (fun z0=>some (ydRy z0))).bind _ = _
 rw [hraw]
 rfl
end Go.Am
