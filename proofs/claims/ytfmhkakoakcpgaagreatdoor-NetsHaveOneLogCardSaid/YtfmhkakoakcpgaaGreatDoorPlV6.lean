/- The plain law, in Lean alone: V6, V7. No condition: lemmas for the claim. -/
import Derived.Test.YtfmhkakoakcpgaaGreatDoorPlV4
import Derived.Test.YtfmhkakoakcpgaaGreatDoorPlH1
import Derived.Test.YtfmhkakoakcpgaaGreatDoorPlB4
set_option linter.unusedVariables false
set_option linter.unusedSectionVars false
set_option linter.unusedSimpArgs false
set_option maxRecDepth 100000
namespace Go.Am
open Go Go.Proofs
variable [Fuel]
noncomputable def fD (x:G_Deed):Int:=(z73z x some).getD 0
theorem z73z_is {x:G_Deed} (h:FineD x) (R:Type) (k:Int→Option R):z73z x k = k (fD x):=by
 obtain ⟨e,he⟩:=z73z_gives h
 rw [he]
 unfold fD
 rw [he]; rfl
theorem ysPy {x:G_Deed} (h:FineD x) (h0:fD x = 0):(∀ (R:Type) (k:Int→Option R),net_formed x k = k 0)∧(x.f_Kind = 1→chk x.f_Contact = 0):=by
 have hq:z73z x some = some 0:=by rw [z73z_is h,h0]
 have f1:=fun (R:Type) (k:Bool→Option R)=>yhGy h.site R k
 have f2:=fun (R:Type) (k:Bool→Option R)=>yhGy h.band R k
 have f3:=fun (R:Type) (k:Bool→Option R)=>yhGy h.of1 R k
 have f4:=fun (R:Type) (k:Int→Option R)=>z74z_is h.con R k
 have p1:=fun (R:Type) (k:Bool→Option R)=>yiYy h.site R k
 have p2:=fun (R:Type) (k:Bool→Option R)=>yiYy h.band R k
 have p3:=fun (R:Type) (k:Bool→Option R)=>yiYy h.of1 R k
 have p4:=fun (R:Type) (k:Int→Option R)=>z59z_is h.con R k
 simp only [z73z,z73z_,ypNy,f1,f2,f3,f4,ynyy,yi6y] at hq
 have hF:∀ (R:Type) (k:Int→Option R),net_formed x k = bif !keyB x.f_Site then k 5 else bif !inB x.f_No 1 1000000 then k 1 else bif !momB x.f_At then k 1 else bif !inB x.f_Kind 1 5 then k 4 else z67z x (fun r6=>bif r6 != 0 then k r6 else net_idle x (fun r7=>bif !r7 then k 3 else k 0)):=fun R k=>by
  simp only [net_formed,yi4y,yhIy,p1,z49z_is,z50z_is]
 cases a1:keyB x.f_Site with
 | false=>rw [a1] at hq; simp at hq
 | true =>
  cases a2:inB x.f_No 1 1000000 with
  | false=>rw [a1,a2] at hq; simp at hq
  | true =>
   cases a3:momB x.f_At with
   | false=>rw [a1,a2,a3] at hq; simp at hq
   | true =>
    cases a4:inB x.f_Kind 1 5 with
    | false=>rw [a1,a2,a3,a4] at hq; simp at hq
    | true =>
     rw [a1,a2,a3,a4] at hq
     simp only [Bool.not_true,cond_false] at hq
     have hk:=yJ4y.1 a4
     have hk5:x.f_Kind = 1 ∨ x.f_Kind = 2 ∨ x.f_Kind = 3 ∨ x.f_Kind = 4 ∨ x.f_Kind = 5:=by omega
     have hF2:∀ (R:Type) (k:Int→Option R),net_formed x k = z67z x (fun r6=>bif r6 != 0 then k r6 else net_idle x (fun r7=>bif !r7 then k 3 else k 0)):=fun R k=>by
      rw [hF,a1,a2,a3,a4]; rfl
     rcases hk5 with e | e | e | e | e
     ·simp only [e,beq_self_eq_true,cond_true] at hq
      cases b1:chk x.f_Contact != 0 with
      | true=>rw [b1] at hq; simp at hq; rw [hq] at b1; cases b1
      | false =>
       cases b2:decide (x.f_Contact.f_At > x.f_At) with
       | true=>rw [b1,b2] at hq; simp at hq
       | false =>
        rw [b1,b2] at hq
        simp only [cond_false] at hq
        cases b3:ya0y x ⟨x.f_Site,x.f_No,x.f_At,1,x.f_Contact,[],[],0⟩ with
        | false=>rw [b3] at hq; simp at hq
        | true =>
         have hx:=(ycMy _ _).1 b3
         have c1:x.f_Band = []:=by rw [hx]
         have c2:x.f_Of = []:=by rw [hx]
         have c3:x.f_Other = 0:=by rw [hx]
         refine ⟨fun R k=>?_,fun _=>by simpa using b1⟩
         rw [hF2]
         simp only [z67z,z67z_,yhLy,z85z,z85z_,ywGy,p4,e,beq_self_eq_true,cond_true,b1,b2,cond_false,bne_self_eq_false,net_idle,ydly,c1,c2,c3]
         rfl
     ·simp only [e,show ((2:Int) == 1) = false from rfl,beq_self_eq_true,cond_true,cond_false] at hq
      cases b1:keyB x.f_Band with
      | false=>rw [b1] at hq; simp at hq
      | true =>
       rw [b1] at hq
       simp only [Bool.not_true,cond_false] at hq
       cases b3:ya0y x ⟨x.f_Site,x.f_No,x.f_At,2,⟨0,0,[],[],0,0,[],[]⟩,x.f_Band,[],0⟩ with
       | false=>rw [b3] at hq; simp at hq
       | true =>
        have hx:=(ycMy _ _).1 b3
        have c1:x.f_Contact = ⟨0,0,[],[],0,0,[],[]⟩:=by rw [hx]
        have c2:x.f_Of = []:=by rw [hx]
        have c3:x.f_Other = 0:=by rw [hx]
        refine ⟨fun R k=>?_,fun h=>by omega⟩
        rw [hF2]
        simp only [z67z,z67z_,yhLy,p2,e,show ((2:Int) == 1) = false from rfl,beq_self_eq_true,cond_true,b1,cond_false,Bool.not_true,bne_self_eq_false,net_idle,ydly,c1,c2,c3]
        rfl
     ·simp only [e,show ((3:Int) == 1) = false from rfl,show ((3:Int) == 2) = false from rfl,show ((3:Int) == 5) = false from rfl,cond_false] at hq
      cases b1:inB x.f_Contact.f_Sent 1 99999 with
      | false=>rw [b1] at hq; simp at hq
      | true =>
       rw [b1] at hq
       simp only [Bool.not_true,cond_false] at hq
       cases b3:ya0y x ⟨x.f_Site,x.f_No,x.f_At,3,⟨0,0,[],[],x.f_Contact.f_Sent,0,[],[]⟩,[],[],0⟩ with
       | false=>rw [b3] at hq; simp at hq
       | true =>
        have hx:=(ycMy _ _).1 b3
        have c1:x.f_Contact = ⟨0,0,[],[],x.f_Contact.f_Sent,0,[],[]⟩:=congrArg G_Deed.f_Contact hx
        have c2:x.f_Of = []:=congrArg G_Deed.f_Of hx
        have c3:x.f_Other = 0:=congrArg G_Deed.f_Other hx
        have c4:x.f_Band = []:=congrArg G_Deed.f_Band hx
        have c5:ycdy x.f_Contact ⟨0,0,[],[],x.f_Contact.f_Sent,0,[],[]⟩ = true:=(yiAy _ _).2 c1
        refine ⟨fun R k=>?_,fun h=>by omega⟩
        rw [hF2]
        simp only [z67z,z67z_,yhLy,e,show ((3:Int) == 1) = false from rfl,show ((3:Int) == 2) = false from rfl,show ((3:Int) == 5) = false from rfl,beq_self_eq_true,cond_true,z49z_is,b1,cond_false,Bool.not_true,bne_self_eq_false,net_idle,ydly,c2,c3,c4,c5]
     ·simp only [e,show ((4:Int) == 1) = false from rfl,show ((4:Int) == 2) = false from rfl,show ((4:Int) == 5) = false from rfl,cond_false] at hq
      cases b1:inB x.f_Contact.f_Sent 1 99999 with
      | false=>rw [b1] at hq; simp at hq
      | true =>
       rw [b1] at hq
       simp only [Bool.not_true,cond_false] at hq
       cases b3:ya0y x ⟨x.f_Site,x.f_No,x.f_At,4,⟨0,0,[],[],x.f_Contact.f_Sent,0,[],[]⟩,[],[],0⟩ with
       | false=>rw [b3] at hq; simp at hq
       | true =>
        have hx:=(ycMy _ _).1 b3
        have c1:x.f_Contact = ⟨0,0,[],[],x.f_Contact.f_Sent,0,[],[]⟩:=congrArg G_Deed.f_Contact hx
        have c2:x.f_Of = []:=congrArg G_Deed.f_Of hx
        have c3:x.f_Other = 0:=congrArg G_Deed.f_Other hx
        have c4:x.f_Band = []:=congrArg G_Deed.f_Band hx
        have c5:ycdy x.f_Contact ⟨0,0,[],[],x.f_Contact.f_Sent,0,[],[]⟩ = true:=(yiAy _ _).2 c1
        refine ⟨fun R k=>?_,fun h=>by omega⟩
        rw [hF2]
        simp only [z67z,z67z_,yhLy,e,show ((4:Int) == 1) = false from rfl,show ((4:Int) == 2) = false from rfl,show ((4:Int) == 3) = false from rfl,show ((4:Int) == 5) = false from rfl,beq_self_eq_true,cond_true,z49z_is,b1,cond_false,Bool.not_true,bne_self_eq_false,net_idle,ydly,c2,c3,c4,c5]
     ·simp only [e,show ((5:Int) == 1) = false from rfl,show ((5:Int) == 2) = false from rfl,beq_self_eq_true,cond_true,cond_false] at hq
      cases b1:keyB x.f_Of with
      | false=>rw [b1] at hq; simp at hq
      | true =>
       cases b2:inB x.f_Other 1 1000000 with
       | false=>rw [b1,b2] at hq; simp at hq
       | true =>
        rw [b1,b2] at hq
        simp only [Bool.not_true,cond_false] at hq
        cases b3:ya0y x ⟨x.f_Site,x.f_No,x.f_At,5,⟨0,0,[],[],0,0,[],[]⟩,[],x.f_Of,x.f_Other⟩ with
        | false=>rw [b3] at hq; simp at hq
        | true =>
         have hx:=(ycMy _ _).1 b3
         have c1:x.f_Contact = ⟨0,0,[],[],0,0,[],[]⟩:=congrArg G_Deed.f_Contact hx
         have c4:x.f_Band = []:=congrArg G_Deed.f_Band hx
         refine ⟨fun R k=>?_,fun h=>by omega⟩
         rw [hF2]
         simp only [z67z,z67z_,yhLy,p3,e,show ((5:Int) == 1) = false from rfl,show ((5:Int) == 2) = false from rfl,show ((5:Int) == 3) = false from rfl,show ((5:Int) == 4) = false from rfl,beq_self_eq_true,cond_true,z49z_is,b1,b2,cond_false,Bool.not_true,bne_self_eq_false,net_idle,ydly,c1,c4]
         rfl
end Go.Am
set_option linter.unusedVariables false
set_option linter.unusedSectionVars false
set_option linter.unusedSimpArgs false
set_option maxRecDepth 100000
namespace Go.Am
open Go Go.Proofs
variable [Fuel]
def ownD (x:G_Deed):G_net_own:=⟨x.f_Site,x.f_No⟩
structure RightD (d:List G_Deed):Prop where
 fine:∀ x ∈ d,FineD x
 good:∀ x ∈ d,fD x = 0
 ord:d.Pairwise fun a b=>cmpD a b < 0
 own:d.Pairwise fun a b=>ownD a ≠ ownD b
theorem RightD.sub {d p:List G_Deed} (h:RightD d) (hs:p.Sublist d):RightD p:=⟨fun x hx=>h.fine x (hs.subset hx),fun x hx=>h.good x (hs.subset hx),h.ord.sublist hs,h.own.sublist hs⟩
theorem yphy:RightD []:=⟨fun _ h=>(by cases h),fun _ h=>(by cases h),.nil,.nil⟩
theorem ykty {α:Type} {d xs:List α} {x:α} {i:Nat} (h:d.drop i = x :: xs):d.take (i + 1) = d.take i ++ [x]:=by
 rw [List.take_add_one,(yapy h).1]; rfl
theorem yowy (d:List G_Deed) (hr:RightD d) (hl:d.length≤1000):∀ (xs:List G_Deed) (n i:Nat),d.drop i = xs→xs.length < n→∀ (R:Type) (e0:List G_Deed→Int→Option R) (e1:List G_Deed→Option R),
  z13z_L4 ycey n d d (d.length:Int) (i:Int) e0 e1 = e1 d
 | _,0,_,_,h,_,_,_=>by omega
 | [],n + 1,i,h,_,R,e0,e1=>by rw [z13z_L4,yaOy h]; rfl
 | c :: cs,n + 1,i,h,hn,R,e0,e1=>by
  have h':=yapy h
  have hm:=ybNy h
  have ih:=yowy d hr hl cs n (i + 1) h'.2.2.1 (Nat.lt_of_succ_lt_succ (by simpa only [List.length_cons] using hn)) R e0 e1
  have he:∀ k:Int→Option R,ycey.net_formed c k = k 0:=fun k=>(ysPy (hr.fine c hm) (hr.good c hm)).1 R k
  have hw:=yary (show i < 4611686018427387904 by omega)
  rw [z13z_L4,yaAy h,cond_true,yaZy h,he,bne_self_eq_false,cond_false]
  by_cases hi:i = 0
  ·subst hi
   rw [decide_eq_false (show ¬ (((0:Nat):Int) > 0) by omega),cond_false,hw,ih]
  ·have hp:d[i - 1]? = some d[i - 1]:=List.getElem?_eq_getElem (by omega)
   have hlt:cmpD d[i - 1] c < 0:=by
    obtain ⟨hi2,rfl⟩:=List.getElem?_eq_some_iff.1 h'.1
    exact List.pairwise_iff_getElem.1 hr.ord (i - 1) i (by omega) hi2 (by omega)
   generalize d[i - 1] = p at hp hlt
   have hw2:w64 ((i:Int) - 1) = ((i - 1:Nat):Int):=yuRy (by omega) (by omega)
   have ho:∀ (k:Int→Option R),ycey.z43z p c k = k (cmpD p c):=fun k=>z43z_is p c R k
   rw [decide_eq_true (show ((i:Int) > 0) by omega),cond_true,hw2,ynly hp,ho,decide_eq_false (by omega),cond_false,hw,ih]
theorem ymty (d:List G_Deed) (hr:RightD d) (hl:d.length≤1000):∀ (xs:List G_Deed) (n i:Nat) (m:List (G_net_own×Bool)),d.drop i = xs→xs.length < n→(∀ w,(ya1y w m).getD false = (d.take i).any fun c=>decide (ownD c = w))→∀ (R:Type) (e0:Int→Option R) (e1:Option R),
  z13z_L14 ycey n d (d.length:Int) (i:Int) m e0 e1 = e1
 | _,0,_,_,_,h,_,_,_,_=>by omega
 | [],n + 1,i,m,h,_,_,R,e0,e1=>by rw [z13z_L14,yaOy h]; rfl
 | c :: cs,n + 1,i,m,h,hn,hm,R,e0,e1=>by
  have h':=yapy h
  have hno:(ya1y ⟨c.f_Site,c.f_No⟩ m).getD false = false:=by
   have:=hm (ownD c)
   refine this.trans ?_
   rw [List.any_eq_false]
   intro o ho he
   obtain ⟨j,hj,rfl⟩:=List.mem_iff_getElem.1 ho
   rw [List.length_take] at hj
   obtain ⟨hi2,rfl⟩:=List.getElem?_eq_some_iff.1 h'.1
   rw [List.getElem_take] at he
   exact List.pairwise_iff_getElem.1 hr.own j i (by omega) hi2 (by omega) (of_decide_eq_true he)
  rw [z13z_L14,yaAy h,cond_true,yaZy h,hno,cond_false,yary (show i < 4611686018427387904 by omega)]
  refine ymty d hr hl cs n (i + 1) _ h'.2.2.1 (Nat.lt_of_succ_lt_succ (by simpa only [List.length_cons] using hn)) (fun w=>?_) R e0 e1
  rw [ykty h,List.any_append,List.any_cons,List.any_nil,Bool.or_false,ydky,ylyy,ydyy ybOy]
  have hmw:=hm w
  rw [ydky] at hmw
  by_cases e:w = ownD c
  ·have e2:yaDy w ⟨c.f_Site,c.f_No⟩ = true:=(ybOy _ _).2 e
   rw [e2,decide_eq_true e.symm]; simp
  ·have e2:yaDy w ⟨c.f_Site,c.f_No⟩ = false:=by
    cases hq:yaDy w ⟨c.f_Site,c.f_No⟩ with
    | false=>rfl
    | true=>exact absurd ((ybOy _ _).1 hq) e
   rw [e2,decide_eq_false (fun h=>e h.symm),cond_false,Bool.or_false]
   exact hmw
theorem z13z_right {d:List G_Deed} (hr:RightD d) (hl:d.length≤1000) (R:Type) (k:Int→Option R):z13z d k = k 0:=by
 have unf:z13z d k = (z13z_L4 ycey NN d d (d.length:Int) 0 (fun e14 e15=>k e15) (fun e16=>(z13z_L14 ycey NN e16 (e16.length:Int) 0 [] (fun e23=>k e23) (k 0)))):=by
  show (bif (decide ((d.length:Int) > 2000)) then k 2 else _) = _
  rw [decide_eq_false (by omega)]; rfl
 rw [unf]
 refine (yowy d hr hl d NN 0 rfl (by have:=NN_ok; omega) R _ _).trans ?_
 exact ymty d hr hl d NN 0 [] rfl (by have:=NN_ok; omega) (fun w=>by rw [ydky]; rfl) R _ _
noncomputable def ybzy:Option G_Deed→List G_Deed→Int
 | _,[]=>0
 | p,c :: cs=>bif fD c != 0 then fD c else match p with
  | none=>ybzy (some c) cs
  | some q=>bif decide (cmpD q c ≥ 0) then 7 else ybzy (some c) cs
theorem yu8y (c:G_Deed) (cs:List G_Deed):ybzy none (c :: cs) = bif fD c != 0 then fD c else ybzy (some c) cs:=by simp only [ybzy]
theorem yu2y (q c:G_Deed) (cs:List G_Deed):ybzy (some q) (c :: cs) = bif fD c != 0 then fD c else bif decide (cmpD q c ≥ 0) then 7 else ybzy (some c) cs:=by simp only [ybzy]
def dupD:List G_Deed→List G_Deed→Bool
 | _,[]=>false
 | seen,x :: xs=>(seen.any fun o=>o.f_Site == x.f_Site && o.f_No == x.f_No) || dupD (seen ++ [x]) xs
theorem ymBy (d:List G_Deed) (hf:∀ c ∈ d,FineD c) (hl:d.length≤1000):∀ (xs:List G_Deed) (n i:Nat) (p:Option G_Deed),d.drop i = xs→yfHy d i p→xs.length < n→∀ (R:Type) (e0:List G_Deed→Int→Option R) (e1:List G_Deed→Option R),
  z4z_L4 I_z4z n d d (d.length:Int) (i:Int) e0 e1 = bif ybzy p xs != 0 then e0 d (ybzy p xs) else e1 d
 | _,0,_,_,_,_,h,_,_,_=>by omega
 | [],n + 1,i,p,h,_,_,R,e0,e1=>by rw [z4z_L4,yaOy h]; rfl
 | c :: cs,n + 1,i,p,h,hp,hn,R,e0,e1=>by
  have h':=yapy h
  have hn':cs.length < n:=Nat.lt_of_succ_lt_succ (by simpa only [List.length_cons] using hn)
  have ih:=ymBy d hf hl cs n (i + 1) (some c) h'.2.2.1 (ygpy h) hn' R e0 e1
  have hc:=hf c (ybNy h)
  have he:∀ k:Int→Option R,I_z4z.z73z c k = k (fD c):=fun k=>z73z_is hc R k
  rw [z4z_L4,yaAy h,cond_true,yaZy h,he,yary (show i < 4611686018427387904 by omega),ih]
  cases p with
  | none =>
   rw [yu8y]
   cases q0:fD c != 0 with
   | true=>simp only [cond_true,q0]
   | false =>
    rw [decide_eq_false (show ¬ ((i:Int) > 0) by unfold yfHy at hp; omega)]; rfl
  | some q =>
   rw [yu2y]
   cases q0:fD c != 0 with
   | true=>simp only [cond_true,q0]
   | false =>
    obtain ⟨h0,ys,hq⟩:=hp
    have ho:∀ (k:Int→Option R),I_z4z.z2z q c k = k (cmpD q c):=fun k=>z2z_is (hf q (ybNy hq)) hc R k
    simp only [cond_false]
    rw [decide_eq_true (show ((i:Int) > 0) by omega),cond_true,yiFy hq h0 (by omega),ho]
    cases decide (cmpD q c ≥ 0) <;> rfl
theorem ylky (d:List G_Deed) (hl:d.length≤1000):∀ (xs:List G_Deed) (n i:Nat),d.drop i = xs→xs.length < n→∀ (R:Type) (e0:Int→Option R) (e1:Option R),
  z4z_L13 I_z4z n d d (d.length:Int) (i:Int) e0 e1 = bif dupD (d.take i) xs then e0 6 else e1
 | _,0,_,_,h,_,_,_=>by omega
 | [],n + 1,i,h,_,R,e0,e1=>by rw [z4z_L13,yaOy h]; rfl
 | c :: cs,n + 1,i,h,hn,R,e0,e1=>by
  have h':=yapy h
  have ih:=ylky d hl cs n (i + 1) h'.2.2.1 (Nat.lt_of_succ_lt_succ (by simpa only [List.length_cons] using hn)) R e0 e1
  have hc:∀ (k:Bool→G_Deed→Option R),I_z4z.z21z (d.take i) c k = k ((d.take i).any fun o=>o.f_Site == c.f_Site && o.f_No == c.f_No) c:=fun k=>yEXy _ (by rw [List.length_take]; omega) c R k
  rw [z4z_L13,yaAy h,cond_true,yaZy h,decide_eq_true (show (0:Int)≤(i:Int) by omega),decide_eq_true (show (i:Int)≤(d.length:Int) by omega),Bool.and_self,cond_true,Int.toNat_natCast,hc,yary (show i < 4611686018427387904 by omega),ih,dupD,ykty h]
  cases (d.take i).any fun o=>o.f_Site == c.f_Site && o.f_No == c.f_No <;> rfl
noncomputable def yjry (d:List G_Deed):Int:=bif ybzy none d != 0 then ybzy none d else bif dupD [] d then 6 else 0
theorem z4z_is {d:List G_Deed} (hf:∀ c ∈ d,FineD c) (hl:d.length≤1000) (R:Type) (k:Int→Option R):z4z d k = k (yjry d):=by
 have unf:z4z d k = (z4z_L4 I_z4z NN d d (d.length:Int) 0 (fun e14 e15=>k e15) (fun e16=>(z4z_L13 I_z4z NN e16 e16 (e16.length:Int) 0 (fun e27=>k e27) (k 0)))):=by
  show (bif (decide ((d.length:Int) > 2000)) then k 2 else _) = _
  rw [decide_eq_false (by omega)]; rfl
 rw [unf]
 refine (ymBy d hf hl d NN 0 none rfl rfl (by have:=NN_ok; omega) R _ _).trans ?_
 have h2:=ylky d hl d NN 0 rfl (by have:=NN_ok; omega) R (fun e27=>k e27) (k 0)
 unfold yjry
 cases ybzy none d != 0 with
 | true=>rfl
 | false =>
  simp only [cond_false]
  refine h2.trans ?_
  rw [List.take_zero]
  cases dupD [] d <;> rfl
theorem ylty:∀ (l:List G_Deed) (p:Option G_Deed),ybzy p l = 0→(∀ c ∈ l,fD c = 0)∧l.Pairwise (fun a b=>cmpD a b < 0)∧∀ q,p = some q→∀ c ∈ l,cmpD q c < 0
 | [],_,_=>⟨fun _ h=>(by cases h),.nil,fun _ _ _ h=>(by cases h)⟩
 | x :: xs,p,h=>by
  unfold ybzy at h
  cases hq:fD x != 0 with
  | true=>rw [hq] at h; simp only [cond_true] at h; rw [h] at hq; cases hq
  | false =>
   rw [hq] at h
   simp only [cond_false] at h
   have h0:fD x = 0:=by simpa using hq
   have h2:ybzy (some x) xs = 0∧∀ q,p = some q→cmpD q x < 0:=by
    cases p with
    | none=>exact ⟨h,fun q hq=>by cases hq⟩
    | some q =>
     simp only at h
     cases hd:decide (cmpD q x ≥ 0) with
     | true=>rw [hd] at h; simp only [cond_true] at h; omega
     | false =>
      rw [hd] at h
      refine ⟨h,fun q' hq'=>?_⟩
      cases hq'
      have:=of_decide_eq_false hd
      omega
   obtain ⟨g1,g2,g3⟩:=ylty xs (some x) h2.1
   refine ⟨fun c hc=>?_,List.pairwise_cons.2 ⟨g3 x rfl,g2⟩,fun q hq c hc=>?_⟩
   ·rcases List.mem_cons.1 hc with rfl | hc
    ·exact h0
    ·exact g1 c hc
   ·have hqx:=h2.2 q hq
    rcases List.mem_cons.1 hc with rfl | hc
    ·exact hqx
    ·have h3:=g3 x rfl c hc
     have t:=yeJy.trans q x c (by omega) (by omega)
     rcases Int.lt_or_eq_of_le t with t | t
     ·exact t
     ·exfalso
      have a1:=yeJy.anti q c
      have a2:=yeJy.trans c q x (by omega) (by omega)
      have a3:=yeJy.anti x c
      omega
theorem ysgy:∀ (l seen:List G_Deed),dupD seen l = false→(∀ o ∈ seen,∀ x ∈ l,ownD o ≠ ownD x)∧l.Pairwise fun a b=>ownD a ≠ ownD b
 | [],_,_=>⟨fun _ _ _ h=>(by cases h),.nil⟩
 | y :: ys,seen,h=>by
  simp only [dupD,Bool.or_eq_false_iff] at h
  obtain ⟨h1,h2⟩:=ysgy ys (seen ++ [y]) h.2
  have h3:∀ o ∈ seen,ownD o ≠ ownD y:=fun o ho e=>by
   have:=List.any_eq_false.1 h.1 o ho
   unfold ownD at e
   simp only [G_net_own.mk.injEq] at e
   simp [e.1,e.2] at this
  refine ⟨fun o ho x hx=>?_,List.pairwise_cons.2 ⟨fun x hx=>h1 y (by simp) x hx,h2⟩⟩
  rcases List.mem_cons.1 hx with rfl | hx
  ·exact h3 o ho
  ·exact h1 o (by simp [ho]) x hx
theorem yu9y {d:List G_Deed} (hf:∀ c ∈ d,FineD c) (h:yjry d = 0):RightD d:=by
 unfold yjry at h
 cases h1:ybzy none d != 0 with
 | true=>rw [h1] at h; simp only [cond_true] at h; rw [h] at h1; cases h1
 | false =>
  rw [h1] at h
  simp only [cond_false] at h
  cases h2:dupD [] d with
  | true=>rw [h2] at h; simp at h
  | false =>
   obtain ⟨g1,g2,_⟩:=ylty d none (by simpa using h1)
   exact ⟨hf,g1,g2,(ysgy d [] h2).2⟩
theorem yily (many:Nat) (hm:many≤20):∀ (j n i:Nat) (b:Int) (s:G_Stream),i + j = 5→j < n→SOk b s→b + 2000 * (j:Int)≤50000 →
  ∃ (q:Bool) (r:List G_Deed) (s':G_Stream),r.length≤many∧RightD r∧SOk (b + 2000 * (j:Int)) s'∧∀ (R:Type) (e0:G_Stream→List G_Deed→Option R) (e1:G_Stream→Option R),z28z_L2 ye4y n (many:Int) (i:Int) s e0 e1 = bif q then e0 s' r else e1 s'
 | _,0,_,_,_,_,h,_,_=>by omega
 | 0,n + 1,i,b,s,hi,_,hs,hb=>⟨false,[],s,by simp,yphy,hs.mono (by omega),fun R e0 e1=>by rw [z28z_L2,decide_eq_false (by omega)]; rfl⟩
 | j + 1,n + 1,i,b,s,hi,hn,hs,hb=>by
  obtain ⟨r,s1,z1,l1,f1,e1⟩:=z19z_gives hs (by omega) many hm
  have g1:∀ (R:Type) (k:List G_Deed→G_Stream→Option R),ye4y.z19z s (many:Int) k = k r s1:=e1
  have g2:∀ (R:Type) (k:Int→Option R),ye4y.z4z r k = k (yjry r):=fun R k=>z4z_is f1 (by omega) R k
  cases h0:yjry r == 0 with
  | true=>exact ⟨true,r,s1,by omega,yu9y f1 (by simpa using h0),z1.mono (by omega),fun R e0 e1'=>by rw [z28z_L2,decide_eq_true (show (i:Int) < 5 by omega),cond_true,g1,g2,h0]; rfl⟩
  | false =>
   obtain ⟨q,r',s',g3,g4,g6,g5⟩:=yily many hm j n (i + 1) (b + 2000) s1 (by omega) (by omega) z1 (by omega)
   exact ⟨q,r',s',g3,g4,g6.mono (by omega),fun R e0 e1'=>by rw [z28z_L2,decide_eq_true (show (i:Int) < 5 by omega),cond_true,g1,g2,h0,cond_false,yary (show i < 4611686018427387904 by omega),g5]⟩
theorem yoPy {b:Int} {s:G_Stream} (hs:SOk b s) (hb:b≤30000) (many:Nat) (hm:many≤20) :
  ∃ (r:List G_Deed) (s':G_Stream),r.length≤many∧RightD r∧SOk (b + 10000) s'∧∀ (R:Type) (k:List G_Deed→G_Stream→Option R),z28z s (many:Int) k = k r s':=by
 obtain ⟨q,r,s',g1,g2,g4,g3⟩:=yily many hm 5 NN 0 b s (by omega) (by have:=NN_ok; omega) hs (by omega)
 cases q with
 | true=>exact ⟨r,s',g1,g2,g4.mono (by omega),fun R k=>g3 R _ _⟩
 | false=>exact ⟨[],s',by simp,yphy,g4.mono (by omega),fun R k=>g3 R _ _⟩
end Go.Am
