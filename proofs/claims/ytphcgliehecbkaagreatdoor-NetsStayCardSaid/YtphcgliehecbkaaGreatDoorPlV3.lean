/- The plain law, in Lean alone: V3. No condition: lemmas for the claim. -/
import Derived.Test.YtphcgliehecbkaaGreatDoorPlV1
import Derived.Test.YtphcgliehecbkaaGreatDoorPlB4
set_option linter.unusedVariables false
set_option linter.unusedSectionVars false
set_option linter.unusedSimpArgs false
set_option maxRecDepth 100000
namespace Go.Am
open Go Go.Proofs
variable [Fuel]
theorem yF6y {a b:List G_Deed} (ha:a.length≤100000) (hb:b.length≤100000) (R:Type) (k:List G_Deed→Option R):z10z [a,b] k = k (a ++ b):=by
 rw [yF3y]; exact yDiy a b ha hb (by omega) (by have:=NN_ok; omega) k
theorem yBRy {l:List G_Deed} (hl:l.length≤1000000) (R:Type) (k:List G_Deed→Option R):z72z l k = k l:=yyLy l hl (by omega) k
theorem yz6y {l:List G_Deed} (hl:l.length≤1000000) (R:Type) (k:Bool→Option R):z40z l l k = k true:=by
 rw [yHjy]; exact yvXy (by have:=NN_ok; omega) (by have:=NN_ok; omega) (fun x=>by rw [(ytHy x x).2 rfl]; rfl) k
theorem ywoy {l:List G_Deed} (hl:l.length≤1000000):∃ r:List G_Deed,r.length = l.length∧∀ (R:Type) (k:List G_Deed→Option R),z36z l k = k r:=by
 obtain ⟨ys,hp,_,h⟩:=yfiy (call:=@z35z _) (xs:=l) (c:=cmpD) (by omega) (fun x _ y _=>z35z_is x y) (yCay.pre _)
 exact ⟨ys,hp.length_eq,fun R k=>h R k⟩
theorem yu6y {l:List G_Contact} (hl:l.length≤1000000):∃ r:List G_Contact,r.length = l.length∧∀ (R:Type) (k:List G_Contact→Option R),z32z l k = k r:=by
 obtain ⟨ys,hp,_,h⟩:=yfiy (call:=@z41z _) (xs:=l) (c:=cmpC) (by omega) (fun x _ y _=>z41z_is x y) (yAHy.pre _)
 exact ⟨ys,hp.length_eq,fun R k=>h R k⟩
theorem yhiy (d:List G_Deed) (hl:d.length≤1000):∀ (xs:List G_Deed) (n i:Nat) (m:List (G_net_own×G_Deed)) (out:List G_Deed),d.drop i = xs→xs.length < n→out.length≤i→i≤d.length→∃ (q:Bool) (r:List G_Deed),r.length≤d.length∧∀ (R:Type) (e0:Int→List G_Deed→Option R) (e1:List G_Deed→Option R),
  z26z_L11 ybOy n (d.length:Int) (i:Int) m d out e0 e1 = bif q then e0 13 r else e1 r
 | _,0,_,_,_,_,h,_,_=>by omega
 | [],n + 1,i,m,out,h,_,ho,hi=>⟨false,out,by omega,fun R e0 e1=>by rw [z26z_L11,ya6y h]; rfl⟩
 | c :: cs,n + 1,i,m,out,h,hn,ho,hi=>by
  have h':=yavy h
  have hn':cs.length < n:=Nat.lt_of_succ_lt_succ (by simpa only [List.length_cons] using hn)
  have hw:=yazy (show i < 4611686018427387904 by omega)
  cases hq:(yaly ⟨c.f_Site,c.f_No⟩ m).isSome with
  | false =>
   obtain ⟨q,r,g1,g2⟩:=yhiy d hl cs n (i + 1) (ybKy ⟨c.f_Site,c.f_No⟩ c m) (out ++ [c]) h'.2.2.1 hn' (by simp; omega) h'.2.1
   exact ⟨q,r,g1,fun R e0 e1=>by rw [z26z_L11,yaJy h,cond_true,ycry h,yc9y h,hq,Bool.not_false,cond_true,room1 out c 176 (show out.length≤1000000 by omega) (by omega),cond_true,hw,g2]⟩
  | true =>
   obtain ⟨q,r,g1,g2⟩:=yhiy d hl cs n (i + 1) m out h'.2.2.1 hn' (by omega) h'.2.1
   generalize hz:(yaly ⟨c.f_Site,c.f_No⟩ m).getD ⟨[],0,0,0,⟨0,0,[],[],0,0,[],[]⟩,[],[],0⟩ = z
   cases he:yaUy ⟨z.f_Site,z.f_No,z.f_At,z.f_Kind,z.f_Contact,z.f_Band,z.f_Of,z.f_Other⟩ c with
   | true=>exact ⟨q,r,g1,fun R e0 e1=>by
     rw [z26z_L11,yaJy h,cond_true,ycry h,yc9y h,hq,Bool.not_true,cond_false,hz]
     show (bif !(yaUy ⟨z.f_Site,z.f_No,z.f_At,z.f_Kind,z.f_Contact,z.f_Band,z.f_Of,z.f_Other⟩ c) then _ else _) = _
     rw [he,Bool.not_true,cond_false,hw,g2]⟩
   | false=>exact ⟨true,out,by omega,fun R e0 e1=>by
     rw [z26z_L11,yaJy h,cond_true,ycry h,yc9y h,hq,Bool.not_true,cond_false,hz]
     show (bif !(yaUy ⟨z.f_Site,z.f_No,z.f_At,z.f_Kind,z.f_Contact,z.f_Band,z.f_Of,z.f_Other⟩ c) then _ else _) = _
     rw [he]; rfl⟩
theorem ytgy {a:List G_Deed} (ha:∀ c ∈ a,FineD c) (hla:a.length≤1000):∃ (r:List G_Deed) (e:Int),r.length≤1000∧∀ (R:Type) (k:List G_Deed→Int→Option R),z26z a k = k r e:=by
 obtain ⟨ea,hea⟩:=z11z_gives ha (by omega)
 obtain ⟨eb,heb⟩:=z11z_gives (d:=[]) (fun c h=>by cases h) (by simp)
 have ca:∀ (R:Type) (k:Int→Option R),ybOy.z11z a k = k ea:=hea
 have cb:∀ (R:Type) (k:Int→Option R),ybOy.z11z [] k = k eb:=heb
 have hloop:∀ (R:Type) (e0:List G_Deed→Int→Option R) (e1:List G_Deed→Option R),z26z_L2 ybOy NN a ([a,[]].length:Int) 0 [a,[]] e0 e1 = bif ea != 0 then e0 a ea else bif eb != 0 then e0 a eb else e1 a:=fun R e0 e1=>by
  obtain ⟨m,e,hm⟩:=yxEy
  obtain ⟨m,rfl⟩:∃ q,m = q + 2:=⟨m - 2,by omega⟩
  have w1:w64 (0 + 1) = ((1:Nat):Int):=yaKy (by omega) (by omega)
  have w2:w64 (((1:Nat):Int) + 1) = ((2:Nat):Int):=by rw [yaKy (by omega) (by omega)]; rfl
  have i0:∀ {R:Type} (k:Option R),inr [a,[]] 0 k = k:=fun k=>ybdy (i:=0) (by simp) k
  have a0:∀ {R:Type} (k:List G_Deed→Option R),at_ [a,[]] 0 k = k a:=fun k=>ybmy (i:=0) rfl k
  have i1:∀ {R:Type} (k:Option R),inr [a,[]] ((1:Nat):Int) k = k:=fun k=>ybdy (i:=1) (by simp) k
  have a1:∀ {R:Type} (k:List G_Deed→Option R),at_ [a,[]] ((1:Nat):Int) k = k []:=fun k=>ybmy (i:=1) rfl k
  have d0:decide ((0:Int) < ([a,[]].length:Int)) = true:=rfl
  have d1:decide (((1:Nat):Int) < ([a,[]].length:Int)) = true:=rfl
  have d2:decide (((2:Nat):Int) < ([a,[]].length:Int)) = false:=rfl
  rw [show (NN:Nat) = m + 2 + 1 from e,z26z_L2,d0,cond_true,i0,a0,ca,w1,z26z_L2,d1,cond_true,i1,a1,cb,w2,z26z_L2,d2,cond_false]
 obtain ⟨q,r,g1,g2⟩:=yhiy (a ++ []) (by simp; omega) (a ++ []) NN 0 [] [] rfl (by simp; have:=NN_ok; omega) (by simp) (by simp)
 obtain ⟨t,t1,t2⟩:=ywoy (l:=r) (by simp at g1; omega)
 have hr:r.length≤1000:=by simp at g1; omega
 have cc:∀ (R:Type) (k:List G_Deed→Option R),ybOy.z10z [a,[]] k = k (a ++ []):=fun R k=>yF6y (by omega) (by simp) R k
 have cs:∀ (R:Type) (k:List G_Deed→Option R),ybOy.z36z r k = k t:=t2
 have unf:∀ (R:Type) (k:List G_Deed→Int→Option R),z26z a k = bif ea != 0 then k [] ea else bif eb != 0 then k [] eb else bif q then k [] 13 else k t 0:=fun R k=>by
  refine (hloop R _ _).trans ?_
  cases ea != 0 with
  | true=>rfl
  | false =>
   cases eb != 0 with
   | true=>rfl
   | false =>
    simp only [cond_false]
    rw [cc]
    refine (g2 R _ _).trans ?_
    cases q with
    | true=>rfl
    | false =>
     simp only [cond_false]
     rw [decide_eq_false (show ¬ ((r.length:Int) > 2000) by omega),cond_false,cs]
 cases h1:ea != 0 with
 | true=>exact ⟨[],ea,by simp,fun R k=>by rw [unf,h1]; rfl⟩
 | false =>
  cases h2:eb != 0 with
  | true=>exact ⟨[],eb,by simp,fun R k=>by rw [unf,h1,h2]; rfl⟩
  | false =>
   cases q with
   | true=>exact ⟨[],13,by simp,fun R k=>by rw [unf,h1,h2]; rfl⟩
   | false=>exact ⟨t,0,by omega,fun R k=>by rw [unf,h1,h2]; rfl⟩
theorem ydFy (d:List G_Deed) (hl:d.length≤1000) (at0:Int):∀ (n:Nat) (m:List (G_net_own×Bool)) (out:List Int),n≤d.length→out.length + n≤d.length→(∀ j ∈ out,0≤j∧j < (d.length:Int)) →
  ∃ (m':List (G_net_own×Bool)) (r:List Int),r.length≤d.length∧(∀ j ∈ r,0≤j∧j < (d.length:Int))∧∀ (R:Type) (e0:Int→List (G_net_own×Bool)→List Int→Option R),z12z_L6 ybBy n d at0 m out e0 = e0 at0 m' r
 | 0,m,out,_,ho,hr=>⟨m,out,by omega,hr,fun R e0=>by rw [z12z_L6]⟩
 | n + 1,m,out,hn,ho,hr=>by
  have hx:d[n]? = some d[n]:=List.getElem?_eq_getElem (by omega)
  generalize d[n] = x at hx
  have hr2:∀ j ∈ out ++ [(n:Int)],0≤j∧j < (d.length:Int):=fun j hj=>by
   rcases List.mem_append.1 hj with hj | hj
   ·exact hr j hj
   ·rw [List.mem_singleton] at hj; omega
  obtain ⟨m1,r1,a1,a2,a3⟩:=ydFy d hl at0 n m out (by omega) (by omega) hr
  obtain ⟨m2,r2,b1,b2,b3⟩:=ydFy d hl at0 n (yaEy ⟨x.f_Of,x.f_Other⟩ true m) (out ++ [(n:Int)]) (by omega) (by simp; omega) hr2
  obtain ⟨m3,r3,c1,c2,c3⟩:=ydFy d hl at0 n m (out ++ [(n:Int)]) (by omega) (by simp; omega) hr2
  have hroom:=room1 out (n:Int) 8 (show out.length≤1000000 by omega) (by omega)
  cases h1:decide (x.f_At > at0) with
  | true=>exact ⟨m1,r1,a1,a2,fun R e0=>by rw [z12z_L6,hx]; simp only [h1,cond_true]; exact a3 R e0⟩
  | false =>
   cases h2:(ya0y ⟨x.f_Site,x.f_No⟩ m).getD false with
   | true=>exact ⟨m1,r1,a1,a2,fun R e0=>by rw [z12z_L6,hx]; simp only [h1,h2,cond_true,cond_false]; exact a3 R e0⟩
   | false =>
    cases h3:x.f_Kind == 5 with
    | true=>exact ⟨m2,r2,b1,b2,fun R e0=>by rw [z12z_L6,hx]; simp only [h1,h2,h3,hroom,cond_true,cond_false]; exact b3 R e0⟩
    | false=>exact ⟨m3,r3,c1,c2,fun R e0=>by rw [z12z_L6,hx]; simp only [h1,h2,h3,hroom,cond_true,cond_false]; exact c3 R e0⟩
theorem yHzy (g:Nat):@z38z_ g = @sRev Int g:=by kernel_rfl
theorem z12z_gives {d:List G_Deed} (hl:d.length≤1000) (at0:Int):∃ r:List Int,r.length≤d.length∧(∀ j ∈ r,0≤j∧j < (d.length:Int))∧∀ (R:Type) (k:List Int→Option R),z12z d at0 k = k r:=by
 obtain ⟨m',r,g1,g2,g3⟩:=ydFy d hl at0 d.length [] [] (Nat.le_refl _) (by simp) (fun j h=>by cases h)
 have hraw:∀ (R:Type) (k:List Int→Option R),yfuy ybBy d at0 k = k r.reverse:=fun R k=>by
  have hrev:∀ k:List Int→Option R,ybBy.z38z r k = k r.reverse:=fun k=>by
   show z38z_ NN r k = _
   rw [yHzy]
   exact yHry (by omega) (by have:=NN_ok; omega) k
  show (bif decide (d.length < 4611686018427387904) then (z12z_L6 ybBy d.length d at0 [] [] (fun e9 e10 e11=>ybBy.z38z e11 (fun r12=>k r12))) else none) = _
  rw [decide_eq_true (by omega),cond_true,g3,hrev]
 refine ⟨r.reverse,by rw [List.length_reverse]; exact g1,fun j hj=>g2 j (List.mem_reverse.1 hj),fun R k=>?_⟩
 show (yfuy ybBy d at0 (fun z0=>some (yc0y z0))).bind _ = _
 rw [hraw]
 rfl
end Go.Am
