/- The plain law, in Lean alone: VA, VB. No condition: lemmas for the claim. -/
import Derived.Test.YtfmhkakoakcpgaaGreatDoorPlV8
import Derived.Test.YtfmhkakoakcpgaaGreatDoorPlH1
set_option linter.unusedVariables false
set_option linter.unusedSectionVars false
set_option linter.unusedSimpArgs false
set_option maxRecDepth 100000
namespace Go.Am
open Go Go.Proofs
variable [Fuel]
def cntS (S:List (List UInt8)) (st:List UInt8):Int:=((S.filter fun s=>s == st).length:Int)
def sumL:List Int→Int
 | []=>0
 | x :: xs=>x + sumL xs
theorem yspy (s:List UInt8) (S:List (List UInt8)) (st:List UInt8):cntS (s :: S) st = (bif s == st then 1 else 0) + cntS S st:=by
 unfold cntS
 cases h:s == st <;> simp [h] <;> omega
theorem yviy {α:Type} (f g:α→Int):∀ K:List α,sumL (K.map fun x=>f x + g x) = sumL (K.map f) + sumL (K.map g)
 | []=>rfl
 | x :: xs=>by
  show (f x + g x) + sumL (xs.map fun x=>f x + g x) = (f x + sumL (xs.map f)) + (g x + sumL (xs.map g))
  rw [yviy f g xs]; omega
theorem ysdy (s:List UInt8):∀ K:List (List UInt8),s ∉ K→sumL (K.map fun st=>bif s == st then 1 else 0) = 0
 | [],_=>rfl
 | x :: xs,h=>by
  have h1:(s == x) = false:=by simpa using fun e=>h (by rw [e]; simp)
  show (bif s == x then (1:Int) else 0) + sumL (xs.map fun st=>bif s == st then 1 else 0) = 0
  rw [h1,ysdy s xs fun e=>h (List.mem_cons_of_mem _ e)]; rfl
theorem ytPy (s:List UInt8):∀ K:List (List UInt8),K.Nodup→s ∈ K→sumL (K.map fun st=>bif s == st then 1 else 0) = 1
 | [],_,h=>by cases h
 | x :: xs,hn,h=>by
  rw [List.nodup_cons] at hn
  show (bif s == x then (1:Int) else 0) + sumL (xs.map fun st=>bif s == st then 1 else 0) = 1
  rcases List.mem_cons.1 h with rfl | h
  ·rw [beq_self_eq_true,ysdy _ xs hn.1]; rfl
  ·have h1:(s == x) = false:=by simpa using fun e=>hn.1 (by rw [← e]; exact h)
   rw [h1,ytPy s xs hn.2 h]; rfl
theorem yssy {α:Type}:∀ K:List α,sumL (K.map fun _=>(0:Int)) = 0
 | []=>rfl
 | x :: xs=>by
  show (0:Int) + sumL (xs.map fun _=>(0:Int)) = 0
  rw [yssy xs]; rfl
theorem yyIy {K:List (List UInt8)} (hK:K.Nodup):∀ S:List (List UInt8),(∀ s ∈ S,s ∈ K)→sumL (K.map (cntS S)) = (S.length:Int)
 | [],_=>(yssy K)
 | s :: S,h=>by
  have e:K.map (cntS (s :: S)) = K.map fun st=>(bif s == st then 1 else 0) + cntS S st:=List.map_congr_left fun st _=>yspy s S st
  rw [e,yviy,ytPy s K hK (h s (by simp)),yyIy hK S fun t ht=>h t (by simp [ht]),List.length_cons]
  omega
theorem ysKy (D:List G_Deed) (hD:∀ x ∈ D,FineD x) (hl:D.length≤1000) (H:List (G_net_own×Bool)) (C:List G_Contact) (S:List (List UInt8)) (O:List Int):∀ (xs:List G_Deed) (n i:Nat) (m:List (List UInt8×Bool)),D.drop i = xs→xs.length < n→OneM m→m.length≤i→i≤D.length→(∀ p ∈ m,p.1 ∈ ycPy) →
  ∃ m':List (List UInt8×Bool),OneM m'∧m'.length≤D.length∧(∀ p ∈ m',p.1 ∈ ycPy)∧(∀ s ∈ m.map (·.1),s ∈ m'.map (·.1))∧(∀ y ∈ xs,y.f_Site ∈ m'.map (·.1))∧∀ (R:Type) (e0:List (G_net_own×Bool)→List (List UInt8×Bool)→List G_Deed→List G_Contact→List (List UInt8)→List Int→Option R),
   z24z_L3 NN n (D.length:Int) (i:Int) H m D C S O e0 = e0 H m' D C S O
 | _,0,_,_,_,h,_,_,_,_=>by omega
 | [],n + 1,i,m,h,_,h1,h2,hi,h3=>⟨m,h1,by omega,h3,fun s hs=>hs,fun y hy=>(by cases hy),fun R e0=>by rw [z24z_L3,yaOy h]; rfl⟩
 | x :: xs,n + 1,i,m,h,hn,h1,h2,hi,h3=>by
  have h':=yapy h
  have hx:=hD x (ybNy h)
  have e1:ya7y x.f_Site true m = aset ybgy x.f_Site true m:=by rw [ymuy]
  have hk:(∀ s ∈ m.map (·.1),s ∈ (ya7y x.f_Site true m).map (·.1))∧x.f_Site ∈ (ya7y x.f_Site true m).map (·.1):=by
   rw [e1]
   rcases ymEy yg0y x.f_Site true m with ⟨a,b⟩ | ⟨a,b⟩
   ·rw [b]; exact ⟨fun s hs=>hs,a⟩
   ·rw [b]; exact ⟨fun s hs=>List.mem_append_left _ hs,by simp⟩
  obtain ⟨m',g1,g2,g3,g5,g6,g4⟩:=ysKy D hD hl H C S O xs n (i + 1) (ya7y x.f_Site true m) h'.2.2.1 (Nat.lt_of_succ_lt_succ (by simpa only [List.length_cons] using hn)) (by rw [e1]; exact yDNy yg0y h1 _ _) (by rw [e1]; have:=ywPy (eq:=ybgy) x.f_Site true m; omega) h'.2.1 (fun p hp=>by
   rw [e1] at hp
   rcases yvYy hp with rfl | hp
   ·exact hx.site
   ·exact h3 p hp)
  refine ⟨m',g1,g2,g3,fun s hs=>g5 s (hk.1 s hs),fun y hy=>?_,fun R e0=>by rw [z24z_L3,yaAy h,cond_true,yb1y h,ycpy h,yary (show i < 4611686018427387904 by omega),g4]⟩
  rcases List.mem_cons.1 hy with rfl | hy
  ·exact g5 _ hk.2
  ·exact g6 y hy
theorem yvqy {D:List G_Deed} {C:List G_Contact} {S:List (List UInt8)} {O:List Int} (h:StOk D C S O) (H:List (G_net_own×Bool)):∃ K:List (List UInt8),K.length≤1000∧K.Nodup∧(∀ y ∈ D,y.f_Site ∈ K)∧∀ (R:Type) (k:List (List UInt8)→List G_Deed→List G_Contact→List (List UInt8)→List Int→List (G_net_own×Bool)→Option R),z24z D C S O H k = k K D C S O H:=by
 have hlD:=h.lD
 obtain ⟨m',g1,g2,g3,_,g5,g4⟩:=ysKy D h.fD h.lD H C S O D NN 0 [] rfl (by have:=NN_ok; omega) List.nodup_nil (by simp) (by omega) (fun p hp=>by cases hp)
 have hk:srtK9 (List.map (fun p=>p.1) m') = some (sortI Lib.compareBytes (m'.map (·.1))):=yC5y (m'.map (·.1)) g1 (fun s hs=>by
  obtain ⟨p,hp,rfl⟩:=List.mem_map.1 hs
  exact yzLy _ (g3 p hp)) (by rw [List.length_map]; omega)
 refine ⟨sortI Lib.compareBytes (m'.map (·.1)),by rw [ymxy,List.length_map]; omega,(yhqy _ _).nodup_iff.2 g1,fun y hy=>ysZy.2 (g5 y hy),fun R k=>?_⟩
 refine (g4 R _).trans ?_
 rw [hk]; rfl
theorem ysmy (st:List UInt8) (v75 v76:Int) (H:List (G_net_own×Bool)) (K:List (List UInt8)) (out:List G_Desk) (D:List G_Deed) (hl:D.length≤1000) (C:List G_Contact) (S:List (List UInt8)) (O:List Int):∀ (xs:List G_Deed) (n i:Nat) (k:G_Desk),D.drop i = xs→xs.length < n →
  ∃ k':G_Desk,k'.f_Contacts = k.f_Contacts∧∀ (R:Type) (e0:List UInt8→Int→Int→List (G_net_own×Bool)→List (List UInt8)→List G_Desk→G_Desk→List G_Deed→List G_Contact→List (List UInt8)→List Int→Option R),
   z3z_L7 I_z3z n st v75 v76 (D.length:Int) (i:Int) H K out k D C S O e0 = e0 st v75 v76 H K out k' D C S O
 | _,0,_,_,_,h=>by omega
 | [],n + 1,i,k,h,_=>⟨k,rfl,fun R e0=>by rw [z3z_L7,yaOy h]; rfl⟩
 | x :: xs,n + 1,i,k,h,hn=>by
  have h':=yapy h
  have hn':xs.length < n:=Nat.lt_of_succ_lt_succ (by simpa only [List.length_cons] using hn)
  obtain ⟨k',g0,g⟩:=ysmy st v75 v76 H K out D hl C S O xs n (i + 1) (bif x.f_Site == st then (bif x.f_Kind == 2 then ⟨k.f_Site,x.f_Band,k.f_Contacts⟩ else k) else k) h'.2.2.1 hn'
  refine ⟨k',by rw [g0]; cases x.f_Site == st <;> cases x.f_Kind == 2 <;> rfl,fun R e0=>?_⟩
  rw [z3z_L7,yaAy h,cond_true,yb1y h,ycpy h,yary (show i < 4611686018427387904 by omega),← g R e0]
  cases x.f_Site == st <;> cases x.f_Kind == 2 <;> rfl
theorem yqWy (st:List UInt8) (v101 v102:Int) (H:List (G_net_own×Bool)) (K:List (List UInt8)) (out:List G_Desk) (D:List G_Deed) (C:List G_Contact) (S:List (List UInt8)) (hl:S.length≤1000) (O:List Int):∀ (xs:List (List UInt8)) (n i:Nat) (k:G_Desk),S.drop i = xs→xs.length < n→0≤k.f_Contacts→k.f_Contacts≤i→i≤S.length →
  ∃ k':G_Desk,k'.f_Contacts = k.f_Contacts + cntS xs st∧∀ (R:Type) (e0:Int→Int→List (G_net_own×Bool)→List (List UInt8)→List G_Desk→G_Desk→List G_Deed→List G_Contact→List (List UInt8)→List Int→Option R),
   z3z_L13 I_z3z n st v101 v102 (S.length:Int) (i:Int) H K out k D C S O e0 = e0 v101 v102 H K out k' D C S O
 | _,0,_,_,_,h,_,_,_=>by omega
 | [],n + 1,i,k,h,_,_,_,_=>⟨k,by unfold cntS; simp,fun R e0=>by rw [z3z_L13,yaOy h]; rfl⟩
 | x :: xs,n + 1,i,k,h,hn,h0,h1,hi=>by
  have h':=yapy h
  have hn':xs.length < n:=Nat.lt_of_succ_lt_succ (by simpa only [List.length_cons] using hn)
  have hw:w64 (k.f_Contacts + 1) = k.f_Contacts + 1:=yaGy (by omega) (by omega)
  obtain ⟨k',g0,g⟩:=yqWy st v101 v102 H K out D C S hl O xs n (i + 1) (bif x == st then ⟨k.f_Site,k.f_Band,w64 (k.f_Contacts + 1)⟩ else k) h'.2.2.1 hn' (by cases x == st <;> simp [hw] <;> omega) (by cases x == st <;> simp [hw] <;> omega) h'.2.1
  refine ⟨k',by rw [g0,yspy]; cases x == st <;> simp [hw] <;> omega,fun R e0=>?_⟩
  rw [z3z_L13,yaAy h,cond_true,yb1y h,ycpy h,yary (show i < 4611686018427387904 by omega),← g R e0]
  cases x == st <;> rfl
theorem ysty {D:List G_Deed} {C:List G_Contact} {S:List (List UInt8)} {O:List Int} (h:StOk D C S O) (H:List (G_net_own×Bool)) (K:List (List UInt8)) (hK:K.length≤1000):∀ (xs:List (List UInt8)) (n i:Nat) (out:List G_Desk),K.drop i = xs→xs.length < n→out.length≤i→i≤K.length →
  ∃ r:List G_Desk,r.length≤K.length∧r.map (·.f_Contacts) = out.map (·.f_Contacts) ++ xs.map (cntS S)∧∀ (R:Type) (e0:List (G_net_own×Bool)→List G_Desk→List G_Deed→List G_Contact→List (List UInt8)→List Int→Option R),
   z3z_L3 I_z3z n (K.length:Int) (i:Int) H K out D C S O e0 = e0 H r D C S O
 | _,0,_,_,_,hn,_,_=>by omega
 | [],n + 1,i,out,hx,_,ho,hi=>⟨out,by omega,by simp,fun R e0=>by rw [z3z_L3,yaOy hx]; rfl⟩
 | st :: xs,n + 1,i,out,hx,hn,ho,hi=>by
  have h':=yapy hx
  have hn':xs.length < n:=Nat.lt_of_succ_lt_succ (by simpa only [List.length_cons] using hn)
  have hlD:=h.lD
  have hlS:=h.lS
  obtain ⟨k1,c1,g1⟩:=ysmy st (K.length:Int) (i:Int) H K out D hlD C S O D NN 0 ⟨st,[],0⟩ rfl (by have:=NN_ok; omega)
  have c1':k1.f_Contacts = 0:=c1
  obtain ⟨k2,c2,g2⟩:=yqWy st (K.length:Int) (i:Int) H K out D C S hlS O S NN 0 k1 rfl (by have:=NN_ok; omega) (by omega) (by omega) (by omega)
  obtain ⟨r,g3,g5,g4⟩:=ysty h H K hK xs n (i + 1) (out ++ [k2]) h'.2.2.1 hn' (by simp; omega) h'.2.1
  refine ⟨r,g3,by rw [g5,List.map_append,List.map_singleton,c2,c1',Int.zero_add,List.append_assoc]; rfl,fun R e0=>?_⟩
  rw [z3z_L3,yaAy hx,cond_true,yb1y hx,ycpy hx]
  refine (g1 R _).trans ?_
  refine (g2 R _).trans ?_
  rw [room1 out k2 40 (show out.length≤1000000 by omega) (by omega),cond_true,yary (show i < 4611686018427387904 by omega),g4]
theorem yBzy {D:List G_Deed} {C:List G_Contact} {S:List (List UInt8)} {O:List Int} (h:StOk D C S O) (hS:∀ s ∈ S,∃ y ∈ D,y.f_Site = s) (H:List (G_net_own×Bool)):∃ r:List G_Desk,r.length≤1000∧sumL (r.map (·.f_Contacts)) = (S.length:Int)∧(∀ x ∈ r,0≤x.f_Contacts∧x.f_Contacts≤1000)∧∀ (R:Type) (k:List G_Desk→List G_Deed→List G_Contact→List (List UInt8)→List Int→List (G_net_own×Bool)→Option R),z3z D C S O H k = k r D C S O H:=by
 obtain ⟨K,k1,k3,k4,k2⟩:=yvqy h H
 obtain ⟨r,r1,r3,r2⟩:=ysty h H K k1 K NN 0 [] rfl (by have:=NN_ok; omega) (by simp) (by omega)
 rw [List.map_nil,List.nil_append] at r3
 refine ⟨r,by omega,by rw [r3]; exact yyIy k3 S fun s hs=>(by obtain ⟨y,hy,rfl⟩:=hS s hs; exact k4 y hy),fun x hx=>?_,fun R k=>?_⟩
 ·have hm:x.f_Contacts ∈ r.map (·.f_Contacts):=List.mem_map.2 ⟨x,hx,rfl⟩
  rw [r3] at hm
  obtain ⟨st,_,e⟩:=List.mem_map.1 hm
  have:=List.length_filter_le (fun s=>s == st) S
  have hlS:=h.lS
  rw [← e]
  unfold cntS
  omega
 ·have f:∀ k:List (List UInt8)→List G_Deed→List G_Contact→List (List UInt8)→List Int→List (G_net_own×Bool)→Option R,I_z3z.z24z D C S O H k = k K D C S O H:=fun k=>k2 R k
  show z3z_ I_z3z D C S O H k = _
  unfold z3z_
  rw [f]
  exact r2 R _
end Go.Am
set_option linter.unusedVariables false
set_option linter.unusedSectionVars false
set_option linter.unusedSimpArgs false
set_option maxRecDepth 100000
namespace Go.Am
open Go Go.Proofs
variable [Fuel]
theorem yA8y (C:List G_Contact):lackC C C = []:=by
 unfold lackC
 rw [List.filter_eq_nil_iff]
 intro x hx
 simp [hx]
theorem yzXy {d:List G_Deed} (hr:RightD d) (hl:d.length≤1000) {at0:Int} (ha:momB at0 = true) {D:List G_Deed} {C:List G_Contact} {S:List (List UInt8)} {O:List Int} {H:List (G_net_own×Bool)} (hC:C.length≤1000) (hs:∀ (R:Type) (k0:Int→Option R) (k1:List G_Deed→List G_Contact→List (List UInt8)→List Int→List (G_net_own×Bool)→Int→Option R),z16z d at0 k0 k1 = k1 D C S O H 0) (R:Type) (k:List G_Contact→Int→Option R):net_Differ d d at0 k = k [] 0:=by
 have f1:∀ (k:Int→Option R),yaMy.z13z d k = k 0:=fun k=>z13z_right hr hl R k
 have f2:∀ (k:Bool→Option R),yaMy.z50z at0 k = k true:=fun k=>by
  show z50z at0 k = _
  rw [z50z_is,ha]
 have f3:∀ (k0:Int→Option R) (k1:List G_Deed→List G_Contact→List (List UInt8)→List Int→List (G_net_own×Bool)→Int→Option R),yaMy.z16z d at0 k0 k1 = k1 D C S O H 0:=fun k0 k1=>hs R k0 k1
 have f4:∀ (k:List G_Contact→Option R),yaMy.z37z C C k = k []:=fun k=>by
  show z37z C C k = _
  rw [z37z_is (by omega) (by omega),yA8y]
 have f5:∀ (k:List G_Contact→Option R),yaMy.z6z [[],[]] k = k []:=fun k=>by
  show z6z [[],[]] k = _
  rw [yGHy (by simp) (by simp)]; rfl
 have loop:∀ (e0:List G_Deed→List G_Deed→Int→Int→Option R) (e1:List G_Deed→List G_Deed→Int→Option R),ybuy yaMy yaMy.N d d at0 ([d,d].length:Int) 0 [d,d] e0 e1 = e1 d d at0:=fun e0 e1=>by
  obtain ⟨m,hm⟩:∃ m,yaMy.N = m + 3:=⟨NN - 3,by show NN = _; have:=NN_ok; omega⟩
  have l0:([d,d]:List (List G_Deed)).drop 0 = [d,d]:=rfl
  have l1:([d,d]:List (List G_Deed)).drop 1 = [d]:=rfl
  have l2:([d,d]:List (List G_Deed)).drop 2 = []:=rfl
  have a0:=yaAy l0
  have a1:=yaAy l1
  have a2:=yaOy l2
  have i0:=fun (R:Type) (k:Option R)=>yb1y l0 k
  have i1:=fun (R:Type) (k:Option R)=>yb1y l1 k
  have t0:=fun (R:Type) (k:List G_Deed→Option R)=>ycpy l0 k
  have t1:=fun (R:Type) (k:List G_Deed→Option R)=>ycpy l1 k
  have w0:w64 ((0:Nat) + 1) = ((1:Nat):Int):=yary (by omega)
  have w1:w64 ((1:Nat) + 1) = ((2:Nat):Int):=yary (by omega)
  rw [hm]
  show ybuy yaMy (m + 3) d d at0 ([d,d].length:Int) ((0:Nat):Int) [d,d] e0 e1 = _
  rw [ybuy,a0,cond_true,i0,t0,f1,bne_self_eq_false,cond_false,w0]
  rw [ybuy,a1,cond_true,i1,t1,f1,bne_self_eq_false,cond_false,w1]
  rw [ybuy,a2]; rfl
 show ygmy yaMy d d at0 k = _
 unfold ygmy
 rw [loop,f2,Bool.not_true,cond_false,f3,bne_self_eq_false,cond_false,f3,bne_self_eq_false,cond_false,f4,f4,f5]
theorem yGky {d:List G_Deed} (hr:RightD d) (hl:d.length≤1000) {at0:Int} (ha:momB at0 = true):∃ (js:List Int) (C:List G_Contact) (O:List Int) (r:List G_Desk) (t:List Int),js.length≤1000∧(∀ j ∈ js,0≤j∧j < (d.length:Int))∧C.length≤1000∧O.length≤1000∧r.length≤1000∧t.length≤1000∧(∀ c ∈ C,Fine c)∧yh7y C = 0∧C.length + O.length = ycIy d js ∧
  sumL (r.map (·.f_Contacts)) = (C.length:Int)∧(∀ x ∈ r,0≤x.f_Contacts∧x.f_Contacts≤1000) ∧
  (∀ (R:Type) (k:List G_Contact→List Int→Int→Option R),net_Log d at0 k = k C O 0)∧(∀ (R:Type) (k:List G_Desk→Int→Option R),net_Desks d at0 k = k r 0) ∧
  (∀ (R:Type) (k:List G_Contact→Int→Option R),net_Differ d d at0 k = k [] 0)∧(∀ (R:Type) (k:List Int→Int→Option R),net_Twice d at0 k = k t 0) ∧
  (∀ (R:Type) (k:List Int→Int→Option R),log_Dupes C k = k t 0)∧(∀ (R:Type) (k:List Int→Int→Option R),z80z d at0 k = k js 0):=by
 obtain ⟨js,D,C,S,O,H,j1,j2,T,jc,st⟩:=z16z_right hr hl at0
 have chkd:∀ (R:Type) (k0:Int→Option R) (k1:List G_Deed→List G_Contact→List (List UInt8)→List Int→List (G_net_own×Bool)→Int→Option R),z53z d at0 k0 k1 = k1 D C S O H 0:=fun R k0 k1=>by
  have f1:∀ (k:Int→Option R),yiby.z62z d at0 k = k 0:=fun k=>yiny hr hl ha R k
  have f2:∀ (k0:Int→Option R) (k1:List G_Deed→List G_Contact→List (List UInt8)→List Int→List (G_net_own×Bool)→Int→Option R),yiby.z16z d at0 k0 k1 = k1 D C S O H 0:=fun k0 k1=>st R k0 k1
  show z53z_ yiby d at0 k0 k1 = _
  unfold z53z_
  rw [f1,bne_self_eq_false,cond_false,f2]
 obtain ⟨r,r1,r2,r3,r4⟩:=yBzy T.ok T.ss H
 obtain ⟨t,t1,_,t2⟩:=ypJy T.fc T.ok.lC T.lg
 refine ⟨js,C,O,r,t,j1,j2,T.ok.lC,T.ok.lO,r1,t1,T.fc,T.lg,T.cn,by rw [r2,T.sl],r3,fun R k=>?_,fun R k=>?_,fun R k=>yzXy hr hl ha T.ok.lC st R k,fun R k=>?_,t2,fun R k=>?_⟩
 ·have f:∀ (k0:Int→Option R) (k1:List G_Deed→List G_Contact→List (List UInt8)→List Int→List (G_net_own×Bool)→Int→Option R),yivy.z53z d at0 k0 k1 = k1 D C S O H 0:=fun k0 k1=>chkd R k0 k1
  show ykGy yivy d at0 k = _
  unfold ykGy
  rw [f,bne_self_eq_false,cond_false]
 ·have f:∀ (k0:Int→Option R) (k1:List G_Deed→List G_Contact→List (List UInt8)→List Int→List (G_net_own×Bool)→Int→Option R),yd2y.z53z d at0 k0 k1 = k1 D C S O H 0:=fun k0 k1=>chkd R k0 k1
  have f2:∀ k:List G_Desk→List G_Deed→List G_Contact→List (List UInt8)→List Int→List (G_net_own×Bool)→Option R,yd2y.z3z D C S O H k = k r D C S O H:=fun k=>r4 R k
  show yhny yd2y d at0 k = _
  unfold yhny
  rw [f,bne_self_eq_false,cond_false,f2]
 ·have f:∀ (k0:Int→Option R) (k1:List G_Deed→List G_Contact→List (List UInt8)→List Int→List (G_net_own×Bool)→Int→Option R),yd9y.z53z d at0 k0 k1 = k1 D C S O H 0:=fun k0 k1=>chkd R k0 k1
  have f2:∀ k:List Int→List G_Deed→List G_Contact→List (List UInt8)→List Int→List (G_net_own×Bool)→Option R,yd9y.z48z D C S O H k = k t D C S O H:=fun k=>by
   have f3:∀ k:List Int→Int→Option R,yply.log_Dupes C k = k t 0:=fun k=>t2 R k
   show z48z_ yply D C S O H k = _
   unfold z48z_
   rw [f3]
  show yhey yd9y d at0 k = _
  unfold yhey
  rw [f,bne_self_eq_false,cond_false,f2]
 ·have f1:∀ (k:Int→Option R),ymcy.z62z d at0 k = k 0:=fun k=>yiny hr hl ha R k
  have f2:∀ (k:List Int→Option R),ymcy.z12z d at0 k = k js:=fun k=>jc R k
  show z80z_ ymcy d at0 k = _
  unfold z80z_
  rw [f1,bne_self_eq_false,cond_false,f2]
theorem yyAy (at0:Int) (x:List G_Deed) (C:List G_Contact) (O:List Int) (r:List G_Desk) (hl:r.length≤1000) (hr:∀ y ∈ r,0≤y.f_Contacts∧y.f_Contacts≤1000):∀ (ys:List G_Desk) (n i:Nat) (s:Int),r.drop i = ys→ys.length < n→0≤s→s≤1000 * i→∀ (R:Type) (e0:Int→Int→List G_Deed→List G_Contact→List Int→Option R),
  yaHy yafy n at0 s (r.length:Int) (i:Int) x C O r e0 = e0 at0 (s + sumL (ys.map (·.f_Contacts))) x C O
 | _,0,_,_,_,h,_,_,_,_=>by omega
 | [],n + 1,i,s,h,_,_,_,R,e0=>by rw [yaHy,yaOy h,List.map_nil]; show e0 at0 s x C O = e0 at0 (s + 0) x C O; rw [Int.add_zero]
 | y :: ys,n + 1,i,s,h,hn,h0,h1,R,e0=>by
  have h':=yapy h
  have hy:=hr y (ybNy h)
  have hw:w64 (s + y.f_Contacts) = s + y.f_Contacts:=yaGy (by omega) (by omega)
  have ih:=yyAy at0 x C O r hl hr ys n (i + 1) (s + y.f_Contacts) h'.2.2.1 (Nat.lt_of_succ_lt_succ (by simpa only [List.length_cons] using hn)) (by omega) (by omega) R e0
  rw [yaHy,yaAy h,cond_true,yb1y h,ycpy h,hw,yary (show i < 4611686018427387904 by omega),ih]
  show _ = e0 at0 (s + (y.f_Contacts + sumL (ys.map (·.f_Contacts)))) x C O
  rw [Int.add_assoc]
theorem yxky (d:List G_Deed) (j:Int) (js:List Int):ycIy d (j :: js) = (bif isLog d j then 1 else 0) + ycIy d js:=by
 unfold ycIy
 rw [List.filter_cons]
 cases h:isLog d j <;> simp <;> omega
theorem yrey (s e:Int) (x:List G_Deed) (C:List G_Contact) (O:List Int) (js:List Int) (hl:js.length≤1000) (hj:∀ j ∈ js,0≤j∧j < (x.length:Int)):∀ (ys:List Int) (n i:Nat) (c:Nat),js.drop i = ys→ys.length < n→c≤i→∀ (R:Type) (e0:Bool→Int→Int→Int→List G_Contact→List Int→Option R) (e1:Int→Int→Int→List G_Contact→List Int→Option R),
  yaBy yafy n s (c:Int) e (js.length:Int) (i:Int) x C O js e0 e1 = e1 s ((c + ycIy x ys:Nat):Int) e C O
 | _,0,_,_,_,h,_,_,_,_=>by omega
 | [],n + 1,i,c,h,_,_,R,e0,e1=>by rw [yaBy,yaOy h]; rfl
 | j :: ys,n + 1,i,c,h,hn,hc,R,e0,e1=>by
  have h':=yapy h
  obtain ⟨j0,j1⟩:=hj j (ybNy h)
  obtain ⟨q,rfl⟩:=Int.eq_ofNat_of_zero_le j0
  have hq:q < x.length:=by omega
  have hx:x[q]? = some x[q]:=List.getElem?_eq_getElem hq
  have hlog:isLog x (q:Int) = (x[q].f_Kind == 1):=by
   unfold isLog
   rw [Int.toNat_natCast,hx]; rfl
  have ih:=yrey s e x C O js hl hj ys n (i + 1) (c + (bif isLog x (q:Int) then 1 else 0)) h'.2.2.1 (Nat.lt_of_succ_lt_succ (by simpa only [List.length_cons] using hn)) (by cases isLog x (q:Int) <;> simp <;> omega) R e0 e1
  have ec:c + ycIy x ((q:Int) :: ys) = c + (bif isLog x (q:Int) then 1 else 0) + ycIy x ys:=by rw [yxky,Nat.add_assoc]
  rw [yaBy,yaAy h,cond_true,yb1y h,ycpy h,decide_eq_false (show ¬ (q:Int) < 0 by omega),cond_false,decide_eq_false (show ¬ (q:Int) ≥ (x.length:Int) by omega),cond_false,ybLy hq,ybTy hx,yary (show i < 4611686018427387904 by omega),ec,← ih,hlog]
  cases x[q].f_Kind == 1 with
  | false=>rfl
  | true=>rw [yary (show c < 4611686018427387904 by omega)]; rfl
theorem keep_NetsHaveOneLog_true (l:List Int) (R:Type) (k:Bool→Option R):keep_NetsHaveOneLog l k = k true:=by
 obtain ⟨n,s1,n1,n2,z1,e1⟩:=z54z_gives (sOk0 l) 0 16 (by omega) (by omega) (by omega) (by omega) (by omega)
 obtain ⟨nn,rfl⟩:=Int.eq_ofNat_of_zero_le n1
 obtain ⟨x,s2,lx,hx,z2,e2⟩:=yoPy z1 (by omega) nn (by omega)
 obtain ⟨at0,s3,a1,a2,z3,e3⟩:=z54z_gives z2 0 100 (by omega) (by omega) (by omega) (by omega) (by omega)
 have ha:momB at0 = true:=by
  unfold momB inB
  simp; omega
 obtain ⟨js,C,O,r,t,j1,j2,lC,lO,lr,lt,fC,gC,cn,sm,rb,q1,q2,q3,q4,q5,q6⟩:=yGky hx (by omega) ha
 obtain ⟨P,Q,s4,p1,p2,p3,e4⟩:=yxcy (d:=x) (by omega) z3 (by omega)
 have v1:∀ k:Int→G_Stream→Option R,yafy.z54z ⟨l,0⟩ 0 16 k = k (nn:Int) s1:=fun k=>e1 R k
 have v2:∀ k:List G_Deed→G_Stream→Option R,yafy.z28z s1 (nn:Int) k = k x s2:=fun k=>e2 R k
 have v3:∀ k:Int→G_Stream→Option R,yafy.z54z s2 0 100 k = k at0 s3:=fun k=>e3 R k
 have v4:∀ k:List G_Contact→List Int→Int→Option R,yafy.net_Log x at0 k = k C O 0:=fun k=>q1 R k
 have v5:∀ k:List G_Desk→Int→Option R,yafy.net_Desks x at0 k = k r 0:=fun k=>q2 R k
 have v6:∀ k:List G_Deed→List G_Deed→G_Stream→Option R,yafy.z32z s3 x k = k P Q s4:=fun k=>e4 R k
 have v7:∀ k:List G_Deed→Int→Option R,yafy.net_Merge Q P k = k x 0:=fun k=>yqjy hx p1 p2 (by omega) p3 R k
 have v8:∀ k:List G_Contact→Int→Option R,yafy.net_Differ x x at0 k = k [] 0:=fun k=>q3 R k
 have v9:∀ k:List Int→Int→Option R,yafy.net_Twice x at0 k = k t 0:=fun k=>q4 R k
 have v10:∀ k:List Int→Int→Option R,yafy.log_Dupes C k = k t 0:=fun k=>q5 R k
 have v11:∀ k:Int→Option R,yafy.keep_errs [0,0,0,0,0,0] k = k 0:=fun k=>by
  show keep_errs [0,0,0,0,0,0] k = _
  rw [yuMy _ (by simp)]; rfl
 have v12:∀ k:Int→Option R,yafy.z36z C k = k 0:=fun k=>by
  show z36z C k = _
  rw [z36z_is fC (by omega),gC]
 have v13:∀ k:Bool→Option R,yafy.z45z t t k = k true:=fun k=>by
  show z45z t t k = _
  rw [yHOy]
  exact yxfy (by have:=NN_ok; omega) (by have:=NN_ok; omega) (fun x=>by simp) k
 have v14:∀ k:List Int→Int→Option R,yafy.z80z x at0 k = k js 0:=fun k=>q6 R k
 have v15:∀ k:Bool→Option R,yafy.keep_ready k = k true:=fun k=>ytcy R k
 have w1:=yyAy at0 x C O r lr rb r NN 0 0 rfl (by have:=NN_ok; omega) (by omega) (by omega) R
 have w2:=yrey (C.length:Int) 0 x C O js j1 j2 js NN 0 0 rfl (by have:=NN_ok; omega) (by omega) R
 rw [Int.zero_add,sm] at w1
 rw [Nat.zero_add,← cn] at w2
 have w1':∀ e0:Int→Int→List G_Deed→List G_Contact→List Int→Option R,yaHy yafy yafy.N at0 0 (r.length:Int) 0 x C O r e0 = e0 at0 (C.length:Int) x C O:=w1
 have w2':∀ (e0:Bool→Int→Int→Int→List G_Contact→List Int→Option R) (e1:Int→Int→Int→List G_Contact→List Int→Option R),yaBy yafy yafy.N (C.length:Int) 0 0 (js.length:Int) 0 x C O js e0 e1 = e1 (C.length:Int) ((C.length + O.length:Nat):Int) 0 C O:=w2
 have w3:w64 ((C.length:Int) + (O.length:Int)) = ((C.length + O.length:Nat):Int):=by rw [yaGy (by omega) (by omega)]; rfl
 have w4:((([]:List G_Contact).length:Int) != 0) = false:=rfl
 show yb5y yafy l k = _
 unfold yb5y
 rw [v1,v2,v3,v4,v5,v6,v7,v8,v9,v10,v11,bne_self_eq_false,cond_false,v12,bne_self_eq_false,cond_false,w4,cond_false,v13,Bool.not_true,cond_false,w1',v14,w2',beq_self_eq_true,cond_true,beq_self_eq_true,cond_true,w3,beq_self_eq_true,cond_true,v15]
end Go.Am
