/- The plain law, in Lean alone: V4, V5. No condition: lemmas for the claim. -/
import Derived.Test.YtphcgliehecbkaaGreatDoorPlV3
import Derived.Test.YtphcgliehecbkaaGreatDoorPlR4
set_option linter.unusedVariables false
set_option linter.unusedSectionVars false
set_option linter.unusedSimpArgs false
set_option maxRecDepth 100000
namespace Go.Am
open Go Go.Proofs
variable [Fuel]
def keyCo (c:G_Contact):G_Contact:=⟨c.f_At,c.f_Mode,c.f_Band,c.f_Call,0,0,[],[]⟩
def heldF (x:G_Deed) (m:List (G_net_own×Bool)):List (G_net_own×Bool):=bif x.f_Kind == 3 then yaEy ⟨x.f_Site,x.f_Contact.f_Sent⟩ true m else bif x.f_Kind == 4 then yaCy ⟨x.f_Site,x.f_Contact.f_Sent⟩ m else bif x.f_Kind == 1 then yaCy ⟨x.f_Site,x.f_Contact.f_Sent⟩ m else m
def byF (x:G_Deed) (m:List (G_Contact×G_Deed)):List (G_Contact×G_Deed):=bif x.f_Kind == 1 then (bif (yany (keyCo x.f_Contact) m).isSome then m else yaQy (keyCo x.f_Contact) x m) else m
def conF (x:G_Deed) (m:List (G_Contact×G_Deed)) (c:List G_Contact):List G_Contact:=bif x.f_Kind == 1 then (bif (yany (keyCo x.f_Contact) m).isSome then c else c ++ [x.f_Contact]) else c
def othF (x:G_Deed) (m:List (G_Contact×G_Deed)) (o:List Int) (j:Int):List Int:=bif x.f_Kind == 1 then (bif (yany (keyCo x.f_Contact) m).isSome then o ++ [j] else o) else o
theorem yzty {d:List G_Deed} {js:List Int} {n i:Nat} {j:Int} {x:G_Deed} (hi:i < 1000000) (hj:js[i]? = some j) (hj0:0≤j) (hx:d[j.toNat]? = some x) (held:List (G_net_own×Bool)) (by1:List (G_Contact×G_Deed)) {D:List G_Deed} {C:List G_Contact} (S:List (List UInt8)) {O:List Int} (hD:D.length≤1000000) (hC:C.length≤1000000) (hO:O.length≤1000000) (R:Type) (e0:List (G_net_own×Bool)→List (G_Contact×G_Deed)→List G_Deed→List G_Contact→List (List UInt8)→List Int→Option R) :
  z17z_L4 ya3y (n + 1) d (js.length:Int) (i:Int) held by1 js D C S O e0 = z17z_L4 ya3y n d (js.length:Int) ((i + 1:Nat):Int) (heldF x held) (byF x by1) js (D ++ [x]) (conF x by1 C) S (othF x by1 O j) e0:=by
 have hil:i < js.length:=by obtain ⟨h,_⟩:=List.getElem?_eq_some_iff.1 hj; exact h
 have r1:=room1 D x 176 hD (by omega)
 have r2:=room1 C x.f_Contact 96 hC (by omega)
 have r3:=room1 O j 8 hO (by omega)
 have hg:∀ (k:G_Deed→Option R),get_ d j k = k x:=fun k=>by
  unfold get_
  rw [decide_eq_true hj0,cond_true]
  exact ypKy hx k
 have hk:∀ (c:G_Contact) (k:G_Contact→Option R),ya3y.net_key c k = k (keyCo c):=fun c k=>rfl
 have hne:(x.f_Kind != 1) = !(x.f_Kind == 1):=rfl
 rw [z17z_L4,decide_eq_true (show (i:Int) < (js.length:Int) by omega),cond_true,ybdy hil,ybmy hj,hg,r1,cond_true]
 simp only [hk,hne,r2,r3,cond_true,yazy (show i < 4611686018427387904 by omega)]
 unfold heldF byF conF othF
 cases x.f_Kind == 3 <;> cases x.f_Kind == 4 <;> cases x.f_Kind == 1 <;> (try rfl) <;> cases (yany (keyCo x.f_Contact) by1).isSome <;> rfl
theorem ynly (d:List G_Deed) (hf:∀ x ∈ d,FineD x) (hl:d.length≤1000) (js:List Int) (hjl:js.length≤1000) (hj:∀ j ∈ js,0≤j∧j < (d.length:Int)) (S:List (List UInt8)):∀ (xs:List Int) (n i:Nat) (held:List (G_net_own×Bool)) (by1:List (G_Contact×G_Deed)) (D:List G_Deed) (C:List G_Contact) (O:List Int),js.drop i = xs→xs.length < n→i≤js.length→D.length≤i→C.length≤i→O.length≤i→(∀ x ∈ D,FineD x) →
  ∃ (held':List (G_net_own×Bool)) (by':List (G_Contact×G_Deed)) (D':List G_Deed) (C':List G_Contact) (O':List Int),D'.length≤js.length∧C'.length≤js.length∧O'.length≤js.length∧(∀ x ∈ D',FineD x)∧∀ (R:Type) (e0:List (G_net_own×Bool)→List (G_Contact×G_Deed)→List G_Deed→List G_Contact→List (List UInt8)→List Int→Option R),
   z17z_L4 ya3y n d (js.length:Int) (i:Int) held by1 js D C S O e0 = e0 held' by' D' C' S O'
 | _,0,_,_,_,_,_,_,_,h,_,_,_,_,_=>by omega
 | [],n + 1,i,held,by1,D,C,O,h,_,hi,hD,hC,hO,hDf=>⟨held,by1,D,C,O,by omega,by omega,by omega,hDf,fun R e0=>by rw [z17z_L4,ya6y h]; rfl⟩
 | j :: ks,n + 1,i,held,by1,D,C,O,h,hn,hi,hD,hC,hO,hDf=>by
  have h':=yavy h
  obtain ⟨j0,j1⟩:=hj j (yd0y h)
  have hx:d[j.toNat]? = some d[j.toNat]:=List.getElem?_eq_getElem (by omega)
  have hxf:=hf _ (List.mem_of_getElem? hx)
  generalize d[j.toNat] = x at hx hxf
  have hC':(conF x by1 C).length≤C.length + 1:=by
   unfold conF
   cases x.f_Kind == 1 <;> (try simp) <;> cases (yany (keyCo x.f_Contact) by1).isSome <;> simp
  have hO':(othF x by1 O j).length≤O.length + 1:=by
   unfold othF
   cases x.f_Kind == 1 <;> (try simp) <;> cases (yany (keyCo x.f_Contact) by1).isSome <;> simp
  obtain ⟨held',by',D',C',O',g1,g2,g3,g4,g5⟩:=ynly d hf hl js hjl hj S ks n (i + 1) (heldF x held) (byF x by1) (D ++ [x]) (conF x by1 C) (othF x by1 O j) h'.2.2.1 (Nat.lt_of_succ_lt_succ (by simpa only [List.length_cons] using hn)) h'.2.1 (by simp; omega) (by omega) (by omega) (fun y hy=>by
   rcases List.mem_append.1 hy with hy | hy
   ·exact hDf y hy
   ·rw [List.mem_singleton] at hy; rw [hy]; exact hxf)
  exact ⟨held',by',D',C',O',g1,g2,g3,g4,fun R e0=>by rw [yzty (by omega) h'.1 j0 hx held by1 S (by omega) (by omega) (by omega),g5]⟩
theorem ylmy (C:List G_Contact) (hl:C.length≤1000) (by1:List (G_Contact×G_Deed)) (held:List (G_net_own×Bool)) (D:List G_Deed) (O:List Int):∀ (xs:List G_Contact) (n i:Nat) (S:List (List UInt8)),C.drop i = xs→xs.length < n→S.length≤i→i≤C.length →
  ∃ S':List (List UInt8),S'.length≤C.length∧∀ (R:Type) (e0:List (G_net_own×Bool)→List G_Deed→List G_Contact→List (List UInt8)→List Int→Option R),
   z17z_L25 ya3y n (C.length:Int) (i:Int) held by1 D C S O e0 = e0 held D C S' O
 | _,0,_,_,_,h,_,_=>by omega
 | [],n + 1,i,S,h,_,hS,hi=>⟨S,by omega,fun R e0=>by rw [z17z_L25,ya6y h]; rfl⟩
 | c :: cs,n + 1,i,S,h,hn,hS,hi=>by
  have h':=yavy h
  have hk:∀ (R:Type) (k:G_Contact→Option R),ya3y.net_key c k = k (keyCo c):=fun R k=>rfl
  generalize hs:((yany (keyCo c) by1).getD ⟨[],0,0,0,⟨0,0,[],[],0,0,[],[]⟩,[],[],0⟩).f_Site = st
  obtain ⟨S',g1,g2⟩:=ylmy C hl by1 held D O cs n (i + 1) (S ++ [st]) h'.2.2.1 (Nat.lt_of_succ_lt_succ (by simpa only [List.length_cons] using hn)) (by simp; omega) h'.2.1
  exact ⟨S',g1,fun R e0=>by rw [z17z_L25,yaJy h,cond_true,ycry h,yc9y h,hk,hs,room1 S st 16 (show S.length≤1000000 by omega) (by omega),cond_true,yazy (show i < 4611686018427387904 by omega),g2]⟩
structure StOk (D:List G_Deed) (C:List G_Contact) (S:List (List UInt8)) (O:List Int):Prop where
 lD:D.length≤1000
 lC:C.length≤1000
 lS:S.length≤1000
 lO:O.length≤1000
 fD:∀ x ∈ D,FineD x
theorem z17z_gives {d:List G_Deed} (hf:∀ x ∈ d,FineD x) (hl:d.length≤1000) (at0:Int):∃ (D:List G_Deed) (C:List G_Contact) (S:List (List UInt8)) (O:List Int) (H:List (G_net_own×Bool)),StOk D C S O∧∀ (R:Type) (k0:Int→Option R) (k1:List G_Deed→List G_Contact→List (List UInt8)→List Int→List (G_net_own×Bool)→Int→Option R),z17z d at0 k0 k1 = k1 D C S O H 0:=by
 obtain ⟨js,j1,j2,j3⟩:=z12z_gives hl at0
 obtain ⟨H,B,D,C,O,g1,g2,g3,g4,g5⟩:=ynly d hf hl js (by omega) j2 [] js NN 0 [] [] [] [] [] rfl (by have:=NN_ok; omega) (by omega) (by simp) (by simp) (by simp) (fun x h=>by cases h)
 obtain ⟨C2,c1,c2⟩:=yu6y (l:=C) (by omega)
 obtain ⟨S,s1,s2⟩:=ylmy C2 (by omega) B H D O C2 NN 0 [] rfl (by have:=NN_ok; omega) (by simp) (by omega)
 have f1:∀ (R:Type) (k:List Int→Option R),ya3y.z12z d at0 k = k js:=j3
 have f2:∀ (R:Type) (k:List G_Contact→Option R),ya3y.z32z C k = k C2:=c2
 refine ⟨D,C2,S,O,H,⟨by omega,by omega,by omega,by omega,g4⟩,fun R k0 k1=>?_⟩
 show z17z_ ya3y d at0 k0 k1 = _
 unfold z17z_
 rw [f1]
 refine (g5 R _).trans ?_
 rw [decide_eq_false (show ¬ ((C.length:Int) > 2000) by omega),cond_false,f2]
 exact s2 R _
theorem z51z_gives {d:List G_Deed} (hf:∀ x ∈ d,FineD x) (hl:d.length≤1000) (at0:Int):(∃ e:Int,(e != 0) = true∧∀ (R:Type) (k0:Int→Option R) (k1:List G_Deed→List G_Contact→List (List UInt8)→List Int→List (G_net_own×Bool)→Int→Option R),z51z d at0 k0 k1 = k0 e) ∨
  ∃ (D:List G_Deed) (C:List G_Contact) (S:List (List UInt8)) (O:List Int) (H:List (G_net_own×Bool)),StOk D C S O∧∀ (R:Type) (k0:Int→Option R) (k1:List G_Deed→List G_Contact→List (List UInt8)→List Int→List (G_net_own×Bool)→Int→Option R),z51z d at0 k0 k1 = k1 D C S O H 0:=by
 obtain ⟨e,he⟩:=z11z_gives hf (by omega)
 have f1:∀ (R:Type) (k:Int→Option R),ylwy.z11z d k = k e:=he
 have f2:∀ (R:Type) (k:Bool→Option R),ylwy.z58z at0 k = k (momB at0):=fun R k=>z58z_is at0 R k
 have asked:∃ a:Int,∀ (R:Type) (k:Int→Option R),yhgy.z70z d at0 k = k a:=by
  refine ⟨bif e != 0 then e else bif !momB at0 then 1 else 0,fun R k=>?_⟩
  show z70z_ ylwy d at0 k = _
  unfold z70z_
  rw [f1]
  cases e != 0 with
  | true=>rfl
  | false =>
   rw [cond_false,f2]
   cases momB at0 <;> rfl
 obtain ⟨a,ha⟩:=asked
 obtain ⟨D,C,S,O,H,g1,g2⟩:=z17z_gives hf hl at0
 have f3:∀ (R:Type) (k0:Int→Option R) (k1:List G_Deed→List G_Contact→List (List UInt8)→List Int→List (G_net_own×Bool)→Int→Option R),yhgy.z17z d at0 k0 k1 = k1 D C S O H 0:=g2
 have unf:∀ (R:Type) (k0:Int→Option R) (k1:List G_Deed→List G_Contact→List (List UInt8)→List Int→List (G_net_own×Bool)→Int→Option R),z51z d at0 k0 k1 = bif a != 0 then k0 a else k1 D C S O H 0:=fun R k0 k1=>by
  show z51z_ yhgy d at0 k0 k1 = _
  unfold z51z_
  rw [ha]
  cases a != 0 with
  | true=>rfl
  | false=>rw [cond_false,f3]; rfl
 cases h0:a != 0 with
 | true=>exact .inl ⟨a,h0,fun R k0 k1=>by rw [unf,h0]; rfl⟩
 | false=>exact .inr ⟨D,C,S,O,H,g1,fun R k0 k1=>by rw [unf,h0]; rfl⟩
theorem yrKy {d:List G_Deed} (hf:∀ x ∈ d,FineD x) (hl:d.length≤1000) (at0:Int):∃ (C:List G_Contact) (O:List Int) (e:Int),C.length≤1000∧O.length≤1000∧∀ (R:Type) (k:List G_Contact→List Int→Int→Option R),net_Log d at0 k = k C O e:=by
 rcases z51z_gives hf hl at0 with ⟨e,h0,h1⟩ | ⟨D,C,S,O,H,h0,h1⟩
 ·refine ⟨[],[],e,by simp,by simp,fun R k=>?_⟩
  have f:∀ (k0:Int→Option R) (k1:List G_Deed→List G_Contact→List (List UInt8)→List Int→List (G_net_own×Bool)→Int→Option R),yd9y.z51z d at0 k0 k1 = k0 e:=fun k0 k1=>h1 R k0 k1
  show yfGy yd9y d at0 k = _
  unfold yfGy
  rw [f,h0]; rfl
 ·refine ⟨C,O,0,h0.lC,h0.lO,fun R k=>?_⟩
  have f:∀ (k0:Int→Option R) (k1:List G_Deed→List G_Contact→List (List UInt8)→List Int→List (G_net_own×Bool)→Int→Option R),yd9y.z51z d at0 k0 k1 = k1 D C S O H 0:=fun k0 k1=>h1 R k0 k1
  show yfGy yd9y d at0 k = _
  unfold yfGy
  rw [f]; rfl
theorem yphy (D:List G_Deed) (hD:∀ x ∈ D,FineD x) (hl:D.length≤1000) (H:List (G_net_own×Bool)) (C:List G_Contact) (S:List (List UInt8)) (O:List Int):∀ (xs:List G_Deed) (n i:Nat) (m:List (List UInt8×Bool)),D.drop i = xs→xs.length < n→OneM m→m.length≤i→i≤D.length→(∀ p ∈ m,p.1 ∈ ybvy) →
  ∃ m':List (List UInt8×Bool),OneM m'∧m'.length≤D.length∧(∀ p ∈ m',p.1 ∈ ybvy)∧∀ (R:Type) (e0:List (G_net_own×Bool)→List (List UInt8×Bool)→List G_Deed→List G_Contact→List (List UInt8)→List Int→Option R),
   z23z_L3 NN n (D.length:Int) (i:Int) H m D C S O e0 = e0 H m' D C S O
 | _,0,_,_,_,h,_,_,_,_=>by omega
 | [],n + 1,i,m,h,_,h1,h2,hi,h3=>⟨m,h1,by omega,h3,fun R e0=>by rw [z23z_L3,ya6y h]; rfl⟩
 | x :: xs,n + 1,i,m,h,hn,h1,h2,hi,h3=>by
  have h':=yavy h
  have hx:=hD x (yd0y h)
  have e1:ybiy x.f_Site true m = aset ya5y x.f_Site true m:=by rw [ykzy]
  obtain ⟨m',g1,g2,g3,g4⟩:=yphy D hD hl H C S O xs n (i + 1) (ybiy x.f_Site true m) h'.2.2.1 (Nat.lt_of_succ_lt_succ (by simpa only [List.length_cons] using hn)) (by rw [e1]; exact yCTy ykiy h1 _ _) (by rw [e1]; have:=ysry (eq:=ya5y) x.f_Site true m; omega) h'.2.1 (fun p hp=>by
   rw [e1] at hp
   rcases yvty hp with rfl | hp
   ·exact hx.site
   ·exact h3 p hp)
  exact ⟨m',g1,g2,g3,fun R e0=>by rw [z23z_L3,yaJy h,cond_true,ycry h,yc9y h,yazy (show i < 4611686018427387904 by omega),g4]⟩
theorem yAjy (ks:List (List UInt8)) (hn:ks.Nodup) (hl:∀ s ∈ ks,s.length≤100000) (hc:ks.length≤1000000):srtK9 ks = some (sortI Lib.compareBytes ks):=by
 have e:∀ l:List (List UInt8),List.map (fun x:List UInt8=>x) l = l:=fun l=>List.map_id' l
 have h:=yHMy (A:=A) (k:=9) rfl ks (fun x=>x) (fun x=>x) (by show (List.map (fun x:List UInt8=>x) ks).Nodup; rw [e]; exact hn) (fun s hs=>by
  have hs:s ∈ List.map (fun x:List UInt8=>x) ks:=hs
  rw [e] at hs; exact hl s hs) hc
 refine h.trans ?_
 show some (List.map (fun x:List UInt8=>x) (sortI Lib.compareBytes (List.map (fun x:List UInt8=>x) ks))) = _
 rw [e,e]
theorem yyyy:∀ s ∈ ybvy,s.length≤100000:=by
 intro s hs
 simp only [ybvy,List.mem_cons,List.not_mem_nil,or_false] at hs
 rcases hs with rfl | rfl | rfl | rfl | rfl | rfl | rfl <;> simp
theorem yqjy {D:List G_Deed} {C:List G_Contact} {S:List (List UInt8)} {O:List Int} (h:StOk D C S O) (H:List (G_net_own×Bool)):∃ K:List (List UInt8),K.length≤1000∧∀ (R:Type) (k:List (List UInt8)→List G_Deed→List G_Contact→List (List UInt8)→List Int→List (G_net_own×Bool)→Option R),z23z D C S O H k = k K D C S O H:=by
 have hlD:=h.lD
 obtain ⟨m',g1,g2,g3,g4⟩:=yphy D h.fD h.lD H C S O D NN 0 [] rfl (by have:=NN_ok; omega) List.nodup_nil (by simp) (by omega) (fun p hp=>by cases hp)
 have hk:srtK9 (List.map (fun p=>p.1) m') = some (sortI Lib.compareBytes (m'.map (·.1))):=yAjy (m'.map (·.1)) g1 (fun s hs=>by
  obtain ⟨p,hp,rfl⟩:=List.mem_map.1 hs
  exact yyyy _ (g3 p hp)) (by rw [List.length_map]; omega)
 refine ⟨sortI Lib.compareBytes (m'.map (·.1)),by rw [ylly,List.length_map]; omega,fun R k=>?_⟩
 refine (g4 R _).trans ?_
 rw [hk]; rfl
theorem youy (st:List UInt8) (v75 v76:Int) (H:List (G_net_own×Bool)) (K:List (List UInt8)) (out:List G_Desk) (D:List G_Deed) (hl:D.length≤1000) (C:List G_Contact) (S:List (List UInt8)) (O:List Int):∀ (xs:List G_Deed) (n i:Nat) (k:G_Desk),D.drop i = xs→xs.length < n →
  ∃ k':G_Desk,∀ (R:Type) (e0:List UInt8→Int→Int→List (G_net_own×Bool)→List (List UInt8)→List G_Desk→G_Desk→List G_Deed→List G_Contact→List (List UInt8)→List Int→Option R),
   z3z_L7 I_z3z n st v75 v76 (D.length:Int) (i:Int) H K out k D C S O e0 = e0 st v75 v76 H K out k' D C S O
 | _,0,_,_,_,h=>by omega
 | [],n + 1,i,k,h,_=>⟨k,fun R e0=>by rw [z3z_L7,ya6y h]; rfl⟩
 | x :: xs,n + 1,i,k,h,hn=>by
  have h':=yavy h
  have hn':xs.length < n:=Nat.lt_of_succ_lt_succ (by simpa only [List.length_cons] using hn)
  obtain ⟨k',g⟩:=youy st v75 v76 H K out D hl C S O xs n (i + 1) (bif x.f_Site == st then (bif x.f_Kind == 2 then ⟨k.f_Site,x.f_Band,k.f_Contacts⟩ else k) else k) h'.2.2.1 hn'
  refine ⟨k',fun R e0=>?_⟩
  rw [z3z_L7,yaJy h,cond_true,ycry h,yc9y h,yazy (show i < 4611686018427387904 by omega),← g R e0]
  cases x.f_Site == st <;> cases x.f_Kind == 2 <;> rfl
theorem ymSy (st:List UInt8) (v101 v102:Int) (H:List (G_net_own×Bool)) (K:List (List UInt8)) (out:List G_Desk) (D:List G_Deed) (C:List G_Contact) (S:List (List UInt8)) (hl:S.length≤1000) (O:List Int):∀ (xs:List (List UInt8)) (n i:Nat) (k:G_Desk),S.drop i = xs→xs.length < n →
  ∃ k':G_Desk,∀ (R:Type) (e0:Int→Int→List (G_net_own×Bool)→List (List UInt8)→List G_Desk→G_Desk→List G_Deed→List G_Contact→List (List UInt8)→List Int→Option R),
   z3z_L13 I_z3z n st v101 v102 (S.length:Int) (i:Int) H K out k D C S O e0 = e0 v101 v102 H K out k' D C S O
 | _,0,_,_,_,h=>by omega
 | [],n + 1,i,k,h,_=>⟨k,fun R e0=>by rw [z3z_L13,ya6y h]; rfl⟩
 | x :: xs,n + 1,i,k,h,hn=>by
  have h':=yavy h
  have hn':xs.length < n:=Nat.lt_of_succ_lt_succ (by simpa only [List.length_cons] using hn)
  obtain ⟨k',g⟩:=ymSy st v101 v102 H K out D C S hl O xs n (i + 1) (bif x == st then ⟨k.f_Site,k.f_Band,w64 (k.f_Contacts + 1)⟩ else k) h'.2.2.1 hn'
  refine ⟨k',fun R e0=>?_⟩
  rw [z3z_L13,yaJy h,cond_true,ycry h,yc9y h,yazy (show i < 4611686018427387904 by omega),← g R e0]
  cases x == st <;> rfl
theorem yosy {D:List G_Deed} {C:List G_Contact} {S:List (List UInt8)} {O:List Int} (h:StOk D C S O) (H:List (G_net_own×Bool)) (K:List (List UInt8)) (hK:K.length≤1000):∀ (xs:List (List UInt8)) (n i:Nat) (out:List G_Desk),K.drop i = xs→xs.length < n→out.length≤i→i≤K.length →
  ∃ r:List G_Desk,r.length≤K.length∧∀ (R:Type) (e0:List (G_net_own×Bool)→List G_Desk→List G_Deed→List G_Contact→List (List UInt8)→List Int→Option R),
   z3z_L3 I_z3z n (K.length:Int) (i:Int) H K out D C S O e0 = e0 H r D C S O
 | _,0,_,_,_,hn,_,_=>by omega
 | [],n + 1,i,out,hx,_,ho,hi=>⟨out,by omega,fun R e0=>by rw [z3z_L3,ya6y hx]; rfl⟩
 | st :: xs,n + 1,i,out,hx,hn,ho,hi=>by
  have h':=yavy hx
  have hn':xs.length < n:=Nat.lt_of_succ_lt_succ (by simpa only [List.length_cons] using hn)
  have hlD:=h.lD
  have hlS:=h.lS
  obtain ⟨k1,g1⟩:=youy st (K.length:Int) (i:Int) H K out D hlD C S O D NN 0 ⟨st,[],0⟩ rfl (by have:=NN_ok; omega)
  obtain ⟨k2,g2⟩:=ymSy st (K.length:Int) (i:Int) H K out D C S hlS O S NN 0 k1 rfl (by have:=NN_ok; omega)
  obtain ⟨r,g3,g4⟩:=yosy h H K hK xs n (i + 1) (out ++ [k2]) h'.2.2.1 hn' (by simp; omega) h'.2.1
  refine ⟨r,g3,fun R e0=>?_⟩
  rw [z3z_L3,yaJy hx,cond_true,ycry hx,yc9y hx]
  refine (g1 R _).trans ?_
  refine (g2 R _).trans ?_
  rw [room1 out k2 40 (show out.length≤1000000 by omega) (by omega),cond_true,yazy (show i < 4611686018427387904 by omega),g4]
theorem yoSy {d:List G_Deed} (hf:∀ x ∈ d,FineD x) (hl:d.length≤1000) (at0:Int):∃ (r:List G_Desk) (e:Int),r.length≤1000∧∀ (R:Type) (k:List G_Desk→Int→Option R),net_Desks d at0 k = k r e:=by
 rcases z51z_gives hf hl at0 with ⟨e,h0,h1⟩ | ⟨D,C,S,O,H,h0,h1⟩
 ·refine ⟨[],e,by simp,fun R k=>?_⟩
  have f:∀ (k0:Int→Option R) (k1:List G_Deed→List G_Contact→List (List UInt8)→List Int→List (G_net_own×Bool)→Int→Option R),ycby.z51z d at0 k0 k1 = k0 e:=fun k0 k1=>h1 R k0 k1
  show ydgy ycby d at0 k = _
  unfold ydgy
  rw [f,h0]; rfl
 ·obtain ⟨K,k1,k2⟩:=yqjy h0 H
  obtain ⟨r,r1,r2⟩:=yosy h0 H K k1 K NN 0 [] rfl (by have:=NN_ok; omega) (by simp) (by omega)
  refine ⟨r,0,by omega,fun R k=>?_⟩
  have f0:∀ (k0:Int→Option R) (k1:List G_Deed→List G_Contact→List (List UInt8)→List Int→List (G_net_own×Bool)→Int→Option R),ycby.z51z d at0 k0 k1 = k1 D C S O H 0:=fun k0 k1=>h1 R k0 k1
  have f:∀ k:List (List UInt8)→List G_Deed→List G_Contact→List (List UInt8)→List Int→List (G_net_own×Bool)→Option R,I_z3z.z23z D C S O H k = k K D C S O H:=fun k=>k2 R k
  have f2:∀ k:List G_Desk→List G_Deed→List G_Contact→List (List UInt8)→List Int→List (G_net_own×Bool)→Option R,ycby.z3z D C S O H k = k r D C S O H:=fun k=>by
   show z3z_ I_z3z D C S O H k = _
   unfold z3z_
   rw [f]
   exact r2 R _
  show ydgy ycby d at0 k = _
  unfold ydgy
  rw [f0,bne_self_eq_false,cond_false,f2]
end Go.Am
set_option linter.unusedVariables false
set_option linter.unusedSectionVars false
set_option linter.unusedSimpArgs false
set_option maxRecDepth 100000
namespace Go.Am
open Go Go.Proofs
variable [Fuel]
def zzD (no:Int):G_Deed:=⟨[122,122],no,500,2,⟨0,0,[],[],0,0,[],[]⟩,[98,50,48],[],0⟩
theorem yoTy (d:List G_Deed) (hl:d.length≤1000):∀ (xs:List G_Deed) (n i:Nat) (no:Int),d.drop i = xs→xs.length < n →
  ∃ no':Int,∀ (R:Type) (e0:List G_Deed→G_Deed→Option R),ybuy yaTy n d d (d.length:Int) (i:Int) (zzD no) e0 = e0 d (zzD no')
 | _,0,_,_,_,h=>by omega
 | [],n + 1,i,no,h,_=>⟨no,fun R e0=>by rw [ybuy,ya6y h]; rfl⟩
 | x :: xs,n + 1,i,no,h,hn=>by
  have h':=yavy h
  have hn':xs.length < n:=Nat.lt_of_succ_lt_succ (by simpa only [List.length_cons] using hn)
  obtain ⟨no',g⟩:=yoTy d hl xs n (i + 1) (bif x.f_Site == [122,122] then (if x.f_No > no then x.f_No else no) else no) h'.2.2.1 hn'
  refine ⟨no',fun R e0=>?_⟩
  rw [ybuy,yaJy h,cond_true,yaWy h,yazy (show i < 4611686018427387904 by omega),← g R e0]
  show (bif x.f_Site == [122,122] then _ else _) = _
  cases x.f_Site == [122,122] <;> rfl
theorem yp0y {d:List G_Deed} (hf:∀ x ∈ d,FineD x) (hl:d.length≤1000):∃ (r:List G_Deed) (e:Int),r.length≤1001∧∀ (R:Type) (k:List G_Deed→Int→Option R),net_Write d (zzD 0) k = k r e:=by
 obtain ⟨e,he⟩:=z11z_gives hf (by omega)
 obtain ⟨no,g⟩:=yoTy d hl d NN 0 0 rfl (by have:=NN_ok; omega)
 obtain ⟨q,hq⟩:=ygry (x:=zzD (w64 (no + 1))) (show ([122,122]:List UInt8) ∈ ybvy by decide +kernel) (show ([98,50,48]:List UInt8) ∈ ybvy by decide +kernel) (show ([]:List UInt8) ∈ ybvy by decide +kernel) (yehy (x:=0) ⟨by omega,by omega⟩)
 have f1:∀ (R:Type) (k:Int→Option R),yaTy.z11z d k = k e:=he
 have f2:∀ (R:Type) (k:Int→Option R),yaTy.net_formed ⟨[122,122],w64 (no + 1),500,2,⟨0,0,[],[],0,0,[],[]⟩,[98,50,48],[],0⟩ k = k q:=hq
 have f3:∀ (R:Type) (x y:G_Deed) (k:Int→Option R),yaTy.z35z x y k = k (cmpD x y):=fun R x y k=>z35z_is x y R k
 have f4:∀ (R:Type) (k:List G_Deed→Option R),yaTy.z72z d k = k d:=fun R k=>yBRy (by omega) R k
 have hroom:∀ x:G_Deed,decide ((d.length + [x].length) * 176≤yady) = true:=fun x=>room1 d x 176 (by omega) (by omega)
 have unf:∀ (R:Type) (k:List G_Deed→Int→Option R),net_Write d (zzD 0) k = bif e != 0 then k [] e else bif q != 0 then k [] q else (bif decide ((d.length:Int) > 0) then get_ d (w64 ((d.length:Int) - 1)) fun x14=>bif decide (cmpD x14 (zzD (w64 (no + 1))) ≥ 0) then k [] 7 else k (d ++ [zzD (w64 (no + 1))]) 0 else k (d ++ [zzD (w64 (no + 1))]) 0):=fun R k=>by
  show ygyy yaTy d (zzD 0) k = _
  unfold ygyy
  rw [f1]
  cases e != 0 with
  | true=>rfl
  | false =>
   simp only [cond_false]
   show ybuy yaTy NN d d (d.length:Int) 0 (zzD 0) _ = _
   refine (g R _).trans ?_
   show (yaTy.net_formed ⟨[122,122],w64 (no + 1),500,2,⟨0,0,[],[],0,0,[],[]⟩,[98,50,48],[],0⟩ fun r13=>_) = _
   rw [f2]
   cases q != 0 with
   | true=>rfl
   | false =>
    simp only [cond_false,f3,f4,hroom,cond_true,decide_eq_false (show ¬ ((d.length:Int) ≥ 2000) by omega)]
    rfl
 cases h0:e != 0 with
 | true=>exact ⟨[],e,by simp,fun R k=>by rw [unf,h0]; rfl⟩
 | false =>
  cases h1:q != 0 with
  | true=>exact ⟨[],q,by simp,fun R k=>by rw [unf,h0,h1]; rfl⟩
  | false =>
   by_cases hd:d.length = 0
   ·exact ⟨d ++ [zzD (w64 (no + 1))],0,by simp; omega,fun R k=>by rw [unf,h0,h1,decide_eq_false (show ¬ ((d.length:Int) > 0) by omega)]; rfl⟩
   ·have hx:d[d.length - 1]? = some d[d.length - 1]:=List.getElem?_eq_getElem (by omega)
    generalize d[d.length - 1] = x at hx
    have hw:w64 ((d.length:Int) - 1) = ((d.length - 1:Nat):Int):=yjRy (by omega) (by omega)
    cases hc:decide (cmpD x (zzD (w64 (no + 1))) ≥ 0) with
    | true=>exact ⟨[],7,by simp,fun R k=>by rw [unf,h0,h1,decide_eq_true (show ((d.length:Int) > 0) by omega),hw]; simp only [cond_false,cond_true]; rw [ydfy hx,hc]; rfl⟩
    | false=>exact ⟨d ++ [zzD (w64 (no + 1))],0,by simp; omega,fun R k=>by rw [unf,h0,h1,decide_eq_true (show ((d.length:Int) > 0) by omega),hw]; simp only [cond_false,cond_true]; rw [ydfy hx,hc]; rfl⟩
theorem ymZy:∀ (j n i:Nat) (l:List G_Deed) (z:G_Deed),i + j = l.length→j < n→l.length≤100000→∃ l':List G_Deed,∀ (R:Type) (e0:List G_Deed→Option R),z46z_L2 NN n (l.length:Int) (i:Int) l z e0 = e0 l'
 | _,0,_,_,_,_,h,_=>by omega
 | 0,n + 1,i,l,z,hi,_,_=>⟨l,fun R e0=>by rw [z46z_L2,decide_eq_false (by omega)]; rfl⟩
 | j + 1,n + 1,i,l,z,hi,hn,hl=>by
  have hil:i < l.length:=by omega
  obtain ⟨l',g⟩:=ymZy j n (i + 1) (l.set i z) z (by simp; omega) (by omega) (by simpa using hl)
  refine ⟨l',fun R e0=>?_⟩
  have g':=g R e0
  rw [List.length_set] at g'
  rw [z46z_L2,decide_eq_true (by omega)]
  simp only [cond_true,ybdy hil,ybmy (List.getElem?_eq_getElem hil),yazy (show i < 4611686018427387904 by omega),ydhy]
  exact g'
theorem yk1y {l:List G_Deed} (hl:l.length≤100000):∃ l':List G_Deed,∀ (R:Type) (k:List G_Deed→Option R),z46z l k = k l':=by
 obtain ⟨l',g⟩:=ymZy l.length NN 0 l ⟨[],0,0,0,⟨0,0,[],[],0,0,[],[]⟩,[],[],0⟩ (by omega) (by have:=NN_ok; omega) hl
 exact ⟨l',fun R k=>g R _⟩
theorem ykLy:∀ (j n i:Nat) (l:List G_Contact) (z:G_Contact),i + j = l.length→j < n→l.length≤100000→∃ l':List G_Contact,∀ (R:Type) (e0:List G_Contact→Option R),z39z_L2 NN n (l.length:Int) (i:Int) l z e0 = e0 l'
 | _,0,_,_,_,_,h,_=>by omega
 | 0,n + 1,i,l,z,hi,_,_=>⟨l,fun R e0=>by rw [z39z_L2,decide_eq_false (by omega)]; rfl⟩
 | j + 1,n + 1,i,l,z,hi,hn,hl=>by
  have hil:i < l.length:=by omega
  obtain ⟨l',g⟩:=ykLy j n (i + 1) (l.set i z) z (by simp; omega) (by omega) (by simpa using hl)
  refine ⟨l',fun R e0=>?_⟩
  have g':=g R e0
  rw [List.length_set] at g'
  rw [z39z_L2,decide_eq_true (by omega)]
  simp only [cond_true,ybdy hil,ybmy (List.getElem?_eq_getElem hil),yazy (show i < 4611686018427387904 by omega),ydhy]
  exact g'
theorem yrUy {l:List G_Contact} (hl:l.length≤100000):∃ l':List G_Contact,∀ (R:Type) (k:List G_Contact→Option R),z39z l k = k l':=by
 obtain ⟨l',g⟩:=ykLy l.length NN 0 l ⟨0,0,[],[],0,0,[],[]⟩ (by omega) (by have:=NN_ok; omega) hl
 exact ⟨l',fun R k=>g R _⟩
theorem ymUy:∀ (j n i:Nat) (l:List G_Desk) (z:G_Desk),i + j = l.length→j < n→l.length≤100000→∃ l':List G_Desk,∀ (R:Type) (e0:List G_Desk→Option R),z49z_L2 NN n (l.length:Int) (i:Int) l z e0 = e0 l'
 | _,0,_,_,_,_,h,_=>by omega
 | 0,n + 1,i,l,z,hi,_,_=>⟨l,fun R e0=>by rw [z49z_L2,decide_eq_false (by omega)]; rfl⟩
 | j + 1,n + 1,i,l,z,hi,hn,hl=>by
  have hil:i < l.length:=by omega
  obtain ⟨l',g⟩:=ymUy j n (i + 1) (l.set i z) z (by simp; omega) (by omega) (by simpa using hl)
  refine ⟨l',fun R e0=>?_⟩
  have g':=g R e0
  rw [List.length_set] at g'
  rw [z49z_L2,decide_eq_true (by omega)]
  simp only [cond_true,ybdy hil,ybmy (List.getElem?_eq_getElem hil),yazy (show i < 4611686018427387904 by omega),ydhy]
  exact g'
theorem ytVy {l:List G_Desk} (hl:l.length≤100000):∃ l':List G_Desk,∀ (R:Type) (k:List G_Desk→Option R),z49z l k = k l':=by
 obtain ⟨l',g⟩:=ymUy l.length NN 0 l ⟨[],[],0⟩ (by omega) (by have:=NN_ok; omega) hl
 exact ⟨l',fun R k=>g R _⟩
theorem ynpy:∀ (j n i:Nat) (l:List Int),i + j = l.length→j < n→l.length≤100000→∃ l':List Int,∀ (R:Type) (e0:List Int→Option R),z52z_L2 NN n 0 (l.length:Int) (i:Int) l e0 = e0 l'
 | _,0,_,_,_,h,_=>by omega
 | 0,n + 1,i,l,hi,_,_=>⟨l,fun R e0=>by rw [z52z_L2,decide_eq_false (by omega)]; rfl⟩
 | j + 1,n + 1,i,l,hi,hn,hl=>by
  have hil:i < l.length:=by omega
  obtain ⟨l',g⟩:=ynpy j n (i + 1) (l.set i 0) (by simp; omega) (by omega) (by simpa using hl)
  refine ⟨l',fun R e0=>?_⟩
  have g':=g R e0
  rw [List.length_set] at g'
  rw [z52z_L2,decide_eq_true (by omega)]
  simp only [cond_true,ybdy hil,ybmy (List.getElem?_eq_getElem hil),yazy (show i < 4611686018427387904 by omega),ydhy]
  exact g'
theorem ysvy {l:List Int} (hl:l.length≤100000):∃ l':List Int,∀ (R:Type) (k:List Int→Option R),z52z l k = k l':=by
 obtain ⟨l',g⟩:=ynpy l.length NN 0 l (by omega) (by have:=NN_ok; omega) hl
 exact ⟨l',fun R k=>g R _⟩
theorem keep_NetsStay_true (l:List Int) (R:Type) (k:Bool→Option R):keep_NetsStay l k = k true:=by
 obtain ⟨d,s1,l1,hd,e1⟩:=z27z_gives (sOk0 l) 12 (by omega)
 obtain ⟨m1,n1,p1,q1⟩:=ytgy hd (by omega)
 obtain ⟨t1,u1⟩:=yk1y (l:=m1) (by omega)
 obtain ⟨c2,o2,x2,p2,p3,q2⟩:=yrKy hd (by omega) 60
 obtain ⟨t2,u2⟩:=yrUy (l:=c2) (by omega)
 obtain ⟨t3,u3⟩:=ysvy (l:=o2) (by omega)
 obtain ⟨r4,x4,p4,q4⟩:=yoSy hd (by omega) 60
 obtain ⟨t4,u4⟩:=ytVy (l:=r4) (by omega)
 obtain ⟨r5,x5,p5,q5⟩:=yp0y hd (by omega)
 obtain ⟨t5,u5⟩:=yk1y (l:=r5) (by omega)
 have v1:∀ k:List G_Deed→G_Stream→Option R,yaxy.z27z ⟨l,0⟩ 12 k = k d s1:=fun k=>e1 R k
 have v2:∀ k:List G_Deed→Int→Option R,yaxy.z26z d k = k m1 n1:=fun k=>q1 R k
 have v3:∀ k:List G_Deed→Option R,yaxy.z46z m1 k = k t1:=fun k=>u1 R k
 have v4:∀ k:List G_Contact→List Int→Int→Option R,yaxy.net_Log d 60 k = k c2 o2 x2:=fun k=>q2 R k
 have v5:∀ k:List G_Contact→Option R,yaxy.z39z c2 k = k t2:=fun k=>u2 R k
 have v6:∀ k:List Int→Option R,yaxy.z52z o2 k = k t3:=fun k=>u3 R k
 have v7:∀ k:List G_Desk→Int→Option R,yaxy.net_Desks d 60 k = k r4 x4:=fun k=>q4 R k
 have v8:∀ k:List G_Desk→Option R,yaxy.z49z r4 k = k t4:=fun k=>u4 R k
 have v9:∀ k:List G_Deed→Int→Option R,yaxy.net_Write d ⟨[122,122],0,500,2,⟨0,0,[],[],0,0,[],[]⟩,[98,50,48],[],0⟩ k = k r5 x5:=fun k=>q5 R k
 have v10:∀ k:List G_Deed→Option R,yaxy.z46z r5 k = k t5:=fun k=>u5 R k
 have v11:∀ k:Bool→Option R,yaxy.z40z d d k = k true:=fun k=>yz6y (by omega) R k
 have v12:∀ k:Bool→Option R,yaxy.keep_ready k = k true:=fun k=>yrRy R k
 show ydiy yaxy l k = _
 unfold ydiy
 rw [v1,v1,v2,v3,v4,v5,v6,v7,v8,v9,v10,v11,cond_true,v12]
end Go.Am
