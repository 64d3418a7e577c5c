/- The plain law, in Lean alone: R4, R5, R6, R7, Y1. No condition: lemmas for the claim. -/
import Derived.Test.YtmhbhdhddlbdlaaGreatDoorPlR3
set_option linter.unusedVariables false
set_option linter.unusedSectionVars false
set_option linter.unusedSimpArgs false
set_option maxRecDepth 100000
namespace Go.Am
open Go Go.Proofs
variable [Fuel]
def yhRy:List (List UInt8):=[[102,117,108,108],[115,109,97,108,108],[110,111,110,101],[],[65],[99]]
theorem yHRy:yhRy.all (fun s=>(kit_IsKey s some).isSome) = true:=by
 obtain ⟨m,h,rfl⟩:=ybey ‹Fuel›
 kernel_rfl
theorem ylpy {s:List UInt8} (h:s ∈ yhRy) (R:Type) (k:Bool→Option R):kit_IsKey s k = k (keyB s) :=
 yoCy yaRy.na (args:=[.d (.str s)]) (F:=@kit_IsKey _ s) (fun _ _=>rfl) (yn2y (List.all_eq_true.1 yHRy s h)) R k
structure FineG (s:G_Segment):Prop where
 cls:s.f_Class ∈ yhRy
 modes:s.f_Modes.length≤1000
def cmpG (x y:G_Segment):Int:=orL [Lib.compareBytes x.f_Class y.f_Class,cmpI x.f_Low y.f_Low,cmpI x.f_High y.f_High,cmpI x.f_Time.f_From y.f_Time.f_From]
theorem z54z_is (x y:G_Segment) (R:Type) (k:Int→Option R):z54z x y k = k (cmpG x y):=by
 simp only [z54z,z54z_,ytXy,cmpG,z14z_is,ygPy]
 rw [z20z_is _ (by simp)]
def yjsy:Option Int→List Int→Int
 | _,[]=>0
 | p,m :: ms=>bif !inB m 1 3 then 4 else match p with
  | none=>yjsy (some m) ms
  | some q=>bif decide (m≤q) then 7 else yjsy (some m) ms
def modeF (l:List Int):Int:=bif (l.length:Int) == 0 then 8 else yjsy none l
theorem z27z_loop (d:List Int) (hl:d.length≤100000):∀ (xs:List Int) (n i:Nat) (p:Option Int),d.drop i = xs→ydiy d i p→xs.length < n→∀ (R:Type) (k:Int→Option R),
  z27z_L4 ydmy n d d (d.length:Int) (i:Int) k (k 0) = k (yjsy p xs)
 | _,0,_,_,_,_,h,_,_=>by omega
 | [],n + 1,i,p,h,_,_,_,_=>by rw [z27z_L4,ybqy h]; rfl
 | c :: cs,n + 1,i,p,h,hp,hn,R,k=>by
  have h':=yaqy h
  have ih:=z27z_loop d hl cs n (i + 1) (some c) h'.2.2.1 (ydYy h) (by simp at hn; omega) R k
  rw [z27z_L4,ybdy h]
  simp only [ydmy] at ih
  simp only [cond_true,ya2y h,ydmy,ylmy,yjsy,yauy (show i < 4611686018427387904 by omega),ih]
  cases inB c 1 3 <;> try rfl
  cases p with
  | none=>rw [decide_eq_false (show ¬ ((i:Int) > 0) by unfold ydiy at hp; omega)]; rfl
  | some q =>
   obtain ⟨h0,ys,hq⟩:=hp
   rw [decide_eq_true (show ((i:Int) > 0) by omega),ygMy hq h0 (by omega)]
   simp only [Bool.not_true,cond_false,cond_true]
   cases decide (c≤q) <;> rfl
theorem z27z_is {d:List Int} (hl:d.length≤100000) (R:Type) (k:Int→Option R):z27z d k = k (modeF d):=by
 have h:z27z_L4 ydmy ydmy.N d d (d.length:Int) 0 k (k 0) = k (yjsy none d):=z27z_loop d hl d NN 0 none rfl rfl (by have:=NN_ok; omega) R k
 simp only [z27z,z27z_,modeF,h]
 cases (d.length:Int) == 0 <;> rfl
def timeB (w:G_Window):Bool:=decide (w.f_From ≥ 0) && (decide (w.f_From < w.f_To) && decide (w.f_To≤345686400000))
theorem ytEy (w:G_Window) (R:Type) (k:Bool→Option R):kit_IsTime w k = k (timeB w):=by
 simp only [kit_IsTime,yi4y,timeB]
 cases decide (w.f_From ≥ 0) <;> cases decide (w.f_From < w.f_To) <;> rfl
noncomputable def chkG (s:G_Segment):Int:=bif !keyB s.f_Class then 5 else bif decide (s.f_Low < 0) then 1 else bif decide (s.f_Low ≥ s.f_High) then 1 else bif decide (s.f_High > 30000000000) then 1 else bif modeF s.f_Modes != 0 then modeF s.f_Modes else bif !timeB s.f_Time then 1 else 0
noncomputable def yc3y:Option G_Segment→List G_Segment→Int
 | _,[]=>0
 | p,c :: cs=>bif chkG c != 0 then chkG c else match p with
  | none=>yc3y (some c) cs
  | some q=>bif decide (cmpG q c ≥ 0) then 7 else yc3y (some c) cs
theorem yCSy {s:G_Segment} (h:chkG s = 0):GoodG s:=by
 unfold chkG at h
 by_cases h1:s.f_Low < 0
 ·rw [decide_eq_true h1] at h; revert h; cases keyB s.f_Class <;> simp
 ·by_cases h2:s.f_Low ≥ s.f_High
  ·rw [decide_eq_false h1,decide_eq_true h2] at h; revert h; cases keyB s.f_Class <;> simp
  ·by_cases h3:s.f_High > 30000000000
   ·rw [decide_eq_false h1,decide_eq_false h2,decide_eq_true h3] at h; revert h; cases keyB s.f_Class <;> simp
   ·exact ⟨by omega,by omega,by omega⟩
theorem ymfy:∀ (l:List G_Segment) (p:Option G_Segment),yc3y p l = 0→∀ c ∈ l,GoodG c
 | [],_,_,c,h=>by cases h
 | x :: xs,p,h,c,hc=>by
  unfold yc3y at h
  cases hq:chkG x != 0 with
  | true=>rw [hq] at h; simp only [cond_true] at h; rw [h] at hq; cases hq
  | false =>
   rw [hq] at h
   simp only [cond_false] at h
   have h0:chkG x = 0:=by simpa using hq
   have h2:yc3y (some x) xs = 0:=by
    cases p with
    | none=>exact h
    | some q =>
     simp only at h
     cases hd:decide (cmpG q x ≥ 0) with
     | true=>rw [hd] at h; simp only [cond_true] at h; omega
     | false=>rw [hd] at h; exact h
   rcases List.mem_cons.1 hc with rfl | hc
   ·exact yCSy h0
   ·exact ymfy xs (some x) h2 c hc
noncomputable def yfIy (d:List G_Segment):Int:=bif decide ((d.length:Int) > 500) then 2 else yc3y none d
theorem yyby {l:List G_Segment} (h:yfIy l = 0):∀ c ∈ l,GoodG c:=by
 unfold yfIy at h
 cases hd:decide ((l.length:Int) > 500) with
 | true=>rw [hd] at h; simp only [cond_true] at h; omega
 | false=>rw [hd] at h; exact ymfy l none h
theorem z19z_loop (d:List G_Segment) (hf:∀ c ∈ d,FineG c) (hl:d.length≤100000):∀ (xs:List G_Segment) (n i:Nat) (p:Option G_Segment),d.drop i = xs→ydiy d i p→xs.length < n→∀ (R:Type) (k:Int→Option R),
  z19z_L4 ydpy n d d (d.length:Int) (i:Int) k (k 0) = k (yc3y p xs)
 | _,0,_,_,_,_,h,_,_=>by omega
 | [],n + 1,i,p,h,_,_,_,_=>by rw [z19z_L4,ybqy h]; rfl
 | c :: cs,n + 1,i,p,h,hp,hn,R,k=>by
  have h':=yaqy h
  have ih:=z19z_loop d hf hl cs n (i + 1) (some c) h'.2.2.1 (ydYy h) (by simp at hn; omega) R k
  have hc:=hf c (ybPy h)
  rw [z19z_L4,ybdy h]
  simp only [ydpy] at ih
  simp only [cond_true,ya2y h,ydpy,ylpy hc.cls,z27z_is (show c.f_Modes.length≤100000 by have:=hc.modes; omega),ytEy,z54z_is,yc3y,chkG,yauy (show i < 4611686018427387904 by omega),ih]
  cases keyB c.f_Class <;> cases decide (c.f_Low < 0) <;> cases decide (c.f_Low ≥ c.f_High) <;> cases decide (c.f_High > 30000000000) <;> try rfl
  cases hm:modeF c.f_Modes != 0 with
  | true=>simp only [Bool.not_true,cond_false,cond_true,hm]
  | false =>
   cases timeB c.f_Time <;> try rfl
   cases p with
   | none=>rw [decide_eq_false (show ¬ ((i:Int) > 0) by unfold ydiy at hp; omega)]; rfl
   | some q =>
    obtain ⟨h0,ys,hq⟩:=hp
    rw [decide_eq_true (show ((i:Int) > 0) by omega),ygMy hq h0 (by omega)]
    simp only [Bool.not_true,cond_false,cond_true,bne_self_eq_false]
    cases decide (cmpG q c ≥ 0) <;> rfl
theorem z19z_is {d:List G_Segment} (hf:∀ c ∈ d,FineG c) (hl:d.length≤100000) (R:Type) (k:Int→Option R):z19z d k = k (yfIy d):=by
 have h:z19z_L4 ydpy ydpy.N d d (d.length:Int) 0 k (k 0) = k (yc3y none d):=z19z_loop d hf hl d NN 0 none rfl rfl (by have:=NN_ok; omega) R k
 simp only [z19z,z19z_,yfIy,h]
 cases decide ((d.length:Int) > 500) <;> rfl
end Go.Am
set_option linter.unusedVariables false
set_option linter.unusedSectionVars false
set_option linter.unusedSimpArgs false
set_option maxRecDepth 100000
namespace Go.Am
open Go Go.Proofs
variable [Fuel]
end Go.Am
set_option linter.unusedVariables false
set_option linter.unusedSectionVars false
set_option linter.unusedSimpArgs false
set_option maxRecDepth 100000
namespace Go.Am
open Go Go.Proofs
variable [Fuel]
noncomputable def nameF (c:List UInt8):Int:=bif !keyB c then 5 else 0
def outF (x lo hi e:Int):Int:=bif !inB x lo hi then e else 0
def momF (x:Int):Int:=bif momB x then 0 else 1
noncomputable def yvUy (l:List G_Segment) (c:List UInt8):Int:=orL [yfIy l,nameF c]
noncomputable def yh6y (l:List G_Segment) (c:List UInt8) (hertz width mode at0:Int):Int:=orL [yvUy l c,outF hertz 0 30000000000 1,outF width 1 100000 1,outF mode 1 3 4,momF at0]
noncomputable def mayR (l:List G_Segment) (c:List UInt8) (hertz width mode at0:Int):Bool:=(rowsL (permL c mode at0 [] l) []).any fun r=>decide (r.f_From≤(usedR hertz width).f_From) && decide ((usedR hertz width).f_To≤r.f_To)
theorem yFvy {l:List G_Segment} (hf:∀ c ∈ l,FineG c):∀ s ∈ l,s.f_Modes.length≤1000:=fun s h=>(hf s h).modes
theorem yxTy {l:List G_Segment} (hf:∀ c ∈ l,FineG c) (hl:l.length≤400) {c:List UInt8} (hc:c ∈ yhRy) (hertz width mode at0:Int) (R:Type) (k:Bool→Int→Option R) :
  band_May l c hertz width mode at0 k = bif yh6y l c hertz width mode at0 != 0 then k false (yh6y l c hertz width mode at0) else k (mayR l c hertz width mode at0) 0:=by
 have hu:∀ k:G_Row→Option R,band_used hertz width k = k (usedR hertz width):=fun k=>rfl
 simp only [band_May,ymMy,yk3y,z19z_is hf (show l.length≤100000 by omega),ylpy hc,z45z_is,ylmy,z49z_is,hu,yh6y,yvUy,nameF,outF,momF,orL]
 cases h1:yfIy l != 0 with
 | true=>simp only [cond_true,h1]
 | false =>
  have hz:yfIy l = 0:=by simpa using h1
  obtain ⟨p1,p2⟩:=z28z_is (yFvy hf) (yyby hz) (show l.length≤500 by omega) c mode at0
  simp only [cond_false,p2,yJJy (show (rowsL (permL c mode at0 [] l) []).length≤100000 by omega)]
  cases keyB c <;> cases inB hertz 0 30000000000 <;> cases inB width 1 100000 <;> cases inB mode 1 3 <;> cases momB at0 <;> rfl
end Go.Am
set_option linter.unusedVariables false
set_option linter.unusedSectionVars false
set_option linter.unusedSimpArgs false
set_option maxRecDepth 100000
namespace Go.Am
open Go Go.Proofs
variable [Fuel]
end Go.Am
set_option linter.unusedVariables false
set_option linter.unusedSectionVars false
set_option linter.unusedSimpArgs false
set_option maxRecDepth 100000
namespace Go.Am
open Go Go.Proofs
variable [Fuel]
def rdC1:G_Contact:=⟨0,1,[98],[107,49,97,98],0,0,[],[]⟩
def rdC2:G_Contact:=⟨5,1,[98],[107,49,97,98],0,0,[],[]⟩
theorem yFKy (R:Type) (k:List Int→Int→Option R):log_Dupes [rdC1,rdC2] k = k [1] 0:=by
 obtain ⟨m,h,rfl⟩:=ybey ‹Fuel›
 kernel_rfl
def segR:G_Segment:=⟨[99],5,8,[1],⟨0,9⟩⟩
theorem yDky:keyB [99] = true:=by
 obtain ⟨m,h,rfl⟩:=ybey ‹Fuel›
 kernel_rfl
theorem yKSy (R:Type) (k:Bool→Int→Option R):band_May [segR] [99] 6 3 1 0 k = k true 0:=by
 have hf:∀ c ∈ [segR],FineG c:=fun c h=>by simp at h; subst h; exact ⟨by simp [segR,yhRy],by simp [segR]⟩
 have hx:yfIy [segR] = 0:=by
  simp only [yfIy,yc3y,chkG,segR,yDky]; rfl
 have hm:yh6y [segR] [99] 6 3 1 0 = 0:=by
  simp only [yh6y,yvUy,nameF,hx,yDky]; rfl
 have hp:permL [99] 1 0 [] [segR] = [⟨5,8⟩]:=by rfl
 have hr:rowsL [⟨5,8⟩] [] = [⟨5,8⟩]:=yrKy (yo1y _ _).1 (yehy.2 ⟨by decide,(fun x h=>by cases h),ynly⟩) fun n=>by rw [(yo1y _ _).2]; simp [cov]
 have hu:usedR 6 3 = ⟨5,8⟩:=by rfl
 have hy:mayR [segR] [99] 6 3 1 0 = true:=by
  unfold mayR
  rw [hp,hr,hu]; rfl
 have h:=yxTy hf (by simp) (show ([99]:List UInt8) ∈ yhRy by simp [yhRy]) 6 3 1 0 R k
 rw [hm,hy] at h
 exact h
def rdE:G_Entrant:=⟨[107,49,97,98],[99],5,[]⟩
def rdP:G_Place:=⟨0,5,[107,49,97,98]⟩
theorem yDPy {α:Type} {call:CmpT α} {p:α} (h:∀ (R:Type) (k:Int→Option R),call p p k = k 0) (R:Type) (k:List α→Option R):yboy call [p] k = k [p]:=by
 obtain ⟨ys,h1,_,h3⟩:=yhoy (call:=call) (xs:=[p]) (c:=fun _ _=>0) (by simp) (fun x hx y hy R k=>by simp at hx hy; subst hx; subst hy; exact h R k) ⟨fun _ _ _ _=>.inl (Int.le_refl _),fun _ _ _ _ _ _ _ _=>Int.le_refl _,fun _ _ _ _=>by simp⟩
 rw [h3,List.perm_singleton.1 h1]
theorem yDFy {α:Type} {call:CmpT α} (R:Type) (k:List α→Option R):yboy call [] k = k []:=by
 obtain ⟨ys,h1,_,h3⟩:=yhoy (call:=call) (xs:=[]) (c:=fun _ _=>0) (by simp) (fun x hx y hy R k=>by cases hx) ⟨fun _ _ _ _=>.inl (Int.le_refl _),fun _ _ _ _ _ _ _ _=>Int.le_refl _,fun _ _ _ _=>by simp⟩
 rw [h3,List.perm_nil.1 h1]
theorem yITy (R:Type) (k:List G_Place→Option R):z35z [rdP] k = k [rdP]:=yDPy (call:=@z42z _) (fun R k=>by
 obtain ⟨m,h,rfl⟩:=ybey ‹Fuel›
 kernel_rfl) R k
theorem yEey (R:Type) (k:Int→Option R):z25z [rdE] k = k 0:=by
 obtain ⟨m,h,rfl⟩:=ybey ‹Fuel›
 kernel_rfl
theorem yLay (R:Type) (k:Bool→Option R):kit_IsKey [99] k = k true:=by
 obtain ⟨m,h,rfl⟩:=ybey ‹Fuel›
 kernel_rfl
theorem yDhy (R:Type) (k:List G_Place→Option R):ycdy ya8y ya8y.N [99] [rdE] ([rdE].length:Int) 0 [] k = k [rdP]:=by
 obtain ⟨m,h,rfl⟩:=ybey ‹Fuel›
 kernel_rfl
theorem yETy (R:Type) (k:List G_Place→Option R):z13z_L3 yfHy yfHy.N ([rdP].length:Int) 0 [rdP] k = k [⟨1,5,[107,49,97,98]⟩]:=by
 obtain ⟨m,h,rfl⟩:=ybey ‹Fuel›
 kernel_rfl
theorem yFyy (R:Type) (k:List G_Place→Int→Option R):club_Table [rdE] [99] k = k [⟨1,5,[107,49,97,98]⟩] 0:=by
 have h1:∀ k:Int→Option R,ya8y.z25z [rdE] k = k 0:=fun k=>yEey R k
 have h2:∀ k:Bool→Option R,ya8y.kit_IsKey [99] k = k true:=fun k=>yLay R k
 have h3:∀ k:List G_Place→Option R,ya8y.z13z [rdP] k = k [⟨1,5,[107,49,97,98]⟩]:=fun k=>by
  have h4:∀ k:List G_Place→Option R,yfHy.z35z [rdP] k = k [rdP]:=fun k=>yITy R k
  show z13z [rdP] k = _
  simp only [z13z,z13z_,h4,yETy]
 simp only [club_Table,yi9y,h1,h2,yDhy,h3]
 rfl
def rdD:G_Deed:=⟨[97],1,0,3,⟨0,0,[],[],1,0,[],[]⟩,[],[],0⟩
theorem yFEy (R:Type) (k:Int→Option R):z78z [rdD] 0 k = k 0:=by
 obtain ⟨m,h,rfl⟩:=ybey ‹Fuel›
 kernel_rfl
theorem yLsy:yj3y ydky [rdD] 0 (fun z0=>some (yeyy z0)) = some (yeyy [0]):=by
 obtain ⟨m,h,rfl⟩:=ybey ‹Fuel›
 kernel_rfl
theorem yxQy (R:Type) (k:List Int→Option R):z16z [rdD] 0 k = k [0]:=by
 unfold z16z z16z_
 rw [yLsy]
 rfl
theorem yBYy (R:Type) (e0:List (G_net_own×Bool)→List (G_Contact×G_Deed)→List G_Deed→List G_Contact→List (List UInt8)→List Int→Option R) :
  z24z_L4 yb0y yb0y.N [rdD] (([0]:List Int).length:Int) 0 [] [] [0] [] [] [] [] e0 = e0 [(⟨[97],1⟩,true)] [] [rdD] [] [] []:=by
 obtain ⟨m,h,rfl⟩:=ybey ‹Fuel›
 kernel_rfl
theorem yAvy (R:Type) (e0:List (G_net_own×Bool)→List G_Deed→List G_Contact→List (List UInt8)→List Int→Option R) :
  z24z_L25 yb0y yb0y.N (([]:List G_Contact).length:Int) 0 [(⟨[97],1⟩,true)] [] [rdD] [] [] [] e0 = e0 [(⟨[97],1⟩,true)] [rdD] [] [] []:=by
 obtain ⟨m,h,rfl⟩:=ybey ‹Fuel›
 kernel_rfl
theorem yFLy (R:Type) (k0:Int→Option R) (k1:List G_Deed→List G_Contact→List (List UInt8)→List Int→List (G_net_own×Bool)→Int→Option R):z24z [rdD] 0 k0 k1 = k1 [rdD] [] [] [] [(⟨[97],1⟩,true)] 0:=by
 have h1:∀ k:List Int→Option R,yb0y.z16z [rdD] 0 k = k [0]:=fun k=>yxQy R k
 have h2:∀ k:List G_Contact→Option R,yb0y.z36z [] k = k []:=fun k=>yDFy R k
 simp only [z24z,z24z_,h1,yBYy,h2,yAvy]
 rfl
theorem yGRy (R:Type) (k:List (Int×Int)→List G_Deed→List G_Contact→List (List UInt8)→List Int→List (G_net_own×Bool)→Option R):z34z [rdD] [] [] [] [(⟨[97],1⟩,true)] k = k [] [rdD] [] [] [] [(⟨[97],1⟩,true)]:=by
 obtain ⟨m,h,rfl⟩:=ybey ‹Fuel›
 kernel_rfl
theorem yBdy (R:Type) (k:List (Int×Int)→List G_Deed→List G_Contact→List (List UInt8)→List Int→List (G_net_own×Bool)→Option R):z6z [rdD] [] [] [] [(⟨[97],1⟩,true)] k = k [(1,1)] [rdD] [] [] [] [(⟨[97],1⟩,true)]:=by
 have h:yjty NN [rdD] [] [] [] [(⟨[97],1⟩,true)] (fun z0 z1 z2 z3 z4 z5=>some (yfXy (z0,z1,z2,z3,z4,z5))) = some (yfXy ([(1,1)],[rdD],[],[],[],[(⟨[97],1⟩,true)])):=by
  obtain ⟨m,e,hm⟩:=ynvy
  obtain ⟨m,rfl⟩:∃ q,m = q + 1:=⟨m - 1,by omega⟩
  unfold yjty
  rw [e,z6z_L3]
  refine yuCy (by simp) fun p hp=>?_
  simp only [picks,List.map_nil,List.mem_cons,List.not_mem_nil,or_false] at hp
  subst hp
  rw [z6z_L3,yn4y]
  kernel_rfl
 unfold z6z z6z_
 rw [h]
 rfl
theorem yEay (R:Type) (e0:Int→Int→List (G_net_own×Bool)→List G_Deed→List G_Contact→List (List UInt8)→List Int→Option R) (e1:List (G_net_own×Bool)→List G_Deed→List G_Contact→List (List UInt8)→List Int→Option R) :
  z12z_L3 ydWy ydWy.N 1 [] [(⟨[97],1⟩,true)] [(1,1)] [rdD] [] [] [] e0 e1 = e0 2 0 [(⟨[97],1⟩,true)] [rdD] [] [] []:=by
 obtain ⟨m,h,rfl⟩:=ybey ‹Fuel›
 kernel_rfl
theorem yIKy (R:Type) (k:Int→Int→Option R):net_Next [rdD] 0 k = k 2 0:=by
 have h1:∀ (k0:Int→Option R) (k1:List G_Deed→List G_Contact→List (List UInt8)→List Int→List (G_net_own×Bool)→Int→Option R),yhry.z76z [rdD] 0 k0 k1 = k1 [rdD] [] [] [] [(⟨[97],1⟩,true)] 0:=fun k0 k1=>by
  have h2:∀ k:Int→Option R,ypOy.z78z [rdD] 0 k = k 0:=fun k=>yFEy R k
  have h3:∀ (k0:Int→Option R) (k1:List G_Deed→List G_Contact→List (List UInt8)→List Int→List (G_net_own×Bool)→Int→Option R),ypOy.z24z [rdD] 0 k0 k1 = k1 [rdD] [] [] [] [(⟨[97],1⟩,true)] 0:=fun k0 k1=>yFLy R k0 k1
  show z76z [rdD] 0 k0 k1 = _
  simp only [z76z,z76z_,h2,h3]
  rfl
 have h4:∀ k:List (Int×Int)→List G_Deed→List G_Contact→List (List UInt8)→List Int→List (G_net_own×Bool)→Option R,ydWy.z34z [rdD] [] [] [] [(⟨[97],1⟩,true)] k = k [] [rdD] [] [] [] [(⟨[97],1⟩,true)]:=fun k=>yGRy R k
 have h5:∀ k:List (Int×Int)→List G_Deed→List G_Contact→List (List UInt8)→List Int→List (G_net_own×Bool)→Option R,ydWy.z6z [rdD] [] [] [] [(⟨[97],1⟩,true)] k = k [(1,1)] [rdD] [] [] [] [(⟨[97],1⟩,true)]:=fun k=>yBdy R k
 have h6:∀ k:Int→Int→List G_Deed→List G_Contact→List (List UInt8)→List Int→List (G_net_own×Bool)→Option R,yhry.z12z [rdD] [] [] [] [(⟨[97],1⟩,true)] k = k 2 0 [rdD] [] [] [] [(⟨[97],1⟩,true)]:=fun k=>by
  show z12z [rdD] [] [] [] [(⟨[97],1⟩,true)] k = _
  simp only [z12z,z12z_,h4,h5,yEay]
 simp only [net_Next,yl8y,h1,h6]
 rfl
theorem yGzy (R:Type) (k:Int→Option R):keep_errs [0,0,0,0] k = k 0:=by
 obtain ⟨m,h,rfl⟩:=ybey ‹Fuel›
 kernel_rfl
theorem ytby (R:Type) (k:Bool→Option R):keep_ready k = k true:=by
 have h1:∀ k:List Int→Int→Option R,yaTy.log_Dupes [rdC1,rdC2] k = k [1] 0:=fun k=>yFKy R k
 have h2:∀ k:Bool→Int→Option R,yaTy.band_May [segR] [99] 6 3 1 0 k = k true 0:=fun k=>yKSy R k
 have h3:∀ k:List G_Place→Int→Option R,yaTy.club_Table [rdE] [99] k = k [⟨1,5,[107,49,97,98]⟩] 0:=fun k=>yFyy R k
 have h4:∀ k:Int→Int→Option R,yaTy.net_Next [rdD] 0 k = k 2 0:=fun k=>yIKy R k
 have h5:∀ k:Int→Option R,yaTy.keep_errs [0,0,0,0] k = k 0:=fun k=>yGzy R k
 show yaTy.log_Dupes [rdC1,rdC2] (fun r1 r2=>yaTy.band_May [segR] [99] 6 3 1 0 (fun r3 r4=>yaTy.club_Table [rdE] [99] (fun r5 r6=>yaTy.net_Next [rdD] 0 (fun r7 r8=>yaTy.keep_errs [r2,r4,r6,r8] (fun r9=>bif r9 == 0 then (bif ((r1.length:Int) == 1) then (bif r3 then (bif ((r5.length:Int) == 1) then k (r7 == 2) else k false) else k false) else k false) else k false))))) = k true
 rw [h1,h2,h3,h4,h5]
 rfl
end Go.Am
