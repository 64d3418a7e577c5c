/- The plain law, in Lean alone: R4, R5, R6, Y1, Y0. No condition: lemmas for the claim. -/
import Derived.Test.YtmhbhdhddlbdlaaGreatDoorPlR1
import Derived.Test.YtmhbhdhddlbdlaaGreatDoorPlS1
set_option linter.unusedVariables false
set_option linter.unusedSectionVars false
set_option linter.unusedSimpArgs false
set_option maxRecDepth 100000
namespace Go.Am
open Go Go.Proofs
variable [Fuel]
def yiKy:List (List UInt8):=[[102,117,108,108],[115,109,97,108,108],[110,111,110,101],[],[65],[99]]
theorem yJpy:yiKy.all (fun s=>(kit_IsKey s some).isSome) = true:=by
 obtain ⟨m,h,rfl⟩:=yaYy ‹Fuel›
 kernel_rfl
theorem ymCy {s:List UInt8} (h:s∈yiKy) (R:Type) (k:Bool→Option R):kit_IsKey s k = k (keyB s) :=
 yeVy yaVy.na (args:=[.d (.str s)]) (F:=@kit_IsKey _ s) (fun _ _=>rfl) (yhjy (List.all_eq_true.1 yJpy s h)) R k
structure FineG (s:G_Segment):Prop where
 cls:s.f_Class∈yiKy
 modes:s.f_Modes.length≤1000
def cmpG (x y:G_Segment):Int:=orL [Lib.compareBytes x.f_Class y.f_Class,cmpI x.f_Low y.f_Low,cmpI x.f_High y.f_High,cmpI x.f_Time.f_From y.f_Time.f_From]
theorem z56z_is (x y:G_Segment) (R:Type) (k:Int→Option R):z56z x y k = k (cmpG x y):=by
 simp only [z56z,z56z_,yxDy,cmpG,z24z_is,ydVy]
 rw [z23z_is _ (by simp)]
def yksy:Option Int→List Int→Int
 | _,[]=>0
 | p,m::ms=>bif !inB m 1 3 then 4 else match p with
  | none=>yksy (some m) ms
  | some q=>bif decide (m≤q) then 7 else yksy (some m) ms
def modeF (l:List Int):Int:=bif (l.length:Int) == 0 then 8 else yksy none l
theorem z29z_loop (d:List Int) (hl:d.length≤100000):∀ (xs:List Int) (n i:Nat) (p:Option Int),d.drop i = xs→yiYy d i p→xs.length < n→∀ (R:Type) (k:Int→Option R),
  z29z_L4 ydJy n d d (d.length:Int) (i:Int) k (k 0) = k (yksy p xs)
 | _,0,_,_,_,_,h,_,_=>by omega
 | [],n + 1,i,p,h,_,_,_,_=>by rw [z29z_L4,ya5y h];rfl
 | c::cs,n + 1,i,p,h,hp,hn,R,k=>by
  have h':=yaty h
  have ih:=z29z_loop d hl cs n (i + 1) (some c) h'.2.2.1 (yjQy h) (by simp at hn;omega) R k
  rw [z29z_L4,yaWy h]
  simp only [ydJy] at ih
  simp only [cond_true,ybay h,ydJy,yhIy,yksy,yayy (show i < 4611686018427387904 by omega),ih]
  cases inB c 1 3 <;> try rfl
  cases p with
  | none=>rw [decide_eq_false (show ¬ ((i:Int) > 0) by unfold yiYy at hp;omega)];rfl
  | some q =>
   obtain ⟨h0,ys,hq⟩:=hp
   rw [decide_eq_true (show ((i:Int) > 0) by omega),yngy hq h0 (by omega)]
   simp only [Bool.not_true,cond_false,cond_true]
   cases decide (c≤q) <;> rfl
theorem z29z_is {d:List Int} (hl:d.length≤100000) (R:Type) (k:Int→Option R):z29z d k = k (modeF d):=by
 have h:z29z_L4 ydJy ydJy.N d d (d.length:Int) 0 k (k 0) = k (yksy none d):=z29z_loop d hl d NN 0 none rfl rfl (by have:=NN_ok;omega) R k
 simp only [z29z,z29z_,modeF,h]
 cases (d.length:Int) == 0 <;> rfl
def timeB (w:G_Window):Bool:=decide (w.f_From ≥ 0)&&(decide (w.f_From < w.f_To)&&decide (w.f_To≤345686400000))
theorem yuDy (w:G_Window) (R:Type) (k:Bool→Option R):kit_IsTime w k = k (timeB w):=by
 simp only [kit_IsTime,yjKy,timeB]
 cases decide (w.f_From ≥ 0) <;> cases decide (w.f_From < w.f_To) <;> rfl
noncomputable def chkG (s:G_Segment):Int:=bif !keyB s.f_Class then 5 else bif decide (s.f_Low < 0) then 1 else bif decide (s.f_Low ≥ s.f_High) then 1 else bif decide (s.f_High > 30000000000) then 1 else bif modeF s.f_Modes != 0 then modeF s.f_Modes else bif !timeB s.f_Time then 1 else 0
noncomputable def ydsy:Option G_Segment→List G_Segment→Int
 | _,[]=>0
 | p,c::cs=>bif chkG c != 0 then chkG c else match p with
  | none=>ydsy (some c) cs
  | some q=>bif decide (cmpG q c ≥ 0) then 7 else ydsy (some c) cs
theorem yFEy {s:G_Segment} (h:chkG s = 0):GoodG s:=by
 unfold chkG at h
 by_cases h1:s.f_Low < 0
 ·rw [decide_eq_true h1] at h;revert h;cases keyB s.f_Class <;> simp
 ·by_cases h2:s.f_Low ≥ s.f_High
  ·rw [decide_eq_false h1,decide_eq_true h2] at h;revert h;cases keyB s.f_Class <;> simp
  ·by_cases h3:s.f_High > 30000000000
   ·rw [decide_eq_false h1,decide_eq_false h2,decide_eq_true h3] at h;revert h;cases keyB s.f_Class <;> simp
   ·exact ⟨by omega,by omega,by omega⟩
theorem ynty:∀ (l:List G_Segment) (p:Option G_Segment),ydsy p l = 0→∀ c∈l,GoodG c
 | [],_,_,c,h=>by cases h
 | x::xs,p,h,c,hc=>by
  unfold ydsy at h
  cases hq:chkG x != 0 with
  | true=>rw [hq] at h;simp only [cond_true] at h;rw [h] at hq;cases hq
  | false =>
   rw [hq] at h
   simp only [cond_false] at h
   have h0:chkG x = 0:=by simpa using hq
   have h2:ydsy (some x) xs = 0:=by
    cases p with
    | none=>exact h
    | some q =>
     simp only at h
     cases hd:decide (cmpG q x ≥ 0) with
     | true=>rw [hd] at h;simp only [cond_true] at h;omega
     | false=>rw [hd] at h;exact h
   rcases List.mem_cons.1 hc with rfl | hc
   ·exact yFEy h0
   ·exact ynty xs (some x) h2 c hc
noncomputable def yfGy (d:List G_Segment):Int:=bif decide ((d.length:Int) > 500) then 2 else ydsy none d
theorem yz2y {l:List G_Segment} (h:yfGy l = 0):∀ c∈l,GoodG c:=by
 unfold yfGy at h
 cases hd:decide ((l.length:Int) > 500) with
 | true=>rw [hd] at h;simp only [cond_true] at h;omega
 | false=>rw [hd] at h;exact ynty l none h
theorem z22z_loop (d:List G_Segment) (hf:∀ c∈d,FineG c) (hl:d.length≤100000):∀ (xs:List G_Segment) (n i:Nat) (p:Option G_Segment),d.drop i = xs→yiYy d i p→xs.length < n→∀ (R:Type) (k:Int→Option R),
  z22z_L4 ydYy n d d (d.length:Int) (i:Int) k (k 0) = k (ydsy p xs)
 | _,0,_,_,_,_,h,_,_=>by omega
 | [],n + 1,i,p,h,_,_,_,_=>by rw [z22z_L4,ya5y h];rfl
 | c::cs,n + 1,i,p,h,hp,hn,R,k=>by
  have h':=yaty h
  have ih:=z22z_loop d hf hl cs n (i + 1) (some c) h'.2.2.1 (yjQy h) (by simp at hn;omega) R k
  have hc:=hf c (ycpy h)
  rw [z22z_L4,yaWy h]
  simp only [ydYy] at ih
  simp only [cond_true,ybay h,ydYy,ymCy hc.cls,z29z_is (show c.f_Modes.length≤100000 by have:=hc.modes;omega),yuDy,z56z_is,ydsy,chkG,yayy (show i < 4611686018427387904 by omega),ih]
  cases keyB c.f_Class <;> cases decide (c.f_Low < 0) <;> cases decide (c.f_Low ≥ c.f_High) <;> cases decide (c.f_High > 30000000000) <;> try rfl
  cases hm:modeF c.f_Modes != 0 with
  | true=>simp only [Bool.not_true,cond_false,cond_true,hm]
  | false =>
   cases timeB c.f_Time <;> try rfl
   cases p with
   | none=>rw [decide_eq_false (show ¬ ((i:Int) > 0) by unfold yiYy at hp;omega)];rfl
   | some q =>
    obtain ⟨h0,ys,hq⟩:=hp
    rw [decide_eq_true (show ((i:Int) > 0) by omega),yngy hq h0 (by omega)]
    simp only [Bool.not_true,cond_false,cond_true,bne_self_eq_false]
    cases decide (cmpG q c ≥ 0) <;> rfl
theorem z22z_is {d:List G_Segment} (hf:∀ c∈d,FineG c) (hl:d.length≤100000) (R:Type) (k:Int→Option R):z22z d k = k (yfGy d):=by
 have h:z22z_L4 ydYy ydYy.N d d (d.length:Int) 0 k (k 0) = k (ydsy none d):=z22z_loop d hf hl d NN 0 none rfl rfl (by have:=NN_ok;omega) R k
 simp only [z22z,z22z_,yfGy,h]
 cases decide ((d.length:Int) > 500) <;> rfl
end Go.Am
set_option linter.unusedVariables false
set_option linter.unusedSectionVars false
set_option linter.unusedSimpArgs false
set_option maxRecDepth 100000
namespace Go.Am
open Go Go.Proofs
variable [Fuel]
end Go.Am
set_option linter.unusedVariables false
set_option linter.unusedSectionVars false
set_option linter.unusedSimpArgs false
set_option maxRecDepth 100000
namespace Go.Am
open Go Go.Proofs
variable [Fuel]
noncomputable def nameF (c:List UInt8):Int:=bif !keyB c then 5 else 0
def outF (x lo hi e:Int):Int:=bif !inB x lo hi then e else 0
def momF (x:Int):Int:=bif momB x then 0 else 1
noncomputable def yycy (l:List G_Segment) (c:List UInt8):Int:=orL [yfGy l,nameF c]
noncomputable def yiuy (l:List G_Segment) (c:List UInt8) (hertz width mode at0:Int):Int:=orL [yycy l c,outF hertz 0 30000000000 1,outF width 1 100000 1,outF mode 1 3 4,momF at0]
noncomputable def mayR (l:List G_Segment) (c:List UInt8) (hertz width mode at0:Int):Bool:=(rowsL (permL c mode at0 [] l) []).any fun r=>decide (r.f_From≤(usedR hertz width).f_From)&&decide ((usedR hertz width).f_To≤r.f_To)
theorem yGJy {l:List G_Segment} (hf:∀ c∈l,FineG c):∀ s∈l,s.f_Modes.length≤1000:=fun s h=>(hf s h).modes
theorem yy0y {l:List G_Segment} (hf:∀ c∈l,FineG c) (hl:l.length≤400) {c:List UInt8} (hc:c∈yiKy) (hertz width mode at0:Int) (R:Type) (k:Bool→Int→Option R) :
  band_May l c hertz width mode at0 k = bif yiuy l c hertz width mode at0 != 0 then k false (yiuy l c hertz width mode at0) else k (mayR l c hertz width mode at0) 0:=by
 have hu:∀ k:G_Row→Option R,band_used hertz width k = k (usedR hertz width):=fun k=>rfl
 simp only [band_May,ymSy,ylhy,z22z_is hf (show l.length≤100000 by omega),ymCy hc,z45z_is,yhIy,z54z_is,hu,yiuy,yycy,nameF,outF,momF,orL]
 cases h1:yfGy l != 0 with
 | true=>simp only [cond_true,h1]
 | false =>
  have hz:yfGy l = 0:=by simpa using h1
  obtain ⟨p1,p2⟩:=z30z_is (yGJy hf) (yz2y hz) (show l.length≤500 by omega) c mode at0
  simp only [cond_false,p2,yKCy (show (rowsL (permL c mode at0 [] l) []).length≤100000 by omega)]
  cases keyB c <;> cases inB hertz 0 30000000000 <;> cases inB width 1 100000 <;> cases inB mode 1 3 <;> cases momB at0 <;> rfl
end Go.Am
set_option linter.unusedVariables false
set_option linter.unusedSectionVars false
set_option linter.unusedSimpArgs false
set_option maxRecDepth 100000
namespace Go.Am
open Go Go.Proofs
variable [Fuel]
def rdC1:G_Contact:=⟨0,1,[98],[107,49,97,98],0,0,[],[]⟩
def rdC2:G_Contact:=⟨5,1,[98],[107,49,97,98],0,0,[],[]⟩
theorem yGBy (R:Type) (k:List Int→Int→Option R):log_Dupes [rdC1,rdC2] k = k [1] 0:=by
 obtain ⟨m,h,rfl⟩:=yaYy ‹Fuel›
 kernel_rfl
def segR:G_Segment:=⟨[99],5,8,[1],⟨0,9⟩⟩
theorem yD0y:keyB [99] = true:=by
 obtain ⟨m,h,rfl⟩:=yaYy ‹Fuel›
 kernel_rfl
theorem yNEy (R:Type) (k:Bool→Int→Option R):band_May [segR] [99] 6 3 1 0 k = k true 0:=by
 have hf:∀ c∈[segR],FineG c:=fun c h=>by simp at h;subst h;exact ⟨by simp [segR,yiKy],by simp [segR]⟩
 have hx:yfGy [segR] = 0:=by
  simp only [yfGy,ydsy,chkG,segR,yD0y];rfl
 have hm:yiuy [segR] [99] 6 3 1 0 = 0:=by
  simp only [yiuy,yycy,nameF,hx,yD0y];rfl
 have hp:permL [99] 1 0 [] [segR] = [⟨5,8⟩]:=by rfl
 have hr:rowsL [⟨5,8⟩] [] = [⟨5,8⟩]:=ytzy (yqry _ _).1 (yeYy.2 ⟨by decide,(fun x h=>by cases h),ypjy⟩) fun n=>by rw [(yqry _ _).2];simp [cov]
 have hu:usedR 6 3 = ⟨5,8⟩:=by rfl
 have hy:mayR [segR] [99] 6 3 1 0 = true:=by
  unfold mayR
  rw [hp,hr,hu];rfl
 have h:=yy0y hf (by simp) (show ([99]:List UInt8)∈yiKy by simp [yiKy]) 6 3 1 0 R k
 rw [hm,hy] at h
 exact h
def rdE:G_Entrant:=⟨[107,49,97,98],[99],5,[]⟩
def rdP:G_Place:=⟨0,5,[107,49,97,98]⟩
theorem yFFy {α:Type} {call:CmpT α} {p:α} (h:∀ (R:Type) (k:Int→Option R),call p p k = k 0) (R:Type) (k:List α→Option R):ybOy call [p] k = k [p]:=by
 obtain ⟨ys,h1,_,h3⟩:=yh0y (call:=call) (xs:=[p]) (c:=fun _ _=>0) (by simp) (fun x hx y hy R k=>by simp at hx hy;subst hx;subst hy;exact h R k) ⟨fun _ _ _ _=>.inl (Int.le_refl _),fun _ _ _ _ _ _ _ _=>Int.le_refl _,fun _ _ _ _=>by simp⟩
 rw [h3,List.perm_singleton.1 h1]
theorem yEly {α:Type} {call:CmpT α} (R:Type) (k:List α→Option R):ybOy call [] k = k []:=by
 obtain ⟨ys,h1,_,h3⟩:=yh0y (call:=call) (xs:=[]) (c:=fun _ _=>0) (by simp) (fun x hx y hy R k=>by cases hx) ⟨fun _ _ _ _=>.inl (Int.le_refl _),fun _ _ _ _ _ _ _ _=>Int.le_refl _,fun _ _ _ _=>by simp⟩
 rw [h3,List.perm_nil.1 h1]
theorem yIqy (R:Type) (k:List G_Place→Option R):z36z [rdP] k = k [rdP]:=yFFy (call:=@z44z _) (fun R k=>by
 obtain ⟨m,h,rfl⟩:=yaYy ‹Fuel›
 kernel_rfl) R k
theorem yHny (R:Type) (k:Int→Option R):z27z [rdE] k = k 0:=by
 obtain ⟨m,h,rfl⟩:=yaYy ‹Fuel›
 kernel_rfl
theorem yNPy (R:Type) (k:Bool→Option R):kit_IsKey [99] k = k true:=by
 obtain ⟨m,h,rfl⟩:=yaYy ‹Fuel›
 kernel_rfl
theorem yEZy (R:Type) (k:List G_Place→Option R):ycuy ybky ybky.N [99] [rdE] ([rdE].length:Int) 0 [] k = k [rdP]:=by
 obtain ⟨m,h,rfl⟩:=yaYy ‹Fuel›
 kernel_rfl
theorem yGOy (R:Type) (k:List G_Place→Option R):z16z_L3 yfsy yfsy.N ([rdP].length:Int) 0 [rdP] k = k [⟨1,5,[107,49,97,98]⟩]:=by
 obtain ⟨m,h,rfl⟩:=yaYy ‹Fuel›
 kernel_rfl
theorem yHcy (R:Type) (k:List G_Place→Int→Option R):club_Table [rdE] [99] k = k [⟨1,5,[107,49,97,98]⟩] 0:=by
 have h1:∀ k:Int→Option R,ybky.z27z [rdE] k = k 0:=fun k=>yHny R k
 have h2:∀ k:Bool→Option R,ybky.kit_IsKey [99] k = k true:=fun k=>yNPy R k
 have h3:∀ k:List G_Place→Option R,ybky.z16z [rdP] k = k [⟨1,5,[107,49,97,98]⟩]:=fun k=>by
  have h4:∀ k:List G_Place→Option R,yfsy.z36z [rdP] k = k [rdP]:=fun k=>yIqy R k
  show z16z [rdP] k = _
  simp only [z16z,z16z_,h4,yGOy]
 simp only [club_Table,yjTy,h1,h2,yEZy,h3]
 rfl
def rdD:G_Deed:=⟨[97],1,0,3,⟨0,0,[],[],1,0,[],[]⟩,[],[],0⟩
theorem yGTy (R:Type) (k:Int→Option R):z65z [rdD] 0 k = k 0:=by
 obtain ⟨m,h,rfl⟩:=yaYy ‹Fuel›
 kernel_rfl
theorem yM5y:ygBy ybLy [rdD] 0 (fun z0=>some (ydRy z0)) = some (ydRy [0]):=by
 obtain ⟨m,h,rfl⟩:=yaYy ‹Fuel›
 kernel_rfl
theorem yyVy (R:Type) (k:List Int→Option R):z12z [rdD] 0 k = k [0]:=by
 unfold z12z z12z_
 rw [yM5y]
 rfl
theorem yD2y (R:Type) (e0:List (G_net_own×Bool)→List (G_Contact×G_Deed)→List G_Deed→List G_Contact→List (List UInt8)→List Int→Option R) :
  z25z_L4 ycjy ycjy.N [rdD] (([0]:List Int).length:Int) 0 [] [] [0] [] [] [] [] e0 = e0 [(⟨[97],1⟩,true)] [] [rdD] [] [] []:=by
 obtain ⟨m,h,rfl⟩:=yaYy ‹Fuel›
 kernel_rfl
theorem yCry (R:Type) (e0:List (G_net_own×Bool)→List G_Deed→List G_Contact→List (List UInt8)→List Int→Option R) :
  z25z_L25 ycjy ycjy.N (([]:List G_Contact).length:Int) 0 [(⟨[97],1⟩,true)] [] [rdD] [] [] [] e0 = e0 [(⟨[97],1⟩,true)] [rdD] [] [] []:=by
 obtain ⟨m,h,rfl⟩:=yaYy ‹Fuel›
 kernel_rfl
theorem yGMy (R:Type) (k0:Int→Option R) (k1:List G_Deed→List G_Contact→List (List UInt8)→List Int→List (G_net_own×Bool)→Int→Option R):z25z [rdD] 0 k0 k1 = k1 [rdD] [] [] [] [(⟨[97],1⟩,true)] 0:=by
 have h1:∀ k:List Int→Option R,ycjy.z12z [rdD] 0 k = k [0]:=fun k=>yyVy R k
 have h2:∀ k:List G_Contact→Option R,ycjy.z37z [] k = k []:=fun k=>yEly R k
 simp only [z25z,z25z_,h1,yD2y,h2,yCry]
 rfl
theorem yJOy (R:Type) (k:List (Int×Int)→List G_Deed→List G_Contact→List (List UInt8)→List Int→List (G_net_own×Bool)→Option R):z34z [rdD] [] [] [] [(⟨[97],1⟩,true)] k = k [] [rdD] [] [] [] [(⟨[97],1⟩,true)]:=by
 obtain ⟨m,h,rfl⟩:=yaYy ‹Fuel›
 kernel_rfl
theorem yDiy (R:Type) (k:List (Int×Int)→List G_Deed→List G_Contact→List (List UInt8)→List Int→List (G_net_own×Bool)→Option R):z8z [rdD] [] [] [] [(⟨[97],1⟩,true)] k = k [(1,1)] [rdD] [] [] [] [(⟨[97],1⟩,true)]:=by
 have h:ykzy NN [rdD] [] [] [] [(⟨[97],1⟩,true)] (fun z0 z1 z2 z3 z4 z5=>some (ygGy (z0,z1,z2,z3,z4,z5))) = some (ygGy ([(1,1)],[rdD],[],[],[],[(⟨[97],1⟩,true)])):=by
  obtain ⟨m,e,hm⟩:=yA3y
  obtain ⟨m,rfl⟩:∃ q,m = q + 1:=⟨m - 1,by omega⟩
  unfold ykzy
  rw [e,z8z_L3]
  refine yvFy (by simp) fun p hp=>?_
  simp only [picks,List.map_nil,List.mem_cons,List.not_mem_nil,or_false] at hp
  subst hp
  rw [z8z_L3,ypUy]
  kernel_rfl
 unfold z8z z8z_
 rw [h]
 rfl
theorem yGpy (R:Type) (e0:Int→Int→List (G_net_own×Bool)→List G_Deed→List G_Contact→List (List UInt8)→List Int→Option R) (e1:List (G_net_own×Bool)→List G_Deed→List G_Contact→List (List UInt8)→List Int→Option R) :
  z15z_L3 yety yety.N 1 [] [(⟨[97],1⟩,true)] [(1,1)] [rdD] [] [] [] e0 e1 = e0 2 0 [(⟨[97],1⟩,true)] [rdD] [] [] []:=by
 obtain ⟨m,h,rfl⟩:=yaYy ‹Fuel›
 kernel_rfl
theorem yI7y (R:Type) (k:Int→Int→Option R):net_Next [rdD] 0 k = k 2 0:=by
 have h1:∀ (k0:Int→Option R) (k1:List G_Deed→List G_Contact→List (List UInt8)→List Int→List (G_net_own×Bool)→Int→Option R),yiay.z81z [rdD] 0 k0 k1 = k1 [rdD] [] [] [] [(⟨[97],1⟩,true)] 0:=fun k0 k1=>by
  have h2:∀ k:Int→Option R,yssy.z65z [rdD] 0 k = k 0:=fun k=>yGTy R k
  have h3:∀ (k0:Int→Option R) (k1:List G_Deed→List G_Contact→List (List UInt8)→List Int→List (G_net_own×Bool)→Int→Option R),yssy.z25z [rdD] 0 k0 k1 = k1 [rdD] [] [] [] [(⟨[97],1⟩,true)] 0:=fun k0 k1=>yGMy R k0 k1
  show z81z [rdD] 0 k0 k1 = _
  simp only [z81z,z81z_,h2,h3]
  rfl
 have h4:∀ k:List (Int×Int)→List G_Deed→List G_Contact→List (List UInt8)→List Int→List (G_net_own×Bool)→Option R,yety.z34z [rdD] [] [] [] [(⟨[97],1⟩,true)] k = k [] [rdD] [] [] [] [(⟨[97],1⟩,true)]:=fun k=>yJOy R k
 have h5:∀ k:List (Int×Int)→List G_Deed→List G_Contact→List (List UInt8)→List Int→List (G_net_own×Bool)→Option R,yety.z8z [rdD] [] [] [] [(⟨[97],1⟩,true)] k = k [(1,1)] [rdD] [] [] [] [(⟨[97],1⟩,true)]:=fun k=>yDiy R k
 have h6:∀ k:Int→Int→List G_Deed→List G_Contact→List (List UInt8)→List Int→List (G_net_own×Bool)→Option R,yiay.z15z [rdD] [] [] [] [(⟨[97],1⟩,true)] k = k 2 0 [rdD] [] [] [] [(⟨[97],1⟩,true)]:=fun k=>by
  show z15z [rdD] [] [] [] [(⟨[97],1⟩,true)] k = _
  simp only [z15z,z15z_,h4,h5,yGpy]
 simp only [net_Next,ynwy,h1,h6]
 rfl
theorem yL1y (R:Type) (k:Int→Option R):keep_errs [0,0,0,0] k = k 0:=by
 obtain ⟨m,h,rfl⟩:=yaYy ‹Fuel›
 kernel_rfl
theorem yuOy (R:Type) (k:Bool→Option R):keep_ready k = k true:=by
 have h1:∀ k:List Int→Int→Option R,ya3y.log_Dupes [rdC1,rdC2] k = k [1] 0:=fun k=>yGBy R k
 have h2:∀ k:Bool→Int→Option R,ya3y.band_May [segR] [99] 6 3 1 0 k = k true 0:=fun k=>yNEy R k
 have h3:∀ k:List G_Place→Int→Option R,ya3y.club_Table [rdE] [99] k = k [⟨1,5,[107,49,97,98]⟩] 0:=fun k=>yHcy R k
 have h4:∀ k:Int→Int→Option R,ya3y.net_Next [rdD] 0 k = k 2 0:=fun k=>yI7y R k
 have h5:∀ k:Int→Option R,ya3y.keep_errs [0,0,0,0] k = k 0:=fun k=>yL1y R k
 show ya3y.log_Dupes [rdC1,rdC2] (fun r1 r2=>ya3y.band_May [segR] [99] 6 3 1 0 (fun r3 r4=>ya3y.club_Table [rdE] [99] (fun r5 r6=>ya3y.net_Next [rdD] 0 (fun r7 r8=>ya3y.keep_errs [r2,r4,r6,r8] (fun r9=>bif r9 == 0 then (bif ((r1.length:Int) == 1) then (bif r3 then (bif ((r5.length:Int) == 1) then k (r7 == 2) else k false) else k false) else k false) else k false))))) = k true
 rw [h1,h2,h3,h4,h5]
 rfl
end Go.Am
set_option linter.unusedVariables false
set_option linter.unusedSectionVars false
set_option linter.unusedSimpArgs false
set_option maxRecDepth 100000
namespace Go.Am
open Go Go.Proofs
variable [Fuel]
end Go.Am
