/- The plain law, in Lean alone: R4, R5, R6, R7, Y1. No condition: lemmas for the claim. -/
import Derived.Test.YtfngnnmdgfkenaaGreatDoorPlR1
set_option linter.unusedVariables false
set_option linter.unusedSectionVars false
set_option linter.unusedSimpArgs false
set_option maxRecDepth 100000
namespace Go.Am
open Go Go.Proofs
variable [Fuel]
def ybAy:List (List UInt8):=[[102,117,108,108],[115,109,97,108,108],[110,111,110,101],[],[65],[99]]
theorem yOZy:ybAy.all (fun s=>(kit_IsKey s some).isSome) = true:=by
 obtain ⟨m,h,rfl⟩:=ybpy ‹Fuel›
 kernel_rfl
theorem yhWy {s:List UInt8} (h:s ∈ ybAy) (R:Type) (k:Bool→Option R):kit_IsKey s k = k (keyB s) :=
 ymHy yaDy.na (args:=[.d (.str s)]) (F:=@kit_IsKey _ s) (fun _ _=>rfl) (yjUy (List.all_eq_true.1 yOZy s h)) R k
structure FineG (s:G_Segment):Prop where
 cls:s.f_Class ∈ ybAy
 modes:s.f_Modes.length≤1000
def cmpG (x y:G_Segment):Int:=orL [Lib.compareBytes x.f_Class y.f_Class,cmpI x.f_Low y.f_Low,cmpI x.f_High y.f_High,cmpI x.f_Time.f_From y.f_Time.f_From]
theorem z85z_is (x y:G_Segment) (R:Type) (k:Int→Option R):z85z x y k = k (cmpG x y):=by
 simp only [z85z,z85z_,yyIy,cmpG,z29z_is,ydJy]
 rw [z40z_is _ (by simp)]
theorem ymXy (a b c d e f:Int) (R:Type) (k:Int→Option R):z27z [a,b,c] [d,e,f] k = k (orL [cmpI a d,cmpI b e,cmpI c f]):=by
 obtain ⟨m,eN,hm⟩:=yiky
 obtain ⟨m,rfl⟩:∃ q,m = q + 3:=⟨m - 3,by omega⟩
 have w1:w64 (0 + 1) = ((1:Nat):Int):=yaky (by omega) (by omega)
 have w2:w64 (((1:Nat):Int) + 1) = ((2:Nat):Int):=by rw [yaky (by omega) (by omega)]; rfl
 have w3:w64 (((2:Nat):Int) + 1) = ((3:Nat):Int):=by rw [yaky (by omega) (by omega)]; rfl
 have a0:∀ {R:Type} (x y z:Int) (k:Int→Option R),get_ [x,y,z] 0 k = k x:=fun x y z k=>ycay (i:=0) rfl k
 have a1:∀ {R:Type} (x y z:Int) (k:Int→Option R),get_ [x,y,z] ((1:Nat):Int) k = k y:=fun x y z k=>ycay (i:=1) rfl k
 have a2:∀ {R:Type} (x y z:Int) (k:Int→Option R),get_ [x,y,z] ((2:Nat):Int) k = k z:=fun x y z k=>ycay (i:=2) rfl k
 have d0:decide ((0:Int) < ([a,b,c].length:Int)) = true:=rfl
 have d1:decide (((1:Nat):Int) < ([a,b,c].length:Int)) = true:=rfl
 have d2:decide (((2:Nat):Int) < ([a,b,c].length:Int)) = true:=rfl
 have d3:decide (((3:Nat):Int) < ([a,b,c].length:Int)) = false:=rfl
 have f0:decide ((0:Int) ≥ ([d,e,f].length:Int)) = false:=rfl
 have f1:decide (((1:Nat):Int) ≥ ([d,e,f].length:Int)) = false:=rfl
 have f2:decide (((2:Nat):Int) ≥ ([d,e,f].length:Int)) = false:=rfl
 have f3:decide (([a,b,c].length:Int) < ([d,e,f].length:Int)) = false:=rfl
 simp only [z27z,z27z_]
 rw [show yc0y.N = m + 3 + 1 from eN]
 simp only [z27z_L2,d0,d1,d2,d3,f0,f1,f2,f3,w1,w2,w3,a0,a1,a2,yc0y,cond_true,cond_false,z29z_is,orL]
 cases h1:cmpI a d != 0 with
 | true=>simp only [cond_true]
 | false =>
  simp only [cond_false]
  cases h2:cmpI b e != 0 with
  | true=>simp only [cond_true]
  | false =>
   simp only [cond_false]
   cases h3:cmpI c f != 0 with
   | true=>simp only [cond_true]
   | false=>simp only [cond_false]
theorem z8z_is (x y:G_Segment) (R:Type) (k:Int→Option R):z8z x y k = k (cmpG x y):=by
 simp only [z8z,z8z_,I_z8z,ymXy,yi1y,cmpG,ne_cb x.f_Class y.f_Class]
 rw [show orL [Lib.compareBytes x.f_Class y.f_Class,cmpI x.f_Low y.f_Low,cmpI x.f_High y.f_High,cmpI x.f_Time.f_From y.f_Time.f_From] = bif Lib.compareBytes x.f_Class y.f_Class != 0 then Lib.compareBytes x.f_Class y.f_Class else orL [cmpI x.f_Low y.f_Low,cmpI x.f_High y.f_High,cmpI x.f_Time.f_From y.f_Time.f_From] from rfl]
 rcases yypy x.f_Class y.f_Class with h | h | h <;> rw [h] <;> rfl
def ykIy:Option Int→List Int→Int
 | _,[]=>0
 | p,m :: ms=>bif !inB m 1 3 then 4 else match p with
  | none=>ykIy (some m) ms
  | some q=>bif decide (m≤q) then 7 else ykIy (some m) ms
def modeF (l:List Int):Int:=bif (l.length:Int) == 0 then 8 else ykIy none l
theorem z53z_loop (d:List Int) (hl:d.length≤100000):∀ (xs:List Int) (n i:Nat) (p:Option Int),d.drop i = xs→ycJy d i p→xs.length < n→∀ (R:Type) (k:Int→Option R),
  z53z_L4 ydxy n d d (d.length:Int) (i:Int) k (k 0) = k (ykIy p xs)
 | _,0,_,_,_,_,h,_,_=>by omega
 | [],n + 1,i,p,h,_,_,_,_=>by rw [z53z_L4,ya1y h]; rfl
 | c :: cs,n + 1,i,p,h,hp,hn,R,k=>by
  have h':=yaly h
  have ih:=z53z_loop d hl cs n (i + 1) (some c) h'.2.2.1 (ydly h) (by simp at hn; omega) R k
  rw [z53z_L4,yaZy h]
  simp only [ydxy] at ih
  simp only [cond_true,ybcy h,ydxy,yh1y,ykIy,yasy (show i < 4611686018427387904 by omega),ih]
  cases inB c 1 3 <;> try rfl
  cases p with
  | none=>rw [decide_eq_false (show ¬ ((i:Int) > 0) by unfold ycJy at hp; omega)]; rfl
  | some q =>
   obtain ⟨h0,ys,hq⟩:=hp
   rw [decide_eq_true (show ((i:Int) > 0) by omega),yeUy hq h0 (by omega)]
   simp only [Bool.not_true,cond_false,cond_true]
   cases decide (c≤q) <;> rfl
theorem z53z_is {d:List Int} (hl:d.length≤100000) (R:Type) (k:Int→Option R):z53z d k = k (modeF d):=by
 have h:z53z_L4 ydxy ydxy.N d d (d.length:Int) 0 k (k 0) = k (ykIy none d):=z53z_loop d hl d NN 0 none rfl rfl (by have:=NN_ok; omega) R k
 simp only [z53z,z53z_,modeF,h]
 cases (d.length:Int) == 0 <;> rfl
def timeB (w:G_Window):Bool:=decide (w.f_From ≥ 0) && (decide (w.f_From < w.f_To) && decide (w.f_To≤345686400000))
theorem ym9y (w:G_Window) (R:Type) (k:Bool→Option R):kit_IsTime w k = k (timeB w):=by
 simp only [kit_IsTime,yjIy,timeB]
 cases decide (w.f_From ≥ 0) <;> cases decide (w.f_From < w.f_To) <;> rfl
noncomputable def chkG (s:G_Segment):Int:=bif !keyB s.f_Class then 5 else bif decide (s.f_Low < 0) then 1 else bif decide (s.f_Low ≥ s.f_High) then 1 else bif decide (s.f_High > 30000000000) then 1 else bif modeF s.f_Modes != 0 then modeF s.f_Modes else bif !timeB s.f_Time then 1 else 0
noncomputable def ydny:Option G_Segment→List G_Segment→Int
 | _,[]=>0
 | p,c :: cs=>bif chkG c != 0 then chkG c else match p with
  | none=>ydny (some c) cs
  | some q=>bif decide (cmpG q c ≥ 0) then 7 else ydny (some c) cs
theorem yGiy {s:G_Segment} (h:chkG s = 0):GoodG s:=by
 unfold chkG at h
 by_cases h1:s.f_Low < 0
 ·rw [decide_eq_true h1] at h; revert h; cases keyB s.f_Class <;> simp
 ·by_cases h2:s.f_Low ≥ s.f_High
  ·rw [decide_eq_false h1,decide_eq_true h2] at h; revert h; cases keyB s.f_Class <;> simp
  ·by_cases h3:s.f_High > 30000000000
   ·rw [decide_eq_false h1,decide_eq_false h2,decide_eq_true h3] at h; revert h; cases keyB s.f_Class <;> simp
   ·exact ⟨by omega,by omega,by omega⟩
theorem ynBy:∀ (l:List G_Segment) (p:Option G_Segment),ydny p l = 0→∀ c ∈ l,GoodG c
 | [],_,_,c,h=>by cases h
 | x :: xs,p,h,c,hc=>by
  unfold ydny at h
  cases hq:chkG x != 0 with
  | true=>rw [hq] at h; simp only [cond_true] at h; rw [h] at hq; cases hq
  | false =>
   rw [hq] at h
   simp only [cond_false] at h
   have h0:chkG x = 0:=by simpa using hq
   have h2:ydny (some x) xs = 0:=by
    cases p with
    | none=>exact h
    | some q =>
     simp only at h
     cases hd:decide (cmpG q x ≥ 0) with
     | true=>rw [hd] at h; simp only [cond_true] at h; omega
     | false=>rw [hd] at h; exact h
   rcases List.mem_cons.1 hc with rfl | hc
   ·exact yGiy h0
   ·exact ynBy xs (some x) h2 c hc
noncomputable def ydcy (d:List G_Segment):Int:=bif decide ((d.length:Int) > 500) then 2 else ydny none d
theorem yqDy {l:List G_Segment} (h:ydcy l = 0):∀ c ∈ l,GoodG c:=by
 unfold ydcy at h
 cases hd:decide ((l.length:Int) > 500) with
 | true=>rw [hd] at h; simp only [cond_true] at h; omega
 | false=>rw [hd] at h; exact ynBy l none h
theorem z34z_loop (d:List G_Segment) (hf:∀ c ∈ d,FineG c) (hl:d.length≤100000):∀ (xs:List G_Segment) (n i:Nat) (p:Option G_Segment),d.drop i = xs→ycJy d i p→xs.length < n→∀ (R:Type) (k:Int→Option R),
  z34z_L4 ydFy n d d (d.length:Int) (i:Int) k (k 0) = k (ydny p xs)
 | _,0,_,_,_,_,h,_,_=>by omega
 | [],n + 1,i,p,h,_,_,_,_=>by rw [z34z_L4,ya1y h]; rfl
 | c :: cs,n + 1,i,p,h,hp,hn,R,k=>by
  have h':=yaly h
  have ih:=z34z_loop d hf hl cs n (i + 1) (some c) h'.2.2.1 (ydly h) (by simp at hn; omega) R k
  have hc:=hf c (yb6y h)
  rw [z34z_L4,yaZy h]
  simp only [ydFy] at ih
  simp only [cond_true,ybcy h,ydFy,yhWy hc.cls,z53z_is (show c.f_Modes.length≤100000 by have:=hc.modes; omega),ym9y,z85z_is,ydny,chkG,yasy (show i < 4611686018427387904 by omega),ih]
  cases keyB c.f_Class <;> cases decide (c.f_Low < 0) <;> cases decide (c.f_Low ≥ c.f_High) <;> cases decide (c.f_High > 30000000000) <;> try rfl
  cases hm:modeF c.f_Modes != 0 with
  | true=>simp only [Bool.not_true,cond_false,cond_true,hm]
  | false =>
   cases timeB c.f_Time <;> try rfl
   cases p with
   | none=>rw [decide_eq_false (show ¬ ((i:Int) > 0) by unfold ycJy at hp; omega)]; rfl
   | some q =>
    obtain ⟨h0,ys,hq⟩:=hp
    rw [decide_eq_true (show ((i:Int) > 0) by omega),yeUy hq h0 (by omega)]
    simp only [Bool.not_true,cond_false,cond_true,bne_self_eq_false]
    cases decide (cmpG q c ≥ 0) <;> rfl
theorem z34z_is {d:List G_Segment} (hf:∀ c ∈ d,FineG c) (hl:d.length≤100000) (R:Type) (k:Int→Option R):z34z d k = k (ydcy d):=by
 have h:z34z_L4 ydFy ydFy.N d d (d.length:Int) 0 k (k 0) = k (ydny none d):=z34z_loop d hf hl d NN 0 none rfl rfl (by have:=NN_ok; omega) R k
 simp only [z34z,z34z_,ydcy,h]
 cases decide ((d.length:Int) > 500) <;> rfl
end Go.Am
set_option linter.unusedVariables false
set_option linter.unusedSectionVars false
set_option linter.unusedSimpArgs false
set_option maxRecDepth 100000
namespace Go.Am
open Go Go.Proofs
variable [Fuel]
theorem z2z_modes:∀ (j n:Nat) (m:Int) (b:Int) (s:G_Stream) (ms:List Int),m + (j:Int) = 4→1≤m→j < n→SOk b s→b + (j:Int)≤1000000→ms.length + j≤10 →
  ∃ (ms':List Int) (s':G_Stream),SOk (b + (j:Int)) s'∧ms'.length≤ms.length + j∧∀ (R:Type) (v90:List UInt8) (v92 v93:Int) (v95:List (List UInt8)) (v96:List G_Segment) (v97:List UInt8) (v98 v99 v100 v101:Int) (e0:List UInt8→Int→Int→G_Stream→List (List UInt8)→List G_Segment→List UInt8→Int→Int→Int→Int→List Int→Option R),
   z2z_L10 I_z2z n v90 m v92 v93 s v95 v96 v97 v98 v99 v100 v101 ms e0 = e0 v90 v92 v93 s' v95 v96 v97 v98 v99 v100 v101 ms'
 | _,0,_,_,_,_,_,_,h,_,_,_=>by omega
 | 0,n + 1,m,b,s,ms,hm,h1,_,hs,hb,_=>⟨ms,s,hs.mono (by omega),by omega,fun R v90 v92 v93 v95 v96 v97 v98 v99 v100 v101 e0=>by rw [z2z_L10,decide_eq_false (by omega)]; rfl⟩
 | j + 1,n + 1,m,b,s,ms,hm,h1,hn,hs,hb,hl=>by
  obtain ⟨f,s1,z1,e1⟩:=z74z_gives hs 2 (by omega) (by omega)
  have hw:w64 (m + 1) = m + 1:=yaky (by omega) (by omega)
  cases f with
  | false =>
   obtain ⟨ms',s',g1,g2,g3⟩:=z2z_modes j n (m + 1) (b + 1) s1 ms (by omega) (by omega) (by omega) (z1.mono (by omega)) (by omega) (by omega)
   refine ⟨ms',s',g1.mono (by omega),by omega,fun R v90 v92 v93 v95 v96 v97 v98 v99 v100 v101 e0=>?_⟩
   rw [z2z_L10,decide_eq_true (by omega)]
   simp only [I_z2z] at g3
   simp only [I_z2z,cond_true,e1,cond_false,hw,g3]
  | true =>
   obtain ⟨ms',s',g1,g2,g3⟩:=z2z_modes j n (m + 1) (b + 1) s1 (ms ++ [m]) (by omega) (by omega) (by omega) (z1.mono (by omega)) (by omega) (by simp; omega)
   refine ⟨ms',s',g1.mono (by omega),by simp at g2; omega,fun R v90 v92 v93 v95 v96 v97 v98 v99 v100 v101 e0=>?_⟩
   rw [z2z_L10,decide_eq_true (by omega)]
   simp only [I_z2z] at g3
   simp only [I_z2z,cond_true,e1,hw,room1 ms m 8 (show ms.length≤1000000 by omega) (by omega),g3]
def clsL:List (List UInt8):=[[102,117,108,108],[102,117,108,108],[102,117,108,108],[115,109,97,108,108]]
theorem z2z_round (n i:Nat) (c:List UInt8) (hi:clsL[i]? = some c) (hc:c ∈ ybAy) (b:Int) (s:G_Stream) (out:List G_Segment) (hs:SOk b s) (hb:b≤900000) (hf:∀ x ∈ out,FineG x) (hl:out.length≤10) :
  ∃ (out':List G_Segment) (s':G_Stream),SOk (b + 40) s'∧out'.length≤out.length + 1∧(∀ x ∈ out',FineG x)∧∀ (R:Type) (e0:G_Stream→List G_Segment→Option R),z2z_L3 I_z2z (n + 1) (4:Int) (i:Int) s clsL out e0 = z2z_L3 I_z2z n (4:Int) ((i + 1:Nat):Int) s' clsL out' e0:=by
 have hi4:i < 4:=by
  rcases Nat.lt_or_ge i 4 with h | h
  ·exact h
  ·rw [List.getElem?_eq_none (by simpa [clsL] using h)] at hi; cases hi
 have w1:w64 ((i:Int) + 1) = ((i + 1:Nat):Int):=yasy (by omega)
 have hin:∀ {R:Type} (k:Option R),inr clsL (i:Int) k = k:=fun k=>ybay (by simpa [clsL] using hi4) k
 have hat:∀ {R:Type} (k:List UInt8→Option R),at_ clsL (i:Int) k = k c:=fun k=>yaXy hi k
 have rm:∀ x:G_Segment,decide ((out.length + [x].length) * 72≤yagy) = true:=fun x=>room1 out x 72 (by omega) (by omega)
 obtain ⟨f,s1,z1,e1⟩:=z74z_gives hs 5 (by omega) (by omega)
 cases f with
 | true =>
  refine ⟨out,s1,z1.mono (by omega),by omega,hf,fun R e0=>?_⟩
  rw [z2z_L3,decide_eq_true (by omega)]
  simp only [I_z2z,cond_true,hin,hat,e1,w1]
 | false =>
  obtain ⟨lo,s2,_,z2,e2⟩:=z79z_gives z1 [0,100,150,200] (by omega) (by simp) (by simp)
  obtain ⟨fr,s3,_,z3,e3⟩:=z79z_gives z2 [0,0,50] (by omega) (by simp) (by simp)
  obtain ⟨hi,s4,_,z4,e4⟩:=z79z_gives z3 [20,50,100] (by omega) (by simp) (by simp)
  obtain ⟨to,s5,_,z5,e5⟩:=z79z_gives z4 [50,1000] (by omega) (by simp) (by simp)
  obtain ⟨ms,s6,z6,hms,e6⟩:=z2z_modes 3 NN 1 (b + 1 + 1 + 1 + 1 + 1) s5 [] (by omega) (by omega) (by have:=NN_ok; omega) z5 (by omega) (by simp)
  have hms':ms.length≤3:=by simpa using hms
  have e6':∀ (R:Type) (v90:List UInt8) (v92 v93:Int) (v95:List (List UInt8)) (v96:List G_Segment) (v97:List UInt8) (v98 v99 v100 v101:Int) (e0:List UInt8→Int→Int→G_Stream→List (List UInt8)→List G_Segment→List UInt8→Int→Int→Int→Int→List Int→Option R),
   z2z_L10 I_z2z I_z2z.N v90 1 v92 v93 s5 v95 v96 v97 v98 v99 v100 v101 [] e0 = e0 v90 v92 v93 s6 v95 v96 v97 v98 v99 v100 v101 ms:=e6
  simp only [I_z2z] at e6'
  have hstart:∀ (R:Type) (e0:G_Stream→List G_Segment→Option R),z2z_L3 I_z2z (n + 1) (4:Int) (i:Int) s clsL out e0 = z2z_L3 I_z2z (n + 1) (4:Int) (i:Int) s clsL out e0:=fun R e0=>rfl
  cases ms with
  | nil =>
   obtain ⟨f2,s7,z7,e7⟩:=z74z_gives z6 50 (by omega) (by omega)
   cases f2 with
   | false =>
    refine ⟨out ++ [⟨c,lo,w64 (lo + hi),[1],⟨fr,w64 (fr + to)⟩⟩],s7,z7.mono (by omega),by simp,fun x hx=>?_,fun R e0=>?_⟩
    ·rcases List.mem_append.1 hx with hx | hx
     ·exact hf x hx
     ·simp at hx; rw [hx]; exact ⟨hc,by show ([1]:List Int).length≤1000; simp⟩
    ·rw [hstart]; simp only [z2z_L3,I_z2z,decide_eq_true (show (i:Int) < 4 by omega),hin,hat,e1,e2,e3,e4,e5,e6',w1,show ((([]:List Int).length:Int) == 0) = true from rfl,cond_true,cond_false,e7,rm]
   | true =>
    obtain ⟨r,s8,r1,r2,z8,e8⟩:=z82z_gives z7 4 (by omega) (by omega)
    have r3:=r2 (by omega)
    by_cases h0:r = 0
    ·obtain ⟨cl,s9,hcl,z9,e9⟩:=z83z_gives z8 [c,[],[65]] (by omega) (by simp) (by simp)
     obtain ⟨x1,t1,x11,x12,y1,f1⟩:=yaBy z9 0 300 (by omega) (by omega) (by omega) (by omega) (by omega)
     refine ⟨out ++ [⟨cl,x1,w64 (lo + hi),[1],⟨fr,w64 (fr + to)⟩⟩],t1,y1.mono (by omega),by simp,fun x hx=>?_,fun R e0=>?_⟩
     ·rcases List.mem_append.1 hx with hx | hx
      ·exact hf x hx
      ·simp at hx; rw [hx]
       refine ⟨?_,by show ([1]:List Int).length≤1000; simp⟩
       simp only [List.mem_cons,List.not_mem_nil,or_false] at hcl
       rcases hcl with rfl | rfl | rfl
       ·exact hc
       ·simp [ybAy]
       ·simp [ybAy]
     ·rw [hstart]; simp only [z2z_L3,I_z2z,decide_eq_true (show (i:Int) < 4 by omega),hin,hat,e1,e2,e3,e4,e5,e6',w1,show ((([]:List Int).length:Int) == 0) = true from rfl,cond_true,cond_false,e7,e8,h0,beq_self_eq_true,e9,f1,rm]
    ·by_cases h1:r = 1
     ·obtain ⟨x1,t1,x11,x12,y1,f1⟩:=yaBy z8 1 30000000000 (by omega) (by omega) (by omega) (by omega) (by omega)
      refine ⟨out ++ [⟨c,lo,x1,[1],⟨fr,w64 (fr + to)⟩⟩],t1,y1.mono (by omega),by simp,fun x hx=>?_,fun R e0=>?_⟩
      ·rcases List.mem_append.1 hx with hx | hx
       ·exact hf x hx
       ·simp at hx; rw [hx]; exact ⟨hc,by show ([1]:List Int).length≤1000; simp⟩
      ·rw [hstart]; simp only [z2z_L3,I_z2z,decide_eq_true (show (i:Int) < 4 by omega),hin,hat,e1,e2,e3,e4,e5,e6',w1,show ((([]:List Int).length:Int) == 0) = true from rfl,cond_true,cond_false,e7,e8,h1,show ((1:Int) == 0) = false from rfl,beq_self_eq_true,f1,rm]
     ·by_cases h2:r = 2
      ·obtain ⟨md,s9,hmd,z9,e9⟩:=z79z_gives z8 [0,1,3,4] (by omega) (by simp) (by simp)
       have rms:decide ((([1]:List Int).length + [md].length) * 8≤yagy) = true:=room1 _ md 8 (by show ([1]:List Int).length≤1000000; simp) (by omega)
       refine ⟨out ++ [⟨c,lo,w64 (lo + hi),[1] ++ [md],⟨fr,w64 (fr + to)⟩⟩],s9,z9.mono (by omega),by simp,fun x hx=>?_,fun R e0=>?_⟩
       ·rcases List.mem_append.1 hx with hx | hx
        ·exact hf x hx
        ·simp at hx; rw [hx]; exact ⟨hc,by show (([1]:List Int) ++ [md]).length≤1000; simp⟩
       ·rw [hstart]; simp only [z2z_L3,I_z2z,decide_eq_true (show (i:Int) < 4 by omega),hin,hat,e1,e2,e3,e4,e5,e6',w1,show ((([]:List Int).length:Int) == 0) = true from rfl,cond_true,cond_false,e7,e8,h2,show ((2:Int) == 0) = false from rfl,show ((2:Int) == 1) = false from rfl,beq_self_eq_true,e9,rm]
        exact congrArg (fun b:Bool=>bif b then _ else none) rms
      ·obtain ⟨x1,t1,x11,x12,y1,f1⟩:=yaBy z8 0 100 (by omega) (by omega) (by omega) (by omega) (by omega)
       obtain ⟨x2,t2,x21,x22,y2,f2⟩:=yaBy y1 1 345686400000 (by omega) (by omega) (by omega) (by omega) (by omega)
       refine ⟨out ++ [⟨c,lo,w64 (lo + hi),[1],⟨x1,x2⟩⟩],t2,y2.mono (by omega),by simp,fun x hx=>?_,fun R e0=>?_⟩
       ·rcases List.mem_append.1 hx with hx | hx
        ·exact hf x hx
        ·simp at hx; rw [hx]; exact ⟨hc,by show ([1]:List Int).length≤1000; simp⟩
       ·rw [hstart]; simp only [z2z_L3,I_z2z,decide_eq_true (show (i:Int) < 4 by omega),hin,hat,e1,e2,e3,e4,e5,e6',w1,show ((([]:List Int).length:Int) == 0) = true from rfl,cond_true,cond_false,e7,e8,show (r == 0) = false by simp [h0],show (r == 1) = false by simp [h1],show (r == 2) = false by simp [h2],f1,f2,rm]
  | cons m0 mt =>
   obtain ⟨f2,s7,z7,e7⟩:=z74z_gives z6 50 (by omega) (by omega)
   cases f2 with
   | false =>
    refine ⟨out ++ [⟨c,lo,w64 (lo + hi),(m0 :: mt),⟨fr,w64 (fr + to)⟩⟩],s7,z7.mono (by omega),by simp,fun x hx=>?_,fun R e0=>?_⟩
    ·rcases List.mem_append.1 hx with hx | hx
     ·exact hf x hx
     ·simp at hx; rw [hx]; exact ⟨hc,by show (m0 :: mt).length≤1000; omega⟩
    ·rw [hstart]; simp only [z2z_L3,I_z2z,decide_eq_true (show (i:Int) < 4 by omega),hin,hat,e1,e2,e3,e4,e5,e6',w1,show (((m0 :: mt).length:Int) == 0) = false by simp <;> omega,cond_true,cond_false,e7,rm]
   | true =>
    obtain ⟨r,s8,r1,r2,z8,e8⟩:=z82z_gives z7 4 (by omega) (by omega)
    have r3:=r2 (by omega)
    by_cases h0:r = 0
    ·obtain ⟨cl,s9,hcl,z9,e9⟩:=z83z_gives z8 [c,[],[65]] (by omega) (by simp) (by simp)
     obtain ⟨x1,t1,x11,x12,y1,f1⟩:=yaBy z9 0 300 (by omega) (by omega) (by omega) (by omega) (by omega)
     refine ⟨out ++ [⟨cl,x1,w64 (lo + hi),(m0 :: mt),⟨fr,w64 (fr + to)⟩⟩],t1,y1.mono (by omega),by simp,fun x hx=>?_,fun R e0=>?_⟩
     ·rcases List.mem_append.1 hx with hx | hx
      ·exact hf x hx
      ·simp at hx; rw [hx]
       refine ⟨?_,by show (m0 :: mt).length≤1000; omega⟩
       simp only [List.mem_cons,List.not_mem_nil,or_false] at hcl
       rcases hcl with rfl | rfl | rfl
       ·exact hc
       ·simp [ybAy]
       ·simp [ybAy]
     ·rw [hstart]; simp only [z2z_L3,I_z2z,decide_eq_true (show (i:Int) < 4 by omega),hin,hat,e1,e2,e3,e4,e5,e6',w1,show (((m0 :: mt).length:Int) == 0) = false by simp <;> omega,cond_true,cond_false,e7,e8,h0,beq_self_eq_true,e9,f1,rm]
    ·by_cases h1:r = 1
     ·obtain ⟨x1,t1,x11,x12,y1,f1⟩:=yaBy z8 1 30000000000 (by omega) (by omega) (by omega) (by omega) (by omega)
      refine ⟨out ++ [⟨c,lo,x1,(m0 :: mt),⟨fr,w64 (fr + to)⟩⟩],t1,y1.mono (by omega),by simp,fun x hx=>?_,fun R e0=>?_⟩
      ·rcases List.mem_append.1 hx with hx | hx
       ·exact hf x hx
       ·simp at hx; rw [hx]; exact ⟨hc,by show (m0 :: mt).length≤1000; omega⟩
      ·rw [hstart]; simp only [z2z_L3,I_z2z,decide_eq_true (show (i:Int) < 4 by omega),hin,hat,e1,e2,e3,e4,e5,e6',w1,show (((m0 :: mt).length:Int) == 0) = false by simp <;> omega,cond_true,cond_false,e7,e8,h1,show ((1:Int) == 0) = false from rfl,beq_self_eq_true,f1,rm]
     ·by_cases h2:r = 2
      ·obtain ⟨md,s9,hmd,z9,e9⟩:=z79z_gives z8 [0,1,3,4] (by omega) (by simp) (by simp)
       have rms:decide ((((m0 :: mt):List Int).length + [md].length) * 8≤yagy) = true:=room1 _ md 8 (by show (m0 :: mt).length≤1000000; omega) (by omega)
       refine ⟨out ++ [⟨c,lo,w64 (lo + hi),(m0 :: mt) ++ [md],⟨fr,w64 (fr + to)⟩⟩],s9,z9.mono (by omega),by simp,fun x hx=>?_,fun R e0=>?_⟩
       ·rcases List.mem_append.1 hx with hx | hx
        ·exact hf x hx
        ·simp at hx; rw [hx]; exact ⟨hc,by show ((m0 :: mt) ++ [md]).length≤1000; simp only [List.length_append,List.length_singleton]; omega⟩
       ·rw [hstart]; simp only [z2z_L3,I_z2z,decide_eq_true (show (i:Int) < 4 by omega),hin,hat,e1,e2,e3,e4,e5,e6',w1,show (((m0 :: mt).length:Int) == 0) = false by simp <;> omega,cond_true,cond_false,e7,e8,h2,show ((2:Int) == 0) = false from rfl,show ((2:Int) == 1) = false from rfl,beq_self_eq_true,e9,rms,rm]
      ·obtain ⟨x1,t1,x11,x12,y1,f1⟩:=yaBy z8 0 100 (by omega) (by omega) (by omega) (by omega) (by omega)
       obtain ⟨x2,t2,x21,x22,y2,f2⟩:=yaBy y1 1 345686400000 (by omega) (by omega) (by omega) (by omega) (by omega)
       refine ⟨out ++ [⟨c,lo,w64 (lo + hi),(m0 :: mt),⟨x1,x2⟩⟩],t2,y2.mono (by omega),by simp,fun x hx=>?_,fun R e0=>?_⟩
       ·rcases List.mem_append.1 hx with hx | hx
        ·exact hf x hx
        ·simp at hx; rw [hx]; exact ⟨hc,by show (m0 :: mt).length≤1000; omega⟩
       ·rw [hstart]; simp only [z2z_L3,I_z2z,decide_eq_true (show (i:Int) < 4 by omega),hin,hat,e1,e2,e3,e4,e5,e6',w1,show (((m0 :: mt).length:Int) == 0) = false by simp <;> omega,cond_true,cond_false,e7,e8,show (r == 0) = false by simp [h0],show (r == 1) = false by simp [h1],show (r == 2) = false by simp [h2],f1,f2,rm]
theorem z8z_loop (n:Nat) (b:Int) (s:G_Stream) (hs:SOk b s) (hb:b≤100000) (hn:10≤n) :
  ∃ (out':List G_Segment) (s':G_Stream),SOk (b + 160) s'∧out'.length≤4∧(∀ x ∈ out',FineG x)∧∀ (R:Type) (e0:G_Stream→List G_Segment→Option R),z2z_L3 I_z2z n (4:Int) 0 s clsL [] e0 = e0 s' out':=by
 obtain ⟨n,rfl⟩:∃ q,n = q + 1 + 1 + 1 + 1 + 1:=⟨n - 5,by omega⟩
 obtain ⟨o1,s1,z1,l1,f1,e1⟩:=z2z_round (n + 1 + 1 + 1 + 1) 0 _ rfl (by simp [ybAy]) b s [] hs (by omega) (fun x h=>by cases h) (by simp)
 obtain ⟨o2,s2,z2,l2,f2,e2⟩:=z2z_round (n + 1 + 1 + 1) 1 _ rfl (by simp [ybAy]) _ s1 o1 z1 (by omega) f1 (by simp at l1; omega)
 obtain ⟨o3,s3,z3,l3,f3,e3⟩:=z2z_round (n + 1 + 1) 2 _ rfl (by simp [ybAy]) _ s2 o2 z2 (by omega) f2 (by simp at l1; omega)
 obtain ⟨o4,s4,z4,l4,f4,e4⟩:=z2z_round (n + 1) 3 _ rfl (by simp [ybAy]) _ s3 o3 z3 (by omega) f3 (by simp at l1; omega)
 refine ⟨o4,s4,z4.mono (by omega),by simp at l1; omega,f4,fun R e0=>?_⟩
 have e1':∀ e0:G_Stream→List G_Segment→Option R,z2z_L3 I_z2z (n + 1 + 1 + 1 + 1 + 1) (4:Int) 0 s clsL [] e0 = _:=fun e0=>e1 R e0
 rw [e1',e2,e3,e4,z2z_L3]
 rfl
theorem z2z_gives {b:Int} {s:G_Stream} (hs:SOk b s) (hb:b≤100000) :
  ∃ (r:List G_Segment) (s':G_Stream),SOk (b + 160) s'∧r.length≤4∧(∀ c ∈ r,FineG c)∧∀ (R:Type) (k:List G_Segment→G_Stream→Option R),z2z s k = k r s':=by
 obtain ⟨r,s',g1,g2,g3,g4⟩:=z8z_loop NN b s hs hb (by have:=NN_ok; omega)
 have g4':∀ (R:Type) (e0:G_Stream→List G_Segment→Option R),z2z_L3 I_z2z I_z2z.N (([[102,117,108,108],[102,117,108,108],[102,117,108,108],[115,109,97,108,108]]:List (List UInt8)).length:Int) 0 s [[102,117,108,108],[102,117,108,108],[102,117,108,108],[115,109,97,108,108]] [] e0 = e0 s' r:=g4
 refine ⟨sortI cmpG r,s',g1,by rw [ybPy]; exact g2,fun c h=>g3 c (yjty.1 h),fun R k=>?_⟩
 have hsort:∀ k:List G_Segment→Option R,z28z r k = k (sortI cmpG r):=fun k=>by
  simp only [z28z,z28z_,yzTy,yRKy]
  exact yuGy cmpG (fun _=>True) (fun x y _ _=>z8z_is x y) r (fun _ _=>trivial) (by omega) (by have:=NN_ok; omega) (by have:=NN_ok; omega) _ (fun l a b R k=>by rw [yRLy]) k
 refine Eq.trans (g4' R (fun e151 e152=>z28z e152 fun r153=>k r153 e151)) (hsort _)
end Go.Am
set_option linter.unusedVariables false
set_option linter.unusedSectionVars false
set_option linter.unusedSimpArgs false
set_option maxRecDepth 100000
namespace Go.Am
open Go Go.Proofs
variable [Fuel]
noncomputable def nameF (c:List UInt8):Int:=bif !keyB c then 5 else 0
def outF (x lo hi e:Int):Int:=bif !inB x lo hi then e else 0
def momF (x:Int):Int:=bif momB x then 0 else 1
noncomputable def yzey (l:List G_Segment) (c:List UInt8):Int:=orL [ydcy l,nameF c]
noncomputable def yiEy (l:List G_Segment) (c:List UInt8) (hertz width mode at0:Int):Int:=orL [yzey l c,outF hertz 0 30000000000 1,outF width 1 100000 1,outF mode 1 3 4,momF at0]
noncomputable def mayR (l:List G_Segment) (c:List UInt8) (hertz width mode at0:Int):Bool:=(rowsL (permL c mode at0 [] l) []).any fun r=>decide (r.f_From≤(usedR hertz width).f_From) && decide ((usedR hertz width).f_To≤r.f_To)
theorem yz6y {l:List G_Segment} (hf:∀ c ∈ l,FineG c):∀ s ∈ l,s.f_Modes.length≤1000:=fun s h=>(hf s h).modes
theorem yB9y {l:List G_Segment} (hf:∀ c ∈ l,FineG c) (hl:l.length≤400) {c:List UInt8} (hc:c ∈ ybAy) (hertz width mode at0:Int) (R:Type) (k:Bool→Int→Option R) :
  band_May l c hertz width mode at0 k = bif yiEy l c hertz width mode at0 != 0 then k false (yiEy l c hertz width mode at0) else k (mayR l c hertz width mode at0) 0:=by
 have hu:∀ k:G_Row→Option R,band_used hertz width k = k (usedR hertz width):=fun k=>rfl
 simp only [band_May,yory,ymhy,z34z_is hf (show l.length≤100000 by omega),yhWy hc,z48z_is,yh1y,z71z_is,hu,yiEy,yzey,nameF,outF,momF,orL]
 cases h1:ydcy l != 0 with
 | true=>simp only [cond_true,h1]
 | false =>
  have hz:ydcy l = 0:=by simpa using h1
  obtain ⟨p1,p2⟩:=z47z_is (yz6y hf) (yqDy hz) (show l.length≤500 by omega) c mode at0
  simp only [cond_false,p2,yMEy (show (rowsL (permL c mode at0 [] l) []).length≤100000 by omega)]
  cases keyB c <;> cases inB hertz 0 30000000000 <;> cases inB width 1 100000 <;> cases inB mode 1 3 <;> cases momB at0 <;> rfl
end Go.Am
set_option linter.unusedVariables false
set_option linter.unusedSectionVars false
set_option linter.unusedSimpArgs false
set_option maxRecDepth 100000
namespace Go.Am
open Go Go.Proofs
variable [Fuel]
theorem yDby (x:Int):x = 0 ∨ ((x != 0) = true∧(x == 0) = false):=by
 by_cases h:x = 0
 ·exact .inl h
 ·exact .inr ⟨by simp [h],by simp [h]⟩
end Go.Am
set_option linter.unusedVariables false
set_option linter.unusedSectionVars false
set_option linter.unusedSimpArgs false
set_option maxRecDepth 100000
namespace Go.Am
open Go Go.Proofs
variable [Fuel]
def rdC1:G_Contact:=⟨0,1,[98],[107,49,97,98],0,0,[],[]⟩
def rdC2:G_Contact:=⟨5,1,[98],[107,49,97,98],0,0,[],[]⟩
theorem yIMy (R:Type) (k:List Int→Int→Option R):log_Dupes [rdC1,rdC2] k = k [1] 0:=by
 obtain ⟨m,h,rfl⟩:=ybpy ‹Fuel›
 kernel_rfl
def segR:G_Segment:=⟨[99],5,8,[1],⟨0,9⟩⟩
theorem yGjy:keyB [99] = true:=by
 obtain ⟨m,h,rfl⟩:=ybpy ‹Fuel›
 kernel_rfl
theorem yQ2y (R:Type) (k:Bool→Int→Option R):band_May [segR] [99] 6 3 1 0 k = k true 0:=by
 have hf:∀ c ∈ [segR],FineG c:=fun c h=>by simp at h; subst h; exact ⟨by simp [segR,ybAy],by simp [segR]⟩
 have hx:ydcy [segR] = 0:=by
  simp only [ydcy,ydny,chkG,segR,yGjy]; rfl
 have hm:yiEy [segR] [99] 6 3 1 0 = 0:=by
  simp only [yiEy,yzey,nameF,hx,yGjy]; rfl
 have hp:permL [99] 1 0 [] [segR] = [⟨5,8⟩]:=by rfl
 have hr:rowsL [⟨5,8⟩] [] = [⟨5,8⟩]:=ypky (ygAy _ _).1 (ycwy.2 ⟨by decide,(fun x h=>by cases h),yioy⟩) fun n=>by rw [(ygAy _ _).2]; simp [cov]
 have hu:usedR 6 3 = ⟨5,8⟩:=by rfl
 have hy:mayR [segR] [99] 6 3 1 0 = true:=by
  unfold mayR
  rw [hp,hr,hu]; rfl
 have h:=yB9y hf (by simp) (show ([99]:List UInt8) ∈ ybAy by simp [ybAy]) 6 3 1 0 R k
 rw [hm,hy] at h
 exact h
def rdE:G_Entrant:=⟨[107,49,97,98],[99],5,[]⟩
def rdP:G_Place:=⟨0,5,[107,49,97,98]⟩
theorem yGSy {α:Type} {call:CmpT α} {p:α} (h:∀ (R:Type) (k:Int→Option R),call p p k = k 0) (R:Type) (k:List α→Option R):ybwy call [p] k = k [p]:=by
 obtain ⟨ys,h1,_,h3⟩:=yijy (call:=call) (xs:=[p]) (c:=fun _ _=>0) (by simp) (fun x hx y hy R k=>by simp at hx hy; subst hx; subst hy; exact h R k) ⟨fun _ _ _ _=>.inl (Int.le_refl _),fun _ _ _ _ _ _ _ _=>Int.le_refl _,fun _ _ _ _=>by simp⟩
 rw [h3,List.perm_singleton.1 h1]
theorem yHsy {α:Type} {call:CmpT α} (R:Type) (k:List α→Option R):ybwy call [] k = k []:=by
 obtain ⟨ys,h1,_,h3⟩:=yijy (call:=call) (xs:=[]) (c:=fun _ _=>0) (by simp) (fun x hx y hy R k=>by cases hx) ⟨fun _ _ _ _=>.inl (Int.le_refl _),fun _ _ _ _ _ _ _ _=>Int.le_refl _,fun _ _ _ _=>by simp⟩
 rw [h3,List.perm_nil.1 h1]
theorem yOXy (R:Type) (k:List G_Place→Option R):z60z [rdP] k = k [rdP]:=yGSy (call:=@z70z _) (fun R k=>by
 obtain ⟨m,h,rfl⟩:=ybpy ‹Fuel›
 kernel_rfl) R k
theorem yJ2y (R:Type) (k:Int→Option R):z52z [rdE] k = k 0:=by
 obtain ⟨m,h,rfl⟩:=ybpy ‹Fuel›
 kernel_rfl
theorem yRgy (R:Type) (k:Bool→Option R):kit_IsKey [99] k = k true:=by
 obtain ⟨m,h,rfl⟩:=ybpy ‹Fuel›
 kernel_rfl
theorem yIzy (R:Type) (k:List G_Place→Option R):yccy ybey ybey.N [99] [rdE] ([rdE].length:Int) 0 [] k = k [rdP]:=by
 obtain ⟨m,h,rfl⟩:=ybpy ‹Fuel›
 kernel_rfl
theorem yKmy (R:Type) (k:List G_Place→Option R):z33z_L3 yfjy yfjy.N ([rdP].length:Int) 0 [rdP] k = k [⟨1,5,[107,49,97,98]⟩]:=by
 obtain ⟨m,h,rfl⟩:=ybpy ‹Fuel›
 kernel_rfl
theorem yKby (R:Type) (k:List G_Place→Int→Option R):club_Table [rdE] [99] k = k [⟨1,5,[107,49,97,98]⟩] 0:=by
 have h1:∀ k:Int→Option R,ybey.z52z [rdE] k = k 0:=fun k=>yJ2y R k
 have h2:∀ k:Bool→Option R,ybey.kit_IsKey [99] k = k true:=fun k=>yRgy R k
 have h3:∀ k:List G_Place→Option R,ybey.z33z [rdP] k = k [⟨1,5,[107,49,97,98]⟩]:=fun k=>by
  have h4:∀ k:List G_Place→Option R,yfjy.z60z [rdP] k = k [rdP]:=fun k=>yOXy R k
  show z33z [rdP] k = _
  simp only [z33z,z33z_,h4,yKmy]
 simp only [club_Table,yjOy,h1,h2,yIzy,h3]
 rfl
def rdD:G_Deed:=⟨[97],1,0,3,⟨0,0,[],[],1,0,[],[]⟩,[],[],0⟩
theorem yLoy (R:Type) (k:Int→Option R):z110z [rdD] 0 k = k 0:=by
 obtain ⟨m,h,rfl⟩:=ybpy ‹Fuel›
 kernel_rfl
theorem yQAy:ylzy ydzy [rdD] 0 (fun z0=>some (yeZy z0)) = some (yeZy [0]):=by
 obtain ⟨m,h,rfl⟩:=ybpy ‹Fuel›
 kernel_rfl
theorem yBvy (R:Type) (k:List Int→Option R):z36z [rdD] 0 k = k [0]:=by
 unfold z36z z36z_
 rw [yQAy]
 rfl
theorem yIdy (R:Type) (e0:List (G_net_own×Bool)→List (G_Contact×G_Deed)→List G_Deed→List G_Contact→List (List UInt8)→List Int→Option R) :
  z50z_L4 yb4y yb4y.N [rdD] (([0]:List Int).length:Int) 0 [] [] [0] [] [] [] [] e0 = e0 [(⟨[97],1⟩,true)] [] [rdD] [] [] []:=by
 obtain ⟨m,h,rfl⟩:=ybpy ‹Fuel›
 kernel_rfl
theorem yFqy (R:Type) (e0:List (G_net_own×Bool)→List G_Deed→List G_Contact→List (List UInt8)→List Int→Option R) :
  z50z_L25 yb4y yb4y.N (([]:List G_Contact).length:Int) 0 [(⟨[97],1⟩,true)] [] [rdD] [] [] [] e0 = e0 [(⟨[97],1⟩,true)] [rdD] [] [] []:=by
 obtain ⟨m,h,rfl⟩:=ybpy ‹Fuel›
 kernel_rfl
theorem yKKy (R:Type) (k0:Int→Option R) (k1:List G_Deed→List G_Contact→List (List UInt8)→List Int→List (G_net_own×Bool)→Int→Option R):z50z [rdD] 0 k0 k1 = k1 [rdD] [] [] [] [(⟨[97],1⟩,true)] 0:=by
 have h1:∀ k:List Int→Option R,yb4y.z36z [rdD] 0 k = k [0]:=fun k=>yBvy R k
 have h2:∀ k:List G_Contact→Option R,yb4y.z61z [] k = k []:=fun k=>yHsy R k
 simp only [z50z,z50z_,h1,yIdy,h2,yFqy]
 rfl
theorem yN3y (R:Type) (k:List (Int×Int)→List G_Deed→List G_Contact→List (List UInt8)→List Int→List (G_net_own×Bool)→Option R):z57z [rdD] [] [] [] [(⟨[97],1⟩,true)] k = k [] [rdD] [] [] [] [(⟨[97],1⟩,true)]:=by
 obtain ⟨m,h,rfl⟩:=ybpy ‹Fuel›
 kernel_rfl
theorem yFGy (R:Type) (k:List (Int×Int)→List G_Deed→List G_Contact→List (List UInt8)→List Int→List (G_net_own×Bool)→Option R):z21z [rdD] [] [] [] [(⟨[97],1⟩,true)] k = k [(1,1)] [rdD] [] [] [] [(⟨[97],1⟩,true)]:=by
 have h:yi4y NN [rdD] [] [] [] [(⟨[97],1⟩,true)] (fun z0 z1 z2 z3 z4 z5=>some (yeXy (z0,z1,z2,z3,z4,z5))) = some (yeXy ([(1,1)],[rdD],[],[],[],[(⟨[97],1⟩,true)])):=by
  obtain ⟨m,e,hm⟩:=yiky
  obtain ⟨m,rfl⟩:∃ q,m = q + 1:=⟨m - 1,by omega⟩
  unfold yi4y
  rw [e,z21z_L3]
  refine yyjy (by simp) fun p hp=>?_
  simp only [picks,List.map_nil,List.mem_cons,List.not_mem_nil,or_false] at hp
  subst hp
  rw [z21z_L3,yqvy]
  kernel_rfl
 unfold z21z z21z_
 rw [h]
 rfl
theorem yJzy (R:Type) (e0:Int→Int→List (G_net_own×Bool)→List G_Deed→List G_Contact→List (List UInt8)→List Int→Option R) (e1:List (G_net_own×Bool)→List G_Deed→List G_Contact→List (List UInt8)→List Int→Option R) :
  z32z_L3 yegy yegy.N 1 [] [(⟨[97],1⟩,true)] [(1,1)] [rdD] [] [] [] e0 e1 = e0 2 0 [(⟨[97],1⟩,true)] [rdD] [] [] []:=by
 obtain ⟨m,h,rfl⟩:=ybpy ‹Fuel›
 kernel_rfl
theorem yNRy (R:Type) (k:Int→Int→Option R):net_Next [rdD] 0 k = k 2 0:=by
 have h1:∀ (k0:Int→Option R) (k1:List G_Deed→List G_Contact→List (List UInt8)→List Int→List (G_net_own×Bool)→Int→Option R),yiby.z106z [rdD] 0 k0 k1 = k1 [rdD] [] [] [] [(⟨[97],1⟩,true)] 0:=fun k0 k1=>by
  have h2:∀ k:Int→Option R,ypTy.z110z [rdD] 0 k = k 0:=fun k=>yLoy R k
  have h3:∀ (k0:Int→Option R) (k1:List G_Deed→List G_Contact→List (List UInt8)→List Int→List (G_net_own×Bool)→Int→Option R),ypTy.z50z [rdD] 0 k0 k1 = k1 [rdD] [] [] [] [(⟨[97],1⟩,true)] 0:=fun k0 k1=>yKKy R k0 k1
  show z106z [rdD] 0 k0 k1 = _
  simp only [z106z,z106z_,h2,h3]
  rfl
 have h4:∀ k:List (Int×Int)→List G_Deed→List G_Contact→List (List UInt8)→List Int→List (G_net_own×Bool)→Option R,yegy.z57z [rdD] [] [] [] [(⟨[97],1⟩,true)] k = k [] [rdD] [] [] [] [(⟨[97],1⟩,true)]:=fun k=>yN3y R k
 have h5:∀ k:List (Int×Int)→List G_Deed→List G_Contact→List (List UInt8)→List Int→List (G_net_own×Bool)→Option R,yegy.z21z [rdD] [] [] [] [(⟨[97],1⟩,true)] k = k [(1,1)] [rdD] [] [] [] [(⟨[97],1⟩,true)]:=fun k=>yFGy R k
 have h6:∀ k:Int→Int→List G_Deed→List G_Contact→List (List UInt8)→List Int→List (G_net_own×Bool)→Option R,yiby.z32z [rdD] [] [] [] [(⟨[97],1⟩,true)] k = k 2 0 [rdD] [] [] [] [(⟨[97],1⟩,true)]:=fun k=>by
  show z32z [rdD] [] [] [] [(⟨[97],1⟩,true)] k = _
  simp only [z32z,z32z_,h4,h5,yJzy]
 simp only [net_Next,yn6y,h1,h6]
 rfl
theorem yPyy (R:Type) (k:Int→Option R):keep_errs [0,0,0,0] k = k 0:=by
 obtain ⟨m,h,rfl⟩:=ybpy ‹Fuel›
 kernel_rfl
theorem yw3y (R:Type) (k:Bool→Option R):keep_ready k = k true:=by
 have h1:∀ k:List Int→Int→Option R,ya0y.log_Dupes [rdC1,rdC2] k = k [1] 0:=fun k=>yIMy R k
 have h2:∀ k:Bool→Int→Option R,ya0y.band_May [segR] [99] 6 3 1 0 k = k true 0:=fun k=>yQ2y R k
 have h3:∀ k:List G_Place→Int→Option R,ya0y.club_Table [rdE] [99] k = k [⟨1,5,[107,49,97,98]⟩] 0:=fun k=>yKby R k
 have h4:∀ k:Int→Int→Option R,ya0y.net_Next [rdD] 0 k = k 2 0:=fun k=>yNRy R k
 have h5:∀ k:Int→Option R,ya0y.keep_errs [0,0,0,0] k = k 0:=fun k=>yPyy R k
 show ya0y.log_Dupes [rdC1,rdC2] (fun r1 r2=>ya0y.band_May [segR] [99] 6 3 1 0 (fun r3 r4=>ya0y.club_Table [rdE] [99] (fun r5 r6=>ya0y.net_Next [rdD] 0 (fun r7 r8=>ya0y.keep_errs [r2,r4,r6,r8] (fun r9=>bif r9 == 0 then (bif ((r1.length:Int) == 1) then (bif r3 then (bif ((r5.length:Int) == 1) then k (r7 == 2) else k false) else k false) else k false) else k false))))) = k true
 rw [h1,h2,h3,h4,h5]
 rfl
end Go.Am
