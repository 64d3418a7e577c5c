/- The plain law, in Lean alone: Q1, Q2, Q3, Q4, Y3. No condition: lemmas for the claim. -/
import Derived.Test.YtfngnnmdgfkenaaGreatDoorPlR4
set_option linter.unusedVariables false
set_option linter.unusedSectionVars false
set_option linter.unusedSimpArgs false
set_option maxRecDepth 100000
namespace Go.Am
open Go Go.Proofs
variable [Fuel]
theorem ynky (a b d e:Int) (R:Type) (k:Int→Option R):z27z [a,b] [d,e] k = k (orL [cmpI a d,cmpI b e]):=by
 obtain ⟨m,eN,hm⟩:=yiky
 obtain ⟨m,rfl⟩:∃ q,m = q + 2:=⟨m - 2,by omega⟩
 have w1:w64 (0 + 1) = ((1:Nat):Int):=yaky (by omega) (by omega)
 have w2:w64 (((1:Nat):Int) + 1) = ((2:Nat):Int):=by rw [yaky (by omega) (by omega)]; rfl
 have a0:∀ {R:Type} (x y:Int) (k:Int→Option R),get_ [x,y] 0 k = k x:=fun x y k=>ycay (i:=0) rfl k
 have a1:∀ {R:Type} (x y:Int) (k:Int→Option R),get_ [x,y] ((1:Nat):Int) k = k y:=fun x y k=>ycay (i:=1) rfl k
 have d0:decide ((0:Int) < ([a,b].length:Int)) = true:=rfl
 have d1:decide (((1:Nat):Int) < ([a,b].length:Int)) = true:=rfl
 have d2:decide (((2:Nat):Int) < ([a,b].length:Int)) = false:=rfl
 have f0:decide ((0:Int) ≥ ([d,e].length:Int)) = false:=rfl
 have f1:decide (((1:Nat):Int) ≥ ([d,e].length:Int)) = false:=rfl
 have f2:decide (([a,b].length:Int) < ([d,e].length:Int)) = false:=rfl
 simp only [z27z,z27z_]
 rw [show yc0y.N = m + 2 + 1 from eN]
 simp only [z27z_L2,d0,d1,d2,f0,f1,f2,w1,w2,a0,a1,yc0y,cond_true,cond_false,z29z_is,orL]
 cases h1:cmpI a d != 0 with
 | true=>simp only [cond_true]
 | false =>
  simp only [cond_false]
  cases h2:cmpI b e != 0 with
  | true=>simp only [cond_true]
  | false=>simp only [cond_false]
def cmpU0 (x y:G_Busy):Int:=orL [cmpI x.f_Time.f_From y.f_Time.f_From,cmpI x.f_Hertz y.f_Hertz]
theorem z14z_is (x y:G_Busy) (R:Type) (k:Int→Option R):z14z x y k = k (cmpU0 x y):=by
 simp only [z14z,z14z_,yyWy,ynky,cmpU0]
def cmpU (x y:G_Busy):Int:=orL [cmpI x.f_Time.f_From y.f_Time.f_From,cmpI x.f_Hertz y.f_Hertz,Lib.compareBytes x.f_Who y.f_Who]
theorem z96z_is (x y:G_Busy) (R:Type) (k:Int→Option R):z96z x y k = k (cmpU x y):=by
 simp only [z96z,z96z_,yyVy,z29z_is,ydJy,cmpU]
 exact z40z_is _ (by simp) R k
structure FineU (b:G_Busy):Prop where
 who:b.f_Who ∈ ydGy
theorem z9z_loop:∀ (j n i:Nat) (b:Int) (s:G_Stream) (out:List G_Busy),j < n→i + j≤20→SOk b s→b + 20 * (j:Int)≤900000→out.length≤i→(∀ x ∈ out,FineU x) →
  ∃ (out':List G_Busy) (s':G_Stream),SOk (b + 20 * (j:Int)) s'∧out'.length≤i + j∧(∀ x ∈ out',FineU x)∧∀ (R:Type) (e0:G_Stream→List G_Busy→Option R),z9z_L3 I_z9z n ((i + j:Nat):Int) (i:Int) s out e0 = e0 s' out'
 | _,0,_,_,_,_,h,_,_,_,_,_=>by omega
 | 0,n + 1,i,b,s,out,_,hi,hs,hb,hl,hf=>⟨out,s,hs.mono (by omega),by omega,hf,fun R e0=>by rw [z9z_L3,decide_eq_false (by omega)]; rfl⟩
 | j + 1,n + 1,i,b,s,out,hn,hi,hs,hb,hl,hf=>by
  obtain ⟨w,s1,hw,z1,e1⟩:=z83z_gives hs [[107,49,97,98],[111,104,50,97,98,99],[119,49,97,119],[107,49,97,98]] (by omega) (by simp) (by simp)
  obtain ⟨hz,s2,_,_,z2,e2⟩:=z99z_gives z1 90 320 (by omega) (by omega) (by omega) (by omega) (by omega)
  obtain ⟨wd,s3,_,z3,e3⟩:=z79z_gives z2 [1,2,3,20,50] (by omega) (by simp) (by simp)
  obtain ⟨fr,s4,_,z4,e4⟩:=z79z_gives z3 [0,10,40,60] (by omega) (by simp) (by simp)
  obtain ⟨to,s5,_,z5,e5⟩:=z79z_gives z4 [10,50,100] (by omega) (by simp) (by simp)
  obtain ⟨f,s6,z6,e6⟩:=z74z_gives z5 60 (by omega) (by omega)
  have hw':w ∈ ydGy:=ykVy hw (by decide)
  have w1:w64 ((i:Int) + 1) = ((i + 1:Nat):Int):=yasy (by omega)
  have rm:∀ x:G_Busy,decide ((out.length + [x].length) * 48≤yagy) = true:=fun x=>room1 out x 48 (by omega) (by omega)
  have hij:(i + (j + 1):Nat) = (i + 1) + j:=by omega
  have hd:decide ((i:Int) < ((i + (j + 1):Nat):Int)) = true:=decide_eq_true (by omega)
  cases f with
  | false =>
   obtain ⟨o',s',g1,g2,g3,g4⟩:=z9z_loop j n (i + 1) (b + 20) s6 (out ++ [⟨w,hz,wd,⟨fr,w64 (fr + to)⟩⟩]) (by omega) (by omega) (z6.mono (by omega)) (by omega) (by simp; omega) (fun x hx=>by
    rcases List.mem_append.1 hx with hx | hx
    ·exact hf x hx
    ·simp at hx; rw [hx]; exact ⟨hw'⟩)
   refine ⟨o',s',g1.mono (by omega),by omega,g3,fun R e0=>?_⟩
   rw [z9z_L3,hd]
   simp only [I_z9z] at g4
   simp only [I_z9z,cond_true,e1,e2,e3,e4,e5,e6,cond_false,rm,w1,hij,g4]
  | true =>
   obtain ⟨w2,s7,hw2,z7,e7⟩:=z83z_gives z6 [w,[]] (by omega) (by simp) (by simp)
   obtain ⟨x1,s8,_,_,z8,e8⟩:=yaBy z7 0 30000000000 (by omega) (by omega) (by omega) (by omega) (by omega)
   obtain ⟨x2,s9,_,_,z9,e9⟩:=yaBy z8 1 100000 (by omega) (by omega) (by omega) (by omega) (by omega)
   obtain ⟨x3,t1,_,_,y1,f1⟩:=yaBy z9 1 100 (by omega) (by omega) (by omega) (by omega) (by omega)
   have hw2':w2 ∈ ydGy:=by
    simp only [List.mem_cons,List.not_mem_nil,or_false] at hw2
    rcases hw2 with rfl | rfl
    ·exact hw'
    ·simp [ydGy]
   obtain ⟨o',s',g1,g2,g3,g4⟩:=z9z_loop j n (i + 1) (b + 20) t1 (out ++ [⟨w2,x1,x2,⟨fr,x3⟩⟩]) (by omega) (by omega) (y1.mono (by omega)) (by omega) (by simp; omega) (fun x hx=>by
    rcases List.mem_append.1 hx with hx | hx
    ·exact hf x hx
    ·simp at hx; rw [hx]; exact ⟨hw2'⟩)
   refine ⟨o',s',g1.mono (by omega),by omega,g3,fun R e0=>?_⟩
   rw [z9z_L3,hd]
   simp only [I_z9z] at g4
   simp only [I_z9z,cond_true,e1,e2,e3,e4,e5,e6,e7,e8,e9,f1,rm,w1,hij,g4]
theorem z9z_gives {b:Int} {s:G_Stream} (hs:SOk b s) (hb:b≤100000) :
  ∃ (r:List G_Busy) (s':G_Stream),SOk (b + 200) s'∧r.length≤6∧(∀ c ∈ r,FineU c)∧∀ (R:Type) (k:List G_Busy→G_Stream→Option R),z9z s k = k r s':=by
 obtain ⟨n,s1,n1,n2,z1,e1⟩:=z99z_gives hs 0 6 (by omega) (by omega) (by omega) (by omega) (by omega)
 obtain ⟨m,rfl⟩:=Int.eq_ofNat_of_zero_le n1
 obtain ⟨r,s',g1,g2,g3,g4⟩:=z9z_loop m NN 0 (b + 1) s1 [] (by have:=NN_ok; omega) (by omega) z1 (by omega) (by simp) (fun x h=>by cases h)
 have g4':∀ (R:Type) (e0:G_Stream→List G_Busy→Option R),z9z_L3 I_z9z I_z9z.N (m:Int) 0 s1 [] e0 = e0 s' r:=fun R e0=>by
  have:=g4 R e0
  rw [Nat.zero_add] at this
  exact this
 refine ⟨sortI cmpU0 r,s',g1.mono (by omega),by rw [ybPy]; omega,fun c h=>g3 c (yjty.1 h),fun R k=>?_⟩
 have hsort:∀ k:List G_Busy→Option R,z35z r k = k (sortI cmpU0 r):=fun k=>by
  simp only [z35z,z35z_,yyey,yRdy]
  exact yuGy cmpU0 (fun _=>True) (fun x y _ _=>z14z_is x y) r (fun _ _=>trivial) (by omega) (by have:=NN_ok; omega) (by have:=NN_ok; omega) _ (fun l a b R k=>by rw [yLRy]) k
 simp only [z9z,z9z_,g4']
 simp only [I_z9z,e1,hsort]
 refine Eq.trans (g4' R (fun e151 e152=>z35z e152 fun r153=>k r153 e151)) (hsort _)
structure GoodU (b:G_Busy):Prop where
 h1:0≤b.f_Hertz
 h2:b.f_Hertz≤30000000000
 w1:1≤b.f_Width
 w2:b.f_Width≤100000
 t1:b.f_Time.f_From < b.f_Time.f_To
noncomputable def chkU (s:G_Busy):Int:=bif !callB s.f_Who then 3 else bif !inB s.f_Hertz 0 30000000000 then 1 else bif !inB s.f_Width 1 100000 then 1 else bif !timeB s.f_Time then 1 else 0
noncomputable def ydPy:Option G_Busy→List G_Busy→Int
 | _,[]=>0
 | p,c :: cs=>bif chkU c != 0 then chkU c else match p with
  | none=>ydPy (some c) cs
  | some q=>bif decide (cmpU q c ≥ 0) then 7 else ydPy (some c) cs
theorem yGPy {s:G_Busy} (h:chkU s = 0):GoodU s:=by
 unfold chkU at h
 cases h0:callB s.f_Who with
 | false=>rw [h0] at h; simp at h
 | true =>
  cases h1:inB s.f_Hertz 0 30000000000 with
  | false=>rw [h0,h1] at h; simp at h
  | true =>
   cases h2:inB s.f_Width 1 100000 with
   | false=>rw [h0,h1,h2] at h; simp at h
   | true =>
    cases h3:timeB s.f_Time with
    | false=>rw [h0,h1,h2,h3] at h; simp at h
    | true =>
     have h1:=yn4y.1 h1
     have h2:=yn4y.1 h2
     simp only [timeB,Bool.and_eq_true,decide_eq_true_eq] at h3
     exact ⟨h1.1,h1.2,h2.1,h2.2,h3.2.1⟩
theorem yn3y:∀ (l:List G_Busy) (p:Option G_Busy),ydPy p l = 0→∀ c ∈ l,GoodU c
 | [],_,_,c,h=>by cases h
 | x :: xs,p,h,c,hc=>by
  unfold ydPy at h
  cases hq:chkU x != 0 with
  | true=>rw [hq] at h; simp only [cond_true] at h; rw [h] at hq; cases hq
  | false =>
   rw [hq] at h
   simp only [cond_false] at h
   have h0:chkU x = 0:=by simpa using hq
   have h2:ydPy (some x) xs = 0:=by
    cases p with
    | none=>exact h
    | some q =>
     simp only at h
     cases hd:decide (cmpU q x ≥ 0) with
     | true=>rw [hd] at h; simp only [cond_true] at h; omega
     | false=>rw [hd] at h; exact h
   rcases List.mem_cons.1 hc with rfl | hc
   ·exact yGPy h0
   ·exact yn3y xs (some x) h2 c hc
noncomputable def yiYy (d:List G_Busy):Int:=bif decide ((d.length:Int) > 500) then 2 else ydPy none d
theorem yCfy {l:List G_Busy} (h:yiYy l = 0):∀ c ∈ l,GoodU c:=by
 unfold yiYy at h
 cases hd:decide ((l.length:Int) > 500) with
 | true=>rw [hd] at h; simp only [cond_true] at h; omega
 | false=>rw [hd] at h; exact yn3y l none h
theorem z59z_loop (d:List G_Busy) (hf:∀ c ∈ d,FineU c) (hl:d.length≤100000):∀ (xs:List G_Busy) (n i:Nat) (p:Option G_Busy),d.drop i = xs→ycJy d i p→xs.length < n→∀ (R:Type) (k:Int→Option R),
  z59z_L4 ydBy n d d (d.length:Int) (i:Int) k (k 0) = k (ydPy p xs)
 | _,0,_,_,_,_,h,_,_=>by omega
 | [],n + 1,i,p,h,_,_,_,_=>by rw [z59z_L4,ya1y h]; rfl
 | c :: cs,n + 1,i,p,h,hp,hn,R,k=>by
  have h':=yaly h
  have ih:=z59z_loop d hf hl cs n (i + 1) (some c) h'.2.2.1 (ydly h) (by simp at hn; omega) R k
  have hc:=hf c (yb6y h)
  rw [z59z_L4,yaZy h]
  simp only [ydBy] at ih
  simp only [cond_true,ybcy h,ydBy,ylcy hc.who,z48z_is,ym9y,z96z_is,ydPy,chkU,yasy (show i < 4611686018427387904 by omega),ih]
  cases callB c.f_Who <;> cases inB c.f_Hertz 0 30000000000 <;> cases inB c.f_Width 1 100000 <;> try rfl
  cases timeB c.f_Time <;> try rfl
  cases p with
  | none=>rw [decide_eq_false (show ¬ ((i:Int) > 0) by unfold ycJy at hp; omega)]; rfl
  | some q =>
   obtain ⟨h0,ys,hq⟩:=hp
   rw [decide_eq_true (show ((i:Int) > 0) by omega),yeUy hq h0 (by omega)]
   simp only [Bool.not_true,cond_false,cond_true,bne_self_eq_false]
   cases decide (cmpU q c ≥ 0) <;> rfl
theorem z59z_is {d:List G_Busy} (hf:∀ c ∈ d,FineU c) (hl:d.length≤100000) (R:Type) (k:Int→Option R):z59z d k = k (yiYy d):=by
 have h:z59z_L4 ydBy ydBy.N d d (d.length:Int) 0 k (k 0) = k (ydPy none d):=z59z_loop d hf hl d NN 0 none rfl rfl (by have:=NN_ok; omega) R k
 simp only [z59z,z59z_,yiYy,h]
 cases decide ((d.length:Int) > 500) <;> rfl
end Go.Am
set_option linter.unusedVariables false
set_option linter.unusedSectionVars false
set_option linter.unusedSimpArgs false
set_option maxRecDepth 100000
namespace Go.Am
open Go Go.Proofs
variable [Fuel]
def shr1 (w:Int) (r:G_Row):G_Row:=⟨w64 (r.f_From + w64 (Int.tdiv w 2)),w64 (w64 (w64 (r.f_To - w) + w64 (Int.tdiv w 2)) + 1)⟩
def shrC (w:Int) (r:G_Row):Bool:=decide (w64 (r.f_To - r.f_From) ≥ w)
def shrL (w:Int) (l:List G_Row):List G_Row:=(l.filter (shrC w)).map (shr1 w)
def Low (l:List G_Row):Prop:=∀ r ∈ l,0≤r.f_From∧r.f_To≤30000000000
theorem yu7y {w:Int} (h1:1≤w) (h2:w≤100000):w64 (Int.tdiv w 2) = w / 2:=by
 rw [Int.tdiv_eq_ediv_of_nonneg (by omega),yaky (by omega) (by omega)]
theorem yCUy {w:Int} (h1:1≤w) (h2:w≤100000) {r:G_Row} (hr:0≤r.f_From∧r.f_To≤30000000000) (hlt:r.f_From < r.f_To):shr1 w r = ⟨r.f_From + w / 2,r.f_To - w + w / 2 + 1⟩∧shrC w r = decide (r.f_To - r.f_From ≥ w):=by
 unfold shr1 shrC
 rw [yu7y h1 h2,yaky (x:=r.f_From + w / 2) (by omega) (by omega),yaky (x:=r.f_To - w) (by omega) (by omega),yaky (x:=r.f_To - w + w / 2) (by omega) (by omega),yaky (x:=r.f_To - w + w / 2 + 1) (by omega) (by omega),yaky (x:=r.f_To - r.f_From) (by omega) (by omega)]
 exact ⟨rfl,rfl⟩
theorem yvby {w:Int} (h1:1≤w) (h2:w≤100000):∀ (C out:List G_Row),Can C→Low C→Can out→(∀ p ∈ out,∀ r ∈ C,p.f_To < r.f_From + w / 2) →
  Can (out ++ shrL w C)∧∀ n,cov (out ++ shrL w C) n = (cov out n || C.any fun r=>decide (r.f_From≤n - w / 2) && decide (n - w / 2 + w≤r.f_To))
 | [],out,_,_,h,_=>⟨by simpa [shrL] using h,fun n=>by simp [shrL]⟩
 | r :: rs,out,hc,hl,h,hlt=>by
  obtain ⟨r1,r2,r3⟩:=ycwy.1 hc
  obtain ⟨e1,e2⟩:=yCUy h1 h2 (hl r (by simp)) r1
  have hls:Low rs:=fun x hx=>hl x (by simp [hx])
  by_cases hq:r.f_To - r.f_From ≥ w
  ·have es:shrL w (r :: rs) = [shr1 w r] ++ shrL w rs:=by simp [shrL,e2,hq]
   have hcan:Can (out ++ [shr1 w r]):=ygMy.2 ⟨h,fun x hx=>by rw [e1]; exact hlt x hx r (by simp),by rw [e1]; simp only; omega⟩
   obtain ⟨g1,g2⟩:=yvby h1 h2 rs (out ++ [shr1 w r]) r3 hls hcan (fun p hp x hx=>by
    rcases List.mem_append.1 hp with hp | hp
    ·exact hlt p hp x (by simp [hx])
    ·simp at hp; rw [hp,e1]; simp only; have:=r2 x hx; omega)
   rw [es,← List.append_assoc]
   refine ⟨g1,fun n=>?_⟩
   rw [g2,ydZy,List.any_cons,Bool.or_assoc]
   congr 1
   congr 1
   rw [e1]
   simp only [cov,List.any_cons,List.any_nil,Bool.or_false,inRow]
   rw [Bool.eq_iff_iff]
   simp only [Bool.and_eq_true,decide_eq_true_eq]
   omega
  ·have es:shrL w (r :: rs) = shrL w rs:=by simp [shrL,e2,hq]
   obtain ⟨g1,g2⟩:=yvby h1 h2 rs out r3 hls h (fun p hp x hx=>hlt p hp x (by simp [hx]))
   rw [es]
   refine ⟨g1,fun n=>?_⟩
   rw [g2,List.any_cons]
   have:(decide (r.f_From≤n - w / 2) && decide (n - w / 2 + w≤r.f_To)) = false:=by
    rw [Bool.and_eq_false_iff,decide_eq_false_iff_not,decide_eq_false_iff_not]
    omega
   rw [this,Bool.false_or]
theorem yDIy {w:Int} (h1:1≤w) (h2:w≤100000) {C:List G_Row} (hc:Can C) (hl:Low C):Can (shrL w C)∧∀ n,cov (shrL w C) n = true ↔ ∀ m,n - w / 2≤m→m < n - w / 2 + w→cov C m = true:=by
 obtain ⟨g1,g2⟩:=yvby h1 h2 C [] hc hl yioy (fun p hp=>by cases hp)
 refine ⟨g1,fun n=>?_⟩
 have:=g2 n
 rw [List.nil_append] at this
 rw [this]
 have h3:=yEwy hc (u:=⟨n - w / 2,n - w / 2 + w⟩) (by simp only; omega)
 simp only at h3
 rw [show cov [] n = false from rfl,Bool.false_or]
 exact h3
theorem yRxy {C:List G_Row} (hc:∀ r ∈ C,r.f_From < r.f_To) (h:∀ n,cov C n = true→0≤n∧n < 30000000000):Low C:=by
 intro r hr
 have a:=h r.f_From (ybly.2 ⟨r,hr,by omega,hc r hr⟩)
 have b:=h (r.f_To - 1) (ybly.2 ⟨r,hr,by have:=hc r hr; omega,by omega⟩)
 omega
theorem yx8y {l:List G_Segment} (hg:∀ s ∈ l,GoodG s) (cls:List UInt8) (mode at0:Int) (W:List G_Row):Low (rowsL (permL cls mode at0 [] l) W):=by
 obtain ⟨r1,r2⟩:=ygAy (permL cls mode at0 [] l) W
 refine yRxy r1.2 fun n hn=>?_
 rw [r2,Bool.and_eq_true] at hn
 obtain ⟨p,hp,h3,h4⟩:=ybly.1 hn.1
 rcases yhGy cls mode at0 l [] p hp with hh | ⟨s,hs,rfl⟩
 ·cases hh
 ·have:=(hg s hs).low; have:=(hg s hs).high; simp only at h3 h4; omega
def hasU (at0:Int) (b:G_Busy):Bool:=decide (b.f_Time.f_From≤at0) && decide (at0 < b.f_Time.f_To)
def usedU (b:G_Busy):G_Row:=usedR b.f_Hertz b.f_Width
theorem ylRy {b:G_Busy} (h:GoodU b):usedU b = ⟨b.f_Hertz - b.f_Width / 2,b.f_Hertz - b.f_Width / 2 + b.f_Width⟩:=by
 unfold usedU usedR
 have:=h.h1; have:=h.h2; have:=h.w1; have:=h.w2
 rw [yu7y h.w1 h.w2,yaky (x:=b.f_Hertz - b.f_Width / 2) (by omega) (by omega),yaky (by omega) (by omega)]
def grw (w:Int) (u:G_Row):G_Row:=⟨w64 (w64 (w64 (u.f_From - w) + w64 (Int.tdiv w 2)) + 1),w64 (u.f_To + w64 (Int.tdiv w 2))⟩
theorem yAPy {w:Int} (h1:1≤w) (h2:w≤100000) {b:G_Busy} (h:GoodU b):grw w (usedU b) = ⟨b.f_Hertz - b.f_Width / 2 - w + w / 2 + 1,b.f_Hertz - b.f_Width / 2 + b.f_Width + w / 2⟩:=by
 have:=h.h1; have:=h.h2; have:=h.w1; have:=h.w2
 unfold grw
 rw [ylRy h,yu7y h1 h2]
 simp only
 rw [yaky (x:=b.f_Hertz - b.f_Width / 2 - w) (by omega) (by omega),yaky (x:=b.f_Hertz - b.f_Width / 2 - w + w / 2) (by omega) (by omega),yaky (x:=b.f_Hertz - b.f_Width / 2 - w + w / 2 + 1) (by omega) (by omega),yaky (by omega) (by omega)]
theorem ye6y (ul:List G_Busy) (w at0:Int) (l:List G_Row) (hl:l.length≤1000):∀ (xs:List G_Row) (n i:Nat) (out:List G_Row),l.drop i = xs→xs.length < n→out.length≤i →
  ∀ (R:Type) (e0:List G_Busy→Int→Int→List G_Row→Option R),ybgy yaqy n ul w at0 (l.length:Int) (i:Int) l out e0 = e0 ul w at0 (out ++ shrL w xs)
 | _,0,_,_,_,h,_,_,_=>by omega
 | [],n + 1,i,out,h,_,_,R,e0=>by rw [ybgy,ya1y h]; simp [shrL]
 | r :: xs,n + 1,i,out,h,hn,ho,R,e0=>by
  have h':=yaly h
  simp at hn
  have ih1:=ye6y ul w at0 l hl xs n (i + 1) (out ++ [shr1 w r]) h'.2.2.1 (by omega) (by simp; omega) R e0
  have ih2:=ye6y ul w at0 l hl xs n (i + 1) out h'.2.2.1 (by omega) (by omega) R e0
  rw [ybgy,yaZy h]
  simp only [cond_true,ygHy h,yity h,yasy (show i < 4611686018427387904 by omega)]
  show (bif shrC w r then (bif decide ((out.length + [shr1 w r].length) * 16≤yagy) then ybgy yaqy n ul w at0 (l.length:Int) ((i + 1:Nat):Int) l (out ++ [shr1 w r]) e0 else none) else ybgy yaqy n ul w at0 (l.length:Int) ((i + 1:Nat):Int) l out e0) = _
  rw [ih1,ih2,room1 out _ 16 (show out.length≤1000000 by omega) (by omega)]
  cases hc:shrC w r <;> simp [shrL,hc]
theorem yfny (w at0:Int) (may:List G_Row) (l:List G_Busy) (hl:l.length≤1000):∀ (xs:List G_Busy) (n i:Nat) (out:List G_Row),l.drop i = xs→xs.length < n→out.length≤i →
  ∀ (R:Type) (e0:List G_Row→List G_Row→Option R),ybfy yaqy n w at0 l (l.length:Int) (i:Int) may out e0 = e0 may (out ++ (xs.filter (hasU at0)).map fun b=>grw w (usedU b))
 | _,0,_,_,_,h,_,_,_=>by omega
 | [],n + 1,i,out,h,_,_,R,e0=>by rw [ybfy,ya1y h]; simp
 | r :: xs,n + 1,i,out,h,hn,ho,R,e0=>by
  have h':=yaly h
  simp at hn
  have hu:∀ (a b:Int) (R:Type) (k:G_Row→Option R),band_used a b k = k (usedR a b):=fun a b R k=>rfl
  have ih1:=yfny w at0 may l hl xs n (i + 1) (out ++ [grw w (usedU r)]) h'.2.2.1 (by omega) (by simp; omega) R e0
  have ih2:=yfny w at0 may l hl xs n (i + 1) out h'.2.2.1 (by omega) (by omega) R e0
  rw [ybfy,yaZy h]
  simp only [cond_true,ybcy h,yasy (show i < 4611686018427387904 by omega)]
  have hk:∀ k:Bool→Option R,yaqy.kit_Has r.f_Time at0 k = k (hasU at0 r):=fun k=>ytMy r.f_Time at0 R k
  rw [hk]
  show (bif hasU at0 r then (bif decide ((out.length + [grw w (usedU r)].length) * 16≤yagy) then ybfy yaqy n w at0 l (l.length:Int) ((i + 1:Nat):Int) may (out ++ [grw w (usedU r)]) e0 else none) else ybfy yaqy n w at0 l (l.length:Int) ((i + 1:Nat):Int) may out e0) = _
  rw [ih1,ih2,room1 out _ 16 (show out.length≤1000000 by omega) (by omega)]
  cases hc:hasU at0 r <;> simp [hc]
noncomputable def yhQy (ul:List G_Busy) (at0:Int):List G_Row:=(ul.filter (hasU at0)).map usedU
noncomputable def freeL (l:List G_Segment) (ul:List G_Busy) (cls:List UInt8) (mode w at0:Int):List G_Row:=shrL w (rowsL (permL cls mode at0 [] l) (yhQy ul at0))
theorem yEty {P W:List G_Row} (hP:P.length≤400) (hW:W.length≤400):(rowsL P W).length≤2000:=by
 have h1:=yBry (P ++ W)
 have h2:∀ (es:List Int) (f:Int→Bool) (out:List G_Row),(edgeL f out es).length≤out.length + es.length:=by
  intro es
  induction es with
  | nil=>intro f out; simp [edgeL]
  | cons a es ih =>
   intro f out
   cases es with
   | nil=>simp [edgeL]
   | cons b rest =>
    unfold edgeL
    have h3:=ih f (bif f a then addE out a b else out)
    have h4:=yJYy out a b
    cases hq:f a <;> rw [hq] at h3 <;> simp only [cond_true,cond_false] at h3 ⊢ <;> simp only [List.length_cons] at h3 ⊢ <;> omega
 have h3:=h2 (ydRy (P ++ W)) (fun n=>cov P n && !cov W n) []
 unfold rowsL
 simp at h1 h3
 omega
theorem yzfy (w:Int) (l:List G_Row):(shrL w l).length≤l.length:=by
 unfold shrL
 rw [List.length_map]
 exact List.length_filter_le _ _
theorem yzOy {l:List G_Segment} (hm:∀ s ∈ l,s.f_Modes.length≤1000) (hg:∀ s ∈ l,GoodG s) (hl:l.length≤400) {ul:List G_Busy} (hu:∀ b ∈ ul,GoodU b) (hul:ul.length≤400) (cls:List UInt8) (mode at0:Int) {w:Int} (w1:1≤w) (w2:w≤100000) (R:Type) (k:List G_Row→Option R) :
  band_free l ul cls mode w at0 k = k (freeL l ul cls mode w at0):=by
 obtain ⟨p1,p2⟩:=z47z_is hm hg (by omega) cls mode at0
 have c1:=ygAy (permL cls mode at0 [] l) []
 have low1:=yx8y hg cls mode at0 []
 generalize hC:rowsL (permL cls mode at0 [] l) [] = C at p1 p2 c1 low1
 have h1:∀ e0:List G_Busy→Int→Int→List G_Row→Option R,ybgy yaqy yaqy.N ul w at0 (C.length:Int) 0 C [] e0 = e0 ul w at0 (shrL w C):=fun e0=>by
  have:=ye6y ul w at0 C (by omega) C NN 0 [] rfl (by have:=NN_ok; omega) (by simp) R e0
  rw [List.nil_append] at this
  exact this
 have h2:∀ (may:List G_Row) (e0:List G_Row→List G_Row→Option R),ybfy yaqy yaqy.N w at0 ul (ul.length:Int) 0 may [] e0 = e0 may ((ul.filter (hasU at0)).map fun b=>grw w (usedU b)):=fun may e0=>by
  have:=yfny w at0 may ul (by omega) ul NN 0 [] rfl (by have:=NN_ok; omega) (by simp) R e0
  rw [List.nil_append] at this
  exact this
 obtain ⟨s1,s2⟩:=yDIy w1 w2 c1.1 low1
 have slen:=yzfy w C
 have mLow:∀ r ∈ shrL w C,-4398046511104≤r.f_From∧r.f_From≤4398046511104:=fun r hr=>by
  unfold shrL at hr
  obtain ⟨q,hq,rfl⟩:=List.mem_map.1 hr
  have hq:=(List.mem_filter.1 hq).1
  obtain ⟨e1,_⟩:=yCUy w1 w2 (low1 q hq) (c1.1.2 q hq)
  rw [e1]
  have:=low1 q hq
  have:=c1.1.2 q hq
  simp only; omega
 obtain ⟨J1,j1,j2,j3,j4⟩:=z25z_is mLow s1.2 (by omega)
 have gr:∀ r ∈ (ul.filter (hasU at0)).map (fun b=>grw w (usedU b)),∃ b ∈ ul,hasU at0 b = true∧r = ⟨b.f_Hertz - b.f_Width / 2 - w + w / 2 + 1,b.f_Hertz - b.f_Width / 2 + b.f_Width + w / 2⟩:=fun r hr=>by
  obtain ⟨b,hb,rfl⟩:=List.mem_map.1 hr
  have hb:=List.mem_filter.1 hb
  exact ⟨b,hb.1,hb.2,yAPy w1 w2 (hu b hb.1)⟩
 have glen:((ul.filter (hasU at0)).map fun b=>grw w (usedU b)).length≤400:=by rw [List.length_map]; exact Nat.le_trans (List.length_filter_le _ _) hul
 obtain ⟨J2,g1,g2,g3,g4⟩:=z25z_is (l:=(ul.filter (hasU at0)).map fun b=>grw w (usedU b)) (fun r hr=>by
   obtain ⟨b,hb,_,rfl⟩:=gr r hr
   have:=(hu b hb).h1; have:=(hu b hb).h2; have:=(hu b hb).w1; have:=(hu b hb).w2
   simp only; omega) (fun r hr=>by
   obtain ⟨b,hb,_,rfl⟩:=gr r hr
   have:=(hu b hb).w1
   simp only; omega) (by omega)
 obtain ⟨x1,x2⟩:=yqry J2 g1 J1 [] j1 yioy (fun p h=>by cases h)
 obtain ⟨q1,q2⟩:=ygAy (permL cls mode at0 [] l) (yhQy ul at0)
 obtain ⟨y1,y2⟩:=yDIy w1 w2 q1 (yx8y hg cls mode at0 (yhQy ul at0))
 have e:ycty J2 [] J1 = freeL l ul cls mode w at0:=ypky x1 y1 fun n=>by
  rw [Bool.eq_iff_iff,x2]
  show _ ↔ cov (shrL w _) n = true
  rw [y2,show cov [] n = false from rfl,Bool.false_or,Bool.and_eq_true,Bool.not_eq_true',j2,g2,s2]
  have hP:∀ m,cov C m = cov (permL cls mode at0 [] l) m:=fun m=>by rw [c1.2]; simp [cov]
  have hG:cov ((ul.filter (hasU at0)).map fun b=>grw w (usedU b)) n = false ↔ ∀ m,n - w / 2≤m→m < n - w / 2 + w→cov (yhQy ul at0) m = false:=by
   constructor
   ·intro h m m1 m2
    cases hq:cov (yhQy ul at0) m with
    | false=>rfl
    | true =>
     obtain ⟨r,hr,r1,r2⟩:=ybly.1 hq
     unfold yhQy at hr
     obtain ⟨b,hb,rfl⟩:=List.mem_map.1 hr
     have hb':=List.mem_filter.1 hb
     rw [ylRy (hu b hb'.1)] at r1 r2
     simp only at r1 r2
     have:cov ((ul.filter (hasU at0)).map fun b=>grw w (usedU b)) n = true:=ybly.2 ⟨_,List.mem_map.2 ⟨b,hb,rfl⟩,by rw [yAPy w1 w2 (hu b hb'.1)]; simp only; omega,by rw [yAPy w1 w2 (hu b hb'.1)]; simp only; omega⟩
     rw [this] at h; cases h
   ·intro h
    cases hq:cov ((ul.filter (hasU at0)).map fun b=>grw w (usedU b)) n with
    | false=>rfl
    | true =>
     obtain ⟨r,hr,r1,r2⟩:=ybly.1 hq
     obtain ⟨b,hb,hb2,rfl⟩:=gr r hr
     simp only at r1 r2
     have hw:=(hu b hb).w1
     have:∃ m,n - w / 2≤m∧m < n - w / 2 + w∧b.f_Hertz - b.f_Width / 2≤m∧m < b.f_Hertz - b.f_Width / 2 + b.f_Width:=by
      by_cases hc:n - w / 2≤b.f_Hertz - b.f_Width / 2
      ·exact ⟨b.f_Hertz - b.f_Width / 2,by omega,by omega,by omega,by omega⟩
      ·exact ⟨n - w / 2,by omega,by omega,by omega,by omega⟩
     obtain ⟨m,m1,m2,m3,m4⟩:=this
     have h5:=h m m1 m2
     have:cov (yhQy ul at0) m = true:=ybly.2 ⟨usedU b,List.mem_map.2 ⟨b,List.mem_filter.2 ⟨hb,hb2⟩,rfl⟩,by rw [ylRy (hu b hb)]; exact m3,by rw [ylRy (hu b hb)]; exact m4⟩
     rw [this] at h5; cases h5
  rw [hG]
  constructor
  ·rintro ⟨a,b⟩ m m1 m2
   rw [q2,← hP,a m m1 m2,b m m1 m2]; rfl
  ·intro h
   refine ⟨fun m m1 m2=>?_,fun m m1 m2=>?_⟩
   ·have:=h m m1 m2
    rw [q2,Bool.and_eq_true] at this
    rw [hP]; exact this.1
   ·have:=h m m1 m2
    rw [q2,Bool.and_eq_true,Bool.not_eq_true'] at this
    exact this.2
 simp only [band_free,ymty]
 have p2':∀ k:List G_Row→Option R,yaqy.z47z l cls mode at0 k = k C:=fun k=>p2 R k
 have j4':∀ k:List G_Row→Option R,yaqy.z25z (shrL w C) k = k J1:=fun k=>j4 R k
 have g4':∀ k:List G_Row→Option R,yaqy.z25z ((ul.filter (hasU at0)).map fun b=>grw w (usedU b)) k = k J2:=fun k=>g4 R k
 have w4':∀ k:List G_Row→Option R,yaqy.z55z J1 J2 k = k (ycty J2 [] J1):=fun k=>z55z_is (by omega) (by omega) R k
 rw [p2',h1,h2,j4',g4',w4',e]
end Go.Am
set_option linter.unusedVariables false
set_option linter.unusedSectionVars false
set_option linter.unusedSimpArgs false
set_option maxRecDepth 100000
namespace Go.Am
open Go Go.Proofs
variable [Fuel]
end Go.Am
set_option linter.unusedVariables false
set_option linter.unusedSectionVars false
set_option linter.unusedSimpArgs false
set_option maxRecDepth 100000
namespace Go.Am
open Go Go.Proofs
variable [Fuel]
noncomputable def ycOy (l:List G_Segment) (ul:List G_Busy) (c:List UInt8) (mode w at0:Int):Int:=orL [ydcy l,yiYy ul,nameF c,outF mode 1 3 4,outF w 1 100000 1,momF at0]
theorem z97z_is {l:List G_Segment} (hf:∀ c ∈ l,FineG c) (hl:l.length≤400) {ul:List G_Busy} (hu:∀ c ∈ ul,FineU c) (hul:ul.length≤200) {c:List UInt8} (hc:c ∈ ybAy) (mode w at0:Int) (R:Type) (k:Int→Option R) :
  z97z l ul c mode w at0 k = k (ycOy l ul c mode w at0):=by
 have h1:∀ k:Int→Option R,yhny.z34z l k = k (ydcy l):=fun k=>z34z_is hf (by omega) R k
 have h2:∀ k:Int→Option R,yhny.z59z ul k = k (yiYy ul):=fun k=>z59z_is hu (by omega) R k
 have h3:∀ k:Bool→Option R,yhny.kit_IsKey c k = k (keyB c):=fun k=>yhWy hc R k
 have h4:∀ k:Bool→Option R,yhny.kit_IsMode mode k = k (inB mode 1 3):=fun k=>yh1y mode R k
 have h5:∀ k:Bool→Option R,yhny.z48z w 1 100000 k = k (!inB w 1 100000):=fun k=>z48z_is w 1 100000 R k
 have h6:∀ k:Bool→Option R,yhny.z71z at0 k = k (momB at0):=fun k=>z71z_is at0 R k
 simp only [z97z,z97z_,h1,h2,h3,h4,h5,h6,ycOy,orL,nameF,outF,momF]
 cases ydcy l != 0 with
 | true=>rfl
 | false =>
  cases yiYy ul != 0 with
  | true=>rfl
  | false=>cases keyB c <;> cases inB mode 1 3 <;> cases inB w 1 100000 <;> cases momB at0 <;> rfl
theorem ynXy {l:List G_Segment} (hf:∀ c ∈ l,FineG c) (hl:l.length≤400) {ul:List G_Busy} (hu:∀ c ∈ ul,FineU c) (hul:ul.length≤200) {c:List UInt8} (hc:c ∈ ybAy) (mode w at0:Int) (R:Type) (k:List G_Row→Int→Option R) :
  band_Free l ul c mode w at0 k = bif ycOy l ul c mode w at0 != 0 then k [] (ycOy l ul c mode w at0) else k (freeL l ul c mode w at0) 0:=by
 have h1:∀ k:Int→Option R,yg8y.z97z l ul c mode w at0 k = k (ycOy l ul c mode w at0):=fun k=>z97z_is hf hl hu hul hc mode w at0 R k
 simp only [band_Free,ylOy,h1]
 rcases yDby (ycOy l ul c mode w at0) with y | y
 ·have z:=yyAy.1 y
  have hg:∀ s ∈ l,GoodG s:=yqDy (z _ (by simp))
  have hgu:∀ s ∈ ul,GoodU s:=yCfy (z _ (by simp))
  have hw:inB w 1 100000 = true:=by
   have:=z (outF w 1 100000 1) (by simp)
   cases hq:inB w 1 100000 with
   | true=>rfl
   | false=>simp [outF,hq] at this
  have hw:=yn4y.1 hw
  have h2:∀ k:List G_Row→Option R,yg8y.band_free l ul c mode w at0 k = k (freeL l ul c mode w at0):=fun k=>yzOy (yz6y hf) hg hl hgu (by omega) c mode at0 hw.1 hw.2 R k
  rw [y,h2]
 ·rw [y.1]; rfl
end Go.Am
set_option linter.unusedVariables false
set_option linter.unusedSectionVars false
set_option linter.unusedSimpArgs false
set_option maxRecDepth 100000
namespace Go.Am
open Go Go.Proofs
variable [Fuel]
end Go.Am
