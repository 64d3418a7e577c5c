/- The plain law, in Lean alone: U1. No condition: lemmas for the claim. -/
import Derived.Test.YtmhbhdhddlbdlaaGreatDoorPlTS1
import Derived.Test.YtmhbhdhddlbdlaaGreatDoorPlT6
import Derived.Test.YtmhbhdhddlbdlaaGreatDoorPlR4
import Derived.Test.YtmhbhdhddlbdlaaGreatDoorPlB1
set_option linter.unusedVariables false
set_option linter.unusedSectionVars false
set_option linter.unusedSimpArgs false
set_option maxRecDepth 100000
namespace Go.Am
open Go Go.Proofs
variable [Fuel]
theorem yrky:∀ (l:List G_Spot) (q:G_Spot),yaWy (some q) l = 0→(∀ x ∈ l,cmpSp q x < 0)∧l.Pairwise fun a b=>cmpSp a b < 0
 | [],q,_=>⟨(fun x h=>by cases h),.nil⟩
 | c :: cs,q,h=>by
  unfold yaWy at h
  cases hq:chkS c != 0 with
  | true=>rw [hq] at h; simp only [cond_true] at h; rw [h] at hq; cases hq
  | false =>
   rw [hq] at h
   simp only [cond_false] at h
   cases hd:decide (cmpSp q c ≥ 0) with
   | true=>rw [hd] at h; simp only [cond_true] at h; omega
   | false =>
    rw [hd] at h
    simp only [cond_false] at h
    obtain ⟨g1,g2⟩:=yrky cs c h
    have hlt:cmpSp q c < 0:=by have:=of_decide_eq_false hd; omega
    refine ⟨fun x hx=>?_,List.pairwise_cons.2 ⟨g1,g2⟩⟩
    rcases List.mem_cons.1 hx with rfl | hx
    ·exact hlt
    ·exact ylry yfzy (fun _ _=>ykJy) hlt (g1 x hx)
theorem yDuy {l:List G_Spot} (h:yasy l = 0):l.Pairwise fun a b=>cmpSp a b < 0:=by
 unfold yasy at h
 cases hd:decide ((l.length:Int) > 2000) with
 | true=>rw [hd] at h; simp only [cond_true] at h; omega
 | false =>
  rw [hd] at h
  simp only [cond_false] at h
  cases l with
  | nil=>exact .nil
  | cons c cs =>
   unfold yaWy at h
   cases hq:chkS c != 0 with
   | true=>rw [hq] at h; simp only [cond_true] at h; rw [h] at hq; cases hq
   | false =>
    rw [hq] at h
    simp only [cond_false] at h
    obtain ⟨g1,g2⟩:=yrky cs c h
    exact List.pairwise_cons.2 ⟨g1,g2⟩
theorem yqRy:∀ (l:List G_Spot) (q:G_Spot),(∀ c ∈ l,chkS c = 0)→(q :: l).Pairwise (fun a b=>cmpSp a b < 0)→yaWy (some q) l = 0
 | [],q,_,_=>rfl
 | c :: cs,q,hc,hp=>by
  have h1:=List.pairwise_cons.1 hp
  unfold yaWy
  rw [hc c (by simp)]
  simp only [bne_self_eq_false,cond_false]
  rw [decide_eq_false (show ¬ cmpSp q c ≥ 0 by have:=h1.1 c (by simp); omega)]
  exact yqRy cs c (fun x hx=>hc x (by simp [hx])) h1.2
theorem ys3y {l:List G_Spot} (hl:l.length≤2000) (hc:∀ c ∈ l,chkS c = 0) (hp:l.Pairwise (fun a b=>cmpSp a b < 0)):yasy l = 0:=by
 unfold yasy
 rw [decide_eq_false (by omega)]
 cases l with
 | nil=>rfl
 | cons c cs =>
  simp only [cond_false]
  unfold yaWy
  rw [hc c (by simp)]
  simp only [bne_self_eq_false,cond_false]
  exact yqRy cs c (fun x hx=>hc x (by simp [hx])) hp
theorem yooy {x p q:List G_Spot} (hx:x.Pairwise fun a b=>cmpSp a b < 0) (hm:∀ c,c ∈ x ↔ c ∈ p ++ q):ygSy p q = x:=by
 have hs:(sortI cmpSp (p ++ q)).Pairwise fun a b=>cmpSp a b≤0:=ylGy (yfzy.pre (fun _=>True)) _ (fun _ _=>trivial)
 obtain ⟨g1,g2⟩:=ysjy yfzy (fun _ _=>ykJy) (eq:=yaZy) ylQy hs
 exact yrey yfzy g1 hx fun c=>by rw [show c ∈ ygSy p q ↔ c ∈ ybuy yaZy (sortI cmpSp (p ++ q)) from Iff.rfl,g2,ysUy,hm]
theorem yday (d:List G_Spot) (hl:d.length≤100):∀ (xs:List G_Spot) (n i:Nat) (b:Int) (s:G_Stream) (p q:List G_Spot),d.drop i = xs→xs.length < n→SOk b s→b + (xs.length:Int)≤900000→p.length≤i→q.length≤i →
  ∃ (p1 q1:List G_Spot) (s':G_Stream),SOk (b + (xs.length:Int)) s'∧p1.Sublist xs∧q1.Sublist xs∧(∀ x ∈ xs,x ∈ p1 ∨ x ∈ q1)∧∀ (R:Type) (e0:G_Stream→List G_Spot→List G_Spot→Option R),z31z_L3 ygHy n d (d.length:Int) (i:Int) s p q e0 = e0 s' (p ++ p1) (q ++ q1)
 | _,0,_,_,_,_,_,_,h,_,_,_,_=>by omega
 | [],n + 1,i,b,s,p,q,h,_,hs,_,_,_=>⟨[],[],s,hs.mono (by simp),.slnil,.slnil,(fun x h=>by cases h),fun R e0=>by rw [z31z_L3,ybqy h]; simp⟩
 | x :: xs,n + 1,i,b,s,p,q,h,hn,hs,hb,hp,hq=>by
  have h':=yaqy h
  simp only [List.length_cons] at hn hb
  obtain ⟨r,s1,r1,r2,z1,e1⟩:=z51z_gives hs 3 (by omega) (by omega)
  have e1':∀ {R:Type} (k:Int→G_Stream→Option R),ygHy.z51z s 3 k = k r s1:=fun k=>e1 _ k
  have hw:w64 ((i:Int) + 1) = ((i + 1:Nat):Int):=yauy (by omega)
  have rp:=room1 p x 48 (show p.length≤1000000 by omega) (by omega)
  have rq:=room1 q x 48 (show q.length≤1000000 by omega) (by omega)
  by_cases h0:r = 0
  ·obtain ⟨p1,q1,s',g1,g2,g3,g4,g5⟩:=yday d hl xs n (i + 1) (b + 1) s1 (p ++ [x]) q h'.2.2.1 (by omega) z1 (by omega) (by simp; omega) (by omega)
   refine ⟨x :: p1,q1,s',g1.mono (by simp; omega),g2.cons_cons x,g3.cons x,fun y hy=>?_,fun R e0=>?_⟩
   ·rcases List.mem_cons.1 hy with rfl | hy
    ·exact .inl (by simp)
    ·rcases g4 y hy with h | h
     ·exact .inl (by simp [h])
     ·exact .inr h
   ·rw [z31z_L3,ybdy h]
    simp only [cond_true,ya2y h,e1',h0,beq_self_eq_true,rp,hw,g5,List.append_assoc,List.singleton_append]
  ·by_cases h1:r = 1
   ·obtain ⟨p1,q1,s',g1,g2,g3,g4,g5⟩:=yday d hl xs n (i + 1) (b + 1) s1 p (q ++ [x]) h'.2.2.1 (by omega) z1 (by omega) (by omega) (by simp; omega)
    refine ⟨p1,x :: q1,s',g1.mono (by simp; omega),g2.cons x,g3.cons_cons x,fun y hy=>?_,fun R e0=>?_⟩
    ·rcases List.mem_cons.1 hy with rfl | hy
     ·exact .inr (by simp)
     ·rcases g4 y hy with h | h
      ·exact .inl h
      ·exact .inr (by simp [h])
    ·rw [z31z_L3,ybdy h]
     simp only [cond_true,ya2y h,e1',h1,show ((1:Int) == 0) = false from rfl,cond_false,beq_self_eq_true,rq,hw,g5,List.append_assoc,List.singleton_append]
   ·obtain ⟨p1,q1,s',g1,g2,g3,g4,g5⟩:=yday d hl xs n (i + 1) (b + 1) s1 (p ++ [x]) (q ++ [x]) h'.2.2.1 (by omega) z1 (by omega) (by simp; omega) (by simp; omega)
    refine ⟨x :: p1,x :: q1,s',g1.mono (by simp; omega),g2.cons_cons x,g3.cons_cons x,fun y hy=>?_,fun R e0=>?_⟩
    ·rcases List.mem_cons.1 hy with rfl | hy
     ·exact .inl (by simp)
     ·rcases g4 y hy with h | h
      ·exact .inl (by simp [h])
      ·exact .inr (by simp [h])
    ·rw [z31z_L3,ybdy h]
     simp only [cond_true,ya2y h,e1',beq_eq_false_iff_ne.2 h0,beq_eq_false_iff_ne.2 h1,cond_false,rp,rq,hw,g5,List.append_assoc,List.singleton_append]
theorem yoUy {b:Int} {s:G_Stream} (hs:SOk b s) (hb:b≤100000) {d:List G_Spot} (hl:d.length≤100) :
  ∃ (p q:List G_Spot) (s':G_Stream),SOk (b + 100) s'∧p.Sublist d∧q.Sublist d∧(∀ x ∈ d,x ∈ p ∨ x ∈ q)∧∀ (R:Type) (k:List G_Spot→List G_Spot→G_Stream→Option R),z31z s d k = k p q s':=by
 obtain ⟨p,q,s',g1,g2,g3,g4,g5⟩:=yday d hl d NN 0 b s [] [] rfl (by have:=NN_ok; omega) hs (by omega) (by simp) (by simp)
 exact ⟨p,q,s',g1.mono (by omega),g2,g3,g4,fun R k=>g5 R fun e15 e16 e17=>k e16 e17 e15⟩
theorem yocy:∀ (l:List G_Spot) (p:Option G_Spot),yaWy p l = 0→∀ c ∈ l,chkS c = 0
 | [],_,_,c,h=>by cases h
 | x :: xs,p,h,c,hc=>by
  unfold yaWy at h
  cases hq:chkS x != 0 with
  | true=>rw [hq] at h; simp only [cond_true] at h; rw [h] at hq; cases hq
  | false =>
   rw [hq] at h
   simp only [cond_false] at h
   have h0:chkS x = 0:=by simpa using hq
   have h2:yaWy (some x) xs = 0:=by
    cases p with
    | none=>exact h
    | some q =>
     simp only at h
     cases hd:decide (cmpSp q x ≥ 0) with
     | true=>rw [hd] at h; simp only [cond_true] at h; omega
     | false=>rw [hd] at h; exact h
   rcases List.mem_cons.1 hc with rfl | hc
   ·exact h0
   ·exact yocy xs (some x) h2 c hc
theorem yrdy {l:List G_Spot} (h:yasy l = 0):∀ c ∈ l,chkS c = 0:=by
 unfold yasy at h
 cases hd:decide ((l.length:Int) > 2000) with
 | true=>rw [hd] at h; simp only [cond_true] at h; omega
 | false=>rw [hd] at h; exact yocy l none h
theorem yB6y:callB [] = false:=by
 obtain ⟨m,h,rfl⟩:=ybey ‹Fuel›
 kernel_rfl
theorem ys9y {s:List UInt8} (hs:s ∈ ydOy) (hb:callB s = true):s.contains 32 = false∧s.contains 10 = false∧s ≠ []:=by
 have h:∀ s ∈ ydOy,s.contains 32 = false∧s.contains 10 = false:=by decide
 refine ⟨(h s hs).1,(h s hs).2,?_⟩
 rintro rfl
 rw [yB6y] at hb; cases hb
theorem yAHy {c:G_Spot} (h:chkS c = 0):(0≤c.f_At∧c.f_At≤345686399999)∧(0≤c.f_Hertz∧c.f_Hertz≤30000000000)∧callB c.f_Call = true∧callB c.f_By = true:=by
 unfold chkS at h
 cases h1:momB c.f_At with
 | false=>rw [h1] at h; cases h
 | true =>
  cases h2:inB c.f_Hertz 0 30000000000 with
  | false=>rw [h1,h2] at h; cases h
  | true =>
   cases h3:callB c.f_Call with
   | false=>rw [h1,h2,h3] at h; cases h
   | true =>
    cases h4:callB c.f_By with
    | false=>rw [h1,h2,h3,h4] at h; cases h
    | true=>exact ⟨yB5y.1 h1,yB5y.1 h2,rfl,rfl⟩
theorem yAfy {c:G_Spot} (hf:FineSp c) (h:chkS c = 0):lineS (ybSy c) = some c∧(ybSy c).contains 10 = false:=by
 obtain ⟨h1,h2,h3,h4⟩:=yAHy h
 have c1:=ys9y hf.call h3
 have c2:=ys9y hf.by1 h4
 obtain ⟨u,hu⟩:∃ u:Nat,c.f_At = (u:Int):=⟨c.f_At.toNat,by omega⟩
 obtain ⟨v,hv⟩:∃ v:Nat,c.f_Hertz = (v:Int):=⟨c.f_Hertz.toNat,by omega⟩
 have n1:=yvay (n:=c.f_At) (by omega) (by omega)
 have n2:=yvay (n:=c.f_Hertz) (by omega) (by omega)
 have e1:Lib.itoa c.f_At = Lib.decDigits u:=by rw [hu,Lib.itoa_nonneg]
 have e2:Lib.itoa c.f_Hertz = Lib.decDigits v:=by rw [hv,Lib.itoa_nonneg]
 have w:∀ w ∈ yb3y c,w.contains 32 = false∧w ≠ []∧w.contains 10 = false:=by
  intro w hw
  unfold yb3y at hw
  simp only [List.mem_cons,List.not_mem_nil,or_false] at hw
  rcases hw with rfl | rfl | rfl | rfl
  ·rw [e1]; exact ⟨ymXy (by decide),ym3y u,ymXy (by decide)⟩
  ·rw [e2]; exact ⟨ymXy (by decide),ym3y v,ymXy (by decide)⟩
  ·exact ⟨c1.1,c1.2.2,c1.2.1⟩
  ·exact ⟨c2.1,c2.2.2,c2.2.1⟩
 have hne:yb3y c ≠ []:=List.cons_ne_nil _ _
 refine ⟨?_,yIcy (by decide) fun x hx=>(w x hx).2.2⟩
 have hok:yewy (ybSy c) = true:=yv9y hne fun x hx=>⟨(w x hx).1,(w x hx).2.1⟩
 have hsp:yaky 32 (ybSy c) = yb3y c:=ykZy hne fun x hx=>(w x hx).1
 have eB:spotB (yb3y c) = true:=by
  show [Lib.itoa c.f_At,Lib.itoa c.f_Hertz].all numB = true
  simp [n1.1,n2.1]
 have eQ:spotQ (yb3y c) = c:=by
  show (⟨numQ (Lib.itoa c.f_At),numQ (Lib.itoa c.f_Hertz),c.f_Call,c.f_By⟩:G_Spot) = c
  rw [n1.2,n2.2]
 unfold lineS
 rw [hok,hsp,eB,eQ]; rfl
theorem yuKy:∀ x:List G_Spot,textS x = yb7y ybSy x
 | []=>rfl
 | c :: cs=>by
  show (ybSy c ++ [10]) ++ textS cs = (ybSy c ++ [10]) ++ yb7y ybSy cs
  rw [yuKy cs]
theorem yARy {x:List G_Spot} (hf:∀ c ∈ x,FineSp c) (hl:x.length≤100) (h:yasy x = 0):readS (textS x) = (x,0,0):=by
 have hs:=ygpy (yzDy hf)
 have hg:goG lineS (endG (textS x)) 0 (ybfy (textS x)) [] = .inr x:=by
  rw [yuKy]
  exact yE9y fun c hc=>yAfy (hf c hc) (yrdy h c hc)
 rw [ys2y (by omega) hg,h]; rfl
theorem yBty (R:Type) (k:Int→Option R):keep_errs [0,0,0,0] k = k 0:=by
 obtain ⟨m,h,rfl⟩:=ybey ‹Fuel›
 kernel_rfl
theorem keep_SpotsAgree_true (l:List Int) (R:Type) (k:Bool→Option R):keep_SpotsAgree l k = k true:=by
 obtain ⟨n,s1,n1,n2,z1,e1⟩:=z69z_gives (sOk0 l) 0 12 (by omega) (by omega) (by omega) (by omega) (by omega)
 obtain ⟨m,rfl⟩:∃ m:Nat,n = (m:Int):=⟨n.toNat,by omega⟩
 obtain ⟨x,s2,z2,lx,hf,fx,e2⟩:=ynXy z1 (by omega) m (by omega)
 obtain ⟨p,q,s3,z3,hp,hq,hpq,e3⟩:=yoUy z2 (by omega) (d:=x) (by omega)
 have up:=yDuy fx
 have hchk:=yrdy fx
 have fp:∀ c ∈ p,FineSp c:=fun c hc=>hf c (hp.subset hc)
 have fq:∀ c ∈ q,FineSp c:=fun c hc=>hf c (hq.subset hc)
 have lp:p.length≤12:=Nat.le_trans hp.length_le (by omega)
 have lq:q.length≤12:=Nat.le_trans hq.length_le (by omega)
 have xp:yasy p = 0:=ys3y (by omega) (fun c hc=>hchk c (hp.subset hc)) (up.sublist hp)
 have xq:yasy q = 0:=ys3y (by omega) (fun c hc=>hchk c (hq.subset hc)) (up.sublist hq)
 have m1:ygSy p q = x:=yooy up fun c=>by
  rw [List.mem_append]
  exact ⟨hpq c,fun h=>h.elim (fun h=>hp.subset h) (fun h=>hq.subset h)⟩
 have m2:ygSy q p = x:=yooy up fun c=>by
  rw [List.mem_append]
  exact ⟨fun h=>(hpq c h).symm,fun h=>h.elim (fun h=>hq.subset h) (fun h=>hp.subset h)⟩
 have hx2:¬ ((x.length:Int) > 2000):=by omega
 have sd:=yzDy hf
 have at':=(ygpy sd).2
 have rb:=yARy hf (by omega) fx
 have g1:∀ k:Int→G_Stream→Option R,yawy.z69z ⟨l,0⟩ 0 12 k = k (m:Int) s1:=fun k=>e1 R k
 have g2:∀ k:List G_Spot→G_Stream→Option R,yawy.z26z s1 (m:Int) k = k x s2:=fun k=>e2 R k
 have g3:∀ k:List G_Spot→List G_Spot→G_Stream→Option R,yawy.z31z s2 x k = k p q s3:=fun k=>e3 R k
 have g4:∀ k:List G_Spot→Int→Option R,yawy.band_Merge p q k = k x 0:=fun k=>by
  refine (ylwy fp fq (by omega) (by omega) R k).trans ?_
  have e0:orL [yasy p,yasy q] = 0:=by rw [xp,xq]; rfl
  have e1:yf6y p q = (x,0):=by
   unfold yf6y
   rw [m1,decide_eq_false hx2]; rfl
  rw [e0,e1]; rfl
 have g5:∀ k:List G_Spot→Int→Option R,yawy.band_Merge q p k = k x 0:=fun k=>by
  refine (ylwy fq fp (by omega) (by omega) R k).trans ?_
  have e0:orL [yasy q,yasy p] = 0:=by rw [xq,xp]; rfl
  have e1:yf6y q p = (x,0):=by
   unfold yf6y
   rw [m2,decide_eq_false hx2]; rfl
  rw [e0,e1]; rfl
 have g6:∀ k:List UInt8→Int→Option R,yawy.band_Text x k = k (textS x) 0:=fun k=>ypAy hf sd (by omega) fx R k
 have g7:∀ k:List G_Spot→Int→Int→Option R,yawy.band_Read (textS x) k = k x 0 0:=fun k=>by
  refine (yxoy at' R k).trans ?_
  rw [rb]
 have g8:∀ k:Int→Option R,yawy.keep_errs [0,0,0,0] k = k 0:=fun k=>yBty R k
 have g9:∀ k:Bool→Option R,yawy.z38z x x k = k true:=fun k=>yCty (by omega) R k
 have g10:∀ k:Bool→Option R,yawy.keep_ready k = k true:=fun k=>ytby R k
 show ycOy yawy l k = _
 unfold ycOy
 rw [g1,g2,g3,g4,g5,g6,g7,g8,beq_self_eq_true,cond_true,g9,cond_true,g9,cond_true,g9,cond_true,g10]
end Go.Am
