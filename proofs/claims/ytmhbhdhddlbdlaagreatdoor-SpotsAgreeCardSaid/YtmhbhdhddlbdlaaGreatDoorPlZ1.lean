/- The plain law, in Lean alone: Z1, Z2, Z3, Z6. No condition: lemmas for the claim. -/
import Derived.Test.YtmhbhdhddlbdlaaGreatDoorPlS1
import Derived.Test.YtmhbhdhddlbdlaaGreatDoorPlB1
import Derived.Test.YtmhbhdhddlbdlaaGreatDoorPlK
set_option linter.unusedVariables false
set_option linter.unusedSectionVars false
set_option linter.unusedSimpArgs false
set_option maxRecDepth 100000
namespace Go.Am
open Go Go.Proofs
variable [Fuel]
end Go.Am
set_option linter.unusedVariables false
set_option linter.unusedSectionVars false
set_option linter.unusedSimpArgs false
set_option maxRecDepth 100000
namespace Go.Am
open Go Go.Proofs
variable [Fuel]
structure FineSp (c:G_Spot):Prop where
 at1:Mid c.f_At
 hertz:Mid c.f_Hertz
 call:c.f_Call ∈ ydOy
 by1:c.f_By ∈ ydOy
def cmpSp (x y:G_Spot):Int:=orL [cmpI x.f_At y.f_At,cmpI x.f_Hertz y.f_Hertz,Lib.compareBytes x.f_Call y.f_Call,Lib.compareBytes x.f_By y.f_By]
theorem yfzy:Ords cmpSp:=.lex (ys1y.on fun c:G_Spot=>c.f_At) (.lex (ys1y.on fun c:G_Spot=>c.f_Hertz) (.lex (yzly.on fun c:G_Spot=>c.f_Call) (.lex (yzly.on fun c:G_Spot=>c.f_By) .nil)))
theorem ykJy {x y:G_Spot} (h:cmpSp x y = 0):x = y:=by
 unfold cmpSp at h
 rw [yEQy] at h
 simp only [List.mem_cons,List.not_mem_nil,or_false,forall_eq_or_imp,forall_eq,yCZy,yz4y] at h
 obtain ⟨h1,h2,h3,h4⟩:=h
 cases x; cases y
 simp only at h1 h2 h3 h4
 subst h1 h2 h3 h4
 rfl
theorem z18z_is (x y:G_Spot) (R:Type) (k:Int→Option R):z18z x y k = k (cmpSp x y):=by
 simp only [z18z,z18z_,yphy,cmpSp,z14z_is,ygPy]
 rw [z20z_is _ (by simp)]
theorem ylAy (a b c d:Int) (R:Type) (k:Int→Option R):z23z [a,b] [c,d] k = k (bif cmpI a c != 0 then cmpI a c else cmpI b d):=by
 obtain ⟨m,e,hm⟩:=ynvy
 obtain ⟨m,rfl⟩:∃ q,m = q + 2:=⟨m - 2,by omega⟩
 have w1:w64 (0 + 1) = ((1:Nat):Int):=yayy (by omega) (by omega)
 have w2:w64 (((1:Nat):Int) + 1) = ((2:Nat):Int):=by rw [yayy (by omega) (by omega)]; rfl
 have a0:∀ {R:Type} (x y:Int) (k:Int→Option R),get_ [x,y] 0 k = k x:=fun x y k=>yesy (i:=0) rfl k
 have a1:∀ {R:Type} (x y:Int) (k:Int→Option R),get_ [x,y] ((1:Nat):Int) k = k y:=fun x y k=>yesy (i:=1) rfl k
 have d0:decide ((0:Int) < ([a,b].length:Int)) = true:=rfl
 have d1:decide (((1:Nat):Int) < ([a,b].length:Int)) = true:=rfl
 have d2:decide (((2:Nat):Int) < ([a,b].length:Int)) = false:=rfl
 have f0:decide ((0:Int) ≥ ([c,d].length:Int)) = false:=rfl
 have f1:decide (((1:Nat):Int) ≥ ([c,d].length:Int)) = false:=rfl
 have f2:decide (([a,b].length:Int) < ([c,d].length:Int)) = false:=rfl
 simp only [z23z,z23z_]
 rw [show yg0y.N = m + 2 + 1 from e]
 simp only [z23z_L2,d0,d1,d2,f0,f1,f2,w1,w2,a0,a1,yg0y,cond_true,cond_false,z14z_is]
 cases h1:cmpI a c != 0 with
 | true=>simp only [cond_true]
 | false =>
  simp only [cond_false]
  cases h2:cmpI b d != 0 with
  | true=>simp only [cond_true]
  | false =>
   have h3:cmpI b d = 0:=by simpa using h2
   simp only [cond_false,h3]
theorem yqSy (a b:List UInt8) (R:Type) (k:Int→Option R):z58z a b k = k (Lib.compareBytes a b):=by
 simp only [z58z,z58z_,ywcy,z80z,z80z_,beq_self_eq_true,Bool.not_true,cond_false,ylBy]
 rcases yFuy a b with h | h | h
 ·rw [h]; rfl
 ·have e:=ysly a b h
  subst e
  rw [h,beq_self_eq_true]; rfl
 ·have e:(a == b) = false:=by
   cases hq:a == b with
   | false=>rfl
   | true=>have:=eq_of_beq hq; subst this; rw [yrIy] at h; cases h
  rw [h,e]; rfl
theorem ylxy (a b c d:List UInt8) (R:Type) (k:Int→Option R):z17z [a,b] [c,d] k = k (bif Lib.compareBytes a c != 0 then Lib.compareBytes a c else Lib.compareBytes b d):=by
 obtain ⟨m,e,hm⟩:=ynvy
 obtain ⟨m,rfl⟩:∃ q,m = q + 2:=⟨m - 2,by omega⟩
 have w1:w64 (0 + 1) = ((1:Nat):Int):=yayy (by omega) (by omega)
 have w2:w64 (((1:Nat):Int) + 1) = ((2:Nat):Int):=by rw [yayy (by omega) (by omega)]; rfl
 have a0:∀ {R:Type} (x y:List UInt8) (k:List UInt8→Option R),get_ [x,y] 0 k = k x:=fun x y k=>yesy (i:=0) rfl k
 have a1:∀ {R:Type} (x y:List UInt8) (k:List UInt8→Option R),get_ [x,y] ((1:Nat):Int) k = k y:=fun x y k=>yesy (i:=1) rfl k
 have d0:decide ((0:Int) < ([a,b].length:Int)) = true:=rfl
 have d1:decide (((1:Nat):Int) < ([a,b].length:Int)) = true:=rfl
 have d2:decide (((2:Nat):Int) < ([a,b].length:Int)) = false:=rfl
 have f0:decide ((0:Int) ≥ ([c,d].length:Int)) = false:=rfl
 have f1:decide (((1:Nat):Int) ≥ ([c,d].length:Int)) = false:=rfl
 have f2:decide (([a,b].length:Int) < ([c,d].length:Int)) = false:=rfl
 simp only [z17z,z17z_]
 rw [show ygDy.N = m + 2 + 1 from e]
 simp only [z17z_L2,d0,d1,d2,f0,f1,f2,w1,w2,a0,a1,ygDy,cond_true,cond_false,yqSy]
 cases h1:Lib.compareBytes a c != 0 with
 | true=>simp only [cond_true]
 | false =>
  simp only [cond_false]
  cases h2:Lib.compareBytes b d != 0 with
  | true=>simp only [cond_true]
  | false =>
   have h3:Lib.compareBytes b d = 0:=by simpa using h2
   simp only [cond_false,h3]
theorem z2z_is (x y:G_Spot) (R:Type) (k:Int→Option R):z2z x y k = k (cmpSp x y):=by
 simp only [z2z,z2z_,I_z2z,ylAy,ylxy,cmpSp,orL]
 cases h1:cmpI x.f_At y.f_At != 0 with
 | true=>simp only [cond_true,h1]
 | false =>
  cases h2:cmpI x.f_Hertz y.f_Hertz != 0 with
  | true=>simp only [cond_true,cond_false,h2]
  | false =>
   simp only [cond_false,h2]
   cases h3:Lib.compareBytes x.f_Call y.f_Call != 0 with
   | true=>simp only [cond_true]
   | false =>
    simp only [cond_false]
    cases h4:Lib.compareBytes x.f_By y.f_By != 0 with
    | true=>rfl
    | false =>
     have:Lib.compareBytes x.f_By y.f_By = 0:=by simpa using h4
     rw [this]; rfl
theorem yBOy {l:List G_Spot} (hl:l.length≤20) (R:Type) (k:List G_Spot→Option R):z21z l k = k (sortI cmpSp l):=by
 simp only [z21z,z21z_,ywzy,yLby]
 exact yF3y cmpSp (fun _=>True) (fun x y _ _=>z2z_is x y) l (fun _ _=>trivial) hl (by have:=NN_ok; omega) (by have:=NN_ok; omega) _ (fun l a b R k=>by rw [yKmy]) k
theorem yvny {l:List G_Spot} (hl:l.length≤100000) (R:Type) (k:List G_Spot→Option R):z9z l k = k (ybuy yaZy l):=by
 rw [yLUy]
 exact yFQy yaZy (fun _=>True) (fun x y _ _ R k=>rfl) l (by have:=NN_ok; omega) (by have:=NN_ok; omega) (fun _ _=>trivial) k
theorem yI5y {a b:List G_Spot} (ha:a.length≤100000) (hb:b.length≤100000) (R:Type) (k:List G_Spot→Option R):z7z [a,b] k = k (a ++ b):=by
 rw [yLJy]; exact yFDy a b ha hb (by omega) (by have:=NN_ok; omega) k
theorem yCty {l:List G_Spot} (hl:l.length≤1000000) (R:Type) (k:Bool→Option R):z38z l l k = k true:=by
 rw [yJUy]; exact yx9y (by have:=NN_ok; omega) (by have:=NN_ok; omega) (fun x=>by rw [(ylQy x x).2 rfl]; rfl) k
theorem z37z_loop (m:Nat):∀ (n i:Nat) (at0:Int) (s:G_Stream) (out:List G_Spot) (b:Int),m - i < n→i≤m→SOk (b + 20 * (i:Int)) s→b≤1000000→0≤at0→at0≤20 * (i:Int)→out.length = i→(∀ c ∈ out,FineSp c)→m≤600 →
  ∃ (r:List G_Spot) (s':G_Stream),SOk (b + 20 * (m:Int)) s'∧r.length = m∧(∀ c ∈ r,FineSp c)∧∀ (R:Type) (e0:G_Stream→List G_Spot→Option R),z37z_L4 ycjy n at0 (m:Int) (i:Int) s out e0 = e0 s' r
 | 0,i,_,_,_,_,h,_,_,_,_,_,_,_,_=>by omega
 | n + 1,i,at0,s,out,b,h,hi,hs,hb,h1,h2,ho,hf,hm6=>by
  by_cases hc:i < m
  ·obtain ⟨p,s1,hp,z1,e1⟩:=z73z_gives hs [0,1,5,20] (by omega) (by simp) (by simp)
   obtain ⟨hz,s2,hhz,z2,e2⟩:=z73z_gives z1 [7000000,7100000,7299999,7300000,14000000,14010000,14020000,14020000,1800000,5000000] (by omega) (by simp) (by simp)
   obtain ⟨cl,s3,hcl,z3,e3⟩:=z75z_gives z2 (by omega)
   obtain ⟨bd,s4,hbd,z4,e4⟩:=z70z_gives z3 [[119,49,97,119],[110,49,109,109]] (by omega) (by simp) (by simp)
   obtain ⟨f,s5,z5,e5⟩:=z63z_gives z4 80 (by omega) (by omega)
   simp only [List.mem_cons,List.not_mem_nil,or_false] at hp hhz
   have ea:w64 (at0 + p) = at0 + p:=yayy (by omega) (by omega)
   have hcard:∃ (c:G_Spot) (s':G_Stream),FineSp c∧SOk (b + 20 * ((i + 1:Nat):Int)) s'∧∀ (R:Type) (e0:G_Stream→List G_Spot→Option R),z37z_L4 ycjy (n + 1) at0 (m:Int) (i:Int) s out e0 = z37z_L4 ycjy n (at0 + p) (m:Int) ((i + 1:Nat):Int) s' (out ++ [c]) e0:=by
    cases f with
    | false =>
     refine ⟨⟨at0 + p,hz,cl,bd⟩,s5,⟨⟨by simp only; omega,by simp only; omega⟩,⟨by simp only; omega,by simp only; omega⟩,hcl,ymVy hbd (by decide +kernel)⟩,z5.mono (by omega),fun R e0=>?_⟩
     rw [z37z_L4]
     simp only [ycjy,decide_eq_true (show (i:Int) < (m:Int) by omega),cond_true,e1,e2,e3,e4,e5,ea,cond_false,room1 out _ 48 (show out.length≤1000000 by omega) (by omega)]
     rw [yauy (by omega)]
    | true =>
     obtain ⟨x1,t1,x11,x12,y1,f1⟩:=yhSy z5 0 100 (by omega) (by omega) (by omega) (by omega) (by omega)
     obtain ⟨x2,t2,x21,x22,y2,f2⟩:=yhSy y1 0 30000000000 (by omega) (by omega) (by omega) (by omega) (by omega)
     obtain ⟨x4,t4,hx4,y4,f4⟩:=z70z_gives y2 [[],[119,49,97,119]] (by omega) (by simp) (by simp)
     refine ⟨⟨x1,x2,cl,x4⟩,t4,⟨⟨by simp only; omega,by simp only; omega⟩,⟨by simp only; omega,by simp only; omega⟩,hcl,ymVy hx4 (by decide +kernel)⟩,y4.mono (by omega),fun R e0=>?_⟩
     rw [z37z_L4]
     simp only [ycjy,decide_eq_true (show (i:Int) < (m:Int) by omega),cond_true,e1,e2,e3,e4,e5,ea,f1,f2,f4,room1 out _ 48 (show out.length≤1000000 by omega) (by omega)]
     rw [yauy (by omega)]
   obtain ⟨c,s',hcf,zs,hstep⟩:=hcard
   obtain ⟨r,s'',g1,g2,g3,g4⟩:=z37z_loop m n (i + 1) (at0 + p) s' (out ++ [c]) b (by omega) (by omega) zs hb (by omega) (by omega) (by simp [ho]) (fun x hx=>by
    rcases List.mem_append.1 hx with h | h
    ·exact hf x h
    ·simp at h; rw [h]; exact hcf) hm6
   exact ⟨r,s'',g1,g2,g3,fun R e0=>by rw [hstep,g4]⟩
  ·refine ⟨out,s,hs.mono (by omega),by omega,hf,fun R e0=>?_⟩
   rw [z37z_L4,decide_eq_false (by omega)]; rfl
theorem z37z_gives {b:Int} {s:G_Stream} (hs:SOk b s) (hb:b≤1000000) (m:Nat) (hm:m≤20) :
  ∃ (r:List G_Spot) (s':G_Stream),SOk (b + 20 * (m:Int)) s'∧r.length≤m∧(∀ c ∈ r,FineSp c)∧∀ (R:Type) (k:List G_Spot→G_Stream→Option R),z37z s (m:Int) k = k r s':=by
 obtain ⟨r,s',g1,g2,g3,g4⟩:=z37z_loop m NN 0 0 s [] b (by have:=NN_ok; omega) (by omega) (hs.mono (by omega)) hb (by omega) (by omega) rfl (fun c h=>by cases h) (by omega)
 have g4':∀ (R:Type) (e0:G_Stream→List G_Spot→Option R),z37z_L4 ycjy ycjy.N 0 (m:Int) 0 s [] e0 = e0 s' r:=g4
 refine ⟨ybuy yaZy (sortI cmpSp r),s',g1,?_,fun c h=>g3 c (ysUy.1 (yhQy h)),fun R k=>?_⟩
 ·have:=yvuy yaZy (sortI cmpSp r)
  have:=yimy cmpSp r
  omega
 ·simp only [z37z,z37z_,g4']
  simp only [ycjy,yBOy (show r.length≤20 by omega),yvny (show (sortI cmpSp r).length≤100000 by rw [yimy]; omega)]
noncomputable def chkS (c:G_Spot):Int:=bif !momB c.f_At then 1 else bif !inB c.f_Hertz 0 30000000000 then 1 else bif !callB c.f_Call then 3 else bif !callB c.f_By then 3 else 0
noncomputable def yaWy:Option G_Spot→List G_Spot→Int
 | _,[]=>0
 | p,c :: cs=>bif chkS c != 0 then chkS c else match p with
  | none=>yaWy (some c) cs
  | some q=>bif decide (cmpSp q c ≥ 0) then 7 else yaWy (some c) cs
theorem z10z_loop (d:List G_Spot) (hf:∀ c ∈ d,FineSp c) (hl:d.length≤100000):∀ (xs:List G_Spot) (n i:Nat) (p:Option G_Spot),d.drop i = xs→ydiy d i p→xs.length < n→∀ (R:Type) (k:Int→Option R),
  z10z_L4 ybBy n d d (d.length:Int) (i:Int) k (k 0) = k (yaWy p xs)
 | _,0,_,_,_,_,h,_,_=>by omega
 | [],n + 1,i,p,h,_,_,_,_=>by rw [z10z_L4,ybqy h]; rfl
 | c :: cs,n + 1,i,p,h,hp,hn,R,k=>by
  have h':=yaqy h
  have ih:=z10z_loop d hf hl cs n (i + 1) (some c) h'.2.2.1 (ydYy h) (Nat.lt_of_succ_lt_succ (by simpa only [List.length_cons] using hn)) R k
  have hc:=hf c (ybPy h)
  rw [z10z_L4,ybdy h]
  simp only [ybBy] at ih
  simp only [cond_true,ya2y h,ybBy,z49z_is,z45z_is,yqYy hc.call,yqYy hc.by1,z18z_is,yaWy,chkS,yauy (show i < 4611686018427387904 by omega),ih]
  cases momB c.f_At <;> cases inB c.f_Hertz 0 30000000000 <;> cases callB c.f_Call <;> cases callB c.f_By <;> try rfl
  cases p with
  | none=>rw [decide_eq_false (show ¬ ((i:Int) > 0) by unfold ydiy at hp; omega)]; rfl
  | some q =>
   obtain ⟨h0,ys,hq⟩:=hp
   rw [decide_eq_true (show ((i:Int) > 0) by omega),ygMy hq h0 (by omega)]
   simp only [Bool.not_true,cond_false,cond_true,bne_self_eq_false]
   cases decide (cmpSp q c ≥ 0) <;> rfl
theorem z41z_loop (d:List G_Spot) (hf:∀ c ∈ d,FineSp c) (hl:d.length≤100000):∀ (xs:List G_Spot) (n i:Nat) (p:Option G_Spot),d.drop i = xs→ydiy d i p→xs.length < n→∀ (R:Type) (k:Int→Option R),
  z41z_L4 ycTy n d d (d.length:Int) (i:Int) k (k 0) = k (yaWy p xs)
 | _,0,_,_,_,_,h,_,_=>by omega
 | [],n + 1,i,p,h,_,_,_,_=>by rw [z41z_L4,ybqy h]; rfl
 | c :: cs,n + 1,i,p,h,hp,hn,R,k=>by
  have h':=yaqy h
  have ih:=z41z_loop d hf hl cs n (i + 1) (some c) h'.2.2.1 (ydYy h) (Nat.lt_of_succ_lt_succ (by simpa only [List.length_cons] using hn)) R k
  have hc:=hf c (ybPy h)
  rw [z41z_L4,ybdy h]
  simp only [ycTy] at ih
  simp only [cond_true,ya2y h,ycTy,yxMy,yyDy,ysMy hc.call,ysMy hc.by1,z2z_is,yaWy,chkS,yauy (show i < 4611686018427387904 by omega),ih]
  cases momB c.f_At <;> cases inB c.f_Hertz 0 30000000000 <;> cases callB c.f_Call <;> cases callB c.f_By <;> try rfl
  cases p with
  | none=>rw [decide_eq_false (show ¬ ((i:Int) > 0) by unfold ydiy at hp; omega)]; rfl
  | some q =>
   obtain ⟨h0,ys,hq⟩:=hp
   rw [decide_eq_true (show ((i:Int) > 0) by omega),ygMy hq h0 (by omega)]
   simp only [Bool.not_true,cond_false,cond_true,bne_self_eq_false]
   cases decide (cmpSp q c ≥ 0) <;> rfl
noncomputable def yasy (d:List G_Spot):Int:=bif decide ((d.length:Int) > 2000) then 2 else yaWy none d
theorem z10z_is {d:List G_Spot} (hf:∀ c ∈ d,FineSp c) (hl:d.length≤100000) (R:Type) (k:Int→Option R):z10z d k = k (yasy d):=by
 have h:z10z_L4 ybBy ybBy.N d d (d.length:Int) 0 k (k 0) = k (yaWy none d):=z10z_loop d hf hl d ybBy.N 0 none rfl rfl (show d.length < NN by have:=NN_ok; omega) R k
 simp only [z10z,z10z_,yasy,h]
 cases decide ((d.length:Int) > 2000) <;> rfl
theorem z41z_is {d:List G_Spot} (hf:∀ c ∈ d,FineSp c) (hl:d.length≤100000) (R:Type) (k:Int→Option R):z41z d k = k (yasy d):=by
 have h:z41z_L4 ycTy ycTy.N d d (d.length:Int) 0 k (k 0) = k (yaWy none d):=z41z_loop d hf hl d ycTy.N 0 none rfl rfl (show d.length < NN by have:=NN_ok; omega) R k
 simp only [z41z,z41z_,yasy,h]
 cases decide ((d.length:Int) > 2000) <;> rfl
theorem yASy {l:List G_Spot} (hl:l.length≤100000) (R:Type) (k:List G_Spot→Option R):z30z l k = k (sortI cmpSp l) :=
 yx2y yfzy (by omega) (fun x _ y _ h=>ykJy h) (fun x _ y _=>z18z_is x y) k
def ygSy (a b:List G_Spot):List G_Spot:=ybuy yaZy (sortI cmpSp (a ++ b))
def yf6y (a b:List G_Spot):List G_Spot×Int:=bif decide (((ygSy a b).length:Int) > 2000) then ([],2) else (ygSy a b,0)
theorem ylwy {a b:List G_Spot} (ha:∀ c ∈ a,FineSp c) (hb:∀ c ∈ b,FineSp c) (hla:a.length≤1000) (hlb:b.length≤1000) (R:Type) (k:List G_Spot→Int→Option R) :
  band_Merge a b k = bif orL [yasy a,yasy b] != 0 then k [] (orL [yasy a,yasy b]) else k (yf6y a b).1 (yf6y a b).2:=by
 have hloop:∀ (R:Type) (e0:List G_Spot→List G_Spot→Int→Option R) (e1:List G_Spot→List G_Spot→Option R),ycey yaQy yaQy.N a b ([a,b].length:Int) 0 [a,b] e0 e1 = bif orL [yasy a,yasy b] != 0 then e0 a b (orL [yasy a,yasy b]) else e1 a b:=fun R e0 e1=>by
  obtain ⟨m,e,hm⟩:=ynvy
  obtain ⟨m,rfl⟩:∃ q,m = q + 2:=⟨m - 2,by omega⟩
  have w1:w64 (0 + 1) = ((1:Nat):Int):=yayy (by omega) (by omega)
  have w2:w64 (((1:Nat):Int) + 1) = ((2:Nat):Int):=by rw [yayy (by omega) (by omega)]; rfl
  have i0:∀ {R:Type} (k:Option R),inr [a,b] 0 k = k:=fun k=>ybEy (i:=0) (by simp) k
  have a0:∀ {R:Type} (k:List G_Spot→Option R),at_ [a,b] 0 k = k a:=fun k=>yaOy (i:=0) rfl k
  have i1:∀ {R:Type} (k:Option R),inr [a,b] ((1:Nat):Int) k = k:=fun k=>ybEy (i:=1) (by simp) k
  have a1:∀ {R:Type} (k:List G_Spot→Option R),at_ [a,b] ((1:Nat):Int) k = k b:=fun k=>yaOy (i:=1) rfl k
  have d0:decide ((0:Int) < ([a,b].length:Int)) = true:=rfl
  have d1:decide (((1:Nat):Int) < ([a,b].length:Int)) = true:=rfl
  have d2:decide (((2:Nat):Int) < ([a,b].length:Int)) = false:=rfl
  rw [show yaQy.N = m + 2 + 1 from e]
  simp only [ycey,d0,d1,d2,w1,w2,i0,i1,a0,a1,yaQy,cond_true,cond_false,z10z_is ha (show a.length≤100000 by omega),z10z_is hb (show b.length≤100000 by omega),orL]
  cases h1:yasy a != 0 with
  | true=>simp only [cond_true,h1]
  | false =>
   simp only [cond_false]
   cases h2:yasy b != 0 with
   | true=>simp only [cond_true,h2]
   | false=>simp only [cond_false,bne_self_eq_false]
 have hco:∀ (R:Type) (k:List G_Spot→Option R),z9z (sortI cmpSp (a ++ b)) k = k (ygSy a b):=fun R k=>yvny (by rw [yimy]; simp; omega) R k
 simp only [yaQy] at hloop
 simp only [band_Merge,yiUy,yaQy,hloop,yI5y (show a.length≤100000 by omega) (show b.length≤100000 by omega),yASy (show (a ++ b).length≤100000 by simp; omega),hco,yf6y]
 cases orL [yasy a,yasy b] != 0 <;> cases decide (((ygSy a b).length:Int) > 2000) <;> rfl
end Go.Am
set_option linter.unusedVariables false
set_option linter.unusedSectionVars false
set_option linter.unusedSimpArgs false
set_option maxRecDepth 100000
namespace Go.Am
open Go Go.Proofs
variable [Fuel]
end Go.Am
set_option linter.unusedVariables false
set_option linter.unusedSectionVars false
set_option linter.unusedSimpArgs false
set_option maxRecDepth 100000
namespace Go.Am
open Go Go.Proofs
variable [Fuel]
end Go.Am
