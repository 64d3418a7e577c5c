/- The plain law, in Lean alone: TS1, TS2. No condition: lemmas for the claim. -/
import Derived.Test.YtmhbhdhddlbdlaaGreatDoorPlT6
import Derived.Test.YtmhbhdhddlbdlaaGreatDoorPlZ1
import Derived.Test.YtmhbhdhddlbdlaaGreatDoorPlR4
set_option linter.unusedVariables false
set_option linter.unusedSectionVars false
set_option linter.unusedSimpArgs false
set_option maxRecDepth 100000
namespace Go.Am
open Go Go.Proofs
variable [Fuel]
structure FineSW (c:G_Spot):Prop where
 call:c.f_Call.length≤1000000
 calla:ascB c.f_Call
 by1:c.f_By.length≤1000000
 bya:ascB c.f_By
theorem z10z_loopW (d:List G_Spot) (hf:∀ c ∈ d,FineSW c) (hl:d.length≤1000000):∀ (xs:List G_Spot) (n i:Nat) (p:Option G_Spot),d.drop i = xs→ydiy d i p→xs.length < n→∀ (R:Type) (k:Int→Option R),
  z10z_L4 ybBy n d d (d.length:Int) (i:Int) k (k 0) = k (yaWy p xs)
 | _,0,_,_,_,_,h,_,_=>by omega
 | [],n + 1,i,p,h,_,_,_,_=>by rw [z10z_L4,ybqy h]; rfl
 | c :: cs,n + 1,i,p,h,hp,hn,R,k=>by
  have h':=yaqy h
  have ih:=z10z_loopW d hf hl cs n (i + 1) (some c) h'.2.2.1 (ydYy h) (Nat.lt_of_succ_lt_succ (by simpa only [List.length_cons] using hn)) R k
  have hc:=hf c (ybPy h)
  rw [z10z_L4,ybdy h]
  simp only [ybBy] at ih
  simp only [cond_true,ya2y h,ybBy,z49z_is,z45z_is,ysHy hc.call,ysHy hc.by1,z18z_is,yaWy,chkS,yauy (show i < 4611686018427387904 by omega),ih]
  cases momB c.f_At <;> cases inB c.f_Hertz 0 30000000000 <;> cases callB c.f_Call <;> cases callB c.f_By <;> try rfl
  cases p with
  | none=>rw [decide_eq_false (show ¬ ((i:Int) > 0) by unfold ydiy at hp; omega)]; rfl
  | some q =>
   obtain ⟨h0,ys,hq⟩:=hp
   rw [decide_eq_true (show ((i:Int) > 0) by omega),ygMy hq h0 (by omega)]
   simp only [Bool.not_true,cond_false,cond_true,bne_self_eq_false]
   cases decide (cmpSp q c ≥ 0) <;> rfl
theorem z10z_W {d:List G_Spot} (hf:∀ c ∈ d,FineSW c) (hl:d.length≤1000000) (R:Type) (k:Int→Option R):z10z d k = k (yasy d):=by
 have h:z10z_L4 ybBy ybBy.N d d (d.length:Int) 0 k (k 0) = k (yaWy none d):=z10z_loopW d hf hl d ybBy.N 0 none rfl rfl (show d.length < NN by have:=NN_ok; omega) R k
 simp only [z10z,z10z_,yasy,h]
 cases decide ((d.length:Int) > 2000) <;> rfl
def yLmy:G_Spot:=⟨0,0,[],[]⟩
def spotQ:List (List UInt8)→G_Spot
 | [w0,w1,w2,w3]=>⟨numQ w0,numQ w1,w2,w3⟩
 | _=>yLmy
def spotB:List (List UInt8)→Bool
 | [w0,w1,_,_]=>[w0,w1].all numB
 | _=>false
theorem fourS {ws:List (List UInt8)}:(((ws.length:Int) != 4) = true∧spotB ws = false) ∨ ∃ w0 w1 w2 w3,ws = [w0,w1,w2,w3]:=by
 match ws with
 | [w0,w1,w2,w3]=>exact .inr ⟨w0,w1,w2,w3,rfl⟩
 | []=>exact .inl ⟨rfl,rfl⟩
 | [_]=>exact .inl ⟨rfl,rfl⟩
 | [_,_]=>exact .inl ⟨rfl,rfl⟩
 | [_,_,_]=>exact .inl ⟨rfl,rfl⟩
 | _ :: _ :: _ :: _ :: _ :: l=>exact .inl ⟨by rw [bne_iff_ne]; simp only [List.length_cons]; omega,rfl⟩
def lineS (l:List UInt8):Option G_Spot:=if yewy l && spotB (yaky 32 l) then some (spotQ (yaky 32 l)) else none
theorem yEly {l:List UInt8} {c:G_Spot} (h:lineS l = some c):c = spotQ (yaky 32 l):=by
 unfold lineS at h
 split at h
 ·exact (Option.some.inj h).symm
 ·cases h
theorem yHKy {w0 w1:List UInt8} {ws:List (List UInt8)} (hd:∀ w ∈ w0 :: w1 :: ws,w.length≤1000000):∀ w ∈ [w0,w1],w.length≤1000000:=fun w hw=>by
 simp only [List.mem_cons,List.not_mem_nil,or_false] at hw
 rcases hw with rfl | rfl <;> exact hd _ (by simp)
theorem yjQy (d:List (List UInt8)) (ended:Bool) (hd:∀ l ∈ d,l.length≤900000) (hl:d.length≤900000):∀ (xs:List (List UInt8)) (n i:Nat) (acc:List G_Spot),d.drop i = xs→xs.length < n→acc.length≤i→∀ (R:Type) (e0:Int→Int→Option R) (e1:List G_Spot→Option R),
  ybMy yaVy n ended (d.length:Int) (i:Int) d acc (fun a b _=>e0 a b) e1 = match goG lineS ended i xs acc with | .inl j=>e0 (j:Int) 9 | .inr a=>e1 a
 | _,0,_,_,_,h,_,_,_,_=>by omega
 | [],n + 1,i,acc,h,_,_,R,e0,e1=>by rw [ybMy,ybqy h]; rfl
 | l :: ls,n + 1,i,acc,h,hn,ha,R,e0,e1=>by
  have h':=yaqy h
  have hlt:=h'.2.1
  have hll:=hd l (ybPy h)
  have hwl:=ysYy (l:=l) (by omega)
  have ih:=fun c hc=>yjQy d ended hd hl ls n (i + 1) (acc ++ [c]) h'.2.2.1 (Nat.lt_of_succ_lt_succ (by simpa only [List.length_cons] using hn)) hc R e0 e1
  have w1:∀ k:List (List UInt8)→Bool→Option R,yaVy.kit_Words l k = bif yewy l then k (yaky 32 l) true else k [] false:=fun k=>yyly hll R k
  have hlast:((i:Int) == w64 ((d.length:Int) - 1)) = (ls == []):=by
   rw [yf8y (by omega) (by omega)]
   have e:=h'.2.2.2
   cases ls with
   | nil=>rw [List.length_nil] at e; rw [show d.length - 1 = i by omega]; simp
   | cons a b =>
    rw [List.length_cons] at e
    have:((i:Int) == ((d.length - 1:Nat):Int)) = false:=beq_eq_false_iff_ne.2 (by omega)
    rw [this]; rfl
  rw [ybMy,ybdy h,cond_true,yoSy h,yaOy h'.1,w1,yh0y]
  unfold lineS
  cases yewy l with
  | false =>
   rw [cond_false,Bool.not_false,cond_true,Bool.false_and]
   cases !ended && ls == [] <;> rfl
  | true =>
   rw [cond_true,Bool.not_true,cond_false,hlast,Bool.true_and]
   generalize yaky 32 l = ws at hwl
   rcases fourS (ws:=ws) with ⟨h1,h2⟩ | ⟨w0,w1,w2,w3,rfl⟩
   ·rw [h1,h2,cond_true]
    cases !ended && ls == [] <;> rfl
   ·have n3:∀ k:List Int→Bool→Option R,yaVy.z48z [w0,w1] k = bif [w0,w1].all numB then k [numQ w0,numQ w1] true else k [] false:=fun k=>z48z_g (yHKy hwl) (by simp) R k
    have hlen:((([w0,w1,w2,w3].length:Nat):Int) != 4) = false:=rfl
    have htk:(decide ((0:Nat)≤2) && decide ((2:Int)≤(([w0,w1,w2,w3].length:Nat):Int))) = true:=rfl
    have htw:[w0,w1,w2,w3].take ((2:Int)).toNat = [w0,w1]:=rfl
    have i0:∀ X:Option R,inr [numQ w0,numQ w1] 0 X = X:=fun _=>rfl
    have i1:∀ X:Option R,inr [numQ w0,numQ w1] 1 X = X:=fun _=>rfl
    have i2:∀ X:Option R,inr [w0,w1,w2,w3] 2 X = X:=fun _=>rfl
    have i3:∀ X:Option R,inr [w0,w1,w2,w3] 3 X = X:=fun _=>rfl
    have a0:∀ k:Int→Option R,at_ [numQ w0,numQ w1] 0 k = k (numQ w0):=fun _=>rfl
    have a1:∀ k:Int→Option R,at_ [numQ w0,numQ w1] 1 k = k (numQ w1):=fun _=>rfl
    have a2:∀ k:List UInt8→Option R,at_ [w0,w1,w2,w3] 2 k = k w2:=fun _=>rfl
    have a3:∀ k:List UInt8→Option R,at_ [w0,w1,w2,w3] 3 k = k w3:=fun _=>rfl
    have eB:spotB [w0,w1,w2,w3] = [w0,w1].all numB:=rfl
    have eQ:spotQ [w0,w1,w2,w3] = ⟨numQ w0,numQ w1,w2,w3⟩:=rfl
    rw [hlen,cond_false,htk,cond_true,htw,n3,eB,eQ]
    cases [w0,w1].all numB with
    | false =>
     cases ended <;> cases ls == [] <;> rfl
    | true =>
     rw [cond_true,Bool.not_true,cond_false,i0,a0,i1,a1,i2,a2,i3,a3,room1 acc _ 48 (by omega) (by omega),cond_true,yauy (show i < 4611686018427387904 by omega),ih _ (by simp; omega)]
     cases ended <;> cases ls == [] <;> rfl
theorem yAYy {l:List UInt8} (hl:l.length≤900000) (ha:ascB l) {c:G_Spot} (h:lineS l = some c):FineSW c:=by
 have hc:=yEly h
 have hw:=ysYy (l:=l) (by omega)
 have hm:=ykpy 32 l
 subst hc
 unfold lineS at h
 rcases fourS (ws:=yaky 32 l) with ⟨h1,h2⟩ | ⟨w0,w1,w2,w3,e⟩
 ·rw [h2,Bool.and_false] at h; cases h
 ·rw [e] at hw hm ⊢
  exact ⟨hw w2 (by simp),fun x hx=>ha x (hm w2 (by simp) x hx).1,hw w3 (by simp),fun x hx=>ha x (hm w3 (by simp) x hx).1⟩
noncomputable def readS (s:List UInt8):List G_Spot×Int×Int:=if s.length > 200000 then ([],0,2) else match goG lineS (endG s) 0 (ybfy s) [] with
 | .inl j=>([],(j:Int),9)
 | .inr a=>if yasy a != 0 then ([],0,yasy a) else (a,0,0)
theorem yAoy {s:List UInt8} (ha:ascB s) (hl:s.length≤200000) {a:List G_Spot} (h:goG lineS (endG s) 0 (ybfy s) [] = .inr a):(∀ c ∈ a,FineSW c)∧a.length≤900000:=by
 have hm:=yqKy s
 have hn:=ypEy s
 have:=yzay lineS FineSW (endG s) (ybfy s) 0 [] a (fun l hL c hc=>yAYy (by have:=(hm l hL).1; omega) (fun x hx=>ha x ((hm l hL).2 x hx)) hc) (fun c hc=>by cases hc) h
 exact ⟨this.1,by have:=this.2; simp only [List.length_nil] at this; omega⟩
theorem yDRy {s:List UInt8} (hl:s.length > 200000):readS s = ([],0,2):=by unfold readS; rw [if_pos hl]
theorem yDTy {s:List UInt8} (hl:¬ s.length > 200000) {j:Nat} (hg:goG lineS (endG s) 0 (ybfy s) [] = .inl j):readS s = ([],(j:Int),9):=by unfold readS; rw [if_neg hl,hg]
theorem ys2y {s:List UInt8} (hl:¬ s.length > 200000) {a:List G_Spot} (hg:goG lineS (endG s) 0 (ybfy s) [] = .inr a):readS s = if yasy a != 0 then ([],0,yasy a) else (a,0,0):=by unfold readS; rw [if_neg hl,hg]
theorem yxoy {s:List UInt8} (ha:ascB s) (R:Type) (k:List G_Spot→Int→Int→Option R):band_Read s k = k (readS s).1 (readS s).2.1 (readS s).2.2:=by
 show yhgy yaVy s k = _
 unfold yhgy
 by_cases hl:s.length > 200000
 ·rw [decide_eq_true (show (s.length:Int) > 200000 by omega),yDRy hl]; rfl
 ·have hm:=yqKy s
  have hn:=ypEy s
  have w1:∀ k:List (List UInt8)→Bool→Option R,yaVy.kit_Lines s k = k (ybfy s) (endG s):=fun k=>yxty (by omega) R k
  rw [decide_eq_false (show ¬ (s.length:Int) > 200000 by omega),cond_false,w1]
  refine (yjQy (ybfy s) (endG s) (fun l h=>by have:=(hm l h).1; omega) (by omega) (ybfy s) NN 0 [] rfl (by have:=NN_ok; omega) (Nat.zero_le _) R (fun a b=>k [] a b) _).trans ?_
  cases hg:goG lineS (endG s) 0 (ybfy s) [] with
  | inl j=>rw [yDTy hl hg]
  | inr a =>
   obtain ⟨f1,f2⟩:=yAoy ha (by omega) hg
   have w2:∀ k:Int→Option R,yaVy.z10z a k = k (yasy a):=fun k=>z10z_W f1 (by omega) R k
   show yaVy.z10z a _ = _
   rw [w2,ys2y hl hg]
   cases yasy a != 0 <;> rfl
end Go.Am
set_option linter.unusedVariables false
set_option linter.unusedSectionVars false
set_option linter.unusedSimpArgs false
set_option maxRecDepth 100000
namespace Go.Am
open Go Go.Proofs
variable [Fuel]
theorem yiay (m:Nat) (hm:m≤20):∀ (j n i:Nat) (b:Int) (s:G_Stream),i + j = 5→j < n→SOk b s→b + 700 * (j:Int)≤900000 →
  ∃ (r:List G_Spot) (s':G_Stream),SOk (b + 700 * (j:Int)) s'∧r.length≤m∧(∀ c ∈ r,FineSp c)∧yasy r = 0∧∀ (R:Type) (k:List G_Spot→G_Stream→Option R),z26z_L2 yfEy n (m:Int) (i:Int) s (fun e12 e13=>k e13 e12) (fun e14=>k [] e14) = k r s'
 | _,0,_,_,_,_,h,_,_=>by omega
 | 0,n + 1,i,b,s,hi,_,hs,hb=>⟨[],s,hs.mono (by omega),by simp,(fun c h=>by cases h),rfl,fun R k=>by rw [z26z_L2,decide_eq_false (by omega)]; rfl⟩
 | j + 1,n + 1,i,b,s,hi,hn,hs,hb=>by
  obtain ⟨r,s1,z1,l1,f1,e1⟩:=z37z_gives hs (by omega) m hm
  have hm':(m:Int)≤20:=by omega
  have e1':∀ {R:Type} (k:List G_Spot→G_Stream→Option R),yfEy.z37z s (m:Int) k = k r s1:=fun k=>e1 _ k
  have hq:∀ {R:Type} (k:Int→Option R),yfEy.z41z r k = k (yasy r):=fun k=>z41z_is f1 (by omega) _ k
  by_cases h0:yasy r = 0
  ·refine ⟨r,s1,z1.mono (by omega),l1,f1,h0,fun R k=>?_⟩
   rw [z26z_L2,decide_eq_true (by omega)]
   simp only [cond_true,e1',hq,h0,beq_self_eq_true]
  ·obtain ⟨r',s',g1,g2,g3,g4,g5⟩:=yiay m hm j n (i + 1) (b + 700) s1 (by omega) (by omega) (z1.mono (by omega)) (by omega)
   refine ⟨r',s',g1.mono (by omega),g2,g3,g4,fun R k=>?_⟩
   rw [z26z_L2,decide_eq_true (by omega)]
   simp only [cond_true,e1',hq,beq_eq_false_iff_ne.2 h0,cond_false,yauy (show i < 4611686018427387904 by omega),g5]
theorem ynXy {b:Int} {s:G_Stream} (hs:SOk b s) (hb:b≤100000) (m:Nat) (hm:m≤20) :
  ∃ (r:List G_Spot) (s':G_Stream),SOk (b + 3500) s'∧r.length≤m∧(∀ c ∈ r,FineSp c)∧yasy r = 0∧∀ (R:Type) (k:List G_Spot→G_Stream→Option R),z26z s (m:Int) k = k r s':=by
 obtain ⟨r,s',g1,g2,g3,g4,g5⟩:=yiay m hm 5 NN 0 b s (by omega) (by have:=NN_ok; omega) hs (by omega)
 exact ⟨r,s',g1.mono (by omega),g2,g3,g4,fun R k=>g5 R k⟩
def yb3y (c:G_Spot):List (List UInt8):=[Lib.itoa c.f_At,Lib.itoa c.f_Hertz,c.f_Call,c.f_By]
def ybSy (c:G_Spot):List UInt8:=Lib.join (yb3y c) [32]
structure ShortS (c:G_Spot):Prop where
 at1:Wide c.f_At
 hertz:Wide c.f_Hertz
 call:c.f_Call.length≤100∧ascB c.f_Call
 by1:c.f_By.length≤100∧ascB c.f_By
theorem yzDy {d:List G_Spot} (hf:∀ c ∈ d,FineSp c):∀ c ∈ d,ShortS c:=fun c hc=>by
 have hcl:∀ s ∈ ydOy,s.length≤100∧∀ x ∈ s,x.toNat < 128:=by decide
 have h:=hf c hc
 have a:=h.at1
 have b:=h.hertz
 exact ⟨⟨by omega,by omega⟩,⟨by omega,by omega⟩,hcl _ h.call,hcl _ h.by1⟩
theorem ylOy {c:G_Spot} (h:ShortS c):∀ w ∈ yb3y c,w.length≤100∧ascB w:=by
 intro w hw
 have i1:=yvMy h.at1
 have i2:=yvMy h.hertz
 unfold yb3y at hw
 simp only [List.mem_cons,List.not_mem_nil,or_false] at hw
 rcases hw with rfl | rfl | rfl | rfl
 ·exact ⟨by omega,yt1y _⟩
 ·exact ⟨by omega,yt1y _⟩
 ·exact h.call
 ·exact h.by1
theorem ylWy {c:G_Spot} (h:ShortS c):(ybSy c).length≤900∧ascB (ybSy c):=by
 have hw:=ylOy h
 have:=yw5y (ws:=yb3y c) (sep:=[32]) (n:=100) fun w hh=>(hw w hh).1
 have e:(yb3y c).length = 4:=rfl
 rw [e] at this
 exact ⟨by unfold ybSy; simp at this; omega,yEby (fun w hh=>(hw w hh).2) (ywdy (by decide))⟩
def textS:List G_Spot→List UInt8
 | []=>[]
 | c :: cs=>(ybSy c ++ [10]) ++ textS cs
theorem ygpy:∀ {d:List G_Spot},(∀ c ∈ d,ShortS c)→(textS d).length≤901 * d.length∧ascB (textS d)
 | [],_=>⟨by simp [textS],fun x hx=>by cases hx⟩
 | c :: cs,h=>by
  have h1:=ylWy (h c (by simp))
  have h2:=ygpy (d:=cs) fun c hc=>h c (List.mem_cons_of_mem _ hc)
  refine ⟨?_,yuXy (yuXy h1.2 (ywdy (by decide))) h2.2⟩
  show ((ybSy c ++ [10]) ++ textS cs).length≤_
  rw [List.length_append,List.length_append,List.length_cons]
  simp only [List.length_cons,List.length_nil]
  omega
theorem ylny (d:List G_Spot) (hd:∀ c ∈ d,ShortS c) (hl:d.length≤100):∀ (xs:List G_Spot) (n i:Nat) (acc:List UInt8),d.drop i = xs→xs.length < n→acc.length≤901 * i→∀ (R:Type) (e0:List UInt8→Option R),
  ybYy ybby n d (d.length:Int) (i:Int) acc e0 = e0 (acc ++ textS xs)
 | _,0,_,_,_,h,_,_,_=>by omega
 | [],n + 1,i,acc,h,_,_,R,e0=>by rw [ybYy,ybqy h,textS,List.append_nil]; rfl
 | c :: cs,n + 1,i,acc,h,hn,ha,R,e0=>by
  have h':=yaqy h
  have hlt:=h'.2.1
  have hc:=hd c (ybPy h)
  have hsh:=ylWy hc
  have hw:=ylOy hc
  have ih:=ylny d hd hl cs n (i + 1) (acc ++ (ybSy c ++ [10])) h'.2.2.1 (Nat.lt_of_succ_lt_succ (by simpa only [List.length_cons] using hn)) (by simp; omega) R e0
  have a1:∀ k:List UInt8→Option R,ybby.strconv_Itoa c.f_At k = k (Lib.itoa c.f_At):=fun k=>yCvy hc.at1 R k
  have a2:∀ k:List UInt8→Option R,ybby.strconv_Itoa c.f_Hertz k = k (Lib.itoa c.f_Hertz):=fun k=>yCvy hc.hertz R k
  have a4:∀ k:List UInt8→Option R,ybby.kit_Join [Lib.itoa c.f_At,Lib.itoa c.f_Hertz,c.f_Call,c.f_By] k = k (ybSy c ++ [10]):=fun k=>by
   have b1:∀ k:List UInt8→Option R,yhcy.strings_Join (yb3y c) [32] k = k (ybSy c):=fun k=>yKMy (ws:=yb3y c) (by simp [yb3y]) (fun w hh=>by have:=(hw w hh).1; omega) (by simp) R k
   show yipy yhcy (yb3y c) k = _
   unfold yipy
   rw [b1,yJuy (by simp; omega),cond_true]
  rw [ybYy,ybdy h,cond_true,ya2y h,a1,a2,a4,decide_eq_true (by simp; omega),cond_true,yauy (show i < 4611686018427387904 by omega),ih,textS,List.append_assoc]
theorem ypAy {d:List G_Spot} (hf:∀ c ∈ d,FineSp c) (hd:∀ c ∈ d,ShortS c) (hl:d.length≤100) (h0:yasy d = 0) (R:Type) (k:List UInt8→Int→Option R):band_Text d k = k (textS d) 0:=by
 have w1:∀ k:Int→Option R,ybby.z10z d k = k (yasy d):=fun k=>z10z_is hf (by omega) R k
 have hs:=ygpy hd
 show yhly ybby d k = _
 unfold yhly
 rw [w1,h0]
 refine (ylny d hd hl d NN 0 [] rfl (by have:=NN_ok; omega) (by simp) R _).trans ?_
 rw [List.nil_append,decide_eq_false (show ¬ (((textS d).length:Int) > 200000) by omega)]
 rfl
end Go.Am
