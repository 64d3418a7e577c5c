/- The plain law, in Lean alone: Z6, Z7. No condition: lemmas for the claim. -/
import Derived.Test.YtfngnnmdgfkenaaGreatDoorPlZ1
import Derived.Test.YtfngnnmdgfkenaaGreatDoorPlQ1
set_option linter.unusedVariables false
set_option linter.unusedSectionVars false
set_option linter.unusedSimpArgs false
set_option maxRecDepth 100000
namespace Go.Am
open Go Go.Proofs
variable [Fuel]
def yi5y (h:Int) (down:Bool) (s:G_Spot):Bool:=bif s.f_Hertz == h then true else (decide (s.f_Hertz < h)) == down
def farW (h:Int) (s:G_Spot):Int:=if (w64 (h - s.f_Hertz)) > (w64 (s.f_Hertz - h)) then (w64 (h - s.f_Hertz)) else (w64 (s.f_Hertz - h))
def cmpW (h:Int) (down:Bool) (x y:G_Spot):Int:=bif !(yi5y h down x == yi5y h down y) then (bif yi5y h down x then -1 else 1) else w64 (farW h x - farW h y)
theorem ywCy (x y:G_Spot) (h:Int) (down:Bool) (R:Type) (k:Int→Int→Bool→Int→Option R):z41z x y h down h k = k (cmpW h down x y) h down h:=by
 have e1:∀ (x:G_Spot) (R:Type) (k:Bool→Option R),z113z x h down k = k (yi5y h down x):=fun x R k=>by
  simp only [z113z,z113z_,yi5y]
  cases x.f_Hertz == h <;> rfl
 have e2:∀ (x:G_Spot) (R:Type) (k:Int→Option R),z114z x h k = k (farW h x):=fun x R k=>rfl
 simp only [z41z,z41z_,yyny,e1,e2,cmpW]
 cases yi5y h down x <;> cases yi5y h down y <;> rfl
theorem yN8y (g:C_z3z):@z3z_ g = @sInsU G_Spot Int Bool Int g.N g.z41z:=by kernel_rfl
theorem yNiy (g:C_z0z):@z0z_ g = @sStaU G_Spot Int Bool Int g.N g.z3z:=by kernel_rfl
theorem yKLy {l:List G_Spot} (hl:l.length≤20) (h:Int) (down:Bool) (R:Type) (k:List G_Spot→Int→Bool→Int→Option R):z18z l h down h k = k (sortI (cmpW h down) l) h down h:=by
 simp only [z18z,z18z_,yw9y]
 show z0z_ I_z0z l (l.length:Int) h down h _ = _
 rw [yNiy]
 exact yJiy (N:=NN) (cmpW h down) (fun _=>True) h down h l (fun _ _=>trivial) hl (by have:=NN_ok; omega) (by have:=NN_ok; omega) _ (fun l a b R k hl=>by
  show z3z_ I_z3z l a b h down h _ = _
  rw [yN8y]
  exact yI3y (S:=fun _=>True) (fun x y _ _ R k=>ywCy x y h down R k) NN hl R k) k
theorem ymZy (d:List G_Spot) (hl:d.length≤100000):∀ (xs:List G_Spot) (n i:Nat) (out:List (List UInt8)),d.drop i = xs→xs.length < n→out.length≤i→∀ (R:Type) (e0:List (List UInt8)→Option R),
  ycuy ycYy n (d.length:Int) (i:Int) d out e0 = e0 (out ++ xs.map (·.f_Call))
 | _,0,_,_,_,h,_,_,_=>by omega
 | [],n + 1,i,out,h,_,_,R,e0=>by rw [ycuy,ya1y h,List.map_nil,List.append_nil]; rfl
 | x :: xs,n + 1,i,out,h,hn,ho,R,e0=>by
  have h':=yaly h
  have ih:=ymZy d hl xs n (i + 1) (out ++ [x.f_Call]) h'.2.2.1 (Nat.lt_of_succ_lt_succ (by simpa only [List.length_cons] using hn)) (by simp; omega) R e0
  rw [ycuy,yaZy h,cond_true,ygHy h,yity h,room1 out x.f_Call 16 (show out.length≤1000000 by omega) (by omega),yasy (show i < 4611686018427387904 by omega),List.map_cons]
  refine Eq.trans ih ?_
  rw [List.append_assoc]; rfl
theorem yFTy {l:List G_Spot} (hl:l.length≤1000000) (R:Type) (k:List G_Spot→Option R):z104z l k = k l:=yFBy l hl (by omega) k
theorem yCey {l:List G_Spot} (hl:l.length≤20) (h:Int) (down:Bool) (R:Type) (k:List (List UInt8)→Option R):band_way l h down k = k ((sortI (cmpW h down) l).map (·.f_Call)):=by
 have e:=ymZy (sortI (cmpW h down) l) (by rw [ybPy]; omega) (sortI (cmpW h down) l) NN 0 [] rfl (by rw [ybPy]; have:=NN_ok; omega) (by simp) R k
 show (z104z l fun r4=>_) = _
 rw [yFTy (by omega)]
 refine (yKLy hl h down R _).trans ?_
 rw [List.nil_append] at e
 exact e
def ytCy (h:Int) (p:Int×Int) (s:G_Spot):Int×Int:=(if (w64 (h - s.f_Hertz)) > p.1 then (w64 (h - s.f_Hertz)) else p.1,if (w64 (s.f_Hertz - h)) > p.2 then (w64 (s.f_Hertz - h)) else p.2)
theorem yjhy (h:Int) (d:List G_Spot) (hl:d.length≤100000):∀ (xs:List G_Spot) (n i:Nat) (p:Int×Int),d.drop i = xs→xs.length < n→∀ (R:Type) (e0:Int→Int→Int→List G_Spot→Option R),
  ybBy ybry n h p.1 p.2 (d.length:Int) (i:Int) d e0 = e0 h (xs.foldl (ytCy h) p).1 (xs.foldl (ytCy h) p).2 d
 | _,0,_,_,_,h,_,_=>by omega
 | [],n + 1,i,p,hd,_,R,e0=>by rw [ybBy,ya1y hd]; rfl
 | x :: xs,n + 1,i,p,hd,hn,R,e0=>by
  have h':=yaly hd
  have ih:=yjhy h d hl xs n (i + 1) (ytCy h p x) h'.2.2.1 (Nat.lt_of_succ_lt_succ (by simpa only [List.length_cons] using hn)) R e0
  rw [ybBy,yaZy hd,cond_true,ygHy hd,yity hd,yasy (show i < 4611686018427387904 by omega)]
  exact ih
def ya7y (h:Int) (l:List G_Spot):Int×Int:=l.foldl (ytCy h) (0,0)
def downS (h:Int) (l:List G_Spot):Int:=bif (ya7y h l).2 == 0 then (ya7y h l).1 else w64 (w64 (2 * (ya7y h l).1) + (ya7y h l).2)
def upS (h:Int) (l:List G_Spot):Int:=bif (ya7y h l).1 == 0 then (ya7y h l).2 else w64 (w64 (2 * (ya7y h l).2) + (ya7y h l).1)
def yAgy (h:Int) (l:List G_Spot):List (List UInt8)×Int:=bif decide (downS h l≤upS h l) then ((sortI (cmpW h true) l).map (·.f_Call),downS h l) else ((sortI (cmpW h false) l).map (·.f_Call),upS h l)
theorem ym3y {b:List G_Band} {l:List G_Spot} (hb:∀ c ∈ b,FineB c) (hl:∀ c ∈ l,FineS c) (h1:b.length≤100000) (h2:l.length≤20) (life at0 hertz:Int) (R:Type) (k:List (List UInt8)→Int→Int→Option R) :
  band_Sweep b l life at0 hertz k = bif orL [yc1y b,ybmy l,bif lifeB life at0 && inB hertz 0 30000000000 then 0 else 1] != 0 then k [] 0 (orL [yc1y b,ybmy l,bif lifeB life at0 && inB hertz 0 30000000000 then 0 else 1]) else k (yAgy hertz (yaty b life at0 l)).1 (yAgy hertz (yaty b life at0 l)).2 0:=by
 simp only [band_Sweep,yjPy,ybry,z89z_is hb hl h1 (show l.length≤100000 by omega),z88z_is,orL]
 cases q1:yc1y b != 0 with
 | true=>simp only [cond_true,q1]
 | false =>
  simp only [cond_false]
  cases q2:ybmy l != 0 with
  | true=>simp only [cond_true,q2]
  | false =>
   simp only [cond_false,bne_self_eq_false]
   cases q3:lifeB life at0 with
   | false=>rfl
   | true =>
    cases q4:inB hertz 0 30000000000 with
    | false=>rfl
    | true =>
     obtain ⟨a1,a2⟩:=yzNy q3
     have hle:=ylfy b life at0 l
     have hL:∀ (R:Type) (e0:Int→Int→Int→List G_Spot→Option R),ybBy ybry NN hertz 0 0 ((yaty b life at0 l).length:Int) 0 (yaty b life at0 l) e0 = e0 hertz (ya7y hertz (yaty b life at0 l)).1 (ya7y hertz (yaty b life at0 l)).2 (yaty b life at0 l):=fun R e0 =>
      yjhy hertz (yaty b life at0 l) (by omega) (yaty b life at0 l) NN 0 (0,0) rfl (by have:=NN_ok; omega) R e0
     simp only [ybry] at hL
     simp only [cond_true,Bool.and_self,bne_self_eq_false,cond_false,yndy h1 (life:=life) (at0:=at0) ⟨by omega,by omega⟩ ⟨by omega,by omega⟩ (show l.length≤1000 by omega),hL,yCey (show (yaty b life at0 l).length≤20 by omega)]
     cases hc:(ya7y hertz (yaty b life at0 l)).2 == 0 <;> cases ha:(ya7y hertz (yaty b life at0 l)).1 == 0 <;> simp only [cond_true,cond_false] <;> unfold yAgy downS upS <;> rw [hc,ha] <;> simp only [cond_true,cond_false]
     ·cases decide (w64 (w64 (2 * (ya7y hertz (yaty b life at0 l)).1) + (ya7y hertz (yaty b life at0 l)).2)≤w64 (w64 (2 * (ya7y hertz (yaty b life at0 l)).2) + (ya7y hertz (yaty b life at0 l)).1)) <;> rfl
     ·cases decide (w64 (w64 (2 * (ya7y hertz (yaty b life at0 l)).1) + (ya7y hertz (yaty b life at0 l)).2)≤(ya7y hertz (yaty b life at0 l)).2) <;> rfl
     ·cases decide ((ya7y hertz (yaty b life at0 l)).1≤w64 (w64 (2 * (ya7y hertz (yaty b life at0 l)).2) + (ya7y hertz (yaty b life at0 l)).1)) <;> rfl
     ·cases decide ((ya7y hertz (yaty b life at0 l)).1≤(ya7y hertz (yaty b life at0 l)).2) <;> rfl
theorem z43z_loop (m:Nat) (hm:m≤20):∀ (n i:Nat) (s:G_Stream) (b:Int),5 - i < n→SOk (b + 20 * (m:Int) * (i:Int)) s→i≤5→b≤1000 →
  (∃ (r:List G_Spot) (s':G_Stream),SOk (b + 2000) s'∧r.length≤m∧(∀ c ∈ r,FineS c)∧ybmy r = 0∧∀ (R:Type) (e0:G_Stream→List G_Spot→Option R) (e1:G_Stream→Option R),z43z_L2 yc5y n (m:Int) (i:Int) s e0 e1 = e0 s' r) ∨
  ∃ s':G_Stream,SOk (b + 2000) s'∧∀ (R:Type) (e0:G_Stream→List G_Spot→Option R) (e1:G_Stream→Option R),z43z_L2 yc5y n (m:Int) (i:Int) s e0 e1 = e1 s'
 | 0,i,_,_,h,_,_,_=>by omega
 | n + 1,i,s,b,h,hs,hi,hb=>by
  have hmi:20 * (m:Int) * (i:Int)≤2000:=by
   have:(i:Int) = 0 ∨ (i:Int) = 1 ∨ (i:Int) = 2 ∨ (i:Int) = 3 ∨ (i:Int) = 4 ∨ (i:Int) = 5:=by omega
   rcases this with e | e | e | e | e | e <;> rw [e] <;> omega
  by_cases hc:i < 5
  ·obtain ⟨r,s1,z1,hr,hf,e1⟩:=z63z_gives hs (by omega) m hm
   have z1':SOk (b + 20 * (m:Int) * ((i + 1:Nat):Int)) s1:=z1.mono (by
    have:(i:Int) = 0 ∨ (i:Int) = 1 ∨ (i:Int) = 2 ∨ (i:Int) = 3 ∨ (i:Int) = 4:=by omega
    push_cast
    rcases this with e | e | e | e | e <;> rw [e] <;> omega)
   have hmi1:20 * (m:Int) * ((i + 1:Nat):Int)≤2000:=by
    have:(i:Int) = 0 ∨ (i:Int) = 1 ∨ (i:Int) = 2 ∨ (i:Int) = 3 ∨ (i:Int) = 4:=by omega
    push_cast
    rcases this with e | e | e | e | e <;> rw [e] <;> omega
   have hq:=fun (R:Type) (k:Int→Option R)=>z69z_is hf (show r.length≤100000 by omega) R k
   cases h0:ybmy r == 0 with
   | true =>
    refine .inl ⟨r,s1,z1'.mono (by omega),hr,hf,by simpa using h0,fun R e0 e1'=>?_⟩
    rw [z43z_L2]
    simp only [yc5y,decide_eq_true (show (i:Int) < 5 by omega),cond_true,e1,hq,h0]
   | false =>
    have unf:∀ (R:Type) (e0:G_Stream→List G_Spot→Option R) (e1:G_Stream→Option R),z43z_L2 yc5y (n + 1) (m:Int) (i:Int) s e0 e1 = z43z_L2 yc5y n (m:Int) ((i + 1:Nat):Int) s1 e0 e1:=fun R e0 e1'=>by
     rw [z43z_L2]
     simp only [yc5y,decide_eq_true (show (i:Int) < 5 by omega),cond_true,e1,hq,h0,cond_false]
     rw [yasy (by omega)]
    rcases z43z_loop m hm n (i + 1) s1 b (by omega) z1' (by omega) hb with ⟨r',s',g1,g2,g3,g4,g5⟩ | ⟨s',g1,g2⟩
    ·exact .inl ⟨r',s',g1,g2,g3,g4,fun R e0 e1'=>by rw [unf,g5]⟩
    ·exact .inr ⟨s',g1,fun R e0 e1'=>by rw [unf,g2]⟩
  ·refine .inr ⟨s,hs.mono (by omega),fun R e0 e1=>?_⟩
   rw [z43z_L2,decide_eq_false (by omega)]; rfl
theorem z43z_gives {b:Int} {s:G_Stream} (hs:SOk b s) (hb:b≤1000) (m:Nat) (hm:m≤20) :
  ∃ (r:List G_Spot) (s':G_Stream),SOk (b + 2000) s'∧r.length≤m∧(∀ c ∈ r,FineS c)∧ybmy r = 0∧∀ (R:Type) (k:List G_Spot→G_Stream→Option R),z43z s (m:Int) k = k r s':=by
 rcases z43z_loop m hm NN 0 s b (by have:=NN_ok; omega) (hs.mono (by omega)) (by omega) hb with ⟨r,s',g1,g2,g3,g4,g5⟩ | ⟨s',g1,g2⟩
 ·exact ⟨r,s',g1,g2,g3,g4,fun R k=>g5 R _ _⟩
 ·exact ⟨[],s',g1,by simp,fun c h=>(by cases h),rfl,fun R k=>g2 R _ _⟩
end Go.Am
set_option linter.unusedVariables false
set_option linter.unusedSectionVars false
set_option linter.unusedSimpArgs false
set_option maxRecDepth 100000
namespace Go.Am
open Go Go.Proofs
variable [Fuel]
theorem yqFy:∀ (j n i:Nat) (l:List G_Spot) (z:G_Spot),i + j = l.length→j < n→l.length≤100000→∃ l':List G_Spot,∀ (R:Type) (e0:List G_Spot→Option R),z78z_L2 NN n (l.length:Int) (i:Int) l z e0 = e0 l'
 | _,0,_,_,_,_,h,_=>by omega
 | 0,n + 1,i,l,z,hi,_,_=>⟨l,fun R e0=>by rw [z78z_L2,decide_eq_false (by omega)]; rfl⟩
 | j + 1,n + 1,i,l,z,hi,hn,hl=>by
  have hil:i < l.length:=by omega
  obtain ⟨l',g⟩:=yqFy j n (i + 1) (l.set i z) z (by simp; omega) (by omega) (by simpa using hl)
  refine ⟨l',fun R e0=>?_⟩
  have g':=g R e0
  rw [List.length_set] at g'
  rw [z78z_L2,decide_eq_true (by omega)]
  simp only [cond_true,ybay hil,yaXy (List.getElem?_eq_getElem hil),yasy (show i < 4611686018427387904 by omega),yeOy]
  exact g'
theorem ynCy {l:List G_Spot} (hl:l.length≤100000):∃ l':List G_Spot,∀ (R:Type) (k:List G_Spot→Option R),z78z l k = k l':=by
 obtain ⟨l',g⟩:=yqFy l.length NN 0 l ⟨0,0,[],[]⟩ (by omega) (by have:=NN_ok; omega) hl
 exact ⟨l',fun R k=>g R k⟩
theorem yqly:∀ (j n i:Nat) (l:List G_Row) (z:G_Row),i + j = l.length→j < n→l.length≤100000→∃ l':List G_Row,∀ (R:Type) (e0:List G_Row→Option R),z80z_L2 NN n (l.length:Int) (i:Int) l z e0 = e0 l'
 | _,0,_,_,_,_,h,_=>by omega
 | 0,n + 1,i,l,z,hi,_,_=>⟨l,fun R e0=>by rw [z80z_L2,decide_eq_false (by omega)]; rfl⟩
 | j + 1,n + 1,i,l,z,hi,hn,hl=>by
  have hil:i < l.length:=by omega
  obtain ⟨l',g⟩:=yqly j n (i + 1) (l.set i z) z (by simp; omega) (by omega) (by simpa using hl)
  refine ⟨l',fun R e0=>?_⟩
  have g':=g R e0
  rw [List.length_set] at g'
  rw [z80z_L2,decide_eq_true (by omega)]
  simp only [cond_true,ybay hil,yaXy (List.getElem?_eq_getElem hil),yasy (show i < 4611686018427387904 by omega),yeOy]
  exact g'
theorem yzVy {l:List G_Row} (hl:l.length≤100000):∃ l':List G_Row,∀ (R:Type) (k:List G_Row→Option R),z80z l k = k l':=by
 obtain ⟨l',g⟩:=yqly l.length NN 0 l ⟨0,0⟩ (by omega) (by have:=NN_ok; omega) hl
 exact ⟨l',fun R k=>g R k⟩
theorem yEFy (R:Type) (k:Int→Option R):z45z [] k = k 0:=z45z_is (d:=[]) (fun c h=>by cases h) (by simp) R k
theorem yt4y {a:List G_Spot} (ha:∀ c ∈ a,FineS c) (hla:a.length≤1000):∃ (r:List G_Spot) (e:Int),r.length≤1000∧∀ (R:Type) (k:List G_Spot→Int→Option R),z68z a k = k r e:=by
 have hloop:∀ (R:Type) (e0:List G_Spot→Int→Option R) (e1:List G_Spot→Option R),z68z_L2 ycKy ycKy.N a ([a,[]].length:Int) 0 [a,[]] e0 e1 = bif ybmy a != 0 then e0 a (ybmy a) else e1 a:=fun R e0 e1=>by
  obtain ⟨m,e,hm⟩:=yiky
  obtain ⟨m,rfl⟩:∃ q,m = q + 2:=⟨m - 2,by omega⟩
  have w1:w64 (0 + 1) = ((1:Nat):Int):=yaky (by omega) (by omega)
  have w2:w64 (((1:Nat):Int) + 1) = ((2:Nat):Int):=by rw [yaky (by omega) (by omega)]; rfl
  have i0:∀ {R:Type} (k:Option R),inr [a,[]] 0 k = k:=fun k=>ybay (i:=0) (by simp) k
  have a0:∀ {R:Type} (k:List G_Spot→Option R),at_ [a,[]] 0 k = k a:=fun k=>yaXy (i:=0) rfl k
  have i1:∀ {R:Type} (k:Option R),inr [a,[]] ((1:Nat):Int) k = k:=fun k=>ybay (i:=1) (by simp) k
  have a1:∀ {R:Type} (k:List G_Spot→Option R),at_ [a,[]] ((1:Nat):Int) k = k []:=fun k=>yaXy (i:=1) rfl k
  have d0:decide ((0:Int) < ([a,[]].length:Int)) = true:=rfl
  have d1:decide (((1:Nat):Int) < ([a,[]].length:Int)) = true:=rfl
  have d2:decide (((2:Nat):Int) < ([a,[]].length:Int)) = false:=rfl
  rw [show ycKy.N = m + 2 + 1 from e]
  simp only [z68z_L2,d0,d1,d2,w1,w2,i0,i1,a0,a1,ycKy,cond_true,cond_false,z45z_is ha (show a.length≤100000 by omega),yEFy,bne_self_eq_false]
 have hco:∀ (R:Type) (k:List G_Spot→Option R),z26z (sortI cmpSp (a ++ [])) k = k (yoxy a []):=fun R k=>yAly (by rw [ybPy]; simp; omega) R k
 have hml:=yFgy a []
 simp only [List.length_nil] at hml
 simp only [ycKy] at hloop
 cases h:ybmy a != 0 with
 | true=>exact ⟨[],ybmy a,by simp,fun R k=>by simp only [z68z,z68z_,ycKy,hloop,h,cond_true]⟩
 | false =>
  refine ⟨yoxy a [],0,by omega,fun R k=>?_⟩
  simp only [z68z,z68z_,ycKy,hloop,h,cond_false,yNfy (show a.length≤100000 by omega) (show ([]:List G_Spot).length≤100000 by simp),yFUy (show (a ++ []).length≤100000 by simp; omega),hco,decide_eq_false (show ¬ (((yoxy a []).length:Int) > 2000) by omega)]
theorem yGBy {l:List G_Band} (hl:l.length≤1000000) (R:Type) (k:Bool→Option R):z65z l l k = k true:=by
 rw [yLQy]; exact yg4y (by have:=NN_ok; omega) (by have:=NN_ok; omega) (fun x=>by rw [(yyOy x x).2 rfl]; rfl) k
theorem yz9y {l:List G_Busy} (hl:l.length≤1000000) (R:Type) (k:Bool→Option R):z66z l l k = k true:=by
 rw [yNuy]; exact yg4y (by have:=NN_ok; omega) (by have:=NN_ok; omega) (fun x=>by rw [(yzpy x x).2 rfl]; rfl) k
theorem yBIy {l:List Int} (hl:l.length≤1000000) (R:Type) (k:Bool→Option R):z72z l l k = k true:=by
 rw [yQjy]; exact yg4y (by have:=NN_ok; omega) (by have:=NN_ok; omega) (fun x=>by simp) k
theorem yuny {s:G_Segment} (h:s.f_Modes.length≤1000) (R:Type) (k:Bool→Option R):z31z s s k = k true:=by
 have e:=yBIy (l:=s.f_Modes) (by omega) R k
 simp only [z31z,z31z_,yACy,beq_self_eq_true,cond_true,(yuoy s.f_Time s.f_Time).2 rfl]
 exact e
theorem yqoy (d:List G_Segment) (hm:∀ s ∈ d,s.f_Modes.length≤1000) (hl:d.length≤100000):∀ (xs:List G_Segment) (n i:Nat),d.drop i = xs→xs.length < n→∀ (R:Type) (e0:Bool→Option R) (e1:Option R),
  z12z_L4 yeoy n d d (d.length:Int) (i:Int) e0 e1 = e1
 | _,0,_,_,h,_,_,_=>by omega
 | [],n + 1,i,h,_,R,e0,e1=>by rw [z12z_L4,ya1y h]; rfl
 | c :: cs,n + 1,i,h,hn,R,e0,e1=>by
  have h':=yaly h
  have ih:=yqoy d hm hl cs n (i + 1) h'.2.2.1 (Nat.lt_of_succ_lt_succ (by simpa only [List.length_cons] using hn)) R e0 e1
  rw [z12z_L4,yaZy h]
  simp only [yeoy] at ih
  simp only [cond_true,ybcy h,yeoy,yuny (hm c (yb6y h)),Bool.not_true,cond_false,yasy (show i < 4611686018427387904 by omega),ih]
theorem yHPy {d:List G_Segment} (hm:∀ s ∈ d,s.f_Modes.length≤1000) (hl:d.length≤100000) (R:Type) (k:Bool→Option R):z12z d d k = k true:=by
 have h:=yqoy d hm hl d NN 0 rfl (by have:=NN_ok; omega) R (fun e13=>k e13) (k true)
 show (bif ((d.length:Int) != (d.length:Int)) then k false else z12z_L4 yeoy NN d d (d.length:Int) 0 (fun e13=>k e13) (k true)) = _
 rw [bne_self_eq_false,cond_false]
 exact h
theorem keep_BandsStay_true (l:List Int) (R:Type) (k:Bool→Option R):keep_BandsStay l k = k true:=by
 obtain ⟨x,s1,z1,lx,hx,e1⟩:=z2z_gives (sOk0 l) (by omega)
 obtain ⟨y,s2,z2,ly,hy,e2⟩:=z9z_gives z1 (by omega)
 obtain ⟨z,s3,z3,lz,hz,fz,e3⟩:=z43z_gives z2 (by omega) 8 (by omega)
 obtain ⟨w,s4,z4,hw,e4⟩:=z46z_gives z3 (by omega)
 obtain ⟨lw,fw⟩:=yFhy hw
 have e3':∀ k:List G_Spot→G_Stream→Option R,z43z s2 8 k = k z s3:=fun k=>e3 R k
 have hcl:([102,117,108,108]:List UInt8) ∈ ybAy:=by simp [ybAy]
 have hfr:∃ (r:List G_Row) (e:Int),r.length≤100000∧∀ k:List G_Row→Int→Option R,band_Free x y [102,117,108,108] 1 5 20 k = k r e:=by
  have hp:=yjjy [102,117,108,108] 1 20 x []
  have hlen:(freeL x y [102,117,108,108] 1 5 20).length≤2000:=Nat.le_trans (yzfy _ _) (yEty (by simp at hp; omega) (by unfold yhQy; rw [List.length_map]; exact Nat.le_trans (List.length_filter_le _ _) (by omega)))
  rcases yDby (ycOy x y [102,117,108,108] 1 5 20) with q | q
  ·exact ⟨freeL x y [102,117,108,108] 1 5 20,0,by omega,fun k=>by rw [ynXy hx (by omega) hy (by omega) hcl,q]; rfl⟩
  ·exact ⟨[],ycOy x y [102,117,108,108] 1 5 20,by simp,fun k=>by rw [ynXy hx (by omega) hy (by omega) hcl,q.1]; rfl⟩
 obtain ⟨m1,n1,p1,q1⟩:=hfr
 obtain ⟨t1,u1⟩:=yzVy (l:=m1) (by omega)
 obtain ⟨m2,n2,p2,q2⟩:=yt4y hz (by omega)
 obtain ⟨t2,u2⟩:=ynCy (l:=m2) (by omega)
 have hhe:∃ (r:List G_Spot) (e:Int),r.length≤100000∧∀ k:List G_Spot→Int→Option R,band_Heard w z 100 50 k = k r e:=by
  have hle:=ylfy w 100 50 z
  cases h:orL [yc1y w,ybmy z,bif lifeB 100 50 then 0 else 1] != 0 with
  | true=>exact ⟨[],_,by simp,fun k=>by rw [ynby fw hz (by omega) (by omega),h]; rfl⟩
  | false=>exact ⟨yaty w 100 50 z,0,by omega,fun k=>by rw [ynby fw hz (by omega) (by omega),h]; rfl⟩
 obtain ⟨m3,n3,p3,q3⟩:=hhe
 obtain ⟨t3,u3⟩:=ynCy (l:=m3) (by omega)
 have hsw:∃ (r:List (List UInt8)) (n e:Int),∀ k:List (List UInt8)→Int→Int→Option R,band_Sweep w z 100 50 7000000 k = k r n e:=by
  cases h:orL [yc1y w,ybmy z,bif lifeB 100 50 && inB 7000000 0 30000000000 then 0 else 1] != 0 with
  | true=>exact ⟨[],0,_,fun k=>by rw [ym3y fw hz (by omega) (by omega),h]; rfl⟩
  | false=>exact ⟨_,_,0,fun k=>by rw [ym3y fw hz (by omega) (by omega),h]; rfl⟩
 obtain ⟨m4,n4,o4,q4⟩:=hsw
 have f1:∀ k:Bool→Option R,z12z x x k = k true:=fun k=>yHPy (fun s hs=>(hx s hs).modes) (by omega) R k
 have f2:∀ k:Bool→Option R,z66z y y k = k true:=fun k=>yz9y (by omega) R k
 have f3:∀ k:Bool→Option R,z67z z z k = k true:=fun k=>yIAy (by omega) R k
 have f4:∀ k:Bool→Option R,z65z w w k = k true:=fun k=>yGBy (by omega) R k
 simp only [keep_BandsStay,yf5y,yeIy,e1,e2,e3',e4,q1,u1,q2,u2,q3,u3,q4,f1,f2,f3,f4,cond_true]
 exact yw3y R k
end Go.Am
