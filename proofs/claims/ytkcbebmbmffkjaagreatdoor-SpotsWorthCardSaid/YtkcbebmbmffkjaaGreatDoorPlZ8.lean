/- The plain law, in Lean alone: Z8, Z9, ZA. No condition: lemmas for the claim. -/
import Derived.Test.YtkcbebmbmffkjaaGreatDoorPlZ4
import Derived.Test.YtkcbebmbmffkjaaGreatDoorPlD1
import Derived.Test.YtkcbebmbmffkjaaGreatDoorPlS1
set_option linter.unusedVariables false
set_option linter.unusedSectionVars false
set_option linter.unusedSimpArgs false
set_option maxRecDepth 100000
namespace Go.Am
open Go Go.Proofs
variable [Fuel]
def pU {α:Type} (p:α→Bool):α→Unit→{R:Type}→(Bool→Unit→Option R)→Option R:=fun x u {_} k=>k (p x) u
section
variable {c:List G_Contact} {at0 mode:Int} {b:List G_Band} {p:G_Spot→Bool} {S:G_Spot→Prop}
theorem yu4y (hp:∀ x,S x→∀ (R:Type) (k:Bool→List G_Contact→Int→Int→List G_Band→Option R),z14z x c at0 mode b k = k (p x) c at0 mode b):∀ (n:Nat) (a i:Int) (l:List G_Spot),(∀ y ∈ l,S y)→∀ (R:Type) (e0:Int→List G_Spot→List G_Contact→Int→Int→List G_Band→Option R) (e1:List G_Spot→List G_Contact→Int→Int→List G_Band→Option R),
  z25z_L2 yf0y n a i l c at0 mode b e0 e1 = ybYy (pU p) n a i l () (fun i l _=>e0 i l c at0 mode b) (fun l _=>e1 l c at0 mode b)
 | 0,_,_,_,_,_,_,_=>rfl
 | n + 1,a,i,l,hl,R,e0,e1=>by
  rw [z25z_L2,ybYy]
  cases decide (i < a) with
  | false=>rfl
  | true =>
   refine yaRy (ya2y fun x hx=>?_)
   have e:∀ k:Bool→List G_Contact→Int→Int→List G_Band→Option R,yf0y.z14z x c at0 mode b k = k (p x) c at0 mode b:=fun k=>hp x (hl x hx) R k
   rw [e]
   show (bif p x then _ else _) = (bif p x then _ else _)
   cases p x with
   | true=>rfl
   | false=>exact yu4y hp n a _ l hl R e0 e1
theorem ymXy (hp:∀ x,S x→∀ (R:Type) (k:Bool→List G_Contact→Int→Int→List G_Band→Option R),z14z x c at0 mode b k = k (p x) c at0 mode b):∀ (n:Nat) (i j:Int) (l:List G_Spot),(∀ y ∈ l,S y)→∀ (R:Type) (e0:Int→List G_Spot→List G_Contact→Int→Int→List G_Band→Option R),
  z23z_L5 yd6y n i j l c at0 mode b e0 = ycQy (pU p) n i j l () (fun i l _=>e0 i l c at0 mode b)
 | 0,_,_,_,_,_,_=>rfl
 | n + 1,i,j,l,hl,R,e0=>by
  rw [z23z_L5,ycQy]
  cases decide (j < (l.length:Int)) with
  | false=>rfl
  | true =>
   refine yaRy (ya2y fun x hx=>?_)
   have e:∀ k:Bool→List G_Contact→Int→Int→List G_Band→Option R,yd6y.z14z x c at0 mode b k = k (p x) c at0 mode b:=fun k=>hp x (hl x hx) R k
   rw [e]
   show (bif !p x then _ else _) = (bif !p x then _ else _)
   cases p x with
   | true=>exact ymXy hp n i _ l hl R e0
   | false=>exact yaRy (ya2y fun y hy=>ymXy hp n _ _ _ (fun z hz=>by
     rcases ygjy hz with hz | rfl
     ·exact hl z hz
     ·exact hl _ hx) R e0)
theorem yKty (hp:∀ x,S x→∀ (R:Type) (k:Bool→List G_Contact→Int→Int→List G_Band→Option R),z14z x c at0 mode b k = k (p x) c at0 mode b) {l:List G_Spot} (hl:∀ y ∈ l,S y) (h:l.length≤100000) (R:Type) (k:Int→List G_Spot→List G_Contact→Int→Int→List G_Band→Option R) :
  z25z l c at0 mode b k = k (idxI p l) l c at0 mode b:=by
 show z25z_L2 yf0y NN (l.length:Int) 0 l c at0 mode b (fun e25 e26 e27 e28 e29 e30=>k e25 e26 e27 e28 e29 e30) (fun e31 e32 e33 e34 e35=>k (-1) e31 e32 e33 e34 e35) = _
 rw [yu4y hp NN _ _ l hl]
 exact ytPy (N:=NN) (pU p) p () l (fun x _ R k=>rfl) (by have:=NN_ok; omega) (by have:=NN_ok; omega) (fun i l _=>k i l c at0 mode b)
theorem yLXy (hp:∀ x,S x→∀ (R:Type) (k:Bool→List G_Contact→Int→Int→List G_Band→Option R),z14z x c at0 mode b k = k (p x) c at0 mode b) {l:List G_Spot} (hl:∀ y ∈ l,S y) (h:l.length≤100000) (R:Type) (k:List G_Spot→List G_Contact→Int→Int→List G_Band→Option R) :
  z23z l c at0 mode b k = k (l.filter (fun x=>!p x)) c at0 mode b:=by
 have e1:∀ k:Int→List G_Spot→List G_Contact→Int→Int→List G_Band→Option R,yd6y.z25z l c at0 mode b k = k (idxI p l) l c at0 mode b:=fun k=>yKty hp hl h R k
 show z23z_ yd6y l c at0 mode b k = _
 unfold z23z_
 rw [e1,ymXy hp _ _ _ l hl]
 exact yqry (N:=NN) (z:=(⟨0,0,[],[]⟩:G_Spot)) (f:=pU p) p () l (fun x _ R k=>rfl) (by have:=NN_ok; omega) (by have:=NN_ok; omega) (fun l _=>k l c at0 mode b)
end
noncomputable def ycPy (at0 mode:Int) (band base:List UInt8) (c:G_Contact):Bool:=decide (c.f_At≤at0) && (c.f_Mode == mode && (c.f_Band == band && baseB c.f_Call == base))
theorem yzsy {b:List G_Band} (hb:b.length≤100000) {at0 mode:Int} {c:G_Contact} (hc:Fine c) {s:G_Spot} (hs:FineS s) (R:Type) (k:Bool→Int→Int→List G_Band→G_Spot→Option R):z34z c at0 mode b s k = k (ycPy at0 mode (bandA b s.f_Hertz) (baseB s.f_Call) c) at0 mode b s:=by
 simp only [z34z,z34z_,yxGy,yjAy hb,yqGy hc.call,yqGy hs.call,ycPy]
 cases decide (c.f_At≤at0) <;> cases c.f_Mode == mode <;> cases c.f_Band == bandA b s.f_Hertz <;> rfl
theorem yvky {b:List G_Band} (hb:b.length≤100000) {at0 mode:Int} {s:G_Spot} (hs:FineS s) (d:List G_Contact) (hd:∀ c ∈ d,Fine c) (hl:d.length≤100000) (R:Type) (K:Bool→Int→Int→List G_Band→G_Spot→Option R):∀ (xs:List G_Contact) (n i:Nat),d.drop i = xs→xs.length < n →
  z22z_L2 yfey n d (d.length:Int) (i:Int) at0 mode b s (fun e25 e26 e27 e28 e29=>K (decide (e25 ≥ 0)) e26 e27 e28 e29) (fun e30 e31 e32 e33=>K (decide ((-1:Int) ≥ 0)) e30 e31 e32 e33) = K (xs.any (ycPy at0 mode (bandA b s.f_Hertz) (baseB s.f_Call))) at0 mode b s
 | _,0,_,_,h=>by omega
 | [],n + 1,i,h,_=>by rw [z22z_L2,yaCy h]; rfl
 | c :: cs,n + 1,i,h,hn=>by
  have h':=yaly h
  have ih:=yvky hb (at0:=at0) (mode:=mode) hs d hd hl R K cs n (i + 1) h'.2.2.1 (Nat.lt_of_succ_lt_succ (by simpa only [List.length_cons] using hn))
  rw [z22z_L2,yayy h]
  simp only [yfey] at ih
  simp only [cond_true,yaHy h,yfey,yzsy hb (hd c (yaWy h)) hs,yamy (show i < 4611686018427387904 by omega),ih,List.any_cons]
  cases ycPy at0 mode (bandA b s.f_Hertz) (baseB s.f_Call) c with
  | false=>rfl
  | true=>rw [decide_eq_true (show (i:Int) ≥ 0 by omega)]; rfl
noncomputable def wasW (b:List G_Band) (c:List G_Contact) (at0 mode:Int) (s:G_Spot):Bool:=c.any (ycPy at0 mode (bandA b s.f_Hertz) (baseB s.f_Call))
theorem yEoy {b:List G_Band} (hb:b.length≤100000) {at0 mode:Int} {c:List G_Contact} (hc:∀ x ∈ c,Fine x) (hl:c.length≤100000) (s:G_Spot) (hs:FineS s) (R:Type) (k:Bool→List G_Contact→Int→Int→List G_Band→Option R):z14z s c at0 mode b k = k (wasW b c at0 mode s) c at0 mode b:=by
 have h:=yvky hb (at0:=at0) (mode:=mode) hs c hc hl R (fun r6 r7 r8 r9 r10=>k r6 c r7 r8 r9) c NN 0 rfl (by have:=NN_ok; omega)
 exact h
def cmpF (h:Int) (x y:G_Spot):Int:=w64 (farW h x - farW h y)
def cmpHz (h:Int) (x y:G_Spot):Int:=sgn (w64 (farW h x - farW h y))
theorem yJLy (g:C_z4z):@z4z_ g = @sInsZ G_Spot Int g.N g.z74z:=by kernel_rfl
theorem yNPy (g:C_z3z):@z3z_ g = @sStaS G_Spot Int g.N g.z4z:=by kernel_rfl
theorem yJyy {l:List G_Spot} (hl:l.length≤20) (h:Int) (R:Type) (k:List G_Spot→Int→Option R):z39z l h k = k (sortI (cmpF h) l) h:=by
 simp only [z39z,z39z_,yxmy]
 show z3z_ I_z3z l (l.length:Int) h _ = _
 rw [yNPy]
 exact yq6y (N:=NN) (cmpF h) (fun _=>True) h l (fun _ _=>trivial) hl (by have:=NN_ok; omega) (by have:=NN_ok; omega) _ (fun l a b R k hl=>by
  show z4z_ I_z4z l a b h _ = _
  rw [yJLy]
  exact yrmy (c:=cmpF h) (S:=fun _=>True) (fun x y _ _ R k=>rfl) NN hl R k) k
theorem yLay (g:C_z9z):@z9z_ g = @sInsZ G_Spot Int g.N g.z17z:=by kernel_rfl
theorem yJKy (g:C_z7z):@z7z_ g = @sStaS G_Spot Int g.N g.z9z:=by kernel_rfl
theorem yDcy (s:G_Spot) (h:Int) (R:Type) (k:Int→Option R):Q_apart s.f_Hertz h k = k (farW h s):=rfl
theorem yEay (x y:G_Spot) (h:Int) (R:Type) (k:Int→Int→Option R):z17z x y h k = k (cmpHz h x y) h:=by
 simp only [z17z,z17z_,yxYy,yDcy,yjcy,cmpHz]
theorem yGSy {l:List G_Spot} (hl:l.length≤20) (h:Int) (R:Type) (k:List G_Spot→Int→Option R):z50z l h k = k (sortI (cmpHz h) l) h:=by
 simp only [z50z,z50z_,yy1y]
 show z7z_ I_z7z l (l.length:Int) h _ = _
 rw [yJKy]
 exact yq6y (N:=NN) (cmpHz h) (fun _=>True) h l (fun _ _=>trivial) hl (by have:=NN_ok; omega) (by have:=NN_ok; omega) _ (fun l a b R k hl=>by
  show z9z_ I_z9z l a b h _ = _
  rw [yLay]
  exact yrmy (S:=fun _=>True) (fun x y _ _ R k=>yEay x y h R k) NN hl R k) k
noncomputable def ye6y (b:List G_Band) (c:List G_Contact) (mode at0 hertz:Int) (h:List G_Spot):List G_Spot:=sortI (cmpF hertz) (h.filter fun s=>!wasW b c at0 mode s)
theorem z1z_is {b:List G_Band} (hr:yaxy b = 0) (hb:b.length≤100000) {life at0:Int} (ha:-1000000000000≤at0∧at0≤1000000000000) (hf:-1000000000000≤life∧life≤1000000000000) {l:List G_Spot} (hs:∀ s ∈ l,FineS s) (hl:l.length≤20) {c:List G_Contact} (hc:∀ x ∈ c,Fine x) (hcl:c.length≤1000) (mode hertz:Int) (R:Type) (k:List G_Spot→Option R) :
  z1z b l c mode life at0 hertz k = k (ye6y b c mode at0 hertz (yajy b life at0 l)):=by
 have hle:=ydUy b life at0 l
 have hfl:=List.length_filter_le (fun s=>!wasW b c at0 mode s) (yajy b life at0 l)
 simp only [z1z,z1z_,I_z1z,z10z_is hr hb ha hf (show l.length≤1000 by omega),yLXy (S:=FineS) (fun s hs R k=>yEoy hb (at0:=at0) (mode:=mode) hc (by omega) s hs R k) (l:=yajy b life at0 l) (fun s h=>hs s (ygLy h).1) (by omega),yGSy (l:=(yajy b life at0 l).filter fun s=>!wasW b c at0 mode s) (by omega),ye6y]
 congr 1
 exact ybGy (S:=fun _=>True) (fun x y _ _=>yPqy) (fun _ _=>trivial)
theorem yiiy (b:List G_Band) (sp:List G_Spot) (mode life at0 h:Int) (d:List G_Contact) (hd:∀ c ∈ d,Fine c) (hl:d.length≤100000):∀ (xs:List G_Contact) (n i:Nat) (m:List (G_band_worked×Bool)),d.drop i = xs→xs.length < n→(∀ w:G_band_worked,(yaJy w m).getD false = (d.take i).any (ycPy at0 mode w.f_band w.f_base)) →
  ∃ m',(∀ w:G_band_worked,(yaJy w m').getD false = d.any (ycPy at0 mode w.f_band w.f_base))∧∀ (R:Type) (e0:List G_Band→List G_Spot→Int→Int→Int→List (G_band_worked×Bool)→Option R),yaZy yawy n b sp mode life at0 d (d.length:Int) (i:Int) h m e0 = e0 b sp life at0 h m'
 | _,0,_,_,_,hn,_=>by omega
 | [],n + 1,i,m,hd',_,hm=>⟨m,fun w=>by rw [hm w,List.take_of_length_le (yzky hd')],fun R e0=>by rw [yaZy,yaCy hd']; rfl⟩
 | c :: cs,n + 1,i,m,hd',hn,hm=>by
  have h':=yaly hd'
  have hc:=hd c (yaWy hd')
  have hn':cs.length < n:=Nat.lt_of_succ_lt_succ (by simpa only [List.length_cons] using hn)
  have hw:=yamy (show i < 4611686018427387904 by omega)
  cases hq:(decide (c.f_At≤at0) && c.f_Mode == mode) with
  | true =>
   obtain ⟨m',g1,g2⟩:=yiiy b sp mode life at0 h d hd hl cs n (i + 1) (ya9y ⟨baseB c.f_Call,c.f_Band⟩ true m) h'.2.2.1 hn' (fun w=>by
    rw [yi2y hd',List.any_append,List.any_cons,List.any_nil,Bool.or_false,ycdy,yiRy,ynSy yhqy]
    have hmw:=hm w
    rw [ycdy] at hmw
    have e1:ycPy at0 mode w.f_band w.f_base c = ya3y w ⟨baseB c.f_Call,c.f_Band⟩:=by
     rw [Bool.eq_iff_iff,yhqy]
     unfold ycPy
     rw [← Bool.and_assoc,hq,Bool.true_and,Bool.and_eq_true,beq_iff_eq,beq_iff_eq]
     cases w
     simp only [G_band_worked.mk.injEq]
     constructor
     ·rintro ⟨rfl,rfl⟩; exact ⟨rfl,rfl⟩
     ·rintro ⟨rfl,rfl⟩; exact ⟨rfl,rfl⟩
    rw [e1]
    cases ya3y w ⟨baseB c.f_Call,c.f_Band⟩ with
    | true=>simp
    | false=>rw [cond_false,Bool.or_false]; exact hmw)
   refine ⟨m',g1,fun R e0=>?_⟩
   rw [Bool.and_eq_true] at hq
   rw [yaZy,yayy hd']
   simp only [yawy] at g2
   simp only [cond_true,yaHy hd',yawy,hq.1,hq.2,z106z_is hc.call,hw,g2]
  | false =>
   obtain ⟨m',g1,g2⟩:=yiiy b sp mode life at0 h d hd hl cs n (i + 1) m h'.2.2.1 hn' (fun w=>by
    rw [yi2y hd',List.any_append,List.any_cons,List.any_nil,Bool.or_false,hm w]
    have:ycPy at0 mode w.f_band w.f_base c = false:=by
     unfold ycPy
     rw [← Bool.and_assoc,hq]; rfl
    rw [this,Bool.or_false])
   refine ⟨m',g1,fun R e0=>?_⟩
   rw [yaZy,yayy hd']
   simp only [yawy] at g2
   simp only [cond_true,yaHy hd',yawy,hw,g2]
   cases h1:decide (c.f_At≤at0) with
   | false=>rfl
   | true =>
    rw [h1,Bool.true_and] at hq
    rw [hq]; rfl
theorem yoey (b:List G_Band) (h:Int) (m:List (G_band_worked×Bool)) (q:G_Spot→Bool) (d:List G_Spot) (hd:∀ s ∈ d,FineS s) (hb:∀ s ∈ d,¬ bandI b s.f_Hertz < 0) (hl:d.length≤100000) (hm:∀ s ∈ d,(yaJy ⟨baseB s.f_Call,bandA b s.f_Hertz⟩ m).getD false = q s):∀ (xs:List G_Spot) (n i:Nat) (out:List G_Spot),d.drop i = xs→xs.length < n→out.length≤i→∀ (R:Type) (e0:Int→List G_Spot→Option R),
  ybey yawy n b (d.length:Int) (i:Int) h m d (yh8y b d) out e0 = e0 h (out ++ xs.filter fun s=>!q s)
 | _,0,_,_,_,hn,_,_,_=>by omega
 | [],n + 1,i,out,hx,_,_,R,e0=>by rw [ybey,yaCy hx,List.filter_nil,List.append_nil]; rfl
 | s :: ss,n + 1,i,out,hx,hn,ho,R,e0=>by
  have h':=yaly hx
  have hs:=hd s (yaWy hx)
  have hbs:=hb s (yaWy hx)
  have hn':ss.length < n:=Nat.lt_of_succ_lt_succ (by simpa only [List.length_cons] using hn)
  have ih:=fun out ho=>yoey b h m q d hd hb hl hm ss n (i + 1) out h'.2.2.1 hn' ho R e0
  have hbi:(yh8y b d)[i]? = some (bandI b s.f_Hertz):=by unfold yh8y; rw [List.getElem?_map,h'.1]; rfl
  have hli:i < (yh8y b d).length:=by unfold yh8y; rw [List.length_map]; exact h'.2.1
  obtain ⟨j,x,hj,hjx,hA⟩:∃ (j:Nat) (x:G_Band),bandI b s.f_Hertz = (j:Int)∧b[j]? = some x∧bandA b s.f_Hertz = x.f_Key:=by
   unfold bandI at hbs
   unfold bandI bandA
   rcases yhTy (yc9y s.f_Hertz) b with ⟨e1,_⟩ | ⟨j,x,e1,e2,e3,e4⟩
   ·rw [e1] at hbs; omega
   ·exact ⟨j,x,e1,e2,by rw [e4]; rfl⟩
  have hq:=hm s (yaWy hx)
  rw [hA] at hq
  rw [ybey,yayy hx,cond_true,ycuy hx,ydfy hx,ya6y hli,yaOy hbi,hj,yh6y hjx]
  simp only [yawy] at ih
  simp only [yawy,z106z_is hs.call,hq,room1 out s 48 (show out.length≤1000000 by omega) (by omega),yamy (show i < 4611686018427387904 by omega),ih (out ++ [s]) (by simp; omega),ih out (by omega),List.filter_cons,List.append_assoc]
  cases q s <;> rfl
theorem yv9y {b:List G_Band} {l:List G_Spot} {c:List G_Contact} (hb:∀ c ∈ b,FineB c) (hl:∀ c ∈ l,FineS c) (hc:∀ x ∈ c,Fine x) (h1:b.length≤100000) (h2:l.length≤20) (h3:c.length≤1000) (mode life at0 hertz:Int) (R:Type) (k:List G_Spot→Int→Option R) :
  band_Worth b l c mode life at0 hertz k = bif orL [orL [yaxy b,yaDy l],ychy c,bif inB mode 1 3 then 0 else 4,bif lifeB life at0 && inB hertz 0 30000000000 then 0 else 1] != 0 then k [] (orL [orL [yaxy b,yaDy l],ychy c,bif inB mode 1 3 then 0 else 4,bif lifeB life at0 && inB hertz 0 30000000000 then 0 else 1]) else k (ye6y b c mode at0 hertz (yajy b life at0 l)) 0:=by
 have e4:∀ k:List G_Spot→Int→Option R,k [] 4 = k [] 4:=fun _=>rfl
 simp only [band_Worth,yjJy,yawy,z86z_is hb hl h1 (show l.length≤100000 by omega),z72z_is hc (show c.length≤100000 by omega),yeky,z87z_is]
 rw [show orL [orL [yaxy b,yaDy l],ychy c,bif inB mode 1 3 then 0 else 4,bif lifeB life at0 && inB hertz 0 30000000000 then 0 else 1] = bif orL [yaxy b,yaDy l] != 0 then orL [yaxy b,yaDy l] else orL [ychy c,bif inB mode 1 3 then 0 else 4,bif lifeB life at0 && inB hertz 0 30000000000 then 0 else 1] from rfl]
 cases q1:orL [yaxy b,yaDy l] != 0 with
 | true=>simp only [cond_true,q1]
 | false =>
  have q1':orL [yaxy b,yaDy l] = 0:=by simpa using q1
  have hr:yaxy b = 0:=yqXy.1 q1' _ (by simp)
  simp only [cond_false,orL]
  cases q2:ychy c != 0 with
  | true=>simp only [cond_true,q2]
  | false =>
   cases q5:inB mode 1 3 with
   | false=>rfl
   | true =>
    cases q3:lifeB life at0 with
    | false=>rfl
    | true =>
     cases q4:inB hertz 0 30000000000 with
     | false=>rfl
     | true =>
      obtain ⟨a1,a2⟩:=ylky q3
      have hle:=ydUy b life at0 l
      have hfl:=List.length_filter_le (fun s=>!wasW b c at0 mode s) (yajy b life at0 l)
      obtain ⟨m',g1,g2⟩:=yiiy b l mode life at0 hertz c hc (by omega) c NN 0 [] rfl (by have:=NN_ok; omega) (fun w=>by rw [ycdy]; rfl)
      have e22:∀ e0:Int→List G_Spot→Option R,ybey yawy NN b ((yajy b life at0 l).length:Int) 0 hertz m' (yajy b life at0 l) (yh8y b (yajy b life at0 l)) [] e0 = e0 hertz ((yajy b life at0 l).filter fun s=>!wasW b c at0 mode s):=fun e0 =>
       yoey b hertz m' (wasW b c at0 mode) (yajy b life at0 l) (fun s h=>hl s (ygLy h).1) (fun s h=>yDmy s h) (by omega) (fun s _=>g1 ⟨baseB s.f_Call,bandA b s.f_Hertz⟩) (yajy b life at0 l) NN 0 [] rfl (by have:=NN_ok; omega) (by simp) R e0
      simp only [Bool.not_true,cond_false,cond_true,Bool.and_self,bne_self_eq_false]
      refine (g2 R _).trans ?_
      refine (ymzy h1 (life:=life) (at0:=at0) ⟨by omega,by omega⟩ ⟨by omega,by omega⟩ (show l.length≤1000 by omega) R _).trans ?_
      refine (e22 _).trans ?_
      exact yJyy (by omega) hertz R _
end Go.Am
set_option linter.unusedVariables false
set_option linter.unusedSectionVars false
set_option linter.unusedSimpArgs false
set_option maxRecDepth 100000
namespace Go.Am
open Go Go.Proofs
variable [Fuel]
def offT (h way first:Int) (s:G_Spot):Bool:=bif sgn (w64 (s.f_Hertz - h)) == w64 (0 - way) then true else bif sgn (w64 (s.f_Hertz - h)) == 0 then way != first else false
theorem ynKy (h way first:Int) (x:G_Spot) (R:Type) (k:Bool→Int→Int→Int→Option R):Q_tuned_1 x h way first k = k (offT h way first x) h way first:=by
 simp only [Q_tuned_1,yl9y,yjoy,yjcy,offT]
 cases sgn (w64 (x.f_Hertz - h)) == w64 (0 - way) <;> cases sgn (w64 (x.f_Hertz - h)) == 0 <;> rfl
section
variable {h way first:Int}
theorem yvmy:∀ (n:Nat) (a i:Int) (l:List G_Spot) (R:Type) (e0:Int→List G_Spot→Int→Int→Int→Option R) (e1:List G_Spot→Int→Int→Int→Option R),
  z31z_L2 yfRy n a i l h way first e0 e1 = ybYy (pU (offT h way first)) n a i l () (fun i l _=>e0 i l h way first) (fun l _=>e1 l h way first)
 | 0,_,_,_,_,_,_=>rfl
 | n + 1,a,i,l,R,e0,e1=>by
  rw [z31z_L2,ybYy]
  cases decide (i < a) with
  | false=>rfl
  | true =>
   refine yaRy (ya2y fun x hx=>?_)
   have e:∀ k:Bool→Int→Int→Int→Option R,yfRy.Q_tuned_1 x h way first k = k (offT h way first x) h way first:=fun k=>ynKy h way first x R k
   rw [e]
   show (bif offT h way first x then _ else _) = (bif offT h way first x then _ else _)
   cases offT h way first x with
   | true=>rfl
   | false=>exact yvmy n a _ l R e0 e1
theorem yn6y:∀ (n:Nat) (i j:Int) (l:List G_Spot) (R:Type) (e0:Int→List G_Spot→Int→Int→Int→Option R),
  z27z_L5 yd3y n i j l h way first e0 = ycQy (pU (offT h way first)) n i j l () (fun i l _=>e0 i l h way first)
 | 0,_,_,_,_,_=>rfl
 | n + 1,i,j,l,R,e0=>by
  rw [z27z_L5,ycQy]
  cases decide (j < (l.length:Int)) with
  | false=>rfl
  | true =>
   refine yaRy (ya2y fun x hx=>?_)
   have e:∀ k:Bool→Int→Int→Int→Option R,yd3y.Q_tuned_1 x h way first k = k (offT h way first x) h way first:=fun k=>ynKy h way first x R k
   rw [e]
   show (bif !offT h way first x then _ else _) = (bif !offT h way first x then _ else _)
   cases offT h way first x with
   | true=>exact yn6y n i _ l R e0
   | false=>exact yaRy (ya2y fun y hy=>yn6y n _ _ _ R e0)
theorem yLKy {l:List G_Spot} (hl:l.length≤100000) (R:Type) (k:Int→List G_Spot→Int→Int→Int→Option R):z31z l h way first k = k (idxI (offT h way first) l) l h way first:=by
 show z31z_L2 yfRy NN (l.length:Int) 0 l h way first (fun e25 e26 e27 e28 e29=>k e25 e26 e27 e28 e29) (fun e31 e32 e33 e34=>k (-1) e31 e32 e33 e34) = _
 rw [yvmy]
 exact ytPy (N:=NN) (pU (offT h way first)) (offT h way first) () l (fun x _ R k=>rfl) (by have:=NN_ok; omega) (by have:=NN_ok; omega) (fun i l _=>k i l h way first)
theorem yOay {l:List G_Spot} (hl:l.length≤100000) (R:Type) (k:List G_Spot→Int→Int→Int→Option R):z27z l h way first k = k (l.filter (fun x=>!offT h way first x)) h way first:=by
 have e1:∀ k:Int→List G_Spot→Int→Int→Int→Option R,yd3y.z31z l h way first k = k (idxI (offT h way first) l) l h way first:=fun k=>yLKy hl R k
 show z27z_ yd3y l h way first k = _
 unfold z27z_
 rw [e1,yn6y]
 exact yqry (N:=NN) (z:=(⟨0,0,[],[]⟩:G_Spot)) (f:=pU (offT h way first)) (offT h way first) () l (fun x _ R k=>rfl) (by have:=NN_ok; omega) (by have:=NN_ok; omega) (fun l _=>k l h way first)
end
def cmpV (way:Int) (x y:G_Spot):Int:=w64 (way * sgn (w64 (x.f_Hertz - y.f_Hertz)))
theorem yxRy (x y:G_Spot) (way:Int) (R:Type) (k:Int→Int→Option R):Q_tuned_2 x y way k = k (cmpV way x y) way:=by
 simp only [Q_tuned_2,ylIy,yjjy,yjcy,cmpV]
theorem yLiy (g:C_z16z):@z16z_ g = @sInsZ G_Spot Int g.N g.Q_tuned_2:=by kernel_rfl
theorem yM1y (g:C_z15z):@z15z_ g = @sStaS G_Spot Int g.N g.z16z:=by kernel_rfl
theorem yJly {l:List G_Spot} (hl:l.length≤20) (way:Int) (R:Type) (k:List G_Spot→Int→Option R):z54z l way k = k (sortI (cmpV way) l) way:=by
 simp only [z54z,z54z_,yyBy]
 show z15z_ ycRy l (l.length:Int) way _ = _
 rw [yM1y]
 exact yq6y (N:=NN) (cmpV way) (fun _=>True) way l (fun _ _=>trivial) hl (by have:=NN_ok; omega) (by have:=NN_ok; omega) _ (fun l a b R k hl=>by
  show z16z_ yd8y l a b way _ = _
  rw [yLiy]
  exact yrmy (S:=fun _=>True) (fun x y _ _ R k=>yxRy x y way R k) NN hl R k) k
def yfdy (a b:Int):Int:=if (w64 (b - a)) > (w64 (a - b)) then (w64 (b - a)) else (w64 (a - b))
def walkT:Int×Int→List G_Spot→Int×Int
 | p,[]=>p
 | p,s :: ss=>walkT (w64 (p.1 + yfdy p.2 s.f_Hertz),s.f_Hertz) ss
theorem yjGy (l:List G_Spot) (q6 q7 q8 q9:Int) (ws:List Int) (cnt:Int) (d:List G_Spot) (hl:d.length≤1000):∀ (xs:List G_Spot) (n i:Nat) (p:Int×Int) (out:List (List UInt8)),d.drop i = xs→xs.length < n→out.length≤2000 + i→∀ (R:Type) (e0:List G_Spot→Int→Int→Int→Int→Int→Int→List Int→List (List UInt8)→Option R),
  yb0y yaFy n l p.1 p.2 q6 q7 (d.length:Int) (i:Int) q8 q9 ws d out e0 = e0 l (walkT p xs).1 (walkT p xs).2 q6 q7 q8 q9 ws (out ++ xs.map (·.f_Call))
 | _,0,_,_,_,_,h,_,_,_=>by omega
 | [],n + 1,i,p,out,h,_,_,R,e0=>by rw [yb0y,yaCy h,List.map_nil,List.append_nil]; rfl
 | x :: xs,n + 1,i,p,out,h,hn,ho,R,e0=>by
  have h':=yaly h
  have ih:=yjGy l q6 q7 q8 q9 ws cnt d hl xs n (i + 1) (w64 (p.1 + yfdy p.2 x.f_Hertz),x.f_Hertz) (out ++ [x.f_Call]) h'.2.2.1 (Nat.lt_of_succ_lt_succ (by simpa only [List.length_cons] using hn)) (by simp; omega) R e0
  have ea:∀ k:Int→Option R,yaFy.Q_apart p.2 x.f_Hertz k = k (yfdy p.2 x.f_Hertz):=fun k=>rfl
  rw [yb0y,yayy h,cond_true,ycuy h,ydfy h,room1 out x.f_Call 16 (show out.length≤1000000 by omega) (by omega),cond_true,ea,yamy (show i < 4611686018427387904 by omega)]
  refine ih.trans ?_
  rw [List.append_assoc]; rfl
def sideT (h way first:Int) (l:List G_Spot):List G_Spot:=sortI (cmpV way) (l.filter (fun x=>!offT h way first x))
def yhey (h first:Int) (l:List G_Spot):List (List UInt8)×Int:=((sideT h first first l).map (·.f_Call) ++ (sideT h (-first) first l).map (·.f_Call),(walkT (walkT (0,h) (sideT h first first l)) (sideT h (-first) first l)).1)
theorem yvPy (h way first:Int) (l:List G_Spot):(sideT h way first l).length≤l.length:=by
 unfold sideT
 rw [ybzy]
 exact List.length_filter_le _ _
theorem ytIy {l:List G_Spot} (hl:l.length≤20) (h:Int) {first:Int} (hf:first = 1 ∨ first = -1) (R:Type) (k:List (List UInt8)→Int→Option R):Q_tuned l h first k = k (yhey h first l).1 (yhey h first l).2:=by
 have hw:w64 (0 - first) = -first:=by rcases hf with rfl | rfl <;> rfl
 obtain ⟨m,e,hm⟩:=yuyy
 obtain ⟨m,rfl⟩:∃ q,m = q + 2:=⟨m - 2,by omega⟩
 have w1:w64 (0 + 1) = ((1:Nat):Int):=yaky (by omega) (by omega)
 have w2:w64 (((1:Nat):Int) + 1) = ((2:Nat):Int):=by rw [yaky (by omega) (by omega)]; rfl
 have i0:∀ (x y:Int) {R:Type} (k:Option R),inr [x,y] 0 k = k:=fun x y {R} k=>ya6y (i:=0) (by simp) k
 have a0:∀ (x y:Int) {R:Type} (k:Int→Option R),at_ [x,y] 0 k = k x:=fun x y {R} k=>yaOy (i:=0) rfl k
 have i1:∀ (x y:Int) {R:Type} (k:Option R),inr [x,y] ((1:Nat):Int) k = k:=fun x y {R} k=>ya6y (i:=1) (by simp) k
 have a1:∀ (x y:Int) {R:Type} (k:Int→Option R),at_ [x,y] ((1:Nat):Int) k = k y:=fun x y {R} k=>yaOy (i:=1) rfl k
 have d0:decide ((0:Int) < ([first,-first].length:Int)) = true:=rfl
 have d1:decide (((1:Nat):Int) < ([first,-first].length:Int)) = true:=rfl
 have d2:decide (((2:Nat):Int) < ([first,-first].length:Int)) = false:=rfl
 have lA:=yvPy h first first l
 have lB:=yvPy h (-first) first l
 have c1:∀ k:List G_Spot→Option R,yaFy.z90z l k = k l:=fun k=>yr1y (by omega) R k
 have c2:∀ (way:Int) (k:List G_Spot→Int→Int→Int→Option R),yaFy.z27z l h way first k = k (l.filter (fun x=>!offT h way first x)) h way first:=fun way k=>yOay (by omega) R k
 have c3:∀ (way:Int) (k:List G_Spot→Int→Option R),yaFy.z54z (l.filter (fun x=>!offT h way first x)) way k = k (sideT h way first l) way:=fun way k=>yJly (Nat.le_trans (List.length_filter_le _ _) hl) way R k
 show ycjy yaFy NN l 0 h ([first,w64 (0 - first)].length:Int) 0 h first [first,w64 (0 - first)] [] (fun e79 e80=>k e80 e79) = _
 rw [hw,show (NN:Nat) = m + 2 + 1 from e,ycjy,d0,cond_true,i0,a0,c1,c2,c3]
 have L1:∀ e0:List G_Spot→Int→Int→Int→Int→Int→Int→List Int→List (List UInt8)→Option R,yb0y yaFy yaFy.N l 0 h ([first,-first].length:Int) 0 ((sideT h first first l).length:Int) 0 h first [first,-first] (sideT h first first l) [] e0 = e0 l (walkT (0,h) (sideT h first first l)).1 (walkT (0,h) (sideT h first first l)).2 ([first,-first].length:Int) 0 h first [first,-first] ((sideT h first first l).map (·.f_Call)):=fun e0=>by
  have:=yjGy l ([first,-first].length:Int) 0 h first [first,-first] 0 (sideT h first first l) (by omega) (sideT h first first l) yaFy.N 0 (0,h) [] rfl (show _ < NN by have:=NN_ok; omega) (by simp) R e0
  rw [List.nil_append] at this
  exact this
 have L2:∀ e0:List G_Spot→Int→Int→Int→Int→Int→Int→List Int→List (List UInt8)→Option R,yb0y yaFy yaFy.N l (walkT (0,h) (sideT h first first l)).1 (walkT (0,h) (sideT h first first l)).2 ([first,-first].length:Int) ((1:Nat):Int) ((sideT h (-first) first l).length:Int) 0 h first [first,-first] (sideT h (-first) first l) ((sideT h first first l).map (·.f_Call)) e0 = e0 l (yhey h first l).2 (walkT (walkT (0,h) (sideT h first first l)) (sideT h (-first) first l)).2 ([first,-first].length:Int) ((1:Nat):Int) h first [first,-first] (yhey h first l).1:=fun e0 =>
  yjGy l ([first,-first].length:Int) ((1:Nat):Int) h first [first,-first] 0 (sideT h (-first) first l) (by omega) (sideT h (-first) first l) yaFy.N 0 (walkT (0,h) (sideT h first first l)) ((sideT h first first l).map (·.f_Call)) rfl (show _ < NN by have:=NN_ok; omega) (by simp; omega) R e0
 refine (L1 _).trans ?_
 rw [w1,ycjy,d1,cond_true,i1,a1,c1,c2,c3]
 refine (L2 _).trans ?_
 rw [w2,ycjy,d2]
 rfl
theorem yh5y {a b:Int}:cmpI a b < 0 ↔ a < b:=by
 unfold cmpI
 by_cases h:a < b
 ·rw [decide_eq_true h]; simp [h]
 ·rw [decide_eq_false h]
  by_cases h2:a > b
  ·rw [decide_eq_true h2]; simp; omega
  ·rw [decide_eq_false h2]; simp; omega
theorem yCXy {a b:Int}:cmpI a b≤0 ↔ a≤b:=by
 unfold cmpI
 by_cases h:a < b
 ·rw [decide_eq_true h]; simp; omega
 ·rw [decide_eq_false h]
  by_cases h2:a > b
  ·rw [decide_eq_true h2]; simp; omega
  ·rw [decide_eq_false h2]; simp; omega
abbrev InM (x:Int):Prop:=0≤x∧x≤30000000000
theorem yH0y {a b:Int} (ha:InM a) (hb:InM b) (h:a≤b):yfdy a b = b - a:=by
 unfold yfdy
 rw [yaky (x:=b - a) (by omega) (by omega),yaky (x:=a - b) (by omega) (by omega)]
 split <;> omega
theorem yEry {a b:Int} (ha:InM a) (hb:InM b) (h:b≤a):yfdy a b = a - b:=by
 unfold yfdy
 rw [yaky (x:=b - a) (by omega) (by omega),yaky (x:=a - b) (by omega) (by omega)]
 split <;> omega
theorem yugy:∀ (A:List G_Spot) (t a:Int),(∀ s ∈ A,InM s.f_Hertz)→InM a→0≤t→t + (30000000000 - a)≤1000000000000→(∀ s ∈ A,a≤s.f_Hertz)→A.Pairwise (fun x y=>x.f_Hertz≤y.f_Hertz) →
  ∃ e,walkT (t,a) A = (t + (e - a),e)∧InM e∧a≤e∧(∀ s ∈ A,s.f_Hertz≤e)∧(e = a ∨ ∃ s ∈ A,s.f_Hertz = e)
 | [],t,a,_,ha,_,_,_,_=>⟨a,by simp [walkT],ha,Int.le_refl _,fun s h=>(by cases h),.inl rfl⟩
 | s :: ss,t,a,hm,ha,h0,h1,hl,hp=>by
  have hs:=hm s (by simp)
  have hle:=hl s (by simp)
  have hp':=List.pairwise_cons.1 hp
  have hw:w64 (t + yfdy a s.f_Hertz) = t + (s.f_Hertz - a):=by rw [yH0y ha hs hle,yaky (by omega) (by omega)]
  obtain ⟨e,g1,g2,g3,g4,g5⟩:=yugy ss (t + (s.f_Hertz - a)) s.f_Hertz (fun x hx=>hm x (by simp [hx])) hs (by omega) (by omega) hp'.1 hp'.2
  refine ⟨e,by rw [walkT,hw,g1,Prod.mk.injEq]; exact ⟨by omega,rfl⟩,g2,by omega,fun x hx=>?_,?_⟩
  ·rcases List.mem_cons.1 hx with rfl | hx
   ·exact g3
   ·exact g4 x hx
  ·rcases g5 with g5 | ⟨x,hx,g5⟩
   ·exact .inr ⟨s,by simp,g5.symm⟩
   ·exact .inr ⟨x,by simp [hx],g5⟩
theorem ynDy:∀ (A:List G_Spot) (t a:Int),(∀ s ∈ A,InM s.f_Hertz)→InM a→0≤t→t + a≤1000000000000→(∀ s ∈ A,s.f_Hertz≤a)→A.Pairwise (fun x y=>y.f_Hertz≤x.f_Hertz) →
  ∃ e,walkT (t,a) A = (t + (a - e),e)∧InM e∧e≤a∧(∀ s ∈ A,e≤s.f_Hertz)∧(e = a ∨ ∃ s ∈ A,s.f_Hertz = e)
 | [],t,a,_,ha,_,_,_,_=>⟨a,by simp [walkT],ha,Int.le_refl _,fun s h=>(by cases h),.inl rfl⟩
 | s :: ss,t,a,hm,ha,h0,h1,hl,hp=>by
  have hs:=hm s (by simp)
  have hle:=hl s (by simp)
  have hp':=List.pairwise_cons.1 hp
  have hw:w64 (t + yfdy a s.f_Hertz) = t + (a - s.f_Hertz):=by rw [yEry ha hs hle,yaky (by omega) (by omega)]
  obtain ⟨e,g1,g2,g3,g4,g5⟩:=ynDy ss (t + (a - s.f_Hertz)) s.f_Hertz (fun x hx=>hm x (by simp [hx])) hs (by omega) (by omega) hp'.1 hp'.2
  refine ⟨e,by rw [walkT,hw,g1,Prod.mk.injEq]; exact ⟨by omega,rfl⟩,g2,by omega,fun x hx=>?_,?_⟩
  ·rcases List.mem_cons.1 hx with rfl | hx
   ·exact g3
   ·exact g4 x hx
  ·rcases g5 with g5 | ⟨x,hx,g5⟩
   ·exact .inr ⟨s,by simp,g5.symm⟩
   ·exact .inr ⟨x,by simp [hx],g5⟩
theorem yray (h:Int) (hh:InM h):∀ (l:List G_Spot) (p:Int×Int),(∀ s ∈ l,InM s.f_Hertz)→InM p.1→InM p.2 →
  (InM (l.foldl (yaMy h) p).1∧InM (l.foldl (yaMy h) p).2)∧(p.1≤(l.foldl (yaMy h) p).1∧p.2≤(l.foldl (yaMy h) p).2)∧(∀ s ∈ l,h - s.f_Hertz≤(l.foldl (yaMy h) p).1∧s.f_Hertz - h≤(l.foldl (yaMy h) p).2)∧((l.foldl (yaMy h) p).1 = p.1 ∨ ∃ s ∈ l,(l.foldl (yaMy h) p).1 = h - s.f_Hertz)∧((l.foldl (yaMy h) p).2 = p.2 ∨ ∃ s ∈ l,(l.foldl (yaMy h) p).2 = s.f_Hertz - h)
 | [],p,_,h1,h2=>⟨⟨h1,h2⟩,⟨Int.le_refl _,Int.le_refl _⟩,fun s h=>(by cases h),.inl rfl,.inl rfl⟩
 | s :: ss,p,hm,h1,h2=>by
  have hs:=hm s (by simp)
  have hr:yaMy h p s = (if h - s.f_Hertz > p.1 then h - s.f_Hertz else p.1,if s.f_Hertz - h > p.2 then s.f_Hertz - h else p.2):=by
   unfold yaMy
   rw [yaky (x:=h - s.f_Hertz) (by omega) (by omega),yaky (x:=s.f_Hertz - h) (by omega) (by omega)]
  have hr1:InM (yaMy h p s).1∧p.1≤(yaMy h p s).1∧h - s.f_Hertz≤(yaMy h p s).1∧((yaMy h p s).1 = p.1 ∨ (yaMy h p s).1 = h - s.f_Hertz):=by
   rw [hr]
   simp only
   split
   ·exact ⟨⟨by omega,by omega⟩,by omega,by omega,.inr rfl⟩
   ·exact ⟨h1,by omega,by omega,.inl rfl⟩
  have hr2:InM (yaMy h p s).2∧p.2≤(yaMy h p s).2∧s.f_Hertz - h≤(yaMy h p s).2∧((yaMy h p s).2 = p.2 ∨ (yaMy h p s).2 = s.f_Hertz - h):=by
   rw [hr]
   simp only
   split
   ·exact ⟨⟨by omega,by omega⟩,by omega,by omega,.inr rfl⟩
   ·exact ⟨h2,by omega,by omega,.inl rfl⟩
  obtain ⟨g1,g2,g3,g4,g5⟩:=yray h hh ss (yaMy h p s) (fun x hx=>hm x (by simp [hx])) hr1.1 hr2.1
  rw [List.foldl_cons]
  refine ⟨g1,⟨by omega,by omega⟩,fun x hx=>?_,?_,?_⟩
  ·rcases List.mem_cons.1 hx with rfl | hx
   ·exact ⟨by omega,by omega⟩
   ·exact g3 x hx
  ·rcases g4 with g4 | ⟨x,hx,g4⟩
   ·rcases hr1.2.2.2 with e | e
    ·exact .inl (by rw [g4,e])
    ·exact .inr ⟨s,by simp,by rw [g4,e]⟩
   ·exact .inr ⟨x,by simp [hx],g4⟩
  ·rcases g5 with g5 | ⟨x,hx,g5⟩
   ·rcases hr2.2.2.2 with e | e
    ·exact .inl (by rw [g5,e])
    ·exact .inr ⟨s,by simp,by rw [g5,e]⟩
   ·exact .inr ⟨x,by simp [hx],g5⟩
theorem yeJy (x:Int):(x < 0∧sgn x = -1) ∨ (x = 0∧sgn x = 0) ∨ (0 < x∧sgn x = 1):=by
 unfold sgn
 by_cases h:x < 0
 ·rw [decide_eq_true h]; simp [h]
 ·rw [decide_eq_false h]
  by_cases h2:x > 0
  ·rw [decide_eq_true h2]; simp; omega
  ·rw [decide_eq_false h2]; simp; omega
def hzU (s:G_Spot):Int:=s.f_Hertz
def hzD (s:G_Spot):Int:=-s.f_Hertz
def byU (x y:G_Spot):Int:=cmpI (hzU x) (hzU y)
def byD (x y:G_Spot):Int:=cmpI (hzD x) (hzD y)
theorem ytsy (l:List G_Spot):(sortI byU l).Pairwise (fun x y=>x.f_Hertz≤y.f_Hertz):=(yn3y ((yuVy.on hzU).pre (fun _=>True)) l (fun _ _=>trivial)).imp fun h=>yCXy.1 h
theorem yrQy (l:List G_Spot):(sortI byD l).Pairwise (fun x y=>y.f_Hertz≤x.f_Hertz):=(yn3y ((yuVy.on hzD).pre (fun _=>True)) l (fun _ _=>trivial)).imp fun h=>by
 have:=yCXy.1 h
 unfold hzD at this
 omega
def lowF (h:Int) (s:G_Spot):Bool:=decide (s.f_Hertz≤h)
def highF (h:Int) (s:G_Spot):Bool:=decide (h≤s.f_Hertz)
theorem yCRy {x y:G_Spot} (hx:InM x.f_Hertz) (hy:InM y.f_Hertz):cmpV 1 x y < 0 ↔ byU x y < 0:=by
 unfold cmpV byU hzU
 rw [yh5y,yaky (x:=x.f_Hertz - y.f_Hertz) (by omega) (by omega)]
 rcases yeJy (x.f_Hertz - y.f_Hertz) with ⟨h1,h2⟩ | ⟨h1,h2⟩ | ⟨h1,h2⟩ <;> rw [h2,yaky (by omega) (by omega)] <;> omega
theorem yvCy {x y:G_Spot} (hx:InM x.f_Hertz) (hy:InM y.f_Hertz):cmpV (-1) x y < 0 ↔ byD x y < 0:=by
 unfold cmpV byD hzD
 rw [yh5y,yaky (x:=x.f_Hertz - y.f_Hertz) (by omega) (by omega)]
 rcases yeJy (x.f_Hertz - y.f_Hertz) with ⟨h1,h2⟩ | ⟨h1,h2⟩ | ⟨h1,h2⟩ <;> rw [h2,yaky (by omega) (by omega)] <;> omega
theorem side1 {h:Int} (hh:InM h) {l:List G_Spot} (hm:∀ s ∈ l,InM s.f_Hertz):sideT h (-1) (-1) l = sortI byD (l.filter (lowF h)):=by
 unfold sideT
 have e:l.filter (fun x=>!offT h (-1) (-1) x) = l.filter (lowF h):=List.filter_congr fun s hs=>by
  have:=hm s hs
  unfold offT lowF
  rw [yaky (x:=s.f_Hertz - h) (by omega) (by omega),show w64 (0 - -1) = 1 from rfl]
  rcases yeJy (s.f_Hertz - h) with ⟨h1,h2⟩ | ⟨h1,h2⟩ | ⟨h1,h2⟩ <;> rw [h2] <;> simp <;> omega
 rw [e]
 exact ybGy (S:=fun s=>InM s.f_Hertz) (fun x y hx hy=>yvCy hx hy) (fun s hs=>hm s (List.mem_filter.1 hs).1)
theorem side2 {h:Int} (hh:InM h) {l:List G_Spot} (hm:∀ s ∈ l,InM s.f_Hertz):sideT h 1 (-1) l = sortI byU (l.filter fun s=>!lowF h s):=by
 unfold sideT
 have e:l.filter (fun x=>!offT h 1 (-1) x) = l.filter (fun s=>!lowF h s):=List.filter_congr fun s hs=>by
  have:=hm s hs
  unfold offT lowF
  rw [yaky (x:=s.f_Hertz - h) (by omega) (by omega),show w64 (0 - 1) = -1 from rfl]
  rcases yeJy (s.f_Hertz - h) with ⟨h1,h2⟩ | ⟨h1,h2⟩ | ⟨h1,h2⟩ <;> rw [h2] <;> simp <;> omega
 rw [e]
 exact ybGy (S:=fun s=>InM s.f_Hertz) (fun x y hx hy=>yCRy hx hy) (fun s hs=>hm s (List.mem_filter.1 hs).1)
theorem side3 {h:Int} (hh:InM h) {l:List G_Spot} (hm:∀ s ∈ l,InM s.f_Hertz):sideT h 1 1 l = sortI byU (l.filter (highF h)):=by
 unfold sideT
 have e:l.filter (fun x=>!offT h 1 1 x) = l.filter (highF h):=List.filter_congr fun s hs=>by
  have:=hm s hs
  unfold offT highF
  rw [yaky (x:=s.f_Hertz - h) (by omega) (by omega),show w64 (0 - 1) = -1 from rfl]
  rcases yeJy (s.f_Hertz - h) with ⟨h1,h2⟩ | ⟨h1,h2⟩ | ⟨h1,h2⟩ <;> rw [h2] <;> simp <;> omega
 rw [e]
 exact ybGy (S:=fun s=>InM s.f_Hertz) (fun x y hx hy=>yCRy hx hy) (fun s hs=>hm s (List.mem_filter.1 hs).1)
theorem side4 {h:Int} (hh:InM h) {l:List G_Spot} (hm:∀ s ∈ l,InM s.f_Hertz):sideT h (-1) 1 l = sortI byD (l.filter fun s=>!highF h s):=by
 unfold sideT
 have e:l.filter (fun x=>!offT h (-1) 1 x) = l.filter (fun s=>!highF h s):=List.filter_congr fun s hs=>by
  have:=hm s hs
  unfold offT highF
  rw [yaky (x:=s.f_Hertz - h) (by omega) (by omega),show w64 (0 - -1) = 1 from rfl]
  rcases yeJy (s.f_Hertz - h) with ⟨h1,h2⟩ | ⟨h1,h2⟩ | ⟨h1,h2⟩ <;> rw [h2] <;> simp <;> omega
 rw [e]
 exact ybGy (S:=fun s=>InM s.f_Hertz) (fun x y hx hy=>yvCy hx hy) (fun s hs=>hm s (List.mem_filter.1 hs).1)
theorem ymny {h:Int} {s:G_Spot} (hh:InM h) (hs:InM s.f_Hertz) (hl:s.f_Hertz≤h):farW h s = h - s.f_Hertz:=by
 unfold farW
 rw [yaky (x:=h - s.f_Hertz) (by omega) (by omega),yaky (x:=s.f_Hertz - h) (by omega) (by omega)]
 split <;> omega
theorem yi9y {h:Int} {s:G_Spot} (hh:InM h) (hs:InM s.f_Hertz) (hl:h≤s.f_Hertz):farW h s = s.f_Hertz - h:=by
 unfold farW
 rw [yaky (x:=h - s.f_Hertz) (by omega) (by omega),yaky (x:=s.f_Hertz - h) (by omega) (by omega)]
 split <;> omega
theorem yAuy (h:Int) (s:G_Spot):ybLy h true s = lowF h s:=by
 unfold ybLy lowF
 rcases Int.lt_trichotomy s.f_Hertz h with h1 | h1 | h1
 ·rw [show (s.f_Hertz == h) = false from by simp; omega,decide_eq_true h1,decide_eq_true (show s.f_Hertz≤h by omega)]; rfl
 ·rw [show (s.f_Hertz == h) = true from by simp [h1],decide_eq_true (show s.f_Hertz≤h by omega)]; rfl
 ·rw [show (s.f_Hertz == h) = false from by simp; omega,decide_eq_false (show ¬ s.f_Hertz < h by omega),decide_eq_false (show ¬ s.f_Hertz≤h by omega)]; rfl
theorem yxTy (h:Int) (s:G_Spot):ybLy h false s = highF h s:=by
 unfold ybLy highF
 rcases Int.lt_trichotomy s.f_Hertz h with h1 | h1 | h1
 ·rw [show (s.f_Hertz == h) = false from by simp; omega,decide_eq_true h1,decide_eq_false (show ¬ h≤s.f_Hertz by omega)]; rfl
 ·rw [show (s.f_Hertz == h) = true from by simp [h1],decide_eq_true (show h≤s.f_Hertz by omega)]; rfl
 ·rw [show (s.f_Hertz == h) = false from by simp; omega,decide_eq_false (show ¬ s.f_Hertz < h by omega),decide_eq_true (show h≤s.f_Hertz by omega)]; rfl
theorem yrNy (h:Int) (down:Bool) (l:List G_Spot):sortI (cmpW h down) l = sortI (cmpW h down) (l.filter (ybLy h down)) ++ sortI (cmpW h down) (l.filter fun s=>!ybLy h down s) :=
 yAAy (fun x y hx hy=>by unfold cmpW; rw [hx,hy]; show (-1:Int) < 0; omega) (fun x y hx hy=>by unfold cmpW; rw [hx,hy]; show ¬ (1:Int) < 0; omega) l
theorem yjdy {h:Int} {down:Bool} {x y:G_Spot} (e:ybLy h down x = ybLy h down y):cmpW h down x y = w64 (farW h x - farW h y):=by
 unfold cmpW
 rw [e,beq_self_eq_true]; rfl
theorem yIFy {h:Int} (hh:InM h) {l:List G_Spot} (hm:∀ s ∈ l,InM s.f_Hertz):sortI (cmpW h true) l = sortI byD (l.filter (lowF h)) ++ sortI byU (l.filter fun s=>!lowF h s):=by
 rw [yrNy]
 have e1:ybLy h true = lowF h:=funext (yAuy h)
 rw [e1]
 congr 1
 ·refine ybGy (S:=fun s=>InM s.f_Hertz∧s.f_Hertz≤h) (fun x y hx hy=>?_) (fun s hs=>⟨hm s (List.mem_filter.1 hs).1,by have:=(List.mem_filter.1 hs).2; unfold lowF at this; exact of_decide_eq_true this⟩)
  rw [yjdy (by rw [e1]; unfold lowF; rw [decide_eq_true hx.2,decide_eq_true hy.2]),ymny hh hx.1 hx.2,ymny hh hy.1 hy.2,yaky (by omega) (by omega)]
  unfold byD hzD
  rw [yh5y]; omega
 ·refine ybGy (S:=fun s=>InM s.f_Hertz∧¬ s.f_Hertz≤h) (fun x y hx hy=>?_) (fun s hs=>⟨hm s (List.mem_filter.1 hs).1,by have:=(List.mem_filter.1 hs).2; unfold lowF at this; simpa using this⟩)
  rw [yjdy (by rw [e1]; unfold lowF; rw [decide_eq_false hx.2,decide_eq_false hy.2]),yi9y hh hx.1 (by omega),yi9y hh hy.1 (by omega),yaky (by omega) (by omega)]
  unfold byU hzU
  rw [yh5y]; omega
theorem yP3y {h:Int} (hh:InM h) {l:List G_Spot} (hm:∀ s ∈ l,InM s.f_Hertz):sortI (cmpW h false) l = sortI byU (l.filter (highF h)) ++ sortI byD (l.filter fun s=>!highF h s):=by
 rw [yrNy]
 have e1:ybLy h false = highF h:=funext (yxTy h)
 rw [e1]
 congr 1
 ·refine ybGy (S:=fun s=>InM s.f_Hertz∧h≤s.f_Hertz) (fun x y hx hy=>?_) (fun s hs=>⟨hm s (List.mem_filter.1 hs).1,by have:=(List.mem_filter.1 hs).2; unfold highF at this; exact of_decide_eq_true this⟩)
  rw [yjdy (by rw [e1]; unfold highF; rw [decide_eq_true hx.2,decide_eq_true hy.2]),yi9y hh hx.1 hx.2,yi9y hh hy.1 hy.2,yaky (by omega) (by omega)]
  unfold byU hzU
  rw [yh5y]; omega
 ·refine ybGy (S:=fun s=>InM s.f_Hertz∧¬ h≤s.f_Hertz) (fun x y hx hy=>?_) (fun s hs=>⟨hm s (List.mem_filter.1 hs).1,by have:=(List.mem_filter.1 hs).2; unfold highF at this; simpa using this⟩)
  rw [yjdy (by rw [e1]; unfold highF; rw [decide_eq_false hx.2,decide_eq_false hy.2]),ymny hh hx.1 (by omega),ymny hh hy.1 (by omega),yaky (by omega) (by omega)]
  unfold byD hzD
  rw [yh5y]; omega
theorem yDBy {h:Int} (hh:InM h) {l:List G_Spot} (hm:∀ s ∈ l,InM s.f_Hertz):yhey h (-1) l = ((sortI (cmpW h true) l).map (·.f_Call),downS h l):=by
 have hA:∀ s,s ∈ sortI byD (l.filter (lowF h)) ↔ s ∈ l∧s.f_Hertz≤h:=fun s=>by rw [ycny,List.mem_filter]; unfold lowF; simp
 have hB:∀ s,s ∈ sortI byU (l.filter fun s=>!lowF h s) ↔ s ∈ l∧h < s.f_Hertz:=fun s=>by rw [ycny,List.mem_filter]; unfold lowF; simp
 unfold yhey
 rw [show (-(-1:Int)) = 1 from rfl,side1 hh hm,side2 hh hm,yIFy hh hm,List.map_append,Prod.mk.injEq]
 refine ⟨rfl,?_⟩
 obtain ⟨e1,w1,m1,a1,b1,c1⟩:=ynDy (sortI byD (l.filter (lowF h))) 0 h (fun s hs=>hm s ((hA s).1 hs).1) hh (by omega) (by omega) (fun s hs=>((hA s).1 hs).2) (yrQy _)
 obtain ⟨e2,w2,m2,a2,b2,c2⟩:=yugy (sortI byU (l.filter fun s=>!lowF h s)) (0 + (h - e1)) e1 (fun s hs=>hm s ((hB s).1 hs).1) m1 (by omega) (by omega) (fun s hs=>by have:=((hB s).1 hs).2; omega) (ytsy _)
 obtain ⟨⟨r1,r2⟩,_,r3,r4,r5⟩:=yray h hh l (0,0) hm ⟨by decide,by decide⟩ ⟨by decide,by decide⟩
 rw [w1,w2]
 unfold downS yaYy
 generalize l.foldl (yaMy h) (0,0) = q at r1 r2 r3 r4 r5
 obtain ⟨x,y⟩:=q
 simp only at r1 r2 r3 r4 r5 ⊢
 have hx:x = h - e1:=by
  have u1:h - e1≤x:=by
   rcases c1 with c1 | ⟨s,hs,c1⟩
   ·omega
   ·have:=(r3 s ((hA s).1 hs).1).1; omega
  have u2:x≤h - e1:=by
   rcases r4 with r4 | ⟨s,hs,r4⟩
   ·omega
   ·by_cases hl:s.f_Hertz≤h
    ·have:=b1 s ((hA s).2 ⟨hs,hl⟩); omega
    ·omega
  omega
 by_cases hy:y = 0
 ·subst hy
  simp only [beq_self_eq_true,cond_true]
  rcases c2 with c2 | ⟨s,hs,c2⟩
  ·omega
  ·have q1:=(hB s).1 hs
   have:=(r3 s q1.1).2
   omega
 ·have hyb:(y == 0) = false:=by simpa using hy
  rw [hyb,cond_false,yaky (x:=2 * x) (by omega) (by omega),yaky (by omega) (by omega)]
  rcases r5 with r5 | ⟨s,hs,r5⟩
  ·omega
  ·have q1:=b2 s ((hB s).2 ⟨hs,by omega⟩)
   rcases c2 with c2 | ⟨z,hz,c2⟩
   ·omega
   ·have:=(r3 z ((hB z).1 hz).1).2
    omega
theorem yJsy {h:Int} (hh:InM h) {l:List G_Spot} (hm:∀ s ∈ l,InM s.f_Hertz):yhey h 1 l = ((sortI (cmpW h false) l).map (·.f_Call),upS h l):=by
 have hA:∀ s,s ∈ sortI byU (l.filter (highF h)) ↔ s ∈ l∧h≤s.f_Hertz:=fun s=>by rw [ycny,List.mem_filter]; unfold highF; simp
 have hB:∀ s,s ∈ sortI byD (l.filter fun s=>!highF h s) ↔ s ∈ l∧s.f_Hertz < h:=fun s=>by rw [ycny,List.mem_filter]; unfold highF; simp
 unfold yhey
 rw [side3 hh hm,side4 hh hm,yP3y hh hm,List.map_append,Prod.mk.injEq]
 refine ⟨rfl,?_⟩
 obtain ⟨e1,w1,m1,a1,b1,c1⟩:=yugy (sortI byU (l.filter (highF h))) 0 h (fun s hs=>hm s ((hA s).1 hs).1) hh (by omega) (by omega) (fun s hs=>((hA s).1 hs).2) (ytsy _)
 obtain ⟨e2,w2,m2,a2,b2,c2⟩:=ynDy (sortI byD (l.filter fun s=>!highF h s)) (0 + (e1 - h)) e1 (fun s hs=>hm s ((hB s).1 hs).1) m1 (by omega) (by omega) (fun s hs=>by have:=((hB s).1 hs).2; omega) (yrQy _)
 obtain ⟨⟨r1,r2⟩,_,r3,r4,r5⟩:=yray h hh l (0,0) hm ⟨by decide,by decide⟩ ⟨by decide,by decide⟩
 rw [w1,w2]
 unfold upS yaYy
 generalize l.foldl (yaMy h) (0,0) = q at r1 r2 r3 r4 r5
 obtain ⟨x,y⟩:=q
 simp only at r1 r2 r3 r4 r5 ⊢
 have hy:y = e1 - h:=by
  have u1:e1 - h≤y:=by
   rcases c1 with c1 | ⟨s,hs,c1⟩
   ·omega
   ·have:=(r3 s ((hA s).1 hs).1).2; omega
  have u2:y≤e1 - h:=by
   rcases r5 with r5 | ⟨s,hs,r5⟩
   ·omega
   ·by_cases hl:h≤s.f_Hertz
    ·have:=b1 s ((hA s).2 ⟨hs,hl⟩); omega
    ·omega
  omega
 by_cases hx:x = 0
 ·subst hx
  simp only [beq_self_eq_true,cond_true]
  rcases c2 with c2 | ⟨s,hs,c2⟩
  ·omega
  ·have q1:=(hB s).1 hs
   have:=(r3 s q1.1).1
   omega
 ·have hxb:(x == 0) = false:=by simpa using hx
  rw [hxb,cond_false,yaky (x:=2 * y) (by omega) (by omega),yaky (by omega) (by omega)]
  rcases r4 with r4 | ⟨s,hs,r4⟩
  ·omega
  ·have q1:=b2 s ((hB s).2 ⟨hs,by omega⟩)
   rcases c2 with c2 | ⟨z,hz,c2⟩
   ·omega
   ·have:=(r3 z ((hB z).1 hz).1).1
    omega
theorem yxMy {b:List G_Band} (hr:yaxy b = 0) (hb:b.length≤100000) {life at0:Int} (ha:-1000000000000≤at0∧at0≤1000000000000) (hf:-1000000000000≤life∧life≤1000000000000) {l:List G_Spot} (hl:l.length≤20) (hm:∀ s ∈ l,InM s.f_Hertz) {h:Int} (hh:InM h) (R:Type) (k:List (List UInt8)→Int→Option R) :
  Q_SweepOf b l life at0 h k = k (ycoy h (yajy b life at0 l)).1 (ycoy h (yajy b life at0 l)).2:=by
 have hle:=ydUy b life at0 l
 have hmh:∀ s ∈ yajy b life at0 l,InM s.f_Hertz:=fun s hs=>hm s (ygLy hs).1
 simp only [Q_SweepOf,ylqy,yjzy,z10z_is hr hb ha hf (show l.length≤1000 by omega),ytIy (show (yajy b life at0 l).length≤20 by omega) h (.inr rfl),ytIy (show (yajy b life at0 l).length≤20 by omega) h (.inl rfl),yDBy hh hmh,yJsy hh hmh]
 unfold ycoy
 by_cases hd:downS h (yajy b life at0 l)≤upS h (yajy b life at0 l)
 ·rw [decide_eq_true hd,decide_eq_false (by omega)]; rfl
 ·rw [decide_eq_false hd,decide_eq_true (by omega)]; rfl
end Go.Am
set_option linter.unusedVariables false
set_option linter.unusedSectionVars false
set_option linter.unusedSimpArgs false
set_option maxRecDepth 100000
namespace Go.Am
open Go Go.Proofs
variable [Fuel]
theorem yqEy:∀ (l:List G_Spot) (p:Option G_Spot),yb4y p l = 0→∀ c ∈ l,chkS c = 0
 | [],_,_,c,h=>by cases h
 | x :: xs,p,h,c,hc=>by
  unfold yb4y at h
  cases hq:chkS x != 0 with
  | true=>rw [hq] at h; simp only [cond_true] at h; rw [h] at hq; cases hq
  | false =>
   rw [hq] at h
   simp only [cond_false] at h
   have h0:chkS x = 0:=by simpa using hq
   have h2:yb4y (some x) xs = 0:=by
    cases p with
    | none=>exact h
    | some q =>
     simp only at h
     cases hd:decide (cmpSp q x ≥ 0) with
     | true=>rw [hd] at h; simp only [cond_true] at h; omega
     | false=>rw [hd] at h; exact h
   rcases List.mem_cons.1 hc with rfl | hc
   ·exact h0
   ·exact yqEy xs (some x) h2 c hc
theorem yEvy {l:List G_Spot} (h:yaDy l = 0):∀ c ∈ l,InM c.f_Hertz:=fun c hc=>by
 unfold yaDy at h
 have h2:yb4y none l = 0:=by
  cases hd:decide ((l.length:Int) > 2000) with
  | true=>rw [hd] at h; simp only [cond_true] at h; omega
  | false=>rw [hd] at h; exact h
 have h3:=yqEy l none h2 c hc
 unfold chkS at h3
 cases hi:inB c.f_Hertz 0 30000000000 with
 | true=>exact yiPy.1 hi
 | false=>rw [hi] at h3; revert h3; cases momB c.f_At <;> simp
theorem z103z_gives {b:Int} {s:G_Stream} (hs:SOk b s) (hb:b≤1000000):∃ (r:Int) (s':G_Stream),SOk (b + 5) s'∧∀ (R:Type) (k:Int→G_Stream→Option R),z103z s k = k r s':=by
 obtain ⟨f,s1,z1,e1⟩:=z76z_gives hs 15 (by omega) (by omega)
 cases f with
 | true =>
  obtain ⟨x,s2,_,_,z2,e2⟩:=ybby z1 0 30000000000 (by omega) (by omega) (by omega) (by omega) (by omega)
  exact ⟨x,s2,z2.mono (by omega),fun R k=>by simp only [z103z,z103z_,ypQy,e1,cond_true,e2]⟩
 | false =>
  obtain ⟨x,s2,_,z2,e2⟩:=z65z_gives z1 [0,1799999,1800000,7000000,7299999,7300000,14025000,14349999,14350000,30000000000] (by omega) (by simp) (by simp)
  exact ⟨x,s2,z2.mono (by omega),fun R k=>by simp only [z103z,z103z_,ypQy,e1,cond_false,e2]⟩
theorem yCvy (p q:Bool) (e:Int):orL [bif p && q then 0 else e] = orL [bif p then 0 else e,bif q then 0 else e]:=by
 cases p <;> cases q <;> simp only [cond_true,cond_false,Bool.and_true,Bool.and_false,Bool.true_and,Bool.false_and,orL] <;> first | rfl | (cases e != 0 <;> rfl)
theorem ypsy (x y:List Int):orL (x ++ y) = bif orL x != 0 then orL x else orL y:=by
 induction x with
 | nil=>rfl
 | cons a x ih =>
  simp only [List.cons_append,orL,ih]
  cases h:a != 0 with
  | true=>simp only [cond_true,h]
  | false=>simp only [cond_false]
theorem yK7y (x lo hi e:Int):outF x lo hi e = bif inB x lo hi then 0 else e:=by
 unfold outF
 cases inB x lo hi <;> rfl
theorem oneE (a b c m l h:Int) (p q:Bool):orL [orL [a,b],c,m,bif p && q then 0 else 1] = orL [orL [a,b],c,m,bif p then 0 else 1,bif q then 0 else 1]:=by
 show orL ([orL [a,b],c,m] ++ [bif p && q then 0 else 1]) = orL ([orL [a,b],c,m] ++ [bif p then 0 else 1,bif q then 0 else 1])
 rw [ypsy,ypsy,yCvy]
theorem twoE (a b:Int) (p q:Bool):orL [a,b,bif p && q then 0 else 1] = orL [orL [a,b],bif p then 0 else 1,bif q then 0 else 1]:=by
 show orL ([a,b] ++ [bif p && q then 0 else 1]) = orL ([orL [a,b]] ++ [bif p then 0 else 1,bif q then 0 else 1])
 rw [ypsy,ypsy,yCvy]
 have:orL [orL [a,b]] = orL [a,b]:=by
  show (bif orL [a,b] != 0 then orL [a,b] else 0) = _
  by_cases h:orL [a,b] = 0
  ·rw [h]; rfl
  ·rw [show (orL [a,b] != 0) = true from by simpa using h]; rfl
 rw [this]
theorem yAIy {l:List (List UInt8)} (hl:l.length≤1000000) (R:Type) (k:Bool→Option R):z29z l l k = k true:=by
 rw [yMEy]; exact yqwy (by have:=NN_ok; omega) (by have:=NN_ok; omega) (fun x=>by simp) k
theorem ynzy (R:Type) (k:Bool→Option R):z57z [] k = k true:=by
 rw [yNRy]; exact yqDy (by have:=NN_ok; omega) k
theorem yExy (h:Int) (l:List G_Spot):(ycoy h l).1.length = l.length:=by
 unfold ycoy
 cases decide (downS h l≤upS h l) <;> simp [ybzy]
theorem yDdy (b:List G_Band) (c:List G_Contact) (mode at0 hertz:Int) (h:List G_Spot):(ye6y b c mode at0 hertz h).length≤h.length:=by
 unfold ye6y
 rw [ybzy]
 exact List.length_filter_le _ _
theorem law_SpotsWorth_true (l:List Int) (R:Type) (k:Bool→Option R):law_SpotsWorth l k = k true:=by
 obtain ⟨b,s1,z1,hb4,hb,e1⟩:=z101z_gives (sOk0 l) (by omega)
 obtain ⟨n,s2,n1,n2,z2,e2⟩:=z97z_gives z1 0 12 (by omega) (by omega) (by omega) (by omega) (by omega)
 obtain ⟨n,rfl⟩:∃ q:Nat,n = (q:Int):=⟨n.toNat,by omega⟩
 obtain ⟨x,s3,z3,hx12,hx,e3⟩:=z68z_gives z2 (by omega) n (by omega)
 obtain ⟨q,s4,q1,q2,z4,e4⟩:=z97z_gives z3 0 6 (by omega) (by omega) (by omega) (by omega) (by omega)
 obtain ⟨q,rfl⟩:∃ p:Nat,q = (p:Int):=⟨q.toNat,by omega⟩
 obtain ⟨c,s5,z5,hc6,hc,e5⟩:=z21z_gives z4 (by omega) q (by omega)
 have hcf:∀ y ∈ c,Fine y:=fun y hy=>(hc y hy).1
 obtain ⟨mode,s6,hmode,z6,e6⟩:=z65z_gives z5 [1,1,2,3,0] (by omega) (by simp) (by simp)
 obtain ⟨life,s7,hlife,z7,e7⟩:=z65z_gives z6 [5,30,1000,0] (by omega) (by simp) (by simp)
 obtain ⟨at0,s8,hat,z8,e8⟩:=z65z_gives z7 [10,30,60,100,-1] (by omega) (by simp) (by simp)
 obtain ⟨hz,s9,z9,e9⟩:=z103z_gives z8 (by omega)
 obtain ⟨h,s10,hh,z10,e10⟩:=z65z_gives z9 [7000000,7150000,14015000,14020000,hz] (by omega) (by simp) (by simp)
 have hle:=ydUy b life at0 x
 have hsl:=yExy h (yajy b life at0 x)
 have hwl:=yDdy b c mode at0 h (yajy b life at0 x)
 have w1:∀ k:List G_Spot→Int→Option R,band_Worth b x c mode life at0 h k = bif orL [orL [yaxy b,yaDy x],ychy c,bif inB mode 1 3 then 0 else 4,bif lifeB life at0 then 0 else 1,bif inB h 0 30000000000 then 0 else 1] != 0 then k [] (orL [orL [yaxy b,yaDy x],ychy c,bif inB mode 1 3 then 0 else 4,bif lifeB life at0 then 0 else 1,bif inB h 0 30000000000 then 0 else 1]) else k (ye6y b c mode at0 h (yajy b life at0 x)) 0:=fun k=>by
  rw [yv9y hb hx hcf (by omega) (by omega) (by omega),oneE _ _ _ _ 0 0]
 have w2:∀ k:List (List UInt8)→Int→Int→Option R,band_Sweep b x life at0 h k = bif orL [orL [yaxy b,yaDy x],bif lifeB life at0 then 0 else 1,bif inB h 0 30000000000 then 0 else 1] != 0 then k [] 0 (orL [orL [yaxy b,yaDy x],bif lifeB life at0 then 0 else 1,bif inB h 0 30000000000 then 0 else 1]) else k (ycoy h (yajy b life at0 x)).1 (ycoy h (yajy b life at0 x)).2 0:=fun k=>by
  rw [ywIy hb hx (by omega) (by omega),twoE]
 simp only [law_SpotsWorth,yfMy,yeAy,e1,e2,e3,e4,e5,e6,e7,e8,e9,e10,w1,w2,
  z71z_is hx (show x.length≤100000 by omega),z47z_is hb (show b.length≤100000 by omega),ywiy hcf (show c.length≤100000 by omega),z109z_is,z102z_is,z98z_is,yK7y,yjly [yaxy b,yaDy x] (by simp),yjly [orL [yaxy b,yaDy x],ychy c,bif inB mode 1 3 then 0 else 4,bif lifeB life at0 then 0 else 1,bif inB h 0 30000000000 then 0 else 1] (by simp),yjly [orL [yaxy b,yaDy x],bif lifeB life at0 then 0 else 1,bif inB h 0 30000000000 then 0 else 1] (by simp)]
 have hor:∀ (r:List Int),orL (orL [yaxy b,yaDy x] :: r) = 0→(bif lifeB life at0 then (0:Int) else 1) ∈ r→(bif inB h 0 30000000000 then (0:Int) else 1) ∈ r→yaxy b = 0∧yaDy x = 0∧lifeB life at0 = true∧InM h:=fun r h0 m1 m2=>by
  rw [yqXy] at h0
  have g1:=yqXy.1 (h0 (orL [yaxy b,yaDy x]) (by simp))
  have g2:=h0 _ (List.mem_cons_of_mem _ m1)
  have g3:=h0 _ (List.mem_cons_of_mem _ m2)
  refine ⟨g1 _ (by simp),g1 _ (by simp),?_,?_⟩
  ·cases hq:lifeB life at0 with
   | true=>rfl
   | false=>rw [hq] at g2; cases g2
  ·cases hq:inB h 0 30000000000 with
   | true=>exact yiPy.1 hq
   | false=>rw [hq] at g3; cases g3
 have hW:orL [orL [yaxy b,yaDy x],ychy c,bif inB mode 1 3 then 0 else 4,bif lifeB life at0 then 0 else 1,bif inB h 0 30000000000 then 0 else 1] = 0→∀ k:List G_Spot→Option R,z1z b x c mode life at0 h k = k (ye6y b c mode at0 h (yajy b life at0 x)):=fun h0 k=>by
  obtain ⟨g1,g2,g3,g4⟩:=hor _ h0 (by simp) (by simp)
  obtain ⟨a1,a2⟩:=ylky g3
  exact z1z_is g1 (by omega) ⟨by omega,by omega⟩ ⟨by omega,by omega⟩ hx (by omega) hcf (by omega) mode h R k
 have hS:orL [orL [yaxy b,yaDy x],bif lifeB life at0 then 0 else 1,bif inB h 0 30000000000 then 0 else 1] = 0→∀ k:List (List UInt8)→Int→Option R,Q_SweepOf b x life at0 h k = k (ycoy h (yajy b life at0 x)).1 (ycoy h (yajy b life at0 x)).2:=fun h0 k=>by
  obtain ⟨g1,g2,g3,g4⟩:=hor _ h0 (by simp) (by simp)
  obtain ⟨a1,a2⟩:=ylky g3
  exact yxMy g1 (by omega) ⟨by omega,by omega⟩ ⟨by omega,by omega⟩ (by omega) (yEvy g2) g4 R k
 generalize orL [orL [yaxy b,yaDy x],ychy c,bif inB mode 1 3 then 0 else 4,bif lifeB life at0 then 0 else 1,bif inB h 0 30000000000 then 0 else 1] = F1 at hW ⊢
 generalize orL [orL [yaxy b,yaDy x],bif lifeB life at0 then 0 else 1,bif inB h 0 30000000000 then 0 else 1] = F2 at hS ⊢
 have q1:∀ k:Bool→Option R,z37z (ye6y b c mode at0 h (yajy b life at0 x)) (ye6y b c mode at0 h (yajy b life at0 x)) k = k true:=fun k=>yF3y (by omega) R k
 have q2:∀ k:Bool→Option R,z29z (ycoy h (yajy b life at0 x)).1 (ycoy h (yajy b life at0 x)).1 k = k true:=fun k=>yAIy (by omega) R k
 by_cases c1:F1 = 0 <;> by_cases c2:F2 = 0
 ·subst c1 c2
  simp only [bne_self_eq_false,cond_false,beq_self_eq_true,cond_true,hW rfl,hS rfl,q1,q2,yemy]
 ·subst c1
  have n2:(F2 != 0) = true:=by simpa using c2
  have m2:(F2 == 0) = false:=by simpa using c2
  simp only [bne_self_eq_false,cond_false,beq_self_eq_true,cond_true,hW rfl,n2,m2,q1,ynzy,yemy]
 ·subst c2
  have n1:(F1 != 0) = true:=by simpa using c1
  have m1:(F1 == 0) = false:=by simpa using c1
  simp only [bne_self_eq_false,cond_false,beq_self_eq_true,cond_true,hS rfl,n1,m1,yrTy,q2,yemy]
 ·have n1:(F1 != 0) = true:=by simpa using c1
  have m1:(F1 == 0) = false:=by simpa using c1
  have n2:(F2 != 0) = true:=by simpa using c2
  have m2:(F2 == 0) = false:=by simpa using c2
  simp only [beq_self_eq_true,cond_true,cond_false,n1,m1,n2,m2,yrTy,ynzy,yemy]
end Go.Am
