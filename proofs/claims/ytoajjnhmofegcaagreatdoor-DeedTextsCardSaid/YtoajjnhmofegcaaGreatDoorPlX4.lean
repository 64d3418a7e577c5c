/- The plain law, in Lean alone: X4, X5. No condition: lemmas for the claim. -/
import Derived.Test.YtoajjnhmofegcaaGreatDoorPlX1
import Derived.Test.YtoajjnhmofegcaaGreatDoorPlV6
set_option linter.unusedVariables false
set_option linter.unusedSectionVars false
set_option linter.unusedSimpArgs false
set_option maxRecDepth 100000
namespace Go.Am
open Go Go.Proofs
variable [Fuel]
theorem yiZy (d:List (List UInt8)) (ended:Bool) (hd:∀ l∈d,l.length≤900000) (hl:d.length≤900000):∀ (xs:List (List UInt8)) (n i:Nat) (acc:List G_Deed),d.drop i = xs→xs.length < n→acc.length≤i→∀ (R:Type) (e0:Int→Int→Option R) (e1:List G_Deed→Option R),
  ycey ybxy n ended (d.length:Int) (i:Int) d acc (fun a b _=>e0 a b) e1 = match goG deedL ended i xs acc with | .inl j=>e0 (j:Int) 9 | .inr a=>e1 a
 | _,0,_,_,_,h,_,_,_,_=>by omega
 | [],n + 1,i,acc,h,_,_,R,e0,e1=>by rw [ycey,ya2y h];rfl
 | l::ls,n + 1,i,acc,h,hn,ha,R,e0,e1=>by
  have h':=yavy h
  have hlt:=h'.2.1
  have hll:=hd l (ybOy h)
  have ih:=fun c hc=>yiZy d ended hd hl ls n (i + 1) (acc++[c]) h'.2.2.1 (Nat.lt_of_succ_lt_succ (by simpa only [List.length_cons] using hn)) hc R e0 e1
  obtain ⟨z,hz⟩:=yvIy hll
  have w1:∀ k:G_Deed→Bool→Option R,ybxy.z46z l k = (deedL l).elim (k z false) fun c=>k c true:=fun k=>hz R k
  have hlast:((i:Int) == w64 ((d.length:Int) - 1)) = (ls == []):=by
   rw [yf9y (by omega) (by omega)]
   have e:=h'.2.2.2
   cases ls with
   | nil=>rw [List.length_nil] at e;rw [show d.length - 1 = i by omega];simp
   | cons a b =>
    rw [List.length_cons] at e
    have:((i:Int) == ((d.length - 1:Nat):Int)) = false:=beq_eq_false_iff_ne.2 (by omega)
    rw [this];rfl
  rw [ycey,yaYy h,cond_true,ytYy h,ycyy h'.1,w1,yiny]
  cases hL:deedL l with
  | none =>
   show e0 _ _ = _
   cases !ended&&ls == [] <;> rfl
  | some c =>
   simp only [Option.elim]
   rw [Bool.not_true,cond_false,hlast,room1 acc _ 176 (by omega) (by omega),cond_true,yapy (show i < 4611686018427387904 by omega),ih _ (by simp;omega)]
   cases ended <;> cases ls == [] <;> rfl
theorem ylDy:∀ (n i:Nat) (t:List UInt8) (acc:List G_Deed),t.length < n→t.length≤900000→acc.length + t.length≤900000→i + t.length≤900000→∀ (R:Type) (z:Int→Option R) (e2:List G_Deed→Option R) (e0:Int→Bool→List G_Deed→Option R),(∀ a c,e0 a false c = z a) →
  z16z_L2 yfRy n t (i:Int) acc e0 e0 e2 = match goQ deedL n i t acc with | .inl j=>z (j:Int) | .inr a=>e2 a
 | 0,_,_,_,h,_,_,_,_,_,_,_,_=>by omega
 | n + 1,i,t,acc,h,hl,ha,hi,R,z,e2,e0,hz=>by
  rw [z16z_L2,goQ]
  cases ht:t == [] with
  | true=>rfl
  | false =>
   have hne:t≠[]:=beq_eq_false_iff_ne.1 ht
   have hpos:=List.length_pos_iff.2 hne
   have hcl:=yiay 10 t
   obtain ⟨acc',q1,q2⟩:=yzey (l:=(cutB 10 t).1) (acc:=acc) (by omega) (by omega)
   have w1:∀ k:List UInt8→List UInt8→Bool→Option R,yfRy.z22z t [10] k = k (cutB 10 t).1 (cutB 10 t).2.1 (cutB 10 t).2.2:=fun k=>Cut_g 10 (by omega) R k
   have w2:∀ k:Bool→List G_Deed→Option R,yfRy.z40z (cutB 10 t).1 acc k = k (deedL (cutB 10 t).1).isSome acc':=fun k=>q1 R k
   rw [Bool.not_false,cond_true,w1,w2]
   simp only [Bool.false_eq_true,if_false]
   cases hc:(cutB 10 t).2.2 with
   | false=>rw [Bool.not_false,cond_true,if_pos rfl];exact hz _ _
   | true =>
    have hcl2:=hcl.2 hc
    rw [Bool.not_true,cond_false,if_neg (by decide)]
    cases hL:deedL (cutB 10 t).1 with
    | none=>exact hz _ _
    | some c =>
     rw [q2 c hL,Option.isSome_some,Bool.not_true,cond_false,yapy (show i < 4611686018427387904 by omega)]
     exact ylDy n (i + 1) (cutB 10 t).2.1 (acc++[c]) (by omega) (by omega) (by simp;omega) (by omega) R z e2 e0 hz
theorem ypiy:FineW noCon:=⟨⟨by simp [noCon],by simp [noCon]⟩,⟨by simp [noCon],by simp [noCon]⟩,⟨by simp [noCon],by simp [noCon]⟩,⟨by simp [noCon],by simp [noCon]⟩,by simp [noCon],by simp [noCon],(fun x hx=>by cases hx),by simp [noCon],by simp [noCon]⟩
theorem yqGy {n:Int} (h:Wide n):FineW (conS n):=⟨⟨by simp,by simp⟩,⟨by simp,by simp⟩,h,⟨by simp,by simp⟩,by simp,by simp,(fun x hx=>by cases hx),by simp,by simp⟩
theorem ywxy {ws:List (List UInt8)} (hw:∀ w∈ws,w.length≤1000000∧ascB w):FineW (contQ ws):=by
 rcases eight (ws:=ws) with ⟨h1,h2,h3⟩ | ⟨w0,w1,w2,w3,w4,w5,w6,w7,rfl⟩
 ·rw [h3];exact ypiy
 ·have hid:=yn4y w1 yaHy
  have hml:yaHy.length = 4:=rfl
  rw [hml] at hid
  refine ⟨ybBy w0,⟨?_,?_⟩,ybBy w4,ybBy w6,(hw w2 (by simp)).1,(hw w3 (by simp)).1,(hw w3 (by simp)).2,?_,?_⟩
  ·show _≤idxG w1 yaHy
   omega
  ·show idxG w1 yaHy≤_
   omega
  ·show (ybqy w5).length≤1000000
   have:=(hw w5 (by simp)).1
   unfold ybqy
   split
   ·simp
   ·exact this
  ·show (ybqy w7).length≤1000000
   have:=(hw w7 (by simp)).1
   unfold ybqy
   split
   ·simp
   ·exact this
theorem yz5y {l:List UInt8} (hl:l.length≤900000) (ha:ascB l) {c:G_Deed} (h:deedL l = some c):FineDW c:=by
 have hw:∀ w∈yaly 32 l,w.length≤1000000∧ascB w:=fun w hh=>⟨ymzy (l:=l) (by omega) w hh,fun x hx=>ha x (yk3y 32 l w hh x hx).1⟩
 unfold deedL at h
 split at h
 ·rcases yrwy (ws:=yaly 32 l) with ⟨h1,h2⟩ | ⟨s,n,a,kw,r0,rs,e⟩
  ·rw [h2] at h;cases h
  ·rw [e] at h hw
   have h:(if numB n&&numB a then deedK s (numQ n) (numQ a) kw r0 rs else none) = some c:=h
   have ws:=(hw s (by simp)).1
   have wr:=(hw r0 (by simp)).1
   have wc:=ywxy (ws:=r0::rs) fun w hh=>hw w (by simp at hh ⊢;rcases hh with hh | hh <;> simp [hh])
   split at h
   ·unfold deedK at h
    split at h
    ·split at h
     ·rw [← Option.some.inj h];exact ⟨ws,ybBy n,ybBy a,wc,by simp,by simp⟩
     ·cases h
    ·split at h
     ·split at h
      ·rw [← Option.some.inj h];exact ⟨ws,ybBy n,ybBy a,ypiy,wr,by simp⟩
      ·cases h
     ·split at h
      ·split at h
       ·split at h
        ·rw [← Option.some.inj h];exact ⟨ws,ybBy n,ybBy a,yqGy (ybBy r0),by simp,by simp⟩
        ·cases h
       ·cases h
      ·split at h
       ·split at h
        ·split at h
         ·rw [← Option.some.inj h];exact ⟨ws,ybBy n,ybBy a,yqGy (ybBy r0),by simp,by simp⟩
         ·cases h
        ·cases h
       ·split at h
        ·split at h
         ·split at h
          ·rw [← Option.some.inj h];exact ⟨ws,ybBy n,ybBy a,ypiy,by simp,wr⟩
          ·cases h
         ·cases h
        ·cases h
   ·cases h
 ·cases h
noncomputable def ybiy (s:List UInt8):List G_Deed×Int×Int:=if s.length > 200000 then ([],0,2) else match goG deedL (endG s) 0 (ybpy s) [] with
 | .inl j=>([],(j:Int),9)
 | .inr a=>if ycgy a != 0 then ([],0,ycgy a) else (a,0,0)
theorem yjay {s:List UInt8} (ha:ascB s) (hl:s.length≤200000) {a:List G_Deed} (h:goG deedL (endG s) 0 (ybpy s) [] = .inr a):(∀ c∈a,FineDW c)∧a.length≤900000:=by
 have hm:=ypFy s
 have hn:=ypGy s
 have:=yyQy deedL FineDW (endG s) (ybpy s) 0 [] a (fun l hL c hc=>yz5y (by have:=(hm l hL).1;omega) (fun x hx=>ha x ((hm l hL).2 x hx)) hc) (fun c hc=>by cases hc) h
 exact ⟨this.1,by have:=this.2;simp only [List.length_nil] at this;omega⟩
theorem ykJy {s:List UInt8} (hl:s.length > 200000):ybiy s = ([],0,2):=by unfold ybiy;rw [if_pos hl]
theorem ykNy {s:List UInt8} (hl:¬ s.length > 200000) {j:Nat} (hg:goG deedL (endG s) 0 (ybpy s) [] = .inl j):ybiy s = ([],(j:Int),9):=by unfold ybiy;rw [if_neg hl,hg]
theorem ykWy {s:List UInt8} (hl:¬ s.length > 200000) {a:List G_Deed} (hg:goG deedL (endG s) 0 (ybpy s) [] = .inr a):ybiy s = if ycgy a != 0 then ([],0,ycgy a) else (a,0,0):=by unfold ybiy;rw [if_neg hl,hg]
theorem ytMy {s:List UInt8} (ha:ascB s) (R:Type) (k:List G_Deed→Int→Int→Option R):net_Read s k = k (ybiy s).1 (ybiy s).2.1 (ybiy s).2.2:=by
 show yiOy ybxy s k = _
 unfold yiOy
 by_cases hl:s.length > 200000
 ·rw [decide_eq_true (show (s.length:Int) > 200000 by omega),ykJy hl];rfl
 ·have hm:=ypFy s
  have hn:=ypGy s
  have w1:∀ k:List (List UInt8)→Bool→Option R,ybxy.kit_Lines s k = k (ybpy s) (endG s):=fun k=>yxuy (by omega) R k
  rw [decide_eq_false (show ¬ (s.length:Int) > 200000 by omega),cond_false,w1]
  refine (yiZy (ybpy s) (endG s) (fun l h=>by have:=(hm l h).1;omega) (by omega) (ybpy s) NN 0 [] rfl (by have:=NN_ok;omega) (Nat.zero_le _) R (fun a b=>k [] a b) _).trans ?_
  cases hg:goG deedL (endG s) 0 (ybpy s) [] with
  | inl j=>rw [ykNy hl hg]
  | inr a =>
   obtain ⟨f1,f2⟩:=yjay ha (by omega) hg
   have w2:∀ k:Int→Option R,ybxy.z7z a k = k (ycgy a):=fun k=>z7z_any f1 (by omega) R k
   show ybxy.z7z a _ = _
   rw [w2,ykWy hl hg]
   cases ycgy a != 0 <;> rfl
theorem z11z_any {s:List UInt8} (ha:ascB s) (R:Type) (k:List G_Deed→Int→Int→Option R):z11z s k = k (ybiy s).1 (ybiy s).2.1 (ybiy s).2.2:=by
 show z11z_ ym5y s k = _
 unfold z11z_
 by_cases hl:s.length > 200000
 ·rw [decide_eq_true (show (s.length:Int) > 200000 by omega),ykJy hl];rfl
 ·rw [decide_eq_false (show ¬ (s.length:Int) > 200000 by omega),cond_false]
  have hz:=ylDy NN 0 s [] (by have:=NN_ok;omega) (by omega) (by simp;omega) (by omega) R (fun a=>k [] a 9)
  refine (hz _ _ (fun a c=>rfl)).trans ?_
  rw [goQ_G deedL NN 0 s [] (by have:=NN_ok;omega)]
  cases hg:goG deedL (endG s) 0 (ybpy s) [] with
  | inl j=>rw [ykNy hl hg]
  | inr a =>
   obtain ⟨f1,f2⟩:=yjay ha (by omega) hg
   have w2:∀ k:Int→Option R,ym5y.z3z a k = k (ycgy a):=fun k=>z3z_any f1 (by omega) R k
   show ym5y.z3z a _ = _
   rw [w2,ykWy hl hg]
   cases ycgy a != 0 <;> rfl
theorem yzcy {s:List UInt8} (ha:ascB s):(ybiy s).1.length≤900000:=by
 by_cases hl:s.length > 200000
 ·rw [ykJy hl];simp
 ·cases hg:goG deedL (endG s) 0 (ybpy s) [] with
  | inl j=>rw [ykNy hl hg];simp
  | inr a =>
   have:=(yjay ha (by omega) hg).2
   rw [ykWy hl hg]
   cases ycgy a != 0
   ·exact this
   ·simp
theorem yBhy {x:G_Deed} (h:DeedOk x):ascB (lineD x):=by
 have site:=(ybjy h.fine.site).2
 have hr:∀ w∈restD x,ascB w:=by
  unfold restD
  rcases h.kinds with g | g | g | g
  ·rw [g.1]
   exact fun w hw=>(ydWy (yiIy h g.1).1 w hw).2
  ·rw [g.1]
   intro w hw
   have hw:w = x.f_Band:=List.mem_singleton.1 hw
   rw [hw];exact (ybjy h.fine.band).2
  ·have e:(bif x.f_Kind == 1 then ybIy x.f_Contact else bif x.f_Kind == 2 then [x.f_Band] else bif x.f_Kind == 5 then [x.f_Of,Lib.itoa x.f_Other] else [Lib.itoa x.f_Contact.f_Sent]) = [Lib.itoa x.f_Contact.f_Sent]:=by
    rcases g.1 with hk | hk <;> rw [hk] <;> rfl
   rw [e]
   intro w hw
   rw [List.mem_singleton.1 hw];exact yeQy _
  ·rw [g.1]
   intro w hw
   have hw:w∈[x.f_Of,Lib.itoa x.f_Other]:=hw
   simp only [List.mem_cons,List.not_mem_nil,or_false] at hw
   rcases hw with rfl | rfl
   ·exact (ybjy h.fine.of1).2
   ·exact yeQy _
 have hk:ascB (kindW x.f_Kind):=by
  have hq:=ynjy h
  have:x.f_Kind = 1 ∨ x.f_Kind = 2 ∨ x.f_Kind = 3 ∨ x.f_Kind = 4 ∨ x.f_Kind = 5:=by omega
  rcases this with e | e | e | e | e <;> rw [e] <;> (show ∀ y∈_,_) <;> decide
 refine ytey (fun w hw=>?_) (yijy (by decide))
 unfold ye9y at hw
 simp only [List.mem_cons] at hw
 rcases hw with rfl | rfl | rfl | rfl | hw
 ·exact site
 ·exact yeQy _
 ·exact yeQy _
 ·exact hk
 ·exact hr w hw
theorem yr8y:∀ {d:List G_Deed},(∀ c∈d,DeedOk c)→ascB (ybKy lineD d)
 | [],_=>fun x hx=>by cases hx
 | c::cs,h=>yeNy (yeNy (yBhy (h c (by simp))) (yijy (by decide))) (yr8y fun c hc=>h c (List.mem_cons_of_mem _ hc))
theorem yDvy {a b:Int} (ha:Wide a) (hb:Wide b) (R:Type) (k:List UInt8→Option R):Q_Numbers [a,b] k = k (Lib.join [Lib.itoa a,Lib.itoa b] [32]):=by
 have la:=ybky ha
 have lb:=ybky hb
 have h1:∀ k:List UInt8→Option R,ybvy.strconv_Itoa a k = k (Lib.itoa a):=fun k=>ycAy ha R k
 have h2:∀ k:List UInt8→Option R,ybvy.strconv_Itoa b k = k (Lib.itoa b):=fun k=>ycAy hb R k
 have h3:∀ k:List UInt8→Option R,ybvy.strings_Join [Lib.itoa a,Lib.itoa b] [32] k = k (Lib.join [Lib.itoa a,Lib.itoa b] [32]):=fun k=>yqYy (ws:=[Lib.itoa a,Lib.itoa b]) (by simp) (fun w hw=>by
  simp only [List.mem_cons,List.not_mem_nil,or_false] at hw
  rcases hw with rfl | rfl <;> omega) (by simp) R k
 obtain ⟨m,e,hm⟩:=yyoy
 obtain ⟨m,rfl⟩:∃ q,m = q + 2:=⟨m - 2,by omega⟩
 show yb3y ybvy NN [a,b] (([a,b]:List Int).length:Int) ((0:Nat):Int) [] (fun e10=>ybvy.strings_Join e10 [32] fun r11=>k r11) = _
 rw [e]
 have d0:([a,b]:List Int).drop 0 = a::[b]:=rfl
 have d1:([a,b]:List Int).drop 1 = b::[]:=rfl
 have d2:([a,b]:List Int).drop 2 = []:=rfl
 rw [yb3y,yaYy d0,cond_true,yaPy d0,h1,room1 _ _ 16 (by simp) (by omega),cond_true,yapy (i:=0) (by omega)]
 rw [yb3y,yaYy d1,cond_true,yaPy d1,h2,room1 _ _ 16 (by simp) (by omega),cond_true,yapy (i:=0 + 1) (by omega)]
 rw [yb3y,ya2y d2,cond_false]
 exact h3 _
theorem join2 (a b:List UInt8):Lib.join [a,b] [32] = a++[32]++b:=by
 rw [Lib.join_cons];simp [Lib.joinTail]
theorem yz0y (x:G_Deed) (hr:restD x≠[]) (v:List UInt8):(v++(((x.f_Site++[32])++Lib.join [Lib.itoa x.f_No,Lib.itoa x.f_At] [32])++[32]))++(kindW x.f_Kind++[32]++Lib.join (restD x) [32])++[10] = v++(lineD x++[10]):=by
 have:=yoLy x.f_Site (Lib.itoa x.f_No) (Lib.itoa x.f_At) (kindW x.f_Kind) hr [10]
 unfold lineD ye9y
 rw [← this,join2]
 simp [List.append_assoc]
end Go.Am
set_option linter.unusedVariables false
set_option linter.unusedSectionVars false
set_option linter.unusedSimpArgs false
set_option maxRecDepth 100000
namespace Go.Am
open Go Go.Proofs
variable [Fuel]
theorem ykgy (d:List G_Deed) (hd:∀ c∈d,DeedOk c) (hl:d.length≤100):∀ (xs:List G_Deed) (n i:Nat) (acc:List UInt8),d.drop i = xs→xs.length < n→acc.length≤1301 * i→∀ (R:Type) (e0:List UInt8→Option R),
  z33z_L3 ydMy n acc d (d.length:Int) (i:Int) e0 = e0 (acc++ybKy lineD xs)
 | _,0,_,_,_,h,_,_,_=>by omega
 | [],n + 1,i,acc,h,_,_,R,e0=>by rw [z33z_L3,ya2y h,ybKy,List.append_nil];rfl
 | c::cs,n + 1,i,acc,h,hn,ha,R,e0=>by
  have h':=yavy h
  have hlt:=h'.2.1
  have hc:=hd c (ybOy h)
  have hsh:=ylZy hc
  have hno:=hc.no
  have hat:=hc.at1
  have i1:=ybky (yaJy (n:=c.f_No) (by omega) (by omega))
  have i2:=ybky (yaJy (n:=c.f_At) (by omega) (by omega))
  have s1:=ybjy hc.fine.site
  have s2:=ybjy hc.fine.band
  have s3:=ybjy hc.fine.of1
  have hr:=yjfy hc
  have jn:(Lib.join [Lib.itoa c.f_No,Lib.itoa c.f_At] [32]).length≤43:=by rw [join2];simp;omega
  have ih:=ykgy d hd hl cs n (i + 1) (acc++(lineD c++[10])) h'.2.2.1 (Nat.lt_of_succ_lt_succ (by simpa only [List.length_cons] using hn)) (by simp;omega) R e0
  have lp:=yz0y c hr.1 acc
  have a1:∀ k:List UInt8→Option R,ydMy.Q_Numbers [c.f_No,c.f_At] k = k (Lib.join [Lib.itoa c.f_No,Lib.itoa c.f_At] [32]):=fun k=>yDvy (yaJy (by omega) (by omega)) (yaJy (by omega) (by omega)) R k
  have fin:acc++ybKy lineD (c::cs) = (acc++(lineD c++[10]))++ybKy lineD cs:=(List.append_assoc _ _ _).symm
  rw [z33z_L3,yaYy h,cond_true,yaPy h,yaxy (a:=c.f_Site) (by simp;omega),cond_true,a1]
  generalize Lib.join [Lib.itoa c.f_No,Lib.itoa c.f_At] [32] = J at jn lp
  rw [yaxy (by simp;omega),cond_true,yaxy (by simp;omega),cond_true,yaxy (by simp;omega),cond_true,yapy (show i < 4611686018427387904 by omega),fin]
  rcases hc.kinds with g | g | g | g
  ·have hs:=yiIy hc g.1
   have ll:=yosy hs.1
   have c1:(c.f_Kind == 1) = true:=by rw [g.1];rfl
   have b1:∀ k:List UInt8→Option R,ydMy.z63z c.f_Contact k = k (lineC c.f_Contact):=fun k=>z63z_g hs.1 R k
   have ek:[108,111,103,32]++lineC c.f_Contact = kindW c.f_Kind++[32]++Lib.join (restD c) [32]:=by
    have e:restD c = ybIy c.f_Contact:=by unfold restD;rw [g.1];rfl
    rw [e,g.1];rfl
   rw [c1,cond_true,b1,yaxy (by simp;omega),cond_true,yaxy (by simp;omega),cond_true,yaxy (by simp;omega),cond_true,ek,lp,ih]
  ·have c1:(c.f_Kind == 1) = false:=by rw [g.1];rfl
   have c2:(c.f_Kind == 2) = true:=by rw [g.1];rfl
   have ek:[116,117,110,101,32]++c.f_Band = kindW c.f_Kind++[32]++Lib.join (restD c) [32]:=by
    have e:restD c = [c.f_Band]:=by unfold restD;rw [g.1];rfl
    rw [e,g.1,Lib.join_one];rfl
   rw [c1,cond_false,c2,cond_true,yaxy (by simp;omega),cond_true,yaxy (by simp;omega),cond_true,yaxy (by simp;omega),cond_true,ek,lp,ih]
  ·have i3:=ybky (yaJy (n:=c.f_Contact.f_Sent) (by omega) (by omega))
   have b1:∀ k:List UInt8→Option R,ydMy.strconv_Itoa c.f_Contact.f_Sent k = k (Lib.itoa c.f_Contact.f_Sent):=fun k=>ycAy (yaJy (by omega) (by omega)) R k
   have c1:(c.f_Kind == 1) = false:=by rcases g.1 with hk | hk <;> rw [hk] <;> rfl
   have c2:(c.f_Kind == 2) = false:=by rcases g.1 with hk | hk <;> rw [hk] <;> rfl
   have e:restD c = [Lib.itoa c.f_Contact.f_Sent]:=by
    unfold restD
    rcases g.1 with hk | hk <;> rw [hk] <;> rfl
   rw [c1,cond_false,c2,cond_false]
   rcases g.1 with hk | hk
   ·have c3:(c.f_Kind == 3) = true:=by rw [hk];rfl
    have ek:[104,101,108,100,32]++Lib.itoa c.f_Contact.f_Sent = kindW c.f_Kind++[32]++Lib.join (restD c) [32]:=by
     rw [e,hk,Lib.join_one];rfl
    rw [c3,cond_true,b1,yaxy (by simp;omega),cond_true,yaxy (by simp;omega),cond_true,yaxy (by simp;omega),cond_true,ek,lp,ih]
   ·have c3:(c.f_Kind == 3) = false:=by rw [hk];rfl
    have c4:(c.f_Kind == 4) = true:=by rw [hk];rfl
    have ek:[102,114,101,101,32]++Lib.itoa c.f_Contact.f_Sent = kindW c.f_Kind++[32]++Lib.join (restD c) [32]:=by
     rw [e,hk,Lib.join_one];rfl
    rw [c3,cond_false,c4,cond_true,b1,yaxy (by simp;omega),cond_true,yaxy (by simp;omega),cond_true,yaxy (by simp;omega),cond_true,ek,lp,ih]
  ·have i3:=ybky (yaJy (n:=c.f_Other) (by omega) (by omega))
   have b1:∀ k:List UInt8→Option R,ydMy.strconv_Itoa c.f_Other k = k (Lib.itoa c.f_Other):=fun k=>ycAy (yaJy (by omega) (by omega)) R k
   have c1:(c.f_Kind == 1) = false:=by rw [g.1];rfl
   have c2:(c.f_Kind == 2) = false:=by rw [g.1];rfl
   have c3:(c.f_Kind == 3) = false:=by rw [g.1];rfl
   have c4:(c.f_Kind == 4) = false:=by rw [g.1];rfl
   have ek:(([117,110,100,111,32]++c.f_Of)++[32])++Lib.itoa c.f_Other = kindW c.f_Kind++[32]++Lib.join (restD c) [32]:=by
    have e:restD c = [c.f_Of,Lib.itoa c.f_Other]:=by unfold restD;rw [g.1];rfl
    have e2:kindW 5++[32] = [117,110,100,111,32]:=rfl
    rw [e,g.1,join2,e2]
    simp [List.append_assoc]
   rw [c1,cond_false,c2,cond_false,c3,cond_false,c4,cond_false,yaxy (by simp;omega),cond_true,yaxy (by simp;omega),cond_true,b1,yaxy (by simp;omega),cond_true,yaxy (by simp;omega),cond_true,yaxy (by simp;omega),cond_true,ek,lp,ih]
theorem z33z_g {d:List G_Deed} (hd:∀ c∈d,DeedOk c) (hl:d.length≤100) (R:Type) (k:List UInt8→Option R):z33z d k = k (ybKy lineD d) :=
 ykgy d hd hl d NN 0 [] rfl (by have:=NN_ok;omega) (by simp) R (fun e=>k e)
theorem yrEy {d:List G_Deed} (hf:∀ c∈d,FineD c) (hl:d.length≤100) (h0:ybHy d≠0) (R:Type) (k:List UInt8→Int→Option R):net_Text d k = k [] (ybHy d):=by
 have w1:∀ k:Int→Option R,ybwy.z7z d k = k (ybHy d):=fun k=>z7z_is hf (by omega) R k
 show ye2y ybwy d k = _
 unfold ye2y
 rw [w1,bne_iff_ne.2 h0]
 rfl
theorem yv2y {d:List G_Deed} (hr:RightD d):∀ c∈d,DeedOk c:=fun c hc=>yycy (hr.fine c hc) (hr.good c hc)
theorem ylLy:∀ (j n i:Nat) (t:List UInt8) (b:Int) (s:G_Stream) (q:Nat),i + j = q→q≤5→j < n→SOk b s→b + 3 * (j:Int)≤900000→t.length≤9000 + 20 * i→ascB t →
  ∃ r s',r.length≤9000 + 20 * q∧ascB r∧SOk (b + 3 * (j:Int)) s'∧∀ (R:Type) (e0:List UInt8→G_Stream→Option R),z27z_L3 ycQy n t (q:Int) (i:Int) s e0 = e0 r s'
 | _,0,_,_,_,_,_,_,_,h,_,_,_,_=>by omega
 | 0,n + 1,i,t,b,s,q,hi,_,_,hs,hb,hl,ha=>⟨t,s,by omega,ha,hs.mono (by omega),fun R e0=>by rw [z27z_L3,decide_eq_false (by omega)];rfl⟩
 | j + 1,n + 1,i,t,b,s,q,hi,hq,hn,hs,hb,hl,ha=>by
  obtain ⟨r,s1,l1,_,a1,z1,e1⟩:=ysKy hs (by omega) (t:=t) (ls:=[32,10,48,45,57,115,107]) (by omega) ha (by simp) (by show ∀ x∈_,_;decide)
  obtain ⟨r',s',g1,g2,g3,g4⟩:=ylLy j n (i + 1) r (b + 3) s1 q (by omega) hq (by omega) z1 (by omega) (by simp at l1;omega) a1
  refine ⟨r',s',g1,g2,g3.mono (by omega),fun R e0=>?_⟩
  have e1':∀ k:List UInt8→G_Stream→Option R,ycQy.z54z s t [32,10,48,45,57,115,107] k = k r s1:=fun k=>e1 R k
  rw [z27z_L3,decide_eq_true (by omega),cond_true,e1',yapy (show i < 4611686018427387904 by omega),g4]
theorem yrNy {b:Int} {s:G_Stream} (hs:SOk b s) (hb:b≤20000) :
  ∃ r s',r.length≤10000∧ascB r∧SOk (b + 15000) s'∧∀ (R:Type) (k:List UInt8→G_Stream→Option R),z27z s k = k r s':=by
 obtain ⟨n,s1,n1,n2,z1,e1⟩:=z38z_gives hs 0 4 (by omega) (by omega) (by omega) (by omega) (by omega)
 obtain ⟨m,rfl⟩:∃ m:Nat,n = (m:Int):=⟨n.toNat,by omega⟩
 obtain ⟨d,s2,ld,hrd,z2,e2⟩:=yo0y z1 (by omega) m (by omega)
 have sd:=yv2y hrd
 obtain ⟨q,s3,q1,z3,e3⟩:=z45z_gives z2 [0,0,1,2] (by omega) (by simp) (by simp)
 have q2:0≤q∧q≤2:=by
  simp only [List.mem_cons,List.not_mem_nil,or_false] at q1
  omega
 obtain ⟨p,rfl⟩:∃ p:Nat,q = (p:Int):=⟨q.toNat,by omega⟩
 have ht:=yl0y sd
 have hta:=yr8y sd
 obtain ⟨r,s',g1,g2,g3,g4⟩:=ylLy p NN 0 (ybKy lineD d) (b + 1 + 10000 + 1) s3 p (by omega) (by omega) (by have:=NN_ok;omega) z3 (by omega) (by omega) hta
 refine ⟨r,s',by omega,g2,g3.mono (by omega),fun R k=>?_⟩
 have f1:∀ k:Int→G_Stream→Option R,ycQy.z38z s 0 4 k = k (m:Int) s1:=fun k=>e1 R k
 have f2:∀ k:List G_Deed→G_Stream→Option R,ycQy.z24z s1 (m:Int) k = k d s2:=fun k=>e2 R k
 have f3:∀ k:List UInt8→Option R,ycQy.z33z d k = k (ybKy lineD d):=fun k=>z33z_g sd (by omega) R k
 have f4:∀ k:Int→G_Stream→Option R,ycQy.z45z s2 [0,0,1,2] k = k (p:Int) s3:=fun k=>e3 R k
 show z27z_ ycQy s k = _
 unfold z27z_
 rw [f1,f2,f3,f4]
 exact g4 R _
theorem law_DeedTexts_true (l:List Int) (R:Type) (k:Bool→Option R):law_DeedTexts l k = k true:=by
 obtain ⟨n,s1,n1,n2,z1,e1⟩:=z38z_gives (sOk0 l) 0 6 (by omega) (by omega) (by omega) (by omega) (by omega)
 obtain ⟨m,rfl⟩:∃ m:Nat,n = (m:Int):=⟨n.toNat,by omega⟩
 obtain ⟨d,s2,z2,ld,fd,e2⟩:=z13z_tight z1 (by omega) m (by omega)
 obtain ⟨t,s3,lt,at',z3,e3⟩:=yrNy z2 (by omega)
 have ff:∀ c∈d,FineD c:=fun c hc=>(fd c hc).1
 have hr:=yzcy at'
 have g1:∀ k:Int→G_Stream→Option R,yaDy.z38z ⟨l,0⟩ 0 6 k = k (m:Int) s1:=fun k=>e1 R k
 have g2:∀ k:List G_Deed→G_Stream→Option R,yaDy.z13z s1 (m:Int) k = k d s2:=fun k=>e2 R k
 have g3:∀ k:List UInt8→G_Stream→Option R,yaDy.z27z s2 k = k t s3:=fun k=>e3 R k
 have g4:∀ k:Int→Option R,yaDy.z3z d k = k (ybHy d):=fun k=>z3z_is ff (by omega) R k
 have g5:∀ k:List G_Deed→Int→Int→Option R,yaDy.net_Read t k = k (ybiy t).1 (ybiy t).2.1 (ybiy t).2.2:=fun k=>ytMy at' R k
 have g6:∀ k:List G_Deed→Int→Int→Option R,yaDy.z11z t k = k (ybiy t).1 (ybiy t).2.1 (ybiy t).2.2:=fun k=>z11z_any at' R k
 have g7:∀ k:Bool→Option R,yaDy.z31z (ybiy t).1 (ybiy t).1 k = k true:=fun k=>by
  show z31z (ybiy t).1 (ybiy t).1 k = _
  rw [yG1y]
  exact ywTy (by have:=NN_ok;omega) (by have:=NN_ok;omega) (fun y=>by rw [(ycOy y y).2 rfl];rfl) k
 have g8:∀ k:Bool→Option R,yaDy.law_netted k = k true:=fun k=>ytby R k
 show yd8y yaDy l k = _
 unfold yd8y
 rw [g1,g2,g3]
 by_cases h0:ybHy d = 0
 ·have hrd:=yl1y ff h0
  have g9:∀ k:List UInt8→Int→Option R,yaDy.net_Text d k = k (ybKy lineD d) 0:=fun k=>yrKy hrd (by omega) R k
  have g10:∀ k:List UInt8→Option R,yaDy.z33z d k = k (ybKy lineD d):=fun k=>z33z_g (yv2y hrd) (by omega) R k
  rw [g9,g4,h0,beq_self_eq_true,cond_true,g10,g5,g6,cond_true,beq_self_eq_true,cond_true,g7,cond_true,beq_self_eq_true,cond_true,beq_self_eq_true,cond_true,g8]
 ·have g9:∀ k:List UInt8→Int→Option R,yaDy.net_Text d k = k [] (ybHy d):=fun k=>yrEy ff (by omega) h0 R k
  have h1:(ybHy d == 0) = false:=beq_eq_false_iff_ne.2 h0
  rw [g9,g4,h1,cond_false,g5,g6,beq_self_eq_true,cond_true]
  show (bif ([]:List UInt8) == [] then _ else _) = _
  rw [show (([]:List UInt8) == []) = true from rfl,cond_true,g7,cond_true,beq_self_eq_true,cond_true,beq_self_eq_true,cond_true,g8]
end Go.Am
