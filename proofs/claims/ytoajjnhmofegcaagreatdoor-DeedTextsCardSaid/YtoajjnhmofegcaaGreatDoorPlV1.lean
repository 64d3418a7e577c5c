/- The plain law, in Lean alone: V1, V2, V3, V4, V5. No condition: lemmas for the claim. -/
import Derived.Test.YtoajjnhmofegcaaGreatDoorPlS1
import Derived.Test.YtoajjnhmofegcaaGreatDoorPlB1
import Derived.Test.YtoajjnhmofegcaaGreatDoorPlK
import Derived.Test.YtoajjnhmofegcaaGreatDoorPlR4
set_option linter.unusedVariables false
set_option linter.unusedSectionVars false
set_option linter.unusedSimpArgs false
set_option maxRecDepth 100000
namespace Go.Am
open Go Go.Proofs
variable [Fuel]
def ycNy:List (List UInt8):=[[115,97],[115,98],[115,99],[],[98,50,48],[98,52,48],[122,122]]
theorem yBGy:ycNy.all (fun s=>(kit_IsKey s some).isSome) = true:=by
 obtain ⟨m,h,rfl⟩:=ycfy ‹Fuel›
 kernel_rfl
theorem yEjy:ycNy.all (fun s=>ymOy (kit_IsKey s some) (Q_Key s some)) = true:=by
 obtain ⟨m,h,rfl⟩:=ycfy ‹Fuel›
 kernel_rfl
theorem ydsy {s:List UInt8} (h:s∈ycNy) (R:Type) (k:Bool→Option R):kit_IsKey s k = k (keyB s) :=
 yf5y yc4y.na (args:=[.d (.str s)]) (F:=@kit_IsKey _ s) (fun _ _=>rfl) (yjgy (List.all_eq_true.1 yBGy s h)) R k
theorem ydZy {s:List UInt8} (h:s∈ycNy) (R:Type) (k:Bool→Option R):Q_Key s k = k (keyB s) :=
 yf5y ykZy.na (args:=[.d (.str s)]) (F:=@Q_Key _ s) (fun _ _=>rfl) (ymty (List.all_eq_true.1 yEjy s h)).2 R k
structure FineD (x:G_Deed):Prop where
 site:x.f_Site∈ycNy
 no:Mid x.f_No
 at1:Mid x.f_At
 kind:Mid x.f_Kind
 con:Fine x.f_Contact
 band:x.f_Band∈ycNy
 of1:x.f_Of∈ycNy
 other:Mid x.f_Other
def ym6y (x:G_Deed):Prop:=(-1099511627776≤x.f_At∧x.f_At≤1099511627776)∧(-1099511627776≤x.f_No∧x.f_No≤1099511627776)
noncomputable def tailD (n:Nat) (at1 many i:Int) (s:G_Stream) (m:List (List UInt8×Int)) (out:List G_Deed) (site:List UInt8) (no kind:Int) (c:G_Contact) (band of1:List UInt8) (other:Int) {R:Type} (e0:G_Stream→List G_Deed→Option R):Option R :=
 z48z s 100 (fun r151 r152=>(bif r151 then (z29z r152 4 (fun r153 r154=>(bif (r153 == 0) then (z20z r154 [[],[115,97]] (fun r155 r156=>(Stream_Odd r156 1 9 (fun r157 r158=>(bif (decide ((out.length + [(⟨r155,r157,at1,kind,c,band,of1,other⟩:G_Deed)].length) * 176≤yaey)) then z13z_L5 ybQy n at1 many (w64 (i + 1)) r158 m (out++[(⟨r155,r157,at1,kind,c,band,of1,other⟩:G_Deed)]) e0 else none))))) else (bif (r153 == 1) then (Stream_Odd r154 1 5 (fun r159 r160=>(bif (decide ((out.length + [(⟨site,no,at1,r159,c,band,of1,other⟩:G_Deed)].length) * 176≤yaey)) then z13z_L5 ybQy n at1 many (w64 (i + 1)) r160 m (out++[(⟨site,no,at1,r159,c,band,of1,other⟩:G_Deed)]) e0 else none))) else (bif (r153 == 2) then (z20z r154 [[],[98,50,48]] (fun r161 r162=>(z20z r162 [[],[115,97]] (fun r163 r164=>(bif (decide ((out.length + [(⟨site,no,at1,kind,c,r161,r163,other⟩:G_Deed)].length) * 176≤yaey)) then z13z_L5 ybQy n at1 many (w64 (i + 1)) r164 m (out++[(⟨site,no,at1,kind,c,r161,r163,other⟩:G_Deed)]) e0 else none))))) else (Stream_Odd r154 1 99999 (fun r165 r166=>(Stream_Odd r166 0 5 (fun r167 r168=>(bif (decide ((out.length + [(⟨site,no,at1,kind,(⟨c.f_At,c.f_Mode,c.f_Band,c.f_Call,r165,c.f_Heard,c.f_Gave,c.f_Got⟩:G_Contact),band,of1,r167⟩:G_Deed)].length) * 176≤yaey)) then z13z_L5 ybQy n at1 many (w64 (i + 1)) r168 m (out++[(⟨site,no,at1,kind,(⟨c.f_At,c.f_Mode,c.f_Band,c.f_Call,r165,c.f_Heard,c.f_Gave,c.f_Got⟩:G_Contact),band,of1,r167⟩:G_Deed)]) e0 else none)))))))))) else (bif (decide ((out.length + [(⟨site,no,at1,kind,c,band,of1,other⟩:G_Deed)].length) * 176≤yaey)) then z13z_L5 ybQy n at1 many (w64 (i + 1)) r152 m (out++[(⟨site,no,at1,kind,c,band,of1,other⟩:G_Deed)]) e0 else none)))
theorem ywRy (n:Nat) (at1 many:Int) (i:Nat) (hi:i≤1000) (m:List (List UInt8×Int)) (out:List G_Deed) (ho:out.length≤1000) {site:List UInt8} {no kind:Int} {c:G_Contact} {band of1:List UInt8} {other:Int} (hf:FineD ⟨site,no,at1,kind,c,band,of1,other⟩) (ht:ym6y ⟨site,no,at1,kind,c,band,of1,other⟩) {b:Int} {s:G_Stream} (hs:SOk b s) (hb:b≤1000000) :
  ∃ (x:G_Deed) (s':G_Stream),FineD x∧ym6y x∧SOk (b + 8) s'∧∀ (R:Type) (e0:G_Stream→List G_Deed→Option R),tailD n at1 many (i:Int) s m out site no kind c band of1 other e0 = z13z_L5 ybQy n at1 many ((i + 1:Nat):Int) s' m (out++[x]) e0:=by
 have hw:=yapy (show i < 4611686018427387904 by omega)
 have hroom:∀ x:G_Deed,decide ((out.length + [x].length) * 176≤yaey) = true:=fun x=>room1 out x 176 (by omega) (by omega)
 obtain ⟨f,s1,z1,e1⟩:=z48z_gives hs 100 (by omega) (by omega)
 cases f with
 | false=>exact ⟨_,s1,hf,ht,z1.mono (by omega),fun R e0=>by simp only [tailD,e1,cond_false,hroom,cond_true,hw]⟩
 | true =>
  obtain ⟨q,s2,q1,q2,z2,e2⟩:=z29z_gives z1 4 (by omega) (by omega)
  by_cases c0:q = 0
  ·subst c0
   obtain ⟨x1,t1,hx1,y1,g1⟩:=z20z_gives z2 [[],[115,97]] (by omega) (by simp) (by simp)
   obtain ⟨x2,t2,x21,x22,y2,g2⟩:=ybly y1 1 9 (by omega) (by omega) (by omega) (by omega) (by omega)
   exact ⟨⟨x1,x2,at1,kind,c,band,of1,other⟩,t2,⟨yb6y hx1 (by decide +kernel),⟨by simp only;omega,by simp only;omega⟩,hf.at1,hf.kind,hf.con,hf.band,hf.of1,hf.other⟩,⟨ht.1,x21,x22⟩,y2.mono (by omega),fun R e0=>by simp only [tailD,e1,cond_true,e2,beq_self_eq_true,g1,g2,hroom,hw]⟩
  ·by_cases c1:q = 1
   ·subst c1
    obtain ⟨x2,t2,x21,x22,y2,g2⟩:=ybly z2 1 5 (by omega) (by omega) (by omega) (by omega) (by omega)
    exact ⟨⟨site,no,at1,x2,c,band,of1,other⟩,t2,⟨hf.site,hf.no,hf.at1,⟨by simp only;omega,by simp only;omega⟩,hf.con,hf.band,hf.of1,hf.other⟩,ht,y2.mono (by omega),fun R e0=>by simp only [tailD,e1,cond_true,e2,show ((1:Int) == 0) = false from rfl,cond_false,beq_self_eq_true,g2,hroom,hw]⟩
   ·by_cases c2:q = 2
    ·subst c2
     obtain ⟨x1,t1,hx1,y1,g1⟩:=z20z_gives z2 [[],[98,50,48]] (by omega) (by simp) (by simp)
     obtain ⟨x2,t2,hx2,y2,g2⟩:=z20z_gives y1 [[],[115,97]] (by omega) (by simp) (by simp)
     exact ⟨⟨site,no,at1,kind,c,x1,x2,other⟩,t2,⟨hf.site,hf.no,hf.at1,hf.kind,hf.con,yb6y hx1 (by decide +kernel),yb6y hx2 (by decide +kernel),hf.other⟩,ht,y2.mono (by omega),fun R e0=>by simp only [tailD,e1,cond_true,e2,show ((2:Int) == 0) = false from rfl,show ((2:Int) == 1) = false from rfl,cond_false,beq_self_eq_true,g1,g2,hroom,hw]⟩
    ·obtain ⟨x1,t1,x11,x12,y1,g1⟩:=ybly z2 1 99999 (by omega) (by omega) (by omega) (by omega) (by omega)
     obtain ⟨x2,t2,x21,x22,y2,g2⟩:=ybly y1 0 5 (by omega) (by omega) (by omega) (by omega) (by omega)
     have hc:=hf.con
     exact ⟨⟨site,no,at1,kind,⟨c.f_At,c.f_Mode,c.f_Band,c.f_Call,x1,c.f_Heard,c.f_Gave,c.f_Got⟩,band,of1,x2⟩,t2,⟨hf.site,hf.no,hf.at1,hf.kind,⟨hc.at1,hc.mode,⟨by simp only;omega,by simp only;omega⟩,hc.heard,hc.band,hc.call,hc.gave,hc.got⟩,hf.band,hf.of1,⟨by simp only;omega,by simp only;omega⟩⟩,ht,y2.mono (by omega),fun R e0=>by simp only [tailD,e1,cond_true,e2,beq_eq_false_iff_ne.2 c0,beq_eq_false_iff_ne.2 c1,beq_eq_false_iff_ne.2 c2,cond_false,g1,g2,hroom,hw]⟩
def zeroD:G_Contact:=⟨0,0,[],[],0,0,[],[]⟩
theorem yhry {x:Int} (h:Mid x):Fine ⟨0,0,[],[],x,0,[],[]⟩ :=
 ⟨⟨show (-2199023255552:Int)≤0 by omega,show (0:Int)≤2199023255552 by omega⟩,⟨show (-2199023255552:Int)≤0 by omega,show (0:Int)≤2199023255552 by omega⟩,h,⟨show (-2199023255552:Int)≤0 by omega,show (0:Int)≤2199023255552 by omega⟩,show ([]:List UInt8)∈keysL by decide +kernel,show ([]:List UInt8)∈yely by decide +kernel,show ([]:List UInt8)∈keysL by decide +kernel,show ([]:List UInt8)∈keysL by decide +kernel⟩
theorem z13z_loop (many:Nat) (hmany:many≤100):∀ (j n i:Nat) (at0:Int) (s:G_Stream) (m:List (List UInt8×Int)) (out:List G_Deed) (b:Int),i + j = many→j < n→SOk b s→b + 100 * (j:Int)≤1000000→0≤at0→at0 + 5 * (j:Int)≤1000→out.length = i→(∀ x∈out,FineD x∧ym6y x)→(∀ w,0≤(yaay w m).getD 0∧(yaay w m).getD 0≤(i:Int)) →
  ∃ (r:List G_Deed) (s':G_Stream),SOk (b + 100 * (j:Int)) s'∧r.length = many∧(∀ x∈r,FineD x∧ym6y x)∧∀ (R:Type) (e0:G_Stream→List G_Deed→Option R),z13z_L5 ybQy n at0 (many:Int) (i:Int) s m out e0 = e0 s' r
 | _,0,_,_,_,_,_,_,_,h,_,_,_,_,_,_,_=>by omega
 | 0,n + 1,i,at0,s,m,out,b,hi,_,hs,_,_,_,ho,hf,_=>⟨out,s,hs.mono (by omega),by omega,hf,fun R e0=>by rw [z13z_L5,decide_eq_false (by omega)];rfl⟩
 | j + 1,n + 1,i,at0,s,m,out,b,hi,hn,hs,hb,h0,h1,ho,hf,hm=>by
  obtain ⟨p,s1,hp,z1,e1⟩:=z45z_gives hs [0,1,5] (by omega) (by simp) (by simp)
  obtain ⟨st,s2,hst,z2,e2⟩:=z20z_gives z1 [[115,97],[115,97],[115,98],[115,99]] (by omega) (by simp) (by simp)
  obtain ⟨kd,s3,hkd,z3,e3⟩:=z45z_gives z2 [1,1,1,1,2,3,3,4,5] (by omega) (by simp) (by simp)
  have hst':st∈ycNy:=yb6y hst (by decide +kernel)
  simp only [List.mem_cons,List.not_mem_nil,or_false] at hp hkd
  have ea:w64 (at0 + p) = at0 + p:=yaZy (by omega) (by omega)
  have hmst:=hm st
  have ew:w64 ((yaay st m).getD 0 + 1) = (yaay st m).getD 0 + 1:=yaZy (by omega) (by omega)
  have hm2:∀ w,0≤(yaay w (yaby st ((yaay st m).getD 0 + 1) m)).getD 0∧(yaay w (yaby st ((yaay st m).getD 0 + 1) m)).getD 0≤((i + 1:Nat):Int):=fun w=>by
   have hw:=hm w
   rw [yefy,yogy,yg7y ysIy]
   rw [yefy] at hw hmst
   cases ycby w st with
   | true=>simp only [cond_true,Option.getD_some];omega
   | false=>simp only [cond_false];omega
  generalize hM:yaby st ((yaay st m).getD 0 + 1) m = m2 at hm2
  have hno:Mid ((yaay st m2).getD 0):=⟨by have:=hm2 st;omega,by have:=hm2 st;omega⟩
  have hat:Mid (at0 + p):=⟨by omega,by omega⟩
  have hnil:([]:List UInt8)∈ycNy:=by decide +kernel
  have mid0:Mid 0:=⟨by omega,by omega⟩
  have body:∃ (c:G_Contact) (bd of1:List UInt8) (other:Int) (s4:G_Stream),FineD ⟨st,(yaay st m2).getD 0,at0 + p,kd,c,bd,of1,other⟩∧SOk (b + 90) s4∧∀ (R:Type) (e0:G_Stream→List G_Deed→Option R),z13z_L5 ybQy (n + 1) at0 (many:Int) (i:Int) s m out e0 = tailD n (at0 + p) (many:Int) (i:Int) s4 m2 out st ((yaay st m2).getD 0) kd c bd of1 other e0:=by
   have unf:∀ (R:Type) (e0:G_Stream→List G_Deed→Option R),z13z_L5 ybQy (n + 1) at0 (many:Int) (i:Int) s m out e0 = bif kd == 1 then z38z s3 (if w64 (at0 + p - 3) > 0 then w64 (at0 + p - 3) else 0) (at0 + p) (fun r147 r148=>z53z r148 r147 (fun r149 r150=>tailD n (at0 + p) (many:Int) (i:Int) r150 m2 out st ((yaay st m2).getD 0) kd r149 [] [] 0 e0)) else bif kd == 2 then z20z s3 [[98,50,48],[98,52,48]] (fun r169 r170=>tailD n (at0 + p) (many:Int) (i:Int) r170 m2 out st ((yaay st m2).getD 0) kd zeroD r169 [] 0 e0) else bif kd == 3 then z38z s3 1 7 (fun r189 r190=>tailD n (at0 + p) (many:Int) (i:Int) r190 m2 out st ((yaay st m2).getD 0) kd ⟨0,0,[],[],r189,0,[],[]⟩ [] [] 0 e0) else bif kd == 4 then z38z s3 1 7 (fun r189 r190=>tailD n (at0 + p) (many:Int) (i:Int) r190 m2 out st ((yaay st m2).getD 0) kd ⟨0,0,[],[],r189,0,[],[]⟩ [] [] 0 e0) else z20z s3 [[115,97],[115,97],[115,98]] (fun r209 r210=>z38z r210 1 (if (yaay [115,97] m2).getD 0 > 1 then (yaay [115,97] m2).getD 0 else 1) (fun r211 r212=>tailD n (at0 + p) (many:Int) (i:Int) r212 m2 out st ((yaay st m2).getD 0) kd zeroD [] r209 r211 e0)):=fun R e0=>by
    rw [z13z_L5,decide_eq_true (show (i:Int) < (many:Int) by omega)]
    simp only [cond_true,ybQy,e1,e2,e3,ea,ew,hM]
    cases h1:kd == 1 <;> cases h2:kd == 2 <;> cases h3:kd == 3 <;> cases h4:kd == 4 <;> rfl
   have hk:kd = 1 ∨ kd = 2 ∨ kd = 3 ∨ kd = 4 ∨ kd = 5:=by omega
   have mk:Mid kd:=⟨by omega,by omega⟩
   rcases hk with rfl | rfl | rfl | rfl | rfl
   ·have hlo:0≤(if w64 (at0 + p - 3) > 0 then w64 (at0 + p - 3) else 0)∧(if w64 (at0 + p - 3) > 0 then w64 (at0 + p - 3) else 0)≤at0 + p:=by
     rw [yaZy (x:=at0 + p - 3) (by omega) (by omega)]
     split <;> omega
    generalize (if w64 (at0 + p - 3) > 0 then w64 (at0 + p - 3) else 0) = lo at hlo unf
    obtain ⟨t,t1,t11,t12,y1,g1⟩:=z38z_gives z3 lo (at0 + p) (by omega) (by omega) (by omega) (by omega) (by omega)
    obtain ⟨c,t2,hc,_,y2,g2⟩:=z53z_gives y1 t (by omega) (by omega) (by omega)
    exact ⟨c,[],[],0,t2,⟨hst',hno,hat,mk,hc,hnil,hnil,mid0⟩,y2.mono (by omega),fun R e0=>by rw [unf];simp only [beq_self_eq_true,cond_true,g1,g2]⟩
   ·obtain ⟨t,t1,ht,y1,g1⟩:=z20z_gives z3 [[98,50,48],[98,52,48]] (by omega) (by simp) (by simp)
    exact ⟨zeroD,t,[],0,t1,⟨hst',hno,hat,mk,yhry mid0,yb6y ht (by decide +kernel),hnil,mid0⟩,y1.mono (by omega),fun R e0=>by rw [unf];simp only [show ((2:Int) == 1) = false from rfl,cond_false,beq_self_eq_true,cond_true,g1]⟩
   ·obtain ⟨t,t1,t11,t12,y1,g1⟩:=z38z_gives z3 1 7 (by omega) (by omega) (by omega) (by omega) (by omega)
    exact ⟨⟨0,0,[],[],t,0,[],[]⟩,[],[],0,t1,⟨hst',hno,hat,mk,yhry ⟨by omega,by omega⟩,hnil,hnil,mid0⟩,y1.mono (by omega),fun R e0=>by rw [unf];simp only [show ((3:Int) == 1) = false from rfl,show ((3:Int) == 2) = false from rfl,cond_false,beq_self_eq_true,cond_true,g1]⟩
   ·obtain ⟨t,t1,t11,t12,y1,g1⟩:=z38z_gives z3 1 7 (by omega) (by omega) (by omega) (by omega) (by omega)
    exact ⟨⟨0,0,[],[],t,0,[],[]⟩,[],[],0,t1,⟨hst',hno,hat,mk,yhry ⟨by omega,by omega⟩,hnil,hnil,mid0⟩,y1.mono (by omega),fun R e0=>by rw [unf];simp only [show ((4:Int) == 1) = false from rfl,show ((4:Int) == 2) = false from rfl,show ((4:Int) == 3) = false from rfl,cond_false,beq_self_eq_true,cond_true,g1]⟩
   ·obtain ⟨t,t1,ht,y1,g1⟩:=z20z_gives z3 [[115,97],[115,97],[115,98]] (by omega) (by simp) (by simp)
    have hh:1≤(if (yaay [115,97] m2).getD 0 > 1 then (yaay [115,97] m2).getD 0 else 1)∧(if (yaay [115,97] m2).getD 0 > 1 then (yaay [115,97] m2).getD 0 else 1)≤1000:=by
     have:=hm2 [115,97]
     split <;> omega
    generalize (if (yaay [115,97] m2).getD 0 > 1 then (yaay [115,97] m2).getD 0 else 1) = hi2 at hh unf
    obtain ⟨u,t2,u1,u2,y2,g2⟩:=z38z_gives y1 1 hi2 (by omega) (by omega) (by omega) (by omega) (by omega)
    exact ⟨zeroD,[],t,u,t2,⟨hst',hno,hat,mk,yhry mid0,hnil,yb6y ht (by decide +kernel),⟨by simp only;omega,by simp only;omega⟩⟩,y2.mono (by omega),fun R e0=>by rw [unf];simp only [show ((5:Int) == 1) = false from rfl,show ((5:Int) == 2) = false from rfl,show ((5:Int) == 3) = false from rfl,show ((5:Int) == 4) = false from rfl,cond_false,g1,g2]⟩
  obtain ⟨c,bd,of1,other,s4,hfd,z4,hbody⟩:=body
  obtain ⟨x,s',hx,hxt,z5,ht⟩:=ywRy n (at0 + p) (many:Int) i (by omega) m2 out (by omega) hfd ⟨⟨show _≤at0 + p by omega,show at0 + p≤_ by omega⟩,show _≤(yaay st m2).getD 0 by have:=hm2 st;omega,show (yaay st m2).getD 0≤_ by have:=hm2 st;omega⟩ z4 (by omega)
  obtain ⟨r,s'',g1,g2,g3,g4⟩:=z13z_loop many hmany j n (i + 1) (at0 + p) s' m2 (out++[x]) (b + 98) (by omega) (by omega) (z5.mono (by omega)) (by omega) (by omega) (by omega) (by simp [ho]) (fun y hy=>by
   rcases List.mem_append.1 hy with h | h
   ·exact hf y h
   ·simp at h;rw [h];exact ⟨hx,hxt⟩) hm2
  exact ⟨r,s'',g1.mono (by omega),g2,g3,fun R e0=>by rw [hbody,ht,g4]⟩
def cmpD (x y:G_Deed):Int:=orL [cmpI x.f_At y.f_At,Lib.compareBytes x.f_Site y.f_Site,cmpI x.f_No y.f_No]
theorem yiXy:Ords cmpD:=.lex (ysxy.on fun c:G_Deed=>c.f_At) (.lex (yERy.on fun c:G_Deed=>c.f_Site) (.lex (ysxy.on fun c:G_Deed=>c.f_No) .nil))
theorem z76z_is (x y:G_Deed) (R:Type) (k:Int→Option R):z76z x y k = k (cmpD x y):=by
 simp only [z76z,z76z_,yvVy,cmpD,z34z_is,ydJy]
 rw [z32z_is _ (by simp)]
theorem z2z_is {x y:G_Deed} (hx:FineD x) (hy:FineD y) (R:Type) (k:Int→Option R):z2z x y k = k (cmpD x y):=by
 have a1:=hx.at1;have a2:=hx.no;have b1:=hy.at1;have b2:=hy.no
 simp only [z2z,z2z_,I_z2z,ysoy,ydJy,cmpD,orL]
 rw [yyjy ⟨by omega,by omega⟩ ⟨by omega,by omega⟩,yyjy ⟨by omega,by omega⟩ ⟨by omega,by omega⟩,yxEy x.f_At y.f_At,ne_cb x.f_Site]
 cases cmpI x.f_At y.f_At != 0 <;> cases Lib.compareBytes x.f_Site y.f_Site != 0 <;> simp only [cond_true,cond_false]
 cases h:cmpI x.f_No y.f_No != 0 with
 | true=>rfl
 | false =>
  have:cmpI x.f_No y.f_No = 0:=by simpa using h
  rw [this];rfl
theorem yAEy {l:List G_Deed} (hf:∀ c∈l,FineD c) (hl:l.length≤20) (R:Type) (k:List G_Deed→Option R):z19z l k = k (sortI cmpD l):=by
 simp only [z19z,z19z_,ywey,yJmy]
 exact yHoy cmpD FineD (fun x y hx hy=>z2z_is hx hy) l hf hl (by have:=NN_ok;omega) (by have:=NN_ok;omega) _ (fun l a b R k=>by rw [yIiy]) k
theorem z13z_tight {b:Int} {s:G_Stream} (hs:SOk b s) (hb:b≤100000) (many:Nat) (hm:many≤20) :
  ∃ (r:List G_Deed) (s':G_Stream),SOk (b + 2000) s'∧r.length = many∧(∀ x∈r,FineD x∧ym6y x)∧∀ (R:Type) (k:List G_Deed→G_Stream→Option R),z13z s (many:Int) k = k r s':=by
 obtain ⟨r,s',g1,g2,g3,g4⟩:=z13z_loop many (by omega) many NN 0 0 s [] [] b (by omega) (by have:=NN_ok;omega) hs (by omega) (by omega) (by omega) rfl (fun x h=>by cases h) (fun w=>by rw [yefy];exact ⟨Int.le_refl _,Int.le_refl _⟩)
 refine ⟨sortI cmpD r,s',g1.mono (by omega),by rw [ytQy];exact g2,fun x hx=>g3 x (yBQy.1 hx),fun R k=>?_⟩
 have hs2:∀ k:List G_Deed→Option R,ybQy.z19z r k = k (sortI cmpD r):=fun k=>yAEy (fun x hx=>(g3 x hx).1) (by omega) R k
 show z13z_L5 ybQy NN 0 (many:Int) 0 s [] [] (fun e273 e274=>ybQy.z19z e274 (fun r275=>k r275 e273)) = _
 refine (g4 R _).trans ?_
 rw [hs2]
theorem z13z_gives {b:Int} {s:G_Stream} (hs:SOk b s) (hb:b≤100000) (many:Nat) (hm:many≤20) :
  ∃ (r:List G_Deed) (s':G_Stream),SOk (b + 2000) s'∧r.length = many∧(∀ x∈r,FineD x)∧∀ (R:Type) (k:List G_Deed→G_Stream→Option R),z13z s (many:Int) k = k r s':=by
 obtain ⟨r,s',g1,g2,g3,g4⟩:=z13z_tight hs hb many hm
 exact ⟨r,s',g1,g2,fun x hx=>(g3 x hx).1,g4⟩
theorem z49z_gives {x:G_Deed} (h:FineD x):∃ e:Int,∀ (R:Type) (k:Int→Option R),z49z x k = k e:=by
 have f1:=fun (R:Type) (k:Bool→Option R)=>ydZy h.site R k
 have f2:=fun (R:Type) (k:Bool→Option R)=>ydZy h.band R k
 have f3:=fun (R:Type) (k:Bool→Option R)=>ydZy h.of1 R k
 have f4:=fun (R:Type) (k:Int→Option R)=>z58z_is h.con R k
 refine ⟨(z49z x some).getD 0,fun R k=>?_⟩
 simp only [z49z,z49z_,yicy,f1,f2,f3,f4,ye5y,ycEy]
 cases keyB x.f_Site <;> cases inB x.f_No 1 1000000 <;> cases momB x.f_At <;> cases inB x.f_Kind 1 5 <;> try rfl
 cases x.f_Kind == 1 with
 | true =>
  cases chk x.f_Contact != 0 <;> cases decide (x.f_Contact.f_At > x.f_At) <;> cases yaoy x ⟨x.f_Site,x.f_No,x.f_At,x.f_Kind,x.f_Contact,[],[],0⟩ <;> rfl
 | false =>
  cases x.f_Kind == 2 with
  | true=>cases keyB x.f_Band <;> cases yaoy x ⟨x.f_Site,x.f_No,x.f_At,x.f_Kind,⟨0,0,[],[],0,0,[],[]⟩,x.f_Band,[],0⟩ <;> rfl
  | false =>
   cases x.f_Kind == 5 with
   | true=>cases keyB x.f_Of <;> cases inB x.f_Other 1 1000000 <;> cases yaoy x ⟨x.f_Site,x.f_No,x.f_At,x.f_Kind,⟨0,0,[],[],0,0,[],[]⟩,[],x.f_Of,x.f_Other⟩ <;> rfl
   | false=>cases inB x.f_Contact.f_Sent 1 99999 <;> cases yaoy x ⟨x.f_Site,x.f_No,x.f_At,x.f_Kind,⟨0,0,[],[],x.f_Contact.f_Sent,0,[],[]⟩,[],[],0⟩ <;> rfl
end Go.Am
set_option linter.unusedVariables false
set_option linter.unusedSectionVars false
set_option linter.unusedSimpArgs false
set_option maxRecDepth 100000
namespace Go.Am
open Go Go.Proofs
variable [Fuel]
theorem yxny (x y:G_Deed) (R:Type) (k:Bool→Option R):Q_sameNo x y k = k (x.f_Site == y.f_Site&&x.f_No == y.f_No):=by
 show (bif (x.f_Site == y.f_Site) then k (x.f_No == y.f_No) else k false) = _
 cases x.f_Site == y.f_Site <;> rfl
theorem yuRy (d:List G_Deed) (hl:d.length≤100000) (x:G_Deed) (R:Type) (k:Bool→G_Deed→Option R):z18z d x k = k (d.any fun o=>o.f_Site == x.f_Site&&o.f_No == x.f_No) x:=by
 simp only [z18z,z18z_,yvSy,yIry]
 rw [yzKy _ (fun o:G_Deed=>o.f_Site == x.f_Site&&o.f_No == x.f_No) x d (fun y _ R k=>by
  simp only [z9z,z9z_,I_z9z,yxny]) (by have:=NN_ok;omega) (by have:=NN_ok;omega)]
 rw [yFLy]
end Go.Am
set_option linter.unusedVariables false
set_option linter.unusedSectionVars false
set_option linter.unusedSimpArgs false
set_option maxRecDepth 100000
namespace Go.Am
open Go Go.Proofs
variable [Fuel]
end Go.Am
set_option linter.unusedVariables false
set_option linter.unusedSectionVars false
set_option linter.unusedSimpArgs false
set_option maxRecDepth 100000
namespace Go.Am
open Go Go.Proofs
variable [Fuel]
end Go.Am
set_option linter.unusedVariables false
set_option linter.unusedSectionVars false
set_option linter.unusedSimpArgs false
set_option maxRecDepth 100000
namespace Go.Am
open Go Go.Proofs
variable [Fuel]
end Go.Am
