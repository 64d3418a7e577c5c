/- The plain law, in Lean alone: V1, V2. No condition: lemmas for the claim. -/
import Derived.Test.YtphcgliehecbkaaGreatDoorPlS1
import Derived.Test.YtphcgliehecbkaaGreatDoorPlB4
import Derived.Test.YtphcgliehecbkaaGreatDoorPlK
set_option linter.unusedVariables false
set_option linter.unusedSectionVars false
set_option linter.unusedSimpArgs false
set_option maxRecDepth 100000
namespace Go.Am
open Go Go.Proofs
variable [Fuel]
def ybvy:List (List UInt8):=[[115,97],[115,98],[115,99],[],[98,50,48],[98,52,48],[122,122]]
theorem yA0y:ybvy.all (fun s=>(kit_IsKey s some).isSome) = true:=by
 obtain ⟨m,h,rfl⟩:=yaZy ‹Fuel›
 kernel_rfl
theorem yCRy:ybvy.all (fun s=>ykDy (kit_IsKey s some) (Q_Key s some)) = true:=by
 obtain ⟨m,h,rfl⟩:=yaZy ‹Fuel›
 kernel_rfl
theorem yhVy {s:List UInt8} (h:s ∈ ybvy) (R:Type) (k:Bool→Option R):kit_IsKey s k = k (keyB s) :=
 ydUy yaOy.na (args:=[.d (.str s)]) (F:=@kit_IsKey _ s) (fun _ _=>rfl) (yfOy (List.all_eq_true.1 yA0y s h)) R k
theorem yqVy {s:List UInt8} (h:s ∈ ybvy) (R:Type) (k:Bool→Option R):Q_Key s k = k (keyB s) :=
 ydUy yjSy.na (args:=[.d (.str s)]) (F:=@Q_Key _ s) (fun _ _=>rfl) (ykAy (List.all_eq_true.1 yCRy s h)).2 R k
structure FineD (x:G_Deed):Prop where
 site:x.f_Site ∈ ybvy
 no:Mid x.f_No
 at1:Mid x.f_At
 kind:Mid x.f_Kind
 con:Fine x.f_Contact
 band:x.f_Band ∈ ybvy
 of1:x.f_Of ∈ ybvy
 other:Mid x.f_Other
noncomputable def tailD (n:Nat) (at1 many i:Int) (s:G_Stream) (m:List (List UInt8×Int)) (out:List G_Deed) (site:List UInt8) (no kind:Int) (c:G_Contact) (band of1:List UInt8) (other:Int) {R:Type} (e0:G_Stream→List G_Deed→Option R):Option R :=
 z57z s 100 (fun r151 r152=>(bif r151 then (z45z r152 4 (fun r153 r154=>(bif (r153 == 0) then (z21z r154 [[],[115,97]] (fun r155 r156=>(Stream_Odd r156 1 9 (fun r157 r158=>(bif (decide ((out.length + [(⟨r155,r157,at1,kind,c,band,of1,other⟩:G_Deed)].length) * 176≤yady)) then z18z_L5 ybqy n at1 many (w64 (i + 1)) r158 m (out ++ [(⟨r155,r157,at1,kind,c,band,of1,other⟩:G_Deed)]) e0 else none))))) else (bif (r153 == 1) then (Stream_Odd r154 1 5 (fun r159 r160=>(bif (decide ((out.length + [(⟨site,no,at1,r159,c,band,of1,other⟩:G_Deed)].length) * 176≤yady)) then z18z_L5 ybqy n at1 many (w64 (i + 1)) r160 m (out ++ [(⟨site,no,at1,r159,c,band,of1,other⟩:G_Deed)]) e0 else none))) else (bif (r153 == 2) then (z21z r154 [[],[98,50,48]] (fun r161 r162=>(z21z r162 [[],[115,97]] (fun r163 r164=>(bif (decide ((out.length + [(⟨site,no,at1,kind,c,r161,r163,other⟩:G_Deed)].length) * 176≤yady)) then z18z_L5 ybqy n at1 many (w64 (i + 1)) r164 m (out ++ [(⟨site,no,at1,kind,c,r161,r163,other⟩:G_Deed)]) e0 else none))))) else (Stream_Odd r154 1 99999 (fun r165 r166=>(Stream_Odd r166 0 5 (fun r167 r168=>(bif (decide ((out.length + [(⟨site,no,at1,kind,(⟨c.f_At,c.f_Mode,c.f_Band,c.f_Call,r165,c.f_Heard,c.f_Gave,c.f_Got⟩:G_Contact),band,of1,r167⟩:G_Deed)].length) * 176≤yady)) then z18z_L5 ybqy n at1 many (w64 (i + 1)) r168 m (out ++ [(⟨site,no,at1,kind,(⟨c.f_At,c.f_Mode,c.f_Band,c.f_Call,r165,c.f_Heard,c.f_Gave,c.f_Got⟩:G_Contact),band,of1,r167⟩:G_Deed)]) e0 else none)))))))))) else (bif (decide ((out.length + [(⟨site,no,at1,kind,c,band,of1,other⟩:G_Deed)].length) * 176≤yady)) then z18z_L5 ybqy n at1 many (w64 (i + 1)) r152 m (out ++ [(⟨site,no,at1,kind,c,band,of1,other⟩:G_Deed)]) e0 else none)))
theorem yvQy (n:Nat) (at1 many:Int) (i:Nat) (hi:i≤1000) (m:List (List UInt8×Int)) (out:List G_Deed) (ho:out.length≤1000) {site:List UInt8} {no kind:Int} {c:G_Contact} {band of1:List UInt8} {other:Int} (hf:FineD ⟨site,no,at1,kind,c,band,of1,other⟩) {b:Int} {s:G_Stream} (hs:SOk b s) (hb:b≤1000000) :
  ∃ (x:G_Deed) (s':G_Stream),FineD x∧SOk (b + 8) s'∧∀ (R:Type) (e0:G_Stream→List G_Deed→Option R),tailD n at1 many (i:Int) s m out site no kind c band of1 other e0 = z18z_L5 ybqy n at1 many ((i + 1:Nat):Int) s' m (out ++ [x]) e0:=by
 have hw:=yazy (show i < 4611686018427387904 by omega)
 have hroom:∀ x:G_Deed,decide ((out.length + [x].length) * 176≤yady) = true:=fun x=>room1 out x 176 (by omega) (by omega)
 obtain ⟨f,s1,z1,e1⟩:=z57z_gives hs 100 (by omega) (by omega)
 cases f with
 | false=>exact ⟨_,s1,hf,z1.mono (by omega),fun R e0=>by simp only [tailD,e1,cond_false,hroom,cond_true,hw]⟩
 | true =>
  obtain ⟨q,s2,q1,q2,z2,e2⟩:=z45z_gives z1 4 (by omega) (by omega)
  by_cases c0:q = 0
  ·subst c0
   obtain ⟨x1,t1,hx1,y1,g1⟩:=z21z_gives z2 [[],[115,97]] (by omega) (by simp) (by simp)
   obtain ⟨x2,t2,x21,x22,y2,g2⟩:=ybby y1 1 9 (by omega) (by omega) (by omega) (by omega) (by omega)
   exact ⟨⟨x1,x2,at1,kind,c,band,of1,other⟩,t2,⟨ybFy hx1 (by decide +kernel),⟨by simp only; omega,by simp only; omega⟩,hf.at1,hf.kind,hf.con,hf.band,hf.of1,hf.other⟩,y2.mono (by omega),fun R e0=>by simp only [tailD,e1,cond_true,e2,beq_self_eq_true,g1,g2,hroom,hw]⟩
  ·by_cases c1:q = 1
   ·subst c1
    obtain ⟨x2,t2,x21,x22,y2,g2⟩:=ybby z2 1 5 (by omega) (by omega) (by omega) (by omega) (by omega)
    exact ⟨⟨site,no,at1,x2,c,band,of1,other⟩,t2,⟨hf.site,hf.no,hf.at1,⟨by simp only; omega,by simp only; omega⟩,hf.con,hf.band,hf.of1,hf.other⟩,y2.mono (by omega),fun R e0=>by simp only [tailD,e1,cond_true,e2,show ((1:Int) == 0) = false from rfl,cond_false,beq_self_eq_true,g2,hroom,hw]⟩
   ·by_cases c2:q = 2
    ·subst c2
     obtain ⟨x1,t1,hx1,y1,g1⟩:=z21z_gives z2 [[],[98,50,48]] (by omega) (by simp) (by simp)
     obtain ⟨x2,t2,hx2,y2,g2⟩:=z21z_gives y1 [[],[115,97]] (by omega) (by simp) (by simp)
     exact ⟨⟨site,no,at1,kind,c,x1,x2,other⟩,t2,⟨hf.site,hf.no,hf.at1,hf.kind,hf.con,ybFy hx1 (by decide +kernel),ybFy hx2 (by decide +kernel),hf.other⟩,y2.mono (by omega),fun R e0=>by simp only [tailD,e1,cond_true,e2,show ((2:Int) == 0) = false from rfl,show ((2:Int) == 1) = false from rfl,cond_false,beq_self_eq_true,g1,g2,hroom,hw]⟩
    ·obtain ⟨x1,t1,x11,x12,y1,g1⟩:=ybby z2 1 99999 (by omega) (by omega) (by omega) (by omega) (by omega)
     obtain ⟨x2,t2,x21,x22,y2,g2⟩:=ybby y1 0 5 (by omega) (by omega) (by omega) (by omega) (by omega)
     have hc:=hf.con
     exact ⟨⟨site,no,at1,kind,⟨c.f_At,c.f_Mode,c.f_Band,c.f_Call,x1,c.f_Heard,c.f_Gave,c.f_Got⟩,band,of1,x2⟩,t2,⟨hf.site,hf.no,hf.at1,hf.kind,⟨hc.at1,hc.mode,⟨by simp only; omega,by simp only; omega⟩,hc.heard,hc.band,hc.call,hc.gave,hc.got⟩,hf.band,hf.of1,⟨by simp only; omega,by simp only; omega⟩⟩,y2.mono (by omega),fun R e0=>by simp only [tailD,e1,cond_true,e2,beq_eq_false_iff_ne.2 c0,beq_eq_false_iff_ne.2 c1,beq_eq_false_iff_ne.2 c2,cond_false,g1,g2,hroom,hw]⟩
def zeroD:G_Contact:=⟨0,0,[],[],0,0,[],[]⟩
theorem yehy {x:Int} (h:Mid x):Fine ⟨0,0,[],[],x,0,[],[]⟩ :=
 ⟨⟨show (-2199023255552:Int)≤0 by omega,show (0:Int)≤2199023255552 by omega⟩,⟨show (-2199023255552:Int)≤0 by omega,show (0:Int)≤2199023255552 by omega⟩,h,⟨show (-2199023255552:Int)≤0 by omega,show (0:Int)≤2199023255552 by omega⟩,show ([]:List UInt8) ∈ keysL by decide +kernel,show ([]:List UInt8) ∈ ygUy by decide +kernel,show ([]:List UInt8) ∈ keysL by decide +kernel,show ([]:List UInt8) ∈ keysL by decide +kernel⟩
theorem z18z_loop (many:Nat) (hmany:many≤100):∀ (j n i:Nat) (at0:Int) (s:G_Stream) (m:List (List UInt8×Int)) (out:List G_Deed) (b:Int),i + j = many→j < n→SOk b s→b + 100 * (j:Int)≤1000000→0≤at0→at0 + 5 * (j:Int)≤1000→out.length = i→(∀ x ∈ out,FineD x)→(∀ w,0≤(yaay w m).getD 0∧(yaay w m).getD 0≤(i:Int)) →
  ∃ (r:List G_Deed) (s':G_Stream),SOk (b + 100 * (j:Int)) s'∧r.length = many∧(∀ x ∈ r,FineD x)∧∀ (R:Type) (e0:G_Stream→List G_Deed→Option R),z18z_L5 ybqy n at0 (many:Int) (i:Int) s m out e0 = e0 s' r
 | _,0,_,_,_,_,_,_,_,h,_,_,_,_,_,_,_=>by omega
 | 0,n + 1,i,at0,s,m,out,b,hi,_,hs,_,_,_,ho,hf,_=>⟨out,s,hs.mono (by omega),by omega,hf,fun R e0=>by rw [z18z_L5,decide_eq_false (by omega)]; rfl⟩
 | j + 1,n + 1,i,at0,s,m,out,b,hi,hn,hs,hb,h0,h1,ho,hf,hm=>by
  obtain ⟨p,s1,hp,z1,e1⟩:=z64z_gives hs [0,1,5] (by omega) (by simp) (by simp)
  obtain ⟨st,s2,hst,z2,e2⟩:=z21z_gives z1 [[115,97],[115,97],[115,98],[115,99]] (by omega) (by simp) (by simp)
  obtain ⟨kd,s3,hkd,z3,e3⟩:=z64z_gives z2 [1,1,1,1,2,3,3,4,5] (by omega) (by simp) (by simp)
  have hst':st ∈ ybvy:=ybFy hst (by decide +kernel)
  simp only [List.mem_cons,List.not_mem_nil,or_false] at hp hkd
  have ea:w64 (at0 + p) = at0 + p:=yaKy (by omega) (by omega)
  have hmst:=hm st
  have ew:w64 ((yaay st m).getD 0 + 1) = (yaay st m).getD 0 + 1:=yaKy (by omega) (by omega)
  have hm2:∀ w,0≤(yaay w (yaby st ((yaay st m).getD 0 + 1) m)).getD 0∧(yaay w (yaby st ((yaay st m).getD 0 + 1) m)).getD 0≤((i + 1:Nat):Int):=fun w=>by
   have hw:=hm w
   rw [ydoy,ymRy,yrwy ykiy]
   rw [ydoy] at hw hmst
   cases ya5y w st with
   | true=>simp only [cond_true,Option.getD_some]; omega
   | false=>simp only [cond_false]; omega
  generalize hM:yaby st ((yaay st m).getD 0 + 1) m = m2 at hm2
  have hno:Mid ((yaay st m2).getD 0):=⟨by have:=hm2 st; omega,by have:=hm2 st; omega⟩
  have hat:Mid (at0 + p):=⟨by omega,by omega⟩
  have hnil:([]:List UInt8) ∈ ybvy:=by decide +kernel
  have mid0:Mid 0:=⟨by omega,by omega⟩
  have body:∃ (c:G_Contact) (bd of1:List UInt8) (other:Int) (s4:G_Stream),FineD ⟨st,(yaay st m2).getD 0,at0 + p,kd,c,bd,of1,other⟩∧SOk (b + 90) s4∧∀ (R:Type) (e0:G_Stream→List G_Deed→Option R),z18z_L5 ybqy (n + 1) at0 (many:Int) (i:Int) s m out e0 = tailD n (at0 + p) (many:Int) (i:Int) s4 m2 out st ((yaay st m2).getD 0) kd c bd of1 other e0:=by
   have unf:∀ (R:Type) (e0:G_Stream→List G_Deed→Option R),z18z_L5 ybqy (n + 1) at0 (many:Int) (i:Int) s m out e0 = bif kd == 1 then z62z s3 (if w64 (at0 + p - 3) > 0 then w64 (at0 + p - 3) else 0) (at0 + p) (fun r147 r148=>z60z r148 r147 (fun r149 r150=>tailD n (at0 + p) (many:Int) (i:Int) r150 m2 out st ((yaay st m2).getD 0) kd r149 [] [] 0 e0)) else bif kd == 2 then z21z s3 [[98,50,48],[98,52,48]] (fun r169 r170=>tailD n (at0 + p) (many:Int) (i:Int) r170 m2 out st ((yaay st m2).getD 0) kd zeroD r169 [] 0 e0) else bif kd == 3 then z62z s3 1 7 (fun r189 r190=>tailD n (at0 + p) (many:Int) (i:Int) r190 m2 out st ((yaay st m2).getD 0) kd ⟨0,0,[],[],r189,0,[],[]⟩ [] [] 0 e0) else bif kd == 4 then z62z s3 1 7 (fun r189 r190=>tailD n (at0 + p) (many:Int) (i:Int) r190 m2 out st ((yaay st m2).getD 0) kd ⟨0,0,[],[],r189,0,[],[]⟩ [] [] 0 e0) else z21z s3 [[115,97],[115,97],[115,98]] (fun r209 r210=>z62z r210 1 (if (yaay [115,97] m2).getD 0 > 1 then (yaay [115,97] m2).getD 0 else 1) (fun r211 r212=>tailD n (at0 + p) (many:Int) (i:Int) r212 m2 out st ((yaay st m2).getD 0) kd zeroD [] r209 r211 e0)):=fun R e0=>by
    rw [z18z_L5,decide_eq_true (show (i:Int) < (many:Int) by omega)]
    simp only [cond_true,ybqy,e1,e2,e3,ea,ew,hM]
    cases h1:kd == 1 <;> cases h2:kd == 2 <;> cases h3:kd == 3 <;> cases h4:kd == 4 <;> rfl
   have hk:kd = 1 ∨ kd = 2 ∨ kd = 3 ∨ kd = 4 ∨ kd = 5:=by omega
   have mk:Mid kd:=⟨by omega,by omega⟩
   rcases hk with rfl | rfl | rfl | rfl | rfl
   ·have hlo:0≤(if w64 (at0 + p - 3) > 0 then w64 (at0 + p - 3) else 0)∧(if w64 (at0 + p - 3) > 0 then w64 (at0 + p - 3) else 0)≤at0 + p:=by
     rw [yaKy (x:=at0 + p - 3) (by omega) (by omega)]
     split <;> omega
    generalize (if w64 (at0 + p - 3) > 0 then w64 (at0 + p - 3) else 0) = lo at hlo unf
    obtain ⟨t,t1,t11,t12,y1,g1⟩:=z62z_gives z3 lo (at0 + p) (by omega) (by omega) (by omega) (by omega) (by omega)
    obtain ⟨c,t2,hc,_,y2,g2⟩:=z60z_gives y1 t (by omega) (by omega) (by omega)
    exact ⟨c,[],[],0,t2,⟨hst',hno,hat,mk,hc,hnil,hnil,mid0⟩,y2.mono (by omega),fun R e0=>by rw [unf]; simp only [beq_self_eq_true,cond_true,g1,g2]⟩
   ·obtain ⟨t,t1,ht,y1,g1⟩:=z21z_gives z3 [[98,50,48],[98,52,48]] (by omega) (by simp) (by simp)
    exact ⟨zeroD,t,[],0,t1,⟨hst',hno,hat,mk,yehy mid0,ybFy ht (by decide +kernel),hnil,mid0⟩,y1.mono (by omega),fun R e0=>by rw [unf]; simp only [show ((2:Int) == 1) = false from rfl,cond_false,beq_self_eq_true,cond_true,g1]⟩
   ·obtain ⟨t,t1,t11,t12,y1,g1⟩:=z62z_gives z3 1 7 (by omega) (by omega) (by omega) (by omega) (by omega)
    exact ⟨⟨0,0,[],[],t,0,[],[]⟩,[],[],0,t1,⟨hst',hno,hat,mk,yehy ⟨by omega,by omega⟩,hnil,hnil,mid0⟩,y1.mono (by omega),fun R e0=>by rw [unf]; simp only [show ((3:Int) == 1) = false from rfl,show ((3:Int) == 2) = false from rfl,cond_false,beq_self_eq_true,cond_true,g1]⟩
   ·obtain ⟨t,t1,t11,t12,y1,g1⟩:=z62z_gives z3 1 7 (by omega) (by omega) (by omega) (by omega) (by omega)
    exact ⟨⟨0,0,[],[],t,0,[],[]⟩,[],[],0,t1,⟨hst',hno,hat,mk,yehy ⟨by omega,by omega⟩,hnil,hnil,mid0⟩,y1.mono (by omega),fun R e0=>by rw [unf]; simp only [show ((4:Int) == 1) = false from rfl,show ((4:Int) == 2) = false from rfl,show ((4:Int) == 3) = false from rfl,cond_false,beq_self_eq_true,cond_true,g1]⟩
   ·obtain ⟨t,t1,ht,y1,g1⟩:=z21z_gives z3 [[115,97],[115,97],[115,98]] (by omega) (by simp) (by simp)
    have hh:1≤(if (yaay [115,97] m2).getD 0 > 1 then (yaay [115,97] m2).getD 0 else 1)∧(if (yaay [115,97] m2).getD 0 > 1 then (yaay [115,97] m2).getD 0 else 1)≤1000:=by
     have:=hm2 [115,97]
     split <;> omega
    generalize (if (yaay [115,97] m2).getD 0 > 1 then (yaay [115,97] m2).getD 0 else 1) = hi2 at hh unf
    obtain ⟨u,t2,u1,u2,y2,g2⟩:=z62z_gives y1 1 hi2 (by omega) (by omega) (by omega) (by omega) (by omega)
    exact ⟨zeroD,[],t,u,t2,⟨hst',hno,hat,mk,yehy mid0,hnil,ybFy ht (by decide +kernel),⟨by simp only; omega,by simp only; omega⟩⟩,y2.mono (by omega),fun R e0=>by rw [unf]; simp only [show ((5:Int) == 1) = false from rfl,show ((5:Int) == 2) = false from rfl,show ((5:Int) == 3) = false from rfl,show ((5:Int) == 4) = false from rfl,cond_false,g1,g2]⟩
  obtain ⟨c,bd,of1,other,s4,hfd,z4,hbody⟩:=body
  obtain ⟨x,s',hx,z5,ht⟩:=yvQy n (at0 + p) (many:Int) i (by omega) m2 out (by omega) hfd z4 (by omega)
  obtain ⟨r,s'',g1,g2,g3,g4⟩:=z18z_loop many hmany j n (i + 1) (at0 + p) s' m2 (out ++ [x]) (b + 98) (by omega) (by omega) (z5.mono (by omega)) (by omega) (by omega) (by omega) (by simp [ho]) (fun y hy=>by
   rcases List.mem_append.1 hy with h | h
   ·exact hf y h
   ·simp at h; rw [h]; exact hx) hm2
  exact ⟨r,s'',g1.mono (by omega),g2,g3,fun R e0=>by rw [hbody,ht,g4]⟩
def cmpD (x y:G_Deed):Int:=orL [cmpI x.f_At y.f_At,Lib.compareBytes x.f_Site y.f_Site,cmpI x.f_No y.f_No]
theorem yCay:Ords cmpD:=.lex (yhJy.on fun c:G_Deed=>c.f_At) (.lex (yiPy.on fun c:G_Deed=>c.f_Site) (.lex (yhJy.on fun c:G_Deed=>c.f_No) .nil))
theorem z35z_is (x y:G_Deed) (R:Type) (k:Int→Option R):z35z x y k = k (cmpD x y):=by
 simp only [z35z,z35z_,yoby,cmpD,z25z_is,yb7y]
 rw [z24z_is _ (by simp)]
theorem z2z_is {x y:G_Deed} (hx:FineD x) (hy:FineD y) (R:Type) (k:Int→Option R):z2z x y k = k (cmpD x y):=by
 have a1:=hx.at1; have a2:=hx.no; have b1:=hy.at1; have b2:=hy.no
 simp only [z2z,z2z_,I_z2z,yBXy,yb7y,cmpD,orL]
 rw [yyby ⟨by omega,by omega⟩ ⟨by omega,by omega⟩,yyby ⟨by omega,by omega⟩ ⟨by omega,by omega⟩,yHty x.f_At y.f_At,ne_cb x.f_Site]
 cases cmpI x.f_At y.f_At != 0 <;> cases Lib.compareBytes x.f_Site y.f_Site != 0 <;> simp only [cond_true,cond_false]
 cases h:cmpI x.f_No y.f_No != 0 with
 | true=>rfl
 | false =>
  have:cmpI x.f_No y.f_No = 0:=by simpa using h
  rw [this]; rfl
theorem yAwy {l:List G_Deed} (hf:∀ c ∈ l,FineD c) (hl:l.length≤20) (R:Type) (k:List G_Deed→Option R):z19z l k = k (sortI cmpD l):=by
 simp only [z19z,z19z_,ytFy,yIAy]
 exact yGny cmpD FineD (fun x y hx hy=>z2z_is hx hy) l hf hl (by have:=NN_ok; omega) (by have:=NN_ok; omega) _ (fun l a b R k=>by rw [yJcy]) k
theorem z18z_gives {b:Int} {s:G_Stream} (hs:SOk b s) (hb:b≤100000) (many:Nat) (hm:many≤20) :
  ∃ (r:List G_Deed) (s':G_Stream),SOk (b + 2000) s'∧r.length = many∧(∀ x ∈ r,FineD x)∧∀ (R:Type) (k:List G_Deed→G_Stream→Option R),z18z s (many:Int) k = k r s':=by
 obtain ⟨r,s',g1,g2,g3,g4⟩:=z18z_loop many (by omega) many NN 0 0 s [] [] b (by omega) (by have:=NN_ok; omega) hs (by omega) (by omega) (by omega) rfl (fun x h=>by cases h) (fun w=>by rw [ydoy]; exact ⟨Int.le_refl _,Int.le_refl _⟩)
 refine ⟨sortI cmpD r,s',g1.mono (by omega),by rw [ylly]; exact g2,fun x hx=>g3 x (yAyy.1 hx),fun R k=>?_⟩
 have hs2:∀ k:List G_Deed→Option R,ybqy.z19z r k = k (sortI cmpD r):=fun k=>yAwy g3 (by omega) R k
 show z18z_L5 ybqy NN 0 (many:Int) 0 s [] [] (fun e273 e274=>ybqy.z19z e274 (fun r275=>k r275 e273)) = _
 refine (g4 R _).trans ?_
 rw [hs2]
theorem z81z_gives {x:G_Deed} (h:FineD x):∃ e:Int,∀ (R:Type) (k:Int→Option R),z81z x k = k e:=by
 have f1:=fun (R:Type) (k:Bool→Option R)=>yqVy h.site R k
 have f2:=fun (R:Type) (k:Bool→Option R)=>yqVy h.band R k
 have f3:=fun (R:Type) (k:Bool→Option R)=>yqVy h.of1 R k
 have f4:=fun (R:Type) (k:Int→Option R)=>z73z_is h.con R k
 refine ⟨(z81z x some).getD 0,fun R k=>?_⟩
 simp only [z81z,z81z_,yuDy,f1,f2,f3,f4,yqBy,ym5y]
 cases keyB x.f_Site <;> cases inB x.f_No 1 1000000 <;> cases momB x.f_At <;> cases inB x.f_Kind 1 5 <;> try rfl
 cases x.f_Kind == 1 with
 | true =>
  cases chk x.f_Contact != 0 <;> cases decide (x.f_Contact.f_At > x.f_At) <;> cases yaUy x ⟨x.f_Site,x.f_No,x.f_At,x.f_Kind,x.f_Contact,[],[],0⟩ <;> rfl
 | false =>
  cases x.f_Kind == 2 with
  | true=>cases keyB x.f_Band <;> cases yaUy x ⟨x.f_Site,x.f_No,x.f_At,x.f_Kind,⟨0,0,[],[],0,0,[],[]⟩,x.f_Band,[],0⟩ <;> rfl
  | false =>
   cases x.f_Kind == 5 with
   | true=>cases keyB x.f_Of <;> cases inB x.f_Other 1 1000000 <;> cases yaUy x ⟨x.f_Site,x.f_No,x.f_At,x.f_Kind,⟨0,0,[],[],0,0,[],[]⟩,[],x.f_Of,x.f_Other⟩ <;> rfl
   | false=>cases inB x.f_Contact.f_Sent 1 99999 <;> cases yaUy x ⟨x.f_Site,x.f_No,x.f_At,x.f_Kind,⟨0,0,[],[],x.f_Contact.f_Sent,0,[],[]⟩,[],[],0⟩ <;> rfl
end Go.Am
set_option linter.unusedVariables false
set_option linter.unusedSectionVars false
set_option linter.unusedSimpArgs false
set_option maxRecDepth 100000
namespace Go.Am
open Go Go.Proofs
variable [Fuel]
theorem ywry (x y:G_Deed) (R:Type) (k:Bool→Option R):Q_sameNo x y k = k (x.f_Site == y.f_Site && x.f_No == y.f_No):=by
 show (bif (x.f_Site == y.f_Site) then k (x.f_No == y.f_No) else k false) = _
 cases x.f_Site == y.f_Site <;> rfl
theorem yCPy (d:List G_Deed) (hl:d.length≤100000) (x:G_Deed) (R:Type) (k:Bool→G_Deed→Option R):z20z d x k = k (d.any fun o=>o.f_Site == x.f_Site && o.f_No == x.f_No) x:=by
 simp only [z20z,z20z_,ysYy,yIoy]
 rw [yoOy _ (fun o:G_Deed=>o.f_Site == x.f_Site && o.f_No == x.f_No) x d (fun y _ R k=>by
  simp only [z9z,z9z_,I_z9z,ywry]) (by have:=NN_ok; omega) (by have:=NN_ok; omega)]
 rw [yqiy]
theorem yg9y (d:List G_Deed) (hf:∀ c ∈ d,FineD c) (hl:d.length≤100000):∀ (xs:List G_Deed) (n i:Nat),d.drop i = xs→xs.length < n→∃ q:Option Int,∀ (R:Type) (e0:List G_Deed→Int→Option R) (e1:List G_Deed→Option R),
  z4z_L4 I_z4z n d d (d.length:Int) (i:Int) e0 e1 = match q with | some e=>e0 d e | none=>e1 d
 | _,0,_,_,h=>by omega
 | [],n + 1,i,h,_=>⟨none,fun R e0 e1=>by rw [z4z_L4,ya6y h]; rfl⟩
 | c :: cs,n + 1,i,h,hn=>by
  have h':=yavy h
  have hc:=hf c (yd0y h)
  obtain ⟨q,ih⟩:=yg9y d hf hl cs n (i + 1) h'.2.2.1 (Nat.lt_of_succ_lt_succ (by simpa only [List.length_cons] using hn))
  obtain ⟨e,he⟩:=z81z_gives hc
  have hw:=yazy (show i < 4611686018427387904 by omega)
  have he':∀ (R:Type) (k:Int→Option R),I_z4z.z81z c k = k e:=he
  cases h0:e != 0 with
  | true=>exact ⟨some e,fun R e0 e1=>by rw [z4z_L4,yaJy h,cond_true,yaWy h,he',h0,cond_true]⟩
  | false =>
   by_cases hi:i = 0
   ·subst hi
    exact ⟨q,fun R e0 e1=>by rw [z4z_L4,yaJy h,cond_true,yaWy h,he',h0,cond_false,decide_eq_false (show ¬ (((0:Nat):Int) > 0) by omega),cond_false,hw,ih]⟩
   ·have hp:d[i - 1]? = some d[i - 1]:=List.getElem?_eq_getElem (by omega)
    have hpf:=hf _ (List.mem_of_getElem? hp)
    generalize d[i - 1] = p at hp hpf
    have hw2:w64 ((i:Int) - 1) = ((i - 1:Nat):Int):=yjRy (by omega) (by omega)
    have ho:∀ (R:Type) (k:Int→Option R),I_z4z.z2z p c k = k (cmpD p c):=fun R k=>z2z_is hpf hc R k
    cases hd:decide (cmpD p c ≥ 0) with
    | true=>exact ⟨some 7,fun R e0 e1=>by rw [z4z_L4,yaJy h,cond_true,yaWy h,he',h0,cond_false,decide_eq_true (show ((i:Int) > 0) by omega),cond_true,hw2,ydfy hp,ho,hd,cond_true]⟩
    | false=>exact ⟨q,fun R e0 e1=>by rw [z4z_L4,yaJy h,cond_true,yaWy h,he',h0,cond_false,decide_eq_true (show ((i:Int) > 0) by omega),cond_true,hw2,ydfy hp,ho,hd,cond_false,hw,ih]⟩
theorem ygqy (d:List G_Deed) (hl:d.length≤100000):∀ (xs:List G_Deed) (n i:Nat),d.drop i = xs→xs.length < n→∃ q:Bool,∀ (R:Type) (e0:Int→Option R) (e1:Option R),
  z4z_L13 I_z4z n d d (d.length:Int) (i:Int) e0 e1 = bif q then e0 6 else e1
 | _,0,_,_,h=>by omega
 | [],n + 1,i,h,_=>⟨false,fun R e0 e1=>by rw [z4z_L13,ya6y h]; rfl⟩
 | c :: cs,n + 1,i,h,hn=>by
  have h':=yavy h
  obtain ⟨q,ih⟩:=ygqy d hl cs n (i + 1) h'.2.2.1 (Nat.lt_of_succ_lt_succ (by simpa only [List.length_cons] using hn))
  have hc:∀ (R:Type) (k:Bool→G_Deed→Option R),I_z4z.z20z (d.take i) c k = k ((d.take i).any fun o=>o.f_Site == c.f_Site && o.f_No == c.f_No) c:=fun R k=>yCPy _ (by rw [List.length_take]; omega) c R k
  refine ⟨((d.take i).any fun o=>o.f_Site == c.f_Site && o.f_No == c.f_No) || q,fun R e0 e1=>?_⟩
  rw [z4z_L13,yaJy h,cond_true,yaWy h,decide_eq_true (show (0:Int)≤(i:Int) by omega),decide_eq_true (show (i:Int)≤(d.length:Int) by omega),Bool.and_self,cond_true,Int.toNat_natCast,hc,yazy (show i < 4611686018427387904 by omega),ih]
  cases (d.take i).any fun o=>o.f_Site == c.f_Site && o.f_No == c.f_No <;> rfl
theorem z4z_gives {d:List G_Deed} (hf:∀ c ∈ d,FineD c) (hl:d.length≤2000):∃ e:Int,∀ (R:Type) (k:Int→Option R),z4z d k = k e:=by
 obtain ⟨q,g1⟩:=yg9y d hf (by omega) d NN 0 rfl (by have:=NN_ok; omega)
 obtain ⟨t,g2⟩:=ygqy d (by omega) d NN 0 rfl (by have:=NN_ok; omega)
 have unf:∀ (R:Type) (k:Int→Option R),z4z d k = (z4z_L4 I_z4z NN d d (d.length:Int) 0 (fun e14 e15=>k e15) (fun e16=>(z4z_L13 I_z4z NN e16 e16 (e16.length:Int) 0 (fun e27=>k e27) (k 0)))):=fun R k=>by
  show (bif (decide ((d.length:Int) > 2000)) then k 2 else _) = _
  rw [decide_eq_false (by omega)]; rfl
 cases q with
 | some e=>exact ⟨e,fun R k=>by rw [unf]; exact g1 R _ _⟩
 | none =>
  refine ⟨bif t then 6 else 0,fun R k=>?_⟩
  rw [unf]
  refine (g1 R _ _).trans ?_
  refine (g2 R _ _).trans ?_
  cases t <;> rfl
theorem z27z_loop (many:Nat) (hm:many≤20):∀ (j n i:Nat) (b:Int) (s:G_Stream),i + j = 5→j < n→SOk b s→b + 2000 * (j:Int)≤50000 →
  ∃ (q:Bool) (r:List G_Deed) (s':G_Stream),r.length≤many∧(∀ x ∈ r,FineD x)∧∀ (R:Type) (e0:G_Stream→List G_Deed→Option R) (e1:G_Stream→Option R),z27z_L2 yeiy n (many:Int) (i:Int) s e0 e1 = bif q then e0 s' r else e1 s'
 | _,0,_,_,_,_,h,_,_=>by omega
 | 0,n + 1,i,b,s,hi,_,hs,hb=>⟨false,[],s,by simp,fun c h=>(by cases h),fun R e0 e1=>by rw [z27z_L2,decide_eq_false (by omega)]; rfl⟩
 | j + 1,n + 1,i,b,s,hi,hn,hs,hb=>by
  obtain ⟨r,s1,z1,l1,f1,e1⟩:=z18z_gives hs (by omega) many hm
  obtain ⟨e,he⟩:=z4z_gives f1 (by omega)
  have g1:∀ (R:Type) (k:List G_Deed→G_Stream→Option R),yeiy.z18z s (many:Int) k = k r s1:=e1
  have g2:∀ (R:Type) (k:Int→Option R),yeiy.z4z r k = k e:=he
  cases h0:e == 0 with
  | true=>exact ⟨true,r,s1,by omega,f1,fun R e0 e1'=>by rw [z27z_L2,decide_eq_true (show (i:Int) < 5 by omega),cond_true,g1,g2,h0]; rfl⟩
  | false =>
   obtain ⟨q,r',s',g3,g4,g5⟩:=z27z_loop many hm j n (i + 1) (b + 2000) s1 (by omega) (by omega) z1 (by omega)
   exact ⟨q,r',s',g3,g4,fun R e0 e1'=>by rw [z27z_L2,decide_eq_true (show (i:Int) < 5 by omega),cond_true,g1,g2,h0,cond_false,yazy (show i < 4611686018427387904 by omega),g5]⟩
theorem z27z_gives {s:G_Stream} (hs:SOk 0 s) (many:Nat) (hm:many≤20) :
  ∃ (r:List G_Deed) (s':G_Stream),r.length≤many∧(∀ x ∈ r,FineD x)∧∀ (R:Type) (k:List G_Deed→G_Stream→Option R),z27z s (many:Int) k = k r s':=by
 obtain ⟨q,r,s',g1,g2,g3⟩:=z27z_loop many hm 5 NN 0 0 s (by omega) (by have:=NN_ok; omega) hs (by omega)
 cases q with
 | true=>exact ⟨r,s',g1,g2,fun R k=>g3 R _ _⟩
 | false=>exact ⟨[],s',by simp,fun c h=>(by cases h),fun R k=>g3 R _ _⟩
theorem ygry {x:G_Deed} (h1:x.f_Site ∈ ybvy) (h2:x.f_Band ∈ ybvy) (h3:x.f_Of ∈ ybvy) (h4:Fine x.f_Contact):∃ e:Int,∀ (R:Type) (k:Int→Option R),net_formed x k = k e:=by
 have f1:=fun (R:Type) (k:Bool→Option R)=>yhVy h1 R k
 have f2:=fun (R:Type) (k:Bool→Option R)=>yhVy h2 R k
 have f3:=fun (R:Type) (k:Bool→Option R)=>yhVy h3 R k
 have f4:=fun (R:Type) (k:Int→Option R)=>z59z_is h4 R k
 have u:∃ e:Int,∀ (R:Type) (k:Int→Option R),z77z x k = k e:=by
  refine ⟨(z77z x some).getD 0,fun R k=>?_⟩
  simp only [z77z,z77z_,yuHy,z83z,z83z_,ysOy,f2,f3,f4,z50z_is]
  cases x.f_Kind == 1 with
  | true=>cases chk x.f_Contact != 0 <;> cases decide (x.f_Contact.f_At > x.f_At) <;> rfl
  | false =>
   cases x.f_Kind == 2 with
   | true=>cases keyB x.f_Band <;> rfl
   | false =>
    cases x.f_Kind == 5 with
    | true=>cases keyB x.f_Of <;> cases inB x.f_Other 1 1000000 <;> rfl
    | false=>cases inB x.f_Contact.f_Sent 1 99999 <;> rfl
 have v:∃ b:Bool,∀ (R:Type) (k:Bool→Option R),net_idle x k = k b:=by
  refine ⟨(net_idle x some).getD false,fun R k=>?_⟩
  simp only [net_idle,ylsy]
  cases x.f_Kind == 3 <;> cases x.f_Kind == 1 <;> cases x.f_Kind == 2 <;> cases x.f_Kind == 4 <;> cases x.f_Kind == 5 <;> cases x.f_Of == [] <;> cases x.f_Band == [] <;> (try rfl) <;> cases ycWy x.f_Contact ⟨0,0,[],[],x.f_Contact.f_Sent,0,[],[]⟩ <;> (try rfl) <;> cases ycWy x.f_Contact ⟨0,0,[],[],0,0,[],[]⟩ <;> rfl
 obtain ⟨e,he⟩:=u
 obtain ⟨b,hb⟩:=v
 refine ⟨(net_formed x some).getD 0,fun R k=>?_⟩
 simp only [net_formed,yhPy,ygZy,f1,z50z_is,z58z_is,he,hb]
 cases keyB x.f_Site <;> cases inB x.f_No 1 1000000 <;> cases momB x.f_At <;> cases inB x.f_Kind 1 5 <;> cases e != 0 <;> cases b <;> rfl
theorem yn0y {x:G_Deed} (h:FineD x):∃ e:Int,∀ (R:Type) (k:Int→Option R),net_formed x k = k e:=ygry h.site h.band h.of1 h.con
theorem yhly (d:List G_Deed) (hf:∀ c ∈ d,FineD c) (hl:d.length≤100000):∀ (xs:List G_Deed) (n i:Nat),d.drop i = xs→xs.length < n→∃ q:Option Int,∀ (R:Type) (e0:List G_Deed→Int→Option R) (e1:List G_Deed→Option R),
  z11z_L4 ybTy n d d (d.length:Int) (i:Int) e0 e1 = match q with | some e=>e0 d e | none=>e1 d
 | _,0,_,_,h=>by omega
 | [],n + 1,i,h,_=>⟨none,fun R e0 e1=>by rw [z11z_L4,ya6y h]; rfl⟩
 | c :: cs,n + 1,i,h,hn=>by
  have h':=yavy h
  have hc:=hf c (yd0y h)
  obtain ⟨q,ih⟩:=yhly d hf hl cs n (i + 1) h'.2.2.1 (Nat.lt_of_succ_lt_succ (by simpa only [List.length_cons] using hn))
  obtain ⟨e,he⟩:=yn0y hc
  have hw:=yazy (show i < 4611686018427387904 by omega)
  have he':∀ (R:Type) (k:Int→Option R),ybTy.net_formed c k = k e:=he
  cases h0:e != 0 with
  | true=>exact ⟨some e,fun R e0 e1=>by rw [z11z_L4,yaJy h,cond_true,yaWy h,he',h0,cond_true]⟩
  | false =>
   by_cases hi:i = 0
   ·subst hi
    exact ⟨q,fun R e0 e1=>by rw [z11z_L4,yaJy h,cond_true,yaWy h,he',h0,cond_false,decide_eq_false (show ¬ (((0:Nat):Int) > 0) by omega),cond_false,hw,ih]⟩
   ·have hp:d[i - 1]? = some d[i - 1]:=List.getElem?_eq_getElem (by omega)
    generalize d[i - 1] = p at hp
    have hw2:w64 ((i:Int) - 1) = ((i - 1:Nat):Int):=yjRy (by omega) (by omega)
    have ho:∀ (R:Type) (k:Int→Option R),ybTy.z35z p c k = k (cmpD p c):=fun R k=>z35z_is p c R k
    cases hd:decide (cmpD p c ≥ 0) with
    | true=>exact ⟨some 7,fun R e0 e1=>by rw [z11z_L4,yaJy h,cond_true,yaWy h,he',h0,cond_false,decide_eq_true (show ((i:Int) > 0) by omega),cond_true,hw2,ydfy hp,ho,hd,cond_true]⟩
    | false=>exact ⟨q,fun R e0 e1=>by rw [z11z_L4,yaJy h,cond_true,yaWy h,he',h0,cond_false,decide_eq_true (show ((i:Int) > 0) by omega),cond_true,hw2,ydfy hp,ho,hd,cond_false,hw,ih]⟩
theorem ygoy (d:List G_Deed) (hl:d.length≤100000):∀ (xs:List G_Deed) (n i:Nat) (m:List (G_net_own×Bool)),d.drop i = xs→xs.length < n→∃ q:Bool,∀ (R:Type) (e0:Int→Option R) (e1:Option R),
  z11z_L14 ybTy n d (d.length:Int) (i:Int) m e0 e1 = bif q then e0 6 else e1
 | _,0,_,_,_,h=>by omega
 | [],n + 1,i,m,h,_=>⟨false,fun R e0 e1=>by rw [z11z_L14,ya6y h]; rfl⟩
 | c :: cs,n + 1,i,m,h,hn=>by
  have h':=yavy h
  obtain ⟨q,ih⟩:=ygoy d hl cs n (i + 1) (yaEy ⟨c.f_Site,c.f_No⟩ true m) h'.2.2.1 (Nat.lt_of_succ_lt_succ (by simpa only [List.length_cons] using hn))
  refine ⟨((ya0y ⟨c.f_Site,c.f_No⟩ m).getD false) || q,fun R e0 e1=>?_⟩
  rw [z11z_L14,yaJy h,cond_true,yaWy h,yazy (show i < 4611686018427387904 by omega),ih]
  cases (ya0y ⟨c.f_Site,c.f_No⟩ m).getD false <;> rfl
theorem z11z_gives {d:List G_Deed} (hf:∀ c ∈ d,FineD c) (hl:d.length≤2000):∃ e:Int,∀ (R:Type) (k:Int→Option R),z11z d k = k e:=by
 obtain ⟨q,g1⟩:=yhly d hf (by omega) d NN 0 rfl (by have:=NN_ok; omega)
 obtain ⟨t,g2⟩:=ygoy d (by omega) d NN 0 [] rfl (by have:=NN_ok; omega)
 have unf:∀ (R:Type) (k:Int→Option R),z11z d k = (z11z_L4 ybTy NN d d (d.length:Int) 0 (fun e14 e15=>k e15) (fun e16=>(z11z_L14 ybTy NN e16 (e16.length:Int) 0 [] (fun e23=>k e23) (k 0)))):=fun R k=>by
  show (bif (decide ((d.length:Int) > 2000)) then k 2 else _) = _
  rw [decide_eq_false (by omega)]; rfl
 cases q with
 | some e=>exact ⟨e,fun R k=>by rw [unf]; exact g1 R _ _⟩
 | none =>
  refine ⟨bif t then 6 else 0,fun R k=>?_⟩
  rw [unf]
  refine (g1 R _ _).trans ?_
  refine (g2 R _ _).trans ?_
  cases t <;> rfl
end Go.Am
