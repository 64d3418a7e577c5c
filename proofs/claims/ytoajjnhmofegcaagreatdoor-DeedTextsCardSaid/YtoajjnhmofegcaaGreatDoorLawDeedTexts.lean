/- DeedTexts answers true, whatever the input; the input reads as it did. No condition: it holds for all lists of numbers. -/
import Derived.Test.YtoajjnhmofegcaaGreatDoorPlX4
import Derived.Test.YtoajjnhmofegcaaGreatDoorCards
import Derived.Test.YtoajjnhmofegcaaGreatDoorTie
import Derived.WalkKit
import Derived.ProofKit
import Derived.OpenShut
import Derived.ChangeOld
import Derived.Below
import Derived.Deep.DeepHandedRow
import Derived.LaidMore
import Derived.Lib.LaidTab
import Derived.Stop.LaidErr
set_option linter.unusedVariables false
set_option linter.unusedSimpArgs false
set_option maxRecDepth 100000
namespace Go.Proofs.YtoajjnhmofegcaaGreatDoor.deedTexts
open Go Go.ChangeShapes Go.WideShapes Go.ChangeAt Go.RowKit
abbrev fu:Am.Fuel:=⟨1000000000,by omega⟩
theorem own:ownKnob Tryz.prog.godebug = none:=by kernel_rfl
theorem yx5y:laidOutB Tryz.prog = true:=by kernel_rfl
theorem ambOf (W:World) (hL:laidMetH Tryz.prog Rows.deedTextsRow.laid W):Am.AmbF Am.T W []:=by
 have h0:laidMet Tryz.prog Rows.deedTextsRow.laid W:=hL
 have h1:=h0.tail.tail
 have e:(Rows.laid_internal_strconv_uint64pow10:DataW Unit) = Lib.tabData .u64 Lib.pow10Tab:=by kernel_rfl
 rw [e] at h1
 have h2:Lib.TabIs Tryz.prog W "internal/strconv.uint64pow10" .u64 Lib.pow10Tab:=Lib.tabIs_of_head (t:=260) (e:=231) (n:=20) Am.tabg (by kernel_rfl) (by kernel_rfl) (by kernel_rfl) (by kernel_rfl) (by kernel_rfl) h1
 refine ⟨h2,fun b hb=>?_⟩
 have hb:b∈[1]:=hb
 rw [List.mem_singleton] at hb
 subst hb
 exact ⟨Am.tab_lt Am.tabg h2,fun h=>by cases h⟩
theorem walk (W:World) (hamb:Am.AmbF Am.T W []) (v:Value) (l:List Int) (hd:Am.DR Am.T W (fun _=>False) (.sl 3 l) v) :
  Calls Tryz.prog 6 #[v] W fun e w'=>e = .returned (.bool true)∧Below W.heap.size W w':=by
 have hs:Am.SS_law_DeedTexts (@Am.law_DeedTexts fu) [.d (.sl 3 l)] (fun r ys=>some (r,ys)) = some (Am.IV.d (.bool true),[Am.IV.undef]):=@Am.law_DeedTexts_true fu l _ _
 refine ((@Am.ok_law_DeedTexts fu).fs [.d (.sl 3 l)] _ _ _ hs W [v] [] (fun _=>False) ?_ List.nodup_nil (fun b h=>by cases h) (fun b h=>h.elim) hamb).mono ?_
 ·simp only [Am.RIVs,Am.RIV]
  exact ⟨v,[],[],[],rfl,rfl,⟨rfl,hd⟩,rfl,rfl⟩
 ·rintro e w' ⟨r,args',v',F1,F2,av',hk,rfl,hr,_,_,_,_,hl⟩
  simp only [Option.some.injEq,Prod.mk.injEq] at hk
  obtain ⟨rfl,_⟩:=hk
  simp only [Am.RIV,Am.DR.bool] at hr
  obtain ⟨_,rfl⟩:=hr
  exact ⟨rfl,hl.os,hl.tape.1,hl.output,hl.size,fun k hk=>hl.block k hk (by simp)⟩
theorem rep {W:World} {a:Addr} {len cap:Nat} {zs:List Int} (hs:a.spot = none) (hl:len≤cap) (hz:zs.length = cap) (hcell:∀ i,i < zs.length→W.cell? (a.add i) = some (.int .i64 (zs.getD i 0))) :
  Am.DR Am.T W (fun _=>False) (.sl 3 (zs.take len:List Int)) (.slice (some a) len cap):=by
 obtain ⟨b,o,s⟩:=a
 simp only at hs
 subst hs
 have hlen:(zs.take len).length = len:=by simp;omega
 have main:Am.DR Am.T W (fun _=>False) (.sl 3 (zs.take len:List Int)) (.slice (some ⟨b,o,none⟩) (zs.take len).length cap):=by
  refine Am.DR.of_row (.inr ⟨_,_,rfl⟩) (show (zs.take len).length≤cap by rw [hlen];exact hl) (fun hne=>?_)
  have h0:0 < zs.length:=by
   rcases Nat.eq_zero_or_pos zs.length with h | h
   ·exact absurd (show zs.take len = [] by rw [List.eq_nil_of_length_eq_zero h];exact List.take_nil) hne
   ·exact h
  have hc0:=hcell 0 h0
  cases hb:W.heap[b]? with
  | none=>simp [World.cell?,Addr.add,hb] at hc0
  | some ob =>
   cases ob with
   | cells c ty fz =>
    refine ⟨b,o,c,ty,fz,rfl,id,hb,fun i x hi j d hj=>?_⟩
    have hil:i < len∧zs[i]? = some x:=by
     have hi:(zs.take len)[i]? = some x:=hi
     rw [List.getElem?_take (l:=zs)] at hi
     split at hi
     ·exact ⟨by assumption,hi⟩
     ·cases hi
    have hj0:j = 0∧d = .int .i64 x:=by
     have he:Am.T.enc 3 x = [.int .i64 x]:=rfl
     rw [he] at hj
     cases j with
     | zero=>simp at hj;exact ⟨rfl,hj.symm⟩
     | succ j=>simp at hj
    obtain ⟨rfl,rfl⟩:=hj0
    have hil2:i < zs.length:=by
     rcases Nat.lt_or_ge i zs.length with h | h
     ·exact h
     ·rw [List.getElem?_eq_none h] at hil;cases hil.2
    have h1:=hcell i hil2
    have hg:zs.getD i 0 = x:=by rw [List.getD_eq_getElem?_getD,hil.2];rfl
    rw [hg] at h1
    have hsz:Am.T.size 3 = 1:=rfl
    have ha:(⟨b,o,none⟩:Addr).add i = ⟨b,o + i,none⟩:=Am.addr_add b o i
    rw [ha] at h1
    simp only [World.cell?,hb] at h1
    refine ⟨.int .i64 x,?_,(Am.DR.int (A:=Am.A) (T:=Am.T) (w:=W) (n:=x)).mpr rfl⟩
    rw [hsz]
    simpa using h1
   | _=>simp [World.cell?,Addr.add,hb] at hc0
 rw [hlen] at main
 exact main
theorem yEry (H:Type) (enc:TypeId×Value→H) (W:World) (hamb:Am.AmbF Am.T W []) (base:Nat) (args:Array Value) (ds gs:List (DataW H)) (before:List MemPlace)
  (hval:∀ (j:Nat) t v,Tryz.f6.params[j]? = some t→args[j]? = some v→Value.okWide Tryz.prog W .any base t v)
  (hW:DataW.Whole enc Tryz.prog Tryz.f6.params.toList Rows.deedTextsSpec.vars false W args.toList ds gs before) :
  Calls Tryz.prog 6 args W fun e W'=>∃ v,e = .returned v∧Rows.deedTextsSpec.post enc Tryz.prog Tryz.f6 false true false false W args v W':=by
 have hW':=hW
 obtain ⟨p,q,hA0,hV,rfl,hfz,hnd⟩:=hW
 have hA:DataW.TrodAll enc Tryz.prog W 0 (fun _=>true) true Tryz.f6.params.toList args.toList ds p:=hA0
 rw [Tryz.params6] at hA hval
 obtain ⟨v0,vs0,d0,ds0,p0,q0,hargs,rfl,rfl,h0,r0⟩:=trodAll_cons hA
 obtain ⟨rfl,rfl,rfl⟩:=trodAll_nil r0
 obtain rfl:args = #[v0]:=by cases args;simp_all
 obtain ⟨rfl,rfl⟩:=trodVars_none hV
 have hv0:=hval 0 22 v0 rfl rfl
 obtain ⟨a0,len0,cap0,rfl⟩:=okWide_slice Tryz.underlying22 hv0
 have k0:=h0
 have lt0:∀ x∈p0,x.block < W.heap.size:=by obtain ⟨m,hm⟩:=k0;exact DataW.trod_lt m _ _ _ hm
 have key:∃ l,Am.DR Am.T W (fun _=>False) (.sl 3 (l:List Int)) (.slice a0 len0 cap0):=by
  obtain ⟨fuel,hf⟩:=h0
  rcases open_ints Tryz.underlying22 Tryz.underlying3 (by kernel_rfl) hf with ⟨hcs,_⟩ | ⟨x,l,c,zs,hcs,_,hl,hm,hz,_,hcell,hwz⟩
  ·simp [Value.cells] at hcs
   obtain ⟨rfl,rfl,rfl⟩:=hcs
   exact ⟨[],Am.DR.of_row (.inl rfl) (Nat.zero_le _) (fun hne=>absurd rfl hne)⟩
  ·simp [Value.cells] at hcs
   obtain ⟨rfl,rfl,rfl⟩:=hcs
   have hsp:x.spot = none:=by
    simp only [Value.okWide,Tryz.underlying22,Cell.okWide,Cell.ok] at hv0
    exact hv0.2.2.2.1
   exact ⟨_,rep hsp hl (by simpa using hz) hcell⟩
 obtain ⟨l,hd⟩:=key
 refine (walk W hamb _ l hd).mono fun e W' ⟨he,bel⟩=>?_
 subst he
 exact ⟨_,rfl,_,_,_,[],_,[],hW',trodAll_mk1 (shut_bool Tryz.underlying4 _),trodAll_cons_mk (Below.trod yx5y (by kernel_rfl) (of_decide_eq_true (by kernel_rfl)) k0 bel lt0) trodAll_mk0,rfl,bel.frame _,fun h=>by cases h⟩
def yBOy:DataW Unit→List Value
 | .lit (.int k n)=>[.int k n]
 | _=>[]
def yIYy:DataW Unit→List Value
 | .agg ps=>ps.flatMap yBOy
 | x=>yBOy x
def fillB (cs:List Value):Obj→Obj
 | .cells _ t frozen=>.cells cs.toArray t frozen
 | o=>o
noncomputable def ym3y (os:Os):World :=
 { World.doorLaid Tryz.prog 120 os with heap:=(World.doorLaid Tryz.prog 120 os).heap.modify 4 (fillB (yIYy Rows.laid_unicode_utf8_first)) }
theorem yDIy (os:Os):laidMetH Tryz.prog Rows.deedTextsRow.laid ((ym3y os).forCall (fun _ _=>0) ⟨#[],#[.slice none 0 0],[]⟩).memory :=
 laidMet_of_run' 8 (by kernel_rfl) (by kernel_rfl)
theorem reads (os:Os) {H:Type} (enc:TypeId×Value→H):∃ places,DataW.whole enc Tryz.prog ((ym3y os).forCall (fun _ _=>0) ⟨#[],#[.slice none 0 0],[]⟩).memory Tryz.f6.params.toList Rows.deedTextsSpec.vars false #[Value.slice none 0 0].toList 8 = some ([.nil],[],places) :=
 ⟨[],by kernel_rfl⟩
theorem yJAy (os:Os) (started:os.Started) (H:Type) (enc:TypeId×Value→H) (F:Stop.Interp) :
  ReturnsInHanded {} Tryz.checked os 6 .any ((OpenSpec.ofChange Rows.deedTextsSpec).preRow enc Tryz.prog Tryz.f6 Rows.deedTextsRow.domain false Rows.deedTextsRow.laid) (((OpenSpec.ofChange Rows.deedTextsSpec).at F).post enc Tryz.prog Tryz.f6 false true false false):=by
 obtain ⟨places,hx⟩:=reads os enc
 refine returnsInHanded_of_row (C:=Tryz.checked) (s:=OpenSpec.ofChange Rows.deedTextsSpec) own started (by kernel_rfl) Tryz.func6
  (witness_row_at (enc:=enc) (C:=Tryz.checked) false (ym3y os) #[.slice none 0 0] rfl (by kernel_rfl) (by kernel_rfl) (by kernel_rfl)
   (OpenSpec.preRow_of_cond 8 hx (by kernel_rfl) (fun k hk=>by cases hk) (by kernel_rfl) (yDIy os))) ?_
 intro W base args ds gs before hval hW _ _ _ hL _ _
 exact yEry H enc W (ambOf W hL) base args ds gs before hval hW
theorem j1:(Rows.deedTextsRow.inPlace == Tryz.prog.inPlace 6) = true:=by kernel_rfl
theorem j2:(Rows.deedTextsRow.unfollowed == Tryz.prog.unfollowed 6) = true:=by kernel_rfl
theorem j3:(Rows.deedTextsRow.recurses == Tryz.prog.recurses 6) = true:=by kernel_rfl
theorem j4:(Rows.deedTextsRow.named == Tryz.prog.varsNamed 6) = true:=by kernel_rfl
theorem j5:mapsRowed Tryz.prog = true:=by kernel_rfl
theorem j6:(Rows.deedTextsRow.plainKeys == Tryz.prog.plainKeys) = true:=by kernel_rfl
theorem closed:joinedFacts Tryz.prog 6 Tryz.f6 (OpenSpec.ofChange Rows.deedTextsSpec).bare Rows.deedTextsRow = true:=by
 unfold joinedFacts
 rw [j1,j2,j3,j4,j5,j6,yx5y]
 kernel_rfl
theorem said:Rows.DeedTextsSaid :=
 OpenClaim.holds_of_cond 6 Tryz.f6 rfl rfl rfl rfl rfl rfl rfl ⟨rfl,rfl,rfl,rfl,rfl⟩ rfl rfl rfl rfl rfl (by kernel_rfl) Tryz.func6 closed
  (of_decide_eq_true (by kernel_rfl)) (by unfold Func.isWrapper;first | (rw [if_pos (by decide +kernel)];kernel_rfl) | (rw [if_neg (by decide +kernel)];exact ⟨rfl,rfl⟩))
  (fun os started H enc _ F=>by rw [OpenClaim.pre_eq_preRow];exact yJAy os started H enc F)
theorem plain (f:FuncId) (fn:Func) (hf:Tryz.pinned.checked.prog.funcNamed Rows.deedTextsRow.func = some f) (hfn:Tryz.pinned.checked.prog.funcs[f]? = some fn) :
  true = Tryz.pinned.checked.prog.looks []∧∀ (j:Nat) t,fn.params[j]? = some t→Tryz.pinned.checked.prog.wantsStandIn t = false:=by
 obtain rfl:f = 6:=Option.some.inj ((show Tryz.prog.funcNamed Rows.deedTextsRow.func = some 6 by kernel_rfl).symm.trans hf) |>.symm
 obtain rfl:fn = Tryz.f6:=(Option.some.inj (Tryz.func6.symm.trans hfn)).symm
 refine ⟨by kernel_rfl,fun j t ht=>?_⟩
 rw [Tryz.params6] at ht
 obtain rfl:t = 22:=by simpa using Array.mem_of_getElem? ht
 exact (show Tryz.prog.wantsStandIn 22 = false by kernel_rfl)
theorem card:Rows.DeedTextsCardSaid :=
 Claim7.holds_tied_plain_at .later [] _ _ _ _ said (fun _ h=>by cases h) (by kernel_rfl) (fun _ h=>by cases h) deedTexts_row_tie rfl ⟨rfl,rfl⟩ (by kernel_rfl) rfl plain (by kernel_rfl)
#print axioms card
end Go.Proofs.YtoajjnhmofegcaaGreatDoor.deedTexts
