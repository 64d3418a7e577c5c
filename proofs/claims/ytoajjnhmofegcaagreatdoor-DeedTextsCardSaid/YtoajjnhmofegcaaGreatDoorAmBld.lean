/- Part of an abstract machine for this program, with its soundness: AmBld. No condition: lemmas for the claim. -/
import Derived.Test.YtoajjnhmofegcaaGreatDoorAmExt2
import Derived.Shelf.Strings.Builder1
import Derived.Shelf.Strings.OnBuilder
import Derived.Shelf.Strings.Count
import Derived.Shelf.Strconv.Atoi
import Derived.Lib.SmallJoins
set_option linter.unusedVariables false
set_option linter.unusedSimpArgs false
namespace Go.Am
open Go Go.Proofs Go.RowKit Go.Shelf
variable {A:Nat→Type} {P:Program} {T:Ty A} {f:Nat} {ρ:Ren}
theorem Bld.is {w:World} {tb te b:Nat} {p v:Value} {s:List UInt8} (h:Bld w tb te b p v s):Lib.IsBuilder tb te 0 b (Lib.byteCells s) w:=by
 have hb:Lib.BuilderAt tb te 0 b p (Lib.byteCells s) w:=⟨Nat.zero_le _,v,h.blk,by rw [Lib.byteCells_length];exact h.row,h.ne⟩
 rcases h.own with e | e
 ·exact .inl (e ▸ hb)
 ·exact .inr (e ▸ hb)
theorem BldSame.refl {w:World} {b:Nat} {v:Value}:BldSame w w b v false:=⟨rfl,rfl,fun h=>(by cases h),rfl,Nat.le_refl _,fun _ _ _ _=>rfl⟩
theorem ywny {w:World} {b:Nat} {c:Array Value} {ty:TypeId} {fz:Nat×Nat} (h:w.heap[b]? = some (.cells c ty fz)) (j:Nat) (q:Value):(w.setCell ⟨b,j,none⟩ q).heap[b]? = some (.cells (c.setIfInBounds j q) ty fz):=by
 simp [World.setCell,Array.getElem?_modify,h]
theorem yyMy {w:World} {b:Nat} {v:Value} (j:Nat) (q:Value):BldSame w (w.setCell ⟨b,j,none⟩ q) b v false :=
 ⟨rfl,rfl,fun h=>(by cases h),rfl,by simp [World.setCell],fun k _ hk _=>Below.heap_setCell _ _ _ _ (fun e=>hk e)⟩
theorem yBay (L:Lays.n240 P ρ) (X:Builder.X72 P ρ) {te b:Nat} {p v:Value} {s:List UInt8} {w:World} (h:Bld w (ρ.t 72) te b p v s) :
  Calls P (ρ.f 240) #[.pointer (some ⟨b,0,none⟩)] w fun e w'=>e = .returned (.tuple #[])∧Bld w' (ρ.t 72) te b (.pointer (some ⟨b,0,none⟩)) v s∧BldSame w w' b v false:=by
 rcases h.own with rfl | rfl
 ·refine (Any.Builder_copyCheck_fresh L X b w (by rw [Lib.cell_of_heap h.blk];rfl) (by simp [World.shape?,h.blk]) (by simp [World.frozen?,h.blk])).mono ?_
  rintro e w' ⟨rfl,rfl⟩
  refine ⟨rfl,⟨ywny h.blk 0 _,.inr rfl,h.row.kept (row:=some b) ⟨rfl,rfl,rfl,by simp [World.setCell],fun k _ hk=>Below.heap_setCell _ _ _ _ (fun e=>hk (by simp [e]))⟩ (.inr h.ne),h.ne,h.nil⟩,yyMy 0 _⟩
 ·refine (Any.Builder_copyCheck_used L X b w (by rw [Lib.cell_of_heap h.blk];rfl)).mono ?_
  rintro e w' ⟨rfl,rfl⟩
  exact ⟨rfl,h,BldSame.refl⟩
theorem yBBy (w:World) {t u ty e:TypeId} {i:TypeInfo} (ht:P.underlying t = some (.slice e)) (hu:P.underlying u = some .string) (hi:P.info? e = some i) (hz:i.zero = some (.int .u8 0)) (hsize:i.size = 1) (hby:i.bytes = 1)
  {v:Value} {n:Nat} {xs:List Value} (hown:w.ownsRow 0 e 1 v n xs) (s:ByteArray) (hb:n + s.size≤140737488355328) {v':Value} {w':World} (hr:(Builtin.append_ #[t,u] ty #[v,.string s]).run P w = .ok v' w') :
  v'.ownBlock = v.ownBlock ∨ v'.ownBlock = some w.heap.size:=by
 rcases hown.2 with ⟨rfl,rfl⟩ | ⟨g,cap,cur,rfl,hbg,hg,hnc,hcm,hcs,htake⟩
 ·by_cases h0:s.size = 0
  ·have hf:=Lib.run_firstCells_string (P:=P) w 1 s
   rw [h0] at hf
   have hn:(Builtin.append_ #[t,u] ty #[.slice none 0 0,.string s]).run P w = .ok (.slice none 0 0) w:=by
    have hs:Lib.strCells s = []:=List.eq_nil_of_length_eq_zero (by rw [Lib.strCells_length];exact h0)
    rw [hs] at hf
    simp [Builtin.append_,run_underlying ht,run_underlying hu,sizeOf,typeInfo,hi,hsize,Builtin.lenOf,h0,hf]
   rw [hn] at hr
   cases hr
   exact .inl rfl
  ·rw [run_append_nil_string (P:=P) w t u ty e i (.int .u8 0) ht hu hi hz s (by omega) (by omega) (by rw [hby];omega)] at hr
   cases hr
   exact .inr rfl
 ·by_cases hroom:n + s.size≤cap
  ·rw [Lib.run_append_room_string (P:=P) w t u ty e i ht hu hi hsize g n cap cur hg s hroom (by omega)] at hr
   cases hr
   exact .inl rfl
  ·have holds:∀ j u,xs[j]? = some u→w.cell? ((⟨g,0,none⟩:Addr).add j) = some u:=hown.cells (g:=g) rfl
   rw [Lib.run_append_grow_string (P:=P) w t u ty e i (.int .u8 0) ht hu hi hz ⟨g,0,none⟩ n cap xs (by rw [hsize,Nat.mul_one];have:=hown.1;omega) holds s (by omega) (by omega) (by rw [hby];exact growslice_fits (by omega) (by omega))] at hr
   cases hr
   exact .inr rfl
theorem wpApp {ops:Array Oper} {rest:List Oper} {o:Oper} {a:Act} {w:World} {Q:Exit→Act→World→Prop} (hgd:o.guard = none) (sl x:Operand) (t u:TypeId)
  (ho:o.op = .call { callee:=.builtin .append,args:=#[sl,x],argTypes:=#[t,u] }) (e:TypeId) (i:TypeInfo) (ht:P.underlying t = some (.slice e)) (hu:P.underlying u = some .string) (hi:P.info? e = some i)
  (hz:i.zero = some (.int .u8 0)) (hsize:i.size = 1) (hby:i.bytes = 1) (v:Value) (n:Nat) (xs:List Value) (hs:a.eval sl = v) (hown:w.ownsRow 0 e 1 v n xs) (s:ByteArray) (hx:a.eval x = .string s)
  (hb:n + s.size≤140737488355328)
  (h:∀ v' w',w'.ownsRow 0 e 1 v' (n + s.size) (xs++Lib.strCells s)→w.grownBy w' v.ownBlock→(v' = .slice none 0 0 ↔ v = .slice none 0 0∧s.size = 0)→(v'.ownBlock = v.ownBlock ∨ v'.ownBlock = some w.heap.size)→wpList P ops Q rest (a.put o.dst v') w') :
  wpList P ops Q (o::rest) a w:=by
 refine wpList_plain hgd fun K hK=>?_
 obtain ⟨v',w',hr,h2,h3,h4⟩:=Lib.run_append_own_string (P:=P) w 0 t u o.type e i ht hu hi hz hsize hby v n xs hown s (by unfold maxLen;omega) hb (Nat.zero_le _)
 have h5:=yBBy w ht hu hi hz hsize hby hown s hb hr
 unfold Oper.wp execOp
 simp only [ho,resolve,invoke,builtin,Sem.run_bind,Sem.run_pure,Result.andThen_ok,List.map_toArray,List.map_cons,List.map_nil,hs,hx,hr]
 exact hK _ _ (h v' w' h2 h3 h4 h5)
set_option maxHeartbeats 2000000 in
set_option maxRecDepth 100000 in
theorem yCsy (L:Lays.n166 P ρ) (X:Builder.Extra P ρ) (w:World) (b:Nat) (p v:Value) (s0 s:List UInt8) (h:Bld w (ρ.t 72) (ρ.t 5) b p v s0) (hlen:s0.length + s.length≤140737488355328) :
  Calls P (ρ.f 166) #[.pointer (some ⟨b,0,none⟩),.string ⟨⟨s⟩⟩] w fun e w'=>e = .returned (.tuple #[.int .i64 s.length,.nilIface]) ∧
   ∃ p' v',Bld w' (ρ.t 72) (ρ.t 5) b p' v' (s0++s)∧(∀ g,v'.ownBlock = some g→v.ownBlock = some g ∨ w.heap.size≤g)∧BldSame w w' b v false:=by
 obtain ⟨i0,hi,hz0,hz1,hz2⟩:=info_parts X.infoByte
 have mixed:=L.mixed
 have t72:=L.t72;have a72:=L.a72;have z72:=L.z72;have v72:=L.v72;have u72:=run_underlying L.t72
 have t70:=L.t70;have a70:=L.a70;have z70:=L.z70;have v70:=L.v70;have u70:=run_underlying L.t70
 have t37:=L.t37;have a37:=L.a37;have z37:=L.z37;have v37:=L.v37;have u37:=run_underlying L.t37
 have t3:=L.t3;have a3:=L.a3;have z3:=L.z3;have v3:=L.v3;have u3:=run_underlying L.t3
 have t9:=L.t9;have a9:=L.a9;have z9:=L.z9;have v9:=L.v9;have u9:=run_underlying L.t9
 have t4:=L.t4;have a4:=L.a4;have z4:=L.z4;have v4:=L.v4;have u4:=run_underlying L.t4
 have t164:=L.t164;have a164:=L.a164;have z164:=L.z164;have v164:=L.v164;have u164:=run_underlying L.t164
 have t5:=X.t5;have a5:=X.a5;have z5:=X.z5;have v5:=X.v5;have u5:=run_underlying X.t5
 have e240:∀ args w,(callFunc (ρ.f 240) args).run P w = .ok (.enter (ρ.f 240) args) w:=enters_of L.f240 (by kernel_rfl) rfl
 go_enter L.f166,Body.n166_ntmps ρ
 go_wp2_with (go_at_fn (ρ.f 240);refine (yBay { L with } X.toX72 h).mono ?_)
 rintro e w1 ⟨rfl,h1,k1⟩
 have c0:w1.cell? ⟨b,0,none⟩ = some (.pointer (some ⟨b,0,none⟩)):=by rw [Lib.cell_of_heap h1.blk];rfl
 have c1:w1.cell? ⟨b,1,none⟩ = some v:=by rw [Lib.cell_of_heap h1.blk];rfl
 go_wp2_with (at_builtin;refine wpApp rfl _ _ (ρ.t 37) (ρ.t 9) rfl (ρ.t 5) i0 L.t37 L.t9 hi hz0 hz1 hz2 _ _ _ rfl h1.row ⟨⟨s⟩⟩ rfl hlen ?_)
 intro v' w2 hown' hgrow hnil hblk
 have hlt:b < w1.heap.size:=by
  rcases Nat.lt_or_ge b w1.heap.size with h' | h'
  ·exact h'
  ·have:=h1.blk;simp [Array.getElem?_eq_none h'] at this
 have hb2:w2.heap[b]? = some (.cells #[.pointer (some ⟨b,0,none⟩),v] (ρ.t 72) (0,0)):=by
  rw [hgrow.block b hlt (fun e=>h1.ne e.symm)]
  exact h1.blk
 have d0:w2.cell? ⟨b,0,none⟩ = some (.pointer (some ⟨b,0,none⟩)):=by rw [Lib.cell_of_heap hb2];rfl
 have d1:w2.cell? ⟨b,1,none⟩ = some v:=by rw [Lib.cell_of_heap hb2];rfl
 have f1:w2.frozen? ⟨b,1,none⟩ = false:=Lib.frozen_of_heap hb2 1
 obtain ⟨ao,n',cap,rfl⟩:∃ ao n' cap,v' = .slice ao n' cap:=by
  rcases hown'.2 with ⟨hv,_⟩ | ⟨g,cap,cur,hv,_⟩
  ·exact ⟨_,_,_,hv⟩
  ·exact ⟨_,_,_,hv⟩
 go_wp2
 go_ret2
 have hne':Value.ownBlock (.slice ao n' cap)≠some b:=by
  rcases hblk with e | e
  ·rw [e];exact h1.ne
  ·rw [e];intro hh;have:=Option.some.inj hh;omega
 refine ⟨rfl,_,.slice ao n' cap,⟨ywny hb2 1 _,.inr rfl,?_,hne',fun hs=>?_⟩,fun g hg=>?_,?_⟩
 ·have:=hown'.kept (row:=some b) (w':=w2.setCell ⟨b,1,none⟩ (.slice ao n' cap)) ⟨rfl,rfl,rfl,by simp [World.setCell],fun k _ hk=>Below.heap_setCell _ _ _ _ (fun e=>hk (by simp [e]))⟩ (.inr hne')
  rw [Lib.strCells_eq] at this
  rw [Lib.byteCells_append,List.length_append]
  exact this
 ·obtain ⟨rfl,rfl⟩:=List.append_eq_nil_iff.1 hs
  exact hnil.2 ⟨h1.nil rfl,rfl⟩
 ·rcases hblk with e | e
  ·exact .inl (e ▸ hg)
  ·rw [e] at hg
   have:=Option.some.inj hg
   exact .inr (by have:=k1.size;omega)
 ·refine ⟨hgrow.os.trans k1.os,hgrow.tape.trans k1.tape,fun h=>(by cases h),hgrow.output.trans k1.output,?_,fun k hk hkb hkv=>?_⟩
  ·have:=k1.size;have:=hgrow.size;simp [World.setCell];omega
  ·rw [(yyMy (v:=v) 1 _).block k (Nat.lt_of_lt_of_le hk (Nat.le_trans k1.size hgrow.size)) hkb hkv,hgrow.block k (Nat.lt_of_lt_of_le hk k1.size) (fun e=>hkv e.symm)]
   exact k1.block k hk hkb hkv
theorem yG8y (L:Lays.n170 P ρ) (w:World) (b te:Nat) (p v:Value) (s:List UInt8) (h:Bld w (ρ.t 72) (ρ.t 5) b p v s) :
  Calls P (ρ.f 170) #[.pointer (some ⟨b,0,none⟩)] w fun e w'=>e = .returned (.int .i64 s.length)∧w' = w:=by
 have:=Any.Builder_Len L 0 b (Lib.byteCells s) w h.is
 rw [Lib.byteCells_length] at this
 exact this
theorem ywzy {w:World} {b g m:Nat} {v:Value} (hv:v.ownBlock = some g):BldSame w (w.drew.freeze ⟨g,0,none⟩ m) b v false:=by
 unfold World.freeze
 split
 ·exact ⟨rfl,rfl,fun h=>(by cases h),rfl,Nat.le_refl _,fun _ _ _ _=>rfl⟩
 ·refine ⟨rfl,rfl,fun h=>(by cases h),rfl,by simp,fun k _ _ hk=>?_⟩
  simp only [Array.getElem?_modify]
  rw [if_neg (fun e=>hk (by rw [hv,e]))]
  rfl
set_option maxHeartbeats 2000000 in
set_option maxRecDepth 100000 in
theorem yEMy (L:Lays.n169 P ρ) (X:Builder.Extra P ρ) (w:World) (b:Nat) (p v:Value) (s:List UInt8) (h:Bld w (ρ.t 72) (ρ.t 5) b p v s) :
  Calls P (ρ.f 169) #[.pointer (some ⟨b,0,none⟩)] w fun e w'=>e = .returned (.string ⟨⟨s⟩⟩)∧BldSame w w' b v false:=by
 have mixed:=L.mixed
 have t72:=L.t72;have a72:=L.a72;have z72:=L.z72;have v72:=L.v72;have u72:=run_underlying L.t72
 have t70:=L.t70;have a70:=L.a70;have z70:=L.z70;have v70:=L.v70;have u70:=run_underlying L.t70
 have t37:=L.t37;have a37:=L.a37;have z37:=L.z37;have v37:=L.v37;have u37:=run_underlying L.t37
 have t127:=L.t127;have a127:=L.a127;have z127:=L.z127;have v127:=L.v127;have u127:=run_underlying L.t127
 have t3:=L.t3;have a3:=L.a3;have z3:=L.z3;have v3:=L.v3;have u3:=run_underlying L.t3
 have t9:=L.t9;have a9:=L.a9;have z9:=L.z9;have v9:=L.v9;have u9:=run_underlying L.t9
 have t5:=X.t5;have a5:=X.a5;have z5:=X.z5;have v5:=X.v5;have u5:=run_underlying X.t5
 by_cases h0:s = []
 ·subst h0
  have hv:=h.nil rfl
  subst hv
  have hUS:=Any.unsafeString_none L X
  have c1:w.drew.cell? ⟨b,1,none⟩ = some (.slice none 0 0):=by
   have:w.drew.heap[b]? = some (.cells #[p,.slice none 0 0] (ρ.t 72) (0,0)):=h.blk
   rw [Lib.cell_of_heap this];rfl
  have hSD:(Builtin.unsafeSliceData_ #[(ρ.t 37)] (ρ.t 127) #[.slice none 0 0]).run P w.drew = .ok (.pointer none) w.drew:=rfl
  go_enter L.f169,Body.n169_ntmps ρ
  go_wp2
  go_region_o
  all_goals (go_wp2;go_ret;exact ⟨rfl,⟨rfl,rfl,fun h=>(by cases h),rfl,Nat.le_refl _,fun _ _ _ _=>rfl⟩⟩)
 ·have hl0:s.length≠0:=by simpa using h0
  obtain ⟨g,cap,cur,hv,_,hg,hnc,hcm,hcs,htake⟩:∃ g cap cur,v = .slice (some ⟨g,0,none⟩) s.length cap∧0≤g∧w.heap[g]? = some (.cells cur (ρ.t 5) (0,0))∧s.length≤cap∧cap≤maxLen∧cur.size = cap * 1∧cur.toList.take (s.length * 1) = Lib.byteCells s:=by
   rcases h.row.2 with ⟨_,hz⟩ | ⟨g,cap,cur,hv,r⟩
   ·exact absurd hz hl0
   ·exact ⟨g,cap,cur,hv,r⟩
  subst hv
  have c1:w.drew.cell? ⟨b,1,none⟩ = some (.slice (some ⟨g,0,none⟩) s.length cap):=by
   have:w.drew.heap[b]? = some (.cells #[p,.slice (some ⟨g,0,none⟩) s.length cap] (ρ.t 72) (0,0)):=h.blk
   rw [Lib.cell_of_heap this];rfl
  have hSD:(Builtin.unsafeSliceData_ #[(ρ.t 37)] (ρ.t 127) #[.slice (some ⟨g,0,none⟩) s.length cap]).run P w.drew = .ok (.pointer (some ⟨g,0,none⟩)) w.drew :=
   Lib.run_unsafeSliceData_row _ _ _ _ _ _ (by omega)
  have hUS:(Builtin.unsafeString_ #[(ρ.t 127),(ρ.t 3)] (ρ.t 9) #[.pointer (some ⟨g,0,none⟩),.int .i64 s.length]).run P w.drew = .ok (.string ⟨s.toArray⟩) (w.drew.freeze ⟨g,0,none⟩ s.length):=by
   refine Lib.run_unsafeString_row w.drew (ρ.t 127) (ρ.t 3) (ρ.t 9) (ρ.t 5) L.t127 X.cellsByte g cur.size (by have hg':w.drew.heap[g]? = some (.cells cur (ρ.t 5) (0,0)):=hg;simp [World.shape?,hg']) s h0 (by omega) (by unfold maxLen at hcm;omega) ?_
   intro j x hx
   exact h.row.cells (g:=g) rfl j (.int .u8 x.toNat) (by simp [Lib.byteCells,hx])
  go_enter L.f169,Body.n169_ntmps ρ
  go_wp2
  go_region_o
  all_goals (go_wp2;go_ret;exact ⟨rfl,ywzy rfl⟩)
theorem spBwr (L:Lays.n166 P ρ) (X:Builder.Extra P ρ) (hT:T.bld = some (ρ.t 72,ρ.t 5)) (hd:T.dr = false) (hf:f = ρ.f 166) (hen:ybEy P f):SpOk P T f .bwr:=by
 subst hf
 refine ⟨hen,fun w tb te b p v s0 s h hB hl=>?_⟩
 rw [hT] at h
 cases h
 rw [hd]
 exact yCsy L X w b p v s0 s hB hl
theorem spBln (L:Lays.n170 P ρ) (X:Builder.Extra P ρ) (hT:T.bld = some (ρ.t 72,ρ.t 5)) (hf:f = ρ.f 170) (hen:ybEy P f):SpOk P T f .bln:=by
 subst hf
 refine ⟨hen,fun w tb te b p v s h hB=>?_⟩
 rw [hT] at h
 cases h
 exact yG8y L w b 0 p v s hB
theorem spBst (L:Lays.n169 P ρ) (X:Builder.Extra P ρ) (hT:T.bld = some (ρ.t 72,ρ.t 5)) (hd:T.dr = false) (hf:f = ρ.f 169) (hen:ybEy P f):SpOk P T f .bst:=by
 subst hf
 refine ⟨hen,fun w tb te b p v s h hB=>?_⟩
 rw [hT] at h
 cases h
 rw [hd]
 exact yEMy L X w b p v s hB
end Go.Am
set_option linter.unusedVariables false
set_option linter.unusedSimpArgs false
namespace Go.Am
open Go Go.Proofs Go.RowKit
variable {A:Nat→Type} {P:Program} {T:Ty A} {f:Nat}
def ymRy (args:List (IV A)):Option (Bool×IV A×List (IV A)):=match args with
 | [.d (.str a),.d (.str b)]=>some (b.length == 1,.d (.int .i64 (Lib.countByte a (one0 b))),[.undef,.undef])
 | _=>none
theorem yAoy (h:∀ (s:ByteArray) (c:UInt8) (w:World),Calls P f #[.string s,.string ⟨#[c]⟩] w fun e w'=>e = .returned (.int .i64 (Lib.countByte s.data.toList c))∧w' = w):yany P T f (ofP ymRy):=by
 refine ydey fun args r ys hp=>?_
 unfold ymRy at hp
 split at hp
 ·rename_i a b
  simp only [Option.some.injEq,Prod.mk.injEq,beq_iff_eq] at hp
  obtain ⟨h0,rfl,rfl⟩:=hp
  obtain ⟨c,rfl⟩:∃ c,b = [c]:=by
   cases b with
   | nil=>cases h0
   | cons c r=>cases r with
    | nil=>exact ⟨c,rfl⟩
    | cons _ _=>simp at h0
  refine ⟨rfl,fun w vs F av hr=>?_⟩
  obtain rfl:=yhXy hr
  refine (h ⟨⟨a⟩⟩ c w).mono ?_
  rintro e w' ⟨rfl,rfl⟩
  exact ⟨_,rfl,fun w av=>by simp only [RIV,DR.int];exact ⟨trivial,rfl⟩,Below.refl _ _,fun _=>Nat.le_refl _⟩
 ·cases hp
def yqey (a b:List UInt8) {R:Type} (k0:Int→Option R):Option R:=bif b.length == 1 then k0 (Lib.countByte a (one0 b)) else none
def yisy (g:List UInt8→List UInt8→{R:Type}→(Int→Option R)→Option R):Spec A:=fun args _ k=>match args with | [.d (.str a),.d (.str b)]=>g a b (fun z=>k (.d (.int .i64 z)) [.undef,.undef]) | _=>none
theorem yoYy:∀ args (R:Type) (k:IV A→List (IV A)→Option R),yisy @yqey args k = ofP ymRy args k:=by
 intro args R k
 unfold yisy ofP ymRy
 split
 ·rfl
 ·rename_i h
  split
  ·rename_i heq
   cases heq
  ·rfl
theorem yvzy:yaIy (yisy (A:=A) @yqey):=fun args R k=>by
 rw [yoYy,yoYy]
 exact yeXy _ args R k
theorem yrvy (h:yany P T f (ofP ymRy)):yany P T f (yisy @yqey):=fun args R k res hk=>h args R k res (by rw [← yoYy];exact hk)
def ymoy (args:List (IV A)):Option (Bool×IV A×List (IV A)):=match args with
 | [.d (.str a)]=>some (decide (a.length≤18)&&(Lib.atoi a).isSome,.tup [.d (.int .i64 ((Lib.atoi a).getD 0)),.d .nilif],[.undef])
 | _=>none
theorem yAgy (hn:T.dr = false) (h:∀ (s:ByteArray) (n:Int) (w:World),s.size≤18→Lib.atoi s.data.toList = some n→Calls P f #[.string s] w fun e w'=>e = .returned (.tuple #[.int .i64 n,.nilIface])∧∃ te t,w' = Lib.bytesWorld w te t):yany P T f (ofP ymoy):=by
 refine ydey fun args r ys hp=>?_
 unfold ymoy at hp
 split at hp
 ·rename_i a
  simp only [Option.some.injEq,Prod.mk.injEq,Bool.and_eq_true,decide_eq_true_eq] at hp
  obtain ⟨⟨h0,h1⟩,rfl,rfl⟩:=hp
  obtain ⟨n,hn1⟩:=Option.isSome_iff_exists.1 h1
  refine ⟨rfl,fun w vs F av hr=>?_⟩
  simp only [RIVs,RIV,DR.str] at hr
  obtain ⟨v,vs',F1,F2,rfl,rfl,⟨rfl,rfl⟩,rfl,rfl⟩:=hr
  refine (h ⟨⟨a⟩⟩ n w h0 hn1).mono ?_
  rintro e w' ⟨rfl,te,t,rfl⟩
  refine ⟨_,rfl,fun w av=>?_,Go.Joins.below_bytesWorld _ w te t (Nat.le_refl _),fun hd=>by rw [hn] at hd;cases hd⟩
  simp only [RIV,RIVs,DR.int,DR.nilif,hn1,Option.getD_some]
  exact ⟨_,rfl,_,_,[],[],rfl,rfl,⟨rfl,rfl⟩,_,_,[],[],rfl,rfl,⟨rfl,rfl⟩,rfl,rfl⟩
 ·cases hp
def yqBy (a:List UInt8) {R:Type} (k0:Int→Option R):Option R:=bif decide (a.length≤18)&&(Lib.atoi a).isSome then k0 ((Lib.atoi a).getD 0) else none
def yh4y (g:List UInt8→{R:Type}→(Int→Option R)→Option R):Spec A:=fun args _ k=>match args with | [.d (.str a)]=>g a (fun z=>k (.tup [.d (.int .i64 z),.d .nilif]) [.undef]) | _=>none
theorem yo3y:∀ args (R:Type) (k:IV A→List (IV A)→Option R),yh4y @yqBy args k = ofP ymoy args k:=by
 intro args R k
 unfold yh4y ofP ymoy
 split
 ·rfl
 ·rename_i h
  split
  ·rename_i heq
   cases heq
  ·rfl
theorem yuYy:yaIy (yh4y (A:=A) @yqBy):=fun args R k=>by
 rw [yo3y,yo3y]
 exact yeXy _ args R k
theorem yrLy (h:yany P T f (ofP ymoy)):yany P T f (yh4y @yqBy):=fun args R k res hk=>h args R k res (by rw [← yo3y];exact hk)
def lastAny:List UInt8→List UInt8→Int
 | [],_=>-1
 | x::l,cs=>if lastAny l cs == -1 then (if cs.contains x then 0 else -1) else lastAny l cs + 1
theorem lastAny_none (cs:List UInt8):∀ l,(∀ x∈l,cs.contains x = false)→lastAny l cs = -1
 | [],_=>rfl
 | x::l,h=>by
  unfold lastAny
  rw [lastAny_none cs l (fun y hy=>h y (by simp [hy])),h x (by simp)]
  rfl
theorem lastAny_hit (cs:List UInt8):∀ (l:List UInt8) (i:Nat) (x:UInt8),l[i]? = some x→cs.contains x = true→(∀ (j:Nat) y,i < j→l[j]? = some y→cs.contains y = false)→lastAny l cs = i
 | [],i,x,h,_,_=>by simp at h
 | z::l,0,x,h,hc,hn=>by
  simp only [List.getElem?_cons_zero,Option.some.injEq] at h
  subst h
  unfold lastAny
  rw [lastAny_none cs l (fun y hy=>by
   obtain ⟨j,hj⟩:=List.getElem?_of_mem hy
   exact hn (j + 1) y (by omega) (by simpa using hj)),hc]
  rfl
 | z::l,i + 1,x,h,hc,hn=>by
  have ih:=lastAny_hit cs l i x (by simpa using h) hc (fun j y hj hy=>hn (j + 1) y (by omega) (by simpa using hy))
  unfold lastAny
  rw [ih]
  have:((i:Int) == -1) = false:=by rw [beq_eq_false_iff_ne];omega
  rw [this]
  simp
def longB (a b:List UInt8):Bool:=decide (2≤b.length)&&(decide (a.length < 4294967281)&&(decide (b.length < 4294967281)&&ydjy b))
def P_lia (args:List (IV A)):Option (Bool×IV A×List (IV A)):=match args with
 | [.d (.str a),.d (.str b)]=>some (decide (8 < a.length)&&longB a b,.d (.int .i64 (lastAny a b)),[.undef,.undef])
 | _=>none
theorem yBYy (hn:T.dr = false) (h:∀ (s chars:ByteArray) (w:World),2≤chars.size→8 < s.size→s.size < 4294967281→chars.size < 4294967281→(∀ (j:Nat) b,chars.data.toList[j]? = some b→b.toNat < 128) →
  Calls P f #[.string s,.string chars] w fun e w'=>e = .returned (.int .i64 (lastAny s.data.toList chars.data.toList))∧∃ c1 c2 t1 t2,w' = (w.alloc (.cells c1 t1)).alloc (.cells c2 t2)):yany P T f (ofP P_lia):=by
 refine ydey fun args r ys hp=>?_
 unfold P_lia at hp
 split at hp
 ·rename_i a b
  simp only [longB,Option.some.injEq,Prod.mk.injEq,Bool.and_eq_true,decide_eq_true_eq] at hp
  obtain ⟨⟨h8,h2,h3,h4,h5⟩,rfl,rfl⟩:=hp
  refine ⟨rfl,fun w vs F av hr=>?_⟩
  obtain rfl:=yhXy hr
  refine (h ⟨⟨a⟩⟩ ⟨⟨b⟩⟩ w h2 h8 h3 h4 (fun j x hx=>?_)).mono ?_
  ·have:=List.all_eq_true.1 h5 x (List.mem_of_getElem? hx)
   simpa using this
  ·rintro e w' ⟨rfl,c1,c2,t1,t2,rfl⟩
   exact ⟨_,rfl,fun w av=>by simp only [RIV,DR.int];exact ⟨trivial,trivial⟩,((Below.refl _ w).alloc (Nat.le_refl _) _).alloc (by simp) _,fun hd=>by rw [hn] at hd;cases hd⟩
 ·cases hp
def X_lia (g:List UInt8→List UInt8→{R:Type}→(Int→Option R)→Option R) (a b:List UInt8) {R:Type} (k0:Int→Option R):Option R :=
 bif decide (8 < a.length) then (bif longB a b then k0 (lastAny a b) else none) else g a b k0
def yjCy (g:List UInt8→List UInt8→{R:Type}→(Int→Option R)→Option R):Spec A:=fun args _ k=>match args with | [.d (.str a),.d (.str b)]=>g a b (fun z=>k (.d (.int .i64 z)) [.undef,.undef]) | _=>none
theorem yJiy (h:yany P T f (ofP P_lia)) {S0:Spec A} (h0:yany P T f S0) {g:List UInt8→List UInt8→{R:Type}→(Int→Option R)→Option R}
  (hS0:∀ (a b:List UInt8) (R:Type) (k:IV A→List (IV A)→Option R),S0 [.d (.str a),.d (.str b)] k = g a b (fun z=>k (.d (.int .i64 z)) [.undef,.undef])):yany P T f (yjCy (X_lia @g)):=by
 intro args R k res hk
 unfold yjCy at hk
 split at hk
 ·rename_i a b
  unfold X_lia at hk
  cases h8:decide (8 < a.length) with
  | true =>
   rw [h8,cond_true] at hk
   refine h _ R k res ?_
   unfold ofP P_lia
   simp only [h8,Bool.true_and]
   exact hk
  | false =>
   rw [h8,cond_false] at hk
   exact h0 _ R k res (by rw [hS0];exact hk)
 ·cases hk
theorem yIHy {S0:Spec A} (h0:yaIy S0) {g:List UInt8→List UInt8→{R:Type}→(Int→Option R)→Option R}
  (hS0:∀ (a b:List UInt8) (R:Type) (k:IV A→List (IV A)→Option R),S0 [.d (.str a),.d (.str b)] k = g a b (fun z=>k (.d (.int .i64 z)) [.undef,.undef])):yaIy (yjCy (A:=A) (X_lia @g)):=by
 intro args R k
 unfold yjCy
 split
 ·rename_i a b
  unfold X_lia
  cases h8:decide (8 < a.length) with
  | true =>
   simp only [cond_true]
   cases longB a b <;> rfl
  | false =>
   simp only [cond_false]
   have h1:=h0 [.d (.str a),.d (.str b)] R k
   rw [hS0,hS0] at h1
   exact h1
 ·rfl
def yj3y {α:Type} (un:α→List UInt8) (a:List α) (b:List UInt8) {R:Type} (k0:List UInt8→Option R):Option R :=
 bif decide (a.length≤140737488355328)&&decide ((Lib.join (a.map un) b).length≤140737488355328) then k0 (Lib.join (a.map un) b) else none
theorem yG0y (hn:T.dr = false) {e:Nat} (un:A e→List UInt8) (henc:∀ x:A e,T.enc e x = [.str (un x)]) (hsz:T.size e = 1)
  (h0:∀ (a:Option Addr) (c:Nat) (sep:ByteArray) (w:World),Calls P f #[.slice a 0 c,.string sep] w fun e w'=>e = .returned (.string ⟨#[]⟩)∧w' = w)
  (h:∀ (bk o c:Nat) (xs:List ByteArray) (sep:ByteArray) (w:World),(∀ (j:Nat) x,xs[j]? = some x→w.cell? ⟨bk,o + j,none⟩ = some (.string x))→bk < w.heap.size→xs.length≤140737488355328→xs.length≤c →
   (Lib.join (xs.map (·.data.toList)) sep.data.toList).length≤140737488355328 →
   Calls P f #[.slice (some ⟨bk,o,none⟩) xs.length c,.string sep] w fun e w'=>e = .returned (.string ⟨(Lib.join (xs.map (·.data.toList)) sep.data.toList).toArray⟩)∧Below w.heap.size w w')
  {S:Spec A} (h1:∀ (xs:List (A e)) (sep:List UInt8) (R:Type) (k:IV A→List (IV A)→Option R),S [.d (.sl e xs),.d (.str sep)] k = yj3y un xs sep (fun z=>k (.d (.str z)) [.undef,.undef]))
  (h2:∀ args (R:Type) (k:IV A→List (IV A)→Option R),(∀ (xs:List (A e)) (sep:List UInt8),args≠[.d (.sl e xs),.d (.str sep)])→S args k = none):yany P T f S:=by
 intro args R k res hk w vs F av hr hF hFa hav hamb
 by_cases hh:∃ (xs:List (A e)) (sep:List UInt8),args = [.d (.sl e xs),.d (.str sep)]
 ·obtain ⟨xs,sep,rfl⟩:=hh
  rw [h1] at hk
  unfold yj3y at hk
  cases hg:decide (xs.length≤140737488355328)&&decide ((Lib.join (xs.map un) sep).length≤140737488355328) with
  | false=>rw [hg] at hk;cases hk
  | true =>
   rw [hg] at hk
   rw [Bool.and_eq_true,decide_eq_true_eq,decide_eq_true_eq] at hg
   simp only [RIVs,RIV,DR.str] at hr
   obtain ⟨v,vs',F1,F2,rfl,rfl,⟨rfl,hd⟩,v2,vs2,F3,F4,rfl,rfl,⟨rfl,rfl⟩,rfl,rfl⟩:=hr
   have fin:∀ (u1 u2:Value) w',Below w.heap.size w w'→∃ r args' v F1 F2 av',k r args' = some res∧(Ending.returned (Value.string ⟨(Lib.join (xs.map un) sep).toArray⟩)) = .returned v∧RIV T w' av' r v F1∧RIVs T w' av' args' [u1,u2] F2∧(F1++F2).Nodup ∧
     (∀ b,(av b∧b ∉ ([]++([]++[]):List Nat)) ∨ b∈F1++F2→av' b)∧(∀ b∈F1++F2,(b∈([]++([]++[]):List Nat) ∨ w.heap.size≤b)∧b < w'.heap.size)∧Left T w w' (·∈([]++([]++[]):List Nat))   := fun u1 u2 w' hb=>by
    refine ⟨_,_,_,[],[],av,hk,rfl,?_,?_,by simp,?_,by simp,⟨hb.os,⟨hb.tape,fun hd=>by rw [hn] at hd;cases hd⟩,hb.output,hb.size,fun b hb' _=>hb.block b hb'⟩⟩
    ·simp only [RIV,DR.str];exact ⟨trivial,trivial⟩
    ·simp only [RIVs,RIV]
     exact ⟨_,_,[],[],rfl,rfl,rfl,_,_,[],[],rfl,rfl,rfl,rfl,rfl⟩
    ·intro b hb
     rcases hb with hb | hb
     ·exact hb.1
     ·cases hb
   obtain ⟨a,cap,rfl,hcap,hrow⟩:=hd.sl
   cases xs with
   | nil =>
    refine (h0 a cap ⟨⟨sep⟩⟩ w).mono ?_
    rintro e1 w' ⟨rfl,rfl⟩
    exact fin _ _ _ (Below.refl _ _)
   | cons x0 xs0 =>
    obtain ⟨b,o,c,ty,fz,rfl,hnav,hc,hR⟩:=hrow (by simp)
    have hblt:b < w.heap.size:=by
     rcases Nat.lt_or_ge b w.heap.size with h | h
     ·exact h
     ·rw [Array.getElem?_eq_none h] at hc;cases hc
    have hm:(((x0::xs0).map fun x=>(⟨⟨un x⟩⟩:ByteArray)).map (·.data.toList)) = (x0::xs0).map un:=by simp
    have hc':=h b o cap ((x0::xs0).map fun x=>(⟨⟨un x⟩⟩:ByteArray)) ⟨⟨sep⟩⟩ w (fun j y hy=>by
     rw [List.getElem?_map] at hy
     obtain ⟨x,hx,rfl⟩:=Option.map_eq_some_iff.1 hy
     have he:(T.enc e x)[0]? = some (.str (un x)):=by rw [henc];rfl
     obtain ⟨u,hu,hdu⟩:=hR j x hx 0 _ he
     rw [DR.str] at hdu
     rw [hsz,Nat.mul_one,Nat.add_zero] at hu
     rw [ynby hc,hu,hdu]) hblt (by rw [List.length_map];exact hg.1) (by rw [List.length_map];exact hcap) (by rw [hm];exact hg.2)
    rw [List.length_map,hm] at hc'
    refine hc'.mono ?_
    rintro e1 w' ⟨rfl,hb⟩
    exact fin _ _ _ hb
 ·rw [h2 args R k (fun xs sep hx=>hh ⟨xs,sep,hx⟩)] at hk;cases hk
theorem yHPy {e:Nat} (un:A e→List UInt8) {S:Spec A} (h1:∀ (xs:List (A e)) (sep:List UInt8) (R:Type) (k:IV A→List (IV A)→Option R),S [.d (.sl e xs),.d (.str sep)] k = yj3y un xs sep (fun z=>k (.d (.str z)) [.undef,.undef]))
  (h2:∀ args (R:Type) (k:IV A→List (IV A)→Option R),(∀ (xs:List (A e)) (sep:List UInt8),args≠[.d (.sl e xs),.d (.str sep)])→S args k = none):yaIy S:=by
 intro args R k
 by_cases hh:∃ (xs:List (A e)) (sep:List UInt8),args = [.d (.sl e xs),.d (.str sep)]
 ·obtain ⟨xs,sep,rfl⟩:=hh
  rw [h1,h1]
  unfold yj3y
  cases decide (xs.length≤140737488355328)&&decide ((Lib.join (xs.map un) sep).length≤140737488355328) <;> rfl
 ·rw [h2 args R k (fun xs sep hx=>hh ⟨xs,sep,hx⟩),h2 args _ _ (fun xs sep hx=>hh ⟨xs,sep,hx⟩)];rfl
end Go.Am
