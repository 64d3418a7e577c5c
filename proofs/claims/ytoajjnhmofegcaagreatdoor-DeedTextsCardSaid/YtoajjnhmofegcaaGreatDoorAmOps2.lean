/- Part of an abstract machine for this program, with its soundness: AmOps2. No condition: lemmas for the claim. -/
import Derived.Test.YtoajjnhmofegcaaGreatDoorAmOps
set_option linter.unusedVariables false
set_option linter.unusedSimpArgs false
namespace Go.Am
open Go
variable {A:Nat→Type}
variable {T:Ty A} {w0 w w':World} {F0:List Nat} {X:Nat→Prop} {γ γ':Nat→Value} {φ φ':Nat→List Nat} {av av':Nat→Prop} {tmps:Array Value} {S S':St A} {R:Type} {P:Program}
variable {k:AV A→Upd A→List Nat→Option R} {res:R}
theorem yjBy (hok:TyOk P T) {e:Nat} {x:A e} {j:Nat} {d:D A} (h:(T.enc e x)[j]? = some d):j < T.size e:=by
 rw [← hok.len e x]
 rcases Nat.lt_or_ge j (T.enc e x).length with h' | h'
 ·exact h'
 ·rw [List.getElem?_eq_none h'] at h;cases h
theorem yuOy (hok:TyOk P T) {e:Nat} {c:Array Value}:∀ (n o:Nat) {ds:List (D A)} {xs:List (A e)},decs T e (chunk (T.size e) n ds) = some xs →
  (∀ (j:Nat) d,j < n * T.size e→ds[j]? = some d→∃ v,c[o + j]? = some v∧DR T w av d v)→Row T w av c o e xs∧xs.length = n
 | 0,o,ds,xs,h,hr=>by
  simp [chunk,decs] at h
  subst h
  exact ⟨fun i x hi=>by simp at hi,rfl⟩
 | n + 1,o,ds,xs,h,hr=>by
  simp only [chunk,decs] at h
  cases h1:T.dec e (ds.take (T.size e)) with
  | none=>simp [h1] at h
  | some x =>
   cases h2:decs T e (chunk (T.size e) n (ds.drop (T.size e))) with
   | none=>simp [h1,h2] at h
   | some ys =>
    simp [h1,h2] at h
    subst h
    obtain ⟨hl,hrep⟩:=hok.dec e _ _ h1
    obtain ⟨ih,ihl⟩:=yuOy hok n (o + T.size e) h2 (fun j d hj hd=>by
     rw [List.getElem?_drop] at hd
     obtain ⟨v,hv,hdr⟩:=hr (T.size e + j) d (by rw [Nat.add_mul,Nat.one_mul];omega) hd
     exact ⟨v,by rw [Nat.add_assoc];exact hv,hdr⟩)
    refine ⟨fun i y hy j d hd=>?_,by simp [ihl]⟩
    have hj:=yjBy hok hd
    cases i with
    | zero =>
     simp at hy
     subst hy
     have hex:∃ d0,(ds.take (T.size e))[j]? = some d0:=by
      exact ⟨_,List.getElem?_eq_getElem (by rw [hl];exact hj)⟩
     obtain ⟨d0,hd0⟩:=hex
     obtain ⟨d',hd',himp⟩:=hrep w av j d0 hd0
     rw [hd] at hd'
     cases hd'
     rw [List.getElem?_take_of_lt hj] at hd0
     obtain ⟨v,hv,hdr⟩:=hr j d0 (by rw [Nat.add_mul,Nat.one_mul];omega) hd0
     exact ⟨v,by simpa using hv,himp v hdr⟩
    | succ i =>
     obtain ⟨u,hu,hdr⟩:=ih i y (by simpa using hy) j d hd
     refine ⟨u,?_,hdr⟩
     rw [show o + (i + 1) * T.size e + j = o + T.size e + i * T.size e + j from by rw [Nat.add_mul,Nat.one_mul];omega]
     exact hu
theorem yqfy {α:Type} [Inhabited α] (l:List α) (hl:0 < l.length):∀ n,(List.range (n * l.length)).map (fun i=>l.toArray[i % l.length]!) = (List.replicate n l).flatten
 | 0=>by simp
 | n + 1=>by
  rw [show (n + 1) * l.length = l.length + n * l.length from by rw [Nat.add_mul,Nat.one_mul];omega,List.range_add,List.map_append,List.map_map,List.replicate_succ,List.flatten_cons]
  congr 1
  ·apply List.ext_getElem
   ·simp
   ·intro i h1 h2
    simp at h1
    simp [Nat.mod_eq_of_lt h1,h1]
  ·rw [← yqfy l hl n]
   apply List.map_congr_left
   intro i _
   simp
theorem yFDy {look:Nat→Option (Ob A)} {x:AV A} {d:D A} {u:Upd A} {ts:List Nat} (h:toD look x = some (d,u,ts)):∀ y∈u,∀ t,occOb t y.2 = false:=by
 cases x <;> simp only [toD] at h <;> try (cases h;done)
 case d y=>simp at h;obtain ⟨_,rfl,_⟩:=h;simp
 case own e t =>
  cases hl:look t with
  | none=>simp [hl] at h
  | some o =>
   rw [hl] at h
   cases o <;> simp only at h <;> try (cases h;done)
   all_goals
    simp only [Option.some.injEq,Prod.mk.injEq] at h
    obtain ⟨_,rfl,_⟩:=h
    intro y hy t
    simp at hy
    try (subst hy;rfl)
theorem yudy:∀ {xs:List (AV A)} {look:Nat→Option (Ob A)} {ds:List (D A)} {u:Upd A} {ts:List Nat},toDs look xs = some (ds,u,ts)→∀ y∈u,∀ t,occOb t y.2 = false
 | [],look,ds,u,ts,h=>by simp [toDs] at h;obtain ⟨_,rfl,_⟩:=h;simp
 | x::xs,look,ds,u,ts,h=>by
  simp only [toDs] at h
  cases h1:toD look x with
  | none=>simp [h1] at h
  | some p =>
   obtain ⟨d,u1,t1⟩:=p
   cases h2:toDs (lookU look u1) xs with
   | none=>simp [h1,h2] at h
   | some q =>
    obtain ⟨ds',u2,t2⟩:=q
    simp [h1,h2] at h
    obtain ⟨_,rfl,_⟩:=h
    intro y hy t
    rcases List.mem_append.1 hy with hy | hy
    ·exact yFDy h1 y hy t
    ·exact yudy h2 y hy t
theorem yjry {t i:Nat} {o:Option (Ob A)} (ho:occOb t o = false):∀ {l:List (Option (Ob A))} {i:Nat},(l.set i o).any (occOb t) = true→l.any (occOb t) = true
 | [],i,h=>by simp at h
 | x::l,0,h=>by simp only [List.set_cons_zero,List.any_cons,ho,Bool.false_or] at h;simp [h]
 | x::l,i + 1,h=>by
  simp only [List.set_cons_succ,List.any_cons,Bool.or_eq_true] at h ⊢
  exact h.imp id (yjry (i:=i) ho)
theorem ygZy {t:Nat}:∀ {u:Upd A} {S:St A},(∀ y∈u,occOb t y.2 = false)→occSt t (S.upd u) = true→occSt t S = true
 | [],S,hu,h=>h
 | (i,o)::u,S,hu,h=>by
  simp only [St.upd] at h
  have:=ygZy (fun y hy=>hu y (by simp [hy])) h
  unfold occSt at this ⊢
  rw [Bool.or_eq_true] at this ⊢
  exact this.imp id (yjry (i:=i) (hu (i,o) (by simp)))
theorem ysuy {look:Nat→Option (Ob A)} {place:Nat→Option (Nat×Nat)}:∀ {parts:List (Nat×AV A)} {cs cs':List (AV A)},fillS look place cs parts = some cs'→cs'.length = cs.length
 | [],cs,cs',h=>by simp [fillS] at h;rw [h]
 | (i,x)::parts,cs,cs',h=>by
  simp only [fillS] at h
  cases hp:place i with
  | none=>simp [hp] at h
  | some p =>
   obtain ⟨off,size⟩:=p
   simp only [hp] at h
   split at h
   ·rename_i hc
    rw [ysuy h,ykyy _ _ _ (by omega)]
   ·cases h
theorem ybDy {t e:Nat} (h:elemT P t = some e):P.underlying t = some (.slice e):=by
 unfold elemT at h
 split at h <;> simp_all
theorem ysWy (E:Env A) (hok:TyOk E.P E.T) (h:Rel E.T w0 F0 X γ φ av w tmps S) {o:Oper} {t:TypeId} {n:Nat} {ps:Array (Nat×Operand)} {ds:List Deferred} (ho:o.op = .buildSlice t n ps)
  (hk:opK E S.look (yafy S.fr) k o = some res) (hf:∀ v u ts,k v u ts = some res→yazy S u = true) :
  Did E.T w0 F0 X tmps S k res ((execOp (Act.eval ⟨tmps,ds⟩) o).run E.P w):=by
 unfold opK at hk
 simp only [ho] at hk
 cases he:elemT E.P t with
 | none=>simp [he] at hk
 | some e =>
  cases ht:yboy S.look (E.tags o) with
  | none=>simp [he,ht] at hk
  | some tag =>
   simp only [he,ht] at hk
   split at hk
   case isFalse=>cases hk
   rename_i hse
   cases hz:zeros (A:=A) E.P e with
   | none=>simp [hz] at hk
   | some zs =>
    simp only [hz] at hk
    split at hk
    case isFalse=>cases hk
    rename_i hzl
    obtain ⟨hzl,hroom⟩:=hzl
    obtain ⟨z,hrun,rfl⟩:=ygEy (w:=w) hz
    have hzsz:z.cells.size = E.P.cellsOf e:=by simpa using hzl
    have hpos:0 < E.P.cellsOf e:=by rw [← hse];exact hok.size e
    cases hfl:fillS S.look (fun i=>some (i * E.P.cellsOf e,E.P.cellsOf e)) (List.replicate n (z.cells.toList.map const1)).flatten (ps.toList.map fun p=>(p.1,yafy S.fr p.2)) with
    | none=>simp [hfl] at hk
    | some cs =>
     simp only [hfl] at hk
     cases htd:toDs S.look cs with
     | none=>simp [htd] at hk
     | some q =>
      obtain ⟨ds',u,ts⟩:=q
      simp only [htd] at hk
      cases hdc:decs E.T e (chunk (E.P.cellsOf e) n ds') with
      | none=>simp [hdc] at hk
      | some xs =>
       simp only [hdc] at hk
       have hparts:∀ (j:Nat) p,(ps.toList.map fun p=>(p.1,yafy S.fr p.2))[j]? = some p →
         ∃ q,(ps.map fun (i,x)=>(i,Act.eval ⟨tmps,ds⟩ x)).toList[j]? = some q∧q.1 = p.1∧RAV E.T w av S.look γ p.2 q.2:=by
        intro j p hp
        simp only [List.getElem?_map,Option.map_eq_some_iff] at hp
        obtain ⟨a,ha,rfl⟩:=hp
        exact ⟨(a.1,Act.eval ⟨tmps,ds⟩ a.2),by simp at ha;simp [ha],rfl,h.eval ds a.2⟩
       have hcells0:((Array.range (n * E.P.cellsOf e)).map (fun i=>z.cells[i % z.cells.size]!)).toList = (List.replicate n z.cells.toList).flatten:=by
        have:=yqfy z.cells.toList (by simp;omega) n
        simp only [Array.length_toList,Array.toArray_toList,hzsz] at this ⊢
        simpa using this
       obtain ⟨cells,hfill,hr⟩:=h.fill (cells:=(Array.range (n * E.P.cellsOf e)).map (fun i=>z.cells[i % z.cells.size]!)) (by simp) hparts
        (by rw [hcells0,← List.map_replicate,← List.map_flatten];exact RAVs.of_const1 _ _) hfl
       obtain ⟨φ1,av1,hR1,hlen,hd1,hn1,hl1,hk1,ho1,hs1⟩:=ykPy h hr htd
       have hno:(S.upd u).look tag = none:=by
        have:=hs1 tag
        rw [yc5y ht] at this
        simpa using this
       obtain ⟨hlt,hocc⟩:=ycJy (hf _ _ _ hk) (List.mem_append.2 (.inr (List.mem_singleton.2 rfl))) (yc5y ht)
       have hocc':occSt tag (S.upd u) = false:=by
        cases ho:occSt tag (S.upd u) with
        | false=>rfl
        | true=>rw [ygZy (fun y hy=>yudy htd y hy tag) ho] at hocc;cases hocc
       rw [← hse] at hdc
       obtain ⟨hrow,hxl⟩:=yuOy (c:=cells) hok n 0 hdc (fun j d hj hd=>by
        obtain ⟨v,hv,hdr⟩:=hd1 j d hd
        exact ⟨v,by simpa using hv,hdr⟩)
       have hcsz:n * E.T.size e≤cells.size:=by
        have h1:=hr.len
        have h2:=ysuy hfl
        simp at h1 h2
        rw [h1,h2,hse,hzsz]
        exact Nat.le_refl _
       obtain ⟨γ',φ',av',hR,hv⟩:=hR1.new_row (w':=w.alloc (.cells cells e)) (by rw [yb4y];exact hlt) hno hocc' e hrow (Nat.le_of_eq hxl) hcsz rfl rfl ⟨rfl,fun _=>Nat.le_refl _⟩ rfl
       refine ⟨.slice (some ⟨w.heap.size,0,none⟩) n n,_,.inl ?_,_,_,_,γ',φ',av',hk,by rw [ybey];exact hR,by rw [ybey];rw [hxl] at hv;exact hv⟩
       have hu:=ybDy he
       obtain ⟨ie,hie⟩:∃ ie,E.P.info? e = some ie:=by
        cases hi:E.P.info? e with
        | none=>simp [Program.cellsOf,hi] at hpos
        | some i=>exact ⟨i,rfl⟩
       have hsz:ie.size = E.P.cellsOf e:=by simp [Program.cellsOf,hie]
       have hgt:¬ (n * E.P.cellsOf e > 2 ^ 24):=by omega
       simp only [execOp,ho,Instr.buildSlice,Sem.run_bind,run_underlying hu,Result.andThen_ok,ya7y hie,hsz,hgt,if_false,Sem.run_pure]
       by_cases hz0:n * E.P.cellsOf e = 0
       ·have harr:∀ f:Nat→Value,(Array.range (n * E.P.cellsOf e)).map f = #[]:=by intro f;simp [hz0]
        simp only [harr] at hfill ⊢
        simp only [hz0,if_true,Sem.run_pure,Result.andThen_ok,hfill]
        simp [newRow]
       ·simp only [hz0,if_false,Sem.run_bind,hrun,Sem.run_pure,Result.andThen_ok,hfill]
        simp [newRow]
end Go.Am
set_option linter.unusedVariables false
set_option linter.unusedSimpArgs false
namespace Go.Am
open Go
variable {A:Nat→Type}
variable {T:Ty A} {w0 w w':World} {F0:List Nat} {X:Nat→Prop} {γ γ':Nat→Value} {φ φ':Nat→List Nat} {av av':Nat→Prop} {tmps:Array Value} {S S':St A} {R:Type} {P:Program}
variable {k:AV A→Upd A→List Nat→Option R} {res:R}
theorem yoFy {s f o t:Nat} (h:ydLy P s f = some (o,t)):∃ fs x i,P.underlying s = some (.struct fs)∧fs[f]? = some x∧x.offset = o∧x.type = t∧P.info? t = some i∧i.size≠0∧P.cellsOf t = i.size:=by
 unfold ydLy at h
 split at h
 ·rename_i fs hu
  cases hx:fs[f]? with
  | none=>simp [hx] at h
  | some x =>
   simp only [hx,Option.bind_some] at h
   split at h
   ·cases h
   ·rename_i hc
    simp at h
    obtain ⟨rfl,rfl⟩:=h
    cases hi:P.info? x.type with
    | none=>simp [Program.cellsOf,hi] at hc
    | some i=>exact ⟨fs,x,i,hu,hx,rfl,rfl,rfl,by simpa [Program.cellsOf,hi] using hc,by simp [Program.cellsOf,hi]⟩
 ·cases h
theorem yjny {s f o t:Nat} (h:ydLy P s f = some (o,t)) (b off:Nat):(Instr.fieldAt s (.pointer (some ⟨b,off,none⟩)) f).run P w = .ok (.pointer (some ⟨b,off + o,none⟩)) w:=by
 obtain ⟨fs,x,i,hu,hx,rfl,rfl,hi,hne,_⟩:=yoFy h
 simp [Instr.fieldAt,run_underlying hu,hx,Instr.sureAddr,fieldPlace,ya7y hi,hne,addr_add]
theorem yt1y (E:Env A) (h:Rel E.T w0 F0 X γ φ av w tmps S) {o:Oper} {s:TypeId} {x:Operand} {f:Nat} {ds:List Deferred} (ho:o.op = .fieldAddr s x f)
  (hk:opK E S.look (yafy S.fr) k o = some res):Did E.T w0 F0 X tmps S k res ((execOp (Act.eval ⟨tmps,ds⟩) o).run E.P w):=by
 have hx:=h.eval ds x
 unfold opK at hk
 simp only [ho] at hk
 unfold execOp
 simp only [ho]
 cases hf:ydLy E.P s f with
 | none=>simp [hf] at hk
 | some p =>
  obtain ⟨off',t⟩:=p
  simp only [hf] at hk
  generalize yafy S.fr x = v at hk hx
  generalize Act.eval ⟨tmps,ds⟩ x = u at hx
  have dead:∀ {t:Nat},S.look t = none→∀ (u:Value),(∀ b off,u≠.pointer (some ⟨b,off,none⟩))→False→True:=fun _ _ _ _=>trivial
  cases v <;> simp only at hk <;> try (cases hk;done)
  case ptr tg off =>
   cases hl:S.look tg with
   | none=>simp [hl] at hk
   | some ob =>
    simp only [RAV] at hx
    obtain ⟨⟨b,hg,rfl⟩,hb⟩:=hx ob hl
    rw [hl] at hk
    simp at hk
    refine yaty (u:=.pointer (some ⟨b,off + off',none⟩)) h hk (by simp [yjny hf]) ?_
    simp only [RAV]
    intro o' ho'
    rw [hl] at ho'
    cases ho'
    exact ⟨⟨b,hg,rfl⟩,hb⟩
  case elp e tg i off =>
   cases hl:S.look tg with
   | none=>simp [hl] at hk
   | some ob =>
    simp only [RAV] at hx
    obtain ⟨⟨b,n,cap,hg,rfl⟩,hb⟩:=hx ob hl
    rw [hl] at hk
    simp at hk
    refine yaty (u:=.pointer (some ⟨b,i * E.T.size e + (off + off'),none⟩)) h hk (by rw [← Nat.add_assoc];simp [yjny hf]) ?_
    simp only [RAV]
    intro o' ho'
    rw [hl] at ho'
    cases ho'
    exact ⟨⟨b,n,cap,hg,rfl⟩,hb⟩
  case cel cs off =>
   simp only [RAV] at hx
   obtain ⟨b,o',c,ty,fz,rfl,hav,hc,hr⟩:=hx
   refine yaty (u:=.pointer (some ⟨b,o' + (off + off'),none⟩)) h hk (by rw [← Nat.add_assoc];simp [yjny hf]) ?_
   simp only [RAV]
   exact ⟨b,o',c,ty,fz,rfl,hav,hc,hr⟩
theorem ypby {α:Type} {t:TypeId} {cs:List α} {off:Nat} {p:List α×Bool} (hp:partL P t cs off = some p) {c:Array Value} (hl:c.size = cs.length)
  (rel:α→Value→Prop) (hr:∀ (j:Nat) (x:α),cs[j]? = some x→∃ u,c[j]? = some u∧rel x u):∃ v,(part t c off).run P w = .ok v w∧yCuy rel p v:=by
 cases hu:P.underlying t with
 | none=>simp [partL,hu] at hp
 | some d =>
  obtain ⟨i,hi,hsz⟩:=ylFy hu
  rcases ysFy hu hp with ⟨hd,hle,rfl⟩ | ⟨hd,x,hx,rfl⟩
  ·refine ⟨.agg (c.extract off (off + P.cellsOf t)),?_,?_⟩
   ·unfold part
    simp only [Sem.run_bind,yiJy hu,Result.andThen_ok,hd,if_true,ya7y hi,← hsz,Sem.run_pure]
   ·refine ⟨_,rfl,by simp;omega,fun j x hx=>?_⟩
    have hj:j < P.cellsOf t:=by
     rcases Nat.lt_or_ge j (P.cellsOf t) with h | h
     ·exact h
     ·have hx':((cs.drop off).take (P.cellsOf t))[j]? = some x:=hx
      rw [List.getElem?_eq_none (by simp;omega)] at hx';cases hx'
    simp only [List.getElem?_take_of_lt hj,List.getElem?_drop] at hx
    obtain ⟨u,hu,hr'⟩:=hr (off + j) x hx
    refine ⟨u,?_,hr'⟩
    rw [Array.getElem?_extract]
    rw [if_pos (by omega)]
    exact hu
  ·obtain ⟨u,hu',hr'⟩:=hr off x hx
   refine ⟨u,?_,x,rfl,hr'⟩
   unfold part
   simp only [Sem.run_bind,yiJy hu,Result.andThen_ok,hd,Bool.false_eq_true,if_false,hu',Sem.run_pure]
theorem yD1y (E:Env A) (h:Rel E.T w0 F0 X γ φ av w tmps S) {o:Oper} {s:TypeId} {x:Operand} {f:Nat} {ds:List Deferred} (ho:o.op = .field s x f)
  (hk:opK E S.look (yafy S.fr) k o = some res):Did E.T w0 F0 X tmps S k res ((execOp (Act.eval ⟨tmps,ds⟩) o).run E.P w):=by
 have hx:=h.eval ds x
 unfold opK at hk
 simp only [ho] at hk
 unfold execOp
 simp only [ho]
 cases hf:ydLy E.P s f with
 | none=>simp [hf] at hk
 | some p =>
  obtain ⟨off,t⟩:=p
  simp only [hf] at hk
  generalize yafy S.fr x = v at hk hx
  generalize Act.eval ⟨tmps,ds⟩ x = u at hx
  cases v <;> simp only at hk <;> try (cases hk;done)
  rename_i cs
  obtain ⟨fs,fx,i,hu,hfx,rfl,rfl,hi,hne,_⟩:=yoFy hf
  simp only [RAV] at hx
  obtain ⟨vs,rfl,hvs⟩:=hx
  unfold ybUy at hk
  cases hq:partL E.P fx.type cs fx.offset with
  | none=>simp [hq] at hk
  | some p =>
   simp [hq] at hk
   obtain ⟨u,hu',hm⟩:=ypby (w:=w) hq (by have:=hvs.len;simpa using this) (RAV E.T w av S.look γ) (fun j x hx=>by obtain ⟨u,hu,hr⟩:=hvs.at j x hx;exact ⟨u,by simpa using hu,hr⟩)
   refine yaty (u:=u) h hk (by simp [Instr.field,run_underlying hu,hfx,asAgg,hu']) ?_
   obtain ⟨l,b⟩:=p
   cases b with
   | true =>
    obtain ⟨vs,rfl,hl,hx⟩:=hm
    simp only [packL,RAV]
    exact ⟨vs,rfl,RAVs.of_cells (by simpa using hl) (fun j x hj=>by simpa using hx j x hj)⟩
   | false =>
    obtain ⟨x,hl,hx⟩:=hm
    simp only at hl
    subst hl
    simpa [packL] using hx
theorem yvwy (E:Env A) (hok:TyOk E.P E.T) (h:Rel E.T w0 F0 X γ φ av w tmps S) {o:Oper} {t:TypeId} {x i:Operand} {ds:List Deferred} (ho:o.op = .indexAddr t x i)
  (hk:opK E S.look (yafy S.fr) k o = some res):Did E.T w0 F0 X tmps S k res ((execOp (Act.eval ⟨tmps,ds⟩) o).run E.P w):=by
 have hx:=h.eval ds x
 have hi:=h.eval ds i
 unfold opK at hk
 simp only [ho] at hk
 unfold execOp
 simp only [ho]
 cases he:elemT E.P t with
 | none=>simp [he] at hk
 | some e =>
  simp only [he] at hk
  have hu:=ybDy he
  generalize yafy S.fr i = vi at hk hi
  generalize Act.eval ⟨tmps,ds⟩ i = ui at hi
  generalize yafy S.fr x = vx at hk hx
  generalize Act.eval ⟨tmps,ds⟩ x = ux at hx
  cases vi <;> (try simp only at hk) <;> try (cases hk;done)
  rename_i di
  cases di <;> simp only at hk <;> try (cases hk;done)
  rename_i ki n
  split at hk
  case isFalse=>cases hk
  rename_i hse
  simp only [RAV,DR.int] at hi
  subst hi
  have hrun:∀ (ad:Option Addr) (len cap:Nat) (b o':Nat),ad = some ⟨b,o',none⟩→0≤n→n < len→(∃ i,E.P.info? e = some i∧i.size = E.T.size e) →
    (Instr.indexAt t (.slice ad len cap) (.int ki n)).run E.P w = .ok (.pointer (some ⟨b,o' + n.toNat * E.T.size e,none⟩)) w:=by
   rintro ad len cap b o' rfl h0 h1 ⟨i,hi,hs⟩
   simp only [Instr.indexAt,asIntOf,Sem.run_bind,Sem.run_pure,Result.andThen_ok,run_underlying hu,h0,h1,and_self,if_true,ya7y hi,hs,addr_add]
  have hinfo:0 < E.T.size e→∃ i,E.P.info? e = some i∧i.size = E.T.size e:=by
   intro hp
   cases hi:E.P.info? e with
   | none=>rw [hse] at hp;simp [Program.cellsOf,hi] at hp
   | some i=>exact ⟨i,rfl,by rw [hse];simp [Program.cellsOf,hi]⟩
  cases vx <;> (try simp only at hk) <;> try (cases hk;done)
  case own e' tg =>
   have key:∀ (e'':Nat) (xs:List (A e'')),(S.look tg = some (.row e'' xs) ∨ S.look tg = some (.frz e'' xs)) →
     (if e' = e∧e'' = e then (bif decide (0≤n)&&decide (n < xs.length) then k (.elp e tg n.toNat 0) [] [tg] else none) else none) = some res →
     0 < E.T.size e→Did E.T w0 F0 X tmps S k res (((Instr.indexAt t ux (.int ki n)).run E.P w).andThen fun a w=>.ok (.value a) w):=by
    intro e'' xs hl hk' hpos
    split at hk'
    case isFalse=>cases hk'
    rename_i hee
    obtain ⟨rfl,rfl⟩:=hee
    cases hb:(decide (0≤n)&&decide (n < xs.length)) with
    | false=>simp [hb] at hk'
    | true =>
     rw [hb] at hk'
     simp only [cond_true] at hk'
     simp only [Bool.and_eq_true,decide_eq_true_eq] at hb
     obtain ⟨h0,h1⟩:=hb
     have hne:xs≠[]:=by rintro rfl;simp at h1;omega
     have hbase:∃ b cap,γ tg = .slice (some ⟨b,0,none⟩) xs.length cap:=by
      rcases hl with hl | hl
      ·have hr:=h.ob tg _ hl
       simp only [ROb,RIV] at hr
       obtain ⟨ob,hφ,hs,hrow⟩:=hr
       cases ob with
       | none=>simp only [OwnSl] at hs;exact absurd (List.eq_nil_of_length_eq_zero hs.1) hne
       | some b=>simp only [OwnSl] at hs;obtain ⟨cap,c,ty,hv,_⟩:=hs;exact ⟨b,cap,hv⟩
      ·have hr:=h.ob tg _ hl
       simp only [ROb] at hr
       obtain ⟨_,hd,hb⟩:=hr
       obtain ⟨b,n',cap,hv⟩:=hb.resolve_left hne
       obtain ⟨a,cap',hv',_,_⟩:=hd.sl
       rw [hv] at hv'
       simp only [Value.slice.injEq] at hv'
       exact ⟨b,cap,by rw [hv,hv'.2.1]⟩
     obtain ⟨b,cap,hg⟩:=hbase
     have hux:ux = γ tg:=by
      simp only [RAV] at hx
      rcases hl with hl | hl <;> exact (hx _ hl).1
     subst hux
     rw [hg,hrun _ _ _ b 0 rfl h0 h1 (hinfo hpos)]
     refine yaty (u:=.pointer (some ⟨b,0 + n.toNat * E.T.size _,none⟩)) h hk' rfl ?_
     simp only [RAV]
     intro o' ho'
     refine ⟨⟨b,_,_,hg,by simp⟩,?_⟩
     rcases hl with hl | hl <;> (rw [hl] at ho';cases ho';rfl)
   have hgoal:∀ r:Did E.T w0 F0 X tmps S k res (((Instr.indexAt t ux (.int ki n)).run E.P w).andThen fun a w=>.ok (.value a) w),Did E.T w0 F0 X tmps S k res ((do let a ← Instr.indexAt t ux (.int ki n);pure (Next.value a):Sem Next).run E.P w):=by
    intro r;simpa using r
   cases hl:S.look tg with
   | none=>simp [hl] at hk
   | some ob =>
    rw [hl] at hk
    cases ob <;> simp only at hk <;> try (cases hk;done)
    ·exact hgoal (key _ _ (.inl hl) hk (hok.size e))
    ·exact hgoal (key _ _ (.inr hl) hk (hok.size e))
  case vw e' tg lo hi =>
   cases hl:S.look tg with
   | none=>simp [hl] at hk
   | some ob =>
    rw [hl] at hk
    cases ob <;> simp only at hk <;> try (cases hk;done)
    rename_i e'' xs
    split at hk
    case isFalse=>cases hk
    rename_i hee
    obtain ⟨he1,he2⟩:=hee
    subst he1
    subst he2
    cases hb:(decide (0≤n)&&(decide (n < hi - lo)&&decide (lo + n < xs.length))) with
    | false=>simp [hb] at hk
    | true =>
     rw [hb] at hk
     simp only [cond_true] at hk
     simp only [Bool.and_eq_true,decide_eq_true_eq] at hb
     obtain ⟨h0,h1,h2⟩:=hb
     simp only [RAV] at hx
     obtain ⟨⟨b,n',cap,pa,cap',hg,rfl,hlo,hlh,hpa⟩,hkd⟩:=hx _ hl
     obtain rfl:=hpa (by omega)
     refine yaty (u:=.pointer (some ⟨b,lo.toNat * E.T.size e'' + n.toNat * E.T.size e'',none⟩)) h hk ?_ ?_
     ·have:=hrun (some ⟨b,lo.toNat * E.T.size e'',none⟩) (hi - lo).toNat cap' b _ rfl h0 (by omega) (hinfo (hok.size e''))
      simp [this]
     ·simp only [RAV]
      intro o' ho'
      rw [hl] at ho'
      cases ho'
      refine ⟨⟨b,_,_,hg,?_⟩,rfl⟩
      have:(lo + n).toNat = lo.toNat + n.toNat:=by omega
      rw [this,Nat.add_mul,Nat.add_zero]
  case d dx =>
   cases dx <;> simp only at hk <;> try (cases hk;done)
   rename_i e' xs
   split at hk
   case isFalse=>cases hk
   rename_i hee
   subst hee
   cases hb:decide (0≤n) with
   | false=>simp [hb] at hk
   | true =>
    rw [hb] at hk
    simp only [cond_true] at hk
    simp only [decide_eq_true_eq] at hb
    cases hxi:xs[n.toNat]? with
    | none=>simp [hxi] at hk
    | some y =>
     simp only [hxi] at hk
     simp only [RAV] at hx
     have hne:xs≠[]:=by rintro rfl;simp at hxi
     obtain ⟨a,cap,rfl,_,hrow⟩:=hx.sl
     obtain ⟨b,o',c,ty,fz,rfl,hav,hc,hr⟩:=hrow hne
     have hlt:n.toNat < xs.length:=by
      rcases Nat.lt_or_ge n.toNat xs.length with h | h
      ·exact h
      ·rw [List.getElem?_eq_none h] at hxi;cases hxi
     refine yaty (u:=.pointer (some ⟨b,o' + n.toNat * E.T.size e',none⟩)) h hk ?_ ?_
     ·have:=hrun (some ⟨b,o',none⟩) xs.length cap b o' rfl hb (by omega) (hinfo (hok.size e'))
      simp [this]
     ·simp only [RAV]
      refine ⟨b,o' + n.toNat * E.T.size e',c,ty,fz,rfl,hav,hc,fun j d hj=>?_⟩
      exact hr n.toNat y hxi j d hj
end Go.Am
set_option linter.unusedVariables false
set_option linter.unusedSimpArgs false
namespace Go.Am
open Go
variable {A:Nat→Type}
variable {T:Ty A} {w0 w w':World} {F0:List Nat} {X:Nat→Prop} {γ γ':Nat→Value} {φ φ':Nat→List Nat} {av av':Nat→Prop} {tmps:Array Value} {S S':St A} {R:Type} {P:Program}
variable {k:AV A→Upd A→List Nat→Option R} {res:R}
theorem ysmy (n:Nat) (hn:256≤n):∀ r c,c≤2 * n→Builtin.growBy n r c≤2 * n
 | 0,c,h=>h
 | r + 1,c,h=>by
  unfold Builtin.growBy
  split
  ·exact h
  ·exact ysmy n hn r _ (by omega)
theorem yz1y (need cap:Nat) (h:cap < need):Builtin.nextslicecap need cap≤2 * need:=by
 unfold Builtin.nextslicecap
 split
 ·omega
 ·split
  ·omega
  ·exact ysmy need (by omega) 4 cap (by omega)
theorem yiwy {e e':Nat} {xs:List (A e)} {ys:List (A e')} (h:castL (e':=e') xs = some ys):∃ he:e = e',he ▸ xs = ys:=by
 unfold castL at h
 split at h
 ·rename_i he;exact ⟨he,by simpa using h⟩
 ·cases h
theorem yohy (h:Rel T w0 F0 X γ φ av w tmps S) {e:Nat} {x:AV A} {v:Value} (hx:RAV T w av S.look γ x v) {zs:List (A e)} {ts:List Nat} (hr:rowOf S.look e x = some (zs,ts)) :
  ∃ a cap,v = .slice a zs.length cap∧zs.length≤cap∧(zs≠[]→∃ b o c ty fz,a = some ⟨b,o,none⟩∧w.heap[b]? = some (.cells c ty fz)∧Row T w av c o e zs) ∧
   ∀ t∈ts,(∃ xs:List (A e),S.look t = some (.row e xs) ∨ S.look t = some (.frz e xs)):=by
 have hsl:∀ {ys:List (A e)},DR T w av (.sl e ys) v→∃ a cap,v = .slice a ys.length cap∧ys.length≤cap∧(ys≠[]→∃ b o c ty fz,a = some ⟨b,o,none⟩∧w.heap[b]? = some (.cells c ty fz)∧Row T w av c o e ys):=by
  intro ys hd
  obtain ⟨a,cap,rfl,hcap,hrow⟩:=hd.sl
  refine ⟨a,cap,rfl,hcap,fun hne=>?_⟩
  obtain ⟨b,o,c,ty,fz,ha,_,hc,hr⟩:=hrow hne
  exact ⟨b,o,c,ty,fz,ha,hc,hr⟩
 cases x <;> simp only [rowOf] at hr <;> try (cases hr;done)
 case d dx =>
  cases dx <;> simp only at hr <;> try (cases hr;done)
  case sl e' xs =>
   cases hc:castL (e':=e) xs with
   | none=>simp [hc] at hr
   | some ys =>
    simp [hc] at hr
    obtain ⟨rfl,rfl⟩:=hr
    obtain ⟨rfl,rfl⟩:=yiwy hc
    simp only [RAV] at hx
    obtain ⟨a,cap,h1,h2,h3⟩:=hsl hx
    exact ⟨a,cap,h1,h2,h3,by simp⟩
  case nsl =>
   simp at hr
   obtain ⟨rfl,rfl⟩:=hr
   simp only [RAV,DR.nsl] at hx
   exact ⟨none,0,hx,Nat.le_refl _,fun hne=>absurd rfl hne,by simp⟩
 case own e' t =>
  cases hl:S.look t with
  | none=>simp [hl] at hr
  | some ob =>
   rw [hl] at hr
   simp only [RAV] at hx
   obtain ⟨hv,hx2⟩:=hx ob hl
   clear hx2
   have hob:=h.ob t ob hl
   cases ob <;> simp only at hr <;> try (cases hr;done)
   ·rename_i e'' xs
    cases hc:castL (e':=e) xs with
    | none=>simp [hc] at hr
    | some ys =>
     simp [hc] at hr
     obtain ⟨rfl,rfl⟩:=hr
     obtain ⟨rfl,rfl⟩:=yiwy hc
     simp only [ROb,RIV] at hob
     obtain ⟨ob,hφ,hs,hrow⟩:=hob
     cases ob with
     | none =>
      simp only [OwnSl] at hs
      obtain ⟨hn,hv'⟩:=hs
      have:xs = []:=List.eq_nil_of_length_eq_zero hn
      subst this
      exact ⟨none,0,by rw [hv,hv'];rfl,Nat.le_refl _,fun hne=>absurd rfl hne,by intro t' ht';simp at ht';subst ht';exact ⟨_,.inl hl⟩⟩
     | some b =>
      simp only [OwnSl] at hs
      obtain ⟨cap,c,ty,hv',hle,hc',_⟩:=hs
      obtain ⟨c',ty',hc'',hr'⟩:=hrow b rfl
      exact ⟨_,cap,by rw [hv,hv'],hle,fun _=>⟨b,0,c',ty',_,rfl,hc'',hr'⟩,by intro t' ht';simp at ht';subst ht';exact ⟨_,.inl hl⟩⟩
   ·rename_i e'' xs
    cases hc:castL (e':=e) xs with
    | none=>simp [hc] at hr
    | some ys =>
     simp [hc] at hr
     obtain ⟨rfl,rfl⟩:=hr
     obtain ⟨rfl,rfl⟩:=yiwy hc
     simp only [ROb] at hob
     obtain ⟨a,cap,h1,h2,h3⟩:=hsl (by rw [hv];exact hob.2.1)
     exact ⟨a,cap,h1,h2,h3,by intro t' ht';simp at ht';subst ht';exact ⟨_,.inr hl⟩⟩
theorem ygsy (hok:TyOk P T) {e:Nat} {zs:List (A e)} {a:Option Addr} {cap:Nat}
  (hr:zs≠[]→∃ b o c ty fz,a = some ⟨b,o,none⟩∧w.heap[b]? = some (.cells c ty fz)∧Row T w av c o e zs) :
  ∃ cells:Array Value,(∀ w':World,w'.heap = w.heap→(Builtin.firstCells (T.size e) zs.length (.slice a zs.length cap)).run P w' = .ok cells w')∧cells.size = zs.length * T.size e∧Row T w av cells 0 e zs∧∀ v∈cells.toList,v.oneCell' = true:=by
 by_cases hne:zs = []
 ·subst hne
  refine ⟨#[],?_,by simp,fun i x hi=>by simp at hi,by simp⟩
  intro w' _
  cases a with
  | none=>simp [Builtin.firstCells]
  | some a=>simp [Builtin.firstCells,loadCells,loadCellsFrom]
 ·obtain ⟨b,o,c,ty,fz,rfl,hc,hrow⟩:=hr hne
  have hex:∀ p,p < zs.length * T.size e→∃ u,c[o + p]? = some u∧u.oneCell' = true:=by
   intro p hp
   have hs:=hok.size e
   have hi:p / T.size e < zs.length:=Nat.div_lt_of_lt_mul (by rw [Nat.mul_comm];exact hp)
   have hj:p % T.size e < T.size e:=Nat.mod_lt _ hs
   have hx:zs[p / T.size e]? = some zs[p / T.size e]:=List.getElem?_eq_getElem hi
   have hd:(T.enc e zs[p / T.size e])[p % T.size e]? = some ((T.enc e zs[p / T.size e])[p % T.size e]'(by rw [hok.len];exact hj)):=List.getElem?_eq_getElem _
   obtain ⟨u,hu,hdr⟩:=hrow _ _ hx _ _ hd
   refine ⟨u,?_,hdr.one⟩
   rw [← hu]
   congr 1
   have:=Nat.div_add_mod p (T.size e)
   rw [Nat.mul_comm] at this
   omega
  let f:Nat→Value:=fun p=>(c[o + p]?).getD undef
  have hrun:=fun (w':World) (hw:w'.heap = w.heap)=>run_loadCells (P:=P) w' ⟨b,o,none⟩ (zs.length * T.size e) f (fun p hp=>by
   rw [addr_add,ynby (by rw [hw];exact hc)]
   obtain ⟨u,hu,_⟩:=hex p hp
   simp [f,hu])
  refine ⟨((List.range (zs.length * T.size e)).map f).toArray,by simp only [Builtin.firstCells];exact hrun,by simp,?_,?_⟩
  ·intro i x hi j d hj
   have hlt:i < zs.length:=by
    rcases Nat.lt_or_ge i zs.length with h | h
    ·exact h
    ·rw [List.getElem?_eq_none h] at hi;cases hi
   have hjl:=yjBy hok hj
   obtain ⟨u,hu,hdr⟩:=hrow i x hi j d hj
   refine ⟨u,?_,hdr⟩
   have hp:i * T.size e + j < zs.length * T.size e:=by
    have:(i + 1) * T.size e≤zs.length * T.size e:=Nat.mul_le_mul_right _ hlt
    rw [Nat.add_mul,Nat.one_mul] at this
    omega
   rw [Nat.add_assoc] at hu
   simp [hp,f,hu]
  ·intro v hv
   simp only [List.mem_map,List.mem_range] at hv
   obtain ⟨p,hp,rfl⟩:=hv
   obtain ⟨u,hu,h1⟩:=hex p hp
   simp [f,hu,h1]
theorem Row.append {e:Nat} {ys zs:List (A e)} {c1 c2 c3:List Value} (h1:Row T w av c1.toArray 0 e ys) (h2:Row T w av c2.toArray 0 e zs) (hl:c1.length = ys.length * T.size e) :
  Row T w av (c1++(c2++c3)).toArray 0 e (ys++zs):=by
 intro i x hi j d hj
 rw [Nat.zero_add]
 rw [List.getElem?_append] at hi
 split at hi
 ·rename_i hlt
  obtain ⟨u,hu,hd⟩:=h1 i x hi j d hj
  rw [Nat.zero_add] at hu
  refine ⟨u,?_,hd⟩
  simp only [List.getElem?_toArray] at hu ⊢
  rcases Nat.lt_or_ge (i * T.size e + j) c1.length with h | h
  ·rw [List.getElem?_append_left h];exact hu
  ·rw [List.getElem?_eq_none h] at hu;cases hu
 ·rename_i hge
  obtain ⟨u,hu,hd⟩:=h2 _ x hi j d hj
  rw [Nat.zero_add] at hu
  refine ⟨u,?_,hd⟩
  simp only [List.getElem?_toArray] at hu ⊢
  have hm:i * T.size e = ys.length * T.size e + (i - ys.length) * T.size e:=by rw [← Nat.add_mul];congr 1;omega
  rw [List.getElem?_append_right (by rw [hl];omega)]
  rw [show i * T.size e + j - c1.length = (i - ys.length) * T.size e + j from by omega]
  rcases Nat.lt_or_ge ((i - ys.length) * T.size e + j) c2.length with h | h
  ·rw [List.getElem?_append_left h];exact hu
  ·rw [List.getElem?_eq_none h] at hu;cases hu
theorem yhoy {sT xT e:TypeId} {ie:TypeInfo} {z:Value} {dx:TypeDesc} (hs:P.underlying sT = some (.slice e)) (hxT:P.underlying xT = some dx) (hxi:∀ ki,dx≠.int ki) (hi:P.info? e = some ie) (hz:ie.zero = some z)
  (ty:TypeId) (base a:Option Addr) (sLen sCap n cap:Nat) (new:Array Value)
  (hnew:(Builtin.firstCells ie.size n (.slice a n cap)).run P w = .ok new w) :
  (sLen + n≤sCap→(Builtin.append_ #[sT,xT] ty #[.slice base sLen sCap,.slice a n cap]).run P w =
   ((match base with | some b=>storeCells (b.add (sLen * ie.size)) new.toList | none=>pure ()).run P w).andThen fun _ w'=>.ok (.slice base (sLen + n) sCap) w') ∧
  (¬ sLen + n≤sCap→0 < ie.bytes→(sLen + n) * ie.bytes≤140737488355328→∀ old,(∀ w':World,w'.heap = w.heap→(Builtin.firstCells ie.size sLen (.slice base sLen sCap)).run P w' = .ok old w') →
   (∀ w':World,w'.heap = w.heap→(Builtin.firstCells ie.size n (.slice a n cap)).run P w' = .ok new w') →
   ∃ newCap,sLen + n≤newCap∧(Builtin.append_ #[sT,xT] ty #[.slice base sLen sCap,.slice a n cap]).run P w =
    .ok (.slice (some ⟨w.heap.size,0,none⟩) (sLen + n) newCap) ({ w with drawn:=w.drawn + 1 }.alloc (.cells (old++new++Builtin.zeroCells z.cells (newCap - (sLen + n))) e))):=by
 have hm:(match dx with | .int _=>true | _=>false) = false:=by cases dx <;> first | rfl | exact absurd rfl (hxi _)
 constructor
 ·intro hroom
  simp only [Builtin.append_,List.getElem?_toArray,Sem.run_bind,Sem.run_pure,Result.andThen_ok]
  simp [run_underlying hs,run_underlying hxT,ya7y hi,hm,Builtin.lenOf,hroom,hnew]
  cases base <;> simp
 ·intro hroom hb hbytes old hold hnew'
  have hnx:=yz1y (sLen + n) sCap (by omega)
  have hbig:¬ (Builtin.nextslicecap (sLen + n) sCap * ie.bytes > 2 ^ 48):=by
   have h1:Builtin.nextslicecap (sLen + n) sCap * ie.bytes≤2 * (sLen + n) * ie.bytes:=Nat.mul_le_mul_right _ hnx
   rw [Nat.mul_assoc] at h1
   omega
  have hb0:¬ ie.bytes = 0:=by omega
  let q:Question:=.appendCap (sLen + n) sCap e
  refine ⟨q.cut (w.tape w.drawn q),by simp only [q,Question.cut];omega,?_⟩
  have hty:∀ w:World,(typeInfo e).run P w = .ok ie w:=fun w=>by simp [typeInfo,hi]
  have hzv:∀ w:World,(zeroValue e).run P w = .ok z w:=fun w=>by simp [zeroValue,typeInfo,hi,hz]
  have ho:=hold w.drew rfl
  have hn:=hnew' w.drew rfl
  have hf:q.forced = false:=rfl
  simp only [Builtin.append_,List.getElem?_toArray,Sem.run_bind,Sem.run_pure,Result.andThen_ok]
  simp [run_underlying hs,run_underlying hxT,ya7y hi,hm,Builtin.lenOf,hroom,hty,hzv,hb0,hbig,ho,hn,newRow,q,Question.forced]
theorem yt5y (hok:TyOk P T) (h:Rel T w0 F0 X γ φ av w tmps S) {t:Nat} (hlt:t < S.st.length) (hno:S.look t = none) (hocc:occSt t S = false) {e:Nat} {ys zs:List (A e)} {old new rest:Array Value} {n newCap:Nat}
  (hn:n = ys.length + zs.length) (h1:Row T w av old 0 e ys) (hl1:old.size = ys.length * T.size e) (h2:Row T w av new 0 e zs) (hl2:new.size = zs.length * T.size e) (hr:rest.size = (newCap - n) * T.size e) (hcap:n≤newCap) (ty:TypeId) :
  ∃ γ' φ' av',Rel T w0 F0 X γ' φ' av' ({ w with drawn:=w.drawn + 1 }.alloc (.cells (old++new++rest) ty)) tmps (S.upd [(t,some (.row e (ys++zs)))]) ∧
   RAV T ({ w with drawn:=w.drawn + 1 }.alloc (.cells (old++new++rest) ty)) av' (S.upd [(t,some (.row e (ys++zs)))]).look γ' (.own e t) (.slice (some ⟨w.heap.size,0,none⟩) n newCap):=by
 have hrow:Row T w av (old++new++rest) 0 e (ys++zs):=by
  have:=Row.append (c1:=old.toList) (c2:=new.toList) (c3:=rest.toList) (by simpa using h1) (by simpa using h2) (by simpa using hl1)
  have e:(old.toList++(new.toList++rest.toList)).toArray = old++new++rest:=by simp
  rwa [e] at this
 have hle:n * T.size e + (newCap - n) * T.size e = newCap * T.size e:=by rw [← Nat.add_mul];congr 1;omega
 obtain ⟨γ',φ',av',hR,hv⟩:=h.new_row (w':={ w with drawn:=w.drawn + 1 }.alloc (.cells (old++new++rest) ty)) (cap:=newCap) hlt hno hocc ty hrow (by simp;omega)
  (by simp only [Array.size_append,hl1,hl2,hr];rw [← Nat.add_mul,← hn];omega) rfl rfl ⟨rfl,fun _=>Nat.le_succ _⟩ rfl
 refine ⟨γ',φ',av',hR,?_⟩
 rw [hn,← List.length_append]
 exact hv
theorem ykjy (z:Array Value) (n:Nat):(Builtin.zeroCells z n).size = n * z.size:=by simp [Builtin.zeroCells]
theorem yy2y (E:Env A) (hok:TyOk E.P E.T) (h:Rel E.T w0 F0 X γ φ av w tmps S) {tags:List Nat} {sT xT:Nat} {sv xv:AV A} {us ux:Value}
  (hk:ycTy E S.look k tags sT (match E.P.underlying xT with | some (.int _)=>true | some _=>false | none=>true) sv xv = some res)
  (hf:∀ v u ts,k v u ts = some res→yazy S u = true) (hs:RAV E.T w av S.look γ sv us) (hx:RAV E.T w av S.look γ xv ux) (ty:TypeId) :
  ∃ u w',(Builtin.append_ #[sT,xT] ty #[us,ux]).run E.P w = .ok u w'∧∃ v upd ts γ' φ' av',k v upd ts = some res∧Rel E.T w0 F0 X γ' φ' av' w' tmps (S.upd upd)∧RAV E.T w' av' (S.upd upd).look γ' v u:=by
 obtain ⟨dx,hxT,hxi⟩:∃ dx,E.P.underlying xT = some dx∧∀ ki,dx≠.int ki:=by
  cases hd:E.P.underlying xT with
  | none=>simp [hd,ycTy] at hk
  | some dx=>exact ⟨dx,rfl,fun ki hki=>by simp [hd,hki,ycTy] at hk⟩
 have hzx:(match E.P.underlying xT with | some (.int _)=>true | some _=>false | none=>true) = false:=by
  rw [hxT];cases dx <;> first | rfl | exact absurd rfl (hxi _)
 rw [hzx] at hk
 unfold ycTy at hk
 cases he:elemT E.P sT with
 | none=>simp [he] at hk
 | some e =>
 cases ht:yboy S.look tags with
 | none=>simp [he,ht] at hk
 | some t =>
 simp only [he,ht] at hk
 split at hk
 case isFalse=>cases hk
 rename_i hc
 obtain ⟨hse,hzl,hby⟩:=hc
 have hsT:=ybDy he
 have hno:=yc5y ht
 obtain ⟨ie,hie⟩:∃ ie,E.P.info? e = some ie:=by
  cases hi:E.P.info? e with
  | none=>simp [Program.bytesOf,hi] at hby
  | some i=>exact ⟨i,rfl⟩
 have hsz:ie.size = E.T.size e:=by rw [hse];simp [Program.cellsOf,hie]
 have hbytes:ie.bytes = E.P.bytesOf e:=by simp [Program.bytesOf,hie]
 obtain ⟨z,hz,hzsz⟩:∃ z,ie.zero = some z∧z.cells.size = E.T.size e:=by
  unfold zeros at hzl
  cases hz:ie.zero with
  | none=>simp [hie,hz] at hzl
  | some z=>simp [hie,hz] at hzl;exact ⟨z,rfl,by rw [hse];exact hzl⟩
 cases sv <;> (try simp only at hk) <;> try (cases hk;done)
 case d dsv =>
  cases dsv <;> (try simp only at hk) <;> try (cases hk;done)
  simp only [RAV,DR.nsl] at hs
  subst hs
  cases hrow:rowOf S.look e xv with
  | none=>simp [hrow] at hk
  | some p =>
   obtain ⟨zs,ts⟩:=p
   simp only [hrow] at hk
   cases hb:decide (zs.length * E.P.bytesOf e≤yaey) with
   | false=>simp [hb] at hk
   | true =>
    rw [hb] at hk
    simp only [cond_true] at hk
    have hb:=of_decide_eq_true hb
    unfold yaey at hb
    obtain ⟨a,cap,rfl,hcap,hcells,_⟩:=yohy h hx hrow
    obtain ⟨new,hnew,hl2,h2,_⟩:=ygsy (w:=w) hok (cap:=cap) hcells
    rw [← hsz] at hnew
    obtain ⟨hlt,hocc⟩:=ycJy (hf _ _ _ hk) (List.mem_singleton.2 rfl) hno
    obtain ⟨hA,hB⟩:=yhoy (w:=w) hsT hxT hxi hie hz ty none a 0 0 zs.length cap new (hnew w rfl)
    by_cases hroom:0 + zs.length≤0
    ·have hz0:zs = []:=List.eq_nil_of_length_eq_zero (by omega)
     subst hz0
     obtain ⟨γ',φ',av',hR,hγ,hφ,_⟩:=h.new (w':=w) hlt hno hocc (.row e ([]:List (A e))) (.slice none 0 0) none (Nat.le_refl _) (fun _ _=>rfl) rfl ⟨rfl,fun _=>Nat.le_refl _⟩ rfl (fun b hb=>by cases hb)
      (fun av' hav hp γ' φ' hγ hφ hγn=>by
       simp only [ROb,RIV]
       exact ⟨none,hφ,by simp [OwnSl,hγ],fun b hb=>by cases hb⟩)
     refine ⟨_,w,hA hroom,_,_,_,γ',φ',av',hk,hR,?_⟩
     simp only [RAV]
     intro o ho
     rw [yhUy,yayy,if_pos ⟨rfl,hlt⟩] at ho
     cases ho
     exact ⟨hγ.symm,rfl⟩
    ·obtain ⟨newCap,hle,hrun⟩:=hB hroom (by rw [hbytes];exact hby) (by rw [hbytes,Nat.zero_add];exact hb) #[] (fun w' _=>by simp [Builtin.firstCells]) hnew
     obtain ⟨γ',φ',av',hR,hv⟩:=yt5y (newCap:=newCap) (n:=0 + zs.length) (ys:=([]:List (A e))) (old:=#[]) (rest:=Builtin.zeroCells z.cells (newCap - (0 + zs.length))) hok h hlt hno hocc (by simp) (fun i x hi=>by simp at hi) (by simp) h2 hl2 (by rw [ykjy,hzsz]) hle e
     exact ⟨_,_,hrun,_,_,_,γ',φ',av',hk,by simpa using hR,by simpa using hv⟩
 case own e' t0 =>
  cases hl:S.look t0 with
  | none=>simp [hl] at hk
  | some ob =>
   rw [hl] at hk
   simp only [RAV] at hs
   obtain ⟨hv,hx2⟩:=hs ob hl
   clear hx2
   cases ob <;> (try simp only at hk) <;> try (cases hk;done)
   rename_i e0 ys0
   cases hrow:rowOf S.look e xv with
   | none=>simp [hrow] at hk
   | some p =>
    obtain ⟨zs,ts⟩:=p
    simp only [hrow] at hk
    cases hcs:castL (e':=e) ys0 with
    | none=>simp [hcs] at hk
    | some ys =>
     obtain ⟨rfl,rfl⟩:=yiwy hcs
     simp only [hcs] at hk
     split at hk
     ·cases hk
     rename_i hts
     cases hb:decide ((ys0.length + zs.length) * E.P.bytesOf e0≤yaey) with
     | false=>simp [hb] at hk
     | true =>
      rw [hb] at hk
      simp only [cond_true] at hk
      have hb:=of_decide_eq_true hb
      unfold yaey at hb
      obtain ⟨a,cap,rfl,hcap,hcells,_⟩:=yohy h hx hrow
      obtain ⟨new,hnew,hl2,h2,hone⟩:=ygsy (w:=w) hok (cap:=cap) hcells
      rw [← hsz] at hnew
      have htt:t≠t0:=by rintro rfl;rw [hl] at hno;cases hno
      obtain ⟨hlt,hocc⟩:=ycJy (hf _ _ _ hk) (List.mem_cons_of_mem _ (List.mem_singleton.2 rfl)) hno
      have hob:=h.ob t0 _ hl
      simp only [ROb,RIV] at hob
      obtain ⟨ob,hφ,hs',hrw⟩:=hob
      have hD:=h.drop t0
      have hpres:Pres w av w av:=Pres.refl _ _
      have hlook1:St.look { S with st:=S.st.set t0 none } t = none:=by
       rw [yayy,if_neg (fun hc=>htt hc.1)];exact hno
      have hocc1:occSt t { S with st:=S.st.set t0 none } = false:=by
       cases ho:occSt t { S with st:=S.st.set t0 none } with
       | false=>rfl
       | true =>
        have:=ygZy (S:=S) (u:=[(t0,none)]) (t:=t) (fun y hy=>by simp at hy;subst hy;rfl) ho
        rw [this] at hocc;cases hocc
      have hgrow:∀ (sLen sCap:Nat) (base:Option Addr) (old:Array Value),us = .slice base sLen sCap→sLen = ys0.length→old.size = ys0.length * E.T.size e0 →
        Row E.T w av old 0 e0 ys0→(∀ w':World,w'.heap = w.heap→(Builtin.firstCells ie.size sLen (.slice base sLen sCap)).run E.P w' = .ok old w')→¬ sLen + zs.length≤sCap →
        ∃ u w',(Builtin.append_ #[sT,xT] ty #[us,.slice a zs.length cap]).run E.P w = .ok u w'∧∃ v upd ts γ' φ' av',k v upd ts = some res∧Rel E.T w0 F0 X γ' φ' av' w' tmps (S.upd upd)∧RAV E.T w' av' (S.upd upd).look γ' v u:=by
       rintro sLen sCap base old rfl rfl holds h1 hold hroom
       obtain ⟨hA,hB⟩:=yhoy (w:=w) hsT hxT hxi hie hz ty base a ys0.length sCap zs.length cap new (hnew w rfl)
       obtain ⟨newCap,hle,hrun⟩:=hB hroom (by rw [hbytes];exact hby) (by rw [hbytes];exact hb) old hold hnew
       obtain ⟨γ',φ',av',hR,hv'⟩:=yt5y (newCap:=newCap) (n:=ys0.length + zs.length) (ys:=ys0) (zs:=zs) (old:=old) (new:=new) (rest:=Builtin.zeroCells z.cells (newCap - (ys0.length + zs.length))) hok hD (by simpa using hlt) hlook1 hocc1 rfl
        (h1.mono hpres) holds (h2.mono hpres) hl2 (by rw [ykjy,hzsz]) hle e0
       exact ⟨_,_,hrun,_,_,_,γ',φ',av',hk,hR,hv'⟩
      subst hv
      cases ob with
      | none =>
       simp only [OwnSl] at hs'
       obtain ⟨hn0,hv0⟩:=hs'
       have hy0:ys0 = []:=List.eq_nil_of_length_eq_zero hn0
       by_cases hroom:0 + zs.length≤0
       ·have hz0:zs = []:=List.eq_nil_of_length_eq_zero (by omega)
        subst hz0 hy0
        obtain ⟨hA,hB⟩:=yhoy (w:=w) hsT hxT hxi hie hz ty none a 0 0 0 cap new (hnew w rfl)
        obtain ⟨γ',φ',av',hR,hγ,hφ',_⟩:=hD.new (w':=w) (t:=t) (by simpa using hlt) hlook1 hocc1 (.row e0 ([]:List (A e0))) (.slice none 0 0) none (Nat.le_refl _) (fun _ _=>rfl) rfl ⟨rfl,fun _=>Nat.le_refl _⟩ rfl (fun b hb=>by cases hb)
         (fun av' hav hp γ' φ' hγ hφ hγn=>by
          simp only [ROb,RIV]
          exact ⟨none,hφ,by simp [OwnSl,hγ],fun b hb=>by cases hb⟩)
        refine ⟨.slice none 0 0,w,?_,_,_,_,γ',φ',av',hk,hR,?_⟩
        ·rw [hv0];exact hA (Nat.le_refl _)
        ·simp only [RAV]
         intro o ho
         have hlk:(S.upd [(t0,none),(t,some (.row e0 ([]++[])))]).look t = some (.row e0 []):=by
          show St.look { fr:=S.fr,st:=(S.st.set t0 none).set t (some (.row e0 [])) } t = _
          have:=yayy { S with st:=S.st.set t0 none } t (some (.row e0 [])) t
          rw [this,if_pos ⟨rfl,by simpa using hlt⟩]
         rw [hlk] at ho
         cases ho
         exact ⟨hγ.symm,rfl⟩
       ·refine hgrow 0 0 none #[] hv0 hn0.symm (by simp [hy0]) (by subst hy0;exact fun i x hi=>by simp at hi) (fun w' _=>by simp [Builtin.firstCells]) hroom
      | some b =>
       simp only [OwnSl] at hs'
       obtain ⟨scap,c,cty,hv0,hle0,hc,hcsz⟩:=hs'
       obtain ⟨c',cty',hc',hrow0⟩:=hrw b rfl
       rw [hc] at hc'
       cases hc'
       by_cases hroom:ys0.length + zs.length≤scap
       ·obtain ⟨hA,_⟩:=yhoy (w:=w) hsT hxT hxi hie hz ty (some ⟨b,0,none⟩) a ys0.length scap zs.length cap new (hnew w rfl)
        have hfit:ys0.length * E.T.size e0 + new.toList.length≤c.size:=by
         have h1:(ys0.length + zs.length) * E.T.size e0≤scap * E.T.size e0:=Nat.mul_le_mul_right _ hroom
         rw [Nat.add_mul] at h1
         simp only [Array.length_toList,hl2]
         omega
        have hst:=run_storeCells_at E.P b (ys0.length * E.T.size e0) cty new.toList 0 c w hc (by simpa using hfit) hone
        have hrun:=hA hroom
        simp only [addr_add,Nat.zero_add,hsz] at hrun
        rw [hst] at hrun
        simp only [Result.andThen_ok,Nat.add_zero] at hrun
        have hspl:c.toList.take (ys0.length * E.T.size e0)++new.toList++c.toList.drop (ys0.length * E.T.size e0 + new.toList.length) = Am.splice c.toList (ys0.length * E.T.size e0) new.toList:=by
         simp [Am.splice]
        rw [hspl] at hrun
        obtain ⟨γ',φ',hR,hγ,hφ',_,hp⟩:=h.turn (t:=t) (w':=w.setRow b (Am.splice c.toList (ys0.length * E.T.size e0) new.toList).toArray) hl hlt (fun _=>⟨hno,hocc⟩) (.row e0 (ys0++zs)) (.slice (some ⟨b,0,none⟩) (ys0.length + zs.length) scap)
         (fun e=>absurd e htt) (fun b' hb'=>Go.setRow_other w b b' _ (fun e=>hb' (by rw [hφ];simp [e]))) (Go.setRow_size _ _ _) rfl ⟨rfl,fun _=>Nat.le_refl _⟩ rfl
         (fun γ' φ' hp hγ' hφ'' hγn hcomp=>by
          simp only [ROb,RIV]
          refine ⟨some b,by rw [hφ''];exact hφ,?_,fun b' hb'=>?_⟩
          ·simp only [OwnSl]
           exact ⟨scap,_,cty,by rw [hγ',List.length_append],by simpa using hroom,setRow_heap _ _ _ _ _ _ hc,by rw [List.size_toArray,ykyy _ _ _ (by simpa using hfit)];simpa using hcsz⟩
          ·cases hb'
           refine ⟨_,cty,setRow_heap _ _ _ _ _ _ hc,?_⟩
           have hlt':(c.toList.take (ys0.length * E.T.size e0)).length = ys0.length * E.T.size e0:=by simp at hfit ⊢;omega
           have:=Row.append (w:=w.setRow b (Am.splice c.toList (ys0.length * E.T.size e0) new.toList).toArray) (av:=av) (ys:=ys0) (zs:=zs) (c1:=c.toList.take (ys0.length * E.T.size e0)) (c2:=new.toList) (c3:=c.toList.drop (ys0.length * E.T.size e0 + new.toList.length))
            (fun i x hi j d hj=>by
             obtain ⟨u,hu,hd⟩:=hrow0 i x hi j d hj
             refine ⟨u,?_,hd.mono hp⟩
             have hil:i < ys0.length:=by
              rcases Nat.lt_or_ge i ys0.length with h | h
              ·exact h
              ·rw [List.getElem?_eq_none h] at hi;cases hi
             have hjl:=yjBy hok hj
             have:(i + 1) * E.T.size e0≤ys0.length * E.T.size e0:=Nat.mul_le_mul_right _ hil
             rw [Nat.add_mul,Nat.one_mul] at this
             simp only [List.getElem?_toArray]
             rw [List.getElem?_take_of_lt (by omega)]
             simpa using hu)
            (by have:=h2.mono hp;simpa using this) hlt'
           exact this)
        refine ⟨_,_,by rw [hv0];exact hrun,_,_,_,γ',φ',av,hk,hR,?_⟩
        simp only [RAV]
        intro o ho
        have hlk:(S.upd [(t0,none),(t,some (.row e0 (ys0++zs)))]).look t = some (.row e0 (ys0++zs)):=by
         show St.look { fr:=S.fr,st:=(S.st.set t0 none).set t (some (.row e0 (ys0++zs))) } t = _
         have:=yayy { S with st:=S.st.set t0 none } t (some (.row e0 (ys0++zs))) t
         rw [this,if_pos ⟨rfl,by simpa using hlt⟩]
        rw [hlk] at ho
        cases ho
        exact ⟨hγ.symm,rfl⟩
       ·obtain ⟨old,hold,hol,h1,_⟩:=ygsy (w:=w) (zs:=ys0) (a:=some ⟨b,0,none⟩) hok (cap:=scap) (fun _=>⟨b,0,c,cty,_,rfl,hc,hrow0⟩)
        rw [← hsz] at hold
        exact hgrow _ scap (some ⟨b,0,none⟩) old hv0 rfl hol h1 hold hroom
end Go.Am
