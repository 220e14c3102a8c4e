/-
The engine: results that lie in memory; functions that only compute; stores and loads anywhere; slices of arrays; stores through slices.
-/
import Derived.Test.YtnckabgaichkkaaEng8
import Derived.Laws.Tables
namespace Go.Proofs.Ytnckabgaichkkaa.Eng
set_option linter.unusedVariables false
set_option linter.unusedSimpArgs false
open Go

section
variable {P : Program} {ops : Array Oper} {md : Mode} {n : Nat} {l : Fr} {B : Base} {hp hq : List Chunk} {rest : List Oper} {o : Oper} {Q : Exit → Act → World → Prop} {F : Act → World → Prop}
/-! ### Results -/
def resOf (tmps : Array Value) : ResultVar → Sem Value
  | .tmp t => pure (tmps.getD t undef)
  | .cell a t => do loadVar t (← asAddr (tmps.getD a undef))
def Res1 (P : Program) (n : Nat) (l : Fr) (B : Base) (hp : List Chunk) (r : ResultVar) (v : Value) : Prop := ∀ a w, Has a n l → St B w hp → (resOf a.tmps r).run P w = .ok v w
theorem res_t {t : Nat} {v : Value} (h : look l t = some v) : Res1 P n l B hp (.tmp t) v := fun a w hA hS => by
  simp [resOf, hA.slot t v h]
theorem res_c {s t b T : Nat} {cs : List Value} {r : TRow} {tab : List TRow} (hT : TabOk P tab) (hl : look l s = some (.pointer (some ⟨b, 0, none⟩))) (ht : nth tab t = some r) (ha : r.kind.agg = true) (i : Nat) (hi : nth hp i = some (cells b T cs)) (hc : cs.length = r.size) :
    Res1 P n l B hp (.cell s t) (.agg cs.toArray) := fun a w hA hS => by
  rw [nth_eq] at hi
  have hlc : (loadCells ⟨b, 0, none⟩ cs.length).run P w = .ok cs.toArray w :=
    run_loadCells_list (P := P) w ⟨b, 0, none⟩ cs (fun j v hv => by
      rw [add_mk, Nat.zero_add]
      exact hS.cell i hi hv)
  simp only [resOf, look_getD hA hl, asAddr, loadVar, x_isAgg hT ht, ha, x_sizeOf hT ht, ← hc, hlc, Sem.run_bind, Result.andThen, Sem.run_pure, if_true]
theorem res_c1 {s t b T : Nat} {cs : List Value} {v : Value} {r : TRow} {tab : List TRow} (hT : TabOk P tab) (hl : look l s = some (.pointer (some ⟨b, 0, none⟩))) (ht : nth tab t = some r) (ha : r.kind.agg = false) (i : Nat) (hi : nth hp i = some (cells b T cs)) (hc : cs[0]? = some v) :
    Res1 P n l B hp (.cell s t) v := fun a w hA hS => by
  rw [nth_eq] at hi
  simp [resOf, look_getD hA hl, asAddr, loadVar, x_isAgg hT ht, ha, load, Sem.run, hS.cell i hi hc, Sem.run_bind, Sem.run_pure, Result.andThen]
section
variable {fn : Func} {X : Type} {ok : X → Prop} {v : X → Value} {po : X → List Chunk}
theorem run_results (fn : Func) (tmps : Array Value) : results fn tmps = (do
    let vs ← fn.results.mapM (resOf tmps)
    pure (if h : vs.size = 1 then vs[0] else .tuple vs)) := by
  unfold results resOf
  rfl
theorem f_r1 {r : ResultVar} {u : Value} (hr : fn.results = #[r]) (h1 : Res1 P n l B hp r u) (x : X) (hok : ok x) (hv : v x = u) (hS' : ∀ w, St B w hp → St B w (po x)) :
    S n l B hp (bodyPost P fn (fun e w' => ∃ x, ok x ∧ e = .returned (v x) ∧ St B w' (po x)) .ret) := fun a w hA hS =>
  ⟨hA.defers, u, by simp [run_results, hr, h1 a w hA hS, Sem.run_bind, Sem.run_pure, Result.andThen], x, hok, by rw [hv], hS' w hS⟩
theorem f_r2 {r r' : ResultVar} {u u' : Value} (hr : fn.results = #[r, r']) (h1 : Res1 P n l B hp r u) (h2 : Res1 P n l B hp r' u') (x : X) (hok : ok x) (hv : v x = .tuple #[u, u']) (hS' : ∀ w, St B w hp → St B w (po x)) :
    S n l B hp (bodyPost P fn (fun e w' => ∃ x, ok x ∧ e = .returned (v x) ∧ St B w' (po x)) .ret) := fun a w hA hS =>
  ⟨hA.defers, .tuple #[u, u'], by simp [run_results, hr, h1 a w hA hS, h2 a w hA hS, Sem.run_bind, Sem.run_pure, Result.andThen], x, hok, by rw [hv], hS' w hS⟩
theorem f_r3 {r r' r'' : ResultVar} {u u' u'' : Value} (hr : fn.results = #[r, r', r'']) (h1 : Res1 P n l B hp r u) (h2 : Res1 P n l B hp r' u') (h3 : Res1 P n l B hp r'' u'') (x : X) (hok : ok x) (hv : v x = .tuple #[u, u', u'']) (hS' : ∀ w, St B w hp → St B w (po x)) :
    S n l B hp (bodyPost P fn (fun e w' => ∃ x, ok x ∧ e = .returned (v x) ∧ St B w' (po x)) .ret) := fun a w hA hS =>
  ⟨hA.defers, .tuple #[u, u', u''], by simp [run_results, hr, h1 a w hA hS, h2 a w hA hS, h3 a w hA hS, Sem.run_bind, Sem.run_pure, Result.andThen], x, hok, by rw [hv], hS' w hS⟩
end

/-! ### Functions that only compute: they need nothing of memory, and leave nothing behind -/
def Pf (P : Program) (f : FuncId) (vs : List Value) (v : Value) : Prop := Does P f vs [] (fun _ : Unit => True) (fun _ => v) (fun _ => [])
theorem St.none {w : World} (h : St B w hp) : St B w [] := h.sub (List.nil_sublist _)
section
variable {fn : Func} {v : Value}
theorem p_r1 {r : ResultVar} (hr : fn.results = #[r]) (h1 : Res1 P n l B hp r v) : S n l B hp (bodyPost P fn (fun e w' => ∃ x : Unit, True ∧ e = .returned v ∧ St B w' []) .ret) := f_r1 (ok := fun _ => True) (v := fun _ => v) (po := fun _ => []) hr h1 () trivial rfl fun _ h => h.none
theorem p_r2 {r r' : ResultVar} {u u' : Value} (hr : fn.results = #[r, r']) (h1 : Res1 P n l B hp r u) (h2 : Res1 P n l B hp r' u') (hv : v = .tuple #[u, u']) : S n l B hp (bodyPost P fn (fun e w' => ∃ x : Unit, True ∧ e = .returned v ∧ St B w' []) .ret) := f_r2 (ok := fun _ => True) (v := fun _ => v) (po := fun _ => []) hr h1 h2 () trivial hv fun _ h => h.none
theorem p_r3 {r r' r'' : ResultVar} {u u' u'' : Value} (hr : fn.results = #[r, r', r'']) (h1 : Res1 P n l B hp r u) (h2 : Res1 P n l B hp r' u') (h3 : Res1 P n l B hp r'' u'') (hv : v = .tuple #[u, u', u'']) : S n l B hp (bodyPost P fn (fun e w' => ∃ x : Unit, True ∧ e = .returned v ∧ St B w' []) .ret) := f_r3 (ok := fun _ => True) (v := fun _ => v) (po := fun _ => []) hr h1 h2 h3 () trivial hv fun _ h => h.none
end
section
variable {d : Nat} {ty : TypeId} {pos : String} {aft : Array Edge}
def Mode.canCall : Mode → Bool
  | .list _ => true
  | .quiet _ => true
  | .mixed _ => true
  | .mono _ _ _ _ => true
  | _ => false
theorem o_fn {md : Mode} (hmd : md.canCall = true) {f : FuncId} {fn : Func} (hf : P.funcs[f]? = some fn) (hb : fn.body.isNone = false) (hname : (fn.name == "runtime.NumGoroutine") = false) {args : List Operand} {ats : Array TypeId} {vs : List Value} (hargs : evs l args = some vs) {v : Value}
    (spec : Pf P f vs v) (hd : d < n) (k : Z P ops md n ((d, v) :: l) B hp rest) : Z P ops md n l B hp (⟨some d, .call ⟨.value (.func f), args.toArray, ats⟩, ty, pos, aft, none⟩ :: rest) := by
  cases md with
  | still F => cases hmd
  | mixedx F => cases hmd
  | keep ol wr F => cases hmd
  | list Q => exact o_call hf hb hname hargs spec (List.Perm.refl _) hd fun _ _ => k
  | quiet F => exact o_callq (.inl ⟨F, .inl rfl⟩) hf hb hname hargs spec (List.Perm.refl _) hd (fun _ _ => rfl) (fun _ _ => List.Sublist.refl _) k
  | mixed F => exact o_callq (.inl ⟨F, .inr rfl⟩) hf hb hname hargs spec (List.Perm.refl _) hd (fun _ _ => rfl) (fun _ _ => List.Sublist.refl _) k
  | mono el wr R news => exact o_callq (.inr ⟨el, wr, R, news, rfl⟩) hf hb hname hargs spec (List.Perm.refl _) hd (fun _ _ => rfl) (fun _ _ => List.Sublist.refl _) k

theorem o_mul {t t' : TypeId} {x y : Operand} {i j : Int} (hx : ev l x = some (.int .i64 i)) (hy : ev l y = some (.int .i64 j)) (h0 : -9223372036854775808 ≤ i * j) (h1 : i * j ≤ 9223372036854775807) (hd : d < n) (kk : Z P ops md n ((d, .int .i64 (i * j)) :: l) B hp rest) :
    Z P ops md n l B hp (⟨some d, .binOp .mul t x y t', ty, pos, aft, none⟩ :: rest) := o_mulw hx hy hd (by rw [wrap64_id h0 h1]; exact kk)
theorem o_ande {t t' : TypeId} {x y : Operand} {k : IntKind} {i j v : Int} (he : bitv .and k i j = v) (hx : ev l x = some (.int k i)) (hy : ev l y = some (.int k j)) (hd : d < n) (kk : Z P ops md n ((d, .int k v) :: l) B hp rest) :
    Z P ops md n l B hp (⟨some d, .binOp .and t x y t', ty, pos, aft, none⟩ :: rest) := o_and hx hy hd (he ▸ kk)
theorem wrap8_id {x : Int} (h0 : 0 ≤ x) (h1 : x < 256) : IntKind.u8.wrap x = x := by
  simp only [IntKind.wrap, IntKind.bits, IntKind.signed]
  simp
  omega
theorem wrap16_id {x : Int} (h0 : 0 ≤ x) (h1 : x < 65536) : IntKind.u16.wrap x = x := by
  simp only [IntKind.wrap, IntKind.bits, IntKind.signed]
  simp
  omega
theorem wrap32_id {x : Int} (h0 : 0 ≤ x) (h1 : x < 4294967296) : IntKind.u32.wrap x = x := by
  simp only [IntKind.wrap, IntKind.bits, IntKind.signed]
  simp
  omega
theorem o_quo8 {t t' : TypeId} {x y : Operand} {i j : Int} (hx : ev l x = some (.int .u8 i)) (hy : ev l y = some (.int .u8 j)) (h0 : 0 ≤ i) (h1 : 0 < j) (h2 : i < 256) (hd : d < n) (kk : Z P ops md n ((d, .int .u8 (i / j)) :: l) B hp rest) :
    Z P ops md n l B hp (⟨some d, .binOp .quo t x y t', ty, pos, aft, none⟩ :: rest) :=
  o_bin hx hy hd (fun w => by
    have h3 : i.tdiv j = i / j := Int.tdiv_eq_ediv_of_nonneg h0
    have h4 : 0 ≤ i / j := Int.ediv_nonneg h0 (by omega)
    have h5 : i / j ≤ i := Int.ediv_le_self _ h0
    have h6 : j ≠ 0 := by omega
    simp [binOp, Op.intDiv, h3, h6, Sem.run_pure, wrap8_id h4 (by omega)]) kk
theorem o_remk {t t' : TypeId} {x y : Operand} {k : IntKind} {i j : Int} (hx : ev l x = some (.int k i)) (hy : ev l y = some (.int k j)) (h0 : 0 ≤ i) (h1 : 0 < j) (hd : d < n) (kk : Z P ops md n ((d, .int k (i % j)) :: l) B hp rest) :
    Z P ops md n l B hp (⟨some d, .binOp .rem t x y t', ty, pos, aft, none⟩ :: rest) :=
  o_bin hx hy hd (fun w => by
    have h3 : i.tmod j = i % j := Int.tmod_eq_emod_of_nonneg h0
    have h6 : j ≠ 0 := by omega
    simp [binOp, Op.intDiv, h3, h6, Sem.run_pure]) kk
theorem o_remt {t t' : TypeId} {x y : Operand} {k : IntKind} {i j : Int} (hx : ev l x = some (.int k i)) (hy : ev l y = some (.int k j)) (h1 : 0 < j) (hd : d < n) (kk : Z P ops md n ((d, .int k (i.tmod j)) :: l) B hp rest) :
    Z P ops md n l B hp (⟨some d, .binOp .rem t x y t', ty, pos, aft, none⟩ :: rest) :=
  o_bin hx hy hd (fun w => by
    have h6 : j ≠ 0 := by omega
    simp [binOp, Op.intDiv, h6, Sem.run_pure]) kk
theorem o_quot {t t' : TypeId} {x y : Operand} {k : IntKind} {i j : Int} (hx : ev l x = some (.int k i)) (hy : ev l y = some (.int k j)) (h1 : 0 < j) (hd : d < n) (kk : Z P ops md n ((d, .int k (k.wrap (i.tdiv j))) :: l) B hp rest) :
    Z P ops md n l B hp (⟨some d, .binOp .quo t x y t', ty, pos, aft, none⟩ :: rest) :=
  o_bin hx hy hd (fun w => by
    have h6 : j ≠ 0 := by omega
    simp [binOp, Op.intDiv, h6, Sem.run_pure]) kk
/-! ### Structs and arrays put together of parts -/
def Filled (place : Nat → Option (Nat × Nat)) : List (Nat × Value) → List Value → List Value → Prop
  | [], cs, vs => cs = vs
  | (i, v) :: r, cs, vs => ∃ off size, place i = some (off, size) ∧ v.cells.toList.length = size ∧ off + size ≤ cs.length ∧ Filled place r (cs.take off ++ v.cells.toList ++ cs.drop (off + size)) vs
theorem fold_set : ∀ (l : List Value) (k off : Nat) (cs : Array Value), off + k + l.length ≤ cs.size → ((l.zipIdx k).foldl (fun cs (x : Value × Nat) => cs.setIfInBounds (off + x.2) x.1) cs).toList = cs.toList.take (off + k) ++ l ++ cs.toList.drop (off + k + l.length)
  | [], k, off, cs, h => by simp
  | x :: l, k, off, cs, h => by
    rw [List.zipIdx_cons, List.foldl_cons, fold_set l (k + 1) off _ (by simp at h ⊢; omega)]
    simp only [Array.toList_setIfInBounds, List.length_cons] at h ⊢
    rw [show off + (k + 1) = off + k + 1 by omega]
    have h1 : off + k < cs.toList.length := by simp; omega
    rw [List.take_succ_eq_append_getElem (by simpa using h1), List.take_set_of_le (Nat.le_refl _), List.drop_set_of_lt (by omega)]
    simp
    rw [show off + k + 1 + l.length = off + k + (l.length + 1) by omega]
theorem fill_run {place : Nat → Option (Nat × Nat)} : ∀ (ps : List (Nat × Value)) (cs : Array Value) (vs : List Value), Filled place ps cs.toList vs → Instr.fill place cs ps = some vs.toArray
  | [], cs, vs, h => by simp [Filled] at h; subst h; simp [Instr.fill]
  | (i, v) :: r, cs, vs, h => by
    obtain ⟨off, size, hp, hl, hfit, hr⟩ := h
    have hl' : v.cells.size = size := by simpa using hl
    unfold Instr.fill
    simp only [hp]
    have hc : ¬ (v.cells.size ≠ size || off + v.cells.size > cs.size) = true := by
      simp at hfit
      simp [hl']
      omega
    rw [if_neg hc]
    refine fill_run r _ vs ?_
    have e : (v.cells.zipIdx.foldl (fun cs (x : Value × Nat) => cs.setIfInBounds (off + x.2) x.1) cs).toList = cs.toList.take off ++ v.cells.toList ++ cs.toList.drop (off + size) := by
      rw [← Array.foldl_toList, Array.toList_zipIdx]
      have := fold_set v.cells.toList 0 off cs (by simp at hfit ⊢; omega)
      simpa [hl'] using this
    rw [← e] at hr
    exact hr
theorem o_buildf {t s b : Nat} {fs : List (Nat × Nat)} {tab : List TRow} (hT : TabOk P tab) {ps : List (Nat × Operand)} {pvs : List (Nat × Value)} {zs vs : List Value} {pl : List (Nat × Nat)} (hx : evp l ps = some pvs) (ht : nth tab t = some ⟨.str fs, s, b⟩) (hz : (P.info? t).map (·.zero) = some (some (.agg zs.toArray)))
    (hpl : fs.mapM (fun f => (nth tab f.2).map fun r => (f.1, r.size)) = some pl) (hf : Filled (fun i => pl[i]?) pvs zs vs) (hd : d < n) (kk : Z P ops md n ((d, .agg vs.toArray) :: l) B hp rest) :
    Z P ops md n l B hp (⟨some d, .build t ps.toArray, ty, pos, aft, none⟩ :: rest) :=
  o_build (pvs := pvs) hx (fun w => by
    obtain ⟨dd, _, hu, hk, -⟩ := hT t _ ht
    cases dd <;> simp [kindOf] at hk
    rename_i fields
    subst hk
    cases hi : P.info? t with
    | none => simp [hi] at hz
    | some it =>
      simp [hi] at hz
      have hmap : ∀ (L : List Field) (pl : List (Nat × Nat)), (L.map fun f => (f.offset, f.type)).mapM (fun f => (nth tab f.2).map fun r => (f.1, r.size)) = some pl → L.mapM (fun f => (P.info? f.type).map fun i => (f.offset, i.size)) = some pl := by
        intro L
        induction L with
        | nil => intro pl h; simpa using h
        | cons f L ih =>
          intro pl h
          simp only [List.map_cons, List.mapM_cons, Option.bind_eq_bind, Option.bind_eq_some_iff, Option.pure_def] at h ⊢
          obtain ⟨x, hx, y, hy, e⟩ := h
          obtain ⟨r, hr, e2⟩ := Option.map_eq_some_iff.1 hx
          obtain ⟨_, i', _, _, hi', hs, _⟩ := hT _ _ hr
          exact ⟨x, by rw [hi']; simp [← e2, hs], y, ih y hy, e⟩
      have hpl' := run_places (P := P) w fields.toList pl (hmap _ _ hpl)
      have hfill : Instr.fill (fun x => pl[x]?) (Value.agg zs.toArray).cells pvs = some vs.toArray := fill_run pvs zs.toArray vs (by simpa using hf)
      simp [Instr.build, run_underlying hu, typeInfo, zeroValue, hi, hz, Array.mapM_eq_mapM_toList, hpl', hfill]) hd kk
/-! ### Stores and loads anywhere -/
theorem set_perm {α : Type} : ∀ (l : List α) (i : Nat) (x : α), i < l.length → (l.set i x).Perm (x :: l.eraseIdx i)
  | [], i, x, h => by simp at h
  | y :: r, 0, x, _ => by simp
  | y :: r, i + 1, x, h => by
    simp only [List.set_cons_succ, List.eraseIdx_cons_succ]
    exact ((set_perm r i x (by simpa using h)).cons y).trans (List.Perm.swap _ _ _)
theorem z_at {md : Mode} (hme : md.canEff = true) {op : Op} {c c' : Chunk} (i : Nat) (hi : nth hp i = some c) (hf : md.fits op .eff)
    (hex : ∀ a w, Has a n l → St B w (c :: hp.eraseIdx i) → ∃ w', (execOp a.eval ⟨none, op, ty, pos, aft, none⟩).run P w = .ok .skip w' ∧ St B w' (c' :: hp.eraseIdx i))
    (k : Z P ops md n l B (hp.set i c') rest) : Z P ops md n l B hp (⟨none, op, ty, pos, aft, none⟩ :: rest) := by
  rw [nth_eq] at hi
  exact z_eff hme (v := undef) (n' := .skip) hf (.inr ⟨rfl, rfl⟩) (fun _ h => by cases h) (fun a w hA hS => by
    obtain ⟨w', h1, h2⟩ := hex a w hA (hS.front i hi)
    exact ⟨w', h1, h2.perm (set_perm hp i c' (List.getElem?_eq_some_iff.1 hi).1).symm⟩) k
theorem o_store_at {md : Mode} (hme : md.canEff = true) (i : Nat) {t b o T : Nat} {cs cs' : List Value} {u v : Value} {r : TRow} {tab : List TRow} (hT : TabOk P tab) {x y : Operand} (hx : ev l x = some (.pointer (some ⟨b, o, none⟩))) (hy : ev l y = some v) (hi : nth hp i = some (cells b T cs)) (ht : nth tab t = some r)
    (hs : Nat.beq r.size 1 = true) (hv : oneB v = true) (hc : cs[o]? = some u) (hset : cs.set o v = cs') (k : Z P ops md n l B (hp.set i (cells b T cs')) rest) :
    Z P ops md n l B hp (⟨none, .store t x y, ty, pos, aft, none⟩ :: rest) :=
  z_at hme i hi (Mode.fits_of rfl) (fun a w hA hS => by
    have hs' : r.size = 1 := Nat.eq_of_beq_eq_true hs
    refine ⟨_, ?_, hset ▸ hS.store (o := o) v⟩
    simp only [execOp, hA.eval hx, hA.eval hy, Instr.storeAt, Instr.sureAddr, storeVar, cells_of_one hv, x_sizeOf hT ht, hs', Sem.run_bind, Result.andThen, Sem.run_pure]
    simp [storeCells, add_mk, x_store1 hv (hS.cell 0 rfl hc) (hS.frozen 0 rfl), Sem.run_bind, Sem.run_pure, Result.andThen]) k
theorem o_storew_at {md : Mode} (hme : md.canEff = true) (i : Nat) {t b o T : Nat} {cs cs' vs : List Value} {r : TRow} {tab : List TRow} (hT : TabOk P tab) {x y : Operand} (hx : ev l x = some (.pointer (some ⟨b, o, none⟩))) (hy : ev l y = some (.agg vs.toArray)) (hi : nth hp i = some (cells b T cs)) (ht : nth tab t = some r)
    (hs : vs.length = r.size) (hone : vs.all (·.oneCell') = true) (hfit : o + vs.length ≤ cs.length) (hset : cs.take o ++ vs ++ cs.drop (o + vs.length) = cs') (k : Z P ops md n l B (hp.set i (cells b T cs')) rest) :
    Z P ops md n l B hp (⟨none, .store t x y, ty, pos, aft, none⟩ :: rest) :=
  z_at hme i hi (Mode.fits_of rfl) (fun a w hA hS => by
    have hc : w.heap[b]? = some (.cells cs.toArray T (0, 0)) := hS.at_ 0 rfl
    have hst := run_storeCells_at P b o T vs 0 cs.toArray w hc (by simpa using hfit) (by simpa using hone)
    simp only [Nat.add_zero, hset] at hst
    refine ⟨w.setRow b cs'.toArray, ?_, hS.write (w' := w.setRow b cs'.toArray) (d := cells b T cs') rfl rfl rfl (setRow_size _ _ _) (fun k hk => setRow_other w b k _ hk) (setRow_heap w b cs.toArray cs'.toArray T (0, 0) hc) (fun k hk => hk)⟩
    simp only [execOp, hA.eval hx, hA.eval hy, Instr.storeAt, Instr.sureAddr, storeVar, Value.cells, x_sizeOf hT ht, ← hs, Sem.run_bind, Result.andThen, Sem.run_pure, List.size_toArray, ne_eq, not_true_eq_false, if_false, hst]) k
/-- A whole block is written anew. -/
theorem o_storeb {md : Mode} (hme : md.canEff = true) (i : Nat) {t b T : Nat} {cs vs : List Value} {r : TRow} {tab : List TRow} (hT : TabOk P tab) {x y : Operand} (hx : ev l x = some (.pointer (some ⟨b, 0, none⟩))) (hy : ev l y = some (.agg vs.toArray)) (hi : nth hp i = some (cells b T cs)) (ht : nth tab t = some r)
    (hs : vs.length = r.size) (hone : vs.all (·.oneCell') = true) (hfit : cs.length = vs.length) (k : Z P ops md n l B (hp.set i (cells b T vs)) rest) :
    Z P ops md n l B hp (⟨none, .store t x y, ty, pos, aft, none⟩ :: rest) :=
  o_storew_at hme i hT hx hy hi ht hs hone (by omega) (by rw [← hfit]; simp) k
theorem o_storeb0 {md : Mode} (hme : md.canEff = true) {t b T : Nat} {cs vs : List Value} {r : TRow} {tab : List TRow} (hT : TabOk P tab) {x y : Operand} (hx : ev l x = some (.pointer (some ⟨b, 0, none⟩))) (hy : ev l y = some (.agg vs.toArray)) (ht : nth tab t = some r)
    (hs : vs.length = r.size) (hone : vs.all (·.oneCell') = true) (hfit : cs.length = vs.length) (k : Z P ops md n l B (cells b T vs :: hp) rest) : Z P ops md n l B (cells b T cs :: hp) (⟨none, .store t x y, ty, pos, aft, none⟩ :: rest) := o_storeb hme 0 hT hx hy rfl ht hs hone hfit k
theorem o_storeb1 {c0 : Chunk} {md : Mode} (hme : md.canEff = true) {t b T : Nat} {cs vs : List Value} {r : TRow} {tab : List TRow} (hT : TabOk P tab) {x y : Operand} (hx : ev l x = some (.pointer (some ⟨b, 0, none⟩))) (hy : ev l y = some (.agg vs.toArray)) (ht : nth tab t = some r)
    (hs : vs.length = r.size) (hone : vs.all (·.oneCell') = true) (hfit : cs.length = vs.length) (k : Z P ops md n l B (c0 :: cells b T vs :: hp) rest) : Z P ops md n l B (c0 :: cells b T cs :: hp) (⟨none, .store t x y, ty, pos, aft, none⟩ :: rest) := o_storeb hme 1 hT hx hy rfl ht hs hone hfit k
theorem o_store1 {c0 : Chunk} {md : Mode} (hme : md.canEff = true) {t b o T : Nat} {cs cs' : List Value} {u v : Value} {r : TRow} {tab : List TRow} (hT : TabOk P tab) {x y : Operand} (hx : ev l x = some (.pointer (some ⟨b, o, none⟩))) (hy : ev l y = some v) (ht : nth tab t = some r)
    (hs : Nat.beq r.size 1 = true) (hv : oneB v = true) (hc : cs[o]? = some u) (hset : cs.set o v = cs') (k : Z P ops md n l B (c0 :: cells b T cs' :: hp) rest) : Z P ops md n l B (c0 :: cells b T cs :: hp) (⟨none, .store t x y, ty, pos, aft, none⟩ :: rest) := o_store_at hme 1 hT hx hy rfl ht hs hv hc hset k
theorem o_storeb2 {c0 c1 : Chunk} {md : Mode} (hme : md.canEff = true) {t b T : Nat} {cs vs : List Value} {r : TRow} {tab : List TRow} (hT : TabOk P tab) {x y : Operand} (hx : ev l x = some (.pointer (some ⟨b, 0, none⟩))) (hy : ev l y = some (.agg vs.toArray)) (ht : nth tab t = some r)
    (hs : vs.length = r.size) (hone : vs.all (·.oneCell') = true) (hfit : cs.length = vs.length) (k : Z P ops md n l B (c0 :: c1 :: cells b T vs :: hp) rest) : Z P ops md n l B (c0 :: c1 :: cells b T cs :: hp) (⟨none, .store t x y, ty, pos, aft, none⟩ :: rest) := o_storeb hme 2 hT hx hy rfl ht hs hone hfit k
theorem o_store2 {c0 c1 : Chunk} {md : Mode} (hme : md.canEff = true) {t b o T : Nat} {cs cs' : List Value} {u v : Value} {r : TRow} {tab : List TRow} (hT : TabOk P tab) {x y : Operand} (hx : ev l x = some (.pointer (some ⟨b, o, none⟩))) (hy : ev l y = some v) (ht : nth tab t = some r)
    (hs : Nat.beq r.size 1 = true) (hv : oneB v = true) (hc : cs[o]? = some u) (hset : cs.set o v = cs') (k : Z P ops md n l B (c0 :: c1 :: cells b T cs' :: hp) rest) : Z P ops md n l B (c0 :: c1 :: cells b T cs :: hp) (⟨none, .store t x y, ty, pos, aft, none⟩ :: rest) := o_store_at hme 2 hT hx hy rfl ht hs hv hc hset k
theorem o_storeb3 {c0 c1 c2 : Chunk} {md : Mode} (hme : md.canEff = true) {t b T : Nat} {cs vs : List Value} {r : TRow} {tab : List TRow} (hT : TabOk P tab) {x y : Operand} (hx : ev l x = some (.pointer (some ⟨b, 0, none⟩))) (hy : ev l y = some (.agg vs.toArray)) (ht : nth tab t = some r)
    (hs : vs.length = r.size) (hone : vs.all (·.oneCell') = true) (hfit : cs.length = vs.length) (k : Z P ops md n l B (c0 :: c1 :: c2 :: cells b T vs :: hp) rest) : Z P ops md n l B (c0 :: c1 :: c2 :: cells b T cs :: hp) (⟨none, .store t x y, ty, pos, aft, none⟩ :: rest) := o_storeb hme 3 hT hx hy rfl ht hs hone hfit k
theorem o_store3 {c0 c1 c2 : Chunk} {md : Mode} (hme : md.canEff = true) {t b o T : Nat} {cs cs' : List Value} {u v : Value} {r : TRow} {tab : List TRow} (hT : TabOk P tab) {x y : Operand} (hx : ev l x = some (.pointer (some ⟨b, o, none⟩))) (hy : ev l y = some v) (ht : nth tab t = some r)
    (hs : Nat.beq r.size 1 = true) (hv : oneB v = true) (hc : cs[o]? = some u) (hset : cs.set o v = cs') (k : Z P ops md n l B (c0 :: c1 :: c2 :: cells b T cs' :: hp) rest) : Z P ops md n l B (c0 :: c1 :: c2 :: cells b T cs :: hp) (⟨none, .store t x y, ty, pos, aft, none⟩ :: rest) := o_store_at hme 3 hT hx hy rfl ht hs hv hc hset k
theorem o_storeb4 {c0 c1 c2 c3 : Chunk} {md : Mode} (hme : md.canEff = true) {t b T : Nat} {cs vs : List Value} {r : TRow} {tab : List TRow} (hT : TabOk P tab) {x y : Operand} (hx : ev l x = some (.pointer (some ⟨b, 0, none⟩))) (hy : ev l y = some (.agg vs.toArray)) (ht : nth tab t = some r)
    (hs : vs.length = r.size) (hone : vs.all (·.oneCell') = true) (hfit : cs.length = vs.length) (k : Z P ops md n l B (c0 :: c1 :: c2 :: c3 :: cells b T vs :: hp) rest) : Z P ops md n l B (c0 :: c1 :: c2 :: c3 :: cells b T cs :: hp) (⟨none, .store t x y, ty, pos, aft, none⟩ :: rest) := o_storeb hme 4 hT hx hy rfl ht hs hone hfit k
theorem o_store4 {c0 c1 c2 c3 : Chunk} {md : Mode} (hme : md.canEff = true) {t b o T : Nat} {cs cs' : List Value} {u v : Value} {r : TRow} {tab : List TRow} (hT : TabOk P tab) {x y : Operand} (hx : ev l x = some (.pointer (some ⟨b, o, none⟩))) (hy : ev l y = some v) (ht : nth tab t = some r)
    (hs : Nat.beq r.size 1 = true) (hv : oneB v = true) (hc : cs[o]? = some u) (hset : cs.set o v = cs') (k : Z P ops md n l B (c0 :: c1 :: c2 :: c3 :: cells b T cs' :: hp) rest) : Z P ops md n l B (c0 :: c1 :: c2 :: c3 :: cells b T cs :: hp) (⟨none, .store t x y, ty, pos, aft, none⟩ :: rest) := o_store_at hme 4 hT hx hy rfl ht hs hv hc hset k
theorem o_storeb5 {c0 c1 c2 c3 c4 : Chunk} {md : Mode} (hme : md.canEff = true) {t b T : Nat} {cs vs : List Value} {r : TRow} {tab : List TRow} (hT : TabOk P tab) {x y : Operand} (hx : ev l x = some (.pointer (some ⟨b, 0, none⟩))) (hy : ev l y = some (.agg vs.toArray)) (ht : nth tab t = some r)
    (hs : vs.length = r.size) (hone : vs.all (·.oneCell') = true) (hfit : cs.length = vs.length) (k : Z P ops md n l B (c0 :: c1 :: c2 :: c3 :: c4 :: cells b T vs :: hp) rest) : Z P ops md n l B (c0 :: c1 :: c2 :: c3 :: c4 :: cells b T cs :: hp) (⟨none, .store t x y, ty, pos, aft, none⟩ :: rest) := o_storeb hme 5 hT hx hy rfl ht hs hone hfit k
theorem o_store5 {c0 c1 c2 c3 c4 : Chunk} {md : Mode} (hme : md.canEff = true) {t b o T : Nat} {cs cs' : List Value} {u v : Value} {r : TRow} {tab : List TRow} (hT : TabOk P tab) {x y : Operand} (hx : ev l x = some (.pointer (some ⟨b, o, none⟩))) (hy : ev l y = some v) (ht : nth tab t = some r)
    (hs : Nat.beq r.size 1 = true) (hv : oneB v = true) (hc : cs[o]? = some u) (hset : cs.set o v = cs') (k : Z P ops md n l B (c0 :: c1 :: c2 :: c3 :: c4 :: cells b T cs' :: hp) rest) : Z P ops md n l B (c0 :: c1 :: c2 :: c3 :: c4 :: cells b T cs :: hp) (⟨none, .store t x y, ty, pos, aft, none⟩ :: rest) := o_store_at hme 5 hT hx hy rfl ht hs hv hc hset k
theorem o_storeb6 {c0 c1 c2 c3 c4 c5 : Chunk} {md : Mode} (hme : md.canEff = true) {t b T : Nat} {cs vs : List Value} {r : TRow} {tab : List TRow} (hT : TabOk P tab) {x y : Operand} (hx : ev l x = some (.pointer (some ⟨b, 0, none⟩))) (hy : ev l y = some (.agg vs.toArray)) (ht : nth tab t = some r)
    (hs : vs.length = r.size) (hone : vs.all (·.oneCell') = true) (hfit : cs.length = vs.length) (k : Z P ops md n l B (c0 :: c1 :: c2 :: c3 :: c4 :: c5 :: cells b T vs :: hp) rest) : Z P ops md n l B (c0 :: c1 :: c2 :: c3 :: c4 :: c5 :: cells b T cs :: hp) (⟨none, .store t x y, ty, pos, aft, none⟩ :: rest) := o_storeb hme 6 hT hx hy rfl ht hs hone hfit k
theorem o_store6 {c0 c1 c2 c3 c4 c5 : Chunk} {md : Mode} (hme : md.canEff = true) {t b o T : Nat} {cs cs' : List Value} {u v : Value} {r : TRow} {tab : List TRow} (hT : TabOk P tab) {x y : Operand} (hx : ev l x = some (.pointer (some ⟨b, o, none⟩))) (hy : ev l y = some v) (ht : nth tab t = some r)
    (hs : Nat.beq r.size 1 = true) (hv : oneB v = true) (hc : cs[o]? = some u) (hset : cs.set o v = cs') (k : Z P ops md n l B (c0 :: c1 :: c2 :: c3 :: c4 :: c5 :: cells b T cs' :: hp) rest) : Z P ops md n l B (c0 :: c1 :: c2 :: c3 :: c4 :: c5 :: cells b T cs :: hp) (⟨none, .store t x y, ty, pos, aft, none⟩ :: rest) := o_store_at hme 6 hT hx hy rfl ht hs hv hc hset k
/-- A part of a block, a struct or an array. -/
theorem o_loadp {t b o T : Nat} {cs vs : List Value} {r : TRow} {tab : List TRow} (hT : TabOk P tab) {x : Operand} (hx : ev l x = some (.pointer (some ⟨b, o, none⟩))) (ht : nth tab t = some r) (ha : r.kind.agg = true)
    (i : Nat) (hi : nth hp i = some (cells b T cs)) (hl : vs.length = r.size) (hc : ∀ j u, vs[j]? = some u → cs[o + j]? = some u) (hd : d < n) (kk : Z P ops md n ((d, .agg vs.toArray) :: l) B hp rest) :
    Z P ops md n l B hp (⟨some d, .load t x, ty, pos, aft, none⟩ :: rest) :=
  z_load (Mode.fits_of rfl) rfl rfl hd (fun a w hA hS => by
    rw [nth_eq] at hi
    have hlc : (loadCells ⟨b, o, none⟩ vs.length).run P w = .ok vs.toArray w :=
      run_loadCells_list (P := P) w ⟨b, o, none⟩ vs (fun j v hv => by
        rw [add_mk]
        exact hS.cell i hi (hc j v hv))
    simp only [execOp, hA.eval hx, Instr.loadAt, Instr.sureAddr, loadVar, x_isAgg hT ht, ha, x_sizeOf hT ht, ← hl, hlc, Sem.run_bind, Result.andThen, Sem.run_pure, if_true]) kk

/-! ### Slices of arrays in memory -/
/-- a[lo:hi] of an array at a place. -/
theorem x_slicep {t e len s b : Nat} {re : TRow} {tab : List TRow} (hT : TabOk P tab) {bl of : Nat} (ht : nth tab t = some ⟨.arr len e, s, b⟩) (hr : nth tab e = some re) {lo hi : Int} {olo ohi : Option Value} {kl kh : IntKind}
    (hlo : olo = some (.int kl lo) ∨ (olo = none ∧ lo = 0)) (hhi : ohi = some (.int kh hi) ∨ (ohi = none ∧ hi = len)) (h0 : 0 ≤ lo) (h1 : lo ≤ hi) (h2 : hi ≤ len) (hlt : lo < len) (w : World) :
    (Instr.sliceAt t (.pointer (some ⟨bl, of, none⟩)) olo ohi none).run P w = .ok (.slice (some ⟨bl, of + lo.toNat * re.size, none⟩) (hi.toNat - lo.toNat) (len - lo.toNat)) w := by
  obtain ⟨dd, _, hua, hk', -⟩ := hT _ _ ht
  cases dd <;> simp [kindOf] at hk'
  replace hua : P.underlying t = some (.array len e) := by rw [hua, hk'.1, hk'.2]
  clear hk'
  obtain ⟨_, i', _, _, hi', hs, _⟩ := hT _ _ hr
  have e0 : 0 ≤ hi := by omega
  have bd : ∀ (kk : IntKind) (i : Int) (y : Nat) (code : BoundsCode), 0 ≤ i → i ≤ (y : Int) → (Instr.sliceBound (.int kk i) y code).run P w = .ok i.toNat w := fun kk i y code a b => by
    simp [Instr.sliceBound, asIntOf, a, b, Sem.run_bind, Sem.run_pure, Result.andThen]
  have hl : lo ≤ ((hi.toNat : Nat) : Int) := by omega
  have hne : ¬ len = lo.toNat := by omega
  have hb : (Instr.sliceBounds false len len olo ohi none).run P w = .ok (lo.toNat, hi.toNat, len) w := by
    rcases hlo with hlo | ⟨hlo, hl0⟩ <;> rcases hhi with hhi | ⟨hhi, hh0⟩
    · rw [hlo, hhi]
      simp [Instr.sliceBounds, bd kh hi len _ e0 h2, bd kl lo hi.toNat _ h0 hl, Sem.run_bind, Sem.run_pure, Result.andThen]
    · have e : hi.toNat = len := by omega
      rw [e] at hl ⊢
      rw [hlo, hhi]
      simp [Instr.sliceBounds, bd kl lo len _ h0 hl, Sem.run_bind, Sem.run_pure, Result.andThen]
    · have e : lo.toNat = 0 := by omega
      rw [e, hlo, hhi]
      simp [Instr.sliceBounds, bd kh hi len _ e0 h2, Sem.run_bind, Sem.run_pure, Result.andThen]
    · have e : lo.toNat = 0 := by omega
      have e' : hi.toNat = len := by omega
      rw [e, e', hlo, hhi]
      simp [Instr.sliceBounds, Sem.run_bind, Sem.run_pure, Result.andThen]
  simp only [Instr.sliceAt, Sem.run_bind, Result.andThen, Instr.sureAddr, run_underlying hua, hb, sizeOf, typeInfo, program, Sem.run, hi', hs, Sem.run_pure, if_neg hne, add_mk]
theorem o_slp {t e len s b bl of : Nat} {re : TRow} {tab : List TRow} (hT : TabOk P tab) {x lo hi : Operand} {i j : Int} {kl kh : IntKind} (hx : ev l x = some (.pointer (some ⟨bl, of, none⟩))) (hlo : ev l lo = some (.int kl i)) (hhi : ev l hi = some (.int kh j)) (ht : nth tab t = some ⟨.arr len e, s, b⟩) (hr : nth tab e = some re)
    (h0 : 0 ≤ i) (h1 : i ≤ j) (h2 : j ≤ len) (hlt : i < len) (hd : d < n) (kk : Z P ops md n ((d, .slice (some ⟨bl, of + i.toNat * re.size, none⟩) (j.toNat - i.toNat) (len - i.toNat)) :: l) B hp rest) : Z P ops md n l B hp (⟨some d, .slice t x (some lo) (some hi) none, ty, pos, aft, none⟩ :: rest) :=
  z_valp (Mode.fits_of rfl) rfl rfl hd (fun a w hA => by
    simp only [execOp, hA.eval hx, Option.map_some, Option.map_none, hA.eval hlo, hA.eval hhi, Sem.run_bind, x_slicep hT ht hr (.inl rfl) (.inl rfl) h0 h1 h2 hlt w, Result.andThen, Sem.run_pure]) kk
theorem o_slpl {t e len s b bl of : Nat} {re : TRow} {tab : List TRow} (hT : TabOk P tab) {x lo : Operand} {i : Int} {kl : IntKind} (hx : ev l x = some (.pointer (some ⟨bl, of, none⟩))) (hlo : ev l lo = some (.int kl i)) (ht : nth tab t = some ⟨.arr len e, s, b⟩) (hr : nth tab e = some re)
    (h0 : 0 ≤ i) (hlt : i < len) (hd : d < n) (kk : Z P ops md n ((d, .slice (some ⟨bl, of + i.toNat * re.size, none⟩) (len - i.toNat) (len - i.toNat)) :: l) B hp rest) : Z P ops md n l B hp (⟨some d, .slice t x (some lo) none none, ty, pos, aft, none⟩ :: rest) :=
  z_valp (Mode.fits_of rfl) rfl rfl hd (fun a w hA => by
    have := x_slicep (P := P) (bl := bl) (of := of) hT ht hr (kl := kl) (kh := kl) (.inl rfl : some (Value.int kl i) = some (.int kl i) ∨ _) (.inr ⟨rfl, rfl⟩) h0 (by omega) (by omega) hlt w
    simp only [execOp, hA.eval hx, Option.map_some, Option.map_none, hA.eval hlo, Sem.run_bind, this, Result.andThen, Sem.run_pure, Int.toNat_natCast]) kk
theorem o_slpl1 {t e len s b bl of kb : Nat} {re : TKind} {tab : List TRow} (hT : TabOk P tab) {x lo : Operand} {i : Int} {kl : IntKind} (hx : ev l x = some (.pointer (some ⟨bl, of, none⟩))) (hlo : ev l lo = some (.int kl i)) (ht : nth tab t = some ⟨.arr len e, s, b⟩) (hr : nth tab e = some ⟨re, 1, kb⟩)
    (h0 : 0 ≤ i) (hlt : i < len) (hd : d < n) (kk : Z P ops md n ((d, .slice (some ⟨bl, of + i.toNat, none⟩) (len - i.toNat) (len - i.toNat)) :: l) B hp rest) : Z P ops md n l B hp (⟨some d, .slice t x (some lo) none none, ty, pos, aft, none⟩ :: rest) :=
  o_slpl hT hx hlo ht hr h0 hlt hd (by simpa using kk)
theorem o_slicelk1 {t e s b c k bl of kb : Nat} {re : TKind} {tab : List TRow} (hT : TabOk P tab) {x : Operand} {lo : Operand} {i : Int} {kl : IntKind} (hx : ev l x = some (.slice (some ⟨bl, of, none⟩) k c)) (hlo : ev l lo = some (.int kl i)) (ht : nth tab t = some ⟨.slice e, s, b⟩) (hr : nth tab e = some ⟨re, 1, kb⟩)
    (h0 : 0 ≤ i) (h1 : i ≤ k) (h2 : k ≤ c) (h3 : i < c) (hd : d < n) (kk : Z P ops md n ((d, .slice (some ⟨bl, of + i.toNat, none⟩) (k - i.toNat) (c - i.toNat)) :: l) B hp rest) : Z P ops md n l B hp (⟨some d, .slice t x (some lo) none none, ty, pos, aft, none⟩ :: rest) :=
  o_slicel hT hx hlo ht hr h0 h1 h2 hd (by
    have e1 : cutA (some (⟨bl, of, none⟩ : Addr)) c i.toNat 1 = some ⟨bl, of + i.toNat, none⟩ := by
      unfold cutA
      rw [if_neg (by omega)]
      simp [add_mk]
    rw [e1]
    exact kk)
theorem o_slp0 {t e len s b bl of : Nat} {re : TRow} {tab : List TRow} (hT : TabOk P tab) {x : Operand} (hx : ev l x = some (.pointer (some ⟨bl, of, none⟩))) (ht : nth tab t = some ⟨.arr len e, s, b⟩) (hr : nth tab e = some re)
    (hlt : Nat.blt 0 len = true) (hd : d < n) (kk : Z P ops md n ((d, .slice (some ⟨bl, of, none⟩) len len) :: l) B hp rest) : Z P ops md n l B hp (⟨some d, .slice t x none none none, ty, pos, aft, none⟩ :: rest) :=
  z_valp (Mode.fits_of rfl) rfl rfl hd (fun a w hA => by
    have hlt' := Nat.le_of_ble_eq_true hlt
    have := x_slicep (P := P) (bl := bl) (of := of) hT ht hr (kl := .i64) (kh := .i64) (lo := 0) (.inr ⟨rfl, rfl⟩) (.inr ⟨rfl, rfl⟩) (by omega) (by omega) (by omega) (by omega) w
    simp only [Int.toNat_zero, Nat.zero_mul, Nat.add_zero, Int.toNat_natCast, Nat.sub_zero] at this
    simp only [execOp, hA.eval hx, Option.map_none, Sem.run_bind, this, Result.andThen, Sem.run_pure]) kk
/-- An element's place in a slice whose own place is known. -/
theorem o_indexsk {t e s b : Nat} {re : TRow} {tab : List TRow} (hT : TabOk P tab) {len c bl of : Nat} {kd : IntKind} {i : Int} {x y : Operand} (hx : ev l x = some (.slice (some ⟨bl, of, none⟩) len c)) (hy : ev l y = some (.int kd i))
    (ht : nth tab t = some ⟨.slice e, s, b⟩) (hr : nth tab e = some re) (h0 : 0 ≤ i) (h1 : i < len) (hd : d < n) (kk : Z P ops md n ((d, .pointer (some ⟨bl, of + i.toNat * re.size, none⟩)) :: l) B hp rest) :
    Z P ops md n l B hp (⟨some d, .indexAddr t x y, ty, pos, aft, none⟩ :: rest) :=
  z_valp (Mode.fits_of rfl) rfl rfl hd (fun a w hA => by
    have := x_indexs (P := P) (k := i.toNat * re.size) (A := some ⟨bl, of, none⟩) (c := c) (kd := kd) hT ht hr h0 h1 rfl (w := w) (by simp)
    simp only [slAt, Option.map_some, add_mk] at this
    simp only [execOp, hA.eval hx, hA.eval hy, Sem.run_bind, this, Result.andThen, Sem.run_pure]) kk
theorem o_indexsk1 {t e s b kb : Nat} {re : TKind} {tab : List TRow} (hT : TabOk P tab) {len c bl of : Nat} {kd : IntKind} {i : Int} {x y : Operand} (hx : ev l x = some (.slice (some ⟨bl, of, none⟩) len c)) (hy : ev l y = some (.int kd i))
    (ht : nth tab t = some ⟨.slice e, s, b⟩) (hr : nth tab e = some ⟨re, 1, kb⟩) (h0 : 0 ≤ i) (h1 : i < len) (hd : d < n) (kk : Z P ops md n ((d, .pointer (some ⟨bl, of + i.toNat, none⟩)) :: l) B hp rest) :
    Z P ops md n l B hp (⟨some d, .indexAddr t x y, ty, pos, aft, none⟩ :: rest) :=
  o_indexsk hT hx hy ht hr h0 h1 hd (by simpa using kk)
/-- One cell of a slice of the call's own is written. -/
theorem o_stores {md : Mode} (hme : md.canEff = true) (i : Nat) {t T k c sz m : Nat} {A : Option Addr} {xs : List Value} {v : Value} {r : TRow} {tab : List TRow} (hT : TabOk P tab) {x y : Operand} (hx : ev l x = some (.pointer (slAt A k))) (hy : ev l y = some v) (hi : nth hp i = some (own A c T sz m xs)) (ht : nth tab t = some r)
    (hs : Nat.beq r.size 1 = true) (hv : oneB v = true) (hk : k < xs.length) (kk : Z P ops md n l B (hp.set i (own A c T sz m (xs.set k v))) rest) :
    Z P ops md n l B hp (⟨none, .store t x y, ty, pos, aft, none⟩ :: rest) :=
  z_at hme i hi (Mode.fits_of rfl) (fun a w hA hS => by
    have hs' : r.size = 1 := Nat.eq_of_beq_eq_true hs
    have ho := hS.at_ 0 rfl
    have he := hA.eval hx
    rcases ho.2 with ⟨_, hn, _⟩ | ⟨g, of, cur, rfl, hg, hnc, hfit, hxs⟩
    · have := ho.1
      rw [hn, Nat.zero_mul] at this
      omega
    · simp only [slAt, Option.map_some, add_mk] at he
      have hlen := ho.1
      have hmc : m * sz ≤ c * sz := Nat.mul_le_mul_right _ hnc
      have hku : of + k < cur.size := by omega
      have hcell : w.cell? ⟨g, of + k, none⟩ = some cur[of + k] := by simp [World.cell?, hg, hku]
      have hfz : w.frozen? ⟨g, of + k, none⟩ = false := by simp [World.frozen?, hg]
      refine ⟨w.setCell ⟨g, of + k, none⟩ v, ?_, hS.write (w' := w.setCell ⟨g, of + k, none⟩ v) (d := own (some ⟨g, of, none⟩) c T sz m (xs.set k v)) rfl rfl rfl (setCell_size _ _ _) (fun j hj => RowKit.Below.heap_setCell _ _ _ _ (fun e => hj ⟨_, rfl, e.symm⟩)) ⟨by simpa using hlen, .inr ⟨g, of, cur.setIfInBounds (of + k) v, rfl, by simp [World.setCell, Array.getElem?_modify, hg], hnc, by simpa using hfit, ?_⟩⟩ (fun _ h => h)⟩
      · simp only [execOp, he, hA.eval hy, Instr.storeAt, Instr.sureAddr, storeVar, cells_of_one hv, x_sizeOf hT ht, hs', Sem.run_bind, Result.andThen, Sem.run_pure]
        simp [storeCells, add_mk, x_store1 hv hcell hfz, Sem.run_bind, Sem.run_pure, Result.andThen]
      · rw [← hxs]
        simp only [Array.toList_setIfInBounds]
        apply List.ext_getElem?
        intro j
        simp only [List.getElem?_take, List.getElem?_drop, List.getElem?_set]
        by_cases hj : j < m * sz
        · by_cases e : k = j
          · subst e
            simp only [hj, hku, if_true, Array.length_toList]
            simp
            omega
          · simp [hj, e, show ¬ of + k = of + j by omega]
        · simp [hj]
          intro e; omega) kk
end
end
/-- append to nil. -/
theorem o_append0 {P : Program} {ops : Array Oper} {m n : Nat} {l : Fr} {B : Base} {hp : List Chunk} {rest : List Oper} {d : Nat} {ty : TypeId} {pos : String} {aft : Array Edge} {md : Mode} (hme : md.canX = true) {t e s b sz by_ cx : Nat} {Ax : Option Addr} {news : List Value} {kd : TKind} {tab : List TRow} (hT : TabOk P tab) (hZ : ZeroOk P tab) {x y : Operand} (hx : ev l x = some (.slice none 0 0)) (hy : ev l y = some (.slice Ax m cx))
    (ht : nth tab t = some ⟨.slice e, s, b⟩) (hr : nth tab e = some ⟨kd, sz, by_⟩) (hk : kd.known = true) (hsz : Nat.blt 0 sz = true)
    (hrd : Rds hp Ax news) (hnl : news.length = m * sz) (hone : news.all (·.oneCell') = true) (h47 : m * by_ ≤ 140737488355328) (hmax : m ≤ 9223372036854775807) (hd : d < n)
    (kk : ∀ A' c', Z P ops md n ((d, .slice A' m c') :: l) B (own A' c' e sz m news :: hp) rest) :
    Z P ops md n l B hp (⟨some d, .call ⟨.builtin .append, #[x, y], #[t, t]⟩, ty, pos, aft, none⟩ :: rest) := by
  refine Z.heapx hme (hp' := own none 0 e sz 0 [] :: hp) ?_ (fun w h => h.nil e sz)
  refine o_append hme hT hZ hx hy ht hr hk hsz (hrd.cons _) hnl hone (by rw [Nat.zero_add]; exact h47) (by rw [Nat.zero_add]; exact hmax) hd fun A' c' => ?_
  rw [Nat.zero_add, List.nil_append]
  exact kk A' c'
theorem St.own_cutA {B : Base} {w : World} {hp : List Chunk} {A : Option Addr} {c T n : Nat} {xs : List Value} (h : St B w (own A c T 1 n xs :: hp)) (k : Nat) (hk : k ≤ n) : St B w (own (cutA A c k 1) (c - k) T 1 (n - k) (xs.drop k) :: hp) := by
  have := h.own_cut k hk
  unfold cutA
  rw [Nat.mul_one] at this ⊢
  exact this
/-! ### Chunks in another order -/
def moveF {α : Type _} (i : Nat) (l : List α) : List α := match nth l i with
  | some c => c :: l.eraseIdx i
  | none => l
def fronts {α : Type _} : List Nat → List α → List α
  | [], l => l
  | i :: r, l => fronts r (moveF i l)
theorem moveF_perm (i : Nat) (l : List Chunk) : l.Perm (moveF i l) := by
  unfold moveF
  cases h : nth l i with
  | none => exact List.Perm.refl _
  | some c => exact perm_front i (by rw [← nth_eq]; exact h)
theorem fronts_perm : ∀ (is : List Nat) (l : List Chunk), l.Perm (fronts is l)
  | [], l => List.Perm.refl _
  | i :: r, l => (moveF_perm i l).trans (fronts_perm r _)
theorem St.fronts {B : Base} {w : World} {hp : List Chunk} (h : St B w hp) (is : List Nat) : St B w (fronts is hp) := h.perm (fronts_perm is hp)
/-- The first n chunks in a given order. -/
def sel1 {α : Type _} (l : List α) : List Nat → List α
  | [] => []
  | i :: r => match nth l i with
    | some c => c :: sel1 l r
    | none => sel1 l r
def selF {α : Type _} (n : Nat) (is : List Nat) (l : List α) : List α := sel1 l is ++ l.drop n
def permB (is : List Nat) (n : Nat) : Bool := decide (is.Perm (List.range n))
theorem sel1_perm {α : Type _} (l : List α) {is js : List Nat} (h : is.Perm js) : (sel1 l is).Perm (sel1 l js) := by
  induction h with
  | nil => exact .nil
  | cons x _ ih => simp only [sel1]; cases nth l x with
    | none => exact ih
    | some c => exact ih.cons c
  | swap x y r => simp only [sel1]; cases nth l x <;> cases nth l y <;> first | exact List.Perm.refl _ | exact List.Perm.swap _ _ _
  | trans _ _ h1 h2 => exact h1.trans h2
theorem sel1_range {α : Type _} (l : List α) : ∀ n, sel1 l (List.range n) = l.take n := by
  have key : ∀ (n : Nat) (is : List Nat), sel1 l (is ++ [n]) = sel1 l is ++ (match nth l n with | some c => [c] | none => []) := by
    intro n is
    induction is with
    | nil => cases h : nth l n <;> simp [sel1, h]
    | cons i r ih => simp only [List.cons_append, sel1]; cases nth l i <;> simp [ih]
  intro n
  induction n with
  | zero => rfl
  | succ n ih =>
    rw [List.range_succ, key, ih, List.take_add_one, nth_eq]
    cases l[n]? <;> rfl
theorem sel_perm {α : Type _} (l : List α) (n : Nat) (is : List Nat) (h : permB is n = true) : l.Perm (selF n is l) := by
  unfold selF
  have h1 := sel1_perm l (of_decide_eq_true h)
  rw [sel1_range] at h1
  exact (List.Perm.of_eq (List.take_append_drop n l).symm).trans (h1.symm.append_right _)
theorem St.sel {B : Base} {w : World} {hp : List Chunk} (h : St B w hp) (n : Nat) (is : List Nat) (hc : permB is n = true) : St B w (selF n is hp) := h.perm (sel_perm hp n is hc)
theorem z_sel {P : Program} {ops : Array Oper} {n : Nat} {l : Fr} {B : Base} {hp : List Chunk} {rest : List Oper} {md : Mode} (hm : md.canX = true) (k : Nat) (is : List Nat) (hc : permB is k = true) (h : Z P ops md n l B (selF k is hp) rest) : Z P ops md n l B hp rest := h.heapx hm fun w hS => hS.sel k is hc
theorem z_fronts {P : Program} {ops : Array Oper} {n : Nat} {l : Fr} {B : Base} {hp : List Chunk} {rest : List Oper} {md : Mode} (hm : md.canX = true) (is : List Nat) (h : Z P ops md n l B (Eng.fronts is hp) rest) : Z P ops md n l B hp rest := h.heapx hm fun w hS => hS.fronts is
/-- A call that knows of all that is told. -/
theorem o_calla {P : Program} {ops : Array Oper} {n : Nat} {l : Fr} {B : Base} {hp : List Chunk} {rest : List Oper} {Q : Exit → Act → World → Prop} {d : Nat} {ty : TypeId} {pos : String} {aft : Array Edge} {f : FuncId} {fn : Func} (hf : P.funcs[f]? = some fn) (hb : fn.body.isNone = false) (hname : (fn.name == "runtime.NumGoroutine") = false) {args : List Operand} {ats : Array TypeId} {vs : List Value} (hargs : evs l args = some vs)
    {X : Type} {ok : X → Prop} {v : X → Value} {po : X → List Chunk} (spec : Does P f vs hp ok v po) (hd : d < n)
    (k : ∀ x, ok x → Z P ops (.list Q) n ((d, v x) :: l) B (po x) rest) : Z P ops (.list Q) n l B hp (⟨some d, .call ⟨.value (.func f), args.toArray, ats⟩, ty, pos, aft, none⟩ :: rest) :=
  o_call hf hb hname hargs spec (List.Perm.of_eq (List.append_nil _).symm) hd fun x hx => by rw [List.append_nil]; exact k x hx
theorem all_perm (hp : List Chunk) : hp.Perm (hp ++ []) := List.Perm.of_eq (List.append_nil _).symm
theorem sb_eq {i j : Bool} (h : i = j) : some (Value.bool i) = some (.bool j) := by rw [h]
/-- One cell of a chunk, wherever it stands. -/
theorem o_loadm {P : Program} {ops : Array Oper} {md : Mode} {n : Nat} {l : Fr} {B : Base} {hp : List Chunk} {rest : List Oper} {d : Nat} {ty : TypeId} {pos : String} {aft : Array Edge} {t b o T : Nat} {cs : List Value} {v : Value} {r : TRow} {tab : List TRow} (hT : TabOk P tab) {x : Operand} (hx : ev l x = some (.pointer (some ⟨b, o, none⟩))) (ht : nth tab t = some r) (ha : r.kind.agg = false)
    (hm : cells b T cs ∈ hp) (hc : cs[o]? = some v) (hd : d < n) (kk : Z P ops md n ((d, v) :: l) B hp rest) : Z P ops md n l B hp (⟨some d, .load t x, ty, pos, aft, none⟩ :: rest) := by
  obtain ⟨i, hi⟩ := List.getElem?_of_mem hm
  exact o_load hT hx ht ha i (by rw [nth_eq]; exact hi) hc hd kk
theorem o_loadwm {P : Program} {ops : Array Oper} {md : Mode} {n : Nat} {l : Fr} {B : Base} {hp : List Chunk} {rest : List Oper} {d : Nat} {ty : TypeId} {pos : String} {aft : Array Edge} {t b T : Nat} {cs : List Value} {r : TRow} {tab : List TRow} (hT : TabOk P tab) {x : Operand} (hx : ev l x = some (.pointer (some ⟨b, 0, none⟩))) (ht : nth tab t = some r) (ha : r.kind.agg = true)
    (hm : cells b T cs ∈ hp) (hc : cs.length = r.size) (hd : d < n) (kk : Z P ops md n ((d, .agg cs.toArray) :: l) B hp rest) : Z P ops md n l B hp (⟨some d, .load t x, ty, pos, aft, none⟩ :: rest) := by
  obtain ⟨i, hi⟩ := List.getElem?_of_mem hm
  exact o_loadw hT hx ht ha i (by rw [nth_eq]; exact hi) hc hd kk
/-! ### A frame made short -/
def mem1 (t : Nat) : List Nat → Bool
  | [] => false
  | k :: r => bif Nat.beq t k then true else mem1 t r
def del1 (t : Nat) : List Nat → List Nat
  | [] => []
  | k :: r => bif Nat.beq t k then r else k :: del1 t r
def keep : List Nat → Fr → Fr
  | [], _ => []
  | _, [] => []
  | p, (t, v) :: r => bif mem1 t p then (t, v) :: keep (del1 t p) r else keep p r
theorem mem1_iff (t : Nat) (p : List Nat) : mem1 t p = true ↔ t ∈ p := by
  induction p with
  | nil => simp [mem1]
  | cons k r ih =>
    unfold mem1
    cases hb : Nat.beq t k with
    | true => simp [Nat.eq_of_beq_eq_true hb]
    | false =>
      have : t ≠ k := fun e => by subst e; simp at hb
      simp [ih, this]
theorem keep_look : ∀ (p : List Nat) (l : Fr) (t : Nat) (v : Value), look (keep p l) t = some v → look l t = some v ∧ t ∈ p
  | [], l, t, v, h => by unfold keep at h; simp [look] at h
  | k :: p, [], t, v, h => by simp [keep, look] at h
  | k :: p, (s, u) :: r, t, v, h => by
    unfold keep at h
    cases hm : mem1 s (k :: p) with
    | true =>
      simp only [hm, cond_true] at h
      simp only [look] at h ⊢
      cases hb : Nat.beq s t with
      | true => simp [hb] at h ⊢; exact ⟨h, by rw [← Nat.eq_of_beq_eq_true hb]; have := (mem1_iff s (k :: p)).1 hm; simpa using this⟩
      | false =>
        simp [hb] at h ⊢
        have := keep_look (del1 s (k :: p)) r t v h
        refine ⟨this.1, ?_⟩
        have hd : ∀ (q : List Nat), t ∈ del1 s q → t ∈ q := by
          intro q
          induction q with
          | nil => simp [del1]
          | cons a q ih =>
            unfold del1
            cases Nat.beq s a with
            | true => simp; exact fun h => .inr h
            | false => simp; exact fun h => h.imp id ih
        simpa using hd _ this.2
    | false =>
      simp only [hm, cond_false] at h
      have := keep_look (k :: p) r t v h
      refine ⟨?_, this.2⟩
      simp only [look]
      cases hb : Nat.beq s t with
      | true =>
        have e := Nat.eq_of_beq_eq_true hb
        subst e
        rw [(mem1_iff s (k :: p)).2 this.2] at hm
        cases hm
      | false => simpa using this.1
theorem keep_nil {r : Fr} : keep [] r = [] := by unfold keep; rfl
theorem keep_end {k : Nat} {p : List Nat} : keep (k :: p) [] = [] := by unfold keep; rfl
theorem keep_yes {k : Nat} {p q : List Nat} {t : Nat} {v : Value} {r l' : Fr} (h : mem1 t (k :: p) = true) (hq : del1 t (k :: p) = q) (h' : keep q r = l') : keep (k :: p) ((t, v) :: r) = (t, v) :: l' := by subst hq; subst h'; simp [keep, h]
theorem keep_no {k : Nat} {p : List Nat} {t : Nat} {v : Value} {r l' : Fr} (h : mem1 t (k :: p) = false) (h' : keep (k :: p) r = l') : keep (k :: p) ((t, v) :: r) = l' := by subst h'; simp [keep, h]
theorem c_region_keep {P : Program} {n : Nat} {l l' : Fr} {B : Base} {hp : List Chunk} {Q : Exit → Act → World → Prop} {id : Nat} {os : List Oper} {un : Bool} (p : List Nat) (hl : keep p l = l') (h : S n l' B hp (Code.wp P (.region id os.toArray un) Q)) : S n l B hp (Code.wp P (.region id os.toArray un) Q) := fun a w hA hS =>
  h a w ⟨hA.size, hA.defers, fun t v e => hA.slot t v (keep_look p l t v (by rw [hl]; exact e)).1⟩ hS
/-- To stop a walk. -/
def Hold (p : Prop) : Prop := p
theorem hold {p : Prop} (h : Hold p) : p := h
theorem Hold.go {p : Prop} (h : p) : Hold p := h
/-! ### What kind of goal: so that few rules are tried -/
section
variable {P : Program} {ops : Array Oper} {md : Mode} {n : Nat} {l : Fr} {B : Base} {hp : List Chunk} {rest : List Oper} {G : Act → World → Prop} {Q : Exit → Act → World → Prop} {e : Exit}
variable {d : Nat} {od : Option Tmp} {ty : TypeId} {pos : String} {aft : Array Edge}
theorem s_is (h : S n l B hp G) : S n l B hp G := h
theorem s_isw {c : Code} (h : S n l B hp (Code.wp P c Q)) : S n l B hp (Code.wp P c Q) := h
theorem s_iscond {o : Operand} {x y : Code} (h : S n l B hp (Code.wp P (.cond o x y) Q)) : S n l B hp (Code.wp P (.cond o x y) Q) := h
theorem z_ispick {c x y : Operand} (h : Z P ops md n l B hp (⟨od, .pick c x y, ty, pos, aft, none⟩ :: rest)) : Z P ops md n l B hp (⟨od, .pick c x y, ty, pos, aft, none⟩ :: rest) := h
theorem z_isslice {t : TypeId} {x : Operand} {a b c : Option Operand} (h : Z P ops md n l B hp (⟨od, .slice t x a b c, ty, pos, aft, none⟩ :: rest)) : Z P ops md n l B hp (⟨od, .slice t x a b c, ty, pos, aft, none⟩ :: rest) := h
theorem z_isix {t : TypeId} {x y : Operand} (h : Z P ops md n l B hp (⟨od, .indexAddr t x y, ty, pos, aft, none⟩ :: rest)) : Z P ops md n l B hp (⟨od, .indexAddr t x y, ty, pos, aft, none⟩ :: rest) := h
theorem z_isbi {f : Builtin} {args : Array Operand} {ats : Array TypeId} (h : Z P ops md n l B hp (⟨od, .call ⟨.builtin f, args, ats⟩, ty, pos, aft, none⟩ :: rest)) : Z P ops md n l B hp (⟨od, .call ⟨.builtin f, args, ats⟩, ty, pos, aft, none⟩ :: rest) := h
theorem z_isb (op : BinOp) {t t' : TypeId} {x y : Operand} (h : Z P ops md n l B hp (⟨od, .binOp op t x y t', ty, pos, aft, none⟩ :: rest)) : Z P ops md n l B hp (⟨od, .binOp op t x y t', ty, pos, aft, none⟩ :: rest) := h
theorem z_iscallf (f : FuncId) {args : Array Operand} {ats : Array TypeId} (h : Z P ops md n l B hp (⟨od, .call ⟨.value (.func f), args, ats⟩, ty, pos, aft, none⟩ :: rest)) : Z P ops md n l B hp (⟨od, .call ⟨.value (.func f), args, ats⟩, ty, pos, aft, none⟩ :: rest) := h
theorem z_isfield {t i : Nat} {x : Operand} (h : Z P ops md n l B hp (⟨od, .field t x i, ty, pos, aft, none⟩ :: rest)) : Z P ops md n l B hp (⟨od, .field t x i, ty, pos, aft, none⟩ :: rest) := h
theorem z_isindex {t : TypeId} {x y : Operand} (h : Z P ops md n l B hp (⟨od, .index t x y, ty, pos, aft, none⟩ :: rest)) : Z P ops md n l B hp (⟨od, .index t x y, ty, pos, aft, none⟩ :: rest) := h
theorem z_ismakes {t len : Nat} {ps : Array (Nat × Operand)} (h : Z P ops md n l B hp (⟨od, .buildSlice t len ps, ty, pos, aft, none⟩ :: rest)) : Z P ops md n l B hp (⟨od, .buildSlice t len ps, ty, pos, aft, none⟩ :: rest) := h
theorem z_ld1 {t : Nat} {x : Operand} {r : TRow} {tab : List TRow} (hT : TabOk P tab) (ht : nth tab t = some r) (ha : r.kind.agg = false) (h : Z P ops md n l B hp (⟨od, .load t x, ty, pos, aft, none⟩ :: rest)) : Z P ops md n l B hp (⟨od, .load t x, ty, pos, aft, none⟩ :: rest) := h
theorem z_ldw {t : Nat} {x : Operand} {r : TRow} {tab : List TRow} (hT : TabOk P tab) (ht : nth tab t = some r) (ha : r.kind.agg = true) (h : Z P ops md n l B hp (⟨od, .load t x, ty, pos, aft, none⟩ :: rest)) : Z P ops md n l B hp (⟨od, .load t x, ty, pos, aft, none⟩ :: rest) := h
theorem z_ldi (i : Nat) {t b o T : Nat} {x : Operand} {cs : List Value} (hx : ev l x = some (.pointer (some ⟨b, o, none⟩))) (hi : nth hp i = some (cells b T cs)) (h : Z P ops md n l B hp (⟨od, .load t x, ty, pos, aft, none⟩ :: rest)) : Z P ops md n l B hp (⟨od, .load t x, ty, pos, aft, none⟩ :: rest) := h
theorem z_sti (i : Nat) {t b o T : Nat} {x y : Operand} {cs : List Value} (hx : ev l x = some (.pointer (some ⟨b, o, none⟩))) (hi : nth hp i = some (cells b T cs)) (h : Z P ops md n l B hp (⟨od, .store t x y, ty, pos, aft, none⟩ :: rest)) : Z P ops md n l B hp (⟨od, .store t x y, ty, pos, aft, none⟩ :: rest) := h
theorem z_st1 {t : Nat} {x y : Operand} {v : Value} (hy : ev l y = some v) (hv : oneB v = true) (h : Z P ops md n l B hp (⟨od, .store t x y, ty, pos, aft, none⟩ :: rest)) : Z P ops md n l B hp (⟨od, .store t x y, ty, pos, aft, none⟩ :: rest) := h
theorem z_stw {t : Nat} {x y : Operand} {vs : Array Value} (hy : ev l y = some (.agg vs)) (h : Z P ops md n l B hp (⟨od, .store t x y, ty, pos, aft, none⟩ :: rest)) : Z P ops md n l B hp (⟨od, .store t x y, ty, pos, aft, none⟩ :: rest) := h
theorem z_want1 {op : Op} {j t : Nat} {b : Bool} (ht : (ops[j]?).bind (·.dst) = some t) (hb : look l t = some (.bool b)) (hbw : b = true) (k : Z P ops md n l B hp (⟨od, op, ty, pos, aft, none⟩ :: rest)) : Z P ops md n l B hp (⟨od, op, ty, pos, aft, some (j, true)⟩ :: rest) := z_want ht hb hbw k
theorem z_want0 {op : Op} {j t : Nat} {b : Bool} (ht : (ops[j]?).bind (·.dst) = some t) (hb : look l t = some (.bool b)) (hbw : b = false) (k : Z P ops md n l B hp (⟨od, op, ty, pos, aft, none⟩ :: rest)) : Z P ops md n l B hp (⟨od, op, ty, pos, aft, some (j, false)⟩ :: rest) := z_want ht hb hbw k
theorem z_skip1 {d : Nat} {op : Op} {j t : Nat} {b : Bool} (hlt : d < n) (ht : (ops[j]?).bind (·.dst) = some t) (hb : look l t = some (.bool b)) (hbw : b = false) (k : Z P ops md n ((d, undef) :: l) B hp rest) : Z P ops md n l B hp (⟨some d, op, ty, pos, aft, some (j, true)⟩ :: rest) := z_skip hlt ht hb hbw k
theorem z_skip0 {d : Nat} {op : Op} {j t : Nat} {b : Bool} (hlt : d < n) (ht : (ops[j]?).bind (·.dst) = some t) (hb : look l t = some (.bool b)) (hbw : b = true) (k : Z P ops md n ((d, undef) :: l) B hp rest) : Z P ops md n l B hp (⟨some d, op, ty, pos, aft, some (j, false)⟩ :: rest) := z_skip hlt ht hb hbw k
theorem z_isg1 {op : Op} {j : Nat} (h : Z P ops md n l B hp (⟨od, op, ty, pos, aft, some (j, true)⟩ :: rest)) : Z P ops md n l B hp (⟨od, op, ty, pos, aft, some (j, true)⟩ :: rest) := h
theorem z_isg0 {op : Op} {j : Nat} (h : Z P ops md n l B hp (⟨od, op, ty, pos, aft, some (j, false)⟩ :: rest)) : Z P ops md n l B hp (⟨od, op, ty, pos, aft, some (j, false)⟩ :: rest) := h
theorem s_isloop {c : Code} (h : S n l B hp (Code.wp P (.loop c) Q)) : S n l B hp (Code.wp P (.loop c) Q) := h
theorem s_isagain {X : Type} {ok : X → Prop} {fr : X → Fr} {hh : X → List Chunk} {m : X → Nat} {x : X} (h : S n l B hp (Again n B ok fr hh m x)) : S n l B hp (Again n B ok fr hh m x) := h
theorem s_ismeet {X : Type} {ok : X → Prop} {fr : X → Fr} {hh : X → List Chunk} (h : S n l B hp (Joined n B ok fr hh)) : S n l B hp (Joined n B ok fr hh) := h
theorem s_isret {fn : Func} {R : Ending → World → Prop} (h : S n l B hp (bodyPost P fn R e)) : S n l B hp (bodyPost P fn R e) := h
theorem z_isnil (h : Z P ops md n l B hp []) : Z P ops md n l B hp [] := h
theorem z_isop {op : Op} (h : Z P ops md n l B hp (⟨od, op, ty, pos, aft, none⟩ :: rest)) : Z P ops md n l B hp (⟨od, op, ty, pos, aft, none⟩ :: rest) := h
theorem z_isguard {op : Op} {j : Nat} {want : Bool} (h : Z P ops md n l B hp (⟨od, op, ty, pos, aft, some (j, want)⟩ :: rest)) : Z P ops md n l B hp (⟨od, op, ty, pos, aft, some (j, want)⟩ :: rest) := h
theorem z_isbin {op : BinOp} {t t' : TypeId} {x y : Operand} (h : Z P ops md n l B hp (⟨od, .binOp op t x y t', ty, pos, aft, none⟩ :: rest)) : Z P ops md n l B hp (⟨od, .binOp op t x y t', ty, pos, aft, none⟩ :: rest) := h
theorem z_isload {t : TypeId} {x : Operand} (h : Z P ops md n l B hp (⟨od, .load t x, ty, pos, aft, none⟩ :: rest)) : Z P ops md n l B hp (⟨od, .load t x, ty, pos, aft, none⟩ :: rest) := h
theorem z_isstore {t : TypeId} {x y : Operand} (h : Z P ops md n l B hp (⟨od, .store t x y, ty, pos, aft, none⟩ :: rest)) : Z P ops md n l B hp (⟨od, .store t x y, ty, pos, aft, none⟩ :: rest) := h
theorem z_iscall {f : FuncId} {args : Array Operand} {ats : Array TypeId} (h : Z P ops md n l B hp (⟨od, .call ⟨.value (.func f), args, ats⟩, ty, pos, aft, none⟩ :: rest)) : Z P ops md n l B hp (⟨od, .call ⟨.value (.func f), args, ats⟩, ty, pos, aft, none⟩ :: rest) := h
end
end Go.Proofs.Ytnckabgaichkkaa.Eng
