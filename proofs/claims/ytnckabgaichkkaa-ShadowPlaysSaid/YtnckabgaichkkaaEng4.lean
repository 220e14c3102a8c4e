/-
The engine, fourth part: slices.
-/
import Derived.Test.YtnckabgaichkkaaEng3
import Derived.Maps.AppendAt
namespace Go.Proofs.Ytnckabgaichkkaa.Eng
set_option linter.unusedVariables false
set_option linter.unusedSimpArgs false
open Go

/-- Another word for the chunk in front. -/
theorem St.turn {B : Base} {w : World} {c d : Chunk} {hp : List Chunk} (h : St B w (c :: hp)) (hf : ∀ k, d.foot k → c.foot k) (hd : d.holds w) : St B w (d :: hp) :=
  h.write rfl rfl rfl rfl (fun _ _ => rfl) hd hf
/-- The slice at A has these cells. -/
def Rd (w : World) (A : Option Addr) (cs : List Value) : Prop := ∀ j u, cs[j]? = some u → ∃ p, A = some p ∧ w.cell? (p.add j) = some u
/-- The same, wherever these chunks hold. -/
def Rds (hp : List Chunk) (A : Option Addr) (cs : List Value) : Prop := ∀ w, Pre w hp → Rd w A cs

theorem Rds.sub {hp hp' : List Chunk} {A : Option Addr} {cs : List Value} (h : Rds hp A cs) (hs : hp.Sublist hp') : Rds hp' A cs := fun w hw => h w (hw.sub hs)
theorem Rds.cons {hp : List Chunk} {A : Option Addr} {cs : List Value} (c : Chunk) (h : Rds hp A cs) : Rds (c :: hp) A cs := h.sub (List.sublist_cons_self _ _)
theorem Rds.ne {hp : List Chunk} {A : Option Addr} {cs : List Value} {w : World} (h : Rds hp A cs) (hw : Pre w hp) (hl : 0 < cs.length) : A ≠ none := by
  obtain ⟨p, hp, _⟩ := h w hw 0 _ (List.getElem?_eq_getElem hl)
  rw [hp]; simp
theorem Rds.nil (hp : List Chunk) (A : Option Addr) : Rds hp A [] := fun _ _ _ _ h => by simp at h
theorem Rds.perm {hp hp' : List Chunk} {A : Option Addr} {cs : List Value} (h : Rds hp A cs) (hs : hp'.Perm hp) : Rds hp' A cs := fun w hw => h w (hw.perm hs)

/-- A slice of the call's own: n elements of sz cells each of type T, room for c; it may begin inside its block. -/
def own (A : Option Addr) (c T sz n : Nat) (xs : List Value) : Chunk where
  foot := fun k => ∃ p, A = some p ∧ p.block = k
  holds := fun w => xs.length = n * sz ∧ ((A = none ∧ n = 0 ∧ c = 0) ∨ ∃ g o cur, A = some ⟨g, o, none⟩ ∧ w.heap[g]? = some (.cells cur T (0, 0)) ∧ n ≤ c ∧ o + c * sz ≤ cur.size ∧ (cur.toList.drop o).take (n * sz) = xs)
  loc := fun w w' h hw => by
    refine ⟨hw.1, ?_⟩
    rcases hw.2 with hn | ⟨g, o, cur, hA, hg, r⟩
    · exact .inl hn
    · exact .inr ⟨g, o, cur, hA, (h g ⟨_, hA, rfl⟩).trans hg, r⟩
  lives := fun w k hw ⟨p, hp, hk⟩ => by
    rcases hw.2 with ⟨hA, _⟩ | ⟨g, o, cur, hA, hg, r⟩
    · rw [hA] at hp; cases hp
    · rw [hA] at hp
      injection hp with hp
      subst hp
      subst hk
      exact (Array.getElem?_eq_some_iff.1 hg).1

theorem add_add (a : Addr) (i j : Nat) : (a.add i).add j = a.add (i + j) := by
  unfold Addr.add
  by_cases hi : i = 0 <;> by_cases hj : j = 0 <;> simp [hi, hj, Nat.add_assoc]
theorem take_drop_get {l xs : List Value} {o m j : Nat} {u : Value} (h : (l.drop o).take m = xs) (hu : xs[j]? = some u) : l[o + j]? = some u := by
  rw [← h, List.getElem?_take] at hu
  split at hu
  · rwa [List.getElem?_drop] at hu
  · cases hu
theorem own_rd {A : Option Addr} {c T sz n : Nat} {xs : List Value} {w : World} (h : (own A c T sz n xs).holds w) : Rd w A xs := by
  intro j u hu
  rcases h.2 with ⟨hA, hn, _⟩ | ⟨g, o, cur, hA, hg, _, _, hx⟩
  · have := h.1
    rw [hn, Nat.zero_mul] at this
    rw [List.eq_nil_of_length_eq_zero this] at hu
    simp at hu
  · refine ⟨_, hA, ?_⟩
    rw [add_mk, cell_of_row w g _ cur T (0, 0) hg]
    have := take_drop_get hx hu
    simpa using this
theorem own_rds {hp : List Chunk} {A : Option Addr} {c T sz n : Nat} {xs : List Value} (i : Nat) (h : nth hp i = some (own A c T sz n xs)) : Rds hp A xs := fun w hw => own_rd (hw.all _ (List.mem_of_getElem? (by rw [← nth_eq]; exact h)))
theorem own_len {A : Option Addr} {c T sz n : Nat} {xs : List Value} {w : World} (h : (own A c T sz n xs).holds w) : xs.length = n * sz := h.1
theorem own_nil (T sz : Nat) (w : World) : (own none 0 T sz 0 []).holds w := ⟨by simp, .inl ⟨rfl, rfl, rfl⟩⟩
/-- The nil slice owns nothing: it may be had at any time. -/
theorem St.nil {B : Base} {w : World} {hp : List Chunk} (h : St B w hp) (T sz : Nat) : St B w (own none 0 T sz 0 [] :: hp) := by
  refine St.call0 h (po := [own none 0 T sz 0 []]) ⟨rfl, rfl, rfl, Nat.le_refl _, ?_, by simp [Apart], fun e he k hk => ?_, fun k hk _ => rfl, Nat.le_refl _⟩
  · simp only [List.mem_singleton, forall_eq]
    exact own_nil T sz w
  · simp at he
    subst he
    obtain ⟨p, hp, _⟩ := hk
    cases hp
theorem cells_rds {hp : List Chunk} {g T : Nat} {cs : List Value} (i : Nat) (h : nth hp i = some (cells g T cs)) : Rds hp (some ⟨g, 0, none⟩) cs := fun w hw j u hu => by
  have hc : (cells g T cs).holds w := hw.all _ (List.mem_of_getElem? (by rw [← nth_eq]; exact h))
  refine ⟨_, rfl, ?_⟩
  simp only [cells] at hc
  rw [add_mk, Nat.zero_add]
  simp [World.cell?, hc, hu]

/-- Each type's nought has its size. -/
def zeroB (P : Program) (t : Nat) (r : TRow) : Bool := match r.kind with
  | .other => true
  | _ => match P.info? t with
    | some i => match i.zero with
      | some z => Nat.beq z.cells.size r.size
      | none => false
    | none => false
def zeroAll (P : Program) : Nat → List TRow → Bool
  | _, [] => true
  | t, r :: rest => zeroB P t r && zeroAll P (t + 1) rest
def TKind.known : TKind → Bool
  | .other => false
  | _ => true
def ZeroOk (P : Program) (tab : List TRow) : Prop := ∀ t r, nth tab t = some r → r.kind.known = true → ∃ i z, P.info? t = some i ∧ i.zero = some z ∧ z.cells.size = r.size
theorem zeroOk_of {P : Program} {tab : List TRow} (h : zeroAll P 0 tab = true) : ZeroOk P tab := by
  have key : ∀ (l : List TRow) k, zeroAll P k l = true → ∀ t r, nth l t = some r → zeroB P (k + t) r = true := by
    intro l
    induction l with
    | nil => intro k _ t r h; simp [nth] at h
    | cons x l ih =>
      intro k hk t r hr
      simp only [zeroAll, Bool.and_eq_true] at hk
      cases t with
      | zero => simp [nth] at hr; subst hr; exact hk.1
      | succ t =>
        have := ih (k + 1) hk.2 t r hr
        rwa [show k + 1 + t = k + (t + 1) by omega] at this
  intro t r hr hk
  have h1 := key tab 0 h t r hr
  rw [Nat.zero_add] at h1
  unfold zeroB at h1
  cases hi : P.info? t with
  | none => cases hkk : r.kind <;> simp [hkk, hi, TKind.known] at h1 hk
  | some i =>
    cases hz : i.zero with
    | none => cases hkk : r.kind <;> simp [hkk, hi, hz, TKind.known] at h1 hk
    | some z =>
      refine ⟨i, z, rfl, hz, ?_⟩
      cases hkk : r.kind <;> simp [hkk, hi, hz, TKind.known] at h1 hk <;> exact h1

section
variable {P : Program} {ops : Array Oper} {md : Mode} {m n : Nat} {l : Fr} {B : Base} {hp hq : List Chunk} {rest : List Oper} {o : Oper} {Q : Exit → Act → World → Prop} {F : Act → World → Prop}
variable {d : Nat} {ty : TypeId} {pos : String} {aft : Array Edge}
theorem o_len {t e s b : Nat} {tab : List TRow} (hT : TabOk P tab) {x : Operand} {A : Option Addr} {k c : Nat} (hx : ev l x = some (.slice A k c)) (ht : nth tab t = some ⟨.slice e, s, b⟩) (hd : d < n)
    (kk : Z P ops md n ((d, .int .i64 k) :: l) B hp rest) : Z P ops md n l B hp (⟨some d, .call ⟨.builtin .len, #[x], #[t]⟩, ty, pos, aft, none⟩ :: rest) :=
  z_valp (Mode.fits_of rfl) rfl rfl hd (fun a w hA => by
    obtain ⟨dd, _, hu, hk, -⟩ := hT t _ ht
    cases dd <;> simp [kindOf] at hk
    simp [execOp, resolve, hA.eval hx, invoke, builtin, Builtin.len_, run_underlying hu, goInt, Sem.run_bind, Sem.run_pure, Result.andThen]) kk
def slAt (A : Option Addr) (k : Nat) : Option Addr := A.map (·.add k)
theorem x_indexs {t e s b : Nat} {re : TRow} {tab : List TRow} (hT : TabOk P tab) {k len c : Nat} {kd : IntKind} {i : Int} {A : Option Addr} (ht : nth tab t = some ⟨.slice e, s, b⟩) (hr : nth tab e = some re) (h0 : 0 ≤ i) (h1 : i < len)
    (hk : k = i.toNat * re.size) {w : World} (hA : A ≠ none) : (Instr.indexAt t (.slice A len c) (.int kd i)).run P w = .ok (.pointer (slAt A k)) w := by
  obtain ⟨dd, _, hu, hk', -⟩ := hT t _ ht
  cases dd <;> simp [kindOf] at hk'
  subst hk'
  obtain ⟨_, i', _, _, hi, hs, _⟩ := hT _ _ hr
  cases A with
  | none => exact absurd rfl hA
  | some p =>
    subst hk
    simp [Instr.indexAt, asIntOf, run_underlying hu, h0, h1, sizeOf, typeInfo, hi, hs, slAt, Sem.run_bind, Sem.run_pure, Result.andThen]
/-- An element of a slice; of one cell. -/
theorem o_indexs1 {t e s b kb : Nat} {re : TKind} {tab : List TRow} (hT : TabOk P tab) {len c : Nat} {kd : IntKind} {i : Int} {A : Option Addr} (hne : A ≠ none) {x y : Operand} (hx : ev l x = some (.slice A len c)) (hy : ev l y = some (.int kd i))
    (ht : nth tab t = some ⟨.slice e, s, b⟩) (hr : nth tab e = some ⟨re, 1, kb⟩) (h0 : 0 ≤ i) (h1 : i < len) (hd : d < n) (kk : Z P ops md n ((d, .pointer (slAt A i.toNat)) :: l) B hp rest) :
    Z P ops md n l B hp (⟨some d, .indexAddr t x y, ty, pos, aft, none⟩ :: rest) :=
  z_valp (Mode.fits_of rfl) rfl rfl hd (fun a w hA => by
    simp only [execOp, hA.eval hx, hA.eval hy, Sem.run_bind, x_indexs (k := i.toNat) hT ht hr h0 h1 (by simp) hne, Result.andThen, Sem.run_pure]) kk
theorem o_indexsn {t e s b : Nat} {re : TRow} {tab : List TRow} (hT : TabOk P tab) {len c : Nat} {kd : IntKind} {i : Int} {A : Option Addr} (hne : A ≠ none) {x y : Operand} (hx : ev l x = some (.slice A len c)) (hy : ev l y = some (.int kd i))
    (ht : nth tab t = some ⟨.slice e, s, b⟩) (hr : nth tab e = some re) (h0 : 0 ≤ i) (h1 : i < len) (hd : d < n) (kk : Z P ops md n ((d, .pointer (slAt A (i.toNat * re.size))) :: l) B hp rest) :
    Z P ops md n l B hp (⟨some d, .indexAddr t x y, ty, pos, aft, none⟩ :: rest) :=
  z_valp (Mode.fits_of rfl) rfl rfl hd (fun a w hA => by
    simp only [execOp, hA.eval hx, hA.eval hy, Sem.run_bind, x_indexs (k := i.toNat * re.size) hT ht hr h0 h1 rfl hne, Result.andThen, Sem.run_pure]) kk
/-- One cell of a slice. -/
theorem o_loads {t : Nat} {r : TRow} {tab : List TRow} (hT : TabOk P tab) {x : Operand} {A : Option Addr} {k : Nat} {cs : List Value} {v : Value} (hrd : Rds hp A cs) (hx : ev l x = some (.pointer (slAt A k))) (ht : nth tab t = some r) (ha : r.kind.agg = false)
    (hc : cs[k]? = some v) (hd : d < n) (kk : Z P ops md n ((d, v) :: l) B hp rest) : Z P ops md n l B hp (⟨some d, .load t x, ty, pos, aft, none⟩ :: rest) :=
  z_load (Mode.fits_of rfl) rfl rfl hd (fun a w hA hS => by
    obtain ⟨p, hp, hcell⟩ := hrd w hS.toPre k v hc
    subst hp
    have he := hA.eval hx
    simp only [slAt, Option.map_some] at he
    simp only [execOp, he, Sem.run_bind, x_load1 hT ht ha hcell, Result.andThen, Sem.run_pure]) kk
/-- A whole element of a slice. -/
theorem o_loadsw {t : Nat} {r : TRow} {tab : List TRow} (hT : TabOk P tab) {x : Operand} {A : Option Addr} {k : Nat} {cs es : List Value} (hrd : Rds hp A cs) (hx : ev l x = some (.pointer (slAt A k))) (ht : nth tab t = some r) (ha : r.kind.agg = true)
    (hl : es.length = r.size) (hz : 0 < es.length) (hc : ∀ j u, es[j]? = some u → cs[k + j]? = some u) (hd : d < n) (kk : Z P ops md n ((d, .agg es.toArray) :: l) B hp rest) : Z P ops md n l B hp (⟨some d, .load t x, ty, pos, aft, none⟩ :: rest) :=
  z_load (Mode.fits_of rfl) rfl rfl hd (fun a w hA hS => by
    have hA0 : ∃ p, A = some p := by
      obtain ⟨p, hp, _⟩ := hrd w hS.toPre _ _ (hc 0 _ (List.getElem?_eq_getElem hz))
      exact ⟨p, hp⟩
    obtain ⟨p, hp⟩ := hA0
    subst hp
    have he := hA.eval hx
    simp only [slAt, Option.map_some] at he
    have hll : (loadCells (p.add k) es.length).run P w = .ok es.toArray w :=
      run_loadCells_list (P := P) w (p.add k) es (fun j v hv => by
        obtain ⟨q, hq, hcell⟩ := hrd w hS.toPre _ _ (hc j v hv)
        injection hq with hq
        subst hq
        rw [add_add]
        exact hcell)
    simp only [execOp, he, Instr.loadAt, Instr.sureAddr, loadVar, x_isAgg hT ht, ha, x_sizeOf hT ht, ← hl, hll, Sem.run_bind, Result.andThen, Sem.run_pure, if_true]) kk

/-- A block is a slice of the call's own. -/
theorem St.cells_own {B : Base} {w : World} {hp : List Chunk} {g T : Nat} {cs : List Value} (h : St B w (cells g T cs :: hp)) (c sz : Nat) (hl : cs.length = c * sz) : St B w (own (some ⟨g, 0, none⟩) c T sz c cs :: hp) := by
  have hc := h.at_ 0 rfl
  simp only [cells] at hc
  refine h.turn (fun k hk => ?_) ⟨hl, .inr ⟨g, 0, cs.toArray, rfl, hc, Nat.le_refl _, by simp [hl], by simp [← hl]⟩⟩
  obtain ⟨p, hp, hk⟩ := hk
  injection hp with hp
  subst hp
  exact hk.symm
/-- A slice of the call's own, cut at its beginning. -/
theorem St.own_cut {B : Base} {w : World} {hp : List Chunk} {A : Option Addr} {c T sz n : Nat} {xs : List Value} (h : St B w (own A c T sz n xs :: hp)) (k : Nat) (hk : k ≤ n) :
    St B w (own (if c = k then A else A.map (·.add (k * sz))) (c - k) T sz (n - k) (xs.drop (k * sz)) :: hp) := by
  have ho := h.at_ 0 rfl
  refine h.turn (fun j hj => ?_) ?_
  · obtain ⟨p, hp, hj⟩ := hj
    split at hp
    · exact ⟨p, hp, hj⟩
    · cases A with
      | none => cases hp
      | some q =>
        injection hp with hp
        subst hp
        exact ⟨q, rfl, by rw [← hj]; unfold Addr.add; split <;> rfl⟩
  · refine ⟨by rw [List.length_drop, ho.1, Nat.sub_mul], ?_⟩
    rcases ho.2 with ⟨rfl, hn, hc⟩ | ⟨g, o, cur, rfl, hg, hnc, hfit, hx⟩
    · exact .inl ⟨by split <;> rfl, by omega, by omega⟩
    · by_cases e : c = k
      · refine .inr ⟨g, o, cur, by rw [if_pos e], hg, by omega, ?_, ?_⟩
        · rw [show c - k = 0 by omega]; simp; omega
        · rw [show n - k = 0 by omega]
          have : xs.drop (k * sz) = [] := by
            apply List.drop_eq_nil_of_le
            rw [ho.1, show n = k by omega]
            exact Nat.le_refl _
          rw [this]; simp
      · refine .inr ⟨g, o + k * sz, cur, by rw [if_neg e]; simp [add_mk], hg, by omega, ?_, ?_⟩
        · have h1 : k * sz + (c - k) * sz = c * sz := by rw [← Nat.add_mul, show k + (c - k) = c by omega]
          omega
        · rw [← hx, List.drop_take, List.drop_drop, Nat.sub_mul]
def evp (l : Fr) : List (Nat × Operand) → Option (List (Nat × Value))
  | [] => some []
  | (i, x) :: r => match ev l x with
    | some v => match evp l r with
      | some vs => some ((i, v) :: vs)
      | none => none
    | none => none
theorem Has.evalp {a : Act} (h : Has a n l) {xs : List (Nat × Operand)} {vs : List (Nat × Value)} (e : evp l xs = some vs) : (xs.map fun p => (p.1, a.eval p.2)) = vs := by
  induction xs generalizing vs with
  | nil => simpa [evp] using e
  | cons p r ih =>
    obtain ⟨i, x⟩ := p
    simp only [evp] at e
    cases hx : ev l x with
    | none => simp [hx] at e
    | some v =>
      cases hr : evp l r with
      | none => simp [hx, hr] at e
      | some us =>
        simp [hx, hr] at e
        subst e
        simp [h.eval hx, ih hr]
/-- A slice of a few elements, made. -/
theorem o_make {md : Mode} (hme : md.canX = true) {t e s b len : Nat} {re : TRow} {z : Value} {tab : List TRow} (hT : TabOk P tab) {ps : List (Nat × Operand)} {pvs : List (Nat × Value)} {cs : List Value} (hx : evp l ps = some pvs) (ht : nth tab t = some ⟨.slice e, s, b⟩) (hr : nth tab e = some re)
    (hz : (P.info? e).map (·.zero) = some (some z)) (hsz : Nat.ble (len * re.size) 1000 = true) (h0 : Nat.beq (len * re.size) 0 = false)
    (hfill : Instr.fill (fun i => some (i * re.size, re.size)) ((Array.range (len * re.size)).map (z.cells[· % z.cells.size]!)) pvs = some cs.toArray) (hd : d < n)
    (kk : ∀ g, Z P ops md n ((d, .slice (some ⟨g, 0, none⟩) len len) :: l) B (cells g e cs :: hp) rest) : Z P ops md n l B hp (⟨some d, .buildSlice t len ps.toArray, ty, pos, aft, none⟩ :: rest) :=
  z_new hme (X := Nat) (v := fun g => .slice (some ⟨g, 0, none⟩) len len) (hq := fun g => cells g e cs :: hp) (Mode.fits_of rfl) (fun _ => True) hd (fun a w hA hS => by
    obtain ⟨dd, _, hu, hk', -⟩ := hT t _ ht
    cases dd <;> simp [kindOf] at hk'
    replace hu : P.underlying t = some (.slice e) := by rw [hu, hk']
    clear hk'
    obtain ⟨_, i', _, _, hi, hs, _⟩ := hT _ _ hr
    simp [hi] at hz
    have hev : ps.toArray.map (fun p => (p.1, a.eval p.2)) = pvs.toArray := by rw [List.map_toArray, hA.evalp hx]
    have h1 : ¬ (2 ^ 24 < len * re.size) := by have := Nat.le_of_ble_eq_true hsz; omega
    have h2 : ¬ (len * re.size = 0) := by intro h; rw [h] at h0; simp at h0
    refine ⟨w.heap.size, w.alloc (.cells cs.toArray e), trivial, ?_, hS.alloc _ _, Ext.alloc _ _⟩
    simp only [execOp, hev, Instr.buildSlice, run_underlying hu, x_sizeOf hT hr, Sem.run_bind, Result.andThen, gt_iff_lt, h1, h2, if_false, zeroValue, typeInfo, program, Sem.run, hi, hz, Sem.run_pure, hfill, newRow, newObj]
    rfl) fun g _ => kk g

/-- A slice of one element of one cell, made. -/
theorem o_make1 {md : Mode} (hme : md.canX = true) {t e s b kb : Nat} {rk : TKind} {tab : List TRow} (hT : TabOk P tab) (hZ : ZeroOk P tab) {x : Operand} {v : Value} (hx : ev l x = some v) (hv : oneB v = true) (ht : nth tab t = some ⟨.slice e, s, b⟩) (hr : nth tab e = some ⟨rk, 1, kb⟩) (hk : rk.known = true) (hd : d < n)
    (kk : ∀ g, Z P ops md n ((d, .slice (some ⟨g, 0, none⟩) 1 1) :: l) B (own (some ⟨g, 0, none⟩) 1 e 1 1 [v] :: hp) rest) : Z P ops md n l B hp (⟨some d, .buildSlice t 1 #[(0, x)], ty, pos, aft, none⟩ :: rest) := by
  obtain ⟨i, z, hi, hz, hzs⟩ := hZ e _ hr hk
  have hzs' : z.cells.size = 1 := hzs
  refine z_new hme (X := Nat) (v := fun g => .slice (some ⟨g, 0, none⟩) 1 1) (hq := fun g => own (some ⟨g, 0, none⟩) 1 e 1 1 [v] :: hp) (Mode.fits_of rfl) (fun _ => True) hd (fun a w hA hS => ?_) fun g _ => kk g
  obtain ⟨dd, _, hu, hk', -⟩ := hT t _ ht
  cases dd <;> simp [kindOf] at hk'
  replace hu : P.underlying t = some (.slice e) := by rw [hu, hk']
  obtain ⟨_, i', _, _, hi', hs, _⟩ := hT _ _ hr
  rw [hi] at hi'
  injection hi' with hi'
  subst hi'
  have hs' : i.size = 1 := hs
  refine ⟨w.heap.size, w.alloc (.cells [v].toArray e), trivial, ?_, (hS.alloc e [v]).cells_own 1 1 rfl, Ext.alloc _ _⟩
  have hc := cells_of_one hv
  have hfill : ∀ A : Array Value, A.size = 1 → Instr.fill (fun i => some (i, 1)) A [(0, v)] = some #[v] := fun A hA1 => by
    obtain ⟨l⟩ := A
    match l, hA1 with
    | [u], _ => simp [Instr.fill, hc]
  simp [execOp, hA.eval hx, Instr.buildSlice, run_underlying hu, sizeOf, zeroValue, typeInfo, hi, hs', hz, hfill, newRow, newObj, Sem.run_bind, Sem.run, Sem.run_pure, Result.andThen]
/-! ### append -/
/-- The slice in front is appended to; what is appended is read wherever it stands. -/
theorem x_append {w : World} {t ty e sz by_ k c m cx : Nat} {A Ax : Option Addr} {xs news : List Value} {z : Value} {i : TypeInfo} (ht : P.underlying t = some (.slice e)) (hi : P.info? e = some i) (hz : i.zero = some z) (hs : i.size = sz) (hby : i.bytes = by_)
    (hzs : z.cells.size = sz) (hown : (own A c e sz k xs).holds w) (hrd : Rd w Ax news) (hnl : news.length = m * sz) (hsz : 0 < sz) (hone : ∀ u ∈ news, u.oneCell' = true) (h47 : (k + m) * by_ ≤ 140737488355328) (hmax : k + m ≤ 9223372036854775807) :
    ∃ A' c' w', (Builtin.append_ #[t, t] ty #[.slice A k c, .slice Ax m cx]).run P w = .ok (.slice A' (k + m) c') w' ∧ (own A' c' e sz (k + m) (xs ++ news)).holds w' ∧ w'.os = w.os ∧ w'.tape = w.tape ∧ w'.output = w.output ∧ (w.heap.size ≤ w'.heap.size ∧ w.drawn ≤ w'.drawn) ∧
      (∀ j, j < w.heap.size → ¬ (own A c e sz k xs).foot j → w'.heap[j]? = w.heap[j]?) ∧ (∀ j, (own A' c' e sz (k + m) (xs ++ news)).foot j → (own A c e sz k xs).foot j ∨ w.heap.size ≤ j) := by
  have hlen : (xs ++ news).length = (k + m) * sz := by rw [List.length_append, hown.1, hnl, Nat.add_mul]
  by_cases hm : m = 0
  · subst hm
    have hn : news = [] := List.eq_nil_of_length_eq_zero (by simpa using hnl)
    subst hn
    refine ⟨A, c, w, ?_, by simpa using hown, rfl, rfl, rfl, ⟨Nat.le_refl _, Nat.le_refl _⟩, fun _ _ _ => rfl, fun j hj => .inl (by simpa [own] using hj)⟩
    have hkc : k ≤ c := by rcases hown.2 with ⟨_, h, _⟩ | ⟨_, _, _, _, _, h, _⟩ <;> omega
    cases Ax with
    | none => cases A <;> simp [Builtin.append_, run_underlying ht, sizeOf, typeInfo, hi, Builtin.lenOf, Builtin.firstCells, hkc, storeCells]
    | some ad =>
      have hf := run_firstCells_some (P := P) w i.size 0 ad 0 cx [] (by simp) (by simp)
      cases A <;> simp [Builtin.append_, run_underlying ht, sizeOf, typeInfo, hi, Builtin.lenOf, hf, hkc, storeCells]
  have hnp : 0 < news.length := by rw [hnl]; exact Nat.mul_pos (by omega) hsz
  obtain ⟨ad, rfl, _⟩ := hrd 0 _ (List.getElem?_eq_getElem hnp)
  have hnews : ∀ j u, news[j]? = some u → w.cell? (ad.add j) = some u := fun j u hu => by
    obtain ⟨p, hp, hc⟩ := hrd j u hu
    injection hp with hp
    subst hp
    exact hc
  have hnl' : news.length = m * i.size := by rw [hs]; exact hnl
  have newfoot : ∀ (c' : Nat) (j : Nat), (own (some ⟨w.heap.size, 0, none⟩) c' e sz (k + m) (xs ++ news)).foot j → w.heap.size ≤ j := fun c' j ⟨p, hp, hj⟩ => by
    injection hp with hp
    subst hp
    exact Nat.le_of_eq hj
  have hcap : ∀ need old, need ≤ 9223372036854775807 → need ≤ grownCap w need old e := fun need old hn => by
    unfold grownCap Question.cut
    exact Nat.le_add_right _ _
  rcases hown.2 with ⟨rfl, rfl, rfl⟩ | ⟨g, o, cur, rfl, hg, hkc, hfit, hx⟩
  · have hx0 : xs = [] := List.eq_nil_of_length_eq_zero (by simpa using hown.1)
    subst hx0
    have hrun := run_append_nil (P := P) w t ty e i z ht hi hz ad m cx news hnl' hnews (by omega) (by omega) (by rw [hby]; simp at h47; omega)
    refine ⟨_, grownCap w m 0 e, _, by simpa using hrun, ⟨hlen, .inr ⟨w.heap.size, 0, _, rfl, heap_alloc_new w.drew _, by have := hcap m 0 (by omega); omega, ?_, ?_⟩⟩, rfl, rfl, rfl, ⟨by simp, Nat.le_succ _⟩, fun j hj _ => RowKit.Below.heap_alloc w.drew _ j hj, fun j hj => .inr (newfoot _ j hj)⟩
    · simp [Builtin.zeroCells, hzs, hnl, ← Nat.add_mul]
      have := hcap m 0 (by omega)
      rw [show m + (grownCap w m 0 e - m) = grownCap w m 0 e by omega]
      exact Nat.le_refl _
    · simp [hnl]
  · by_cases hroom : k + m ≤ c
    · have h1 : (k + m) * sz ≤ c * sz := Nat.mul_le_mul_right _ hroom
      rw [Nat.add_mul] at h1
      have hf := run_firstCells_some (P := P) w i.size m ad m cx news hnl' hnews
      have hst := run_storeCells_at P g (o + k * sz) e news 0 cur w hg (by rw [hnl]; omega) hone
      refine ⟨some ⟨g, o, none⟩, c, w.setRow g (cur.toList.take (o + k * sz + 0) ++ news ++ cur.toList.drop (o + k * sz + 0 + news.length)).toArray, ?_, ⟨hlen, .inr ⟨g, o, _, rfl, setRow_heap w g cur _ e (0, 0) hg, hroom, ?_, ?_⟩⟩, rfl, rfl, rfl, ⟨by simp, Nat.le_refl _⟩, fun j _ hj => ?_, fun j hj => .inl hj⟩
      · rw [hs] at hf
        simp only [Nat.add_zero] at hst
        simp [Builtin.append_, run_underlying ht, sizeOf, typeInfo, hi, Builtin.lenOf, hroom, hf, hs, add_mk, hst]
      · simp [hnl]; omega
      · have e1 : (cur.toList.take (o + k * sz + 0) ++ news ++ cur.toList.drop (o + k * sz + 0 + news.length)).toArray.toList = cur.toList.take (o + k * sz) ++ news ++ cur.toList.drop (o + k * sz + news.length) := by simp
        rw [e1]
        have h2 : (cur.toList.take (o + k * sz)).length = o + k * sz := by simp; omega
        rw [List.append_assoc, List.drop_append_of_le_length (by omega), List.drop_take, show o + k * sz - o = k * sz by omega, hx, ← List.append_assoc]
        exact List.take_left' hlen
      · exact setRow_other w g j _ (fun h => hj ⟨_, rfl, h.symm⟩)
    · have hold : ∀ j u, xs[j]? = some u → w.cell? ((⟨g, o, none⟩ : Addr).add j) = some u := fun j u hu => by
        obtain ⟨p, hp, hc⟩ := own_rd hown j u hu
        injection hp with hp
        subst hp
        exact hc
      have hrun := run_append_grow (P := P) w t ty e i z ht hi hz ⟨g, o, none⟩ k c xs (by rw [hs]; exact hown.1) hold ad m cx news hnl' hnews (by omega) (by omega) (by rw [hby]; exact growslice_fits (by omega) h47)
      have := hcap (k + m) c hmax
      refine ⟨_, grownCap w (k + m) c e, _, hrun, ⟨hlen, .inr ⟨w.heap.size, 0, _, rfl, heap_alloc_new w.drew _, by omega, ?_, ?_⟩⟩, rfl, rfl, rfl, ⟨by simp, Nat.le_succ _⟩, fun j hj _ => RowKit.Below.heap_alloc w.drew _ j hj, fun j hj => .inr (newfoot _ j hj)⟩
      · simp [Builtin.zeroCells, hzs, hnl, hown.1, ← Nat.add_mul]
        rw [show k + m + (grownCap w (k + m) c e - (k + m)) = grownCap w (k + m) c e by omega]
        exact Nat.le_refl _
      · have e2 : (xs.toArray ++ news.toArray ++ Builtin.zeroCells z.cells (grownCap w (k + m) c e - (k + m))).toList = (xs ++ news) ++ (Builtin.zeroCells z.cells (grownCap w (k + m) c e - (k + m))).toList := by simp
        rw [e2, List.drop_zero]
        exact List.take_left' hlen
theorem o_append {md : Mode} (hme : md.canX = true) {t e s b sz by_ c k cx : Nat} {A Ax : Option Addr} {xs news : List Value} {kd : TKind} {tab : List TRow} (hT : TabOk P tab) (hZ : ZeroOk P tab) {x y : Operand} (hx : ev l x = some (.slice A k c)) (hy : ev l y = some (.slice Ax m cx))
    (ht : nth tab t = some ⟨.slice e, s, b⟩) (hr : nth tab e = some ⟨kd, sz, by_⟩) (hk : kd.known = true) (hsz : Nat.blt 0 sz = true)
    (hrd : Rds (own A c e sz k xs :: hp) Ax news) (hnl : news.length = m * sz) (hone : news.all (·.oneCell') = true) (h47 : (k + m) * by_ ≤ 140737488355328) (hmax : k + m ≤ 9223372036854775807) (hd : d < n)
    (kk : ∀ A' c', Z P ops md n ((d, .slice A' (k + m) c') :: l) B (own A' c' e sz (k + m) (xs ++ news) :: hp) rest) :
    Z P ops md n l B (own A c e sz k xs :: hp) (⟨some d, .call ⟨.builtin .append, #[x, y], #[t, t]⟩, ty, pos, aft, none⟩ :: rest) :=
  z_effx hme (X := Option Addr × Nat) (v := fun p => .slice p.1 (k + m) p.2) (hq := fun p => own p.1 p.2 e sz (k + m) (xs ++ news) :: hp) (Mode.fits_of rfl) (fun _ => True) hd (fun a w hA hS => by
    obtain ⟨dd, _, hu, hk', -⟩ := hT t _ ht
    cases dd <;> simp [kindOf] at hk'
    replace hu : P.underlying t = some (.slice e) := by rw [hu, hk']
    clear hk'
    obtain ⟨_, i', _, _, hi, hs, hby⟩ := hT _ _ hr
    obtain ⟨i'', z, hi'', hz, hzs⟩ := hZ e _ hr hk
    rw [hi] at hi''
    injection hi'' with hi''
    subst hi''
    obtain ⟨A', c', w', hrun, hown', h1, h2, h3, h4, h5, h6⟩ := x_append (P := P) (ty := ty) (cx := cx) hu hi hz hs hby hzs (hS.at_ 0 rfl) (hrd w hS.toPre) hnl (Nat.le_of_ble_eq_true hsz) (by simpa using hone) h47 hmax
    refine ⟨(A', c'), w', trivial, ?_, ?_⟩
    · simp only [execOp, resolve, List.map_toArray, List.map_cons, List.map_nil, hA.eval hx, hA.eval hy, Sem.run_bind, Sem.run_pure, Result.andThen, invoke, builtin, hrun]
    · refine St.call (pr := [own A c e sz k xs]) hS (po := [own A' c' e sz (k + m) (xs ++ news)]) ⟨h1, h2, h3, h4.1, ?_, by simp [Apart], fun ch hch k' hk' => ?_, fun k' hk' hn => h5 k' hk' (hn _ (List.mem_singleton.2 rfl)), h4.2⟩
      · simp only [List.mem_singleton, forall_eq]
        exact hown'
      · simp at hch
        subst hch
        exact (h6 k' hk').imp (fun h => ⟨own A c e sz k xs, List.mem_singleton.2 rfl, h⟩) id) fun p _ => kk p.1 p.2
end
end Go.Proofs.Ytnckabgaichkkaa.Eng
