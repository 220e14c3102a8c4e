/-
The engine, another part: calls of function values; room; what a slice may be told to be.
-/
import Derived.Test.YtnckabgaichkkaaEngY
import Derived.Lib.AppendZeros
namespace Go.Proofs.Ytnckabgaichkkaa.Eng
set_option linter.unusedVariables false
set_option linter.unusedSimpArgs false
open Go
section
variable {P : Program} {ops : Array Oper} {md : Mode} {m n : Nat} {l : Fr} {B : Base} {hp hq : List Chunk} {rest : List Oper} {o : Oper} {Q : Exit → Act → World → Prop} {F : Act → World → Prop}
variable {d : Nat} {ty : TypeId} {pos : String} {aft : Array Edge}
theorem x_callf {f : FuncId} {fn : Func} {cx : Operand} (hcx : ev l cx = some (.func (.func f) #[] #[])) (hf : P.funcs[f]? = some fn) (hb : fn.body.isNone = false) (hname : (fn.name == "runtime.NumGoroutine") = false) {args : List Operand} {ats : Array TypeId} {vs : List Value} {a : Act} (hA : Has a n l)
    (hargs : evs l args = some vs) (dst : Option Tmp) (w : World) :
    (execOp a.eval ⟨dst, .call ⟨.value cx, args.toArray, ats⟩, ty, pos, aft, none⟩).run P w = .ok (.enter f vs.toArray) w := by
  have h1 : args.toArray.map a.eval = vs.toArray := by rw [List.map_toArray, hA.evals hargs]
  have h2 : a.eval cx = .func (.func f) #[] #[] := hA.eval hcx
  have h3 : ¬ fn.name = "runtime.NumGoroutine" := by simpa using hname
  have h4 : ¬ fn.body = none := by cases h : fn.body <;> simp_all
  simp [execOp, resolve, h1, h2, Deferred.ofValue, invoke, callFunc, program, hf, h3, h4, Sem.run_bind, Sem.run, Sem.run_pure, Result.andThen]
theorem o_callf {f : FuncId} {fn : Func} {cx : Operand} (hcx : ev l cx = some (.func (.func f) #[] #[])) (hf : P.funcs[f]? = some fn) (hb : fn.body.isNone = false) (hname : (fn.name == "runtime.NumGoroutine") = false) {args : List Operand} {ats : Array TypeId} {vs : List Value} (hargs : evs l args = some vs)
    {pr fr : List Chunk} {X : Type} {ok : X → Prop} {v : X → Value} {po : X → List Chunk} (spec : Does P f vs pr ok v po) (hperm : hp.Perm (pr ++ fr)) (hd : d < n)
    (k : ∀ x, ok x → Z P ops (.list Q) n ((d, v x) :: l) B (po x ++ fr) rest) : Z P ops (.list Q) n l B hp (⟨some d, .call ⟨.value cx, args.toArray, ats⟩, ty, pos, aft, none⟩ :: rest) := by
  intro a w hA hS
  have hS' := hS.perm hperm
  unfold wpList
  rw [if_pos (by simp [Region.wanted])]
  refine .inl ?_
  unfold Oper.wp
  rw [x_callf hcx hf hb hname hA hargs]
  refine (spec w (hS'.toPre.sub (List.sublist_append_left _ _))).mono fun e w' ⟨x, hok, he, hx⟩ => ?_
  subst he
  exact k x hok _ w' (hA.put hd (v x)) (hS'.call hx)
/-- A call in a region that draws its order: one value, and all that is told stays. -/
theorem o_callqf {md : Mode} (hmd : (∃ F, md = .quiet F ∨ md = .mixed F) ∨ ∃ el wr R news, md = .mono el wr R news) {f : FuncId} {fn : Func} {cx : Operand} (hcx : ev l cx = some (.func (.func f) #[] #[])) (hf : P.funcs[f]? = some fn) (hb : fn.body.isNone = false) (hname : (fn.name == "runtime.NumGoroutine") = false) {args : List Operand} {ats : Array TypeId} {vs : List Value} (hargs : evs l args = some vs)
    {pr fr : List Chunk} {X : Type} {ok : X → Prop} {v : X → Value} {po : X → List Chunk} (spec : Does P f vs pr ok v po) (hperm : hp.Perm (pr ++ fr)) (hd : d < n) {u : Value} (hv : ∀ x, ok x → v x = u) (hpo : ∀ x, ok x → pr.Sublist (po x))
    (k : Z P ops md n ((d, u) :: l) B hp rest) : Z P ops md n l B hp (⟨some d, .call ⟨.value cx, args.toArray, ats⟩, ty, pos, aft, none⟩ :: rest) := by
  have key : ∀ a, Has a n l → ∀ w, St B w hp → Oper.quietAt P ⟨some d, .call ⟨.value cx, args.toArray, ats⟩, ty, pos, aft, none⟩ a (fun w => St B w hp) w u := fun a hA w hS => by
    have hS' := hS.perm hperm
    unfold Oper.quietAt
    rw [x_callf hcx hf hb hname hA hargs]
    refine ⟨rfl, (spec w (hS'.toPre.sub (List.sublist_append_left _ _))).mono fun e w' ⟨x, hok, he, hx⟩ => ?_⟩
    subst he
    rw [hv x hok]
    exact ⟨rfl, ((hS'.call hx).sub ((hpo x hok).append (List.Sublist.refl _))).perm hperm.symm⟩
  obtain ⟨F, rfl | rfl⟩ | ⟨el, wr, R, news, rfl⟩ := hmd
  · intro a hA
    show wpQuiet P ops _ _ (_ :: rest) a
    unfold wpQuiet
    rw [if_pos (by simp [Region.wanted])]
    exact ⟨u, key a hA, k _ (hA.put hd u)⟩
  · intro a hA
    show MW P ops _ (_ :: rest) _ a
    unfold MW
    rw [if_pos (by simp [Region.wanted])]
    exact ⟨u, key a hA, k _ (hA.put hd u)⟩
  · intro a hA
    show MP P ops el B hp _ (_ :: rest) news wr a
    unfold MP
    rw [if_pos (by simp [Region.wanted]), if_neg (by simp [cls])]
    have pm : ∀ X : List Chunk, (X ++ hp).Perm (pr ++ (X ++ fr)) := fun X => (List.Perm.append_left X hperm).trans (by rw [← List.append_assoc, ← List.append_assoc]; exact List.Perm.append_right fr List.perm_append_comm)
    have keym : ∀ (X : List Chunk) (w : World), St B w (X ++ hp) → Calls P f vs.toArray w fun e w' => e = .returned u ∧ St B w' (X ++ hp) := fun X w hS => by
      have hS' : St B w (pr ++ (X ++ fr)) := hS.perm (pm X)
      refine (spec w (hS'.toPre.sub (List.sublist_append_left _ _))).mono fun e w' ⟨x, hok, he, hx⟩ => ?_
      subst he
      rw [hv x hok]
      exact ⟨rfl, ((hS'.call hx).sub ((hpo x hok).append (List.Sublist.refl _))).perm (pm X).symm⟩
    simp only [iniOf]
    by_cases he : isEl el ⟨some d, .call ⟨.value cx, args.toArray, ats⟩, ty, pos, aft, none⟩ = true
    · rw [if_pos he]
      refine ⟨Unit, fun _ => True, fun _ => u, fun _ => wr, fun X w hS => ?_, fun _ _ => k _ (hA.put hd u)⟩
      unfold effOne
      rw [x_callf hcx hf hb hname hA hargs]
      rw [← List.append_assoc] at hS
      refine (keym _ w hS).mono fun e w' h => ?_
      rw [List.append_assoc] at h
      exact ⟨u, h.1, (), trivial, rfl, h.2⟩
    · rw [if_neg he]
      refine ⟨u, fun X w hS => ?_, k _ (hA.put hd u)⟩
      unfold Oper.quietAt
      rw [x_callf hcx hf hb hname hA hargs]
      exact ⟨rfl, keym X w hS⟩
theorem o_callrf {md : Mode} (hmd : md.canCall = true) {f : FuncId} {fn : Func} {cx : Operand} (hcx : ev l cx = some (.func (.func f) #[] #[])) (hf : P.funcs[f]? = some fn) (hb : fn.body.isNone = false) (hname : (fn.name == "runtime.NumGoroutine") = false) {args : List Operand} {ats : Array TypeId} {vs : List Value} (hargs : evs l args = some vs) {u : Value}
    (spec : Does P f vs hp (fun _ : Unit => True) (fun _ => u) (fun _ => hp)) (hd : d < n) (k : Z P ops md n ((d, u) :: l) B hp rest) : Z P ops md n l B hp (⟨some d, .call ⟨.value cx, args.toArray, ats⟩, ty, pos, aft, none⟩ :: rest) := by
  have hp0 : hp.Perm (hp ++ []) := by simp
  cases md with
  | still F => cases hmd
  | mixedx F => cases hmd
  | keep ol wr F => cases hmd
  | list Q => exact o_callf hcx hf hb hname hargs spec hp0 hd fun x hx => by rw [List.append_nil]; exact k
  | quiet F => exact o_callqf (.inl ⟨F, .inl rfl⟩) hcx hf hb hname hargs spec hp0 hd (fun _ _ => rfl) (fun _ _ => List.Sublist.refl _) k
  | mixed F => exact o_callqf (.inl ⟨F, .inr rfl⟩) hcx hf hb hname hargs spec hp0 hd (fun _ _ => rfl) (fun _ _ => List.Sublist.refl _) k
  | mono el wr R news => exact o_callqf (.inr ⟨el, wr, R, news, rfl⟩) hcx hf hb hname hargs spec hp0 hd (fun _ _ => rfl) (fun _ _ => List.Sublist.refl _) k
theorem z_isfv {x : Nat} {args : Array Operand} {ats : Array TypeId} {od : Option Tmp} {g : Option (Nat × Bool)} (h : Z P ops md n l B hp (⟨od, .call ⟨.value (.tmp x), args, ats⟩, ty, pos, aft, g⟩ :: rest)) : Z P ops md n l B hp (⟨od, .call ⟨.value (.tmp x), args, ats⟩, ty, pos, aft, g⟩ :: rest) := h
theorem o_cap {t e s b : Nat} {tab : List TRow} (hT : TabOk P tab) {x : Operand} {A : Option Addr} {k c : Nat} (hx : ev l x = some (.slice A k c)) (ht : nth tab t = some ⟨.slice e, s, b⟩) (hd : d < n)
    (kk : Z P ops md n ((d, .int .i64 c) :: l) B hp rest) : Z P ops md n l B hp (⟨some d, .call ⟨.builtin .cap, #[x], #[t]⟩, ty, pos, aft, none⟩ :: rest) :=
  z_valp (Mode.fits_of rfl) rfl rfl hd (fun a w hA => by
    obtain ⟨dd, _, hu, hk, -⟩ := hT t _ ht
    cases dd <;> simp [kindOf] at hk
    simp [execOp, resolve, hA.eval hx, invoke, builtin, Builtin.cap_, run_underlying hu, goInt, Sem.run_bind, Sem.run_pure, Result.andThen]) kk
/-- append to nil of so many noughts: nothing is told of them. -/
theorem o_appendz {md : Mode} (hme : md.canX = true) {t e s b tn s2 b2 sz by_ k : Nat} {kn : IntKind} {kd : TKind} {tab : List TRow} (hT : TabOk P tab) (hZ : ZeroOk P tab) {x y : Operand} (hx : ev l x = some (.slice none 0 0)) (hy : ev l y = some (.int .i64 k))
    (ht : nth tab t = some ⟨.slice e, s, b⟩) (htn : nth tab tn = some ⟨.int kn, s2, b2⟩) (hr : nth tab e = some ⟨kd, sz, by_⟩) (hk : kd.known = true) (hsz : Nat.blt 0 sz = true) (h0 : 0 < k) (h48 : k * by_ ≤ 281474976710656) (hmax : k ≤ 9223372036854775807) (hd : d < n)
    (kk : ∀ A' c', Z P ops md n ((d, .slice A' k c') :: l) B (own A' c' e sz 0 [] :: hp) rest) :
    Z P ops md n l B hp (⟨some d, .call ⟨.builtin .append, #[x, y], #[t, tn]⟩, ty, pos, aft, none⟩ :: rest) :=
  z_effx hme (X := Option Addr × Nat) (v := fun p => .slice p.1 k p.2) (hq := fun p => own p.1 p.2 e sz 0 [] :: hp) (Mode.fits_of rfl) (fun _ => True) hd (fun a w hA hS => by
    obtain ⟨dd, _, hu, hk', -⟩ := hT t _ ht
    cases dd <;> simp [kindOf] at hk'
    replace hu : P.underlying t = some (.slice e) := by rw [hu, hk']
    clear hk'
    obtain ⟨dn, _, hun, hkn, -⟩ := hT tn _ htn
    cases dn <;> simp [kindOf] at hkn
    obtain ⟨_, i', _, _, hi, hs, hby⟩ := hT _ _ hr
    obtain ⟨i'', z, hi'', hz, hzs⟩ := hZ e _ hr hk
    rw [hi] at hi''
    injection hi'' with hi''
    subst hi''
    have hrun := Lib.run_append_nil_zeros (P := P) w t tn ty e i' z .i64 _ hu hun hi hz k h0 (by rw [hs]; exact Nat.le_of_ble_eq_true hsz) (by omega) (by rw [hby]; exact h48)
    refine ⟨(some ⟨w.heap.size, 0, none⟩, grownCap w k 0 e), w.drew.alloc (.cells (Builtin.zeroCells z.cells k ++ Builtin.zeroCells z.cells (grownCap w k 0 e - k)) e), trivial, ?_, ?_⟩
    · simp only [execOp, resolve, List.map_toArray, List.map_cons, List.map_nil, hA.eval hx, hA.eval hy, Sem.run_bind, Sem.run_pure, Result.andThen, invoke, builtin, hrun]
    · have hcap : k ≤ grownCap w k 0 e := by
        unfold grownCap Question.cut
        exact Nat.le_add_right _ _
      refine St.call0 hS (po := [own (some ⟨w.heap.size, 0, none⟩) (grownCap w k 0 e) e sz 0 []]) ⟨rfl, rfl, rfl, by simp, ?_, by simp [Apart], fun ch hch k' hk' => ?_, fun k' hk' _ => RowKit.Below.heap_alloc w.drew _ k' hk', Nat.le_succ _⟩
      · simp only [List.mem_singleton, forall_eq]
        refine ⟨by simp, .inr ⟨w.heap.size, 0, _, rfl, heap_alloc_new w.drew _, Nat.zero_le _, ?_, by simp⟩⟩
        simp [Builtin.zeroCells, hzs, ← Nat.add_mul]
        rw [show k + (grownCap w k 0 e - k) = grownCap w k 0 e by omega]
        exact Nat.le_refl _
      · simp at hch
        subst hch
        obtain ⟨p, hp, hj⟩ := hk'
        injection hp with hp
        subst hp
        exact .inr (Nat.le_of_eq hj)) fun p _ => kk p.1 p.2
/-- A slice of one element of several cells, made. -/
theorem o_makew {md : Mode} (hme : md.canX = true) {t e s b sz kb : Nat} {rk : TKind} {vs : List Value} {tab : List TRow} (hT : TabOk P tab) (hZ : ZeroOk P tab) {x : Operand} (hx : ev l x = some (.agg vs.toArray)) (ht : nth tab t = some ⟨.slice e, s, b⟩) (hr : nth tab e = some ⟨rk, sz, kb⟩) (hk : rk.known = true)
    (hl : vs.length = sz) (hsz : Nat.blt 0 sz = true) (hsm : Nat.ble sz 1000 = true) (hd : d < n)
    (kk : ∀ g, Z P ops md n ((d, .slice (some ⟨g, 0, none⟩) 1 1) :: l) B (own (some ⟨g, 0, none⟩) 1 e sz 1 vs :: hp) rest) : Z P ops md n l B hp (⟨some d, .buildSlice t 1 #[(0, x)], ty, pos, aft, none⟩ :: rest) := by
  obtain ⟨i, z, hi, hz, hzs⟩ := hZ e _ hr hk
  have hzs' : z.cells.size = sz := hzs
  refine z_new hme (X := Nat) (v := fun g => .slice (some ⟨g, 0, none⟩) 1 1) (hq := fun g => own (some ⟨g, 0, none⟩) 1 e sz 1 vs :: hp) (Mode.fits_of rfl) (fun _ => True) hd (fun a w hA hS => ?_) fun g _ => kk g
  obtain ⟨dd, _, hu, hk', -⟩ := hT t _ ht
  cases dd <;> simp [kindOf] at hk'
  replace hu : P.underlying t = some (.slice e) := by rw [hu, hk']
  obtain ⟨_, i', _, _, hi', hs, _⟩ := hT _ _ hr
  rw [hi] at hi'
  injection hi' with hi'
  subst hi'
  have hs' : i.size = sz := hs
  have h0 : 0 < sz := Nat.le_of_ble_eq_true hsz
  have h1 : sz ≤ 1000 := Nat.le_of_ble_eq_true hsm
  refine ⟨w.heap.size, w.alloc (.cells vs.toArray e), trivial, ?_, (hS.alloc e vs).cells_own 1 sz (by rw [hl, Nat.one_mul]), Ext.alloc _ _⟩
  have hf : ∀ Zs : Array Value, Zs.size = sz → Instr.fill (fun i => some (i * sz, sz)) Zs [(0, .agg vs.toArray)] = some vs.toArray := fun Zs hZs => by
    refine fill_run _ _ _ ⟨0 * sz, sz, rfl, by simp [Value.cells, hl], by simp [hZs], ?_⟩
    simp [Value.cells, hZs]
    show _ ++ _ = vs
    simp [hZs]
  have h2 : ¬ (2 ^ 24 < 1 * sz) := by omega
  have h3 : ¬ (1 * sz = 0) := by omega
  have h4 := hf ((Array.range (1 * sz)).map (z.cells[· % z.cells.size]!)) (by simp)
  simp only [execOp, List.map_toArray, List.map_cons, List.map_nil, hA.eval hx, Instr.buildSlice, run_underlying hu, x_sizeOf hT hr, Sem.run_bind, Result.andThen, gt_iff_lt, h2, h3, if_false, zeroValue, typeInfo, program, Sem.run, hi, hz, Sem.run_pure, newRow, newObj]
  rw [h4]
  rfl
/-- A slice of two elements of one cell, made. -/
theorem o_make2 {md : Mode} (hme : md.canX = true) {t e s b kb : Nat} {rk : TKind} {v0 v1 : Value} {tab : List TRow} (hT : TabOk P tab) (hZ : ZeroOk P tab) {x y : Operand} (hx : ev l x = some v0) (hy : ev l y = some v1) (h0 : oneB v0 = true) (h1 : oneB v1 = true) (ht : nth tab t = some ⟨.slice e, s, b⟩) (hr : nth tab e = some ⟨rk, 1, kb⟩) (hk : rk.known = true) (hd : d < n)
    (kk : ∀ g, Z P ops md n ((d, .slice (some ⟨g, 0, none⟩) 2 2) :: l) B (own (some ⟨g, 0, none⟩) 2 e 1 2 [v0, v1] :: hp) rest) : Z P ops md n l B hp (⟨some d, .buildSlice t 2 #[(0, x), (1, y)], ty, pos, aft, none⟩ :: rest) := by
  obtain ⟨i, z, hi, hz, hzs⟩ := hZ e _ hr hk
  have hzs' : z.cells.size = 1 := hzs
  refine z_new hme (X := Nat) (v := fun g => .slice (some ⟨g, 0, none⟩) 2 2) (hq := fun g => own (some ⟨g, 0, none⟩) 2 e 1 2 [v0, v1] :: hp) (Mode.fits_of rfl) (fun _ => True) hd (fun a w hA hS => ?_) fun g _ => kk g
  obtain ⟨dd, _, hu, hk', -⟩ := hT t _ ht
  cases dd <;> simp [kindOf] at hk'
  replace hu : P.underlying t = some (.slice e) := by rw [hu, hk']
  obtain ⟨_, i', _, _, hi', hs, _⟩ := hT _ _ hr
  rw [hi] at hi'
  injection hi' with hi'
  subst hi'
  have hs' : i.size = 1 := hs
  refine ⟨w.heap.size, w.alloc (.cells [v0, v1].toArray e), trivial, ?_, (hS.alloc e [v0, v1]).cells_own 2 1 rfl, Ext.alloc _ _⟩
  have hf : ∀ Zs : Array Value, Zs.size = 2 → Instr.fill (fun i => some (i, 1)) Zs [(0, v0), (1, v1)] = some [v0, v1].toArray := fun Zs hZs => by
    obtain ⟨l⟩ := Zs
    match l, hZs with
    | [u, u'], _ =>
      refine fill_run _ _ _ ⟨0, 1, rfl, by simp [cells_of_one h0], by simp, 1, 1, rfl, by simp [cells_of_one h1], by simp [cells_of_one h0], ?_⟩
      simp [Filled, cells_of_one h0, cells_of_one h1]
  simp [execOp, hA.eval hx, hA.eval hy, Instr.buildSlice, run_underlying hu, sizeOf, zeroValue, typeInfo, hi, hs', hz, hf, newRow, newObj, Sem.run_bind, Sem.run, Sem.run_pure, Result.andThen]
/-- A slice of one's own may be told to be shorter. -/
theorem St.own_take {B : Base} {w : World} {hp : List Chunk} {A : Option Addr} {c T sz n : Nat} {xs : List Value} (h : St B w (own A c T sz n xs :: hp)) (k : Nat) (hk : k ≤ n) : St B w (own A c T sz k (xs.take (k * sz)) :: hp) := by
  have ho := h.at_ 0 rfl
  refine h.turn (fun j hj => hj) ?_
  have hle : k * sz ≤ n * sz := Nat.mul_le_mul_right _ hk
  refine ⟨by rw [List.length_take, ho.1]; omega, ?_⟩
  rcases ho.2 with ⟨rfl, hn, hc⟩ | ⟨g, o, cur, rfl, hg, hnc, hfit, hx⟩
  · exact .inl ⟨rfl, by omega, hc⟩
  · exact .inr ⟨g, o, cur, rfl, hg, by omega, hfit, by rw [← hx, List.take_take, Nat.min_eq_left hle]⟩
/-- An element, of one cell, of an array that is an element of a slice. -/
theorem o_indexas {t e len s by_ kb k0 : Nat} {re : TKind} {k : IntKind} {i : Int} {A : Option Addr} {tab : List TRow} (hne : A ≠ none) (hT : TabOk P tab) {x y : Operand} (hx : ev l x = some (.pointer (slAt A k0))) (hy : ev l y = some (.int k i))
    (ht : nth tab t = some ⟨.arr len e, s, by_⟩) (hr : nth tab e = some ⟨re, 1, kb⟩) (h0 : 0 ≤ i) (h1 : i < len) (hd : d < n) (kk : Z P ops md n ((d, .pointer (slAt A (k0 + i.toNat))) :: l) B hp rest) :
    Z P ops md n l B hp (⟨some d, .indexAddr t x y, ty, pos, aft, none⟩ :: rest) :=
  z_valp (Mode.fits_of rfl) rfl rfl hd (fun a w hA => by
    cases A with
    | none => exact absurd rfl hne
    | some p =>
      obtain ⟨dd, _, hu, hk, -⟩ := hT t _ ht
      cases dd <;> simp [kindOf] at hk
      obtain ⟨rfl, rfl⟩ := hk
      obtain ⟨_, i', _, _, hi, hs, _⟩ := hT _ _ hr
      have he := hA.eval hx
      simp only [slAt, Option.map_some] at he
      have hs' : i'.size = 1 := hs
      simp [execOp, he, hA.eval hy, Instr.indexAt, asIntOf, run_underlying hu, Instr.sureAddr, h0, h1, sizeOf, typeInfo, hi, hs', add_add, slAt, Sem.run_bind, Sem.run_pure, Result.andThen]) kk
theorem z_mono0www {el : Ord} {R : Act → World → Prop} {c c' c'' : Chunk} (h : S n l B (c :: c' :: c'' :: hp) R) : Z P ops (.mono el [c, c', c''] R []) n l B hp [] := fun a hA => (MEnd.of hA h : MEnd B (c :: c' :: c'' :: hp) R [] a)
theorem z_mono0n {el : Ord} {R : Act → World → Prop} {wr : List Chunk} (h : S n l B (wr ++ hp) R) : Z P ops (.mono el wr R []) n l B hp [] := fun a hA => (MEnd.of hA h : MEnd B (wr ++ hp) R [] a)
end
end Go.Proofs.Ytnckabgaichkkaa.Eng
