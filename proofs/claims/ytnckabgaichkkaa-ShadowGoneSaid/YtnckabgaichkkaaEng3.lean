/-
The engine, third part: what turns the world; regions; the function's beginning and end.
-/
import Derived.Test.YtnckabgaichkkaaEng2
namespace Go.Proofs.Ytnckabgaichkkaa.Eng
set_option linter.unusedVariables false
set_option linter.unusedSimpArgs false
open Go

section
variable {P : Program} {ops : Array Oper} {m : Mode} {n : Nat} {l : Fr} {B : Base} {hp hq : List Chunk} {rest : List Oper} {o : Oper} {Q : Exit → Act → World → Prop} {F : Act → World → Prop}

/-! ### Regions -/
theorem c_region {id : Nat} {os : List Oper} (h : Z P os.toArray (.list Q) n l B hp os) : S n l B hp (Code.wp P (.region id os.toArray false) Q) := fun a w hA hS => wp_region_list (h a w hA hS)
theorem c_quiet {id : Nat} {os : List Oper} (hm : P.follows .mixedOrders = true) (hB : Region.lexB .any os.toArray = true) (h : Z P os.toArray (.quiet (Q .normal)) n l B hp os) :
    S n l B hp (Code.wp P (.region id os.toArray true) Q) := fun a w hA hS =>
  wp_region_quiet (C := fun w => St B w hp) hm hB hS.drew (h a hA)
theorem c_tail {id : Nat} {os : List Oper} (k : Nat) (hm : P.follows .mixedOrders = true) (hB : Region.lexTailB .any os.toArray k = true)
    (h : Z P os.toArray (.still fun a w => wpList P os.toArray Q (os.drop k) a w) n l B hp (os.take k)) : S n l B hp (Code.wp P (.region id os.toArray true) Q) := fun a w hA hS =>
  wp_region_still_tail k hm hB (h a _ hA hS.drew)
theorem c_mixed {id : Nat} {os : List Oper} (hm : P.follows .mixedOrders = true) (hB : mixB os.toArray = true) (h : Z P os.toArray (.mixed (Q .normal)) n l B hp os) :
    S n l B hp (Code.wp P (.region id os.toArray true) Q) := fun a w hA hS =>
  wp_region_mixed (C := fun w => St B w hp) hm hB hS.drew (h a hA)
theorem c_mixedx {id : Nat} {os : List Oper} (hm : P.follows .mixedOrders = true) (hB : mixB os.toArray = true) (h : Z P os.toArray (.mixedx (Q .normal)) n l B hp os) :
    S n l B hp (Code.wp P (.region id os.toArray true) Q) := fun a w hA hS =>
  wp_region_mixed (C := fun w' => w' = { w with drawn := w.drawn + 1 }) hm hB rfl (h a _ hA hS.drew)
theorem c_free {id : Nat} {os : List Oper} {wr : List Chunk} (el : Ord) (π : List Nat) (hm : P.follows .mixedOrders = true) (hB : freeB el os.toArray os.length π = true)
    (h : Z P os.toArray (.mono el wr (Q .normal) []) n l B hp (pickL os π)) : S n l B (wr ++ hp) (Code.wp P (.region id os.toArray true) Q) :=
  c_freeT (wr := wr) os.length π hm hB fun a hA => by
    have e : (fun (a'' : Act) w => if os.length = os.length then Q .normal a'' w else wpList P os.toArray Q (os.drop os.length) a'' w) = Q .normal := by
      funext a w
      rw [if_pos rfl]
    rw [e]
    exact h a hA
theorem c_freet {id : Nat} {os : List Oper} {wr : List Chunk} (el : Ord) (k : Nat) (π : List Nat) (hm : P.follows .mixedOrders = true) (hB : freeB el os.toArray k π = true) (hk : Nat.blt k os.length = true)
    (h : Z P os.toArray (.mono el wr (fun a w => wpList P os.toArray Q (os.drop k) a w) []) n l B hp (pickL os π)) : S n l B (wr ++ hp) (Code.wp P (.region id os.toArray true) Q) :=
  c_freeT (wr := wr) k π hm hB fun a hA => by
    have e : (fun (a'' : Act) w => if k = os.length then Q .normal a'' w else wpList P os.toArray Q (os.drop k) a'' w) = fun a w => wpList P os.toArray Q (os.drop k) a w := by
      funext a w
      rw [if_neg (Nat.ne_of_lt (Nat.le_of_ble_eq_true hk))]
    rw [e]
    exact h a hA
theorem c_free0 {id : Nat} {os : List Oper} (el : Ord) (π : List Nat) (hm : P.follows .mixedOrders = true) (hB : freeB el os.toArray os.length π = true)
    (h : Z P os.toArray (.mono el [] (Q .normal) []) n l B hp (pickL os π)) : S n l B hp (Code.wp P (.region id os.toArray true) Q) := c_free (wr := []) el π hm hB h
theorem c_free1 {id : Nat} {os : List Oper} {c : Chunk} (el : Ord) (π : List Nat) (hm : P.follows .mixedOrders = true) (hB : freeB el os.toArray os.length π = true)
    (h : Z P os.toArray (.mono el [c] (Q .normal) []) n l B hp (pickL os π)) : S n l B (c :: hp) (Code.wp P (.region id os.toArray true) Q) := c_free (wr := [c]) el π hm hB h
theorem c_free2 {id : Nat} {os : List Oper} {c c' : Chunk} (el : Ord) (π : List Nat) (hm : P.follows .mixedOrders = true) (hB : freeB el os.toArray os.length π = true)
    (h : Z P os.toArray (.mono el [c, c'] (Q .normal) []) n l B hp (pickL os π)) : S n l B (c :: c' :: hp) (Code.wp P (.region id os.toArray true) Q) := c_free (wr := [c, c']) el π hm hB h
theorem c_free0t {id : Nat} {os : List Oper} (el : Ord) (k : Nat) (π : List Nat) (hm : P.follows .mixedOrders = true) (hB : freeB el os.toArray k π = true) (hk : Nat.blt k os.length = true)
    (h : Z P os.toArray (.mono el [] (fun a w => wpList P os.toArray Q (os.drop k) a w) []) n l B hp (pickL os π)) : S n l B hp (Code.wp P (.region id os.toArray true) Q) := c_freet (wr := []) el k π hm hB hk h
theorem c_free1t {id : Nat} {os : List Oper} {c : Chunk} (el : Ord) (k : Nat) (π : List Nat) (hm : P.follows .mixedOrders = true) (hB : freeB el os.toArray k π = true) (hk : Nat.blt k os.length = true)
    (h : Z P os.toArray (.mono el [c] (fun a w => wpList P os.toArray Q (os.drop k) a w) []) n l B hp (pickL os π)) : S n l B (c :: hp) (Code.wp P (.region id os.toArray true) Q) := c_freet (wr := [c]) el k π hm hB hk h
theorem c_monot {id : Nat} {os : List Oper} (k : Nat) (hm : P.follows .mixedOrders = true) (hB : freeB ⟨[], []⟩ os.toArray k (List.range k) = true) (hk : Nat.blt k os.length = true)
    (h : Z P os.toArray (.mono ⟨[], []⟩ [] (fun a w => wpList P os.toArray Q (os.drop k) a w) []) n l B hp (pickL os (List.range k))) : S n l B hp (Code.wp P (.region id os.toArray true) Q) := c_free0t ⟨[], []⟩ k (List.range k) hm hB hk h
theorem c_mono {id : Nat} {os : List Oper} (hm : P.follows .mixedOrders = true) (hB : freeB ⟨[], []⟩ os.toArray os.length (List.range os.length) = true)
    (h : Z P os.toArray (.mono ⟨[], []⟩ [] (Q .normal) []) n l B hp (pickL os (List.range os.length))) : S n l B hp (Code.wp P (.region id os.toArray true) Q) := c_free0 ⟨[], []⟩ _ hm hB h
/-- In the order of the text. -/
theorem c_both0 {id : Nat} {os : List Oper} (el : Ord) (hm : P.follows .mixedOrders = true) (hB : freeB el os.toArray os.length (List.range os.length) = true)
    (h : Z P os.toArray (.mono el [] (Q .normal) []) n l B hp (pickL os (List.range os.length))) : S n l B hp (Code.wp P (.region id os.toArray true) Q) := c_free0 el _ hm hB h
theorem c_both1 {id : Nat} {os : List Oper} {c : Chunk} (el : Ord) (hm : P.follows .mixedOrders = true) (hB : freeB el os.toArray os.length (List.range os.length) = true)
    (h : Z P os.toArray (.mono el [c] (Q .normal) []) n l B hp (pickL os (List.range os.length))) : S n l B (c :: hp) (Code.wp P (.region id os.toArray true) Q) := c_free1 el _ hm hB h
theorem c_both2 {id : Nat} {os : List Oper} {c c' : Chunk} (el : Ord) (hm : P.follows .mixedOrders = true) (hB : freeB el os.toArray os.length (List.range os.length) = true)
    (h : Z P os.toArray (.mono el [c, c'] (Q .normal) []) n l B hp (pickL os (List.range os.length))) : S n l B (c :: c' :: hp) (Code.wp P (.region id os.toArray true) Q) := c_free2 el _ hm hB h
theorem z_tailm (h : Z P ops (.list Q) n l B hp rest) : S n l B hp (fun a w => wpList P ops Q rest a w) := h
theorem z_tail (h : Z P ops (.list Q) n l B hp rest) : Z P ops (.still fun a w => wpList P ops Q rest a w) n l B hp [] := h

/-! ### Effects: in order -/
theorem z_eff {md : Mode} (hme : md.canEff = true) {d : Option Tmp} {op : Op} {ty : TypeId} {pos : String} {aft : Array Edge} {v : Value} {n' : Next} (hf : md.fits op .eff) (hn : n' = .value v ∨ (n' = .skip ∧ d = none)) (hlt : ∀ t, d = some t → t < n)
    (hex : ∀ a w, Has a n l → St B w hp → ∃ w', (execOp a.eval ⟨d, op, ty, pos, aft, none⟩).run P w = .ok n' w' ∧ St B w' hq)
    (k : Z P ops md n (match d with | some t => (t, v) :: l | none => l) B hq rest) : Z P ops md n l B hp (⟨d, op, ty, pos, aft, none⟩ :: rest) := by
  cases md with
  | still F => cases hme
  | mono _ _ _ _ => cases hme
  | keep _ _ _ => cases hme
  | quiet F => cases hme
  | list Q =>
    intro a w hA hS
    obtain ⟨w', he, hS'⟩ := hex a w hA hS
    unfold wpList
    rw [if_pos (by simp [Region.wanted])]
    refine .inl ?_
    unfold Oper.wp
    rw [he]
    rcases hn with rfl | ⟨rfl, rfl⟩
    · show wpList P ops Q rest (a.put d v) w'
      cases d with
      | some t => exact k _ w' (hA.put (hlt t rfl) v) hS'
      | none => exact k _ w' hA hS'
    · exact k _ w' hA hS'
  | mixed F =>
    intro a hA
    show MW P ops _ (_ :: rest) _ a
    unfold MW
    rw [if_pos (by simp [Region.wanted])]
    have hc : cls op = .eff := hf
    simp only [hc]
    rcases hn with rfl | ⟨rfl, rfl⟩
    · refine ⟨v, fun w => St B w hq, fun w hS => ?_, ?_⟩
      · obtain ⟨w', he, hS'⟩ := hex a w hA hS
        unfold effAt
        rw [he]
        exact ⟨rfl, hS'⟩
      · cases d with
        | some t => exact k _ (hA.put (hlt t rfl) v)
        | none => exact k _ hA
    · refine ⟨undef, fun w => St B w hq, fun w hS => ?_, k _ hA⟩
      obtain ⟨w', he, hS'⟩ := hex a w hA hS
      unfold effAt
      rw [he]
      exact ⟨rfl, hS'⟩
  | mixedx F =>
    intro a w hA hS
    show MW P ops _ (_ :: rest) _ a
    unfold MW
    rw [if_pos (by simp [Region.wanted])]
    have hc : cls op = .eff := hf
    simp only [hc]
    obtain ⟨w', he, hS'⟩ := hex a w hA hS
    have h1 : ∀ (u : Value), (n' = .value u ∨ (n' = .skip ∧ u = undef)) → ∀ w'' , w'' = w → effAt P ⟨d, op, ty, pos, aft, none⟩ a (fun x => x = w') w'' u := fun u hu w'' hw => by
      subst hw
      unfold effAt
      rw [he]
      rcases hu with rfl | ⟨rfl, rfl⟩ <;> exact ⟨rfl, rfl⟩
    rcases hn with rfl | ⟨rfl, rfl⟩
    · refine ⟨v, fun x => x = w', h1 v (.inl rfl), ?_⟩
      cases d with
      | some t => exact k _ w' (hA.put (hlt t rfl) v) hS'
      | none => exact k _ w' hA hS'
    · exact ⟨undef, fun x => x = w', h1 undef (.inr ⟨rfl, rfl⟩), k _ w' hA hS'⟩

section
variable {d : Nat} {ty : TypeId} {pos : String} {aft : Array Edge}
def oneB : Value → Bool
  | .agg _ => false
  | .tuple _ => false
  | _ => true
theorem cells_of_one {v : Value} (h : oneB v = true) : v.cells = #[v] := by cases v <;> simp_all [oneB, Value.cells]
theorem x_store1 {w : World} {p : Addr} {v u : Value} (hv : oneB v = true) (hc : w.cell? p = some u) (hf : w.frozen? p = false) : (store p v).run P w = .ok () (w.setCell p v) := by
  cases v <;> simp [oneB] at hv <;> simp [store, Sem.run, hc, hf]
/-- One cell of the chunk in front. -/
theorem o_store {md : Mode} (hme : md.canEff = true) {t b o T : Nat} {cs cs' : List Value} {u v : Value} {r : TRow} {tab : List TRow} (hT : TabOk P tab) {x y : Operand} (hx : ev l x = some (.pointer (some ⟨b, o, none⟩))) (hy : ev l y = some v) (ht : nth tab t = some r)
    (hs : Nat.beq r.size 1 = true) (hv : oneB v = true) (hc : cs[o]? = some u) (hset : cs.set o v = cs') (k : Z P ops md n l B (cells b T cs' :: hp) rest) :
    Z P ops md n l B (cells b T cs :: hp) (⟨none, .store t x y, ty, pos, aft, none⟩ :: rest) :=
  z_eff hme (v := undef) (n' := .skip) (Mode.fits_of rfl) (.inr ⟨rfl, rfl⟩) (fun _ h => by cases h) (fun a w hA hS => by
    have hs' : r.size = 1 := Nat.eq_of_beq_eq_true hs
    refine ⟨_, ?_, hset ▸ hS.store (o := o) v⟩
    simp only [execOp, hA.eval hx, hA.eval hy, Instr.storeAt, Instr.sureAddr, storeVar, cells_of_one hv, x_sizeOf hT ht, hs', Sem.run_bind, Result.andThen, Sem.run_pure]
    simp [storeCells, add_mk, x_store1 hv (hS.cell 0 rfl hc) (hS.frozen 0 rfl), Sem.run_bind, Sem.run_pure, Result.andThen]) k

/-- What yields a value and turns the world, somehow. -/
theorem z_effx {md : Mode} (hme : md.canX = true) {X : Type} {op : Op} {v : X → Value} {hq : X → List Chunk} (hf : md.fits op .eff) (ok : X → Prop) (hlt : d < n)
    (hex : ∀ a w, Has a n l → St B w hp → ∃ x w', ok x ∧ (execOp a.eval ⟨some d, op, ty, pos, aft, none⟩).run P w = .ok (.value (v x)) w' ∧ St B w' (hq x))
    (k : ∀ x, ok x → Z P ops md n ((d, v x) :: l) B (hq x) rest) : Z P ops md n l B hp (⟨some d, op, ty, pos, aft, none⟩ :: rest) := by
  cases md with
  | still F => cases hme
  | mono _ _ _ _ => cases hme
  | keep _ _ _ => cases hme
  | quiet F => cases hme
  | mixed F => cases hme
  | list Q =>
    intro a w hA hS
    obtain ⟨x, w', hok, he, hS'⟩ := hex a w hA hS
    unfold wpList
    rw [if_pos (by simp [Region.wanted])]
    refine .inl ?_
    unfold Oper.wp
    rw [he]
    exact k x hok _ w' (hA.put hlt (v x)) hS'
  | mixedx F =>
    intro a w hA hS
    obtain ⟨x, w', hok, he, hS'⟩ := hex a w hA hS
    show MW P ops _ (_ :: rest) _ a
    unfold MW
    rw [if_pos (by simp [Region.wanted])]
    have hc : cls op = .eff := hf
    simp only [hc]
    refine ⟨v x, fun y => y = w', fun w'' hw => ?_, k x hok _ w' (hA.put hlt (v x)) hS'⟩
    subst hw
    unfold effAt
    rw [he]
    exact ⟨rfl, rfl⟩
/-- What yields a value and adds new blocks. -/
theorem z_new {md : Mode} (hme : md.canX = true) {X : Type} {op : Op} {v : X → Value} {hq : X → List Chunk} (hf : md.fits op .new) (ok : X → Prop) (hlt : d < n)
    (hex : ∀ a w, Has a n l → St B w hp → ∃ x w', ok x ∧ (execOp a.eval ⟨some d, op, ty, pos, aft, none⟩).run P w = .ok (.value (v x)) w' ∧ St B w' (hq x) ∧ Ext w w')
    (k : ∀ x, ok x → Z P ops md n ((d, v x) :: l) B (hq x) rest) : Z P ops md n l B hp (⟨some d, op, ty, pos, aft, none⟩ :: rest) := by
  cases md with
  | still F => cases hme
  | mono _ _ _ _ => cases hme
  | keep _ _ _ => cases hme
  | quiet F => cases hme
  | mixed F => cases hme
  | list Q => exact z_effx (md := .list Q) rfl trivial ok hlt (fun a w hA hS => by obtain ⟨x, w', h1, h2, h3, _⟩ := hex a w hA hS; exact ⟨x, w', h1, h2, h3⟩) k
  | mixedx F =>
    intro a w hA hS
    obtain ⟨x, w', hok, he, hS', hE⟩ := hex a w hA hS
    show MW P ops _ (_ :: rest) _ a
    unfold MW
    rw [if_pos (by simp [Region.wanted])]
    have hc : cls op = .new := hf
    simp only [hc]
    refine ⟨v x, fun y => y = w', ⟨fun w'' hw => ?_, fun w'' hw => ⟨w, rfl, by subst hw; exact hE⟩⟩, k x hok _ w' (hA.put hlt (v x)) hS'⟩
    subst hw
    unfold effAt
    rw [he]
    exact ⟨rfl, rfl⟩
theorem Ext.alloc (w : World) (o : Obj) : Ext w (w.alloc o) := ⟨rfl, rfl, rfl, by show _ ≤ (w.heap.push _).size; simp, fun k hk => RowKit.Below.heap_alloc _ _ _ hk, Nat.le_refl _⟩
/-- A new block for a value. -/
theorem o_box {md : Mode} (hme : md.canX = true) {e : Nat} {x : Operand} {v : Value} (hx : ev l x = some v) (hd : d < n) (k : ∀ g, Z P ops md n ((d, .pointer (some ⟨g, 0, none⟩)) :: l) B (cells g e v.cells.toList :: hp) rest) :
    Z P ops md n l B hp (⟨some d, .box e x, ty, pos, aft, none⟩ :: rest) :=
  z_new hme (X := Nat) (v := fun g => .pointer (some ⟨g, 0, none⟩)) (hq := fun g => cells g e v.cells.toList :: hp) (Mode.fits_of rfl) (fun _ => True) hd (fun a w hA hS => by
    refine ⟨w.heap.size, w.alloc (.cells v.cells.toList.toArray e), trivial, ?_, hS.alloc e _, Ext.alloc _ _⟩
    simp only [execOp, hA.eval hx, Instr.box, newVar, newRow, newObj, Sem.run_bind, Sem.run, Sem.run_pure, Result.andThen, Array.toArray_toList]
    rfl) fun g _ => k g
/-- A new block of noughts. -/
theorem o_alloc {md : Mode} (hme : md.canX = true) {e : Nat} {z : Value} (hz : (P.info? e).map (·.zero) = some (some z)) (hd : d < n) (k : ∀ g, Z P ops md n ((d, .pointer (some ⟨g, 0, none⟩)) :: l) B (cells g e z.cells.toList :: hp) rest) :
    Z P ops md n l B hp (⟨some d, .alloc e, ty, pos, aft, none⟩ :: rest) :=
  z_new hme (X := Nat) (v := fun g => .pointer (some ⟨g, 0, none⟩)) (hq := fun g => cells g e z.cells.toList :: hp) (Mode.fits_of rfl) (fun _ => True) hd (fun a w hA hS => by
    refine ⟨w.heap.size, w.alloc (.cells z.cells.toList.toArray e), trivial, ?_, hS.alloc e _, Ext.alloc _ _⟩
    cases hi : P.info? e with
    | none => simp [hi] at hz
    | some i =>
      simp [hi] at hz
      simp only [execOp, Instr.alloc, zeroValue, typeInfo, program, hi, hz, newVar, newRow, newObj, Sem.run_bind, Sem.run, Sem.run_pure, Result.andThen, Array.toArray_toList]
      rfl) fun g _ => k g

/-! ### Calls -/
def Does (P : Program) (f : FuncId) (vs : List Value) (pr : List Chunk) {X : Type} (ok : X → Prop) (v : X → Value) (po : X → List Chunk) : Prop :=
  ∀ w, Pre w pr → Calls P f vs.toArray w fun e w' => ∃ x, ok x ∧ e = .returned (v x) ∧ St ⟨w, pr⟩ w' (po x)
theorem x_call {f : FuncId} {fn : Func} (hf : P.funcs[f]? = some fn) (hb : fn.body.isNone = false) (hname : (fn.name == "runtime.NumGoroutine") = false) {args : List Operand} {ats : Array TypeId} {vs : List Value} {a : Act} (hA : Has a n l)
    (hargs : evs l args = some vs) (dst : Option Tmp) (w : World) :
    (execOp a.eval ⟨dst, .call ⟨.value (.func f), args.toArray, ats⟩, ty, pos, aft, none⟩).run P w = .ok (.enter f vs.toArray) w := by
  have h1 : args.toArray.map a.eval = vs.toArray := by rw [List.map_toArray, hA.evals hargs]
  have h2 : a.eval (.func f) = .func (.func f) #[] #[] := rfl
  have h3 : ¬ fn.name = "runtime.NumGoroutine" := by simpa using hname
  have h4 : ¬ fn.body = none := by cases h : fn.body <;> simp_all
  simp [execOp, resolve, h1, h2, Deferred.ofValue, invoke, callFunc, program, hf, h3, h4, Sem.run_bind, Sem.run, Sem.run_pure, Result.andThen]
theorem o_call {f : FuncId} {fn : Func} (hf : P.funcs[f]? = some fn) (hb : fn.body.isNone = false) (hname : (fn.name == "runtime.NumGoroutine") = false) {args : List Operand} {ats : Array TypeId} {vs : List Value} (hargs : evs l args = some vs)
    {pr fr : List Chunk} {X : Type} {ok : X → Prop} {v : X → Value} {po : X → List Chunk} (spec : Does P f vs pr ok v po) (hperm : hp.Perm (pr ++ fr)) (hd : d < n)
    (k : ∀ x, ok x → Z P ops (.list Q) n ((d, v x) :: l) B (po x ++ fr) rest) : Z P ops (.list Q) n l B hp (⟨some d, .call ⟨.value (.func f), args.toArray, ats⟩, ty, pos, aft, none⟩ :: rest) := by
  intro a w hA hS
  have hS' := hS.perm hperm
  unfold wpList
  rw [if_pos (by simp [Region.wanted])]
  refine .inl ?_
  unfold Oper.wp
  rw [x_call hf hb hname hA hargs]
  refine (spec w (hS'.toPre.sub (List.sublist_append_left _ _))).mono fun e w' ⟨x, hok, he, hx⟩ => ?_
  subst he
  exact k x hok _ w' (hA.put hd (v x)) (hS'.call hx)
/-- A call in a region that draws its order: one value, and all that is told stays. -/
theorem o_callq {md : Mode} (hmd : (∃ F, md = .quiet F ∨ md = .mixed F) ∨ ∃ el wr R news, md = .mono el wr R news) {f : FuncId} {fn : Func} (hf : P.funcs[f]? = some fn) (hb : fn.body.isNone = false) (hname : (fn.name == "runtime.NumGoroutine") = false) {args : List Operand} {ats : Array TypeId} {vs : List Value} (hargs : evs l args = some vs)
    {pr fr : List Chunk} {X : Type} {ok : X → Prop} {v : X → Value} {po : X → List Chunk} (spec : Does P f vs pr ok v po) (hperm : hp.Perm (pr ++ fr)) (hd : d < n) {u : Value} (hv : ∀ x, ok x → v x = u) (hpo : ∀ x, ok x → pr.Sublist (po x))
    (k : Z P ops md n ((d, u) :: l) B hp rest) : Z P ops md n l B hp (⟨some d, .call ⟨.value (.func f), args.toArray, ats⟩, ty, pos, aft, none⟩ :: rest) := by
  have key : ∀ a, Has a n l → ∀ w, St B w hp → Oper.quietAt P ⟨some d, .call ⟨.value (.func f), args.toArray, ats⟩, ty, pos, aft, none⟩ a (fun w => St B w hp) w u := fun a hA w hS => by
    have hS' := hS.perm hperm
    unfold Oper.quietAt
    rw [x_call hf hb hname hA hargs]
    refine ⟨rfl, (spec w (hS'.toPre.sub (List.sublist_append_left _ _))).mono fun e w' ⟨x, hok, he, hx⟩ => ?_⟩
    subst he
    rw [hv x hok]
    exact ⟨rfl, ((hS'.call hx).sub ((hpo x hok).append (List.Sublist.refl _))).perm hperm.symm⟩
  obtain ⟨F, rfl | rfl⟩ | ⟨el, wr, R, news, rfl⟩ := hmd
  · intro a hA
    show wpQuiet P ops _ _ (_ :: rest) a
    unfold wpQuiet
    rw [if_pos (by simp [Region.wanted])]
    exact ⟨u, key a hA, k _ (hA.put hd u)⟩
  · intro a hA
    show MW P ops _ (_ :: rest) _ a
    unfold MW
    rw [if_pos (by simp [Region.wanted])]
    exact ⟨u, key a hA, k _ (hA.put hd u)⟩
  · intro a hA
    show MP P ops el B hp _ (_ :: rest) news wr a
    unfold MP
    rw [if_pos (by simp [Region.wanted]), if_neg (by simp [cls])]
    have pm : ∀ X : List Chunk, (X ++ hp).Perm (pr ++ (X ++ fr)) := fun X => (List.Perm.append_left X hperm).trans (by rw [← List.append_assoc, ← List.append_assoc]; exact List.Perm.append_right fr List.perm_append_comm)
    have keym : ∀ (X : List Chunk) (w : World), St B w (X ++ hp) → Calls P f vs.toArray w fun e w' => e = .returned u ∧ St B w' (X ++ hp) := fun X w hS => by
      have hS' : St B w (pr ++ (X ++ fr)) := hS.perm (pm X)
      refine (spec w (hS'.toPre.sub (List.sublist_append_left _ _))).mono fun e w' ⟨x, hok, he, hx⟩ => ?_
      subst he
      rw [hv x hok]
      exact ⟨rfl, ((hS'.call hx).sub ((hpo x hok).append (List.Sublist.refl _))).perm (pm X).symm⟩
    simp only [iniOf]
    by_cases he : isEl el ⟨some d, .call ⟨.value (.func f), args.toArray, ats⟩, ty, pos, aft, none⟩ = true
    · rw [if_pos he]
      refine ⟨Unit, fun _ => True, fun _ => u, fun _ => wr, fun X w hS => ?_, fun _ _ => k _ (hA.put hd u)⟩
      unfold effOne
      rw [x_call hf hb hname hA hargs]
      rw [← List.append_assoc] at hS
      refine (keym _ w hS).mono fun e w' h => ?_
      rw [List.append_assoc] at h
      exact ⟨u, h.1, (), trivial, rfl, h.2⟩
    · rw [if_neg he]
      refine ⟨u, fun X w hS => ?_, k _ (hA.put hd u)⟩
      unfold Oper.quietAt
      rw [x_call hf hb hname hA hargs]
      exact ⟨rfl, keym X w hS⟩
/- new blocks whose places nothing else in the region looks at -/
theorem m_box {el : Ord} {wr : List Chunk} {R : Act → World → Prop} {news : News} {e : Nat} {x : Operand} {v : Value} (hx : ev l x = some v) (k : Z P ops (.mono el wr R (news ++ [(d, fun g => cells g e v.cells.toList)])) n l B hp rest) :
    Z P ops (.mono el wr R news) n l B hp (⟨some d, .box e x, ty, pos, aft, none⟩ :: rest) := by
  intro a hA
  show MP P ops el B hp _ (_ :: rest) news wr a
  unfold MP
  rw [if_pos (by simp [Region.wanted]), if_pos (by simp [cls])]
  refine ⟨d, _, rfl, fun X w hS => ⟨w.alloc (.cells v.cells.toList.toArray e), ?_, hS.alloc e _⟩, k a hA⟩
  simp only [execOp, hA.eval hx, Instr.box, newVar, newRow, newObj, Sem.run_bind, Sem.run, Sem.run_pure, Result.andThen, Array.toArray_toList]
  rfl
theorem m_boxa {el : Ord} {wr : List Chunk} {R : Act → World → Prop} {news : News} {e : Nat} {x : Operand} {vs : List Value} (hx : ev l x = some (.agg vs.toArray)) (k : Z P ops (.mono el wr R (news ++ [(d, fun g => cells g e vs)])) n l B hp rest) :
    Z P ops (.mono el wr R news) n l B hp (⟨some d, .box e x, ty, pos, aft, none⟩ :: rest) := m_box hx k
theorem m_alloc {el : Ord} {wr : List Chunk} {R : Act → World → Prop} {news : News} {e : Nat} {z : Value} (hz : (P.info? e).map (·.zero) = some (some z)) (k : Z P ops (.mono el wr R (news ++ [(d, fun g => cells g e z.cells.toList)])) n l B hp rest) :
    Z P ops (.mono el wr R news) n l B hp (⟨some d, .alloc e, ty, pos, aft, none⟩ :: rest) := by
  intro a hA
  show MP P ops el B hp _ (_ :: rest) news wr a
  unfold MP
  rw [if_pos (by simp [Region.wanted]), if_pos (by simp [cls])]
  refine ⟨d, _, rfl, fun X w hS => ⟨w.alloc (.cells z.cells.toList.toArray e), ?_, hS.alloc e _⟩, k a hA⟩
  cases hi : P.info? e with
  | none => simp [hi] at hz
  | some i =>
    simp [hi] at hz
    simp only [execOp, Instr.alloc, zeroValue, typeInfo, program, hi, hz, newVar, newRow, newObj, Sem.run_bind, Sem.run, Sem.run_pure, Result.andThen, Array.toArray_toList]
    rfl
theorem m_alloca {el : Ord} {wr : List Chunk} {R : Act → World → Prop} {news : News} {e : Nat} {vs : List Value} (hz : (P.info? e).map (·.zero) = some (some (.agg vs.toArray))) (k : Z P ops (.mono el wr R (news ++ [(d, fun g => cells g e vs)])) n l B hp rest) :
    Z P ops (.mono el wr R news) n l B hp (⟨some d, .alloc e, ty, pos, aft, none⟩ :: rest) := m_alloc hz k
/- a new block is filled by a store -/
theorem m_inib {el : Ord} {wr : List Chunk} {R : Act → World → Prop} {news : News} {t T : Nat} {y : Operand} {cs vs : List Value} {r : TRow} {tab : List TRow} (hT : TabOk P tab) (hel : el.il.contains d = true) (hn : getN news d = some fun g => cells g T cs) (hd : d < n) (hy : ∀ u, ev ((d, u) :: l) y = some (.agg vs.toArray)) (ht : nth tab t = some r)
    (hs : vs.length = r.size) (hone : vs.all (·.oneCell') = true) (hfit : cs.length = vs.length) (k : Z P ops (.mono el wr R (setN news d fun g => cells g T vs)) n l B hp rest) :
    Z P ops (.mono el wr R news) n l B hp (⟨none, .store t (.tmp d) y, ty, pos, aft, none⟩ :: rest) := by
  intro a hA
  show MP P ops el B hp _ (_ :: rest) news wr a
  unfold MP
  rw [if_pos (by simp [Region.wanted]), if_neg (by simp [cls])]
  simp only [iniOf, hel, if_true]
  refine ⟨_, _, hn, ⟨by rw [hA.size]; exact hd, fun g X w hS => ?_⟩, k a hA⟩
  have hA' := hA.put hd (newPtr g)
  have hc : w.heap[g]? = some (.cells cs.toArray T (0, 0)) := hS.at_ 0 rfl
  have hst := run_storeCells_at P g 0 T vs 0 cs.toArray w hc (by simp [hfit]) (by simpa using hone)
  have e0 : cs.take 0 ++ vs ++ cs.drop (0 + vs.length) = vs := by simp [← hfit]
  simp only [Nat.add_zero, e0] at hst
  refine ⟨w.setRow g vs.toArray, ?_, hS.write (w' := w.setRow g vs.toArray) (d := cells g T vs) rfl rfl rfl (setRow_size _ _ _) (fun k hk => setRow_other w g k _ hk) (setRow_heap w g cs.toArray vs.toArray T (0, 0) hc) (fun k hk => hk)⟩
  have hp1 : (a.put (some d) (newPtr g)).eval (.tmp d) = .pointer (some ⟨g, 0, none⟩) := hA'.eval (by simp [ev, look, newPtr])
  simp only [execOp, hp1, hA'.eval (hy (newPtr g)), Instr.storeAt, Instr.sureAddr, storeVar, Value.cells, x_sizeOf hT ht, ← hs, Sem.run_bind, Result.andThen, Sem.run_pure, List.size_toArray, ne_eq, not_true_eq_false, if_false, hst]
end

/-! ### The beginning and the end -/
def number : Nat → List Value → Fr
  | _, [] => []
  | i, v :: r => (i, v) :: number (i + 1) r
theorem number_look (vs : List Value) (k t : Nat) (v : Value) (h : look (number k vs) t = some v) : k ≤ t ∧ vs[t - k]? = some v := by
  induction vs generalizing k with
  | nil => simp [number, look] at h
  | cons u r ih =>
    simp only [number, look] at h
    cases hb : Nat.beq k t with
    | true =>
      have := Nat.eq_of_beq_eq_true hb
      subst this
      simp at h
      subst h
      simp
    | false =>
      simp [hb] at h
      obtain ⟨h1, h2⟩ := ih (k + 1) h
      refine ⟨by omega, ?_⟩
      rw [show t - k = (t - (k + 1)) + 1 by omega]
      simpa using h2
theorem f_enter {f : FuncId} {fn : Func} {c : Code} {vs : List Value} {pr : List Chunk} {w : World} {R : Ending → World → Prop} (hf : P.funcs[f]? = some fn) (hb : fn.body = some c) (hn : fn.ntmps = n) (hlen : Nat.ble vs.length n = true) (hw : Pre w pr)
    (h : S n (number 0 vs) ⟨w, pr⟩ pr (Code.wp P c (bodyPost P fn R))) : Calls P f vs.toArray w R := by
  have hlen' := Nat.le_of_ble_eq_true hlen
  refine calls_of_wp hf hb (h _ w ⟨?_, rfl, fun t v e => ?_⟩ hw.st)
  · simp [hn]; omega
  · obtain ⟨_, h2⟩ := number_look vs 0 t v e
    rw [Nat.sub_zero] at h2
    have ht : t < vs.length := (List.getElem?_eq_some_iff.1 h2).1
    show (vs.toArray ++ Array.replicate (fn.ntmps - vs.toArray.size) undef)[t]? = some v
    rw [Array.getElem?_append_left (by simpa using ht)]
    simpa using h2
theorem look_getD {a : Act} (hA : Has a n l) {t : Nat} {v : Value} (h : look l t = some v) : a.tmps.getD t undef = v := by simp [hA.slot t v h]
section
variable {fn : Func} {X : Type} {ok : X → Prop} {v : X → Value} {po : X → List Chunk}
theorem f_ret0 (hr : fn.results = #[]) (x : X) (hok : ok x) (hv : v x = .tuple #[]) (hS' : ∀ w, St B w hp → St B w (po x)) :
    S n l B hp (bodyPost P fn (fun e w' => ∃ x, ok x ∧ e = .returned (v x) ∧ St B w' (po x)) .ret) := fun a w hA hS =>
  ⟨hA.defers, _, results_none hr a.tmps P w, x, hok, by rw [hv], hS' w hS⟩
theorem f_end0 (hr : fn.results = #[]) (x : X) (hok : ok x) (hv : v x = .tuple #[]) (hS' : ∀ w, St B w hp → St B w (po x)) :
    S n l B hp (bodyPost P fn (fun e w' => ∃ x, ok x ∧ e = .returned (v x) ∧ St B w' (po x)) .normal) := fun a w hA hS =>
  ⟨hA.defers, _, results_none hr a.tmps P w, x, hok, by rw [hv], hS' w hS⟩
theorem f_ret1 {t : Nat} {u : Value} (hr : fn.results = #[.tmp t]) (hu : look l t = some u) (x : X) (hok : ok x) (hv : v x = u) (hS' : ∀ w, St B w hp → St B w (po x)) :
    S n l B hp (bodyPost P fn (fun e w' => ∃ x, ok x ∧ e = .returned (v x) ∧ St B w' (po x)) .ret) := fun a w hA hS =>
  ⟨hA.defers, _, results_tmp hr a.tmps P w, x, hok, by rw [hv, look_getD hA hu], hS' w hS⟩
theorem f_ret2 {t t' : Nat} {u u' : Value} (hr : fn.results = #[.tmp t, .tmp t']) (hu : look l t = some u) (hu' : look l t' = some u') (x : X) (hok : ok x) (hv : v x = .tuple #[u, u']) (hS' : ∀ w, St B w hp → St B w (po x)) :
    S n l B hp (bodyPost P fn (fun e w' => ∃ x, ok x ∧ e = .returned (v x) ∧ St B w' (po x)) .ret) := fun a w hA hS =>
  ⟨hA.defers, _, results_tmp2 hr a.tmps P w, x, hok, by rw [hv, look_getD hA hu, look_getD hA hu'], hS' w hS⟩
end
end
end Go.Proofs.Ytnckabgaichkkaa.Eng
