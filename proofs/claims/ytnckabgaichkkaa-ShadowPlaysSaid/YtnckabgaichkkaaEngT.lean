/-
The engine, another part: a table of the program; a number's opposite; shifts whose value is said anew.
-/
import Derived.Test.YtnckabgaichkkaaEng9
import Derived.Laws.CopyRow
namespace Go.Proofs.Ytnckabgaichkkaa.Eng
set_option linter.unusedVariables false
set_option linter.unusedSimpArgs false
open Go
section
variable {P : Program} {ops : Array Oper} {ol : List Nat} {md : Mode} {n : Nat} {l : Fr} {B : Base} {hp : List Chunk} {rest : List Oper} {d : Nat} {ty : TypeId} {pos : String} {aft : Array Edge}
theorem o_neg {t : Nat} {x : Operand} {k : IntKind} {i : Int} (hx : ev l x = some (.int k i)) (hd : d < n) (kk : Z P ops md n ((d, .int k (k.wrap (0 - i))) :: l) B hp rest) :
    Z P ops md n l B hp (⟨some d, .unOp .neg t x, ty, pos, aft, none⟩ :: rest) :=
  z_valp (Mode.fits_of rfl) rfl rfl hd (fun a w hA => by simp [execOp, hA.eval hx, Op.unary, Op.intArith, Sem.run_bind, Sem.run_pure, Result.andThen]) kk
theorem o_shre {t t' : Nat} {x y : Operand} {k k' : IntKind} {i j v : Int} (he : shrv k i j = v) (hx : ev l x = some (.int k i)) (hy : ev l y = some (.int k' j)) (h0 : 0 ≤ j) (hd : d < n) (kk : Z P ops md n ((d, .int k v) :: l) B hp rest) :
    Z P ops md n l B hp (⟨some d, .binOp .shr t x y t', ty, pos, aft, none⟩ :: rest) := o_shr hx hy h0 hd (he ▸ kk)
/-- One cell of a table of the program. -/
theorem o_loadr {t : Nat} {r : TRow} {tab : List TRow} (hT : TabOk P tab) {x : Operand} {b k : Nat} {cs : List Value} {v : Value} (hrd : Rds hp (some ⟨b, 0, none⟩) cs) (hx : ev l x = some (.pointer (some ⟨b, k, none⟩))) (ht : nth tab t = some r) (ha : r.kind.agg = false)
    (hc : cs[k]? = some v) (hd : d < n) (kk : Z P ops md n ((d, v) :: l) B hp rest) : Z P ops md n l B hp (⟨some d, .load t x, ty, pos, aft, none⟩ :: rest) :=
  o_loads hT (A := some ⟨b, 0, none⟩) (k := k) hrd (by rw [hx]; simp [slAt, add_mk]) ht ha hc hd kk
/-- A guard: only the operation that yields this slot. -/
theorem z_isdst (d : Nat) {op : Op} (h : Z P ops md n l B hp (⟨some d, op, ty, pos, aft, none⟩ :: rest)) : Z P ops md n l B hp (⟨some d, op, ty, pos, aft, none⟩ :: rest) := h
/-! ### A region in which loads stand unordered with writes -/
theorem s_sel {G : Act → World → Prop} (k : Nat) (is : List Nat) (hc : permB is k = true) (h : S n l B (selF k is hp) G) : S n l B hp G := h.heap fun w hS => hS.sel k is hc
theorem c_keep {id : Nat} {os : List Oper} {Q : Exit → Act → World → Prop} {wr : List Chunk} (hm : P.follows .mixedOrders = true) (hB : keepB ol os.toArray = true) (h : Z P os.toArray (.keep ol wr (Q .normal)) n l B hp os) :
    S n l B (wr ++ hp) (Code.wp P (.region id os.toArray true) Q) := fun a w hA hS =>
  wp_region_keep (C := fun w => St B w (wr ++ hp)) hm hB hS.drew (fun w h => ⟨wr, h⟩) (h a hA)
theorem c_keep1 {id : Nat} {os : List Oper} {Q : Exit → Act → World → Prop} {c : Chunk} (hm : P.follows .mixedOrders = true) (hB : keepB [] os.toArray = true) (h : Z P os.toArray (.keep [] [c] (Q .normal)) n l B hp os) :
    S n l B (c :: hp) (Code.wp P (.region id os.toArray true) Q) := c_keep (wr := [c]) hm hB h
theorem c_keep2 {id : Nat} {os : List Oper} {Q : Exit → Act → World → Prop} {c c' : Chunk} (hm : P.follows .mixedOrders = true) (hB : keepB [] os.toArray = true) (h : Z P os.toArray (.keep [] [c, c'] (Q .normal)) n l B hp os) :
    S n l B (c :: c' :: hp) (Code.wp P (.region id os.toArray true) Q) := c_keep (wr := [c, c']) hm hB h
theorem c_keep2o (ol : List Nat) {id : Nat} {os : List Oper} {Q : Exit → Act → World → Prop} {c c' : Chunk} (hm : P.follows .mixedOrders = true) (hB : keepB ol os.toArray = true) (h : Z P os.toArray (.keep ol [c, c'] (Q .normal)) n l B hp os) :
    S n l B (c :: c' :: hp) (Code.wp P (.region id os.toArray true) Q) := c_keep (wr := [c, c']) hm hB h
theorem z_keep1 {F : Act → World → Prop} {c : Chunk} (h : S n l B (c :: hp) F) : Z P ops (.keep ol [c] F) n l B hp [] := fun a hA w hS => h a w hA hS
theorem z_keep2 {F : Act → World → Prop} {c c' : Chunk} (h : S n l B (c :: c' :: hp) F) : Z P ops (.keep ol [c, c'] F) n l B hp [] := fun a hA w hS => h a w hA hS
theorem z_effk {F : Act → World → Prop} {wr wr' : List Chunk} {op : Op} (hc : cls op = .eff)
    (hex : ∀ a w, Has a n l → St B w (wr ++ hp) → ∃ w', (execOp a.eval ⟨none, op, ty, pos, aft, none⟩).run P w = .ok .skip w' ∧ St B w' (wr' ++ hp))
    (k : Z P ops (.keep ol wr' F) n l B hp rest) : Z P ops (.keep ol wr F) n l B hp (⟨none, op, ty, pos, aft, none⟩ :: rest) := by
  intro a hA
  show KW P ops _ _ _ (_ :: rest) _ a
  unfold KW
  rw [if_pos (by simp [Region.wanted]), if_pos (by simp [clsEo, clsE, hc])]
  refine ⟨undef, fun w => St B w (wr' ++ hp), fun w hS => ?_, fun w h => ⟨wr', h⟩, k a hA⟩
  obtain ⟨w', he, hS'⟩ := hex a w hA hS
  unfold effAt
  rw [he]
  exact ⟨rfl, hS'⟩
theorem set_app {α : Type} (l m : List α) (i : Nat) (x : α) (h : i < l.length) : (l ++ m).set i x = l.set i x ++ m := List.set_append_left _ _ h
theorem o_storek {F : Act → World → Prop} {wr : List Chunk} (i : Nat) {t b o T : Nat} {cs cs' : List Value} {u v : Value} {r : TRow} {tab : List TRow} (hT : TabOk P tab) {x y : Operand} (hx : ev l x = some (.pointer (some ⟨b, o, none⟩))) (hy : ev l y = some v) (hi : nth wr i = some (cells b T cs)) (ht : nth tab t = some r)
    (hs : Nat.beq r.size 1 = true) (hv : oneB v = true) (hc : cs[o]? = some u) (hset : cs.set o v = cs') (k : Z P ops (.keep ol (wr.set i (cells b T cs')) F) n l B hp rest) :
    Z P ops (.keep ol wr F) n l B hp (⟨none, .store t x y, ty, pos, aft, none⟩ :: rest) := by
  rw [nth_eq] at hi
  have hlt : i < wr.length := (List.getElem?_eq_some_iff.1 hi).1
  refine z_effk rfl (fun a w hA hS0 => ?_) k
  have hS := hS0.front i (by rw [List.getElem?_append_left hlt]; exact hi)
  have hs' : r.size = 1 := Nat.eq_of_beq_eq_true hs
  refine ⟨_, ?_, ((hset ▸ hS.store (o := o) v : St B _ (cells b T cs' :: (wr ++ hp).eraseIdx i))).perm ((set_perm (wr ++ hp) i (cells b T cs') (by simp; omega)).symm.trans (List.Perm.of_eq (set_app _ _ _ _ hlt)))⟩
  simp only [execOp, hA.eval hx, hA.eval hy, Instr.storeAt, Instr.sureAddr, storeVar, cells_of_one hv, x_sizeOf hT ht, hs', Sem.run_bind, Result.andThen, Sem.run_pure]
  simp [storeCells, add_mk, x_store1 hv (hS.cell 0 rfl hc) (hS.frozen 0 rfl), Sem.run_bind, Sem.run_pure, Result.andThen]
theorem o_storewk {F : Act → World → Prop} {wr : List Chunk} (i : Nat) {t b o T : Nat} {cs cs' vs : List Value} {r : TRow} {tab : List TRow} (hT : TabOk P tab) {x y : Operand} (hx : ev l x = some (.pointer (some ⟨b, o, none⟩))) (hy : ev l y = some (.agg vs.toArray)) (hi : nth wr i = some (cells b T cs)) (ht : nth tab t = some r)
    (hs : vs.length = r.size) (hone : vs.all (·.oneCell') = true) (hfit : o + vs.length ≤ cs.length) (hset : cs.take o ++ vs ++ cs.drop (o + vs.length) = cs') (k : Z P ops (.keep ol (wr.set i (cells b T cs')) F) n l B hp rest) :
    Z P ops (.keep ol wr F) n l B hp (⟨none, .store t x y, ty, pos, aft, none⟩ :: rest) := by
  rw [nth_eq] at hi
  have hlt : i < wr.length := (List.getElem?_eq_some_iff.1 hi).1
  refine z_effk rfl (fun a w hA hS0 => ?_) k
  have hS := hS0.front i (by rw [List.getElem?_append_left hlt]; exact hi)
  have hc : w.heap[b]? = some (.cells cs.toArray T (0, 0)) := hS.at_ 0 rfl
  have hst := run_storeCells_at P b o T vs 0 cs.toArray w hc (by simpa using hfit) (by simpa using hone)
  simp only [Nat.add_zero, hset] at hst
  refine ⟨w.setRow b cs'.toArray, ?_, (hS.write (w' := w.setRow b cs'.toArray) (d := cells b T cs') rfl rfl rfl (setRow_size _ _ _) (fun k hk => setRow_other w b k _ hk) (setRow_heap w b cs.toArray cs'.toArray T (0, 0) hc) (fun k hk => hk)).perm ((set_perm (wr ++ hp) i (cells b T cs') (by simp; omega)).symm.trans (List.Perm.of_eq (set_app _ _ _ _ hlt)))⟩
  simp only [execOp, hA.eval hx, hA.eval hy, Instr.storeAt, Instr.sureAddr, storeVar, Value.cells, x_sizeOf hT ht, ← hs, Sem.run_bind, Result.andThen, Sem.run_pure, List.size_toArray, ne_eq, not_true_eq_false, if_false, hst]
/-- A whole block. -/
theorem o_storebk {F : Act → World → Prop} {wr : List Chunk} (i : Nat) {t b T : Nat} {cs vs : List Value} {r : TRow} {tab : List TRow} (hT : TabOk P tab) {x y : Operand} (hx : ev l x = some (.pointer (some ⟨b, 0, none⟩))) (hy : ev l y = some (.agg vs.toArray)) (hi : nth wr i = some (cells b T cs)) (ht : nth tab t = some r)
    (hs : vs.length = r.size) (hone : vs.all (·.oneCell') = true) (hfit : cs.length = vs.length) (k : Z P ops (.keep ol (wr.set i (cells b T vs)) F) n l B hp rest) :
    Z P ops (.keep ol wr F) n l B hp (⟨none, .store t x y, ty, pos, aft, none⟩ :: rest) :=
  o_storewk i hT hx hy hi ht hs hone (by omega) (by rw [← hfit]; simp) k
/-- A call that turns the written block in front. -/
theorem o_callk {F : Act → World → Prop} {wr : List Chunk} {c c' : Chunk} {f : FuncId} {fn : Func} (hf : P.funcs[f]? = some fn) (hb : fn.body.isNone = false) (hname : (fn.name == "runtime.NumGoroutine") = false) {args : List Operand} {ats : Array TypeId} {vs : List Value} (hargs : evs l args = some vs) {u : Value}
    (spec : Does P f vs [c] (fun _ : Unit => True) (fun _ => u) (fun _ => [c'])) (hd : d < n)
    (k : Z P ops (.keep ol (c' :: wr) F) n ((d, u) :: l) B hp rest) : Z P ops (.keep ol (c :: wr) F) n l B hp (⟨some d, .call ⟨.value (.func f), args.toArray, ats⟩, ty, pos, aft, none⟩ :: rest) := by
  intro a hA
  show KW P ops _ _ _ (_ :: rest) _ a
  unfold KW
  rw [if_pos (by simp [Region.wanted]), if_pos (by simp [clsEo, clsE, cls])]
  refine ⟨u, fun w => St B w ((c' :: wr) ++ hp), fun w hS => ?_, fun w h => ⟨_, h⟩, k _ (hA.put hd u)⟩
  have hS' : St B w ([c] ++ (wr ++ hp)) := hS
  unfold effAt
  rw [x_call hf hb hname hA hargs]
  refine (spec w (hS'.toPre.sub (List.sublist_append_left _ _))).mono fun e w' ⟨x, hok, he, hx⟩ => ?_
  subst he
  exact ⟨rfl, hS'.call hx⟩
/-- The same, where the call looks at what is kept. -/
theorem o_callka {F : Act → World → Prop} {wr : List Chunk} {c c' : Chunk} {f : FuncId} {fn : Func} (hf : P.funcs[f]? = some fn) (hb : fn.body.isNone = false) (hname : (fn.name == "runtime.NumGoroutine") = false) {args : List Operand} {ats : Array TypeId} {vs : List Value} (hargs : evs l args = some vs) {u : Value}
    (spec : Does P f vs (c :: hp) (fun _ : Unit => True) (fun _ => u) (fun _ => c' :: hp)) (hd : d < n)
    (k : Z P ops (.keep ol (c' :: wr) F) n ((d, u) :: l) B hp rest) : Z P ops (.keep ol (c :: wr) F) n l B hp (⟨some d, .call ⟨.value (.func f), args.toArray, ats⟩, ty, pos, aft, none⟩ :: rest) := by
  intro a hA
  show KW P ops _ _ _ (_ :: rest) _ a
  unfold KW
  rw [if_pos (by simp [Region.wanted]), if_pos (by simp [clsEo, clsE, cls])]
  refine ⟨u, fun w => St B w ((c' :: wr) ++ hp), fun w hS => ?_, fun w h => ⟨_, h⟩, k _ (hA.put hd u)⟩
  have pm : ∀ x : Chunk, ((x :: wr) ++ hp).Perm ((x :: hp) ++ wr) := fun x => List.Perm.cons x List.perm_append_comm
  have hS' : St B w ((c :: hp) ++ wr) := hS.perm (pm c)
  unfold effAt
  rw [x_call hf hb hname hA hargs]
  refine (spec w (hS'.toPre.sub (List.sublist_append_left _ _))).mono fun e w' ⟨x, hok, he, hx⟩ => ?_
  subst he
  exact ⟨rfl, (hS'.call hx).perm (pm c').symm⟩
/-- A load that is ordered, from a block that the region writes. -/
theorem o_loadwk {F : Act → World → Prop} {wr : List Chunk} {t b T : Nat} {cs : List Value} {r : TRow} {tab : List TRow} (hol : ol.contains d = true) (hT : TabOk P tab) {x : Operand} (hx : ev l x = some (.pointer (some ⟨b, 0, none⟩))) (ht : nth tab t = some r) (ha : r.kind.agg = true)
    (hm : cells b T cs ∈ wr) (hc : cs.length = r.size) (hd : d < n) (kk : Z P ops (.keep ol wr F) n ((d, .agg cs.toArray) :: l) B hp rest) : Z P ops (.keep ol wr F) n l B hp (⟨some d, .load t x, ty, pos, aft, none⟩ :: rest) := by
  intro a hA
  show KW P ops _ _ _ (_ :: rest) _ a
  unfold KW
  rw [if_pos (by simp [Region.wanted]), if_pos (by simp only [clsEo]; rw [hol]; simp)]
  refine ⟨.agg cs.toArray, fun w => St B w (wr ++ hp), fun w hS => ?_, fun w h => ⟨wr, h⟩, kk _ (hA.put hd _)⟩
  obtain ⟨i, hi⟩ := List.getElem?_of_mem (List.mem_append_left hp hm)
  have hl : (loadCells ⟨b, 0, none⟩ cs.length).run P w = .ok cs.toArray w :=
    run_loadCells_list (P := P) w ⟨b, 0, none⟩ cs (fun j v hv => by
      rw [add_mk, Nat.zero_add]
      exact hS.cell i hi hv)
  unfold effAt
  simp only [execOp, hA.eval hx, Instr.loadAt, Instr.sureAddr, loadVar, x_isAgg hT ht, ha, x_sizeOf hT ht, ← hc, hl, Sem.run_bind, Result.andThen, Sem.run_pure, if_true]
  exact ⟨trivial, hS⟩
/-! ### The same beside new blocks: mode mono with blocks that are turned -/
theorem perm_x (X wr hp : List Chunk) : (X ++ (wr ++ hp)).Perm (wr ++ (X ++ hp)) := by
  rw [← List.append_assoc, ← List.append_assoc]
  exact List.Perm.append_right hp List.perm_append_comm
section
variable {el : Ord} {news : News} {R : Act → World → Prop}
theorem z_effv {wr wr' : List Chunk} {op : Op} (hc : cls op = .eff) (hin : iniOf el ⟨none, op, ty, pos, aft, none⟩ = none)
    (hex : ∀ a w hp', Has a n l → St B w (wr ++ hp') → ∃ w', (execOp a.eval ⟨none, op, ty, pos, aft, none⟩).run P w = .ok .skip w' ∧ St B w' (wr' ++ hp'))
    (k : Z P ops (.mono el wr' R news) n l B hp rest) : Z P ops (.mono el wr R news) n l B hp (⟨none, op, ty, pos, aft, none⟩ :: rest) := by
  intro a hA
  show MP P ops el B hp _ (_ :: rest) news wr a
  unfold MP
  rw [if_pos (by simp [Region.wanted]), if_neg (by simp [hc])]
  simp only [hin]
  rw [if_pos (by simp [isEl])]
  refine ⟨Unit, fun _ => True, fun _ => undef, fun _ => wr', fun X w hS => ?_, fun _ _ => k a hA⟩
  obtain ⟨w', he, hS'⟩ := hex a w _ hA (hS.perm (perm_x X wr hp))
  unfold effOne
  rw [he]
  exact ⟨(), trivial, rfl, hS'.perm (perm_x X wr' hp).symm⟩
theorem o_storev {wr : List Chunk} (i : Nat) {t b o T : Nat} {cs cs' : List Value} {u v : Value} {r : TRow} {tab : List TRow} (hT : TabOk P tab) {x y : Operand} (hx : ev l x = some (.pointer (some ⟨b, o, none⟩))) (hy : ev l y = some v) (hin : iniOf el ⟨none, .store t x y, ty, pos, aft, none⟩ = none) (hi : nth wr i = some (cells b T cs)) (ht : nth tab t = some r)
    (hs : Nat.beq r.size 1 = true) (hv : oneB v = true) (hc : cs[o]? = some u) (hset : cs.set o v = cs') (k : Z P ops (.mono el (wr.set i (cells b T cs')) R news) n l B hp rest) :
    Z P ops (.mono el wr R news) n l B hp (⟨none, .store t x y, ty, pos, aft, none⟩ :: rest) := by
  rw [nth_eq] at hi
  have hlt : i < wr.length := (List.getElem?_eq_some_iff.1 hi).1
  refine z_effv rfl hin (fun a w hp' hA hS0 => ?_) k
  have hS := hS0.front i (by rw [List.getElem?_append_left hlt]; exact hi)
  have hs' : r.size = 1 := Nat.eq_of_beq_eq_true hs
  refine ⟨_, ?_, ((hset ▸ hS.store (o := o) v : St B _ (cells b T cs' :: (wr ++ hp').eraseIdx i))).perm ((set_perm (wr ++ hp') i (cells b T cs') (by simp; omega)).symm.trans (List.Perm.of_eq (set_app _ _ _ _ hlt)))⟩
  simp only [execOp, hA.eval hx, hA.eval hy, Instr.storeAt, Instr.sureAddr, storeVar, cells_of_one hv, x_sizeOf hT ht, hs', Sem.run_bind, Result.andThen, Sem.run_pure]
  simp [storeCells, add_mk, x_store1 hv (hS.cell 0 rfl hc) (hS.frozen 0 rfl), Sem.run_bind, Sem.run_pure, Result.andThen]
theorem o_storewv {wr : List Chunk} (i : Nat) {t b o T : Nat} {cs cs' vs : List Value} {r : TRow} {tab : List TRow} (hT : TabOk P tab) {x y : Operand} (hx : ev l x = some (.pointer (some ⟨b, o, none⟩))) (hy : ev l y = some (.agg vs.toArray)) (hin : iniOf el ⟨none, .store t x y, ty, pos, aft, none⟩ = none) (hi : nth wr i = some (cells b T cs)) (ht : nth tab t = some r)
    (hs : vs.length = r.size) (hone : vs.all (·.oneCell') = true) (hfit : o + vs.length ≤ cs.length) (hset : cs.take o ++ vs ++ cs.drop (o + vs.length) = cs') (k : Z P ops (.mono el (wr.set i (cells b T cs')) R news) n l B hp rest) :
    Z P ops (.mono el wr R news) n l B hp (⟨none, .store t x y, ty, pos, aft, none⟩ :: rest) := by
  rw [nth_eq] at hi
  have hlt : i < wr.length := (List.getElem?_eq_some_iff.1 hi).1
  refine z_effv rfl hin (fun a w hp' hA hS0 => ?_) k
  have hS := hS0.front i (by rw [List.getElem?_append_left hlt]; exact hi)
  have hc : w.heap[b]? = some (.cells cs.toArray T (0, 0)) := hS.at_ 0 rfl
  have hst := run_storeCells_at P b o T vs 0 cs.toArray w hc (by simpa using hfit) (by simpa using hone)
  simp only [Nat.add_zero, hset] at hst
  refine ⟨w.setRow b cs'.toArray, ?_, (hS.write (w' := w.setRow b cs'.toArray) (d := cells b T cs') rfl rfl rfl (setRow_size _ _ _) (fun k hk => setRow_other w b k _ hk) (setRow_heap w b cs.toArray cs'.toArray T (0, 0) hc) (fun k hk => hk)).perm ((set_perm (wr ++ hp') i (cells b T cs') (by simp; omega)).symm.trans (List.Perm.of_eq (set_app _ _ _ _ hlt)))⟩
  simp only [execOp, hA.eval hx, hA.eval hy, Instr.storeAt, Instr.sureAddr, storeVar, Value.cells, x_sizeOf hT ht, ← hs, Sem.run_bind, Result.andThen, Sem.run_pure, List.size_toArray, ne_eq, not_true_eq_false, if_false, hst]
theorem o_storebv {wr : List Chunk} (i : Nat) {t b T : Nat} {cs vs : List Value} {r : TRow} {tab : List TRow} (hT : TabOk P tab) {x y : Operand} (hx : ev l x = some (.pointer (some ⟨b, 0, none⟩))) (hy : ev l y = some (.agg vs.toArray)) (hin : iniOf el ⟨none, .store t x y, ty, pos, aft, none⟩ = none) (hi : nth wr i = some (cells b T cs)) (ht : nth tab t = some r)
    (hs : vs.length = r.size) (hone : vs.all (·.oneCell') = true) (hfit : cs.length = vs.length) (k : Z P ops (.mono el (wr.set i (cells b T vs)) R news) n l B hp rest) :
    Z P ops (.mono el wr R news) n l B hp (⟨none, .store t x y, ty, pos, aft, none⟩ :: rest) :=
  o_storewv i hT hx hy hin hi ht hs hone (by omega) (by rw [← hfit]; simp) k
/-- A call that turns the block in front, and looks at what is kept. -/
theorem o_callv {wr : List Chunk} {c c' : Chunk} {f : FuncId} {fn : Func} (hf : P.funcs[f]? = some fn) (hb : fn.body.isNone = false) (hname : (fn.name == "runtime.NumGoroutine") = false) {args : List Operand} {ats : Array TypeId} {vs : List Value} (hargs : evs l args = some vs) {u : Value}
    (spec : Does P f vs (c :: hp) (fun _ : Unit => True) (fun _ => u) (fun _ => c' :: hp)) (hd : d < n) (hel : el.el.contains d = true)
    (k : Z P ops (.mono el (c' :: wr) R news) n ((d, u) :: l) B hp rest) : Z P ops (.mono el (c :: wr) R news) n l B hp (⟨some d, .call ⟨.value (.func f), args.toArray, ats⟩, ty, pos, aft, none⟩ :: rest) := by
  intro a hA
  show MP P ops el B hp _ (_ :: rest) news (c :: wr) a
  unfold MP
  rw [if_pos (by simp [Region.wanted]), if_neg (by simp [cls])]
  simp only [iniOf]
  rw [if_pos (by simp only [isEl]; exact hel)]
  refine ⟨Unit, fun _ => True, fun _ => u, fun _ => c' :: wr, fun X w hS => ?_, fun _ _ => k _ (hA.put hd u)⟩
  have pm : ∀ x : Chunk, (X ++ ((x :: wr) ++ hp)).Perm ((x :: hp) ++ (wr ++ X)) := fun x => by
    refine (perm_x X (x :: wr) hp).trans ?_
    show (x :: (wr ++ (X ++ hp))).Perm (x :: (hp ++ (wr ++ X)))
    refine List.Perm.cons x ?_
    rw [← List.append_assoc]
    exact List.perm_append_comm
  have hS' : St B w ((c :: hp) ++ (wr ++ X)) := hS.perm (pm c)
  unfold effOne
  rw [x_call hf hb hname hA hargs]
  refine (spec w (hS'.toPre.sub (List.sublist_append_left _ _))).mono fun e w' ⟨x, hok, he, hx⟩ => ?_
  subst he
  exact ⟨u, rfl, (), trivial, rfl, (hS'.call hx).perm (pm c').symm⟩
/-- A load that is ordered, from a block that the region turns: a whole block. -/
theorem o_loadwv {wr : List Chunk} {t b T : Nat} {cs : List Value} {r : TRow} {tab : List TRow} (hel : el.el.contains d = true) (hT : TabOk P tab) {x : Operand} (hx : ev l x = some (.pointer (some ⟨b, 0, none⟩))) (ht : nth tab t = some r) (ha : r.kind.agg = true)
    (hm : cells b T cs ∈ wr) (hc : cs.length = r.size) (hd : d < n) (kk : Z P ops (.mono el wr R news) n ((d, .agg cs.toArray) :: l) B hp rest) : Z P ops (.mono el wr R news) n l B hp (⟨some d, .load t x, ty, pos, aft, none⟩ :: rest) := by
  intro a hA
  show MP P ops el B hp _ (_ :: rest) news wr a
  unfold MP
  rw [if_pos (by simp [Region.wanted]), if_neg (by simp [cls])]
  simp only [iniOf]
  rw [if_pos (by simp only [isEl]; exact hel)]
  refine ⟨Unit, fun _ => True, fun _ => .agg cs.toArray, fun _ => wr, fun X w hS => ?_, fun _ _ => kk _ (hA.put hd _)⟩
  obtain ⟨i, hi⟩ := List.getElem?_of_mem (List.mem_append_right X (List.mem_append_left hp hm))
  have hl : (loadCells ⟨b, 0, none⟩ cs.length).run P w = .ok cs.toArray w :=
    run_loadCells_list (P := P) w ⟨b, 0, none⟩ cs (fun j v hv => by
      rw [add_mk, Nat.zero_add]
      exact hS.cell i hi hv)
  unfold effOne
  simp only [execOp, hA.eval hx, Instr.loadAt, Instr.sureAddr, loadVar, x_isAgg hT ht, ha, x_sizeOf hT ht, ← hc, hl, Sem.run_bind, Result.andThen, Sem.run_pure, if_true]
  refine ⟨(), trivial, ?_, hS⟩
  first | rfl | trivial
/-- One cell of it. -/
theorem o_load1v {wr : List Chunk} {t b o T : Nat} {cs : List Value} {v : Value} {r : TRow} {tab : List TRow} (hel : el.el.contains d = true) (hT : TabOk P tab) {x : Operand} (hx : ev l x = some (.pointer (some ⟨b, o, none⟩))) (ht : nth tab t = some r) (ha : r.kind.agg = false)
    (hm : cells b T cs ∈ wr) (hc : cs[o]? = some v) (hd : d < n) (kk : Z P ops (.mono el wr R news) n ((d, v) :: l) B hp rest) : Z P ops (.mono el wr R news) n l B hp (⟨some d, .load t x, ty, pos, aft, none⟩ :: rest) := by
  intro a hA
  show MP P ops el B hp _ (_ :: rest) news wr a
  unfold MP
  rw [if_pos (by simp [Region.wanted]), if_neg (by simp [cls])]
  simp only [iniOf]
  rw [if_pos (by simp only [isEl]; exact hel)]
  refine ⟨Unit, fun _ => True, fun _ => v, fun _ => wr, fun X w hS => ?_, fun _ _ => kk _ (hA.put hd _)⟩
  obtain ⟨i, hi⟩ := List.getElem?_of_mem (List.mem_append_right X (List.mem_append_left hp hm))
  unfold effOne
  simp only [execOp, hA.eval hx, Sem.run_bind, x_load1 hT ht ha (hS.cell i hi hc), Result.andThen, Sem.run_pure]
  refine ⟨(), trivial, ?_, hS⟩
  first | rfl | trivial
/-- A call with whatever value: the contract knows all, and new blocks come in front. -/
theorem o_callx {wr : List Chunk} {X : Type} {ok : X → Prop} {v : X → Value} {po : X → List Chunk} {f : FuncId} {fn : Func} (hf : P.funcs[f]? = some fn) (hb : fn.body.isNone = false) (hname : (fn.name == "runtime.NumGoroutine") = false) {args : List Operand} {ats : Array TypeId} {vs : List Value} (hargs : evs l args = some vs)
    (spec : Does P f vs (wr ++ hp) ok v (fun x => po x ++ hp)) (hd : d < n) (hel : el.el.contains d = true)
    (k : ∀ x, ok x → Z P ops (.mono el (po x) R news) n ((d, v x) :: l) B hp rest) : Z P ops (.mono el wr R news) n l B hp (⟨some d, .call ⟨.value (.func f), args.toArray, ats⟩, ty, pos, aft, none⟩ :: rest) := by
  intro a hA
  show MP P ops el B hp _ (_ :: rest) news wr a
  unfold MP
  rw [if_pos (by simp [Region.wanted]), if_neg (by simp [cls])]
  simp only [iniOf]
  rw [if_pos (by simp only [isEl]; exact hel)]
  refine ⟨X, ok, v, po, fun Y w hS => ?_, fun x hok => k x hok _ (hA.put hd _)⟩
  have pm : ∀ w : List Chunk, (Y ++ (w ++ hp)).Perm ((w ++ hp) ++ Y) := fun w => List.perm_append_comm
  have hS' : St B w ((wr ++ hp) ++ Y) := hS.perm (pm wr)
  unfold effOne
  rw [x_call hf hb hname hA hargs]
  refine (spec w (hS'.toPre.sub (List.sublist_append_left _ _))).mono fun e w' ⟨x, hok, he, hx⟩ => ?_
  exact ⟨v x, he, x, hok, rfl, (hS'.call hx).perm (pm (po x)).symm⟩
/-- The same, where one new block comes in front of all. -/
theorem o_callx1 {wr : List Chunk} {X : Type} {ok : X → Prop} {v : X → Value} {nw : X → Chunk} {f : FuncId} {fn : Func} (hf : P.funcs[f]? = some fn) (hb : fn.body.isNone = false) (hname : (fn.name == "runtime.NumGoroutine") = false) {args : List Operand} {ats : Array TypeId} {vs : List Value} (hargs : evs l args = some vs)
    (spec : Does P f vs (wr ++ hp) ok v (fun x => nw x :: (wr ++ hp))) (hd : d < n) (hel : el.el.contains d = true)
    (k : ∀ x, ok x → Z P ops (.mono el (nw x :: wr) R news) n ((d, v x) :: l) B hp rest) : Z P ops (.mono el wr R news) n l B hp (⟨some d, .call ⟨.value (.func f), args.toArray, ats⟩, ty, pos, aft, none⟩ :: rest) :=
  o_callx (po := fun x => nw x :: wr) hf hb hname hargs spec hd hel k
/-- The same, where nothing new comes, and the value is known. -/
theorem o_callx0 {wr : List Chunk} {u : Value} {f : FuncId} {fn : Func} (hf : P.funcs[f]? = some fn) (hb : fn.body.isNone = false) (hname : (fn.name == "runtime.NumGoroutine") = false) {args : List Operand} {ats : Array TypeId} {vs : List Value} (hargs : evs l args = some vs)
    (spec : Does P f vs (wr ++ hp) (fun _ : Unit => True) (fun _ => u) (fun _ => wr ++ hp)) (hd : d < n) (hel : el.el.contains d = true)
    (k : Z P ops (.mono el wr R news) n ((d, u) :: l) B hp rest) : Z P ops (.mono el wr R news) n l B hp (⟨some d, .call ⟨.value (.func f), args.toArray, ats⟩, ty, pos, aft, none⟩ :: rest) :=
  o_callx (po := fun _ => wr) hf hb hname hargs spec hd hel fun _ _ => k
end
/-- A contract beside chunks that it does not name. -/
theorem Does.frame {f : FuncId} {vs : List Value} {pr : List Chunk} {X : Type} {ok : X → Prop} {v : X → Value} {po : X → List Chunk} (h : Does P f vs pr ok v po) (fr : List Chunk) : Does P f vs (pr ++ fr) ok v (fun x => po x ++ fr) := fun w hw => by
  refine (h w (hw.sub (List.sublist_append_left _ _))).mono fun e w' ⟨x, hok, he, hx⟩ => ?_
  exact ⟨x, hok, he, hw.st.call hx⟩
/-- copy into a block, from a slice that can be read. -/
theorem o_copy {md : Mode} (hme : md.canEff = true) (i : Nat) {dT sT e s b kb g o T dLen dCap sLen sCap : Nat} {ek : TKind} {tab : List TRow} (hT : TabOk P tab) {x y : Operand} {pa : Addr} {cs vs cs' : List Value} (hx : ev l x = some (.slice (some ⟨g, o, none⟩) dLen dCap)) (hy : ev l y = some (.slice (some pa) sLen sCap)) (hrd : Rds hp (some pa) vs)
    (hi : nth hp i = some (cells g T cs)) (ht : nth tab dT = some ⟨.slice e, s, b⟩) (he : nth tab e = some ⟨ek, 1, kb⟩) (hn : vs.length = Nat.min sLen dLen) (hfit : o + vs.length ≤ cs.length) (hone : vs.all (·.oneCell') = true) (hset : cs.take o ++ vs ++ cs.drop (o + vs.length) = cs') (hd : d < n)
    (k : Z P ops md n ((d, .int .i64 vs.length) :: l) B (hp.set i (cells g T cs')) rest) : Z P ops md n l B hp (⟨some d, .call ⟨.builtin .copy, #[x, y], #[dT, sT]⟩, ty, pos, aft, none⟩ :: rest) := by
  rw [nth_eq] at hi
  refine z_eff hme (v := .int .i64 vs.length) (n' := .value _) (Mode.fits_of rfl) (.inl rfl) (fun t h => by obtain rfl := Option.some.inj h; exact hd) (fun a w hA hS0 => ?_) k
  have hS := hS0.front i hi
  have hc : w.heap[g]? = some (.cells cs.toArray T (0, 0)) := hS.at_ 0 rfl
  obtain ⟨dd, _, hu, hk, -⟩ := hT dT _ ht
  cases dd <;> simp [kindOf] at hk
  subst hk
  obtain ⟨_, i', _, _, hi', hs', _⟩ := hT _ _ he
  have hsrc : ∀ j v, vs[j]? = some v → w.cell? (pa.add j) = some v := fun j v hv => by
    obtain ⟨p, hp1, hp2⟩ := hrd w hS0.toPre j v hv
    obtain rfl := Option.some.inj hp1
    exact hp2
  have hcp := run_copy_row P w dT sT ty _ g o dLen dCap pa sLen sCap cs.toArray T vs hu (by rw [hi']; simp [hs']) hc hn hsrc (by simpa using hfit) (by simpa using hone)
  simp only [hset] at hcp
  refine ⟨w.setRow g cs'.toArray, ?_, (hS.write (w' := w.setRow g cs'.toArray) (d := cells g T cs') rfl rfl rfl (setRow_size _ _ _) (fun k hk => setRow_other w g k _ hk) (setRow_heap w g cs.toArray cs'.toArray T (0, 0) hc) (fun k hk => hk)).perm (set_perm hp i (cells g T cs') (List.getElem?_eq_some_iff.1 hi).1).symm⟩
  simp [execOp, resolve, hA.eval hx, hA.eval hy, invoke, builtin, hcp, goInt, Sem.run_bind, Sem.run_pure, Result.andThen]
/-- A call that turns the block in front, and looks at nothing else. -/
theorem o_callv1 {el : Ord} {news : News} {R : Act → World → Prop} {wr : List Chunk} {c c' : Chunk} {f : FuncId} {fn : Func} (hf : P.funcs[f]? = some fn) (hb : fn.body.isNone = false) (hname : (fn.name == "runtime.NumGoroutine") = false) {args : List Operand} {ats : Array TypeId} {vs : List Value} (hargs : evs l args = some vs) {u : Value}
    (spec : Does P f vs [c] (fun _ : Unit => True) (fun _ => u) (fun _ => [c'])) (hd : d < n) (hel : el.el.contains d = true)
    (k : Z P ops (.mono el (c' :: wr) R news) n ((d, u) :: l) B hp rest) : Z P ops (.mono el (c :: wr) R news) n l B hp (⟨some d, .call ⟨.value (.func f), args.toArray, ats⟩, ty, pos, aft, none⟩ :: rest) :=
  o_callv hf hb hname hargs (spec.frame hp) hd hel k
/-- A call that leaves all that is told as it is, and yields one value. -/
theorem o_callr {md : Mode} (hmd : md.canCall = true) {f : FuncId} {fn : Func} (hf : P.funcs[f]? = some fn) (hb : fn.body.isNone = false) (hname : (fn.name == "runtime.NumGoroutine") = false) {args : List Operand} {ats : Array TypeId} {vs : List Value} (hargs : evs l args = some vs) {u : Value}
    (spec : Does P f vs hp (fun _ : Unit => True) (fun _ => u) (fun _ => hp)) (hd : d < n) (k : Z P ops md n ((d, u) :: l) B hp rest) : Z P ops md n l B hp (⟨some d, .call ⟨.value (.func f), args.toArray, ats⟩, ty, pos, aft, none⟩ :: rest) := by
  have hp0 : hp.Perm (hp ++ []) := by simp
  cases md with
  | still F => cases hmd
  | mixedx F => cases hmd
  | keep ol wr F => cases hmd
  | list Q => exact o_calla hf hb hname hargs spec hd fun _ _ => k
  | quiet F => exact o_callq (.inl ⟨F, .inl rfl⟩) hf hb hname hargs spec hp0 hd (fun _ _ => rfl) (fun _ _ => List.Sublist.refl _) k
  | mixed F => exact o_callq (.inl ⟨F, .inr rfl⟩) hf hb hname hargs spec hp0 hd (fun _ _ => rfl) (fun _ _ => List.Sublist.refl _) k
  | mono el wr R news => exact o_callq (.inr ⟨el, wr, R, news, rfl⟩) hf hb hname hargs spec hp0 hd (fun _ _ => rfl) (fun _ _ => List.Sublist.refl _) k
/-- A conversion that leaves the number as it is. -/
theorem o_convi {s t : Nat} {x : Operand} {k k' : IntKind} {i : Int} {a1 b1 a2 b2 : Nat} {ks : IntKind} {tab : List TRow} (hT : TabOk P tab) (hx : ev l x = some (.int k i)) (hs : nth tab s = some ⟨.int ks, a1, b1⟩) (ht : nth tab t = some ⟨.int k', a2, b2⟩) (he : k'.wrap i = i) (hd : d < n) {md : Mode}
    (kk : Z P ops md n ((d, .int k' i) :: l) B hp rest) : Z P ops md n l B hp (⟨some d, .convert s t x, ty, pos, aft, none⟩ :: rest) :=
  o_conv hT hx hs ht hd (by rw [he]; exact kk)
/-- A value of noughts. -/
theorem o_build0 {md : Mode} {t : Nat} {v : Value} (hb : ∀ w, (Instr.build t #[]).run P w = .ok v w) (hd : d < n) (kk : Z P ops md n ((d, v) :: l) B hp rest) : Z P ops md n l B hp (⟨some d, .build t #[], ty, pos, aft, none⟩ :: rest) :=
  o_build (ps := []) rfl hb hd kk
end
end Go.Proofs.Ytnckabgaichkkaa.Eng
