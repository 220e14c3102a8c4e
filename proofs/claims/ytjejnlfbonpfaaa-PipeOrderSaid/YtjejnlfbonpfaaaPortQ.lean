/-
A port as a list of words: what waits, the first one first. SendAll, All, Clear; two lists of numbers held against each other.
-/
import Derived.Test.YtjejnlfbonpfaaaPort2
namespace Go.Proofs.Ytjejnlfbonpfaaa
set_option linter.unusedVariables false
set_option linter.unusedSimpArgs false
open Eng
attribute [local irreducible] Eng.Z Eng.S

/-- The ring from place a on reads as the list q. -/
structure Ring (r : Nat → Int) (a : Int) (q : List Int) : Prop where
  lo : 0 ≤ a
  hi : a < 64
  len : q.length ≤ 64
  el : ∀ i, i < q.length → r ((a + i) % 64).toNat = q.getD i 0
theorem Ring.push {r : Nat → Int} {a : Int} {q : List Int} (h : Ring r a q) (hl : q.length < 64) (x : Int) : Ring (upd r ((a + q.length) % 64).toNat x) a (q ++ [x]) := by
  obtain ⟨h0, h1, h2, h3⟩ := h
  refine ⟨h0, h1, by simp; omega, fun i hi => ?_⟩
  simp at hi
  unfold upd
  by_cases e : i = q.length
  · subst e
    rw [if_pos rfl]
    simp
  · have hlt : i < q.length := by omega
    rw [if_neg (by omega), h3 i hlt]
    simp [hlt, List.getElem?_append_left hlt]
theorem Ring.pop {r : Nat → Int} {a x : Int} {q : List Int} (h : Ring r a (x :: q)) : r a.toNat = x ∧ Ring (upd r a.toNat 0) ((a + 1) % 64) q := by
  obtain ⟨h0, h1, h2, h3⟩ := h
  simp at h2
  refine ⟨?_, by omega, by omega, by omega, fun i hi => ?_⟩
  · have := h3 0 (by simp)
    rw [show ((a + (0 : Nat)) % 64).toNat = a.toNat by omega] at this
    simpa using this
  · have := h3 (i + 1) (by simp; omega)
    unfold upd
    rw [if_neg (by omega), show (((a + 1) % 64 + i) % 64).toNat = ((a + (i + 1 : Nat)) % 64).toNat by omega, this]
    simp
theorem Ring.nil (r : Nat → Int) : Ring r 0 [] := ⟨by omega, by omega, by simp, fun i hi => by simp at hi⟩

abbrev portQ (b : Nat) (q : List Int) : Chunk := some_ b (fun y : (Nat → Int) × Int => Ring y.1 y.2 q) 41 (fun y => portCs y.1 y.2 q.length)
section
variable (b : Nat) (q : List Int) (x : Int)
theorem sendq_room (hl : q.length < 64) : Does Try.prog 19 [pp b, .int .u32 x] [portQ b q] (fun _ : Unit => True) (fun _ => .bool true) (fun _ => [portQ b (q ++ [x])]) :=
  Does.open_ (fun y hy => send_room b y.1 y.2 q.length x hy.lo hy.hi (by omega) (by omega)) fun y hy _ _ => ⟨(), trivial, rfl, fun B w h => h.hide (upd y.1 ((y.2 + q.length) % 64).toNat x, y.2) (hy.push hl x) (by simp)⟩
theorem sendq_full (hl : q.length = 64) : Does Try.prog 19 [pp b, .int .u32 x] [portQ b q] (fun _ : Unit => True) (fun _ => .bool false) (fun _ => [portQ b q]) :=
  Does.open_ (fun y _ => by have := send_full b y.1 y.2 x; rw [show (64 : Int) = q.length by omega] at this; exact this) fun y hy _ _ => ⟨(), trivial, rfl, fun B w h => h.hide y hy rfl⟩
theorem recvq_some : Does Try.prog 20 [pp b] [portQ b (x :: q)] (fun _ : Unit => True) (fun _ => .tuple #[.int .u32 x, .bool true]) (fun _ => [portQ b q]) :=
  Does.open_ (fun y hy => recv_some b y.1 y.2 (x :: q).length hy.lo hy.hi (by simp) (by have := hy.len; omega)) fun y hy _ _ =>
    ⟨(), trivial, by rw [hy.pop.1], fun B w h => h.hide (upd y.1 y.2.toNat 0, (y.2 + 1) % 64) hy.pop.2 (by simp)⟩
theorem recvq_none : Does Try.prog 20 [pp b] [portQ b []] (fun _ : Unit => True) (fun _ => .tuple #[.int .u32 0, .bool false]) (fun _ => [portQ b []]) :=
  Does.open_ (fun y _ => recv_none b y.1 y.2) fun y hy _ _ => ⟨(), trivial, rfl, fun B w h => h.hide y hy rfl⟩
theorem lenq : Does Try.prog 36 [pp b] [portQ b q] (fun _ : Unit => True) (fun _ => .int .i64 q.length) (fun _ => [portQ b q]) :=
  Does.open_ (fun y _ => len_c b y.1 y.2 _) fun y hy _ _ => ⟨(), trivial, rfl, fun B w h => h.hide y hy rfl⟩
theorem roomq : Does Try.prog 37 [pp b] [portQ b q] (fun _ : Unit => True) (fun _ => .int .i64 (64 - q.length)) (fun _ => [portQ b q]) :=
  Does.open_ (fun y hy => room_c b y.1 y.2 _ (by omega) (by have := hy.len; omega)) fun y hy _ _ => ⟨(), trivial, rfl, fun B w h => h.hide y hy rfl⟩
end

def u32s (l : List Int) : List Value := l.map (Value.int .u32)
theorem ints_at {kd : IntKind} (l : List Int) {i : Nat} (h : i < l.length) : (l.map (Value.int kd))[i]? = some (.int kd (l.getD i 0)) := by simp [h]
theorem u32s_at (l : List Int) {i : Nat} (h : i < l.length) : (u32s l)[i]? = some (.int .u32 (l.getD i 0)) := ints_at l h

/-- How many words there is room for. -/
theorem take_snoc (xs : List Int) {k : Nat} (h : k < xs.length) : xs.take (k + 1) = xs.take k ++ [xs.getD k 0] := by
  rw [List.take_succ_eq_append_getElem h]; simp [h]
theorem sendall_c (b : Nat) (q xs : List Int) (A : Option Addr) (c : Nat) (fr : List Chunk) (hrd : Rds fr A (u32s xs)) (hx : xs.length ≤ 9223372036854775807) (hq : q.length ≤ 64) :
    Does Try.prog 21 [pp b, .slice A xs.length c] (portQ b q :: fr) (fun _ : Unit => True) (fun _ => .int .i64 (min xs.length (64 - q.length) : Nat)) (fun _ => portQ b (q ++ xs.take (64 - q.length)) :: fr) := by
  intro w hw
  have hne : 0 < xs.length → A ≠ none := fun h => hrd.ne (hw.sub (List.sublist_cons_self _ _)) (by simpa [u32s] using h)
  refine f_enter Try.func21 rfl Try.ntmps21 rfl hw ?_
  repeat' (first
   | (refine s_is ?_; first
   | (refine s_isagain ?_; first
   | (exact c_again (k + 1) (by omega) (by omega) ⟨rfl, rfl, rfl, rfl, rfl, trivial⟩ (fun w h => by rw [take_snoc xs (by omega), ← List.append_assoc]; exact h)))
   | (refine s_isret ?_; first
   | (exact f_ret1 rfl rfl () trivial (int_eq (by omega)) (fun w h => by have e : xs.take k = xs.take (64 - q.length) := List.take_eq_take_iff.2 (by omega); rw [← e]; exact h)))
   | (refine s_isw ?_; first
   | (refine s_isloop ?_; first
   | ((refine c_loop (X := Nat) (fun k => k ≤ min xs.length (64 - q.length)) (fun k => [(0, pp b), (1, .slice A xs.length c), (7, .slice A xs.length c), (8, .int .i64 xs.length), (9, .int .i64 k)]) (fun k => portQ b (q ++ xs.take k) :: fr) (fun k => xs.length - k) 0 (by omega) ⟨rfl, rfl, rfl, rfl, rfl, trivial⟩ (fun w h => by simpa using h) (fun k hk => ?_); rcases Nat.lt_or_ge (q.length + k) 64 with hr | hr)))
   | refine c_seq ?_
   | refine c_block ?_
   | refine c_region ?_
   | refine c_mixed mixed (by kernel_rfl) ?_
   | refine c_skip ?_
   | refine c_ret ?_
   | refine c_exit ?_
   | (refine s_iscond ?_; first
   | (refine c_true rfl (by first | with_reducible rfl | with_reducible assumption | ((with_reducible refine decide_eq_true ?_); first | with_reducible rfl | with_reducible assumption | omega)) ?_)
   | (refine c_false rfl (by first | with_reducible rfl | with_reducible assumption | ((with_reducible refine decide_eq_false ?_); first | with_reducible assumption | omega)) ?_)
   | (refine c_true rfl (by first | (simp only [Bool.not_eq_true', decide_eq_false_iff_not]; omega) | (with_reducible assumption) | (rw [decide_eq_false] <;> (first | omega | with_reducible rfl)) | (rw [decide_eq_true] <;> (first | omega | with_reducible rfl)) | (simp; done) | (simp; omega)) ?_)
   | (refine c_false rfl (by first | (simp only [Bool.not_eq_false', decide_eq_true_eq]; omega) | (with_reducible assumption) | (rw [decide_eq_false] <;> (first | omega | with_reducible rfl)) | (rw [decide_eq_true] <;> (first | omega | with_reducible rfl)) | (simp; done) | (simp; omega)) ?_)
   | refine c_cond rfl (fun hc => ?_) (fun hc => ?_)
   | refine c_condb rfl (fun hc => ?_) (fun hc => ?_)))
   | refine x_then ?_
   | refine x_then_ret ?_
   | refine x_then_exit ?_
   | refine x_block _ ?_
   | refine x_block_ret _ ?_
   | refine x_block_exit _ ?_
   | refine x_block_past (by decide) ?_
   | refine z_tailm ?_)
   | (refine z_isnil ?_; first
   | refine z_list ?_
   | refine z_mixed ?_
   | refine z_mono0 ?_
   | refine z_mono1 (by decide) fun g => ?_
   | refine z_mono2 (by decide) (by decide) fun g g' => ?_
   | refine z_mixedx ?_
   | refine z_quiet ?_)
   | (refine z_isop ?_; first
   | (refine z_isbin ?_; first
   | (refine z_isb .add ?_; first
   | refine o_add rfl rfl (by omega) (by omega) (by decide) ?_
   | refine o_addw rfl rfl (by decide) ?_)
   | (refine z_isb .lss ?_; first
   | refine o_lt rfl rfl (by decide) ?_))
   | (refine z_isload ?_; first
   | (refine z_ld1 tabOk rfl rfl ?_; first
   | refine o_loadm tabOk rfl rfl rfl (by repeat' (first | exact List.mem_cons_self | apply List.mem_cons_of_mem)) (by first | exact port_at _ _ _ | exact port_len _ _ _ | exact port_el _ _ _ (by omega) | exact u32s_at _ (by omega) | rfl) (by decide) ?_
   | refine o_loads tabOk (by first | assumption | exact Rds.cons _ (by assumption) | exact Rds.cons _ (Rds.cons _ (by assumption)) | exact own_rds 0 rfl | exact own_rds 1 rfl | exact own_rds 2 rfl) rfl rfl rfl (by first | exact port_at _ _ _ | exact port_len _ _ _ | exact port_el _ _ _ (by omega) | exact u32s_at _ (by omega) | rfl) (by decide) ?_)
   | (refine z_ldw tabOk rfl rfl ?_; first
   | refine o_loadwm tabOk rfl rfl rfl (by repeat' (first | exact List.mem_cons_self | apply List.mem_cons_of_mem)) (by first | rfl) (by decide) ?_))
   | (refine z_iscall ?_; first
   | (refine o_call Try.func19 rfl rfl rfl (sendq_room b _ _ (by simp; omega)) (List.Perm.refl _) (by decide) fun _ _ => ?_)
   | (refine o_call Try.func19 rfl rfl rfl (sendq_full b _ _ (by simp; omega)) (List.Perm.refl _) (by decide) fun _ _ => ?_))
   | (refine z_isix ?_; first
   | refine o_index0 tabOk rfl rfl rfl rfl (by omega) (by omega) (by decide) ?_
   | refine o_index1 tabOk rfl rfl rfl rfl (by omega) (by omega) (by decide) ?_
   | refine o_indexsk tabOk rfl rfl rfl rfl (by omega) (by omega) (by decide) ?_
   | refine o_indexs1 tabOk (by first | assumption | exact hne (by omega) | assumption) rfl rfl rfl rfl (by omega) (by omega) (by decide) ?_)
   | (refine z_isbi ?_; first
   | refine o_len tabOk rfl rfl (by decide) ?_
   | refine o_min rfl rfl (by decide) ?_
   | refine o_max rfl rfl (by decide) ?_)
   | refine o_move rfl (by decide) ?_
   | refine o_assign rfl (by decide) ?_
   | refine o_nil rfl (by decide) ?_
   | refine o_extract rfl rfl (by decide) ?_
   | refine o_not rfl (by decide) ?_
   | refine o_field0 tabOk rfl rfl rfl rfl rfl (by decide) ?_
   | refine o_field tabOk rfl rfl rfl rfl rfl (by decide) ?_
   | refine o_conv tabOk rfl rfl rfl (by decide) ?_))
theorem sendall_nil (A : Option Addr) (m c : Nat) (xs : List Int) (fr : List Chunk) (hm : xs.length = m) (h0 : 0 < m) (hrd : Rds fr A (u32s xs)) :
    Does Try.prog 21 [.pointer none, .slice A m c] fr (fun _ : Unit => True) (fun _ => .int .i64 0) (fun _ => fr) := by
  intro w hw
  have hne : A ≠ none := hrd.ne hw (by simpa [u32s, hm] using h0)
  refine f_enter Try.func21 rfl Try.ntmps21 rfl hw ?_
  repeat' (first
   | ((exfalso; omega))
   | (refine s_is ?_; first
   | (refine s_isret ?_; first
   | exact f_ret1 rfl rfl () trivial rfl (fun w h => h))
   | (refine s_isw ?_; first
   | (refine s_isloop ?_; first
   | (refine c_loop (X := Unit) (fun _ => True) (fun _ => [(0, .pointer none), (1, .slice A m c), (7, .slice A m c), (8, .int .i64 m), (9, .int .i64 0)]) (fun _ => fr) (fun k => 0) () trivial ⟨rfl, rfl, rfl, rfl, rfl, trivial⟩ (fun w h => h) (fun k hk => ?_)))
   | refine c_seq ?_
   | refine c_block ?_
   | refine c_region ?_
   | refine c_mixed mixed (by kernel_rfl) ?_
   | refine c_skip ?_
   | refine c_ret ?_
   | refine c_exit ?_
   | (refine s_iscond ?_; first
   | (refine c_true rfl (by first | with_reducible rfl | with_reducible assumption | ((with_reducible refine decide_eq_true ?_); first | with_reducible rfl | with_reducible assumption | omega)) ?_)
   | (refine c_false rfl (by first | with_reducible rfl | with_reducible assumption | ((with_reducible refine decide_eq_false ?_); first | with_reducible assumption | omega)) ?_)
   | (refine c_true rfl (by first | (simp only [Bool.not_eq_true', decide_eq_false_iff_not]; omega) | (with_reducible assumption) | (rw [decide_eq_false] <;> (first | omega | with_reducible rfl)) | (rw [decide_eq_true] <;> (first | omega | with_reducible rfl)) | (simp; done) | (simp; omega)) ?_)
   | (refine c_false rfl (by first | (simp only [Bool.not_eq_false', decide_eq_true_eq]; omega) | (with_reducible assumption) | (rw [decide_eq_false] <;> (first | omega | with_reducible rfl)) | (rw [decide_eq_true] <;> (first | omega | with_reducible rfl)) | (simp; done) | (simp; omega)) ?_)
   | refine c_cond rfl (fun hc => ?_) (fun hc => ?_)
   | refine c_condb rfl (fun hc => ?_) (fun hc => ?_)))
   | refine x_then ?_
   | refine x_then_ret ?_
   | refine x_then_exit ?_
   | refine x_block _ ?_
   | refine x_block_ret _ ?_
   | refine x_block_exit _ ?_
   | refine x_block_past (by decide) ?_
   | refine z_tailm ?_)
   | (refine z_isnil ?_; first
   | refine z_list ?_
   | refine z_mixed ?_
   | refine z_mono0 ?_
   | refine z_mono1 (by decide) fun g => ?_
   | refine z_mono2 (by decide) (by decide) fun g g' => ?_
   | refine z_mixedx ?_
   | refine z_quiet ?_)
   | (refine z_isop ?_; first
   | (refine z_isbin ?_; first
   | (refine z_isb .add ?_; first
   | refine o_add rfl rfl (by omega) (by omega) (by decide) ?_
   | refine o_addw rfl rfl (by decide) ?_)
   | (refine z_isb .lss ?_; first
   | refine o_lt rfl rfl (by decide) ?_))
   | (refine z_isload ?_; first
   | (refine z_ld1 tabOk rfl rfl ?_; first
   | refine o_loadm tabOk rfl rfl rfl (by repeat' (first | exact List.mem_cons_self | apply List.mem_cons_of_mem)) (by first | exact port_at _ _ _ | exact port_len _ _ _ | exact port_el _ _ _ (by omega) | exact u32s_at _ (by omega) | rfl) (by decide) ?_
   | refine o_loads tabOk (by first | assumption | exact Rds.cons _ (by assumption) | exact Rds.cons _ (Rds.cons _ (by assumption)) | exact own_rds 0 rfl | exact own_rds 1 rfl | exact own_rds 2 rfl) rfl rfl rfl (by first | exact port_at _ _ _ | exact port_len _ _ _ | exact port_el _ _ _ (by omega) | exact u32s_at _ (by omega) | rfl) (by decide) ?_)
   | (refine z_ldw tabOk rfl rfl ?_; first
   | refine o_loadwm tabOk rfl rfl rfl (by repeat' (first | exact List.mem_cons_self | apply List.mem_cons_of_mem)) (by first | rfl) (by decide) ?_))
   | (refine z_iscall ?_; first
   | refine o_call Try.func19 rfl rfl rfl (send_nil _) (List.Perm.refl _) (by decide) fun _ _ => ?_)
   | (refine z_isix ?_; first
   | refine o_index0 tabOk rfl rfl rfl rfl (by omega) (by omega) (by decide) ?_
   | refine o_index1 tabOk rfl rfl rfl rfl (by omega) (by omega) (by decide) ?_
   | refine o_indexsk tabOk rfl rfl rfl rfl (by omega) (by omega) (by decide) ?_
   | refine o_indexs1 tabOk (by first | assumption | exact hne (by omega) | assumption) rfl rfl rfl rfl (by omega) (by omega) (by decide) ?_)
   | (refine z_isbi ?_; first
   | refine o_len tabOk rfl rfl (by decide) ?_
   | refine o_min rfl rfl (by decide) ?_
   | refine o_max rfl rfl (by decide) ?_)
   | refine o_move rfl (by decide) ?_
   | refine o_assign rfl (by decide) ?_
   | refine o_nil rfl (by decide) ?_
   | refine o_extract rfl rfl (by decide) ?_
   | refine o_not rfl (by decide) ?_
   | refine o_field0 tabOk rfl rfl rfl rfl rfl (by decide) ?_
   | refine o_field tabOk rfl rfl rfl rfl rfl (by decide) ?_
   | refine o_conv tabOk rfl rfl rfl (by decide) ?_))
theorem same_len {xs ys : List Int} (h : (xs.length : Int) ≠ ys.length) : decide (xs = ys) = false := decide_eq_false fun e => h (by rw [e])
theorem same_el {xs ys : List Int} {k : Nat} (h : xs.getD k 0 ≠ ys.getD k 0) : decide (xs = ys) = false := decide_eq_false fun e => h (by rw [e])
theorem same_step {xs ys : List Int} {k : Nat} (h : ∀ i, i < k → xs.getD i 0 = ys.getD i 0) (hc : ¬ xs.getD k 0 ≠ ys.getD k 0) : ∀ i, i < k + 1 → xs.getD i 0 = ys.getD i 0 := fun i hi => by
  by_cases e : i = k
  · subst e; exact Decidable.not_not.1 hc
  · exact h i (by omega)
theorem same_all {xs ys : List Int} {k : Nat} (hl : ¬ (xs.length : Int) ≠ ys.length) (hk : k ≤ xs.length ∧ ∀ i, i < k → xs.getD i 0 = ys.getD i 0) (hc : ¬ (k : Int) < xs.length) : decide (xs = ys) = true := by
  refine decide_eq_true (List.ext_getElem (by omega) fun i h1 h2 => ?_)
  have := hk.2 i (by omega)
  simpa [h1, h2] using this
theorem same_c (A A' : Option Addr) (c c' : Nat) (xs ys : List Int) (hp : List Chunk) (hx : Rds hp A (u32s xs)) (hy : Rds hp A' (u32s ys)) (hl : xs.length ≤ 9223372036854775807) :
    Does Try.prog 38 [.slice A xs.length c, .slice A' ys.length c'] hp (fun _ : Unit => True) (fun _ => .bool (decide (xs = ys))) (fun _ => hp) := by
  intro w hw
  have hne : 0 < xs.length → A ≠ none := fun h => hx.ne hw (by simpa [u32s] using h)
  have hne' : 0 < ys.length → A' ≠ none := fun h => hy.ne hw (by simpa [u32s] using h)
  refine f_enter Try.func38 rfl Try.ntmps38 rfl hw ?_
  repeat' (first
   | (refine s_is ?_; first
   | (refine s_isagain ?_; first
   | exact c_again (k + 1) ⟨by omega, same_step hk.2 (by assumption)⟩ (by omega) ⟨rfl, rfl, rfl, trivial⟩ (fun w h => h))
   | (refine s_isret ?_; first
   | exact f_ret1 rfl rfl () trivial (congrArg Value.bool (same_len (by assumption))) (fun w h => h)
   | exact f_ret1 rfl rfl () trivial (congrArg Value.bool (same_el (by assumption))) (fun w h => h)
   | exact f_ret1 rfl rfl () trivial (congrArg Value.bool (same_all (by assumption) hk (by assumption))) (fun w h => h))
   | (refine s_isw ?_; first
   | (refine s_isloop ?_; first
   | (refine c_loop (X := Nat) (fun k => k ≤ xs.length ∧ ∀ i, i < k → xs.getD i 0 = ys.getD i 0) (fun k => [(0, .slice A xs.length c), (1, .slice A' ys.length c'), (5, .int .i64 k)]) (fun _ => hp) (fun k => xs.length - k) 0 ⟨by omega, by omega⟩ ⟨rfl, rfl, rfl, trivial⟩ (fun w h => h) (fun k hk => ?_)))
   | refine c_seq ?_
   | refine c_block ?_
   | refine c_region ?_
   | refine c_mixed mixed (by kernel_rfl) ?_
   | refine c_skip ?_
   | refine c_ret ?_
   | refine c_exit ?_
   | (refine s_iscond ?_; first
   | (refine c_true rfl (by first | with_reducible rfl | with_reducible assumption | ((with_reducible refine decide_eq_true ?_); first | with_reducible rfl | with_reducible assumption | omega)) ?_)
   | (refine c_false rfl (by first | with_reducible rfl | with_reducible assumption | ((with_reducible refine decide_eq_false ?_); first | with_reducible assumption | omega)) ?_)
   | (refine c_true rfl (by first | (simp only [Bool.not_eq_true', decide_eq_false_iff_not]; omega) | (with_reducible assumption) | (rw [decide_eq_false] <;> (first | omega | with_reducible rfl)) | (rw [decide_eq_true] <;> (first | omega | with_reducible rfl)) | (simp; done) | (simp; omega)) ?_)
   | (refine c_false rfl (by first | (simp only [Bool.not_eq_false', decide_eq_true_eq]; omega) | (with_reducible assumption) | (rw [decide_eq_false] <;> (first | omega | with_reducible rfl)) | (rw [decide_eq_true] <;> (first | omega | with_reducible rfl)) | (simp; done) | (simp; omega)) ?_)
   | refine c_cond rfl (fun hc => ?_) (fun hc => ?_)
   | refine c_condb rfl (fun hc => ?_) (fun hc => ?_)))
   | refine x_then ?_
   | refine x_then_ret ?_
   | refine x_then_exit ?_
   | refine x_block _ ?_
   | refine x_block_ret _ ?_
   | refine x_block_exit _ ?_
   | refine x_block_past (by decide) ?_
   | refine z_tailm ?_)
   | (refine z_isnil ?_; first
   | refine z_list ?_
   | refine z_mixed ?_
   | refine z_mono0 ?_
   | refine z_mono1 (by decide) fun g => ?_
   | refine z_mono2 (by decide) (by decide) fun g g' => ?_
   | refine z_mixedx ?_
   | refine z_quiet ?_)
   | (refine z_isop ?_; first
   | (refine z_isbin ?_; first
   | (refine z_isb .add ?_; first
   | refine o_add rfl rfl (by omega) (by omega) (by decide) ?_
   | refine o_addw rfl rfl (by decide) ?_)
   | (refine z_isb .neq ?_; first
   | refine o_ne rfl rfl (by decide) ?_
   | refine o_bne tabOk rfl rfl rfl (by decide) ?_
   | refine o_pne tabOk rfl rfl (by decide) ?_)
   | (refine z_isb .lss ?_; first
   | refine o_lt rfl rfl (by decide) ?_))
   | (refine z_isload ?_; first
   | (refine z_ld1 tabOk rfl rfl ?_; first
   | refine o_loadm tabOk rfl rfl rfl (by repeat' (first | exact List.mem_cons_self | apply List.mem_cons_of_mem)) (by first | exact port_at _ _ _ | exact port_len _ _ _ | exact port_el _ _ _ (by omega) | exact u32s_at _ (by omega) | rfl) (by decide) ?_
   | refine o_loads tabOk (by first | assumption | exact Rds.cons _ (by assumption) | exact Rds.cons _ (Rds.cons _ (by assumption)) | exact own_rds 0 rfl | exact own_rds 1 rfl | exact own_rds 2 rfl) rfl rfl rfl (by first | exact port_at _ _ _ | exact port_len _ _ _ | exact port_el _ _ _ (by omega) | exact u32s_at _ (by omega) | rfl) (by decide) ?_)
   | (refine z_ldw tabOk rfl rfl ?_; first
   | refine o_loadwm tabOk rfl rfl rfl (by repeat' (first | exact List.mem_cons_self | apply List.mem_cons_of_mem)) (by first | rfl) (by decide) ?_))
   | (refine z_isix ?_; first
   | refine o_index0 tabOk rfl rfl rfl rfl (by omega) (by omega) (by decide) ?_
   | refine o_index1 tabOk rfl rfl rfl rfl (by omega) (by omega) (by decide) ?_
   | refine o_indexsk tabOk rfl rfl rfl rfl (by omega) (by omega) (by decide) ?_
   | refine o_indexs1 tabOk (by first | assumption | exact hne (by omega) | exact hne' (by omega) | assumption) rfl rfl rfl rfl (by omega) (by omega) (by decide) ?_)
   | (refine z_isbi ?_; first
   | refine o_len tabOk rfl rfl (by decide) ?_
   | refine o_min rfl rfl (by decide) ?_
   | refine o_max rfl rfl (by decide) ?_)
   | refine o_move rfl (by decide) ?_
   | refine o_assign rfl (by decide) ?_
   | refine o_nil rfl (by decide) ?_
   | refine o_extract rfl rfl (by decide) ?_
   | refine o_not rfl (by decide) ?_
   | refine o_field0 tabOk rfl rfl rfl rfl rfl (by decide) ?_
   | refine o_field tabOk rfl rfl rfl rfl rfl (by decide) ?_
   | refine o_conv tabOk rfl rfl rfl (by decide) ?_))

theorem clearq (b : Nat) (q : List Int) : Does Try.prog 35 [pp b] [portQ b q] (fun _ : Unit => True) (fun _ => .int .i64 q.length) (fun _ => [portQ b []]) :=
  Does.open_ (fun y _ => clear_low b y.1 y.2 q.length (by omega)) fun y _ _ _ => ⟨(), trivial, rfl, fun B w h => h.hide (fun _ => 0, 0) (Ring.nil _) rfl⟩
theorem ringTo_eq {r : Nat → Int} {a : Int} {q : List Int} (h : Ring r a q) : ringTo r a q.length = u32s q := by
  unfold ringTo u32s
  apply List.ext_getElem (by simp)
  intro i h1 h2
  simp at h1
  have := h.el i h1
  simp [this, h1]
theorem allq (b : Nat) (q : List Int) : Does Try.prog 39 [pp b] [portQ b q] (fun _ : Option Addr × Nat => True) (fun p => .slice p.1 q.length p.2) (fun p => [own p.1 p.2 38 1 q.length (u32s q), portQ b q]) :=
  Does.open_ (fun y hy => all_low b y.1 y.2 q.length hy.lo hy.hi hy.len) fun y hy x _ => ⟨x, trivial, rfl, fun B w h => by
    rw [ringTo_eq hy] at h
    exact ((h.front 1 rfl).hide y hy rfl).front 1 rfl⟩
end Go.Proofs.Ytjejnlfbonpfaaa
