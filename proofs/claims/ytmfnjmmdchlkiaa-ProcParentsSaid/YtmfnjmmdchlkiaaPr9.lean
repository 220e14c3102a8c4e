/-
One deed, done by both tables.
-/
import Derived.Test.YtmfnjmmdchlkiaaPr8
import Derived.Test.YtmfnjmmdchlkiaaOpen
namespace Go.Proofs.Ytmfnjmmdchlkiaa
set_option linter.unusedVariables false
set_option linter.unusedSimpArgs false
open Eng
/-- A table as it may be: nothing is told of a free place. -/
structure Ok2 (e : Tb) : Prop where
  s : ∀ j, (e j).s = 0 ∨ (e j).s = 1 ∨ (e j).s = 2
  z : e 0 = Pe.zero
  f : ∀ j, (e j).s = 0 → e j = Pe.zero
theorem Ok2.ok {e : Tb} (h : Ok2 e) : Ok e := ⟨h.s, by rw [h.z]; rfl⟩
theorem Ok2.upd {e : Tb} (h : Ok2 e) {k : Nat} {x : Pe} (hx : (x.s = 1 ∨ x.s = 2) ∧ 1 ≤ k ∨ x = Pe.zero) : Ok2 (upd e k x) := by
  have hz : Pe.zero.s = 0 := rfl
  refine ⟨fun j => ?_, ?_, fun j => ?_⟩
  · unfold Eng.upd
    split
    · rcases hx with hx | hx
      · exact .inr hx.1
      · rw [hx]; exact .inl rfl
    · exact h.s j
  · unfold Eng.upd
    split
    · rcases hx with hx | hx
      · omega
      · exact hx
    · exact h.z
  · unfold Eng.upd
    split
    · rcases hx with hx | hx
      · intro h0; omega
      · intro _; exact hx
    · exact h.f j
theorem ok2_first : Ok2 first := by
  have h0 : Ok2 Tb.zero := ⟨fun _ => .inl rfl, rfl, fun _ _ => rfl⟩
  exact h0.upd (.inl ⟨.inl rfl, Nat.le_refl _⟩)
theorem Ok2.pos {e : Tb} (h : Ok2 e) {k : Nat} (hs : (e k).s ≠ 0) : 1 ≤ k := by
  rcases Nat.eq_zero_or_pos k with h0 | h0
  · subst h0; rw [h.z] at hs; exact absurd rfl hs
  · exact h0
theorem Ok2.step {e : Tb} (h : Ok2 e) (i : Int) (k : Nat) : Ok2 (stepX e i k) := by
  unfold stepX
  split
  · rename_i h1
    have h2 : Ok2 (reP e k) := h.upd (.inl ⟨by have := h.s k; show (e k).s = 1 ∨ (e k).s = 2; omega, h.pos h1.1⟩)
    split
    · exact h2.upd (.inr rfl)
    · exact h2
  · exact h
theorem Ok2.loop {e : Tb} (h : Ok2 e) (i : Int) : ∀ k, Ok2 (loopX e i k)
  | 0 => h
  | k + 1 => (Ok2.loop h i k).step i k
theorem Ok2.exit {e : Tb} (h : Ok2 e) (i u : Int) : Ok2 (exit e i u).e := by
  unfold Proofs.Ytmfnjmmdchlkiaa.exit
  split
  · rename_i hi
    obtain ⟨i1, i7, _⟩ := in_iff.1 hi
    have h1 : Ok2 (doneP e i.toNat u) := h.upd (.inl ⟨.inr rfl, by omega⟩)
    split
    · exact (h1.loop i 8).upd (.inr rfl)
    · exact h1.loop i 8
  · exact h
theorem Ok2.wait {e : Tb} (h : Ok2 e) (i : Int) : Ok2 (wait e i).e := by
  unfold Proofs.Ytmfnjmmdchlkiaa.wait
  split
  · split
    · exact h.upd (.inr rfl)
    · exact h
  · exact h
/-- A deed. -/
structure Dd where
  k : Int
  n : Int
  u : Int
def Dd.cs (d : Dd) : List Value := [.int .i64 d.k, .int .i64 d.n, .int .u32 d.u]
theorem dd_len (d : Dd) : d.cs.length = 3 := rfl
theorem dd_one (d : Dd) : d.cs.all (·.oneCell') = true := rfl
theorem dd_k (d : Dd) : d.cs[0]? = some (.int .i64 d.k) := rfl
theorem dd_n (d : Dd) : d.cs[1]? = some (.int .i64 d.n) := rfl
theorem dd_u (d : Dd) : d.cs[2]? = some (.int .u32 d.u) := rfl
theorem dd_at (D : List Dd) {i : Nat} (d : Dd) (h : D[i]? = some d) : ∀ (j : Nat) u, d.cs[j]? = some u → (D.flatMap Dd.cs)[i * 3 + j]? = some u := fun j u hu => by
  have hj : j < 3 := (List.getElem?_eq_some_iff.1 hu).1
  rw [flat_get Dd.cs 3 dd_len D i j d h hj]; exact hu
theorem dd_open {W : World} {r : List Value} (h : Is W (.struct [.int .i64, .int .i64, .int .u32]) r) : ∃ d : Dd, r = d.cs ∧ True := by
  obtain ⟨x, y, z, rfl, h0, h1, h2⟩ := h.struct3
  obtain ⟨k, rfl, hk⟩ := h0.int_inv
  obtain ⟨n, rfl, hn⟩ := h1.int_inv
  obtain ⟨m, rfl, hm⟩ := h2.int_inv
  exact ⟨⟨k, n, m⟩, rfl, trivial⟩
/-- What a deed makes of a table. -/
def deed (e : Tb) (d : Dd) : Tb := if d.k = 0 ∨ d.k = 1 ∨ d.k = 2 ∨ d.k = 3 then (fork e d.n).e else if d.k = 4 ∨ d.k = 5 then (exit e d.n d.u).e else if d.k = 6 ∨ d.k = 7 then (wait e d.n).e else e
theorem deed_f {e : Tb} {d : Dd} (h : d.k = 0 ∨ d.k = 1 ∨ d.k = 2 ∨ d.k = 3) : deed e d = (fork e d.n).e := by unfold deed; rw [if_pos h]
theorem deed_x {e : Tb} {d : Dd} (h : d.k = 4 ∨ d.k = 5) : deed e d = (exit e d.n d.u).e := by unfold deed; rw [if_neg (by omega), if_pos h]
theorem deed_w {e : Tb} {d : Dd} (h : d.k = 6 ∨ d.k = 7) : deed e d = (wait e d.n).e := by unfold deed; rw [if_neg (by omega), if_neg (by omega), if_pos h]
theorem deed_o {e : Tb} {d : Dd} (h : ¬ (d.k = 0 ∨ d.k = 1 ∨ d.k = 2 ∨ d.k = 3)) (h2 : ¬ (d.k = 4 ∨ d.k = 5)) (h3 : ¬ (d.k = 6 ∨ d.k = 7)) : deed e d = e := by unfold deed; rw [if_neg h, if_neg h2, if_neg h3]
theorem lf_ge {e : Tb} {k : Nat} : ∀ n i, lf e i n = some k → i ≤ k ∧ k < i + n
  | 0, i, h => by simp [lf] at h
  | n + 1, i, h => by
    simp only [lf] at h
    split at h
    · cases h; omega
    · have := lf_ge n (i + 1) h; omega
theorem Ok2.fork {e : Tb} (h : Ok2 e) (i : Int) : Ok2 (fork e i).e := by
  by_cases hi : inB e i = true
  · obtain ⟨i1, i7, _⟩ := in_iff.1 hi
    unfold Proofs.Ytmfnjmmdchlkiaa.fork
    rw [if_pos hi]
    split
    · rename_i k hk
      refine h.upd (.inl ⟨.inl rfl, ?_⟩)
      exact (lf_ge 7 1 hk).1
    · exact h
  · unfold Proofs.Ytmfnjmmdchlkiaa.fork
    rw [if_neg hi]; exact h
theorem Ok2.deed {e : Tb} (h : Ok2 e) (d : Dd) : Ok2 (deed e d) := by
  unfold Proofs.Ytmfnjmmdchlkiaa.deed
  split
  · exact h.fork _
  · split
    · exact h.exit _ _
    · split
      · exact h.wait _
      · exact h
attribute [local irreducible] Eng.Hold Eng.Z Eng.S Eng.cells Eng.old Eng.own tcs Pe.cs inB
attribute [local irreducible] i64p dnB stV paB paV lvN first fork exit wait deed Dd.cs
set_option maxHeartbeats 4000000 in
theorem does_c (e : Tb) (hok2 : Ok2 e) (a b : Nat) (d : Dd) : Does Try.prog 27 [.pointer (some ⟨a, 0, none⟩), .pointer (some ⟨b, 0, none⟩), .agg d.cs.toArray] [cells a 105 (tcs e), cells b 69 (tcs e)] (fun _ : Unit => True) (fun _ => .bool true) (fun _ => [cells a 105 (tcs (deed e d)), cells b 69 (tcs (deed e d))]) := by
  intro w hw
  have hok := hok2.ok
  refine f_enter Try.func27 rfl Try.ntmps27 rfl hw ?_
  by_cases hf : d.k = 0 ∨ d.k = 1 ∨ d.k = 2 ∨ d.k = 3
  · rw [deed_f hf]
    repeat' (first
     | (refine s_is ?_; first
     | (refine s_isret ?_; first
     | exact f_r1 rfl (res_t rfl) () trivial (by simp) (fun w h => ((h.sel 3 [1, 0, 2] (by decide)).mask [true, true, false])))
     | (refine s_isw ?_; first
     | refine c_seq ?_
     | refine c_block ?_
     | refine c_region ?_
     | refine c_mixed mixed (by kernel_rfl) ?_
     | refine c_skip ?_
     | refine c_ret ?_
     | refine c_exit ?_
     | (refine s_iscond ?_; first
     | (refine c_true rfl (by first | with_reducible rfl | with_reducible assumption | ((with_reducible refine decide_eq_true ?_); first | with_reducible rfl | with_reducible assumption | omega)) ?_)
     | (refine c_false rfl (by first | with_reducible rfl | with_reducible assumption | ((with_reducible refine decide_eq_false ?_); first | with_reducible assumption | omega)) ?_)
     | (refine c_true rfl (by first | (simp only [Bool.not_eq_true', decide_eq_false_iff_not]; omega) | (with_reducible assumption) | (rw [decide_eq_false] <;> (first | omega | with_reducible rfl)) | (rw [decide_eq_true] <;> (first | omega | with_reducible rfl)) | (simp; done) | (simp; omega)) ?_)
     | (refine c_false rfl (by first | (simp only [Bool.not_eq_false', decide_eq_true_eq]; omega) | (with_reducible assumption) | (rw [decide_eq_false] <;> (first | omega | with_reducible rfl)) | (rw [decide_eq_true] <;> (first | omega | with_reducible rfl)) | (simp; done) | (simp; omega)) ?_)
     | refine c_cond rfl (fun hc => ?_) (fun hc => ?_)
     | refine c_condb rfl (fun hc => ?_) (fun hc => ?_)))
     | refine x_then ?_
     | refine x_then_ret ?_
     | refine x_then_exit ?_
     | refine x_block _ ?_
     | refine x_block_ret _ ?_
     | refine x_block_exit _ ?_
     | refine x_block_past (by decide) ?_
     | refine z_tailm ?_)
     | (refine z_isg1 ?_; first
     | refine z_skipu (by decide) rfl rfl ?_
     | (refine z_want1 rfl rfl (by first | with_reducible rfl | with_reducible assumption | ((with_reducible refine decide_eq_true ?_); first | with_reducible rfl | with_reducible assumption | omega)) ?_)
     | (refine z_skip1 (by decide) rfl rfl (by first | with_reducible rfl | with_reducible assumption | ((with_reducible refine decide_eq_false ?_); first | with_reducible assumption | omega)) ?_)
     | (refine z_want1 rfl rfl (by first | (simp only [Bool.not_eq_true', decide_eq_false_iff_not]; omega) | (with_reducible assumption) | (rw [decide_eq_false] <;> (first | omega | with_reducible rfl)) | (rw [decide_eq_true] <;> (first | omega | with_reducible rfl)) | (simp; done) | (simp; omega)) ?_)
     | (refine z_skip1 (by decide) rfl rfl (by first | (simp only [Bool.not_eq_false', decide_eq_true_eq]; omega) | (with_reducible assumption) | (rw [decide_eq_false] <;> (first | omega | with_reducible rfl)) | (rw [decide_eq_true] <;> (first | omega | with_reducible rfl)) | (simp; done) | (simp; omega)) ?_)
     | refine z_guard1 (by decide) rfl rfl (fun hc => ?_) (fun hc => ?_)
     | refine z_guardb (by decide) rfl rfl (fun hc => ?_) (fun hc => ?_))
     | (refine z_isnil ?_; first
     | refine z_list ?_
     | refine z_mixed ?_
     | refine z_mono0 ?_
     | refine z_mono1 (by decide) fun g => ?_
     | refine z_mono2 (by decide) (by decide) fun g g' => ?_
     | refine z_mixedx ?_
     | refine z_quiet ?_)
     | (refine z_isop ?_; first
     | refine o_indexm tabOk rfl rfl rfl rfl (by omega) (by omega) (by decide) ?_
     | refine o_build0 (t := 102) (v := .agg Pe.zero.cs.toArray) (fun _ => by kernel_rfl) (by decide) ?_
     | refine o_build0 (t := 66) (v := .agg Pe.zero.cs.toArray) (fun _ => by kernel_rfl) (by decide) ?_
     | refine o_alloca (e := 102) (vs := Pe.zero.cs) rfl (by kernel_rfl) (by decide) fun g => ?_
     | refine o_alloca (e := 66) (vs := Pe.zero.cs) rfl (by kernel_rfl) (by decide) fun g => ?_
     | refine o_boxa rfl rfl (by decide) fun g => ?_
     | (refine z_isbin ?_; first
     | (refine z_isb .eql ?_; first
     | refine o_eq rfl rfl (by decide) ?_
     | refine o_beq tabOk rfl rfl rfl (by decide) ?_
     | refine o_peq tabOk rfl rfl (by decide) ?_))
     | (refine z_isload ?_; first
     | refine o_loadp tabOk rfl rfl rfl 0 rfl (pe_len _) (tcs_el _ (by omega)) (by decide) ?_
     | refine o_loadp tabOk rfl rfl rfl 1 rfl (pe_len _) (tcs_el _ (by omega)) (by decide) ?_
     | (refine z_ld1 tabOk rfl rfl ?_; first
     | refine o_loadm tabOk rfl rfl rfl (by repeat' (first | exact List.mem_cons_self | apply List.mem_cons_of_mem)) (by first | exact dd_k _ | exact dd_n _ | exact dd_u _ | rfl) (by decide) ?_
     | refine o_loads tabOk (by first | assumption | exact Rds.cons _ (by assumption) | exact Rds.cons _ (Rds.cons _ (by assumption)) | exact own_rds 0 rfl | exact own_rds 1 rfl | exact own_rds 2 rfl) rfl rfl rfl (by first | exact dd_k _ | exact dd_n _ | exact dd_u _ | rfl) (by decide) ?_)
     | (refine z_ldw tabOk rfl rfl ?_; first
     | refine o_loadwm tabOk rfl rfl rfl (by repeat' (first | exact List.mem_cons_self | apply List.mem_cons_of_mem)) (by first | exact dd_len _ | (simp only [dd_len]) | rfl) (by decide) ?_))
     | (refine z_iscall ?_; first
     | ((refine z_iscallf 54 ?_; refine o_callr rfl Try.func54 rfl rfl rfl (in_c _ _ _ _ (by first | exact cells_rds 0 rfl | exact cells_rds 1 rfl | exact cells_rds 2 rfl)) (by decide) ?_))
     | ((refine z_iscallf 57 ?_; refine o_callr rfl Try.func57 rfl rfl rfl (ralive_c _ _ _ _ (by first | exact cells_rds 0 rfl | exact cells_rds 1 rfl | exact cells_rds 2 rfl)) (by decide) ?_))
     | ((refine z_iscallf 34 ?_; refine z_front rfl 1 rfl ?_; refine o_call Try.func34 rfl rfl rfl (fork_c _ _ _) (List.Perm.refl _) (by decide) fun _ _ => ?_))
     | ((refine z_iscallf 35 ?_; refine z_front rfl 1 rfl ?_; refine o_call Try.func35 rfl rfl rfl (exit_c _ _ _ _) (List.Perm.refl _) (by decide) fun _ _ => ?_))
     | ((refine z_iscallf 31 ?_; refine z_front rfl 1 rfl ?_; refine o_call Try.func31 rfl rfl rfl (wait_c _ _ _) (List.Perm.refl _) (by decide) fun _ _ => ?_))
     | ((refine z_iscallf 51 ?_; refine z_front rfl 2 rfl ?_; refine o_call Try.func51 rfl rfl rfl (rfork_c _ _ _) (List.Perm.refl _) (by decide) fun _ _ => ?_))
     | ((refine z_iscallf 52 ?_; refine z_front rfl 2 rfl ?_; refine o_call Try.func52 rfl rfl rfl (rexit_c _ hok _ _ _) (List.Perm.refl _) (by decide) fun _ _ => ?_))
     | ((refine z_iscallf 53 ?_; refine z_front rfl 2 rfl ?_; refine o_call Try.func53 rfl rfl rfl (rwait_c _ hok _ _) (List.Perm.refl _) (by decide) fun _ _ => ?_)))
     | (refine z_ispick ?_; first
     | (refine o_pick1 rfl (by first | with_reducible rfl | with_reducible assumption | ((with_reducible refine decide_eq_true ?_); first | with_reducible rfl | with_reducible assumption | omega)) rfl (by decide) ?_)
     | (refine o_pick0 rfl (by first | with_reducible rfl | with_reducible assumption | ((with_reducible refine decide_eq_false ?_); first | with_reducible assumption | omega)) rfl (by decide) ?_)
     | (refine o_pick1 rfl (by first | (simp only [Bool.not_eq_true', decide_eq_false_iff_not]; omega) | (with_reducible assumption) | (rw [decide_eq_false] <;> (first | omega | with_reducible rfl)) | (rw [decide_eq_true] <;> (first | omega | with_reducible rfl)) | (simp; done) | (simp; omega)) rfl (by decide) ?_)
     | (refine o_pick0 rfl (by first | (simp only [Bool.not_eq_false', decide_eq_true_eq]; omega) | (with_reducible assumption) | (rw [decide_eq_false] <;> (first | omega | with_reducible rfl)) | (rw [decide_eq_true] <;> (first | omega | with_reducible rfl)) | (simp; done) | (simp; omega)) rfl (by decide) ?_))
     | refine o_move rfl (by decide) ?_
     | refine o_assign rfl (by decide) ?_
     | refine o_nil rfl (by decide) ?_
     | refine o_extract rfl rfl (by decide) ?_
     | refine o_not rfl (by decide) ?_
     | refine o_field0 tabOk rfl rfl rfl rfl rfl (by decide) ?_
     | refine o_field tabOk rfl rfl rfl rfl rfl (by decide) ?_
     | refine o_conv tabOk rfl rfl rfl (by decide) ?_))
  · by_cases hx : d.k = 4 ∨ d.k = 5
    · rw [deed_x hx]
      repeat' (first
       | (refine s_is ?_; first
       | (refine s_isret ?_; first
       | exact f_r1 rfl (res_t rfl) () trivial (by simp) (fun w h => ((h.sel 3 [1, 0, 2] (by decide)).mask [true, true, false])))
       | (refine s_isw ?_; first
       | refine c_seq ?_
       | refine c_block ?_
       | refine c_region ?_
       | refine c_mixed mixed (by kernel_rfl) ?_
       | refine c_skip ?_
       | refine c_ret ?_
       | refine c_exit ?_
       | (refine s_iscond ?_; first
       | (refine c_true rfl (by first | with_reducible rfl | with_reducible assumption | ((with_reducible refine decide_eq_true ?_); first | with_reducible rfl | with_reducible assumption | omega)) ?_)
       | (refine c_false rfl (by first | with_reducible rfl | with_reducible assumption | ((with_reducible refine decide_eq_false ?_); first | with_reducible assumption | omega)) ?_)
       | (refine c_true rfl (by first | (simp only [Bool.not_eq_true', decide_eq_false_iff_not]; omega) | (with_reducible assumption) | (rw [decide_eq_false] <;> (first | omega | with_reducible rfl)) | (rw [decide_eq_true] <;> (first | omega | with_reducible rfl)) | (simp; done) | (simp; omega)) ?_)
       | (refine c_false rfl (by first | (simp only [Bool.not_eq_false', decide_eq_true_eq]; omega) | (with_reducible assumption) | (rw [decide_eq_false] <;> (first | omega | with_reducible rfl)) | (rw [decide_eq_true] <;> (first | omega | with_reducible rfl)) | (simp; done) | (simp; omega)) ?_)
       | refine c_cond rfl (fun hc => ?_) (fun hc => ?_)
       | refine c_condb rfl (fun hc => ?_) (fun hc => ?_)))
       | refine x_then ?_
       | refine x_then_ret ?_
       | refine x_then_exit ?_
       | refine x_block _ ?_
       | refine x_block_ret _ ?_
       | refine x_block_exit _ ?_
       | refine x_block_past (by decide) ?_
       | refine z_tailm ?_)
       | (refine z_isg1 ?_; first
       | refine z_skipu (by decide) rfl rfl ?_
       | (refine z_want1 rfl rfl (by first | with_reducible rfl | with_reducible assumption | ((with_reducible refine decide_eq_true ?_); first | with_reducible rfl | with_reducible assumption | omega)) ?_)
       | (refine z_skip1 (by decide) rfl rfl (by first | with_reducible rfl | with_reducible assumption | ((with_reducible refine decide_eq_false ?_); first | with_reducible assumption | omega)) ?_)
       | (refine z_want1 rfl rfl (by first | (simp only [Bool.not_eq_true', decide_eq_false_iff_not]; omega) | (with_reducible assumption) | (rw [decide_eq_false] <;> (first | omega | with_reducible rfl)) | (rw [decide_eq_true] <;> (first | omega | with_reducible rfl)) | (simp; done) | (simp; omega)) ?_)
       | (refine z_skip1 (by decide) rfl rfl (by first | (simp only [Bool.not_eq_false', decide_eq_true_eq]; omega) | (with_reducible assumption) | (rw [decide_eq_false] <;> (first | omega | with_reducible rfl)) | (rw [decide_eq_true] <;> (first | omega | with_reducible rfl)) | (simp; done) | (simp; omega)) ?_)
       | refine z_guard1 (by decide) rfl rfl (fun hc => ?_) (fun hc => ?_)
       | refine z_guardb (by decide) rfl rfl (fun hc => ?_) (fun hc => ?_))
       | (refine z_isnil ?_; first
       | refine z_list ?_
       | refine z_mixed ?_
       | refine z_mono0 ?_
       | refine z_mono1 (by decide) fun g => ?_
       | refine z_mono2 (by decide) (by decide) fun g g' => ?_
       | refine z_mixedx ?_
       | refine z_quiet ?_)
       | (refine z_isop ?_; first
       | refine o_indexm tabOk rfl rfl rfl rfl (by omega) (by omega) (by decide) ?_
       | refine o_build0 (t := 102) (v := .agg Pe.zero.cs.toArray) (fun _ => by kernel_rfl) (by decide) ?_
       | refine o_build0 (t := 66) (v := .agg Pe.zero.cs.toArray) (fun _ => by kernel_rfl) (by decide) ?_
       | refine o_alloca (e := 102) (vs := Pe.zero.cs) rfl (by kernel_rfl) (by decide) fun g => ?_
       | refine o_alloca (e := 66) (vs := Pe.zero.cs) rfl (by kernel_rfl) (by decide) fun g => ?_
       | refine o_boxa rfl rfl (by decide) fun g => ?_
       | (refine z_isbin ?_; first
       | (refine z_isb .eql ?_; first
       | refine o_eq rfl rfl (by decide) ?_
       | refine o_beq tabOk rfl rfl rfl (by decide) ?_
       | refine o_peq tabOk rfl rfl (by decide) ?_))
       | (refine z_isload ?_; first
       | refine o_loadp tabOk rfl rfl rfl 0 rfl (pe_len _) (tcs_el _ (by omega)) (by decide) ?_
       | refine o_loadp tabOk rfl rfl rfl 1 rfl (pe_len _) (tcs_el _ (by omega)) (by decide) ?_
       | (refine z_ld1 tabOk rfl rfl ?_; first
       | refine o_loadm tabOk rfl rfl rfl (by repeat' (first | exact List.mem_cons_self | apply List.mem_cons_of_mem)) (by first | exact dd_k _ | exact dd_n _ | exact dd_u _ | rfl) (by decide) ?_
       | refine o_loads tabOk (by first | assumption | exact Rds.cons _ (by assumption) | exact Rds.cons _ (Rds.cons _ (by assumption)) | exact own_rds 0 rfl | exact own_rds 1 rfl | exact own_rds 2 rfl) rfl rfl rfl (by first | exact dd_k _ | exact dd_n _ | exact dd_u _ | rfl) (by decide) ?_)
       | (refine z_ldw tabOk rfl rfl ?_; first
       | refine o_loadwm tabOk rfl rfl rfl (by repeat' (first | exact List.mem_cons_self | apply List.mem_cons_of_mem)) (by first | exact dd_len _ | (simp only [dd_len]) | rfl) (by decide) ?_))
       | (refine z_iscall ?_; first
       | ((refine z_iscallf 54 ?_; refine o_callr rfl Try.func54 rfl rfl rfl (in_c _ _ _ _ (by first | exact cells_rds 0 rfl | exact cells_rds 1 rfl | exact cells_rds 2 rfl)) (by decide) ?_))
       | ((refine z_iscallf 57 ?_; refine o_callr rfl Try.func57 rfl rfl rfl (ralive_c _ _ _ _ (by first | exact cells_rds 0 rfl | exact cells_rds 1 rfl | exact cells_rds 2 rfl)) (by decide) ?_))
       | ((refine z_iscallf 34 ?_; refine z_front rfl 1 rfl ?_; refine o_call Try.func34 rfl rfl rfl (fork_c _ _ _) (List.Perm.refl _) (by decide) fun _ _ => ?_))
       | ((refine z_iscallf 35 ?_; refine z_front rfl 1 rfl ?_; refine o_call Try.func35 rfl rfl rfl (exit_c _ _ _ _) (List.Perm.refl _) (by decide) fun _ _ => ?_))
       | ((refine z_iscallf 31 ?_; refine z_front rfl 1 rfl ?_; refine o_call Try.func31 rfl rfl rfl (wait_c _ _ _) (List.Perm.refl _) (by decide) fun _ _ => ?_))
       | ((refine z_iscallf 51 ?_; refine z_front rfl 2 rfl ?_; refine o_call Try.func51 rfl rfl rfl (rfork_c _ _ _) (List.Perm.refl _) (by decide) fun _ _ => ?_))
       | ((refine z_iscallf 52 ?_; refine z_front rfl 2 rfl ?_; refine o_call Try.func52 rfl rfl rfl (rexit_c _ hok _ _ _) (List.Perm.refl _) (by decide) fun _ _ => ?_))
       | ((refine z_iscallf 53 ?_; refine z_front rfl 2 rfl ?_; refine o_call Try.func53 rfl rfl rfl (rwait_c _ hok _ _) (List.Perm.refl _) (by decide) fun _ _ => ?_)))
       | (refine z_ispick ?_; first
       | (refine o_pick1 rfl (by first | with_reducible rfl | with_reducible assumption | ((with_reducible refine decide_eq_true ?_); first | with_reducible rfl | with_reducible assumption | omega)) rfl (by decide) ?_)
       | (refine o_pick0 rfl (by first | with_reducible rfl | with_reducible assumption | ((with_reducible refine decide_eq_false ?_); first | with_reducible assumption | omega)) rfl (by decide) ?_)
       | (refine o_pick1 rfl (by first | (simp only [Bool.not_eq_true', decide_eq_false_iff_not]; omega) | (with_reducible assumption) | (rw [decide_eq_false] <;> (first | omega | with_reducible rfl)) | (rw [decide_eq_true] <;> (first | omega | with_reducible rfl)) | (simp; done) | (simp; omega)) rfl (by decide) ?_)
       | (refine o_pick0 rfl (by first | (simp only [Bool.not_eq_false', decide_eq_true_eq]; omega) | (with_reducible assumption) | (rw [decide_eq_false] <;> (first | omega | with_reducible rfl)) | (rw [decide_eq_true] <;> (first | omega | with_reducible rfl)) | (simp; done) | (simp; omega)) rfl (by decide) ?_))
       | refine o_move rfl (by decide) ?_
       | refine o_assign rfl (by decide) ?_
       | refine o_nil rfl (by decide) ?_
       | refine o_extract rfl rfl (by decide) ?_
       | refine o_not rfl (by decide) ?_
       | refine o_field0 tabOk rfl rfl rfl rfl rfl (by decide) ?_
       | refine o_field tabOk rfl rfl rfl rfl rfl (by decide) ?_
       | refine o_conv tabOk rfl rfl rfl (by decide) ?_))
    · by_cases hwt : d.k = 6 ∨ d.k = 7
      · rw [deed_w hwt]
        repeat' (first
         | (refine s_is ?_; first
         | (refine s_isret ?_; first
         | exact f_r1 rfl (res_t rfl) () trivial (by simp) (fun w h => ((h.sel 3 [1, 0, 2] (by decide)).mask [true, true, false])))
         | (refine s_isw ?_; first
         | refine c_seq ?_
         | refine c_block ?_
         | refine c_region ?_
         | refine c_mixed mixed (by kernel_rfl) ?_
         | refine c_skip ?_
         | refine c_ret ?_
         | refine c_exit ?_
         | (refine s_iscond ?_; first
         | (refine c_true rfl (by first | with_reducible rfl | with_reducible assumption | ((with_reducible refine decide_eq_true ?_); first | with_reducible rfl | with_reducible assumption | omega)) ?_)
         | (refine c_false rfl (by first | with_reducible rfl | with_reducible assumption | ((with_reducible refine decide_eq_false ?_); first | with_reducible assumption | omega)) ?_)
         | (refine c_true rfl (by first | (simp only [Bool.not_eq_true', decide_eq_false_iff_not]; omega) | (with_reducible assumption) | (rw [decide_eq_false] <;> (first | omega | with_reducible rfl)) | (rw [decide_eq_true] <;> (first | omega | with_reducible rfl)) | (simp; done) | (simp; omega)) ?_)
         | (refine c_false rfl (by first | (simp only [Bool.not_eq_false', decide_eq_true_eq]; omega) | (with_reducible assumption) | (rw [decide_eq_false] <;> (first | omega | with_reducible rfl)) | (rw [decide_eq_true] <;> (first | omega | with_reducible rfl)) | (simp; done) | (simp; omega)) ?_)
         | refine c_cond rfl (fun hc => ?_) (fun hc => ?_)
         | refine c_condb rfl (fun hc => ?_) (fun hc => ?_)))
         | refine x_then ?_
         | refine x_then_ret ?_
         | refine x_then_exit ?_
         | refine x_block _ ?_
         | refine x_block_ret _ ?_
         | refine x_block_exit _ ?_
         | refine x_block_past (by decide) ?_
         | refine z_tailm ?_)
         | (refine z_isg1 ?_; first
         | refine z_skipu (by decide) rfl rfl ?_
         | (refine z_want1 rfl rfl (by first | with_reducible rfl | with_reducible assumption | ((with_reducible refine decide_eq_true ?_); first | with_reducible rfl | with_reducible assumption | omega)) ?_)
         | (refine z_skip1 (by decide) rfl rfl (by first | with_reducible rfl | with_reducible assumption | ((with_reducible refine decide_eq_false ?_); first | with_reducible assumption | omega)) ?_)
         | (refine z_want1 rfl rfl (by first | (simp only [Bool.not_eq_true', decide_eq_false_iff_not]; omega) | (with_reducible assumption) | (rw [decide_eq_false] <;> (first | omega | with_reducible rfl)) | (rw [decide_eq_true] <;> (first | omega | with_reducible rfl)) | (simp; done) | (simp; omega)) ?_)
         | (refine z_skip1 (by decide) rfl rfl (by first | (simp only [Bool.not_eq_false', decide_eq_true_eq]; omega) | (with_reducible assumption) | (rw [decide_eq_false] <;> (first | omega | with_reducible rfl)) | (rw [decide_eq_true] <;> (first | omega | with_reducible rfl)) | (simp; done) | (simp; omega)) ?_)
         | refine z_guard1 (by decide) rfl rfl (fun hc => ?_) (fun hc => ?_)
         | refine z_guardb (by decide) rfl rfl (fun hc => ?_) (fun hc => ?_))
         | (refine z_isnil ?_; first
         | refine z_list ?_
         | refine z_mixed ?_
         | refine z_mono0 ?_
         | refine z_mono1 (by decide) fun g => ?_
         | refine z_mono2 (by decide) (by decide) fun g g' => ?_
         | refine z_mixedx ?_
         | refine z_quiet ?_)
         | (refine z_isop ?_; first
         | refine o_indexm tabOk rfl rfl rfl rfl (by omega) (by omega) (by decide) ?_
         | refine o_build0 (t := 102) (v := .agg Pe.zero.cs.toArray) (fun _ => by kernel_rfl) (by decide) ?_
         | refine o_build0 (t := 66) (v := .agg Pe.zero.cs.toArray) (fun _ => by kernel_rfl) (by decide) ?_
         | refine o_alloca (e := 102) (vs := Pe.zero.cs) rfl (by kernel_rfl) (by decide) fun g => ?_
         | refine o_alloca (e := 66) (vs := Pe.zero.cs) rfl (by kernel_rfl) (by decide) fun g => ?_
         | refine o_boxa rfl rfl (by decide) fun g => ?_
         | (refine z_isbin ?_; first
         | (refine z_isb .eql ?_; first
         | refine o_eq rfl rfl (by decide) ?_
         | refine o_beq tabOk rfl rfl rfl (by decide) ?_
         | refine o_peq tabOk rfl rfl (by decide) ?_))
         | (refine z_isload ?_; first
         | refine o_loadp tabOk rfl rfl rfl 0 rfl (pe_len _) (tcs_el _ (by omega)) (by decide) ?_
         | refine o_loadp tabOk rfl rfl rfl 1 rfl (pe_len _) (tcs_el _ (by omega)) (by decide) ?_
         | (refine z_ld1 tabOk rfl rfl ?_; first
         | refine o_loadm tabOk rfl rfl rfl (by repeat' (first | exact List.mem_cons_self | apply List.mem_cons_of_mem)) (by first | exact dd_k _ | exact dd_n _ | exact dd_u _ | rfl) (by decide) ?_
         | refine o_loads tabOk (by first | assumption | exact Rds.cons _ (by assumption) | exact Rds.cons _ (Rds.cons _ (by assumption)) | exact own_rds 0 rfl | exact own_rds 1 rfl | exact own_rds 2 rfl) rfl rfl rfl (by first | exact dd_k _ | exact dd_n _ | exact dd_u _ | rfl) (by decide) ?_)
         | (refine z_ldw tabOk rfl rfl ?_; first
         | refine o_loadwm tabOk rfl rfl rfl (by repeat' (first | exact List.mem_cons_self | apply List.mem_cons_of_mem)) (by first | exact dd_len _ | (simp only [dd_len]) | rfl) (by decide) ?_))
         | (refine z_iscall ?_; first
         | ((refine z_iscallf 54 ?_; refine o_callr rfl Try.func54 rfl rfl rfl (in_c _ _ _ _ (by first | exact cells_rds 0 rfl | exact cells_rds 1 rfl | exact cells_rds 2 rfl)) (by decide) ?_))
         | ((refine z_iscallf 57 ?_; refine o_callr rfl Try.func57 rfl rfl rfl (ralive_c _ _ _ _ (by first | exact cells_rds 0 rfl | exact cells_rds 1 rfl | exact cells_rds 2 rfl)) (by decide) ?_))
         | ((refine z_iscallf 34 ?_; refine z_front rfl 1 rfl ?_; refine o_call Try.func34 rfl rfl rfl (fork_c _ _ _) (List.Perm.refl _) (by decide) fun _ _ => ?_))
         | ((refine z_iscallf 35 ?_; refine z_front rfl 1 rfl ?_; refine o_call Try.func35 rfl rfl rfl (exit_c _ _ _ _) (List.Perm.refl _) (by decide) fun _ _ => ?_))
         | ((refine z_iscallf 31 ?_; refine z_front rfl 1 rfl ?_; refine o_call Try.func31 rfl rfl rfl (wait_c _ _ _) (List.Perm.refl _) (by decide) fun _ _ => ?_))
         | ((refine z_iscallf 51 ?_; refine z_front rfl 2 rfl ?_; refine o_call Try.func51 rfl rfl rfl (rfork_c _ _ _) (List.Perm.refl _) (by decide) fun _ _ => ?_))
         | ((refine z_iscallf 52 ?_; refine z_front rfl 2 rfl ?_; refine o_call Try.func52 rfl rfl rfl (rexit_c _ hok _ _ _) (List.Perm.refl _) (by decide) fun _ _ => ?_))
         | ((refine z_iscallf 53 ?_; refine z_front rfl 2 rfl ?_; refine o_call Try.func53 rfl rfl rfl (rwait_c _ hok _ _) (List.Perm.refl _) (by decide) fun _ _ => ?_)))
         | (refine z_ispick ?_; first
         | (refine o_pick1 rfl (by first | with_reducible rfl | with_reducible assumption | ((with_reducible refine decide_eq_true ?_); first | with_reducible rfl | with_reducible assumption | omega)) rfl (by decide) ?_)
         | (refine o_pick0 rfl (by first | with_reducible rfl | with_reducible assumption | ((with_reducible refine decide_eq_false ?_); first | with_reducible assumption | omega)) rfl (by decide) ?_)
         | (refine o_pick1 rfl (by first | (simp only [Bool.not_eq_true', decide_eq_false_iff_not]; omega) | (with_reducible assumption) | (rw [decide_eq_false] <;> (first | omega | with_reducible rfl)) | (rw [decide_eq_true] <;> (first | omega | with_reducible rfl)) | (simp; done) | (simp; omega)) rfl (by decide) ?_)
         | (refine o_pick0 rfl (by first | (simp only [Bool.not_eq_false', decide_eq_true_eq]; omega) | (with_reducible assumption) | (rw [decide_eq_false] <;> (first | omega | with_reducible rfl)) | (rw [decide_eq_true] <;> (first | omega | with_reducible rfl)) | (simp; done) | (simp; omega)) rfl (by decide) ?_))
         | refine o_move rfl (by decide) ?_
         | refine o_assign rfl (by decide) ?_
         | refine o_nil rfl (by decide) ?_
         | refine o_extract rfl rfl (by decide) ?_
         | refine o_not rfl (by decide) ?_
         | refine o_field0 tabOk rfl rfl rfl rfl rfl (by decide) ?_
         | refine o_field tabOk rfl rfl rfl rfl rfl (by decide) ?_
         | refine o_conv tabOk rfl rfl rfl (by decide) ?_))
      · rw [deed_o hf hx hwt]
        repeat' (first
         | (refine s_is ?_; first
         | (refine s_isret ?_; first
         | exact f_r1 rfl (res_t rfl) () trivial rfl (fun w h => ((h.sel 3 [1, 2, 0] (by decide)).mask [true, true, false])))
         | (refine s_isw ?_; first
         | refine c_seq ?_
         | refine c_block ?_
         | refine c_region ?_
         | refine c_mixed mixed (by kernel_rfl) ?_
         | refine c_skip ?_
         | refine c_ret ?_
         | refine c_exit ?_
         | (refine s_iscond ?_; first
         | (refine c_true rfl (by first | with_reducible rfl | with_reducible assumption | ((with_reducible refine decide_eq_true ?_); first | with_reducible rfl | with_reducible assumption | omega)) ?_)
         | (refine c_false rfl (by first | with_reducible rfl | with_reducible assumption | ((with_reducible refine decide_eq_false ?_); first | with_reducible assumption | omega)) ?_)
         | (refine c_true rfl (by first | (simp only [Bool.not_eq_true', decide_eq_false_iff_not]; omega) | (with_reducible assumption) | (rw [decide_eq_false] <;> (first | omega | with_reducible rfl)) | (rw [decide_eq_true] <;> (first | omega | with_reducible rfl)) | (simp; done) | (simp; omega)) ?_)
         | (refine c_false rfl (by first | (simp only [Bool.not_eq_false', decide_eq_true_eq]; omega) | (with_reducible assumption) | (rw [decide_eq_false] <;> (first | omega | with_reducible rfl)) | (rw [decide_eq_true] <;> (first | omega | with_reducible rfl)) | (simp; done) | (simp; omega)) ?_)
         | refine c_cond rfl (fun hc => ?_) (fun hc => ?_)
         | refine c_condb rfl (fun hc => ?_) (fun hc => ?_)))
         | refine x_then ?_
         | refine x_then_ret ?_
         | refine x_then_exit ?_
         | refine x_block _ ?_
         | refine x_block_ret _ ?_
         | refine x_block_exit _ ?_
         | refine x_block_past (by decide) ?_
         | refine z_tailm ?_)
         | (refine z_isg1 ?_; first
         | refine z_skipu (by decide) rfl rfl ?_
         | (refine z_want1 rfl rfl (by first | with_reducible rfl | with_reducible assumption | ((with_reducible refine decide_eq_true ?_); first | with_reducible rfl | with_reducible assumption | omega)) ?_)
         | (refine z_skip1 (by decide) rfl rfl (by first | with_reducible rfl | with_reducible assumption | ((with_reducible refine decide_eq_false ?_); first | with_reducible assumption | omega)) ?_)
         | (refine z_want1 rfl rfl (by first | (simp only [Bool.not_eq_true', decide_eq_false_iff_not]; omega) | (with_reducible assumption) | (rw [decide_eq_false] <;> (first | omega | with_reducible rfl)) | (rw [decide_eq_true] <;> (first | omega | with_reducible rfl)) | (simp; done) | (simp; omega)) ?_)
         | (refine z_skip1 (by decide) rfl rfl (by first | (simp only [Bool.not_eq_false', decide_eq_true_eq]; omega) | (with_reducible assumption) | (rw [decide_eq_false] <;> (first | omega | with_reducible rfl)) | (rw [decide_eq_true] <;> (first | omega | with_reducible rfl)) | (simp; done) | (simp; omega)) ?_)
         | refine z_guard1 (by decide) rfl rfl (fun hc => ?_) (fun hc => ?_)
         | refine z_guardb (by decide) rfl rfl (fun hc => ?_) (fun hc => ?_))
         | (refine z_isnil ?_; first
         | refine z_list ?_
         | refine z_mixed ?_
         | refine z_mono0 ?_
         | refine z_mono1 (by decide) fun g => ?_
         | refine z_mono2 (by decide) (by decide) fun g g' => ?_
         | refine z_mixedx ?_
         | refine z_quiet ?_)
         | (refine z_isop ?_; first
         | refine o_indexm tabOk rfl rfl rfl rfl (by omega) (by omega) (by decide) ?_
         | refine o_build0 (t := 102) (v := .agg Pe.zero.cs.toArray) (fun _ => by kernel_rfl) (by decide) ?_
         | refine o_build0 (t := 66) (v := .agg Pe.zero.cs.toArray) (fun _ => by kernel_rfl) (by decide) ?_
         | refine o_alloca (e := 102) (vs := Pe.zero.cs) rfl (by kernel_rfl) (by decide) fun g => ?_
         | refine o_alloca (e := 66) (vs := Pe.zero.cs) rfl (by kernel_rfl) (by decide) fun g => ?_
         | refine o_boxa rfl rfl (by decide) fun g => ?_
         | (refine z_isbin ?_; first
         | (refine z_isb .eql ?_; first
         | refine o_eq rfl rfl (by decide) ?_
         | refine o_beq tabOk rfl rfl rfl (by decide) ?_
         | refine o_peq tabOk rfl rfl (by decide) ?_))
         | (refine z_isload ?_; first
         | refine o_loadp tabOk rfl rfl rfl 0 rfl (pe_len _) (tcs_el _ (by omega)) (by decide) ?_
         | refine o_loadp tabOk rfl rfl rfl 1 rfl (pe_len _) (tcs_el _ (by omega)) (by decide) ?_
         | (refine z_ld1 tabOk rfl rfl ?_; first
         | refine o_loadm tabOk rfl rfl rfl (by repeat' (first | exact List.mem_cons_self | apply List.mem_cons_of_mem)) (by first | exact dd_k _ | exact dd_n _ | exact dd_u _ | rfl) (by decide) ?_
         | refine o_loads tabOk (by first | assumption | exact Rds.cons _ (by assumption) | exact Rds.cons _ (Rds.cons _ (by assumption)) | exact own_rds 0 rfl | exact own_rds 1 rfl | exact own_rds 2 rfl) rfl rfl rfl (by first | exact dd_k _ | exact dd_n _ | exact dd_u _ | rfl) (by decide) ?_)
         | (refine z_ldw tabOk rfl rfl ?_; first
         | refine o_loadwm tabOk rfl rfl rfl (by repeat' (first | exact List.mem_cons_self | apply List.mem_cons_of_mem)) (by first | exact dd_len _ | (simp only [dd_len]) | rfl) (by decide) ?_))
         | (refine z_iscall ?_; first
         | ((refine z_iscallf 54 ?_; refine o_callr rfl Try.func54 rfl rfl rfl (in_c _ _ _ _ (by first | exact cells_rds 0 rfl | exact cells_rds 1 rfl | exact cells_rds 2 rfl)) (by decide) ?_))
         | ((refine z_iscallf 57 ?_; refine o_callr rfl Try.func57 rfl rfl rfl (ralive_c _ _ _ _ (by first | exact cells_rds 0 rfl | exact cells_rds 1 rfl | exact cells_rds 2 rfl)) (by decide) ?_))
         | ((refine z_iscallf 34 ?_; refine z_front rfl 1 rfl ?_; refine o_call Try.func34 rfl rfl rfl (fork_c _ _ _) (List.Perm.refl _) (by decide) fun _ _ => ?_))
         | ((refine z_iscallf 35 ?_; refine z_front rfl 1 rfl ?_; refine o_call Try.func35 rfl rfl rfl (exit_c _ _ _ _) (List.Perm.refl _) (by decide) fun _ _ => ?_))
         | ((refine z_iscallf 31 ?_; refine z_front rfl 1 rfl ?_; refine o_call Try.func31 rfl rfl rfl (wait_c _ _ _) (List.Perm.refl _) (by decide) fun _ _ => ?_))
         | ((refine z_iscallf 51 ?_; refine z_front rfl 2 rfl ?_; refine o_call Try.func51 rfl rfl rfl (rfork_c _ _ _) (List.Perm.refl _) (by decide) fun _ _ => ?_))
         | ((refine z_iscallf 52 ?_; refine z_front rfl 2 rfl ?_; refine o_call Try.func52 rfl rfl rfl (rexit_c _ hok _ _ _) (List.Perm.refl _) (by decide) fun _ _ => ?_))
         | ((refine z_iscallf 53 ?_; refine z_front rfl 2 rfl ?_; refine o_call Try.func53 rfl rfl rfl (rwait_c _ hok _ _) (List.Perm.refl _) (by decide) fun _ _ => ?_)))
         | (refine z_ispick ?_; first
         | (refine o_pick1 rfl (by first | with_reducible rfl | with_reducible assumption | ((with_reducible refine decide_eq_true ?_); first | with_reducible rfl | with_reducible assumption | omega)) rfl (by decide) ?_)
         | (refine o_pick0 rfl (by first | with_reducible rfl | with_reducible assumption | ((with_reducible refine decide_eq_false ?_); first | with_reducible assumption | omega)) rfl (by decide) ?_)
         | (refine o_pick1 rfl (by first | (simp only [Bool.not_eq_true', decide_eq_false_iff_not]; omega) | (with_reducible assumption) | (rw [decide_eq_false] <;> (first | omega | with_reducible rfl)) | (rw [decide_eq_true] <;> (first | omega | with_reducible rfl)) | (simp; done) | (simp; omega)) rfl (by decide) ?_)
         | (refine o_pick0 rfl (by first | (simp only [Bool.not_eq_false', decide_eq_true_eq]; omega) | (with_reducible assumption) | (rw [decide_eq_false] <;> (first | omega | with_reducible rfl)) | (rw [decide_eq_true] <;> (first | omega | with_reducible rfl)) | (simp; done) | (simp; omega)) rfl (by decide) ?_))
         | refine o_move rfl (by decide) ?_
         | refine o_assign rfl (by decide) ?_
         | refine o_nil rfl (by decide) ?_
         | refine o_extract rfl rfl (by decide) ?_
         | refine o_not rfl (by decide) ?_
         | refine o_field0 tabOk rfl rfl rfl rfl rfl (by decide) ?_
         | refine o_field tabOk rfl rfl rfl rfl rfl (by decide) ?_
         | refine o_conv tabOk rfl rfl rfl (by decide) ?_))
end Go.Proofs.Ytmfnjmmdchlkiaa
