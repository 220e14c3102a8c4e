/-
Bind: two pairs compared.
-/
import Derived.Test.YtnckabgaichkkaaBi2
import Derived.Deep.Draws
import Derived.Sort.Grow
namespace Go.Proofs.Ytnckabgaichkkaa
set_option linter.unusedVariables false
set_option linter.unusedSimpArgs false
open Eng
/-- How two numbers compare. -/
def cmpI (x y : Int) : Int := if x < y then -1 else if y < x then 1 else 0
theorem cmpI_lt {x y : Int} (h : x < y) : cmpI x y = -1 := if_pos h
theorem cmpI_gt {x y : Int} (h : y < x) : cmpI x y = 1 := by unfold cmpI; rw [if_neg (by omega), if_pos h]
theorem cmpI_eq (x : Int) : cmpI x x = 0 := by unfold cmpI; rw [if_neg (Int.lt_irrefl x), if_neg (Int.lt_irrefl x)]
/-- How two pairs compare. -/
def cfL (x y : Int × Int) : Int := if cmpI x.1 y.1 = 0 then cmpI x.2 y.2 else cmpI x.1 y.1
attribute [local irreducible] Eng.Hold Eng.Z Eng.S Eng.cells Eng.old Eng.own Eng.mpc Eng.rgc Eng.onM Eng.fM Eng.wM Eng.upM Eng.delM
theorem isNaN_c (x : Int) : Pf Try.prog 80 [.int .i64 x] (.bool false) := by
  intro w hw
  refine f_enter Try.func80 rfl Try.ntmps80 rfl hw ?_
  repeat' (first
   | (refine s_is ?_; first
   | (refine s_isret ?_; first
   | exact p_r1 rfl (res_t (congrArg some (congrArg Value.bool (decide_eq_false fun h => h rfl)))))
   | (refine s_isw ?_; first
   | refine c_seq ?_
   | refine c_region ?_
   | refine c_ret ?_))
   | (refine z_isnil ?_; first
   | refine z_list ?_)
   | (refine z_isop ?_; first
   | (refine z_isbin ?_; first
   | (refine z_isb .neq ?_; first
   | refine o_ne rfl rfl (by decide) ?_))
   | refine o_move rfl (by decide) ?_
   | refine o_assign rfl (by decide) ?_))
theorem cmpInt_c (x y : Int) : Pf Try.prog 59 [.int .i64 x, .int .i64 y] (.int .i64 (cmpI x y)) := by
  intro w hw
  refine f_enter Try.func59 rfl Try.ntmps59 rfl hw ?_
  by_cases h1 : x < y
  · rw [cmpI_lt h1]
    repeat' (first
     | (refine s_is ?_; first
     | (refine s_isret ?_; first
     | exact p_r1 rfl (res_t rfl))
     | (refine s_isw ?_; first
     | refine c_seq ?_
     | refine c_region ?_
     | refine c_skip ?_
     | refine c_ret ?_
     | (refine s_iscond ?_; first
     | (refine c_true rfl (by first | with_reducible rfl | with_reducible assumption | ((with_reducible refine decide_eq_true ?_); first | with_reducible rfl | with_reducible assumption | omega)) ?_)
     | (refine c_false rfl (by first | with_reducible rfl | with_reducible assumption | ((with_reducible refine decide_eq_false ?_); first | with_reducible assumption | omega)) ?_)))
     | refine x_then_ret ?_)
     | (refine z_isnil ?_; first
     | refine z_list ?_)
     | (refine z_isop ?_; first
     | (refine z_isbin ?_; first
     | (refine z_isb .lss ?_; first
     | refine o_lt rfl rfl (by decide) ?_))
     | (refine z_iscall ?_; first
     | ((refine z_iscallf 80 ?_; refine o_fn rfl Try.func80 rfl rfl rfl (isNaN_c _) (by decide) ?_)))
     | refine o_move rfl (by decide) ?_
     | refine o_assign rfl (by decide) ?_))
  · by_cases h2 : y < x
    · rw [cmpI_gt h2]
      repeat' (first
       | (refine s_is ?_; first
       | (refine s_isret ?_; first
       | exact p_r1 rfl (res_t rfl))
       | (refine s_isw ?_; first
       | refine c_seq ?_
       | refine c_region ?_
       | refine c_skip ?_
       | refine c_ret ?_
       | (refine s_iscond ?_; first
       | (refine c_true rfl (by first | with_reducible rfl | with_reducible assumption | ((with_reducible refine decide_eq_true ?_); first | with_reducible rfl | with_reducible assumption | omega)) ?_)
       | (refine c_false rfl (by first | with_reducible rfl | with_reducible assumption | ((with_reducible refine decide_eq_false ?_); first | with_reducible assumption | omega)) ?_)))
       | refine x_then_ret ?_)
       | (refine z_isnil ?_; first
       | refine z_list ?_)
       | (refine z_isop ?_; first
       | (refine z_isbin ?_; first
       | (refine z_isb .lss ?_; first
       | refine o_lt rfl rfl (by decide) ?_)
       | (refine z_isb .gtr ?_; first
       | refine o_gt rfl rfl (by decide) ?_))
       | (refine z_iscall ?_; first
       | ((refine z_iscallf 80 ?_; refine o_fn rfl Try.func80 rfl rfl rfl (isNaN_c _) (by decide) ?_)))
       | refine o_move rfl (by decide) ?_
       | refine o_assign rfl (by decide) ?_))
    · obtain rfl : x = y := by omega
      rw [cmpI_eq]
      repeat' (first
       | (refine s_is ?_; first
       | (refine s_isret ?_; first
       | exact p_r1 rfl (res_t rfl))
       | (refine s_isw ?_; first
       | refine c_seq ?_
       | refine c_region ?_
       | refine c_skip ?_
       | refine c_ret ?_
       | (refine s_iscond ?_; first
       | (refine c_false rfl (by first | with_reducible rfl | with_reducible assumption | ((with_reducible refine decide_eq_false ?_); first | with_reducible assumption | omega)) ?_))))
       | (refine z_isnil ?_; first
       | refine z_list ?_)
       | (refine z_isop ?_; first
       | (refine z_isbin ?_; first
       | (refine z_isb .lss ?_; first
       | refine o_lt rfl rfl (by decide) ?_)
       | (refine z_isb .gtr ?_; first
       | refine o_gt rfl rfl (by decide) ?_))
       | (refine z_iscall ?_; first
       | ((refine z_iscallf 80 ?_; refine o_fn rfl Try.func80 rfl rfl rfl (isNaN_c _) (by decide) ?_)))
       | refine o_move rfl (by decide) ?_
       | refine o_assign rfl (by decide) ?_))
def prc (x : Int × Int) : List Value := [.int .i64 x.1, .int .i64 x.2]
theorem compare_c (x y : Int × Int) (a b : Nat) (fr : List Chunk) (hA : Rds fr (some ⟨a, 0, none⟩) (prc x)) (hB : Rds fr (some ⟨b, 0, none⟩) (prc y)) : Does Try.prog 47 [.slice (some ⟨a, 0, none⟩) 2 2, .slice (some ⟨b, 0, none⟩) 2 2] fr (fun _ : Unit => True) (fun _ => .int .i64 (cfL x y)) (fun _ => fr) := by
  intro w hw
  obtain ⟨x0, x1⟩ := x
  obtain ⟨y0, y1⟩ := y
  refine f_enter Try.func47 rfl Try.ntmps47 rfl hw ?_
  repeat' (first
   | (refine s_is ?_; first
   | (refine s_isw ?_; first
   | (refine s_isloop ?_; first
   | ((refine c_loop (X := Nat) (fun i => i ≤ 2 ∧ (0 < i → x0 = y0) ∧ (1 < i → x1 = y1)) (fun i => [(0, .slice (some ⟨a, 0, none⟩) 2 2), (1, .slice (some ⟨b, 0, none⟩) 2 2), (9, .slice (some ⟨a, 0, none⟩) 2 2), (10, .int .i64 2), (11, .int .i64 i)]) (fun _ => fr) (fun i => 2 - i) 0 ⟨Nat.zero_le _, fun h => absurd h (by omega), fun h => absurd h (by omega)⟩ ⟨rfl, rfl, rfl, rfl, rfl, trivial⟩ (fun w h => h) (fun i hi => ?_); obtain ⟨hi, hi0, hi1⟩ := hi; refine hold ?_)))
   | refine c_seq ?_
   | refine c_block ?_
   | refine c_region ?_))
   | (refine z_isnil ?_; first
   | refine z_list ?_)
   | (refine z_isop ?_; first
   | (refine z_isbi ?_; first
   | refine o_len tabOk rfl rfl (by decide) ?_)
   | refine o_move rfl (by decide) ?_
   | refine o_assign rfl (by decide) ?_))
  refine Hold.go ?_
  match i, hi with
  | 0, _ =>
    have e0 := cmpI_eq x0
    by_cases h : x0 = y0
    · subst h
      repeat' (first
       | ((refine z_isdst 26 ?_; refine o_fn rfl Try.func59 rfl rfl rfl (e0 ▸ cmpInt_c x0 x0) (by decide) ?_))
       | (refine s_is ?_; first
       | (refine s_isagain ?_; first
       | exact c_again 1 ⟨by omega, fun _ => rfl, fun h => absurd h (by omega)⟩ (by omega) ⟨rfl, rfl, rfl, rfl, rfl, trivial⟩ (fun w h => h))
       | (refine s_isw ?_; first
       | refine c_seq ?_
       | refine c_block ?_
       | refine c_region ?_
       | refine c_skip ?_
       | (refine s_iscond ?_; first
       | (refine c_true rfl (by first | with_reducible rfl | with_reducible assumption | ((with_reducible refine decide_eq_true ?_); first | with_reducible rfl | with_reducible assumption | omega)) ?_)
       | (refine c_false rfl (by first | with_reducible rfl | with_reducible assumption | ((with_reducible refine decide_eq_false ?_); first | with_reducible assumption | omega)) ?_))))
       | (refine z_isnil ?_; first
       | refine z_list ?_)
       | (refine z_isop ?_; first
       | (refine z_isbin ?_; first
       | (refine z_isb .add ?_; first
       | refine o_add rfl rfl (by omega) (by omega) (by decide) ?_)
       | (refine z_isb .neq ?_; first
       | refine o_ne rfl rfl (by decide) ?_)
       | (refine z_isb .lss ?_; first
       | refine o_lt rfl rfl (by decide) ?_)
       | (refine z_isb .geq ?_; first
       | refine o_ge rfl rfl (by decide) ?_))
       | (refine z_isload ?_; first
       | refine o_loadr tabOk (by first | exact hA | exact hB | assumption) rfl rfl rfl (by first | rfl | rfl) (by decide) ?_)
       | (refine z_isix ?_; first
       | refine o_indexsk1 tabOk rfl rfl rfl rfl (by omega) (by omega) (by decide) ?_)
       | (refine z_isbi ?_; first
       | refine o_len tabOk rfl rfl (by decide) ?_)
       | refine o_move rfl (by decide) ?_
       | refine o_assign rfl (by decide) ?_))
    · have hne : cmpI x0 y0 ≠ 0 := by unfold cmpI; split; decide; split; decide; omega
      have hcf : cfL (x0, x1) (y0, y1) = cmpI x0 y0 := if_neg hne
      rw [hcf]
      repeat' (first
       | ((refine z_isdst 26 ?_; refine o_fn rfl Try.func59 rfl rfl rfl (cmpInt_c x0 y0) (by decide) ?_))
       | (refine s_is ?_; first
       | (refine s_isret ?_; first
       | exact f_r1 rfl (res_t rfl) () trivial rfl (fun w h => h))
       | (refine s_isw ?_; first
       | refine c_seq ?_
       | refine c_block ?_
       | refine c_region ?_
       | refine c_skip ?_
       | refine c_ret ?_
       | (refine s_iscond ?_; first
       | (refine c_true rfl (by first | with_reducible rfl | with_reducible assumption | ((with_reducible refine decide_eq_true ?_); first | with_reducible rfl | with_reducible assumption | omega)) ?_)
       | (refine c_false rfl (by first | with_reducible rfl | with_reducible assumption | ((with_reducible refine decide_eq_false ?_); first | with_reducible assumption | omega)) ?_)))
       | refine x_then_ret ?_
       | refine x_block_ret _ ?_)
       | (refine z_isnil ?_; first
       | refine z_list ?_)
       | (refine z_isop ?_; first
       | (refine z_isbin ?_; first
       | (refine z_isb .neq ?_; first
       | refine o_ne rfl rfl (by decide) ?_)
       | (refine z_isb .lss ?_; first
       | refine o_lt rfl rfl (by decide) ?_)
       | (refine z_isb .geq ?_; first
       | refine o_ge rfl rfl (by decide) ?_))
       | (refine z_isload ?_; first
       | refine o_loadr tabOk (by first | exact hA | exact hB | assumption) rfl rfl rfl (by first | rfl | rfl) (by decide) ?_)
       | (refine z_isix ?_; first
       | refine o_indexsk1 tabOk rfl rfl rfl rfl (by omega) (by omega) (by decide) ?_)
       | (refine z_isbi ?_; first
       | refine o_len tabOk rfl rfl (by decide) ?_)
       | refine o_move rfl (by decide) ?_
       | refine o_assign rfl (by decide) ?_))
  | 1, _ =>
    have h0 := hi0 (by omega)
    subst h0
    have e0 := cmpI_eq x1
    have hcf : cfL (x0, x1) (x0, y1) = cmpI x1 y1 := if_pos (cmpI_eq x0)
    by_cases h : x1 = y1
    · subst h
      repeat' (first
       | ((refine z_isdst 26 ?_; refine o_fn rfl Try.func59 rfl rfl rfl (e0 ▸ cmpInt_c x1 x1) (by decide) ?_))
       | (refine s_is ?_; first
       | (refine s_isagain ?_; first
       | exact c_again 2 ⟨by omega, fun _ => rfl, fun _ => rfl⟩ (by omega) ⟨rfl, rfl, rfl, rfl, rfl, trivial⟩ (fun w h => h))
       | (refine s_isw ?_; first
       | refine c_seq ?_
       | refine c_block ?_
       | refine c_region ?_
       | refine c_skip ?_
       | (refine s_iscond ?_; first
       | (refine c_true rfl (by first | with_reducible rfl | with_reducible assumption | ((with_reducible refine decide_eq_true ?_); first | with_reducible rfl | with_reducible assumption | omega)) ?_)
       | (refine c_false rfl (by first | with_reducible rfl | with_reducible assumption | ((with_reducible refine decide_eq_false ?_); first | with_reducible assumption | omega)) ?_))))
       | (refine z_isnil ?_; first
       | refine z_list ?_)
       | (refine z_isop ?_; first
       | (refine z_isbin ?_; first
       | (refine z_isb .add ?_; first
       | refine o_add rfl rfl (by omega) (by omega) (by decide) ?_)
       | (refine z_isb .neq ?_; first
       | refine o_ne rfl rfl (by decide) ?_)
       | (refine z_isb .lss ?_; first
       | refine o_lt rfl rfl (by decide) ?_)
       | (refine z_isb .geq ?_; first
       | refine o_ge rfl rfl (by decide) ?_))
       | (refine z_isload ?_; first
       | refine o_loadr tabOk (by first | exact hA | exact hB | assumption) rfl rfl rfl (by first | rfl | rfl) (by decide) ?_)
       | (refine z_isix ?_; first
       | refine o_indexsk1 tabOk rfl rfl rfl rfl (by omega) (by omega) (by decide) ?_)
       | (refine z_isbi ?_; first
       | refine o_len tabOk rfl rfl (by decide) ?_)
       | refine o_move rfl (by decide) ?_
       | refine o_assign rfl (by decide) ?_))
    · have hne : cmpI x1 y1 ≠ 0 := by unfold cmpI; split; decide; split; decide; omega
      rw [hcf]
      repeat' (first
       | ((refine z_isdst 26 ?_; refine o_fn rfl Try.func59 rfl rfl rfl (cmpInt_c x1 y1) (by decide) ?_))
       | (refine s_is ?_; first
       | (refine s_isret ?_; first
       | exact f_r1 rfl (res_t rfl) () trivial rfl (fun w h => h))
       | (refine s_isw ?_; first
       | refine c_seq ?_
       | refine c_block ?_
       | refine c_region ?_
       | refine c_skip ?_
       | refine c_ret ?_
       | (refine s_iscond ?_; first
       | (refine c_true rfl (by first | with_reducible rfl | with_reducible assumption | ((with_reducible refine decide_eq_true ?_); first | with_reducible rfl | with_reducible assumption | omega)) ?_)
       | (refine c_false rfl (by first | with_reducible rfl | with_reducible assumption | ((with_reducible refine decide_eq_false ?_); first | with_reducible assumption | omega)) ?_)))
       | refine x_then_ret ?_
       | refine x_block_ret _ ?_)
       | (refine z_isnil ?_; first
       | refine z_list ?_)
       | (refine z_isop ?_; first
       | (refine z_isbin ?_; first
       | (refine z_isb .neq ?_; first
       | refine o_ne rfl rfl (by decide) ?_)
       | (refine z_isb .lss ?_; first
       | refine o_lt rfl rfl (by decide) ?_)
       | (refine z_isb .geq ?_; first
       | refine o_ge rfl rfl (by decide) ?_))
       | (refine z_isload ?_; first
       | refine o_loadr tabOk (by first | exact hA | exact hB | assumption) rfl rfl rfl (by first | rfl | rfl) (by decide) ?_)
       | (refine z_isix ?_; first
       | refine o_indexsk1 tabOk rfl rfl rfl rfl (by omega) (by omega) (by decide) ?_)
       | (refine z_isbi ?_; first
       | refine o_len tabOk rfl rfl (by decide) ?_)
       | refine o_move rfl (by decide) ?_
       | refine o_assign rfl (by decide) ?_))
  | 2, _ =>
    have h0 := hi0 (by omega)
    have h1 := hi1 (by omega)
    subst h0 h1
    have hcf : cfL (x0, x1) (x0, x1) = 0 := (if_pos (cmpI_eq x0)).trans (cmpI_eq x1)
    rw [hcf]
    repeat' (first
     | (refine s_is ?_; first
     | (refine s_isret ?_; first
     | exact f_r1 rfl (res_t rfl) () trivial rfl (fun w h => h))
     | (refine s_isw ?_; first
     | refine c_seq ?_
     | refine c_region ?_
     | refine c_skip ?_
     | refine c_ret ?_
     | refine c_exit ?_
     | (refine s_iscond ?_; first
     | (refine c_false rfl (by first | with_reducible rfl | with_reducible assumption | ((with_reducible refine decide_eq_false ?_); first | with_reducible assumption | omega)) ?_))))
     | (refine z_isnil ?_; first
     | refine z_list ?_)
     | (refine z_isop ?_; first
     | (refine z_isbin ?_; first
     | (refine z_isb .lss ?_; first
     | refine o_lt rfl rfl (by decide) ?_))
     | (refine z_isbi ?_; first
     | refine o_len tabOk rfl rfl (by decide) ?_)
     | refine o_move rfl (by decide) ?_
     | refine o_assign rfl (by decide) ?_))
theorem uses1_c (x y : Int × Int) : Pf Try.prog 46 [.agg (prc x).toArray, .agg (prc y).toArray] (.int .i64 (cfL x y)) := by
  intro w hw
  refine f_enter Try.func46 rfl Try.ntmps46 rfl hw ?_
  repeat' (first
   | ((refine z_isdst 7 ?_; refine o_callx0 Try.func47 rfl rfl rfl (compare_c x y g2 g3 _ (cells_rds 1 rfl) (cells_rds 0 rfl)) (by decide) (by decide) ?_))
   | refine z_mono0 ?_
   | ((refine z_isdst 2 ?_; refine o_boxa (vs := prc x) rfl rfl (by decide) fun g2 => ?_))
   | ((refine z_isdst 3 ?_; refine o_boxa (vs := prc y) rfl rfl (by decide) fun g3 => ?_))
   | ((refine z_isdst 5 ?_; refine o_slp0 tabOk rfl rfl rfl rfl (by decide) ?_))
   | ((refine z_isdst 6 ?_; refine o_slp0 tabOk rfl rfl rfl rfl (by decide) ?_))
   | (refine s_is ?_; first
   | (refine c_free0 ⟨[7], []⟩ [0, 1, 2, 3] (id := 1) mixed (by kernel_rfl) ?_)
   | (refine s_isret ?_; first
   | exact p_r1 rfl (res_t rfl))
   | (refine s_isw ?_; first
   | refine c_seq ?_
   | refine c_region ?_
   | refine c_ret ?_))
   | (refine z_isnil ?_; first
   | refine z_list ?_
   | refine z_mono0 ?_)
   | (refine z_isop ?_; first
   | refine o_assign rfl (by decide) ?_))
/-- A function that only computes, told as the sort wants it. -/
theorem pf_lays {P : Program} {f : FuncId} {vs : List Value} {v : Value} (h : Pf P f vs v) (W : World) : Calls P f vs.toArray W fun e w' => e = .returned v ∧ ∃ q os', w' = Go.Sort.grow (W.drewN q) os' := by
  refine (h W ⟨fun c hc => (by cases hc), List.Pairwise.nil⟩).mono fun e w' ⟨_, _, he, hS⟩ => ⟨he, w'.drawn - W.drawn, w'.heap.extract W.heap.size w'.heap.size, ?_⟩
  obtain ⟨heap', tape', drawn', os', output'⟩ := w'
  have e1 : os' = W.os := hS.os
  have e2 : tape' = W.tape := hS.tape
  have e3 : output' = W.output := hS.output
  have hs : W.heap.size ≤ heap'.size := hS.size
  have hd : W.drawn ≤ drawn' := hS.drawn
  have hb : ∀ k, k < W.heap.size → heap'[k]? = W.heap[k]? := fun k hk => hS.rest k hk fun d hd => (by cases hd)
  subst e1 e2 e3
  have eh : heap' = W.heap ++ heap'.extract W.heap.size heap'.size := by
    apply Array.ext_getElem?
    intro k
    by_cases hk : k < W.heap.size
    · rw [Array.getElem?_append_left hk]; exact hb k hk
    · rw [Array.getElem?_append_right (by omega), Array.getElem?_extract]
      by_cases hk2 : k < heap'.size
      · rw [if_pos (by omega)]; congr 1; omega
      · rw [if_neg (by omega), Array.getElem?_eq_none (by omega)]
  have ed : W.drawn + (drawn' - W.drawn) = drawn' := by omega
  simp only [Go.Sort.grow, World.drewN, ed]
  congr 1
end Go.Proofs.Ytnckabgaichkkaa
