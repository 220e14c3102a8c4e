/-
Tables of names: what only reads.
-/
import Derived.Test.YtjjhlkjnjbagfaaNaL
import Derived.Test.YtjjhlkjnjbagfaaEngY
namespace Go.Proofs.Ytjjhlkjnjbagfaa
set_option linter.unusedVariables false
set_option linter.unusedSimpArgs false
open Eng
def il (l : List Int) : List Value := l.map (Value.int .i64)
theorem il_at (l : List Int) {i : Nat} (h : i < l.length) : (il l)[i]? = some (.int .i64 (l.getD i 0)) := by unfold il; simp [h]
theorem il_nil : il [] = [] := rfl
theorem il_add (l : List Int) (x : Int) : il (l ++ [x]) = il l ++ [.int .i64 x] := by simp [il]
theorem il_len (l : List Int) : (il l).length = l.length := by simp [il]
theorem il_set (l : List Int) (i : Nat) (x : Int) : (il l).set i (.int .i64 x) = il (l.set i x) := by simp [il, List.map_set]
theorem il_one (l : List Int) : (il l).all (·.oneCell') = true := by
  rw [List.all_eq_true]
  intro v hv
  obtain ⟨x, _, rfl⟩ := List.mem_map.1 hv
  rfl
theorem il_ne {fr : List Chunk} {A : Option Addr} {L : List Int} {w : World} (hrd : Rds fr A (il L)) (hw : Pre w fr) : 0 < L.length → A ≠ none := fun h => hrd.ne hw (by rw [il_len]; exact h)
theorem nstep {L : List Int} {k : Nat} {n : Int} (hj : ∀ j, j < k → L.getD j 0 ≠ n) (h : L.getD k 0 ≠ n) : ∀ j, j < k + 1 → L.getD j 0 ≠ n := fun j hj' => by
  by_cases e : j = k
  · subst e; exact h
  · exact hj j (by omega)
attribute [local irreducible] Eng.Hold Eng.Z Eng.S Eng.cells Eng.old Eng.own il fi gt addL drL nmN
/-- slices.Index. -/
def ix (L : List Int) (n : Int) : Int := match fi L n with
  | some k => k
  | none => -1
theorem ix_some {L : List Int} {n : Int} {k : Nat} (h : fi L n = some k) : ix L n = k := by unfold ix; rw [h]
theorem ix_none {L : List Int} {n : Int} (h : fi L n = none) : ix L n = -1 := by unfold ix; rw [h]
attribute [local irreducible] ix
theorem index_c (L : List Int) (A : Option Addr) (c : Nat) (n : Int) (fr : List Chunk) (hrd : Rds fr A (il L)) (hx : L.length ≤ 9223372036854775807) : Does Try.prog 43 [.slice A L.length c, .int .i64 n] fr (fun _ : Unit => True) (fun _ => .int .i64 (ix L n)) (fun _ => fr) := by
  intro w hw
  have hne := il_ne hrd hw
  refine f_enter Try.func43 rfl Try.ntmps43 rfl hw ?_
  repeat' (first
   | (refine s_is ?_; first
   | (refine s_isw ?_; first
   | (refine s_isloop ?_; first
   | ((refine c_loop (X := Nat) (fun k => k ≤ L.length ∧ ∀ j, j < k → L.getD j 0 ≠ n) (fun k => [(0, .slice A L.length c), (1, .int .i64 n), (7, .int .i64 L.length), (8, .int .i64 k)]) (fun _ => fr) (fun k => L.length - k) 0 ⟨Nat.zero_le _, fun j hj => by omega⟩ ⟨rfl, rfl, rfl, rfl, trivial⟩ (fun w h => h) (fun k hk => ?_); refine hold ?_)))
   | refine c_seq ?_
   | refine c_block ?_
   | refine c_region ?_))
   | (refine z_isnil ?_; first
   | refine z_list ?_)
   | (refine z_isop ?_; first
   | (refine z_isbi ?_; first
   | refine o_len tabOk rfl rfl (by decide) ?_)
   | refine o_move rfl (by decide) ?_
   | refine o_assign rfl (by decide) ?_))
  refine Hold.go ?_
  obtain ⟨hk, hj⟩ := hk
  by_cases hl : k < L.length
  · have e3 : ((k : Int)).toNat = k := Int.toNat_natCast k
    by_cases h : L.getD k 0 = n
    · have h' : n = L.getD ((k : Int)).toNat 0 := by rw [e3]; exact h.symm
      repeat' (first
       | (refine s_is ?_; first
       | (refine s_isret ?_; first
       | exact f_r1 rfl (res_t rfl) () trivial (by rw [ix_some (fi_some hl h hj)]) (fun w h => h))
       | (refine s_isw ?_; first
       | refine c_seq ?_
       | refine c_block ?_
       | refine c_region ?_
       | refine c_skip ?_
       | refine c_ret ?_
       | (refine s_iscond ?_; first
       | (refine c_true rfl (by first | with_reducible rfl | with_reducible assumption | ((with_reducible refine decide_eq_true ?_); first | with_reducible rfl | with_reducible assumption | omega)) ?_)))
       | refine x_then_ret ?_
       | refine x_block_ret _ ?_)
       | (refine z_isnil ?_; first
       | refine z_list ?_)
       | (refine z_isop ?_; first
       | (refine z_isbin ?_; first
       | (refine z_isb .eql ?_; first
       | refine o_eq rfl rfl (by decide) ?_)
       | (refine z_isb .lss ?_; first
       | refine o_lt rfl rfl (by decide) ?_))
       | (refine z_isload ?_; first
       | (refine z_ld1 tabOk rfl rfl ?_; first
       | refine o_loads tabOk (by first | exact hrd | exact Rds.cons _ hrd | exact Rds.cons _ (Rds.cons _ hrd) | exact Rds.cons _ (Rds.cons _ (Rds.cons _ hrd)) | exact own_rds 0 rfl | exact own_rds 1 rfl | exact own_rds 2 rfl | assumption) rfl rfl rfl (by first | exact il_at _ (by omega) | rfl | rfl) (by decide) ?_))
       | (refine z_isix ?_; first
       | refine o_indexs1 tabOk (by first | exact hne (by omega) | assumption) rfl rfl rfl rfl (by omega) (by omega) (by decide) ?_)
       | refine o_move rfl (by decide) ?_
       | refine o_assign rfl (by decide) ?_))
    · have h' : n ≠ L.getD ((k : Int)).toNat 0 := by rw [e3]; exact fun e => h e.symm
      have hj2 := nstep hj h
      repeat' (first
       | (refine s_is ?_; first
       | (refine s_isagain ?_; first
       | exact c_again (k + 1) ⟨by omega, hj2⟩ (by omega) ⟨rfl, rfl, rfl, rfl, trivial⟩ (fun w h => h))
       | (refine s_isw ?_; first
       | refine c_seq ?_
       | refine c_block ?_
       | refine c_region ?_
       | refine c_skip ?_
       | (refine s_iscond ?_; first
       | (refine c_true rfl (by first | with_reducible rfl | with_reducible assumption | ((with_reducible refine decide_eq_true ?_); first | with_reducible rfl | with_reducible assumption | omega)) ?_)
       | (refine c_false rfl (by first | with_reducible rfl | with_reducible assumption | ((with_reducible refine decide_eq_false ?_); first | with_reducible assumption | omega)) ?_))))
       | (refine z_isnil ?_; first
       | refine z_list ?_)
       | (refine z_isop ?_; first
       | (refine z_isbin ?_; first
       | (refine z_isb .add ?_; first
       | refine o_add rfl rfl (by omega) (by omega) (by decide) ?_)
       | (refine z_isb .eql ?_; first
       | refine o_eq rfl rfl (by decide) ?_)
       | (refine z_isb .lss ?_; first
       | refine o_lt rfl rfl (by decide) ?_))
       | (refine z_isload ?_; first
       | (refine z_ld1 tabOk rfl rfl ?_; first
       | refine o_loads tabOk (by first | exact hrd | exact Rds.cons _ hrd | exact Rds.cons _ (Rds.cons _ hrd) | exact Rds.cons _ (Rds.cons _ (Rds.cons _ hrd)) | exact own_rds 0 rfl | exact own_rds 1 rfl | exact own_rds 2 rfl | assumption) rfl rfl rfl (by first | exact il_at _ (by omega) | rfl | rfl) (by decide) ?_))
       | (refine z_isix ?_; first
       | refine o_indexs1 tabOk (by first | exact hne (by omega) | assumption) rfl rfl rfl rfl (by omega) (by omega) (by decide) ?_)
       | refine o_move rfl (by decide) ?_
       | refine o_assign rfl (by decide) ?_))
  · obtain rfl : k = L.length := by omega
    repeat' (first
     | (refine s_is ?_; first
     | (refine s_isret ?_; first
     | exact f_r1 rfl (res_t rfl) () trivial (by rw [ix_none (fi_none hj)]) (fun w h => h))
     | (refine s_isw ?_; first
     | refine c_seq ?_
     | refine c_region ?_
     | refine c_ret ?_
     | refine c_exit ?_
     | (refine s_iscond ?_; first
     | (refine c_false rfl (by first | with_reducible rfl | with_reducible assumption | ((with_reducible refine decide_eq_false ?_); first | with_reducible assumption | omega)) ?_))))
     | (refine z_isnil ?_; first
     | refine z_list ?_)
     | (refine z_isop ?_; first
     | (refine z_isbin ?_; first
     | (refine z_isb .lss ?_; first
     | refine o_lt rfl rfl (by decide) ?_))
     | refine o_assign rfl (by decide) ?_))
end Go.Proofs.Ytjjhlkjnjbagfaa
