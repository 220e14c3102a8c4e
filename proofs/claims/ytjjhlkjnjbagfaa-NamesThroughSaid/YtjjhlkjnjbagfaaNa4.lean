/-
Tables of names: a name added, a name dropped.
-/
import Derived.Test.YtjjhlkjnjbagfaaNa3
namespace Go.Proofs.Ytjjhlkjnjbagfaa
set_option linter.unusedVariables false
set_option linter.unusedSimpArgs false
open Eng
attribute [local irreducible] Eng.Hold Eng.Z Eng.S Eng.cells Eng.old Eng.own il fi gt addL drL nmN
attribute [local irreducible] ix fd gv
theorem il_end (L : List Int) (x y : Int) : (il L ++ [Value.int .i64 x]).set L.length (Value.int .i64 y) = il (L ++ [y]) := by
  rw [← il_add, il_set]
  congr 1
  simp
theorem il_put (L : List Int) (j : Int) (i : Nat) (h : j = i) (x : Int) : (il L).set j.toNat (Value.int .i64 x) = il (L.set i x) := by
  subst h
  rw [Int.toNat_natCast, il_set]
/-- What a name's being added needs. -/
theorem ok_fd {L : List Int} {n : Int} (h : ¬ (n < 0 ∨ 1023 < n ∨ (fi L n).isSome = true)) : fd L n = -1 := by
  rw [fd_ix (by omega)]
  cases hf : fi L n with
  | none => rw [ix_none hf]
  | some k => rw [hf] at h; simp at h
theorem some_fd {L : List Int} {n : Int} (h0 : ¬ n < 0) (h : (fi L n).isSome = true) : 0 ≤ fd L n := by
  rw [fd_ix h0]
  obtain ⟨k, hk⟩ := Option.isSome_iff_exists.1 h
  rw [ix_some hk]; omega
theorem add_no (L : List Int) (A : Option Addr) (c : Nat) (n : Int) (fr : List Chunk) (hrd : Rds fr A (il L)) (hx : L.length ≤ 512) (ha : addL L n = none) : Does Try.prog 12 [.agg #[.slice A L.length c], .int .i64 n] fr (fun _ : Unit => True) (fun _ => .tuple #[.agg #[.slice A L.length c], .int .i64 0, .bool false]) (fun _ => fr) := by
  intro w hw
  refine f_enter Try.func12 rfl Try.ntmps12 rfl hw ?_
  by_cases hb : n < 0 ∨ 1023 < n ∨ (fi L n).isSome = true
  · by_cases h0 : n < 0
    · have hf := fd_neg (L := L) h0
      repeat' (first
       | (refine s_is ?_; first
       | (refine s_isret ?_; first
       | exact f_r3 rfl (res_c tabOk rfl rfl rfl 0 rfl rfl) (res_t rfl) (res_t rfl) () trivial rfl (fun w h => ((h.sel 2 [0, 1] (by decide)).mask [false, false])))
       | (refine s_isw ?_; first
       | refine c_seq ?_
       | refine c_region ?_
       | refine c_ret ?_
       | (refine s_iscond ?_; first
       | (refine c_true rfl (by first | with_reducible rfl | with_reducible assumption | ((with_reducible refine decide_eq_true ?_); first | with_reducible rfl | with_reducible assumption | omega)) ?_)))
       | refine x_then_ret ?_)
       | (refine z_isg0 ?_; first
       | (refine z_want0 rfl rfl (by first | with_reducible rfl | with_reducible assumption | ((with_reducible refine decide_eq_false ?_); first | with_reducible assumption | omega)) ?_)
       | (refine z_skip0 (by decide) rfl rfl (by first | with_reducible rfl | with_reducible assumption | ((with_reducible refine decide_eq_true ?_); first | with_reducible rfl | with_reducible assumption | omega)) ?_))
       | (refine z_isnil ?_; first
       | refine z_list ?_)
       | (refine z_isop ?_; first
       | refine o_boxa (vs := [.slice A L.length c]) rfl rfl (by decide) fun g => ?_
       | refine o_alloca (e := 27) (vs := [.slice none 0 0]) rfl (by kernel_rfl) (by decide) fun g' => ?_
       | (refine z_isbin ?_; first
       | (refine z_isb .lss ?_; first
       | refine o_lt rfl rfl (by decide) ?_))
       | (refine z_isload ?_; first
       | (refine z_ldw tabOk rfl rfl ?_; first
       | (refine o_loadwm tabOk rfl rfl rfl (by repeat' (first | exact List.mem_cons_self | apply List.mem_cons_of_mem)) (by first | rfl | exact il_len _ | (simp only [il_len]; done) | rfl) (by decide) ?_)))
       | (refine z_isstore ?_; first
       | (refine z_stw rfl ?_; first
       | ((refine z_sti 0 rfl rfl ?_; refine o_storeb0 rfl tabOk rfl rfl rfl (by first | rfl | exact il_len _ | (simp only [il_len]; done) | rfl) (by first | rfl) (by first | rfl | exact il_len _ | (simp only [il_len]; done) | rfl) ?_))))
       | (refine z_iscall ?_; first
       | ((refine z_iscallf 16 ?_; refine o_callr rfl Try.func16 rfl rfl rfl (find_c L _ _ _ _ (Rds.cons _ (Rds.cons _ hrd)) (by omega)) (by decide) ?_)))
       | (refine z_ispick ?_; first
       | (refine o_pick1 rfl (by first | with_reducible rfl | with_reducible assumption | ((with_reducible refine decide_eq_true ?_); first | with_reducible rfl | with_reducible assumption | omega)) rfl (by decide) ?_)
       | (refine o_pick0 rfl (by first | with_reducible rfl | with_reducible assumption | ((with_reducible refine decide_eq_false ?_); first | with_reducible assumption | omega)) rfl (by decide) ?_))
       | refine o_move rfl (by decide) ?_
       | refine o_assign rfl (by decide) ?_
       | refine o_extract rfl rfl (by decide) ?_))
    · by_cases h1 : 0 ≤ fd L n
      · skip
        repeat' (first
         | (refine s_is ?_; first
         | (refine s_isret ?_; first
         | exact f_r3 rfl (res_c tabOk rfl rfl rfl 0 rfl rfl) (res_t rfl) (res_t rfl) () trivial rfl (fun w h => ((h.sel 2 [0, 1] (by decide)).mask [false, false])))
         | (refine s_isw ?_; first
         | refine c_seq ?_
         | refine c_region ?_
         | refine c_ret ?_
         | (refine s_iscond ?_; first
         | (refine c_true rfl (by first | with_reducible rfl | with_reducible assumption | ((with_reducible refine decide_eq_true ?_); first | with_reducible rfl | with_reducible assumption | omega)) ?_)))
         | refine x_then_ret ?_)
         | (refine z_isg0 ?_; first
         | (refine z_skip0 (by decide) rfl rfl (by first | with_reducible rfl | with_reducible assumption | ((with_reducible refine decide_eq_true ?_); first | with_reducible rfl | with_reducible assumption | omega)) ?_))
         | (refine z_isnil ?_; first
         | refine z_list ?_)
         | (refine z_isop ?_; first
         | refine o_boxa (vs := [.slice A L.length c]) rfl rfl (by decide) fun g => ?_
         | refine o_alloca (e := 27) (vs := [.slice none 0 0]) rfl (by kernel_rfl) (by decide) fun g' => ?_
         | (refine z_isload ?_; first
         | (refine z_ldw tabOk rfl rfl ?_; first
         | (refine o_loadwm tabOk rfl rfl rfl (by repeat' (first | exact List.mem_cons_self | apply List.mem_cons_of_mem)) (by first | rfl | exact il_len _ | (simp only [il_len]; done) | rfl) (by decide) ?_)))
         | (refine z_isstore ?_; first
         | (refine z_stw rfl ?_; first
         | ((refine z_sti 0 rfl rfl ?_; refine o_storeb0 rfl tabOk rfl rfl rfl (by first | rfl | exact il_len _ | (simp only [il_len]; done) | rfl) (by first | rfl) (by first | rfl | exact il_len _ | (simp only [il_len]; done) | rfl) ?_))))
         | (refine z_iscall ?_; first
         | ((refine z_iscallf 16 ?_; refine o_callr rfl Try.func16 rfl rfl rfl (find_c L _ _ _ _ (Rds.cons _ (Rds.cons _ hrd)) (by omega)) (by decide) ?_)))
         | (refine z_ispick ?_; first
         | (refine o_pick1 rfl (by first | with_reducible rfl | with_reducible assumption | ((with_reducible refine decide_eq_true ?_); first | with_reducible rfl | with_reducible assumption | omega)) rfl (by decide) ?_))
         | refine o_move rfl (by decide) ?_
         | refine o_assign rfl (by decide) ?_
         | refine o_extract rfl rfl (by decide) ?_))
      · have h2 : 1023 < n := by
          rcases hb with hb | hb | hb
          · exact absurd hb h0
          · exact hb
          · exact absurd (some_fd h0 hb) h1
        repeat' (first
         | (refine s_is ?_; first
         | (refine s_isret ?_; first
         | exact f_r3 rfl (res_c tabOk rfl rfl rfl 0 rfl rfl) (res_t rfl) (res_t rfl) () trivial rfl (fun w h => ((h.sel 2 [0, 1] (by decide)).mask [false, false])))
         | (refine s_isw ?_; first
         | refine c_seq ?_
         | refine c_region ?_
         | refine c_ret ?_
         | (refine s_iscond ?_; first
         | (refine c_true rfl (by first | with_reducible rfl | with_reducible assumption | ((with_reducible refine decide_eq_true ?_); first | with_reducible rfl | with_reducible assumption | omega)) ?_)))
         | refine x_then_ret ?_)
         | (refine z_isg0 ?_; first
         | (refine z_want0 rfl rfl (by first | with_reducible rfl | with_reducible assumption | ((with_reducible refine decide_eq_false ?_); first | with_reducible assumption | omega)) ?_))
         | (refine z_isnil ?_; first
         | refine z_list ?_)
         | (refine z_isop ?_; first
         | refine o_boxa (vs := [.slice A L.length c]) rfl rfl (by decide) fun g => ?_
         | refine o_alloca (e := 27) (vs := [.slice none 0 0]) rfl (by kernel_rfl) (by decide) fun g' => ?_
         | (refine z_isbin ?_; first
         | (refine z_isb .lss ?_; first
         | refine o_lt rfl rfl (by decide) ?_)
         | (refine z_isb .gtr ?_; first
         | refine o_gt rfl rfl (by decide) ?_))
         | (refine z_isload ?_; first
         | (refine z_ldw tabOk rfl rfl ?_; first
         | (refine o_loadwm tabOk rfl rfl rfl (by repeat' (first | exact List.mem_cons_self | apply List.mem_cons_of_mem)) (by first | rfl | exact il_len _ | (simp only [il_len]; done) | rfl) (by decide) ?_)))
         | (refine z_isstore ?_; first
         | (refine z_stw rfl ?_; first
         | ((refine z_sti 0 rfl rfl ?_; refine o_storeb0 rfl tabOk rfl rfl rfl (by first | rfl | exact il_len _ | (simp only [il_len]; done) | rfl) (by first | rfl) (by first | rfl | exact il_len _ | (simp only [il_len]; done) | rfl) ?_))))
         | (refine z_iscall ?_; first
         | ((refine z_iscallf 16 ?_; refine o_callr rfl Try.func16 rfl rfl rfl (find_c L _ _ _ _ (Rds.cons _ (Rds.cons _ hrd)) (by omega)) (by decide) ?_)))
         | (refine z_ispick ?_; first
         | (refine o_pick0 rfl (by first | with_reducible rfl | with_reducible assumption | ((with_reducible refine decide_eq_false ?_); first | with_reducible assumption | omega)) rfl (by decide) ?_))
         | refine o_move rfl (by decide) ?_
         | refine o_assign rfl (by decide) ?_
         | refine o_extract rfl rfl (by decide) ?_))
  · have hf := ok_fd hb
    cases hi : fi L (-1) with
    | some i => rw [add_hole hb hi] at ha; cases ha
    | none =>
      by_cases hl : L.length = 512
      · have hix := ix_none hi
        repeat' (first
         | (refine s_is ?_; first
         | (refine s_isret ?_; first
         | exact f_r3 rfl (res_c tabOk rfl rfl rfl 0 rfl rfl) (res_t rfl) (res_t rfl) () trivial rfl (fun w h => ((h.sel 2 [0, 1] (by decide)).mask [false, false])))
         | (refine s_isw ?_; first
         | refine c_seq ?_
         | refine c_region ?_
         | refine c_skip ?_
         | refine c_ret ?_
         | (refine s_iscond ?_; first
         | (refine c_true rfl (by first | with_reducible rfl | with_reducible assumption | ((with_reducible refine decide_eq_true ?_); first | with_reducible rfl | with_reducible assumption | omega)) ?_)
         | (refine c_false rfl (by first | with_reducible rfl | with_reducible assumption | ((with_reducible refine decide_eq_false ?_); first | with_reducible assumption | omega)) ?_)))
         | refine x_then_ret ?_)
         | (refine z_isg0 ?_; first
         | (refine z_want0 rfl rfl (by first | with_reducible rfl | with_reducible assumption | ((with_reducible refine decide_eq_false ?_); first | with_reducible assumption | omega)) ?_))
         | (refine z_isnil ?_; first
         | refine z_list ?_)
         | (refine z_isop ?_; first
         | refine o_boxa (vs := [.slice A L.length c]) rfl rfl (by decide) fun g => ?_
         | refine o_alloca (e := 27) (vs := [.slice none 0 0]) rfl (by kernel_rfl) (by decide) fun g' => ?_
         | (refine z_isbin ?_; first
         | (refine z_isb .eql ?_; first
         | refine o_eq rfl rfl (by decide) ?_)
         | (refine z_isb .lss ?_; first
         | refine o_lt rfl rfl (by decide) ?_)
         | (refine z_isb .gtr ?_; first
         | refine o_gt rfl rfl (by decide) ?_))
         | (refine z_isload ?_; first
         | (refine z_ld1 tabOk rfl rfl ?_; first
         | refine o_loadm tabOk rfl rfl rfl (by repeat' (first | exact List.mem_cons_self | apply List.mem_cons_of_mem)) (by first | exact il_at _ (by omega) | rfl | rfl) (by decide) ?_)
         | (refine z_ldw tabOk rfl rfl ?_; first
         | (refine o_loadwm tabOk rfl rfl rfl (by repeat' (first | exact List.mem_cons_self | apply List.mem_cons_of_mem)) (by first | rfl | exact il_len _ | (simp only [il_len]; done) | rfl) (by decide) ?_)))
         | (refine z_isstore ?_; first
         | (refine z_stw rfl ?_; first
         | ((refine z_sti 0 rfl rfl ?_; refine o_storeb0 rfl tabOk rfl rfl rfl (by first | rfl | exact il_len _ | (simp only [il_len]; done) | rfl) (by first | rfl) (by first | rfl | exact il_len _ | (simp only [il_len]; done) | rfl) ?_))))
         | (refine z_iscall ?_; first
         | ((refine z_iscallf 16 ?_; refine o_callr rfl Try.func16 rfl rfl rfl (find_c L _ _ _ _ (Rds.cons _ (Rds.cons _ hrd)) (by omega)) (by decide) ?_))
         | ((refine z_iscallf 43 ?_; refine o_callr rfl Try.func43 rfl rfl rfl (index_c L _ _ _ _ (Rds.cons _ (Rds.cons _ hrd)) (by omega)) (by decide) ?_)))
         | (refine z_ispick ?_; first
         | (refine o_pick0 rfl (by first | with_reducible rfl | with_reducible assumption | ((with_reducible refine decide_eq_false ?_); first | with_reducible assumption | omega)) rfl (by decide) ?_))
         | (refine z_isbi ?_; first
         | refine o_len tabOk rfl rfl (by decide) ?_)
         | refine o_move rfl (by decide) ?_
         | refine o_assign rfl (by decide) ?_
         | refine o_extract rfl rfl (by decide) ?_
         | refine o_field0 tabOk rfl rfl rfl rfl rfl (by decide) ?_))
      · rw [add_end hb hi hl] at ha; cases ha
theorem add_yes (L L' : List Int) (k : Nat) (A : Option Addr) (c : Nat) (n : Int) (fr : List Chunk) (hrd : Rds fr A (il L)) (hx : L.length ≤ 512) (ha : addL L n = some (L', k)) : Does Try.prog 12 [.agg #[.slice A L.length c], .int .i64 n] fr (fun _ : Option Addr × Nat => True) (fun x => .tuple #[.agg #[.slice x.1 L'.length x.2], .int .i64 k, .bool true]) (fun x => own x.1 x.2 3 1 L'.length (il L') :: fr) := by
  intro w hw
  refine f_enter Try.func12 rfl Try.ntmps12 rfl hw ?_
  by_cases hb : n < 0 ∨ 1023 < n ∨ (fi L n).isSome = true
  · rw [add_bad hb] at ha; cases ha
  · have hf := ok_fd hb
    cases hi : fi L (-1) with
    | some i =>
      rw [add_hole hb hi] at ha
      cases ha
      have hix := ix_some hi
      have hil := (fi_inv hi).1
      repeat' (first
       | (refine s_is ?_; first
       | (refine s_isret ?_; first
       | (exact f_r3 rfl (res_c tabOk rfl rfl rfl 1 rfl rfl) (res_t rfl) (res_t rfl) x trivial (by rw [hix, List.length_set]) (fun w h => by rw [← il_put L _ _ hix, List.length_set]; exact ((h.sel 3 [0, 1, 2] (by decide)).mask [true, false, false]))))
       | (refine s_isw ?_; first
       | refine c_seq ?_
       | refine c_region ?_
       | refine c_skip ?_
       | refine c_ret ?_
       | (refine s_iscond ?_; first
       | (refine c_false rfl (by first | with_reducible rfl | with_reducible assumption | ((with_reducible refine decide_eq_false ?_); first | with_reducible assumption | omega)) ?_))))
       | (refine z_isg0 ?_; first
       | (refine z_want0 rfl rfl (by first | with_reducible rfl | with_reducible assumption | ((with_reducible refine decide_eq_false ?_); first | with_reducible assumption | omega)) ?_))
       | (refine z_isnil ?_; first
       | refine z_list ?_)
       | (refine z_isop ?_; first
       | refine o_buildf (zs := [.slice none 0 0]) (vs := [.slice x.1 L.length x.2]) tabOk rfl rfl (by kernel_rfl) rfl ⟨_, _, rfl, rfl, by decide, rfl⟩ (by decide) ?_
       | refine o_boxa (vs := [.slice A L.length c]) rfl rfl (by decide) fun g => ?_
       | refine o_alloca (e := 27) (vs := [.slice none 0 0]) rfl (by kernel_rfl) (by decide) fun g' => ?_
       | (refine z_isbin ?_; first
       | (refine z_isb .eql ?_; first
       | refine o_eq rfl rfl (by decide) ?_)
       | (refine z_isb .lss ?_; first
       | refine o_lt rfl rfl (by decide) ?_)
       | (refine z_isb .gtr ?_; first
       | refine o_gt rfl rfl (by decide) ?_))
       | (refine z_isload ?_; first
       | (refine z_ld1 tabOk rfl rfl ?_; first
       | refine o_loadm tabOk rfl rfl rfl (by repeat' (first | exact List.mem_cons_self | apply List.mem_cons_of_mem)) (by first | exact il_at _ (by omega) | rfl | rfl) (by decide) ?_)
       | (refine z_ldw tabOk rfl rfl ?_; first
       | (refine o_loadwm tabOk rfl rfl rfl (by repeat' (first | exact List.mem_cons_self | apply List.mem_cons_of_mem)) (by first | rfl | exact il_len _ | (simp only [il_len]; done) | rfl) (by decide) ?_)))
       | (refine z_isstore ?_; first
       | (refine o_stores rfl 0 tabOk rfl rfl rfl rfl rfl rfl (by rw [il_len]; omega) ?_)
       | (refine z_stw rfl ?_; first
       | ((refine z_sti 1 rfl rfl ?_; refine o_storeb1 rfl tabOk rfl rfl rfl (by first | rfl | exact il_len _ | (simp only [il_len]; done) | rfl) (by first | rfl) (by first | rfl | exact il_len _ | (simp only [il_len]; done) | rfl) ?_))))
       | (refine z_iscall ?_; first
       | ((refine z_iscallf 16 ?_; refine o_callr rfl Try.func16 rfl rfl rfl (find_c L _ _ _ _ (Rds.cons _ (Rds.cons _ hrd)) (by omega)) (by decide) ?_))
       | ((refine z_iscallf 43 ?_; refine o_callr rfl Try.func43 rfl rfl rfl (index_c L _ _ _ _ (Rds.cons _ (Rds.cons _ hrd)) (by omega)) (by decide) ?_))
       | ((refine z_iscallf 44 ?_; refine o_calla Try.func44 rfl rfl rfl (clone_c L _ _ _ (Rds.cons _ (Rds.cons _ hrd)) (by omega)) (by decide) fun x _ => ?_; refine z_own2 0 rfl fun hkc hne => ?_)))
       | (refine z_ispick ?_; first
       | (refine o_pick0 rfl (by first | with_reducible rfl | with_reducible assumption | ((with_reducible refine decide_eq_false ?_); first | with_reducible assumption | omega)) rfl (by decide) ?_))
       | (refine z_isix ?_; first
       | refine o_indexs1 tabOk (by first | exact hne (by omega) | assumption) rfl rfl rfl rfl (by omega) (by omega) (by decide) ?_)
       | (refine z_isbi ?_; first
       | refine o_len tabOk rfl rfl (by decide) ?_)
       | refine o_move rfl (by decide) ?_
       | refine o_assign rfl (by decide) ?_
       | refine o_extract rfl rfl (by decide) ?_
       | refine o_field0 tabOk rfl rfl rfl rfl rfl (by decide) ?_))
    | none =>
      by_cases hl : L.length = 512
      · rw [add_full hb hi hl] at ha; cases ha
      · rw [add_end hb hi hl] at ha
        cases ha
        have hix := ix_none hi
        repeat' (first
         | ((refine z_isbi ?_; refine z_front rfl 1 rfl ?_; refine o_append rfl tabOk zeroOk rfl rfl rfl rfl rfl rfl (own_rds 1 rfl) rfl rfl (by omega) (by omega) (by decide) fun A' c' => ?_; refine z_own2 0 rfl fun hkc hne => ?_))
         | (refine s_is ?_; first
         | (refine s_isret ?_; first
         | (exact f_r3 rfl (res_c tabOk rfl rfl rfl 2 rfl rfl) (res_t rfl) (res_t rfl) (A', c') trivial (by rw [List.length_append]; rfl) (fun w h => by rw [← il_end L (-1) n, List.length_append]; exact ((h.sel 4 [0, 1, 2, 3] (by decide)).mask [true, false, false, false]))))
         | (refine s_isw ?_; first
         | refine c_seq ?_
         | refine c_region ?_
         | refine c_skip ?_
         | refine c_ret ?_
         | (refine s_iscond ?_; first
         | (refine c_true rfl (by first | with_reducible rfl | with_reducible assumption | ((with_reducible refine decide_eq_true ?_); first | with_reducible rfl | with_reducible assumption | omega)) ?_)
         | (refine c_false rfl (by first | with_reducible rfl | with_reducible assumption | ((with_reducible refine decide_eq_false ?_); first | with_reducible assumption | omega)) ?_))))
         | (refine z_isg0 ?_; first
         | (refine z_want0 rfl rfl (by first | with_reducible rfl | with_reducible assumption | ((with_reducible refine decide_eq_false ?_); first | with_reducible assumption | omega)) ?_))
         | (refine z_isnil ?_; first
         | refine z_list ?_)
         | (refine z_isop ?_; first
         | refine o_buildf (zs := [.slice none 0 0]) (vs := [.slice A' (L.length + 1) c']) tabOk rfl rfl (by kernel_rfl) rfl ⟨_, _, rfl, rfl, by decide, rfl⟩ (by decide) ?_
         | refine o_boxa (vs := [.slice A L.length c]) rfl rfl (by decide) fun g => ?_
         | refine o_alloca (e := 27) (vs := [.slice none 0 0]) rfl (by kernel_rfl) (by decide) fun g' => ?_
         | (refine z_isbin ?_; first
         | (refine z_isb .eql ?_; first
         | refine o_eq rfl rfl (by decide) ?_)
         | (refine z_isb .lss ?_; first
         | refine o_lt rfl rfl (by decide) ?_)
         | (refine z_isb .gtr ?_; first
         | refine o_gt rfl rfl (by decide) ?_))
         | (refine z_isload ?_; first
         | (refine z_ld1 tabOk rfl rfl ?_; first
         | refine o_loadm tabOk rfl rfl rfl (by repeat' (first | exact List.mem_cons_self | apply List.mem_cons_of_mem)) (by first | exact il_at _ (by omega) | rfl | rfl) (by decide) ?_)
         | (refine z_ldw tabOk rfl rfl ?_; first
         | (refine o_loadwm tabOk rfl rfl rfl (by repeat' (first | exact List.mem_cons_self | apply List.mem_cons_of_mem)) (by first | rfl | exact il_len _ | (simp only [il_len]; done) | rfl) (by decide) ?_)))
         | (refine z_isstore ?_; first
         | (refine o_stores rfl 0 tabOk rfl rfl rfl rfl rfl rfl (by rw [List.length_append, il_len]; show _ < _ + 1; omega) ?_)
         | (refine z_stw rfl ?_; first
         | ((refine z_sti 2 rfl rfl ?_; refine o_storeb2 rfl tabOk rfl rfl rfl (by first | rfl | exact il_len _ | (simp only [il_len]; done) | rfl) (by first | rfl) (by first | rfl | exact il_len _ | (simp only [il_len]; done) | rfl) ?_))))
         | (refine z_ismakes ?_; first
         | refine o_make1 rfl tabOk zeroOk rfl rfl rfl rfl rfl (by decide) fun g => ?_)
         | (refine z_iscall ?_; first
         | ((refine z_iscallf 16 ?_; refine o_callr rfl Try.func16 rfl rfl rfl (find_c L _ _ _ _ (Rds.cons _ (Rds.cons _ hrd)) (by omega)) (by decide) ?_))
         | ((refine z_iscallf 43 ?_; refine o_callr rfl Try.func43 rfl rfl rfl (index_c L _ _ _ _ (Rds.cons _ (Rds.cons _ hrd)) (by omega)) (by decide) ?_))
         | ((refine z_iscallf 44 ?_; refine o_calla Try.func44 rfl rfl rfl (clone_c L _ _ _ (Rds.cons _ (Rds.cons _ hrd)) (by omega)) (by decide) fun x _ => ?_; refine z_own2 0 rfl fun hkc hne => ?_)))
         | (refine z_ispick ?_; first
         | (refine o_pick0 rfl (by first | with_reducible rfl | with_reducible assumption | ((with_reducible refine decide_eq_false ?_); first | with_reducible assumption | omega)) rfl (by decide) ?_))
         | (refine z_isix ?_; first
         | refine o_indexs1 tabOk (by first | exact hne (by omega) | assumption) rfl rfl rfl rfl (by omega) (by omega) (by decide) ?_)
         | (refine z_isbi ?_; first
         | refine o_len tabOk rfl rfl (by decide) ?_)
         | refine o_move rfl (by decide) ?_
         | refine o_assign rfl (by decide) ?_
         | refine o_extract rfl rfl (by decide) ?_
         | refine o_field0 tabOk rfl rfl rfl rfl rfl (by decide) ?_))
end Go.Proofs.Ytjjhlkjnjbagfaa
