/-
Shadow: the document's table: its cells; what is asked of it.
-/
import Derived.Test.YtnckabgaichkkaaSh5
namespace Go.Proofs.Ytnckabgaichkkaa
set_option linter.unusedVariables false
set_option linter.unusedSimpArgs false
open Eng
theorem Rds.pre {hp : List Chunk} {A : Option Addr} {X Y : List Value} (h : Rds hp A (X ++ Y)) : Rds hp A X := fun w hw j u hu => h w hw j u (by
  rw [List.getElem?_append_left (List.getElem?_eq_some_iff.1 hu).1]; exact hu)
theorem put_app {L R L' vs : List Value} {o n : Nat} (h : L.take o ++ vs ++ L.drop (o + n) = L') (hl : o + n ≤ L.length) : (L ++ R).take o ++ vs ++ (L ++ R).drop (o + n) = L' ++ R := by
  rw [List.take_append_of_le_length (by omega), List.drop_append_of_le_length hl, ← h]
  simp only [List.append_assoc]
theorem xr_el (M : Mp) (R : List Value) {s p : Nat} (hs : s < 64) (hp : p < 32) : ∀ (j : Nat) u, (bcv M s p)[j]? = some u → (xs M ++ R)[s * 96 + p * 3 + j]? = some u := fun j u hu => by
  have h := xs_el M hs hp j u hu
  rw [List.getElem?_append_left (List.getElem?_eq_some_iff.1 h).1]; exact h
theorem xr_up (M : Mp) (R : List Value) {s p : Nat} (hs : s < 64) (hp : p < 32) (f : Int) (x : Bool) : (xs M ++ R).take (s * 96 + p * 3) ++ [.bool true, .int .i64 f, .bool x] ++ (xs M ++ R).drop (s * 96 + p * 3 + 3) = xs (upM M s p (f, x)) ++ R := put_app (xs_up M hs hp f x) (by rw [xs_len]; omega)
theorem xr_del (M : Mp) (R : List Value) {s p : Nat} (hs : s < 64) (hp : p < 32) : (xs M ++ R).take (s * 96 + p * 3) ++ [.bool false, .int .i64 0, .bool false] ++ (xs M ++ R).drop (s * 96 + p * 3 + 3) = xs (delM M s p) ++ R := put_app (xs_del M hs hp) (by rw [xs_len]; omega)
theorem xr_len (M : Mp) (R : List Value) : 6144 ≤ (xs M ++ R).length := by rw [List.length_append, xs_len]; omega
/-- What is out, as cells. -/
def os (O : Mp) : List Value := (List.range 2048).map fun k => .bool (onf O k)
theorem os_len (O : Mp) : (os O).length = 2048 := by unfold os; rw [List.length_map, List.length_range]
theorem os_at (O : Mp) {k : Nat} (h : k < 2048) : (os O)[k]? = some (.bool (onf O k)) := by simp [os, h]
theorem onf_sp (O : Mp) {s p : Nat} (hp : p < 32) : onf O (s * 32 + p) = onM O s p := by
  unfold onf
  rw [show (s * 32 + p) / 32 = s by omega, show (s * 32 + p) % 32 = p by omega]
theorem zo_el (M O : Mp) {s p : Nat} (hs : s < 64) (hp : p < 32) : (xs M ++ os O)[6144 + s * 32 + p * 1]? = some (.bool (onM O s p)) := by
  rw [List.getElem?_append_right (by rw [xs_len]; omega), xs_len, show 6144 + s * 32 + p * 1 - 6144 = s * 32 + p by omega, os_at O (by omega), onf_sp O hp]
theorem os_set {O O' : Mp} {s p : Nat} (hs : s < 64) (hp : p < 32) (v : Bool) (hv : onM O' s p = v) (h : ∀ a c : Int, ¬ (a = s ∧ c = p) → O' a c = O a c) : (os O).set (s * 32 + p) (.bool v) = os O' := by
  refine List.ext_getElem? fun k => ?_
  rw [List.getElem?_set]
  by_cases hk : k < 2048
  · by_cases he : s * 32 + p = k
    · rw [if_pos he, if_pos (by rw [os_len]; omega), ← he, os_at O' (by omega), onf_sp O' hp, hv]
    · rw [if_neg he, os_at O hk, os_at O' hk]
      have hne := h ((k / 32 : Nat) : Int) ((k % 32 : Nat) : Int) (by omega)
      unfold onf onM
      rw [hne]
  · rw [if_neg (by omega), List.getElem?_eq_none (by rw [os_len]; omega), List.getElem?_eq_none (by rw [os_len]; omega)]
theorem zo_set {M O O' : Mp} {s p : Nat} (hs : s < 64) (hp : p < 32) (v : Bool) (hv : onM O' s p = v) (h : ∀ a c : Int, ¬ (a = s ∧ c = p) → O' a c = O a c) : (xs M ++ os O).set (6144 + s * 32 + p * 1) (.bool v) = xs M ++ os O' := by
  rw [List.set_append_right _ _ (by rw [xs_len]; omega), xs_len, show 6144 + s * 32 + p * 1 - 6144 = s * 32 + p by omega, os_set hs hp v hv h]
theorem zo_off (M O : Mp) {s p : Nat} (hs : s < 64) (hp : p < 32) : (xs M ++ os O).set (6144 + s * 32 + p * 1) (.bool false) = xs M ++ os (delM O s p) := zo_set hs hp false (by unfold onM; rw [delM_same]; rfl) fun a c h => by unfold delM; rw [if_neg h]
theorem zo_on (M O : Mp) {s p : Nat} (hs : s < 64) (hp : p < 32) (v : Int × Bool) : (xs M ++ os O).set (6144 + s * 32 + p * 1) (.bool true) = xs M ++ os (upM O s p v) := zo_set hs hp true (by unfold onM; rw [upM_same]; rfl) fun a c h => by unfold upM; rw [if_neg h]
theorem WM.rm {M : Mp} (h : WM M) (g : Nat → Bool) (n : Nat) : WM (rmM M g n) := fun a c hac => by
  unfold rmM at hac
  by_cases hg : 0 ≤ a ∧ 0 ≤ c ∧ c < 32 ∧ a * 32 + c < n ∧ g (a * 32 + c).toNat = true
  · rw [if_pos hg] at hac; exact absurd rfl hac
  · rw [if_neg hg] at hac; exact h a c hac
attribute [local irreducible] Eng.Hold Eng.Z Eng.S Eng.cells Eng.old Eng.own Eng.mpc Eng.rgc Eng.onM Eng.fM Eng.wM Eng.upM Eng.delM
attribute [local irreducible] uss pcs pgs ilS dls row xs dmf rmM aM1 aM2 eqB usf flt onf os
theorem xputR_y (t T : Nat) (R : List Value) (M : Mp) (s p f : Int) (x : Bool) (h : InP s p) (hf : 0 ≤ f ∧ f < 512) (fr : List Chunk) : Does Try.prog 41 [.pointer (some ⟨t, 0, none⟩), .int .i64 s, .int .i64 p, .int .i64 f, .bool x] (cells t T (xs M ++ R) :: fr) (fun _ : Unit => True) (fun _ => .bool true) (fun _ => cells t T (xs (upM M s p (f, x)) ++ R) :: fr) := by
  intro w hw
  refine f_enter Try.func41 rfl Try.ntmps41 rfl hw ?_
  obtain ⟨a, rfl⟩ : ∃ n : Nat, s = n := ⟨s.toNat, by have := h.1; omega⟩
  obtain ⟨c, rfl⟩ : ∃ n : Nat, p = n := ⟨p.toNat, by have := h.2.2.1; omega⟩
  have ha : a < 64 := by have := h.2.1; omega
  have hc : c < 32 := by have := h.2.2.2; omega
  repeat' (first
   | ((refine z_isdst 13 ?_; refine o_fn rfl Try.func43 rfl rfl rfl (xmay_y _ _ h) (by decide) ?_))
   | ((refine z_isdst 28 ?_; refine o_buildf (t := 27) (zs := [.bool false, .int .i64 0, .bool false]) (vs := [.bool true, .int .i64 f, .bool x]) tabOk rfl rfl (by kernel_rfl) rfl ⟨_, _, rfl, rfl, Nat.le_of_ble_eq_true rfl, _, _, rfl, rfl, Nat.le_of_ble_eq_true rfl, _, _, rfl, rfl, Nat.le_of_ble_eq_true rfl, rfl⟩ (by decide) ?_))
   | (refine s_is ?_; first
   | (refine s_isret ?_; first
   | exact f_r1 rfl (res_t rfl) () trivial rfl (fun w h => h))
   | (refine s_isw ?_; first
   | refine c_seq ?_
   | refine c_region ?_
   | refine c_skip ?_
   | refine c_ret ?_
   | (refine s_iscond ?_; first
   | (refine c_false rfl (by first | with_reducible rfl | with_reducible assumption | ((with_reducible refine decide_eq_false ?_); first | with_reducible assumption | omega)) ?_))))
   | (refine z_isg0 ?_; first
   | (refine z_want0 rfl rfl (by first | with_reducible rfl | with_reducible assumption | ((with_reducible refine decide_eq_false ?_); first | with_reducible assumption | omega)) ?_)
   | (refine z_want0 rfl rfl (by first | (simp only [Bool.not_eq_false', decide_eq_true_eq]; omega) | (with_reducible assumption) | (rw [decide_eq_false] <;> (first | omega | with_reducible rfl)) | (rw [decide_eq_true] <;> (first | omega | with_reducible rfl)) | (simp; done) | (simp; omega)) ?_))
   | (refine z_isnil ?_; first
   | refine z_list ?_)
   | (refine z_isop ?_; first
   | refine o_indexm tabOk rfl rfl rfl rfl (by omega) (by omega) (by decide) ?_
   | refine o_indexn tabOk rfl rfl rfl rfl (by omega) (by omega) (by decide) ?_
   | (refine z_isbin ?_; first
   | (refine z_isb .lss ?_; first
   | refine o_lt rfl rfl (by decide) ?_)
   | (refine z_isb .gtr ?_; first
   | refine o_gt rfl rfl (by decide) ?_))
   | (refine z_isstore ?_; first
   | (refine o_storew_at rfl 0 tabOk rfl rfl rfl rfl (vs := [.bool true, .int .i64 f, .bool x]) rfl rfl (by have := xr_len M R; show a * 96 + c * 3 + 3 ≤ _; omega) (xr_up M R ha hc f x) ?_))
   | (refine z_ispick ?_; first
   | (refine o_pick0 rfl (by first | with_reducible rfl | with_reducible assumption | ((with_reducible refine decide_eq_false ?_); first | with_reducible assumption | omega)) rfl (by decide) ?_)
   | (refine o_pick0 rfl (by first | (simp only [Bool.not_eq_false', decide_eq_true_eq]; omega) | (with_reducible assumption) | (rw [decide_eq_false] <;> (first | omega | with_reducible rfl)) | (rw [decide_eq_true] <;> (first | omega | with_reducible rfl)) | (simp; done) | (simp; omega)) rfl (by decide) ?_))
   | refine o_move rfl (by decide) ?_
   | refine o_assign rfl (by decide) ?_
   | refine o_nil rfl (by decide) ?_
   | refine o_not rfl (by decide) ?_
   | refine o_field0 tabOk rfl rfl rfl rfl rfl (by decide) ?_))
set_option maxHeartbeats 8000000 in
theorem xdropR_c (t T : Nat) (R : List Value) (M : Mp) (sp pg fm : Int) (fr : List Chunk) : Does Try.prog 42 [.pointer (some ⟨t, 0, none⟩), .int .i64 sp, .int .i64 pg, .int .i64 fm] (cells t T (xs M ++ R) :: fr) (fun _ : Unit => True) (fun _ => .int .i64 (al (dmf M sp pg fm) 2048).length) (fun _ => cells t T (xs (rmM M (dmf M sp pg fm) 2048) ++ R) :: fr) := by
  intro w hw
  refine f_enter Try.func42 rfl Try.ntmps42 rfl hw ?_
  repeat' (first
   | (refine s_is ?_; first
   | (refine s_isw ?_; first
   | (refine s_isloop ?_; first
   | ((refine c_loop (X := Nat) (fun s => s ≤ 64) (fun s => [(0, .pointer (some ⟨t, 0, none⟩)), (1, .int .i64 sp), (2, .int .i64 pg), (3, .int .i64 fm), (9, .int .i64 (al (dmf M sp pg fm) (s * 32)).length), (10, .int .i64 s)]) (fun s => cells t T (xs (rmM M (dmf M sp pg fm) (s * 32)) ++ R) :: fr) (fun s => 64 - s) 0 (Nat.zero_le _) ⟨rfl, rfl, rfl, rfl, rfl, rfl, trivial⟩ (fun w h => by rw [show rmM M (dmf M sp pg fm) (0 * 32) = M from rmM_zero _ _]; exact h) (fun s hs0 => ?_); refine hold ?_)))
   | refine c_seq ?_
   | refine c_block ?_
   | refine c_region ?_))
   | (refine z_isnil ?_; first
   | refine z_list ?_)
   | (refine z_isop ?_; first
   | refine o_assign rfl (by decide) ?_))
  refine Hold.go ?_
  by_cases hs : s < 64
  · skip
    repeat' (first
     | (refine s_is ?_; first
     | (refine s_isw ?_; first
     | (refine s_isloop ?_; first
     | ((refine c_loop (X := Nat) (fun p => p ≤ 32) (fun p => [(0, .pointer (some ⟨t, 0, none⟩)), (1, .int .i64 sp), (2, .int .i64 pg), (3, .int .i64 fm), (9, .int .i64 (al (dmf M sp pg fm) (s * 32 + p)).length), (10, .int .i64 s), (11, .int .i64 p)]) (fun p => cells t T (xs (rmM M (dmf M sp pg fm) (s * 32 + p)) ++ R) :: fr) (fun p => 32 - p) 0 (Nat.zero_le _) ⟨rfl, rfl, rfl, rfl, rfl, rfl, rfl, trivial⟩ (fun w h => h) (fun p hp0 => ?_); refine hold ?_)))
     | refine c_seq ?_
     | refine c_block ?_
     | refine c_region ?_
     | refine c_skip ?_
     | (refine s_iscond ?_; first
     | (refine c_true rfl (by first | with_reducible rfl | with_reducible assumption | ((with_reducible refine decide_eq_true ?_); first | with_reducible rfl | with_reducible assumption | omega)) ?_))))
     | (refine z_isnil ?_; first
     | refine z_list ?_)
     | (refine z_isop ?_; first
     | (refine z_isbin ?_; first
     | (refine z_isb .lss ?_; first
     | refine o_lt rfl rfl (by decide) ?_))
     | refine o_move rfl (by decide) ?_
     | refine o_assign rfl (by decide) ?_))
    refine Hold.go ?_
    have hle := al_le (dmf M sp pg fm) (s * 32 + p)
    by_cases hp : p < 32
    · have hel := xr_el (rmM M (dmf M sp pg fm) (s * 32 + p)) R hs hp
      have hxl := xr_len (rmM M (dmf M sp pg fm) (s * 32 + p)) R
      rw [bcv_rm] at hel
      have hdm := dmf_sp (M := M) (sp := sp) (pg := pg) (fm := fm) (s := s) hp
      have hput := xr_del (rmM M (dmf M sp pg fm) (s * 32 + p)) R hs hp
      have hyes := rmM_yes (M := M) (g := dmf M sp pg fm) (s := s) hp
      have hmn : mine M sp pg fm s p = if sp < 0 then decide (fM M s p = fm) else (decide ((s : Int) = sp) && (decide (pg < 0) || decide ((p : Int) = pg))) := by unfold mine; rfl
      generalize hon : onM M s p = on at *
      unfold bcv at hel
      rw [hon] at hel
      cases on with
      | false =>
        have hn := al_no hdm
        have hr := rmM_no (M := M) hdm
        by_cases h1 : sp < 0
        · by_cases h2 : fM M s p = fm
          · by_cases h3 : (s : Int) = sp
            · exfalso; omega
            · skip
              repeat' (first
               | ((refine z_isdst 12 ?_; refine o_alloca (e := 27) (vs := [.bool false, .int .i64 0, .bool false]) rfl (by kernel_rfl) (by decide) fun g12 => ?_))
               | ((refine z_isdst 29 ?_; refine o_loadrw tabOk (cells_rds 0 rfl) rfl rfl rfl (es := [.bool _, .int .i64 (fM M s p), .bool (wM M s p)]) rfl (Nat.succ_pos _) hel (by decide) ?_))
               | (refine s_is ?_; first
               | (refine s_isagain ?_; first
               | (exact c_again (p + 1) (by omega) (by omega) ⟨rfl, rfl, rfl, rfl, (by rw [show s * 32 + (p + 1) = s * 32 + p + 1 from rfl, hn]; rfl), rfl, rfl, trivial⟩ (fun w h => by rw [show s * 32 + (p + 1) = s * 32 + p + 1 from rfl, hr]; exact ((h.sel 2 [1, 0] (by decide)).mask [true, false]))))
               | (refine s_isw ?_; first
               | refine c_seq ?_
               | refine c_block ?_
               | refine c_region ?_
               | refine c_skip ?_
               | (refine s_iscond ?_; first
               | (refine c_true rfl (by first | with_reducible rfl | with_reducible assumption | ((with_reducible refine decide_eq_true ?_); first | with_reducible rfl | with_reducible assumption | omega)) ?_)
               | (refine c_false rfl (by first | with_reducible rfl | with_reducible assumption | ((with_reducible refine decide_eq_false ?_); first | with_reducible assumption | omega)) ?_))))
               | (refine z_isg1 ?_; first
               | refine z_skipu (by decide) rfl rfl ?_
               | (refine z_skip1 (by decide) rfl rfl (by first | with_reducible rfl | with_reducible assumption | ((with_reducible refine decide_eq_false ?_); first | with_reducible assumption | omega)) ?_))
               | (refine z_isg0 ?_; first
               | refine z_skipu (by decide) rfl rfl ?_)
               | (refine z_isnil ?_; first
               | refine z_list ?_)
               | (refine z_isop ?_; first
               | refine o_indexm tabOk rfl rfl rfl rfl (by omega) (by omega) (by decide) ?_
               | refine o_indexn tabOk rfl rfl rfl rfl (by omega) (by omega) (by decide) ?_
               | (refine z_isbin ?_; first
               | (refine z_isb .add ?_; first
               | refine o_add rfl rfl (by omega) (by omega) (by decide) ?_)
               | (refine z_isb .eql ?_; first
               | refine o_eq rfl rfl (by decide) ?_)
               | (refine z_isb .lss ?_; first
               | refine o_lt rfl rfl (by decide) ?_))
               | (refine z_isload ?_; first
               | (refine z_ld1 tabOk rfl rfl ?_; first
               | refine o_loadm tabOk rfl rfl rfl (by repeat' (first | exact List.mem_cons_self | apply List.mem_cons_of_mem)) (by first | rfl | rfl) (by decide) ?_))
               | (refine z_isstore ?_; first
               | (refine z_stw rfl ?_; first
               | ((refine z_sti 0 rfl rfl ?_; refine o_storeb0 rfl tabOk rfl rfl rfl (by first | rfl | rfl) (by first | rfl | rfl) (by first | rfl | rfl) ?_))))
               | (refine z_ispick ?_; first
               | (refine o_pick0 rfl (by first | with_reducible rfl | with_reducible assumption | ((with_reducible refine decide_eq_false ?_); first | with_reducible assumption | omega)) rfl (by decide) ?_))
               | refine o_move rfl (by decide) ?_
               | refine o_assign rfl (by decide) ?_
               | refine o_nil rfl (by decide) ?_
               | refine o_field0 tabOk rfl rfl rfl rfl rfl (by decide) ?_))
          · by_cases h3 : (s : Int) = sp
            · exfalso; omega
            · skip
              repeat' (first
               | ((refine z_isdst 12 ?_; refine o_alloca (e := 27) (vs := [.bool false, .int .i64 0, .bool false]) rfl (by kernel_rfl) (by decide) fun g12 => ?_))
               | ((refine z_isdst 29 ?_; refine o_loadrw tabOk (cells_rds 0 rfl) rfl rfl rfl (es := [.bool _, .int .i64 (fM M s p), .bool (wM M s p)]) rfl (Nat.succ_pos _) hel (by decide) ?_))
               | (refine s_is ?_; first
               | (refine s_isagain ?_; first
               | (exact c_again (p + 1) (by omega) (by omega) ⟨rfl, rfl, rfl, rfl, (by rw [show s * 32 + (p + 1) = s * 32 + p + 1 from rfl, hn]; rfl), rfl, rfl, trivial⟩ (fun w h => by rw [show s * 32 + (p + 1) = s * 32 + p + 1 from rfl, hr]; exact ((h.sel 2 [1, 0] (by decide)).mask [true, false]))))
               | (refine s_isw ?_; first
               | refine c_seq ?_
               | refine c_block ?_
               | refine c_region ?_
               | refine c_skip ?_
               | (refine s_iscond ?_; first
               | (refine c_true rfl (by first | with_reducible rfl | with_reducible assumption | ((with_reducible refine decide_eq_true ?_); first | with_reducible rfl | with_reducible assumption | omega)) ?_)
               | (refine c_false rfl (by first | with_reducible rfl | with_reducible assumption | ((with_reducible refine decide_eq_false ?_); first | with_reducible assumption | omega)) ?_))))
               | (refine z_isg1 ?_; first
               | refine z_skipu (by decide) rfl rfl ?_
               | (refine z_skip1 (by decide) rfl rfl (by first | with_reducible rfl | with_reducible assumption | ((with_reducible refine decide_eq_false ?_); first | with_reducible assumption | omega)) ?_))
               | (refine z_isg0 ?_; first
               | refine z_skipu (by decide) rfl rfl ?_)
               | (refine z_isnil ?_; first
               | refine z_list ?_)
               | (refine z_isop ?_; first
               | refine o_indexm tabOk rfl rfl rfl rfl (by omega) (by omega) (by decide) ?_
               | refine o_indexn tabOk rfl rfl rfl rfl (by omega) (by omega) (by decide) ?_
               | (refine z_isbin ?_; first
               | (refine z_isb .add ?_; first
               | refine o_add rfl rfl (by omega) (by omega) (by decide) ?_)
               | (refine z_isb .eql ?_; first
               | refine o_eq rfl rfl (by decide) ?_)
               | (refine z_isb .lss ?_; first
               | refine o_lt rfl rfl (by decide) ?_))
               | (refine z_isload ?_; first
               | (refine z_ld1 tabOk rfl rfl ?_; first
               | refine o_loadm tabOk rfl rfl rfl (by repeat' (first | exact List.mem_cons_self | apply List.mem_cons_of_mem)) (by first | rfl | rfl) (by decide) ?_))
               | (refine z_isstore ?_; first
               | (refine z_stw rfl ?_; first
               | ((refine z_sti 0 rfl rfl ?_; refine o_storeb0 rfl tabOk rfl rfl rfl (by first | rfl | rfl) (by first | rfl | rfl) (by first | rfl | rfl) ?_))))
               | (refine z_ispick ?_; first
               | (refine o_pick0 rfl (by first | with_reducible rfl | with_reducible assumption | ((with_reducible refine decide_eq_false ?_); first | with_reducible assumption | omega)) rfl (by decide) ?_))
               | refine o_move rfl (by decide) ?_
               | refine o_assign rfl (by decide) ?_
               | refine o_nil rfl (by decide) ?_
               | refine o_field0 tabOk rfl rfl rfl rfl rfl (by decide) ?_))
        · by_cases h3 : (s : Int) = sp
          · by_cases h4 : pg < 0
            · skip
              repeat' (first
               | ((refine z_isdst 12 ?_; refine o_alloca (e := 27) (vs := [.bool false, .int .i64 0, .bool false]) rfl (by kernel_rfl) (by decide) fun g12 => ?_))
               | ((refine z_isdst 29 ?_; refine o_loadrw tabOk (cells_rds 0 rfl) rfl rfl rfl (es := [.bool _, .int .i64 (fM M s p), .bool (wM M s p)]) rfl (Nat.succ_pos _) hel (by decide) ?_))
               | (refine s_is ?_; first
               | (refine s_isagain ?_; first
               | (exact c_again (p + 1) (by omega) (by omega) ⟨rfl, rfl, rfl, rfl, (by rw [show s * 32 + (p + 1) = s * 32 + p + 1 from rfl, hn]; rfl), rfl, rfl, trivial⟩ (fun w h => by rw [show s * 32 + (p + 1) = s * 32 + p + 1 from rfl, hr]; exact ((h.sel 2 [1, 0] (by decide)).mask [true, false]))))
               | (refine s_isw ?_; first
               | refine c_seq ?_
               | refine c_block ?_
               | refine c_region ?_
               | refine c_skip ?_
               | (refine s_iscond ?_; first
               | (refine c_true rfl (by first | with_reducible rfl | with_reducible assumption | ((with_reducible refine decide_eq_true ?_); first | with_reducible rfl | with_reducible assumption | omega)) ?_)
               | (refine c_false rfl (by first | with_reducible rfl | with_reducible assumption | ((with_reducible refine decide_eq_false ?_); first | with_reducible assumption | omega)) ?_))))
               | (refine z_isg1 ?_; first
               | (refine z_want1 rfl rfl (by first | with_reducible rfl | with_reducible assumption | ((with_reducible refine decide_eq_true ?_); first | with_reducible rfl | with_reducible assumption | omega)) ?_)
               | (refine z_skip1 (by decide) rfl rfl (by first | with_reducible rfl | with_reducible assumption | ((with_reducible refine decide_eq_false ?_); first | with_reducible assumption | omega)) ?_))
               | (refine z_isg0 ?_; first
               | (refine z_skip0 (by decide) rfl rfl (by first | with_reducible rfl | with_reducible assumption | ((with_reducible refine decide_eq_true ?_); first | with_reducible rfl | with_reducible assumption | omega)) ?_))
               | (refine z_isnil ?_; first
               | refine z_list ?_)
               | (refine z_isop ?_; first
               | refine o_indexm tabOk rfl rfl rfl rfl (by omega) (by omega) (by decide) ?_
               | refine o_indexn tabOk rfl rfl rfl rfl (by omega) (by omega) (by decide) ?_
               | (refine z_isbin ?_; first
               | (refine z_isb .add ?_; first
               | refine o_add rfl rfl (by omega) (by omega) (by decide) ?_)
               | (refine z_isb .eql ?_; first
               | refine o_eq rfl rfl (by decide) ?_)
               | (refine z_isb .lss ?_; first
               | refine o_lt rfl rfl (by decide) ?_))
               | (refine z_isload ?_; first
               | (refine z_ld1 tabOk rfl rfl ?_; first
               | refine o_loadm tabOk rfl rfl rfl (by repeat' (first | exact List.mem_cons_self | apply List.mem_cons_of_mem)) (by first | rfl | rfl) (by decide) ?_))
               | (refine z_isstore ?_; first
               | (refine z_stw rfl ?_; first
               | ((refine z_sti 0 rfl rfl ?_; refine o_storeb0 rfl tabOk rfl rfl rfl (by first | rfl | rfl) (by first | rfl | rfl) (by first | rfl | rfl) ?_))))
               | (refine z_ispick ?_; first
               | (refine o_pick1 rfl (by first | with_reducible rfl | with_reducible assumption | ((with_reducible refine decide_eq_true ?_); first | with_reducible rfl | with_reducible assumption | omega)) rfl (by decide) ?_)
               | (refine o_pick0 rfl (by first | with_reducible rfl | with_reducible assumption | ((with_reducible refine decide_eq_false ?_); first | with_reducible assumption | omega)) rfl (by decide) ?_))
               | refine o_move rfl (by decide) ?_
               | refine o_assign rfl (by decide) ?_
               | refine o_nil rfl (by decide) ?_
               | refine o_field0 tabOk rfl rfl rfl rfl rfl (by decide) ?_))
            · by_cases h5 : (p : Int) = pg
              · skip
                repeat' (first
                 | ((refine z_isdst 12 ?_; refine o_alloca (e := 27) (vs := [.bool false, .int .i64 0, .bool false]) rfl (by kernel_rfl) (by decide) fun g12 => ?_))
                 | ((refine z_isdst 29 ?_; refine o_loadrw tabOk (cells_rds 0 rfl) rfl rfl rfl (es := [.bool _, .int .i64 (fM M s p), .bool (wM M s p)]) rfl (Nat.succ_pos _) hel (by decide) ?_))
                 | (refine s_is ?_; first
                 | (refine s_isagain ?_; first
                 | (exact c_again (p + 1) (by omega) (by omega) ⟨rfl, rfl, rfl, rfl, (by rw [show s * 32 + (p + 1) = s * 32 + p + 1 from rfl, hn]; rfl), rfl, rfl, trivial⟩ (fun w h => by rw [show s * 32 + (p + 1) = s * 32 + p + 1 from rfl, hr]; exact ((h.sel 2 [1, 0] (by decide)).mask [true, false]))))
                 | (refine s_isw ?_; first
                 | refine c_seq ?_
                 | refine c_block ?_
                 | refine c_region ?_
                 | refine c_skip ?_
                 | (refine s_iscond ?_; first
                 | (refine c_true rfl (by first | with_reducible rfl | with_reducible assumption | ((with_reducible refine decide_eq_true ?_); first | with_reducible rfl | with_reducible assumption | omega)) ?_)
                 | (refine c_false rfl (by first | with_reducible rfl | with_reducible assumption | ((with_reducible refine decide_eq_false ?_); first | with_reducible assumption | omega)) ?_))))
                 | (refine z_isg1 ?_; first
                 | (refine z_want1 rfl rfl (by first | with_reducible rfl | with_reducible assumption | ((with_reducible refine decide_eq_true ?_); first | with_reducible rfl | with_reducible assumption | omega)) ?_)
                 | (refine z_skip1 (by decide) rfl rfl (by first | with_reducible rfl | with_reducible assumption | ((with_reducible refine decide_eq_false ?_); first | with_reducible assumption | omega)) ?_))
                 | (refine z_isg0 ?_; first
                 | (refine z_want0 rfl rfl (by first | with_reducible rfl | with_reducible assumption | ((with_reducible refine decide_eq_false ?_); first | with_reducible assumption | omega)) ?_))
                 | (refine z_isnil ?_; first
                 | refine z_list ?_)
                 | (refine z_isop ?_; first
                 | refine o_indexm tabOk rfl rfl rfl rfl (by omega) (by omega) (by decide) ?_
                 | refine o_indexn tabOk rfl rfl rfl rfl (by omega) (by omega) (by decide) ?_
                 | (refine z_isbin ?_; first
                 | (refine z_isb .add ?_; first
                 | refine o_add rfl rfl (by omega) (by omega) (by decide) ?_)
                 | (refine z_isb .eql ?_; first
                 | refine o_eq rfl rfl (by decide) ?_)
                 | (refine z_isb .lss ?_; first
                 | refine o_lt rfl rfl (by decide) ?_))
                 | (refine z_isload ?_; first
                 | (refine z_ld1 tabOk rfl rfl ?_; first
                 | refine o_loadm tabOk rfl rfl rfl (by repeat' (first | exact List.mem_cons_self | apply List.mem_cons_of_mem)) (by first | rfl | rfl) (by decide) ?_))
                 | (refine z_isstore ?_; first
                 | (refine z_stw rfl ?_; first
                 | ((refine z_sti 0 rfl rfl ?_; refine o_storeb0 rfl tabOk rfl rfl rfl (by first | rfl | rfl) (by first | rfl | rfl) (by first | rfl | rfl) ?_))))
                 | (refine z_ispick ?_; first
                 | (refine o_pick1 rfl (by first | with_reducible rfl | with_reducible assumption | ((with_reducible refine decide_eq_true ?_); first | with_reducible rfl | with_reducible assumption | omega)) rfl (by decide) ?_)
                 | (refine o_pick0 rfl (by first | with_reducible rfl | with_reducible assumption | ((with_reducible refine decide_eq_false ?_); first | with_reducible assumption | omega)) rfl (by decide) ?_))
                 | refine o_move rfl (by decide) ?_
                 | refine o_assign rfl (by decide) ?_
                 | refine o_nil rfl (by decide) ?_
                 | refine o_field0 tabOk rfl rfl rfl rfl rfl (by decide) ?_))
              · skip
                repeat' (first
                 | ((refine z_isdst 12 ?_; refine o_alloca (e := 27) (vs := [.bool false, .int .i64 0, .bool false]) rfl (by kernel_rfl) (by decide) fun g12 => ?_))
                 | ((refine z_isdst 29 ?_; refine o_loadrw tabOk (cells_rds 0 rfl) rfl rfl rfl (es := [.bool _, .int .i64 (fM M s p), .bool (wM M s p)]) rfl (Nat.succ_pos _) hel (by decide) ?_))
                 | (refine s_is ?_; first
                 | (refine s_isagain ?_; first
                 | (exact c_again (p + 1) (by omega) (by omega) ⟨rfl, rfl, rfl, rfl, (by rw [show s * 32 + (p + 1) = s * 32 + p + 1 from rfl, hn]; rfl), rfl, rfl, trivial⟩ (fun w h => by rw [show s * 32 + (p + 1) = s * 32 + p + 1 from rfl, hr]; exact ((h.sel 2 [1, 0] (by decide)).mask [true, false]))))
                 | (refine s_isw ?_; first
                 | refine c_seq ?_
                 | refine c_block ?_
                 | refine c_region ?_
                 | refine c_skip ?_
                 | (refine s_iscond ?_; first
                 | (refine c_true rfl (by first | with_reducible rfl | with_reducible assumption | ((with_reducible refine decide_eq_true ?_); first | with_reducible rfl | with_reducible assumption | omega)) ?_)
                 | (refine c_false rfl (by first | with_reducible rfl | with_reducible assumption | ((with_reducible refine decide_eq_false ?_); first | with_reducible assumption | omega)) ?_))))
                 | (refine z_isg1 ?_; first
                 | (refine z_want1 rfl rfl (by first | with_reducible rfl | with_reducible assumption | ((with_reducible refine decide_eq_true ?_); first | with_reducible rfl | with_reducible assumption | omega)) ?_)
                 | (refine z_skip1 (by decide) rfl rfl (by first | with_reducible rfl | with_reducible assumption | ((with_reducible refine decide_eq_false ?_); first | with_reducible assumption | omega)) ?_))
                 | (refine z_isg0 ?_; first
                 | (refine z_want0 rfl rfl (by first | with_reducible rfl | with_reducible assumption | ((with_reducible refine decide_eq_false ?_); first | with_reducible assumption | omega)) ?_))
                 | (refine z_isnil ?_; first
                 | refine z_list ?_)
                 | (refine z_isop ?_; first
                 | refine o_indexm tabOk rfl rfl rfl rfl (by omega) (by omega) (by decide) ?_
                 | refine o_indexn tabOk rfl rfl rfl rfl (by omega) (by omega) (by decide) ?_
                 | (refine z_isbin ?_; first
                 | (refine z_isb .add ?_; first
                 | refine o_add rfl rfl (by omega) (by omega) (by decide) ?_)
                 | (refine z_isb .eql ?_; first
                 | refine o_eq rfl rfl (by decide) ?_)
                 | (refine z_isb .lss ?_; first
                 | refine o_lt rfl rfl (by decide) ?_))
                 | (refine z_isload ?_; first
                 | (refine z_ld1 tabOk rfl rfl ?_; first
                 | refine o_loadm tabOk rfl rfl rfl (by repeat' (first | exact List.mem_cons_self | apply List.mem_cons_of_mem)) (by first | rfl | rfl) (by decide) ?_))
                 | (refine z_isstore ?_; first
                 | (refine z_stw rfl ?_; first
                 | ((refine z_sti 0 rfl rfl ?_; refine o_storeb0 rfl tabOk rfl rfl rfl (by first | rfl | rfl) (by first | rfl | rfl) (by first | rfl | rfl) ?_))))
                 | (refine z_ispick ?_; first
                 | (refine o_pick1 rfl (by first | with_reducible rfl | with_reducible assumption | ((with_reducible refine decide_eq_true ?_); first | with_reducible rfl | with_reducible assumption | omega)) rfl (by decide) ?_)
                 | (refine o_pick0 rfl (by first | with_reducible rfl | with_reducible assumption | ((with_reducible refine decide_eq_false ?_); first | with_reducible assumption | omega)) rfl (by decide) ?_))
                 | refine o_move rfl (by decide) ?_
                 | refine o_assign rfl (by decide) ?_
                 | refine o_nil rfl (by decide) ?_
                 | refine o_field0 tabOk rfl rfl rfl rfl rfl (by decide) ?_))
          · skip
            repeat' (first
             | ((refine z_isdst 12 ?_; refine o_alloca (e := 27) (vs := [.bool false, .int .i64 0, .bool false]) rfl (by kernel_rfl) (by decide) fun g12 => ?_))
             | ((refine z_isdst 29 ?_; refine o_loadrw tabOk (cells_rds 0 rfl) rfl rfl rfl (es := [.bool _, .int .i64 (fM M s p), .bool (wM M s p)]) rfl (Nat.succ_pos _) hel (by decide) ?_))
             | (refine s_is ?_; first
             | (refine s_isagain ?_; first
             | (exact c_again (p + 1) (by omega) (by omega) ⟨rfl, rfl, rfl, rfl, (by rw [show s * 32 + (p + 1) = s * 32 + p + 1 from rfl, hn]; rfl), rfl, rfl, trivial⟩ (fun w h => by rw [show s * 32 + (p + 1) = s * 32 + p + 1 from rfl, hr]; exact ((h.sel 2 [1, 0] (by decide)).mask [true, false]))))
             | (refine s_isw ?_; first
             | refine c_seq ?_
             | refine c_block ?_
             | refine c_region ?_
             | refine c_skip ?_
             | (refine s_iscond ?_; first
             | (refine c_true rfl (by first | with_reducible rfl | with_reducible assumption | ((with_reducible refine decide_eq_true ?_); first | with_reducible rfl | with_reducible assumption | omega)) ?_)
             | (refine c_false rfl (by first | with_reducible rfl | with_reducible assumption | ((with_reducible refine decide_eq_false ?_); first | with_reducible assumption | omega)) ?_))))
             | (refine z_isg1 ?_; first
             | refine z_skipu (by decide) rfl rfl ?_
             | (refine z_skip1 (by decide) rfl rfl (by first | with_reducible rfl | with_reducible assumption | ((with_reducible refine decide_eq_false ?_); first | with_reducible assumption | omega)) ?_))
             | (refine z_isg0 ?_; first
             | refine z_skipu (by decide) rfl rfl ?_)
             | (refine z_isnil ?_; first
             | refine z_list ?_)
             | (refine z_isop ?_; first
             | refine o_indexm tabOk rfl rfl rfl rfl (by omega) (by omega) (by decide) ?_
             | refine o_indexn tabOk rfl rfl rfl rfl (by omega) (by omega) (by decide) ?_
             | (refine z_isbin ?_; first
             | (refine z_isb .add ?_; first
             | refine o_add rfl rfl (by omega) (by omega) (by decide) ?_)
             | (refine z_isb .eql ?_; first
             | refine o_eq rfl rfl (by decide) ?_)
             | (refine z_isb .lss ?_; first
             | refine o_lt rfl rfl (by decide) ?_))
             | (refine z_isload ?_; first
             | (refine z_ld1 tabOk rfl rfl ?_; first
             | refine o_loadm tabOk rfl rfl rfl (by repeat' (first | exact List.mem_cons_self | apply List.mem_cons_of_mem)) (by first | rfl | rfl) (by decide) ?_))
             | (refine z_isstore ?_; first
             | (refine z_stw rfl ?_; first
             | ((refine z_sti 0 rfl rfl ?_; refine o_storeb0 rfl tabOk rfl rfl rfl (by first | rfl | rfl) (by first | rfl | rfl) (by first | rfl | rfl) ?_))))
             | (refine z_ispick ?_; first
             | (refine o_pick0 rfl (by first | with_reducible rfl | with_reducible assumption | ((with_reducible refine decide_eq_false ?_); first | with_reducible assumption | omega)) rfl (by decide) ?_))
             | refine o_move rfl (by decide) ?_
             | refine o_assign rfl (by decide) ?_
             | refine o_nil rfl (by decide) ?_
             | refine o_field0 tabOk rfl rfl rfl rfl rfl (by decide) ?_))
      | true =>
        rw [Bool.true_and] at hdm
        by_cases h1 : sp < 0
        · rw [if_pos h1] at hmn
          have h3 : ¬ (s : Int) = sp := by omega
          by_cases h2 : fM M s p = fm
          · rw [hmn, decide_eq_true h2] at hdm
            have hn := al_yes hdm
            have hr := hyes hdm
            repeat' (first
             | ((refine z_isdst 12 ?_; refine o_alloca (e := 27) (vs := [.bool false, .int .i64 0, .bool false]) rfl (by kernel_rfl) (by decide) fun g12 => ?_))
             | ((refine z_isdst 29 ?_; refine o_loadrw tabOk (cells_rds 0 rfl) rfl rfl rfl (es := [.bool _, .int .i64 (fM M s p), .bool (wM M s p)]) rfl (Nat.succ_pos _) hel (by decide) ?_))
             | ((refine z_isdst 56 ?_; refine o_build0 (t := 27) (v := .agg #[.bool false, .int .i64 0, .bool false]) (fun _ => by kernel_rfl) (by decide) ?_))
             | (refine s_is ?_; first
             | (refine s_isagain ?_; first
             | (exact c_again (p + 1) (by omega) (by omega) ⟨rfl, rfl, rfl, rfl, (by rw [show s * 32 + (p + 1) = s * 32 + p + 1 from rfl, hn, List.length_append]; rfl), rfl, rfl, trivial⟩ (fun w h => by rw [show s * 32 + (p + 1) = s * 32 + p + 1 from rfl, ← hr]; exact ((h.sel 2 [1, 0] (by decide)).mask [true, false]))))
             | (refine s_isw ?_; first
             | refine c_seq ?_
             | refine c_block ?_
             | refine c_region ?_
             | refine c_skip ?_
             | (refine s_iscond ?_; first
             | (refine c_true rfl (by first | with_reducible rfl | with_reducible assumption | ((with_reducible refine decide_eq_true ?_); first | with_reducible rfl | with_reducible assumption | omega)) ?_))))
             | (refine z_isg1 ?_; first
             | refine z_skipu (by decide) rfl rfl ?_
             | (refine z_want1 rfl rfl (by first | with_reducible rfl | with_reducible assumption | ((with_reducible refine decide_eq_true ?_); first | with_reducible rfl | with_reducible assumption | omega)) ?_)
             | (refine z_skip1 (by decide) rfl rfl (by first | with_reducible rfl | with_reducible assumption | ((with_reducible refine decide_eq_false ?_); first | with_reducible assumption | omega)) ?_))
             | (refine z_isg0 ?_; first
             | refine z_skipu (by decide) rfl rfl ?_)
             | (refine z_isnil ?_; first
             | refine z_list ?_)
             | (refine z_isop ?_; first
             | refine o_indexm tabOk rfl rfl rfl rfl (by omega) (by omega) (by decide) ?_
             | refine o_indexn tabOk rfl rfl rfl rfl (by omega) (by omega) (by decide) ?_
             | (refine z_isbin ?_; first
             | (refine z_isb .add ?_; first
             | refine o_add rfl rfl (by omega) (by omega) (by decide) ?_)
             | (refine z_isb .eql ?_; first
             | refine o_eq rfl rfl (by decide) ?_)
             | (refine z_isb .lss ?_; first
             | refine o_lt rfl rfl (by decide) ?_))
             | (refine z_isload ?_; first
             | (refine z_ld1 tabOk rfl rfl ?_; first
             | refine o_loadm tabOk rfl rfl rfl (by repeat' (first | exact List.mem_cons_self | apply List.mem_cons_of_mem)) (by first | rfl | rfl) (by decide) ?_))
             | (refine z_isstore ?_; first
             | (refine o_storew_at rfl 1 tabOk rfl rfl rfl rfl (vs := [.bool false, .int .i64 0, .bool false]) rfl rfl (by show s * 96 + p * 3 + 3 ≤ _; omega) hput ?_)
             | (refine z_stw rfl ?_; first
             | ((refine z_sti 0 rfl rfl ?_; refine o_storeb0 rfl tabOk rfl rfl rfl (by first | rfl | rfl) (by first | rfl | rfl) (by first | rfl | rfl) ?_))))
             | (refine z_ispick ?_; first
             | (refine o_pick1 rfl (by first | with_reducible rfl | with_reducible assumption | ((with_reducible refine decide_eq_true ?_); first | with_reducible rfl | with_reducible assumption | omega)) rfl (by decide) ?_)
             | (refine o_pick0 rfl (by first | with_reducible rfl | with_reducible assumption | ((with_reducible refine decide_eq_false ?_); first | with_reducible assumption | omega)) rfl (by decide) ?_))
             | refine o_move rfl (by decide) ?_
             | refine o_assign rfl (by decide) ?_
             | refine o_nil rfl (by decide) ?_
             | refine o_field0 tabOk rfl rfl rfl rfl rfl (by decide) ?_))
          · rw [hmn, decide_eq_false h2] at hdm
            have hn := al_no hdm
            have hr := rmM_no (M := M) hdm
            repeat' (first
             | ((refine z_isdst 12 ?_; refine o_alloca (e := 27) (vs := [.bool false, .int .i64 0, .bool false]) rfl (by kernel_rfl) (by decide) fun g12 => ?_))
             | ((refine z_isdst 29 ?_; refine o_loadrw tabOk (cells_rds 0 rfl) rfl rfl rfl (es := [.bool _, .int .i64 (fM M s p), .bool (wM M s p)]) rfl (Nat.succ_pos _) hel (by decide) ?_))
             | (refine s_is ?_; first
             | (refine s_isagain ?_; first
             | (exact c_again (p + 1) (by omega) (by omega) ⟨rfl, rfl, rfl, rfl, (by rw [show s * 32 + (p + 1) = s * 32 + p + 1 from rfl, hn]; rfl), rfl, rfl, trivial⟩ (fun w h => by rw [show s * 32 + (p + 1) = s * 32 + p + 1 from rfl, hr]; exact ((h.sel 2 [1, 0] (by decide)).mask [true, false]))))
             | (refine s_isw ?_; first
             | refine c_seq ?_
             | refine c_block ?_
             | refine c_region ?_
             | refine c_skip ?_
             | (refine s_iscond ?_; first
             | (refine c_true rfl (by first | with_reducible rfl | with_reducible assumption | ((with_reducible refine decide_eq_true ?_); first | with_reducible rfl | with_reducible assumption | omega)) ?_)
             | (refine c_false rfl (by first | with_reducible rfl | with_reducible assumption | ((with_reducible refine decide_eq_false ?_); first | with_reducible assumption | omega)) ?_))))
             | (refine z_isg1 ?_; first
             | refine z_skipu (by decide) rfl rfl ?_
             | (refine z_want1 rfl rfl (by first | with_reducible rfl | with_reducible assumption | ((with_reducible refine decide_eq_true ?_); first | with_reducible rfl | with_reducible assumption | omega)) ?_)
             | (refine z_skip1 (by decide) rfl rfl (by first | with_reducible rfl | with_reducible assumption | ((with_reducible refine decide_eq_false ?_); first | with_reducible assumption | omega)) ?_))
             | (refine z_isg0 ?_; first
             | refine z_skipu (by decide) rfl rfl ?_)
             | (refine z_isnil ?_; first
             | refine z_list ?_)
             | (refine z_isop ?_; first
             | refine o_indexm tabOk rfl rfl rfl rfl (by omega) (by omega) (by decide) ?_
             | refine o_indexn tabOk rfl rfl rfl rfl (by omega) (by omega) (by decide) ?_
             | (refine z_isbin ?_; first
             | (refine z_isb .add ?_; first
             | refine o_add rfl rfl (by omega) (by omega) (by decide) ?_)
             | (refine z_isb .eql ?_; first
             | refine o_eq rfl rfl (by decide) ?_)
             | (refine z_isb .lss ?_; first
             | refine o_lt rfl rfl (by decide) ?_))
             | (refine z_isload ?_; first
             | (refine z_ld1 tabOk rfl rfl ?_; first
             | refine o_loadm tabOk rfl rfl rfl (by repeat' (first | exact List.mem_cons_self | apply List.mem_cons_of_mem)) (by first | rfl | rfl) (by decide) ?_))
             | (refine z_isstore ?_; first
             | (refine z_stw rfl ?_; first
             | ((refine z_sti 0 rfl rfl ?_; refine o_storeb0 rfl tabOk rfl rfl rfl (by first | rfl | rfl) (by first | rfl | rfl) (by first | rfl | rfl) ?_))))
             | (refine z_ispick ?_; first
             | (refine o_pick1 rfl (by first | with_reducible rfl | with_reducible assumption | ((with_reducible refine decide_eq_true ?_); first | with_reducible rfl | with_reducible assumption | omega)) rfl (by decide) ?_)
             | (refine o_pick0 rfl (by first | with_reducible rfl | with_reducible assumption | ((with_reducible refine decide_eq_false ?_); first | with_reducible assumption | omega)) rfl (by decide) ?_))
             | refine o_move rfl (by decide) ?_
             | refine o_assign rfl (by decide) ?_
             | refine o_nil rfl (by decide) ?_
             | refine o_field0 tabOk rfl rfl rfl rfl rfl (by decide) ?_))
        · rw [if_neg h1] at hmn
          by_cases h3 : (s : Int) = sp
          · by_cases h4 : pg < 0
            · rw [hmn, decide_eq_true h3, decide_eq_true h4, Bool.true_or, Bool.true_and] at hdm
              have hn := al_yes hdm
              have hr := hyes hdm
              repeat' (first
               | ((refine z_isdst 12 ?_; refine o_alloca (e := 27) (vs := [.bool false, .int .i64 0, .bool false]) rfl (by kernel_rfl) (by decide) fun g12 => ?_))
               | ((refine z_isdst 29 ?_; refine o_loadrw tabOk (cells_rds 0 rfl) rfl rfl rfl (es := [.bool _, .int .i64 (fM M s p), .bool (wM M s p)]) rfl (Nat.succ_pos _) hel (by decide) ?_))
               | ((refine z_isdst 56 ?_; refine o_build0 (t := 27) (v := .agg #[.bool false, .int .i64 0, .bool false]) (fun _ => by kernel_rfl) (by decide) ?_))
               | (refine s_is ?_; first
               | (refine s_isagain ?_; first
               | (exact c_again (p + 1) (by omega) (by omega) ⟨rfl, rfl, rfl, rfl, (by rw [show s * 32 + (p + 1) = s * 32 + p + 1 from rfl, hn, List.length_append]; rfl), rfl, rfl, trivial⟩ (fun w h => by rw [show s * 32 + (p + 1) = s * 32 + p + 1 from rfl, ← hr]; exact ((h.sel 2 [1, 0] (by decide)).mask [true, false]))))
               | (refine s_isw ?_; first
               | refine c_seq ?_
               | refine c_block ?_
               | refine c_region ?_
               | refine c_skip ?_
               | (refine s_iscond ?_; first
               | (refine c_true rfl (by first | with_reducible rfl | with_reducible assumption | ((with_reducible refine decide_eq_true ?_); first | with_reducible rfl | with_reducible assumption | omega)) ?_)
               | (refine c_false rfl (by first | with_reducible rfl | with_reducible assumption | ((with_reducible refine decide_eq_false ?_); first | with_reducible assumption | omega)) ?_))))
               | (refine z_isg1 ?_; first
               | (refine z_want1 rfl rfl (by first | with_reducible rfl | with_reducible assumption | ((with_reducible refine decide_eq_true ?_); first | with_reducible rfl | with_reducible assumption | omega)) ?_))
               | (refine z_isg0 ?_; first
               | (refine z_skip0 (by decide) rfl rfl (by first | with_reducible rfl | with_reducible assumption | ((with_reducible refine decide_eq_true ?_); first | with_reducible rfl | with_reducible assumption | omega)) ?_))
               | (refine z_isnil ?_; first
               | refine z_list ?_)
               | (refine z_isop ?_; first
               | refine o_indexm tabOk rfl rfl rfl rfl (by omega) (by omega) (by decide) ?_
               | refine o_indexn tabOk rfl rfl rfl rfl (by omega) (by omega) (by decide) ?_
               | (refine z_isbin ?_; first
               | (refine z_isb .add ?_; first
               | refine o_add rfl rfl (by omega) (by omega) (by decide) ?_)
               | (refine z_isb .eql ?_; first
               | refine o_eq rfl rfl (by decide) ?_)
               | (refine z_isb .lss ?_; first
               | refine o_lt rfl rfl (by decide) ?_))
               | (refine z_isload ?_; first
               | (refine z_ld1 tabOk rfl rfl ?_; first
               | refine o_loadm tabOk rfl rfl rfl (by repeat' (first | exact List.mem_cons_self | apply List.mem_cons_of_mem)) (by first | rfl | rfl) (by decide) ?_))
               | (refine z_isstore ?_; first
               | (refine o_storew_at rfl 1 tabOk rfl rfl rfl rfl (vs := [.bool false, .int .i64 0, .bool false]) rfl rfl (by show s * 96 + p * 3 + 3 ≤ _; omega) hput ?_)
               | (refine z_stw rfl ?_; first
               | ((refine z_sti 0 rfl rfl ?_; refine o_storeb0 rfl tabOk rfl rfl rfl (by first | rfl | rfl) (by first | rfl | rfl) (by first | rfl | rfl) ?_))))
               | (refine z_ispick ?_; first
               | (refine o_pick1 rfl (by first | with_reducible rfl | with_reducible assumption | ((with_reducible refine decide_eq_true ?_); first | with_reducible rfl | with_reducible assumption | omega)) rfl (by decide) ?_))
               | refine o_move rfl (by decide) ?_
               | refine o_assign rfl (by decide) ?_
               | refine o_nil rfl (by decide) ?_
               | refine o_field0 tabOk rfl rfl rfl rfl rfl (by decide) ?_))
            · by_cases h5 : (p : Int) = pg
              · rw [hmn, decide_eq_true h3, decide_eq_true h5, Bool.or_true, Bool.true_and] at hdm
                have hn := al_yes hdm
                have hr := hyes hdm
                repeat' (first
                 | ((refine z_isdst 12 ?_; refine o_alloca (e := 27) (vs := [.bool false, .int .i64 0, .bool false]) rfl (by kernel_rfl) (by decide) fun g12 => ?_))
                 | ((refine z_isdst 29 ?_; refine o_loadrw tabOk (cells_rds 0 rfl) rfl rfl rfl (es := [.bool _, .int .i64 (fM M s p), .bool (wM M s p)]) rfl (Nat.succ_pos _) hel (by decide) ?_))
                 | ((refine z_isdst 56 ?_; refine o_build0 (t := 27) (v := .agg #[.bool false, .int .i64 0, .bool false]) (fun _ => by kernel_rfl) (by decide) ?_))
                 | (refine s_is ?_; first
                 | (refine s_isagain ?_; first
                 | (exact c_again (p + 1) (by omega) (by omega) ⟨rfl, rfl, rfl, rfl, (by rw [show s * 32 + (p + 1) = s * 32 + p + 1 from rfl, hn, List.length_append]; rfl), rfl, rfl, trivial⟩ (fun w h => by rw [show s * 32 + (p + 1) = s * 32 + p + 1 from rfl, ← hr]; exact ((h.sel 2 [1, 0] (by decide)).mask [true, false]))))
                 | (refine s_isw ?_; first
                 | refine c_seq ?_
                 | refine c_block ?_
                 | refine c_region ?_
                 | refine c_skip ?_
                 | (refine s_iscond ?_; first
                 | (refine c_true rfl (by first | with_reducible rfl | with_reducible assumption | ((with_reducible refine decide_eq_true ?_); first | with_reducible rfl | with_reducible assumption | omega)) ?_)
                 | (refine c_false rfl (by first | with_reducible rfl | with_reducible assumption | ((with_reducible refine decide_eq_false ?_); first | with_reducible assumption | omega)) ?_))))
                 | (refine z_isg1 ?_; first
                 | (refine z_want1 rfl rfl (by first | with_reducible rfl | with_reducible assumption | ((with_reducible refine decide_eq_true ?_); first | with_reducible rfl | with_reducible assumption | omega)) ?_))
                 | (refine z_isg0 ?_; first
                 | (refine z_want0 rfl rfl (by first | with_reducible rfl | with_reducible assumption | ((with_reducible refine decide_eq_false ?_); first | with_reducible assumption | omega)) ?_))
                 | (refine z_isnil ?_; first
                 | refine z_list ?_)
                 | (refine z_isop ?_; first
                 | refine o_indexm tabOk rfl rfl rfl rfl (by omega) (by omega) (by decide) ?_
                 | refine o_indexn tabOk rfl rfl rfl rfl (by omega) (by omega) (by decide) ?_
                 | (refine z_isbin ?_; first
                 | (refine z_isb .add ?_; first
                 | refine o_add rfl rfl (by omega) (by omega) (by decide) ?_)
                 | (refine z_isb .eql ?_; first
                 | refine o_eq rfl rfl (by decide) ?_)
                 | (refine z_isb .lss ?_; first
                 | refine o_lt rfl rfl (by decide) ?_))
                 | (refine z_isload ?_; first
                 | (refine z_ld1 tabOk rfl rfl ?_; first
                 | refine o_loadm tabOk rfl rfl rfl (by repeat' (first | exact List.mem_cons_self | apply List.mem_cons_of_mem)) (by first | rfl | rfl) (by decide) ?_))
                 | (refine z_isstore ?_; first
                 | (refine o_storew_at rfl 1 tabOk rfl rfl rfl rfl (vs := [.bool false, .int .i64 0, .bool false]) rfl rfl (by show s * 96 + p * 3 + 3 ≤ _; omega) hput ?_)
                 | (refine z_stw rfl ?_; first
                 | ((refine z_sti 0 rfl rfl ?_; refine o_storeb0 rfl tabOk rfl rfl rfl (by first | rfl | rfl) (by first | rfl | rfl) (by first | rfl | rfl) ?_))))
                 | (refine z_ispick ?_; first
                 | (refine o_pick1 rfl (by first | with_reducible rfl | with_reducible assumption | ((with_reducible refine decide_eq_true ?_); first | with_reducible rfl | with_reducible assumption | omega)) rfl (by decide) ?_)
                 | (refine o_pick0 rfl (by first | with_reducible rfl | with_reducible assumption | ((with_reducible refine decide_eq_false ?_); first | with_reducible assumption | omega)) rfl (by decide) ?_))
                 | refine o_move rfl (by decide) ?_
                 | refine o_assign rfl (by decide) ?_
                 | refine o_nil rfl (by decide) ?_
                 | refine o_field0 tabOk rfl rfl rfl rfl rfl (by decide) ?_))
              · rw [hmn, decide_eq_false h5, decide_eq_false h4, Bool.or_false, Bool.and_false] at hdm
                have hn := al_no hdm
                have hr := rmM_no (M := M) hdm
                repeat' (first
                 | ((refine z_isdst 12 ?_; refine o_alloca (e := 27) (vs := [.bool false, .int .i64 0, .bool false]) rfl (by kernel_rfl) (by decide) fun g12 => ?_))
                 | ((refine z_isdst 29 ?_; refine o_loadrw tabOk (cells_rds 0 rfl) rfl rfl rfl (es := [.bool _, .int .i64 (fM M s p), .bool (wM M s p)]) rfl (Nat.succ_pos _) hel (by decide) ?_))
                 | (refine s_is ?_; first
                 | (refine s_isagain ?_; first
                 | (exact c_again (p + 1) (by omega) (by omega) ⟨rfl, rfl, rfl, rfl, (by rw [show s * 32 + (p + 1) = s * 32 + p + 1 from rfl, hn]; rfl), rfl, rfl, trivial⟩ (fun w h => by rw [show s * 32 + (p + 1) = s * 32 + p + 1 from rfl, hr]; exact ((h.sel 2 [1, 0] (by decide)).mask [true, false]))))
                 | (refine s_isw ?_; first
                 | refine c_seq ?_
                 | refine c_block ?_
                 | refine c_region ?_
                 | refine c_skip ?_
                 | (refine s_iscond ?_; first
                 | (refine c_true rfl (by first | with_reducible rfl | with_reducible assumption | ((with_reducible refine decide_eq_true ?_); first | with_reducible rfl | with_reducible assumption | omega)) ?_)
                 | (refine c_false rfl (by first | with_reducible rfl | with_reducible assumption | ((with_reducible refine decide_eq_false ?_); first | with_reducible assumption | omega)) ?_))))
                 | (refine z_isg1 ?_; first
                 | (refine z_want1 rfl rfl (by first | with_reducible rfl | with_reducible assumption | ((with_reducible refine decide_eq_true ?_); first | with_reducible rfl | with_reducible assumption | omega)) ?_))
                 | (refine z_isg0 ?_; first
                 | (refine z_want0 rfl rfl (by first | with_reducible rfl | with_reducible assumption | ((with_reducible refine decide_eq_false ?_); first | with_reducible assumption | omega)) ?_))
                 | (refine z_isnil ?_; first
                 | refine z_list ?_)
                 | (refine z_isop ?_; first
                 | refine o_indexm tabOk rfl rfl rfl rfl (by omega) (by omega) (by decide) ?_
                 | refine o_indexn tabOk rfl rfl rfl rfl (by omega) (by omega) (by decide) ?_
                 | (refine z_isbin ?_; first
                 | (refine z_isb .add ?_; first
                 | refine o_add rfl rfl (by omega) (by omega) (by decide) ?_)
                 | (refine z_isb .eql ?_; first
                 | refine o_eq rfl rfl (by decide) ?_)
                 | (refine z_isb .lss ?_; first
                 | refine o_lt rfl rfl (by decide) ?_))
                 | (refine z_isload ?_; first
                 | (refine z_ld1 tabOk rfl rfl ?_; first
                 | refine o_loadm tabOk rfl rfl rfl (by repeat' (first | exact List.mem_cons_self | apply List.mem_cons_of_mem)) (by first | rfl | rfl) (by decide) ?_))
                 | (refine z_isstore ?_; first
                 | (refine z_stw rfl ?_; first
                 | ((refine z_sti 0 rfl rfl ?_; refine o_storeb0 rfl tabOk rfl rfl rfl (by first | rfl | rfl) (by first | rfl | rfl) (by first | rfl | rfl) ?_))))
                 | (refine z_ispick ?_; first
                 | (refine o_pick1 rfl (by first | with_reducible rfl | with_reducible assumption | ((with_reducible refine decide_eq_true ?_); first | with_reducible rfl | with_reducible assumption | omega)) rfl (by decide) ?_)
                 | (refine o_pick0 rfl (by first | with_reducible rfl | with_reducible assumption | ((with_reducible refine decide_eq_false ?_); first | with_reducible assumption | omega)) rfl (by decide) ?_))
                 | refine o_move rfl (by decide) ?_
                 | refine o_assign rfl (by decide) ?_
                 | refine o_nil rfl (by decide) ?_
                 | refine o_field0 tabOk rfl rfl rfl rfl rfl (by decide) ?_))
          · rw [hmn, decide_eq_false h3, Bool.false_and] at hdm
            have hn := al_no hdm
            have hr := rmM_no (M := M) hdm
            repeat' (first
             | ((refine z_isdst 12 ?_; refine o_alloca (e := 27) (vs := [.bool false, .int .i64 0, .bool false]) rfl (by kernel_rfl) (by decide) fun g12 => ?_))
             | ((refine z_isdst 29 ?_; refine o_loadrw tabOk (cells_rds 0 rfl) rfl rfl rfl (es := [.bool _, .int .i64 (fM M s p), .bool (wM M s p)]) rfl (Nat.succ_pos _) hel (by decide) ?_))
             | (refine s_is ?_; first
             | (refine s_isagain ?_; first
             | (exact c_again (p + 1) (by omega) (by omega) ⟨rfl, rfl, rfl, rfl, (by rw [show s * 32 + (p + 1) = s * 32 + p + 1 from rfl, hn]; rfl), rfl, rfl, trivial⟩ (fun w h => by rw [show s * 32 + (p + 1) = s * 32 + p + 1 from rfl, hr]; exact ((h.sel 2 [1, 0] (by decide)).mask [true, false]))))
             | (refine s_isw ?_; first
             | refine c_seq ?_
             | refine c_block ?_
             | refine c_region ?_
             | refine c_skip ?_
             | (refine s_iscond ?_; first
             | (refine c_true rfl (by first | with_reducible rfl | with_reducible assumption | ((with_reducible refine decide_eq_true ?_); first | with_reducible rfl | with_reducible assumption | omega)) ?_)
             | (refine c_false rfl (by first | with_reducible rfl | with_reducible assumption | ((with_reducible refine decide_eq_false ?_); first | with_reducible assumption | omega)) ?_))))
             | (refine z_isg1 ?_; first
             | refine z_skipu (by decide) rfl rfl ?_
             | (refine z_want1 rfl rfl (by first | with_reducible rfl | with_reducible assumption | ((with_reducible refine decide_eq_true ?_); first | with_reducible rfl | with_reducible assumption | omega)) ?_)
             | (refine z_skip1 (by decide) rfl rfl (by first | with_reducible rfl | with_reducible assumption | ((with_reducible refine decide_eq_false ?_); first | with_reducible assumption | omega)) ?_))
             | (refine z_isg0 ?_; first
             | refine z_skipu (by decide) rfl rfl ?_)
             | (refine z_isnil ?_; first
             | refine z_list ?_)
             | (refine z_isop ?_; first
             | refine o_indexm tabOk rfl rfl rfl rfl (by omega) (by omega) (by decide) ?_
             | refine o_indexn tabOk rfl rfl rfl rfl (by omega) (by omega) (by decide) ?_
             | (refine z_isbin ?_; first
             | (refine z_isb .add ?_; first
             | refine o_add rfl rfl (by omega) (by omega) (by decide) ?_)
             | (refine z_isb .eql ?_; first
             | refine o_eq rfl rfl (by decide) ?_)
             | (refine z_isb .lss ?_; first
             | refine o_lt rfl rfl (by decide) ?_))
             | (refine z_isload ?_; first
             | (refine z_ld1 tabOk rfl rfl ?_; first
             | refine o_loadm tabOk rfl rfl rfl (by repeat' (first | exact List.mem_cons_self | apply List.mem_cons_of_mem)) (by first | rfl | rfl) (by decide) ?_))
             | (refine z_isstore ?_; first
             | (refine z_stw rfl ?_; first
             | ((refine z_sti 0 rfl rfl ?_; refine o_storeb0 rfl tabOk rfl rfl rfl (by first | rfl | rfl) (by first | rfl | rfl) (by first | rfl | rfl) ?_))))
             | (refine z_ispick ?_; first
             | (refine o_pick1 rfl (by first | with_reducible rfl | with_reducible assumption | ((with_reducible refine decide_eq_true ?_); first | with_reducible rfl | with_reducible assumption | omega)) rfl (by decide) ?_)
             | (refine o_pick0 rfl (by first | with_reducible rfl | with_reducible assumption | ((with_reducible refine decide_eq_false ?_); first | with_reducible assumption | omega)) rfl (by decide) ?_))
             | refine o_move rfl (by decide) ?_
             | refine o_assign rfl (by decide) ?_
             | refine o_nil rfl (by decide) ?_
             | refine o_field0 tabOk rfl rfl rfl rfl rfl (by decide) ?_))
    · obtain rfl : p = 32 := by omega
      repeat' (first
       | (refine s_is ?_; first
       | (refine s_isagain ?_; first
       | (exact c_again (s + 1) (by omega) (by omega) ⟨rfl, rfl, rfl, rfl, (by rw [show (s + 1) * 32 = s * 32 + 32 by omega]; rfl), rfl, trivial⟩ (fun w h => by rw [show (s + 1) * 32 = s * 32 + 32 by omega]; exact h)))
       | (refine s_isw ?_; first
       | refine c_seq ?_
       | refine c_region ?_
       | refine c_exit ?_
       | (refine s_iscond ?_; first
       | (refine c_false rfl (by first | with_reducible rfl | with_reducible assumption | ((with_reducible refine decide_eq_false ?_); first | with_reducible assumption | omega)) ?_))))
       | (refine z_isnil ?_; first
       | refine z_list ?_)
       | (refine z_isop ?_; first
       | (refine z_isbin ?_; first
       | (refine z_isb .add ?_; first
       | refine o_add rfl rfl (by omega) (by omega) (by decide) ?_)
       | (refine z_isb .lss ?_; first
       | refine o_lt rfl rfl (by decide) ?_))
       | refine o_move rfl (by decide) ?_
       | refine o_assign rfl (by decide) ?_))
  · obtain rfl : s = 64 := by omega
    repeat' (first
     | (refine s_is ?_; first
     | (refine s_isret ?_; first
     | exact f_r1 rfl (res_t rfl) () trivial rfl (fun w h => h))
     | (refine s_isw ?_; first
     | refine c_seq ?_
     | refine c_region ?_
     | refine c_ret ?_
     | refine c_exit ?_
     | (refine s_iscond ?_; first
     | (refine c_false rfl (by first | with_reducible rfl | with_reducible assumption | ((with_reducible refine decide_eq_false ?_); first | with_reducible assumption | omega)) ?_))))
     | (refine z_isnil ?_; first
     | refine z_list ?_)
     | (refine z_isop ?_; first
     | (refine z_isbin ?_; first
     | (refine z_isb .lss ?_; first
     | refine o_lt rfl rfl (by decide) ?_))
     | refine o_move rfl (by decide) ?_
     | refine o_assign rfl (by decide) ?_))
theorem ybind_y (t : Nat) (M O : Mp) (s p f : Int) (x : Bool) (h : InP s p) (hf : 0 ≤ f ∧ f < 512) (fr : List Chunk) : Does Try.prog 49 [.pointer (some ⟨t, 0, none⟩), .int .i64 s, .int .i64 p, .int .i64 f, .bool x] (cells t 61 (xs (M) ++ os (O)) :: fr) (fun _ : Unit => True) (fun _ => .bool (onM O s p)) (fun _ => cells t 61 (xs (upM M s p (f, x)) ++ os (delM O s p)) :: fr) := by
  intro w hw
  refine f_enter Try.func49 rfl Try.ntmps49 rfl hw ?_
  have hput := xputR_y t 61 (os O) M s p f x h hf
  obtain ⟨a, rfl⟩ : ∃ n : Nat, s = n := ⟨s.toNat, by have := h.1; omega⟩
  obtain ⟨c, rfl⟩ : ∃ n : Nat, p = n := ⟨p.toNat, by have := h.2.2.1; omega⟩
  have ha : a < 64 := by have := h.2.1; omega
  have hc : c < 32 := by have := h.2.2.2; omega
  have hel := zo_el (upM M a c (f, x)) O ha hc
  have hset := zo_off (upM M a c (f, x)) O ha hc
  repeat' (first
   | ((refine z_isdst 19 ?_; refine o_calla Try.func41 rfl rfl rfl (hput _) (by decide) fun _ _ => ?_))
   | ((refine z_isdst 28 ?_; refine o_loadr tabOk (cells_rds 0 rfl) rfl rfl rfl hel (by decide) ?_))
   | (refine s_is ?_; first
   | (refine s_isret ?_; first
   | exact f_r1 rfl (res_t rfl) () trivial rfl (fun w h => h))
   | (refine s_isw ?_; first
   | refine c_seq ?_
   | refine c_region ?_
   | refine c_skip ?_
   | refine c_ret ?_
   | (refine s_iscond ?_; first
   | (refine c_false rfl (by first | (simp only [Bool.not_eq_false', decide_eq_true_eq]; omega) | (with_reducible assumption) | (rw [decide_eq_false] <;> (first | omega | with_reducible rfl)) | (rw [decide_eq_true] <;> (first | omega | with_reducible rfl)) | (simp; done) | (simp; omega)) ?_))))
   | (refine z_isnil ?_; first
   | refine z_list ?_)
   | (refine z_isop ?_; first
   | refine o_indexn tabOk rfl rfl rfl rfl (by omega) (by omega) (by decide) ?_
   | (refine z_isstore ?_; first
   | refine o_store_at rfl 0 tabOk rfl rfl rfl rfl rfl rfl hel hset ?_)
   | refine o_move rfl (by decide) ?_
   | refine o_assign rfl (by decide) ?_
   | refine o_nil rfl (by decide) ?_
   | refine o_not rfl (by decide) ?_
   | refine o_field0 tabOk rfl rfl rfl rfl rfl (by decide) ?_))
theorem ybind_n (t : Nat) (s p f : Int) (x : Bool) (h : ¬ (InP s p ∧ 0 ≤ f ∧ f < 512)) : Pf Try.prog 49 [.pointer (some ⟨t, 0, none⟩), .int .i64 s, .int .i64 p, .int .i64 f, .bool x] (.bool false) := by
  intro w hw
  refine f_enter Try.func49 rfl Try.ntmps49 rfl hw ?_
  repeat' (first
   | ((refine z_isdst 19 ?_; refine o_fn rfl Try.func41 rfl rfl rfl (xput_n t noM s p f x h) (by decide) ?_))
   | (refine s_is ?_; first
   | (refine s_isret ?_; first
   | exact p_r1 rfl (res_t rfl))
   | (refine s_isw ?_; first
   | refine c_seq ?_
   | refine c_region ?_
   | refine c_ret ?_
   | (refine s_iscond ?_; first
   | (refine c_true rfl (by first | (simp only [Bool.not_eq_true', decide_eq_false_iff_not]; omega) | (with_reducible assumption) | (rw [decide_eq_false] <;> (first | omega | with_reducible rfl)) | (rw [decide_eq_true] <;> (first | omega | with_reducible rfl)) | (simp; done) | (simp; omega)) ?_)))
   | refine x_then_ret ?_)
   | (refine z_isnil ?_; first
   | refine z_list ?_)
   | (refine z_isop ?_; first
   | refine o_move rfl (by decide) ?_
   | refine o_assign rfl (by decide) ?_
   | refine o_nil rfl (by decide) ?_
   | refine o_not rfl (by decide) ?_
   | refine o_field0 tabOk rfl rfl rfl rfl rfl (by decide) ?_))
theorem yunbind_y (t : Nat) (M O : Mp) (hM : WM M) (s p : Int) (hon : onM M s p = true) (fr : List Chunk) : Does Try.prog 50 [.pointer (some ⟨t, 0, none⟩), .int .i64 s, .int .i64 p] (cells t 61 (xs (M) ++ os (O)) :: fr) (fun _ : Unit => True) (fun _ => .tuple #[.bool true, .bool (onM O s p)]) (fun _ => cells t 61 (xs (delM M s p) ++ os (delM O s p)) :: fr) := by
  intro w hw
  refine f_enter Try.func50 rfl Try.ntmps50 rfl hw ?_
  have h : InP s p := hM s p (onM_iff.1 hon)
  have hget := fun fr hrd => xget_c t M hM s p fr hrd
  rw [hon] at hget
  have hdrop := xdropR_c t 61 (os (delM O s p)) M s p 0
  rw [← del_rm hM h] at hdrop
  obtain ⟨a, rfl⟩ : ∃ n : Nat, s = n := ⟨s.toNat, by have := h.1; omega⟩
  obtain ⟨c, rfl⟩ : ∃ n : Nat, p = n := ⟨p.toNat, by have := h.2.2.1; omega⟩
  have ha : a < 64 := by have := h.2.1; omega
  have hc : c < 32 := by have := h.2.2.2; omega
  have hel := zo_el M O ha hc
  have hset := zo_off M O ha hc
  repeat' (first
   | ((refine z_isdst 14 ?_; refine o_callr rfl Try.func13 rfl rfl rfl (hget _ (Rds.pre (cells_rds 0 rfl))) (by decide) ?_))
   | ((refine z_isdst 37 ?_; refine o_calla Try.func42 rfl rfl rfl (hdrop _) (by decide) fun _ _ => ?_))
   | ((refine z_isdst 24 ?_; refine o_loadr tabOk (cells_rds 0 rfl) rfl rfl rfl hel (by decide) ?_))
   | (refine s_is ?_; first
   | (refine s_isret ?_; first
   | exact f_r2 rfl (res_t rfl) (res_t rfl) () trivial rfl (fun w h => h))
   | (refine s_isw ?_; first
   | refine c_seq ?_
   | refine c_region ?_
   | refine c_skip ?_
   | refine c_ret ?_
   | (refine s_iscond ?_; first
   | (refine c_false rfl (by first | (simp only [Bool.not_eq_false', decide_eq_true_eq]; omega) | (with_reducible assumption) | (rw [decide_eq_false] <;> (first | omega | with_reducible rfl)) | (rw [decide_eq_true] <;> (first | omega | with_reducible rfl)) | (simp; done) | (simp; omega)) ?_))))
   | (refine z_isnil ?_; first
   | refine z_list ?_)
   | (refine z_isop ?_; first
   | refine o_indexn tabOk rfl rfl rfl rfl (by omega) (by omega) (by decide) ?_
   | (refine z_isstore ?_; first
   | refine o_store_at rfl 0 tabOk rfl rfl rfl rfl rfl rfl hel hset ?_)
   | (refine z_isfield ?_; first
   | refine o_fv tabOk rfl rfl rfl rfl rfl (by first | rfl | rfl) (by decide) ?_)
   | refine o_move rfl (by decide) ?_
   | refine o_assign rfl (by decide) ?_
   | refine o_nil rfl (by decide) ?_
   | refine o_not rfl (by decide) ?_
   | refine o_field0 tabOk rfl rfl rfl rfl rfl (by decide) ?_))
theorem yunbind_n (t : Nat) (M : Mp) (hM : WM M) (s p : Int) (hon : onM M s p = false) (fr : List Chunk) (hrd : Rds fr (some ⟨t, 0, none⟩) (xs M)) : Does Try.prog 50 [.pointer (some ⟨t, 0, none⟩), .int .i64 s, .int .i64 p] (fr) (fun _ : Unit => True) (fun _ => .tuple #[.bool false, .bool false]) (fun _ => fr) := by
  intro w hw
  refine f_enter Try.func50 rfl Try.ntmps50 rfl hw ?_
  have hget := fun fr hrd => xget_c t M hM s p fr hrd
  rw [hon] at hget
  repeat' (first
   | ((refine z_isdst 14 ?_; refine o_callr rfl Try.func13 rfl rfl rfl (hget _ hrd) (by decide) ?_))
   | (refine s_is ?_; first
   | (refine s_isret ?_; first
   | exact f_r2 rfl (res_t rfl) (res_t rfl) () trivial rfl (fun w h => h))
   | (refine s_isw ?_; first
   | refine c_seq ?_
   | refine c_region ?_
   | refine c_ret ?_
   | (refine s_iscond ?_; first
   | (refine c_true rfl (by first | (simp only [Bool.not_eq_true', decide_eq_false_iff_not]; omega) | (with_reducible assumption) | (rw [decide_eq_false] <;> (first | omega | with_reducible rfl)) | (rw [decide_eq_true] <;> (first | omega | with_reducible rfl)) | (simp; done) | (simp; omega)) ?_)))
   | refine x_then_ret ?_)
   | (refine z_isnil ?_; first
   | refine z_list ?_)
   | (refine z_isop ?_; first
   | (refine z_isfield ?_; first
   | refine o_fv tabOk rfl rfl rfl rfl rfl (by first | rfl | rfl) (by decide) ?_)
   | refine o_move rfl (by decide) ?_
   | refine o_assign rfl (by decide) ?_
   | refine o_nil rfl (by decide) ?_
   | refine o_not rfl (by decide) ?_
   | refine o_field0 tabOk rfl rfl rfl rfl rfl (by decide) ?_))
end Go.Proofs.Ytnckabgaichkkaa
