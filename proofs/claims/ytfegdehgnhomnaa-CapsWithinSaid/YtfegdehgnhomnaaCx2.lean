/-
Caps: the law's own function: is a tree the document's?
-/
import Derived.Test.YtfegdehgnhomnaaCx1
namespace Go.Proofs.Ytfegdehgnhomnaa
set_option linter.unusedVariables false
set_option linter.unusedSimpArgs false
open Eng
theorem Sm.lv {T U : Tq} (hs : Sm T U) : ∀ n, lv T n = Go.Proofs.Ytfegdehgnhomnaa.lv U n
  | 0 => rfl
  | n + 1 => by
    simp only [Go.Proofs.Ytfegdehgnhomnaa.lv]
    rw [hs.lv n, (hs n).1]
theorem set_sm {T Tp : Tq} (hs : Sm T Tp) (l : Int) {i : Nat} {g : Int} (b : Nat) (fr : List Chunk) (hrd : Rds fr (some ⟨b, 0, none⟩) (tq Tp l)) (h : isN T i g) : Does Try.prog 12 [.pointer (some ⟨b, 0, none⟩), cap i g] fr (fun _ : Unit => True) (fun _ => .tuple #[.agg #[.slice (Tp i).A (rws (T i).s).length (Tp i).c], .bool true]) (fun _ => fr) := by
  have h2 := set_yes Tp l i g b fr hrd (hs.isN h)
  rw [Int.toNat_natCast] at h2
  rw [(hs i).2.2]
  exact h2
theorem par_top {T Tp : Tq} (hs : Sm T Tp) (l : Int) {i : Nat} {g : Int} (b : Nat) (fr : List Chunk) (hrd : Rds fr (some ⟨b, 0, none⟩) (tq Tp l)) (h : isN T i g) (hp : (T i).p < 0) : Does Try.prog 13 [.pointer (some ⟨b, 0, none⟩), cap i g] fr (fun _ : Unit => True) (fun _ => .tuple #[cap 0 0, .bool false]) (fun _ => fr) :=
  parent_top Tp l i g b fr hrd (hs.isN h) (by rw [Int.toNat_natCast, ← (hs i).2.1]; exact hp)
theorem par_yes {T Tp : Tq} (hs : Sm T Tp) (l : Int) {i : Nat} {g : Int} (b : Nat) (fr : List Chunk) (hrd : Rds fr (some ⟨b, 0, none⟩) (tq Tp l)) (h : isN T i g) (hp : 0 ≤ (T i).p) (hp1 : (T i).p < 64) : Does Try.prog 13 [.pointer (some ⟨b, 0, none⟩), cap i g] fr (fun _ : Unit => True) (fun _ => .tuple #[cap (T i).p (T (T i).p.toNat).g, .bool true]) (fun _ => fr) := by
  have h2 := parent_yes Tp l i g b fr hrd (hs.isN h) (by rw [Int.toNat_natCast, ← (hs i).2.1]; exact hp) (by rw [Int.toNat_natCast, ← (hs i).2.1]; exact hp1)
  rw [Int.toNat_natCast, ← (hs i).2.1, ← (hs _).1] at h2
  exact h2
theorem lent_sm {T Tp : Tq} (hs : Sm T Tp) (l : Int) {i : Nat} {g : Int} (b : Nat) (fr : List Chunk) (hrd : Rds fr (some ⟨b, 0, none⟩) (tq Tp l)) (hal : Al fr Tp) (h : isN T i g) : Does Try.prog 17 [.pointer (some ⟨b, 0, none⟩), cap i g] fr (fun _ : Option Addr × Nat => True) (fun x => .agg #[.slice x.1 (rws (dl T i 64)).length x.2]) (fun x => own x.1 x.2 75 2 (rws (dl T i 64)).length (rc (rws (dl T i 64))) :: fr) := by
  have h2 := lent_c Tp l i g b fr hrd hal (hs.isN h)
  rw [lnt_dl, ← hs.dl] at h2
  exact h2
attribute [local irreducible] Eng.Hold Eng.Z Eng.S Eng.cells Eng.old Eng.own rc rws tq tqn Cq.cs emp dcs dnn dt bs layS al undF isN dl
attribute [local irreducible] kd' kc lv zt ls lnt ofS
set_option maxHeartbeats 4000000 in
theorem csame_c (T : Tq) (l ld : Int) (hT : WF T l) (b db nb : Nat) (Tp : Tq) (fr : List Chunk) (hs : Sm T Tp) (hal : Al fr Tp) (hrd : Rds fr (some ⟨b, 0, none⟩) (tq Tp l)) (hD : Rds fr (some ⟨db, 0, none⟩) (dt nb ld)) (hN : Rds fr (some ⟨nb, 0, none⟩) (dnn T)) :
    Does Try.prog 19 [.pointer (some ⟨b, 0, none⟩), .pointer (some ⟨db, 0, none⟩)] fr (fun _ : Unit => True) (fun _ => .bool true) (fun _ => fr) := by
  intro w hw
  refine f_enter Try.func19 rfl Try.ntmps19 rfl hw ?_
  repeat' (first
   | (refine s_is ?_; first
   | (refine s_isw ?_; first
   | (refine s_isloop ?_; first
   | ((refine c_loop (X := Nat) (fun k => k ≤ 64) (fun k => [(0, .pointer (some ⟨b, 0, none⟩)), (1, .pointer (some ⟨db, 0, none⟩)), (5, .int .i64 (lv T k)), (6, .int .i64 k)]) (fun _ => fr) (fun k => 64 - k) 0 (Nat.zero_le _) ⟨rfl, rfl, (by rw [lv_zero]; rfl), rfl, trivial⟩ (fun w h => h) (fun i hi => ?_); refine hold ?_)))
   | refine c_seq ?_
   | refine c_block ?_
   | refine c_region ?_))
   | (refine z_isnil ?_; first
   | refine z_list ?_)
   | (refine z_isop ?_; first
   | refine o_assign rfl (by decide) ?_))
  refine Hold.go ?_
  have hkl := lv_le T i
  by_cases hl : i < 64
  · have hg0 := hT.g0 i hl
    by_cases hg : (T i).g = 0
    · have hn := lv_no hg
      repeat' (first
       | ((refine z_isdst 7 ?_; refine o_alloca (e := 40) (vs := dcs Cq.zero) rfl (by rw [dcs_zero0]; kernel_rfl) (by decide) fun g7 => ?_))
       | ((refine z_isdst 23 ?_; refine o_loadrw tabOk (by repeat (first | exact hN | apply Rds.cons)) rfl rfl rfl (es := dcs (T i)) (dcs_len _) (by rw [dcs_len]; decide) (dnn_el T hl) (by decide) ?_))
       | (refine s_is ?_; first
       | (refine s_isagain ?_; first
       | (exact c_again (i + 1) (by omega) (by omega) ⟨rfl, rfl, (by rw [hn]; rfl), rfl, trivial⟩ (fun w h => ((h.sel 1 [0] (by decide)).mask [false]))))
       | (refine s_isw ?_; first
       | refine c_seq ?_
       | refine c_block ?_
       | refine c_region ?_
       | refine c_skip ?_
       | refine c_exit ?_
       | (refine s_iscond ?_; first
       | (refine c_true rfl (by first | with_reducible rfl | with_reducible assumption | ((with_reducible refine decide_eq_true ?_); first | with_reducible rfl | with_reducible assumption | omega)) ?_))))
       | (refine z_isnil ?_; first
       | refine z_list ?_)
       | (refine z_isop ?_; first
       | refine o_indexskm tabOk rfl rfl rfl rfl (by omega) (by omega) (by decide) ?_
       | (refine z_isbin ?_; first
       | (refine z_isb .add ?_; first
       | refine o_add rfl rfl (by omega) (by omega) (by decide) ?_)
       | (refine z_isb .eql ?_; first
       | refine o_eq rfl rfl (by decide) ?_)
       | (refine z_isb .lss ?_; first
       | refine o_lt rfl rfl (by decide) ?_))
       | (refine z_isload ?_; first
       | (refine o_loadr tabOk (by first | exact own_rds 0 rfl | exact own_rds 1 rfl | (repeat (first | exact hD | exact hN | exact hrd | apply Rds.cons)); done | assumption) rfl rfl rfl (by first | exact dt_l _ _ | exact dt_n _ _ | exact dnn_at _ (by omega) (by omega) (dcs_g _) | exact dnn_at _ (by omega) (by omega) (dcs_p _) | exact dcs_g _ | exact dcs_p _ | rfl | rfl) (by decide) ?_)
       | (refine z_ld1 tabOk rfl rfl ?_; first
       | refine o_loadm tabOk rfl rfl rfl (by repeat' (first | exact List.mem_cons_self | apply List.mem_cons_of_mem)) (by first | exact dt_l _ _ | exact dt_n _ _ | exact dnn_at _ (by omega) (by omega) (dcs_g _) | exact dnn_at _ (by omega) (by omega) (dcs_p _) | exact dcs_g _ | exact dcs_p _ | rfl | rfl) (by decide) ?_))
       | (refine z_isstore ?_; first
       | (refine z_stw rfl ?_; first
       | ((refine z_sti 0 rfl rfl ?_; refine o_storeb0 rfl tabOk rfl rfl rfl (by first | rfl | exact dt_len _ _ | exact dnn_len _ | exact dcs_len _ | exact bs_len _ | (simp only [dnn_len, dcs_len, bs_len]; done) | rfl) (by first | rfl | exact dnn_one _ | exact dcs_one _ | exact dt_one _ _ | exact bs_one _ | rfl) (by first | rfl | exact dt_len _ _ | exact dnn_len _ | exact dcs_len _ | exact bs_len _ | (simp only [dnn_len, dcs_len, bs_len]; done) | rfl) ?_))))
       | refine o_move rfl (by decide) ?_
       | refine o_assign rfl (by decide) ?_
       | refine o_nil rfl (by decide) ?_
       | refine o_field0 tabOk rfl rfl rfl rfl rfl (by decide) ?_))
    · have hn := lv_yes hg
      have hiN : isN T i (T i).g := by unfold isN; exact ⟨by omega, by omega, hg, rfl⟩
      have hall : ∀ fr' : List Chunk, fr.Sublist fr' → Rds fr' (Tp i).A (rc (rws (T i).s)) := fun fr' h => by
        rw [(hs i).2.2]
        exact (hal i hl).sub h
      have hle := al_le (T i).s 1024
      by_cases hp : 0 ≤ (T i).p
      · have hp1 := hT.nm.p1 i hl hg
        have hpn : (T i).p.toNat < 64 := by omega
        have hpe : (T i).p = ((T i).p.toNat : Int) := by omega
        repeat' (first
         | ((refine z_isdst 36 ?_; refine o_callr rfl Try.func12 rfl rfl rfl (set_sm hs l b _ (hrd.sub (List.sublist_append_right [_, _] _)) hiN) (by decide) ?_))
         | ((refine z_isdst 42 ?_; refine o_callr rfl Try.func13 rfl rfl rfl (par_yes hs l b _ (hrd.sub (List.sublist_append_right [_, _, _] _)) hiN hp hp1) (by decide) ?_))
         | ((refine z_isdst 49 ?_; refine o_callx1 Try.func35 rfl rfl rfl (all_s (T i).s _ _ _ (hall _ (List.sublist_append_right [_, _, _, _] _))) (by decide) (by decide) fun y _ => ?_))
         | ((refine z_isdst 52 ?_; refine o_callx1 Try.func36 rfl rfl rfl (rall_c (T i).s _) (by decide) (by decide) fun z _ => ?_))
         | ((refine z_isdst 53 ?_; refine o_callx0 Try.func34 rfl rfl rfl (ssame_c (al (T i).s 1024) _ _ _ _ _ (own_rds 1 rfl) (own_rds 0 rfl) (by omega)) (by decide) (by decide) ?_))
         | refine z_mono0ww ?_
         | ((refine z_isdst 89 ?_; refine o_calla Try.func17 rfl rfl rfl (lent_sm hs l b _ (hrd.sub (List.sublist_append_right [_, _, _, _, _, _] _)) (hal.sub (List.sublist_append_right [_, _, _, _, _, _] _)) hiN) (by decide) fun v _ => ?_))
         | ((refine z_isdst 92 ?_; refine o_callr rfl Try.func38 rfl rfl rfl (dlent_c T ld i db nb _ (hD.sub (List.sublist_append_right [_, _, _, _, _, _, _] _)) (hN.sub (List.sublist_append_right [_, _, _, _, _, _, _] _)) hT.nm) (by decide) ?_))
         | ((refine z_isdst 93 ?_; refine o_callr rfl Try.func37 rfl rfl rfl (ssetsame_c (dl T i 64) _ _ _ (own_rds 0 rfl)) (by decide) ?_))
         | ((refine z_isdst 7 ?_; refine o_alloca (e := 40) (vs := dcs Cq.zero) rfl (by rw [dcs_zero0]; kernel_rfl) (by decide) fun g7 => ?_))
         | ((refine z_isdst 8 ?_; refine o_alloca (e := 26) (vs := [.int .i64 0, .int .u64 0]) rfl (by kernel_rfl) (by decide) fun g8 => ?_))
         | ((refine z_isdst 9 ?_; refine o_alloca (e := 31) (vs := [.slice none 0 0]) rfl (by kernel_rfl) (by decide) fun g9 => ?_))
         | ((refine z_isdst 11 ?_; refine o_alloca (e := 26) (vs := [.int .i64 0, .int .u64 0]) rfl (by kernel_rfl) (by decide) fun g11 => ?_))
         | ((refine z_isdst 32 ?_; refine o_buildf (t := 26) (zs := [.int .i64 0, .int .u64 0]) (vs := [.int .i64 _, .int .u64 _]) tabOk rfl rfl (by kernel_rfl) rfl ⟨_, _, rfl, rfl, Nat.le_of_ble_eq_true rfl, _, _, rfl, rfl, Nat.le_of_ble_eq_true rfl, rfl⟩ (by decide) ?_))
         | ((refine z_isdst 23 ?_; refine o_loadrw tabOk (by repeat (first | exact hN | apply Rds.cons)) rfl rfl rfl (es := dcs (T i)) (dcs_len _) (by rw [dcs_len]; decide) (dnn_el T hl) (by decide) ?_))
         | ((refine z_isdst 51 ?_; refine o_loadrw tabOk (cells_rds 3 rfl) rfl rfl rfl (es := bs (T i).s) (bs_len _) (by rw [bs_len]; decide) (dcs_sat (T i)) (by decide) ?_))
         | (refine s_is ?_; first
         | (refine c_free0 ⟨[49, 52, 53], []⟩ [0, 1, 2, 3, 5, 6, 4, 7, 8, 9, 10, 11, 12, 13, 14, 15, 16, 17, 18, 19, 20, 21, 22, 23, 24, 25, 26, 27, 28, 29, 30, 31, 32, 33, 34, 35, 36, 37, 38, 39, 40, 41] (id := 11) mixed (by kernel_rfl) ?_)
         | (refine s_isagain ?_; first
         | (exact c_again (i + 1) (by omega) (by omega) ⟨rfl, rfl, (by rw [hn]; exact congrArg some (congrArg (Value.int .i64) (by omega))), rfl, trivial⟩ (fun w h => ((h.sel 7 [0, 1, 2, 3, 4, 5, 6] (by decide)).mask [false, false, false, false, false, false, false]))))
         | (refine s_isw ?_; first
         | refine c_seq ?_
         | refine c_block ?_
         | refine c_region ?_
         | refine c_skip ?_
         | (refine s_iscond ?_; first
         | (refine c_true rfl (by first | with_reducible rfl | with_reducible assumption | ((with_reducible refine decide_eq_true ?_); first | with_reducible rfl | with_reducible assumption | omega)) ?_)
         | (refine c_false rfl (by first | with_reducible rfl | with_reducible assumption | ((with_reducible refine decide_eq_false ?_); first | with_reducible assumption | omega)) ?_)
         | (refine c_false rfl (by first | (simp only [Bool.not_eq_false', decide_eq_true_eq]; omega) | (with_reducible assumption) | (rw [decide_eq_false] <;> (first | omega | with_reducible rfl)) | (rw [decide_eq_true] <;> (first | omega | with_reducible rfl)) | (simp; done) | (simp; omega)) ?_))))
         | (refine z_isg1 ?_; first
         | (refine z_want1 rfl rfl (by first | with_reducible rfl | with_reducible assumption | ((with_reducible refine decide_eq_true ?_); first | with_reducible rfl | with_reducible assumption | omega)) ?_))
         | (refine z_isg0 ?_; first
         | (refine z_want0 rfl rfl (by first | with_reducible rfl | with_reducible assumption | ((with_reducible refine decide_eq_false ?_); first | with_reducible assumption | omega)) ?_)
         | (refine z_want0 rfl rfl (by first | (simp only [Bool.not_eq_false', decide_eq_true_eq]; omega) | (with_reducible assumption) | (rw [decide_eq_false] <;> (first | omega | with_reducible rfl)) | (rw [decide_eq_true] <;> (first | omega | with_reducible rfl)) | (simp; done) | (simp; omega)) ?_))
         | (refine z_isnil ?_; first
         | refine z_list ?_)
         | (refine z_isop ?_; first
         | refine o_indexskm tabOk rfl rfl rfl rfl (by omega) (by omega) (by decide) ?_
         | (refine z_isbin ?_; first
         | (refine z_isb .add ?_; first
         | refine o_add rfl rfl (by omega) (by omega) (by decide) ?_)
         | (refine z_isb .eql ?_; first
         | refine o_eq rfl rfl (by decide) ?_)
         | (refine z_isb .neq ?_; first
         | refine o_ne rfl rfl (by decide) ?_
         | refine o_bne tabOk rfl rfl rfl (by decide) ?_)
         | (refine z_isb .lss ?_; first
         | refine o_lt rfl rfl (by decide) ?_)
         | (refine z_isb .geq ?_; first
         | refine o_ge rfl rfl (by decide) ?_))
         | (refine z_isload ?_; first
         | (refine o_loadr tabOk (by first | exact own_rds 0 rfl | exact own_rds 1 rfl | (repeat (first | exact hD | exact hN | exact hrd | apply Rds.cons)); done | assumption) rfl rfl rfl (by first | exact dt_l _ _ | exact dt_n _ _ | exact dnn_at _ (by omega) (by omega) (dcs_g _) | exact dnn_at _ (by omega) (by omega) (dcs_p _) | exact dcs_g _ | exact dcs_p _ | rfl | rfl) (by decide) ?_)
         | (refine z_ld1 tabOk rfl rfl ?_; first
         | refine o_loadm tabOk rfl rfl rfl (by repeat' (first | exact List.mem_cons_self | apply List.mem_cons_of_mem)) (by first | exact dt_l _ _ | exact dt_n _ _ | exact dnn_at _ (by omega) (by omega) (dcs_g _) | exact dnn_at _ (by omega) (by omega) (dcs_p _) | exact dcs_g _ | exact dcs_p _ | rfl | rfl) (by decide) ?_)
         | (refine z_ldw tabOk rfl rfl ?_; first
         | (refine o_loadwm tabOk rfl rfl rfl (by repeat' (first | exact List.mem_cons_self | apply List.mem_cons_of_mem)) (by first | rfl | exact dt_len _ _ | exact dnn_len _ | exact dcs_len _ | exact bs_len _ | (simp only [dnn_len, dcs_len, bs_len]; done) | rfl) (by decide) ?_)))
         | (refine z_isstore ?_; first
         | (refine z_stw rfl ?_; first
         | ((refine z_sti 0 rfl rfl ?_; refine o_storeb0 rfl tabOk rfl rfl rfl (by first | rfl | exact dt_len _ _ | exact dnn_len _ | exact dcs_len _ | exact bs_len _ | (simp only [dnn_len, dcs_len, bs_len]; done) | rfl) (by first | rfl | exact dnn_one _ | exact dcs_one _ | exact dt_one _ _ | exact bs_one _ | rfl) (by first | rfl | exact dt_len _ _ | exact dnn_len _ | exact dcs_len _ | exact bs_len _ | (simp only [dnn_len, dcs_len, bs_len]; done) | rfl) ?_))))
         | (refine z_ispick ?_; first
         | (refine o_pick1 rfl (by first | with_reducible rfl | with_reducible assumption | ((with_reducible refine decide_eq_true ?_); first | with_reducible rfl | with_reducible assumption | omega)) rfl (by decide) ?_)
         | (refine o_pick0 rfl (by first | with_reducible rfl | with_reducible assumption | ((with_reducible refine decide_eq_false ?_); first | with_reducible assumption | omega)) rfl (by decide) ?_)
         | (refine o_pick0 rfl (by first | (simp only [Bool.not_eq_false', decide_eq_true_eq]; omega) | (with_reducible assumption) | (rw [decide_eq_false] <;> (first | omega | with_reducible rfl)) | (rw [decide_eq_true] <;> (first | omega | with_reducible rfl)) | (simp; done) | (simp; omega)) rfl (by decide) ?_))
         | refine o_move rfl (by decide) ?_
         | refine o_assign rfl (by decide) ?_
         | refine o_nil rfl (by decide) ?_
         | refine o_extract rfl rfl (by decide) ?_
         | refine o_not rfl (by decide) ?_
         | refine o_field0 tabOk rfl rfl rfl rfl rfl (by decide) ?_
         | refine o_field tabOk rfl rfl rfl rfl rfl (by decide) ?_))
      · have hp' : (T i).p < 0 := by omega
        repeat' (first
         | ((refine z_isdst 36 ?_; refine o_callr rfl Try.func12 rfl rfl rfl (set_sm hs l b _ (hrd.sub (List.sublist_append_right [_, _] _)) hiN) (by decide) ?_))
         | ((refine z_isdst 42 ?_; refine o_callr rfl Try.func13 rfl rfl rfl (par_top hs l b _ (hrd.sub (List.sublist_append_right [_, _, _] _)) hiN hp') (by decide) ?_))
         | ((refine z_isdst 49 ?_; refine o_callx1 Try.func35 rfl rfl rfl (all_s (T i).s _ _ _ (hall _ (List.sublist_append_right [_, _, _, _] _))) (by decide) (by decide) fun y _ => ?_))
         | ((refine z_isdst 52 ?_; refine o_callx1 Try.func36 rfl rfl rfl (rall_c (T i).s _) (by decide) (by decide) fun z _ => ?_))
         | ((refine z_isdst 53 ?_; refine o_callx0 Try.func34 rfl rfl rfl (ssame_c (al (T i).s 1024) _ _ _ _ _ (own_rds 1 rfl) (own_rds 0 rfl) (by omega)) (by decide) (by decide) ?_))
         | refine z_mono0ww ?_
         | ((refine z_isdst 89 ?_; refine o_calla Try.func17 rfl rfl rfl (lent_sm hs l b _ (hrd.sub (List.sublist_append_right [_, _, _, _, _, _] _)) (hal.sub (List.sublist_append_right [_, _, _, _, _, _] _)) hiN) (by decide) fun v _ => ?_))
         | ((refine z_isdst 92 ?_; refine o_callr rfl Try.func38 rfl rfl rfl (dlent_c T ld i db nb _ (hD.sub (List.sublist_append_right [_, _, _, _, _, _, _] _)) (hN.sub (List.sublist_append_right [_, _, _, _, _, _, _] _)) hT.nm) (by decide) ?_))
         | ((refine z_isdst 93 ?_; refine o_callr rfl Try.func37 rfl rfl rfl (ssetsame_c (dl T i 64) _ _ _ (own_rds 0 rfl)) (by decide) ?_))
         | ((refine z_isdst 7 ?_; refine o_alloca (e := 40) (vs := dcs Cq.zero) rfl (by rw [dcs_zero0]; kernel_rfl) (by decide) fun g7 => ?_))
         | ((refine z_isdst 8 ?_; refine o_alloca (e := 26) (vs := [.int .i64 0, .int .u64 0]) rfl (by kernel_rfl) (by decide) fun g8 => ?_))
         | ((refine z_isdst 9 ?_; refine o_alloca (e := 31) (vs := [.slice none 0 0]) rfl (by kernel_rfl) (by decide) fun g9 => ?_))
         | ((refine z_isdst 11 ?_; refine o_alloca (e := 26) (vs := [.int .i64 0, .int .u64 0]) rfl (by kernel_rfl) (by decide) fun g11 => ?_))
         | ((refine z_isdst 32 ?_; refine o_buildf (t := 26) (zs := [.int .i64 0, .int .u64 0]) (vs := [.int .i64 _, .int .u64 _]) tabOk rfl rfl (by kernel_rfl) rfl ⟨_, _, rfl, rfl, Nat.le_of_ble_eq_true rfl, _, _, rfl, rfl, Nat.le_of_ble_eq_true rfl, rfl⟩ (by decide) ?_))
         | ((refine z_isdst 23 ?_; refine o_loadrw tabOk (by repeat (first | exact hN | apply Rds.cons)) rfl rfl rfl (es := dcs (T i)) (dcs_len _) (by rw [dcs_len]; decide) (dnn_el T hl) (by decide) ?_))
         | ((refine z_isdst 51 ?_; refine o_loadrw tabOk (cells_rds 3 rfl) rfl rfl rfl (es := bs (T i).s) (bs_len _) (by rw [bs_len]; decide) (dcs_sat (T i)) (by decide) ?_))
         | (refine s_is ?_; first
         | (refine c_free0 ⟨[49, 52, 53], []⟩ [0, 1, 2, 3, 5, 6, 4, 7, 8, 9, 10, 11, 12, 13, 14, 15, 16, 17, 18, 19, 20, 21, 22, 23, 24, 25, 26, 27, 28, 29, 30, 31, 32, 33, 34, 35, 36, 37, 38, 39, 40, 41] (id := 11) mixed (by kernel_rfl) ?_)
         | (refine s_isagain ?_; first
         | (exact c_again (i + 1) (by omega) (by omega) ⟨rfl, rfl, (by rw [hn]; exact congrArg some (congrArg (Value.int .i64) (by omega))), rfl, trivial⟩ (fun w h => ((h.sel 7 [0, 1, 2, 3, 4, 5, 6] (by decide)).mask [false, false, false, false, false, false, false]))))
         | (refine s_isw ?_; first
         | refine c_seq ?_
         | refine c_block ?_
         | refine c_region ?_
         | refine c_skip ?_
         | (refine s_iscond ?_; first
         | (refine c_true rfl (by first | with_reducible rfl | with_reducible assumption | ((with_reducible refine decide_eq_true ?_); first | with_reducible rfl | with_reducible assumption | omega)) ?_)
         | (refine c_false rfl (by first | with_reducible rfl | with_reducible assumption | ((with_reducible refine decide_eq_false ?_); first | with_reducible assumption | omega)) ?_)
         | (refine c_false rfl (by first | (simp only [Bool.not_eq_false', decide_eq_true_eq]; omega) | (with_reducible assumption) | (rw [decide_eq_false] <;> (first | omega | with_reducible rfl)) | (rw [decide_eq_true] <;> (first | omega | with_reducible rfl)) | (simp; done) | (simp; omega)) ?_))))
         | (refine z_isg1 ?_; first
         | refine z_skipu (by decide) rfl rfl ?_
         | (refine z_skip1 (by decide) rfl rfl (by first | with_reducible rfl | with_reducible assumption | ((with_reducible refine decide_eq_false ?_); first | with_reducible assumption | omega)) ?_))
         | (refine z_isg0 ?_; first
         | refine z_skipu (by decide) rfl rfl ?_
         | (refine z_want0 rfl rfl (by first | (simp only [Bool.not_eq_false', decide_eq_true_eq]; omega) | (with_reducible assumption) | (rw [decide_eq_false] <;> (first | omega | with_reducible rfl)) | (rw [decide_eq_true] <;> (first | omega | with_reducible rfl)) | (simp; done) | (simp; omega)) ?_))
         | (refine z_isnil ?_; first
         | refine z_list ?_)
         | (refine z_isop ?_; first
         | refine o_indexskm tabOk rfl rfl rfl rfl (by omega) (by omega) (by decide) ?_
         | (refine z_isbin ?_; first
         | (refine z_isb .add ?_; first
         | refine o_add rfl rfl (by omega) (by omega) (by decide) ?_)
         | (refine z_isb .eql ?_; first
         | refine o_eq rfl rfl (by decide) ?_)
         | (refine z_isb .neq ?_; first
         | refine o_bne tabOk rfl rfl rfl (by decide) ?_)
         | (refine z_isb .lss ?_; first
         | refine o_lt rfl rfl (by decide) ?_)
         | (refine z_isb .geq ?_; first
         | refine o_ge rfl rfl (by decide) ?_))
         | (refine z_isload ?_; first
         | (refine o_loadr tabOk (by first | exact own_rds 0 rfl | exact own_rds 1 rfl | (repeat (first | exact hD | exact hN | exact hrd | apply Rds.cons)); done | assumption) rfl rfl rfl (by first | exact dt_l _ _ | exact dt_n _ _ | exact dnn_at _ (by omega) (by omega) (dcs_g _) | exact dnn_at _ (by omega) (by omega) (dcs_p _) | exact dcs_g _ | exact dcs_p _ | rfl | rfl) (by decide) ?_)
         | (refine z_ld1 tabOk rfl rfl ?_; first
         | refine o_loadm tabOk rfl rfl rfl (by repeat' (first | exact List.mem_cons_self | apply List.mem_cons_of_mem)) (by first | exact dt_l _ _ | exact dt_n _ _ | exact dnn_at _ (by omega) (by omega) (dcs_g _) | exact dnn_at _ (by omega) (by omega) (dcs_p _) | exact dcs_g _ | exact dcs_p _ | rfl | rfl) (by decide) ?_)
         | (refine z_ldw tabOk rfl rfl ?_; first
         | (refine o_loadwm tabOk rfl rfl rfl (by repeat' (first | exact List.mem_cons_self | apply List.mem_cons_of_mem)) (by first | rfl | exact dt_len _ _ | exact dnn_len _ | exact dcs_len _ | exact bs_len _ | (simp only [dnn_len, dcs_len, bs_len]; done) | rfl) (by decide) ?_)))
         | (refine z_isstore ?_; first
         | (refine z_stw rfl ?_; first
         | ((refine z_sti 0 rfl rfl ?_; refine o_storeb0 rfl tabOk rfl rfl rfl (by first | rfl | exact dt_len _ _ | exact dnn_len _ | exact dcs_len _ | exact bs_len _ | (simp only [dnn_len, dcs_len, bs_len]; done) | rfl) (by first | rfl | exact dnn_one _ | exact dcs_one _ | exact dt_one _ _ | exact bs_one _ | rfl) (by first | rfl | exact dt_len _ _ | exact dnn_len _ | exact dcs_len _ | exact bs_len _ | (simp only [dnn_len, dcs_len, bs_len]; done) | rfl) ?_))))
         | (refine z_ispick ?_; first
         | (refine o_pick0 rfl (by first | with_reducible rfl | with_reducible assumption | ((with_reducible refine decide_eq_false ?_); first | with_reducible assumption | omega)) rfl (by decide) ?_)
         | (refine o_pick0 rfl (by first | (simp only [Bool.not_eq_false', decide_eq_true_eq]; omega) | (with_reducible assumption) | (rw [decide_eq_false] <;> (first | omega | with_reducible rfl)) | (rw [decide_eq_true] <;> (first | omega | with_reducible rfl)) | (simp; done) | (simp; omega)) rfl (by decide) ?_))
         | refine o_move rfl (by decide) ?_
         | refine o_assign rfl (by decide) ?_
         | refine o_nil rfl (by decide) ?_
         | refine o_extract rfl rfl (by decide) ?_
         | refine o_not rfl (by decide) ?_
         | refine o_field0 tabOk rfl rfl rfl rfl rfl (by decide) ?_))
  · obtain rfl : i = 64 := by omega
    repeat' (first
     | ((refine z_isdst 96 ?_; refine o_callr rfl Try.func26 rfl rfl rfl (clen_c Tp l b _ hrd) (by decide) ?_; rw [← hs.lv]))
     | (refine s_is ?_; first
     | (refine s_isret ?_; first
     | exact f_r1 rfl (res_t (congrArg some (congrArg Value.bool (decide_eq_true rfl)))) () trivial rfl (fun w h => h))
     | (refine s_isw ?_; first
     | refine c_seq ?_
     | refine c_region ?_
     | refine c_ret ?_
     | refine c_exit ?_
     | (refine s_iscond ?_; first
     | (refine c_false rfl (by first | with_reducible rfl | with_reducible assumption | ((with_reducible refine decide_eq_false ?_); first | with_reducible assumption | omega)) ?_))))
     | (refine z_isnil ?_; first
     | refine z_list ?_)
     | (refine z_isop ?_; first
     | (refine z_isbin ?_; first
     | (refine z_isb .eql ?_; first
     | refine o_eq rfl rfl (by decide) ?_)
     | (refine z_isb .lss ?_; first
     | refine o_lt rfl rfl (by decide) ?_))
     | refine o_move rfl (by decide) ?_
     | refine o_assign rfl (by decide) ?_))
end Go.Proofs.Ytfegdehgnhomnaa
