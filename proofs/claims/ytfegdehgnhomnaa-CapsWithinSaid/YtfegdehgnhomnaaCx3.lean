/-
Caps: whatever is derived, revoked, dropped and cut, the tree is the document's.
-/
import Derived.Test.YtfegdehgnhomnaaCx2
import Derived.Test.YtfegdehgnhomnaaOpen
namespace Go.Proofs.Ytfegdehgnhomnaa
set_option linter.unusedVariables false
set_option linter.unusedSimpArgs false
open Eng
/-- A deed. -/
structure Dc where
  k : Int
  a : Int
  f : Int
  t : Int
  g : Int
def Dc.cs (d : Dc) : List Value := [.int .i64 d.k, .int .i64 d.a, .int .i64 d.f, .int .i64 d.t, .int .u64 d.g]
theorem dc_len (d : Dc) : d.cs.length = 5 := rfl
theorem dc_at (D : List Dc) {i : Nat} (d : Dc) (h : D[i]? = some d) : ∀ (j : Nat) u, d.cs[j]? = some u → (D.flatMap Dc.cs)[((i : Int)).toNat * 5 + j]? = some u := fun j u hu => by
  have hj : j < 5 := (List.getElem?_eq_some_iff.1 hu).1
  rw [Int.toNat_natCast, flat_get Dc.cs 5 dc_len D i j d h hj]; exact hu
theorem u64_nonneg {i : Int} (h : (Lit.int .u64 i).wf = true) : 0 ≤ i := by
  simp only [Lit.wf, Bool.and_eq_true, decide_eq_true_eq] at h
  exact h.1
theorem dc_open {W : World} {r : List Value} (h : Is W (.struct [.int .i64, .int .i64, .int .i64, .int .i64, .int .u64]) r) : ∃ d : Dc, r = d.cs ∧ 0 ≤ d.g := by
  obtain ⟨x, y, z, u, s, rfl, h0, h1, h2, h3, h4⟩ := h.struct5
  obtain ⟨k, rfl, _⟩ := h0.int_inv
  obtain ⟨a, rfl, _⟩ := h1.int_inv
  obtain ⟨f, rfl, _⟩ := h2.int_inv
  obtain ⟨t, rfl, _⟩ := h3.int_inv
  obtain ⟨g, rfl, hg⟩ := h4.int_inv
  exact ⟨⟨k, a, f, t, g⟩, rfl, u64_nonneg hg⟩
theorem cmp_cap : Cmp Try.prog 26 [.int .i64, .int .u64] := ⟨by kernel_rfl, .inr ⟨_, Try.underlying26⟩, by kernel_rfl⟩
theorem e_cap : (!eqB [.int .i64 0, .int .u64 1] [.int .i64 0, .int .u64 1]) = false := by decide +kernel
def nT (s : Nat → Bool) (A : Option Addr) (c : Nat) : Tq := upd Tq.zero 0 ⟨1, -1, A, c, s⟩
theorem nT_other {s : Nat → Bool} {A : Option Addr} {c i : Nat} (h : (nT s A c i).g ≠ 0) : i = 0 := Classical.byContradiction fun e => h (by unfold nT; rw [upd_other _ e]; rfl)
theorem nT_wf (s : Nat → Bool) (A : Option Addr) (c : Nat) : WF (nT s A c) 1 := by
  have h0 : nT s A c 0 = ⟨1, -1, A, c, s⟩ := by unfold nT; rw [upd_same]
  have hz : ∀ i, i ≠ 0 → nT s A c i = Cq.zero := fun i e => by unfold nT; rw [upd_other _ e]; rfl
  refine ⟨⟨⟨fun i hi hg => ?_⟩, fun i y hi hg e => ?_⟩, fun i hi => ?_, fun i hi => ?_, ?_, fun i hi hg hp => nT_other hg, fun i j hi hj hg hg2 hne => ?_⟩
  · obtain rfl := nT_other hg
    rw [h0]; exact .inl (by decide : (-1 : Int) < 0)
  · obtain rfl := nT_other hg
    rw [h0] at e
    have e : (-1 : Int) = (y : Int) := e
    omega
  · by_cases e : i = 0
    · subst e; rw [h0]; exact (by decide : (0 : Int) ≤ 1)
    · rw [hz i e]; exact Int.le_refl _
  · by_cases e : i = 0
    · subst e; rw [h0]; exact Int.le_refl _
    · rw [hz i e]; exact (by decide : (0 : Int) ≤ 1)
  · rw [h0]; exact ⟨(by decide : (1 : Int) ≠ 0), (by decide : (-1 : Int) < 0)⟩
  · obtain rfl := nT_other hg
    obtain rfl := nT_other hg2
    exact absurd rfl hne
theorem nT_al {fr : List Chunk} {s : Nat → Bool} {A : Option Addr} {c : Nat} (hA : Rds fr A (rc (rws s))) : Al fr (nT s A c) := (al_zero' fr).upd hA
attribute [local irreducible] Eng.Hold Eng.Z Eng.S Eng.cells Eng.old Eng.own rc rws tq tqn Cq.cs emp dcs dnn dt bs layS al undF isN dl
attribute [local irreducible] kd' kc lv zt ls lnt ofS nT eqB
set_option maxHeartbeats 4000000 in
theorem capsPlay (W : World) (f t : Int) (A0 : Option Addr) (c0 : Nat) (D : List Dc) (hrd0 : Rds [old W] A0 (D.flatMap Dc.cs)) (hx : D.length ≤ 9223372036854775807) (hq : ∀ d ∈ D, 0 ≤ d.g) :
    Does Try.prog 4 [.int .i64 f, .int .i64 t, .slice A0 D.length c0] [old W] (fun _ : Unit => True) (fun _ => .bool true) (fun _ => [old W]) := by
  intro w hw
  have e3 := e_cap
  have hne0 : 0 < D.length → A0 ≠ none := fun h => hrd0.ne hw (by rw [flat_len Dc.cs 5 dc_len]; omega)
  refine f_enter Try.func4 rfl Try.ntmps4 rfl hw ?_
  repeat' (first
   | ((refine z_isdst 14 ?_; refine o_calla Try.func8 rfl rfl rfl (of_s f t _) (by decide) fun x _ => ?_; obtain ⟨A, c⟩ := x; dsimp only))
   | ((refine z_isdst 15 ?_; refine o_calla Try.func7 rfl rfl rfl (cnew_c (ofS f t) A c _) (by decide) fun b _ => ?_))
   | ((refine z_isdst 21 ?_; refine o_calla Try.func9 rfl rfl rfl (dnew_c (ofS f t) A c _) (by decide) fun x _ => ?_; obtain ⟨db, nb⟩ := x; dsimp only))
   | ((refine z_isdst 8 ?_; refine o_alloca (e := 26) (vs := [.int .i64 0, .int .u64 0]) rfl (by kernel_rfl) (by decide) fun g8 => ?_))
   | ((refine z_isdst 23 ?_; refine o_buildf (t := 26) (zs := [.int .i64 0, .int .u64 0]) (vs := [.int .i64 _, .int .u64 _]) tabOk rfl rfl (by kernel_rfl) rfl ⟨_, _, rfl, rfl, Nat.le_of_ble_eq_true rfl, _, _, rfl, rfl, Nat.le_of_ble_eq_true rfl, rfl⟩ (by decide) ?_))
   | ((refine z_isdst 24 ?_; refine o_nea cmp_cap rfl rfl ⟨rfl, rfl, trivial⟩ ⟨rfl, rfl, trivial⟩ (by decide) ?_))
   | (refine s_is ?_; first
   | (refine s_isw ?_; first
   | (refine s_isloop ?_; first
   | ((refine c_loop (X := Nat × Tq × Tq × Int × List Chunk) (fun y => y.1 ≤ 30 ∧ y.1 ≤ D.length ∧ WF y.2.1 y.2.2.2.1 ∧ (1 ≤ y.2.2.2.1 ∧ y.2.2.2.1 ≤ 1 + y.1) ∧ Sm y.2.1 y.2.2.1 ∧ Al y.2.2.2.2 y.2.2.1 ∧ [old W].Sublist y.2.2.2.2) (fun y => [(2, .slice A0 D.length c0), (7, .pointer (some ⟨b, 0, none⟩)), (9, .pointer (some ⟨db, 0, none⟩)), (10, .int .i64 y.1)]) (fun y => cells b 73 (tq y.2.2.1 y.2.2.2.1) :: cells db 43 (dt nb y.2.2.2.1) :: cells nb 40 (dnn y.2.1) :: y.2.2.2.2) (fun y => 30 - y.1) (0, nT (ofS f t) A c, nT (ofS f t) A c, 1, [cells g8 26 [.int .i64 0, .int .u64 1], own A c 75 2 (rws (ofS f t)).length (rc (rws (ofS f t))), old W]) ⟨Nat.zero_le _, Nat.zero_le _, nT_wf _ _ _, ⟨Int.le_refl _, (by decide : (1 : Int) ≤ 1 + ((0 : Nat) : Int))⟩, Sm.refl _, nT_al (own_rds 1 rfl), List.sublist_append_right [_, _] _⟩ ⟨rfl, rfl, rfl, rfl, trivial⟩ (fun w h => by unfold nT; exact ((h.sel 6 [3, 0, 1, 2, 4, 5] (by decide)).mask [true, true, true, true, true, true])) (fun y hy => ?_); obtain ⟨i, T, Tp, l, fr⟩ := y; obtain ⟨hi, hi2, hT, hl, hs, hal, hsub⟩ := hy; dsimp only at hi hi2 hT hl hs hal hsub ⊢; refine hold ?_)))
   | refine c_seq ?_
   | refine c_block ?_
   | refine c_region ?_
   | refine c_skip ?_
   | (refine s_iscond ?_; first
   | (refine c_false rfl (by first | with_reducible rfl | with_reducible assumption | ((with_reducible refine decide_eq_false ?_); first | with_reducible assumption | omega)) ?_))))
   | (refine z_isnil ?_; first
   | refine z_list ?_)
   | (refine z_isop ?_; first
   | (refine z_isload ?_; first
   | (refine z_ldw tabOk rfl rfl ?_; first
   | (refine o_loadwm tabOk rfl rfl rfl (by repeat' (first | exact List.mem_cons_self | apply List.mem_cons_of_mem)) (by first | rfl | exact dt_len _ _ | exact dnn_len _ | exact dcs_len _ | exact bs_len _ | (simp only [dnn_len, dcs_len, bs_len]; done) | rfl) (by decide) ?_)))
   | (refine z_isstore ?_; first
   | (refine z_stw rfl ?_; first
   | ((refine z_sti 0 rfl rfl ?_; refine o_storeb0 rfl tabOk rfl rfl rfl (by first | rfl | exact dt_len _ _ | exact dnn_len _ | exact dcs_len _ | exact bs_len _ | (simp only [dnn_len, dcs_len, bs_len]; done) | rfl) (by first | rfl | exact dnn_one _ | exact dcs_one _ | exact dt_one _ _ | exact bs_one _ | rfl) (by first | rfl | exact dt_len _ _ | exact dnn_len _ | exact dcs_len _ | exact bs_len _ | (simp only [dnn_len, dcs_len, bs_len]; done) | rfl) ?_))))
   | (refine z_iscall ?_; first
   | ((refine z_iscallf 10 ?_; refine o_fn rfl Try.func10 rfl rfl rfl (rof_p _ _) (by decide) ?_)))
   | refine o_move rfl (by decide) ?_
   | refine o_assign rfl (by decide) ?_
   | refine o_extract rfl rfl (by decide) ?_))
  refine Hold.go ?_
  have hrd := hrd0.sub hsub
  by_cases hlt : i < D.length
  · by_cases hlt2 : i < 30
    · obtain ⟨d, hd⟩ : ∃ d, D[i]? = some d := ⟨D[i], List.getElem?_eq_getElem hlt⟩
      have hdg := hq d (List.mem_of_getElem? hd)
      repeat' (first
       | ((refine z_isdst 40 ?_; refine o_loadsw tabOk (hrd.sub (List.sublist_append_right [_, _, _] _)) rfl rfl rfl (es := d.cs) (dc_len _) (by rw [dc_len]; decide) (dc_at D d hd) (by decide) ?_))
       | ((refine z_isdst 41 ?_; refine o_calla Try.func11 rfl rfl rfl (cdoes_c T l hT (by omega) (by omega) d.k d.a d.f d.t d.g hdg b db nb Tp fr hs hal) (by decide) fun x hx => ?_; obtain ⟨T', Tp', l', nw⟩ := x; obtain ⟨hT', hst, hs', hal'⟩ := hx; dsimp only at hT' hst hs' hal' ⊢))
       | ((refine z_isdst 46 ?_; refine o_callr rfl Try.func19 rfl rfl rfl (csame_c T' l' l' hT' b db nb Tp' _ hs' (hal'.sub (List.sublist_append_right [_, _, _] _)) (cells_rds 0 rfl) (cells_rds 1 rfl) (cells_rds 2 rfl)) (by decide) ?_))
       | (refine s_is ?_; first
       | (refine s_isagain ?_; first
       | (exact c_again (i + 1, T', Tp', l', nw ++ fr) ⟨(by dsimp only; omega), (by dsimp only; omega), hT', ⟨(by have := hst.1; dsimp only; omega), (by have := hst.2.1; dsimp only; omega)⟩, hs', hal', hsub.trans (List.sublist_append_right _ _)⟩ (by dsimp only; omega) ⟨rfl, rfl, rfl, rfl, trivial⟩ (fun w h => h)))
       | (refine s_isw ?_; first
       | refine c_seq ?_
       | refine c_block ?_
       | refine c_region ?_
       | refine c_skip ?_
       | (refine s_iscond ?_; first
       | (refine c_true rfl (by first | with_reducible rfl | with_reducible assumption | ((with_reducible refine decide_eq_true ?_); first | with_reducible rfl | with_reducible assumption | omega)) ?_)
       | (refine c_false rfl (by first | (simp only [Bool.not_eq_false', decide_eq_true_eq]; omega) | (with_reducible assumption) | (rw [decide_eq_false] <;> (first | omega | with_reducible rfl)) | (rw [decide_eq_true] <;> (first | omega | with_reducible rfl)) | (simp; done) | (simp; omega)) ?_))))
       | (refine z_isg1 ?_; first
       | (refine z_want1 rfl rfl (by first | with_reducible rfl | with_reducible assumption | ((with_reducible refine decide_eq_true ?_); first | with_reducible rfl | with_reducible assumption | omega)) ?_))
       | (refine z_isg0 ?_; first
       | (refine z_want0 rfl rfl (by first | (simp only [Bool.not_eq_false', decide_eq_true_eq]; omega) | (with_reducible assumption) | (rw [decide_eq_false] <;> (first | omega | with_reducible rfl)) | (rw [decide_eq_true] <;> (first | omega | with_reducible rfl)) | (simp; done) | (simp; omega)) ?_))
       | (refine z_isnil ?_; first
       | refine z_list ?_)
       | (refine z_isop ?_; first
       | refine o_indexsn tabOk (hne0 (by omega)) rfl rfl rfl rfl (by omega) (by omega) (by decide) ?_
       | (refine z_isbin ?_; first
       | (refine z_isb .add ?_; first
       | refine o_add rfl rfl (by omega) (by omega) (by decide) ?_)
       | (refine z_isb .lss ?_; first
       | refine o_lt rfl rfl (by decide) ?_))
       | (refine z_ispick ?_; first
       | (refine o_pick1 rfl (by first | with_reducible rfl | with_reducible assumption | ((with_reducible refine decide_eq_true ?_); first | with_reducible rfl | with_reducible assumption | omega)) rfl (by decide) ?_)
       | (refine o_pick0 rfl (by first | (simp only [Bool.not_eq_false', decide_eq_true_eq]; omega) | (with_reducible assumption) | (rw [decide_eq_false] <;> (first | omega | with_reducible rfl)) | (rw [decide_eq_true] <;> (first | omega | with_reducible rfl)) | (simp; done) | (simp; omega)) rfl (by decide) ?_))
       | (refine z_isbi ?_; first
       | refine o_len tabOk rfl rfl (by decide) ?_)
       | refine o_move rfl (by decide) ?_
       | refine o_assign rfl (by decide) ?_
       | refine o_not rfl (by decide) ?_))
    · skip
      repeat' (first
       | (refine s_is ?_; first
       | (refine s_isret ?_; first
       | exact f_r1 rfl (res_t rfl) () trivial rfl (fun w h => h.sub (hsub.trans (List.sublist_append_right [_, _, _] _))))
       | (refine s_isw ?_; first
       | refine c_seq ?_
       | refine c_region ?_
       | refine c_ret ?_
       | refine c_exit ?_
       | (refine s_iscond ?_; first
       | (refine c_false rfl (by first | with_reducible rfl | with_reducible assumption | ((with_reducible refine decide_eq_false ?_); first | with_reducible assumption | omega)) ?_))))
       | (refine z_isg1 ?_; first
       | (refine z_want1 rfl rfl (by first | with_reducible rfl | with_reducible assumption | ((with_reducible refine decide_eq_true ?_); first | with_reducible rfl | with_reducible assumption | omega)) ?_))
       | (refine z_isnil ?_; first
       | refine z_list ?_)
       | (refine z_isop ?_; first
       | (refine z_isbin ?_; first
       | (refine z_isb .lss ?_; first
       | refine o_lt rfl rfl (by decide) ?_))
       | (refine z_iscall ?_; first
       | ((refine z_iscallf 18 ?_; refine o_fn rfl Try.func18 rfl rfl rfl (cawake_p) (by decide) ?_)))
       | (refine z_ispick ?_; first
       | (refine o_pick1 rfl (by first | with_reducible rfl | with_reducible assumption | ((with_reducible refine decide_eq_true ?_); first | with_reducible rfl | with_reducible assumption | omega)) rfl (by decide) ?_))
       | (refine z_isbi ?_; first
       | refine o_len tabOk rfl rfl (by decide) ?_)
       | refine o_move rfl (by decide) ?_
       | refine o_assign rfl (by decide) ?_))
  · skip
    repeat' (first
     | (refine s_is ?_; first
     | (refine s_isret ?_; first
     | exact f_r1 rfl (res_t rfl) () trivial rfl (fun w h => h.sub (hsub.trans (List.sublist_append_right [_, _, _] _))))
     | (refine s_isw ?_; first
     | refine c_seq ?_
     | refine c_region ?_
     | refine c_ret ?_
     | refine c_exit ?_
     | (refine s_iscond ?_; first
     | (refine c_false rfl (by first | with_reducible rfl | with_reducible assumption | ((with_reducible refine decide_eq_false ?_); first | with_reducible assumption | omega)) ?_))))
     | (refine z_isg1 ?_; first
     | (refine z_skip1 (by decide) rfl rfl (by first | with_reducible rfl | with_reducible assumption | ((with_reducible refine decide_eq_false ?_); first | with_reducible assumption | omega)) ?_))
     | (refine z_isnil ?_; first
     | refine z_list ?_)
     | (refine z_isop ?_; first
     | (refine z_isbin ?_; first
     | (refine z_isb .lss ?_; first
     | refine o_lt rfl rfl (by decide) ?_))
     | (refine z_iscall ?_; first
     | ((refine z_iscallf 18 ?_; refine o_fn rfl Try.func18 rfl rfl rfl (cawake_p) (by decide) ?_)))
     | (refine z_ispick ?_; first
     | (refine o_pick0 rfl (by first | with_reducible rfl | with_reducible assumption | ((with_reducible refine decide_eq_false ?_); first | with_reducible assumption | omega)) rfl (by decide) ?_))
     | (refine z_isbi ?_; first
     | refine o_len tabOk rfl rfl (by decide) ?_)
     | refine o_move rfl (by decide) ?_
     | refine o_assign rfl (by decide) ?_))
end Go.Proofs.Ytfegdehgnhomnaa
