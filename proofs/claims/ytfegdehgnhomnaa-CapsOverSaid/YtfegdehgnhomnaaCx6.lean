/-
Caps: the caps that have a number are told from the first one on; behind Cut nobody has it.
-/
import Derived.Test.YtfegdehgnhomnaaCx5
import Derived.Test.YtfegdehgnhomnaaCx3
namespace Go.Proofs.Ytfegdehgnhomnaa
set_option linter.unusedVariables false
set_option linter.unusedSimpArgs false
open Eng
theorem s_behind3 {n : Nat} {l : Fr} {B : Base} {G : Act → World → Prop} {c a b d : Chunk} {M fr : List Chunk} (h : S n l B (c :: a :: b :: d :: (M ++ fr)) G) : S n l B ((c :: M) ++ (a :: b :: d :: fr)) G := h.heap fun w hS => hS.perm (List.Perm.cons c (perm_x M [a, b, d] fr))
theorem al_mid {M fr : List Chunk} {o : Chunk} {T : Tq} (h : Al (M ++ (o :: fr)) T) : Al ((M ++ [o]) ++ fr) T := by rw [List.append_assoc]; exact h
theorem over_0 (T : Tq) (l : Int) (hT : WF T l) (q : Int) (h0 : inS (T 0).s q = false) (b : Nat) (Tp : Tq) (fr : List Chunk) (hs : Sm T Tp) (hal : Al fr Tp) (hrd : Rds fr (some ⟨b, 0, none⟩) (tq Tp l)) :
    Does Try.prog 20 [.pointer (some ⟨b, 0, none⟩), .int .i64 q] fr (fun x : Option Addr × Nat => True) (fun x => .slice x.1 0 x.2) (fun x => own x.1 x.2 26 2 0 [] :: fr) :=
  (over_c T l hT q b Tp fr hs hal hrd).post fun x hx => ⟨(x.1, x.2.1), trivial, by rw [ch_empty hx.1 h0], fun B w h => by
    have hL : x.2.2 = [] := List.eq_nil_of_length_eq_zero (ch_empty hx.1 h0)
    rw [hL] at h
    exact h⟩
theorem dnn_b (T : Tq) {i j : Nat} (h : i < 64) (hj : j < 1024) : (dnn T)[i * 1026 + 2 + j]? = some (.bool ((T i).s j)) := dnn_s T h j _ (bs_at _ hj)
theorem nT_0 {s : Nat → Bool} {A : Option Addr} {c : Nat} : (nT s A c 0).g = 1 := by unfold nT; rw [upd_same]
theorem stp_1 {T T' : Tq} {l l' : Int} (hT : WF T' l') (hs : Stp T l T' l') (h : (T 0).g = 1) : (T' 0).g = 1 := by
  rcases hs.2.2 0 (by decide) with e | e | e
  · rw [e, h]
  · exact absurd e hT.r.1
  · rw [h] at e; exact absurd e.1 (by decide)
theorem hv_no1 {T : Tq} {q : Int} {k : Nat} (h : (T k).g = 0) : hv T q k = false := by unfold hv; rw [decide_eq_false (fun e => e h), Bool.false_and]
theorem hv_no2 {T : Tq} {q : Int} {k : Nat} (h : ¬ (0 ≤ q ∧ q < 1024)) : hv T q k = false := by
  unfold hv
  rw [inS_off fun e => h ⟨(inS_iff.1 e).1, (inS_iff.1 e).2.1⟩, Bool.and_false]
theorem hv_no3 {T : Tq} {q : Int} {k : Nat} (h : (T k).s q.toNat = false) : hv T q k = false := by
  unfold hv
  rw [inS_off (fun e => by have := (inS_iff.1 e).2.2; rw [h] at this; cases this), Bool.and_false]
theorem hv_yes {T : Tq} {q : Int} {k : Nat} (hg : (T k).g ≠ 0) (h0 : 0 ≤ q) (h1 : q < 1024) (h : (T k).s q.toNat = true) : hv T q k = true := hv_iff.2 ⟨hg, inS_iff.2 ⟨h0, h1, h⟩⟩
theorem eq_cap (a g : Int) : (!eqB [.int .i64 a, .int .u64 g] [.int .i64 a, .int .u64 g]) = false := by
  have h : Typed [.int .i64, .int .u64] [.int .i64 a, .int .u64 g] := ⟨rfl, rfl, trivial⟩
  rw [(eqB_iff h h).2 rfl]; rfl
attribute [local irreducible] Eng.Hold Eng.Z Eng.S Eng.cells Eng.old Eng.own rc rws tq tqn Cq.cs emp dcs dnn dt bs layS al undF isN dl
attribute [local irreducible] kd' kc lv zt ls lnt ofS nT eqB inS hv
set_option maxHeartbeats 8000000 in
theorem capsOver (W : World) (q : Int) (A0 : Option Addr) (c0 : Nat) (D : List Dc) (hrd0 : Rds [old W] A0 (D.flatMap Dc.cs)) (hx : D.length ≤ 9223372036854775807) (hq : ∀ d ∈ D, 0 ≤ d.g) :
    Does Try.prog 5 [.slice A0 D.length c0, .int .i64 q] [old W] (fun _ : Unit => True) (fun _ => .bool true) (fun _ => [old W]) := by
  intro w hw
  have hne0 : 0 < D.length → A0 ≠ none := fun h => hrd0.ne hw (by rw [flat_len Dc.cs 5 dc_len]; omega)
  refine f_enter Try.func5 rfl Try.ntmps5 rfl hw ?_
  repeat' (first
   | ((refine z_isdst 20 ?_; refine o_calla Try.func8 rfl rfl rfl (of_s 0 40 _) (by decide) fun x _ => ?_; obtain ⟨A, c⟩ := x; dsimp only))
   | ((refine z_isdst 21 ?_; refine o_calla Try.func7 rfl rfl rfl (cnew_c (ofS 0 40) A c _) (by decide) fun b _ => ?_))
   | ((refine z_isdst 25 ?_; refine o_calla Try.func9 rfl rfl rfl (dnew_c (ofS 0 40) A c _) (by decide) fun x _ => ?_; obtain ⟨db, nb⟩ := x; dsimp only))
   | ((refine z_isdst 6 ?_; refine o_alloca (e := 26) (vs := [.int .i64 0, .int .u64 0]) rfl (by kernel_rfl) (by decide) fun g6 => ?_))
   | (refine s_is ?_; first
   | (refine c_join (x := .seq (.region 3 _ _) _) (X := Tq × Tq × Int × List Chunk) (fun y => WF y.1 y.2.2.1 ∧ Sm y.1 y.2.1 ∧ Al y.2.2.2 y.2.1 ∧ [old W].Sublist y.2.2.2 ∧ (y.1 0).g = 1 ∧ Rds y.2.2.2 (some ⟨g6, 0, none⟩) [.int .i64 0, .int .u64 1]) (fun y => [(1, .int .i64 q), (5, .pointer (some ⟨b, 0, none⟩)), (6, .pointer (some ⟨g6, 0, none⟩)), (7, .pointer (some ⟨db, 0, none⟩))]) (fun y => cells b 73 (tq y.2.1 y.2.2.1) :: cells db 43 (dt nb y.2.2.1) :: cells nb 40 (dnn y.1) :: y.2.2.2) (hold ?_) (fun y hy => hold ?_))
   | (refine s_isw ?_; first
   | refine c_seq ?_
   | refine c_region ?_))
   | (refine z_isnil ?_; first
   | refine z_list ?_)
   | (refine z_isop ?_; first
   | (refine z_isstore ?_; first
   | (refine z_stw rfl ?_; first
   | ((refine z_sti 0 rfl rfl ?_; refine o_storeb0 rfl tabOk rfl rfl rfl (by first | rfl | exact dt_len _ _ | exact dnn_len _ | exact dcs_len _ | exact bs_len _ | (simp only [dnn_len, dcs_len, bs_len]; done) | rfl) (by first | rfl | exact dnn_one _ | exact dcs_one _ | exact dt_one _ _ | exact bs_one _ | rfl) (by first | rfl | exact dt_len _ _ | exact dnn_len _ | exact dcs_len _ | exact bs_len _ | (simp only [dnn_len, dcs_len, bs_len]; done) | rfl) ?_))))
   | (refine z_iscall ?_; first
   | ((refine z_iscallf 10 ?_; refine o_fn rfl Try.func10 rfl rfl rfl (rof_p _ _) (by decide) ?_)))
   | refine o_move rfl (by decide) ?_
   | refine o_assign rfl (by decide) ?_
   | refine o_extract rfl rfl (by decide) ?_))
  · refine Hold.go ?_
    repeat' (first
     | (refine s_is ?_; first
     | (refine s_isw ?_; first
     | (refine s_isloop ?_; first
     | ((refine c_loop (X := Nat × Tq × Tq × Int × List Chunk) (fun y => y.1 ≤ 30 ∧ y.1 ≤ D.length ∧ WF y.2.1 y.2.2.2.1 ∧ (1 ≤ y.2.2.2.1 ∧ y.2.2.2.1 ≤ 1 + y.1) ∧ Sm y.2.1 y.2.2.1 ∧ Al y.2.2.2.2 y.2.2.1 ∧ [old W].Sublist y.2.2.2.2 ∧ (y.2.1 0).g = 1 ∧ Rds y.2.2.2.2 (some ⟨g6, 0, none⟩) [.int .i64 0, .int .u64 1]) (fun y => [(0, .slice A0 D.length c0), (1, .int .i64 q), (5, .pointer (some ⟨b, 0, none⟩)), (6, .pointer (some ⟨g6, 0, none⟩)), (7, .pointer (some ⟨db, 0, none⟩)), (8, .int .i64 y.1)]) (fun y => cells b 73 (tq y.2.2.1 y.2.2.2.1) :: cells db 43 (dt nb y.2.2.2.1) :: cells nb 40 (dnn y.2.1) :: y.2.2.2.2) (fun y => 30 - y.1) (0, nT (ofS 0 40) A c, nT (ofS 0 40) A c, 1, [cells g6 26 [.int .i64 0, .int .u64 1], own A c 75 2 (rws (ofS 0 40)).length (rc (rws (ofS 0 40))), old W]) ⟨Nat.zero_le _, Nat.zero_le _, nT_wf _ _ _, ⟨Int.le_refl _, (by decide : (1 : Int) ≤ 1 + ((0 : Nat) : Int))⟩, Sm.refl _, nT_al (own_rds 1 rfl), List.sublist_append_right [_, _] _, nT_0, cells_rds 0 rfl⟩ ⟨rfl, rfl, rfl, rfl, rfl, rfl, trivial⟩ (fun w h => by unfold nT; exact ((h.sel 6 [3, 0, 1, 2, 4, 5] (by decide)).mask [true, true, true, true, true, true])) (fun y hy => ?_); obtain ⟨i, T, Tp, l, fr⟩ := y; obtain ⟨hi, hi2, hT, hl, hs, hal, hsub, hg1, hg6⟩ := hy; dsimp only at hi hi2 hT hl hs hal hsub hg1 hg6 ⊢; refine hold ?_)))
     | refine c_seq ?_
     | refine c_block ?_
     | refine c_region ?_))
     | (refine z_isnil ?_; first
     | refine z_list ?_)
     | (refine z_isop ?_; first
     | refine o_assign rfl (by decide) ?_))
    refine Hold.go ?_
    have hrd := hrd0.sub hsub
    by_cases hlt : i < D.length
    · by_cases hlt2 : i < 30
      · obtain ⟨d, hd⟩ : ∃ d, D[i]? = some d := ⟨D[i], List.getElem?_eq_getElem hlt⟩
        have hdg := hq d (List.mem_of_getElem? hd)
        repeat' (first
         | ((refine z_isdst 41 ?_; refine o_loadsw tabOk (hrd.sub (List.sublist_append_right [_, _, _] _)) rfl rfl rfl (es := d.cs) (dc_len _) (by rw [dc_len]; decide) (dc_at D d hd) (by decide) ?_))
         | ((refine z_isdst 42 ?_; refine o_calla Try.func11 rfl rfl rfl (cdoes_c T l hT (by omega) (by omega) d.k d.a d.f d.t d.g hdg b db nb Tp fr hs hal) (by decide) fun x hx => ?_; obtain ⟨T', Tp', l', nw⟩ := x; obtain ⟨hT', hst, hs', hal'⟩ := hx; dsimp only at hT' hst hs' hal' ⊢))
         | (refine s_is ?_; first
         | (refine s_isagain ?_; first
         | (exact c_again (i + 1, T', Tp', l', nw ++ fr) ⟨(by dsimp only; omega), (by dsimp only; omega), hT', ⟨(by have := hst.1; dsimp only; omega), (by have := hst.2.1; dsimp only; omega)⟩, hs', hal', hsub.trans (List.sublist_append_right _ _), stp_1 hT' hst hg1, hg6.sub (List.sublist_append_right _ _)⟩ (by dsimp only; omega) ⟨rfl, rfl, rfl, rfl, rfl, rfl, trivial⟩ (fun w h => h)))
         | (refine s_isw ?_; first
         | refine c_seq ?_
         | refine c_block ?_
         | refine c_region ?_
         | refine c_skip ?_
         | (refine s_iscond ?_; first
         | (refine c_true rfl (by first | with_reducible rfl | with_reducible assumption | ((with_reducible refine decide_eq_true ?_); first | with_reducible rfl | with_reducible assumption | omega)) ?_))))
         | (refine z_isg1 ?_; first
         | (refine z_want1 rfl rfl (by first | with_reducible rfl | with_reducible assumption | ((with_reducible refine decide_eq_true ?_); first | with_reducible rfl | with_reducible assumption | omega)) ?_))
         | (refine z_isnil ?_; first
         | refine z_list ?_)
         | (refine z_isop ?_; first
         | refine o_indexsn tabOk (hne0 (by omega)) rfl rfl rfl rfl (by omega) (by omega) (by decide) ?_
         | (refine z_isbin ?_; first
         | (refine z_isb .add ?_; first
         | refine o_add rfl rfl (by omega) (by omega) (by decide) ?_)
         | (refine z_isb .lss ?_; first
         | refine o_lt rfl rfl (by decide) ?_))
         | (refine z_ispick ?_; first
         | (refine o_pick1 rfl (by first | with_reducible rfl | with_reducible assumption | ((with_reducible refine decide_eq_true ?_); first | with_reducible rfl | with_reducible assumption | omega)) rfl (by decide) ?_))
         | (refine z_isbi ?_; first
         | refine o_len tabOk rfl rfl (by decide) ?_)
         | refine o_move rfl (by decide) ?_
         | refine o_assign rfl (by decide) ?_))
      · skip
        repeat' (first
         | (refine s_is ?_; first
         | (refine s_ismeet ?_; first
         | exact c_meet (T, Tp, l, fr) ⟨hT, hs, hal, hsub, hg1, hg6⟩ ⟨rfl, rfl, rfl, rfl, trivial⟩ (fun w h => h))
         | (refine s_isw ?_; first
         | refine c_seq ?_
         | refine c_region ?_
         | refine c_exit ?_
         | (refine s_iscond ?_; first
         | (refine c_false rfl (by first | with_reducible rfl | with_reducible assumption | ((with_reducible refine decide_eq_false ?_); first | with_reducible assumption | omega)) ?_))))
         | (refine z_isg1 ?_; first
         | (refine z_want1 rfl rfl (by first | with_reducible rfl | with_reducible assumption | ((with_reducible refine decide_eq_true ?_); first | with_reducible rfl | with_reducible assumption | omega)) ?_))
         | (refine z_isnil ?_; first
         | refine z_list ?_)
         | (refine z_isop ?_; first
         | (refine z_isbin ?_; first
         | (refine z_isb .lss ?_; first
         | refine o_lt rfl rfl (by decide) ?_))
         | (refine z_ispick ?_; first
         | (refine o_pick1 rfl (by first | with_reducible rfl | with_reducible assumption | ((with_reducible refine decide_eq_true ?_); first | with_reducible rfl | with_reducible assumption | omega)) rfl (by decide) ?_))
         | (refine z_isbi ?_; first
         | refine o_len tabOk rfl rfl (by decide) ?_)
         | refine o_move rfl (by decide) ?_))
    · skip
      repeat' (first
       | (refine s_is ?_; first
       | (refine s_ismeet ?_; first
       | exact c_meet (T, Tp, l, fr) ⟨hT, hs, hal, hsub, hg1, hg6⟩ ⟨rfl, rfl, rfl, rfl, trivial⟩ (fun w h => h))
       | (refine s_isw ?_; first
       | refine c_seq ?_
       | refine c_region ?_
       | refine c_exit ?_
       | (refine s_iscond ?_; first
       | (refine c_false rfl (by first | with_reducible rfl | with_reducible assumption | ((with_reducible refine decide_eq_false ?_); first | with_reducible assumption | omega)) ?_))))
       | (refine z_isg1 ?_; first
       | (refine z_skip1 (by decide) rfl rfl (by first | with_reducible rfl | with_reducible assumption | ((with_reducible refine decide_eq_false ?_); first | with_reducible assumption | omega)) ?_))
       | (refine z_isnil ?_; first
       | refine z_list ?_)
       | (refine z_isop ?_; first
       | (refine z_isbin ?_; first
       | (refine z_isb .lss ?_; first
       | refine o_lt rfl rfl (by decide) ?_))
       | (refine z_ispick ?_; first
       | (refine o_pick0 rfl (by first | with_reducible rfl | with_reducible assumption | ((with_reducible refine decide_eq_false ?_); first | with_reducible assumption | omega)) rfl (by decide) ?_))
       | (refine z_isbi ?_; first
       | refine o_len tabOk rfl rfl (by decide) ?_)
       | refine o_move rfl (by decide) ?_))
  · refine Hold.go ?_
    obtain ⟨T, Tp, l, fr⟩ := y
    obtain ⟨hT, hs, hal, hsub, hg1, hg6⟩ := hy
    dsimp only at hT hs hal hsub hg1 hg6 ⊢
    repeat' (first
     | ((refine z_isdst 45 ?_; refine o_calla Try.func20 rfl rfl rfl (over_c T l hT q b Tp _ hs (hal.sub (List.sublist_append_right [_, _, _] _)) (cells_rds 0 rfl)) (by decide) fun x hx => ?_; obtain ⟨E, e, L⟩ := x; obtain ⟨hch, hcp⟩ := hx; dsimp only at hch hcp ⊢))
     | (refine s_is ?_; first
     | (refine c_join (x := .seq (.region 9 _ _) _) (X := Unit) (fun _ => True) (fun y => [(1, .int .i64 q), (5, .pointer (some ⟨b, 0, none⟩)), (6, .pointer (some ⟨g6, 0, none⟩)), (7, .pointer (some ⟨db, 0, none⟩)), (9, .slice E L.length e), (10, .int .i64 (al (hv T q) 64).length)]) (fun y => own E e 26 2 L.length (kc T L) :: cells b 73 (tq Tp l) :: cells db 43 (dt nb l) :: cells nb 40 (dnn T) :: fr) (hold ?_) (fun _ _ => hold ?_))
     | (refine s_isw ?_; first
     | refine c_seq ?_
     | refine c_region ?_))
     | (refine z_isnil ?_; first
     | refine z_list ?_)
     | (refine z_isop ?_; first
     | refine o_move rfl (by decide) ?_
     | refine o_assign rfl (by decide) ?_))
    · refine Hold.go ?_
      repeat' (first
       | (refine s_is ?_; first
       | (refine s_isw ?_; first
       | (refine s_isloop ?_; first
       | ((refine c_loop (X := Nat) (fun k => k ≤ 64) (fun k => [(1, .int .i64 q), (5, .pointer (some ⟨b, 0, none⟩)), (6, .pointer (some ⟨g6, 0, none⟩)), (7, .pointer (some ⟨db, 0, none⟩)), (9, .slice E L.length e), (10, .int .i64 (al (hv T q) k).length), (11, .int .i64 k)]) (fun _ => own E e 26 2 L.length (kc T L) :: cells b 73 (tq Tp l) :: cells db 43 (dt nb l) :: cells nb 40 (dnn T) :: fr) (fun k => 64 - k) 0 (Nat.zero_le _) ⟨rfl, rfl, rfl, rfl, rfl, (by rw [al_zero]; rfl), rfl, trivial⟩ (fun w h => h) (fun k hk => ?_); refine hold ?_)))
       | refine c_seq ?_
       | refine c_block ?_
       | refine c_region ?_))
       | (refine z_isnil ?_; first
       | refine z_list ?_)
       | (refine z_isop ?_; first
       | refine o_assign rfl (by decide) ?_))
      refine Hold.go ?_
      have hal := al_le (hv T q) k
      by_cases hl : k < 64
      · have hg0 := hT.g0 k hl
        by_cases hg : (T k).g = 0
        · have hn := al_no (hv_no1 (q := q) hg)
          repeat' (first
           | (refine s_is ?_; first
           | (refine s_isagain ?_; first
           | (exact c_again (k + 1) (by omega) (by omega) ⟨rfl, rfl, rfl, rfl, rfl, (by rw [hn]; rfl), rfl, trivial⟩ (fun w h => h)))
           | (refine s_isw ?_; first
           | refine c_seq ?_
           | refine c_block ?_
           | refine c_region ?_
           | refine c_skip ?_
           | (refine s_iscond ?_; first
           | (refine c_true rfl (by first | with_reducible rfl | with_reducible assumption | ((with_reducible refine decide_eq_true ?_); first | with_reducible rfl | with_reducible assumption | omega)) ?_)
           | (refine c_false rfl (by first | with_reducible rfl | with_reducible assumption | ((with_reducible refine decide_eq_false ?_); first | with_reducible assumption | omega)) ?_))))
           | (refine z_isg1 ?_; first
           | (refine z_skip1 (by decide) rfl rfl (by first | with_reducible rfl | with_reducible assumption | ((with_reducible refine decide_eq_false ?_); first | with_reducible assumption | omega)) ?_)
           | (refine z_skip1 (by decide) rfl rfl (by first | (simp only [Bool.not_eq_false', decide_eq_true_eq]; omega) | (with_reducible assumption) | (rw [decide_eq_false] <;> (first | omega | with_reducible rfl)) | (rw [decide_eq_true] <;> (first | omega | with_reducible rfl)) | (simp; done) | (simp; omega)) ?_))
           | (refine z_isnil ?_; first
           | refine z_list ?_)
           | (refine z_isop ?_; first
           | refine o_indexskm tabOk rfl rfl rfl rfl (by omega) (by omega) (by decide) ?_
           | (refine z_isbin ?_; first
           | (refine z_isb .add ?_; first
           | refine o_add rfl rfl (by omega) (by omega) (by decide) ?_)
           | (refine z_isb .lss ?_; first
           | refine o_lt rfl rfl (by decide) ?_)
           | (refine z_isb .gtr ?_; first
           | refine o_gt rfl rfl (by decide) ?_))
           | (refine z_isload ?_; first
           | refine o_loadr tabOk (by first | exact own_rds 0 rfl | exact own_rds 1 rfl | exact cells_rds 0 rfl | exact cells_rds 1 rfl | exact cells_rds 2 rfl | exact cells_rds 3 rfl | assumption) rfl rfl rfl (by first | exact dt_l _ _ | exact dt_n _ _ | exact dnn_at _ (by omega) (by omega) (dcs_g _) | exact dnn_at _ (by omega) (by omega) (dcs_p _) | rfl | rfl) (by decide) ?_)
           | (refine z_ispick ?_; first
           | (refine o_pick0 rfl (by first | with_reducible rfl | with_reducible assumption | ((with_reducible refine decide_eq_false ?_); first | with_reducible assumption | omega)) rfl (by decide) ?_)
           | (refine o_pick0 rfl (by first | (simp only [Bool.not_eq_false', decide_eq_true_eq]; omega) | (with_reducible assumption) | (rw [decide_eq_false] <;> (first | omega | with_reducible rfl)) | (rw [decide_eq_true] <;> (first | omega | with_reducible rfl)) | (simp; done) | (simp; omega)) rfl (by decide) ?_))
           | refine o_move rfl (by decide) ?_
           | refine o_assign rfl (by decide) ?_
           | refine o_nil rfl (by decide) ?_
           | refine o_field0 tabOk rfl rfl rfl rfl rfl (by decide) ?_
           | refine o_field tabOk rfl rfl rfl rfl rfl (by decide) ?_))
        · by_cases h0 : 0 ≤ q
          · by_cases h1 : q < 1024
            · have hb := dnn_b T hl (j := q.toNat) (by omega)
              by_cases hb2 : (T k).s q.toNat = true
              · rw [hb2] at hb
                have hn := al_yes (hv_yes hg h0 h1 hb2)
                repeat' (first
                 | ((refine z_isdst 78 ?_; refine o_loadr tabOk (cells_rds 3 rfl) rfl rfl rfl hb (by decide) ?_))
                 | ((refine z_isdst 74 ?_; refine o_ande (and_in (by omega) (by omega)) rfl rfl (by decide) ?_))
                 | (refine s_is ?_; first
                 | (refine s_isagain ?_; first
                 | (exact c_again (k + 1) (by omega) (by omega) ⟨rfl, rfl, rfl, rfl, rfl, (by rw [hn, List.length_append]; rfl), rfl, trivial⟩ (fun w h => h)))
                 | (refine s_isw ?_; first
                 | refine c_seq ?_
                 | refine c_block ?_
                 | refine c_region ?_
                 | refine c_skip ?_
                 | (refine s_iscond ?_; first
                 | (refine c_true rfl (by first | with_reducible rfl | with_reducible assumption | ((with_reducible refine decide_eq_true ?_); first | with_reducible rfl | with_reducible assumption | omega)) ?_))))
                 | (refine z_isg1 ?_; first
                 | (refine z_want1 rfl rfl (by first | with_reducible rfl | with_reducible assumption | ((with_reducible refine decide_eq_true ?_); first | with_reducible rfl | with_reducible assumption | omega)) ?_)
                 | (refine z_want1 rfl rfl (by first | (simp only [Bool.not_eq_true', decide_eq_false_iff_not]; omega) | (with_reducible assumption) | (rw [decide_eq_false] <;> (first | omega | with_reducible rfl)) | (rw [decide_eq_true] <;> (first | omega | with_reducible rfl)) | (simp; done) | (simp; omega)) ?_))
                 | (refine z_isnil ?_; first
                 | refine z_list ?_)
                 | (refine z_isop ?_; first
                 | refine o_indexskm tabOk rfl rfl rfl rfl (by omega) (by omega) (by decide) ?_
                 | (refine z_isbin ?_; first
                 | (refine z_isb .add ?_; first
                 | refine o_add rfl rfl (by omega) (by omega) (by decide) ?_)
                 | (refine z_isb .lss ?_; first
                 | refine o_lt rfl rfl (by decide) ?_)
                 | (refine z_isb .gtr ?_; first
                 | refine o_gt rfl rfl (by decide) ?_)
                 | (refine z_isb .geq ?_; first
                 | refine o_ge rfl rfl (by decide) ?_))
                 | (refine z_isload ?_; first
                 | refine o_loadr tabOk (by first | exact own_rds 0 rfl | exact own_rds 1 rfl | exact cells_rds 0 rfl | exact cells_rds 1 rfl | exact cells_rds 2 rfl | exact cells_rds 3 rfl | assumption) rfl rfl rfl (by first | exact dt_l _ _ | exact dt_n _ _ | exact dnn_at _ (by omega) (by omega) (dcs_g _) | exact dnn_at _ (by omega) (by omega) (dcs_p _) | rfl | rfl) (by decide) ?_)
                 | (refine z_ispick ?_; first
                 | (refine o_pick1 rfl (by first | with_reducible rfl | with_reducible assumption | ((with_reducible refine decide_eq_true ?_); first | with_reducible rfl | with_reducible assumption | omega)) rfl (by decide) ?_)
                 | (refine o_pick1 rfl (by first | (simp only [Bool.not_eq_true', decide_eq_false_iff_not]; omega) | (with_reducible assumption) | (rw [decide_eq_false] <;> (first | omega | with_reducible rfl)) | (rw [decide_eq_true] <;> (first | omega | with_reducible rfl)) | (simp; done) | (simp; omega)) rfl (by decide) ?_))
                 | (refine z_isix ?_; first
                 | refine o_index1 tabOk rfl rfl rfl rfl (by omega) (by omega) (by decide) ?_)
                 | refine o_move rfl (by decide) ?_
                 | refine o_assign rfl (by decide) ?_
                 | refine o_nil rfl (by decide) ?_
                 | refine o_field0 tabOk rfl rfl rfl rfl rfl (by decide) ?_
                 | refine o_field tabOk rfl rfl rfl rfl rfl (by decide) ?_))
              · have hb2 := Bool.eq_false_iff.2 hb2
                rw [hb2] at hb
                have hn := al_no (hv_no3 hb2)
                repeat' (first
                 | ((refine z_isdst 78 ?_; refine o_loadr tabOk (cells_rds 3 rfl) rfl rfl rfl hb (by decide) ?_))
                 | ((refine z_isdst 74 ?_; refine o_ande (and_in (by omega) (by omega)) rfl rfl (by decide) ?_))
                 | (refine s_is ?_; first
                 | (refine s_isagain ?_; first
                 | (exact c_again (k + 1) (by omega) (by omega) ⟨rfl, rfl, rfl, rfl, rfl, (by rw [hn]; rfl), rfl, trivial⟩ (fun w h => h)))
                 | (refine s_isw ?_; first
                 | refine c_seq ?_
                 | refine c_block ?_
                 | refine c_region ?_
                 | refine c_skip ?_
                 | (refine s_iscond ?_; first
                 | (refine c_true rfl (by first | with_reducible rfl | with_reducible assumption | ((with_reducible refine decide_eq_true ?_); first | with_reducible rfl | with_reducible assumption | omega)) ?_)
                 | (refine c_false rfl (by first | with_reducible rfl | with_reducible assumption | ((with_reducible refine decide_eq_false ?_); first | with_reducible assumption | omega)) ?_))))
                 | (refine z_isg1 ?_; first
                 | (refine z_want1 rfl rfl (by first | with_reducible rfl | with_reducible assumption | ((with_reducible refine decide_eq_true ?_); first | with_reducible rfl | with_reducible assumption | omega)) ?_)
                 | (refine z_want1 rfl rfl (by first | (simp only [Bool.not_eq_true', decide_eq_false_iff_not]; omega) | (with_reducible assumption) | (rw [decide_eq_false] <;> (first | omega | with_reducible rfl)) | (rw [decide_eq_true] <;> (first | omega | with_reducible rfl)) | (simp; done) | (simp; omega)) ?_))
                 | (refine z_isnil ?_; first
                 | refine z_list ?_)
                 | (refine z_isop ?_; first
                 | refine o_indexskm tabOk rfl rfl rfl rfl (by omega) (by omega) (by decide) ?_
                 | (refine z_isbin ?_; first
                 | (refine z_isb .add ?_; first
                 | refine o_add rfl rfl (by omega) (by omega) (by decide) ?_)
                 | (refine z_isb .lss ?_; first
                 | refine o_lt rfl rfl (by decide) ?_)
                 | (refine z_isb .gtr ?_; first
                 | refine o_gt rfl rfl (by decide) ?_)
                 | (refine z_isb .geq ?_; first
                 | refine o_ge rfl rfl (by decide) ?_))
                 | (refine z_isload ?_; first
                 | refine o_loadr tabOk (by first | exact own_rds 0 rfl | exact own_rds 1 rfl | exact cells_rds 0 rfl | exact cells_rds 1 rfl | exact cells_rds 2 rfl | exact cells_rds 3 rfl | assumption) rfl rfl rfl (by first | exact dt_l _ _ | exact dt_n _ _ | exact dnn_at _ (by omega) (by omega) (dcs_g _) | exact dnn_at _ (by omega) (by omega) (dcs_p _) | rfl | rfl) (by decide) ?_)
                 | (refine z_ispick ?_; first
                 | (refine o_pick1 rfl (by first | with_reducible rfl | with_reducible assumption | ((with_reducible refine decide_eq_true ?_); first | with_reducible rfl | with_reducible assumption | omega)) rfl (by decide) ?_)
                 | (refine o_pick1 rfl (by first | (simp only [Bool.not_eq_true', decide_eq_false_iff_not]; omega) | (with_reducible assumption) | (rw [decide_eq_false] <;> (first | omega | with_reducible rfl)) | (rw [decide_eq_true] <;> (first | omega | with_reducible rfl)) | (simp; done) | (simp; omega)) rfl (by decide) ?_))
                 | (refine z_isix ?_; first
                 | refine o_index1 tabOk rfl rfl rfl rfl (by omega) (by omega) (by decide) ?_)
                 | refine o_move rfl (by decide) ?_
                 | refine o_assign rfl (by decide) ?_
                 | refine o_nil rfl (by decide) ?_
                 | refine o_field0 tabOk rfl rfl rfl rfl rfl (by decide) ?_
                 | refine o_field tabOk rfl rfl rfl rfl rfl (by decide) ?_))
            · have hn := al_no (hv_no2 (T := T) (k := k) (q := q) (by omega))
              repeat' (first
               | (refine s_is ?_; first
               | (refine s_isagain ?_; first
               | (exact c_again (k + 1) (by omega) (by omega) ⟨rfl, rfl, rfl, rfl, rfl, (by rw [hn]; rfl), rfl, trivial⟩ (fun w h => h)))
               | (refine s_isw ?_; first
               | refine c_seq ?_
               | refine c_block ?_
               | refine c_region ?_
               | refine c_skip ?_
               | (refine s_iscond ?_; first
               | (refine c_true rfl (by first | with_reducible rfl | with_reducible assumption | ((with_reducible refine decide_eq_true ?_); first | with_reducible rfl | with_reducible assumption | omega)) ?_)
               | (refine c_false rfl (by first | with_reducible rfl | with_reducible assumption | ((with_reducible refine decide_eq_false ?_); first | with_reducible assumption | omega)) ?_))))
               | (refine z_isg1 ?_; first
               | (refine z_want1 rfl rfl (by first | with_reducible rfl | with_reducible assumption | ((with_reducible refine decide_eq_true ?_); first | with_reducible rfl | with_reducible assumption | omega)) ?_)
               | (refine z_skip1 (by decide) rfl rfl (by first | with_reducible rfl | with_reducible assumption | ((with_reducible refine decide_eq_false ?_); first | with_reducible assumption | omega)) ?_)
               | (refine z_want1 rfl rfl (by first | (simp only [Bool.not_eq_true', decide_eq_false_iff_not]; omega) | (with_reducible assumption) | (rw [decide_eq_false] <;> (first | omega | with_reducible rfl)) | (rw [decide_eq_true] <;> (first | omega | with_reducible rfl)) | (simp; done) | (simp; omega)) ?_))
               | (refine z_isnil ?_; first
               | refine z_list ?_)
               | (refine z_isop ?_; first
               | refine o_indexskm tabOk rfl rfl rfl rfl (by omega) (by omega) (by decide) ?_
               | (refine z_isbin ?_; first
               | (refine z_isb .add ?_; first
               | refine o_add rfl rfl (by omega) (by omega) (by decide) ?_)
               | (refine z_isb .lss ?_; first
               | refine o_lt rfl rfl (by decide) ?_)
               | (refine z_isb .gtr ?_; first
               | refine o_gt rfl rfl (by decide) ?_)
               | (refine z_isb .geq ?_; first
               | refine o_ge rfl rfl (by decide) ?_))
               | (refine z_isload ?_; first
               | refine o_loadr tabOk (by first | exact own_rds 0 rfl | exact own_rds 1 rfl | exact cells_rds 0 rfl | exact cells_rds 1 rfl | exact cells_rds 2 rfl | exact cells_rds 3 rfl | assumption) rfl rfl rfl (by first | exact dt_l _ _ | exact dt_n _ _ | exact dnn_at _ (by omega) (by omega) (dcs_g _) | exact dnn_at _ (by omega) (by omega) (dcs_p _) | rfl | rfl) (by decide) ?_)
               | (refine z_ispick ?_; first
               | (refine o_pick1 rfl (by first | with_reducible rfl | with_reducible assumption | ((with_reducible refine decide_eq_true ?_); first | with_reducible rfl | with_reducible assumption | omega)) rfl (by decide) ?_)
               | (refine o_pick0 rfl (by first | with_reducible rfl | with_reducible assumption | ((with_reducible refine decide_eq_false ?_); first | with_reducible assumption | omega)) rfl (by decide) ?_)
               | (refine o_pick1 rfl (by first | (simp only [Bool.not_eq_true', decide_eq_false_iff_not]; omega) | (with_reducible assumption) | (rw [decide_eq_false] <;> (first | omega | with_reducible rfl)) | (rw [decide_eq_true] <;> (first | omega | with_reducible rfl)) | (simp; done) | (simp; omega)) rfl (by decide) ?_))
               | refine o_move rfl (by decide) ?_
               | refine o_assign rfl (by decide) ?_
               | refine o_nil rfl (by decide) ?_
               | refine o_field0 tabOk rfl rfl rfl rfl rfl (by decide) ?_
               | refine o_field tabOk rfl rfl rfl rfl rfl (by decide) ?_))
          · have hn := al_no (hv_no2 (T := T) (k := k) (q := q) (by omega))
            repeat' (first
             | (refine s_is ?_; first
             | (refine s_isagain ?_; first
             | (exact c_again (k + 1) (by omega) (by omega) ⟨rfl, rfl, rfl, rfl, rfl, (by rw [hn]; rfl), rfl, trivial⟩ (fun w h => h)))
             | (refine s_isw ?_; first
             | refine c_seq ?_
             | refine c_block ?_
             | refine c_region ?_
             | refine c_skip ?_
             | (refine s_iscond ?_; first
             | (refine c_true rfl (by first | with_reducible rfl | with_reducible assumption | ((with_reducible refine decide_eq_true ?_); first | with_reducible rfl | with_reducible assumption | omega)) ?_)
             | (refine c_false rfl (by first | with_reducible rfl | with_reducible assumption | ((with_reducible refine decide_eq_false ?_); first | with_reducible assumption | omega)) ?_))))
             | (refine z_isg1 ?_; first
             | (refine z_skip1 (by decide) rfl rfl (by first | with_reducible rfl | with_reducible assumption | ((with_reducible refine decide_eq_false ?_); first | with_reducible assumption | omega)) ?_)
             | (refine z_want1 rfl rfl (by first | (simp only [Bool.not_eq_true', decide_eq_false_iff_not]; omega) | (with_reducible assumption) | (rw [decide_eq_false] <;> (first | omega | with_reducible rfl)) | (rw [decide_eq_true] <;> (first | omega | with_reducible rfl)) | (simp; done) | (simp; omega)) ?_))
             | (refine z_isnil ?_; first
             | refine z_list ?_)
             | (refine z_isop ?_; first
             | refine o_indexskm tabOk rfl rfl rfl rfl (by omega) (by omega) (by decide) ?_
             | (refine z_isbin ?_; first
             | (refine z_isb .add ?_; first
             | refine o_add rfl rfl (by omega) (by omega) (by decide) ?_)
             | (refine z_isb .lss ?_; first
             | refine o_lt rfl rfl (by decide) ?_)
             | (refine z_isb .gtr ?_; first
             | refine o_gt rfl rfl (by decide) ?_)
             | (refine z_isb .geq ?_; first
             | refine o_ge rfl rfl (by decide) ?_))
             | (refine z_isload ?_; first
             | refine o_loadr tabOk (by first | exact own_rds 0 rfl | exact own_rds 1 rfl | exact cells_rds 0 rfl | exact cells_rds 1 rfl | exact cells_rds 2 rfl | exact cells_rds 3 rfl | assumption) rfl rfl rfl (by first | exact dt_l _ _ | exact dt_n _ _ | exact dnn_at _ (by omega) (by omega) (dcs_g _) | exact dnn_at _ (by omega) (by omega) (dcs_p _) | rfl | rfl) (by decide) ?_)
             | (refine z_ispick ?_; first
             | (refine o_pick0 rfl (by first | with_reducible rfl | with_reducible assumption | ((with_reducible refine decide_eq_false ?_); first | with_reducible assumption | omega)) rfl (by decide) ?_)
             | (refine o_pick1 rfl (by first | (simp only [Bool.not_eq_true', decide_eq_false_iff_not]; omega) | (with_reducible assumption) | (rw [decide_eq_false] <;> (first | omega | with_reducible rfl)) | (rw [decide_eq_true] <;> (first | omega | with_reducible rfl)) | (simp; done) | (simp; omega)) rfl (by decide) ?_))
             | refine o_move rfl (by decide) ?_
             | refine o_assign rfl (by decide) ?_
             | refine o_nil rfl (by decide) ?_
             | refine o_field0 tabOk rfl rfl rfl rfl rfl (by decide) ?_
             | refine o_field tabOk rfl rfl rfl rfl rfl (by decide) ?_))
      · obtain rfl : k = 64 := by omega
        repeat' (first
         | (refine s_is ?_; first
         | (refine s_ismeet ?_; first
         | exact c_meet () trivial ⟨rfl, rfl, rfl, rfl, rfl, rfl, trivial⟩ (fun w h => h))
         | (refine s_isw ?_; first
         | refine c_seq ?_
         | refine c_region ?_
         | refine c_exit ?_
         | (refine s_iscond ?_; first
         | (refine c_false rfl (by first | with_reducible rfl | with_reducible assumption | ((with_reducible refine decide_eq_false ?_); first | with_reducible assumption | omega)) ?_))))
         | (refine z_isnil ?_; first
         | refine z_list ?_)
         | (refine z_isop ?_; first
         | (refine z_isbin ?_; first
         | (refine z_isb .lss ?_; first
         | refine o_lt rfl rfl (by decide) ?_))
         | refine o_move rfl (by decide) ?_))
    · refine Hold.go ?_
      refine c_own2 0 rfl fun hkc hne => ?_
      have hlen := ch_len hT hch hcp
      have hll := ch_le hT hch
      rw [← hlen]
      have hall : ∀ (i : Nat) (fr' : List Chunk), i < 64 → fr.Sublist fr' → Rds fr' (Tp i).A (rc (rws (T i).s)) := fun i fr' hi h => by
        rw [(hs i).2.2]
        exact (hal i hi).sub h
      repeat' (first
       | (refine s_is ?_; first
       | (refine s_isw ?_; first
       | (refine s_isloop ?_; first
       | ((refine c_loop (X := Nat) (fun i => i ≤ L.length) (fun i => [(1, .int .i64 q), (5, .pointer (some ⟨b, 0, none⟩)), (6, .pointer (some ⟨g6, 0, none⟩)), (7, .pointer (some ⟨db, 0, none⟩)), (9, .slice E L.length e), (10, .int .i64 L.length), (12, .int .i64 i)]) (fun _ => own E e 26 2 L.length (kc T L) :: cells b 73 (tq Tp l) :: cells db 43 (dt nb l) :: cells nb 40 (dnn T) :: fr) (fun i => L.length - i) 0 (Nat.zero_le _) ⟨rfl, rfl, rfl, rfl, rfl, rfl, rfl, trivial⟩ (fun w h => h) (fun i hi => ?_); refine hold ?_)))
       | refine c_seq ?_
       | refine c_block ?_
       | refine c_region ?_
       | refine c_skip ?_
       | (refine s_iscond ?_; first
       | (refine c_false rfl (by first | with_reducible rfl | with_reducible assumption | ((with_reducible refine decide_eq_false ?_); first | with_reducible assumption | omega)) ?_))))
       | (refine z_isnil ?_; first
       | refine z_list ?_)
       | (refine z_isop ?_; first
       | (refine z_isbin ?_; first
       | (refine z_isb .neq ?_; first
       | refine o_ne rfl rfl (by decide) ?_))
       | (refine z_isbi ?_; first
       | refine o_len tabOk rfl rfl (by decide) ?_)
       | refine o_move rfl (by decide) ?_
       | refine o_assign rfl (by decide) ?_))
      refine Hold.go ?_
      by_cases hl : i < L.length
      · obtain ⟨hx1, hx2, hx3⟩ := hch.a i hl
        have hel := kc_el (T := T) hl
        cases i with
        | zero =>
          rw [hch.z hl] at hx1 hx2 hx3 hel
          have hiN : isN T ((0 : Nat) : Int) (T 0).g := by unfold isN; exact ⟨by omega, by omega, hx2, rfl⟩
          repeat' (first
           | ((refine z_isdst 96 ?_; refine o_indexsn tabOk (hne (by omega)) rfl rfl rfl rfl (by omega) (by omega) (by decide) ?_))
           | ((refine z_isdst 97 ?_; refine o_loadsw tabOk (own_rds 0 rfl) rfl rfl rfl (es := [.int .i64 ((0 : Nat) : Int), .int .u64 (T 0).g]) rfl (Nat.succ_pos _) hel (by decide) ?_))
           | ((refine z_isdst 98 ?_; refine o_callr rfl Try.func13 rfl rfl rfl (par_top hs l b _ (cells_rds 1 rfl) hiN hT.r.2) (by decide) ?_))
           | ((refine z_isdst 105 ?_; refine o_indexsn tabOk (hne (by omega)) rfl rfl rfl rfl (by omega) (by omega) (by decide) ?_))
           | ((refine z_isdst 106 ?_; refine o_loadsw tabOk (own_rds 1 rfl) rfl rfl rfl (es := [.int .i64 ((0 : Nat) : Int), .int .u64 (T 0).g]) rfl (Nat.succ_pos _) hel (by decide) ?_))
           | ((refine z_isdst 107 ?_; refine o_callr rfl Try.func12 rfl rfl rfl (set_sm hs l b _ (cells_rds 2 rfl) hiN) (by decide) ?_))
           | ((refine z_isdst 115 ?_; refine o_callx0 Try.func21 rfl rfl rfl (has_w (T 0).s _ _ q true hx3 _ (hall 0 _ hx1 (List.sublist_append_right [_, _, _, _, _, _] _))) (by decide) (by decide) ?_))
           | ((refine z_isdst 13 ?_; refine o_alloca (e := 26) (vs := [.int .i64 0, .int .u64 0]) rfl (by kernel_rfl) (by decide) fun g13 => ?_))
           | ((refine z_isdst 15 ?_; refine o_alloca (e := 31) (vs := [.slice none 0 0]) rfl (by kernel_rfl) (by decide) fun g15 => ?_))
           | (refine s_is ?_; first
           | (refine c_free0 ⟨[115], []⟩ [0, 1, 2, 3, 4, 5, 6, 7, 8, 9, 10, 11, 12, 13, 14, 15, 16, 17, 18, 19, 20, 21, 22, 23, 24, 25] (id := 21) mixed (by kernel_rfl) ?_)
           | (refine s_isagain ?_; first
           | exact c_again 1 (by omega) (by omega) ⟨rfl, rfl, rfl, rfl, rfl, rfl, rfl, trivial⟩ (fun w h => ((h.sel 6 [2, 3, 4, 5, 0, 1] (by decide)).mask [true, true, true, true, false, false])))
           | (refine s_isw ?_; first
           | refine c_seq ?_
           | refine c_block ?_
           | refine c_region ?_
           | refine c_skip ?_
           | (refine s_iscond ?_; first
           | (refine c_true rfl (by first | with_reducible rfl | with_reducible assumption | ((with_reducible refine decide_eq_true ?_); first | with_reducible rfl | with_reducible assumption | omega)) ?_)
           | (refine c_false rfl (by first | with_reducible rfl | with_reducible assumption | ((with_reducible refine decide_eq_false ?_); first | with_reducible assumption | omega)) ?_))))
           | (refine z_isg1 ?_; first
           | (refine z_skip1 (by decide) rfl rfl (by first | with_reducible rfl | with_reducible assumption | ((with_reducible refine decide_eq_false ?_); first | with_reducible assumption | omega)) ?_))
           | (refine z_isg0 ?_; first
           | (refine z_want0 rfl rfl (by first | (simp only [Bool.not_eq_false', decide_eq_true_eq]; omega) | (with_reducible assumption) | (rw [decide_eq_false] <;> (first | omega | with_reducible rfl)) | (rw [decide_eq_true] <;> (first | omega | with_reducible rfl)) | (simp; done) | (simp; omega)) ?_))
           | (refine z_isnil ?_; first
           | refine z_mono0n ?_
           | refine z_list ?_)
           | (refine z_isop ?_; first
           | (refine z_isbin ?_; first
           | (refine z_isb .add ?_; first
           | refine o_add rfl rfl (by omega) (by omega) (by decide) ?_)
           | (refine z_isb .neq ?_; first
           | refine o_bne tabOk rfl rfl rfl (by decide) ?_)
           | (refine z_isb .lss ?_; first
           | refine o_lt rfl rfl (by decide) ?_)
           | (refine z_isb .gtr ?_; first
           | refine o_gt rfl rfl (by decide) ?_))
           | (refine z_isload ?_; first
           | (refine z_ldw tabOk rfl rfl ?_; first
           | (refine o_loadwm tabOk rfl rfl rfl (by repeat' (first | exact List.mem_cons_self | apply List.mem_cons_of_mem)) (by first | rfl | exact dt_len _ _ | exact dnn_len _ | exact dcs_len _ | exact bs_len _ | (simp only [dnn_len, dcs_len, bs_len]; done) | rfl) (by decide) ?_)))
           | (refine z_isstore ?_; first
           | (refine z_stw rfl ?_; first
           | ((refine z_sti 0 rfl rfl ?_; refine o_storeb0 rfl tabOk rfl rfl rfl (by first | rfl | exact dt_len _ _ | exact dnn_len _ | exact dcs_len _ | exact bs_len _ | (simp only [dnn_len, dcs_len, bs_len]; done) | rfl) (by first | rfl | exact dnn_one _ | exact dcs_one _ | exact dt_one _ _ | exact bs_one _ | rfl) (by first | rfl | exact dt_len _ _ | exact dnn_len _ | exact dcs_len _ | exact bs_len _ | (simp only [dnn_len, dcs_len, bs_len]; done) | rfl) ?_))))
           | (refine z_ispick ?_; first
           | (refine o_pick0 rfl (by first | with_reducible rfl | with_reducible assumption | ((with_reducible refine decide_eq_false ?_); first | with_reducible assumption | omega)) rfl (by decide) ?_)
           | (refine o_pick0 rfl (by first | (simp only [Bool.not_eq_false', decide_eq_true_eq]; omega) | (with_reducible assumption) | (rw [decide_eq_false] <;> (first | omega | with_reducible rfl)) | (rw [decide_eq_true] <;> (first | omega | with_reducible rfl)) | (simp; done) | (simp; omega)) rfl (by decide) ?_))
           | (refine z_isbi ?_; first
           | refine o_len tabOk rfl rfl (by decide) ?_)
           | refine o_move rfl (by decide) ?_
           | refine o_assign rfl (by decide) ?_
           | refine o_extract rfl rfl (by decide) ?_
           | refine o_not rfl (by decide) ?_))
        | succ j =>
          have hc := hch.c j hl
          have hel2 := kc_el (T := T) (k := j) (K := L) (by omega)
          have hy1 := (hch.a j (by omega)).1
          generalize L.getD (j + 1) 0 = x at *
          generalize L.getD j 0 = y at *
          have hiN : isN T (x : Int) (T x).g := by unfold isN; exact ⟨by omega, by omega, hx2, rfl⟩
          have e3 := eq_cap y (T y).g
          have hpar : ∀ fr', Rds fr' (some ⟨b, 0, none⟩) (tq Tp l) → Does Try.prog 13 [.pointer (some ⟨b, 0, none⟩), cap x (T x).g] fr' (fun _ : Unit => True) (fun _ => .tuple #[cap y (T y).g, .bool true]) (fun _ => fr') := fun fr' h => by
            have h2 := par_yes hs l b fr' h hiN (by omega) (by omega)
            rw [hc, Int.toNat_natCast] at h2
            exact h2
          have hel3 : ∀ (k : Nat) u, [Value.int .i64 (y : Nat), Value.int .u64 (T y).g][k]? = some u → (kc T L)[(((j + 1 : Nat) : Int) - 1).toNat * 2 + k]? = some u := fun k u hu => by
            rw [show ((j + 1 : Nat) : Int) - 1 = (j : Int) by omega]
            exact hel2 k u hu
          repeat' (first
           | ((refine z_isdst 96 ?_; refine o_indexsn tabOk (hne (by omega)) rfl rfl rfl rfl (by omega) (by omega) (by decide) ?_))
           | ((refine z_isdst 97 ?_; refine o_loadsw tabOk (own_rds 0 rfl) rfl rfl rfl (es := [.int .i64 x, .int .u64 (T x).g]) rfl (Nat.succ_pos _) hel (by decide) ?_))
           | ((refine z_isdst 98 ?_; refine o_callr rfl Try.func13 rfl rfl rfl (hpar _ (cells_rds 1 rfl)) (by decide) ?_))
           | ((refine z_isdst 105 ?_; refine o_indexsn tabOk (hne (by omega)) rfl rfl rfl rfl (by omega) (by omega) (by decide) ?_))
           | ((refine z_isdst 106 ?_; refine o_loadsw tabOk (own_rds 1 rfl) rfl rfl rfl (es := [.int .i64 x, .int .u64 (T x).g]) rfl (Nat.succ_pos _) hel (by decide) ?_))
           | ((refine z_isdst 107 ?_; refine o_callr rfl Try.func12 rfl rfl rfl (set_sm hs l b _ (cells_rds 2 rfl) hiN) (by decide) ?_))
           | ((refine z_isdst 115 ?_; refine o_callx0 Try.func21 rfl rfl rfl (has_w (T x).s _ _ q true hx3 _ (hall x _ hx1 (List.sublist_append_right [_, _, _, _, _, _] _))) (by decide) (by decide) ?_))
           | ((refine z_isdst 131 ?_; refine o_indexsn tabOk (hne (by omega)) rfl rfl rfl rfl (by omega) (by omega) (by decide) ?_))
           | ((refine z_isdst 132 ?_; refine o_loadsw tabOk (own_rds 2 rfl) rfl rfl rfl (es := [.int .i64 y, .int .u64 (T y).g]) rfl (Nat.succ_pos _) hel3 (by decide) ?_))
           | ((refine z_isdst 13 ?_; refine o_alloca (e := 26) (vs := [.int .i64 0, .int .u64 0]) rfl (by kernel_rfl) (by decide) fun g13 => ?_))
           | ((refine z_isdst 15 ?_; refine o_alloca (e := 31) (vs := [.slice none 0 0]) rfl (by kernel_rfl) (by decide) fun g15 => ?_))
           | ((refine z_isdst 133 ?_; refine o_nea cmp_cap rfl rfl ⟨rfl, rfl, trivial⟩ ⟨rfl, rfl, trivial⟩ (by decide) ?_))
           | (refine s_is ?_; first
           | (refine c_free0 ⟨[115], []⟩ [0, 1, 2, 3, 4, 5, 6, 7, 8, 9, 10, 11, 12, 13, 14, 15, 16, 17, 18, 19, 20, 21, 22, 23, 24, 25] (id := 21) mixed (by kernel_rfl) ?_)
           | (refine s_isagain ?_; first
           | exact c_again (j + 2) (by omega) (by omega) ⟨rfl, rfl, rfl, rfl, rfl, rfl, congrArg some (congrArg (Value.int .i64) (by omega)), trivial⟩ (fun w h => ((h.sel 6 [2, 3, 4, 5, 0, 1] (by decide)).mask [true, true, true, true, false, false])))
           | (refine s_isw ?_; first
           | refine c_seq ?_
           | refine c_block ?_
           | refine c_region ?_
           | refine c_skip ?_
           | (refine s_iscond ?_; first
           | (refine c_true rfl (by first | with_reducible rfl | with_reducible assumption | ((with_reducible refine decide_eq_true ?_); first | with_reducible rfl | with_reducible assumption | omega)) ?_)
           | (refine c_false rfl (by first | with_reducible rfl | with_reducible assumption | ((with_reducible refine decide_eq_false ?_); first | with_reducible assumption | omega)) ?_))))
           | (refine z_isg1 ?_; first
           | (refine z_want1 rfl rfl (by first | with_reducible rfl | with_reducible assumption | ((with_reducible refine decide_eq_true ?_); first | with_reducible rfl | with_reducible assumption | omega)) ?_))
           | (refine z_isg0 ?_; first
           | (refine z_want0 rfl rfl (by first | (simp only [Bool.not_eq_false', decide_eq_true_eq]; omega) | (with_reducible assumption) | (rw [decide_eq_false] <;> (first | omega | with_reducible rfl)) | (rw [decide_eq_true] <;> (first | omega | with_reducible rfl)) | (simp; done) | (simp; omega)) ?_))
           | (refine z_isnil ?_; first
           | refine z_mono0n ?_
           | refine z_list ?_)
           | (refine z_isop ?_; first
           | (refine z_isbin ?_; first
           | (refine z_isb .add ?_; first
           | refine o_add rfl rfl (by omega) (by omega) (by decide) ?_)
           | (refine z_isb .sub ?_; first
           | refine o_sub rfl rfl (by omega) (by omega) (by decide) ?_)
           | (refine z_isb .neq ?_; first
           | refine o_bne tabOk rfl rfl rfl (by decide) ?_)
           | (refine z_isb .lss ?_; first
           | refine o_lt rfl rfl (by decide) ?_)
           | (refine z_isb .gtr ?_; first
           | refine o_gt rfl rfl (by decide) ?_))
           | (refine z_isload ?_; first
           | (refine z_ldw tabOk rfl rfl ?_; first
           | (refine o_loadwm tabOk rfl rfl rfl (by repeat' (first | exact List.mem_cons_self | apply List.mem_cons_of_mem)) (by first | rfl | exact dt_len _ _ | exact dnn_len _ | exact dcs_len _ | exact bs_len _ | (simp only [dnn_len, dcs_len, bs_len]; done) | rfl) (by decide) ?_)))
           | (refine z_isstore ?_; first
           | (refine z_stw rfl ?_; first
           | ((refine z_sti 0 rfl rfl ?_; refine o_storeb0 rfl tabOk rfl rfl rfl (by first | rfl | exact dt_len _ _ | exact dnn_len _ | exact dcs_len _ | exact bs_len _ | (simp only [dnn_len, dcs_len, bs_len]; done) | rfl) (by first | rfl | exact dnn_one _ | exact dcs_one _ | exact dt_one _ _ | exact bs_one _ | rfl) (by first | rfl | exact dt_len _ _ | exact dnn_len _ | exact dcs_len _ | exact bs_len _ | (simp only [dnn_len, dcs_len, bs_len]; done) | rfl) ?_))))
           | (refine z_ispick ?_; first
           | (refine o_pick1 rfl (by first | with_reducible rfl | with_reducible assumption | ((with_reducible refine decide_eq_true ?_); first | with_reducible rfl | with_reducible assumption | omega)) rfl (by decide) ?_)
           | (refine o_pick0 rfl (by first | (simp only [Bool.not_eq_false', decide_eq_true_eq]; omega) | (with_reducible assumption) | (rw [decide_eq_false] <;> (first | omega | with_reducible rfl)) | (rw [decide_eq_true] <;> (first | omega | with_reducible rfl)) | (simp; done) | (simp; omega)) rfl (by decide) ?_))
           | (refine z_isbi ?_; first
           | refine o_len tabOk rfl rfl (by decide) ?_)
           | refine o_move rfl (by decide) ?_
           | refine o_assign rfl (by decide) ?_
           | refine o_extract rfl rfl (by decide) ?_
           | refine o_not rfl (by decide) ?_))
      · obtain rfl : i = L.length := by omega
        by_cases h0 : q < 0
        · have hL0 := ch_off hch (.inl h0)
          repeat' (first
           | (refine s_is ?_; first
           | (refine s_isret ?_; first
           | exact f_r1 rfl (res_t rfl) () trivial rfl (fun w h => h.sub (hsub.trans (List.sublist_append_right [_, _, _, _] _))))
           | (refine s_isw ?_; first
           | refine c_seq ?_
           | refine c_region ?_
           | refine c_ret ?_
           | refine c_exit ?_
           | (refine s_iscond ?_; first
           | (refine c_true rfl (by first | with_reducible rfl | with_reducible assumption | ((with_reducible refine decide_eq_true ?_); first | with_reducible rfl | with_reducible assumption | omega)) ?_)
           | (refine c_false rfl (by first | with_reducible rfl | with_reducible assumption | ((with_reducible refine decide_eq_false ?_); first | with_reducible assumption | omega)) ?_)))
           | refine x_then_ret ?_)
           | (refine z_isg1 ?_; first
           | (refine z_want1 rfl rfl (by first | with_reducible rfl | with_reducible assumption | ((with_reducible refine decide_eq_true ?_); first | with_reducible rfl | with_reducible assumption | omega)) ?_))
           | (refine z_isg0 ?_; first
           | (refine z_skip0 (by decide) rfl rfl (by first | with_reducible rfl | with_reducible assumption | ((with_reducible refine decide_eq_true ?_); first | with_reducible rfl | with_reducible assumption | omega)) ?_))
           | (refine z_isnil ?_; first
           | refine z_list ?_)
           | (refine z_isop ?_; first
           | (refine z_isbin ?_; first
           | (refine z_isb .eql ?_; first
           | refine o_eq rfl rfl (by decide) ?_)
           | (refine z_isb .lss ?_; first
           | refine o_lt rfl rfl (by decide) ?_))
           | (refine z_iscall ?_; first
           | ((refine z_iscallf 18 ?_; refine o_fn rfl Try.func18 rfl rfl rfl (cawake_p) (by decide) ?_)))
           | (refine z_ispick ?_; first
           | (refine o_pick1 rfl (by first | with_reducible rfl | with_reducible assumption | ((with_reducible refine decide_eq_true ?_); first | with_reducible rfl | with_reducible assumption | omega)) rfl (by decide) ?_))
           | (refine z_isbi ?_; first
           | refine o_len tabOk rfl rfl (by decide) ?_)
           | refine o_move rfl (by decide) ?_
           | refine o_assign rfl (by decide) ?_))
        · by_cases h1 : 1023 < q
          · have hL0 := ch_off hch (.inr h1)
            repeat' (first
             | (refine s_is ?_; first
             | (refine s_isret ?_; first
             | exact f_r1 rfl (res_t rfl) () trivial rfl (fun w h => h.sub (hsub.trans (List.sublist_append_right [_, _, _, _] _))))
             | (refine s_isw ?_; first
             | refine c_seq ?_
             | refine c_region ?_
             | refine c_ret ?_
             | refine c_exit ?_
             | (refine s_iscond ?_; first
             | (refine c_true rfl (by first | with_reducible rfl | with_reducible assumption | ((with_reducible refine decide_eq_true ?_); first | with_reducible rfl | with_reducible assumption | omega)) ?_)
             | (refine c_false rfl (by first | with_reducible rfl | with_reducible assumption | ((with_reducible refine decide_eq_false ?_); first | with_reducible assumption | omega)) ?_)))
             | refine x_then_ret ?_)
             | (refine z_isg1 ?_; first
             | (refine z_want1 rfl rfl (by first | with_reducible rfl | with_reducible assumption | ((with_reducible refine decide_eq_true ?_); first | with_reducible rfl | with_reducible assumption | omega)) ?_))
             | (refine z_isg0 ?_; first
             | (refine z_want0 rfl rfl (by first | with_reducible rfl | with_reducible assumption | ((with_reducible refine decide_eq_false ?_); first | with_reducible assumption | omega)) ?_))
             | (refine z_isnil ?_; first
             | refine z_list ?_)
             | (refine z_isop ?_; first
             | (refine z_isbin ?_; first
             | (refine z_isb .eql ?_; first
             | refine o_eq rfl rfl (by decide) ?_)
             | (refine z_isb .lss ?_; first
             | refine o_lt rfl rfl (by decide) ?_)
             | (refine z_isb .gtr ?_; first
             | refine o_gt rfl rfl (by decide) ?_))
             | (refine z_iscall ?_; first
             | ((refine z_iscallf 18 ?_; refine o_fn rfl Try.func18 rfl rfl rfl (cawake_p) (by decide) ?_)))
             | (refine z_ispick ?_; first
             | (refine o_pick1 rfl (by first | with_reducible rfl | with_reducible assumption | ((with_reducible refine decide_eq_true ?_); first | with_reducible rfl | with_reducible assumption | omega)) rfl (by decide) ?_)
             | (refine o_pick0 rfl (by first | with_reducible rfl | with_reducible assumption | ((with_reducible refine decide_eq_false ?_); first | with_reducible assumption | omega)) rfl (by decide) ?_))
             | (refine z_isbi ?_; first
             | refine o_len tabOk rfl rfl (by decide) ?_)
             | refine o_move rfl (by decide) ?_
             | refine o_assign rfl (by decide) ?_))
          · have hi0 : isN T ((0 : Nat) : Int) 1 := by unfold isN; exact ⟨by omega, by omega, by decide, hg1⟩
            obtain ⟨m, T', hm, hw', hst, hTe, hme, hp, hd⟩ := ct_all hT 0 1 hi0 (ofS q (q + 1))
            rw [cut_n hT (by omega) (by omega), ← hlen] at hme
            have hgone : inS (T' 0).s q = false := by rw [hTe]; exact cut_gone hT (by omega) (by omega) (by simp)
            have hcut : ∀ (A : Option Addr) (c : Nat) (M : List Chunk), Does Try.prog 22 [.pointer (some ⟨b, 0, none⟩), cap 0 1, .agg #[.slice A (rws (ofS q (q + 1))).length c]] ([own A c 75 2 (rws (ofS q (q + 1))).length (rc (rws (ofS q (q + 1)))), cells b 73 (tq Tp l)] ++ (M ++ fr)) (fun x : Tq × List Chunk => Sm T' x.1 ∧ Al (x.2 ++ (own A c 75 2 (rws (ofS q (q + 1))).length (rc (rws (ofS q (q + 1)))) :: fr)) x.1) (fun _ => .tuple #[.int .i64 L.length, .int .i64 0]) (fun x => (cells b 73 (tq x.1 l) :: (x.2 ++ [own A c 75 2 (rws (ofS q (q + 1))).length (rc (rws (ofS q (q + 1))))])) ++ (M ++ fr)) := fun A c M => by
              rw [← hme]
              exact does_loc M (hp b Tp (own A c 75 2 (rws (ofS q (q + 1))).length (rc (rws (ofS q (q + 1)))) :: fr) A c hs (hal.sub (List.sublist_cons_self _ _)) (own_rds 0 rfl))
            repeat' (first
             | ((refine s_sel 2 [1, 0] (by decide) ?_; refine c_free1 ⟨[153, 154], []⟩ [0, 1, 2, 3, 4, 5, 6, 7, 8, 9, 10, 11] (id := 25) mixed (by kernel_rfl) ?_))
             | ((refine z_isdst 149 ?_; refine o_loadrw tabOk (hg6.sub (List.sublist_append_right [_, _, _] _)) rfl rfl rfl (es := [.int .i64 0, .int .u64 1]) rfl (Nat.succ_pos _) (fun j u hu => by rw [Nat.zero_add]; exact hu) (by decide) ?_))
             | ((refine z_isdst 153 ?_; refine o_callx1 Try.func8 rfl rfl rfl (of_s q (q + 1) _) (by decide) (by decide) fun y _ => ?_; obtain ⟨A, c⟩ := y; dsimp only))
             | ((refine z_isdst 154 ?_; refine o_callx (po := fun x : Tq × List Chunk => cells b 73 (tq x.1 l) :: (x.2 ++ [own A c 75 2 (rws (ofS q (q + 1))).length (rc (rws (ofS q (q + 1))))])) Try.func22 rfl rfl rfl (hcut A c [_, _, _]) (by decide) (by decide) fun x hx => ?_))
             | refine s_behind3 ?_
             | ((refine z_isdst 167 ?_; refine o_calla Try.func20 rfl rfl rfl (over_0 T' l hw' q hgone b x.1 _ hx.1 ((al_mid hx.2).sub (List.sublist_append_right [_, _, _, _] _)) (cells_rds 0 rfl)) (by decide) fun z _ => ?_))
             | (refine s_is ?_; first
             | (refine s_isret ?_; first
             | exact f_r1 rfl (res_t rfl) () trivial rfl (fun w h => h.sub ((hsub.trans (List.sublist_append_right _ _)).trans (List.sublist_append_right [_, _, _, _, _] _))))
             | (refine s_isw ?_; first
             | refine c_seq ?_
             | refine c_region ?_
             | refine c_skip ?_
             | refine c_ret ?_
             | refine c_exit ?_
             | (refine s_iscond ?_; first
             | (refine c_false rfl (by first | with_reducible rfl | with_reducible assumption | ((with_reducible refine decide_eq_false ?_); first | with_reducible assumption | omega)) ?_))))
             | (refine z_isg1 ?_; first
             | (refine z_want1 rfl rfl (by first | with_reducible rfl | with_reducible assumption | ((with_reducible refine decide_eq_true ?_); first | with_reducible rfl | with_reducible assumption | omega)) ?_))
             | (refine z_isg0 ?_; first
             | (refine z_want0 rfl rfl (by first | with_reducible rfl | with_reducible assumption | ((with_reducible refine decide_eq_false ?_); first | with_reducible assumption | omega)) ?_))
             | (refine z_isnil ?_; first
             | refine z_mono0n ?_
             | refine z_list ?_)
             | (refine z_isop ?_; first
             | (refine z_isbin ?_; first
             | (refine z_isb .add ?_; first
             | refine o_add rfl rfl (by omega) (by omega) (by decide) ?_)
             | (refine z_isb .eql ?_; first
             | refine o_eq rfl rfl (by decide) ?_)
             | (refine z_isb .lss ?_; first
             | refine o_lt rfl rfl (by decide) ?_)
             | (refine z_isb .gtr ?_; first
             | refine o_gt rfl rfl (by decide) ?_))
             | (refine z_iscall ?_; first
             | ((refine z_iscallf 18 ?_; refine o_fn rfl Try.func18 rfl rfl rfl (cawake_p) (by decide) ?_)))
             | (refine z_ispick ?_; first
             | (refine o_pick1 rfl (by first | with_reducible rfl | with_reducible assumption | ((with_reducible refine decide_eq_true ?_); first | with_reducible rfl | with_reducible assumption | omega)) rfl (by decide) ?_)
             | (refine o_pick0 rfl (by first | with_reducible rfl | with_reducible assumption | ((with_reducible refine decide_eq_false ?_); first | with_reducible assumption | omega)) rfl (by decide) ?_))
             | (refine z_isbi ?_; first
             | refine o_len tabOk rfl rfl (by decide) ?_)
             | refine o_move rfl (by decide) ?_
             | refine o_assign rfl (by decide) ?_
             | refine o_extract rfl rfl (by decide) ?_))
end Go.Proofs.Ytfegdehgnhomnaa
