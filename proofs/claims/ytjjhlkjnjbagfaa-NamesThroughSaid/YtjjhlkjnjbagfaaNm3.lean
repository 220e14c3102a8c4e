/-
Names: the law of tables through one another.
-/
import Derived.Test.YtjjhlkjnjbagfaaNm2
namespace Go.Proofs.Ytjjhlkjnjbagfaa
set_option linter.unusedVariables false
set_option linter.unusedSimpArgs false
open Eng
theorem through_cr (L M R : List Int) (hR : thr L M = R) (hL : Nm L) (hM : Nm M) (A B : Option Addr) (c e : Nat) (fr : List Chunk) (hrd : Rds fr A (il L)) (hrd2 : Rds fr B (il M)) (hx : L.length ≤ 1000000) (hx2 : M.length ≤ 1000000) :
    Does Try.prog 37 [.agg #[.slice A L.length c], .agg #[.slice B M.length e]] fr (fun _ : Option Addr × Nat => True) (fun x => .agg #[.slice x.1 R.length x.2]) (fun x => own x.1 x.2 3 1 R.length (il R) :: fr) := by subst hR; exact through_c L M hL hM A B c e fr hrd hrd2 hx hx2
theorem rthrough_cr (L M R : List Int) (hR : thr L M = R) (A B : Option Addr) (c e : Nat) (fr : List Chunk) (hrd : Rds fr A (il L)) (hrd2 : Rds fr B (il M)) (hx : L.length ≤ 1000000) (hx2 : M.length ≤ 1000000) :
    Does Try.prog 38 [.slice A L.length c, .slice B M.length e] fr (fun _ : Option Addr × Nat => True) (fun x => .slice x.1 R.length x.2) (fun x => own x.1 x.2 3 1 R.length (il R) :: fr) := by subst hR; exact rthrough_c L M A B c e fr hrd hrd2 hx hx2
attribute [local irreducible] Eng.Hold Eng.Z Eng.S Eng.cells Eng.old Eng.own il fi gt addL drL nmN
attribute [local irreducible] ix fd gv Dn.cs mk dee mkc thr sm owL rc rws mS ofS layS emp bs al inS
set_option maxHeartbeats 8000000 in
theorem namesThrough (W : World) (A0 B0 C0 : Option Addr) (c0 d0 e0 : Nat) (D E F : List Dn) (hrd0 : Rds [old W] A0 (D.flatMap Dn.cs)) (hrd1 : Rds [old W] B0 (E.flatMap Dn.cs)) (hrd2 : Rds [old W] C0 (F.flatMap Dn.cs)) (hx : D.length ≤ 9223372036854775807) (hx2 : E.length ≤ 9223372036854775807) (hx3 : F.length ≤ 9223372036854775807) :
    Does Try.prog 8 [.slice A0 D.length c0, .slice B0 E.length d0, .slice C0 F.length e0] [old W] (fun _ : Unit => True) (fun _ => .bool true) (fun _ => [old W]) := by
  intro w hw
  refine f_enter Try.func8 rfl Try.ntmps8 rfl hw ?_
  obtain ⟨hL, hl⟩ := mkc_ok D
  obtain ⟨hM, hm⟩ := mkc_ok E
  obtain ⟨hK, hk⟩ := mkc_ok F
  generalize hDL : mkc D = L at *
  generalize hEM : mkc E = M at *
  generalize hFK : mkc F = K at *
  obtain ⟨P, hP⟩ : ∃ P, thr L M = P := ⟨_, rfl⟩
  obtain ⟨R, hR⟩ : ∃ R, thr P K = R := ⟨_, rfl⟩
  obtain ⟨Q, hQ⟩ : ∃ Q, thr M K = Q := ⟨_, rfl⟩
  have hLQ : thr L Q = R := by rw [← hQ, ← hR, ← hP]; exact (thr_assoc L M K).symm
  have nP : Nm P := by rw [← hP]; exact Nm.thr hM
  have nQ : Nm Q := by rw [← hQ]; exact Nm.thr hK
  have nR : Nm R := by rw [← hR]; exact Nm.thr hK
  have lP : P.length = L.length := by rw [← hP]; exact thr_len L M
  have lQ : Q.length = M.length := by rw [← hQ]; exact thr_len M K
  have lR : R.length = L.length := by rw [← hR, thr_len]; exact lP
  have hsub : layS 1 (mS P P.length) (mS M M.length) = emp := by rw [lP, ← hP]; exact thr_sub L M
  repeat' (first
   | ((refine z_isdst 15 ?_; refine o_calla Try.func10 rfl rfl rfl (made_cL D L hDL A0 c0 _ hrd0 hx) (by decide) fun x1 _ => ?_; obtain ⟨A, a, A2, a2⟩ := x1; dsimp only))
   | ((refine z_isdst 20 ?_; refine o_calla Try.func10 rfl rfl rfl (made_cL E M hEM B0 d0 _ (hrd1.sub (List.sublist_append_right [_, _, _] _)) hx2) (by decide) fun x2 _ => ?_; obtain ⟨B, b, B2, b2⟩ := x2; dsimp only))
   | ((refine z_isdst 25 ?_; refine o_calla Try.func10 rfl rfl rfl (made_cL F K hFK C0 e0 _ (hrd2.sub (List.sublist_append_right [_, _, _, _, _, _] _)) hx3) (by decide) fun x3 _ => ?_; obtain ⟨C, c, C2, c2⟩ := x3; dsimp only))
   | ((refine z_isdst 30 ?_; refine o_callx1 Try.func37 rfl rfl rfl (through_cr L M P hP hL hM _ _ _ _ _ (by first | exact own_rds 0 rfl | exact own_rds 1 rfl | exact own_rds 2 rfl | exact own_rds 3 rfl | exact own_rds 4 rfl | exact own_rds 5 rfl | exact own_rds 6 rfl | exact own_rds 7 rfl | exact own_rds 8 rfl | exact own_rds 9 rfl | exact own_rds 10 rfl | exact own_rds 11 rfl | exact own_rds 12 rfl | exact own_rds 13 rfl | exact own_rds 14 rfl | exact own_rds 15 rfl | exact own_rds 16 rfl | exact own_rds 17 rfl | assumption) (by first | exact own_rds 0 rfl | exact own_rds 1 rfl | exact own_rds 2 rfl | exact own_rds 3 rfl | exact own_rds 4 rfl | exact own_rds 5 rfl | exact own_rds 6 rfl | exact own_rds 7 rfl | exact own_rds 8 rfl | exact own_rds 9 rfl | exact own_rds 10 rfl | exact own_rds 11 rfl | exact own_rds 12 rfl | exact own_rds 13 rfl | exact own_rds 14 rfl | exact own_rds 15 rfl | exact own_rds 16 rfl | exact own_rds 17 rfl | assumption) (by omega) (by omega)) (by decide) (by decide) fun u1 _ => ?_))
   | ((refine z_isdst 33 ?_; refine o_callx1 Try.func38 rfl rfl rfl (rthrough_cr L M P hP _ _ _ _ _ (by first | exact own_rds 0 rfl | exact own_rds 1 rfl | exact own_rds 2 rfl | exact own_rds 3 rfl | exact own_rds 4 rfl | exact own_rds 5 rfl | exact own_rds 6 rfl | exact own_rds 7 rfl | exact own_rds 8 rfl | exact own_rds 9 rfl | exact own_rds 10 rfl | exact own_rds 11 rfl | exact own_rds 12 rfl | exact own_rds 13 rfl | exact own_rds 14 rfl | exact own_rds 15 rfl | exact own_rds 16 rfl | exact own_rds 17 rfl | assumption) (by first | exact own_rds 0 rfl | exact own_rds 1 rfl | exact own_rds 2 rfl | exact own_rds 3 rfl | exact own_rds 4 rfl | exact own_rds 5 rfl | exact own_rds 6 rfl | exact own_rds 7 rfl | exact own_rds 8 rfl | exact own_rds 9 rfl | exact own_rds 10 rfl | exact own_rds 11 rfl | exact own_rds 12 rfl | exact own_rds 13 rfl | exact own_rds 14 rfl | exact own_rds 15 rfl | exact own_rds 16 rfl | exact own_rds 17 rfl | assumption) (by omega) (by omega)) (by decide) (by decide) fun u2 _ => ?_))
   | ((refine z_isdst 34 ?_; refine o_callx0 Try.func11 rfl rfl rfl (nsame_c P nP _ _ _ _ _ (by first | exact own_rds 0 rfl | exact own_rds 1 rfl | exact own_rds 2 rfl | exact own_rds 3 rfl | exact own_rds 4 rfl | exact own_rds 5 rfl | exact own_rds 6 rfl | exact own_rds 7 rfl | exact own_rds 8 rfl | exact own_rds 9 rfl | exact own_rds 10 rfl | exact own_rds 11 rfl | exact own_rds 12 rfl | exact own_rds 13 rfl | exact own_rds 14 rfl | exact own_rds 15 rfl | exact own_rds 16 rfl | exact own_rds 17 rfl | assumption) (by first | exact own_rds 0 rfl | exact own_rds 1 rfl | exact own_rds 2 rfl | exact own_rds 3 rfl | exact own_rds 4 rfl | exact own_rds 5 rfl | exact own_rds 6 rfl | exact own_rds 7 rfl | exact own_rds 8 rfl | exact own_rds 9 rfl | exact own_rds 10 rfl | exact own_rds 11 rfl | exact own_rds 12 rfl | exact own_rds 13 rfl | exact own_rds 14 rfl | exact own_rds 15 rfl | exact own_rds 16 rfl | exact own_rds 17 rfl | assumption) (by omega)) (by decide) (by decide) ?_))
   | ((refine z_isdst 38 ?_; refine o_callx1 Try.func37 rfl rfl rfl (through_cr L M P hP hL hM _ _ _ _ _ (by first | exact own_rds 0 rfl | exact own_rds 1 rfl | exact own_rds 2 rfl | exact own_rds 3 rfl | exact own_rds 4 rfl | exact own_rds 5 rfl | exact own_rds 6 rfl | exact own_rds 7 rfl | exact own_rds 8 rfl | exact own_rds 9 rfl | exact own_rds 10 rfl | exact own_rds 11 rfl | exact own_rds 12 rfl | exact own_rds 13 rfl | exact own_rds 14 rfl | exact own_rds 15 rfl | exact own_rds 16 rfl | exact own_rds 17 rfl | assumption) (by first | exact own_rds 0 rfl | exact own_rds 1 rfl | exact own_rds 2 rfl | exact own_rds 3 rfl | exact own_rds 4 rfl | exact own_rds 5 rfl | exact own_rds 6 rfl | exact own_rds 7 rfl | exact own_rds 8 rfl | exact own_rds 9 rfl | exact own_rds 10 rfl | exact own_rds 11 rfl | exact own_rds 12 rfl | exact own_rds 13 rfl | exact own_rds 14 rfl | exact own_rds 15 rfl | exact own_rds 16 rfl | exact own_rds 17 rfl | assumption) (by omega) (by omega)) (by decide) (by decide) fun u3 _ => ?_))
   | ((refine z_isdst 40 ?_; refine o_callx1 Try.func37 rfl rfl rfl (through_cr P K R hR nP hK _ _ _ _ _ (by first | exact own_rds 0 rfl | exact own_rds 1 rfl | exact own_rds 2 rfl | exact own_rds 3 rfl | exact own_rds 4 rfl | exact own_rds 5 rfl | exact own_rds 6 rfl | exact own_rds 7 rfl | exact own_rds 8 rfl | exact own_rds 9 rfl | exact own_rds 10 rfl | exact own_rds 11 rfl | exact own_rds 12 rfl | exact own_rds 13 rfl | exact own_rds 14 rfl | exact own_rds 15 rfl | exact own_rds 16 rfl | exact own_rds 17 rfl | assumption) (by first | exact own_rds 0 rfl | exact own_rds 1 rfl | exact own_rds 2 rfl | exact own_rds 3 rfl | exact own_rds 4 rfl | exact own_rds 5 rfl | exact own_rds 6 rfl | exact own_rds 7 rfl | exact own_rds 8 rfl | exact own_rds 9 rfl | exact own_rds 10 rfl | exact own_rds 11 rfl | exact own_rds 12 rfl | exact own_rds 13 rfl | exact own_rds 14 rfl | exact own_rds 15 rfl | exact own_rds 16 rfl | exact own_rds 17 rfl | assumption) (by omega) (by omega)) (by decide) (by decide) fun u4 _ => ?_))
   | ((refine z_isdst 44 ?_; refine o_callx1 Try.func37 rfl rfl rfl (through_cr M K Q hQ hM hK _ _ _ _ _ (by first | exact own_rds 0 rfl | exact own_rds 1 rfl | exact own_rds 2 rfl | exact own_rds 3 rfl | exact own_rds 4 rfl | exact own_rds 5 rfl | exact own_rds 6 rfl | exact own_rds 7 rfl | exact own_rds 8 rfl | exact own_rds 9 rfl | exact own_rds 10 rfl | exact own_rds 11 rfl | exact own_rds 12 rfl | exact own_rds 13 rfl | exact own_rds 14 rfl | exact own_rds 15 rfl | exact own_rds 16 rfl | exact own_rds 17 rfl | assumption) (by first | exact own_rds 0 rfl | exact own_rds 1 rfl | exact own_rds 2 rfl | exact own_rds 3 rfl | exact own_rds 4 rfl | exact own_rds 5 rfl | exact own_rds 6 rfl | exact own_rds 7 rfl | exact own_rds 8 rfl | exact own_rds 9 rfl | exact own_rds 10 rfl | exact own_rds 11 rfl | exact own_rds 12 rfl | exact own_rds 13 rfl | exact own_rds 14 rfl | exact own_rds 15 rfl | exact own_rds 16 rfl | exact own_rds 17 rfl | assumption) (by omega) (by omega)) (by decide) (by decide) fun u5 _ => ?_))
   | ((refine z_isdst 45 ?_; refine o_callx1 Try.func37 rfl rfl rfl (through_cr L Q R hLQ hL nQ _ _ _ _ _ (by first | exact own_rds 0 rfl | exact own_rds 1 rfl | exact own_rds 2 rfl | exact own_rds 3 rfl | exact own_rds 4 rfl | exact own_rds 5 rfl | exact own_rds 6 rfl | exact own_rds 7 rfl | exact own_rds 8 rfl | exact own_rds 9 rfl | exact own_rds 10 rfl | exact own_rds 11 rfl | exact own_rds 12 rfl | exact own_rds 13 rfl | exact own_rds 14 rfl | exact own_rds 15 rfl | exact own_rds 16 rfl | exact own_rds 17 rfl | assumption) (by first | exact own_rds 0 rfl | exact own_rds 1 rfl | exact own_rds 2 rfl | exact own_rds 3 rfl | exact own_rds 4 rfl | exact own_rds 5 rfl | exact own_rds 6 rfl | exact own_rds 7 rfl | exact own_rds 8 rfl | exact own_rds 9 rfl | exact own_rds 10 rfl | exact own_rds 11 rfl | exact own_rds 12 rfl | exact own_rds 13 rfl | exact own_rds 14 rfl | exact own_rds 15 rfl | exact own_rds 16 rfl | exact own_rds 17 rfl | assumption) (by omega) (by omega)) (by decide) (by decide) fun u6 _ => ?_))
   | ((refine z_isdst 46 ?_; refine o_callx0 Try.func36 rfl rfl rfl (tsame_self R nR _ _ _ _ _ (by first | exact own_rds 0 rfl | exact own_rds 1 rfl | exact own_rds 2 rfl | exact own_rds 3 rfl | exact own_rds 4 rfl | exact own_rds 5 rfl | exact own_rds 6 rfl | exact own_rds 7 rfl | exact own_rds 8 rfl | exact own_rds 9 rfl | exact own_rds 10 rfl | exact own_rds 11 rfl | exact own_rds 12 rfl | exact own_rds 13 rfl | exact own_rds 14 rfl | exact own_rds 15 rfl | exact own_rds 16 rfl | exact own_rds 17 rfl | assumption) (by first | exact own_rds 0 rfl | exact own_rds 1 rfl | exact own_rds 2 rfl | exact own_rds 3 rfl | exact own_rds 4 rfl | exact own_rds 5 rfl | exact own_rds 6 rfl | exact own_rds 7 rfl | exact own_rds 8 rfl | exact own_rds 9 rfl | exact own_rds 10 rfl | exact own_rds 11 rfl | exact own_rds 12 rfl | exact own_rds 13 rfl | exact own_rds 14 rfl | exact own_rds 15 rfl | exact own_rds 16 rfl | exact own_rds 17 rfl | assumption) (by omega)) (by decide) (by decide) ?_))
   | ((refine z_isdst 51 ?_; refine o_callx1 Try.func37 rfl rfl rfl (through_cr L M P hP hL hM _ _ _ _ _ (by first | exact own_rds 0 rfl | exact own_rds 1 rfl | exact own_rds 2 rfl | exact own_rds 3 rfl | exact own_rds 4 rfl | exact own_rds 5 rfl | exact own_rds 6 rfl | exact own_rds 7 rfl | exact own_rds 8 rfl | exact own_rds 9 rfl | exact own_rds 10 rfl | exact own_rds 11 rfl | exact own_rds 12 rfl | exact own_rds 13 rfl | exact own_rds 14 rfl | exact own_rds 15 rfl | exact own_rds 16 rfl | exact own_rds 17 rfl | assumption) (by first | exact own_rds 0 rfl | exact own_rds 1 rfl | exact own_rds 2 rfl | exact own_rds 3 rfl | exact own_rds 4 rfl | exact own_rds 5 rfl | exact own_rds 6 rfl | exact own_rds 7 rfl | exact own_rds 8 rfl | exact own_rds 9 rfl | exact own_rds 10 rfl | exact own_rds 11 rfl | exact own_rds 12 rfl | exact own_rds 13 rfl | exact own_rds 14 rfl | exact own_rds 15 rfl | exact own_rds 16 rfl | exact own_rds 17 rfl | assumption) (by omega) (by omega)) (by decide) (by decide) fun u7 _ => ?_))
   | ((refine z_isdst 52 ?_; refine o_callx1 Try.func33 rfl rfl rfl (meant_c P nP _ _ _ (by first | exact own_rds 0 rfl | exact own_rds 1 rfl | exact own_rds 2 rfl | exact own_rds 3 rfl | exact own_rds 4 rfl | exact own_rds 5 rfl | exact own_rds 6 rfl | exact own_rds 7 rfl | exact own_rds 8 rfl | exact own_rds 9 rfl | exact own_rds 10 rfl | exact own_rds 11 rfl | exact own_rds 12 rfl | exact own_rds 13 rfl | exact own_rds 14 rfl | exact own_rds 15 rfl | exact own_rds 16 rfl | exact own_rds 17 rfl | assumption) (by omega)) (by decide) (by decide) fun u8 _ => ?_))
   | ((refine z_isdst 54 ?_; refine o_callx1 Try.func33 rfl rfl rfl (meant_c M hM _ _ _ (by first | exact own_rds 0 rfl | exact own_rds 1 rfl | exact own_rds 2 rfl | exact own_rds 3 rfl | exact own_rds 4 rfl | exact own_rds 5 rfl | exact own_rds 6 rfl | exact own_rds 7 rfl | exact own_rds 8 rfl | exact own_rds 9 rfl | exact own_rds 10 rfl | exact own_rds 11 rfl | exact own_rds 12 rfl | exact own_rds 13 rfl | exact own_rds 14 rfl | exact own_rds 15 rfl | exact own_rds 16 rfl | exact own_rds 17 rfl | assumption) (by omega)) (by decide) (by decide) fun u9 _ => ?_))
   | ((refine z_isdst 55 ?_; refine o_callx0 Try.func26 rfl rfl rfl (within_e _ _ hsub _ _ _ _ _ (by first | exact own_rds 0 rfl | exact own_rds 1 rfl | exact own_rds 2 rfl | exact own_rds 3 rfl | exact own_rds 4 rfl | exact own_rds 5 rfl | exact own_rds 6 rfl | exact own_rds 7 rfl | exact own_rds 8 rfl | exact own_rds 9 rfl | exact own_rds 10 rfl | exact own_rds 11 rfl | exact own_rds 12 rfl | exact own_rds 13 rfl | exact own_rds 14 rfl | exact own_rds 15 rfl | exact own_rds 16 rfl | exact own_rds 17 rfl | assumption) (by first | exact own_rds 0 rfl | exact own_rds 1 rfl | exact own_rds 2 rfl | exact own_rds 3 rfl | exact own_rds 4 rfl | exact own_rds 5 rfl | exact own_rds 6 rfl | exact own_rds 7 rfl | exact own_rds 8 rfl | exact own_rds 9 rfl | exact own_rds 10 rfl | exact own_rds 11 rfl | exact own_rds 12 rfl | exact own_rds 13 rfl | exact own_rds 14 rfl | exact own_rds 15 rfl | exact own_rds 16 rfl | exact own_rds 17 rfl | assumption)) (by decide) (by decide) ?_))
   | (refine s_is ?_; first
   | (refine c_free0 ⟨[30, 33, 34, 38, 40, 44, 45, 46, 51, 52, 54, 55], []⟩ [0, 1, 3, 4, 2, 5, 6, 7, 8, 9, 11, 13, 14, 15, 10, 12, 16, 17, 18, 19, 20, 21, 22, 25, 23, 24, 26, 27, 28, 29, 30, 31, 32] (id := 4) mixed (by kernel_rfl) ?_)
   | (refine s_isret ?_; first
   | exact f_r1 rfl (res_t rfl) () trivial rfl (fun w h => h.sub (List.sublist_append_right [_, _, _, _, _, _, _, _, _, _, _, _, _, _, _, _, _, _] _)))
   | (refine s_isw ?_; first
   | refine c_seq ?_
   | refine c_block ?_
   | refine c_region ?_
   | refine c_mixed mixed (by kernel_rfl) ?_
   | refine c_skip ?_
   | refine c_ret ?_
   | refine c_exit ?_
   | (refine s_iscond ?_; first
   | (refine c_true rfl (by first | with_reducible rfl | with_reducible assumption | ((with_reducible refine decide_eq_true ?_); first | with_reducible rfl | with_reducible assumption | omega)) ?_)
   | (refine c_false rfl (by first | with_reducible rfl | with_reducible assumption | ((with_reducible refine decide_eq_false ?_); first | with_reducible assumption | omega)) ?_)
   | (refine c_true rfl (by first | (simp only [Bool.not_eq_true', decide_eq_false_iff_not]; omega) | (with_reducible assumption) | (rw [decide_eq_false] <;> (first | omega | with_reducible rfl)) | (rw [decide_eq_true] <;> (first | omega | with_reducible rfl)) | (simp; done) | (simp; omega)) ?_)
   | (refine c_false rfl (by first | (simp only [Bool.not_eq_false', decide_eq_true_eq]; omega) | (with_reducible assumption) | (rw [decide_eq_false] <;> (first | omega | with_reducible rfl)) | (rw [decide_eq_true] <;> (first | omega | with_reducible rfl)) | (simp; done) | (simp; omega)) ?_)
   | refine c_cond rfl (fun hc => ?_) (fun hc => ?_)
   | refine c_condb rfl (fun hc => ?_) (fun hc => ?_)))
   | refine x_then ?_
   | refine x_then_ret ?_
   | refine x_then_exit ?_
   | refine x_block _ ?_
   | refine x_block_ret _ ?_
   | refine x_block_exit _ ?_
   | refine x_block_past (by decide) ?_
   | refine z_tailm ?_)
   | (refine z_isg1 ?_; first
   | refine z_skipu (by decide) rfl rfl ?_
   | (refine z_want1 rfl rfl (by first | with_reducible rfl | with_reducible assumption | ((with_reducible refine decide_eq_true ?_); first | with_reducible rfl | with_reducible assumption | omega)) ?_)
   | (refine z_skip1 (by decide) rfl rfl (by first | with_reducible rfl | with_reducible assumption | ((with_reducible refine decide_eq_false ?_); first | with_reducible assumption | omega)) ?_)
   | (refine z_want1 rfl rfl (by first | (simp only [Bool.not_eq_true', decide_eq_false_iff_not]; omega) | (with_reducible assumption) | (rw [decide_eq_false] <;> (first | omega | with_reducible rfl)) | (rw [decide_eq_true] <;> (first | omega | with_reducible rfl)) | (simp; done) | (simp; omega)) ?_)
   | (refine z_skip1 (by decide) rfl rfl (by first | (simp only [Bool.not_eq_false', decide_eq_true_eq]; omega) | (with_reducible assumption) | (rw [decide_eq_false] <;> (first | omega | with_reducible rfl)) | (rw [decide_eq_true] <;> (first | omega | with_reducible rfl)) | (simp; done) | (simp; omega)) ?_)
   | refine z_guard1 (by decide) rfl rfl (fun hc => ?_) (fun hc => ?_)
   | refine z_guardb (by decide) rfl rfl (fun hc => ?_) (fun hc => ?_))
   | (refine z_isnil ?_; first
   | refine z_mono0n ?_
   | refine z_list ?_
   | refine z_mixed ?_
   | refine z_mono0 ?_
   | refine z_mono1 (by decide) fun g => ?_
   | refine z_mono2 (by decide) (by decide) fun g g' => ?_
   | refine z_mixedx ?_
   | refine z_quiet ?_)
   | (refine z_isop ?_; first
   | refine o_alloca (e := 27) (vs := [.slice none 0 0]) rfl (by kernel_rfl) (by decide) fun g => ?_
   | (refine z_isload ?_; first
   | (refine z_ld1 tabOk rfl rfl ?_; first
   | refine o_loadm tabOk rfl rfl rfl (by repeat' (first | exact List.mem_cons_self | apply List.mem_cons_of_mem)) (by first | rfl | rfl) (by decide) ?_
   | refine o_loads tabOk (by first | exact own_rds 0 rfl | exact own_rds 1 rfl | exact own_rds 2 rfl | exact own_rds 3 rfl | exact own_rds 4 rfl | exact own_rds 5 rfl | exact own_rds 6 rfl | exact own_rds 7 rfl | exact own_rds 8 rfl | exact own_rds 9 rfl | exact own_rds 10 rfl | exact own_rds 11 rfl | exact own_rds 12 rfl | exact own_rds 13 rfl | exact own_rds 14 rfl | exact own_rds 15 rfl | exact own_rds 16 rfl | exact own_rds 17 rfl | assumption) rfl rfl rfl (by first | rfl | rfl) (by decide) ?_)
   | (refine z_ldw tabOk rfl rfl ?_; first
   | refine o_loadwm tabOk rfl rfl rfl (by repeat' (first | exact List.mem_cons_self | apply List.mem_cons_of_mem)) (by first | rfl | rfl) (by decide) ?_))
   | (refine z_isstore ?_; first
   | (refine z_stw rfl ?_; first
   | ((refine z_sti 0 rfl rfl ?_; refine o_storeb0 rfl tabOk rfl rfl rfl (by first | rfl | rfl) (by first | rfl | rfl) (by first | rfl | rfl) ?_))
   | ((refine z_sti 1 rfl rfl ?_; refine o_storeb1 rfl tabOk rfl rfl rfl (by first | rfl | rfl) (by first | rfl | rfl) (by first | rfl | rfl) ?_))
   | ((refine z_sti 2 rfl rfl ?_; refine o_storeb2 rfl tabOk rfl rfl rfl (by first | rfl | rfl) (by first | rfl | rfl) (by first | rfl | rfl) ?_))
   | ((refine z_sti 3 rfl rfl ?_; refine o_storeb3 rfl tabOk rfl rfl rfl (by first | rfl | rfl) (by first | rfl | rfl) (by first | rfl | rfl) ?_))
   | ((refine z_sti 4 rfl rfl ?_; refine o_storeb4 rfl tabOk rfl rfl rfl (by first | rfl | rfl) (by first | rfl | rfl) (by first | rfl | rfl) ?_))
   | ((refine z_sti 5 rfl rfl ?_; refine o_storeb5 rfl tabOk rfl rfl rfl (by first | rfl | rfl) (by first | rfl | rfl) (by first | rfl | rfl) ?_))
   | ((refine z_sti 6 rfl rfl ?_; refine o_storeb6 rfl tabOk rfl rfl rfl (by first | rfl | rfl) (by first | rfl | rfl) (by first | rfl | rfl) ?_)))
   | (refine z_st1 rfl rfl ?_; first
   | refine o_store rfl tabOk rfl rfl rfl rfl rfl (by first | rfl | rfl) (by first | rfl) ?_
   | ((refine z_sti 1 rfl rfl ?_; refine o_store1 rfl tabOk rfl rfl rfl rfl rfl (by first | rfl | rfl) (by first | rfl) ?_))
   | ((refine z_sti 2 rfl rfl ?_; refine o_store2 rfl tabOk rfl rfl rfl rfl rfl (by first | rfl | rfl) (by first | rfl) ?_))
   | ((refine z_sti 3 rfl rfl ?_; refine o_store3 rfl tabOk rfl rfl rfl rfl rfl (by first | rfl | rfl) (by first | rfl) ?_))
   | ((refine z_sti 4 rfl rfl ?_; refine o_store4 rfl tabOk rfl rfl rfl rfl rfl (by first | rfl | rfl) (by first | rfl) ?_))
   | ((refine z_sti 5 rfl rfl ?_; refine o_store5 rfl tabOk rfl rfl rfl rfl rfl (by first | rfl | rfl) (by first | rfl) ?_))
   | ((refine z_sti 6 rfl rfl ?_; refine o_store6 rfl tabOk rfl rfl rfl rfl rfl (by first | rfl | rfl) (by first | rfl) ?_))))
   | (refine z_iscall ?_; first
   | ((refine z_iscallf 18 ?_; refine o_fn rfl Try.func18 rfl rfl rfl (nawake_p) (by decide) ?_)))
   | (refine z_ispick ?_; first
   | (refine o_pick1 rfl (by first | with_reducible rfl | with_reducible assumption | ((with_reducible refine decide_eq_true ?_); first | with_reducible rfl | with_reducible assumption | omega)) rfl (by decide) ?_)
   | (refine o_pick0 rfl (by first | with_reducible rfl | with_reducible assumption | ((with_reducible refine decide_eq_false ?_); first | with_reducible assumption | omega)) rfl (by decide) ?_)
   | (refine o_pick1 rfl (by first | (simp only [Bool.not_eq_true', decide_eq_false_iff_not]; omega) | (with_reducible assumption) | (rw [decide_eq_false] <;> (first | omega | with_reducible rfl)) | (rw [decide_eq_true] <;> (first | omega | with_reducible rfl)) | (simp; done) | (simp; omega)) rfl (by decide) ?_)
   | (refine o_pick0 rfl (by first | (simp only [Bool.not_eq_false', decide_eq_true_eq]; omega) | (with_reducible assumption) | (rw [decide_eq_false] <;> (first | omega | with_reducible rfl)) | (rw [decide_eq_true] <;> (first | omega | with_reducible rfl)) | (simp; done) | (simp; omega)) rfl (by decide) ?_))
   | refine o_move rfl (by decide) ?_
   | refine o_assign rfl (by decide) ?_
   | refine o_nil rfl (by decide) ?_
   | refine o_extract rfl rfl (by decide) ?_
   | refine o_not rfl (by decide) ?_
   | refine o_field0 tabOk rfl rfl rfl rfl rfl (by decide) ?_
   | refine o_field tabOk rfl rfl rfl rfl rfl (by decide) ?_
   | refine o_conv tabOk rfl rfl rfl (by decide) ?_))
end Go.Proofs.Ytjjhlkjnjbagfaa
