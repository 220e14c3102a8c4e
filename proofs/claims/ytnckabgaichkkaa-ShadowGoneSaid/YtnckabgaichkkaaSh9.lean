/-
Shadow: whatever is done, all that is out is bound just so; behind Release.
-/
import Derived.Test.YtnckabgaichkkaaSh8
namespace Go.Proofs.Ytnckabgaichkkaa
set_option linter.unusedVariables false
set_option linter.unusedSimpArgs false
open Eng
/-- Two lists of plain cells, the same? (Told by the kernel step by step: 8192 cells are too deep for it as one equation.) -/
def chk : List Value → List Value → Bool
  | [], [] => true
  | .bool a :: l, .bool b :: m => (a == b) && chk l m
  | .int .i64 a :: l, .int .i64 b :: m => decide (a = b) && chk l m
  | _, _ => false
theorem chk_eq : ∀ l m, chk l m = true → l = m := fun l => by
  induction l with
  | nil => intro m h; cases m with
    | nil => rfl
    | cons b m => simp [chk] at h
  | cons a l ih =>
    intro m h
    unfold chk at h
    split at h
    · assumption
    · rename_i e
      cases e
      simp at h
      rw [h.1, ih _ h.2]
    · rename_i e
      cases e
      simp at h
      rw [h.1, ih _ h.2]
    · cases h
def chkZ : Option (Option Value) → List Value → Bool
  | some (some (.agg a)), l => chk a.toList l
  | _, _ => false
theorem chkZ_eq {z : Option (Option Value)} {l : List Value} (h : chkZ z l = true) : z = some (some (.agg l.toArray)) := by
  unfold chkZ at h
  split at h
  · rw [← chk_eq _ _ h]
  · cases h
theorem zs_zero : (Try.prog.info? 61).map (·.zero) = some (some (.agg (xs noM ++ os noM).toArray)) := chkZ_eq (by kernel_rfl)
/-- A contract holds behind other chunks. -/
theorem does_front {P : Program} {f : FuncId} {vs : List Value} {pr : List Chunk} {X : Type} {ok : X → Prop} {v : X → Value} {nw : X → List Chunk} (h : ∀ fr, Does P f vs (pr ++ fr) ok v (fun x => nw x ++ (pr ++ fr))) (wr fr : List Chunk) : Does P f vs (wr ++ (pr ++ fr)) ok v (fun x => nw x ++ (wr ++ (pr ++ fr))) :=
  have hp : ∀ L : List Chunk, (wr ++ (L ++ fr)).Perm (L ++ (wr ++ fr)) := fun L => by
    rw [← List.append_assoc, ← List.append_assoc]
    exact (List.perm_append_comm).append_right fr
  (does_perm (h (wr ++ fr)) (hp pr)).post fun x hx => ⟨x, hx, rfl, fun B w hS => hS.perm (List.Perm.append_left (nw x) (hp pr)).symm⟩
theorem sget_at (sb b m o : Nat) (M O : Mp) (s p : Int) (wr fr : List Chunk) : Does Try.prog 28 [.pointer (some ⟨sb, 0, none⟩), .int .i64 s, .int .i64 p] (wr ++ (cells sb 89 [.pointer (some ⟨b, 0, none⟩), .map (some o)] :: cells b 78 [.map (some m)] :: mpc m (M) :: mpc o (O) :: fr)) (fun _ : Unit => True) (fun x => .tuple #[.agg #[.int .i64 (fM M s p), .bool (wM M s p)], .bool (onM M s p)]) (fun x => (wr ++ (cells sb 89 [.pointer (some ⟨b, 0, none⟩), .map (some o)] :: cells b 78 [.map (some m)] :: mpc m (M) :: mpc o (O) :: fr))) := does_front (pr := [cells sb 89 [.pointer (some ⟨b, 0, none⟩), .map (some o)], cells b 78 [.map (some m)], mpc m M, mpc o O]) (nw := fun x : Unit => []) (fun fr => sget_c sb b m o M O s p fr) wr fr
theorem sfilled_at (sb b m o : Nat) (M O : Mp) (s p : Int) (wr fr : List Chunk) : Does Try.prog 29 [.pointer (some ⟨sb, 0, none⟩), .int .i64 s, .int .i64 p] (wr ++ (cells sb 89 [.pointer (some ⟨b, 0, none⟩), .map (some o)] :: cells b 78 [.map (some m)] :: mpc m (M) :: mpc o (O) :: fr)) (fun _ : Unit => True) (fun x => .bool (onM O s p)) (fun x => (wr ++ (cells sb 89 [.pointer (some ⟨b, 0, none⟩), .map (some o)] :: cells b 78 [.map (some m)] :: mpc m (M) :: mpc o (O) :: fr))) := does_front (pr := [cells sb 89 [.pointer (some ⟨b, 0, none⟩), .map (some o)], cells b 78 [.map (some m)], mpc m M, mpc o O]) (nw := fun x : Unit => []) (fun fr => sfilled_c sb b m o M O s p fr) wr fr
theorem suses_at (sb b m o : Nat) (M O : Mp) (hM : WM M) (f : Int) (wr fr : List Chunk) : Does Try.prog 30 [.pointer (some ⟨sb, 0, none⟩), .int .i64 f] (wr ++ (cells sb 89 [.pointer (some ⟨b, 0, none⟩), .map (some o)] :: cells b 78 [.map (some m)] :: mpc m (M) :: mpc o (O) :: fr)) (fun _ : Unit => True) (fun x => .int .i64 (uss M f).length) (fun x => (wr ++ (cells sb 89 [.pointer (some ⟨b, 0, none⟩), .map (some o)] :: cells b 78 [.map (some m)] :: mpc m (M) :: mpc o (O) :: fr))) := does_front (pr := [cells sb 89 [.pointer (some ⟨b, 0, none⟩), .map (some o)], cells b 78 [.map (some m)], mpc m M, mpc o O]) (nw := fun x : Unit => []) (fun fr => suses_c sb b m o M O hM f fr) wr fr
theorem spages_at (sb b m o : Nat) (M O : Mp) (hM : WM M) (s : Int) (wr fr : List Chunk) : Does Try.prog 35 [.pointer (some ⟨sb, 0, none⟩), .int .i64 s] (wr ++ (cells sb 89 [.pointer (some ⟨b, 0, none⟩), .map (some o)] :: cells b 78 [.map (some m)] :: mpc m (M) :: mpc o (O) :: fr)) (fun _ : Option Addr × Nat => True) (fun x => .slice x.1 (pgs M s).length x.2) (fun x => own x.1 x.2 3 1 (pgs M s).length (ilS (pgs M s)) :: (wr ++ (cells sb 89 [.pointer (some ⟨b, 0, none⟩), .map (some o)] :: cells b 78 [.map (some m)] :: mpc m (M) :: mpc o (O) :: fr))) := does_front (pr := [cells sb 89 [.pointer (some ⟨b, 0, none⟩), .map (some o)], cells b 78 [.map (some m)], mpc m M, mpc o O]) (nw := fun x : Option Addr × Nat => [own x.1 x.2 3 1 (pgs M s).length (ilS (pgs M s))]) (fun fr => spages_c sb b m o M O hM s fr) wr fr
theorem sout_at (sb b m o : Nat) (M O : Mp) (hO : WM O) (wr fr : List Chunk) : Does Try.prog 33 [.pointer (some ⟨sb, 0, none⟩)] (wr ++ (cells sb 89 [.pointer (some ⟨b, 0, none⟩), .map (some o)] :: cells b 78 [.map (some m)] :: mpc m (M) :: mpc o (O) :: fr)) (fun _ : Option Addr × Nat => True) (fun x => .slice x.1 (prs (onf O) 2048).length x.2) (fun x => own x.1 x.2 72 2 (prs (onf O) 2048).length (pcs (prs (onf O) 2048)) :: (wr ++ (cells sb 89 [.pointer (some ⟨b, 0, none⟩), .map (some o)] :: cells b 78 [.map (some m)] :: mpc m (M) :: mpc o (O) :: fr))) := does_front (pr := [cells sb 89 [.pointer (some ⟨b, 0, none⟩), .map (some o)], cells b 78 [.map (some m)], mpc m M, mpc o O]) (nw := fun x : Option Addr × Nat => [own x.1 x.2 72 2 (prs (onf O) 2048).length (pcs (prs (onf O) 2048))]) (fun fr => sout_c sb b m o M O hO fr) wr fr
theorem out_on {M O : Mp} (hO : WO M O) {s p : Int} (h : onM O s p = true) : onM M s p = true := by
  rw [onM_iff] at h ⊢
  cases e : O s p with
  | none => exact absurd e h
  | some v => rw [hO s p v e]; exact fun e => by cases e
theorem out_bound {M O : Mp} (hM : WM M) (hO : WO M O) {k : Nat} {s p : Int} (h : (prs (onf O) 2048)[k]? = some (s, p)) : onM M s p = true :=
  out_on hO (onM_iff.2 ((onl_mem (hO.wm hM) s p).1 (List.mem_of_getElem? h)))
theorem dlo_on {M O : Mp} (hO : WO M O) (L : List (Int × Int)) (s p : Int) : onM (dls O L) s p = (onM (dls M L) s p && onM O s p) := by
  by_cases e : (s, p) ∈ L
  · have h1 : ∀ N : Mp, onM (dls N L) s p = false := fun N => by unfold onM dls; rw [if_pos e]; rfl
    rw [h1, h1]; rfl
  · rw [dls_off e, dls_off e]
    cases h : onM O s p with
    | false => rw [Bool.and_false]
    | true => rw [out_on hO h]; rfl
attribute [local irreducible] Eng.Hold Eng.Z Eng.S Eng.cells Eng.old Eng.own Eng.mpc Eng.rgc Eng.onM Eng.fM Eng.wM Eng.upM Eng.delM
attribute [local irreducible] uss pcs pgs ilS dls row xs dmf rmM aM1 aM2 eqB usf flt onf os dof aS1 aS2
set_option maxHeartbeats 8000000 in
theorem shadowSound (W : World) (A0 : Option Addr) (c0 : Nat) (D : List Db) (hrd0 : Rds [old W] A0 (D.flatMap Db.cs)) (hx : D.length ≤ 9223372036854775807) :
    Does Try.prog 8 [.slice A0 D.length c0] [old W] (fun _ : Unit => True) (fun _ => .bool true) (fun _ => [old W]) := by
  intro w hw
  have hne0 : 0 < D.length → A0 ≠ none := fun h => hrd0.ne hw (by rw [flat_len Db.cs 5 db_len]; omega)
  refine f_enter Try.func8 rfl Try.ntmps8 rfl hw ?_
  repeat' (first
   | ((refine z_isdst 10 ?_; refine o_calla Try.func25 rfl rfl rfl (snew_c _) (by decide) fun x _ => ?_; obtain ⟨sb, b, m, o⟩ := x; dsimp only))
   | ((refine z_isdst 11 ?_; refine o_buildf (t := 61) (zs := xs noM ++ os noM) (vs := xs noM ++ os noM) tabOk (ps := []) (pvs := []) rfl rfl zs_zero rfl rfl (by decide) ?_))
   | ((refine z_isdst 12 ?_; refine o_boxa (vs := xs noM ++ os noM) rfl rfl (by decide) fun gt => ?_))
   | (refine s_is ?_; first
   | (refine s_isw ?_; first
   | (refine s_isloop ?_; first
   | ((refine c_loop (X := Nat × Mp × Mp) (fun y => y.1 ≤ 60 ∧ y.1 ≤ D.length ∧ WM y.2.1 ∧ WO y.2.1 y.2.2) (fun y => [(0, .slice A0 D.length c0), (3, .pointer (some ⟨sb, 0, none⟩)), (4, .pointer (some ⟨gt, 0, none⟩)), (5, .int .i64 y.1)]) (fun y => cells sb 89 [.pointer (some ⟨b, 0, none⟩), .map (some o)] :: cells b 78 [.map (some m)] :: mpc m (y.2.1) :: mpc o (y.2.2) :: cells gt 61 (xs (y.2.1) ++ os (y.2.2)) :: [old W]) (fun y => 60 - y.1) (0, noM, noM) ⟨Nat.zero_le _, Nat.zero_le _, wm_no, wo_no⟩ ⟨rfl, rfl, rfl, rfl, trivial⟩ (fun w h => ((h.sel 6 [1, 2, 3, 4, 0, 5] (by decide)).mask [true, true, true, true, true, true])) (fun y hy => ?_); obtain ⟨i, M0, O0⟩ := y; obtain ⟨hi, hi2, hM0, hO0⟩ := hy; dsimp only at hi hi2 hM0 hO0 ⊢; refine hold ?_)))
   | refine c_seq ?_
   | refine c_block ?_
   | refine c_region ?_))
   | (refine z_isnil ?_; first
   | refine z_list ?_)
   | (refine z_isop ?_; first
   | refine o_assign rfl (by decide) ?_))
  refine Hold.go ?_
  by_cases hlt : i < D.length
  · by_cases hlt2 : i < 60
    · obtain ⟨d, hd⟩ : ∃ d, D[i]? = some d := ⟨D[i], List.getElem?_eq_getElem hlt⟩
      repeat' (first
       | ((refine z_isdst 27 ?_; refine o_indexsn tabOk (hne0 (by omega)) rfl rfl rfl rfl (by omega) (by omega) (by decide) ?_))
       | ((refine z_isdst 28 ?_; refine o_loadsw tabOk (hrd0.sub (List.sublist_append_right [_, _, _, _, _] _)) rfl rfl rfl (es := d.cs) (db_len _) (by rw [db_len]; decide) (db_at D d hd) (by decide) ?_))
       | ((refine z_isdst 29 ?_; refine o_calla Try.func26 rfl rfl rfl (sdoes_c sb b m o gt M0 O0 hM0 hO0 d.k d.s d.p d.f d.x _) (by decide) fun y hy => ?_; obtain ⟨M, O⟩ := y; obtain ⟨hM, hO⟩ := hy; dsimp only at hM hO ⊢; refine hold ?_))
       | (refine s_is ?_; first
       | (refine s_isw ?_; first
       | refine c_seq ?_
       | refine c_block ?_
       | refine c_region ?_
       | refine c_skip ?_
       | (refine s_iscond ?_; first
       | (refine c_true rfl (by first | with_reducible rfl | with_reducible assumption | ((with_reducible refine decide_eq_true ?_); first | with_reducible rfl | with_reducible assumption | omega)) ?_))))
       | (refine z_isg1 ?_; first
       | (refine z_want1 rfl rfl (by first | with_reducible rfl | with_reducible assumption | ((with_reducible refine decide_eq_true ?_); first | with_reducible rfl | with_reducible assumption | omega)) ?_))
       | (refine z_isnil ?_; first
       | refine z_list ?_)
       | (refine z_isop ?_; first
       | (refine z_isbin ?_; first
       | (refine z_isb .lss ?_; first
       | refine o_lt rfl rfl (by decide) ?_))
       | (refine z_ispick ?_; first
       | (refine o_pick1 rfl (by first | with_reducible rfl | with_reducible assumption | ((with_reducible refine decide_eq_true ?_); first | with_reducible rfl | with_reducible assumption | omega)) rfl (by decide) ?_))
       | (refine z_isbi ?_; first
       | refine o_len tabOk rfl rfl (by decide) ?_)
       | refine o_move rfl (by decide) ?_))
      refine Hold.go ?_
      have hle := prs_le (onf O) 2048
      repeat' (first
       | ((refine z_isdst 31 ?_; refine o_calla Try.func36 rfl rfl rfl (ssound_c sb b m o M O hO _) (by decide) fun _ _ => ?_))
       | ((refine z_isdst 34 ?_; refine o_calla Try.func33 rfl rfl rfl (sout_c sb b m o M O (hO.wm hM) _) (by decide) fun u _ => ?_))
       | (refine s_is ?_; first
       | (refine s_isw ?_; first
       | (refine s_isloop ?_; first
       | ((refine c_loop (X := Nat) (fun k => k ≤ (prs (onf O) 2048).length) (fun k => [(0, .slice A0 D.length c0), (3, .pointer (some ⟨sb, 0, none⟩)), (4, .pointer (some ⟨gt, 0, none⟩)), (5, .int .i64 i), (6, .slice u.1 (prs (onf O) 2048).length u.2), (7, .int .i64 k)]) (fun _ => own u.1 u.2 72 2 (prs (onf O) 2048).length (pcs (prs (onf O) 2048)) :: cells sb 89 [.pointer (some ⟨b, 0, none⟩), .map (some o)] :: cells b 78 [.map (some m)] :: mpc m (M) :: mpc o (O) :: cells gt 61 (xs (M) ++ os (O)) :: [old W]) (fun k => (prs (onf O) 2048).length - k) 0 (Nat.zero_le _) ⟨rfl, rfl, rfl, rfl, rfl, rfl, trivial⟩ (fun w h => h) (fun k hk => ?_); refine c_own2 0 rfl fun hkc hne => hold ?_)))
       | refine c_seq ?_
       | refine c_block ?_
       | refine c_region ?_
       | refine c_skip ?_
       | (refine s_iscond ?_; first
       | (refine c_false rfl (by first | (simp only [Bool.not_eq_false', decide_eq_true_eq]; omega) | (with_reducible assumption) | (rw [decide_eq_false] <;> (first | omega | with_reducible rfl)) | (rw [decide_eq_true] <;> (first | omega | with_reducible rfl)) | (simp; done) | (simp; omega)) ?_))))
       | (refine z_isnil ?_; first
       | refine z_list ?_)
       | (refine z_isop ?_; first
       | refine o_move rfl (by decide) ?_
       | refine o_assign rfl (by decide) ?_
       | refine o_not rfl (by decide) ?_))
      refine Hold.go ?_
      by_cases hkl : k < (prs (onf O) 2048).length
      · have hel := pcs_el (prs (onf O) 2048) hkl
        have hob := fun s p h => out_bound (k := k) (s := s) (p := p) hM hO h
        rw [List.getElem?_eq_getElem hkl] at hob
        generalize (prs (onf O) 2048)[k] = x at *
        obtain ⟨s, p⟩ := x
        have hon := hob s p rfl
        have hg := fun wr fr => sget_at sb b m o M O s p wr fr
        rw [hon] at hg
        repeat' (first
         | ((refine z_isdst 45 ?_; refine o_indexsn tabOk (hne (by omega)) rfl rfl rfl rfl (by omega) (by omega) (by decide) ?_))
         | ((refine z_isdst 50 ?_; refine o_indexsn tabOk (hne (by omega)) rfl rfl rfl rfl (by omega) (by omega) (by decide) ?_))
         | ((refine z_isdst 46 ?_; refine o_fields (hne (by omega)) tabOk rfl rfl rfl rfl rfl (by decide) ?_))
         | ((refine z_isdst 51 ?_; refine o_fields (hne (by omega)) tabOk rfl rfl rfl rfl rfl (by decide) ?_))
         | ((refine z_isdst 47 ?_; refine o_loads tabOk (own_rds 0 rfl) rfl rfl rfl (hel 0 _ rfl) (by decide) ?_))
         | ((refine z_isdst 52 ?_; refine o_loads tabOk (own_rds 0 rfl) rfl rfl rfl (hel 1 _ rfl) (by decide) ?_))
         | ((refine z_isdst 8 ?_; refine m_alloca (e := 36) (vs := [.int .i64 0, .bool false]) (by kernel_rfl) ?_))
         | ((refine z_isdst 53 ?_; refine o_callx0 Try.func28 rfl rfl rfl (hg [own u.1 u.2 72 2 (prs (onf O) 2048).length (pcs (prs (onf O) 2048))] (cells gt 61 (xs (M) ++ os (O)) :: [old W])) (by decide) (by decide) ?_))
         | refine z_mono1 (by decide) fun g8 => ?_
         | (refine s_is ?_; first
         | (refine c_free0 ⟨[53], [8]⟩ [0, 1, 2, 3, 4, 5, 6, 7, 8, 9, 10, 15, 11, 12, 13, 14, 16, 17] (id := 13) mixed (by kernel_rfl) ?_)
         | (refine s_isagain ?_; first
         | exact c_again (k + 1) (by omega) (by omega) ⟨rfl, rfl, rfl, rfl, rfl, rfl, trivial⟩ (fun w h => ((h.sel 8 [1, 2, 3, 4, 5, 6, 7, 0] (by decide)).mask [true, true, true, true, true, true, true, false])))
         | (refine s_isw ?_; first
         | refine c_seq ?_
         | refine c_block ?_
         | refine c_region ?_
         | refine c_skip ?_
         | (refine s_iscond ?_; first
         | (refine c_true rfl (by first | with_reducible rfl | with_reducible assumption | ((with_reducible refine decide_eq_true ?_); first | with_reducible rfl | with_reducible assumption | omega)) ?_)
         | (refine c_false rfl (by first | (simp only [Bool.not_eq_false', decide_eq_true_eq]; omega) | (with_reducible assumption) | (rw [decide_eq_false] <;> (first | omega | with_reducible rfl)) | (rw [decide_eq_true] <;> (first | omega | with_reducible rfl)) | (simp; done) | (simp; omega)) ?_))))
         | (refine z_isnil ?_; first
         | refine z_list ?_)
         | (refine z_isop ?_; first
         | refine m_inib tabOk (by decide) rfl (by decide) (fun _ => rfl) rfl rfl rfl rfl ?_
         | (refine z_isbin ?_; first
         | (refine z_isb .add ?_; first
         | refine o_add rfl rfl (by omega) (by omega) (by decide) ?_)
         | (refine z_isb .lss ?_; first
         | refine o_lt rfl rfl (by decide) ?_))
         | (refine z_isbi ?_; first
         | refine o_len tabOk rfl rfl (by decide) ?_)
         | refine o_move rfl (by decide) ?_
         | refine o_assign rfl (by decide) ?_
         | refine o_extract rfl rfl (by decide) ?_
         | refine o_not rfl (by decide) ?_))
      · obtain rfl : k = (prs (onf O) 2048).length := by omega
        repeat' (first
         | (refine s_is ?_; first
         | (refine s_isagain ?_; first
         | (exact c_again (i + 1, M, O) ⟨(by dsimp only; omega), (by dsimp only; omega), hM, hO⟩ (by dsimp only; omega) ⟨rfl, rfl, rfl, rfl, trivial⟩ (fun w h => ((h.sel 7 [1, 2, 3, 4, 5, 6, 0] (by decide)).mask [true, true, true, true, true, true, false]))))
         | (refine s_isw ?_; first
         | refine c_seq ?_
         | refine c_region ?_
         | refine c_exit ?_
         | (refine s_iscond ?_; first
         | (refine c_false rfl (by first | with_reducible rfl | with_reducible assumption | ((with_reducible refine decide_eq_false ?_); first | with_reducible assumption | omega)) ?_))))
         | (refine z_isnil ?_; first
         | refine z_list ?_)
         | (refine z_isop ?_; first
         | (refine z_isbin ?_; first
         | (refine z_isb .add ?_; first
         | refine o_add rfl rfl (by omega) (by omega) (by decide) ?_)
         | (refine z_isb .lss ?_; first
         | refine o_lt rfl rfl (by decide) ?_))
         | (refine z_isbi ?_; first
         | refine o_len tabOk rfl rfl (by decide) ?_)
         | refine o_move rfl (by decide) ?_
         | refine o_assign rfl (by decide) ?_))
    · skip
      repeat' (first
       | (refine s_is ?_; first
       | (refine s_isret ?_; first
       | exact f_r1 rfl (res_t rfl) () trivial rfl (fun w h => ((h.sel 6 [5, 0, 1, 2, 3, 4] (by decide)).mask [true, false, false, false, false, false])))
       | (refine s_isw ?_; first
       | refine c_seq ?_
       | refine c_region ?_
       | refine c_ret ?_
       | refine c_exit ?_
       | (refine s_iscond ?_; first
       | (refine c_false rfl (by first | with_reducible rfl | with_reducible assumption | ((with_reducible refine decide_eq_false ?_); first | with_reducible assumption | omega)) ?_))))
       | (refine z_isg1 ?_; first
       | (refine z_want1 rfl rfl (by first | with_reducible rfl | with_reducible assumption | ((with_reducible refine decide_eq_true ?_); first | with_reducible rfl | with_reducible assumption | omega)) ?_))
       | (refine z_isnil ?_; first
       | refine z_list ?_)
       | (refine z_isop ?_; first
       | (refine z_isbin ?_; first
       | (refine z_isb .lss ?_; first
       | refine o_lt rfl rfl (by decide) ?_))
       | (refine z_iscall ?_; first
       | ((refine z_iscallf 31 ?_; refine o_fn rfl Try.func31 rfl rfl rfl (sawake_p) (by decide) ?_)))
       | (refine z_ispick ?_; first
       | (refine o_pick1 rfl (by first | with_reducible rfl | with_reducible assumption | ((with_reducible refine decide_eq_true ?_); first | with_reducible rfl | with_reducible assumption | omega)) rfl (by decide) ?_))
       | (refine z_isbi ?_; first
       | refine o_len tabOk rfl rfl (by decide) ?_)
       | refine o_move rfl (by decide) ?_
       | refine o_assign rfl (by decide) ?_))
  · skip
    repeat' (first
     | (refine s_is ?_; first
     | (refine s_isret ?_; first
     | exact f_r1 rfl (res_t rfl) () trivial rfl (fun w h => ((h.sel 6 [5, 0, 1, 2, 3, 4] (by decide)).mask [true, false, false, false, false, false])))
     | (refine s_isw ?_; first
     | refine c_seq ?_
     | refine c_region ?_
     | refine c_ret ?_
     | refine c_exit ?_
     | (refine s_iscond ?_; first
     | (refine c_false rfl (by first | with_reducible rfl | with_reducible assumption | ((with_reducible refine decide_eq_false ?_); first | with_reducible assumption | omega)) ?_))))
     | (refine z_isg1 ?_; first
     | (refine z_skip1 (by decide) rfl rfl (by first | with_reducible rfl | with_reducible assumption | ((with_reducible refine decide_eq_false ?_); first | with_reducible assumption | omega)) ?_))
     | (refine z_isnil ?_; first
     | refine z_list ?_)
     | (refine z_isop ?_; first
     | (refine z_isbin ?_; first
     | (refine z_isb .lss ?_; first
     | refine o_lt rfl rfl (by decide) ?_))
     | (refine z_iscall ?_; first
     | ((refine z_iscallf 31 ?_; refine o_fn rfl Try.func31 rfl rfl rfl (sawake_p) (by decide) ?_)))
     | (refine z_ispick ?_; first
     | (refine o_pick0 rfl (by first | with_reducible rfl | with_reducible assumption | ((with_reducible refine decide_eq_false ?_); first | with_reducible assumption | omega)) rfl (by decide) ?_))
     | (refine z_isbi ?_; first
     | refine o_len tabOk rfl rfl (by decide) ?_)
     | refine o_move rfl (by decide) ?_
     | refine o_assign rfl (by decide) ?_))
set_option maxHeartbeats 8000000 in
theorem shadowGone (W : World) (f : Int) (A0 : Option Addr) (c0 : Nat) (D : List Db) (hrd0 : Rds [old W] A0 (D.flatMap Db.cs)) (hx : D.length ≤ 9223372036854775807) :
    Does Try.prog 6 [.slice A0 D.length c0, .int .i64 f] [old W] (fun _ : Unit => True) (fun _ => .bool true) (fun _ => [old W]) := by
  intro w hw
  have hne0 : 0 < D.length → A0 ≠ none := fun h => hrd0.ne hw (by rw [flat_len Db.cs 5 db_len]; omega)
  refine f_enter Try.func6 rfl Try.ntmps6 rfl hw ?_
  repeat' (first
   | ((refine z_isdst 14 ?_; refine o_calla Try.func25 rfl rfl rfl (snew_c _) (by decide) fun x _ => ?_; obtain ⟨sb, b, m, o⟩ := x; dsimp only))
   | ((refine z_isdst 15 ?_; refine o_buildf (t := 61) (zs := xs noM ++ os noM) (vs := xs noM ++ os noM) tabOk (ps := []) (pvs := []) rfl rfl zs_zero rfl rfl (by decide) ?_))
   | ((refine z_isdst 16 ?_; refine o_boxa (vs := xs noM ++ os noM) rfl rfl (by decide) fun gt => ?_))
   | (refine s_is ?_; first
   | (refine c_join (x := .seq (.region 3 _ _) _) (X := Mp × Mp) (fun y => WM y.1 ∧ WO y.1 y.2) (fun y => [(1, .int .i64 f), (5, .pointer (some ⟨sb, 0, none⟩)), (6, .pointer (some ⟨gt, 0, none⟩))]) (fun y => cells sb 89 [.pointer (some ⟨b, 0, none⟩), .map (some o)] :: cells b 78 [.map (some m)] :: mpc m (y.1) :: mpc o (y.2) :: cells gt 61 (xs (y.1) ++ os (y.2)) :: [old W]) (hold ?_) (fun y hy => hold ?_))
   | (refine s_isw ?_; first
   | refine c_seq ?_
   | refine c_region ?_))
   | (refine z_isnil ?_; first
   | refine z_list ?_)
   | (refine z_isop ?_; first
   | refine o_assign rfl (by decide) ?_))
  · refine Hold.go ?_
    repeat' (first
     | (refine s_is ?_; first
     | (refine s_isw ?_; first
     | (refine s_isloop ?_; first
     | ((refine c_loop (X := Nat × Mp × Mp) (fun y => y.1 ≤ 50 ∧ y.1 ≤ D.length ∧ WM y.2.1 ∧ WO y.2.1 y.2.2) (fun y => [(0, .slice A0 D.length c0), (1, .int .i64 f), (5, .pointer (some ⟨sb, 0, none⟩)), (6, .pointer (some ⟨gt, 0, none⟩)), (7, .int .i64 y.1)]) (fun y => cells sb 89 [.pointer (some ⟨b, 0, none⟩), .map (some o)] :: cells b 78 [.map (some m)] :: mpc m (y.2.1) :: mpc o (y.2.2) :: cells gt 61 (xs (y.2.1) ++ os (y.2.2)) :: [old W]) (fun y => 50 - y.1) (0, noM, noM) ⟨Nat.zero_le _, Nat.zero_le _, wm_no, wo_no⟩ ⟨rfl, rfl, rfl, rfl, rfl, trivial⟩ (fun w h => ((h.sel 6 [1, 2, 3, 4, 0, 5] (by decide)).mask [true, true, true, true, true, true])) (fun y hy => ?_); obtain ⟨i, M0, O0⟩ := y; obtain ⟨hi, hi2, hM0, hO0⟩ := hy; dsimp only at hi hi2 hM0 hO0 ⊢; refine hold ?_)))
     | refine c_seq ?_
     | refine c_block ?_
     | refine c_region ?_))
     | (refine z_isnil ?_; first
     | refine z_list ?_)
     | (refine z_isop ?_; first
     | refine o_assign rfl (by decide) ?_))
    refine Hold.go ?_
    by_cases hlt : i < D.length
    · by_cases hlt2 : i < 50
      · obtain ⟨d, hd⟩ : ∃ d, D[i]? = some d := ⟨D[i], List.getElem?_eq_getElem hlt⟩
        repeat' (first
         | ((refine z_isdst 31 ?_; refine o_indexsn tabOk (hne0 (by omega)) rfl rfl rfl rfl (by omega) (by omega) (by decide) ?_))
         | ((refine z_isdst 32 ?_; refine o_loadsw tabOk (hrd0.sub (List.sublist_append_right [_, _, _, _, _] _)) rfl rfl rfl (es := d.cs) (db_len _) (by rw [db_len]; decide) (db_at D d hd) (by decide) ?_))
         | ((refine z_isdst 33 ?_; refine o_calla Try.func26 rfl rfl rfl (sdoes_c sb b m o gt M0 O0 hM0 hO0 d.k d.s d.p d.f d.x _) (by decide) fun y hy => ?_))
         | (refine s_is ?_; first
         | (refine s_isagain ?_; first
         | (exact c_again (i + 1, y.1, y.2) ⟨(by dsimp only; omega), (by dsimp only; omega), hy.1, hy.2⟩ (by dsimp only; omega) ⟨rfl, rfl, rfl, rfl, rfl, trivial⟩ (fun w h => h)))
         | (refine s_isw ?_; first
         | refine c_seq ?_
         | refine c_block ?_
         | refine c_region ?_
         | refine c_skip ?_
         | (refine s_iscond ?_; first
         | (refine c_true rfl (by first | with_reducible rfl | with_reducible assumption | ((with_reducible refine decide_eq_true ?_); first | with_reducible rfl | with_reducible assumption | omega)) ?_))))
         | (refine z_isg1 ?_; first
         | (refine z_want1 rfl rfl (by first | with_reducible rfl | with_reducible assumption | ((with_reducible refine decide_eq_true ?_); first | with_reducible rfl | with_reducible assumption | omega)) ?_))
         | (refine z_isnil ?_; first
         | refine z_list ?_)
         | (refine z_isop ?_; first
         | (refine z_isbin ?_; first
         | (refine z_isb .add ?_; first
         | refine o_add rfl rfl (by omega) (by omega) (by decide) ?_)
         | (refine z_isb .lss ?_; first
         | refine o_lt rfl rfl (by decide) ?_))
         | (refine z_ispick ?_; first
         | (refine o_pick1 rfl (by first | with_reducible rfl | with_reducible assumption | ((with_reducible refine decide_eq_true ?_); first | with_reducible rfl | with_reducible assumption | omega)) rfl (by decide) ?_))
         | (refine z_isbi ?_; first
         | refine o_len tabOk rfl rfl (by decide) ?_)
         | refine o_move rfl (by decide) ?_
         | refine o_assign rfl (by decide) ?_))
      · skip
        repeat' (first
         | (refine s_is ?_; first
         | (refine s_ismeet ?_; first
         | exact c_meet (M0, O0) ⟨hM0, hO0⟩ ⟨rfl, rfl, rfl, trivial⟩ (fun w h => h))
         | (refine s_isw ?_; first
         | refine c_seq ?_
         | refine c_region ?_
         | refine c_exit ?_
         | (refine s_iscond ?_; first
         | (refine c_false rfl (by first | with_reducible rfl | with_reducible assumption | ((with_reducible refine decide_eq_false ?_); first | with_reducible assumption | omega)) ?_))))
         | (refine z_isg1 ?_; first
         | (refine z_want1 rfl rfl (by first | with_reducible rfl | with_reducible assumption | ((with_reducible refine decide_eq_true ?_); first | with_reducible rfl | with_reducible assumption | omega)) ?_))
         | (refine z_isnil ?_; first
         | refine z_list ?_)
         | (refine z_isop ?_; first
         | (refine z_isbin ?_; first
         | (refine z_isb .lss ?_; first
         | refine o_lt rfl rfl (by decide) ?_))
         | (refine z_ispick ?_; first
         | (refine o_pick1 rfl (by first | with_reducible rfl | with_reducible assumption | ((with_reducible refine decide_eq_true ?_); first | with_reducible rfl | with_reducible assumption | omega)) rfl (by decide) ?_))
         | (refine z_isbi ?_; first
         | refine o_len tabOk rfl rfl (by decide) ?_)
         | refine o_move rfl (by decide) ?_))
    · skip
      repeat' (first
       | (refine s_is ?_; first
       | (refine s_ismeet ?_; first
       | exact c_meet (M0, O0) ⟨hM0, hO0⟩ ⟨rfl, rfl, rfl, trivial⟩ (fun w h => h))
       | (refine s_isw ?_; first
       | refine c_seq ?_
       | refine c_region ?_
       | refine c_exit ?_
       | (refine s_iscond ?_; first
       | (refine c_false rfl (by first | with_reducible rfl | with_reducible assumption | ((with_reducible refine decide_eq_false ?_); first | with_reducible assumption | omega)) ?_))))
       | (refine z_isg1 ?_; first
       | (refine z_skip1 (by decide) rfl rfl (by first | with_reducible rfl | with_reducible assumption | ((with_reducible refine decide_eq_false ?_); first | with_reducible assumption | omega)) ?_))
       | (refine z_isnil ?_; first
       | refine z_list ?_)
       | (refine z_isop ?_; first
       | (refine z_isbin ?_; first
       | (refine z_isb .lss ?_; first
       | refine o_lt rfl rfl (by decide) ?_))
       | (refine z_ispick ?_; first
       | (refine o_pick0 rfl (by first | with_reducible rfl | with_reducible assumption | ((with_reducible refine decide_eq_false ?_); first | with_reducible assumption | omega)) rfl (by decide) ?_))
       | (refine z_isbi ?_; first
       | refine o_len tabOk rfl rfl (by decide) ?_)
       | refine o_move rfl (by decide) ?_))
  · refine Hold.go ?_
    obtain ⟨M, O⟩ := y
    obtain ⟨hM, hO⟩ := hy
    dsimp only at hM hO ⊢
    have hus : ∀ fr, Does Try.prog 30 [.pointer (some ⟨sb, 0, none⟩), .int .i64 f] (cells sb 89 [.pointer (some ⟨b, 0, none⟩), .map (some o)] :: cells b 78 [.map (some m)] :: mpc m (dls M (uss M f)) :: mpc o (dls O (uss M f)) :: fr) (fun _ : Unit => True) (fun _ => .int .i64 0) (fun _ => cells sb 89 [.pointer (some ⟨b, 0, none⟩), .map (some o)] :: cells b 78 [.map (some m)] :: mpc m (dls M (uss M f)) :: mpc o (dls O (uss M f)) :: fr) := fun fr => by
      have h := suses_c sb b m o (dls M (uss M f)) (dls O (uss M f)) (hM.dls _) f fr
      rw [uss_gone hM] at h
      exact h
    repeat' (first
     | ((refine z_isdst 36 ?_; refine o_calla Try.func27 rfl rfl rfl (srelease_c sb b m o M O hM f _) (by decide) fun u _ => ?_))
     | (refine s_is ?_; first
     | (refine s_isw ?_; first
     | (refine s_isloop ?_; first
     | ((refine c_loop (X := Nat) (fun s => s ≤ 64) (fun s => [(1, .int .i64 f), (5, .pointer (some ⟨sb, 0, none⟩)), (6, .pointer (some ⟨gt, 0, none⟩)), (8, .int .i64 s)]) (fun _ => cells sb 89 [.pointer (some ⟨b, 0, none⟩), .map (some o)] :: cells b 78 [.map (some m)] :: mpc m (dls M (uss M f)) :: mpc o (dls O (uss M f)) :: cells gt 61 (xs (M) ++ os (O)) :: [old W]) (fun s => 64 - s) 0 (Nat.zero_le _) ⟨rfl, rfl, rfl, rfl, trivial⟩ (fun w h => ((h.sel 7 [1, 2, 3, 4, 5, 6, 0] (by decide)).mask [true, true, true, true, true, true, false])) (fun s hs0 => ?_); refine hold ?_)))
     | refine c_seq ?_
     | refine c_block ?_
     | refine c_region ?_))
     | (refine z_isnil ?_; first
     | refine z_list ?_)
     | (refine z_isop ?_; first
     | refine o_move rfl (by decide) ?_
     | refine o_assign rfl (by decide) ?_))
    refine Hold.go ?_
    by_cases hs : s < 64
    · skip
      repeat' (first
       | (refine s_is ?_; first
       | (refine s_isw ?_; first
       | (refine s_isloop ?_; first
       | ((refine c_loop (X := Nat) (fun p => p ≤ 32) (fun p => [(1, .int .i64 f), (5, .pointer (some ⟨sb, 0, none⟩)), (6, .pointer (some ⟨gt, 0, none⟩)), (8, .int .i64 s), (9, .int .i64 p)]) (fun _ => cells sb 89 [.pointer (some ⟨b, 0, none⟩), .map (some o)] :: cells b 78 [.map (some m)] :: mpc m (dls M (uss M f)) :: mpc o (dls O (uss M f)) :: cells gt 61 (xs (M) ++ os (O)) :: [old W]) (fun p => 32 - p) 0 (Nat.zero_le _) ⟨rfl, rfl, rfl, rfl, rfl, trivial⟩ (fun w h => h) (fun p hp0 => ?_); refine hold ?_)))
       | refine c_seq ?_
       | refine c_block ?_
       | refine c_region ?_
       | refine c_skip ?_
       | (refine s_iscond ?_; first
       | (refine c_true rfl (by first | with_reducible rfl | with_reducible assumption | ((with_reducible refine decide_eq_true ?_); first | with_reducible rfl | with_reducible assumption | omega)) ?_))))
       | (refine z_isnil ?_; first
       | refine z_list ?_)
       | (refine z_isop ?_; first
       | (refine z_isbin ?_; first
       | (refine z_isb .lss ?_; first
       | refine o_lt rfl rfl (by decide) ?_))
       | refine o_move rfl (by decide) ?_
       | refine o_assign rfl (by decide) ?_))
      refine Hold.go ?_
      by_cases hp : p < 32
      · have hget := fun fr => sget_c sb b m o (dls M (uss M f)) (dls O (uss M f)) s p fr
        have hfil := fun fr => sfilled_c sb b m o (dls M (uss M f)) (dls O (uss M f)) s p fr
        have hon := dls_on hM f s p
        have hat := dls_at hM (f := f) (s := s) (p := p)
        have hoo := dlo_on hO (uss M f) s p
        have hel := xr_el M (os O) hs hp
        have hout := zo_el M O hs hp
        unfold bcv at hel
        rw [hoo] at hfil
        cases ho : onM M s p with
        | true =>
          by_cases hf : fM M s p = f
          · rw [ho, decide_eq_true hf] at hon
            rw [hon] at hget hfil
            rw [ho] at hel
            repeat' (first
             | ((refine z_isdst 49 ?_; refine o_calla Try.func28 rfl rfl rfl (hget _) (by decide) fun _ _ => ?_))
             | ((refine z_isdst 60 ?_; refine o_loadrw tabOk (cells_rds 5 rfl) rfl rfl rfl (es := [.bool _, .int .i64 _, .bool _]) rfl (Nat.succ_pos _) hel (by decide) ?_))
             | ((refine z_isdst 93 ?_; refine z_sel rfl 7 [2, 3, 4, 5, 6, 0, 1] (by decide) ?_; refine o_calla Try.func29 rfl rfl rfl (hfil _) (by decide) fun _ _ => ?_))
             | ((refine z_isdst 10 ?_; refine o_alloca (e := 36) (vs := [.int .i64 0, .bool false]) rfl (by kernel_rfl) (by decide) fun g10 => ?_))
             | ((refine z_isdst 12 ?_; refine o_alloca (e := 27) (vs := [.bool false, .int .i64 0, .bool false]) rfl (by kernel_rfl) (by decide) fun g12 => ?_))
             | (refine s_is ?_; first
             | (refine s_isagain ?_; first
             | (exact c_again (p + 1) (by omega) (by omega) ⟨rfl, rfl, rfl, rfl, rfl, trivial⟩ (fun w h => by simp only [fronts, moveF, selF, sel1, nth, List.drop_succ_cons, List.drop_zero, List.eraseIdx_cons_zero, List.eraseIdx_cons_succ, maskL, List.cons_append, List.nil_append, List.append_eq, List.set_cons_zero, List.set_cons_succ] at h; exact ((h.sel 8 [0, 1, 2, 3, 4, 7, 5, 6] (by decide)).mask [true, true, true, true, true, true, false, false]))))
             | (refine s_isw ?_; first
             | refine c_seq ?_
             | refine c_block ?_
             | refine c_region ?_
             | refine c_skip ?_
             | (refine s_iscond ?_; first
             | (refine c_true rfl (by first | with_reducible rfl | with_reducible assumption | ((with_reducible refine decide_eq_true ?_); first | with_reducible rfl | with_reducible assumption | omega)) ?_)
             | (refine c_false rfl (by first | (simp only [Bool.not_eq_false', decide_eq_true_eq]; omega) | (with_reducible assumption) | (rw [decide_eq_false] <;> (first | omega | with_reducible rfl)) | (rw [decide_eq_true] <;> (first | omega | with_reducible rfl)) | (simp; done) | (simp; omega)) ?_))))
             | (refine z_isg1 ?_; first
             | refine z_skipu (by decide) rfl rfl ?_
             | (refine z_want1 rfl rfl (by first | with_reducible rfl | with_reducible assumption | ((with_reducible refine decide_eq_true ?_); first | with_reducible rfl | with_reducible assumption | omega)) ?_)
             | (refine z_skip1 (by decide) rfl rfl (by first | with_reducible rfl | with_reducible assumption | ((with_reducible refine decide_eq_false ?_); first | with_reducible assumption | omega)) ?_)
             | (refine z_skip1 (by decide) rfl rfl (by first | (simp only [Bool.not_eq_false', decide_eq_true_eq]; omega) | (with_reducible assumption) | (rw [decide_eq_false] <;> (first | omega | with_reducible rfl)) | (rw [decide_eq_true] <;> (first | omega | with_reducible rfl)) | (simp; done) | (simp; omega)) ?_))
             | (refine z_isg0 ?_; first
             | refine z_skipu (by decide) rfl rfl ?_
             | (refine z_want0 rfl rfl (by first | with_reducible rfl | with_reducible assumption | ((with_reducible refine decide_eq_false ?_); first | with_reducible assumption | omega)) ?_)
             | (refine z_want0 rfl rfl (by first | (simp only [Bool.not_eq_false', decide_eq_true_eq]; omega) | (with_reducible assumption) | (rw [decide_eq_false] <;> (first | omega | with_reducible rfl)) | (rw [decide_eq_true] <;> (first | omega | with_reducible rfl)) | (simp; done) | (simp; omega)) ?_))
             | (refine z_isnil ?_; first
             | refine z_list ?_)
             | (refine z_isop ?_; first
             | refine o_indexm tabOk rfl rfl rfl rfl (by omega) (by omega) (by decide) ?_
             | refine o_indexn tabOk rfl rfl rfl rfl (by omega) (by omega) (by decide) ?_
             | (refine z_isbin ?_; first
             | (refine z_isb .add ?_; first
             | refine o_add rfl rfl (by omega) (by omega) (by decide) ?_)
             | (refine z_isb .neq ?_; first
             | refine o_ne rfl rfl (by decide) ?_
             | refine o_bne tabOk rfl rfl rfl (by decide) ?_)
             | (refine z_isb .lss ?_; first
             | refine o_lt rfl rfl (by decide) ?_))
             | (refine z_isload ?_; first
             | (refine z_ld1 tabOk rfl rfl ?_; first
             | refine o_loadm tabOk rfl rfl rfl (by repeat' (first | exact List.mem_cons_self | apply List.mem_cons_of_mem)) (by first | rfl | rfl) (by decide) ?_))
             | (refine z_isstore ?_; first
             | (refine z_stw rfl ?_; first
             | ((refine z_sti 0 rfl rfl ?_; refine o_storeb0 rfl tabOk rfl rfl rfl (by first | rfl | rfl) (by first | rfl | rfl) (by first | rfl | rfl) ?_))))
             | (refine z_ispick ?_; first
             | (refine o_pick1 rfl (by first | with_reducible rfl | with_reducible assumption | ((with_reducible refine decide_eq_true ?_); first | with_reducible rfl | with_reducible assumption | omega)) rfl (by decide) ?_)
             | (refine o_pick0 rfl (by first | with_reducible rfl | with_reducible assumption | ((with_reducible refine decide_eq_false ?_); first | with_reducible assumption | omega)) rfl (by decide) ?_)
             | (refine o_pick0 rfl (by first | (simp only [Bool.not_eq_false', decide_eq_true_eq]; omega) | (with_reducible assumption) | (rw [decide_eq_false] <;> (first | omega | with_reducible rfl)) | (rw [decide_eq_true] <;> (first | omega | with_reducible rfl)) | (simp; done) | (simp; omega)) rfl (by decide) ?_))
             | refine o_move rfl (by decide) ?_
             | refine o_assign rfl (by decide) ?_
             | refine o_nil rfl (by decide) ?_
             | refine o_extract rfl rfl (by decide) ?_
             | refine o_field0 tabOk rfl rfl rfl rfl rfl (by decide) ?_))
          · rw [ho, decide_eq_false hf] at hon
            rw [hon, (hat hf).1, (hat hf).2] at hget
            rw [hon] at hfil
            rw [ho] at hel
            generalize wM M s p = w0 at *
            generalize onM O s p = u0 at *
            cases w0 <;> cases u0
            all_goals repeat' (first
             | ((refine z_isdst 49 ?_; refine o_calla Try.func28 rfl rfl rfl (hget _) (by decide) fun _ _ => ?_))
             | ((refine z_isdst 60 ?_; refine o_loadrw tabOk (cells_rds 5 rfl) rfl rfl rfl (es := [.bool _, .int .i64 _, .bool _]) rfl (Nat.succ_pos _) hel (by decide) ?_))
             | ((refine z_isdst 93 ?_; refine z_sel rfl 7 [2, 3, 4, 5, 6, 0, 1] (by decide) ?_; refine o_calla Try.func29 rfl rfl rfl (hfil _) (by decide) fun _ _ => ?_))
             | ((refine z_isdst 103 ?_; refine o_loadr tabOk (cells_rds 4 rfl) rfl rfl rfl hout (by decide) ?_))
             | ((refine z_isdst 10 ?_; refine o_alloca (e := 36) (vs := [.int .i64 0, .bool false]) rfl (by kernel_rfl) (by decide) fun g10 => ?_))
             | ((refine z_isdst 12 ?_; refine o_alloca (e := 27) (vs := [.bool false, .int .i64 0, .bool false]) rfl (by kernel_rfl) (by decide) fun g12 => ?_))
             | (refine s_is ?_; first
             | (refine s_isagain ?_; first
             | (exact c_again (p + 1) (by omega) (by omega) ⟨rfl, rfl, rfl, rfl, rfl, trivial⟩ (fun w h => by simp only [fronts, moveF, selF, sel1, nth, List.drop_succ_cons, List.drop_zero, List.eraseIdx_cons_zero, List.eraseIdx_cons_succ, maskL, List.cons_append, List.nil_append, List.append_eq, List.set_cons_zero, List.set_cons_succ] at h; exact ((h.sel 8 [0, 1, 2, 3, 4, 7, 5, 6] (by decide)).mask [true, true, true, true, true, true, false, false]))))
             | (refine s_isw ?_; first
             | refine c_seq ?_
             | refine c_block ?_
             | refine c_region ?_
             | refine c_skip ?_
             | (refine s_iscond ?_; first
             | (refine c_true rfl (by first | with_reducible rfl | with_reducible assumption | ((with_reducible refine decide_eq_true ?_); first | with_reducible rfl | with_reducible assumption | omega)) ?_)
             | (refine c_false rfl (by first | (simp only [Bool.not_eq_false', decide_eq_true_eq]; omega) | (with_reducible assumption) | (rw [decide_eq_false] <;> (first | omega | with_reducible rfl)) | (rw [decide_eq_true] <;> (first | omega | with_reducible rfl)) | (simp; done) | (simp; omega)) ?_))))
             | (refine z_isg1 ?_; first
             | (refine z_want1 rfl rfl (by first | with_reducible rfl | with_reducible assumption | ((with_reducible refine decide_eq_true ?_); first | with_reducible rfl | with_reducible assumption | omega)) ?_)
             | (refine z_want1 rfl rfl (by first | (simp only [Bool.not_eq_true', decide_eq_false_iff_not]; omega) | (with_reducible assumption) | (rw [decide_eq_false] <;> (first | omega | with_reducible rfl)) | (rw [decide_eq_true] <;> (first | omega | with_reducible rfl)) | (simp; done) | (simp; omega)) ?_))
             | (refine z_isg0 ?_; first
             | (refine z_want0 rfl rfl (by first | with_reducible rfl | with_reducible assumption | ((with_reducible refine decide_eq_false ?_); first | with_reducible assumption | omega)) ?_)
             | (refine z_want0 rfl rfl (by first | (simp only [Bool.not_eq_false', decide_eq_true_eq]; omega) | (with_reducible assumption) | (rw [decide_eq_false] <;> (first | omega | with_reducible rfl)) | (rw [decide_eq_true] <;> (first | omega | with_reducible rfl)) | (simp; done) | (simp; omega)) ?_))
             | (refine z_isnil ?_; first
             | refine z_list ?_)
             | (refine z_isop ?_; first
             | refine o_indexm tabOk rfl rfl rfl rfl (by omega) (by omega) (by decide) ?_
             | refine o_indexn tabOk rfl rfl rfl rfl (by omega) (by omega) (by decide) ?_
             | (refine z_isbin ?_; first
             | (refine z_isb .add ?_; first
             | refine o_add rfl rfl (by omega) (by omega) (by decide) ?_)
             | (refine z_isb .neq ?_; first
             | refine o_ne rfl rfl (by decide) ?_
             | refine o_bne tabOk rfl rfl rfl (by decide) ?_)
             | (refine z_isb .lss ?_; first
             | refine o_lt rfl rfl (by decide) ?_))
             | (refine z_isload ?_; first
             | (refine z_ld1 tabOk rfl rfl ?_; first
             | refine o_loadm tabOk rfl rfl rfl (by repeat' (first | exact List.mem_cons_self | apply List.mem_cons_of_mem)) (by first | rfl | rfl) (by decide) ?_))
             | (refine z_isstore ?_; first
             | (refine z_stw rfl ?_; first
             | ((refine z_sti 0 rfl rfl ?_; refine o_storeb0 rfl tabOk rfl rfl rfl (by first | rfl | rfl) (by first | rfl | rfl) (by first | rfl | rfl) ?_))))
             | (refine z_ispick ?_; first
             | (refine o_pick1 rfl (by first | with_reducible rfl | with_reducible assumption | ((with_reducible refine decide_eq_true ?_); first | with_reducible rfl | with_reducible assumption | omega)) rfl (by decide) ?_)
             | (refine o_pick0 rfl (by first | with_reducible rfl | with_reducible assumption | ((with_reducible refine decide_eq_false ?_); first | with_reducible assumption | omega)) rfl (by decide) ?_)
             | (refine o_pick1 rfl (by first | (simp only [Bool.not_eq_true', decide_eq_false_iff_not]; omega) | (with_reducible assumption) | (rw [decide_eq_false] <;> (first | omega | with_reducible rfl)) | (rw [decide_eq_true] <;> (first | omega | with_reducible rfl)) | (simp; done) | (simp; omega)) rfl (by decide) ?_)
             | (refine o_pick0 rfl (by first | (simp only [Bool.not_eq_false', decide_eq_true_eq]; omega) | (with_reducible assumption) | (rw [decide_eq_false] <;> (first | omega | with_reducible rfl)) | (rw [decide_eq_true] <;> (first | omega | with_reducible rfl)) | (simp; done) | (simp; omega)) rfl (by decide) ?_))
             | refine o_move rfl (by decide) ?_
             | refine o_assign rfl (by decide) ?_
             | refine o_nil rfl (by decide) ?_
             | refine o_extract rfl rfl (by decide) ?_
             | refine o_field0 tabOk rfl rfl rfl rfl rfl (by decide) ?_))
        | false =>
          rw [ho, Bool.false_and] at hon
          rw [hon] at hget hfil
          rw [ho] at hel
          repeat' (first
           | ((refine z_isdst 49 ?_; refine o_calla Try.func28 rfl rfl rfl (hget _) (by decide) fun _ _ => ?_))
           | ((refine z_isdst 60 ?_; refine o_loadrw tabOk (cells_rds 5 rfl) rfl rfl rfl (es := [.bool _, .int .i64 _, .bool _]) rfl (Nat.succ_pos _) hel (by decide) ?_))
           | ((refine z_isdst 93 ?_; refine z_sel rfl 7 [2, 3, 4, 5, 6, 0, 1] (by decide) ?_; refine o_calla Try.func29 rfl rfl rfl (hfil _) (by decide) fun _ _ => ?_))
           | ((refine z_isdst 10 ?_; refine o_alloca (e := 36) (vs := [.int .i64 0, .bool false]) rfl (by kernel_rfl) (by decide) fun g10 => ?_))
           | ((refine z_isdst 12 ?_; refine o_alloca (e := 27) (vs := [.bool false, .int .i64 0, .bool false]) rfl (by kernel_rfl) (by decide) fun g12 => ?_))
           | (refine s_is ?_; first
           | (refine s_isagain ?_; first
           | (exact c_again (p + 1) (by omega) (by omega) ⟨rfl, rfl, rfl, rfl, rfl, trivial⟩ (fun w h => by simp only [fronts, moveF, selF, sel1, nth, List.drop_succ_cons, List.drop_zero, List.eraseIdx_cons_zero, List.eraseIdx_cons_succ, maskL, List.cons_append, List.nil_append, List.append_eq, List.set_cons_zero, List.set_cons_succ] at h; exact ((h.sel 8 [0, 1, 2, 3, 4, 7, 5, 6] (by decide)).mask [true, true, true, true, true, true, false, false]))))
           | (refine s_isw ?_; first
           | refine c_seq ?_
           | refine c_block ?_
           | refine c_region ?_
           | refine c_skip ?_
           | (refine s_iscond ?_; first
           | (refine c_true rfl (by first | with_reducible rfl | with_reducible assumption | ((with_reducible refine decide_eq_true ?_); first | with_reducible rfl | with_reducible assumption | omega)) ?_)
           | (refine c_false rfl (by first | (simp only [Bool.not_eq_false', decide_eq_true_eq]; omega) | (with_reducible assumption) | (rw [decide_eq_false] <;> (first | omega | with_reducible rfl)) | (rw [decide_eq_true] <;> (first | omega | with_reducible rfl)) | (simp; done) | (simp; omega)) ?_))))
           | (refine z_isg1 ?_; first
           | refine z_skipu (by decide) rfl rfl ?_
           | (refine z_skip1 (by decide) rfl rfl (by first | with_reducible rfl | with_reducible assumption | ((with_reducible refine decide_eq_false ?_); first | with_reducible assumption | omega)) ?_))
           | (refine z_isg0 ?_; first
           | refine z_skipu (by decide) rfl rfl ?_
           | (refine z_want0 rfl rfl (by first | with_reducible rfl | with_reducible assumption | ((with_reducible refine decide_eq_false ?_); first | with_reducible assumption | omega)) ?_)
           | (refine z_want0 rfl rfl (by first | (simp only [Bool.not_eq_false', decide_eq_true_eq]; omega) | (with_reducible assumption) | (rw [decide_eq_false] <;> (first | omega | with_reducible rfl)) | (rw [decide_eq_true] <;> (first | omega | with_reducible rfl)) | (simp; done) | (simp; omega)) ?_))
           | (refine z_isnil ?_; first
           | refine z_list ?_)
           | (refine z_isop ?_; first
           | refine o_indexm tabOk rfl rfl rfl rfl (by omega) (by omega) (by decide) ?_
           | refine o_indexn tabOk rfl rfl rfl rfl (by omega) (by omega) (by decide) ?_
           | (refine z_isbin ?_; first
           | (refine z_isb .add ?_; first
           | refine o_add rfl rfl (by omega) (by omega) (by decide) ?_)
           | (refine z_isb .neq ?_; first
           | refine o_bne tabOk rfl rfl rfl (by decide) ?_)
           | (refine z_isb .lss ?_; first
           | refine o_lt rfl rfl (by decide) ?_))
           | (refine z_isload ?_; first
           | (refine z_ld1 tabOk rfl rfl ?_; first
           | refine o_loadm tabOk rfl rfl rfl (by repeat' (first | exact List.mem_cons_self | apply List.mem_cons_of_mem)) (by first | rfl | rfl) (by decide) ?_))
           | (refine z_isstore ?_; first
           | (refine z_stw rfl ?_; first
           | ((refine z_sti 0 rfl rfl ?_; refine o_storeb0 rfl tabOk rfl rfl rfl (by first | rfl | rfl) (by first | rfl | rfl) (by first | rfl | rfl) ?_))))
           | (refine z_ispick ?_; first
           | (refine o_pick0 rfl (by first | with_reducible rfl | with_reducible assumption | ((with_reducible refine decide_eq_false ?_); first | with_reducible assumption | omega)) rfl (by decide) ?_)
           | (refine o_pick0 rfl (by first | (simp only [Bool.not_eq_false', decide_eq_true_eq]; omega) | (with_reducible assumption) | (rw [decide_eq_false] <;> (first | omega | with_reducible rfl)) | (rw [decide_eq_true] <;> (first | omega | with_reducible rfl)) | (simp; done) | (simp; omega)) rfl (by decide) ?_))
           | refine o_move rfl (by decide) ?_
           | refine o_assign rfl (by decide) ?_
           | refine o_nil rfl (by decide) ?_
           | refine o_extract rfl rfl (by decide) ?_
           | refine o_field0 tabOk rfl rfl rfl rfl rfl (by decide) ?_))
      · obtain rfl : p = 32 := by omega
        repeat' (first
         | (refine s_is ?_; first
         | (refine s_isagain ?_; first
         | exact c_again (s + 1) (by omega) (by omega) ⟨rfl, rfl, rfl, rfl, trivial⟩ (fun w h => h))
         | (refine s_isw ?_; first
         | refine c_seq ?_
         | refine c_region ?_
         | refine c_exit ?_
         | (refine s_iscond ?_; first
         | (refine c_false rfl (by first | with_reducible rfl | with_reducible assumption | ((with_reducible refine decide_eq_false ?_); first | with_reducible assumption | omega)) ?_))))
         | (refine z_isnil ?_; first
         | refine z_list ?_)
         | (refine z_isop ?_; first
         | (refine z_isbin ?_; first
         | (refine z_isb .add ?_; first
         | refine o_add rfl rfl (by omega) (by omega) (by decide) ?_)
         | (refine z_isb .lss ?_; first
         | refine o_lt rfl rfl (by decide) ?_))
         | refine o_move rfl (by decide) ?_
         | refine o_assign rfl (by decide) ?_))
    · obtain rfl : s = 64 := by omega
      repeat' (first
       | ((refine z_isdst 109 ?_; refine o_calla Try.func30 rfl rfl rfl (hus _) (by decide) fun _ _ => ?_))
       | (refine s_is ?_; first
       | (refine s_isret ?_; first
       | exact f_r1 rfl (res_t rfl) () trivial rfl (fun w h => ((h.sel 6 [5, 0, 1, 2, 3, 4] (by decide)).mask [true, false, false, false, false, false])))
       | (refine s_isw ?_; first
       | refine c_seq ?_
       | refine c_region ?_
       | refine c_ret ?_
       | refine c_exit ?_
       | (refine s_iscond ?_; first
       | (refine c_false rfl (by first | with_reducible rfl | with_reducible assumption | ((with_reducible refine decide_eq_false ?_); first | with_reducible assumption | omega)) ?_))))
       | (refine z_isg1 ?_; first
       | (refine z_want1 rfl rfl (by first | with_reducible rfl | with_reducible assumption | ((with_reducible refine decide_eq_true ?_); first | with_reducible rfl | with_reducible assumption | omega)) ?_))
       | (refine z_isnil ?_; first
       | refine z_list ?_)
       | (refine z_isop ?_; first
       | (refine z_isbin ?_; first
       | (refine z_isb .eql ?_; first
       | refine o_eq rfl rfl (by decide) ?_)
       | (refine z_isb .lss ?_; first
       | refine o_lt rfl rfl (by decide) ?_))
       | (refine z_iscall ?_; first
       | ((refine z_iscallf 31 ?_; refine o_fn rfl Try.func31 rfl rfl rfl (sawake_p) (by decide) ?_)))
       | (refine z_ispick ?_; first
       | (refine o_pick1 rfl (by first | with_reducible rfl | with_reducible assumption | ((with_reducible refine decide_eq_true ?_); first | with_reducible rfl | with_reducible assumption | omega)) rfl (by decide) ?_))
       | refine o_move rfl (by decide) ?_
       | refine o_assign rfl (by decide) ?_))
end Go.Proofs.Ytnckabgaichkkaa
