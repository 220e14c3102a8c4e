/-
Shadow: what is out.
-/
import Derived.Test.YtnckabgaichkkaaSh3
import Derived.Test.YtnckabgaichkkaaBx8
namespace Go.Proofs.Ytnckabgaichkkaa
set_option linter.unusedVariables false
set_option linter.unusedSimpArgs false
open Eng Go.Sort
/-- A place. -/
abbrev Plc := { x : Int × Int // InP x.1 x.2 }
instance : Inhabited Plc := ⟨⟨(0, 0), by decide⟩⟩
def cfP (x y : Int × Int) : Int := if x.1 = y.1 then x.2 - y.2 else x.1 - y.1
theorem cfP_lt {x y : Int × Int} : cfP x y < 0 ↔ lexR x y := by
  unfold cfP lexR
  by_cases h : x.1 = y.1
  · rw [if_pos h]; omega
  · rw [if_neg h]; omega
theorem ltP (x y : Plc) : ltOf (fun x y : Plc => cfP x.1 y.1) x y = decide (lexR x.1 y.1) := by
  unfold ltOf
  rw [decide_eq_decide]
  exact cfP_lt
theorem swoP : SWO (ltOf fun x y : Plc => cfP x.1 y.1) where
  irrefl x := by rw [ltP]; exact decide_eq_false (lexR_irr _)
  trans x y z h1 h2 := by rw [ltP, decide_eq_true_eq] at *; exact lexR_trans h1 h2
  ntrans x y z h1 h2 := by rw [ltP, decide_eq_false_iff_not] at *; exact lexR_ntrans h1 h2
theorem totP (x y : Plc) (h1 : ltOf (fun x y : Plc => cfP x.1 y.1) x y = false) (h2 : ltOf (fun x y : Plc => cfP x.1 y.1) y x = false) : x = y := by
  rw [ltP, decide_eq_false_iff_not] at *
  exact Subtype.ext (lexR_eq h1 h2)
def qsort (L : List Plc) : List Plc := L.mergeSort fun x y => !ltOf (fun x y : Plc => cfP x.1 y.1) y x
theorem qsort_len (L : List Plc) : (qsort L).length = L.length := List.length_mergeSort L
def enP (x : Plc) : List Value := prc x.1
theorem pcs_map (L : List Plc) : pcs (L.map (·.1)) = L.flatMap enP := by
  unfold pcs enP
  induction L with
  | nil => rfl
  | cons x L ih => rw [List.map_cons, List.flatMap_cons, List.flatMap_cons, ih]
def lift (L : List (Int × Int)) (h : ∀ x ∈ L, InP x.1 x.2) : List Plc := L.attachWith (fun x => InP x.1 x.2) h
theorem lift_map (L : List (Int × Int)) (h : ∀ x ∈ L, InP x.1 x.2) : (lift L h).map (·.1) = L := by
  unfold lift
  exact List.attachWith_map_subtype_val h
theorem lift_len (L : List (Int × Int)) (h : ∀ x ∈ L, InP x.1 x.2) : (lift L h).length = L.length := by
  have := congrArg List.length (lift_map L h)
  rwa [List.length_map] at this
theorem qsort_eq {out : List (Int × Int)} (hi : ∀ x ∈ out, InP x.1 x.2) {g : Nat → Bool} {n : Nat} (hN : out.Nodup) (h : ∀ x, x ∈ out ↔ x ∈ prs g n) : (qsort (lift out hi)).map (·.1) = prs g n := by
  have hp : out.Perm (prs g n) := perm_of_nodup hN (prs_nodup g n) h
  have hp2 : ((qsort (lift out hi)).map (·.1)).Perm (prs g n) := by
    refine List.Perm.trans ?_ hp
    have := (List.mergeSort_perm (lift out hi) (fun x y => !ltOf (fun x y : Plc => cfP x.1 y.1) y x)).map (·.1)
    rw [lift_map] at this
    exact this
  have h1 : ((qsort (lift out hi)).map (·.1)).Pairwise (fun x y => ¬ lexR y x) := by
    rw [List.pairwise_map]
    have := List.pairwise_mergeSort (le := fun x y : Plc => !ltOf (fun x y : Plc => cfP x.1 y.1) y x) (fun a b c h1 h2 => by
      rw [ltP, Bool.not_eq_true', decide_eq_false_iff_not] at *
      exact lexR_ntrans h2 h1) (fun a b => by
      rw [ltP, ltP]
      by_cases h : lexR b.1 a.1
      · rw [decide_eq_true h, decide_eq_false (lexR_asymm _ _ h)]; rfl
      · rw [decide_eq_false h]; rfl) (lift out hi)
    exact this.imp fun {a b} h => by
      rw [ltP, Bool.not_eq_true', decide_eq_false_iff_not] at h
      exact h
  have hN2 : ((qsort (lift out hi)).map (·.1)).Nodup := hp2.nodup_iff.2 (prs_nodup g n)
  have h2 : ((qsort (lift out hi)).map (·.1)).Pairwise lexR := by
    have : ((qsort (lift out hi)).map (·.1)).Pairwise (fun a b => ¬ lexR b a ∧ a ≠ b) := h1.and hN2
    exact this.imp fun {a b} h => Classical.byContradiction fun e => h.2 (lexR_eq e h.1)
  exact eq_pw lexR_asymm hp2 h2 (prs_sorted g n)
/-- All that is out is bound just so. -/
def WO (M O : Mp) : Prop := ∀ s p v, O s p = some v → M s p = some v
theorem WO.wm {M O : Mp} (h : WO M O) (hM : WM M) : WM O := fun s p hn => by
  cases e : O s p with
  | none => exact absurd e hn
  | some v => exact hM s p (by rw [h s p v e]; exact fun e => by cases e)
theorem onf_iff {M : Mp} (s p : Nat) (hs : s < 64) (hp : p < 32) : onf M (s * 32 + p) = true ↔ (M s p ≠ none ∧ True) := by
  unfold onf
  rw [show (s * 32 + p) / 32 = s by omega, show (s * 32 + p) % 32 = p by omega, onM_iff]
  exact ⟨fun h => ⟨h, trivial⟩, fun h => h.1⟩
theorem Gt.mem {M : Mp} (hM : WM M) {out : List (Int × Int)} (h : Gt M (fun _ _ => True) out []) : ∀ x, x ∈ out ↔ x ∈ prs (onf M) 2048 := fun x => by
  obtain ⟨a, c⟩ := x
  rw [h.o, onl_mem hM]
  exact ⟨fun e => e.1.1, fun e => ⟨⟨e, trivial⟩, fun e => by cases e⟩⟩
theorem Gt.inp {M : Mp} (hM : WM M) {out L : List (Int × Int)} {G : Int → Int → Prop} (h : Gt M G out L) : ∀ x ∈ out, InP x.1 x.2 := fun x hx => hM x.1 x.2 ((h.o x.1 x.2).1 hx).1.1
attribute [local irreducible] Eng.Hold Eng.Z Eng.S Eng.cells Eng.old Eng.own Eng.mpc Eng.rgc Eng.onM Eng.fM Eng.wM Eng.upM Eng.delM
attribute [local irreducible] uss pcs pgs ilS dls row xs dmf rmM aM1 aM2 eqB usf flt onf
theorem out1_c (x y : Int × Int) (hx : InP x.1 x.2) (hy : InP y.1 y.2) : Pf Try.prog 54 [.agg (prc x).toArray, .agg (prc y).toArray] (.int .i64 (cfP x y)) := by
  intro w hw
  obtain ⟨x0, x1⟩ := x
  obtain ⟨y0, y1⟩ := y
  obtain ⟨h0, h1, h2, h3⟩ := hx
  obtain ⟨k0, k1, k2, k3⟩ := hy
  dsimp only at h0 h1 h2 h3 k0 k1 k2 k3
  refine f_enter Try.func54 rfl Try.ntmps54 rfl hw ?_
  by_cases h : x0 = y0
  · have e : cfP (x0, x1) (y0, y1) = x1 - y1 := if_pos h
    rw [e]
    repeat' (first
     | ((refine z_isdst 2 ?_; refine o_boxa (vs := prc (x0, x1)) rfl rfl (by decide) fun g2 => ?_))
     | ((refine z_isdst 3 ?_; refine o_boxa (vs := prc (y0, y1)) rfl rfl (by decide) fun g3 => ?_))
     | (refine s_is ?_; first
     | (refine s_isret ?_; first
     | exact p_r1 rfl (res_t rfl))
     | (refine s_isw ?_; first
     | refine c_seq ?_
     | refine c_region ?_
     | refine c_skip ?_
     | refine c_ret ?_
     | (refine s_iscond ?_; first
     | (refine c_false rfl (by first | with_reducible rfl | with_reducible assumption | ((with_reducible refine decide_eq_false ?_); first | with_reducible assumption | omega)) ?_))))
     | (refine z_isnil ?_; first
     | refine z_list ?_)
     | (refine z_isop ?_; first
     | (refine z_isbin ?_; first
     | (refine z_isb .sub ?_; first
     | refine o_sub rfl rfl (by omega) (by omega) (by decide) ?_)
     | (refine z_isb .neq ?_; first
     | refine o_ne rfl rfl (by decide) ?_))
     | (refine z_isload ?_; first
     | (refine z_ld1 tabOk rfl rfl ?_; first
     | refine o_loadm tabOk rfl rfl rfl (by repeat' (first | exact List.mem_cons_self | apply List.mem_cons_of_mem)) (by first | rfl | rfl) (by decide) ?_))
     | refine o_assign rfl (by decide) ?_
     | refine o_field0 tabOk rfl rfl rfl rfl rfl (by decide) ?_))
  · have e : cfP (x0, x1) (y0, y1) = x0 - y0 := if_neg h
    rw [e]
    repeat' (first
     | ((refine z_isdst 2 ?_; refine o_boxa (vs := prc (x0, x1)) rfl rfl (by decide) fun g2 => ?_))
     | ((refine z_isdst 3 ?_; refine o_boxa (vs := prc (y0, y1)) rfl rfl (by decide) fun g3 => ?_))
     | (refine s_is ?_; first
     | (refine s_isret ?_; first
     | exact p_r1 rfl (res_t rfl))
     | (refine s_isw ?_; first
     | refine c_seq ?_
     | refine c_region ?_
     | refine c_ret ?_
     | (refine s_iscond ?_; first
     | (refine c_true rfl (by first | with_reducible rfl | with_reducible assumption | ((with_reducible refine decide_eq_true ?_); first | with_reducible rfl | with_reducible assumption | omega)) ?_)))
     | refine x_then_ret ?_)
     | (refine z_isnil ?_; first
     | refine z_list ?_)
     | (refine z_isop ?_; first
     | (refine z_isbin ?_; first
     | (refine z_isb .sub ?_; first
     | refine o_sub rfl rfl (by omega) (by omega) (by decide) ?_)
     | (refine z_isb .neq ?_; first
     | refine o_ne rfl rfl (by decide) ?_))
     | (refine z_isload ?_; first
     | (refine z_ld1 tabOk rfl rfl ?_; first
     | refine o_loadm tabOk rfl rfl rfl (by repeat' (first | exact List.mem_cons_self | apply List.mem_cons_of_mem)) (by first | rfl | rfl) (by decide) ?_))
     | refine o_assign rfl (by decide) ?_
     | refine o_field0 tabOk rfl rfl rfl rfl rfl (by decide) ?_))
theorem sortp_c (L : List Plc) (A : Option Addr) (c : Nat) (hx : L.length ≤ 1000000) : Does Try.prog 53 [.slice A L.length c, .func (.func 54) #[] #[]] [own A c 72 2 L.length (L.flatMap enP)] (fun _ : Unit => True) (fun _ => .tuple #[]) (fun _ => [own A c 72 2 L.length ((qsort L).flatMap enP)]) :=
  sortK_c enP (fun _ => rfl) 72 53 (.func (.func 54) #[] #[]) qsort qsort_len (fun w g o c L hH hg hsz => by
    have eg : ∀ args w, (callFunc 54 args).run Try.prog w = .ok (.enter 54 args) w := enters_of Try.func54 (by kernel_rfl) rfl
    have h := AnyQ.slices_SortFunc_total laysP 2 Try.isAgg72 Try.sizeOf72 enP (fun _ => rfl) (fun x => prc_one x.1) (fun x y : Plc => cfP x.1 y.1) swoP 54 #[] g o c L.toArray w eg (fun m os dk _ x y => pf_lays (out1_c x.1 y.1 x.2 y.2) _) hH hg (by simpa using hsz) totP
    simp only [List.size_toArray] at h
    exact h) (fun w A c => AnyF.slices_SortFunc_none laysP A c _ w) L A c hx
theorem sortp_l (out : List (Int × Int)) (hi : ∀ x ∈ out, InP x.1 x.2) (R : List (Int × Int)) (hR : (qsort (lift out hi)).map (·.1) = R) (A : Option Addr) (c : Nat) (hx : out.length ≤ 1000000) : Does Try.prog 53 [.slice A out.length c, .func (.func 54) #[] #[]] [own A c 72 2 out.length (pcs out)] (fun _ : Unit => True) (fun _ => .tuple #[]) (fun _ => [own A c 72 2 out.length (pcs R)]) := by
  have h := sortp_c (lift out hi) A c (by rw [lift_len]; exact hx)
  rw [← pcs_map, ← pcs_map, lift_map, lift_len, hR] at h
  exact h
theorem bget_at (b m : Nat) (M : Mp) (s p : Int) (c1 c2 c3 : Chunk) (fr : List Chunk) : Does Try.prog 12 [.pointer (some ⟨b, 0, none⟩), .int .i64 s, .int .i64 p] (c1 :: c2 :: c3 :: cells b 78 [.map (some m)] :: mpc m M :: fr) (fun _ : Unit => True) (fun _ => .tuple #[.agg #[.int .i64 (fM M s p), .bool (wM M s p)], .bool (onM M s p)]) (fun _ => c1 :: c2 :: c3 :: cells b 78 [.map (some m)] :: mpc m M :: fr) :=
  (does_perm (bget_c b m M s p (c1 :: c2 :: c3 :: fr)) (sel_perm _ 5 [3, 4, 0, 1, 2] (by decide))).post fun _ _ => ⟨(), trivial, rfl, fun B w hS => hS.sel 5 [2, 3, 4, 0, 1] (by decide)⟩
set_option maxHeartbeats 4000000 in
theorem sout_c (sb b m o : Nat) (M O : Mp) (hO : WM O) (fr : List Chunk) : Does Try.prog 33 [.pointer (some ⟨sb, 0, none⟩)] (cells sb 89 [.pointer (some ⟨b, 0, none⟩), .map (some o)] :: cells b 78 [.map (some m)] :: mpc m (M) :: mpc o (O) :: fr) (fun _ : Option Addr × Nat => True) (fun x => .slice x.1 (prs (onf O) 2048).length x.2) (fun x => own x.1 x.2 72 2 (prs (onf O) 2048).length (pcs (prs (onf O) 2048)) :: cells sb 89 [.pointer (some ⟨b, 0, none⟩), .map (some o)] :: cells b 78 [.map (some m)] :: mpc m (M) :: mpc o (O) :: fr) := by
  intro w hw
  refine f_enter Try.func33 rfl Try.ntmps33 rfl hw ?_
  repeat' (first
   | ((refine z_isdst 11 ?_; refine o_range mtS rfl 3 rfl (by decide) fun gr L0 hN hL => ?_))
   | (refine s_is ?_; first
   | (refine s_isw ?_; first
   | (refine s_isloop ?_; first
   | ((refine c_loop (X := Option Addr × Nat × List (Int × Int) × List (Int × Int) × Option (Int × Int × Int × Bool)) (fun y => Gt O (fun _ _ => True) y.2.2.1 y.2.2.2.1) (fun y => [(0, .pointer (some ⟨sb, 0, none⟩)), (3, .slice y.1 y.2.2.1.length y.2.1), (11, .pointer (some ⟨gr, 0, none⟩))]) (fun y => own y.1 y.2.1 72 2 y.2.2.1.length (pcs y.2.2.1) :: cells sb 89 [.pointer (some ⟨b, 0, none⟩), .map (some o)] :: cells b 78 [.map (some m)] :: mpc m M :: rgc o gr O y.2.2.2.1 y.2.2.2.2 :: fr) (fun y => y.2.2.2.1.length) (none, 0, [], L0, none) (Gt.start hN hL) ⟨rfl, rfl, rfl, trivial⟩ (fun w h => by rw [pcs_nil]; exact h.nil 72 2) (fun y hy => ?_); obtain ⟨A, c, out, L, cur⟩ := y; dsimp only at hy ⊢; refine hold ?_)))
   | refine c_seq ?_
   | refine c_block ?_
   | refine c_region ?_
   | refine c_skip ?_
   | (refine s_iscond ?_; first
   | (refine c_false rfl (by first | (simp only [Bool.not_eq_false', decide_eq_true_eq]; omega) | (with_reducible assumption) | (rw [decide_eq_false] <;> (first | omega | with_reducible rfl)) | (rw [decide_eq_true] <;> (first | omega | with_reducible rfl)) | (simp; done) | (simp; omega)) ?_))))
   | (refine z_isnil ?_; first
   | refine z_list ?_)
   | (refine z_isop ?_; first
   | (refine z_isbin ?_; first
   | (refine z_isb .eql ?_; first
   | refine o_peq tabOk rfl rfl (by decide) ?_))
   | (refine z_isload ?_; first
   | (refine z_ld1 tabOk rfl rfl ?_; first
   | refine o_loadm tabOk rfl rfl rfl (by repeat' (first | exact List.mem_cons_self | apply List.mem_cons_of_mem)) (by first | rfl | rfl) (by decide) ?_))
   | refine o_move rfl (by decide) ?_
   | refine o_assign rfl (by decide) ?_
   | refine o_nil rfl (by decide) ?_
   | refine o_field0 tabOk rfl rfl rfl rfl rfl (by decide) ?_))
  refine Hold.go ?_
  have hle := hy.le hO
  cases L with
  | nil =>
    have hmm := hy.mem hO
    have hR := qsort_eq (hy.inp hO) hy.no hmm
    have hfl : out.length = (prs (onf O) 2048).length := (perm_of_nodup hy.no (prs_nodup _ _) hmm).length_eq
    repeat' (first
     | ((refine z_isdst 12 ?_; refine o_next0 rfl 4 rfl rfl (by decide) ?_))
     | ((refine z_isdst 21 ?_; refine o_call Try.func53 rfl rfl rfl (sortp_l out (hy.inp hO) _ hR A c (by omega)) (List.Perm.refl _) (by decide) fun _ _ => ?_; rw [hfl]))
     | (refine s_is ?_; first
     | (refine s_isret ?_; first
     | exact f_r1 rfl (res_t rfl) (A, c) trivial rfl (fun w h => (st_unrange (((h.sel 5 [4, 0, 1, 2, 3] (by decide)).mask [true, true, true, true, true]))).sel 5 [1, 2, 3, 4, 0] (by decide)))
     | (refine s_isw ?_; first
     | refine c_seq ?_
     | refine c_region ?_
     | refine c_ret ?_
     | refine c_exit ?_
     | (refine s_iscond ?_; first
     | (refine c_false rfl (by first | with_reducible rfl | with_reducible assumption | ((with_reducible refine decide_eq_false ?_); first | with_reducible assumption | omega)) ?_))))
     | (refine z_isnil ?_; first
     | refine z_list ?_)
     | (refine z_isop ?_; first
     | refine o_move rfl (by decide) ?_
     | refine o_assign rfl (by decide) ?_
     | refine o_extract rfl rfl (by decide) ?_))
  | cons y0 L1 =>
    repeat' (first
     | ((refine z_isdst 12 ?_; refine o_next1 rfl 4 rfl (fun e => by cases e) (by decide) fun a q f x L' hp hMv => ?_; refine hold ?_))
     | (refine s_is ?_; first
     | (refine s_isw ?_; first
     | refine c_seq ?_
     | refine c_region ?_)))
    refine Hold.go ?_
    have hy2 := hy.perm hp
    have hlen : L1.length + 1 = L'.length + 1 := by have := hp.length_eq; rw [List.length_cons, List.length_cons] at this; exact this
    have hy3 := hy2.yes trivial
    have hil := pcs_add out a q
    repeat' (first
     | ((refine z_isdst 4 ?_; refine o_alloca (e := 72) (vs := [.int .i64 0, .int .i64 0]) rfl (by kernel_rfl) (by decide) fun g4 => ?_))
     | ((refine z_isdst 14 ?_; refine o_entry rfl 4 rfl (by decide) ?_))
     | (refine s_is ?_; first
     | (refine s_isagain ?_; first
     | (exact c_again (A', c', out ++ [(a, q)], L', some (a, q, f, x)) hy3 (by dsimp only; rw [List.length_cons]; omega) ⟨rfl, (by dsimp only; rw [List.length_append]; rfl), rfl, trivial⟩ (fun w h => by dsimp only; rw [hil, List.length_append]; simp only [fronts, moveF, selF, sel1, nth, List.drop_succ_cons, List.drop_zero, List.eraseIdx_cons_zero, List.eraseIdx_cons_succ, maskL, List.cons_append, List.nil_append, List.append_eq, List.set_cons_zero, List.set_cons_succ] at h; exact ((h.sel 7 [0, 3, 4, 5, 6, 1, 2] (by decide)).mask [true, true, true, true, true, false, false]))))
     | (refine s_isw ?_; first
     | refine c_seq ?_
     | refine c_block ?_
     | refine c_region ?_
     | refine c_skip ?_
     | (refine s_iscond ?_; first
     | (refine c_true rfl (by first | with_reducible rfl | with_reducible assumption | ((with_reducible refine decide_eq_true ?_); first | with_reducible rfl | with_reducible assumption | omega)) ?_))))
     | (refine z_isnil ?_; first
     | refine z_list ?_)
     | (refine z_isop ?_; first
     | (refine o_makew (vs := [.int .i64 a, .int .i64 q]) rfl tabOk zeroOk rfl rfl rfl rfl rfl rfl rfl (by decide) fun gn => ?_)
     | (refine z_isload ?_; first
     | (refine z_ldw tabOk rfl rfl ?_; first
     | refine o_loadwm tabOk rfl rfl rfl (by repeat' (first | exact List.mem_cons_self | apply List.mem_cons_of_mem)) (by first | rfl | rfl) (by decide) ?_))
     | (refine z_isstore ?_; first
     | (refine z_stw rfl ?_; first
     | ((refine z_sti 0 rfl rfl ?_; refine o_storeb0 rfl tabOk rfl rfl rfl (by first | rfl | rfl) (by first | rfl | rfl) (by first | rfl | rfl) ?_))))
     | (refine z_isbi ?_; first
     | (refine z_front rfl 2 rfl ?_; refine o_append rfl tabOk zeroOk rfl rfl rfl rfl rfl rfl (by first | exact own_rds 1 rfl | exact own_rds 0 rfl | exact hrd | exact cells_rds 0 rfl | exact cells_rds 1 rfl | exact own_rds 2 rfl | exact own_rds 3 rfl | assumption) (by first | rfl | rfl | (simp; done)) (by first | rfl | rfl | (simp; done)) (by omega) (by omega) (by decide) fun A' c' => ?_))
     | refine o_move rfl (by decide) ?_
     | refine o_assign rfl (by decide) ?_
     | refine o_extract rfl rfl (by decide) ?_))
set_option maxHeartbeats 4000000 in
theorem ssound_c (sb b m o : Nat) (M O : Mp) (hW : WO M O) (fr : List Chunk) : Does Try.prog 36 [.pointer (some ⟨sb, 0, none⟩)] (cells sb 89 [.pointer (some ⟨b, 0, none⟩), .map (some o)] :: cells b 78 [.map (some m)] :: mpc m (M) :: mpc o (O) :: fr) (fun _ : Unit => True) (fun _ => .bool true) (fun _ => cells sb 89 [.pointer (some ⟨b, 0, none⟩), .map (some o)] :: cells b 78 [.map (some m)] :: mpc m (M) :: mpc o (O) :: fr) := by
  intro w hw
  refine f_enter Try.func36 rfl Try.ntmps36 rfl hw ?_
  repeat' (first
   | ((refine z_isdst 13 ?_; refine o_range mtS rfl 3 rfl (by decide) fun gr L0 hN hL => ?_))
   | (refine s_is ?_; first
   | (refine s_isw ?_; first
   | (refine s_isloop ?_; first
   | ((refine c_loop (X := List (Int × Int) × Option (Int × Int × Int × Bool)) (fun y => True) (fun y => [(0, .pointer (some ⟨sb, 0, none⟩)), (13, .pointer (some ⟨gr, 0, none⟩))]) (fun y => cells sb 89 [.pointer (some ⟨b, 0, none⟩), .map (some o)] :: cells b 78 [.map (some m)] :: mpc m M :: rgc o gr O y.1 y.2 :: fr) (fun y => y.1.length) (L0, none) trivial ⟨rfl, rfl, trivial⟩ (fun w h => h) (fun y _ => ?_); obtain ⟨L, cur⟩ := y; dsimp only; refine hold ?_)))
   | refine c_seq ?_
   | refine c_block ?_
   | refine c_region ?_
   | refine c_skip ?_
   | (refine s_iscond ?_; first
   | (refine c_false rfl (by first | (simp only [Bool.not_eq_false', decide_eq_true_eq]; omega) | (with_reducible assumption) | (rw [decide_eq_false] <;> (first | omega | with_reducible rfl)) | (rw [decide_eq_true] <;> (first | omega | with_reducible rfl)) | (simp; done) | (simp; omega)) ?_))))
   | (refine z_isnil ?_; first
   | refine z_list ?_)
   | (refine z_isop ?_; first
   | (refine z_isbin ?_; first
   | (refine z_isb .eql ?_; first
   | refine o_peq tabOk rfl rfl (by decide) ?_))
   | (refine z_isload ?_; first
   | (refine z_ld1 tabOk rfl rfl ?_; first
   | refine o_loadm tabOk rfl rfl rfl (by repeat' (first | exact List.mem_cons_self | apply List.mem_cons_of_mem)) (by first | rfl | rfl) (by decide) ?_))
   | refine o_move rfl (by decide) ?_
   | refine o_assign rfl (by decide) ?_
   | refine o_nil rfl (by decide) ?_
   | refine o_field0 tabOk rfl rfl rfl rfl rfl (by decide) ?_))
  refine Hold.go ?_
  cases L with
  | nil =>
    repeat' (first
     | ((refine z_isdst 14 ?_; refine o_next0 rfl 3 rfl rfl (by decide) ?_))
     | (refine s_is ?_; first
     | (refine s_isret ?_; first
     | exact f_r1 rfl (res_t rfl) () trivial rfl (fun w h => (st_unrange (((h.sel 4 [3, 0, 1, 2] (by decide)).mask [true, true, true, true]))).sel 4 [1, 2, 3, 0] (by decide)))
     | (refine s_isw ?_; first
     | refine c_seq ?_
     | refine c_region ?_
     | refine c_ret ?_
     | refine c_exit ?_
     | (refine s_iscond ?_; first
     | (refine c_false rfl (by first | with_reducible rfl | with_reducible assumption | ((with_reducible refine decide_eq_false ?_); first | with_reducible assumption | omega)) ?_))))
     | (refine z_isnil ?_; first
     | refine z_list ?_)
     | (refine z_isop ?_; first
     | refine o_assign rfl (by decide) ?_
     | refine o_extract rfl rfl (by decide) ?_))
  | cons y0 L1 =>
    repeat' (first
     | ((refine z_isdst 14 ?_; refine o_next1 rfl 3 rfl (fun e => by cases e) (by decide) fun a q f x L' hp hMv => ?_; refine hold ?_))
     | (refine s_is ?_; first
     | (refine s_isw ?_; first
     | refine c_seq ?_
     | refine c_region ?_)))
    refine Hold.go ?_
    have hlen : L1.length + 1 = L'.length + 1 := by have := hp.length_eq; rw [List.length_cons, List.length_cons] at this; exact this
    have hMM := hW a q _ hMv
    have hg : ∀ c1 c2 c3 fr', Does Try.prog 12 [.pointer (some ⟨b, 0, none⟩), .int .i64 a, .int .i64 q] (c1 :: c2 :: c3 :: cells b 78 [.map (some m)] :: mpc m M :: fr') (fun _ : Unit => True) (fun _ => .tuple #[.agg #[.int .i64 f, .bool x], .bool true]) (fun _ => c1 :: c2 :: c3 :: cells b 78 [.map (some m)] :: mpc m M :: fr') := fun c1 c2 c3 fr' => by
      have h := bget_at b m M a q c1 c2 c3 fr'
      rw [show fM M a q = f by unfold fM; rw [hMM], show wM M a q = x by unfold wM; rw [hMM], show onM M a q = true by unfold onM; rw [hMM]; rfl] at h
      exact h
    have e3 : (!eqB [.int .i64 f, .bool x] [.int .i64 f, .bool x]) = false := by
      have h : Typed [.int .i64, .bool] [.int .i64 f, .bool x] := ⟨rfl, trivial⟩
      rw [(eqB_iff h h).2 rfl]; rfl
    repeat' (first
     | ((refine z_isdst 5 ?_; refine m_alloca (e := 36) (vs := [.int .i64 0, .bool false]) (by kernel_rfl) ?_))
     | ((refine z_isdst 28 ?_; refine o_callx0 Try.func12 rfl rfl rfl (hg _ _ _ _) (by decide) (by decide) ?_))
     | refine z_mono1 (by decide) fun g5 => ?_
     | ((refine z_isdst 3 ?_; refine o_alloca (e := 72) (vs := [.int .i64 0, .int .i64 0]) rfl (by kernel_rfl) (by decide) fun g3 => ?_))
     | ((refine z_isdst 4 ?_; refine o_alloca (e := 36) (vs := [.int .i64 0, .bool false]) rfl (by kernel_rfl) (by decide) fun g4 => ?_))
     | ((refine z_isdst 16 ?_; refine o_entry rfl 3 rfl (by decide) ?_))
     | ((refine z_isdst 36 ?_; refine o_nea cmp_bind rfl rfl ⟨rfl, trivial⟩ ⟨rfl, trivial⟩ (by decide) ?_))
     | (refine s_is ?_; first
     | (refine c_free0 ⟨[28], [5]⟩ [0, 1, 2, 3, 4, 5, 6, 7, 12, 8, 9, 10, 11, 13, 14] (id := 6) mixed (by kernel_rfl) ?_)
     | (refine s_isagain ?_; first
     | (exact c_again (L', some (a, q, f, x)) trivial (by dsimp only; rw [List.length_cons]; omega) ⟨rfl, rfl, trivial⟩ (fun w h => by simp only [fronts, moveF, selF, sel1, nth, List.drop_succ_cons, List.drop_zero, List.eraseIdx_cons_zero, List.eraseIdx_cons_succ, maskL, List.cons_append, List.nil_append, List.append_eq, List.set_cons_zero, List.set_cons_succ] at h; exact ((h.sel 7 [3, 4, 5, 6, 0, 1, 2] (by decide)).mask [true, true, true, true, false, false, false]))))
     | (refine s_isw ?_; first
     | refine c_seq ?_
     | refine c_block ?_
     | refine c_region ?_
     | refine c_skip ?_
     | (refine s_iscond ?_; first
     | (refine c_true rfl (by first | with_reducible rfl | with_reducible assumption | ((with_reducible refine decide_eq_true ?_); first | with_reducible rfl | with_reducible assumption | omega)) ?_)
     | (refine c_false rfl (by first | with_reducible rfl | with_reducible assumption | ((with_reducible refine decide_eq_false ?_); first | with_reducible assumption | omega)) ?_))))
     | (refine z_isg0 ?_; first
     | (refine z_want0 rfl rfl (by first | (simp only [Bool.not_eq_false', decide_eq_true_eq]; omega) | (with_reducible assumption) | (rw [decide_eq_false] <;> (first | omega | with_reducible rfl)) | (rw [decide_eq_true] <;> (first | omega | with_reducible rfl)) | (simp; done) | (simp; omega)) ?_))
     | (refine z_isnil ?_; first
     | refine z_list ?_)
     | (refine z_isop ?_; first
     | refine m_inib tabOk (by decide) rfl (by decide) (fun _ => rfl) rfl rfl rfl rfl ?_
     | (refine z_isload ?_; first
     | (refine z_ld1 tabOk rfl rfl ?_; first
     | refine o_loadm tabOk rfl rfl rfl (by repeat' (first | exact List.mem_cons_self | apply List.mem_cons_of_mem)) (by first | rfl | rfl) (by decide) ?_)
     | (refine z_ldw tabOk rfl rfl ?_; first
     | refine o_loadwm tabOk rfl rfl rfl (by repeat' (first | exact List.mem_cons_self | apply List.mem_cons_of_mem)) (by first | rfl | rfl) (by decide) ?_))
     | (refine z_isstore ?_; first
     | (refine z_stw rfl ?_; first
     | ((refine z_sti 0 rfl rfl ?_; refine o_storeb0 rfl tabOk rfl rfl rfl (by first | rfl | rfl) (by first | rfl | rfl) (by first | rfl | rfl) ?_))
     | ((refine z_sti 1 rfl rfl ?_; refine o_storeb1 rfl tabOk rfl rfl rfl (by first | rfl | rfl) (by first | rfl | rfl) (by first | rfl | rfl) ?_))))
     | (refine z_ispick ?_; first
     | (refine o_pick0 rfl (by first | (simp only [Bool.not_eq_false', decide_eq_true_eq]; omega) | (with_reducible assumption) | (rw [decide_eq_false] <;> (first | omega | with_reducible rfl)) | (rw [decide_eq_true] <;> (first | omega | with_reducible rfl)) | (simp; done) | (simp; omega)) rfl (by decide) ?_))
     | refine o_move rfl (by decide) ?_
     | refine o_assign rfl (by decide) ?_
     | refine o_nil rfl (by decide) ?_
     | refine o_extract rfl rfl (by decide) ?_
     | refine o_not rfl (by decide) ?_
     | refine o_field0 tabOk rfl rfl rfl rfl rfl (by decide) ?_))
end Go.Proofs.Ytnckabgaichkkaa
