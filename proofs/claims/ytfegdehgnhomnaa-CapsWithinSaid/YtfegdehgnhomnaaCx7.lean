/-
Caps: whatever is done, each cap's numbers are its parent's, and those derived from one have none together; one that is gone is never there again.
-/
import Derived.Test.YtfegdehgnhomnaaCx5
import Derived.Test.YtfegdehgnhomnaaCx3
namespace Go.Proofs.Ytfegdehgnhomnaa
set_option linter.unusedVariables false
set_option linter.unusedSimpArgs false
open Eng
theorem does_left {P : Program} {f : FuncId} {vs : List Value} {pr : List Chunk} {X : Type} {ok : X → Prop} {v : X → Value} {po : X → List Chunk} (L : List Chunk) (h : Does P f vs pr ok v po) : Does P f vs (L ++ pr) ok v (fun x => L ++ po x) :=
  (does_perm (h.frame L) List.perm_append_comm).post fun x hx => ⟨x, hx, rfl, fun B w hS => hS.perm List.perm_append_comm⟩
/-- What came in a list of caps. -/
theorem rg_get {k : Nat} (h : k < 64) : (List.range 64).getD k 0 = k := by simp [h]
theorem was_el {T : Tq} {k : Nat} (h : k < 64) : ∀ (j : Nat) u, [Value.int .i64 (k : Nat), Value.int .u64 (T k).g][j]? = some u → (kc T (List.range 64))[((k : Int)).toNat * 2 + j]? = some u := by
  have := kc_el (T := T) (K := List.range 64) (k := k) (by rw [List.length_range]; exact h)
  rw [rg_get h] at this
  exact this
theorem was_g {T : Tq} {k : Nat} (h : k < 64) : (kc T (List.range 64))[((k : Int)).toNat * 2 + 1]? = some (.int .u64 (T k).g) := was_el h 1 _ rfl
theorem was_add (T : Tq) (k : Nat) : kc T (List.range (k + 1)) = kc T (List.range k) ++ [.int .i64 k, .int .u64 (T k).g] := by rw [List.range_succ, kc_add]
/-- Those that are gone. -/
def gcs (G : List (Nat × Int)) : List Value := G.flatMap fun x => [.int .i64 x.1, .int .u64 x.2]
theorem gcs_nil : gcs [] = [] := rfl
theorem gcs_add (G : List (Nat × Int)) (k : Nat) (g : Int) : gcs (G ++ [(k, g)]) = gcs G ++ [.int .i64 k, .int .u64 g] := by simp [gcs]
theorem gcs_el {G : List (Nat × Int)} {i : Nat} (h : i < G.length) : ∀ (j : Nat) u, [Value.int .i64 (G[i].1 : Nat), Value.int .u64 G[i].2][j]? = some u → (gcs G)[((i : Int)).toNat * 2 + j]? = some u := fun j u hu => by
  have hj : j < 2 := (List.getElem?_eq_some_iff.1 hu).1
  rw [Int.toNat_natCast]
  unfold gcs
  rw [flat_get (fun x : Nat × Int => [Value.int .i64 x.1, Value.int .u64 x.2]) 2 (fun _ => rfl) G i j G[i] (List.getElem?_eq_getElem h) hj, hu]
def Gn (T : Tq) (l : Int) (G : List (Nat × Int)) : Prop := ∀ x ∈ G, x.1 < 64 ∧ x.2 ≠ 0 ∧ x.2 ≤ l ∧ (T x.1).g ≠ x.2
theorem gn_nil (T : Tq) (l : Int) : Gn T l [] := fun x h => by cases h
theorem gn_step {T T' : Tq} {l l' : Int} {G : List (Nat × Int)} (hs : Stp T l T' l') (h : Gn T l G) : Gn T' l' G := fun x hx => by
  obtain ⟨h1, h2, h3, h4⟩ := h x hx
  refine ⟨h1, h2, Int.le_trans h3 hs.1, fun e => ?_⟩
  rcases hs.2.2 x.1 h1 with h5 | h5 | h5
  · exact h4 (by rw [← h5, e])
  · exact h2 (by rw [← e, h5])
  · have := h5.2
    rw [e] at this; omega
theorem gn_add {T' : Tq} {l : Int} {G : List (Nat × Int)} (h : Gn T' l G) {k : Nat} {g : Int} (hk : k < 64) (hg : g ≠ 0) (hl : g ≤ l) (hn : (T' k).g ≠ g) : Gn T' l (G ++ [(k, g)]) := fun x hx => by
  rcases List.mem_append.1 hx with hx | hx
  · exact h x hx
  · rw [List.mem_singleton] at hx
    subst hx
    exact ⟨hk, hg, hl, hn⟩
theorem gn_at {T : Tq} {l : Int} {G : List (Nat × Int)} (h : Gn T l G) {i : Nat} (hi : i < G.length) : ¬ isN T (G[i].1 : Nat) G[i].2 := fun e => by
  have h4 := (h _ (List.getElem_mem hi)).2.2.2
  exact h4 (isN_at e).2.1
/-- How many numbers the first ones of some have. -/
def sn (T : Tq) (K : List Nat) : Nat → Nat
  | 0 => 0
  | j + 1 => sn T K j + (al (T (K.getD j 0)).s 1024).length
theorem sn_zero (T : Tq) (K : List Nat) : sn T K 0 = 0 := rfl
theorem sn_succ (T : Tq) (K : List Nat) (j : Nat) : sn T K (j + 1) = sn T K j + (al (T (K.getD j 0)).s 1024).length := rfl
theorem sn_le (T : Tq) (K : List Nat) : ∀ j, sn T K j ≤ 1024 * j
  | 0 => Nat.le_refl _
  | j + 1 => by
    have := sn_le T K j
    have := al_le (T (K.getD j 0)).s 1024
    rw [sn_succ]; omega
theorem sn_pre (T : Tq) (K M : List Nat) : ∀ k, k ≤ K.length → sn T (K ++ M) k = sn T K k
  | 0, _ => rfl
  | k + 1, h => by
    rw [sn_succ, sn_succ, sn_pre T K M k (by omega), getD_l (by omega)]
theorem lay0_or (s t : Nat → Bool) : layS 0 s t = fun x => s x || t x := funext fun x => lay0 s t x
theorem sn_dl {T : Tq} {l : Int} (hT : WF T l) {a : Int} (ha : 0 ≤ a) : ∀ n, n ≤ 64 → sn T (kd' T a n) (kd' T a n).length = (al (dl T a n) 1024).length
  | 0, _ => by
    show 0 = (al (fun _ => false) 1024).length
    exact ((al_none (s := fun _ => false)).2 fun _ _ => rfl).symm
  | n + 1, hn => by
    by_cases h : (T n).g ≠ 0 ∧ (T n).p = a
    · rw [kd_yes h, List.length_append, List.length_singleton, sn_succ, sn_pre _ _ _ _ (Nat.le_refl _), sn_dl hT ha n (by omega), getD_e, ← dl_yes h, lay0_or, al_len_or]
      intro x hx hd
      obtain ⟨i, hi, hg, hp, hq⟩ := (dl_iff n).1 hd
      exact hT.d i n (by omega) (by omega) hg h.1 (by omega) (by rw [hp]; exact ha) (by rw [hp, h.2]) x hx hq
    · rw [kd_no h, dl_no h]
      exact sn_dl hT ha n (by omega)
theorem in_par {T : Tq} {l : Int} (hT : WF T l) {k : Nat} (hk : k < 64) (hg : (T k).g ≠ 0) (hp : 0 ≤ (T k).p) : (al (layS 1 (T k).s (T (T k).p.toNat).s) 1024).length = 0 := al_none.2 fun j hj => by
  rw [lay1]
  cases h : (T k).s j with
  | false => rfl
  | true =>
    rw [hT.w k _ hk hg (by omega) j hj h]; rfl
attribute [local irreducible] Eng.Hold Eng.Z Eng.S Eng.cells Eng.old Eng.own rc rws tq tqn Cq.cs emp dcs dnn dt bs layS al undF isN dl
attribute [local irreducible] kd' kc lv zt ls lnt ofS nT eqB inS hv gcs sn
set_option maxHeartbeats 8000000 in
theorem capsWithin (W : World) (A0 : Option Addr) (c0 : Nat) (D : List Dc) (hrd0 : Rds [old W] A0 (D.flatMap Dc.cs)) (hx : D.length ≤ 9223372036854775807) (hq : ∀ d ∈ D, 0 ≤ d.g) :
    Does Try.prog 3 [.slice A0 D.length c0] [old W] (fun _ : Unit => True) (fun _ => .bool true) (fun _ => [old W]) := by
  intro w hw
  have hne0 : 0 < D.length → A0 ≠ none := fun h => hrd0.ne hw (by rw [flat_len Dc.cs 5 dc_len]; omega)
  refine f_enter Try.func3 rfl Try.ntmps3 rfl hw ?_
  repeat' (first
   | ((refine z_isdst 28 ?_; refine o_calla Try.func8 rfl rfl rfl (of_s 0 40 _) (by decide) fun x _ => ?_; obtain ⟨A, c⟩ := x; dsimp only))
   | ((refine z_isdst 29 ?_; refine o_calla Try.func7 rfl rfl rfl (cnew_c (ofS 0 40) A c _) (by decide) fun b _ => ?_))
   | ((refine z_isdst 33 ?_; refine o_calla Try.func9 rfl rfl rfl (dnew_c (ofS 0 40) A c _) (by decide) fun x _ => ?_; obtain ⟨db, nb⟩ := x; dsimp only))
   | ((refine z_isdst 4 ?_; refine o_alloca (e := 26) (vs := [.int .i64 0, .int .u64 0]) rfl (by kernel_rfl) (by decide) fun g4 => ?_))
   | (refine s_is ?_; first
   | (refine s_isw ?_; first
   | (refine s_isloop ?_; first
   | ((refine c_loop (X := Nat × Tq × Tq × Int × List Chunk × Option Addr × Nat × List (Nat × Int)) (fun y => y.1 ≤ 30 ∧ y.1 ≤ D.length ∧ WF y.2.1 y.2.2.2.1 ∧ (1 ≤ y.2.2.2.1 ∧ y.2.2.2.1 ≤ 1 + y.1) ∧ Sm y.2.1 y.2.2.1 ∧ Al y.2.2.2.2.1 y.2.2.1 ∧ [old W].Sublist y.2.2.2.2.1 ∧ Gn y.2.1 y.2.2.2.1 y.2.2.2.2.2.2.2 ∧ y.2.2.2.2.2.2.2.length ≤ 64 * y.1) (fun y => [(0, .slice A0 D.length c0), (3, .pointer (some ⟨b, 0, none⟩)), (5, .pointer (some ⟨db, 0, none⟩)), (6, .slice y.2.2.2.2.2.1 y.2.2.2.2.2.2.2.length y.2.2.2.2.2.2.1), (7, .int .i64 y.1)]) (fun y => own y.2.2.2.2.2.1 y.2.2.2.2.2.2.1 26 2 y.2.2.2.2.2.2.2.length (gcs y.2.2.2.2.2.2.2) :: cells b 73 (tq y.2.2.1 y.2.2.2.1) :: cells db 43 (dt nb y.2.2.2.1) :: cells nb 40 (dnn y.2.1) :: y.2.2.2.2.1) (fun y => 30 - y.1) (0, nT (ofS 0 40) A c, nT (ofS 0 40) A c, 1, [own A c 75 2 (rws (ofS 0 40)).length (rc (rws (ofS 0 40))), old W], none, 0, []) ⟨Nat.zero_le _, Nat.zero_le _, nT_wf _ _ _, ⟨Int.le_refl _, (by decide : (1 : Int) ≤ 1 + ((0 : Nat) : Int))⟩, Sm.refl _, nT_al (own_rds 0 rfl), List.sublist_append_right [_] _, gn_nil _ _, Nat.zero_le _⟩ ⟨rfl, rfl, rfl, rfl, rfl, trivial⟩ (fun w h => by unfold nT; dsimp only; rw [gcs_nil]; exact (((h.sel 6 [3, 0, 1, 4, 5, 2] (by decide)).mask [true, true, true, true, true, false]) : St _ _ _).nil 26 2) (fun y hy => ?_); obtain ⟨i, T, Tp, l, fr, Ag, cg, G⟩ := y; obtain ⟨hi, hi2, hT, hl, hs, hal, hsub, hG, hGl⟩ := hy; dsimp only at hi hi2 hT hl hs hal hsub hG hGl ⊢; refine hold ?_)))
   | refine c_seq ?_
   | refine c_block ?_
   | refine c_region ?_))
   | (refine z_isnil ?_; first
   | refine z_list ?_)
   | (refine z_isop ?_; first
   | (refine z_isstore ?_; first
   | (refine z_stw rfl ?_; first
   | ((refine z_sti 0 rfl rfl ?_; refine o_storeb0 rfl tabOk rfl rfl rfl (by first | rfl | exact dt_len _ _ | exact dnn_len _ | exact dcs_len _ | exact bs_len _ | (simp only [dnn_len, dcs_len, bs_len]; done) | rfl) (by first | rfl | exact dnn_one _ | exact dcs_one _ | exact dt_one _ _ | exact bs_one _ | rfl) (by first | rfl | exact dt_len _ _ | exact dnn_len _ | exact dcs_len _ | exact bs_len _ | (simp only [dnn_len, dcs_len, bs_len]; done) | rfl) ?_))))
   | (refine z_iscall ?_; first
   | ((refine z_iscallf 10 ?_; refine o_fn rfl Try.func10 rfl rfl rfl (rof_p _ _) (by decide) ?_)))
   | refine o_move rfl (by decide) ?_
   | refine o_assign rfl (by decide) ?_
   | refine o_extract rfl rfl (by decide) ?_))
  refine Hold.go ?_
  have hrd := hrd0.sub hsub
  have hfin : ∀ (w : World) (B : Base) (cs : List Chunk), St B w (cs ++ fr) → St B w [old W] := fun w B cs h => h.sub (hsub.trans (List.sublist_append_right _ _))
  by_cases hlt : i < D.length
  · by_cases hlt2 : i < 30
    · obtain ⟨d, hd⟩ : ∃ d, D[i]? = some d := ⟨D[i], List.getElem?_eq_getElem hlt⟩
      have hdg := hq d (List.mem_of_getElem? hd)
      repeat' (first
       | (refine s_is ?_; first
       | (refine c_join (x := .seq (.region 8 _ _) _) (X := Option Addr × Nat) (fun _ => True) (fun y => [(0, .slice A0 D.length c0), (3, .pointer (some ⟨b, 0, none⟩)), (5, .pointer (some ⟨db, 0, none⟩)), (6, .slice Ag G.length cg), (7, .int .i64 i), (8, .slice y.1 64 y.2)]) (fun y => own y.1 y.2 26 2 64 (kc T (List.range 64)) :: own Ag cg 26 2 G.length (gcs G) :: cells b 73 (tq Tp l) :: cells db 43 (dt nb l) :: cells nb 40 (dnn T) :: fr) (hold ?_) (fun y _ => hold ?_))
       | (refine s_isw ?_; first
       | refine c_seq ?_
       | refine c_block ?_
       | refine c_region ?_
       | refine c_skip ?_
       | (refine s_iscond ?_; first
       | (refine c_true rfl (by first | with_reducible rfl | with_reducible assumption | ((with_reducible refine decide_eq_true ?_); first | with_reducible rfl | with_reducible assumption | omega)) ?_))))
       | (refine z_isg1 ?_; first
       | (refine z_want1 rfl rfl (by first | with_reducible rfl | with_reducible assumption | ((with_reducible refine decide_eq_true ?_); first | with_reducible rfl | with_reducible assumption | omega)) ?_))
       | (refine z_isnil ?_; first
       | refine z_list ?_)
       | (refine z_isop ?_; first
       | (refine z_isbin ?_; first
       | (refine z_isb .lss ?_; first
       | refine o_lt rfl rfl (by decide) ?_))
       | (refine z_ispick ?_; first
       | (refine o_pick1 rfl (by first | with_reducible rfl | with_reducible assumption | ((with_reducible refine decide_eq_true ?_); first | with_reducible rfl | with_reducible assumption | omega)) rfl (by decide) ?_))
       | (refine z_isbi ?_; first
       | refine o_len tabOk rfl rfl (by decide) ?_)
       | refine o_move rfl (by decide) ?_
       | refine o_assign rfl (by decide) ?_))
      · refine Hold.go ?_
        repeat' (first
         | (refine s_is ?_; first
         | (refine s_isw ?_; first
         | (refine s_isloop ?_; first
         | ((refine c_loop (X := Option Addr × Nat × Nat) (fun y => y.2.2 ≤ 64) (fun y => [(0, .slice A0 D.length c0), (3, .pointer (some ⟨b, 0, none⟩)), (5, .pointer (some ⟨db, 0, none⟩)), (6, .slice Ag G.length cg), (7, .int .i64 i), (8, .slice y.1 y.2.2 y.2.1), (9, .int .i64 y.2.2)]) (fun y => own y.1 y.2.1 26 2 y.2.2 (kc T (List.range y.2.2)) :: own Ag cg 26 2 G.length (gcs G) :: cells b 73 (tq Tp l) :: cells db 43 (dt nb l) :: cells nb 40 (dnn T) :: fr) (fun y => 64 - y.2.2) (none, 0, 0) (Nat.zero_le _) ⟨rfl, rfl, rfl, rfl, rfl, rfl, rfl, trivial⟩ (fun w h => by dsimp only; rw [List.range_zero, kc_nil]; exact h.nil 26 2) (fun y hy => ?_); obtain ⟨E, e, k⟩ := y; dsimp only at hy ⊢; refine hold ?_)))
         | refine c_seq ?_
         | refine c_block ?_
         | refine c_region ?_))
         | (refine z_isnil ?_; first
         | refine z_list ?_)
         | (refine z_isop ?_; first
         | refine o_assign rfl (by decide) ?_))
        refine Hold.go ?_
        have hlr : (List.range k).length = k := List.length_range
        by_cases hk : k < 64
        · have hg0 := hT.g0 k hk
          have hwa := was_add T k
          repeat' (first
           | ((refine z_isdst 58 ?_; refine o_buildf (t := 26) (zs := [.int .i64 0, .int .u64 0]) (vs := [.int .i64 _, .int .u64 _]) tabOk rfl rfl (by kernel_rfl) rfl ⟨_, _, rfl, rfl, Nat.le_of_ble_eq_true rfl, _, _, rfl, rfl, Nat.le_of_ble_eq_true rfl, rfl⟩ (by decide) ?_))
           | (refine s_is ?_; first
           | (refine s_isagain ?_; first
           | (exact c_again (A', c', k + 1) (by dsimp only; omega) (by dsimp only; omega) ⟨rfl, rfl, rfl, rfl, rfl, rfl, rfl, trivial⟩ (fun w h => by dsimp only; rw [hwa]; simp only [fronts, moveF, selF, sel1, nth, List.drop_succ_cons, List.drop_zero, List.eraseIdx_cons_zero, List.eraseIdx_cons_succ, maskL, List.cons_append, List.nil_append, List.append_eq, List.set_cons_zero, List.set_cons_succ] at h; exact ((h.sel 6 [0, 2, 3, 4, 5, 1] (by decide)).mask [true, true, true, true, true, false]))))
           | (refine s_isw ?_; first
           | refine c_seq ?_
           | refine c_block ?_
           | refine c_region ?_
           | refine c_skip ?_
           | (refine s_iscond ?_; first
           | (refine c_true rfl (by first | with_reducible rfl | with_reducible assumption | ((with_reducible refine decide_eq_true ?_); first | with_reducible rfl | with_reducible assumption | omega)) ?_))))
           | (refine z_isnil ?_; first
           | refine z_list ?_)
           | (refine z_isop ?_; first
           | (refine o_makew (vs := [.int .i64 k, .int .u64 (T k).g]) rfl tabOk zeroOk rfl rfl rfl rfl rfl rfl rfl (by decide) fun gn => ?_)
           | refine o_indexskm tabOk rfl rfl rfl rfl (by omega) (by omega) (by decide) ?_
           | (refine z_isbin ?_; first
           | (refine z_isb .add ?_; first
           | refine o_add rfl rfl (by omega) (by omega) (by decide) ?_)
           | (refine z_isb .lss ?_; first
           | refine o_lt rfl rfl (by decide) ?_))
           | (refine z_isload ?_; first
           | refine o_loadr tabOk (by first | exact own_rds 0 rfl | exact own_rds 1 rfl | exact own_rds 2 rfl | exact own_rds 3 rfl | exact cells_rds 0 rfl | exact cells_rds 1 rfl | exact cells_rds 2 rfl | exact cells_rds 3 rfl | exact cells_rds 4 rfl | exact cells_rds 5 rfl | exact cells_rds 6 rfl | assumption) rfl rfl rfl (by first | exact dt_l _ _ | exact dt_n _ _ | exact dnn_at _ (by omega) (by omega) (dcs_g _) | exact dnn_at _ (by omega) (by omega) (dcs_p _) | exact was_g (by omega) | rfl | rfl) (by decide) ?_)
           | (refine z_isbi ?_; first
           | (refine z_front rfl 1 rfl ?_; refine o_append rfl tabOk zeroOk rfl rfl rfl rfl rfl rfl (by first | exact own_rds 0 rfl | exact own_rds 1 rfl | exact own_rds 2 rfl | exact own_rds 3 rfl | exact cells_rds 0 rfl | exact cells_rds 1 rfl | exact cells_rds 2 rfl | exact cells_rds 3 rfl | exact cells_rds 4 rfl | exact cells_rds 5 rfl | exact cells_rds 6 rfl | assumption) (by first | rfl | rfl | (simp; done)) (by first | rfl | rfl | (simp; done)) (by omega) (by omega) (by decide) fun A' c' => ?_))
           | refine o_move rfl (by decide) ?_
           | refine o_assign rfl (by decide) ?_
           | refine o_nil rfl (by decide) ?_
           | refine o_field0 tabOk rfl rfl rfl rfl rfl (by decide) ?_
           | refine o_field tabOk rfl rfl rfl rfl rfl (by decide) ?_))
        · obtain rfl : k = 64 := by omega
          repeat' (first
           | (refine s_is ?_; first
           | (refine s_ismeet ?_; first
           | exact c_meet (E, e) trivial ⟨rfl, rfl, rfl, rfl, rfl, rfl, trivial⟩ (fun w h => h))
           | (refine s_isw ?_; first
           | refine c_seq ?_
           | refine c_region ?_
           | refine c_exit ?_
           | (refine s_iscond ?_; first
           | (refine c_false rfl (by first | with_reducible rfl | with_reducible assumption | ((with_reducible refine decide_eq_false ?_); first | with_reducible assumption | omega)) ?_))))
           | (refine z_isnil ?_; first
           | refine z_list ?_)
           | (refine z_isop ?_; first
           | (refine z_isbin ?_; first
           | (refine z_isb .lss ?_; first
           | refine o_lt rfl rfl (by decide) ?_))
           | refine o_move rfl (by decide) ?_))
      · refine Hold.go ?_
        obtain ⟨E, e⟩ := y
        dsimp only
        refine c_own2 0 rfl fun hkc hneW => ?_
        repeat' (first
         | ((refine z_isdst 66 ?_; refine o_loadsw tabOk (hrd.sub (List.sublist_append_right [_, _, _, _, _] _)) rfl rfl rfl (es := d.cs) (dc_len _) (by rw [dc_len]; decide) (dc_at D d hd) (by decide) ?_))
         | ((refine z_isdst 67 ?_; refine o_calla Try.func11 rfl rfl rfl (does_left [_, _] (cdoes_c T l hT (by omega) (by omega) d.k d.a d.f d.t d.g hdg b db nb Tp fr hs hal)) (by decide) fun x hx => ?_; obtain ⟨T', Tp', l', nw⟩ := x; obtain ⟨hT', hst, hs', hal'⟩ := hx; dsimp only at hT' hst hs' hal' ⊢))
         | (refine s_is ?_; first
         | (refine c_join (x := .seq (.region 13 _ _) _) (X := Option Addr × Nat × List (Nat × Int)) (fun y => Gn T' l' y.2.2 ∧ y.2.2.length ≤ 64 * i + 64) (fun y => [(0, .slice A0 D.length c0), (3, .pointer (some ⟨b, 0, none⟩)), (5, .pointer (some ⟨db, 0, none⟩)), (6, .slice y.1 y.2.2.length y.2.1), (7, .int .i64 i)]) (fun y => own E e 26 2 64 (kc T (List.range 64)) :: own y.1 y.2.1 26 2 y.2.2.length (gcs y.2.2) :: cells b 73 (tq Tp' l') :: cells db 43 (dt nb l') :: cells nb 40 (dnn T') :: (nw ++ fr)) (hold ?_) (fun y hy => hold ?_))
         | (refine s_isw ?_; first
         | refine c_seq ?_
         | refine c_region ?_))
         | (refine z_isnil ?_; first
         | refine z_list ?_)
         | (refine z_isop ?_; first
         | refine o_indexsn tabOk (hne0 (by omega)) rfl rfl rfl rfl (by omega) (by omega) (by decide) ?_
         | refine o_move rfl (by decide) ?_))
        · refine Hold.go ?_
          have hG1 := gn_step hst hG
          have hll := hst.1
          repeat' (first
           | (refine s_is ?_; first
           | (refine s_isw ?_; first
           | (refine s_isloop ?_; first
           | ((refine c_loop (X := Nat × Option Addr × Nat × List (Nat × Int)) (fun y => y.1 ≤ 64 ∧ Gn T' l' y.2.2.2 ∧ y.2.2.2.length ≤ 64 * i + y.1) (fun y => [(0, .slice A0 D.length c0), (3, .pointer (some ⟨b, 0, none⟩)), (5, .pointer (some ⟨db, 0, none⟩)), (6, .slice y.2.1 y.2.2.2.length y.2.2.1), (7, .int .i64 i), (8, .slice E 64 e), (10, .int .i64 y.1)]) (fun y => own E e 26 2 64 (kc T (List.range 64)) :: own y.2.1 y.2.2.1 26 2 y.2.2.2.length (gcs y.2.2.2) :: cells b 73 (tq Tp' l') :: cells db 43 (dt nb l') :: cells nb 40 (dnn T') :: (nw ++ fr)) (fun y => 64 - y.1) (0, Ag, cg, G) ⟨Nat.zero_le _, hG1, hGl⟩ ⟨rfl, rfl, rfl, rfl, rfl, rfl, rfl, trivial⟩ (fun w h => h) (fun y hy => ?_); obtain ⟨k, Ah, ch, H⟩ := y; obtain ⟨hk0, hH, hHl⟩ := hy; dsimp only at hk0 hH hHl ⊢; refine hold ?_)))
           | refine c_seq ?_
           | refine c_block ?_
           | refine c_region ?_))
           | (refine z_isnil ?_; first
           | refine z_list ?_)
           | (refine z_isop ?_; first
           | refine o_assign rfl (by decide) ?_))
          refine Hold.go ?_
          by_cases hk : k < 64
          · have hg0 := hT.g0 k hk
            have hgl := hT.gl k hk
            by_cases hth : (T k).g ≠ 0 ∧ (T' k).g = (T k).g
            · obtain ⟨hg, hgg⟩ := hth
              have hg' : (T' k).g ≠ 0 := by rw [hgg]; exact hg
              have hiN : isN T' k (T k).g := by unfold isN; exact ⟨by omega, by omega, hg, hgg⟩
              have hall : ∀ (i : Nat) (fr' : List Chunk), i < 64 → (nw ++ fr).Sublist fr' → Rds fr' (Tp' i).A (rc (rws (T' i).s)) := fun i fr' hi h => by
                rw [(hs' i).2.2]
                exact (hal' i hi).sub h
              have hsn := sn_dl hT' (a := (k : Int)) (by omega) 64 (Nat.le_refl _)
              have hkle := kd_le T' k 64
              have hpp : ∃ (pa pg : Int) (okp : Bool) (B : Option Addr) (cb : Nat) (sb : Nat → Bool) (isb : Bool), (∀ fr', Rds fr' (some ⟨b, 0, none⟩) (tq Tp' l') → Does Try.prog 13 [.pointer (some ⟨b, 0, none⟩), cap k (T k).g] fr' (fun _ : Unit => True) (fun _ => .tuple #[cap pa pg, .bool okp]) (fun _ => fr')) ∧ (∀ fr', Rds fr' (some ⟨b, 0, none⟩) (tq Tp' l') → Does Try.prog 12 [.pointer (some ⟨b, 0, none⟩), cap pa pg] fr' (fun _ : Unit => True) (fun _ => .tuple #[.agg #[.slice B (rws sb).length cb], .bool isb]) (fun _ => fr')) ∧ (okp = true → (al (layS 1 (T' k).s sb) 1024).length = 0 ∧ ∀ fr', (nw ++ fr).Sublist fr' → Rds fr' B (rc (rws sb))) := by
                by_cases hp : 0 ≤ (T' k).p
                · obtain ⟨q, hqe⟩ : ∃ q : Nat, (T' k).p = (q : Int) := ⟨(T' k).p.toNat, by omega⟩
                  obtain ⟨hq1, hq2, _⟩ := hT'.up hk hg' hqe
                  have hiQ : isN T' q (T' q).g := by unfold isN; exact ⟨by omega, by omega, hq2, rfl⟩
                  refine ⟨q, (T' q).g, true, (Tp' q).A, (Tp' q).c, (T' q).s, true, fun fr' h => ?_, fun fr' h => set_sm hs' l' b fr' h hiQ, fun _ => ⟨?_, fun fr' h => hall q fr' hq1 h⟩⟩
                  · have h2 := par_yes hs' l' b fr' h hiN hp (by omega)
                    rw [hqe, Int.toNat_natCast] at h2
                    exact h2
                  · have h2 := in_par hT' hk hg' hp
                    rw [hqe, Int.toNat_natCast] at h2
                    exact h2
                · refine ⟨0, 0, false, none, 0, emp, false, fun fr' h => par_top hs' l' b fr' h hiN (by omega), fun fr' h => ?_, fun e => by cases e⟩
                  rw [rws_emp]
                  exact set_no Tp' l' 0 0 b fr' h (fun e => (isN_in e).2.2.1 rfl)
              obtain ⟨pa, pg, okp, B, cb, sb, isb, hpar, hset, hwi⟩ := hpp
              repeat' (first
               | ((refine z_isdst 76 ?_; refine o_indexsn tabOk (hneW (by omega)) rfl rfl rfl rfl (by omega) (by omega) (by decide) ?_))
               | ((refine z_isdst 77 ?_; refine o_loadsw tabOk (own_rds 0 rfl) rfl rfl rfl (es := [.int .i64 k, .int .u64 (T k).g]) rfl (Nat.succ_pos _) (was_el hk) (by decide) ?_))
               | ((refine z_isdst 78 ?_; refine o_callr rfl Try.func12 rfl rfl rfl (set_sm hs' l' b _ (cells_rds 2 rfl) hiN) (by decide) ?_))
               | ((refine z_isdst 102 ?_; refine o_indexsn tabOk (hneW (by omega)) rfl rfl rfl rfl (by omega) (by omega) (by decide) ?_))
               | ((refine z_isdst 103 ?_; refine o_loadsw tabOk (own_rds 1 rfl) rfl rfl rfl (es := [.int .i64 k, .int .u64 (T k).g]) rfl (Nat.succ_pos _) (was_el hk) (by decide) ?_))
               | ((refine z_isdst 104 ?_; refine o_callr rfl Try.func13 rfl rfl rfl (hpar _ (cells_rds 3 rfl)) (by decide) ?_))
               | ((refine z_isdst 111 ?_; refine o_indexsn tabOk (hneW (by omega)) rfl rfl rfl rfl (by omega) (by omega) (by decide) ?_))
               | ((refine z_isdst 112 ?_; refine o_loadsw tabOk (own_rds 2 rfl) rfl rfl rfl (es := [.int .i64 k, .int .u64 (T k).g]) rfl (Nat.succ_pos _) (was_el hk) (by decide) ?_))
               | ((refine z_isdst 113 ?_; refine o_callr rfl Try.func12 rfl rfl rfl (set_sm hs' l' b _ (cells_rds 4 rfl) hiN) (by decide) ?_))
               | ((refine z_isdst 119 ?_; refine o_callr rfl Try.func12 rfl rfl rfl (hset _ (cells_rds 5 rfl)) (by decide) ?_))
               | ((refine z_isdst 13 ?_; refine o_alloca (e := 26) (vs := [.int .i64 0, .int .u64 0]) rfl (by kernel_rfl) (by decide) fun g13 => ?_))
               | ((refine z_isdst 11 ?_; refine o_alloca (e := 31) (vs := [.slice none 0 0]) rfl (by kernel_rfl) (by decide) fun g11 => ?_))
               | ((refine z_isdst 15 ?_; refine o_alloca (e := 31) (vs := [.slice none 0 0]) rfl (by kernel_rfl) (by decide) fun g15 => ?_))
               | ((refine z_isdst 17 ?_; refine o_alloca (e := 31) (vs := [.slice none 0 0]) rfl (by kernel_rfl) (by decide) fun g17 => ?_))
               | (refine s_is ?_; first
               | (refine c_join (x := .seq (.region 22 _ _) _) (X := Unit) (fun _ => True) (fun _ => [(0, .slice A0 D.length c0), (3, .pointer (some ⟨b, 0, none⟩)), (5, .pointer (some ⟨db, 0, none⟩)), (6, .slice Ah H.length ch), (7, .int .i64 i), (8, .slice E 64 e), (10, .int .i64 k)]) (fun _ => own E e 26 2 64 (kc T (List.range 64)) :: own Ah ch 26 2 H.length (gcs H) :: cells b 73 (tq Tp' l') :: cells db 43 (dt nb l') :: cells nb 40 (dnn T') :: (nw ++ fr)) (hold ?_) (fun y hy => hold ?_))
               | (refine s_isw ?_; first
               | refine c_seq ?_
               | refine c_block ?_
               | refine c_region ?_
               | refine c_skip ?_
               | (refine s_iscond ?_; first
               | (refine c_true rfl (by first | with_reducible rfl | with_reducible assumption | ((with_reducible refine decide_eq_true ?_); first | with_reducible rfl | with_reducible assumption | omega)) ?_)
               | (refine c_false rfl (by first | with_reducible rfl | with_reducible assumption | ((with_reducible refine decide_eq_false ?_); first | with_reducible assumption | omega)) ?_))))
               | (refine z_isg1 ?_; first
               | (refine z_skip1 (by decide) rfl rfl (by first | (simp only [Bool.not_eq_false', decide_eq_true_eq]; omega) | (with_reducible assumption) | (rw [decide_eq_false] <;> (first | omega | with_reducible rfl)) | (rw [decide_eq_true] <;> (first | omega | with_reducible rfl)) | (simp; done) | (simp; omega)) ?_))
               | (refine z_isnil ?_; first
               | refine z_list ?_)
               | (refine z_isop ?_; first
               | (refine z_isbin ?_; first
               | (refine z_isb .lss ?_; first
               | refine o_lt rfl rfl (by decide) ?_))
               | (refine z_isload ?_; first
               | (refine z_ldw tabOk rfl rfl ?_; first
               | (refine o_loadwm tabOk rfl rfl rfl (by repeat' (first | exact List.mem_cons_self | apply List.mem_cons_of_mem)) (by first | rfl | exact dt_len _ _ | exact dnn_len _ | exact dcs_len _ | exact bs_len _ | (simp only [dnn_len, dcs_len, bs_len]; done) | rfl) (by decide) ?_)))
               | (refine z_isstore ?_; first
               | (refine z_stw rfl ?_; first
               | ((refine z_sti 0 rfl rfl ?_; refine o_storeb0 rfl tabOk rfl rfl rfl (by first | rfl | exact dt_len _ _ | exact dnn_len _ | exact dcs_len _ | exact bs_len _ | (simp only [dnn_len, dcs_len, bs_len]; done) | rfl) (by first | rfl | exact dnn_one _ | exact dcs_one _ | exact dt_one _ _ | exact bs_one _ | rfl) (by first | rfl | exact dt_len _ _ | exact dnn_len _ | exact dcs_len _ | exact bs_len _ | (simp only [dnn_len, dcs_len, bs_len]; done) | rfl) ?_))))
               | (refine z_ispick ?_; first
               | (refine o_pick0 rfl (by first | (simp only [Bool.not_eq_false', decide_eq_true_eq]; omega) | (with_reducible assumption) | (rw [decide_eq_false] <;> (first | omega | with_reducible rfl)) | (rw [decide_eq_true] <;> (first | omega | with_reducible rfl)) | (simp; done) | (simp; omega)) rfl (by decide) ?_))
               | refine o_move rfl (by decide) ?_
               | refine o_assign rfl (by decide) ?_
               | refine o_extract rfl rfl (by decide) ?_
               | refine o_not rfl (by decide) ?_))
              · refine Hold.go ?_
                cases okp with
                | true =>
                  obtain ⟨hw1, hw2⟩ := hwi rfl
                  repeat' (first
                   | ((refine z_isdst 126 ?_; refine o_callr rfl Try.func14 rfl rfl rfl (within_t (T' k).s sb hw1 _ _ _ _ _ (hall k _ hk (List.sublist_append_right [_, _, _, _, _, _, _, _, _] _)) (hw2 _ (List.sublist_append_right [_, _, _, _, _, _, _, _, _] _))) (by decide) ?_))
                   | (refine s_is ?_; first
                   | (refine s_ismeet ?_; first
                   | exact c_meet () trivial ⟨rfl, rfl, rfl, rfl, rfl, rfl, rfl, trivial⟩ (fun w h => ((h.sel 6 [4, 5, 0, 1, 2, 3] (by decide)).mask [true, true, false, false, false, false])))
                   | (refine s_isw ?_; first
                   | refine c_seq ?_
                   | refine c_region ?_
                   | refine c_skip ?_
                   | (refine s_iscond ?_; first
                   | (refine c_false rfl (by first | (simp only [Bool.not_eq_false', decide_eq_true_eq]; omega) | (with_reducible assumption) | (rw [decide_eq_false] <;> (first | omega | with_reducible rfl)) | (rw [decide_eq_true] <;> (first | omega | with_reducible rfl)) | (simp; done) | (simp; omega)) ?_))))
                   | (refine z_isg1 ?_; first
                   | (refine z_want1 rfl rfl (by first | with_reducible rfl | with_reducible assumption | ((with_reducible refine decide_eq_true ?_); first | with_reducible rfl | with_reducible assumption | omega)) ?_))
                   | (refine z_isnil ?_; first
                   | refine z_list ?_)
                   | (refine z_isop ?_; first
                   | (refine z_isload ?_; first
                   | (refine z_ldw tabOk rfl rfl ?_; first
                   | (refine o_loadwm tabOk rfl rfl rfl (by repeat' (first | exact List.mem_cons_self | apply List.mem_cons_of_mem)) (by first | rfl | exact dt_len _ _ | exact dnn_len _ | exact dcs_len _ | exact bs_len _ | (simp only [dnn_len, dcs_len, bs_len]; done) | rfl) (by decide) ?_)))
                   | (refine z_ispick ?_; first
                   | (refine o_pick1 rfl (by first | with_reducible rfl | with_reducible assumption | ((with_reducible refine decide_eq_true ?_); first | with_reducible rfl | with_reducible assumption | omega)) rfl (by decide) ?_))
                   | refine o_move rfl (by decide) ?_
                   | refine o_not rfl (by decide) ?_))
                | false =>
                  repeat' (first
                   | (refine s_is ?_; first
                   | (refine s_ismeet ?_; first
                   | exact c_meet () trivial ⟨rfl, rfl, rfl, rfl, rfl, rfl, rfl, trivial⟩ (fun w h => ((h.sel 6 [4, 5, 0, 1, 2, 3] (by decide)).mask [true, true, false, false, false, false])))
                   | (refine s_isw ?_; first
                   | refine c_seq ?_
                   | refine c_region ?_
                   | refine c_skip ?_
                   | (refine s_iscond ?_; first
                   | (refine c_false rfl (by first | with_reducible rfl | with_reducible assumption | ((with_reducible refine decide_eq_false ?_); first | with_reducible assumption | omega)) ?_))))
                   | (refine z_isg1 ?_; first
                   | (refine z_skip1 (by decide) rfl rfl (by first | with_reducible rfl | with_reducible assumption | ((with_reducible refine decide_eq_false ?_); first | with_reducible assumption | omega)) ?_))
                   | (refine z_isnil ?_; first
                   | refine z_list ?_)
                   | (refine z_isop ?_; first
                   | (refine z_ispick ?_; first
                   | (refine o_pick0 rfl (by first | with_reducible rfl | with_reducible assumption | ((with_reducible refine decide_eq_false ?_); first | with_reducible assumption | omega)) rfl (by decide) ?_))
                   | refine o_move rfl (by decide) ?_))
              · refine Hold.go ?_
                repeat' (first
                 | ((refine z_isdst 132 ?_; refine o_indexsn tabOk (hneW (by omega)) rfl rfl rfl rfl (by omega) (by omega) (by decide) ?_))
                 | ((refine z_isdst 133 ?_; refine o_loadsw tabOk (own_rds 0 rfl) rfl rfl rfl (es := [.int .i64 k, .int .u64 (T k).g]) rfl (Nat.succ_pos _) (was_el hk) (by decide) ?_))
                 | ((refine z_isdst 134 ?_; refine o_calla Try.func15 rfl rfl rfl (kids_sm hs' l' b _ (cells_rds 2 rfl) hiN) (by decide) fun x _ => ?_))
                 | (refine s_is ?_; first
                 | (refine s_isw ?_; first
                 | (refine s_isloop ?_; first
                 | ((refine c_loop (X := Nat) (fun j => j ≤ (kd' T' k 64).length) (fun j => [(0, .slice A0 D.length c0), (3, .pointer (some ⟨b, 0, none⟩)), (5, .pointer (some ⟨db, 0, none⟩)), (6, .slice Ah H.length ch), (7, .int .i64 i), (8, .slice E 64 e), (10, .int .i64 k), (19, .int .i64 (sn T' (kd' T' k 64) j)), (20, .slice x.1 (kd' T' k 64).length x.2), (21, .int .i64 j)]) (fun _ => own x.1 x.2 26 2 (kd' T' k 64).length (kc T' (kd' T' k 64)) :: own E e 26 2 64 (kc T (List.range 64)) :: own Ah ch 26 2 H.length (gcs H) :: cells b 73 (tq Tp' l') :: cells db 43 (dt nb l') :: cells nb 40 (dnn T') :: (nw ++ fr)) (fun j => (kd' T' k 64).length - j) 0 (Nat.zero_le _) ⟨rfl, rfl, rfl, rfl, rfl, rfl, rfl, (by rw [sn_zero]; rfl), rfl, rfl, trivial⟩ (fun w h => h) (fun j hj => ?_); refine c_own2 0 rfl fun hkcK hneK => hold ?_)))
                 | refine c_seq ?_
                 | refine c_block ?_
                 | refine c_region ?_))
                 | (refine z_isnil ?_; first
                 | refine z_list ?_)
                 | (refine z_isop ?_; first
                 | refine o_move rfl (by decide) ?_
                 | refine o_assign rfl (by decide) ?_))
                refine Hold.go ?_
                have hsl := sn_le T' (kd' T' k 64) j
                by_cases hjl : j < (kd' T' k 64).length
                · obtain ⟨hx1, hx2, hx3⟩ := kd_at hjl
                  have hel := kc_el (T := T') hjl
                  have hss := sn_succ T' (kd' T' k 64) j
                  generalize (kd' T' k 64).getD j 0 = y at *
                  have hiY : isN T' y (T' y).g := by unfold isN; exact ⟨by omega, by omega, hx2, rfl⟩
                  have hale := al_le (T' y).s 1024
                  repeat' (first
                   | ((refine z_isdst 145 ?_; refine o_indexsn tabOk (hneK (by omega)) rfl rfl rfl rfl (by omega) (by omega) (by decide) ?_))
                   | ((refine z_isdst 146 ?_; refine o_loadsw tabOk (own_rds 0 rfl) rfl rfl rfl (es := [.int .i64 y, .int .u64 (T' y).g]) rfl (Nat.succ_pos _) hel (by decide) ?_))
                   | ((refine z_isdst 147 ?_; refine o_callr rfl Try.func12 rfl rfl rfl (set_sm hs' l' b _ (cells_rds 3 rfl) hiY) (by decide) ?_))
                   | ((refine z_isdst 152 ?_; refine o_callr rfl Try.func16 rfl rfl rfl (slen_s (T' y).s _ _ _ (hall y _ hx1 (List.sublist_append_right [_, _, _, _, _, _, _] _))) (by decide) ?_))
                   | ((refine z_isdst 22 ?_; refine o_alloca (e := 31) (vs := [.slice none 0 0]) rfl (by kernel_rfl) (by decide) fun g22 => ?_))
                   | (refine s_is ?_; first
                   | (refine s_isagain ?_; first
                   | (exact c_again (j + 1) (by omega) (by omega) ⟨rfl, rfl, rfl, rfl, rfl, rfl, rfl, (by rw [hss]; exact congrArg some (congrArg (Value.int .i64) (by omega))), rfl, rfl, trivial⟩ (fun w h => ((h.sel 2 [1, 0] (by decide)).mask [true, false]))))
                   | (refine s_isw ?_; first
                   | refine c_seq ?_
                   | refine c_block ?_
                   | refine c_region ?_
                   | refine c_skip ?_
                   | (refine s_iscond ?_; first
                   | (refine c_true rfl (by first | with_reducible rfl | with_reducible assumption | ((with_reducible refine decide_eq_true ?_); first | with_reducible rfl | with_reducible assumption | omega)) ?_))))
                   | (refine z_isnil ?_; first
                   | refine z_list ?_)
                   | (refine z_isop ?_; first
                   | (refine z_isbin ?_; first
                   | (refine z_isb .add ?_; first
                   | refine o_add rfl rfl (by omega) (by omega) (by decide) ?_)
                   | (refine z_isb .lss ?_; first
                   | refine o_lt rfl rfl (by decide) ?_))
                   | (refine z_isload ?_; first
                   | (refine z_ldw tabOk rfl rfl ?_; first
                   | (refine o_loadwm tabOk rfl rfl rfl (by repeat' (first | exact List.mem_cons_self | apply List.mem_cons_of_mem)) (by first | rfl | exact dt_len _ _ | exact dnn_len _ | exact dcs_len _ | exact bs_len _ | (simp only [dnn_len, dcs_len, bs_len]; done) | rfl) (by decide) ?_)))
                   | (refine z_isstore ?_; first
                   | (refine z_stw rfl ?_; first
                   | ((refine z_sti 0 rfl rfl ?_; refine o_storeb0 rfl tabOk rfl rfl rfl (by first | rfl | exact dt_len _ _ | exact dnn_len _ | exact dcs_len _ | exact bs_len _ | (simp only [dnn_len, dcs_len, bs_len]; done) | rfl) (by first | rfl | exact dnn_one _ | exact dcs_one _ | exact dt_one _ _ | exact bs_one _ | rfl) (by first | rfl | exact dt_len _ _ | exact dnn_len _ | exact dcs_len _ | exact bs_len _ | (simp only [dnn_len, dcs_len, bs_len]; done) | rfl) ?_))))
                   | (refine z_isbi ?_; first
                   | refine o_len tabOk rfl rfl (by decide) ?_)
                   | refine o_move rfl (by decide) ?_
                   | refine o_assign rfl (by decide) ?_
                   | refine o_extract rfl rfl (by decide) ?_))
                · obtain rfl : j = (kd' T' k 64).length := by omega
                  rw [hsn]
                  repeat' (first
                   | ((refine z_isdst 157 ?_; refine o_indexsn tabOk (hneW (by omega)) rfl rfl rfl rfl (by omega) (by omega) (by decide) ?_))
                   | ((refine z_isdst 158 ?_; refine o_loadsw tabOk (own_rds 1 rfl) rfl rfl rfl (es := [.int .i64 k, .int .u64 (T k).g]) rfl (Nat.succ_pos _) (was_el hk) (by decide) ?_))
                   | ((refine z_isdst 159 ?_; refine o_calla Try.func17 rfl rfl rfl (lent_sm hs' l' b _ (cells_rds 3 rfl) (hal'.sub (List.sublist_append_right [_, _, _, _, _, _] _)) hiN) (by decide) fun z _ => ?_))
                   | ((refine z_isdst 160 ?_; refine o_callr rfl Try.func16 rfl rfl rfl (slen_s (dl T' k 64) _ _ _ (own_rds 0 rfl)) (by decide) ?_))
                   | (refine s_is ?_; first
                   | (refine s_isagain ?_; first
                   | (exact c_again (k + 1, Ah, ch, H) ⟨(by dsimp only; omega), hH, (by dsimp only; omega)⟩ (by dsimp only; omega) ⟨rfl, rfl, rfl, rfl, rfl, rfl, rfl, trivial⟩ (fun w h => ((h.sel 4 [2, 3, 0, 1] (by decide)).mask [true, true, false, false]))))
                   | (refine s_isw ?_; first
                   | refine c_seq ?_
                   | refine c_region ?_
                   | refine c_skip ?_
                   | refine c_exit ?_
                   | (refine s_iscond ?_; first
                   | (refine c_false rfl (by first | with_reducible rfl | with_reducible assumption | ((with_reducible refine decide_eq_false ?_); first | with_reducible assumption | omega)) ?_))))
                   | (refine z_isnil ?_; first
                   | refine z_list ?_)
                   | (refine z_isop ?_; first
                   | (refine z_isbin ?_; first
                   | (refine z_isb .add ?_; first
                   | refine o_add rfl rfl (by omega) (by omega) (by decide) ?_)
                   | (refine z_isb .neq ?_; first
                   | refine o_ne rfl rfl (by decide) ?_)
                   | (refine z_isb .lss ?_; first
                   | refine o_lt rfl rfl (by decide) ?_))
                   | (refine z_isbi ?_; first
                   | refine o_len tabOk rfl rfl (by decide) ?_)
                   | refine o_move rfl (by decide) ?_
                   | refine o_assign rfl (by decide) ?_))
            · have hip : ¬ isN Tp' k (T k).g := fun e => hth ⟨(isN_at (hs'.symm.isN e)).2.1 ▸ (isN_at (hs'.symm.isN e)).2.2, (isN_at (hs'.symm.isN e)).2.1⟩
              have hi00 : ¬ isN Tp' 0 0 := fun e => (isN_in e).2.2.1 rfl
              repeat' (first
               | ((refine z_isdst 76 ?_; refine o_indexsn tabOk (hneW (by omega)) rfl rfl rfl rfl (by omega) (by omega) (by decide) ?_))
               | ((refine z_isdst 77 ?_; refine o_loadsw tabOk (own_rds 0 rfl) rfl rfl rfl (es := [.int .i64 k, .int .u64 (T k).g]) rfl (Nat.succ_pos _) (was_el hk) (by decide) ?_))
               | ((refine z_isdst 78 ?_; refine o_callr rfl Try.func12 rfl rfl rfl (set_no Tp' l' k (T k).g b _ (cells_rds 2 rfl) hip) (by decide) ?_))
               | ((refine z_isdst 11 ?_; refine o_alloca (e := 31) (vs := [.slice none 0 0]) rfl (by kernel_rfl) (by decide) fun g11 => ?_))
               | (refine s_is ?_; first
               | (refine c_join (x := .seq (.region 17 _ _) _) (X := Option Addr × Nat × List (Nat × Int)) (fun y => Gn T' l' y.2.2 ∧ y.2.2.length ≤ 64 * i + (k + 1)) (fun y => [(0, .slice A0 D.length c0), (3, .pointer (some ⟨b, 0, none⟩)), (5, .pointer (some ⟨db, 0, none⟩)), (6, .slice y.1 y.2.2.length y.2.1), (7, .int .i64 i), (8, .slice E 64 e), (10, .int .i64 k)]) (fun y => own E e 26 2 64 (kc T (List.range 64)) :: own y.1 y.2.1 26 2 y.2.2.length (gcs y.2.2) :: cells b 73 (tq Tp' l') :: cells db 43 (dt nb l') :: cells nb 40 (dnn T') :: (nw ++ fr)) (hold ?_) (fun y hy => hold ?_))
               | (refine s_isw ?_; first
               | refine c_seq ?_
               | refine c_block ?_
               | refine c_region ?_
               | refine c_skip ?_
               | (refine s_iscond ?_; first
               | (refine c_true rfl (by first | with_reducible rfl | with_reducible assumption | ((with_reducible refine decide_eq_true ?_); first | with_reducible rfl | with_reducible assumption | omega)) ?_))))
               | (refine z_isnil ?_; first
               | refine z_list ?_)
               | (refine z_isop ?_; first
               | (refine z_isbin ?_; first
               | (refine z_isb .lss ?_; first
               | refine o_lt rfl rfl (by decide) ?_))
               | (refine z_isstore ?_; first
               | (refine z_stw rfl ?_; first
               | ((refine z_sti 0 rfl rfl ?_; refine o_storeb0 rfl tabOk rfl rfl rfl (by first | rfl | exact dt_len _ _ | exact dnn_len _ | exact dcs_len _ | exact bs_len _ | (simp only [dnn_len, dcs_len, bs_len]; done) | rfl) (by first | rfl | exact dnn_one _ | exact dcs_one _ | exact dt_one _ _ | exact bs_one _ | rfl) (by first | rfl | exact dt_len _ _ | exact dnn_len _ | exact dcs_len _ | exact bs_len _ | (simp only [dnn_len, dcs_len, bs_len]; done) | rfl) ?_))))
               | refine o_move rfl (by decide) ?_
               | refine o_assign rfl (by decide) ?_
               | refine o_extract rfl rfl (by decide) ?_))
              · refine Hold.go ?_
                by_cases hg : (T k).g = 0
                · skip
                  repeat' (first
                   | ((refine z_isdst 86 ?_; refine o_indexsn tabOk (hneW (by omega)) rfl rfl rfl rfl (by omega) (by omega) (by decide) ?_))
                   | ((refine z_isdst 87 ?_; refine o_fields (hneW (by omega)) tabOk rfl rfl rfl rfl rfl (by decide) ?_))
                   | (refine s_is ?_; first
                   | (refine s_ismeet ?_; first
                   | (exact c_meet (Ah, ch, H) ⟨hH, (by dsimp only; omega)⟩ ⟨rfl, rfl, rfl, rfl, rfl, rfl, rfl, trivial⟩ (fun w h => ((h.sel 3 [1, 2, 0] (by decide)).mask [true, true, false]))))
                   | (refine s_isw ?_; first
                   | refine c_seq ?_
                   | refine c_region ?_
                   | refine c_skip ?_
                   | (refine s_iscond ?_; first
                   | (refine c_false rfl (by first | with_reducible rfl | with_reducible assumption | ((with_reducible refine decide_eq_false ?_); first | with_reducible assumption | omega)) ?_))))
                   | (refine z_isg1 ?_; first
                   | (refine z_want1 rfl rfl (by first | (simp only [Bool.not_eq_true', decide_eq_false_iff_not]; omega) | (with_reducible assumption) | (rw [decide_eq_false] <;> (first | omega | with_reducible rfl)) | (rw [decide_eq_true] <;> (first | omega | with_reducible rfl)) | (simp; done) | (simp; omega)) ?_))
                   | (refine z_isnil ?_; first
                   | refine z_list ?_)
                   | (refine z_isop ?_; first
                   | (refine z_isbin ?_; first
                   | (refine z_isb .gtr ?_; first
                   | refine o_gt rfl rfl (by decide) ?_))
                   | (refine z_isload ?_; first
                   | (refine z_ld1 tabOk rfl rfl ?_; first
                   | refine o_loads tabOk (by first | exact own_rds 0 rfl | exact own_rds 1 rfl | exact own_rds 2 rfl | exact own_rds 3 rfl | exact cells_rds 0 rfl | exact cells_rds 1 rfl | exact cells_rds 2 rfl | exact cells_rds 3 rfl | exact cells_rds 4 rfl | exact cells_rds 5 rfl | exact cells_rds 6 rfl | assumption) rfl rfl rfl (by first | exact dt_l _ _ | exact dt_n _ _ | exact dnn_at _ (by omega) (by omega) (dcs_g _) | exact dnn_at _ (by omega) (by omega) (dcs_p _) | exact was_g (by omega) | rfl | rfl) (by decide) ?_))
                   | (refine z_ispick ?_; first
                   | (refine o_pick1 rfl (by first | (simp only [Bool.not_eq_true', decide_eq_false_iff_not]; omega) | (with_reducible assumption) | (rw [decide_eq_false] <;> (first | omega | with_reducible rfl)) | (rw [decide_eq_true] <;> (first | omega | with_reducible rfl)) | (simp; done) | (simp; omega)) rfl (by decide) ?_))
                   | refine o_move rfl (by decide) ?_
                   | refine o_not rfl (by decide) ?_))
                · have hne2 : (T' k).g ≠ (T k).g := fun e => hth ⟨hg, e⟩
                  have hadd := gcs_add H k (T k).g
                  repeat' (first
                   | ((refine z_isdst 86 ?_; refine o_indexsn tabOk (hneW (by omega)) rfl rfl rfl rfl (by omega) (by omega) (by decide) ?_))
                   | ((refine z_isdst 87 ?_; refine o_fields (hneW (by omega)) tabOk rfl rfl rfl rfl rfl (by decide) ?_))
                   | ((refine z_isdst 94 ?_; refine o_indexsn tabOk (hneW (by omega)) rfl rfl rfl rfl (by omega) (by omega) (by decide) ?_))
                   | ((refine z_isdst 95 ?_; refine o_loadsw tabOk (own_rds 1 rfl) rfl rfl rfl (es := [.int .i64 k, .int .u64 (T k).g]) rfl (Nat.succ_pos _) (was_el hk) (by decide) ?_))
                   | (refine s_is ?_; first
                   | (refine s_ismeet ?_; first
                   | (exact c_meet (A', c', H ++ [(k, (T k).g)]) ⟨gn_add hH hk hg (by omega) hne2, (by dsimp only; rw [List.length_append, List.length_singleton]; omega)⟩ ⟨rfl, rfl, rfl, (by dsimp only; rw [List.length_append]; rfl), rfl, rfl, rfl, trivial⟩ (fun w h => by dsimp only; rw [hadd, List.length_append]; simp only [fronts, moveF, selF, sel1, nth, List.drop_succ_cons, List.drop_zero, List.eraseIdx_cons_zero, List.eraseIdx_cons_succ, maskL, List.cons_append, List.nil_append, List.append_eq, List.set_cons_zero, List.set_cons_succ] at h; exact ((h.sel 5 [3, 0, 4, 1, 2] (by decide)).mask [true, true, true, false, false]))))
                   | (refine s_isw ?_; first
                   | refine c_seq ?_
                   | refine c_region ?_
                   | (refine s_iscond ?_; first
                   | (refine c_true rfl (by first | with_reducible rfl | with_reducible assumption | ((with_reducible refine decide_eq_true ?_); first | with_reducible rfl | with_reducible assumption | omega)) ?_))))
                   | (refine z_isg1 ?_; first
                   | (refine z_want1 rfl rfl (by first | (simp only [Bool.not_eq_true', decide_eq_false_iff_not]; omega) | (with_reducible assumption) | (rw [decide_eq_false] <;> (first | omega | with_reducible rfl)) | (rw [decide_eq_true] <;> (first | omega | with_reducible rfl)) | (simp; done) | (simp; omega)) ?_))
                   | (refine z_isnil ?_; first
                   | refine z_list ?_)
                   | (refine z_isop ?_; first
                   | (refine o_makew (vs := [.int .i64 k, .int .u64 (T k).g]) rfl tabOk zeroOk rfl rfl rfl rfl rfl rfl rfl (by decide) fun gn => ?_)
                   | (refine z_isbin ?_; first
                   | (refine z_isb .gtr ?_; first
                   | refine o_gt rfl rfl (by decide) ?_))
                   | (refine z_isload ?_; first
                   | (refine z_ld1 tabOk rfl rfl ?_; first
                   | refine o_loads tabOk (by first | exact own_rds 0 rfl | exact own_rds 1 rfl | exact own_rds 2 rfl | exact own_rds 3 rfl | exact cells_rds 0 rfl | exact cells_rds 1 rfl | exact cells_rds 2 rfl | exact cells_rds 3 rfl | exact cells_rds 4 rfl | exact cells_rds 5 rfl | exact cells_rds 6 rfl | assumption) rfl rfl rfl (by first | exact dt_l _ _ | exact dt_n _ _ | exact dnn_at _ (by omega) (by omega) (dcs_g _) | exact dnn_at _ (by omega) (by omega) (dcs_p _) | exact was_g (by omega) | rfl | rfl) (by decide) ?_))
                   | (refine z_ispick ?_; first
                   | (refine o_pick1 rfl (by first | (simp only [Bool.not_eq_true', decide_eq_false_iff_not]; omega) | (with_reducible assumption) | (rw [decide_eq_false] <;> (first | omega | with_reducible rfl)) | (rw [decide_eq_true] <;> (first | omega | with_reducible rfl)) | (simp; done) | (simp; omega)) rfl (by decide) ?_))
                   | (refine z_isbi ?_; first
                   | (refine z_front rfl 3 rfl ?_; refine o_append rfl tabOk zeroOk rfl rfl rfl rfl rfl rfl (by first | exact own_rds 0 rfl | exact own_rds 1 rfl | exact own_rds 2 rfl | exact own_rds 3 rfl | exact cells_rds 0 rfl | exact cells_rds 1 rfl | exact cells_rds 2 rfl | exact cells_rds 3 rfl | exact cells_rds 4 rfl | exact cells_rds 5 rfl | exact cells_rds 6 rfl | assumption) (by first | rfl | rfl | (simp; done)) (by first | rfl | rfl | (simp; done)) (by omega) (by omega) (by decide) fun A' c' => ?_))
                   | refine o_move rfl (by decide) ?_
                   | refine o_assign rfl (by decide) ?_
                   | refine o_not rfl (by decide) ?_))
              · refine Hold.go ?_
                obtain ⟨Ai, ci, I⟩ := y
                obtain ⟨hI, hIl⟩ := hy
                dsimp only at hI hIl ⊢
                repeat' (first
                 | ((refine z_isdst 102 ?_; refine o_indexsn tabOk (hneW (by omega)) rfl rfl rfl rfl (by omega) (by omega) (by decide) ?_))
                 | ((refine z_isdst 103 ?_; refine o_loadsw tabOk (own_rds 0 rfl) rfl rfl rfl (es := [.int .i64 k, .int .u64 (T k).g]) rfl (Nat.succ_pos _) (was_el hk) (by decide) ?_))
                 | ((refine z_isdst 104 ?_; refine o_callr rfl Try.func13 rfl rfl rfl (parent_no Tp' l' k (T k).g b _ (cells_rds 2 rfl) hip) (by decide) ?_))
                 | ((refine z_isdst 111 ?_; refine o_indexsn tabOk (hneW (by omega)) rfl rfl rfl rfl (by omega) (by omega) (by decide) ?_))
                 | ((refine z_isdst 112 ?_; refine o_loadsw tabOk (own_rds 1 rfl) rfl rfl rfl (es := [.int .i64 k, .int .u64 (T k).g]) rfl (Nat.succ_pos _) (was_el hk) (by decide) ?_))
                 | ((refine z_isdst 113 ?_; refine o_callr rfl Try.func12 rfl rfl rfl (set_no Tp' l' k (T k).g b _ (cells_rds 3 rfl) hip) (by decide) ?_))
                 | ((refine z_isdst 119 ?_; refine o_callr rfl Try.func12 rfl rfl rfl (set_no Tp' l' 0 0 b _ (cells_rds 4 rfl) hi00) (by decide) ?_))
                 | ((refine z_isdst 132 ?_; refine o_indexsn tabOk (hneW (by omega)) rfl rfl rfl rfl (by omega) (by omega) (by decide) ?_))
                 | ((refine z_isdst 133 ?_; refine o_loadsw tabOk (own_rds 3 rfl) rfl rfl rfl (es := [.int .i64 k, .int .u64 (T k).g]) rfl (Nat.succ_pos _) (was_el hk) (by decide) ?_))
                 | ((refine z_isdst 134 ?_; refine o_callr rfl Try.func15 rfl rfl rfl (kids_no Tp' l' k (T k).g b _ (cells_rds 5 rfl) hip) (by decide) ?_))
                 | ((refine z_isdst 157 ?_; refine o_indexsn tabOk (hneW (by omega)) rfl rfl rfl rfl (by omega) (by omega) (by decide) ?_))
                 | ((refine z_isdst 158 ?_; refine o_loadsw tabOk (own_rds 0 rfl) rfl rfl rfl (es := [.int .i64 k, .int .u64 (T k).g]) rfl (Nat.succ_pos _) (was_el hk) (by decide) ?_))
                 | ((refine z_isdst 159 ?_; refine o_callr rfl Try.func17 rfl rfl rfl (lent_no Tp' l' k (T k).g b _ (cells_rds 2 rfl) hip) (by decide) ?_))
                 | ((refine z_isdst 160 ?_; refine o_fn rfl Try.func16 rfl rfl rfl slen_nil (by decide) ?_))
                 | ((refine z_isdst 13 ?_; refine o_alloca (e := 26) (vs := [.int .i64 0, .int .u64 0]) rfl (by kernel_rfl) (by decide) fun g13 => ?_))
                 | ((refine z_isdst 15 ?_; refine o_alloca (e := 31) (vs := [.slice none 0 0]) rfl (by kernel_rfl) (by decide) fun g15 => ?_))
                 | ((refine z_isdst 17 ?_; refine o_alloca (e := 31) (vs := [.slice none 0 0]) rfl (by kernel_rfl) (by decide) fun g17 => ?_))
                 | (refine s_is ?_; first
                 | (refine s_isagain ?_; first
                 | (exact c_again (k + 1, Ai, ci, I) ⟨(by dsimp only; omega), hI, hIl⟩ (by dsimp only; omega) ⟨rfl, rfl, rfl, rfl, rfl, rfl, rfl, trivial⟩ (fun w h => h)))
                 | (refine s_isw ?_; first
                 | (refine s_isloop ?_; first
                 | (refine c_loop (X := Unit) (fun _ => True) (fun _ => [(0, .slice A0 D.length c0), (3, .pointer (some ⟨b, 0, none⟩)), (5, .pointer (some ⟨db, 0, none⟩)), (6, .slice Ai I.length ci), (7, .int .i64 i), (8, .slice E 64 e), (10, .int .i64 k), (19, .int .i64 0), (20, .slice none 0 0), (21, .int .i64 0)]) (fun _ => own E e 26 2 64 (kc T (List.range 64)) :: own Ai ci 26 2 I.length (gcs I) :: cells b 73 (tq Tp' l') :: cells db 43 (dt nb l') :: cells nb 40 (dnn T') :: (nw ++ fr)) (fun _ => 0) () trivial ⟨rfl, rfl, rfl, rfl, rfl, rfl, rfl, rfl, rfl, rfl, trivial⟩ (fun w h => ((h.sel 5 [3, 4, 0, 1, 2] (by decide)).mask [true, true, false, false, false])) (fun y _ => ?_)))
                 | refine c_seq ?_
                 | refine c_block ?_
                 | refine c_region ?_
                 | refine c_skip ?_
                 | refine c_exit ?_
                 | (refine s_iscond ?_; first
                 | (refine c_false rfl (by first | with_reducible rfl | with_reducible assumption | ((with_reducible refine decide_eq_false ?_); first | with_reducible assumption | omega)) ?_))))
                 | (refine z_isg1 ?_; first
                 | (refine z_skip1 (by decide) rfl rfl (by first | with_reducible rfl | with_reducible assumption | ((with_reducible refine decide_eq_false ?_); first | with_reducible assumption | omega)) ?_))
                 | (refine z_isnil ?_; first
                 | refine z_list ?_)
                 | (refine z_isop ?_; first
                 | (refine z_isbin ?_; first
                 | (refine z_isb .add ?_; first
                 | refine o_add rfl rfl (by omega) (by omega) (by decide) ?_)
                 | (refine z_isb .neq ?_; first
                 | refine o_ne rfl rfl (by decide) ?_)
                 | (refine z_isb .lss ?_; first
                 | refine o_lt rfl rfl (by decide) ?_))
                 | (refine z_isload ?_; first
                 | (refine z_ldw tabOk rfl rfl ?_; first
                 | (refine o_loadwm tabOk rfl rfl rfl (by repeat' (first | exact List.mem_cons_self | apply List.mem_cons_of_mem)) (by first | rfl | exact dt_len _ _ | exact dnn_len _ | exact dcs_len _ | exact bs_len _ | (simp only [dnn_len, dcs_len, bs_len]; done) | rfl) (by decide) ?_)))
                 | (refine z_isstore ?_; first
                 | (refine z_stw rfl ?_; first
                 | ((refine z_sti 0 rfl rfl ?_; refine o_storeb0 rfl tabOk rfl rfl rfl (by first | rfl | exact dt_len _ _ | exact dnn_len _ | exact dcs_len _ | exact bs_len _ | (simp only [dnn_len, dcs_len, bs_len]; done) | rfl) (by first | rfl | exact dnn_one _ | exact dcs_one _ | exact dt_one _ _ | exact bs_one _ | rfl) (by first | rfl | exact dt_len _ _ | exact dnn_len _ | exact dcs_len _ | exact bs_len _ | (simp only [dnn_len, dcs_len, bs_len]; done) | rfl) ?_))))
                 | (refine z_ispick ?_; first
                 | (refine o_pick0 rfl (by first | with_reducible rfl | with_reducible assumption | ((with_reducible refine decide_eq_false ?_); first | with_reducible assumption | omega)) rfl (by decide) ?_))
                 | (refine z_isbi ?_; first
                 | refine o_len tabOk rfl rfl (by decide) ?_)
                 | refine o_move rfl (by decide) ?_
                 | refine o_assign rfl (by decide) ?_
                 | refine o_extract rfl rfl (by decide) ?_))
          · obtain rfl : k = 64 := by omega
            repeat' (first
             | (refine s_is ?_; first
             | (refine s_ismeet ?_; first
             | exact c_meet (Ah, ch, H) ⟨hH, hHl⟩ ⟨rfl, rfl, rfl, rfl, rfl, trivial⟩ (fun w h => h))
             | (refine s_isw ?_; first
             | refine c_seq ?_
             | refine c_region ?_
             | refine c_exit ?_
             | (refine s_iscond ?_; first
             | (refine c_false rfl (by first | with_reducible rfl | with_reducible assumption | ((with_reducible refine decide_eq_false ?_); first | with_reducible assumption | omega)) ?_))))
             | (refine z_isnil ?_; first
             | refine z_list ?_)
             | (refine z_isop ?_; first
             | (refine z_isbin ?_; first
             | (refine z_isb .lss ?_; first
             | refine o_lt rfl rfl (by decide) ?_))
             | refine o_move rfl (by decide) ?_))
        · refine Hold.go ?_
          obtain ⟨Ah, ch, H⟩ := y
          obtain ⟨hH, hHl⟩ := hy
          dsimp only at hH hHl ⊢
          refine c_own2 1 rfl fun hkcH hneH => ?_
          repeat' (first
           | (refine s_is ?_; first
           | (refine s_isw ?_; first
           | (refine s_isloop ?_; first
           | ((refine c_loop (X := Nat) (fun j => j ≤ H.length) (fun j => [(0, .slice A0 D.length c0), (3, .pointer (some ⟨b, 0, none⟩)), (5, .pointer (some ⟨db, 0, none⟩)), (6, .slice Ah H.length ch), (7, .int .i64 i), (24, .int .i64 j)]) (fun y => own E e 26 2 64 (kc T (List.range 64)) :: own Ah ch 26 2 H.length (gcs H) :: cells b 73 (tq Tp' l') :: cells db 43 (dt nb l') :: cells nb 40 (dnn T') :: (nw ++ fr)) (fun j => H.length - j) 0 (Nat.zero_le _) ⟨rfl, rfl, rfl, rfl, rfl, rfl, trivial⟩ (fun w h => h) (fun j hj => ?_); refine hold ?_)))
           | refine c_seq ?_
           | refine c_block ?_
           | refine c_region ?_))
           | (refine z_isnil ?_; first
           | refine z_list ?_)
           | (refine z_isop ?_; first
           | refine o_assign rfl (by decide) ?_))
          refine Hold.go ?_
          by_cases hjl : j < H.length
          · have hel := gcs_el hjl
            have hip : ¬ isN Tp' (H[j].1 : Nat) H[j].2 := fun e => gn_at hH hjl (hs'.symm.isN e)
            generalize H[j].1 = p at *
            generalize H[j].2 = g at *
            repeat' (first
             | ((refine z_isdst 173 ?_; refine o_indexsn tabOk (hneH (by omega)) rfl rfl rfl rfl (by omega) (by omega) (by decide) ?_))
             | ((refine z_isdst 174 ?_; refine o_loadsw tabOk (own_rds 1 rfl) rfl rfl rfl (es := [.int .i64 p, .int .u64 g]) rfl (Nat.succ_pos _) hel (by decide) ?_))
             | ((refine z_isdst 175 ?_; refine o_callr rfl Try.func12 rfl rfl rfl (set_no Tp' l' p g b _ (cells_rds 2 rfl) hip) (by decide) ?_))
             | ((refine z_isdst 25 ?_; refine o_alloca (e := 31) (vs := [.slice none 0 0]) rfl (by kernel_rfl) (by decide) fun g25 => ?_))
             | (refine s_is ?_; first
             | (refine s_isagain ?_; first
             | exact c_again (j + 1) (by omega) (by omega) ⟨rfl, rfl, rfl, rfl, rfl, rfl, trivial⟩ (fun w h => ((h.sel 3 [1, 2, 0] (by decide)).mask [true, true, false])))
             | (refine s_isw ?_; first
             | refine c_seq ?_
             | refine c_block ?_
             | refine c_region ?_
             | refine c_skip ?_
             | (refine s_iscond ?_; first
             | (refine c_true rfl (by first | with_reducible rfl | with_reducible assumption | ((with_reducible refine decide_eq_true ?_); first | with_reducible rfl | with_reducible assumption | omega)) ?_)
             | (refine c_false rfl (by first | with_reducible rfl | with_reducible assumption | ((with_reducible refine decide_eq_false ?_); first | with_reducible assumption | omega)) ?_))))
             | (refine z_isnil ?_; first
             | refine z_list ?_)
             | (refine z_isop ?_; first
             | (refine z_isbin ?_; first
             | (refine z_isb .add ?_; first
             | refine o_add rfl rfl (by omega) (by omega) (by decide) ?_)
             | (refine z_isb .lss ?_; first
             | refine o_lt rfl rfl (by decide) ?_))
             | (refine z_isstore ?_; first
             | (refine z_stw rfl ?_; first
             | ((refine z_sti 0 rfl rfl ?_; refine o_storeb0 rfl tabOk rfl rfl rfl (by first | rfl | exact dt_len _ _ | exact dnn_len _ | exact dcs_len _ | exact bs_len _ | (simp only [dnn_len, dcs_len, bs_len]; done) | rfl) (by first | rfl | exact dnn_one _ | exact dcs_one _ | exact dt_one _ _ | exact bs_one _ | rfl) (by first | rfl | exact dt_len _ _ | exact dnn_len _ | exact dcs_len _ | exact bs_len _ | (simp only [dnn_len, dcs_len, bs_len]; done) | rfl) ?_))))
             | (refine z_isbi ?_; first
             | refine o_len tabOk rfl rfl (by decide) ?_)
             | refine o_move rfl (by decide) ?_
             | refine o_assign rfl (by decide) ?_
             | refine o_extract rfl rfl (by decide) ?_))
          · obtain rfl : j = H.length := by omega
            repeat' (first
             | (refine s_is ?_; first
             | (refine s_isagain ?_; first
             | (exact c_again (i + 1, T', Tp', l', nw ++ fr, Ah, ch, H) ⟨(by dsimp only; omega), (by dsimp only; omega), hT', ⟨(by have := hst.1; dsimp only; omega), (by have := hst.2.1; dsimp only; omega)⟩, hs', hal', hsub.trans (List.sublist_append_right _ _), hH, (by dsimp only; omega)⟩ (by dsimp only; omega) ⟨rfl, rfl, rfl, rfl, rfl, trivial⟩ (fun w h => ((h.sel 2 [1, 0] (by decide)).mask [true, false]))))
             | (refine s_isw ?_; first
             | refine c_seq ?_
             | refine c_region ?_
             | refine c_exit ?_
             | (refine s_iscond ?_; first
             | (refine c_false rfl (by first | with_reducible rfl | with_reducible assumption | ((with_reducible refine decide_eq_false ?_); first | with_reducible assumption | omega)) ?_))))
             | (refine z_isnil ?_; first
             | refine z_list ?_)
             | (refine z_isop ?_; first
             | (refine z_isbin ?_; first
             | (refine z_isb .add ?_; first
             | refine o_add rfl rfl (by omega) (by omega) (by decide) ?_)
             | (refine z_isb .lss ?_; first
             | refine o_lt rfl rfl (by decide) ?_))
             | (refine z_isbi ?_; first
             | refine o_len tabOk rfl rfl (by decide) ?_)
             | refine o_move rfl (by decide) ?_
             | refine o_assign rfl (by decide) ?_))
    · skip
      repeat' (first
       | (refine s_is ?_; first
       | (refine s_isret ?_; first
       | exact f_r1 rfl (res_t rfl) () trivial rfl (fun w h => hfin _ _ [_, _, _, _] h))
       | (refine s_isw ?_; first
       | refine c_seq ?_
       | refine c_region ?_
       | refine c_ret ?_
       | refine c_exit ?_
       | (refine s_iscond ?_; first
       | (refine c_false rfl (by first | with_reducible rfl | with_reducible assumption | ((with_reducible refine decide_eq_false ?_); first | with_reducible assumption | omega)) ?_))))
       | (refine z_isg1 ?_; first
       | (refine z_want1 rfl rfl (by first | with_reducible rfl | with_reducible assumption | ((with_reducible refine decide_eq_true ?_); first | with_reducible rfl | with_reducible assumption | omega)) ?_))
       | (refine z_isnil ?_; first
       | refine z_list ?_)
       | (refine z_isop ?_; first
       | (refine z_isbin ?_; first
       | (refine z_isb .lss ?_; first
       | refine o_lt rfl rfl (by decide) ?_))
       | (refine z_iscall ?_; first
       | ((refine z_iscallf 18 ?_; refine o_fn rfl Try.func18 rfl rfl rfl (cawake_p) (by decide) ?_)))
       | (refine z_ispick ?_; first
       | (refine o_pick1 rfl (by first | with_reducible rfl | with_reducible assumption | ((with_reducible refine decide_eq_true ?_); first | with_reducible rfl | with_reducible assumption | omega)) rfl (by decide) ?_))
       | (refine z_isbi ?_; first
       | refine o_len tabOk rfl rfl (by decide) ?_)
       | refine o_move rfl (by decide) ?_
       | refine o_assign rfl (by decide) ?_))
  · skip
    repeat' (first
     | (refine s_is ?_; first
     | (refine s_isret ?_; first
     | exact f_r1 rfl (res_t rfl) () trivial rfl (fun w h => hfin _ _ [_, _, _, _] h))
     | (refine s_isw ?_; first
     | refine c_seq ?_
     | refine c_region ?_
     | refine c_ret ?_
     | refine c_exit ?_
     | (refine s_iscond ?_; first
     | (refine c_false rfl (by first | with_reducible rfl | with_reducible assumption | ((with_reducible refine decide_eq_false ?_); first | with_reducible assumption | omega)) ?_))))
     | (refine z_isg1 ?_; first
     | (refine z_skip1 (by decide) rfl rfl (by first | with_reducible rfl | with_reducible assumption | ((with_reducible refine decide_eq_false ?_); first | with_reducible assumption | omega)) ?_))
     | (refine z_isnil ?_; first
     | refine z_list ?_)
     | (refine z_isop ?_; first
     | (refine z_isbin ?_; first
     | (refine z_isb .lss ?_; first
     | refine o_lt rfl rfl (by decide) ?_))
     | (refine z_iscall ?_; first
     | ((refine z_iscallf 18 ?_; refine o_fn rfl Try.func18 rfl rfl rfl (cawake_p) (by decide) ?_)))
     | (refine z_ispick ?_; first
     | (refine o_pick0 rfl (by first | with_reducible rfl | with_reducible assumption | ((with_reducible refine decide_eq_false ?_); first | with_reducible assumption | omega)) rfl (by decide) ?_))
     | (refine z_isbi ?_; first
     | refine o_len tabOk rfl rfl (by decide) ?_)
     | refine o_move rfl (by decide) ?_
     | refine o_assign rfl (by decide) ?_))
end Go.Proofs.Ytfegdehgnhomnaa
