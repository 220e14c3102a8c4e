/-
Caps: the law's own function: a deed in both.
-/
import Derived.Test.YtfegdehgnhomnaaCt3
import Derived.Test.YtfegdehgnhomnaaCd4
import Derived.Test.YtfegdehgnhomnaaCa6
namespace Go.Proofs.Ytfegdehgnhomnaa
set_option linter.unusedVariables false
set_option linter.unusedSimpArgs false
open Eng
theorem does_loc {P : Program} {f : FuncId} {vs : List Value} {X : Type} {ok : X → Prop} {v : X → Value} {c o : Chunk} {pc : X → Chunk} {nw : X → List Chunk} {fr : List Chunk} (L : List Chunk) (h : Does P f vs (c :: o :: fr) ok v (fun x => pc x :: (nw x ++ (o :: fr)))) : Does P f vs ([o, c] ++ (L ++ fr)) ok v (fun x => (pc x :: (nw x ++ [o])) ++ (L ++ fr)) := by
  refine (does_perm (h.frame L) ?_).post fun x hx => ⟨x, hx, rfl, fun B w hS => hS.perm ?_⟩
  · show (o :: c :: (L ++ fr)).Perm (c :: o :: (fr ++ L))
    exact (List.Perm.swap _ _ _).trans (List.Perm.cons _ (List.Perm.cons _ List.perm_append_comm))
  · show (pc x :: ((nw x ++ (o :: fr)) ++ L)).Perm (pc x :: ((nw x ++ [o]) ++ (L ++ fr)))
    refine List.Perm.cons _ ?_
    rw [List.append_assoc, List.append_assoc]
    exact List.Perm.append_left _ (List.Perm.cons _ List.perm_append_comm)
theorem does_loc0 {P : Program} {f : FuncId} {vs : List Value} {X : Type} {ok : X → Prop} {v : X → Value} {c : Chunk} {pc : X → Chunk} {fr : List Chunk} (L : List Chunk) (h : Does P f vs (c :: fr) ok v (fun x => pc x :: fr)) : Does P f vs (c :: (L ++ fr)) ok v (fun x => pc x :: (L ++ fr)) := by
  refine (does_perm (h.frame L) ?_).post fun x hx => ⟨x, hx, rfl, fun B w hS => hS.perm ?_⟩
  · exact List.Perm.cons _ List.perm_append_comm
  · exact List.Perm.cons _ List.perm_append_comm
theorem s_behind {n : Nat} {l : Fr} {B : Base} {G : Act → World → Prop} {c a b d e : Chunk} {M fr : List Chunk} (h : S n l B (c :: a :: b :: d :: e :: (M ++ fr)) G) : S n l B ((c :: M) ++ (a :: b :: d :: e :: fr)) G := h.heap fun w hS => hS.perm (List.Perm.cons c (perm_x M [a, b, d, e] fr))
attribute [local irreducible] Eng.Hold Eng.Z Eng.S Eng.cells Eng.old Eng.own rc rws tq tqn Cq.cs emp dcs dnn dt bs layS al undF isN dl
attribute [local irreducible] kd' kc lv zt ls lnt ofS un zap cutD had
set_option maxHeartbeats 4000000 in
theorem cdoes_c (T : Tq) (l : Int) (hT : WF T l) (hl0 : 0 ≤ l) (hl1 : l < 18446744073709551615) (k a f t g : Int) (hg : 0 ≤ g) (b db nb : Nat) (Tp : Tq) (fr : List Chunk) (hs : Sm T Tp) (hal : Al fr Tp) :
    Does Try.prog 11 [.pointer (some ⟨b, 0, none⟩), .pointer (some ⟨db, 0, none⟩), .agg #[.int .i64 k, .int .i64 a, .int .i64 f, .int .i64 t, .int .u64 g]] (cells b 73 (tq Tp l) :: cells db 43 (dt nb l) :: cells nb 40 (dnn T) :: fr) (fun x : Tq × Tq × Int × List Chunk => WF x.1 x.2.2.1 ∧ Stp T l x.1 x.2.2.1 ∧ Sm x.1 x.2.1 ∧ Al (x.2.2.2 ++ fr) x.2.1) (fun _ => .bool true) (fun x => cells b 73 (tq x.2.1 x.2.2.1) :: cells db 43 (dt nb x.2.2.1) :: cells nb 40 (dnn x.1) :: (x.2.2.2 ++ fr)) := by
  intro w hw
  have hg0 := hT.g0
  refine f_enter Try.func11 rfl Try.ntmps11 rfl hw ?_
  repeat' (first
   | ((refine z_isdst 5 ?_; refine o_boxa (vs := [.int .i64 k, .int .i64 a, .int .i64 f, .int .i64 t, .int .u64 g]) rfl rfl (by decide) fun g5 => ?_))
   | (refine s_is ?_; first
   | refine c_join (x := .seq (.region 2 _ _) _) (X := Int) (fun gv => 0 ≤ gv) (fun gv => [(0, .pointer (some ⟨b, 0, none⟩)), (1, .pointer (some ⟨db, 0, none⟩)), (5, .pointer (some ⟨g5, 0, none⟩)), (7, .int .u64 gv)]) (fun _ => cells g5 46 [.int .i64 k, .int .i64 a, .int .i64 f, .int .i64 t, .int .u64 g] :: cells b 73 (tq Tp l) :: cells db 43 (dt nb l) :: cells nb 40 (dnn T) :: fr) (hold ?_) (fun gv hgv => hold ?_)
   | (refine s_isw ?_; first
   | refine c_seq ?_
   | refine c_region ?_))
   | (refine z_isnil ?_; first
   | refine z_list ?_)
   | (refine z_isop ?_; first
   | (refine z_isload ?_; first
   | refine o_loadr tabOk (by first | exact cells_rds 0 rfl | exact cells_rds 1 rfl | exact cells_rds 2 rfl | exact cells_rds 3 rfl | exact cells_rds 4 rfl | assumption) rfl rfl rfl (by first | exact dt_l _ _ | exact dt_n _ _ | exact dnn_at _ (by omega) (by omega) (dcs_g _) | exact dnn_at _ (by omega) (by omega) (dcs_p _) | rfl | rfl) (by decide) ?_)
   | refine o_assign rfl (by decide) ?_
   | refine o_field0 tabOk rfl rfl rfl rfl rfl (by decide) ?_))
  · refine Hold.go ?_
    by_cases hgz : g = 0
    · by_cases h0 : 0 ≤ a
      · by_cases h1 : a < 64
        · have hgt := hg0 a.toNat (by omega)
          repeat' (first
           | (refine s_is ?_; first
           | (refine s_ismeet ?_; first
           | exact c_meet (T a.toNat).g hgt ⟨rfl, rfl, rfl, rfl, trivial⟩ (fun w h => h))
           | (refine s_isw ?_; first
           | refine c_seq ?_
           | refine c_region ?_
           | refine c_mixed mixed (by kernel_rfl) ?_
           | (refine s_iscond ?_; first
           | (refine c_true rfl (by first | with_reducible rfl | with_reducible assumption | ((with_reducible refine decide_eq_true ?_); first | with_reducible rfl | with_reducible assumption | omega)) ?_))))
           | (refine z_isg1 ?_; first
           | (refine z_want1 rfl rfl (by first | with_reducible rfl | with_reducible assumption | ((with_reducible refine decide_eq_true ?_); first | with_reducible rfl | with_reducible assumption | omega)) ?_))
           | (refine z_isnil ?_; first
           | refine z_list ?_
           | refine z_mixed ?_)
           | (refine z_isop ?_; first
           | refine o_indexskm tabOk rfl rfl rfl rfl (by omega) (by omega) (by decide) ?_
           | (refine z_isbin ?_; first
           | (refine z_isb .eql ?_; first
           | refine o_eq rfl rfl (by decide) ?_)
           | (refine z_isb .lss ?_; first
           | refine o_lt rfl rfl (by decide) ?_)
           | (refine z_isb .geq ?_; first
           | refine o_ge rfl rfl (by decide) ?_))
           | (refine z_isload ?_; first
           | refine o_loadr tabOk (by first | exact cells_rds 0 rfl | exact cells_rds 1 rfl | exact cells_rds 2 rfl | exact cells_rds 3 rfl | exact cells_rds 4 rfl | assumption) rfl rfl rfl (by first | exact dt_l _ _ | exact dt_n _ _ | exact dnn_at _ (by omega) (by omega) (dcs_g _) | exact dnn_at _ (by omega) (by omega) (dcs_p _) | rfl | rfl) (by decide) ?_)
           | (refine z_ispick ?_; first
           | (refine o_pick1 rfl (by first | with_reducible rfl | with_reducible assumption | ((with_reducible refine decide_eq_true ?_); first | with_reducible rfl | with_reducible assumption | omega)) rfl (by decide) ?_))
           | refine o_move rfl (by decide) ?_
           | refine o_assign rfl (by decide) ?_
           | refine o_nil rfl (by decide) ?_
           | refine o_field0 tabOk rfl rfl rfl rfl rfl (by decide) ?_
           | refine o_field tabOk rfl rfl rfl rfl rfl (by decide) ?_))
        · skip
          repeat' (first
           | (refine s_is ?_; first
           | (refine s_ismeet ?_; first
           | exact c_meet g hg ⟨rfl, rfl, rfl, rfl, trivial⟩ (fun w h => h))
           | (refine s_isw ?_; first
           | refine c_seq ?_
           | refine c_region ?_
           | refine c_skip ?_
           | (refine s_iscond ?_; first
           | (refine c_false rfl (by first | with_reducible rfl | with_reducible assumption | ((with_reducible refine decide_eq_false ?_); first | with_reducible assumption | omega)) ?_))))
           | (refine z_isg1 ?_; first
           | (refine z_want1 rfl rfl (by first | with_reducible rfl | with_reducible assumption | ((with_reducible refine decide_eq_true ?_); first | with_reducible rfl | with_reducible assumption | omega)) ?_))
           | (refine z_isnil ?_; first
           | refine z_list ?_)
           | (refine z_isop ?_; first
           | (refine z_isbin ?_; first
           | (refine z_isb .eql ?_; first
           | refine o_eq rfl rfl (by decide) ?_)
           | (refine z_isb .lss ?_; first
           | refine o_lt rfl rfl (by decide) ?_)
           | (refine z_isb .geq ?_; first
           | refine o_ge rfl rfl (by decide) ?_))
           | (refine z_isload ?_; first
           | refine o_loadr tabOk (by first | exact cells_rds 0 rfl | exact cells_rds 1 rfl | exact cells_rds 2 rfl | exact cells_rds 3 rfl | exact cells_rds 4 rfl | assumption) rfl rfl rfl (by first | exact dt_l _ _ | exact dt_n _ _ | exact dnn_at _ (by omega) (by omega) (dcs_g _) | exact dnn_at _ (by omega) (by omega) (dcs_p _) | rfl | rfl) (by decide) ?_)
           | (refine z_ispick ?_; first
           | (refine o_pick1 rfl (by first | with_reducible rfl | with_reducible assumption | ((with_reducible refine decide_eq_true ?_); first | with_reducible rfl | with_reducible assumption | omega)) rfl (by decide) ?_))
           | refine o_move rfl (by decide) ?_
           | refine o_field0 tabOk rfl rfl rfl rfl rfl (by decide) ?_))
      · skip
        repeat' (first
         | (refine s_is ?_; first
         | (refine s_ismeet ?_; first
         | exact c_meet g hg ⟨rfl, rfl, rfl, rfl, trivial⟩ (fun w h => h))
         | (refine s_isw ?_; first
         | refine c_seq ?_
         | refine c_region ?_
         | refine c_skip ?_
         | (refine s_iscond ?_; first
         | (refine c_false rfl (by first | with_reducible rfl | with_reducible assumption | ((with_reducible refine decide_eq_false ?_); first | with_reducible assumption | omega)) ?_))))
         | (refine z_isg1 ?_; first
         | (refine z_want1 rfl rfl (by first | with_reducible rfl | with_reducible assumption | ((with_reducible refine decide_eq_true ?_); first | with_reducible rfl | with_reducible assumption | omega)) ?_)
         | (refine z_skip1 (by decide) rfl rfl (by first | with_reducible rfl | with_reducible assumption | ((with_reducible refine decide_eq_false ?_); first | with_reducible assumption | omega)) ?_))
         | (refine z_isnil ?_; first
         | refine z_list ?_)
         | (refine z_isop ?_; first
         | (refine z_isbin ?_; first
         | (refine z_isb .eql ?_; first
         | refine o_eq rfl rfl (by decide) ?_)
         | (refine z_isb .geq ?_; first
         | refine o_ge rfl rfl (by decide) ?_))
         | (refine z_isload ?_; first
         | refine o_loadr tabOk (by first | exact cells_rds 0 rfl | exact cells_rds 1 rfl | exact cells_rds 2 rfl | exact cells_rds 3 rfl | exact cells_rds 4 rfl | assumption) rfl rfl rfl (by first | exact dt_l _ _ | exact dt_n _ _ | exact dnn_at _ (by omega) (by omega) (dcs_g _) | exact dnn_at _ (by omega) (by omega) (dcs_p _) | rfl | rfl) (by decide) ?_)
         | (refine z_ispick ?_; first
         | (refine o_pick1 rfl (by first | with_reducible rfl | with_reducible assumption | ((with_reducible refine decide_eq_true ?_); first | with_reducible rfl | with_reducible assumption | omega)) rfl (by decide) ?_)
         | (refine o_pick0 rfl (by first | with_reducible rfl | with_reducible assumption | ((with_reducible refine decide_eq_false ?_); first | with_reducible assumption | omega)) rfl (by decide) ?_))
         | refine o_move rfl (by decide) ?_
         | refine o_field0 tabOk rfl rfl rfl rfl rfl (by decide) ?_))
    · skip
      repeat' (first
       | (refine s_is ?_; first
       | (refine s_ismeet ?_; first
       | exact c_meet g hg ⟨rfl, rfl, rfl, rfl, trivial⟩ (fun w h => h))
       | (refine s_isw ?_; first
       | refine c_seq ?_
       | refine c_region ?_
       | refine c_skip ?_
       | (refine s_iscond ?_; first
       | (refine c_false rfl (by first | with_reducible rfl | with_reducible assumption | ((with_reducible refine decide_eq_false ?_); first | with_reducible assumption | omega)) ?_))))
       | (refine z_isg1 ?_; first
       | (refine z_skip1 (by decide) rfl rfl (by first | with_reducible rfl | with_reducible assumption | ((with_reducible refine decide_eq_false ?_); first | with_reducible assumption | omega)) ?_))
       | (refine z_isnil ?_; first
       | refine z_list ?_)
       | (refine z_isop ?_; first
       | (refine z_isbin ?_; first
       | (refine z_isb .eql ?_; first
       | refine o_eq rfl rfl (by decide) ?_))
       | (refine z_ispick ?_; first
       | (refine o_pick0 rfl (by first | with_reducible rfl | with_reducible assumption | ((with_reducible refine decide_eq_false ?_); first | with_reducible assumption | omega)) rfl (by decide) ?_))
       | refine o_move rfl (by decide) ?_))
  · refine Hold.go ?_
    by_cases hk : 0 ≤ k ∧ k ≤ 4
    · obtain ⟨q, gg, e, T', l', hw', hst, hp, hd⟩ := dv_all hT hl0 hl1 a gv hgv (ofS f t)
      repeat' (first
       | ((refine z_isdst 50 ?_; refine o_callr rfl Try.func27 rfl rfl rfl (dis_c T l a gv db nb _ (cells_rds 3 rfl) (cells_rds 4 rfl) hgv) (by decide) ?_))
       | ((refine z_isdst 45 ?_; refine o_buildf (t := 26) (zs := [.int .i64 0, .int .u64 0]) (vs := [.int .i64 _, .int .u64 _]) tabOk rfl rfl (by kernel_rfl) rfl ⟨_, _, rfl, rfl, Nat.le_of_ble_eq_true rfl, _, _, rfl, rfl, Nat.le_of_ble_eq_true rfl, rfl⟩ (by decide) ?_))
       | ((refine z_isdst 8 ?_; refine o_alloca (e := 26) (vs := [.int .i64 0, .int .u64 0]) rfl (by kernel_rfl) (by decide) fun g8 => ?_))
       | (refine s_is ?_; first
       | refine c_join (x := .seq (.region 13 _ _) _) (X := Unit) (fun _ => True) (fun _ => [(0, .pointer (some ⟨b, 0, none⟩)), (1, .pointer (some ⟨db, 0, none⟩)), (5, .pointer (some ⟨g5, 0, none⟩)), (7, .int .u64 gv), (8, .pointer (some ⟨g8, 0, none⟩)), (52, .int .i64 k), (74, .bool true)]) (fun _ => cells g8 26 [.int .i64 a, .int .u64 gv] :: cells g5 46 [.int .i64 k, .int .i64 a, .int .i64 f, .int .i64 t, .int .u64 g] :: cells b 73 (tq Tp l) :: cells db 43 (dt nb l) :: cells nb 40 (dnn T) :: fr) (hold ?_) (fun _ _ => hold ?_)
       | (refine s_isw ?_; first
       | refine c_seq ?_
       | refine c_block ?_
       | refine c_region ?_))
       | (refine z_isnil ?_; first
       | refine z_list ?_)
       | (refine z_isop ?_; first
       | (refine z_isload ?_; first
       | refine o_loadr tabOk (by first | exact cells_rds 0 rfl | exact cells_rds 1 rfl | exact cells_rds 2 rfl | exact cells_rds 3 rfl | exact cells_rds 4 rfl | assumption) rfl rfl rfl (by first | exact dt_l _ _ | exact dt_n _ _ | exact dnn_at _ (by omega) (by omega) (dcs_g _) | exact dnn_at _ (by omega) (by omega) (dcs_p _) | rfl | rfl) (by decide) ?_)
       | (refine z_isstore ?_; first
       | (refine z_stw rfl ?_; first
       | ((refine z_sti 0 rfl rfl ?_; refine o_storeb0 rfl tabOk rfl rfl rfl (by first | rfl | exact dt_len _ _ | exact dnn_len _ | exact dcs_len _ | exact bs_len _ | (simp only [dnn_len, dcs_len, bs_len]; done) | rfl) (by first | rfl | exact dnn_one _ | exact dcs_one _ | exact dt_one _ _ | exact bs_one _ | rfl) (by first | rfl | exact dt_len _ _ | exact dnn_len _ | exact dcs_len _ | exact bs_len _ | (simp only [dnn_len, dcs_len, bs_len]; done) | rfl) ?_))))
       | refine o_move rfl (by decide) ?_
       | refine o_assign rfl (by decide) ?_
       | refine o_field0 tabOk rfl rfl rfl rfl rfl (by decide) ?_))
      · refine Hold.go ?_
        have h5 : k = 0 ∨ k = 1 ∨ k = 2 ∨ k = 3 ∨ k = 4 := by omega
        rcases h5 with rfl | rfl | rfl | rfl | rfl
        all_goals repeat' (first
         | (refine s_is ?_; first
         | (refine s_ismeet ?_; first
         | exact c_meet () trivial ⟨rfl, rfl, rfl, rfl, rfl, rfl, rfl, trivial⟩ (fun w h => h))
         | (refine s_isw ?_; first
         | refine c_seq ?_
         | refine c_region ?_
         | refine c_skip ?_
         | (refine s_iscond ?_; first
         | (refine c_true rfl (by first | with_reducible rfl | with_reducible assumption | ((with_reducible refine decide_eq_true ?_); first | with_reducible rfl | with_reducible assumption | omega)) ?_)
         | (refine c_false rfl (by first | with_reducible rfl | with_reducible assumption | ((with_reducible refine decide_eq_false ?_); first | with_reducible assumption | omega)) ?_))))
         | (refine z_isnil ?_; first
         | refine z_list ?_)
         | (refine z_isop ?_; first
         | (refine z_isbin ?_; first
         | (refine z_isb .eql ?_; first
         | refine o_eq rfl rfl (by decide) ?_))
         | refine o_assign rfl (by decide) ?_))
      · refine Hold.go ?_
        repeat' (first
         | ((refine s_sel 5 [2, 0, 1, 3, 4] (by decide) ?_; refine c_free1 ⟨[87, 88], [14]⟩ [0, 1, 2, 3, 4, 5, 11, 6, 7, 8, 9, 10, 12, 13] (id := 18) mixed (by kernel_rfl) ?_))
         | ((refine z_isdst 14 ?_; refine m_alloca (e := 26) (vs := [.int .i64 0, .int .u64 0]) (by kernel_rfl) ?_))
         | ((refine z_isdst 87 ?_; refine o_callx1 Try.func8 rfl rfl rfl (of_s f t _) (by decide) (by decide) fun y _ => ?_; obtain ⟨A, c⟩ := y; dsimp only))
         | ((refine z_isdst 88 ?_; refine o_callx (po := fun x => [cells b 73 (tq x l'), own A c 75 2 (rws (ofS f t)).length (rc (rws (ofS f t)))]) Try.func23 rfl rfl rfl (does_loc (nw := fun _ => []) [_, _, _, _] (hp b Tp (own A c 75 2 (rws (ofS f t)).length (rc (rws (ofS f t))) :: fr) A c hs (hal.sub (List.sublist_cons_self _ _)) (own_rds 0 rfl))) (by decide) (by decide) fun x hx => ?_))
         | refine z_mono1ww (by decide) fun g14 => ?_
         | ((refine s_sel 7 [5, 6, 0, 1, 2, 3, 4] (by decide) ?_; refine c_free2 ⟨[101], []⟩ [0, 1, 2, 3, 4, 5, 6, 7, 8, 9, 10, 11, 12, 13, 14, 15, 16] (id := 19) mixed (by kernel_rfl) ?_))
         | ((refine z_isdst 101 ?_; refine o_callx (po := fun _ => [cells db 43 (dt nb l'), cells nb 40 (dnn T')]) Try.func28 rfl rfl rfl (hd db nb _) (by decide) (by decide) fun _ _ => ?_))
         | refine z_mono0ww ?_
         | (refine s_is ?_; first
         | (refine s_isret ?_; first
         | exact f_r1 rfl (res_t (congrArg some (congrArg Value.bool (decide_eq_true rfl)))) (T', x, l', [own A c 75 2 (rws (ofS f t)).length (rc (rws (ofS f t)))]) ⟨hw', hst, hx.1, hx.2⟩ rfl (fun w h => ((h.sel 7 [3, 0, 1, 4, 2, 5, 6] (by decide)).mask [true, true, true, true, false, false, false])))
         | (refine s_isw ?_; first
         | refine c_seq ?_
         | refine c_region ?_
         | refine c_ret ?_
         | (refine s_iscond ?_; first
         | (refine c_true rfl (by first | with_reducible rfl | with_reducible assumption | ((with_reducible refine decide_eq_true ?_); first | with_reducible rfl | with_reducible assumption | omega)) ?_)))
         | refine x_then_ret ?_
         | refine x_block_ret _ ?_)
         | (refine z_isg1 ?_; first
         | (refine z_want1 rfl rfl (by first | with_reducible rfl | with_reducible assumption | ((with_reducible refine decide_eq_true ?_); first | with_reducible rfl | with_reducible assumption | omega)) ?_))
         | (refine z_isnil ?_; first
         | refine z_list ?_)
         | (refine z_isop ?_; first
         | refine m_inib tabOk (by decide) rfl (by decide) (fun _ => rfl) rfl rfl rfl rfl ?_
         | (refine z_isbin ?_; first
         | (refine z_isb .eql ?_; first
         | refine o_eq rfl rfl (by decide) ?_))
         | (refine z_isload ?_; first
         | refine o_loadr tabOk (by first | exact cells_rds 0 rfl | exact cells_rds 1 rfl | exact cells_rds 2 rfl | exact cells_rds 3 rfl | exact cells_rds 4 rfl | assumption) rfl rfl rfl (by first | exact dt_l _ _ | exact dt_n _ _ | exact dnn_at _ (by omega) (by omega) (dcs_g _) | exact dnn_at _ (by omega) (by omega) (dcs_p _) | rfl | rfl) (by decide) ?_
         | (refine z_ldw tabOk rfl rfl ?_; first
         | (refine o_loadwm tabOk rfl rfl rfl (by repeat' (first | exact List.mem_cons_self | apply List.mem_cons_of_mem)) (by first | rfl | exact dt_len _ _ | exact dnn_len _ | exact dcs_len _ | exact bs_len _ | (simp only [dnn_len, dcs_len, bs_len]; done) | rfl) (by decide) ?_)))
         | (refine z_iscall ?_; first
         | ((refine z_iscallf 10 ?_; refine o_fn rfl Try.func10 rfl rfl rfl (rof_p _ _) (by decide) ?_)))
         | (refine z_ispick ?_; first
         | (refine o_pick1 rfl (by first | with_reducible rfl | with_reducible assumption | ((with_reducible refine decide_eq_true ?_); first | with_reducible rfl | with_reducible assumption | omega)) rfl (by decide) ?_))
         | refine o_move rfl (by decide) ?_
         | refine o_assign rfl (by decide) ?_
         | refine o_extract rfl rfl (by decide) ?_
         | refine o_field0 tabOk rfl rfl rfl rfl rfl (by decide) ?_))
    · by_cases hi : isN T a gv
      · obtain ⟨n, rfl⟩ : ∃ n : Nat, a = n := ⟨a.toNat, by have := (isN_in hi).1; omega⟩
        by_cases h5 : k = 5
        · obtain ⟨m, T', hm, hw', hst, hp, hd⟩ := rv_all hT n gv hi
          repeat' (first
           | ((refine z_isdst 50 ?_; refine o_callr rfl Try.func27 rfl rfl rfl (dis_y T l _ gv db nb _ (cells_rds 3 rfl) (cells_rds 4 rfl) hgv hi) (by decide) ?_))
           | ((refine z_isdst 125 ?_; refine z_front rfl 2 rfl ?_; refine o_calla Try.func24 rfl rfl rfl (does_loc0 [_, _, _, _] (hp b Tp fr hs hal)) (by decide) fun x hx => ?_))
           | ((refine z_isdst 132 ?_; refine z_sel rfl 5 [3, 4, 0, 1, 2] (by decide) ?_; refine o_calla Try.func29 rfl rfl rfl (hd db nb _) (by decide) fun _ _ => ?_))
           | ((refine z_isdst 45 ?_; refine o_buildf (t := 26) (zs := [.int .i64 0, .int .u64 0]) (vs := [.int .i64 _, .int .u64 _]) tabOk rfl rfl (by kernel_rfl) rfl ⟨_, _, rfl, rfl, Nat.le_of_ble_eq_true rfl, _, _, rfl, rfl, Nat.le_of_ble_eq_true rfl, rfl⟩ (by decide) ?_))
           | ((refine z_isdst 8 ?_; refine o_alloca (e := 26) (vs := [.int .i64 0, .int .u64 0]) rfl (by kernel_rfl) (by decide) fun g8 => ?_))
           | (refine s_is ?_; first
           | (refine s_isret ?_; first
           | exact f_r1 rfl (res_t rfl) (T', x, l, []) ⟨hw', hst, hx.1, hx.2⟩ rfl (fun w h => ((h.sel 5 [2, 0, 1, 3, 4] (by decide)).mask [true, true, true, false, false])))
           | (refine s_isw ?_; first
           | refine c_seq ?_
           | refine c_block ?_
           | refine c_region ?_
           | refine c_skip ?_
           | refine c_ret ?_
           | (refine s_iscond ?_; first
           | (refine c_true rfl (by first | with_reducible rfl | with_reducible assumption | ((with_reducible refine decide_eq_true ?_); first | with_reducible rfl | with_reducible assumption | omega)) ?_)
           | (refine c_false rfl (by first | with_reducible rfl | with_reducible assumption | ((with_reducible refine decide_eq_false ?_); first | with_reducible assumption | omega)) ?_)
           | (refine c_false rfl (by first | (simp only [Bool.not_eq_false', decide_eq_true_eq]; omega) | (with_reducible assumption) | (rw [decide_eq_false] <;> (first | omega | with_reducible rfl)) | (rw [decide_eq_true] <;> (first | omega | with_reducible rfl)) | (simp; done) | (simp; omega)) ?_))))
           | (refine z_isg1 ?_; first
           | (refine z_want1 rfl rfl (by first | with_reducible rfl | with_reducible assumption | ((with_reducible refine decide_eq_true ?_); first | with_reducible rfl | with_reducible assumption | omega)) ?_))
           | (refine z_isnil ?_; first
           | refine z_list ?_)
           | (refine z_isop ?_; first
           | (refine z_isbin ?_; first
           | (refine z_isb .eql ?_; first
           | refine o_eq rfl rfl (by decide) ?_))
           | (refine z_isload ?_; first
           | refine o_loadr tabOk (by first | exact cells_rds 0 rfl | exact cells_rds 1 rfl | exact cells_rds 2 rfl | exact cells_rds 3 rfl | exact cells_rds 4 rfl | assumption) rfl rfl rfl (by first | exact dt_l _ _ | exact dt_n _ _ | exact dnn_at _ (by omega) (by omega) (dcs_g _) | exact dnn_at _ (by omega) (by omega) (dcs_p _) | rfl | rfl) (by decide) ?_
           | (refine z_ldw tabOk rfl rfl ?_; first
           | (refine o_loadwm tabOk rfl rfl rfl (by repeat' (first | exact List.mem_cons_self | apply List.mem_cons_of_mem)) (by first | rfl | exact dt_len _ _ | exact dnn_len _ | exact dcs_len _ | exact bs_len _ | (simp only [dnn_len, dcs_len, bs_len]; done) | rfl) (by decide) ?_)))
           | (refine z_isstore ?_; first
           | (refine z_stw rfl ?_; first
           | ((refine z_sti 0 rfl rfl ?_; refine o_storeb0 rfl tabOk rfl rfl rfl (by first | rfl | exact dt_len _ _ | exact dnn_len _ | exact dcs_len _ | exact bs_len _ | (simp only [dnn_len, dcs_len, bs_len]; done) | rfl) (by first | rfl | exact dnn_one _ | exact dcs_one _ | exact dt_one _ _ | exact bs_one _ | rfl) (by first | rfl | exact dt_len _ _ | exact dnn_len _ | exact dcs_len _ | exact bs_len _ | (simp only [dnn_len, dcs_len, bs_len]; done) | rfl) ?_))))
           | (refine z_ispick ?_; first
           | (refine o_pick1 rfl (by first | with_reducible rfl | with_reducible assumption | ((with_reducible refine decide_eq_true ?_); first | with_reducible rfl | with_reducible assumption | omega)) rfl (by decide) ?_))
           | refine o_move rfl (by decide) ?_
           | refine o_assign rfl (by decide) ?_
           | refine o_extract rfl rfl (by decide) ?_
           | refine o_not rfl (by decide) ?_
           | refine o_field0 tabOk rfl rfl rfl rfl rfl (by decide) ?_))
        · by_cases h6 : k = 6
          · by_cases hn : n = 0
            · subst hn
              have hp0 : (Tp ((0 : Nat) : Int).toNat).p < 0 := by rw [← (hs _).2.1]; exact hT.r.2
              repeat' (first
               | ((refine z_isdst 50 ?_; refine o_callr rfl Try.func27 rfl rfl rfl (dis_y T l _ gv db nb _ (cells_rds 3 rfl) (cells_rds 4 rfl) hgv hi) (by decide) ?_))
               | ((refine z_isdst 138 ?_; refine z_front rfl 2 rfl ?_; refine o_call Try.func25 rfl rfl rfl (drop_top Tp l _ gv b (hs.isN hi) hp0) (List.Perm.refl _) (by decide) fun _ _ => ?_))
               | ((refine z_isdst 45 ?_; refine o_buildf (t := 26) (zs := [.int .i64 0, .int .u64 0]) (vs := [.int .i64 _, .int .u64 _]) tabOk rfl rfl (by kernel_rfl) rfl ⟨_, _, rfl, rfl, Nat.le_of_ble_eq_true rfl, _, _, rfl, rfl, Nat.le_of_ble_eq_true rfl, rfl⟩ (by decide) ?_))
               | ((refine z_isdst 8 ?_; refine o_alloca (e := 26) (vs := [.int .i64 0, .int .u64 0]) rfl (by kernel_rfl) (by decide) fun g8 => ?_))
               | (refine s_is ?_; first
               | (refine s_isret ?_; first
               | exact f_r1 rfl (res_t rfl) (T, Tp, l, []) ⟨hT, Stp.refl T l, hs, hal⟩ rfl (fun w h => ((h.sel 5 [0, 3, 4, 1, 2] (by decide)).mask [true, true, true, false, false])))
               | (refine s_isw ?_; first
               | refine c_seq ?_
               | refine c_block ?_
               | refine c_region ?_
               | refine c_skip ?_
               | refine c_ret ?_
               | (refine s_iscond ?_; first
               | (refine c_true rfl (by first | with_reducible rfl | with_reducible assumption | ((with_reducible refine decide_eq_true ?_); first | with_reducible rfl | with_reducible assumption | omega)) ?_)
               | (refine c_false rfl (by first | with_reducible rfl | with_reducible assumption | ((with_reducible refine decide_eq_false ?_); first | with_reducible assumption | omega)) ?_)
               | (refine c_false rfl (by first | (simp only [Bool.not_eq_false', decide_eq_true_eq]; omega) | (with_reducible assumption) | (rw [decide_eq_false] <;> (first | omega | with_reducible rfl)) | (rw [decide_eq_true] <;> (first | omega | with_reducible rfl)) | (simp; done) | (simp; omega)) ?_))))
               | (refine z_isg1 ?_; first
               | (refine z_want1 rfl rfl (by first | with_reducible rfl | with_reducible assumption | ((with_reducible refine decide_eq_true ?_); first | with_reducible rfl | with_reducible assumption | omega)) ?_))
               | (refine z_isnil ?_; first
               | refine z_list ?_)
               | (refine z_isop ?_; first
               | (refine z_isbin ?_; first
               | (refine z_isb .eql ?_; first
               | refine o_eq rfl rfl (by decide) ?_))
               | (refine z_isload ?_; first
               | refine o_loadr tabOk (by first | exact cells_rds 0 rfl | exact cells_rds 1 rfl | exact cells_rds 2 rfl | exact cells_rds 3 rfl | exact cells_rds 4 rfl | assumption) rfl rfl rfl (by first | exact dt_l _ _ | exact dt_n _ _ | exact dnn_at _ (by omega) (by omega) (dcs_g _) | exact dnn_at _ (by omega) (by omega) (dcs_p _) | rfl | rfl) (by decide) ?_
               | (refine z_ldw tabOk rfl rfl ?_; first
               | (refine o_loadwm tabOk rfl rfl rfl (by repeat' (first | exact List.mem_cons_self | apply List.mem_cons_of_mem)) (by first | rfl | exact dt_len _ _ | exact dnn_len _ | exact dcs_len _ | exact bs_len _ | (simp only [dnn_len, dcs_len, bs_len]; done) | rfl) (by decide) ?_)))
               | (refine z_isstore ?_; first
               | (refine z_stw rfl ?_; first
               | ((refine z_sti 0 rfl rfl ?_; refine o_storeb0 rfl tabOk rfl rfl rfl (by first | rfl | exact dt_len _ _ | exact dnn_len _ | exact dcs_len _ | exact bs_len _ | (simp only [dnn_len, dcs_len, bs_len]; done) | rfl) (by first | rfl | exact dnn_one _ | exact dcs_one _ | exact dt_one _ _ | exact bs_one _ | rfl) (by first | rfl | exact dt_len _ _ | exact dnn_len _ | exact dcs_len _ | exact bs_len _ | (simp only [dnn_len, dcs_len, bs_len]; done) | rfl) ?_))))
               | (refine z_ispick ?_; first
               | (refine o_pick1 rfl (by first | with_reducible rfl | with_reducible assumption | ((with_reducible refine decide_eq_true ?_); first | with_reducible rfl | with_reducible assumption | omega)) rfl (by decide) ?_))
               | refine o_move rfl (by decide) ?_
               | refine o_assign rfl (by decide) ?_
               | refine o_extract rfl rfl (by decide) ?_
               | refine o_not rfl (by decide) ?_
               | refine o_field0 tabOk rfl rfl rfl rfl rfl (by decide) ?_))
            · have hn0 : (n : Int) ≠ 0 := by omega
              obtain ⟨m, T', hm, hw', hst, hp, hd⟩ := dp_all hT n gv hi hn
              repeat' (first
               | ((refine z_isdst 50 ?_; refine o_callr rfl Try.func27 rfl rfl rfl (dis_y T l _ gv db nb _ (cells_rds 3 rfl) (cells_rds 4 rfl) hgv hi) (by decide) ?_))
               | ((refine z_isdst 138 ?_; refine z_front rfl 2 rfl ?_; refine o_calla Try.func25 rfl rfl rfl (does_loc0 [_, _, _, _] (hp b Tp fr hs hal)) (by decide) fun x hx => ?_))
               | ((refine z_isdst 151 ?_; refine z_sel rfl 5 [3, 4, 0, 1, 2] (by decide) ?_; refine o_calla Try.func29 rfl rfl rfl (hd db nb _) (by decide) fun _ _ => ?_))
               | ((refine z_isdst 45 ?_; refine o_buildf (t := 26) (zs := [.int .i64 0, .int .u64 0]) (vs := [.int .i64 _, .int .u64 _]) tabOk rfl rfl (by kernel_rfl) rfl ⟨_, _, rfl, rfl, Nat.le_of_ble_eq_true rfl, _, _, rfl, rfl, Nat.le_of_ble_eq_true rfl, rfl⟩ (by decide) ?_))
               | ((refine z_isdst 8 ?_; refine o_alloca (e := 26) (vs := [.int .i64 0, .int .u64 0]) rfl (by kernel_rfl) (by decide) fun g8 => ?_))
               | (refine s_is ?_; first
               | (refine s_isret ?_; first
               | exact f_r1 rfl (res_t rfl) (T', x, l, []) ⟨hw', hst, hx.1, hx.2⟩ rfl (fun w h => ((h.sel 5 [2, 0, 1, 3, 4] (by decide)).mask [true, true, true, false, false])))
               | (refine s_isw ?_; first
               | refine c_seq ?_
               | refine c_block ?_
               | refine c_region ?_
               | refine c_skip ?_
               | refine c_ret ?_
               | (refine s_iscond ?_; first
               | (refine c_true rfl (by first | with_reducible rfl | with_reducible assumption | ((with_reducible refine decide_eq_true ?_); first | with_reducible rfl | with_reducible assumption | omega)) ?_)
               | (refine c_false rfl (by first | with_reducible rfl | with_reducible assumption | ((with_reducible refine decide_eq_false ?_); first | with_reducible assumption | omega)) ?_)
               | (refine c_false rfl (by first | (simp only [Bool.not_eq_false', decide_eq_true_eq]; omega) | (with_reducible assumption) | (rw [decide_eq_false] <;> (first | omega | with_reducible rfl)) | (rw [decide_eq_true] <;> (first | omega | with_reducible rfl)) | (simp; done) | (simp; omega)) ?_))))
               | (refine z_isg1 ?_; first
               | (refine z_want1 rfl rfl (by first | with_reducible rfl | with_reducible assumption | ((with_reducible refine decide_eq_true ?_); first | with_reducible rfl | with_reducible assumption | omega)) ?_))
               | (refine z_isnil ?_; first
               | refine z_list ?_)
               | (refine z_isop ?_; first
               | (refine z_isbin ?_; first
               | (refine z_isb .eql ?_; first
               | refine o_eq rfl rfl (by decide) ?_))
               | (refine z_isload ?_; first
               | refine o_loadr tabOk (by first | exact cells_rds 0 rfl | exact cells_rds 1 rfl | exact cells_rds 2 rfl | exact cells_rds 3 rfl | exact cells_rds 4 rfl | assumption) rfl rfl rfl (by first | exact dt_l _ _ | exact dt_n _ _ | exact dnn_at _ (by omega) (by omega) (dcs_g _) | exact dnn_at _ (by omega) (by omega) (dcs_p _) | rfl | rfl) (by decide) ?_
               | (refine z_ldw tabOk rfl rfl ?_; first
               | (refine o_loadwm tabOk rfl rfl rfl (by repeat' (first | exact List.mem_cons_self | apply List.mem_cons_of_mem)) (by first | rfl | exact dt_len _ _ | exact dnn_len _ | exact dcs_len _ | exact bs_len _ | (simp only [dnn_len, dcs_len, bs_len]; done) | rfl) (by decide) ?_)))
               | (refine z_isstore ?_; first
               | (refine z_stw rfl ?_; first
               | ((refine z_sti 0 rfl rfl ?_; refine o_storeb0 rfl tabOk rfl rfl rfl (by first | rfl | exact dt_len _ _ | exact dnn_len _ | exact dcs_len _ | exact bs_len _ | (simp only [dnn_len, dcs_len, bs_len]; done) | rfl) (by first | rfl | exact dnn_one _ | exact dcs_one _ | exact dt_one _ _ | exact bs_one _ | rfl) (by first | rfl | exact dt_len _ _ | exact dnn_len _ | exact dcs_len _ | exact bs_len _ | (simp only [dnn_len, dcs_len, bs_len]; done) | rfl) ?_))))
               | (refine z_ispick ?_; first
               | (refine o_pick1 rfl (by first | with_reducible rfl | with_reducible assumption | ((with_reducible refine decide_eq_true ?_); first | with_reducible rfl | with_reducible assumption | omega)) rfl (by decide) ?_))
               | refine o_move rfl (by decide) ?_
               | refine o_assign rfl (by decide) ?_
               | refine o_extract rfl rfl (by decide) ?_
               | refine o_not rfl (by decide) ?_
               | refine o_field0 tabOk rfl rfl rfl rfl rfl (by decide) ?_))
          · obtain ⟨m, T', hm, hw', hst, _, _, hp, hd⟩ := ct_all hT n gv hi (ofS f t)
            have hcut : ∀ (A : Option Addr) (c : Nat) (L : List Chunk), Does Try.prog 22 [.pointer (some ⟨b, 0, none⟩), cap n gv, .agg #[.slice A (rws (ofS f t)).length c]] ([own A c 75 2 (rws (ofS f t)).length (rc (rws (ofS f t))), cells b 73 (tq Tp l)] ++ (L ++ fr)) (fun x : Tq × List Chunk => Sm T' x.1 ∧ Al (x.2 ++ (own A c 75 2 (rws (ofS f t)).length (rc (rws (ofS f t))) :: fr)) x.1) (fun _ => .tuple #[.int .i64 m, .int .i64 0]) (fun x => (cells b 73 (tq x.1 l) :: (x.2 ++ [own A c 75 2 (rws (ofS f t)).length (rc (rws (ofS f t)))])) ++ (L ++ fr)) := fun A c L => does_loc L (hp b Tp (own A c 75 2 (rws (ofS f t)).length (rc (rws (ofS f t))) :: fr) A c hs (hal.sub (List.sublist_cons_self _ _)) (own_rds 0 rfl))
            repeat' (first
             | ((refine z_isdst 50 ?_; refine o_callr rfl Try.func27 rfl rfl rfl (dis_y T l _ gv db nb _ (cells_rds 3 rfl) (cells_rds 4 rfl) hgv hi) (by decide) ?_))
             | ((refine s_sel 5 [2, 0, 1, 3, 4] (by decide) ?_; refine c_free1 ⟨[60, 61], []⟩ [0, 1, 2, 3, 4, 5, 6, 7, 8, 9, 10, 11, 12] (id := 10) mixed (by kernel_rfl) ?_))
             | ((refine z_isdst 60 ?_; refine o_callx1 Try.func8 rfl rfl rfl (of_s f t _) (by decide) (by decide) fun y _ => ?_; obtain ⟨A, c⟩ := y; dsimp only))
             | ((refine z_isdst 61 ?_; refine o_callx (po := fun x : Tq × List Chunk => cells b 73 (tq x.1 l) :: (x.2 ++ [own A c 75 2 (rws (ofS f t)).length (rc (rws (ofS f t)))])) Try.func22 rfl rfl rfl (hcut A c [_, _, _, _]) (by decide) (by decide) fun x hx => ?_))
             | refine s_behind ?_
             | ((refine s_sel 5 [3, 4, 0, 1, 2] (by decide) ?_; refine c_free2 ⟨[73], []⟩ [0, 1, 2, 3, 4, 5, 6, 7, 8, 9] (id := 12) mixed (by kernel_rfl) ?_))
             | ((refine z_isdst 73 ?_; refine o_callx (po := fun _ => [cells db 43 (dt nb l), cells nb 40 (dnn T')]) Try.func30 rfl rfl rfl (hd db nb _) (by decide) (by decide) fun _ _ => ?_))
             | refine z_mono0ww ?_
             | ((refine z_isdst 45 ?_; refine o_buildf (t := 26) (zs := [.int .i64 0, .int .u64 0]) (vs := [.int .i64 _, .int .u64 _]) tabOk rfl rfl (by kernel_rfl) rfl ⟨_, _, rfl, rfl, Nat.le_of_ble_eq_true rfl, _, _, rfl, rfl, Nat.le_of_ble_eq_true rfl, rfl⟩ (by decide) ?_))
             | ((refine z_isdst 8 ?_; refine o_alloca (e := 26) (vs := [.int .i64 0, .int .u64 0]) rfl (by kernel_rfl) (by decide) fun g8 => ?_))
             | (refine s_is ?_; first
             | (refine s_isret ?_; first
             | (exact f_r1 rfl (res_t rfl) (T', x.1, l, x.2 ++ [own A c 75 2 (rws (ofS f t)).length (rc (rws (ofS f t)))]) ⟨hw', hst, hx.1, (by dsimp only; rw [List.append_assoc]; exact hx.2)⟩ rfl (fun w h => ((h.sel 5 [2, 0, 1, 3, 4] (by decide)).mask [true, true, true, false, false]))))
             | (refine s_isw ?_; first
             | refine c_seq ?_
             | refine c_block ?_
             | refine c_region ?_
             | refine c_skip ?_
             | refine c_ret ?_
             | (refine s_iscond ?_; first
             | (refine c_true rfl (by first | with_reducible rfl | with_reducible assumption | ((with_reducible refine decide_eq_true ?_); first | with_reducible rfl | with_reducible assumption | omega)) ?_)
             | (refine c_false rfl (by first | with_reducible rfl | with_reducible assumption | ((with_reducible refine decide_eq_false ?_); first | with_reducible assumption | omega)) ?_)
             | (refine c_false rfl (by first | (simp only [Bool.not_eq_false', decide_eq_true_eq]; omega) | (with_reducible assumption) | (rw [decide_eq_false] <;> (first | omega | with_reducible rfl)) | (rw [decide_eq_true] <;> (first | omega | with_reducible rfl)) | (simp; done) | (simp; omega)) ?_))))
             | (refine z_isg1 ?_; first
             | (refine z_want1 rfl rfl (by first | with_reducible rfl | with_reducible assumption | ((with_reducible refine decide_eq_true ?_); first | with_reducible rfl | with_reducible assumption | omega)) ?_))
             | (refine z_isnil ?_; first
             | refine z_mono0n ?_
             | refine z_list ?_)
             | (refine z_isop ?_; first
             | (refine z_isbin ?_; first
             | (refine z_isb .eql ?_; first
             | refine o_eq rfl rfl (by decide) ?_))
             | (refine z_isload ?_; first
             | refine o_loadr tabOk (by first | exact cells_rds 0 rfl | exact cells_rds 1 rfl | exact cells_rds 2 rfl | exact cells_rds 3 rfl | exact cells_rds 4 rfl | assumption) rfl rfl rfl (by first | exact dt_l _ _ | exact dt_n _ _ | exact dnn_at _ (by omega) (by omega) (dcs_g _) | exact dnn_at _ (by omega) (by omega) (dcs_p _) | rfl | rfl) (by decide) ?_
             | (refine z_ldw tabOk rfl rfl ?_; first
             | (refine o_loadwm tabOk rfl rfl rfl (by repeat' (first | exact List.mem_cons_self | apply List.mem_cons_of_mem)) (by first | rfl | exact dt_len _ _ | exact dnn_len _ | exact dcs_len _ | exact bs_len _ | (simp only [dnn_len, dcs_len, bs_len]; done) | rfl) (by decide) ?_)))
             | (refine z_isstore ?_; first
             | (refine z_stw rfl ?_; first
             | ((refine z_sti 0 rfl rfl ?_; refine o_storeb0 rfl tabOk rfl rfl rfl (by first | rfl | exact dt_len _ _ | exact dnn_len _ | exact dcs_len _ | exact bs_len _ | (simp only [dnn_len, dcs_len, bs_len]; done) | rfl) (by first | rfl | exact dnn_one _ | exact dcs_one _ | exact dt_one _ _ | exact bs_one _ | rfl) (by first | rfl | exact dt_len _ _ | exact dnn_len _ | exact dcs_len _ | exact bs_len _ | (simp only [dnn_len, dcs_len, bs_len]; done) | rfl) ?_))))
             | (refine z_iscall ?_; first
             | ((refine z_iscallf 10 ?_; refine o_fn rfl Try.func10 rfl rfl rfl (rof_p _ _) (by decide) ?_)))
             | (refine z_ispick ?_; first
             | (refine o_pick1 rfl (by first | with_reducible rfl | with_reducible assumption | ((with_reducible refine decide_eq_true ?_); first | with_reducible rfl | with_reducible assumption | omega)) rfl (by decide) ?_))
             | refine o_move rfl (by decide) ?_
             | refine o_assign rfl (by decide) ?_
             | refine o_extract rfl rfl (by decide) ?_
             | refine o_not rfl (by decide) ?_
             | refine o_field0 tabOk rfl rfl rfl rfl rfl (by decide) ?_))
      · have hip : ¬ isN Tp a gv := fun e => hi (hs.symm.isN e)
        by_cases h5 : k = 5
        · skip
          repeat' (first
           | ((refine z_isdst 50 ?_; refine o_callr rfl Try.func27 rfl rfl rfl (dis_n T l a gv db nb _ (cells_rds 3 rfl) (cells_rds 4 rfl) hgv hi) (by decide) ?_))
           | ((refine z_isdst 125 ?_; refine z_front rfl 2 rfl ?_; refine o_call Try.func24 rfl rfl rfl (revoke_no Tp l a gv b hip) (List.Perm.refl _) (by decide) fun _ _ => ?_))
           | ((refine z_isdst 45 ?_; refine o_buildf (t := 26) (zs := [.int .i64 0, .int .u64 0]) (vs := [.int .i64 _, .int .u64 _]) tabOk rfl rfl (by kernel_rfl) rfl ⟨_, _, rfl, rfl, Nat.le_of_ble_eq_true rfl, _, _, rfl, rfl, Nat.le_of_ble_eq_true rfl, rfl⟩ (by decide) ?_))
           | ((refine z_isdst 8 ?_; refine o_alloca (e := 26) (vs := [.int .i64 0, .int .u64 0]) rfl (by kernel_rfl) (by decide) fun g8 => ?_))
           | (refine s_is ?_; first
           | (refine s_isret ?_; first
           | exact f_r1 rfl (res_t rfl) (T, Tp, l, []) ⟨hT, Stp.refl T l, hs, hal⟩ rfl (fun w h => ((h.sel 5 [0, 3, 4, 1, 2] (by decide)).mask [true, true, true, false, false])))
           | (refine s_isw ?_; first
           | refine c_seq ?_
           | refine c_block ?_
           | refine c_region ?_
           | refine c_skip ?_
           | refine c_ret ?_
           | (refine s_iscond ?_; first
           | (refine c_true rfl (by first | with_reducible rfl | with_reducible assumption | ((with_reducible refine decide_eq_true ?_); first | with_reducible rfl | with_reducible assumption | omega)) ?_)
           | (refine c_false rfl (by first | with_reducible rfl | with_reducible assumption | ((with_reducible refine decide_eq_false ?_); first | with_reducible assumption | omega)) ?_)
           | (refine c_true rfl (by first | (simp only [Bool.not_eq_true', decide_eq_false_iff_not]; omega) | (with_reducible assumption) | (rw [decide_eq_false] <;> (first | omega | with_reducible rfl)) | (rw [decide_eq_true] <;> (first | omega | with_reducible rfl)) | (simp; done) | (simp; omega)) ?_))))
           | (refine z_isg1 ?_; first
           | (refine z_want1 rfl rfl (by first | with_reducible rfl | with_reducible assumption | ((with_reducible refine decide_eq_true ?_); first | with_reducible rfl | with_reducible assumption | omega)) ?_))
           | (refine z_isnil ?_; first
           | refine z_list ?_)
           | (refine z_isop ?_; first
           | (refine z_isbin ?_; first
           | (refine z_isb .eql ?_; first
           | refine o_eq rfl rfl (by decide) ?_))
           | (refine z_isload ?_; first
           | refine o_loadr tabOk (by first | exact cells_rds 0 rfl | exact cells_rds 1 rfl | exact cells_rds 2 rfl | exact cells_rds 3 rfl | exact cells_rds 4 rfl | assumption) rfl rfl rfl (by first | exact dt_l _ _ | exact dt_n _ _ | exact dnn_at _ (by omega) (by omega) (dcs_g _) | exact dnn_at _ (by omega) (by omega) (dcs_p _) | rfl | rfl) (by decide) ?_
           | (refine z_ldw tabOk rfl rfl ?_; first
           | (refine o_loadwm tabOk rfl rfl rfl (by repeat' (first | exact List.mem_cons_self | apply List.mem_cons_of_mem)) (by first | rfl | exact dt_len _ _ | exact dnn_len _ | exact dcs_len _ | exact bs_len _ | (simp only [dnn_len, dcs_len, bs_len]; done) | rfl) (by decide) ?_)))
           | (refine z_isstore ?_; first
           | (refine z_stw rfl ?_; first
           | ((refine z_sti 0 rfl rfl ?_; refine o_storeb0 rfl tabOk rfl rfl rfl (by first | rfl | exact dt_len _ _ | exact dnn_len _ | exact dcs_len _ | exact bs_len _ | (simp only [dnn_len, dcs_len, bs_len]; done) | rfl) (by first | rfl | exact dnn_one _ | exact dcs_one _ | exact dt_one _ _ | exact bs_one _ | rfl) (by first | rfl | exact dt_len _ _ | exact dnn_len _ | exact dcs_len _ | exact bs_len _ | (simp only [dnn_len, dcs_len, bs_len]; done) | rfl) ?_))))
           | (refine z_ispick ?_; first
           | (refine o_pick1 rfl (by first | with_reducible rfl | with_reducible assumption | ((with_reducible refine decide_eq_true ?_); first | with_reducible rfl | with_reducible assumption | omega)) rfl (by decide) ?_))
           | refine o_move rfl (by decide) ?_
           | refine o_assign rfl (by decide) ?_
           | refine o_extract rfl rfl (by decide) ?_
           | refine o_not rfl (by decide) ?_
           | refine o_field0 tabOk rfl rfl rfl rfl rfl (by decide) ?_))
        · by_cases h6 : k = 6
          · skip
            repeat' (first
             | ((refine z_isdst 50 ?_; refine o_callr rfl Try.func27 rfl rfl rfl (dis_n T l a gv db nb _ (cells_rds 3 rfl) (cells_rds 4 rfl) hgv hi) (by decide) ?_))
             | ((refine z_isdst 138 ?_; refine z_front rfl 2 rfl ?_; refine o_call Try.func25 rfl rfl rfl (drop_no Tp l a gv b hip) (List.Perm.refl _) (by decide) fun _ _ => ?_))
             | ((refine z_isdst 45 ?_; refine o_buildf (t := 26) (zs := [.int .i64 0, .int .u64 0]) (vs := [.int .i64 _, .int .u64 _]) tabOk rfl rfl (by kernel_rfl) rfl ⟨_, _, rfl, rfl, Nat.le_of_ble_eq_true rfl, _, _, rfl, rfl, Nat.le_of_ble_eq_true rfl, rfl⟩ (by decide) ?_))
             | ((refine z_isdst 8 ?_; refine o_alloca (e := 26) (vs := [.int .i64 0, .int .u64 0]) rfl (by kernel_rfl) (by decide) fun g8 => ?_))
             | (refine s_is ?_; first
             | (refine s_isret ?_; first
             | exact f_r1 rfl (res_t rfl) (T, Tp, l, []) ⟨hT, Stp.refl T l, hs, hal⟩ rfl (fun w h => ((h.sel 5 [0, 3, 4, 1, 2] (by decide)).mask [true, true, true, false, false])))
             | (refine s_isw ?_; first
             | refine c_seq ?_
             | refine c_block ?_
             | refine c_region ?_
             | refine c_skip ?_
             | refine c_ret ?_
             | (refine s_iscond ?_; first
             | (refine c_true rfl (by first | with_reducible rfl | with_reducible assumption | ((with_reducible refine decide_eq_true ?_); first | with_reducible rfl | with_reducible assumption | omega)) ?_)
             | (refine c_false rfl (by first | with_reducible rfl | with_reducible assumption | ((with_reducible refine decide_eq_false ?_); first | with_reducible assumption | omega)) ?_)
             | (refine c_true rfl (by first | (simp only [Bool.not_eq_true', decide_eq_false_iff_not]; omega) | (with_reducible assumption) | (rw [decide_eq_false] <;> (first | omega | with_reducible rfl)) | (rw [decide_eq_true] <;> (first | omega | with_reducible rfl)) | (simp; done) | (simp; omega)) ?_))))
             | (refine z_isg1 ?_; first
             | (refine z_want1 rfl rfl (by first | with_reducible rfl | with_reducible assumption | ((with_reducible refine decide_eq_true ?_); first | with_reducible rfl | with_reducible assumption | omega)) ?_)
             | (refine z_skip1 (by decide) rfl rfl (by first | with_reducible rfl | with_reducible assumption | ((with_reducible refine decide_eq_false ?_); first | with_reducible assumption | omega)) ?_))
             | (refine z_isnil ?_; first
             | refine z_list ?_)
             | (refine z_isop ?_; first
             | (refine z_isbin ?_; first
             | (refine z_isb .eql ?_; first
             | refine o_eq rfl rfl (by decide) ?_))
             | (refine z_isload ?_; first
             | refine o_loadr tabOk (by first | exact cells_rds 0 rfl | exact cells_rds 1 rfl | exact cells_rds 2 rfl | exact cells_rds 3 rfl | exact cells_rds 4 rfl | assumption) rfl rfl rfl (by first | exact dt_l _ _ | exact dt_n _ _ | exact dnn_at _ (by omega) (by omega) (dcs_g _) | exact dnn_at _ (by omega) (by omega) (dcs_p _) | rfl | rfl) (by decide) ?_
             | (refine z_ldw tabOk rfl rfl ?_; first
             | (refine o_loadwm tabOk rfl rfl rfl (by repeat' (first | exact List.mem_cons_self | apply List.mem_cons_of_mem)) (by first | rfl | exact dt_len _ _ | exact dnn_len _ | exact dcs_len _ | exact bs_len _ | (simp only [dnn_len, dcs_len, bs_len]; done) | rfl) (by decide) ?_)))
             | (refine z_isstore ?_; first
             | (refine z_stw rfl ?_; first
             | ((refine z_sti 0 rfl rfl ?_; refine o_storeb0 rfl tabOk rfl rfl rfl (by first | rfl | exact dt_len _ _ | exact dnn_len _ | exact dcs_len _ | exact bs_len _ | (simp only [dnn_len, dcs_len, bs_len]; done) | rfl) (by first | rfl | exact dnn_one _ | exact dcs_one _ | exact dt_one _ _ | exact bs_one _ | rfl) (by first | rfl | exact dt_len _ _ | exact dnn_len _ | exact dcs_len _ | exact bs_len _ | (simp only [dnn_len, dcs_len, bs_len]; done) | rfl) ?_))))
             | (refine z_ispick ?_; first
             | (refine o_pick1 rfl (by first | with_reducible rfl | with_reducible assumption | ((with_reducible refine decide_eq_true ?_); first | with_reducible rfl | with_reducible assumption | omega)) rfl (by decide) ?_)
             | (refine o_pick0 rfl (by first | with_reducible rfl | with_reducible assumption | ((with_reducible refine decide_eq_false ?_); first | with_reducible assumption | omega)) rfl (by decide) ?_))
             | refine o_move rfl (by decide) ?_
             | refine o_assign rfl (by decide) ?_
             | refine o_extract rfl rfl (by decide) ?_
             | refine o_not rfl (by decide) ?_
             | refine o_field0 tabOk rfl rfl rfl rfl rfl (by decide) ?_))
          · skip
            repeat' (first
             | ((refine z_isdst 50 ?_; refine o_callr rfl Try.func27 rfl rfl rfl (dis_n T l a gv db nb _ (cells_rds 3 rfl) (cells_rds 4 rfl) hgv hi) (by decide) ?_))
             | ((refine s_sel 5 [2, 0, 1, 3, 4] (by decide) ?_; refine c_free1 ⟨[60, 61], []⟩ [0, 1, 2, 3, 4, 5, 6, 7, 8, 9, 10, 11, 12] (id := 10) mixed (by kernel_rfl) ?_))
             | ((refine z_isdst 60 ?_; refine o_callx1 Try.func8 rfl rfl rfl (of_s f t _) (by decide) (by decide) fun y _ => ?_; obtain ⟨A, c⟩ := y; dsimp only))
             | ((refine z_isdst 61 ?_; refine o_callx (po := fun _ => [cells b 73 (tq Tp l), own A c 75 2 (rws (ofS f t)).length (rc (rws (ofS f t)))]) Try.func22 rfl rfl rfl (does_loc (nw := fun _ => []) [_, _, _, _] (cut_no Tp l a gv b (ofS f t) A c (own A c 75 2 (rws (ofS f t)).length (rc (rws (ofS f t))) :: fr) hip)) (by decide) (by decide) fun _ _ => ?_))
             | refine z_mono0ww ?_
             | ((refine z_isdst 45 ?_; refine o_buildf (t := 26) (zs := [.int .i64 0, .int .u64 0]) (vs := [.int .i64 _, .int .u64 _]) tabOk rfl rfl (by kernel_rfl) rfl ⟨_, _, rfl, rfl, Nat.le_of_ble_eq_true rfl, _, _, rfl, rfl, Nat.le_of_ble_eq_true rfl, rfl⟩ (by decide) ?_))
             | ((refine z_isdst 8 ?_; refine o_alloca (e := 26) (vs := [.int .i64 0, .int .u64 0]) rfl (by kernel_rfl) (by decide) fun g8 => ?_))
             | (refine s_is ?_; first
             | (refine s_isret ?_; first
             | exact f_r1 rfl (res_t rfl) (T, Tp, l, [own A c 75 2 (rws (ofS f t)).length (rc (rws (ofS f t)))]) ⟨hT, Stp.refl T l, hs, hal.sub (List.sublist_cons_self _ _)⟩ rfl (fun w h => ((h.sel 6 [0, 4, 5, 1, 2, 3] (by decide)).mask [true, true, true, true, false, false])))
             | (refine s_isw ?_; first
             | refine c_seq ?_
             | refine c_block ?_
             | refine c_region ?_
             | refine c_skip ?_
             | refine c_ret ?_
             | (refine s_iscond ?_; first
             | (refine c_false rfl (by first | with_reducible rfl | with_reducible assumption | ((with_reducible refine decide_eq_false ?_); first | with_reducible assumption | omega)) ?_)
             | (refine c_true rfl (by first | (simp only [Bool.not_eq_true', decide_eq_false_iff_not]; omega) | (with_reducible assumption) | (rw [decide_eq_false] <;> (first | omega | with_reducible rfl)) | (rw [decide_eq_true] <;> (first | omega | with_reducible rfl)) | (simp; done) | (simp; omega)) ?_))))
             | (refine z_isg1 ?_; first
             | (refine z_want1 rfl rfl (by first | with_reducible rfl | with_reducible assumption | ((with_reducible refine decide_eq_true ?_); first | with_reducible rfl | with_reducible assumption | omega)) ?_))
             | (refine z_isnil ?_; first
             | refine z_list ?_)
             | (refine z_isop ?_; first
             | (refine z_isbin ?_; first
             | (refine z_isb .eql ?_; first
             | refine o_eq rfl rfl (by decide) ?_))
             | (refine z_isload ?_; first
             | refine o_loadr tabOk (by first | exact cells_rds 0 rfl | exact cells_rds 1 rfl | exact cells_rds 2 rfl | exact cells_rds 3 rfl | exact cells_rds 4 rfl | assumption) rfl rfl rfl (by first | exact dt_l _ _ | exact dt_n _ _ | exact dnn_at _ (by omega) (by omega) (dcs_g _) | exact dnn_at _ (by omega) (by omega) (dcs_p _) | rfl | rfl) (by decide) ?_
             | (refine z_ldw tabOk rfl rfl ?_; first
             | (refine o_loadwm tabOk rfl rfl rfl (by repeat' (first | exact List.mem_cons_self | apply List.mem_cons_of_mem)) (by first | rfl | exact dt_len _ _ | exact dnn_len _ | exact dcs_len _ | exact bs_len _ | (simp only [dnn_len, dcs_len, bs_len]; done) | rfl) (by decide) ?_)))
             | (refine z_isstore ?_; first
             | (refine z_stw rfl ?_; first
             | ((refine z_sti 0 rfl rfl ?_; refine o_storeb0 rfl tabOk rfl rfl rfl (by first | rfl | exact dt_len _ _ | exact dnn_len _ | exact dcs_len _ | exact bs_len _ | (simp only [dnn_len, dcs_len, bs_len]; done) | rfl) (by first | rfl | exact dnn_one _ | exact dcs_one _ | exact dt_one _ _ | exact bs_one _ | rfl) (by first | rfl | exact dt_len _ _ | exact dnn_len _ | exact dcs_len _ | exact bs_len _ | (simp only [dnn_len, dcs_len, bs_len]; done) | rfl) ?_))))
             | (refine z_ispick ?_; first
             | (refine o_pick1 rfl (by first | with_reducible rfl | with_reducible assumption | ((with_reducible refine decide_eq_true ?_); first | with_reducible rfl | with_reducible assumption | omega)) rfl (by decide) ?_))
             | refine o_move rfl (by decide) ?_
             | refine o_assign rfl (by decide) ?_
             | refine o_extract rfl rfl (by decide) ?_
             | refine o_not rfl (by decide) ?_
             | refine o_field0 tabOk rfl rfl rfl rfl rfl (by decide) ?_))
end Go.Proofs.Ytfegdehgnhomnaa
