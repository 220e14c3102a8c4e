/-
The law of what is told.
-/
import Derived.Test.YtmfnjmmdchlkiaaIn11
import Derived.Test.YtmfnjmmdchlkiaaEngV
namespace Go.Proofs.Ytmfnjmmdchlkiaa
set_option linter.unusedVariables false
set_option linter.unusedSimpArgs false
open Eng
theorem lo_hi_any (z : Int) : lo z + 256 * hi z = z % 65536 := by
  have h1 : lo z = z % 256 := rfl
  have h2 : hi z = (z / 256) % 256 := by
    unfold hi shrv
    rw [show (2 : Int) ^ (min (8 : Int).toNat IntKind.i64.bits) = 256 from rfl, Int.fdiv_eq_ediv_of_nonneg _ (by omega)]
    rfl
  omega
theorem tmod_b (z : Int) : -65535 ≤ z.tmod 65536 ∧ z.tmod 65536 ≤ 65535 ∧ (z.tmod 65536 + 65536) % 65536 = z % 65536 := by
  rcases Int.lt_or_le z 0 with h | h
  · have e : z.tmod 65536 = -((-z) % 65536) := by
      rw [show z = -(-z) by omega, Int.neg_tmod, Int.tmod_eq_emod_of_nonneg (by omega), Int.neg_neg]
    omega
  · have e : z.tmod 65536 = z % 65536 := Int.tmod_eq_emod_of_nonneg h
    omega
theorem tel_get (l : List Int) (i : Nat) : lg (telN l l.length) (2 * i) = if i < l.length then l.getD i 0 % 65536 else 0 := by
  rw [lg_def]
  unfold telN
  rw [show (2 * i) / 2 = i by omega, show (2 * i + 1) / 2 = i by omega, if_pos (show 2 * i % 2 = 0 by omega), if_neg (show ¬ (2 * i + 1) % 2 = 0 by omega)]
  by_cases h : i < l.length
  · rw [if_pos h, if_pos h, if_pos h, lo_hi_any]
  · rw [if_neg h, if_neg h, if_neg h]; rfl
theorem tel_by (l : List Int) (m : Nat) : By (telN l m) := fun j => by
  have z : (0 : Int) ≤ 0 ∧ (0 : Int) ≤ 255 := ⟨by omega, by omega⟩
  unfold telN
  repeat' split
  all_goals first | exact lo_by _ | exact hi_by _ | exact z
theorem tel_os (d : Nat → Int) (hb : By d) (m : Nat) (hm : 32 ≤ m) : eqB (ba 64 (telN (os d m) m)) (ba 64 d) = true := by
  rw [da_eq]
  intro i hlt
  unfold telN
  rw [if_pos (by omega), os_get d (by omega), lg_def]
  have b1 := hb (2 * (i / 2))
  have b2 := hb (2 * (i / 2) + 1)
  have h1 : ∀ z : Int, lo z = z % 256 := fun _ => rfl
  have h2 : ∀ z : Int, hi z = (z / 256) % 256 := fun z => by
    unfold hi shrv
    rw [show (2 : Int) ^ (min (8 : Int).toNat IntKind.i64.bits) = 256 from rfl, Int.fdiv_eq_ediv_of_nonneg _ (by omega)]
    rfl
  by_cases h : i % 2 = 0
  · rw [if_pos h, h1]
    have e : i = 2 * (i / 2) := by omega
    have : d i = d (2 * (i / 2)) := by rw [← e]
    omega
  · rw [if_neg h, h2]
    have e : i = 2 * (i / 2) + 1 := by omega
    have : d i = d (2 * (i / 2) + 1) := by rw [← e]
    omega
theorem tell_os (d : Nat → Int) (m : Nat) (A : Option Addr) (c : Nat) (fr : List Chunk) (hrd : Rds fr A (i64l (os d m))) (hx : m ≤ 9223372036854775807) :
    Does Try.prog 23 [.slice A m c] fr (fun _ : Unit => True) (fun _ => .agg (ba 64 (telN (os d m) m)).toArray) (fun _ => fr) := by
  have := tell_c (os d m) A c fr hrd (by rw [os_len]; exact hx)
  rw [os_len] at this
  exact this
theorem cnt32 : cnt 32 = 32 := by decide
theorem cnt40 : cnt 40 = 32 := by decide
attribute [local irreducible] Eng.Hold Eng.Z Eng.S Eng.cells Eng.old Eng.own ba na In.cs blk lo hi lg numOk upTo inK Eng.eqB right
attribute [local irreducible] encN enc okP put putD allB daK decN dec encM rok byF putN i64l os telN cnt
set_option maxHeartbeats 4000000 in
theorem inodeTells (l : List Int) (A : Option Addr) (c : Nat) (xs : List Int) (A2 : Option Addr) (c2 : Nat) (n : Int) (fr : List Chunk) (hrd : Rds fr A (i64l l)) (hx : l.length ≤ 9223372036854775807) (hrd2 : Rds fr A2 (u8l xs)) (hx2 : xs.length ≤ 9223372036854775807) (hby : ∀ z ∈ xs, 0 ≤ z ∧ z ≤ 255) :
    Does Try.prog 6 [.slice A l.length c, .slice A2 xs.length c2, .int .i64 n] fr (fun _ : Unit => True) (fun _ => .bool true) (fun _ => fr) := by
  intro w hw
  have hb := byF_by hby
  have hm : ((cnt n : Nat) : Int) = min (max n 0) 32 := by unfold cnt; omega
  have h32 := cnt32
  have h40 := cnt40
  have hne : 0 < l.length → A ≠ none := fun h => hrd.ne hw (by simpa [i64l] using h)
  have eq := tel_os (byF xs) hb (cnt 40) (by omega)
  refine f_enter Try.func6 rfl Try.ntmps6 rfl hw ?_
  repeat' (first
   | ((refine s_isreg 3 ?_; refine c_join (X := Int) (fun z => z = min (l.length : Int) 32) (fun z => [(0, .slice A l.length c), (1, .slice A2 xs.length c2), (2, .int .i64 n), (7, .pointer (some ⟨g, 0, none⟩)), (8, .int .i64 z)]) (fun _ => cells g 31 (ba 64 (telN l l.length)) :: fr) ?_ (fun z hz => ?_); rotate_left; refine hold ?_; rotate_left))
   | (refine s_is ?_; first
   | (refine s_ismeet ?_; first
   | exact c_meet _ (by omega) ⟨rfl, rfl, rfl, rfl, rfl, trivial⟩ (fun w h => h))
   | (refine s_isw ?_; first
   | refine c_seq ?_
   | refine c_block ?_
   | refine c_region ?_
   | refine c_mixed mixed (by kernel_rfl) ?_
   | refine c_skip ?_
   | refine c_ret ?_
   | refine c_exit ?_
   | (refine s_iscond ?_; first
   | (refine c_true rfl (by first | with_reducible rfl | with_reducible assumption | ((with_reducible refine decide_eq_true ?_); first | with_reducible rfl | with_reducible assumption | omega)) ?_)
   | (refine c_false rfl (by first | with_reducible rfl | with_reducible assumption | ((with_reducible refine decide_eq_false ?_); first | with_reducible assumption | omega)) ?_)
   | (refine c_true rfl (by first | (simp only [Bool.not_eq_true', decide_eq_false_iff_not]; omega) | (with_reducible assumption) | (rw [decide_eq_false] <;> (first | omega | with_reducible rfl)) | (rw [decide_eq_true] <;> (first | omega | with_reducible rfl)) | (simp; done) | (simp; omega)) ?_)
   | (refine c_false rfl (by first | (simp only [Bool.not_eq_false', decide_eq_true_eq]; omega) | (with_reducible assumption) | (rw [decide_eq_false] <;> (first | omega | with_reducible rfl)) | (rw [decide_eq_true] <;> (first | omega | with_reducible rfl)) | (simp; done) | (simp; omega)) ?_)
   | refine c_cond rfl (fun hc => ?_) (fun hc => ?_)
   | refine c_condb rfl (fun hc => ?_) (fun hc => ?_)))
   | refine x_then ?_
   | refine x_then_ret ?_
   | refine x_then_exit ?_
   | refine x_block _ ?_
   | refine x_block_ret _ ?_
   | refine x_block_exit _ ?_
   | refine x_block_past (by decide) ?_
   | refine z_tailm ?_)
   | (refine z_isg1 ?_; first
   | refine z_skipu (by decide) rfl rfl ?_
   | (refine z_want1 rfl rfl (by first | with_reducible rfl | with_reducible assumption | ((with_reducible refine decide_eq_true ?_); first | with_reducible rfl | with_reducible assumption | omega)) ?_)
   | (refine z_skip1 (by decide) rfl rfl (by first | with_reducible rfl | with_reducible assumption | ((with_reducible refine decide_eq_false ?_); first | with_reducible assumption | omega)) ?_)
   | (refine z_want1 rfl rfl (by first | (simp only [Bool.not_eq_true', decide_eq_false_iff_not]; omega) | (with_reducible assumption) | (rw [decide_eq_false] <;> (first | omega | with_reducible rfl)) | (rw [decide_eq_true] <;> (first | omega | with_reducible rfl)) | (simp; done) | (simp; omega)) ?_)
   | (refine z_skip1 (by decide) rfl rfl (by first | (simp only [Bool.not_eq_false', decide_eq_true_eq]; omega) | (with_reducible assumption) | (rw [decide_eq_false] <;> (first | omega | with_reducible rfl)) | (rw [decide_eq_true] <;> (first | omega | with_reducible rfl)) | (simp; done) | (simp; omega)) ?_)
   | refine z_guard1 (by decide) rfl rfl (fun hc => ?_) (fun hc => ?_)
   | refine z_guardb (by decide) rfl rfl (fun hc => ?_) (fun hc => ?_))
   | (refine z_isnil ?_; first
   | refine z_list ?_
   | refine z_mixed ?_
   | refine z_mono0 ?_
   | refine z_mono1 (by decide) fun g => ?_
   | refine z_mono2 (by decide) (by decide) fun g g' => ?_
   | refine z_mixedx ?_
   | refine z_quiet ?_)
   | (refine z_isop ?_; first
   | refine o_boxa rfl rfl (by decide) fun g => ?_
   | refine o_build0 (t := 34) (v := .agg In.zero.cs.toArray) (fun _ => by kernel_rfl) (by decide) ?_
   | refine o_build0 (t := 28) (v := .agg In.zero.cs.toArray) (fun _ => by kernel_rfl) (by decide) ?_
   | refine o_alloca (e := 31) (vs := ba 64 (fun _ => 0)) rfl (by kernel_rfl) (by decide) fun g => ?_
   | (refine z_isbin ?_; first
   | refine o_eqa cmp34 rfl rfl (in_typed _) (in_typed _) (by decide) ?_
   | refine o_eqa cmp28 rfl rfl (in_typed _) (in_typed _) (by decide) ?_
   | refine o_eqa cmp31 rfl rfl (da_typed _) (da_typed _) (by decide) ?_
   | (refine z_isb .add ?_; first
   | refine o_add rfl rfl (by omega) (by omega) (by decide) ?_
   | refine o_addw rfl rfl (by decide) ?_)
   | (refine z_isb .eql ?_; first
   | refine o_eq rfl rfl (by decide) ?_
   | refine o_beq tabOk rfl rfl rfl (by decide) ?_
   | refine o_peq tabOk rfl rfl (by decide) ?_)
   | (refine z_isb .neq ?_; first
   | refine o_ne rfl rfl (by decide) ?_
   | refine o_bne tabOk rfl rfl rfl (by decide) ?_
   | refine o_pne tabOk rfl rfl (by decide) ?_)
   | (refine z_isb .lss ?_; first
   | refine o_lt rfl rfl (by decide) ?_)
   | (refine z_isb .gtr ?_; first
   | refine o_gt rfl rfl (by decide) ?_)
   | (refine z_isb .rem ?_; first
   | refine o_rem rfl rfl (by omega) (by omega) (by decide) ?_
   | refine o_remk rfl rfl (by omega) (by omega) (by decide) ?_
   | refine o_remt rfl rfl (by omega) (by decide) ?_))
   | (refine z_isload ?_; first
   | refine o_loadp tabOk rfl rfl rfl 0 rfl (na_len _) (in_near _) (by decide) ?_
   | refine o_loadp tabOk rfl rfl rfl 1 rfl (na_len _) (in_near _) (by decide) ?_
   | refine o_loadp tabOk rfl rfl rfl 2 rfl (na_len _) (in_near _) (by decide) ?_
   | (refine z_ld1 tabOk rfl rfl ?_; first
   | (refine o_loadm tabOk rfl rfl rfl (by repeat' (first | exact List.mem_cons_self | apply List.mem_cons_of_mem)) (by first | exact ba_at _ (by omega) | exact i64l_at _ (by omega) | exact i64l_at _ (by rw [os_len]; omega) | rfl) (by decide) ?_)
   | (refine o_loads tabOk (by first | assumption | exact Rds.cons _ (by assumption) | exact Rds.cons _ (Rds.cons _ (by assumption)) | exact own_rds 0 rfl | exact own_rds 1 rfl | exact own_rds 2 rfl) rfl rfl rfl (by first | exact ba_at _ (by omega) | exact i64l_at _ (by omega) | exact i64l_at _ (by rw [os_len]; omega) | rfl) (by decide) ?_))
   | (refine z_ldw tabOk rfl rfl ?_; first
   | refine o_loadwm tabOk rfl rfl rfl (by repeat' (first | exact List.mem_cons_self | apply List.mem_cons_of_mem)) (by first | exact ba_len _ _ | exact in_len _ | exact na_len _ | (simp only [ba_len, in_len, na_len]) | rfl) (by decide) ?_))
   | (refine z_isstore ?_; first
   | (refine z_stw rfl ?_; first
   | ((refine z_sti 0 rfl rfl ?_; refine o_storeb0 rfl tabOk rfl rfl rfl (by first | exact ba_len _ _ | exact in_len _ | exact na_len _ | (simp only [ba_len, in_len, na_len]) | rfl) (by first | exact ba_one _ _ | exact in_one _ | exact na_one _ | rfl) (by first | exact ba_len _ _ | exact in_len _ | exact na_len _ | (simp only [ba_len, in_len, na_len]) | rfl) ?_))
   | ((refine z_sti 1 rfl rfl ?_; refine o_storeb1 rfl tabOk rfl rfl rfl (by first | exact ba_len _ _ | exact in_len _ | exact na_len _ | (simp only [ba_len, in_len, na_len]) | rfl) (by first | exact ba_one _ _ | exact in_one _ | exact na_one _ | rfl) (by first | exact ba_len _ _ | exact in_len _ | exact na_len _ | (simp only [ba_len, in_len, na_len]) | rfl) ?_))
   | ((refine z_sti 2 rfl rfl ?_; refine o_storeb2 rfl tabOk rfl rfl rfl (by first | exact ba_len _ _ | exact in_len _ | exact na_len _ | (simp only [ba_len, in_len, na_len]) | rfl) (by first | exact ba_one _ _ | exact in_one _ | exact na_one _ | rfl) (by first | exact ba_len _ _ | exact in_len _ | exact na_len _ | (simp only [ba_len, in_len, na_len]) | rfl) ?_))
   | ((refine z_sti 3 rfl rfl ?_; refine o_storeb3 rfl tabOk rfl rfl rfl (by first | exact ba_len _ _ | exact in_len _ | exact na_len _ | (simp only [ba_len, in_len, na_len]) | rfl) (by first | exact ba_one _ _ | exact in_one _ | exact na_one _ | rfl) (by first | exact ba_len _ _ | exact in_len _ | exact na_len _ | (simp only [ba_len, in_len, na_len]) | rfl) ?_))
   | ((refine z_sti 4 rfl rfl ?_; refine o_storeb4 rfl tabOk rfl rfl rfl (by first | exact ba_len _ _ | exact in_len _ | exact na_len _ | (simp only [ba_len, in_len, na_len]) | rfl) (by first | exact ba_one _ _ | exact in_one _ | exact na_one _ | rfl) (by first | exact ba_len _ _ | exact in_len _ | exact na_len _ | (simp only [ba_len, in_len, na_len]) | rfl) ?_))
   | ((refine z_sti 5 rfl rfl ?_; refine o_storeb5 rfl tabOk rfl rfl rfl (by first | exact ba_len _ _ | exact in_len _ | exact na_len _ | (simp only [ba_len, in_len, na_len]) | rfl) (by first | exact ba_one _ _ | exact in_one _ | exact na_one _ | rfl) (by first | exact ba_len _ _ | exact in_len _ | exact na_len _ | (simp only [ba_len, in_len, na_len]) | rfl) ?_))
   | ((refine z_sti 6 rfl rfl ?_; refine o_storeb6 rfl tabOk rfl rfl rfl (by first | exact ba_len _ _ | exact in_len _ | exact na_len _ | (simp only [ba_len, in_len, na_len]) | rfl) (by first | exact ba_one _ _ | exact in_one _ | exact na_one _ | rfl) (by first | exact ba_len _ _ | exact in_len _ | exact na_len _ | (simp only [ba_len, in_len, na_len]) | rfl) ?_)))
   | (refine z_st1 rfl rfl ?_; first
   | (refine o_store rfl tabOk rfl rfl rfl rfl rfl (by first | exact ba_at _ (by omega) | exact i64l_at _ (by omega) | exact i64l_at _ (by rw [os_len]; omega) | rfl) (by first | exact ba_set _ _ _ _ | exact in_set_n _ (by omega) _ | exact in_set_f _ _ | rfl) ?_)
   | ((refine z_sti 1 rfl rfl ?_; refine o_store1 rfl tabOk rfl rfl rfl rfl rfl (by first | exact ba_at _ (by omega) | exact i64l_at _ (by omega) | exact i64l_at _ (by rw [os_len]; omega) | rfl) (by first | exact ba_set _ _ _ _ | exact in_set_n _ (by omega) _ | exact in_set_f _ _ | rfl) ?_))
   | ((refine z_sti 2 rfl rfl ?_; refine o_store2 rfl tabOk rfl rfl rfl rfl rfl (by first | exact ba_at _ (by omega) | exact i64l_at _ (by omega) | exact i64l_at _ (by rw [os_len]; omega) | rfl) (by first | exact ba_set _ _ _ _ | exact in_set_n _ (by omega) _ | exact in_set_f _ _ | rfl) ?_))
   | ((refine z_sti 3 rfl rfl ?_; refine o_store3 rfl tabOk rfl rfl rfl rfl rfl (by first | exact ba_at _ (by omega) | exact i64l_at _ (by omega) | exact i64l_at _ (by rw [os_len]; omega) | rfl) (by first | exact ba_set _ _ _ _ | exact in_set_n _ (by omega) _ | exact in_set_f _ _ | rfl) ?_))
   | ((refine z_sti 4 rfl rfl ?_; refine o_store4 rfl tabOk rfl rfl rfl rfl rfl (by first | exact ba_at _ (by omega) | exact i64l_at _ (by omega) | exact i64l_at _ (by rw [os_len]; omega) | rfl) (by first | exact ba_set _ _ _ _ | exact in_set_n _ (by omega) _ | exact in_set_f _ _ | rfl) ?_))
   | ((refine z_sti 5 rfl rfl ?_; refine o_store5 rfl tabOk rfl rfl rfl rfl rfl (by first | exact ba_at _ (by omega) | exact i64l_at _ (by omega) | exact i64l_at _ (by rw [os_len]; omega) | rfl) (by first | exact ba_set _ _ _ _ | exact in_set_n _ (by omega) _ | exact in_set_f _ _ | rfl) ?_))
   | ((refine z_sti 6 rfl rfl ?_; refine o_store6 rfl tabOk rfl rfl rfl rfl rfl (by first | exact ba_at _ (by omega) | exact i64l_at _ (by omega) | exact i64l_at _ (by rw [os_len]; omega) | rfl) (by first | exact ba_set _ _ _ _ | exact in_set_n _ (by omega) _ | exact in_set_f _ _ | rfl) ?_))))
   | (refine z_iscall ?_; first
   | ((refine z_iscallf 23 ?_; refine o_calla Try.func23 rfl rfl rfl (tell_c l A c _ hrd hx) (by decide) fun _ _ => ?_))
   | ((refine z_iscallf 14 ?_; refine o_fn rfl Try.func14 rfl rfl rfl (awake25) (by decide) ?_)))
   | (refine z_ispick ?_; first
   | (refine o_pick1 rfl (by first | with_reducible rfl | with_reducible assumption | ((with_reducible refine decide_eq_true ?_); first | with_reducible rfl | with_reducible assumption | omega)) rfl (by decide) ?_)
   | (refine o_pick0 rfl (by first | with_reducible rfl | with_reducible assumption | ((with_reducible refine decide_eq_false ?_); first | with_reducible assumption | omega)) rfl (by decide) ?_)
   | (refine o_pick1 rfl (by first | (simp only [Bool.not_eq_true', decide_eq_false_iff_not]; omega) | (with_reducible assumption) | (rw [decide_eq_false] <;> (first | omega | with_reducible rfl)) | (rw [decide_eq_true] <;> (first | omega | with_reducible rfl)) | (simp; done) | (simp; omega)) rfl (by decide) ?_)
   | (refine o_pick0 rfl (by first | (simp only [Bool.not_eq_false', decide_eq_true_eq]; omega) | (with_reducible assumption) | (rw [decide_eq_false] <;> (first | omega | with_reducible rfl)) | (rw [decide_eq_true] <;> (first | omega | with_reducible rfl)) | (simp; done) | (simp; omega)) rfl (by decide) ?_))
   | (refine z_isix ?_; first
   | refine o_index0 tabOk rfl rfl rfl rfl (by omega) (by omega) (by decide) ?_
   | refine o_index1 tabOk rfl rfl rfl rfl (by omega) (by omega) (by decide) ?_
   | refine o_indexsk1 tabOk rfl rfl rfl rfl (by omega) (by omega) (by decide) ?_
   | refine o_indexsk tabOk rfl rfl rfl rfl (by omega) (by omega) (by decide) ?_
   | refine o_indexs1 tabOk (by first | assumption | exact hne (by omega) | exact hne2 (by omega) | assumption) rfl rfl rfl rfl (by omega) (by omega) (by decide) ?_)
   | (refine z_isbi ?_; first
   | refine o_len tabOk rfl rfl (by decide) ?_
   | refine o_min rfl rfl (by decide) ?_
   | refine o_max rfl rfl (by decide) ?_)
   | refine o_move rfl (by decide) ?_
   | refine o_assign rfl (by decide) ?_
   | refine o_nil rfl (by decide) ?_
   | refine o_extract rfl rfl (by decide) ?_
   | refine o_not rfl (by decide) ?_
   | refine o_field0 tabOk rfl rfl rfl rfl rfl (by decide) ?_
   | refine o_field tabOk rfl rfl rfl rfl rfl (by decide) ?_
   | refine o_conv tabOk rfl rfl rfl (by decide) ?_))
  refine Hold.go ?_
  have e32 : decide (((cnt 32 : Nat) : Int) ≠ 32) = false := by rw [h32]; rfl
  repeat' (first
   | (refine s_is ?_; first
   | ((refine c_own2 0 rfl (fun hc2 hne2 => ?_); refine c_loop (X := Nat) (fun i => i ≤ 32) (fun i => [(0, .slice A l.length c), (1, .slice A2 xs.length c2), (2, .int .i64 n), (7, .pointer (some ⟨g, 0, none⟩)), (8, .int .i64 z), (9, .slice x.1 (cnt 32) x.2), (10, .int .i64 i)]) (fun i => own x.1 x.2 3 1 (cnt 32) (i64l (os (telN l l.length) (cnt 32))) :: cells g 31 (ba 64 (telN l l.length)) :: fr) (fun i => 32 - i) 0 (by decide) ⟨rfl, rfl, rfl, rfl, rfl, rfl, rfl, trivial⟩ (fun w h => h) (fun i hi => ?_); refine hold ?_))
   | (refine s_isw ?_; first
   | refine c_seq ?_
   | refine c_block ?_
   | refine c_region ?_
   | refine c_mixed mixed (by kernel_rfl) ?_
   | refine c_skip ?_
   | refine c_ret ?_
   | refine c_exit ?_
   | (refine s_iscond ?_; first
   | (refine c_true rfl (by first | with_reducible rfl | with_reducible assumption | ((with_reducible refine decide_eq_true ?_); first | with_reducible rfl | with_reducible assumption | omega)) ?_)
   | (refine c_false rfl (by first | with_reducible rfl | with_reducible assumption | ((with_reducible refine decide_eq_false ?_); first | with_reducible assumption | omega)) ?_)
   | (refine c_true rfl (by first | (simp only [Bool.not_eq_true', decide_eq_false_iff_not]; omega) | (with_reducible assumption) | (rw [decide_eq_false] <;> (first | omega | with_reducible rfl)) | (rw [decide_eq_true] <;> (first | omega | with_reducible rfl)) | (simp; done) | (simp; omega)) ?_)
   | (refine c_false rfl (by first | (simp only [Bool.not_eq_false', decide_eq_true_eq]; omega) | (with_reducible assumption) | (rw [decide_eq_false] <;> (first | omega | with_reducible rfl)) | (rw [decide_eq_true] <;> (first | omega | with_reducible rfl)) | (simp; done) | (simp; omega)) ?_)
   | refine c_cond rfl (fun hc => ?_) (fun hc => ?_)
   | refine c_condb rfl (fun hc => ?_) (fun hc => ?_)))
   | refine x_then ?_
   | refine x_then_ret ?_
   | refine x_then_exit ?_
   | refine x_block _ ?_
   | refine x_block_ret _ ?_
   | refine x_block_exit _ ?_
   | refine x_block_past (by decide) ?_
   | refine z_tailm ?_)
   | (refine z_isg1 ?_; first
   | refine z_skipu (by decide) rfl rfl ?_
   | (refine z_want1 rfl rfl (by first | with_reducible rfl | with_reducible assumption | ((with_reducible refine decide_eq_true ?_); first | with_reducible rfl | with_reducible assumption | omega)) ?_)
   | (refine z_skip1 (by decide) rfl rfl (by first | with_reducible rfl | with_reducible assumption | ((with_reducible refine decide_eq_false ?_); first | with_reducible assumption | omega)) ?_)
   | (refine z_want1 rfl rfl (by first | (simp only [Bool.not_eq_true', decide_eq_false_iff_not]; omega) | (with_reducible assumption) | (rw [decide_eq_false] <;> (first | omega | with_reducible rfl)) | (rw [decide_eq_true] <;> (first | omega | with_reducible rfl)) | (simp; done) | (simp; omega)) ?_)
   | (refine z_skip1 (by decide) rfl rfl (by first | (simp only [Bool.not_eq_false', decide_eq_true_eq]; omega) | (with_reducible assumption) | (rw [decide_eq_false] <;> (first | omega | with_reducible rfl)) | (rw [decide_eq_true] <;> (first | omega | with_reducible rfl)) | (simp; done) | (simp; omega)) ?_)
   | refine z_guard1 (by decide) rfl rfl (fun hc => ?_) (fun hc => ?_)
   | refine z_guardb (by decide) rfl rfl (fun hc => ?_) (fun hc => ?_))
   | (refine z_isnil ?_; first
   | refine z_list ?_
   | refine z_mixed ?_
   | refine z_mono0 ?_
   | refine z_mono1 (by decide) fun g => ?_
   | refine z_mono2 (by decide) (by decide) fun g g' => ?_
   | refine z_mixedx ?_
   | refine z_quiet ?_)
   | (refine z_isop ?_; first
   | refine o_boxa rfl rfl (by decide) fun g => ?_
   | refine o_build0 (t := 34) (v := .agg In.zero.cs.toArray) (fun _ => by kernel_rfl) (by decide) ?_
   | refine o_build0 (t := 28) (v := .agg In.zero.cs.toArray) (fun _ => by kernel_rfl) (by decide) ?_
   | refine o_alloca (e := 31) (vs := ba 64 (fun _ => 0)) rfl (by kernel_rfl) (by decide) fun g => ?_
   | (refine z_isbin ?_; first
   | refine o_eqa cmp34 rfl rfl (in_typed _) (in_typed _) (by decide) ?_
   | refine o_eqa cmp28 rfl rfl (in_typed _) (in_typed _) (by decide) ?_
   | refine o_eqa cmp31 rfl rfl (da_typed _) (da_typed _) (by decide) ?_
   | (refine z_isb .add ?_; first
   | refine o_add rfl rfl (by omega) (by omega) (by decide) ?_
   | refine o_addw rfl rfl (by decide) ?_)
   | (refine z_isb .eql ?_; first
   | refine o_eq rfl rfl (by decide) ?_
   | refine o_beq tabOk rfl rfl rfl (by decide) ?_
   | refine o_peq tabOk rfl rfl (by decide) ?_)
   | (refine z_isb .neq ?_; first
   | refine o_ne rfl rfl (by decide) ?_
   | refine o_bne tabOk rfl rfl rfl (by decide) ?_
   | refine o_pne tabOk rfl rfl (by decide) ?_)
   | (refine z_isb .lss ?_; first
   | refine o_lt rfl rfl (by decide) ?_)
   | (refine z_isb .gtr ?_; first
   | refine o_gt rfl rfl (by decide) ?_)
   | (refine z_isb .rem ?_; first
   | refine o_rem rfl rfl (by omega) (by omega) (by decide) ?_
   | refine o_remk rfl rfl (by omega) (by omega) (by decide) ?_
   | refine o_remt rfl rfl (by omega) (by decide) ?_))
   | (refine z_isload ?_; first
   | refine o_loadp tabOk rfl rfl rfl 0 rfl (na_len _) (in_near _) (by decide) ?_
   | refine o_loadp tabOk rfl rfl rfl 1 rfl (na_len _) (in_near _) (by decide) ?_
   | refine o_loadp tabOk rfl rfl rfl 2 rfl (na_len _) (in_near _) (by decide) ?_
   | (refine z_ld1 tabOk rfl rfl ?_; first
   | (refine o_loadm tabOk rfl rfl rfl (by repeat' (first | exact List.mem_cons_self | apply List.mem_cons_of_mem)) (by first | exact ba_at _ (by omega) | exact i64l_at _ (by omega) | exact i64l_at _ (by rw [os_len]; omega) | rfl) (by decide) ?_)
   | (refine o_loads tabOk (by first | assumption | exact Rds.cons _ (by assumption) | exact Rds.cons _ (Rds.cons _ (by assumption)) | exact own_rds 0 rfl | exact own_rds 1 rfl | exact own_rds 2 rfl) rfl rfl rfl (by first | exact ba_at _ (by omega) | exact i64l_at _ (by omega) | exact i64l_at _ (by rw [os_len]; omega) | rfl) (by decide) ?_))
   | (refine z_ldw tabOk rfl rfl ?_; first
   | refine o_loadwm tabOk rfl rfl rfl (by repeat' (first | exact List.mem_cons_self | apply List.mem_cons_of_mem)) (by first | exact ba_len _ _ | exact in_len _ | exact na_len _ | (simp only [ba_len, in_len, na_len]) | rfl) (by decide) ?_))
   | (refine z_isstore ?_; first
   | (refine z_stw rfl ?_; first
   | ((refine z_sti 0 rfl rfl ?_; refine o_storeb0 rfl tabOk rfl rfl rfl (by first | exact ba_len _ _ | exact in_len _ | exact na_len _ | (simp only [ba_len, in_len, na_len]) | rfl) (by first | exact ba_one _ _ | exact in_one _ | exact na_one _ | rfl) (by first | exact ba_len _ _ | exact in_len _ | exact na_len _ | (simp only [ba_len, in_len, na_len]) | rfl) ?_))
   | ((refine z_sti 1 rfl rfl ?_; refine o_storeb1 rfl tabOk rfl rfl rfl (by first | exact ba_len _ _ | exact in_len _ | exact na_len _ | (simp only [ba_len, in_len, na_len]) | rfl) (by first | exact ba_one _ _ | exact in_one _ | exact na_one _ | rfl) (by first | exact ba_len _ _ | exact in_len _ | exact na_len _ | (simp only [ba_len, in_len, na_len]) | rfl) ?_))
   | ((refine z_sti 2 rfl rfl ?_; refine o_storeb2 rfl tabOk rfl rfl rfl (by first | exact ba_len _ _ | exact in_len _ | exact na_len _ | (simp only [ba_len, in_len, na_len]) | rfl) (by first | exact ba_one _ _ | exact in_one _ | exact na_one _ | rfl) (by first | exact ba_len _ _ | exact in_len _ | exact na_len _ | (simp only [ba_len, in_len, na_len]) | rfl) ?_))
   | ((refine z_sti 3 rfl rfl ?_; refine o_storeb3 rfl tabOk rfl rfl rfl (by first | exact ba_len _ _ | exact in_len _ | exact na_len _ | (simp only [ba_len, in_len, na_len]) | rfl) (by first | exact ba_one _ _ | exact in_one _ | exact na_one _ | rfl) (by first | exact ba_len _ _ | exact in_len _ | exact na_len _ | (simp only [ba_len, in_len, na_len]) | rfl) ?_))
   | ((refine z_sti 4 rfl rfl ?_; refine o_storeb4 rfl tabOk rfl rfl rfl (by first | exact ba_len _ _ | exact in_len _ | exact na_len _ | (simp only [ba_len, in_len, na_len]) | rfl) (by first | exact ba_one _ _ | exact in_one _ | exact na_one _ | rfl) (by first | exact ba_len _ _ | exact in_len _ | exact na_len _ | (simp only [ba_len, in_len, na_len]) | rfl) ?_))
   | ((refine z_sti 5 rfl rfl ?_; refine o_storeb5 rfl tabOk rfl rfl rfl (by first | exact ba_len _ _ | exact in_len _ | exact na_len _ | (simp only [ba_len, in_len, na_len]) | rfl) (by first | exact ba_one _ _ | exact in_one _ | exact na_one _ | rfl) (by first | exact ba_len _ _ | exact in_len _ | exact na_len _ | (simp only [ba_len, in_len, na_len]) | rfl) ?_))
   | ((refine z_sti 6 rfl rfl ?_; refine o_storeb6 rfl tabOk rfl rfl rfl (by first | exact ba_len _ _ | exact in_len _ | exact na_len _ | (simp only [ba_len, in_len, na_len]) | rfl) (by first | exact ba_one _ _ | exact in_one _ | exact na_one _ | rfl) (by first | exact ba_len _ _ | exact in_len _ | exact na_len _ | (simp only [ba_len, in_len, na_len]) | rfl) ?_)))
   | (refine z_st1 rfl rfl ?_; first
   | (refine o_store rfl tabOk rfl rfl rfl rfl rfl (by first | exact ba_at _ (by omega) | exact i64l_at _ (by omega) | exact i64l_at _ (by rw [os_len]; omega) | rfl) (by first | exact ba_set _ _ _ _ | exact in_set_n _ (by omega) _ | exact in_set_f _ _ | rfl) ?_)
   | ((refine z_sti 1 rfl rfl ?_; refine o_store1 rfl tabOk rfl rfl rfl rfl rfl (by first | exact ba_at _ (by omega) | exact i64l_at _ (by omega) | exact i64l_at _ (by rw [os_len]; omega) | rfl) (by first | exact ba_set _ _ _ _ | exact in_set_n _ (by omega) _ | exact in_set_f _ _ | rfl) ?_))
   | ((refine z_sti 2 rfl rfl ?_; refine o_store2 rfl tabOk rfl rfl rfl rfl rfl (by first | exact ba_at _ (by omega) | exact i64l_at _ (by omega) | exact i64l_at _ (by rw [os_len]; omega) | rfl) (by first | exact ba_set _ _ _ _ | exact in_set_n _ (by omega) _ | exact in_set_f _ _ | rfl) ?_))
   | ((refine z_sti 3 rfl rfl ?_; refine o_store3 rfl tabOk rfl rfl rfl rfl rfl (by first | exact ba_at _ (by omega) | exact i64l_at _ (by omega) | exact i64l_at _ (by rw [os_len]; omega) | rfl) (by first | exact ba_set _ _ _ _ | exact in_set_n _ (by omega) _ | exact in_set_f _ _ | rfl) ?_))
   | ((refine z_sti 4 rfl rfl ?_; refine o_store4 rfl tabOk rfl rfl rfl rfl rfl (by first | exact ba_at _ (by omega) | exact i64l_at _ (by omega) | exact i64l_at _ (by rw [os_len]; omega) | rfl) (by first | exact ba_set _ _ _ _ | exact in_set_n _ (by omega) _ | exact in_set_f _ _ | rfl) ?_))
   | ((refine z_sti 5 rfl rfl ?_; refine o_store5 rfl tabOk rfl rfl rfl rfl rfl (by first | exact ba_at _ (by omega) | exact i64l_at _ (by omega) | exact i64l_at _ (by rw [os_len]; omega) | rfl) (by first | exact ba_set _ _ _ _ | exact in_set_n _ (by omega) _ | exact in_set_f _ _ | rfl) ?_))
   | ((refine z_sti 6 rfl rfl ?_; refine o_store6 rfl tabOk rfl rfl rfl rfl rfl (by first | exact ba_at _ (by omega) | exact i64l_at _ (by omega) | exact i64l_at _ (by rw [os_len]; omega) | rfl) (by first | exact ba_set _ _ _ _ | exact in_set_n _ (by omega) _ | exact in_set_f _ _ | rfl) ?_))))
   | (refine z_iscall ?_; first
   | ((refine z_iscallf 24 ?_; refine o_calla Try.func24 rfl rfl rfl (others_c _ (tel_by _ _) 32 _) (by decide) fun x _ => ?_))
   | ((refine z_iscallf 14 ?_; refine o_fn rfl Try.func14 rfl rfl rfl (awake25) (by decide) ?_)))
   | (refine z_ispick ?_; first
   | (refine o_pick1 rfl (by first | with_reducible rfl | with_reducible assumption | ((with_reducible refine decide_eq_true ?_); first | with_reducible rfl | with_reducible assumption | omega)) rfl (by decide) ?_)
   | (refine o_pick0 rfl (by first | with_reducible rfl | with_reducible assumption | ((with_reducible refine decide_eq_false ?_); first | with_reducible assumption | omega)) rfl (by decide) ?_)
   | (refine o_pick1 rfl (by first | (simp only [Bool.not_eq_true', decide_eq_false_iff_not]; omega) | (with_reducible assumption) | (rw [decide_eq_false] <;> (first | omega | with_reducible rfl)) | (rw [decide_eq_true] <;> (first | omega | with_reducible rfl)) | (simp; done) | (simp; omega)) rfl (by decide) ?_)
   | (refine o_pick0 rfl (by first | (simp only [Bool.not_eq_false', decide_eq_true_eq]; omega) | (with_reducible assumption) | (rw [decide_eq_false] <;> (first | omega | with_reducible rfl)) | (rw [decide_eq_true] <;> (first | omega | with_reducible rfl)) | (simp; done) | (simp; omega)) rfl (by decide) ?_))
   | (refine z_isix ?_; first
   | refine o_index0 tabOk rfl rfl rfl rfl (by omega) (by omega) (by decide) ?_
   | refine o_index1 tabOk rfl rfl rfl rfl (by omega) (by omega) (by decide) ?_
   | refine o_indexsk1 tabOk rfl rfl rfl rfl (by omega) (by omega) (by decide) ?_
   | refine o_indexsk tabOk rfl rfl rfl rfl (by omega) (by omega) (by decide) ?_
   | refine o_indexs1 tabOk (by first | assumption | exact hne (by omega) | exact hne2 (by omega) | assumption) rfl rfl rfl rfl (by omega) (by omega) (by decide) ?_)
   | (refine z_isbi ?_; first
   | refine o_len tabOk rfl rfl (by decide) ?_
   | refine o_min rfl rfl (by decide) ?_
   | refine o_max rfl rfl (by decide) ?_)
   | refine o_move rfl (by decide) ?_
   | refine o_assign rfl (by decide) ?_
   | refine o_nil rfl (by decide) ?_
   | refine o_extract rfl rfl (by decide) ?_
   | refine o_not rfl (by decide) ?_
   | refine o_field0 tabOk rfl rfl rfl rfl rfl (by decide) ?_
   | refine o_field tabOk rfl rfl rfl rfl rfl (by decide) ?_
   | refine o_conv tabOk rfl rfl rfl (by decide) ?_))
  refine Hold.go ?_
  have hget : ∀ {i : Nat}, i < 32 → (os (telN l l.length) (cnt 32)).getD ((i : Int)).toNat 0 = if i < l.length then l.getD i 0 % 65536 else 0 := fun {i} h => by
    rw [Int.toNat_natCast, os_get _ (by omega)]
    exact tel_get l i
  by_cases hi32 : i < 32
  · have hg := hget hi32
    by_cases hiz : (i : Int) < z
    · have tb := tmod_b (l.getD ((i : Int)).toNat 0)
      have e1 : decide ((os (telN l l.length) (cnt 32)).getD ((i : Int)).toNat 0 ≠ ((l.getD ((i : Int)).toNat 0).tmod 65536 + 65536) % 65536) = false := by
        rw [hg, if_pos (by omega), tb.2.2, Int.toNat_natCast]
        simp
      repeat' (first
       | (refine s_is ?_; first
       | (refine s_isagain ?_; first
       | exact c_again (i + 1) (by omega) (by omega) ⟨rfl, rfl, rfl, rfl, rfl, rfl, rfl, trivial⟩ (fun w h => h))
       | (refine s_isw ?_; first
       | refine c_seq ?_
       | refine c_block ?_
       | refine c_region ?_
       | refine c_mixed mixed (by kernel_rfl) ?_
       | refine c_skip ?_
       | refine c_ret ?_
       | refine c_exit ?_
       | (refine s_iscond ?_; first
       | (refine c_true rfl (by first | with_reducible rfl | with_reducible assumption | ((with_reducible refine decide_eq_true ?_); first | with_reducible rfl | with_reducible assumption | omega)) ?_)
       | (refine c_false rfl (by first | with_reducible rfl | with_reducible assumption | ((with_reducible refine decide_eq_false ?_); first | with_reducible assumption | omega)) ?_)
       | (refine c_true rfl (by first | (simp only [Bool.not_eq_true', decide_eq_false_iff_not]; omega) | (with_reducible assumption) | (rw [decide_eq_false] <;> (first | omega | with_reducible rfl)) | (rw [decide_eq_true] <;> (first | omega | with_reducible rfl)) | (simp; done) | (simp; omega)) ?_)
       | (refine c_false rfl (by first | (simp only [Bool.not_eq_false', decide_eq_true_eq]; omega) | (with_reducible assumption) | (rw [decide_eq_false] <;> (first | omega | with_reducible rfl)) | (rw [decide_eq_true] <;> (first | omega | with_reducible rfl)) | (simp; done) | (simp; omega)) ?_)
       | refine c_cond rfl (fun hc => ?_) (fun hc => ?_)
       | refine c_condb rfl (fun hc => ?_) (fun hc => ?_)))
       | refine x_then ?_
       | refine x_then_ret ?_
       | refine x_then_exit ?_
       | refine x_block _ ?_
       | refine x_block_ret _ ?_
       | refine x_block_exit _ ?_
       | refine x_block_past (by decide) ?_
       | refine z_tailm ?_)
       | (refine z_isg1 ?_; first
       | refine z_skipu (by decide) rfl rfl ?_
       | (refine z_want1 rfl rfl (by first | with_reducible rfl | with_reducible assumption | ((with_reducible refine decide_eq_true ?_); first | with_reducible rfl | with_reducible assumption | omega)) ?_)
       | (refine z_skip1 (by decide) rfl rfl (by first | with_reducible rfl | with_reducible assumption | ((with_reducible refine decide_eq_false ?_); first | with_reducible assumption | omega)) ?_)
       | (refine z_want1 rfl rfl (by first | (simp only [Bool.not_eq_true', decide_eq_false_iff_not]; omega) | (with_reducible assumption) | (rw [decide_eq_false] <;> (first | omega | with_reducible rfl)) | (rw [decide_eq_true] <;> (first | omega | with_reducible rfl)) | (simp; done) | (simp; omega)) ?_)
       | (refine z_skip1 (by decide) rfl rfl (by first | (simp only [Bool.not_eq_false', decide_eq_true_eq]; omega) | (with_reducible assumption) | (rw [decide_eq_false] <;> (first | omega | with_reducible rfl)) | (rw [decide_eq_true] <;> (first | omega | with_reducible rfl)) | (simp; done) | (simp; omega)) ?_)
       | refine z_guard1 (by decide) rfl rfl (fun hc => ?_) (fun hc => ?_)
       | refine z_guardb (by decide) rfl rfl (fun hc => ?_) (fun hc => ?_))
       | (refine z_isnil ?_; first
       | refine z_list ?_
       | refine z_mixed ?_
       | refine z_mono0 ?_
       | refine z_mono1 (by decide) fun g => ?_
       | refine z_mono2 (by decide) (by decide) fun g g' => ?_
       | refine z_mixedx ?_
       | refine z_quiet ?_)
       | (refine z_isop ?_; first
       | refine o_boxa rfl rfl (by decide) fun g => ?_
       | refine o_build0 (t := 34) (v := .agg In.zero.cs.toArray) (fun _ => by kernel_rfl) (by decide) ?_
       | refine o_build0 (t := 28) (v := .agg In.zero.cs.toArray) (fun _ => by kernel_rfl) (by decide) ?_
       | refine o_alloca (e := 31) (vs := ba 64 (fun _ => 0)) rfl (by kernel_rfl) (by decide) fun g => ?_
       | (refine z_isbin ?_; first
       | refine o_eqa cmp34 rfl rfl (in_typed _) (in_typed _) (by decide) ?_
       | refine o_eqa cmp28 rfl rfl (in_typed _) (in_typed _) (by decide) ?_
       | refine o_eqa cmp31 rfl rfl (da_typed _) (da_typed _) (by decide) ?_
       | (refine z_isb .add ?_; first
       | refine o_add rfl rfl (by omega) (by omega) (by decide) ?_
       | refine o_addw rfl rfl (by decide) ?_)
       | (refine z_isb .eql ?_; first
       | refine o_eq rfl rfl (by decide) ?_
       | refine o_beq tabOk rfl rfl rfl (by decide) ?_
       | refine o_peq tabOk rfl rfl (by decide) ?_)
       | (refine z_isb .neq ?_; first
       | refine o_ne rfl rfl (by decide) ?_
       | refine o_bne tabOk rfl rfl rfl (by decide) ?_
       | refine o_pne tabOk rfl rfl (by decide) ?_)
       | (refine z_isb .lss ?_; first
       | refine o_lt rfl rfl (by decide) ?_)
       | (refine z_isb .gtr ?_; first
       | refine o_gt rfl rfl (by decide) ?_)
       | (refine z_isb .rem ?_; first
       | refine o_rem rfl rfl (by omega) (by omega) (by decide) ?_
       | refine o_remk rfl rfl (by omega) (by omega) (by decide) ?_
       | refine o_remt rfl rfl (by omega) (by decide) ?_))
       | (refine z_isload ?_; first
       | refine o_loadp tabOk rfl rfl rfl 0 rfl (na_len _) (in_near _) (by decide) ?_
       | refine o_loadp tabOk rfl rfl rfl 1 rfl (na_len _) (in_near _) (by decide) ?_
       | refine o_loadp tabOk rfl rfl rfl 2 rfl (na_len _) (in_near _) (by decide) ?_
       | (refine z_ld1 tabOk rfl rfl ?_; first
       | (refine o_loadm tabOk rfl rfl rfl (by repeat' (first | exact List.mem_cons_self | apply List.mem_cons_of_mem)) (by first | exact ba_at _ (by omega) | exact i64l_at _ (by omega) | exact i64l_at _ (by rw [os_len]; omega) | rfl) (by decide) ?_)
       | (refine o_loads tabOk (by first | assumption | exact Rds.cons _ (by assumption) | exact Rds.cons _ (Rds.cons _ (by assumption)) | exact own_rds 0 rfl | exact own_rds 1 rfl | exact own_rds 2 rfl) rfl rfl rfl (by first | exact ba_at _ (by omega) | exact i64l_at _ (by omega) | exact i64l_at _ (by rw [os_len]; omega) | rfl) (by decide) ?_))
       | (refine z_ldw tabOk rfl rfl ?_; first
       | refine o_loadwm tabOk rfl rfl rfl (by repeat' (first | exact List.mem_cons_self | apply List.mem_cons_of_mem)) (by first | exact ba_len _ _ | exact in_len _ | exact na_len _ | (simp only [ba_len, in_len, na_len]) | rfl) (by decide) ?_))
       | (refine z_isstore ?_; first
       | (refine z_stw rfl ?_; first
       | ((refine z_sti 0 rfl rfl ?_; refine o_storeb0 rfl tabOk rfl rfl rfl (by first | exact ba_len _ _ | exact in_len _ | exact na_len _ | (simp only [ba_len, in_len, na_len]) | rfl) (by first | exact ba_one _ _ | exact in_one _ | exact na_one _ | rfl) (by first | exact ba_len _ _ | exact in_len _ | exact na_len _ | (simp only [ba_len, in_len, na_len]) | rfl) ?_))
       | ((refine z_sti 1 rfl rfl ?_; refine o_storeb1 rfl tabOk rfl rfl rfl (by first | exact ba_len _ _ | exact in_len _ | exact na_len _ | (simp only [ba_len, in_len, na_len]) | rfl) (by first | exact ba_one _ _ | exact in_one _ | exact na_one _ | rfl) (by first | exact ba_len _ _ | exact in_len _ | exact na_len _ | (simp only [ba_len, in_len, na_len]) | rfl) ?_))
       | ((refine z_sti 2 rfl rfl ?_; refine o_storeb2 rfl tabOk rfl rfl rfl (by first | exact ba_len _ _ | exact in_len _ | exact na_len _ | (simp only [ba_len, in_len, na_len]) | rfl) (by first | exact ba_one _ _ | exact in_one _ | exact na_one _ | rfl) (by first | exact ba_len _ _ | exact in_len _ | exact na_len _ | (simp only [ba_len, in_len, na_len]) | rfl) ?_))
       | ((refine z_sti 3 rfl rfl ?_; refine o_storeb3 rfl tabOk rfl rfl rfl (by first | exact ba_len _ _ | exact in_len _ | exact na_len _ | (simp only [ba_len, in_len, na_len]) | rfl) (by first | exact ba_one _ _ | exact in_one _ | exact na_one _ | rfl) (by first | exact ba_len _ _ | exact in_len _ | exact na_len _ | (simp only [ba_len, in_len, na_len]) | rfl) ?_))
       | ((refine z_sti 4 rfl rfl ?_; refine o_storeb4 rfl tabOk rfl rfl rfl (by first | exact ba_len _ _ | exact in_len _ | exact na_len _ | (simp only [ba_len, in_len, na_len]) | rfl) (by first | exact ba_one _ _ | exact in_one _ | exact na_one _ | rfl) (by first | exact ba_len _ _ | exact in_len _ | exact na_len _ | (simp only [ba_len, in_len, na_len]) | rfl) ?_))
       | ((refine z_sti 5 rfl rfl ?_; refine o_storeb5 rfl tabOk rfl rfl rfl (by first | exact ba_len _ _ | exact in_len _ | exact na_len _ | (simp only [ba_len, in_len, na_len]) | rfl) (by first | exact ba_one _ _ | exact in_one _ | exact na_one _ | rfl) (by first | exact ba_len _ _ | exact in_len _ | exact na_len _ | (simp only [ba_len, in_len, na_len]) | rfl) ?_))
       | ((refine z_sti 6 rfl rfl ?_; refine o_storeb6 rfl tabOk rfl rfl rfl (by first | exact ba_len _ _ | exact in_len _ | exact na_len _ | (simp only [ba_len, in_len, na_len]) | rfl) (by first | exact ba_one _ _ | exact in_one _ | exact na_one _ | rfl) (by first | exact ba_len _ _ | exact in_len _ | exact na_len _ | (simp only [ba_len, in_len, na_len]) | rfl) ?_)))
       | (refine z_st1 rfl rfl ?_; first
       | (refine o_store rfl tabOk rfl rfl rfl rfl rfl (by first | exact ba_at _ (by omega) | exact i64l_at _ (by omega) | exact i64l_at _ (by rw [os_len]; omega) | rfl) (by first | exact ba_set _ _ _ _ | exact in_set_n _ (by omega) _ | exact in_set_f _ _ | rfl) ?_)
       | ((refine z_sti 1 rfl rfl ?_; refine o_store1 rfl tabOk rfl rfl rfl rfl rfl (by first | exact ba_at _ (by omega) | exact i64l_at _ (by omega) | exact i64l_at _ (by rw [os_len]; omega) | rfl) (by first | exact ba_set _ _ _ _ | exact in_set_n _ (by omega) _ | exact in_set_f _ _ | rfl) ?_))
       | ((refine z_sti 2 rfl rfl ?_; refine o_store2 rfl tabOk rfl rfl rfl rfl rfl (by first | exact ba_at _ (by omega) | exact i64l_at _ (by omega) | exact i64l_at _ (by rw [os_len]; omega) | rfl) (by first | exact ba_set _ _ _ _ | exact in_set_n _ (by omega) _ | exact in_set_f _ _ | rfl) ?_))
       | ((refine z_sti 3 rfl rfl ?_; refine o_store3 rfl tabOk rfl rfl rfl rfl rfl (by first | exact ba_at _ (by omega) | exact i64l_at _ (by omega) | exact i64l_at _ (by rw [os_len]; omega) | rfl) (by first | exact ba_set _ _ _ _ | exact in_set_n _ (by omega) _ | exact in_set_f _ _ | rfl) ?_))
       | ((refine z_sti 4 rfl rfl ?_; refine o_store4 rfl tabOk rfl rfl rfl rfl rfl (by first | exact ba_at _ (by omega) | exact i64l_at _ (by omega) | exact i64l_at _ (by rw [os_len]; omega) | rfl) (by first | exact ba_set _ _ _ _ | exact in_set_n _ (by omega) _ | exact in_set_f _ _ | rfl) ?_))
       | ((refine z_sti 5 rfl rfl ?_; refine o_store5 rfl tabOk rfl rfl rfl rfl rfl (by first | exact ba_at _ (by omega) | exact i64l_at _ (by omega) | exact i64l_at _ (by rw [os_len]; omega) | rfl) (by first | exact ba_set _ _ _ _ | exact in_set_n _ (by omega) _ | exact in_set_f _ _ | rfl) ?_))
       | ((refine z_sti 6 rfl rfl ?_; refine o_store6 rfl tabOk rfl rfl rfl rfl rfl (by first | exact ba_at _ (by omega) | exact i64l_at _ (by omega) | exact i64l_at _ (by rw [os_len]; omega) | rfl) (by first | exact ba_set _ _ _ _ | exact in_set_n _ (by omega) _ | exact in_set_f _ _ | rfl) ?_))))
       | (refine z_iscall ?_; first
       | ((refine z_iscallf 14 ?_; refine o_fn rfl Try.func14 rfl rfl rfl (awake25) (by decide) ?_)))
       | (refine z_ispick ?_; first
       | (refine o_pick1 rfl (by first | with_reducible rfl | with_reducible assumption | ((with_reducible refine decide_eq_true ?_); first | with_reducible rfl | with_reducible assumption | omega)) rfl (by decide) ?_)
       | (refine o_pick0 rfl (by first | with_reducible rfl | with_reducible assumption | ((with_reducible refine decide_eq_false ?_); first | with_reducible assumption | omega)) rfl (by decide) ?_)
       | (refine o_pick1 rfl (by first | (simp only [Bool.not_eq_true', decide_eq_false_iff_not]; omega) | (with_reducible assumption) | (rw [decide_eq_false] <;> (first | omega | with_reducible rfl)) | (rw [decide_eq_true] <;> (first | omega | with_reducible rfl)) | (simp; done) | (simp; omega)) rfl (by decide) ?_)
       | (refine o_pick0 rfl (by first | (simp only [Bool.not_eq_false', decide_eq_true_eq]; omega) | (with_reducible assumption) | (rw [decide_eq_false] <;> (first | omega | with_reducible rfl)) | (rw [decide_eq_true] <;> (first | omega | with_reducible rfl)) | (simp; done) | (simp; omega)) rfl (by decide) ?_))
       | (refine z_isix ?_; first
       | refine o_index0 tabOk rfl rfl rfl rfl (by omega) (by omega) (by decide) ?_
       | refine o_index1 tabOk rfl rfl rfl rfl (by omega) (by omega) (by decide) ?_
       | refine o_indexsk1 tabOk rfl rfl rfl rfl (by omega) (by omega) (by decide) ?_
       | refine o_indexsk tabOk rfl rfl rfl rfl (by omega) (by omega) (by decide) ?_
       | refine o_indexs1 tabOk (by first | assumption | exact hne (by omega) | exact hne2 (by omega) | assumption) rfl rfl rfl rfl (by omega) (by omega) (by decide) ?_)
       | (refine z_isbi ?_; first
       | refine o_len tabOk rfl rfl (by decide) ?_
       | refine o_min rfl rfl (by decide) ?_
       | refine o_max rfl rfl (by decide) ?_)
       | refine o_move rfl (by decide) ?_
       | refine o_assign rfl (by decide) ?_
       | refine o_nil rfl (by decide) ?_
       | refine o_extract rfl rfl (by decide) ?_
       | refine o_not rfl (by decide) ?_
       | refine o_field0 tabOk rfl rfl rfl rfl rfl (by decide) ?_
       | refine o_field tabOk rfl rfl rfl rfl rfl (by decide) ?_
       | refine o_conv tabOk rfl rfl rfl (by decide) ?_))
    · have e1 : decide ((os (telN l l.length) (cnt 32)).getD ((i : Int)).toNat 0 ≠ 0) = false := by
        rw [hg, if_neg (by omega)]
        simp
      repeat' (first
       | (refine s_is ?_; first
       | (refine s_isagain ?_; first
       | exact c_again (i + 1) (by omega) (by omega) ⟨rfl, rfl, rfl, rfl, rfl, rfl, rfl, trivial⟩ (fun w h => h))
       | (refine s_isw ?_; first
       | refine c_seq ?_
       | refine c_block ?_
       | refine c_region ?_
       | refine c_mixed mixed (by kernel_rfl) ?_
       | refine c_skip ?_
       | refine c_ret ?_
       | refine c_exit ?_
       | (refine s_iscond ?_; first
       | (refine c_true rfl (by first | with_reducible rfl | with_reducible assumption | ((with_reducible refine decide_eq_true ?_); first | with_reducible rfl | with_reducible assumption | omega)) ?_)
       | (refine c_false rfl (by first | with_reducible rfl | with_reducible assumption | ((with_reducible refine decide_eq_false ?_); first | with_reducible assumption | omega)) ?_)
       | (refine c_true rfl (by first | (simp only [Bool.not_eq_true', decide_eq_false_iff_not]; omega) | (with_reducible assumption) | (rw [decide_eq_false] <;> (first | omega | with_reducible rfl)) | (rw [decide_eq_true] <;> (first | omega | with_reducible rfl)) | (simp; done) | (simp; omega)) ?_)
       | (refine c_false rfl (by first | (simp only [Bool.not_eq_false', decide_eq_true_eq]; omega) | (with_reducible assumption) | (rw [decide_eq_false] <;> (first | omega | with_reducible rfl)) | (rw [decide_eq_true] <;> (first | omega | with_reducible rfl)) | (simp; done) | (simp; omega)) ?_)
       | refine c_cond rfl (fun hc => ?_) (fun hc => ?_)
       | refine c_condb rfl (fun hc => ?_) (fun hc => ?_)))
       | refine x_then ?_
       | refine x_then_ret ?_
       | refine x_then_exit ?_
       | refine x_block _ ?_
       | refine x_block_ret _ ?_
       | refine x_block_exit _ ?_
       | refine x_block_past (by decide) ?_
       | refine z_tailm ?_)
       | (refine z_isg1 ?_; first
       | refine z_skipu (by decide) rfl rfl ?_
       | (refine z_want1 rfl rfl (by first | with_reducible rfl | with_reducible assumption | ((with_reducible refine decide_eq_true ?_); first | with_reducible rfl | with_reducible assumption | omega)) ?_)
       | (refine z_skip1 (by decide) rfl rfl (by first | with_reducible rfl | with_reducible assumption | ((with_reducible refine decide_eq_false ?_); first | with_reducible assumption | omega)) ?_)
       | (refine z_want1 rfl rfl (by first | (simp only [Bool.not_eq_true', decide_eq_false_iff_not]; omega) | (with_reducible assumption) | (rw [decide_eq_false] <;> (first | omega | with_reducible rfl)) | (rw [decide_eq_true] <;> (first | omega | with_reducible rfl)) | (simp; done) | (simp; omega)) ?_)
       | (refine z_skip1 (by decide) rfl rfl (by first | (simp only [Bool.not_eq_false', decide_eq_true_eq]; omega) | (with_reducible assumption) | (rw [decide_eq_false] <;> (first | omega | with_reducible rfl)) | (rw [decide_eq_true] <;> (first | omega | with_reducible rfl)) | (simp; done) | (simp; omega)) ?_)
       | refine z_guard1 (by decide) rfl rfl (fun hc => ?_) (fun hc => ?_)
       | refine z_guardb (by decide) rfl rfl (fun hc => ?_) (fun hc => ?_))
       | (refine z_isnil ?_; first
       | refine z_list ?_
       | refine z_mixed ?_
       | refine z_mono0 ?_
       | refine z_mono1 (by decide) fun g => ?_
       | refine z_mono2 (by decide) (by decide) fun g g' => ?_
       | refine z_mixedx ?_
       | refine z_quiet ?_)
       | (refine z_isop ?_; first
       | refine o_boxa rfl rfl (by decide) fun g => ?_
       | refine o_build0 (t := 34) (v := .agg In.zero.cs.toArray) (fun _ => by kernel_rfl) (by decide) ?_
       | refine o_build0 (t := 28) (v := .agg In.zero.cs.toArray) (fun _ => by kernel_rfl) (by decide) ?_
       | refine o_alloca (e := 31) (vs := ba 64 (fun _ => 0)) rfl (by kernel_rfl) (by decide) fun g => ?_
       | (refine z_isbin ?_; first
       | refine o_eqa cmp34 rfl rfl (in_typed _) (in_typed _) (by decide) ?_
       | refine o_eqa cmp28 rfl rfl (in_typed _) (in_typed _) (by decide) ?_
       | refine o_eqa cmp31 rfl rfl (da_typed _) (da_typed _) (by decide) ?_
       | (refine z_isb .add ?_; first
       | refine o_add rfl rfl (by omega) (by omega) (by decide) ?_
       | refine o_addw rfl rfl (by decide) ?_)
       | (refine z_isb .eql ?_; first
       | refine o_eq rfl rfl (by decide) ?_
       | refine o_beq tabOk rfl rfl rfl (by decide) ?_
       | refine o_peq tabOk rfl rfl (by decide) ?_)
       | (refine z_isb .neq ?_; first
       | refine o_ne rfl rfl (by decide) ?_
       | refine o_bne tabOk rfl rfl rfl (by decide) ?_
       | refine o_pne tabOk rfl rfl (by decide) ?_)
       | (refine z_isb .lss ?_; first
       | refine o_lt rfl rfl (by decide) ?_)
       | (refine z_isb .gtr ?_; first
       | refine o_gt rfl rfl (by decide) ?_)
       | (refine z_isb .rem ?_; first
       | refine o_rem rfl rfl (by omega) (by omega) (by decide) ?_
       | refine o_remk rfl rfl (by omega) (by omega) (by decide) ?_
       | refine o_remt rfl rfl (by omega) (by decide) ?_))
       | (refine z_isload ?_; first
       | refine o_loadp tabOk rfl rfl rfl 0 rfl (na_len _) (in_near _) (by decide) ?_
       | refine o_loadp tabOk rfl rfl rfl 1 rfl (na_len _) (in_near _) (by decide) ?_
       | refine o_loadp tabOk rfl rfl rfl 2 rfl (na_len _) (in_near _) (by decide) ?_
       | (refine z_ld1 tabOk rfl rfl ?_; first
       | (refine o_loadm tabOk rfl rfl rfl (by repeat' (first | exact List.mem_cons_self | apply List.mem_cons_of_mem)) (by first | exact ba_at _ (by omega) | exact i64l_at _ (by omega) | exact i64l_at _ (by rw [os_len]; omega) | rfl) (by decide) ?_)
       | (refine o_loads tabOk (by first | assumption | exact Rds.cons _ (by assumption) | exact Rds.cons _ (Rds.cons _ (by assumption)) | exact own_rds 0 rfl | exact own_rds 1 rfl | exact own_rds 2 rfl) rfl rfl rfl (by first | exact ba_at _ (by omega) | exact i64l_at _ (by omega) | exact i64l_at _ (by rw [os_len]; omega) | rfl) (by decide) ?_))
       | (refine z_ldw tabOk rfl rfl ?_; first
       | refine o_loadwm tabOk rfl rfl rfl (by repeat' (first | exact List.mem_cons_self | apply List.mem_cons_of_mem)) (by first | exact ba_len _ _ | exact in_len _ | exact na_len _ | (simp only [ba_len, in_len, na_len]) | rfl) (by decide) ?_))
       | (refine z_isstore ?_; first
       | (refine z_stw rfl ?_; first
       | ((refine z_sti 0 rfl rfl ?_; refine o_storeb0 rfl tabOk rfl rfl rfl (by first | exact ba_len _ _ | exact in_len _ | exact na_len _ | (simp only [ba_len, in_len, na_len]) | rfl) (by first | exact ba_one _ _ | exact in_one _ | exact na_one _ | rfl) (by first | exact ba_len _ _ | exact in_len _ | exact na_len _ | (simp only [ba_len, in_len, na_len]) | rfl) ?_))
       | ((refine z_sti 1 rfl rfl ?_; refine o_storeb1 rfl tabOk rfl rfl rfl (by first | exact ba_len _ _ | exact in_len _ | exact na_len _ | (simp only [ba_len, in_len, na_len]) | rfl) (by first | exact ba_one _ _ | exact in_one _ | exact na_one _ | rfl) (by first | exact ba_len _ _ | exact in_len _ | exact na_len _ | (simp only [ba_len, in_len, na_len]) | rfl) ?_))
       | ((refine z_sti 2 rfl rfl ?_; refine o_storeb2 rfl tabOk rfl rfl rfl (by first | exact ba_len _ _ | exact in_len _ | exact na_len _ | (simp only [ba_len, in_len, na_len]) | rfl) (by first | exact ba_one _ _ | exact in_one _ | exact na_one _ | rfl) (by first | exact ba_len _ _ | exact in_len _ | exact na_len _ | (simp only [ba_len, in_len, na_len]) | rfl) ?_))
       | ((refine z_sti 3 rfl rfl ?_; refine o_storeb3 rfl tabOk rfl rfl rfl (by first | exact ba_len _ _ | exact in_len _ | exact na_len _ | (simp only [ba_len, in_len, na_len]) | rfl) (by first | exact ba_one _ _ | exact in_one _ | exact na_one _ | rfl) (by first | exact ba_len _ _ | exact in_len _ | exact na_len _ | (simp only [ba_len, in_len, na_len]) | rfl) ?_))
       | ((refine z_sti 4 rfl rfl ?_; refine o_storeb4 rfl tabOk rfl rfl rfl (by first | exact ba_len _ _ | exact in_len _ | exact na_len _ | (simp only [ba_len, in_len, na_len]) | rfl) (by first | exact ba_one _ _ | exact in_one _ | exact na_one _ | rfl) (by first | exact ba_len _ _ | exact in_len _ | exact na_len _ | (simp only [ba_len, in_len, na_len]) | rfl) ?_))
       | ((refine z_sti 5 rfl rfl ?_; refine o_storeb5 rfl tabOk rfl rfl rfl (by first | exact ba_len _ _ | exact in_len _ | exact na_len _ | (simp only [ba_len, in_len, na_len]) | rfl) (by first | exact ba_one _ _ | exact in_one _ | exact na_one _ | rfl) (by first | exact ba_len _ _ | exact in_len _ | exact na_len _ | (simp only [ba_len, in_len, na_len]) | rfl) ?_))
       | ((refine z_sti 6 rfl rfl ?_; refine o_storeb6 rfl tabOk rfl rfl rfl (by first | exact ba_len _ _ | exact in_len _ | exact na_len _ | (simp only [ba_len, in_len, na_len]) | rfl) (by first | exact ba_one _ _ | exact in_one _ | exact na_one _ | rfl) (by first | exact ba_len _ _ | exact in_len _ | exact na_len _ | (simp only [ba_len, in_len, na_len]) | rfl) ?_)))
       | (refine z_st1 rfl rfl ?_; first
       | (refine o_store rfl tabOk rfl rfl rfl rfl rfl (by first | exact ba_at _ (by omega) | exact i64l_at _ (by omega) | exact i64l_at _ (by rw [os_len]; omega) | rfl) (by first | exact ba_set _ _ _ _ | exact in_set_n _ (by omega) _ | exact in_set_f _ _ | rfl) ?_)
       | ((refine z_sti 1 rfl rfl ?_; refine o_store1 rfl tabOk rfl rfl rfl rfl rfl (by first | exact ba_at _ (by omega) | exact i64l_at _ (by omega) | exact i64l_at _ (by rw [os_len]; omega) | rfl) (by first | exact ba_set _ _ _ _ | exact in_set_n _ (by omega) _ | exact in_set_f _ _ | rfl) ?_))
       | ((refine z_sti 2 rfl rfl ?_; refine o_store2 rfl tabOk rfl rfl rfl rfl rfl (by first | exact ba_at _ (by omega) | exact i64l_at _ (by omega) | exact i64l_at _ (by rw [os_len]; omega) | rfl) (by first | exact ba_set _ _ _ _ | exact in_set_n _ (by omega) _ | exact in_set_f _ _ | rfl) ?_))
       | ((refine z_sti 3 rfl rfl ?_; refine o_store3 rfl tabOk rfl rfl rfl rfl rfl (by first | exact ba_at _ (by omega) | exact i64l_at _ (by omega) | exact i64l_at _ (by rw [os_len]; omega) | rfl) (by first | exact ba_set _ _ _ _ | exact in_set_n _ (by omega) _ | exact in_set_f _ _ | rfl) ?_))
       | ((refine z_sti 4 rfl rfl ?_; refine o_store4 rfl tabOk rfl rfl rfl rfl rfl (by first | exact ba_at _ (by omega) | exact i64l_at _ (by omega) | exact i64l_at _ (by rw [os_len]; omega) | rfl) (by first | exact ba_set _ _ _ _ | exact in_set_n _ (by omega) _ | exact in_set_f _ _ | rfl) ?_))
       | ((refine z_sti 5 rfl rfl ?_; refine o_store5 rfl tabOk rfl rfl rfl rfl rfl (by first | exact ba_at _ (by omega) | exact i64l_at _ (by omega) | exact i64l_at _ (by rw [os_len]; omega) | rfl) (by first | exact ba_set _ _ _ _ | exact in_set_n _ (by omega) _ | exact in_set_f _ _ | rfl) ?_))
       | ((refine z_sti 6 rfl rfl ?_; refine o_store6 rfl tabOk rfl rfl rfl rfl rfl (by first | exact ba_at _ (by omega) | exact i64l_at _ (by omega) | exact i64l_at _ (by rw [os_len]; omega) | rfl) (by first | exact ba_set _ _ _ _ | exact in_set_n _ (by omega) _ | exact in_set_f _ _ | rfl) ?_))))
       | (refine z_iscall ?_; first
       | ((refine z_iscallf 14 ?_; refine o_fn rfl Try.func14 rfl rfl rfl (awake25) (by decide) ?_)))
       | (refine z_ispick ?_; first
       | (refine o_pick1 rfl (by first | with_reducible rfl | with_reducible assumption | ((with_reducible refine decide_eq_true ?_); first | with_reducible rfl | with_reducible assumption | omega)) rfl (by decide) ?_)
       | (refine o_pick0 rfl (by first | with_reducible rfl | with_reducible assumption | ((with_reducible refine decide_eq_false ?_); first | with_reducible assumption | omega)) rfl (by decide) ?_)
       | (refine o_pick1 rfl (by first | (simp only [Bool.not_eq_true', decide_eq_false_iff_not]; omega) | (with_reducible assumption) | (rw [decide_eq_false] <;> (first | omega | with_reducible rfl)) | (rw [decide_eq_true] <;> (first | omega | with_reducible rfl)) | (simp; done) | (simp; omega)) rfl (by decide) ?_)
       | (refine o_pick0 rfl (by first | (simp only [Bool.not_eq_false', decide_eq_true_eq]; omega) | (with_reducible assumption) | (rw [decide_eq_false] <;> (first | omega | with_reducible rfl)) | (rw [decide_eq_true] <;> (first | omega | with_reducible rfl)) | (simp; done) | (simp; omega)) rfl (by decide) ?_))
       | (refine z_isix ?_; first
       | refine o_index0 tabOk rfl rfl rfl rfl (by omega) (by omega) (by decide) ?_
       | refine o_index1 tabOk rfl rfl rfl rfl (by omega) (by omega) (by decide) ?_
       | refine o_indexsk1 tabOk rfl rfl rfl rfl (by omega) (by omega) (by decide) ?_
       | refine o_indexsk tabOk rfl rfl rfl rfl (by omega) (by omega) (by decide) ?_
       | refine o_indexs1 tabOk (by first | assumption | exact hne (by omega) | exact hne2 (by omega) | assumption) rfl rfl rfl rfl (by omega) (by omega) (by decide) ?_)
       | (refine z_isbi ?_; first
       | refine o_len tabOk rfl rfl (by decide) ?_
       | refine o_min rfl rfl (by decide) ?_
       | refine o_max rfl rfl (by decide) ?_)
       | refine o_move rfl (by decide) ?_
       | refine o_assign rfl (by decide) ?_
       | refine o_nil rfl (by decide) ?_
       | refine o_extract rfl rfl (by decide) ?_
       | refine o_not rfl (by decide) ?_
       | refine o_field0 tabOk rfl rfl rfl rfl rfl (by decide) ?_
       | refine o_field tabOk rfl rfl rfl rfl rfl (by decide) ?_
       | refine o_conv tabOk rfl rfl rfl (by decide) ?_))
  · skip
    repeat' (first
     | refine z_mono0w ?_
     | (refine s_is ?_; first
     | (refine c_free0 ⟨[57, 58], []⟩ [0, 3, 1, 2, 4, 5, 6, 7, 8, 9, 10, 11, 12, 13, 14] (id := 23) mixed (by kernel_rfl) ?_)
     | (refine s_isret ?_; first
     | exact f_r1 rfl (res_t rfl) () trivial (by first | rfl | simp only [eq]) (fun w h => h.sub (List.sublist_append_right [_, _, _, _, _] _)))
     | (refine s_isw ?_; first
     | refine c_seq ?_
     | refine c_block ?_
     | refine c_region ?_
     | refine c_mixed mixed (by kernel_rfl) ?_
     | refine c_skip ?_
     | refine c_ret ?_
     | refine c_exit ?_
     | (refine s_iscond ?_; first
     | (refine c_true rfl (by first | with_reducible rfl | with_reducible assumption | ((with_reducible refine decide_eq_true ?_); first | with_reducible rfl | with_reducible assumption | omega)) ?_)
     | (refine c_false rfl (by first | with_reducible rfl | with_reducible assumption | ((with_reducible refine decide_eq_false ?_); first | with_reducible assumption | omega)) ?_)
     | (refine c_true rfl (by first | (simp only [Bool.not_eq_true', decide_eq_false_iff_not]; omega) | (with_reducible assumption) | (rw [decide_eq_false] <;> (first | omega | with_reducible rfl)) | (rw [decide_eq_true] <;> (first | omega | with_reducible rfl)) | (simp; done) | (simp; omega)) ?_)
     | (refine c_false rfl (by first | (simp only [Bool.not_eq_false', decide_eq_true_eq]; omega) | (with_reducible assumption) | (rw [decide_eq_false] <;> (first | omega | with_reducible rfl)) | (rw [decide_eq_true] <;> (first | omega | with_reducible rfl)) | (simp; done) | (simp; omega)) ?_)
     | refine c_cond rfl (fun hc => ?_) (fun hc => ?_)
     | refine c_condb rfl (fun hc => ?_) (fun hc => ?_)))
     | refine x_then ?_
     | refine x_then_ret ?_
     | refine x_then_exit ?_
     | refine x_block _ ?_
     | refine x_block_ret _ ?_
     | refine x_block_exit _ ?_
     | refine x_block_past (by decide) ?_
     | refine z_tailm ?_)
     | (refine z_isg1 ?_; first
     | refine z_skipu (by decide) rfl rfl ?_
     | (refine z_want1 rfl rfl (by first | with_reducible rfl | with_reducible assumption | ((with_reducible refine decide_eq_true ?_); first | with_reducible rfl | with_reducible assumption | omega)) ?_)
     | (refine z_skip1 (by decide) rfl rfl (by first | with_reducible rfl | with_reducible assumption | ((with_reducible refine decide_eq_false ?_); first | with_reducible assumption | omega)) ?_)
     | (refine z_want1 rfl rfl (by first | (simp only [Bool.not_eq_true', decide_eq_false_iff_not]; omega) | (with_reducible assumption) | (rw [decide_eq_false] <;> (first | omega | with_reducible rfl)) | (rw [decide_eq_true] <;> (first | omega | with_reducible rfl)) | (simp; done) | (simp; omega)) ?_)
     | (refine z_skip1 (by decide) rfl rfl (by first | (simp only [Bool.not_eq_false', decide_eq_true_eq]; omega) | (with_reducible assumption) | (rw [decide_eq_false] <;> (first | omega | with_reducible rfl)) | (rw [decide_eq_true] <;> (first | omega | with_reducible rfl)) | (simp; done) | (simp; omega)) ?_)
     | refine z_guard1 (by decide) rfl rfl (fun hc => ?_) (fun hc => ?_)
     | refine z_guardb (by decide) rfl rfl (fun hc => ?_) (fun hc => ?_))
     | (refine z_isnil ?_; first
     | refine z_list ?_
     | refine z_mixed ?_
     | refine z_mono0 ?_
     | refine z_mono1 (by decide) fun g => ?_
     | refine z_mono2 (by decide) (by decide) fun g g' => ?_
     | refine z_mixedx ?_
     | refine z_quiet ?_)
     | (refine z_isop ?_; first
     | refine o_boxa rfl rfl (by decide) fun g => ?_
     | refine o_build0 (t := 34) (v := .agg In.zero.cs.toArray) (fun _ => by kernel_rfl) (by decide) ?_
     | refine o_build0 (t := 28) (v := .agg In.zero.cs.toArray) (fun _ => by kernel_rfl) (by decide) ?_
     | refine o_alloca (e := 31) (vs := ba 64 (fun _ => 0)) rfl (by kernel_rfl) (by decide) fun g => ?_
     | (refine z_isbin ?_; first
     | refine o_eqa cmp34 rfl rfl (in_typed _) (in_typed _) (by decide) ?_
     | refine o_eqa cmp28 rfl rfl (in_typed _) (in_typed _) (by decide) ?_
     | refine o_eqa cmp31 rfl rfl (da_typed _) (da_typed _) (by decide) ?_
     | (refine z_isb .add ?_; first
     | refine o_add rfl rfl (by omega) (by omega) (by decide) ?_
     | refine o_addw rfl rfl (by decide) ?_)
     | (refine z_isb .eql ?_; first
     | refine o_eq rfl rfl (by decide) ?_
     | refine o_beq tabOk rfl rfl rfl (by decide) ?_
     | refine o_peq tabOk rfl rfl (by decide) ?_)
     | (refine z_isb .neq ?_; first
     | refine o_ne rfl rfl (by decide) ?_
     | refine o_bne tabOk rfl rfl rfl (by decide) ?_
     | refine o_pne tabOk rfl rfl (by decide) ?_)
     | (refine z_isb .lss ?_; first
     | refine o_lt rfl rfl (by decide) ?_)
     | (refine z_isb .gtr ?_; first
     | refine o_gt rfl rfl (by decide) ?_)
     | (refine z_isb .rem ?_; first
     | refine o_rem rfl rfl (by omega) (by omega) (by decide) ?_
     | refine o_remk rfl rfl (by omega) (by omega) (by decide) ?_
     | refine o_remt rfl rfl (by omega) (by decide) ?_))
     | (refine z_isload ?_; first
     | refine o_loadp tabOk rfl rfl rfl 0 rfl (na_len _) (in_near _) (by decide) ?_
     | refine o_loadp tabOk rfl rfl rfl 1 rfl (na_len _) (in_near _) (by decide) ?_
     | refine o_loadp tabOk rfl rfl rfl 2 rfl (na_len _) (in_near _) (by decide) ?_
     | (refine z_ld1 tabOk rfl rfl ?_; first
     | (refine o_loadm tabOk rfl rfl rfl (by repeat' (first | exact List.mem_cons_self | apply List.mem_cons_of_mem)) (by first | exact ba_at _ (by omega) | exact i64l_at _ (by omega) | exact i64l_at _ (by rw [os_len]; omega) | rfl) (by decide) ?_)
     | (refine o_loads tabOk (by first | assumption | exact Rds.cons _ (by assumption) | exact Rds.cons _ (Rds.cons _ (by assumption)) | exact own_rds 0 rfl | exact own_rds 1 rfl | exact own_rds 2 rfl) rfl rfl rfl (by first | exact ba_at _ (by omega) | exact i64l_at _ (by omega) | exact i64l_at _ (by rw [os_len]; omega) | rfl) (by decide) ?_))
     | (refine z_ldw tabOk rfl rfl ?_; first
     | refine o_loadwm tabOk rfl rfl rfl (by repeat' (first | exact List.mem_cons_self | apply List.mem_cons_of_mem)) (by first | exact ba_len _ _ | exact in_len _ | exact na_len _ | (simp only [ba_len, in_len, na_len]) | rfl) (by decide) ?_))
     | (refine z_isstore ?_; first
     | (refine z_stw rfl ?_; first
     | ((refine z_sti 0 rfl rfl ?_; refine o_storeb0 rfl tabOk rfl rfl rfl (by first | exact ba_len _ _ | exact in_len _ | exact na_len _ | (simp only [ba_len, in_len, na_len]) | rfl) (by first | exact ba_one _ _ | exact in_one _ | exact na_one _ | rfl) (by first | exact ba_len _ _ | exact in_len _ | exact na_len _ | (simp only [ba_len, in_len, na_len]) | rfl) ?_))
     | ((refine z_sti 1 rfl rfl ?_; refine o_storeb1 rfl tabOk rfl rfl rfl (by first | exact ba_len _ _ | exact in_len _ | exact na_len _ | (simp only [ba_len, in_len, na_len]) | rfl) (by first | exact ba_one _ _ | exact in_one _ | exact na_one _ | rfl) (by first | exact ba_len _ _ | exact in_len _ | exact na_len _ | (simp only [ba_len, in_len, na_len]) | rfl) ?_))
     | ((refine z_sti 2 rfl rfl ?_; refine o_storeb2 rfl tabOk rfl rfl rfl (by first | exact ba_len _ _ | exact in_len _ | exact na_len _ | (simp only [ba_len, in_len, na_len]) | rfl) (by first | exact ba_one _ _ | exact in_one _ | exact na_one _ | rfl) (by first | exact ba_len _ _ | exact in_len _ | exact na_len _ | (simp only [ba_len, in_len, na_len]) | rfl) ?_))
     | ((refine z_sti 3 rfl rfl ?_; refine o_storeb3 rfl tabOk rfl rfl rfl (by first | exact ba_len _ _ | exact in_len _ | exact na_len _ | (simp only [ba_len, in_len, na_len]) | rfl) (by first | exact ba_one _ _ | exact in_one _ | exact na_one _ | rfl) (by first | exact ba_len _ _ | exact in_len _ | exact na_len _ | (simp only [ba_len, in_len, na_len]) | rfl) ?_))
     | ((refine z_sti 4 rfl rfl ?_; refine o_storeb4 rfl tabOk rfl rfl rfl (by first | exact ba_len _ _ | exact in_len _ | exact na_len _ | (simp only [ba_len, in_len, na_len]) | rfl) (by first | exact ba_one _ _ | exact in_one _ | exact na_one _ | rfl) (by first | exact ba_len _ _ | exact in_len _ | exact na_len _ | (simp only [ba_len, in_len, na_len]) | rfl) ?_))
     | ((refine z_sti 5 rfl rfl ?_; refine o_storeb5 rfl tabOk rfl rfl rfl (by first | exact ba_len _ _ | exact in_len _ | exact na_len _ | (simp only [ba_len, in_len, na_len]) | rfl) (by first | exact ba_one _ _ | exact in_one _ | exact na_one _ | rfl) (by first | exact ba_len _ _ | exact in_len _ | exact na_len _ | (simp only [ba_len, in_len, na_len]) | rfl) ?_))
     | ((refine z_sti 6 rfl rfl ?_; refine o_storeb6 rfl tabOk rfl rfl rfl (by first | exact ba_len _ _ | exact in_len _ | exact na_len _ | (simp only [ba_len, in_len, na_len]) | rfl) (by first | exact ba_one _ _ | exact in_one _ | exact na_one _ | rfl) (by first | exact ba_len _ _ | exact in_len _ | exact na_len _ | (simp only [ba_len, in_len, na_len]) | rfl) ?_)))
     | (refine z_st1 rfl rfl ?_; first
     | (refine o_store rfl tabOk rfl rfl rfl rfl rfl (by first | exact ba_at _ (by omega) | exact i64l_at _ (by omega) | exact i64l_at _ (by rw [os_len]; omega) | rfl) (by first | exact ba_set _ _ _ _ | exact in_set_n _ (by omega) _ | exact in_set_f _ _ | rfl) ?_)
     | ((refine z_sti 1 rfl rfl ?_; refine o_store1 rfl tabOk rfl rfl rfl rfl rfl (by first | exact ba_at _ (by omega) | exact i64l_at _ (by omega) | exact i64l_at _ (by rw [os_len]; omega) | rfl) (by first | exact ba_set _ _ _ _ | exact in_set_n _ (by omega) _ | exact in_set_f _ _ | rfl) ?_))
     | ((refine z_sti 2 rfl rfl ?_; refine o_store2 rfl tabOk rfl rfl rfl rfl rfl (by first | exact ba_at _ (by omega) | exact i64l_at _ (by omega) | exact i64l_at _ (by rw [os_len]; omega) | rfl) (by first | exact ba_set _ _ _ _ | exact in_set_n _ (by omega) _ | exact in_set_f _ _ | rfl) ?_))
     | ((refine z_sti 3 rfl rfl ?_; refine o_store3 rfl tabOk rfl rfl rfl rfl rfl (by first | exact ba_at _ (by omega) | exact i64l_at _ (by omega) | exact i64l_at _ (by rw [os_len]; omega) | rfl) (by first | exact ba_set _ _ _ _ | exact in_set_n _ (by omega) _ | exact in_set_f _ _ | rfl) ?_))
     | ((refine z_sti 4 rfl rfl ?_; refine o_store4 rfl tabOk rfl rfl rfl rfl rfl (by first | exact ba_at _ (by omega) | exact i64l_at _ (by omega) | exact i64l_at _ (by rw [os_len]; omega) | rfl) (by first | exact ba_set _ _ _ _ | exact in_set_n _ (by omega) _ | exact in_set_f _ _ | rfl) ?_))
     | ((refine z_sti 5 rfl rfl ?_; refine o_store5 rfl tabOk rfl rfl rfl rfl rfl (by first | exact ba_at _ (by omega) | exact i64l_at _ (by omega) | exact i64l_at _ (by rw [os_len]; omega) | rfl) (by first | exact ba_set _ _ _ _ | exact in_set_n _ (by omega) _ | exact in_set_f _ _ | rfl) ?_))
     | ((refine z_sti 6 rfl rfl ?_; refine o_store6 rfl tabOk rfl rfl rfl rfl rfl (by first | exact ba_at _ (by omega) | exact i64l_at _ (by omega) | exact i64l_at _ (by rw [os_len]; omega) | rfl) (by first | exact ba_set _ _ _ _ | exact in_set_n _ (by omega) _ | exact in_set_f _ _ | rfl) ?_))))
     | (refine z_iscall ?_; first
     | ((refine z_iscallf 15 ?_; refine o_calla Try.func15 rfl rfl rfl (ofb_c xs A2 c2 _ (by repeat (first | exact hrd2 | apply Rds.cons)) hx2) (by decide) fun _ _ => ?_))
     | ((refine z_iscallf 24 ?_; refine z_isdst 50 ?_; refine o_calla Try.func24 rfl rfl rfl (others_c _ hb n _) (by decide) fun y _ => ?_))
     | ((refine z_iscallf 24 ?_; refine z_isdst 57 ?_; refine o_callx1 Try.func24 rfl rfl rfl (others_c _ hb 40 _) (by decide) (by decide) fun u _ => ?_))
     | ((refine z_iscallf 23 ?_; refine z_isdst 58 ?_; refine o_callx0 Try.func23 rfl rfl rfl (tell_os _ _ _ _ _ (own_rds 0 rfl) (by omega)) (by decide) (by decide) ?_))
     | ((refine z_iscallf 14 ?_; refine o_fn rfl Try.func14 rfl rfl rfl (awake25) (by decide) ?_)))
     | (refine z_ispick ?_; first
     | (refine o_pick1 rfl (by first | with_reducible rfl | with_reducible assumption | ((with_reducible refine decide_eq_true ?_); first | with_reducible rfl | with_reducible assumption | omega)) rfl (by decide) ?_)
     | (refine o_pick0 rfl (by first | with_reducible rfl | with_reducible assumption | ((with_reducible refine decide_eq_false ?_); first | with_reducible assumption | omega)) rfl (by decide) ?_)
     | (refine o_pick1 rfl (by first | (simp only [Bool.not_eq_true', decide_eq_false_iff_not]; omega) | (with_reducible assumption) | (rw [decide_eq_false] <;> (first | omega | with_reducible rfl)) | (rw [decide_eq_true] <;> (first | omega | with_reducible rfl)) | (simp; done) | (simp; omega)) rfl (by decide) ?_)
     | (refine o_pick0 rfl (by first | (simp only [Bool.not_eq_false', decide_eq_true_eq]; omega) | (with_reducible assumption) | (rw [decide_eq_false] <;> (first | omega | with_reducible rfl)) | (rw [decide_eq_true] <;> (first | omega | with_reducible rfl)) | (simp; done) | (simp; omega)) rfl (by decide) ?_))
     | (refine z_isix ?_; first
     | refine o_index0 tabOk rfl rfl rfl rfl (by omega) (by omega) (by decide) ?_
     | refine o_index1 tabOk rfl rfl rfl rfl (by omega) (by omega) (by decide) ?_
     | refine o_indexsk1 tabOk rfl rfl rfl rfl (by omega) (by omega) (by decide) ?_
     | refine o_indexsk tabOk rfl rfl rfl rfl (by omega) (by omega) (by decide) ?_
     | refine o_indexs1 tabOk (by first | assumption | exact hne (by omega) | exact hne2 (by omega) | assumption) rfl rfl rfl rfl (by omega) (by omega) (by decide) ?_)
     | (refine z_isbi ?_; first
     | refine o_len tabOk rfl rfl (by decide) ?_
     | refine o_min rfl rfl (by decide) ?_
     | refine o_max rfl rfl (by decide) ?_)
     | refine o_move rfl (by decide) ?_
     | refine o_assign rfl (by decide) ?_
     | refine o_nil rfl (by decide) ?_
     | refine o_extract rfl rfl (by decide) ?_
     | refine o_not rfl (by decide) ?_
     | refine o_field0 tabOk rfl rfl rfl rfl rfl (by decide) ?_
     | refine o_field tabOk rfl rfl rfl rfl rfl (by decide) ?_
     | refine o_conv tabOk rfl rfl rfl (by decide) ?_))
end Go.Proofs.Ytmfnjmmdchlkiaa
