/-
Walks over package inode: numbers of blocks, numbers of two bytes, and whether an inode may be.
-/
import Derived.Test.YtmfnjmmdchlkiaaTab
import Derived.Test.YtmfnjmmdchlkiaaEngT
namespace Go.Proofs.Ytmfnjmmdchlkiaa
set_option linter.unusedVariables false
set_option linter.unusedSimpArgs false
open Eng
theorem upd_int' (kd : IntKind) (r : Nat → Int) (i : Nat) (x : Int) : upd (fun i => Value.int kd (r i)) i (.int kd x) = fun j => .int kd (upd r i x j) := by
  funext j; unfold upd; split <;> rfl
/-- Bytes. -/
def ba (n : Nat) (r : Nat → Int) : List Value := arr n (fun i => .int .u8 (r i))
theorem ba_len (n : Nat) (r : Nat → Int) : (ba n r).length = n := arr_length _ _
theorem ba_at {n : Nat} (r : Nat → Int) {i : Nat} (h : i < n) : (ba n r)[i]? = some (.int .u8 (r i)) := arr_get h
theorem ba_set (n : Nat) (r : Nat → Int) (i : Nat) (x : Int) : (ba n r).set i (.int .u8 x) = ba n (upd r i x) := by unfold ba; rw [arr_set, upd_int']
theorem ba_one (n : Nat) (r : Nat → Int) : (ba n r).all (·.oneCell') = true := by simp [ba, arr]; intros; rfl
theorem ba_congr {n : Nat} {r s : Nat → Int} (h : ∀ i, i < n → r i = s i) : ba n r = ba n s := arr_congr fun i hi => by rw [h i hi]
/-- The first blocks. -/
def na (r : Nat → Int) : List Value := arr 8 (fun i => .int .i64 (r i))
theorem na_len (r : Nat → Int) : (na r).length = 8 := arr_length _ _
theorem na_at (r : Nat → Int) {i : Nat} (h : i < 8) : (na r)[i]? = some (.int .i64 (r i)) := arr_get h
theorem na_set (r : Nat → Int) (i : Nat) (x : Int) : (na r).set i (.int .i64 x) = na (upd r i x) := by unfold na; rw [arr_set, upd_int']
theorem na_one (r : Nat → Int) : (na r).all (·.oneCell') = true := by simp [na, arr]; intros; rfl
/-- An inode. -/
structure In where
  k : Int
  s : Int
  nr : Nat → Int
  f : Int
def In.zero : In := ⟨0, 0, fun _ => 0, 0⟩
def In.cs (x : In) : List Value := .int .i64 x.k :: .int .i64 x.s :: (na x.nr ++ [.int .i64 x.f])
theorem in_len (x : In) : x.cs.length = 11 := by simp [In.cs, na_len]
theorem in_one (x : In) : x.cs.all (·.oneCell') = true := by
  simp only [In.cs, List.all_cons, List.all_append, na_one, List.all_nil, Bool.and_true, Bool.true_and]
  rfl
theorem in_k (x : In) : x.cs[0]? = some (.int .i64 x.k) := rfl
theorem in_s (x : In) : x.cs[1]? = some (.int .i64 x.s) := rfl
theorem in_n (x : In) {i : Nat} (h : i < 8) : x.cs[2 + i]? = some (.int .i64 (x.nr i)) := by
  rw [show 2 + i = i + 1 + 1 by omega]
  show (na x.nr ++ _)[i]? = _
  rw [List.getElem?_append_left (by rw [na_len]; exact h), na_at _ h]
theorem in_f (x : In) : x.cs[10]? = some (.int .i64 x.f) := by
  show (na x.nr ++ _)[8]? = _
  rw [List.getElem?_append_right (by rw [na_len]; omega), na_len]; rfl
theorem in_near (x : In) : ∀ (j : Nat) u, (na x.nr)[j]? = some u → x.cs[2 + j]? = some u := fun j u h => by
  have hj : j < 8 := by
    have := (List.getElem?_eq_some_iff.1 h).1
    rwa [na_len] at this
  rw [na_at _ hj] at h
  rw [in_n x hj, h]
theorem in_set_n (x : In) {i : Nat} (h : i < 8) (v : Int) : x.cs.set (2 + i) (.int .i64 v) = ({ x with nr := upd x.nr i v } : In).cs := by
  rw [show 2 + i = i + 1 + 1 by omega]
  show Value.int .i64 x.k :: Value.int .i64 x.s :: (na x.nr ++ _).set i _ = _
  rw [List.set_append_left _ _ (by rw [na_len]; exact h), na_set]; rfl
theorem in_set_f (x : In) (v : Int) : x.cs.set 10 (.int .i64 v) = ({ x with f := v } : In).cs := by
  show Value.int .i64 x.k :: Value.int .i64 x.s :: (na x.nr ++ _).set 8 _ = _
  rw [List.set_append_right _ _ (by rw [na_len]; omega), na_len]; rfl
def inK : List CK := .int .i64 :: .int .i64 :: (List.replicate 8 (.int .i64) ++ [.int .i64])
theorem typed_arr (k : CK) (f : Nat → Value) (hf : ∀ i, Typed [k] [f i]) : ∀ n, Typed (List.replicate n k) (arr n f)
  | 0 => trivial
  | n + 1 => by
    rw [List.replicate_succ', show arr (n + 1) f = arr n f ++ [f n] by simp [arr, List.range_succ]]
    exact (typed_arr k f hf n).append (hf n)
theorem in_typed (x : In) : Typed inK x.cs := ⟨rfl, rfl, (typed_arr (.int .i64) (fun i => .int .i64 (x.nr i)) (fun i => (⟨rfl, trivial⟩ : _ ∧ True)) 8).append (⟨rfl, trivial⟩ : _ ∧ True)⟩
theorem cmp34 : Cmp Try.prog 34 inK := ⟨by kernel_rfl, .inr ⟨_, Try.underlying34⟩, by kernel_rfl⟩
theorem cmp28 : Cmp Try.prog 28 inK := ⟨by kernel_rfl, .inr ⟨_, Try.underlying28⟩, by kernel_rfl⟩
def blk (s : Int) : Int := if s ≤ 0 then 0 else min ((s - 1) / 64 + 1) 40
theorem blk_le (s : Int) : 0 ≤ blk s ∧ blk s ≤ 40 := by unfold blk; split <;> omega
def allB (s : Int) : Int := if 8 < blk s then blk s + 1 else blk s
def numOk (n : Int) (m : Bool) : Bool := decide (0 ≤ n) && (decide (n < 512) && (decide (0 < n) == m))
def upTo (n : Nat) (f : Nat → Bool) : Bool := (List.range n).all f
theorem upTo_iff {n : Nat} {f : Nat → Bool} : upTo n f = true ↔ ∀ i, i < n → f i = true := by simp [upTo]
theorem upTo_no {n i : Nat} {f : Nat → Bool} (hi : i < n) (h : f i = false) : upTo n f = false := by
  cases hu : upTo n f with
  | false => rfl
  | true => rw [upTo_iff.1 hu i hi] at h; cases h
/-- May an inode be? -/
def right (x : In) : Bool :=
  if x.k = 0 then eqB x.cs In.zero.cs
  else if (x.k = 1 ∨ x.k = 2) ∧ 0 ≤ x.s ∧ x.s ≤ 2560 ∧ (x.k = 2 → x.s % 64 = 0) then upTo 8 (fun i => numOk (x.nr i) (decide ((i : Int) < blk x.s))) && numOk x.f (decide (8 < blk x.s))
  else false
/-- The bytes of a number. -/
def lo (n : Int) : Int := IntKind.u8.wrap n
def hi (n : Int) : Int := IntKind.u8.wrap (shrv .i64 n 8)
/-- Each is a byte. -/
def By (r : Nat → Int) : Prop := ∀ j, 0 ≤ r j ∧ r j ≤ 255
/-- What two bytes tell. -/
def lg (r : Nat → Int) (o : Nat) : Int := r o + 256 * r (o + 1)
theorem or_shl {a b : Int} (ha : 0 ≤ a ∧ a ≤ 255) (hb : 0 ≤ b ∧ b ≤ 255) : bitv .or .i64 a (shlv .i64 b 8) = a + 256 * b := by
  have e1 : shlv .i64 b 8 = b * 256 := by
    unfold shlv
    rw [show (2 : Int) ^ (min (8 : Int).toNat IntKind.i64.bits) = 256 from rfl, wrap64_id (by omega) (by omega)]
  rw [e1]
  unfold bitv
  simp only [BitVec.toNat_or, BitVec.toNat_ofInt]
  have h1 : (a % ((2 ^ IntKind.i64.bits : Nat) : Int)).toNat = a.toNat := by
    rw [show ((2 ^ IntKind.i64.bits : Nat) : Int) = 18446744073709551616 from rfl]; omega
  have h2 : (b * 256 % ((2 ^ IntKind.i64.bits : Nat) : Int)).toNat = b.toNat <<< 8 := by
    rw [show ((2 ^ IntKind.i64.bits : Nat) : Int) = 18446744073709551616 from rfl, Nat.shiftLeft_eq]; omega
  rw [h1, h2, Nat.or_comm, ← Nat.shiftLeft_add_eq_or_of_lt (show a.toNat < 2 ^ 8 by omega), Nat.shiftLeft_eq, wrap64_id (by omega) (by omega)]
  omega
attribute [local irreducible] Eng.Hold Eng.Z Eng.S Eng.cells Eng.old Eng.own ba na In.cs blk lo hi lg numOk upTo
theorem blocks_fn (s : Int) (h0 : -9223372036854775808 ≤ s) (h1 : s ≤ 9223372036854775807) : Pf Try.prog 12 [.int .i64 s] (.int .i64 (blk s)) := by
  intro w hw
  refine f_enter Try.func12 rfl Try.ntmps12 rfl hw ?_
  repeat' (first
   | (refine s_is ?_; first
   | (refine s_isret ?_; first
   | (exact p_r1 rfl (res_t (by show some (Value.int _ _) = some (Value.int _ _); unfold blk; first | rw [if_pos (by omega)] | rw [if_neg (by omega)]))))
   | (refine s_isw ?_; first
   | refine c_seq ?_
   | refine c_block ?_
   | refine c_region ?_
   | refine c_mixed mixed (by kernel_rfl) ?_
   | refine c_skip ?_
   | refine c_ret ?_
   | refine c_exit ?_
   | (refine s_iscond ?_; first
   | (refine c_true rfl (by first | with_reducible rfl | with_reducible assumption | ((with_reducible refine decide_eq_true ?_); first | with_reducible rfl | with_reducible assumption | omega)) ?_)
   | (refine c_false rfl (by first | with_reducible rfl | with_reducible assumption | ((with_reducible refine decide_eq_false ?_); first | with_reducible assumption | omega)) ?_)
   | (refine c_true rfl (by first | (simp only [Bool.not_eq_true', decide_eq_false_iff_not]; omega) | (with_reducible assumption) | (rw [decide_eq_false] <;> (first | omega | with_reducible rfl)) | (rw [decide_eq_true] <;> (first | omega | with_reducible rfl)) | (simp; done) | (simp; omega)) ?_)
   | (refine c_false rfl (by first | (simp only [Bool.not_eq_false', decide_eq_true_eq]; omega) | (with_reducible assumption) | (rw [decide_eq_false] <;> (first | omega | with_reducible rfl)) | (rw [decide_eq_true] <;> (first | omega | with_reducible rfl)) | (simp; done) | (simp; omega)) ?_)
   | refine c_cond rfl (fun hc => ?_) (fun hc => ?_)
   | refine c_condb rfl (fun hc => ?_) (fun hc => ?_)))
   | refine x_then ?_
   | refine x_then_ret ?_
   | refine x_then_exit ?_
   | refine x_block _ ?_
   | refine x_block_ret _ ?_
   | refine x_block_exit _ ?_
   | refine x_block_past (by decide) ?_
   | refine z_tailm ?_)
   | (refine z_isnil ?_; first
   | refine z_list ?_
   | refine z_mixed ?_
   | refine z_mono0 ?_
   | refine z_mono1 (by decide) fun g => ?_
   | refine z_mono2 (by decide) (by decide) fun g g' => ?_
   | refine z_mixedx ?_
   | refine z_quiet ?_)
   | (refine z_isop ?_; first
   | (refine z_isbin ?_; first
   | (refine z_isb .add ?_; first
   | refine o_add rfl rfl (by omega) (by omega) (by decide) ?_
   | refine o_addw rfl rfl (by decide) ?_)
   | (refine z_isb .sub ?_; first
   | refine o_sub rfl rfl (by omega) (by omega) (by decide) ?_
   | refine o_subw rfl rfl (by decide) ?_)
   | (refine z_isb .leq ?_; first
   | refine o_le rfl rfl (by decide) ?_)
   | (refine z_isb .quo ?_; first
   | refine o_quo rfl rfl (by omega) (by omega) (by omega) (by decide) ?_
   | refine o_quo8 rfl rfl (by omega) (by omega) (by omega) (by decide) ?_
   | refine o_quot rfl rfl (by omega) (by decide) ?_))
   | (refine z_isbi ?_; first
   | refine o_len tabOk rfl rfl (by decide) ?_
   | refine o_min rfl rfl (by decide) ?_
   | refine o_max rfl rfl (by decide) ?_)
   | refine o_move rfl (by decide) ?_
   | refine o_assign rfl (by decide) ?_
   | refine o_nil rfl (by decide) ?_
   | refine o_extract rfl rfl (by decide) ?_
   | refine o_not rfl (by decide) ?_
   | refine o_field0 tabOk rfl rfl rfl rfl rfl (by decide) ?_
   | refine o_field tabOk rfl rfl rfl rfl rfl (by decide) ?_
   | refine o_conv tabOk rfl rfl rfl (by decide) ?_))
theorem all_fn (s : Int) (h0 : -9223372036854775808 ≤ s) (h1 : s ≤ 9223372036854775807) : Pf Try.prog 13 [.int .i64 s] (.int .i64 (allB s)) := by
  intro w hw
  have hb := blk_le s
  refine f_enter Try.func13 rfl Try.ntmps13 rfl hw ?_
  repeat' (first
   | (refine s_is ?_; first
   | (refine s_isret ?_; first
   | (exact p_r1 rfl (res_t (by show some (Value.int _ _) = some (Value.int _ _); unfold allB; first | rw [if_pos (by omega)] | rw [if_neg (by omega)]))))
   | (refine s_isw ?_; first
   | refine c_seq ?_
   | refine c_block ?_
   | refine c_region ?_
   | refine c_mixed mixed (by kernel_rfl) ?_
   | refine c_skip ?_
   | refine c_ret ?_
   | refine c_exit ?_
   | (refine s_iscond ?_; first
   | (refine c_true rfl (by first | with_reducible rfl | with_reducible assumption | ((with_reducible refine decide_eq_true ?_); first | with_reducible rfl | with_reducible assumption | omega)) ?_)
   | (refine c_false rfl (by first | with_reducible rfl | with_reducible assumption | ((with_reducible refine decide_eq_false ?_); first | with_reducible assumption | omega)) ?_)
   | (refine c_true rfl (by first | (simp only [Bool.not_eq_true', decide_eq_false_iff_not]; omega) | (with_reducible assumption) | (rw [decide_eq_false] <;> (first | omega | with_reducible rfl)) | (rw [decide_eq_true] <;> (first | omega | with_reducible rfl)) | (simp; done) | (simp; omega)) ?_)
   | (refine c_false rfl (by first | (simp only [Bool.not_eq_false', decide_eq_true_eq]; omega) | (with_reducible assumption) | (rw [decide_eq_false] <;> (first | omega | with_reducible rfl)) | (rw [decide_eq_true] <;> (first | omega | with_reducible rfl)) | (simp; done) | (simp; omega)) ?_)
   | refine c_cond rfl (fun hc => ?_) (fun hc => ?_)
   | refine c_condb rfl (fun hc => ?_) (fun hc => ?_)))
   | refine x_then ?_
   | refine x_then_ret ?_
   | refine x_then_exit ?_
   | refine x_block _ ?_
   | refine x_block_ret _ ?_
   | refine x_block_exit _ ?_
   | refine x_block_past (by decide) ?_
   | refine z_tailm ?_)
   | (refine z_isnil ?_; first
   | refine z_list ?_
   | refine z_mixed ?_
   | refine z_mono0 ?_
   | refine z_mono1 (by decide) fun g => ?_
   | refine z_mono2 (by decide) (by decide) fun g g' => ?_
   | refine z_mixedx ?_
   | refine z_quiet ?_)
   | (refine z_isop ?_; first
   | (refine z_isbin ?_; first
   | (refine z_isb .add ?_; first
   | refine o_add rfl rfl (by omega) (by omega) (by decide) ?_
   | refine o_addw rfl rfl (by decide) ?_)
   | (refine z_isb .gtr ?_; first
   | refine o_gt rfl rfl (by decide) ?_))
   | (refine z_iscall ?_; first
   | ((refine z_iscallf 12 ?_; refine o_fn rfl Try.func12 rfl rfl rfl (blocks_fn _ h0 h1) (by decide) ?_)))
   | refine o_move rfl (by decide) ?_
   | refine o_assign rfl (by decide) ?_
   | refine o_nil rfl (by decide) ?_
   | refine o_extract rfl rfl (by decide) ?_
   | refine o_not rfl (by decide) ?_
   | refine o_field0 tabOk rfl rfl rfl rfl rfl (by decide) ?_
   | refine o_field tabOk rfl rfl rfl rfl rfl (by decide) ?_
   | refine o_conv tabOk rfl rfl rfl (by decide) ?_))
theorem number_fn (x : Int) (m : Bool) : Pf Try.prog 49 [.int .i64 x, .bool m] (.bool (numOk x m)) := by
  intro w hw
  refine f_enter Try.func49 rfl Try.ntmps49 rfl hw ?_
  repeat' (first
   | (refine s_is ?_; first
   | (refine s_isret ?_; first
   | (exact p_r1 rfl (res_t (by show some (Value.bool _) = some (Value.bool _); unfold numOk; simp [*]))))
   | (refine s_isw ?_; first
   | refine c_seq ?_
   | refine c_block ?_
   | refine c_region ?_
   | refine c_mixed mixed (by kernel_rfl) ?_
   | refine c_skip ?_
   | refine c_ret ?_
   | refine c_exit ?_
   | (refine s_iscond ?_; first
   | (refine c_true rfl (by first | with_reducible rfl | with_reducible assumption | ((with_reducible refine decide_eq_true ?_); first | with_reducible rfl | with_reducible assumption | omega)) ?_)
   | (refine c_false rfl (by first | with_reducible rfl | with_reducible assumption | ((with_reducible refine decide_eq_false ?_); first | with_reducible assumption | omega)) ?_)
   | (refine c_true rfl (by first | (simp only [Bool.not_eq_true', decide_eq_false_iff_not]; omega) | (with_reducible assumption) | (rw [decide_eq_false] <;> (first | omega | with_reducible rfl)) | (rw [decide_eq_true] <;> (first | omega | with_reducible rfl)) | (simp; done) | (simp; omega)) ?_)
   | (refine c_false rfl (by first | (simp only [Bool.not_eq_false', decide_eq_true_eq]; omega) | (with_reducible assumption) | (rw [decide_eq_false] <;> (first | omega | with_reducible rfl)) | (rw [decide_eq_true] <;> (first | omega | with_reducible rfl)) | (simp; done) | (simp; omega)) ?_)
   | refine c_cond rfl (fun hc => ?_) (fun hc => ?_)
   | refine c_condb rfl (fun hc => ?_) (fun hc => ?_)))
   | refine x_then ?_
   | refine x_then_ret ?_
   | refine x_then_exit ?_
   | refine x_block _ ?_
   | refine x_block_ret _ ?_
   | refine x_block_exit _ ?_
   | refine x_block_past (by decide) ?_
   | refine z_tailm ?_)
   | (refine z_isg1 ?_; first
   | refine z_skipu (by decide) rfl rfl ?_
   | (refine z_want1 rfl rfl (by first | with_reducible rfl | with_reducible assumption | ((with_reducible refine decide_eq_true ?_); first | with_reducible rfl | with_reducible assumption | omega)) ?_)
   | (refine z_skip1 (by decide) rfl rfl (by first | with_reducible rfl | with_reducible assumption | ((with_reducible refine decide_eq_false ?_); first | with_reducible assumption | omega)) ?_)
   | (refine z_want1 rfl rfl (by first | (simp only [Bool.not_eq_true', decide_eq_false_iff_not]; omega) | (with_reducible assumption) | (rw [decide_eq_false] <;> (first | omega | with_reducible rfl)) | (rw [decide_eq_true] <;> (first | omega | with_reducible rfl)) | (simp; done) | (simp; omega)) ?_)
   | (refine z_skip1 (by decide) rfl rfl (by first | (simp only [Bool.not_eq_false', decide_eq_true_eq]; omega) | (with_reducible assumption) | (rw [decide_eq_false] <;> (first | omega | with_reducible rfl)) | (rw [decide_eq_true] <;> (first | omega | with_reducible rfl)) | (simp; done) | (simp; omega)) ?_)
   | refine z_guard1 (by decide) rfl rfl (fun hc => ?_) (fun hc => ?_)
   | refine z_guardb (by decide) rfl rfl (fun hc => ?_) (fun hc => ?_))
   | (refine z_isnil ?_; first
   | refine z_list ?_
   | refine z_mixed ?_
   | refine z_mono0 ?_
   | refine z_mono1 (by decide) fun g => ?_
   | refine z_mono2 (by decide) (by decide) fun g g' => ?_
   | refine z_mixedx ?_
   | refine z_quiet ?_)
   | (refine z_isop ?_; first
   | (refine z_isbin ?_; first
   | (refine z_isb .eql ?_; first
   | refine o_eq rfl rfl (by decide) ?_
   | refine o_beq tabOk rfl rfl rfl (by decide) ?_
   | refine o_peq tabOk rfl rfl (by decide) ?_)
   | (refine z_isb .lss ?_; first
   | refine o_lt rfl rfl (by decide) ?_)
   | (refine z_isb .gtr ?_; first
   | refine o_gt rfl rfl (by decide) ?_)
   | (refine z_isb .geq ?_; first
   | refine o_ge rfl rfl (by decide) ?_))
   | (refine z_ispick ?_; first
   | (refine o_pick1 rfl (by first | with_reducible rfl | with_reducible assumption | ((with_reducible refine decide_eq_true ?_); first | with_reducible rfl | with_reducible assumption | omega)) rfl (by decide) ?_)
   | (refine o_pick0 rfl (by first | with_reducible rfl | with_reducible assumption | ((with_reducible refine decide_eq_false ?_); first | with_reducible assumption | omega)) rfl (by decide) ?_)
   | (refine o_pick1 rfl (by first | (simp only [Bool.not_eq_true', decide_eq_false_iff_not]; omega) | (with_reducible assumption) | (rw [decide_eq_false] <;> (first | omega | with_reducible rfl)) | (rw [decide_eq_true] <;> (first | omega | with_reducible rfl)) | (simp; done) | (simp; omega)) rfl (by decide) ?_)
   | (refine o_pick0 rfl (by first | (simp only [Bool.not_eq_false', decide_eq_true_eq]; omega) | (with_reducible assumption) | (rw [decide_eq_false] <;> (first | omega | with_reducible rfl)) | (rw [decide_eq_true] <;> (first | omega | with_reducible rfl)) | (simp; done) | (simp; omega)) rfl (by decide) ?_))
   | refine o_move rfl (by decide) ?_
   | refine o_assign rfl (by decide) ?_
   | refine o_nil rfl (by decide) ?_
   | refine o_extract rfl rfl (by decide) ?_
   | refine o_not rfl (by decide) ?_
   | refine o_field0 tabOk rfl rfl rfl rfl rfl (by decide) ?_
   | refine o_field tabOk rfl rfl rfl rfl rfl (by decide) ?_
   | refine o_conv tabOk rfl rfl rfl (by decide) ?_))
theorem short_c (g T n o len cap : Nat) (r : Nat → Int) (v : Int) (ho : o + 1 < n) (hl : 2 ≤ len) :
    Does Try.prog 48 [.slice (some ⟨g, o, none⟩) len cap, .int .i64 v] [cells g T (ba n r)] (fun _ : Unit => True) (fun _ => .tuple #[]) (fun _ => [cells g T (ba n (upd (upd r o (lo v)) (o + 1) (hi v)))]) := by
  intro w hw
  refine f_enter Try.func48 rfl Try.ntmps48 rfl hw ?_
  unfold lo hi
  repeat' (first
   | (refine s_is ?_; first
   | (refine s_isret ?_; first
   | exact f_ret0 rfl () trivial rfl (fun w h => h)
   | exact f_end0 rfl () trivial rfl (fun w h => h))
   | (refine s_isw ?_; first
   | refine c_seq ?_
   | refine c_block ?_
   | refine c_region ?_
   | refine c_mixed mixed (by kernel_rfl) ?_
   | refine c_skip ?_
   | refine c_ret ?_
   | refine c_exit ?_
   | (refine s_iscond ?_; first
   | (refine c_true rfl (by first | with_reducible rfl | with_reducible assumption | ((with_reducible refine decide_eq_true ?_); first | with_reducible rfl | with_reducible assumption | omega)) ?_)
   | (refine c_false rfl (by first | with_reducible rfl | with_reducible assumption | ((with_reducible refine decide_eq_false ?_); first | with_reducible assumption | omega)) ?_)
   | (refine c_true rfl (by first | (simp only [Bool.not_eq_true', decide_eq_false_iff_not]; omega) | (with_reducible assumption) | (rw [decide_eq_false] <;> (first | omega | with_reducible rfl)) | (rw [decide_eq_true] <;> (first | omega | with_reducible rfl)) | (simp; done) | (simp; omega)) ?_)
   | (refine c_false rfl (by first | (simp only [Bool.not_eq_false', decide_eq_true_eq]; omega) | (with_reducible assumption) | (rw [decide_eq_false] <;> (first | omega | with_reducible rfl)) | (rw [decide_eq_true] <;> (first | omega | with_reducible rfl)) | (simp; done) | (simp; omega)) ?_)
   | refine c_cond rfl (fun hc => ?_) (fun hc => ?_)
   | refine c_condb rfl (fun hc => ?_) (fun hc => ?_)))
   | refine x_then ?_
   | refine x_then_ret ?_
   | refine x_then_exit ?_
   | refine x_block _ ?_
   | refine x_block_ret _ ?_
   | refine x_block_exit _ ?_
   | refine x_block_past (by decide) ?_
   | refine z_tailm ?_)
   | (refine z_isnil ?_; first
   | refine z_list ?_
   | refine z_mixed ?_
   | refine z_mono0 ?_
   | refine z_mono1 (by decide) fun g => ?_
   | refine z_mono2 (by decide) (by decide) fun g g' => ?_
   | refine z_mixedx ?_
   | refine z_quiet ?_)
   | (refine z_isop ?_; first
   | (refine z_isbin ?_; first
   | (refine z_isb .shr ?_; first
   | refine o_shr rfl rfl (by omega) (by decide) ?_))
   | (refine z_isstore ?_; first
   | (refine z_stw rfl ?_; first
   | ((refine z_sti 0 rfl rfl ?_; refine o_storeb0 rfl tabOk rfl rfl rfl (by first | exact ba_len _ _ | exact in_len _ | exact na_len _ | (simp only [ba_len, in_len, na_len]) | rfl) (by first | exact ba_one _ _ | exact in_one _ | exact na_one _ | rfl) (by first | exact ba_len _ _ | exact in_len _ | exact na_len _ | (simp only [ba_len, in_len, na_len]) | rfl) ?_))
   | ((refine z_sti 1 rfl rfl ?_; refine o_storeb1 rfl tabOk rfl rfl rfl (by first | exact ba_len _ _ | exact in_len _ | exact na_len _ | (simp only [ba_len, in_len, na_len]) | rfl) (by first | exact ba_one _ _ | exact in_one _ | exact na_one _ | rfl) (by first | exact ba_len _ _ | exact in_len _ | exact na_len _ | (simp only [ba_len, in_len, na_len]) | rfl) ?_))
   | ((refine z_sti 2 rfl rfl ?_; refine o_storeb2 rfl tabOk rfl rfl rfl (by first | exact ba_len _ _ | exact in_len _ | exact na_len _ | (simp only [ba_len, in_len, na_len]) | rfl) (by first | exact ba_one _ _ | exact in_one _ | exact na_one _ | rfl) (by first | exact ba_len _ _ | exact in_len _ | exact na_len _ | (simp only [ba_len, in_len, na_len]) | rfl) ?_))
   | ((refine z_sti 3 rfl rfl ?_; refine o_storeb3 rfl tabOk rfl rfl rfl (by first | exact ba_len _ _ | exact in_len _ | exact na_len _ | (simp only [ba_len, in_len, na_len]) | rfl) (by first | exact ba_one _ _ | exact in_one _ | exact na_one _ | rfl) (by first | exact ba_len _ _ | exact in_len _ | exact na_len _ | (simp only [ba_len, in_len, na_len]) | rfl) ?_))
   | ((refine z_sti 4 rfl rfl ?_; refine o_storeb4 rfl tabOk rfl rfl rfl (by first | exact ba_len _ _ | exact in_len _ | exact na_len _ | (simp only [ba_len, in_len, na_len]) | rfl) (by first | exact ba_one _ _ | exact in_one _ | exact na_one _ | rfl) (by first | exact ba_len _ _ | exact in_len _ | exact na_len _ | (simp only [ba_len, in_len, na_len]) | rfl) ?_))
   | ((refine z_sti 5 rfl rfl ?_; refine o_storeb5 rfl tabOk rfl rfl rfl (by first | exact ba_len _ _ | exact in_len _ | exact na_len _ | (simp only [ba_len, in_len, na_len]) | rfl) (by first | exact ba_one _ _ | exact in_one _ | exact na_one _ | rfl) (by first | exact ba_len _ _ | exact in_len _ | exact na_len _ | (simp only [ba_len, in_len, na_len]) | rfl) ?_))
   | ((refine z_sti 6 rfl rfl ?_; refine o_storeb6 rfl tabOk rfl rfl rfl (by first | exact ba_len _ _ | exact in_len _ | exact na_len _ | (simp only [ba_len, in_len, na_len]) | rfl) (by first | exact ba_one _ _ | exact in_one _ | exact na_one _ | rfl) (by first | exact ba_len _ _ | exact in_len _ | exact na_len _ | (simp only [ba_len, in_len, na_len]) | rfl) ?_)))
   | (refine z_st1 rfl rfl ?_; first
   | refine o_store rfl tabOk rfl rfl rfl rfl rfl (by first | exact ba_at _ (by omega) | exact in_k _ | exact in_s _ | exact in_n _ (by omega) | exact in_f _ | exact na_at _ (by omega) | rfl) (by first | exact ba_set _ _ _ _ | exact in_set_n _ (by omega) _ | exact in_set_f _ _ | rfl) ?_
   | ((refine z_sti 1 rfl rfl ?_; refine o_store1 rfl tabOk rfl rfl rfl rfl rfl (by first | exact ba_at _ (by omega) | exact in_k _ | exact in_s _ | exact in_n _ (by omega) | exact in_f _ | exact na_at _ (by omega) | rfl) (by first | exact ba_set _ _ _ _ | exact in_set_n _ (by omega) _ | exact in_set_f _ _ | rfl) ?_))
   | ((refine z_sti 2 rfl rfl ?_; refine o_store2 rfl tabOk rfl rfl rfl rfl rfl (by first | exact ba_at _ (by omega) | exact in_k _ | exact in_s _ | exact in_n _ (by omega) | exact in_f _ | exact na_at _ (by omega) | rfl) (by first | exact ba_set _ _ _ _ | exact in_set_n _ (by omega) _ | exact in_set_f _ _ | rfl) ?_))
   | ((refine z_sti 3 rfl rfl ?_; refine o_store3 rfl tabOk rfl rfl rfl rfl rfl (by first | exact ba_at _ (by omega) | exact in_k _ | exact in_s _ | exact in_n _ (by omega) | exact in_f _ | exact na_at _ (by omega) | rfl) (by first | exact ba_set _ _ _ _ | exact in_set_n _ (by omega) _ | exact in_set_f _ _ | rfl) ?_))
   | ((refine z_sti 4 rfl rfl ?_; refine o_store4 rfl tabOk rfl rfl rfl rfl rfl (by first | exact ba_at _ (by omega) | exact in_k _ | exact in_s _ | exact in_n _ (by omega) | exact in_f _ | exact na_at _ (by omega) | rfl) (by first | exact ba_set _ _ _ _ | exact in_set_n _ (by omega) _ | exact in_set_f _ _ | rfl) ?_))
   | ((refine z_sti 5 rfl rfl ?_; refine o_store5 rfl tabOk rfl rfl rfl rfl rfl (by first | exact ba_at _ (by omega) | exact in_k _ | exact in_s _ | exact in_n _ (by omega) | exact in_f _ | exact na_at _ (by omega) | rfl) (by first | exact ba_set _ _ _ _ | exact in_set_n _ (by omega) _ | exact in_set_f _ _ | rfl) ?_))
   | ((refine z_sti 6 rfl rfl ?_; refine o_store6 rfl tabOk rfl rfl rfl rfl rfl (by first | exact ba_at _ (by omega) | exact in_k _ | exact in_s _ | exact in_n _ (by omega) | exact in_f _ | exact na_at _ (by omega) | rfl) (by first | exact ba_set _ _ _ _ | exact in_set_n _ (by omega) _ | exact in_set_f _ _ | rfl) ?_))))
   | (refine z_isix ?_; first
   | refine o_index0 tabOk rfl rfl rfl rfl (by omega) (by omega) (by decide) ?_
   | refine o_index1 tabOk rfl rfl rfl rfl (by omega) (by omega) (by decide) ?_
   | refine o_indexsk1 tabOk rfl rfl rfl rfl (by omega) (by omega) (by decide) ?_
   | refine o_indexsk tabOk rfl rfl rfl rfl (by omega) (by omega) (by decide) ?_
   | refine o_indexs1 tabOk (by first | assumption) rfl rfl rfl rfl (by omega) (by omega) (by decide) ?_)
   | refine o_move rfl (by decide) ?_
   | refine o_assign rfl (by decide) ?_
   | refine o_nil rfl (by decide) ?_
   | refine o_extract rfl rfl (by decide) ?_
   | refine o_not rfl (by decide) ?_
   | refine o_field0 tabOk rfl rfl rfl rfl rfl (by decide) ?_
   | refine o_field tabOk rfl rfl rfl rfl rfl (by decide) ?_
   | refine o_conv tabOk rfl rfl rfl (by decide) ?_))
theorem wrap_by {x : Int} (h : 0 ≤ x ∧ x ≤ 255) : IntKind.i64.wrap x = x := wrap64_id (by omega) (by omega)
theorem long_c (g n o len cap : Nat) (r : Nat → Int) (hb : By r) (ho : o + 1 < n) (hl : 2 ≤ len) (fr : List Chunk) (hrd : Rds fr (some ⟨g, 0, none⟩) (ba n r)) :
    Does Try.prog 50 [.slice (some ⟨g, o, none⟩) len cap] fr (fun _ : Unit => True) (fun _ => .int .i64 (lg r o)) (fun _ => fr) := by
  intro w hw
  refine f_enter Try.func50 rfl Try.ntmps50 rfl hw ?_
  unfold lg
  repeat' (first
   | (refine s_is ?_; first
   | (refine s_isret ?_; first
   | (exact f_r1 rfl (res_t (by show some (Value.int _ _) = some (Value.int _ _); rw [or_shl (hb _) (hb _)]; rfl)) () trivial rfl (fun w h => h)))
   | (refine s_isw ?_; first
   | refine c_seq ?_
   | refine c_block ?_
   | refine c_region ?_
   | refine c_mixed mixed (by kernel_rfl) ?_
   | refine c_skip ?_
   | refine c_ret ?_
   | refine c_exit ?_
   | (refine s_iscond ?_; first
   | (refine c_true rfl (by first | with_reducible rfl | with_reducible assumption | ((with_reducible refine decide_eq_true ?_); first | with_reducible rfl | with_reducible assumption | omega)) ?_)
   | (refine c_false rfl (by first | with_reducible rfl | with_reducible assumption | ((with_reducible refine decide_eq_false ?_); first | with_reducible assumption | omega)) ?_)
   | (refine c_true rfl (by first | (simp only [Bool.not_eq_true', decide_eq_false_iff_not]; omega) | (with_reducible assumption) | (rw [decide_eq_false] <;> (first | omega | with_reducible rfl)) | (rw [decide_eq_true] <;> (first | omega | with_reducible rfl)) | (simp; done) | (simp; omega)) ?_)
   | (refine c_false rfl (by first | (simp only [Bool.not_eq_false', decide_eq_true_eq]; omega) | (with_reducible assumption) | (rw [decide_eq_false] <;> (first | omega | with_reducible rfl)) | (rw [decide_eq_true] <;> (first | omega | with_reducible rfl)) | (simp; done) | (simp; omega)) ?_)
   | refine c_cond rfl (fun hc => ?_) (fun hc => ?_)
   | refine c_condb rfl (fun hc => ?_) (fun hc => ?_)))
   | refine x_then ?_
   | refine x_then_ret ?_
   | refine x_then_exit ?_
   | refine x_block _ ?_
   | refine x_block_ret _ ?_
   | refine x_block_exit _ ?_
   | refine x_block_past (by decide) ?_
   | refine z_tailm ?_)
   | (refine z_isnil ?_; first
   | refine z_list ?_
   | refine z_mixed ?_
   | refine z_mono0 ?_
   | refine z_mono1 (by decide) fun g => ?_
   | refine z_mono2 (by decide) (by decide) fun g g' => ?_
   | refine z_mixedx ?_
   | refine z_quiet ?_)
   | (refine z_isop ?_; first
   | refine o_convi tabOk rfl rfl rfl (wrap_by (hb _)) (by decide) ?_
   | (refine z_isbin ?_; first
   | (refine z_isb .or ?_; first
   | refine o_or rfl rfl (by decide) ?_)
   | (refine z_isb .shl ?_; first
   | refine o_shl rfl rfl (by omega) (by decide) ?_))
   | (refine z_isload ?_; first
   | refine o_loadr tabOk hrd rfl rfl rfl (ba_at _ (by omega)) (by decide) ?_
   | (refine z_ld1 tabOk rfl rfl ?_; first
   | refine o_loadm tabOk rfl rfl rfl (by repeat' (first | exact List.mem_cons_self | apply List.mem_cons_of_mem)) (by first | exact ba_at _ (by omega) | exact in_k _ | exact in_s _ | exact in_n _ (by omega) | exact in_f _ | exact na_at _ (by omega) | rfl) (by decide) ?_
   | refine o_loads tabOk (by first | assumption | exact Rds.cons _ (by assumption) | exact Rds.cons _ (Rds.cons _ (by assumption)) | exact own_rds 0 rfl | exact own_rds 1 rfl | exact own_rds 2 rfl) rfl rfl rfl (by first | exact ba_at _ (by omega) | exact in_k _ | exact in_s _ | exact in_n _ (by omega) | exact in_f _ | exact na_at _ (by omega) | rfl) (by decide) ?_)
   | (refine z_ldw tabOk rfl rfl ?_; first
   | refine o_loadwm tabOk rfl rfl rfl (by repeat' (first | exact List.mem_cons_self | apply List.mem_cons_of_mem)) (by first | exact ba_len _ _ | exact in_len _ | exact na_len _ | (simp only [ba_len, in_len, na_len]) | rfl) (by decide) ?_))
   | (refine z_isix ?_; first
   | refine o_index0 tabOk rfl rfl rfl rfl (by omega) (by omega) (by decide) ?_
   | refine o_index1 tabOk rfl rfl rfl rfl (by omega) (by omega) (by decide) ?_
   | refine o_indexsk1 tabOk rfl rfl rfl rfl (by omega) (by omega) (by decide) ?_
   | refine o_indexsk tabOk rfl rfl rfl rfl (by omega) (by omega) (by decide) ?_
   | refine o_indexs1 tabOk (by first | assumption) rfl rfl rfl rfl (by omega) (by omega) (by decide) ?_)
   | refine o_move rfl (by decide) ?_
   | refine o_assign rfl (by decide) ?_
   | refine o_nil rfl (by decide) ?_
   | refine o_extract rfl rfl (by decide) ?_
   | refine o_not rfl (by decide) ?_
   | refine o_field0 tabOk rfl rfl rfl rfl rfl (by decide) ?_
   | refine o_field tabOk rfl rfl rfl rfl rfl (by decide) ?_
   | refine o_conv tabOk rfl rfl rfl (by decide) ?_))
end Go.Proofs.Ytmfnjmmdchlkiaa
