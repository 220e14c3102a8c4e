/-
A nil table of shadows has nothing, and stays so: for every deed, without a condition.
-/
import Derived.Test.YtnckabgaichkkaaRows
import Derived.Test.YtnckabgaichkkaaSh5
import Derived.Test.YtnckabgaichkkaaOpen
import Derived.WalkKit
import Derived.ProofKit
import Derived.OpenShut
import Derived.ShutString
import Derived.ChangeOld
import Derived.Below
import Derived.Carry
namespace Go.Proofs.Ytnckabgaichkkaa.shadowNone
open Go.ChangeShapes Go.WideShapes Go.ChangeAt Go.RowKit Eng
set_option linter.unusedVariables false
set_option linter.unusedSimpArgs false

theorem own : ownKnob Try.prog.godebug = none := by kernel_rfl
theorem laidOut : laidOutB Try.prog = true := by kernel_rfl

theorem walk (W : World) (cs0 : List Value) (i0 : Is W (.struct [.int .i64, .int .i64, .int .i64, .int .i64, .bool]) cs0) :
    Calls Try.prog 9 #[.agg cs0.toArray] W fun e w' => e = .returned (.bool true) ∧ Below W.heap.size W w' := by
  obtain ⟨x, y, z, u, s, rfl, h0, h1, h2, h3, h4⟩ := i0.struct5
  obtain ⟨k, rfl, hk⟩ := h0.int_inv
  obtain ⟨a, rfl, ha⟩ := h1.int_inv
  obtain ⟨c, rfl, hc⟩ := h2.int_inv
  obtain ⟨f, rfl, hf⟩ := h3.int_inv
  obtain ⟨w, rfl⟩ := h4.bool_inv
  exact (shadowNone k a c f w [old W]).law

set_option maxRecDepth 100000 in
theorem lifted (os : Os) (started : os.Started) (H : Type) (enc : TypeId × Value → H) :
    ReturnsInHanded {} Try.checked os 9 .any (Rows.shadowNoneSpec.pre6 enc Try.prog Try.f9 Rows.shadowNoneRow.domain false) (Rows.shadowNoneSpec.post enc Try.prog Try.f9 false true false false) := by
  refine returnsInHanded_of_change (C := Try.checked) own started (by kernel_rfl) Try.func9
    (ChangeSpec.witness6 (enc := enc) (C := Try.checked) false ⟨#[], #[.agg #[.int .i64 0, .int .i64 0, .int .i64 0, .int .i64 0, .bool false]], []⟩ 8 (by kernel_rfl) (by kernel_rfl) (by kernel_rfl) (by kernel_rfl)) ?_
  intro W base args ds gs before hval0 hW hcnd _
  have hval : ∀ (j : Nat) t v, Try.f9.params[j]? = some t → args[j]? = some v → Value.okWide Try.prog W .any base t v := hval0
  have hW' := hW
  obtain ⟨p, q, hA0, hV, rfl, hfz, hnd⟩ := hW
  have hA : DataW.TrodAll enc Try.prog W 0 (fun _ => true) true Try.f9.params.toList args.toList ds p := hA0
  rw [Try.params9] at hA hval
  obtain ⟨v0, vs0, d0, ds0, p0, q0, hargs, rfl, rfl, h0, r0⟩ := trodAll_cons hA
  obtain ⟨rfl, rfl, rfl⟩ := trodAll_nil r0
  obtain rfl : args = #[v0] := by cases args; simp_all
  obtain ⟨rfl, rfl⟩ := trodVars_none hV
  have i0 : Is W (.struct [.int .i64, .int .i64, .int .i64, .int .i64, .bool]) v0.cells.toList := is_param (Fits.of Try.underlying63 (by kernel_rfl) (by kernel_rfl) (.cons (Fits.int Try.underlying3) (.cons (Fits.int Try.underlying3) (.cons (Fits.int Try.underlying3) (.cons (Fits.int Try.underlying3) (.cons (Fits.bool Try.underlying4) .nil)))))) (hval 0 63 v0 rfl rfl) h0
  have lt0 : ∀ x ∈ p0, x.block < W.heap.size := by obtain ⟨m, hm⟩ := h0; exact DataW.trod_lt m _ _ _ hm
  obtain ⟨cs0, rfl, i0⟩ := agg_of Try.underlying63 (hval 0 63 v0 rfl rfl) i0
  refine (walk W cs0 i0).mono fun e W' ⟨he, bel⟩ => ?_
  subst he
  exact ⟨_, rfl, _, _, _, [], _, [], hW', trodAll_mk1 (shut_bool Try.underlying4 _), (trodAll_cons_mk (Below.trod laidOut (by kernel_rfl) (of_decide_eq_true (by kernel_rfl)) h0 bel lt0) trodAll_mk0), rfl, bel.frame _, fun h => by cases h⟩

theorem over : Rows.shadowNoneRow.holds Try.pinned (OpenSpec.ofChange Rows.shadowNoneSpec) :=
  OpenClaim.holds_of_wide 9 Try.f9 rfl rfl rfl rfl rfl rfl rfl ⟨rfl, rfl, rfl, rfl, rfl⟩ rfl rfl rfl rfl rfl (by kernel_rfl) Try.func9 (by kernel_rfl)
    (of_decide_eq_true (by kernel_rfl)) (by unfold Func.isWrapper; first | (rw [if_pos (by decide +kernel)]; kernel_rfl) | (rw [if_neg (by decide +kernel)]; exact ⟨rfl, rfl⟩))
    (fun os started H enc _ => lifted os started H enc)

theorem proved : Rows.ShadowNoneSaid := over
#print axioms proved
end Go.Proofs.Ytnckabgaichkkaa.shadowNone
