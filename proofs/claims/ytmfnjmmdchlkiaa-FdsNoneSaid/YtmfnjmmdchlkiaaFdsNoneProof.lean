/-
Where no table of open files is given, whatever is asked is answered as the document says, and the list of a program stays as it was: for every deed, without a condition.
-/
import Derived.Test.YtmfnjmmdchlkiaaRows
import Derived.Test.YtmfnjmmdchlkiaaFd5
import Derived.Test.YtmfnjmmdchlkiaaOpen
import Derived.WalkKit
import Derived.ProofKit
import Derived.OpenShut
import Derived.ShutString
import Derived.ChangeOld
import Derived.Below
import Derived.Carry
namespace Go.Proofs.Ytmfnjmmdchlkiaa.fdsNone
open Go.ChangeShapes Go.WideShapes Go.ChangeAt Go.RowKit Eng
set_option linter.unusedVariables false
set_option linter.unusedSimpArgs false

theorem own : ownKnob Try.prog.godebug = none := by kernel_rfl
theorem laidOut : laidOutB Try.prog = true := by kernel_rfl

theorem walk (W : World) (cs0 : List Value) (i0 : Is W (.parts [(1, .int .i64), (1, .int .i64), (1, .int .i64), (1, .int .i64), (3, .struct [.int .i64, .int .i64, .int .i64])]) cs0) :
    Calls Try.prog 10 #[.agg cs0.toArray] W fun e w' => e = .returned (.bool true) ∧ Below W.heap.size W w' := by
  obtain ⟨k, t, f, n, a, b, c, rfl⟩ := fdd_open i0
  exact (fdsNone k t f n a b c [old W]).law

set_option maxRecDepth 100000 in
theorem lifted (os : Os) (started : os.Started) (H : Type) (enc : TypeId × Value → H) :
    ReturnsInHanded {} Try.checked os 10 .any (Rows.fdsNoneSpec.pre6 enc Try.prog Try.f10 Rows.fdsNoneRow.domain false) (Rows.fdsNoneSpec.post enc Try.prog Try.f10 false true false false) := by
  refine returnsInHanded_of_change (C := Try.checked) own started (by kernel_rfl) Try.func10
    (ChangeSpec.witness6 (enc := enc) (C := Try.checked) false ⟨#[], #[.agg #[.int .i64 0, .int .i64 0, .int .i64 0, .int .i64 0, .int .i64 0, .int .i64 0, .int .i64 0]], []⟩ 8 (by kernel_rfl) (by kernel_rfl) (by kernel_rfl) (by kernel_rfl)) ?_
  intro W base args ds gs before hval0 hW hcnd _
  have hval : ∀ (j : Nat) t v, Try.f10.params[j]? = some t → args[j]? = some v → Value.okWide Try.prog W .any base t v := hval0
  have hW' := hW
  obtain ⟨p, q, hA0, hV, rfl, hfz, hnd⟩ := hW
  have hA : DataW.TrodAll enc Try.prog W 0 (fun _ => true) true Try.f10.params.toList args.toList ds p := hA0
  rw [Try.params10] at hA hval
  obtain ⟨v0, vs0, d0, ds0, p0, q0, hargs, rfl, rfl, h0, r0⟩ := trodAll_cons hA
  obtain ⟨rfl, rfl, rfl⟩ := trodAll_nil r0
  obtain rfl : args = #[v0] := by cases args; simp_all
  obtain ⟨rfl, rfl⟩ := trodVars_none hV
  have i0 : Is W (.parts [(1, .int .i64), (1, .int .i64), (1, .int .i64), (1, .int .i64), (3, .struct [.int .i64, .int .i64, .int .i64])]) v0.cells.toList := is_param (Fits.ofParts Try.underlying77 (by kernel_rfl) (by kernel_rfl) (.cons (Fits.int Try.underlying3) (.cons (Fits.int Try.underlying3) (.cons (Fits.int Try.underlying3) (.cons (Fits.int Try.underlying3) (.cons (Fits.of Try.underlying75 (by kernel_rfl) (by kernel_rfl) (.cons (Fits.int Try.underlying3) (.cons (Fits.int Try.underlying3) (.cons (Fits.int Try.underlying3) .nil)))) .nil)))))) (hval 0 77 v0 rfl rfl) h0
  have lt0 : ∀ x ∈ p0, x.block < W.heap.size := by obtain ⟨m, hm⟩ := h0; exact DataW.trod_lt m _ _ _ hm
  obtain ⟨cs0, rfl, i0⟩ := agg_of Try.underlying77 (hval 0 77 v0 rfl rfl) i0
  refine (walk W cs0 i0).mono fun e W' ⟨he, bel⟩ => ?_
  subst he
  exact ⟨_, rfl, _, _, _, [], _, [], hW', trodAll_mk1 (shut_bool Try.underlying4 _), (trodAll_cons_mk (Below.trod laidOut (by kernel_rfl) (of_decide_eq_true (by kernel_rfl)) h0 bel lt0) trodAll_mk0), rfl, bel.frame _, fun h => by cases h⟩

theorem over : Rows.fdsNoneRow.holds Try.pinned (OpenSpec.ofChange Rows.fdsNoneSpec) :=
  OpenClaim.holds_of_wide 10 Try.f10 rfl rfl rfl rfl rfl rfl rfl ⟨rfl, rfl, rfl, rfl, rfl⟩ rfl rfl rfl rfl rfl (by kernel_rfl) Try.func10 (by kernel_rfl)
    (of_decide_eq_true (by kernel_rfl)) (by unfold Func.isWrapper; first | (rw [if_pos (by decide +kernel)]; kernel_rfl) | (rw [if_neg (by decide +kernel)]; exact ⟨rfl, rfl⟩))
    (fun os started H enc _ => lifted os started H enc)

theorem proved : Rows.FdsNoneSaid := over
#print axioms proved
end Go.Proofs.Ytmfnjmmdchlkiaa.fdsNone
