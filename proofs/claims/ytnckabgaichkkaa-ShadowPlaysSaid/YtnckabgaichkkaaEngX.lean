/-
The engine, another part: append to what has no room (a slice of nothing, wherever it lies).
-/
import Derived.Test.YtnckabgaichkkaaEngV
namespace Go.Proofs.Ytnckabgaichkkaa.Eng
set_option linter.unusedVariables false
set_option linter.unusedSimpArgs false
open Go
theorem x_appendc {P : Program} {w : World} {t ty e sz by_ m cx : Nat} {a : Addr} {Ax : Option Addr} {news : List Value} {z : Value} {i : TypeInfo} (ht : P.underlying t = some (.slice e)) (hi : P.info? e = some i) (hz : i.zero = some z) (hs : i.size = sz) (hby : i.bytes = by_)
    (hzs : z.cells.size = sz) (hrd : Rd w Ax news) (hnl : news.length = m * sz) (hsz : 0 < sz) (h0 : 0 < m) (h47 : m * by_ ≤ 140737488355328) (hmax : m ≤ 9223372036854775807) :
    ∃ A' c' w', (Builtin.append_ #[t, t] ty #[.slice (some a) 0 0, .slice Ax m cx]).run P w = .ok (.slice A' m c') w' ∧ (own A' c' e sz m news).holds w' ∧ w'.os = w.os ∧ w'.tape = w.tape ∧ w'.output = w.output ∧ (w.heap.size ≤ w'.heap.size ∧ w.drawn ≤ w'.drawn) ∧
      (∀ j, j < w.heap.size → w'.heap[j]? = w.heap[j]?) ∧ (∀ j, (own A' c' e sz m news).foot j → w.heap.size ≤ j) := by
  have hnp : 0 < news.length := by rw [hnl]; exact Nat.mul_pos h0 hsz
  obtain ⟨ad, rfl, _⟩ := hrd 0 _ (List.getElem?_eq_getElem hnp)
  have hnews : ∀ j u, news[j]? = some u → w.cell? (ad.add j) = some u := fun j u hu => by
    obtain ⟨p, hp, hc⟩ := hrd j u hu
    injection hp with hp
    subst hp
    exact hc
  have hnl' : news.length = m * i.size := by rw [hs]; exact hnl
  have hcap : ∀ need old, need ≤ 9223372036854775807 → need ≤ grownCap w need old e := fun need old hn => by
    unfold grownCap Question.cut
    exact Nat.le_add_right _ _
  have hrun := run_append_grow (P := P) w t ty e i z ht hi hz a 0 0 [] (by simp) (by simp) ad m cx news hnl' hnews (by omega) (by omega) (by rw [hby]; exact growslice_fits (by omega) (by rw [Nat.zero_add]; exact h47))
  have hc := hcap (0 + m) 0 (by omega)
  refine ⟨_, grownCap w (0 + m) 0 e, _, by simpa using hrun, ⟨hnl, .inr ⟨w.heap.size, 0, _, rfl, heap_alloc_new w.drew _, by omega, ?_, ?_⟩⟩, rfl, rfl, rfl, ⟨by simp, Nat.le_succ _⟩, fun j hj => RowKit.Below.heap_alloc w.drew _ j hj, fun j hj => ?_⟩
  · simp [Builtin.zeroCells, hzs, hnl, ← Nat.add_mul]
    simp at hc
    rw [show m + (grownCap w m 0 e - m) = grownCap w m 0 e by omega]
    exact Nat.le_refl _
  · simp [hnl]
  · obtain ⟨p, hp, hj⟩ := hj
    injection hp with hp
    subst hp
    exact Nat.le_of_eq hj
theorem o_appendc {P : Program} {ops : Array Oper} {m n : Nat} {l : Fr} {B : Base} {hp : List Chunk} {rest : List Oper} {d : Nat} {ty : TypeId} {pos : String} {aft : Array Edge} {md : Mode} (hme : md.canX = true) {t e s b sz by_ cx : Nat} {ba : Addr} {Ax : Option Addr} {news : List Value} {kd : TKind} {tab : List TRow} (hT : TabOk P tab) (hZ : ZeroOk P tab) {x y : Operand} (hx : ev l x = some (.slice (some ba) 0 0)) (hy : ev l y = some (.slice Ax m cx))
    (ht : nth tab t = some ⟨.slice e, s, b⟩) (hr : nth tab e = some ⟨kd, sz, by_⟩) (hk : kd.known = true) (hsz : Nat.blt 0 sz = true)
    (hrd : Rds hp Ax news) (hnl : news.length = m * sz) (h0 : 0 < m) (h47 : m * by_ ≤ 140737488355328) (hmax : m ≤ 9223372036854775807) (hd : d < n)
    (kk : ∀ A' c', Z P ops md n ((d, .slice A' m c') :: l) B (own A' c' e sz m news :: hp) rest) :
    Z P ops md n l B hp (⟨some d, .call ⟨.builtin .append, #[x, y], #[t, t]⟩, ty, pos, aft, none⟩ :: rest) :=
  z_effx hme (X := Option Addr × Nat) (v := fun p => .slice p.1 m p.2) (hq := fun p => own p.1 p.2 e sz m news :: hp) (Mode.fits_of rfl) (fun _ => True) hd (fun a w hA hS => by
    obtain ⟨dd, _, hu, hk', -⟩ := hT t _ ht
    cases dd <;> simp [kindOf] at hk'
    replace hu : P.underlying t = some (.slice e) := by rw [hu, hk']
    clear hk'
    obtain ⟨_, i', _, _, hi, hs, hby⟩ := hT _ _ hr
    obtain ⟨i'', z, hi'', hz, hzs⟩ := hZ e _ hr hk
    rw [hi] at hi''
    injection hi'' with hi''
    subst hi''
    obtain ⟨A', c', w', hrun, hown', h1, h2, h3, h4, h5, h6⟩ := x_appendc (P := P) (a := ba) (ty := ty) (cx := cx) hu hi hz hs hby hzs (hrd w hS.toPre) hnl (Nat.le_of_ble_eq_true hsz) h0 h47 hmax
    refine ⟨(A', c'), w', trivial, ?_, ?_⟩
    · simp only [execOp, resolve, List.map_toArray, List.map_cons, List.map_nil, hA.eval hx, hA.eval hy, Sem.run_bind, Sem.run_pure, Result.andThen, invoke, builtin, hrun]
    · refine St.call0 hS (po := [own A' c' e sz m news]) ⟨h1, h2, h3, h4.1, ?_, by simp [Apart], fun ch hch k' hk' => ?_, fun k' hk' _ => h5 k' hk', h4.2⟩
      · simp only [List.mem_singleton, forall_eq]
        exact hown'
      · simp at hch
        subst hch
        exact .inr (h6 k' hk')) fun p _ => kk p.1 p.2
end Go.Proofs.Ytnckabgaichkkaa.Eng
