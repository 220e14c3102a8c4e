/-
Maps: the operations.
-/
import Derived.Test.YtnckabgaichkkaaEngB
namespace Go.Proofs.Ytnckabgaichkkaa.Eng
set_option linter.unusedVariables false
set_option linter.unusedSimpArgs false
open Go Go.MapKept Go.ChangeMaps
section
variable {P : Program} {ops : Array Oper} {md : Mode} {n : Nat} {l : Fr} {B : Base} {hp : List Chunk} {rest : List Oper} {d : Nat} {ty : TypeId} {pos : String} {aft : Array Edge} {Q : Exit → Act → World → Prop}
theorem setBlock_st {w : World} {b : Nat} {o o' : Obj} {c c' : Chunk} {r : List Chunk} (h : St B w (c :: r)) (hb : w.heap[b]? = some o) (hf : ∀ k, c.foot k ↔ k = b) (hf' : ∀ k, c'.foot k → k = b) (hd : c'.holds (setBlock w b o')) : St B (setBlock w b o') (c' :: r) :=
  h.write rfl rfl rfl (by simp [setBlock]) (fun k hk => (heap_set hb).2 k fun e => hk ((hf k).2 e)) hd fun k hk => (hf k).2 (hf' k hk)
theorem o_makemap {t : TypeId} (hd : d < n) (k : ∀ g, Z P ops (.list Q) n ((d, .map (some g)) :: l) B (mpc g noM :: hp) rest) : Z P ops (.list Q) n l B hp (⟨some d, .makeMap t none, ty, pos, aft, none⟩ :: rest) :=
  z_effx (md := .list Q) rfl trivial (X := Nat) (v := fun g => .map (some g)) (hq := fun g => mpc g noM :: hp) (fun _ => True) hd (fun a w hA hS => by
    refine ⟨w.heap.size, w.alloc (.map #[] 0), trivial, by simp only [execOp, Sem.run_bind, Option.map_none, show (Instr.makeMap t none).run P w = .ok (.map (some w.heap.size)) (w.alloc (.map #[] 0)) from rfl, Result.andThen, Sem.run_pure], ?_⟩
    refine St.call0 hS (po := [mpc w.heap.size noM]) ⟨rfl, rfl, rfl, by simp, ?_, by simp [Apart], fun e he k hk => ?_, fun k hk _ => RowKit.Below.heap_alloc _ _ _ hk, Nat.le_refl _⟩
    · simp only [List.mem_singleton, forall_eq]
      exact ⟨#[], 0, heap_alloc_new w _, stamped_empty 0, fun x hx => by simp at hx, fun s p h => absurd rfl h⟩
    · simp at he
      subst he
      exact .inr (Nat.le_of_eq hk.symm)) fun g _ => k g
theorem o_look1 {t k e : TypeId} {b : Nat} {M : Mp} {s p f : Int} {x : Bool} (T : Mt P t k e) {mx kx : Operand} (hm : ev l mx = some (.map (some b))) (hk : ev l kx = some (.agg #[.int .i64 s, .int .i64 p])) (i : Nat) (hi : nth hp i = some (mpc b M)) (hM : M s p = some (f, x)) (hd : d < n)
    (kk : Z P ops md n ((d, .tuple #[.agg #[.int .i64 f, .bool x], .bool true]) :: l) B hp rest) : Z P ops md n l B hp (⟨some d, .lookup t mx kx true, ty, pos, aft, none⟩ :: rest) :=
  z_val (Mode.fits_of rfl) rfl rfl hd (fun a w hA hS => by
    obtain ⟨es, clock, hb, hmk⟩ := hS.at_ i (by rw [← nth_eq]; exact hi)
    rcases hmk.lookup T hb s p with ⟨f', x', h1, h2⟩ | ⟨h1, _⟩
    · rw [hM] at h1
      cases h1
      have h3 := hA.eval hk
      simp only [execOp, hA.eval hm, h3, Sem.run_bind, show (Value.agg #[.int .i64 s, .int .i64 p]) = pk s p from rfl, h2, Result.andThen, Sem.run_pure]
      rfl
    · rw [hM] at h1; cases h1) kk
theorem o_look0 {t k e : TypeId} {b : Nat} {M : Mp} {s p : Int} (T : Mt P t k e) {mx kx : Operand} (hm : ev l mx = some (.map (some b))) (hk : ev l kx = some (.agg #[.int .i64 s, .int .i64 p])) (i : Nat) (hi : nth hp i = some (mpc b M)) (hM : M s p = none) (hd : d < n)
    (kk : Z P ops md n ((d, .tuple #[.agg #[.int .i64 0, .bool false], .bool false]) :: l) B hp rest) : Z P ops md n l B hp (⟨some d, .lookup t mx kx true, ty, pos, aft, none⟩ :: rest) :=
  z_val (Mode.fits_of rfl) rfl rfl hd (fun a w hA hS => by
    obtain ⟨es, clock, hb, hmk⟩ := hS.at_ i (by rw [← nth_eq]; exact hi)
    rcases hmk.lookup T hb s p with ⟨f', x', h1, h2⟩ | ⟨_, h2⟩
    · rw [hM] at h1; cases h1
    · have h3 := hA.eval hk
      simp only [execOp, hA.eval hm, h3, Sem.run_bind, show (Value.agg #[.int .i64 s, .int .i64 p]) = pk s p from rfl, h2, Result.andThen, Sem.run_pure]
      rfl) kk
def onM (M : Mp) (s p : Int) : Bool := (M s p).isSome
def fM (M : Mp) (s p : Int) : Int := match M s p with | some v => v.1 | none => 0
def wM (M : Mp) (s p : Int) : Bool := match M s p with | some v => v.2 | none => false
theorem o_lookm {t k e : TypeId} {b : Nat} {M : Mp} {s p : Int} (T : Mt P t k e) {mx kx : Operand} (hm : ev l mx = some (.map (some b))) (hk : ev l kx = some (.agg #[.int .i64 s, .int .i64 p])) (i : Nat) (hi : nth hp i = some (mpc b M)) (hd : d < n)
    (kk : Z P ops md n ((d, .tuple #[.agg #[.int .i64 (fM M s p), .bool (wM M s p)], .bool (onM M s p)]) :: l) B hp rest) : Z P ops md n l B hp (⟨some d, .lookup t mx kx true, ty, pos, aft, none⟩ :: rest) := by
  cases h : M s p with
  | none => exact o_look0 T hm hk i hi h hd (by have h1 : fM M s p = 0 := by unfold fM; rw [h]
                                                have h2 : wM M s p = false := by unfold wM; rw [h]
                                                have h3 : onM M s p = false := by unfold onM; rw [h]; rfl
                                                rw [h1, h2, h3] at kk; exact kk)
  | some v => exact o_look1 T hm hk i hi h hd (by have h1 : fM M s p = v.1 := by unfold fM; rw [h]
                                                  have h2 : wM M s p = v.2 := by unfold wM; rw [h]
                                                  have h3 : onM M s p = true := by unfold onM; rw [h]; rfl
                                                  rw [h1, h2, h3] at kk; exact kk)
theorem o_mapup {t k e : TypeId} {b : Nat} {M : Mp} {s p f : Int} {x : Bool} (T : Mt P t k e) {mx kx vx : Operand} (hm : ev l mx = some (.map (some b))) (hk : ev l kx = some (.agg #[.int .i64 s, .int .i64 p])) (hv : ev l vx = some (.agg #[.int .i64 f, .bool x])) (i : Nat) (hi : nth hp i = some (mpc b M))
    (kk : Z P ops (.list Q) n l B (hp.set i (mpc b (upM M s p (f, x)))) rest) : Z P ops (.list Q) n l B hp (⟨none, .mapUpdate t mx kx vx, ty, pos, aft, none⟩ :: rest) :=
  z_at (md := .list Q) rfl i hi trivial (fun a w hA hS => by
    obtain ⟨es, clock, hb, hmk⟩ := hS.at_ 0 rfl
    obtain ⟨es', clock', hrun, hmk'⟩ := hmk.update T hb s p f x
    refine ⟨_, ?_, setBlock_st (o' := .map es' clock') hS hb (fun k => Iff.rfl) (fun k hk => hk) ⟨es', clock', (heap_set hb).1, hmk'⟩⟩
    have h3 := hA.eval hk
    have h4 := hA.eval hv
    simp only [execOp, hA.eval hm, h3, h4, Sem.run_bind, show (Value.agg #[.int .i64 s, .int .i64 p]) = pk s p from rfl, show (Value.agg #[.int .i64 f, .bool x]) = bv f x from rfl, hrun, Result.andThen, Sem.run_pure]) kk
theorem o_delm {t k e : TypeId} {b : Nat} {M : Mp} {s p : Int} (T : Mt P t k e) {mx kx : Operand} (hm : ev l mx = some (.map (some b))) (hk : ev l kx = some (.agg #[.int .i64 s, .int .i64 p])) (i : Nat) (hi : nth hp i = some (mpc b M))
    (kk : Z P ops (.list Q) n l B (hp.set i (mpc b (delM M s p))) rest) : Z P ops (.list Q) n l B hp (⟨none, .call ⟨.builtin .delete, #[mx, kx], #[t, k]⟩, ty, pos, aft, none⟩ :: rest) :=
  z_eff (md := .list Q) rfl (d := none) (v := .tuple #[]) trivial (.inl rfl) (fun _ h => by cases h) (fun a w hA hS => by
    have hi' := hi
    rw [nth_eq] at hi'
    have hS := hS.front i hi'
    obtain ⟨es, clock, hb, hmk⟩ := hS.at_ 0 rfl
    obtain ⟨es', hrun, hmk'⟩ := hmk.drop (ty := ty) T hb s p
    refine ⟨_, ?_, (setBlock_st (c' := mpc b (delM M s p)) (o' := .map es' clock) hS hb (fun k => Iff.rfl) (fun k hk => hk) ⟨es', clock, (heap_set hb).1, hmk'⟩).perm (set_perm hp i _ (List.getElem?_eq_some_iff.1 hi').1).symm⟩
    have h3 := hA.eval hk
    simp only [execOp, resolve, List.map_toArray, List.map_cons, List.map_nil, hA.eval hm, h3, Sem.run_bind, Sem.run_pure, Result.andThen, invoke, builtin, show (Value.agg #[.int .i64 s, .int .i64 p]) = pk s p from rfl, hrun]) kk

/-! ### ranging over a map -/
def kp : Value → Int × Int
  | .agg #[.int _ s, .int _ p] => (s, p)
  | _ => (0, 0)
theorem kp_pk (s p : Int) : kp (pk s p) = (s, p) := rfl
theorem left_perm : ∀ (l : List MapEntry) (u : MapEntry → Bool) (e : MapEntry), (l.map (·.born)).Nodup → e ∈ l → u e = true → (l.filter u).Perm (e :: l.filter (fun x => u x && !(x.born == e.born)))
  | [], _, _, _, he, _ => by cases he
  | x :: r, u, e, hn, he, hu => by
    rw [List.map_cons, List.nodup_cons] at hn
    by_cases hxe : x = e
    · subst hxe
      rw [List.filter_cons_of_pos hu, List.filter_cons_of_neg (by simp)]
      refine List.Perm.cons _ (List.Perm.of_eq (List.filter_congr fun y hy => ?_))
      have : (y.born == x.born) = false := beq_eq_false_iff_ne.2 fun e1 => hn.1 (e1 ▸ List.mem_map.2 ⟨y, hy, rfl⟩)
      rw [this]; simp
    · have he' : e ∈ r := (List.mem_cons.1 he).resolve_left fun e1 => hxe e1.symm
      have hb : (x.born == e.born) = false := beq_eq_false_iff_ne.2 fun e1 => hn.1 (e1 ▸ List.mem_map.2 ⟨e, he', rfl⟩)
      have ih := left_perm r u e hn.2 he' hu
      by_cases hux : u x = true
      · rw [List.filter_cons_of_pos hux, List.filter_cons_of_pos (by rw [hux, hb]; rfl)]
        exact (ih.cons x).trans (List.Perm.swap _ _ _)
      · rw [List.filter_cons_of_neg hux, List.filter_cons_of_neg (by simp [Bool.eq_false_iff.2 hux])]
        exact ih
theorem left_list (es : Array MapEntry) (seen : Array Nat) : (leftOf es seen).toList = es.toList.filter fun e => !seen.contains e.born := by
  unfold leftOf
  rw [← Array.toList_filter]
theorem left_push {es : Array MapEntry} {seen : Array Nat} {e : MapEntry} (hn : (es.toList.map (·.born)).Nodup) (he : e ∈ (leftOf es seen).toList) : (leftOf es seen).toList.Perm (e :: (leftOf es (seen.push e.born)).toList) := by
  rw [left_list, List.mem_filter] at he
  rw [left_list, left_list]
  refine (left_perm es.toList _ e hn he.1 he.2).trans (List.Perm.cons _ (List.Perm.of_eq (List.filter_congr fun x _ => ?_)))
  rw [contains_push]
  cases seen.contains x.born <;> rfl
def rgc (b r : Nat) (M : Mp) (L : List (Int × Int)) (cur : Option (Int × Int × Int × Bool)) : Chunk where
  foot := fun k => k = b ∨ k = r
  holds := fun w => b ≠ r ∧ ∃ es clock since seen c0, w.heap[b]? = some (.map es clock) ∧ Mok es clock M ∧ w.heap[r]? = some (.mapIter (some b) since seen c0) ∧ (∀ x ∈ es.toList, x.born < since) ∧ since ≤ c0 ∧ since ≤ clock ∧
    ((leftOf es seen).toList.map (fun x : MapEntry => kp x.key)).Perm L ∧ ∀ c, cur = some c → ∃ e ∈ es.toList, ∃ seen0 : Array Nat, seen = seen0.push e.born ∧ e.key = pk c.1 c.2.1 ∧ e.val = bv c.2.2.1 c.2.2.2 ∧ c0 = clock
  loc := fun w w' h ⟨hne, es, clock, since, seen, c0, hb, hm, hr, rest⟩ => ⟨hne, es, clock, since, seen, c0, (h b (.inl rfl)).trans hb, hm, (h r (.inr rfl)).trans hr, rest⟩
  lives := fun w k ⟨hne, es, clock, since, seen, c0, hb, hm, hr, rest⟩ hk => by
    rcases hk with rfl | rfl
    · exact (Array.getElem?_eq_some_iff.1 hb).1
    · exact (Array.getElem?_eq_some_iff.1 hr).1
theorem o_range {t k e : TypeId} {b : Nat} {M : Mp} (T : Mt P t k e) {mx : Operand} (hm : ev l mx = some (.map (some b))) (i : Nat) (hi : nth hp i = some (mpc b M)) (hd : d < n)
    (kk : ∀ g L, L.Nodup → (∀ s p, (s, p) ∈ L ↔ M s p ≠ none) → Z P ops (.list Q) n ((d, .pointer (some ⟨g, 0, none⟩)) :: l) B (hp.set i (rgc b g M L none)) rest) : Z P ops (.list Q) n l B hp (⟨some d, .range t mx, ty, pos, aft, none⟩ :: rest) :=
  z_effx (md := .list Q) rfl trivial (X := Nat × List (Int × Int)) (v := fun x => .pointer (some ⟨x.1, 0, none⟩)) (hq := fun x => hp.set i (rgc b x.1 M x.2 none)) (fun x => x.2.Nodup ∧ ∀ s p, (s, p) ∈ x.2 ↔ M s p ≠ none) hd (fun a w hA hS => by
    have hi' := hi
    rw [nth_eq] at hi'
    have hS := hS.front i hi'
    obtain ⟨es, clock, hb, hmk⟩ := hS.at_ 0 rfl
    have hst := (stamped_iff es clock).1 hmk.st
    have hlt := (Array.getElem?_eq_some_iff.1 hb).1
    have hrun : (Instr.range t (.map (some b))).run P w = .ok (.pointer (some ⟨w.heap.size, 0, none⟩)) (w.alloc (.mapIter (some b) clock #[] clock)) := by simp [Instr.range, run_underlying T.ty, MapKept.run_getObj_map hb]
    refine ⟨(w.heap.size, es.toList.map fun x : MapEntry => kp x.key), w.alloc (.mapIter (some b) clock #[] clock), ⟨?_, fun s p => ?_⟩, by simp only [execOp, hA.eval hm, Sem.run_bind, hrun, Result.andThen, Sem.run_pure], ?_⟩
    · rw [List.Nodup, List.pairwise_map]
      refine hst.2.2.imp_of_mem fun {x y} hx hy hne e1 => hne ?_
      obtain ⟨s, p, hk⟩ := hmk.keys x hx
      obtain ⟨s', p', hk'⟩ := hmk.keys y hy
      rw [hk, hk', kp_pk, kp_pk] at e1
      cases e1
      rw [hk, hk']
    · rw [List.mem_map]
      constructor
      · rintro ⟨x, hx, e1⟩
        obtain ⟨s', p', f, y, hk, hv, hM⟩ := hmk.to x hx
        rw [hk, kp_pk] at e1
        cases e1
        rw [hM]; exact fun e => by cases e
      · intro h
        obtain ⟨x, hx, hk⟩ := hmk.fro s p h
        exact ⟨x, hx, by rw [hk, kp_pk]⟩
    · refine St.perm ?_ (set_perm hp i _ (List.getElem?_eq_some_iff.1 hi').1).symm
      refine St.call (pr := [mpc b M]) hS (po := [rgc b w.heap.size M (es.toList.map fun x : MapEntry => kp x.key) none]) ⟨rfl, rfl, rfl, by simp, ?_, by simp [Apart], fun c hc k hk => ?_, fun k hk _ => RowKit.Below.heap_alloc _ _ _ hk, Nat.le_refl _⟩
      · simp only [List.mem_singleton, forall_eq]
        refine ⟨by omega, es, clock, clock, #[], clock, (RowKit.Below.heap_alloc w _ b hlt).trans hb, hmk, heap_alloc_new w _, hst.1, Nat.le_refl _, Nat.le_refl _, ?_, fun c h => by cases h⟩
        rw [left_list]
        exact List.Perm.of_eq (by congr 1; exact List.filter_eq_self.2 fun x _ => by simp)
      · simp at hc
        subst hc
        rcases hk with rfl | rfl
        · exact .inl ⟨_, List.mem_singleton.2 rfl, rfl⟩
        · exact .inr (Nat.le_refl _)) fun x hx => kk x.1 x.2 hx.1 hx.2
theorem rgc_next {b r : Nat} {M : Mp} {L : List (Int × Int)} {cur : Option (Int × Int × Int × Bool)} {w : World} (h : (rgc b r M L cur).holds w) (ty : TypeId) :
    (L = [] ∧ (Instr.next (.pointer (some ⟨r, 0, none⟩)) false ty).run P w = .ok (.tuple #[.bool false]) w) ∨
    ∃ s p f x L' w1 o, L.Perm ((s, p) :: L') ∧ M s p = some (f, x) ∧ (w1 = w ∨ w1 = w.drew) ∧ (Instr.next (.pointer (some ⟨r, 0, none⟩)) false ty).run P w = .ok (.tuple #[.bool true, pk s p, bv f x]) (setBlock w1 r o) ∧ (rgc b r M L' (some (s, p, f, x))).holds (setBlock w1 r o) := by
  obtain ⟨hne, es, clock, since, seen, c0, hb, hm, hr, hold, hsc, hsk, hL, _⟩ := h
  have hst := (stamped_iff es clock).1 hm.st
  rcases run_next_at (P := P) w ty r b since c0 seen es clock hr hb hold hsc with ⟨h0, hrun⟩ | ⟨e, he, w1, hal, hrun⟩
  · refine .inl ⟨?_, hrun⟩
    have : (leftOf es seen).toList = [] := by rw [Array.eq_empty_of_size_eq_zero h0]
    rw [this] at hL
    exact hL.symm.eq_nil
  · obtain ⟨hem, hes⟩ := mem_left he
    obtain ⟨s, p, f, x, hk, hv, hM⟩ := hm.to e hem
    have hr1 : w1.heap[r]? = some (.mapIter (some b) since seen c0) := by rcases hal with rfl | rfl <;> exact hr
    have hb1 : w1.heap[b]? = some (.map es clock) := by rcases hal with rfl | rfl <;> exact hb
    have hset := heap_set (o' := .mapIter (some b) since (seen.push e.born) clock) hr1
    have hpl := (left_push hst.2.1 he).map fun x : MapEntry => kp x.key
    rw [List.map_cons, hk, kp_pk] at hpl
    refine .inr ⟨s, p, f, x, (leftOf es (seen.push e.born)).toList.map (fun x : MapEntry => kp x.key), w1, _, hL.symm.trans hpl, hM, hal, by rw [hrun, hk, hv], hne, es, clock, since, seen.push e.born, clock, (hset.2 b hne).trans hb1, hm, hset.1, hold, hsk, hsk, List.Perm.refl _, fun c hc => ?_⟩
    cases hc
    exact ⟨e, hem, seen, rfl, hk, hv, rfl⟩
theorem o_next0 {b r : Nat} {M : Mp} {L : List (Int × Int)} {cur : Option (Int × Int × Int × Bool)} {x : Operand} (hx : ev l x = some (.pointer (some ⟨r, 0, none⟩))) (i : Nat) (hi : nth hp i = some (rgc b r M L cur)) (hL : L = []) (hd : d < n)
    (kk : Z P ops (.list Q) n ((d, .tuple #[.bool false]) :: l) B hp rest) : Z P ops (.list Q) n l B hp (⟨some d, .next x false, ty, pos, aft, none⟩ :: rest) :=
  z_val (m := .list Q) trivial rfl rfl hd (fun a w hA hS => by
    have h := hS.at_ i (by rw [← nth_eq]; exact hi)
    rcases rgc_next (P := P) h ty with ⟨_, hrun⟩ | ⟨s, p, f, y, L', w1, o, hp, _⟩
    · simp only [execOp, hA.eval hx, Sem.run_bind, hrun, Result.andThen, Sem.run_pure]
    · rw [hL] at hp
      have := hp.length_eq
      simp at this) kk
theorem o_next1 {b r : Nat} {M : Mp} {L : List (Int × Int)} {cur : Option (Int × Int × Int × Bool)} {x : Operand} (hx : ev l x = some (.pointer (some ⟨r, 0, none⟩))) (i : Nat) (hi : nth hp i = some (rgc b r M L cur)) (hL : L ≠ []) (hd : d < n)
    (kk : ∀ s p f y L', L.Perm ((s, p) :: L') → M s p = some (f, y) → Z P ops (.list Q) n ((d, .tuple #[.bool true, .agg #[.int .i64 s, .int .i64 p], .agg #[.int .i64 f, .bool y]]) :: l) B (hp.set i (rgc b r M L' (some (s, p, f, y)))) rest) : Z P ops (.list Q) n l B hp (⟨some d, .next x false, ty, pos, aft, none⟩ :: rest) :=
  z_effx (md := .list Q) rfl trivial (X := Int × Int × Int × Bool × List (Int × Int)) (v := fun z => .tuple #[.bool true, pk z.1 z.2.1, bv z.2.2.1 z.2.2.2.1]) (hq := fun z => hp.set i (rgc b r M z.2.2.2.2 (some (z.1, z.2.1, z.2.2.1, z.2.2.2.1)))) (fun z => L.Perm ((z.1, z.2.1) :: z.2.2.2.2) ∧ M z.1 z.2.1 = some (z.2.2.1, z.2.2.2.1)) hd (fun a w hA hS => by
    have hi' := hi
    rw [nth_eq] at hi'
    have hS := hS.front i hi'
    have h := hS.at_ 0 rfl
    rcases rgc_next (P := P) h ty with ⟨h0, _⟩ | ⟨s, p, f, y, L', w1, o, hpm, hM, hal, hrun, hh⟩
    · exact absurd h0 hL
    · refine ⟨(s, p, f, y, L'), setBlock w1 r o, ⟨hpm, hM⟩, by simp only [execOp, hA.eval hx, Sem.run_bind, hrun, Result.andThen, Sem.run_pure], ?_⟩
      refine St.perm ?_ (set_perm hp i _ (List.getElem?_eq_some_iff.1 hi').1).symm
      obtain ⟨hne, es, clock, since, seen, c0, hb, hm, hr, _⟩ := h
      refine hS.write (w' := setBlock w1 r o) (d := rgc b r M L' (some (s, p, f, y))) ?_ ?_ ?_ ?_ (fun k hk => ?_) hh (fun k hk => hk) ?_
      · rcases hal with rfl | rfl <;> rfl
      · rcases hal with rfl | rfl <;> rfl
      · rcases hal with rfl | rfl <;> rfl
      · rcases hal with rfl | rfl <;> simp [setBlock]
      · have hkr : k ≠ r := fun e => hk (.inr e)
        rcases hal with rfl | rfl <;> exact (heap_set hr).2 k hkr
      · rcases hal with rfl | rfl
        · exact Nat.le_refl _
        · exact Nat.le_succ _) fun z hz => kk z.1 z.2.1 z.2.2.1 z.2.2.2.1 z.2.2.2.2 hz.1 hz.2
theorem o_entry {b r : Nat} {M : Mp} {L : List (Int × Int)} {s p f : Int} {y : Bool} {x : Operand} (hx : ev l x = some (.pointer (some ⟨r, 0, none⟩))) (i : Nat) (hi : nth hp i = some (rgc b r M L (some (s, p, f, y)))) (hd : d < n)
    (kk : Z P ops (.list Q) n ((d, .tuple #[.agg #[.int .i64 s, .int .i64 p], .agg #[.int .i64 f, .bool y]]) :: l) B hp rest) : Z P ops (.list Q) n l B hp (⟨some d, .entry x, ty, pos, aft, none⟩ :: rest) :=
  z_val (m := .list Q) trivial rfl rfl hd (fun a w hA hS => by
    obtain ⟨hne, es, clock, since, seen, c0, hb, hm, hr, hold, hsc, hsk, hL, hcur⟩ := hS.at_ i (by rw [← nth_eq]; exact hi)
    obtain ⟨e, he, seen0, rfl, hk, hv, rfl⟩ := hcur _ rfl
    have hst := (stamped_iff es c0).1 hm.st
    have hrun := run_entry_at (P := P) w r b since seen0 es c0 e hr hb he hst.2.1
    rw [hk, hv] at hrun
    simp only [execOp, hA.eval hx, Sem.run_bind, hrun, Result.andThen, Sem.run_pure]
    rfl) kk
theorem st_unrange {w : World} {b r : Nat} {M : Mp} {L : List (Int × Int)} {cur : Option (Int × Int × Int × Bool)} (hS : St B w (rgc b r M L cur :: hp)) : St B w (mpc b M :: hp) := by
  obtain ⟨hne, es, clock, since, seen, c0, hb, hm, _⟩ := hS.at_ 0 rfl
  exact hS.write rfl rfl rfl rfl (fun _ _ => rfl) (d := mpc b M) ⟨es, clock, hb, hm⟩ (fun k hk => .inl hk)
/-- Behind the loop the map stands alone. -/
theorem s_unrange {G : Act → World → Prop} {b r : Nat} {M : Mp} {L : List (Int × Int)} {cur : Option (Int × Int × Int × Bool)} (h : S n l B (mpc b M :: hp) G) : S n l B (rgc b r M L cur :: hp) G := h.heap fun w hS => by
  obtain ⟨hne, es, clock, since, seen, c0, hb, hm, _⟩ := hS.at_ 0 rfl
  exact hS.write rfl rfl rfl rfl (fun _ _ => rfl) (d := mpc b M) ⟨es, clock, hb, hm⟩ (fun k hk => .inl hk)
theorem o_lenm {t k e : TypeId} {b : Nat} {M : Mp} (T : Mt P t k e) {mx : Operand} (hm : ev l mx = some (.map (some b))) (i : Nat) (hi : nth hp i = some (mpc b M)) (L : List (Int × Int)) (hN : L.Nodup) (hL : ∀ s p, (s, p) ∈ L ↔ M s p ≠ none) (hd : d < n)
    (kk : Z P ops (.list Q) n ((d, .int .i64 L.length) :: l) B hp rest) : Z P ops (.list Q) n l B hp (⟨some d, .call ⟨.builtin .len, #[mx], #[t]⟩, ty, pos, aft, none⟩ :: rest) :=
  z_val (m := .list Q) trivial rfl rfl hd (fun a w hA hS => by
    obtain ⟨es, clock, hb, hmk⟩ := hS.at_ i (by rw [← nth_eq]; exact hi)
    have hst := (stamped_iff es clock).1 hmk.st
    have hsz : es.size = L.length := by
      have hp : (es.toList.map fun x : MapEntry => kp x.key).Perm L := by
        refine perm_of_nodup ?_ hN fun a => ?_
        · rw [List.Nodup, List.pairwise_map]
          refine hst.2.2.imp_of_mem fun {x y} hx hy hne e1 => hne ?_
          obtain ⟨s, p, hk⟩ := hmk.keys x hx
          obtain ⟨s', p', hk'⟩ := hmk.keys y hy
          rw [hk, hk', kp_pk, kp_pk] at e1
          cases e1
          rw [hk, hk']
        · obtain ⟨s, p⟩ := a
          rw [hL, List.mem_map]
          constructor
          · rintro ⟨x, hx, e1⟩
            obtain ⟨s', p', f, y, hk, hv, hM⟩ := hmk.to x hx
            rw [hk, kp_pk] at e1
            cases e1
            rw [hM]; exact fun e => by cases e
          · intro h
            obtain ⟨x, hx, hk⟩ := hmk.fro s p h
            exact ⟨x, hx, by rw [hk, kp_pk]⟩
      have := hp.length_eq
      rw [List.length_map] at this
      simpa using this
    have hrun : (Builtin.len_ #[t] ty #[.map (some b)]).run P w = .ok (.int .i64 es.size) w := by simp [Builtin.len_, run_underlying T.ty, MapKept.run_getObj_map hb, goInt]
    rw [hsz] at hrun
    simp only [execOp, resolve, List.map_toArray, List.map_cons, List.map_nil, hA.eval hm, Sem.run_bind, Sem.run_pure, Result.andThen, invoke, builtin, hrun]) kk
end
end Go.Proofs.Ytnckabgaichkkaa.Eng
