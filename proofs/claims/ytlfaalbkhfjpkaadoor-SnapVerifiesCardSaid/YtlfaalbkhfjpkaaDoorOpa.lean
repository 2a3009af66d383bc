/- Proved: arrays of numbers that can be read as data, alone and in rows; five parameters. Conditions: each theorem's own hypotheses. No program in sight. -/
import Derived.Test.YtlfaalbkhfjpkaaDoorLaid
import Derived.ChangeShapes
set_option linter.unusedVariables false
set_option linter.unusedSimpArgs false
namespace Go.Proofs.YtlfaalbkhfjpkaaDoor
open Go.RowKit Go.ChangeShapes
variable {H : Type} {enc : TypeId × Value → H} {P : Program} {w : World} {base : Nat} {spare : Nat → Bool} {held : Bool}
/-- An array of numbers. -/
theorem open_arr {t e : TypeId} {k : IntKind} {fuel n : Nat} {cs : List Value} {x : DataW H × List MemPlace} (ht : P.underlying t = some (.array n e)) (he : P.underlying e = some (.int k)) (hs : P.cellsOf e = 1) (hc : P.cellsOf t = n)
    (h : DataW.trod enc P w base spare held fuel t cs = some x) : ∃ ns : List Int, ns.length = n ∧ cs = ns.map fun y => Value.int k y := by
  obtain ⟨xs, m, _, hx, hl, hn, hall⟩ := DataW.trod_array ht h
  have key : ∀ i, i < n → ∃ v, cs[i]? = some (.int k v) := fun i hi => by
    have hg := hall i hi
    rw [hs, Nat.mul_one] at hg
    obtain ⟨v, e1, _, _⟩ := DataW.trod_int he (hg.trans (List.getElem?_eq_getElem (by omega)))
    refine ⟨v, ?_⟩
    have := congrArg (fun l : List Value => l[0]?) e1
    simpa [List.getElem?_take, List.getElem?_drop] using this
  refine ⟨cs.map fun v => match v with | .int _ y => y | _ => 0, by rw [List.length_map]; omega, ?_⟩
  apply List.ext_getElem?
  intro i
  by_cases hi : i < n
  · obtain ⟨v, hv⟩ := key i hi
    rw [List.getElem?_map, List.getElem?_map, hv]; rfl
  · rw [List.getElem?_eq_none (by omega), List.getElem?_eq_none (by simp; omega)]
theorem map_lI (k : IntKind) : ∀ (ns pre : List Int), lI k (pre ++ ns) ns.length pre.length = ns.map fun y => Value.int k y
  | [], pre => rfl
  | x :: ns, pre => by
    show Value.int k (el (pre ++ x :: ns) pre.length) :: lI k (pre ++ x :: ns) ns.length (pre.length + 1) = _
    have h1 : el (pre ++ x :: ns) pre.length = x := by rw [el_getD, List.getD_eq_getElem?_getD]; simp
    have h2 := map_lI k ns (pre ++ [x])
    rw [h1, List.map_cons]
    congr 1
    simpa using h2
theorem arr_lI {k : IntKind} {ns : List Int} {n : Nat} (h : ns.length = n) : (ns.map fun y => Value.int k y) = lI k ns n 0 := by
  subst h
  have := map_lI k ns []
  simpa using this.symm
theorem map_cellsA (k : IntKind) (i : Nat) : ∀ (ns pre : List Int), cellsA (eI k) i (pre ++ ns) ns.length pre.length = ns.map fun y => Value.int k y
  | [], pre => rfl
  | x :: ns, pre => by
    show (eI k).cells i (el (pre ++ x :: ns) pre.length) ++ cellsA (eI k) i (pre ++ x :: ns) ns.length (pre.length + 1) = _
    have h1 : el (pre ++ x :: ns) pre.length = x := by rw [el_getD, List.getD_eq_getElem?_getD]; simp
    have h2 := map_cellsA k i ns (pre ++ [x])
    rw [h1, List.map_cons]
    have h3 : cellsA (eI k) i (pre ++ x :: ns) ns.length (pre.length + 1) = ns.map fun y => Value.int k y := by simpa using h2
    rw [h3]; rfl
/-- A slice of arrays of numbers. -/
theorem open_arrs {t t1 e : TypeId} {k : IntKind} {fuel n : Nat} {cs : List Value} {x : DataW H × List MemPlace} (ht : P.underlying t = some (.slice t1)) (ht1 : P.underlying t1 = some (.array n e)) (he : P.underlying e = some (.int k)) (hs : P.cellsOf e = 1) (hc : P.cellsOf t1 = n) (hn : 0 < n)
    (h : DataW.trod enc P w base spare held fuel t cs = some x) (hw : Light P t x.1) :
    ∃ (A : Option Addr) (xs : List (List Int)) (cap : Nat), cs = [.slice A xs.length cap] ∧ RwR w A (eA n (eI k)) cap xs ∧ xs.length * P.bytesOf t1 ≤ reachBytes ∧ ∀ i, i < xs.length → (el xs i).length = n :=
  open_rows (E := eA n (eI k)) ht (by show 0 < n * 1; omega) (by rw [hc]; show n = n * 1; omega) (fun _ a => a.length = n) (fun i m cs y h _ => by
    obtain ⟨ns, hl, rfl⟩ := open_arr ht1 he hs hc h
    refine ⟨ns, ?_, hl⟩
    subst hl
    have := map_cellsA k i ns []
    simpa [eA] using this.symm) h hw
theorem trodAll_five {t t' t'' t3 t4 : TypeId} {args : Array Value} {ds : List (DataW H)} {ps : List MemPlace} (h : DataW.TrodAll enc P w base spare held [t, t', t'', t3, t4] args.toList ds ps) :
    ∃ v v' v'' v3 v4 d d' d'' d3 d4 p p' p'' p3 p4, args = #[v, v', v'', v3, v4] ∧ ds = [d, d', d'', d3, d4] ∧ ps = p ++ (p' ++ (p'' ++ (p3 ++ p4))) ∧ DataW.Trod enc P w base spare held t v d p ∧ DataW.Trod enc P w base spare held t' v' d' p' ∧ DataW.Trod enc P w base spare held t'' v'' d'' p'' ∧ DataW.Trod enc P w base spare held t3 v3 d3 p3 ∧ DataW.Trod enc P w base spare held t4 v4 d4 p4 := by
  obtain ⟨v, vs, d, ds', p, q, hargs, rfl, rfl, hd, hrest⟩ := trodAll_cons h
  obtain ⟨v', vs', d', ds'', p', q', rfl, rfl, rfl, hd', hrest'⟩ := trodAll_cons hrest
  obtain ⟨v'', vs'', d'', ds''', p'', q'', rfl, rfl, rfl, hd'', hrest''⟩ := trodAll_cons hrest'
  obtain ⟨v3, vs3, d3, ds3, p3, q3, rfl, rfl, rfl, hd3, hrest3⟩ := trodAll_cons hrest''
  obtain ⟨v4, vs4, d4, ds4, p4, q4, rfl, rfl, rfl, hd4, hrest4⟩ := trodAll_cons hrest3
  obtain ⟨rfl, rfl, rfl⟩ := trodAll_nil hrest4
  exact ⟨v, v', v'', v3, v4, d, d', d'', d3, d4, p, p', p'', p3, p4, by cases args; simp_all, rfl, by simp, hd, hd', hd'', hd3, hd4⟩
end Go.Proofs.YtlfaalbkhfjpkaaDoor
