/- Proved: what can be read as data is a row, as the lifted functions want it. Conditions: each theorem's own hypotheses. No program in sight. -/
import Derived.Test.YtfmifminaldmhaaDoorLift
import Derived.OpenShut
import Derived.ChangeArms
import Derived.DataReads
set_option linter.unusedVariables false
set_option linter.unusedSimpArgs false
namespace Go.Proofs.YtfmifminaldmhaaDoor
open Go.RowKit
section
variable {α : Type} {E : IEnc α}
theorem row_of [Inhabited α] {w : World} {a : Addr} {len : Nat} (hz : 0 < E.sz) (Q : Nat → α → Prop) (h : ∀ i, i < len → ∃ y, Q i y ∧ ∀ (j : Nat) v, (E.cells i y)[j]? = some v → w.cell? ((a.add (i * E.sz)).add j) = some v) :
    ∃ xs : List α, xs.length = len ∧ (∀ i, i < len → Q i (el xs i)) ∧ RowAt w a (rowc E 0 xs).toArray := by
  classical
  let f : Nat → α := fun i => if h' : i < len then (h i h').choose else default
  have hf : ∀ i (h' : i < len), f i = (h i h').choose := fun i h' => dif_pos h'
  have he : ∀ i, i < len → el ((List.range len).map f) i = f i := fun i hi => by rw [el_getD]; simp [List.getD_eq_getElem?_getD, hi]
  refine ⟨(List.range len).map f, by simp, fun i hi => ?_, fun m v hv => ?_⟩
  · rw [he i hi, hf i hi]; exact (h i hi).choose_spec.1
  · rw [List.getElem?_toArray] at hv
    have hm : m < (rowc E 0 ((List.range len).map f)).length := (List.getElem?_eq_some_iff.1 hv).1
    rw [rowc_len, List.length_map, List.length_range] at hm
    have hi : m / E.sz < len := (Nat.div_lt_iff_lt_mul hz).2 hm
    have hj : m % E.sz < E.sz := Nat.mod_lt _ hz
    have hd : m / E.sz * E.sz + m % E.sz = m := by rw [Nat.mul_comm]; exact Nat.div_add_mod _ _
    have hg := rowc_get (E := E) ((List.range len).map f) 0 (m / E.sz) (m % E.sz) (by simpa using hi) hj
    rw [hd, Nat.zero_add, he _ hi, hf _ hi, hv] at hg
    have := (h _ hi).choose_spec.2 _ _ hg.symm
    rwa [add_add, hd] at this
end
variable {H : Type} {enc : TypeId × Value → H} {P : Program} {w : World} {base : Nat} {spare : Nat → Bool} {held : Bool}
/-- Nothing in it takes more than the reach. -/
def Light (P : Program) (t : TypeId) (d : DataW H) : Prop := (d.weights P t).all (· ≤ reachBytes) = true
theorem light_all {e : TypeId} : ∀ {ds : List (DataW H)}, (DataW.weightsAll P e ds).all (· ≤ reachBytes) = true → ∀ d ∈ ds, Light P e d
  | [], _, d, hd => by cases hd
  | d :: r, h, d', hd => by
    unfold DataW.weightsAll at h
    rw [List.all_append, Bool.and_eq_true] at h
    rcases List.mem_cons.1 hd with rfl | hd
    · exact h.1
    · exact light_all h.2 d' hd
theorem light_each : ∀ {ts : List TypeId} {ds : List (DataW H)}, (DataW.weightsEach P ts ds).all (· ≤ reachBytes) = true → ∀ (i : Nat) t d, ts[i]? = some t → ds[i]? = some d → Light P t d
  | [], _, _, i, t, d, ht, _ => by simp at ht
  | _ :: _, [], _, i, t, d, _, hd => by simp at hd
  | t :: ts, d :: r, h, i, t', d', ht, hd => by
    unfold DataW.weightsEach at h
    rw [List.all_append, Bool.and_eq_true] at h
    cases i with
    | zero => simp at ht hd; subst ht; subst hd; exact h.1
    | succ i => exact light_each h.2 i t' d' (by simpa using ht) (by simpa using hd)
theorem light_slice {t e : TypeId} {es sp : List (DataW H)} (ht : P.underlying t = some (.slice e)) (h : Light P t (.slice es sp)) : (es.length + sp.length) * P.bytesOf e ≤ reachBytes ∧ ∀ d ∈ es, Light P e d := by
  unfold Light DataW.weights at h
  rw [ht] at h
  simp only [List.all_cons, List.all_append, Bool.and_eq_true, decide_eq_true_eq] at h
  exact ⟨h.1, light_all h.2.1⟩
/-- A slice that can be read as data: its elements, one by one. -/
theorem open_rows {α : Type} [Inhabited α] {E : IEnc α} {t e : TypeId} {fuel : Nat} {cs : List Value} {x : DataW H × List MemPlace} (ht : P.underlying t = some (.slice e)) (hz : 0 < E.sz) (hs : P.cellsOf e = E.sz) (Q : Nat → α → Prop)
    (dec : ∀ (i m : Nat) (cs : List Value) (y : DataW H × List MemPlace), DataW.trod enc P w base spare held m e cs = some y → Light P e y.1 → ∃ a, cs = E.cells i a ∧ Q i a)
    (h : DataW.trod enc P w base spare held fuel t cs = some x) (hw : Light P t x.1) :
    ∃ (A : Option Addr) (xs : List α) (cap : Nat), cs = [.slice A xs.length cap] ∧ RwR w A E cap xs ∧ xs.length * P.bytesOf e ≤ reachBytes ∧ ∀ i, i < xs.length → Q i (el xs i) := by
  rcases DataW.trod_slice ht h with ⟨rfl, _⟩ | ⟨a, len, cap, elems, rest, n, _, rfl, rfl, hb, hlc, hcm, hel, hget, _⟩
  · exact ⟨none, [], 0, rfl, RwR.nil, by simp, fun i hi => absurd hi (by simp)⟩
  · obtain ⟨hwl, hwe⟩ := light_slice ht hw
    obtain ⟨xs, hl, hq, hr⟩ := row_of (E := E) (w := w) (a := a) (len := len) hz Q (fun i hi => by
      have hg := hget i hi
      rw [hs] at hg
      obtain ⟨ci, hci, hti⟩ := Option.bind_eq_some_iff.1 (hg.trans (List.getElem?_eq_getElem (by rw [hel]; exact hi)))
      obtain ⟨y, rfl, hy⟩ := dec i n ci _ hti (hwe _ (List.mem_map.2 ⟨_, List.getElem_mem _, rfl⟩))
      refine ⟨y, hy, fun j v hv => ?_⟩
      obtain ⟨_, hlen, hc⟩ := World.cells?_some hci
      rw [hc j (by rw [← hlen]; exact (List.getElem?_eq_some_iff.1 hv).1)]
      exact hv)
    subst hl
    refine ⟨some a, xs, cap, rfl, ⟨hlc, fun _ _ => trivial, .inr ⟨a, rfl, hr⟩⟩, ?_, hq⟩
    rw [List.length_map, List.length_map, hel] at hwl
    exact Nat.le_trans (Nat.mul_le_mul_right _ (Nat.le_add_right _ _)) hwl
/-- A slice of numbers. -/
theorem open_ints {t e : TypeId} {k : IntKind} {fuel : Nat} {cs : List Value} {x : DataW H × List MemPlace} (ht : P.underlying t = some (.slice e)) (he : P.underlying e = some (.int k)) (hs : P.cellsOf e = 1) (h : DataW.trod enc P w base spare held fuel t cs = some x) (hw : Light P t x.1) :
    ∃ (A : Option Addr) (xs : List Int) (cap : Nat), cs = [.slice A xs.length cap] ∧ RwR w A (eI k) cap xs ∧ xs.length * P.bytesOf e ≤ reachBytes ∧ ∀ i, i < xs.length → (Lit.int k (el xs i)).wf = true :=
  open_rows (E := eI k) ht Nat.one_pos hs (fun _ n => (Lit.int k n).wf = true) (fun i m cs y h _ => by
    obtain ⟨n, e, _, hw⟩ := DataW.trod_int he h
    exact ⟨n, e, hw⟩) h hw
/-- One slice of numbers within a row. -/
structure Sl where
  A : Option Addr
  c : Nat
  xs : List Int
instance : Inhabited Sl := ⟨⟨none, 0, []⟩⟩
def eSlR : IEnc Sl := ⟨1, fun _ s => [.slice s.A s.xs.length s.c], fun _ _ => rfl, fun _ _ v h => by simp at h; subst h; rfl⟩
end Go.Proofs.YtfmifminaldmhaaDoor
