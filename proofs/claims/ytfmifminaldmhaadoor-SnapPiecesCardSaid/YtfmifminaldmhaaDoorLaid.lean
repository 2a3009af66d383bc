/- Proved: what a listed table of numbers reads as; reading goes on below. Conditions: each theorem's own hypotheses. No program in sight. -/
import Derived.Test.YtfmifminaldmhaaDoorOpn
import Derived.LaidMore
import Derived.LaidHandle
import Derived.LaidLaws
import Derived.Below
set_option linter.unusedVariables false
set_option linter.unusedSimpArgs false
namespace Go.Proofs.YtfmifminaldmhaaDoor
open Go.RowKit
variable {H : Type} {enc : TypeId × Value → H} {P : Program} {w : World} {base : Nat} {spare : Nat → Bool} {held : Bool}
theorem arr_ints {t e : TypeId} {k : IntKind} {fuel n : Nat} {cs : List Value} {ps : List MemPlace} {ns : List Int} (ht : P.underlying t = some (.array n e)) (he : P.underlying e = some (.int k)) (hs : P.cellsOf e = 1) (hc : P.cellsOf t = n)
    (h : DataW.trod enc P w base spare held fuel t cs = some (.agg (ns.map fun x => .lit (.int k x)), ps)) : cs = ns.map fun x => .int k x := by
  obtain ⟨xs, m, _, hx, hl, hn, hall⟩ := DataW.trod_array ht h
  have hm : ns.map (fun x => (DataW.lit (.int k x) : DataW H)) = xs.map (·.1) := by
    have := congrArg Prod.fst hx
    simpa using this
  have hnn : ns.length = n := by have := congrArg List.length hm; simp at this; omega
  apply List.ext_getElem?
  intro i
  by_cases hi : i < n
  · have hg := hall i hi
    rw [hs, Nat.mul_one] at hg
    obtain ⟨v, e1, e2, _⟩ := DataW.trod_int he (hg.trans (List.getElem?_eq_getElem (by omega)))
    have e3 : cs[i]? = some (.int k v) := by
      have := congrArg (fun l : List Value => l[0]?) e1
      simpa [List.getElem?_take, List.getElem?_drop] using this
    have e4 : (xs.map (·.1))[i]? = some (.lit (.int k v)) := by
      rw [List.getElem?_map, List.getElem?_eq_getElem (by omega : i < xs.length)]; simp [e2]
    rw [← hm, List.getElem?_map] at e4
    rw [e3, List.getElem?_map]
    cases hx : ns[i]? with
    | none => rw [hx] at e4; cases e4
    | some y => rw [hx] at e4; simp at e4; simp [e4]
  · rw [List.getElem?_eq_none (by omega), List.getElem?_eq_none (by simp; omega)]
/-- A listed table of numbers is a row in memory. -/
theorem laid_ints {name : String} {g : Nat} {t e : TypeId} {k : IntKind} {n : Nat} {ns : List Int} (hl : laidMetH P [(name, .agg (ns.map fun x => .lit (.int k x)))] w) (hg : P.globalNamed name = some g) (hgt : (P.globals[g]?).map (·.type) = some t)
    (ht : P.underlying t = some (.array n e)) (he : P.underlying e = some (.int k)) (hs : P.cellsOf e = 1) (hc : P.cellsOf t = n) : RowAt w ⟨g, 0, none⟩ (ns.map fun x => Value.int k x).toArray := by
  rw [MakeChecks.laidMetH_plain _ _ _ (by rfl)] at hl
  obtain ⟨ps, ⟨g0, t0, cs0, f0, p0, q0, hg0, ht0, hv0, hd0, _⟩, _, _⟩ := hl
  obtain rfl := Option.some.inj (hg.symm.trans hg0)
  obtain rfl := Option.some.inj (hgt.symm.trans ht0)
  have hcs := arr_ints ht he hs hc hd0
  intro i v hv
  have := World.var?_cell hg0 hv0 i
  rw [add_plain, Nat.zero_add, this]
  rw [List.getElem?_toArray, ← hcs] at hv
  simpa using hv
theorem RowAt.below {n : Nat} {w w' : World} {a : Addr} {cs : Array Value} (b : Below n w w') (h : RowAt w a cs) (ha : a.block < n) : RowAt w' a cs := fun i v hv => by
  rw [b.cell (by rw [addr_block]; exact ha)]; exact h i v hv
theorem cell_lt {w : World} {a : Addr} {v : Value} (h : w.cell? a = some v) : a.block < w.heap.size := by
  apply Decidable.byContradiction
  intro hn
  unfold World.cell? at h
  rw [Array.getElem?_eq_none (by omega)] at h
  simp at h
theorem RwR.below {α : Type} {E : IEnc α} {w w' : World} {A : Option Addr} {cap : Nat} {xs : List α} (b : Below w.heap.size w w') (hz : 0 < E.sz) (h : RwR w A E cap xs) : RwR w' A E cap xs := by
  refine ⟨h.1, h.2.1, ?_⟩
  rcases h.2.2 with rfl | ⟨a, rfl, k⟩
  · exact .inl rfl
  · by_cases hx : xs = []
    · exact .inl hx
    · refine .inr ⟨a, rfl, k.below b ?_⟩
      have h0 : 0 < (rowc E 0 xs).length := by rw [rowc_len]; exact Nat.mul_pos (List.length_pos_iff.2 hx) hz
      have := k 0 _ (by rw [List.getElem?_toArray]; exact List.getElem?_eq_getElem h0)
      have := cell_lt this
      rwa [addr_block] at this
end Go.Proofs.YtfmifminaldmhaaDoor
