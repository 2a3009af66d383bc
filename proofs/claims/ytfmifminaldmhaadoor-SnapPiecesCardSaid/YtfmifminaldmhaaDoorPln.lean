/- Proved: plain facts on checks, lists and loops that are alike from function to function. Conditions: each theorem's own hypotheses. -/
import Derived.Test.YtfmifminaldmhaaDoorLift
set_option linter.unusedVariables false
set_option maxRecDepth 100000
namespace Go.Proofs.YtfmifminaldmhaaDoor
open Go.RowKit
variable {α : Type}

theorem chk_t {c : Bool} {T : Option α} (h : c = true) : chk c T = T := by rw [h]; rfl
theorem inb_t {i : Int} {n : Nat} (h0 : 0 ≤ i) (h : i < (n : Int)) : inb i n = true := by simp [inb, h0, h]
theorem inc_t {l h : Int} {n : Nat} (h0 : 0 ≤ l) (h1 : l ≤ h) (h2 : h ≤ (n : Int)) : inc l h n = true := by simp [inc, h0, h1, h2]
theorem okl_t {n b : Nat} (h : n * b ≤ 140737488355328) (hb : 1 ≤ b) : okl n b = true := by
  have : n ≤ n * b := Nat.le_mul_of_pos_right n hb
  simp [okl, h]; omega
theorem okl1 {n : Nat} (h : n ≤ 140737488355328) : okl n 1 = true := okl_t (by omega) (by omega)
theorem i64_id {n : Int} (h0 : -9223372036854775808 ≤ n) (h1 : n ≤ 9223372036854775807) : IntKind.i64.wrap n = n := IntWalk.i64_in n ⟨h0, h1⟩
theorem u64_id {n : Int} (h0 : 0 ≤ n) (h1 : n ≤ 18446744073709551615) : IntKind.u64.wrap n = n := IntWalk.u64_in n ⟨h0, h1⟩
/-- A loop that ends with one answer: an invariant, a measure. -/
theorem loop_to {X Y : Type} {step : X → Option (X ⊕ Y)} (I : X → Prop) (m : X → Nat) (y : Y) (round : ∀ x, I x → (∃ x', step x = some (.inl x') ∧ I x' ∧ m x' < m x) ∨ step x = some (.inr y)) {x : X} (h : I x) : loop step x = some y := by
  obtain ⟨z, hz, rfl⟩ := loop_inv (step := step) I m (· = y) (fun x hx => (round x hx).imp id (fun h => ⟨y, h, rfl⟩)) h
  exact hz
/-- Copying one behind the other: what every such loop of bytes does. -/
def cpStep (b : List Int) (x : (List Int) × Int) : Option (((List Int) × Int) ⊕ (List Int)) :=
  (bif decide (x.2 < ((b.length : Nat) : Int)) then chk (inb x.2 b.length) (chk (okl ((x.1 ++ [el b x.2.toNat]).length) 1) (some (.inl (x.1 ++ [el b x.2.toNat], IntKind.i64.wrap (x.2 + 1))))) else some (.inr x.1))
end Go.Proofs.YtfmifminaldmhaaDoor
