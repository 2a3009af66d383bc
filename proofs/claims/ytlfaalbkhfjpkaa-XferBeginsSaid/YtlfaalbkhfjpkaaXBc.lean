/- Proved: what each of these functions does, call by call (printed by a program of the prover's own, over the engine Vc). Conditions: each theorem's own hypotheses. -/
import Derived.Test.YtlfaalbkhfjpkaaXBb
set_option linter.unusedVariables false
set_option linter.unusedSimpArgs false
namespace Go.Proofs.Ytlfaalbkhfjpkaa
open Go.RowKit


def badAt (c0 c1 c2 c3 c4 c5 c6 c7 c8 c9 : Int) : Int :=
  if ¬(1 ≤ c0 ∧ c0 ≤ 3) then 0 else if ¬(1 ≤ c1 ∧ c1 ≤ 8) then 1 else if ¬(c2 ≤ 1000) then 2 else if ¬(1 ≤ c3 ∧ c3 ≤ 8) then 3 else if ¬(1 ≤ c4 ∧ c4 ≤ c3) then 4
  else if ¬(1 ≤ c5 ∧ c5 ≤ 1000) then 5 else if ¬(1 ≤ c6 ∧ c6 ≤ 10000) then 6 else if ¬(c6 ≤ c7 ∧ c7 ≤ 100000) then 7 else if ¬(1 ≤ c8 ∧ c8 ≤ 1099511627776) then 8 else if ¬(1 ≤ c9 ∧ c9 ≤ 1099511627776) then 9 else -1
def okC (c0 c1 c2 c3 c4 c5 c6 c7 c8 c9 : Int) : Bool := decide (badAt c0 c1 c2 c3 c4 c5 c6 c7 c8 c9 = -1)
def nodeIn (c0 n : Int) : Bool := decide (0 ≤ n ∧ n < 2 * c0 + 1)
def InR (c0 c1 c2 c3 c4 c5 c6 c7 c8 c9 : Int) : Prop := (-9223372036854775808 ≤ c0 ∧ c0 ≤ 9223372036854775807) ∧ (-9223372036854775808 ≤ c1 ∧ c1 ≤ 9223372036854775807) ∧ 0 ≤ c2 ∧ 0 ≤ c3 ∧ 0 ≤ c4 ∧ 0 ≤ c5 ∧ 0 ≤ c6 ∧ 0 ≤ c7 ∧ 0 ≤ c8 ∧ 0 ≤ c9
theorem badAt_cases {c0 c1 c2 c3 c4 c5 c6 c7 c8 c9 : Int} : badAt c0 c1 c2 c3 c4 c5 c6 c7 c8 c9 = -1 ∨ 0 ≤ badAt c0 c1 c2 c3 c4 c5 c6 c7 c8 c9 := by
  unfold badAt
  repeat (split; · right; decide)
  left; rfl
theorem okC_range {c0 c1 c2 c3 c4 c5 c6 c7 c8 c9 : Int} (h : okC c0 c1 c2 c3 c4 c5 c6 c7 c8 c9 = true) : 1 ≤ c0 ∧ c0 ≤ 3 := by
  unfold okC badAt at h
  by_cases h0 : 1 ≤ c0 ∧ c0 ≤ 3
  · exact h0
  · rw [if_pos h0] at h; simp at h
theorem okC_ge {c0 c1 c2 c3 c4 c5 c6 c7 c8 c9 : Int} (h : decide (badAt c0 c1 c2 c3 c4 c5 c6 c7 c8 c9 ≥ 0) = false) : okC c0 c1 c2 c3 c4 c5 c6 c7 c8 c9 = true := by
  have := @badAt_cases c0 c1 c2 c3 c4 c5 c6 c7 c8 c9
  simp [okC]; simp at h; omega
theorem okC_lt {c0 c1 c2 c3 c4 c5 c6 c7 c8 c9 : Int} (h : decide (badAt c0 c1 c2 c3 c4 c5 c6 c7 c8 c9 ≥ 0) = true) : okC c0 c1 c2 c3 c4 c5 c6 c7 c8 c9 = false := by
  simp [okC]; simp at h; omega
theorem nodes_is {c0 c1 c2 c3 c4 c5 c6 c7 c8 c9 : Int} (h : okC c0 c1 c2 c3 c4 c5 c6 c7 c8 c9 = true) : IntKind.i64.wrap ((IntKind.i64.wrap (2 * c0)) + 1) = 2 * c0 + 1 := by
  have := okC_range h
  rw [IntWalk.i64_in (2 * c0) (by omega), IntWalk.i64_in _ (by omega)]

theorem balNew {c0 : Int} {c1 : Int} {c2 : Int} {c3 : Int} {c4 : Int} {c5 : Int} {c6 : Int} {c7 : Int} {c8 : Int} {c9 : Int} {R : Ending → World → Prop} {w : World}
    (o1 : InR c0 c1 c2 c3 c4 c5 c6 c7 c8 c9)
    (n1 : ∀ (b : Nat) (w' : World), okC c0 c1 c2 c3 c4 c5 c6 c7 c8 c9 = true → Fr [] w w' → w.heap.size ≤ b → Bk w' b #[.int .i64 c0, .int .i64 c1, .int .u64 c2, .int .u64 c3, .int .u64 c4, .int .u64 c5, .int .u64 c6, .int .u64 c7, .int .u64 c8, .int .u64 c9, .int .i64 (IntKind.i64.wrap ((IntKind.i64.wrap (2 * c0)) + 1))] 186 → R (.returned (.tuple #[.pointer (some ⟨b, 0, none⟩), .nilIface])) w')
    (n2 : ∀ (b : Nat) (w' : World), okC c0 c1 c2 c3 c4 c5 c6 c7 c8 c9 = false → Fr [] w w' → w.heap.size ≤ b → Bk w' b #[.string (⟨#[98, 97, 108, 108, 111, 116]⟩), .int .i64 (badAt c0 c1 c2 c3 c4 c5 c6 c7 c8 c9), .iface 23 (.int .i64 180)] 151 → R (.returned (.tuple #[.pointer none, .iface 149 (.pointer (some ⟨b, 0, none⟩))])) w') :
    Calls Try.prog 59 #[.agg #[.int .i64 c0, .int .i64 c1, .int .u64 c2, .int .u64 c3, .int .u64 c4, .int .u64 c5, .int .u64 c6, .int .u64 c7, .int .u64 c8, .int .u64 c9]] w R := by
  apply balnew1
  · intro z0 b w' a0 e0 fr le bk
    have hb : badAt c0 c1 c2 c3 c4 c5 c6 c7 c8 c9 = 0 := by
      obtain ⟨r0, r1, r2, r3, r4, r5, r6, r7, r8, r9⟩ := o1
      subst z0
      simp only [Bool.or_eq_false_iff, Bool.or_eq_true, decide_eq_false_iff_not, decide_eq_true_eq, IntKind.wrap_u64] at e0
      unfold badAt
      rw [if_pos (by omega)]
    exact n2 b w' (by simp [okC, hb]) fr le (by rw [hb]; exact bk)
  · intro z0 z1 b w' a0 e0 a1 e1 fr le bk
    have hb : badAt c0 c1 c2 c3 c4 c5 c6 c7 c8 c9 = 1 := by
      obtain ⟨r0, r1, r2, r3, r4, r5, r6, r7, r8, r9⟩ := o1
      subst z0 z1
      simp only [Bool.or_eq_false_iff, Bool.or_eq_true, decide_eq_false_iff_not, decide_eq_true_eq, IntKind.wrap_u64] at e0 e1
      unfold badAt
      rw [if_neg (by omega), if_pos (by omega)]
    exact n2 b w' (by simp [okC, hb]) fr le (by rw [hb]; exact bk)
  · intro z0 z1 z2 b w' a0 e0 a1 e1 a2 e2 fr le bk
    have hb : badAt c0 c1 c2 c3 c4 c5 c6 c7 c8 c9 = 2 := by
      obtain ⟨r0, r1, r2, r3, r4, r5, r6, r7, r8, r9⟩ := o1
      subst z0 z1 z2
      simp only [Bool.or_eq_false_iff, Bool.or_eq_true, decide_eq_false_iff_not, decide_eq_true_eq, IntKind.wrap_u64] at e0 e1 e2
      unfold badAt
      rw [if_neg (by omega), if_neg (by omega), if_pos (by omega)]
    exact n2 b w' (by simp [okC, hb]) fr le (by rw [hb]; exact bk)
  · intro z0 z1 z2 z3 b w' a0 e0 a1 e1 a2 e2 a3 e3 fr le bk
    have hb : badAt c0 c1 c2 c3 c4 c5 c6 c7 c8 c9 = 3 := by
      obtain ⟨r0, r1, r2, r3, r4, r5, r6, r7, r8, r9⟩ := o1
      subst z0 z1 z2 z3
      simp only [Bool.or_eq_false_iff, Bool.or_eq_true, decide_eq_false_iff_not, decide_eq_true_eq, IntKind.wrap_u64] at e0 e1 e2 e3
      unfold badAt
      rw [if_neg (by omega), if_neg (by omega), if_neg (by omega), if_pos (by omega)]
    exact n2 b w' (by simp [okC, hb]) fr le (by rw [hb]; exact bk)
  · intro z0 z1 z2 z3 z4 b w' a0 e0 a1 e1 a2 e2 a3 e3 a4 e4 fr le bk
    have hb : badAt c0 c1 c2 c3 c4 c5 c6 c7 c8 c9 = 4 := by
      obtain ⟨r0, r1, r2, r3, r4, r5, r6, r7, r8, r9⟩ := o1
      subst z0 z1 z2 z3 z4
      simp only [Bool.or_eq_false_iff, Bool.or_eq_true, decide_eq_false_iff_not, decide_eq_true_eq, IntKind.wrap_u64] at e0 e1 e2 e3 e4
      unfold badAt
      rw [if_neg (by omega), if_neg (by omega), if_neg (by omega), if_neg (by omega), if_pos (by omega)]
    exact n2 b w' (by simp [okC, hb]) fr le (by rw [hb]; exact bk)
  · intro z0 z1 z2 z3 z4 z5 b w' a0 e0 a1 e1 a2 e2 a3 e3 a4 e4 a5 e5 fr le bk
    have hb : badAt c0 c1 c2 c3 c4 c5 c6 c7 c8 c9 = 5 := by
      obtain ⟨r0, r1, r2, r3, r4, r5, r6, r7, r8, r9⟩ := o1
      subst z0 z1 z2 z3 z4 z5
      simp only [Bool.or_eq_false_iff, Bool.or_eq_true, decide_eq_false_iff_not, decide_eq_true_eq, IntKind.wrap_u64] at e0 e1 e2 e3 e4 e5
      unfold badAt
      rw [if_neg (by omega), if_neg (by omega), if_neg (by omega), if_neg (by omega), if_neg (by omega), if_pos (by omega)]
    exact n2 b w' (by simp [okC, hb]) fr le (by rw [hb]; exact bk)
  · intro z0 z1 z2 z3 z4 z5 z6 b w' a0 e0 a1 e1 a2 e2 a3 e3 a4 e4 a5 e5 a6 e6 fr le bk
    have hb : badAt c0 c1 c2 c3 c4 c5 c6 c7 c8 c9 = 6 := by
      obtain ⟨r0, r1, r2, r3, r4, r5, r6, r7, r8, r9⟩ := o1
      subst z0 z1 z2 z3 z4 z5 z6
      simp only [Bool.or_eq_false_iff, Bool.or_eq_true, decide_eq_false_iff_not, decide_eq_true_eq, IntKind.wrap_u64] at e0 e1 e2 e3 e4 e5 e6
      unfold badAt
      rw [if_neg (by omega), if_neg (by omega), if_neg (by omega), if_neg (by omega), if_neg (by omega), if_neg (by omega), if_pos (by omega)]
    exact n2 b w' (by simp [okC, hb]) fr le (by rw [hb]; exact bk)
  · intro z0 z1 z2 z3 z4 z5 z6 z7 b w' a0 e0 a1 e1 a2 e2 a3 e3 a4 e4 a5 e5 a6 e6 a7 e7 fr le bk
    have hb : badAt c0 c1 c2 c3 c4 c5 c6 c7 c8 c9 = 7 := by
      obtain ⟨r0, r1, r2, r3, r4, r5, r6, r7, r8, r9⟩ := o1
      subst z0 z1 z2 z3 z4 z5 z6 z7
      simp only [Bool.or_eq_false_iff, Bool.or_eq_true, decide_eq_false_iff_not, decide_eq_true_eq, IntKind.wrap_u64] at e0 e1 e2 e3 e4 e5 e6 e7
      unfold badAt
      rw [if_neg (by omega), if_neg (by omega), if_neg (by omega), if_neg (by omega), if_neg (by omega), if_neg (by omega), if_neg (by omega), if_pos (by omega)]
    exact n2 b w' (by simp [okC, hb]) fr le (by rw [hb]; exact bk)
  · intro z0 z1 z2 z3 z4 z5 z6 z7 z8 b w' a0 e0 a1 e1 a2 e2 a3 e3 a4 e4 a5 e5 a6 e6 a7 e7 a8 e8 fr le bk
    have hb : badAt c0 c1 c2 c3 c4 c5 c6 c7 c8 c9 = 8 := by
      obtain ⟨r0, r1, r2, r3, r4, r5, r6, r7, r8, r9⟩ := o1
      subst z0 z1 z2 z3 z4 z5 z6 z7 z8
      simp only [Bool.or_eq_false_iff, Bool.or_eq_true, decide_eq_false_iff_not, decide_eq_true_eq, IntKind.wrap_u64] at e0 e1 e2 e3 e4 e5 e6 e7 e8
      unfold badAt
      rw [if_neg (by omega), if_neg (by omega), if_neg (by omega), if_neg (by omega), if_neg (by omega), if_neg (by omega), if_neg (by omega), if_neg (by omega), if_pos (by omega)]
    exact n2 b w' (by simp [okC, hb]) fr le (by rw [hb]; exact bk)
  · intro z0 z1 z2 z3 z4 z5 z6 z7 z8 z9 b w' a0 e0 a1 e1 a2 e2 a3 e3 a4 e4 a5 e5 a6 e6 a7 e7 a8 e8 a9 e9 fr le bk
    have hb : badAt c0 c1 c2 c3 c4 c5 c6 c7 c8 c9 = 9 := by
      obtain ⟨r0, r1, r2, r3, r4, r5, r6, r7, r8, r9⟩ := o1
      subst z0 z1 z2 z3 z4 z5 z6 z7 z8 z9
      simp only [Bool.or_eq_false_iff, Bool.or_eq_true, decide_eq_false_iff_not, decide_eq_true_eq, IntKind.wrap_u64] at e0 e1 e2 e3 e4 e5 e6 e7 e8 e9
      unfold badAt
      rw [if_neg (by omega), if_neg (by omega), if_neg (by omega), if_neg (by omega), if_neg (by omega), if_neg (by omega), if_neg (by omega), if_neg (by omega), if_neg (by omega), if_pos (by omega)]
    exact n2 b w' (by simp [okC, hb]) fr le (by rw [hb]; exact bk)
  · intro z0 z1 z2 z3 z4 z5 z6 z7 z8 z9 b w' a0 e0 a1 e1 a2 e2 a3 e3 a4 e4 a5 e5 a6 e6 a7 e7 a8 e8 a9 e9 fr le bk
    have hb : badAt c0 c1 c2 c3 c4 c5 c6 c7 c8 c9 = -1 := by
      obtain ⟨r0, r1, r2, r3, r4, r5, r6, r7, r8, r9⟩ := o1
      subst z0 z1 z2 z3 z4 z5 z6 z7 z8 z9
      simp only [Bool.or_eq_false_iff, Bool.or_eq_true, decide_eq_false_iff_not, decide_eq_true_eq, IntKind.wrap_u64] at e0 e1 e2 e3 e4 e5 e6 e7 e8 e9
      unfold badAt
      rw [if_neg (by omega), if_neg (by omega), if_neg (by omega), if_neg (by omega), if_neg (by omega), if_neg (by omega), if_neg (by omega), if_neg (by omega), if_neg (by omega), if_neg (by omega)]
    exact n1 b w' (by simp [okC, hb]) fr le bk

theorem r9field {c0 : Int} {c1 : Int} {c2 : Int} {c3 : Int} {c4 : Int} {c5 : Int} {c6 : Int} {c7 : Int} {c8 : Int} {c9 : Int} {R : Ending → World → Prop} {w : World}
    (n1 : ∀ (w' : World), Fr [] w w' → R (.returned (.int .i64 (badAt c0 c1 c2 c3 c4 c5 c6 c7 c8 c9))) w') :
    Calls Try.prog 86 #[.agg #[.int .i64 c0, .int .i64 c1, .int .u64 c2, .int .u64 c3, .int .u64 c4, .int .u64 c5, .int .u64 c6, .int .u64 c7, .int .u64 c8, .int .u64 c9]] w R := by
  apply r9field1
  · intro z0 z1 z3 z4 z5 z6 z7 z8 z9 w' a0 a1 a3 a4 a5 a6 a7 a8 a9 f0 fr
    have hb : badAt c0 c1 c2 c3 c4 c5 c6 c7 c8 c9 = 0 := by
      subst z0 z1 z3 z4 z5 z6 z7 z8 z9
      simp only [Bool.not_eq_eq_eq_not, Bool.not_true, Bool.not_false, Bool.and_eq_true, Bool.and_eq_false_iff, decide_eq_false_iff_not, decide_eq_true_eq] at f0
      unfold badAt
      rw [if_pos (by omega)]
    have := n1 w' fr
    rw [hb] at this
    exact this
  · intro z0 z1 z3 z4 z5 z6 z7 z8 z9 w' a0 a1 a3 a4 a5 a6 a7 a8 a9 f0 f1 fr
    have hb : badAt c0 c1 c2 c3 c4 c5 c6 c7 c8 c9 = 1 := by
      subst z0 z1 z3 z4 z5 z6 z7 z8 z9
      simp only [Bool.not_eq_eq_eq_not, Bool.not_true, Bool.not_false, Bool.and_eq_true, Bool.and_eq_false_iff, decide_eq_false_iff_not, decide_eq_true_eq] at f0 f1
      unfold badAt
      rw [if_neg (by omega), if_pos (by omega)]
    have := n1 w' fr
    rw [hb] at this
    exact this
  · intro z0 z1 z3 z4 z5 z6 z7 z8 z9 w' a0 a1 a3 a4 a5 a6 a7 a8 a9 f0 f1 f2 fr
    have hb : badAt c0 c1 c2 c3 c4 c5 c6 c7 c8 c9 = 2 := by
      subst z0 z1 z3 z4 z5 z6 z7 z8 z9
      simp only [Bool.not_eq_eq_eq_not, Bool.not_true, Bool.not_false, Bool.and_eq_true, Bool.and_eq_false_iff, decide_eq_false_iff_not, decide_eq_true_eq] at f0 f1 f2
      unfold badAt
      rw [if_neg (by omega), if_neg (by omega), if_pos (by omega)]
    have := n1 w' fr
    rw [hb] at this
    exact this
  · intro z0 z1 z3 z4 z5 z6 z7 z8 z9 w' a0 a1 a3 a4 a5 a6 a7 a8 a9 f0 f1 f2 f3 fr
    have hb : badAt c0 c1 c2 c3 c4 c5 c6 c7 c8 c9 = 3 := by
      subst z0 z1 z3 z4 z5 z6 z7 z8 z9
      simp only [Bool.not_eq_eq_eq_not, Bool.not_true, Bool.not_false, Bool.and_eq_true, Bool.and_eq_false_iff, decide_eq_false_iff_not, decide_eq_true_eq] at f0 f1 f2 f3
      unfold badAt
      rw [if_neg (by omega), if_neg (by omega), if_neg (by omega), if_pos (by omega)]
    have := n1 w' fr
    rw [hb] at this
    exact this
  · intro z0 z1 z3 z4 z5 z6 z7 z8 z9 w' a0 a1 a3 a4 a5 a6 a7 a8 a9 f0 f1 f2 f3 f4 fr
    have hb : badAt c0 c1 c2 c3 c4 c5 c6 c7 c8 c9 = 4 := by
      subst z0 z1 z3 z4 z5 z6 z7 z8 z9
      simp only [Bool.not_eq_eq_eq_not, Bool.not_true, Bool.not_false, Bool.and_eq_true, Bool.and_eq_false_iff, decide_eq_false_iff_not, decide_eq_true_eq] at f0 f1 f2 f3 f4
      unfold badAt
      rw [if_neg (by omega), if_neg (by omega), if_neg (by omega), if_neg (by omega), if_pos (by omega)]
    have := n1 w' fr
    rw [hb] at this
    exact this
  · intro z0 z1 z3 z4 z5 z6 z7 z8 z9 w' a0 a1 a3 a4 a5 a6 a7 a8 a9 f0 f1 f2 f3 f4 f5 fr
    have hb : badAt c0 c1 c2 c3 c4 c5 c6 c7 c8 c9 = 5 := by
      subst z0 z1 z3 z4 z5 z6 z7 z8 z9
      simp only [Bool.not_eq_eq_eq_not, Bool.not_true, Bool.not_false, Bool.and_eq_true, Bool.and_eq_false_iff, decide_eq_false_iff_not, decide_eq_true_eq] at f0 f1 f2 f3 f4 f5
      unfold badAt
      rw [if_neg (by omega), if_neg (by omega), if_neg (by omega), if_neg (by omega), if_neg (by omega), if_pos (by omega)]
    have := n1 w' fr
    rw [hb] at this
    exact this
  · intro z0 z1 z3 z4 z5 z6 z7 z8 z9 w' a0 a1 a3 a4 a5 a6 a7 a8 a9 f0 f1 f2 f3 f4 f5 f6 fr
    have hb : badAt c0 c1 c2 c3 c4 c5 c6 c7 c8 c9 = 6 := by
      subst z0 z1 z3 z4 z5 z6 z7 z8 z9
      simp only [Bool.not_eq_eq_eq_not, Bool.not_true, Bool.not_false, Bool.and_eq_true, Bool.and_eq_false_iff, decide_eq_false_iff_not, decide_eq_true_eq] at f0 f1 f2 f3 f4 f5 f6
      unfold badAt
      rw [if_neg (by omega), if_neg (by omega), if_neg (by omega), if_neg (by omega), if_neg (by omega), if_neg (by omega), if_pos (by omega)]
    have := n1 w' fr
    rw [hb] at this
    exact this
  · intro z0 z1 z3 z4 z5 z6 z7 z8 z9 w' a0 a1 a3 a4 a5 a6 a7 a8 a9 f0 f1 f2 f3 f4 f5 f6 f7 fr
    have hb : badAt c0 c1 c2 c3 c4 c5 c6 c7 c8 c9 = 7 := by
      subst z0 z1 z3 z4 z5 z6 z7 z8 z9
      simp only [Bool.not_eq_eq_eq_not, Bool.not_true, Bool.not_false, Bool.and_eq_true, Bool.and_eq_false_iff, decide_eq_false_iff_not, decide_eq_true_eq] at f0 f1 f2 f3 f4 f5 f6 f7
      unfold badAt
      rw [if_neg (by omega), if_neg (by omega), if_neg (by omega), if_neg (by omega), if_neg (by omega), if_neg (by omega), if_neg (by omega), if_pos (by omega)]
    have := n1 w' fr
    rw [hb] at this
    exact this
  · intro z0 z1 z3 z4 z5 z6 z7 z8 z9 w' a0 a1 a3 a4 a5 a6 a7 a8 a9 f0 f1 f2 f3 f4 f5 f6 f7 f8 fr
    have hb : badAt c0 c1 c2 c3 c4 c5 c6 c7 c8 c9 = 8 := by
      subst z0 z1 z3 z4 z5 z6 z7 z8 z9
      simp only [Bool.not_eq_eq_eq_not, Bool.not_true, Bool.not_false, Bool.and_eq_true, Bool.and_eq_false_iff, decide_eq_false_iff_not, decide_eq_true_eq] at f0 f1 f2 f3 f4 f5 f6 f7 f8
      unfold badAt
      rw [if_neg (by omega), if_neg (by omega), if_neg (by omega), if_neg (by omega), if_neg (by omega), if_neg (by omega), if_neg (by omega), if_neg (by omega), if_pos (by omega)]
    have := n1 w' fr
    rw [hb] at this
    exact this
  · intro z0 z1 z3 z4 z5 z6 z7 z8 z9 w' a0 a1 a3 a4 a5 a6 a7 a8 a9 f0 f1 f2 f3 f4 f5 f6 f7 f8 f9 fr
    have hb : badAt c0 c1 c2 c3 c4 c5 c6 c7 c8 c9 = 9 := by
      subst z0 z1 z3 z4 z5 z6 z7 z8 z9
      simp only [Bool.not_eq_eq_eq_not, Bool.not_true, Bool.not_false, Bool.and_eq_true, Bool.and_eq_false_iff, decide_eq_false_iff_not, decide_eq_true_eq] at f0 f1 f2 f3 f4 f5 f6 f7 f8 f9
      unfold badAt
      rw [if_neg (by omega), if_neg (by omega), if_neg (by omega), if_neg (by omega), if_neg (by omega), if_neg (by omega), if_neg (by omega), if_neg (by omega), if_neg (by omega), if_pos (by omega)]
    have := n1 w' fr
    rw [hb] at this
    exact this
  · intro z0 z1 z3 z4 z5 z6 z7 z8 z9 w' a0 a1 a3 a4 a5 a6 a7 a8 a9 f0 f1 f2 f3 f4 f5 f6 f7 f8 f9 fr
    have hb : badAt c0 c1 c2 c3 c4 c5 c6 c7 c8 c9 = -1 := by
      subst z0 z1 z3 z4 z5 z6 z7 z8 z9
      simp only [Bool.not_eq_eq_eq_not, Bool.not_true, Bool.not_false, Bool.and_eq_true, Bool.and_eq_false_iff, decide_eq_false_iff_not, decide_eq_true_eq] at f0 f1 f2 f3 f4 f5 f6 f7 f8 f9
      unfold badAt
      rw [if_neg (by omega), if_neg (by omega), if_neg (by omega), if_neg (by omega), if_neg (by omega), if_neg (by omega), if_neg (by omega), if_neg (by omega), if_neg (by omega), if_neg (by omega)]
    have := n1 w' fr
    rw [hb] at this
    exact this

theorem balNode {b : Nat} {c0 : Int} {c1 : Int} {c2 : Int} {c3 : Int} {c4 : Int} {c5 : Int} {c6 : Int} {c7 : Int} {c8 : Int} {c9 : Int} {n : Int} {R : Ending → World → Prop} {w : World}
    (k_b : Bk w b #[.int .i64 c0, .int .i64 c1, .int .u64 c2, .int .u64 c3, .int .u64 c4, .int .u64 c5, .int .u64 c6, .int .u64 c7, .int .u64 c8, .int .u64 c9, .int .i64 (IntKind.i64.wrap ((IntKind.i64.wrap (2 * c0)) + 1))] 186)
    (o1 : okC c0 c1 c2 c3 c4 c5 c6 c7 c8 c9 = true)
    (n1 : ∀ (w' : World), Fr [] w w' → R (.returned (.bool (nodeIn c0 n))) w') :
    Calls Try.prog 61 #[.pointer (some ⟨b, 0, none⟩), .int .i64 n] w R := by
  have hr := okC_range o1
  have hn := nodes_is o1
  apply balnode k_b
  intro z1 z2 w' h1 h2 fr
  have := n1 w' fr
  have e : nodeIn c0 n = z2 := by
    rw [h2, h1, hn]
    unfold nodeIn
    rw [Bool.eq_iff_iff]
    simp
    omega
  rw [e] at this
  exact this

theorem r9Node {b : Nat} {c0 : Int} {c1 : Int} {c2 : Int} {c3 : Int} {c4 : Int} {c5 : Int} {c6 : Int} {c7 : Int} {c8 : Int} {c9 : Int} {n : Int} {R : Ending → World → Prop} {w : World}
    (k_b : Bk w b #[.int .i64 c0, .int .i64 c1, .int .u64 c2, .int .u64 c3, .int .u64 c4, .int .u64 c5, .int .u64 c6, .int .u64 c7, .int .u64 c8, .int .u64 c9] 189)
    (o1 : okC c0 c1 c2 c3 c4 c5 c6 c7 c8 c9 = true)
    (n1 : ∀ (w' : World), Fr [] w w' → R (.returned (.bool (nodeIn c0 n))) w') :
    Calls Try.prog 64 #[.pointer (some ⟨b, 0, none⟩), .int .i64 n] w R := by
  have hr := okC_range o1
  have hn := nodes_is o1
  apply r9node k_b
  · intro w' h1 fr
    have := n1 w' fr
    have e : nodeIn c0 n = decide (n < IntKind.i64.wrap ((IntKind.i64.wrap (2 * c0)) + 1)) := by
      rw [hn]
      unfold nodeIn
      rw [Bool.eq_iff_iff]
      simp at h1 ⊢
      omega
    rw [e] at this
    exact this
  · intro w' h1 fr
    have := n1 w' fr
    have e : nodeIn c0 n = false := by
      unfold nodeIn
      simp at h1 ⊢
      omega
    rw [e] at this
    exact this

theorem r9new1_r1 (c0 : Int) (c1 : Int) (c2 : Int) (c3 : Int) (c4 : Int) (c5 : Int) (c6 : Int) (c7 : Int) (c8 : Int) (c9 : Int) : (#[.int .i64 c0, .int .i64 c1, .int .u64 c2, .int .u64 c3, .int .u64 c4, .int .u64 c5, .int .u64 c6, .int .u64 c7, .int .u64 c8, .int .u64 c9] : Array Value).extract 0 (0 + (#[.int .i64 c0, .int .i64 c1, .int .u64 c2, .int .u64 c3, .int .u64 c4, .int .u64 c5, .int .u64 c6, .int .u64 c7, .int .u64 c8, .int .u64 c9] : Array Value).size) = #[.int .i64 c0, .int .i64 c1, .int .u64 c2, .int .u64 c3, .int .u64 c4, .int .u64 c5, .int .u64 c6, .int .u64 c7, .int .u64 c8, .int .u64 c9] := by kernel_rfl
theorem r9new1_e2 (b2 : Nat) (b3 : Nat) (R : Ending → World → Prop) (u0_ u1_ u2_ u4_ u5_ u6_ u7_ u8_ u9_ u11_ u12_ u13_ u14_ : Value) (w4 : World) : vcO Try.prog (bodyOf Try.f62) [1, 1, 0, 1, 0, 0] 2 (bodyPost Try.prog Try.f62 R) (vcFn Try.prog Try.f62 R) (.cell (.agg #[.slice (some ⟨b3, 0, none⟩) 1 1, .int .i64 180]) .nil) ⟨#[u0_, u1_, u2_, .pointer (some ⟨b2, 0, none⟩), u4_, u5_, u6_, u7_, u8_, u9_, .agg #[.slice (some ⟨b3, 0, none⟩) 1 1, .int .i64 180], u11_, u12_, u13_, u14_], []⟩ w4
  = (HasRow w4 ⟨b2, 0, none⟩ 0 [.slice (some ⟨b3, 0, none⟩) 1 1, .int .i64 180] ∧ ∀ (w5 : World), w5 = setRow w4 ⟨b2, 0, none⟩ 0 [.slice (some ⟨b3, 0, none⟩) 1 1, .int .i64 180] → (RowAt w5 ⟨b2, 0, none⟩ #[.slice (some ⟨b3, 0, none⟩) 1 1, .int .i64 180] ∧ (R (.returned (.tuple #[.pointer none, .agg #[.slice (some ⟨b3, 0, none⟩) 1 1, .int .i64 180]])) w5))) := by kernel_rfl
abbrev r9new1_S2 (c0 : Int) (c1 : Int) (c2 : Int) (c3 : Int) (c4 : Int) (c5 : Int) (c6 : Int) (c7 : Int) (c8 : Int) (c9 : Int) (b1 : Nat) (w : World) : Prop := RowAt w ⟨b1, 0, none⟩ #[.int .i64 c0, .int .i64 c1, .int .u64 c2, .int .u64 c3, .int .u64 c4, .int .u64 c5, .int .u64 c6, .int .u64 c7, .int .u64 c8, .int .u64 c9]
theorem r9new1_r3 (c0 : Int) (c1 : Int) (c2 : Int) (c3 : Int) (c4 : Int) (c5 : Int) (c6 : Int) (c7 : Int) (c8 : Int) (c9 : Int) : (#[.int .i64 c0, .int .i64 c1, .int .u64 c2, .int .u64 c3, .int .u64 c4, .int .u64 c5, .int .u64 c6, .int .u64 c7, .int .u64 c8, .int .u64 c9] : Array Value).extract 0 (0 + (#[.int .i64 c0, .int .i64 c1, .int .u64 c2, .int .u64 c3, .int .u64 c4, .int .u64 c5, .int .u64 c6, .int .u64 c7, .int .u64 c8, .int .u64 c9] : Array Value).size) = #[.int .i64 c0, .int .i64 c1, .int .u64 c2, .int .u64 c3, .int .u64 c4, .int .u64 c5, .int .u64 c6, .int .u64 c7, .int .u64 c8, .int .u64 c9] := by kernel_rfl
theorem r9new1_r4 (c0 : Int) (c1 : Int) (c2 : Int) (c3 : Int) (c4 : Int) (c5 : Int) (c6 : Int) (c7 : Int) (c8 : Int) (c9 : Int) : (#[.int .i64 c0, .int .i64 c1, .int .u64 c2, .int .u64 c3, .int .u64 c4, .int .u64 c5, .int .u64 c6, .int .u64 c7, .int .u64 c8, .int .u64 c9] : Array Value).extract 0 (0 + (#[.int .i64 c0, .int .i64 c1, .int .u64 c2, .int .u64 c3, .int .u64 c4, .int .u64 c5, .int .u64 c6, .int .u64 c7, .int .u64 c8, .int .u64 c9] : Array Value).size) = #[.int .i64 c0, .int .i64 c1, .int .u64 c2, .int .u64 c3, .int .u64 c4, .int .u64 c5, .int .u64 c6, .int .u64 c7, .int .u64 c8, .int .u64 c9] := by kernel_rfl
theorem r9new1_r5 (c0 : Int) (c1 : Int) (c2 : Int) (c3 : Int) (c4 : Int) (c5 : Int) (c6 : Int) (c7 : Int) (c8 : Int) (c9 : Int) : (#[.int .i64 c0, .int .i64 c1, .int .u64 c2, .int .u64 c3, .int .u64 c4, .int .u64 c5, .int .u64 c6, .int .u64 c7, .int .u64 c8, .int .u64 c9] : Array Value).extract 0 (0 + (#[.int .i64 c0, .int .i64 c1, .int .u64 c2, .int .u64 c3, .int .u64 c4, .int .u64 c5, .int .u64 c6, .int .u64 c7, .int .u64 c8, .int .u64 c9] : Array Value).size) = #[.int .i64 c0, .int .i64 c1, .int .u64 c2, .int .u64 c3, .int .u64 c4, .int .u64 c5, .int .u64 c6, .int .u64 c7, .int .u64 c8, .int .u64 c9] := by kernel_rfl
theorem r9new1_r6 (c0 : Int) (c1 : Int) (c2 : Int) (c3 : Int) (c4 : Int) (c5 : Int) (c6 : Int) (c7 : Int) (c8 : Int) (c9 : Int) : (#[.int .i64 c0, .int .i64 c1, .int .u64 c2, .int .u64 c3, .int .u64 c4, .int .u64 c5, .int .u64 c6, .int .u64 c7, .int .u64 c8, .int .u64 c9] : Array Value).extract 0 (0 + (#[.int .i64 c0, .int .i64 c1, .int .u64 c2, .int .u64 c3, .int .u64 c4, .int .u64 c5, .int .u64 c6, .int .u64 c7, .int .u64 c8, .int .u64 c9] : Array Value).size) = #[.int .i64 c0, .int .i64 c1, .int .u64 c2, .int .u64 c3, .int .u64 c4, .int .u64 c5, .int .u64 c6, .int .u64 c7, .int .u64 c8, .int .u64 c9] := by kernel_rfl
theorem r9new1_e7 (c0 : Int) (c1 : Int) (c2 : Int) (c3 : Int) (c4 : Int) (c5 : Int) (c6 : Int) (c7 : Int) (c8 : Int) (c9 : Int) (b1 : Nat) (b2 : Nat) (b4 : Nat) (R : Ending → World → Prop) (u0_ u1_ u4_ u5_ u6_ u7_ u8_ u9_ u10_ u11_ u12_ : Value) (w8 : World) : vcD Try.prog (bodyOf Try.f62) [1, 1, 1, 0] 2 #[true, true, true, true, false, false] (r9new1_S2 c0 c1 c2 c3 c4 c5 c6 c7 c8 c9 b1) [0, 1, 4] (bodyPost Try.prog Try.f62 R) (vcFn Try.prog Try.f62 R) (.cell (.agg #[.slice none 0 0, .int .i64 0]) .nil) ⟨#[u0_, u1_, .pointer none, .pointer (some ⟨b2, 0, none⟩), u4_, u5_, u6_, u7_, u8_, u9_, u10_, u11_, u12_, .pointer (some ⟨b4, 0, none⟩), .agg #[.slice none 0 0, .int .i64 0]], []⟩ w8
  = (HasRow w8 ⟨b2, 0, none⟩ 0 [.slice none 0 0, .int .i64 0] ∧ ∀ (w9 : World), w9 = setRow w8 ⟨b2, 0, none⟩ 0 [.slice none 0 0, .int .i64 0] → (r9new1_S2 c0 c1 c2 c3 c4 c5 c6 c7 c8 c9 b1 w9 ∧ (RowAt w9 ⟨b2, 0, none⟩ #[.slice none 0 0, .int .i64 0] ∧ (R (.returned (.tuple #[.pointer (some ⟨b4, 0, none⟩), .agg #[.slice none 0 0, .int .i64 0]])) w9)))) := by kernel_rfl
theorem r9new1_r8 (c0 : Int) (c1 : Int) (c2 : Int) (c3 : Int) (c4 : Int) (c5 : Int) (c6 : Int) (c7 : Int) (c8 : Int) (c9 : Int) : (#[.int .i64 c0, .int .i64 c1, .int .u64 c2, .int .u64 c3, .int .u64 c4, .int .u64 c5, .int .u64 c6, .int .u64 c7, .int .u64 c8, .int .u64 c9] : Array Value).extract 0 (0 + (#[.int .i64 c0, .int .i64 c1, .int .u64 c2, .int .u64 c3, .int .u64 c4, .int .u64 c5, .int .u64 c6, .int .u64 c7, .int .u64 c8, .int .u64 c9] : Array Value).size) = #[.int .i64 c0, .int .i64 c1, .int .u64 c2, .int .u64 c3, .int .u64 c4, .int .u64 c5, .int .u64 c6, .int .u64 c7, .int .u64 c8, .int .u64 c9] := by kernel_rfl
theorem r9new1_r9 (c0 : Int) (c1 : Int) (c2 : Int) (c3 : Int) (c4 : Int) (c5 : Int) (c6 : Int) (c7 : Int) (c8 : Int) (c9 : Int) : (#[.int .i64 c0, .int .i64 c1, .int .u64 c2, .int .u64 c3, .int .u64 c4, .int .u64 c5, .int .u64 c6, .int .u64 c7, .int .u64 c8, .int .u64 c9] : Array Value).extract 0 (0 + (#[.int .i64 c0, .int .i64 c1, .int .u64 c2, .int .u64 c3, .int .u64 c4, .int .u64 c5, .int .u64 c6, .int .u64 c7, .int .u64 c8, .int .u64 c9] : Array Value).size) = #[.int .i64 c0, .int .i64 c1, .int .u64 c2, .int .u64 c3, .int .u64 c4, .int .u64 c5, .int .u64 c6, .int .u64 c7, .int .u64 c8, .int .u64 c9] := by kernel_rfl
theorem r9new1_r10 (c0 : Int) (c1 : Int) (c2 : Int) (c3 : Int) (c4 : Int) (c5 : Int) (c6 : Int) (c7 : Int) (c8 : Int) (c9 : Int) : (#[.int .i64 c0, .int .i64 c1, .int .u64 c2, .int .u64 c3, .int .u64 c4, .int .u64 c5, .int .u64 c6, .int .u64 c7, .int .u64 c8, .int .u64 c9] : Array Value).extract 0 (0 + (#[.int .i64 c0, .int .i64 c1, .int .u64 c2, .int .u64 c3, .int .u64 c4, .int .u64 c5, .int .u64 c6, .int .u64 c7, .int .u64 c8, .int .u64 c9] : Array Value).size) = #[.int .i64 c0, .int .i64 c1, .int .u64 c2, .int .u64 c3, .int .u64 c4, .int .u64 c5, .int .u64 c6, .int .u64 c7, .int .u64 c8, .int .u64 c9] := by kernel_rfl
theorem r9new1_e11 (c0 : Int) (c1 : Int) (c2 : Int) (c3 : Int) (c4 : Int) (c5 : Int) (c6 : Int) (c7 : Int) (c8 : Int) (c9 : Int) (b1 : Nat) (b2 : Nat) (R : Ending → World → Prop) (u0_ u1_ u4_ u5_ u6_ u7_ u8_ u9_ u10_ u11_ : Value) (w10 : World) : vcD Try.prog (bodyOf Try.f62) [1, 1, 1, 0] 3 #[true, true, false, true, false, false] (r9new1_S2 c0 c1 c2 c3 c4 c5 c6 c7 c8 c9 b1) [0, 1, 4] (bodyPost Try.prog Try.f62 R) (vcFn Try.prog Try.f62 R) (.cell (.agg #[.slice none 0 0, .int .i64 0]) .nil) ⟨#[u0_, u1_, .pointer none, .pointer (some ⟨b2, 0, none⟩), u4_, u5_, u6_, u7_, u8_, u9_, u10_, u11_, .agg #[.int .i64 c0, .int .i64 c1, .int .u64 c2, .int .u64 c3, .int .u64 c4, .int .u64 c5, .int .u64 c6, .int .u64 c7, .int .u64 c8, .int .u64 c9], .tuple #[], .agg #[.slice none 0 0, .int .i64 0]], []⟩ w10
  = (∀ (b5 : Nat) (w11 : World), b5 = w10.heap.size → w11 = w10.alloc (.cells #[.int .i64 c0, .int .i64 c1, .int .u64 c2, .int .u64 c3, .int .u64 c4, .int .u64 c5, .int .u64 c6, .int .u64 c7, .int .u64 c8, .int .u64 c9] 189) → (r9new1_S2 c0 c1 c2 c3 c4 c5 c6 c7 c8 c9 b1 w11 ∧ (HasRow w11 ⟨b2, 0, none⟩ 0 [.slice none 0 0, .int .i64 0] ∧ ∀ (w12 : World), w12 = setRow w11 ⟨b2, 0, none⟩ 0 [.slice none 0 0, .int .i64 0] → (r9new1_S2 c0 c1 c2 c3 c4 c5 c6 c7 c8 c9 b1 w12 ∧ (RowAt w12 ⟨b2, 0, none⟩ #[.slice none 0 0, .int .i64 0] ∧ (R (.returned (.tuple #[.pointer (some ⟨b5, 0, none⟩), .agg #[.slice none 0 0, .int .i64 0]])) w12)))))) := by kernel_rfl
theorem r9new1_e12 (c0 : Int) (c1 : Int) (c2 : Int) (c3 : Int) (c4 : Int) (c5 : Int) (c6 : Int) (c7 : Int) (c8 : Int) (c9 : Int) (b1 : Nat) (b2 : Nat) (R : Ending → World → Prop) (u0_ u4_ u5_ u7_ u8_ u9_ u10_ : Value) (w3 : World) : vcO Try.prog (bodyOf Try.f62) [1, 0] 2 (bodyPost Try.prog Try.f62 R) (vcFn Try.prog Try.f62 R) (.fork .call (.draw (r9new1_S2 c0 c1 c2 c3 c4 c5 c6 c7 c8 c9 b1) [0, 1, 4] (.cell (.agg #[.int .i64 c0, .int .i64 c1, .int .u64 c2, .int .u64 c3, .int .u64 c4, .int .u64 c5, .int .u64 c6, .int .u64 c7, .int .u64 c8, .int .u64 c9]) (.fork .call .call)))) ⟨#[u0_, .pointer (some ⟨b1, 0, none⟩), .pointer none, .pointer (some ⟨b2, 0, none⟩), u4_, u5_, .int .i64 (badAt c0 c1 c2 c3 c4 c5 c6 c7 c8 c9), u7_, u8_, u9_, u10_, .tuple #[], .tuple #[], .tuple #[], .tuple #[]], []⟩ w3
  = (vIf (decide ((badAt c0 c1 c2 c3 c4 c5 c6 c7 c8 c9) ≥ 0)) (Calls Try.prog 51 #[.string (⟨#[98, 97, 108, 108, 111, 116]⟩), .int .i64 (badAt c0 c1 c2 c3 c4 c5 c6 c7 c8 c9), .int .i64 180] w3 (fun e w2 => ∃ v, e = .returned v ∧ atO Try.prog (bodyOf Try.f62) [1, 1, 0, 1, 0, 0] 2 (bodyPost Try.prog Try.f62 R) ⟨#[u0_, .pointer (some ⟨b1, 0, none⟩), .pointer none, .pointer (some ⟨b2, 0, none⟩), .int .i64 (badAt c0 c1 c2 c3 c4 c5 c6 c7 c8 c9), u5_, .int .i64 (badAt c0 c1 c2 c3 c4 c5 c6 c7 c8 c9), .int .i64 (badAt c0 c1 c2 c3 c4 c5 c6 c7 c8 c9), .bool true, .int .i64 (badAt c0 c1 c2 c3 c4 c5 c6 c7 c8 c9), v, .tuple #[], .tuple #[], .tuple #[], .tuple #[]], []⟩ w2)) (∀ (w6 : World), w6 = w3.drew → (r9new1_S2 c0 c1 c2 c3 c4 c5 c6 c7 c8 c9 b1 w6 ∧ ((∀ w, r9new1_S2 c0 c1 c2 c3 c4 c5 c6 c7 c8 c9 b1 w → RowAt w ⟨b1, 0, none⟩ #[.int .i64 c0, .int .i64 c1, .int .u64 c2, .int .u64 c3, .int .u64 c4, .int .u64 c5, .int .u64 c6, .int .u64 c7, .int .u64 c8, .int .u64 c9]) ∧ ((∀ (b4 : Nat) (w7 : World), b4 = w6.heap.size → w7 = w6.alloc (.cells #[.int .i64 c0, .int .i64 c1, .int .u64 c2, .int .u64 c3, .int .u64 c4, .int .u64 c5, .int .u64 c6, .int .u64 c7, .int .u64 c8, .int .u64 c9] 189) → (r9new1_S2 c0 c1 c2 c3 c4 c5 c6 c7 c8 c9 b1 w7 ∧ (Calls Try.prog 56 #[] w7 (fun e w2 => ∃ v, e = .returned v ∧ atD Try.prog (bodyOf Try.f62) [1, 1, 1, 0] 2 #[true, true, true, true, false, false] (r9new1_S2 c0 c1 c2 c3 c4 c5 c6 c7 c8 c9 b1) (bodyPost Try.prog Try.f62 R) ⟨#[u0_, .pointer (some ⟨b1, 0, none⟩), .pointer none, .pointer (some ⟨b2, 0, none⟩), .int .i64 (badAt c0 c1 c2 c3 c4 c5 c6 c7 c8 c9), u5_, .int .i64 (badAt c0 c1 c2 c3 c4 c5 c6 c7 c8 c9), .int .i64 (badAt c0 c1 c2 c3 c4 c5 c6 c7 c8 c9), .bool false, u9_, u10_, .agg #[.int .i64 c0, .int .i64 c1, .int .u64 c2, .int .u64 c3, .int .u64 c4, .int .u64 c5, .int .u64 c6, .int .u64 c7, .int .u64 c8, .int .u64 c9], .agg #[.int .i64 c0, .int .i64 c1, .int .u64 c2, .int .u64 c3, .int .u64 c4, .int .u64 c5, .int .u64 c6, .int .u64 c7, .int .u64 c8, .int .u64 c9], .pointer (some ⟨b4, 0, none⟩), v], []⟩ w2)))) ∧ (Calls Try.prog 56 #[] w6 (fun e w2 => ∃ v, e = .returned v ∧ atD Try.prog (bodyOf Try.f62) [1, 1, 1, 0] 3 #[true, true, false, true, false, false] (r9new1_S2 c0 c1 c2 c3 c4 c5 c6 c7 c8 c9 b1) (bodyPost Try.prog Try.f62 R) ⟨#[u0_, .pointer (some ⟨b1, 0, none⟩), .pointer none, .pointer (some ⟨b2, 0, none⟩), .int .i64 (badAt c0 c1 c2 c3 c4 c5 c6 c7 c8 c9), u5_, .int .i64 (badAt c0 c1 c2 c3 c4 c5 c6 c7 c8 c9), .int .i64 (badAt c0 c1 c2 c3 c4 c5 c6 c7 c8 c9), .bool false, u9_, u10_, .agg #[.int .i64 c0, .int .i64 c1, .int .u64 c2, .int .u64 c3, .int .u64 c4, .int .u64 c5, .int .u64 c6, .int .u64 c7, .int .u64 c8, .int .u64 c9], .agg #[.int .i64 c0, .int .i64 c1, .int .u64 c2, .int .u64 c3, .int .u64 c4, .int .u64 c5, .int .u64 c6, .int .u64 c7, .int .u64 c8, .int .u64 c9], .tuple #[], v], []⟩ w2))))))) := by kernel_rfl
theorem r9new1_eq (c0 : Int) (c1 : Int) (c2 : Int) (c3 : Int) (c4 : Int) (c5 : Int) (c6 : Int) (c7 : Int) (c8 : Int) (c9 : Int) (R : Ending → World → Prop) (w : World) : vcC Try.prog (bodyOf Try.f62) [] (bodyPost Try.prog Try.f62 R) (vcFn Try.prog Try.f62 R) (.cell (.agg #[.int .i64 c0, .int .i64 c1, .int .u64 c2, .int .u64 c3, .int .u64 c4, .int .u64 c5, .int .u64 c6, .int .u64 c7, .int .u64 c8, .int .u64 c9]) .call) { tmps := (#[.agg #[.int .i64 c0, .int .i64 c1, .int .u64 c2, .int .u64 c3, .int .u64 c4, .int .u64 c5, .int .u64 c6, .int .u64 c7, .int .u64 c8, .int .u64 c9]] : Array Value) ++ Array.replicate (Try.f62.ntmps - (#[.agg #[.int .i64 c0, .int .i64 c1, .int .u64 c2, .int .u64 c3, .int .u64 c4, .int .u64 c5, .int .u64 c6, .int .u64 c7, .int .u64 c8, .int .u64 c9]] : Array Value).size) undef, defers := [] } w
  = (∀ (b1 : Nat) (w1 : World), b1 = w.heap.size → w1 = w.alloc (.cells #[.int .i64 c0, .int .i64 c1, .int .u64 c2, .int .u64 c3, .int .u64 c4, .int .u64 c5, .int .u64 c6, .int .u64 c7, .int .u64 c8, .int .u64 c9] 32) → (∀ (b2 : Nat) (w2 : World), b2 = w1.heap.size → w2 = w1.alloc (.cells #[.slice none 0 0, .int .i64 0] 41) → (RowAt w2 ⟨b1, 0, none⟩ #[.int .i64 c0, .int .i64 c1, .int .u64 c2, .int .u64 c3, .int .u64 c4, .int .u64 c5, .int .u64 c6, .int .u64 c7, .int .u64 c8, .int .u64 c9] ∧ (Calls Try.prog 86 #[.agg #[.int .i64 c0, .int .i64 c1, .int .u64 c2, .int .u64 c3, .int .u64 c4, .int .u64 c5, .int .u64 c6, .int .u64 c7, .int .u64 c8, .int .u64 c9]] w2 (fun e w2 => ∃ v, e = .returned v ∧ atO Try.prog (bodyOf Try.f62) [1, 0] 2 (bodyPost Try.prog Try.f62 R) ⟨#[.agg #[.int .i64 c0, .int .i64 c1, .int .u64 c2, .int .u64 c3, .int .u64 c4, .int .u64 c5, .int .u64 c6, .int .u64 c7, .int .u64 c8, .int .u64 c9], .pointer (some ⟨b1, 0, none⟩), .pointer none, .pointer (some ⟨b2, 0, none⟩), .tuple #[], .agg #[.int .i64 c0, .int .i64 c1, .int .u64 c2, .int .u64 c3, .int .u64 c4, .int .u64 c5, .int .u64 c6, .int .u64 c7, .int .u64 c8, .int .u64 c9], v, .tuple #[], .tuple #[], .tuple #[], .tuple #[], .tuple #[], .tuple #[], .tuple #[], .tuple #[]], []⟩ w2))))) := by kernel_rfl
set_option maxRecDepth 100000 in
set_option maxHeartbeats 4000000 in
theorem r9new1 {c0 : Int} {c1 : Int} {c2 : Int} {c3 : Int} {c4 : Int} {c5 : Int} {c6 : Int} {c7 : Int} {c8 : Int} {c9 : Int} {R : Ending → World → Prop} {w : World}
    (n1 : ∀ (b3 : Nat) (w' : World), (decide ((badAt c0 c1 c2 c3 c4 c5 c6 c7 c8 c9) ≥ 0)) = true → Fr [] w w' → w.heap.size ≤ b3 → Bk w' b3 #[.string (⟨#[98, 97, 108, 108, 111, 116]⟩), .int .i64 (badAt c0 c1 c2 c3 c4 c5 c6 c7 c8 c9)] 153 → R (.returned (.tuple #[.pointer none, .agg #[.slice (some ⟨b3, 0, none⟩) 1 1, .int .i64 180]])) w')
    (n2 : ∀ (b4 : Nat) (w' : World), (decide ((badAt c0 c1 c2 c3 c4 c5 c6 c7 c8 c9) ≥ 0)) = false → Fr [] w w' → w.heap.size ≤ b4 → Bk w' b4 #[.int .i64 c0, .int .i64 c1, .int .u64 c2, .int .u64 c3, .int .u64 c4, .int .u64 c5, .int .u64 c6, .int .u64 c7, .int .u64 c8, .int .u64 c9] 189 → R (.returned (.tuple #[.pointer (some ⟨b4, 0, none⟩), .agg #[.slice none 0 0, .int .i64 0]])) w')
    (n3 : ∀ (b5 : Nat) (w' : World), (decide ((badAt c0 c1 c2 c3 c4 c5 c6 c7 c8 c9) ≥ 0)) = false → Fr [] w w' → w.heap.size ≤ b5 → Bk w' b5 #[.int .i64 c0, .int .i64 c1, .int .u64 c2, .int .u64 c3, .int .u64 c4, .int .u64 c5, .int .u64 c6, .int .u64 c7, .int .u64 c8, .int .u64 c9] 189 → R (.returned (.tuple #[.pointer (some ⟨b5, 0, none⟩), .agg #[.slice none 0 0, .int .i64 0]])) w')
    : Calls Try.prog 62 #[.agg #[.int .i64 c0, .int .i64 c1, .int .u64 c2, .int .u64 c3, .int .u64 c4, .int .u64 c5, .int .u64 c6, .int .u64 c7, .int .u64 c8, .int .u64 c9]] w R :=
  have r0 := Fr.refl w
  calls_of Try.func62 rfl (r9new1_eq c0 c1 c2 c3 c4 c5 c6 c7 c8 c9 R w)
    (fun b1 w1 h1 h2 => have le_b1 := le_eq (Fr.size r0) h1.symm; have k_b1_w1 : Bk w1 b1 #[.int .i64 c0, .int .i64 c1, .int .u64 c2, .int .u64 c3, .int .u64 c4, .int .u64 c5, .int .u64 c6, .int .u64 c7, .int .u64 c8, .int .u64 c9] 32 := Bk.newAt h1 h2; have r_w1 := Fr.alloc r0 h2; (fun b2 w2 h3 h4 => have le_b2 := le_eq (Fr.size r_w1) h3.symm; have ne_b1_b2 := Nat.ne_of_lt (lt_eq (Bk.lt k_b1_w1) h3.symm); have k_b1_w2 := Bk.allocAt k_b1_w1 h4; have k_b2_w2 : Bk w2 b2 #[.slice none 0 0, .int .i64 0] 41 := Bk.newAt h3 h4; have r_w2 := Fr.alloc r_w1 h4; ⟨Bk.row k_b1_w2 0 (r9new1_r1 c0 c1 c2 c3 c4 c5 c6 c7 c8 c9), (r9field (c0 := c0) (c1 := c1) (c2 := c2) (c3 := c3) (c4 := c4) (c5 := c5) (c6 := c6) (c7 := c7) (c8 := c8) (c9 := c9)  (fun w3 h5 => have r_w3 := Fr.then r_w2 h5; have k_b1_w3 := Bk.fr k_b1_w2 h5 List.not_mem_nil; have k_b2_w3 := Bk.fr k_b2_w2 h5 List.not_mem_nil; ⟨_, rfl, (atO_of vcFn_sound (r9new1_e12 c0 c1 c2 c3 c4 c5 c6 c7 c8 c9 b1 b2 R _ _ _ _ _ _ _ w3) (vIf_intro (fun h6 => (refnew (s := (⟨#[98, 97, 108, 108, 111, 116]⟩)) (n := (badAt c0 c1 c2 c3 c4 c5 c6 c7 c8 c9)) (k := 180)  (fun b3 w4 h7 h8 h9 => have r_w4 := Fr.then r_w3 h7; have k_b1_w4 := Bk.fr k_b1_w3 h7 List.not_mem_nil; have k_b2_w4 := Bk.fr k_b2_w3 h7 List.not_mem_nil; have le_b3 := Nat.le_trans (Fr.size r_w3) h8; have ne_b1_b3 := Nat.ne_of_lt (Nat.lt_of_lt_of_le (Bk.lt k_b1_w3) h8); have ne_b2_b3 := Nat.ne_of_lt (Nat.lt_of_lt_of_le (Bk.lt k_b2_w3) h8); ⟨_, rfl, (atO_of vcFn_sound (r9new1_e2 b2 b3 R _ _ _ _ _ _ _ _ _ _ _ _ _ w4) ⟨Bk.hasRow k_b2_w4 0 _ rfl rfl, fun w5 h10 => have k_b1_w5 := Bk.otherRowAt k_b1_w4 h10 ne_b1_b2; have k_b3_w5 := Bk.otherRowAt h9 h10 (Ne.symm ne_b2_b3); have r_w5 := Fr.setRowNew r_w4 le_b2 h10; have k_b2_w5 : Bk w5 b2 #[.slice (some ⟨b3, 0, none⟩) 1 1, .int .i64 180] 41 := Bk.setRowAt k_b2_w4 0 h10 rfl; ⟨Bk.row k_b2_w5 0 rfl, (n1 b3 w5 h6 r_w5 le_b3 k_b3_w5)⟩⟩)⟩))) (fun h6 => (fun w6 h11 => have k_b1_w6 := Bk.drewAt k_b1_w3 h11; have k_b2_w6 := Bk.drewAt k_b2_w3 h11; have r_w6 := Fr.drewAt r_w3 h11; ⟨(Bk.row k_b1_w6 0 (r9new1_r3 c0 c1 c2 c3 c4 c5 c6 c7 c8 c9)), ⟨fun _ hS => hS, ⟨(fun b4 w7 h12 h13 => have le_b4 := le_eq (Fr.size r_w6) h12.symm; have ne_b1_b4 := Nat.ne_of_lt (lt_eq (Bk.lt k_b1_w6) h12.symm); have ne_b2_b4 := Nat.ne_of_lt (lt_eq (Bk.lt k_b2_w6) h12.symm); have k_b1_w7 := Bk.allocAt k_b1_w6 h13; have k_b2_w7 := Bk.allocAt k_b2_w6 h13; have k_b4_w7 : Bk w7 b4 #[.int .i64 c0, .int .i64 c1, .int .u64 c2, .int .u64 c3, .int .u64 c4, .int .u64 c5, .int .u64 c6, .int .u64 c7, .int .u64 c8, .int .u64 c9] 189 := Bk.newAt h12 h13; have r_w7 := Fr.alloc r_w6 h13; ⟨(Bk.row k_b1_w7 0 (r9new1_r4 c0 c1 c2 c3 c4 c5 c6 c7 c8 c9)), (refnone   (fun w8 h14 => have r_w8 := Fr.then r_w7 h14; have k_b1_w8 := Bk.fr k_b1_w7 h14 List.not_mem_nil; have k_b2_w8 := Bk.fr k_b2_w7 h14 List.not_mem_nil; have k_b4_w8 := Bk.fr k_b4_w7 h14 List.not_mem_nil; ⟨_, rfl, (atD_of vcFn_sound (Bk.row k_b1_w8 0 (r9new1_r5 c0 c1 c2 c3 c4 c5 c6 c7 c8 c9)) (r9new1_e7 c0 c1 c2 c3 c4 c5 c6 c7 c8 c9 b1 b2 b4 R _ _ _ _ _ _ _ _ _ _ _ w8) ⟨Bk.hasRow k_b2_w8 0 _ rfl rfl, fun w9 h15 => have k_b1_w9 := Bk.otherRowAt k_b1_w8 h15 ne_b1_b2; have k_b4_w9 := Bk.otherRowAt k_b4_w8 h15 (Ne.symm ne_b2_b4); have r_w9 := Fr.setRowNew r_w8 le_b2 h15; have k_b2_w9 : Bk w9 b2 #[.slice none 0 0, .int .i64 0] 41 := Bk.setRowAt k_b2_w8 0 h15 rfl; ⟨(Bk.row k_b1_w9 0 (r9new1_r6 c0 c1 c2 c3 c4 c5 c6 c7 c8 c9)), ⟨Bk.row k_b2_w9 0 rfl, (n2 b4 w9 h6 r_w9 le_b4 k_b4_w9)⟩⟩⟩)⟩))⟩), (refnone   (fun w10 h16 => have r_w10 := Fr.then r_w6 h16; have k_b1_w10 := Bk.fr k_b1_w6 h16 List.not_mem_nil; have k_b2_w10 := Bk.fr k_b2_w6 h16 List.not_mem_nil; ⟨_, rfl, (atD_of vcFn_sound (Bk.row k_b1_w10 0 (r9new1_r8 c0 c1 c2 c3 c4 c5 c6 c7 c8 c9)) (r9new1_e11 c0 c1 c2 c3 c4 c5 c6 c7 c8 c9 b1 b2 R _ _ _ _ _ _ _ _ _ _ w10) (fun b5 w11 h17 h18 => have le_b5 := le_eq (Fr.size r_w10) h17.symm; have ne_b1_b5 := Nat.ne_of_lt (lt_eq (Bk.lt k_b1_w10) h17.symm); have ne_b2_b5 := Nat.ne_of_lt (lt_eq (Bk.lt k_b2_w10) h17.symm); have k_b1_w11 := Bk.allocAt k_b1_w10 h18; have k_b2_w11 := Bk.allocAt k_b2_w10 h18; have k_b5_w11 : Bk w11 b5 #[.int .i64 c0, .int .i64 c1, .int .u64 c2, .int .u64 c3, .int .u64 c4, .int .u64 c5, .int .u64 c6, .int .u64 c7, .int .u64 c8, .int .u64 c9] 189 := Bk.newAt h17 h18; have r_w11 := Fr.alloc r_w10 h18; ⟨(Bk.row k_b1_w11 0 (r9new1_r9 c0 c1 c2 c3 c4 c5 c6 c7 c8 c9)), ⟨Bk.hasRow k_b2_w11 0 _ rfl rfl, fun w12 h19 => have k_b1_w12 := Bk.otherRowAt k_b1_w11 h19 ne_b1_b2; have k_b5_w12 := Bk.otherRowAt k_b5_w11 h19 (Ne.symm ne_b2_b5); have r_w12 := Fr.setRowNew r_w11 le_b2 h19; have k_b2_w12 : Bk w12 b2 #[.slice none 0 0, .int .i64 0] 41 := Bk.setRowAt k_b2_w11 0 h19 rfl; ⟨(Bk.row k_b1_w12 0 (r9new1_r10 c0 c1 c2 c3 c4 c5 c6 c7 c8 c9)), ⟨Bk.row k_b2_w12 0 rfl, (n3 b5 w12 h6 r_w12 le_b5 k_b5_w12)⟩⟩⟩⟩))⟩))⟩⟩⟩))))⟩))⟩))

end Go.Proofs.Ytlfaalbkhfjpkaa
