/- Proved: XferBegins returns true for every configuration and every number of a replica; what came in reads as before. Condition: none. -/
import Derived.Test.YtlfaalbkhfjpkaaRows
import Derived.Test.YtlfaalbkhfjpkaaXBf
import Derived.WalkKit
import Derived.ProofKit
import Derived.OpenShut
import Derived.ShutString
import Derived.ChangeOld
import Derived.Below
import Derived.SizedLaws
set_option linter.unusedVariables false
set_option linter.unusedSimpArgs false
namespace Go.Proofs.Ytlfaalbkhfjpkaa.xferBegins
open Go.ChangeShapes Go.WideShapes Go.ChangeAt Go.RowKit
theorem own : ownKnob Try.prog.godebug = none := by kernel_rfl
theorem laid : laidOutB Try.prog = true := by kernel_rfl
theorem cells3 : Try.prog.cellsOf 3 = 1 := by kernel_rfl
theorem cells30 : Try.prog.cellsOf 30 = 1 := by kernel_rfl
theorem cells32 : Try.prog.cellsOf 32 = 10 := by kernel_rfl
theorem cons_of {α : Type} {l : List α} {n : Nat} (h : l.length = n + 1) : ∃ a r, l = a :: r ∧ r.length = n := by
  cases l with
  | nil => simp at h
  | cons a r => exact ⟨a, r, rfl, by simpa using h⟩
theorem list10 {α : Type} {l : List α} (h : l.length = 10) : ∃ a0 a1 a2 a3 a4 a5 a6 a7 a8 a9, l = [a0, a1, a2, a3, a4, a5, a6, a7, a8, a9] := by
  obtain ⟨a0, l0, rfl, h0⟩ := cons_of h
  obtain ⟨a1, l1, rfl, h1⟩ := cons_of h0
  obtain ⟨a2, l2, rfl, h2⟩ := cons_of h1
  obtain ⟨a3, l3, rfl, h3⟩ := cons_of h2
  obtain ⟨a4, l4, rfl, h4⟩ := cons_of h3
  obtain ⟨a5, l5, rfl, h5⟩ := cons_of h4
  obtain ⟨a6, l6, rfl, h6⟩ := cons_of h5
  obtain ⟨a7, l7, rfl, h7⟩ := cons_of h6
  obtain ⟨a8, l8, rfl, h8⟩ := cons_of h7
  obtain ⟨a9, l9, rfl, h9⟩ := cons_of h8
  obtain rfl := List.eq_nil_of_length_eq_zero h9
  exact ⟨_, _, _, _, _, _, _, _, _, _, rfl⟩
set_option maxRecDepth 100000 in
theorem open_cfg {H : Type} {enc : TypeId × Value → H} {w : World} {base b0 : Nat} {spare : Nat → Bool} {held : Bool} {r : Reach} {v : Value} {d : DataW H} {p : List MemPlace}
    (hv : Value.okWide Try.prog w r b0 32 v) (h : DataW.Trod enc Try.prog w base spare held 32 v d p) :
    ∃ c0 c1 c2 c3 c4 c5 c6 c7 c8 c9 : Int, v = .agg #[.int .i64 c0, .int .i64 c1, .int .u64 c2, .int .u64 c3, .int .u64 c4, .int .u64 c5, .int .u64 c6, .int .u64 c7, .int .u64 c8, .int .u64 c9] ∧ InR c0 c1 c2 c3 c4 c5 c6 c7 c8 c9 := by
  obtain ⟨cs, rfl, hsz⟩ := okWide_struct Try.underlying32 hv
  obtain ⟨fuel, hf⟩ := h
  obtain ⟨xs, m, _, _, _, hlen, hall⟩ := DataW.trod_struct Try.underlying32 hf
  obtain ⟨l⟩ := cs
  obtain ⟨a0, a1, a2, a3, a4, a5, a6, a7, a8, a9, rfl⟩ := list10 (l := l) (by simpa [cells32] using hsz)
  obtain ⟨y0, y1, y2, y3, y4, y5, y6, y7, y8, y9, rfl⟩ := list10 (l := xs) (by simpa using hlen)
  have f0 := hall 0 _ rfl
  have f1 := hall 1 _ rfl
  have f2 := hall 2 _ rfl
  have f3 := hall 3 _ rfl
  have f4 := hall 4 _ rfl
  have f5 := hall 5 _ rfl
  have f6 := hall 6 _ rfl
  have f7 := hall 7 _ rfl
  have f8 := hall 8 _ rfl
  have f9 := hall 9 _ rfl
  clear hall hf hlen
  simp [Value.cells, cells3, cells30] at f0 f1 f2 f3 f4 f5 f6 f7 f8 f9
  obtain ⟨c0, e0, _, w0⟩ := DataW.trod_int Try.underlying3 f0
  obtain ⟨c1, e1, _, w1⟩ := DataW.trod_int Try.underlying3 f1
  obtain ⟨c2, e2, _, w2⟩ := DataW.trod_int Try.underlying30 f2
  obtain ⟨c3, e3, _, w3⟩ := DataW.trod_int Try.underlying30 f3
  obtain ⟨c4, e4, _, w4⟩ := DataW.trod_int Try.underlying30 f4
  obtain ⟨c5, e5, _, w5⟩ := DataW.trod_int Try.underlying30 f5
  obtain ⟨c6, e6, _, w6⟩ := DataW.trod_int Try.underlying30 f6
  obtain ⟨c7, e7, _, w7⟩ := DataW.trod_int Try.underlying30 f7
  obtain ⟨c8, e8, _, w8⟩ := DataW.trod_int Try.underlying30 f8
  obtain ⟨c9, e9, _, w9⟩ := DataW.trod_int Try.underlying30 f9
  simp only [List.cons.injEq, and_true] at e0 e1 e2 e3 e4 e5 e6 e7 e8 e9
  subst e0 e1 e2 e3 e4 e5 e6 e7 e8 e9
  simp only [Lit.wf, IntKind.min, IntKind.max, IntKind.signed, IntKind.bits, decide_eq_true_eq, Bool.and_eq_true] at w0 w1 w2 w3 w4 w5 w6 w7 w8 w9
  refine ⟨c0, c1, c2, c3, c4, c5, c6, c7, c8, c9, rfl, ?_⟩
  unfold InR
  simp at w0 w1 w2 w3 w4 w5 w6 w7 w8 w9
  omega
theorem walk {c0 c1 c2 c3 c4 c5 c6 c7 c8 c9 n : Int} (hr : InR c0 c1 c2 c3 c4 c5 c6 c7 c8 c9) (W : World) :
    Calls Try.prog 9 #[.agg #[.int .i64 c0, .int .i64 c1, .int .u64 c2, .int .u64 c3, .int .u64 c4, .int .u64 c5, .int .u64 c6, .int .u64 c7, .int .u64 c8, .int .u64 c9], .int .i64 n] W
      (fun e W' => e = .returned (.bool true) ∧ Below W.heap.size W W') := by
  apply xferbegins hr
  all_goals
    intros
    exact ⟨rfl, Fr.below (by assumption)⟩
set_option maxRecDepth 100000 in
theorem lifted (os : Os) (started : os.Started) (H : Type) (enc : TypeId × Value → H) :
    ReturnsInHanded {} Try.checked os 9 .any (Rows.xferBeginsSpec.pre6 enc Try.prog Try.f9 Rows.xferBeginsRow.domain false) (Rows.xferBeginsSpec.post enc Try.prog Try.f9 false true false false) := by
  refine returnsInHanded_of_change_sized (C := Try.checked) own started (by kernel_rfl) Try.func9
    (ChangeSpec.witness6 (enc := enc) (C := Try.checked) false ⟨#[], #[.agg #[.int .i64 0, .int .i64 0, .int .u64 0, .int .u64 0, .int .u64 0, .int .u64 0, .int .u64 0, .int .u64 0, .int .u64 0, .int .u64 0], .int .i64 0], []⟩ 8 (by kernel_rfl) (by kernel_rfl) (by kernel_rfl) (by kernel_rfl)) ?_
  intro W base args ds gs before hval0 hW hcnd hsz0 _
  have hval : ∀ (j : Nat) t v, Try.f9.params[j]? = some t → args[j]? = some v → Value.okWide Try.prog W .any base t v := hval0
  have hW' := hW
  obtain ⟨p, q, hA0, hV, rfl, hfz, hnd⟩ := hW
  have hA : DataW.TrodAll enc Try.prog W 0 (fun _ => true) true Try.f9.params.toList args.toList ds p := hA0
  rw [Try.params9] at hA hval
  obtain ⟨v0, v1, d0, d1, p0, p1, rfl, rfl, rfl, h0, h1⟩ := trodAll_two hA
  obtain ⟨rfl, rfl⟩ := trodVars_none hV
  obtain ⟨c0, c1, c2, c3, c4, c5, c6, c7, c8, c9, rfl, hr⟩ := open_cfg (hval 0 32 v0 rfl rfl) h0
  obtain ⟨n, rfl⟩ := okWide_int Try.underlying3 (hval 1 3 v1 rfl rfl)
  clear hA0 hval0 hsz0
  simp only [List.append_nil] at hW'
  have hlt : ∀ x ∈ p0 ++ p1, x.block < W.heap.size := fun x hx => by simpa using hW'.lt x hx
  refine (walk (n := n) hr W).mono fun e W' ⟨he, bel⟩ => ?_
  subst he
  exact ⟨_, rfl, _, _, _, [], p0 ++ p1, [], hW', trodAll_mk1 (shut_bool Try.underlying4 _),
    trodAll_cons_mk (Below.trod laid (by kernel_rfl) (of_decide_eq_true (by kernel_rfl)) h0 bel (fun x hx => hlt x (List.mem_append_left _ hx)))
      (trodAll_mk1 (Below.trod laid (by kernel_rfl) (of_decide_eq_true (by kernel_rfl)) h1 bel (fun x hx => hlt x (List.mem_append_right _ hx)))), rfl, bel.frame _, fun h => by cases h⟩
theorem over : Rows.xferBeginsRow.holds Try.pinned (OpenSpec.ofChange Rows.xferBeginsSpec) :=
  OpenClaim.holds_of_wide 9 Try.f9 rfl rfl rfl rfl rfl rfl rfl ⟨rfl, rfl, rfl, rfl, rfl⟩ rfl rfl rfl rfl rfl (by kernel_rfl) Try.func9 (by kernel_rfl)
    (of_decide_eq_true (by kernel_rfl)) (by unfold Func.isWrapper; first | (rw [if_pos (by decide +kernel)]; kernel_rfl) | (rw [if_neg (by decide +kernel)]; exact ⟨rfl, rfl⟩))
    (fun os started H enc _ => lifted os started H enc)
theorem proved : Rows.XferBeginsSaid := over
#print axioms proved
end Go.Proofs.Ytlfaalbkhfjpkaa.xferBegins
namespace Go.Proofs.Ytlfaalbkhfjpkaa
/-- The row, under a short name, for the claim. -/
theorem xferBegins_holds : Rows.XferBeginsSaid := xferBegins.proved
end Go.Proofs.Ytlfaalbkhfjpkaa
