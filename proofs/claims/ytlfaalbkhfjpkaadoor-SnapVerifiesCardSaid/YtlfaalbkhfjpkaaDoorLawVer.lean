/- Proved: SnapVerifies returns true for every root, size, number, chunk and path, and what came in reads as before; the tied card. Condition: none beyond the card's own (snap.first reads as the program's text lays it, which the tie pays). -/
import Derived.Test.YtlfaalbkhfjpkaaDoorCards
import Derived.Test.YtlfaalbkhfjpkaaDoorTie
import Derived.Test.YtlfaalbkhfjpkaaDoorTrl
import Derived.Test.YtlfaalbkhfjpkaaDoorVeE
import Derived.Test.YtlfaalbkhfjpkaaDoorOpa
import Derived.WalkKit
import Derived.ProofKit
import Derived.OpenShut
import Derived.ChangeOld
import Derived.Stop.Joined
import Derived.SizedLaws
import Derived.SevenTiedAt
set_option linter.unusedVariables false
set_option linter.unusedSimpArgs false
namespace Go.Proofs.YtlfaalbkhfjpkaaDoor.snapVerifies
open Go.ChangeShapes Go.WideShapes Go.ChangeAt Go.RowKit
theorem own : ownKnob Tryd.prog.godebug = none := by kernel_rfl
theorem laidOk : laidOutB Tryd.prog = true := by kernel_rfl
theorem gFirst : Tryd.prog.globalNamed "quorum/snap.first" = some 0 := by kernel_rfl
theorem tFirst : (Tryd.prog.globals[0]?).map (·.type) = some 34 := by kernel_rfl
theorem u34 : Tryd.prog.underlying 34 = some (.array 8 33) := by kernel_rfl
theorem u33 : Tryd.prog.underlying 33 = some (.int .u32) := by kernel_rfl
theorem c33 : Tryd.prog.cellsOf 33 = 1 := by kernel_rfl
theorem c34 : Tryd.prog.cellsOf 34 = 8 := by kernel_rfl
theorem u22 : Tryd.prog.underlying 22 = some (.slice 23) := by kernel_rfl
theorem u23 : Tryd.prog.underlying 23 = some (.slice 5) := by kernel_rfl
theorem u5 : Tryd.prog.underlying 5 = some (.int .u8) := by kernel_rfl
theorem c23 : Tryd.prog.cellsOf 23 = 1 := by kernel_rfl
theorem c5 : Tryd.prog.cellsOf 5 = 1 := by kernel_rfl
theorem u3 : Tryd.prog.underlying 3 = some (.int .i64) := by kernel_rfl
theorem u30 : Tryd.prog.underlying 30 = some (.array 32 5) := by kernel_rfl
theorem c30 : Tryd.prog.cellsOf 30 = 32 := by kernel_rfl
theorem u50 : Tryd.prog.underlying 50 = some (.slice 30) := by kernel_rfl
theorem b5 : Tryd.prog.bytesOf 5 = 1 := by kernel_rfl
abbrev laidS : List (String × DataW Unit) := [("quorum/snap.first", Rows.laid_quorum_snap_first)]
theorem door_met (os : Os) (args : Array Value) : laidMetH Tryd.prog laidS ((World.doorLaid Tryd.prog 400 os).forCall (fun _ _ => 0) ⟨#[], args, []⟩).memory :=
  laidMetH_of_parts3 (fuel := 8) (laidMet_of_run' 8 (by kernel_rfl) (by kernel_rfl)) (by kernel_rfl) (by kernel_rfl)
theorem of_laid {W : World} (h : laidMetH Tryd.prog laidS W) : RowAt W ⟨0, 0, none⟩ #[.int .u32 1779033703, .int .u32 3144134277, .int .u32 1013904242, .int .u32 2773480762, .int .u32 1359893119, .int .u32 2600822924, .int .u32 528734635, .int .u32 1541459225] ∧ 0 < W.heap.size := by
  have := laid_ints (ns := litH) h gFirst tFirst u34 u33 c33 c34
  refine ⟨this, ?_⟩
  exact cell_lt (this 0 _ rfl)
set_option maxRecDepth 100000 in
theorem lifted (os : Os) (started : os.Started) (H : Type) (enc : TypeId × Value → H) :
    ReturnsInHanded {} Tryd.checked os 5 .any (fun w args => (Rows.snapVerifiesSpec.pre enc Tryd.prog Tryd.f5 [] false w args ∧ laidMetH Tryd.prog laidS w) ∧ sizedMet enc Tryd.prog Tryd.f5 (OpenSpec.ofChange Rows.snapVerifiesSpec) false w args)
      (Rows.snapVerifiesSpec.post enc Tryd.prog Tryd.f5 false true false false) := by
  refine returnsInHanded_of_change_and (C := Tryd.checked) (X := fun w _ => laidMetH Tryd.prog laidS w) (fun _ _ _ hh h => h.of_heap hh) own started (by kernel_rfl) Tryd.func5
    (ChangeSpec.witness_shaped (enc := enc) (C := Tryd.checked) (os := os) (X := fun w _ => laidMetH Tryd.prog laidS w) false (World.doorLaid Tryd.prog 400 os) #[.agg #[.int .u8 0, .int .u8 0, .int .u8 0, .int .u8 0, .int .u8 0, .int .u8 0, .int .u8 0, .int .u8 0, .int .u8 0, .int .u8 0, .int .u8 0, .int .u8 0, .int .u8 0, .int .u8 0, .int .u8 0, .int .u8 0, .int .u8 0, .int .u8 0, .int .u8 0, .int .u8 0, .int .u8 0, .int .u8 0, .int .u8 0, .int .u8 0, .int .u8 0, .int .u8 0, .int .u8 0, .int .u8 0, .int .u8 0, .int .u8 0, .int .u8 0, .int .u8 0], .int .i64 0, .int .i64 0, .slice none 0 0, .slice none 0 0] 8 rfl (World.shaped_of_RefB (by kernel_rfl) (by kernel_rfl)) (by kernel_rfl) (by kernel_rfl) (by kernel_rfl) (door_met os _)) ?_
  intro W base args ds gs before hval0 hW _ hsz0 hL _
  have hW' := hW
  obtain ⟨p, q, hA0, hV, rfl, hfz, hnd⟩ := hW
  have hA : DataW.TrodAll enc Tryd.prog W 0 (fun _ => true) true Tryd.f5.params.toList args.toList ds p := hA0
  rw [Tryd.params5] at hA
  obtain ⟨v0, v1, v2, v3, v4, d0, d1, d2, d3, d4, p0, p1, p2, p3, p4, rfl, rfl, rfl, h0, h1, h2, h3, h4⟩ := trodAll_five hA
  obtain ⟨rfl, rfl⟩ := trodVars_none hV
  have hlig : (DataW.weightsEach Tryd.prog [30, 3, 3, 23, 50] [d0, d1, d2, d3, d4]).all (· ≤ reachBytes) = true := hsz0
  have hval : ∀ (j : Nat) t v, Tryd.f5.params[j]? = some t → #[v0, v1, v2, v3, v4][j]? = some v → Value.okWide Tryd.prog W .any base t v := hval0
  rw [Tryd.params5] at hval
  obtain ⟨cs0, rfl⟩ : ∃ cs, v0 = .agg cs := by
    have := hval 0 30 v0 rfl rfl
    simp only [Value.okWide, u30] at this
    obtain ⟨cs, h, _⟩ := this
    exact ⟨cs, h⟩
  obtain ⟨n1, rfl⟩ := okWide_int u3 (hval 1 3 v1 rfl rfl)
  obtain ⟨n2, rfl⟩ := okWide_int u3 (hval 2 3 v2 rfl rfl)
  obtain ⟨A3, l3, c3, rfl⟩ := okWide_slice u23 (hval 3 23 v3 rfl rfl)
  obtain ⟨A4, l4, c4, rfl⟩ := okWide_slice u50 (hval 4 50 v4 rfl rfl)
  obtain ⟨f0, h0'⟩ := h0
  have h0 : DataW.Trod enc Tryd.prog W 0 (fun _ => true) true 30 (.agg cs0) d0 p0 := ⟨f0, h0'⟩
  obtain ⟨root, hr0, e0⟩ := open_arr u30 u5 c5 c30 h0'
  have e0' : cs0 = aI .u8 root 32 := by
    apply Array.toList_inj.1
    rw [arr_lI hr0] at e0
    simpa [Value.cells] using e0
  subst e0'
  obtain ⟨f3_, h3'⟩ := h3
  have h3 : DataW.Trod enc Tryd.prog W 0 (fun _ => true) true 23 (.slice A3 l3 c3) d3 p3 := ⟨f3_, h3'⟩
  obtain ⟨B, ys, cb, e1, hs, _, _⟩ := open_ints u23 u5 c5 h3' (light_each hlig 3 23 d3 rfl rfl)
  obtain ⟨f4_, h4'⟩ := h4
  have h4 : DataW.Trod enc Tryd.prog W 0 (fun _ => true) true 50 (.slice A4 l4 c4) d4 p4 := ⟨f4_, h4'⟩
  obtain ⟨C, xs, cc, e2, hq, _, hlen⟩ := open_arrs u50 u30 u5 c5 c30 (by decide) h4' (light_each hlig 4 50 d4 rfl rfl)
  simp only [Value.cells, List.cons.injEq, and_true, Value.slice.injEq] at e1 e2
  obtain ⟨rfl, rfl, rfl⟩ := e1
  obtain ⟨rfl, rfl, rfl⟩ := e2
  clear hA0 hval0 hval e0
  simp only [List.append_nil] at hW'
  have hlt : ∀ x ∈ p0 ++ (p1 ++ (p2 ++ (p3 ++ p4))), x.block < W.heap.size := fun x hx => by simpa using hW'.lt x hx
  have hT := verifies_true root n1 n2 ys xs hlen
  obtain ⟨hfirst, hsz⟩ := of_laid hL
  refine FQuorumlaw6_SnapVerifies_c (Fr := [old W]) (fun w hw => hfirst.below (hw.old 0 rfl) hsz) (fun w hw => hs.below (hw.old 0 rfl) Nat.one_pos) (fun w hw => hq.below (hw.old 0 rfl) (by decide)) hT (old_start W) (fun z hz _ W' hW'' => ?_)
  subst hz
  have bel : Below W.heap.size W W' := hW''.old 0 rfl
  exact ⟨_, rfl, _, _, _, [], p0 ++ (p1 ++ (p2 ++ (p3 ++ p4))), [], hW', trodAll_mk1 (shut_bool (show Tryd.prog.underlying 4 = some .bool by kernel_rfl) _),
    trodAll_cons_mk (Below.trod laidOk (by kernel_rfl) (of_decide_eq_true (by kernel_rfl)) h0 bel (fun x hx => hlt x (List.mem_append_left _ hx)))
      (trodAll_cons_mk (Below.trod laidOk (by kernel_rfl) (of_decide_eq_true (by kernel_rfl)) h1 bel (fun x hx => hlt x (List.mem_append_right _ (List.mem_append_left _ hx))))
        (trodAll_cons_mk (Below.trod laidOk (by kernel_rfl) (of_decide_eq_true (by kernel_rfl)) h2 bel (fun x hx => hlt x (List.mem_append_right _ (List.mem_append_right _ (List.mem_append_left _ hx)))))
          (trodAll_cons_mk (Below.trod laidOk (by kernel_rfl) (of_decide_eq_true (by kernel_rfl)) h3 bel (fun x hx => hlt x (List.mem_append_right _ (List.mem_append_right _ (List.mem_append_right _ (List.mem_append_left _ hx))))))
            (trodAll_mk1 (Below.trod laidOk (by kernel_rfl) (of_decide_eq_true (by kernel_rfl)) h4 bel (fun x hx => hlt x (List.mem_append_right _ (List.mem_append_right _ (List.mem_append_right _ (List.mem_append_right _ hx)))))))))), rfl, bel.frame _, fun h => by cases h⟩
theorem over : Rows.snapVerifiesRow.holds Tryd.pinned (OpenSpec.ofChange Rows.snapVerifiesSpec) :=
  OpenClaim.holds_of_wide 5 Tryd.f5 rfl rfl rfl rfl rfl rfl rfl ⟨rfl, rfl, rfl, rfl, rfl⟩ rfl rfl rfl rfl rfl (by kernel_rfl) Tryd.func5 (by kernel_rfl)
    (of_decide_eq_true (by kernel_rfl)) (by unfold Func.isWrapper; first | (rw [if_pos (by decide +kernel)]; kernel_rfl) | (rw [if_neg (by decide +kernel)]; exact ⟨rfl, rfl⟩))
    (fun os started H enc _ => lifted os started H enc)
end Go.Proofs.YtlfaalbkhfjpkaaDoor.snapVerifies
namespace Go.Proofs.YtlfaalbkhfjpkaaDoor
/-- The row with its variable tied to the program's text, for the claim. -/
theorem snapVerifies_card : Rows.SnapVerifiesCardSaid :=
  Claim7.holds_tied_plain_at .later [] [.data] true (true, "bc4e41581956ec5bfa88e2f0ab76031a70b85a889056cdc5102c378998143f8a") true
    snapVerifies.over (fun _ h => by cases h) (by kernel_rfl) (fun _ h => by cases h) snapVerifies_row_tie rfl ⟨rfl, rfl⟩ (by kernel_rfl) rfl
    (fun f fn hf hfn => by
      obtain rfl : f = 5 := Option.some.inj ((show Tryd.prog.funcNamed "quorum/quorumlaw6.SnapVerifies" = some 5 by kernel_rfl).symm.trans hf) |>.symm
      obtain rfl : fn = Tryd.f5 := (Option.some.inj (Tryd.func5.symm.trans hfn)).symm
      exact ⟨by kernel_rfl, fun j t ht => by
        rw [Tryd.params5] at ht
        have hm : t ∈ [30, 3, 3, 23, 50] := by simpa using Array.mem_of_getElem? ht
        have hall : ([30, 3, 3, 23, 50].all fun u => !Tryd.prog.wantsStandIn u) = true := by kernel_rfl
        exact (show Tryd.prog.wantsStandIn t = false by simpa using List.all_eq_true.1 hall t hm)⟩)
    (by kernel_rfl)
#print axioms snapVerifies_card
end Go.Proofs.YtlfaalbkhfjpkaaDoor
