/- Proved: the block step of the program and that of the document's own answer are one function. Conditions: none. -/
import Derived.Test.YtlfaalbkhfjpkaaDoorCon
import Derived.Test.YtlfaalbkhfjpkaaDoorPln
set_option linter.unusedVariables false
set_option maxRecDepth 100000
namespace Go.Proofs.YtlfaalbkhfjpkaaDoor
open Go.RowKit

theorem chk_bind {α β : Type} (c : Bool) (T : Option α) (f : α → Option β) : (chk c T).bind f = chk c (T.bind f) := by cases c <;> rfl
theorem rot_turn (x n m : Int) (h1 : bAnd .u64 (IntKind.u64.wrap (IntKind.i64.wrap (0 - n))) 31 = m) (h2 : IntKind.u64.wrap (32 - m) = n) (h3 : IntKind.u64.wrap (32 - n) = m) (hn : 0 ≤ n) (hm : 0 ≤ m) : FQuorumref6_rot x n = FSnap_turn x n := by
  unfold FQuorumref6_rot FSnap_turn FBits_RotateLeft32
  rw [h1, h2, h3, chk_t (by simpa using hn), chk_t (by simpa using hm), chk_t (by simpa using hm), chk_t (by simpa using hn), bOr_comm]
  rfl
theorem rot2 (x : Int) : FQuorumref6_rot x 2 = FSnap_turn x 2 := rot_turn x 2 30 (by decide) (by decide) (by decide) (by decide) (by decide)
theorem rot6 (x : Int) : FQuorumref6_rot x 6 = FSnap_turn x 6 := rot_turn x 6 26 (by decide) (by decide) (by decide) (by decide) (by decide)
theorem rot7 (x : Int) : FQuorumref6_rot x 7 = FSnap_turn x 7 := rot_turn x 7 25 (by decide) (by decide) (by decide) (by decide) (by decide)
theorem rot11 (x : Int) : FQuorumref6_rot x 11 = FSnap_turn x 11 := rot_turn x 11 21 (by decide) (by decide) (by decide) (by decide) (by decide)
theorem rot13 (x : Int) : FQuorumref6_rot x 13 = FSnap_turn x 13 := rot_turn x 13 19 (by decide) (by decide) (by decide) (by decide) (by decide)
theorem rot17 (x : Int) : FQuorumref6_rot x 17 = FSnap_turn x 17 := rot_turn x 17 15 (by decide) (by decide) (by decide) (by decide) (by decide)
theorem rot18 (x : Int) : FQuorumref6_rot x 18 = FSnap_turn x 18 := rot_turn x 18 14 (by decide) (by decide) (by decide) (by decide) (by decide)
theorem rot19 (x : Int) : FQuorumref6_rot x 19 = FSnap_turn x 19 := rot_turn x 19 13 (by decide) (by decide) (by decide) (by decide) (by decide)
theorem rot22 (x : Int) : FQuorumref6_rot x 22 = FSnap_turn x 22 := rot_turn x 22 10 (by decide) (by decide) (by decide) (by decide) (by decide)
theorem rot25 (x : Int) : FQuorumref6_rot x 25 = FSnap_turn x 25 := rot_turn x 25 7 (by decide) (by decide) (by decide) (by decide) (by decide)
theorem blk_L1 (b : List Int) : FQuorumref6_Words_block_L19 b = FSnap_Hasher_block_L9 b := by
  funext x
  unfold FQuorumref6_Words_block_L19 FSnap_Hasher_block_L9 FQuorumref6_word
  simp only [chk_bind, Option.bind_some, bind1]
theorem blk_L2 : FQuorumref6_Words_block_L34 = FSnap_Hasher_block_L24 := by
  funext x
  unfold FQuorumref6_Words_block_L34 FSnap_Hasher_block_L24
  simp only [rot7, rot18, rot17, rot19]
theorem blk_L3 (y : List Int) : FQuorumref6_Words_block_L57 (litH ++ litK) y = FSnap_Hasher_block_L47 y litK := by
  funext x
  unfold FQuorumref6_Words_block_L57 FSnap_Hasher_block_L47
  simp only [rot6, rot11, rot25, rot2, rot13, rot22, bind1, show (litH ++ litK).drop 8 = litK from rfl]
theorem blk_eq (m : Bool) (n : Int) (h b : List Int) : FQuorumref6_Words_block (litH ++ litK) h b = FSnap_Hasher_block m h n b := by
  unfold FQuorumref6_Words_block FSnap_Hasher_block
  rw [blk_L1, blk_L2, show FSnap_rounds = some litK from rfl]
  simp only [Option.bind_some, bind1, show fixl litK 64 0 = litK from rfl, blk_L3]
end Go.Proofs.YtlfaalbkhfjpkaaDoor
