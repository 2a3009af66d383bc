/- The plain functions that a program of the prover's own has printed for functions of the program: nothing is proved here. -/
import Derived.Test.YtlfaalbkhfjpkaaDoorLift
set_option linter.unusedVariables false
set_option linter.unusedSimpArgs false
set_option maxRecDepth 100000
namespace Go.Proofs.YtlfaalbkhfjpkaaDoor
open Go.RowKit
-- quorum/quorumref6.prime
noncomputable def FQuorumref6_prime_L3 (p : Int) (x3 : Int) : Option (Int ⊕ (Unit ⊕ Bool)) :=
  (bif decide (x3 < p) then chk (x3 != 0) ((bif ((Int.tmod p x3) == 0) then some (.inr (.inr false)) else some (.inl (IntKind.u64.wrap (x3 + 1))))) else some (.inr (.inl ())))
noncomputable def FQuorumref6_prime (p : Int) : Option Bool :=
  (loop (FQuorumref6_prime_L3 p) 2).bind (Sum.elim (fun z8 => some true) (fun r17 => some r17))

-- quorum/quorumref3.Product
noncomputable def FQuorumref3_Product (a : Int) (p_b : Int) : Option (Int × Int) :=
  some (IntKind.u64.wrap ((IntKind.u64.wrap ((IntKind.u64.wrap ((Int.fdiv a 4294967296) * (Int.fdiv p_b 4294967296))) + (Int.fdiv (IntKind.u64.wrap ((IntKind.u64.wrap ((Int.fdiv a 4294967296) * (bAnd .u64 p_b 4294967295))) + (Int.fdiv (IntKind.u64.wrap ((bAnd .u64 a 4294967295) * (bAnd .u64 p_b 4294967295))) 4294967296))) 4294967296))) + (Int.fdiv (IntKind.u64.wrap ((IntKind.u64.wrap ((bAnd .u64 a 4294967295) * (Int.fdiv p_b 4294967296))) + (bAnd .u64 (IntKind.u64.wrap ((IntKind.u64.wrap ((Int.fdiv a 4294967296) * (bAnd .u64 p_b 4294967295))) + (Int.fdiv (IntKind.u64.wrap ((bAnd .u64 a 4294967295) * (bAnd .u64 p_b 4294967295))) 4294967296))) 4294967295))) 4294967296)), bOr .u64 (IntKind.u64.wrap ((IntKind.u64.wrap ((IntKind.u64.wrap ((bAnd .u64 a 4294967295) * (Int.fdiv p_b 4294967296))) + (bAnd .u64 (IntKind.u64.wrap ((IntKind.u64.wrap ((Int.fdiv a 4294967296) * (bAnd .u64 p_b 4294967295))) + (Int.fdiv (IntKind.u64.wrap ((bAnd .u64 a 4294967295) * (bAnd .u64 p_b 4294967295))) 4294967296))) 4294967295))) * 4294967296)) (bAnd .u64 (IntKind.u64.wrap ((bAnd .u64 a 4294967295) * (bAnd .u64 p_b 4294967295))) 4294967295))

-- quorum/quorumref6.root2
noncomputable def FQuorumref6_root2_L3 (p : Int) (x3 : Int × Int) : Option ((Int × Int) ⊕ Int) :=
  (bif decide (x3.2 ≥ 0) then chk (decide (0 ≤ (IntKind.u64.wrap x3.2))) ((FQuorumref3_Product (IntKind.u64.wrap (x3.1 + (shlV .u64 1 (IntKind.u64.wrap x3.2)))) (IntKind.u64.wrap (x3.1 + (shlV .u64 1 (IntKind.u64.wrap x3.2))))).bind (fun y20 => (bif decide (y20.1 < p) then some (.inl (IntKind.u64.wrap (x3.1 + (shlV .u64 1 (IntKind.u64.wrap x3.2))), IntKind.i64.wrap (x3.2 - 1))) else (bif (y20.1 == p) then ((bif (y20.2 == 0) then some (IntKind.u64.wrap (x3.1 + (shlV .u64 1 (IntKind.u64.wrap x3.2)))) else some x3.1)).bind (fun y33 => some (.inl (y33, IntKind.i64.wrap (x3.2 - 1)))) else some (.inl (x3.1, IntKind.i64.wrap (x3.2 - 1))))))) else some (.inr x3.1))
noncomputable def FQuorumref6_root2 (p : Int) : Option Int :=
  (loop (FQuorumref6_root2_L3 p) (0, 34)).bind (fun y4 => some (IntKind.u32.wrap y4))

-- quorum/quorumref6.root3
noncomputable def FQuorumref6_root3_L3 (p : Int) (x3 : Int × Int) : Option ((Int × Int) ⊕ Int) :=
  (bif decide (x3.2 ≥ 0) then chk (decide (0 ≤ (IntKind.u64.wrap x3.2))) ((FQuorumref3_Product (IntKind.u64.wrap (x3.1 + (shlV .u64 1 (IntKind.u64.wrap x3.2)))) (IntKind.u64.wrap (x3.1 + (shlV .u64 1 (IntKind.u64.wrap x3.2))))).bind (fun y20 => (FQuorumref3_Product y20.2 (IntKind.u64.wrap (x3.1 + (shlV .u64 1 (IntKind.u64.wrap x3.2))))).bind (fun y28 => (bif decide ((IntKind.u64.wrap (y28.1 + (IntKind.u64.wrap (y20.1 * (IntKind.u64.wrap (x3.1 + (shlV .u64 1 (IntKind.u64.wrap x3.2)))))))) < (IntKind.u64.wrap (p * 4294967296))) then some (.inl (IntKind.u64.wrap (x3.1 + (shlV .u64 1 (IntKind.u64.wrap x3.2))), IntKind.i64.wrap (x3.2 - 1))) else (bif ((IntKind.u64.wrap (y28.1 + (IntKind.u64.wrap (y20.1 * (IntKind.u64.wrap (x3.1 + (shlV .u64 1 (IntKind.u64.wrap x3.2)))))))) == (IntKind.u64.wrap (p * 4294967296))) then ((bif (y28.2 == 0) then some (IntKind.u64.wrap (x3.1 + (shlV .u64 1 (IntKind.u64.wrap x3.2)))) else some x3.1)).bind (fun y41 => some (.inl (y41, IntKind.i64.wrap (x3.2 - 1)))) else some (.inl (x3.1, IntKind.i64.wrap (x3.2 - 1)))))))) else some (.inr x3.1))
noncomputable def FQuorumref6_root3 (p : Int) : Option Int :=
  (loop (FQuorumref6_root3_L3 p) (0, 34)).bind (fun y4 => some (IntKind.u32.wrap y4))

-- quorum/quorumref6.words
noncomputable def FQuorumref6_words_L9 (x9 : Int × Int × (List Int)) : Option (Int × Int × (List Int) ⊕ (List Int)) :=
  (bif decide (x9.1 < 64) then (FQuorumref6_prime x9.2.1).bind (fun y24 => ((bif y24 then ((bif decide (x9.1 < 8) then (FQuorumref6_root2 x9.2.1).bind (fun y80 => chk (inb x9.1 8 && inb x9.1 x9.2.2.length) (some (x9.2.2.set x9.1.toNat y80))) else some x9.2.2)).bind (fun y46 => (FQuorumref6_root3 x9.2.1).bind (fun y61 => chk (inb x9.1 64 && inb x9.1 ((y46.drop 8).length)) (some (IntKind.i64.wrap (x9.1 + 1), y46.set (8 + x9.1.toNat) y61)))) else some (x9.1, x9.2.2))).bind (fun y32 => some (.inl (y32.1, IntKind.u64.wrap (x9.2.1 + 1), y32.2)))) else some (.inr x9.2.2))
noncomputable def FQuorumref6_words : Option (List Int) :=
  (loop FQuorumref6_words_L9 (0, 2, List.replicate 72 0)).bind (fun y10 => some y10)

-- quorum/quorumref6.padded
noncomputable def FQuorumref6_padded_L46 (p_b : List Int) (x46 : (List Int) × Int) : Option (((List Int) × Int) ⊕ (List Int)) :=
  (bif decide (x46.2 ≥ 0) then chk (decide (0 ≤ (IntKind.u64.wrap (IntKind.i64.wrap (8 * x46.2))))) (chk (okl ((x46.1 ++ [IntKind.u8.wrap (shrV .u64 (IntKind.u64.wrap (8 * (IntKind.u64.wrap ((p_b.length : Nat) : Int)))) (IntKind.u64.wrap (IntKind.i64.wrap (8 * x46.2))))]).length) 1) (bind1 (IntKind.u8.wrap (shrV .u64 (IntKind.u64.wrap (8 * (IntKind.u64.wrap ((p_b.length : Nat) : Int)))) (IntKind.u64.wrap (IntKind.i64.wrap (8 * x46.2))))) (fun v76 => bind1 (x46.1 ++ [IntKind.u8.wrap (shrV .u64 (IntKind.u64.wrap (8 * (IntKind.u64.wrap ((p_b.length : Nat) : Int)))) (IntKind.u64.wrap (IntKind.i64.wrap (8 * x46.2))))]) (fun v79 => some (.inl (v79, IntKind.i64.wrap (x46.2 - 1))))))) else some (.inr x46.1))
noncomputable def FQuorumref6_padded_L31 (x31 : List Int) : Option ((List Int) ⊕ (List Int)) :=
  (bif ((Int.tmod ((x31.length : Nat) : Int) 64) != 56) then chk (okl ((x31 ++ [0]).length) 1) (some (.inl (x31 ++ [0]))) else some (.inr x31))
noncomputable def FQuorumref6_padded_L3 (p_b : List Int) (x3 : (List Int) × Int) : Option (((List Int) × Int) ⊕ (List Int)) :=
  (bif decide (x3.2 < ((p_b.length : Nat) : Int)) then chk (inb x3.2 p_b.length) (chk (okl ((x3.1 ++ [el p_b x3.2.toNat]).length) 1) (some (.inl (x3.1 ++ [el p_b x3.2.toNat], IntKind.i64.wrap (x3.2 + 1))))) else some (.inr x3.1))
noncomputable def FQuorumref6_padded (p_b : List Int) : Option (List Int) :=
  (loop (FQuorumref6_padded_L3 p_b) ([], 0)).bind (fun y4 => chk (okl ((y4 ++ [128]).length) 1) ((loop FQuorumref6_padded_L31 (y4 ++ [128])).bind (fun y32 => (loop (FQuorumref6_padded_L46 p_b) (y32, 7)).bind (fun y47 => some y47))))

-- quorum/quorumref6.word
noncomputable def FQuorumref6_word (p_b : List Int) (p_i : Int) : Option Int :=
  chk (inb p_i p_b.length) (chk (inb (IntKind.i64.wrap (p_i + 1)) p_b.length) (chk (inb (IntKind.i64.wrap (p_i + 2)) p_b.length) (chk (inb (IntKind.i64.wrap (p_i + 3)) p_b.length) (some (bOr .u32 (bOr .u32 (bOr .u32 (IntKind.u32.wrap ((IntKind.u32.wrap (el p_b p_i.toNat)) * 16777216)) (IntKind.u32.wrap ((IntKind.u32.wrap (el p_b (IntKind.i64.wrap (p_i + 1)).toNat)) * 65536))) (IntKind.u32.wrap ((IntKind.u32.wrap (el p_b (IntKind.i64.wrap (p_i + 2)).toNat)) * 256))) (IntKind.u32.wrap (el p_b (IntKind.i64.wrap (p_i + 3)).toNat)))))))

-- quorum/quorumref6.rot
noncomputable def FQuorumref6_rot (p_x : Int) (n : Int) : Option Int :=
  chk (decide (0 ≤ n)) (chk (decide (0 ≤ (IntKind.u64.wrap (32 - n)))) (some (bOr .u32 (shrV .u32 p_x n) (shlV .u32 p_x (IntKind.u64.wrap (32 - n))))))

-- (*quorum/quorumref6.Words).block
noncomputable def FQuorumref6_Words_block_L57 (p_w : List Int) (y35 : List Int) (x57 : Int × (List Int)) : Option (Int × (List Int) ⊕ (List Int)) :=
  (bif decide (x57.1 < 64) then chk (inb x57.1 64 && inb x57.1 ((p_w.drop 8).length)) (chk (inb x57.1 64 && inb x57.1 y35.length) ((FQuorumref6_rot (el x57.2 4) 6).bind (fun y146 => (FQuorumref6_rot (el x57.2 4) 11).bind (fun y154 => (FQuorumref6_rot (el x57.2 4) 25).bind (fun y162 => (FQuorumref6_rot (el x57.2 0) 2).bind (fun y173 => (FQuorumref6_rot (el x57.2 0) 13).bind (fun y181 => (FQuorumref6_rot (el x57.2 0) 22).bind (fun y189 => some (.inl (IntKind.i64.wrap (x57.1 + 1), [IntKind.u32.wrap ((IntKind.u32.wrap ((IntKind.u32.wrap ((IntKind.u32.wrap ((IntKind.u32.wrap ((el x57.2 7) + (bXor .u32 (bXor .u32 y146 y154) y162))) + (bXor .u32 (bAnd .u32 (el x57.2 4) (el x57.2 5)) (bAnd .u32 (bXor .u32 4294967295 (el x57.2 4)) (el x57.2 6))))) + (el (p_w.drop 8) x57.1.toNat))) + (el y35 x57.1.toNat))) + (IntKind.u32.wrap ((bXor .u32 (bXor .u32 y173 y181) y189) + (bXor .u32 (bXor .u32 (bAnd .u32 (el x57.2 0) (el x57.2 1)) (bAnd .u32 (el x57.2 0) (el x57.2 2))) (bAnd .u32 (el x57.2 1) (el x57.2 2)))))), el x57.2 0, el x57.2 1, el x57.2 2, IntKind.u32.wrap ((el x57.2 3) + (IntKind.u32.wrap ((IntKind.u32.wrap ((IntKind.u32.wrap ((IntKind.u32.wrap ((el x57.2 7) + (bXor .u32 (bXor .u32 y146 y154) y162))) + (bXor .u32 (bAnd .u32 (el x57.2 4) (el x57.2 5)) (bAnd .u32 (bXor .u32 4294967295 (el x57.2 4)) (el x57.2 6))))) + (el (p_w.drop 8) x57.1.toNat))) + (el y35 x57.1.toNat)))), el x57.2 4, el x57.2 5, el x57.2 6])))))))))) else some (.inr x57.2))
noncomputable def FQuorumref6_Words_block_L34 (x34 : Int × (List Int)) : Option (Int × (List Int) ⊕ (List Int)) :=
  (bif decide (x34.1 < 64) then chk (inb (IntKind.i64.wrap (x34.1 - 15)) 64 && inb (IntKind.i64.wrap (x34.1 - 15)) x34.2.length) (chk (inb (IntKind.i64.wrap (x34.1 - 2)) 64 && inb (IntKind.i64.wrap (x34.1 - 2)) x34.2.length) (chk (inb (IntKind.i64.wrap (x34.1 - 16)) 64 && inb (IntKind.i64.wrap (x34.1 - 16)) x34.2.length) (chk (inb (IntKind.i64.wrap (x34.1 - 7)) 64 && inb (IntKind.i64.wrap (x34.1 - 7)) x34.2.length) ((FQuorumref6_rot (el x34.2 (IntKind.i64.wrap (x34.1 - 15)).toNat) 7).bind (fun y218 => (FQuorumref6_rot (el x34.2 (IntKind.i64.wrap (x34.1 - 15)).toNat) 18).bind (fun y226 => (FQuorumref6_rot (el x34.2 (IntKind.i64.wrap (x34.1 - 2)).toNat) 17).bind (fun y234 => (FQuorumref6_rot (el x34.2 (IntKind.i64.wrap (x34.1 - 2)).toNat) 19).bind (fun y242 => chk (inb x34.1 64 && inb x34.1 x34.2.length) (bind1 (x34.2.set x34.1.toNat (IntKind.u32.wrap ((IntKind.u32.wrap ((IntKind.u32.wrap ((el x34.2 (IntKind.i64.wrap (x34.1 - 16)).toNat) + (bXor .u32 (bXor .u32 y218 y226) (Int.fdiv (el x34.2 (IntKind.i64.wrap (x34.1 - 15)).toNat) 8)))) + (el x34.2 (IntKind.i64.wrap (x34.1 - 7)).toNat))) + (bXor .u32 (bXor .u32 y234 y242) (Int.fdiv (el x34.2 (IntKind.i64.wrap (x34.1 - 2)).toNat) 1024))))) (fun v256 => some (.inl (IntKind.i64.wrap (x34.1 + 1), v256)))))))))))) else some (.inr x34.2))
noncomputable def FQuorumref6_Words_block_L19 (p_b : List Int) (x19 : Int × (List Int)) : Option (Int × (List Int) ⊕ (List Int)) :=
  (bif decide (x19.1 < 16) then (FQuorumref6_word p_b (IntKind.i64.wrap (4 * x19.1))).bind (fun y262 => chk (inb x19.1 64 && inb x19.1 x19.2.length) (some (.inl (IntKind.i64.wrap (x19.1 + 1), x19.2.set x19.1.toNat y262)))) else some (.inr x19.2))
noncomputable def FQuorumref6_Words_block (p_w : List Int) (p_h : List Int) (p_b : List Int) : Option (List Int) :=
  (loop (FQuorumref6_Words_block_L19 p_b) (0, List.replicate 64 0)).bind (fun y20 => (loop FQuorumref6_Words_block_L34 (16, y20)).bind (fun y35 => (loop (FQuorumref6_Words_block_L57 p_w y35) (0, p_h)).bind (fun y58 => some ([IntKind.u32.wrap ((el p_h 0) + (el y58 0)), IntKind.u32.wrap ((el p_h 1) + (el y58 1)), IntKind.u32.wrap ((el p_h 2) + (el y58 2)), IntKind.u32.wrap ((el p_h 3) + (el y58 3)), IntKind.u32.wrap ((el p_h 4) + (el y58 4)), IntKind.u32.wrap ((el p_h 5) + (el y58 5)), IntKind.u32.wrap ((el p_h 6) + (el y58 6)), IntKind.u32.wrap ((el p_h 7) + (el y58 7))]))))

-- (*quorum/quorumref6.Words).sum
noncomputable def FQuorumref6_Words_sum_L51 (y31 : List Int) (x51 : Int × (List Int)) : Option (Int × (List Int) ⊕ (List Int)) :=
  (bif decide (x51.1 < 32) then chk (inb (IntKind.i64.wrap (Int.tdiv x51.1 4)) 8 && inb (IntKind.i64.wrap (Int.tdiv x51.1 4)) y31.length) (chk (decide (0 ≤ (IntKind.u64.wrap (IntKind.i64.wrap (24 - (IntKind.i64.wrap (8 * (Int.tmod x51.1 4)))))))) (chk (inb x51.1 32 && inb x51.1 x51.2.length) (bind1 (x51.2.set x51.1.toNat (IntKind.u8.wrap (shrV .u32 (el y31 (IntKind.i64.wrap (Int.tdiv x51.1 4)).toNat) (IntKind.u64.wrap (IntKind.i64.wrap (24 - (IntKind.i64.wrap (8 * (Int.tmod x51.1 4))))))))) (fun v84 => some (.inl (IntKind.i64.wrap (x51.1 + 1), v84)))))) else some (.inr x51.2))
noncomputable def FQuorumref6_Words_sum_L30 (p_w : List Int) (y7 : List Int) (x30 : Int × (List Int)) : Option (Int × (List Int) ⊕ (List Int)) :=
  (bif decide ((IntKind.i64.wrap (x30.1 + 64)) ≤ ((y7.length : Nat) : Int)) then chk (Nat.ble 8 x30.2.length) (chk (inc x30.1 (IntKind.i64.wrap (x30.1 + 64)) y7.length) ((FQuorumref6_Words_block p_w x30.2 ((y7.drop x30.1.toNat).take ((IntKind.i64.wrap (x30.1 + 64)).toNat - x30.1.toNat))).bind (fun y97 => chk (x30.2.length == (fixl y97 8 0).length) (some (.inl (IntKind.i64.wrap (x30.1 + 64), fixl y97 8 0)))))) else some (.inr x30.2))
noncomputable def FQuorumref6_Words_sum (p_w : List Int) (p_b : List Int) : Option (List Int) :=
  (FQuorumref6_padded p_b).bind (fun y7 => chk (Nat.ble 8 p_w.length) ((loop (FQuorumref6_Words_sum_L30 p_w y7) (0, fixl p_w 8 0)).bind (fun y31 => (loop (FQuorumref6_Words_sum_L51 y31) (0, List.replicate 32 0)).bind (fun y52 => chk (Nat.ble 32 y52.length) (some y52)))))

-- quorum/quorumref6.Sum
noncomputable def FQuorumref6_Sum (p_b : List Int) : Option (List Int) :=
  (FQuorumref6_words).bind (fun y6 => (FQuorumref6_Words_sum y6 p_b).bind (fun y13 => some y13))

-- quorum/snap.New
noncomputable def FSnap_New : Option (List Int) :=
  some ([1779033703, 3144134277, 1013904242, 2773480762, 1359893119, 2600822924, 528734635, 1541459225])

-- math/bits.RotateLeft32
noncomputable def FBits_RotateLeft32 (p_x : Int) (k : Int) : Option Int :=
  chk (decide (0 ≤ (bAnd .u64 (IntKind.u64.wrap k) 31))) (chk (decide (0 ≤ (IntKind.u64.wrap (32 - (bAnd .u64 (IntKind.u64.wrap k) 31))))) (some (bOr .u32 (shlV .u32 p_x (bAnd .u64 (IntKind.u64.wrap k) 31)) (shrV .u32 p_x (IntKind.u64.wrap (32 - (bAnd .u64 (IntKind.u64.wrap k) 31)))))))

-- quorum/snap.turn
noncomputable def FSnap_turn (p_x : Int) (n : Int) : Option Int :=
  (FBits_RotateLeft32 p_x (IntKind.i64.wrap (0 - n))).bind (fun y1 => some y1)

-- quorum/snap.rounds
noncomputable def FSnap_rounds : Option (List Int) :=
  some ([1116352408, 1899447441, 3049323471, 3921009573, 961987163, 1508970993, 2453635748, 2870763221, 3624381080, 310598401, 607225278, 1426881987, 1925078388, 2162078206, 2614888103, 3248222580, 3835390401, 4022224774, 264347078, 604807628, 770255983, 1249150122, 1555081692, 1996064986, 2554220882, 2821834349, 2952996808, 3210313671, 3336571891, 3584528711, 113926993, 338241895, 666307205, 773529912, 1294757372, 1396182291, 1695183700, 1986661051, 2177026350, 2456956037, 2730485921, 2820302411, 3259730800, 3345764771, 3516065817, 3600352804, 4094571909, 275423344, 430227734, 506948616, 659060556, 883997877, 958139571, 1322822218, 1537002063, 1747873779, 1955562222, 2024104815, 2227730452, 2361852424, 2428436474, 2756734187, 3204031479, 3329325298])

-- (*quorum/snap.Hasher).block
noncomputable def FSnap_Hasher_block_L47 (y25 : List Int) (z37 : List Int) (x47 : Int × (List Int)) : Option (Int × (List Int) ⊕ (List Int)) :=
  (bif decide (x47.1 < 64) then chk (inb x47.1 64 && inb x47.1 z37.length) (chk (inb x47.1 64 && inb x47.1 y25.length) ((FSnap_turn (el x47.2 4) 6).bind (fun y132 => (FSnap_turn (el x47.2 4) 11).bind (fun y140 => (FSnap_turn (el x47.2 4) 25).bind (fun y148 => (FSnap_turn (el x47.2 0) 2).bind (fun y156 => bind1 (IntKind.u32.wrap ((IntKind.u32.wrap ((IntKind.u32.wrap ((IntKind.u32.wrap ((el x47.2 7) + (bXor .u32 (bXor .u32 y132 y140) y148))) + (bXor .u32 (bAnd .u32 (el x47.2 4) (el x47.2 5)) (bAnd .u32 (bXor .u32 4294967295 (el x47.2 4)) (el x47.2 6))))) + (el z37 x47.1.toNat))) + (el y25 x47.1.toNat))) (fun v164 => (FSnap_turn (el x47.2 0) 13).bind (fun y167 => (FSnap_turn (el x47.2 0) 22).bind (fun y175 => some (.inl (IntKind.i64.wrap (x47.1 + 1), [IntKind.u32.wrap (v164 + (IntKind.u32.wrap ((bXor .u32 (bXor .u32 y156 y167) y175) + (bXor .u32 (bXor .u32 (bAnd .u32 (el x47.2 0) (el x47.2 1)) (bAnd .u32 (el x47.2 0) (el x47.2 2))) (bAnd .u32 (el x47.2 1) (el x47.2 2)))))), el x47.2 0, el x47.2 1, el x47.2 2, IntKind.u32.wrap ((el x47.2 3) + v164), el x47.2 4, el x47.2 5, el x47.2 6]))))))))))) else some (.inr x47.2))
noncomputable def FSnap_Hasher_block_L24 (x24 : Int × (List Int)) : Option (Int × (List Int) ⊕ (List Int)) :=
  (bif decide (x24.1 < 64) then chk (inb (IntKind.i64.wrap (x24.1 - 15)) 64 && inb (IntKind.i64.wrap (x24.1 - 15)) x24.2.length) (chk (inb (IntKind.i64.wrap (x24.1 - 2)) 64 && inb (IntKind.i64.wrap (x24.1 - 2)) x24.2.length) (chk (inb (IntKind.i64.wrap (x24.1 - 16)) 64 && inb (IntKind.i64.wrap (x24.1 - 16)) x24.2.length) (chk (inb (IntKind.i64.wrap (x24.1 - 7)) 64 && inb (IntKind.i64.wrap (x24.1 - 7)) x24.2.length) ((FSnap_turn (el x24.2 (IntKind.i64.wrap (x24.1 - 15)).toNat) 7).bind (fun y363 => (FSnap_turn (el x24.2 (IntKind.i64.wrap (x24.1 - 15)).toNat) 18).bind (fun y371 => (FSnap_turn (el x24.2 (IntKind.i64.wrap (x24.1 - 2)).toNat) 17).bind (fun y379 => (FSnap_turn (el x24.2 (IntKind.i64.wrap (x24.1 - 2)).toNat) 19).bind (fun y387 => chk (inb x24.1 64 && inb x24.1 x24.2.length) (bind1 (x24.2.set x24.1.toNat (IntKind.u32.wrap ((IntKind.u32.wrap ((IntKind.u32.wrap ((el x24.2 (IntKind.i64.wrap (x24.1 - 16)).toNat) + (bXor .u32 (bXor .u32 y363 y371) (Int.fdiv (el x24.2 (IntKind.i64.wrap (x24.1 - 15)).toNat) 8)))) + (el x24.2 (IntKind.i64.wrap (x24.1 - 7)).toNat))) + (bXor .u32 (bXor .u32 y379 y387) (Int.fdiv (el x24.2 (IntKind.i64.wrap (x24.1 - 2)).toNat) 1024))))) (fun v401 => some (.inl (IntKind.i64.wrap (x24.1 + 1), v401)))))))))))) else some (.inr x24.2))
noncomputable def FSnap_Hasher_block_L9 (p_b : List Int) (x9 : Int × (List Int)) : Option (Int × (List Int) ⊕ (List Int)) :=
  (bif decide (x9.1 < 16) then chk (inb (IntKind.i64.wrap (4 * x9.1)) p_b.length) (chk (inb (IntKind.i64.wrap ((IntKind.i64.wrap (4 * x9.1)) + 1)) p_b.length) (chk (inb (IntKind.i64.wrap ((IntKind.i64.wrap (4 * x9.1)) + 2)) p_b.length) (chk (inb (IntKind.i64.wrap ((IntKind.i64.wrap (4 * x9.1)) + 3)) p_b.length) (chk (inb x9.1 64 && inb x9.1 x9.2.length) (bind1 (x9.2.set x9.1.toNat (bOr .u32 (bOr .u32 (bOr .u32 (IntKind.u32.wrap ((IntKind.u32.wrap (el p_b (IntKind.i64.wrap (4 * x9.1)).toNat)) * 16777216)) (IntKind.u32.wrap ((IntKind.u32.wrap (el p_b (IntKind.i64.wrap ((IntKind.i64.wrap (4 * x9.1)) + 1)).toNat)) * 65536))) (IntKind.u32.wrap ((IntKind.u32.wrap (el p_b (IntKind.i64.wrap ((IntKind.i64.wrap (4 * x9.1)) + 2)).toNat)) * 256))) (IntKind.u32.wrap (el p_b (IntKind.i64.wrap ((IntKind.i64.wrap (4 * x9.1)) + 3)).toNat)))) (fun v432 => some (.inl (IntKind.i64.wrap (x9.1 + 1), v432)))))))) else some (.inr x9.2))
noncomputable def FSnap_Hasher_block (p_h_made : Bool) (p_h_state : List Int) (p_h_n : Int) (p_b : List Int) : Option (List Int) :=
  (loop (FSnap_Hasher_block_L9 p_b) (0, List.replicate 64 0)).bind (fun y10 => (loop FSnap_Hasher_block_L24 (16, y10)).bind (fun y25 => (FSnap_rounds).bind (fun y200 => bind1 (fixl y200 64 0) (fun z37 => (loop (FSnap_Hasher_block_L47 y25 z37) (0, p_h_state)).bind (fun y48 => some ([IntKind.u32.wrap ((el p_h_state 0) + (el y48 0)), IntKind.u32.wrap ((el p_h_state 1) + (el y48 1)), IntKind.u32.wrap ((el p_h_state 2) + (el y48 2)), IntKind.u32.wrap ((el p_h_state 3) + (el y48 3)), IntKind.u32.wrap ((el p_h_state 4) + (el y48 4)), IntKind.u32.wrap ((el p_h_state 5) + (el y48 5)), IntKind.u32.wrap ((el p_h_state 6) + (el y48 6)), IntKind.u32.wrap ((el p_h_state 7) + (el y48 7))]))))))

-- (*quorum/snap.Hasher).Write
noncomputable def FSnap_Hasher_Write_L23 (p_h_made : Bool) (v15 : Int) (x23 : (List Int) × (List Int)) : Option (((List Int) × (List Int)) ⊕ ((List Int) × (List Int))) :=
  (bif decide (((x23.2.length : Nat) : Int) ≥ 64) then chk (inc 0 64 x23.2.length) ((FSnap_Hasher_block p_h_made x23.1 v15 (x23.2.take 64)).bind (fun y52 => chk (inc 0 64 x23.2.length) (some (.inl (y52, x23.2.drop 64))))) else some (.inr (x23.1, x23.2)))
noncomputable def FSnap_Hasher_Write (p_h_made : Bool) (p_h_state : List Int) (p_h_rest : List Int) (p_h_n : Int) (p_b : List Int) : Option ((List Int) × (List Int) × Int) :=
  (bif !p_h_made then some (p_h_state, p_h_rest, p_h_n) else chk (okl ((p_h_rest ++ p_b).length) 1) (bind1 (IntKind.u64.wrap (p_h_n + (IntKind.u64.wrap ((p_b.length : Nat) : Int)))) (fun v15 => (loop (FSnap_Hasher_Write_L23 p_h_made v15) (p_h_state, p_h_rest ++ p_b)).bind (fun y24 => chk (okl y24.2.length 1) (some (y24.1, y24.2, v15))))))

-- (*quorum/snap.Hasher).Sum
noncomputable def FSnap_Hasher_Sum_L74 (x74 : (List Int) × (List Int)) : Option (((List Int) × (List Int)) ⊕ (List Int)) :=
  (bif decide (((x74.1.length : Nat) : Int) > 0) then chk (inc 0 64 x74.1.length) ((FSnap_Hasher_block false x74.2 0 (x74.1.take 64)).bind (fun y202 => chk (inc 0 64 x74.1.length) (some (.inl (x74.1.drop 64, y202))))) else some (.inr x74.2))
noncomputable def FSnap_Hasher_Sum_L51 (p_h_n : Int) (x51 : (List Int) × Int) : Option (((List Int) × Int) ⊕ (List Int)) :=
  (bif decide (x51.2 ≥ 0) then chk (decide (0 ≤ (IntKind.u64.wrap x51.2))) (chk (okl ((x51.1 ++ [IntKind.u8.wrap (shrV .u64 (IntKind.u64.wrap (8 * p_h_n)) (IntKind.u64.wrap x51.2))]).length) 1) (bind1 (IntKind.u8.wrap (shrV .u64 (IntKind.u64.wrap (8 * p_h_n)) (IntKind.u64.wrap x51.2))) (fun v231 => bind1 (x51.1 ++ [IntKind.u8.wrap (shrV .u64 (IntKind.u64.wrap (8 * p_h_n)) (IntKind.u64.wrap x51.2))]) (fun v234 => some (.inl (v234, IntKind.i64.wrap (x51.2 - 8))))))) else some (.inr x51.1))
noncomputable def FSnap_Hasher_Sum_L36 (x36 : List Int) : Option ((List Int) ⊕ (List Int)) :=
  (bif ((Int.tmod ((x36.length : Nat) : Int) 64) != 56) then chk (okl ((x36 ++ [0]).length) 1) (some (.inl (x36 ++ [0]))) else some (.inr x36))
noncomputable def FSnap_Hasher_Sum (p_h_made : Bool) (p_h_state : List Int) (p_h_rest : List Int) (p_h_n : Int) : Option (List Int) :=
  (bif !p_h_made then some ([0, 0, 0, 0, 0, 0, 0, 0, 0, 0, 0, 0, 0, 0, 0, 0, 0, 0, 0, 0, 0, 0, 0, 0, 0, 0, 0, 0, 0, 0, 0, 0]) else chk (okl p_h_rest.length 1) (chk (okl ((p_h_rest ++ [128]).length) 1) ((loop FSnap_Hasher_Sum_L36 (p_h_rest ++ [128])).bind (fun y37 => (loop (FSnap_Hasher_Sum_L51 p_h_n) (y37, 56)).bind (fun y52 => (loop FSnap_Hasher_Sum_L74 (y52, p_h_state)).bind (fun y75 => some ([IntKind.u8.wrap (Int.fdiv (el y75 0) 16777216), IntKind.u8.wrap (Int.fdiv (el y75 0) 65536), IntKind.u8.wrap (Int.fdiv (el y75 0) 256), IntKind.u8.wrap (el y75 0), IntKind.u8.wrap (Int.fdiv (el y75 1) 16777216), IntKind.u8.wrap (Int.fdiv (el y75 1) 65536), IntKind.u8.wrap (Int.fdiv (el y75 1) 256), IntKind.u8.wrap (el y75 1), IntKind.u8.wrap (Int.fdiv (el y75 2) 16777216), IntKind.u8.wrap (Int.fdiv (el y75 2) 65536), IntKind.u8.wrap (Int.fdiv (el y75 2) 256), IntKind.u8.wrap (el y75 2), IntKind.u8.wrap (Int.fdiv (el y75 3) 16777216), IntKind.u8.wrap (Int.fdiv (el y75 3) 65536), IntKind.u8.wrap (Int.fdiv (el y75 3) 256), IntKind.u8.wrap (el y75 3), IntKind.u8.wrap (Int.fdiv (el y75 4) 16777216), IntKind.u8.wrap (Int.fdiv (el y75 4) 65536), IntKind.u8.wrap (Int.fdiv (el y75 4) 256), IntKind.u8.wrap (el y75 4), IntKind.u8.wrap (Int.fdiv (el y75 5) 16777216), IntKind.u8.wrap (Int.fdiv (el y75 5) 65536), IntKind.u8.wrap (Int.fdiv (el y75 5) 256), IntKind.u8.wrap (el y75 5), IntKind.u8.wrap (Int.fdiv (el y75 6) 16777216), IntKind.u8.wrap (Int.fdiv (el y75 6) 65536), IntKind.u8.wrap (Int.fdiv (el y75 6) 256), IntKind.u8.wrap (el y75 6), IntKind.u8.wrap (Int.fdiv (el y75 7) 16777216), IntKind.u8.wrap (Int.fdiv (el y75 7) 65536), IntKind.u8.wrap (Int.fdiv (el y75 7) 256), IntKind.u8.wrap (el y75 7)])))))))

-- quorum/snap.joined
noncomputable def FSnap_joined (parts : List Int) : Option (List Int) :=
  (FSnap_New).bind (fun y6 => (FSnap_Hasher_Write true y6 ([]) 0 parts).bind (fun y17 => (FSnap_Hasher_Sum true y17.1 y17.2.1 y17.2.2).bind (fun y27 => some y27)))

-- quorum/snap.Sum
noncomputable def FSnap_Sum (p_b : List Int) : Option (List Int) :=
  (FSnap_joined p_b).bind (fun y11 => some y11)
end Go.Proofs.YtlfaalbkhfjpkaaDoor
