/- The plain functions that a program of the prover's own has printed for functions of the program: nothing is proved here. -/
import Derived.Test.YtfmifminaldmhaaDoorLift
set_option linter.unusedVariables false
set_option linter.unusedSimpArgs false
set_option maxRecDepth 100000
namespace Go.Proofs.YtfmifminaldmhaaDoor
open Go.RowKit
-- quorum/snap.New
noncomputable def FSnap_New : Option (List Int) :=
  some ([1779033703, 3144134277, 1013904242, 2773480762, 1359893119, 2600822924, 528734635, 1541459225])

-- math/bits.RotateLeft32
noncomputable def FBits_RotateLeft32 (p_x : Int) (k : Int) : Option Int :=
  chk (decide (0 ≤ (bAnd .u64 (IntKind.u64.wrap k) 31))) (chk (decide (0 ≤ (IntKind.u64.wrap (32 - (bAnd .u64 (IntKind.u64.wrap k) 31))))) (some (bOr .u32 (shlV .u32 p_x (bAnd .u64 (IntKind.u64.wrap k) 31)) (shrV .u32 p_x (IntKind.u64.wrap (32 - (bAnd .u64 (IntKind.u64.wrap k) 31)))))))

-- quorum/snap.turn
noncomputable def FSnap_turn (p_x : Int) (n : Int) : Option Int :=
  (FBits_RotateLeft32 p_x (IntKind.i64.wrap (0 - n))).bind (fun y1 => some y1)

-- quorum/snap.rounds
noncomputable def FSnap_rounds : Option (List Int) :=
  some ([1116352408, 1899447441, 3049323471, 3921009573, 961987163, 1508970993, 2453635748, 2870763221, 3624381080, 310598401, 607225278, 1426881987, 1925078388, 2162078206, 2614888103, 3248222580, 3835390401, 4022224774, 264347078, 604807628, 770255983, 1249150122, 1555081692, 1996064986, 2554220882, 2821834349, 2952996808, 3210313671, 3336571891, 3584528711, 113926993, 338241895, 666307205, 773529912, 1294757372, 1396182291, 1695183700, 1986661051, 2177026350, 2456956037, 2730485921, 2820302411, 3259730800, 3345764771, 3516065817, 3600352804, 4094571909, 275423344, 430227734, 506948616, 659060556, 883997877, 958139571, 1322822218, 1537002063, 1747873779, 1955562222, 2024104815, 2227730452, 2361852424, 2428436474, 2756734187, 3204031479, 3329325298])

-- (*quorum/snap.Hasher).block
noncomputable def FSnap_Hasher_block_L47 (y25 : List Int) (z37 : List Int) (x47 : Int × (List Int)) : Option ((Int × (List Int)) ⊕ (List Int)) :=
  (bif decide (x47.1 < 64) then chk (inb x47.1 64 && inb x47.1 z37.length) (chk (inb x47.1 64 && inb x47.1 y25.length) ((FSnap_turn (el x47.2 4) 6).bind (fun y132 => (FSnap_turn (el x47.2 4) 11).bind (fun y140 => (FSnap_turn (el x47.2 4) 25).bind (fun y148 => (FSnap_turn (el x47.2 0) 2).bind (fun y156 => bind1 (IntKind.u32.wrap ((IntKind.u32.wrap ((IntKind.u32.wrap ((IntKind.u32.wrap ((el x47.2 7) + (bXor .u32 (bXor .u32 y132 y140) y148))) + (bXor .u32 (bAnd .u32 (el x47.2 4) (el x47.2 5)) (bAnd .u32 (bXor .u32 4294967295 (el x47.2 4)) (el x47.2 6))))) + (el z37 x47.1.toNat))) + (el y25 x47.1.toNat))) (fun v164 => (FSnap_turn (el x47.2 0) 13).bind (fun y167 => (FSnap_turn (el x47.2 0) 22).bind (fun y175 => some (.inl (IntKind.i64.wrap (x47.1 + 1), [IntKind.u32.wrap (v164 + (IntKind.u32.wrap ((bXor .u32 (bXor .u32 y156 y167) y175) + (bXor .u32 (bXor .u32 (bAnd .u32 (el x47.2 0) (el x47.2 1)) (bAnd .u32 (el x47.2 0) (el x47.2 2))) (bAnd .u32 (el x47.2 1) (el x47.2 2)))))), el x47.2 0, el x47.2 1, el x47.2 2, IntKind.u32.wrap ((el x47.2 3) + v164), el x47.2 4, el x47.2 5, el x47.2 6]))))))))))) else some (.inr x47.2))
noncomputable def FSnap_Hasher_block_L24 (x24 : Int × (List Int)) : Option ((Int × (List Int)) ⊕ (List Int)) :=
  (bif decide (x24.1 < 64) then chk (inb (IntKind.i64.wrap (x24.1 - 15)) 64 && inb (IntKind.i64.wrap (x24.1 - 15)) x24.2.length) (chk (inb (IntKind.i64.wrap (x24.1 - 2)) 64 && inb (IntKind.i64.wrap (x24.1 - 2)) x24.2.length) (chk (inb (IntKind.i64.wrap (x24.1 - 16)) 64 && inb (IntKind.i64.wrap (x24.1 - 16)) x24.2.length) (chk (inb (IntKind.i64.wrap (x24.1 - 7)) 64 && inb (IntKind.i64.wrap (x24.1 - 7)) x24.2.length) ((FSnap_turn (el x24.2 (IntKind.i64.wrap (x24.1 - 15)).toNat) 7).bind (fun y363 => (FSnap_turn (el x24.2 (IntKind.i64.wrap (x24.1 - 15)).toNat) 18).bind (fun y371 => (FSnap_turn (el x24.2 (IntKind.i64.wrap (x24.1 - 2)).toNat) 17).bind (fun y379 => (FSnap_turn (el x24.2 (IntKind.i64.wrap (x24.1 - 2)).toNat) 19).bind (fun y387 => chk (inb x24.1 64 && inb x24.1 x24.2.length) (bind1 (x24.2.set x24.1.toNat (IntKind.u32.wrap ((IntKind.u32.wrap ((IntKind.u32.wrap ((el x24.2 (IntKind.i64.wrap (x24.1 - 16)).toNat) + (bXor .u32 (bXor .u32 y363 y371) (Int.fdiv (el x24.2 (IntKind.i64.wrap (x24.1 - 15)).toNat) 8)))) + (el x24.2 (IntKind.i64.wrap (x24.1 - 7)).toNat))) + (bXor .u32 (bXor .u32 y379 y387) (Int.fdiv (el x24.2 (IntKind.i64.wrap (x24.1 - 2)).toNat) 1024))))) (fun v401 => some (.inl (IntKind.i64.wrap (x24.1 + 1), v401)))))))))))) else some (.inr x24.2))
noncomputable def FSnap_Hasher_block_L9 (p_b : List Int) (x9 : Int × (List Int)) : Option ((Int × (List Int)) ⊕ (List Int)) :=
  (bif decide (x9.1 < 16) then chk (inb (IntKind.i64.wrap (4 * x9.1)) p_b.length) (chk (inb (IntKind.i64.wrap ((IntKind.i64.wrap (4 * x9.1)) + 1)) p_b.length) (chk (inb (IntKind.i64.wrap ((IntKind.i64.wrap (4 * x9.1)) + 2)) p_b.length) (chk (inb (IntKind.i64.wrap ((IntKind.i64.wrap (4 * x9.1)) + 3)) p_b.length) (chk (inb x9.1 64 && inb x9.1 x9.2.length) (bind1 (x9.2.set x9.1.toNat (bOr .u32 (bOr .u32 (bOr .u32 (IntKind.u32.wrap ((IntKind.u32.wrap (el p_b (IntKind.i64.wrap (4 * x9.1)).toNat)) * 16777216)) (IntKind.u32.wrap ((IntKind.u32.wrap (el p_b (IntKind.i64.wrap ((IntKind.i64.wrap (4 * x9.1)) + 1)).toNat)) * 65536))) (IntKind.u32.wrap ((IntKind.u32.wrap (el p_b (IntKind.i64.wrap ((IntKind.i64.wrap (4 * x9.1)) + 2)).toNat)) * 256))) (IntKind.u32.wrap (el p_b (IntKind.i64.wrap ((IntKind.i64.wrap (4 * x9.1)) + 3)).toNat)))) (fun v432 => some (.inl (IntKind.i64.wrap (x9.1 + 1), v432)))))))) else some (.inr x9.2))
noncomputable def FSnap_Hasher_block (p_h_made : Bool) (p_h_state : List Int) (p_h_n : Int) (p_b : List Int) : Option (List Int) :=
  (loop (FSnap_Hasher_block_L9 p_b) (0, List.replicate 64 0)).bind (fun y10 => (loop FSnap_Hasher_block_L24 (16, y10)).bind (fun y25 => (FSnap_rounds).bind (fun y200 => bind1 (fixl y200 64 0) (fun z37 => (loop (FSnap_Hasher_block_L47 y25 z37) (0, p_h_state)).bind (fun y48 => some ([IntKind.u32.wrap ((el p_h_state 0) + (el y48 0)), IntKind.u32.wrap ((el p_h_state 1) + (el y48 1)), IntKind.u32.wrap ((el p_h_state 2) + (el y48 2)), IntKind.u32.wrap ((el p_h_state 3) + (el y48 3)), IntKind.u32.wrap ((el p_h_state 4) + (el y48 4)), IntKind.u32.wrap ((el p_h_state 5) + (el y48 5)), IntKind.u32.wrap ((el p_h_state 6) + (el y48 6)), IntKind.u32.wrap ((el p_h_state 7) + (el y48 7))]))))))

-- (*quorum/snap.Hasher).Write
noncomputable def FSnap_Hasher_Write_L23 (p_h_made : Bool) (v15 : Int) (x23 : (List Int) × (List Int)) : Option (((List Int) × (List Int)) ⊕ ((List Int) × (List Int))) :=
  (bif decide (((x23.2.length : Nat) : Int) ≥ 64) then chk (inc 0 64 x23.2.length) ((FSnap_Hasher_block p_h_made x23.1 v15 (x23.2.take 64)).bind (fun y52 => chk (inc 0 64 x23.2.length) (some (.inl (y52, x23.2.drop 64))))) else some (.inr (x23.1, x23.2)))
noncomputable def FSnap_Hasher_Write (p_h_made : Bool) (p_h_state : List Int) (p_h_rest : List Int) (p_h_n : Int) (p_b : List Int) : Option ((List Int) × (List Int) × Int) :=
  (bif !p_h_made then some (p_h_state, p_h_rest, p_h_n) else chk (okl ((p_h_rest ++ p_b).length) 1) (bind1 (IntKind.u64.wrap (p_h_n + (IntKind.u64.wrap ((p_b.length : Nat) : Int)))) (fun v15 => (loop (FSnap_Hasher_Write_L23 p_h_made v15) (p_h_state, p_h_rest ++ p_b)).bind (fun y24 => chk (okl y24.2.length 1) (some (y24.1, y24.2, v15))))))

-- (*quorum/snap.Hasher).Sum
noncomputable def FSnap_Hasher_Sum_L74 (x74 : (List Int) × (List Int)) : Option (((List Int) × (List Int)) ⊕ (List Int)) :=
  (bif decide (((x74.1.length : Nat) : Int) > 0) then chk (inc 0 64 x74.1.length) ((FSnap_Hasher_block false x74.2 0 (x74.1.take 64)).bind (fun y202 => chk (inc 0 64 x74.1.length) (some (.inl (x74.1.drop 64, y202))))) else some (.inr x74.2))
noncomputable def FSnap_Hasher_Sum_L51 (p_h_n : Int) (x51 : (List Int) × Int) : Option (((List Int) × Int) ⊕ (List Int)) :=
  (bif decide (x51.2 ≥ 0) then chk (decide (0 ≤ (IntKind.u64.wrap x51.2))) (chk (okl ((x51.1 ++ [IntKind.u8.wrap (shrV .u64 (IntKind.u64.wrap (8 * p_h_n)) (IntKind.u64.wrap x51.2))]).length) 1) (bind1 (IntKind.u8.wrap (shrV .u64 (IntKind.u64.wrap (8 * p_h_n)) (IntKind.u64.wrap x51.2))) (fun v231 => bind1 (x51.1 ++ [IntKind.u8.wrap (shrV .u64 (IntKind.u64.wrap (8 * p_h_n)) (IntKind.u64.wrap x51.2))]) (fun v234 => some (.inl (v234, IntKind.i64.wrap (x51.2 - 8))))))) else some (.inr x51.1))
noncomputable def FSnap_Hasher_Sum_L36 (x36 : List Int) : Option ((List Int) ⊕ (List Int)) :=
  (bif ((Int.tmod ((x36.length : Nat) : Int) 64) != 56) then chk (okl ((x36 ++ [0]).length) 1) (some (.inl (x36 ++ [0]))) else some (.inr x36))
noncomputable def FSnap_Hasher_Sum (p_h_made : Bool) (p_h_state : List Int) (p_h_rest : List Int) (p_h_n : Int) : Option (List Int) :=
  (bif !p_h_made then some ([0, 0, 0, 0, 0, 0, 0, 0, 0, 0, 0, 0, 0, 0, 0, 0, 0, 0, 0, 0, 0, 0, 0, 0, 0, 0, 0, 0, 0, 0, 0, 0]) else chk (okl p_h_rest.length 1) (chk (okl ((p_h_rest ++ [128]).length) 1) ((loop FSnap_Hasher_Sum_L36 (p_h_rest ++ [128])).bind (fun y37 => (loop (FSnap_Hasher_Sum_L51 p_h_n) (y37, 56)).bind (fun y52 => (loop FSnap_Hasher_Sum_L74 (y52, p_h_state)).bind (fun y75 => some ([IntKind.u8.wrap (Int.fdiv (el y75 0) 16777216), IntKind.u8.wrap (Int.fdiv (el y75 0) 65536), IntKind.u8.wrap (Int.fdiv (el y75 0) 256), IntKind.u8.wrap (el y75 0), IntKind.u8.wrap (Int.fdiv (el y75 1) 16777216), IntKind.u8.wrap (Int.fdiv (el y75 1) 65536), IntKind.u8.wrap (Int.fdiv (el y75 1) 256), IntKind.u8.wrap (el y75 1), IntKind.u8.wrap (Int.fdiv (el y75 2) 16777216), IntKind.u8.wrap (Int.fdiv (el y75 2) 65536), IntKind.u8.wrap (Int.fdiv (el y75 2) 256), IntKind.u8.wrap (el y75 2), IntKind.u8.wrap (Int.fdiv (el y75 3) 16777216), IntKind.u8.wrap (Int.fdiv (el y75 3) 65536), IntKind.u8.wrap (Int.fdiv (el y75 3) 256), IntKind.u8.wrap (el y75 3), IntKind.u8.wrap (Int.fdiv (el y75 4) 16777216), IntKind.u8.wrap (Int.fdiv (el y75 4) 65536), IntKind.u8.wrap (Int.fdiv (el y75 4) 256), IntKind.u8.wrap (el y75 4), IntKind.u8.wrap (Int.fdiv (el y75 5) 16777216), IntKind.u8.wrap (Int.fdiv (el y75 5) 65536), IntKind.u8.wrap (Int.fdiv (el y75 5) 256), IntKind.u8.wrap (el y75 5), IntKind.u8.wrap (Int.fdiv (el y75 6) 16777216), IntKind.u8.wrap (Int.fdiv (el y75 6) 65536), IntKind.u8.wrap (Int.fdiv (el y75 6) 256), IntKind.u8.wrap (el y75 6), IntKind.u8.wrap (Int.fdiv (el y75 7) 16777216), IntKind.u8.wrap (Int.fdiv (el y75 7) 65536), IntKind.u8.wrap (Int.fdiv (el y75 7) 256), IntKind.u8.wrap (el y75 7)])))))))

-- quorum/snap.joined
noncomputable def FSnap_joined (parts : List Int) : Option (List Int) :=
  (FSnap_New).bind (fun y6 => (FSnap_Hasher_Write true y6 ([]) 0 parts).bind (fun y17 => (FSnap_Hasher_Sum true y17.1 y17.2.1 y17.2.2).bind (fun y27 => some y27)))

-- quorum/snap.Sum
noncomputable def FSnap_Sum (p_b : List Int) : Option (List Int) :=
  (FSnap_joined p_b).bind (fun y11 => some y11)

-- quorum/snap.rising
noncomputable def FSnap_rising : Option Unit :=
  some ()

-- quorum/snap.rising
noncomputable def FSnap_rising2 : Option Unit :=
  some ()

-- quorum/snap.journal
noncomputable def FSnap_journal : Option Unit :=
  some ()

-- quorum/snap.rising
noncomputable def FSnap_rising3 : Option Unit :=
  some ()

-- quorum/snap.deals
noncomputable def FSnap_deals : Option Unit :=
  (FSnap_rising3).bind (fun y8 => some ())

-- quorum/snap.rising
noncomputable def FSnap_rising4 : Option Unit :=
  some ()

-- quorum/snap.sessions
noncomputable def FSnap_sessions : Option Unit :=
  (FSnap_rising4).bind (fun y8 => some ())

-- quorum/snap.wrong
noncomputable def FSnap_wrong : Option Unit :=
  (FSnap_rising).bind (fun y34 => (FSnap_rising2).bind (fun y42 => (FSnap_journal).bind (fun y50 => (FSnap_deals).bind (fun y58 => (FSnap_sessions).bind (fun y66 => some ())))))

-- quorum/wire.NewWriter
noncomputable def FWire_NewWriter : Option Unit :=
  some ()

-- quorum/wire.high
noncomputable def FWire_high : Option Unit :=
  chk (inc 4 4 4 && okl 4 1) (chk (inb 3 4) (chk (inb 2 4) (chk (inb 1 4) (chk (inb 0 4) (some ())))))

-- (*quorum/wire.trouble).stuck
noncomputable def FWire_trouble_stuck : Option Unit :=
  some ()

-- (*quorum/wire.Writer).lay
noncomputable def FWire_Writer_lay : Option Unit :=
  (FWire_trouble_stuck).bind (fun y1 => some ())

-- (*quorum/wire.Writer).U32
noncomputable def FWire_Writer_U32 : Option Unit :=
  (FWire_high).bind (fun y1 => (FWire_Writer_lay).bind (fun y14 => some ()))

-- (*quorum/wire.trouble).stuck
noncomputable def FWire_trouble_stuck2 : Option Unit :=
  some ()

-- (*quorum/wire.Writer).lay
noncomputable def FWire_Writer_lay2 : Option Unit :=
  (FWire_trouble_stuck2).bind (fun y1 => some ())

-- (*quorum/wire.Writer).U8
noncomputable def FWire_Writer_U8 : Option Unit :=
  (FWire_Writer_lay2).bind (fun y11 => some ())

-- quorum/wire.number
noncomputable def FWire_number : Option Unit :=
  some ()

-- (*quorum/wire.trouble).stuck
noncomputable def FWire_trouble_stuck3 : Option Unit :=
  some ()

-- (*quorum/wire.Writer).lay
noncomputable def FWire_Writer_lay3 : Option Unit :=
  (FWire_trouble_stuck3).bind (fun y1 => some ())

-- (*quorum/wire.Writer).Num
noncomputable def FWire_Writer_Num : Option Unit :=
  (FWire_number).bind (fun y1 => (FWire_Writer_lay3).bind (fun y14 => some ()))

-- (*quorum/wire.trouble).stuck
noncomputable def FWire_trouble_stuck4 : Option Unit :=
  some ()

-- (*quorum/wire.Writer).lay
noncomputable def FWire_Writer_lay4 : Option Unit :=
  (FWire_trouble_stuck4).bind (fun y1 => some ())

-- (*quorum/wire.Writer).Num
noncomputable def FWire_Writer_Num2 : Option Unit :=
  (FWire_number).bind (fun y1 => (FWire_Writer_lay4).bind (fun y14 => some ()))

-- (*quorum/wire.trouble).stuck
noncomputable def FWire_trouble_stuck5 : Option Unit :=
  some ()

-- (*quorum/wire.Writer).lay
noncomputable def FWire_Writer_lay5 : Option Unit :=
  (FWire_trouble_stuck5).bind (fun y1 => some ())

-- (*quorum/wire.Writer).Num
noncomputable def FWire_Writer_Num3 : Option Unit :=
  (FWire_number).bind (fun y1 => (FWire_Writer_lay5).bind (fun y14 => some ()))

-- (*quorum/wire.trouble).stuck
noncomputable def FWire_trouble_stuck6 : Option Unit :=
  some ()

-- (*quorum/wire.Writer).lay
noncomputable def FWire_Writer_lay6 : Option Unit :=
  (FWire_trouble_stuck6).bind (fun y1 => some ())

-- (*quorum/wire.Writer).Num
noncomputable def FWire_Writer_Num4 : Option Unit :=
  (FWire_number).bind (fun y1 => (FWire_Writer_lay6).bind (fun y14 => some ()))

-- quorum/snap.Pack$1
noncomputable def FSnap_Pack_1 : Option Unit :=
  (FWire_Writer_Num).bind (fun y2 => (FWire_Writer_Num2).bind (fun y11 => (FWire_Writer_Num3).bind (fun y20 => (FWire_Writer_Num4).bind (fun y29 => some ()))))

-- (*quorum/wire.trouble).stuck
noncomputable def FWire_trouble_stuck7 : Option Unit :=
  some ()

-- (*quorum/wire.Writer).lay
noncomputable def FWire_Writer_lay7 : Option Unit :=
  (FWire_trouble_stuck7).bind (fun y1 => some ())

-- (*quorum/wire.Writer).Count
noncomputable def FWire_Writer_Count : Option Unit :=
  (FWire_number).bind (fun y1 => (FWire_Writer_lay7).bind (fun y14 => some ()))

-- (*quorum/wire.trouble).stuck
noncomputable def FWire_trouble_stuck8 : Option Unit :=
  some ()

-- (*quorum/wire.Writer).lay
noncomputable def FWire_Writer_lay8 : Option Unit :=
  (FWire_trouble_stuck8).bind (fun y1 => some ())

-- (*quorum/wire.Writer).Count
noncomputable def FWire_Writer_Count2 : Option Unit :=
  (FWire_number).bind (fun y1 => (FWire_Writer_lay8).bind (fun y14 => some ()))

-- (*quorum/wire.trouble).stuck
noncomputable def FWire_trouble_stuck9 : Option Unit :=
  some ()

-- (*quorum/wire.Writer).lay
noncomputable def FWire_Writer_lay9 : Option Unit :=
  (FWire_trouble_stuck9).bind (fun y1 => some ())

-- (*quorum/wire.Writer).Count
noncomputable def FWire_Writer_Count3 : Option Unit :=
  (FWire_number).bind (fun y1 => (FWire_Writer_lay9).bind (fun y14 => some ()))

-- (*quorum/wire.trouble).stuck
noncomputable def FWire_trouble_stuck10 : Option Unit :=
  some ()

-- (*quorum/wire.Writer).lay
noncomputable def FWire_Writer_lay10 : Option Unit :=
  (FWire_trouble_stuck10).bind (fun y1 => some ())

-- (*quorum/wire.Writer).Num
noncomputable def FWire_Writer_Num5 : Option Unit :=
  (FWire_number).bind (fun y1 => (FWire_Writer_lay10).bind (fun y14 => some ()))

-- quorum/snap.Pack$1
noncomputable def FSnap_Pack_12 : Option Unit :=
  (FWire_Writer_Num5).bind (fun y2 => some ())

-- (*quorum/wire.trouble).stuck
noncomputable def FWire_trouble_stuck11 : Option Unit :=
  some ()

-- (*quorum/wire.Writer).lay
noncomputable def FWire_Writer_lay11 : Option Unit :=
  (FWire_trouble_stuck11).bind (fun y1 => some ())

-- (*quorum/wire.Writer).Count
noncomputable def FWire_Writer_Count4 : Option Unit :=
  (FWire_number).bind (fun y1 => (FWire_Writer_lay11).bind (fun y14 => some ()))

-- (*quorum/wire.trouble).stuck
noncomputable def FWire_trouble_stuck12 : Option Unit :=
  some ()

-- (*quorum/wire.Writer).lay
noncomputable def FWire_Writer_lay12 : Option Unit :=
  (FWire_trouble_stuck12).bind (fun y1 => some ())

-- (*quorum/wire.Writer).Count
noncomputable def FWire_Writer_Count5 : Option Unit :=
  (FWire_number).bind (fun y1 => (FWire_Writer_lay12).bind (fun y14 => some ()))

-- (*quorum/wire.trouble).told
noncomputable def FWire_trouble_told : Option Unit :=
  some ()

-- quorum/wire.twin
noncomputable def FWire_twin : Option Unit :=
  chk (inc 15 15 15 && okl 15 1) (chk (inc 15 15 15) (some ()))

-- (*quorum/wire.Writer).Bytes
noncomputable def FWire_Writer_Bytes : Option Unit :=
  (FWire_trouble_told).bind (fun y1 => (FWire_twin).bind (fun y9 => some ()))

-- quorum/snap.Pack
noncomputable def FSnap_Pack : Option Unit :=
  (FSnap_wrong).bind (fun y6 => (FWire_NewWriter).bind (fun y14 => (FWire_Writer_U32).bind (fun y38 => (FWire_Writer_U8).bind (fun y46 => (FSnap_Pack_1).bind (fun y59 => (FWire_Writer_Count).bind (fun y67 => (FWire_Writer_Count2).bind (fun y77 => (FWire_Writer_Count3).bind (fun y87 => (FSnap_Pack_12).bind (fun y102 => (FWire_Writer_Count4).bind (fun y110 => (FWire_Writer_Count5).bind (fun y120 => (FWire_Writer_Bytes).bind (fun y130 => some ()))))))))))))

-- quorum/wire.NewReader
noncomputable def FWire_NewReader : Option Unit :=
  (FWire_twin).bind (fun y1 => some ())

-- (*quorum/wire.trouble).stuck
noncomputable def FWire_trouble_stuck13 : Option Unit :=
  some ()

-- (*quorum/wire.Reader).take
noncomputable def FWire_Reader_take : Option Unit :=
  (FWire_trouble_stuck13).bind (fun y1 => chk (inc 0 4 15) (some ()))

-- (*quorum/wire.Reader).sum
noncomputable def FWire_Reader_sum : Option Unit :=
  (FWire_Reader_take).bind (fun y1 => chk (inb 0 4) (chk (inb 1 4) (chk (inb 2 4) (chk (inb 3 4) (some ())))))

-- (*quorum/wire.Reader).U32
noncomputable def FWire_Reader_U32 : Option Unit :=
  (FWire_Reader_sum).bind (fun y1 => some ())

-- (*quorum/wire.trouble).told
noncomputable def FWire_trouble_told2 : Option Unit :=
  some ()

-- (*quorum/wire.Reader).Err
noncomputable def FWire_Reader_Err : Option Unit :=
  (FWire_trouble_told2).bind (fun y1 => some ())

-- (*quorum/wire.trouble).stuck
noncomputable def FWire_trouble_stuck14 : Option Unit :=
  some ()

-- (*quorum/wire.Reader).take
noncomputable def FWire_Reader_take2 : Option Unit :=
  (FWire_trouble_stuck14).bind (fun y1 => chk (inc 4 5 15) (some ()))

-- (*quorum/wire.Reader).sum
noncomputable def FWire_Reader_sum2 : Option Unit :=
  (FWire_Reader_take2).bind (fun y1 => chk (inb 0 1) (some ()))

-- (*quorum/wire.Reader).U8
noncomputable def FWire_Reader_U8 : Option Unit :=
  (FWire_Reader_sum2).bind (fun y1 => some ())

-- (*quorum/wire.trouble).told
noncomputable def FWire_trouble_told3 : Option Unit :=
  some ()

-- (*quorum/wire.Reader).Err
noncomputable def FWire_Reader_Err2 : Option Unit :=
  (FWire_trouble_told3).bind (fun y1 => some ())

-- (*quorum/wire.trouble).stuck
noncomputable def FWire_trouble_stuck15 : Option Unit :=
  some ()

-- (*quorum/wire.Reader).peek
noncomputable def FWire_Reader_peek : Option Unit :=
  chk (inc 0 5 15) (chk (inb 0 10) (some ()))

-- (*quorum/wire.Reader).Num
noncomputable def FWire_Reader_Num : Option Unit :=
  (FWire_trouble_stuck15).bind (fun y1 => (FWire_Reader_peek).bind (fun y9 => some ()))

-- (*quorum/wire.trouble).stuck
noncomputable def FWire_trouble_stuck16 : Option Unit :=
  some ()

-- (*quorum/wire.Reader).peek
noncomputable def FWire_Reader_peek2 : Option Unit :=
  chk (inc 0 6 15) (chk (inb 0 9) (some ()))

-- (*quorum/wire.Reader).Num
noncomputable def FWire_Reader_Num2 : Option Unit :=
  (FWire_trouble_stuck16).bind (fun y1 => (FWire_Reader_peek2).bind (fun y9 => some ()))

-- (*quorum/wire.trouble).stuck
noncomputable def FWire_trouble_stuck17 : Option Unit :=
  some ()

-- (*quorum/wire.Reader).peek
noncomputable def FWire_Reader_peek3 : Option Unit :=
  chk (inc 0 7 15) (chk (inb 0 8) (some ()))

-- (*quorum/wire.Reader).Num
noncomputable def FWire_Reader_Num3 : Option Unit :=
  (FWire_trouble_stuck17).bind (fun y1 => (FWire_Reader_peek3).bind (fun y9 => some ()))

-- (*quorum/wire.trouble).stuck
noncomputable def FWire_trouble_stuck18 : Option Unit :=
  some ()

-- (*quorum/wire.Reader).peek
noncomputable def FWire_Reader_peek4 : Option Unit :=
  chk (inc 0 8 15) (chk (inb 0 7) (some ()))

-- (*quorum/wire.Reader).Num
noncomputable def FWire_Reader_Num4 : Option Unit :=
  (FWire_trouble_stuck18).bind (fun y1 => (FWire_Reader_peek4).bind (fun y9 => some ()))

-- (*quorum/wire.trouble).stuck
noncomputable def FWire_trouble_stuck19 : Option Unit :=
  some ()

-- (*quorum/wire.Reader).peek
noncomputable def FWire_Reader_peek5 : Option Unit :=
  chk (inc 0 9 15) (chk (inb 0 6) (some ()))

-- (*quorum/wire.Reader).Num
noncomputable def FWire_Reader_Num5 : Option Unit :=
  (FWire_trouble_stuck19).bind (fun y1 => (FWire_Reader_peek5).bind (fun y9 => some ()))

-- (*quorum/wire.trouble).stuck
noncomputable def FWire_trouble_stuck20 : Option Unit :=
  some ()

-- (*quorum/wire.Reader).Count
noncomputable def FWire_Reader_Count : Option Unit :=
  (FWire_trouble_stuck19).bind (fun y1 => (FWire_Reader_Num5).bind (fun y9 => (FWire_trouble_stuck20).bind (fun y17 => some ())))

-- (*quorum/wire.Reader).peek
noncomputable def FWire_Reader_peek6 : Option Unit :=
  chk (inc 0 10 15) (chk (inb 0 5) (some ()))

-- (*quorum/wire.Reader).Num
noncomputable def FWire_Reader_Num6 : Option Unit :=
  (FWire_trouble_stuck20).bind (fun y1 => (FWire_Reader_peek6).bind (fun y9 => some ()))

-- (*quorum/wire.trouble).stuck
noncomputable def FWire_trouble_stuck21 : Option Unit :=
  some ()

-- (*quorum/wire.Reader).Count
noncomputable def FWire_Reader_Count2 : Option Unit :=
  (FWire_trouble_stuck20).bind (fun y1 => (FWire_Reader_Num6).bind (fun y9 => (FWire_trouble_stuck21).bind (fun y17 => some ())))

-- (*quorum/wire.Reader).peek
noncomputable def FWire_Reader_peek7 : Option Unit :=
  chk (inc 0 11 15) (chk (inb 0 4) (some ()))

-- (*quorum/wire.Reader).Num
noncomputable def FWire_Reader_Num7 : Option Unit :=
  (FWire_trouble_stuck21).bind (fun y1 => (FWire_Reader_peek7).bind (fun y9 => some ()))

-- (*quorum/wire.trouble).stuck
noncomputable def FWire_trouble_stuck22 : Option Unit :=
  some ()

-- (*quorum/wire.Reader).Count
noncomputable def FWire_Reader_Count3 : Option Unit :=
  (FWire_trouble_stuck21).bind (fun y1 => (FWire_Reader_Num7).bind (fun y9 => (FWire_trouble_stuck22).bind (fun y17 => some ())))

-- quorum/snap.readBook
noncomputable def FSnap_readBook : Option Unit :=
  (FWire_Reader_Count).bind (fun y1 => (FWire_Reader_Count2).bind (fun y11 => (FWire_Reader_Count3).bind (fun y21 => some ())))

-- (*quorum/wire.Reader).peek
noncomputable def FWire_Reader_peek8 : Option Unit :=
  chk (inc 0 12 15) (chk (inb 0 3) (some ()))

-- (*quorum/wire.Reader).Num
noncomputable def FWire_Reader_Num8 : Option Unit :=
  (FWire_trouble_stuck22).bind (fun y1 => (FWire_Reader_peek8).bind (fun y9 => some ()))

-- (*quorum/wire.trouble).stuck
noncomputable def FWire_trouble_stuck23 : Option Unit :=
  some ()

-- (*quorum/wire.Reader).peek
noncomputable def FWire_Reader_peek9 : Option Unit :=
  chk (inc 0 13 15) (chk (inb 0 2) (some ()))

-- (*quorum/wire.Reader).Num
noncomputable def FWire_Reader_Num9 : Option Unit :=
  (FWire_trouble_stuck23).bind (fun y1 => (FWire_Reader_peek9).bind (fun y9 => some ()))

-- (*quorum/wire.trouble).stuck
noncomputable def FWire_trouble_stuck24 : Option Unit :=
  some ()

-- (*quorum/wire.Reader).Count
noncomputable def FWire_Reader_Count4 : Option Unit :=
  (FWire_trouble_stuck23).bind (fun y1 => (FWire_Reader_Num9).bind (fun y9 => (FWire_trouble_stuck24).bind (fun y17 => some ())))

-- quorum/snap.readDeals
noncomputable def FSnap_readDeals : Option Unit :=
  (FWire_Reader_Count4).bind (fun y1 => some ())

-- (*quorum/wire.Reader).peek
noncomputable def FWire_Reader_peek10 : Option Unit :=
  chk (inc 0 14 15) (chk (inb 0 1) (some ()))

-- (*quorum/wire.Reader).Num
noncomputable def FWire_Reader_Num10 : Option Unit :=
  (FWire_trouble_stuck24).bind (fun y1 => (FWire_Reader_peek10).bind (fun y9 => some ()))

-- (*quorum/wire.trouble).stuck
noncomputable def FWire_trouble_stuck25 : Option Unit :=
  some ()

-- (*quorum/wire.Reader).Count
noncomputable def FWire_Reader_Count5 : Option Unit :=
  (FWire_trouble_stuck24).bind (fun y1 => (FWire_Reader_Num10).bind (fun y9 => (FWire_trouble_stuck25).bind (fun y17 => some ())))

-- (*quorum/wire.trouble).told
noncomputable def FWire_trouble_told4 : Option Unit :=
  some ()

-- (*quorum/wire.Reader).Err
noncomputable def FWire_Reader_Err3 : Option Unit :=
  (FWire_trouble_told4).bind (fun y1 => some ())

-- (*quorum/wire.Reader).Left
noncomputable def FWire_Reader_Left : Option Unit :=
  some ()

-- (*quorum/wire.Reader).End
noncomputable def FWire_Reader_End : Option Unit :=
  (FWire_Reader_Err3).bind (fun y1 => (FWire_Reader_Left).bind (fun y9 => some ()))

-- quorum/snap.Unpack
noncomputable def FSnap_Unpack : Option Unit :=
  (FWire_NewReader).bind (fun y6 => (FWire_Reader_U32).bind (fun y14 => (FWire_Reader_Err).bind (fun y22 => (FWire_Reader_U8).bind (fun y30 => (FWire_Reader_Err2).bind (fun y38 => (FWire_Reader_Num).bind (fun y46 => (FWire_Reader_Num2).bind (fun y54 => (FWire_Reader_Num3).bind (fun y70 => (FWire_Reader_Num4).bind (fun y81 => (FSnap_readBook).bind (fun y92 => (FWire_Reader_Num8).bind (fun y100 => (FSnap_readDeals).bind (fun y111 => (FWire_Reader_Count5).bind (fun y122 => (FWire_Reader_End).bind (fun y132 => (FSnap_wrong).bind (fun y140 => some ())))))))))))))))

-- quorum/quorumlaw6.known
noncomputable def FQuorumlaw6_known : Option Bool :=
  (FSnap_Sum [97, 98, 99]).bind (fun y10 => (FSnap_Sum ([])).bind (fun y26 => (bif ((el y10 0) != 186) then some false else (bif ((el y10 1) != 120) then some false else (bif ((el y10 31) != 173) then some false else (bif ((el y26 0) != 227) then some false else (bif ((el y26 1) != 176) then some false else (bif ((el y26 31) != 85) then some false else (FSnap_Pack).bind (fun y60 => chk (inb 0 15) (chk (inb 4 15) (chk (inb 14 15) ((FSnap_Unpack).bind (fun y80 => some true)))))))))))))

-- quorum/quorumlaw6.SnapPieces
noncomputable def FQuorumlaw6_SnapPieces (p_b : List Int) (p_i : Int) (j : Int) : Option Bool :=
  (FQuorumlaw6_known).bind (fun y1 => (bif !y1 then some false else (bif decide (((p_b.length : Nat) : Int) > 4000) then some true else (bif decide (p_i < 0) then (bif decide (j < 0) then (FSnap_New).bind (fun y19 => chk (inc 0 0 p_b.length) ((FSnap_Hasher_Write true y19 ([]) 0 (p_b.take 0)).bind (fun y30 => chk (inc 0 ((p_b.length : Nat) : Int) p_b.length) ((FSnap_Hasher_Write true y30.1 y30.2.1 y30.2.2 ((p_b.drop 0).take (((p_b.length : Nat) : Int).toNat - 0))).bind (fun y40 => (FSnap_Hasher_Sum true y40.1 y40.2.1 y40.2.2).bind (fun y48 => (FSnap_Hasher_Write true y40.1 y40.2.1 y40.2.2 ([])).bind (fun y56 => chk (inc 0 ((p_b.length : Nat) : Int) p_b.length) ((FSnap_Hasher_Write true y56.1 y56.2.1 y56.2.2 (p_b.drop ((p_b.length : Nat) : Int).toNat)).bind (fun y66 => (FSnap_Hasher_Sum true y66.1 y66.2.1 y66.2.2).bind (fun y74 => (FSnap_Sum p_b).bind (fun y82 => some (eqA 32 0 y74 y82)))))))))))) else ((bif decide (j > ((p_b.length : Nat) : Int)) then some ((p_b.length : Nat) : Int) else some j)).bind (fun y91 => (FSnap_New).bind (fun y103 => chk (inc 0 0 p_b.length) ((FSnap_Hasher_Write true y103 ([]) 0 (p_b.take 0)).bind (fun y113 => chk (inc 0 y91 p_b.length) ((FSnap_Hasher_Write true y113.1 y113.2.1 y113.2.2 ((p_b.drop 0).take (y91.toNat - 0))).bind (fun y123 => (FSnap_Hasher_Sum true y123.1 y123.2.1 y123.2.2).bind (fun y131 => (FSnap_Hasher_Write true y123.1 y123.2.1 y123.2.2 ([])).bind (fun y139 => chk (inc 0 y91 p_b.length) ((FSnap_Hasher_Write true y139.1 y139.2.1 y139.2.2 (p_b.drop y91.toNat)).bind (fun y149 => (FSnap_Hasher_Sum true y149.1 y149.2.1 y149.2.2).bind (fun y157 => (FSnap_Sum p_b).bind (fun y165 => some (eqA 32 0 y157 y165)))))))))))))) else ((bif decide (p_i > ((p_b.length : Nat) : Int)) then some 0 else some p_i)).bind (fun y177 => (bif decide (j < y177) then (FSnap_New).bind (fun y191 => chk (inc 0 y177 p_b.length) ((FSnap_Hasher_Write true y191 ([]) 0 (p_b.take y177.toNat)).bind (fun y202 => chk (inc y177 ((p_b.length : Nat) : Int) p_b.length) ((FSnap_Hasher_Write true y202.1 y202.2.1 y202.2.2 ((p_b.drop y177.toNat).take (((p_b.length : Nat) : Int).toNat - y177.toNat))).bind (fun y212 => (FSnap_Hasher_Sum true y212.1 y212.2.1 y212.2.2).bind (fun y220 => (FSnap_Hasher_Write true y212.1 y212.2.1 y212.2.2 ([])).bind (fun y228 => chk (inc 0 ((p_b.length : Nat) : Int) p_b.length) ((FSnap_Hasher_Write true y228.1 y228.2.1 y228.2.2 (p_b.drop ((p_b.length : Nat) : Int).toNat)).bind (fun y238 => (FSnap_Hasher_Sum true y238.1 y238.2.1 y238.2.2).bind (fun y246 => (FSnap_Sum p_b).bind (fun y254 => some (eqA 32 0 y246 y254)))))))))))) else ((bif decide (j > ((p_b.length : Nat) : Int)) then some ((p_b.length : Nat) : Int) else some j)).bind (fun y263 => (FSnap_New).bind (fun y275 => chk (inc 0 y177 p_b.length) ((FSnap_Hasher_Write true y275 ([]) 0 (p_b.take y177.toNat)).bind (fun y285 => chk (inc y177 y263 p_b.length) ((FSnap_Hasher_Write true y285.1 y285.2.1 y285.2.2 ((p_b.drop y177.toNat).take (y263.toNat - y177.toNat))).bind (fun y295 => (FSnap_Hasher_Sum true y295.1 y295.2.1 y295.2.2).bind (fun y303 => (FSnap_Hasher_Write true y295.1 y295.2.1 y295.2.2 ([])).bind (fun y311 => chk (inc 0 y263 p_b.length) ((FSnap_Hasher_Write true y311.1 y311.2.1 y311.2.2 (p_b.drop y263.toNat)).bind (fun y321 => (FSnap_Hasher_Sum true y321.1 y321.2.1 y321.2.2).bind (fun y329 => (FSnap_Sum p_b).bind (fun y337 => some (eqA 32 0 y329 y337)))))))))))))))))))
end Go.Proofs.YtfmifminaldmhaaDoor
