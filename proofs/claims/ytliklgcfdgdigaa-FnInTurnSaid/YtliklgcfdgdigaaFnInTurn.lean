/- The law FnInTurn (the pages of a drawn chip's block are written in turn, and none twice) holds for every argument: the given statement FnInTurnSaid is proved. Condition: none. -/
import Derived.Test.YtliklgcfdgdigaaFnInTurnX1
import Derived.Test.YtliklgcfdgdigaaAwp4
import Derived.Test.YtliklgcfdgdigaaRows
import Derived.OpenShut
import Derived.KernelRfl
namespace Go.Proofs.Ytliklgcfdgdigaa.Awp
open Go.Proofs
set_option linter.unusedSimpArgs false
set_option linter.unusedVariables false
set_option maxRecDepth 100000
set_option maxHeartbeats 20000000

/-! ### drawn chips -/
def badB (x : Block) : Block := { pages := x.pages, wear := x.wear, bad := true }
theorem okB_bad {x : Block} (h : okB x) : okB (badB x) := h
theorem s_l10Draw (v : Value) (b : Bytes) (i : Nat) (h : Int) (hl : b.length < 2 ^ 48) (hi : i ≤ b.length) : ∃ (c : Chip) (i' : Nat) (h' : Int), okC c ∧ i' ≤ b.length ∧
    Spec Try.prog 147 [cur v b i h] c.o [cur v b i' h'] := by
  have key : ∃ ret outs, (∃ (c : Chip) (i' : Nat) (h' : Int), okC c ∧ i' ≤ b.length ∧ ret = c.o ∧ outs = [cur v b i' h']) ∧ Spec Try.prog 147 [cur v b i h] ret outs := by
    obtain ⟨x, i1, h1, hx, hi1, k1⟩ := s_l1Below v b i h 3 hl hi (by decide)
    obtain ⟨y, i2, h2, hy, hi2, k2⟩ := s_l1Below v b i1 h1 20 hl hi1 (by decide)
    rw [below, if_pos (by decide)] at hx hy
    unfold cur at *
    refine specEx_C hmx p_S_l10Draw [(148, [.l, .b], []), (154, [.l, .b], []), (153, [.l], [])] 61 [true] ⟨Nat.le_of_ble_eq_true rfl, Nat.le_of_ble_eq_true rfl⟩ rfl ?_
    intro w hP hmd hks hQ
    unfold c_S_l10Draw
    simp +decide (maxSteps := 20000000) (disch := omega) only [↓SBK, ↓SBK2, SAU, SGs, SD, S1, S2, S3, SE, SC, SO, ST, SF, SK, bytes_len, bytes_get, Nat.reduceEqDiff, Nat.reduceAdd, Nat.reduceMul, Nat.reduceSub, ↓reduceIte, Int.reduceNeg, Int.reduceToNat, hmd, hks, Bool.beq_eq_decide_eq, Int.natCast_zero, Int.add_zero, ge_iff_le, gt_iff_lt, Option.isNone_none, Option.isNone_some, List.nil_append, List.append_nil, Bool.and_true, Bool.and_self, SB, Int.reducePow, hQ]
    (first | refine call_i hP (k1) (.inl ⟨rfl, fun _ hx => hx⟩) ?_ | refine callH_i hP (k1) (.inl ⟨rfl, fun _ hx => hx⟩) ?_)
    simp +decide (maxSteps := 20000000) (disch := omega) only [↓SBK, ↓SBK2, SAU, SGs, SD, S1, S2, S3, SE, SC, SO, ST, SF, SK, bytes_len, bytes_get, Nat.reduceEqDiff, Nat.reduceAdd, Nat.reduceMul, Nat.reduceSub, ↓reduceIte, Int.reduceNeg, Int.reduceToNat, hmd, hks, Bool.beq_eq_decide_eq, Int.natCast_zero, Int.add_zero, ge_iff_le, gt_iff_lt, Option.isNone_none, Option.isNone_some, List.nil_append, List.append_nil, Bool.and_true, Bool.and_self, SB, Int.reducePow, hQ]
    (first | refine call_i hP (sS_ChipNew (3 + x)) (.inl ⟨rfl, fun _ hx => nomatch hx⟩) ?_ | refine callH_i hP (sS_ChipNew (3 + x)) (.inl ⟨rfl, fun _ hx => nomatch hx⟩) ?_)
    simp +decide (maxSteps := 20000000) (disch := omega) only [↓SBK, ↓SBK2, SAU, SGs, SD, S1, S2, S3, SE, SC, SO, ST, SF, SK, bytes_len, bytes_get, Nat.reduceEqDiff, Nat.reduceAdd, Nat.reduceMul, Nat.reduceSub, ↓reduceIte, Int.reduceNeg, Int.reduceToNat, hmd, hks, Bool.beq_eq_decide_eq, Int.natCast_zero, Int.add_zero, ge_iff_le, gt_iff_lt, Option.isNone_none, Option.isNone_some, List.nil_append, List.append_nil, Bool.and_true, Bool.and_self, SB, Int.reducePow, hQ]
    (first | refine call_i hP (k2) (.inl ⟨rfl, fun _ hx => hx⟩) ?_ | refine callH_i hP (k2) (.inl ⟨rfl, fun _ hx => hx⟩) ?_)
    simp +decide (maxSteps := 20000000) (disch := omega) only [↓SBK, ↓SBK2, SAU, SGs, SD, S1, S2, S3, SE, SC, SO, ST, SF, SK, bytes_len, bytes_get, Nat.reduceEqDiff, Nat.reduceAdd, Nat.reduceMul, Nat.reduceSub, ↓reduceIte, Int.reduceNeg, Int.reduceToNat, hmd, hks, Bool.beq_eq_decide_eq, Int.natCast_zero, Int.add_zero, ge_iff_le, gt_iff_lt, Option.isNone_none, Option.isNone_some, List.nil_append, List.append_nil, Bool.and_true, Bool.and_self, SB, Int.reducePow, hQ]
    refine LH_D [5] ?_
    simp +decide (maxSteps := 20000000) (disch := omega) only [↓SBK, ↓SBK2, SAU, SGs, SD, S1, S2, S3, SE, SC, SO, ST, SF, SK, bytes_len, bytes_get, Nat.reduceEqDiff, Nat.reduceAdd, Nat.reduceMul, Nat.reduceSub, ↓reduceIte, Int.reduceNeg, Int.reduceToNat, hmd, hks, Bool.beq_eq_decide_eq, Int.natCast_zero, Int.add_zero, ge_iff_le, gt_iff_lt, Option.isNone_none, Option.isNone_some, List.nil_append, List.append_nil, Bool.and_true, Bool.and_self, SB, Int.reducePow, hQ]
    refine loop_d [5] (fun s : Nat × Chip × Nat × Int => [(1000, .box [.extv v 1 (bytesR b), .int .i64 (s.2.2.1 : Nat), .int .i64 s.2.2.2]), (5003, .box [.own 3 (s.2.1.blocks.map Block.row)]), (4, .int .i64 (s.1 : Nat))]) (fun s => s.1 ≤ 20 ∧ okC s.2.1 ∧ s.2.2.1 ≤ b.length) (fun s => s.1) ((y, chipNew (3 + x), i2, h2)) hP hmd hks (rfl) (⟨by simp only; omega, okC_new (by omega), hi2⟩) ?_
    rintro ⟨m, c, j, g⟩ ⟨g1, g2, g3⟩ w1 hP1 hmd1 hks1 hQ1
    simp +decide (maxSteps := 20000000) (disch := omega) only [↓SBK, ↓SBK2, SAU, SGs, SD, S1, S2, S3, SE, SC, SO, ST, SF, SK, bytes_len, bytes_get, Nat.reduceEqDiff, Nat.reduceAdd, Nat.reduceMul, Nat.reduceSub, ↓reduceIte, Int.reduceNeg, Int.reduceToNat, hmd, hks, Bool.beq_eq_decide_eq, Int.natCast_zero, Int.add_zero, ge_iff_le, gt_iff_lt, Option.isNone_none, Option.isNone_some, List.nil_append, List.append_nil, Bool.and_true, Bool.and_self, SB, Int.reducePow, hQ, hmd1, hks1, hQ1]
    simp only at g1 g2 g3
    (first | with_reducible refine if_d _ ?_ ?_ | refine if_i _ ?_ ?_) <;> intro e1
    · have hs := okC_sz g2
      have hf := fine_of_sz (c := c) (by omega)
      have hlen := chip_l (c := c) (n := 2 ^ 40) (by omega)
      obtain ⟨n, j1, q1, hn, hj1, l1⟩ := s_l1Below v b j g c.blocks.length hl g3 (by omega)
      obtain ⟨t, j2, q2, hj2, l2⟩ := s_l1Once v b j1 q1 6 hl hj1 (by decide)
      unfold cur at l1 l2
      simp +decide (maxSteps := 20000000) (disch := omega) only [↓SBK, ↓SBK2, SAU, SGs, SD, S1, S2, S3, SE, SC, SO, ST, SF, SK, bytes_len, bytes_get, Nat.reduceEqDiff, Nat.reduceAdd, Nat.reduceMul, Nat.reduceSub, ↓reduceIte, Int.reduceNeg, Int.reduceToNat, hmd, hks, Bool.beq_eq_decide_eq, Int.natCast_zero, Int.add_zero, ge_iff_le, gt_iff_lt, Option.isNone_none, Option.isNone_some, List.nil_append, List.append_nil, Bool.and_true, Bool.and_self, SB, Int.reducePow, hQ, hmd1, hks1, hQ1]
      (first | refine call_i hP1 (l1) (.inl ⟨rfl, fun _ hx => hx⟩) ?_ | refine callH_i hP1 (l1) (.inl ⟨rfl, fun _ hx => hx⟩) ?_)
      simp +decide (maxSteps := 20000000) (disch := omega) only [↓SBK, ↓SBK2, SAU, SGs, SD, S1, S2, S3, SE, SC, SO, ST, SF, SK, bytes_len, bytes_get, Nat.reduceEqDiff, Nat.reduceAdd, Nat.reduceMul, Nat.reduceSub, ↓reduceIte, Int.reduceNeg, Int.reduceToNat, hmd, hks, Bool.beq_eq_decide_eq, Int.natCast_zero, Int.add_zero, ge_iff_le, gt_iff_lt, Option.isNone_none, Option.isNone_some, List.nil_append, List.append_nil, Bool.and_true, Bool.and_self, SB, Int.reducePow, hQ, hmd1, hks1, hQ1]
      (first | refine call_i hP1 (l2) (.inl ⟨rfl, fun _ hx => hx⟩) ?_ | refine callH_i hP1 (l2) (.inl ⟨rfl, fun _ hx => hx⟩) ?_)
      simp +decide (maxSteps := 20000000) (disch := omega) only [↓SBK, ↓SBK2, SAU, SGs, SD, S1, S2, S3, SE, SC, SO, ST, SF, SK, bytes_len, bytes_get, Nat.reduceEqDiff, Nat.reduceAdd, Nat.reduceMul, Nat.reduceSub, ↓reduceIte, Int.reduceNeg, Int.reduceToNat, hmd, hks, Bool.beq_eq_decide_eq, Int.natCast_zero, Int.add_zero, ge_iff_le, gt_iff_lt, Option.isNone_none, Option.isNone_some, List.nil_append, List.append_nil, Bool.and_true, Bool.and_self, SB, Int.reducePow, hQ, hmd1, hks1, hQ1]
      cases t with
      | true =>
        simp +decide (maxSteps := 20000000) (disch := omega) only [↓SBK, ↓SBK2, SAU, SGs, SD, S1, S2, S3, SE, SC, SO, ST, SF, SK, bytes_len, bytes_get, Nat.reduceEqDiff, Nat.reduceAdd, Nat.reduceMul, Nat.reduceSub, ↓reduceIte, Int.reduceNeg, Int.reduceToNat, hmd, hks, Bool.beq_eq_decide_eq, Int.natCast_zero, Int.add_zero, ge_iff_le, gt_iff_lt, Option.isNone_none, Option.isNone_some, List.nil_append, List.append_nil, Bool.and_true, Bool.and_self, SB, Int.reducePow, hQ, hmd1, hks1, hQ1]
        (first | refine call_i hP1 (sS_Erase c n hf (by omega)) (.inl ⟨rfl, fun _ hx => nomatch hx⟩) ?_ | refine callH_i hP1 (sS_Erase c n hf (by omega)) (.inl ⟨rfl, fun _ hx => nomatch hx⟩) ?_)
        simp +decide (maxSteps := 20000000) (disch := omega) only [↓SBK, ↓SBK2, SAU, SGs, SD, S1, S2, S3, SE, SC, SO, ST, SF, SK, bytes_len, bytes_get, Nat.reduceEqDiff, Nat.reduceAdd, Nat.reduceMul, Nat.reduceSub, ↓reduceIte, Int.reduceNeg, Int.reduceToNat, hmd, hks, Bool.beq_eq_decide_eq, Int.natCast_zero, Int.add_zero, ge_iff_le, gt_iff_lt, Option.isNone_none, Option.isNone_some, List.nil_append, List.append_nil, Bool.and_true, Bool.and_self, SB, Int.reducePow, hQ, hmd1, hks1, hQ1]
        exact ⟨(m - 1, eraseC c n, j2, q2), by simp only; rw [show ((m : Nat) : Int) - 1 = ((m - 1 : Nat) : Int) by omega], ⟨by simp only; omega, okC_eraseC _ g2, hj2⟩, by simp only; omega⟩
      | false =>
        obtain ⟨z, j3, q3, hz, hj3, l3⟩ := s_l1Some v b j2 q2 hl hj2
        unfold cur at l3
        simp +decide (maxSteps := 20000000) (disch := omega) only [↓SBK, ↓SBK2, SAU, SGs, SD, S1, S2, S3, SE, SC, SO, ST, SF, SK, bytes_len, bytes_get, Nat.reduceEqDiff, Nat.reduceAdd, Nat.reduceMul, Nat.reduceSub, ↓reduceIte, Int.reduceNeg, Int.reduceToNat, hmd, hks, Bool.beq_eq_decide_eq, Int.natCast_zero, Int.add_zero, ge_iff_le, gt_iff_lt, Option.isNone_none, Option.isNone_some, List.nil_append, List.append_nil, Bool.and_true, Bool.and_self, SB, Int.reducePow, hQ, hmd1, hks1, hQ1]
        (first | refine call_i hP1 (l3) (.inl ⟨rfl, fun _ hx => hx⟩) ?_ | refine callH_i hP1 (l3) (.inl ⟨rfl, fun _ hx => hx⟩) ?_)
        simp +decide (maxSteps := 20000000) (disch := omega) only [↓SBK, ↓SBK2, SAU, SGs, SD, S1, S2, S3, SE, SC, SO, ST, SF, SK, bytes_len, bytes_get, Nat.reduceEqDiff, Nat.reduceAdd, Nat.reduceMul, Nat.reduceSub, ↓reduceIte, Int.reduceNeg, Int.reduceToNat, hmd, hks, Bool.beq_eq_decide_eq, Int.natCast_zero, Int.add_zero, ge_iff_le, gt_iff_lt, Option.isNone_none, Option.isNone_some, List.nil_append, List.append_nil, Bool.and_true, Bool.and_self, SB, Int.reducePow, hQ, hmd1, hks1, hQ1]
        (first | refine call_i hP1 (sS_Program c n z hf (by omega) (by omega)) (.inl ⟨rfl, fun _ hx => nomatch hx⟩) ?_ | refine callH_i hP1 (sS_Program c n z hf (by omega) (by omega)) (.inl ⟨rfl, fun _ hx => nomatch hx⟩) ?_)
        simp +decide (maxSteps := 20000000) (disch := omega) only [↓SBK, ↓SBK2, SAU, SGs, SD, S1, S2, S3, SE, SC, SO, ST, SF, SK, bytes_len, bytes_get, Nat.reduceEqDiff, Nat.reduceAdd, Nat.reduceMul, Nat.reduceSub, ↓reduceIte, Int.reduceNeg, Int.reduceToNat, hmd, hks, Bool.beq_eq_decide_eq, Int.natCast_zero, Int.add_zero, ge_iff_le, gt_iff_lt, Option.isNone_none, Option.isNone_some, List.nil_append, List.append_nil, Bool.and_true, Bool.and_self, SB, Int.reducePow, hQ, hmd1, hks1, hQ1]
        exact ⟨(m - 1, progC c n z, j3, q3), by simp only; rw [show ((m : Nat) : Int) - 1 = ((m - 1 : Nat) : Int) by omega], ⟨by simp only; omega, okC_progC _ _ g2, hj3⟩, by simp only; omega⟩
    · have hs := okC_sz g2
      have hlen := chip_l (c := c) (n := 2 ^ 40) (by omega)
      have hl3 := (inR_iff _ _ _).1 g2.2
      obtain ⟨t, j2, q2, hj2, l2⟩ := s_l1Once v b j g 3 hl g3 (by decide)
      unfold cur at l2
      simp +decide (maxSteps := 20000000) (disch := omega) only [↓SBK, ↓SBK2, SAU, SGs, SD, S1, S2, S3, SE, SC, SO, ST, SF, SK, bytes_len, bytes_get, Nat.reduceEqDiff, Nat.reduceAdd, Nat.reduceMul, Nat.reduceSub, ↓reduceIte, Int.reduceNeg, Int.reduceToNat, hmd, hks, Bool.beq_eq_decide_eq, Int.natCast_zero, Int.add_zero, ge_iff_le, gt_iff_lt, Option.isNone_none, Option.isNone_some, List.nil_append, List.append_nil, Bool.and_true, Bool.and_self, SB, Int.reducePow, hQ, hmd1, hks1, hQ1]
      (first | refine call_i hP (l2) (.inl ⟨rfl, fun _ hx => hx⟩) ?_ | refine callH_i hP (l2) (.inl ⟨rfl, fun _ hx => hx⟩) ?_)
      simp +decide (maxSteps := 20000000) (disch := omega) only [↓SBK, ↓SBK2, SAU, SGs, SD, S1, S2, S3, SE, SC, SO, ST, SF, SK, bytes_len, bytes_get, Nat.reduceEqDiff, Nat.reduceAdd, Nat.reduceMul, Nat.reduceSub, ↓reduceIte, Int.reduceNeg, Int.reduceToNat, hmd, hks, Bool.beq_eq_decide_eq, Int.natCast_zero, Int.add_zero, ge_iff_le, gt_iff_lt, Option.isNone_none, Option.isNone_some, List.nil_append, List.append_nil, Bool.and_true, Bool.and_self, SB, Int.reducePow, hQ]
      cases t with
      | false =>
        simp +decide (maxSteps := 20000000) (disch := omega) only [↓SBK, ↓SBK2, SAU, SGs, SD, S1, S2, S3, SE, SC, SO, ST, SF, SK, bytes_len, bytes_get, Nat.reduceEqDiff, Nat.reduceAdd, Nat.reduceMul, Nat.reduceSub, ↓reduceIte, Int.reduceNeg, Int.reduceToNat, hmd, hks, Bool.beq_eq_decide_eq, Int.natCast_zero, Int.add_zero, ge_iff_le, gt_iff_lt, Option.isNone_none, Option.isNone_some, List.nil_append, List.append_nil, Bool.and_true, Bool.and_self, SB, Int.reducePow, hQ]
        exact ⟨c, j2, q2, g2, hj2, rfl, rfl⟩
      | true =>
        obtain ⟨n, j1, q1, hn, hj1, l1⟩ := s_l1Below v b j2 q2 c.blocks.length hl hj2 (by omega)
        rw [below, if_pos (by omega)] at hn
        unfold cur at l1
        simp +decide (maxSteps := 20000000) (disch := omega) only [↓SBK, ↓SBK2, SAU, SGs, SD, S1, S2, S3, SE, SC, SO, ST, SF, SK, bytes_len, bytes_get, Nat.reduceEqDiff, Nat.reduceAdd, Nat.reduceMul, Nat.reduceSub, ↓reduceIte, Int.reduceNeg, Int.reduceToNat, hmd, hks, Bool.beq_eq_decide_eq, Int.natCast_zero, Int.add_zero, ge_iff_le, gt_iff_lt, Option.isNone_none, Option.isNone_some, List.nil_append, List.append_nil, Bool.and_true, Bool.and_self, SB, Int.reducePow, hQ]
        (first | refine call_i hP (l1) (.inl ⟨rfl, fun _ hx => hx⟩) ?_ | refine callH_i hP (l1) (.inl ⟨rfl, fun _ hx => hx⟩) ?_)
        simp +decide (maxSteps := 20000000) (disch := omega) only [↓SBK, ↓SBK2, SAU, SGs, SD, S1, S2, S3, SE, SC, SO, ST, SF, SK, bytes_len, bytes_get, Nat.reduceEqDiff, Nat.reduceAdd, Nat.reduceMul, Nat.reduceSub, ↓reduceIte, Int.reduceNeg, Int.reduceToNat, hmd, hks, Bool.beq_eq_decide_eq, Int.natCast_zero, Int.add_zero, ge_iff_le, gt_iff_lt, Option.isNone_none, Option.isNone_some, List.nil_append, List.append_nil, Bool.and_true, Bool.and_self, SB, Int.reducePow, hQ, getE hn]
        have e : ((c.blocks.map Block.row).modify n fun x => List.take 2 x ++ [TV.bool true] ++ List.drop 3 x) = (c.blocks.modify n badB).map Block.row := mod_map Block.row _ badB c.blocks n (by omega) rfl
        exact ⟨{ blocks := c.blocks.modify n badB }, j1, q1, okC_modify g2 (by omega) (okB_bad (g2.1 _ (List.getElem_mem (by omega)))), hj1, by rw [e], rfl⟩
  obtain ⟨_, _, ⟨c, i', h', hc, hi', rfl, rfl⟩, hS⟩ := key
  exact ⟨c, i', h', hc, hi', hS⟩
end Go.Proofs.Ytliklgcfdgdigaa.Awp

namespace Go.Proofs.Ytliklgcfdgdigaa.Awp
open Go.Proofs
set_option linter.unusedSimpArgs false
set_option linter.unusedVariables false
set_option maxRecDepth 100000
set_option maxHeartbeats 20000000

theorem s_DrawChip (v : Value) (b : Bytes) (hl : b.length < 2 ^ 48) : ∃ (c : Chip) (n : Nat), okC c ∧ n < c.blocks.length ∧ Spec Try.prog 77 [.extv v 1 (bytesR b)] (.tup [c.o, .int .i64 n]) [.undef] := by
  obtain ⟨h0, k0⟩ := s_l1New v b hl
  obtain ⟨c, i1, h1, hc, hi1, k1⟩ := s_l10Draw v b 0 h0 hl (by omega)
  have hs := okC_sz hc
  have hlen := chip_l (c := c) (n := 2 ^ 40) (by omega)
  have hl3 := (inR_iff _ _ _).1 hc.2
  obtain ⟨n, i2, h2, hn, hi2, k2⟩ := s_l1Below v b i1 h1 c.blocks.length hl hi1 (by omega)
  rw [below, if_pos (by omega)] at hn
  refine ⟨c, n, hc, by omega, ?_⟩
  unfold cur at *
  refine spec_C hmx p_S_DrawChip [(148, [.l, .b], []), (147, [.l], [])] 61 [] ⟨Nat.le_of_ble_eq_true rfl, Nat.le_of_ble_eq_true rfl⟩ rfl rfl ?_
  intro w hP hmd hks hQ
  unfold c_S_DrawChip
  simp +decide (maxSteps := 20000000) (disch := omega) only [↓SBK, ↓SBK2, SAU, SGs, SD, S1, S2, S3, SE, SC, SO, ST, SF, SK, bytes_len, bytes_get, Nat.reduceEqDiff, Nat.reduceAdd, Nat.reduceMul, Nat.reduceSub, ↓reduceIte, Int.reduceNeg, Int.reduceToNat, hmd, hks, Bool.beq_eq_decide_eq, Int.natCast_zero, Int.add_zero, ge_iff_le, gt_iff_lt, Option.isNone_none, Option.isNone_some, List.nil_append, List.append_nil, Bool.and_true, Bool.and_self, SB, Int.reducePow, hQ]
  (first | refine call_i hP (k0) (.inl ⟨rfl, fun _ hx => hx⟩) ?_ | refine callH_i hP (k0) (.inl ⟨rfl, fun _ hx => hx⟩) ?_)
  simp +decide (maxSteps := 20000000) (disch := omega) only [↓SBK, ↓SBK2, SAU, SGs, SD, S1, S2, S3, SE, SC, SO, ST, SF, SK, bytes_len, bytes_get, Nat.reduceEqDiff, Nat.reduceAdd, Nat.reduceMul, Nat.reduceSub, ↓reduceIte, Int.reduceNeg, Int.reduceToNat, hmd, hks, Bool.beq_eq_decide_eq, Int.natCast_zero, Int.add_zero, ge_iff_le, gt_iff_lt, Option.isNone_none, Option.isNone_some, List.nil_append, List.append_nil, Bool.and_true, Bool.and_self, SB, Int.reducePow, hQ]
  (first | refine call_i hP (k1) (.inl ⟨rfl, fun _ hx => hx⟩) ?_ | refine callH_i hP (k1) (.inl ⟨rfl, fun _ hx => hx⟩) ?_)
  simp +decide (maxSteps := 20000000) (disch := omega) only [↓SBK, ↓SBK2, SAU, SGs, SD, S1, S2, S3, SE, SC, SO, ST, SF, SK, bytes_len, bytes_get, Nat.reduceEqDiff, Nat.reduceAdd, Nat.reduceMul, Nat.reduceSub, ↓reduceIte, Int.reduceNeg, Int.reduceToNat, hmd, hks, Bool.beq_eq_decide_eq, Int.natCast_zero, Int.add_zero, ge_iff_le, gt_iff_lt, Option.isNone_none, Option.isNone_some, List.nil_append, List.append_nil, Bool.and_true, Bool.and_self, SB, Int.reducePow, hQ]
  (first | refine call_i hP (k2) (.inl ⟨rfl, fun _ hx => hx⟩) ?_ | refine callH_i hP (k2) (.inl ⟨rfl, fun _ hx => hx⟩) ?_)
  simp +decide (maxSteps := 20000000) (disch := omega) only [↓SBK, ↓SBK2, SAU, SGs, SD, S1, S2, S3, SE, SC, SO, ST, SF, SK, bytes_len, bytes_get, Nat.reduceEqDiff, Nat.reduceAdd, Nat.reduceMul, Nat.reduceSub, ↓reduceIte, Int.reduceNeg, Int.reduceToNat, hmd, hks, Bool.beq_eq_decide_eq, Int.natCast_zero, Int.add_zero, ge_iff_le, gt_iff_lt, Option.isNone_none, Option.isNone_some, List.nil_append, List.append_nil, Bool.and_true, Bool.and_self, SB, Int.reducePow, hQ]
end Go.Proofs.Ytliklgcfdgdigaa.Awp

namespace Go.Proofs.Ytliklgcfdgdigaa.Awp
open Go.Proofs
set_option linter.unusedSimpArgs false
set_option linter.unusedVariables false
set_option maxRecDepth 100000
set_option maxHeartbeats 20000000

end Go.Proofs.Ytliklgcfdgdigaa.Awp

namespace Go.Proofs.Ytliklgcfdgdigaa.Awp
open Go.Proofs
set_option linter.unusedSimpArgs false
set_option linter.unusedVariables false
set_option maxRecDepth 100000
set_option maxHeartbeats 20000000

end Go.Proofs.Ytliklgcfdgdigaa.Awp

namespace Go.Proofs.Ytliklgcfdgdigaa.Awp
open Go.Proofs
set_option linter.unusedSimpArgs false
set_option linter.unusedVariables false
set_option maxRecDepth 100000
set_option maxHeartbeats 20000000

end Go.Proofs.Ytliklgcfdgdigaa.Awp

namespace Go.Proofs.Ytliklgcfdgdigaa.Awp
open Go.Proofs
set_option linter.unusedSimpArgs false
set_option linter.unusedVariables false
set_option maxRecDepth 100000
set_option maxHeartbeats 20000000

theorem spec_ext {P : Program} {f : FuncId} {s : Nat} {es : List (List TV)} {xs outs : List AV} {ret : AV} {v : Value} (h : Spec P f (.ext s es :: xs) ret outs) : Spec P f (.extv v s es :: xs) ret outs := by
  refine ⟨h.1, h.2.1, ?_⟩
  intro w vs F X r
  cases r with
  | extv _ _ X1 X2 _ _ _ vs _ h1 hr hX => exact h.2.2 w _ F X (.ext _ _ X1 X2 _ _ _ _ _ h1 hr hX)
end Go.Proofs.Ytliklgcfdgdigaa.Awp

namespace Go.Proofs.Ytliklgcfdgdigaa.Awp
open Go.Proofs
set_option linter.unusedSimpArgs false
set_option linter.unusedVariables false
set_option maxRecDepth 100000
set_option maxHeartbeats 20000000

end Go.Proofs.Ytliklgcfdgdigaa.Awp

namespace Go.Proofs.Ytliklgcfdgdigaa.Awp
open Go.Proofs
set_option linter.unusedSimpArgs false
set_option linter.unusedVariables false
set_option maxRecDepth 100000
set_option maxHeartbeats 20000000

end Go.Proofs.Ytliklgcfdgdigaa.Awp

namespace Go.Proofs.Ytliklgcfdgdigaa.Awp
open Go.Proofs
set_option linter.unusedSimpArgs false
set_option linter.unusedVariables false
set_option maxRecDepth 100000
set_option maxHeartbeats 20000000

end Go.Proofs.Ytliklgcfdgdigaa.Awp

namespace Go.Proofs.Ytliklgcfdgdigaa.Awp
open Go.Proofs
set_option linter.unusedSimpArgs false
set_option linter.unusedVariables false
set_option maxRecDepth 100000
set_option maxHeartbeats 20000000

/-! ### a reader that is not right reads nothing -/
end Go.Proofs.Ytliklgcfdgdigaa.Awp

namespace Go.Proofs.Ytliklgcfdgdigaa.Awp
open Go.Proofs
set_option linter.unusedSimpArgs false
set_option linter.unusedVariables false
set_option maxRecDepth 100000
set_option maxHeartbeats 20000000

/-! ### a record of its bytes -/
end Go.Proofs.Ytliklgcfdgdigaa.Awp

namespace Go.Proofs.Ytliklgcfdgdigaa.Awp
open Go.Proofs
set_option linter.unusedSimpArgs false
set_option linter.unusedVariables false
set_option maxRecDepth 100000
set_option maxHeartbeats 20000000

end Go.Proofs.Ytliklgcfdgdigaa.Awp

namespace Go.Proofs.Ytliklgcfdgdigaa.Awp
open Go.Proofs
set_option linter.unusedSimpArgs false
set_option linter.unusedVariables false
set_option maxRecDepth 100000
set_option maxHeartbeats 20000000

end Go.Proofs.Ytliklgcfdgdigaa.Awp

namespace Go.Proofs.Ytliklgcfdgdigaa.Awp
open Go.Proofs
set_option linter.unusedSimpArgs false
set_option linter.unusedVariables false
set_option maxRecDepth 100000
set_option maxHeartbeats 20000000

/-! ### what is left of a chip behind an erase, or a program -/
theorem nextPage_mod_eq {c : Chip} {f : Block → Block} {j : Nat} (h : j < c.blocks.length) : nextPage { blocks := c.blocks.modify j f } j = ((usedN (f c.blocks[j]).pages : Nat) : Int) := by
  rw [nextPage_at (c := { blocks := c.blocks.modify j f }) (by simpa using h)]
  simp only [List.getElem_modify, if_true]
theorem get_mod {c : Chip} {f : Block → Block} {j i : Nat} (h : i < c.blocks.length) : (c.blocks.modify j f)[i]? = some (if j = i then f c.blocks[i] else c.blocks[i]) := by
  rw [List.getElem?_eq_getElem (by simpa using h), List.getElem_modify]
end Go.Proofs.Ytliklgcfdgdigaa.Awp

namespace Go.Proofs.Ytliklgcfdgdigaa.Awp
open Go.Proofs
set_option linter.unusedSimpArgs false
set_option linter.unusedVariables false
set_option maxRecDepth 100000
set_option maxHeartbeats 20000000

theorem readPage_at {c : Chip} {i m : Nat} (hi : i < c.blocks.length) (hm : m < (c.blocks[i]).pages.length) : readPage c i m = if ((c.blocks[i]).pages[m]).used = true then (((c.blocks[i]).pages[m]).b, true) else ([], false) :=
  readPage_some (pageAt_some (by omega) (by omega))
theorem readPage_out {c : Chip} {i m : Nat} (hi : i < c.blocks.length) (hm : ¬ m < (c.blocks[i]).pages.length) : readPage c i m = ([], false) :=
  readPage_none (pageAt_np (by omega) (by omega))
theorem prB_get {b : Bytes} {x : Block} {m : Nat} (hm : m < x.pages.length) : (prB b x).pages[m]'(by simpa [prB] using hm) = if usedN x.pages = m then { used := true, b := b } else x.pages[m] := by
  simp only [prB, List.getElem_modify]
theorem usedN_prB {b : Bytes} {x : Block} (hx : okB x) (hu : usedN x.pages < 8) : usedN (prB b x).pages = usedN x.pages + 1 := by
  have h8 := hx.1
  have uf := used_first hx.2.2
  have hn : (x.pages[usedN x.pages]'(by omega)).used = false := by rw [uf _ (by omega)]; simp
  -- one more page is used
  have key : ∀ (l : List Page) (j : Nat) (hj : j < l.length), (l[j]).used = false → usedN (l.modify j fun _ => { used := true, b := b }) = usedN l + 1 := by
    intro l
    induction l with
    | nil => intro j hj; simp at hj
    | cons p l ih =>
      intro j hj h
      cases j with
      | zero => simp only [List.getElem_cons_zero] at h; simp [usedN, List.countP_cons, h]
      | succ j =>
        have := ih j (by simpa using hj) (by simpa using h)
        simp only [usedN, List.modify_succ_cons, List.countP_cons] at *
        omega
  exact key _ _ (by omega) hn
/-- what is read behind a program -/
theorem read_prog {c : Chip} {b : Bytes} {j : Nat} (hj : j < c.blocks.length) (hok : okC c) (hu : usedN (c.blocks[j]).pages < 8) (i m : Nat) (hi : i < c.blocks.length) :
    readPage { blocks := c.blocks.modify j (prB b) } i m = if i = j ∧ m = usedN (c.blocks[j]).pages then (b, true) else readPage c i m := by
  have hi' : i < (c.blocks.modify j (prB b)).length := by simpa using hi
  have h8 := (hok.1 _ (List.getElem_mem hi)).1
  have gi : (c.blocks.modify j (prB b))[i] = if j = i then prB b c.blocks[i] else c.blocks[i] := by rw [List.getElem_modify]
  by_cases e : j = i
  · subst e
    rw [if_pos rfl] at gi
    have hpl : ((c.blocks.modify j (prB b))[j]).pages.length = 8 := by rw [gi]; simp [prB, h8]
    by_cases hm : m < 8
    · have hm1 : m < (c.blocks[j]).pages.length := by omega
      rw [readPage_at (c := { blocks := c.blocks.modify j (prB b) }) hi' (by rw [hpl]; exact hm), readPage_at hj hm1]
      simp only [gi]
      rw [prB_get hm1]
      by_cases em : usedN (c.blocks[j]).pages = m
      · rw [if_pos em, if_pos (show True ∧ m = usedN (c.blocks[j]).pages from ⟨trivial, em.symm⟩)]; rfl
      · rw [if_neg em, if_neg (show ¬ (True ∧ m = usedN (c.blocks[j]).pages) from fun h => em h.2.symm)]
    · rw [readPage_out (c := { blocks := c.blocks.modify j (prB b) }) hi' (by rw [hpl]; exact hm), if_neg (by omega), readPage_out hj (by omega)]
  · rw [if_neg e] at gi
    rw [if_neg (fun h => e h.1.symm)]
    by_cases hm : m < (c.blocks[i]).pages.length
    · rw [readPage_at (c := { blocks := c.blocks.modify j (prB b) }) hi' (by simp only [gi]; exact hm), readPage_at hi hm]
      simp only [gi]
    · rw [readPage_out (c := { blocks := c.blocks.modify j (prB b) }) hi' (by simp only [gi]; exact hm), readPage_out hi hm]
end Go.Proofs.Ytliklgcfdgdigaa.Awp

namespace Go.Proofs.Ytliklgcfdgdigaa.Awp
open Go.Proofs
set_option linter.unusedSimpArgs false
set_option linter.unusedVariables false
set_option maxRecDepth 100000
set_option maxHeartbeats 20000000

theorem progCode_at {c : Chip} {j : Nat} {B : Block} (y : Bytes) (hok : okC c) (hB : c.blocks[j]? = some B) (hy : y.length ≤ 400) : progCode c j y = if B.bad = true then 2 else if ((usedN B.pages : Nat) : Int) = 8 then 5 else 0 := by
  obtain ⟨hj, rfl⟩ := List.getElem?_eq_some_iff.1 hB
  rw [progCode, if_neg (by omega), may_some (chipOk_t hok) (blk_nat (by omega)), nextPage_at hj]
  simp only [decide_eq_true_eq]
theorem turn_step {c : Chip} {j : Nat} {B : Block} (y : Bytes) (hok : okC c) (hB : c.blocks[j]? = some B) (hy : y.length ≤ 400) (hb : B.bad = false) (hu : usedN B.pages < 8) :
    progCode c j y = 0 ∧ okC (progC c j y) ∧ (progC c j y).blocks.length = c.blocks.length ∧ (progC c j y).blocks[j]? = some (prB y B) ∧ usedN (prB y B).pages = usedN B.pages + 1 ∧
      readPage (progC c j y) j (usedN B.pages) = (y, true) ∧ nextPage (progC c j y) j = ((usedN B.pages + 1 : Nat) : Int) := by
  have h0 : progCode c j y = 0 := by rw [progCode_at y hok hB hy, if_neg (by simp [hb]), if_neg (by omega)]
  obtain ⟨hj, rfl⟩ := List.getElem?_eq_some_iff.1 hB
  have hX : progC c j y = { blocks := c.blocks.modify j (prB y) } := by rw [progC, if_pos h0]; rfl
  refine ⟨h0, okC_progC _ _ hok, by rw [hX]; simp, ?_, usedN_prB (hok.1 _ (List.getElem_mem hj)) hu, ?_, ?_⟩
  · rw [hX]
    show (c.blocks.modify j (prB y))[j]? = _
    rw [get_mod hj, if_pos rfl]
  · rw [hX, read_prog hj hok hu j _ hj, if_pos ⟨rfl, rfl⟩]
  · rw [hX, nextPage_mod_eq hj, usedN_prB (hok.1 _ (List.getElem_mem hj)) hu]
theorem s_FnInTurn (b : Bytes) (hf : b.length < 2 ^ 48) : Spec Try.prog 15 [.ext 1 (bytesR b)] (.bool true) [.undef] := by
  refine spec_extv fun a len cap ha => ?_
  generalize hv : Value.slice a len cap = v
  have hB := spec_ext (v := v) (s_big b hf)
  cases hz : decide ((1048576 : Int) < (b.length : Nat)) with
  | true =>
    rw [hz] at hB
    refine spec_C hmx p_L_FnInTurn [] 6141 [] ⟨Nat.le_of_ble_eq_true rfl, Nat.le_of_ble_eq_true rfl⟩ rfl rfl ?_
    intro w hP hmd hks hQ
    unfold c_L_FnInTurn
    simp +decide (maxSteps := 20000000) (disch := omega) only [↓SBK, ↓SBK2, SAU, SGs, SD, S1, S2, S3, SE, SC, SO, ST, SF, SK, bytes_len, bytes_get, Nat.reduceEqDiff, Nat.reduceAdd, Nat.reduceMul, Nat.reduceSub, ↓reduceIte, Int.reduceNeg, Int.reduceToNat, hmd, hks, Bool.beq_eq_decide_eq, Int.natCast_zero, Int.add_zero, ge_iff_le, gt_iff_lt, Option.isNone_none, Option.isNone_some, List.nil_append, List.append_nil, Bool.and_true, Bool.and_self, SB, Int.reducePow, hQ]
    (first | refine call_i hP (hB) (.inl ⟨rfl, fun _ hx => nomatch hx⟩) ?_ | refine callH_i hP (hB) (.inl ⟨rfl, fun _ hx => nomatch hx⟩) ?_)
    simp +decide (maxSteps := 20000000) (disch := omega) only [↓SBK, ↓SBK2, SAU, SGs, SD, S1, S2, S3, SE, SC, SO, ST, SF, SK, bytes_len, bytes_get, Nat.reduceEqDiff, Nat.reduceAdd, Nat.reduceMul, Nat.reduceSub, ↓reduceIte, Int.reduceNeg, Int.reduceToNat, hmd, hks, Bool.beq_eq_decide_eq, Int.natCast_zero, Int.add_zero, ge_iff_le, gt_iff_lt, Option.isNone_none, Option.isNone_some, List.nil_append, List.append_nil, Bool.and_true, Bool.and_self, SB, Int.reducePow, hQ]
  | false =>
    rw [hz] at hB
    obtain ⟨c, j, hok, hj, k1⟩ := s_DrawChip v b hf
    have hs := okC_sz hok
    have hcf := fine_of_sz (c := c) (by omega)
    have hl := chip_l (c := c) (n := 2 ^ 40) (by omega)
    have hbj : c.blocks[j]? = some (c.blocks[j]) := List.getElem?_eq_getElem hj
    have hj' : (j : Int) < (c.blocks.length : Nat) := by omega
    have h8 := (hok.1 _ (List.getElem_mem hj)).1
    have hu8 := usedN_le (c.blocks[j]).pages
    have kn := sI_NextPage c j (by omega)
    rw [nextPage_at hj] at kn
    cases hbad : (c.blocks[j]).bad with
    | true =>
      have kP := sI_Program c j [1] hcf (by omega) (by decide)
      rw [progCode_at [1] hok hbj (by decide), if_pos hbad] at kP
      have kok := sI_ChipOk c hcf
      rw [chipOk_t hok] at kok
      refine spec_C hmx p_L_FnInTurn [] 6141 [] ⟨Nat.le_of_ble_eq_true rfl, Nat.le_of_ble_eq_true rfl⟩ rfl rfl ?_
      intro w hP hmd hks hQ
      unfold c_L_FnInTurn
      simp +decide (maxSteps := 20000000) (disch := omega) only [↓SBK, ↓SBK2, SAU, SGs, SD, S1, S2, S3, SE, SC, SO, ST, SF, SK, bytes_len, bytes_get, Nat.reduceEqDiff, Nat.reduceAdd, Nat.reduceMul, Nat.reduceSub, ↓reduceIte, Int.reduceNeg, Int.reduceToNat, hmd, hks, Bool.beq_eq_decide_eq, Int.natCast_zero, Int.add_zero, ge_iff_le, gt_iff_lt, Option.isNone_none, Option.isNone_some, List.nil_append, List.append_nil, Bool.and_true, Bool.and_self, SB, Int.reducePow, hQ]
      (first | refine call_i hP (hB) (.inl ⟨rfl, fun _ hx => nomatch hx⟩) ?_ | refine callH_i hP (hB) (.inl ⟨rfl, fun _ hx => nomatch hx⟩) ?_)
      simp +decide (maxSteps := 20000000) (disch := omega) only [↓SBK, ↓SBK2, SAU, SGs, SD, S1, S2, S3, SE, SC, SO, ST, SF, SK, bytes_len, bytes_get, Nat.reduceEqDiff, Nat.reduceAdd, Nat.reduceMul, Nat.reduceSub, ↓reduceIte, Int.reduceNeg, Int.reduceToNat, hmd, hks, Bool.beq_eq_decide_eq, Int.natCast_zero, Int.add_zero, ge_iff_le, gt_iff_lt, Option.isNone_none, Option.isNone_some, List.nil_append, List.append_nil, Bool.and_true, Bool.and_self, SB, Int.reducePow, hQ]
      (first | refine call_i hP (k1) (.inl ⟨rfl, fun _ hx => nomatch hx⟩) ?_ | refine callH_i hP (k1) (.inl ⟨rfl, fun _ hx => nomatch hx⟩) ?_)
      simp +decide (maxSteps := 20000000) (disch := omega) only [↓SBK, ↓SBK2, SAU, SGs, SD, S1, S2, S3, SE, SC, SO, ST, SF, SK, bytes_len, bytes_get, Nat.reduceEqDiff, Nat.reduceAdd, Nat.reduceMul, Nat.reduceSub, ↓reduceIte, Int.reduceNeg, Int.reduceToNat, hmd, hks, Bool.beq_eq_decide_eq, Int.natCast_zero, Int.add_zero, ge_iff_le, gt_iff_lt, Option.isNone_none, Option.isNone_some, List.nil_append, List.append_nil, Bool.and_true, Bool.and_self, SB, Int.reducePow, hQ]
      (first | refine call_i hP (kn) (.inl ⟨rfl, fun _ hx => nomatch hx⟩) ?_ | refine callH_i hP (kn) (.inl ⟨rfl, fun _ hx => nomatch hx⟩) ?_)
      simp +decide (maxSteps := 20000000) (disch := omega) only [↓SBK, ↓SBK2, SAU, SGs, SD, S1, S2, S3, SE, SC, SO, ST, SF, SK, bytes_len, bytes_get, Nat.reduceEqDiff, Nat.reduceAdd, Nat.reduceMul, Nat.reduceSub, ↓reduceIte, Int.reduceNeg, Int.reduceToNat, hmd, hks, Bool.beq_eq_decide_eq, Int.natCast_zero, Int.add_zero, ge_iff_le, gt_iff_lt, Option.isNone_none, Option.isNone_some, List.nil_append, List.append_nil, Bool.and_true, Bool.and_self, SB, Int.reducePow, hQ]
      refine LH_D [2, 7, 8, 9, 10, 5007] ?_
      simp +decide (maxSteps := 20000000) (disch := omega) only [↓SBK, ↓SBK2, SAU, SGs, SD, S1, S2, S3, SE, SC, SO, ST, SF, SK, bytes_len, bytes_get, Nat.reduceEqDiff, Nat.reduceAdd, Nat.reduceMul, Nat.reduceSub, ↓reduceIte, Int.reduceNeg, Int.reduceToNat, hmd, hks, Bool.beq_eq_decide_eq, Int.natCast_zero, Int.add_zero, ge_iff_le, gt_iff_lt, Option.isNone_none, Option.isNone_some, List.nil_append, List.append_nil, Bool.and_true, Bool.and_self, SB, Int.reducePow, hQ]
      refine loop_d [2, 7, 8, 9, 10, 5007] (fun i : Nat => [(6, .int .i64 i)]) (fun i => i = usedN (c.blocks[j]).pages) (fun i => 0) (usedN (c.blocks[j]).pages) hP hmd hks (rfl) (rfl) ?_
      rintro i hi w1 hP1 hmd1 hks1 hQ1
      simp +decide (maxSteps := 20000000) (disch := omega) only [↓SBK, ↓SBK2, SAU, SGs, SD, S1, S2, S3, SE, SC, SO, ST, SF, SK, bytes_len, bytes_get, Nat.reduceEqDiff, Nat.reduceAdd, Nat.reduceMul, Nat.reduceSub, ↓reduceIte, Int.reduceNeg, Int.reduceToNat, hmd, hks, Bool.beq_eq_decide_eq, Int.natCast_zero, Int.add_zero, ge_iff_le, gt_iff_lt, Option.isNone_none, Option.isNone_some, List.nil_append, List.append_nil, Bool.and_true, Bool.and_self, SB, Int.reducePow, hQ, hmd1, hks1, hQ1]
      subst hi
      (first | with_reducible refine gd_d _ ?_ ?_ | refine gd_i _ ?_ ?_) <;> intro h1
      · simp +decide (maxSteps := 20000000) (disch := omega) only [↓SBK, ↓SBK2, SAU, SGs, SD, S1, S2, S3, SE, SC, SO, ST, SF, SK, bytes_len, bytes_get, Nat.reduceEqDiff, Nat.reduceAdd, Nat.reduceMul, Nat.reduceSub, ↓reduceIte, Int.reduceNeg, Int.reduceToNat, hmd, hks, Bool.beq_eq_decide_eq, Int.natCast_zero, Int.add_zero, ge_iff_le, gt_iff_lt, Option.isNone_none, Option.isNone_some, List.nil_append, List.append_nil, Bool.and_true, Bool.and_self, SB, Int.reducePow, hQ, hmd1, hks1, hQ1, h1, hbj, hbad]
        (first | refine call_i hP (kP) (.inl ⟨rfl, fun _ hx => nomatch hx⟩) ?_ | refine callH_i hP (kP) (.inl ⟨rfl, fun _ hx => nomatch hx⟩) ?_)
        simp +decide (maxSteps := 20000000) (disch := omega) only [↓SBK, ↓SBK2, SAU, SGs, SD, S1, S2, S3, SE, SC, SO, ST, SF, SK, bytes_len, bytes_get, Nat.reduceEqDiff, Nat.reduceAdd, Nat.reduceMul, Nat.reduceSub, ↓reduceIte, Int.reduceNeg, Int.reduceToNat, hmd, hks, Bool.beq_eq_decide_eq, Int.natCast_zero, Int.add_zero, ge_iff_le, gt_iff_lt, Option.isNone_none, Option.isNone_some, List.nil_append, List.append_nil, Bool.and_true, Bool.and_self, SB, Int.reducePow, hQ]
        (first | refine call_i hP (kok) (.inl ⟨rfl, fun _ hx => nomatch hx⟩) ?_ | refine callH_i hP (kok) (.inl ⟨rfl, fun _ hx => nomatch hx⟩) ?_)
        simp +decide (maxSteps := 20000000) (disch := omega) only [↓SBK, ↓SBK2, SAU, SGs, SD, S1, S2, S3, SE, SC, SO, ST, SF, SK, bytes_len, bytes_get, Nat.reduceEqDiff, Nat.reduceAdd, Nat.reduceMul, Nat.reduceSub, ↓reduceIte, Int.reduceNeg, Int.reduceToNat, hmd, hks, Bool.beq_eq_decide_eq, Int.natCast_zero, Int.add_zero, ge_iff_le, gt_iff_lt, Option.isNone_none, Option.isNone_some, List.nil_append, List.append_nil, Bool.and_true, Bool.and_self, SB, Int.reducePow, hQ, hbj, hbad]
      · simp +decide (maxSteps := 20000000) (disch := omega) only [↓SBK, ↓SBK2, SAU, SGs, SD, S1, S2, S3, SE, SC, SO, ST, SF, SK, bytes_len, bytes_get, Nat.reduceEqDiff, Nat.reduceAdd, Nat.reduceMul, Nat.reduceSub, ↓reduceIte, Int.reduceNeg, Int.reduceToNat, hmd, hks, Bool.beq_eq_decide_eq, Int.natCast_zero, Int.add_zero, ge_iff_le, gt_iff_lt, Option.isNone_none, Option.isNone_some, List.nil_append, List.append_nil, Bool.and_true, Bool.and_self, SB, Int.reducePow, hQ, hmd1, hks1, hQ1, h1]
        (first | refine call_i hP (kP) (.inl ⟨rfl, fun _ hx => nomatch hx⟩) ?_ | refine callH_i hP (kP) (.inl ⟨rfl, fun _ hx => nomatch hx⟩) ?_)
        simp +decide (maxSteps := 20000000) (disch := omega) only [↓SBK, ↓SBK2, SAU, SGs, SD, S1, S2, S3, SE, SC, SO, ST, SF, SK, bytes_len, bytes_get, Nat.reduceEqDiff, Nat.reduceAdd, Nat.reduceMul, Nat.reduceSub, ↓reduceIte, Int.reduceNeg, Int.reduceToNat, hmd, hks, Bool.beq_eq_decide_eq, Int.natCast_zero, Int.add_zero, ge_iff_le, gt_iff_lt, Option.isNone_none, Option.isNone_some, List.nil_append, List.append_nil, Bool.and_true, Bool.and_self, SB, Int.reducePow, hQ]
        (first | refine call_i hP (kok) (.inl ⟨rfl, fun _ hx => nomatch hx⟩) ?_ | refine callH_i hP (kok) (.inl ⟨rfl, fun _ hx => nomatch hx⟩) ?_)
        simp +decide (maxSteps := 20000000) (disch := omega) only [↓SBK, ↓SBK2, SAU, SGs, SD, S1, S2, S3, SE, SC, SO, ST, SF, SK, bytes_len, bytes_get, Nat.reduceEqDiff, Nat.reduceAdd, Nat.reduceMul, Nat.reduceSub, ↓reduceIte, Int.reduceNeg, Int.reduceToNat, hmd, hks, Bool.beq_eq_decide_eq, Int.natCast_zero, Int.add_zero, ge_iff_le, gt_iff_lt, Option.isNone_none, Option.isNone_some, List.nil_append, List.append_nil, Bool.and_true, Bool.and_self, SB, Int.reducePow, hQ, hbj, hbad]
    | false =>
      refine spec_C hmx p_L_FnInTurn [] 6141 [] ⟨Nat.le_of_ble_eq_true rfl, Nat.le_of_ble_eq_true rfl⟩ rfl rfl ?_
      intro w hP hmd hks hQ
      unfold c_L_FnInTurn
      simp +decide (maxSteps := 20000000) (disch := omega) only [↓SBK, ↓SBK2, SAU, SGs, SD, S1, S2, S3, SE, SC, SO, ST, SF, SK, bytes_len, bytes_get, Nat.reduceEqDiff, Nat.reduceAdd, Nat.reduceMul, Nat.reduceSub, ↓reduceIte, Int.reduceNeg, Int.reduceToNat, hmd, hks, Bool.beq_eq_decide_eq, Int.natCast_zero, Int.add_zero, ge_iff_le, gt_iff_lt, Option.isNone_none, Option.isNone_some, List.nil_append, List.append_nil, Bool.and_true, Bool.and_self, SB, Int.reducePow, hQ]
      (first | refine call_i hP (hB) (.inl ⟨rfl, fun _ hx => nomatch hx⟩) ?_ | refine callH_i hP (hB) (.inl ⟨rfl, fun _ hx => nomatch hx⟩) ?_)
      simp +decide (maxSteps := 20000000) (disch := omega) only [↓SBK, ↓SBK2, SAU, SGs, SD, S1, S2, S3, SE, SC, SO, ST, SF, SK, bytes_len, bytes_get, Nat.reduceEqDiff, Nat.reduceAdd, Nat.reduceMul, Nat.reduceSub, ↓reduceIte, Int.reduceNeg, Int.reduceToNat, hmd, hks, Bool.beq_eq_decide_eq, Int.natCast_zero, Int.add_zero, ge_iff_le, gt_iff_lt, Option.isNone_none, Option.isNone_some, List.nil_append, List.append_nil, Bool.and_true, Bool.and_self, SB, Int.reducePow, hQ]
      (first | refine call_i hP (k1) (.inl ⟨rfl, fun _ hx => nomatch hx⟩) ?_ | refine callH_i hP (k1) (.inl ⟨rfl, fun _ hx => nomatch hx⟩) ?_)
      simp +decide (maxSteps := 20000000) (disch := omega) only [↓SBK, ↓SBK2, SAU, SGs, SD, S1, S2, S3, SE, SC, SO, ST, SF, SK, bytes_len, bytes_get, Nat.reduceEqDiff, Nat.reduceAdd, Nat.reduceMul, Nat.reduceSub, ↓reduceIte, Int.reduceNeg, Int.reduceToNat, hmd, hks, Bool.beq_eq_decide_eq, Int.natCast_zero, Int.add_zero, ge_iff_le, gt_iff_lt, Option.isNone_none, Option.isNone_some, List.nil_append, List.append_nil, Bool.and_true, Bool.and_self, SB, Int.reducePow, hQ]
      (first | refine call_i hP (kn) (.inl ⟨rfl, fun _ hx => nomatch hx⟩) ?_ | refine callH_i hP (kn) (.inl ⟨rfl, fun _ hx => nomatch hx⟩) ?_)
      simp +decide (maxSteps := 20000000) (disch := omega) only [↓SBK, ↓SBK2, SAU, SGs, SD, S1, S2, S3, SE, SC, SO, ST, SF, SK, bytes_len, bytes_get, Nat.reduceEqDiff, Nat.reduceAdd, Nat.reduceMul, Nat.reduceSub, ↓reduceIte, Int.reduceNeg, Int.reduceToNat, hmd, hks, Bool.beq_eq_decide_eq, Int.natCast_zero, Int.add_zero, ge_iff_le, gt_iff_lt, Option.isNone_none, Option.isNone_some, List.nil_append, List.append_nil, Bool.and_true, Bool.and_self, SB, Int.reducePow, hQ]
      generalize hB0 : c.blocks[j] = B0 at *
      refine LH_D [2, 7, 8, 9, 10, 5007] ?_
      simp +decide (maxSteps := 20000000) (disch := omega) only [↓SBK, ↓SBK2, SAU, SGs, SD, S1, S2, S3, SE, SC, SO, ST, SF, SK, bytes_len, bytes_get, Nat.reduceEqDiff, Nat.reduceAdd, Nat.reduceMul, Nat.reduceSub, ↓reduceIte, Int.reduceNeg, Int.reduceToNat, hmd, hks, Bool.beq_eq_decide_eq, Int.natCast_zero, Int.add_zero, ge_iff_le, gt_iff_lt, Option.isNone_none, Option.isNone_some, List.nil_append, List.append_nil, Bool.and_true, Bool.and_self, SB, Int.reducePow, hQ]
      refine loop_d [2, 7, 8, 9, 10, 5007] (fun s : Nat × Chip => [(6, .int .i64 (s.1 : Nat)), (5003, .box [.own 3 (s.2.blocks.map Block.row)])]) (fun s => s.1 ≤ 8 ∧ okC s.2 ∧ s.2.blocks.length = c.blocks.length ∧ ∃ B, s.2.blocks[j]? = some B ∧ B.bad = false ∧ usedN B.pages = s.1) (fun s => 8 - s.1) ((usedN B0.pages, c)) hP hmd hks (rfl) (⟨by simp only; omega, hok, rfl, B0, hbj, hbad, rfl⟩) ?_
      rintro ⟨i, C⟩ ⟨g1, g2, g3, B, g4, g5, g6⟩ w1 hP1 hmd1 hks1 hQ1
      simp +decide (maxSteps := 20000000) (disch := omega) only [↓SBK, ↓SBK2, SAU, SGs, SD, S1, S2, S3, SE, SC, SO, ST, SF, SK, bytes_len, bytes_get, Nat.reduceEqDiff, Nat.reduceAdd, Nat.reduceMul, Nat.reduceSub, ↓reduceIte, Int.reduceNeg, Int.reduceToNat, hmd, hks, Bool.beq_eq_decide_eq, Int.natCast_zero, Int.add_zero, ge_iff_le, gt_iff_lt, Option.isNone_none, Option.isNone_some, List.nil_append, List.append_nil, Bool.and_true, Bool.and_self, SB, Int.reducePow, hQ, hmd1, hks1, hQ1]
      simp only at g1 g2 g3 g4 g5 g6
      have hCs := okC_sz g2
      have hCf := fine_of_sz (c := C) (by omega)
      have hjC : (j : Int) < (C.blocks.length : Nat) := by omega
      (first | with_reducible refine gd_d _ ?_ ?_ | refine gd_i _ ?_ ?_) <;> intro h1
      · obtain ⟨t1, t2, t3, t4, t5, t6, t7⟩ := turn_step (c := C) (j := j) (B := B) [UInt8.ofNat i] g2 g4 (by simp) g5 (by omega)
        have kP := sI_Program C j [UInt8.ofNat i] hCf (by omega) (by simp)
        rw [t1] at kP
        have hXs := okC_sz t2
        have kr := sI_ReadPage (progC C j [UInt8.ofNat i]) j i (by omega)
        have kx := sI_NextPage (progC C j [UInt8.ofNat i]) j (by omega)
        rw [g6] at t6 t7 t5
        rw [t6] at kr
        rw [t7] at kx
        have eb : bytesR [UInt8.ofNat i] = [[TV.int .u8 (i : Int)]] := by
          have : (UInt8.ofNat i).toNat = i := by simp; omega
          simp [bytesR, this]
        simp only [eb] at kP kr
        have hbx : (prB [UInt8.ofNat i] B).bad = false := g5
        generalize progC C j [UInt8.ofNat i] = X at *
        generalize prB [UInt8.ofNat i] B = B' at *
        simp +decide (maxSteps := 20000000) (disch := omega) only [↓SBK, ↓SBK2, SAU, SGs, SD, S1, S2, S3, SE, SC, SO, ST, SF, SK, bytes_len, bytes_get, Nat.reduceEqDiff, Nat.reduceAdd, Nat.reduceMul, Nat.reduceSub, ↓reduceIte, Int.reduceNeg, Int.reduceToNat, hmd, hks, Bool.beq_eq_decide_eq, Int.natCast_zero, Int.add_zero, ge_iff_le, gt_iff_lt, Option.isNone_none, Option.isNone_some, List.nil_append, List.append_nil, Bool.and_true, Bool.and_self, SB, Int.reducePow, hQ, hmd1, hks1, hQ1, h1, g4, g5]
        (first | refine call_i hP1 (kP) (.inl ⟨rfl, fun _ hx => nomatch hx⟩) ?_ | refine callH_i hP1 (kP) (.inl ⟨rfl, fun _ hx => nomatch hx⟩) ?_)
        simp +decide (maxSteps := 20000000) (disch := omega) only [↓SBK, ↓SBK2, SAU, SGs, SD, S1, S2, S3, SE, SC, SO, ST, SF, SK, bytes_len, bytes_get, Nat.reduceEqDiff, Nat.reduceAdd, Nat.reduceMul, Nat.reduceSub, ↓reduceIte, Int.reduceNeg, Int.reduceToNat, hmd, hks, Bool.beq_eq_decide_eq, Int.natCast_zero, Int.add_zero, ge_iff_le, gt_iff_lt, Option.isNone_none, Option.isNone_some, List.nil_append, List.append_nil, Bool.and_true, Bool.and_self, SB, Int.reducePow, hQ, hmd1, hks1, hQ1]
        (first | refine call_i hP1 (kr) (.inl ⟨rfl, fun _ hx => nomatch hx⟩) ?_ | refine callH_i hP1 (kr) (.inl ⟨rfl, fun _ hx => nomatch hx⟩) ?_)
        simp +decide (maxSteps := 20000000) (disch := omega) only [↓SBK, ↓SBK2, SAU, SGs, SD, S1, S2, S3, SE, SC, SO, ST, SF, SK, bytes_len, bytes_get, Nat.reduceEqDiff, Nat.reduceAdd, Nat.reduceMul, Nat.reduceSub, ↓reduceIte, Int.reduceNeg, Int.reduceToNat, hmd, hks, Bool.beq_eq_decide_eq, Int.natCast_zero, Int.add_zero, ge_iff_le, gt_iff_lt, Option.isNone_none, Option.isNone_some, List.nil_append, List.append_nil, Bool.and_true, Bool.and_self, SB, Int.reducePow, hQ, hmd1, hks1, hQ1]
        have dn : decide (((i + 1 : Nat) : Int) = (i : Int) + 1) = true := decide_eq_true (by omega)
        (first | refine call_i hP1 (kx) (.inl ⟨rfl, fun _ hx => nomatch hx⟩) ?_ | refine callH_i hP1 (kx) (.inl ⟨rfl, fun _ hx => nomatch hx⟩) ?_)
        simp +decide (maxSteps := 20000000) (disch := omega) only [↓SBK, ↓SBK2, SAU, SGs, SD, S1, S2, S3, SE, SC, SO, ST, SF, SK, bytes_len, bytes_get, Nat.reduceEqDiff, Nat.reduceAdd, Nat.reduceMul, Nat.reduceSub, ↓reduceIte, Int.reduceNeg, Int.reduceToNat, hmd, hks, Bool.beq_eq_decide_eq, Int.natCast_zero, Int.add_zero, ge_iff_le, gt_iff_lt, Option.isNone_none, Option.isNone_some, List.nil_append, List.append_nil, Bool.and_true, Bool.and_self, SB, Int.reducePow, hQ, hmd1, hks1, hQ1, dn]
        exact ⟨(i + 1, X), rfl, ⟨by simp only; omega, t2, by simp only; omega, B', t4, hbx, t5⟩, by simp only; omega⟩
      · have kP := sI_Program C j [1] hCf (by omega) (by decide)
        rw [progCode_at [1] g2 g4 (by decide), if_neg (by simp [g5]), if_pos (by omega)] at kP
        have kok := sI_ChipOk C hCf
        rw [chipOk_t g2] at kok
        simp +decide (maxSteps := 20000000) (disch := omega) only [↓SBK, ↓SBK2, SAU, SGs, SD, S1, S2, S3, SE, SC, SO, ST, SF, SK, bytes_len, bytes_get, Nat.reduceEqDiff, Nat.reduceAdd, Nat.reduceMul, Nat.reduceSub, ↓reduceIte, Int.reduceNeg, Int.reduceToNat, hmd, hks, Bool.beq_eq_decide_eq, Int.natCast_zero, Int.add_zero, ge_iff_le, gt_iff_lt, Option.isNone_none, Option.isNone_some, List.nil_append, List.append_nil, Bool.and_true, Bool.and_self, SB, Int.reducePow, hQ, hmd1, hks1, hQ1, h1]
        (first | refine call_i hP (kP) (.inl ⟨rfl, fun _ hx => nomatch hx⟩) ?_ | refine callH_i hP (kP) (.inl ⟨rfl, fun _ hx => nomatch hx⟩) ?_)
        simp +decide (maxSteps := 20000000) (disch := omega) only [↓SBK, ↓SBK2, SAU, SGs, SD, S1, S2, S3, SE, SC, SO, ST, SF, SK, bytes_len, bytes_get, Nat.reduceEqDiff, Nat.reduceAdd, Nat.reduceMul, Nat.reduceSub, ↓reduceIte, Int.reduceNeg, Int.reduceToNat, hmd, hks, Bool.beq_eq_decide_eq, Int.natCast_zero, Int.add_zero, ge_iff_le, gt_iff_lt, Option.isNone_none, Option.isNone_some, List.nil_append, List.append_nil, Bool.and_true, Bool.and_self, SB, Int.reducePow, hQ]
        (first | refine call_i hP (kok) (.inl ⟨rfl, fun _ hx => nomatch hx⟩) ?_ | refine callH_i hP (kok) (.inl ⟨rfl, fun _ hx => nomatch hx⟩) ?_)
        simp +decide (maxSteps := 20000000) (disch := omega) only [↓SBK, ↓SBK2, SAU, SGs, SD, S1, S2, S3, SE, SC, SO, ST, SF, SK, bytes_len, bytes_get, Nat.reduceEqDiff, Nat.reduceAdd, Nat.reduceMul, Nat.reduceSub, ↓reduceIte, Int.reduceNeg, Int.reduceToNat, hmd, hks, Bool.beq_eq_decide_eq, Int.natCast_zero, Int.add_zero, ge_iff_le, gt_iff_lt, Option.isNone_none, Option.isNone_some, List.nil_append, List.append_nil, Bool.and_true, Bool.and_self, SB, Int.reducePow, hQ, g4, g5]
end Go.Proofs.Ytliklgcfdgdigaa.Awp

namespace Go.Proofs.Ytliklgcfdgdigaa.Awp
open Go.Proofs
set_option linter.unusedSimpArgs false
set_option linter.unusedVariables false

/-! ### what is read of an argument is a value of its type -/
theorem Shp.nil_inv {ts : List TV} (h : Shp [] ts) : ts = [] := by cases h; rfl
theorem Shp.sl_inv {s : Nat} {e ys : List Ty} {ts : List TV} (h : Shp (.sl s e :: ys) ts) : ∃ es us, ts = .sl s es :: us ∧ es.length ≤ 2 ^ 47 ∧ (∀ r ∈ es, Shp e r) ∧ Shp ys us := by
  cases h with | sl _ _ es _ us hl he h => exact ⟨es, us, rfl, hl, he, h⟩
theorem rows_ofShp {α : Type} {sh : List Ty} {row : α → List TV} {good : α → Prop} (H : ∀ ts, Shp sh ts → ∃ x, ts = row x ∧ good x) : ∀ {es : List (List TV)}, (∀ r ∈ es, Shp sh r) → ∃ l : List α, es = l.map row ∧ ∀ x ∈ l, good x := by
  intro es
  induction es with
  | nil => intro _; exact ⟨[], rfl, by simp⟩
  | cons r es ih =>
    intro h
    obtain ⟨x, rfl, hx⟩ := H r (h r (by simp))
    obtain ⟨l, rfl, hl⟩ := ih fun r hr => h r (by simp [hr])
    exact ⟨x :: l, rfl, fun y hy => by rcases List.mem_cons.1 hy with rfl | hy; exact hx; exact hl y hy⟩
theorem byte_ofShp (ts : List TV) (h : Shp [.int .u8] ts) : ∃ x : UInt8, ts = byteRow x ∧ True := by
  cases h with
  | int _ n _ us hn h =>
    cases h
    obtain ⟨h1, h2⟩ := bounds_u8 hn
    refine ⟨UInt8.ofNat n.toNat, ?_, trivial⟩
    have : (UInt8.ofNat n.toNat).toNat = n.toNat := by simp; omega
    simp only [byteRow, this]
    congr 2
    omega
theorem bytes_ofShp {es : List (List TV)} (h : ∀ r ∈ es, Shp [.int .u8] r) : ∃ b : Bytes, es = bytesR b := by
  obtain ⟨l, rfl, _⟩ := rows_ofShp byte_ofShp h
  exact ⟨l, rfl⟩
theorem len_ofb {b : Bytes} (h : (bytesR b).length ≤ 2 ^ 47) : b.length < 2 ^ 48 := Nat.lt_of_le_of_lt (by simpa [bytesR] using h) (by decide)
end Go.Proofs.Ytliklgcfdgdigaa.Awp

namespace Go.Proofs.Ytliklgcfdgdigaa.Awp
open Go.Proofs Go.Proofs.Ytliklgcfdgdigaa
set_option linter.unusedSimpArgs false
set_option linter.unusedVariables false
set_option maxRecDepth 100000

theorem own : ownKnob Try.prog.godebug = none := by kernel_rfl
/-- how the text of the program's start goes on -/
def ioTail : List Char := [Char.ofNat 97, Char.ofNat 116, Char.ofNat 32, Char.ofNat 108, Char.ofNat 111, Char.ofNat 111, Char.ofNat 112, Char.ofNat 46, Char.ofNat 101, Char.ofNat 120, Char.ofNat 97, Char.ofNat 109, Char.ofNat 112, Char.ofNat 108, Char.ofNat 101, Char.ofNat 47, Char.ofNat 103, Char.ofNat 48, Char.ofNat 48, Char.ofNat 50, Char.ofNat 56, Char.ofNat 53, Char.ofNat 47, Char.ofNat 108, Char.ofNat 97, Char.ofNat 119, Char.ofNat 115, Char.ofNat 46, Char.ofNat 70, Char.ofNat 110, Char.ofNat 69, Char.ofNat 120, Char.ofNat 97, Char.ofNat 99, Char.ofNat 116, Char.ofNat 82, Char.ofNat 101, Char.ofNat 99, Char.ofNat 79, Char.ofNat 107, Char.ofNat 32, Char.ofNat 108, Char.ofNat 111, Char.ofNat 111, Char.ofNat 112, Char.ofNat 46, Char.ofNat 101, Char.ofNat 120, Char.ofNat 97, Char.ofNat 109, Char.ofNat 112, Char.ofNat 108, Char.ofNat 101, Char.ofNat 47, Char.ofNat 103, Char.ofNat 48, Char.ofNat 48, Char.ofNat 50, Char.ofNat 56, Char.ofNat 53] ++ [Char.ofNat 47, Char.ofNat 108, Char.ofNat 97, Char.ofNat 119, Char.ofNat 115, Char.ofNat 46, Char.ofNat 70, Char.ofNat 110, Char.ofNat 69, Char.ofNat 120, Char.ofNat 97, Char.ofNat 99, Char.ofNat 116, Char.ofNat 67, Char.ofNat 104, Char.ofNat 97, Char.ofNat 110, Char.ofNat 103, Char.ofNat 101, Char.ofNat 115, Char.ofNat 32, Char.ofNat 108, Char.ofNat 111, Char.ofNat 111, Char.ofNat 112, Char.ofNat 46, Char.ofNat 101, Char.ofNat 120, Char.ofNat 97, Char.ofNat 109, Char.ofNat 112, Char.ofNat 108, Char.ofNat 101, Char.ofNat 47, Char.ofNat 103, Char.ofNat 48, Char.ofNat 48, Char.ofNat 50, Char.ofNat 56, Char.ofNat 53, Char.ofNat 47, Char.ofNat 108, Char.ofNat 97, Char.ofNat 119, Char.ofNat 115, Char.ofNat 46, Char.ofNat 70, Char.ofNat 110, Char.ofNat 69, Char.ofNat 120, Char.ofNat 97, Char.ofNat 99, Char.ofNat 116, Char.ofNat 80, Char.ofNat 117, Char.ofNat 116, Char.ofNat 79, Char.ofNat 112, Char.ofNat 32, Char.ofNat 108] ++ [Char.ofNat 111, Char.ofNat 111, Char.ofNat 112, Char.ofNat 46, Char.ofNat 101, Char.ofNat 120, Char.ofNat 97, Char.ofNat 109, Char.ofNat 112, Char.ofNat 108, Char.ofNat 101, Char.ofNat 47, Char.ofNat 103, Char.ofNat 48, Char.ofNat 48, Char.ofNat 50, Char.ofNat 56, Char.ofNat 53, Char.ofNat 47, Char.ofNat 108, Char.ofNat 97, Char.ofNat 119, Char.ofNat 115, Char.ofNat 46, Char.ofNat 70, Char.ofNat 110, Char.ofNat 69, Char.ofNat 120, Char.ofNat 97, Char.ofNat 99, Char.ofNat 116, Char.ofNat 67, Char.ofNat 104, Char.ofNat 105, Char.ofNat 112, Char.ofNat 78, Char.ofNat 101, Char.ofNat 119, Char.ofNat 32, Char.ofNat 108, Char.ofNat 111, Char.ofNat 111, Char.ofNat 112, Char.ofNat 46, Char.ofNat 101, Char.ofNat 120, Char.ofNat 97, Char.ofNat 109, Char.ofNat 112, Char.ofNat 108, Char.ofNat 101, Char.ofNat 47, Char.ofNat 103, Char.ofNat 48, Char.ofNat 48, Char.ofNat 50, Char.ofNat 56, Char.ofNat 53, Char.ofNat 47, Char.ofNat 108] ++ [Char.ofNat 97, Char.ofNat 119, Char.ofNat 115, Char.ofNat 46, Char.ofNat 70, Char.ofNat 110, Char.ofNat 69, Char.ofNat 120, Char.ofNat 97, Char.ofNat 99, Char.ofNat 116, Char.ofNat 80, Char.ofNat 117, Char.ofNat 116, Char.ofNat 82, Char.ofNat 101, Char.ofNat 99, Char.ofNat 32, Char.ofNat 108, Char.ofNat 111, Char.ofNat 111, Char.ofNat 112, Char.ofNat 46, Char.ofNat 101, Char.ofNat 120, Char.ofNat 97, Char.ofNat 109, Char.ofNat 112, Char.ofNat 108, Char.ofNat 101, Char.ofNat 47, Char.ofNat 103, Char.ofNat 48, Char.ofNat 48, Char.ofNat 50, Char.ofNat 56, Char.ofNat 53, Char.ofNat 47, Char.ofNat 108, Char.ofNat 97, Char.ofNat 119, Char.ofNat 115, Char.ofNat 46, Char.ofNat 70, Char.ofNat 110, Char.ofNat 69, Char.ofNat 120, Char.ofNat 97, Char.ofNat 99, Char.ofNat 116, Char.ofNat 87, Char.ofNat 111, Char.ofNat 114, Char.ofNat 110, Char.ofNat 79, Char.ofNat 102, Char.ofNat 32, Char.ofNat 108, Char.ofNat 111, Char.ofNat 111] ++ [Char.ofNat 112, Char.ofNat 46, Char.ofNat 101, Char.ofNat 120, Char.ofNat 97, Char.ofNat 109, Char.ofNat 112, Char.ofNat 108, Char.ofNat 101, Char.ofNat 47, Char.ofNat 103, Char.ofNat 48, Char.ofNat 48, Char.ofNat 50, Char.ofNat 56, Char.ofNat 53, Char.ofNat 47, Char.ofNat 108, Char.ofNat 97, Char.ofNat 119, Char.ofNat 115, Char.ofNat 46, Char.ofNat 70, Char.ofNat 110, Char.ofNat 69, Char.ofNat 120, Char.ofNat 97, Char.ofNat 99, Char.ofNat 116, Char.ofNat 71, Char.ofNat 101, Char.ofNat 116, Char.ofNat 79, Char.ofNat 112, Char.ofNat 32, Char.ofNat 108, Char.ofNat 111, Char.ofNat 111, Char.ofNat 112, Char.ofNat 46, Char.ofNat 101, Char.ofNat 120, Char.ofNat 97, Char.ofNat 109, Char.ofNat 112, Char.ofNat 108, Char.ofNat 101, Char.ofNat 47, Char.ofNat 103, Char.ofNat 48, Char.ofNat 48, Char.ofNat 50, Char.ofNat 56, Char.ofNat 53, Char.ofNat 47, Char.ofNat 108, Char.ofNat 97, Char.ofNat 119, Char.ofNat 115, Char.ofNat 46] ++ [Char.ofNat 70, Char.ofNat 110, Char.ofNat 69, Char.ofNat 120, Char.ofNat 97, Char.ofNat 99, Char.ofNat 116, Char.ofNat 78, Char.ofNat 101, Char.ofNat 120, Char.ofNat 116, Char.ofNat 80, Char.ofNat 97, Char.ofNat 103, Char.ofNat 101, Char.ofNat 32, Char.ofNat 108, Char.ofNat 111, Char.ofNat 111, Char.ofNat 112, Char.ofNat 46, Char.ofNat 101, Char.ofNat 120, Char.ofNat 97, Char.ofNat 109, Char.ofNat 112, Char.ofNat 108, Char.ofNat 101, Char.ofNat 47, Char.ofNat 103, Char.ofNat 48, Char.ofNat 48, Char.ofNat 50, Char.ofNat 56, Char.ofNat 53, Char.ofNat 47, Char.ofNat 108, Char.ofNat 97, Char.ofNat 119, Char.ofNat 115, Char.ofNat 46, Char.ofNat 70, Char.ofNat 110, Char.ofNat 69, Char.ofNat 120, Char.ofNat 97, Char.ofNat 99, Char.ofNat 116, Char.ofNat 67, Char.ofNat 104, Char.ofNat 105, Char.ofNat 112, Char.ofNat 79, Char.ofNat 107, Char.ofNat 32, Char.ofNat 108, Char.ofNat 111, Char.ofNat 111, Char.ofNat 112, Char.ofNat 46] ++ [Char.ofNat 101, Char.ofNat 120, Char.ofNat 97, Char.ofNat 109, Char.ofNat 112, Char.ofNat 108, Char.ofNat 101, Char.ofNat 47, Char.ofNat 103, Char.ofNat 48, Char.ofNat 48, Char.ofNat 50, Char.ofNat 56, Char.ofNat 53, Char.ofNat 47, Char.ofNat 108, Char.ofNat 97, Char.ofNat 119, Char.ofNat 115, Char.ofNat 46, Char.ofNat 70, Char.ofNat 110, Char.ofNat 82, Char.ofNat 101, Char.ofNat 99, Char.ofNat 115, Char.ofNat 32, Char.ofNat 108, Char.ofNat 111, Char.ofNat 111, Char.ofNat 112, Char.ofNat 46, Char.ofNat 101, Char.ofNat 120, Char.ofNat 97, Char.ofNat 109, Char.ofNat 112, Char.ofNat 108, Char.ofNat 101, Char.ofNat 47, Char.ofNat 103, Char.ofNat 48, Char.ofNat 48, Char.ofNat 50, Char.ofNat 56, Char.ofNat 53, Char.ofNat 47, Char.ofNat 108, Char.ofNat 97, Char.ofNat 119, Char.ofNat 115, Char.ofNat 46, Char.ofNat 70, Char.ofNat 110, Char.ofNat 69, Char.ofNat 120, Char.ofNat 97, Char.ofNat 99, Char.ofNat 116, Char.ofNat 82] ++ [Char.ofNat 101, Char.ofNat 97, Char.ofNat 100, Char.ofNat 80, Char.ofNat 97, Char.ofNat 103, Char.ofNat 101, Char.ofNat 32, Char.ofNat 108, Char.ofNat 111, Char.ofNat 111, Char.ofNat 112, Char.ofNat 46, Char.ofNat 101, Char.ofNat 120, Char.ofNat 97, Char.ofNat 109, Char.ofNat 112, Char.ofNat 108, Char.ofNat 101, Char.ofNat 47, Char.ofNat 103, Char.ofNat 48, Char.ofNat 48, Char.ofNat 50, Char.ofNat 56, Char.ofNat 53, Char.ofNat 47, Char.ofNat 108, Char.ofNat 97, Char.ofNat 119, Char.ofNat 115, Char.ofNat 46, Char.ofNat 70, Char.ofNat 110, Char.ofNat 78, Char.ofNat 101, Char.ofNat 119, Char.ofNat 67, Char.ofNat 104, Char.ofNat 105, Char.ofNat 112, Char.ofNat 115, Char.ofNat 32, Char.ofNat 108, Char.ofNat 111, Char.ofNat 111, Char.ofNat 112, Char.ofNat 46, Char.ofNat 101, Char.ofNat 120, Char.ofNat 97, Char.ofNat 109, Char.ofNat 112, Char.ofNat 108, Char.ofNat 101, Char.ofNat 47, Char.ofNat 103, Char.ofNat 48, Char.ofNat 48] ++ [Char.ofNat 50, Char.ofNat 56, Char.ofNat 53, Char.ofNat 47, Char.ofNat 108, Char.ofNat 97, Char.ofNat 119, Char.ofNat 115, Char.ofNat 46, Char.ofNat 70, Char.ofNat 110, Char.ofNat 73, Char.ofNat 110, Char.ofNat 84, Char.ofNat 117, Char.ofNat 114, Char.ofNat 110, Char.ofNat 32, Char.ofNat 108, Char.ofNat 111, Char.ofNat 111, Char.ofNat 112, Char.ofNat 46, Char.ofNat 101, Char.ofNat 120, Char.ofNat 97, Char.ofNat 109, Char.ofNat 112, Char.ofNat 108, Char.ofNat 101, Char.ofNat 47, Char.ofNat 103, Char.ofNat 48, Char.ofNat 48, Char.ofNat 50, Char.ofNat 56, Char.ofNat 53, Char.ofNat 47, Char.ofNat 108, Char.ofNat 97, Char.ofNat 119, Char.ofNat 115, Char.ofNat 46, Char.ofNat 70, Char.ofNat 110, Char.ofNat 69, Char.ofNat 120, Char.ofNat 97, Char.ofNat 99, Char.ofNat 116, Char.ofNat 71, Char.ofNat 101, Char.ofNat 116, Char.ofNat 82, Char.ofNat 101, Char.ofNat 99, Char.ofNat 32, Char.ofNat 108, Char.ofNat 111, Char.ofNat 111] ++ [Char.ofNat 112, Char.ofNat 46, Char.ofNat 101, Char.ofNat 120, Char.ofNat 97, Char.ofNat 109, Char.ofNat 112, Char.ofNat 108, Char.ofNat 101, Char.ofNat 47, Char.ofNat 103, Char.ofNat 48, Char.ofNat 48, Char.ofNat 50, Char.ofNat 56, Char.ofNat 53, Char.ofNat 47, Char.ofNat 108, Char.ofNat 97, Char.ofNat 119, Char.ofNat 115, Char.ofNat 46, Char.ofNat 70, Char.ofNat 110, Char.ofNat 69, Char.ofNat 120, Char.ofNat 97, Char.ofNat 99, Char.ofNat 116, Char.ofNat 70, Char.ofNat 97, Char.ofNat 117, Char.ofNat 108, Char.ofNat 116, Char.ofNat 65, Char.ofNat 116, Char.ofNat 32, Char.ofNat 108, Char.ofNat 111, Char.ofNat 111, Char.ofNat 112, Char.ofNat 46, Char.ofNat 101, Char.ofNat 120, Char.ofNat 97, Char.ofNat 109, Char.ofNat 112, Char.ofNat 108, Char.ofNat 101, Char.ofNat 47, Char.ofNat 103, Char.ofNat 48, Char.ofNat 48, Char.ofNat 50, Char.ofNat 56, Char.ofNat 53, Char.ofNat 47, Char.ofNat 108, Char.ofNat 97, Char.ofNat 119] ++ [Char.ofNat 115, Char.ofNat 46, Char.ofNat 70, Char.ofNat 110, Char.ofNat 69, Char.ofNat 114, Char.ofNat 97, Char.ofNat 115, Char.ofNat 101, Char.ofNat 100, Char.ofNat 32, Char.ofNat 108, Char.ofNat 111, Char.ofNat 111, Char.ofNat 112, Char.ofNat 46, Char.ofNat 101, Char.ofNat 120, Char.ofNat 97, Char.ofNat 109, Char.ofNat 112, Char.ofNat 108, Char.ofNat 101, Char.ofNat 47, Char.ofNat 103, Char.ofNat 48, Char.ofNat 48, Char.ofNat 50, Char.ofNat 56, Char.ofNat 53, Char.ofNat 47, Char.ofNat 108, Char.ofNat 97, Char.ofNat 119, Char.ofNat 115, Char.ofNat 46, Char.ofNat 70, Char.ofNat 110, Char.ofNat 67, Char.ofNat 104, Char.ofNat 105, Char.ofNat 112, Char.ofNat 115, Char.ofNat 32, Char.ofNat 108, Char.ofNat 111, Char.ofNat 111, Char.ofNat 112, Char.ofNat 46, Char.ofNat 101, Char.ofNat 120, Char.ofNat 97, Char.ofNat 109, Char.ofNat 112, Char.ofNat 108, Char.ofNat 101, Char.ofNat 47, Char.ofNat 103, Char.ofNat 48, Char.ofNat 48] ++ [Char.ofNat 50, Char.ofNat 56, Char.ofNat 53, Char.ofNat 47, Char.ofNat 108, Char.ofNat 97, Char.ofNat 119, Char.ofNat 115, Char.ofNat 46, Char.ofNat 70, Char.ofNat 110, Char.ofNat 82, Char.ofNat 101, Char.ofNat 99, Char.ofNat 115, Char.ofNat 82, Char.ofNat 101, Char.ofNat 97, Char.ofNat 100, Char.ofNat 32, Char.ofNat 108, Char.ofNat 111, Char.ofNat 111, Char.ofNat 112, Char.ofNat 46, Char.ofNat 101, Char.ofNat 120, Char.ofNat 97, Char.ofNat 109, Char.ofNat 112, Char.ofNat 108, Char.ofNat 101, Char.ofNat 47, Char.ofNat 103, Char.ofNat 48, Char.ofNat 48, Char.ofNat 50, Char.ofNat 56, Char.ofNat 53, Char.ofNat 47, Char.ofNat 108, Char.ofNat 97, Char.ofNat 119, Char.ofNat 115, Char.ofNat 46, Char.ofNat 70, Char.ofNat 110, Char.ofNat 69, Char.ofNat 120, Char.ofNat 97, Char.ofNat 99, Char.ofNat 116, Char.ofNat 68, Char.ofNat 101, Char.ofNat 118, Char.ofNat 79, Char.ofNat 107, Char.ofNat 32, Char.ofNat 108, Char.ofNat 111] ++ [Char.ofNat 111, Char.ofNat 112, Char.ofNat 46, Char.ofNat 101, Char.ofNat 120, Char.ofNat 97, Char.ofNat 109, Char.ofNat 112, Char.ofNat 108, Char.ofNat 101, Char.ofNat 47, Char.ofNat 103, Char.ofNat 48, Char.ofNat 48, Char.ofNat 50, Char.ofNat 56, Char.ofNat 53, Char.ofNat 47, Char.ofNat 108, Char.ofNat 97, Char.ofNat 119, Char.ofNat 115, Char.ofNat 46, Char.ofNat 70, Char.ofNat 110, Char.ofNat 69, Char.ofNat 120, Char.ofNat 97, Char.ofNat 99, Char.ofNat 116, Char.ofNat 70, Char.ofNat 114, Char.ofNat 101, Char.ofNat 101, Char.ofNat 66, Char.ofNat 108, Char.ofNat 111, Char.ofNat 99, Char.ofNat 107, Char.ofNat 115, Char.ofNat 32, Char.ofNat 108, Char.ofNat 111, Char.ofNat 111, Char.ofNat 112, Char.ofNat 46, Char.ofNat 101, Char.ofNat 120, Char.ofNat 97, Char.ofNat 109, Char.ofNat 112, Char.ofNat 108, Char.ofNat 101, Char.ofNat 47, Char.ofNat 103, Char.ofNat 48, Char.ofNat 48, Char.ofNat 50, Char.ofNat 56, Char.ofNat 53] ++ [Char.ofNat 47, Char.ofNat 108, Char.ofNat 97, Char.ofNat 119, Char.ofNat 115, Char.ofNat 46, Char.ofNat 70, Char.ofNat 110, Char.ofNat 69, Char.ofNat 120, Char.ofNat 97, Char.ofNat 99, Char.ofNat 116, Char.ofNat 68, Char.ofNat 101, Char.ofNat 118, Char.ofNat 78, Char.ofNat 101, Char.ofNat 119, Char.ofNat 32, Char.ofNat 108, Char.ofNat 111, Char.ofNat 111, Char.ofNat 112, Char.ofNat 46, Char.ofNat 101, Char.ofNat 120, Char.ofNat 97, Char.ofNat 109, Char.ofNat 112, Char.ofNat 108, Char.ofNat 101, Char.ofNat 47, Char.ofNat 103, Char.ofNat 48, Char.ofNat 48, Char.ofNat 50, Char.ofNat 56, Char.ofNat 53, Char.ofNat 47, Char.ofNat 108, Char.ofNat 97, Char.ofNat 119, Char.ofNat 115, Char.ofNat 46, Char.ofNat 70, Char.ofNat 110, Char.ofNat 69, Char.ofNat 120, Char.ofNat 97, Char.ofNat 99, Char.ofNat 116, Char.ofNat 69, Char.ofNat 114, Char.ofNat 97, Char.ofNat 115, Char.ofNat 101, Char.ofNat 32, Char.ofNat 108, Char.ofNat 111] ++ [Char.ofNat 111, Char.ofNat 112, Char.ofNat 46, Char.ofNat 101, Char.ofNat 120, Char.ofNat 97, Char.ofNat 109, Char.ofNat 112, Char.ofNat 108, Char.ofNat 101, Char.ofNat 47, Char.ofNat 103, Char.ofNat 48, Char.ofNat 48, Char.ofNat 50, Char.ofNat 56, Char.ofNat 53, Char.ofNat 47, Char.ofNat 108, Char.ofNat 97, Char.ofNat 119, Char.ofNat 115, Char.ofNat 46, Char.ofNat 70, Char.ofNat 110, Char.ofNat 69, Char.ofNat 120, Char.ofNat 97, Char.ofNat 99, Char.ofNat 116, Char.ofNat 80, Char.ofNat 114, Char.ofNat 111, Char.ofNat 103, Char.ofNat 114, Char.ofNat 97, Char.ofNat 109, Char.ofNat 32, Char.ofNat 108, Char.ofNat 111, Char.ofNat 111, Char.ofNat 112, Char.ofNat 46, Char.ofNat 101, Char.ofNat 120, Char.ofNat 97, Char.ofNat 109, Char.ofNat 112, Char.ofNat 108, Char.ofNat 101, Char.ofNat 47, Char.ofNat 103, Char.ofNat 48, Char.ofNat 48, Char.ofNat 50, Char.ofNat 56, Char.ofNat 53, Char.ofNat 47, Char.ofNat 108, Char.ofNat 97] ++ [Char.ofNat 119, Char.ofNat 115, Char.ofNat 46, Char.ofNat 70, Char.ofNat 110, Char.ofNat 69, Char.ofNat 120, Char.ofNat 97, Char.ofNat 99, Char.ofNat 116, Char.ofNat 80, Char.ofNat 111, Char.ofNat 119, Char.ofNat 101, Char.ofNat 114, Char.ofNat 85, Char.ofNat 112, Char.ofNat 32, Char.ofNat 108, Char.ofNat 111, Char.ofNat 111, Char.ofNat 112, Char.ofNat 46, Char.ofNat 101, Char.ofNat 120, Char.ofNat 97, Char.ofNat 109, Char.ofNat 112, Char.ofNat 108, Char.ofNat 101, Char.ofNat 47, Char.ofNat 103, Char.ofNat 48, Char.ofNat 48, Char.ofNat 50, Char.ofNat 56, Char.ofNat 53, Char.ofNat 47, Char.ofNat 108, Char.ofNat 97, Char.ofNat 119, Char.ofNat 115, Char.ofNat 46, Char.ofNat 70, Char.ofNat 110, Char.ofNat 68, Char.ofNat 101, Char.ofNat 118, Char.ofNat 115, Char.ofNat 32, Char.ofNat 108, Char.ofNat 111, Char.ofNat 111, Char.ofNat 112, Char.ofNat 46, Char.ofNat 101, Char.ofNat 120, Char.ofNat 97, Char.ofNat 109, Char.ofNat 112] ++ [Char.ofNat 108, Char.ofNat 101, Char.ofNat 47, Char.ofNat 103, Char.ofNat 48, Char.ofNat 48, Char.ofNat 50, Char.ofNat 56, Char.ofNat 53, Char.ofNat 47, Char.ofNat 108, Char.ofNat 97, Char.ofNat 119, Char.ofNat 115, Char.ofNat 46, Char.ofNat 70, Char.ofNat 110, Char.ofNat 68, Char.ofNat 101, Char.ofNat 118, Char.ofNat 69, Char.ofNat 114, Char.ofNat 97, Char.ofNat 115, Char.ofNat 101, Char.ofNat 100, Char.ofNat 32, Char.ofNat 108, Char.ofNat 111, Char.ofNat 111, Char.ofNat 112, Char.ofNat 46, Char.ofNat 101, Char.ofNat 120, Char.ofNat 97, Char.ofNat 109, Char.ofNat 112, Char.ofNat 108, Char.ofNat 101, Char.ofNat 47, Char.ofNat 103, Char.ofNat 48, Char.ofNat 48, Char.ofNat 50, Char.ofNat 56, Char.ofNat 53, Char.ofNat 47, Char.ofNat 108, Char.ofNat 97, Char.ofNat 119, Char.ofNat 115, Char.ofNat 46, Char.ofNat 70, Char.ofNat 110, Char.ofNat 80, Char.ofNat 111, Char.ofNat 119, Char.ofNat 101, Char.ofNat 114, Char.ofNat 115] ++ [Char.ofNat 32, Char.ofNat 108, Char.ofNat 111, Char.ofNat 111, Char.ofNat 112, Char.ofNat 46, Char.ofNat 101, Char.ofNat 120, Char.ofNat 97, Char.ofNat 109, Char.ofNat 112, Char.ofNat 108, Char.ofNat 101, Char.ofNat 47, Char.ofNat 103, Char.ofNat 48, Char.ofNat 48, Char.ofNat 50, Char.ofNat 56, Char.ofNat 53, Char.ofNat 47, Char.ofNat 108, Char.ofNat 97, Char.ofNat 119, Char.ofNat 115, Char.ofNat 46, Char.ofNat 70, Char.ofNat 110, Char.ofNat 69, Char.ofNat 120, Char.ofNat 97, Char.ofNat 99, Char.ofNat 116, Char.ofNat 68, Char.ofNat 101, Char.ofNat 118, Char.ofNat 69, Char.ofNat 114, Char.ofNat 97, Char.ofNat 115, Char.ofNat 101, Char.ofNat 32, Char.ofNat 108, Char.ofNat 111, Char.ofNat 111, Char.ofNat 112, Char.ofNat 46, Char.ofNat 101, Char.ofNat 120, Char.ofNat 97, Char.ofNat 109, Char.ofNat 112, Char.ofNat 108, Char.ofNat 101, Char.ofNat 47, Char.ofNat 103, Char.ofNat 48, Char.ofNat 48, Char.ofNat 50, Char.ofNat 56] ++ [Char.ofNat 53, Char.ofNat 47, Char.ofNat 108, Char.ofNat 97, Char.ofNat 119, Char.ofNat 115, Char.ofNat 46, Char.ofNat 70, Char.ofNat 110, Char.ofNat 69, Char.ofNat 120, Char.ofNat 97, Char.ofNat 99, Char.ofNat 116, Char.ofNat 68, Char.ofNat 101, Char.ofNat 118, Char.ofNat 80, Char.ofNat 114, Char.ofNat 111, Char.ofNat 103, Char.ofNat 114, Char.ofNat 97, Char.ofNat 109]
def ioSum : List Char := [Char.ofNat 98, Char.ofNat 51, Char.ofNat 102, Char.ofNat 55, Char.ofNat 99, Char.ofNat 48, Char.ofNat 100, Char.ofNat 99, Char.ofNat 52, Char.ofNat 51, Char.ofNat 51, Char.ofNat 102, Char.ofNat 99, Char.ofNat 98, Char.ofNat 52, Char.ofNat 55, Char.ofNat 53, Char.ofNat 52, Char.ofNat 55, Char.ofNat 49, Char.ofNat 102, Char.ofNat 53, Char.ofNat 56, Char.ofNat 48, Char.ofNat 101, Char.ofNat 102, Char.ofNat 54, Char.ofNat 97, Char.ofNat 99, Char.ofNat 57, Char.ofNat 54, Char.ofNat 49, Char.ofNat 100, Char.ofNat 51, Char.ofNat 97, Char.ofNat 55, Char.ofNat 99, Char.ofNat 57, Char.ofNat 57, Char.ofNat 53, Char.ofNat 49, Char.ofNat 100, Char.ofNat 100, Char.ofNat 49, Char.ofNat 51, Char.ofNat 52, Char.ofNat 101, Char.ofNat 102, Char.ofNat 98, Char.ofNat 98, Char.ofNat 99, Char.ofNat 56, Char.ofNat 53, Char.ofNat 98, Char.ofNat 99, Char.ofNat 53, Char.ofNat 49, Char.ofNat 48, Char.ofNat 52, Char.ofNat 48, Char.ofNat 48, Char.ofNat 100, Char.ofNat 97, Char.ofNat 98]
theorem ioText : Try.prog.initOrder = String.ofList ([Char.ofNat 104, Char.ofNat 97, Char.ofNat 114, Char.ofNat 110, Char.ofNat 101, Char.ofNat 115, Char.ofNat 115] ++ (Char.ofNat 32 :: ioSum) ++ [Char.ofNat 32, Char.ofNat 99, Char.ofNat 117, Char.ofNat 116, Char.ofNat 32] ++ ioTail) := by kernel_rfl
theorem ioWords : ∃ r, behindMainWord (wordsSigns Try.prog.initOrder.toList) = [Char.ofNat 99, Char.ofNat 117, Char.ofNat 116] :: r := by
  rw [ioText, String.toList_ofList]
  exact ⟨wordsSigns ioTail, by kernel_rfl⟩
theorem f_laid : (laidOutB Try.prog) = true := by kernel_rfl
theorem f_maps : (mapsRowed Try.prog) = true := by kernel_rfl
theorem f_stops : ((Try.prog.stops == [])) = true := by kernel_rfl
theorem f_knobs : ((Try.prog.stopKnobs == [])) = true := by kernel_rfl
theorem f_heard : (Try.prog.stopsHeard) = true := by kernel_rfl
theorem f_enter : (Try.prog.mayEnter) = true := by
  obtain ⟨r, hr⟩ := ioWords
  exact enter_of hr (by kernel_rfl) (by kernel_rfl) (by kernel_rfl)
theorem f_lifts : (false == Try.prog.liftsFinal) = true := by
  obtain ⟨r, hr⟩ := ioWords
  rw [lifts_of hr]
  rfl
theorem f_make : (Try.prog.make == some .cut) = true := by
  obtain ⟨r, hr⟩ := ioWords
  rw [make_of hr]
  rfl
end Go.Proofs.Ytliklgcfdgdigaa.Awp

namespace Go.Proofs.Ytliklgcfdgdigaa.Awp
open Go.Proofs Go.Proofs.Ytliklgcfdgdigaa
set_option linter.unusedSimpArgs false
set_option linter.unusedVariables false
set_option maxRecDepth 100000

theorem j0_FnInTurn : (Rows.fnInTurnRow.wf (OpenSpec.ofChange Rows.fnInTurnSpec)) = true := by kernel_rfl
theorem j3_FnInTurn : (Try.f15.params.all (Try.prog.readableRec ·)) = true := by kernel_rfl
theorem j4_FnInTurn : (namedTie Try.prog Rows.fnInTurnRow.named Rows.fnInTurnSpec.vars) = true := by kernel_rfl
theorem j5_FnInTurn : ((Rows.fnInTurnRow.stops == [])) = true := by kernel_rfl
theorem j7_FnInTurn : ((Rows.fnInTurnRow.knobs == [])) = true := by kernel_rfl
theorem j9_FnInTurn : ((Rows.fnInTurnRow.inPlace == Try.prog.inPlace 15)) = true := by kernel_rfl
theorem j10_FnInTurn : ((Rows.fnInTurnRow.unfollowed == Try.prog.unfollowed 15)) = true := by kernel_rfl
theorem j11_FnInTurn : ((Rows.fnInTurnRow.recurses == Try.prog.recurses 15)) = true := by kernel_rfl
theorem j12_FnInTurn : ((Rows.fnInTurnRow.named == Try.prog.varsNamed 15)) = true := by kernel_rfl
theorem j13_FnInTurn : ((Rows.fnInTurnRow.maps == (Try.f15.params.toList ++ Rows.fnInTurnSpec.plain.varTypes Try.prog).any (Try.prog.mapsRec ·))) = true := by kernel_rfl
theorem j14_FnInTurn : ((Rows.fnInTurnRow.ifaces == (Try.f15.params.toList ++ Rows.fnInTurnSpec.plain.varTypes Try.prog).any (Try.prog.ifacesRec ·))) = true := by kernel_rfl
theorem j15_FnInTurn : ((Rows.fnInTurnRow.mapsOut == Try.prog.mapsAmong Try.f15.resultTypes.toList)) = true := by kernel_rfl
theorem j16_FnInTurn : ((Rows.fnInTurnRow.loops == (Try.f15.params.toList ++ Rows.fnInTurnSpec.plain.varTypes Try.prog).any (Try.prog.loopsFrom ·))) = true := by kernel_rfl
theorem j17_FnInTurn : ((Rows.fnInTurnRow.wideKeys == (Try.f15.params.toList ++ Rows.fnInTurnSpec.plain.varTypes Try.prog ++ Try.f15.resultTypes.toList).any (Try.prog.wideKeysFrom ·))) = true := by kernel_rfl
theorem j18_FnInTurn : (Rows.fnInTurnSpec.vars.all (Try.prog.varReadable ·)) = true := by kernel_rfl
theorem j19_FnInTurn : (Try.f15.resultTypes.all (fun t => Try.prog.readableRec t && decide (t < Try.prog.types.size))) = true := by kernel_rfl
theorem j20_FnInTurn : ((Rows.fnInTurnRow.ifacesOut == Try.f15.resultTypes.toList.any (Try.prog.ifacesRec ·))) = true := by kernel_rfl
theorem j21_FnInTurn : ((Rows.fnInTurnRow.loopsOut == Try.f15.resultTypes.toList.any (Try.prog.loopsFrom ·))) = true := by kernel_rfl
theorem j22_FnInTurn : ((Rows.fnInTurnRow.plainKeys == Try.prog.plainKeys)) = true := by kernel_rfl
theorem j23_FnInTurn : (Rows.fnInTurnRow.shortTexts.isNone) = true := by kernel_rfl
theorem j28_FnInTurn : ((Rows.fnInTurnRow.kinds == (if Rows.fnInTurnRow.domain.isEmpty then [] else Try.f15.params.toList.map fun t => match Try.prog.underlying t with | some (.int k) => some k | _ => none))) = true := by kernel_rfl
theorem j29_FnInTurn : ((Rows.fnInTurnRow.pinned == Rows.fnInTurnRow.pinnedBy)) = true := by kernel_rfl
theorem j30_FnInTurn : ((Rows.fnInTurnRow.veiled == (Try.f15.params.toList ++ Rows.fnInTurnSpec.plain.varTypes Try.prog ++ Try.f15.resultTypes.toList).any (Try.prog.veiledRec ·))) = true := by kernel_rfl
theorem j31_FnInTurn : (Rows.fnInTurnRow.veiledFits Try.prog Try.f15.params.toList (Try.f15.params.toList ++ Rows.fnInTurnSpec.plain.varTypes Try.prog ++ Try.f15.resultTypes.toList)) = true := by kernel_rfl
theorem jf_FnInTurn : joinedFacts Try.prog 15 Try.f15 Rows.fnInTurnSpec Rows.fnInTurnRow = true :=
  joined_of j0_FnInTurn f_laid f_maps j3_FnInTurn j4_FnInTurn j5_FnInTurn f_stops j7_FnInTurn f_knobs j9_FnInTurn j10_FnInTurn j11_FnInTurn j12_FnInTurn j13_FnInTurn j14_FnInTurn j15_FnInTurn j16_FnInTurn j17_FnInTurn j18_FnInTurn j19_FnInTurn j20_FnInTurn j21_FnInTurn j22_FnInTurn j23_FnInTurn f_heard f_enter f_lifts f_make j28_FnInTurn j29_FnInTurn j30_FnInTurn j31_FnInTurn

theorem lift_FnInTurn (os : Os) (started : os.Started) (H : Type) (enc : TypeId × Value → H) :
    ReturnsInHanded {} Try.checked os 15 .any (Rows.fnInTurnSpec.pre6 enc Try.prog Try.f15 Rows.fnInTurnRow.domain false) (Rows.fnInTurnSpec.post enc Try.prog Try.f15 false true false false) := by
  refine law_returns (C := Try.checked) (pars := [(false, [.sl 1 [.int .u8]])]) own started (by kernel_rfl) Try.func15
    (ChangeSpec.witness6 (enc := enc) (C := Try.checked) false ⟨#[], #[.slice none 0 0], []⟩ 8 (by kernel_rfl) (by kernel_rfl) (by kernel_rfl) (by kernel_rfl))
    rfl (by kernel_rfl) rfl (by kernel_rfl) ?_ ?_
  · intro ds hd
    match ds, hd with
    | [d0], _ => rfl
  · intro tss h
    match tss, h with
    | [t0], ⟨h0, _⟩ =>
      obtain ⟨r0, u0, rfl, l0, e0, k0⟩ := Shp.sl_inv h0
      obtain rfl := Shp.nil_inv k0
      obtain ⟨b, rfl⟩ := bytes_ofShp e0
      exact ⟨_, s_FnInTurn b (len_ofb l0)⟩

theorem hw_FnInTurn : Try.f15.isWrapper Try.prog Rows.fnInTurnRow.wrapper Rows.fnInTurnRow.mainSum := by
  unfold Func.isWrapper; first | (rw [if_pos (by decide +kernel)]; kernel_rfl) | (rw [if_neg (by decide +kernel)]; exact ⟨rfl, rfl⟩)

theorem law_FnInTurn : Rows.FnInTurnSaid :=
  OpenClaim.holds_of_wide 15 Try.f15 rfl rfl rfl rfl rfl rfl rfl ⟨rfl, rfl, rfl, rfl, rfl⟩ rfl rfl rfl rfl rfl (by kernel_rfl) Try.func15 jf_FnInTurn
    (of_decide_eq_true (by kernel_rfl)) hw_FnInTurn
    (fun os started H enc _ => lift_FnInTurn os started H enc)
end Go.Proofs.Ytliklgcfdgdigaa.Awp

namespace Go.Proofs.Ytliklgcfdgdigaa
/-- the given statement -/
theorem provedFnInTurn : Rows.FnInTurnSaid := Awp.law_FnInTurn
end Go.Proofs.Ytliklgcfdgdigaa
#print axioms Go.Proofs.Ytliklgcfdgdigaa.provedFnInTurn
