/- The law FnExactDevNew (the program's DevNew returns what the reference's DevNew returns, for all arguments) holds for every argument: the given statement FnExactDevNewSaid is proved. Condition: none. -/
import Derived.Test.YtliklgcfdgdigaaFnExactDevNewX1
import Derived.Test.YtliklgcfdgdigaaAwp4
import Derived.Test.YtliklgcfdgdigaaRows
import Derived.OpenShut
import Derived.KernelRfl
namespace Go.Proofs.Ytliklgcfdgdigaa.Awp
open Go.Proofs
set_option linter.unusedSimpArgs false
set_option linter.unusedVariables false
set_option maxRecDepth 100000
set_option maxHeartbeats 20000000

noncomputable def devOk (d : Dev) : Bool := chipOk d.c && (inR d.ops 0 100000 && faultsOk d.faults)
theorem sS_DevOk (d : Dev) (hf : d.fine) : Spec Try.prog 94 [d.x] (.bool (devOk d)) [.undef] := by
  obtain ⟨h1, h2⟩ := hf
  have hC := sS_ChipOk d.c h1
  cases hA : chipOk d.c with
  | false =>
    rw [hA] at hC
    refine spec_C hmx p_S_DevOk [] 7 [] ⟨Nat.le_of_ble_eq_true rfl, Nat.le_of_ble_eq_true rfl⟩ rfl rfl ?_
    intro w hP hmd hks hQ
    unfold c_S_DevOk
    simp +decide (maxSteps := 20000000) (disch := omega) only [↓SBK, ↓SBK2, SAU, SGs, SD, S1, S2, S3, SE, SC, SO, ST, SF, SK, bytes_len, bytes_get, Nat.reduceEqDiff, Nat.reduceAdd, Nat.reduceMul, Nat.reduceSub, ↓reduceIte, Int.reduceNeg, Int.reduceToNat, hmd, hks, Bool.beq_eq_decide_eq, Int.natCast_zero, Int.add_zero, ge_iff_le, gt_iff_lt, Option.isNone_none, Option.isNone_some, List.nil_append, List.append_nil, Bool.and_true, Bool.and_self, SB, Int.reducePow, hQ]
    (first | refine call_i hP (hC) (.inl ⟨rfl, fun _ hx => nomatch hx⟩) ?_ | refine callH_i hP (hC) (.inl ⟨rfl, fun _ hx => nomatch hx⟩) ?_)
    simp +decide (maxSteps := 20000000) (disch := omega) only [↓SBK, ↓SBK2, SAU, SGs, SD, S1, S2, S3, SE, SC, SO, ST, SF, SK, bytes_len, bytes_get, Nat.reduceEqDiff, Nat.reduceAdd, Nat.reduceMul, Nat.reduceSub, ↓reduceIte, Int.reduceNeg, Int.reduceToNat, hmd, hks, Bool.beq_eq_decide_eq, Int.natCast_zero, Int.add_zero, ge_iff_le, gt_iff_lt, Option.isNone_none, Option.isNone_some, List.nil_append, List.append_nil, Bool.and_true, Bool.and_self, SB, Int.reducePow, hQ]
    rw [devOk, hA]; rfl
  | true =>
    rw [hA] at hC
    cases hB : inR d.ops 0 100000 with
    | false =>
      refine spec_C hmx p_S_DevOk [] 7 [] ⟨Nat.le_of_ble_eq_true rfl, Nat.le_of_ble_eq_true rfl⟩ rfl rfl ?_
      intro w hP hmd hks hQ
      unfold c_S_DevOk
      simp +decide (maxSteps := 20000000) (disch := omega) only [↓SBK, ↓SBK2, SAU, SGs, SD, S1, S2, S3, SE, SC, SO, ST, SF, SK, bytes_len, bytes_get, Nat.reduceEqDiff, Nat.reduceAdd, Nat.reduceMul, Nat.reduceSub, ↓reduceIte, Int.reduceNeg, Int.reduceToNat, hmd, hks, Bool.beq_eq_decide_eq, Int.natCast_zero, Int.add_zero, ge_iff_le, gt_iff_lt, Option.isNone_none, Option.isNone_some, List.nil_append, List.append_nil, Bool.and_true, Bool.and_self, SB, Int.reducePow, hQ]
      (first | refine call_i hP (hC) (.inl ⟨rfl, fun _ hx => nomatch hx⟩) ?_ | refine callH_i hP (hC) (.inl ⟨rfl, fun _ hx => nomatch hx⟩) ?_)
      simp +decide (maxSteps := 20000000) (disch := omega) only [↓SBK, ↓SBK2, SAU, SGs, SD, S1, S2, S3, SE, SC, SO, ST, SF, SK, bytes_len, bytes_get, Nat.reduceEqDiff, Nat.reduceAdd, Nat.reduceMul, Nat.reduceSub, ↓reduceIte, Int.reduceNeg, Int.reduceToNat, hmd, hks, Bool.beq_eq_decide_eq, Int.natCast_zero, Int.add_zero, ge_iff_le, gt_iff_lt, Option.isNone_none, Option.isNone_some, List.nil_append, List.append_nil, Bool.and_true, Bool.and_self, SB, Int.reducePow, hQ]
      (first | refine call_i hP (s_l1In d.ops 0 100000) (.inl ⟨rfl, fun _ hx => nomatch hx⟩) ?_ | refine callH_i hP (s_l1In d.ops 0 100000) (.inl ⟨rfl, fun _ hx => nomatch hx⟩) ?_)
      simp +decide (maxSteps := 20000000) (disch := omega) only [↓SBK, ↓SBK2, SAU, SGs, SD, S1, S2, S3, SE, SC, SO, ST, SF, SK, bytes_len, bytes_get, Nat.reduceEqDiff, Nat.reduceAdd, Nat.reduceMul, Nat.reduceSub, ↓reduceIte, Int.reduceNeg, Int.reduceToNat, hmd, hks, Bool.beq_eq_decide_eq, Int.natCast_zero, Int.add_zero, ge_iff_le, gt_iff_lt, Option.isNone_none, Option.isNone_some, List.nil_append, List.append_nil, Bool.and_true, Bool.and_self, SB, Int.reducePow, hQ, hB]
      rw [devOk, hA, hB]; rfl
    | true =>
      refine spec_C hmx p_S_DevOk [] 7 [] ⟨Nat.le_of_ble_eq_true rfl, Nat.le_of_ble_eq_true rfl⟩ rfl rfl ?_
      intro w hP hmd hks hQ
      unfold c_S_DevOk
      simp +decide (maxSteps := 20000000) (disch := omega) only [↓SBK, ↓SBK2, SAU, SGs, SD, S1, S2, S3, SE, SC, SO, ST, SF, SK, bytes_len, bytes_get, Nat.reduceEqDiff, Nat.reduceAdd, Nat.reduceMul, Nat.reduceSub, ↓reduceIte, Int.reduceNeg, Int.reduceToNat, hmd, hks, Bool.beq_eq_decide_eq, Int.natCast_zero, Int.add_zero, ge_iff_le, gt_iff_lt, Option.isNone_none, Option.isNone_some, List.nil_append, List.append_nil, Bool.and_true, Bool.and_self, SB, Int.reducePow, hQ]
      (first | refine call_i hP (hC) (.inl ⟨rfl, fun _ hx => nomatch hx⟩) ?_ | refine callH_i hP (hC) (.inl ⟨rfl, fun _ hx => nomatch hx⟩) ?_)
      simp +decide (maxSteps := 20000000) (disch := omega) only [↓SBK, ↓SBK2, SAU, SGs, SD, S1, S2, S3, SE, SC, SO, ST, SF, SK, bytes_len, bytes_get, Nat.reduceEqDiff, Nat.reduceAdd, Nat.reduceMul, Nat.reduceSub, ↓reduceIte, Int.reduceNeg, Int.reduceToNat, hmd, hks, Bool.beq_eq_decide_eq, Int.natCast_zero, Int.add_zero, ge_iff_le, gt_iff_lt, Option.isNone_none, Option.isNone_some, List.nil_append, List.append_nil, Bool.and_true, Bool.and_self, SB, Int.reducePow, hQ]
      (first | refine call_i hP (s_l1In d.ops 0 100000) (.inl ⟨rfl, fun _ hx => nomatch hx⟩) ?_ | refine callH_i hP (s_l1In d.ops 0 100000) (.inl ⟨rfl, fun _ hx => nomatch hx⟩) ?_)
      simp +decide (maxSteps := 20000000) (disch := omega) only [↓SBK, ↓SBK2, SAU, SGs, SD, S1, S2, S3, SE, SC, SO, ST, SF, SK, bytes_len, bytes_get, Nat.reduceEqDiff, Nat.reduceAdd, Nat.reduceMul, Nat.reduceSub, ↓reduceIte, Int.reduceNeg, Int.reduceToNat, hmd, hks, Bool.beq_eq_decide_eq, Int.natCast_zero, Int.add_zero, ge_iff_le, gt_iff_lt, Option.isNone_none, Option.isNone_some, List.nil_append, List.append_nil, Bool.and_true, Bool.and_self, SB, Int.reducePow, hQ, hB]
      (first | refine call_i hP (sS_l11Faults d.faults h2) (.inl ⟨rfl, fun _ hx => nomatch hx⟩) ?_ | refine callH_i hP (sS_l11Faults d.faults h2) (.inl ⟨rfl, fun _ hx => nomatch hx⟩) ?_)
      simp +decide (maxSteps := 20000000) (disch := omega) only [↓SBK, ↓SBK2, SAU, SGs, SD, S1, S2, S3, SE, SC, SO, ST, SF, SK, bytes_len, bytes_get, Nat.reduceEqDiff, Nat.reduceAdd, Nat.reduceMul, Nat.reduceSub, ↓reduceIte, Int.reduceNeg, Int.reduceToNat, hmd, hks, Bool.beq_eq_decide_eq, Int.natCast_zero, Int.add_zero, ge_iff_le, gt_iff_lt, Option.isNone_none, Option.isNone_some, List.nil_append, List.append_nil, Bool.and_true, Bool.and_self, SB, Int.reducePow, hQ]
      rw [devOk, hA, hB]; rfl
theorem sI_DevOk (d : Dev) (hf : d.fine) : Spec Try.prog 95 [d.x] (.bool (devOk d)) [.undef] := by
  obtain ⟨hf1, hf2⟩ := hf
  have hCk := sI_ChipOk d.c hf1
  have hno : ∀ i, (h : i < d.faults.length) → faultOk d.faults i = false → devOk d = false := by
    intro i h e
    rw [devOk, faultsOk, faultsIn_no h e]
    simp
  refine spec_C hmx p_I_DevOk [] 479 [] ⟨Nat.le_of_ble_eq_true rfl, Nat.le_of_ble_eq_true rfl⟩ rfl rfl ?_
  intro w hP hmd hks hQ
  unfold c_I_DevOk
  simp +decide (maxSteps := 20000000) (disch := omega) only [↓SBK, ↓SBK2, SAU, SGs, SD, S1, S2, S3, SE, SC, SO, ST, SF, SK, bytes_len, bytes_get, Nat.reduceEqDiff, Nat.reduceAdd, Nat.reduceMul, Nat.reduceSub, ↓reduceIte, Int.reduceNeg, Int.reduceToNat, hmd, hks, Bool.beq_eq_decide_eq, Int.natCast_zero, Int.add_zero, ge_iff_le, gt_iff_lt, Option.isNone_none, Option.isNone_some, List.nil_append, List.append_nil, Bool.and_true, Bool.and_self, SB, Int.reducePow, hQ]
  refine LH_D [2, 3, 4, 5004] ?_
  simp +decide (maxSteps := 20000000) (disch := omega) only [↓SBK, ↓SBK2, SAU, SGs, SD, S1, S2, S3, SE, SC, SO, ST, SF, SK, bytes_len, bytes_get, Nat.reduceEqDiff, Nat.reduceAdd, Nat.reduceMul, Nat.reduceSub, ↓reduceIte, Int.reduceNeg, Int.reduceToNat, hmd, hks, Bool.beq_eq_decide_eq, Int.natCast_zero, Int.add_zero, ge_iff_le, gt_iff_lt, Option.isNone_none, Option.isNone_some, List.nil_append, List.append_nil, Bool.and_true, Bool.and_self, SB, Int.reducePow, hQ]
  refine loop_d [2, 3, 4, 5004] (fun i : Nat => [(8, .int .i64 i)]) (fun i => i ≤ d.faults.length ∧ ∀ k, k < i → faultOk d.faults k = true) (fun i => d.faults.length - i) (0) hP hmd hks (rfl) (by simp) ?_
  rintro i ⟨hi, hk⟩ w1 hP1 hmd1 hks1 hQ1
  simp +decide (maxSteps := 20000000) (disch := omega) only [↓SBK, ↓SBK2, SAU, SGs, SD, S1, S2, S3, SE, SC, SO, ST, SF, SK, bytes_len, bytes_get, Nat.reduceEqDiff, Nat.reduceAdd, Nat.reduceMul, Nat.reduceSub, ↓reduceIte, Int.reduceNeg, Int.reduceToNat, hmd, hks, Bool.beq_eq_decide_eq, Int.natCast_zero, Int.add_zero, ge_iff_le, gt_iff_lt, Option.isNone_none, Option.isNone_some, List.nil_append, List.append_nil, Bool.and_true, Bool.and_self, SB, Int.reducePow, hQ, hmd1, hks1, hQ1]
  (first | with_reducible refine if_d _ ?_ ?_ | refine if_i _ ?_ ?_) <;> intro h1
  · have hat := faultOk_at (l := d.faults) (i := i) (by omega)
    cases hA : inR (d.faults[i]'(by omega)).at' 0 100000 with
    | false =>
      simp +decide (maxSteps := 20000000) (disch := omega) only [↓SBK, ↓SBK2, SAU, SGs, SD, S1, S2, S3, SE, SC, SO, ST, SF, SK, bytes_len, bytes_get, Nat.reduceEqDiff, Nat.reduceAdd, Nat.reduceMul, Nat.reduceSub, ↓reduceIte, Int.reduceNeg, Int.reduceToNat, hmd, hks, Bool.beq_eq_decide_eq, Int.natCast_zero, Int.add_zero, ge_iff_le, gt_iff_lt, Option.isNone_none, Option.isNone_some, List.nil_append, List.append_nil, Bool.and_true, Bool.and_self, SB, Int.reducePow, hQ, hmd1, hks1, hQ1, getE h1]
      (first | refine call_i hP1 (s_from (d.faults[i]'(by omega)).at' 0 100000) (.inl ⟨rfl, fun _ hx => nomatch hx⟩) ?_ | refine callH_i hP1 (s_from (d.faults[i]'(by omega)).at' 0 100000) (.inl ⟨rfl, fun _ hx => nomatch hx⟩) ?_)
      simp +decide (maxSteps := 20000000) (disch := omega) only [↓SBK, ↓SBK2, SAU, SGs, SD, S1, S2, S3, SE, SC, SO, ST, SF, SK, bytes_len, bytes_get, Nat.reduceEqDiff, Nat.reduceAdd, Nat.reduceMul, Nat.reduceSub, ↓reduceIte, Int.reduceNeg, Int.reduceToNat, hmd, hks, Bool.beq_eq_decide_eq, Int.natCast_zero, Int.add_zero, ge_iff_le, gt_iff_lt, Option.isNone_none, Option.isNone_some, List.nil_append, List.append_nil, Bool.and_true, Bool.and_self, SB, Int.reducePow, hQ, hmd1, hks1, hQ1, hA]
      rw [hno i (by omega) (by rw [hat, hA]; rfl)]
    | true =>
      cases hB : inR (d.faults[i]'(by omega)).kind 1 2 with
      | false =>
        simp +decide (maxSteps := 20000000) (disch := omega) only [↓SBK, ↓SBK2, SAU, SGs, SD, S1, S2, S3, SE, SC, SO, ST, SF, SK, bytes_len, bytes_get, Nat.reduceEqDiff, Nat.reduceAdd, Nat.reduceMul, Nat.reduceSub, ↓reduceIte, Int.reduceNeg, Int.reduceToNat, hmd, hks, Bool.beq_eq_decide_eq, Int.natCast_zero, Int.add_zero, ge_iff_le, gt_iff_lt, Option.isNone_none, Option.isNone_some, List.nil_append, List.append_nil, Bool.and_true, Bool.and_self, SB, Int.reducePow, hQ, hmd1, hks1, hQ1, getE h1]
        (first | refine call_i hP1 (s_from (d.faults[i]'(by omega)).at' 0 100000) (.inl ⟨rfl, fun _ hx => nomatch hx⟩) ?_ | refine callH_i hP1 (s_from (d.faults[i]'(by omega)).at' 0 100000) (.inl ⟨rfl, fun _ hx => nomatch hx⟩) ?_)
        simp +decide (maxSteps := 20000000) (disch := omega) only [↓SBK, ↓SBK2, SAU, SGs, SD, S1, S2, S3, SE, SC, SO, ST, SF, SK, bytes_len, bytes_get, Nat.reduceEqDiff, Nat.reduceAdd, Nat.reduceMul, Nat.reduceSub, ↓reduceIte, Int.reduceNeg, Int.reduceToNat, hmd, hks, Bool.beq_eq_decide_eq, Int.natCast_zero, Int.add_zero, ge_iff_le, gt_iff_lt, Option.isNone_none, Option.isNone_some, List.nil_append, List.append_nil, Bool.and_true, Bool.and_self, SB, Int.reducePow, hQ, hmd1, hks1, hQ1, hA, getE h1]
        (first | refine call_i hP1 (s_from (d.faults[i]'(by omega)).kind 1 2) (.inl ⟨rfl, fun _ hx => nomatch hx⟩) ?_ | refine callH_i hP1 (s_from (d.faults[i]'(by omega)).kind 1 2) (.inl ⟨rfl, fun _ hx => nomatch hx⟩) ?_)
        simp +decide (maxSteps := 20000000) (disch := omega) only [↓SBK, ↓SBK2, SAU, SGs, SD, S1, S2, S3, SE, SC, SO, ST, SF, SK, bytes_len, bytes_get, Nat.reduceEqDiff, Nat.reduceAdd, Nat.reduceMul, Nat.reduceSub, ↓reduceIte, Int.reduceNeg, Int.reduceToNat, hmd, hks, Bool.beq_eq_decide_eq, Int.natCast_zero, Int.add_zero, ge_iff_le, gt_iff_lt, Option.isNone_none, Option.isNone_some, List.nil_append, List.append_nil, Bool.and_true, Bool.and_self, SB, Int.reducePow, hQ, hmd1, hks1, hQ1, hB]
        rw [hno i (by omega) (by rw [hat, hA, hB]; rfl)]
      | true =>
        cases hC : inR (d.faults[i]'(by omega)).keep 0 400 with
        | false =>
          simp +decide (maxSteps := 20000000) (disch := omega) only [↓SBK, ↓SBK2, SAU, SGs, SD, S1, S2, S3, SE, SC, SO, ST, SF, SK, bytes_len, bytes_get, Nat.reduceEqDiff, Nat.reduceAdd, Nat.reduceMul, Nat.reduceSub, ↓reduceIte, Int.reduceNeg, Int.reduceToNat, hmd, hks, Bool.beq_eq_decide_eq, Int.natCast_zero, Int.add_zero, ge_iff_le, gt_iff_lt, Option.isNone_none, Option.isNone_some, List.nil_append, List.append_nil, Bool.and_true, Bool.and_self, SB, Int.reducePow, hQ, hmd1, hks1, hQ1, getE h1]
          (first | refine call_i hP1 (s_from (d.faults[i]'(by omega)).at' 0 100000) (.inl ⟨rfl, fun _ hx => nomatch hx⟩) ?_ | refine callH_i hP1 (s_from (d.faults[i]'(by omega)).at' 0 100000) (.inl ⟨rfl, fun _ hx => nomatch hx⟩) ?_)
          simp +decide (maxSteps := 20000000) (disch := omega) only [↓SBK, ↓SBK2, SAU, SGs, SD, S1, S2, S3, SE, SC, SO, ST, SF, SK, bytes_len, bytes_get, Nat.reduceEqDiff, Nat.reduceAdd, Nat.reduceMul, Nat.reduceSub, ↓reduceIte, Int.reduceNeg, Int.reduceToNat, hmd, hks, Bool.beq_eq_decide_eq, Int.natCast_zero, Int.add_zero, ge_iff_le, gt_iff_lt, Option.isNone_none, Option.isNone_some, List.nil_append, List.append_nil, Bool.and_true, Bool.and_self, SB, Int.reducePow, hQ, hmd1, hks1, hQ1, hA, getE h1]
          (first | refine call_i hP1 (s_from (d.faults[i]'(by omega)).kind 1 2) (.inl ⟨rfl, fun _ hx => nomatch hx⟩) ?_ | refine callH_i hP1 (s_from (d.faults[i]'(by omega)).kind 1 2) (.inl ⟨rfl, fun _ hx => nomatch hx⟩) ?_)
          simp +decide (maxSteps := 20000000) (disch := omega) only [↓SBK, ↓SBK2, SAU, SGs, SD, S1, S2, S3, SE, SC, SO, ST, SF, SK, bytes_len, bytes_get, Nat.reduceEqDiff, Nat.reduceAdd, Nat.reduceMul, Nat.reduceSub, ↓reduceIte, Int.reduceNeg, Int.reduceToNat, hmd, hks, Bool.beq_eq_decide_eq, Int.natCast_zero, Int.add_zero, ge_iff_le, gt_iff_lt, Option.isNone_none, Option.isNone_some, List.nil_append, List.append_nil, Bool.and_true, Bool.and_self, SB, Int.reducePow, hQ, hmd1, hks1, hQ1, hB, getE h1]
          (first | refine call_i hP1 (s_from (d.faults[i]'(by omega)).keep 0 400) (.inl ⟨rfl, fun _ hx => nomatch hx⟩) ?_ | refine callH_i hP1 (s_from (d.faults[i]'(by omega)).keep 0 400) (.inl ⟨rfl, fun _ hx => nomatch hx⟩) ?_)
          simp +decide (maxSteps := 20000000) (disch := omega) only [↓SBK, ↓SBK2, SAU, SGs, SD, S1, S2, S3, SE, SC, SO, ST, SF, SK, bytes_len, bytes_get, Nat.reduceEqDiff, Nat.reduceAdd, Nat.reduceMul, Nat.reduceSub, ↓reduceIte, Int.reduceNeg, Int.reduceToNat, hmd, hks, Bool.beq_eq_decide_eq, Int.natCast_zero, Int.add_zero, ge_iff_le, gt_iff_lt, Option.isNone_none, Option.isNone_some, List.nil_append, List.append_nil, Bool.and_true, Bool.and_self, SB, Int.reducePow, hQ, hmd1, hks1, hQ1, hC]
          rw [hno i (by omega) (by rw [hat, hA, hB, hC]; rfl)]
        | true =>
          cases i with
          | zero =>
            simp +decide (maxSteps := 20000000) (disch := omega) only [↓SBK, ↓SBK2, SAU, SGs, SD, S1, S2, S3, SE, SC, SO, ST, SF, SK, bytes_len, bytes_get, Nat.reduceEqDiff, Nat.reduceAdd, Nat.reduceMul, Nat.reduceSub, ↓reduceIte, Int.reduceNeg, Int.reduceToNat, hmd, hks, Bool.beq_eq_decide_eq, Int.natCast_zero, Int.add_zero, ge_iff_le, gt_iff_lt, Option.isNone_none, Option.isNone_some, List.nil_append, List.append_nil, Bool.and_true, Bool.and_self, SB, Int.reducePow, hQ, hmd1, hks1, hQ1, getE h1]
            (first | refine call_i hP1 (s_from (d.faults[0]'(by omega)).at' 0 100000) (.inl ⟨rfl, fun _ hx => nomatch hx⟩) ?_ | refine callH_i hP1 (s_from (d.faults[0]'(by omega)).at' 0 100000) (.inl ⟨rfl, fun _ hx => nomatch hx⟩) ?_)
            simp +decide (maxSteps := 20000000) (disch := omega) only [↓SBK, ↓SBK2, SAU, SGs, SD, S1, S2, S3, SE, SC, SO, ST, SF, SK, bytes_len, bytes_get, Nat.reduceEqDiff, Nat.reduceAdd, Nat.reduceMul, Nat.reduceSub, ↓reduceIte, Int.reduceNeg, Int.reduceToNat, hmd, hks, Bool.beq_eq_decide_eq, Int.natCast_zero, Int.add_zero, ge_iff_le, gt_iff_lt, Option.isNone_none, Option.isNone_some, List.nil_append, List.append_nil, Bool.and_true, Bool.and_self, SB, Int.reducePow, hQ, hmd1, hks1, hQ1, hA, getE h1]
            (first | refine call_i hP1 (s_from (d.faults[0]'(by omega)).kind 1 2) (.inl ⟨rfl, fun _ hx => nomatch hx⟩) ?_ | refine callH_i hP1 (s_from (d.faults[0]'(by omega)).kind 1 2) (.inl ⟨rfl, fun _ hx => nomatch hx⟩) ?_)
            simp +decide (maxSteps := 20000000) (disch := omega) only [↓SBK, ↓SBK2, SAU, SGs, SD, S1, S2, S3, SE, SC, SO, ST, SF, SK, bytes_len, bytes_get, Nat.reduceEqDiff, Nat.reduceAdd, Nat.reduceMul, Nat.reduceSub, ↓reduceIte, Int.reduceNeg, Int.reduceToNat, hmd, hks, Bool.beq_eq_decide_eq, Int.natCast_zero, Int.add_zero, ge_iff_le, gt_iff_lt, Option.isNone_none, Option.isNone_some, List.nil_append, List.append_nil, Bool.and_true, Bool.and_self, SB, Int.reducePow, hQ, hmd1, hks1, hQ1, hB, getE h1]
            (first | refine call_i hP1 (s_from (d.faults[0]'(by omega)).keep 0 400) (.inl ⟨rfl, fun _ hx => nomatch hx⟩) ?_ | refine callH_i hP1 (s_from (d.faults[0]'(by omega)).keep 0 400) (.inl ⟨rfl, fun _ hx => nomatch hx⟩) ?_)
            simp +decide (maxSteps := 20000000) (disch := omega) only [↓SBK, ↓SBK2, SAU, SGs, SD, S1, S2, S3, SE, SC, SO, ST, SF, SK, bytes_len, bytes_get, Nat.reduceEqDiff, Nat.reduceAdd, Nat.reduceMul, Nat.reduceSub, ↓reduceIte, Int.reduceNeg, Int.reduceToNat, hmd, hks, Bool.beq_eq_decide_eq, Int.natCast_zero, Int.add_zero, ge_iff_le, gt_iff_lt, Option.isNone_none, Option.isNone_some, List.nil_append, List.append_nil, Bool.and_true, Bool.and_self, SB, Int.reducePow, hQ, hmd1, hks1, hQ1, hC]
            exact ⟨1, rfl, ⟨by omega, lt_step hk (by rw [hat, hA, hB, hC]; rfl)⟩, by omega⟩
          | succ m =>
            have w4 : decide ((0 : Int) < ((m + 1 : Nat) : Int)) = true := decide_eq_true (by omega)
            have hm := getE (show ((m : Nat) : Int) < (d.faults.length : Nat) by omega)
            cases hD : decide ((d.faults[m]'(by omega)).at' < (d.faults[m + 1]'(by omega)).at') with
            | false =>
              have hD' : decide ((d.faults[m + 1]'(by omega)).at' ≤ (d.faults[m]'(by omega)).at') = true := decide_eq_true (by simpa using hD)
              simp +decide (maxSteps := 20000000) (disch := omega) only [↓SBK, ↓SBK2, SAU, SGs, SD, S1, S2, S3, SE, SC, SO, ST, SF, SK, bytes_len, bytes_get, Nat.reduceEqDiff, Nat.reduceAdd, Nat.reduceMul, Nat.reduceSub, ↓reduceIte, Int.reduceNeg, Int.reduceToNat, hmd, hks, Bool.beq_eq_decide_eq, Int.natCast_zero, Int.add_zero, ge_iff_le, gt_iff_lt, Option.isNone_none, Option.isNone_some, List.nil_append, List.append_nil, Bool.and_true, Bool.and_self, SB, Int.reducePow, hQ, hmd1, hks1, hQ1, getE h1]
              (first | refine call_i hP1 (s_from (d.faults[m + 1]'(by omega)).at' 0 100000) (.inl ⟨rfl, fun _ hx => nomatch hx⟩) ?_ | refine callH_i hP1 (s_from (d.faults[m + 1]'(by omega)).at' 0 100000) (.inl ⟨rfl, fun _ hx => nomatch hx⟩) ?_)
              simp +decide (maxSteps := 20000000) (disch := omega) only [↓SBK, ↓SBK2, SAU, SGs, SD, S1, S2, S3, SE, SC, SO, ST, SF, SK, bytes_len, bytes_get, Nat.reduceEqDiff, Nat.reduceAdd, Nat.reduceMul, Nat.reduceSub, ↓reduceIte, Int.reduceNeg, Int.reduceToNat, hmd, hks, Bool.beq_eq_decide_eq, Int.natCast_zero, Int.add_zero, ge_iff_le, gt_iff_lt, Option.isNone_none, Option.isNone_some, List.nil_append, List.append_nil, Bool.and_true, Bool.and_self, SB, Int.reducePow, hQ, hmd1, hks1, hQ1, hA, getE h1]
              (first | refine call_i hP1 (s_from (d.faults[m + 1]'(by omega)).kind 1 2) (.inl ⟨rfl, fun _ hx => nomatch hx⟩) ?_ | refine callH_i hP1 (s_from (d.faults[m + 1]'(by omega)).kind 1 2) (.inl ⟨rfl, fun _ hx => nomatch hx⟩) ?_)
              simp +decide (maxSteps := 20000000) (disch := omega) only [↓SBK, ↓SBK2, SAU, SGs, SD, S1, S2, S3, SE, SC, SO, ST, SF, SK, bytes_len, bytes_get, Nat.reduceEqDiff, Nat.reduceAdd, Nat.reduceMul, Nat.reduceSub, ↓reduceIte, Int.reduceNeg, Int.reduceToNat, hmd, hks, Bool.beq_eq_decide_eq, Int.natCast_zero, Int.add_zero, ge_iff_le, gt_iff_lt, Option.isNone_none, Option.isNone_some, List.nil_append, List.append_nil, Bool.and_true, Bool.and_self, SB, Int.reducePow, hQ, hmd1, hks1, hQ1, hB, getE h1]
              (first | refine call_i hP1 (s_from (d.faults[m + 1]'(by omega)).keep 0 400) (.inl ⟨rfl, fun _ hx => nomatch hx⟩) ?_ | refine callH_i hP1 (s_from (d.faults[m + 1]'(by omega)).keep 0 400) (.inl ⟨rfl, fun _ hx => nomatch hx⟩) ?_)
              simp +decide (maxSteps := 20000000) (disch := omega) only [↓SBK, ↓SBK2, SAU, SGs, SD, S1, S2, S3, SE, SC, SO, ST, SF, SK, bytes_len, bytes_get, Nat.reduceEqDiff, Nat.reduceAdd, Nat.reduceMul, Nat.reduceSub, ↓reduceIte, Int.reduceNeg, Int.reduceToNat, hmd, hks, Bool.beq_eq_decide_eq, Int.natCast_zero, Int.add_zero, ge_iff_le, gt_iff_lt, Option.isNone_none, Option.isNone_some, List.nil_append, List.append_nil, Bool.and_true, Bool.and_self, SB, Int.reducePow, hQ, hmd1, hks1, hQ1, hC, w4, cast_pred, hm, getE h1, hD']
              rw [hno (m + 1) (by omega) (by rw [hat, hA, hB, hC, prevF_at (by omega), hD]; rfl)]
            | true =>
              have hD' : decide ((d.faults[m + 1]'(by omega)).at' ≤ (d.faults[m]'(by omega)).at') = false := decide_eq_false (by have := of_decide_eq_true hD; omega)
              simp +decide (maxSteps := 20000000) (disch := omega) only [↓SBK, ↓SBK2, SAU, SGs, SD, S1, S2, S3, SE, SC, SO, ST, SF, SK, bytes_len, bytes_get, Nat.reduceEqDiff, Nat.reduceAdd, Nat.reduceMul, Nat.reduceSub, ↓reduceIte, Int.reduceNeg, Int.reduceToNat, hmd, hks, Bool.beq_eq_decide_eq, Int.natCast_zero, Int.add_zero, ge_iff_le, gt_iff_lt, Option.isNone_none, Option.isNone_some, List.nil_append, List.append_nil, Bool.and_true, Bool.and_self, SB, Int.reducePow, hQ, hmd1, hks1, hQ1, getE h1]
              (first | refine call_i hP1 (s_from (d.faults[m + 1]'(by omega)).at' 0 100000) (.inl ⟨rfl, fun _ hx => nomatch hx⟩) ?_ | refine callH_i hP1 (s_from (d.faults[m + 1]'(by omega)).at' 0 100000) (.inl ⟨rfl, fun _ hx => nomatch hx⟩) ?_)
              simp +decide (maxSteps := 20000000) (disch := omega) only [↓SBK, ↓SBK2, SAU, SGs, SD, S1, S2, S3, SE, SC, SO, ST, SF, SK, bytes_len, bytes_get, Nat.reduceEqDiff, Nat.reduceAdd, Nat.reduceMul, Nat.reduceSub, ↓reduceIte, Int.reduceNeg, Int.reduceToNat, hmd, hks, Bool.beq_eq_decide_eq, Int.natCast_zero, Int.add_zero, ge_iff_le, gt_iff_lt, Option.isNone_none, Option.isNone_some, List.nil_append, List.append_nil, Bool.and_true, Bool.and_self, SB, Int.reducePow, hQ, hmd1, hks1, hQ1, hA, getE h1]
              (first | refine call_i hP1 (s_from (d.faults[m + 1]'(by omega)).kind 1 2) (.inl ⟨rfl, fun _ hx => nomatch hx⟩) ?_ | refine callH_i hP1 (s_from (d.faults[m + 1]'(by omega)).kind 1 2) (.inl ⟨rfl, fun _ hx => nomatch hx⟩) ?_)
              simp +decide (maxSteps := 20000000) (disch := omega) only [↓SBK, ↓SBK2, SAU, SGs, SD, S1, S2, S3, SE, SC, SO, ST, SF, SK, bytes_len, bytes_get, Nat.reduceEqDiff, Nat.reduceAdd, Nat.reduceMul, Nat.reduceSub, ↓reduceIte, Int.reduceNeg, Int.reduceToNat, hmd, hks, Bool.beq_eq_decide_eq, Int.natCast_zero, Int.add_zero, ge_iff_le, gt_iff_lt, Option.isNone_none, Option.isNone_some, List.nil_append, List.append_nil, Bool.and_true, Bool.and_self, SB, Int.reducePow, hQ, hmd1, hks1, hQ1, hB, getE h1]
              (first | refine call_i hP1 (s_from (d.faults[m + 1]'(by omega)).keep 0 400) (.inl ⟨rfl, fun _ hx => nomatch hx⟩) ?_ | refine callH_i hP1 (s_from (d.faults[m + 1]'(by omega)).keep 0 400) (.inl ⟨rfl, fun _ hx => nomatch hx⟩) ?_)
              simp +decide (maxSteps := 20000000) (disch := omega) only [↓SBK, ↓SBK2, SAU, SGs, SD, S1, S2, S3, SE, SC, SO, ST, SF, SK, bytes_len, bytes_get, Nat.reduceEqDiff, Nat.reduceAdd, Nat.reduceMul, Nat.reduceSub, ↓reduceIte, Int.reduceNeg, Int.reduceToNat, hmd, hks, Bool.beq_eq_decide_eq, Int.natCast_zero, Int.add_zero, ge_iff_le, gt_iff_lt, Option.isNone_none, Option.isNone_some, List.nil_append, List.append_nil, Bool.and_true, Bool.and_self, SB, Int.reducePow, hQ, hmd1, hks1, hQ1, hC, w4, cast_pred, hm, getE h1, hD']
              exact ⟨m + 1 + 1, rfl, ⟨by omega, lt_step hk (by rw [hat, hA, hB, hC, prevF_at (by omega), hD]; rfl)⟩, by omega⟩
  · obtain rfl : i = d.faults.length := by omega
    have e : devOk d = (chipOk d.c && (inR d.ops 0 100000 && decide ((d.faults.length : Int) ≤ 20))) := by rw [devOk, faultsOk, faultsIn_yes hk]; rfl
    simp +decide (maxSteps := 20000000) (disch := omega) only [↓SBK, ↓SBK2, SAU, SGs, SD, S1, S2, S3, SE, SC, SO, ST, SF, SK, bytes_len, bytes_get, Nat.reduceEqDiff, Nat.reduceAdd, Nat.reduceMul, Nat.reduceSub, ↓reduceIte, Int.reduceNeg, Int.reduceToNat, hmd, hks, Bool.beq_eq_decide_eq, Int.natCast_zero, Int.add_zero, ge_iff_le, gt_iff_lt, Option.isNone_none, Option.isNone_some, List.nil_append, List.append_nil, Bool.and_true, Bool.and_self, SB, Int.reducePow, hQ, hmd1, hks1, hQ1]
    cases hA : chipOk d.c with
    | false =>
      rw [hA] at hCk
      (first | refine call_i hP (hCk) (.inl ⟨rfl, fun _ hx => nomatch hx⟩) ?_ | refine callH_i hP (hCk) (.inl ⟨rfl, fun _ hx => nomatch hx⟩) ?_)
      simp +decide (maxSteps := 20000000) (disch := omega) only [↓SBK, ↓SBK2, SAU, SGs, SD, S1, S2, S3, SE, SC, SO, ST, SF, SK, bytes_len, bytes_get, Nat.reduceEqDiff, Nat.reduceAdd, Nat.reduceMul, Nat.reduceSub, ↓reduceIte, Int.reduceNeg, Int.reduceToNat, hmd, hks, Bool.beq_eq_decide_eq, Int.natCast_zero, Int.add_zero, ge_iff_le, gt_iff_lt, Option.isNone_none, Option.isNone_some, List.nil_append, List.append_nil, Bool.and_true, Bool.and_self, SB, Int.reducePow, hQ]
      rw [e, hA]; rfl
    | true =>
      rw [hA] at hCk
      cases hB : inR d.ops 0 100000 with
      | false =>
        (first | refine call_i hP (hCk) (.inl ⟨rfl, fun _ hx => nomatch hx⟩) ?_ | refine callH_i hP (hCk) (.inl ⟨rfl, fun _ hx => nomatch hx⟩) ?_)
        simp +decide (maxSteps := 20000000) (disch := omega) only [↓SBK, ↓SBK2, SAU, SGs, SD, S1, S2, S3, SE, SC, SO, ST, SF, SK, bytes_len, bytes_get, Nat.reduceEqDiff, Nat.reduceAdd, Nat.reduceMul, Nat.reduceSub, ↓reduceIte, Int.reduceNeg, Int.reduceToNat, hmd, hks, Bool.beq_eq_decide_eq, Int.natCast_zero, Int.add_zero, ge_iff_le, gt_iff_lt, Option.isNone_none, Option.isNone_some, List.nil_append, List.append_nil, Bool.and_true, Bool.and_self, SB, Int.reducePow, hQ]
        (first | refine call_i hP (s_from d.ops 0 100000) (.inl ⟨rfl, fun _ hx => nomatch hx⟩) ?_ | refine callH_i hP (s_from d.ops 0 100000) (.inl ⟨rfl, fun _ hx => nomatch hx⟩) ?_)
        simp +decide (maxSteps := 20000000) (disch := omega) only [↓SBK, ↓SBK2, SAU, SGs, SD, S1, S2, S3, SE, SC, SO, ST, SF, SK, bytes_len, bytes_get, Nat.reduceEqDiff, Nat.reduceAdd, Nat.reduceMul, Nat.reduceSub, ↓reduceIte, Int.reduceNeg, Int.reduceToNat, hmd, hks, Bool.beq_eq_decide_eq, Int.natCast_zero, Int.add_zero, ge_iff_le, gt_iff_lt, Option.isNone_none, Option.isNone_some, List.nil_append, List.append_nil, Bool.and_true, Bool.and_self, SB, Int.reducePow, hQ, hB]
        rw [e, hA, hB]; rfl
      | true =>
        (first | refine call_i hP (hCk) (.inl ⟨rfl, fun _ hx => nomatch hx⟩) ?_ | refine callH_i hP (hCk) (.inl ⟨rfl, fun _ hx => nomatch hx⟩) ?_)
        simp +decide (maxSteps := 20000000) (disch := omega) only [↓SBK, ↓SBK2, SAU, SGs, SD, S1, S2, S3, SE, SC, SO, ST, SF, SK, bytes_len, bytes_get, Nat.reduceEqDiff, Nat.reduceAdd, Nat.reduceMul, Nat.reduceSub, ↓reduceIte, Int.reduceNeg, Int.reduceToNat, hmd, hks, Bool.beq_eq_decide_eq, Int.natCast_zero, Int.add_zero, ge_iff_le, gt_iff_lt, Option.isNone_none, Option.isNone_some, List.nil_append, List.append_nil, Bool.and_true, Bool.and_self, SB, Int.reducePow, hQ]
        (first | refine call_i hP (s_from d.ops 0 100000) (.inl ⟨rfl, fun _ hx => nomatch hx⟩) ?_ | refine callH_i hP (s_from d.ops 0 100000) (.inl ⟨rfl, fun _ hx => nomatch hx⟩) ?_)
        simp +decide (maxSteps := 20000000) (disch := omega) only [↓SBK, ↓SBK2, SAU, SGs, SD, S1, S2, S3, SE, SC, SO, ST, SF, SK, bytes_len, bytes_get, Nat.reduceEqDiff, Nat.reduceAdd, Nat.reduceMul, Nat.reduceSub, ↓reduceIte, Int.reduceNeg, Int.reduceToNat, hmd, hks, Bool.beq_eq_decide_eq, Int.natCast_zero, Int.add_zero, ge_iff_le, gt_iff_lt, Option.isNone_none, Option.isNone_some, List.nil_append, List.append_nil, Bool.and_true, Bool.and_self, SB, Int.reducePow, hQ, hB]
        rw [e, hA, hB]; rfl
end Go.Proofs.Ytliklgcfdgdigaa.Awp

namespace Go.Proofs.Ytliklgcfdgdigaa.Awp
open Go.Proofs
set_option linter.unusedSimpArgs false
set_option linter.unusedVariables false
set_option maxRecDepth 100000
set_option maxHeartbeats 20000000

/-! ### the fault of an operation; copies; new devices -/
theorem flatR_map {α : Type} (f : α → List TV) (h : ∀ x, (f x).all flatT = true) (l : List α) : flatR (l.map f) = true := by
  rw [flatR, List.all_eq_true]
  intro r hr
  obtain ⟨x, _, rfl⟩ := List.mem_map.1 hr
  exact h x
theorem flatR_F (l : List Fault) : flatR (l.map Fault.row) = true := flatR_map Fault.row (fun _ => rfl) l
theorem s_CloneF (l : List Fault) (hl : l.length < 2 ^ 40) : Spec Try.prog 159 [.ext 3 (l.map Fault.row)] (.own 3 (l.map Fault.row)) [.undef] := by
  refine spec_extv fun a len cap ha => ?_
  cases a with
  | none =>
    obtain rfl : l = [] := by simpa using ha rfl
    refine spec_C hmx p_X_Clone_Fault [] 5 [] ⟨Nat.le_of_ble_eq_true rfl, Nat.le_of_ble_eq_true rfl⟩ rfl rfl ?_
    intro w hP hmd hks hQ
    unfold c_X_Clone_Fault
    simp +decide (maxSteps := 20000000) (disch := omega) only [↓SBK, ↓SBK2, SAU, SGs, SD, S1, S2, S3, SE, SC, SO, ST, SF, SK, bytes_len, bytes_get, Nat.reduceEqDiff, Nat.reduceAdd, Nat.reduceMul, Nat.reduceSub, ↓reduceIte, Int.reduceNeg, Int.reduceToNat, hmd, hks, Bool.beq_eq_decide_eq, Int.natCast_zero, Int.add_zero, ge_iff_le, gt_iff_lt, Option.isNone_none, Option.isNone_some, List.nil_append, List.append_nil, Bool.and_true, Bool.and_self, SB, Int.reducePow, hQ]
  | some a =>
    refine spec_C hmx p_X_Clone_Fault [] 5 [] ⟨Nat.le_of_ble_eq_true rfl, Nat.le_of_ble_eq_true rfl⟩ rfl rfl ?_
    intro w hP hmd hks hQ
    unfold c_X_Clone_Fault
    simp +decide (maxSteps := 20000000) (disch := omega) only [↓SBK, ↓SBK2, SAU, SGs, SD, S1, S2, S3, SE, SC, SO, ST, SF, SK, bytes_len, bytes_get, Nat.reduceEqDiff, Nat.reduceAdd, Nat.reduceMul, Nat.reduceSub, ↓reduceIte, Int.reduceNeg, Int.reduceToNat, hmd, hks, Bool.beq_eq_decide_eq, Int.natCast_zero, Int.add_zero, ge_iff_le, gt_iff_lt, Option.isNone_none, Option.isNone_some, List.nil_append, List.append_nil, Bool.and_true, Bool.and_self, SB, Int.reducePow, hQ]
    simp +decide (maxSteps := 20000000) (disch := omega) only [↓SBK, ↓SBK2, SAU, SGs, SD, S1, S2, S3, SE, SC, SO, ST, SF, SK, bytes_len, bytes_get, Nat.reduceEqDiff, Nat.reduceAdd, Nat.reduceMul, Nat.reduceSub, ↓reduceIte, Int.reduceNeg, Int.reduceToNat, hmd, hks, Bool.beq_eq_decide_eq, Int.natCast_zero, Int.add_zero, ge_iff_le, gt_iff_lt, Option.isNone_none, Option.isNone_some, List.nil_append, List.append_nil, Bool.and_true, Bool.and_self, SB, Int.reducePow, hQ, flatR_F]
end Go.Proofs.Ytliklgcfdgdigaa.Awp

namespace Go.Proofs.Ytliklgcfdgdigaa.Awp
open Go.Proofs
set_option linter.unusedSimpArgs false
set_option linter.unusedVariables false
set_option maxRecDepth 100000
set_option maxHeartbeats 20000000

theorem eqDev_self (d : Dev) (h : d.sz < 2 ^ 40) : Spec Try.prog 86 [d.x, d.x] (.bool true) [.undef, .undef] := by
  have he := s_eqDev d d h
  rwa [decide_eq_true rfl] at he
end Go.Proofs.Ytliklgcfdgdigaa.Awp

namespace Go.Proofs.Ytliklgcfdgdigaa.Awp
open Go.Proofs
set_option linter.unusedSimpArgs false
set_option linter.unusedVariables false
set_option maxRecDepth 100000
set_option maxHeartbeats 20000000

theorem dev_cnt (d : Dev) : d.cntT ≤ 3 * d.sz := by
  have h1 := chip_cnt d.c
  have h2 := sum_plus Fault.cnt (fun _ => 0) 3 (fun p => rfl) d.faults
  have e1 : d.cntT = d.c.cntT + cntM Fault.cnt d.faults := rfl
  have e2 : d.sz = d.c.sz + d.faults.length := rfl
  have e3 : cntM Fault.cnt d.faults = (d.faults.map Fault.cnt).sum := rfl
  have e4 : (d.faults.map (fun _ => 0)).sum = 0 := by
    induction d.faults with
    | nil => rfl
    | cons x l ih => simpa using ih
  omega
end Go.Proofs.Ytliklgcfdgdigaa.Awp

namespace Go.Proofs.Ytliklgcfdgdigaa.Awp
open Go.Proofs
set_option linter.unusedSimpArgs false
set_option linter.unusedVariables false
set_option maxRecDepth 100000
set_option maxHeartbeats 20000000

def zDev : Dev := { c := { blocks := [] }, ops := 0, faults := [], down := false }
def mkD (n : Int) (l : List Fault) : Dev := { c := chipNew n, ops := 0, faults := l, down := false }
noncomputable def devNew (n : Int) (l : List Fault) : Dev := if devOk (mkD n l) = true then mkD n l else zDev
theorem chipNew_fine (n : Int) : (chipNew n).fine := by
  obtain ⟨h1, h2⟩ := chipNew_blocks n
  refine ⟨by omega, fun b hb => ?_⟩
  rw [h2 b hb]
  refine ⟨by simp [zBlock], fun p hp => ?_⟩
  obtain ⟨_, rfl⟩ := List.mem_replicate.1 hp
  show ([] : Bytes).length < 2 ^ 48
  decide
theorem mkD_fine (n : Int) (l : List Fault) (h : l.length < 2 ^ 48) : (mkD n l).fine := ⟨chipNew_fine n, h⟩
theorem sS_DevNew (n : Int) (l : List Fault) (hl : l.length < 2 ^ 40) : Spec Try.prog 102 [.int .i64 n, .ext 3 (l.map Fault.row)] (devNew n l).o [.undef, .undef] := by
  have hD := sS_DevOk (mkD n l) (mkD_fine n l (by omega))
  refine spec_C hmx p_S_DevNew [] 51 [] ⟨Nat.le_of_ble_eq_true rfl, Nat.le_of_ble_eq_true rfl⟩ rfl rfl ?_
  intro w hP hmd hks hQ
  unfold c_S_DevNew
  simp +decide (maxSteps := 20000000) (disch := omega) only [↓SBK, ↓SBK2, SAU, SGs, SD, S1, S2, S3, SE, SC, SO, ST, SF, SK, bytes_len, bytes_get, Nat.reduceEqDiff, Nat.reduceAdd, Nat.reduceMul, Nat.reduceSub, ↓reduceIte, Int.reduceNeg, Int.reduceToNat, hmd, hks, Bool.beq_eq_decide_eq, Int.natCast_zero, Int.add_zero, ge_iff_le, gt_iff_lt, Option.isNone_none, Option.isNone_some, List.nil_append, List.append_nil, Bool.and_true, Bool.and_self, SB, Int.reducePow, hQ]
  (first | refine call_i hP (sS_ChipNew n) (.inl ⟨rfl, fun _ hx => nomatch hx⟩) ?_ | refine callH_i hP (sS_ChipNew n) (.inl ⟨rfl, fun _ hx => nomatch hx⟩) ?_)
  simp +decide (maxSteps := 20000000) (disch := omega) only [↓SBK, ↓SBK2, SAU, SGs, SD, S1, S2, S3, SE, SC, SO, ST, SF, SK, bytes_len, bytes_get, Nat.reduceEqDiff, Nat.reduceAdd, Nat.reduceMul, Nat.reduceSub, ↓reduceIte, Int.reduceNeg, Int.reduceToNat, hmd, hks, Bool.beq_eq_decide_eq, Int.natCast_zero, Int.add_zero, ge_iff_le, gt_iff_lt, Option.isNone_none, Option.isNone_some, List.nil_append, List.append_nil, Bool.and_true, Bool.and_self, SB, Int.reducePow, hQ, flatR_F]
  cases h : devOk (mkD n l) with
  | false =>
    rw [h] at hD
    (first | refine call_i hP (hD) (.inl ⟨rfl, fun _ hx => nomatch hx⟩) ?_ | refine callH_i hP (hD) (.inl ⟨rfl, fun _ hx => nomatch hx⟩) ?_)
    simp +decide (maxSteps := 20000000) (disch := omega) only [↓SBK, ↓SBK2, SAU, SGs, SD, S1, S2, S3, SE, SC, SO, ST, SF, SK, bytes_len, bytes_get, Nat.reduceEqDiff, Nat.reduceAdd, Nat.reduceMul, Nat.reduceSub, ↓reduceIte, Int.reduceNeg, Int.reduceToNat, hmd, hks, Bool.beq_eq_decide_eq, Int.natCast_zero, Int.add_zero, ge_iff_le, gt_iff_lt, Option.isNone_none, Option.isNone_some, List.nil_append, List.append_nil, Bool.and_true, Bool.and_self, SB, Int.reducePow, hQ]
    rw [devNew, h]; rfl
  | true =>
    rw [h] at hD
    (first | refine call_i hP (hD) (.inl ⟨rfl, fun _ hx => nomatch hx⟩) ?_ | refine callH_i hP (hD) (.inl ⟨rfl, fun _ hx => nomatch hx⟩) ?_)
    simp +decide (maxSteps := 20000000) (disch := omega) only [↓SBK, ↓SBK2, SAU, SGs, SD, S1, S2, S3, SE, SC, SO, ST, SF, SK, bytes_len, bytes_get, Nat.reduceEqDiff, Nat.reduceAdd, Nat.reduceMul, Nat.reduceSub, ↓reduceIte, Int.reduceNeg, Int.reduceToNat, hmd, hks, Bool.beq_eq_decide_eq, Int.natCast_zero, Int.add_zero, ge_iff_le, gt_iff_lt, Option.isNone_none, Option.isNone_some, List.nil_append, List.append_nil, Bool.and_true, Bool.and_self, SB, Int.reducePow, hQ]
    rw [devNew, h]; rfl
theorem sI_DevNew (n : Int) (l : List Fault) (hl : l.length < 2 ^ 40) : Spec Try.prog 104 [.int .i64 n, .ext 3 (l.map Fault.row)] (devNew n l).o [.undef, .undef] := by
  have hD := sI_DevOk (mkD n l) (mkD_fine n l (by omega))
  refine spec_C hmx p_I_DevNew [] 51 [] ⟨Nat.le_of_ble_eq_true rfl, Nat.le_of_ble_eq_true rfl⟩ rfl rfl ?_
  intro w hP hmd hks hQ
  unfold c_I_DevNew
  simp +decide (maxSteps := 20000000) (disch := omega) only [↓SBK, ↓SBK2, SAU, SGs, SD, S1, S2, S3, SE, SC, SO, ST, SF, SK, bytes_len, bytes_get, Nat.reduceEqDiff, Nat.reduceAdd, Nat.reduceMul, Nat.reduceSub, ↓reduceIte, Int.reduceNeg, Int.reduceToNat, hmd, hks, Bool.beq_eq_decide_eq, Int.natCast_zero, Int.add_zero, ge_iff_le, gt_iff_lt, Option.isNone_none, Option.isNone_some, List.nil_append, List.append_nil, Bool.and_true, Bool.and_self, SB, Int.reducePow, hQ]
  (first | refine call_i hP (sI_ChipNew n) (.inl ⟨rfl, fun _ hx => nomatch hx⟩) ?_ | refine callH_i hP (sI_ChipNew n) (.inl ⟨rfl, fun _ hx => nomatch hx⟩) ?_)
  simp +decide (maxSteps := 20000000) (disch := omega) only [↓SBK, ↓SBK2, SAU, SGs, SD, S1, S2, S3, SE, SC, SO, ST, SF, SK, bytes_len, bytes_get, Nat.reduceEqDiff, Nat.reduceAdd, Nat.reduceMul, Nat.reduceSub, ↓reduceIte, Int.reduceNeg, Int.reduceToNat, hmd, hks, Bool.beq_eq_decide_eq, Int.natCast_zero, Int.add_zero, ge_iff_le, gt_iff_lt, Option.isNone_none, Option.isNone_some, List.nil_append, List.append_nil, Bool.and_true, Bool.and_self, SB, Int.reducePow, hQ]
  (first | refine call_i hP (s_CloneF l hl) (.inl ⟨rfl, fun _ hx => nomatch hx⟩) ?_ | refine callH_i hP (s_CloneF l hl) (.inl ⟨rfl, fun _ hx => nomatch hx⟩) ?_)
  simp +decide (maxSteps := 20000000) (disch := omega) only [↓SBK, ↓SBK2, SAU, SGs, SD, S1, S2, S3, SE, SC, SO, ST, SF, SK, bytes_len, bytes_get, Nat.reduceEqDiff, Nat.reduceAdd, Nat.reduceMul, Nat.reduceSub, ↓reduceIte, Int.reduceNeg, Int.reduceToNat, hmd, hks, Bool.beq_eq_decide_eq, Int.natCast_zero, Int.add_zero, ge_iff_le, gt_iff_lt, Option.isNone_none, Option.isNone_some, List.nil_append, List.append_nil, Bool.and_true, Bool.and_self, SB, Int.reducePow, hQ]
  cases h : devOk (mkD n l) with
  | false =>
    rw [h] at hD
    (first | refine call_i hP (hD) (.inl ⟨rfl, fun _ hx => nomatch hx⟩) ?_ | refine callH_i hP (hD) (.inl ⟨rfl, fun _ hx => nomatch hx⟩) ?_)
    simp +decide (maxSteps := 20000000) (disch := omega) only [↓SBK, ↓SBK2, SAU, SGs, SD, S1, S2, S3, SE, SC, SO, ST, SF, SK, bytes_len, bytes_get, Nat.reduceEqDiff, Nat.reduceAdd, Nat.reduceMul, Nat.reduceSub, ↓reduceIte, Int.reduceNeg, Int.reduceToNat, hmd, hks, Bool.beq_eq_decide_eq, Int.natCast_zero, Int.add_zero, ge_iff_le, gt_iff_lt, Option.isNone_none, Option.isNone_some, List.nil_append, List.append_nil, Bool.and_true, Bool.and_self, SB, Int.reducePow, hQ]
    rw [devNew, h]; rfl
  | true =>
    rw [h] at hD
    (first | refine call_i hP (hD) (.inl ⟨rfl, fun _ hx => nomatch hx⟩) ?_ | refine callH_i hP (hD) (.inl ⟨rfl, fun _ hx => nomatch hx⟩) ?_)
    simp +decide (maxSteps := 20000000) (disch := omega) only [↓SBK, ↓SBK2, SAU, SGs, SD, S1, S2, S3, SE, SC, SO, ST, SF, SK, bytes_len, bytes_get, Nat.reduceEqDiff, Nat.reduceAdd, Nat.reduceMul, Nat.reduceSub, ↓reduceIte, Int.reduceNeg, Int.reduceToNat, hmd, hks, Bool.beq_eq_decide_eq, Int.natCast_zero, Int.add_zero, ge_iff_le, gt_iff_lt, Option.isNone_none, Option.isNone_some, List.nil_append, List.append_nil, Bool.and_true, Bool.and_self, SB, Int.reducePow, hQ]
    rw [devNew, h]; rfl
theorem devNew_sz (n : Int) (l : List Fault) : (devNew n l).sz ≤ (chipNew n).sz + l.length := by
  unfold devNew
  split
  · exact Nat.le_refl _
  · exact Nat.zero_le _
end Go.Proofs.Ytliklgcfdgdigaa.Awp

namespace Go.Proofs.Ytliklgcfdgdigaa.Awp
open Go.Proofs
set_option linter.unusedSimpArgs false
set_option linter.unusedVariables false
set_option maxRecDepth 100000
set_option maxHeartbeats 20000000

theorem eqFaultS_self (l : List Fault) (h : l.length < 2 ^ 40) : Spec Try.prog 105 [.ext 3 (l.map Fault.row), .ext 3 (l.map Fault.row)] (.bool true) [.undef, .undef] := by
  have he := s_eqFaultS l l h
  rwa [decide_eq_true rfl] at he
theorem s_FnExactDevNew (n : Int) (l : List Fault) (hf : l.length < 2 ^ 48) : Spec Try.prog 23 [.int .i64 n, .ext 3 (l.map Fault.row)] (.bool true) [.undef, .undef] := by
  by_cases hz : (1048576 : Int) < (l.length : Nat)
  · refine spec_C hmx p_L_FnExactDevNew [] 8179 [] ⟨Nat.le_of_ble_eq_true rfl, Nat.le_of_ble_eq_true rfl⟩ rfl rfl ?_
    intro w hP hmd hks hQ
    unfold c_L_FnExactDevNew
    simp +decide (maxSteps := 20000000) (disch := omega) only [↓SBK, ↓SBK2, SAU, SGs, SD, S1, S2, S3, SE, SC, SO, ST, SF, SK, bytes_len, bytes_get, Nat.reduceEqDiff, Nat.reduceAdd, Nat.reduceMul, Nat.reduceSub, ↓reduceIte, Int.reduceNeg, Int.reduceToNat, hmd, hks, Bool.beq_eq_decide_eq, Int.natCast_zero, Int.add_zero, ge_iff_le, gt_iff_lt, Option.isNone_none, Option.isNone_some, List.nil_append, List.append_nil, Bool.and_true, Bool.and_self, SB, Int.reducePow, hQ]
    (first | refine call_i hP (s_szFaultS l 1048576 hf (by omega) (by omega)) (.inl ⟨rfl, fun _ hx => nomatch hx⟩) ?_ | refine callH_i hP (s_szFaultS l 1048576 hf (by omega) (by omega)) (.inl ⟨rfl, fun _ hx => nomatch hx⟩) ?_)
    simp +decide (maxSteps := 20000000) (disch := omega) only [↓SBK, ↓SBK2, SAU, SGs, SD, S1, S2, S3, SE, SC, SO, ST, SF, SK, bytes_len, bytes_get, Nat.reduceEqDiff, Nat.reduceAdd, Nat.reduceMul, Nat.reduceSub, ↓reduceIte, Int.reduceNeg, Int.reduceToNat, hmd, hks, Bool.beq_eq_decide_eq, Int.natCast_zero, Int.add_zero, ge_iff_le, gt_iff_lt, Option.isNone_none, Option.isNone_some, List.nil_append, List.append_nil, Bool.and_true, Bool.and_self, SB, Int.reducePow, hQ, szC_lt hz]
  · have hs : l.length < 2 ^ 40 := by omega
    have hS := sS_DevNew n l hs
    have hI := sI_DevNew n l hs
    have z0 := devNew_sz n l
    obtain ⟨z1, z2⟩ := chipNew_sz n
    have c1 := sum_const Fault.cnt 3 l fun _ _ => rfl
    have c0 : cntM Fault.cnt l = l.length * 3 := c1
    have c2 := dev_cnt (devNew n l)
    have g0 : decide (1 + ((cntM Fault.cnt l : Nat) : Int) < 0) = false := decide_eq_false (by omega)
    have g1 : decide (1 + (((devNew n l).cntT : Nat) : Int) < 0) = false := decide_eq_false (by omega)
    have hs2 : (devNew n l).sz < 2 ^ 40 := by omega
    generalize devNew n l = D at *
    refine spec_C hmx p_L_FnExactDevNew [(107, [.p, .b]), (106, [.l, .b])] 8179 [] ⟨Nat.le_of_ble_eq_true rfl, Nat.le_of_ble_eq_true rfl⟩ rfl rfl ?_
    intro w hP hmd hks hQ
    unfold c_L_FnExactDevNew
    simp +decide (maxSteps := 20000000) (disch := omega) only [↓SBK, ↓SBK2, SAU, SGs, SD, S1, S2, S3, SE, SC, SO, ST, SF, SK, bytes_len, bytes_get, Nat.reduceEqDiff, Nat.reduceAdd, Nat.reduceMul, Nat.reduceSub, ↓reduceIte, Int.reduceNeg, Int.reduceToNat, hmd, hks, Bool.beq_eq_decide_eq, Int.natCast_zero, Int.add_zero, ge_iff_le, gt_iff_lt, Option.isNone_none, Option.isNone_some, List.nil_append, List.append_nil, Bool.and_true, Bool.and_self, SB, Int.reducePow, hQ]
    (first | refine call_i hP (s_szFaultS l 1048576 hf (by omega) (by omega)) (.inl ⟨rfl, fun _ hx => nomatch hx⟩) ?_ | refine callH_i hP (s_szFaultS l 1048576 hf (by omega) (by omega)) (.inl ⟨rfl, fun _ hx => nomatch hx⟩) ?_)
    simp +decide (maxSteps := 20000000) (disch := omega) only [↓SBK, ↓SBK2, SAU, SGs, SD, S1, S2, S3, SE, SC, SO, ST, SF, SK, bytes_len, bytes_get, Nat.reduceEqDiff, Nat.reduceAdd, Nat.reduceMul, Nat.reduceSub, ↓reduceIte, Int.reduceNeg, Int.reduceToNat, hmd, hks, Bool.beq_eq_decide_eq, Int.natCast_zero, Int.add_zero, ge_iff_le, gt_iff_lt, Option.isNone_none, Option.isNone_some, List.nil_append, List.append_nil, Bool.and_true, Bool.and_self, SB, Int.reducePow, hQ, szC_ge hz]
    (first | with_reducible refine if_d _ ?_ ?_ | refine if_i _ ?_ ?_) <;> intro h
    · exfalso; omega
    simp +decide (maxSteps := 20000000) (disch := omega) only [↓SBK, ↓SBK2, SAU, SGs, SD, S1, S2, S3, SE, SC, SO, ST, SF, SK, bytes_len, bytes_get, Nat.reduceEqDiff, Nat.reduceAdd, Nat.reduceMul, Nat.reduceSub, ↓reduceIte, Int.reduceNeg, Int.reduceToNat, hmd, hks, Bool.beq_eq_decide_eq, Int.natCast_zero, Int.add_zero, ge_iff_le, gt_iff_lt, Option.isNone_none, Option.isNone_some, List.nil_append, List.append_nil, Bool.and_true, Bool.and_self, SB, Int.reducePow, hQ]
    (first | refine call_i hP (s_toFaultS l hs) (.inl ⟨rfl, fun _ hx => nomatch hx⟩) ?_ | refine callH_i hP (s_toFaultS l hs) (.inl ⟨rfl, fun _ hx => nomatch hx⟩) ?_)
    simp +decide (maxSteps := 20000000) (disch := omega) only [↓SBK, ↓SBK2, SAU, SGs, SD, S1, S2, S3, SE, SC, SO, ST, SF, SK, bytes_len, bytes_get, Nat.reduceEqDiff, Nat.reduceAdd, Nat.reduceMul, Nat.reduceSub, ↓reduceIte, Int.reduceNeg, Int.reduceToNat, hmd, hks, Bool.beq_eq_decide_eq, Int.natCast_zero, Int.add_zero, ge_iff_le, gt_iff_lt, Option.isNone_none, Option.isNone_some, List.nil_append, List.append_nil, Bool.and_true, Bool.and_self, SB, Int.reducePow, hQ]
    (first | refine call_i hP (hS) (.inl ⟨rfl, fun _ hx => nomatch hx⟩) ?_ | refine callH_i hP (hS) (.inl ⟨rfl, fun _ hx => nomatch hx⟩) ?_)
    simp +decide (maxSteps := 20000000) (disch := omega) only [↓SBK, ↓SBK2, SAU, SGs, SD, S1, S2, S3, SE, SC, SO, ST, SF, SK, bytes_len, bytes_get, Nat.reduceEqDiff, Nat.reduceAdd, Nat.reduceMul, Nat.reduceSub, ↓reduceIte, Int.reduceNeg, Int.reduceToNat, hmd, hks, Bool.beq_eq_decide_eq, Int.natCast_zero, Int.add_zero, ge_iff_le, gt_iff_lt, Option.isNone_none, Option.isNone_some, List.nil_append, List.append_nil, Bool.and_true, Bool.and_self, SB, Int.reducePow, hQ]
    (first | refine call_i hP (s_toFaultS l hs) (.inl ⟨rfl, fun _ hx => nomatch hx⟩) ?_ | refine callH_i hP (s_toFaultS l hs) (.inl ⟨rfl, fun _ hx => nomatch hx⟩) ?_)
    simp +decide (maxSteps := 20000000) (disch := omega) only [↓SBK, ↓SBK2, SAU, SGs, SD, S1, S2, S3, SE, SC, SO, ST, SF, SK, bytes_len, bytes_get, Nat.reduceEqDiff, Nat.reduceAdd, Nat.reduceMul, Nat.reduceSub, ↓reduceIte, Int.reduceNeg, Int.reduceToNat, hmd, hks, Bool.beq_eq_decide_eq, Int.natCast_zero, Int.add_zero, ge_iff_le, gt_iff_lt, Option.isNone_none, Option.isNone_some, List.nil_append, List.append_nil, Bool.and_true, Bool.and_self, SB, Int.reducePow, hQ]
    (first | refine call_i hP (hI) (.inl ⟨rfl, fun _ hx => nomatch hx⟩) ?_ | refine callH_i hP (hI) (.inl ⟨rfl, fun _ hx => nomatch hx⟩) ?_)
    simp +decide (maxSteps := 20000000) (disch := omega) only [↓SBK, ↓SBK2, SAU, SGs, SD, S1, S2, S3, SE, SC, SO, ST, SF, SK, bytes_len, bytes_get, Nat.reduceEqDiff, Nat.reduceAdd, Nat.reduceMul, Nat.reduceSub, ↓reduceIte, Int.reduceNeg, Int.reduceToNat, hmd, hks, Bool.beq_eq_decide_eq, Int.natCast_zero, Int.add_zero, ge_iff_le, gt_iff_lt, Option.isNone_none, Option.isNone_some, List.nil_append, List.append_nil, Bool.and_true, Bool.and_self, SB, Int.reducePow, hQ]
    (first | refine call_i hP (eqDev_self D hs2) (.inl ⟨rfl, fun _ hx => nomatch hx⟩) ?_ | refine callH_i hP (eqDev_self D hs2) (.inl ⟨rfl, fun _ hx => nomatch hx⟩) ?_)
    simp +decide (maxSteps := 20000000) (disch := omega) only [↓SBK, ↓SBK2, SAU, SGs, SD, S1, S2, S3, SE, SC, SO, ST, SF, SK, bytes_len, bytes_get, Nat.reduceEqDiff, Nat.reduceAdd, Nat.reduceMul, Nat.reduceSub, ↓reduceIte, Int.reduceNeg, Int.reduceToNat, hmd, hks, Bool.beq_eq_decide_eq, Int.natCast_zero, Int.add_zero, ge_iff_le, gt_iff_lt, Option.isNone_none, Option.isNone_some, List.nil_append, List.append_nil, Bool.and_true, Bool.and_self, SB, Int.reducePow, hQ]
    (first | refine call_i hP (s_toFaultS l hs) (.inl ⟨rfl, fun _ hx => nomatch hx⟩) ?_ | refine callH_i hP (s_toFaultS l hs) (.inl ⟨rfl, fun _ hx => nomatch hx⟩) ?_)
    simp +decide (maxSteps := 20000000) (disch := omega) only [↓SBK, ↓SBK2, SAU, SGs, SD, S1, S2, S3, SE, SC, SO, ST, SF, SK, bytes_len, bytes_get, Nat.reduceEqDiff, Nat.reduceAdd, Nat.reduceMul, Nat.reduceSub, ↓reduceIte, Int.reduceNeg, Int.reduceToNat, hmd, hks, Bool.beq_eq_decide_eq, Int.natCast_zero, Int.add_zero, ge_iff_le, gt_iff_lt, Option.isNone_none, Option.isNone_some, List.nil_append, List.append_nil, Bool.and_true, Bool.and_self, SB, Int.reducePow, hQ]
    (first | refine call_i hP (eqFaultS_self l hs) (.inl ⟨rfl, fun _ hx => nomatch hx⟩) ?_ | refine callH_i hP (eqFaultS_self l hs) (.inl ⟨rfl, fun _ hx => nomatch hx⟩) ?_)
    simp +decide (maxSteps := 20000000) (disch := omega) only [↓SBK, ↓SBK2, SAU, SGs, SD, S1, S2, S3, SE, SC, SO, ST, SF, SK, bytes_len, bytes_get, Nat.reduceEqDiff, Nat.reduceAdd, Nat.reduceMul, Nat.reduceSub, ↓reduceIte, Int.reduceNeg, Int.reduceToNat, hmd, hks, Bool.beq_eq_decide_eq, Int.natCast_zero, Int.add_zero, ge_iff_le, gt_iff_lt, Option.isNone_none, Option.isNone_some, List.nil_append, List.append_nil, Bool.and_true, Bool.and_self, SB, Int.reducePow, hQ]
    (first | refine call_i hP (s_markFaultS l 1 (by omega) (by omega)) (.inl ⟨rfl, fun _ hx => nomatch hx⟩) ?_ | refine callH_i hP (s_markFaultS l 1 (by omega) (by omega)) (.inl ⟨rfl, fun _ hx => nomatch hx⟩) ?_)
    simp +decide (maxSteps := 20000000) (disch := omega) only [↓SBK, ↓SBK2, SAU, SGs, SD, S1, S2, S3, SE, SC, SO, ST, SF, SK, bytes_len, bytes_get, Nat.reduceEqDiff, Nat.reduceAdd, Nat.reduceMul, Nat.reduceSub, ↓reduceIte, Int.reduceNeg, Int.reduceToNat, hmd, hks, Bool.beq_eq_decide_eq, Int.natCast_zero, Int.add_zero, ge_iff_le, gt_iff_lt, Option.isNone_none, Option.isNone_some, List.nil_append, List.append_nil, Bool.and_true, Bool.and_self, SB, Int.reducePow, hQ, g0]
    (first | refine call_i hP (eqDev_self D hs2) (.inl ⟨rfl, fun _ hx => nomatch hx⟩) ?_ | refine callH_i hP (eqDev_self D hs2) (.inl ⟨rfl, fun _ hx => nomatch hx⟩) ?_)
    simp +decide (maxSteps := 20000000) (disch := omega) only [↓SBK, ↓SBK2, SAU, SGs, SD, S1, S2, S3, SE, SC, SO, ST, SF, SK, bytes_len, bytes_get, Nat.reduceEqDiff, Nat.reduceAdd, Nat.reduceMul, Nat.reduceSub, ↓reduceIte, Int.reduceNeg, Int.reduceToNat, hmd, hks, Bool.beq_eq_decide_eq, Int.natCast_zero, Int.add_zero, ge_iff_le, gt_iff_lt, Option.isNone_none, Option.isNone_some, List.nil_append, List.append_nil, Bool.and_true, Bool.and_self, SB, Int.reducePow, hQ]
    (first | refine call_i hP (s_markDev D 1 (by omega) (by omega)) (.inl ⟨rfl, fun _ hx => nomatch hx⟩) ?_ | refine callH_i hP (s_markDev D 1 (by omega) (by omega)) (.inl ⟨rfl, fun _ hx => nomatch hx⟩) ?_)
    simp +decide (maxSteps := 20000000) (disch := omega) only [↓SBK, ↓SBK2, SAU, SGs, SD, S1, S2, S3, SE, SC, SO, ST, SF, SK, bytes_len, bytes_get, Nat.reduceEqDiff, Nat.reduceAdd, Nat.reduceMul, Nat.reduceSub, ↓reduceIte, Int.reduceNeg, Int.reduceToNat, hmd, hks, Bool.beq_eq_decide_eq, Int.natCast_zero, Int.add_zero, ge_iff_le, gt_iff_lt, Option.isNone_none, Option.isNone_some, List.nil_append, List.append_nil, Bool.and_true, Bool.and_self, SB, Int.reducePow, hQ]
    (first | refine call_i hP (s_heldDev D 1 (by omega) (by omega)) (.inl ⟨rfl, fun _ hx => nomatch hx⟩) ?_ | refine callH_i hP (s_heldDev D 1 (by omega) (by omega)) (.inl ⟨rfl, fun _ hx => nomatch hx⟩) ?_)
    simp +decide (maxSteps := 20000000) (disch := omega) only [↓SBK, ↓SBK2, SAU, SGs, SD, S1, S2, S3, SE, SC, SO, ST, SF, SK, bytes_len, bytes_get, Nat.reduceEqDiff, Nat.reduceAdd, Nat.reduceMul, Nat.reduceSub, ↓reduceIte, Int.reduceNeg, Int.reduceToNat, hmd, hks, Bool.beq_eq_decide_eq, Int.natCast_zero, Int.add_zero, ge_iff_le, gt_iff_lt, Option.isNone_none, Option.isNone_some, List.nil_append, List.append_nil, Bool.and_true, Bool.and_self, SB, Int.reducePow, hQ, g1]
    (first | refine call_i hP (s_toFaultS l hs) (.inl ⟨rfl, fun _ hx => nomatch hx⟩) ?_ | refine callH_i hP (s_toFaultS l hs) (.inl ⟨rfl, fun _ hx => nomatch hx⟩) ?_)
    simp +decide (maxSteps := 20000000) (disch := omega) only [↓SBK, ↓SBK2, SAU, SGs, SD, S1, S2, S3, SE, SC, SO, ST, SF, SK, bytes_len, bytes_get, Nat.reduceEqDiff, Nat.reduceAdd, Nat.reduceMul, Nat.reduceSub, ↓reduceIte, Int.reduceNeg, Int.reduceToNat, hmd, hks, Bool.beq_eq_decide_eq, Int.natCast_zero, Int.add_zero, ge_iff_le, gt_iff_lt, Option.isNone_none, Option.isNone_some, List.nil_append, List.append_nil, Bool.and_true, Bool.and_self, SB, Int.reducePow, hQ]
    (first | refine call_i hP (hI) (.inl ⟨rfl, fun _ hx => nomatch hx⟩) ?_ | refine callH_i hP (hI) (.inl ⟨rfl, fun _ hx => nomatch hx⟩) ?_)
    simp +decide (maxSteps := 20000000) (disch := omega) only [↓SBK, ↓SBK2, SAU, SGs, SD, S1, S2, S3, SE, SC, SO, ST, SF, SK, bytes_len, bytes_get, Nat.reduceEqDiff, Nat.reduceAdd, Nat.reduceMul, Nat.reduceSub, ↓reduceIte, Int.reduceNeg, Int.reduceToNat, hmd, hks, Bool.beq_eq_decide_eq, Int.natCast_zero, Int.add_zero, ge_iff_le, gt_iff_lt, Option.isNone_none, Option.isNone_some, List.nil_append, List.append_nil, Bool.and_true, Bool.and_self, SB, Int.reducePow, hQ]
    (first | refine call_i hP (eqDev_self D hs2) (.inl ⟨rfl, fun _ hx => nomatch hx⟩) ?_ | refine callH_i hP (eqDev_self D hs2) (.inl ⟨rfl, fun _ hx => nomatch hx⟩) ?_)
    simp +decide (maxSteps := 20000000) (disch := omega) only [↓SBK, ↓SBK2, SAU, SGs, SD, S1, S2, S3, SE, SC, SO, ST, SF, SK, bytes_len, bytes_get, Nat.reduceEqDiff, Nat.reduceAdd, Nat.reduceMul, Nat.reduceSub, ↓reduceIte, Int.reduceNeg, Int.reduceToNat, hmd, hks, Bool.beq_eq_decide_eq, Int.natCast_zero, Int.add_zero, ge_iff_le, gt_iff_lt, Option.isNone_none, Option.isNone_some, List.nil_append, List.append_nil, Bool.and_true, Bool.and_self, SB, Int.reducePow, hQ]
    (first | refine call_i hP (s_heldDev D 1 (by omega) (by omega)) (.inl ⟨rfl, fun _ hx => nomatch hx⟩) ?_ | refine callH_i hP (s_heldDev D 1 (by omega) (by omega)) (.inl ⟨rfl, fun _ hx => nomatch hx⟩) ?_)
    simp +decide (maxSteps := 20000000) (disch := omega) only [↓SBK, ↓SBK2, SAU, SGs, SD, S1, S2, S3, SE, SC, SO, ST, SF, SK, bytes_len, bytes_get, Nat.reduceEqDiff, Nat.reduceAdd, Nat.reduceMul, Nat.reduceSub, ↓reduceIte, Int.reduceNeg, Int.reduceToNat, hmd, hks, Bool.beq_eq_decide_eq, Int.natCast_zero, Int.add_zero, ge_iff_le, gt_iff_lt, Option.isNone_none, Option.isNone_some, List.nil_append, List.append_nil, Bool.and_true, Bool.and_self, SB, Int.reducePow, hQ, g1]
end Go.Proofs.Ytliklgcfdgdigaa.Awp

namespace Go.Proofs.Ytliklgcfdgdigaa.Awp
open Go.Proofs
set_option linter.unusedSimpArgs false
set_option linter.unusedVariables false

/-! ### what is read of an argument is a value of its type -/
theorem Shp.nil_inv {ts : List TV} (h : Shp [] ts) : ts = [] := by cases h; rfl
theorem Shp.bool_inv {ys : List Ty} {ts : List TV} (h : Shp (.bool :: ys) ts) : ∃ b us, ts = .bool b :: us ∧ Shp ys us := by cases h with | bool b _ us h => exact ⟨b, us, rfl, h⟩
theorem Shp.int_inv {k : IntKind} {ys : List Ty} {ts : List TV} (h : Shp (.int k :: ys) ts) : ∃ n us, ts = .int k n :: us ∧ Shp ys us := by cases h with | int _ n _ us _ h => exact ⟨n, us, rfl, h⟩
theorem Shp.str_inv {ys : List Ty} {ts : List TV} (h : Shp (.str :: ys) ts) : ∃ s us, ts = .str s :: us ∧ s.length ≤ 2 ^ 47 ∧ Shp ys us := by cases h with | str s _ us hs h => exact ⟨s, us, rfl, hs, h⟩
theorem Shp.sl_inv {s : Nat} {e ys : List Ty} {ts : List TV} (h : Shp (.sl s e :: ys) ts) : ∃ es us, ts = .sl s es :: us ∧ es.length ≤ 2 ^ 47 ∧ (∀ r ∈ es, Shp e r) ∧ Shp ys us := by
  cases h with | sl _ _ es _ us hl he h => exact ⟨es, us, rfl, hl, he, h⟩
theorem rows_ofShp {α : Type} {sh : List Ty} {row : α → List TV} {good : α → Prop} (H : ∀ ts, Shp sh ts → ∃ x, ts = row x ∧ good x) : ∀ {es : List (List TV)}, (∀ r ∈ es, Shp sh r) → ∃ l : List α, es = l.map row ∧ ∀ x ∈ l, good x := by
  intro es
  induction es with
  | nil => intro _; exact ⟨[], rfl, by simp⟩
  | cons r es ih =>
    intro h
    obtain ⟨x, rfl, hx⟩ := H r (h r (by simp))
    obtain ⟨l, rfl, hl⟩ := ih fun r hr => h r (by simp [hr])
    exact ⟨x :: l, rfl, fun y hy => by rcases List.mem_cons.1 hy with rfl | hy; exact hx; exact hl y hy⟩
theorem byte_ofShp (ts : List TV) (h : Shp [.int .u8] ts) : ∃ x : UInt8, ts = byteRow x ∧ True := by
  cases h with
  | int _ n _ us hn h =>
    cases h
    obtain ⟨h1, h2⟩ := bounds_u8 hn
    refine ⟨UInt8.ofNat n.toNat, ?_, trivial⟩
    have : (UInt8.ofNat n.toNat).toNat = n.toNat := by simp; omega
    simp only [byteRow, this]
    congr 2
    omega
theorem bytes_ofShp {es : List (List TV)} (h : ∀ r ∈ es, Shp [.int .u8] r) : ∃ b : Bytes, es = bytesR b := by
  obtain ⟨l, rfl, _⟩ := rows_ofShp byte_ofShp h
  exact ⟨l, rfl⟩
theorem len_ofs {s : Bytes} (h : s.length ≤ 2 ^ 47) : s.length < 2 ^ 48 := Nat.lt_of_le_of_lt h (by decide)
theorem len_ofb {b : Bytes} (h : (bytesR b).length ≤ 2 ^ 47) : b.length < 2 ^ 48 := Nat.lt_of_le_of_lt (by simpa [bytesR] using h) (by decide)
theorem len_ofl {α β : Type} {f : α → β} {l : List α} (h : (l.map f).length ≤ 2 ^ 47) : l.length < 2 ^ 48 := Nat.lt_of_le_of_lt (by simpa using h) (by decide)

def Page.shape : List Ty := [.bool, .sl 1 [.int .u8]]
theorem Page.ofShp (ts : List TV) (h : Shp Page.shape ts) : ∃ x : Page, ts = x.row ∧ x.fine := by
  obtain ⟨v_used, u0, rfl, h1⟩ := Shp.bool_inv h
  obtain ⟨r1, u1, rfl, lv_b, e1, h2⟩ := Shp.sl_inv h1
  obtain ⟨v_b, rfl⟩ := bytes_ofShp e1
  obtain rfl := Shp.nil_inv h2
  exact ⟨{ used := v_used, b := v_b }, rfl, len_ofb lv_b⟩
def Block.shape : List Ty := [.sl 2 Page.shape, .int .i64, .bool]
theorem Block.ofShp (ts : List TV) (h : Shp Block.shape ts) : ∃ x : Block, ts = x.row ∧ x.fine := by
  obtain ⟨r0, u0, rfl, lv_pages, e0, h1⟩ := Shp.sl_inv h
  obtain ⟨v_pages, rfl, gv_pages⟩ := rows_ofShp Page.ofShp e0
  obtain ⟨v_wear, u1, rfl, h2⟩ := Shp.int_inv h1
  obtain ⟨v_bad, u2, rfl, h3⟩ := Shp.bool_inv h2
  obtain rfl := Shp.nil_inv h3
  exact ⟨{ pages := v_pages, wear := v_wear, bad := v_bad }, rfl, ⟨len_ofl lv_pages, gv_pages⟩⟩
def Chip.shape : List Ty := [.sl 3 Block.shape]
theorem Chip.ofShp (ts : List TV) (h : Shp Chip.shape ts) : ∃ x : Chip, ts = x.row ∧ x.fine := by
  obtain ⟨r0, u0, rfl, lv_blocks, e0, h1⟩ := Shp.sl_inv h
  obtain ⟨v_blocks, rfl, gv_blocks⟩ := rows_ofShp Block.ofShp e0
  obtain rfl := Shp.nil_inv h1
  exact ⟨{ blocks := v_blocks }, rfl, ⟨len_ofl lv_blocks, gv_blocks⟩⟩
def Fault.shape : List Ty := [.int .i64, .int .i64, .int .i64]
theorem Fault.ofShp (ts : List TV) (h : Shp Fault.shape ts) : ∃ x : Fault, ts = x.row ∧ x.fine := by
  obtain ⟨v_at', u0, rfl, h1⟩ := Shp.int_inv h
  obtain ⟨v_kind, u1, rfl, h2⟩ := Shp.int_inv h1
  obtain ⟨v_keep, u2, rfl, h3⟩ := Shp.int_inv h2
  obtain rfl := Shp.nil_inv h3
  exact ⟨{ at' := v_at', kind := v_kind, keep := v_keep }, rfl, trivial⟩
def Dev.shape : List Ty := [.sl 3 Block.shape, .int .i64, .sl 3 Fault.shape, .bool]
theorem Dev.ofShp (ts : List TV) (h : Shp Dev.shape ts) : ∃ x : Dev, ts = x.row ∧ x.fine := by
  obtain ⟨r0, u0, rfl, lv_c_blocks, e0, h1⟩ := Shp.sl_inv h
  obtain ⟨v_c_blocks, rfl, gv_c_blocks⟩ := rows_ofShp Block.ofShp e0
  obtain ⟨v_ops, u1, rfl, h2⟩ := Shp.int_inv h1
  obtain ⟨r2, u2, rfl, lv_faults, e2, h3⟩ := Shp.sl_inv h2
  obtain ⟨v_faults, rfl, gv_faults⟩ := rows_ofShp Fault.ofShp e2
  obtain ⟨v_down, u3, rfl, h4⟩ := Shp.bool_inv h3
  obtain rfl := Shp.nil_inv h4
  exact ⟨{ c := { blocks := v_c_blocks }, ops := v_ops, faults := v_faults, down := v_down }, rfl, ⟨⟨len_ofl lv_c_blocks, gv_c_blocks⟩, len_ofl lv_faults⟩⟩
def Rec.shape : List Ty := [.int .i64, .int .i64, .sl 1 [.int .u8]]
theorem Rec.ofShp (ts : List TV) (h : Shp Rec.shape ts) : ∃ x : Rec, ts = x.row ∧ x.fine := by
  obtain ⟨v_kind, u0, rfl, h1⟩ := Shp.int_inv h
  obtain ⟨v_seq, u1, rfl, h2⟩ := Shp.int_inv h1
  obtain ⟨r2, u2, rfl, lv_body, e2, h3⟩ := Shp.sl_inv h2
  obtain ⟨v_body, rfl⟩ := bytes_ofShp e2
  obtain rfl := Shp.nil_inv h3
  exact ⟨{ kind := v_kind, seq := v_seq, body := v_body }, rfl, len_ofb lv_body⟩
def Op.shape : List Ty := [.int .i64, .int .i64, .str, .str, .int .i64, .sl 1 [.int .u8]]
theorem Op.ofShp (ts : List TV) (h : Shp Op.shape ts) : ∃ x : Op, ts = x.row ∧ x.fine := by
  obtain ⟨v_kind, u0, rfl, h1⟩ := Shp.int_inv h
  obtain ⟨v_vol, u1, rfl, h2⟩ := Shp.int_inv h1
  obtain ⟨v_path, u2, rfl, lv_path, h3⟩ := Shp.str_inv h2
  obtain ⟨v_to', u3, rfl, lv_to', h4⟩ := Shp.str_inv h3
  obtain ⟨v_off, u4, rfl, h5⟩ := Shp.int_inv h4
  obtain ⟨r5, u5, rfl, lv_data, e5, h6⟩ := Shp.sl_inv h5
  obtain ⟨v_data, rfl⟩ := bytes_ofShp e5
  obtain rfl := Shp.nil_inv h6
  exact ⟨{ kind := v_kind, vol := v_vol, path := v_path, to' := v_to', off := v_off, data := v_data }, rfl, ⟨len_ofs lv_path, len_ofs lv_to', len_ofb lv_data⟩⟩
def Log.shape : List Ty := [.sl 3 Block.shape, .int .i64, .sl 3 Fault.shape, .bool, .int .i64]
theorem Log.ofShp (ts : List TV) (h : Shp Log.shape ts) : ∃ x : Log, ts = x.row ∧ x.fine := by
  obtain ⟨r0, u0, rfl, lv_d_c_blocks, e0, h1⟩ := Shp.sl_inv h
  obtain ⟨v_d_c_blocks, rfl, gv_d_c_blocks⟩ := rows_ofShp Block.ofShp e0
  obtain ⟨v_d_ops, u1, rfl, h2⟩ := Shp.int_inv h1
  obtain ⟨r2, u2, rfl, lv_d_faults, e2, h3⟩ := Shp.sl_inv h2
  obtain ⟨v_d_faults, rfl, gv_d_faults⟩ := rows_ofShp Fault.ofShp e2
  obtain ⟨v_d_down, u3, rfl, h4⟩ := Shp.bool_inv h3
  obtain ⟨v_seq, u4, rfl, h5⟩ := Shp.int_inv h4
  obtain rfl := Shp.nil_inv h5
  exact ⟨{ d := { c := { blocks := v_d_c_blocks }, ops := v_d_ops, faults := v_d_faults, down := v_d_down }, seq := v_seq }, rfl, ⟨⟨len_ofl lv_d_c_blocks, gv_d_c_blocks⟩, len_ofl lv_d_faults⟩⟩
end Go.Proofs.Ytliklgcfdgdigaa.Awp

namespace Go.Proofs.Ytliklgcfdgdigaa.Awp
open Go.Proofs Go.Proofs.Ytliklgcfdgdigaa
set_option linter.unusedSimpArgs false
set_option linter.unusedVariables false
set_option maxRecDepth 100000

theorem own : ownKnob Try.prog.godebug = none := by kernel_rfl
/-- how the text of the program's start goes on -/
def ioTail : List Char := [Char.ofNat 97, Char.ofNat 116, Char.ofNat 32, Char.ofNat 108, Char.ofNat 111, Char.ofNat 111, Char.ofNat 112, Char.ofNat 46, Char.ofNat 101, Char.ofNat 120, Char.ofNat 97, Char.ofNat 109, Char.ofNat 112, Char.ofNat 108, Char.ofNat 101, Char.ofNat 47, Char.ofNat 103, Char.ofNat 48, Char.ofNat 48, Char.ofNat 50, Char.ofNat 56, Char.ofNat 53, Char.ofNat 47, Char.ofNat 108, Char.ofNat 97, Char.ofNat 119, Char.ofNat 115, Char.ofNat 46, Char.ofNat 70, Char.ofNat 110, Char.ofNat 69, Char.ofNat 120, Char.ofNat 97, Char.ofNat 99, Char.ofNat 116, Char.ofNat 82, Char.ofNat 101, Char.ofNat 99, Char.ofNat 79, Char.ofNat 107, Char.ofNat 32, Char.ofNat 108, Char.ofNat 111, Char.ofNat 111, Char.ofNat 112, Char.ofNat 46, Char.ofNat 101, Char.ofNat 120, Char.ofNat 97, Char.ofNat 109, Char.ofNat 112, Char.ofNat 108, Char.ofNat 101, Char.ofNat 47, Char.ofNat 103, Char.ofNat 48, Char.ofNat 48, Char.ofNat 50, Char.ofNat 56, Char.ofNat 53] ++ [Char.ofNat 47, Char.ofNat 108, Char.ofNat 97, Char.ofNat 119, Char.ofNat 115, Char.ofNat 46, Char.ofNat 70, Char.ofNat 110, Char.ofNat 69, Char.ofNat 120, Char.ofNat 97, Char.ofNat 99, Char.ofNat 116, Char.ofNat 67, Char.ofNat 104, Char.ofNat 97, Char.ofNat 110, Char.ofNat 103, Char.ofNat 101, Char.ofNat 115, Char.ofNat 32, Char.ofNat 108, Char.ofNat 111, Char.ofNat 111, Char.ofNat 112, Char.ofNat 46, Char.ofNat 101, Char.ofNat 120, Char.ofNat 97, Char.ofNat 109, Char.ofNat 112, Char.ofNat 108, Char.ofNat 101, Char.ofNat 47, Char.ofNat 103, Char.ofNat 48, Char.ofNat 48, Char.ofNat 50, Char.ofNat 56, Char.ofNat 53, Char.ofNat 47, Char.ofNat 108, Char.ofNat 97, Char.ofNat 119, Char.ofNat 115, Char.ofNat 46, Char.ofNat 70, Char.ofNat 110, Char.ofNat 69, Char.ofNat 120, Char.ofNat 97, Char.ofNat 99, Char.ofNat 116, Char.ofNat 80, Char.ofNat 117, Char.ofNat 116, Char.ofNat 79, Char.ofNat 112, Char.ofNat 32, Char.ofNat 108] ++ [Char.ofNat 111, Char.ofNat 111, Char.ofNat 112, Char.ofNat 46, Char.ofNat 101, Char.ofNat 120, Char.ofNat 97, Char.ofNat 109, Char.ofNat 112, Char.ofNat 108, Char.ofNat 101, Char.ofNat 47, Char.ofNat 103, Char.ofNat 48, Char.ofNat 48, Char.ofNat 50, Char.ofNat 56, Char.ofNat 53, Char.ofNat 47, Char.ofNat 108, Char.ofNat 97, Char.ofNat 119, Char.ofNat 115, Char.ofNat 46, Char.ofNat 70, Char.ofNat 110, Char.ofNat 69, Char.ofNat 120, Char.ofNat 97, Char.ofNat 99, Char.ofNat 116, Char.ofNat 67, Char.ofNat 104, Char.ofNat 105, Char.ofNat 112, Char.ofNat 78, Char.ofNat 101, Char.ofNat 119, Char.ofNat 32, Char.ofNat 108, Char.ofNat 111, Char.ofNat 111, Char.ofNat 112, Char.ofNat 46, Char.ofNat 101, Char.ofNat 120, Char.ofNat 97, Char.ofNat 109, Char.ofNat 112, Char.ofNat 108, Char.ofNat 101, Char.ofNat 47, Char.ofNat 103, Char.ofNat 48, Char.ofNat 48, Char.ofNat 50, Char.ofNat 56, Char.ofNat 53, Char.ofNat 47, Char.ofNat 108] ++ [Char.ofNat 97, Char.ofNat 119, Char.ofNat 115, Char.ofNat 46, Char.ofNat 70, Char.ofNat 110, Char.ofNat 69, Char.ofNat 120, Char.ofNat 97, Char.ofNat 99, Char.ofNat 116, Char.ofNat 80, Char.ofNat 117, Char.ofNat 116, Char.ofNat 82, Char.ofNat 101, Char.ofNat 99, Char.ofNat 32, Char.ofNat 108, Char.ofNat 111, Char.ofNat 111, Char.ofNat 112, Char.ofNat 46, Char.ofNat 101, Char.ofNat 120, Char.ofNat 97, Char.ofNat 109, Char.ofNat 112, Char.ofNat 108, Char.ofNat 101, Char.ofNat 47, Char.ofNat 103, Char.ofNat 48, Char.ofNat 48, Char.ofNat 50, Char.ofNat 56, Char.ofNat 53, Char.ofNat 47, Char.ofNat 108, Char.ofNat 97, Char.ofNat 119, Char.ofNat 115, Char.ofNat 46, Char.ofNat 70, Char.ofNat 110, Char.ofNat 69, Char.ofNat 120, Char.ofNat 97, Char.ofNat 99, Char.ofNat 116, Char.ofNat 87, Char.ofNat 111, Char.ofNat 114, Char.ofNat 110, Char.ofNat 79, Char.ofNat 102, Char.ofNat 32, Char.ofNat 108, Char.ofNat 111, Char.ofNat 111] ++ [Char.ofNat 112, Char.ofNat 46, Char.ofNat 101, Char.ofNat 120, Char.ofNat 97, Char.ofNat 109, Char.ofNat 112, Char.ofNat 108, Char.ofNat 101, Char.ofNat 47, Char.ofNat 103, Char.ofNat 48, Char.ofNat 48, Char.ofNat 50, Char.ofNat 56, Char.ofNat 53, Char.ofNat 47, Char.ofNat 108, Char.ofNat 97, Char.ofNat 119, Char.ofNat 115, Char.ofNat 46, Char.ofNat 70, Char.ofNat 110, Char.ofNat 69, Char.ofNat 120, Char.ofNat 97, Char.ofNat 99, Char.ofNat 116, Char.ofNat 71, Char.ofNat 101, Char.ofNat 116, Char.ofNat 79, Char.ofNat 112, Char.ofNat 32, Char.ofNat 108, Char.ofNat 111, Char.ofNat 111, Char.ofNat 112, Char.ofNat 46, Char.ofNat 101, Char.ofNat 120, Char.ofNat 97, Char.ofNat 109, Char.ofNat 112, Char.ofNat 108, Char.ofNat 101, Char.ofNat 47, Char.ofNat 103, Char.ofNat 48, Char.ofNat 48, Char.ofNat 50, Char.ofNat 56, Char.ofNat 53, Char.ofNat 47, Char.ofNat 108, Char.ofNat 97, Char.ofNat 119, Char.ofNat 115, Char.ofNat 46] ++ [Char.ofNat 70, Char.ofNat 110, Char.ofNat 69, Char.ofNat 120, Char.ofNat 97, Char.ofNat 99, Char.ofNat 116, Char.ofNat 78, Char.ofNat 101, Char.ofNat 120, Char.ofNat 116, Char.ofNat 80, Char.ofNat 97, Char.ofNat 103, Char.ofNat 101, Char.ofNat 32, Char.ofNat 108, Char.ofNat 111, Char.ofNat 111, Char.ofNat 112, Char.ofNat 46, Char.ofNat 101, Char.ofNat 120, Char.ofNat 97, Char.ofNat 109, Char.ofNat 112, Char.ofNat 108, Char.ofNat 101, Char.ofNat 47, Char.ofNat 103, Char.ofNat 48, Char.ofNat 48, Char.ofNat 50, Char.ofNat 56, Char.ofNat 53, Char.ofNat 47, Char.ofNat 108, Char.ofNat 97, Char.ofNat 119, Char.ofNat 115, Char.ofNat 46, Char.ofNat 70, Char.ofNat 110, Char.ofNat 69, Char.ofNat 120, Char.ofNat 97, Char.ofNat 99, Char.ofNat 116, Char.ofNat 67, Char.ofNat 104, Char.ofNat 105, Char.ofNat 112, Char.ofNat 79, Char.ofNat 107, Char.ofNat 32, Char.ofNat 108, Char.ofNat 111, Char.ofNat 111, Char.ofNat 112, Char.ofNat 46] ++ [Char.ofNat 101, Char.ofNat 120, Char.ofNat 97, Char.ofNat 109, Char.ofNat 112, Char.ofNat 108, Char.ofNat 101, Char.ofNat 47, Char.ofNat 103, Char.ofNat 48, Char.ofNat 48, Char.ofNat 50, Char.ofNat 56, Char.ofNat 53, Char.ofNat 47, Char.ofNat 108, Char.ofNat 97, Char.ofNat 119, Char.ofNat 115, Char.ofNat 46, Char.ofNat 70, Char.ofNat 110, Char.ofNat 82, Char.ofNat 101, Char.ofNat 99, Char.ofNat 115, Char.ofNat 32, Char.ofNat 108, Char.ofNat 111, Char.ofNat 111, Char.ofNat 112, Char.ofNat 46, Char.ofNat 101, Char.ofNat 120, Char.ofNat 97, Char.ofNat 109, Char.ofNat 112, Char.ofNat 108, Char.ofNat 101, Char.ofNat 47, Char.ofNat 103, Char.ofNat 48, Char.ofNat 48, Char.ofNat 50, Char.ofNat 56, Char.ofNat 53, Char.ofNat 47, Char.ofNat 108, Char.ofNat 97, Char.ofNat 119, Char.ofNat 115, Char.ofNat 46, Char.ofNat 70, Char.ofNat 110, Char.ofNat 69, Char.ofNat 120, Char.ofNat 97, Char.ofNat 99, Char.ofNat 116, Char.ofNat 82] ++ [Char.ofNat 101, Char.ofNat 97, Char.ofNat 100, Char.ofNat 80, Char.ofNat 97, Char.ofNat 103, Char.ofNat 101, Char.ofNat 32, Char.ofNat 108, Char.ofNat 111, Char.ofNat 111, Char.ofNat 112, Char.ofNat 46, Char.ofNat 101, Char.ofNat 120, Char.ofNat 97, Char.ofNat 109, Char.ofNat 112, Char.ofNat 108, Char.ofNat 101, Char.ofNat 47, Char.ofNat 103, Char.ofNat 48, Char.ofNat 48, Char.ofNat 50, Char.ofNat 56, Char.ofNat 53, Char.ofNat 47, Char.ofNat 108, Char.ofNat 97, Char.ofNat 119, Char.ofNat 115, Char.ofNat 46, Char.ofNat 70, Char.ofNat 110, Char.ofNat 78, Char.ofNat 101, Char.ofNat 119, Char.ofNat 67, Char.ofNat 104, Char.ofNat 105, Char.ofNat 112, Char.ofNat 115, Char.ofNat 32, Char.ofNat 108, Char.ofNat 111, Char.ofNat 111, Char.ofNat 112, Char.ofNat 46, Char.ofNat 101, Char.ofNat 120, Char.ofNat 97, Char.ofNat 109, Char.ofNat 112, Char.ofNat 108, Char.ofNat 101, Char.ofNat 47, Char.ofNat 103, Char.ofNat 48, Char.ofNat 48] ++ [Char.ofNat 50, Char.ofNat 56, Char.ofNat 53, Char.ofNat 47, Char.ofNat 108, Char.ofNat 97, Char.ofNat 119, Char.ofNat 115, Char.ofNat 46, Char.ofNat 70, Char.ofNat 110, Char.ofNat 73, Char.ofNat 110, Char.ofNat 84, Char.ofNat 117, Char.ofNat 114, Char.ofNat 110, Char.ofNat 32, Char.ofNat 108, Char.ofNat 111, Char.ofNat 111, Char.ofNat 112, Char.ofNat 46, Char.ofNat 101, Char.ofNat 120, Char.ofNat 97, Char.ofNat 109, Char.ofNat 112, Char.ofNat 108, Char.ofNat 101, Char.ofNat 47, Char.ofNat 103, Char.ofNat 48, Char.ofNat 48, Char.ofNat 50, Char.ofNat 56, Char.ofNat 53, Char.ofNat 47, Char.ofNat 108, Char.ofNat 97, Char.ofNat 119, Char.ofNat 115, Char.ofNat 46, Char.ofNat 70, Char.ofNat 110, Char.ofNat 69, Char.ofNat 120, Char.ofNat 97, Char.ofNat 99, Char.ofNat 116, Char.ofNat 71, Char.ofNat 101, Char.ofNat 116, Char.ofNat 82, Char.ofNat 101, Char.ofNat 99, Char.ofNat 32, Char.ofNat 108, Char.ofNat 111, Char.ofNat 111] ++ [Char.ofNat 112, Char.ofNat 46, Char.ofNat 101, Char.ofNat 120, Char.ofNat 97, Char.ofNat 109, Char.ofNat 112, Char.ofNat 108, Char.ofNat 101, Char.ofNat 47, Char.ofNat 103, Char.ofNat 48, Char.ofNat 48, Char.ofNat 50, Char.ofNat 56, Char.ofNat 53, Char.ofNat 47, Char.ofNat 108, Char.ofNat 97, Char.ofNat 119, Char.ofNat 115, Char.ofNat 46, Char.ofNat 70, Char.ofNat 110, Char.ofNat 69, Char.ofNat 120, Char.ofNat 97, Char.ofNat 99, Char.ofNat 116, Char.ofNat 70, Char.ofNat 97, Char.ofNat 117, Char.ofNat 108, Char.ofNat 116, Char.ofNat 65, Char.ofNat 116, Char.ofNat 32, Char.ofNat 108, Char.ofNat 111, Char.ofNat 111, Char.ofNat 112, Char.ofNat 46, Char.ofNat 101, Char.ofNat 120, Char.ofNat 97, Char.ofNat 109, Char.ofNat 112, Char.ofNat 108, Char.ofNat 101, Char.ofNat 47, Char.ofNat 103, Char.ofNat 48, Char.ofNat 48, Char.ofNat 50, Char.ofNat 56, Char.ofNat 53, Char.ofNat 47, Char.ofNat 108, Char.ofNat 97, Char.ofNat 119] ++ [Char.ofNat 115, Char.ofNat 46, Char.ofNat 70, Char.ofNat 110, Char.ofNat 69, Char.ofNat 114, Char.ofNat 97, Char.ofNat 115, Char.ofNat 101, Char.ofNat 100, Char.ofNat 32, Char.ofNat 108, Char.ofNat 111, Char.ofNat 111, Char.ofNat 112, Char.ofNat 46, Char.ofNat 101, Char.ofNat 120, Char.ofNat 97, Char.ofNat 109, Char.ofNat 112, Char.ofNat 108, Char.ofNat 101, Char.ofNat 47, Char.ofNat 103, Char.ofNat 48, Char.ofNat 48, Char.ofNat 50, Char.ofNat 56, Char.ofNat 53, Char.ofNat 47, Char.ofNat 108, Char.ofNat 97, Char.ofNat 119, Char.ofNat 115, Char.ofNat 46, Char.ofNat 70, Char.ofNat 110, Char.ofNat 67, Char.ofNat 104, Char.ofNat 105, Char.ofNat 112, Char.ofNat 115, Char.ofNat 32, Char.ofNat 108, Char.ofNat 111, Char.ofNat 111, Char.ofNat 112, Char.ofNat 46, Char.ofNat 101, Char.ofNat 120, Char.ofNat 97, Char.ofNat 109, Char.ofNat 112, Char.ofNat 108, Char.ofNat 101, Char.ofNat 47, Char.ofNat 103, Char.ofNat 48, Char.ofNat 48] ++ [Char.ofNat 50, Char.ofNat 56, Char.ofNat 53, Char.ofNat 47, Char.ofNat 108, Char.ofNat 97, Char.ofNat 119, Char.ofNat 115, Char.ofNat 46, Char.ofNat 70, Char.ofNat 110, Char.ofNat 82, Char.ofNat 101, Char.ofNat 99, Char.ofNat 115, Char.ofNat 82, Char.ofNat 101, Char.ofNat 97, Char.ofNat 100, Char.ofNat 32, Char.ofNat 108, Char.ofNat 111, Char.ofNat 111, Char.ofNat 112, Char.ofNat 46, Char.ofNat 101, Char.ofNat 120, Char.ofNat 97, Char.ofNat 109, Char.ofNat 112, Char.ofNat 108, Char.ofNat 101, Char.ofNat 47, Char.ofNat 103, Char.ofNat 48, Char.ofNat 48, Char.ofNat 50, Char.ofNat 56, Char.ofNat 53, Char.ofNat 47, Char.ofNat 108, Char.ofNat 97, Char.ofNat 119, Char.ofNat 115, Char.ofNat 46, Char.ofNat 70, Char.ofNat 110, Char.ofNat 69, Char.ofNat 120, Char.ofNat 97, Char.ofNat 99, Char.ofNat 116, Char.ofNat 68, Char.ofNat 101, Char.ofNat 118, Char.ofNat 79, Char.ofNat 107, Char.ofNat 32, Char.ofNat 108, Char.ofNat 111] ++ [Char.ofNat 111, Char.ofNat 112, Char.ofNat 46, Char.ofNat 101, Char.ofNat 120, Char.ofNat 97, Char.ofNat 109, Char.ofNat 112, Char.ofNat 108, Char.ofNat 101, Char.ofNat 47, Char.ofNat 103, Char.ofNat 48, Char.ofNat 48, Char.ofNat 50, Char.ofNat 56, Char.ofNat 53, Char.ofNat 47, Char.ofNat 108, Char.ofNat 97, Char.ofNat 119, Char.ofNat 115, Char.ofNat 46, Char.ofNat 70, Char.ofNat 110, Char.ofNat 69, Char.ofNat 120, Char.ofNat 97, Char.ofNat 99, Char.ofNat 116, Char.ofNat 70, Char.ofNat 114, Char.ofNat 101, Char.ofNat 101, Char.ofNat 66, Char.ofNat 108, Char.ofNat 111, Char.ofNat 99, Char.ofNat 107, Char.ofNat 115, Char.ofNat 32, Char.ofNat 108, Char.ofNat 111, Char.ofNat 111, Char.ofNat 112, Char.ofNat 46, Char.ofNat 101, Char.ofNat 120, Char.ofNat 97, Char.ofNat 109, Char.ofNat 112, Char.ofNat 108, Char.ofNat 101, Char.ofNat 47, Char.ofNat 103, Char.ofNat 48, Char.ofNat 48, Char.ofNat 50, Char.ofNat 56, Char.ofNat 53] ++ [Char.ofNat 47, Char.ofNat 108, Char.ofNat 97, Char.ofNat 119, Char.ofNat 115, Char.ofNat 46, Char.ofNat 70, Char.ofNat 110, Char.ofNat 69, Char.ofNat 120, Char.ofNat 97, Char.ofNat 99, Char.ofNat 116, Char.ofNat 68, Char.ofNat 101, Char.ofNat 118, Char.ofNat 78, Char.ofNat 101, Char.ofNat 119, Char.ofNat 32, Char.ofNat 108, Char.ofNat 111, Char.ofNat 111, Char.ofNat 112, Char.ofNat 46, Char.ofNat 101, Char.ofNat 120, Char.ofNat 97, Char.ofNat 109, Char.ofNat 112, Char.ofNat 108, Char.ofNat 101, Char.ofNat 47, Char.ofNat 103, Char.ofNat 48, Char.ofNat 48, Char.ofNat 50, Char.ofNat 56, Char.ofNat 53, Char.ofNat 47, Char.ofNat 108, Char.ofNat 97, Char.ofNat 119, Char.ofNat 115, Char.ofNat 46, Char.ofNat 70, Char.ofNat 110, Char.ofNat 69, Char.ofNat 120, Char.ofNat 97, Char.ofNat 99, Char.ofNat 116, Char.ofNat 69, Char.ofNat 114, Char.ofNat 97, Char.ofNat 115, Char.ofNat 101, Char.ofNat 32, Char.ofNat 108, Char.ofNat 111] ++ [Char.ofNat 111, Char.ofNat 112, Char.ofNat 46, Char.ofNat 101, Char.ofNat 120, Char.ofNat 97, Char.ofNat 109, Char.ofNat 112, Char.ofNat 108, Char.ofNat 101, Char.ofNat 47, Char.ofNat 103, Char.ofNat 48, Char.ofNat 48, Char.ofNat 50, Char.ofNat 56, Char.ofNat 53, Char.ofNat 47, Char.ofNat 108, Char.ofNat 97, Char.ofNat 119, Char.ofNat 115, Char.ofNat 46, Char.ofNat 70, Char.ofNat 110, Char.ofNat 69, Char.ofNat 120, Char.ofNat 97, Char.ofNat 99, Char.ofNat 116, Char.ofNat 80, Char.ofNat 114, Char.ofNat 111, Char.ofNat 103, Char.ofNat 114, Char.ofNat 97, Char.ofNat 109, Char.ofNat 32, Char.ofNat 108, Char.ofNat 111, Char.ofNat 111, Char.ofNat 112, Char.ofNat 46, Char.ofNat 101, Char.ofNat 120, Char.ofNat 97, Char.ofNat 109, Char.ofNat 112, Char.ofNat 108, Char.ofNat 101, Char.ofNat 47, Char.ofNat 103, Char.ofNat 48, Char.ofNat 48, Char.ofNat 50, Char.ofNat 56, Char.ofNat 53, Char.ofNat 47, Char.ofNat 108, Char.ofNat 97] ++ [Char.ofNat 119, Char.ofNat 115, Char.ofNat 46, Char.ofNat 70, Char.ofNat 110, Char.ofNat 69, Char.ofNat 120, Char.ofNat 97, Char.ofNat 99, Char.ofNat 116, Char.ofNat 80, Char.ofNat 111, Char.ofNat 119, Char.ofNat 101, Char.ofNat 114, Char.ofNat 85, Char.ofNat 112, Char.ofNat 32, Char.ofNat 108, Char.ofNat 111, Char.ofNat 111, Char.ofNat 112, Char.ofNat 46, Char.ofNat 101, Char.ofNat 120, Char.ofNat 97, Char.ofNat 109, Char.ofNat 112, Char.ofNat 108, Char.ofNat 101, Char.ofNat 47, Char.ofNat 103, Char.ofNat 48, Char.ofNat 48, Char.ofNat 50, Char.ofNat 56, Char.ofNat 53, Char.ofNat 47, Char.ofNat 108, Char.ofNat 97, Char.ofNat 119, Char.ofNat 115, Char.ofNat 46, Char.ofNat 70, Char.ofNat 110, Char.ofNat 68, Char.ofNat 101, Char.ofNat 118, Char.ofNat 115, Char.ofNat 32, Char.ofNat 108, Char.ofNat 111, Char.ofNat 111, Char.ofNat 112, Char.ofNat 46, Char.ofNat 101, Char.ofNat 120, Char.ofNat 97, Char.ofNat 109, Char.ofNat 112] ++ [Char.ofNat 108, Char.ofNat 101, Char.ofNat 47, Char.ofNat 103, Char.ofNat 48, Char.ofNat 48, Char.ofNat 50, Char.ofNat 56, Char.ofNat 53, Char.ofNat 47, Char.ofNat 108, Char.ofNat 97, Char.ofNat 119, Char.ofNat 115, Char.ofNat 46, Char.ofNat 70, Char.ofNat 110, Char.ofNat 68, Char.ofNat 101, Char.ofNat 118, Char.ofNat 69, Char.ofNat 114, Char.ofNat 97, Char.ofNat 115, Char.ofNat 101, Char.ofNat 100, Char.ofNat 32, Char.ofNat 108, Char.ofNat 111, Char.ofNat 111, Char.ofNat 112, Char.ofNat 46, Char.ofNat 101, Char.ofNat 120, Char.ofNat 97, Char.ofNat 109, Char.ofNat 112, Char.ofNat 108, Char.ofNat 101, Char.ofNat 47, Char.ofNat 103, Char.ofNat 48, Char.ofNat 48, Char.ofNat 50, Char.ofNat 56, Char.ofNat 53, Char.ofNat 47, Char.ofNat 108, Char.ofNat 97, Char.ofNat 119, Char.ofNat 115, Char.ofNat 46, Char.ofNat 70, Char.ofNat 110, Char.ofNat 80, Char.ofNat 111, Char.ofNat 119, Char.ofNat 101, Char.ofNat 114, Char.ofNat 115] ++ [Char.ofNat 32, Char.ofNat 108, Char.ofNat 111, Char.ofNat 111, Char.ofNat 112, Char.ofNat 46, Char.ofNat 101, Char.ofNat 120, Char.ofNat 97, Char.ofNat 109, Char.ofNat 112, Char.ofNat 108, Char.ofNat 101, Char.ofNat 47, Char.ofNat 103, Char.ofNat 48, Char.ofNat 48, Char.ofNat 50, Char.ofNat 56, Char.ofNat 53, Char.ofNat 47, Char.ofNat 108, Char.ofNat 97, Char.ofNat 119, Char.ofNat 115, Char.ofNat 46, Char.ofNat 70, Char.ofNat 110, Char.ofNat 69, Char.ofNat 120, Char.ofNat 97, Char.ofNat 99, Char.ofNat 116, Char.ofNat 68, Char.ofNat 101, Char.ofNat 118, Char.ofNat 69, Char.ofNat 114, Char.ofNat 97, Char.ofNat 115, Char.ofNat 101, Char.ofNat 32, Char.ofNat 108, Char.ofNat 111, Char.ofNat 111, Char.ofNat 112, Char.ofNat 46, Char.ofNat 101, Char.ofNat 120, Char.ofNat 97, Char.ofNat 109, Char.ofNat 112, Char.ofNat 108, Char.ofNat 101, Char.ofNat 47, Char.ofNat 103, Char.ofNat 48, Char.ofNat 48, Char.ofNat 50, Char.ofNat 56] ++ [Char.ofNat 53, Char.ofNat 47, Char.ofNat 108, Char.ofNat 97, Char.ofNat 119, Char.ofNat 115, Char.ofNat 46, Char.ofNat 70, Char.ofNat 110, Char.ofNat 69, Char.ofNat 120, Char.ofNat 97, Char.ofNat 99, Char.ofNat 116, Char.ofNat 68, Char.ofNat 101, Char.ofNat 118, Char.ofNat 80, Char.ofNat 114, Char.ofNat 111, Char.ofNat 103, Char.ofNat 114, Char.ofNat 97, Char.ofNat 109]
def ioSum : List Char := [Char.ofNat 98, Char.ofNat 51, Char.ofNat 102, Char.ofNat 55, Char.ofNat 99, Char.ofNat 48, Char.ofNat 100, Char.ofNat 99, Char.ofNat 52, Char.ofNat 51, Char.ofNat 51, Char.ofNat 102, Char.ofNat 99, Char.ofNat 98, Char.ofNat 52, Char.ofNat 55, Char.ofNat 53, Char.ofNat 52, Char.ofNat 55, Char.ofNat 49, Char.ofNat 102, Char.ofNat 53, Char.ofNat 56, Char.ofNat 48, Char.ofNat 101, Char.ofNat 102, Char.ofNat 54, Char.ofNat 97, Char.ofNat 99, Char.ofNat 57, Char.ofNat 54, Char.ofNat 49, Char.ofNat 100, Char.ofNat 51, Char.ofNat 97, Char.ofNat 55, Char.ofNat 99, Char.ofNat 57, Char.ofNat 57, Char.ofNat 53, Char.ofNat 49, Char.ofNat 100, Char.ofNat 100, Char.ofNat 49, Char.ofNat 51, Char.ofNat 52, Char.ofNat 101, Char.ofNat 102, Char.ofNat 98, Char.ofNat 98, Char.ofNat 99, Char.ofNat 56, Char.ofNat 53, Char.ofNat 98, Char.ofNat 99, Char.ofNat 53, Char.ofNat 49, Char.ofNat 48, Char.ofNat 52, Char.ofNat 48, Char.ofNat 48, Char.ofNat 100, Char.ofNat 97, Char.ofNat 98]
theorem ioText : Try.prog.initOrder = String.ofList ([Char.ofNat 104, Char.ofNat 97, Char.ofNat 114, Char.ofNat 110, Char.ofNat 101, Char.ofNat 115, Char.ofNat 115] ++ (Char.ofNat 32 :: ioSum) ++ [Char.ofNat 32, Char.ofNat 99, Char.ofNat 117, Char.ofNat 116, Char.ofNat 32] ++ ioTail) := by kernel_rfl
theorem ioWords : ∃ r, behindMainWord (wordsSigns Try.prog.initOrder.toList) = [Char.ofNat 99, Char.ofNat 117, Char.ofNat 116] :: r := by
  rw [ioText, String.toList_ofList]
  exact ⟨wordsSigns ioTail, by kernel_rfl⟩
theorem f_laid : (laidOutB Try.prog) = true := by kernel_rfl
theorem f_maps : (mapsRowed Try.prog) = true := by kernel_rfl
theorem f_stops : ((Try.prog.stops == [])) = true := by kernel_rfl
theorem f_knobs : ((Try.prog.stopKnobs == [])) = true := by kernel_rfl
theorem f_heard : (Try.prog.stopsHeard) = true := by kernel_rfl
theorem f_enter : (Try.prog.mayEnter) = true := by
  obtain ⟨r, hr⟩ := ioWords
  exact enter_of hr (by kernel_rfl) (by kernel_rfl) (by kernel_rfl)
theorem f_lifts : (false == Try.prog.liftsFinal) = true := by
  obtain ⟨r, hr⟩ := ioWords
  rw [lifts_of hr]
  rfl
theorem f_make : (Try.prog.make == some .cut) = true := by
  obtain ⟨r, hr⟩ := ioWords
  rw [make_of hr]
  rfl
end Go.Proofs.Ytliklgcfdgdigaa.Awp

namespace Go.Proofs.Ytliklgcfdgdigaa.Awp
open Go.Proofs Go.Proofs.Ytliklgcfdgdigaa
set_option linter.unusedSimpArgs false
set_option linter.unusedVariables false
set_option maxRecDepth 100000

theorem j0_FnExactDevNew : (Rows.fnExactDevNewRow.wf (OpenSpec.ofChange Rows.fnExactDevNewSpec)) = true := by kernel_rfl
theorem j3_FnExactDevNew : (Try.f23.params.all (Try.prog.readableRec ·)) = true := by kernel_rfl
theorem j4_FnExactDevNew : (namedTie Try.prog Rows.fnExactDevNewRow.named Rows.fnExactDevNewSpec.vars) = true := by kernel_rfl
theorem j5_FnExactDevNew : ((Rows.fnExactDevNewRow.stops == [])) = true := by kernel_rfl
theorem j7_FnExactDevNew : ((Rows.fnExactDevNewRow.knobs == [])) = true := by kernel_rfl
theorem j9_FnExactDevNew : ((Rows.fnExactDevNewRow.inPlace == Try.prog.inPlace 23)) = true := by kernel_rfl
theorem j10_FnExactDevNew : ((Rows.fnExactDevNewRow.unfollowed == Try.prog.unfollowed 23)) = true := by kernel_rfl
theorem j11_FnExactDevNew : ((Rows.fnExactDevNewRow.recurses == Try.prog.recurses 23)) = true := by kernel_rfl
theorem j12_FnExactDevNew : ((Rows.fnExactDevNewRow.named == Try.prog.varsNamed 23)) = true := by kernel_rfl
theorem j13_FnExactDevNew : ((Rows.fnExactDevNewRow.maps == (Try.f23.params.toList ++ Rows.fnExactDevNewSpec.plain.varTypes Try.prog).any (Try.prog.mapsRec ·))) = true := by kernel_rfl
theorem j14_FnExactDevNew : ((Rows.fnExactDevNewRow.ifaces == (Try.f23.params.toList ++ Rows.fnExactDevNewSpec.plain.varTypes Try.prog).any (Try.prog.ifacesRec ·))) = true := by kernel_rfl
theorem j15_FnExactDevNew : ((Rows.fnExactDevNewRow.mapsOut == Try.prog.mapsAmong Try.f23.resultTypes.toList)) = true := by kernel_rfl
theorem j16_FnExactDevNew : ((Rows.fnExactDevNewRow.loops == (Try.f23.params.toList ++ Rows.fnExactDevNewSpec.plain.varTypes Try.prog).any (Try.prog.loopsFrom ·))) = true := by kernel_rfl
theorem j17_FnExactDevNew : ((Rows.fnExactDevNewRow.wideKeys == (Try.f23.params.toList ++ Rows.fnExactDevNewSpec.plain.varTypes Try.prog ++ Try.f23.resultTypes.toList).any (Try.prog.wideKeysFrom ·))) = true := by kernel_rfl
theorem j18_FnExactDevNew : (Rows.fnExactDevNewSpec.vars.all (Try.prog.varReadable ·)) = true := by kernel_rfl
theorem j19_FnExactDevNew : (Try.f23.resultTypes.all (fun t => Try.prog.readableRec t && decide (t < Try.prog.types.size))) = true := by kernel_rfl
theorem j20_FnExactDevNew : ((Rows.fnExactDevNewRow.ifacesOut == Try.f23.resultTypes.toList.any (Try.prog.ifacesRec ·))) = true := by kernel_rfl
theorem j21_FnExactDevNew : ((Rows.fnExactDevNewRow.loopsOut == Try.f23.resultTypes.toList.any (Try.prog.loopsFrom ·))) = true := by kernel_rfl
theorem j22_FnExactDevNew : ((Rows.fnExactDevNewRow.plainKeys == Try.prog.plainKeys)) = true := by kernel_rfl
theorem j23_FnExactDevNew : (Rows.fnExactDevNewRow.shortTexts.isNone) = true := by kernel_rfl
theorem j28_FnExactDevNew : ((Rows.fnExactDevNewRow.kinds == (if Rows.fnExactDevNewRow.domain.isEmpty then [] else Try.f23.params.toList.map fun t => match Try.prog.underlying t with | some (.int k) => some k | _ => none))) = true := by kernel_rfl
theorem j29_FnExactDevNew : ((Rows.fnExactDevNewRow.pinned == Rows.fnExactDevNewRow.pinnedBy)) = true := by kernel_rfl
theorem j30_FnExactDevNew : ((Rows.fnExactDevNewRow.veiled == (Try.f23.params.toList ++ Rows.fnExactDevNewSpec.plain.varTypes Try.prog ++ Try.f23.resultTypes.toList).any (Try.prog.veiledRec ·))) = true := by kernel_rfl
theorem j31_FnExactDevNew : (Rows.fnExactDevNewRow.veiledFits Try.prog Try.f23.params.toList (Try.f23.params.toList ++ Rows.fnExactDevNewSpec.plain.varTypes Try.prog ++ Try.f23.resultTypes.toList)) = true := by kernel_rfl
theorem jf_FnExactDevNew : joinedFacts Try.prog 23 Try.f23 Rows.fnExactDevNewSpec Rows.fnExactDevNewRow = true :=
  joined_of j0_FnExactDevNew f_laid f_maps j3_FnExactDevNew j4_FnExactDevNew j5_FnExactDevNew f_stops j7_FnExactDevNew f_knobs j9_FnExactDevNew j10_FnExactDevNew j11_FnExactDevNew j12_FnExactDevNew j13_FnExactDevNew j14_FnExactDevNew j15_FnExactDevNew j16_FnExactDevNew j17_FnExactDevNew j18_FnExactDevNew j19_FnExactDevNew j20_FnExactDevNew j21_FnExactDevNew j22_FnExactDevNew j23_FnExactDevNew f_heard f_enter f_lifts f_make j28_FnExactDevNew j29_FnExactDevNew j30_FnExactDevNew j31_FnExactDevNew

theorem lift_FnExactDevNew (os : Os) (started : os.Started) (H : Type) (enc : TypeId × Value → H) :
    ReturnsInHanded {} Try.checked os 23 .any (Rows.fnExactDevNewSpec.pre6 enc Try.prog Try.f23 Rows.fnExactDevNewRow.domain false) (Rows.fnExactDevNewSpec.post enc Try.prog Try.f23 false true false false) := by
  refine law_returns (C := Try.checked) (pars := [(false, [.int .i64]), (false, [.sl 3 Fault.shape])]) own started (by kernel_rfl) Try.func23
    (ChangeSpec.witness6 (enc := enc) (C := Try.checked) false ⟨#[], #[.int .i64 0, .slice none 0 0], []⟩ 8 (by kernel_rfl) (by kernel_rfl) (by kernel_rfl) (by kernel_rfl))
    rfl (by kernel_rfl) rfl (by kernel_rfl) ?_ ?_
  · intro ds hd
    match ds, hd with
    | [d0, d1], _ => rfl
  · intro tss h
    match tss, h with
    | [t0, t1], ⟨h0, h1, _⟩ =>
      obtain ⟨n, u0, rfl, e0⟩ := Shp.int_inv h0
      obtain rfl := Shp.nil_inv e0
      obtain ⟨r1, u1, rfl, l1, e1, k1⟩ := Shp.sl_inv h1
      obtain rfl := Shp.nil_inv k1
      obtain ⟨l, rfl, g1⟩ := rows_ofShp Fault.ofShp e1
      exact ⟨_, s_FnExactDevNew n l (len_ofl l1)⟩

theorem hw_FnExactDevNew : Try.f23.isWrapper Try.prog Rows.fnExactDevNewRow.wrapper Rows.fnExactDevNewRow.mainSum := by
  unfold Func.isWrapper; first | (rw [if_pos (by decide +kernel)]; kernel_rfl) | (rw [if_neg (by decide +kernel)]; exact ⟨rfl, rfl⟩)

theorem law_FnExactDevNew : Rows.FnExactDevNewSaid :=
  OpenClaim.holds_of_wide 23 Try.f23 rfl rfl rfl rfl rfl rfl rfl ⟨rfl, rfl, rfl, rfl, rfl⟩ rfl rfl rfl rfl rfl (by kernel_rfl) Try.func23 jf_FnExactDevNew
    (of_decide_eq_true (by kernel_rfl)) hw_FnExactDevNew
    (fun os started H enc _ => lift_FnExactDevNew os started H enc)
end Go.Proofs.Ytliklgcfdgdigaa.Awp

namespace Go.Proofs.Ytliklgcfdgdigaa
/-- the given statement -/
theorem provedFnExactDevNew : Rows.FnExactDevNewSaid := Awp.law_FnExactDevNew
end Go.Proofs.Ytliklgcfdgdigaa
#print axioms Go.Proofs.Ytliklgcfdgdigaa.provedFnExactDevNew
