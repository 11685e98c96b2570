/- The law FnExactDevProgram (the program's DevProgram returns what the reference's DevProgram returns, for all arguments) holds for every argument: the given statement FnExactDevProgramSaid is proved. Condition: none. -/
import Derived.Test.YtliklgcfdgdigaaFnExactDevProgramX1
import Derived.Test.YtliklgcfdgdigaaAwp4
import Derived.Test.YtliklgcfdgdigaaRows
import Derived.OpenShut
import Derived.KernelRfl
namespace Go.Proofs.Ytliklgcfdgdigaa.Awp
open Go.Proofs
set_option linter.unusedSimpArgs false
set_option linter.unusedVariables false
set_option maxRecDepth 100000
set_option maxHeartbeats 20000000

noncomputable def devOk (d : Dev) : Bool := chipOk d.c && (inR d.ops 0 100000 && faultsOk d.faults)
theorem sS_DevOk (d : Dev) (hf : d.fine) : Spec Try.prog 94 [d.x] (.bool (devOk d)) [.undef] := by
  obtain ⟨h1, h2⟩ := hf
  have hC := sS_ChipOk d.c h1
  cases hA : chipOk d.c with
  | false =>
    rw [hA] at hC
    refine spec_C hmx p_S_DevOk [] 7 [] ⟨Nat.le_of_ble_eq_true rfl, Nat.le_of_ble_eq_true rfl⟩ rfl rfl ?_
    intro w hP hmd hks hQ
    unfold c_S_DevOk
    simp +decide (maxSteps := 20000000) (disch := omega) only [↓SBK, ↓SBK2, SX, Nat.reduceEqDiff, Nat.reduceAdd, Nat.reduceMul, Nat.reduceSub, ↓reduceIte, Int.reduceNeg, Int.reduceToNat, Int.reducePow, hmd, hks, hQ]
    (first | refine call_i hP (hC) (.inl ⟨rfl, fun _ hx => nomatch hx⟩) ?_ | refine callH_i hP (hC) (.inl ⟨rfl, fun _ hx => nomatch hx⟩) ?_)
    simp +decide (maxSteps := 20000000) (disch := omega) only [↓SBK, ↓SBK2, SX, Nat.reduceEqDiff, Nat.reduceAdd, Nat.reduceMul, Nat.reduceSub, ↓reduceIte, Int.reduceNeg, Int.reduceToNat, Int.reducePow, hmd, hks, hQ]
    rw [devOk, hA]; rfl
  | true =>
    rw [hA] at hC
    cases hB : inR d.ops 0 100000 with
    | false =>
      refine spec_C hmx p_S_DevOk [] 7 [] ⟨Nat.le_of_ble_eq_true rfl, Nat.le_of_ble_eq_true rfl⟩ rfl rfl ?_
      intro w hP hmd hks hQ
      unfold c_S_DevOk
      simp +decide (maxSteps := 20000000) (disch := omega) only [↓SBK, ↓SBK2, SX, Nat.reduceEqDiff, Nat.reduceAdd, Nat.reduceMul, Nat.reduceSub, ↓reduceIte, Int.reduceNeg, Int.reduceToNat, Int.reducePow, hmd, hks, hQ]
      (first | refine call_i hP (hC) (.inl ⟨rfl, fun _ hx => nomatch hx⟩) ?_ | refine callH_i hP (hC) (.inl ⟨rfl, fun _ hx => nomatch hx⟩) ?_)
      simp +decide (maxSteps := 20000000) (disch := omega) only [↓SBK, ↓SBK2, SX, Nat.reduceEqDiff, Nat.reduceAdd, Nat.reduceMul, Nat.reduceSub, ↓reduceIte, Int.reduceNeg, Int.reduceToNat, Int.reducePow, hmd, hks, hQ]
      (first | refine call_i hP (s_l1In d.ops 0 100000) (.inl ⟨rfl, fun _ hx => nomatch hx⟩) ?_ | refine callH_i hP (s_l1In d.ops 0 100000) (.inl ⟨rfl, fun _ hx => nomatch hx⟩) ?_)
      simp +decide (maxSteps := 20000000) (disch := omega) only [↓SBK, ↓SBK2, SX, Nat.reduceEqDiff, Nat.reduceAdd, Nat.reduceMul, Nat.reduceSub, ↓reduceIte, Int.reduceNeg, Int.reduceToNat, Int.reducePow, hmd, hks, hQ, hB]
      rw [devOk, hA, hB]; rfl
    | true =>
      refine spec_C hmx p_S_DevOk [] 7 [] ⟨Nat.le_of_ble_eq_true rfl, Nat.le_of_ble_eq_true rfl⟩ rfl rfl ?_
      intro w hP hmd hks hQ
      unfold c_S_DevOk
      simp +decide (maxSteps := 20000000) (disch := omega) only [↓SBK, ↓SBK2, SX, Nat.reduceEqDiff, Nat.reduceAdd, Nat.reduceMul, Nat.reduceSub, ↓reduceIte, Int.reduceNeg, Int.reduceToNat, Int.reducePow, hmd, hks, hQ]
      (first | refine call_i hP (hC) (.inl ⟨rfl, fun _ hx => nomatch hx⟩) ?_ | refine callH_i hP (hC) (.inl ⟨rfl, fun _ hx => nomatch hx⟩) ?_)
      simp +decide (maxSteps := 20000000) (disch := omega) only [↓SBK, ↓SBK2, SX, Nat.reduceEqDiff, Nat.reduceAdd, Nat.reduceMul, Nat.reduceSub, ↓reduceIte, Int.reduceNeg, Int.reduceToNat, Int.reducePow, hmd, hks, hQ]
      (first | refine call_i hP (s_l1In d.ops 0 100000) (.inl ⟨rfl, fun _ hx => nomatch hx⟩) ?_ | refine callH_i hP (s_l1In d.ops 0 100000) (.inl ⟨rfl, fun _ hx => nomatch hx⟩) ?_)
      simp +decide (maxSteps := 20000000) (disch := omega) only [↓SBK, ↓SBK2, SX, Nat.reduceEqDiff, Nat.reduceAdd, Nat.reduceMul, Nat.reduceSub, ↓reduceIte, Int.reduceNeg, Int.reduceToNat, Int.reducePow, hmd, hks, hQ, hB]
      (first | refine call_i hP (sS_l11Faults d.faults h2) (.inl ⟨rfl, fun _ hx => nomatch hx⟩) ?_ | refine callH_i hP (sS_l11Faults d.faults h2) (.inl ⟨rfl, fun _ hx => nomatch hx⟩) ?_)
      simp +decide (maxSteps := 20000000) (disch := omega) only [↓SBK, ↓SBK2, SX, Nat.reduceEqDiff, Nat.reduceAdd, Nat.reduceMul, Nat.reduceSub, ↓reduceIte, Int.reduceNeg, Int.reduceToNat, Int.reducePow, hmd, hks, hQ]
      rw [devOk, hA, hB]; rfl
theorem sI_DevOk (d : Dev) (hf : d.fine) : Spec Try.prog 95 [d.x] (.bool (devOk d)) [.undef] := by
  obtain ⟨hf1, hf2⟩ := hf
  have hCk := sI_ChipOk d.c hf1
  have hno : ∀ i, (h : i < d.faults.length) → faultOk d.faults i = false → devOk d = false := by
    intro i h e
    rw [devOk, faultsOk, faultsIn_no h e]
    simp
  refine spec_C hmx p_I_DevOk [] 479 [] ⟨Nat.le_of_ble_eq_true rfl, Nat.le_of_ble_eq_true rfl⟩ rfl rfl ?_
  intro w hP hmd hks hQ
  unfold c_I_DevOk
  simp +decide (maxSteps := 20000000) (disch := omega) only [↓SBK, ↓SBK2, SX, Nat.reduceEqDiff, Nat.reduceAdd, Nat.reduceMul, Nat.reduceSub, ↓reduceIte, Int.reduceNeg, Int.reduceToNat, Int.reducePow, hmd, hks, hQ]
  refine LH_D [2, 3, 4, 5004] ?_
  simp +decide (maxSteps := 20000000) (disch := omega) only [↓SBK, ↓SBK2, SX, Nat.reduceEqDiff, Nat.reduceAdd, Nat.reduceMul, Nat.reduceSub, ↓reduceIte, Int.reduceNeg, Int.reduceToNat, Int.reducePow, hmd, hks, hQ]
  refine loop_d [2, 3, 4, 5004] (fun i : Nat => [(8, .int .i64 i)]) (fun i => i ≤ d.faults.length ∧ ∀ k, k < i → faultOk d.faults k = true) (fun i => d.faults.length - i) (0) hP hmd hks (rfl) (by simp) ?_
  rintro i ⟨hi, hk⟩ w1 hP1 hmd1 hks1 hQ1
  simp +decide (maxSteps := 20000000) (disch := omega) only [↓SBK, ↓SBK2, SX, Nat.reduceEqDiff, Nat.reduceAdd, Nat.reduceMul, Nat.reduceSub, ↓reduceIte, Int.reduceNeg, Int.reduceToNat, Int.reducePow, hmd, hks, hQ, hmd1, hks1, hQ1]
  (first | with_reducible refine if_d _ ?_ ?_ | refine if_i _ ?_ ?_) <;> intro h1
  · have hat := faultOk_at (l := d.faults) (i := i) (by omega)
    cases hA : inR (d.faults[i]'(by omega)).at' 0 100000 with
    | false =>
      simp +decide (maxSteps := 20000000) (disch := omega) only [↓SBK, ↓SBK2, SX, Nat.reduceEqDiff, Nat.reduceAdd, Nat.reduceMul, Nat.reduceSub, ↓reduceIte, Int.reduceNeg, Int.reduceToNat, Int.reducePow, hmd, hks, hQ, hmd1, hks1, hQ1, getE h1]
      (first | refine call_i hP1 (s_from (d.faults[i]'(by omega)).at' 0 100000) (.inl ⟨rfl, fun _ hx => nomatch hx⟩) ?_ | refine callH_i hP1 (s_from (d.faults[i]'(by omega)).at' 0 100000) (.inl ⟨rfl, fun _ hx => nomatch hx⟩) ?_)
      simp +decide (maxSteps := 20000000) (disch := omega) only [↓SBK, ↓SBK2, SX, Nat.reduceEqDiff, Nat.reduceAdd, Nat.reduceMul, Nat.reduceSub, ↓reduceIte, Int.reduceNeg, Int.reduceToNat, Int.reducePow, hmd, hks, hQ, hmd1, hks1, hQ1, hA]
      rw [hno i (by omega) (by rw [hat, hA]; rfl)]
    | true =>
      cases hB : inR (d.faults[i]'(by omega)).kind 1 2 with
      | false =>
        simp +decide (maxSteps := 20000000) (disch := omega) only [↓SBK, ↓SBK2, SX, Nat.reduceEqDiff, Nat.reduceAdd, Nat.reduceMul, Nat.reduceSub, ↓reduceIte, Int.reduceNeg, Int.reduceToNat, Int.reducePow, hmd, hks, hQ, hmd1, hks1, hQ1, getE h1]
        (first | refine call_i hP1 (s_from (d.faults[i]'(by omega)).at' 0 100000) (.inl ⟨rfl, fun _ hx => nomatch hx⟩) ?_ | refine callH_i hP1 (s_from (d.faults[i]'(by omega)).at' 0 100000) (.inl ⟨rfl, fun _ hx => nomatch hx⟩) ?_)
        simp +decide (maxSteps := 20000000) (disch := omega) only [↓SBK, ↓SBK2, SX, Nat.reduceEqDiff, Nat.reduceAdd, Nat.reduceMul, Nat.reduceSub, ↓reduceIte, Int.reduceNeg, Int.reduceToNat, Int.reducePow, hmd, hks, hQ, hmd1, hks1, hQ1, hA, getE h1]
        (first | refine call_i hP1 (s_from (d.faults[i]'(by omega)).kind 1 2) (.inl ⟨rfl, fun _ hx => nomatch hx⟩) ?_ | refine callH_i hP1 (s_from (d.faults[i]'(by omega)).kind 1 2) (.inl ⟨rfl, fun _ hx => nomatch hx⟩) ?_)
        simp +decide (maxSteps := 20000000) (disch := omega) only [↓SBK, ↓SBK2, SX, Nat.reduceEqDiff, Nat.reduceAdd, Nat.reduceMul, Nat.reduceSub, ↓reduceIte, Int.reduceNeg, Int.reduceToNat, Int.reducePow, hmd, hks, hQ, hmd1, hks1, hQ1, hB]
        rw [hno i (by omega) (by rw [hat, hA, hB]; rfl)]
      | true =>
        cases hC : inR (d.faults[i]'(by omega)).keep 0 400 with
        | false =>
          simp +decide (maxSteps := 20000000) (disch := omega) only [↓SBK, ↓SBK2, SX, Nat.reduceEqDiff, Nat.reduceAdd, Nat.reduceMul, Nat.reduceSub, ↓reduceIte, Int.reduceNeg, Int.reduceToNat, Int.reducePow, hmd, hks, hQ, hmd1, hks1, hQ1, getE h1]
          (first | refine call_i hP1 (s_from (d.faults[i]'(by omega)).at' 0 100000) (.inl ⟨rfl, fun _ hx => nomatch hx⟩) ?_ | refine callH_i hP1 (s_from (d.faults[i]'(by omega)).at' 0 100000) (.inl ⟨rfl, fun _ hx => nomatch hx⟩) ?_)
          simp +decide (maxSteps := 20000000) (disch := omega) only [↓SBK, ↓SBK2, SX, Nat.reduceEqDiff, Nat.reduceAdd, Nat.reduceMul, Nat.reduceSub, ↓reduceIte, Int.reduceNeg, Int.reduceToNat, Int.reducePow, hmd, hks, hQ, hmd1, hks1, hQ1, hA, getE h1]
          (first | refine call_i hP1 (s_from (d.faults[i]'(by omega)).kind 1 2) (.inl ⟨rfl, fun _ hx => nomatch hx⟩) ?_ | refine callH_i hP1 (s_from (d.faults[i]'(by omega)).kind 1 2) (.inl ⟨rfl, fun _ hx => nomatch hx⟩) ?_)
          simp +decide (maxSteps := 20000000) (disch := omega) only [↓SBK, ↓SBK2, SX, Nat.reduceEqDiff, Nat.reduceAdd, Nat.reduceMul, Nat.reduceSub, ↓reduceIte, Int.reduceNeg, Int.reduceToNat, Int.reducePow, hmd, hks, hQ, hmd1, hks1, hQ1, hB, getE h1]
          (first | refine call_i hP1 (s_from (d.faults[i]'(by omega)).keep 0 400) (.inl ⟨rfl, fun _ hx => nomatch hx⟩) ?_ | refine callH_i hP1 (s_from (d.faults[i]'(by omega)).keep 0 400) (.inl ⟨rfl, fun _ hx => nomatch hx⟩) ?_)
          simp +decide (maxSteps := 20000000) (disch := omega) only [↓SBK, ↓SBK2, SX, Nat.reduceEqDiff, Nat.reduceAdd, Nat.reduceMul, Nat.reduceSub, ↓reduceIte, Int.reduceNeg, Int.reduceToNat, Int.reducePow, hmd, hks, hQ, hmd1, hks1, hQ1, hC]
          rw [hno i (by omega) (by rw [hat, hA, hB, hC]; rfl)]
        | true =>
          cases i with
          | zero =>
            simp +decide (maxSteps := 20000000) (disch := omega) only [↓SBK, ↓SBK2, SX, Nat.reduceEqDiff, Nat.reduceAdd, Nat.reduceMul, Nat.reduceSub, ↓reduceIte, Int.reduceNeg, Int.reduceToNat, Int.reducePow, hmd, hks, hQ, hmd1, hks1, hQ1, getE h1]
            (first | refine call_i hP1 (s_from (d.faults[0]'(by omega)).at' 0 100000) (.inl ⟨rfl, fun _ hx => nomatch hx⟩) ?_ | refine callH_i hP1 (s_from (d.faults[0]'(by omega)).at' 0 100000) (.inl ⟨rfl, fun _ hx => nomatch hx⟩) ?_)
            simp +decide (maxSteps := 20000000) (disch := omega) only [↓SBK, ↓SBK2, SX, Nat.reduceEqDiff, Nat.reduceAdd, Nat.reduceMul, Nat.reduceSub, ↓reduceIte, Int.reduceNeg, Int.reduceToNat, Int.reducePow, hmd, hks, hQ, hmd1, hks1, hQ1, hA, getE h1]
            (first | refine call_i hP1 (s_from (d.faults[0]'(by omega)).kind 1 2) (.inl ⟨rfl, fun _ hx => nomatch hx⟩) ?_ | refine callH_i hP1 (s_from (d.faults[0]'(by omega)).kind 1 2) (.inl ⟨rfl, fun _ hx => nomatch hx⟩) ?_)
            simp +decide (maxSteps := 20000000) (disch := omega) only [↓SBK, ↓SBK2, SX, Nat.reduceEqDiff, Nat.reduceAdd, Nat.reduceMul, Nat.reduceSub, ↓reduceIte, Int.reduceNeg, Int.reduceToNat, Int.reducePow, hmd, hks, hQ, hmd1, hks1, hQ1, hB, getE h1]
            (first | refine call_i hP1 (s_from (d.faults[0]'(by omega)).keep 0 400) (.inl ⟨rfl, fun _ hx => nomatch hx⟩) ?_ | refine callH_i hP1 (s_from (d.faults[0]'(by omega)).keep 0 400) (.inl ⟨rfl, fun _ hx => nomatch hx⟩) ?_)
            simp +decide (maxSteps := 20000000) (disch := omega) only [↓SBK, ↓SBK2, SX, Nat.reduceEqDiff, Nat.reduceAdd, Nat.reduceMul, Nat.reduceSub, ↓reduceIte, Int.reduceNeg, Int.reduceToNat, Int.reducePow, hmd, hks, hQ, hmd1, hks1, hQ1, hC]
            exact ⟨1, rfl, ⟨by omega, lt_step hk (by rw [hat, hA, hB, hC]; rfl)⟩, by omega⟩
          | succ m =>
            have w4 : decide ((0 : Int) < ((m + 1 : Nat) : Int)) = true := decide_eq_true (by omega)
            have hm := getE (show ((m : Nat) : Int) < (d.faults.length : Nat) by omega)
            cases hD : decide ((d.faults[m]'(by omega)).at' < (d.faults[m + 1]'(by omega)).at') with
            | false =>
              have hD' : decide ((d.faults[m + 1]'(by omega)).at' ≤ (d.faults[m]'(by omega)).at') = true := decide_eq_true (by simpa using hD)
              simp +decide (maxSteps := 20000000) (disch := omega) only [↓SBK, ↓SBK2, SX, Nat.reduceEqDiff, Nat.reduceAdd, Nat.reduceMul, Nat.reduceSub, ↓reduceIte, Int.reduceNeg, Int.reduceToNat, Int.reducePow, hmd, hks, hQ, hmd1, hks1, hQ1, getE h1]
              (first | refine call_i hP1 (s_from (d.faults[m + 1]'(by omega)).at' 0 100000) (.inl ⟨rfl, fun _ hx => nomatch hx⟩) ?_ | refine callH_i hP1 (s_from (d.faults[m + 1]'(by omega)).at' 0 100000) (.inl ⟨rfl, fun _ hx => nomatch hx⟩) ?_)
              simp +decide (maxSteps := 20000000) (disch := omega) only [↓SBK, ↓SBK2, SX, Nat.reduceEqDiff, Nat.reduceAdd, Nat.reduceMul, Nat.reduceSub, ↓reduceIte, Int.reduceNeg, Int.reduceToNat, Int.reducePow, hmd, hks, hQ, hmd1, hks1, hQ1, hA, getE h1]
              (first | refine call_i hP1 (s_from (d.faults[m + 1]'(by omega)).kind 1 2) (.inl ⟨rfl, fun _ hx => nomatch hx⟩) ?_ | refine callH_i hP1 (s_from (d.faults[m + 1]'(by omega)).kind 1 2) (.inl ⟨rfl, fun _ hx => nomatch hx⟩) ?_)
              simp +decide (maxSteps := 20000000) (disch := omega) only [↓SBK, ↓SBK2, SX, Nat.reduceEqDiff, Nat.reduceAdd, Nat.reduceMul, Nat.reduceSub, ↓reduceIte, Int.reduceNeg, Int.reduceToNat, Int.reducePow, hmd, hks, hQ, hmd1, hks1, hQ1, hB, getE h1]
              (first | refine call_i hP1 (s_from (d.faults[m + 1]'(by omega)).keep 0 400) (.inl ⟨rfl, fun _ hx => nomatch hx⟩) ?_ | refine callH_i hP1 (s_from (d.faults[m + 1]'(by omega)).keep 0 400) (.inl ⟨rfl, fun _ hx => nomatch hx⟩) ?_)
              simp +decide (maxSteps := 20000000) (disch := omega) only [↓SBK, ↓SBK2, SX, Nat.reduceEqDiff, Nat.reduceAdd, Nat.reduceMul, Nat.reduceSub, ↓reduceIte, Int.reduceNeg, Int.reduceToNat, Int.reducePow, hmd, hks, hQ, hmd1, hks1, hQ1, hC, w4, cast_pred, hm, getE h1, hD']
              rw [hno (m + 1) (by omega) (by rw [hat, hA, hB, hC, prevF_at (by omega), hD]; rfl)]
            | true =>
              have hD' : decide ((d.faults[m + 1]'(by omega)).at' ≤ (d.faults[m]'(by omega)).at') = false := decide_eq_false (by have := of_decide_eq_true hD; omega)
              simp +decide (maxSteps := 20000000) (disch := omega) only [↓SBK, ↓SBK2, SX, Nat.reduceEqDiff, Nat.reduceAdd, Nat.reduceMul, Nat.reduceSub, ↓reduceIte, Int.reduceNeg, Int.reduceToNat, Int.reducePow, hmd, hks, hQ, hmd1, hks1, hQ1, getE h1]
              (first | refine call_i hP1 (s_from (d.faults[m + 1]'(by omega)).at' 0 100000) (.inl ⟨rfl, fun _ hx => nomatch hx⟩) ?_ | refine callH_i hP1 (s_from (d.faults[m + 1]'(by omega)).at' 0 100000) (.inl ⟨rfl, fun _ hx => nomatch hx⟩) ?_)
              simp +decide (maxSteps := 20000000) (disch := omega) only [↓SBK, ↓SBK2, SX, Nat.reduceEqDiff, Nat.reduceAdd, Nat.reduceMul, Nat.reduceSub, ↓reduceIte, Int.reduceNeg, Int.reduceToNat, Int.reducePow, hmd, hks, hQ, hmd1, hks1, hQ1, hA, getE h1]
              (first | refine call_i hP1 (s_from (d.faults[m + 1]'(by omega)).kind 1 2) (.inl ⟨rfl, fun _ hx => nomatch hx⟩) ?_ | refine callH_i hP1 (s_from (d.faults[m + 1]'(by omega)).kind 1 2) (.inl ⟨rfl, fun _ hx => nomatch hx⟩) ?_)
              simp +decide (maxSteps := 20000000) (disch := omega) only [↓SBK, ↓SBK2, SX, Nat.reduceEqDiff, Nat.reduceAdd, Nat.reduceMul, Nat.reduceSub, ↓reduceIte, Int.reduceNeg, Int.reduceToNat, Int.reducePow, hmd, hks, hQ, hmd1, hks1, hQ1, hB, getE h1]
              (first | refine call_i hP1 (s_from (d.faults[m + 1]'(by omega)).keep 0 400) (.inl ⟨rfl, fun _ hx => nomatch hx⟩) ?_ | refine callH_i hP1 (s_from (d.faults[m + 1]'(by omega)).keep 0 400) (.inl ⟨rfl, fun _ hx => nomatch hx⟩) ?_)
              simp +decide (maxSteps := 20000000) (disch := omega) only [↓SBK, ↓SBK2, SX, Nat.reduceEqDiff, Nat.reduceAdd, Nat.reduceMul, Nat.reduceSub, ↓reduceIte, Int.reduceNeg, Int.reduceToNat, Int.reducePow, hmd, hks, hQ, hmd1, hks1, hQ1, hC, w4, cast_pred, hm, getE h1, hD']
              exact ⟨m + 1 + 1, rfl, ⟨by omega, lt_step hk (by rw [hat, hA, hB, hC, prevF_at (by omega), hD]; rfl)⟩, by omega⟩
  · obtain rfl : i = d.faults.length := by omega
    have e : devOk d = (chipOk d.c && (inR d.ops 0 100000 && decide ((d.faults.length : Int) ≤ 20))) := by rw [devOk, faultsOk, faultsIn_yes hk]; rfl
    simp +decide (maxSteps := 20000000) (disch := omega) only [↓SBK, ↓SBK2, SX, Nat.reduceEqDiff, Nat.reduceAdd, Nat.reduceMul, Nat.reduceSub, ↓reduceIte, Int.reduceNeg, Int.reduceToNat, Int.reducePow, hmd, hks, hQ, hmd1, hks1, hQ1]
    cases hA : chipOk d.c with
    | false =>
      rw [hA] at hCk
      (first | refine call_i hP (hCk) (.inl ⟨rfl, fun _ hx => nomatch hx⟩) ?_ | refine callH_i hP (hCk) (.inl ⟨rfl, fun _ hx => nomatch hx⟩) ?_)
      simp +decide (maxSteps := 20000000) (disch := omega) only [↓SBK, ↓SBK2, SX, Nat.reduceEqDiff, Nat.reduceAdd, Nat.reduceMul, Nat.reduceSub, ↓reduceIte, Int.reduceNeg, Int.reduceToNat, Int.reducePow, hmd, hks, hQ]
      rw [e, hA]; rfl
    | true =>
      rw [hA] at hCk
      cases hB : inR d.ops 0 100000 with
      | false =>
        (first | refine call_i hP (hCk) (.inl ⟨rfl, fun _ hx => nomatch hx⟩) ?_ | refine callH_i hP (hCk) (.inl ⟨rfl, fun _ hx => nomatch hx⟩) ?_)
        simp +decide (maxSteps := 20000000) (disch := omega) only [↓SBK, ↓SBK2, SX, Nat.reduceEqDiff, Nat.reduceAdd, Nat.reduceMul, Nat.reduceSub, ↓reduceIte, Int.reduceNeg, Int.reduceToNat, Int.reducePow, hmd, hks, hQ]
        (first | refine call_i hP (s_from d.ops 0 100000) (.inl ⟨rfl, fun _ hx => nomatch hx⟩) ?_ | refine callH_i hP (s_from d.ops 0 100000) (.inl ⟨rfl, fun _ hx => nomatch hx⟩) ?_)
        simp +decide (maxSteps := 20000000) (disch := omega) only [↓SBK, ↓SBK2, SX, Nat.reduceEqDiff, Nat.reduceAdd, Nat.reduceMul, Nat.reduceSub, ↓reduceIte, Int.reduceNeg, Int.reduceToNat, Int.reducePow, hmd, hks, hQ, hB]
        rw [e, hA, hB]; rfl
      | true =>
        (first | refine call_i hP (hCk) (.inl ⟨rfl, fun _ hx => nomatch hx⟩) ?_ | refine callH_i hP (hCk) (.inl ⟨rfl, fun _ hx => nomatch hx⟩) ?_)
        simp +decide (maxSteps := 20000000) (disch := omega) only [↓SBK, ↓SBK2, SX, Nat.reduceEqDiff, Nat.reduceAdd, Nat.reduceMul, Nat.reduceSub, ↓reduceIte, Int.reduceNeg, Int.reduceToNat, Int.reducePow, hmd, hks, hQ]
        (first | refine call_i hP (s_from d.ops 0 100000) (.inl ⟨rfl, fun _ hx => nomatch hx⟩) ?_ | refine callH_i hP (s_from d.ops 0 100000) (.inl ⟨rfl, fun _ hx => nomatch hx⟩) ?_)
        simp +decide (maxSteps := 20000000) (disch := omega) only [↓SBK, ↓SBK2, SX, Nat.reduceEqDiff, Nat.reduceAdd, Nat.reduceMul, Nat.reduceSub, ↓reduceIte, Int.reduceNeg, Int.reduceToNat, Int.reducePow, hmd, hks, hQ, hB]
        rw [e, hA, hB]; rfl
end Go.Proofs.Ytliklgcfdgdigaa.Awp

namespace Go.Proofs.Ytliklgcfdgdigaa.Awp
open Go.Proofs
set_option linter.unusedSimpArgs false
set_option linter.unusedVariables false
set_option maxRecDepth 100000
set_option maxHeartbeats 20000000

/-! ### the fault of an operation; copies; new devices -/
def zFault : Fault := { at' := 0, kind := 0, keep := 0 }
def faultIn (l : List Fault) (n : Int) : Option Fault := l.find? (fun f => decide (f.at' = n))
def faultAt (d : Dev) : Fault × Bool := match faultIn d.faults d.ops with | some f => (f, true) | none => (zFault, false)
theorem find_none_step {α : Type} {l : List α} {p : α → Bool} {i : Nat} (hk : ∀ k, k < i → (h : k < l.length) → p l[k] = false) (h : i < l.length) (hi : p l[i] = true) : l.find? p = some l[i] := by
  induction l generalizing i with
  | nil => simp at h
  | cons x l ih =>
    cases i with
    | zero => simp only [List.getElem_cons_zero] at hi ⊢; rw [List.find?_cons, hi]
    | succ i =>
      have h0 := hk 0 (by omega) (by simp)
      simp only [List.getElem_cons_zero] at h0
      rw [List.find?_cons, h0]
      simp only [List.getElem_cons_succ] at hi ⊢
      exact ih (fun k hk' hkl => by have := hk (k + 1) (by omega) (by simp; omega); simpa using this) (by simpa using h) hi
theorem find_none_all {α : Type} {l : List α} {p : α → Bool} (hk : ∀ k, (h : k < l.length) → p l[k] = false) : l.find? p = none := by
  rw [List.find?_eq_none]
  intro x hx
  obtain ⟨k, h, rfl⟩ := List.getElem_of_mem hx
  simp [hk k h]
theorem no_step {α : Type} {l : List α} {p : α → Bool} {i : Nat} (hk : ∀ k, k < i → (h : k < l.length) → p l[k] = false) (h : i < l.length) (hi : p l[i] = false) : ∀ k, k < i + 1 → (h : k < l.length) → p l[k] = false := by
  intro k hlt hl
  by_cases e : k = i
  · subst e; exact hi
  · exact hk k (by omega) hl
theorem sS_FaultAt (d : Dev) (hl : d.faults.length < 2 ^ 48) : Spec Try.prog 82 [d.x] (.tup [(faultAt d).1.o, .bool (faultAt d).2]) [.undef] := by
  refine spec_C hmx p_S_FaultAt [] 31 [] ⟨Nat.le_of_ble_eq_true rfl, Nat.le_of_ble_eq_true rfl⟩ rfl rfl ?_
  intro w hP hmd hks hQ
  unfold c_S_FaultAt
  simp +decide (maxSteps := 20000000) (disch := omega) only [↓SBK, ↓SBK2, SX, Nat.reduceEqDiff, Nat.reduceAdd, Nat.reduceMul, Nat.reduceSub, ↓reduceIte, Int.reduceNeg, Int.reduceToNat, Int.reducePow, hmd, hks, hQ]
  refine LH_D [3] ?_
  simp +decide (maxSteps := 20000000) (disch := omega) only [↓SBK, ↓SBK2, SX, Nat.reduceEqDiff, Nat.reduceAdd, Nat.reduceMul, Nat.reduceSub, ↓reduceIte, Int.reduceNeg, Int.reduceToNat, Int.reducePow, hmd, hks, hQ]
  refine loop_d [3] (fun i : Nat => [(4, .int .i64 i)]) (fun i => i ≤ d.faults.length ∧ ∀ k, k < i → (h : k < d.faults.length) → decide (d.faults[k].at' = d.ops) = false) (fun i => d.faults.length - i) (0) hP hmd hks (rfl) (by simp) ?_
  rintro i ⟨hi, hk⟩ w1 hP1 hmd1 hks1 hQ1
  simp +decide (maxSteps := 20000000) (disch := omega) only [↓SBK, ↓SBK2, SX, Nat.reduceEqDiff, Nat.reduceAdd, Nat.reduceMul, Nat.reduceSub, ↓reduceIte, Int.reduceNeg, Int.reduceToNat, Int.reducePow, hmd, hks, hQ, hmd1, hks1, hQ1]
  (first | with_reducible refine if_d _ ?_ ?_ | refine if_i _ ?_ ?_) <;> intro h1
  · simp +decide (maxSteps := 20000000) (disch := omega) only [↓SBK, ↓SBK2, SX, Nat.reduceEqDiff, Nat.reduceAdd, Nat.reduceMul, Nat.reduceSub, ↓reduceIte, Int.reduceNeg, Int.reduceToNat, Int.reducePow, hmd, hks, hQ, hmd1, hks1, hQ1, getE h1]
    (first | with_reducible refine if_d _ ?_ ?_ | refine if_i _ ?_ ?_) <;> intro h2
    · simp +decide (maxSteps := 20000000) (disch := omega) only [↓SBK, ↓SBK2, SX, Nat.reduceEqDiff, Nat.reduceAdd, Nat.reduceMul, Nat.reduceSub, ↓reduceIte, Int.reduceNeg, Int.reduceToNat, Int.reducePow, hmd, hks, hQ, hmd1, hks1, hQ1, getE h1]
      rw [faultAt, faultIn, find_none_step (p := fun f : Fault => decide (f.at' = d.ops)) hk (by omega) (decide_eq_true h2)]
    · simp +decide (maxSteps := 20000000) (disch := omega) only [↓SBK, ↓SBK2, SX, Nat.reduceEqDiff, Nat.reduceAdd, Nat.reduceMul, Nat.reduceSub, ↓reduceIte, Int.reduceNeg, Int.reduceToNat, Int.reducePow, hmd, hks, hQ, hmd1, hks1, hQ1]
      exact ⟨i + 1, rfl, ⟨by omega, no_step (p := fun f : Fault => decide (f.at' = d.ops)) hk (by omega) (decide_eq_false h2)⟩, by omega⟩
  · obtain rfl : i = d.faults.length := by omega
    simp +decide (maxSteps := 20000000) (disch := omega) only [↓SBK, ↓SBK2, SX, Nat.reduceEqDiff, Nat.reduceAdd, Nat.reduceMul, Nat.reduceSub, ↓reduceIte, Int.reduceNeg, Int.reduceToNat, Int.reducePow, hmd, hks, hQ, hmd1, hks1, hQ1]
    rw [faultAt, faultIn, find_none_all (p := fun f : Fault => decide (f.at' = d.ops)) fun k h => hk k h h]; rfl
theorem sI_FaultAt (d : Dev) (hl : d.faults.length < 2 ^ 48) : Spec Try.prog 84 [d.x] (.tup [(faultAt d).1.o, .bool (faultAt d).2]) [.undef] := by
  refine spec_C hmx p_I_FaultAt [] 943 [] ⟨Nat.le_of_ble_eq_true rfl, Nat.le_of_ble_eq_true rfl⟩ rfl rfl ?_
  intro w hP hmd hks hQ
  unfold c_I_FaultAt
  simp +decide (maxSteps := 20000000) (disch := omega) only [↓SBK, ↓SBK2, SX, Nat.reduceEqDiff, Nat.reduceAdd, Nat.reduceMul, Nat.reduceSub, ↓reduceIte, Int.reduceNeg, Int.reduceToNat, Int.reducePow, hmd, hks, hQ]
  refine LH_D [3, 5, 5005] ?_
  simp +decide (maxSteps := 20000000) (disch := omega) only [↓SBK, ↓SBK2, SX, Nat.reduceEqDiff, Nat.reduceAdd, Nat.reduceMul, Nat.reduceSub, ↓reduceIte, Int.reduceNeg, Int.reduceToNat, Int.reducePow, hmd, hks, hQ]
  refine loop_d [3, 5, 5005] (fun i : Nat => [(9, .int .i64 i)]) (fun i => i ≤ d.faults.length ∧ ∀ k, k < i → (h : k < d.faults.length) → decide (d.faults[k].at' = d.ops) = false) (fun i => d.faults.length - i) (0) hP hmd hks (rfl) (by simp) ?_
  rintro i ⟨hi, hk⟩ w1 hP1 hmd1 hks1 hQ1
  simp +decide (maxSteps := 20000000) (disch := omega) only [↓SBK, ↓SBK2, SX, Nat.reduceEqDiff, Nat.reduceAdd, Nat.reduceMul, Nat.reduceSub, ↓reduceIte, Int.reduceNeg, Int.reduceToNat, Int.reducePow, hmd, hks, hQ, hmd1, hks1, hQ1]
  (first | with_reducible refine if_d _ ?_ ?_ | refine if_i _ ?_ ?_) <;> intro h1
  · simp +decide (maxSteps := 20000000) (disch := omega) only [↓SBK, ↓SBK2, SX, Nat.reduceEqDiff, Nat.reduceAdd, Nat.reduceMul, Nat.reduceSub, ↓reduceIte, Int.reduceNeg, Int.reduceToNat, Int.reducePow, hmd, hks, hQ, hmd1, hks1, hQ1, getE h1]
    (first | with_reducible refine if_d _ ?_ ?_ | refine if_i _ ?_ ?_) <;> intro h2
    · simp +decide (maxSteps := 20000000) (disch := omega) only [↓SBK, ↓SBK2, SX, Nat.reduceEqDiff, Nat.reduceAdd, Nat.reduceMul, Nat.reduceSub, ↓reduceIte, Int.reduceNeg, Int.reduceToNat, Int.reducePow, hmd, hks, hQ, hmd1, hks1, hQ1, getE h1]
      rw [faultAt, faultIn, find_none_step (p := fun f : Fault => decide (f.at' = d.ops)) hk (by omega) (decide_eq_true h2)]
    · simp +decide (maxSteps := 20000000) (disch := omega) only [↓SBK, ↓SBK2, SX, Nat.reduceEqDiff, Nat.reduceAdd, Nat.reduceMul, Nat.reduceSub, ↓reduceIte, Int.reduceNeg, Int.reduceToNat, Int.reducePow, hmd, hks, hQ, hmd1, hks1, hQ1]
      exact ⟨i + 1, rfl, ⟨by omega, no_step (p := fun f : Fault => decide (f.at' = d.ops)) hk (by omega) (decide_eq_false h2)⟩, by omega⟩
  · obtain rfl : i = d.faults.length := by omega
    simp +decide (maxSteps := 20000000) (disch := omega) only [↓SBK, ↓SBK2, SX, Nat.reduceEqDiff, Nat.reduceAdd, Nat.reduceMul, Nat.reduceSub, ↓reduceIte, Int.reduceNeg, Int.reduceToNat, Int.reducePow, hmd, hks, hQ, hmd1, hks1, hQ1]
    rw [faultAt, faultIn, find_none_all (p := fun f : Fault => decide (f.at' = d.ops)) fun k h => hk k h h]; rfl
theorem flatR_map {α : Type} (f : α → List TV) (h : ∀ x, (f x).all flatT = true) (l : List α) : flatR (l.map f) = true := by
  rw [flatR, List.all_eq_true]
  intro r hr
  obtain ⟨x, _, rfl⟩ := List.mem_map.1 hr
  exact h x
theorem flatR_F (l : List Fault) : flatR (l.map Fault.row) = true := flatR_map Fault.row (fun _ => rfl) l
theorem s_CloneF (l : List Fault) (hl : l.length < 2 ^ 40) : Spec Try.prog 159 [.ext 3 (l.map Fault.row)] (.own 3 (l.map Fault.row)) [.undef] := by
  refine spec_extv fun a len cap ha => ?_
  cases a with
  | none =>
    obtain rfl : l = [] := by simpa using ha rfl
    refine spec_C hmx p_X_Clone_Fault [] 5 [] ⟨Nat.le_of_ble_eq_true rfl, Nat.le_of_ble_eq_true rfl⟩ rfl rfl ?_
    intro w hP hmd hks hQ
    unfold c_X_Clone_Fault
    simp +decide (maxSteps := 20000000) (disch := omega) only [↓SBK, ↓SBK2, SX, Nat.reduceEqDiff, Nat.reduceAdd, Nat.reduceMul, Nat.reduceSub, ↓reduceIte, Int.reduceNeg, Int.reduceToNat, Int.reducePow, hmd, hks, hQ]
  | some a =>
    refine spec_C hmx p_X_Clone_Fault [] 5 [] ⟨Nat.le_of_ble_eq_true rfl, Nat.le_of_ble_eq_true rfl⟩ rfl rfl ?_
    intro w hP hmd hks hQ
    unfold c_X_Clone_Fault
    simp +decide (maxSteps := 20000000) (disch := omega) only [↓SBK, ↓SBK2, SX, Nat.reduceEqDiff, Nat.reduceAdd, Nat.reduceMul, Nat.reduceSub, ↓reduceIte, Int.reduceNeg, Int.reduceToNat, Int.reducePow, hmd, hks, hQ]
    simp +decide (maxSteps := 20000000) (disch := omega) only [↓SBK, ↓SBK2, SX, Nat.reduceEqDiff, Nat.reduceAdd, Nat.reduceMul, Nat.reduceSub, ↓reduceIte, Int.reduceNeg, Int.reduceToNat, Int.reducePow, hmd, hks, hQ, flatR_F]
theorem dev_sz {d : Dev} {n : Nat} (hs : d.sz < n) : d.c.sz < n ∧ d.faults.length < n := by
  have : d.sz = d.c.sz + d.faults.length := rfl
  omega
theorem sI_copyDev (d : Dev) (hs : d.sz < 2 ^ 40) : Spec Try.prog 162 [d.x] d.o [.undef] := by
  obtain ⟨h1, h2⟩ := dev_sz hs
  refine spec_C hmx p_I_copyDev [] 7 [] ⟨Nat.le_of_ble_eq_true rfl, Nat.le_of_ble_eq_true rfl⟩ rfl rfl ?_
  intro w hP hmd hks hQ
  unfold c_I_copyDev
  simp +decide (maxSteps := 20000000) (disch := omega) only [↓SBK, ↓SBK2, SX, Nat.reduceEqDiff, Nat.reduceAdd, Nat.reduceMul, Nat.reduceSub, ↓reduceIte, Int.reduceNeg, Int.reduceToNat, Int.reducePow, hmd, hks, hQ]
  (first | refine call_i hP (sI_copyChip d.c h1) (.inl ⟨rfl, fun _ hx => nomatch hx⟩) ?_ | refine callH_i hP (sI_copyChip d.c h1) (.inl ⟨rfl, fun _ hx => nomatch hx⟩) ?_)
  simp +decide (maxSteps := 20000000) (disch := omega) only [↓SBK, ↓SBK2, SX, Nat.reduceEqDiff, Nat.reduceAdd, Nat.reduceMul, Nat.reduceSub, ↓reduceIte, Int.reduceNeg, Int.reduceToNat, Int.reducePow, hmd, hks, hQ]
  (first | refine call_i hP (s_CloneF d.faults h2) (.inl ⟨rfl, fun _ hx => nomatch hx⟩) ?_ | refine callH_i hP (s_CloneF d.faults h2) (.inl ⟨rfl, fun _ hx => nomatch hx⟩) ?_)
  simp +decide (maxSteps := 20000000) (disch := omega) only [↓SBK, ↓SBK2, SX, Nat.reduceEqDiff, Nat.reduceAdd, Nat.reduceMul, Nat.reduceSub, ↓reduceIte, Int.reduceNeg, Int.reduceToNat, Int.reducePow, hmd, hks, hQ]
theorem sS_l11Copy (d : Dev) (hs : d.sz < 2 ^ 40) : Spec Try.prog 161 [d.x] d.o [.undef] := by
  obtain ⟨h1, h2⟩ := dev_sz hs
  refine spec_C hmx p_S_l11Copy [] 7 [] ⟨Nat.le_of_ble_eq_true rfl, Nat.le_of_ble_eq_true rfl⟩ rfl rfl ?_
  intro w hP hmd hks hQ
  unfold c_S_l11Copy
  simp +decide (maxSteps := 20000000) (disch := omega) only [↓SBK, ↓SBK2, SX, Nat.reduceEqDiff, Nat.reduceAdd, Nat.reduceMul, Nat.reduceSub, ↓reduceIte, Int.reduceNeg, Int.reduceToNat, Int.reducePow, hmd, hks, hQ]
  (first | refine call_i hP (sS_l10Copy d.c h1) (.inl ⟨rfl, fun _ hx => nomatch hx⟩) ?_ | refine callH_i hP (sS_l10Copy d.c h1) (.inl ⟨rfl, fun _ hx => nomatch hx⟩) ?_)
  simp +decide (maxSteps := 20000000) (disch := omega) only [↓SBK, ↓SBK2, SX, Nat.reduceEqDiff, Nat.reduceAdd, Nat.reduceMul, Nat.reduceSub, ↓reduceIte, Int.reduceNeg, Int.reduceToNat, Int.reducePow, hmd, hks, hQ, flatR_F]
end Go.Proofs.Ytliklgcfdgdigaa.Awp

namespace Go.Proofs.Ytliklgcfdgdigaa.Awp
open Go.Proofs
set_option linter.unusedSimpArgs false
set_option linter.unusedVariables false
set_option maxRecDepth 100000
set_option maxHeartbeats 20000000

theorem eqDev_self (d : Dev) (h : d.sz < 2 ^ 40) : Spec Try.prog 86 [d.x, d.x] (.bool true) [.undef, .undef] := by
  have he := s_eqDev d d h
  rwa [decide_eq_true rfl] at he
end Go.Proofs.Ytliklgcfdgdigaa.Awp

namespace Go.Proofs.Ytliklgcfdgdigaa.Awp
open Go.Proofs
set_option linter.unusedSimpArgs false
set_option linter.unusedVariables false
set_option maxRecDepth 100000
set_option maxHeartbeats 20000000

theorem chip_l {c : Chip} {n : Nat} (hs : c.sz < n) : c.blocks.length < n := by
  simp only [Chip.sz, szM] at hs; omega
theorem nextPage_at {c : Chip} {i : Nat} (h : i < c.blocks.length) : nextPage c i = ((usedN (c.blocks[i]).pages : Nat) : Int) := by
  rw [nextPage, blk_some (by omega) (by omega)]; rfl
end Go.Proofs.Ytliklgcfdgdigaa.Awp

namespace Go.Proofs.Ytliklgcfdgdigaa.Awp
open Go.Proofs
set_option linter.unusedSimpArgs false
set_option linter.unusedVariables false
set_option maxRecDepth 100000
set_option maxHeartbeats 20000000

theorem dev_cnt (d : Dev) : d.cntT ≤ 3 * d.sz := by
  have h1 := chip_cnt d.c
  have h2 := sum_plus Fault.cnt (fun _ => 0) 3 (fun p => rfl) d.faults
  have e1 : d.cntT = d.c.cntT + cntM Fault.cnt d.faults := rfl
  have e2 : d.sz = d.c.sz + d.faults.length := rfl
  have e3 : cntM Fault.cnt d.faults = (d.faults.map Fault.cnt).sum := rfl
  have e4 : (d.faults.map (fun _ => 0)).sum = 0 := by
    induction d.faults with
    | nil => rfl
    | cons x l ih => simpa using ih
  omega
end Go.Proofs.Ytliklgcfdgdigaa.Awp

namespace Go.Proofs.Ytliklgcfdgdigaa.Awp
open Go.Proofs
set_option linter.unusedSimpArgs false
set_option linter.unusedVariables false
set_option maxRecDepth 100000
set_option maxHeartbeats 20000000

end Go.Proofs.Ytliklgcfdgdigaa.Awp

namespace Go.Proofs.Ytliklgcfdgdigaa.Awp
open Go.Proofs
set_option linter.unusedSimpArgs false
set_option linter.unusedVariables false
set_option maxRecDepth 100000
set_option maxHeartbeats 20000000

noncomputable def progCode (c : Chip) (k : Int) (b : Bytes) : Int := if 400 < (b.length : Int) then 1 else mayCode c k (decide (nextPage c k = 8))
def prB (b : Bytes) (x : Block) : Block := { pages := x.pages.modify (usedN x.pages) fun _ => { used := true, b := b }, wear := x.wear, bad := x.bad }
noncomputable def progC (c : Chip) (k : Int) (b : Bytes) : Chip := if progCode c k b = 0 then { blocks := c.blocks.modify k.toNat (prB b) } else c
theorem sS_l10Program (c : Chip) (k : Int) (b : Bytes) (hf : c.fine) (hs : c.sz < 2 ^ 40) (hb : b.length < 2 ^ 48) :
    Spec Try.prog 155 [c.x, .int .i64 k, .ext 1 (bytesR b)] (.int .i64 (progCode c k b)) [.undef, .undef, .undef] := by
  by_cases h : 400 < (b.length : Int)
  · have d : decide (400 < (b.length : Int)) = true := decide_eq_true h
    refine spec_C hmx p_S_l10Program [] 79 [] ⟨Nat.le_of_ble_eq_true rfl, Nat.le_of_ble_eq_true rfl⟩ rfl rfl ?_
    intro w hP hmd hks hQ
    unfold c_S_l10Program
    simp +decide (maxSteps := 20000000) (disch := omega) only [↓SBK, ↓SBK2, SX, Nat.reduceEqDiff, Nat.reduceAdd, Nat.reduceMul, Nat.reduceSub, ↓reduceIte, Int.reduceNeg, Int.reduceToNat, Int.reducePow, hmd, hks, hQ]
    simp +decide (maxSteps := 20000000) (disch := omega) only [↓SBK, ↓SBK2, SX, Nat.reduceEqDiff, Nat.reduceAdd, Nat.reduceMul, Nat.reduceSub, ↓reduceIte, Int.reduceNeg, Int.reduceToNat, Int.reducePow, hmd, hks, hQ, d]
    rw [progCode, if_pos h]
  · have d : decide (400 < (b.length : Int)) = false := decide_eq_false h
    refine spec_C hmx p_S_l10Program [] 79 [] ⟨Nat.le_of_ble_eq_true rfl, Nat.le_of_ble_eq_true rfl⟩ rfl rfl ?_
    intro w hP hmd hks hQ
    unfold c_S_l10Program
    simp +decide (maxSteps := 20000000) (disch := omega) only [↓SBK, ↓SBK2, SX, Nat.reduceEqDiff, Nat.reduceAdd, Nat.reduceMul, Nat.reduceSub, ↓reduceIte, Int.reduceNeg, Int.reduceToNat, Int.reducePow, hmd, hks, hQ]
    simp +decide (maxSteps := 20000000) (disch := omega) only [↓SBK, ↓SBK2, SX, Nat.reduceEqDiff, Nat.reduceAdd, Nat.reduceMul, Nat.reduceSub, ↓reduceIte, Int.reduceNeg, Int.reduceToNat, Int.reducePow, hmd, hks, hQ, d]
    (first | refine call_i hP (sS_NextPage c k hs) (.inl ⟨rfl, fun _ hx => nomatch hx⟩) ?_ | refine callH_i hP (sS_NextPage c k hs) (.inl ⟨rfl, fun _ hx => nomatch hx⟩) ?_)
    simp +decide (maxSteps := 20000000) (disch := omega) only [↓SBK, ↓SBK2, SX, Nat.reduceEqDiff, Nat.reduceAdd, Nat.reduceMul, Nat.reduceSub, ↓reduceIte, Int.reduceNeg, Int.reduceToNat, Int.reducePow, hmd, hks, hQ]
    (first | refine call_i hP (sS_l10May c k (decide (nextPage c k = 8)) hf) (.inl ⟨rfl, fun _ hx => nomatch hx⟩) ?_ | refine callH_i hP (sS_l10May c k (decide (nextPage c k = 8)) hf) (.inl ⟨rfl, fun _ hx => nomatch hx⟩) ?_)
    simp +decide (maxSteps := 20000000) (disch := omega) only [↓SBK, ↓SBK2, SX, Nat.reduceEqDiff, Nat.reduceAdd, Nat.reduceMul, Nat.reduceSub, ↓reduceIte, Int.reduceNeg, Int.reduceToNat, Int.reducePow, hmd, hks, hQ]
    rw [progCode, if_neg h]
theorem may_zero {c : Chip} {k : Int} {f : Bool} (h : mayCode c k f = 0) : f = false ∧ ∃ j : Nat, k = j ∧ ∃ hj : j < c.blocks.length, (c.blocks[j]).bad = false ∧ okC c := by
  by_cases h1 : chipOk c = true
  · by_cases h2 : 0 ≤ k ∧ k < (c.blocks.length : Nat)
    · obtain ⟨j, rfl⟩ : ∃ j : Nat, k = j := ⟨k.toNat, by omega⟩
      have hj : (j : Int) < (c.blocks.length : Nat) := h2.2
      rw [may_some h1 (blk_nat hj)] at h
      have hk : okC c := by simpa [chipOk] using h1
      cases hb : (c.blocks[j]'(by omega)).bad with
      | true => rw [hb] at h; simp at h
      | false =>
        rw [hb] at h
        cases f with
        | true => simp at h
        | false => exact ⟨rfl, j, rfl, by omega, by simpa using hb, hk⟩
    · rw [may_none (blk_none h2)] at h; cases h
  · rw [may_bad h1] at h; cases h
theorem prog_info {c : Chip} {k : Int} {b : Bytes} (h : progCode c k b = 0) : b.length ≤ 400 ∧ ∃ j : Nat, k = j ∧ ∃ hj : j < c.blocks.length, (c.blocks[j]).bad = false ∧ okC c ∧ usedN (c.blocks[j]).pages < 8 ∧ (c.blocks[j]).pages.length = 8 := by
  unfold progCode at h
  split at h
  · cases h
  · rename_i hb
    obtain ⟨h1, j, rfl, hj, h2, hk⟩ := may_zero h
    have h8 := (hk.1 _ (List.getElem_mem hj)).1
    have hu := usedN_le (c.blocks[j]).pages
    have := of_decide_eq_false h1
    rw [nextPage_at hj] at this
    exact ⟨by omega, j, rfl, hj, h2, hk, by omega, h8⟩
theorem prB_row (b : Bytes) (x : Block) (h : usedN x.pages < x.pages.length) : ((Block.row x).modify 0 fun _ => TV.sl 2 ((x.pages.map Page.row).modify (usedN x.pages) fun r => TV.bool true :: TV.sl 1 (bytesR b) :: r.drop 2)) = Block.row (prB b x) := by
  rw [mod_map Page.row _ (fun _ => { used := true, b := b }) x.pages (usedN x.pages) h rfl]; rfl
theorem prB_rows (b : Bytes) (l : List Block) (j : Nat) (hj : j < l.length) (h : usedN (l[j]).pages < (l[j]).pages.length) :
    ((l.map Block.row).modify j fun x => x.modify 0 fun _ => TV.sl 2 (((l[j]).pages.map Page.row).modify (usedN (l[j]).pages) fun r => TV.bool true :: TV.sl 1 (bytesR b) :: r.drop 2)) = (l.modify j (prB b)).map Block.row :=
  mod_map Block.row _ (prB b) l j hj (prB_row b _ h)
theorem sS_Program (c : Chip) (k : Int) (b : Bytes) (hf : c.fine) (hs : c.sz < 2 ^ 40) (hb : b.length < 2 ^ 40) :
    Spec Try.prog 92 [c.x, .int .i64 k, .ext 1 (bytesR b)] (.tup [(progC c k b).o, .int .i64 (progCode c k b)]) [.undef, .undef, .undef] := by
  have hl := chip_len hf
  have hPr := sS_l10Program c k b hf hs (by omega)
  by_cases h : progCode c k b = 0
  · obtain ⟨hb4, j, rfl, hj, b1, hk, hu, h8⟩ := prog_info h
    have hj' : (j : Int) < (c.blocks.length : Nat) := by omega
    have hn := sS_NextPage c j hs
    rw [nextPage_at hj] at hn
    have hu' : ((usedN (c.blocks[j]).pages : Nat) : Int) < ((c.blocks[j]).pages.length : Nat) := by omega
    rw [h] at hPr
    rw [progC, if_pos h, h]
    refine spec_C hmx p_S_Program [] 975 [] ⟨Nat.le_of_ble_eq_true rfl, Nat.le_of_ble_eq_true rfl⟩ rfl rfl ?_
    intro w hP hmd hks hQ
    unfold c_S_Program
    simp +decide (maxSteps := 20000000) (disch := omega) only [↓SBK, ↓SBK2, SX, Nat.reduceEqDiff, Nat.reduceAdd, Nat.reduceMul, Nat.reduceSub, ↓reduceIte, Int.reduceNeg, Int.reduceToNat, Int.reducePow, hmd, hks, hQ]
    (first | refine call_i hP (sS_l10Copy c hs) (.inl ⟨rfl, fun _ hx => nomatch hx⟩) ?_ | refine callH_i hP (sS_l10Copy c hs) (.inl ⟨rfl, fun _ hx => nomatch hx⟩) ?_)
    simp +decide (maxSteps := 20000000) (disch := omega) only [↓SBK, ↓SBK2, SX, Nat.reduceEqDiff, Nat.reduceAdd, Nat.reduceMul, Nat.reduceSub, ↓reduceIte, Int.reduceNeg, Int.reduceToNat, Int.reducePow, hmd, hks, hQ]
    (first | refine call_i hP (hPr) (.inl ⟨rfl, fun _ hx => nomatch hx⟩) ?_ | refine callH_i hP (hPr) (.inl ⟨rfl, fun _ hx => nomatch hx⟩) ?_)
    simp +decide (maxSteps := 20000000) (disch := omega) only [↓SBK, ↓SBK2, SX, Nat.reduceEqDiff, Nat.reduceAdd, Nat.reduceMul, Nat.reduceSub, ↓reduceIte, Int.reduceNeg, Int.reduceToNat, Int.reducePow, hmd, hks, hQ, getE hj']
    (first | refine call_i hP (hn) (.inl ⟨rfl, fun _ hx => nomatch hx⟩) ?_ | refine callH_i hP (hn) (.inl ⟨rfl, fun _ hx => nomatch hx⟩) ?_)
    simp +decide (maxSteps := 20000000) (disch := omega) only [↓SBK, ↓SBK2, SX, Nat.reduceEqDiff, Nat.reduceAdd, Nat.reduceMul, Nat.reduceSub, ↓reduceIte, Int.reduceNeg, Int.reduceToNat, Int.reducePow, hmd, hks, hQ, getE hj']
    rw [prB_rows b c.blocks j hj (by omega)]
  · rw [progC, if_neg h]
    have d : decide (progCode c k b = 0) = false := decide_eq_false h
    refine spec_C hmx p_S_Program [] 975 [] ⟨Nat.le_of_ble_eq_true rfl, Nat.le_of_ble_eq_true rfl⟩ rfl rfl ?_
    intro w hP hmd hks hQ
    unfold c_S_Program
    simp +decide (maxSteps := 20000000) (disch := omega) only [↓SBK, ↓SBK2, SX, Nat.reduceEqDiff, Nat.reduceAdd, Nat.reduceMul, Nat.reduceSub, ↓reduceIte, Int.reduceNeg, Int.reduceToNat, Int.reducePow, hmd, hks, hQ]
    (first | refine call_i hP (sS_l10Copy c hs) (.inl ⟨rfl, fun _ hx => nomatch hx⟩) ?_ | refine callH_i hP (sS_l10Copy c hs) (.inl ⟨rfl, fun _ hx => nomatch hx⟩) ?_)
    simp +decide (maxSteps := 20000000) (disch := omega) only [↓SBK, ↓SBK2, SX, Nat.reduceEqDiff, Nat.reduceAdd, Nat.reduceMul, Nat.reduceSub, ↓reduceIte, Int.reduceNeg, Int.reduceToNat, Int.reducePow, hmd, hks, hQ]
    (first | refine call_i hP (hPr) (.inl ⟨rfl, fun _ hx => nomatch hx⟩) ?_ | refine callH_i hP (hPr) (.inl ⟨rfl, fun _ hx => nomatch hx⟩) ?_)
    simp +decide (maxSteps := 20000000) (disch := omega) only [↓SBK, ↓SBK2, SX, Nat.reduceEqDiff, Nat.reduceAdd, Nat.reduceMul, Nat.reduceSub, ↓reduceIte, Int.reduceNeg, Int.reduceToNat, Int.reducePow, hmd, hks, hQ, d]
theorem sI_Program (c : Chip) (k : Int) (b : Bytes) (hf : c.fine) (hs : c.sz < 2 ^ 40) (hb : b.length < 2 ^ 40) :
    Spec Try.prog 78 [c.x, .int .i64 k, .ext 1 (bytesR b)] (.tup [(progC c k b).o, .int .i64 (progCode c k b)]) [.undef, .undef, .undef] := by
  have hl := chip_len hf
  have hc := sI_ChipOk c hf
  have hbk := s_isBlock c k hs
  have hn := sI_NextPage c k hs
  by_cases h1 : chipOk c = true
  · rw [h1] at hc
    by_cases h2 : 0 ≤ k ∧ k < (c.blocks.length : Nat)
    · rw [(inR_iff _ _ _).2 (by omega)] at hbk
      obtain ⟨j, rfl⟩ : ∃ j : Nat, k = j := ⟨k.toNat, by omega⟩
      have hj' : (j : Int) < (c.blocks.length : Nat) := h2.2
      have hj : j < c.blocks.length := by omega
      have hk : okC c := by simpa [chipOk] using h1
      rw [nextPage_at hj] at hn
      have h8 := (hk.1 _ (List.getElem_mem hj)).1
      have hu := usedN_le (c.blocks[j]).pages
      have ec := fun f => may_some (full := f) h1 (blk_nat hj')
      by_cases h4 : 400 < (b.length : Int)
      · have d4 : decide (400 < (b.length : Int)) = true := decide_eq_true h4
        have e0 : progCode c j b = 1 := by rw [progCode, if_pos h4]
        rw [progC, if_neg (by rw [e0]; decide), e0]
        refine spec_C hmx p_I_Program [] 463 [] ⟨Nat.le_of_ble_eq_true rfl, Nat.le_of_ble_eq_true rfl⟩ rfl rfl ?_
        intro w hP hmd hks hQ
        unfold c_I_Program
        simp +decide (maxSteps := 20000000) (disch := omega) only [↓SBK, ↓SBK2, SX, Nat.reduceEqDiff, Nat.reduceAdd, Nat.reduceMul, Nat.reduceSub, ↓reduceIte, Int.reduceNeg, Int.reduceToNat, Int.reducePow, hmd, hks, hQ]
        (first | refine call_i hP (sI_copyChip c hs) (.inl ⟨rfl, fun _ hx => nomatch hx⟩) ?_ | refine callH_i hP (sI_copyChip c hs) (.inl ⟨rfl, fun _ hx => nomatch hx⟩) ?_)
        simp +decide (maxSteps := 20000000) (disch := omega) only [↓SBK, ↓SBK2, SX, Nat.reduceEqDiff, Nat.reduceAdd, Nat.reduceMul, Nat.reduceSub, ↓reduceIte, Int.reduceNeg, Int.reduceToNat, Int.reducePow, hmd, hks, hQ]
        (first | refine call_i hP (hc) (.inl ⟨rfl, fun _ hx => nomatch hx⟩) ?_ | refine callH_i hP (hc) (.inl ⟨rfl, fun _ hx => nomatch hx⟩) ?_)
        simp +decide (maxSteps := 20000000) (disch := omega) only [↓SBK, ↓SBK2, SX, Nat.reduceEqDiff, Nat.reduceAdd, Nat.reduceMul, Nat.reduceSub, ↓reduceIte, Int.reduceNeg, Int.reduceToNat, Int.reducePow, hmd, hks, hQ]
        (first | refine call_i hP (hbk) (.inl ⟨rfl, fun _ hx => nomatch hx⟩) ?_ | refine callH_i hP (hbk) (.inl ⟨rfl, fun _ hx => nomatch hx⟩) ?_)
        simp +decide (maxSteps := 20000000) (disch := omega) only [↓SBK, ↓SBK2, SX, Nat.reduceEqDiff, Nat.reduceAdd, Nat.reduceMul, Nat.reduceSub, ↓reduceIte, Int.reduceNeg, Int.reduceToNat, Int.reducePow, hmd, hks, hQ, d4]
      · have d4 : decide (400 < (b.length : Int)) = false := decide_eq_false h4
        cases h5 : (c.blocks[j]).bad with
        | true =>
          have e0 : progCode c j b = 2 := by rw [progCode, if_neg h4, ec, if_pos h5]
          rw [progC, if_neg (by rw [e0]; decide), e0]
          refine spec_C hmx p_I_Program [] 463 [] ⟨Nat.le_of_ble_eq_true rfl, Nat.le_of_ble_eq_true rfl⟩ rfl rfl ?_
          intro w hP hmd hks hQ
          unfold c_I_Program
          simp +decide (maxSteps := 20000000) (disch := omega) only [↓SBK, ↓SBK2, SX, Nat.reduceEqDiff, Nat.reduceAdd, Nat.reduceMul, Nat.reduceSub, ↓reduceIte, Int.reduceNeg, Int.reduceToNat, Int.reducePow, hmd, hks, hQ]
          (first | refine call_i hP (sI_copyChip c hs) (.inl ⟨rfl, fun _ hx => nomatch hx⟩) ?_ | refine callH_i hP (sI_copyChip c hs) (.inl ⟨rfl, fun _ hx => nomatch hx⟩) ?_)
          simp +decide (maxSteps := 20000000) (disch := omega) only [↓SBK, ↓SBK2, SX, Nat.reduceEqDiff, Nat.reduceAdd, Nat.reduceMul, Nat.reduceSub, ↓reduceIte, Int.reduceNeg, Int.reduceToNat, Int.reducePow, hmd, hks, hQ]
          (first | refine call_i hP (hc) (.inl ⟨rfl, fun _ hx => nomatch hx⟩) ?_ | refine callH_i hP (hc) (.inl ⟨rfl, fun _ hx => nomatch hx⟩) ?_)
          simp +decide (maxSteps := 20000000) (disch := omega) only [↓SBK, ↓SBK2, SX, Nat.reduceEqDiff, Nat.reduceAdd, Nat.reduceMul, Nat.reduceSub, ↓reduceIte, Int.reduceNeg, Int.reduceToNat, Int.reducePow, hmd, hks, hQ]
          (first | refine call_i hP (hbk) (.inl ⟨rfl, fun _ hx => nomatch hx⟩) ?_ | refine callH_i hP (hbk) (.inl ⟨rfl, fun _ hx => nomatch hx⟩) ?_)
          simp +decide (maxSteps := 20000000) (disch := omega) only [↓SBK, ↓SBK2, SX, Nat.reduceEqDiff, Nat.reduceAdd, Nat.reduceMul, Nat.reduceSub, ↓reduceIte, Int.reduceNeg, Int.reduceToNat, Int.reducePow, hmd, hks, hQ, d4]
          (first | refine call_i hP (hn) (.inl ⟨rfl, fun _ hx => nomatch hx⟩) ?_ | refine callH_i hP (hn) (.inl ⟨rfl, fun _ hx => nomatch hx⟩) ?_)
          simp +decide (maxSteps := 20000000) (disch := omega) only [↓SBK, ↓SBK2, SX, Nat.reduceEqDiff, Nat.reduceAdd, Nat.reduceMul, Nat.reduceSub, ↓reduceIte, Int.reduceNeg, Int.reduceToNat, Int.reducePow, hmd, hks, hQ, getE hj', h5]
        | false =>
          by_cases h6 : ((usedN (c.blocks[j]).pages : Nat) : Int) = 8
          · have d6 : decide (((usedN (c.blocks[j]).pages : Nat) : Int) = 8) = true := decide_eq_true h6
            have e0 : progCode c j b = 5 := by rw [progCode, if_neg h4, ec, if_neg (by rw [h5]; decide), nextPage_at hj, if_pos d6]
            rw [progC, if_neg (by rw [e0]; decide), e0]
            refine spec_C hmx p_I_Program [] 463 [] ⟨Nat.le_of_ble_eq_true rfl, Nat.le_of_ble_eq_true rfl⟩ rfl rfl ?_
            intro w hP hmd hks hQ
            unfold c_I_Program
            simp +decide (maxSteps := 20000000) (disch := omega) only [↓SBK, ↓SBK2, SX, Nat.reduceEqDiff, Nat.reduceAdd, Nat.reduceMul, Nat.reduceSub, ↓reduceIte, Int.reduceNeg, Int.reduceToNat, Int.reducePow, hmd, hks, hQ]
            (first | refine call_i hP (sI_copyChip c hs) (.inl ⟨rfl, fun _ hx => nomatch hx⟩) ?_ | refine callH_i hP (sI_copyChip c hs) (.inl ⟨rfl, fun _ hx => nomatch hx⟩) ?_)
            simp +decide (maxSteps := 20000000) (disch := omega) only [↓SBK, ↓SBK2, SX, Nat.reduceEqDiff, Nat.reduceAdd, Nat.reduceMul, Nat.reduceSub, ↓reduceIte, Int.reduceNeg, Int.reduceToNat, Int.reducePow, hmd, hks, hQ]
            (first | refine call_i hP (hc) (.inl ⟨rfl, fun _ hx => nomatch hx⟩) ?_ | refine callH_i hP (hc) (.inl ⟨rfl, fun _ hx => nomatch hx⟩) ?_)
            simp +decide (maxSteps := 20000000) (disch := omega) only [↓SBK, ↓SBK2, SX, Nat.reduceEqDiff, Nat.reduceAdd, Nat.reduceMul, Nat.reduceSub, ↓reduceIte, Int.reduceNeg, Int.reduceToNat, Int.reducePow, hmd, hks, hQ]
            (first | refine call_i hP (hbk) (.inl ⟨rfl, fun _ hx => nomatch hx⟩) ?_ | refine callH_i hP (hbk) (.inl ⟨rfl, fun _ hx => nomatch hx⟩) ?_)
            simp +decide (maxSteps := 20000000) (disch := omega) only [↓SBK, ↓SBK2, SX, Nat.reduceEqDiff, Nat.reduceAdd, Nat.reduceMul, Nat.reduceSub, ↓reduceIte, Int.reduceNeg, Int.reduceToNat, Int.reducePow, hmd, hks, hQ, d4]
            (first | refine call_i hP (hn) (.inl ⟨rfl, fun _ hx => nomatch hx⟩) ?_ | refine callH_i hP (hn) (.inl ⟨rfl, fun _ hx => nomatch hx⟩) ?_)
            simp +decide (maxSteps := 20000000) (disch := omega) only [↓SBK, ↓SBK2, SX, Nat.reduceEqDiff, Nat.reduceAdd, Nat.reduceMul, Nat.reduceSub, ↓reduceIte, Int.reduceNeg, Int.reduceToNat, Int.reducePow, hmd, hks, hQ, getE hj', h5, d6]
          · have d6 : decide (((usedN (c.blocks[j]).pages : Nat) : Int) = 8) = false := decide_eq_false h6
            have hu' : ((usedN (c.blocks[j]).pages : Nat) : Int) < ((c.blocks[j]).pages.length : Nat) := by omega
            have e0 : progCode c j b = 0 := by rw [progCode, if_neg h4, ec, if_neg (by rw [h5]; decide), nextPage_at hj, d6]; rfl
            rw [progC, if_pos e0, e0]
            refine spec_C hmx p_I_Program [] 463 [] ⟨Nat.le_of_ble_eq_true rfl, Nat.le_of_ble_eq_true rfl⟩ rfl rfl ?_
            intro w hP hmd hks hQ
            unfold c_I_Program
            simp +decide (maxSteps := 20000000) (disch := omega) only [↓SBK, ↓SBK2, SX, Nat.reduceEqDiff, Nat.reduceAdd, Nat.reduceMul, Nat.reduceSub, ↓reduceIte, Int.reduceNeg, Int.reduceToNat, Int.reducePow, hmd, hks, hQ]
            (first | refine call_i hP (sI_copyChip c hs) (.inl ⟨rfl, fun _ hx => nomatch hx⟩) ?_ | refine callH_i hP (sI_copyChip c hs) (.inl ⟨rfl, fun _ hx => nomatch hx⟩) ?_)
            simp +decide (maxSteps := 20000000) (disch := omega) only [↓SBK, ↓SBK2, SX, Nat.reduceEqDiff, Nat.reduceAdd, Nat.reduceMul, Nat.reduceSub, ↓reduceIte, Int.reduceNeg, Int.reduceToNat, Int.reducePow, hmd, hks, hQ]
            (first | refine call_i hP (hc) (.inl ⟨rfl, fun _ hx => nomatch hx⟩) ?_ | refine callH_i hP (hc) (.inl ⟨rfl, fun _ hx => nomatch hx⟩) ?_)
            simp +decide (maxSteps := 20000000) (disch := omega) only [↓SBK, ↓SBK2, SX, Nat.reduceEqDiff, Nat.reduceAdd, Nat.reduceMul, Nat.reduceSub, ↓reduceIte, Int.reduceNeg, Int.reduceToNat, Int.reducePow, hmd, hks, hQ]
            (first | refine call_i hP (hbk) (.inl ⟨rfl, fun _ hx => nomatch hx⟩) ?_ | refine callH_i hP (hbk) (.inl ⟨rfl, fun _ hx => nomatch hx⟩) ?_)
            simp +decide (maxSteps := 20000000) (disch := omega) only [↓SBK, ↓SBK2, SX, Nat.reduceEqDiff, Nat.reduceAdd, Nat.reduceMul, Nat.reduceSub, ↓reduceIte, Int.reduceNeg, Int.reduceToNat, Int.reducePow, hmd, hks, hQ, d4]
            (first | refine call_i hP (hn) (.inl ⟨rfl, fun _ hx => nomatch hx⟩) ?_ | refine callH_i hP (hn) (.inl ⟨rfl, fun _ hx => nomatch hx⟩) ?_)
            simp +decide (maxSteps := 20000000) (disch := omega) only [↓SBK, ↓SBK2, SX, Nat.reduceEqDiff, Nat.reduceAdd, Nat.reduceMul, Nat.reduceSub, ↓reduceIte, Int.reduceNeg, Int.reduceToNat, Int.reducePow, hmd, hks, hQ, getE hj', h5, d6]
            (first | refine call_i hP (s_Clone8 b hb) (.inl ⟨rfl, fun _ hx => nomatch hx⟩) ?_ | refine callH_i hP (s_Clone8 b hb) (.inl ⟨rfl, fun _ hx => nomatch hx⟩) ?_)
            simp +decide (maxSteps := 20000000) (disch := omega) only [↓SBK, ↓SBK2, SX, Nat.reduceEqDiff, Nat.reduceAdd, Nat.reduceMul, Nat.reduceSub, ↓reduceIte, Int.reduceNeg, Int.reduceToNat, Int.reducePow, hmd, hks, hQ, getE hj']
            rw [prB_rows b c.blocks j hj (by omega)]
    · have hnb : inR k 0 ((c.blocks.length : Nat) - 1) = false := by
        cases hx : inR k 0 ((c.blocks.length : Nat) - 1) with
        | false => rfl
        | true => have := (inR_iff _ _ _).1 hx; omega
      rw [hnb] at hbk
      have e0 : progCode c k b = 1 := by
        unfold progCode
        split
        · rfl
        · exact may_none (blk_none h2)
      rw [progC, if_neg (by rw [e0]; decide), e0]
      refine spec_C hmx p_I_Program [] 463 [] ⟨Nat.le_of_ble_eq_true rfl, Nat.le_of_ble_eq_true rfl⟩ rfl rfl ?_
      intro w hP hmd hks hQ
      unfold c_I_Program
      simp +decide (maxSteps := 20000000) (disch := omega) only [↓SBK, ↓SBK2, SX, Nat.reduceEqDiff, Nat.reduceAdd, Nat.reduceMul, Nat.reduceSub, ↓reduceIte, Int.reduceNeg, Int.reduceToNat, Int.reducePow, hmd, hks, hQ]
      (first | refine call_i hP (sI_copyChip c hs) (.inl ⟨rfl, fun _ hx => nomatch hx⟩) ?_ | refine callH_i hP (sI_copyChip c hs) (.inl ⟨rfl, fun _ hx => nomatch hx⟩) ?_)
      simp +decide (maxSteps := 20000000) (disch := omega) only [↓SBK, ↓SBK2, SX, Nat.reduceEqDiff, Nat.reduceAdd, Nat.reduceMul, Nat.reduceSub, ↓reduceIte, Int.reduceNeg, Int.reduceToNat, Int.reducePow, hmd, hks, hQ]
      (first | refine call_i hP (hc) (.inl ⟨rfl, fun _ hx => nomatch hx⟩) ?_ | refine callH_i hP (hc) (.inl ⟨rfl, fun _ hx => nomatch hx⟩) ?_)
      simp +decide (maxSteps := 20000000) (disch := omega) only [↓SBK, ↓SBK2, SX, Nat.reduceEqDiff, Nat.reduceAdd, Nat.reduceMul, Nat.reduceSub, ↓reduceIte, Int.reduceNeg, Int.reduceToNat, Int.reducePow, hmd, hks, hQ]
      (first | refine call_i hP (hbk) (.inl ⟨rfl, fun _ hx => nomatch hx⟩) ?_ | refine callH_i hP (hbk) (.inl ⟨rfl, fun _ hx => nomatch hx⟩) ?_)
      simp +decide (maxSteps := 20000000) (disch := omega) only [↓SBK, ↓SBK2, SX, Nat.reduceEqDiff, Nat.reduceAdd, Nat.reduceMul, Nat.reduceSub, ↓reduceIte, Int.reduceNeg, Int.reduceToNat, Int.reducePow, hmd, hks, hQ]
  · have h1' : chipOk c = false := by simpa using h1
    rw [h1'] at hc
    have e0 : progCode c k b = 1 := by
      unfold progCode
      split
      · rfl
      · exact may_bad h1
    rw [progC, if_neg (by rw [e0]; decide), e0]
    refine spec_C hmx p_I_Program [] 463 [] ⟨Nat.le_of_ble_eq_true rfl, Nat.le_of_ble_eq_true rfl⟩ rfl rfl ?_
    intro w hP hmd hks hQ
    unfold c_I_Program
    simp +decide (maxSteps := 20000000) (disch := omega) only [↓SBK, ↓SBK2, SX, Nat.reduceEqDiff, Nat.reduceAdd, Nat.reduceMul, Nat.reduceSub, ↓reduceIte, Int.reduceNeg, Int.reduceToNat, Int.reducePow, hmd, hks, hQ]
    (first | refine call_i hP (sI_copyChip c hs) (.inl ⟨rfl, fun _ hx => nomatch hx⟩) ?_ | refine callH_i hP (sI_copyChip c hs) (.inl ⟨rfl, fun _ hx => nomatch hx⟩) ?_)
    simp +decide (maxSteps := 20000000) (disch := omega) only [↓SBK, ↓SBK2, SX, Nat.reduceEqDiff, Nat.reduceAdd, Nat.reduceMul, Nat.reduceSub, ↓reduceIte, Int.reduceNeg, Int.reduceToNat, Int.reducePow, hmd, hks, hQ]
    (first | refine call_i hP (hc) (.inl ⟨rfl, fun _ hx => nomatch hx⟩) ?_ | refine callH_i hP (hc) (.inl ⟨rfl, fun _ hx => nomatch hx⟩) ?_)
    simp +decide (maxSteps := 20000000) (disch := omega) only [↓SBK, ↓SBK2, SX, Nat.reduceEqDiff, Nat.reduceAdd, Nat.reduceMul, Nat.reduceSub, ↓reduceIte, Int.reduceNeg, Int.reduceToNat, Int.reducePow, hmd, hks, hQ]
theorem sum_modify2 {α : Type} (f : α → Nat) (h : α → α) (K : Nat) : ∀ (l : List α) (i : Nat) (hi : i < l.length), f (h l[i]) ≤ f l[i] + K → ((l.modify i h).map f).sum ≤ (l.map f).sum + K := by
  intro l
  induction l with
  | nil => intro i hi; simp at hi
  | cons x l ih =>
    intro i hi hK
    cases i with
    | zero => simp only [List.getElem_cons_zero] at hK; simp only [List.modify_zero_cons, List.map_cons, List.sum_cons]; omega
    | succ i => simp only [List.getElem_cons_succ] at hK; simp only [List.modify_succ_cons, List.map_cons, List.sum_cons]; have := ih i (by simpa using hi) hK; omega
theorem prB_sz (b : Bytes) (x : Block) (h : usedN x.pages < x.pages.length) : (prB b x).sz ≤ x.sz + b.length := by
  have e : (prB b x).sz = (x.pages.modify (usedN x.pages) fun _ => { used := true, b := b }).length + ((x.pages.modify (usedN x.pages) fun _ => { used := true, b := b }).map Page.sz).sum := rfl
  have e2 : x.sz = x.pages.length + (x.pages.map Page.sz).sum := rfl
  have := sum_modify2 Page.sz (fun _ => { used := true, b := b }) b.length x.pages (usedN x.pages) h (by show b.length ≤ _; omega)
  rw [List.length_modify] at e
  omega
theorem progC_sz (c : Chip) (k : Int) (b : Bytes) : (progC c k b).sz ≤ c.sz + b.length := by
  by_cases h : progCode c k b = 0
  · rw [progC, if_pos h]
    obtain ⟨hb4, j, rfl, hj, b1, hk, hu, h8⟩ := prog_info h
    have := sum_modify2 Block.sz (prB b) b.length c.blocks j hj (prB_sz b _ (by omega))
    have e1 : Chip.sz { blocks := c.blocks.modify j (prB b) } = (c.blocks.modify j (prB b)).length + ((c.blocks.modify j (prB b)).map Block.sz).sum := rfl
    have e2 : c.sz = c.blocks.length + (c.blocks.map Block.sz).sum := rfl
    rw [Int.toNat_natCast, e1, e2, List.length_modify]
    omega
  · rw [progC, if_neg h]
    omega
end Go.Proofs.Ytliklgcfdgdigaa.Awp

namespace Go.Proofs.Ytliklgcfdgdigaa.Awp
open Go.Proofs
set_option linter.unusedSimpArgs false
set_option linter.unusedVariables false
set_option maxRecDepth 100000
set_option maxHeartbeats 20000000

end Go.Proofs.Ytliklgcfdgdigaa.Awp

namespace Go.Proofs.Ytliklgcfdgdigaa.Awp
open Go.Proofs
set_option linter.unusedSimpArgs false
set_option linter.unusedVariables false
set_option maxRecDepth 100000
set_option maxHeartbeats 20000000

/-! ### right chips stay right -/
end Go.Proofs.Ytliklgcfdgdigaa.Awp

namespace Go.Proofs.Ytliklgcfdgdigaa.Awp
open Go.Proofs
set_option linter.unusedSimpArgs false
set_option linter.unusedVariables false
set_option maxRecDepth 100000
set_option maxHeartbeats 20000000

/-! ### drawn chips -/
def badB (x : Block) : Block := { pages := x.pages, wear := x.wear, bad := true }
end Go.Proofs.Ytliklgcfdgdigaa.Awp

namespace Go.Proofs.Ytliklgcfdgdigaa.Awp
open Go.Proofs
set_option linter.unusedSimpArgs false
set_option linter.unusedVariables false
set_option maxRecDepth 100000
set_option maxHeartbeats 20000000

def zDev : Dev := { c := { blocks := [] }, ops := 0, faults := [], down := false }
def mkD (n : Int) (l : List Fault) : Dev := { c := chipNew n, ops := 0, faults := l, down := false }
noncomputable def devNew (n : Int) (l : List Fault) : Dev := if devOk (mkD n l) = true then mkD n l else zDev
end Go.Proofs.Ytliklgcfdgdigaa.Awp

namespace Go.Proofs.Ytliklgcfdgdigaa.Awp
open Go.Proofs
set_option linter.unusedSimpArgs false
set_option linter.unusedVariables false
set_option maxRecDepth 100000
set_option maxHeartbeats 20000000

end Go.Proofs.Ytliklgcfdgdigaa.Awp

namespace Go.Proofs.Ytliklgcfdgdigaa.Awp
open Go.Proofs
set_option linter.unusedSimpArgs false
set_option linter.unusedVariables false
set_option maxRecDepth 100000
set_option maxHeartbeats 20000000

end Go.Proofs.Ytliklgcfdgdigaa.Awp

namespace Go.Proofs.Ytliklgcfdgdigaa.Awp
open Go.Proofs
set_option linter.unusedSimpArgs false
set_option linter.unusedVariables false
set_option maxRecDepth 100000
set_option maxHeartbeats 20000000

end Go.Proofs.Ytliklgcfdgdigaa.Awp

namespace Go.Proofs.Ytliklgcfdgdigaa.Awp
open Go.Proofs
set_option linter.unusedSimpArgs false
set_option linter.unusedVariables false
set_option maxRecDepth 100000
set_option maxHeartbeats 20000000

end Go.Proofs.Ytliklgcfdgdigaa.Awp

namespace Go.Proofs.Ytliklgcfdgdigaa.Awp
open Go.Proofs
set_option linter.unusedSimpArgs false
set_option linter.unusedVariables false
set_option maxRecDepth 100000
set_option maxHeartbeats 20000000

end Go.Proofs.Ytliklgcfdgdigaa.Awp

namespace Go.Proofs.Ytliklgcfdgdigaa.Awp
open Go.Proofs
set_option linter.unusedSimpArgs false
set_option linter.unusedVariables false
set_option maxRecDepth 100000
set_option maxHeartbeats 20000000

end Go.Proofs.Ytliklgcfdgdigaa.Awp

namespace Go.Proofs.Ytliklgcfdgdigaa.Awp
open Go.Proofs
set_option linter.unusedSimpArgs false
set_option linter.unusedVariables false
set_option maxRecDepth 100000
set_option maxHeartbeats 20000000

end Go.Proofs.Ytliklgcfdgdigaa.Awp

namespace Go.Proofs.Ytliklgcfdgdigaa.Awp
open Go.Proofs
set_option linter.unusedSimpArgs false
set_option linter.unusedVariables false
set_option maxRecDepth 100000
set_option maxHeartbeats 20000000

end Go.Proofs.Ytliklgcfdgdigaa.Awp

namespace Go.Proofs.Ytliklgcfdgdigaa.Awp
open Go.Proofs
set_option linter.unusedSimpArgs false
set_option linter.unusedVariables false
set_option maxRecDepth 100000
set_option maxHeartbeats 20000000

/-! ### a reader that is not right reads nothing -/
end Go.Proofs.Ytliklgcfdgdigaa.Awp

namespace Go.Proofs.Ytliklgcfdgdigaa.Awp
open Go.Proofs
set_option linter.unusedSimpArgs false
set_option linter.unusedVariables false
set_option maxRecDepth 100000
set_option maxHeartbeats 20000000

/-! ### a record of its bytes -/
theorem bytesR_take (b : Bytes) (n : Nat) : List.take n (bytesR b) = bytesR (b.take n) := by simp [bytesR, List.map_take]
end Go.Proofs.Ytliklgcfdgdigaa.Awp

namespace Go.Proofs.Ytliklgcfdgdigaa.Awp
open Go.Proofs
set_option linter.unusedSimpArgs false
set_option linter.unusedVariables false
set_option maxRecDepth 100000
set_option maxHeartbeats 20000000

end Go.Proofs.Ytliklgcfdgdigaa.Awp

namespace Go.Proofs.Ytliklgcfdgdigaa.Awp
open Go.Proofs
set_option linter.unusedSimpArgs false
set_option linter.unusedVariables false
set_option maxRecDepth 100000
set_option maxHeartbeats 20000000

/-! ### what begins an operation -/
theorem sI_FaultAtU (ops : Int) (l : List Fault) (down : Bool) (d : Dev) (h1 : d.ops = ops) (h2 : d.faults = l) (hl : l.length < 2 ^ 48) :
    Spec Try.prog 84 [.agg [.undef, .int .i64 ops, .ext 3 (l.map Fault.row), .bool down]] (.tup [(faultAt d).1.o, .bool (faultAt d).2]) [.undef] := by
  subst h1 h2
  refine spec_C hmx p_I_FaultAt [] 943 [] ⟨Nat.le_of_ble_eq_true rfl, Nat.le_of_ble_eq_true rfl⟩ rfl rfl ?_
  intro w hP hmd hks hQ
  unfold c_I_FaultAt
  simp +decide (maxSteps := 20000000) (disch := omega) only [↓SBK, ↓SBK2, SX, Nat.reduceEqDiff, Nat.reduceAdd, Nat.reduceMul, Nat.reduceSub, ↓reduceIte, Int.reduceNeg, Int.reduceToNat, Int.reducePow, hmd, hks, hQ]
  refine LH_D [3, 5, 5005] ?_
  simp +decide (maxSteps := 20000000) (disch := omega) only [↓SBK, ↓SBK2, SX, Nat.reduceEqDiff, Nat.reduceAdd, Nat.reduceMul, Nat.reduceSub, ↓reduceIte, Int.reduceNeg, Int.reduceToNat, Int.reducePow, hmd, hks, hQ]
  refine loop_d [3, 5, 5005] (fun i : Nat => [(9, .int .i64 i)]) (fun i => i ≤ d.faults.length ∧ ∀ k, k < i → (h : k < d.faults.length) → decide (d.faults[k].at' = d.ops) = false) (fun i => d.faults.length - i) (0) hP hmd hks (rfl) (by simp) ?_
  rintro i ⟨hi, hk⟩ w1 hP1 hmd1 hks1 hQ1
  simp +decide (maxSteps := 20000000) (disch := omega) only [↓SBK, ↓SBK2, SX, Nat.reduceEqDiff, Nat.reduceAdd, Nat.reduceMul, Nat.reduceSub, ↓reduceIte, Int.reduceNeg, Int.reduceToNat, Int.reducePow, hmd, hks, hQ, hmd1, hks1, hQ1]
  (first | with_reducible refine if_d _ ?_ ?_ | refine if_i _ ?_ ?_) <;> intro h1
  · simp +decide (maxSteps := 20000000) (disch := omega) only [↓SBK, ↓SBK2, SX, Nat.reduceEqDiff, Nat.reduceAdd, Nat.reduceMul, Nat.reduceSub, ↓reduceIte, Int.reduceNeg, Int.reduceToNat, Int.reducePow, hmd, hks, hQ, hmd1, hks1, hQ1, getE h1]
    (first | with_reducible refine if_d _ ?_ ?_ | refine if_i _ ?_ ?_) <;> intro h2
    · simp +decide (maxSteps := 20000000) (disch := omega) only [↓SBK, ↓SBK2, SX, Nat.reduceEqDiff, Nat.reduceAdd, Nat.reduceMul, Nat.reduceSub, ↓reduceIte, Int.reduceNeg, Int.reduceToNat, Int.reducePow, hmd, hks, hQ, hmd1, hks1, hQ1, getE h1]
      rw [faultAt, faultIn, find_none_step (p := fun f : Fault => decide (f.at' = d.ops)) hk (by omega) (decide_eq_true h2)]
    · simp +decide (maxSteps := 20000000) (disch := omega) only [↓SBK, ↓SBK2, SX, Nat.reduceEqDiff, Nat.reduceAdd, Nat.reduceMul, Nat.reduceSub, ↓reduceIte, Int.reduceNeg, Int.reduceToNat, Int.reducePow, hmd, hks, hQ, hmd1, hks1, hQ1]
      exact ⟨i + 1, rfl, ⟨by omega, no_step (p := fun f : Fault => decide (f.at' = d.ops)) hk (by omega) (decide_eq_false h2)⟩, by omega⟩
  · obtain rfl : i = d.faults.length := by omega
    simp +decide (maxSteps := 20000000) (disch := omega) only [↓SBK, ↓SBK2, SX, Nat.reduceEqDiff, Nat.reduceAdd, Nat.reduceMul, Nat.reduceSub, ↓reduceIte, Int.reduceNeg, Int.reduceToNat, Int.reducePow, hmd, hks, hQ, hmd1, hks1, hQ1]
    rw [faultAt, faultIn, find_none_all (p := fun f : Fault => decide (f.at' = d.ops)) fun k h => hk k h h]; rfl
/-- two or three borrowed captures -/
def Caps (caps : List AV) : Prop := (∃ a b c, caps = [.xbox a, .xbox b, .xbox c]) ∨ ∃ a b, caps = [.xbox a, .xbox b]
theorem s_begin1 (d : Dev) (k : Int) (C : Chip) (code : Int) (g : Nat) (caps : List AV) (hc : Caps caps) (h : code ≠ 0) :
    Spec Try.prog 164 [d.o, .int .i64 k, C.o, .int .i64 code, .fn g caps] (.tup [d.o, .int .i64 code]) [.undef, .undef, .undef, .undef, .undef] := by
  have dc : decide (code = 0) = false := decide_eq_false h
  rcases hc with ⟨a, b, c, rfl⟩ | ⟨a, b, rfl⟩
  · refine spec_C hmx p_I_begin [] 15551 [] ⟨Nat.le_of_ble_eq_true rfl, Nat.le_of_ble_eq_true rfl⟩ rfl rfl ?_
    intro w hP hmd hks hQ
    unfold c_I_begin
    simp +decide (maxSteps := 20000000) (disch := omega) only [↓SBK, ↓SBK2, SX, Nat.reduceEqDiff, Nat.reduceAdd, Nat.reduceMul, Nat.reduceSub, ↓reduceIte, Int.reduceNeg, Int.reduceToNat, Int.reducePow, hmd, hks, hQ]
    simp +decide (maxSteps := 20000000) (disch := omega) only [↓SBK, ↓SBK2, SX, Nat.reduceEqDiff, Nat.reduceAdd, Nat.reduceMul, Nat.reduceSub, ↓reduceIte, Int.reduceNeg, Int.reduceToNat, Int.reducePow, hmd, hks, hQ, dc]
  · refine spec_C hmx p_I_begin [] 15551 [] ⟨Nat.le_of_ble_eq_true rfl, Nat.le_of_ble_eq_true rfl⟩ rfl rfl ?_
    intro w hP hmd hks hQ
    unfold c_I_begin
    simp +decide (maxSteps := 20000000) (disch := omega) only [↓SBK, ↓SBK2, SX, Nat.reduceEqDiff, Nat.reduceAdd, Nat.reduceMul, Nat.reduceSub, ↓reduceIte, Int.reduceNeg, Int.reduceToNat, Int.reducePow, hmd, hks, hQ]
    simp +decide (maxSteps := 20000000) (disch := omega) only [↓SBK, ↓SBK2, SX, Nat.reduceEqDiff, Nat.reduceAdd, Nat.reduceMul, Nat.reduceSub, ↓reduceIte, Int.reduceNeg, Int.reduceToNat, Int.reducePow, hmd, hks, hQ, dc]
theorem s_begin2 (d : Dev) (k : Int) (C : Chip) (g : Nat) (caps : List AV) (hc : Caps caps) (hl : d.faults.length < 2 ^ 48) (ho : 0 ≤ d.ops ∧ d.ops < 2 ^ 40) (h : faultAt d = (zFault, false)) :
    Spec Try.prog 164 [d.o, .int .i64 k, C.o, .int .i64 0, .fn g caps] (.tup [({ c := C, ops := d.ops + 1, faults := d.faults, down := d.down } : Dev).o, .int .i64 0]) [.undef, .undef, .undef, .undef, .undef] := by
  have hF := sI_FaultAt d hl
  rw [h] at hF
  rcases hc with ⟨a, b, c, rfl⟩ | ⟨a, b, rfl⟩
  · refine spec_C hmx p_I_begin [] 15551 [] ⟨Nat.le_of_ble_eq_true rfl, Nat.le_of_ble_eq_true rfl⟩ rfl rfl ?_
    intro w hP hmd hks hQ
    unfold c_I_begin
    simp +decide (maxSteps := 20000000) (disch := omega) only [↓SBK, ↓SBK2, SX, Nat.reduceEqDiff, Nat.reduceAdd, Nat.reduceMul, Nat.reduceSub, ↓reduceIte, Int.reduceNeg, Int.reduceToNat, Int.reducePow, hmd, hks, hQ]
    (first | refine call_i hP (hF) (.inl ⟨rfl, fun _ hx => nomatch hx⟩) ?_ | refine callH_i hP (hF) (.inl ⟨rfl, fun _ hx => nomatch hx⟩) ?_)
    simp +decide (maxSteps := 20000000) (disch := omega) only [↓SBK, ↓SBK2, SX, Nat.reduceEqDiff, Nat.reduceAdd, Nat.reduceMul, Nat.reduceSub, ↓reduceIte, Int.reduceNeg, Int.reduceToNat, Int.reducePow, hmd, hks, hQ]
  · refine spec_C hmx p_I_begin [] 15551 [] ⟨Nat.le_of_ble_eq_true rfl, Nat.le_of_ble_eq_true rfl⟩ rfl rfl ?_
    intro w hP hmd hks hQ
    unfold c_I_begin
    simp +decide (maxSteps := 20000000) (disch := omega) only [↓SBK, ↓SBK2, SX, Nat.reduceEqDiff, Nat.reduceAdd, Nat.reduceMul, Nat.reduceSub, ↓reduceIte, Int.reduceNeg, Int.reduceToNat, Int.reducePow, hmd, hks, hQ]
    (first | refine call_i hP (hF) (.inl ⟨rfl, fun _ hx => nomatch hx⟩) ?_ | refine callH_i hP (hF) (.inl ⟨rfl, fun _ hx => nomatch hx⟩) ?_)
    simp +decide (maxSteps := 20000000) (disch := omega) only [↓SBK, ↓SBK2, SX, Nat.reduceEqDiff, Nat.reduceAdd, Nat.reduceMul, Nat.reduceSub, ↓reduceIte, Int.reduceNeg, Int.reduceToNat, Int.reducePow, hmd, hks, hQ]
def badC (c : Chip) (j : Nat) : Chip := { blocks := c.blocks.modify j badB }
theorem bad_rows (l : List Block) (n : Nat) (hn : n < l.length) : ((l.map Block.row).modify n fun x => List.take 2 x ++ [TV.bool true] ++ List.drop 3 x) = (l.modify n badB).map Block.row := mod_map Block.row _ badB l n hn rfl
theorem s_begin3 (d : Dev) (j : Nat) (C : Chip) (g : Nat) (caps : List AV) (hc : Caps caps) (hl : d.faults.length < 2 ^ 48) (hcl : d.c.blocks.length < 2 ^ 48) (ho : 0 ≤ d.ops ∧ d.ops < 2 ^ 40) (hj : j < d.c.blocks.length) (f : Fault) (h : faultAt d = (f, true)) (hk : f.kind = 1) :
    Spec Try.prog 164 [d.o, .int .i64 j, C.o, .int .i64 0, .fn g caps] (.tup [({ c := badC d.c j, ops := d.ops + 1, faults := d.faults, down := d.down } : Dev).o, .int .i64 2]) [.undef, .undef, .undef, .undef, .undef] := by
  have hF := sI_FaultAt d hl
  rw [h] at hF
  have dk : decide (f.kind = 1) = true := decide_eq_true hk
  have hj' : (j : Int) < (d.c.blocks.length : Nat) := by omega
  rcases hc with ⟨a, b, c, rfl⟩ | ⟨a, b, rfl⟩
  · refine spec_C hmx p_I_begin [] 15551 [] ⟨Nat.le_of_ble_eq_true rfl, Nat.le_of_ble_eq_true rfl⟩ rfl rfl ?_
    intro w hP hmd hks hQ
    unfold c_I_begin
    simp +decide (maxSteps := 20000000) (disch := omega) only [↓SBK, ↓SBK2, SX, Nat.reduceEqDiff, Nat.reduceAdd, Nat.reduceMul, Nat.reduceSub, ↓reduceIte, Int.reduceNeg, Int.reduceToNat, Int.reducePow, hmd, hks, hQ]
    (first | refine call_i hP (hF) (.inl ⟨rfl, fun _ hx => nomatch hx⟩) ?_ | refine callH_i hP (hF) (.inl ⟨rfl, fun _ hx => nomatch hx⟩) ?_)
    simp +decide (maxSteps := 20000000) (disch := omega) only [↓SBK, ↓SBK2, SX, Nat.reduceEqDiff, Nat.reduceAdd, Nat.reduceMul, Nat.reduceSub, ↓reduceIte, Int.reduceNeg, Int.reduceToNat, Int.reducePow, hmd, hks, hQ, dk, getE hj']
    rw [bad_rows _ _ hj]; rfl
  · refine spec_C hmx p_I_begin [] 15551 [] ⟨Nat.le_of_ble_eq_true rfl, Nat.le_of_ble_eq_true rfl⟩ rfl rfl ?_
    intro w hP hmd hks hQ
    unfold c_I_begin
    simp +decide (maxSteps := 20000000) (disch := omega) only [↓SBK, ↓SBK2, SX, Nat.reduceEqDiff, Nat.reduceAdd, Nat.reduceMul, Nat.reduceSub, ↓reduceIte, Int.reduceNeg, Int.reduceToNat, Int.reducePow, hmd, hks, hQ]
    (first | refine call_i hP (hF) (.inl ⟨rfl, fun _ hx => nomatch hx⟩) ?_ | refine callH_i hP (hF) (.inl ⟨rfl, fun _ hx => nomatch hx⟩) ?_)
    simp +decide (maxSteps := 20000000) (disch := omega) only [↓SBK, ↓SBK2, SX, Nat.reduceEqDiff, Nat.reduceAdd, Nat.reduceMul, Nat.reduceSub, ↓reduceIte, Int.reduceNeg, Int.reduceToNat, Int.reducePow, hmd, hks, hQ, dk, getE hj']
    rw [bad_rows _ _ hj]; rfl
theorem s_begin4 (d : Dev) (j : Nat) (C X : Chip) (g : Nat) (caps outs : List AV) (hc : Caps caps) (hl : d.faults.length < 2 ^ 48) (ho : 0 ≤ d.ops ∧ d.ops < 2 ^ 40) (f : Fault) (h : faultAt d = (f, true)) (hk : ¬ f.kind = 1)
    (hX : Spec Try.prog g (.int .i64 f.keep :: caps) X.o (.undef :: caps.map fun _ => .undef)) :
    Spec Try.prog 164 [.agg [.undef, .int .i64 d.ops, .own 3 (d.faults.map Fault.row), .bool d.down], .int .i64 j, C.o, .int .i64 0, .fn g caps] (.tup [({ c := X, ops := d.ops + 1, faults := d.faults, down := true } : Dev).o, .int .i64 10]) [.undef, .undef, .undef, .undef, .undef] := by
  have hF := sI_FaultAtU d.ops d.faults d.down d rfl rfl hl
  rw [h] at hF
  have dk : decide (f.kind = 1) = false := decide_eq_false hk
  rcases hc with ⟨a, b, c, rfl⟩ | ⟨a, b, rfl⟩
  · refine spec_C hmx p_I_begin [] 15551 [] ⟨Nat.le_of_ble_eq_true rfl, Nat.le_of_ble_eq_true rfl⟩ rfl rfl ?_
    intro w hP hmd hks hQ
    unfold c_I_begin
    simp +decide (maxSteps := 20000000) (disch := omega) only [↓SBK, ↓SBK2, SX, Nat.reduceEqDiff, Nat.reduceAdd, Nat.reduceMul, Nat.reduceSub, ↓reduceIte, Int.reduceNeg, Int.reduceToNat, Int.reducePow, hmd, hks, hQ]
    (first | refine call_i hP (hF) (.inl ⟨rfl, fun _ hx => nomatch hx⟩) ?_ | refine callH_i hP (hF) (.inl ⟨rfl, fun _ hx => nomatch hx⟩) ?_)
    simp +decide (maxSteps := 20000000) (disch := omega) only [↓SBK, ↓SBK2, SX, Nat.reduceEqDiff, Nat.reduceAdd, Nat.reduceMul, Nat.reduceSub, ↓reduceIte, Int.reduceNeg, Int.reduceToNat, Int.reducePow, hmd, hks, hQ, dk]
    (first | refine call_i hP (hX) (.inl ⟨rfl, fun _ hx => nomatch hx⟩) ?_ | refine callH_i hP (hX) (.inl ⟨rfl, fun _ hx => nomatch hx⟩) ?_)
    simp +decide (maxSteps := 20000000) (disch := omega) only [↓SBK, ↓SBK2, SX, Nat.reduceEqDiff, Nat.reduceAdd, Nat.reduceMul, Nat.reduceSub, ↓reduceIte, Int.reduceNeg, Int.reduceToNat, Int.reducePow, hmd, hks, hQ]
  · refine spec_C hmx p_I_begin [] 15551 [] ⟨Nat.le_of_ble_eq_true rfl, Nat.le_of_ble_eq_true rfl⟩ rfl rfl ?_
    intro w hP hmd hks hQ
    unfold c_I_begin
    simp +decide (maxSteps := 20000000) (disch := omega) only [↓SBK, ↓SBK2, SX, Nat.reduceEqDiff, Nat.reduceAdd, Nat.reduceMul, Nat.reduceSub, ↓reduceIte, Int.reduceNeg, Int.reduceToNat, Int.reducePow, hmd, hks, hQ]
    (first | refine call_i hP (hF) (.inl ⟨rfl, fun _ hx => nomatch hx⟩) ?_ | refine callH_i hP (hF) (.inl ⟨rfl, fun _ hx => nomatch hx⟩) ?_)
    simp +decide (maxSteps := 20000000) (disch := omega) only [↓SBK, ↓SBK2, SX, Nat.reduceEqDiff, Nat.reduceAdd, Nat.reduceMul, Nat.reduceSub, ↓reduceIte, Int.reduceNeg, Int.reduceToNat, Int.reducePow, hmd, hks, hQ, dk]
    (first | refine call_i hP (hX) (.inl ⟨rfl, fun _ hx => nomatch hx⟩) ?_ | refine callH_i hP (hX) (.inl ⟨rfl, fun _ hx => nomatch hx⟩) ?_)
    simp +decide (maxSteps := 20000000) (disch := omega) only [↓SBK, ↓SBK2, SX, Nat.reduceEqDiff, Nat.reduceAdd, Nat.reduceMul, Nat.reduceSub, ↓reduceIte, Int.reduceNeg, Int.reduceToNat, Int.reducePow, hmd, hks, hQ]
theorem sI_DevProgram_1 (c : Chip) (ops : Int) (z : TV) (down : Bool) (k : Int) (b : Bytes) (q : Nat) (hf : c.fine) (hs : c.sz < 2 ^ 40) (hb : b.length < 2 ^ 40) (hq : q < 2 ^ 40) :
    Spec Try.prog 165 [.int .i64 q, .xbox [.sl 3 (c.blocks.map Block.row), .int .i64 ops, z, .bool down], .xbox [.int .i64 k], .xbox [.sl 1 (bytesR b)]] (progC c k (b.take q)).o [.undef, .undef, .undef, .undef] := by
  by_cases h : (b.length : Int) < q
  · have e : b.take q = b := List.take_of_length_le (by omega)
    have e2 : List.take (((b.length : Nat) : Int) - 0).toNat (bytesR b) = bytesR b := by rw [List.take_of_length_le]; simp [bytesR]
    rw [e]
    refine spec_C hmx p_I_DevProgram_1 [] 111 [] ⟨Nat.le_of_ble_eq_true rfl, Nat.le_of_ble_eq_true rfl⟩ rfl rfl ?_
    intro w hP hmd hks hQ
    unfold c_I_DevProgram_1
    simp +decide (maxSteps := 20000000) (disch := omega) only [↓SBK, ↓SBK2, SX, Nat.reduceEqDiff, Nat.reduceAdd, Nat.reduceMul, Nat.reduceSub, ↓reduceIte, Int.reduceNeg, Int.reduceToNat, Int.reducePow, hmd, hks, hQ]
    simp +decide (maxSteps := 20000000) (disch := omega) only [↓SBK, ↓SBK2, SX, Nat.reduceEqDiff, Nat.reduceAdd, Nat.reduceMul, Nat.reduceSub, ↓reduceIte, Int.reduceNeg, Int.reduceToNat, Int.reducePow, hmd, hks, hQ, h, e2]
    (first | refine call_i hP (sI_Program c k b hf hs hb) (.inl ⟨rfl, fun _ hx => nomatch hx⟩) ?_ | refine callH_i hP (sI_Program c k b hf hs hb) (.inl ⟨rfl, fun _ hx => nomatch hx⟩) ?_)
    simp +decide (maxSteps := 20000000) (disch := omega) only [↓SBK, ↓SBK2, SX, Nat.reduceEqDiff, Nat.reduceAdd, Nat.reduceMul, Nat.reduceSub, ↓reduceIte, Int.reduceNeg, Int.reduceToNat, Int.reducePow, hmd, hks, hQ]
  · refine spec_C hmx p_I_DevProgram_1 [] 111 [] ⟨Nat.le_of_ble_eq_true rfl, Nat.le_of_ble_eq_true rfl⟩ rfl rfl ?_
    intro w hP hmd hks hQ
    unfold c_I_DevProgram_1
    simp +decide (maxSteps := 20000000) (disch := omega) only [↓SBK, ↓SBK2, SX, Nat.reduceEqDiff, Nat.reduceAdd, Nat.reduceMul, Nat.reduceSub, ↓reduceIte, Int.reduceNeg, Int.reduceToNat, Int.reducePow, hmd, hks, hQ]
    simp +decide (maxSteps := 20000000) (disch := omega) only [↓SBK, ↓SBK2, SX, Nat.reduceEqDiff, Nat.reduceAdd, Nat.reduceMul, Nat.reduceSub, ↓reduceIte, Int.reduceNeg, Int.reduceToNat, Int.reducePow, hmd, hks, hQ, h, Int.sub_zero, bytesR_take]
    (first | refine call_i hP (sI_Program c k (b.take q) hf hs (by simp; omega)) (.inl ⟨rfl, fun _ hx => nomatch hx⟩) ?_ | refine callH_i hP (sI_Program c k (b.take q) hf hs (by simp; omega)) (.inl ⟨rfl, fun _ hx => nomatch hx⟩) ?_)
    simp +decide (maxSteps := 20000000) (disch := omega) only [↓SBK, ↓SBK2, SX, Nat.reduceEqDiff, Nat.reduceAdd, Nat.reduceMul, Nat.reduceSub, ↓reduceIte, Int.reduceNeg, Int.reduceToNat, Int.reducePow, hmd, hks, hQ]
end Go.Proofs.Ytliklgcfdgdigaa.Awp

namespace Go.Proofs.Ytliklgcfdgdigaa.Awp
open Go.Proofs
set_option linter.unusedSimpArgs false
set_option linter.unusedVariables false
set_option maxRecDepth 100000
set_option maxHeartbeats 20000000

noncomputable def devMay (d : Dev) (code : Int) : Int := if devOk d = true then (if d.down = true ∨ 100000 ≤ d.ops then 10 else code) else 1
theorem devMay_bad {d : Dev} {code : Int} (h : devOk d = false) : devMay d code = 1 := by rw [devMay, if_neg (by simp [h])]
theorem devMay_down {d : Dev} {code : Int} (h : devOk d = true) (h2 : d.down = true ∨ 100000 ≤ d.ops) : devMay d code = 10 := by rw [devMay, if_pos h, if_pos h2]
theorem devMay_go {d : Dev} {code : Int} (h : devOk d = true) (h2 : d.down = false) (h3 : ¬ 100000 ≤ d.ops) : devMay d code = code := by rw [devMay, if_pos h, if_neg (by simp [h2]; omega)]
theorem devOk_info {d : Dev} (h : devOk d = true) : okC d.c ∧ (0 ≤ d.ops ∧ d.ops ≤ 100000) ∧ (∀ f, faultIn d.faults d.ops = some f → (f.kind = 1 ∨ f.kind = 2) ∧ 0 ≤ f.keep ∧ f.keep ≤ 400) ∧ d.faults.length ≤ 20 := by
  unfold devOk at h
  obtain ⟨h1, h⟩ := Bool.and_eq_true_iff.1 h
  obtain ⟨h2, h⟩ := Bool.and_eq_true_iff.1 h
  unfold faultsOk at h
  obtain ⟨h3, h4⟩ := Bool.and_eq_true_iff.1 h
  have h4 := of_decide_eq_true h4
  refine ⟨by simpa [chipOk] using h1, (inR_iff _ _ _).1 h2, ?_, by omega⟩
  intro f hf
  have hm := List.mem_of_find?_eq_some hf
  obtain ⟨i, hi, rfl⟩ := List.getElem_of_mem hm
  rw [faultsIn, List.all_eq_true] at h3
  have := h3 i (by simpa using hi)
  rw [faultOk_at hi] at this
  simp only [Bool.and_eq_true] at this
  obtain ⟨_, k1, k2, _⟩ := this
  have k1 := (inR_iff _ _ _).1 k1
  have k2 := (inR_iff _ _ _).1 k2
  exact ⟨by omega, k2⟩
def goD (d : Dev) (c : Chip) (down : Bool) : Dev := { c := c, ops := d.ops + 1, faults := d.faults, down := down }
noncomputable def devProg (d : Dev) (k : Int) (b : Bytes) : Dev × Int :=
  if devMay d (progCode d.c k b) = 0 then
    match faultIn d.faults d.ops with
    | none => (goD d (progC d.c k b) d.down, 0)
    | some f => if f.kind = 1 then (goD d (badC d.c k.toNat) d.down, 2) else (goD d (progC d.c k (b.take f.keep.toNat)) true, 10)
  else (d, devMay d (progCode d.c k b))
theorem sI_DevProgram (d : Dev) (k : Int) (b : Bytes) (hf : d.fine) (hs : d.sz < 2 ^ 40) (hb : b.length < 2 ^ 40) :
    Spec Try.prog 112 [d.x, .int .i64 k, .ext 1 (bytesR b)] (.tup [(devProg d k b).1.o, .int .i64 (devProg d k b).2]) [.undef, .undef, .undef] := by
  have hO := sI_DevOk d hf
  cases h1 : devOk d with
  | false =>
    rw [h1] at hO
    have e : devProg d k b = (d, 1) := by rw [devProg, devMay_bad h1, if_neg (by decide)]
    rw [e]
    refine spec_C hmx p_I_DevProgram [(164, [.m, .b, .m, .b, .b], [])] 1023 [] ⟨Nat.le_of_ble_eq_true rfl, Nat.le_of_ble_eq_true rfl⟩ rfl rfl ?_
    intro w hP hmd hks hQ
    unfold c_I_DevProgram
    simp +decide (maxSteps := 20000000) (disch := omega) only [↓SBK, ↓SBK2, SX, Nat.reduceEqDiff, Nat.reduceAdd, Nat.reduceMul, Nat.reduceSub, ↓reduceIte, Int.reduceNeg, Int.reduceToNat, Int.reducePow, hmd, hks, hQ]
    (first | refine call_i hP (sI_copyDev d hs) (.inl ⟨rfl, fun _ hx => nomatch hx⟩) ?_ | refine callH_i hP (sI_copyDev d hs) (.inl ⟨rfl, fun _ hx => nomatch hx⟩) ?_)
    simp +decide (maxSteps := 20000000) (disch := omega) only [↓SBK, ↓SBK2, SX, Nat.reduceEqDiff, Nat.reduceAdd, Nat.reduceMul, Nat.reduceSub, ↓reduceIte, Int.reduceNeg, Int.reduceToNat, Int.reducePow, hmd, hks, hQ]
    (first | refine call_i hP (hO) (.inl ⟨rfl, fun _ hx => nomatch hx⟩) ?_ | refine callH_i hP (hO) (.inl ⟨rfl, fun _ hx => nomatch hx⟩) ?_)
    simp +decide (maxSteps := 20000000) (disch := omega) only [↓SBK, ↓SBK2, SX, Nat.reduceEqDiff, Nat.reduceAdd, Nat.reduceMul, Nat.reduceSub, ↓reduceIte, Int.reduceNeg, Int.reduceToNat, Int.reducePow, hmd, hks, hQ]
  | true =>
    rw [h1] at hO
    obtain ⟨hok, ⟨o1, o2⟩, hfa, hfl⟩ := devOk_info h1
    obtain ⟨s1, s2⟩ := dev_sz hs
    have hPr := sI_Program d.c k b hf.1 s1 hb
    cases h2 : d.down with
    | true =>
      have e : devProg d k b = (d, 10) := by rw [devProg, devMay_down h1 (.inl h2), if_neg (by decide)]
      rw [e]
      refine spec_C hmx p_I_DevProgram [(164, [.m, .b, .m, .b, .b], [])] 1023 [] ⟨Nat.le_of_ble_eq_true rfl, Nat.le_of_ble_eq_true rfl⟩ rfl rfl ?_
      intro w hP hmd hks hQ
      unfold c_I_DevProgram
      simp +decide (maxSteps := 20000000) (disch := omega) only [↓SBK, ↓SBK2, SX, Nat.reduceEqDiff, Nat.reduceAdd, Nat.reduceMul, Nat.reduceSub, ↓reduceIte, Int.reduceNeg, Int.reduceToNat, Int.reducePow, hmd, hks, hQ]
      (first | refine call_i hP (sI_copyDev d hs) (.inl ⟨rfl, fun _ hx => nomatch hx⟩) ?_ | refine callH_i hP (sI_copyDev d hs) (.inl ⟨rfl, fun _ hx => nomatch hx⟩) ?_)
      simp +decide (maxSteps := 20000000) (disch := omega) only [↓SBK, ↓SBK2, SX, Nat.reduceEqDiff, Nat.reduceAdd, Nat.reduceMul, Nat.reduceSub, ↓reduceIte, Int.reduceNeg, Int.reduceToNat, Int.reducePow, hmd, hks, hQ]
      (first | refine call_i hP (hO) (.inl ⟨rfl, fun _ hx => nomatch hx⟩) ?_ | refine callH_i hP (hO) (.inl ⟨rfl, fun _ hx => nomatch hx⟩) ?_)
      simp +decide (maxSteps := 20000000) (disch := omega) only [↓SBK, ↓SBK2, SX, Nat.reduceEqDiff, Nat.reduceAdd, Nat.reduceMul, Nat.reduceSub, ↓reduceIte, Int.reduceNeg, Int.reduceToNat, Int.reducePow, hmd, hks, hQ, h2]
    | false =>
      by_cases h3 : d.ops = 100000
      · have d3 : decide (d.ops = 100000) = true := decide_eq_true h3
        have e : devProg d k b = (d, 10) := by rw [devProg, devMay_down h1 (.inr (by omega)), if_neg (by decide)]
        rw [e]
        refine spec_C hmx p_I_DevProgram [(164, [.m, .b, .m, .b, .b], [])] 1023 [] ⟨Nat.le_of_ble_eq_true rfl, Nat.le_of_ble_eq_true rfl⟩ rfl rfl ?_
        intro w hP hmd hks hQ
        unfold c_I_DevProgram
        simp +decide (maxSteps := 20000000) (disch := omega) only [↓SBK, ↓SBK2, SX, Nat.reduceEqDiff, Nat.reduceAdd, Nat.reduceMul, Nat.reduceSub, ↓reduceIte, Int.reduceNeg, Int.reduceToNat, Int.reducePow, hmd, hks, hQ]
        (first | refine call_i hP (sI_copyDev d hs) (.inl ⟨rfl, fun _ hx => nomatch hx⟩) ?_ | refine callH_i hP (sI_copyDev d hs) (.inl ⟨rfl, fun _ hx => nomatch hx⟩) ?_)
        simp +decide (maxSteps := 20000000) (disch := omega) only [↓SBK, ↓SBK2, SX, Nat.reduceEqDiff, Nat.reduceAdd, Nat.reduceMul, Nat.reduceSub, ↓reduceIte, Int.reduceNeg, Int.reduceToNat, Int.reducePow, hmd, hks, hQ]
        (first | refine call_i hP (hO) (.inl ⟨rfl, fun _ hx => nomatch hx⟩) ?_ | refine callH_i hP (hO) (.inl ⟨rfl, fun _ hx => nomatch hx⟩) ?_)
        simp +decide (maxSteps := 20000000) (disch := omega) only [↓SBK, ↓SBK2, SX, Nat.reduceEqDiff, Nat.reduceAdd, Nat.reduceMul, Nat.reduceSub, ↓reduceIte, Int.reduceNeg, Int.reduceToNat, Int.reducePow, hmd, hks, hQ, h2, d3]
      · have d3 : decide (d.ops = 100000) = false := decide_eq_false h3
        have em : devMay d (progCode d.c k b) = progCode d.c k b := devMay_go h1 h2 (by omega)
        by_cases h4 : progCode d.c k b = 0
        · obtain ⟨hb4, j, rfl, hj, b1, _, hu, h8⟩ := prog_info h4
          have eI : devProg d j b = (match faultIn d.faults d.ops with
            | none => (goD d (progC d.c j b) d.down, 0)
            | some f => if f.kind = 1 then (goD d (badC d.c j) d.down, 2) else (goD d (progC d.c j (b.take f.keep.toNat)) true, 10)) := by rw [devProg, em, if_pos h4]; rfl
          rw [h4] at hPr
          cases hfi : faultIn d.faults d.ops with
          | none =>
            rw [hfi] at eI
            simp only at eI
            rw [eI]
            have hfa0 : faultAt d = (zFault, false) := by rw [faultAt, hfi]
            have kb := s_begin2 d j (progC d.c j b) 165 [.xbox [.undef, .int .i64 d.ops, .undef, .bool false], .xbox [.int .i64 j], .xbox [.sl 1 (bytesR b)]] (.inl ⟨_, _, _, rfl⟩) (by omega) ⟨o1, by omega⟩ hfa0
            simp only [Dev.o, h2] at kb
            refine spec_C hmx p_I_DevProgram [(164, [.m, .b, .m, .b, .b], [])] 1023 [] ⟨Nat.le_of_ble_eq_true rfl, Nat.le_of_ble_eq_true rfl⟩ rfl rfl ?_
            intro w hP hmd hks hQ
            unfold c_I_DevProgram
            simp +decide (maxSteps := 20000000) (disch := omega) only [↓SBK, ↓SBK2, SX, Nat.reduceEqDiff, Nat.reduceAdd, Nat.reduceMul, Nat.reduceSub, ↓reduceIte, Int.reduceNeg, Int.reduceToNat, Int.reducePow, hmd, hks, hQ]
            (first | refine call_i hP (sI_copyDev d hs) (.inl ⟨rfl, fun _ hx => nomatch hx⟩) ?_ | refine callH_i hP (sI_copyDev d hs) (.inl ⟨rfl, fun _ hx => nomatch hx⟩) ?_)
            simp +decide (maxSteps := 20000000) (disch := omega) only [↓SBK, ↓SBK2, SX, Nat.reduceEqDiff, Nat.reduceAdd, Nat.reduceMul, Nat.reduceSub, ↓reduceIte, Int.reduceNeg, Int.reduceToNat, Int.reducePow, hmd, hks, hQ]
            (first | refine call_i hP (hO) (.inl ⟨rfl, fun _ hx => nomatch hx⟩) ?_ | refine callH_i hP (hO) (.inl ⟨rfl, fun _ hx => nomatch hx⟩) ?_)
            simp +decide (maxSteps := 20000000) (disch := omega) only [↓SBK, ↓SBK2, SX, Nat.reduceEqDiff, Nat.reduceAdd, Nat.reduceMul, Nat.reduceSub, ↓reduceIte, Int.reduceNeg, Int.reduceToNat, Int.reducePow, hmd, hks, hQ, h2, d3]
            (first | refine call_i hP (hPr) (.inl ⟨rfl, fun _ hx => nomatch hx⟩) ?_ | refine callH_i hP (hPr) (.inl ⟨rfl, fun _ hx => nomatch hx⟩) ?_)
            simp +decide (maxSteps := 20000000) (disch := omega) only [↓SBK, ↓SBK2, SX, Nat.reduceEqDiff, Nat.reduceAdd, Nat.reduceMul, Nat.reduceSub, ↓reduceIte, Int.reduceNeg, Int.reduceToNat, Int.reducePow, hmd, hks, hQ]
            (first | refine call_i hP (kb) (.inl ⟨rfl, fun _ hx => nomatch hx⟩) ?_ | refine callH_i hP (kb) (.inl ⟨rfl, fun _ hx => nomatch hx⟩) ?_)
            simp +decide (maxSteps := 20000000) (disch := omega) only [↓SBK, ↓SBK2, SX, Nat.reduceEqDiff, Nat.reduceAdd, Nat.reduceMul, Nat.reduceSub, ↓reduceIte, Int.reduceNeg, Int.reduceToNat, Int.reducePow, hmd, hks, hQ]
            simp [goD, h2]
          | some f =>
            rw [hfi] at eI
            simp only at eI
            have hfa0 : faultAt d = (f, true) := by rw [faultAt, hfi]
            obtain ⟨q0, q1, q2⟩ := hfa f hfi
            by_cases h5 : f.kind = 1
            · rw [if_pos h5] at eI
              rw [eI]
              have kb := s_begin3 d j (progC d.c j b) 165 [.xbox [.undef, .int .i64 d.ops, .undef, .bool false], .xbox [.int .i64 j], .xbox [.sl 1 (bytesR b)]] (.inl ⟨_, _, _, rfl⟩) (by omega) (by have := chip_l s1; omega) ⟨o1, by omega⟩ hj f hfa0 h5
              simp only [Dev.o, h2] at kb
              refine spec_C hmx p_I_DevProgram [(164, [.m, .b, .m, .b, .b], [])] 1023 [] ⟨Nat.le_of_ble_eq_true rfl, Nat.le_of_ble_eq_true rfl⟩ rfl rfl ?_
              intro w hP hmd hks hQ
              unfold c_I_DevProgram
              simp +decide (maxSteps := 20000000) (disch := omega) only [↓SBK, ↓SBK2, SX, Nat.reduceEqDiff, Nat.reduceAdd, Nat.reduceMul, Nat.reduceSub, ↓reduceIte, Int.reduceNeg, Int.reduceToNat, Int.reducePow, hmd, hks, hQ]
              (first | refine call_i hP (sI_copyDev d hs) (.inl ⟨rfl, fun _ hx => nomatch hx⟩) ?_ | refine callH_i hP (sI_copyDev d hs) (.inl ⟨rfl, fun _ hx => nomatch hx⟩) ?_)
              simp +decide (maxSteps := 20000000) (disch := omega) only [↓SBK, ↓SBK2, SX, Nat.reduceEqDiff, Nat.reduceAdd, Nat.reduceMul, Nat.reduceSub, ↓reduceIte, Int.reduceNeg, Int.reduceToNat, Int.reducePow, hmd, hks, hQ]
              (first | refine call_i hP (hO) (.inl ⟨rfl, fun _ hx => nomatch hx⟩) ?_ | refine callH_i hP (hO) (.inl ⟨rfl, fun _ hx => nomatch hx⟩) ?_)
              simp +decide (maxSteps := 20000000) (disch := omega) only [↓SBK, ↓SBK2, SX, Nat.reduceEqDiff, Nat.reduceAdd, Nat.reduceMul, Nat.reduceSub, ↓reduceIte, Int.reduceNeg, Int.reduceToNat, Int.reducePow, hmd, hks, hQ, h2, d3]
              (first | refine call_i hP (hPr) (.inl ⟨rfl, fun _ hx => nomatch hx⟩) ?_ | refine callH_i hP (hPr) (.inl ⟨rfl, fun _ hx => nomatch hx⟩) ?_)
              simp +decide (maxSteps := 20000000) (disch := omega) only [↓SBK, ↓SBK2, SX, Nat.reduceEqDiff, Nat.reduceAdd, Nat.reduceMul, Nat.reduceSub, ↓reduceIte, Int.reduceNeg, Int.reduceToNat, Int.reducePow, hmd, hks, hQ]
              (first | refine call_i hP (kb) (.inl ⟨rfl, fun _ hx => nomatch hx⟩) ?_ | refine callH_i hP (kb) (.inl ⟨rfl, fun _ hx => nomatch hx⟩) ?_)
              simp +decide (maxSteps := 20000000) (disch := omega) only [↓SBK, ↓SBK2, SX, Nat.reduceEqDiff, Nat.reduceAdd, Nat.reduceMul, Nat.reduceSub, ↓reduceIte, Int.reduceNeg, Int.reduceToNat, Int.reducePow, hmd, hks, hQ]
              simp [goD, h2]
            · rw [if_neg h5] at eI
              rw [eI]
              obtain ⟨q, hq⟩ : ∃ q : Nat, f.keep = q := ⟨f.keep.toNat, by omega⟩
              have kX := sI_DevProgram_1 d.c d.ops .undef false j b q hf.1 s1 hb (by omega)
              rw [← hq] at kX
              have kb := s_begin4 d j (progC d.c j b) (progC d.c j (b.take q)) 165 [.xbox [.sl 3 (d.c.blocks.map Block.row), .int .i64 d.ops, .undef, .bool false], .xbox [.int .i64 j], .xbox [.sl 1 (bytesR b)]] [] (.inl ⟨_, _, _, rfl⟩) (by omega) ⟨o1, by omega⟩ f hfa0 h5 kX
              simp only [Dev.o, h2] at kb
              have hqt : f.keep.toNat = q := by omega
              refine spec_C hmx p_I_DevProgram [(164, [.m, .b, .m, .b, .b], [(32, 0)])] 1023 [] ⟨Nat.le_of_ble_eq_true rfl, Nat.le_of_ble_eq_true rfl⟩ rfl rfl ?_
              intro w hP hmd hks hQ
              unfold c_I_DevProgram
              simp +decide (maxSteps := 20000000) (disch := omega) only [↓SBK, ↓SBK2, SX, Nat.reduceEqDiff, Nat.reduceAdd, Nat.reduceMul, Nat.reduceSub, ↓reduceIte, Int.reduceNeg, Int.reduceToNat, Int.reducePow, hmd, hks, hQ]
              (first | refine call_i hP (sI_copyDev d hs) (.inl ⟨rfl, fun _ hx => nomatch hx⟩) ?_ | refine callH_i hP (sI_copyDev d hs) (.inl ⟨rfl, fun _ hx => nomatch hx⟩) ?_)
              simp +decide (maxSteps := 20000000) (disch := omega) only [↓SBK, ↓SBK2, SX, Nat.reduceEqDiff, Nat.reduceAdd, Nat.reduceMul, Nat.reduceSub, ↓reduceIte, Int.reduceNeg, Int.reduceToNat, Int.reducePow, hmd, hks, hQ]
              (first | refine call_i hP (hO) (.inl ⟨rfl, fun _ hx => nomatch hx⟩) ?_ | refine callH_i hP (hO) (.inl ⟨rfl, fun _ hx => nomatch hx⟩) ?_)
              simp +decide (maxSteps := 20000000) (disch := omega) only [↓SBK, ↓SBK2, SX, Nat.reduceEqDiff, Nat.reduceAdd, Nat.reduceMul, Nat.reduceSub, ↓reduceIte, Int.reduceNeg, Int.reduceToNat, Int.reducePow, hmd, hks, hQ, h2, d3]
              (first | refine call_i hP (hPr) (.inl ⟨rfl, fun _ hx => nomatch hx⟩) ?_ | refine callH_i hP (hPr) (.inl ⟨rfl, fun _ hx => nomatch hx⟩) ?_)
              simp +decide (maxSteps := 20000000) (disch := omega) only [↓SBK, ↓SBK2, SX, Nat.reduceEqDiff, Nat.reduceAdd, Nat.reduceMul, Nat.reduceSub, ↓reduceIte, Int.reduceNeg, Int.reduceToNat, Int.reducePow, hmd, hks, hQ]
              (first | refine call_i hP (kb) (.inl ⟨rfl, fun _ hx => nomatch hx⟩) ?_ | refine callH_i hP (kb) (.inl ⟨rfl, fun _ hx => nomatch hx⟩) ?_)
              simp +decide (maxSteps := 20000000) (disch := omega) only [↓SBK, ↓SBK2, SX, Nat.reduceEqDiff, Nat.reduceAdd, Nat.reduceMul, Nat.reduceSub, ↓reduceIte, Int.reduceNeg, Int.reduceToNat, Int.reducePow, hmd, hks, hQ]
              simp [goD, hqt]
        · have e : devProg d k b = (d, progCode d.c k b) := by rw [devProg, em, if_neg h4]
          rw [e]
          have kb := s_begin1 d k (progC d.c k b) (progCode d.c k b) 165 [.xbox [.undef, .int .i64 d.ops, .undef, .bool false], .xbox [.int .i64 k], .xbox [.sl 1 (bytesR b)]] (.inl ⟨_, _, _, rfl⟩) h4
          simp only [Dev.o, h2] at kb
          refine spec_C hmx p_I_DevProgram [(164, [.m, .b, .m, .b, .b], [])] 1023 [] ⟨Nat.le_of_ble_eq_true rfl, Nat.le_of_ble_eq_true rfl⟩ rfl rfl ?_
          intro w hP hmd hks hQ
          unfold c_I_DevProgram
          simp +decide (maxSteps := 20000000) (disch := omega) only [↓SBK, ↓SBK2, SX, Nat.reduceEqDiff, Nat.reduceAdd, Nat.reduceMul, Nat.reduceSub, ↓reduceIte, Int.reduceNeg, Int.reduceToNat, Int.reducePow, hmd, hks, hQ]
          (first | refine call_i hP (sI_copyDev d hs) (.inl ⟨rfl, fun _ hx => nomatch hx⟩) ?_ | refine callH_i hP (sI_copyDev d hs) (.inl ⟨rfl, fun _ hx => nomatch hx⟩) ?_)
          simp +decide (maxSteps := 20000000) (disch := omega) only [↓SBK, ↓SBK2, SX, Nat.reduceEqDiff, Nat.reduceAdd, Nat.reduceMul, Nat.reduceSub, ↓reduceIte, Int.reduceNeg, Int.reduceToNat, Int.reducePow, hmd, hks, hQ]
          (first | refine call_i hP (hO) (.inl ⟨rfl, fun _ hx => nomatch hx⟩) ?_ | refine callH_i hP (hO) (.inl ⟨rfl, fun _ hx => nomatch hx⟩) ?_)
          simp +decide (maxSteps := 20000000) (disch := omega) only [↓SBK, ↓SBK2, SX, Nat.reduceEqDiff, Nat.reduceAdd, Nat.reduceMul, Nat.reduceSub, ↓reduceIte, Int.reduceNeg, Int.reduceToNat, Int.reducePow, hmd, hks, hQ, h2, d3]
          (first | refine call_i hP (hPr) (.inl ⟨rfl, fun _ hx => nomatch hx⟩) ?_ | refine callH_i hP (hPr) (.inl ⟨rfl, fun _ hx => nomatch hx⟩) ?_)
          simp +decide (maxSteps := 20000000) (disch := omega) only [↓SBK, ↓SBK2, SX, Nat.reduceEqDiff, Nat.reduceAdd, Nat.reduceMul, Nat.reduceSub, ↓reduceIte, Int.reduceNeg, Int.reduceToNat, Int.reducePow, hmd, hks, hQ]
          (first | refine call_i hP (kb) (.inl ⟨rfl, fun _ hx => nomatch hx⟩) ?_ | refine callH_i hP (kb) (.inl ⟨rfl, fun _ hx => nomatch hx⟩) ?_)
          simp +decide (maxSteps := 20000000) (disch := omega) only [↓SBK, ↓SBK2, SX, Nat.reduceEqDiff, Nat.reduceAdd, Nat.reduceMul, Nat.reduceSub, ↓reduceIte, Int.reduceNeg, Int.reduceToNat, Int.reducePow, hmd, hks, hQ, h2]
end Go.Proofs.Ytliklgcfdgdigaa.Awp

namespace Go.Proofs.Ytliklgcfdgdigaa.Awp
open Go.Proofs
set_option linter.unusedSimpArgs false
set_option linter.unusedVariables false
set_option maxRecDepth 100000
set_option maxHeartbeats 20000000

theorem sS_l11May (d : Dev) (code : Int) (hf : d.fine) : Spec Try.prog 166 [d.x, .int .i64 code] (.int .i64 (devMay d code)) [.undef, .undef] := by
  have hO := sS_DevOk d hf
  cases h1 : devOk d with
  | false =>
    rw [h1] at hO
    rw [devMay_bad h1]
    refine spec_C hmx p_S_l11May [] 23 [] ⟨Nat.le_of_ble_eq_true rfl, Nat.le_of_ble_eq_true rfl⟩ rfl rfl ?_
    intro w hP hmd hks hQ
    unfold c_S_l11May
    simp +decide (maxSteps := 20000000) (disch := omega) only [↓SBK, ↓SBK2, SX, Nat.reduceEqDiff, Nat.reduceAdd, Nat.reduceMul, Nat.reduceSub, ↓reduceIte, Int.reduceNeg, Int.reduceToNat, Int.reducePow, hmd, hks, hQ]
    (first | refine call_i hP (hO) (.inl ⟨rfl, fun _ hx => nomatch hx⟩) ?_ | refine callH_i hP (hO) (.inl ⟨rfl, fun _ hx => nomatch hx⟩) ?_)
    simp +decide (maxSteps := 20000000) (disch := omega) only [↓SBK, ↓SBK2, SX, Nat.reduceEqDiff, Nat.reduceAdd, Nat.reduceMul, Nat.reduceSub, ↓reduceIte, Int.reduceNeg, Int.reduceToNat, Int.reducePow, hmd, hks, hQ]
  | true =>
    rw [h1] at hO
    cases h2 : d.down with
    | true =>
      rw [devMay_down h1 (.inl h2)]
      refine spec_C hmx p_S_l11May [] 23 [] ⟨Nat.le_of_ble_eq_true rfl, Nat.le_of_ble_eq_true rfl⟩ rfl rfl ?_
      intro w hP hmd hks hQ
      unfold c_S_l11May
      simp +decide (maxSteps := 20000000) (disch := omega) only [↓SBK, ↓SBK2, SX, Nat.reduceEqDiff, Nat.reduceAdd, Nat.reduceMul, Nat.reduceSub, ↓reduceIte, Int.reduceNeg, Int.reduceToNat, Int.reducePow, hmd, hks, hQ]
      (first | refine call_i hP (hO) (.inl ⟨rfl, fun _ hx => nomatch hx⟩) ?_ | refine callH_i hP (hO) (.inl ⟨rfl, fun _ hx => nomatch hx⟩) ?_)
      simp +decide (maxSteps := 20000000) (disch := omega) only [↓SBK, ↓SBK2, SX, Nat.reduceEqDiff, Nat.reduceAdd, Nat.reduceMul, Nat.reduceSub, ↓reduceIte, Int.reduceNeg, Int.reduceToNat, Int.reducePow, hmd, hks, hQ, h2]
    | false =>
      by_cases h3 : 100000 ≤ d.ops
      · have d3 : decide (100000 ≤ d.ops) = true := decide_eq_true h3
        rw [devMay_down h1 (.inr h3)]
        refine spec_C hmx p_S_l11May [] 23 [] ⟨Nat.le_of_ble_eq_true rfl, Nat.le_of_ble_eq_true rfl⟩ rfl rfl ?_
        intro w hP hmd hks hQ
        unfold c_S_l11May
        simp +decide (maxSteps := 20000000) (disch := omega) only [↓SBK, ↓SBK2, SX, Nat.reduceEqDiff, Nat.reduceAdd, Nat.reduceMul, Nat.reduceSub, ↓reduceIte, Int.reduceNeg, Int.reduceToNat, Int.reducePow, hmd, hks, hQ]
        (first | refine call_i hP (hO) (.inl ⟨rfl, fun _ hx => nomatch hx⟩) ?_ | refine callH_i hP (hO) (.inl ⟨rfl, fun _ hx => nomatch hx⟩) ?_)
        simp +decide (maxSteps := 20000000) (disch := omega) only [↓SBK, ↓SBK2, SX, Nat.reduceEqDiff, Nat.reduceAdd, Nat.reduceMul, Nat.reduceSub, ↓reduceIte, Int.reduceNeg, Int.reduceToNat, Int.reducePow, hmd, hks, hQ, h2, d3]
      · have d3 : decide (100000 ≤ d.ops) = false := decide_eq_false h3
        rw [devMay_go h1 h2 h3]
        refine spec_C hmx p_S_l11May [] 23 [] ⟨Nat.le_of_ble_eq_true rfl, Nat.le_of_ble_eq_true rfl⟩ rfl rfl ?_
        intro w hP hmd hks hQ
        unfold c_S_l11May
        simp +decide (maxSteps := 20000000) (disch := omega) only [↓SBK, ↓SBK2, SX, Nat.reduceEqDiff, Nat.reduceAdd, Nat.reduceMul, Nat.reduceSub, ↓reduceIte, Int.reduceNeg, Int.reduceToNat, Int.reducePow, hmd, hks, hQ]
        (first | refine call_i hP (hO) (.inl ⟨rfl, fun _ hx => nomatch hx⟩) ?_ | refine callH_i hP (hO) (.inl ⟨rfl, fun _ hx => nomatch hx⟩) ?_)
        simp +decide (maxSteps := 20000000) (disch := omega) only [↓SBK, ↓SBK2, SX, Nat.reduceEqDiff, Nat.reduceAdd, Nat.reduceMul, Nat.reduceSub, ↓reduceIte, Int.reduceNeg, Int.reduceToNat, Int.reducePow, hmd, hks, hQ, h2, d3]
theorem devMay_zero {d : Dev} {code : Int} (h : devMay d code = 0) : devOk d = true ∧ d.down = false ∧ ¬ 100000 ≤ d.ops ∧ code = 0 := by
  cases h1 : devOk d with
  | false => rw [devMay_bad h1] at h; cases h
  | true =>
    cases h2 : d.down with
    | true => rw [devMay_down h1 (.inl h2)] at h; cases h
    | false =>
      by_cases h3 : 100000 ≤ d.ops
      · rw [devMay_down h1 (.inr h3)] at h; cases h
      · rw [devMay_go h1 h2 h3] at h; exact ⟨rfl, rfl, h3, h⟩
theorem sS_DevProgram (d : Dev) (k : Int) (b : Bytes) (hf : d.fine) (hs : d.sz < 2 ^ 40) (hb : b.length < 2 ^ 40) :
    Spec Try.prog 113 [d.x, .int .i64 k, .ext 1 (bytesR b)] (.tup [(devProg d k b).1.o, .int .i64 (devProg d k b).2]) [.undef, .undef, .undef] := by
  obtain ⟨s1, s2⟩ := dev_sz hs
  have hPc := sS_l10Program d.c k b hf.1 s1 (by omega)
  have hM := sS_l11May d (progCode d.c k b) hf
  by_cases h0 : devMay d (progCode d.c k b) = 0
  · obtain ⟨h1, h2, h3, h4⟩ := devMay_zero h0
    obtain ⟨hok, ⟨o1, o2⟩, hfa, hfl⟩ := devOk_info h1
    obtain ⟨hb4, j, rfl, hj, b1, _, hu, h8⟩ := prog_info h4
    have hj' : (j : Int) < (d.c.blocks.length : Nat) := by omega
    have hcl := chip_l s1
    have eI : devProg d j b = (match faultIn d.faults d.ops with
      | none => (goD d (progC d.c j b) d.down, 0)
      | some f => if f.kind = 1 then (goD d (badC d.c j) d.down, 2) else (goD d (progC d.c j (b.take f.keep.toNat)) true, 10)) := by rw [devProg, if_pos h0]; rfl
    have hF := sS_FaultAt d (by omega)
    rw [h0] at hM
    cases hfi : faultIn d.faults d.ops with
    | none =>
      rw [hfi] at eI
      simp only at eI
      rw [eI]
      have hfa0 : faultAt d = (zFault, false) := by rw [faultAt, hfi]
      rw [hfa0] at hF
      have hP1 := sS_Program d.c j b hf.1 s1 hb
      have e2 : List.take (((b.length : Nat) : Int) - 0).toNat (bytesR b) = bytesR b := by rw [List.take_of_length_le]; simp [bytesR]
      refine spec_C hmx p_S_DevProgram [] 8143 [] ⟨Nat.le_of_ble_eq_true rfl, Nat.le_of_ble_eq_true rfl⟩ rfl rfl ?_
      intro w hP hmd hks hQ
      unfold c_S_DevProgram
      simp +decide (maxSteps := 20000000) (disch := omega) only [↓SBK, ↓SBK2, SX, Nat.reduceEqDiff, Nat.reduceAdd, Nat.reduceMul, Nat.reduceSub, ↓reduceIte, Int.reduceNeg, Int.reduceToNat, Int.reducePow, hmd, hks, hQ]
      (first | refine call_i hP (sS_l11Copy d hs) (.inl ⟨rfl, fun _ hx => nomatch hx⟩) ?_ | refine callH_i hP (sS_l11Copy d hs) (.inl ⟨rfl, fun _ hx => nomatch hx⟩) ?_)
      simp +decide (maxSteps := 20000000) (disch := omega) only [↓SBK, ↓SBK2, SX, Nat.reduceEqDiff, Nat.reduceAdd, Nat.reduceMul, Nat.reduceSub, ↓reduceIte, Int.reduceNeg, Int.reduceToNat, Int.reducePow, hmd, hks, hQ]
      (first | refine call_i hP (hPc) (.inl ⟨rfl, fun _ hx => nomatch hx⟩) ?_ | refine callH_i hP (hPc) (.inl ⟨rfl, fun _ hx => nomatch hx⟩) ?_)
      simp +decide (maxSteps := 20000000) (disch := omega) only [↓SBK, ↓SBK2, SX, Nat.reduceEqDiff, Nat.reduceAdd, Nat.reduceMul, Nat.reduceSub, ↓reduceIte, Int.reduceNeg, Int.reduceToNat, Int.reducePow, hmd, hks, hQ]
      (first | refine call_i hP (hM) (.inl ⟨rfl, fun _ hx => nomatch hx⟩) ?_ | refine callH_i hP (hM) (.inl ⟨rfl, fun _ hx => nomatch hx⟩) ?_)
      simp +decide (maxSteps := 20000000) (disch := omega) only [↓SBK, ↓SBK2, SX, Nat.reduceEqDiff, Nat.reduceAdd, Nat.reduceMul, Nat.reduceSub, ↓reduceIte, Int.reduceNeg, Int.reduceToNat, Int.reducePow, hmd, hks, hQ]
      (first | refine call_i hP (hF) (.inl ⟨rfl, fun _ hx => nomatch hx⟩) ?_ | refine callH_i hP (hF) (.inl ⟨rfl, fun _ hx => nomatch hx⟩) ?_)
      simp +decide (maxSteps := 20000000) (disch := omega) only [↓SBK, ↓SBK2, SX, Nat.reduceEqDiff, Nat.reduceAdd, Nat.reduceMul, Nat.reduceSub, ↓reduceIte, Int.reduceNeg, Int.reduceToNat, Int.reducePow, hmd, hks, hQ, e2]
      (first | refine call_i hP (hP1) (.inl ⟨rfl, fun _ hx => nomatch hx⟩) ?_ | refine callH_i hP (hP1) (.inl ⟨rfl, fun _ hx => nomatch hx⟩) ?_)
      simp +decide (maxSteps := 20000000) (disch := omega) only [↓SBK, ↓SBK2, SX, Nat.reduceEqDiff, Nat.reduceAdd, Nat.reduceMul, Nat.reduceSub, ↓reduceIte, Int.reduceNeg, Int.reduceToNat, Int.reducePow, hmd, hks, hQ]
      simp [goD, h2]
    | some f =>
      rw [hfi] at eI
      simp only at eI
      have hfa0 : faultAt d = (f, true) := by rw [faultAt, hfi]
      rw [hfa0] at hF
      obtain ⟨q0, q1, q2⟩ := hfa f hfi
      by_cases h5 : f.kind = 1
      · rw [if_pos h5] at eI
        rw [eI]
        have dk : decide (f.kind = 1) = true := decide_eq_true h5
        refine spec_C hmx p_S_DevProgram [] 8143 [] ⟨Nat.le_of_ble_eq_true rfl, Nat.le_of_ble_eq_true rfl⟩ rfl rfl ?_
        intro w hP hmd hks hQ
        unfold c_S_DevProgram
        simp +decide (maxSteps := 20000000) (disch := omega) only [↓SBK, ↓SBK2, SX, Nat.reduceEqDiff, Nat.reduceAdd, Nat.reduceMul, Nat.reduceSub, ↓reduceIte, Int.reduceNeg, Int.reduceToNat, Int.reducePow, hmd, hks, hQ]
        (first | refine call_i hP (sS_l11Copy d hs) (.inl ⟨rfl, fun _ hx => nomatch hx⟩) ?_ | refine callH_i hP (sS_l11Copy d hs) (.inl ⟨rfl, fun _ hx => nomatch hx⟩) ?_)
        simp +decide (maxSteps := 20000000) (disch := omega) only [↓SBK, ↓SBK2, SX, Nat.reduceEqDiff, Nat.reduceAdd, Nat.reduceMul, Nat.reduceSub, ↓reduceIte, Int.reduceNeg, Int.reduceToNat, Int.reducePow, hmd, hks, hQ]
        (first | refine call_i hP (hPc) (.inl ⟨rfl, fun _ hx => nomatch hx⟩) ?_ | refine callH_i hP (hPc) (.inl ⟨rfl, fun _ hx => nomatch hx⟩) ?_)
        simp +decide (maxSteps := 20000000) (disch := omega) only [↓SBK, ↓SBK2, SX, Nat.reduceEqDiff, Nat.reduceAdd, Nat.reduceMul, Nat.reduceSub, ↓reduceIte, Int.reduceNeg, Int.reduceToNat, Int.reducePow, hmd, hks, hQ]
        (first | refine call_i hP (hM) (.inl ⟨rfl, fun _ hx => nomatch hx⟩) ?_ | refine callH_i hP (hM) (.inl ⟨rfl, fun _ hx => nomatch hx⟩) ?_)
        simp +decide (maxSteps := 20000000) (disch := omega) only [↓SBK, ↓SBK2, SX, Nat.reduceEqDiff, Nat.reduceAdd, Nat.reduceMul, Nat.reduceSub, ↓reduceIte, Int.reduceNeg, Int.reduceToNat, Int.reducePow, hmd, hks, hQ]
        (first | refine call_i hP (hF) (.inl ⟨rfl, fun _ hx => nomatch hx⟩) ?_ | refine callH_i hP (hF) (.inl ⟨rfl, fun _ hx => nomatch hx⟩) ?_)
        simp +decide (maxSteps := 20000000) (disch := omega) only [↓SBK, ↓SBK2, SX, Nat.reduceEqDiff, Nat.reduceAdd, Nat.reduceMul, Nat.reduceSub, ↓reduceIte, Int.reduceNeg, Int.reduceToNat, Int.reducePow, hmd, hks, hQ, dk, getE hj']
        rw [bad_rows _ _ hj]
        simp [goD, badC]
      · rw [if_neg h5] at eI
        rw [eI]
        have dk : decide (f.kind = 1) = false := decide_eq_false h5
        obtain ⟨q, hq⟩ : ∃ q : Nat, f.keep = q := ⟨f.keep.toNat, by omega⟩
        have hqt : f.keep.toNat = q := by omega
        have hPx := sS_Program d.c j (b.take q) hf.1 s1 (by simp; omega)
        by_cases h6 : (q : Int) < (b.length : Nat)
        · have d6 : decide ((q : Int) < (b.length : Nat)) = true := decide_eq_true h6
          refine spec_C hmx p_S_DevProgram [] 8143 [] ⟨Nat.le_of_ble_eq_true rfl, Nat.le_of_ble_eq_true rfl⟩ rfl rfl ?_
          intro w hP hmd hks hQ
          unfold c_S_DevProgram
          simp +decide (maxSteps := 20000000) (disch := omega) only [↓SBK, ↓SBK2, SX, Nat.reduceEqDiff, Nat.reduceAdd, Nat.reduceMul, Nat.reduceSub, ↓reduceIte, Int.reduceNeg, Int.reduceToNat, Int.reducePow, hmd, hks, hQ]
          (first | refine call_i hP (sS_l11Copy d hs) (.inl ⟨rfl, fun _ hx => nomatch hx⟩) ?_ | refine callH_i hP (sS_l11Copy d hs) (.inl ⟨rfl, fun _ hx => nomatch hx⟩) ?_)
          simp +decide (maxSteps := 20000000) (disch := omega) only [↓SBK, ↓SBK2, SX, Nat.reduceEqDiff, Nat.reduceAdd, Nat.reduceMul, Nat.reduceSub, ↓reduceIte, Int.reduceNeg, Int.reduceToNat, Int.reducePow, hmd, hks, hQ]
          (first | refine call_i hP (hPc) (.inl ⟨rfl, fun _ hx => nomatch hx⟩) ?_ | refine callH_i hP (hPc) (.inl ⟨rfl, fun _ hx => nomatch hx⟩) ?_)
          simp +decide (maxSteps := 20000000) (disch := omega) only [↓SBK, ↓SBK2, SX, Nat.reduceEqDiff, Nat.reduceAdd, Nat.reduceMul, Nat.reduceSub, ↓reduceIte, Int.reduceNeg, Int.reduceToNat, Int.reducePow, hmd, hks, hQ]
          (first | refine call_i hP (hM) (.inl ⟨rfl, fun _ hx => nomatch hx⟩) ?_ | refine callH_i hP (hM) (.inl ⟨rfl, fun _ hx => nomatch hx⟩) ?_)
          simp +decide (maxSteps := 20000000) (disch := omega) only [↓SBK, ↓SBK2, SX, Nat.reduceEqDiff, Nat.reduceAdd, Nat.reduceMul, Nat.reduceSub, ↓reduceIte, Int.reduceNeg, Int.reduceToNat, Int.reducePow, hmd, hks, hQ]
          (first | refine call_i hP (hF) (.inl ⟨rfl, fun _ hx => nomatch hx⟩) ?_ | refine callH_i hP (hF) (.inl ⟨rfl, fun _ hx => nomatch hx⟩) ?_)
          simp +decide (maxSteps := 20000000) (disch := omega) only [↓SBK, ↓SBK2, SX, Nat.reduceEqDiff, Nat.reduceAdd, Nat.reduceMul, Nat.reduceSub, ↓reduceIte, Int.reduceNeg, Int.reduceToNat, Int.reducePow, hmd, hks, hQ, dk, hq, d6, Int.sub_zero, bytesR_take]
          (first | refine call_i hP (hPx) (.inl ⟨rfl, fun _ hx => nomatch hx⟩) ?_ | refine callH_i hP (hPx) (.inl ⟨rfl, fun _ hx => nomatch hx⟩) ?_)
          simp +decide (maxSteps := 20000000) (disch := omega) only [↓SBK, ↓SBK2, SX, Nat.reduceEqDiff, Nat.reduceAdd, Nat.reduceMul, Nat.reduceSub, ↓reduceIte, Int.reduceNeg, Int.reduceToNat, Int.reducePow, hmd, hks, hQ]
          simp [goD, hqt]
        · have d6 : decide ((q : Int) < (b.length : Nat)) = false := decide_eq_false h6
          have e : b.take q = b := List.take_of_length_le (by omega)
          rw [e] at hPx
          have e2 : List.take (((b.length : Nat) : Int) - 0).toNat (bytesR b) = bytesR b := by rw [List.take_of_length_le]; simp [bytesR]
          refine spec_C hmx p_S_DevProgram [] 8143 [] ⟨Nat.le_of_ble_eq_true rfl, Nat.le_of_ble_eq_true rfl⟩ rfl rfl ?_
          intro w hP hmd hks hQ
          unfold c_S_DevProgram
          simp +decide (maxSteps := 20000000) (disch := omega) only [↓SBK, ↓SBK2, SX, Nat.reduceEqDiff, Nat.reduceAdd, Nat.reduceMul, Nat.reduceSub, ↓reduceIte, Int.reduceNeg, Int.reduceToNat, Int.reducePow, hmd, hks, hQ]
          (first | refine call_i hP (sS_l11Copy d hs) (.inl ⟨rfl, fun _ hx => nomatch hx⟩) ?_ | refine callH_i hP (sS_l11Copy d hs) (.inl ⟨rfl, fun _ hx => nomatch hx⟩) ?_)
          simp +decide (maxSteps := 20000000) (disch := omega) only [↓SBK, ↓SBK2, SX, Nat.reduceEqDiff, Nat.reduceAdd, Nat.reduceMul, Nat.reduceSub, ↓reduceIte, Int.reduceNeg, Int.reduceToNat, Int.reducePow, hmd, hks, hQ]
          (first | refine call_i hP (hPc) (.inl ⟨rfl, fun _ hx => nomatch hx⟩) ?_ | refine callH_i hP (hPc) (.inl ⟨rfl, fun _ hx => nomatch hx⟩) ?_)
          simp +decide (maxSteps := 20000000) (disch := omega) only [↓SBK, ↓SBK2, SX, Nat.reduceEqDiff, Nat.reduceAdd, Nat.reduceMul, Nat.reduceSub, ↓reduceIte, Int.reduceNeg, Int.reduceToNat, Int.reducePow, hmd, hks, hQ]
          (first | refine call_i hP (hM) (.inl ⟨rfl, fun _ hx => nomatch hx⟩) ?_ | refine callH_i hP (hM) (.inl ⟨rfl, fun _ hx => nomatch hx⟩) ?_)
          simp +decide (maxSteps := 20000000) (disch := omega) only [↓SBK, ↓SBK2, SX, Nat.reduceEqDiff, Nat.reduceAdd, Nat.reduceMul, Nat.reduceSub, ↓reduceIte, Int.reduceNeg, Int.reduceToNat, Int.reducePow, hmd, hks, hQ]
          (first | refine call_i hP (hF) (.inl ⟨rfl, fun _ hx => nomatch hx⟩) ?_ | refine callH_i hP (hF) (.inl ⟨rfl, fun _ hx => nomatch hx⟩) ?_)
          simp +decide (maxSteps := 20000000) (disch := omega) only [↓SBK, ↓SBK2, SX, Nat.reduceEqDiff, Nat.reduceAdd, Nat.reduceMul, Nat.reduceSub, ↓reduceIte, Int.reduceNeg, Int.reduceToNat, Int.reducePow, hmd, hks, hQ, dk, hq, d6, e2]
          (first | refine call_i hP (hPx) (.inl ⟨rfl, fun _ hx => nomatch hx⟩) ?_ | refine callH_i hP (hPx) (.inl ⟨rfl, fun _ hx => nomatch hx⟩) ?_)
          simp +decide (maxSteps := 20000000) (disch := omega) only [↓SBK, ↓SBK2, SX, Nat.reduceEqDiff, Nat.reduceAdd, Nat.reduceMul, Nat.reduceSub, ↓reduceIte, Int.reduceNeg, Int.reduceToNat, Int.reducePow, hmd, hks, hQ]
          simp [goD, hqt, e]
  · have d0 : decide (devMay d (progCode d.c k b) = 0) = false := decide_eq_false h0
    have e : devProg d k b = (d, devMay d (progCode d.c k b)) := by rw [devProg, if_neg h0]
    rw [e]
    refine spec_C hmx p_S_DevProgram [] 8143 [] ⟨Nat.le_of_ble_eq_true rfl, Nat.le_of_ble_eq_true rfl⟩ rfl rfl ?_
    intro w hP hmd hks hQ
    unfold c_S_DevProgram
    simp +decide (maxSteps := 20000000) (disch := omega) only [↓SBK, ↓SBK2, SX, Nat.reduceEqDiff, Nat.reduceAdd, Nat.reduceMul, Nat.reduceSub, ↓reduceIte, Int.reduceNeg, Int.reduceToNat, Int.reducePow, hmd, hks, hQ]
    (first | refine call_i hP (sS_l11Copy d hs) (.inl ⟨rfl, fun _ hx => nomatch hx⟩) ?_ | refine callH_i hP (sS_l11Copy d hs) (.inl ⟨rfl, fun _ hx => nomatch hx⟩) ?_)
    simp +decide (maxSteps := 20000000) (disch := omega) only [↓SBK, ↓SBK2, SX, Nat.reduceEqDiff, Nat.reduceAdd, Nat.reduceMul, Nat.reduceSub, ↓reduceIte, Int.reduceNeg, Int.reduceToNat, Int.reducePow, hmd, hks, hQ]
    (first | refine call_i hP (hPc) (.inl ⟨rfl, fun _ hx => nomatch hx⟩) ?_ | refine callH_i hP (hPc) (.inl ⟨rfl, fun _ hx => nomatch hx⟩) ?_)
    simp +decide (maxSteps := 20000000) (disch := omega) only [↓SBK, ↓SBK2, SX, Nat.reduceEqDiff, Nat.reduceAdd, Nat.reduceMul, Nat.reduceSub, ↓reduceIte, Int.reduceNeg, Int.reduceToNat, Int.reducePow, hmd, hks, hQ]
    (first | refine call_i hP (hM) (.inl ⟨rfl, fun _ hx => nomatch hx⟩) ?_ | refine callH_i hP (hM) (.inl ⟨rfl, fun _ hx => nomatch hx⟩) ?_)
    simp +decide (maxSteps := 20000000) (disch := omega) only [↓SBK, ↓SBK2, SX, Nat.reduceEqDiff, Nat.reduceAdd, Nat.reduceMul, Nat.reduceSub, ↓reduceIte, Int.reduceNeg, Int.reduceToNat, Int.reducePow, hmd, hks, hQ, d0]
end Go.Proofs.Ytliklgcfdgdigaa.Awp

namespace Go.Proofs.Ytliklgcfdgdigaa.Awp
open Go.Proofs
set_option linter.unusedSimpArgs false
set_option linter.unusedVariables false
set_option maxRecDepth 100000
set_option maxHeartbeats 20000000

theorem badC_sz (c : Chip) (j : Nat) : (badC c j).sz ≤ c.sz := by
  by_cases hj : j < c.blocks.length
  · have := sum_modify2 Block.sz badB 0 c.blocks j hj (Nat.le_refl _)
    have e1 : (badC c j).sz = (c.blocks.modify j badB).length + ((c.blocks.modify j badB).map Block.sz).sum := rfl
    have e2 : c.sz = c.blocks.length + (c.blocks.map Block.sz).sum := rfl
    rw [e1, e2, List.length_modify]
    omega
  · have e : c.blocks.modify j badB = c.blocks := by
      apply List.ext_getElem?
      intro i
      rw [List.getElem?_modify]
      by_cases h : j = i
      · subst h; rw [List.getElem?_eq_none (by omega)]; rfl
      · simp [h]
    have e1 : badC c j = c := by unfold badC; rw [e]
    rw [e1]
    exact Nat.le_refl _
theorem devProg_sz (d : Dev) (k : Int) (b : Bytes) : (devProg d k b).1.sz ≤ d.sz + b.length := by
  have e0 : d.sz = d.c.sz + d.faults.length := rfl
  have eg : ∀ c x, (goD d c x).sz = c.sz + d.faults.length := fun _ _ => rfl
  unfold devProg
  split
  · split
    · have := progC_sz d.c k b
      rw [eg]; omega
    · split
      · have := badC_sz d.c k.toNat
        rw [eg]; omega
      · rename_i f _ _
        have := progC_sz d.c k (b.take f.keep.toNat)
        have h2 : (b.take f.keep.toNat).length ≤ b.length := by simp; omega
        rw [eg]; omega
  · simp only; omega
theorem s_FnExactDevProgram (r : Dev) (i : Int) (b : Bytes) (hf : r.fine) (hbf : b.length < 2 ^ 48) : Spec Try.prog 31 [r.x, .int .i64 i, .ext 1 (bytesR b)] (.bool true) [.undef, .undef, .undef] := by
  by_cases hy : (1048576 : Int) < (b.length : Nat)
  · have dy : decide ((1048576 : Int) < ((b.length : Nat) : Int)) = true := decide_eq_true hy
    refine spec_C hmx p_L_FnExactDevProgram [] 524239 [] ⟨Nat.le_of_ble_eq_true rfl, Nat.le_of_ble_eq_true rfl⟩ rfl rfl ?_
    intro w hP hmd hks hQ
    unfold c_L_FnExactDevProgram
    simp +decide (maxSteps := 20000000) (disch := omega) only [↓SBK, ↓SBK2, SX, Nat.reduceEqDiff, Nat.reduceAdd, Nat.reduceMul, Nat.reduceSub, ↓reduceIte, Int.reduceNeg, Int.reduceToNat, Int.reducePow, hmd, hks, hQ]
    simp +decide (maxSteps := 20000000) (disch := omega) only [↓SBK, ↓SBK2, SX, Nat.reduceEqDiff, Nat.reduceAdd, Nat.reduceMul, Nat.reduceSub, ↓reduceIte, Int.reduceNeg, Int.reduceToNat, Int.reducePow, hmd, hks, hQ, dy]
  have dy : decide ((1048576 : Int) < ((b.length : Nat) : Int)) = false := decide_eq_false hy
  by_cases hz : (1048576 : Int) < (r.sz : Nat)
  · refine spec_C hmx p_L_FnExactDevProgram [] 524239 [] ⟨Nat.le_of_ble_eq_true rfl, Nat.le_of_ble_eq_true rfl⟩ rfl rfl ?_
    intro w hP hmd hks hQ
    unfold c_L_FnExactDevProgram
    simp +decide (maxSteps := 20000000) (disch := omega) only [↓SBK, ↓SBK2, SX, Nat.reduceEqDiff, Nat.reduceAdd, Nat.reduceMul, Nat.reduceSub, ↓reduceIte, Int.reduceNeg, Int.reduceToNat, Int.reducePow, hmd, hks, hQ]
    simp +decide (maxSteps := 20000000) (disch := omega) only [↓SBK, ↓SBK2, SX, Nat.reduceEqDiff, Nat.reduceAdd, Nat.reduceMul, Nat.reduceSub, ↓reduceIte, Int.reduceNeg, Int.reduceToNat, Int.reducePow, hmd, hks, hQ, dy]
    (first | refine call_i hP (s_szDev r 1048576 hf (by omega) (by omega)) (.inl ⟨rfl, fun _ hx => nomatch hx⟩) ?_ | refine callH_i hP (s_szDev r 1048576 hf (by omega) (by omega)) (.inl ⟨rfl, fun _ hx => nomatch hx⟩) ?_)
    simp +decide (maxSteps := 20000000) (disch := omega) only [↓SBK, ↓SBK2, SX, Nat.reduceEqDiff, Nat.reduceAdd, Nat.reduceMul, Nat.reduceSub, ↓reduceIte, Int.reduceNeg, Int.reduceToNat, Int.reducePow, hmd, hks, hQ, szC_lt hz]
  · have hs : r.sz < 2 ^ 40 := by omega
    have hb : b.length < 2 ^ 40 := by omega
    have hp := devProg_sz r i b
    have hs' : (devProg r i b).1.sz < 2 ^ 40 := by omega
    have hd : r.cntT < 2 ^ 38 := by have := dev_cnt r; omega
    have hd' : (devProg r i b).1.cntT < 2 ^ 38 := by have := dev_cnt (devProg r i b).1; omega
    have g0 : decide (1 + ((r.cntT : Nat) : Int) + ((b.length : Nat) : Int) < 0) = false := decide_eq_false (by omega)
    have g1 : decide (1 + (((devProg r i b).1.cntT : Nat) : Int) < 0) = false := decide_eq_false (by omega)
    have hS := sS_DevProgram r i b hf hs hb
    have hI := sI_DevProgram r i b hf hs hb
    generalize (devProg r i b).1 = D at *
    generalize (devProg r i b).2 = x at *
    refine spec_C hmx p_L_FnExactDevProgram [(107, [.p, .b], []), (46, [.l, .b], [])] 524239 [] ⟨Nat.le_of_ble_eq_true rfl, Nat.le_of_ble_eq_true rfl⟩ rfl rfl ?_
    intro w hP hmd hks hQ
    unfold c_L_FnExactDevProgram
    simp +decide (maxSteps := 20000000) (disch := omega) only [↓SBK, ↓SBK2, SX, Nat.reduceEqDiff, Nat.reduceAdd, Nat.reduceMul, Nat.reduceSub, ↓reduceIte, Int.reduceNeg, Int.reduceToNat, Int.reducePow, hmd, hks, hQ]
    simp +decide (maxSteps := 20000000) (disch := omega) only [↓SBK, ↓SBK2, SX, Nat.reduceEqDiff, Nat.reduceAdd, Nat.reduceMul, Nat.reduceSub, ↓reduceIte, Int.reduceNeg, Int.reduceToNat, Int.reducePow, hmd, hks, hQ, dy]
    (first | refine call_i hP (s_szDev r 1048576 hf (by omega) (by omega)) (.inl ⟨rfl, fun _ hx => nomatch hx⟩) ?_ | refine callH_i hP (s_szDev r 1048576 hf (by omega) (by omega)) (.inl ⟨rfl, fun _ hx => nomatch hx⟩) ?_)
    simp +decide (maxSteps := 20000000) (disch := omega) only [↓SBK, ↓SBK2, SX, Nat.reduceEqDiff, Nat.reduceAdd, Nat.reduceMul, Nat.reduceSub, ↓reduceIte, Int.reduceNeg, Int.reduceToNat, Int.reducePow, hmd, hks, hQ, szC_ge hz]
    (first | with_reducible refine if_d _ ?_ ?_ | refine if_i _ ?_ ?_) <;> intro h
    · exfalso; omega
    simp +decide (maxSteps := 20000000) (disch := omega) only [↓SBK, ↓SBK2, SX, Nat.reduceEqDiff, Nat.reduceAdd, Nat.reduceMul, Nat.reduceSub, ↓reduceIte, Int.reduceNeg, Int.reduceToNat, Int.reducePow, hmd, hks, hQ]
    (first | refine call_i hP (s_toDev r hs) (.inl ⟨rfl, fun _ hx => nomatch hx⟩) ?_ | refine callH_i hP (s_toDev r hs) (.inl ⟨rfl, fun _ hx => nomatch hx⟩) ?_)
    simp +decide (maxSteps := 20000000) (disch := omega) only [↓SBK, ↓SBK2, SX, Nat.reduceEqDiff, Nat.reduceAdd, Nat.reduceMul, Nat.reduceSub, ↓reduceIte, Int.reduceNeg, Int.reduceToNat, Int.reducePow, hmd, hks, hQ]
    (first | refine call_i hP (s_toByteS b hb) (.inl ⟨rfl, fun _ hx => nomatch hx⟩) ?_ | refine callH_i hP (s_toByteS b hb) (.inl ⟨rfl, fun _ hx => nomatch hx⟩) ?_)
    simp +decide (maxSteps := 20000000) (disch := omega) only [↓SBK, ↓SBK2, SX, Nat.reduceEqDiff, Nat.reduceAdd, Nat.reduceMul, Nat.reduceSub, ↓reduceIte, Int.reduceNeg, Int.reduceToNat, Int.reducePow, hmd, hks, hQ]
    (first | refine call_i hP (hS) (.inl ⟨rfl, fun _ hx => nomatch hx⟩) ?_ | refine callH_i hP (hS) (.inl ⟨rfl, fun _ hx => nomatch hx⟩) ?_)
    simp +decide (maxSteps := 20000000) (disch := omega) only [↓SBK, ↓SBK2, SX, Nat.reduceEqDiff, Nat.reduceAdd, Nat.reduceMul, Nat.reduceSub, ↓reduceIte, Int.reduceNeg, Int.reduceToNat, Int.reducePow, hmd, hks, hQ]
    (first | refine call_i hP (s_toDev r hs) (.inl ⟨rfl, fun _ hx => nomatch hx⟩) ?_ | refine callH_i hP (s_toDev r hs) (.inl ⟨rfl, fun _ hx => nomatch hx⟩) ?_)
    simp +decide (maxSteps := 20000000) (disch := omega) only [↓SBK, ↓SBK2, SX, Nat.reduceEqDiff, Nat.reduceAdd, Nat.reduceMul, Nat.reduceSub, ↓reduceIte, Int.reduceNeg, Int.reduceToNat, Int.reducePow, hmd, hks, hQ]
    (first | refine call_i hP (s_toByteS b hb) (.inl ⟨rfl, fun _ hx => nomatch hx⟩) ?_ | refine callH_i hP (s_toByteS b hb) (.inl ⟨rfl, fun _ hx => nomatch hx⟩) ?_)
    simp +decide (maxSteps := 20000000) (disch := omega) only [↓SBK, ↓SBK2, SX, Nat.reduceEqDiff, Nat.reduceAdd, Nat.reduceMul, Nat.reduceSub, ↓reduceIte, Int.reduceNeg, Int.reduceToNat, Int.reducePow, hmd, hks, hQ]
    (first | refine call_i hP (hI) (.inl ⟨rfl, fun _ hx => nomatch hx⟩) ?_ | refine callH_i hP (hI) (.inl ⟨rfl, fun _ hx => nomatch hx⟩) ?_)
    simp +decide (maxSteps := 20000000) (disch := omega) only [↓SBK, ↓SBK2, SX, Nat.reduceEqDiff, Nat.reduceAdd, Nat.reduceMul, Nat.reduceSub, ↓reduceIte, Int.reduceNeg, Int.reduceToNat, Int.reducePow, hmd, hks, hQ]
    (first | refine call_i hP (eqDev_self D hs') (.inl ⟨rfl, fun _ hx => nomatch hx⟩) ?_ | refine callH_i hP (eqDev_self D hs') (.inl ⟨rfl, fun _ hx => nomatch hx⟩) ?_)
    simp +decide (maxSteps := 20000000) (disch := omega) only [↓SBK, ↓SBK2, SX, Nat.reduceEqDiff, Nat.reduceAdd, Nat.reduceMul, Nat.reduceSub, ↓reduceIte, Int.reduceNeg, Int.reduceToNat, Int.reducePow, hmd, hks, hQ]
    (first | refine call_i hP (s_toDev r hs) (.inl ⟨rfl, fun _ hx => nomatch hx⟩) ?_ | refine callH_i hP (s_toDev r hs) (.inl ⟨rfl, fun _ hx => nomatch hx⟩) ?_)
    simp +decide (maxSteps := 20000000) (disch := omega) only [↓SBK, ↓SBK2, SX, Nat.reduceEqDiff, Nat.reduceAdd, Nat.reduceMul, Nat.reduceSub, ↓reduceIte, Int.reduceNeg, Int.reduceToNat, Int.reducePow, hmd, hks, hQ]
    (first | refine call_i hP (eqDev_self r hs) (.inl ⟨rfl, fun _ hx => nomatch hx⟩) ?_ | refine callH_i hP (eqDev_self r hs) (.inl ⟨rfl, fun _ hx => nomatch hx⟩) ?_)
    simp +decide (maxSteps := 20000000) (disch := omega) only [↓SBK, ↓SBK2, SX, Nat.reduceEqDiff, Nat.reduceAdd, Nat.reduceMul, Nat.reduceSub, ↓reduceIte, Int.reduceNeg, Int.reduceToNat, Int.reducePow, hmd, hks, hQ]
    (first | refine call_i hP (s_toByteS b hb) (.inl ⟨rfl, fun _ hx => nomatch hx⟩) ?_ | refine callH_i hP (s_toByteS b hb) (.inl ⟨rfl, fun _ hx => nomatch hx⟩) ?_)
    simp +decide (maxSteps := 20000000) (disch := omega) only [↓SBK, ↓SBK2, SX, Nat.reduceEqDiff, Nat.reduceAdd, Nat.reduceMul, Nat.reduceSub, ↓reduceIte, Int.reduceNeg, Int.reduceToNat, Int.reducePow, hmd, hks, hQ]
    (first | refine call_i hP (eqByteS_self b hb) (.inl ⟨rfl, fun _ hx => nomatch hx⟩) ?_ | refine callH_i hP (eqByteS_self b hb) (.inl ⟨rfl, fun _ hx => nomatch hx⟩) ?_)
    simp +decide (maxSteps := 20000000) (disch := omega) only [↓SBK, ↓SBK2, SX, Nat.reduceEqDiff, Nat.reduceAdd, Nat.reduceMul, Nat.reduceSub, ↓reduceIte, Int.reduceNeg, Int.reduceToNat, Int.reducePow, hmd, hks, hQ]
    (first | refine call_i hP (s_markDev r 1 (by omega) (by omega)) (.inl ⟨rfl, fun _ hx => nomatch hx⟩) ?_ | refine callH_i hP (s_markDev r 1 (by omega) (by omega)) (.inl ⟨rfl, fun _ hx => nomatch hx⟩) ?_)
    simp +decide (maxSteps := 20000000) (disch := omega) only [↓SBK, ↓SBK2, SX, Nat.reduceEqDiff, Nat.reduceAdd, Nat.reduceMul, Nat.reduceSub, ↓reduceIte, Int.reduceNeg, Int.reduceToNat, Int.reducePow, hmd, hks, hQ]
    (first | refine call_i hP (s_markByteS b (1 + (r.cntT : Nat)) (by omega) (by omega)) (.inl ⟨rfl, fun _ hx => nomatch hx⟩) ?_ | refine callH_i hP (s_markByteS b (1 + (r.cntT : Nat)) (by omega) (by omega)) (.inl ⟨rfl, fun _ hx => nomatch hx⟩) ?_)
    simp +decide (maxSteps := 20000000) (disch := omega) only [↓SBK, ↓SBK2, SX, Nat.reduceEqDiff, Nat.reduceAdd, Nat.reduceMul, Nat.reduceSub, ↓reduceIte, Int.reduceNeg, Int.reduceToNat, Int.reducePow, hmd, hks, hQ, g0]
    (first | refine call_i hP (eqDev_self D hs') (.inl ⟨rfl, fun _ hx => nomatch hx⟩) ?_ | refine callH_i hP (eqDev_self D hs') (.inl ⟨rfl, fun _ hx => nomatch hx⟩) ?_)
    simp +decide (maxSteps := 20000000) (disch := omega) only [↓SBK, ↓SBK2, SX, Nat.reduceEqDiff, Nat.reduceAdd, Nat.reduceMul, Nat.reduceSub, ↓reduceIte, Int.reduceNeg, Int.reduceToNat, Int.reducePow, hmd, hks, hQ]
    (first | refine call_i hP (s_markDev D 1 (by omega) (by omega)) (.inl ⟨rfl, fun _ hx => nomatch hx⟩) ?_ | refine callH_i hP (s_markDev D 1 (by omega) (by omega)) (.inl ⟨rfl, fun _ hx => nomatch hx⟩) ?_)
    simp +decide (maxSteps := 20000000) (disch := omega) only [↓SBK, ↓SBK2, SX, Nat.reduceEqDiff, Nat.reduceAdd, Nat.reduceMul, Nat.reduceSub, ↓reduceIte, Int.reduceNeg, Int.reduceToNat, Int.reducePow, hmd, hks, hQ]
    (first | refine call_i hP (s_heldDev D 1 (by omega) (by omega)) (.inl ⟨rfl, fun _ hx => nomatch hx⟩) ?_ | refine callH_i hP (s_heldDev D 1 (by omega) (by omega)) (.inl ⟨rfl, fun _ hx => nomatch hx⟩) ?_)
    simp +decide (maxSteps := 20000000) (disch := omega) only [↓SBK, ↓SBK2, SX, Nat.reduceEqDiff, Nat.reduceAdd, Nat.reduceMul, Nat.reduceSub, ↓reduceIte, Int.reduceNeg, Int.reduceToNat, Int.reducePow, hmd, hks, hQ, g1]
    (first | refine call_i hP (s_toDev r hs) (.inl ⟨rfl, fun _ hx => nomatch hx⟩) ?_ | refine callH_i hP (s_toDev r hs) (.inl ⟨rfl, fun _ hx => nomatch hx⟩) ?_)
    simp +decide (maxSteps := 20000000) (disch := omega) only [↓SBK, ↓SBK2, SX, Nat.reduceEqDiff, Nat.reduceAdd, Nat.reduceMul, Nat.reduceSub, ↓reduceIte, Int.reduceNeg, Int.reduceToNat, Int.reducePow, hmd, hks, hQ]
    (first | refine call_i hP (s_toByteS b hb) (.inl ⟨rfl, fun _ hx => nomatch hx⟩) ?_ | refine callH_i hP (s_toByteS b hb) (.inl ⟨rfl, fun _ hx => nomatch hx⟩) ?_)
    simp +decide (maxSteps := 20000000) (disch := omega) only [↓SBK, ↓SBK2, SX, Nat.reduceEqDiff, Nat.reduceAdd, Nat.reduceMul, Nat.reduceSub, ↓reduceIte, Int.reduceNeg, Int.reduceToNat, Int.reducePow, hmd, hks, hQ]
    (first | refine call_i hP (hI) (.inl ⟨rfl, fun _ hx => nomatch hx⟩) ?_ | refine callH_i hP (hI) (.inl ⟨rfl, fun _ hx => nomatch hx⟩) ?_)
    simp +decide (maxSteps := 20000000) (disch := omega) only [↓SBK, ↓SBK2, SX, Nat.reduceEqDiff, Nat.reduceAdd, Nat.reduceMul, Nat.reduceSub, ↓reduceIte, Int.reduceNeg, Int.reduceToNat, Int.reducePow, hmd, hks, hQ]
    (first | refine call_i hP (eqDev_self D hs') (.inl ⟨rfl, fun _ hx => nomatch hx⟩) ?_ | refine callH_i hP (eqDev_self D hs') (.inl ⟨rfl, fun _ hx => nomatch hx⟩) ?_)
    simp +decide (maxSteps := 20000000) (disch := omega) only [↓SBK, ↓SBK2, SX, Nat.reduceEqDiff, Nat.reduceAdd, Nat.reduceMul, Nat.reduceSub, ↓reduceIte, Int.reduceNeg, Int.reduceToNat, Int.reducePow, hmd, hks, hQ]
    (first | refine call_i hP (s_heldDev D 1 (by omega) (by omega)) (.inl ⟨rfl, fun _ hx => nomatch hx⟩) ?_ | refine callH_i hP (s_heldDev D 1 (by omega) (by omega)) (.inl ⟨rfl, fun _ hx => nomatch hx⟩) ?_)
    simp +decide (maxSteps := 20000000) (disch := omega) only [↓SBK, ↓SBK2, SX, Nat.reduceEqDiff, Nat.reduceAdd, Nat.reduceMul, Nat.reduceSub, ↓reduceIte, Int.reduceNeg, Int.reduceToNat, Int.reducePow, hmd, hks, hQ, g1]
end Go.Proofs.Ytliklgcfdgdigaa.Awp

namespace Go.Proofs.Ytliklgcfdgdigaa.Awp
open Go.Proofs
set_option linter.unusedSimpArgs false
set_option linter.unusedVariables false

/-! ### what is read of an argument is a value of its type -/
theorem Shp.nil_inv {ts : List TV} (h : Shp [] ts) : ts = [] := by cases h; rfl
theorem Shp.bool_inv {ys : List Ty} {ts : List TV} (h : Shp (.bool :: ys) ts) : ∃ b us, ts = .bool b :: us ∧ Shp ys us := by cases h with | bool b _ us h => exact ⟨b, us, rfl, h⟩
theorem Shp.int_inv {k : IntKind} {ys : List Ty} {ts : List TV} (h : Shp (.int k :: ys) ts) : ∃ n us, ts = .int k n :: us ∧ Shp ys us := by cases h with | int _ n _ us _ h => exact ⟨n, us, rfl, h⟩
theorem Shp.str_inv {ys : List Ty} {ts : List TV} (h : Shp (.str :: ys) ts) : ∃ s us, ts = .str s :: us ∧ s.length ≤ 2 ^ 47 ∧ Shp ys us := by cases h with | str s _ us hs h => exact ⟨s, us, rfl, hs, h⟩
theorem Shp.sl_inv {s : Nat} {e ys : List Ty} {ts : List TV} (h : Shp (.sl s e :: ys) ts) : ∃ es us, ts = .sl s es :: us ∧ es.length ≤ 2 ^ 47 ∧ (∀ r ∈ es, Shp e r) ∧ Shp ys us := by
  cases h with | sl _ _ es _ us hl he h => exact ⟨es, us, rfl, hl, he, h⟩
theorem rows_ofShp {α : Type} {sh : List Ty} {row : α → List TV} {good : α → Prop} (H : ∀ ts, Shp sh ts → ∃ x, ts = row x ∧ good x) : ∀ {es : List (List TV)}, (∀ r ∈ es, Shp sh r) → ∃ l : List α, es = l.map row ∧ ∀ x ∈ l, good x := by
  intro es
  induction es with
  | nil => intro _; exact ⟨[], rfl, by simp⟩
  | cons r es ih =>
    intro h
    obtain ⟨x, rfl, hx⟩ := H r (h r (by simp))
    obtain ⟨l, rfl, hl⟩ := ih fun r hr => h r (by simp [hr])
    exact ⟨x :: l, rfl, fun y hy => by rcases List.mem_cons.1 hy with rfl | hy; exact hx; exact hl y hy⟩
theorem byte_ofShp (ts : List TV) (h : Shp [.int .u8] ts) : ∃ x : UInt8, ts = byteRow x ∧ True := by
  cases h with
  | int _ n _ us hn h =>
    cases h
    obtain ⟨h1, h2⟩ := bounds_u8 hn
    refine ⟨UInt8.ofNat n.toNat, ?_, trivial⟩
    have : (UInt8.ofNat n.toNat).toNat = n.toNat := by simp; omega
    simp only [byteRow, this]
    congr 2
    omega
theorem bytes_ofShp {es : List (List TV)} (h : ∀ r ∈ es, Shp [.int .u8] r) : ∃ b : Bytes, es = bytesR b := by
  obtain ⟨l, rfl, _⟩ := rows_ofShp byte_ofShp h
  exact ⟨l, rfl⟩
theorem len_ofs {s : Bytes} (h : s.length ≤ 2 ^ 47) : s.length < 2 ^ 48 := Nat.lt_of_le_of_lt h (by decide)
theorem len_ofb {b : Bytes} (h : (bytesR b).length ≤ 2 ^ 47) : b.length < 2 ^ 48 := Nat.lt_of_le_of_lt (by simpa [bytesR] using h) (by decide)
theorem len_ofl {α β : Type} {f : α → β} {l : List α} (h : (l.map f).length ≤ 2 ^ 47) : l.length < 2 ^ 48 := Nat.lt_of_le_of_lt (by simpa using h) (by decide)

def Page.shape : List Ty := [.bool, .sl 1 [.int .u8]]
theorem Page.ofShp (ts : List TV) (h : Shp Page.shape ts) : ∃ x : Page, ts = x.row ∧ x.fine := by
  obtain ⟨v_used, u0, rfl, h1⟩ := Shp.bool_inv h
  obtain ⟨r1, u1, rfl, lv_b, e1, h2⟩ := Shp.sl_inv h1
  obtain ⟨v_b, rfl⟩ := bytes_ofShp e1
  obtain rfl := Shp.nil_inv h2
  exact ⟨{ used := v_used, b := v_b }, rfl, len_ofb lv_b⟩
def Block.shape : List Ty := [.sl 2 Page.shape, .int .i64, .bool]
theorem Block.ofShp (ts : List TV) (h : Shp Block.shape ts) : ∃ x : Block, ts = x.row ∧ x.fine := by
  obtain ⟨r0, u0, rfl, lv_pages, e0, h1⟩ := Shp.sl_inv h
  obtain ⟨v_pages, rfl, gv_pages⟩ := rows_ofShp Page.ofShp e0
  obtain ⟨v_wear, u1, rfl, h2⟩ := Shp.int_inv h1
  obtain ⟨v_bad, u2, rfl, h3⟩ := Shp.bool_inv h2
  obtain rfl := Shp.nil_inv h3
  exact ⟨{ pages := v_pages, wear := v_wear, bad := v_bad }, rfl, ⟨len_ofl lv_pages, gv_pages⟩⟩
def Chip.shape : List Ty := [.sl 3 Block.shape]
theorem Chip.ofShp (ts : List TV) (h : Shp Chip.shape ts) : ∃ x : Chip, ts = x.row ∧ x.fine := by
  obtain ⟨r0, u0, rfl, lv_blocks, e0, h1⟩ := Shp.sl_inv h
  obtain ⟨v_blocks, rfl, gv_blocks⟩ := rows_ofShp Block.ofShp e0
  obtain rfl := Shp.nil_inv h1
  exact ⟨{ blocks := v_blocks }, rfl, ⟨len_ofl lv_blocks, gv_blocks⟩⟩
def Fault.shape : List Ty := [.int .i64, .int .i64, .int .i64]
theorem Fault.ofShp (ts : List TV) (h : Shp Fault.shape ts) : ∃ x : Fault, ts = x.row ∧ x.fine := by
  obtain ⟨v_at', u0, rfl, h1⟩ := Shp.int_inv h
  obtain ⟨v_kind, u1, rfl, h2⟩ := Shp.int_inv h1
  obtain ⟨v_keep, u2, rfl, h3⟩ := Shp.int_inv h2
  obtain rfl := Shp.nil_inv h3
  exact ⟨{ at' := v_at', kind := v_kind, keep := v_keep }, rfl, trivial⟩
def Dev.shape : List Ty := [.sl 3 Block.shape, .int .i64, .sl 3 Fault.shape, .bool]
theorem Dev.ofShp (ts : List TV) (h : Shp Dev.shape ts) : ∃ x : Dev, ts = x.row ∧ x.fine := by
  obtain ⟨r0, u0, rfl, lv_c_blocks, e0, h1⟩ := Shp.sl_inv h
  obtain ⟨v_c_blocks, rfl, gv_c_blocks⟩ := rows_ofShp Block.ofShp e0
  obtain ⟨v_ops, u1, rfl, h2⟩ := Shp.int_inv h1
  obtain ⟨r2, u2, rfl, lv_faults, e2, h3⟩ := Shp.sl_inv h2
  obtain ⟨v_faults, rfl, gv_faults⟩ := rows_ofShp Fault.ofShp e2
  obtain ⟨v_down, u3, rfl, h4⟩ := Shp.bool_inv h3
  obtain rfl := Shp.nil_inv h4
  exact ⟨{ c := { blocks := v_c_blocks }, ops := v_ops, faults := v_faults, down := v_down }, rfl, ⟨⟨len_ofl lv_c_blocks, gv_c_blocks⟩, len_ofl lv_faults⟩⟩
def Rec.shape : List Ty := [.int .i64, .int .i64, .sl 1 [.int .u8]]
theorem Rec.ofShp (ts : List TV) (h : Shp Rec.shape ts) : ∃ x : Rec, ts = x.row ∧ x.fine := by
  obtain ⟨v_kind, u0, rfl, h1⟩ := Shp.int_inv h
  obtain ⟨v_seq, u1, rfl, h2⟩ := Shp.int_inv h1
  obtain ⟨r2, u2, rfl, lv_body, e2, h3⟩ := Shp.sl_inv h2
  obtain ⟨v_body, rfl⟩ := bytes_ofShp e2
  obtain rfl := Shp.nil_inv h3
  exact ⟨{ kind := v_kind, seq := v_seq, body := v_body }, rfl, len_ofb lv_body⟩
def Op.shape : List Ty := [.int .i64, .int .i64, .str, .str, .int .i64, .sl 1 [.int .u8]]
theorem Op.ofShp (ts : List TV) (h : Shp Op.shape ts) : ∃ x : Op, ts = x.row ∧ x.fine := by
  obtain ⟨v_kind, u0, rfl, h1⟩ := Shp.int_inv h
  obtain ⟨v_vol, u1, rfl, h2⟩ := Shp.int_inv h1
  obtain ⟨v_path, u2, rfl, lv_path, h3⟩ := Shp.str_inv h2
  obtain ⟨v_to', u3, rfl, lv_to', h4⟩ := Shp.str_inv h3
  obtain ⟨v_off, u4, rfl, h5⟩ := Shp.int_inv h4
  obtain ⟨r5, u5, rfl, lv_data, e5, h6⟩ := Shp.sl_inv h5
  obtain ⟨v_data, rfl⟩ := bytes_ofShp e5
  obtain rfl := Shp.nil_inv h6
  exact ⟨{ kind := v_kind, vol := v_vol, path := v_path, to' := v_to', off := v_off, data := v_data }, rfl, ⟨len_ofs lv_path, len_ofs lv_to', len_ofb lv_data⟩⟩
def Log.shape : List Ty := [.sl 3 Block.shape, .int .i64, .sl 3 Fault.shape, .bool, .int .i64]
theorem Log.ofShp (ts : List TV) (h : Shp Log.shape ts) : ∃ x : Log, ts = x.row ∧ x.fine := by
  obtain ⟨r0, u0, rfl, lv_d_c_blocks, e0, h1⟩ := Shp.sl_inv h
  obtain ⟨v_d_c_blocks, rfl, gv_d_c_blocks⟩ := rows_ofShp Block.ofShp e0
  obtain ⟨v_d_ops, u1, rfl, h2⟩ := Shp.int_inv h1
  obtain ⟨r2, u2, rfl, lv_d_faults, e2, h3⟩ := Shp.sl_inv h2
  obtain ⟨v_d_faults, rfl, gv_d_faults⟩ := rows_ofShp Fault.ofShp e2
  obtain ⟨v_d_down, u3, rfl, h4⟩ := Shp.bool_inv h3
  obtain ⟨v_seq, u4, rfl, h5⟩ := Shp.int_inv h4
  obtain rfl := Shp.nil_inv h5
  exact ⟨{ d := { c := { blocks := v_d_c_blocks }, ops := v_d_ops, faults := v_d_faults, down := v_d_down }, seq := v_seq }, rfl, ⟨⟨len_ofl lv_d_c_blocks, gv_d_c_blocks⟩, len_ofl lv_d_faults⟩⟩
end Go.Proofs.Ytliklgcfdgdigaa.Awp

namespace Go.Proofs.Ytliklgcfdgdigaa.Awp
open Go.Proofs Go.Proofs.Ytliklgcfdgdigaa
set_option linter.unusedSimpArgs false
set_option linter.unusedVariables false
set_option maxRecDepth 100000

theorem own : ownKnob Try.prog.godebug = none := by kernel_rfl
/-- how the text of the program's start goes on -/
def ioTail : List Char := [Char.ofNat 97, Char.ofNat 116, Char.ofNat 32, Char.ofNat 108, Char.ofNat 111, Char.ofNat 111, Char.ofNat 112, Char.ofNat 46, Char.ofNat 101, Char.ofNat 120, Char.ofNat 97, Char.ofNat 109, Char.ofNat 112, Char.ofNat 108, Char.ofNat 101, Char.ofNat 47, Char.ofNat 103, Char.ofNat 48, Char.ofNat 48, Char.ofNat 50, Char.ofNat 56, Char.ofNat 53, Char.ofNat 47, Char.ofNat 108, Char.ofNat 97, Char.ofNat 119, Char.ofNat 115, Char.ofNat 46, Char.ofNat 70, Char.ofNat 110, Char.ofNat 69, Char.ofNat 120, Char.ofNat 97, Char.ofNat 99, Char.ofNat 116, Char.ofNat 82, Char.ofNat 101, Char.ofNat 99, Char.ofNat 79, Char.ofNat 107, Char.ofNat 32, Char.ofNat 108, Char.ofNat 111, Char.ofNat 111, Char.ofNat 112, Char.ofNat 46, Char.ofNat 101, Char.ofNat 120, Char.ofNat 97, Char.ofNat 109, Char.ofNat 112, Char.ofNat 108, Char.ofNat 101, Char.ofNat 47, Char.ofNat 103, Char.ofNat 48, Char.ofNat 48, Char.ofNat 50, Char.ofNat 56, Char.ofNat 53] ++ [Char.ofNat 47, Char.ofNat 108, Char.ofNat 97, Char.ofNat 119, Char.ofNat 115, Char.ofNat 46, Char.ofNat 70, Char.ofNat 110, Char.ofNat 69, Char.ofNat 120, Char.ofNat 97, Char.ofNat 99, Char.ofNat 116, Char.ofNat 67, Char.ofNat 104, Char.ofNat 97, Char.ofNat 110, Char.ofNat 103, Char.ofNat 101, Char.ofNat 115, Char.ofNat 32, Char.ofNat 108, Char.ofNat 111, Char.ofNat 111, Char.ofNat 112, Char.ofNat 46, Char.ofNat 101, Char.ofNat 120, Char.ofNat 97, Char.ofNat 109, Char.ofNat 112, Char.ofNat 108, Char.ofNat 101, Char.ofNat 47, Char.ofNat 103, Char.ofNat 48, Char.ofNat 48, Char.ofNat 50, Char.ofNat 56, Char.ofNat 53, Char.ofNat 47, Char.ofNat 108, Char.ofNat 97, Char.ofNat 119, Char.ofNat 115, Char.ofNat 46, Char.ofNat 70, Char.ofNat 110, Char.ofNat 69, Char.ofNat 120, Char.ofNat 97, Char.ofNat 99, Char.ofNat 116, Char.ofNat 80, Char.ofNat 117, Char.ofNat 116, Char.ofNat 79, Char.ofNat 112, Char.ofNat 32, Char.ofNat 108] ++ [Char.ofNat 111, Char.ofNat 111, Char.ofNat 112, Char.ofNat 46, Char.ofNat 101, Char.ofNat 120, Char.ofNat 97, Char.ofNat 109, Char.ofNat 112, Char.ofNat 108, Char.ofNat 101, Char.ofNat 47, Char.ofNat 103, Char.ofNat 48, Char.ofNat 48, Char.ofNat 50, Char.ofNat 56, Char.ofNat 53, Char.ofNat 47, Char.ofNat 108, Char.ofNat 97, Char.ofNat 119, Char.ofNat 115, Char.ofNat 46, Char.ofNat 70, Char.ofNat 110, Char.ofNat 69, Char.ofNat 120, Char.ofNat 97, Char.ofNat 99, Char.ofNat 116, Char.ofNat 67, Char.ofNat 104, Char.ofNat 105, Char.ofNat 112, Char.ofNat 78, Char.ofNat 101, Char.ofNat 119, Char.ofNat 32, Char.ofNat 108, Char.ofNat 111, Char.ofNat 111, Char.ofNat 112, Char.ofNat 46, Char.ofNat 101, Char.ofNat 120, Char.ofNat 97, Char.ofNat 109, Char.ofNat 112, Char.ofNat 108, Char.ofNat 101, Char.ofNat 47, Char.ofNat 103, Char.ofNat 48, Char.ofNat 48, Char.ofNat 50, Char.ofNat 56, Char.ofNat 53, Char.ofNat 47, Char.ofNat 108] ++ [Char.ofNat 97, Char.ofNat 119, Char.ofNat 115, Char.ofNat 46, Char.ofNat 70, Char.ofNat 110, Char.ofNat 69, Char.ofNat 120, Char.ofNat 97, Char.ofNat 99, Char.ofNat 116, Char.ofNat 80, Char.ofNat 117, Char.ofNat 116, Char.ofNat 82, Char.ofNat 101, Char.ofNat 99, Char.ofNat 32, Char.ofNat 108, Char.ofNat 111, Char.ofNat 111, Char.ofNat 112, Char.ofNat 46, Char.ofNat 101, Char.ofNat 120, Char.ofNat 97, Char.ofNat 109, Char.ofNat 112, Char.ofNat 108, Char.ofNat 101, Char.ofNat 47, Char.ofNat 103, Char.ofNat 48, Char.ofNat 48, Char.ofNat 50, Char.ofNat 56, Char.ofNat 53, Char.ofNat 47, Char.ofNat 108, Char.ofNat 97, Char.ofNat 119, Char.ofNat 115, Char.ofNat 46, Char.ofNat 70, Char.ofNat 110, Char.ofNat 69, Char.ofNat 120, Char.ofNat 97, Char.ofNat 99, Char.ofNat 116, Char.ofNat 87, Char.ofNat 111, Char.ofNat 114, Char.ofNat 110, Char.ofNat 79, Char.ofNat 102, Char.ofNat 32, Char.ofNat 108, Char.ofNat 111, Char.ofNat 111] ++ [Char.ofNat 112, Char.ofNat 46, Char.ofNat 101, Char.ofNat 120, Char.ofNat 97, Char.ofNat 109, Char.ofNat 112, Char.ofNat 108, Char.ofNat 101, Char.ofNat 47, Char.ofNat 103, Char.ofNat 48, Char.ofNat 48, Char.ofNat 50, Char.ofNat 56, Char.ofNat 53, Char.ofNat 47, Char.ofNat 108, Char.ofNat 97, Char.ofNat 119, Char.ofNat 115, Char.ofNat 46, Char.ofNat 70, Char.ofNat 110, Char.ofNat 69, Char.ofNat 120, Char.ofNat 97, Char.ofNat 99, Char.ofNat 116, Char.ofNat 71, Char.ofNat 101, Char.ofNat 116, Char.ofNat 79, Char.ofNat 112, Char.ofNat 32, Char.ofNat 108, Char.ofNat 111, Char.ofNat 111, Char.ofNat 112, Char.ofNat 46, Char.ofNat 101, Char.ofNat 120, Char.ofNat 97, Char.ofNat 109, Char.ofNat 112, Char.ofNat 108, Char.ofNat 101, Char.ofNat 47, Char.ofNat 103, Char.ofNat 48, Char.ofNat 48, Char.ofNat 50, Char.ofNat 56, Char.ofNat 53, Char.ofNat 47, Char.ofNat 108, Char.ofNat 97, Char.ofNat 119, Char.ofNat 115, Char.ofNat 46] ++ [Char.ofNat 70, Char.ofNat 110, Char.ofNat 69, Char.ofNat 120, Char.ofNat 97, Char.ofNat 99, Char.ofNat 116, Char.ofNat 78, Char.ofNat 101, Char.ofNat 120, Char.ofNat 116, Char.ofNat 80, Char.ofNat 97, Char.ofNat 103, Char.ofNat 101, Char.ofNat 32, Char.ofNat 108, Char.ofNat 111, Char.ofNat 111, Char.ofNat 112, Char.ofNat 46, Char.ofNat 101, Char.ofNat 120, Char.ofNat 97, Char.ofNat 109, Char.ofNat 112, Char.ofNat 108, Char.ofNat 101, Char.ofNat 47, Char.ofNat 103, Char.ofNat 48, Char.ofNat 48, Char.ofNat 50, Char.ofNat 56, Char.ofNat 53, Char.ofNat 47, Char.ofNat 108, Char.ofNat 97, Char.ofNat 119, Char.ofNat 115, Char.ofNat 46, Char.ofNat 70, Char.ofNat 110, Char.ofNat 69, Char.ofNat 120, Char.ofNat 97, Char.ofNat 99, Char.ofNat 116, Char.ofNat 67, Char.ofNat 104, Char.ofNat 105, Char.ofNat 112, Char.ofNat 79, Char.ofNat 107, Char.ofNat 32, Char.ofNat 108, Char.ofNat 111, Char.ofNat 111, Char.ofNat 112, Char.ofNat 46] ++ [Char.ofNat 101, Char.ofNat 120, Char.ofNat 97, Char.ofNat 109, Char.ofNat 112, Char.ofNat 108, Char.ofNat 101, Char.ofNat 47, Char.ofNat 103, Char.ofNat 48, Char.ofNat 48, Char.ofNat 50, Char.ofNat 56, Char.ofNat 53, Char.ofNat 47, Char.ofNat 108, Char.ofNat 97, Char.ofNat 119, Char.ofNat 115, Char.ofNat 46, Char.ofNat 70, Char.ofNat 110, Char.ofNat 82, Char.ofNat 101, Char.ofNat 99, Char.ofNat 115, Char.ofNat 32, Char.ofNat 108, Char.ofNat 111, Char.ofNat 111, Char.ofNat 112, Char.ofNat 46, Char.ofNat 101, Char.ofNat 120, Char.ofNat 97, Char.ofNat 109, Char.ofNat 112, Char.ofNat 108, Char.ofNat 101, Char.ofNat 47, Char.ofNat 103, Char.ofNat 48, Char.ofNat 48, Char.ofNat 50, Char.ofNat 56, Char.ofNat 53, Char.ofNat 47, Char.ofNat 108, Char.ofNat 97, Char.ofNat 119, Char.ofNat 115, Char.ofNat 46, Char.ofNat 70, Char.ofNat 110, Char.ofNat 69, Char.ofNat 120, Char.ofNat 97, Char.ofNat 99, Char.ofNat 116, Char.ofNat 82] ++ [Char.ofNat 101, Char.ofNat 97, Char.ofNat 100, Char.ofNat 80, Char.ofNat 97, Char.ofNat 103, Char.ofNat 101, Char.ofNat 32, Char.ofNat 108, Char.ofNat 111, Char.ofNat 111, Char.ofNat 112, Char.ofNat 46, Char.ofNat 101, Char.ofNat 120, Char.ofNat 97, Char.ofNat 109, Char.ofNat 112, Char.ofNat 108, Char.ofNat 101, Char.ofNat 47, Char.ofNat 103, Char.ofNat 48, Char.ofNat 48, Char.ofNat 50, Char.ofNat 56, Char.ofNat 53, Char.ofNat 47, Char.ofNat 108, Char.ofNat 97, Char.ofNat 119, Char.ofNat 115, Char.ofNat 46, Char.ofNat 70, Char.ofNat 110, Char.ofNat 78, Char.ofNat 101, Char.ofNat 119, Char.ofNat 67, Char.ofNat 104, Char.ofNat 105, Char.ofNat 112, Char.ofNat 115, Char.ofNat 32, Char.ofNat 108, Char.ofNat 111, Char.ofNat 111, Char.ofNat 112, Char.ofNat 46, Char.ofNat 101, Char.ofNat 120, Char.ofNat 97, Char.ofNat 109, Char.ofNat 112, Char.ofNat 108, Char.ofNat 101, Char.ofNat 47, Char.ofNat 103, Char.ofNat 48, Char.ofNat 48] ++ [Char.ofNat 50, Char.ofNat 56, Char.ofNat 53, Char.ofNat 47, Char.ofNat 108, Char.ofNat 97, Char.ofNat 119, Char.ofNat 115, Char.ofNat 46, Char.ofNat 70, Char.ofNat 110, Char.ofNat 73, Char.ofNat 110, Char.ofNat 84, Char.ofNat 117, Char.ofNat 114, Char.ofNat 110, Char.ofNat 32, Char.ofNat 108, Char.ofNat 111, Char.ofNat 111, Char.ofNat 112, Char.ofNat 46, Char.ofNat 101, Char.ofNat 120, Char.ofNat 97, Char.ofNat 109, Char.ofNat 112, Char.ofNat 108, Char.ofNat 101, Char.ofNat 47, Char.ofNat 103, Char.ofNat 48, Char.ofNat 48, Char.ofNat 50, Char.ofNat 56, Char.ofNat 53, Char.ofNat 47, Char.ofNat 108, Char.ofNat 97, Char.ofNat 119, Char.ofNat 115, Char.ofNat 46, Char.ofNat 70, Char.ofNat 110, Char.ofNat 69, Char.ofNat 120, Char.ofNat 97, Char.ofNat 99, Char.ofNat 116, Char.ofNat 71, Char.ofNat 101, Char.ofNat 116, Char.ofNat 82, Char.ofNat 101, Char.ofNat 99, Char.ofNat 32, Char.ofNat 108, Char.ofNat 111, Char.ofNat 111] ++ [Char.ofNat 112, Char.ofNat 46, Char.ofNat 101, Char.ofNat 120, Char.ofNat 97, Char.ofNat 109, Char.ofNat 112, Char.ofNat 108, Char.ofNat 101, Char.ofNat 47, Char.ofNat 103, Char.ofNat 48, Char.ofNat 48, Char.ofNat 50, Char.ofNat 56, Char.ofNat 53, Char.ofNat 47, Char.ofNat 108, Char.ofNat 97, Char.ofNat 119, Char.ofNat 115, Char.ofNat 46, Char.ofNat 70, Char.ofNat 110, Char.ofNat 69, Char.ofNat 120, Char.ofNat 97, Char.ofNat 99, Char.ofNat 116, Char.ofNat 70, Char.ofNat 97, Char.ofNat 117, Char.ofNat 108, Char.ofNat 116, Char.ofNat 65, Char.ofNat 116, Char.ofNat 32, Char.ofNat 108, Char.ofNat 111, Char.ofNat 111, Char.ofNat 112, Char.ofNat 46, Char.ofNat 101, Char.ofNat 120, Char.ofNat 97, Char.ofNat 109, Char.ofNat 112, Char.ofNat 108, Char.ofNat 101, Char.ofNat 47, Char.ofNat 103, Char.ofNat 48, Char.ofNat 48, Char.ofNat 50, Char.ofNat 56, Char.ofNat 53, Char.ofNat 47, Char.ofNat 108, Char.ofNat 97, Char.ofNat 119] ++ [Char.ofNat 115, Char.ofNat 46, Char.ofNat 70, Char.ofNat 110, Char.ofNat 69, Char.ofNat 114, Char.ofNat 97, Char.ofNat 115, Char.ofNat 101, Char.ofNat 100, Char.ofNat 32, Char.ofNat 108, Char.ofNat 111, Char.ofNat 111, Char.ofNat 112, Char.ofNat 46, Char.ofNat 101, Char.ofNat 120, Char.ofNat 97, Char.ofNat 109, Char.ofNat 112, Char.ofNat 108, Char.ofNat 101, Char.ofNat 47, Char.ofNat 103, Char.ofNat 48, Char.ofNat 48, Char.ofNat 50, Char.ofNat 56, Char.ofNat 53, Char.ofNat 47, Char.ofNat 108, Char.ofNat 97, Char.ofNat 119, Char.ofNat 115, Char.ofNat 46, Char.ofNat 70, Char.ofNat 110, Char.ofNat 67, Char.ofNat 104, Char.ofNat 105, Char.ofNat 112, Char.ofNat 115, Char.ofNat 32, Char.ofNat 108, Char.ofNat 111, Char.ofNat 111, Char.ofNat 112, Char.ofNat 46, Char.ofNat 101, Char.ofNat 120, Char.ofNat 97, Char.ofNat 109, Char.ofNat 112, Char.ofNat 108, Char.ofNat 101, Char.ofNat 47, Char.ofNat 103, Char.ofNat 48, Char.ofNat 48] ++ [Char.ofNat 50, Char.ofNat 56, Char.ofNat 53, Char.ofNat 47, Char.ofNat 108, Char.ofNat 97, Char.ofNat 119, Char.ofNat 115, Char.ofNat 46, Char.ofNat 70, Char.ofNat 110, Char.ofNat 82, Char.ofNat 101, Char.ofNat 99, Char.ofNat 115, Char.ofNat 82, Char.ofNat 101, Char.ofNat 97, Char.ofNat 100, Char.ofNat 32, Char.ofNat 108, Char.ofNat 111, Char.ofNat 111, Char.ofNat 112, Char.ofNat 46, Char.ofNat 101, Char.ofNat 120, Char.ofNat 97, Char.ofNat 109, Char.ofNat 112, Char.ofNat 108, Char.ofNat 101, Char.ofNat 47, Char.ofNat 103, Char.ofNat 48, Char.ofNat 48, Char.ofNat 50, Char.ofNat 56, Char.ofNat 53, Char.ofNat 47, Char.ofNat 108, Char.ofNat 97, Char.ofNat 119, Char.ofNat 115, Char.ofNat 46, Char.ofNat 70, Char.ofNat 110, Char.ofNat 69, Char.ofNat 120, Char.ofNat 97, Char.ofNat 99, Char.ofNat 116, Char.ofNat 68, Char.ofNat 101, Char.ofNat 118, Char.ofNat 79, Char.ofNat 107, Char.ofNat 32, Char.ofNat 108, Char.ofNat 111] ++ [Char.ofNat 111, Char.ofNat 112, Char.ofNat 46, Char.ofNat 101, Char.ofNat 120, Char.ofNat 97, Char.ofNat 109, Char.ofNat 112, Char.ofNat 108, Char.ofNat 101, Char.ofNat 47, Char.ofNat 103, Char.ofNat 48, Char.ofNat 48, Char.ofNat 50, Char.ofNat 56, Char.ofNat 53, Char.ofNat 47, Char.ofNat 108, Char.ofNat 97, Char.ofNat 119, Char.ofNat 115, Char.ofNat 46, Char.ofNat 70, Char.ofNat 110, Char.ofNat 69, Char.ofNat 120, Char.ofNat 97, Char.ofNat 99, Char.ofNat 116, Char.ofNat 70, Char.ofNat 114, Char.ofNat 101, Char.ofNat 101, Char.ofNat 66, Char.ofNat 108, Char.ofNat 111, Char.ofNat 99, Char.ofNat 107, Char.ofNat 115, Char.ofNat 32, Char.ofNat 108, Char.ofNat 111, Char.ofNat 111, Char.ofNat 112, Char.ofNat 46, Char.ofNat 101, Char.ofNat 120, Char.ofNat 97, Char.ofNat 109, Char.ofNat 112, Char.ofNat 108, Char.ofNat 101, Char.ofNat 47, Char.ofNat 103, Char.ofNat 48, Char.ofNat 48, Char.ofNat 50, Char.ofNat 56, Char.ofNat 53] ++ [Char.ofNat 47, Char.ofNat 108, Char.ofNat 97, Char.ofNat 119, Char.ofNat 115, Char.ofNat 46, Char.ofNat 70, Char.ofNat 110, Char.ofNat 69, Char.ofNat 120, Char.ofNat 97, Char.ofNat 99, Char.ofNat 116, Char.ofNat 68, Char.ofNat 101, Char.ofNat 118, Char.ofNat 78, Char.ofNat 101, Char.ofNat 119, Char.ofNat 32, Char.ofNat 108, Char.ofNat 111, Char.ofNat 111, Char.ofNat 112, Char.ofNat 46, Char.ofNat 101, Char.ofNat 120, Char.ofNat 97, Char.ofNat 109, Char.ofNat 112, Char.ofNat 108, Char.ofNat 101, Char.ofNat 47, Char.ofNat 103, Char.ofNat 48, Char.ofNat 48, Char.ofNat 50, Char.ofNat 56, Char.ofNat 53, Char.ofNat 47, Char.ofNat 108, Char.ofNat 97, Char.ofNat 119, Char.ofNat 115, Char.ofNat 46, Char.ofNat 70, Char.ofNat 110, Char.ofNat 69, Char.ofNat 120, Char.ofNat 97, Char.ofNat 99, Char.ofNat 116, Char.ofNat 69, Char.ofNat 114, Char.ofNat 97, Char.ofNat 115, Char.ofNat 101, Char.ofNat 32, Char.ofNat 108, Char.ofNat 111] ++ [Char.ofNat 111, Char.ofNat 112, Char.ofNat 46, Char.ofNat 101, Char.ofNat 120, Char.ofNat 97, Char.ofNat 109, Char.ofNat 112, Char.ofNat 108, Char.ofNat 101, Char.ofNat 47, Char.ofNat 103, Char.ofNat 48, Char.ofNat 48, Char.ofNat 50, Char.ofNat 56, Char.ofNat 53, Char.ofNat 47, Char.ofNat 108, Char.ofNat 97, Char.ofNat 119, Char.ofNat 115, Char.ofNat 46, Char.ofNat 70, Char.ofNat 110, Char.ofNat 69, Char.ofNat 120, Char.ofNat 97, Char.ofNat 99, Char.ofNat 116, Char.ofNat 80, Char.ofNat 114, Char.ofNat 111, Char.ofNat 103, Char.ofNat 114, Char.ofNat 97, Char.ofNat 109, Char.ofNat 32, Char.ofNat 108, Char.ofNat 111, Char.ofNat 111, Char.ofNat 112, Char.ofNat 46, Char.ofNat 101, Char.ofNat 120, Char.ofNat 97, Char.ofNat 109, Char.ofNat 112, Char.ofNat 108, Char.ofNat 101, Char.ofNat 47, Char.ofNat 103, Char.ofNat 48, Char.ofNat 48, Char.ofNat 50, Char.ofNat 56, Char.ofNat 53, Char.ofNat 47, Char.ofNat 108, Char.ofNat 97] ++ [Char.ofNat 119, Char.ofNat 115, Char.ofNat 46, Char.ofNat 70, Char.ofNat 110, Char.ofNat 69, Char.ofNat 120, Char.ofNat 97, Char.ofNat 99, Char.ofNat 116, Char.ofNat 80, Char.ofNat 111, Char.ofNat 119, Char.ofNat 101, Char.ofNat 114, Char.ofNat 85, Char.ofNat 112, Char.ofNat 32, Char.ofNat 108, Char.ofNat 111, Char.ofNat 111, Char.ofNat 112, Char.ofNat 46, Char.ofNat 101, Char.ofNat 120, Char.ofNat 97, Char.ofNat 109, Char.ofNat 112, Char.ofNat 108, Char.ofNat 101, Char.ofNat 47, Char.ofNat 103, Char.ofNat 48, Char.ofNat 48, Char.ofNat 50, Char.ofNat 56, Char.ofNat 53, Char.ofNat 47, Char.ofNat 108, Char.ofNat 97, Char.ofNat 119, Char.ofNat 115, Char.ofNat 46, Char.ofNat 70, Char.ofNat 110, Char.ofNat 68, Char.ofNat 101, Char.ofNat 118, Char.ofNat 115, Char.ofNat 32, Char.ofNat 108, Char.ofNat 111, Char.ofNat 111, Char.ofNat 112, Char.ofNat 46, Char.ofNat 101, Char.ofNat 120, Char.ofNat 97, Char.ofNat 109, Char.ofNat 112] ++ [Char.ofNat 108, Char.ofNat 101, Char.ofNat 47, Char.ofNat 103, Char.ofNat 48, Char.ofNat 48, Char.ofNat 50, Char.ofNat 56, Char.ofNat 53, Char.ofNat 47, Char.ofNat 108, Char.ofNat 97, Char.ofNat 119, Char.ofNat 115, Char.ofNat 46, Char.ofNat 70, Char.ofNat 110, Char.ofNat 68, Char.ofNat 101, Char.ofNat 118, Char.ofNat 69, Char.ofNat 114, Char.ofNat 97, Char.ofNat 115, Char.ofNat 101, Char.ofNat 100, Char.ofNat 32, Char.ofNat 108, Char.ofNat 111, Char.ofNat 111, Char.ofNat 112, Char.ofNat 46, Char.ofNat 101, Char.ofNat 120, Char.ofNat 97, Char.ofNat 109, Char.ofNat 112, Char.ofNat 108, Char.ofNat 101, Char.ofNat 47, Char.ofNat 103, Char.ofNat 48, Char.ofNat 48, Char.ofNat 50, Char.ofNat 56, Char.ofNat 53, Char.ofNat 47, Char.ofNat 108, Char.ofNat 97, Char.ofNat 119, Char.ofNat 115, Char.ofNat 46, Char.ofNat 70, Char.ofNat 110, Char.ofNat 80, Char.ofNat 111, Char.ofNat 119, Char.ofNat 101, Char.ofNat 114, Char.ofNat 115] ++ [Char.ofNat 32, Char.ofNat 108, Char.ofNat 111, Char.ofNat 111, Char.ofNat 112, Char.ofNat 46, Char.ofNat 101, Char.ofNat 120, Char.ofNat 97, Char.ofNat 109, Char.ofNat 112, Char.ofNat 108, Char.ofNat 101, Char.ofNat 47, Char.ofNat 103, Char.ofNat 48, Char.ofNat 48, Char.ofNat 50, Char.ofNat 56, Char.ofNat 53, Char.ofNat 47, Char.ofNat 108, Char.ofNat 97, Char.ofNat 119, Char.ofNat 115, Char.ofNat 46, Char.ofNat 70, Char.ofNat 110, Char.ofNat 69, Char.ofNat 120, Char.ofNat 97, Char.ofNat 99, Char.ofNat 116, Char.ofNat 68, Char.ofNat 101, Char.ofNat 118, Char.ofNat 69, Char.ofNat 114, Char.ofNat 97, Char.ofNat 115, Char.ofNat 101, Char.ofNat 32, Char.ofNat 108, Char.ofNat 111, Char.ofNat 111, Char.ofNat 112, Char.ofNat 46, Char.ofNat 101, Char.ofNat 120, Char.ofNat 97, Char.ofNat 109, Char.ofNat 112, Char.ofNat 108, Char.ofNat 101, Char.ofNat 47, Char.ofNat 103, Char.ofNat 48, Char.ofNat 48, Char.ofNat 50, Char.ofNat 56] ++ [Char.ofNat 53, Char.ofNat 47, Char.ofNat 108, Char.ofNat 97, Char.ofNat 119, Char.ofNat 115, Char.ofNat 46, Char.ofNat 70, Char.ofNat 110, Char.ofNat 69, Char.ofNat 120, Char.ofNat 97, Char.ofNat 99, Char.ofNat 116, Char.ofNat 68, Char.ofNat 101, Char.ofNat 118, Char.ofNat 80, Char.ofNat 114, Char.ofNat 111, Char.ofNat 103, Char.ofNat 114, Char.ofNat 97, Char.ofNat 109]
def ioSum : List Char := [Char.ofNat 98, Char.ofNat 51, Char.ofNat 102, Char.ofNat 55, Char.ofNat 99, Char.ofNat 48, Char.ofNat 100, Char.ofNat 99, Char.ofNat 52, Char.ofNat 51, Char.ofNat 51, Char.ofNat 102, Char.ofNat 99, Char.ofNat 98, Char.ofNat 52, Char.ofNat 55, Char.ofNat 53, Char.ofNat 52, Char.ofNat 55, Char.ofNat 49, Char.ofNat 102, Char.ofNat 53, Char.ofNat 56, Char.ofNat 48, Char.ofNat 101, Char.ofNat 102, Char.ofNat 54, Char.ofNat 97, Char.ofNat 99, Char.ofNat 57, Char.ofNat 54, Char.ofNat 49, Char.ofNat 100, Char.ofNat 51, Char.ofNat 97, Char.ofNat 55, Char.ofNat 99, Char.ofNat 57, Char.ofNat 57, Char.ofNat 53, Char.ofNat 49, Char.ofNat 100, Char.ofNat 100, Char.ofNat 49, Char.ofNat 51, Char.ofNat 52, Char.ofNat 101, Char.ofNat 102, Char.ofNat 98, Char.ofNat 98, Char.ofNat 99, Char.ofNat 56, Char.ofNat 53, Char.ofNat 98, Char.ofNat 99, Char.ofNat 53, Char.ofNat 49, Char.ofNat 48, Char.ofNat 52, Char.ofNat 48, Char.ofNat 48, Char.ofNat 100, Char.ofNat 97, Char.ofNat 98]
theorem ioText : Try.prog.initOrder = String.ofList ([Char.ofNat 104, Char.ofNat 97, Char.ofNat 114, Char.ofNat 110, Char.ofNat 101, Char.ofNat 115, Char.ofNat 115] ++ (Char.ofNat 32 :: ioSum) ++ [Char.ofNat 32, Char.ofNat 99, Char.ofNat 117, Char.ofNat 116, Char.ofNat 32] ++ ioTail) := by kernel_rfl
theorem ioWords : ∃ r, behindMainWord (wordsSigns Try.prog.initOrder.toList) = [Char.ofNat 99, Char.ofNat 117, Char.ofNat 116] :: r := by
  rw [ioText, String.toList_ofList]
  exact ⟨wordsSigns ioTail, by kernel_rfl⟩
theorem f_laid : (laidOutB Try.prog) = true := by kernel_rfl
theorem f_maps : (mapsRowed Try.prog) = true := by kernel_rfl
theorem f_stops : ((Try.prog.stops == [])) = true := by kernel_rfl
theorem f_knobs : ((Try.prog.stopKnobs == [])) = true := by kernel_rfl
theorem f_heard : (Try.prog.stopsHeard) = true := by kernel_rfl
theorem f_enter : (Try.prog.mayEnter) = true := by
  obtain ⟨r, hr⟩ := ioWords
  exact enter_of hr (by kernel_rfl) (by kernel_rfl) (by kernel_rfl)
theorem f_lifts : (false == Try.prog.liftsFinal) = true := by
  obtain ⟨r, hr⟩ := ioWords
  rw [lifts_of hr]
  rfl
theorem f_make : (Try.prog.make == some .cut) = true := by
  obtain ⟨r, hr⟩ := ioWords
  rw [make_of hr]
  rfl
end Go.Proofs.Ytliklgcfdgdigaa.Awp

namespace Go.Proofs.Ytliklgcfdgdigaa.Awp
open Go.Proofs Go.Proofs.Ytliklgcfdgdigaa
set_option linter.unusedSimpArgs false
set_option linter.unusedVariables false
set_option maxRecDepth 100000

theorem j0_FnExactDevProgram : (Rows.fnExactDevProgramRow.wf (OpenSpec.ofChange Rows.fnExactDevProgramSpec)) = true := by kernel_rfl
theorem j3_FnExactDevProgram : (Try.f31.params.all (Try.prog.readableRec ·)) = true := by kernel_rfl
theorem j4_FnExactDevProgram : (namedTie Try.prog Rows.fnExactDevProgramRow.named Rows.fnExactDevProgramSpec.vars) = true := by kernel_rfl
theorem j5_FnExactDevProgram : ((Rows.fnExactDevProgramRow.stops == [])) = true := by kernel_rfl
theorem j7_FnExactDevProgram : ((Rows.fnExactDevProgramRow.knobs == [])) = true := by kernel_rfl
theorem j9_FnExactDevProgram : ((Rows.fnExactDevProgramRow.inPlace == Try.prog.inPlace 31)) = true := by kernel_rfl
theorem j10_FnExactDevProgram : ((Rows.fnExactDevProgramRow.unfollowed == Try.prog.unfollowed 31)) = true := by kernel_rfl
theorem j11_FnExactDevProgram : ((Rows.fnExactDevProgramRow.recurses == Try.prog.recurses 31)) = true := by kernel_rfl
theorem j12_FnExactDevProgram : ((Rows.fnExactDevProgramRow.named == Try.prog.varsNamed 31)) = true := by kernel_rfl
theorem j13_FnExactDevProgram : ((Rows.fnExactDevProgramRow.maps == (Try.f31.params.toList ++ Rows.fnExactDevProgramSpec.plain.varTypes Try.prog).any (Try.prog.mapsRec ·))) = true := by kernel_rfl
theorem j14_FnExactDevProgram : ((Rows.fnExactDevProgramRow.ifaces == (Try.f31.params.toList ++ Rows.fnExactDevProgramSpec.plain.varTypes Try.prog).any (Try.prog.ifacesRec ·))) = true := by kernel_rfl
theorem j15_FnExactDevProgram : ((Rows.fnExactDevProgramRow.mapsOut == Try.prog.mapsAmong Try.f31.resultTypes.toList)) = true := by kernel_rfl
theorem j16_FnExactDevProgram : ((Rows.fnExactDevProgramRow.loops == (Try.f31.params.toList ++ Rows.fnExactDevProgramSpec.plain.varTypes Try.prog).any (Try.prog.loopsFrom ·))) = true := by kernel_rfl
theorem j17_FnExactDevProgram : ((Rows.fnExactDevProgramRow.wideKeys == (Try.f31.params.toList ++ Rows.fnExactDevProgramSpec.plain.varTypes Try.prog ++ Try.f31.resultTypes.toList).any (Try.prog.wideKeysFrom ·))) = true := by kernel_rfl
theorem j18_FnExactDevProgram : (Rows.fnExactDevProgramSpec.vars.all (Try.prog.varReadable ·)) = true := by kernel_rfl
theorem j19_FnExactDevProgram : (Try.f31.resultTypes.all (fun t => Try.prog.readableRec t && decide (t < Try.prog.types.size))) = true := by kernel_rfl
theorem j20_FnExactDevProgram : ((Rows.fnExactDevProgramRow.ifacesOut == Try.f31.resultTypes.toList.any (Try.prog.ifacesRec ·))) = true := by kernel_rfl
theorem j21_FnExactDevProgram : ((Rows.fnExactDevProgramRow.loopsOut == Try.f31.resultTypes.toList.any (Try.prog.loopsFrom ·))) = true := by kernel_rfl
theorem j22_FnExactDevProgram : ((Rows.fnExactDevProgramRow.plainKeys == Try.prog.plainKeys)) = true := by kernel_rfl
theorem j23_FnExactDevProgram : (Rows.fnExactDevProgramRow.shortTexts.isNone) = true := by kernel_rfl
theorem j28_FnExactDevProgram : ((Rows.fnExactDevProgramRow.kinds == (if Rows.fnExactDevProgramRow.domain.isEmpty then [] else Try.f31.params.toList.map fun t => match Try.prog.underlying t with | some (.int k) => some k | _ => none))) = true := by kernel_rfl
theorem j29_FnExactDevProgram : ((Rows.fnExactDevProgramRow.pinned == Rows.fnExactDevProgramRow.pinnedBy)) = true := by kernel_rfl
theorem j30_FnExactDevProgram : ((Rows.fnExactDevProgramRow.veiled == (Try.f31.params.toList ++ Rows.fnExactDevProgramSpec.plain.varTypes Try.prog ++ Try.f31.resultTypes.toList).any (Try.prog.veiledRec ·))) = true := by kernel_rfl
theorem j31_FnExactDevProgram : (Rows.fnExactDevProgramRow.veiledFits Try.prog Try.f31.params.toList (Try.f31.params.toList ++ Rows.fnExactDevProgramSpec.plain.varTypes Try.prog ++ Try.f31.resultTypes.toList)) = true := by kernel_rfl
theorem jf_FnExactDevProgram : joinedFacts Try.prog 31 Try.f31 Rows.fnExactDevProgramSpec Rows.fnExactDevProgramRow = true :=
  joined_of j0_FnExactDevProgram f_laid f_maps j3_FnExactDevProgram j4_FnExactDevProgram j5_FnExactDevProgram f_stops j7_FnExactDevProgram f_knobs j9_FnExactDevProgram j10_FnExactDevProgram j11_FnExactDevProgram j12_FnExactDevProgram j13_FnExactDevProgram j14_FnExactDevProgram j15_FnExactDevProgram j16_FnExactDevProgram j17_FnExactDevProgram j18_FnExactDevProgram j19_FnExactDevProgram j20_FnExactDevProgram j21_FnExactDevProgram j22_FnExactDevProgram j23_FnExactDevProgram f_heard f_enter f_lifts f_make j28_FnExactDevProgram j29_FnExactDevProgram j30_FnExactDevProgram j31_FnExactDevProgram

theorem lift_FnExactDevProgram (os : Os) (started : os.Started) (H : Type) (enc : TypeId × Value → H) :
    ReturnsInHanded {} Try.checked os 31 .any (Rows.fnExactDevProgramSpec.pre6 enc Try.prog Try.f31 Rows.fnExactDevProgramRow.domain false) (Rows.fnExactDevProgramSpec.post enc Try.prog Try.f31 false true false false) := by
  refine law_returns (C := Try.checked) (pars := [(true, Dev.shape), (false, [.int .i64]), (false, [.sl 1 [.int .u8]])]) own started (by kernel_rfl) Try.func31
    (ChangeSpec.witness6 (enc := enc) (C := Try.checked) false ⟨#[], #[.agg #[.slice none 0 0, .int .i64 0, .slice none 0 0, .bool false], .int .i64 0, .slice none 0 0], []⟩ 8 (by kernel_rfl) (by kernel_rfl) (by kernel_rfl) (by kernel_rfl))
    rfl (by kernel_rfl) rfl (by kernel_rfl) ?_ ?_
  · intro ds hd
    match ds, hd with
    | [d0, d1, d2], _ => rfl
  · intro tss h
    match tss, h with
    | [t0, t1, t2], ⟨h0, h1, h2, _⟩ =>
      obtain ⟨r, rfl, hf⟩ := Dev.ofShp t0 h0
      obtain ⟨i, u1, rfl, e1⟩ := Shp.int_inv h1
      obtain rfl := Shp.nil_inv e1
      obtain ⟨r2, u2, rfl, l2, e2, k2⟩ := Shp.sl_inv h2
      obtain rfl := Shp.nil_inv k2
      obtain ⟨b, rfl⟩ := bytes_ofShp e2
      exact ⟨_, s_FnExactDevProgram r i b hf (len_ofb l2)⟩

theorem hw_FnExactDevProgram : Try.f31.isWrapper Try.prog Rows.fnExactDevProgramRow.wrapper Rows.fnExactDevProgramRow.mainSum := by
  unfold Func.isWrapper; first | (rw [if_pos (by decide +kernel)]; kernel_rfl) | (rw [if_neg (by decide +kernel)]; exact ⟨rfl, rfl⟩)

theorem law_FnExactDevProgram : Rows.FnExactDevProgramSaid :=
  OpenClaim.holds_of_wide 31 Try.f31 rfl rfl rfl rfl rfl rfl rfl ⟨rfl, rfl, rfl, rfl, rfl⟩ rfl rfl rfl rfl rfl (by kernel_rfl) Try.func31 jf_FnExactDevProgram
    (of_decide_eq_true (by kernel_rfl)) hw_FnExactDevProgram
    (fun os started H enc _ => lift_FnExactDevProgram os started H enc)
end Go.Proofs.Ytliklgcfdgdigaa.Awp

namespace Go.Proofs.Ytliklgcfdgdigaa
/-- the given statement -/
theorem provedFnExactDevProgram : Rows.FnExactDevProgramSaid := Awp.law_FnExactDevProgram
end Go.Proofs.Ytliklgcfdgdigaa
#print axioms Go.Proofs.Ytliklgcfdgdigaa.provedFnExactDevProgram
