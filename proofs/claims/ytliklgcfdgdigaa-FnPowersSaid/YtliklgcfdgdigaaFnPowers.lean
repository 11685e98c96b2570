/- The law FnPowers (a drawn device that is off does nothing until it is on; then all is as it was) holds for every argument: the given statement FnPowersSaid is proved. Condition: none. -/
import Derived.Test.YtliklgcfdgdigaaFnPowersX1
import Derived.Test.YtliklgcfdgdigaaAwp4
import Derived.Test.YtliklgcfdgdigaaRows
import Derived.OpenShut
import Derived.KernelRfl
namespace Go.Proofs.Ytliklgcfdgdigaa.Awp
open Go.Proofs
set_option linter.unusedSimpArgs false
set_option linter.unusedVariables false
set_option maxRecDepth 100000
set_option maxHeartbeats 20000000

noncomputable def progCode (c : Chip) (k : Int) (b : Bytes) : Int := if 400 < (b.length : Int) then 1 else mayCode c k (decide (nextPage c k = 8))
def prB (b : Bytes) (x : Block) : Block := { pages := x.pages.modify (usedN x.pages) fun _ => { used := true, b := b }, wear := x.wear, bad := x.bad }
noncomputable def progC (c : Chip) (k : Int) (b : Bytes) : Chip := if progCode c k b = 0 then { blocks := c.blocks.modify k.toNat (prB b) } else c
theorem sS_l10Program (c : Chip) (k : Int) (b : Bytes) (hf : c.fine) (hs : c.sz < 2 ^ 40) (hb : b.length < 2 ^ 48) :
    Spec Try.prog 155 [c.x, .int .i64 k, .ext 1 (bytesR b)] (.int .i64 (progCode c k b)) [.undef, .undef, .undef] := by
  by_cases h : 400 < (b.length : Int)
  · have d : decide (400 < (b.length : Int)) = true := decide_eq_true h
    refine spec_C hmx p_S_l10Program [] 79 [] ⟨Nat.le_of_ble_eq_true rfl, Nat.le_of_ble_eq_true rfl⟩ rfl rfl ?_
    intro w hP hmd hks hQ
    unfold c_S_l10Program
    simp +decide (maxSteps := 20000000) (disch := omega) only [↓SBK, ↓SBK2, SX, Nat.reduceEqDiff, Nat.reduceAdd, Nat.reduceMul, Nat.reduceSub, ↓reduceIte, Int.reduceNeg, Int.reduceToNat, Int.reducePow, hmd, hks, hQ]
    simp +decide (maxSteps := 20000000) (disch := omega) only [↓SBK, ↓SBK2, SX, Nat.reduceEqDiff, Nat.reduceAdd, Nat.reduceMul, Nat.reduceSub, ↓reduceIte, Int.reduceNeg, Int.reduceToNat, Int.reducePow, hmd, hks, hQ, d]
    rw [progCode, if_pos h]
  · have d : decide (400 < (b.length : Int)) = false := decide_eq_false h
    refine spec_C hmx p_S_l10Program [] 79 [] ⟨Nat.le_of_ble_eq_true rfl, Nat.le_of_ble_eq_true rfl⟩ rfl rfl ?_
    intro w hP hmd hks hQ
    unfold c_S_l10Program
    simp +decide (maxSteps := 20000000) (disch := omega) only [↓SBK, ↓SBK2, SX, Nat.reduceEqDiff, Nat.reduceAdd, Nat.reduceMul, Nat.reduceSub, ↓reduceIte, Int.reduceNeg, Int.reduceToNat, Int.reducePow, hmd, hks, hQ]
    simp +decide (maxSteps := 20000000) (disch := omega) only [↓SBK, ↓SBK2, SX, Nat.reduceEqDiff, Nat.reduceAdd, Nat.reduceMul, Nat.reduceSub, ↓reduceIte, Int.reduceNeg, Int.reduceToNat, Int.reducePow, hmd, hks, hQ, d]
    (first | refine call_i hP (sS_NextPage c k hs) (.inl ⟨rfl, fun _ hx => nomatch hx⟩) ?_ | refine callH_i hP (sS_NextPage c k hs) (.inl ⟨rfl, fun _ hx => nomatch hx⟩) ?_)
    simp +decide (maxSteps := 20000000) (disch := omega) only [↓SBK, ↓SBK2, SX, Nat.reduceEqDiff, Nat.reduceAdd, Nat.reduceMul, Nat.reduceSub, ↓reduceIte, Int.reduceNeg, Int.reduceToNat, Int.reducePow, hmd, hks, hQ]
    (first | refine call_i hP (sS_l10May c k (decide (nextPage c k = 8)) hf) (.inl ⟨rfl, fun _ hx => nomatch hx⟩) ?_ | refine callH_i hP (sS_l10May c k (decide (nextPage c k = 8)) hf) (.inl ⟨rfl, fun _ hx => nomatch hx⟩) ?_)
    simp +decide (maxSteps := 20000000) (disch := omega) only [↓SBK, ↓SBK2, SX, Nat.reduceEqDiff, Nat.reduceAdd, Nat.reduceMul, Nat.reduceSub, ↓reduceIte, Int.reduceNeg, Int.reduceToNat, Int.reducePow, hmd, hks, hQ]
    rw [progCode, if_neg h]
theorem may_zero {c : Chip} {k : Int} {f : Bool} (h : mayCode c k f = 0) : f = false ∧ ∃ j : Nat, k = j ∧ ∃ hj : j < c.blocks.length, (c.blocks[j]).bad = false ∧ okC c := by
  by_cases h1 : chipOk c = true
  · by_cases h2 : 0 ≤ k ∧ k < (c.blocks.length : Nat)
    · obtain ⟨j, rfl⟩ : ∃ j : Nat, k = j := ⟨k.toNat, by omega⟩
      have hj : (j : Int) < (c.blocks.length : Nat) := h2.2
      rw [may_some h1 (blk_nat hj)] at h
      have hk : okC c := by simpa [chipOk] using h1
      cases hb : (c.blocks[j]'(by omega)).bad with
      | true => rw [hb] at h; simp at h
      | false =>
        rw [hb] at h
        cases f with
        | true => simp at h
        | false => exact ⟨rfl, j, rfl, by omega, by simpa using hb, hk⟩
    · rw [may_none (blk_none h2)] at h; cases h
  · rw [may_bad h1] at h; cases h
theorem prog_info {c : Chip} {k : Int} {b : Bytes} (h : progCode c k b = 0) : b.length ≤ 400 ∧ ∃ j : Nat, k = j ∧ ∃ hj : j < c.blocks.length, (c.blocks[j]).bad = false ∧ okC c ∧ usedN (c.blocks[j]).pages < 8 ∧ (c.blocks[j]).pages.length = 8 := by
  unfold progCode at h
  split at h
  · cases h
  · rename_i hb
    obtain ⟨h1, j, rfl, hj, h2, hk⟩ := may_zero h
    have h8 := (hk.1 _ (List.getElem_mem hj)).1
    have hu := usedN_le (c.blocks[j]).pages
    have := of_decide_eq_false h1
    rw [nextPage_at hj] at this
    exact ⟨by omega, j, rfl, hj, h2, hk, by omega, h8⟩
theorem prB_row (b : Bytes) (x : Block) (h : usedN x.pages < x.pages.length) : ((Block.row x).modify 0 fun _ => TV.sl 2 ((x.pages.map Page.row).modify (usedN x.pages) fun r => TV.bool true :: TV.sl 1 (bytesR b) :: r.drop 2)) = Block.row (prB b x) := by
  rw [mod_map Page.row _ (fun _ => { used := true, b := b }) x.pages (usedN x.pages) h rfl]; rfl
theorem prB_rows (b : Bytes) (l : List Block) (j : Nat) (hj : j < l.length) (h : usedN (l[j]).pages < (l[j]).pages.length) :
    ((l.map Block.row).modify j fun x => x.modify 0 fun _ => TV.sl 2 (((l[j]).pages.map Page.row).modify (usedN (l[j]).pages) fun r => TV.bool true :: TV.sl 1 (bytesR b) :: r.drop 2)) = (l.modify j (prB b)).map Block.row :=
  mod_map Block.row _ (prB b) l j hj (prB_row b _ h)
theorem sS_Program (c : Chip) (k : Int) (b : Bytes) (hf : c.fine) (hs : c.sz < 2 ^ 40) (hb : b.length < 2 ^ 40) :
    Spec Try.prog 92 [c.x, .int .i64 k, .ext 1 (bytesR b)] (.tup [(progC c k b).o, .int .i64 (progCode c k b)]) [.undef, .undef, .undef] := by
  have hl := chip_len hf
  have hPr := sS_l10Program c k b hf hs (by omega)
  by_cases h : progCode c k b = 0
  · obtain ⟨hb4, j, rfl, hj, b1, hk, hu, h8⟩ := prog_info h
    have hj' : (j : Int) < (c.blocks.length : Nat) := by omega
    have hn := sS_NextPage c j hs
    rw [nextPage_at hj] at hn
    have hu' : ((usedN (c.blocks[j]).pages : Nat) : Int) < ((c.blocks[j]).pages.length : Nat) := by omega
    rw [h] at hPr
    rw [progC, if_pos h, h]
    refine spec_C hmx p_S_Program [] 975 [] ⟨Nat.le_of_ble_eq_true rfl, Nat.le_of_ble_eq_true rfl⟩ rfl rfl ?_
    intro w hP hmd hks hQ
    unfold c_S_Program
    simp +decide (maxSteps := 20000000) (disch := omega) only [↓SBK, ↓SBK2, SX, Nat.reduceEqDiff, Nat.reduceAdd, Nat.reduceMul, Nat.reduceSub, ↓reduceIte, Int.reduceNeg, Int.reduceToNat, Int.reducePow, hmd, hks, hQ]
    (first | refine call_i hP (sS_l10Copy c hs) (.inl ⟨rfl, fun _ hx => nomatch hx⟩) ?_ | refine callH_i hP (sS_l10Copy c hs) (.inl ⟨rfl, fun _ hx => nomatch hx⟩) ?_)
    simp +decide (maxSteps := 20000000) (disch := omega) only [↓SBK, ↓SBK2, SX, Nat.reduceEqDiff, Nat.reduceAdd, Nat.reduceMul, Nat.reduceSub, ↓reduceIte, Int.reduceNeg, Int.reduceToNat, Int.reducePow, hmd, hks, hQ]
    (first | refine call_i hP (hPr) (.inl ⟨rfl, fun _ hx => nomatch hx⟩) ?_ | refine callH_i hP (hPr) (.inl ⟨rfl, fun _ hx => nomatch hx⟩) ?_)
    simp +decide (maxSteps := 20000000) (disch := omega) only [↓SBK, ↓SBK2, SX, Nat.reduceEqDiff, Nat.reduceAdd, Nat.reduceMul, Nat.reduceSub, ↓reduceIte, Int.reduceNeg, Int.reduceToNat, Int.reducePow, hmd, hks, hQ, getE hj']
    (first | refine call_i hP (hn) (.inl ⟨rfl, fun _ hx => nomatch hx⟩) ?_ | refine callH_i hP (hn) (.inl ⟨rfl, fun _ hx => nomatch hx⟩) ?_)
    simp +decide (maxSteps := 20000000) (disch := omega) only [↓SBK, ↓SBK2, SX, Nat.reduceEqDiff, Nat.reduceAdd, Nat.reduceMul, Nat.reduceSub, ↓reduceIte, Int.reduceNeg, Int.reduceToNat, Int.reducePow, hmd, hks, hQ, getE hj']
    rw [prB_rows b c.blocks j hj (by omega)]
  · rw [progC, if_neg h]
    have d : decide (progCode c k b = 0) = false := decide_eq_false h
    refine spec_C hmx p_S_Program [] 975 [] ⟨Nat.le_of_ble_eq_true rfl, Nat.le_of_ble_eq_true rfl⟩ rfl rfl ?_
    intro w hP hmd hks hQ
    unfold c_S_Program
    simp +decide (maxSteps := 20000000) (disch := omega) only [↓SBK, ↓SBK2, SX, Nat.reduceEqDiff, Nat.reduceAdd, Nat.reduceMul, Nat.reduceSub, ↓reduceIte, Int.reduceNeg, Int.reduceToNat, Int.reducePow, hmd, hks, hQ]
    (first | refine call_i hP (sS_l10Copy c hs) (.inl ⟨rfl, fun _ hx => nomatch hx⟩) ?_ | refine callH_i hP (sS_l10Copy c hs) (.inl ⟨rfl, fun _ hx => nomatch hx⟩) ?_)
    simp +decide (maxSteps := 20000000) (disch := omega) only [↓SBK, ↓SBK2, SX, Nat.reduceEqDiff, Nat.reduceAdd, Nat.reduceMul, Nat.reduceSub, ↓reduceIte, Int.reduceNeg, Int.reduceToNat, Int.reducePow, hmd, hks, hQ]
    (first | refine call_i hP (hPr) (.inl ⟨rfl, fun _ hx => nomatch hx⟩) ?_ | refine callH_i hP (hPr) (.inl ⟨rfl, fun _ hx => nomatch hx⟩) ?_)
    simp +decide (maxSteps := 20000000) (disch := omega) only [↓SBK, ↓SBK2, SX, Nat.reduceEqDiff, Nat.reduceAdd, Nat.reduceMul, Nat.reduceSub, ↓reduceIte, Int.reduceNeg, Int.reduceToNat, Int.reducePow, hmd, hks, hQ, d]
theorem sI_Program (c : Chip) (k : Int) (b : Bytes) (hf : c.fine) (hs : c.sz < 2 ^ 40) (hb : b.length < 2 ^ 40) :
    Spec Try.prog 78 [c.x, .int .i64 k, .ext 1 (bytesR b)] (.tup [(progC c k b).o, .int .i64 (progCode c k b)]) [.undef, .undef, .undef] := by
  have hl := chip_len hf
  have hc := sI_ChipOk c hf
  have hbk := s_isBlock c k hs
  have hn := sI_NextPage c k hs
  by_cases h1 : chipOk c = true
  · rw [h1] at hc
    by_cases h2 : 0 ≤ k ∧ k < (c.blocks.length : Nat)
    · rw [(inR_iff _ _ _).2 (by omega)] at hbk
      obtain ⟨j, rfl⟩ : ∃ j : Nat, k = j := ⟨k.toNat, by omega⟩
      have hj' : (j : Int) < (c.blocks.length : Nat) := h2.2
      have hj : j < c.blocks.length := by omega
      have hk : okC c := by simpa [chipOk] using h1
      rw [nextPage_at hj] at hn
      have h8 := (hk.1 _ (List.getElem_mem hj)).1
      have hu := usedN_le (c.blocks[j]).pages
      have ec := fun f => may_some (full := f) h1 (blk_nat hj')
      by_cases h4 : 400 < (b.length : Int)
      · have d4 : decide (400 < (b.length : Int)) = true := decide_eq_true h4
        have e0 : progCode c j b = 1 := by rw [progCode, if_pos h4]
        rw [progC, if_neg (by rw [e0]; decide), e0]
        refine spec_C hmx p_I_Program [] 463 [] ⟨Nat.le_of_ble_eq_true rfl, Nat.le_of_ble_eq_true rfl⟩ rfl rfl ?_
        intro w hP hmd hks hQ
        unfold c_I_Program
        simp +decide (maxSteps := 20000000) (disch := omega) only [↓SBK, ↓SBK2, SX, Nat.reduceEqDiff, Nat.reduceAdd, Nat.reduceMul, Nat.reduceSub, ↓reduceIte, Int.reduceNeg, Int.reduceToNat, Int.reducePow, hmd, hks, hQ]
        (first | refine call_i hP (sI_copyChip c hs) (.inl ⟨rfl, fun _ hx => nomatch hx⟩) ?_ | refine callH_i hP (sI_copyChip c hs) (.inl ⟨rfl, fun _ hx => nomatch hx⟩) ?_)
        simp +decide (maxSteps := 20000000) (disch := omega) only [↓SBK, ↓SBK2, SX, Nat.reduceEqDiff, Nat.reduceAdd, Nat.reduceMul, Nat.reduceSub, ↓reduceIte, Int.reduceNeg, Int.reduceToNat, Int.reducePow, hmd, hks, hQ]
        (first | refine call_i hP (hc) (.inl ⟨rfl, fun _ hx => nomatch hx⟩) ?_ | refine callH_i hP (hc) (.inl ⟨rfl, fun _ hx => nomatch hx⟩) ?_)
        simp +decide (maxSteps := 20000000) (disch := omega) only [↓SBK, ↓SBK2, SX, Nat.reduceEqDiff, Nat.reduceAdd, Nat.reduceMul, Nat.reduceSub, ↓reduceIte, Int.reduceNeg, Int.reduceToNat, Int.reducePow, hmd, hks, hQ]
        (first | refine call_i hP (hbk) (.inl ⟨rfl, fun _ hx => nomatch hx⟩) ?_ | refine callH_i hP (hbk) (.inl ⟨rfl, fun _ hx => nomatch hx⟩) ?_)
        simp +decide (maxSteps := 20000000) (disch := omega) only [↓SBK, ↓SBK2, SX, Nat.reduceEqDiff, Nat.reduceAdd, Nat.reduceMul, Nat.reduceSub, ↓reduceIte, Int.reduceNeg, Int.reduceToNat, Int.reducePow, hmd, hks, hQ, d4]
      · have d4 : decide (400 < (b.length : Int)) = false := decide_eq_false h4
        cases h5 : (c.blocks[j]).bad with
        | true =>
          have e0 : progCode c j b = 2 := by rw [progCode, if_neg h4, ec, if_pos h5]
          rw [progC, if_neg (by rw [e0]; decide), e0]
          refine spec_C hmx p_I_Program [] 463 [] ⟨Nat.le_of_ble_eq_true rfl, Nat.le_of_ble_eq_true rfl⟩ rfl rfl ?_
          intro w hP hmd hks hQ
          unfold c_I_Program
          simp +decide (maxSteps := 20000000) (disch := omega) only [↓SBK, ↓SBK2, SX, Nat.reduceEqDiff, Nat.reduceAdd, Nat.reduceMul, Nat.reduceSub, ↓reduceIte, Int.reduceNeg, Int.reduceToNat, Int.reducePow, hmd, hks, hQ]
          (first | refine call_i hP (sI_copyChip c hs) (.inl ⟨rfl, fun _ hx => nomatch hx⟩) ?_ | refine callH_i hP (sI_copyChip c hs) (.inl ⟨rfl, fun _ hx => nomatch hx⟩) ?_)
          simp +decide (maxSteps := 20000000) (disch := omega) only [↓SBK, ↓SBK2, SX, Nat.reduceEqDiff, Nat.reduceAdd, Nat.reduceMul, Nat.reduceSub, ↓reduceIte, Int.reduceNeg, Int.reduceToNat, Int.reducePow, hmd, hks, hQ]
          (first | refine call_i hP (hc) (.inl ⟨rfl, fun _ hx => nomatch hx⟩) ?_ | refine callH_i hP (hc) (.inl ⟨rfl, fun _ hx => nomatch hx⟩) ?_)
          simp +decide (maxSteps := 20000000) (disch := omega) only [↓SBK, ↓SBK2, SX, Nat.reduceEqDiff, Nat.reduceAdd, Nat.reduceMul, Nat.reduceSub, ↓reduceIte, Int.reduceNeg, Int.reduceToNat, Int.reducePow, hmd, hks, hQ]
          (first | refine call_i hP (hbk) (.inl ⟨rfl, fun _ hx => nomatch hx⟩) ?_ | refine callH_i hP (hbk) (.inl ⟨rfl, fun _ hx => nomatch hx⟩) ?_)
          simp +decide (maxSteps := 20000000) (disch := omega) only [↓SBK, ↓SBK2, SX, Nat.reduceEqDiff, Nat.reduceAdd, Nat.reduceMul, Nat.reduceSub, ↓reduceIte, Int.reduceNeg, Int.reduceToNat, Int.reducePow, hmd, hks, hQ, d4]
          (first | refine call_i hP (hn) (.inl ⟨rfl, fun _ hx => nomatch hx⟩) ?_ | refine callH_i hP (hn) (.inl ⟨rfl, fun _ hx => nomatch hx⟩) ?_)
          simp +decide (maxSteps := 20000000) (disch := omega) only [↓SBK, ↓SBK2, SX, Nat.reduceEqDiff, Nat.reduceAdd, Nat.reduceMul, Nat.reduceSub, ↓reduceIte, Int.reduceNeg, Int.reduceToNat, Int.reducePow, hmd, hks, hQ, getE hj', h5]
        | false =>
          by_cases h6 : ((usedN (c.blocks[j]).pages : Nat) : Int) = 8
          · have d6 : decide (((usedN (c.blocks[j]).pages : Nat) : Int) = 8) = true := decide_eq_true h6
            have e0 : progCode c j b = 5 := by rw [progCode, if_neg h4, ec, if_neg (by rw [h5]; decide), nextPage_at hj, if_pos d6]
            rw [progC, if_neg (by rw [e0]; decide), e0]
            refine spec_C hmx p_I_Program [] 463 [] ⟨Nat.le_of_ble_eq_true rfl, Nat.le_of_ble_eq_true rfl⟩ rfl rfl ?_
            intro w hP hmd hks hQ
            unfold c_I_Program
            simp +decide (maxSteps := 20000000) (disch := omega) only [↓SBK, ↓SBK2, SX, Nat.reduceEqDiff, Nat.reduceAdd, Nat.reduceMul, Nat.reduceSub, ↓reduceIte, Int.reduceNeg, Int.reduceToNat, Int.reducePow, hmd, hks, hQ]
            (first | refine call_i hP (sI_copyChip c hs) (.inl ⟨rfl, fun _ hx => nomatch hx⟩) ?_ | refine callH_i hP (sI_copyChip c hs) (.inl ⟨rfl, fun _ hx => nomatch hx⟩) ?_)
            simp +decide (maxSteps := 20000000) (disch := omega) only [↓SBK, ↓SBK2, SX, Nat.reduceEqDiff, Nat.reduceAdd, Nat.reduceMul, Nat.reduceSub, ↓reduceIte, Int.reduceNeg, Int.reduceToNat, Int.reducePow, hmd, hks, hQ]
            (first | refine call_i hP (hc) (.inl ⟨rfl, fun _ hx => nomatch hx⟩) ?_ | refine callH_i hP (hc) (.inl ⟨rfl, fun _ hx => nomatch hx⟩) ?_)
            simp +decide (maxSteps := 20000000) (disch := omega) only [↓SBK, ↓SBK2, SX, Nat.reduceEqDiff, Nat.reduceAdd, Nat.reduceMul, Nat.reduceSub, ↓reduceIte, Int.reduceNeg, Int.reduceToNat, Int.reducePow, hmd, hks, hQ]
            (first | refine call_i hP (hbk) (.inl ⟨rfl, fun _ hx => nomatch hx⟩) ?_ | refine callH_i hP (hbk) (.inl ⟨rfl, fun _ hx => nomatch hx⟩) ?_)
            simp +decide (maxSteps := 20000000) (disch := omega) only [↓SBK, ↓SBK2, SX, Nat.reduceEqDiff, Nat.reduceAdd, Nat.reduceMul, Nat.reduceSub, ↓reduceIte, Int.reduceNeg, Int.reduceToNat, Int.reducePow, hmd, hks, hQ, d4]
            (first | refine call_i hP (hn) (.inl ⟨rfl, fun _ hx => nomatch hx⟩) ?_ | refine callH_i hP (hn) (.inl ⟨rfl, fun _ hx => nomatch hx⟩) ?_)
            simp +decide (maxSteps := 20000000) (disch := omega) only [↓SBK, ↓SBK2, SX, Nat.reduceEqDiff, Nat.reduceAdd, Nat.reduceMul, Nat.reduceSub, ↓reduceIte, Int.reduceNeg, Int.reduceToNat, Int.reducePow, hmd, hks, hQ, getE hj', h5, d6]
          · have d6 : decide (((usedN (c.blocks[j]).pages : Nat) : Int) = 8) = false := decide_eq_false h6
            have hu' : ((usedN (c.blocks[j]).pages : Nat) : Int) < ((c.blocks[j]).pages.length : Nat) := by omega
            have e0 : progCode c j b = 0 := by rw [progCode, if_neg h4, ec, if_neg (by rw [h5]; decide), nextPage_at hj, d6]; rfl
            rw [progC, if_pos e0, e0]
            refine spec_C hmx p_I_Program [] 463 [] ⟨Nat.le_of_ble_eq_true rfl, Nat.le_of_ble_eq_true rfl⟩ rfl rfl ?_
            intro w hP hmd hks hQ
            unfold c_I_Program
            simp +decide (maxSteps := 20000000) (disch := omega) only [↓SBK, ↓SBK2, SX, Nat.reduceEqDiff, Nat.reduceAdd, Nat.reduceMul, Nat.reduceSub, ↓reduceIte, Int.reduceNeg, Int.reduceToNat, Int.reducePow, hmd, hks, hQ]
            (first | refine call_i hP (sI_copyChip c hs) (.inl ⟨rfl, fun _ hx => nomatch hx⟩) ?_ | refine callH_i hP (sI_copyChip c hs) (.inl ⟨rfl, fun _ hx => nomatch hx⟩) ?_)
            simp +decide (maxSteps := 20000000) (disch := omega) only [↓SBK, ↓SBK2, SX, Nat.reduceEqDiff, Nat.reduceAdd, Nat.reduceMul, Nat.reduceSub, ↓reduceIte, Int.reduceNeg, Int.reduceToNat, Int.reducePow, hmd, hks, hQ]
            (first | refine call_i hP (hc) (.inl ⟨rfl, fun _ hx => nomatch hx⟩) ?_ | refine callH_i hP (hc) (.inl ⟨rfl, fun _ hx => nomatch hx⟩) ?_)
            simp +decide (maxSteps := 20000000) (disch := omega) only [↓SBK, ↓SBK2, SX, Nat.reduceEqDiff, Nat.reduceAdd, Nat.reduceMul, Nat.reduceSub, ↓reduceIte, Int.reduceNeg, Int.reduceToNat, Int.reducePow, hmd, hks, hQ]
            (first | refine call_i hP (hbk) (.inl ⟨rfl, fun _ hx => nomatch hx⟩) ?_ | refine callH_i hP (hbk) (.inl ⟨rfl, fun _ hx => nomatch hx⟩) ?_)
            simp +decide (maxSteps := 20000000) (disch := omega) only [↓SBK, ↓SBK2, SX, Nat.reduceEqDiff, Nat.reduceAdd, Nat.reduceMul, Nat.reduceSub, ↓reduceIte, Int.reduceNeg, Int.reduceToNat, Int.reducePow, hmd, hks, hQ, d4]
            (first | refine call_i hP (hn) (.inl ⟨rfl, fun _ hx => nomatch hx⟩) ?_ | refine callH_i hP (hn) (.inl ⟨rfl, fun _ hx => nomatch hx⟩) ?_)
            simp +decide (maxSteps := 20000000) (disch := omega) only [↓SBK, ↓SBK2, SX, Nat.reduceEqDiff, Nat.reduceAdd, Nat.reduceMul, Nat.reduceSub, ↓reduceIte, Int.reduceNeg, Int.reduceToNat, Int.reducePow, hmd, hks, hQ, getE hj', h5, d6]
            (first | refine call_i hP (s_Clone8 b hb) (.inl ⟨rfl, fun _ hx => nomatch hx⟩) ?_ | refine callH_i hP (s_Clone8 b hb) (.inl ⟨rfl, fun _ hx => nomatch hx⟩) ?_)
            simp +decide (maxSteps := 20000000) (disch := omega) only [↓SBK, ↓SBK2, SX, Nat.reduceEqDiff, Nat.reduceAdd, Nat.reduceMul, Nat.reduceSub, ↓reduceIte, Int.reduceNeg, Int.reduceToNat, Int.reducePow, hmd, hks, hQ, getE hj']
            rw [prB_rows b c.blocks j hj (by omega)]
    · have hnb : inR k 0 ((c.blocks.length : Nat) - 1) = false := by
        cases hx : inR k 0 ((c.blocks.length : Nat) - 1) with
        | false => rfl
        | true => have := (inR_iff _ _ _).1 hx; omega
      rw [hnb] at hbk
      have e0 : progCode c k b = 1 := by
        unfold progCode
        split
        · rfl
        · exact may_none (blk_none h2)
      rw [progC, if_neg (by rw [e0]; decide), e0]
      refine spec_C hmx p_I_Program [] 463 [] ⟨Nat.le_of_ble_eq_true rfl, Nat.le_of_ble_eq_true rfl⟩ rfl rfl ?_
      intro w hP hmd hks hQ
      unfold c_I_Program
      simp +decide (maxSteps := 20000000) (disch := omega) only [↓SBK, ↓SBK2, SX, Nat.reduceEqDiff, Nat.reduceAdd, Nat.reduceMul, Nat.reduceSub, ↓reduceIte, Int.reduceNeg, Int.reduceToNat, Int.reducePow, hmd, hks, hQ]
      (first | refine call_i hP (sI_copyChip c hs) (.inl ⟨rfl, fun _ hx => nomatch hx⟩) ?_ | refine callH_i hP (sI_copyChip c hs) (.inl ⟨rfl, fun _ hx => nomatch hx⟩) ?_)
      simp +decide (maxSteps := 20000000) (disch := omega) only [↓SBK, ↓SBK2, SX, Nat.reduceEqDiff, Nat.reduceAdd, Nat.reduceMul, Nat.reduceSub, ↓reduceIte, Int.reduceNeg, Int.reduceToNat, Int.reducePow, hmd, hks, hQ]
      (first | refine call_i hP (hc) (.inl ⟨rfl, fun _ hx => nomatch hx⟩) ?_ | refine callH_i hP (hc) (.inl ⟨rfl, fun _ hx => nomatch hx⟩) ?_)
      simp +decide (maxSteps := 20000000) (disch := omega) only [↓SBK, ↓SBK2, SX, Nat.reduceEqDiff, Nat.reduceAdd, Nat.reduceMul, Nat.reduceSub, ↓reduceIte, Int.reduceNeg, Int.reduceToNat, Int.reducePow, hmd, hks, hQ]
      (first | refine call_i hP (hbk) (.inl ⟨rfl, fun _ hx => nomatch hx⟩) ?_ | refine callH_i hP (hbk) (.inl ⟨rfl, fun _ hx => nomatch hx⟩) ?_)
      simp +decide (maxSteps := 20000000) (disch := omega) only [↓SBK, ↓SBK2, SX, Nat.reduceEqDiff, Nat.reduceAdd, Nat.reduceMul, Nat.reduceSub, ↓reduceIte, Int.reduceNeg, Int.reduceToNat, Int.reducePow, hmd, hks, hQ]
  · have h1' : chipOk c = false := by simpa using h1
    rw [h1'] at hc
    have e0 : progCode c k b = 1 := by
      unfold progCode
      split
      · rfl
      · exact may_bad h1
    rw [progC, if_neg (by rw [e0]; decide), e0]
    refine spec_C hmx p_I_Program [] 463 [] ⟨Nat.le_of_ble_eq_true rfl, Nat.le_of_ble_eq_true rfl⟩ rfl rfl ?_
    intro w hP hmd hks hQ
    unfold c_I_Program
    simp +decide (maxSteps := 20000000) (disch := omega) only [↓SBK, ↓SBK2, SX, Nat.reduceEqDiff, Nat.reduceAdd, Nat.reduceMul, Nat.reduceSub, ↓reduceIte, Int.reduceNeg, Int.reduceToNat, Int.reducePow, hmd, hks, hQ]
    (first | refine call_i hP (sI_copyChip c hs) (.inl ⟨rfl, fun _ hx => nomatch hx⟩) ?_ | refine callH_i hP (sI_copyChip c hs) (.inl ⟨rfl, fun _ hx => nomatch hx⟩) ?_)
    simp +decide (maxSteps := 20000000) (disch := omega) only [↓SBK, ↓SBK2, SX, Nat.reduceEqDiff, Nat.reduceAdd, Nat.reduceMul, Nat.reduceSub, ↓reduceIte, Int.reduceNeg, Int.reduceToNat, Int.reducePow, hmd, hks, hQ]
    (first | refine call_i hP (hc) (.inl ⟨rfl, fun _ hx => nomatch hx⟩) ?_ | refine callH_i hP (hc) (.inl ⟨rfl, fun _ hx => nomatch hx⟩) ?_)
    simp +decide (maxSteps := 20000000) (disch := omega) only [↓SBK, ↓SBK2, SX, Nat.reduceEqDiff, Nat.reduceAdd, Nat.reduceMul, Nat.reduceSub, ↓reduceIte, Int.reduceNeg, Int.reduceToNat, Int.reducePow, hmd, hks, hQ]
theorem sum_modify2 {α : Type} (f : α → Nat) (h : α → α) (K : Nat) : ∀ (l : List α) (i : Nat) (hi : i < l.length), f (h l[i]) ≤ f l[i] + K → ((l.modify i h).map f).sum ≤ (l.map f).sum + K := by
  intro l
  induction l with
  | nil => intro i hi; simp at hi
  | cons x l ih =>
    intro i hi hK
    cases i with
    | zero => simp only [List.getElem_cons_zero] at hK; simp only [List.modify_zero_cons, List.map_cons, List.sum_cons]; omega
    | succ i => simp only [List.getElem_cons_succ] at hK; simp only [List.modify_succ_cons, List.map_cons, List.sum_cons]; have := ih i (by simpa using hi) hK; omega
theorem prB_sz (b : Bytes) (x : Block) (h : usedN x.pages < x.pages.length) : (prB b x).sz ≤ x.sz + b.length := by
  have e : (prB b x).sz = (x.pages.modify (usedN x.pages) fun _ => { used := true, b := b }).length + ((x.pages.modify (usedN x.pages) fun _ => { used := true, b := b }).map Page.sz).sum := rfl
  have e2 : x.sz = x.pages.length + (x.pages.map Page.sz).sum := rfl
  have := sum_modify2 Page.sz (fun _ => { used := true, b := b }) b.length x.pages (usedN x.pages) h (by show b.length ≤ _; omega)
  rw [List.length_modify] at e
  omega
theorem progC_sz (c : Chip) (k : Int) (b : Bytes) : (progC c k b).sz ≤ c.sz + b.length := by
  by_cases h : progCode c k b = 0
  · rw [progC, if_pos h]
    obtain ⟨hb4, j, rfl, hj, b1, hk, hu, h8⟩ := prog_info h
    have := sum_modify2 Block.sz (prB b) b.length c.blocks j hj (prB_sz b _ (by omega))
    have e1 : Chip.sz { blocks := c.blocks.modify j (prB b) } = (c.blocks.modify j (prB b)).length + ((c.blocks.modify j (prB b)).map Block.sz).sum := rfl
    have e2 : c.sz = c.blocks.length + (c.blocks.map Block.sz).sum := rfl
    rw [Int.toNat_natCast, e1, e2, List.length_modify]
    omega
  · rw [progC, if_neg h]
    omega
end Go.Proofs.Ytliklgcfdgdigaa.Awp

namespace Go.Proofs.Ytliklgcfdgdigaa.Awp
open Go.Proofs
set_option linter.unusedSimpArgs false
set_option linter.unusedVariables false
set_option maxRecDepth 100000
set_option maxHeartbeats 20000000

end Go.Proofs.Ytliklgcfdgdigaa.Awp

namespace Go.Proofs.Ytliklgcfdgdigaa.Awp
open Go.Proofs
set_option linter.unusedSimpArgs false
set_option linter.unusedVariables false
set_option maxRecDepth 100000
set_option maxHeartbeats 20000000

/-! ### right chips stay right -/
theorem okP_at {P : List Page} {i : Nat} (h : i < P.length) : okP P i ↔ (P[i].b.length ≤ 400 ∧ (P[i].used = false → P[i].b.length = 0) ∧ (0 < i → P[i].used = true → ∃ q, P[i - 1]? = some q ∧ q.used = true)) := by
  have e : P[i]? = some P[i] := List.getElem?_eq_getElem h
  constructor
  · intro hk; exact hk _ e
  · intro hk p hp; rw [e] at hp; cases hp; exact hk
/-- what is used comes first -/
theorem used_first {P : List Page} (h : ∀ i, i < P.length → okP P i) : ∀ i, (hi : i < P.length) → P[i].used = decide (i < usedN P) := by
  have down : ∀ i, (hi : i + 1 < P.length) → P[i + 1].used = true → P[i].used = true := by
    intro i hi hu
    obtain ⟨q, e1, e2⟩ := ((okP_at hi).1 (h _ hi)).2.2 (by omega) hu
    simp only [Nat.add_sub_cancel] at e1
    rw [List.getElem?_eq_getElem (show i < P.length by omega)] at e1
    cases e1; exact e2
  have down2 : ∀ k i, (hi : i + k < P.length) → P[i + k].used = true → P[i].used = true := by
    intro k
    induction k with
    | zero => intro i hi hu; exact hu
    | succ k ih => intro i hi hu; exact ih i (by omega) (down (i + k) hi hu)
  -- a threshold
  have thr : ∀ (P : List Page), (∀ i k, (hi : i + k < P.length) → P[i + k].used = true → P[i].used = true) → ∀ i, (hi : i < P.length) → P[i].used = decide (i < usedN P) := by
    intro P
    induction P with
    | nil => intro _ i hi; simp at hi
    | cons p P ih =>
      intro hd i hi
      have hd' : ∀ i k, (hi : i + k < P.length) → P[i + k].used = true → P[i].used = true := by
        intro i k hi hu
        have := hd (i + 1) k (by simp; omega) (by simpa [show i + 1 + k = i + k + 1 by omega] using hu)
        simpa using this
      cases hp : p.used with
      | true =>
        have e : usedN (p :: P) = usedN P + 1 := by simp [usedN, List.countP_cons, hp]
        rw [e]
        cases i with
        | zero => simp [hp]
        | succ i => simp only [List.getElem_cons_succ, Nat.add_lt_add_iff_right]; exact ih hd' i (by simpa using hi)
      | false =>
        have all : ∀ j, (hj : j < P.length) → P[j].used = false := by
          intro j hj
          cases hu : P[j].used with
          | false => rfl
          | true =>
            have := hd 0 (j + 1) (by simpa using hj) (by simpa [show 0 + (j + 1) = j + 1 by omega] using hu)
            simp [hp] at this
        have z : usedN P = 0 := by
          unfold usedN
          rw [List.countP_eq_zero]
          intro q hq
          obtain ⟨j, hj, rfl⟩ := List.getElem_of_mem hq
          simp [all j hj]
        have e : usedN (p :: P) = 0 := by simp only [usedN, List.countP_cons, hp]; simpa [usedN] using z
        rw [e]
        cases i with
        | zero => simp [hp]
        | succ i => simp only [List.getElem_cons_succ]; rw [all i (by simpa using hi)]; simp
  exact thr P fun i k hi hu => down2 k i hi hu
theorem okB_prB {b : Bytes} {x : Block} (hb : b.length ≤ 400) (hx : okB x) (hu : usedN x.pages < 8) : okB (prB b x) := by
  obtain ⟨h1, h2, h3⟩ := hx
  have uf := used_first h3
  refine ⟨by simp [prB, h1], h2, ?_⟩
  intro i hi
  have hi' : i < x.pages.length := by simpa [prB] using hi
  rw [okP_at hi]
  have gi : ∀ k, (hk : k < (prB b x).pages.length) → (prB b x).pages[k] = if k = usedN x.pages then { used := true, b := b } else x.pages[k]'(by simpa [prB] using hk) := by
    intro k hk
    simp only [prB, List.getElem_modify]
    by_cases e : k = usedN x.pages
    · rw [if_pos e.symm, if_pos e]
    · rw [if_neg (Ne.symm e), if_neg e]
  rw [gi i hi]
  by_cases e : i = usedN x.pages
  · rw [if_pos e]
    refine ⟨hb, fun h => (by cases h), fun h0 _ => ⟨_, List.getElem?_eq_getElem (by omega), ?_⟩⟩
    rw [gi (i - 1) (by omega), if_neg (by omega), uf]
    simp; omega
  · rw [if_neg e]
    obtain ⟨k1, k2, k3⟩ := (okP_at hi').1 (h3 i hi')
    refine ⟨k1, k2, fun h0 h => ?_⟩
    rw [uf i hi'] at h
    have h := of_decide_eq_true h
    refine ⟨_, List.getElem?_eq_getElem (by omega), ?_⟩
    rw [gi (i - 1) (by omega), if_neg (by omega), uf]
    simp; omega
theorem okB_erB {x : Block} (hx : okB x) (hw : x.wear < 100000) : okB (erB x) := by
  obtain ⟨h1, h2, h3⟩ := hx
  have h2 := (inR_iff _ _ _).1 h2
  refine ⟨by simp [erB], (inR_iff _ _ _).2 ⟨by show 0 ≤ x.wear + 1; omega, by show x.wear + 1 ≤ 100000; omega⟩, ?_⟩
  intro i hi
  rw [okP_at hi]
  have e : (erB x).pages[i] = zPage := (List.mem_replicate.1 (List.getElem_mem (l := List.replicate 8 zPage) hi)).2
  rw [e]
  exact ⟨by simp [zPage], fun _ => rfl, fun _ h => by cases h⟩
theorem okC_modify {c : Chip} {j : Nat} {f : Block → Block} (hc : okC c) (hj : j < c.blocks.length) (h : okB (f c.blocks[j])) : okC { blocks := c.blocks.modify j f } := by
  refine ⟨?_, by simpa using hc.2⟩
  intro b hb
  obtain ⟨k, hk, rfl⟩ := List.getElem_of_mem hb
  have hk' : k < c.blocks.length := by simpa using hk
  simp only [List.getElem_modify]
  by_cases e : j = k
  · subst e; rw [if_pos rfl]; exact h
  · rw [if_neg e]; exact hc.1 _ (List.getElem_mem hk')
theorem okC_progC {c : Chip} (k : Int) (b : Bytes) (hc : okC c) : okC (progC c k b) := by
  by_cases h : progCode c k b = 0
  · obtain ⟨hb4, j, rfl, hj, b1, hk, hu, h8⟩ := prog_info h
    rw [progC, if_pos h]
    exact okC_modify hc hj (okB_prB hb4 (hc.1 _ (List.getElem_mem hj)) hu)
  · rw [progC, if_neg h]; exact hc
theorem okC_eraseC {c : Chip} (k : Int) (hc : okC c) : okC (eraseC c k) := by
  by_cases h : eraseCode c k = 0
  · obtain ⟨j, rfl, hj, b1, b2, b3, hk⟩ := erase_info h
    rw [eraseC, if_pos h]
    exact okC_modify hc hj (okB_erB (hc.1 _ (List.getElem_mem hj)) b3)
  · rw [eraseC, if_neg h]; exact hc
theorem okC_new {n : Int} (h : 3 ≤ n ∧ n ≤ 24) : okC (chipNew n) := by
  have h1 : inR n 3 24 = true := (inR_iff _ _ _).2 h
  rw [chipNew_ok h1]
  refine ⟨?_, by simp only [List.length_replicate]; rw [inR_iff]; omega⟩
  intro b hb
  obtain ⟨_, rfl⟩ := List.mem_replicate.1 hb
  refine ⟨by simp [zBlock], by decide, ?_⟩
  intro i hi
  rw [okP_at hi]
  have e : zBlock.pages[i] = zPage := (List.mem_replicate.1 (List.getElem_mem (l := List.replicate 8 zPage) hi)).2
  rw [e]
  exact ⟨by simp [zPage], fun _ => rfl, fun _ h => by cases h⟩
theorem sum_le {α : Type} (f : α → Nat) (m : Nat) : ∀ l : List α, (∀ x ∈ l, f x ≤ m) → (l.map f).sum ≤ l.length * m := by
  intro l
  induction l with
  | nil => intro _; simp
  | cons x l ih =>
    intro h
    have h1 := h x (by simp)
    have h2 := ih fun y hy => h y (by simp [hy])
    simp only [List.map_cons, List.sum_cons, List.length_cons, Nat.succ_mul]
    omega
theorem okB_sz {b : Block} (h : okB b) : b.sz ≤ 3208 := by
  obtain ⟨h1, h2, h3⟩ := h
  have e : b.sz = b.pages.length + (b.pages.map Page.sz).sum := rfl
  have := sum_le Page.sz 400 b.pages fun p hp => by
    obtain ⟨k, hk, rfl⟩ := List.getElem_of_mem hp
    exact ((okP_at hk).1 (h3 k hk)).1
  omega
theorem okC_sz {c : Chip} (h : okC c) : c.sz ≤ 80000 := by
  have h2 := (inR_iff _ _ _).1 h.2
  have e : c.sz = c.blocks.length + (c.blocks.map Block.sz).sum := rfl
  have := sum_le Block.sz 3208 c.blocks fun b hb => okB_sz (h.1 b hb)
  have : c.blocks.length * 3208 ≤ 24 * 3208 := Nat.mul_le_mul_right _ (by omega)
  omega
theorem fine_of_sz {c : Chip} (h : c.sz < 2 ^ 40) : c.fine := by
  have e : c.sz = c.blocks.length + (c.blocks.map Block.sz).sum := rfl
  refine ⟨by omega, fun b hb => ?_⟩
  have h1 := sum_mem (f := Block.sz) hb
  have e2 : b.sz = b.pages.length + (b.pages.map Page.sz).sum := rfl
  refine ⟨by omega, fun p hp => ?_⟩
  have h2 := sum_mem (f := Page.sz) hp
  have e3 : p.sz = p.b.length := rfl
  show p.b.length < 2 ^ 48
  omega
end Go.Proofs.Ytliklgcfdgdigaa.Awp

namespace Go.Proofs.Ytliklgcfdgdigaa.Awp
open Go.Proofs
set_option linter.unusedSimpArgs false
set_option linter.unusedVariables false
set_option maxRecDepth 100000
set_option maxHeartbeats 20000000

/-! ### drawn chips -/
def badB (x : Block) : Block := { pages := x.pages, wear := x.wear, bad := true }
theorem okB_bad {x : Block} (h : okB x) : okB (badB x) := h
theorem s_l10Draw (v : Value) (b : Bytes) (i : Nat) (h : Int) (hl : b.length < 2 ^ 48) (hi : i ≤ b.length) : ∃ (c : Chip) (i' : Nat) (h' : Int), okC c ∧ i' ≤ b.length ∧
    Spec Try.prog 147 [cur v b i h] c.o [cur v b i' h'] := by
  have key : ∃ ret outs, (∃ (c : Chip) (i' : Nat) (h' : Int), okC c ∧ i' ≤ b.length ∧ ret = c.o ∧ outs = [cur v b i' h']) ∧ Spec Try.prog 147 [cur v b i h] ret outs := by
    obtain ⟨x, i1, h1, hx, hi1, k1⟩ := s_l1Below v b i h 3 hl hi (by decide)
    obtain ⟨y, i2, h2, hy, hi2, k2⟩ := s_l1Below v b i1 h1 20 hl hi1 (by decide)
    rw [below, if_pos (by decide)] at hx hy
    unfold cur at *
    refine specEx_C hmx p_S_l10Draw [(148, [.l, .b], []), (154, [.l, .b], []), (153, [.l], [])] 61 [true] ⟨Nat.le_of_ble_eq_true rfl, Nat.le_of_ble_eq_true rfl⟩ rfl ?_
    intro w hP hmd hks hQ
    unfold c_S_l10Draw
    simp +decide (maxSteps := 20000000) (disch := omega) only [↓SBK, ↓SBK2, SX, Nat.reduceEqDiff, Nat.reduceAdd, Nat.reduceMul, Nat.reduceSub, ↓reduceIte, Int.reduceNeg, Int.reduceToNat, Int.reducePow, hmd, hks, hQ]
    (first | refine call_i hP (k1) (.inl ⟨rfl, fun _ hx => hx⟩) ?_ | refine callH_i hP (k1) (.inl ⟨rfl, fun _ hx => hx⟩) ?_)
    simp +decide (maxSteps := 20000000) (disch := omega) only [↓SBK, ↓SBK2, SX, Nat.reduceEqDiff, Nat.reduceAdd, Nat.reduceMul, Nat.reduceSub, ↓reduceIte, Int.reduceNeg, Int.reduceToNat, Int.reducePow, hmd, hks, hQ]
    (first | refine call_i hP (sS_ChipNew (3 + x)) (.inl ⟨rfl, fun _ hx => nomatch hx⟩) ?_ | refine callH_i hP (sS_ChipNew (3 + x)) (.inl ⟨rfl, fun _ hx => nomatch hx⟩) ?_)
    simp +decide (maxSteps := 20000000) (disch := omega) only [↓SBK, ↓SBK2, SX, Nat.reduceEqDiff, Nat.reduceAdd, Nat.reduceMul, Nat.reduceSub, ↓reduceIte, Int.reduceNeg, Int.reduceToNat, Int.reducePow, hmd, hks, hQ]
    (first | refine call_i hP (k2) (.inl ⟨rfl, fun _ hx => hx⟩) ?_ | refine callH_i hP (k2) (.inl ⟨rfl, fun _ hx => hx⟩) ?_)
    simp +decide (maxSteps := 20000000) (disch := omega) only [↓SBK, ↓SBK2, SX, Nat.reduceEqDiff, Nat.reduceAdd, Nat.reduceMul, Nat.reduceSub, ↓reduceIte, Int.reduceNeg, Int.reduceToNat, Int.reducePow, hmd, hks, hQ]
    refine LH_D [5] ?_
    simp +decide (maxSteps := 20000000) (disch := omega) only [↓SBK, ↓SBK2, SX, Nat.reduceEqDiff, Nat.reduceAdd, Nat.reduceMul, Nat.reduceSub, ↓reduceIte, Int.reduceNeg, Int.reduceToNat, Int.reducePow, hmd, hks, hQ]
    refine loop_d [5] (fun s : Nat × Chip × Nat × Int => [(1000, .box [.extv v 1 (bytesR b), .int .i64 (s.2.2.1 : Nat), .int .i64 s.2.2.2]), (5003, .box [.own 3 (s.2.1.blocks.map Block.row)]), (4, .int .i64 (s.1 : Nat))]) (fun s => s.1 ≤ 20 ∧ okC s.2.1 ∧ s.2.2.1 ≤ b.length) (fun s => s.1) ((y, chipNew (3 + x), i2, h2)) hP hmd hks (rfl) (⟨by simp only; omega, okC_new (by omega), hi2⟩) ?_
    rintro ⟨m, c, j, g⟩ ⟨g1, g2, g3⟩ w1 hP1 hmd1 hks1 hQ1
    simp +decide (maxSteps := 20000000) (disch := omega) only [↓SBK, ↓SBK2, SX, Nat.reduceEqDiff, Nat.reduceAdd, Nat.reduceMul, Nat.reduceSub, ↓reduceIte, Int.reduceNeg, Int.reduceToNat, Int.reducePow, hmd, hks, hQ, hmd1, hks1, hQ1]
    simp only at g1 g2 g3
    (first | with_reducible refine if_d _ ?_ ?_ | refine if_i _ ?_ ?_) <;> intro e1
    · have hs := okC_sz g2
      have hf := fine_of_sz (c := c) (by omega)
      have hlen := chip_l (c := c) (n := 2 ^ 40) (by omega)
      obtain ⟨n, j1, q1, hn, hj1, l1⟩ := s_l1Below v b j g c.blocks.length hl g3 (by omega)
      obtain ⟨t, j2, q2, hj2, l2⟩ := s_l1Once v b j1 q1 6 hl hj1 (by decide)
      unfold cur at l1 l2
      simp +decide (maxSteps := 20000000) (disch := omega) only [↓SBK, ↓SBK2, SX, Nat.reduceEqDiff, Nat.reduceAdd, Nat.reduceMul, Nat.reduceSub, ↓reduceIte, Int.reduceNeg, Int.reduceToNat, Int.reducePow, hmd, hks, hQ, hmd1, hks1, hQ1]
      (first | refine call_i hP1 (l1) (.inl ⟨rfl, fun _ hx => hx⟩) ?_ | refine callH_i hP1 (l1) (.inl ⟨rfl, fun _ hx => hx⟩) ?_)
      simp +decide (maxSteps := 20000000) (disch := omega) only [↓SBK, ↓SBK2, SX, Nat.reduceEqDiff, Nat.reduceAdd, Nat.reduceMul, Nat.reduceSub, ↓reduceIte, Int.reduceNeg, Int.reduceToNat, Int.reducePow, hmd, hks, hQ, hmd1, hks1, hQ1]
      (first | refine call_i hP1 (l2) (.inl ⟨rfl, fun _ hx => hx⟩) ?_ | refine callH_i hP1 (l2) (.inl ⟨rfl, fun _ hx => hx⟩) ?_)
      simp +decide (maxSteps := 20000000) (disch := omega) only [↓SBK, ↓SBK2, SX, Nat.reduceEqDiff, Nat.reduceAdd, Nat.reduceMul, Nat.reduceSub, ↓reduceIte, Int.reduceNeg, Int.reduceToNat, Int.reducePow, hmd, hks, hQ, hmd1, hks1, hQ1]
      cases t with
      | true =>
        simp +decide (maxSteps := 20000000) (disch := omega) only [↓SBK, ↓SBK2, SX, Nat.reduceEqDiff, Nat.reduceAdd, Nat.reduceMul, Nat.reduceSub, ↓reduceIte, Int.reduceNeg, Int.reduceToNat, Int.reducePow, hmd, hks, hQ, hmd1, hks1, hQ1]
        (first | refine call_i hP1 (sS_Erase c n hf (by omega)) (.inl ⟨rfl, fun _ hx => nomatch hx⟩) ?_ | refine callH_i hP1 (sS_Erase c n hf (by omega)) (.inl ⟨rfl, fun _ hx => nomatch hx⟩) ?_)
        simp +decide (maxSteps := 20000000) (disch := omega) only [↓SBK, ↓SBK2, SX, Nat.reduceEqDiff, Nat.reduceAdd, Nat.reduceMul, Nat.reduceSub, ↓reduceIte, Int.reduceNeg, Int.reduceToNat, Int.reducePow, hmd, hks, hQ, hmd1, hks1, hQ1]
        exact ⟨(m - 1, eraseC c n, j2, q2), by simp only; rw [show ((m : Nat) : Int) - 1 = ((m - 1 : Nat) : Int) by omega], ⟨by simp only; omega, okC_eraseC _ g2, hj2⟩, by simp only; omega⟩
      | false =>
        obtain ⟨z, j3, q3, hz, hj3, l3⟩ := s_l1Some v b j2 q2 hl hj2
        unfold cur at l3
        simp +decide (maxSteps := 20000000) (disch := omega) only [↓SBK, ↓SBK2, SX, Nat.reduceEqDiff, Nat.reduceAdd, Nat.reduceMul, Nat.reduceSub, ↓reduceIte, Int.reduceNeg, Int.reduceToNat, Int.reducePow, hmd, hks, hQ, hmd1, hks1, hQ1]
        (first | refine call_i hP1 (l3) (.inl ⟨rfl, fun _ hx => hx⟩) ?_ | refine callH_i hP1 (l3) (.inl ⟨rfl, fun _ hx => hx⟩) ?_)
        simp +decide (maxSteps := 20000000) (disch := omega) only [↓SBK, ↓SBK2, SX, Nat.reduceEqDiff, Nat.reduceAdd, Nat.reduceMul, Nat.reduceSub, ↓reduceIte, Int.reduceNeg, Int.reduceToNat, Int.reducePow, hmd, hks, hQ, hmd1, hks1, hQ1]
        (first | refine call_i hP1 (sS_Program c n z hf (by omega) (by omega)) (.inl ⟨rfl, fun _ hx => nomatch hx⟩) ?_ | refine callH_i hP1 (sS_Program c n z hf (by omega) (by omega)) (.inl ⟨rfl, fun _ hx => nomatch hx⟩) ?_)
        simp +decide (maxSteps := 20000000) (disch := omega) only [↓SBK, ↓SBK2, SX, Nat.reduceEqDiff, Nat.reduceAdd, Nat.reduceMul, Nat.reduceSub, ↓reduceIte, Int.reduceNeg, Int.reduceToNat, Int.reducePow, hmd, hks, hQ, hmd1, hks1, hQ1]
        exact ⟨(m - 1, progC c n z, j3, q3), by simp only; rw [show ((m : Nat) : Int) - 1 = ((m - 1 : Nat) : Int) by omega], ⟨by simp only; omega, okC_progC _ _ g2, hj3⟩, by simp only; omega⟩
    · have hs := okC_sz g2
      have hlen := chip_l (c := c) (n := 2 ^ 40) (by omega)
      have hl3 := (inR_iff _ _ _).1 g2.2
      obtain ⟨t, j2, q2, hj2, l2⟩ := s_l1Once v b j g 3 hl g3 (by decide)
      unfold cur at l2
      simp +decide (maxSteps := 20000000) (disch := omega) only [↓SBK, ↓SBK2, SX, Nat.reduceEqDiff, Nat.reduceAdd, Nat.reduceMul, Nat.reduceSub, ↓reduceIte, Int.reduceNeg, Int.reduceToNat, Int.reducePow, hmd, hks, hQ, hmd1, hks1, hQ1]
      (first | refine call_i hP (l2) (.inl ⟨rfl, fun _ hx => hx⟩) ?_ | refine callH_i hP (l2) (.inl ⟨rfl, fun _ hx => hx⟩) ?_)
      simp +decide (maxSteps := 20000000) (disch := omega) only [↓SBK, ↓SBK2, SX, Nat.reduceEqDiff, Nat.reduceAdd, Nat.reduceMul, Nat.reduceSub, ↓reduceIte, Int.reduceNeg, Int.reduceToNat, Int.reducePow, hmd, hks, hQ]
      cases t with
      | false =>
        simp +decide (maxSteps := 20000000) (disch := omega) only [↓SBK, ↓SBK2, SX, Nat.reduceEqDiff, Nat.reduceAdd, Nat.reduceMul, Nat.reduceSub, ↓reduceIte, Int.reduceNeg, Int.reduceToNat, Int.reducePow, hmd, hks, hQ]
        exact ⟨c, j2, q2, g2, hj2, rfl, rfl⟩
      | true =>
        obtain ⟨n, j1, q1, hn, hj1, l1⟩ := s_l1Below v b j2 q2 c.blocks.length hl hj2 (by omega)
        rw [below, if_pos (by omega)] at hn
        unfold cur at l1
        simp +decide (maxSteps := 20000000) (disch := omega) only [↓SBK, ↓SBK2, SX, Nat.reduceEqDiff, Nat.reduceAdd, Nat.reduceMul, Nat.reduceSub, ↓reduceIte, Int.reduceNeg, Int.reduceToNat, Int.reducePow, hmd, hks, hQ]
        (first | refine call_i hP (l1) (.inl ⟨rfl, fun _ hx => hx⟩) ?_ | refine callH_i hP (l1) (.inl ⟨rfl, fun _ hx => hx⟩) ?_)
        simp +decide (maxSteps := 20000000) (disch := omega) only [↓SBK, ↓SBK2, SX, Nat.reduceEqDiff, Nat.reduceAdd, Nat.reduceMul, Nat.reduceSub, ↓reduceIte, Int.reduceNeg, Int.reduceToNat, Int.reducePow, hmd, hks, hQ, getE hn]
        have e : ((c.blocks.map Block.row).modify n fun x => List.take 2 x ++ [TV.bool true] ++ List.drop 3 x) = (c.blocks.modify n badB).map Block.row := mod_map Block.row _ badB c.blocks n (by omega) rfl
        exact ⟨{ blocks := c.blocks.modify n badB }, j1, q1, okC_modify g2 (by omega) (okB_bad (g2.1 _ (List.getElem_mem (by omega)))), hj1, by rw [e], rfl⟩
  obtain ⟨_, _, ⟨c, i', h', hc, hi', rfl, rfl⟩, hS⟩ := key
  exact ⟨c, i', h', hc, hi', hS⟩
end Go.Proofs.Ytliklgcfdgdigaa.Awp

namespace Go.Proofs.Ytliklgcfdgdigaa.Awp
open Go.Proofs
set_option linter.unusedSimpArgs false
set_option linter.unusedVariables false
set_option maxRecDepth 100000
set_option maxHeartbeats 20000000

def zDev : Dev := { c := { blocks := [] }, ops := 0, faults := [], down := false }
def mkD (n : Int) (l : List Fault) : Dev := { c := chipNew n, ops := 0, faults := l, down := false }
noncomputable def devNew (n : Int) (l : List Fault) : Dev := if devOk (mkD n l) = true then mkD n l else zDev
theorem chipNew_fine (n : Int) : (chipNew n).fine := by
  obtain ⟨h1, h2⟩ := chipNew_blocks n
  refine ⟨by omega, fun b hb => ?_⟩
  rw [h2 b hb]
  refine ⟨by simp [zBlock], fun p hp => ?_⟩
  obtain ⟨_, rfl⟩ := List.mem_replicate.1 hp
  show ([] : Bytes).length < 2 ^ 48
  decide
theorem mkD_fine (n : Int) (l : List Fault) (h : l.length < 2 ^ 48) : (mkD n l).fine := ⟨chipNew_fine n, h⟩
theorem sS_DevNew (n : Int) (l : List Fault) (hl : l.length < 2 ^ 40) : Spec Try.prog 102 [.int .i64 n, .ext 3 (l.map Fault.row)] (devNew n l).o [.undef, .undef] := by
  have hD := sS_DevOk (mkD n l) (mkD_fine n l (by omega))
  refine spec_C hmx p_S_DevNew [] 51 [] ⟨Nat.le_of_ble_eq_true rfl, Nat.le_of_ble_eq_true rfl⟩ rfl rfl ?_
  intro w hP hmd hks hQ
  unfold c_S_DevNew
  simp +decide (maxSteps := 20000000) (disch := omega) only [↓SBK, ↓SBK2, SX, Nat.reduceEqDiff, Nat.reduceAdd, Nat.reduceMul, Nat.reduceSub, ↓reduceIte, Int.reduceNeg, Int.reduceToNat, Int.reducePow, hmd, hks, hQ]
  (first | refine call_i hP (sS_ChipNew n) (.inl ⟨rfl, fun _ hx => nomatch hx⟩) ?_ | refine callH_i hP (sS_ChipNew n) (.inl ⟨rfl, fun _ hx => nomatch hx⟩) ?_)
  simp +decide (maxSteps := 20000000) (disch := omega) only [↓SBK, ↓SBK2, SX, Nat.reduceEqDiff, Nat.reduceAdd, Nat.reduceMul, Nat.reduceSub, ↓reduceIte, Int.reduceNeg, Int.reduceToNat, Int.reducePow, hmd, hks, hQ, flatR_F]
  cases h : devOk (mkD n l) with
  | false =>
    rw [h] at hD
    (first | refine call_i hP (hD) (.inl ⟨rfl, fun _ hx => nomatch hx⟩) ?_ | refine callH_i hP (hD) (.inl ⟨rfl, fun _ hx => nomatch hx⟩) ?_)
    simp +decide (maxSteps := 20000000) (disch := omega) only [↓SBK, ↓SBK2, SX, Nat.reduceEqDiff, Nat.reduceAdd, Nat.reduceMul, Nat.reduceSub, ↓reduceIte, Int.reduceNeg, Int.reduceToNat, Int.reducePow, hmd, hks, hQ]
    rw [devNew, h]; rfl
  | true =>
    rw [h] at hD
    (first | refine call_i hP (hD) (.inl ⟨rfl, fun _ hx => nomatch hx⟩) ?_ | refine callH_i hP (hD) (.inl ⟨rfl, fun _ hx => nomatch hx⟩) ?_)
    simp +decide (maxSteps := 20000000) (disch := omega) only [↓SBK, ↓SBK2, SX, Nat.reduceEqDiff, Nat.reduceAdd, Nat.reduceMul, Nat.reduceSub, ↓reduceIte, Int.reduceNeg, Int.reduceToNat, Int.reducePow, hmd, hks, hQ]
    rw [devNew, h]; rfl
theorem sI_DevNew (n : Int) (l : List Fault) (hl : l.length < 2 ^ 40) : Spec Try.prog 104 [.int .i64 n, .ext 3 (l.map Fault.row)] (devNew n l).o [.undef, .undef] := by
  have hD := sI_DevOk (mkD n l) (mkD_fine n l (by omega))
  refine spec_C hmx p_I_DevNew [] 51 [] ⟨Nat.le_of_ble_eq_true rfl, Nat.le_of_ble_eq_true rfl⟩ rfl rfl ?_
  intro w hP hmd hks hQ
  unfold c_I_DevNew
  simp +decide (maxSteps := 20000000) (disch := omega) only [↓SBK, ↓SBK2, SX, Nat.reduceEqDiff, Nat.reduceAdd, Nat.reduceMul, Nat.reduceSub, ↓reduceIte, Int.reduceNeg, Int.reduceToNat, Int.reducePow, hmd, hks, hQ]
  (first | refine call_i hP (sI_ChipNew n) (.inl ⟨rfl, fun _ hx => nomatch hx⟩) ?_ | refine callH_i hP (sI_ChipNew n) (.inl ⟨rfl, fun _ hx => nomatch hx⟩) ?_)
  simp +decide (maxSteps := 20000000) (disch := omega) only [↓SBK, ↓SBK2, SX, Nat.reduceEqDiff, Nat.reduceAdd, Nat.reduceMul, Nat.reduceSub, ↓reduceIte, Int.reduceNeg, Int.reduceToNat, Int.reducePow, hmd, hks, hQ]
  (first | refine call_i hP (s_CloneF l hl) (.inl ⟨rfl, fun _ hx => nomatch hx⟩) ?_ | refine callH_i hP (s_CloneF l hl) (.inl ⟨rfl, fun _ hx => nomatch hx⟩) ?_)
  simp +decide (maxSteps := 20000000) (disch := omega) only [↓SBK, ↓SBK2, SX, Nat.reduceEqDiff, Nat.reduceAdd, Nat.reduceMul, Nat.reduceSub, ↓reduceIte, Int.reduceNeg, Int.reduceToNat, Int.reducePow, hmd, hks, hQ]
  cases h : devOk (mkD n l) with
  | false =>
    rw [h] at hD
    (first | refine call_i hP (hD) (.inl ⟨rfl, fun _ hx => nomatch hx⟩) ?_ | refine callH_i hP (hD) (.inl ⟨rfl, fun _ hx => nomatch hx⟩) ?_)
    simp +decide (maxSteps := 20000000) (disch := omega) only [↓SBK, ↓SBK2, SX, Nat.reduceEqDiff, Nat.reduceAdd, Nat.reduceMul, Nat.reduceSub, ↓reduceIte, Int.reduceNeg, Int.reduceToNat, Int.reducePow, hmd, hks, hQ]
    rw [devNew, h]; rfl
  | true =>
    rw [h] at hD
    (first | refine call_i hP (hD) (.inl ⟨rfl, fun _ hx => nomatch hx⟩) ?_ | refine callH_i hP (hD) (.inl ⟨rfl, fun _ hx => nomatch hx⟩) ?_)
    simp +decide (maxSteps := 20000000) (disch := omega) only [↓SBK, ↓SBK2, SX, Nat.reduceEqDiff, Nat.reduceAdd, Nat.reduceMul, Nat.reduceSub, ↓reduceIte, Int.reduceNeg, Int.reduceToNat, Int.reducePow, hmd, hks, hQ]
    rw [devNew, h]; rfl
theorem devNew_sz (n : Int) (l : List Fault) : (devNew n l).sz ≤ (chipNew n).sz + l.length := by
  unfold devNew
  split
  · exact Nat.le_refl _
  · exact Nat.zero_le _
end Go.Proofs.Ytliklgcfdgdigaa.Awp

namespace Go.Proofs.Ytliklgcfdgdigaa.Awp
open Go.Proofs
set_option linter.unusedSimpArgs false
set_option linter.unusedVariables false
set_option maxRecDepth 100000
set_option maxHeartbeats 20000000

end Go.Proofs.Ytliklgcfdgdigaa.Awp

namespace Go.Proofs.Ytliklgcfdgdigaa.Awp
open Go.Proofs
set_option linter.unusedSimpArgs false
set_option linter.unusedVariables false
set_option maxRecDepth 100000
set_option maxHeartbeats 20000000

end Go.Proofs.Ytliklgcfdgdigaa.Awp

namespace Go.Proofs.Ytliklgcfdgdigaa.Awp
open Go.Proofs
set_option linter.unusedSimpArgs false
set_option linter.unusedVariables false
set_option maxRecDepth 100000
set_option maxHeartbeats 20000000

end Go.Proofs.Ytliklgcfdgdigaa.Awp

namespace Go.Proofs.Ytliklgcfdgdigaa.Awp
open Go.Proofs
set_option linter.unusedSimpArgs false
set_option linter.unusedVariables false
set_option maxRecDepth 100000
set_option maxHeartbeats 20000000

end Go.Proofs.Ytliklgcfdgdigaa.Awp

namespace Go.Proofs.Ytliklgcfdgdigaa.Awp
open Go.Proofs
set_option linter.unusedSimpArgs false
set_option linter.unusedVariables false
set_option maxRecDepth 100000
set_option maxHeartbeats 20000000

theorem spec_ext {P : Program} {f : FuncId} {s : Nat} {es : List (List TV)} {xs outs : List AV} {ret : AV} {v : Value} (h : Spec P f (.ext s es :: xs) ret outs) : Spec P f (.extv v s es :: xs) ret outs := by
  refine ⟨h.1, h.2.1, ?_⟩
  intro w vs F X r
  cases r with
  | extv _ _ X1 X2 _ _ _ vs _ h1 hr hX => exact h.2.2 w _ F X (.ext _ _ X1 X2 _ _ _ _ _ h1 hr hX)
end Go.Proofs.Ytliklgcfdgdigaa.Awp

namespace Go.Proofs.Ytliklgcfdgdigaa.Awp
open Go.Proofs
set_option linter.unusedSimpArgs false
set_option linter.unusedVariables false
set_option maxRecDepth 100000
set_option maxHeartbeats 20000000

end Go.Proofs.Ytliklgcfdgdigaa.Awp

namespace Go.Proofs.Ytliklgcfdgdigaa.Awp
open Go.Proofs
set_option linter.unusedSimpArgs false
set_option linter.unusedVariables false
set_option maxRecDepth 100000
set_option maxHeartbeats 20000000

end Go.Proofs.Ytliklgcfdgdigaa.Awp

namespace Go.Proofs.Ytliklgcfdgdigaa.Awp
open Go.Proofs
set_option linter.unusedSimpArgs false
set_option linter.unusedVariables false
set_option maxRecDepth 100000
set_option maxHeartbeats 20000000

end Go.Proofs.Ytliklgcfdgdigaa.Awp

namespace Go.Proofs.Ytliklgcfdgdigaa.Awp
open Go.Proofs
set_option linter.unusedSimpArgs false
set_option linter.unusedVariables false
set_option maxRecDepth 100000
set_option maxHeartbeats 20000000

/-! ### a reader that is not right reads nothing -/
end Go.Proofs.Ytliklgcfdgdigaa.Awp

namespace Go.Proofs.Ytliklgcfdgdigaa.Awp
open Go.Proofs
set_option linter.unusedSimpArgs false
set_option linter.unusedVariables false
set_option maxRecDepth 100000
set_option maxHeartbeats 20000000

/-! ### a record of its bytes -/
theorem bytesR_take (b : Bytes) (n : Nat) : List.take n (bytesR b) = bytesR (b.take n) := by simp [bytesR, List.map_take]
end Go.Proofs.Ytliklgcfdgdigaa.Awp

namespace Go.Proofs.Ytliklgcfdgdigaa.Awp
open Go.Proofs
set_option linter.unusedSimpArgs false
set_option linter.unusedVariables false
set_option maxRecDepth 100000
set_option maxHeartbeats 20000000

end Go.Proofs.Ytliklgcfdgdigaa.Awp

namespace Go.Proofs.Ytliklgcfdgdigaa.Awp
open Go.Proofs
set_option linter.unusedSimpArgs false
set_option linter.unusedVariables false
set_option maxRecDepth 100000
set_option maxHeartbeats 20000000

/-! ### what begins an operation -/
theorem sI_FaultAtU (ops : Int) (l : List Fault) (down : Bool) (d : Dev) (h1 : d.ops = ops) (h2 : d.faults = l) (hl : l.length < 2 ^ 48) :
    Spec Try.prog 84 [.agg [.undef, .int .i64 ops, .ext 3 (l.map Fault.row), .bool down]] (.tup [(faultAt d).1.o, .bool (faultAt d).2]) [.undef] := by
  subst h1 h2
  refine spec_C hmx p_I_FaultAt [] 943 [] ⟨Nat.le_of_ble_eq_true rfl, Nat.le_of_ble_eq_true rfl⟩ rfl rfl ?_
  intro w hP hmd hks hQ
  unfold c_I_FaultAt
  simp +decide (maxSteps := 20000000) (disch := omega) only [↓SBK, ↓SBK2, SX, Nat.reduceEqDiff, Nat.reduceAdd, Nat.reduceMul, Nat.reduceSub, ↓reduceIte, Int.reduceNeg, Int.reduceToNat, Int.reducePow, hmd, hks, hQ]
  refine LH_D [3, 5, 5005] ?_
  simp +decide (maxSteps := 20000000) (disch := omega) only [↓SBK, ↓SBK2, SX, Nat.reduceEqDiff, Nat.reduceAdd, Nat.reduceMul, Nat.reduceSub, ↓reduceIte, Int.reduceNeg, Int.reduceToNat, Int.reducePow, hmd, hks, hQ]
  refine loop_d [3, 5, 5005] (fun i : Nat => [(9, .int .i64 i)]) (fun i => i ≤ d.faults.length ∧ ∀ k, k < i → (h : k < d.faults.length) → decide (d.faults[k].at' = d.ops) = false) (fun i => d.faults.length - i) (0) hP hmd hks (rfl) (by simp) ?_
  rintro i ⟨hi, hk⟩ w1 hP1 hmd1 hks1 hQ1
  simp +decide (maxSteps := 20000000) (disch := omega) only [↓SBK, ↓SBK2, SX, Nat.reduceEqDiff, Nat.reduceAdd, Nat.reduceMul, Nat.reduceSub, ↓reduceIte, Int.reduceNeg, Int.reduceToNat, Int.reducePow, hmd, hks, hQ, hmd1, hks1, hQ1]
  (first | with_reducible refine if_d _ ?_ ?_ | refine if_i _ ?_ ?_) <;> intro h1
  · simp +decide (maxSteps := 20000000) (disch := omega) only [↓SBK, ↓SBK2, SX, Nat.reduceEqDiff, Nat.reduceAdd, Nat.reduceMul, Nat.reduceSub, ↓reduceIte, Int.reduceNeg, Int.reduceToNat, Int.reducePow, hmd, hks, hQ, hmd1, hks1, hQ1, getE h1]
    (first | with_reducible refine if_d _ ?_ ?_ | refine if_i _ ?_ ?_) <;> intro h2
    · simp +decide (maxSteps := 20000000) (disch := omega) only [↓SBK, ↓SBK2, SX, Nat.reduceEqDiff, Nat.reduceAdd, Nat.reduceMul, Nat.reduceSub, ↓reduceIte, Int.reduceNeg, Int.reduceToNat, Int.reducePow, hmd, hks, hQ, hmd1, hks1, hQ1, getE h1]
      rw [faultAt, faultIn, find_none_step (p := fun f : Fault => decide (f.at' = d.ops)) hk (by omega) (decide_eq_true h2)]
    · simp +decide (maxSteps := 20000000) (disch := omega) only [↓SBK, ↓SBK2, SX, Nat.reduceEqDiff, Nat.reduceAdd, Nat.reduceMul, Nat.reduceSub, ↓reduceIte, Int.reduceNeg, Int.reduceToNat, Int.reducePow, hmd, hks, hQ, hmd1, hks1, hQ1]
      exact ⟨i + 1, rfl, ⟨by omega, no_step (p := fun f : Fault => decide (f.at' = d.ops)) hk (by omega) (decide_eq_false h2)⟩, by omega⟩
  · obtain rfl : i = d.faults.length := by omega
    simp +decide (maxSteps := 20000000) (disch := omega) only [↓SBK, ↓SBK2, SX, Nat.reduceEqDiff, Nat.reduceAdd, Nat.reduceMul, Nat.reduceSub, ↓reduceIte, Int.reduceNeg, Int.reduceToNat, Int.reducePow, hmd, hks, hQ, hmd1, hks1, hQ1]
    rw [faultAt, faultIn, find_none_all (p := fun f : Fault => decide (f.at' = d.ops)) fun k h => hk k h h]; rfl
/-- two or three borrowed captures -/
def Caps (caps : List AV) : Prop := (∃ a b c, caps = [.xbox a, .xbox b, .xbox c]) ∨ ∃ a b, caps = [.xbox a, .xbox b]
theorem s_begin1 (d : Dev) (k : Int) (C : Chip) (code : Int) (g : Nat) (caps : List AV) (hc : Caps caps) (h : code ≠ 0) :
    Spec Try.prog 164 [d.o, .int .i64 k, C.o, .int .i64 code, .fn g caps] (.tup [d.o, .int .i64 code]) [.undef, .undef, .undef, .undef, .undef] := by
  have dc : decide (code = 0) = false := decide_eq_false h
  rcases hc with ⟨a, b, c, rfl⟩ | ⟨a, b, rfl⟩
  · refine spec_C hmx p_I_begin [] 15551 [] ⟨Nat.le_of_ble_eq_true rfl, Nat.le_of_ble_eq_true rfl⟩ rfl rfl ?_
    intro w hP hmd hks hQ
    unfold c_I_begin
    simp +decide (maxSteps := 20000000) (disch := omega) only [↓SBK, ↓SBK2, SX, Nat.reduceEqDiff, Nat.reduceAdd, Nat.reduceMul, Nat.reduceSub, ↓reduceIte, Int.reduceNeg, Int.reduceToNat, Int.reducePow, hmd, hks, hQ]
    simp +decide (maxSteps := 20000000) (disch := omega) only [↓SBK, ↓SBK2, SX, Nat.reduceEqDiff, Nat.reduceAdd, Nat.reduceMul, Nat.reduceSub, ↓reduceIte, Int.reduceNeg, Int.reduceToNat, Int.reducePow, hmd, hks, hQ, dc]
  · refine spec_C hmx p_I_begin [] 15551 [] ⟨Nat.le_of_ble_eq_true rfl, Nat.le_of_ble_eq_true rfl⟩ rfl rfl ?_
    intro w hP hmd hks hQ
    unfold c_I_begin
    simp +decide (maxSteps := 20000000) (disch := omega) only [↓SBK, ↓SBK2, SX, Nat.reduceEqDiff, Nat.reduceAdd, Nat.reduceMul, Nat.reduceSub, ↓reduceIte, Int.reduceNeg, Int.reduceToNat, Int.reducePow, hmd, hks, hQ]
    simp +decide (maxSteps := 20000000) (disch := omega) only [↓SBK, ↓SBK2, SX, Nat.reduceEqDiff, Nat.reduceAdd, Nat.reduceMul, Nat.reduceSub, ↓reduceIte, Int.reduceNeg, Int.reduceToNat, Int.reducePow, hmd, hks, hQ, dc]
theorem s_begin2 (d : Dev) (k : Int) (C : Chip) (g : Nat) (caps : List AV) (hc : Caps caps) (hl : d.faults.length < 2 ^ 48) (ho : 0 ≤ d.ops ∧ d.ops < 2 ^ 40) (h : faultAt d = (zFault, false)) :
    Spec Try.prog 164 [d.o, .int .i64 k, C.o, .int .i64 0, .fn g caps] (.tup [({ c := C, ops := d.ops + 1, faults := d.faults, down := d.down } : Dev).o, .int .i64 0]) [.undef, .undef, .undef, .undef, .undef] := by
  have hF := sI_FaultAt d hl
  rw [h] at hF
  rcases hc with ⟨a, b, c, rfl⟩ | ⟨a, b, rfl⟩
  · refine spec_C hmx p_I_begin [] 15551 [] ⟨Nat.le_of_ble_eq_true rfl, Nat.le_of_ble_eq_true rfl⟩ rfl rfl ?_
    intro w hP hmd hks hQ
    unfold c_I_begin
    simp +decide (maxSteps := 20000000) (disch := omega) only [↓SBK, ↓SBK2, SX, Nat.reduceEqDiff, Nat.reduceAdd, Nat.reduceMul, Nat.reduceSub, ↓reduceIte, Int.reduceNeg, Int.reduceToNat, Int.reducePow, hmd, hks, hQ]
    (first | refine call_i hP (hF) (.inl ⟨rfl, fun _ hx => nomatch hx⟩) ?_ | refine callH_i hP (hF) (.inl ⟨rfl, fun _ hx => nomatch hx⟩) ?_)
    simp +decide (maxSteps := 20000000) (disch := omega) only [↓SBK, ↓SBK2, SX, Nat.reduceEqDiff, Nat.reduceAdd, Nat.reduceMul, Nat.reduceSub, ↓reduceIte, Int.reduceNeg, Int.reduceToNat, Int.reducePow, hmd, hks, hQ]
  · refine spec_C hmx p_I_begin [] 15551 [] ⟨Nat.le_of_ble_eq_true rfl, Nat.le_of_ble_eq_true rfl⟩ rfl rfl ?_
    intro w hP hmd hks hQ
    unfold c_I_begin
    simp +decide (maxSteps := 20000000) (disch := omega) only [↓SBK, ↓SBK2, SX, Nat.reduceEqDiff, Nat.reduceAdd, Nat.reduceMul, Nat.reduceSub, ↓reduceIte, Int.reduceNeg, Int.reduceToNat, Int.reducePow, hmd, hks, hQ]
    (first | refine call_i hP (hF) (.inl ⟨rfl, fun _ hx => nomatch hx⟩) ?_ | refine callH_i hP (hF) (.inl ⟨rfl, fun _ hx => nomatch hx⟩) ?_)
    simp +decide (maxSteps := 20000000) (disch := omega) only [↓SBK, ↓SBK2, SX, Nat.reduceEqDiff, Nat.reduceAdd, Nat.reduceMul, Nat.reduceSub, ↓reduceIte, Int.reduceNeg, Int.reduceToNat, Int.reducePow, hmd, hks, hQ]
def badC (c : Chip) (j : Nat) : Chip := { blocks := c.blocks.modify j badB }
theorem bad_rows (l : List Block) (n : Nat) (hn : n < l.length) : ((l.map Block.row).modify n fun x => List.take 2 x ++ [TV.bool true] ++ List.drop 3 x) = (l.modify n badB).map Block.row := mod_map Block.row _ badB l n hn rfl
theorem s_begin3 (d : Dev) (j : Nat) (C : Chip) (g : Nat) (caps : List AV) (hc : Caps caps) (hl : d.faults.length < 2 ^ 48) (hcl : d.c.blocks.length < 2 ^ 48) (ho : 0 ≤ d.ops ∧ d.ops < 2 ^ 40) (hj : j < d.c.blocks.length) (f : Fault) (h : faultAt d = (f, true)) (hk : f.kind = 1) :
    Spec Try.prog 164 [d.o, .int .i64 j, C.o, .int .i64 0, .fn g caps] (.tup [({ c := badC d.c j, ops := d.ops + 1, faults := d.faults, down := d.down } : Dev).o, .int .i64 2]) [.undef, .undef, .undef, .undef, .undef] := by
  have hF := sI_FaultAt d hl
  rw [h] at hF
  have dk : decide (f.kind = 1) = true := decide_eq_true hk
  have hj' : (j : Int) < (d.c.blocks.length : Nat) := by omega
  rcases hc with ⟨a, b, c, rfl⟩ | ⟨a, b, rfl⟩
  · refine spec_C hmx p_I_begin [] 15551 [] ⟨Nat.le_of_ble_eq_true rfl, Nat.le_of_ble_eq_true rfl⟩ rfl rfl ?_
    intro w hP hmd hks hQ
    unfold c_I_begin
    simp +decide (maxSteps := 20000000) (disch := omega) only [↓SBK, ↓SBK2, SX, Nat.reduceEqDiff, Nat.reduceAdd, Nat.reduceMul, Nat.reduceSub, ↓reduceIte, Int.reduceNeg, Int.reduceToNat, Int.reducePow, hmd, hks, hQ]
    (first | refine call_i hP (hF) (.inl ⟨rfl, fun _ hx => nomatch hx⟩) ?_ | refine callH_i hP (hF) (.inl ⟨rfl, fun _ hx => nomatch hx⟩) ?_)
    simp +decide (maxSteps := 20000000) (disch := omega) only [↓SBK, ↓SBK2, SX, Nat.reduceEqDiff, Nat.reduceAdd, Nat.reduceMul, Nat.reduceSub, ↓reduceIte, Int.reduceNeg, Int.reduceToNat, Int.reducePow, hmd, hks, hQ, dk, getE hj']
    rw [bad_rows _ _ hj]; rfl
  · refine spec_C hmx p_I_begin [] 15551 [] ⟨Nat.le_of_ble_eq_true rfl, Nat.le_of_ble_eq_true rfl⟩ rfl rfl ?_
    intro w hP hmd hks hQ
    unfold c_I_begin
    simp +decide (maxSteps := 20000000) (disch := omega) only [↓SBK, ↓SBK2, SX, Nat.reduceEqDiff, Nat.reduceAdd, Nat.reduceMul, Nat.reduceSub, ↓reduceIte, Int.reduceNeg, Int.reduceToNat, Int.reducePow, hmd, hks, hQ]
    (first | refine call_i hP (hF) (.inl ⟨rfl, fun _ hx => nomatch hx⟩) ?_ | refine callH_i hP (hF) (.inl ⟨rfl, fun _ hx => nomatch hx⟩) ?_)
    simp +decide (maxSteps := 20000000) (disch := omega) only [↓SBK, ↓SBK2, SX, Nat.reduceEqDiff, Nat.reduceAdd, Nat.reduceMul, Nat.reduceSub, ↓reduceIte, Int.reduceNeg, Int.reduceToNat, Int.reducePow, hmd, hks, hQ, dk, getE hj']
    rw [bad_rows _ _ hj]; rfl
theorem s_begin4 (d : Dev) (j : Nat) (C X : Chip) (g : Nat) (caps outs : List AV) (hc : Caps caps) (hl : d.faults.length < 2 ^ 48) (ho : 0 ≤ d.ops ∧ d.ops < 2 ^ 40) (f : Fault) (h : faultAt d = (f, true)) (hk : ¬ f.kind = 1)
    (hX : Spec Try.prog g (.int .i64 f.keep :: caps) X.o (.undef :: caps.map fun _ => .undef)) :
    Spec Try.prog 164 [.agg [.undef, .int .i64 d.ops, .own 3 (d.faults.map Fault.row), .bool d.down], .int .i64 j, C.o, .int .i64 0, .fn g caps] (.tup [({ c := X, ops := d.ops + 1, faults := d.faults, down := true } : Dev).o, .int .i64 10]) [.undef, .undef, .undef, .undef, .undef] := by
  have hF := sI_FaultAtU d.ops d.faults d.down d rfl rfl hl
  rw [h] at hF
  have dk : decide (f.kind = 1) = false := decide_eq_false hk
  rcases hc with ⟨a, b, c, rfl⟩ | ⟨a, b, rfl⟩
  · refine spec_C hmx p_I_begin [] 15551 [] ⟨Nat.le_of_ble_eq_true rfl, Nat.le_of_ble_eq_true rfl⟩ rfl rfl ?_
    intro w hP hmd hks hQ
    unfold c_I_begin
    simp +decide (maxSteps := 20000000) (disch := omega) only [↓SBK, ↓SBK2, SX, Nat.reduceEqDiff, Nat.reduceAdd, Nat.reduceMul, Nat.reduceSub, ↓reduceIte, Int.reduceNeg, Int.reduceToNat, Int.reducePow, hmd, hks, hQ]
    (first | refine call_i hP (hF) (.inl ⟨rfl, fun _ hx => nomatch hx⟩) ?_ | refine callH_i hP (hF) (.inl ⟨rfl, fun _ hx => nomatch hx⟩) ?_)
    simp +decide (maxSteps := 20000000) (disch := omega) only [↓SBK, ↓SBK2, SX, Nat.reduceEqDiff, Nat.reduceAdd, Nat.reduceMul, Nat.reduceSub, ↓reduceIte, Int.reduceNeg, Int.reduceToNat, Int.reducePow, hmd, hks, hQ, dk]
    (first | refine call_i hP (hX) (.inl ⟨rfl, fun _ hx => nomatch hx⟩) ?_ | refine callH_i hP (hX) (.inl ⟨rfl, fun _ hx => nomatch hx⟩) ?_)
    simp +decide (maxSteps := 20000000) (disch := omega) only [↓SBK, ↓SBK2, SX, Nat.reduceEqDiff, Nat.reduceAdd, Nat.reduceMul, Nat.reduceSub, ↓reduceIte, Int.reduceNeg, Int.reduceToNat, Int.reducePow, hmd, hks, hQ]
  · refine spec_C hmx p_I_begin [] 15551 [] ⟨Nat.le_of_ble_eq_true rfl, Nat.le_of_ble_eq_true rfl⟩ rfl rfl ?_
    intro w hP hmd hks hQ
    unfold c_I_begin
    simp +decide (maxSteps := 20000000) (disch := omega) only [↓SBK, ↓SBK2, SX, Nat.reduceEqDiff, Nat.reduceAdd, Nat.reduceMul, Nat.reduceSub, ↓reduceIte, Int.reduceNeg, Int.reduceToNat, Int.reducePow, hmd, hks, hQ]
    (first | refine call_i hP (hF) (.inl ⟨rfl, fun _ hx => nomatch hx⟩) ?_ | refine callH_i hP (hF) (.inl ⟨rfl, fun _ hx => nomatch hx⟩) ?_)
    simp +decide (maxSteps := 20000000) (disch := omega) only [↓SBK, ↓SBK2, SX, Nat.reduceEqDiff, Nat.reduceAdd, Nat.reduceMul, Nat.reduceSub, ↓reduceIte, Int.reduceNeg, Int.reduceToNat, Int.reducePow, hmd, hks, hQ, dk]
    (first | refine call_i hP (hX) (.inl ⟨rfl, fun _ hx => nomatch hx⟩) ?_ | refine callH_i hP (hX) (.inl ⟨rfl, fun _ hx => nomatch hx⟩) ?_)
    simp +decide (maxSteps := 20000000) (disch := omega) only [↓SBK, ↓SBK2, SX, Nat.reduceEqDiff, Nat.reduceAdd, Nat.reduceMul, Nat.reduceSub, ↓reduceIte, Int.reduceNeg, Int.reduceToNat, Int.reducePow, hmd, hks, hQ]
theorem sI_DevProgram_1 (c : Chip) (ops : Int) (z : TV) (down : Bool) (k : Int) (b : Bytes) (q : Nat) (hf : c.fine) (hs : c.sz < 2 ^ 40) (hb : b.length < 2 ^ 40) (hq : q < 2 ^ 40) :
    Spec Try.prog 165 [.int .i64 q, .xbox [.sl 3 (c.blocks.map Block.row), .int .i64 ops, z, .bool down], .xbox [.int .i64 k], .xbox [.sl 1 (bytesR b)]] (progC c k (b.take q)).o [.undef, .undef, .undef, .undef] := by
  by_cases h : (b.length : Int) < q
  · have e : b.take q = b := List.take_of_length_le (by omega)
    have e2 : List.take (((b.length : Nat) : Int) - 0).toNat (bytesR b) = bytesR b := by rw [List.take_of_length_le]; simp [bytesR]
    rw [e]
    refine spec_C hmx p_I_DevProgram_1 [] 111 [] ⟨Nat.le_of_ble_eq_true rfl, Nat.le_of_ble_eq_true rfl⟩ rfl rfl ?_
    intro w hP hmd hks hQ
    unfold c_I_DevProgram_1
    simp +decide (maxSteps := 20000000) (disch := omega) only [↓SBK, ↓SBK2, SX, Nat.reduceEqDiff, Nat.reduceAdd, Nat.reduceMul, Nat.reduceSub, ↓reduceIte, Int.reduceNeg, Int.reduceToNat, Int.reducePow, hmd, hks, hQ]
    simp +decide (maxSteps := 20000000) (disch := omega) only [↓SBK, ↓SBK2, SX, Nat.reduceEqDiff, Nat.reduceAdd, Nat.reduceMul, Nat.reduceSub, ↓reduceIte, Int.reduceNeg, Int.reduceToNat, Int.reducePow, hmd, hks, hQ, h, e2]
    (first | refine call_i hP (sI_Program c k b hf hs hb) (.inl ⟨rfl, fun _ hx => nomatch hx⟩) ?_ | refine callH_i hP (sI_Program c k b hf hs hb) (.inl ⟨rfl, fun _ hx => nomatch hx⟩) ?_)
    simp +decide (maxSteps := 20000000) (disch := omega) only [↓SBK, ↓SBK2, SX, Nat.reduceEqDiff, Nat.reduceAdd, Nat.reduceMul, Nat.reduceSub, ↓reduceIte, Int.reduceNeg, Int.reduceToNat, Int.reducePow, hmd, hks, hQ]
  · refine spec_C hmx p_I_DevProgram_1 [] 111 [] ⟨Nat.le_of_ble_eq_true rfl, Nat.le_of_ble_eq_true rfl⟩ rfl rfl ?_
    intro w hP hmd hks hQ
    unfold c_I_DevProgram_1
    simp +decide (maxSteps := 20000000) (disch := omega) only [↓SBK, ↓SBK2, SX, Nat.reduceEqDiff, Nat.reduceAdd, Nat.reduceMul, Nat.reduceSub, ↓reduceIte, Int.reduceNeg, Int.reduceToNat, Int.reducePow, hmd, hks, hQ]
    simp +decide (maxSteps := 20000000) (disch := omega) only [↓SBK, ↓SBK2, SX, Nat.reduceEqDiff, Nat.reduceAdd, Nat.reduceMul, Nat.reduceSub, ↓reduceIte, Int.reduceNeg, Int.reduceToNat, Int.reducePow, hmd, hks, hQ, h, Int.sub_zero, bytesR_take]
    (first | refine call_i hP (sI_Program c k (b.take q) hf hs (by simp; omega)) (.inl ⟨rfl, fun _ hx => nomatch hx⟩) ?_ | refine callH_i hP (sI_Program c k (b.take q) hf hs (by simp; omega)) (.inl ⟨rfl, fun _ hx => nomatch hx⟩) ?_)
    simp +decide (maxSteps := 20000000) (disch := omega) only [↓SBK, ↓SBK2, SX, Nat.reduceEqDiff, Nat.reduceAdd, Nat.reduceMul, Nat.reduceSub, ↓reduceIte, Int.reduceNeg, Int.reduceToNat, Int.reducePow, hmd, hks, hQ]
end Go.Proofs.Ytliklgcfdgdigaa.Awp

namespace Go.Proofs.Ytliklgcfdgdigaa.Awp
open Go.Proofs
set_option linter.unusedSimpArgs false
set_option linter.unusedVariables false
set_option maxRecDepth 100000
set_option maxHeartbeats 20000000

noncomputable def devMay (d : Dev) (code : Int) : Int := if devOk d = true then (if d.down = true ∨ 100000 ≤ d.ops then 10 else code) else 1
theorem devMay_bad {d : Dev} {code : Int} (h : devOk d = false) : devMay d code = 1 := by rw [devMay, if_neg (by simp [h])]
theorem devMay_down {d : Dev} {code : Int} (h : devOk d = true) (h2 : d.down = true ∨ 100000 ≤ d.ops) : devMay d code = 10 := by rw [devMay, if_pos h, if_pos h2]
theorem devMay_go {d : Dev} {code : Int} (h : devOk d = true) (h2 : d.down = false) (h3 : ¬ 100000 ≤ d.ops) : devMay d code = code := by rw [devMay, if_pos h, if_neg (by simp [h2]; omega)]
theorem devOk_info {d : Dev} (h : devOk d = true) : okC d.c ∧ (0 ≤ d.ops ∧ d.ops ≤ 100000) ∧ (∀ f, faultIn d.faults d.ops = some f → (f.kind = 1 ∨ f.kind = 2) ∧ 0 ≤ f.keep ∧ f.keep ≤ 400) ∧ d.faults.length ≤ 20 := by
  unfold devOk at h
  obtain ⟨h1, h⟩ := Bool.and_eq_true_iff.1 h
  obtain ⟨h2, h⟩ := Bool.and_eq_true_iff.1 h
  unfold faultsOk at h
  obtain ⟨h3, h4⟩ := Bool.and_eq_true_iff.1 h
  have h4 := of_decide_eq_true h4
  refine ⟨by simpa [chipOk] using h1, (inR_iff _ _ _).1 h2, ?_, by omega⟩
  intro f hf
  have hm := List.mem_of_find?_eq_some hf
  obtain ⟨i, hi, rfl⟩ := List.getElem_of_mem hm
  rw [faultsIn, List.all_eq_true] at h3
  have := h3 i (by simpa using hi)
  rw [faultOk_at hi] at this
  simp only [Bool.and_eq_true] at this
  obtain ⟨_, k1, k2, _⟩ := this
  have k1 := (inR_iff _ _ _).1 k1
  have k2 := (inR_iff _ _ _).1 k2
  exact ⟨by omega, k2⟩
def goD (d : Dev) (c : Chip) (down : Bool) : Dev := { c := c, ops := d.ops + 1, faults := d.faults, down := down }
noncomputable def devProg (d : Dev) (k : Int) (b : Bytes) : Dev × Int :=
  if devMay d (progCode d.c k b) = 0 then
    match faultIn d.faults d.ops with
    | none => (goD d (progC d.c k b) d.down, 0)
    | some f => if f.kind = 1 then (goD d (badC d.c k.toNat) d.down, 2) else (goD d (progC d.c k (b.take f.keep.toNat)) true, 10)
  else (d, devMay d (progCode d.c k b))
theorem sI_DevProgram (d : Dev) (k : Int) (b : Bytes) (hf : d.fine) (hs : d.sz < 2 ^ 40) (hb : b.length < 2 ^ 40) :
    Spec Try.prog 112 [d.x, .int .i64 k, .ext 1 (bytesR b)] (.tup [(devProg d k b).1.o, .int .i64 (devProg d k b).2]) [.undef, .undef, .undef] := by
  have hO := sI_DevOk d hf
  cases h1 : devOk d with
  | false =>
    rw [h1] at hO
    have e : devProg d k b = (d, 1) := by rw [devProg, devMay_bad h1, if_neg (by decide)]
    rw [e]
    refine spec_C hmx p_I_DevProgram [(164, [.m, .b, .m, .b, .b], [])] 1023 [] ⟨Nat.le_of_ble_eq_true rfl, Nat.le_of_ble_eq_true rfl⟩ rfl rfl ?_
    intro w hP hmd hks hQ
    unfold c_I_DevProgram
    simp +decide (maxSteps := 20000000) (disch := omega) only [↓SBK, ↓SBK2, SX, Nat.reduceEqDiff, Nat.reduceAdd, Nat.reduceMul, Nat.reduceSub, ↓reduceIte, Int.reduceNeg, Int.reduceToNat, Int.reducePow, hmd, hks, hQ]
    (first | refine call_i hP (sI_copyDev d hs) (.inl ⟨rfl, fun _ hx => nomatch hx⟩) ?_ | refine callH_i hP (sI_copyDev d hs) (.inl ⟨rfl, fun _ hx => nomatch hx⟩) ?_)
    simp +decide (maxSteps := 20000000) (disch := omega) only [↓SBK, ↓SBK2, SX, Nat.reduceEqDiff, Nat.reduceAdd, Nat.reduceMul, Nat.reduceSub, ↓reduceIte, Int.reduceNeg, Int.reduceToNat, Int.reducePow, hmd, hks, hQ]
    (first | refine call_i hP (hO) (.inl ⟨rfl, fun _ hx => nomatch hx⟩) ?_ | refine callH_i hP (hO) (.inl ⟨rfl, fun _ hx => nomatch hx⟩) ?_)
    simp +decide (maxSteps := 20000000) (disch := omega) only [↓SBK, ↓SBK2, SX, Nat.reduceEqDiff, Nat.reduceAdd, Nat.reduceMul, Nat.reduceSub, ↓reduceIte, Int.reduceNeg, Int.reduceToNat, Int.reducePow, hmd, hks, hQ]
  | true =>
    rw [h1] at hO
    obtain ⟨hok, ⟨o1, o2⟩, hfa, hfl⟩ := devOk_info h1
    obtain ⟨s1, s2⟩ := dev_sz hs
    have hPr := sI_Program d.c k b hf.1 s1 hb
    cases h2 : d.down with
    | true =>
      have e : devProg d k b = (d, 10) := by rw [devProg, devMay_down h1 (.inl h2), if_neg (by decide)]
      rw [e]
      refine spec_C hmx p_I_DevProgram [(164, [.m, .b, .m, .b, .b], [])] 1023 [] ⟨Nat.le_of_ble_eq_true rfl, Nat.le_of_ble_eq_true rfl⟩ rfl rfl ?_
      intro w hP hmd hks hQ
      unfold c_I_DevProgram
      simp +decide (maxSteps := 20000000) (disch := omega) only [↓SBK, ↓SBK2, SX, Nat.reduceEqDiff, Nat.reduceAdd, Nat.reduceMul, Nat.reduceSub, ↓reduceIte, Int.reduceNeg, Int.reduceToNat, Int.reducePow, hmd, hks, hQ]
      (first | refine call_i hP (sI_copyDev d hs) (.inl ⟨rfl, fun _ hx => nomatch hx⟩) ?_ | refine callH_i hP (sI_copyDev d hs) (.inl ⟨rfl, fun _ hx => nomatch hx⟩) ?_)
      simp +decide (maxSteps := 20000000) (disch := omega) only [↓SBK, ↓SBK2, SX, Nat.reduceEqDiff, Nat.reduceAdd, Nat.reduceMul, Nat.reduceSub, ↓reduceIte, Int.reduceNeg, Int.reduceToNat, Int.reducePow, hmd, hks, hQ]
      (first | refine call_i hP (hO) (.inl ⟨rfl, fun _ hx => nomatch hx⟩) ?_ | refine callH_i hP (hO) (.inl ⟨rfl, fun _ hx => nomatch hx⟩) ?_)
      simp +decide (maxSteps := 20000000) (disch := omega) only [↓SBK, ↓SBK2, SX, Nat.reduceEqDiff, Nat.reduceAdd, Nat.reduceMul, Nat.reduceSub, ↓reduceIte, Int.reduceNeg, Int.reduceToNat, Int.reducePow, hmd, hks, hQ, h2]
    | false =>
      by_cases h3 : d.ops = 100000
      · have d3 : decide (d.ops = 100000) = true := decide_eq_true h3
        have e : devProg d k b = (d, 10) := by rw [devProg, devMay_down h1 (.inr (by omega)), if_neg (by decide)]
        rw [e]
        refine spec_C hmx p_I_DevProgram [(164, [.m, .b, .m, .b, .b], [])] 1023 [] ⟨Nat.le_of_ble_eq_true rfl, Nat.le_of_ble_eq_true rfl⟩ rfl rfl ?_
        intro w hP hmd hks hQ
        unfold c_I_DevProgram
        simp +decide (maxSteps := 20000000) (disch := omega) only [↓SBK, ↓SBK2, SX, Nat.reduceEqDiff, Nat.reduceAdd, Nat.reduceMul, Nat.reduceSub, ↓reduceIte, Int.reduceNeg, Int.reduceToNat, Int.reducePow, hmd, hks, hQ]
        (first | refine call_i hP (sI_copyDev d hs) (.inl ⟨rfl, fun _ hx => nomatch hx⟩) ?_ | refine callH_i hP (sI_copyDev d hs) (.inl ⟨rfl, fun _ hx => nomatch hx⟩) ?_)
        simp +decide (maxSteps := 20000000) (disch := omega) only [↓SBK, ↓SBK2, SX, Nat.reduceEqDiff, Nat.reduceAdd, Nat.reduceMul, Nat.reduceSub, ↓reduceIte, Int.reduceNeg, Int.reduceToNat, Int.reducePow, hmd, hks, hQ]
        (first | refine call_i hP (hO) (.inl ⟨rfl, fun _ hx => nomatch hx⟩) ?_ | refine callH_i hP (hO) (.inl ⟨rfl, fun _ hx => nomatch hx⟩) ?_)
        simp +decide (maxSteps := 20000000) (disch := omega) only [↓SBK, ↓SBK2, SX, Nat.reduceEqDiff, Nat.reduceAdd, Nat.reduceMul, Nat.reduceSub, ↓reduceIte, Int.reduceNeg, Int.reduceToNat, Int.reducePow, hmd, hks, hQ, h2, d3]
      · have d3 : decide (d.ops = 100000) = false := decide_eq_false h3
        have em : devMay d (progCode d.c k b) = progCode d.c k b := devMay_go h1 h2 (by omega)
        by_cases h4 : progCode d.c k b = 0
        · obtain ⟨hb4, j, rfl, hj, b1, _, hu, h8⟩ := prog_info h4
          have eI : devProg d j b = (match faultIn d.faults d.ops with
            | none => (goD d (progC d.c j b) d.down, 0)
            | some f => if f.kind = 1 then (goD d (badC d.c j) d.down, 2) else (goD d (progC d.c j (b.take f.keep.toNat)) true, 10)) := by rw [devProg, em, if_pos h4]; rfl
          rw [h4] at hPr
          cases hfi : faultIn d.faults d.ops with
          | none =>
            rw [hfi] at eI
            simp only at eI
            rw [eI]
            have hfa0 : faultAt d = (zFault, false) := by rw [faultAt, hfi]
            have kb := s_begin2 d j (progC d.c j b) 165 [.xbox [.undef, .int .i64 d.ops, .undef, .bool false], .xbox [.int .i64 j], .xbox [.sl 1 (bytesR b)]] (.inl ⟨_, _, _, rfl⟩) (by omega) ⟨o1, by omega⟩ hfa0
            simp only [Dev.o, h2] at kb
            refine spec_C hmx p_I_DevProgram [(164, [.m, .b, .m, .b, .b], [])] 1023 [] ⟨Nat.le_of_ble_eq_true rfl, Nat.le_of_ble_eq_true rfl⟩ rfl rfl ?_
            intro w hP hmd hks hQ
            unfold c_I_DevProgram
            simp +decide (maxSteps := 20000000) (disch := omega) only [↓SBK, ↓SBK2, SX, Nat.reduceEqDiff, Nat.reduceAdd, Nat.reduceMul, Nat.reduceSub, ↓reduceIte, Int.reduceNeg, Int.reduceToNat, Int.reducePow, hmd, hks, hQ]
            (first | refine call_i hP (sI_copyDev d hs) (.inl ⟨rfl, fun _ hx => nomatch hx⟩) ?_ | refine callH_i hP (sI_copyDev d hs) (.inl ⟨rfl, fun _ hx => nomatch hx⟩) ?_)
            simp +decide (maxSteps := 20000000) (disch := omega) only [↓SBK, ↓SBK2, SX, Nat.reduceEqDiff, Nat.reduceAdd, Nat.reduceMul, Nat.reduceSub, ↓reduceIte, Int.reduceNeg, Int.reduceToNat, Int.reducePow, hmd, hks, hQ]
            (first | refine call_i hP (hO) (.inl ⟨rfl, fun _ hx => nomatch hx⟩) ?_ | refine callH_i hP (hO) (.inl ⟨rfl, fun _ hx => nomatch hx⟩) ?_)
            simp +decide (maxSteps := 20000000) (disch := omega) only [↓SBK, ↓SBK2, SX, Nat.reduceEqDiff, Nat.reduceAdd, Nat.reduceMul, Nat.reduceSub, ↓reduceIte, Int.reduceNeg, Int.reduceToNat, Int.reducePow, hmd, hks, hQ, h2, d3]
            (first | refine call_i hP (hPr) (.inl ⟨rfl, fun _ hx => nomatch hx⟩) ?_ | refine callH_i hP (hPr) (.inl ⟨rfl, fun _ hx => nomatch hx⟩) ?_)
            simp +decide (maxSteps := 20000000) (disch := omega) only [↓SBK, ↓SBK2, SX, Nat.reduceEqDiff, Nat.reduceAdd, Nat.reduceMul, Nat.reduceSub, ↓reduceIte, Int.reduceNeg, Int.reduceToNat, Int.reducePow, hmd, hks, hQ]
            (first | refine call_i hP (kb) (.inl ⟨rfl, fun _ hx => nomatch hx⟩) ?_ | refine callH_i hP (kb) (.inl ⟨rfl, fun _ hx => nomatch hx⟩) ?_)
            simp +decide (maxSteps := 20000000) (disch := omega) only [↓SBK, ↓SBK2, SX, Nat.reduceEqDiff, Nat.reduceAdd, Nat.reduceMul, Nat.reduceSub, ↓reduceIte, Int.reduceNeg, Int.reduceToNat, Int.reducePow, hmd, hks, hQ]
            simp [goD, h2]
          | some f =>
            rw [hfi] at eI
            simp only at eI
            have hfa0 : faultAt d = (f, true) := by rw [faultAt, hfi]
            obtain ⟨q0, q1, q2⟩ := hfa f hfi
            by_cases h5 : f.kind = 1
            · rw [if_pos h5] at eI
              rw [eI]
              have kb := s_begin3 d j (progC d.c j b) 165 [.xbox [.undef, .int .i64 d.ops, .undef, .bool false], .xbox [.int .i64 j], .xbox [.sl 1 (bytesR b)]] (.inl ⟨_, _, _, rfl⟩) (by omega) (by have := chip_l s1; omega) ⟨o1, by omega⟩ hj f hfa0 h5
              simp only [Dev.o, h2] at kb
              refine spec_C hmx p_I_DevProgram [(164, [.m, .b, .m, .b, .b], [])] 1023 [] ⟨Nat.le_of_ble_eq_true rfl, Nat.le_of_ble_eq_true rfl⟩ rfl rfl ?_
              intro w hP hmd hks hQ
              unfold c_I_DevProgram
              simp +decide (maxSteps := 20000000) (disch := omega) only [↓SBK, ↓SBK2, SX, Nat.reduceEqDiff, Nat.reduceAdd, Nat.reduceMul, Nat.reduceSub, ↓reduceIte, Int.reduceNeg, Int.reduceToNat, Int.reducePow, hmd, hks, hQ]
              (first | refine call_i hP (sI_copyDev d hs) (.inl ⟨rfl, fun _ hx => nomatch hx⟩) ?_ | refine callH_i hP (sI_copyDev d hs) (.inl ⟨rfl, fun _ hx => nomatch hx⟩) ?_)
              simp +decide (maxSteps := 20000000) (disch := omega) only [↓SBK, ↓SBK2, SX, Nat.reduceEqDiff, Nat.reduceAdd, Nat.reduceMul, Nat.reduceSub, ↓reduceIte, Int.reduceNeg, Int.reduceToNat, Int.reducePow, hmd, hks, hQ]
              (first | refine call_i hP (hO) (.inl ⟨rfl, fun _ hx => nomatch hx⟩) ?_ | refine callH_i hP (hO) (.inl ⟨rfl, fun _ hx => nomatch hx⟩) ?_)
              simp +decide (maxSteps := 20000000) (disch := omega) only [↓SBK, ↓SBK2, SX, Nat.reduceEqDiff, Nat.reduceAdd, Nat.reduceMul, Nat.reduceSub, ↓reduceIte, Int.reduceNeg, Int.reduceToNat, Int.reducePow, hmd, hks, hQ, h2, d3]
              (first | refine call_i hP (hPr) (.inl ⟨rfl, fun _ hx => nomatch hx⟩) ?_ | refine callH_i hP (hPr) (.inl ⟨rfl, fun _ hx => nomatch hx⟩) ?_)
              simp +decide (maxSteps := 20000000) (disch := omega) only [↓SBK, ↓SBK2, SX, Nat.reduceEqDiff, Nat.reduceAdd, Nat.reduceMul, Nat.reduceSub, ↓reduceIte, Int.reduceNeg, Int.reduceToNat, Int.reducePow, hmd, hks, hQ]
              (first | refine call_i hP (kb) (.inl ⟨rfl, fun _ hx => nomatch hx⟩) ?_ | refine callH_i hP (kb) (.inl ⟨rfl, fun _ hx => nomatch hx⟩) ?_)
              simp +decide (maxSteps := 20000000) (disch := omega) only [↓SBK, ↓SBK2, SX, Nat.reduceEqDiff, Nat.reduceAdd, Nat.reduceMul, Nat.reduceSub, ↓reduceIte, Int.reduceNeg, Int.reduceToNat, Int.reducePow, hmd, hks, hQ]
              simp [goD, h2]
            · rw [if_neg h5] at eI
              rw [eI]
              obtain ⟨q, hq⟩ : ∃ q : Nat, f.keep = q := ⟨f.keep.toNat, by omega⟩
              have kX := sI_DevProgram_1 d.c d.ops .undef false j b q hf.1 s1 hb (by omega)
              rw [← hq] at kX
              have kb := s_begin4 d j (progC d.c j b) (progC d.c j (b.take q)) 165 [.xbox [.sl 3 (d.c.blocks.map Block.row), .int .i64 d.ops, .undef, .bool false], .xbox [.int .i64 j], .xbox [.sl 1 (bytesR b)]] [] (.inl ⟨_, _, _, rfl⟩) (by omega) ⟨o1, by omega⟩ f hfa0 h5 kX
              simp only [Dev.o, h2] at kb
              have hqt : f.keep.toNat = q := by omega
              refine spec_C hmx p_I_DevProgram [(164, [.m, .b, .m, .b, .b], [(32, 0)])] 1023 [] ⟨Nat.le_of_ble_eq_true rfl, Nat.le_of_ble_eq_true rfl⟩ rfl rfl ?_
              intro w hP hmd hks hQ
              unfold c_I_DevProgram
              simp +decide (maxSteps := 20000000) (disch := omega) only [↓SBK, ↓SBK2, SX, Nat.reduceEqDiff, Nat.reduceAdd, Nat.reduceMul, Nat.reduceSub, ↓reduceIte, Int.reduceNeg, Int.reduceToNat, Int.reducePow, hmd, hks, hQ]
              (first | refine call_i hP (sI_copyDev d hs) (.inl ⟨rfl, fun _ hx => nomatch hx⟩) ?_ | refine callH_i hP (sI_copyDev d hs) (.inl ⟨rfl, fun _ hx => nomatch hx⟩) ?_)
              simp +decide (maxSteps := 20000000) (disch := omega) only [↓SBK, ↓SBK2, SX, Nat.reduceEqDiff, Nat.reduceAdd, Nat.reduceMul, Nat.reduceSub, ↓reduceIte, Int.reduceNeg, Int.reduceToNat, Int.reducePow, hmd, hks, hQ]
              (first | refine call_i hP (hO) (.inl ⟨rfl, fun _ hx => nomatch hx⟩) ?_ | refine callH_i hP (hO) (.inl ⟨rfl, fun _ hx => nomatch hx⟩) ?_)
              simp +decide (maxSteps := 20000000) (disch := omega) only [↓SBK, ↓SBK2, SX, Nat.reduceEqDiff, Nat.reduceAdd, Nat.reduceMul, Nat.reduceSub, ↓reduceIte, Int.reduceNeg, Int.reduceToNat, Int.reducePow, hmd, hks, hQ, h2, d3]
              (first | refine call_i hP (hPr) (.inl ⟨rfl, fun _ hx => nomatch hx⟩) ?_ | refine callH_i hP (hPr) (.inl ⟨rfl, fun _ hx => nomatch hx⟩) ?_)
              simp +decide (maxSteps := 20000000) (disch := omega) only [↓SBK, ↓SBK2, SX, Nat.reduceEqDiff, Nat.reduceAdd, Nat.reduceMul, Nat.reduceSub, ↓reduceIte, Int.reduceNeg, Int.reduceToNat, Int.reducePow, hmd, hks, hQ]
              (first | refine call_i hP (kb) (.inl ⟨rfl, fun _ hx => nomatch hx⟩) ?_ | refine callH_i hP (kb) (.inl ⟨rfl, fun _ hx => nomatch hx⟩) ?_)
              simp +decide (maxSteps := 20000000) (disch := omega) only [↓SBK, ↓SBK2, SX, Nat.reduceEqDiff, Nat.reduceAdd, Nat.reduceMul, Nat.reduceSub, ↓reduceIte, Int.reduceNeg, Int.reduceToNat, Int.reducePow, hmd, hks, hQ]
              simp [goD, hqt]
        · have e : devProg d k b = (d, progCode d.c k b) := by rw [devProg, em, if_neg h4]
          rw [e]
          have kb := s_begin1 d k (progC d.c k b) (progCode d.c k b) 165 [.xbox [.undef, .int .i64 d.ops, .undef, .bool false], .xbox [.int .i64 k], .xbox [.sl 1 (bytesR b)]] (.inl ⟨_, _, _, rfl⟩) h4
          simp only [Dev.o, h2] at kb
          refine spec_C hmx p_I_DevProgram [(164, [.m, .b, .m, .b, .b], [])] 1023 [] ⟨Nat.le_of_ble_eq_true rfl, Nat.le_of_ble_eq_true rfl⟩ rfl rfl ?_
          intro w hP hmd hks hQ
          unfold c_I_DevProgram
          simp +decide (maxSteps := 20000000) (disch := omega) only [↓SBK, ↓SBK2, SX, Nat.reduceEqDiff, Nat.reduceAdd, Nat.reduceMul, Nat.reduceSub, ↓reduceIte, Int.reduceNeg, Int.reduceToNat, Int.reducePow, hmd, hks, hQ]
          (first | refine call_i hP (sI_copyDev d hs) (.inl ⟨rfl, fun _ hx => nomatch hx⟩) ?_ | refine callH_i hP (sI_copyDev d hs) (.inl ⟨rfl, fun _ hx => nomatch hx⟩) ?_)
          simp +decide (maxSteps := 20000000) (disch := omega) only [↓SBK, ↓SBK2, SX, Nat.reduceEqDiff, Nat.reduceAdd, Nat.reduceMul, Nat.reduceSub, ↓reduceIte, Int.reduceNeg, Int.reduceToNat, Int.reducePow, hmd, hks, hQ]
          (first | refine call_i hP (hO) (.inl ⟨rfl, fun _ hx => nomatch hx⟩) ?_ | refine callH_i hP (hO) (.inl ⟨rfl, fun _ hx => nomatch hx⟩) ?_)
          simp +decide (maxSteps := 20000000) (disch := omega) only [↓SBK, ↓SBK2, SX, Nat.reduceEqDiff, Nat.reduceAdd, Nat.reduceMul, Nat.reduceSub, ↓reduceIte, Int.reduceNeg, Int.reduceToNat, Int.reducePow, hmd, hks, hQ, h2, d3]
          (first | refine call_i hP (hPr) (.inl ⟨rfl, fun _ hx => nomatch hx⟩) ?_ | refine callH_i hP (hPr) (.inl ⟨rfl, fun _ hx => nomatch hx⟩) ?_)
          simp +decide (maxSteps := 20000000) (disch := omega) only [↓SBK, ↓SBK2, SX, Nat.reduceEqDiff, Nat.reduceAdd, Nat.reduceMul, Nat.reduceSub, ↓reduceIte, Int.reduceNeg, Int.reduceToNat, Int.reducePow, hmd, hks, hQ]
          (first | refine call_i hP (kb) (.inl ⟨rfl, fun _ hx => nomatch hx⟩) ?_ | refine callH_i hP (kb) (.inl ⟨rfl, fun _ hx => nomatch hx⟩) ?_)
          simp +decide (maxSteps := 20000000) (disch := omega) only [↓SBK, ↓SBK2, SX, Nat.reduceEqDiff, Nat.reduceAdd, Nat.reduceMul, Nat.reduceSub, ↓reduceIte, Int.reduceNeg, Int.reduceToNat, Int.reducePow, hmd, hks, hQ, h2]
end Go.Proofs.Ytliklgcfdgdigaa.Awp

namespace Go.Proofs.Ytliklgcfdgdigaa.Awp
open Go.Proofs
set_option linter.unusedSimpArgs false
set_option linter.unusedVariables false
set_option maxRecDepth 100000
set_option maxHeartbeats 20000000

theorem sS_l11May (d : Dev) (code : Int) (hf : d.fine) : Spec Try.prog 166 [d.x, .int .i64 code] (.int .i64 (devMay d code)) [.undef, .undef] := by
  have hO := sS_DevOk d hf
  cases h1 : devOk d with
  | false =>
    rw [h1] at hO
    rw [devMay_bad h1]
    refine spec_C hmx p_S_l11May [] 23 [] ⟨Nat.le_of_ble_eq_true rfl, Nat.le_of_ble_eq_true rfl⟩ rfl rfl ?_
    intro w hP hmd hks hQ
    unfold c_S_l11May
    simp +decide (maxSteps := 20000000) (disch := omega) only [↓SBK, ↓SBK2, SX, Nat.reduceEqDiff, Nat.reduceAdd, Nat.reduceMul, Nat.reduceSub, ↓reduceIte, Int.reduceNeg, Int.reduceToNat, Int.reducePow, hmd, hks, hQ]
    (first | refine call_i hP (hO) (.inl ⟨rfl, fun _ hx => nomatch hx⟩) ?_ | refine callH_i hP (hO) (.inl ⟨rfl, fun _ hx => nomatch hx⟩) ?_)
    simp +decide (maxSteps := 20000000) (disch := omega) only [↓SBK, ↓SBK2, SX, Nat.reduceEqDiff, Nat.reduceAdd, Nat.reduceMul, Nat.reduceSub, ↓reduceIte, Int.reduceNeg, Int.reduceToNat, Int.reducePow, hmd, hks, hQ]
  | true =>
    rw [h1] at hO
    cases h2 : d.down with
    | true =>
      rw [devMay_down h1 (.inl h2)]
      refine spec_C hmx p_S_l11May [] 23 [] ⟨Nat.le_of_ble_eq_true rfl, Nat.le_of_ble_eq_true rfl⟩ rfl rfl ?_
      intro w hP hmd hks hQ
      unfold c_S_l11May
      simp +decide (maxSteps := 20000000) (disch := omega) only [↓SBK, ↓SBK2, SX, Nat.reduceEqDiff, Nat.reduceAdd, Nat.reduceMul, Nat.reduceSub, ↓reduceIte, Int.reduceNeg, Int.reduceToNat, Int.reducePow, hmd, hks, hQ]
      (first | refine call_i hP (hO) (.inl ⟨rfl, fun _ hx => nomatch hx⟩) ?_ | refine callH_i hP (hO) (.inl ⟨rfl, fun _ hx => nomatch hx⟩) ?_)
      simp +decide (maxSteps := 20000000) (disch := omega) only [↓SBK, ↓SBK2, SX, Nat.reduceEqDiff, Nat.reduceAdd, Nat.reduceMul, Nat.reduceSub, ↓reduceIte, Int.reduceNeg, Int.reduceToNat, Int.reducePow, hmd, hks, hQ, h2]
    | false =>
      by_cases h3 : 100000 ≤ d.ops
      · have d3 : decide (100000 ≤ d.ops) = true := decide_eq_true h3
        rw [devMay_down h1 (.inr h3)]
        refine spec_C hmx p_S_l11May [] 23 [] ⟨Nat.le_of_ble_eq_true rfl, Nat.le_of_ble_eq_true rfl⟩ rfl rfl ?_
        intro w hP hmd hks hQ
        unfold c_S_l11May
        simp +decide (maxSteps := 20000000) (disch := omega) only [↓SBK, ↓SBK2, SX, Nat.reduceEqDiff, Nat.reduceAdd, Nat.reduceMul, Nat.reduceSub, ↓reduceIte, Int.reduceNeg, Int.reduceToNat, Int.reducePow, hmd, hks, hQ]
        (first | refine call_i hP (hO) (.inl ⟨rfl, fun _ hx => nomatch hx⟩) ?_ | refine callH_i hP (hO) (.inl ⟨rfl, fun _ hx => nomatch hx⟩) ?_)
        simp +decide (maxSteps := 20000000) (disch := omega) only [↓SBK, ↓SBK2, SX, Nat.reduceEqDiff, Nat.reduceAdd, Nat.reduceMul, Nat.reduceSub, ↓reduceIte, Int.reduceNeg, Int.reduceToNat, Int.reducePow, hmd, hks, hQ, h2, d3]
      · have d3 : decide (100000 ≤ d.ops) = false := decide_eq_false h3
        rw [devMay_go h1 h2 h3]
        refine spec_C hmx p_S_l11May [] 23 [] ⟨Nat.le_of_ble_eq_true rfl, Nat.le_of_ble_eq_true rfl⟩ rfl rfl ?_
        intro w hP hmd hks hQ
        unfold c_S_l11May
        simp +decide (maxSteps := 20000000) (disch := omega) only [↓SBK, ↓SBK2, SX, Nat.reduceEqDiff, Nat.reduceAdd, Nat.reduceMul, Nat.reduceSub, ↓reduceIte, Int.reduceNeg, Int.reduceToNat, Int.reducePow, hmd, hks, hQ]
        (first | refine call_i hP (hO) (.inl ⟨rfl, fun _ hx => nomatch hx⟩) ?_ | refine callH_i hP (hO) (.inl ⟨rfl, fun _ hx => nomatch hx⟩) ?_)
        simp +decide (maxSteps := 20000000) (disch := omega) only [↓SBK, ↓SBK2, SX, Nat.reduceEqDiff, Nat.reduceAdd, Nat.reduceMul, Nat.reduceSub, ↓reduceIte, Int.reduceNeg, Int.reduceToNat, Int.reducePow, hmd, hks, hQ, h2, d3]
theorem devMay_zero {d : Dev} {code : Int} (h : devMay d code = 0) : devOk d = true ∧ d.down = false ∧ ¬ 100000 ≤ d.ops ∧ code = 0 := by
  cases h1 : devOk d with
  | false => rw [devMay_bad h1] at h; cases h
  | true =>
    cases h2 : d.down with
    | true => rw [devMay_down h1 (.inl h2)] at h; cases h
    | false =>
      by_cases h3 : 100000 ≤ d.ops
      · rw [devMay_down h1 (.inr h3)] at h; cases h
      · rw [devMay_go h1 h2 h3] at h; exact ⟨rfl, rfl, h3, h⟩
theorem sS_DevProgram (d : Dev) (k : Int) (b : Bytes) (hf : d.fine) (hs : d.sz < 2 ^ 40) (hb : b.length < 2 ^ 40) :
    Spec Try.prog 113 [d.x, .int .i64 k, .ext 1 (bytesR b)] (.tup [(devProg d k b).1.o, .int .i64 (devProg d k b).2]) [.undef, .undef, .undef] := by
  obtain ⟨s1, s2⟩ := dev_sz hs
  have hPc := sS_l10Program d.c k b hf.1 s1 (by omega)
  have hM := sS_l11May d (progCode d.c k b) hf
  by_cases h0 : devMay d (progCode d.c k b) = 0
  · obtain ⟨h1, h2, h3, h4⟩ := devMay_zero h0
    obtain ⟨hok, ⟨o1, o2⟩, hfa, hfl⟩ := devOk_info h1
    obtain ⟨hb4, j, rfl, hj, b1, _, hu, h8⟩ := prog_info h4
    have hj' : (j : Int) < (d.c.blocks.length : Nat) := by omega
    have hcl := chip_l s1
    have eI : devProg d j b = (match faultIn d.faults d.ops with
      | none => (goD d (progC d.c j b) d.down, 0)
      | some f => if f.kind = 1 then (goD d (badC d.c j) d.down, 2) else (goD d (progC d.c j (b.take f.keep.toNat)) true, 10)) := by rw [devProg, if_pos h0]; rfl
    have hF := sS_FaultAt d (by omega)
    rw [h0] at hM
    cases hfi : faultIn d.faults d.ops with
    | none =>
      rw [hfi] at eI
      simp only at eI
      rw [eI]
      have hfa0 : faultAt d = (zFault, false) := by rw [faultAt, hfi]
      rw [hfa0] at hF
      have hP1 := sS_Program d.c j b hf.1 s1 hb
      have e2 : List.take (((b.length : Nat) : Int) - 0).toNat (bytesR b) = bytesR b := by rw [List.take_of_length_le]; simp [bytesR]
      refine spec_C hmx p_S_DevProgram [] 8143 [] ⟨Nat.le_of_ble_eq_true rfl, Nat.le_of_ble_eq_true rfl⟩ rfl rfl ?_
      intro w hP hmd hks hQ
      unfold c_S_DevProgram
      simp +decide (maxSteps := 20000000) (disch := omega) only [↓SBK, ↓SBK2, SX, Nat.reduceEqDiff, Nat.reduceAdd, Nat.reduceMul, Nat.reduceSub, ↓reduceIte, Int.reduceNeg, Int.reduceToNat, Int.reducePow, hmd, hks, hQ]
      (first | refine call_i hP (sS_l11Copy d hs) (.inl ⟨rfl, fun _ hx => nomatch hx⟩) ?_ | refine callH_i hP (sS_l11Copy d hs) (.inl ⟨rfl, fun _ hx => nomatch hx⟩) ?_)
      simp +decide (maxSteps := 20000000) (disch := omega) only [↓SBK, ↓SBK2, SX, Nat.reduceEqDiff, Nat.reduceAdd, Nat.reduceMul, Nat.reduceSub, ↓reduceIte, Int.reduceNeg, Int.reduceToNat, Int.reducePow, hmd, hks, hQ]
      (first | refine call_i hP (hPc) (.inl ⟨rfl, fun _ hx => nomatch hx⟩) ?_ | refine callH_i hP (hPc) (.inl ⟨rfl, fun _ hx => nomatch hx⟩) ?_)
      simp +decide (maxSteps := 20000000) (disch := omega) only [↓SBK, ↓SBK2, SX, Nat.reduceEqDiff, Nat.reduceAdd, Nat.reduceMul, Nat.reduceSub, ↓reduceIte, Int.reduceNeg, Int.reduceToNat, Int.reducePow, hmd, hks, hQ]
      (first | refine call_i hP (hM) (.inl ⟨rfl, fun _ hx => nomatch hx⟩) ?_ | refine callH_i hP (hM) (.inl ⟨rfl, fun _ hx => nomatch hx⟩) ?_)
      simp +decide (maxSteps := 20000000) (disch := omega) only [↓SBK, ↓SBK2, SX, Nat.reduceEqDiff, Nat.reduceAdd, Nat.reduceMul, Nat.reduceSub, ↓reduceIte, Int.reduceNeg, Int.reduceToNat, Int.reducePow, hmd, hks, hQ]
      (first | refine call_i hP (hF) (.inl ⟨rfl, fun _ hx => nomatch hx⟩) ?_ | refine callH_i hP (hF) (.inl ⟨rfl, fun _ hx => nomatch hx⟩) ?_)
      simp +decide (maxSteps := 20000000) (disch := omega) only [↓SBK, ↓SBK2, SX, Nat.reduceEqDiff, Nat.reduceAdd, Nat.reduceMul, Nat.reduceSub, ↓reduceIte, Int.reduceNeg, Int.reduceToNat, Int.reducePow, hmd, hks, hQ, e2]
      (first | refine call_i hP (hP1) (.inl ⟨rfl, fun _ hx => nomatch hx⟩) ?_ | refine callH_i hP (hP1) (.inl ⟨rfl, fun _ hx => nomatch hx⟩) ?_)
      simp +decide (maxSteps := 20000000) (disch := omega) only [↓SBK, ↓SBK2, SX, Nat.reduceEqDiff, Nat.reduceAdd, Nat.reduceMul, Nat.reduceSub, ↓reduceIte, Int.reduceNeg, Int.reduceToNat, Int.reducePow, hmd, hks, hQ]
      simp [goD, h2]
    | some f =>
      rw [hfi] at eI
      simp only at eI
      have hfa0 : faultAt d = (f, true) := by rw [faultAt, hfi]
      rw [hfa0] at hF
      obtain ⟨q0, q1, q2⟩ := hfa f hfi
      by_cases h5 : f.kind = 1
      · rw [if_pos h5] at eI
        rw [eI]
        have dk : decide (f.kind = 1) = true := decide_eq_true h5
        refine spec_C hmx p_S_DevProgram [] 8143 [] ⟨Nat.le_of_ble_eq_true rfl, Nat.le_of_ble_eq_true rfl⟩ rfl rfl ?_
        intro w hP hmd hks hQ
        unfold c_S_DevProgram
        simp +decide (maxSteps := 20000000) (disch := omega) only [↓SBK, ↓SBK2, SX, Nat.reduceEqDiff, Nat.reduceAdd, Nat.reduceMul, Nat.reduceSub, ↓reduceIte, Int.reduceNeg, Int.reduceToNat, Int.reducePow, hmd, hks, hQ]
        (first | refine call_i hP (sS_l11Copy d hs) (.inl ⟨rfl, fun _ hx => nomatch hx⟩) ?_ | refine callH_i hP (sS_l11Copy d hs) (.inl ⟨rfl, fun _ hx => nomatch hx⟩) ?_)
        simp +decide (maxSteps := 20000000) (disch := omega) only [↓SBK, ↓SBK2, SX, Nat.reduceEqDiff, Nat.reduceAdd, Nat.reduceMul, Nat.reduceSub, ↓reduceIte, Int.reduceNeg, Int.reduceToNat, Int.reducePow, hmd, hks, hQ]
        (first | refine call_i hP (hPc) (.inl ⟨rfl, fun _ hx => nomatch hx⟩) ?_ | refine callH_i hP (hPc) (.inl ⟨rfl, fun _ hx => nomatch hx⟩) ?_)
        simp +decide (maxSteps := 20000000) (disch := omega) only [↓SBK, ↓SBK2, SX, Nat.reduceEqDiff, Nat.reduceAdd, Nat.reduceMul, Nat.reduceSub, ↓reduceIte, Int.reduceNeg, Int.reduceToNat, Int.reducePow, hmd, hks, hQ]
        (first | refine call_i hP (hM) (.inl ⟨rfl, fun _ hx => nomatch hx⟩) ?_ | refine callH_i hP (hM) (.inl ⟨rfl, fun _ hx => nomatch hx⟩) ?_)
        simp +decide (maxSteps := 20000000) (disch := omega) only [↓SBK, ↓SBK2, SX, Nat.reduceEqDiff, Nat.reduceAdd, Nat.reduceMul, Nat.reduceSub, ↓reduceIte, Int.reduceNeg, Int.reduceToNat, Int.reducePow, hmd, hks, hQ]
        (first | refine call_i hP (hF) (.inl ⟨rfl, fun _ hx => nomatch hx⟩) ?_ | refine callH_i hP (hF) (.inl ⟨rfl, fun _ hx => nomatch hx⟩) ?_)
        simp +decide (maxSteps := 20000000) (disch := omega) only [↓SBK, ↓SBK2, SX, Nat.reduceEqDiff, Nat.reduceAdd, Nat.reduceMul, Nat.reduceSub, ↓reduceIte, Int.reduceNeg, Int.reduceToNat, Int.reducePow, hmd, hks, hQ, dk, getE hj']
        rw [bad_rows _ _ hj]
        simp [goD, badC]
      · rw [if_neg h5] at eI
        rw [eI]
        have dk : decide (f.kind = 1) = false := decide_eq_false h5
        obtain ⟨q, hq⟩ : ∃ q : Nat, f.keep = q := ⟨f.keep.toNat, by omega⟩
        have hqt : f.keep.toNat = q := by omega
        have hPx := sS_Program d.c j (b.take q) hf.1 s1 (by simp; omega)
        by_cases h6 : (q : Int) < (b.length : Nat)
        · have d6 : decide ((q : Int) < (b.length : Nat)) = true := decide_eq_true h6
          refine spec_C hmx p_S_DevProgram [] 8143 [] ⟨Nat.le_of_ble_eq_true rfl, Nat.le_of_ble_eq_true rfl⟩ rfl rfl ?_
          intro w hP hmd hks hQ
          unfold c_S_DevProgram
          simp +decide (maxSteps := 20000000) (disch := omega) only [↓SBK, ↓SBK2, SX, Nat.reduceEqDiff, Nat.reduceAdd, Nat.reduceMul, Nat.reduceSub, ↓reduceIte, Int.reduceNeg, Int.reduceToNat, Int.reducePow, hmd, hks, hQ]
          (first | refine call_i hP (sS_l11Copy d hs) (.inl ⟨rfl, fun _ hx => nomatch hx⟩) ?_ | refine callH_i hP (sS_l11Copy d hs) (.inl ⟨rfl, fun _ hx => nomatch hx⟩) ?_)
          simp +decide (maxSteps := 20000000) (disch := omega) only [↓SBK, ↓SBK2, SX, Nat.reduceEqDiff, Nat.reduceAdd, Nat.reduceMul, Nat.reduceSub, ↓reduceIte, Int.reduceNeg, Int.reduceToNat, Int.reducePow, hmd, hks, hQ]
          (first | refine call_i hP (hPc) (.inl ⟨rfl, fun _ hx => nomatch hx⟩) ?_ | refine callH_i hP (hPc) (.inl ⟨rfl, fun _ hx => nomatch hx⟩) ?_)
          simp +decide (maxSteps := 20000000) (disch := omega) only [↓SBK, ↓SBK2, SX, Nat.reduceEqDiff, Nat.reduceAdd, Nat.reduceMul, Nat.reduceSub, ↓reduceIte, Int.reduceNeg, Int.reduceToNat, Int.reducePow, hmd, hks, hQ]
          (first | refine call_i hP (hM) (.inl ⟨rfl, fun _ hx => nomatch hx⟩) ?_ | refine callH_i hP (hM) (.inl ⟨rfl, fun _ hx => nomatch hx⟩) ?_)
          simp +decide (maxSteps := 20000000) (disch := omega) only [↓SBK, ↓SBK2, SX, Nat.reduceEqDiff, Nat.reduceAdd, Nat.reduceMul, Nat.reduceSub, ↓reduceIte, Int.reduceNeg, Int.reduceToNat, Int.reducePow, hmd, hks, hQ]
          (first | refine call_i hP (hF) (.inl ⟨rfl, fun _ hx => nomatch hx⟩) ?_ | refine callH_i hP (hF) (.inl ⟨rfl, fun _ hx => nomatch hx⟩) ?_)
          simp +decide (maxSteps := 20000000) (disch := omega) only [↓SBK, ↓SBK2, SX, Nat.reduceEqDiff, Nat.reduceAdd, Nat.reduceMul, Nat.reduceSub, ↓reduceIte, Int.reduceNeg, Int.reduceToNat, Int.reducePow, hmd, hks, hQ, dk, hq, d6, Int.sub_zero, bytesR_take]
          (first | refine call_i hP (hPx) (.inl ⟨rfl, fun _ hx => nomatch hx⟩) ?_ | refine callH_i hP (hPx) (.inl ⟨rfl, fun _ hx => nomatch hx⟩) ?_)
          simp +decide (maxSteps := 20000000) (disch := omega) only [↓SBK, ↓SBK2, SX, Nat.reduceEqDiff, Nat.reduceAdd, Nat.reduceMul, Nat.reduceSub, ↓reduceIte, Int.reduceNeg, Int.reduceToNat, Int.reducePow, hmd, hks, hQ]
          simp [goD, hqt]
        · have d6 : decide ((q : Int) < (b.length : Nat)) = false := decide_eq_false h6
          have e : b.take q = b := List.take_of_length_le (by omega)
          rw [e] at hPx
          have e2 : List.take (((b.length : Nat) : Int) - 0).toNat (bytesR b) = bytesR b := by rw [List.take_of_length_le]; simp [bytesR]
          refine spec_C hmx p_S_DevProgram [] 8143 [] ⟨Nat.le_of_ble_eq_true rfl, Nat.le_of_ble_eq_true rfl⟩ rfl rfl ?_
          intro w hP hmd hks hQ
          unfold c_S_DevProgram
          simp +decide (maxSteps := 20000000) (disch := omega) only [↓SBK, ↓SBK2, SX, Nat.reduceEqDiff, Nat.reduceAdd, Nat.reduceMul, Nat.reduceSub, ↓reduceIte, Int.reduceNeg, Int.reduceToNat, Int.reducePow, hmd, hks, hQ]
          (first | refine call_i hP (sS_l11Copy d hs) (.inl ⟨rfl, fun _ hx => nomatch hx⟩) ?_ | refine callH_i hP (sS_l11Copy d hs) (.inl ⟨rfl, fun _ hx => nomatch hx⟩) ?_)
          simp +decide (maxSteps := 20000000) (disch := omega) only [↓SBK, ↓SBK2, SX, Nat.reduceEqDiff, Nat.reduceAdd, Nat.reduceMul, Nat.reduceSub, ↓reduceIte, Int.reduceNeg, Int.reduceToNat, Int.reducePow, hmd, hks, hQ]
          (first | refine call_i hP (hPc) (.inl ⟨rfl, fun _ hx => nomatch hx⟩) ?_ | refine callH_i hP (hPc) (.inl ⟨rfl, fun _ hx => nomatch hx⟩) ?_)
          simp +decide (maxSteps := 20000000) (disch := omega) only [↓SBK, ↓SBK2, SX, Nat.reduceEqDiff, Nat.reduceAdd, Nat.reduceMul, Nat.reduceSub, ↓reduceIte, Int.reduceNeg, Int.reduceToNat, Int.reducePow, hmd, hks, hQ]
          (first | refine call_i hP (hM) (.inl ⟨rfl, fun _ hx => nomatch hx⟩) ?_ | refine callH_i hP (hM) (.inl ⟨rfl, fun _ hx => nomatch hx⟩) ?_)
          simp +decide (maxSteps := 20000000) (disch := omega) only [↓SBK, ↓SBK2, SX, Nat.reduceEqDiff, Nat.reduceAdd, Nat.reduceMul, Nat.reduceSub, ↓reduceIte, Int.reduceNeg, Int.reduceToNat, Int.reducePow, hmd, hks, hQ]
          (first | refine call_i hP (hF) (.inl ⟨rfl, fun _ hx => nomatch hx⟩) ?_ | refine callH_i hP (hF) (.inl ⟨rfl, fun _ hx => nomatch hx⟩) ?_)
          simp +decide (maxSteps := 20000000) (disch := omega) only [↓SBK, ↓SBK2, SX, Nat.reduceEqDiff, Nat.reduceAdd, Nat.reduceMul, Nat.reduceSub, ↓reduceIte, Int.reduceNeg, Int.reduceToNat, Int.reducePow, hmd, hks, hQ, dk, hq, d6, e2]
          (first | refine call_i hP (hPx) (.inl ⟨rfl, fun _ hx => nomatch hx⟩) ?_ | refine callH_i hP (hPx) (.inl ⟨rfl, fun _ hx => nomatch hx⟩) ?_)
          simp +decide (maxSteps := 20000000) (disch := omega) only [↓SBK, ↓SBK2, SX, Nat.reduceEqDiff, Nat.reduceAdd, Nat.reduceMul, Nat.reduceSub, ↓reduceIte, Int.reduceNeg, Int.reduceToNat, Int.reducePow, hmd, hks, hQ]
          simp [goD, hqt, e]
  · have d0 : decide (devMay d (progCode d.c k b) = 0) = false := decide_eq_false h0
    have e : devProg d k b = (d, devMay d (progCode d.c k b)) := by rw [devProg, if_neg h0]
    rw [e]
    refine spec_C hmx p_S_DevProgram [] 8143 [] ⟨Nat.le_of_ble_eq_true rfl, Nat.le_of_ble_eq_true rfl⟩ rfl rfl ?_
    intro w hP hmd hks hQ
    unfold c_S_DevProgram
    simp +decide (maxSteps := 20000000) (disch := omega) only [↓SBK, ↓SBK2, SX, Nat.reduceEqDiff, Nat.reduceAdd, Nat.reduceMul, Nat.reduceSub, ↓reduceIte, Int.reduceNeg, Int.reduceToNat, Int.reducePow, hmd, hks, hQ]
    (first | refine call_i hP (sS_l11Copy d hs) (.inl ⟨rfl, fun _ hx => nomatch hx⟩) ?_ | refine callH_i hP (sS_l11Copy d hs) (.inl ⟨rfl, fun _ hx => nomatch hx⟩) ?_)
    simp +decide (maxSteps := 20000000) (disch := omega) only [↓SBK, ↓SBK2, SX, Nat.reduceEqDiff, Nat.reduceAdd, Nat.reduceMul, Nat.reduceSub, ↓reduceIte, Int.reduceNeg, Int.reduceToNat, Int.reducePow, hmd, hks, hQ]
    (first | refine call_i hP (hPc) (.inl ⟨rfl, fun _ hx => nomatch hx⟩) ?_ | refine callH_i hP (hPc) (.inl ⟨rfl, fun _ hx => nomatch hx⟩) ?_)
    simp +decide (maxSteps := 20000000) (disch := omega) only [↓SBK, ↓SBK2, SX, Nat.reduceEqDiff, Nat.reduceAdd, Nat.reduceMul, Nat.reduceSub, ↓reduceIte, Int.reduceNeg, Int.reduceToNat, Int.reducePow, hmd, hks, hQ]
    (first | refine call_i hP (hM) (.inl ⟨rfl, fun _ hx => nomatch hx⟩) ?_ | refine callH_i hP (hM) (.inl ⟨rfl, fun _ hx => nomatch hx⟩) ?_)
    simp +decide (maxSteps := 20000000) (disch := omega) only [↓SBK, ↓SBK2, SX, Nat.reduceEqDiff, Nat.reduceAdd, Nat.reduceMul, Nat.reduceSub, ↓reduceIte, Int.reduceNeg, Int.reduceToNat, Int.reducePow, hmd, hks, hQ, d0]
end Go.Proofs.Ytliklgcfdgdigaa.Awp

namespace Go.Proofs.Ytliklgcfdgdigaa.Awp
open Go.Proofs
set_option linter.unusedSimpArgs false
set_option linter.unusedVariables false
set_option maxRecDepth 100000
set_option maxHeartbeats 20000000

theorem badC_sz (c : Chip) (j : Nat) : (badC c j).sz ≤ c.sz := by
  by_cases hj : j < c.blocks.length
  · have := sum_modify2 Block.sz badB 0 c.blocks j hj (Nat.le_refl _)
    have e1 : (badC c j).sz = (c.blocks.modify j badB).length + ((c.blocks.modify j badB).map Block.sz).sum := rfl
    have e2 : c.sz = c.blocks.length + (c.blocks.map Block.sz).sum := rfl
    rw [e1, e2, List.length_modify]
    omega
  · have e : c.blocks.modify j badB = c.blocks := by
      apply List.ext_getElem?
      intro i
      rw [List.getElem?_modify]
      by_cases h : j = i
      · subst h; rw [List.getElem?_eq_none (by omega)]; rfl
      · simp [h]
    have e1 : badC c j = c := by unfold badC; rw [e]
    rw [e1]
    exact Nat.le_refl _
theorem devProg_sz (d : Dev) (k : Int) (b : Bytes) : (devProg d k b).1.sz ≤ d.sz + b.length := by
  have e0 : d.sz = d.c.sz + d.faults.length := rfl
  have eg : ∀ c x, (goD d c x).sz = c.sz + d.faults.length := fun _ _ => rfl
  unfold devProg
  split
  · split
    · have := progC_sz d.c k b
      rw [eg]; omega
    · split
      · have := badC_sz d.c k.toNat
        rw [eg]; omega
      · rename_i f _ _
        have := progC_sz d.c k (b.take f.keep.toNat)
        have h2 : (b.take f.keep.toNat).length ≤ b.length := by simp; omega
        rw [eg]; omega
  · simp only; omega
end Go.Proofs.Ytliklgcfdgdigaa.Awp

namespace Go.Proofs.Ytliklgcfdgdigaa.Awp
open Go.Proofs
set_option linter.unusedSimpArgs false
set_option linter.unusedVariables false
set_option maxRecDepth 100000
set_option maxHeartbeats 20000000

theorem modify_sz {c : Chip} {j : Nat} {f : Block → Block} (K : Nat) (hj : j < c.blocks.length) (h : (f c.blocks[j]).sz ≤ (c.blocks[j]).sz + K) : Chip.sz { blocks := c.blocks.modify j f } ≤ c.sz + K := by
  have := sum_modify2 Block.sz f K c.blocks j hj h
  have e1 : Chip.sz { blocks := c.blocks.modify j f } = (c.blocks.modify j f).length + ((c.blocks.modify j f).map Block.sz).sum := rfl
  have e2 : c.sz = c.blocks.length + (c.blocks.map Block.sz).sum := rfl
  rw [e1, e2, List.length_modify]
  omega
def pgB (f : Page → Page) (x : Block) : Block := { pages := x.pages.modify 7 f, wear := x.wear, bad := x.bad }
theorem pgB_sz {x : Block} {f : Page → Page} (K : Nat) (h7 : 7 < x.pages.length) (h : (f x.pages[7]).sz ≤ (x.pages[7]).sz + K) : (pgB f x).sz ≤ x.sz + K := by
  have := sum_modify2 Page.sz f K x.pages 7 h7 h
  have e1 : (pgB f x).sz = (x.pages.modify 7 f).length + ((x.pages.modify 7 f).map Page.sz).sum := rfl
  have e2 : x.sz = x.pages.length + (x.pages.map Page.sz).sum := rfl
  rw [e1, e2, List.length_modify]
  omega
def wrB (v : Int) (x : Block) : Block := { pages := x.pages, wear := v, bad := x.bad }
def drB (x : Block) : Block := { pages := x.pages.drop 1, wear := x.wear, bad := x.bad }
theorem drB_sz (x : Block) : (drB x).sz ≤ x.sz := by
  have e1 : (drB x).sz = (x.pages.drop 1).length + ((x.pages.drop 1).map Page.sz).sum := rfl
  have e2 : x.sz = x.pages.length + (x.pages.map Page.sz).sum := rfl
  rw [e1, e2]
  cases x.pages with
  | nil => simp
  | cons p l => simp only [List.drop_succ_cons, List.drop_zero, List.length_cons, List.map_cons, List.sum_cons]; omega
theorem take_sz (c : Chip) (n : Nat) : Chip.sz { blocks := c.blocks.take n } ≤ c.sz := by
  have e1 : Chip.sz { blocks := c.blocks.take n } = (c.blocks.take n).length + ((c.blocks.take n).map Block.sz).sum := rfl
  have e2 : c.sz = c.blocks.length + (c.blocks.map Block.sz).sum := rfl
  have := sum_take_le Block.sz c.blocks n
  rw [e1, e2, List.length_take]
  omega
theorem pg_rows (f : Page → Page) (g : List TV → List TV) (l : List Block) (n : Nat) (hn : n < l.length) (h7 : 7 < (l[n]).pages.length) (h : g (Page.row ((l[n]).pages[7])) = Page.row (f ((l[n]).pages[7]))) :
    ((l.map Block.row).modify n fun x => x.modify 0 fun _ => TV.sl 2 (((l[n]).pages.map Page.row).modify 7 g)) = (l.modify n (pgB f)).map Block.row := by
  refine mod_map Block.row _ (pgB f) l n hn ?_
  rw [mod_map Page.row g f (l[n]).pages 7 h7 h]; rfl
theorem dr_rows (l : List Block) (n : Nat) (hn : n < l.length) :
    ((l.map Block.row).modify n fun x => TV.sl 2 (List.take ((((l[n]).pages.length : Nat) : Int) - 1).toNat (List.drop 1 ((l[n]).pages.map Page.row))) :: List.drop 1 (x.modify 0 fun _ => TV.undef)) = (l.modify n drB).map Block.row := by
  refine mod_map Block.row _ drB l n hn ?_
  have e : List.take ((((l[n]).pages.length : Nat) : Int) - 1).toNat (List.drop 1 ((l[n]).pages.map Page.row)) = ((l[n]).pages.drop 1).map Page.row := by
    rw [← List.map_drop, List.take_of_length_le]
    simp only [List.length_map, List.length_drop]
    omega
  rw [e]; rfl
theorem s_l10Any (v : Value) (b : Bytes) (i : Nat) (h : Int) (hl : b.length < 2 ^ 48) (hi : i ≤ b.length) : ∃ (c : Chip) (i' : Nat) (h' : Int), c.sz ≤ 90000 ∧ i' ≤ b.length ∧
    Spec Try.prog 146 [cur v b i h] c.o [cur v b i' h'] := by
  have key : ∃ ret outs, (∃ (c : Chip) (i' : Nat) (h' : Int), c.sz ≤ 90000 ∧ i' ≤ b.length ∧ ret = c.o ∧ outs = [cur v b i' h']) ∧ Spec Try.prog 146 [cur v b i h] ret outs := by
    obtain ⟨c, i1, h1, hc, hi1, k1⟩ := s_l10Draw v b i h hl hi
    have hs := okC_sz hc
    have hlen := chip_l (c := c) (n := 2 ^ 40) (by omega)
    have hl3 := (inR_iff _ _ _).1 hc.2
    obtain ⟨n, i2, h2, hn, hi2, k2⟩ := s_l1Below v b i1 h1 c.blocks.length hl hi1 (by omega)
    obtain ⟨x, i3, h3, hx, hi3, k3⟩ := s_l1Below v b i2 h2 16 hl hi2 (by decide)
    rw [below, if_pos (by omega)] at hn
    have hn' : n < c.blocks.length := by omega
    have h8 := (hc.1 _ (List.getElem_mem hn')).1
    have h7 : 7 < (c.blocks[n]).pages.length := by omega
    have p7 : (c.blocks[n]).pages[7]? = some ((c.blocks[n]).pages[7]) := List.getElem?_eq_getElem h7
    have c7 : ((7 : Int)) < ((c.blocks[n]).pages.length : Nat) := by omega
    unfold cur at *
    match x, hx with
    | 0, _ =>
      obtain ⟨r, i4, h4, hr, hi4, k4⟩ := s_l1Int v b i3 h3 [-1, 100000, 100001] hl hi3 (by simp) (by simp)
      unfold cur at k4
      simp only [intR, List.map_cons, List.map_nil] at k4
      refine specEx_C hmx p_S_l10Any [(148, [.l, .b], []), (145, [.l, .b], []), (147, [.l], [])] 8221 [true] ⟨Nat.le_of_ble_eq_true rfl, Nat.le_of_ble_eq_true rfl⟩ rfl ?_
      intro w hP hmd hks hQ
      unfold c_S_l10Any
      simp +decide (maxSteps := 20000000) (disch := omega) only [↓SBK, ↓SBK2, SX, Nat.reduceEqDiff, Nat.reduceAdd, Nat.reduceMul, Nat.reduceSub, ↓reduceIte, Int.reduceNeg, Int.reduceToNat, Int.reducePow, hmd, hks, hQ]
      (first | refine call_i hP (k1) (.inl ⟨rfl, fun _ hx => hx⟩) ?_ | refine callH_i hP (k1) (.inl ⟨rfl, fun _ hx => hx⟩) ?_)
      simp +decide (maxSteps := 20000000) (disch := omega) only [↓SBK, ↓SBK2, SX, Nat.reduceEqDiff, Nat.reduceAdd, Nat.reduceMul, Nat.reduceSub, ↓reduceIte, Int.reduceNeg, Int.reduceToNat, Int.reducePow, hmd, hks, hQ]
      (first | refine call_i hP (k2) (.inl ⟨rfl, fun _ hx => hx⟩) ?_ | refine callH_i hP (k2) (.inl ⟨rfl, fun _ hx => hx⟩) ?_)
      simp +decide (maxSteps := 20000000) (disch := omega) only [↓SBK, ↓SBK2, SX, Nat.reduceEqDiff, Nat.reduceAdd, Nat.reduceMul, Nat.reduceSub, ↓reduceIte, Int.reduceNeg, Int.reduceToNat, Int.reducePow, hmd, hks, hQ]
      (first | refine call_i hP (k3) (.inl ⟨rfl, fun _ hx => hx⟩) ?_ | refine callH_i hP (k3) (.inl ⟨rfl, fun _ hx => hx⟩) ?_)
      simp +decide (maxSteps := 20000000) (disch := omega) only [↓SBK, ↓SBK2, SX, Nat.reduceEqDiff, Nat.reduceAdd, Nat.reduceMul, Nat.reduceSub, ↓reduceIte, Int.reduceNeg, Int.reduceToNat, Int.reducePow, hmd, hks, hQ]
      (first | refine call_i hP (k4) (.inl ⟨rfl, fun _ hx => hx⟩) ?_ | refine callH_i hP (k4) (.inl ⟨rfl, fun _ hx => hx⟩) ?_)
      simp +decide (maxSteps := 20000000) (disch := omega) only [↓SBK, ↓SBK2, SX, Nat.reduceEqDiff, Nat.reduceAdd, Nat.reduceMul, Nat.reduceSub, ↓reduceIte, Int.reduceNeg, Int.reduceToNat, Int.reducePow, hmd, hks, hQ, getE hn]
      rw [mod_map Block.row _ (wrB r) c.blocks n hn' rfl]
      exact ⟨{ blocks := c.blocks.modify n (wrB r) }, i4, h4, Nat.le_trans (modify_sz 0 hn' (Nat.le_refl _)) (by omega), hi4, rfl, rfl⟩
    | 1, _ =>
      refine specEx_C hmx p_S_l10Any [(148, [.l, .b], []), (145, [.l, .b], []), (147, [.l], [])] 8221 [true] ⟨Nat.le_of_ble_eq_true rfl, Nat.le_of_ble_eq_true rfl⟩ rfl ?_
      intro w hP hmd hks hQ
      unfold c_S_l10Any
      simp +decide (maxSteps := 20000000) (disch := omega) only [↓SBK, ↓SBK2, SX, Nat.reduceEqDiff, Nat.reduceAdd, Nat.reduceMul, Nat.reduceSub, ↓reduceIte, Int.reduceNeg, Int.reduceToNat, Int.reducePow, hmd, hks, hQ]
      (first | refine call_i hP (k1) (.inl ⟨rfl, fun _ hx => hx⟩) ?_ | refine callH_i hP (k1) (.inl ⟨rfl, fun _ hx => hx⟩) ?_)
      simp +decide (maxSteps := 20000000) (disch := omega) only [↓SBK, ↓SBK2, SX, Nat.reduceEqDiff, Nat.reduceAdd, Nat.reduceMul, Nat.reduceSub, ↓reduceIte, Int.reduceNeg, Int.reduceToNat, Int.reducePow, hmd, hks, hQ]
      (first | refine call_i hP (k2) (.inl ⟨rfl, fun _ hx => hx⟩) ?_ | refine callH_i hP (k2) (.inl ⟨rfl, fun _ hx => hx⟩) ?_)
      simp +decide (maxSteps := 20000000) (disch := omega) only [↓SBK, ↓SBK2, SX, Nat.reduceEqDiff, Nat.reduceAdd, Nat.reduceMul, Nat.reduceSub, ↓reduceIte, Int.reduceNeg, Int.reduceToNat, Int.reducePow, hmd, hks, hQ]
      (first | refine call_i hP (k3) (.inl ⟨rfl, fun _ hx => hx⟩) ?_ | refine callH_i hP (k3) (.inl ⟨rfl, fun _ hx => hx⟩) ?_)
      simp +decide (maxSteps := 20000000) (disch := omega) only [↓SBK, ↓SBK2, SX, Nat.reduceEqDiff, Nat.reduceAdd, Nat.reduceMul, Nat.reduceSub, ↓reduceIte, Int.reduceNeg, Int.reduceToNat, Int.reducePow, hmd, hks, hQ, getE hn, p7, c7]
      rw [pg_rows (fun p => { used := true, b := p.b }) _ c.blocks n hn' h7 rfl]
      exact ⟨{ blocks := c.blocks.modify n (pgB fun p => { used := true, b := p.b }) }, i3, h3, Nat.le_trans (modify_sz 0 hn' (pgB_sz 0 h7 (Nat.le_refl _))) (by omega), hi3, rfl, rfl⟩
    | 2, _ =>
      refine specEx_C hmx p_S_l10Any [(148, [.l, .b], []), (145, [.l, .b], []), (147, [.l], [])] 8221 [true] ⟨Nat.le_of_ble_eq_true rfl, Nat.le_of_ble_eq_true rfl⟩ rfl ?_
      intro w hP hmd hks hQ
      unfold c_S_l10Any
      simp +decide (maxSteps := 20000000) (disch := omega) only [↓SBK, ↓SBK2, SX, Nat.reduceEqDiff, Nat.reduceAdd, Nat.reduceMul, Nat.reduceSub, ↓reduceIte, Int.reduceNeg, Int.reduceToNat, Int.reducePow, hmd, hks, hQ]
      (first | refine call_i hP (k1) (.inl ⟨rfl, fun _ hx => hx⟩) ?_ | refine callH_i hP (k1) (.inl ⟨rfl, fun _ hx => hx⟩) ?_)
      simp +decide (maxSteps := 20000000) (disch := omega) only [↓SBK, ↓SBK2, SX, Nat.reduceEqDiff, Nat.reduceAdd, Nat.reduceMul, Nat.reduceSub, ↓reduceIte, Int.reduceNeg, Int.reduceToNat, Int.reducePow, hmd, hks, hQ]
      (first | refine call_i hP (k2) (.inl ⟨rfl, fun _ hx => hx⟩) ?_ | refine callH_i hP (k2) (.inl ⟨rfl, fun _ hx => hx⟩) ?_)
      simp +decide (maxSteps := 20000000) (disch := omega) only [↓SBK, ↓SBK2, SX, Nat.reduceEqDiff, Nat.reduceAdd, Nat.reduceMul, Nat.reduceSub, ↓reduceIte, Int.reduceNeg, Int.reduceToNat, Int.reducePow, hmd, hks, hQ]
      (first | refine call_i hP (k3) (.inl ⟨rfl, fun _ hx => hx⟩) ?_ | refine callH_i hP (k3) (.inl ⟨rfl, fun _ hx => hx⟩) ?_)
      simp +decide (maxSteps := 20000000) (disch := omega) only [↓SBK, ↓SBK2, SX, Nat.reduceEqDiff, Nat.reduceAdd, Nat.reduceMul, Nat.reduceSub, ↓reduceIte, Int.reduceNeg, Int.reduceToNat, Int.reducePow, hmd, hks, hQ, getE hn, p7, c7]
      rw [pg_rows (fun p => { used := p.used, b := [1] }) _ c.blocks n hn' h7 rfl]
      exact ⟨{ blocks := c.blocks.modify n (pgB fun p => { used := p.used, b := [1] }) }, i3, h3, Nat.le_trans (modify_sz 1 hn' (pgB_sz 1 h7 (Nat.le_add_left _ _))) (by omega), hi3, rfl, rfl⟩
    | 3, _ =>
      refine specEx_C hmx p_S_l10Any [(148, [.l, .b], []), (145, [.l, .b], []), (147, [.l], [])] 8221 [true] ⟨Nat.le_of_ble_eq_true rfl, Nat.le_of_ble_eq_true rfl⟩ rfl ?_
      intro w hP hmd hks hQ
      unfold c_S_l10Any
      simp +decide (maxSteps := 20000000) (disch := omega) only [↓SBK, ↓SBK2, SX, Nat.reduceEqDiff, Nat.reduceAdd, Nat.reduceMul, Nat.reduceSub, ↓reduceIte, Int.reduceNeg, Int.reduceToNat, Int.reducePow, hmd, hks, hQ]
      (first | refine call_i hP (k1) (.inl ⟨rfl, fun _ hx => hx⟩) ?_ | refine callH_i hP (k1) (.inl ⟨rfl, fun _ hx => hx⟩) ?_)
      simp +decide (maxSteps := 20000000) (disch := omega) only [↓SBK, ↓SBK2, SX, Nat.reduceEqDiff, Nat.reduceAdd, Nat.reduceMul, Nat.reduceSub, ↓reduceIte, Int.reduceNeg, Int.reduceToNat, Int.reducePow, hmd, hks, hQ]
      (first | refine call_i hP (k2) (.inl ⟨rfl, fun _ hx => hx⟩) ?_ | refine callH_i hP (k2) (.inl ⟨rfl, fun _ hx => hx⟩) ?_)
      simp +decide (maxSteps := 20000000) (disch := omega) only [↓SBK, ↓SBK2, SX, Nat.reduceEqDiff, Nat.reduceAdd, Nat.reduceMul, Nat.reduceSub, ↓reduceIte, Int.reduceNeg, Int.reduceToNat, Int.reducePow, hmd, hks, hQ]
      (first | refine call_i hP (k3) (.inl ⟨rfl, fun _ hx => hx⟩) ?_ | refine callH_i hP (k3) (.inl ⟨rfl, fun _ hx => hx⟩) ?_)
      simp +decide (maxSteps := 20000000) (disch := omega) only [↓SBK, ↓SBK2, SX, Nat.reduceEqDiff, Nat.reduceAdd, Nat.reduceMul, Nat.reduceSub, ↓reduceIte, Int.reduceNeg, Int.reduceToNat, Int.reducePow, hmd, hks, hQ, getE hn]
      rw [dr_rows c.blocks n hn']
      exact ⟨{ blocks := c.blocks.modify n drB }, i3, h3, Nat.le_trans (modify_sz 0 hn' (drB_sz _)) (by omega), hi3, rfl, rfl⟩
    | 4, _ =>
      refine specEx_C hmx p_S_l10Any [(148, [.l, .b], []), (145, [.l, .b], []), (147, [.l], [])] 8221 [true] ⟨Nat.le_of_ble_eq_true rfl, Nat.le_of_ble_eq_true rfl⟩ rfl ?_
      intro w hP hmd hks hQ
      unfold c_S_l10Any
      simp +decide (maxSteps := 20000000) (disch := omega) only [↓SBK, ↓SBK2, SX, Nat.reduceEqDiff, Nat.reduceAdd, Nat.reduceMul, Nat.reduceSub, ↓reduceIte, Int.reduceNeg, Int.reduceToNat, Int.reducePow, hmd, hks, hQ]
      (first | refine call_i hP (k1) (.inl ⟨rfl, fun _ hx => hx⟩) ?_ | refine callH_i hP (k1) (.inl ⟨rfl, fun _ hx => hx⟩) ?_)
      simp +decide (maxSteps := 20000000) (disch := omega) only [↓SBK, ↓SBK2, SX, Nat.reduceEqDiff, Nat.reduceAdd, Nat.reduceMul, Nat.reduceSub, ↓reduceIte, Int.reduceNeg, Int.reduceToNat, Int.reducePow, hmd, hks, hQ]
      (first | refine call_i hP (k2) (.inl ⟨rfl, fun _ hx => hx⟩) ?_ | refine callH_i hP (k2) (.inl ⟨rfl, fun _ hx => hx⟩) ?_)
      simp +decide (maxSteps := 20000000) (disch := omega) only [↓SBK, ↓SBK2, SX, Nat.reduceEqDiff, Nat.reduceAdd, Nat.reduceMul, Nat.reduceSub, ↓reduceIte, Int.reduceNeg, Int.reduceToNat, Int.reducePow, hmd, hks, hQ]
      (first | refine call_i hP (k3) (.inl ⟨rfl, fun _ hx => hx⟩) ?_ | refine callH_i hP (k3) (.inl ⟨rfl, fun _ hx => hx⟩) ?_)
      simp +decide (maxSteps := 20000000) (disch := omega) only [↓SBK, ↓SBK2, SX, Nat.reduceEqDiff, Nat.reduceAdd, Nat.reduceMul, Nat.reduceSub, ↓reduceIte, Int.reduceNeg, Int.reduceToNat, Int.reducePow, hmd, hks, hQ]
      have e : List.take ((2 : Int) - 0).toNat (c.blocks.map Block.row) = (c.blocks.take 2).map Block.row := by rw [List.map_take]; rfl
      rw [e]
      exact ⟨{ blocks := c.blocks.take 2 }, i3, h3, Nat.le_trans (take_sz c 2) (by omega), hi3, rfl, rfl⟩
    | m + 5, _ =>
      have d0 : decide (((m + 5 : Nat) : Int) = 0) = false := decide_eq_false (by omega)
      have d1 : decide (((m + 5 : Nat) : Int) = 1) = false := decide_eq_false (by omega)
      have d2 : decide (((m + 5 : Nat) : Int) = 2) = false := decide_eq_false (by omega)
      have d3 : decide (((m + 5 : Nat) : Int) = 3) = false := decide_eq_false (by omega)
      have d4 : decide (((m + 5 : Nat) : Int) = 4) = false := decide_eq_false (by omega)
      refine specEx_C hmx p_S_l10Any [(148, [.l, .b], []), (145, [.l, .b], []), (147, [.l], [])] 8221 [true] ⟨Nat.le_of_ble_eq_true rfl, Nat.le_of_ble_eq_true rfl⟩ rfl ?_
      intro w hP hmd hks hQ
      unfold c_S_l10Any
      simp +decide (maxSteps := 20000000) (disch := omega) only [↓SBK, ↓SBK2, SX, Nat.reduceEqDiff, Nat.reduceAdd, Nat.reduceMul, Nat.reduceSub, ↓reduceIte, Int.reduceNeg, Int.reduceToNat, Int.reducePow, hmd, hks, hQ]
      (first | refine call_i hP (k1) (.inl ⟨rfl, fun _ hx => hx⟩) ?_ | refine callH_i hP (k1) (.inl ⟨rfl, fun _ hx => hx⟩) ?_)
      simp +decide (maxSteps := 20000000) (disch := omega) only [↓SBK, ↓SBK2, SX, Nat.reduceEqDiff, Nat.reduceAdd, Nat.reduceMul, Nat.reduceSub, ↓reduceIte, Int.reduceNeg, Int.reduceToNat, Int.reducePow, hmd, hks, hQ]
      (first | refine call_i hP (k2) (.inl ⟨rfl, fun _ hx => hx⟩) ?_ | refine callH_i hP (k2) (.inl ⟨rfl, fun _ hx => hx⟩) ?_)
      simp +decide (maxSteps := 20000000) (disch := omega) only [↓SBK, ↓SBK2, SX, Nat.reduceEqDiff, Nat.reduceAdd, Nat.reduceMul, Nat.reduceSub, ↓reduceIte, Int.reduceNeg, Int.reduceToNat, Int.reducePow, hmd, hks, hQ]
      (first | refine call_i hP (k3) (.inl ⟨rfl, fun _ hx => hx⟩) ?_ | refine callH_i hP (k3) (.inl ⟨rfl, fun _ hx => hx⟩) ?_)
      simp +decide (maxSteps := 20000000) (disch := omega) only [↓SBK, ↓SBK2, SX, Nat.reduceEqDiff, Nat.reduceAdd, Nat.reduceMul, Nat.reduceSub, ↓reduceIte, Int.reduceNeg, Int.reduceToNat, Int.reducePow, hmd, hks, hQ, d0, d1, d2, d3, d4]
      exact ⟨c, i3, h3, by omega, hi3, rfl, rfl⟩
  obtain ⟨_, _, ⟨c, i', h', hc, hi', rfl, rfl⟩, hS⟩ := key
  exact ⟨c, i', h', hc, hi', hS⟩
end Go.Proofs.Ytliklgcfdgdigaa.Awp

namespace Go.Proofs.Ytliklgcfdgdigaa.Awp
open Go.Proofs
set_option linter.unusedSimpArgs false
set_option linter.unusedVariables false
set_option maxRecDepth 100000
set_option maxHeartbeats 20000000

theorem sameBytes_self (b : Bytes) (h : b.length < 2 ^ 40) : Spec Try.prog 72 [.ext 1 (bytesR b), .ext 1 (bytesR b)] (.bool true) [.undef, .undef] := by
  have he := s_sameBytes b b h
  rwa [decide_eq_true rfl] at he
theorem sameChip_self (c : Chip) (hs : c.sz < 2 ^ 40) : Spec Try.prog 90 [c.x, c.x] (.bool true) [.undef, .undef] := by
  have hl := chip_l hs
  refine spec_C hmx p_L_sameChip [] 511 [] ⟨Nat.le_of_ble_eq_true rfl, Nat.le_of_ble_eq_true rfl⟩ rfl rfl ?_
  intro w hP hmd hks hQ
  unfold c_L_sameChip
  simp +decide (maxSteps := 20000000) (disch := omega) only [↓SBK, ↓SBK2, SX, Nat.reduceEqDiff, Nat.reduceAdd, Nat.reduceMul, Nat.reduceSub, ↓reduceIte, Int.reduceNeg, Int.reduceToNat, Int.reducePow, hmd, hks, hQ]
  refine LH_D [4, 6, 7, 8, 5006, 5007] ?_
  simp +decide (maxSteps := 20000000) (disch := omega) only [↓SBK, ↓SBK2, SX, Nat.reduceEqDiff, Nat.reduceAdd, Nat.reduceMul, Nat.reduceSub, ↓reduceIte, Int.reduceNeg, Int.reduceToNat, Int.reducePow, hmd, hks, hQ]
  refine loop_d [4, 6, 7, 8, 5006, 5007] (fun i : Nat => [(5, .int .i64 i)]) (fun i => i ≤ c.blocks.length) (fun i => c.blocks.length - i) (0) hP hmd hks (rfl) (by omega) ?_
  rintro i hi w1 hP1 hmd1 hks1 hQ1
  simp +decide (maxSteps := 20000000) (disch := omega) only [↓SBK, ↓SBK2, SX, Nat.reduceEqDiff, Nat.reduceAdd, Nat.reduceMul, Nat.reduceSub, ↓reduceIte, Int.reduceNeg, Int.reduceToNat, Int.reducePow, hmd, hks, hQ, hmd1, hks1, hQ1]
  (first | with_reducible refine if_d _ ?_ ?_ | refine if_i _ ?_ ?_) <;> intro h1
  · have hb := blk_s (i := i) hs (by omega)
    simp +decide (maxSteps := 20000000) (disch := omega) only [↓SBK, ↓SBK2, SX, Nat.reduceEqDiff, Nat.reduceAdd, Nat.reduceMul, Nat.reduceSub, ↓reduceIte, Int.reduceNeg, Int.reduceToNat, Int.reducePow, hmd, hks, hQ, hmd1, hks1, hQ1, getE h1, beq_self_eq_true]
    have hp := chip_pages hs h1
    refine LH_D [4] ?_
    simp +decide (maxSteps := 20000000) (disch := omega) only [↓SBK, ↓SBK2, SX, Nat.reduceEqDiff, Nat.reduceAdd, Nat.reduceMul, Nat.reduceSub, ↓reduceIte, Int.reduceNeg, Int.reduceToNat, Int.reducePow, hmd, hks, hQ, hmd1, hks1, hQ1]
    refine loop_d [4] (fun j : Nat => [(8, .int .i64 j)]) (fun j => j ≤ (c.blocks[i]'(by omega)).pages.length) (fun j => (c.blocks[i]'(by omega)).pages.length - j) (0) hP1 hmd1 hks1 (rfl) (by omega) ?_
    rintro j hj w2 hP2 hmd2 hks2 hQ2
    simp +decide (maxSteps := 20000000) (disch := omega) only [↓SBK, ↓SBK2, SX, Nat.reduceEqDiff, Nat.reduceAdd, Nat.reduceMul, Nat.reduceSub, ↓reduceIte, Int.reduceNeg, Int.reduceToNat, Int.reducePow, hmd, hks, hQ, hmd1, hks1, hQ1, hmd2, hks2, hQ2]
    (first | with_reducible refine if_d _ ?_ ?_ | refine if_i _ ?_ ?_) <;> intro h2
    · simp +decide (maxSteps := 20000000) (disch := omega) only [↓SBK, ↓SBK2, SX, Nat.reduceEqDiff, Nat.reduceAdd, Nat.reduceMul, Nat.reduceSub, ↓reduceIte, Int.reduceNeg, Int.reduceToNat, Int.reducePow, hmd, hks, hQ, hmd1, hks1, hQ1, hmd2, hks2, hQ2, getE h2, beq_self_eq_true]
      (first | refine call_i hP2 (sameBytes_self ((c.blocks[i]'(by omega)).pages[j]'(by omega)).b (chip_page hs h1 h2)) (.inl ⟨rfl, fun _ hx => nomatch hx⟩) ?_ | refine callH_i hP2 (sameBytes_self ((c.blocks[i]'(by omega)).pages[j]'(by omega)).b (chip_page hs h1 h2)) (.inl ⟨rfl, fun _ hx => nomatch hx⟩) ?_)
      simp +decide (maxSteps := 20000000) (disch := omega) only [↓SBK, ↓SBK2, SX, Nat.reduceEqDiff, Nat.reduceAdd, Nat.reduceMul, Nat.reduceSub, ↓reduceIte, Int.reduceNeg, Int.reduceToNat, Int.reducePow, hmd, hks, hQ, hmd1, hks1, hQ1, hmd2, hks2, hQ2]
      exact ⟨j + 1, rfl, by omega, by omega⟩
    · simp +decide (maxSteps := 20000000) (disch := omega) only [↓SBK, ↓SBK2, SX, Nat.reduceEqDiff, Nat.reduceAdd, Nat.reduceMul, Nat.reduceSub, ↓reduceIte, Int.reduceNeg, Int.reduceToNat, Int.reducePow, hmd, hks, hQ, hmd1, hks1, hQ1, hmd2, hks2, hQ2]
      exact ⟨i + 1, rfl, by omega, by omega⟩
  · simp +decide (maxSteps := 20000000) (disch := omega) only [↓SBK, ↓SBK2, SX, Nat.reduceEqDiff, Nat.reduceAdd, Nat.reduceMul, Nat.reduceSub, ↓reduceIte, Int.reduceNeg, Int.reduceToNat, Int.reducePow, hmd, hks, hQ, hmd1, hks1, hQ1]
end Go.Proofs.Ytliklgcfdgdigaa.Awp

namespace Go.Proofs.Ytliklgcfdgdigaa.Awp
open Go.Proofs
set_option linter.unusedSimpArgs false
set_option linter.unusedVariables false
set_option maxRecDepth 100000
set_option maxHeartbeats 20000000

/-! ### what is left of a chip behind an erase, or a program -/
theorem get_mod {c : Chip} {f : Block → Block} {j i : Nat} (h : i < c.blocks.length) : (c.blocks.modify j f)[i]? = some (if j = i then f c.blocks[i] else c.blocks[i]) := by
  rw [List.getElem?_eq_getElem (by simpa using h), List.getElem_modify]
end Go.Proofs.Ytliklgcfdgdigaa.Awp

namespace Go.Proofs.Ytliklgcfdgdigaa.Awp
open Go.Proofs
set_option linter.unusedSimpArgs false
set_option linter.unusedVariables false
set_option maxRecDepth 100000
set_option maxHeartbeats 20000000

/-! ### an erase that was torn -/
def tPage : Page := { used := true, b := [] }
def usedTo (l : List Page) : Nat → List Page
  | 0 => l
  | i + 1 => (usedTo l i).modify i fun _ => tPage
theorem usedTo_len (l : List Page) : ∀ i, (usedTo l i).length = l.length := by
  intro i
  induction i with
  | zero => rfl
  | succ i ih => simp [usedTo, ih]
theorem usedTo_get (l : List Page) : ∀ (i k : Nat), i ≤ k → (usedTo l i)[k]? = l[k]? := by
  intro i
  induction i with
  | zero => intro k _; rfl
  | succ i ih =>
    intro k h
    rw [usedTo, List.getElem?_modify, ih k (by omega)]
    simp [show i ≠ k by omega]
def tornB (i : Nat) (x : Block) : Block := { pages := usedTo (List.replicate 8 zPage) i, wear := x.wear + 1, bad := x.bad }
/-- a chip with a block that is erased, its first pages as if used -/
def tornC (c : Chip) (j i : Nat) : Chip := { blocks := c.blocks.modify j (tornB i) }
theorem tornB_len (i : Nat) (x : Block) : (tornB i x).pages.length = 8 := by show (usedTo _ i).length = 8; rw [usedTo_len]; rfl
theorem tornB_get {i : Nat} (x : Block) (h : i < 8) : (tornB i x).pages[i]'(by rw [tornB_len]; exact h) = zPage := by
  have h1 : (tornB i x).pages[i]? = (List.replicate 8 zPage)[i]? := usedTo_get _ i i (Nat.le_refl _)
  rw [List.getElem?_eq_getElem (by rw [tornB_len]; exact h), List.getElem?_eq_getElem (by simpa using h)] at h1
  exact (Option.some.inj h1).trans (List.mem_replicate.1 (List.getElem_mem (l := List.replicate 8 zPage) (by simpa using h))).2
theorem tornC_get {c : Chip} {j : Nat} (i : Nat) (hj : j < c.blocks.length) : (tornC c j i).blocks[j]? = some (tornB i c.blocks[j]) := by
  show (c.blocks.modify j (tornB i))[j]? = _
  rw [get_mod hj, if_pos rfl]
/-- one page more -/
theorem torn_rows (c : Chip) (j i : Nat) (hj : j < c.blocks.length) (h : i < 8) (g : List TV → List TV) (hg : g (Page.row zPage) = Page.row tPage) :
    (((tornC c j i).blocks.map Block.row).modify j fun x => x.modify 0 fun _ => TV.sl 2 (((tornB i c.blocks[j]).pages.map Page.row).modify i g)) = (tornC c j (i + 1)).blocks.map Block.row := by
  have hj' : j < (tornC c j i).blocks.length := by show j < (c.blocks.modify j _).length; simpa using hj
  have e : (tornC c j i).blocks[j] = tornB i c.blocks[j] := by
    have := tornC_get i hj
    rw [List.getElem?_eq_getElem hj'] at this
    exact Option.some.inj this
  rw [mod_map Block.row _ (fun x => { pages := usedTo (List.replicate 8 zPage) (i + 1), wear := x.wear, bad := x.bad }) (tornC c j i).blocks j hj' ?_]
  · show ((c.blocks.modify j (tornB i)).modify j _).map Block.row = (c.blocks.modify j (tornB (i + 1))).map Block.row
    rw [List.modify_modify_eq]; rfl
  · rw [e, mod_map Page.row g (fun _ => tPage) (tornB i c.blocks[j]).pages i (by rw [tornB_len]; exact h) (by rw [tornB_get _ h]; exact hg)]
    rfl
theorem eraseC_torn {c : Chip} {j : Nat} (h : eraseCode c j = 0) : eraseC c j = tornC c j 0 := by
  rw [eraseC, if_pos h]; rfl
theorem sI_DevErase_1 (c : Chip) (ops : Int) (z : TV) (down : Bool) (j : Nat) (q : Nat) (hf : c.fine) (hs : c.sz < 2 ^ 40) (hq : q < 2 ^ 40) (h0 : eraseCode c j = 0) :
    Spec Try.prog 167 [.int .i64 q, .xbox [.sl 3 (c.blocks.map Block.row), .int .i64 ops, z, .bool down], .xbox [.int .i64 j]] (tornC c j (min q 8)).o [.undef, .undef, .undef] := by
  obtain ⟨j', e, hj, _⟩ := erase_info h0
  obtain rfl : j = j' := by omega
  have hE := sI_Erase c j hf hs
  rw [h0, eraseC_torn h0] at hE
  have hcl := chip_l hs
  have hln : ∀ i, (tornC c j i).blocks.length = c.blocks.length := fun i => by show (c.blocks.modify j _).length = _; simp
  have em : (if (8 : Int) < (q : Int) then (8 : Int) else (q : Int)) = ((min q 8 : Nat) : Int) := by split <;> omega
  refine spec_C hmx p_I_DevErase_1 [] 196791 [] ⟨Nat.le_of_ble_eq_true rfl, Nat.le_of_ble_eq_true rfl⟩ rfl rfl ?_
  intro w hP hmd hks hQ
  unfold c_I_DevErase_1
  simp +decide (maxSteps := 20000000) (disch := omega) only [↓SBK, ↓SBK2, SX, Nat.reduceEqDiff, Nat.reduceAdd, Nat.reduceMul, Nat.reduceSub, ↓reduceIte, Int.reduceNeg, Int.reduceToNat, Int.reducePow, hmd, hks, hQ]
  (first | refine call_i hP (hE) (.inl ⟨rfl, fun _ hx => nomatch hx⟩) ?_ | refine callH_i hP (hE) (.inl ⟨rfl, fun _ hx => nomatch hx⟩) ?_)
  simp +decide (maxSteps := 20000000) (disch := omega) only [↓SBK, ↓SBK2, SX, Nat.reduceEqDiff, Nat.reduceAdd, Nat.reduceMul, Nat.reduceSub, ↓reduceIte, Int.reduceNeg, Int.reduceToNat, Int.reducePow, hmd, hks, hQ, em]
  refine LH_D [7] ?_
  simp +decide (maxSteps := 20000000) (disch := omega) only [↓SBK, ↓SBK2, SX, Nat.reduceEqDiff, Nat.reduceAdd, Nat.reduceMul, Nat.reduceSub, ↓reduceIte, Int.reduceNeg, Int.reduceToNat, Int.reducePow, hmd, hks, hQ]
  refine loop_d [7] (fun i : Nat => [(17, .int .i64 i), (5005, .box [.own 3 ((tornC c j i).blocks.map Block.row)])]) (fun i => i ≤ min q 8) (fun i => 8 - i) (0) hP hmd hks (rfl) (by omega) ?_
  rintro i hi w1 hP1 hmd1 hks1 hQ1
  simp +decide (maxSteps := 20000000) (disch := omega) only [↓SBK, ↓SBK2, SX, Nat.reduceEqDiff, Nat.reduceAdd, Nat.reduceMul, Nat.reduceSub, ↓reduceIte, Int.reduceNeg, Int.reduceToNat, Int.reducePow, hmd, hks, hQ, hmd1, hks1, hQ1]
  (first | with_reducible refine if_d _ ?_ ?_ | refine if_i _ ?_ ?_) <;> intro h1
  · have hj' : (j : Int) < ((tornC c j i).blocks.length : Nat) := by rw [hln]; omega
    have e5 : (tornC c j i).blocks[j]'(by omega) = tornB i c.blocks[j] := by
      have := tornC_get i hj
      rw [List.getElem?_eq_getElem (by omega)] at this
      exact Option.some.inj this
    have hi8 : i < 8 := by omega
    have hi' : (i : Int) < ((tornB i c.blocks[j]).pages.length : Nat) := by rw [tornB_len]; omega
    have gi : (tornB i c.blocks[j]).pages[i]? = some zPage := by rw [List.getElem?_eq_getElem (by omega), tornB_get _ hi8]
    simp +decide (maxSteps := 20000000) (disch := omega) only [↓SBK, ↓SBK2, SX, Nat.reduceEqDiff, Nat.reduceAdd, Nat.reduceMul, Nat.reduceSub, ↓reduceIte, Int.reduceNeg, Int.reduceToNat, Int.reducePow, hmd, hks, hQ, hmd1, hks1, hQ1, getE hj', e5, hi', gi]
    rw [torn_rows c j i hj hi8 _ rfl]
    exact ⟨i + 1, rfl, by omega, by omega⟩
  · obtain rfl : i = min q 8 := by omega
    simp +decide (maxSteps := 20000000) (disch := omega) only [↓SBK, ↓SBK2, SX, Nat.reduceEqDiff, Nat.reduceAdd, Nat.reduceMul, Nat.reduceSub, ↓reduceIte, Int.reduceNeg, Int.reduceToNat, Int.reducePow, hmd, hks, hQ, hmd1, hks1, hQ1]
end Go.Proofs.Ytliklgcfdgdigaa.Awp

namespace Go.Proofs.Ytliklgcfdgdigaa.Awp
open Go.Proofs
set_option linter.unusedSimpArgs false
set_option linter.unusedVariables false
set_option maxRecDepth 100000
set_option maxHeartbeats 20000000

noncomputable def devErase (d : Dev) (k : Int) : Dev × Int :=
  if devMay d (eraseCode d.c k) = 0 then
    match faultIn d.faults d.ops with
    | none => (goD d (eraseC d.c k) d.down, 0)
    | some f => if f.kind = 1 then (goD d (badC d.c k.toNat) d.down, 2) else (goD d (tornC d.c k.toNat (min f.keep.toNat 8)) true, 10)
  else (d, devMay d (eraseCode d.c k))
theorem sI_DevErase (d : Dev) (k : Int) (hf : d.fine) (hs : d.sz < 2 ^ 40) :
    Spec Try.prog 115 [d.x, .int .i64 k] (.tup [(devErase d k).1.o, .int .i64 (devErase d k).2]) [.undef, .undef] := by
  have hO := sI_DevOk d hf
  cases h1 : devOk d with
  | false =>
    rw [h1] at hO
    have e : devErase d k = (d, 1) := by rw [devErase, devMay_bad h1, if_neg (by decide)]
    rw [e]
    refine spec_C hmx p_I_DevErase [(164, [.m, .b, .m, .b, .b], [])] 255 [] ⟨Nat.le_of_ble_eq_true rfl, Nat.le_of_ble_eq_true rfl⟩ rfl rfl ?_
    intro w hP hmd hks hQ
    unfold c_I_DevErase
    simp +decide (maxSteps := 20000000) (disch := omega) only [↓SBK, ↓SBK2, SX, Nat.reduceEqDiff, Nat.reduceAdd, Nat.reduceMul, Nat.reduceSub, ↓reduceIte, Int.reduceNeg, Int.reduceToNat, Int.reducePow, hmd, hks, hQ]
    (first | refine call_i hP (sI_copyDev d hs) (.inl ⟨rfl, fun _ hx => nomatch hx⟩) ?_ | refine callH_i hP (sI_copyDev d hs) (.inl ⟨rfl, fun _ hx => nomatch hx⟩) ?_)
    simp +decide (maxSteps := 20000000) (disch := omega) only [↓SBK, ↓SBK2, SX, Nat.reduceEqDiff, Nat.reduceAdd, Nat.reduceMul, Nat.reduceSub, ↓reduceIte, Int.reduceNeg, Int.reduceToNat, Int.reducePow, hmd, hks, hQ]
    (first | refine call_i hP (hO) (.inl ⟨rfl, fun _ hx => nomatch hx⟩) ?_ | refine callH_i hP (hO) (.inl ⟨rfl, fun _ hx => nomatch hx⟩) ?_)
    simp +decide (maxSteps := 20000000) (disch := omega) only [↓SBK, ↓SBK2, SX, Nat.reduceEqDiff, Nat.reduceAdd, Nat.reduceMul, Nat.reduceSub, ↓reduceIte, Int.reduceNeg, Int.reduceToNat, Int.reducePow, hmd, hks, hQ]
  | true =>
    rw [h1] at hO
    obtain ⟨hok, ⟨o1, o2⟩, hfa, hfl⟩ := devOk_info h1
    obtain ⟨s1, s2⟩ := dev_sz hs
    have hEr := sI_Erase d.c k hf.1 s1
    cases h2 : d.down with
    | true =>
      have e : devErase d k = (d, 10) := by rw [devErase, devMay_down h1 (.inl h2), if_neg (by decide)]
      rw [e]
      refine spec_C hmx p_I_DevErase [(164, [.m, .b, .m, .b, .b], [])] 255 [] ⟨Nat.le_of_ble_eq_true rfl, Nat.le_of_ble_eq_true rfl⟩ rfl rfl ?_
      intro w hP hmd hks hQ
      unfold c_I_DevErase
      simp +decide (maxSteps := 20000000) (disch := omega) only [↓SBK, ↓SBK2, SX, Nat.reduceEqDiff, Nat.reduceAdd, Nat.reduceMul, Nat.reduceSub, ↓reduceIte, Int.reduceNeg, Int.reduceToNat, Int.reducePow, hmd, hks, hQ]
      (first | refine call_i hP (sI_copyDev d hs) (.inl ⟨rfl, fun _ hx => nomatch hx⟩) ?_ | refine callH_i hP (sI_copyDev d hs) (.inl ⟨rfl, fun _ hx => nomatch hx⟩) ?_)
      simp +decide (maxSteps := 20000000) (disch := omega) only [↓SBK, ↓SBK2, SX, Nat.reduceEqDiff, Nat.reduceAdd, Nat.reduceMul, Nat.reduceSub, ↓reduceIte, Int.reduceNeg, Int.reduceToNat, Int.reducePow, hmd, hks, hQ]
      (first | refine call_i hP (hO) (.inl ⟨rfl, fun _ hx => nomatch hx⟩) ?_ | refine callH_i hP (hO) (.inl ⟨rfl, fun _ hx => nomatch hx⟩) ?_)
      simp +decide (maxSteps := 20000000) (disch := omega) only [↓SBK, ↓SBK2, SX, Nat.reduceEqDiff, Nat.reduceAdd, Nat.reduceMul, Nat.reduceSub, ↓reduceIte, Int.reduceNeg, Int.reduceToNat, Int.reducePow, hmd, hks, hQ, h2]
    | false =>
      by_cases h3 : d.ops = 100000
      · have d3 : decide (d.ops = 100000) = true := decide_eq_true h3
        have e : devErase d k = (d, 10) := by rw [devErase, devMay_down h1 (.inr (by omega)), if_neg (by decide)]
        rw [e]
        refine spec_C hmx p_I_DevErase [(164, [.m, .b, .m, .b, .b], [])] 255 [] ⟨Nat.le_of_ble_eq_true rfl, Nat.le_of_ble_eq_true rfl⟩ rfl rfl ?_
        intro w hP hmd hks hQ
        unfold c_I_DevErase
        simp +decide (maxSteps := 20000000) (disch := omega) only [↓SBK, ↓SBK2, SX, Nat.reduceEqDiff, Nat.reduceAdd, Nat.reduceMul, Nat.reduceSub, ↓reduceIte, Int.reduceNeg, Int.reduceToNat, Int.reducePow, hmd, hks, hQ]
        (first | refine call_i hP (sI_copyDev d hs) (.inl ⟨rfl, fun _ hx => nomatch hx⟩) ?_ | refine callH_i hP (sI_copyDev d hs) (.inl ⟨rfl, fun _ hx => nomatch hx⟩) ?_)
        simp +decide (maxSteps := 20000000) (disch := omega) only [↓SBK, ↓SBK2, SX, Nat.reduceEqDiff, Nat.reduceAdd, Nat.reduceMul, Nat.reduceSub, ↓reduceIte, Int.reduceNeg, Int.reduceToNat, Int.reducePow, hmd, hks, hQ]
        (first | refine call_i hP (hO) (.inl ⟨rfl, fun _ hx => nomatch hx⟩) ?_ | refine callH_i hP (hO) (.inl ⟨rfl, fun _ hx => nomatch hx⟩) ?_)
        simp +decide (maxSteps := 20000000) (disch := omega) only [↓SBK, ↓SBK2, SX, Nat.reduceEqDiff, Nat.reduceAdd, Nat.reduceMul, Nat.reduceSub, ↓reduceIte, Int.reduceNeg, Int.reduceToNat, Int.reducePow, hmd, hks, hQ, h2, d3]
      · have d3 : decide (d.ops = 100000) = false := decide_eq_false h3
        have em : devMay d (eraseCode d.c k) = eraseCode d.c k := devMay_go h1 h2 (by omega)
        by_cases h4 : eraseCode d.c k = 0
        · obtain ⟨j, rfl, hj, _⟩ := erase_info h4
          have eI : devErase d j = (match faultIn d.faults d.ops with
            | none => (goD d (eraseC d.c j) d.down, 0)
            | some f => if f.kind = 1 then (goD d (badC d.c j) d.down, 2) else (goD d (tornC d.c j (min f.keep.toNat 8)) true, 10)) := by rw [devErase, em, if_pos h4]; rfl
          rw [h4] at hEr
          cases hfi : faultIn d.faults d.ops with
          | none =>
            rw [hfi] at eI
            simp only at eI
            rw [eI]
            have hfa0 : faultAt d = (zFault, false) := by rw [faultAt, hfi]
            have kb := s_begin2 d j (eraseC d.c j) 167 [.xbox [.undef, .int .i64 d.ops, .undef, .bool false], .xbox [.int .i64 j]] (.inr ⟨_, _, rfl⟩) (by omega) ⟨o1, by omega⟩ hfa0
            simp only [Dev.o, h2] at kb
            refine spec_C hmx p_I_DevErase [(164, [.m, .b, .m, .b, .b], [])] 255 [] ⟨Nat.le_of_ble_eq_true rfl, Nat.le_of_ble_eq_true rfl⟩ rfl rfl ?_
            intro w hP hmd hks hQ
            unfold c_I_DevErase
            simp +decide (maxSteps := 20000000) (disch := omega) only [↓SBK, ↓SBK2, SX, Nat.reduceEqDiff, Nat.reduceAdd, Nat.reduceMul, Nat.reduceSub, ↓reduceIte, Int.reduceNeg, Int.reduceToNat, Int.reducePow, hmd, hks, hQ]
            (first | refine call_i hP (sI_copyDev d hs) (.inl ⟨rfl, fun _ hx => nomatch hx⟩) ?_ | refine callH_i hP (sI_copyDev d hs) (.inl ⟨rfl, fun _ hx => nomatch hx⟩) ?_)
            simp +decide (maxSteps := 20000000) (disch := omega) only [↓SBK, ↓SBK2, SX, Nat.reduceEqDiff, Nat.reduceAdd, Nat.reduceMul, Nat.reduceSub, ↓reduceIte, Int.reduceNeg, Int.reduceToNat, Int.reducePow, hmd, hks, hQ]
            (first | refine call_i hP (hO) (.inl ⟨rfl, fun _ hx => nomatch hx⟩) ?_ | refine callH_i hP (hO) (.inl ⟨rfl, fun _ hx => nomatch hx⟩) ?_)
            simp +decide (maxSteps := 20000000) (disch := omega) only [↓SBK, ↓SBK2, SX, Nat.reduceEqDiff, Nat.reduceAdd, Nat.reduceMul, Nat.reduceSub, ↓reduceIte, Int.reduceNeg, Int.reduceToNat, Int.reducePow, hmd, hks, hQ, h2, d3]
            (first | refine call_i hP (hEr) (.inl ⟨rfl, fun _ hx => nomatch hx⟩) ?_ | refine callH_i hP (hEr) (.inl ⟨rfl, fun _ hx => nomatch hx⟩) ?_)
            simp +decide (maxSteps := 20000000) (disch := omega) only [↓SBK, ↓SBK2, SX, Nat.reduceEqDiff, Nat.reduceAdd, Nat.reduceMul, Nat.reduceSub, ↓reduceIte, Int.reduceNeg, Int.reduceToNat, Int.reducePow, hmd, hks, hQ]
            (first | refine call_i hP (kb) (.inl ⟨rfl, fun _ hx => nomatch hx⟩) ?_ | refine callH_i hP (kb) (.inl ⟨rfl, fun _ hx => nomatch hx⟩) ?_)
            simp +decide (maxSteps := 20000000) (disch := omega) only [↓SBK, ↓SBK2, SX, Nat.reduceEqDiff, Nat.reduceAdd, Nat.reduceMul, Nat.reduceSub, ↓reduceIte, Int.reduceNeg, Int.reduceToNat, Int.reducePow, hmd, hks, hQ]
            simp [goD, h2]
          | some f =>
            rw [hfi] at eI
            simp only at eI
            have hfa0 : faultAt d = (f, true) := by rw [faultAt, hfi]
            obtain ⟨q0, q1, q2⟩ := hfa f hfi
            by_cases h5 : f.kind = 1
            · rw [if_pos h5] at eI
              rw [eI]
              have kb := s_begin3 d j (eraseC d.c j) 167 [.xbox [.undef, .int .i64 d.ops, .undef, .bool false], .xbox [.int .i64 j]] (.inr ⟨_, _, rfl⟩) (by omega) (by have := chip_l s1; omega) ⟨o1, by omega⟩ hj f hfa0 h5
              simp only [Dev.o, h2] at kb
              refine spec_C hmx p_I_DevErase [(164, [.m, .b, .m, .b, .b], [])] 255 [] ⟨Nat.le_of_ble_eq_true rfl, Nat.le_of_ble_eq_true rfl⟩ rfl rfl ?_
              intro w hP hmd hks hQ
              unfold c_I_DevErase
              simp +decide (maxSteps := 20000000) (disch := omega) only [↓SBK, ↓SBK2, SX, Nat.reduceEqDiff, Nat.reduceAdd, Nat.reduceMul, Nat.reduceSub, ↓reduceIte, Int.reduceNeg, Int.reduceToNat, Int.reducePow, hmd, hks, hQ]
              (first | refine call_i hP (sI_copyDev d hs) (.inl ⟨rfl, fun _ hx => nomatch hx⟩) ?_ | refine callH_i hP (sI_copyDev d hs) (.inl ⟨rfl, fun _ hx => nomatch hx⟩) ?_)
              simp +decide (maxSteps := 20000000) (disch := omega) only [↓SBK, ↓SBK2, SX, Nat.reduceEqDiff, Nat.reduceAdd, Nat.reduceMul, Nat.reduceSub, ↓reduceIte, Int.reduceNeg, Int.reduceToNat, Int.reducePow, hmd, hks, hQ]
              (first | refine call_i hP (hO) (.inl ⟨rfl, fun _ hx => nomatch hx⟩) ?_ | refine callH_i hP (hO) (.inl ⟨rfl, fun _ hx => nomatch hx⟩) ?_)
              simp +decide (maxSteps := 20000000) (disch := omega) only [↓SBK, ↓SBK2, SX, Nat.reduceEqDiff, Nat.reduceAdd, Nat.reduceMul, Nat.reduceSub, ↓reduceIte, Int.reduceNeg, Int.reduceToNat, Int.reducePow, hmd, hks, hQ, h2, d3]
              (first | refine call_i hP (hEr) (.inl ⟨rfl, fun _ hx => nomatch hx⟩) ?_ | refine callH_i hP (hEr) (.inl ⟨rfl, fun _ hx => nomatch hx⟩) ?_)
              simp +decide (maxSteps := 20000000) (disch := omega) only [↓SBK, ↓SBK2, SX, Nat.reduceEqDiff, Nat.reduceAdd, Nat.reduceMul, Nat.reduceSub, ↓reduceIte, Int.reduceNeg, Int.reduceToNat, Int.reducePow, hmd, hks, hQ]
              (first | refine call_i hP (kb) (.inl ⟨rfl, fun _ hx => nomatch hx⟩) ?_ | refine callH_i hP (kb) (.inl ⟨rfl, fun _ hx => nomatch hx⟩) ?_)
              simp +decide (maxSteps := 20000000) (disch := omega) only [↓SBK, ↓SBK2, SX, Nat.reduceEqDiff, Nat.reduceAdd, Nat.reduceMul, Nat.reduceSub, ↓reduceIte, Int.reduceNeg, Int.reduceToNat, Int.reducePow, hmd, hks, hQ]
              simp [goD, h2]
            · rw [if_neg h5] at eI
              rw [eI]
              obtain ⟨q, hq⟩ : ∃ q : Nat, f.keep = q := ⟨f.keep.toNat, by omega⟩
              have kX := sI_DevErase_1 d.c d.ops .undef false j q hf.1 s1 (by omega) h4
              rw [← hq] at kX
              have kb := s_begin4 d j (eraseC d.c j) (tornC d.c j (min q 8)) 167 [.xbox [.sl 3 (d.c.blocks.map Block.row), .int .i64 d.ops, .undef, .bool false], .xbox [.int .i64 j]] [] (.inr ⟨_, _, rfl⟩) (by omega) ⟨o1, by omega⟩ f hfa0 h5 kX
              simp only [Dev.o, h2] at kb
              have hqt : f.keep.toNat = q := by omega
              refine spec_C hmx p_I_DevErase [(164, [.m, .b, .m, .b, .b], [(29, 0)])] 255 [] ⟨Nat.le_of_ble_eq_true rfl, Nat.le_of_ble_eq_true rfl⟩ rfl rfl ?_
              intro w hP hmd hks hQ
              unfold c_I_DevErase
              simp +decide (maxSteps := 20000000) (disch := omega) only [↓SBK, ↓SBK2, SX, Nat.reduceEqDiff, Nat.reduceAdd, Nat.reduceMul, Nat.reduceSub, ↓reduceIte, Int.reduceNeg, Int.reduceToNat, Int.reducePow, hmd, hks, hQ]
              (first | refine call_i hP (sI_copyDev d hs) (.inl ⟨rfl, fun _ hx => nomatch hx⟩) ?_ | refine callH_i hP (sI_copyDev d hs) (.inl ⟨rfl, fun _ hx => nomatch hx⟩) ?_)
              simp +decide (maxSteps := 20000000) (disch := omega) only [↓SBK, ↓SBK2, SX, Nat.reduceEqDiff, Nat.reduceAdd, Nat.reduceMul, Nat.reduceSub, ↓reduceIte, Int.reduceNeg, Int.reduceToNat, Int.reducePow, hmd, hks, hQ]
              (first | refine call_i hP (hO) (.inl ⟨rfl, fun _ hx => nomatch hx⟩) ?_ | refine callH_i hP (hO) (.inl ⟨rfl, fun _ hx => nomatch hx⟩) ?_)
              simp +decide (maxSteps := 20000000) (disch := omega) only [↓SBK, ↓SBK2, SX, Nat.reduceEqDiff, Nat.reduceAdd, Nat.reduceMul, Nat.reduceSub, ↓reduceIte, Int.reduceNeg, Int.reduceToNat, Int.reducePow, hmd, hks, hQ, h2, d3]
              (first | refine call_i hP (hEr) (.inl ⟨rfl, fun _ hx => nomatch hx⟩) ?_ | refine callH_i hP (hEr) (.inl ⟨rfl, fun _ hx => nomatch hx⟩) ?_)
              simp +decide (maxSteps := 20000000) (disch := omega) only [↓SBK, ↓SBK2, SX, Nat.reduceEqDiff, Nat.reduceAdd, Nat.reduceMul, Nat.reduceSub, ↓reduceIte, Int.reduceNeg, Int.reduceToNat, Int.reducePow, hmd, hks, hQ]
              (first | refine call_i hP (kb) (.inl ⟨rfl, fun _ hx => nomatch hx⟩) ?_ | refine callH_i hP (kb) (.inl ⟨rfl, fun _ hx => nomatch hx⟩) ?_)
              simp +decide (maxSteps := 20000000) (disch := omega) only [↓SBK, ↓SBK2, SX, Nat.reduceEqDiff, Nat.reduceAdd, Nat.reduceMul, Nat.reduceSub, ↓reduceIte, Int.reduceNeg, Int.reduceToNat, Int.reducePow, hmd, hks, hQ]
              simp [goD, hqt]
        · have e : devErase d k = (d, eraseCode d.c k) := by rw [devErase, em, if_neg h4]
          rw [e]
          have kb := s_begin1 d k (eraseC d.c k) (eraseCode d.c k) 167 [.xbox [.undef, .int .i64 d.ops, .undef, .bool false], .xbox [.int .i64 k]] (.inr ⟨_, _, rfl⟩) h4
          simp only [Dev.o, h2] at kb
          refine spec_C hmx p_I_DevErase [(164, [.m, .b, .m, .b, .b], [])] 255 [] ⟨Nat.le_of_ble_eq_true rfl, Nat.le_of_ble_eq_true rfl⟩ rfl rfl ?_
          intro w hP hmd hks hQ
          unfold c_I_DevErase
          simp +decide (maxSteps := 20000000) (disch := omega) only [↓SBK, ↓SBK2, SX, Nat.reduceEqDiff, Nat.reduceAdd, Nat.reduceMul, Nat.reduceSub, ↓reduceIte, Int.reduceNeg, Int.reduceToNat, Int.reducePow, hmd, hks, hQ]
          (first | refine call_i hP (sI_copyDev d hs) (.inl ⟨rfl, fun _ hx => nomatch hx⟩) ?_ | refine callH_i hP (sI_copyDev d hs) (.inl ⟨rfl, fun _ hx => nomatch hx⟩) ?_)
          simp +decide (maxSteps := 20000000) (disch := omega) only [↓SBK, ↓SBK2, SX, Nat.reduceEqDiff, Nat.reduceAdd, Nat.reduceMul, Nat.reduceSub, ↓reduceIte, Int.reduceNeg, Int.reduceToNat, Int.reducePow, hmd, hks, hQ]
          (first | refine call_i hP (hO) (.inl ⟨rfl, fun _ hx => nomatch hx⟩) ?_ | refine callH_i hP (hO) (.inl ⟨rfl, fun _ hx => nomatch hx⟩) ?_)
          simp +decide (maxSteps := 20000000) (disch := omega) only [↓SBK, ↓SBK2, SX, Nat.reduceEqDiff, Nat.reduceAdd, Nat.reduceMul, Nat.reduceSub, ↓reduceIte, Int.reduceNeg, Int.reduceToNat, Int.reducePow, hmd, hks, hQ, h2, d3]
          (first | refine call_i hP (hEr) (.inl ⟨rfl, fun _ hx => nomatch hx⟩) ?_ | refine callH_i hP (hEr) (.inl ⟨rfl, fun _ hx => nomatch hx⟩) ?_)
          simp +decide (maxSteps := 20000000) (disch := omega) only [↓SBK, ↓SBK2, SX, Nat.reduceEqDiff, Nat.reduceAdd, Nat.reduceMul, Nat.reduceSub, ↓reduceIte, Int.reduceNeg, Int.reduceToNat, Int.reducePow, hmd, hks, hQ]
          (first | refine call_i hP (kb) (.inl ⟨rfl, fun _ hx => nomatch hx⟩) ?_ | refine callH_i hP (kb) (.inl ⟨rfl, fun _ hx => nomatch hx⟩) ?_)
          simp +decide (maxSteps := 20000000) (disch := omega) only [↓SBK, ↓SBK2, SX, Nat.reduceEqDiff, Nat.reduceAdd, Nat.reduceMul, Nat.reduceSub, ↓reduceIte, Int.reduceNeg, Int.reduceToNat, Int.reducePow, hmd, hks, hQ, h2]
theorem sS_DevErase (d : Dev) (k : Int) (hf : d.fine) (hs : d.sz < 2 ^ 40) :
    Spec Try.prog 116 [d.x, .int .i64 k] (.tup [(devErase d k).1.o, .int .i64 (devErase d k).2]) [.undef, .undef] := by
  obtain ⟨s1, s2⟩ := dev_sz hs
  have hPc := sS_l10Erase d.c k hf.1
  have hM := sS_l11May d (eraseCode d.c k) hf
  by_cases h0 : devMay d (eraseCode d.c k) = 0
  · obtain ⟨h1, h2, h3, h4⟩ := devMay_zero h0
    obtain ⟨hok, ⟨o1, o2⟩, hfa, hfl⟩ := devOk_info h1
    obtain ⟨j, rfl, hj, _⟩ := erase_info h4
    have hj' : (j : Int) < (d.c.blocks.length : Nat) := by omega
    have hcl := chip_l s1
    have eI : devErase d j = (match faultIn d.faults d.ops with
      | none => (goD d (eraseC d.c j) d.down, 0)
      | some f => if f.kind = 1 then (goD d (badC d.c j) d.down, 2) else (goD d (tornC d.c j (min f.keep.toNat 8)) true, 10)) := by rw [devErase, if_pos h0]; rfl
    have hF := sS_FaultAt d (by omega)
    have hP1 := sS_Erase d.c j hf.1 s1
    rw [h0] at hM
    cases hfi : faultIn d.faults d.ops with
    | none =>
      rw [hfi] at eI
      simp only at eI
      rw [eI]
      have hfa0 : faultAt d = (zFault, false) := by rw [faultAt, hfi]
      rw [hfa0] at hF
      refine spec_C hmx p_S_DevErase [] 2039 [] ⟨Nat.le_of_ble_eq_true rfl, Nat.le_of_ble_eq_true rfl⟩ rfl rfl ?_
      intro w hP hmd hks hQ
      unfold c_S_DevErase
      simp +decide (maxSteps := 20000000) (disch := omega) only [↓SBK, ↓SBK2, SX, Nat.reduceEqDiff, Nat.reduceAdd, Nat.reduceMul, Nat.reduceSub, ↓reduceIte, Int.reduceNeg, Int.reduceToNat, Int.reducePow, hmd, hks, hQ]
      (first | refine call_i hP (sS_l11Copy d hs) (.inl ⟨rfl, fun _ hx => nomatch hx⟩) ?_ | refine callH_i hP (sS_l11Copy d hs) (.inl ⟨rfl, fun _ hx => nomatch hx⟩) ?_)
      simp +decide (maxSteps := 20000000) (disch := omega) only [↓SBK, ↓SBK2, SX, Nat.reduceEqDiff, Nat.reduceAdd, Nat.reduceMul, Nat.reduceSub, ↓reduceIte, Int.reduceNeg, Int.reduceToNat, Int.reducePow, hmd, hks, hQ]
      (first | refine call_i hP (hPc) (.inl ⟨rfl, fun _ hx => nomatch hx⟩) ?_ | refine callH_i hP (hPc) (.inl ⟨rfl, fun _ hx => nomatch hx⟩) ?_)
      simp +decide (maxSteps := 20000000) (disch := omega) only [↓SBK, ↓SBK2, SX, Nat.reduceEqDiff, Nat.reduceAdd, Nat.reduceMul, Nat.reduceSub, ↓reduceIte, Int.reduceNeg, Int.reduceToNat, Int.reducePow, hmd, hks, hQ]
      (first | refine call_i hP (hM) (.inl ⟨rfl, fun _ hx => nomatch hx⟩) ?_ | refine callH_i hP (hM) (.inl ⟨rfl, fun _ hx => nomatch hx⟩) ?_)
      simp +decide (maxSteps := 20000000) (disch := omega) only [↓SBK, ↓SBK2, SX, Nat.reduceEqDiff, Nat.reduceAdd, Nat.reduceMul, Nat.reduceSub, ↓reduceIte, Int.reduceNeg, Int.reduceToNat, Int.reducePow, hmd, hks, hQ]
      (first | refine call_i hP (hF) (.inl ⟨rfl, fun _ hx => nomatch hx⟩) ?_ | refine callH_i hP (hF) (.inl ⟨rfl, fun _ hx => nomatch hx⟩) ?_)
      simp +decide (maxSteps := 20000000) (disch := omega) only [↓SBK, ↓SBK2, SX, Nat.reduceEqDiff, Nat.reduceAdd, Nat.reduceMul, Nat.reduceSub, ↓reduceIte, Int.reduceNeg, Int.reduceToNat, Int.reducePow, hmd, hks, hQ]
      (first | refine call_i hP (hP1) (.inl ⟨rfl, fun _ hx => nomatch hx⟩) ?_ | refine callH_i hP (hP1) (.inl ⟨rfl, fun _ hx => nomatch hx⟩) ?_)
      simp +decide (maxSteps := 20000000) (disch := omega) only [↓SBK, ↓SBK2, SX, Nat.reduceEqDiff, Nat.reduceAdd, Nat.reduceMul, Nat.reduceSub, ↓reduceIte, Int.reduceNeg, Int.reduceToNat, Int.reducePow, hmd, hks, hQ]
      simp [goD, h2]
    | some f =>
      rw [hfi] at eI
      simp only at eI
      have hfa0 : faultAt d = (f, true) := by rw [faultAt, hfi]
      rw [hfa0] at hF
      obtain ⟨q0, q1, q2⟩ := hfa f hfi
      by_cases h5 : f.kind = 1
      · rw [if_pos h5] at eI
        rw [eI]
        have dk : decide (f.kind = 1) = true := decide_eq_true h5
        refine spec_C hmx p_S_DevErase [] 2039 [] ⟨Nat.le_of_ble_eq_true rfl, Nat.le_of_ble_eq_true rfl⟩ rfl rfl ?_
        intro w hP hmd hks hQ
        unfold c_S_DevErase
        simp +decide (maxSteps := 20000000) (disch := omega) only [↓SBK, ↓SBK2, SX, Nat.reduceEqDiff, Nat.reduceAdd, Nat.reduceMul, Nat.reduceSub, ↓reduceIte, Int.reduceNeg, Int.reduceToNat, Int.reducePow, hmd, hks, hQ]
        (first | refine call_i hP (sS_l11Copy d hs) (.inl ⟨rfl, fun _ hx => nomatch hx⟩) ?_ | refine callH_i hP (sS_l11Copy d hs) (.inl ⟨rfl, fun _ hx => nomatch hx⟩) ?_)
        simp +decide (maxSteps := 20000000) (disch := omega) only [↓SBK, ↓SBK2, SX, Nat.reduceEqDiff, Nat.reduceAdd, Nat.reduceMul, Nat.reduceSub, ↓reduceIte, Int.reduceNeg, Int.reduceToNat, Int.reducePow, hmd, hks, hQ]
        (first | refine call_i hP (hPc) (.inl ⟨rfl, fun _ hx => nomatch hx⟩) ?_ | refine callH_i hP (hPc) (.inl ⟨rfl, fun _ hx => nomatch hx⟩) ?_)
        simp +decide (maxSteps := 20000000) (disch := omega) only [↓SBK, ↓SBK2, SX, Nat.reduceEqDiff, Nat.reduceAdd, Nat.reduceMul, Nat.reduceSub, ↓reduceIte, Int.reduceNeg, Int.reduceToNat, Int.reducePow, hmd, hks, hQ]
        (first | refine call_i hP (hM) (.inl ⟨rfl, fun _ hx => nomatch hx⟩) ?_ | refine callH_i hP (hM) (.inl ⟨rfl, fun _ hx => nomatch hx⟩) ?_)
        simp +decide (maxSteps := 20000000) (disch := omega) only [↓SBK, ↓SBK2, SX, Nat.reduceEqDiff, Nat.reduceAdd, Nat.reduceMul, Nat.reduceSub, ↓reduceIte, Int.reduceNeg, Int.reduceToNat, Int.reducePow, hmd, hks, hQ]
        (first | refine call_i hP (hF) (.inl ⟨rfl, fun _ hx => nomatch hx⟩) ?_ | refine callH_i hP (hF) (.inl ⟨rfl, fun _ hx => nomatch hx⟩) ?_)
        simp +decide (maxSteps := 20000000) (disch := omega) only [↓SBK, ↓SBK2, SX, Nat.reduceEqDiff, Nat.reduceAdd, Nat.reduceMul, Nat.reduceSub, ↓reduceIte, Int.reduceNeg, Int.reduceToNat, Int.reducePow, hmd, hks, hQ, dk, getE hj']
        rw [bad_rows _ _ hj]
        simp [goD, badC]
      · rw [if_neg h5] at eI
        rw [eI]
        have dk : decide (f.kind = 1) = false := decide_eq_false h5
        obtain ⟨q, hq⟩ : ∃ q : Nat, f.keep = q := ⟨f.keep.toNat, by omega⟩
        have hqt : f.keep.toNat = q := by omega
        rw [h4, eraseC_torn h4] at hP1
        have hln : ∀ i, (tornC d.c j i).blocks.length = d.c.blocks.length := fun i => by show (d.c.blocks.modify j _).length = _; simp
        refine spec_C hmx p_S_DevErase [] 2039 [] ⟨Nat.le_of_ble_eq_true rfl, Nat.le_of_ble_eq_true rfl⟩ rfl rfl ?_
        intro w hP hmd hks hQ
        unfold c_S_DevErase
        simp +decide (maxSteps := 20000000) (disch := omega) only [↓SBK, ↓SBK2, SX, Nat.reduceEqDiff, Nat.reduceAdd, Nat.reduceMul, Nat.reduceSub, ↓reduceIte, Int.reduceNeg, Int.reduceToNat, Int.reducePow, hmd, hks, hQ]
        (first | refine call_i hP (sS_l11Copy d hs) (.inl ⟨rfl, fun _ hx => nomatch hx⟩) ?_ | refine callH_i hP (sS_l11Copy d hs) (.inl ⟨rfl, fun _ hx => nomatch hx⟩) ?_)
        simp +decide (maxSteps := 20000000) (disch := omega) only [↓SBK, ↓SBK2, SX, Nat.reduceEqDiff, Nat.reduceAdd, Nat.reduceMul, Nat.reduceSub, ↓reduceIte, Int.reduceNeg, Int.reduceToNat, Int.reducePow, hmd, hks, hQ]
        (first | refine call_i hP (hPc) (.inl ⟨rfl, fun _ hx => nomatch hx⟩) ?_ | refine callH_i hP (hPc) (.inl ⟨rfl, fun _ hx => nomatch hx⟩) ?_)
        simp +decide (maxSteps := 20000000) (disch := omega) only [↓SBK, ↓SBK2, SX, Nat.reduceEqDiff, Nat.reduceAdd, Nat.reduceMul, Nat.reduceSub, ↓reduceIte, Int.reduceNeg, Int.reduceToNat, Int.reducePow, hmd, hks, hQ]
        (first | refine call_i hP (hM) (.inl ⟨rfl, fun _ hx => nomatch hx⟩) ?_ | refine callH_i hP (hM) (.inl ⟨rfl, fun _ hx => nomatch hx⟩) ?_)
        simp +decide (maxSteps := 20000000) (disch := omega) only [↓SBK, ↓SBK2, SX, Nat.reduceEqDiff, Nat.reduceAdd, Nat.reduceMul, Nat.reduceSub, ↓reduceIte, Int.reduceNeg, Int.reduceToNat, Int.reducePow, hmd, hks, hQ]
        (first | refine call_i hP (hF) (.inl ⟨rfl, fun _ hx => nomatch hx⟩) ?_ | refine callH_i hP (hF) (.inl ⟨rfl, fun _ hx => nomatch hx⟩) ?_)
        simp +decide (maxSteps := 20000000) (disch := omega) only [↓SBK, ↓SBK2, SX, Nat.reduceEqDiff, Nat.reduceAdd, Nat.reduceMul, Nat.reduceSub, ↓reduceIte, Int.reduceNeg, Int.reduceToNat, Int.reducePow, hmd, hks, hQ, dk, hq]
        (first | refine call_i hP (hP1) (.inl ⟨rfl, fun _ hx => nomatch hx⟩) ?_ | refine callH_i hP (hP1) (.inl ⟨rfl, fun _ hx => nomatch hx⟩) ?_)
        simp +decide (maxSteps := 20000000) (disch := omega) only [↓SBK, ↓SBK2, SX, Nat.reduceEqDiff, Nat.reduceAdd, Nat.reduceMul, Nat.reduceSub, ↓reduceIte, Int.reduceNeg, Int.reduceToNat, Int.reducePow, hmd, hks, hQ]
        refine LH_D [] ?_
        simp +decide (maxSteps := 20000000) (disch := omega) only [↓SBK, ↓SBK2, SX, Nat.reduceEqDiff, Nat.reduceAdd, Nat.reduceMul, Nat.reduceSub, ↓reduceIte, Int.reduceNeg, Int.reduceToNat, Int.reducePow, hmd, hks, hQ]
        refine loop_d [] (fun i : Nat => [(10, .int .i64 i), (5006, .box [.own 3 ((tornC d.c j i).blocks.map Block.row), .int .i64 (d.ops + 1), .own 3 (d.faults.map Fault.row), .bool d.down])]) (fun i => i ≤ min q 8) (fun i => 8 - i) (0) hP hmd hks (rfl) (by omega) ?_
        rintro i hi w1 hP1 hmd1 hks1 hQ1
        simp +decide (maxSteps := 20000000) (disch := omega) only [↓SBK, ↓SBK2, SX, Nat.reduceEqDiff, Nat.reduceAdd, Nat.reduceMul, Nat.reduceSub, ↓reduceIte, Int.reduceNeg, Int.reduceToNat, Int.reducePow, hmd, hks, hQ, hmd1, hks1, hQ1]
        (first | with_reducible refine gd_d _ ?_ ?_ | refine gd_i _ ?_ ?_) <;> intro e1
        · have hi8 : i < 8 := by omega
          simp +decide (maxSteps := 20000000) (disch := omega) only [↓SBK, ↓SBK2, SX, Nat.reduceEqDiff, Nat.reduceAdd, Nat.reduceMul, Nat.reduceSub, ↓reduceIte, Int.reduceNeg, Int.reduceToNat, Int.reducePow, hmd, hks, hQ, hmd1, hks1, hQ1, e1]
          (first | with_reducible refine if_d _ ?_ ?_ | refine if_i _ ?_ ?_) <;> intro e2
          · have hj5 : (j : Int) < ((tornC d.c j i).blocks.length : Nat) := by rw [hln]; omega
            have e5 : (tornC d.c j i).blocks[j]'(by omega) = tornB i d.c.blocks[j] := by
              have := tornC_get i hj
              rw [List.getElem?_eq_getElem (by omega)] at this
              exact Option.some.inj this
            have hi' : (i : Int) < ((tornB i d.c.blocks[j]).pages.length : Nat) := by rw [tornB_len]; omega
            have gi : (tornB i d.c.blocks[j]).pages[i]? = some zPage := by rw [List.getElem?_eq_getElem (by omega), tornB_get _ hi8]
            simp +decide (maxSteps := 20000000) (disch := omega) only [↓SBK, ↓SBK2, SX, Nat.reduceEqDiff, Nat.reduceAdd, Nat.reduceMul, Nat.reduceSub, ↓reduceIte, Int.reduceNeg, Int.reduceToNat, Int.reducePow, hmd, hks, hQ, hmd1, hks1, hQ1, getE hj5, e5, hi', gi]
            rw [torn_rows d.c j i hj hi8 _ rfl]
            exact ⟨i + 1, rfl, by omega, by omega⟩
          · obtain rfl : i = min q 8 := by omega
            simp +decide (maxSteps := 20000000) (disch := omega) only [↓SBK, ↓SBK2, SX, Nat.reduceEqDiff, Nat.reduceAdd, Nat.reduceMul, Nat.reduceSub, ↓reduceIte, Int.reduceNeg, Int.reduceToNat, Int.reducePow, hmd, hks, hQ, hmd1, hks1, hQ1]
            simp [goD, hqt]
        · obtain rfl : i = min q 8 := by omega
          simp +decide (maxSteps := 20000000) (disch := omega) only [↓SBK, ↓SBK2, SX, Nat.reduceEqDiff, Nat.reduceAdd, Nat.reduceMul, Nat.reduceSub, ↓reduceIte, Int.reduceNeg, Int.reduceToNat, Int.reducePow, hmd, hks, hQ, hmd1, hks1, hQ1, e1]
          simp [goD, hqt]
  · have d0 : decide (devMay d (eraseCode d.c k) = 0) = false := decide_eq_false h0
    have e : devErase d k = (d, devMay d (eraseCode d.c k)) := by rw [devErase, if_neg h0]
    rw [e]
    refine spec_C hmx p_S_DevErase [] 2039 [] ⟨Nat.le_of_ble_eq_true rfl, Nat.le_of_ble_eq_true rfl⟩ rfl rfl ?_
    intro w hP hmd hks hQ
    unfold c_S_DevErase
    simp +decide (maxSteps := 20000000) (disch := omega) only [↓SBK, ↓SBK2, SX, Nat.reduceEqDiff, Nat.reduceAdd, Nat.reduceMul, Nat.reduceSub, ↓reduceIte, Int.reduceNeg, Int.reduceToNat, Int.reducePow, hmd, hks, hQ]
    (first | refine call_i hP (sS_l11Copy d hs) (.inl ⟨rfl, fun _ hx => nomatch hx⟩) ?_ | refine callH_i hP (sS_l11Copy d hs) (.inl ⟨rfl, fun _ hx => nomatch hx⟩) ?_)
    simp +decide (maxSteps := 20000000) (disch := omega) only [↓SBK, ↓SBK2, SX, Nat.reduceEqDiff, Nat.reduceAdd, Nat.reduceMul, Nat.reduceSub, ↓reduceIte, Int.reduceNeg, Int.reduceToNat, Int.reducePow, hmd, hks, hQ]
    (first | refine call_i hP (hPc) (.inl ⟨rfl, fun _ hx => nomatch hx⟩) ?_ | refine callH_i hP (hPc) (.inl ⟨rfl, fun _ hx => nomatch hx⟩) ?_)
    simp +decide (maxSteps := 20000000) (disch := omega) only [↓SBK, ↓SBK2, SX, Nat.reduceEqDiff, Nat.reduceAdd, Nat.reduceMul, Nat.reduceSub, ↓reduceIte, Int.reduceNeg, Int.reduceToNat, Int.reducePow, hmd, hks, hQ]
    (first | refine call_i hP (hM) (.inl ⟨rfl, fun _ hx => nomatch hx⟩) ?_ | refine callH_i hP (hM) (.inl ⟨rfl, fun _ hx => nomatch hx⟩) ?_)
    simp +decide (maxSteps := 20000000) (disch := omega) only [↓SBK, ↓SBK2, SX, Nat.reduceEqDiff, Nat.reduceAdd, Nat.reduceMul, Nat.reduceSub, ↓reduceIte, Int.reduceNeg, Int.reduceToNat, Int.reducePow, hmd, hks, hQ, d0]
end Go.Proofs.Ytliklgcfdgdigaa.Awp

namespace Go.Proofs.Ytliklgcfdgdigaa.Awp
open Go.Proofs
set_option linter.unusedSimpArgs false
set_option linter.unusedVariables false
set_option maxRecDepth 100000
set_option maxHeartbeats 20000000

theorem mem_modify' {α : Type} {f : α → α} : ∀ {l : List α} {i : Nat} {y : α}, y ∈ l.modify i f → y ∈ l ∨ ∃ x ∈ l, y = f x := by
  intro l i y h
  obtain ⟨k, hk, rfl⟩ := List.getElem_of_mem h
  rw [List.getElem_modify]
  split
  · exact .inr ⟨_, List.getElem_mem _, rfl⟩
  · exact .inl (List.getElem_mem _)
theorem usedTo_b : ∀ (i : Nat) (p : Page), p ∈ usedTo (List.replicate 8 zPage) i → p.b = [] := by
  intro i
  induction i with
  | zero => intro p hp; rw [(List.mem_replicate.1 hp).2]; rfl
  | succ i ih =>
    intro p hp
    rcases mem_modify' hp with h | ⟨x, _, rfl⟩
    · exact ih p h
    · rfl
theorem tornB_sz (i : Nat) (x : Block) : (tornB i x).sz = 8 := by
  have e : (tornB i x).sz = (tornB i x).pages.length + ((tornB i x).pages.map Page.sz).sum := rfl
  have := sum_le Page.sz 0 (tornB i x).pages fun p hp => by
    have := usedTo_b i p hp
    show p.b.length ≤ 0
    rw [this]; exact Nat.le_refl _
  rw [tornB_len] at e this
  omega
theorem tornC_sz (c : Chip) (j i : Nat) : (tornC c j i).sz ≤ c.sz + 8 := by
  have := sum_modify Block.sz (tornB i) 8 (fun b => Nat.le_of_eq (tornB_sz i b)) c.blocks j
  have e1 : (tornC c j i).sz = (c.blocks.modify j (tornB i)).length + ((c.blocks.modify j (tornB i)).map Block.sz).sum := rfl
  have e2 : c.sz = c.blocks.length + (c.blocks.map Block.sz).sum := rfl
  rw [e1, e2, List.length_modify]
  omega
theorem devErase_sz (d : Dev) (k : Int) : (devErase d k).1.sz ≤ d.sz + 8 := by
  have e0 : d.sz = d.c.sz + d.faults.length := rfl
  have eg : ∀ c x, (goD d c x).sz = c.sz + d.faults.length := fun _ _ => rfl
  unfold devErase
  split
  · split
    · have := eraseC_sz d.c k
      rw [eg]; omega
    · split
      · have := badC_sz d.c k.toNat
        rw [eg]; omega
      · rename_i f _ _
        have := tornC_sz d.c k.toNat (min f.keep.toNat 8)
        rw [eg]; omega
  · simp only; omega
end Go.Proofs.Ytliklgcfdgdigaa.Awp

namespace Go.Proofs.Ytliklgcfdgdigaa.Awp
open Go.Proofs
set_option linter.unusedSimpArgs false
set_option linter.unusedVariables false
set_option maxRecDepth 100000
set_option maxHeartbeats 20000000

/-! ### drawn devices -/
theorem F_snoc (l : List Fault) (a k p : Int) : l.map Fault.row ++ [[TV.int .i64 a, TV.int .i64 k, TV.int .i64 p]] = (l ++ [({ at' := a, kind := k, keep := p } : Fault)]).map Fault.row := by simp [Fault.row]
theorem s_l11FaultList (v : Value) (b : Bytes) (i : Nat) (h : Int) (hl : b.length < 2 ^ 48) (hi : i ≤ b.length) : ∃ (l : List Fault) (i' : Nat) (h' : Int), l.length ≤ 4 ∧ i' ≤ b.length ∧
    Spec Try.prog 168 [cur v b i h] (.own 3 (l.map Fault.row)) [cur v b i' h'] := by
  have key : ∃ ret outs, (∃ (l : List Fault) (i' : Nat) (h' : Int), l.length ≤ 4 ∧ i' ≤ b.length ∧ ret = .own 3 (l.map Fault.row) ∧ outs = [cur v b i' h']) ∧ Spec Try.prog 168 [cur v b i h] ret outs := by
    obtain ⟨x, i1, h1, hx, hi1, k1⟩ := s_l1Below v b i h 4 hl hi (by decide)
    rw [below, if_pos (by decide)] at hx
    unfold cur at *
    refine specEx_C hmx p_S_l11FaultList [(148, [.l, .b], []), (145, [.l, .b], [])] 61 [true] ⟨Nat.le_of_ble_eq_true rfl, Nat.le_of_ble_eq_true rfl⟩ rfl ?_
    intro w hP hmd hks hQ
    unfold c_S_l11FaultList
    simp +decide (maxSteps := 20000000) (disch := omega) only [↓SBK, ↓SBK2, SX, Nat.reduceEqDiff, Nat.reduceAdd, Nat.reduceMul, Nat.reduceSub, ↓reduceIte, Int.reduceNeg, Int.reduceToNat, Int.reducePow, hmd, hks, hQ]
    (first | refine call_i hP (k1) (.inl ⟨rfl, fun _ hx => hx⟩) ?_ | refine callH_i hP (k1) (.inl ⟨rfl, fun _ hx => hx⟩) ?_)
    simp +decide (maxSteps := 20000000) (disch := omega) only [↓SBK, ↓SBK2, SX, Nat.reduceEqDiff, Nat.reduceAdd, Nat.reduceMul, Nat.reduceSub, ↓reduceIte, Int.reduceNeg, Int.reduceToNat, Int.reducePow, hmd, hks, hQ]
    refine LH_D [] ?_
    simp +decide (maxSteps := 20000000) (disch := omega) only [↓SBK, ↓SBK2, SX, Nat.reduceEqDiff, Nat.reduceAdd, Nat.reduceMul, Nat.reduceSub, ↓reduceIte, Int.reduceNeg, Int.reduceToNat, Int.reducePow, hmd, hks, hQ]
    refine loop_d [] (fun s : Nat × List Fault × Int × Nat × Int => [(1000, .box [.extv v 1 (bytesR b), .int .i64 (s.2.2.2.1 : Nat), .int .i64 s.2.2.2.2]), (3, .own 3 (s.2.1.map Fault.row)), (4, .int .i64 s.2.2.1), (5, .int .i64 (s.1 : Nat))]) (fun s => s.1 + s.2.1.length ≤ 4 ∧ s.2.2.2.1 ≤ b.length) (fun s => s.1) ((x, [], 0, i1, h1)) hP hmd hks (rfl) (⟨by simp; omega, hi1⟩) ?_
    rintro ⟨m, l, a, j, g⟩ ⟨g1, g2⟩ w1 hP1 hmd1 hks1 hQ1
    simp +decide (maxSteps := 20000000) (disch := omega) only [↓SBK, ↓SBK2, SX, Nat.reduceEqDiff, Nat.reduceAdd, Nat.reduceMul, Nat.reduceSub, ↓reduceIte, Int.reduceNeg, Int.reduceToNat, Int.reducePow, hmd, hks, hQ, hmd1, hks1, hQ1]
    simp only at g1 g2
    (first | with_reducible refine if_d _ ?_ ?_ | refine if_i _ ?_ ?_) <;> intro e1
    · obtain ⟨y1, j1, q1, hy1, hj1, l1⟩ := s_l1Below v b j g 12 hl g2 (by decide)
      obtain ⟨y2, j2, q2, hy2, hj2, l2⟩ := s_l1Below v b j1 q1 2 hl hj1 (by decide)
      obtain ⟨y3, j3, q3, hy3, hj3, l3⟩ := s_l1Int v b j2 q2 [0, 1, 5, 8, 400] hl hj2 (by simp) (by simp)
      rw [below, if_pos (by decide)] at hy1 hy2
      unfold cur at l1 l2 l3
      simp only [intR, List.map_cons, List.map_nil] at l3
      simp +decide (maxSteps := 20000000) (disch := omega) only [↓SBK, ↓SBK2, SX, Nat.reduceEqDiff, Nat.reduceAdd, Nat.reduceMul, Nat.reduceSub, ↓reduceIte, Int.reduceNeg, Int.reduceToNat, Int.reducePow, hmd, hks, hQ, hmd1, hks1, hQ1]
      (first | refine call_i hP1 (l1) (.inl ⟨rfl, fun _ hx => hx⟩) ?_ | refine callH_i hP1 (l1) (.inl ⟨rfl, fun _ hx => hx⟩) ?_)
      simp +decide (maxSteps := 20000000) (disch := omega) only [↓SBK, ↓SBK2, SX, Nat.reduceEqDiff, Nat.reduceAdd, Nat.reduceMul, Nat.reduceSub, ↓reduceIte, Int.reduceNeg, Int.reduceToNat, Int.reducePow, hmd, hks, hQ, hmd1, hks1, hQ1]
      (first | refine call_i hP1 (l2) (.inl ⟨rfl, fun _ hx => hx⟩) ?_ | refine callH_i hP1 (l2) (.inl ⟨rfl, fun _ hx => hx⟩) ?_)
      simp +decide (maxSteps := 20000000) (disch := omega) only [↓SBK, ↓SBK2, SX, Nat.reduceEqDiff, Nat.reduceAdd, Nat.reduceMul, Nat.reduceSub, ↓reduceIte, Int.reduceNeg, Int.reduceToNat, Int.reducePow, hmd, hks, hQ, hmd1, hks1, hQ1]
      (first | refine call_i hP1 (l3) (.inl ⟨rfl, fun _ hx => hx⟩) ?_ | refine callH_i hP1 (l3) (.inl ⟨rfl, fun _ hx => hx⟩) ?_)
      simp +decide (maxSteps := 20000000) (disch := omega) only [↓SBK, ↓SBK2, SX, Nat.reduceEqDiff, Nat.reduceAdd, Nat.reduceMul, Nat.reduceSub, ↓reduceIte, Int.reduceNeg, Int.reduceToNat, Int.reducePow, hmd, hks, hQ, hmd1, hks1, hQ1]
      rw [F_snoc]
      exact ⟨(m - 1, _, _, j3, q3), by simp only; rw [show ((m : Nat) : Int) - 1 = ((m - 1 : Nat) : Int) by omega], ⟨by simp; omega, hj3⟩, by simp only; omega⟩
    · simp +decide (maxSteps := 20000000) (disch := omega) only [↓SBK, ↓SBK2, SX, Nat.reduceEqDiff, Nat.reduceAdd, Nat.reduceMul, Nat.reduceSub, ↓reduceIte, Int.reduceNeg, Int.reduceToNat, Int.reducePow, hmd, hks, hQ, hmd1, hks1, hQ1]
      exact ⟨l, j, g, by omega, g2, rfl, rfl⟩
  obtain ⟨_, _, ⟨l, i', h', hc, hi', rfl, rfl⟩, hS⟩ := key
  exact ⟨l, i', h', hc, hi', hS⟩
theorem dev_fine {d : Dev} (h : d.sz < 2 ^ 40) : d.fine := ⟨fine_of_sz (dev_sz h).1, by have := (dev_sz h).2; omega⟩
theorem upD_sz (d : Dev) : (upD d).sz = d.sz := rfl
theorem s_l11Draw (v : Value) (b : Bytes) (i : Nat) (h : Int) (hl : b.length < 2 ^ 48) (hi : i ≤ b.length) : ∃ (d : Dev) (i' : Nat) (h' : Int), d.sz ≤ 2000 ∧ i' ≤ b.length ∧
    Spec Try.prog 183 [cur v b i h] d.o [cur v b i' h'] := by
  have key : ∃ ret outs, (∃ (d : Dev) (i' : Nat) (h' : Int), d.sz ≤ 2000 ∧ i' ≤ b.length ∧ ret = d.o ∧ outs = [cur v b i' h']) ∧ Spec Try.prog 183 [cur v b i h] ret outs := by
    obtain ⟨x, i1, h1, hx, hi1, k1⟩ := s_l1Below v b i h 3 hl hi (by decide)
    obtain ⟨l, i2, h2, hll, hi2, k2⟩ := s_l11FaultList v b i1 h1 hl hi1
    obtain ⟨y, i3, h3, hy, hi3, k3⟩ := s_l1Below v b i2 h2 16 hl hi2 (by decide)
    rw [below, if_pos (by decide)] at hx hy
    have z1 := devNew_sz (3 + x) l
    have z2 := (chipNew_sz (3 + x)).1
    have hN := sS_DevNew (3 + x) l (by omega)
    generalize devNew (3 + x) l = d0 at *
    unfold cur at *
    refine specEx_C hmx p_S_l11Draw [(148, [.l, .b], []), (168, [.l], []), (153, [.l], [])] 33554493 [true] ⟨Nat.le_of_ble_eq_true rfl, Nat.le_of_ble_eq_true rfl⟩ rfl ?_
    intro w hP hmd hks hQ
    unfold c_S_l11Draw
    simp +decide (maxSteps := 20000000) (disch := omega) only [↓SBK, ↓SBK2, SX, Nat.reduceEqDiff, Nat.reduceAdd, Nat.reduceMul, Nat.reduceSub, ↓reduceIte, Int.reduceNeg, Int.reduceToNat, Int.reducePow, hmd, hks, hQ]
    (first | refine call_i hP (k1) (.inl ⟨rfl, fun _ hx => hx⟩) ?_ | refine callH_i hP (k1) (.inl ⟨rfl, fun _ hx => hx⟩) ?_)
    simp +decide (maxSteps := 20000000) (disch := omega) only [↓SBK, ↓SBK2, SX, Nat.reduceEqDiff, Nat.reduceAdd, Nat.reduceMul, Nat.reduceSub, ↓reduceIte, Int.reduceNeg, Int.reduceToNat, Int.reducePow, hmd, hks, hQ]
    (first | refine call_i hP (k2) (.inl ⟨rfl, fun _ hx => hx⟩) ?_ | refine callH_i hP (k2) (.inl ⟨rfl, fun _ hx => hx⟩) ?_)
    simp +decide (maxSteps := 20000000) (disch := omega) only [↓SBK, ↓SBK2, SX, Nat.reduceEqDiff, Nat.reduceAdd, Nat.reduceMul, Nat.reduceSub, ↓reduceIte, Int.reduceNeg, Int.reduceToNat, Int.reducePow, hmd, hks, hQ]
    (first | refine call_i hP (hN) (.inl ⟨rfl, fun _ hx => nomatch hx⟩) ?_ | refine callH_i hP (hN) (.inl ⟨rfl, fun _ hx => nomatch hx⟩) ?_)
    simp +decide (maxSteps := 20000000) (disch := omega) only [↓SBK, ↓SBK2, SX, Nat.reduceEqDiff, Nat.reduceAdd, Nat.reduceMul, Nat.reduceSub, ↓reduceIte, Int.reduceNeg, Int.reduceToNat, Int.reducePow, hmd, hks, hQ]
    (first | refine call_i hP (k3) (.inl ⟨rfl, fun _ hx => hx⟩) ?_ | refine callH_i hP (k3) (.inl ⟨rfl, fun _ hx => hx⟩) ?_)
    simp +decide (maxSteps := 20000000) (disch := omega) only [↓SBK, ↓SBK2, SX, Nat.reduceEqDiff, Nat.reduceAdd, Nat.reduceMul, Nat.reduceSub, ↓reduceIte, Int.reduceNeg, Int.reduceToNat, Int.reducePow, hmd, hks, hQ]
    refine LH_D [5, 25] ?_
    simp +decide (maxSteps := 20000000) (disch := omega) only [↓SBK, ↓SBK2, SX, Nat.reduceEqDiff, Nat.reduceAdd, Nat.reduceMul, Nat.reduceSub, ↓reduceIte, Int.reduceNeg, Int.reduceToNat, Int.reducePow, hmd, hks, hQ]
    refine loop_d [5, 25] (fun s : Nat × Dev × Nat × Int => [(1000, .box [.extv v 1 (bytesR b), .int .i64 (s.2.2.1 : Nat), .int .i64 s.2.2.2]), (5003, .box [.own 3 (s.2.1.c.blocks.map Block.row), .int .i64 s.2.1.ops, .own 3 (s.2.1.faults.map Fault.row), .bool s.2.1.down]), (4, .int .i64 (s.1 : Nat))]) (fun s => s.2.1.sz + 20 * s.1 ≤ 2000 ∧ s.2.2.1 ≤ b.length) (fun s => s.1) ((y, d0, i3, h3)) hP hmd hks (rfl) (⟨by simp only; omega, hi3⟩) ?_
    rintro ⟨m, d, j, g⟩ ⟨g1, g2⟩ w1 hP1 hmd1 hks1 hQ1
    simp +decide (maxSteps := 20000000) (disch := omega) only [↓SBK, ↓SBK2, SX, Nat.reduceEqDiff, Nat.reduceAdd, Nat.reduceMul, Nat.reduceSub, ↓reduceIte, Int.reduceNeg, Int.reduceToNat, Int.reducePow, hmd, hks, hQ, hmd1, hks1, hQ1]
    simp only at g1 g2
    have hds := dev_fine (d := d) (by omega)
    have hlen := chip_l (c := d.c) (n := 2 ^ 40) (by have := dev_sz (d := d) (n := 2 ^ 40) (by omega); exact this.1)
    (first | with_reducible refine if_d _ ?_ ?_ | refine if_i _ ?_ ?_) <;> intro e1
    · obtain ⟨n, j1, q1, hn, hj1, l1⟩ := s_l1Below v b j g d.c.blocks.length hl g2 (by omega)
      obtain ⟨t, j2, q2, ht, hj2, l2⟩ := s_l1Below v b j1 q1 8 hl hj1 (by decide)
      unfold cur at l1 l2
      have em : ((m : Nat) : Int) - 1 = ((m - 1 : Nat) : Int) := by omega
      match t, ht with
      | 0, _ =>
        have hz := devErase_sz d n
        simp +decide (maxSteps := 20000000) (disch := omega) only [↓SBK, ↓SBK2, SX, Nat.reduceEqDiff, Nat.reduceAdd, Nat.reduceMul, Nat.reduceSub, ↓reduceIte, Int.reduceNeg, Int.reduceToNat, Int.reducePow, hmd, hks, hQ, hmd1, hks1, hQ1]
        (first | refine call_i hP1 (l1) (.inl ⟨rfl, fun _ hx => hx⟩) ?_ | refine callH_i hP1 (l1) (.inl ⟨rfl, fun _ hx => hx⟩) ?_)
        simp +decide (maxSteps := 20000000) (disch := omega) only [↓SBK, ↓SBK2, SX, Nat.reduceEqDiff, Nat.reduceAdd, Nat.reduceMul, Nat.reduceSub, ↓reduceIte, Int.reduceNeg, Int.reduceToNat, Int.reducePow, hmd, hks, hQ, hmd1, hks1, hQ1]
        (first | refine call_i hP1 (l2) (.inl ⟨rfl, fun _ hx => hx⟩) ?_ | refine callH_i hP1 (l2) (.inl ⟨rfl, fun _ hx => hx⟩) ?_)
        simp +decide (maxSteps := 20000000) (disch := omega) only [↓SBK, ↓SBK2, SX, Nat.reduceEqDiff, Nat.reduceAdd, Nat.reduceMul, Nat.reduceSub, ↓reduceIte, Int.reduceNeg, Int.reduceToNat, Int.reducePow, hmd, hks, hQ, hmd1, hks1, hQ1]
        (first | refine call_i hP1 (sS_DevErase d n hds (by omega)) (.inl ⟨rfl, fun _ hx => nomatch hx⟩) ?_ | refine callH_i hP1 (sS_DevErase d n hds (by omega)) (.inl ⟨rfl, fun _ hx => nomatch hx⟩) ?_)
        simp +decide (maxSteps := 20000000) (disch := omega) only [↓SBK, ↓SBK2, SX, Nat.reduceEqDiff, Nat.reduceAdd, Nat.reduceMul, Nat.reduceSub, ↓reduceIte, Int.reduceNeg, Int.reduceToNat, Int.reducePow, hmd, hks, hQ, hmd1, hks1, hQ1]
        exact ⟨(m - 1, (devErase d n).1, j2, q2), by simp only; rw [em], ⟨by simp only; omega, hj2⟩, by simp only; omega⟩
      | 1, _ =>
        simp +decide (maxSteps := 20000000) (disch := omega) only [↓SBK, ↓SBK2, SX, Nat.reduceEqDiff, Nat.reduceAdd, Nat.reduceMul, Nat.reduceSub, ↓reduceIte, Int.reduceNeg, Int.reduceToNat, Int.reducePow, hmd, hks, hQ, hmd1, hks1, hQ1]
        (first | refine call_i hP1 (l1) (.inl ⟨rfl, fun _ hx => hx⟩) ?_ | refine callH_i hP1 (l1) (.inl ⟨rfl, fun _ hx => hx⟩) ?_)
        simp +decide (maxSteps := 20000000) (disch := omega) only [↓SBK, ↓SBK2, SX, Nat.reduceEqDiff, Nat.reduceAdd, Nat.reduceMul, Nat.reduceSub, ↓reduceIte, Int.reduceNeg, Int.reduceToNat, Int.reducePow, hmd, hks, hQ, hmd1, hks1, hQ1]
        (first | refine call_i hP1 (l2) (.inl ⟨rfl, fun _ hx => hx⟩) ?_ | refine callH_i hP1 (l2) (.inl ⟨rfl, fun _ hx => hx⟩) ?_)
        simp +decide (maxSteps := 20000000) (disch := omega) only [↓SBK, ↓SBK2, SX, Nat.reduceEqDiff, Nat.reduceAdd, Nat.reduceMul, Nat.reduceSub, ↓reduceIte, Int.reduceNeg, Int.reduceToNat, Int.reducePow, hmd, hks, hQ, hmd1, hks1, hQ1]
        exact ⟨(m - 1, upD d, j2, q2), by simp only; rw [em]; rfl, ⟨by simp only [upD_sz]; omega, hj2⟩, by simp only; omega⟩
      | t + 2, _ =>
        have d0 : decide (((t + 2 : Nat) : Int) = 0) = false := decide_eq_false (by omega)
        have d1 : decide (((t + 2 : Nat) : Int) = 1) = false := decide_eq_false (by omega)
        obtain ⟨z, j3, q3, hz, hj3, l3⟩ := s_l1Some v b j2 q2 hl hj2
        unfold cur at l3
        have hz' := devProg_sz d n z
        simp +decide (maxSteps := 20000000) (disch := omega) only [↓SBK, ↓SBK2, SX, Nat.reduceEqDiff, Nat.reduceAdd, Nat.reduceMul, Nat.reduceSub, ↓reduceIte, Int.reduceNeg, Int.reduceToNat, Int.reducePow, hmd, hks, hQ, hmd1, hks1, hQ1]
        (first | refine call_i hP1 (l1) (.inl ⟨rfl, fun _ hx => hx⟩) ?_ | refine callH_i hP1 (l1) (.inl ⟨rfl, fun _ hx => hx⟩) ?_)
        simp +decide (maxSteps := 20000000) (disch := omega) only [↓SBK, ↓SBK2, SX, Nat.reduceEqDiff, Nat.reduceAdd, Nat.reduceMul, Nat.reduceSub, ↓reduceIte, Int.reduceNeg, Int.reduceToNat, Int.reducePow, hmd, hks, hQ, hmd1, hks1, hQ1]
        (first | refine call_i hP1 (l2) (.inl ⟨rfl, fun _ hx => hx⟩) ?_ | refine callH_i hP1 (l2) (.inl ⟨rfl, fun _ hx => hx⟩) ?_)
        simp +decide (maxSteps := 20000000) (disch := omega) only [↓SBK, ↓SBK2, SX, Nat.reduceEqDiff, Nat.reduceAdd, Nat.reduceMul, Nat.reduceSub, ↓reduceIte, Int.reduceNeg, Int.reduceToNat, Int.reducePow, hmd, hks, hQ, hmd1, hks1, hQ1, d0, d1]
        (first | refine call_i hP1 (l3) (.inl ⟨rfl, fun _ hx => hx⟩) ?_ | refine callH_i hP1 (l3) (.inl ⟨rfl, fun _ hx => hx⟩) ?_)
        simp +decide (maxSteps := 20000000) (disch := omega) only [↓SBK, ↓SBK2, SX, Nat.reduceEqDiff, Nat.reduceAdd, Nat.reduceMul, Nat.reduceSub, ↓reduceIte, Int.reduceNeg, Int.reduceToNat, Int.reducePow, hmd, hks, hQ, hmd1, hks1, hQ1]
        (first | refine call_i hP1 (sS_DevProgram d n z hds (by omega) (by omega)) (.inl ⟨rfl, fun _ hx => nomatch hx⟩) ?_ | refine callH_i hP1 (sS_DevProgram d n z hds (by omega) (by omega)) (.inl ⟨rfl, fun _ hx => nomatch hx⟩) ?_)
        simp +decide (maxSteps := 20000000) (disch := omega) only [↓SBK, ↓SBK2, SX, Nat.reduceEqDiff, Nat.reduceAdd, Nat.reduceMul, Nat.reduceSub, ↓reduceIte, Int.reduceNeg, Int.reduceToNat, Int.reducePow, hmd, hks, hQ, hmd1, hks1, hQ1]
        exact ⟨(m - 1, (devProg d n z).1, j3, q3), by simp only; rw [em], ⟨by simp only; omega, hj3⟩, by simp only; omega⟩
    · simp +decide (maxSteps := 20000000) (disch := omega) only [↓SBK, ↓SBK2, SX, Nat.reduceEqDiff, Nat.reduceAdd, Nat.reduceMul, Nat.reduceSub, ↓reduceIte, Int.reduceNeg, Int.reduceToNat, Int.reducePow, hmd, hks, hQ, hmd1, hks1, hQ1]
      exact ⟨d, j, g, by omega, g2, rfl, rfl⟩
  obtain ⟨_, _, ⟨l, i', h', hc, hi', rfl, rfl⟩, hS⟩ := key
  exact ⟨l, i', h', hc, hi', hS⟩
end Go.Proofs.Ytliklgcfdgdigaa.Awp

namespace Go.Proofs.Ytliklgcfdgdigaa.Awp
open Go.Proofs
set_option linter.unusedSimpArgs false
set_option linter.unusedVariables false
set_option maxRecDepth 100000
set_option maxHeartbeats 20000000

def opsD (d : Dev) (n : Int) : Dev := { c := d.c, ops := n, faults := d.faults, down := d.down }
def faD (d : Dev) (l : List Fault) : Dev := { c := d.c, ops := d.ops, faults := l, down := d.down }
def chD (d : Dev) (c : Chip) : Dev := { c := c, ops := d.ops, faults := d.faults, down := d.down }
theorem s_l11Any (v : Value) (b : Bytes) (i : Nat) (h : Int) (hl : b.length < 2 ^ 48) (hi : i ≤ b.length) : ∃ (d : Dev) (i' : Nat) (h' : Int), d.sz ≤ 100000 ∧ i' ≤ b.length ∧
    Spec Try.prog 163 [cur v b i h] d.o [cur v b i' h'] := by
  have key : ∃ ret outs, (∃ (d : Dev) (i' : Nat) (h' : Int), d.sz ≤ 100000 ∧ i' ≤ b.length ∧ ret = d.o ∧ outs = [cur v b i' h']) ∧ Spec Try.prog 163 [cur v b i h] ret outs := by
    obtain ⟨d, i1, h1, hd, hi1, k1⟩ := s_l11Draw v b i h hl hi
    obtain ⟨t, i2, h2, ht, hi2, k2⟩ := s_l1Below v b i1 h1 16 hl hi1 (by decide)
    have e0 : d.sz = d.c.sz + d.faults.length := rfl
    unfold cur at *
    match t, ht with
    | 0, _ =>
      obtain ⟨r, i4, h4, hr, hi4, k4⟩ := s_l1Int v b i2 h2 [-1, 100000, 100001] hl hi2 (by simp) (by simp)
      unfold cur at k4
      simp only [intR, List.map_cons, List.map_nil] at k4
      refine specEx_C hmx p_S_l11Any [(148, [.l, .b], []), (145, [.l, .b], []), (146, [.l], []), (183, [.l], [])] 141 [true] ⟨Nat.le_of_ble_eq_true rfl, Nat.le_of_ble_eq_true rfl⟩ rfl ?_
      intro w hP hmd hks hQ
      unfold c_S_l11Any
      simp +decide (maxSteps := 20000000) (disch := omega) only [↓SBK, ↓SBK2, SX, Nat.reduceEqDiff, Nat.reduceAdd, Nat.reduceMul, Nat.reduceSub, ↓reduceIte, Int.reduceNeg, Int.reduceToNat, Int.reducePow, hmd, hks, hQ]
      (first | refine call_i hP (k1) (.inl ⟨rfl, fun _ hx => hx⟩) ?_ | refine callH_i hP (k1) (.inl ⟨rfl, fun _ hx => hx⟩) ?_)
      simp +decide (maxSteps := 20000000) (disch := omega) only [↓SBK, ↓SBK2, SX, Nat.reduceEqDiff, Nat.reduceAdd, Nat.reduceMul, Nat.reduceSub, ↓reduceIte, Int.reduceNeg, Int.reduceToNat, Int.reducePow, hmd, hks, hQ]
      (first | refine call_i hP (k2) (.inl ⟨rfl, fun _ hx => hx⟩) ?_ | refine callH_i hP (k2) (.inl ⟨rfl, fun _ hx => hx⟩) ?_)
      simp +decide (maxSteps := 20000000) (disch := omega) only [↓SBK, ↓SBK2, SX, Nat.reduceEqDiff, Nat.reduceAdd, Nat.reduceMul, Nat.reduceSub, ↓reduceIte, Int.reduceNeg, Int.reduceToNat, Int.reducePow, hmd, hks, hQ]
      (first | refine call_i hP (k4) (.inl ⟨rfl, fun _ hx => hx⟩) ?_ | refine callH_i hP (k4) (.inl ⟨rfl, fun _ hx => hx⟩) ?_)
      simp +decide (maxSteps := 20000000) (disch := omega) only [↓SBK, ↓SBK2, SX, Nat.reduceEqDiff, Nat.reduceAdd, Nat.reduceMul, Nat.reduceSub, ↓reduceIte, Int.reduceNeg, Int.reduceToNat, Int.reducePow, hmd, hks, hQ]
      exact ⟨opsD d r, i4, h4, by show d.c.sz + d.faults.length ≤ _; omega, hi4, rfl, rfl⟩
    | 1, _ =>
      obtain ⟨r, i4, h4, hr, hi4, k4⟩ := s_l1Int v b i2 h2 [0, 100000, 100001] hl hi2 (by simp) (by simp)
      obtain ⟨y, i5, h5, hy, hi5, k5⟩ := s_l1Below v b i4 h4 4 hl hi4 (by decide)
      obtain ⟨r2, i6, h6, hr2, hi6, k6⟩ := s_l1Int v b i5 h5 [-1, 0, 401] hl hi5 (by simp) (by simp)
      unfold cur at k4 k5 k6
      simp only [intR, List.map_cons, List.map_nil] at k4 k6
      refine specEx_C hmx p_S_l11Any [(148, [.l, .b], []), (145, [.l, .b], []), (146, [.l], []), (183, [.l], [])] 141 [true] ⟨Nat.le_of_ble_eq_true rfl, Nat.le_of_ble_eq_true rfl⟩ rfl ?_
      intro w hP hmd hks hQ
      unfold c_S_l11Any
      simp +decide (maxSteps := 20000000) (disch := omega) only [↓SBK, ↓SBK2, SX, Nat.reduceEqDiff, Nat.reduceAdd, Nat.reduceMul, Nat.reduceSub, ↓reduceIte, Int.reduceNeg, Int.reduceToNat, Int.reducePow, hmd, hks, hQ]
      (first | refine call_i hP (k1) (.inl ⟨rfl, fun _ hx => hx⟩) ?_ | refine callH_i hP (k1) (.inl ⟨rfl, fun _ hx => hx⟩) ?_)
      simp +decide (maxSteps := 20000000) (disch := omega) only [↓SBK, ↓SBK2, SX, Nat.reduceEqDiff, Nat.reduceAdd, Nat.reduceMul, Nat.reduceSub, ↓reduceIte, Int.reduceNeg, Int.reduceToNat, Int.reducePow, hmd, hks, hQ]
      (first | refine call_i hP (k2) (.inl ⟨rfl, fun _ hx => hx⟩) ?_ | refine callH_i hP (k2) (.inl ⟨rfl, fun _ hx => hx⟩) ?_)
      simp +decide (maxSteps := 20000000) (disch := omega) only [↓SBK, ↓SBK2, SX, Nat.reduceEqDiff, Nat.reduceAdd, Nat.reduceMul, Nat.reduceSub, ↓reduceIte, Int.reduceNeg, Int.reduceToNat, Int.reducePow, hmd, hks, hQ]
      (first | refine call_i hP (k4) (.inl ⟨rfl, fun _ hx => hx⟩) ?_ | refine callH_i hP (k4) (.inl ⟨rfl, fun _ hx => hx⟩) ?_)
      simp +decide (maxSteps := 20000000) (disch := omega) only [↓SBK, ↓SBK2, SX, Nat.reduceEqDiff, Nat.reduceAdd, Nat.reduceMul, Nat.reduceSub, ↓reduceIte, Int.reduceNeg, Int.reduceToNat, Int.reducePow, hmd, hks, hQ]
      (first | refine call_i hP (k5) (.inl ⟨rfl, fun _ hx => hx⟩) ?_ | refine callH_i hP (k5) (.inl ⟨rfl, fun _ hx => hx⟩) ?_)
      simp +decide (maxSteps := 20000000) (disch := omega) only [↓SBK, ↓SBK2, SX, Nat.reduceEqDiff, Nat.reduceAdd, Nat.reduceMul, Nat.reduceSub, ↓reduceIte, Int.reduceNeg, Int.reduceToNat, Int.reducePow, hmd, hks, hQ]
      (first | refine call_i hP (k6) (.inl ⟨rfl, fun _ hx => hx⟩) ?_ | refine callH_i hP (k6) (.inl ⟨rfl, fun _ hx => hx⟩) ?_)
      simp +decide (maxSteps := 20000000) (disch := omega) only [↓SBK, ↓SBK2, SX, Nat.reduceEqDiff, Nat.reduceAdd, Nat.reduceMul, Nat.reduceSub, ↓reduceIte, Int.reduceNeg, Int.reduceToNat, Int.reducePow, hmd, hks, hQ]
      rw [F_snoc]
      exact ⟨faD d (d.faults ++ [({ at' := r, kind := y, keep := r2 } : Fault)]), i6, h6, by show d.c.sz + (d.faults ++ [_]).length ≤ _; simp; omega, hi6, rfl, rfl⟩
    | 2, _ =>
      obtain ⟨c, i4, h4, hc, hi4, k4⟩ := s_l10Any v b i2 h2 hl hi2
      unfold cur at k4
      refine specEx_C hmx p_S_l11Any [(148, [.l, .b], []), (145, [.l, .b], []), (146, [.l], []), (183, [.l], [])] 141 [true] ⟨Nat.le_of_ble_eq_true rfl, Nat.le_of_ble_eq_true rfl⟩ rfl ?_
      intro w hP hmd hks hQ
      unfold c_S_l11Any
      simp +decide (maxSteps := 20000000) (disch := omega) only [↓SBK, ↓SBK2, SX, Nat.reduceEqDiff, Nat.reduceAdd, Nat.reduceMul, Nat.reduceSub, ↓reduceIte, Int.reduceNeg, Int.reduceToNat, Int.reducePow, hmd, hks, hQ]
      (first | refine call_i hP (k1) (.inl ⟨rfl, fun _ hx => hx⟩) ?_ | refine callH_i hP (k1) (.inl ⟨rfl, fun _ hx => hx⟩) ?_)
      simp +decide (maxSteps := 20000000) (disch := omega) only [↓SBK, ↓SBK2, SX, Nat.reduceEqDiff, Nat.reduceAdd, Nat.reduceMul, Nat.reduceSub, ↓reduceIte, Int.reduceNeg, Int.reduceToNat, Int.reducePow, hmd, hks, hQ]
      (first | refine call_i hP (k2) (.inl ⟨rfl, fun _ hx => hx⟩) ?_ | refine callH_i hP (k2) (.inl ⟨rfl, fun _ hx => hx⟩) ?_)
      simp +decide (maxSteps := 20000000) (disch := omega) only [↓SBK, ↓SBK2, SX, Nat.reduceEqDiff, Nat.reduceAdd, Nat.reduceMul, Nat.reduceSub, ↓reduceIte, Int.reduceNeg, Int.reduceToNat, Int.reducePow, hmd, hks, hQ]
      (first | refine call_i hP (k4) (.inl ⟨rfl, fun _ hx => hx⟩) ?_ | refine callH_i hP (k4) (.inl ⟨rfl, fun _ hx => hx⟩) ?_)
      simp +decide (maxSteps := 20000000) (disch := omega) only [↓SBK, ↓SBK2, SX, Nat.reduceEqDiff, Nat.reduceAdd, Nat.reduceMul, Nat.reduceSub, ↓reduceIte, Int.reduceNeg, Int.reduceToNat, Int.reducePow, hmd, hks, hQ]
      exact ⟨chD d c, i4, h4, by show c.sz + d.faults.length ≤ _; omega, hi4, rfl, rfl⟩
    | m + 3, _ =>
      have d0 : decide (((m + 3 : Nat) : Int) = 0) = false := decide_eq_false (by omega)
      have d1 : decide (((m + 3 : Nat) : Int) = 1) = false := decide_eq_false (by omega)
      have d2 : decide (((m + 3 : Nat) : Int) = 2) = false := decide_eq_false (by omega)
      refine specEx_C hmx p_S_l11Any [(148, [.l, .b], []), (145, [.l, .b], []), (146, [.l], []), (183, [.l], [])] 141 [true] ⟨Nat.le_of_ble_eq_true rfl, Nat.le_of_ble_eq_true rfl⟩ rfl ?_
      intro w hP hmd hks hQ
      unfold c_S_l11Any
      simp +decide (maxSteps := 20000000) (disch := omega) only [↓SBK, ↓SBK2, SX, Nat.reduceEqDiff, Nat.reduceAdd, Nat.reduceMul, Nat.reduceSub, ↓reduceIte, Int.reduceNeg, Int.reduceToNat, Int.reducePow, hmd, hks, hQ]
      (first | refine call_i hP (k1) (.inl ⟨rfl, fun _ hx => hx⟩) ?_ | refine callH_i hP (k1) (.inl ⟨rfl, fun _ hx => hx⟩) ?_)
      simp +decide (maxSteps := 20000000) (disch := omega) only [↓SBK, ↓SBK2, SX, Nat.reduceEqDiff, Nat.reduceAdd, Nat.reduceMul, Nat.reduceSub, ↓reduceIte, Int.reduceNeg, Int.reduceToNat, Int.reducePow, hmd, hks, hQ]
      (first | refine call_i hP (k2) (.inl ⟨rfl, fun _ hx => hx⟩) ?_ | refine callH_i hP (k2) (.inl ⟨rfl, fun _ hx => hx⟩) ?_)
      simp +decide (maxSteps := 20000000) (disch := omega) only [↓SBK, ↓SBK2, SX, Nat.reduceEqDiff, Nat.reduceAdd, Nat.reduceMul, Nat.reduceSub, ↓reduceIte, Int.reduceNeg, Int.reduceToNat, Int.reducePow, hmd, hks, hQ, d0, d1, d2]
      exact ⟨d, i2, h2, by omega, hi2, rfl, rfl⟩
  obtain ⟨_, _, ⟨l, i', h', hc, hi', rfl, rfl⟩, hS⟩ := key
  exact ⟨l, i', h', hc, hi', hS⟩
theorem s_DrawPowerUp (v : Value) (b : Bytes) (hl : b.length < 2 ^ 48) : ∃ (d : Dev), d.sz ≤ 100000 ∧ Spec Try.prog 117 [.extv v 1 (bytesR b)] d.o [.undef] := by
  obtain ⟨h0, k0⟩ := s_l1New v b hl
  obtain ⟨c, i1, h1, hc, hi1, k1⟩ := s_l11Any v b 0 h0 hl (by omega)
  refine ⟨c, hc, ?_⟩
  unfold cur at *
  refine spec_C hmx p_S_DrawPowerUp [(163, [.l], [])] 13 [] ⟨Nat.le_of_ble_eq_true rfl, Nat.le_of_ble_eq_true rfl⟩ rfl rfl ?_
  intro w hP hmd hks hQ
  unfold c_S_DrawPowerUp
  simp +decide (maxSteps := 20000000) (disch := omega) only [↓SBK, ↓SBK2, SX, Nat.reduceEqDiff, Nat.reduceAdd, Nat.reduceMul, Nat.reduceSub, ↓reduceIte, Int.reduceNeg, Int.reduceToNat, Int.reducePow, hmd, hks, hQ]
  (first | refine call_i hP (k0) (.inl ⟨rfl, fun _ hx => hx⟩) ?_ | refine callH_i hP (k0) (.inl ⟨rfl, fun _ hx => hx⟩) ?_)
  simp +decide (maxSteps := 20000000) (disch := omega) only [↓SBK, ↓SBK2, SX, Nat.reduceEqDiff, Nat.reduceAdd, Nat.reduceMul, Nat.reduceSub, ↓reduceIte, Int.reduceNeg, Int.reduceToNat, Int.reducePow, hmd, hks, hQ]
  (first | refine call_i hP (k1) (.inl ⟨rfl, fun _ hx => hx⟩) ?_ | refine callH_i hP (k1) (.inl ⟨rfl, fun _ hx => hx⟩) ?_)
  simp +decide (maxSteps := 20000000) (disch := omega) only [↓SBK, ↓SBK2, SX, Nat.reduceEqDiff, Nat.reduceAdd, Nat.reduceMul, Nat.reduceSub, ↓reduceIte, Int.reduceNeg, Int.reduceToNat, Int.reducePow, hmd, hks, hQ]
theorem s_DrawDevNew (v : Value) (b : Bytes) (hl : b.length < 2 ^ 48) : ∃ (n : Int) (l : List Fault), l.length ≤ 5 ∧ Spec Try.prog 118 [.extv v 1 (bytesR b)] (.tup [.int .i64 n, .own 3 (l.map Fault.row)]) [.undef] := by
  obtain ⟨h0, k0⟩ := s_l1New v b hl
  obtain ⟨l, i1, h1, hll, hi1, k1⟩ := s_l11FaultList v b 0 h0 hl (by omega)
  obtain ⟨t, i2, h2, hi2, k2⟩ := s_l1Once v b i1 h1 6 hl hi1 (by decide)
  cases t with
  | false =>
    obtain ⟨r, i4, h4, hr, hi4, k4⟩ := s_l1Int v b i2 h2 [3, 5, 24, 2, 25] hl hi2 (by simp) (by simp)
    refine ⟨r, l, by omega, ?_⟩
    unfold cur at *
    simp only [intR, List.map_cons, List.map_nil] at k4
    refine spec_C hmx p_S_DrawDevNew [(148, [.l, .b], []), (154, [.l, .b], []), (145, [.l, .b], []), (168, [.l], [])] 61 [] ⟨Nat.le_of_ble_eq_true rfl, Nat.le_of_ble_eq_true rfl⟩ rfl rfl ?_
    intro w hP hmd hks hQ
    unfold c_S_DrawDevNew
    simp +decide (maxSteps := 20000000) (disch := omega) only [↓SBK, ↓SBK2, SX, Nat.reduceEqDiff, Nat.reduceAdd, Nat.reduceMul, Nat.reduceSub, ↓reduceIte, Int.reduceNeg, Int.reduceToNat, Int.reducePow, hmd, hks, hQ]
    (first | refine call_i hP (k0) (.inl ⟨rfl, fun _ hx => hx⟩) ?_ | refine callH_i hP (k0) (.inl ⟨rfl, fun _ hx => hx⟩) ?_)
    simp +decide (maxSteps := 20000000) (disch := omega) only [↓SBK, ↓SBK2, SX, Nat.reduceEqDiff, Nat.reduceAdd, Nat.reduceMul, Nat.reduceSub, ↓reduceIte, Int.reduceNeg, Int.reduceToNat, Int.reducePow, hmd, hks, hQ]
    (first | refine call_i hP (k1) (.inl ⟨rfl, fun _ hx => hx⟩) ?_ | refine callH_i hP (k1) (.inl ⟨rfl, fun _ hx => hx⟩) ?_)
    simp +decide (maxSteps := 20000000) (disch := omega) only [↓SBK, ↓SBK2, SX, Nat.reduceEqDiff, Nat.reduceAdd, Nat.reduceMul, Nat.reduceSub, ↓reduceIte, Int.reduceNeg, Int.reduceToNat, Int.reducePow, hmd, hks, hQ]
    (first | refine call_i hP (k2) (.inl ⟨rfl, fun _ hx => hx⟩) ?_ | refine callH_i hP (k2) (.inl ⟨rfl, fun _ hx => hx⟩) ?_)
    simp +decide (maxSteps := 20000000) (disch := omega) only [↓SBK, ↓SBK2, SX, Nat.reduceEqDiff, Nat.reduceAdd, Nat.reduceMul, Nat.reduceSub, ↓reduceIte, Int.reduceNeg, Int.reduceToNat, Int.reducePow, hmd, hks, hQ]
    (first | refine call_i hP (k4) (.inl ⟨rfl, fun _ hx => hx⟩) ?_ | refine callH_i hP (k4) (.inl ⟨rfl, fun _ hx => hx⟩) ?_)
    simp +decide (maxSteps := 20000000) (disch := omega) only [↓SBK, ↓SBK2, SX, Nat.reduceEqDiff, Nat.reduceAdd, Nat.reduceMul, Nat.reduceSub, ↓reduceIte, Int.reduceNeg, Int.reduceToNat, Int.reducePow, hmd, hks, hQ]
  | true =>
    obtain ⟨r0, i3, h3, hr0, hi3, k3⟩ := s_l1Int v b i2 h2 [0, 99, 100001] hl hi2 (by simp) (by simp)
    obtain ⟨y, i5, h5, hy, hi5, k5⟩ := s_l1Below v b i3 h3 4 hl hi3 (by decide)
    obtain ⟨r, i4, h4, hr, hi4, k4⟩ := s_l1Int v b i5 h5 [3, 5, 24, 2, 25] hl hi5 (by simp) (by simp)
    refine ⟨r, l ++ [({ at' := r0, kind := y, keep := 0 } : Fault)], by simp; omega, ?_⟩
    unfold cur at *
    simp only [intR, List.map_cons, List.map_nil] at k4 k3
    refine spec_C hmx p_S_DrawDevNew [(148, [.l, .b], []), (154, [.l, .b], []), (145, [.l, .b], []), (168, [.l], [])] 61 [] ⟨Nat.le_of_ble_eq_true rfl, Nat.le_of_ble_eq_true rfl⟩ rfl rfl ?_
    intro w hP hmd hks hQ
    unfold c_S_DrawDevNew
    simp +decide (maxSteps := 20000000) (disch := omega) only [↓SBK, ↓SBK2, SX, Nat.reduceEqDiff, Nat.reduceAdd, Nat.reduceMul, Nat.reduceSub, ↓reduceIte, Int.reduceNeg, Int.reduceToNat, Int.reducePow, hmd, hks, hQ]
    (first | refine call_i hP (k0) (.inl ⟨rfl, fun _ hx => hx⟩) ?_ | refine callH_i hP (k0) (.inl ⟨rfl, fun _ hx => hx⟩) ?_)
    simp +decide (maxSteps := 20000000) (disch := omega) only [↓SBK, ↓SBK2, SX, Nat.reduceEqDiff, Nat.reduceAdd, Nat.reduceMul, Nat.reduceSub, ↓reduceIte, Int.reduceNeg, Int.reduceToNat, Int.reducePow, hmd, hks, hQ]
    (first | refine call_i hP (k1) (.inl ⟨rfl, fun _ hx => hx⟩) ?_ | refine callH_i hP (k1) (.inl ⟨rfl, fun _ hx => hx⟩) ?_)
    simp +decide (maxSteps := 20000000) (disch := omega) only [↓SBK, ↓SBK2, SX, Nat.reduceEqDiff, Nat.reduceAdd, Nat.reduceMul, Nat.reduceSub, ↓reduceIte, Int.reduceNeg, Int.reduceToNat, Int.reducePow, hmd, hks, hQ]
    (first | refine call_i hP (k2) (.inl ⟨rfl, fun _ hx => hx⟩) ?_ | refine callH_i hP (k2) (.inl ⟨rfl, fun _ hx => hx⟩) ?_)
    simp +decide (maxSteps := 20000000) (disch := omega) only [↓SBK, ↓SBK2, SX, Nat.reduceEqDiff, Nat.reduceAdd, Nat.reduceMul, Nat.reduceSub, ↓reduceIte, Int.reduceNeg, Int.reduceToNat, Int.reducePow, hmd, hks, hQ]
    (first | refine call_i hP (k3) (.inl ⟨rfl, fun _ hx => hx⟩) ?_ | refine callH_i hP (k3) (.inl ⟨rfl, fun _ hx => hx⟩) ?_)
    simp +decide (maxSteps := 20000000) (disch := omega) only [↓SBK, ↓SBK2, SX, Nat.reduceEqDiff, Nat.reduceAdd, Nat.reduceMul, Nat.reduceSub, ↓reduceIte, Int.reduceNeg, Int.reduceToNat, Int.reducePow, hmd, hks, hQ]
    (first | refine call_i hP (k5) (.inl ⟨rfl, fun _ hx => hx⟩) ?_ | refine callH_i hP (k5) (.inl ⟨rfl, fun _ hx => hx⟩) ?_)
    simp +decide (maxSteps := 20000000) (disch := omega) only [↓SBK, ↓SBK2, SX, Nat.reduceEqDiff, Nat.reduceAdd, Nat.reduceMul, Nat.reduceSub, ↓reduceIte, Int.reduceNeg, Int.reduceToNat, Int.reducePow, hmd, hks, hQ]
    (first | refine call_i hP (k4) (.inl ⟨rfl, fun _ hx => hx⟩) ?_ | refine callH_i hP (k4) (.inl ⟨rfl, fun _ hx => hx⟩) ?_)
    simp +decide (maxSteps := 20000000) (disch := omega) only [↓SBK, ↓SBK2, SX, Nat.reduceEqDiff, Nat.reduceAdd, Nat.reduceMul, Nat.reduceSub, ↓reduceIte, Int.reduceNeg, Int.reduceToNat, Int.reducePow, hmd, hks, hQ]
    rw [F_snoc]
end Go.Proofs.Ytliklgcfdgdigaa.Awp

namespace Go.Proofs.Ytliklgcfdgdigaa.Awp
open Go.Proofs
set_option linter.unusedSimpArgs false
set_option linter.unusedVariables false
set_option maxRecDepth 100000
set_option maxHeartbeats 20000000

end Go.Proofs.Ytliklgcfdgdigaa.Awp

namespace Go.Proofs.Ytliklgcfdgdigaa.Awp
open Go.Proofs
set_option linter.unusedSimpArgs false
set_option linter.unusedVariables false
set_option maxRecDepth 100000
set_option maxHeartbeats 20000000

end Go.Proofs.Ytliklgcfdgdigaa.Awp

namespace Go.Proofs.Ytliklgcfdgdigaa.Awp
open Go.Proofs
set_option linter.unusedSimpArgs false
set_option linter.unusedVariables false
set_option maxRecDepth 100000
set_option maxHeartbeats 20000000

end Go.Proofs.Ytliklgcfdgdigaa.Awp

namespace Go.Proofs.Ytliklgcfdgdigaa.Awp
open Go.Proofs
set_option linter.unusedSimpArgs false
set_option linter.unusedVariables false
set_option maxRecDepth 100000
set_option maxHeartbeats 20000000

end Go.Proofs.Ytliklgcfdgdigaa.Awp

namespace Go.Proofs.Ytliklgcfdgdigaa.Awp
open Go.Proofs
set_option linter.unusedSimpArgs false
set_option linter.unusedVariables false
set_option maxRecDepth 100000
set_option maxHeartbeats 20000000

/-- what is owned may be held as what is only read -/
theorem dev_frz {w : World} {lk : Lk} {F X : Foot} {vs : List Value} {ys : List AV} {d : Dev} (h : RepA w lk F X vs (d.o :: ys)) :
    ∃ (F' M X' : Foot), RepA w lk F' X' vs (d.x :: ys) ∧ (∀ b, F b = F' b + M b) ∧ (∀ b, X' b ≠ 0 → X b ≠ 0 ∨ M b ≠ 0) := by
  unfold Dev.o at h
  cases h with
  | agg _ F1 F2 _ X1 X2 us _ vs _ h1 h2 hF hX =>
    cases h1 with
    | own _ A1 A2 _ _ _ v1 vs1 _ r1 h3 hA =>
      cases h3 with
      | int _ _ _ _ vs3 _ h4 =>
        cases h4 with
        | own _ B1 B2 _ _ _ v2 vs2 _ r2 h5 hB =>
          obtain ⟨G1, g1, e1⟩ := Row.weak r1 rfl
          obtain ⟨G2, g2, e2⟩ := Row.weak r2 rfl
          refine ⟨fun b => B2 b + F2 b, fun b => A1 b + B1 b, fun b => G1 b + (G2 b + X1 b) + X2 b, ?_, fun b => ?_, fun b => ?_⟩
          · exact .agg _ B2 F2 _ (fun b => G1 b + (G2 b + X1 b)) X2 _ _ _ _ (.ext _ _ G1 (fun b => G2 b + X1 b) _ _ _ _ _ g1 (.int _ _ _ _ _ _ (.ext _ _ G2 X1 _ _ _ _ _ g2 h5 (fun _ => rfl))) (fun _ => rfl)) h2 (fun _ => rfl) (fun _ => rfl)
          · dsimp only; rw [hF, hA, hB]; omega
          · dsimp only; rw [hX]; have := e1 b; have := e2 b; omega
theorem spec_frz {P : Program} {f : FuncId} {args outs : List AV} {d : Dev} (h : Spec P f args d.o outs) : Spec P f args d.x outs := by
  refine ⟨h.1, h.2.1, ?_⟩
  intro w vs F X r h1 h2 h3
  refine (h.2.2 w vs F X r h1 h2 h3).mono ?_
  rintro e w' ⟨v, F', X', he, r', q1, q2, q3, q4, q5, q6⟩
  obtain ⟨F2, M, X2, r2, eF, eX⟩ := dev_frz r'
  refine ⟨v, F2, X2, he, r2, fun b => ?_, fun b => ?_, q3, q4, fun b hb => ?_, fun b hb => ?_⟩
  · have := q1 b; have := eF b; omega
  · have a1 := q1 b; have a2 := q2 b; have a3 := eF b; have a4 := eX b
    by_cases hz : X2 b = 0
    · exact .inr hz
    · have := a4 hz; omega
  · exact q5 b (by have := eF b; omega)
  · rcases eX b hb with hx | hm
    · exact q6 b hx
    · have hF : F' b ≠ 0 := by have := eF b; omega
      refine ⟨?_, r'.lt b hF⟩
      rcases q5 b hF with g | g
      · exact .inr (.inl g)
      · exact .inr (.inr g)
theorem zDev_bad : devOk zDev = false := by
  cases h : devOk zDev with
  | false => rfl
  | true =>
    have := (devOk_info h).1.2
    have := (inR_iff _ _ _).1 this
    simp [zDev] at this
theorem devNew_ok (n : Int) (l : List Fault) : devOk (devNew n l) = decide ((0 : Int) < ((devNew n l).c.blocks.length : Nat)) := by
  unfold devNew
  split
  · rename_i h
    have := (inR_iff _ _ _).1 (devOk_info h).1.2
    rw [h, decide_eq_true (by omega)]
  · rw [zDev_bad]; rfl
def offD (d : Dev) : Dev := { c := d.c, ops := d.ops, faults := d.faults, down := true }
theorem devOk_off (d : Dev) : devOk (offD d) = devOk d := rfl
theorem s_FnPowers (b : Bytes) (hf : b.length < 2 ^ 48) : Spec Try.prog 29 [.ext 1 (bytesR b)] (.bool true) [.undef] := by
  refine spec_extv fun a len cap ha => ?_
  generalize hv : Value.slice a len cap = v
  have hB := spec_ext (v := v) (s_big b hf)
  cases hz : decide ((1048576 : Int) < (b.length : Nat)) with
  | true =>
    rw [hz] at hB
    refine spec_C hmx p_L_FnPowers [] 130749 [] ⟨Nat.le_of_ble_eq_true rfl, Nat.le_of_ble_eq_true rfl⟩ rfl rfl ?_
    intro w hP hmd hks hQ
    unfold c_L_FnPowers
    simp +decide (maxSteps := 20000000) (disch := omega) only [↓SBK, ↓SBK2, SX, Nat.reduceEqDiff, Nat.reduceAdd, Nat.reduceMul, Nat.reduceSub, ↓reduceIte, Int.reduceNeg, Int.reduceToNat, Int.reducePow, hmd, hks, hQ]
    (first | refine call_i hP (hB) (.inl ⟨rfl, fun _ hx => nomatch hx⟩) ?_ | refine callH_i hP (hB) (.inl ⟨rfl, fun _ hx => nomatch hx⟩) ?_)
    simp +decide (maxSteps := 20000000) (disch := omega) only [↓SBK, ↓SBK2, SX, Nat.reduceEqDiff, Nat.reduceAdd, Nat.reduceMul, Nat.reduceSub, ↓reduceIte, Int.reduceNeg, Int.reduceToNat, Int.reducePow, hmd, hks, hQ]
  | false =>
    rw [hz] at hB
    obtain ⟨d, hd, k1⟩ := s_DrawPowerUp v b hf
    obtain ⟨n, l, hl, k2⟩ := s_DrawDevNew v b hf
    have k1 := spec_frz k1
    have hdf := dev_fine (d := d) (by omega)
    have hof := dev_fine (d := offD d) (by show d.sz < _; omega)
    obtain ⟨s1, s2⟩ := dev_sz (d := d) (n := 2 ^ 40) (by omega)
    have kU := spec_frz (sI_PowerUp d (by omega))
    have kP := sI_DevProgram (offD d) 0 [1] hof (by show d.sz < _; omega) (by decide)
    have kE := sI_DevErase (offD d) 0 hof (by show d.sz < _; omega)
    have kN := sI_DevNew n l (by omega)
    have kNs := sS_DevNew n l (by omega)
    have kF := sI_FaultAt d (by omega)
    have kFs := sS_FaultAt d (by omega)
    have kO := sI_DevOk d hdf
    have kOs := sS_DevOk d hdf
    have hns := devNew_sz n l
    have hcs := (chipNew_sz n).1
    have kO2 := sI_DevOk (devNew n l) (dev_fine (by omega))
    have kC := sameChip_self d.c s1
    have hok := devNew_ok n l
    rw [hok] at kO2
    cases hk : devOk d with
    | false =>
      have eP : devProg (offD d) 0 [1] = (offD d, 1) := by rw [devProg, devMay_bad (by rw [devOk_off, hk]), if_neg (by decide)]
      have eE : devErase (offD d) 0 = (offD d, 1) := by rw [devErase, devMay_bad (by rw [devOk_off, hk]), if_neg (by decide)]
      rw [eP] at kP
      rw [eE] at kE
      rw [hk] at kO kOs
      generalize devNew n l = y at *
      simp only [offD, upD, Dev.o, Dev.x, Chip.x] at *
      refine spec_C hmx p_L_FnPowers [] 130749 [] ⟨Nat.le_of_ble_eq_true rfl, Nat.le_of_ble_eq_true rfl⟩ rfl rfl ?_
      intro w hP hmd hks hQ
      unfold c_L_FnPowers
      simp +decide (maxSteps := 20000000) (disch := omega) only [↓SBK, ↓SBK2, SX, Nat.reduceEqDiff, Nat.reduceAdd, Nat.reduceMul, Nat.reduceSub, ↓reduceIte, Int.reduceNeg, Int.reduceToNat, Int.reducePow, hmd, hks, hQ]
      (first | refine call_i hP (hB) (.inl ⟨rfl, fun _ hx => nomatch hx⟩) ?_ | refine callH_i hP (hB) (.inl ⟨rfl, fun _ hx => nomatch hx⟩) ?_)
      simp +decide (maxSteps := 20000000) (disch := omega) only [↓SBK, ↓SBK2, SX, Nat.reduceEqDiff, Nat.reduceAdd, Nat.reduceMul, Nat.reduceSub, ↓reduceIte, Int.reduceNeg, Int.reduceToNat, Int.reducePow, hmd, hks, hQ]
      (first | refine call_i hP (k1) (.inr rfl) ?_ | refine callH_i hP (k1) (.inr rfl) ?_)
      simp +decide (maxSteps := 20000000) (disch := omega) only [↓SBK, ↓SBK2, SX, Nat.reduceEqDiff, Nat.reduceAdd, Nat.reduceMul, Nat.reduceSub, ↓reduceIte, Int.reduceNeg, Int.reduceToNat, Int.reducePow, hmd, hks, hQ]
      (first | refine call_i hP (kU) (.inr rfl) ?_ | refine callH_i hP (kU) (.inr rfl) ?_)
      simp +decide (maxSteps := 20000000) (disch := omega) only [↓SBK, ↓SBK2, SX, Nat.reduceEqDiff, Nat.reduceAdd, Nat.reduceMul, Nat.reduceSub, ↓reduceIte, Int.reduceNeg, Int.reduceToNat, Int.reducePow, hmd, hks, hQ]
      (first | refine call_i hP (kP) (.inl ⟨rfl, fun _ hx => nomatch hx⟩) ?_ | refine callH_i hP (kP) (.inl ⟨rfl, fun _ hx => nomatch hx⟩) ?_)
      simp +decide (maxSteps := 20000000) (disch := omega) only [↓SBK, ↓SBK2, SX, Nat.reduceEqDiff, Nat.reduceAdd, Nat.reduceMul, Nat.reduceSub, ↓reduceIte, Int.reduceNeg, Int.reduceToNat, Int.reducePow, hmd, hks, hQ]
      (first | refine call_i hP (kE) (.inl ⟨rfl, fun _ hx => nomatch hx⟩) ?_ | refine callH_i hP (kE) (.inl ⟨rfl, fun _ hx => nomatch hx⟩) ?_)
      simp +decide (maxSteps := 20000000) (disch := omega) only [↓SBK, ↓SBK2, SX, Nat.reduceEqDiff, Nat.reduceAdd, Nat.reduceMul, Nat.reduceSub, ↓reduceIte, Int.reduceNeg, Int.reduceToNat, Int.reducePow, hmd, hks, hQ]
      (first | refine call_i hP (k2) (.inl ⟨rfl, fun _ hx => nomatch hx⟩) ?_ | refine callH_i hP (k2) (.inl ⟨rfl, fun _ hx => nomatch hx⟩) ?_)
      simp +decide (maxSteps := 20000000) (disch := omega) only [↓SBK, ↓SBK2, SX, Nat.reduceEqDiff, Nat.reduceAdd, Nat.reduceMul, Nat.reduceSub, ↓reduceIte, Int.reduceNeg, Int.reduceToNat, Int.reducePow, hmd, hks, hQ]
      (first | refine call_i hP (kN) (.inl ⟨rfl, fun _ hx => nomatch hx⟩) ?_ | refine callH_i hP (kN) (.inl ⟨rfl, fun _ hx => nomatch hx⟩) ?_)
      simp +decide (maxSteps := 20000000) (disch := omega) only [↓SBK, ↓SBK2, SX, Nat.reduceEqDiff, Nat.reduceAdd, Nat.reduceMul, Nat.reduceSub, ↓reduceIte, Int.reduceNeg, Int.reduceToNat, Int.reducePow, hmd, hks, hQ]
      (first | refine call_i hP (kF) (.inl ⟨rfl, fun _ hx => nomatch hx⟩) ?_ | refine callH_i hP (kF) (.inl ⟨rfl, fun _ hx => nomatch hx⟩) ?_)
      simp +decide (maxSteps := 20000000) (disch := omega) only [↓SBK, ↓SBK2, SX, Nat.reduceEqDiff, Nat.reduceAdd, Nat.reduceMul, Nat.reduceSub, ↓reduceIte, Int.reduceNeg, Int.reduceToNat, Int.reducePow, hmd, hks, hQ]
      (first | refine call_i hP (kFs) (.inl ⟨rfl, fun _ hx => nomatch hx⟩) ?_ | refine callH_i hP (kFs) (.inl ⟨rfl, fun _ hx => nomatch hx⟩) ?_)
      simp +decide (maxSteps := 20000000) (disch := omega) only [↓SBK, ↓SBK2, SX, Nat.reduceEqDiff, Nat.reduceAdd, Nat.reduceMul, Nat.reduceSub, ↓reduceIte, Int.reduceNeg, Int.reduceToNat, Int.reducePow, hmd, hks, hQ]
      (first | refine call_i hP (kO) (.inl ⟨rfl, fun _ hx => hx⟩) ?_ | refine callH_i hP (kO) (.inl ⟨rfl, fun _ hx => hx⟩) ?_)
      simp +decide (maxSteps := 20000000) (disch := omega) only [↓SBK, ↓SBK2, SX, Nat.reduceEqDiff, Nat.reduceAdd, Nat.reduceMul, Nat.reduceSub, ↓reduceIte, Int.reduceNeg, Int.reduceToNat, Int.reducePow, hmd, hks, hQ]
      (first | refine call_i hP (kOs) (.inl ⟨rfl, fun _ hx => hx⟩) ?_ | refine callH_i hP (kOs) (.inl ⟨rfl, fun _ hx => hx⟩) ?_)
      simp +decide (maxSteps := 20000000) (disch := omega) only [↓SBK, ↓SBK2, SX, Nat.reduceEqDiff, Nat.reduceAdd, Nat.reduceMul, Nat.reduceSub, ↓reduceIte, Int.reduceNeg, Int.reduceToNat, Int.reducePow, hmd, hks, hQ]
      (first | refine call_i hP (kNs) (.inl ⟨rfl, fun _ hx => hx⟩) ?_ | refine callH_i hP (kNs) (.inl ⟨rfl, fun _ hx => hx⟩) ?_)
      simp +decide (maxSteps := 20000000) (disch := omega) only [↓SBK, ↓SBK2, SX, Nat.reduceEqDiff, Nat.reduceAdd, Nat.reduceMul, Nat.reduceSub, ↓reduceIte, Int.reduceNeg, Int.reduceToNat, Int.reducePow, hmd, hks, hQ]
      (first | refine call_i hP (kO2) (.inl ⟨rfl, fun _ hx => hx⟩) ?_ | refine callH_i hP (kO2) (.inl ⟨rfl, fun _ hx => hx⟩) ?_)
      simp +decide (maxSteps := 20000000) (disch := omega) only [↓SBK, ↓SBK2, SX, Nat.reduceEqDiff, Nat.reduceAdd, Nat.reduceMul, Nat.reduceSub, ↓reduceIte, Int.reduceNeg, Int.reduceToNat, Int.reducePow, hmd, hks, hQ]
      (first | refine call_i hP (kOs) (.inl ⟨rfl, fun _ hx => nomatch hx⟩) ?_ | refine callH_i hP (kOs) (.inl ⟨rfl, fun _ hx => nomatch hx⟩) ?_)
      simp +decide (maxSteps := 20000000) (disch := omega) only [↓SBK, ↓SBK2, SX, Nat.reduceEqDiff, Nat.reduceAdd, Nat.reduceMul, Nat.reduceSub, ↓reduceIte, Int.reduceNeg, Int.reduceToNat, Int.reducePow, hmd, hks, hQ]
    | true =>
      have eP : devProg (offD d) 0 [1] = (offD d, 10) := by rw [devProg, devMay_down (by rw [devOk_off, hk]) (.inl rfl), if_neg (by decide)]
      have eE : devErase (offD d) 0 = (offD d, 10) := by rw [devErase, devMay_down (by rw [devOk_off, hk]) (.inl rfl), if_neg (by decide)]
      rw [eP] at kP
      rw [eE] at kE
      rw [hk] at kO kOs
      generalize devNew n l = y at *
      simp only [offD, upD, Dev.o, Dev.x, Chip.x] at *
      refine spec_C hmx p_L_FnPowers [] 130749 [] ⟨Nat.le_of_ble_eq_true rfl, Nat.le_of_ble_eq_true rfl⟩ rfl rfl ?_
      intro w hP hmd hks hQ
      unfold c_L_FnPowers
      simp +decide (maxSteps := 20000000) (disch := omega) only [↓SBK, ↓SBK2, SX, Nat.reduceEqDiff, Nat.reduceAdd, Nat.reduceMul, Nat.reduceSub, ↓reduceIte, Int.reduceNeg, Int.reduceToNat, Int.reducePow, hmd, hks, hQ]
      (first | refine call_i hP (hB) (.inl ⟨rfl, fun _ hx => nomatch hx⟩) ?_ | refine callH_i hP (hB) (.inl ⟨rfl, fun _ hx => nomatch hx⟩) ?_)
      simp +decide (maxSteps := 20000000) (disch := omega) only [↓SBK, ↓SBK2, SX, Nat.reduceEqDiff, Nat.reduceAdd, Nat.reduceMul, Nat.reduceSub, ↓reduceIte, Int.reduceNeg, Int.reduceToNat, Int.reducePow, hmd, hks, hQ]
      (first | refine call_i hP (k1) (.inr rfl) ?_ | refine callH_i hP (k1) (.inr rfl) ?_)
      simp +decide (maxSteps := 20000000) (disch := omega) only [↓SBK, ↓SBK2, SX, Nat.reduceEqDiff, Nat.reduceAdd, Nat.reduceMul, Nat.reduceSub, ↓reduceIte, Int.reduceNeg, Int.reduceToNat, Int.reducePow, hmd, hks, hQ]
      (first | refine call_i hP (kU) (.inr rfl) ?_ | refine callH_i hP (kU) (.inr rfl) ?_)
      simp +decide (maxSteps := 20000000) (disch := omega) only [↓SBK, ↓SBK2, SX, Nat.reduceEqDiff, Nat.reduceAdd, Nat.reduceMul, Nat.reduceSub, ↓reduceIte, Int.reduceNeg, Int.reduceToNat, Int.reducePow, hmd, hks, hQ]
      (first | refine call_i hP (kP) (.inl ⟨rfl, fun _ hx => nomatch hx⟩) ?_ | refine callH_i hP (kP) (.inl ⟨rfl, fun _ hx => nomatch hx⟩) ?_)
      simp +decide (maxSteps := 20000000) (disch := omega) only [↓SBK, ↓SBK2, SX, Nat.reduceEqDiff, Nat.reduceAdd, Nat.reduceMul, Nat.reduceSub, ↓reduceIte, Int.reduceNeg, Int.reduceToNat, Int.reducePow, hmd, hks, hQ]
      (first | refine call_i hP (kE) (.inl ⟨rfl, fun _ hx => nomatch hx⟩) ?_ | refine callH_i hP (kE) (.inl ⟨rfl, fun _ hx => nomatch hx⟩) ?_)
      simp +decide (maxSteps := 20000000) (disch := omega) only [↓SBK, ↓SBK2, SX, Nat.reduceEqDiff, Nat.reduceAdd, Nat.reduceMul, Nat.reduceSub, ↓reduceIte, Int.reduceNeg, Int.reduceToNat, Int.reducePow, hmd, hks, hQ]
      (first | refine call_i hP (k2) (.inl ⟨rfl, fun _ hx => nomatch hx⟩) ?_ | refine callH_i hP (k2) (.inl ⟨rfl, fun _ hx => nomatch hx⟩) ?_)
      simp +decide (maxSteps := 20000000) (disch := omega) only [↓SBK, ↓SBK2, SX, Nat.reduceEqDiff, Nat.reduceAdd, Nat.reduceMul, Nat.reduceSub, ↓reduceIte, Int.reduceNeg, Int.reduceToNat, Int.reducePow, hmd, hks, hQ]
      (first | refine call_i hP (kN) (.inl ⟨rfl, fun _ hx => nomatch hx⟩) ?_ | refine callH_i hP (kN) (.inl ⟨rfl, fun _ hx => nomatch hx⟩) ?_)
      simp +decide (maxSteps := 20000000) (disch := omega) only [↓SBK, ↓SBK2, SX, Nat.reduceEqDiff, Nat.reduceAdd, Nat.reduceMul, Nat.reduceSub, ↓reduceIte, Int.reduceNeg, Int.reduceToNat, Int.reducePow, hmd, hks, hQ]
      (first | refine call_i hP (kF) (.inl ⟨rfl, fun _ hx => nomatch hx⟩) ?_ | refine callH_i hP (kF) (.inl ⟨rfl, fun _ hx => nomatch hx⟩) ?_)
      simp +decide (maxSteps := 20000000) (disch := omega) only [↓SBK, ↓SBK2, SX, Nat.reduceEqDiff, Nat.reduceAdd, Nat.reduceMul, Nat.reduceSub, ↓reduceIte, Int.reduceNeg, Int.reduceToNat, Int.reducePow, hmd, hks, hQ]
      (first | refine call_i hP (kFs) (.inl ⟨rfl, fun _ hx => nomatch hx⟩) ?_ | refine callH_i hP (kFs) (.inl ⟨rfl, fun _ hx => nomatch hx⟩) ?_)
      simp +decide (maxSteps := 20000000) (disch := omega) only [↓SBK, ↓SBK2, SX, Nat.reduceEqDiff, Nat.reduceAdd, Nat.reduceMul, Nat.reduceSub, ↓reduceIte, Int.reduceNeg, Int.reduceToNat, Int.reducePow, hmd, hks, hQ]
      (first | refine call_i hP (kO) (.inl ⟨rfl, fun _ hx => hx⟩) ?_ | refine callH_i hP (kO) (.inl ⟨rfl, fun _ hx => hx⟩) ?_)
      simp +decide (maxSteps := 20000000) (disch := omega) only [↓SBK, ↓SBK2, SX, Nat.reduceEqDiff, Nat.reduceAdd, Nat.reduceMul, Nat.reduceSub, ↓reduceIte, Int.reduceNeg, Int.reduceToNat, Int.reducePow, hmd, hks, hQ]
      (first | refine call_i hP (kOs) (.inl ⟨rfl, fun _ hx => hx⟩) ?_ | refine callH_i hP (kOs) (.inl ⟨rfl, fun _ hx => hx⟩) ?_)
      simp +decide (maxSteps := 20000000) (disch := omega) only [↓SBK, ↓SBK2, SX, Nat.reduceEqDiff, Nat.reduceAdd, Nat.reduceMul, Nat.reduceSub, ↓reduceIte, Int.reduceNeg, Int.reduceToNat, Int.reducePow, hmd, hks, hQ]
      (first | refine call_i hP (kNs) (.inl ⟨rfl, fun _ hx => hx⟩) ?_ | refine callH_i hP (kNs) (.inl ⟨rfl, fun _ hx => hx⟩) ?_)
      simp +decide (maxSteps := 20000000) (disch := omega) only [↓SBK, ↓SBK2, SX, Nat.reduceEqDiff, Nat.reduceAdd, Nat.reduceMul, Nat.reduceSub, ↓reduceIte, Int.reduceNeg, Int.reduceToNat, Int.reducePow, hmd, hks, hQ]
      (first | refine call_i hP (kO2) (.inl ⟨rfl, fun _ hx => hx⟩) ?_ | refine callH_i hP (kO2) (.inl ⟨rfl, fun _ hx => hx⟩) ?_)
      simp +decide (maxSteps := 20000000) (disch := omega) only [↓SBK, ↓SBK2, SX, Nat.reduceEqDiff, Nat.reduceAdd, Nat.reduceMul, Nat.reduceSub, ↓reduceIte, Int.reduceNeg, Int.reduceToNat, Int.reducePow, hmd, hks, hQ]
      (first | refine call_i hP (kOs) (.inl ⟨rfl, fun _ hx => nomatch hx⟩) ?_ | refine callH_i hP (kOs) (.inl ⟨rfl, fun _ hx => nomatch hx⟩) ?_)
      simp +decide (maxSteps := 20000000) (disch := omega) only [↓SBK, ↓SBK2, SX, Nat.reduceEqDiff, Nat.reduceAdd, Nat.reduceMul, Nat.reduceSub, ↓reduceIte, Int.reduceNeg, Int.reduceToNat, Int.reducePow, hmd, hks, hQ]
      (first | refine call_i hP (kC) (.inl ⟨rfl, fun _ hx => nomatch hx⟩) ?_ | refine callH_i hP (kC) (.inl ⟨rfl, fun _ hx => nomatch hx⟩) ?_)
      simp +decide (maxSteps := 20000000) (disch := omega) only [↓SBK, ↓SBK2, SX, Nat.reduceEqDiff, Nat.reduceAdd, Nat.reduceMul, Nat.reduceSub, ↓reduceIte, Int.reduceNeg, Int.reduceToNat, Int.reducePow, hmd, hks, hQ]
end Go.Proofs.Ytliklgcfdgdigaa.Awp

namespace Go.Proofs.Ytliklgcfdgdigaa.Awp
open Go.Proofs
set_option linter.unusedSimpArgs false
set_option linter.unusedVariables false

/-! ### what is read of an argument is a value of its type -/
theorem Shp.nil_inv {ts : List TV} (h : Shp [] ts) : ts = [] := by cases h; rfl
theorem Shp.sl_inv {s : Nat} {e ys : List Ty} {ts : List TV} (h : Shp (.sl s e :: ys) ts) : ∃ es us, ts = .sl s es :: us ∧ es.length ≤ 2 ^ 47 ∧ (∀ r ∈ es, Shp e r) ∧ Shp ys us := by
  cases h with | sl _ _ es _ us hl he h => exact ⟨es, us, rfl, hl, he, h⟩
theorem rows_ofShp {α : Type} {sh : List Ty} {row : α → List TV} {good : α → Prop} (H : ∀ ts, Shp sh ts → ∃ x, ts = row x ∧ good x) : ∀ {es : List (List TV)}, (∀ r ∈ es, Shp sh r) → ∃ l : List α, es = l.map row ∧ ∀ x ∈ l, good x := by
  intro es
  induction es with
  | nil => intro _; exact ⟨[], rfl, by simp⟩
  | cons r es ih =>
    intro h
    obtain ⟨x, rfl, hx⟩ := H r (h r (by simp))
    obtain ⟨l, rfl, hl⟩ := ih fun r hr => h r (by simp [hr])
    exact ⟨x :: l, rfl, fun y hy => by rcases List.mem_cons.1 hy with rfl | hy; exact hx; exact hl y hy⟩
theorem byte_ofShp (ts : List TV) (h : Shp [.int .u8] ts) : ∃ x : UInt8, ts = byteRow x ∧ True := by
  cases h with
  | int _ n _ us hn h =>
    cases h
    obtain ⟨h1, h2⟩ := bounds_u8 hn
    refine ⟨UInt8.ofNat n.toNat, ?_, trivial⟩
    have : (UInt8.ofNat n.toNat).toNat = n.toNat := by simp; omega
    simp only [byteRow, this]
    congr 2
    omega
theorem bytes_ofShp {es : List (List TV)} (h : ∀ r ∈ es, Shp [.int .u8] r) : ∃ b : Bytes, es = bytesR b := by
  obtain ⟨l, rfl, _⟩ := rows_ofShp byte_ofShp h
  exact ⟨l, rfl⟩
theorem len_ofb {b : Bytes} (h : (bytesR b).length ≤ 2 ^ 47) : b.length < 2 ^ 48 := Nat.lt_of_le_of_lt (by simpa [bytesR] using h) (by decide)
end Go.Proofs.Ytliklgcfdgdigaa.Awp

namespace Go.Proofs.Ytliklgcfdgdigaa.Awp
open Go.Proofs Go.Proofs.Ytliklgcfdgdigaa
set_option linter.unusedSimpArgs false
set_option linter.unusedVariables false
set_option maxRecDepth 100000

theorem own : ownKnob Try.prog.godebug = none := by kernel_rfl
/-- how the text of the program's start goes on -/
def ioTail : List Char := [Char.ofNat 97, Char.ofNat 116, Char.ofNat 32, Char.ofNat 108, Char.ofNat 111, Char.ofNat 111, Char.ofNat 112, Char.ofNat 46, Char.ofNat 101, Char.ofNat 120, Char.ofNat 97, Char.ofNat 109, Char.ofNat 112, Char.ofNat 108, Char.ofNat 101, Char.ofNat 47, Char.ofNat 103, Char.ofNat 48, Char.ofNat 48, Char.ofNat 50, Char.ofNat 56, Char.ofNat 53, Char.ofNat 47, Char.ofNat 108, Char.ofNat 97, Char.ofNat 119, Char.ofNat 115, Char.ofNat 46, Char.ofNat 70, Char.ofNat 110, Char.ofNat 69, Char.ofNat 120, Char.ofNat 97, Char.ofNat 99, Char.ofNat 116, Char.ofNat 82, Char.ofNat 101, Char.ofNat 99, Char.ofNat 79, Char.ofNat 107, Char.ofNat 32, Char.ofNat 108, Char.ofNat 111, Char.ofNat 111, Char.ofNat 112, Char.ofNat 46, Char.ofNat 101, Char.ofNat 120, Char.ofNat 97, Char.ofNat 109, Char.ofNat 112, Char.ofNat 108, Char.ofNat 101, Char.ofNat 47, Char.ofNat 103, Char.ofNat 48, Char.ofNat 48, Char.ofNat 50, Char.ofNat 56, Char.ofNat 53] ++ [Char.ofNat 47, Char.ofNat 108, Char.ofNat 97, Char.ofNat 119, Char.ofNat 115, Char.ofNat 46, Char.ofNat 70, Char.ofNat 110, Char.ofNat 69, Char.ofNat 120, Char.ofNat 97, Char.ofNat 99, Char.ofNat 116, Char.ofNat 67, Char.ofNat 104, Char.ofNat 97, Char.ofNat 110, Char.ofNat 103, Char.ofNat 101, Char.ofNat 115, Char.ofNat 32, Char.ofNat 108, Char.ofNat 111, Char.ofNat 111, Char.ofNat 112, Char.ofNat 46, Char.ofNat 101, Char.ofNat 120, Char.ofNat 97, Char.ofNat 109, Char.ofNat 112, Char.ofNat 108, Char.ofNat 101, Char.ofNat 47, Char.ofNat 103, Char.ofNat 48, Char.ofNat 48, Char.ofNat 50, Char.ofNat 56, Char.ofNat 53, Char.ofNat 47, Char.ofNat 108, Char.ofNat 97, Char.ofNat 119, Char.ofNat 115, Char.ofNat 46, Char.ofNat 70, Char.ofNat 110, Char.ofNat 69, Char.ofNat 120, Char.ofNat 97, Char.ofNat 99, Char.ofNat 116, Char.ofNat 80, Char.ofNat 117, Char.ofNat 116, Char.ofNat 79, Char.ofNat 112, Char.ofNat 32, Char.ofNat 108] ++ [Char.ofNat 111, Char.ofNat 111, Char.ofNat 112, Char.ofNat 46, Char.ofNat 101, Char.ofNat 120, Char.ofNat 97, Char.ofNat 109, Char.ofNat 112, Char.ofNat 108, Char.ofNat 101, Char.ofNat 47, Char.ofNat 103, Char.ofNat 48, Char.ofNat 48, Char.ofNat 50, Char.ofNat 56, Char.ofNat 53, Char.ofNat 47, Char.ofNat 108, Char.ofNat 97, Char.ofNat 119, Char.ofNat 115, Char.ofNat 46, Char.ofNat 70, Char.ofNat 110, Char.ofNat 69, Char.ofNat 120, Char.ofNat 97, Char.ofNat 99, Char.ofNat 116, Char.ofNat 67, Char.ofNat 104, Char.ofNat 105, Char.ofNat 112, Char.ofNat 78, Char.ofNat 101, Char.ofNat 119, Char.ofNat 32, Char.ofNat 108, Char.ofNat 111, Char.ofNat 111, Char.ofNat 112, Char.ofNat 46, Char.ofNat 101, Char.ofNat 120, Char.ofNat 97, Char.ofNat 109, Char.ofNat 112, Char.ofNat 108, Char.ofNat 101, Char.ofNat 47, Char.ofNat 103, Char.ofNat 48, Char.ofNat 48, Char.ofNat 50, Char.ofNat 56, Char.ofNat 53, Char.ofNat 47, Char.ofNat 108] ++ [Char.ofNat 97, Char.ofNat 119, Char.ofNat 115, Char.ofNat 46, Char.ofNat 70, Char.ofNat 110, Char.ofNat 69, Char.ofNat 120, Char.ofNat 97, Char.ofNat 99, Char.ofNat 116, Char.ofNat 80, Char.ofNat 117, Char.ofNat 116, Char.ofNat 82, Char.ofNat 101, Char.ofNat 99, Char.ofNat 32, Char.ofNat 108, Char.ofNat 111, Char.ofNat 111, Char.ofNat 112, Char.ofNat 46, Char.ofNat 101, Char.ofNat 120, Char.ofNat 97, Char.ofNat 109, Char.ofNat 112, Char.ofNat 108, Char.ofNat 101, Char.ofNat 47, Char.ofNat 103, Char.ofNat 48, Char.ofNat 48, Char.ofNat 50, Char.ofNat 56, Char.ofNat 53, Char.ofNat 47, Char.ofNat 108, Char.ofNat 97, Char.ofNat 119, Char.ofNat 115, Char.ofNat 46, Char.ofNat 70, Char.ofNat 110, Char.ofNat 69, Char.ofNat 120, Char.ofNat 97, Char.ofNat 99, Char.ofNat 116, Char.ofNat 87, Char.ofNat 111, Char.ofNat 114, Char.ofNat 110, Char.ofNat 79, Char.ofNat 102, Char.ofNat 32, Char.ofNat 108, Char.ofNat 111, Char.ofNat 111] ++ [Char.ofNat 112, Char.ofNat 46, Char.ofNat 101, Char.ofNat 120, Char.ofNat 97, Char.ofNat 109, Char.ofNat 112, Char.ofNat 108, Char.ofNat 101, Char.ofNat 47, Char.ofNat 103, Char.ofNat 48, Char.ofNat 48, Char.ofNat 50, Char.ofNat 56, Char.ofNat 53, Char.ofNat 47, Char.ofNat 108, Char.ofNat 97, Char.ofNat 119, Char.ofNat 115, Char.ofNat 46, Char.ofNat 70, Char.ofNat 110, Char.ofNat 69, Char.ofNat 120, Char.ofNat 97, Char.ofNat 99, Char.ofNat 116, Char.ofNat 71, Char.ofNat 101, Char.ofNat 116, Char.ofNat 79, Char.ofNat 112, Char.ofNat 32, Char.ofNat 108, Char.ofNat 111, Char.ofNat 111, Char.ofNat 112, Char.ofNat 46, Char.ofNat 101, Char.ofNat 120, Char.ofNat 97, Char.ofNat 109, Char.ofNat 112, Char.ofNat 108, Char.ofNat 101, Char.ofNat 47, Char.ofNat 103, Char.ofNat 48, Char.ofNat 48, Char.ofNat 50, Char.ofNat 56, Char.ofNat 53, Char.ofNat 47, Char.ofNat 108, Char.ofNat 97, Char.ofNat 119, Char.ofNat 115, Char.ofNat 46] ++ [Char.ofNat 70, Char.ofNat 110, Char.ofNat 69, Char.ofNat 120, Char.ofNat 97, Char.ofNat 99, Char.ofNat 116, Char.ofNat 78, Char.ofNat 101, Char.ofNat 120, Char.ofNat 116, Char.ofNat 80, Char.ofNat 97, Char.ofNat 103, Char.ofNat 101, Char.ofNat 32, Char.ofNat 108, Char.ofNat 111, Char.ofNat 111, Char.ofNat 112, Char.ofNat 46, Char.ofNat 101, Char.ofNat 120, Char.ofNat 97, Char.ofNat 109, Char.ofNat 112, Char.ofNat 108, Char.ofNat 101, Char.ofNat 47, Char.ofNat 103, Char.ofNat 48, Char.ofNat 48, Char.ofNat 50, Char.ofNat 56, Char.ofNat 53, Char.ofNat 47, Char.ofNat 108, Char.ofNat 97, Char.ofNat 119, Char.ofNat 115, Char.ofNat 46, Char.ofNat 70, Char.ofNat 110, Char.ofNat 69, Char.ofNat 120, Char.ofNat 97, Char.ofNat 99, Char.ofNat 116, Char.ofNat 67, Char.ofNat 104, Char.ofNat 105, Char.ofNat 112, Char.ofNat 79, Char.ofNat 107, Char.ofNat 32, Char.ofNat 108, Char.ofNat 111, Char.ofNat 111, Char.ofNat 112, Char.ofNat 46] ++ [Char.ofNat 101, Char.ofNat 120, Char.ofNat 97, Char.ofNat 109, Char.ofNat 112, Char.ofNat 108, Char.ofNat 101, Char.ofNat 47, Char.ofNat 103, Char.ofNat 48, Char.ofNat 48, Char.ofNat 50, Char.ofNat 56, Char.ofNat 53, Char.ofNat 47, Char.ofNat 108, Char.ofNat 97, Char.ofNat 119, Char.ofNat 115, Char.ofNat 46, Char.ofNat 70, Char.ofNat 110, Char.ofNat 82, Char.ofNat 101, Char.ofNat 99, Char.ofNat 115, Char.ofNat 32, Char.ofNat 108, Char.ofNat 111, Char.ofNat 111, Char.ofNat 112, Char.ofNat 46, Char.ofNat 101, Char.ofNat 120, Char.ofNat 97, Char.ofNat 109, Char.ofNat 112, Char.ofNat 108, Char.ofNat 101, Char.ofNat 47, Char.ofNat 103, Char.ofNat 48, Char.ofNat 48, Char.ofNat 50, Char.ofNat 56, Char.ofNat 53, Char.ofNat 47, Char.ofNat 108, Char.ofNat 97, Char.ofNat 119, Char.ofNat 115, Char.ofNat 46, Char.ofNat 70, Char.ofNat 110, Char.ofNat 69, Char.ofNat 120, Char.ofNat 97, Char.ofNat 99, Char.ofNat 116, Char.ofNat 82] ++ [Char.ofNat 101, Char.ofNat 97, Char.ofNat 100, Char.ofNat 80, Char.ofNat 97, Char.ofNat 103, Char.ofNat 101, Char.ofNat 32, Char.ofNat 108, Char.ofNat 111, Char.ofNat 111, Char.ofNat 112, Char.ofNat 46, Char.ofNat 101, Char.ofNat 120, Char.ofNat 97, Char.ofNat 109, Char.ofNat 112, Char.ofNat 108, Char.ofNat 101, Char.ofNat 47, Char.ofNat 103, Char.ofNat 48, Char.ofNat 48, Char.ofNat 50, Char.ofNat 56, Char.ofNat 53, Char.ofNat 47, Char.ofNat 108, Char.ofNat 97, Char.ofNat 119, Char.ofNat 115, Char.ofNat 46, Char.ofNat 70, Char.ofNat 110, Char.ofNat 78, Char.ofNat 101, Char.ofNat 119, Char.ofNat 67, Char.ofNat 104, Char.ofNat 105, Char.ofNat 112, Char.ofNat 115, Char.ofNat 32, Char.ofNat 108, Char.ofNat 111, Char.ofNat 111, Char.ofNat 112, Char.ofNat 46, Char.ofNat 101, Char.ofNat 120, Char.ofNat 97, Char.ofNat 109, Char.ofNat 112, Char.ofNat 108, Char.ofNat 101, Char.ofNat 47, Char.ofNat 103, Char.ofNat 48, Char.ofNat 48] ++ [Char.ofNat 50, Char.ofNat 56, Char.ofNat 53, Char.ofNat 47, Char.ofNat 108, Char.ofNat 97, Char.ofNat 119, Char.ofNat 115, Char.ofNat 46, Char.ofNat 70, Char.ofNat 110, Char.ofNat 73, Char.ofNat 110, Char.ofNat 84, Char.ofNat 117, Char.ofNat 114, Char.ofNat 110, Char.ofNat 32, Char.ofNat 108, Char.ofNat 111, Char.ofNat 111, Char.ofNat 112, Char.ofNat 46, Char.ofNat 101, Char.ofNat 120, Char.ofNat 97, Char.ofNat 109, Char.ofNat 112, Char.ofNat 108, Char.ofNat 101, Char.ofNat 47, Char.ofNat 103, Char.ofNat 48, Char.ofNat 48, Char.ofNat 50, Char.ofNat 56, Char.ofNat 53, Char.ofNat 47, Char.ofNat 108, Char.ofNat 97, Char.ofNat 119, Char.ofNat 115, Char.ofNat 46, Char.ofNat 70, Char.ofNat 110, Char.ofNat 69, Char.ofNat 120, Char.ofNat 97, Char.ofNat 99, Char.ofNat 116, Char.ofNat 71, Char.ofNat 101, Char.ofNat 116, Char.ofNat 82, Char.ofNat 101, Char.ofNat 99, Char.ofNat 32, Char.ofNat 108, Char.ofNat 111, Char.ofNat 111] ++ [Char.ofNat 112, Char.ofNat 46, Char.ofNat 101, Char.ofNat 120, Char.ofNat 97, Char.ofNat 109, Char.ofNat 112, Char.ofNat 108, Char.ofNat 101, Char.ofNat 47, Char.ofNat 103, Char.ofNat 48, Char.ofNat 48, Char.ofNat 50, Char.ofNat 56, Char.ofNat 53, Char.ofNat 47, Char.ofNat 108, Char.ofNat 97, Char.ofNat 119, Char.ofNat 115, Char.ofNat 46, Char.ofNat 70, Char.ofNat 110, Char.ofNat 69, Char.ofNat 120, Char.ofNat 97, Char.ofNat 99, Char.ofNat 116, Char.ofNat 70, Char.ofNat 97, Char.ofNat 117, Char.ofNat 108, Char.ofNat 116, Char.ofNat 65, Char.ofNat 116, Char.ofNat 32, Char.ofNat 108, Char.ofNat 111, Char.ofNat 111, Char.ofNat 112, Char.ofNat 46, Char.ofNat 101, Char.ofNat 120, Char.ofNat 97, Char.ofNat 109, Char.ofNat 112, Char.ofNat 108, Char.ofNat 101, Char.ofNat 47, Char.ofNat 103, Char.ofNat 48, Char.ofNat 48, Char.ofNat 50, Char.ofNat 56, Char.ofNat 53, Char.ofNat 47, Char.ofNat 108, Char.ofNat 97, Char.ofNat 119] ++ [Char.ofNat 115, Char.ofNat 46, Char.ofNat 70, Char.ofNat 110, Char.ofNat 69, Char.ofNat 114, Char.ofNat 97, Char.ofNat 115, Char.ofNat 101, Char.ofNat 100, Char.ofNat 32, Char.ofNat 108, Char.ofNat 111, Char.ofNat 111, Char.ofNat 112, Char.ofNat 46, Char.ofNat 101, Char.ofNat 120, Char.ofNat 97, Char.ofNat 109, Char.ofNat 112, Char.ofNat 108, Char.ofNat 101, Char.ofNat 47, Char.ofNat 103, Char.ofNat 48, Char.ofNat 48, Char.ofNat 50, Char.ofNat 56, Char.ofNat 53, Char.ofNat 47, Char.ofNat 108, Char.ofNat 97, Char.ofNat 119, Char.ofNat 115, Char.ofNat 46, Char.ofNat 70, Char.ofNat 110, Char.ofNat 67, Char.ofNat 104, Char.ofNat 105, Char.ofNat 112, Char.ofNat 115, Char.ofNat 32, Char.ofNat 108, Char.ofNat 111, Char.ofNat 111, Char.ofNat 112, Char.ofNat 46, Char.ofNat 101, Char.ofNat 120, Char.ofNat 97, Char.ofNat 109, Char.ofNat 112, Char.ofNat 108, Char.ofNat 101, Char.ofNat 47, Char.ofNat 103, Char.ofNat 48, Char.ofNat 48] ++ [Char.ofNat 50, Char.ofNat 56, Char.ofNat 53, Char.ofNat 47, Char.ofNat 108, Char.ofNat 97, Char.ofNat 119, Char.ofNat 115, Char.ofNat 46, Char.ofNat 70, Char.ofNat 110, Char.ofNat 82, Char.ofNat 101, Char.ofNat 99, Char.ofNat 115, Char.ofNat 82, Char.ofNat 101, Char.ofNat 97, Char.ofNat 100, Char.ofNat 32, Char.ofNat 108, Char.ofNat 111, Char.ofNat 111, Char.ofNat 112, Char.ofNat 46, Char.ofNat 101, Char.ofNat 120, Char.ofNat 97, Char.ofNat 109, Char.ofNat 112, Char.ofNat 108, Char.ofNat 101, Char.ofNat 47, Char.ofNat 103, Char.ofNat 48, Char.ofNat 48, Char.ofNat 50, Char.ofNat 56, Char.ofNat 53, Char.ofNat 47, Char.ofNat 108, Char.ofNat 97, Char.ofNat 119, Char.ofNat 115, Char.ofNat 46, Char.ofNat 70, Char.ofNat 110, Char.ofNat 69, Char.ofNat 120, Char.ofNat 97, Char.ofNat 99, Char.ofNat 116, Char.ofNat 68, Char.ofNat 101, Char.ofNat 118, Char.ofNat 79, Char.ofNat 107, Char.ofNat 32, Char.ofNat 108, Char.ofNat 111] ++ [Char.ofNat 111, Char.ofNat 112, Char.ofNat 46, Char.ofNat 101, Char.ofNat 120, Char.ofNat 97, Char.ofNat 109, Char.ofNat 112, Char.ofNat 108, Char.ofNat 101, Char.ofNat 47, Char.ofNat 103, Char.ofNat 48, Char.ofNat 48, Char.ofNat 50, Char.ofNat 56, Char.ofNat 53, Char.ofNat 47, Char.ofNat 108, Char.ofNat 97, Char.ofNat 119, Char.ofNat 115, Char.ofNat 46, Char.ofNat 70, Char.ofNat 110, Char.ofNat 69, Char.ofNat 120, Char.ofNat 97, Char.ofNat 99, Char.ofNat 116, Char.ofNat 70, Char.ofNat 114, Char.ofNat 101, Char.ofNat 101, Char.ofNat 66, Char.ofNat 108, Char.ofNat 111, Char.ofNat 99, Char.ofNat 107, Char.ofNat 115, Char.ofNat 32, Char.ofNat 108, Char.ofNat 111, Char.ofNat 111, Char.ofNat 112, Char.ofNat 46, Char.ofNat 101, Char.ofNat 120, Char.ofNat 97, Char.ofNat 109, Char.ofNat 112, Char.ofNat 108, Char.ofNat 101, Char.ofNat 47, Char.ofNat 103, Char.ofNat 48, Char.ofNat 48, Char.ofNat 50, Char.ofNat 56, Char.ofNat 53] ++ [Char.ofNat 47, Char.ofNat 108, Char.ofNat 97, Char.ofNat 119, Char.ofNat 115, Char.ofNat 46, Char.ofNat 70, Char.ofNat 110, Char.ofNat 69, Char.ofNat 120, Char.ofNat 97, Char.ofNat 99, Char.ofNat 116, Char.ofNat 68, Char.ofNat 101, Char.ofNat 118, Char.ofNat 78, Char.ofNat 101, Char.ofNat 119, Char.ofNat 32, Char.ofNat 108, Char.ofNat 111, Char.ofNat 111, Char.ofNat 112, Char.ofNat 46, Char.ofNat 101, Char.ofNat 120, Char.ofNat 97, Char.ofNat 109, Char.ofNat 112, Char.ofNat 108, Char.ofNat 101, Char.ofNat 47, Char.ofNat 103, Char.ofNat 48, Char.ofNat 48, Char.ofNat 50, Char.ofNat 56, Char.ofNat 53, Char.ofNat 47, Char.ofNat 108, Char.ofNat 97, Char.ofNat 119, Char.ofNat 115, Char.ofNat 46, Char.ofNat 70, Char.ofNat 110, Char.ofNat 69, Char.ofNat 120, Char.ofNat 97, Char.ofNat 99, Char.ofNat 116, Char.ofNat 69, Char.ofNat 114, Char.ofNat 97, Char.ofNat 115, Char.ofNat 101, Char.ofNat 32, Char.ofNat 108, Char.ofNat 111] ++ [Char.ofNat 111, Char.ofNat 112, Char.ofNat 46, Char.ofNat 101, Char.ofNat 120, Char.ofNat 97, Char.ofNat 109, Char.ofNat 112, Char.ofNat 108, Char.ofNat 101, Char.ofNat 47, Char.ofNat 103, Char.ofNat 48, Char.ofNat 48, Char.ofNat 50, Char.ofNat 56, Char.ofNat 53, Char.ofNat 47, Char.ofNat 108, Char.ofNat 97, Char.ofNat 119, Char.ofNat 115, Char.ofNat 46, Char.ofNat 70, Char.ofNat 110, Char.ofNat 69, Char.ofNat 120, Char.ofNat 97, Char.ofNat 99, Char.ofNat 116, Char.ofNat 80, Char.ofNat 114, Char.ofNat 111, Char.ofNat 103, Char.ofNat 114, Char.ofNat 97, Char.ofNat 109, Char.ofNat 32, Char.ofNat 108, Char.ofNat 111, Char.ofNat 111, Char.ofNat 112, Char.ofNat 46, Char.ofNat 101, Char.ofNat 120, Char.ofNat 97, Char.ofNat 109, Char.ofNat 112, Char.ofNat 108, Char.ofNat 101, Char.ofNat 47, Char.ofNat 103, Char.ofNat 48, Char.ofNat 48, Char.ofNat 50, Char.ofNat 56, Char.ofNat 53, Char.ofNat 47, Char.ofNat 108, Char.ofNat 97] ++ [Char.ofNat 119, Char.ofNat 115, Char.ofNat 46, Char.ofNat 70, Char.ofNat 110, Char.ofNat 69, Char.ofNat 120, Char.ofNat 97, Char.ofNat 99, Char.ofNat 116, Char.ofNat 80, Char.ofNat 111, Char.ofNat 119, Char.ofNat 101, Char.ofNat 114, Char.ofNat 85, Char.ofNat 112, Char.ofNat 32, Char.ofNat 108, Char.ofNat 111, Char.ofNat 111, Char.ofNat 112, Char.ofNat 46, Char.ofNat 101, Char.ofNat 120, Char.ofNat 97, Char.ofNat 109, Char.ofNat 112, Char.ofNat 108, Char.ofNat 101, Char.ofNat 47, Char.ofNat 103, Char.ofNat 48, Char.ofNat 48, Char.ofNat 50, Char.ofNat 56, Char.ofNat 53, Char.ofNat 47, Char.ofNat 108, Char.ofNat 97, Char.ofNat 119, Char.ofNat 115, Char.ofNat 46, Char.ofNat 70, Char.ofNat 110, Char.ofNat 68, Char.ofNat 101, Char.ofNat 118, Char.ofNat 115, Char.ofNat 32, Char.ofNat 108, Char.ofNat 111, Char.ofNat 111, Char.ofNat 112, Char.ofNat 46, Char.ofNat 101, Char.ofNat 120, Char.ofNat 97, Char.ofNat 109, Char.ofNat 112] ++ [Char.ofNat 108, Char.ofNat 101, Char.ofNat 47, Char.ofNat 103, Char.ofNat 48, Char.ofNat 48, Char.ofNat 50, Char.ofNat 56, Char.ofNat 53, Char.ofNat 47, Char.ofNat 108, Char.ofNat 97, Char.ofNat 119, Char.ofNat 115, Char.ofNat 46, Char.ofNat 70, Char.ofNat 110, Char.ofNat 68, Char.ofNat 101, Char.ofNat 118, Char.ofNat 69, Char.ofNat 114, Char.ofNat 97, Char.ofNat 115, Char.ofNat 101, Char.ofNat 100, Char.ofNat 32, Char.ofNat 108, Char.ofNat 111, Char.ofNat 111, Char.ofNat 112, Char.ofNat 46, Char.ofNat 101, Char.ofNat 120, Char.ofNat 97, Char.ofNat 109, Char.ofNat 112, Char.ofNat 108, Char.ofNat 101, Char.ofNat 47, Char.ofNat 103, Char.ofNat 48, Char.ofNat 48, Char.ofNat 50, Char.ofNat 56, Char.ofNat 53, Char.ofNat 47, Char.ofNat 108, Char.ofNat 97, Char.ofNat 119, Char.ofNat 115, Char.ofNat 46, Char.ofNat 70, Char.ofNat 110, Char.ofNat 80, Char.ofNat 111, Char.ofNat 119, Char.ofNat 101, Char.ofNat 114, Char.ofNat 115] ++ [Char.ofNat 32, Char.ofNat 108, Char.ofNat 111, Char.ofNat 111, Char.ofNat 112, Char.ofNat 46, Char.ofNat 101, Char.ofNat 120, Char.ofNat 97, Char.ofNat 109, Char.ofNat 112, Char.ofNat 108, Char.ofNat 101, Char.ofNat 47, Char.ofNat 103, Char.ofNat 48, Char.ofNat 48, Char.ofNat 50, Char.ofNat 56, Char.ofNat 53, Char.ofNat 47, Char.ofNat 108, Char.ofNat 97, Char.ofNat 119, Char.ofNat 115, Char.ofNat 46, Char.ofNat 70, Char.ofNat 110, Char.ofNat 69, Char.ofNat 120, Char.ofNat 97, Char.ofNat 99, Char.ofNat 116, Char.ofNat 68, Char.ofNat 101, Char.ofNat 118, Char.ofNat 69, Char.ofNat 114, Char.ofNat 97, Char.ofNat 115, Char.ofNat 101, Char.ofNat 32, Char.ofNat 108, Char.ofNat 111, Char.ofNat 111, Char.ofNat 112, Char.ofNat 46, Char.ofNat 101, Char.ofNat 120, Char.ofNat 97, Char.ofNat 109, Char.ofNat 112, Char.ofNat 108, Char.ofNat 101, Char.ofNat 47, Char.ofNat 103, Char.ofNat 48, Char.ofNat 48, Char.ofNat 50, Char.ofNat 56] ++ [Char.ofNat 53, Char.ofNat 47, Char.ofNat 108, Char.ofNat 97, Char.ofNat 119, Char.ofNat 115, Char.ofNat 46, Char.ofNat 70, Char.ofNat 110, Char.ofNat 69, Char.ofNat 120, Char.ofNat 97, Char.ofNat 99, Char.ofNat 116, Char.ofNat 68, Char.ofNat 101, Char.ofNat 118, Char.ofNat 80, Char.ofNat 114, Char.ofNat 111, Char.ofNat 103, Char.ofNat 114, Char.ofNat 97, Char.ofNat 109]
def ioSum : List Char := [Char.ofNat 98, Char.ofNat 51, Char.ofNat 102, Char.ofNat 55, Char.ofNat 99, Char.ofNat 48, Char.ofNat 100, Char.ofNat 99, Char.ofNat 52, Char.ofNat 51, Char.ofNat 51, Char.ofNat 102, Char.ofNat 99, Char.ofNat 98, Char.ofNat 52, Char.ofNat 55, Char.ofNat 53, Char.ofNat 52, Char.ofNat 55, Char.ofNat 49, Char.ofNat 102, Char.ofNat 53, Char.ofNat 56, Char.ofNat 48, Char.ofNat 101, Char.ofNat 102, Char.ofNat 54, Char.ofNat 97, Char.ofNat 99, Char.ofNat 57, Char.ofNat 54, Char.ofNat 49, Char.ofNat 100, Char.ofNat 51, Char.ofNat 97, Char.ofNat 55, Char.ofNat 99, Char.ofNat 57, Char.ofNat 57, Char.ofNat 53, Char.ofNat 49, Char.ofNat 100, Char.ofNat 100, Char.ofNat 49, Char.ofNat 51, Char.ofNat 52, Char.ofNat 101, Char.ofNat 102, Char.ofNat 98, Char.ofNat 98, Char.ofNat 99, Char.ofNat 56, Char.ofNat 53, Char.ofNat 98, Char.ofNat 99, Char.ofNat 53, Char.ofNat 49, Char.ofNat 48, Char.ofNat 52, Char.ofNat 48, Char.ofNat 48, Char.ofNat 100, Char.ofNat 97, Char.ofNat 98]
theorem ioText : Try.prog.initOrder = String.ofList ([Char.ofNat 104, Char.ofNat 97, Char.ofNat 114, Char.ofNat 110, Char.ofNat 101, Char.ofNat 115, Char.ofNat 115] ++ (Char.ofNat 32 :: ioSum) ++ [Char.ofNat 32, Char.ofNat 99, Char.ofNat 117, Char.ofNat 116, Char.ofNat 32] ++ ioTail) := by kernel_rfl
theorem ioWords : ∃ r, behindMainWord (wordsSigns Try.prog.initOrder.toList) = [Char.ofNat 99, Char.ofNat 117, Char.ofNat 116] :: r := by
  rw [ioText, String.toList_ofList]
  exact ⟨wordsSigns ioTail, by kernel_rfl⟩
theorem f_laid : (laidOutB Try.prog) = true := by kernel_rfl
theorem f_maps : (mapsRowed Try.prog) = true := by kernel_rfl
theorem f_stops : ((Try.prog.stops == [])) = true := by kernel_rfl
theorem f_knobs : ((Try.prog.stopKnobs == [])) = true := by kernel_rfl
theorem f_heard : (Try.prog.stopsHeard) = true := by kernel_rfl
theorem f_enter : (Try.prog.mayEnter) = true := by
  obtain ⟨r, hr⟩ := ioWords
  exact enter_of hr (by kernel_rfl) (by kernel_rfl) (by kernel_rfl)
theorem f_lifts : (false == Try.prog.liftsFinal) = true := by
  obtain ⟨r, hr⟩ := ioWords
  rw [lifts_of hr]
  rfl
theorem f_make : (Try.prog.make == some .cut) = true := by
  obtain ⟨r, hr⟩ := ioWords
  rw [make_of hr]
  rfl
end Go.Proofs.Ytliklgcfdgdigaa.Awp

namespace Go.Proofs.Ytliklgcfdgdigaa.Awp
open Go.Proofs Go.Proofs.Ytliklgcfdgdigaa
set_option linter.unusedSimpArgs false
set_option linter.unusedVariables false
set_option maxRecDepth 100000

theorem j0_FnPowers : (Rows.fnPowersRow.wf (OpenSpec.ofChange Rows.fnPowersSpec)) = true := by kernel_rfl
theorem j3_FnPowers : (Try.f29.params.all (Try.prog.readableRec ·)) = true := by kernel_rfl
theorem j4_FnPowers : (namedTie Try.prog Rows.fnPowersRow.named Rows.fnPowersSpec.vars) = true := by kernel_rfl
theorem j5_FnPowers : ((Rows.fnPowersRow.stops == [])) = true := by kernel_rfl
theorem j7_FnPowers : ((Rows.fnPowersRow.knobs == [])) = true := by kernel_rfl
theorem j9_FnPowers : ((Rows.fnPowersRow.inPlace == Try.prog.inPlace 29)) = true := by kernel_rfl
theorem j10_FnPowers : ((Rows.fnPowersRow.unfollowed == Try.prog.unfollowed 29)) = true := by kernel_rfl
theorem j11_FnPowers : ((Rows.fnPowersRow.recurses == Try.prog.recurses 29)) = true := by kernel_rfl
theorem j12_FnPowers : ((Rows.fnPowersRow.named == Try.prog.varsNamed 29)) = true := by kernel_rfl
theorem j13_FnPowers : ((Rows.fnPowersRow.maps == (Try.f29.params.toList ++ Rows.fnPowersSpec.plain.varTypes Try.prog).any (Try.prog.mapsRec ·))) = true := by kernel_rfl
theorem j14_FnPowers : ((Rows.fnPowersRow.ifaces == (Try.f29.params.toList ++ Rows.fnPowersSpec.plain.varTypes Try.prog).any (Try.prog.ifacesRec ·))) = true := by kernel_rfl
theorem j15_FnPowers : ((Rows.fnPowersRow.mapsOut == Try.prog.mapsAmong Try.f29.resultTypes.toList)) = true := by kernel_rfl
theorem j16_FnPowers : ((Rows.fnPowersRow.loops == (Try.f29.params.toList ++ Rows.fnPowersSpec.plain.varTypes Try.prog).any (Try.prog.loopsFrom ·))) = true := by kernel_rfl
theorem j17_FnPowers : ((Rows.fnPowersRow.wideKeys == (Try.f29.params.toList ++ Rows.fnPowersSpec.plain.varTypes Try.prog ++ Try.f29.resultTypes.toList).any (Try.prog.wideKeysFrom ·))) = true := by kernel_rfl
theorem j18_FnPowers : (Rows.fnPowersSpec.vars.all (Try.prog.varReadable ·)) = true := by kernel_rfl
theorem j19_FnPowers : (Try.f29.resultTypes.all (fun t => Try.prog.readableRec t && decide (t < Try.prog.types.size))) = true := by kernel_rfl
theorem j20_FnPowers : ((Rows.fnPowersRow.ifacesOut == Try.f29.resultTypes.toList.any (Try.prog.ifacesRec ·))) = true := by kernel_rfl
theorem j21_FnPowers : ((Rows.fnPowersRow.loopsOut == Try.f29.resultTypes.toList.any (Try.prog.loopsFrom ·))) = true := by kernel_rfl
theorem j22_FnPowers : ((Rows.fnPowersRow.plainKeys == Try.prog.plainKeys)) = true := by kernel_rfl
theorem j23_FnPowers : (Rows.fnPowersRow.shortTexts.isNone) = true := by kernel_rfl
theorem j28_FnPowers : ((Rows.fnPowersRow.kinds == (if Rows.fnPowersRow.domain.isEmpty then [] else Try.f29.params.toList.map fun t => match Try.prog.underlying t with | some (.int k) => some k | _ => none))) = true := by kernel_rfl
theorem j29_FnPowers : ((Rows.fnPowersRow.pinned == Rows.fnPowersRow.pinnedBy)) = true := by kernel_rfl
theorem j30_FnPowers : ((Rows.fnPowersRow.veiled == (Try.f29.params.toList ++ Rows.fnPowersSpec.plain.varTypes Try.prog ++ Try.f29.resultTypes.toList).any (Try.prog.veiledRec ·))) = true := by kernel_rfl
theorem j31_FnPowers : (Rows.fnPowersRow.veiledFits Try.prog Try.f29.params.toList (Try.f29.params.toList ++ Rows.fnPowersSpec.plain.varTypes Try.prog ++ Try.f29.resultTypes.toList)) = true := by kernel_rfl
theorem jf_FnPowers : joinedFacts Try.prog 29 Try.f29 Rows.fnPowersSpec Rows.fnPowersRow = true :=
  joined_of j0_FnPowers f_laid f_maps j3_FnPowers j4_FnPowers j5_FnPowers f_stops j7_FnPowers f_knobs j9_FnPowers j10_FnPowers j11_FnPowers j12_FnPowers j13_FnPowers j14_FnPowers j15_FnPowers j16_FnPowers j17_FnPowers j18_FnPowers j19_FnPowers j20_FnPowers j21_FnPowers j22_FnPowers j23_FnPowers f_heard f_enter f_lifts f_make j28_FnPowers j29_FnPowers j30_FnPowers j31_FnPowers

theorem lift_FnPowers (os : Os) (started : os.Started) (H : Type) (enc : TypeId × Value → H) :
    ReturnsInHanded {} Try.checked os 29 .any (Rows.fnPowersSpec.pre6 enc Try.prog Try.f29 Rows.fnPowersRow.domain false) (Rows.fnPowersSpec.post enc Try.prog Try.f29 false true false false) := by
  refine law_returns (C := Try.checked) (pars := [(false, [.sl 1 [.int .u8]])]) own started (by kernel_rfl) Try.func29
    (ChangeSpec.witness6 (enc := enc) (C := Try.checked) false ⟨#[], #[.slice none 0 0], []⟩ 8 (by kernel_rfl) (by kernel_rfl) (by kernel_rfl) (by kernel_rfl))
    rfl (by kernel_rfl) rfl (by kernel_rfl) ?_ ?_
  · intro ds hd
    match ds, hd with
    | [d0], _ => rfl
  · intro tss h
    match tss, h with
    | [t0], ⟨h0, _⟩ =>
      obtain ⟨r0, u0, rfl, l0, e0, k0⟩ := Shp.sl_inv h0
      obtain rfl := Shp.nil_inv k0
      obtain ⟨b, rfl⟩ := bytes_ofShp e0
      exact ⟨_, s_FnPowers b (len_ofb l0)⟩

theorem hw_FnPowers : Try.f29.isWrapper Try.prog Rows.fnPowersRow.wrapper Rows.fnPowersRow.mainSum := by
  unfold Func.isWrapper; first | (rw [if_pos (by decide +kernel)]; kernel_rfl) | (rw [if_neg (by decide +kernel)]; exact ⟨rfl, rfl⟩)

theorem law_FnPowers : Rows.FnPowersSaid :=
  OpenClaim.holds_of_wide 29 Try.f29 rfl rfl rfl rfl rfl rfl rfl ⟨rfl, rfl, rfl, rfl, rfl⟩ rfl rfl rfl rfl rfl (by kernel_rfl) Try.func29 jf_FnPowers
    (of_decide_eq_true (by kernel_rfl)) hw_FnPowers
    (fun os started H enc _ => lift_FnPowers os started H enc)
end Go.Proofs.Ytliklgcfdgdigaa.Awp

namespace Go.Proofs.Ytliklgcfdgdigaa
/-- the given statement -/
theorem provedFnPowers : Rows.FnPowersSaid := Awp.law_FnPowers
end Go.Proofs.Ytliklgcfdgdigaa
#print axioms Go.Proofs.Ytliklgcfdgdigaa.provedFnPowers
