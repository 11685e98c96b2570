/- The law FnExactErase (the program's Erase returns what the reference's Erase returns, for all arguments) holds for every argument: the given statement FnExactEraseSaid is proved. Condition: none. -/
import Derived.Test.YtliklgcfdgdigaaFnExactEraseX1
import Derived.Test.YtliklgcfdgdigaaAwp4
import Derived.Test.YtliklgcfdgdigaaRows
import Derived.OpenShut
import Derived.KernelRfl
namespace Go.Proofs.Ytliklgcfdgdigaa.Awp
open Go.Proofs
set_option linter.unusedSimpArgs false
set_option linter.unusedVariables false
set_option maxRecDepth 100000
set_option maxHeartbeats 20000000

theorem sum_modify {α : Type} (f : α → Nat) (h : α → α) (K : Nat) (hK : ∀ x, f (h x) ≤ K) : ∀ (l : List α) (i : Nat), ((l.modify i h).map f).sum ≤ (l.map f).sum + K := by
  intro l
  induction l with
  | nil => intro i; simp
  | cons x l ih =>
    intro i
    cases i with
    | zero => simp only [List.modify_zero_cons, List.map_cons, List.sum_cons]; have := hK x; omega
    | succ i => simp only [List.modify_succ_cons, List.map_cons, List.sum_cons]; have := ih i; omega
theorem erB_sz (b : Block) : Block.sz (erB b) = 8 := by
  unfold erB Block.sz szM
  rfl
theorem eraseC_sz (c : Chip) (k : Int) : (eraseC c k).sz ≤ c.sz + 8 := by
  by_cases h : eraseCode c k = 0
  · rw [eraseC, if_pos h]
    have := sum_modify Block.sz erB 8 (fun b => Nat.le_of_eq (erB_sz b)) c.blocks k.toNat
    have e1 : Chip.sz { blocks := c.blocks.modify k.toNat erB } = (c.blocks.modify k.toNat erB).length + ((c.blocks.modify k.toNat erB).map Block.sz).sum := rfl
    have e2 : c.sz = c.blocks.length + (c.blocks.map Block.sz).sum := rfl
    rw [e1, e2, List.length_modify]
    omega
  · rw [eraseC, if_neg h]
    omega
theorem s_FnExactErase (r : Chip) (i : Int) (hf : r.fine) : Spec Try.prog 24 [r.x, .int .i64 i] (.bool true) [.undef, .undef] := by
  by_cases hz : (1048576 : Int) < (r.sz : Nat)
  · refine spec_C hmx p_L_FnExactErase [] 65527 [] ⟨Nat.le_of_ble_eq_true rfl, Nat.le_of_ble_eq_true rfl⟩ rfl rfl ?_
    intro w hP hmd hks hQ
    unfold c_L_FnExactErase
    simp +decide (maxSteps := 20000000) (disch := omega) only [↓SBK, ↓SBK2, SAU, SGs, SD, S1, S2, S3, SE, SC, SO, ST, SF, SK, bytes_len, bytes_get, Nat.reduceEqDiff, Nat.reduceAdd, Nat.reduceMul, Nat.reduceSub, ↓reduceIte, Int.reduceNeg, Int.reduceToNat, hmd, hks, Bool.beq_eq_decide_eq, Int.natCast_zero, Int.add_zero, ge_iff_le, gt_iff_lt, Option.isNone_none, Option.isNone_some, List.nil_append, List.append_nil, Bool.and_true, Bool.and_self, SB, Int.reducePow, hQ]
    (first | refine call_i hP (s_szChip r 1048576 hf (by omega) (by omega)) (.inl ⟨rfl, fun _ hx => nomatch hx⟩) ?_ | refine callH_i hP (s_szChip r 1048576 hf (by omega) (by omega)) (.inl ⟨rfl, fun _ hx => nomatch hx⟩) ?_)
    simp +decide (maxSteps := 20000000) (disch := omega) only [↓SBK, ↓SBK2, SAU, SGs, SD, S1, S2, S3, SE, SC, SO, ST, SF, SK, bytes_len, bytes_get, Nat.reduceEqDiff, Nat.reduceAdd, Nat.reduceMul, Nat.reduceSub, ↓reduceIte, Int.reduceNeg, Int.reduceToNat, hmd, hks, Bool.beq_eq_decide_eq, Int.natCast_zero, Int.add_zero, ge_iff_le, gt_iff_lt, Option.isNone_none, Option.isNone_some, List.nil_append, List.append_nil, Bool.and_true, Bool.and_self, SB, Int.reducePow, hQ, szC_lt hz]
  · have hs : r.sz < 2 ^ 40 := by omega
    have hp := eraseC_sz r i
    have hs' : (eraseC r i).sz < 2 ^ 40 := by omega
    have hd : r.cntT < 2 ^ 38 := by have := chip_cnt r; omega
    have hd' : (eraseC r i).cntT < 2 ^ 38 := by have := chip_cnt (eraseC r i); omega
    have g0 : decide (1 + ((r.cntT : Nat) : Int) < 0) = false := decide_eq_false (by omega)
    have g1 : decide (1 + (((eraseC r i).cntT : Nat) : Int) < 0) = false := decide_eq_false (by omega)
    have hS := sS_Erase r i hf hs
    have hI := sI_Erase r i hf hs
    generalize eraseC r i = C' at *
    generalize eraseCode r i = x at *
    refine spec_C hmx p_L_FnExactErase [(51, [.p, .b])] 65527 [] ⟨Nat.le_of_ble_eq_true rfl, Nat.le_of_ble_eq_true rfl⟩ rfl rfl ?_
    intro w hP hmd hks hQ
    unfold c_L_FnExactErase
    simp +decide (maxSteps := 20000000) (disch := omega) only [↓SBK, ↓SBK2, SAU, SGs, SD, S1, S2, S3, SE, SC, SO, ST, SF, SK, bytes_len, bytes_get, Nat.reduceEqDiff, Nat.reduceAdd, Nat.reduceMul, Nat.reduceSub, ↓reduceIte, Int.reduceNeg, Int.reduceToNat, hmd, hks, Bool.beq_eq_decide_eq, Int.natCast_zero, Int.add_zero, ge_iff_le, gt_iff_lt, Option.isNone_none, Option.isNone_some, List.nil_append, List.append_nil, Bool.and_true, Bool.and_self, SB, Int.reducePow, hQ]
    (first | refine call_i hP (s_szChip r 1048576 hf (by omega) (by omega)) (.inl ⟨rfl, fun _ hx => nomatch hx⟩) ?_ | refine callH_i hP (s_szChip r 1048576 hf (by omega) (by omega)) (.inl ⟨rfl, fun _ hx => nomatch hx⟩) ?_)
    simp +decide (maxSteps := 20000000) (disch := omega) only [↓SBK, ↓SBK2, SAU, SGs, SD, S1, S2, S3, SE, SC, SO, ST, SF, SK, bytes_len, bytes_get, Nat.reduceEqDiff, Nat.reduceAdd, Nat.reduceMul, Nat.reduceSub, ↓reduceIte, Int.reduceNeg, Int.reduceToNat, hmd, hks, Bool.beq_eq_decide_eq, Int.natCast_zero, Int.add_zero, ge_iff_le, gt_iff_lt, Option.isNone_none, Option.isNone_some, List.nil_append, List.append_nil, Bool.and_true, Bool.and_self, SB, Int.reducePow, hQ, szC_ge hz]
    (first | with_reducible refine if_d _ ?_ ?_ | refine if_i _ ?_ ?_) <;> intro h
    · exfalso; omega
    simp +decide (maxSteps := 20000000) (disch := omega) only [↓SBK, ↓SBK2, SAU, SGs, SD, S1, S2, S3, SE, SC, SO, ST, SF, SK, bytes_len, bytes_get, Nat.reduceEqDiff, Nat.reduceAdd, Nat.reduceMul, Nat.reduceSub, ↓reduceIte, Int.reduceNeg, Int.reduceToNat, hmd, hks, Bool.beq_eq_decide_eq, Int.natCast_zero, Int.add_zero, ge_iff_le, gt_iff_lt, Option.isNone_none, Option.isNone_some, List.nil_append, List.append_nil, Bool.and_true, Bool.and_self, SB, Int.reducePow, hQ]
    (first | refine call_i hP (s_toChip r hs) (.inl ⟨rfl, fun _ hx => nomatch hx⟩) ?_ | refine callH_i hP (s_toChip r hs) (.inl ⟨rfl, fun _ hx => nomatch hx⟩) ?_)
    simp +decide (maxSteps := 20000000) (disch := omega) only [↓SBK, ↓SBK2, SAU, SGs, SD, S1, S2, S3, SE, SC, SO, ST, SF, SK, bytes_len, bytes_get, Nat.reduceEqDiff, Nat.reduceAdd, Nat.reduceMul, Nat.reduceSub, ↓reduceIte, Int.reduceNeg, Int.reduceToNat, hmd, hks, Bool.beq_eq_decide_eq, Int.natCast_zero, Int.add_zero, ge_iff_le, gt_iff_lt, Option.isNone_none, Option.isNone_some, List.nil_append, List.append_nil, Bool.and_true, Bool.and_self, SB, Int.reducePow, hQ]
    (first | refine call_i hP (hS) (.inl ⟨rfl, fun _ hx => nomatch hx⟩) ?_ | refine callH_i hP (hS) (.inl ⟨rfl, fun _ hx => nomatch hx⟩) ?_)
    simp +decide (maxSteps := 20000000) (disch := omega) only [↓SBK, ↓SBK2, SAU, SGs, SD, S1, S2, S3, SE, SC, SO, ST, SF, SK, bytes_len, bytes_get, Nat.reduceEqDiff, Nat.reduceAdd, Nat.reduceMul, Nat.reduceSub, ↓reduceIte, Int.reduceNeg, Int.reduceToNat, hmd, hks, Bool.beq_eq_decide_eq, Int.natCast_zero, Int.add_zero, ge_iff_le, gt_iff_lt, Option.isNone_none, Option.isNone_some, List.nil_append, List.append_nil, Bool.and_true, Bool.and_self, SB, Int.reducePow, hQ]
    (first | refine call_i hP (s_toChip r hs) (.inl ⟨rfl, fun _ hx => nomatch hx⟩) ?_ | refine callH_i hP (s_toChip r hs) (.inl ⟨rfl, fun _ hx => nomatch hx⟩) ?_)
    simp +decide (maxSteps := 20000000) (disch := omega) only [↓SBK, ↓SBK2, SAU, SGs, SD, S1, S2, S3, SE, SC, SO, ST, SF, SK, bytes_len, bytes_get, Nat.reduceEqDiff, Nat.reduceAdd, Nat.reduceMul, Nat.reduceSub, ↓reduceIte, Int.reduceNeg, Int.reduceToNat, hmd, hks, Bool.beq_eq_decide_eq, Int.natCast_zero, Int.add_zero, ge_iff_le, gt_iff_lt, Option.isNone_none, Option.isNone_some, List.nil_append, List.append_nil, Bool.and_true, Bool.and_self, SB, Int.reducePow, hQ]
    (first | refine call_i hP (hI) (.inl ⟨rfl, fun _ hx => nomatch hx⟩) ?_ | refine callH_i hP (hI) (.inl ⟨rfl, fun _ hx => nomatch hx⟩) ?_)
    simp +decide (maxSteps := 20000000) (disch := omega) only [↓SBK, ↓SBK2, SAU, SGs, SD, S1, S2, S3, SE, SC, SO, ST, SF, SK, bytes_len, bytes_get, Nat.reduceEqDiff, Nat.reduceAdd, Nat.reduceMul, Nat.reduceSub, ↓reduceIte, Int.reduceNeg, Int.reduceToNat, hmd, hks, Bool.beq_eq_decide_eq, Int.natCast_zero, Int.add_zero, ge_iff_le, gt_iff_lt, Option.isNone_none, Option.isNone_some, List.nil_append, List.append_nil, Bool.and_true, Bool.and_self, SB, Int.reducePow, hQ]
    (first | refine call_i hP (eqChip_self C' hs') (.inl ⟨rfl, fun _ hx => nomatch hx⟩) ?_ | refine callH_i hP (eqChip_self C' hs') (.inl ⟨rfl, fun _ hx => nomatch hx⟩) ?_)
    simp +decide (maxSteps := 20000000) (disch := omega) only [↓SBK, ↓SBK2, SAU, SGs, SD, S1, S2, S3, SE, SC, SO, ST, SF, SK, bytes_len, bytes_get, Nat.reduceEqDiff, Nat.reduceAdd, Nat.reduceMul, Nat.reduceSub, ↓reduceIte, Int.reduceNeg, Int.reduceToNat, hmd, hks, Bool.beq_eq_decide_eq, Int.natCast_zero, Int.add_zero, ge_iff_le, gt_iff_lt, Option.isNone_none, Option.isNone_some, List.nil_append, List.append_nil, Bool.and_true, Bool.and_self, SB, Int.reducePow, hQ]
    (first | refine call_i hP (s_toChip r hs) (.inl ⟨rfl, fun _ hx => nomatch hx⟩) ?_ | refine callH_i hP (s_toChip r hs) (.inl ⟨rfl, fun _ hx => nomatch hx⟩) ?_)
    simp +decide (maxSteps := 20000000) (disch := omega) only [↓SBK, ↓SBK2, SAU, SGs, SD, S1, S2, S3, SE, SC, SO, ST, SF, SK, bytes_len, bytes_get, Nat.reduceEqDiff, Nat.reduceAdd, Nat.reduceMul, Nat.reduceSub, ↓reduceIte, Int.reduceNeg, Int.reduceToNat, hmd, hks, Bool.beq_eq_decide_eq, Int.natCast_zero, Int.add_zero, ge_iff_le, gt_iff_lt, Option.isNone_none, Option.isNone_some, List.nil_append, List.append_nil, Bool.and_true, Bool.and_self, SB, Int.reducePow, hQ]
    (first | refine call_i hP (eqChip_self r hs) (.inl ⟨rfl, fun _ hx => nomatch hx⟩) ?_ | refine callH_i hP (eqChip_self r hs) (.inl ⟨rfl, fun _ hx => nomatch hx⟩) ?_)
    simp +decide (maxSteps := 20000000) (disch := omega) only [↓SBK, ↓SBK2, SAU, SGs, SD, S1, S2, S3, SE, SC, SO, ST, SF, SK, bytes_len, bytes_get, Nat.reduceEqDiff, Nat.reduceAdd, Nat.reduceMul, Nat.reduceSub, ↓reduceIte, Int.reduceNeg, Int.reduceToNat, hmd, hks, Bool.beq_eq_decide_eq, Int.natCast_zero, Int.add_zero, ge_iff_le, gt_iff_lt, Option.isNone_none, Option.isNone_some, List.nil_append, List.append_nil, Bool.and_true, Bool.and_self, SB, Int.reducePow, hQ]
    (first | refine call_i hP (s_markChip r 1 (by omega) (by omega)) (.inl ⟨rfl, fun _ hx => nomatch hx⟩) ?_ | refine callH_i hP (s_markChip r 1 (by omega) (by omega)) (.inl ⟨rfl, fun _ hx => nomatch hx⟩) ?_)
    simp +decide (maxSteps := 20000000) (disch := omega) only [↓SBK, ↓SBK2, SAU, SGs, SD, S1, S2, S3, SE, SC, SO, ST, SF, SK, bytes_len, bytes_get, Nat.reduceEqDiff, Nat.reduceAdd, Nat.reduceMul, Nat.reduceSub, ↓reduceIte, Int.reduceNeg, Int.reduceToNat, hmd, hks, Bool.beq_eq_decide_eq, Int.natCast_zero, Int.add_zero, ge_iff_le, gt_iff_lt, Option.isNone_none, Option.isNone_some, List.nil_append, List.append_nil, Bool.and_true, Bool.and_self, SB, Int.reducePow, hQ, g0]
    (first | refine call_i hP (eqChip_self C' hs') (.inl ⟨rfl, fun _ hx => nomatch hx⟩) ?_ | refine callH_i hP (eqChip_self C' hs') (.inl ⟨rfl, fun _ hx => nomatch hx⟩) ?_)
    simp +decide (maxSteps := 20000000) (disch := omega) only [↓SBK, ↓SBK2, SAU, SGs, SD, S1, S2, S3, SE, SC, SO, ST, SF, SK, bytes_len, bytes_get, Nat.reduceEqDiff, Nat.reduceAdd, Nat.reduceMul, Nat.reduceSub, ↓reduceIte, Int.reduceNeg, Int.reduceToNat, hmd, hks, Bool.beq_eq_decide_eq, Int.natCast_zero, Int.add_zero, ge_iff_le, gt_iff_lt, Option.isNone_none, Option.isNone_some, List.nil_append, List.append_nil, Bool.and_true, Bool.and_self, SB, Int.reducePow, hQ]
    (first | refine call_i hP (s_markChip C' 1 (by omega) (by omega)) (.inl ⟨rfl, fun _ hx => nomatch hx⟩) ?_ | refine callH_i hP (s_markChip C' 1 (by omega) (by omega)) (.inl ⟨rfl, fun _ hx => nomatch hx⟩) ?_)
    simp +decide (maxSteps := 20000000) (disch := omega) only [↓SBK, ↓SBK2, SAU, SGs, SD, S1, S2, S3, SE, SC, SO, ST, SF, SK, bytes_len, bytes_get, Nat.reduceEqDiff, Nat.reduceAdd, Nat.reduceMul, Nat.reduceSub, ↓reduceIte, Int.reduceNeg, Int.reduceToNat, hmd, hks, Bool.beq_eq_decide_eq, Int.natCast_zero, Int.add_zero, ge_iff_le, gt_iff_lt, Option.isNone_none, Option.isNone_some, List.nil_append, List.append_nil, Bool.and_true, Bool.and_self, SB, Int.reducePow, hQ]
    (first | refine call_i hP (s_heldChip C' 1 (by omega) (by omega)) (.inl ⟨rfl, fun _ hx => nomatch hx⟩) ?_ | refine callH_i hP (s_heldChip C' 1 (by omega) (by omega)) (.inl ⟨rfl, fun _ hx => nomatch hx⟩) ?_)
    simp +decide (maxSteps := 20000000) (disch := omega) only [↓SBK, ↓SBK2, SAU, SGs, SD, S1, S2, S3, SE, SC, SO, ST, SF, SK, bytes_len, bytes_get, Nat.reduceEqDiff, Nat.reduceAdd, Nat.reduceMul, Nat.reduceSub, ↓reduceIte, Int.reduceNeg, Int.reduceToNat, hmd, hks, Bool.beq_eq_decide_eq, Int.natCast_zero, Int.add_zero, ge_iff_le, gt_iff_lt, Option.isNone_none, Option.isNone_some, List.nil_append, List.append_nil, Bool.and_true, Bool.and_self, SB, Int.reducePow, hQ, g1]
    (first | refine call_i hP (s_toChip r hs) (.inl ⟨rfl, fun _ hx => nomatch hx⟩) ?_ | refine callH_i hP (s_toChip r hs) (.inl ⟨rfl, fun _ hx => nomatch hx⟩) ?_)
    simp +decide (maxSteps := 20000000) (disch := omega) only [↓SBK, ↓SBK2, SAU, SGs, SD, S1, S2, S3, SE, SC, SO, ST, SF, SK, bytes_len, bytes_get, Nat.reduceEqDiff, Nat.reduceAdd, Nat.reduceMul, Nat.reduceSub, ↓reduceIte, Int.reduceNeg, Int.reduceToNat, hmd, hks, Bool.beq_eq_decide_eq, Int.natCast_zero, Int.add_zero, ge_iff_le, gt_iff_lt, Option.isNone_none, Option.isNone_some, List.nil_append, List.append_nil, Bool.and_true, Bool.and_self, SB, Int.reducePow, hQ]
    (first | refine call_i hP (hI) (.inl ⟨rfl, fun _ hx => nomatch hx⟩) ?_ | refine callH_i hP (hI) (.inl ⟨rfl, fun _ hx => nomatch hx⟩) ?_)
    simp +decide (maxSteps := 20000000) (disch := omega) only [↓SBK, ↓SBK2, SAU, SGs, SD, S1, S2, S3, SE, SC, SO, ST, SF, SK, bytes_len, bytes_get, Nat.reduceEqDiff, Nat.reduceAdd, Nat.reduceMul, Nat.reduceSub, ↓reduceIte, Int.reduceNeg, Int.reduceToNat, hmd, hks, Bool.beq_eq_decide_eq, Int.natCast_zero, Int.add_zero, ge_iff_le, gt_iff_lt, Option.isNone_none, Option.isNone_some, List.nil_append, List.append_nil, Bool.and_true, Bool.and_self, SB, Int.reducePow, hQ]
    (first | refine call_i hP (eqChip_self C' hs') (.inl ⟨rfl, fun _ hx => nomatch hx⟩) ?_ | refine callH_i hP (eqChip_self C' hs') (.inl ⟨rfl, fun _ hx => nomatch hx⟩) ?_)
    simp +decide (maxSteps := 20000000) (disch := omega) only [↓SBK, ↓SBK2, SAU, SGs, SD, S1, S2, S3, SE, SC, SO, ST, SF, SK, bytes_len, bytes_get, Nat.reduceEqDiff, Nat.reduceAdd, Nat.reduceMul, Nat.reduceSub, ↓reduceIte, Int.reduceNeg, Int.reduceToNat, hmd, hks, Bool.beq_eq_decide_eq, Int.natCast_zero, Int.add_zero, ge_iff_le, gt_iff_lt, Option.isNone_none, Option.isNone_some, List.nil_append, List.append_nil, Bool.and_true, Bool.and_self, SB, Int.reducePow, hQ]
    (first | refine call_i hP (s_heldChip C' 1 (by omega) (by omega)) (.inl ⟨rfl, fun _ hx => nomatch hx⟩) ?_ | refine callH_i hP (s_heldChip C' 1 (by omega) (by omega)) (.inl ⟨rfl, fun _ hx => nomatch hx⟩) ?_)
    simp +decide (maxSteps := 20000000) (disch := omega) only [↓SBK, ↓SBK2, SAU, SGs, SD, S1, S2, S3, SE, SC, SO, ST, SF, SK, bytes_len, bytes_get, Nat.reduceEqDiff, Nat.reduceAdd, Nat.reduceMul, Nat.reduceSub, ↓reduceIte, Int.reduceNeg, Int.reduceToNat, hmd, hks, Bool.beq_eq_decide_eq, Int.natCast_zero, Int.add_zero, ge_iff_le, gt_iff_lt, Option.isNone_none, Option.isNone_some, List.nil_append, List.append_nil, Bool.and_true, Bool.and_self, SB, Int.reducePow, hQ, g1]
end Go.Proofs.Ytliklgcfdgdigaa.Awp

namespace Go.Proofs.Ytliklgcfdgdigaa.Awp
open Go.Proofs
set_option linter.unusedSimpArgs false
set_option linter.unusedVariables false

/-! ### what is read of an argument is a value of its type -/
theorem Shp.nil_inv {ts : List TV} (h : Shp [] ts) : ts = [] := by cases h; rfl
theorem Shp.bool_inv {ys : List Ty} {ts : List TV} (h : Shp (.bool :: ys) ts) : ∃ b us, ts = .bool b :: us ∧ Shp ys us := by cases h with | bool b _ us h => exact ⟨b, us, rfl, h⟩
theorem Shp.int_inv {k : IntKind} {ys : List Ty} {ts : List TV} (h : Shp (.int k :: ys) ts) : ∃ n us, ts = .int k n :: us ∧ Shp ys us := by cases h with | int _ n _ us _ h => exact ⟨n, us, rfl, h⟩
theorem Shp.str_inv {ys : List Ty} {ts : List TV} (h : Shp (.str :: ys) ts) : ∃ s us, ts = .str s :: us ∧ s.length ≤ 2 ^ 47 ∧ Shp ys us := by cases h with | str s _ us hs h => exact ⟨s, us, rfl, hs, h⟩
theorem Shp.sl_inv {s : Nat} {e ys : List Ty} {ts : List TV} (h : Shp (.sl s e :: ys) ts) : ∃ es us, ts = .sl s es :: us ∧ es.length ≤ 2 ^ 47 ∧ (∀ r ∈ es, Shp e r) ∧ Shp ys us := by
  cases h with | sl _ _ es _ us hl he h => exact ⟨es, us, rfl, hl, he, h⟩
theorem rows_ofShp {α : Type} {sh : List Ty} {row : α → List TV} {good : α → Prop} (H : ∀ ts, Shp sh ts → ∃ x, ts = row x ∧ good x) : ∀ {es : List (List TV)}, (∀ r ∈ es, Shp sh r) → ∃ l : List α, es = l.map row ∧ ∀ x ∈ l, good x := by
  intro es
  induction es with
  | nil => intro _; exact ⟨[], rfl, by simp⟩
  | cons r es ih =>
    intro h
    obtain ⟨x, rfl, hx⟩ := H r (h r (by simp))
    obtain ⟨l, rfl, hl⟩ := ih fun r hr => h r (by simp [hr])
    exact ⟨x :: l, rfl, fun y hy => by rcases List.mem_cons.1 hy with rfl | hy; exact hx; exact hl y hy⟩
theorem byte_ofShp (ts : List TV) (h : Shp [.int .u8] ts) : ∃ x : UInt8, ts = byteRow x ∧ True := by
  cases h with
  | int _ n _ us hn h =>
    cases h
    obtain ⟨h1, h2⟩ := bounds_u8 hn
    refine ⟨UInt8.ofNat n.toNat, ?_, trivial⟩
    have : (UInt8.ofNat n.toNat).toNat = n.toNat := by simp; omega
    simp only [byteRow, this]
    congr 2
    omega
theorem bytes_ofShp {es : List (List TV)} (h : ∀ r ∈ es, Shp [.int .u8] r) : ∃ b : Bytes, es = bytesR b := by
  obtain ⟨l, rfl, _⟩ := rows_ofShp byte_ofShp h
  exact ⟨l, rfl⟩
theorem len_ofs {s : Bytes} (h : s.length ≤ 2 ^ 47) : s.length < 2 ^ 48 := Nat.lt_of_le_of_lt h (by decide)
theorem len_ofb {b : Bytes} (h : (bytesR b).length ≤ 2 ^ 47) : b.length < 2 ^ 48 := Nat.lt_of_le_of_lt (by simpa [bytesR] using h) (by decide)
theorem len_ofl {α β : Type} {f : α → β} {l : List α} (h : (l.map f).length ≤ 2 ^ 47) : l.length < 2 ^ 48 := Nat.lt_of_le_of_lt (by simpa using h) (by decide)

def Page.shape : List Ty := [.bool, .sl 1 [.int .u8]]
theorem Page.ofShp (ts : List TV) (h : Shp Page.shape ts) : ∃ x : Page, ts = x.row ∧ x.fine := by
  obtain ⟨v_used, u0, rfl, h1⟩ := Shp.bool_inv h
  obtain ⟨r1, u1, rfl, lv_b, e1, h2⟩ := Shp.sl_inv h1
  obtain ⟨v_b, rfl⟩ := bytes_ofShp e1
  obtain rfl := Shp.nil_inv h2
  exact ⟨{ used := v_used, b := v_b }, rfl, len_ofb lv_b⟩
def Block.shape : List Ty := [.sl 2 Page.shape, .int .i64, .bool]
theorem Block.ofShp (ts : List TV) (h : Shp Block.shape ts) : ∃ x : Block, ts = x.row ∧ x.fine := by
  obtain ⟨r0, u0, rfl, lv_pages, e0, h1⟩ := Shp.sl_inv h
  obtain ⟨v_pages, rfl, gv_pages⟩ := rows_ofShp Page.ofShp e0
  obtain ⟨v_wear, u1, rfl, h2⟩ := Shp.int_inv h1
  obtain ⟨v_bad, u2, rfl, h3⟩ := Shp.bool_inv h2
  obtain rfl := Shp.nil_inv h3
  exact ⟨{ pages := v_pages, wear := v_wear, bad := v_bad }, rfl, ⟨len_ofl lv_pages, gv_pages⟩⟩
def Chip.shape : List Ty := [.sl 3 Block.shape]
theorem Chip.ofShp (ts : List TV) (h : Shp Chip.shape ts) : ∃ x : Chip, ts = x.row ∧ x.fine := by
  obtain ⟨r0, u0, rfl, lv_blocks, e0, h1⟩ := Shp.sl_inv h
  obtain ⟨v_blocks, rfl, gv_blocks⟩ := rows_ofShp Block.ofShp e0
  obtain rfl := Shp.nil_inv h1
  exact ⟨{ blocks := v_blocks }, rfl, ⟨len_ofl lv_blocks, gv_blocks⟩⟩
def Fault.shape : List Ty := [.int .i64, .int .i64, .int .i64]
theorem Fault.ofShp (ts : List TV) (h : Shp Fault.shape ts) : ∃ x : Fault, ts = x.row ∧ x.fine := by
  obtain ⟨v_at', u0, rfl, h1⟩ := Shp.int_inv h
  obtain ⟨v_kind, u1, rfl, h2⟩ := Shp.int_inv h1
  obtain ⟨v_keep, u2, rfl, h3⟩ := Shp.int_inv h2
  obtain rfl := Shp.nil_inv h3
  exact ⟨{ at' := v_at', kind := v_kind, keep := v_keep }, rfl, trivial⟩
def Dev.shape : List Ty := [.sl 3 Block.shape, .int .i64, .sl 3 Fault.shape, .bool]
theorem Dev.ofShp (ts : List TV) (h : Shp Dev.shape ts) : ∃ x : Dev, ts = x.row ∧ x.fine := by
  obtain ⟨r0, u0, rfl, lv_c_blocks, e0, h1⟩ := Shp.sl_inv h
  obtain ⟨v_c_blocks, rfl, gv_c_blocks⟩ := rows_ofShp Block.ofShp e0
  obtain ⟨v_ops, u1, rfl, h2⟩ := Shp.int_inv h1
  obtain ⟨r2, u2, rfl, lv_faults, e2, h3⟩ := Shp.sl_inv h2
  obtain ⟨v_faults, rfl, gv_faults⟩ := rows_ofShp Fault.ofShp e2
  obtain ⟨v_down, u3, rfl, h4⟩ := Shp.bool_inv h3
  obtain rfl := Shp.nil_inv h4
  exact ⟨{ c := { blocks := v_c_blocks }, ops := v_ops, faults := v_faults, down := v_down }, rfl, ⟨⟨len_ofl lv_c_blocks, gv_c_blocks⟩, len_ofl lv_faults⟩⟩
def Rec.shape : List Ty := [.int .i64, .int .i64, .sl 1 [.int .u8]]
theorem Rec.ofShp (ts : List TV) (h : Shp Rec.shape ts) : ∃ x : Rec, ts = x.row ∧ x.fine := by
  obtain ⟨v_kind, u0, rfl, h1⟩ := Shp.int_inv h
  obtain ⟨v_seq, u1, rfl, h2⟩ := Shp.int_inv h1
  obtain ⟨r2, u2, rfl, lv_body, e2, h3⟩ := Shp.sl_inv h2
  obtain ⟨v_body, rfl⟩ := bytes_ofShp e2
  obtain rfl := Shp.nil_inv h3
  exact ⟨{ kind := v_kind, seq := v_seq, body := v_body }, rfl, len_ofb lv_body⟩
def Op.shape : List Ty := [.int .i64, .int .i64, .str, .str, .int .i64, .sl 1 [.int .u8]]
theorem Op.ofShp (ts : List TV) (h : Shp Op.shape ts) : ∃ x : Op, ts = x.row ∧ x.fine := by
  obtain ⟨v_kind, u0, rfl, h1⟩ := Shp.int_inv h
  obtain ⟨v_vol, u1, rfl, h2⟩ := Shp.int_inv h1
  obtain ⟨v_path, u2, rfl, lv_path, h3⟩ := Shp.str_inv h2
  obtain ⟨v_to', u3, rfl, lv_to', h4⟩ := Shp.str_inv h3
  obtain ⟨v_off, u4, rfl, h5⟩ := Shp.int_inv h4
  obtain ⟨r5, u5, rfl, lv_data, e5, h6⟩ := Shp.sl_inv h5
  obtain ⟨v_data, rfl⟩ := bytes_ofShp e5
  obtain rfl := Shp.nil_inv h6
  exact ⟨{ kind := v_kind, vol := v_vol, path := v_path, to' := v_to', off := v_off, data := v_data }, rfl, ⟨len_ofs lv_path, len_ofs lv_to', len_ofb lv_data⟩⟩
def Log.shape : List Ty := [.sl 3 Block.shape, .int .i64, .sl 3 Fault.shape, .bool, .int .i64]
theorem Log.ofShp (ts : List TV) (h : Shp Log.shape ts) : ∃ x : Log, ts = x.row ∧ x.fine := by
  obtain ⟨r0, u0, rfl, lv_d_c_blocks, e0, h1⟩ := Shp.sl_inv h
  obtain ⟨v_d_c_blocks, rfl, gv_d_c_blocks⟩ := rows_ofShp Block.ofShp e0
  obtain ⟨v_d_ops, u1, rfl, h2⟩ := Shp.int_inv h1
  obtain ⟨r2, u2, rfl, lv_d_faults, e2, h3⟩ := Shp.sl_inv h2
  obtain ⟨v_d_faults, rfl, gv_d_faults⟩ := rows_ofShp Fault.ofShp e2
  obtain ⟨v_d_down, u3, rfl, h4⟩ := Shp.bool_inv h3
  obtain ⟨v_seq, u4, rfl, h5⟩ := Shp.int_inv h4
  obtain rfl := Shp.nil_inv h5
  exact ⟨{ d := { c := { blocks := v_d_c_blocks }, ops := v_d_ops, faults := v_d_faults, down := v_d_down }, seq := v_seq }, rfl, ⟨⟨len_ofl lv_d_c_blocks, gv_d_c_blocks⟩, len_ofl lv_d_faults⟩⟩
end Go.Proofs.Ytliklgcfdgdigaa.Awp

namespace Go.Proofs.Ytliklgcfdgdigaa.Awp
open Go.Proofs Go.Proofs.Ytliklgcfdgdigaa
set_option linter.unusedSimpArgs false
set_option linter.unusedVariables false
set_option maxRecDepth 100000

theorem own : ownKnob Try.prog.godebug = none := by kernel_rfl
/-- how the text of the program's start goes on -/
def ioTail : List Char := [Char.ofNat 97, Char.ofNat 116, Char.ofNat 32, Char.ofNat 108, Char.ofNat 111, Char.ofNat 111, Char.ofNat 112, Char.ofNat 46, Char.ofNat 101, Char.ofNat 120, Char.ofNat 97, Char.ofNat 109, Char.ofNat 112, Char.ofNat 108, Char.ofNat 101, Char.ofNat 47, Char.ofNat 103, Char.ofNat 48, Char.ofNat 48, Char.ofNat 50, Char.ofNat 56, Char.ofNat 53, Char.ofNat 47, Char.ofNat 108, Char.ofNat 97, Char.ofNat 119, Char.ofNat 115, Char.ofNat 46, Char.ofNat 70, Char.ofNat 110, Char.ofNat 69, Char.ofNat 120, Char.ofNat 97, Char.ofNat 99, Char.ofNat 116, Char.ofNat 82, Char.ofNat 101, Char.ofNat 99, Char.ofNat 79, Char.ofNat 107, Char.ofNat 32, Char.ofNat 108, Char.ofNat 111, Char.ofNat 111, Char.ofNat 112, Char.ofNat 46, Char.ofNat 101, Char.ofNat 120, Char.ofNat 97, Char.ofNat 109, Char.ofNat 112, Char.ofNat 108, Char.ofNat 101, Char.ofNat 47, Char.ofNat 103, Char.ofNat 48, Char.ofNat 48, Char.ofNat 50, Char.ofNat 56, Char.ofNat 53] ++ [Char.ofNat 47, Char.ofNat 108, Char.ofNat 97, Char.ofNat 119, Char.ofNat 115, Char.ofNat 46, Char.ofNat 70, Char.ofNat 110, Char.ofNat 69, Char.ofNat 120, Char.ofNat 97, Char.ofNat 99, Char.ofNat 116, Char.ofNat 67, Char.ofNat 104, Char.ofNat 97, Char.ofNat 110, Char.ofNat 103, Char.ofNat 101, Char.ofNat 115, Char.ofNat 32, Char.ofNat 108, Char.ofNat 111, Char.ofNat 111, Char.ofNat 112, Char.ofNat 46, Char.ofNat 101, Char.ofNat 120, Char.ofNat 97, Char.ofNat 109, Char.ofNat 112, Char.ofNat 108, Char.ofNat 101, Char.ofNat 47, Char.ofNat 103, Char.ofNat 48, Char.ofNat 48, Char.ofNat 50, Char.ofNat 56, Char.ofNat 53, Char.ofNat 47, Char.ofNat 108, Char.ofNat 97, Char.ofNat 119, Char.ofNat 115, Char.ofNat 46, Char.ofNat 70, Char.ofNat 110, Char.ofNat 69, Char.ofNat 120, Char.ofNat 97, Char.ofNat 99, Char.ofNat 116, Char.ofNat 80, Char.ofNat 117, Char.ofNat 116, Char.ofNat 79, Char.ofNat 112, Char.ofNat 32, Char.ofNat 108] ++ [Char.ofNat 111, Char.ofNat 111, Char.ofNat 112, Char.ofNat 46, Char.ofNat 101, Char.ofNat 120, Char.ofNat 97, Char.ofNat 109, Char.ofNat 112, Char.ofNat 108, Char.ofNat 101, Char.ofNat 47, Char.ofNat 103, Char.ofNat 48, Char.ofNat 48, Char.ofNat 50, Char.ofNat 56, Char.ofNat 53, Char.ofNat 47, Char.ofNat 108, Char.ofNat 97, Char.ofNat 119, Char.ofNat 115, Char.ofNat 46, Char.ofNat 70, Char.ofNat 110, Char.ofNat 69, Char.ofNat 120, Char.ofNat 97, Char.ofNat 99, Char.ofNat 116, Char.ofNat 67, Char.ofNat 104, Char.ofNat 105, Char.ofNat 112, Char.ofNat 78, Char.ofNat 101, Char.ofNat 119, Char.ofNat 32, Char.ofNat 108, Char.ofNat 111, Char.ofNat 111, Char.ofNat 112, Char.ofNat 46, Char.ofNat 101, Char.ofNat 120, Char.ofNat 97, Char.ofNat 109, Char.ofNat 112, Char.ofNat 108, Char.ofNat 101, Char.ofNat 47, Char.ofNat 103, Char.ofNat 48, Char.ofNat 48, Char.ofNat 50, Char.ofNat 56, Char.ofNat 53, Char.ofNat 47, Char.ofNat 108] ++ [Char.ofNat 97, Char.ofNat 119, Char.ofNat 115, Char.ofNat 46, Char.ofNat 70, Char.ofNat 110, Char.ofNat 69, Char.ofNat 120, Char.ofNat 97, Char.ofNat 99, Char.ofNat 116, Char.ofNat 80, Char.ofNat 117, Char.ofNat 116, Char.ofNat 82, Char.ofNat 101, Char.ofNat 99, Char.ofNat 32, Char.ofNat 108, Char.ofNat 111, Char.ofNat 111, Char.ofNat 112, Char.ofNat 46, Char.ofNat 101, Char.ofNat 120, Char.ofNat 97, Char.ofNat 109, Char.ofNat 112, Char.ofNat 108, Char.ofNat 101, Char.ofNat 47, Char.ofNat 103, Char.ofNat 48, Char.ofNat 48, Char.ofNat 50, Char.ofNat 56, Char.ofNat 53, Char.ofNat 47, Char.ofNat 108, Char.ofNat 97, Char.ofNat 119, Char.ofNat 115, Char.ofNat 46, Char.ofNat 70, Char.ofNat 110, Char.ofNat 69, Char.ofNat 120, Char.ofNat 97, Char.ofNat 99, Char.ofNat 116, Char.ofNat 87, Char.ofNat 111, Char.ofNat 114, Char.ofNat 110, Char.ofNat 79, Char.ofNat 102, Char.ofNat 32, Char.ofNat 108, Char.ofNat 111, Char.ofNat 111] ++ [Char.ofNat 112, Char.ofNat 46, Char.ofNat 101, Char.ofNat 120, Char.ofNat 97, Char.ofNat 109, Char.ofNat 112, Char.ofNat 108, Char.ofNat 101, Char.ofNat 47, Char.ofNat 103, Char.ofNat 48, Char.ofNat 48, Char.ofNat 50, Char.ofNat 56, Char.ofNat 53, Char.ofNat 47, Char.ofNat 108, Char.ofNat 97, Char.ofNat 119, Char.ofNat 115, Char.ofNat 46, Char.ofNat 70, Char.ofNat 110, Char.ofNat 69, Char.ofNat 120, Char.ofNat 97, Char.ofNat 99, Char.ofNat 116, Char.ofNat 71, Char.ofNat 101, Char.ofNat 116, Char.ofNat 79, Char.ofNat 112, Char.ofNat 32, Char.ofNat 108, Char.ofNat 111, Char.ofNat 111, Char.ofNat 112, Char.ofNat 46, Char.ofNat 101, Char.ofNat 120, Char.ofNat 97, Char.ofNat 109, Char.ofNat 112, Char.ofNat 108, Char.ofNat 101, Char.ofNat 47, Char.ofNat 103, Char.ofNat 48, Char.ofNat 48, Char.ofNat 50, Char.ofNat 56, Char.ofNat 53, Char.ofNat 47, Char.ofNat 108, Char.ofNat 97, Char.ofNat 119, Char.ofNat 115, Char.ofNat 46] ++ [Char.ofNat 70, Char.ofNat 110, Char.ofNat 69, Char.ofNat 120, Char.ofNat 97, Char.ofNat 99, Char.ofNat 116, Char.ofNat 78, Char.ofNat 101, Char.ofNat 120, Char.ofNat 116, Char.ofNat 80, Char.ofNat 97, Char.ofNat 103, Char.ofNat 101, Char.ofNat 32, Char.ofNat 108, Char.ofNat 111, Char.ofNat 111, Char.ofNat 112, Char.ofNat 46, Char.ofNat 101, Char.ofNat 120, Char.ofNat 97, Char.ofNat 109, Char.ofNat 112, Char.ofNat 108, Char.ofNat 101, Char.ofNat 47, Char.ofNat 103, Char.ofNat 48, Char.ofNat 48, Char.ofNat 50, Char.ofNat 56, Char.ofNat 53, Char.ofNat 47, Char.ofNat 108, Char.ofNat 97, Char.ofNat 119, Char.ofNat 115, Char.ofNat 46, Char.ofNat 70, Char.ofNat 110, Char.ofNat 69, Char.ofNat 120, Char.ofNat 97, Char.ofNat 99, Char.ofNat 116, Char.ofNat 67, Char.ofNat 104, Char.ofNat 105, Char.ofNat 112, Char.ofNat 79, Char.ofNat 107, Char.ofNat 32, Char.ofNat 108, Char.ofNat 111, Char.ofNat 111, Char.ofNat 112, Char.ofNat 46] ++ [Char.ofNat 101, Char.ofNat 120, Char.ofNat 97, Char.ofNat 109, Char.ofNat 112, Char.ofNat 108, Char.ofNat 101, Char.ofNat 47, Char.ofNat 103, Char.ofNat 48, Char.ofNat 48, Char.ofNat 50, Char.ofNat 56, Char.ofNat 53, Char.ofNat 47, Char.ofNat 108, Char.ofNat 97, Char.ofNat 119, Char.ofNat 115, Char.ofNat 46, Char.ofNat 70, Char.ofNat 110, Char.ofNat 82, Char.ofNat 101, Char.ofNat 99, Char.ofNat 115, Char.ofNat 32, Char.ofNat 108, Char.ofNat 111, Char.ofNat 111, Char.ofNat 112, Char.ofNat 46, Char.ofNat 101, Char.ofNat 120, Char.ofNat 97, Char.ofNat 109, Char.ofNat 112, Char.ofNat 108, Char.ofNat 101, Char.ofNat 47, Char.ofNat 103, Char.ofNat 48, Char.ofNat 48, Char.ofNat 50, Char.ofNat 56, Char.ofNat 53, Char.ofNat 47, Char.ofNat 108, Char.ofNat 97, Char.ofNat 119, Char.ofNat 115, Char.ofNat 46, Char.ofNat 70, Char.ofNat 110, Char.ofNat 69, Char.ofNat 120, Char.ofNat 97, Char.ofNat 99, Char.ofNat 116, Char.ofNat 82] ++ [Char.ofNat 101, Char.ofNat 97, Char.ofNat 100, Char.ofNat 80, Char.ofNat 97, Char.ofNat 103, Char.ofNat 101, Char.ofNat 32, Char.ofNat 108, Char.ofNat 111, Char.ofNat 111, Char.ofNat 112, Char.ofNat 46, Char.ofNat 101, Char.ofNat 120, Char.ofNat 97, Char.ofNat 109, Char.ofNat 112, Char.ofNat 108, Char.ofNat 101, Char.ofNat 47, Char.ofNat 103, Char.ofNat 48, Char.ofNat 48, Char.ofNat 50, Char.ofNat 56, Char.ofNat 53, Char.ofNat 47, Char.ofNat 108, Char.ofNat 97, Char.ofNat 119, Char.ofNat 115, Char.ofNat 46, Char.ofNat 70, Char.ofNat 110, Char.ofNat 78, Char.ofNat 101, Char.ofNat 119, Char.ofNat 67, Char.ofNat 104, Char.ofNat 105, Char.ofNat 112, Char.ofNat 115, Char.ofNat 32, Char.ofNat 108, Char.ofNat 111, Char.ofNat 111, Char.ofNat 112, Char.ofNat 46, Char.ofNat 101, Char.ofNat 120, Char.ofNat 97, Char.ofNat 109, Char.ofNat 112, Char.ofNat 108, Char.ofNat 101, Char.ofNat 47, Char.ofNat 103, Char.ofNat 48, Char.ofNat 48] ++ [Char.ofNat 50, Char.ofNat 56, Char.ofNat 53, Char.ofNat 47, Char.ofNat 108, Char.ofNat 97, Char.ofNat 119, Char.ofNat 115, Char.ofNat 46, Char.ofNat 70, Char.ofNat 110, Char.ofNat 73, Char.ofNat 110, Char.ofNat 84, Char.ofNat 117, Char.ofNat 114, Char.ofNat 110, Char.ofNat 32, Char.ofNat 108, Char.ofNat 111, Char.ofNat 111, Char.ofNat 112, Char.ofNat 46, Char.ofNat 101, Char.ofNat 120, Char.ofNat 97, Char.ofNat 109, Char.ofNat 112, Char.ofNat 108, Char.ofNat 101, Char.ofNat 47, Char.ofNat 103, Char.ofNat 48, Char.ofNat 48, Char.ofNat 50, Char.ofNat 56, Char.ofNat 53, Char.ofNat 47, Char.ofNat 108, Char.ofNat 97, Char.ofNat 119, Char.ofNat 115, Char.ofNat 46, Char.ofNat 70, Char.ofNat 110, Char.ofNat 69, Char.ofNat 120, Char.ofNat 97, Char.ofNat 99, Char.ofNat 116, Char.ofNat 71, Char.ofNat 101, Char.ofNat 116, Char.ofNat 82, Char.ofNat 101, Char.ofNat 99, Char.ofNat 32, Char.ofNat 108, Char.ofNat 111, Char.ofNat 111] ++ [Char.ofNat 112, Char.ofNat 46, Char.ofNat 101, Char.ofNat 120, Char.ofNat 97, Char.ofNat 109, Char.ofNat 112, Char.ofNat 108, Char.ofNat 101, Char.ofNat 47, Char.ofNat 103, Char.ofNat 48, Char.ofNat 48, Char.ofNat 50, Char.ofNat 56, Char.ofNat 53, Char.ofNat 47, Char.ofNat 108, Char.ofNat 97, Char.ofNat 119, Char.ofNat 115, Char.ofNat 46, Char.ofNat 70, Char.ofNat 110, Char.ofNat 69, Char.ofNat 120, Char.ofNat 97, Char.ofNat 99, Char.ofNat 116, Char.ofNat 70, Char.ofNat 97, Char.ofNat 117, Char.ofNat 108, Char.ofNat 116, Char.ofNat 65, Char.ofNat 116, Char.ofNat 32, Char.ofNat 108, Char.ofNat 111, Char.ofNat 111, Char.ofNat 112, Char.ofNat 46, Char.ofNat 101, Char.ofNat 120, Char.ofNat 97, Char.ofNat 109, Char.ofNat 112, Char.ofNat 108, Char.ofNat 101, Char.ofNat 47, Char.ofNat 103, Char.ofNat 48, Char.ofNat 48, Char.ofNat 50, Char.ofNat 56, Char.ofNat 53, Char.ofNat 47, Char.ofNat 108, Char.ofNat 97, Char.ofNat 119] ++ [Char.ofNat 115, Char.ofNat 46, Char.ofNat 70, Char.ofNat 110, Char.ofNat 69, Char.ofNat 114, Char.ofNat 97, Char.ofNat 115, Char.ofNat 101, Char.ofNat 100, Char.ofNat 32, Char.ofNat 108, Char.ofNat 111, Char.ofNat 111, Char.ofNat 112, Char.ofNat 46, Char.ofNat 101, Char.ofNat 120, Char.ofNat 97, Char.ofNat 109, Char.ofNat 112, Char.ofNat 108, Char.ofNat 101, Char.ofNat 47, Char.ofNat 103, Char.ofNat 48, Char.ofNat 48, Char.ofNat 50, Char.ofNat 56, Char.ofNat 53, Char.ofNat 47, Char.ofNat 108, Char.ofNat 97, Char.ofNat 119, Char.ofNat 115, Char.ofNat 46, Char.ofNat 70, Char.ofNat 110, Char.ofNat 67, Char.ofNat 104, Char.ofNat 105, Char.ofNat 112, Char.ofNat 115, Char.ofNat 32, Char.ofNat 108, Char.ofNat 111, Char.ofNat 111, Char.ofNat 112, Char.ofNat 46, Char.ofNat 101, Char.ofNat 120, Char.ofNat 97, Char.ofNat 109, Char.ofNat 112, Char.ofNat 108, Char.ofNat 101, Char.ofNat 47, Char.ofNat 103, Char.ofNat 48, Char.ofNat 48] ++ [Char.ofNat 50, Char.ofNat 56, Char.ofNat 53, Char.ofNat 47, Char.ofNat 108, Char.ofNat 97, Char.ofNat 119, Char.ofNat 115, Char.ofNat 46, Char.ofNat 70, Char.ofNat 110, Char.ofNat 82, Char.ofNat 101, Char.ofNat 99, Char.ofNat 115, Char.ofNat 82, Char.ofNat 101, Char.ofNat 97, Char.ofNat 100, Char.ofNat 32, Char.ofNat 108, Char.ofNat 111, Char.ofNat 111, Char.ofNat 112, Char.ofNat 46, Char.ofNat 101, Char.ofNat 120, Char.ofNat 97, Char.ofNat 109, Char.ofNat 112, Char.ofNat 108, Char.ofNat 101, Char.ofNat 47, Char.ofNat 103, Char.ofNat 48, Char.ofNat 48, Char.ofNat 50, Char.ofNat 56, Char.ofNat 53, Char.ofNat 47, Char.ofNat 108, Char.ofNat 97, Char.ofNat 119, Char.ofNat 115, Char.ofNat 46, Char.ofNat 70, Char.ofNat 110, Char.ofNat 69, Char.ofNat 120, Char.ofNat 97, Char.ofNat 99, Char.ofNat 116, Char.ofNat 68, Char.ofNat 101, Char.ofNat 118, Char.ofNat 79, Char.ofNat 107, Char.ofNat 32, Char.ofNat 108, Char.ofNat 111] ++ [Char.ofNat 111, Char.ofNat 112, Char.ofNat 46, Char.ofNat 101, Char.ofNat 120, Char.ofNat 97, Char.ofNat 109, Char.ofNat 112, Char.ofNat 108, Char.ofNat 101, Char.ofNat 47, Char.ofNat 103, Char.ofNat 48, Char.ofNat 48, Char.ofNat 50, Char.ofNat 56, Char.ofNat 53, Char.ofNat 47, Char.ofNat 108, Char.ofNat 97, Char.ofNat 119, Char.ofNat 115, Char.ofNat 46, Char.ofNat 70, Char.ofNat 110, Char.ofNat 69, Char.ofNat 120, Char.ofNat 97, Char.ofNat 99, Char.ofNat 116, Char.ofNat 70, Char.ofNat 114, Char.ofNat 101, Char.ofNat 101, Char.ofNat 66, Char.ofNat 108, Char.ofNat 111, Char.ofNat 99, Char.ofNat 107, Char.ofNat 115, Char.ofNat 32, Char.ofNat 108, Char.ofNat 111, Char.ofNat 111, Char.ofNat 112, Char.ofNat 46, Char.ofNat 101, Char.ofNat 120, Char.ofNat 97, Char.ofNat 109, Char.ofNat 112, Char.ofNat 108, Char.ofNat 101, Char.ofNat 47, Char.ofNat 103, Char.ofNat 48, Char.ofNat 48, Char.ofNat 50, Char.ofNat 56, Char.ofNat 53] ++ [Char.ofNat 47, Char.ofNat 108, Char.ofNat 97, Char.ofNat 119, Char.ofNat 115, Char.ofNat 46, Char.ofNat 70, Char.ofNat 110, Char.ofNat 69, Char.ofNat 120, Char.ofNat 97, Char.ofNat 99, Char.ofNat 116, Char.ofNat 68, Char.ofNat 101, Char.ofNat 118, Char.ofNat 78, Char.ofNat 101, Char.ofNat 119, Char.ofNat 32, Char.ofNat 108, Char.ofNat 111, Char.ofNat 111, Char.ofNat 112, Char.ofNat 46, Char.ofNat 101, Char.ofNat 120, Char.ofNat 97, Char.ofNat 109, Char.ofNat 112, Char.ofNat 108, Char.ofNat 101, Char.ofNat 47, Char.ofNat 103, Char.ofNat 48, Char.ofNat 48, Char.ofNat 50, Char.ofNat 56, Char.ofNat 53, Char.ofNat 47, Char.ofNat 108, Char.ofNat 97, Char.ofNat 119, Char.ofNat 115, Char.ofNat 46, Char.ofNat 70, Char.ofNat 110, Char.ofNat 69, Char.ofNat 120, Char.ofNat 97, Char.ofNat 99, Char.ofNat 116, Char.ofNat 69, Char.ofNat 114, Char.ofNat 97, Char.ofNat 115, Char.ofNat 101, Char.ofNat 32, Char.ofNat 108, Char.ofNat 111] ++ [Char.ofNat 111, Char.ofNat 112, Char.ofNat 46, Char.ofNat 101, Char.ofNat 120, Char.ofNat 97, Char.ofNat 109, Char.ofNat 112, Char.ofNat 108, Char.ofNat 101, Char.ofNat 47, Char.ofNat 103, Char.ofNat 48, Char.ofNat 48, Char.ofNat 50, Char.ofNat 56, Char.ofNat 53, Char.ofNat 47, Char.ofNat 108, Char.ofNat 97, Char.ofNat 119, Char.ofNat 115, Char.ofNat 46, Char.ofNat 70, Char.ofNat 110, Char.ofNat 69, Char.ofNat 120, Char.ofNat 97, Char.ofNat 99, Char.ofNat 116, Char.ofNat 80, Char.ofNat 114, Char.ofNat 111, Char.ofNat 103, Char.ofNat 114, Char.ofNat 97, Char.ofNat 109, Char.ofNat 32, Char.ofNat 108, Char.ofNat 111, Char.ofNat 111, Char.ofNat 112, Char.ofNat 46, Char.ofNat 101, Char.ofNat 120, Char.ofNat 97, Char.ofNat 109, Char.ofNat 112, Char.ofNat 108, Char.ofNat 101, Char.ofNat 47, Char.ofNat 103, Char.ofNat 48, Char.ofNat 48, Char.ofNat 50, Char.ofNat 56, Char.ofNat 53, Char.ofNat 47, Char.ofNat 108, Char.ofNat 97] ++ [Char.ofNat 119, Char.ofNat 115, Char.ofNat 46, Char.ofNat 70, Char.ofNat 110, Char.ofNat 69, Char.ofNat 120, Char.ofNat 97, Char.ofNat 99, Char.ofNat 116, Char.ofNat 80, Char.ofNat 111, Char.ofNat 119, Char.ofNat 101, Char.ofNat 114, Char.ofNat 85, Char.ofNat 112, Char.ofNat 32, Char.ofNat 108, Char.ofNat 111, Char.ofNat 111, Char.ofNat 112, Char.ofNat 46, Char.ofNat 101, Char.ofNat 120, Char.ofNat 97, Char.ofNat 109, Char.ofNat 112, Char.ofNat 108, Char.ofNat 101, Char.ofNat 47, Char.ofNat 103, Char.ofNat 48, Char.ofNat 48, Char.ofNat 50, Char.ofNat 56, Char.ofNat 53, Char.ofNat 47, Char.ofNat 108, Char.ofNat 97, Char.ofNat 119, Char.ofNat 115, Char.ofNat 46, Char.ofNat 70, Char.ofNat 110, Char.ofNat 68, Char.ofNat 101, Char.ofNat 118, Char.ofNat 115, Char.ofNat 32, Char.ofNat 108, Char.ofNat 111, Char.ofNat 111, Char.ofNat 112, Char.ofNat 46, Char.ofNat 101, Char.ofNat 120, Char.ofNat 97, Char.ofNat 109, Char.ofNat 112] ++ [Char.ofNat 108, Char.ofNat 101, Char.ofNat 47, Char.ofNat 103, Char.ofNat 48, Char.ofNat 48, Char.ofNat 50, Char.ofNat 56, Char.ofNat 53, Char.ofNat 47, Char.ofNat 108, Char.ofNat 97, Char.ofNat 119, Char.ofNat 115, Char.ofNat 46, Char.ofNat 70, Char.ofNat 110, Char.ofNat 68, Char.ofNat 101, Char.ofNat 118, Char.ofNat 69, Char.ofNat 114, Char.ofNat 97, Char.ofNat 115, Char.ofNat 101, Char.ofNat 100, Char.ofNat 32, Char.ofNat 108, Char.ofNat 111, Char.ofNat 111, Char.ofNat 112, Char.ofNat 46, Char.ofNat 101, Char.ofNat 120, Char.ofNat 97, Char.ofNat 109, Char.ofNat 112, Char.ofNat 108, Char.ofNat 101, Char.ofNat 47, Char.ofNat 103, Char.ofNat 48, Char.ofNat 48, Char.ofNat 50, Char.ofNat 56, Char.ofNat 53, Char.ofNat 47, Char.ofNat 108, Char.ofNat 97, Char.ofNat 119, Char.ofNat 115, Char.ofNat 46, Char.ofNat 70, Char.ofNat 110, Char.ofNat 80, Char.ofNat 111, Char.ofNat 119, Char.ofNat 101, Char.ofNat 114, Char.ofNat 115] ++ [Char.ofNat 32, Char.ofNat 108, Char.ofNat 111, Char.ofNat 111, Char.ofNat 112, Char.ofNat 46, Char.ofNat 101, Char.ofNat 120, Char.ofNat 97, Char.ofNat 109, Char.ofNat 112, Char.ofNat 108, Char.ofNat 101, Char.ofNat 47, Char.ofNat 103, Char.ofNat 48, Char.ofNat 48, Char.ofNat 50, Char.ofNat 56, Char.ofNat 53, Char.ofNat 47, Char.ofNat 108, Char.ofNat 97, Char.ofNat 119, Char.ofNat 115, Char.ofNat 46, Char.ofNat 70, Char.ofNat 110, Char.ofNat 69, Char.ofNat 120, Char.ofNat 97, Char.ofNat 99, Char.ofNat 116, Char.ofNat 68, Char.ofNat 101, Char.ofNat 118, Char.ofNat 69, Char.ofNat 114, Char.ofNat 97, Char.ofNat 115, Char.ofNat 101, Char.ofNat 32, Char.ofNat 108, Char.ofNat 111, Char.ofNat 111, Char.ofNat 112, Char.ofNat 46, Char.ofNat 101, Char.ofNat 120, Char.ofNat 97, Char.ofNat 109, Char.ofNat 112, Char.ofNat 108, Char.ofNat 101, Char.ofNat 47, Char.ofNat 103, Char.ofNat 48, Char.ofNat 48, Char.ofNat 50, Char.ofNat 56] ++ [Char.ofNat 53, Char.ofNat 47, Char.ofNat 108, Char.ofNat 97, Char.ofNat 119, Char.ofNat 115, Char.ofNat 46, Char.ofNat 70, Char.ofNat 110, Char.ofNat 69, Char.ofNat 120, Char.ofNat 97, Char.ofNat 99, Char.ofNat 116, Char.ofNat 68, Char.ofNat 101, Char.ofNat 118, Char.ofNat 80, Char.ofNat 114, Char.ofNat 111, Char.ofNat 103, Char.ofNat 114, Char.ofNat 97, Char.ofNat 109]
def ioSum : List Char := [Char.ofNat 98, Char.ofNat 51, Char.ofNat 102, Char.ofNat 55, Char.ofNat 99, Char.ofNat 48, Char.ofNat 100, Char.ofNat 99, Char.ofNat 52, Char.ofNat 51, Char.ofNat 51, Char.ofNat 102, Char.ofNat 99, Char.ofNat 98, Char.ofNat 52, Char.ofNat 55, Char.ofNat 53, Char.ofNat 52, Char.ofNat 55, Char.ofNat 49, Char.ofNat 102, Char.ofNat 53, Char.ofNat 56, Char.ofNat 48, Char.ofNat 101, Char.ofNat 102, Char.ofNat 54, Char.ofNat 97, Char.ofNat 99, Char.ofNat 57, Char.ofNat 54, Char.ofNat 49, Char.ofNat 100, Char.ofNat 51, Char.ofNat 97, Char.ofNat 55, Char.ofNat 99, Char.ofNat 57, Char.ofNat 57, Char.ofNat 53, Char.ofNat 49, Char.ofNat 100, Char.ofNat 100, Char.ofNat 49, Char.ofNat 51, Char.ofNat 52, Char.ofNat 101, Char.ofNat 102, Char.ofNat 98, Char.ofNat 98, Char.ofNat 99, Char.ofNat 56, Char.ofNat 53, Char.ofNat 98, Char.ofNat 99, Char.ofNat 53, Char.ofNat 49, Char.ofNat 48, Char.ofNat 52, Char.ofNat 48, Char.ofNat 48, Char.ofNat 100, Char.ofNat 97, Char.ofNat 98]
theorem ioText : Try.prog.initOrder = String.ofList ([Char.ofNat 104, Char.ofNat 97, Char.ofNat 114, Char.ofNat 110, Char.ofNat 101, Char.ofNat 115, Char.ofNat 115] ++ (Char.ofNat 32 :: ioSum) ++ [Char.ofNat 32, Char.ofNat 99, Char.ofNat 117, Char.ofNat 116, Char.ofNat 32] ++ ioTail) := by kernel_rfl
theorem ioWords : ∃ r, behindMainWord (wordsSigns Try.prog.initOrder.toList) = [Char.ofNat 99, Char.ofNat 117, Char.ofNat 116] :: r := by
  rw [ioText, String.toList_ofList]
  exact ⟨wordsSigns ioTail, by kernel_rfl⟩
theorem f_laid : (laidOutB Try.prog) = true := by kernel_rfl
theorem f_maps : (mapsRowed Try.prog) = true := by kernel_rfl
theorem f_stops : ((Try.prog.stops == [])) = true := by kernel_rfl
theorem f_knobs : ((Try.prog.stopKnobs == [])) = true := by kernel_rfl
theorem f_heard : (Try.prog.stopsHeard) = true := by kernel_rfl
theorem f_enter : (Try.prog.mayEnter) = true := by
  obtain ⟨r, hr⟩ := ioWords
  exact enter_of hr (by kernel_rfl) (by kernel_rfl) (by kernel_rfl)
theorem f_lifts : (false == Try.prog.liftsFinal) = true := by
  obtain ⟨r, hr⟩ := ioWords
  rw [lifts_of hr]
  rfl
theorem f_make : (Try.prog.make == some .cut) = true := by
  obtain ⟨r, hr⟩ := ioWords
  rw [make_of hr]
  rfl
end Go.Proofs.Ytliklgcfdgdigaa.Awp

namespace Go.Proofs.Ytliklgcfdgdigaa.Awp
open Go.Proofs Go.Proofs.Ytliklgcfdgdigaa
set_option linter.unusedSimpArgs false
set_option linter.unusedVariables false
set_option maxRecDepth 100000

theorem j0_FnExactErase : (Rows.fnExactEraseRow.wf (OpenSpec.ofChange Rows.fnExactEraseSpec)) = true := by kernel_rfl
theorem j3_FnExactErase : (Try.f24.params.all (Try.prog.readableRec ·)) = true := by kernel_rfl
theorem j4_FnExactErase : (namedTie Try.prog Rows.fnExactEraseRow.named Rows.fnExactEraseSpec.vars) = true := by kernel_rfl
theorem j5_FnExactErase : ((Rows.fnExactEraseRow.stops == [])) = true := by kernel_rfl
theorem j7_FnExactErase : ((Rows.fnExactEraseRow.knobs == [])) = true := by kernel_rfl
theorem j9_FnExactErase : ((Rows.fnExactEraseRow.inPlace == Try.prog.inPlace 24)) = true := by kernel_rfl
theorem j10_FnExactErase : ((Rows.fnExactEraseRow.unfollowed == Try.prog.unfollowed 24)) = true := by kernel_rfl
theorem j11_FnExactErase : ((Rows.fnExactEraseRow.recurses == Try.prog.recurses 24)) = true := by kernel_rfl
theorem j12_FnExactErase : ((Rows.fnExactEraseRow.named == Try.prog.varsNamed 24)) = true := by kernel_rfl
theorem j13_FnExactErase : ((Rows.fnExactEraseRow.maps == (Try.f24.params.toList ++ Rows.fnExactEraseSpec.plain.varTypes Try.prog).any (Try.prog.mapsRec ·))) = true := by kernel_rfl
theorem j14_FnExactErase : ((Rows.fnExactEraseRow.ifaces == (Try.f24.params.toList ++ Rows.fnExactEraseSpec.plain.varTypes Try.prog).any (Try.prog.ifacesRec ·))) = true := by kernel_rfl
theorem j15_FnExactErase : ((Rows.fnExactEraseRow.mapsOut == Try.prog.mapsAmong Try.f24.resultTypes.toList)) = true := by kernel_rfl
theorem j16_FnExactErase : ((Rows.fnExactEraseRow.loops == (Try.f24.params.toList ++ Rows.fnExactEraseSpec.plain.varTypes Try.prog).any (Try.prog.loopsFrom ·))) = true := by kernel_rfl
theorem j17_FnExactErase : ((Rows.fnExactEraseRow.wideKeys == (Try.f24.params.toList ++ Rows.fnExactEraseSpec.plain.varTypes Try.prog ++ Try.f24.resultTypes.toList).any (Try.prog.wideKeysFrom ·))) = true := by kernel_rfl
theorem j18_FnExactErase : (Rows.fnExactEraseSpec.vars.all (Try.prog.varReadable ·)) = true := by kernel_rfl
theorem j19_FnExactErase : (Try.f24.resultTypes.all (fun t => Try.prog.readableRec t && decide (t < Try.prog.types.size))) = true := by kernel_rfl
theorem j20_FnExactErase : ((Rows.fnExactEraseRow.ifacesOut == Try.f24.resultTypes.toList.any (Try.prog.ifacesRec ·))) = true := by kernel_rfl
theorem j21_FnExactErase : ((Rows.fnExactEraseRow.loopsOut == Try.f24.resultTypes.toList.any (Try.prog.loopsFrom ·))) = true := by kernel_rfl
theorem j22_FnExactErase : ((Rows.fnExactEraseRow.plainKeys == Try.prog.plainKeys)) = true := by kernel_rfl
theorem j23_FnExactErase : (Rows.fnExactEraseRow.shortTexts.isNone) = true := by kernel_rfl
theorem j28_FnExactErase : ((Rows.fnExactEraseRow.kinds == (if Rows.fnExactEraseRow.domain.isEmpty then [] else Try.f24.params.toList.map fun t => match Try.prog.underlying t with | some (.int k) => some k | _ => none))) = true := by kernel_rfl
theorem j29_FnExactErase : ((Rows.fnExactEraseRow.pinned == Rows.fnExactEraseRow.pinnedBy)) = true := by kernel_rfl
theorem j30_FnExactErase : ((Rows.fnExactEraseRow.veiled == (Try.f24.params.toList ++ Rows.fnExactEraseSpec.plain.varTypes Try.prog ++ Try.f24.resultTypes.toList).any (Try.prog.veiledRec ·))) = true := by kernel_rfl
theorem j31_FnExactErase : (Rows.fnExactEraseRow.veiledFits Try.prog Try.f24.params.toList (Try.f24.params.toList ++ Rows.fnExactEraseSpec.plain.varTypes Try.prog ++ Try.f24.resultTypes.toList)) = true := by kernel_rfl
theorem jf_FnExactErase : joinedFacts Try.prog 24 Try.f24 Rows.fnExactEraseSpec Rows.fnExactEraseRow = true :=
  joined_of j0_FnExactErase f_laid f_maps j3_FnExactErase j4_FnExactErase j5_FnExactErase f_stops j7_FnExactErase f_knobs j9_FnExactErase j10_FnExactErase j11_FnExactErase j12_FnExactErase j13_FnExactErase j14_FnExactErase j15_FnExactErase j16_FnExactErase j17_FnExactErase j18_FnExactErase j19_FnExactErase j20_FnExactErase j21_FnExactErase j22_FnExactErase j23_FnExactErase f_heard f_enter f_lifts f_make j28_FnExactErase j29_FnExactErase j30_FnExactErase j31_FnExactErase

theorem lift_FnExactErase (os : Os) (started : os.Started) (H : Type) (enc : TypeId × Value → H) :
    ReturnsInHanded {} Try.checked os 24 .any (Rows.fnExactEraseSpec.pre6 enc Try.prog Try.f24 Rows.fnExactEraseRow.domain false) (Rows.fnExactEraseSpec.post enc Try.prog Try.f24 false true false false) := by
  refine law_returns (C := Try.checked) (pars := [(true, Chip.shape), (false, [.int .i64])]) own started (by kernel_rfl) Try.func24
    (ChangeSpec.witness6 (enc := enc) (C := Try.checked) false ⟨#[], #[.agg #[.slice none 0 0], .int .i64 0], []⟩ 8 (by kernel_rfl) (by kernel_rfl) (by kernel_rfl) (by kernel_rfl))
    rfl (by kernel_rfl) rfl (by kernel_rfl) ?_ ?_
  · intro ds hd
    match ds, hd with
    | [d0, d1], _ => rfl
  · intro tss h
    match tss, h with
    | [t0, t1], ⟨h0, h1, _⟩ =>
      obtain ⟨r, rfl, hf⟩ := Chip.ofShp t0 h0
      obtain ⟨i, u1, rfl, e1⟩ := Shp.int_inv h1
      obtain rfl := Shp.nil_inv e1
      exact ⟨_, s_FnExactErase r i hf⟩

theorem hw_FnExactErase : Try.f24.isWrapper Try.prog Rows.fnExactEraseRow.wrapper Rows.fnExactEraseRow.mainSum := by
  unfold Func.isWrapper; first | (rw [if_pos (by decide +kernel)]; kernel_rfl) | (rw [if_neg (by decide +kernel)]; exact ⟨rfl, rfl⟩)

theorem law_FnExactErase : Rows.FnExactEraseSaid :=
  OpenClaim.holds_of_wide 24 Try.f24 rfl rfl rfl rfl rfl rfl rfl ⟨rfl, rfl, rfl, rfl, rfl⟩ rfl rfl rfl rfl rfl (by kernel_rfl) Try.func24 jf_FnExactErase
    (of_decide_eq_true (by kernel_rfl)) hw_FnExactErase
    (fun os started H enc _ => lift_FnExactErase os started H enc)
end Go.Proofs.Ytliklgcfdgdigaa.Awp

namespace Go.Proofs.Ytliklgcfdgdigaa
/-- the given statement -/
theorem provedFnExactErase : Rows.FnExactEraseSaid := Awp.law_FnExactErase
end Go.Proofs.Ytliklgcfdgdigaa
#print axioms Go.Proofs.Ytliklgcfdgdigaa.provedFnExactErase
