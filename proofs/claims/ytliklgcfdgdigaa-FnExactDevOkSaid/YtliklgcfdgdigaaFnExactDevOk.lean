/- The law FnExactDevOk (the program's DevOk returns what the reference's DevOk returns, for all arguments) holds for every argument: the given statement FnExactDevOkSaid is proved. Condition: none. -/
import Derived.Test.YtliklgcfdgdigaaFnExactDevOkX1
import Derived.Test.YtliklgcfdgdigaaAwp4
import Derived.Test.YtliklgcfdgdigaaRows
import Derived.OpenShut
import Derived.KernelRfl
namespace Go.Proofs.Ytliklgcfdgdigaa.Awp
open Go.Proofs
set_option linter.unusedSimpArgs false
set_option linter.unusedVariables false

/-! ### what is read of an argument is a value of its type -/
theorem Shp.nil_inv {ts : List TV} (h : Shp [] ts) : ts = [] := by cases h; rfl
theorem Shp.bool_inv {ys : List Ty} {ts : List TV} (h : Shp (.bool :: ys) ts) : ∃ b us, ts = .bool b :: us ∧ Shp ys us := by cases h with | bool b _ us h => exact ⟨b, us, rfl, h⟩
theorem Shp.int_inv {k : IntKind} {ys : List Ty} {ts : List TV} (h : Shp (.int k :: ys) ts) : ∃ n us, ts = .int k n :: us ∧ Shp ys us := by cases h with | int _ n _ us _ h => exact ⟨n, us, rfl, h⟩
theorem Shp.str_inv {ys : List Ty} {ts : List TV} (h : Shp (.str :: ys) ts) : ∃ s us, ts = .str s :: us ∧ s.length ≤ 2 ^ 47 ∧ Shp ys us := by cases h with | str s _ us hs h => exact ⟨s, us, rfl, hs, h⟩
theorem Shp.sl_inv {s : Nat} {e ys : List Ty} {ts : List TV} (h : Shp (.sl s e :: ys) ts) : ∃ es us, ts = .sl s es :: us ∧ es.length ≤ 2 ^ 47 ∧ (∀ r ∈ es, Shp e r) ∧ Shp ys us := by
  cases h with | sl _ _ es _ us hl he h => exact ⟨es, us, rfl, hl, he, h⟩
theorem rows_ofShp {α : Type} {sh : List Ty} {row : α → List TV} {good : α → Prop} (H : ∀ ts, Shp sh ts → ∃ x, ts = row x ∧ good x) : ∀ {es : List (List TV)}, (∀ r ∈ es, Shp sh r) → ∃ l : List α, es = l.map row ∧ ∀ x ∈ l, good x := by
  intro es
  induction es with
  | nil => intro _; exact ⟨[], rfl, by simp⟩
  | cons r es ih =>
    intro h
    obtain ⟨x, rfl, hx⟩ := H r (h r (by simp))
    obtain ⟨l, rfl, hl⟩ := ih fun r hr => h r (by simp [hr])
    exact ⟨x :: l, rfl, fun y hy => by rcases List.mem_cons.1 hy with rfl | hy; exact hx; exact hl y hy⟩
theorem byte_ofShp (ts : List TV) (h : Shp [.int .u8] ts) : ∃ x : UInt8, ts = byteRow x ∧ True := by
  cases h with
  | int _ n _ us hn h =>
    cases h
    obtain ⟨h1, h2⟩ := bounds_u8 hn
    refine ⟨UInt8.ofNat n.toNat, ?_, trivial⟩
    have : (UInt8.ofNat n.toNat).toNat = n.toNat := by simp; omega
    simp only [byteRow, this]
    congr 2
    omega
theorem bytes_ofShp {es : List (List TV)} (h : ∀ r ∈ es, Shp [.int .u8] r) : ∃ b : Bytes, es = bytesR b := by
  obtain ⟨l, rfl, _⟩ := rows_ofShp byte_ofShp h
  exact ⟨l, rfl⟩
theorem len_ofs {s : Bytes} (h : s.length ≤ 2 ^ 47) : s.length < 2 ^ 48 := Nat.lt_of_le_of_lt h (by decide)
theorem len_ofb {b : Bytes} (h : (bytesR b).length ≤ 2 ^ 47) : b.length < 2 ^ 48 := Nat.lt_of_le_of_lt (by simpa [bytesR] using h) (by decide)
theorem len_ofl {α β : Type} {f : α → β} {l : List α} (h : (l.map f).length ≤ 2 ^ 47) : l.length < 2 ^ 48 := Nat.lt_of_le_of_lt (by simpa using h) (by decide)

def Page.shape : List Ty := [.bool, .sl 1 [.int .u8]]
theorem Page.ofShp (ts : List TV) (h : Shp Page.shape ts) : ∃ x : Page, ts = x.row ∧ x.fine := by
  obtain ⟨v_used, u0, rfl, h1⟩ := Shp.bool_inv h
  obtain ⟨r1, u1, rfl, lv_b, e1, h2⟩ := Shp.sl_inv h1
  obtain ⟨v_b, rfl⟩ := bytes_ofShp e1
  obtain rfl := Shp.nil_inv h2
  exact ⟨{ used := v_used, b := v_b }, rfl, len_ofb lv_b⟩
def Block.shape : List Ty := [.sl 2 Page.shape, .int .i64, .bool]
theorem Block.ofShp (ts : List TV) (h : Shp Block.shape ts) : ∃ x : Block, ts = x.row ∧ x.fine := by
  obtain ⟨r0, u0, rfl, lv_pages, e0, h1⟩ := Shp.sl_inv h
  obtain ⟨v_pages, rfl, gv_pages⟩ := rows_ofShp Page.ofShp e0
  obtain ⟨v_wear, u1, rfl, h2⟩ := Shp.int_inv h1
  obtain ⟨v_bad, u2, rfl, h3⟩ := Shp.bool_inv h2
  obtain rfl := Shp.nil_inv h3
  exact ⟨{ pages := v_pages, wear := v_wear, bad := v_bad }, rfl, ⟨len_ofl lv_pages, gv_pages⟩⟩
def Chip.shape : List Ty := [.sl 3 Block.shape]
theorem Chip.ofShp (ts : List TV) (h : Shp Chip.shape ts) : ∃ x : Chip, ts = x.row ∧ x.fine := by
  obtain ⟨r0, u0, rfl, lv_blocks, e0, h1⟩ := Shp.sl_inv h
  obtain ⟨v_blocks, rfl, gv_blocks⟩ := rows_ofShp Block.ofShp e0
  obtain rfl := Shp.nil_inv h1
  exact ⟨{ blocks := v_blocks }, rfl, ⟨len_ofl lv_blocks, gv_blocks⟩⟩
def Fault.shape : List Ty := [.int .i64, .int .i64, .int .i64]
theorem Fault.ofShp (ts : List TV) (h : Shp Fault.shape ts) : ∃ x : Fault, ts = x.row ∧ x.fine := by
  obtain ⟨v_at', u0, rfl, h1⟩ := Shp.int_inv h
  obtain ⟨v_kind, u1, rfl, h2⟩ := Shp.int_inv h1
  obtain ⟨v_keep, u2, rfl, h3⟩ := Shp.int_inv h2
  obtain rfl := Shp.nil_inv h3
  exact ⟨{ at' := v_at', kind := v_kind, keep := v_keep }, rfl, trivial⟩
def Dev.shape : List Ty := [.sl 3 Block.shape, .int .i64, .sl 3 Fault.shape, .bool]
theorem Dev.ofShp (ts : List TV) (h : Shp Dev.shape ts) : ∃ x : Dev, ts = x.row ∧ x.fine := by
  obtain ⟨r0, u0, rfl, lv_c_blocks, e0, h1⟩ := Shp.sl_inv h
  obtain ⟨v_c_blocks, rfl, gv_c_blocks⟩ := rows_ofShp Block.ofShp e0
  obtain ⟨v_ops, u1, rfl, h2⟩ := Shp.int_inv h1
  obtain ⟨r2, u2, rfl, lv_faults, e2, h3⟩ := Shp.sl_inv h2
  obtain ⟨v_faults, rfl, gv_faults⟩ := rows_ofShp Fault.ofShp e2
  obtain ⟨v_down, u3, rfl, h4⟩ := Shp.bool_inv h3
  obtain rfl := Shp.nil_inv h4
  exact ⟨{ c := { blocks := v_c_blocks }, ops := v_ops, faults := v_faults, down := v_down }, rfl, ⟨⟨len_ofl lv_c_blocks, gv_c_blocks⟩, len_ofl lv_faults⟩⟩
def Rec.shape : List Ty := [.int .i64, .int .i64, .sl 1 [.int .u8]]
theorem Rec.ofShp (ts : List TV) (h : Shp Rec.shape ts) : ∃ x : Rec, ts = x.row ∧ x.fine := by
  obtain ⟨v_kind, u0, rfl, h1⟩ := Shp.int_inv h
  obtain ⟨v_seq, u1, rfl, h2⟩ := Shp.int_inv h1
  obtain ⟨r2, u2, rfl, lv_body, e2, h3⟩ := Shp.sl_inv h2
  obtain ⟨v_body, rfl⟩ := bytes_ofShp e2
  obtain rfl := Shp.nil_inv h3
  exact ⟨{ kind := v_kind, seq := v_seq, body := v_body }, rfl, len_ofb lv_body⟩
def Op.shape : List Ty := [.int .i64, .int .i64, .str, .str, .int .i64, .sl 1 [.int .u8]]
theorem Op.ofShp (ts : List TV) (h : Shp Op.shape ts) : ∃ x : Op, ts = x.row ∧ x.fine := by
  obtain ⟨v_kind, u0, rfl, h1⟩ := Shp.int_inv h
  obtain ⟨v_vol, u1, rfl, h2⟩ := Shp.int_inv h1
  obtain ⟨v_path, u2, rfl, lv_path, h3⟩ := Shp.str_inv h2
  obtain ⟨v_to', u3, rfl, lv_to', h4⟩ := Shp.str_inv h3
  obtain ⟨v_off, u4, rfl, h5⟩ := Shp.int_inv h4
  obtain ⟨r5, u5, rfl, lv_data, e5, h6⟩ := Shp.sl_inv h5
  obtain ⟨v_data, rfl⟩ := bytes_ofShp e5
  obtain rfl := Shp.nil_inv h6
  exact ⟨{ kind := v_kind, vol := v_vol, path := v_path, to' := v_to', off := v_off, data := v_data }, rfl, ⟨len_ofs lv_path, len_ofs lv_to', len_ofb lv_data⟩⟩
def Log.shape : List Ty := [.sl 3 Block.shape, .int .i64, .sl 3 Fault.shape, .bool, .int .i64]
theorem Log.ofShp (ts : List TV) (h : Shp Log.shape ts) : ∃ x : Log, ts = x.row ∧ x.fine := by
  obtain ⟨r0, u0, rfl, lv_d_c_blocks, e0, h1⟩ := Shp.sl_inv h
  obtain ⟨v_d_c_blocks, rfl, gv_d_c_blocks⟩ := rows_ofShp Block.ofShp e0
  obtain ⟨v_d_ops, u1, rfl, h2⟩ := Shp.int_inv h1
  obtain ⟨r2, u2, rfl, lv_d_faults, e2, h3⟩ := Shp.sl_inv h2
  obtain ⟨v_d_faults, rfl, gv_d_faults⟩ := rows_ofShp Fault.ofShp e2
  obtain ⟨v_d_down, u3, rfl, h4⟩ := Shp.bool_inv h3
  obtain ⟨v_seq, u4, rfl, h5⟩ := Shp.int_inv h4
  obtain rfl := Shp.nil_inv h5
  exact ⟨{ d := { c := { blocks := v_d_c_blocks }, ops := v_d_ops, faults := v_d_faults, down := v_d_down }, seq := v_seq }, rfl, ⟨⟨len_ofl lv_d_c_blocks, gv_d_c_blocks⟩, len_ofl lv_d_faults⟩⟩
end Go.Proofs.Ytliklgcfdgdigaa.Awp

namespace Go.Proofs.Ytliklgcfdgdigaa.Awp
open Go.Proofs Go.Proofs.Ytliklgcfdgdigaa
set_option linter.unusedSimpArgs false
set_option linter.unusedVariables false
set_option maxRecDepth 100000

theorem own : ownKnob Try.prog.godebug = none := by kernel_rfl
/-- how the text of the program's start goes on -/
def ioTail : List Char := [Char.ofNat 97, Char.ofNat 116, Char.ofNat 32, Char.ofNat 108, Char.ofNat 111, Char.ofNat 111, Char.ofNat 112, Char.ofNat 46, Char.ofNat 101, Char.ofNat 120, Char.ofNat 97, Char.ofNat 109, Char.ofNat 112, Char.ofNat 108, Char.ofNat 101, Char.ofNat 47, Char.ofNat 103, Char.ofNat 48, Char.ofNat 48, Char.ofNat 50, Char.ofNat 56, Char.ofNat 53, Char.ofNat 47, Char.ofNat 108, Char.ofNat 97, Char.ofNat 119, Char.ofNat 115, Char.ofNat 46, Char.ofNat 70, Char.ofNat 110, Char.ofNat 69, Char.ofNat 120, Char.ofNat 97, Char.ofNat 99, Char.ofNat 116, Char.ofNat 82, Char.ofNat 101, Char.ofNat 99, Char.ofNat 79, Char.ofNat 107, Char.ofNat 32, Char.ofNat 108, Char.ofNat 111, Char.ofNat 111, Char.ofNat 112, Char.ofNat 46, Char.ofNat 101, Char.ofNat 120, Char.ofNat 97, Char.ofNat 109, Char.ofNat 112, Char.ofNat 108, Char.ofNat 101, Char.ofNat 47, Char.ofNat 103, Char.ofNat 48, Char.ofNat 48, Char.ofNat 50, Char.ofNat 56, Char.ofNat 53] ++ [Char.ofNat 47, Char.ofNat 108, Char.ofNat 97, Char.ofNat 119, Char.ofNat 115, Char.ofNat 46, Char.ofNat 70, Char.ofNat 110, Char.ofNat 69, Char.ofNat 120, Char.ofNat 97, Char.ofNat 99, Char.ofNat 116, Char.ofNat 67, Char.ofNat 104, Char.ofNat 97, Char.ofNat 110, Char.ofNat 103, Char.ofNat 101, Char.ofNat 115, Char.ofNat 32, Char.ofNat 108, Char.ofNat 111, Char.ofNat 111, Char.ofNat 112, Char.ofNat 46, Char.ofNat 101, Char.ofNat 120, Char.ofNat 97, Char.ofNat 109, Char.ofNat 112, Char.ofNat 108, Char.ofNat 101, Char.ofNat 47, Char.ofNat 103, Char.ofNat 48, Char.ofNat 48, Char.ofNat 50, Char.ofNat 56, Char.ofNat 53, Char.ofNat 47, Char.ofNat 108, Char.ofNat 97, Char.ofNat 119, Char.ofNat 115, Char.ofNat 46, Char.ofNat 70, Char.ofNat 110, Char.ofNat 69, Char.ofNat 120, Char.ofNat 97, Char.ofNat 99, Char.ofNat 116, Char.ofNat 80, Char.ofNat 117, Char.ofNat 116, Char.ofNat 79, Char.ofNat 112, Char.ofNat 32, Char.ofNat 108] ++ [Char.ofNat 111, Char.ofNat 111, Char.ofNat 112, Char.ofNat 46, Char.ofNat 101, Char.ofNat 120, Char.ofNat 97, Char.ofNat 109, Char.ofNat 112, Char.ofNat 108, Char.ofNat 101, Char.ofNat 47, Char.ofNat 103, Char.ofNat 48, Char.ofNat 48, Char.ofNat 50, Char.ofNat 56, Char.ofNat 53, Char.ofNat 47, Char.ofNat 108, Char.ofNat 97, Char.ofNat 119, Char.ofNat 115, Char.ofNat 46, Char.ofNat 70, Char.ofNat 110, Char.ofNat 69, Char.ofNat 120, Char.ofNat 97, Char.ofNat 99, Char.ofNat 116, Char.ofNat 67, Char.ofNat 104, Char.ofNat 105, Char.ofNat 112, Char.ofNat 78, Char.ofNat 101, Char.ofNat 119, Char.ofNat 32, Char.ofNat 108, Char.ofNat 111, Char.ofNat 111, Char.ofNat 112, Char.ofNat 46, Char.ofNat 101, Char.ofNat 120, Char.ofNat 97, Char.ofNat 109, Char.ofNat 112, Char.ofNat 108, Char.ofNat 101, Char.ofNat 47, Char.ofNat 103, Char.ofNat 48, Char.ofNat 48, Char.ofNat 50, Char.ofNat 56, Char.ofNat 53, Char.ofNat 47, Char.ofNat 108] ++ [Char.ofNat 97, Char.ofNat 119, Char.ofNat 115, Char.ofNat 46, Char.ofNat 70, Char.ofNat 110, Char.ofNat 69, Char.ofNat 120, Char.ofNat 97, Char.ofNat 99, Char.ofNat 116, Char.ofNat 80, Char.ofNat 117, Char.ofNat 116, Char.ofNat 82, Char.ofNat 101, Char.ofNat 99, Char.ofNat 32, Char.ofNat 108, Char.ofNat 111, Char.ofNat 111, Char.ofNat 112, Char.ofNat 46, Char.ofNat 101, Char.ofNat 120, Char.ofNat 97, Char.ofNat 109, Char.ofNat 112, Char.ofNat 108, Char.ofNat 101, Char.ofNat 47, Char.ofNat 103, Char.ofNat 48, Char.ofNat 48, Char.ofNat 50, Char.ofNat 56, Char.ofNat 53, Char.ofNat 47, Char.ofNat 108, Char.ofNat 97, Char.ofNat 119, Char.ofNat 115, Char.ofNat 46, Char.ofNat 70, Char.ofNat 110, Char.ofNat 69, Char.ofNat 120, Char.ofNat 97, Char.ofNat 99, Char.ofNat 116, Char.ofNat 87, Char.ofNat 111, Char.ofNat 114, Char.ofNat 110, Char.ofNat 79, Char.ofNat 102, Char.ofNat 32, Char.ofNat 108, Char.ofNat 111, Char.ofNat 111] ++ [Char.ofNat 112, Char.ofNat 46, Char.ofNat 101, Char.ofNat 120, Char.ofNat 97, Char.ofNat 109, Char.ofNat 112, Char.ofNat 108, Char.ofNat 101, Char.ofNat 47, Char.ofNat 103, Char.ofNat 48, Char.ofNat 48, Char.ofNat 50, Char.ofNat 56, Char.ofNat 53, Char.ofNat 47, Char.ofNat 108, Char.ofNat 97, Char.ofNat 119, Char.ofNat 115, Char.ofNat 46, Char.ofNat 70, Char.ofNat 110, Char.ofNat 69, Char.ofNat 120, Char.ofNat 97, Char.ofNat 99, Char.ofNat 116, Char.ofNat 71, Char.ofNat 101, Char.ofNat 116, Char.ofNat 79, Char.ofNat 112, Char.ofNat 32, Char.ofNat 108, Char.ofNat 111, Char.ofNat 111, Char.ofNat 112, Char.ofNat 46, Char.ofNat 101, Char.ofNat 120, Char.ofNat 97, Char.ofNat 109, Char.ofNat 112, Char.ofNat 108, Char.ofNat 101, Char.ofNat 47, Char.ofNat 103, Char.ofNat 48, Char.ofNat 48, Char.ofNat 50, Char.ofNat 56, Char.ofNat 53, Char.ofNat 47, Char.ofNat 108, Char.ofNat 97, Char.ofNat 119, Char.ofNat 115, Char.ofNat 46] ++ [Char.ofNat 70, Char.ofNat 110, Char.ofNat 69, Char.ofNat 120, Char.ofNat 97, Char.ofNat 99, Char.ofNat 116, Char.ofNat 78, Char.ofNat 101, Char.ofNat 120, Char.ofNat 116, Char.ofNat 80, Char.ofNat 97, Char.ofNat 103, Char.ofNat 101, Char.ofNat 32, Char.ofNat 108, Char.ofNat 111, Char.ofNat 111, Char.ofNat 112, Char.ofNat 46, Char.ofNat 101, Char.ofNat 120, Char.ofNat 97, Char.ofNat 109, Char.ofNat 112, Char.ofNat 108, Char.ofNat 101, Char.ofNat 47, Char.ofNat 103, Char.ofNat 48, Char.ofNat 48, Char.ofNat 50, Char.ofNat 56, Char.ofNat 53, Char.ofNat 47, Char.ofNat 108, Char.ofNat 97, Char.ofNat 119, Char.ofNat 115, Char.ofNat 46, Char.ofNat 70, Char.ofNat 110, Char.ofNat 69, Char.ofNat 120, Char.ofNat 97, Char.ofNat 99, Char.ofNat 116, Char.ofNat 67, Char.ofNat 104, Char.ofNat 105, Char.ofNat 112, Char.ofNat 79, Char.ofNat 107, Char.ofNat 32, Char.ofNat 108, Char.ofNat 111, Char.ofNat 111, Char.ofNat 112, Char.ofNat 46] ++ [Char.ofNat 101, Char.ofNat 120, Char.ofNat 97, Char.ofNat 109, Char.ofNat 112, Char.ofNat 108, Char.ofNat 101, Char.ofNat 47, Char.ofNat 103, Char.ofNat 48, Char.ofNat 48, Char.ofNat 50, Char.ofNat 56, Char.ofNat 53, Char.ofNat 47, Char.ofNat 108, Char.ofNat 97, Char.ofNat 119, Char.ofNat 115, Char.ofNat 46, Char.ofNat 70, Char.ofNat 110, Char.ofNat 82, Char.ofNat 101, Char.ofNat 99, Char.ofNat 115, Char.ofNat 32, Char.ofNat 108, Char.ofNat 111, Char.ofNat 111, Char.ofNat 112, Char.ofNat 46, Char.ofNat 101, Char.ofNat 120, Char.ofNat 97, Char.ofNat 109, Char.ofNat 112, Char.ofNat 108, Char.ofNat 101, Char.ofNat 47, Char.ofNat 103, Char.ofNat 48, Char.ofNat 48, Char.ofNat 50, Char.ofNat 56, Char.ofNat 53, Char.ofNat 47, Char.ofNat 108, Char.ofNat 97, Char.ofNat 119, Char.ofNat 115, Char.ofNat 46, Char.ofNat 70, Char.ofNat 110, Char.ofNat 69, Char.ofNat 120, Char.ofNat 97, Char.ofNat 99, Char.ofNat 116, Char.ofNat 82] ++ [Char.ofNat 101, Char.ofNat 97, Char.ofNat 100, Char.ofNat 80, Char.ofNat 97, Char.ofNat 103, Char.ofNat 101, Char.ofNat 32, Char.ofNat 108, Char.ofNat 111, Char.ofNat 111, Char.ofNat 112, Char.ofNat 46, Char.ofNat 101, Char.ofNat 120, Char.ofNat 97, Char.ofNat 109, Char.ofNat 112, Char.ofNat 108, Char.ofNat 101, Char.ofNat 47, Char.ofNat 103, Char.ofNat 48, Char.ofNat 48, Char.ofNat 50, Char.ofNat 56, Char.ofNat 53, Char.ofNat 47, Char.ofNat 108, Char.ofNat 97, Char.ofNat 119, Char.ofNat 115, Char.ofNat 46, Char.ofNat 70, Char.ofNat 110, Char.ofNat 78, Char.ofNat 101, Char.ofNat 119, Char.ofNat 67, Char.ofNat 104, Char.ofNat 105, Char.ofNat 112, Char.ofNat 115, Char.ofNat 32, Char.ofNat 108, Char.ofNat 111, Char.ofNat 111, Char.ofNat 112, Char.ofNat 46, Char.ofNat 101, Char.ofNat 120, Char.ofNat 97, Char.ofNat 109, Char.ofNat 112, Char.ofNat 108, Char.ofNat 101, Char.ofNat 47, Char.ofNat 103, Char.ofNat 48, Char.ofNat 48] ++ [Char.ofNat 50, Char.ofNat 56, Char.ofNat 53, Char.ofNat 47, Char.ofNat 108, Char.ofNat 97, Char.ofNat 119, Char.ofNat 115, Char.ofNat 46, Char.ofNat 70, Char.ofNat 110, Char.ofNat 73, Char.ofNat 110, Char.ofNat 84, Char.ofNat 117, Char.ofNat 114, Char.ofNat 110, Char.ofNat 32, Char.ofNat 108, Char.ofNat 111, Char.ofNat 111, Char.ofNat 112, Char.ofNat 46, Char.ofNat 101, Char.ofNat 120, Char.ofNat 97, Char.ofNat 109, Char.ofNat 112, Char.ofNat 108, Char.ofNat 101, Char.ofNat 47, Char.ofNat 103, Char.ofNat 48, Char.ofNat 48, Char.ofNat 50, Char.ofNat 56, Char.ofNat 53, Char.ofNat 47, Char.ofNat 108, Char.ofNat 97, Char.ofNat 119, Char.ofNat 115, Char.ofNat 46, Char.ofNat 70, Char.ofNat 110, Char.ofNat 69, Char.ofNat 120, Char.ofNat 97, Char.ofNat 99, Char.ofNat 116, Char.ofNat 71, Char.ofNat 101, Char.ofNat 116, Char.ofNat 82, Char.ofNat 101, Char.ofNat 99, Char.ofNat 32, Char.ofNat 108, Char.ofNat 111, Char.ofNat 111] ++ [Char.ofNat 112, Char.ofNat 46, Char.ofNat 101, Char.ofNat 120, Char.ofNat 97, Char.ofNat 109, Char.ofNat 112, Char.ofNat 108, Char.ofNat 101, Char.ofNat 47, Char.ofNat 103, Char.ofNat 48, Char.ofNat 48, Char.ofNat 50, Char.ofNat 56, Char.ofNat 53, Char.ofNat 47, Char.ofNat 108, Char.ofNat 97, Char.ofNat 119, Char.ofNat 115, Char.ofNat 46, Char.ofNat 70, Char.ofNat 110, Char.ofNat 69, Char.ofNat 120, Char.ofNat 97, Char.ofNat 99, Char.ofNat 116, Char.ofNat 70, Char.ofNat 97, Char.ofNat 117, Char.ofNat 108, Char.ofNat 116, Char.ofNat 65, Char.ofNat 116, Char.ofNat 32, Char.ofNat 108, Char.ofNat 111, Char.ofNat 111, Char.ofNat 112, Char.ofNat 46, Char.ofNat 101, Char.ofNat 120, Char.ofNat 97, Char.ofNat 109, Char.ofNat 112, Char.ofNat 108, Char.ofNat 101, Char.ofNat 47, Char.ofNat 103, Char.ofNat 48, Char.ofNat 48, Char.ofNat 50, Char.ofNat 56, Char.ofNat 53, Char.ofNat 47, Char.ofNat 108, Char.ofNat 97, Char.ofNat 119] ++ [Char.ofNat 115, Char.ofNat 46, Char.ofNat 70, Char.ofNat 110, Char.ofNat 69, Char.ofNat 114, Char.ofNat 97, Char.ofNat 115, Char.ofNat 101, Char.ofNat 100, Char.ofNat 32, Char.ofNat 108, Char.ofNat 111, Char.ofNat 111, Char.ofNat 112, Char.ofNat 46, Char.ofNat 101, Char.ofNat 120, Char.ofNat 97, Char.ofNat 109, Char.ofNat 112, Char.ofNat 108, Char.ofNat 101, Char.ofNat 47, Char.ofNat 103, Char.ofNat 48, Char.ofNat 48, Char.ofNat 50, Char.ofNat 56, Char.ofNat 53, Char.ofNat 47, Char.ofNat 108, Char.ofNat 97, Char.ofNat 119, Char.ofNat 115, Char.ofNat 46, Char.ofNat 70, Char.ofNat 110, Char.ofNat 67, Char.ofNat 104, Char.ofNat 105, Char.ofNat 112, Char.ofNat 115, Char.ofNat 32, Char.ofNat 108, Char.ofNat 111, Char.ofNat 111, Char.ofNat 112, Char.ofNat 46, Char.ofNat 101, Char.ofNat 120, Char.ofNat 97, Char.ofNat 109, Char.ofNat 112, Char.ofNat 108, Char.ofNat 101, Char.ofNat 47, Char.ofNat 103, Char.ofNat 48, Char.ofNat 48] ++ [Char.ofNat 50, Char.ofNat 56, Char.ofNat 53, Char.ofNat 47, Char.ofNat 108, Char.ofNat 97, Char.ofNat 119, Char.ofNat 115, Char.ofNat 46, Char.ofNat 70, Char.ofNat 110, Char.ofNat 82, Char.ofNat 101, Char.ofNat 99, Char.ofNat 115, Char.ofNat 82, Char.ofNat 101, Char.ofNat 97, Char.ofNat 100, Char.ofNat 32, Char.ofNat 108, Char.ofNat 111, Char.ofNat 111, Char.ofNat 112, Char.ofNat 46, Char.ofNat 101, Char.ofNat 120, Char.ofNat 97, Char.ofNat 109, Char.ofNat 112, Char.ofNat 108, Char.ofNat 101, Char.ofNat 47, Char.ofNat 103, Char.ofNat 48, Char.ofNat 48, Char.ofNat 50, Char.ofNat 56, Char.ofNat 53, Char.ofNat 47, Char.ofNat 108, Char.ofNat 97, Char.ofNat 119, Char.ofNat 115, Char.ofNat 46, Char.ofNat 70, Char.ofNat 110, Char.ofNat 69, Char.ofNat 120, Char.ofNat 97, Char.ofNat 99, Char.ofNat 116, Char.ofNat 68, Char.ofNat 101, Char.ofNat 118, Char.ofNat 79, Char.ofNat 107, Char.ofNat 32, Char.ofNat 108, Char.ofNat 111] ++ [Char.ofNat 111, Char.ofNat 112, Char.ofNat 46, Char.ofNat 101, Char.ofNat 120, Char.ofNat 97, Char.ofNat 109, Char.ofNat 112, Char.ofNat 108, Char.ofNat 101, Char.ofNat 47, Char.ofNat 103, Char.ofNat 48, Char.ofNat 48, Char.ofNat 50, Char.ofNat 56, Char.ofNat 53, Char.ofNat 47, Char.ofNat 108, Char.ofNat 97, Char.ofNat 119, Char.ofNat 115, Char.ofNat 46, Char.ofNat 70, Char.ofNat 110, Char.ofNat 69, Char.ofNat 120, Char.ofNat 97, Char.ofNat 99, Char.ofNat 116, Char.ofNat 70, Char.ofNat 114, Char.ofNat 101, Char.ofNat 101, Char.ofNat 66, Char.ofNat 108, Char.ofNat 111, Char.ofNat 99, Char.ofNat 107, Char.ofNat 115, Char.ofNat 32, Char.ofNat 108, Char.ofNat 111, Char.ofNat 111, Char.ofNat 112, Char.ofNat 46, Char.ofNat 101, Char.ofNat 120, Char.ofNat 97, Char.ofNat 109, Char.ofNat 112, Char.ofNat 108, Char.ofNat 101, Char.ofNat 47, Char.ofNat 103, Char.ofNat 48, Char.ofNat 48, Char.ofNat 50, Char.ofNat 56, Char.ofNat 53] ++ [Char.ofNat 47, Char.ofNat 108, Char.ofNat 97, Char.ofNat 119, Char.ofNat 115, Char.ofNat 46, Char.ofNat 70, Char.ofNat 110, Char.ofNat 69, Char.ofNat 120, Char.ofNat 97, Char.ofNat 99, Char.ofNat 116, Char.ofNat 68, Char.ofNat 101, Char.ofNat 118, Char.ofNat 78, Char.ofNat 101, Char.ofNat 119, Char.ofNat 32, Char.ofNat 108, Char.ofNat 111, Char.ofNat 111, Char.ofNat 112, Char.ofNat 46, Char.ofNat 101, Char.ofNat 120, Char.ofNat 97, Char.ofNat 109, Char.ofNat 112, Char.ofNat 108, Char.ofNat 101, Char.ofNat 47, Char.ofNat 103, Char.ofNat 48, Char.ofNat 48, Char.ofNat 50, Char.ofNat 56, Char.ofNat 53, Char.ofNat 47, Char.ofNat 108, Char.ofNat 97, Char.ofNat 119, Char.ofNat 115, Char.ofNat 46, Char.ofNat 70, Char.ofNat 110, Char.ofNat 69, Char.ofNat 120, Char.ofNat 97, Char.ofNat 99, Char.ofNat 116, Char.ofNat 69, Char.ofNat 114, Char.ofNat 97, Char.ofNat 115, Char.ofNat 101, Char.ofNat 32, Char.ofNat 108, Char.ofNat 111] ++ [Char.ofNat 111, Char.ofNat 112, Char.ofNat 46, Char.ofNat 101, Char.ofNat 120, Char.ofNat 97, Char.ofNat 109, Char.ofNat 112, Char.ofNat 108, Char.ofNat 101, Char.ofNat 47, Char.ofNat 103, Char.ofNat 48, Char.ofNat 48, Char.ofNat 50, Char.ofNat 56, Char.ofNat 53, Char.ofNat 47, Char.ofNat 108, Char.ofNat 97, Char.ofNat 119, Char.ofNat 115, Char.ofNat 46, Char.ofNat 70, Char.ofNat 110, Char.ofNat 69, Char.ofNat 120, Char.ofNat 97, Char.ofNat 99, Char.ofNat 116, Char.ofNat 80, Char.ofNat 114, Char.ofNat 111, Char.ofNat 103, Char.ofNat 114, Char.ofNat 97, Char.ofNat 109, Char.ofNat 32, Char.ofNat 108, Char.ofNat 111, Char.ofNat 111, Char.ofNat 112, Char.ofNat 46, Char.ofNat 101, Char.ofNat 120, Char.ofNat 97, Char.ofNat 109, Char.ofNat 112, Char.ofNat 108, Char.ofNat 101, Char.ofNat 47, Char.ofNat 103, Char.ofNat 48, Char.ofNat 48, Char.ofNat 50, Char.ofNat 56, Char.ofNat 53, Char.ofNat 47, Char.ofNat 108, Char.ofNat 97] ++ [Char.ofNat 119, Char.ofNat 115, Char.ofNat 46, Char.ofNat 70, Char.ofNat 110, Char.ofNat 69, Char.ofNat 120, Char.ofNat 97, Char.ofNat 99, Char.ofNat 116, Char.ofNat 80, Char.ofNat 111, Char.ofNat 119, Char.ofNat 101, Char.ofNat 114, Char.ofNat 85, Char.ofNat 112, Char.ofNat 32, Char.ofNat 108, Char.ofNat 111, Char.ofNat 111, Char.ofNat 112, Char.ofNat 46, Char.ofNat 101, Char.ofNat 120, Char.ofNat 97, Char.ofNat 109, Char.ofNat 112, Char.ofNat 108, Char.ofNat 101, Char.ofNat 47, Char.ofNat 103, Char.ofNat 48, Char.ofNat 48, Char.ofNat 50, Char.ofNat 56, Char.ofNat 53, Char.ofNat 47, Char.ofNat 108, Char.ofNat 97, Char.ofNat 119, Char.ofNat 115, Char.ofNat 46, Char.ofNat 70, Char.ofNat 110, Char.ofNat 68, Char.ofNat 101, Char.ofNat 118, Char.ofNat 115, Char.ofNat 32, Char.ofNat 108, Char.ofNat 111, Char.ofNat 111, Char.ofNat 112, Char.ofNat 46, Char.ofNat 101, Char.ofNat 120, Char.ofNat 97, Char.ofNat 109, Char.ofNat 112] ++ [Char.ofNat 108, Char.ofNat 101, Char.ofNat 47, Char.ofNat 103, Char.ofNat 48, Char.ofNat 48, Char.ofNat 50, Char.ofNat 56, Char.ofNat 53, Char.ofNat 47, Char.ofNat 108, Char.ofNat 97, Char.ofNat 119, Char.ofNat 115, Char.ofNat 46, Char.ofNat 70, Char.ofNat 110, Char.ofNat 68, Char.ofNat 101, Char.ofNat 118, Char.ofNat 69, Char.ofNat 114, Char.ofNat 97, Char.ofNat 115, Char.ofNat 101, Char.ofNat 100, Char.ofNat 32, Char.ofNat 108, Char.ofNat 111, Char.ofNat 111, Char.ofNat 112, Char.ofNat 46, Char.ofNat 101, Char.ofNat 120, Char.ofNat 97, Char.ofNat 109, Char.ofNat 112, Char.ofNat 108, Char.ofNat 101, Char.ofNat 47, Char.ofNat 103, Char.ofNat 48, Char.ofNat 48, Char.ofNat 50, Char.ofNat 56, Char.ofNat 53, Char.ofNat 47, Char.ofNat 108, Char.ofNat 97, Char.ofNat 119, Char.ofNat 115, Char.ofNat 46, Char.ofNat 70, Char.ofNat 110, Char.ofNat 80, Char.ofNat 111, Char.ofNat 119, Char.ofNat 101, Char.ofNat 114, Char.ofNat 115] ++ [Char.ofNat 32, Char.ofNat 108, Char.ofNat 111, Char.ofNat 111, Char.ofNat 112, Char.ofNat 46, Char.ofNat 101, Char.ofNat 120, Char.ofNat 97, Char.ofNat 109, Char.ofNat 112, Char.ofNat 108, Char.ofNat 101, Char.ofNat 47, Char.ofNat 103, Char.ofNat 48, Char.ofNat 48, Char.ofNat 50, Char.ofNat 56, Char.ofNat 53, Char.ofNat 47, Char.ofNat 108, Char.ofNat 97, Char.ofNat 119, Char.ofNat 115, Char.ofNat 46, Char.ofNat 70, Char.ofNat 110, Char.ofNat 69, Char.ofNat 120, Char.ofNat 97, Char.ofNat 99, Char.ofNat 116, Char.ofNat 68, Char.ofNat 101, Char.ofNat 118, Char.ofNat 69, Char.ofNat 114, Char.ofNat 97, Char.ofNat 115, Char.ofNat 101, Char.ofNat 32, Char.ofNat 108, Char.ofNat 111, Char.ofNat 111, Char.ofNat 112, Char.ofNat 46, Char.ofNat 101, Char.ofNat 120, Char.ofNat 97, Char.ofNat 109, Char.ofNat 112, Char.ofNat 108, Char.ofNat 101, Char.ofNat 47, Char.ofNat 103, Char.ofNat 48, Char.ofNat 48, Char.ofNat 50, Char.ofNat 56] ++ [Char.ofNat 53, Char.ofNat 47, Char.ofNat 108, Char.ofNat 97, Char.ofNat 119, Char.ofNat 115, Char.ofNat 46, Char.ofNat 70, Char.ofNat 110, Char.ofNat 69, Char.ofNat 120, Char.ofNat 97, Char.ofNat 99, Char.ofNat 116, Char.ofNat 68, Char.ofNat 101, Char.ofNat 118, Char.ofNat 80, Char.ofNat 114, Char.ofNat 111, Char.ofNat 103, Char.ofNat 114, Char.ofNat 97, Char.ofNat 109]
def ioSum : List Char := [Char.ofNat 98, Char.ofNat 51, Char.ofNat 102, Char.ofNat 55, Char.ofNat 99, Char.ofNat 48, Char.ofNat 100, Char.ofNat 99, Char.ofNat 52, Char.ofNat 51, Char.ofNat 51, Char.ofNat 102, Char.ofNat 99, Char.ofNat 98, Char.ofNat 52, Char.ofNat 55, Char.ofNat 53, Char.ofNat 52, Char.ofNat 55, Char.ofNat 49, Char.ofNat 102, Char.ofNat 53, Char.ofNat 56, Char.ofNat 48, Char.ofNat 101, Char.ofNat 102, Char.ofNat 54, Char.ofNat 97, Char.ofNat 99, Char.ofNat 57, Char.ofNat 54, Char.ofNat 49, Char.ofNat 100, Char.ofNat 51, Char.ofNat 97, Char.ofNat 55, Char.ofNat 99, Char.ofNat 57, Char.ofNat 57, Char.ofNat 53, Char.ofNat 49, Char.ofNat 100, Char.ofNat 100, Char.ofNat 49, Char.ofNat 51, Char.ofNat 52, Char.ofNat 101, Char.ofNat 102, Char.ofNat 98, Char.ofNat 98, Char.ofNat 99, Char.ofNat 56, Char.ofNat 53, Char.ofNat 98, Char.ofNat 99, Char.ofNat 53, Char.ofNat 49, Char.ofNat 48, Char.ofNat 52, Char.ofNat 48, Char.ofNat 48, Char.ofNat 100, Char.ofNat 97, Char.ofNat 98]
theorem ioText : Try.prog.initOrder = String.ofList ([Char.ofNat 104, Char.ofNat 97, Char.ofNat 114, Char.ofNat 110, Char.ofNat 101, Char.ofNat 115, Char.ofNat 115] ++ (Char.ofNat 32 :: ioSum) ++ [Char.ofNat 32, Char.ofNat 99, Char.ofNat 117, Char.ofNat 116, Char.ofNat 32] ++ ioTail) := by kernel_rfl
theorem ioWords : ∃ r, behindMainWord (wordsSigns Try.prog.initOrder.toList) = [Char.ofNat 99, Char.ofNat 117, Char.ofNat 116] :: r := by
  rw [ioText, String.toList_ofList]
  exact ⟨wordsSigns ioTail, by kernel_rfl⟩
theorem f_laid : (laidOutB Try.prog) = true := by kernel_rfl
theorem f_maps : (mapsRowed Try.prog) = true := by kernel_rfl
theorem f_stops : ((Try.prog.stops == [])) = true := by kernel_rfl
theorem f_knobs : ((Try.prog.stopKnobs == [])) = true := by kernel_rfl
theorem f_heard : (Try.prog.stopsHeard) = true := by kernel_rfl
theorem f_enter : (Try.prog.mayEnter) = true := by
  obtain ⟨r, hr⟩ := ioWords
  exact enter_of hr (by kernel_rfl) (by kernel_rfl) (by kernel_rfl)
theorem f_lifts : (false == Try.prog.liftsFinal) = true := by
  obtain ⟨r, hr⟩ := ioWords
  rw [lifts_of hr]
  rfl
theorem f_make : (Try.prog.make == some .cut) = true := by
  obtain ⟨r, hr⟩ := ioWords
  rw [make_of hr]
  rfl
end Go.Proofs.Ytliklgcfdgdigaa.Awp

namespace Go.Proofs.Ytliklgcfdgdigaa.Awp
open Go.Proofs Go.Proofs.Ytliklgcfdgdigaa
set_option linter.unusedSimpArgs false
set_option linter.unusedVariables false
set_option maxRecDepth 100000

theorem j0_FnExactDevOk : (Rows.fnExactDevOkRow.wf (OpenSpec.ofChange Rows.fnExactDevOkSpec)) = true := by kernel_rfl
theorem j3_FnExactDevOk : (Try.f21.params.all (Try.prog.readableRec ·)) = true := by kernel_rfl
theorem j4_FnExactDevOk : (namedTie Try.prog Rows.fnExactDevOkRow.named Rows.fnExactDevOkSpec.vars) = true := by kernel_rfl
theorem j5_FnExactDevOk : ((Rows.fnExactDevOkRow.stops == [])) = true := by kernel_rfl
theorem j7_FnExactDevOk : ((Rows.fnExactDevOkRow.knobs == [])) = true := by kernel_rfl
theorem j9_FnExactDevOk : ((Rows.fnExactDevOkRow.inPlace == Try.prog.inPlace 21)) = true := by kernel_rfl
theorem j10_FnExactDevOk : ((Rows.fnExactDevOkRow.unfollowed == Try.prog.unfollowed 21)) = true := by kernel_rfl
theorem j11_FnExactDevOk : ((Rows.fnExactDevOkRow.recurses == Try.prog.recurses 21)) = true := by kernel_rfl
theorem j12_FnExactDevOk : ((Rows.fnExactDevOkRow.named == Try.prog.varsNamed 21)) = true := by kernel_rfl
theorem j13_FnExactDevOk : ((Rows.fnExactDevOkRow.maps == (Try.f21.params.toList ++ Rows.fnExactDevOkSpec.plain.varTypes Try.prog).any (Try.prog.mapsRec ·))) = true := by kernel_rfl
theorem j14_FnExactDevOk : ((Rows.fnExactDevOkRow.ifaces == (Try.f21.params.toList ++ Rows.fnExactDevOkSpec.plain.varTypes Try.prog).any (Try.prog.ifacesRec ·))) = true := by kernel_rfl
theorem j15_FnExactDevOk : ((Rows.fnExactDevOkRow.mapsOut == Try.prog.mapsAmong Try.f21.resultTypes.toList)) = true := by kernel_rfl
theorem j16_FnExactDevOk : ((Rows.fnExactDevOkRow.loops == (Try.f21.params.toList ++ Rows.fnExactDevOkSpec.plain.varTypes Try.prog).any (Try.prog.loopsFrom ·))) = true := by kernel_rfl
theorem j17_FnExactDevOk : ((Rows.fnExactDevOkRow.wideKeys == (Try.f21.params.toList ++ Rows.fnExactDevOkSpec.plain.varTypes Try.prog ++ Try.f21.resultTypes.toList).any (Try.prog.wideKeysFrom ·))) = true := by kernel_rfl
theorem j18_FnExactDevOk : (Rows.fnExactDevOkSpec.vars.all (Try.prog.varReadable ·)) = true := by kernel_rfl
theorem j19_FnExactDevOk : (Try.f21.resultTypes.all (fun t => Try.prog.readableRec t && decide (t < Try.prog.types.size))) = true := by kernel_rfl
theorem j20_FnExactDevOk : ((Rows.fnExactDevOkRow.ifacesOut == Try.f21.resultTypes.toList.any (Try.prog.ifacesRec ·))) = true := by kernel_rfl
theorem j21_FnExactDevOk : ((Rows.fnExactDevOkRow.loopsOut == Try.f21.resultTypes.toList.any (Try.prog.loopsFrom ·))) = true := by kernel_rfl
theorem j22_FnExactDevOk : ((Rows.fnExactDevOkRow.plainKeys == Try.prog.plainKeys)) = true := by kernel_rfl
theorem j23_FnExactDevOk : (Rows.fnExactDevOkRow.shortTexts.isNone) = true := by kernel_rfl
theorem j28_FnExactDevOk : ((Rows.fnExactDevOkRow.kinds == (if Rows.fnExactDevOkRow.domain.isEmpty then [] else Try.f21.params.toList.map fun t => match Try.prog.underlying t with | some (.int k) => some k | _ => none))) = true := by kernel_rfl
theorem j29_FnExactDevOk : ((Rows.fnExactDevOkRow.pinned == Rows.fnExactDevOkRow.pinnedBy)) = true := by kernel_rfl
theorem j30_FnExactDevOk : ((Rows.fnExactDevOkRow.veiled == (Try.f21.params.toList ++ Rows.fnExactDevOkSpec.plain.varTypes Try.prog ++ Try.f21.resultTypes.toList).any (Try.prog.veiledRec ·))) = true := by kernel_rfl
theorem j31_FnExactDevOk : (Rows.fnExactDevOkRow.veiledFits Try.prog Try.f21.params.toList (Try.f21.params.toList ++ Rows.fnExactDevOkSpec.plain.varTypes Try.prog ++ Try.f21.resultTypes.toList)) = true := by kernel_rfl
theorem jf_FnExactDevOk : joinedFacts Try.prog 21 Try.f21 Rows.fnExactDevOkSpec Rows.fnExactDevOkRow = true :=
  joined_of j0_FnExactDevOk f_laid f_maps j3_FnExactDevOk j4_FnExactDevOk j5_FnExactDevOk f_stops j7_FnExactDevOk f_knobs j9_FnExactDevOk j10_FnExactDevOk j11_FnExactDevOk j12_FnExactDevOk j13_FnExactDevOk j14_FnExactDevOk j15_FnExactDevOk j16_FnExactDevOk j17_FnExactDevOk j18_FnExactDevOk j19_FnExactDevOk j20_FnExactDevOk j21_FnExactDevOk j22_FnExactDevOk j23_FnExactDevOk f_heard f_enter f_lifts f_make j28_FnExactDevOk j29_FnExactDevOk j30_FnExactDevOk j31_FnExactDevOk

theorem lift_FnExactDevOk (os : Os) (started : os.Started) (H : Type) (enc : TypeId × Value → H) :
    ReturnsInHanded {} Try.checked os 21 .any (Rows.fnExactDevOkSpec.pre6 enc Try.prog Try.f21 Rows.fnExactDevOkRow.domain false) (Rows.fnExactDevOkSpec.post enc Try.prog Try.f21 false true false false) := by
  refine law_returns (C := Try.checked) (pars := [(true, Dev.shape)]) own started (by kernel_rfl) Try.func21
    (ChangeSpec.witness6 (enc := enc) (C := Try.checked) false ⟨#[], #[.agg #[.slice none 0 0, .int .i64 0, .slice none 0 0, .bool false]], []⟩ 8 (by kernel_rfl) (by kernel_rfl) (by kernel_rfl) (by kernel_rfl))
    rfl (by kernel_rfl) rfl (by kernel_rfl) ?_ ?_
  · intro ds hd
    match ds, hd with
    | [d0], _ => rfl
  · intro tss h
    match tss, h with
    | [t0], ⟨h0, _⟩ =>
      obtain ⟨r, rfl, hf⟩ := Dev.ofShp t0 h0
      exact ⟨_, s_FnExactDevOk r hf⟩

theorem hw_FnExactDevOk : Try.f21.isWrapper Try.prog Rows.fnExactDevOkRow.wrapper Rows.fnExactDevOkRow.mainSum := by
  unfold Func.isWrapper; first | (rw [if_pos (by decide +kernel)]; kernel_rfl) | (rw [if_neg (by decide +kernel)]; exact ⟨rfl, rfl⟩)

theorem law_FnExactDevOk : Rows.FnExactDevOkSaid :=
  OpenClaim.holds_of_wide 21 Try.f21 rfl rfl rfl rfl rfl rfl rfl ⟨rfl, rfl, rfl, rfl, rfl⟩ rfl rfl rfl rfl rfl (by kernel_rfl) Try.func21 jf_FnExactDevOk
    (of_decide_eq_true (by kernel_rfl)) hw_FnExactDevOk
    (fun os started H enc _ => lift_FnExactDevOk os started H enc)
end Go.Proofs.Ytliklgcfdgdigaa.Awp

namespace Go.Proofs.Ytliklgcfdgdigaa
/-- the given statement -/
theorem provedFnExactDevOk : Rows.FnExactDevOkSaid := Awp.law_FnExactDevOk
end Go.Proofs.Ytliklgcfdgdigaa
#print axioms Go.Proofs.Ytliklgcfdgdigaa.provedFnExactDevOk
