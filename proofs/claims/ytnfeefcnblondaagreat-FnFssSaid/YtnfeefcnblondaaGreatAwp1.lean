/- A general law about the translated programs is proved here: what a function's code does to values that are trees of cells (part 1 of 4). Condition: none. -/
import Derived.Calls
import Derived.Orders
import Derived.Laws.World
import Derived.Laws.Cover3
import Derived.Laws.Strings
import Derived.Laws.Small
import Derived.Laws.StructEq
import Derived.Laws.Entries
import Derived.Laws.Slices
import Derived.Laws.Cells
import Derived.Lib.ConvBytes
import Derived.Laws.Tables
import Derived.Great.BuildSlice
import Derived.Laws.MakeOwn
set_option linter.unusedVariables false
set_option linter.unusedSimpArgs false
set_option maxRecDepth 100000
set_option maxHeartbeats 20000000
namespace Go.Proofs.YtnfeefcnblondaaGreat.Awp
theorem lB:type_of% @Option.map_some:=@Option.map_some
theorem lC:type_of% @decide_eq_false:=@decide_eq_false
theorem lD:type_of% @Option.bind_some:=@Option.bind_some
theorem lE:type_of% @Nat.le_of_ble_eq_true:=@Nat.le_of_ble_eq_true
theorem lF:type_of% @if_pos:=@if_pos
theorem lG:type_of% @List.mem_cons:=@List.mem_cons
theorem lH:type_of% @List.getElem?_eq_getElem:=@List.getElem?_eq_getElem
theorem lI:type_of% @List.getElem?_eq_some_iff:=@List.getElem?_eq_some_iff
theorem lJ:type_of% @List.take_append_drop:=@List.take_append_drop
theorem lK:type_of% @if_neg:=@if_neg
theorem lL:type_of% @List.mem_append:=@List.mem_append
theorem lM:type_of% @decide_eq_true:=@decide_eq_true
theorem lN:type_of% @Bool.and_eq_true:=@Bool.and_eq_true
theorem lO:type_of% @List.map_cons:=@List.map_cons
theorem lP:type_of% @if_true:=@if_true
theorem lQ:type_of% @List.getElem_mem:=@List.getElem_mem
theorem lR:type_of% @Option.map_none:=@Option.map_none
theorem lS:type_of% @List.take_succ_eq_append_getElem:=@List.take_succ_eq_append_getElem
theorem lT:type_of% @List.length_take:=@List.length_take
theorem lU:type_of% @List.getD_eq_getElem?_getD:=@List.getD_eq_getElem?_getD
theorem lV:type_of% @List.all_eq_true:=@List.all_eq_true
theorem lW:type_of% @Array.getD_eq_getD_getElem?:=@Array.getD_eq_getD_getElem?
theorem lY:type_of% @List.length_append:=@List.length_append
theorem lZ:type_of% @List.pairwise_cons:=@List.pairwise_cons
theorem lA1:type_of% @Option.isSome_iff_exists:=@Option.isSome_iff_exists
theorem lB1:type_of% @List.find?_cons_of_neg:=@List.find?_cons_of_neg
theorem lC1:type_of% @List.mem_singleton:=@List.mem_singleton
theorem lD1:type_of% @List.nil_append:=@List.nil_append
theorem lE1:type_of% @Array.getElem?_eq_getElem:=@Array.getElem?_eq_getElem
theorem lF1:type_of% @Option.getD_some:=@Option.getD_some
theorem lG1:type_of% @if_false:=@if_false
theorem lH1:type_of% @List.map_nil:=@List.map_nil
theorem lI1:type_of% @Nat.mul_le_mul_right:=@Nat.mul_le_mul_right
theorem lJ1:type_of% @List.getElem?_take:=@List.getElem?_take
theorem lK1:type_of% @Nat.min_eq_left:=@Nat.min_eq_left
theorem lL1:type_of% @List.getElem?_map:=@List.getElem?_map
theorem lM1:type_of% @List.find?_cons_of_pos:=@List.find?_cons_of_pos
theorem lN1:type_of% @List.length_cons:=@List.length_cons
theorem lO1:type_of% @List.getElem?_modify:=@List.getElem?_modify
theorem lP1:type_of% @Array.length_toList:=@Array.length_toList
theorem lQ1:type_of% @List.length_eq_zero_iff:=@List.length_eq_zero_iff
theorem lR1:type_of% @Option.bind_eq_some_iff:=@Option.bind_eq_some_iff
theorem lS1:type_of% @Nat.le_refl:=@Nat.le_refl
theorem lT1:type_of% @List.cons_append:=@List.cons_append
theorem lU1:type_of% @List.getElem_of_mem:=@List.getElem_of_mem
theorem lV1:type_of% @List.getElem?_eq_none:=@List.getElem?_eq_none
theorem lW1:type_of% @List.drop_drop:=@List.drop_drop
theorem lX1:type_of% @List.mem_map:=@List.mem_map
theorem lY1:type_of% @List.getElem?_drop:=@List.getElem?_drop
theorem lZ1:type_of% @List.flatten_append:=@List.flatten_append
theorem lA2:type_of% @List.mem_of_mem_take:=@List.mem_of_mem_take
theorem lB2:type_of% @List.sum_cons:=@List.sum_cons
theorem lC2:type_of% @Option.map_eq_some_iff:=@Option.map_eq_some_iff
theorem lD2:type_of% @Bool.false_and:=@Bool.false_and
theorem lE2:type_of% @List.take_length:=@List.take_length
theorem lF2:type_of% @Nat.zero_add:=@Nat.zero_add
theorem lG2:type_of% @List.drop_eq_getElem_cons:=@List.drop_eq_getElem_cons
theorem lH2:type_of% @List.length_drop:=@List.length_drop
theorem lI2:type_of% @List.ext_getElem?:=@List.ext_getElem?
theorem lJ2:type_of% @Array.getElem?_toList:=@Array.getElem?_toList
theorem lK2:type_of% @List.length_replicate:=@List.length_replicate
theorem lL2:type_of% @List.length_filter_le:=@List.length_filter_le
theorem lM2:type_of% @List.findIdx?_eq_some_iff_getElem:=@List.findIdx?_eq_some_iff_getElem
theorem lN2:type_of% @List.take_of_length_le:=@List.take_of_length_le
theorem lO2:type_of% @List.map_append:=@List.map_append
theorem lP2:type_of% @List.append_assoc:=@List.append_assoc
theorem lQ2:type_of% @List.pairwise_iff_getElem:=@List.pairwise_iff_getElem
theorem lR2:type_of% @Bool.and_false:=@Bool.and_false
theorem lS2:type_of% @List.mem_of_getElem?:=@List.mem_of_getElem?
theorem lT2:type_of% @Option.isSome_some:=@Option.isSome_some
theorem lU2:type_of% @List.append_nil:=@List.append_nil
theorem lV2:type_of% @List.foldl_cons:=@List.foldl_cons
theorem lW2:type_of% @List.length_map:=@List.length_map
theorem lX2:type_of% @Option.isSome_map:=@Option.isSome_map
theorem lY2:type_of% @List.isPrefixOf_iff_prefix:=@List.isPrefixOf_iff_prefix
theorem lZ2:type_of% @Nat.add_mul:=@Nat.add_mul
theorem lA3:type_of% @List.drop_of_length_le:=@List.drop_of_length_le
theorem lB3:type_of% @List.flatten_cons:=@List.flatten_cons
theorem lC3:type_of% @List.eq_nil_or_concat:=@List.eq_nil_or_concat
theorem lD3:type_of% @List.concat_eq_append:=@List.concat_eq_append
theorem lE3:type_of% @List.set_eq_take_append_cons_drop:=@List.set_eq_take_append_cons_drop
theorem lF3:type_of% @List.mem_filter:=@List.mem_filter
theorem lG3:type_of% @List.mem_of_mem_drop:=@List.mem_of_mem_drop
theorem lH3:type_of% @List.mem_flatMap:=@List.mem_flatMap
theorem lI3:type_of% @List.length_pos_iff:=@List.length_pos_iff
theorem lJ3:type_of% @List.getElem?_append_left:=@List.getElem?_append_left
theorem lK3:type_of% @List.eq_of_mem_replicate:=@List.eq_of_mem_replicate
theorem lL3:type_of% @List.filter_append:=@List.filter_append
theorem lM3:type_of% @Nat.zero_le:=@Nat.zero_le
theorem lN3:type_of% @List.getElem?_append:=@List.getElem?_append
theorem lO3:type_of% @List.getElem?_cons_zero:=@List.getElem?_cons_zero
theorem lP3:type_of% @Nat.succ_mul:=@Nat.succ_mul
theorem lQ3:type_of% @Nat.add_zero:=@Nat.add_zero
theorem lR3:type_of% @List.getElem?_set:=@List.getElem?_set
theorem lS3:type_of% @Option.map_eq_map:=@Option.map_eq_map
theorem lT3:type_of% @List.getElem_cons_zero:=@List.getElem_cons_zero
theorem lU3:type_of% @Nat.le_trans:=@Nat.le_trans
theorem lV3:type_of% @Nat.lt_of_lt_of_le:=@Nat.lt_of_lt_of_le
theorem lW3:type_of% @Bool.false_eq_true:=@Bool.false_eq_true
theorem lX3:type_of% @List.lt_irrefl:=@List.lt_irrefl
theorem lY3:type_of% @Bool.or_eq_false_iff:=@Bool.or_eq_false_iff
theorem lZ3:type_of% @Bool.eq_iff_iff:=@Bool.eq_iff_iff
theorem lA4:type_of% @Nat.zero_mul:=@Nat.zero_mul
theorem lB4:type_of% @List.getElem_modify:=@List.getElem_modify
theorem lC4:type_of% @Option.bind_eq_bind:=@Option.bind_eq_bind
theorem lD4:type_of% @List.map_take:=@List.map_take
theorem lE4:type_of% @List.filter_cons:=@List.filter_cons
theorem lF4:type_of% @List.mapM_cons:=@List.mapM_cons
theorem lG4:type_of% @Array.getElem?_eq_none:=@Array.getElem?_eq_none
theorem lH4:type_of% @List.drop_eq_nil_of_le:=@List.drop_eq_nil_of_le
theorem lI4:type_of% @Nat.lt_of_le_of_lt:=@Nat.lt_of_le_of_lt
theorem lJ4:type_of% @List.modify_succ_cons:=@List.modify_succ_cons
theorem lK4:type_of% @Bool.or_eq_true:=@Bool.or_eq_true
theorem lL4:type_of% @Array.getElem?_modify:=@Array.getElem?_modify
theorem lM4:type_of% @List.mem_of_mem_erase:=@List.mem_of_mem_erase
theorem lN4:type_of% @List.all_cons:=@List.all_cons
theorem lO4:type_of% @Bool.not_eq_true':=@Bool.not_eq_true'
theorem lP4:type_of% @List.all_eq_false:=@List.all_eq_false
theorem lQ4:type_of% @List.map_drop:=@List.map_drop
theorem lR4:type_of% @Array.toList_map:=@Array.toList_map
theorem lS4:type_of% @List.not_mem_nil:=@List.not_mem_nil
theorem lT4:type_of% @Bool.false_or:=@Bool.false_or
theorem lU4:type_of% @Option.pure_def:=@Option.pure_def
theorem lV4:type_of% @Bool.true_and:=@Bool.true_and
theorem lW4:type_of% @List.nodup_cons:=@List.nodup_cons
theorem lX4:type_of% @List.map_map:=@List.map_map
inductive TV where
 | undef
 | bool (b:Bool)
 | int (k:IntKind) (n:Int)
 | str (s:List UInt8)
 | sl (s:Nat) (es:List (List TV))
 deriving Inhabited
structure St where
 i:Nat
 s:Nat
 j:Nat
 deriving DecidableEq,Inhabited
abbrev a8:=List St
inductive AV where
 | undef
 | bool (b:Bool)
 | int (k:IntKind) (n:Int)
 | str (s:List UInt8)
 | own (s:Nat) (es:List (List TV))
 | ext (s:Nat) (es:List (List TV))
 | extv (v:Value) (s:Nat) (es:List (List TV))
 | box (cs:List AV)
 | xbox (cs:List TV)
 | agg (cs:List AV)
 | tup (vs:List AV)
 | lnk (r e:Nat) (p:a8)
 | sub (r e:Nat) (p:a8) (s lo n:Nat)
 | ref (r e:Nat) (p:a8) (st:St)
 | fn (f:Nat) (caps:List AV)
 deriving Inhabited
def c7 (s:List UInt8):Value:=.string ⟨s.toArray⟩
abbrev aH:=Nat→Nat
def j9 (w w':World) (F:aH):Prop:=∀ b,F b≠0→w'.heap[b]?=w.heap[b]?
def thaw (n:Nat) (fr:Nat × Nat):Prop:=∀ o,o<n→¬ (fr.1≤o∧o<fr.2)
def thawS (s n:Nat) (fr:Nat × Nat):Prop:=(∀ o,o<n∨(s≠1∧o=n)→¬ (fr.1≤o∧o<fr.2))∧fr.1≤fr.2
theorem thawS.thaw {s n:Nat} {fr:Nat × Nat} (h:thawS s n fr):thaw n fr:=fun o ho=>h.1 o (.inl ho)
inductive Row (w:World):Bool→aH→List Value→List TV→Prop where
 | nil (o:Bool) (F:aH) (h:∀ b,F b=0):Row w o F [] []
 | undef (o:Bool) (F:aH) (v:Value) (vs:List Value) (ts:List TV) (h:Row w o F vs ts):Row w o F (v::vs) (.undef::ts)
 | bool (o:Bool) (F:aH) (x:Bool) (vs:List Value) (ts:List TV) (h:Row w o F vs ts):Row w o F (.bool x::vs) (.bool x::ts)
 | int (o:Bool) (F:aH) (k:IntKind) (n:Int) (vs:List Value) (ts:List TV) (h:Row w o F vs ts):Row w o F (.int k n::vs) (.int k n::ts)
 | str (o:Bool) (F:aH) (s:List UInt8) (vs:List Value) (ts:List TV) (h:Row w o F vs ts):Row w o F (c7 s::vs) (.str s::ts)
 | own0 (F:aH) (s:Nat) (vs:List Value) (ts:List TV) (h:Row w true F vs ts):Row w true F (.slice none 0 0::vs) (.sl s []::ts)
 | ext0 (F:aH) (s:Nat) (a:Option Addr) (cap:Nat) (vs:List Value) (ts:List TV) (h:Row w false F vs ts):Row w false F (.slice a 0 cap::vs) (.sl s []::ts)
 | own (F F1 F2:aH) (s:Nat) (es:List (List TV)) (b off cap:Nat) (C:Array Value) (ty:TypeId) (fr:Nat × Nat) (cs:List Value) (vs:List Value) (ts:List TV)
   (hb:w.heap[b]?=some (.cells C ty fr)) (hfr:thawS s C.size fr) (hcap:off+cap*s≤C.size) (hle:es.length≤cap)
   (hs:∀ e ∈ es,e.length=s) (hcs:cs.length=es.length*s) (hc:∀ k,k<cs.length→C[off+k]?=cs[k]?)
   (h1:Row w true F1 cs es.flatten) (h:Row w true F2 vs ts) (hF:∀ x,F x=(if x=b then 1 else 0)+F1 x+F2 x) :
   Row w true F (.slice (some ⟨b,off,none⟩) es.length cap::vs) (.sl s es::ts)
 | ext (F F1 F2:aH) (s:Nat) (es:List (List TV)) (a:Addr) (cap:Nat) (cs:List Value) (vs:List Value) (ts:List TV) (hle:es.length≤cap)
   (hs:∀ e ∈ es,e.length=s) (hcs:cs.length=es.length*s) (hc:∀ k,k<cs.length→w.cell? (a.add k)=cs[k]?)
   (h1:Row w false F1 cs es.flatten) (h:Row w false F2 vs ts) (hF:∀ x,F x=(if x=a.block then 1 else 0)+F1 x+F2 x) :
   Row w false F (.slice (some a) es.length cap::vs) (.sl s es::ts)
theorem iH (a:Addr) (k:Nat):(a.add k).block=a.block:=by unfold Addr.add; split <;> rfl
theorem sI {w w':World} {a:Addr} (h:w'.heap[a.block]?=w.heap[a.block]?):w'.cell? a=w.cell? a:=by
 unfold World.cell?; rw [h]
theorem Row.foot {w:World} {o:Bool} {F G:aH} {vs:List Value} {ts:List TV} (h:Row w o F vs ts) (e:∀ b,G b=F b):Row w o G vs ts:=by
 have:G=F:=funext e
 rw [this]; exact h
theorem Row.same {w w':World} {o:Bool} {F:aH} {vs:List Value} {ts:List TV} (h:Row w o F vs ts) (hs:j9 w w' F):Row w' o F vs ts:=by
 induction h with
 | nil o F h=>exact .nil o F h
 | undef o F v vs ts h ih=>exact .undef o F v vs ts (ih hs)
 | bool o F x vs ts h ih=>exact .bool o F x vs ts (ih hs)
 | int o F k n vs ts h ih=>exact .int o F k n vs ts (ih hs)
 | str o F s vs ts h ih=>exact .str o F s vs ts (ih hs)
 | own0 F s vs ts h ih=>exact .own0 F s vs ts (ih hs)
 | ext0 F s a cap vs ts h ih=>exact .ext0 F s a cap vs ts (ih hs)
 | own F F1 F2 s es b off cap C ty fr cs vs ts hb hfr hcap hle hes hcs hc h1 h hF ih1 ih=>
  refine .own F F1 F2 s es b off cap C ty fr cs vs ts ?_ hfr hcap hle hes hcs hc (ih1 ?_) (ih ?_) hF
  ·rw [hs b (by rw [hF]; simp)]; exact hb
  ·intro x hx; exact hs x (by rw [hF]; omega)
  ·intro x hx; exact hs x (by rw [hF]; omega)
 | ext F F1 F2 s es a cap cs vs ts hle hes hcs hc h1 h hF ih1 ih=>
  refine .ext F F1 F2 s es a cap cs vs ts hle hes hcs ?_ (ih1 ?_) (ih ?_) hF
  ·intro k hk
   rw [sI (w:=w) (w':=w') (by rw [iH]; exact hs a.block (by rw [hF]; simp))]; exact hc k hk
  ·intro x hx; exact hs x (by rw [hF]; omega)
  ·intro x hx; exact hs x (by rw [hF]; omega)
theorem Row.length {w:World} {o:Bool} {F:aH} {vs:List Value} {ts:List TV} (h:Row w o F vs ts):vs.length=ts.length:=by
 induction h with
 | nil=>rfl
 | undef _ _ _ _ _ _ ih=>simp [ih]
 | bool _ _ _ _ _ _ ih=>simp [ih]
 | int _ _ _ _ _ _ _ ih=>simp [ih]
 | str _ _ _ _ _ _ ih=>simp [ih]
 | own0 _ _ _ _ _ ih=>simp [ih]
 | ext0 _ _ _ _ _ _ _ ih=>simp [ih]
 | own _ _ _ _ _ _ _ _ _ _ _ _ _ _ _ _ _ _ _ _ _ _ _ _ ih1 ih=>simp [ih]
 | ext _ _ _ _ _ _ _ _ _ _ _ _ _ _ _ _ _ ih1 ih=>simp [ih]
theorem Row.lt {w:World} {F:aH} {vs:List Value} {ts:List TV} {o:Bool} (h:Row w o F vs ts):o=true→∀ b,F b≠0→b<w.heap.size:=by
 induction h with
 | nil o F h=>intro _ b hb; exact absurd (h b) hb
 | undef o F v vs ts h ih=>exact ih
 | bool o F x vs ts h ih=>exact ih
 | int o F k n vs ts h ih=>exact ih
 | str o F s vs ts h ih=>exact ih
 | own0 F s vs ts h ih=>exact ih
 | ext0 F s a cap vs ts h ih=>exact ih
 | own F F1 F2 s es b off cap C ty fr cs vs ts hb hfr hcap hle hes hcs hc h1 h hF ih1 ih=>
  intro ho x hx
  rw [hF] at hx
  by_cases e:x=b
  ·subst e
   exact (Array.getElem?_eq_some_iff.1 hb).1
  ·by_cases e1:F1 x=0
   ·exact ih ho x (by simp [e,e1] at hx; exact hx)
   ·exact ih1 ho x e1
 | ext F F1 F2 s es a cap cs vs ts hle hes hcs hc h1 h hF ih1 ih=>intro ho; cases ho
theorem Row.append {w:World} {o:Bool} {F G H:aH} {vs us:List Value} {ts rs:List TV} (h:Row w o F vs ts) (g:Row w o G us rs)
  (e:∀ b,H b=F b+G b):Row w o H (vs++us) (ts++rs):=by
 induction h generalizing H with
 | nil o F h=>exact g.foot (fun b=>by rw [e,h]; omega)
 | undef o F v vs ts h ih=>exact .undef o H v _ _ (ih g e)
 | bool o F x vs ts h ih=>exact .bool o H x _ _ (ih g e)
 | int o F k n vs ts h ih=>exact .int o H k n _ _ (ih g e)
 | str o F s vs ts h ih=>exact .str o H s _ _ (ih g e)
 | own0 F s vs ts h ih=>exact .own0 H s _ _ (ih g e)
 | ext0 F s a cap vs ts h ih=>exact .ext0 H s a cap _ _ (ih g e)
 | own F F1 F2 s es b off cap C ty fr cs vs ts hb hfr hcap hle hes hcs hc h1 h hF ih1 ih=>
  exact .own H F1 (fun b=>F2 b+G b) s es b off cap C ty fr cs _ _ hb hfr hcap hle hes hcs hc h1 (ih g (fun _=>rfl)) (fun x=>by rw [e,hF]; omega)
 | ext F F1 F2 s es a cap cs vs ts hle hes hcs hc h1 h hF ih1 ih=>
  exact .ext H F1 (fun b=>F2 b+G b) s es a cap cs _ _ hle hes hcs hc h1 (ih g (fun _=>rfl)) (fun x=>by rw [e,hF]; omega)
theorem Row.cons {w:World} {o:Bool} {F G H:aH} {v:Value} {us:List Value} {t:TV} {rs:List TV} (h:Row w o F [v] [t]) (g:Row w o G us rs)
  (e:∀ b,H b=F b+G b):Row w o H (v::us) (t::rs):=by
 simpa using Row.append h g e
theorem Row.uncons {w:World} {o:Bool} {F:aH} {v:Value} {us:List Value} {t:TV} {rs:List TV} (h:Row w o F (v::us) (t::rs)) :
  ∃ F1 F2,Row w o F1 [v] [t]∧Row w o F2 us rs∧∀ b,F b=F1 b+F2 b:=by
 have z (o:Bool):Row w o (fun _=>0) [] []:=.nil o _ (fun _=>rfl)
 cases h with
 | undef _ _ _ _ _ h=>exact ⟨fun _=>0,F,.undef _ _ _ _ _ (z _),h,fun b=>by dsimp only; omega⟩
 | bool _ _ _ _ _ h=>exact ⟨fun _=>0,F,.bool _ _ _ _ _ (z _),h,fun b=>by dsimp only; omega⟩
 | int _ _ _ _ _ _ h=>exact ⟨fun _=>0,F,.int _ _ _ _ _ _ (z _),h,fun b=>by dsimp only; omega⟩
 | str _ _ _ _ _ h=>exact ⟨fun _=>0,F,.str _ _ _ _ _ (z _),h,fun b=>by dsimp only; omega⟩
 | own0 _ _ _ _ h=>exact ⟨fun _=>0,F,.own0 _ _ _ _ (z _),h,fun b=>by dsimp only; omega⟩
 | ext0 _ _ _ _ _ _ h=>exact ⟨fun _=>0,F,.ext0 _ _ _ _ _ _ (z _),h,fun b=>by dsimp only; omega⟩
 | own _ F1 F2 s es b off cap C ty fr cs _ _ hb hfr hcap hle hes hcs hc h1 h hF=>
  exact ⟨fun x=>(if x=b then 1 else 0)+F1 x,F2,.own _ F1 (fun _=>0) s es b off cap C ty fr cs _ _ hb hfr hcap hle hes hcs hc h1 (z _) (fun x=>by omega),h,fun x=>by rw [hF]⟩
 | ext _ F1 F2 s es a cap cs _ _ hle hes hcs hc h1 h hF=>
  exact ⟨fun x=>(if x=a.block then 1 else 0)+F1 x,F2,.ext _ F1 (fun _=>0) s es a cap cs _ _ hle hes hcs hc h1 (z _) (fun x=>by omega),h,fun x=>by rw [hF]⟩
theorem Row.split {w:World} {o:Bool} {F:aH} (xs:List Value) {us:List Value} (ts:List TV) {rs:List TV} (hl:xs.length=ts.length) (h:Row w o F (xs++us) (ts++rs)) :
  ∃ F1 F2,Row w o F1 xs ts∧Row w o F2 us rs∧∀ b,F b=F1 b+F2 b:=by
 induction xs generalizing F ts with
 | nil=>
  cases ts with
  | nil=>exact ⟨fun _=>0,F,.nil _ _ (fun _=>rfl),h,fun b=>by dsimp only; omega⟩
  | cons t ts=>simp at hl
 | cons v xs ih=>
  cases ts with
  | nil=>simp at hl
  | cons t ts=>
   obtain ⟨F1,F2,h1,h2,e⟩:=Row.uncons h
   obtain ⟨G1,G2,g1,g2,e'⟩:=ih ts (by simpa using hl) h2
   exact ⟨fun b=>F1 b+G1 b,G2,Row.cons h1 g1 (fun _=>rfl),g2,fun b=>by dsimp only; rw [e,e']; omega⟩
theorem Row.weak {w:World} {o:Bool} {F:aH} {vs:List Value} {ts:List TV} (h:Row w o F vs ts):o=true→∃ G,Row w false G vs ts∧∀ b,G b≤F b:=by
 induction h with
 | nil o F h=>exact fun _=>⟨F,.nil _ _ h,fun b=>lS1 _⟩
 | undef o F v vs ts h ih=>intro ho; obtain ⟨G,g,e⟩:=ih ho; exact ⟨G,.undef _ _ _ _ _ g,e⟩
 | bool o F v vs ts h ih=>intro ho; obtain ⟨G,g,e⟩:=ih ho; exact ⟨G,.bool _ _ _ _ _ g,e⟩
 | int o F k n vs ts h ih=>intro ho; obtain ⟨G,g,e⟩:=ih ho; exact ⟨G,.int _ _ _ _ _ _ g,e⟩
 | str o F v vs ts h ih=>intro ho; obtain ⟨G,g,e⟩:=ih ho; exact ⟨G,.str _ _ _ _ _ g,e⟩
 | own0 F s vs ts h ih=>intro ho; obtain ⟨G,g,e⟩:=ih ho; exact ⟨G,.ext0 _ _ _ _ _ _ g,e⟩
 | ext0 F s a cap vs ts h ih=>intro ho; cases ho
 | own F F1 F2 s es b off cap C ty fr cs vs ts hb hfr hcap hle hes hcs hc h1 h hF ih1 ih=>
  intro ho
  obtain ⟨G1,g1,e1⟩:=ih1 ho
  obtain ⟨G2,g2,e2⟩:=ih ho
  refine ⟨fun x=>(if x=b then 1 else 0)+G1 x+G2 x,.ext _ G1 G2 s es ⟨b,off,none⟩ cap cs vs ts hle hes hcs ?_ g1 g2 (fun _=>rfl),fun x=>by dsimp only; rw [hF]; have:=e1 x; have:=e2 x; omega⟩
  intro k hk
  rw [← hc k hk]
  unfold Addr.add
  by_cases e:k=0
  ·subst e; simp [World.cell?,hb]
  ·simp [e,World.cell?,hb]
 | ext F F1 F2 s es a cap cs vs ts hle hes hcs hc h1 h hF ih1 ih=>intro ho; cases ho
def jK:TV→a8→Option TV
 | t,[]=>some t
 | .sl s es,st::p=>if st.s=s then (es[st.i]?.bind (·[st.j]?)).bind (jK · p) else none
 | _,_::_=>none
def xQ:TV→a8→TV→TV
 | _,[],u=>u
 | .sl s es,st::p,u=>.sl s (es.modify st.i (·.modify st.j (xQ · p u)))
 | t,_::_,_=>t
def iI (w:World):Value→a8→Option Value
 | v,[]=>some v
 | .slice (some a) _ _,st::p=>(w.cell? (a.add (st.i*st.s+st.j))).bind (iI w · p)
 | .pointer (some a),st::p=>(w.cell? (a.add (st.i*st.s+st.j))).bind (iI w · p)
 | _,_::_=>none
theorem aiL {α:Type} {s:Nat} {es:List (List α)} (hs:∀ e ∈ es,e.length=s) {i j:Nat} {row:List α} {t:α} (hi:es[i]?=some row) (hj:row[j]?=some t) :
  es.flatten[i*s+j]?=some t:=by
 induction es generalizing i with
 | nil=>simp at hi
 | cons e es ih=>
  have he:e.length=s:=hs e (by simp)
  cases i with
  | zero=>
   simp at hi; subst hi
   have:j<e.length:=(lI.1 hj).1
   simp [lJ3 this,hj]
  | succ i=>
   simp at hi
   rw [lB3,List.getElem?_append_right (by rw [he,lP3]; omega),he]
   have:=ih (fun e h=>hs e (by simp [h])) hi
   rw [← this]; congr 1; rw [lP3]; omega
theorem v7 {α:Type} (a b:List α) (k:Nat) (f:α→α) (h:k<a.length):(a++b).modify k f=a.modify k f++b:=by
 induction a generalizing k with
 | nil=>simp at h
 | cons x a ih=>
  cases k with
  | zero=>simp [List.modify_zero_cons]
  | succ k=>simp only [lT1,lJ4]; rw [ih k (by simpa using h)]
theorem v8 {α:Type} (a b:List α) (k:Nat) (f:α→α) (h:a.length≤k):(a++b).modify k f=a++b.modify (k-a.length) f:=by
 induction a generalizing k with
 | nil=>simp
 | cons x a ih=>
  cases k with
  | zero=>simp at h
  | succ k=>simp only [lT1,lJ4]; rw [ih k (by simpa using h)]; simp
theorem aaR {α:Type} {s:Nat} {es:List (List α)} (hs:∀ e ∈ es,e.length=s) {i j:Nat} (f:α→α) (hj:j<s) (hi:i<es.length) :
  (es.modify i (·.modify j f)).flatten=es.flatten.modify (i*s+j) f:=by
 induction es generalizing i with
 | nil=>simp at hi
 | cons e es ih=>
  have he:e.length=s:=hs e (by simp)
  cases i with
  | zero=>
   simp [List.modify_zero_cons]
   rw [v7 _ _ _ _ (by omega)]
  | succ i=>
   simp only [lJ4,lB3]
   rw [ih (fun e h=>hs e (by simp [h])) (by simpa using hi),v8 _ _ _ _ (by rw [he,lP3]; omega),he]
   congr 2; rw [lP3]; omega
theorem aaS {α:Type} {s:Nat} {es:List (List α)} (hs:∀ e ∈ es,e.length=s) (i j:Nat) (f:α→α):∀ e ∈ es.modify i (·.modify j f),e.length=s:=by
 intro e he
 rw [List.mem_iff_getElem?] at he
 obtain ⟨k,hk⟩:=he
 rw [lO1] at hk
 cases h:es[k]? with
 | none=>simp [h] at hk
 | some x=>
  have hx:=hs x (lS2 h)
  simp [h] at hk
  subst hk
  by_cases e1:i=k <;> simp [e1,hx]
theorem pA {α:Type} {l:List α} {i:Nat} {x:α} (f:α→α) (h:l[i]?=some x):l.modify i f=l.set i (f x):=by
 apply lI2
 intro k
 rw [lO1,lR3]
 by_cases e:i=k
 ·subst e
  have:i<l.length:=(lI.1 h).1
  have hx:l[i]=x:=(lI.1 h).2
  simp [this,hx]
 ·simp [e]
theorem Row.at {w:World} {o:Bool} {F:aH} {vs:List Value} {ts:List TV} {k:Nat} {t:TV} (h:Row w o F vs ts) (hk:ts[k]?=some t) :
  ∃ v F1 F2,vs[k]?=some v∧Row w o F1 [v] [t]∧(∀ b,F b=F1 b+F2 b) ∧
   ∀ w',j9 w w' F2→∀ v' t' G,Row w' o G [v'] [t']→Row w' o (fun b=>G b+F2 b) (vs.set k v') (ts.set k t'):=by
 have hl:=h.length
 have hlt:k<ts.length:=(lI.1 hk).1
 have htk:ts=ts.take k++t::ts.drop (k+1):=by
  have:=(lI.1 hk).2
  rw [← this]; simp
 have hvk:vs=vs.take k++vs[k]'(by omega)::vs.drop (k+1):=by simp
 have h':Row w o F (vs.take k++vs[k]'(by omega)::vs.drop (k+1)) (ts.take k++t::ts.drop (k+1)):=by rw [← htk,← hvk]; exact h
 obtain ⟨F1,F2,h1,h2,e⟩:=Row.split _ _ (by simp [hl]) h'
 obtain ⟨G1,G2,g1,g2,e'⟩:=Row.uncons h2
 refine ⟨vs[k]'(by omega),G1,fun b=>F1 b+G2 b,by simp,g1,fun b=>by dsimp only; rw [e,e']; omega,?_⟩
 intro w' hs v' t' G hg
 have s1:Row w' o F1 (vs.take k) (ts.take k):=h1.same (fun b hb=>hs b (by first | omega | (dsimp only; omega) | (dsimp only at *; omega)))
 have s2:Row w' o G2 (vs.drop (k+1)) (ts.drop (k+1)):=g2.same (fun b hb=>hs b (by first | omega | (dsimp only; omega) | (dsimp only at *; omega)))
 have:=Row.append s1 (Row.cons hg s2 (fun _=>rfl)) (fun _=>rfl)
 rw [lE3,lE3]
 rw [lF (by omega),lF hlt]
 exact this.foot (fun b=>by dsimp only; omega)
theorem Row.sl_inv {w:World} {F:aH} {v:Value} {s:Nat} {es:List (List TV)} (h:Row w true F [v] [.sl s es]) :
  (v=.slice none 0 0∧es=[]∧∀ b,F b=0) ∨
  ∃ F1 b off cap C ty fr cs,v=.slice (some ⟨b,off,none⟩) es.length cap∧w.heap[b]?=some (.cells C ty fr)∧thawS s C.size fr∧off+cap*s≤C.size∧es.length≤cap ∧
   (∀ e ∈ es,e.length=s)∧cs.length=es.length*s∧(∀ k,k<cs.length→C[off+k]?=cs[k]?)∧Row w true F1 cs es.flatten∧∀ x,F x=(if x=b then 1 else 0)+F1 x:=by
 cases h with
 | own0 _ _ _ _ h=>exact .inl ⟨rfl,rfl,by cases h; assumption⟩
 | own _ F1 F2 _ _ b off cap C ty fr cs _ _ hb hfr hcap hle hes hcs hc h1 h hF=>
  refine .inr ⟨F1,b,off,cap,C,ty,fr,cs,rfl,hb,hfr,hcap,hle,hes,hcs,hc,h1,?_⟩
  intro x
  cases h with
  | nil _ _ hz=>rw [hF,hz]; omega
theorem Row.of_sl {w:World} {F F1:aH} {s:Nat} {es:List (List TV)} {b off cap:Nat} {C:Array Value} {ty:TypeId} {fr:Nat × Nat} {cs:List Value} {n:Nat}
  (hn:n=es.length) (hb:w.heap[b]?=some (.cells C ty fr)) (hfr:thawS s C.size fr) (hcap:off+cap*s≤C.size) (hle:es.length≤cap)
  (hes:∀ e ∈ es,e.length=s) (hcs:cs.length=es.length*s) (hc:∀ k,k<cs.length→C[off+k]?=cs[k]?) (h1:Row w true F1 cs es.flatten)
  (hF:∀ x,F x=(if x=b then 1 else 0)+F1 x):Row w true F [.slice (some ⟨b,off,none⟩) n cap] [.sl s es]:=by
 subst hn
 exact .own F F1 (fun _=>0) s es b off cap C ty fr cs [] [] hb hfr hcap hle hes hcs hc h1 (.nil _ _ (fun _=>rfl)) (fun x=>by rw [hF]; rfl)
theorem aoi {w:World} (p:a8):∀ {F:aH} {v:Value} {t u:TV},Row w true F [v] [t]→jK t p=some u →
  ∃ h Fu Fr,(∀ b,F b=Fu b+Fr b)∧Row w true Fu [h] [u]∧iI w v p=some h ∧
   ∀ w',j9 w w' Fr→iI w' v p=some h∧∀ u' G,Row w' true G [h] [u']→Row w' true (fun b=>G b+Fr b) [v] [xQ t p u']:=by
 induction p with
 | nil=>
  intro F v t u hr hg
  simp only [jK,Option.some.injEq] at hg
  subst hg
  exact ⟨v,F,fun _=>0,fun b=>by dsimp only; omega,hr,rfl,fun w' hs=>⟨rfl,fun u' G g=>g.foot (fun b=>by simp)⟩⟩
 | cons st p ih=>
  intro F v t u hr hg
  cases t with
  | sl s es=>
   simp only [jK] at hg
   split at hg
   case isFalse=>cases hg
   rename_i es_s
   rcases Row.sl_inv hr with ⟨_,rfl,_⟩ | ⟨F1,b,off,cap,C,ty,fr,cs,rfl,hb,hfr,hcap,hle,hes,hcs,hc,h1,hF⟩
   ·simp at hg
   ·cases hi:es[st.i]? with
    | none=>simp [hi] at hg
    | some row=>
     cases hj:row[st.j]? with
     | none=>simp [hi,hj] at hg
     | some t1=>
      simp [hi,hj] at hg
      have hrow:row.length=s:=hes row (lS2 hi)
      have hjlt:st.j<s:=by rw [← hrow]; exact (lI.1 hj).1
      have hilt:st.i<es.length:=(lI.1 hi).1
      have hfl:=aiL hes hi hj
      obtain ⟨v1,A1,A2,hv1,ha1,hA,hput⟩:=Row.at h1 hfl
      obtain ⟨h,Fu,Fr,hFr,hu,hres,hrest⟩:=ih ha1 hg
      have hlt1:st.i*s+st.j<cs.length:=(lI.1 hv1).1
      have hcell:∀ w':World,w'.heap[b]?=w.heap[b]?→w'.cell? ((⟨b,off,none⟩:Addr).add (st.i*st.s+st.j))=some v1:=by
       intro w' hw'
       rw [es_s,← hv1,← hc _ hlt1]
       unfold Addr.add
       generalize st.i*s+st.j=q
       by_cases e:q=0
       ·simp [e,World.cell?,hw',hb]
       ·simp [e,World.cell?,hw',hb]
      refine ⟨h,Fu,fun x=>(if x=b then 1 else 0)+A2 x+Fr x,fun x=>by dsimp only; rw [hF,hA,hFr]; omega,hu,?_,?_⟩
      ·simp only [iI]; rw [hcell w rfl]; exact hres
      ·intro w' hsame
       have hbb:w'.heap[b]?=w.heap[b]?:=hsame b (by simp)
       have hrest':=hrest w' (fun x hx=>hsame x (by first | omega | (dsimp only; omega) | (dsimp only at *; omega)))
       refine ⟨by simp only [iI]; rw [hcell w' hbb]; exact hrest'.1,?_⟩
       intro u' G hG
       have hnew:=hput w' (fun x hx=>hsame x (by first | omega | (dsimp only; omega) | (dsimp only at *; omega))) v1 _ _ (hrest'.2 u' G hG)
       have hset:cs.set (st.i*s+st.j) v1=cs:=by
        apply lI2
        intro k
        rw [lR3]
        by_cases e:st.i*s+st.j=k
        ·subst e
         rw [lF rfl,lF hlt1,hv1]
        ·simp [e]
       rw [hset] at hnew
       simp only [xQ]
       refine Row.of_sl (F1:=fun x=>G x+Fr x+A2 x) (by simp) (hbb.trans hb) hfr hcap (by simpa using hle) (aaS hes _ _ _) (by simpa using hcs) hc ?_ (fun x=>by first | omega | (dsimp only; omega) | (dsimp only at *; omega))
       rw [aaR hes _ hjlt hilt,pA _ hfl]
       exact hnew
  | _=>simp [jK] at hg
section
abbrev Lk:=Nat→Nat→a8→Option (Option Value)
def hdr:Value→Option Addr
 | .slice (some a) _ _=>some a
 | .pointer (some a)=>some a
 | _=>none
inductive RepA (w:World) (lk:Lk):aH→aH→List Value→List AV→Prop where
 | nil (F X:aH) (hF:∀ b,F b=0) (hX:∀ b,X b=0):RepA w lk F X [] []
 | undef (F X:aH) (v:Value) (vs:List Value) (as:List AV) (h:RepA w lk F X vs as):RepA w lk F X (v::vs) (.undef::as)
 | bool (F X:aH) (x:Bool) (vs:List Value) (as:List AV) (h:RepA w lk F X vs as):RepA w lk F X (.bool x::vs) (.bool x::as)
 | int (F X:aH) (k:IntKind) (n:Int) (vs:List Value) (as:List AV) (h:RepA w lk F X vs as):RepA w lk F X (.int k n::vs) (.int k n::as)
 | str (F X:aH) (s:List UInt8) (vs:List Value) (as:List AV) (h:RepA w lk F X vs as):RepA w lk F X (c7 s::vs) (.str s::as)
 | own (F F1 F2 X:aH) (s:Nat) (es:List (List TV)) (v:Value) (vs:List Value) (as:List AV) (h1:Row w true F1 [v] [.sl s es]) (h:RepA w lk F2 X vs as)
   (hF:∀ x,F x=F1 x+F2 x):RepA w lk F X (v::vs) (.own s es::as)
 | ext (F X X1 X2:aH) (s:Nat) (es:List (List TV)) (v:Value) (vs:List Value) (as:List AV) (h1:Row w false X1 [v] [.sl s es]) (h:RepA w lk F X2 vs as)
   (hX:∀ x,X x=X1 x+X2 x):RepA w lk F X (v::vs) (.ext s es::as)
 | extv (F X X1 X2:aH) (s:Nat) (es:List (List TV)) (v:Value) (vs:List Value) (as:List AV) (h1:Row w false X1 [v] [.sl s es]) (h:RepA w lk F X2 vs as)
   (hX:∀ x,X x=X1 x+X2 x):RepA w lk F X (v::vs) (.extv v s es::as)
 | box (F F1 F2 X X1 X2:aH) (b:Nat) (C:Array Value) (ty:TypeId) (fr:Nat × Nat) (cs:List AV) (vs:List Value) (as:List AV)
   (hb:w.heap[b]?=some (.cells C ty fr)) (hfr:thaw C.size fr) (h1:RepA w lk F1 X1 C.toList cs) (h:RepA w lk F2 X2 vs as)
   (hF:∀ x,F x=(if x=b then 1 else 0)+F1 x+F2 x) (hX:∀ x,X x=X1 x+X2 x):RepA w lk F X (.pointer (some ⟨b,0,none⟩)::vs) (.box cs::as)
 | xbox (F X X1 X2:aH) (a:Addr) (us:List Value) (cs:List TV) (vs:List Value) (as:List AV)
   (hc:∀ k,k<us.length→w.cell? (a.add k)=us[k]?) (h1:Row w false X1 us cs) (h:RepA w lk F X2 vs as)
   (hX:∀ x,X x=(if x=a.block then 1 else 0)+X1 x+X2 x):RepA w lk F X (.pointer (some a)::vs) (.xbox cs::as)
 | agg (F F1 F2 X X1 X2:aH) (us:List Value) (cs:List AV) (vs:List Value) (as:List AV) (h1:RepA w lk F1 X1 us cs) (h:RepA w lk F2 X2 vs as)
   (hF:∀ x,F x=F1 x+F2 x) (hX:∀ x,X x=X1 x+X2 x):RepA w lk F X (.agg us.toArray::vs) (.agg cs::as)
 | tup (F F1 F2 X X1 X2:aH) (us:List Value) (cs:List AV) (vs:List Value) (as:List AV) (h1:RepA w lk F1 X1 us cs) (h:RepA w lk F2 X2 vs as)
   (hF:∀ x,F x=F1 x+F2 x) (hX:∀ x,X x=X1 x+X2 x):RepA w lk F X (.tuple us.toArray::vs) (.tup cs::as)
 | fn (F F1 F2 X X1 X2:aH) (f:Nat) (us:List Value) (cs:List AV) (vs:List Value) (as:List AV) (h1:RepA w lk F1 X1 us cs) (h:RepA w lk F2 X2 vs as)
   (hF:∀ x,F x=F1 x+F2 x) (hX:∀ x,X x=X1 x+X2 x):RepA w lk F X (.func (.func f) #[] us.toArray::vs) (.fn f cs::as)
 | lnk (F X:aH) (r e:Nat) (p:a8) (o:Option Value) (v:Value) (vs:List Value) (as:List AV) (ho:lk r e p=some o) (hv:∀ u,o=some u→v=u) (h:RepA w lk F X vs as) :
   RepA w lk F X (v::vs) (.lnk r e p::as)
 | sub (F X:aH) (r e:Nat) (p:a8) (s lo n:Nat) (o:Option Value) (v:Value) (vs:List Value) (as:List AV) (ho:lk r e p=some o)
   (hv:∀ u,o=some u→∃ base len cap a',u=.slice base len cap∧v=.slice a' n (cap-lo)∧lo+n≤len∧(a'=base.map (·.add (lo*s))∨(lo=cap∧∃ k,k≤cap∧a'=base.map (·.add (k*s)))))
   (h:RepA w lk F X vs as):RepA w lk F X (v::vs) (.sub r e p s lo n::as)
 | ref (F X:aH) (r e:Nat) (p:a8) (st:St) (o:Option Value) (v:Value) (vs:List Value) (as:List AV) (ho:lk r e p=some o)
   (hv:∀ u,o=some u→∃ a,hdr u=some a∧v=.pointer (some (a.add (st.i*st.s+st.j)))) (h:RepA w lk F X vs as):RepA w lk F X (v::vs) (.ref r e p st::as)
variable {w w':World} {lk lk':Lk}
theorem RepA.foot {F G X Y:aH} {vs:List Value} {as:List AV} (h:RepA w lk F X vs as) (e:∀ b,G b=F b) (e':∀ b,Y b=X b):RepA w lk G Y vs as:=by
 have h1:G=F:=funext e
 have h2:Y=X:=funext e'
 rw [h1,h2]; exact h
theorem RepA.same {F X:aH} {vs:List Value} {as:List AV} (h:RepA w lk F X vs as)
  (hl:∀ r e p o,lk r e p=some o→lk' r e p=some none∨lk' r e p=some o) :
  j9 w w' F→j9 w w' X→RepA w' lk' F X vs as:=by
 induction h with
 | nil F X hF hX=>intro _ _; exact .nil F X hF hX
 | undef F X v vs as h ih=>intro s1 s2; exact .undef _ _ _ _ _ (ih s1 s2)
 | bool F X v vs as h ih=>intro s1 s2; exact .bool _ _ _ _ _ (ih s1 s2)
 | int F X k n vs as h ih=>intro s1 s2; exact .int _ _ _ _ _ _ (ih s1 s2)
 | str F X v vs as h ih=>intro s1 s2; exact .str _ _ _ _ _ (ih s1 s2)
 | own F F1 F2 X s es v vs as h1 h hF ih=>
  intro s1 s2
  exact .own F F1 F2 X s es v vs _ (h1.same fun b hb=>s1 b (by rw [hF]; omega)) (ih (fun b hb=>s1 b (by rw [hF]; omega)) s2) hF
 | ext F X X1 X2 s es v vs as h1 h hX ih=>
  intro s1 s2
  exact .ext F X X1 X2 s es v vs _ (h1.same fun b hb=>s2 b (by rw [hX]; omega)) (ih s1 (fun b hb=>s2 b (by rw [hX]; omega))) hX
 | extv F X X1 X2 s es v vs as h1 h hX ih=>
  intro s1 s2
  exact .extv F X X1 X2 s es v vs _ (h1.same fun b hb=>s2 b (by rw [hX]; omega)) (ih s1 (fun b hb=>s2 b (by rw [hX]; omega))) hX
 | box F F1 F2 X X1 X2 b C ty fr cs vs as hb hfr h1 h hF hX ih1 ih=>
  intro s1 s2
  refine .box F F1 F2 X X1 X2 b C ty fr _ vs _ ?_ hfr (ih1 (fun b hb=>s1 b (by rw [hF]; omega)) (fun b hb=>s2 b (by rw [hX]; omega)))
   (ih (fun b hb=>s1 b (by rw [hF]; omega)) (fun b hb=>s2 b (by rw [hX]; omega))) hF hX
  rw [s1 b (by rw [hF]; simp)]; exact hb
 | xbox F X X1 X2 a us cs vs as hc h1 h hX ih=>
  intro s1 s2
  refine .xbox F X X1 X2 a us cs vs _ ?_ (h1.same fun b hb=>s2 b (by rw [hX]; omega)) (ih s1 (fun b hb=>s2 b (by rw [hX]; omega))) hX
  intro k hk
  rw [sI (w:=w) (w':=w') (by rw [iH]; exact s2 a.block (by rw [hX]; simp))]; exact hc k hk
 | agg F F1 F2 X X1 X2 us cs vs as h1 h hF hX ih1 ih=>
  intro s1 s2
  exact .agg F F1 F2 X X1 X2 us _ vs _ (ih1 (fun b hb=>s1 b (by rw [hF]; omega)) (fun b hb=>s2 b (by rw [hX]; omega)))
   (ih (fun b hb=>s1 b (by rw [hF]; omega)) (fun b hb=>s2 b (by rw [hX]; omega))) hF hX
 | tup F F1 F2 X X1 X2 us cs vs as h1 h hF hX ih1 ih=>
  intro s1 s2
  exact .tup F F1 F2 X X1 X2 us _ vs _ (ih1 (fun b hb=>s1 b (by rw [hF]; omega)) (fun b hb=>s2 b (by rw [hX]; omega)))
   (ih (fun b hb=>s1 b (by rw [hF]; omega)) (fun b hb=>s2 b (by rw [hX]; omega))) hF hX
 | fn F F1 F2 X X1 X2 f us cs vs as h1 h hF hX ih1 ih=>
  intro s1 s2
  exact .fn F F1 F2 X X1 X2 f us _ vs _ (ih1 (fun b hb=>s1 b (by rw [hF]; omega)) (fun b hb=>s2 b (by rw [hX]; omega)))
   (ih (fun b hb=>s1 b (by rw [hF]; omega)) (fun b hb=>s2 b (by rw [hX]; omega))) hF hX
 | lnk F X r e p o v vs as ho hv h ih=>
  intro s1 s2
  rcases hl r e p o ho with h' | h'
  ·exact .lnk _ _ _ _ _ _ _ _ _ h' (fun _ h=>by cases h) (ih s1 s2)
  ·exact .lnk _ _ _ _ _ _ _ _ _ h' hv (ih s1 s2)
 | sub F X r e p s lo n o v vs as ho hv h ih=>
  intro s1 s2
  rcases hl r e p o ho with h' | h'
  ·exact .sub _ _ _ _ _ _ _ _ _ _ _ _ h' (fun _ h=>by cases h) (ih s1 s2)
  ·exact .sub _ _ _ _ _ _ _ _ _ _ _ _ h' hv (ih s1 s2)
 | ref F X r e p st o v vs as ho hv h ih=>
  intro s1 s2
  rcases hl r e p o ho with h' | h'
  ·exact .ref _ _ _ _ _ _ _ _ _ _ h' (fun _ h=>by cases h) (ih s1 s2)
  ·exact .ref _ _ _ _ _ _ _ _ _ _ h' hv (ih s1 s2)
theorem RepA.length {F X:aH} {vs:List Value} {as:List AV} (h:RepA w lk F X vs as):vs.length=as.length:=by
 induction h <;> simp_all
theorem RepA.append {F X G Y H Z:aH} {vs us:List Value} {as bs:List AV} (h:RepA w lk F X vs as) (g:RepA w lk G Y us bs)
  (e:∀ b,H b=F b+G b) (e':∀ b,Z b=X b+Y b):RepA w lk H Z (vs++us) (as++bs):=by
 induction h generalizing H Z with
 | nil F X hF hX=>exact g.foot (fun b=>by rw [e,hF]; omega) (fun b=>by rw [e',hX]; omega)
 | undef F X v vs as h ih=>exact .undef _ _ _ _ _ (ih e e')
 | bool F X v vs as h ih=>exact .bool _ _ _ _ _ (ih e e')
 | int F X k n vs as h ih=>exact .int _ _ _ _ _ _ (ih e e')
 | str F X v vs as h ih=>exact .str _ _ _ _ _ (ih e e')
 | own F F1 F2 X s es v vs as h1 h hF ih=>
  exact .own H F1 (fun b=>F2 b+G b) Z s es v _ _ h1 (ih (fun _=>rfl) e') (fun x=>by rw [e,hF]; omega)
 | ext F X X1 X2 s es v vs as h1 h hX ih=>
  exact .ext H Z X1 (fun b=>X2 b+Y b) s es v _ _ h1 (ih e (fun _=>rfl)) (fun x=>by rw [e',hX]; omega)
 | extv F X X1 X2 s es v vs as h1 h hX ih=>
  exact .extv H Z X1 (fun b=>X2 b+Y b) s es v _ _ h1 (ih e (fun _=>rfl)) (fun x=>by rw [e',hX]; omega)
 | box F F1 F2 X X1 X2 b C ty fr cs vs as hb hfr h1 h hF hX ih1 ih=>
  exact .box H F1 (fun b=>F2 b+G b) Z X1 (fun b=>X2 b+Y b) b C ty fr cs _ _ hb hfr h1 (ih (fun _=>rfl) (fun _=>rfl)) (fun x=>by rw [e,hF]; omega) (fun x=>by rw [e',hX]; omega)
 | xbox F X X1 X2 a us cs vs as hc h1 h hX ih=>
  exact .xbox H Z X1 (fun b=>X2 b+Y b) a us cs _ _ hc h1 (ih e (fun _=>rfl)) (fun x=>by rw [e',hX]; omega)
 | agg F F1 F2 X X1 X2 us cs vs as h1 h hF hX ih1 ih=>
  exact .agg H F1 (fun b=>F2 b+G b) Z X1 (fun b=>X2 b+Y b) us cs _ _ h1 (ih (fun _=>rfl) (fun _=>rfl)) (fun x=>by rw [e,hF]; omega) (fun x=>by rw [e',hX]; omega)
 | tup F F1 F2 X X1 X2 us cs vs as h1 h hF hX ih1 ih=>
  exact .tup H F1 (fun b=>F2 b+G b) Z X1 (fun b=>X2 b+Y b) us cs _ _ h1 (ih (fun _=>rfl) (fun _=>rfl)) (fun x=>by rw [e,hF]; omega) (fun x=>by rw [e',hX]; omega)
 | fn F F1 F2 X X1 X2 f us cs vs as h1 h hF hX ih1 ih=>
  exact .fn H F1 (fun b=>F2 b+G b) Z X1 (fun b=>X2 b+Y b) f us cs _ _ h1 (ih (fun _=>rfl) (fun _=>rfl)) (fun x=>by rw [e,hF]; omega) (fun x=>by rw [e',hX]; omega)
 | lnk F X r ee p o v vs as ho hv h ih=>exact .lnk _ _ _ _ _ _ _ _ _ ho hv (ih e e')
 | sub F X r ee p s lo n o v vs as ho hv h ih=>exact .sub _ _ _ _ _ _ _ _ _ _ _ _ ho hv (ih e e')
 | ref F X r ee p st o v vs as ho hv h ih=>exact .ref _ _ _ _ _ _ _ _ _ _ ho hv (ih e e')
theorem RepA.cons {F X G Y H Z:aH} {v:Value} {us:List Value} {a:AV} {bs:List AV} (h:RepA w lk F X [v] [a]) (g:RepA w lk G Y us bs)
  (e:∀ b,H b=F b+G b) (e':∀ b,Z b=X b+Y b):RepA w lk H Z (v::us) (a::bs):=by
 simpa using RepA.append h g e e'
theorem RepA.znil:RepA w lk (fun _=>0) (fun _=>0) [] []:=.nil _ _ (fun _=>rfl) (fun _=>rfl)
theorem RepA.uncons {F X:aH} {v:Value} {us:List Value} {a:AV} {bs:List AV} (h:RepA w lk F X (v::us) (a::bs)) :
  ∃ F1 F2 X1 X2,RepA w lk F1 X1 [v] [a]∧RepA w lk F2 X2 us bs∧(∀ b,F b=F1 b+F2 b)∧∀ b,X b=X1 b+X2 b:=by
 cases h with
 | undef _ _ _ _ _ h=>exact ⟨fun _=>0,F,fun _=>0,X,.undef _ _ _ _ _ znil,h,fun b=>by first | omega | (dsimp only; omega) | (dsimp only at *; omega),fun b=>by first | omega | (dsimp only; omega) | (dsimp only at *; omega)⟩
 | bool _ _ _ _ _ h=>exact ⟨fun _=>0,F,fun _=>0,X,.bool _ _ _ _ _ znil,h,fun b=>by first | omega | (dsimp only; omega) | (dsimp only at *; omega),fun b=>by first | omega | (dsimp only; omega) | (dsimp only at *; omega)⟩
 | int _ _ _ _ _ _ h=>exact ⟨fun _=>0,F,fun _=>0,X,.int _ _ _ _ _ _ znil,h,fun b=>by first | omega | (dsimp only; omega) | (dsimp only at *; omega),fun b=>by first | omega | (dsimp only; omega) | (dsimp only at *; omega)⟩
 | str _ _ _ _ _ h=>exact ⟨fun _=>0,F,fun _=>0,X,.str _ _ _ _ _ znil,h,fun b=>by first | omega | (dsimp only; omega) | (dsimp only at *; omega),fun b=>by first | omega | (dsimp only; omega) | (dsimp only at *; omega)⟩
 | lnk _ _ _ _ _ _ _ _ _ ho hv h=>exact ⟨fun _=>0,F,fun _=>0,X,.lnk _ _ _ _ _ _ _ _ _ ho hv znil,h,fun b=>by first | omega | (dsimp only; omega) | (dsimp only at *; omega),fun b=>by first | omega | (dsimp only; omega) | (dsimp only at *; omega)⟩
 | sub _ _ _ _ _ _ _ _ _ _ _ _ ho hv h=>exact ⟨fun _=>0,F,fun _=>0,X,.sub _ _ _ _ _ _ _ _ _ _ _ _ ho hv znil,h,fun b=>by first | omega | (dsimp only; omega) | (dsimp only at *; omega),fun b=>by first | omega | (dsimp only; omega) | (dsimp only at *; omega)⟩
 | ref _ _ _ _ _ _ _ _ _ _ ho hv h=>exact ⟨fun _=>0,F,fun _=>0,X,.ref _ _ _ _ _ _ _ _ _ _ ho hv znil,h,fun b=>by first | omega | (dsimp only; omega) | (dsimp only at *; omega),fun b=>by first | omega | (dsimp only; omega) | (dsimp only at *; omega)⟩
 | own _ F1 F2 _ _ _ _ _ _ h1 h hF=>exact ⟨F1,F2,fun _=>0,X,.own _ F1 (fun _=>0) _ _ _ _ _ _ h1 znil (fun x=>by first | omega | (dsimp only; omega) | (dsimp only at *; omega)),h,hF,fun b=>by first | omega | (dsimp only; omega) | (dsimp only at *; omega)⟩
 | ext _ _ X1 X2 _ _ _ _ _ h1 h hX=>exact ⟨fun _=>0,F,X1,X2,.ext _ _ X1 (fun _=>0) _ _ _ _ _ h1 znil (fun x=>by first | omega | (dsimp only; omega) | (dsimp only at *; omega)),h,fun b=>by first | omega | (dsimp only; omega) | (dsimp only at *; omega),hX⟩
 | extv _ _ X1 X2 _ _ _ _ _ h1 h hX=>exact ⟨fun _=>0,F,X1,X2,.extv _ _ X1 (fun _=>0) _ _ _ _ _ h1 znil (fun x=>by first | omega | (dsimp only; omega) | (dsimp only at *; omega)),h,fun b=>by first | omega | (dsimp only; omega) | (dsimp only at *; omega),hX⟩
 | box _ F1 F2 _ X1 X2 b C ty fr cs _ _ hb hfr h1 h hF hX=>
  exact ⟨fun x=>(if x=b then 1 else 0)+F1 x,F2,X1,X2,.box _ F1 (fun _=>0) _ X1 (fun _=>0) b C ty fr cs _ _ hb hfr h1 znil (fun x=>by first | omega | (dsimp only; omega) | (dsimp only at *; omega)) (fun x=>by first | omega | (dsimp only; omega) | (dsimp only at *; omega)),h,hF,hX⟩
 | xbox _ _ X1 X2 a us cs _ _ hc h1 h hX=>
  exact ⟨fun _=>0,F,fun x=>(if x=a.block then 1 else 0)+X1 x,X2,.xbox _ _ X1 (fun _=>0) a us cs _ _ hc h1 znil (fun x=>by first | omega | (dsimp only; omega) | (dsimp only at *; omega)),h,fun b=>by first | omega | (dsimp only; omega) | (dsimp only at *; omega),hX⟩
 | agg _ F1 F2 _ X1 X2 us cs _ _ h1 h hF hX=>
  exact ⟨F1,F2,X1,X2,.agg _ F1 (fun _=>0) _ X1 (fun _=>0) us cs _ _ h1 znil (fun x=>by first | omega | (dsimp only; omega) | (dsimp only at *; omega)) (fun x=>by first | omega | (dsimp only; omega) | (dsimp only at *; omega)),h,hF,hX⟩
 | tup _ F1 F2 _ X1 X2 us cs _ _ h1 h hF hX=>
  exact ⟨F1,F2,X1,X2,.tup _ F1 (fun _=>0) _ X1 (fun _=>0) us cs _ _ h1 znil (fun x=>by first | omega | (dsimp only; omega) | (dsimp only at *; omega)) (fun x=>by first | omega | (dsimp only; omega) | (dsimp only at *; omega)),h,hF,hX⟩
 | fn _ F1 F2 _ X1 X2 f us cs _ _ h1 h hF hX=>
  exact ⟨F1,F2,X1,X2,.fn _ F1 (fun _=>0) _ X1 (fun _=>0) f us cs _ _ h1 znil (fun x=>by first | omega | (dsimp only; omega) | (dsimp only at *; omega)) (fun x=>by first | omega | (dsimp only; omega) | (dsimp only at *; omega)),h,hF,hX⟩
theorem RepA.split {F X:aH} (xs:List Value) {us:List Value} (as:List AV) {bs:List AV} (hl:xs.length=as.length) (h:RepA w lk F X (xs++us) (as++bs)) :
  ∃ F1 F2 X1 X2,RepA w lk F1 X1 xs as∧RepA w lk F2 X2 us bs∧(∀ b,F b=F1 b+F2 b)∧∀ b,X b=X1 b+X2 b:=by
 induction xs generalizing F X as with
 | nil=>
  cases as with
  | nil=>exact ⟨fun _=>0,F,fun _=>0,X,znil,h,fun b=>by first | omega | (dsimp only; omega) | (dsimp only at *; omega),fun b=>by first | omega | (dsimp only; omega) | (dsimp only at *; omega)⟩
  | cons t ts=>simp at hl
 | cons v xs ih=>
  cases as with
  | nil=>simp at hl
  | cons t ts=>
   obtain ⟨F1,F2,X1,X2,h1,h2,e,e'⟩:=RepA.uncons h
   obtain ⟨G1,G2,Y1,Y2,g1,g2,f,f'⟩:=ih ts (by simpa using hl) h2
   exact ⟨fun b=>F1 b+G1 b,G2,fun b=>X1 b+Y1 b,Y2,RepA.cons h1 g1 (fun _=>rfl) (fun _=>rfl),g2,fun b=>by dsimp only; rw [e,f]; omega,fun b=>by dsimp only; rw [e',f']; omega⟩
theorem RepA.lt {F X:aH} {vs:List Value} {as:List AV} (h:RepA w lk F X vs as):∀ b,F b≠0→b<w.heap.size:=by
 induction h with
 | nil F X hF hX=>intro b hb; exact absurd (hF b) hb
 | undef F X v vs as h ih=>exact ih
 | bool F X v vs as h ih=>exact ih
 | int F X k n vs as h ih=>exact ih
 | str F X v vs as h ih=>exact ih
 | own F F1 F2 X s es v vs as h1 h hF ih=>
  intro b hb; rw [hF] at hb
  by_cases e:F1 b=0
  ·exact ih b (by omega)
  ·exact h1.lt rfl b e
 | ext F X X1 X2 s es v vs as h1 h hX ih=>exact ih
 | extv F X X1 X2 s es v vs as h1 h hX ih=>exact ih
 | box F F1 F2 X X1 X2 b C ty fr cs vs as hb hfr h1 h hF hX ih1 ih=>
  intro x hx; rw [hF] at hx
  by_cases e:x=b
  ·subst e; exact (Array.getElem?_eq_some_iff.1 hb).1
  ·by_cases e1:F1 x=0
   ·exact ih x (by simp [e,e1] at hx; exact hx)
   ·exact ih1 x e1
 | xbox F X X1 X2 a us cs vs as hc h1 h hX ih=>exact ih
 | agg F F1 F2 X X1 X2 us cs vs as h1 h hF hX ih1 ih=>
  intro x hx; rw [hF] at hx
  by_cases e1:F1 x=0
  ·exact ih x (by omega)
  ·exact ih1 x e1
 | tup F F1 F2 X X1 X2 us cs vs as h1 h hF hX ih1 ih=>
  intro x hx; rw [hF] at hx
  by_cases e1:F1 x=0
  ·exact ih x (by omega)
  ·exact ih1 x e1
 | fn F F1 F2 X X1 X2 f us cs vs as h1 h hF hX ih1 ih=>
  intro x hx; rw [hF] at hx
  by_cases e1:F1 x=0
  ·exact ih x (by omega)
  ·exact ih1 x e1
 | lnk F X r e p o v vs as ho hv h ih=>exact ih
 | sub F X r e p s lo n o v vs as ho hv h ih=>exact ih
 | ref F X r e p st o v vs as ho hv h ih=>exact ih
theorem RepA.at {F X:aH} {vs:List Value} {as:List AV} {k:Nat} {a:AV} (h:RepA w lk F X vs as) (hk:as[k]?=some a) :
  ∃ v F1 F2 X1 X2,vs[k]?=some v∧RepA w lk F1 X1 [v] [a]∧(∀ b,F b=F1 b+F2 b)∧(∀ b,X b=X1 b+X2 b) ∧
   ∀ w' lk',j9 w w' F2→j9 w w' X2→(∀ r e p o,lk r e p=some o→lk' r e p=some none∨lk' r e p=some o)→∀ v' a' G Y,RepA w' lk' G Y [v'] [a'] →
    RepA w' lk' (fun b=>G b+F2 b) (fun b=>Y b+X2 b) (vs.set k v') (as.set k a'):=by
 have hl:=h.length
 have hlt:k<as.length:=(lI.1 hk).1
 have htk:as=as.take k++a::as.drop (k+1):=by
  have:=(lI.1 hk).2
  rw [← this]; simp
 have hvk:vs=vs.take k++vs[k]'(by omega)::vs.drop (k+1):=by simp
 have h':RepA w lk F X (vs.take k++vs[k]'(by omega)::vs.drop (k+1)) (as.take k++a::as.drop (k+1)):=by rw [← htk,← hvk]; exact h
 obtain ⟨F1,F2,X1,X2,h1,h2,e,ex⟩:=RepA.split _ _ (by simp [hl]) h'
 obtain ⟨G1,G2,Y1,Y2,g1,g2,e',ex'⟩:=RepA.uncons h2
 refine ⟨vs[k]'(by omega),G1,fun b=>F1 b+G2 b,Y1,fun b=>X1 b+Y2 b,by simp,g1,fun b=>by dsimp only; rw [e,e']; omega,fun b=>by dsimp only; rw [ex,ex']; omega,?_⟩
 intro w' lk' hs hsx hlk v' a' G Y hg
 have s1:RepA w' lk' F1 X1 (vs.take k) (as.take k):=h1.same hlk (fun b hb=>hs b (by first | omega | (dsimp only; omega) | (dsimp only at *; omega))) (fun b hb=>hsx b (by first | omega | (dsimp only; omega) | (dsimp only at *; omega)))
 have s2:RepA w' lk' G2 Y2 (vs.drop (k+1)) (as.drop (k+1)):=g2.same hlk (fun b hb=>hs b (by first | omega | (dsimp only; omega) | (dsimp only at *; omega))) (fun b hb=>hsx b (by first | omega | (dsimp only; omega) | (dsimp only at *; omega)))
 have:=RepA.append s1 (RepA.cons hg s2 (fun _=>rfl) (fun _=>rfl)) (fun _=>rfl) (fun _=>rfl)
 rw [lE3,lE3]
 rw [lF (by omega),lF hlt]
 exact this.foot (fun b=>by first | omega | (dsimp only; omega) | (dsimp only at *; omega)) (fun b=>by first | omega | (dsimp only; omega) | (dsimp only at *; omega))
end
section
def AV.tv:AV→Option TV
 | .undef=>some .undef
 | .bool b=>some (.bool b)
 | .int k n=>some (.int k n)
 | .str s=>some (.str s)
 | .own s es=>some (.sl s es)
 | _=>none
def TV.av:TV→AV
 | .undef=>.undef
 | .bool b=>.bool b
 | .int k n=>.int k n
 | .str s=>.str s
 | .sl s es=>.own s es
def TV.xv:TV→AV
 | .undef=>.undef
 | .bool b=>.bool b
 | .int k n=>.int k n
 | .str s=>.str s
 | .sl s es=>.ext s es
def cA:AV→a8→Option AV
 | a,[]=>some a
 | .own s es,st::p=>(jK (.sl s es) (st::p)).map TV.av
 | .box cs,st::p=>if st.i=0 then (cs[st.j]?).bind (cA · p) else none
 | _,_::_=>none
def cV:AV→a8→AV→AV
 | _,[],u=>u
 | .own s es,st::p,u=>match u.tv with
  | some t=>.own s (es.modify st.i (·.modify st.j (xQ · p t)))
  | none=>.own s es
 | .box cs,st::p,u=>.box (cs.modify st.j (cV · p u))
 | a,_::_,_=>a
def kK:AV→a8→AV→Bool
 | _,[],_=>true
 | .own _ _,_::_,u=>u.tv.isSome
 | .box cs,st::p,u=>match cs[st.j]? with
  | some a=>kK a p u
  | none=>false
 | _,_::_,_=>false
def AV.isRoot:AV→Bool
 | .own _ _=>true
 | .box _=>true
 | _=>false
variable {w w':World} {lk lk':Lk}
theorem RepA.of_row {F:aH} {h:Value} {t:TV} (r:Row w true F [h] [t]):RepA w lk F (fun _=>0) [h] [t.av]:=by
 cases r with
 | undef _ _ _ _ _ h=>cases h with | nil _ _ hz=>exact .undef _ _ _ _ _ (.nil _ _ hz (fun _=>rfl))
 | bool _ _ _ _ _ h=>cases h with | nil _ _ hz=>exact .bool _ _ _ _ _ (.nil _ _ hz (fun _=>rfl))
 | int _ _ _ _ _ _ h=>cases h with | nil _ _ hz=>exact .int _ _ _ _ _ _ (.nil _ _ hz (fun _=>rfl))
 | str _ _ _ _ _ h=>cases h with | nil _ _ hz=>exact .str _ _ _ _ _ (.nil _ _ hz (fun _=>rfl))
 | own0 F s vs ts h=>
  exact .own F F (fun _=>0) _ s [] _ _ _ (.own0 F s [] [] h) RepA.znil (fun x=>by simp)
 | own F F1 F2 s es b off cap C ty fr cs vs ts hb hfr hcap hle hes hcs hc h1 h hF=>
  exact .own F F (fun _=>0) _ s es _ _ _ (.own F F1 F2 s es b off cap C ty fr cs [] [] hb hfr hcap hle hes hcs hc h1 h hF) RepA.znil (fun x=>by simp)
theorem RepA.to_row {F X:aH} {h:Value} {u:AV} {t:TV} (r:RepA w lk F X [h] [u]) (e:u.tv=some t):Row w true F [h] [t]∧∀ b,X b=0:=by
 cases r with
 | undef _ _ _ _ _ h=>cases e; cases h with | nil _ _ hz hx=>exact ⟨.undef _ _ _ _ _ (.nil _ _ hz),hx⟩
 | bool _ _ _ _ _ h=>cases e; cases h with | nil _ _ hz hx=>exact ⟨.bool _ _ _ _ _ (.nil _ _ hz),hx⟩
 | int _ _ _ _ _ _ h=>cases e; cases h with | nil _ _ hz hx=>exact ⟨.int _ _ _ _ _ _ (.nil _ _ hz),hx⟩
 | str _ _ _ _ _ h=>cases e; cases h with | nil _ _ hz hx=>exact ⟨.str _ _ _ _ _ (.nil _ _ hz),hx⟩
 | own _ F1 F2 _ s es _ _ _ h1 h hF=>
  cases e
  cases h with
  | nil _ _ hz hx=>exact ⟨h1.foot (fun b=>by rw [hF,hz]; omega),hx⟩
 | _=>cases e
theorem fN {α:Type} {l:List α} {k:Nat} {x:α} (h:l[k]?=some x):l.set k x=l:=by
 apply lI2
 intro i
 rw [lR3]
 by_cases e:k=i
 ·subst e
  have:=(lI.1 h).1
  simp only [lP,this]
  rw [← h]
 ·simp [e]
theorem jN (p:a8):∀ {F X:aH} {v:Value} {a u:AV},RepA w lk F X [v] [a]→cA a p=some u →
  ∃ h Fu Fr Xu Xr,(∀ b,F b=Fu b+Fr b)∧(∀ b,X b=Xu b+Xr b)∧RepA w lk Fu Xu [h] [u]∧iI w v p=some h ∧
   ∀ w' lk',j9 w w' Fr→j9 w w' Xr→(∀ r e p o,lk r e p=some o→lk' r e p=some none∨lk' r e p=some o)→iI w' v p=some h ∧
    ∀ u' G Y,RepA w' lk' G Y [h] [u']→kK a p u'=true→RepA w' lk' (fun b=>G b+Fr b) (fun b=>Y b+Xr b) [v] [cV a p u']:=by
 induction p with
 | nil=>
  intro F X v a u hr hg
  have:cA a []=some a:=by cases a <;> rfl
  rw [this] at hg
  cases hg
  refine ⟨v,F,fun _=>0,X,fun _=>0,fun b=>by simp,fun b=>by simp,hr,rfl,fun w' lk' _ _ _=>⟨rfl,fun u' G Y g _=>?_⟩⟩
  have:cV a [] u'=u':=by cases a <;> rfl
  rw [this]; exact g.foot (fun b=>by simp) (fun b=>by simp)
 | cons st p ih=>
  intro F X v a u hr hg
  cases a with
  | own s es=>
   simp only [cA] at hg
   cases ht:jK (.sl s es) (st::p) with
   | none=>simp [ht] at hg
   | some t=>
    simp [ht] at hg
    subst hg
    obtain ⟨hrow,hx⟩:=RepA.to_row hr rfl
    obtain ⟨h,Fu,Fr,hF,hu,hres,hrest⟩:=aoi (st::p) hrow ht
    refine ⟨h,Fu,Fr,fun _=>0,X,hF,fun b=>by simp,RepA.of_row hu,hres,?_⟩
    intro w' lk' s1 s2 s3
    obtain ⟨c1,c2⟩:=hrest w' s1
    refine ⟨c1,fun u' G Y g hf=>?_⟩
    simp only [kK] at hf
    cases hu':u'.tv with
    | none=>simp [hu'] at hf
    | some t'=>
     obtain ⟨g1,gx⟩:=RepA.to_row g hu'
     have:=c2 t' G g1
     simp only [cV,hu']
     simp only [xQ] at this
     exact (RepA.of_row this).foot (fun b=>rfl) (fun b=>by simp [gx,hx])
  | box cs=>
   simp only [cA] at hg
   split at hg
   case isFalse=>cases hg
   rename_i hi0
   cases hj:cs[st.j]? with
   | none=>simp [hj] at hg
   | some a1=>
    simp [hj] at hg
    cases hr with
    | box _ F1 F2 _ X1 X2 b C ty fr _ _ _ hb hfr h1 h2 hF hX=>
     obtain ⟨v1,A1,A2,B1,B2,hv1,ha1,hA,hB,hput⟩:=RepA.at h1 hj
     obtain ⟨h,Fu,Fr,Xu,Xr,hFr,hXr,hu,hres,hrest⟩:=ih ha1 hg
     cases h2 with
     | nil _ _ hz hzx=>
      have hcell:∀ w':World,w'.heap[b]?=w.heap[b]?→w'.cell? ((⟨b,0,none⟩:Addr).add (st.i*st.s+st.j))=some v1:=by
       intro w' hw'
       have hq:C[st.j]?=some v1:=by rw [← hv1]; simp
       rw [hi0]
       simp only [lA4,lF2]
       unfold Addr.add
       by_cases e:st.j=0
       ·rw [e] at hq; simp [e,World.cell?,hw',hb,hq]
       ·simp [e,World.cell?,hw',hb,hq]
      refine ⟨h,Fu,fun x=>(if x=b then 1 else 0)+A2 x+Fr x,Xu,fun x=>B2 x+Xr x,fun x=>by dsimp only; rw [hF,hA,hFr,hz]; omega,
       fun x=>by dsimp only; rw [hX,hB,hXr,hzx]; omega,hu,by simp only [iI]; rw [hcell w rfl]; exact hres,?_⟩
      intro w' lk' s1 s2 s3
      have hbb:w'.heap[b]?=w.heap[b]?:=s1 b (by simp)
      obtain ⟨c1,c2⟩:=hrest w' lk' (fun x hx=>s1 x (by first | omega | (dsimp only; omega) | (dsimp only at *; omega))) (fun x hx=>s2 x (by first | omega | (dsimp only; omega) | (dsimp only at *; omega))) s3
      refine ⟨by simp only [iI]; rw [hcell w' hbb]; exact c1,fun u' G Y g hf=>?_⟩
      simp only [kK,hj] at hf
      have hnew:=hput w' lk' (fun x hx=>s1 x (by first | omega | (dsimp only; omega) | (dsimp only at *; omega))) (fun x hx=>s2 x (by first | omega | (dsimp only; omega) | (dsimp only at *; omega))) s3 v1 _ _ _ (c2 u' G Y g hf)
      rw [fN hv1] at hnew
      simp only [cV]
      rw [pA _ hj]
      exact .box _ (fun b=>G b+Fr b+A2 b) (fun _=>0) _ (fun b=>Y b+Xr b+B2 b) (fun _=>0) b C ty fr _ [] [] (hbb.trans hb) hfr hnew RepA.znil
       (fun x=>by first | omega | (dsimp only; omega) | (dsimp only at *; omega)) (fun x=>by first | omega | (dsimp only; omega) | (dsimp only at *; omega))
  | _=>simp [cA] at hg
structure Env where
 f:Nat→AV
 ep:Nat→Nat × Nat
def fM (e:Nat × Nat) (p:a8):Nat:=if p.isEmpty then e.1 else e.2
def aN (w:World) (vl:Nat→Value) (E:Env):Lk:=fun r e p=>
 if e<fM (E.ep r) p then some none
 else if e=fM (E.ep r) p∧(E.f r).isRoot=true∧(cA (E.f r) p).isSome=true then some (iI w (vl r) p) else if e=fM (E.ep r) p∧(E.f r).isRoot=true then some none else none
def aI (tmps:Array Value) (hid:Nat→Value) (t:Nat):Value:=if t<tmps.size then tmps.getD t undef else hid t
structure Base where
 w0:World
 F0:aH
 X0:aH
 n:Nat
structure Quiet (w w':World):Prop where
 os:w'.os=w.os
 out:w'.output=w.output
structure Grows (w w':World):Prop where
 size:w.heap.size≤w'.heap.size
 quiet:Quiet w w'
theorem Quiet.refl (w:World):Quiet w w:=⟨rfl,rfl⟩
theorem Grows.refl (w:World):Grows w w:=⟨lS1 _,.refl w⟩
theorem Grows.trans {w w1 w2:World} (h:Grows w w1) (g:Grows w1 w2):Grows w w2:=
 ⟨lU3 h.size g.size,g.quiet.os.trans h.quiet.os,g.quiet.out.trans h.quiet.out⟩
structure Kept (w w':World):Prop where
 size:w'.heap.size=w.heap.size
 quiet:Quiet w w'
structure Rel (B:Base) (hid:Nat→Value) (w:World) (a:Act) (E:Env) (Fs Xs:Nat→aH):Prop where
 size:a.tmps.size=B.n
 dfr:a.defers=[]
 rep:∀ t,RepA w (aN w (aI a.tmps hid) E) (Fs t) (Xs t) [aI a.tmps hid t] [E.f t]
 one:∀ t b,Fs t b≤1
 dis:∀ t t' b,t≠t'→Fs t b=0∨Fs t' b=0
 disx:∀ t t' b,Fs t b=0∨Xs t' b=0
 grow:Grows B.w0 w
 frame:∀ b,b<B.w0.heap.size→B.F0 b=0→w.heap[b]?=B.w0.heap[b]?
 org:∀ t b,Fs t b≠0→B.F0 b≠0∨B.w0.heap.size≤b
 orgx:∀ t b,Xs t b≠0→B.X0 b≠0∨B.F0 b≠0∨B.w0.heap.size≤b
 ltx:∀ t b,Xs t b≠0→b<w.heap.size
theorem kL {B:Base} {hid hid':Nat→Value} {a a':Act} {E E':Env} {Fs Xs:Nat→aH} (R:Rel B hid w a E Fs Xs) {r:Nat}
  (hE:E'.f r=E.f r) (hp:E'.ep r=E.ep r) (hv:aI a'.tmps hid' r=aI a.tmps hid r) (s1:j9 w w' (Fs r)) (s2:j9 w w' (Xs r)) (e:Nat) (p:a8) :
  aN w' (aI a'.tmps hid') E' r e p=aN w (aI a.tmps hid) E r e p:=by
 unfold aN
 rw [hE,hp,hv]
 split
 ·rfl
 ·split
  case isFalse=>rfl
  rename_i hc
  simp only [lA1] at hc
  obtain ⟨_,hr,u,hu⟩:=hc
  obtain ⟨hh,Fu,Fr,Xu,Xr,hF,hX,_,hres,hrest⟩:=jN p (R.rep r) hu
  have:=(hrest w' (aN w (aI a.tmps hid) E) (fun b hb=>s1 b (by rw [hF]; omega)) (fun b hb=>s2 b (by rw [hX]; omega)) (fun _ _ _ _ h=>.inr h)).1
  rw [this,hres]
theorem Rel.change {B:Base} {hid hid':Nat→Value} {a a':Act} {E E':Env} {Fs Xs Fs' Xs':Nat→aH} (R:Rel B hid w a E Fs Xs) (D:Nat→Prop)
  (hsz:a'.tmps.size=B.n) (hdf:a'.defers=[])
  (hE:∀ t,¬ D t→E'.f t=E.f t∧E'.ep t=E.ep t∧aI a'.tmps hid' t=aI a.tmps hid t∧Fs' t=Fs t∧Xs' t=Xs t∧j9 w w' (Fs t)∧j9 w w' (Xs t))
  (hl:∀ r,D r→∀ e p o,aN w (aI a.tmps hid) E r e p=some o→aN w' (aI a'.tmps hid') E' r e p=some none∨aN w' (aI a'.tmps hid') E' r e p=some o)
  (hD:(∀ r e p o,aN w (aI a.tmps hid) E r e p=some o→aN w' (aI a'.tmps hid') E' r e p=some none∨aN w' (aI a'.tmps hid') E' r e p=some o) →
   ∀ t,D t→RepA w' (aN w' (aI a'.tmps hid') E') (Fs' t) (Xs' t) [aI a'.tmps hid' t] [E'.f t])
  (one:∀ t,D t→∀ b,Fs' t b≤1)
  (dis:∀ t,D t→∀ t',t≠t'→∀ b,Fs' t b=0∨Fs' t' b=0)
  (disF:∀ t,D t→∀ t' b,Fs' t b=0∨Xs' t' b=0)
  (disX:∀ t,D t→∀ t' b,Fs' t' b=0∨Xs' t b=0)
  (grow:Grows w w')
  (frame:∀ b,b<B.w0.heap.size→B.F0 b=0→w'.heap[b]?=w.heap[b]?)
  (org:∀ t,D t→∀ b,Fs' t b≠0→B.F0 b≠0∨B.w0.heap.size≤b)
  (orgx:∀ t,D t→∀ b,Xs' t b≠0→(B.X0 b≠0∨B.F0 b≠0∨B.w0.heap.size≤b)∧b<w'.heap.size):Rel B hid' w' a' E' Fs' Xs':=by
 have links:∀ r e p o,aN w (aI a.tmps hid) E r e p=some o→aN w' (aI a'.tmps hid') E' r e p=some none∨aN w' (aI a'.tmps hid') E' r e p=some o:=by
  intro r e p o h
  by_cases hr:D r
  ·exact hl r hr e p o h
  ·obtain ⟨h1,h2,h3,h4,h5,h6,h7⟩:=hE r hr
   exact .inr (by rw [kL R h1 h2 h3 h6 h7]; exact h)
 refine ⟨hsz,hdf,?_,?_,?_,?_,R.grow.trans grow,?_,?_,?_,?_⟩
 ·intro t
  by_cases ht:D t
  ·exact hD links t ht
  ·obtain ⟨h1,h2,h3,h4,h5,h6,h7⟩:=hE t ht
   have:=(R.rep t).same (w':=w') (lk':=aN w' (aI a'.tmps hid') E') links h6 h7
   rw [h1,h3,h4,h5]; exact this
 ·intro t b
  by_cases ht:D t
  ·exact one t ht b
  ·rw [(hE t ht).2.2.2.1]; exact R.one t b
 ·intro t t' b hne
  by_cases ht:D t
  ·exact dis t ht t' hne b
  ·by_cases ht':D t'
   ·exact (dis t' ht' t (Ne.symm hne) b).symm
   ·rw [(hE t ht).2.2.2.1,(hE t' ht').2.2.2.1]; exact R.dis t t' b hne
 ·intro t t' b
  by_cases ht:D t
  ·exact disF t ht t' b
  ·by_cases ht':D t'
   ·exact disX t' ht' t b
   ·rw [(hE t ht).2.2.2.1,(hE t' ht').2.2.2.2.1]; exact R.disx t t' b
 ·intro b hb h0; rw [frame b hb h0]; exact R.frame b hb h0
 ·intro t b hb
  by_cases ht:D t
  ·exact org t ht b hb
  ·rw [(hE t ht).2.2.2.1] at hb; exact R.org t b hb
 ·intro t b hb
  by_cases ht:D t
  ·exact (orgx t ht b hb).1
  ·rw [(hE t ht).2.2.2.2.1] at hb; exact R.orgx t b hb
 ·intro t b hb
  by_cases ht:D t
  ·exact (orgx t ht b hb).2
  ·rw [(hE t ht).2.2.2.2.1] at hb; exact lV3 (R.ltx t b hb) grow.size
end
section
def Env.put (E:Env) (d:Nat) (x:AV):Env:=
 ⟨fun t=>if t=d then x else E.f t,fun t=>if t=d∧(E.f d).isRoot=true then ((E.ep d).1+1,(E.ep d).2+1) else E.ep t⟩
def Env.upd (E:Env) (d:Nat) (x:AV):Env:=
 ⟨fun t=>if t=d then x else E.f t,fun t=>if t=d then ((E.ep d).1,(E.ep d).2+1) else E.ep t⟩
def Env.set0 (E:Env) (d:Nat) (x:AV):Env:=⟨fun t=>if t=d then x else E.f t,E.ep⟩
theorem mZ {E:Env} {d:Nat} {x:AV} {t:Nat} (h:t≠d):(E.set0 d x).f t=E.f t:=by simp [Env.set0,h]
theorem pB {E:Env} {d:Nat} {x:AV}:(E.set0 d x).f d=x:=by simp [Env.set0]
theorem kR (E:Env) (d:Nat) (x:AV) (t:Nat):(E.put d x).f t=if t=d then x else E.f t:=rfl
theorem amK (E:Env) (d:Nat) (x:AV) (t:Nat):(E.upd d x).f t=if t=d then x else E.f t:=rfl
theorem bV {E:Env} {d:Nat} {x:AV} {t:Nat} (h:t≠d):(E.put d x).f t=E.f t:=by simp [kR,h]
theorem cW {E:Env} {d:Nat} {x:AV} {t:Nat} (h:t≠d):(E.put d x).ep t=E.ep t:=by simp [Env.put,h]
theorem wA {E:Env} {d:Nat} {x:AV} {t:Nat} (h:t≠d):(E.upd d x).f t=E.f t:=by simp [amK,h]
theorem sJ {E:Env} {d:Nat} {x:AV} {t:Nat} (h:t≠d):(E.upd d x).ep t=E.ep t:=by simp [Env.upd,h]
theorem cN {E:Env} {d:Nat} {x:AV}:(E.put d x).f d=x:=by simp [kR]
theorem pC {E:Env} {d:Nat} {x:AV}:(E.upd d x).f d=x:=by simp [amK]
variable {w w':World} {lk lk':Lk}
theorem eH {vl vl':Nat→Value} {E E':Env} {d:Nat} {x:AV} (hE:E'.ep d=(E.put d x).ep d) {e:Nat} {p:a8} {o:Option Value}
  (h:aN w vl E d e p=some o):aN w' vl' E' d e p=some none:=by
 unfold aN at h ⊢
 rw [hE]
 simp only [Env.put,lP,true_and]
 by_cases hr:(E.f d).isRoot=true
 ·simp only [hr,lP]
  have:e≤fM (E.ep d) p:=by
   split at h
   ·omega
   ·split at h
    ·rename_i hc; omega
    ·split at h
     ·rename_i hc; omega
     ·cases h
  rw [lF]
  unfold fM at *
  split <;> simp_all <;> omega
 ·simp only [hr] at h ⊢
  split at h
  ·rename_i hlt; simp [hlt]
  ·simp at h
theorem sK {vl vl':Nat→Value} {E E':Env} {d:Nat} {x:AV} (hE:E'.ep d=(E.upd d x).ep d) (hf:E'.f d=x) (hx:x.isRoot=true) (hv:vl' d=vl d) {e:Nat} {p:a8} {o:Option Value}
  (h:aN w vl E d e p=some o):aN w' vl' E' d e p=some none∨aN w' vl' E' d e p=some o:=by
 unfold aN at h ⊢
 rw [hE,hf,hv]
 simp only [Env.upd,lP,hx,true_and]
 cases p with
 | nil=>
  simp only [fM,List.isEmpty_nil,lP] at h ⊢
  split at h
  ·rename_i hlt; left; rw [lF hlt]
  ·rename_i hlt
   split at h
   ·rename_i hc
    right
    rw [lK hlt,lF ⟨hc.1,by cases x <;> rfl⟩]
    simpa [iI] using h
   ·split at h
    ·rename_i hc hc2
     exact absurd ⟨hc2.1,hc2.2,by cases E.f d <;> rfl⟩ hc
    ·cases h
 | cons st p=>
  have hc1:∀ z:Nat × Nat,fM z (st::p)=z.2:=fun z=>rfl
  rw [hc1] at h ⊢
  left
  have:e≤(E.ep d).2:=by
   split at h
   ·omega
   ·split at h
    ·rename_i hc; omega
    ·split at h
     ·rename_i hc; omega
     ·cases h
  rw [lF (by omega)]
theorem adN (q:a8):∀ (p:a8) (t:TV),(jK (xQ t p .undef) q).isSome=true→(jK t q).isSome=true:=by
 induction q with
 | nil=>intro p t _; cases t <;> rfl
 | cons sq q ih=>
  intro p t h
  cases p with
  | nil=>simp [xQ,jK] at h
  | cons st p=>
   cases t with
   | sl s es=>
    simp only [xQ,jK] at h ⊢
    split at h
    case isFalse=>simp at h
    rename_i hs
    rw [lF hs]
    cases h1:es[sq.i]? with
    | none=>
     rw [lO1] at h
     rw [h1] at h
     simp at h
    | some row=>
     rw [lO1,h1] at h
     simp only [lS3,lB,lD] at h ⊢
     cases h2:row[sq.j]? with
     | none=>
      by_cases e:st.i=sq.i
      ·simp only [e,lP] at h
       rw [lO1,h2] at h
       simp at h
      ·simp only [e,lG1] at h
       rw [h2] at h; simp at h
     | some c=>
      simp only [lD]
      by_cases e:st.i=sq.i
      ·simp only [e,lP] at h
       rw [lO1,h2] at h
       simp only [lS3,lB,lD] at h
       by_cases e2:st.j=sq.j
       ·simp only [e2,lP] at h; exact ih p c h
       ·simpa [e2] using h
      ·simp only [e,lG1] at h
       rw [h2] at h; simpa using h
   | _=>simpa [xQ] using h
theorem adO (q:a8):∀ (p:a8) (a:AV),(cA (cV a p .undef) q).isSome=true→(cA a q).isSome=true:=by
 induction q with
 | nil=>intro p a _; cases a <;> rfl
 | cons sq q ih=>
  intro p a h
  cases p with
  | nil=>cases a <;> simp [cV,cA] at h
  | cons st p=>
   cases a with
   | own s es=>
    simp only [cV,AV.tv,cA,lX2] at h ⊢
    have:=adN (sq::q) (st::p) (.sl s es)
    simp only [xQ] at this
    exact this h
   | box cs=>
    simp only [cV,cA] at h ⊢
    split at h
    case isFalse=>simp at h
    rename_i hs
    rw [lF hs]
    rw [lO1] at h
    cases h1:cs[sq.j]? with
    | none=>rw [h1] at h; simp at h
    | some c=>
     rw [h1] at h
     simp only [lS3,lB,lD] at h ⊢
     by_cases e:st.j=sq.j
     ·simp only [e,lP] at h; exact ih p c h
     ·simpa [e] using h
   | _=>simpa [cV] using h
theorem adP {vl vl':Nat→Value} {E E':Env} {d:Nat} {p0:a8} (hE:E'.ep d=E.ep d) (hf:E'.f d=cV (E.f d) p0 .undef) (hx:(E.f d).isRoot=true→(cV (E.f d) p0 .undef).isRoot=true) (hx':(cV (E.f d) p0 .undef).isRoot=true→(E.f d).isRoot=true) (hv:vl' d=vl d) {e:Nat} {p:a8} {o:Option Value}
  (h:aN w vl E d e p=some o):aN w vl' E' d e p=some none∨aN w vl' E' d e p=some o:=by
 unfold aN at h ⊢
 rw [hE,hf,hv]
 split at h
 ·rename_i hlt; left; rw [lF hlt]
 ·rename_i hlt
  rw [lK hlt]
  split at h
  ·rename_i hc
   by_cases hs:(cA (cV (E.f d) p0 .undef) p).isSome=true
   ·right; rw [lF ⟨hc.1,hx hc.2.1,hs⟩]; exact h
   ·left; rw [lK (fun g=>hs g.2.2),lF ⟨hc.1,hx hc.2.1⟩]
  ·split at h
   ·rename_i hc hc2
    left
    by_cases hs:(cA (cV (E.f d) p0 .undef) p).isSome=true
    ·exact absurd ⟨hc2.1,hc2.2,adO _ _ _ hs⟩ hc
    ·rw [lK (fun g=>hs g.2.2),lF ⟨hc2.1,hx hc2.2⟩]
   ·cases h
def bB (B:Base) (hv:Nat→Value) (w:World) (a:Act) (E:Env):Prop:=
 ∃ hid Fs Xs,Rel B hid w a E Fs Xs∧∀ t,t<2000→hid t=hv t
theorem pD {tmps:Array Value} {hid:Nat→Value} {q:Nat} (h:tmps.size≤q):aI tmps hid q=hid q:=by
 unfold aI; rw [if_neg (by omega)]
theorem akH {tmps:Array Value} {hid:Nat→Value} {q t:Nat} {v:Value} (h:t≠q):aI tmps (fun t=>if t=q then v else hid t) t=aI tmps hid t:=by
 unfold aI; split
 ·rfl
 ·simp [h]
theorem amL {a:Act} {hid:Nat→Value} {d t:Nat} {v:Value} (h:t≠d):aI (a.put (some d) v).tmps hid t=aI a.tmps hid t:=by
 unfold aI
 simp only [Act.put,Array.size_setIfInBounds,lW]
 rw [Array.getElem?_setIfInBounds_ne (Ne.symm h)]
theorem afH {a:Act} {hid:Nat→Value} {d:Nat} {v:Value} (h:d<a.tmps.size):aI (a.put (some d) v).tmps hid d=v:=by
 unfold aI
 simp [Act.put,h]
theorem kW {a:Act} {hid:Nat→Value} {t:Nat} (h:t<a.tmps.size):a.eval (.tmp t)=aI a.tmps hid t:=by
 unfold aI
 rw [lF h]
 simp [Act.eval]
theorem Rel.hput {B:Base} {hid:Nat→Value} {a:Act} {E E':Env} {Fs Xs:Nat→aH} (R:Rel B hid w a E Fs Xs) (q:Nat) (hq:B.n≤q) (Q:Nat→Prop)
  (hQq:¬ Q q) (v:Value) (x:AV) (Fx Xx:aH)
  (hE:∀ t,t≠q→¬ Q t→E'.f t=E.f t∧E'.ep t=E.ep t) (hqf:E'.f q=x) (hqe:E'.ep q=(E.put q x).ep q)
  (hQ:∀ t,Q t→E'.f t=.undef∧E'.ep t=(E.put t .undef).ep t)
  (sm:∀ t,t≠q→¬ Q t→j9 w w' (Fs t)∧j9 w w' (Xs t))
  (hx:∀ lk',(∀ r e p o,aN w (aI a.tmps hid) E r e p=some o→lk' r e p=some none∨lk' r e p=some o)→RepA w' lk' Fx Xx [v] [x])
  (one:∀ b,Fx b≤1) (dis:∀ t,t≠q→¬ Q t→∀ b,Fx b=0∨Fs t b=0) (dx1:∀ b,Fx b=0∨Xx b=0)
  (dx2:∀ t,t≠q→¬ Q t→∀ b,Fx b=0∨Xs t b=0) (dx3:∀ t,t≠q→¬ Q t→∀ b,Xx b=0∨Fs t b=0)
  (grow:Grows w w') (frame:∀ b,b<B.w0.heap.size→B.F0 b=0→w'.heap[b]?=w.heap[b]?)
  (org:∀ b,Fx b≠0→B.F0 b≠0∨B.w0.heap.size≤b) (orgx:∀ b,Xx b≠0→(B.X0 b≠0∨B.F0 b≠0∨B.w0.heap.size≤b)∧b<w'.heap.size) :
  ∃ Fs' Xs',Rel B (fun t=>if t=q then v else hid t) w' a E' Fs' Xs'∧(∀ b,Fs' q b=Fx b)∧(∀ b,Xs' q b=Xx b) ∧
   (∀ t,t≠q→¬ Q t→Fs' t=Fs t∧Xs' t=Xs t)∧(∀ t,Q t→(∀ b,Fs' t b=0)∧∀ b,Xs' t b=0):=by
 classical
 refine ⟨fun t=>if t=q then Fx else if Q t then fun _=>0 else Fs t,fun t=>if t=q then Xx else if Q t then fun _=>0 else Xs t,?_,
  fun b=>by simp,fun b=>by simp,fun t h1 h2=>by simp [h1,h2],fun t h=>?_⟩
 rotate_left
 ·have:t≠q:=fun e=>hQq (e ▸ h)
  simp [this,h]
 refine R.change (fun t=>t=q∨Q t) R.size R.dfr ?_ ?_ ?_ ?_ ?_ ?_ ?_ grow frame ?_ ?_
 ·intro t ht
  have h1:t≠q:=fun e=>ht (.inl e)
  have h2:¬ Q t:=fun e=>ht (.inr e)
  obtain ⟨e1,e2⟩:=hE t h1 h2
  exact ⟨e1,e2,akH h1,by simp [h1,h2],by simp [h1,h2],(sm t h1 h2).1,(sm t h1 h2).2⟩
 ·intro r hr e p o h
  rcases hr with rfl | hr
  ·exact .inl (eH hqe h)
  ·exact .inl (eH (hQ r hr).2 h)
 ·intro links t ht
  rcases ht with rfl | ht
  ·have e1:aI a.tmps (fun s=>if s=t then v else hid s) t=v:=by rw [pD (by rw [R.size]; exact hq)]; simp
   rw [e1,hqf]
   simp only [lP]
   exact hx _ links
  ·have h1:t≠q:=fun e=>hQq (e ▸ ht)
   rw [(hQ t ht).1]
   simp only [h1,ht,lP,lG1]
   exact .undef _ _ _ _ _ RepA.znil
 ·intro t ht b
  by_cases e:t=q
  ·simp only [e,lP]; exact one b
  ·have:Q t:=ht.resolve_left e
   simp [e,this]
 ·intro t ht t' hne b
  by_cases e:t=q
  ·simp only [e,lP]
   have e':t'≠q:=fun h=>hne (e.trans h.symm)
   simp only [e',lG1]
   by_cases hq':Q t'
   ·simp [hq']
   ·simp only [hq',lG1]; exact dis t' e' hq' b
  ·have:Q t:=ht.resolve_left e
   simp [e,this]
 ·intro t ht t' b
  by_cases e:t=q
  ·simp only [e,lP]
   by_cases e':t'=q
   ·simp only [e',lP]; exact dx1 b
   ·simp only [e',lG1]
    by_cases hq':Q t'
    ·simp [hq']
    ·simp only [hq',lG1]; exact dx2 t' e' hq' b
  ·have:Q t:=ht.resolve_left e
   simp [e,this]
 ·intro t ht t' b
  by_cases e:t=q
  ·simp only [e,lP]
   by_cases e':t'=q
   ·simp only [e',lP]; exact dx1 b
   ·simp only [e',lG1]
    by_cases hq':Q t'
    ·simp [hq']
    ·simp only [hq',lG1]; exact (dx3 t' e' hq' b).symm
  ·have:Q t:=ht.resolve_left e
   simp [e,this]
 ·intro t ht b hb
  by_cases e:t=q
  ·simp only [e,lP] at hb; exact org b hb
  ·have:Q t:=ht.resolve_left e
   simp [e,this] at hb
 ·intro t ht b hb
  by_cases e:t=q
  ·simp only [e,lP] at hb; exact orgx b hb
  ·have:Q t:=ht.resolve_left e
   simp [e,this] at hb
end
section
variable {w w':World}
structure PR (B:Base) (hid:Nat→Value) (w:World) (a:Act) (E:Env) (Fs Xs:Nat→aH) (FP XP:aH) (vs:List Value) (xs:List AV):Prop where
 rel:Rel B hid w a E Fs Xs
 rep:RepA w (aN w (aI a.tmps hid) E) FP XP vs xs
 one:∀ b,FP b≤1
 dis:∀ t b,FP b=0∨Fs t b=0
 dx1:∀ t b,FP b=0∨Xs t b=0
 dx2:∀ t b,XP b=0∨Fs t b=0
 dx3:∀ b,FP b=0∨XP b=0
 org:∀ b,FP b≠0→B.F0 b≠0∨B.w0.heap.size≤b
 orgx:∀ b,XP b≠0→(B.X0 b≠0∨B.F0 b≠0∨B.w0.heap.size≤b)∧b<w.heap.size
theorem PR.nil {B:Base} {hid:Nat→Value} {a:Act} {E:Env} {Fs Xs:Nat→aH} (R:Rel B hid w a E Fs Xs):PR B hid w a E Fs Xs (fun _=>0) (fun _=>0) [] []:=
 ⟨R,RepA.znil,fun b=>by simp,fun t b=>.inl rfl,fun t b=>.inl rfl,fun t b=>.inl rfl,fun b=>.inl rfl,fun b h=>absurd rfl h,fun b h=>absurd rfl h⟩
theorem PR.copy {B:Base} {hid:Nat→Value} {a:Act} {E:Env} {Fs Xs:Nat→aH} {FP XP:aH} {vs:List Value} {xs:List AV}
  (P:PR B hid w a E Fs Xs FP XP vs xs) {v:Value} {x:AV} {F X:aH} (h:RepA w (aN w (aI a.tmps hid) E) F X [v] [x]) (hF:∀ b,F b=0)
  (hX:∀ b,X b≠0→∃ t,Xs t b≠0):∃ XP',PR B hid w a E Fs Xs FP XP' (vs++[v]) (xs++[x]):=by
 refine ⟨fun b=>XP b+X b,P.rel,RepA.append P.rep h (fun b=>by rw [hF]; omega) (fun _=>rfl),P.one,P.dis,P.dx1,?_,?_,P.org,?_⟩
 ·intro t b
  rcases P.dx2 t b with h1 | h1
  ·by_cases h2:X b=0
   ·left; (try dsimp only); omega
   ·obtain ⟨t',ht'⟩:=hX b h2
    rcases P.rel.disx t t' b with h3 | h3
    ·exact .inr h3
    ·exact absurd h3 ht'
  ·exact .inr h1
 ·intro b
  by_cases h2:X b=0
  ·rcases P.dx3 b with h1 | h1
   ·exact .inl h1
   ·right; (try dsimp only); omega
  ·obtain ⟨t',ht'⟩:=hX b h2
   rcases P.dx1 t' b with h3 | h3
   ·exact .inl h3
   ·exact absurd h3 ht'
 ·intro b hb
  by_cases h2:X b=0
  ·exact P.orgx b (by (try dsimp only at hb); omega)
  ·obtain ⟨t',ht'⟩:=hX b h2
   exact ⟨P.rel.orgx t' b ht',P.rel.ltx t' b ht'⟩
theorem PR.move {B:Base} {hid:Nat→Value} {a:Act} {E:Env} {Fs Xs:Nat→aH} {FP XP:aH} {vs:List Value} {xs:List AV}
  (P:PR B hid w a E Fs Xs FP XP vs xs) (n:Nat) :
  ∃ Fs' Xs' FP' XP',PR B hid w a (E.put n .undef) Fs' Xs' FP' XP' (vs++[aI a.tmps hid n]) (xs++[E.f n]):=by
 have R:=P.rel
 have links:∀ r e p o,aN w (aI a.tmps hid) E r e p=some o→aN w (aI a.tmps hid) (E.put n .undef) r e p=some none∨aN w (aI a.tmps hid) (E.put n .undef) r e p=some o:=by
  intro r e p o h
  by_cases hr:r=n
  ·subst hr; exact .inl (eH rfl h)
  ·exact .inr (by rw [kL R (bV hr) (cW hr) rfl (fun _ _=>rfl) (fun _ _=>rfl)]; exact h)
 refine ⟨fun t=>if t=n then fun _=>0 else Fs t,fun t=>if t=n then fun _=>0 else Xs t,fun b=>FP b+Fs n b,fun b=>XP b+Xs n b,?_,?_,?_,?_,?_,?_,?_,?_,?_⟩
 ·refine R.change (fun t=>t=n) R.size R.dfr ?_ ?_ ?_ ?_ ?_ ?_ ?_ (Grows.refl _) (fun _ _ _=>rfl) ?_ ?_
  ·intro t ht; exact ⟨bV ht,cW ht,rfl,by simp [ht],by simp [ht],fun _ _=>rfl,fun _ _=>rfl⟩
  ·intro r hr e p o h; subst hr; exact .inl (eH rfl h)
  ·intro _ t ht; subst ht; rw [cN]; simp only [lP]; exact .undef _ _ _ _ _ RepA.znil
  ·intro t ht b; simp [ht]
  ·intro t ht t' hne b; simp [ht]
  ·intro t ht t' b; simp [ht]
  ·intro t ht t' b; simp [ht]
  ·intro t ht b hb; simp [ht] at hb
  ·intro t ht b hb; simp [ht] at hb
 ·exact RepA.append (P.rep.same links (fun _ _=>rfl) (fun _ _=>rfl)) ((R.rep n).same links (fun _ _=>rfl) (fun _ _=>rfl)) (fun _=>rfl) (fun _=>rfl)
 ·intro b
  have:=P.one b; have:=R.one n b; have:=P.dis n b
  (try dsimp only); omega
 ·intro t b
  by_cases ht:t=n
  ·simp [ht]
  ·simp only [ht,lG1]
   have:=P.dis t b; have:=R.dis t n b ht
   omega
 ·intro t b
  by_cases ht:t=n
  ·simp [ht]
  ·simp only [ht,lG1]
   have:=P.dx1 t b; have:=R.disx n t b
   omega
 ·intro t b
  by_cases ht:t=n
  ·simp [ht]
  ·simp only [ht,lG1]
   have:=P.dx2 t b; have:=R.disx t n b
   omega
 ·intro b
  have:=P.dx3 b; have:=P.dx1 n b; have:=P.dx2 n b; have:=R.disx n n b
  (try dsimp only); omega
 ·intro b hb
  by_cases h:FP b=0
  ·exact R.org n b (by (try dsimp only at hb); omega)
  ·exact P.org b h
 ·intro b hb
  by_cases h:XP b=0
  ·exact ⟨R.orgx n b (by (try dsimp only at hb); omega),R.ltx n b (by (try dsimp only at hb); omega)⟩
  ·exact P.orgx b h
def takeN (E:Env) (r:Nat) (p:a8):Env:=if p.isEmpty then E.put r .undef else E.set0 r (cV (E.f r) p .undef)
def aK (E:Env) (r e:Nat) (p:a8):Option (Nat × List (List TV)):=
 if e=fM (E.ep r) p then match (E.f r).isRoot,cA (E.f r) p with
  | true,some (.own s es)=>some (s,es)
  | _,_=>none
 else none
theorem bP {E:Env} {r e:Nat} {p:a8} {s:Nat} {es:List (List TV)} (h:aK E r e p=some (s,es)) :
  e=fM (E.ep r) p∧(E.f r).isRoot=true∧cA (E.f r) p=some (.own s es):=by
 unfold aK at h
 split at h
 ·rename_i he
  split at h
  ·rename_i s' es' h1 h2; cases h; exact ⟨he,h1,h2⟩
  ·cases h
 ·cases h
theorem adQ (p:a8):∀ (a u:AV),cA a p=some u→a.isRoot=true∨p=[]→kK a p .undef=true:=by
 induction p with
 | nil=>intro a u _ _; cases a <;> rfl
 | cons st p ih=>
  intro a u h hr
  cases a with
  | own s es=>rfl
  | box cs=>
   simp only [cA] at h
   split at h
   case isFalse=>cases h
   cases hj:cs[st.j]? with
   | none=>simp [hj] at h
   | some c=>
    simp [hj] at h
    simp only [kK,hj]
    cases p with
    | nil=>cases c <;> rfl
    | cons st' p'=>
     refine ih c u h (.inl ?_)
     cases c <;> simp [cA] at h <;> rfl
  | _=>simp [cA] at h
theorem PR.node {B:Base} {hid:Nat→Value} {a:Act} {E:Env} {Fs Xs:Nat→aH} {FP XP:aH} {us vs:List Value} {ys xs:List AV} {v:Value} {r e:Nat} {p:a8} {s:Nat} {es:List (List TV)}
  (hl:us.length=ys.length)
  (P:PR B hid w a E Fs Xs FP XP (us++v::vs) (ys++.lnk r e p::xs)) (hn:aK E r e p=some (s,es)) :
  ∃ Fs' Xs' FP' XP',PR B hid w a (takeN E r p) Fs' Xs' FP' XP' (us++v::vs) (ys++.own s es::xs):=by
 have R:=P.rel
 obtain ⟨he,hroot,hg⟩:=bP hn
 obtain ⟨h,Fu,Fr,Xu,Xr,hF,hX,hu,hres,hrest⟩:=jN p (R.rep r) hg
 obtain ⟨hrow,hxu⟩:=RepA.to_row hu rfl
 obtain ⟨A1,A2,Y1,Y2,q1,q2,eA,eY⟩:=RepA.split us ys hl P.rep
 obtain ⟨C1,C2,Z1,Z2,q3,q4,eC,eZ⟩:=RepA.uncons q2
 have hv:v=h:=by
  have hlk:aN w (aI a.tmps hid) E r e p=some (some h):=by
   unfold aN; rw [if_neg (by omega),if_pos ⟨he,hroot,by rw [hg]; rfl⟩,hres]
  cases q3 with
  | lnk _ _ _ _ _ o _ _ _ ho hv _=>rw [hlk] at ho; cases ho; exact hv h rfl
 have hz:(∀ b,C1 b=0)∧∀ b,Z1 b=0:=by
  cases q3 with
  | lnk _ _ _ _ _ o _ _ _ ho hv q=>cases q with | nil _ _ h1 h2=>exact ⟨h1,h2⟩
 subst hv
 have hep:∀ t,t≠r→(takeN E r p).f t=E.f t∧(takeN E r p).ep t=E.ep t:=by
  intro t ht; unfold takeN; split
  ·exact ⟨bV ht,cW ht⟩
  ·exact ⟨mZ ht,rfl⟩
 have hR:(takeN E r p).f r=if p.isEmpty then .undef else cV (E.f r) p .undef:=by
  unfold takeN; split
  ·exact cN
  ·exact pB
 have hrootr:p.isEmpty=false→((takeN E r p).f r).isRoot=true:=by
  intro hp
  rw [hR,hp]
  cases p with
  | nil=>simp at hp
  | cons st p=>
   simp only [lW3,lG1]
   cases hq:E.f r with
   | own s es=>simp only [cV]; split <;> rfl
   | box cs=>rfl
   | _=>rw [hq] at hroot; cases hroot
 have links:∀ r' e p' o,aN w (aI a.tmps hid) E r' e p'=some o→aN w (aI a.tmps hid) (takeN E r p) r' e p'=some none∨aN w (aI a.tmps hid) (takeN E r p) r' e p'=some o:=by
  intro r' e' p' o h'
  by_cases hr:r'=r
  ·subst hr
   by_cases hp:p.isEmpty=true
   ·exact .inl (eH (x:=.undef) (by unfold takeN; rw [if_pos hp]) h')
   ·have hp':p.isEmpty=false:=by simpa using hp
    have:=hrootr hp'
    rw [hR,hp'] at this
    exact adP (p0:=p) (by unfold takeN; rw [if_neg hp]; rfl) (by rw [hR,hp']; rfl) (fun _=>this) (fun _=>hroot) rfl h'
  ·exact .inr (by rw [kL R (hep r' hr).1 (hep r' hr).2 rfl (fun _ _=>rfl) (fun _ _=>rfl)]; exact h')
 have hrep:RepA w (aN w (aI a.tmps hid) (takeN E r p)) (if p.isEmpty then fun _=>0 else Fr) (if p.isEmpty then fun _=>0 else Xr) [aI a.tmps hid r] [(takeN E r p).f r]:=by
  rw [hR]
  cases hp:p.isEmpty with
  | true=>exact .undef _ _ _ _ _ RepA.znil
  | false=>
   simp only [lW3,lG1]
   obtain ⟨c1,c2⟩:=hrest w (aN w (aI a.tmps hid) (takeN E r p)) (fun _ _=>rfl) (fun _ _=>rfl) links
   exact (c2 .undef (fun _=>0) (fun _=>0) (.undef _ _ _ _ _ RepA.znil) (adQ p _ _ hg (.inl hroot))).foot (fun b=>by simp) (fun b=>by simp)
 have hFr:∀ b,(if p.isEmpty then (fun _=>0:aH) else Fr) b≤Fr b:=by intro b; split <;> simp
 have hXr:∀ b,(if p.isEmpty then (fun _=>0:aH) else Xr) b≤Xr b:=by intro b; split <;> simp
 generalize (if p.isEmpty then (fun _=>0:aH) else Fr)=Gr at hrep hFr
 generalize (if p.isEmpty then (fun _=>0:aH) else Xr)=Wr at hrep hXr
 refine ⟨fun t=>if t=r then Gr else Fs t,fun t=>if t=r then Wr else Xs t,fun b=>FP b+Fu b,XP,?_,?_,?_,?_,?_,?_,?_,?_,P.orgx⟩
 ·refine R.change (fun t=>t=r) R.size R.dfr ?_ ?_ ?_ ?_ ?_ ?_ ?_ (Grows.refl _) (fun _ _ _=>rfl) ?_ ?_
  ·intro t ht; exact ⟨(hep t ht).1,(hep t ht).2,rfl,by simp [ht],by simp [ht],fun _ _=>rfl,fun _ _=>rfl⟩
  ·intro r' hr e' p' o h'; exact links r' e' p' o h'
  ·intro _ t ht; subst ht; simp only [lP]; exact hrep
  ·intro t ht b; subst ht; simp only [lP]; have:=hFr b; have:=R.one t b; have:=hF b; omega
  ·intro t ht t' hne b; subst ht; simp only [lP,Ne.symm hne,lG1]
   have:=hFr b; have:=R.dis t t' b hne; have:=hF b; omega
  ·intro t ht t' b; subst ht; simp only [lP]
   by_cases e:t'=t
   ·simp only [e,lP]; have:=hFr b; have:=hXr b; have:=R.disx t t b; have:=hF b; have:=hX b; omega
   ·simp only [e,lG1]; have:=hFr b; have:=R.disx t t' b; have:=hF b; omega
  ·intro t ht t' b; subst ht; simp only [lP]
   by_cases e:t'=t
   ·simp only [e,lP]; have:=hFr b; have:=hXr b; have:=R.disx t t b; have:=hF b; have:=hX b; omega
   ·simp only [e,lG1]; have:=hXr b; have:=R.disx t' t b; have:=hX b; omega
  ·intro t ht b hb; subst ht; simp only [lP] at hb; have:=hFr b; exact R.org t b (by rw [hF]; omega)
  ·intro t ht b hb; subst ht; simp only [lP] at hb; have:=hXr b; exact ⟨R.orgx t b (by rw [hX]; omega),R.ltx t b (by rw [hX]; omega)⟩
 ·have g1:=q1.same (lk':=aN w (aI a.tmps hid) (takeN E r p)) links (fun _ _=>rfl) (fun _ _=>rfl)
  have g2:=q4.same (lk':=aN w (aI a.tmps hid) (takeN E r p)) links (fun _ _=>rfl) (fun _ _=>rfl)
  have g3:RepA w (aN w (aI a.tmps hid) (takeN E r p)) Fu (fun _=>0) [v] [.own s es]:=.own _ Fu (fun _=>0) _ s es v [] [] hrow RepA.znil (fun x=>by simp)
  have g4:=RepA.cons g3 g2 (fun _=>rfl) (fun _=>rfl)
  exact RepA.append g1 g4 (fun b=>by have:=eA b; have:=eC b; have:=hz.1 b; (try dsimp only); omega) (fun b=>by have:=eY b; have:=eZ b; have:=hz.2 b; (try dsimp only); omega)
 ·intro b; have:=P.one b; have:=R.one r b; have:=P.dis r b; have:=hF b; (try dsimp only); omega
 ·intro t b
  by_cases e:t=r
  ·subst e; simp only [lP]; have:=P.dis t b; have:=R.one t b; have:=hF b; have:=hFr b; omega
  ·simp only [e,lG1]; have:=P.dis t b; have:=R.dis t r b e; have:=hF b; omega
 ·intro t b
  by_cases e:t=r
  ·subst e; simp only [lP]; have:=P.dx1 t b; have:=R.disx t t b; have:=hF b; have:=hX b; have:=hXr b; omega
  ·simp only [e,lG1]; have:=P.dx1 t b; have:=R.disx r t b; have:=hF b; omega
 ·intro t b
  by_cases e:t=r
  ·subst e; simp only [lP]; have:=P.dx2 t b; have:=hF b; have:=hFr b; omega
  ·simp only [e,lG1]; exact P.dx2 t b
 ·intro b; have:=P.dx3 b; have:=P.dx2 r b; have:=hF b; (try dsimp only); omega
 ·intro b hb
  by_cases h':FP b=0
  ·exact R.org r b (by (try dsimp only at hb); rw [hF]; omega)
  ·exact P.org b h'
end
inductive O where
 | t (n:Nat)
 | c (a:AV)
 deriving Inhabited
inductive I where
 | mov (d:Nat) (x:O)
 | asg (d:Nat) (x:O)
 | mrk (d:Nat) (x:O)
 | bin (d:Nat) (op:BinOp) (x y:O)
 | beq (d:Nat) (neg:Bool) (x y:O)
 | eqs (d:Nat) (neg:Bool) (ks:List Nat) (x y:O)
 | isn (d:Nat) (neg:Bool) (x y:O)
 | un (d:Nat) (op:UnOp) (x:O)
 | conv (d:Nat) (k:IntKind) (x:O)
 | s2b (d:Nat) (x:O)
 | b2s (d:Nat) (x:O)
 | len (d:Nat) (x:O)
 | lens (d:Nat) (x:O)
 | idx (d:Nat) (x i:O) (s:Nat)
 | fld (d:Nat) (x:O) (off:Nat)
 | fldv (d:Nat) (x:O) (off sz:Nat) (ag:Bool)
 | ld (d:Nat) (x:O) (sz:Nat) (ag:Bool)
 | st (x v:O) (sz:Nat)
 | alc (d:Nat) (zero:List TV)
 | box (d:Nat) (v:O)
 | bld (d:Nat) (zero:List TV) (parts:List (Nat × Nat × O))
 | bsl (d s:Nat) (parts:List O)
 | xtr (d:Nat) (x:O) (k:Nat)
 | nck (d:Nat) (x:O)
 | app (d:Nat) (x y:O) (s bts:Nat)
 | cpy (d:Nat) (x y:O) (s:Nat)
 | clr (x:O) (s:Nat) (zero:List TV)
 | mks (d:Nat) (len cap:O) (s bts:Nat) (zero:List TV)
 | slc (d:Nat) (x:O) (lo hi:Option O) (s:Nat)
 | sls (d:Nat) (x:O) (lo hi:Option O)
 | sidx (d:Nat) (x i:O)
 | mx (d:Nat) (x y:O)
 | mn (d:Nat) (x y:O)
 | pck (d:Nat) (c a b:O)
 | mkf (d:Nat) (f:Nat) (caps:List O)
 | call (d:Option Nat) (f:Nat) (xs:List O)
 | callv (d:Option Nat) (x:O) (xs:List O)
 deriving Inhabited
structure GI where
 g:Option (Nat × Bool)
 d:Option Nat
 i:I
 deriving Inhabited
inductive Cmd where
 | skip
 | reg (is:List GI) (ord:Option (List Nat))
 | seq (a b:Cmd)
 | cond (x:O) (a b:Cmd)
 | blk (id:Nat) (c:Cmd)
 | loop (c:Cmd)
 | exit (id:Nat)
 | ret
 deriving Inhabited
mutual
def AV.owns:AV→Bool
 | .own _ _=>true
 | .box _=>true
 | .agg cs=>bS cs
 | .tup cs=>bS cs
 | .fn _ cs=>bS cs
 | _=>false
def bS:List AV→Bool
 | []=>false
 | a::l=>a.owns || bS l
end
def val (E:Env):O→AV
 | .t n=>E.f n
 | .c a=>a
def adR (op:BinOp) (k:IntKind) (a b:Int):Option AV:=
 match op with
 | .add=>some (.int k (k.wrap (a+b)))
 | .sub=>some (.int k (k.wrap (a-b)))
 | .mul=>some (.int k (k.wrap (a*b)))
 | .quo=>if b=0 then none else some (.int k (k.wrap (a.tdiv b)))
 | .rem=>if b=0 then none else some (.int k (a.tmod b))
 | .and=>some (.int k (k.wrap (BitVec.ofInt k.bits a &&& BitVec.ofInt k.bits b).toNat))
 | .or=>some (.int k (k.wrap (BitVec.ofInt k.bits a ||| BitVec.ofInt k.bits b).toNat))
 | .xor=>some (.int k (k.wrap (BitVec.ofInt k.bits a ^^^ BitVec.ofInt k.bits b).toNat))
 | .eql=>some (.bool (a == b))
 | .neq=>some (.bool (a != b))
 | .lss=>some (.bool (a<b))
 | .leq=>some (.bool (a≤b))
 | .gtr=>some (.bool (a>b))
 | .geq=>some (.bool (a≥b))
 | _=>none
def shI (op:BinOp) (k:IntKind) (a b:Int):Option AV:=
 match op with
 | .shl=>if b<0 then none else some (.int k (k.wrap (a*2^(min b.toNat k.bits))))
 | .shr=>if b<0 then none else some (.int k (a.fdiv (2^(min b.toNat k.bits))))
 | _=>none
def strLt (a b:List UInt8):Bool:=Go.Op.bytesLess a b
def akI (op:BinOp) (a b:List UInt8):Option AV:=
 match op with
 | .add=>if a.length+b.length≤2^62 then some (.str (a++b)) else none
 | .eql=>some (.bool (a == b))
 | .neq=>some (.bool (!(a == b)))
 | .lss=>some (.bool (strLt a b))
 | .leq=>some (.bool (strLt a b || (a == b)))
 | .gtr=>some (.bool (!(strLt a b || (a == b))))
 | .geq=>some (.bool (!(strLt a b)))
 | _=>none
def eqC:List Nat→List AV→List AV→Option Bool
 | [],[],[]=>some true
 | 0::ks,.int k a::l,.int k' b::m=>if k=k' then (eqC ks l m).map ((a == b) && ·) else none
 | 1::ks,.str a::l,.str b::m=>(eqC ks l m).map ((a == b) && ·)
 | 2::ks,.bool a::l,.bool b::m=>(eqC ks l m).map ((a == b) && ·)
 | _,_,_=>none
def afE:BinOp→Bool
 | .shl=>true
 | .shr=>true
 | _=>false
def jL (op:BinOp) (x y:AV):Option AV:=
 match x,y with
 | .int k a,.int k' b=>if afE op then shI op k a b else if k=k' then adR op k a b else none
 | .str a,.str b=>akI op a b
 | _,_=>none
def unV (op:UnOp) (x:AV):Option AV:=
 match op,x with
 | .neg,.int k n=>some (.int k (k.wrap (0-n)))
 | .xor,.int k n=>some (.int k (k.wrap (BitVec.ofInt k.bits (if k.signed then -1 else k.max) ^^^ BitVec.ofInt k.bits n).toNat))
 | .not,.bool b=>some (.bool !b)
 | _,_=>none
def aM (s:List UInt8):List (List TV):=s.map fun b=>[.int .u8 b.toNat]
def sL:List TV→Option UInt8
 | [.int .u8 n]=>some (UInt8.ofNat n.toNat)
 | _=>none
def dR:List (List TV)→Option (List UInt8)
 | []=>some []
 | r::l=>(sL r).bind fun b=>(dR l).map (b::·)
def lA:TV→Bool
 | .sl _ _=>false
 | .undef=>false
 | _=>true
def fI:TV→Bool
 | .undef=>false
 | _=>true
def fU (es:List (List TV)):Bool:=es.all fun e=>e.all fI
def eJ (es:List (List TV)):Bool:=es.all fun e=>e.all lA
def aiH:TV→TV
 | .sl _ _=>.undef
 | t=>t
def rD (es:List (List TV)):List (List TV):=es.map fun e=>e.map aiH
def bA (E:Env):AV→Option (Nat × List (List TV))
 | .own s es=>some (s,es)
 | .ext s es=>some (s,es)
 | .extv _ s es=>some (s,es)
 | .lnk r e p=>aK E r e p
 | .sub r e p s lo n=>(aK E r e p).bind fun x=>if x.1=s∧lo+n≤x.2.length then some (s,(x.2.drop lo).take n) else none
 | _=>none
mutual
def bL (E:Env):AV→Option (AV × Env)
 | .lnk r e p=>(aK E r e p).map fun x=>(.own x.1 x.2,takeN E r p)
 | .sub r e p s lo n=>(aK E r e p).bind fun x=>if x.1=s∧lo+n≤x.2.length then some (.own s ((x.2.drop lo).take n),takeN E r p) else none
 | .agg cs=>(iJ E cs).map fun x=>(.agg x.1,x.2)
 | .tup cs=>none
 | .box cs=>none
 | .undef=>some (.undef,E)
 | .bool b=>some (.bool b,E)
 | .int k n=>some (.int k n,E)
 | .str s=>some (.str s,E)
 | .own s es=>some (.own s es,E)
 | .ext s es=>some (.ext s es,E)
 | .extv v s es=>some (.extv v s es,E)
 | .xbox cs=>some (.xbox cs,E)
 | .ref r e p st=>some (.ref r e p st,E)
 | .fn f cs=>some (.fn f cs,E)
def iJ (E:Env):List AV→Option (List AV × Env)
 | []=>some ([],E)
 | a::l=>(bL E a).bind fun x=>(iJ x.2 l).map fun y=>(x.1::y.1,y.2)
end
def fD (E:Env):O→AV × Env
 | .c a=>(a,E)
 | .t n=>if (E.f n).owns then (E.f n,E.put n .undef) else (E.f n,E)
def dT (E:Env) (x:O):Option (AV × Env):=bL (fD E x).2 (fD E x).1
def cellsOf:AV→List AV
 | .agg cs=>cs
 | a=>[a]
def tvs:List AV→Option (List TV)
 | []=>some []
 | a::l=>a.tv.bind fun t=>(tvs l).map (t::·)
def lay {α:Type} (row:List α) (j:Nat) (ts:List α):List α:=row.take j++ts++row.drop (j+ts.length)
def dL (r e:Nat) (p:a8):Nat→List AV→List AV
 | _,[]=>[]
 | j,.own _ _::l=>.lnk r e (p++[⟨0,0,j⟩])::dL r e p (j+1) l
 | j,a::l=>a::dL r e p (j+1) l
def m0 (r e:Nat) (p:a8) (i s:Nat):Nat→List TV→List AV
 | _,[]=>[]
 | j,.sl _ _::l=>.lnk r e (p++[⟨i,s,j⟩])::m0 r e p i s (j+1) l
 | j,a::l=>a.xv::m0 r e p i s (j+1) l
def jF (E:Env) (r e:Nat) (p:a8) (st:St) (sz:Nat):Option (List AV):=
 if e=fM (E.ep r) p then
  match (E.f r).isRoot,cA (E.f r) p with
  | true,some (.box cs)=>if st.i=0∧st.j+sz≤cs.length then some (dL r (E.ep r).2 p st.j ((cs.drop st.j).take sz)) else none
  | true,some (.own s es)=>if st.s=s then es[st.i]?.bind fun row=>if st.j+sz≤row.length then some (m0 r (E.ep r).2 p st.i s st.j ((row.drop st.j).take sz)) else none else none
  | _,_=>none
 else none
def oneOf (cs:List AV) (ag:Bool):Option AV:=
 if ag then some (.agg cs) else match cs with
  | [a]=>some a
  | _=>none
def plain:AV→Bool
 | .undef=>false
 | .lnk _ _ _=>false
 | .sub _ _ _ _ _ _=>false
 | .ref _ _ _ _=>false
 | _=>true
def dB (E:Env):AV→Bool
 | .undef=>false
 | .lnk r e p=>(aK E r e p).isSome
 | .sub r e p _ _ _=>(aK E r e p).isSome
 | .ref r e p _=>e == fM (E.ep r) p && (E.f r).isRoot && (cA (E.f r) p).isSome
 | _=>true
def mP:AV→Bool
 | .undef=>false
 | .agg _=>false
 | .tup _=>false
 | .lnk _ _ _=>false
 | .sub _ _ _ _ _ _=>false
 | .ref _ _ _ _=>false
 | _=>true
def wB:List AV→Bool
 | []=>true
 | a::l=>mP a && wB l
def jO (E:Env):List O→Option (List (List TV) × Env)
 | []=>some ([],E)
 | x::l=>(dT E x).bind fun g=>if plain g.1=true then (tvs (cellsOf g.1)).bind fun ts=>(jO g.2 l).map fun y=>(ts::y.1,y.2) else none
def mS (E:Env) (cs:List AV):List (Nat × Nat × O)→Option (List AV × Env)
 | []=>some (cs,E)
 | (off,sz,x)::l=>
  let g:=fD E x
  if (cellsOf g.1).length=sz∧off+sz≤cs.length∧dB g.2 g.1=true then mS g.2 (lay cs off (cellsOf g.1)) l else none
def cQ (E:Env) (x:Option O) (dflt:Nat):Option Int:=
 match x with
 | none=>some dflt
 | some o=>match val E o with
  | .int _ n=>some n
  | _=>none
def ak4 {α:Type}:Option α→Bool
 | none=>true
 | _=>false
def vld (E:Env) (r e:Nat) (p:a8):Bool:=e == fM (E.ep r) p && (E.f r).isRoot && (cA (E.f r) p).isSome
def fK:List AV→Bool
 | []=>true
 | .lnk r _ _::l=>decide (1000≤r) && decide (r<2000) && fK l
 | .bool _::l=>fK l
 | .int _ _::l=>fK l
 | .str _::l=>fK l
 | _=>false
def mT:AV→Bool
 | .agg cs=>fK cs
 | _=>false
def ev (E : Env) : I → Option Env
  | .mov d (.c a) => some (E.put d a)
  | .mov d (.t n) => match E.f n with
    | .own _ _ => if d = n then none else some (E.put d (.lnk n (E.ep n).1 []))
    | .box _ => if d = n then none else some (E.put d (.ref n (E.ep n).1 [] ⟨0, 0, 0⟩))
    | a => if a.owns then some ((E.put n .undef).put d a) else some (E.put d a)
  | .asg d x => match val E x with
    | .sub r e p s lo n => if r = d ∧ p.isEmpty = true then (bL E (.sub r e p s lo n)).map fun g => g.2.put d g.1 else some (E.put d (.sub r e p s lo n))
    | _ => some ((fD E x).2.put d (fD E x).1)
  | .mrk d x => match val E x with
    | .own s es => if s = 1 ∧ es.length ≠ 0 then some ((fD E x).2.put d (fD E x).1) else none
    | _ => none
  | .bin d op x y => (jL op (val E x) (val E y)).map (E.put d ·)
  | .beq d neg x y => match val E x, val E y with
    | .bool a, .bool b => some (E.put d (.bool (if neg then !(a == b) else (a == b))))
    | _, _ => none
  | .eqs d neg ks x y => match val E x, val E y with
    | .agg a, .agg b => (eqC ks a b).map fun r => E.put d (.bool (if neg then !r else r))
    | _, _ => none
  | .isn d neg x y => match val E x, y with
    | .extv v _ _, .c (.own _ []) => match v with
      | .slice a _ _ => some (E.put d (.bool (if neg then !a.isNone else a.isNone)))
      | _ => none
    | _, _ => none
  | .un d op x => (unV op (val E x)).map (E.put d ·)
  | .conv d k x => match val E x with
    | .int _ n => some (E.put d (.int k (k.wrap n)))
    | _ => none
  | .s2b d x => match val E x with
    | .str s => some (E.put d (.own 1 (aM s)))
    | _ => none
  | .b2s d x => (bA E (val E x)).bind fun r => if r.1 = 1 then (dR r.2).map fun bs => E.put d (.str bs) else none
  | .len d x => (bA E (val E x)).map fun r => E.put d (.int .i64 r.2.length)
  | .lens d x => match val E x with
    | .str s => some (E.put d (.int .i64 s.length))
    | _ => none
  | .idx d x i s => match val E i with
    | .int _ n => match val E x with
      | .ext s' es => if s' = s ∧ 0 ≤ n ∧ n < es.length then es[n.toNat]?.map fun row => E.put d (.xbox row) else none
      | .extv _ s' es => if s' = s ∧ 0 ≤ n ∧ n < es.length then es[n.toNat]?.map fun row => E.put d (.xbox row) else none
      | .lnk r e p => (aK E r e p).bind fun y => if y.1 = s ∧ 0 ≤ n ∧ n < y.2.length then some (E.put d (.ref r e p ⟨n.toNat, s, 0⟩)) else none
      | .sub r e p s' lo m => (aK E r e p).bind fun y => if y.1 = s ∧ s' = s ∧ 0 ≤ n ∧ n < m ∧ lo + m ≤ y.2.length then some (E.put d (.ref r e p ⟨lo + n.toNat, s, 0⟩)) else none
      | .own s' es => match x with
        | .t m => if s' = s ∧ m ≠ d ∧ 0 ≤ n ∧ n < es.length then some (E.put d (.ref m (E.ep m).1 [] ⟨n.toNat, s, 0⟩)) else none
        | _ => none
      | _ => none
    | _ => none
  | .fld d x off => match val E x with
    | .xbox cs => if off ≤ cs.length then some (E.put d (.xbox (cs.drop off))) else none
    | .ref r e p st => if vld E r e p = true then some (E.put d (.ref r e p ⟨st.i, st.s, st.j + off⟩)) else none
    | _ => none
  | .fldv d x off sz ag => match fD E x with
    | (.agg cs, E1) => if off + sz ≤ cs.length then (oneOf ((cs.drop off).take sz) ag).map fun a => E1.put d a else none
    | _ => none
  | .ld d x sz ag => match val E x with
    | .xbox cs => if sz ≤ cs.length then (oneOf ((cs.take sz).map TV.xv) ag).map fun a => E.put d a else none
    | .ref r e p st => (jF E r e p st sz).bind fun cs => (oneOf cs ag).bind fun a => if bS cs = false then some (E.put d a) else none
    | _ => none
  | .st x v sz => match val E x with
    | .ref r e p st => (dT E v).bind fun g => match p, g.2.f r with
      | [], .box cs0 =>
        if e = (g.2.ep r).1 ∧ st.i = 0 ∧ plain g.1 = true ∧ wB (cellsOf g.1) = true ∧ (cellsOf g.1).length = sz ∧ st.j + sz ≤ cs0.length then some (g.2.upd r (.box (lay cs0 st.j (cellsOf g.1)))) else none
      | _, _ => (tvs (cellsOf g.1)).bind fun ts => (aK g.2 r e p).bind fun y =>
        if plain g.1 = true ∧ wB (cellsOf g.1) = true ∧ st.s = y.1 ∧ st.i < y.2.length ∧ ts.length = sz ∧ st.j + sz ≤ y.1 then some (g.2.upd r (cV (g.2.f r) p (.own y.1 (y.2.modify st.i (lay · st.j ts))))) else none
    | _ => none
  | .alc d zero => some ((E.put (5000 + d) (.box (zero.map TV.av))).put d (.ref (5000 + d) (fM ((E.put (5000 + d) (.box (zero.map TV.av))).ep (5000 + d)) []) [] ⟨0, 0, 0⟩))
  | .box d v => if mT (val E v) = true then some ((E.put (5000 + d) (.box (cellsOf (val E v)))).put d (.ref (5000 + d) (fM ((E.put (5000 + d) (.box (cellsOf (val E v)))).ep (5000 + d)) []) [] ⟨0, 0, 0⟩)) else
    (dT E v).bind fun g => if plain g.1 = true then
      some ((g.2.put (5000 + d) (.box (cellsOf g.1))).put d (.ref (5000 + d) (fM ((g.2.put (5000 + d) (.box (cellsOf g.1))).ep (5000 + d)) []) [] ⟨0, 0, 0⟩)) else none
  | .bld d zero parts => (mS E (zero.map TV.av) parts).map fun g => g.2.put d (.agg g.1)
  | .bsl d s parts => (jO E parts).bind fun g => if g.1.all (fun r => r.length == s) = true then some (g.2.put d (.own s g.1)) else none
  | .xtr d x k => match x with
    | .t n => match E.f n with
      | .tup vs => vs[k]?.map fun c => if c.owns then (E.put n (.tup (vs.set k .undef))).put d c else E.put d c
      | _ => none
    | _ => none
  | .nck d x => match val E x with
    | .ref r e p st => if vld E r e p = true then some (E.put d (.ref r e p st)) else none
    | .xbox cs => some (E.put d (.xbox cs))
    | .fn f cs => if bS cs then none else some (E.put d (.fn f cs))
    | _ => none
  | .app d x y s bts => (dT E x).bind fun g => match g.1 with
    | .own s0 es0 => if s0 = s then
        match val g.2 y with
        | .str b => if s = 1 ∧ (es0.length + b.length) * bts ≤ 2 ^ 47 then some (g.2.put d (.own s (es0 ++ aM b))) else none
        | .own s1 es1 => if s1 = s ∧ fU es1 = true ∧ (es0.length + es1.length) * bts ≤ 2 ^ 47 then some ((fD g.2 y).2.put d (.own s (es0 ++ es1))) else none
        | .sub r e p s1 lo n => (aK g.2 r e p).bind fun nd => if nd.1 = s ∧ s1 = s ∧ lo + n ≤ nd.2.length ∧ fU ((nd.2.drop lo).take n) = true ∧ (es0.length + n) * bts ≤ 2 ^ 47 then
            (if eJ ((nd.2.drop lo).take n) = true then some (g.2.put d (.own s (es0 ++ (nd.2.drop lo).take n)))
              else some ((g.2.set0 r (cV (g.2.f r) p (.own s (nd.2.take lo ++ (rD ((nd.2.drop lo).take n) ++ nd.2.drop (lo + n)))))).put d (.own s (es0 ++ (nd.2.drop lo).take n)))) else none
        | a => (bA g.2 a).bind fun r => if r.1 = s ∧ eJ r.2 = true ∧ (es0.length + r.2.length) * bts ≤ 2 ^ 47 then some (g.2.put d (.own s (es0 ++ r.2))) else none
      else none
    | _ => none
  | .mks d len cap s bts zero => match val E len, val E cap with
    | .int _ l, .int _ c => if 0 ≤ l ∧ l ≤ c ∧ c ≤ 2 ^ 62 ∧ bts * c ≤ 2 ^ 47 ∧ zero.length = s then some (E.put d (.own s (List.replicate l.toNat zero))) else none
    | _, _ => none
  | .cpy d x y s => match val E x with
    | .lnk r e p => (aK E r e p).bind fun nd => (bA E (val E y)).bind fun q =>
        if nd.1 = s ∧ q.1 = s ∧ eJ q.2 = true then
          some ((E.upd r (cV (E.f r) p (.own s (q.2.take nd.2.length ++ nd.2.drop q.2.length)))).put d (.int .i64 (min q.2.length nd.2.length : Nat))) else none
    | .sub r e p s' lo n => (aK E r e p).bind fun nd => (bA E (val E y)).bind fun q =>
        if nd.1 = s ∧ s' = s ∧ lo + n ≤ nd.2.length ∧ q.1 = s ∧ eJ q.2 = true then
          some ((E.upd r (cV (E.f r) p (.own s (nd.2.take lo ++ (q.2.take n ++ nd.2.drop (lo + min n q.2.length)))))).put d (.int .i64 (min q.2.length n : Nat))) else none
    | _ => none
  | .clr x s zero => match val E x with
    | .sub r e p s' lo n => (aK E r e p).bind fun nd => if nd.1 = s ∧ s' = s ∧ lo + n ≤ nd.2.length ∧ zero.length = s then
          some (E.upd r (cV (E.f r) p (.own s (nd.2.take lo ++ (List.replicate n zero ++ nd.2.drop (lo + n)))))) else none
    | _ => none
  | .slc d x lo hi s => match cQ E lo 0 with
    | none => none
    | some l => match val E x with
      | .ext s' es => (cQ E hi es.length).bind fun h => if s' = s ∧ 0 ≤ l ∧ l ≤ h ∧ h ≤ es.length then some (E.put d (.ext s ((es.drop l.toNat).take (h - l).toNat))) else none
      | .extv _ s' es => (cQ E hi es.length).bind fun h => if s' = s ∧ 0 ≤ l ∧ l ≤ h ∧ h ≤ es.length then some (E.put d (.ext s ((es.drop l.toNat).take (h - l).toNat))) else none
      | .lnk r e p => (aK E r e p).bind fun nd => (cQ E hi nd.2.length).bind fun h =>
          if nd.1 = s ∧ 0 ≤ l ∧ l ≤ h ∧ h ≤ nd.2.length then some (E.put d (.sub r e p s l.toNat (h - l).toNat)) else none
      | .own s' es => match x with
        | .t m => (cQ E hi es.length).bind fun h => if m ≠ d ∧ s' = s ∧ 0 ≤ l ∧ l ≤ h ∧ h ≤ es.length then some (E.put d (.sub m (E.ep m).1 [] s l.toNat (h - l).toNat)) else none
        | _ => none
      | .sub r e p s' lo0 n => (aK E r e p).bind fun nd => (cQ E hi n).bind fun h =>
          if nd.1 = s ∧ s' = s ∧ lo0 + n ≤ nd.2.length ∧ 0 ≤ l ∧ l ≤ h ∧ h ≤ n then some (E.put d (.sub r e p s (lo0 + l.toNat) (h - l).toNat)) else none
      | _ => none
  | .sls d x lo hi => match val E x, cQ E lo 0 with
    | .str b, some l => (cQ E hi b.length).bind fun h => if 0 ≤ l ∧ l ≤ h ∧ h ≤ b.length then some (E.put d (.str ((b.drop l.toNat).take (h - l).toNat))) else none
    | _, _ => none
  | .sidx d x i => match val E x, val E i with
    | .str b, .int _ n => if 0 ≤ n ∧ n < b.length then b[n.toNat]?.map fun c => E.put d (.int .u8 c.toNat) else none
    | _, _ => none
  | .mx d x y => match val E x, val E y with
    | .int k a, .int _ b => some (E.put d (.int k (if b > a then b else a)))
    | _, _ => none
  | .mn d x y => match val E x, val E y with
    | .int k a, .int _ b => some (E.put d (.int k (if b < a then b else a)))
    | _, _ => none
  | .pck d c a b => match val E c with
    | .bool t => if (val E a).owns || (val E b).owns then none else some (E.put d (if t then val E a else val E b))
    | _ => none
  | .mkf d f caps => if bS (caps.map (val E)) then none else some (E.put d (.fn f (caps.map (val E))))
  | .call _ _ _ => none
  | .callv _ _ _ => none
inductive M where
 | b
 | l
 | m
 | p
 deriving Inhabited
def tvB:AV→Option TV
 | .undef=>some .undef
 | .bool b=>some (.bool b)
 | .int k n=>some (.int k n)
 | .str s=>some (.str s)
 | .own s es=>some (.sl s es)
 | .ext s es=>some (.sl s es)
 | .extv _ s es=>some (.sl s es)
 | _=>none
def aaO:List AV→Option (List TV)
 | []=>some []
 | a::l=>(tvB a).bind fun t=>(aaO l).map (t::·)
mutual
def brw (E:Env) (lr:Option Nat):AV→Option AV
 | .undef=>some .undef
 | .bool b=>some (.bool b)
 | .int k n=>some (.int k n)
 | .str s=>some (.str s)
 | .own s es=>some (.ext s es)
 | .ext s es=>some (.ext s es)
 | .extv v s es=>some (.extv v s es)
 | .xbox cs=>some (.xbox cs)
 | .box cs=>none
 | .agg cs=>(o8 E lr cs).map .agg
 | .tup cs=>none
 | .fn f cs=>(o8 E lr cs).map (.fn f)
 | .lnk r e p=>if some r=lr then none else (aK E r e p).map fun x=>.ext x.1 x.2
 | .sub r e p s lo n=>if some r=lr then none else (aK E r e p).bind fun x=>if x.1=s∧lo+n≤x.2.length then some (.ext s ((x.2.drop lo).take n)) else none
 | .ref r e p st=>if some r=lr then none else match e == fM (E.ep r) p,(E.f r).isRoot,cA (E.f r) p with
  | true,true,some (.box cs)=>if st.i=0∧st.j≤cs.length then (aaO (cs.drop st.j)).map .xbox else none
  | true,true,some (.own s es)=>if st.s=s∧st.j≤s then (es[st.i]?).map fun row=>.xbox (row.drop st.j) else none
  | _,_,_=>none
def o8 (E:Env) (lr:Option Nat):List AV→Option (List AV)
 | []=>some []
 | a::l=>(brw E lr a).bind fun x=>(o8 E lr l).map (x::·)
end
def mvP (E:Env):List M→List O→Option (List (Option AV) × Env)
 | .m::ms,x::xs=>(dT E x).bind fun g=>(mvP g.2 ms xs).map fun y=>(some g.1::y.1,y.2)
 | .p::ms,x::xs=>(dT E x).bind fun g=>(mvP g.2 ms xs).map fun y=>(some g.1::y.1,y.2)
 | _::ms,x::xs=>(mvP E ms xs).map fun y=>(none::y.1,y.2)
 | [],[]=>some ([],E)
 | _,_=>none
def cC (E:Env):AV→Option (Nat × a8 × AV)
 | .lnk r e p=>(aK E r e p).map fun x=>(r,p,.own x.1 x.2)
 | .ref r e p st=>match e == fM (E.ep r) p,p,E.f r with
  | true,[],.box cs=>if st.i=0∧st.j=0 then some (r,[],.box cs) else none
  | _,_,_=>none
 | _=>none
def eK (E:Env):List M→List O→Option (Nat × a8 × AV)
 | .l::_,x::_=>cC E (val E x)
 | _::ms,_::xs=>eK E ms xs
 | _,_=>none
def isT (x:O) (ln:Option (Nat × a8 × AV)):Bool:=
 match x,ln with
 | .t n,some (r,_,_)=>n == r
 | _,_=>false
mutual
def noLk:AV→Bool
 | .lnk _ _ _=>false
 | .sub _ _ _ _ _ _=>false
 | .ref _ _ _ _=>false
 | .box cs=>dC cs
 | .agg cs=>dC cs
 | .tup cs=>dC cs
 | .fn _ cs=>dC cs
 | _=>true
def dC:List AV→Bool
 | []=>true
 | a::l=>noLk a && dC l
end
def fE (E:Env) (ln:Option (Nat × a8 × AV)):List M→List O→List (Option AV)→Option (List AV)
 | .m::ms,_::xs,some a::mv=>(fE E ln ms xs mv).map (a::·)
 | .p::ms,_::xs,some a::mv=>(fE E ln ms xs mv).map (a::·)
 | .l::ms,_::xs,_::mv=>match ln with
  | some (_,_,a)=>(fE E ln ms xs mv).map (a::·)
  | none=>none
 | .b::ms,x::xs,_::mv=>if isT x ln then none else (brw E (ln.map (·.1)) (val E x)).bind fun a=>(fE E ln ms xs mv).map (a::·)
 | [],[],[]=>some []
 | _,_,_=>none
def cX:List M→Option Nat
 | []=>none
 | .l::ms=>if ms.any (fun | .l=>true | _=>false) then none else some 0
 | _::ms=>(cX ms).map (· + 1)
def noL (ms:List M):Bool:=ms.all fun | .l=>false | _=>true
def xR (E:Env) (ms:List M) (xs:List O):Option (List AV × Env × Option (Nat × Nat × a8)):=
 (mvP E ms xs).bind fun mv=>
  if noL ms then (fE mv.2 none ms xs mv.1).bind fun as=>if dC as then some (as,mv.2,none) else none
  else (cX ms).bind fun k=>(eK mv.2 ms xs).bind fun ln=>(fE mv.2 (some ln) ms xs mv.1).bind fun as=>if dC as then some (as,mv.2,some (k,ln.1,ln.2.1)) else none
def xU (E:Env) (ln:Option (Nat × Nat × a8)) (outs:List AV):Option Env:=
 match ln with
 | none=>some E
 | some (k,r,p)=>outs[k]?.bind fun o=>if kK (E.f r) p o=true∧o.isRoot=true then some (E.upd r (cV (E.f r) p o)) else none
abbrev Plc:=Nat × Option Nat × Nat × a8
def gZ (E:Env) (k:Nat):Nat→List AV→List Plc
 | _,[]=>[]
 | j,.lnk r e p::l=>if (aK E r e p).isSome then (k,some j,r,p)::gZ E k (j+1) l else gZ E k (j+1) l
 | j,_::l=>gZ E k (j+1) l
def qI (E:Env) (k:Nat):AV→List Plc
 | .lnk r e p=>if (aK E r e p).isSome then [(k,none,r,p)] else []
 | .agg cs=>gZ E k 0 cs
 | _=>[]
def jM (E:Env):Nat→List M→List O→List Plc
 | k,.p::ms,x::xs=>qI E k (val E x)++jM E (k+1) ms xs
 | k,_::ms,_::xs=>jM E (k+1) ms xs
 | _,_,_=>[]
def isU:Option AV→Bool
 | some .undef=>true
 | _=>false
def xV (os:List AV) (k:Nat):Option Nat→Option (AV × List AV)
 | none=>(os[k]?).map fun u=>(u,os.set k .undef)
 | some j=>match os[k]? with
  | some (.agg cs)=>(cs[j]?).map fun u=>(u,os.set k (.agg (cs.set j .undef)))
  | _=>none
def xS (E:Env) (r:Nat) (p:a8) (u:AV):Env:=if p.isEmpty then E.put r u else E.upd r (cV (E.f r) p u)
def m7 (E:Env) (os:List AV):List Plc→Option Env
 | []=>some E
 | (k,j,r,p)::l=>(xV os k j).bind fun g=>if isU (cA (E.f r) p)=true∧g.1.isRoot=true∧kK (E.f r) p g.1=true then m7 (xS E r p g.1) g.2 l else none
def mU (E:Env) (ln:Option (Nat × Nat × a8)) (pls:List Plc) (outs:List AV):Option Env:=
 match ln with
 | none=>if pls.all (fun q=>isU (cA (E.f q.2.2.1) q.2.2.2))=true then m7 E outs pls else none
 | some q=>xU E (some q) outs
mutual
def oH:AV→Bool
 | .ext _ _=>true
 | .xbox _=>true
 | .box cs=>dW cs
 | .agg cs=>dW cs
 | .tup cs=>dW cs
 | .fn _ cs=>dW cs
 | _=>false
def dW:List AV→Bool
 | []=>false
 | a::l=>oH a || dW l
end
mutual
def vlv:AV→List (Value × Nat × List (List TV))
 | .extv v s es=>[(v,s,es)]
 | .box cs=>dX cs
 | .agg cs=>dX cs
 | .tup cs=>dX cs
 | .fn _ cs=>dX cs
 | _=>[]
def dX:List AV→List (Value × Nat × List (List TV))
 | []=>[]
 | a::l=>vlv a++dX l
end
mutual
def jG:AV→Bool
 | .own _ _=>false
 | .lnk _ _ _=>false
 | .sub _ _ _ _ _ _=>false
 | .ref _ _ _ _=>false
 | .agg cs=>oG cs
 | .fn _ cs=>oG cs
 | _=>true
def oG:List AV→Bool
 | []=>true
 | a::l=>jG a && oG l
end
def fS (E:Env):List M→List O→Bool
 | .b::ms,x::xs=>jG (val E x) && fS E ms xs
 | _::ms,_::xs=>fS E ms xs
 | _,_=>true
def lk0:Lk:=fun _ _ _=>none
def rE (P:Program) (f:FuncId):Prop:=∃ fn,P.funcs[f]?=some fn∧fn.body.isNone=false∧(fn.name == "runtime.NumGoroutine")=false
def bR (P:Program) (f:FuncId) (args:List AV) (ret:AV) (outs:List AV):Prop:=
 rE P f∧outs.length=args.length ∧
 ∀ (w:World) (vs:List Value) (F X:aH),RepA w lk0 F X vs args→(∀ b,F b≤1)→(∀ b,F b=0∨X b=0)→(∀ b,X b≠0→b<w.heap.size) →
  Calls P f vs.toArray w fun e w'=>∃ v F' X',e=.returned v∧RepA w' lk0 F' X' (v::vs) (ret::outs)∧(∀ b,F' b≤1)∧(∀ b,F' b=0∨X' b=0) ∧
   Grows w w'∧(∀ b,b<w.heap.size→F b=0→w'.heap[b]?=w.heap[b]?)∧(∀ b,F' b≠0→F b≠0∨w.heap.size≤b) ∧
   (∀ b,X' b≠0→(X b≠0∨F b≠0∨w.heap.size≤b)∧b<w'.heap.size)
def lkK (w:World) (us:List Value) (cs:List AV):Lk:=fun r e p=>
 if e=0 then match cs[(r-1032)/32]?,us[(r-1032)/32]? with
  | some c,some u=>if r=1000+(32*((r-1032)/32+1)+0)∧c.isRoot=true∧(cA c p).isSome=true then some (iI w u p) else none
  | _,_=>none
 else none
def afI (P:Program) (f:FuncId) (cs ds:List AV) (ret:AV) (outs:List AV):Prop:=
 rE P f∧outs.length=2 ∧
 ∀ (w:World) (us zs:List Value) (F X:aH),RepA w lk0 F X us cs→RepA w (lkK w us cs) (fun _=>0) (fun _=>0) zs ds→(∀ b,F b≤1)→(∀ b,F b=0∨X b=0)→(∀ b,X b≠0→b<w.heap.size) →
  Calls P f #[.agg us.toArray,.agg zs.toArray] w fun e w'=>∃ v F' X',e=.returned v∧RepA w' lk0 F' X' [v,.agg us.toArray,.agg zs.toArray] (ret::outs)∧(∀ b,F' b≤1)∧(∀ b,F' b=0∨X' b=0) ∧
   Grows w w'∧(∀ b,b<w.heap.size→F b=0→w'.heap[b]?=w.heap[b]?)∧(∀ b,F' b≠0→F b≠0∨w.heap.size≤b) ∧
   (∀ b,X' b≠0→(X b≠0∨F b≠0∨w.heap.size≤b)∧b<w'.heap.size)
def aiM:a8→a8→Option a8
 | [],q=>some q
 | a::p,b::q=>if a.i=b.i∧a.s=b.s∧a.j=b.j then aiM p q else none
 | _::_,[]=>none
def mV (r e:Nat) (p:a8):Nat→List AV→Option (Nat × a8 × a8)
 | _,[]=>none
 | j,.lnk r' e' p'::l=>if r'=r∧e'=e then (match aiM p' p with
   | some q=>some (j,p',q)
   | none=>mV r e p (j+1) l) else mV r e p (j+1) l
 | j,_::l=>mV r e p (j+1) l
def trF (E:Env) (r e:Nat) (p:a8) (ds:List AV):Option (Nat × a8 × a8)→AV
 | some (j,p0,q)=>match ds[j]? with
  | some c=>if vld E r e p0=true∧vld E r e p=true∧c.isRoot=true∧(cA c q).isSome=true then .lnk (1000+(32*(j+1)+0)) 0 q else .undef
  | none=>.undef
 | none=>.undef
def trC (E:Env) (cs ds:List AV):AV→AV
 | .bool b=>.bool b
 | .int k n=>.int k n
 | .str s=>.str s
 | .lnk r e p=>trF E r e p ds (mV r e p 0 cs)
 | _=>.undef
def trL (E:Env) (cs ds:List AV):List AV→List AV
 | []=>[]
 | a::l=>trC E cs ds a::trL E cs ds l
def mQ (E:Env) (d:Option Nat) (x:AV):Env:=
 match d with
 | some d=>E.put d x
 | none=>E
def onO {α:Type} (o:Option α) (K:α→Prop):Prop:=∃ x,o=some x∧K x
def ak5 (P:Program) (d:Option Nat) (f:Nat) (ok:Bool) (pls:List Plc) (K:Env→Prop) (pr:List AV × Env × Option (Nat × Nat × a8)):Prop:=
 ∃ ret outs,bR P f pr.1 ret outs ∧
  ((dW (ret::outs)=false∧∀ x ∈ dX (ret::outs),x ∈ dX pr.1)∨ok=true) ∧
  onO (mU pr.2.1 pr.2.2 pls outs) fun E'=>K (mQ E' d ret)
def eV (P:Program) (d:Option Nat) (f:Nat) (xs:List O) (ms:List M) (K:Env→Prop) (E:Env):Prop:=
 onO (xR E ms xs) fun pr=>ak5 P d f (fS pr.2.1 ms xs) (jM E 0 ms xs) K pr
def afJ (P:Program) (d:Option Nat) (f:Nat) (K:Env→Prop) (cs ds:List AV) (E:Env):Prop:=
 ∃ ret outs,afI P f cs ds ret outs∧(dW (ret::outs)=false∧dX (ret::outs)=[])∧K (mQ E d ret)
def rF (P:Program) (d:Option Nat) (f:Nat) (K:Env→Prop) (E:Env):AV→AV→Option (AV × Env)→Prop
 | .agg cs,.agg ds,some (.agg cs',E')=>dC cs'=true∧afJ P d f K cs' (trL E cs cs' ds) E'
 | _,_,_=>False
def oO (P:Program) (d:Option Nat) (f:Nat) (x y:O) (K:Env→Prop) (E:Env):Prop:=rF P d f K E (val E x) (val E y) (dT E x)
def afK (P:Program) (d:Option Nat) (f:Nat) (xs:List O) (ms:List M) (K:Env→Prop) (E:Env):Prop:=∃ x y,xs=[x,y]∧ms=[.m]∧oO P d f x y K E
def kM:List M→List O→Option (O × O)
 | [.m],[x,y]=>some (x,y)
 | _,_=>none
theorem afL {ms:List M} {xs:List O} {q:O × O} (h:kM ms xs=some q):ms=[.m]∧xs=[q.1,q.2]:=by
 unfold kM at h
 split at h
 ·cases h; exact ⟨rfl,rfl⟩
 ·cases h
theorem oP {P:Program} {d:Option Nat} {f:Nat} {x y:O} {K:Env→Prop} {E:Env} (h:oO P d f x y K E):∃ E',oO P d f x y (fun E1=>E1=E') E∧K E':=by
 unfold oO rF at h ⊢
 split at h
 ·obtain ⟨h1,ret,outs,h2,h3,h4⟩:=h
  exact ⟨_,⟨h1,ret,outs,h2,h3,rfl⟩,h4⟩
 ·exact h.elim
theorem iB {P:Program} {d:Option Nat} {f:Nat} {x y:O} {K K':Env→Prop} {E:Env} (hK:∀ E,K E→K' E) (h:oO P d f x y K E):oO P d f x y K' E:=by
 unfold oO rF at h ⊢
 split at h
 ·obtain ⟨h1,ret,outs,h2,h3,h4⟩:=h
  exact ⟨h1,ret,outs,h2,h3,hK _ h4⟩
 ·exact h.elim
def acH (j:Nat):AV→AV
 | .agg cs=>.agg (cs.set j .undef)
 | a=>a
def jP (E:Env):List (Nat × Nat)→Env
 | []=>E
 | (t,j)::l=>jP (E.put t (acH j (E.f t))) l
def anJ (P:Program) (d:Option Nat) (f:Nat) (xs:List O) (K:Env→Prop) (E:Env):Prop:=(∃ W ms,eV P d f xs ms K (jP E W))∨∃ ms,afK P d f xs ms K E
def qJ (P:Program) (i:I) (K:Env→Prop) (E:Env):Prop:=
 match i with
 | .call d f xs=>anJ P d f xs K E
 | .callv d x xs=>match val E x with
  | .fn f caps=>∃ ms,ms.length=xs.length∧bS caps=false∧eV P d f (xs++caps.map .c) (ms++caps.map fun _=>M.b) K E
  | _=>False
 | i=>onO (ev E i) K
def O.tmp:O→List Nat
 | .t n=>[n]
 | .c _=>[]
mutual
def lks:AV→List Nat
 | .lnk r _ _=>[r]
 | .sub r _ _ _ _ _=>[r]
 | .ref r _ _ _=>[r]
 | .box cs=>o9 cs
 | .agg cs=>o9 cs
 | .tup cs=>o9 cs
 | .fn _ cs=>o9 cs
 | _=>[]
def o9:List AV→List Nat
 | []=>[]
 | a::l=>lks a++o9 l
end
def aaT:Option O→List O
 | some x=>[x]
 | none=>[]
def I.opds:I→List O
 | .mov _ x=>[x]
 | .asg _ x=>[x]
 | .mrk _ x=>[x]
 | .bin _ _ x y=>[x,y]
 | .beq _ _ x y=>[x,y]
 | .eqs _ _ _ x y=>[x,y]
 | .isn _ _ x y=>[x,y]
 | .un _ _ x=>[x]
 | .conv _ _ x=>[x]
 | .s2b _ x=>[x]
 | .b2s _ x=>[x]
 | .len _ x=>[x]
 | .lens _ x=>[x]
 | .idx _ x i _=>[x,i]
 | .fld _ x _=>[x]
 | .fldv _ x _ _ _=>[x]
 | .ld _ x _ _=>[x]
 | .st x v _=>[x,v]
 | .alc _ _=>[]
 | .box _ v=>[v]
 | .bld _ _ ps=>ps.map (·.2.2)
 | .bsl _ _ ps=>ps
 | .xtr _ x _=>[x]
 | .nck _ x=>[x]
 | .app _ x y _ _=>[x,y]
 | .cpy _ x y _=>[x,y]
 | .clr x _ _=>[x]
 | .mks _ x y _ _ _=>[x,y]
 | .slc _ x lo hi _=>x::(aaT lo++aaT hi)
 | .sls _ x lo hi=>x::(aaT lo++aaT hi)
 | .sidx _ x i=>[x,i]
 | .mx _ x y=>[x,y]
 | .mn _ x y=>[x,y]
 | .pck _ c a b=>[c,a,b]
 | .mkf _ _ cs=>cs
 | .call _ _ xs=>xs
 | .callv _ x xs=>x::xs
def I.der:I→List O
 | .b2s _ x=>[x]
 | .len _ x=>[x]
 | .idx _ x _ _=>[x]
 | .fld _ x _=>[x]
 | .ld _ x _ _=>[x]
 | .st x v _=>[x,v]
 | .box _ v=>[v]
 | .bld _ _ ps=>ps.map (·.2.2)
 | .bsl _ _ ps=>ps
 | .nck _ x=>[x]
 | .app _ x y _ _=>[x,y]
 | .cpy _ x y _=>[x,y]
 | .clr x _ _=>[x]
 | .slc _ x _ _ _=>[x]
 | .call _ _ xs=>xs
 | .callv _ x xs=>x::xs
 | _=>[]
def I.dsts:I→List Nat
 | .mov d _=>[d]
 | .asg d _=>[d]
 | .mrk d _=>[d]
 | .bin d _ _ _=>[d]
 | .beq d _ _ _=>[d]
 | .eqs d _ _ _ _=>[d]
 | .isn d _ _ _=>[d]
 | .un d _ _=>[d]
 | .conv d _ _=>[d]
 | .s2b d _=>[d]
 | .b2s d _=>[d]
 | .len d _=>[d]
 | .lens d _=>[d]
 | .idx d _ _ _=>[d]
 | .fld d _ _=>[d]
 | .fldv d _ _ _ _=>[d]
 | .ld d _ _ _=>[d]
 | .st _ _ _=>[]
 | .alc d _=>[d,5000+d]
 | .box d _=>[d,5000+d]
 | .bld d _ _=>[d]
 | .bsl d _ _=>[d]
 | .xtr d _ _=>[d]
 | .nck d _=>[d]
 | .app d _ _ _ _=>[d]
 | .cpy d _ _ _=>[d]
 | .clr _ _ _=>[]
 | .mks d _ _ _ _ _=>[d]
 | .slc d _ _ _ _=>[d]
 | .sls d _ _ _=>[d]
 | .sidx d _ _=>[d]
 | .mx d _ _=>[d]
 | .mn d _ _=>[d]
 | .pck d _ _ _=>[d]
 | .mkf d _ _=>[d]
 | .call (some d) _ _=>[d]
 | .call none _ _=>[]
 | .callv (some d) _ _=>[d]
 | .callv none _ _=>[]
def aG (E:Env) (i:I):List Nat:=i.opds.flatMap O.tmp++i.dsts++i.der.flatMap fun x=>lks (val E x)
def gW (E:Env) (x:O):List Nat:=(if (val E x).owns then x.tmp else [])++lks (val E x)
def pW (E:Env) (x:O):List Nat:=if (val E x).owns then x.tmp else []
def mW (E:Env):List M→List O→List Nat
 | .m::ms,x::xs=>gW E x++mW E ms xs
 | .p::ms,x::xs=>gW E x++mW E ms xs
 | .l::ms,x::xs=>lks (val E x)++mW E ms xs
 | .b::ms,_::xs=>mW E ms xs
 | _,_=>[]
def wrI (E:Env) (ms:List M):I→List Nat
 | .mov d x=>match val E x with
  | .own _ _=>[d]
  | .box _=>[d]
  | _=>d::pW E x
 | .asg d x=>d::pW E x
 | .mrk d x=>d::pW E x
 | .fldv d x _ _ _=>d::pW E x
 | .bld d _ ps=>d::(ps.map (·.2.2)).flatMap (pW E)
 | .xtr d x k=>match val E x with
  | .tup vs=>match vs[k]? with
   | some c=>if c.owns then d::x.tmp else [d]
   | none=>[d]
  | _=>[d]
 | .st x v _=>lks (val E x)++gW E v
 | .box d v=>d::(5000+d)::gW E v
 | .alc d _=>[d,5000+d]
 | .bsl d _ ps=>d::ps.flatMap (gW E)
 | .app d x y _ _=>d::(gW E x++match val E y with
  | .sub r _ _ _ _ _=>[r]
  | _=>pW E y)
 | .cpy d x _ _=>d::lks (val E x)
 | .clr x _ _=>lks (val E x)
 | .call d _ xs=>d.toList++mW E ms xs
 | .callv d x xs=>d.toList++mW E ms xs
 | i=>i.dsts
def l7 (P:Program) (i:I) (ms:List M) (E E':Env):Prop:=
 match i with
 | .call d f xs=>eV P d f xs ms (fun E1=>E1=E') E∨afK P d f xs ms (fun E1=>E1=E') E
 | .callv d x xs=>match val E x with
  | .fn f caps=>ms.length=xs.length∧bS caps=false∧eV P d f (xs++caps.map .c) (ms++caps.map fun _=>M.b) (fun E1=>E1=E') E
  | _=>False
 | i=>ev E i=some E'
def uM (P:Program) (i:I) (K:List M→Env→Prop) (E:Env):Prop:=
 match i with
 | .call d f xs=>∃ ms,eV P d f xs ms (K ms) E∨afK P d f xs ms (K ms) E
 | .callv d x xs=>match val E x with
  | .fn f caps=>∃ ms,ms.length=xs.length∧bS caps=false∧eV P d f (xs++caps.map .c) (ms++caps.map fun _=>M.b) (K ms) E
  | _=>False
 | i=>onO (ev E i) (K [])
abbrev Rcd:=List Nat × List Nat
def xW (a b:List Nat):Bool:=a.all fun t=>!b.contains t
def acI (o q:Rcd):Bool:=xW o.2 q.1 && xW q.2 o.1 && xW o.2 q.2
def xX (bs:List Nat) (rs:List Rcd):Bool:=
 (List.range rs.length).all fun j=>(List.range j).all fun i=>(bs.getD j 0).testBit i || match rs[i]?,rs[j]? with
  | some o,some q=>acI o q
  | _,_=>true
def m8 (P:Program) (bs:List Nat):List Rcd→List GI→(Env→Prop)→Env→Prop
 | acc,[],K,E=>xX bs acc=true∧K E
 | acc,g::l,K,E=>match g.g with
  | none=>uM P g.i (fun ms E'=>m8 P bs (acc++[(aG E g.i,wrI E ms g.i)]) l K E') E
  | some (t,b)=>(∃ c,E.f t=.bool c∧(c=b→uM P g.i (fun ms E'=>m8 P bs (acc++[(t::aG E g.i,wrI E ms g.i)]) l K E') E) ∧
    (c≠b→m8 P bs (acc++[(t::g.d.toList,g.d.toList)]) l K (mQ E g.d (.tup []))))∨(E.f t=.tup []∧m8 P bs (acc++[(t::g.d.toList,g.d.toList)]) l K (mQ E g.d (.tup [])))
def I.isCall:I→Bool
 | .call _ _ _=>true
 | .callv _ _ _=>true
 | _=>false
def I.isXtr:I→Bool
 | .xtr _ _ _=>true
 | _=>false
def plG (g:GI):Bool:=g.g.isNone && !g.i.isCall && !g.i.isXtr
def aaP (lt:Nat→Nat→Bool) (c d x y:Nat):Bool:=lt x y || (x == c && y == d)
inductive BT where
 | leaf (σ:List Nat)
 | node (c d:Nat) (x y:BT)
 | tr (a b c:Nat) (x:BT)
def amM (lt:Nat→Nat→Bool) (σ:List Nat):List Nat:=(List.range σ.length).map fun q=>(List.range q).foldl (fun s p=>if lt (σ.getD p 0) (σ.getD q 0)=true then s ||| 2^p else s) 0
def ltB (bs:List Nat) (j i:Nat):Bool:=(bs.getD i 0).testBit j
def afM (n:Nat) (σ:List Nat):Bool:=σ.isPerm (List.range n)
def ak6 (P:Program) (is:List GI) (K:Env→Prop) (E:Env):(Nat→Nat→Bool)→BT→Prop
 | lt,.leaf σ=>afM is.length σ=true∧m8 P (amM lt σ) [] (σ.map fun i=>is.getD i default) K E
 | lt,.node c d x y=>c≠d∧ak6 P is K E (aaP lt c d) x∧ak6 P is K E (aaP lt d c) y
 | lt,.tr a b c x=>(lt a b && (lt b c && decide (b<is.length)))=true∧ak6 P is K E (aaP lt a c) x
section
def c5:List (Nat × AV)→Nat→AV
 | [],_=>.undef
 | (k,a)::l,t=>if k=t then a else c5 l t
def gS:List (Nat × Nat × Nat)→Nat→Nat × Nat
 | [],_=>(0,0)
 | (k,e)::l,t=>if k=t then e else gS l t
def qG:List (Nat × AV)→Nat→AV→List (Nat × AV)
 | [],d,x=>[(d,x)]
 | (k,a)::l,d,x=>if k=d then (d,x)::l else (k,a)::qG l d x
def aaU:List (Nat × Nat × Nat)→Nat→Nat × Nat→List (Nat × Nat × Nat)
 | [],d,x=>[(d,x)]
 | (k,a)::l,d,x=>if k=d then (d,x)::l else (k,a)::aaU l d x
def mkE (l:List (Nat × AV)) (m:List (Nat × Nat × Nat)):Env:=⟨c5 l,gS m⟩
theorem nV (l:List (Nat × AV)) (d:Nat) (x:AV) (t:Nat):c5 (qG l d x) t=if t=d then x else c5 l t:=by
 induction l with
 | nil=>simp only [qG,c5]; by_cases h:t=d <;> simp [h,eq_comm] <;> (intro e; exact absurd e.symm h)
 | cons p l ih=>
  obtain ⟨k,a⟩:=p
  simp only [qG]
  by_cases h:k=d
  ·subst h; simp only [lP,c5]; by_cases h2:t=k
   ·subst h2; simp
   ·simp [h2,Ne.symm h2]
  ·simp only [h,lG1,c5,ih]
   by_cases h2:k=t
   ·subst h2; simp [h]
   ·simp [h2]
theorem rS (l:List (Nat × Nat × Nat)) (d:Nat) (x:Nat × Nat) (t:Nat):gS (aaU l d x) t=if t=d then x else gS l t:=by
 induction l with
 | nil=>simp only [aaU,gS]; by_cases h:t=d <;> simp [h,eq_comm] <;> (intro e; exact absurd e.symm h)
 | cons p l ih=>
  obtain ⟨k,a⟩:=p
  simp only [aaU]
  by_cases h:k=d
  ·subst h; simp only [lP,gS]; by_cases h2:t=k
   ·subst h2; simp
   ·simp [h2,Ne.symm h2]
  ·simp only [h,lG1,gS,ih]
   by_cases h2:k=t
   ·subst h2; simp [h]
   ·simp [h2]
theorem Env.ext' {E E':Env} (h1:∀ t,E.f t=E'.f t) (h2:∀ t,E.ep t=E'.ep t):E=E':=by
 cases E; cases E'
 have a:=funext h1
 have b:=funext h2
 simp only at a b
 rw [a,b]
theorem ak7 (l:List (Nat × AV)) (m:List (Nat × Nat × Nat)) (t:Nat):(mkE l m).f t=c5 l t:=rfl
theorem ak8 (l:List (Nat × AV)) (m:List (Nat × Nat × Nat)) (d:Nat) (x:AV) :
  (mkE l m).put d x=mkE (qG l d x) (if (c5 l d).isRoot=true then aaU m d ((gS m d).1+1,(gS m d).2+1) else m):=by
 apply Env.ext'
 ·intro t; show (if t=d then x else c5 l t)=c5 (qG l d x) t; rw [nV]
 ·intro t
  show (if t=d∧(c5 l d).isRoot=true then ((gS m d).1+1,(gS m d).2+1) else gS m t)=gS (if (c5 l d).isRoot=true then aaU m d ((gS m d).1+1,(gS m d).2+1) else m) t
  by_cases h:(c5 l d).isRoot=true
  ·simp only [h,and_true,lP,rS]
  ·simp [h]
def cY (ks t:Nat):Bool:=ks.testBit t || decide (1000≤t)
def oJ (E:Env) (ks:Nat) (r e:Nat) (p:a8):Bool:=cY ks r && e == fM (E.ep r) p && (E.f r).isRoot && (cA (E.f r) p).isSome
mutual
def oQ (E:Env) (ks:Nat):AV→AV
 | .lnk r e p=>if oJ E ks r e p then .lnk r 0 p else .undef
 | .sub r e p s lo n=>if oJ E ks r e p then .sub r 0 p s lo n else .undef
 | .ref r e p st=>if oJ E ks r e p then .ref r 0 p st else .undef
 | .box cs=>.box (wC E ks cs)
 | .agg cs=>.agg (wC E ks cs)
 | .tup cs=>.tup (wC E ks cs)
 | .fn f cs=>.fn f (wC E ks cs)
 | .undef=>.undef
 | .bool b=>.bool b
 | .int k n=>.int k n
 | .str s=>.str s
 | .own s es=>.own s es
 | .ext s es=>.ext s es
 | .extv v s es=>.extv v s es
 | .xbox cs=>.xbox cs
def wC (E:Env) (ks:Nat):List AV→List AV
 | []=>[]
 | a::l=>oQ E ks a::wC E ks l
end
def Env.norm (E:Env) (ks:Nat):Env:=⟨fun t=>if cY ks t then oQ E ks (E.f t) else .undef,fun _=>(0,0)⟩
def aaV (E:Env):List Nat→Env
 | []=>E
 | d::D=>aaV (E.put d .undef) D
def hdL (ks:Nat) (D:List Nat) (E:Env):Env:=match D with
 | []=>E
 | d::D=>(aaV (E.put d .undef) D).norm ks
def ubM (E:Env) (t:Nat):AV→AV→Env
 | .box cs,.undef=>(((E.put t .undef).put (5000+t) (.box cs)).put t (.ref (5000+t) (fM (((E.put t .undef).put (5000+t) (.box cs)).ep (5000+t)) []) [] ⟨0,0,0⟩))
 | _,_=>E
def ub1 (E:Env) (t:Nat):Env:=ubM E t (E.f t) (E.f (5000+t))
def ubE (E:Env):List Nat→Env
 | []=>E
 | t::l=>ubE (ub1 E t) l
def rgE (ks:Nat) (U:List Nat) (E:Env):Env:=match U with
 | []=>E
 | t::l=>(ubE (ub1 E t) l).norm ks
inductive Ex where
 | n
 | r
 | e (id:Nat)
 deriving DecidableEq,Inhabited
def afF (P:Program):List GI→(Env→Prop)→Env→Prop
 | [],K,E=>K E
 | g::l,K,E=>match g.g with
  | none=>qJ P g.i (afF P l K) E
  | some (t,b)=>(∃ c,E.f t=.bool c∧(c=b→qJ P g.i (afF P l K) E)∧(c≠b→afF P l K (mQ E g.d (.tup []))))∨(E.f t=.tup []∧afF P l K (mQ E g.d (.tup [])))
def awp (P:Program) (ks:Nat):Cmd→(Ex→Env→Prop)→Env→Prop
 | .skip,Q,E=>Q .n E
 | .reg is none,Q,E=>∃ U,afF P is (Q .n) (rgE ks U (E.norm ks))
 | .reg is (some bs),Q,E=>∃ U,m8 P bs [] is (Q .n) (rgE ks U (E.norm ks))∨(ks.testBit 999=true∧is.all plG=true∧∃ t,ak6 P is (Q .n) (rgE ks U (E.norm ks)) (ltB bs) t)
 | .seq a b,Q,E=>awp P ks a (fun x E'=>match x with | .n=>awp P ks b Q E' | x=>Q x E') E
 | .cond x a b,Q,E=>∃ t,val E x=.bool t∧(t=true→awp P ks a Q E)∧(t=false→awp P ks b Q E)
 | .blk id c,Q,E=>awp P ks c (fun x E'=>if x=.e id then Q .n E' else Q x E') E
 | .loop c,Q,E=>∃ (D:List Nat) (J:Nat→Env→Prop),(∃ n,J n (hdL ks D (E.norm ks)))∧∀ n E,J n E→awp P ks c (fun x E'=>match x with | .n=>∃ m,m<n∧J m (hdL ks D (E'.norm ks)) | x=>Q x E') E
 | .exit id,Q,E=>Q (.e id) E
 | .ret,Q,E=>Q .r E
def oK (P:Program) (t:TypeId):Option Nat:=(P.info? t).map (·.size)
def aiN (P:Program) (t:TypeId):Option Bool:=(P.underlying t).map fun | .struct _=>true | .array _ _=>true | _=>false
def aiO (P:Program) (t:TypeId):Option TypeId:=match P.underlying t with | some (.slice e)=>some e | _=>none
def anA (P:Program) (ty:TypeId):Value→Option AV
 | .bool b=>some (.bool b)
 | .int k n=>some (.int k n)
 | .string s=>some (.str s.data.toList)
 | .slice none 0 0=>match aiO P ty with
  | some e=>(oK P e).map fun s=>.own s []
  | none=>some (.own 0 [])
 | .pointer none=>some .undef
 | _=>none
def g7 (P:Program) (nt:Nat) (ty:TypeId):Operand→Option O
 | .tmp t=>if t<nt then some (.t t) else none
 | .const v=>(anA P ty v).map .c
 | .func f=>some (.c (.fn f []))
 | .global _=>none
def amN (P:Program) (nt:Nat) (ty:TypeId):Option Operand→Option (Option O)
 | none=>some none
 | some x=>(g7 P nt ty x).map some
def ak9 (P:Program):Nat→TypeId→Option (List TV)
 | 0,_=>none
 | n+1,t=>match P.underlying t with
  | some .bool=>some [.bool false]
  | some (.int k)=>some [.int k 0]
  | some .string=>some [.str []]
  | some (.slice e)=>(oK P e).map fun s=>[.sl s []]
  | some (.struct fs)=>fs.toList.foldr (fun f acc=>(ak9 P n f.type).bind fun a=>acc.map (a++·)) (some [])
  | _=>none
def dU:List Value→List TV→Bool
 | [],[]=>true
 | .bool false::vs,.bool false::ts=>dU vs ts
 | .int k 0::vs,.int k' 0::ts=>k == k' && dU vs ts
 | .string s::vs,.str []::ts=>s.data.toList.isEmpty && dU vs ts
 | .slice none 0 0::vs,.sl _ []::ts=>dU vs ts
 | _,_=>false
def xY (P:Program) (t:TypeId):Option (List TV):=
 (ak9 P 10 t).bind fun ts=>(P.info? t).bind fun i=>i.zero.bind fun z=>if dU z.cells.toList ts then some ts else none
def adS (P:Program) (nt:Nat) (ty:TypeId):List Operand→Option (List O)
 | []=>some []
 | x::l=>(g7 P nt ty x).bind fun o=>(adS P nt ty l).map (o::·)
def wD (P:Program) (nt:Nat):List Operand→List TypeId→Option (List O)
 | [],_=>some []
 | x::l,ts=>(g7 P nt (ts.headD 0) x).bind fun o=>(wD P nt l ts.tail).map (o::·)
def uT (P:Program) (nt:Nat) (fs:List Field):List (Nat × Operand)→Option (List (Nat × Nat × O))
 | []=>some []
 | (i,x)::l=>match fs[i]? with
  | some f=>(oK P f.type).bind fun s=>(g7 P nt f.type x).bind fun o=>(uT P nt fs l).map ((f.offset,s,o)::·)
  | none=>none
def adT (P:Program) (nt:Nat) (e:TypeId):Nat→List (Nat × Operand)→Option (List O)
 | _,[]=>some []
 | k,(i,x)::l=>if i=k then (g7 P nt e x).bind fun o=>(adT P nt e (k+1) l).map (o::·) else none
def jQ (P:Program):Nat→List Field→Option (List Nat)
 | _,[]=>some []
 | k,f::fs=>if f.name≠ "_"∧f.offset=k then match P.underlying f.type with
   | some (.int _)=>(jQ P (k+1) fs).map (0::·)
   | some .string=>(jQ P (k+1) fs).map (1::·)
   | some .bool=>(jQ P (k+1) fs).map (2::·)
   | _=>none
  else none
def amO (P:Program) (d:Nat) (op:BinOp) (t:TypeId) (a b:O):Option I:=
 match P.underlying t,op with
 | some (.int _),op=>some (.bin d op a b)
 | some .string,op=>some (.bin d op a b)
 | some .bool,.eql=>some (.beq d false a b)
 | some .bool,.neq=>some (.beq d true a b)
 | some (.slice _),.eql=>some (.isn d false a b)
 | some (.slice _),.neq=>some (.isn d true a b)
 | some (.struct fs),.eql=>if P.eqGuardType P.depth t=false∧P.stoodInHeld t=false then (jQ P 0 fs.toList).map fun ks=>.eqs d false ks a b else none
 | some (.struct fs),.neq=>if P.eqGuardType P.depth t=false∧P.stoodInHeld t=false then (jQ P 0 fs.toList).map fun ks=>.eqs d true ks a b else none
 | _,_=>none
def cOp (P:Program) (nt:Nat) (o:Oper):Option I:=
 if o.dst.all (fun d=>decide (d<nt))=false then none else
 match o.op,o.dst with
 | .move x,some d=>(g7 P nt o.type x).map (.mov d ·)
 | .assign x,some d=>(g7 P nt o.type x).map (.asg d ·)
 | .binOp op t x y u,some d=>(g7 P nt t x).bind fun a=>(g7 P nt u y).bind fun b=>amO P d op t a b
 | .unOp op t x,some d=>(g7 P nt t x).map (.un d op ·)
 | .convert s t x,some d=>(g7 P nt s x).bind fun a=>match P.underlying s,P.underlying t with
  | some (.int _),some (.int k)=>some (.conv d k a)
  | some .string,some (.slice e)=>if P.underlying e matches some (.int .u8) then (if oK P e=some 1 then some (.s2b d a) else none) else none
  | some (.slice e),some .string=>if P.underlying e matches some (.int .u8) then some (.b2s d a) else none
  | some (.slice e),some (.slice _)=>if s=t then (if P.underlying e matches some (.int .u8) then some (.mrk d a) else none) else none
  | _,_=>none
 | .alloc t,some d=>(xY P t).map (.alc d ·)
 | .box t v,some d=>(g7 P nt t v).map (.box d ·)
 | .build t ps,some d=>match P.underlying t with
  | some (.struct fs)=>if (fs.toList.mapM (fun f=>(P.info? f.type).map fun i=>(f.offset,i.size))).isSome=true then (xY P t).bind fun z=>(uT P nt fs.toList ps.toList).map fun l=>.bld d z l else none
  | _=>none
 | .buildSlice t n ps,some d=>(aiO P t).bind fun e=>(oK P e).bind fun s=>if n*s≤2^24∧s≠0∧ps.size=n∧(xY P e).isSome=true then (adT P nt e 0 ps.toList).map fun l=>.bsl d s l else none
 | .load t a,some d=>(oK P t).bind fun s=>(aiN P t).bind fun g=>(g7 P nt 0 a).map fun x=>.ld d x s g
 | .store t a v,none=>(oK P t).bind fun s=>(g7 P nt 0 a).bind fun x=>(g7 P nt t v).map fun y=>.st x y s
 | .nilCheck x,some d=>(g7 P nt 0 x).map (.nck d ·)
 | .fieldAddr t x f,some d=>match P.underlying t with
  | some (.struct fs)=>(fs[f]?).bind fun g=>(oK P g.type).bind fun s=>if s=0 then none else (g7 P nt 0 x).map fun a=>.fld d a g.offset
  | _=>none
 | .field t x f,some d=>match P.underlying t with
  | some (.struct fs)=>(fs[f]?).bind fun g=>(oK P g.type).bind fun s=>(aiN P g.type).bind fun ag=>(g7 P nt t x).map fun a=>.fldv d a g.offset s ag
  | _=>none
 | .indexAddr t x i,some d=>(aiO P t).bind fun e=>(oK P e).bind fun s=>(g7 P nt t x).bind fun a=>(g7 P nt 0 i).map fun b=>.idx d a b s
 | .index t x i,some d=>if P.underlying t matches some .string then (g7 P nt t x).bind fun a=>(g7 P nt 0 i).map fun b=>.sidx d a b else none
 | .extract x k,some d=>(g7 P nt 0 x).map fun a=>.xtr d a k
 | .pick c a b,some d=>(g7 P nt 0 c).bind fun x=>(g7 P nt o.type a).bind fun y=>(g7 P nt o.type b).map fun z=>.pck d x y z
 | .makeFunc (.func f) first caps,some d=>if first.isEmpty then (adS P nt 0 caps.toList).map fun l=>.mkf d f l else none
 | .makeSlice t l c,some d=>(aiO P t).bind fun e=>(P.info? e).bind fun i=>(xY P e).bind fun z=>(g7 P nt 0 l).bind fun a=>(g7 P nt 0 c).map fun b=>.mks d a b i.size i.bytes z
 | .slice t x lo hi mx,some d=>if ak4 mx then (g7 P nt t x).bind fun a=>(amN P nt 0 lo).bind fun l=>(amN P nt 0 hi).bind fun h=>match P.underlying t with
   | some .string=>some (.sls d a l h)
   | some (.slice e)=>(oK P e).map fun s=>.slc d a l h s
   | _=>none
  else none
 | .call c,d=>match c.callee,c.args.toList,d with
  | .builtin .len,[x],some d=>if c.argTypes.size=1 then (g7 P nt (c.argTypes.getD 0 0) x).bind fun a=>match P.underlying (c.argTypes.getD 0 0) with
    | some .string=>some (.lens d a)
    | some (.slice _)=>some (.len d a)
    | _=>none
   else none
  | .builtin .append,[x,y],some d=>(aiO P (c.argTypes.getD 0 0)).bind fun e=>(P.info? e).bind fun i=>(g7 P nt (c.argTypes.getD 0 0) x).bind fun a=>(g7 P nt (c.argTypes.getD 1 0) y).bind fun b=>
    if i.bytes≠0∧c.argTypes.size=2∧(xY P e).map (·.length)=some i.size∧(match P.underlying (c.argTypes.getD 1 0) with | some .string=>true | some (.slice _)=>true | _=>false)=true then some (.app d a b i.size i.bytes) else none
  | .builtin .copy,[x,y],some d=>(aiO P (c.argTypes.getD 0 0)).bind fun e=>(oK P e).bind fun s=>(g7 P nt (c.argTypes.getD 0 0) x).bind fun a=>(g7 P nt (c.argTypes.getD 1 0) y).bind fun b=>
    if 0<c.argTypes.size then some (.cpy d a b s) else none
  | .builtin .clear,[x],none=>(aiO P (c.argTypes.getD 0 0)).bind fun e=>(P.info? e).bind fun i=>(xY P e).bind fun z=>(g7 P nt (c.argTypes.getD 0 0) x).bind fun a=>
    if 0<c.argTypes.size then some (.clr a i.size z) else none
  | .builtin .max,[x,y],some d=>(g7 P nt 0 x).bind fun a=>(g7 P nt 0 y).map fun b=>.mx d a b
  | .builtin .min,[x,y],some d=>(g7 P nt 0 x).bind fun a=>(g7 P nt 0 y).map fun b=>.mn d a b
  | .value (.func f),xs,d=>(wD P nt xs c.argTypes.toList).map fun l=>.call d f l
  | .value (.tmp t),xs,d=>if t<nt then (wD P nt xs c.argTypes.toList).map fun l=>.callv d (.t t) l else none
  | _,_,_=>none
 | _,_=>none
def acJ (P:Program) (nt:Nat) (ops:Array Oper):List Oper→Option (List GI)
 | []=>some []
 | o::l=>(cOp P nt o).bind fun i=>(acJ P nt ops l).bind fun r=>match o.guard with
  | none=>some (⟨none,o.dst,i⟩::r)
  | some (j,b)=>((ops[j]?).bind (·.dst)).bind fun t=>if t<nt then some (⟨some (t,b),o.dst,i⟩::r) else none
def dY (ops:Array Oper):List Nat:=(Region.before ops).toList
def oR (ops:Array Oper):Bool:=ops.toList.zipIdx.all fun p=>p.1.after.toList.all fun e=>!Region.binds .any e || decide (e.on<p.2)
def xxI:I→I→Bool
 | .xtr d1 (.t n) k1,.xtr d2 (.t m) k2=>n == m && (k1 != k2 && (d1 != d2 && (d1 != n && d2 != n)))
 | _,_=>false
def xxG (o q:GI):Bool:=o.g.isNone && (q.g.isNone && xxI o.i q.i)
def xxB (l:List GI) (bs:List Nat):List Nat:=(List.range l.length).map fun j=>(List.range j).foldl (fun s i=>if xxG (l.getD i default) (l.getD j default)=true then s ||| 2^i else s) (bs.getD j 0)
def l8 (P:Program) (nt:Nat):Code→Option Cmd
 | .skip=>some .skip
 | .region _ ops dr=>if dr && !oR ops then none else (acJ P nt ops ops.toList).map fun l=>Cmd.reg l (if dr then some (xxB l (dY ops)) else none)
 | .seq a b=>(l8 P nt a).bind fun x=>(l8 P nt b).map fun y=>.seq x y
 | .cond c a b=>(g7 P nt 0 c).bind fun o=>(l8 P nt a).bind fun x=>(l8 P nt b).map fun y=>.cond o x y
 | .block id c=>(l8 P nt c).map (.blk id ·)
 | .loop c=>(l8 P nt c).map .loop
 | .exit id=>some (.exit id)
 | .ret=>some .ret
 | _=>none
section
variable {α β:Type} {K:α→Prop}
theorem qK (x:α):onO (some x) K=K x:=by simp [onO]
theorem aaW:onO (none:Option α) K=False:=by simp [onO]
theorem afN (f:β→α) (o:Option β):onO (o.map f) K=onO o (fun z=>K (f z)):=by
 cases o <;> simp [onO]
theorem aaX (f:β→Option α) (o:Option β):onO (o.bind f) K=onO o (fun z=>onO (f z) K):=by
 cases o <;> simp [onO]
end
end
section
variable {w w':World} {B:Base} {hid:Nat→Value} {a:Act} {E:Env} {Fs Xs:Nat→aH} {FP XP:aH}
theorem afO (h:w'.heap=w.heap) (v:Value) (p:a8):iI w' v p=iI w v p:=by
 have hc:∀ x,w'.cell? x=w.cell? x:=fun x=>by unfold World.cell?; rw [h]
 induction p generalizing v with
 | nil=>rfl
 | cons st p ih=>
  unfold iI
  split <;> simp_all
theorem xZ (h:w'.heap=w.heap) (vl:Nat→Value) (E:Env):aN w' vl E=aN w vl E:=by
 funext r e p; unfold aN; rw [afO h]
theorem RepA.heap {lk:Lk} {F X:aH} {vs:List Value} {as:List AV} (h:w'.heap=w.heap) (r:RepA w lk F X vs as):RepA w' lk F X vs as:=
 r.same (fun _ _ _ _ h=>.inr h) (fun b _=>by rw [h]) (fun b _=>by rw [h])
theorem Rel.heap (R:Rel B hid w a E Fs Xs) (h:w'.heap=w.heap) (hk:Quiet w w':=by exact ⟨rfl,rfl⟩):Rel B hid w' a E Fs Xs:=
 ⟨R.size,R.dfr,fun t=>by rw [xZ h]; exact (R.rep t).heap h,R.one,R.dis,R.disx,R.grow.trans ⟨by rw [h]; exact lS1 _,hk⟩,fun b h1 h2=>by rw [h]; exact R.frame b h1 h2,R.org,R.orgx,fun t b hb=>by rw [h]; exact R.ltx t b hb⟩
theorem PR.heap {vs:List Value} {xs:List AV} (P:PR B hid w a E Fs Xs FP XP vs xs) (h:w'.heap=w.heap) (hk:Quiet w w':=by exact ⟨rfl,rfl⟩):PR B hid w' a E Fs Xs FP XP vs xs:=
 ⟨P.rel.heap h hk,by rw [xZ h]; exact P.rep.heap h,P.one,P.dis,P.dx1,P.dx2,P.dx3,P.org,fun b hb=>by rw [h]; exact P.orgx b hb⟩
theorem PR.put {v:Value} {x:AV} (P:PR B hid w a E Fs Xs FP XP [v] [x]) {d:Nat} (hd:d<B.n) :
  ∃ Fs' Xs',Rel B hid w (a.put (some d) v) (E.put d x) Fs' Xs':=by
 have R:=P.rel
 have hda:d<a.tmps.size:=by rw [R.size]; exact hd
 refine ⟨fun t=>if t=d then FP else Fs t,fun t=>if t=d then XP else Xs t,?_⟩
 refine R.change (fun t=>t=d) ?_ R.dfr ?_ ?_ ?_ ?_ ?_ ?_ ?_ (Grows.refl _) (fun _ _ _=>rfl) ?_ ?_
 ·rw [← R.size]; simp [Act.put]
 ·intro t ht; exact ⟨bV ht,cW ht,amL ht,by simp [ht],by simp [ht],fun _ _=>rfl,fun _ _=>rfl⟩
 ·intro r hr e p o h; subst hr; exact .inl (eH rfl h)
 ·intro links t ht; subst ht; rw [cN,afH hda]; simp only [lP]
  exact P.rep.same links (fun _ _=>rfl) (fun _ _=>rfl)
 ·intro t ht b; simp only [ht,lP]; exact P.one b
 ·intro t ht t' hne b; subst ht; simp only [lP,Ne.symm hne,lG1]; exact P.dis t' b
 ·intro t ht t' b; subst ht; simp only [lP]
  by_cases e:t'=t
  ·simp only [e,lP]; exact P.dx3 b
  ·simp only [e,lG1]; exact P.dx1 t' b
 ·intro t ht t' b; subst ht; simp only [lP]
  by_cases e:t'=t
  ·simp only [e,lP]; exact P.dx3 b
  ·simp only [e,lG1]; exact (P.dx2 t' b).symm
 ·intro t ht b hb; subst ht; simp only [lP] at hb; exact P.org b hb
 ·intro t ht b hb; subst ht; simp only [lP] at hb; exact P.orgx b hb
theorem l9 {w:World} {o:Obj} (h:w'.heap=w.heap.push o) {b:Nat} (hb:b<w.heap.size):w'.heap[b]?=w.heap[b]?:=by
 rw [h,Array.getElem?_push]; simp [Nat.ne_of_lt hb]
theorem Rel.push {o:Obj} (R:Rel B hid w a E Fs Xs) (h:w'.heap=w.heap.push o) (hk:Quiet w w':=by exact ⟨rfl,rfl⟩):Rel B hid w' a E Fs Xs:=by
 have sm:∀ t,j9 w w' (Fs t)∧j9 w w' (Xs t):=fun t=>
  ⟨fun b hb=>l9 h ((R.rep t).lt b hb),fun b hb=>l9 h (R.ltx t b hb)⟩
 refine R.change (fun _=>False) R.size R.dfr (fun t _=>⟨rfl,rfl,rfl,rfl,rfl,(sm t).1,(sm t).2⟩) (fun _ h=>h.elim) (fun _ _ h=>h.elim) (fun _ h=>h.elim) (fun _ h=>h.elim) (fun _ h=>h.elim)
  (fun _ h=>h.elim) ⟨by rw [h]; simp,hk⟩ ?_ (fun _ h=>h.elim) (fun _ h=>h.elim)
 intro b hb _
 exact l9 h (lV3 hb R.grow.size)
theorem PR.push {vs:List Value} {xs:List AV} {o:Obj} (P:PR B hid w a E Fs Xs FP XP vs xs) (h:w'.heap=w.heap.push o) (hk:Quiet w w':=by exact ⟨rfl,rfl⟩):PR B hid w' a E Fs Xs FP XP vs xs:=by
 have R:=P.rel
 have sm:∀ t,j9 w w' (Fs t)∧j9 w w' (Xs t):=fun t=>
  ⟨fun b hb=>l9 h ((R.rep t).lt b hb),fun b hb=>l9 h (R.ltx t b hb)⟩
 have hl:∀ r e p,aN w' (aI a.tmps hid) E r e p=aN w (aI a.tmps hid) E r e p:=fun r e p=>kL R rfl rfl rfl (sm r).1 (sm r).2 e p
 refine ⟨R.push h hk,?_,P.one,P.dis,P.dx1,P.dx2,P.dx3,P.org,fun b hb=>⟨(P.orgx b hb).1,by rw [h]; simp; exact Nat.lt_succ_of_lt (P.orgx b hb).2⟩⟩
 exact P.rep.same (fun r e p o ho=>.inr (by rw [hl]; exact ho)) (fun b hb=>l9 h (P.rep.lt b hb)) (fun b hb=>l9 h (P.orgx b hb).2)
theorem PR.wrap {vs:List Value} {xs:List AV} {v:Value} {x:AV} {o:Obj} (P:PR B hid w a E Fs Xs FP XP vs xs) (h:w'.heap=w.heap.push o)
  (hr:RepA w' (aN w' (aI a.tmps hid) E) FP XP vs xs→RepA w' (aN w' (aI a.tmps hid) E) (fun b=>(if b=w.heap.size then 1 else 0)+FP b) XP [v] [x])
  (hk:Quiet w w':=by exact ⟨rfl,rfl⟩):∃ FP',PR B hid w' a E Fs Xs FP' XP [v] [x]:=by
 have P':=P.push h hk
 have R:=P.rel
 have hF:∀ t b,b=w.heap.size→Fs t b=0:=fun t b e=>by
  by_cases h0:Fs t b=0
  ·exact h0
  ·have:=(R.rep t).lt b h0; omega
 have hX:∀ t b,b=w.heap.size→Xs t b=0:=fun t b e=>by
  by_cases h0:Xs t b=0
  ·exact h0
  ·have:=R.ltx t b h0; omega
 have hFP:∀ b,b=w.heap.size→FP b=0:=fun b e=>by
  by_cases h0:FP b=0
  ·exact h0
  ·have:=P.rep.lt b h0; omega
 have hXP:∀ b,b=w.heap.size→XP b=0:=fun b e=>by
  by_cases h0:XP b=0
  ·exact h0
  ·have:=(P.orgx b h0).2; omega
 refine ⟨fun b=>(if b=w.heap.size then 1 else 0)+FP b,P'.rel,hr P'.rep,?_,?_,?_,P'.dx2,?_,?_,P'.orgx⟩
 ·intro b; by_cases e:b=w.heap.size
  ·simp [e,hFP]
  ·simp [e]; exact P.one b
 ·intro t b; by_cases e:b=w.heap.size
  ·exact .inr (hF t b e)
  ·simp [e]; exact P.dis t b
 ·intro t b; by_cases e:b=w.heap.size
  ·exact .inr (hX t b e)
  ·simp [e]; exact P.dx1 t b
 ·intro b; by_cases e:b=w.heap.size
  ·exact .inr (hXP b e)
  ·simp [e]; exact P.dx3 b
 ·intro b hb; by_cases e:b=w.heap.size
  ·right; rw [e]; exact R.grow.size
  ·simp [e] at hb; exact P.org b hb
theorem bY {α:Type} {s:Nat} (l:List (List α)) (hl:∀ e ∈ l,e.length=s):l.flatten.length=l.length*s:=by
 induction l with
 | nil=>simp
 | cons e l ih=>simp [ih (fun e h=>hl e (by simp [h])),hl e (by simp),lP3]; omega
theorem Row.cut {F:aH} {v:Value} {s:Nat} {es:List (List TV)} (h:Row w true F [v] [.sl s es]) (lo n:Nat) (hn:lo+n≤es.length) (a':Option Addr)
  (base:Option Addr) (len cap:Nat) (hv:v=.slice base len cap) (ha:a'=base.map (·.add (lo*s))∨(lo=cap∧∃ k,k≤cap∧a'=base.map (·.add (k*s)))) :
  ∃ G,Row w true G [.slice a' n (cap-lo)] [.sl s ((es.drop lo).take n)]∧∀ b,G b≤F b:=by
 rcases Row.sl_inv h with ⟨hv1,rfl,_⟩ | ⟨F1,b,off,cap1,C,ty,fr,cs,hv1,hb,hfr,hcap,hle,hes,hcs,hc,h1,hF⟩
 ·rw [hv1] at hv; cases hv
  simp at hn
  obtain ⟨rfl,rfl⟩:=hn
  have:a'=none:=by
   rcases ha with h | ⟨_,k,_,h⟩ <;> simp_all
  subst this
  exact ⟨fun _=>0,by simpa using Row.own0 _ s [] [] (.nil _ _ (fun _=>rfl)),fun b=>by simp⟩
 ·rw [hv1] at hv; cases hv
  have hsplit:es.flatten=(es.take lo).flatten++(((es.drop lo).take n).flatten++(es.drop (lo+n)).flatten):=by
   rw [← lZ1,← lZ1]
   congr 1
   rw [← lW1,lJ,lJ]
  have h1':Row w true F1 (cs.take (lo*s)++((cs.drop (lo*s)).take (n*s)++cs.drop (lo*s+n*s))) ((es.take lo).flatten++(((es.drop lo).take n).flatten++(es.drop (lo+n)).flatten)):=by
   rw [← hsplit]
   have:cs.take (lo*s)++((cs.drop (lo*s)).take (n*s)++cs.drop (lo*s+n*s))=cs:=by
    rw [← lW1,lJ,lJ]
   rw [this]; exact h1
  have hm1:∀ e ∈ es.take lo,e.length=s:=fun e he=>hes e (lA2 he)
  have hm2:∀ e ∈ (es.drop lo).take n,e.length=s:=fun e he=>hes e (lG3 (lA2 he))
  have hlos:lo*s+n*s≤cs.length:=by rw [hcs,← lZ2]; exact lI1 _ hn
  obtain ⟨G1,G2,g1,g2,e1⟩:=Row.split _ _ (by rw [bY _ hm1,lT,lT]; rw [lK1 (by omega),lK1 (by omega)]) h1'
  obtain ⟨G3,G4,g3,g4,e2⟩:=Row.split _ _ (by rw [bY _ hm2,lT,lT,lH2,lH2]; rw [lK1 (by omega),lK1 (by omega)]) g2
  refine ⟨fun x=>(if x=b then 1 else 0)+G3 x,?_,fun x=>by have:=hF x; have:=e1 x; have:=e2 x; (try dsimp only); omega⟩
  rcases ha with rfl | ⟨rfl,k,hk,rfl⟩
  ·simp only [lB]
   have hadd:(⟨b,off,none⟩:Addr).add (lo*s)=⟨b,off+lo*s,none⟩:=by
    unfold Addr.add; split <;> simp_all
   rw [hadd]
   refine Row.of_sl (by simp; omega) hb hfr ?_ (by simp; omega) hm2 ?_ ?_ g3 (fun x=>rfl)
   ·have:(cap-lo)*s+lo*s=cap*s:=by rw [← lZ2]; congr 1; omega
    omega
   ·simp only [lT,lH2]
    rw [lK1 (by omega),lK1 (by omega)]
   ·intro k hk
    simp only [lT,lH2] at hk
    have:=hc (lo*s+k) (by omega)
    rw [Nat.add_assoc,this,lJ1,lY1]
    rw [lF (by omega)]
  ·have hn0:n=0:=by omega
   subst hn0
   have e0:(es.drop lo).take 0=[]:=by simp
   simp only [lB]
   have hadd:(⟨b,off,none⟩:Addr).add (k*s)=⟨b,off+k*s,none⟩:=by
    unfold Addr.add; split <;> simp_all
   rw [hadd]
   have hks:k*s≤lo*s:=lI1 _ hk
   refine Row.of_sl (C:=C) (ty:=ty) (fr:=fr) (cs:=[]) (by simp) hb hfr (by simp; omega) (by simp) (by simp) (by simp) (by simp) ?_ (fun x=>rfl)
   simpa using g3
theorem RepA.open_agg {lk:Lk} {F X:aH} {us vs:List Value} {ys xs cs:List AV} {v:Value} (hl:us.length=ys.length) (h:RepA w lk F X (us++v::vs) (ys++.agg cs::xs)) :
  ∃ zs,v=.agg zs.toArray∧zs.length=cs.length∧RepA w lk F X (us++(zs++vs)) (ys++(cs++xs)):=by
 obtain ⟨A1,A2,Y1,Y2,q1,q2,eA,eY⟩:=RepA.split us ys hl h
 cases q2 with
 | agg _ F1 F2 _ X1 X2 zs _ _ _ h1 h2 hF hX=>
  exact ⟨zs,rfl,h1.length,RepA.append q1 (RepA.append h1 h2 hF hX) eA eY⟩
theorem RepA.close_agg {lk:Lk} {F X:aH} {us zs vs:List Value} {ys cs xs:List AV} (hl:us.length=ys.length) (hz:zs.length=cs.length)
  (h:RepA w lk F X (us++(zs++vs)) (ys++(cs++xs))):RepA w lk F X (us++.agg zs.toArray::vs) (ys++.agg cs::xs):=by
 obtain ⟨A1,A2,Y1,Y2,q1,q2,eA,eY⟩:=RepA.split us ys hl h
 obtain ⟨A3,A4,Y3,Y4,q3,q4,eA',eY'⟩:=RepA.split zs cs hz q2
 exact RepA.append q1 (.agg _ A3 A4 _ Y3 Y4 zs cs vs xs q3 q4 eA' eY') eA eY
theorem PR.rerep {vs vs':List Value} {xs xs':List AV} (P:PR B hid w a E Fs Xs FP XP vs xs) (h:RepA w (aN w (aI a.tmps hid) E) FP XP vs' xs'):PR B hid w a E Fs Xs FP XP vs' xs':=
 ⟨P.rel,h,P.one,P.dis,P.dx1,P.dx2,P.dx3,P.org,P.orgx⟩
theorem PR.shrink {vs vs':List Value} {xs xs':List AV} {FP' XP':aH} (P:PR B hid w a E Fs Xs FP XP vs xs) (h:RepA w (aN w (aI a.tmps hid) E) FP' XP' vs' xs')
  (hF:∀ b,FP' b≤FP b) (hX:∀ b,XP' b≤XP b):PR B hid w a E Fs Xs FP' XP' vs' xs':=
 ⟨P.rel,h,fun b=>lU3 (hF b) (P.one b),fun t b=>by have:=P.dis t b; have:=hF b; omega,fun t b=>by have:=P.dx1 t b; have:=hF b; omega,
  fun t b=>by have:=P.dx2 t b; have:=hX b; omega,fun b=>by have:=P.dx3 b; have:=hF b; have:=hX b; omega,fun b hb=>P.org b (by have:=hF b; omega),fun b hb=>P.orgx b (by have:=hX b; omega)⟩
theorem PR.cut {us vs:List Value} {ys xs:List AV} {v:Value} {r e:Nat} {p:a8} {s lo n:Nat} {es:List (List TV)} (hl:us.length=ys.length)
  (P:PR B hid w a E Fs Xs FP XP (us++v::vs) (ys++.sub r e p s lo n::xs)) (hn:aK E r e p=some (s,es)) (hle:lo+n≤es.length) :
  ∃ Fs' Xs' FP' XP',PR B hid w a (takeN E r p) Fs' Xs' FP' XP' (us++v::vs) (ys++.own s ((es.drop lo).take n)::xs):=by
 obtain ⟨he,hroot,hg⟩:=bP hn
 obtain ⟨A1,A2,Y1,Y2,q1,q2,eA,eY⟩:=RepA.split us ys hl P.rep
 obtain ⟨C1,C2,Z1,Z2,q3,q4,eC,eZ⟩:=RepA.uncons q2
 obtain ⟨h,Fu,Fr,Xu,Xr,hF,hX,hu,hres,hrest⟩:=jN p (P.rel.rep r) hg
 have hlk:aN w (aI a.tmps hid) E r e p=some (some h):=by
  unfold aN; rw [if_neg (by omega),if_pos ⟨he,hroot,by rw [hg]; rfl⟩,hres]
 have hv:(∃ base len cap a',h=.slice base len cap∧v=.slice a' n (cap-lo)∧lo+n≤len∧(a'=base.map (·.add (lo*s))∨(lo=cap∧∃ k,k≤cap∧a'=base.map (·.add (k*s)))))∧(∀ b,C1 b=0)∧(∀ b,Z1 b=0):=by
  cases q3 with
  | sub _ _ _ _ _ _ _ _ o _ _ _ ho hv q=>
   rw [hlk] at ho; cases ho
   cases q with
   | nil _ _ h1 h2=>exact ⟨hv h rfl,h1,h2⟩
 obtain ⟨⟨base,len,cap,a',e1,e2,e3,e4⟩,z1,z2⟩:=hv
 have P1:PR B hid w a E Fs Xs FP XP (us++h::vs) (ys++.lnk r e p::xs):=by
  refine P.rerep ?_
  have g:RepA w (aN w (aI a.tmps hid) E) C1 Z1 [h] [.lnk r e p]:=.lnk _ _ _ _ _ _ _ _ _ hlk (fun u hu=>by cases hu; rfl) (.nil _ _ z1 z2)
  exact RepA.append q1 (RepA.cons g q4 eC eZ) eA eY
 obtain ⟨Fs',Xs',FP',XP',P2⟩:=PR.node hl P1 hn
 obtain ⟨D1,D2,W1,W2,k1,k2,eD,eW⟩:=RepA.split us ys hl P2.rep
 obtain ⟨D3,D4,W3,W4,k3,k4,eD',eW'⟩:=RepA.uncons k2
 obtain ⟨hrow,hw3⟩:=RepA.to_row k3 rfl
 obtain ⟨G,hG,hGle⟩:=Row.cut hrow lo n hle a' base len cap e1 e4
 subst e2
 have g:RepA w (aN w (aI a.tmps hid) (takeN E r p)) G W3 [.slice a' n (cap-lo)] [.own s ((es.drop lo).take n)]:=
  .own _ G (fun _=>0) _ _ _ _ _ _ hG (.nil _ _ (fun _=>rfl) hw3) (fun x=>by simp)
 exact ⟨Fs',Xs',fun b=>D1 b+(G b+D4 b),XP',P2.shrink (RepA.append k1 (RepA.cons g k4 (fun _=>rfl) eW') (fun _=>rfl) eW)
  (fun b=>by have:=eD b; have:=eD' b; have:=hGle b; (try dsimp only); omega) (fun b=>Nat.le_refl _)⟩
mutual
theorem sM (x:AV) {us vs:List Value} {ys xs:List AV} {v:Value} {x':AV} {E E':Env} {Fs Xs:Nat→aH} {FP XP:aH} (hl:us.length=ys.length)
  (P:PR B hid w a E Fs Xs FP XP (us++v::vs) (ys++x::xs)) (hg:bL E x=some (x',E')) :
  ∃ Fs' Xs' FP' XP',PR B hid w a E' Fs' Xs' FP' XP' (us++v::vs) (ys++x'::xs):=by
 cases x with
 | lnk r e p=>
  simp only [bL] at hg
  cases hn:aK E r e p with
  | none=>simp [hn] at hg
  | some q=>
   simp [hn] at hg
   obtain ⟨rfl,rfl⟩:=hg
   exact PR.node hl P hn
 | sub r e p s lo n=>
  simp only [bL] at hg
  cases hn:aK E r e p with
  | none=>simp [hn] at hg
  | some q=>
   obtain ⟨s',es⟩:=q
   simp [hn] at hg
   obtain ⟨⟨hs,hle⟩,rfl,rfl⟩:=hg
   subst hs
   exact PR.cut hl P hn hle
 | agg cs=>
  simp only [bL] at hg
  cases hq:iJ E cs with
  | none=>simp [hq] at hg
  | some q=>
   obtain ⟨cs',E1⟩:=q
   simp [hq] at hg
   obtain ⟨rfl,rfl⟩:=hg
   obtain ⟨zs,rfl,hz,hr⟩:=RepA.open_agg hl P.rep
   obtain ⟨Fs',Xs',FP',XP',P',hlen⟩:=sN cs hl hz (P.rerep hr) hq
   exact ⟨Fs',Xs',FP',XP',P'.rerep (RepA.close_agg hl (by rw [hz,hlen]) P'.rep)⟩
 | tup cs=>simp [bL] at hg
 | box cs=>simp [bL] at hg
 | undef=>simp only [bL,Option.some.injEq,Prod.mk.injEq] at hg; obtain ⟨rfl,rfl⟩:=hg; exact ⟨_,_,_,_,P⟩
 | bool b=>simp only [bL,Option.some.injEq,Prod.mk.injEq] at hg; obtain ⟨rfl,rfl⟩:=hg; exact ⟨_,_,_,_,P⟩
 | int k n=>simp only [bL,Option.some.injEq,Prod.mk.injEq] at hg; obtain ⟨rfl,rfl⟩:=hg; exact ⟨_,_,_,_,P⟩
 | str s=>simp only [bL,Option.some.injEq,Prod.mk.injEq] at hg; obtain ⟨rfl,rfl⟩:=hg; exact ⟨_,_,_,_,P⟩
 | own s es=>simp only [bL,Option.some.injEq,Prod.mk.injEq] at hg; obtain ⟨rfl,rfl⟩:=hg; exact ⟨_,_,_,_,P⟩
 | ext s es=>simp only [bL,Option.some.injEq,Prod.mk.injEq] at hg; obtain ⟨rfl,rfl⟩:=hg; exact ⟨_,_,_,_,P⟩
 | extv v s es=>simp only [bL,Option.some.injEq,Prod.mk.injEq] at hg; obtain ⟨rfl,rfl⟩:=hg; exact ⟨_,_,_,_,P⟩
 | xbox cs=>simp only [bL,Option.some.injEq,Prod.mk.injEq] at hg; obtain ⟨rfl,rfl⟩:=hg; exact ⟨_,_,_,_,P⟩
 | ref r e p st=>simp only [bL,Option.some.injEq,Prod.mk.injEq] at hg; obtain ⟨rfl,rfl⟩:=hg; exact ⟨_,_,_,_,P⟩
 | fn f cs=>simp only [bL,Option.some.injEq,Prod.mk.injEq] at hg; obtain ⟨rfl,rfl⟩:=hg; exact ⟨_,_,_,_,P⟩
theorem sN (cs:List AV) {us zs vs:List Value} {ys xs:List AV} {cs':List AV} {E E':Env} {Fs Xs:Nat→aH} {FP XP:aH} (hl:us.length=ys.length) (hz:zs.length=cs.length)
  (P:PR B hid w a E Fs Xs FP XP (us++(zs++vs)) (ys++(cs++xs))) (hg:iJ E cs=some (cs',E')) :
  ∃ Fs' Xs' FP' XP',PR B hid w a E' Fs' Xs' FP' XP' (us++(zs++vs)) (ys++(cs'++xs))∧cs'.length=cs.length:=by
 cases cs with
 | nil=>
  simp only [iJ,Option.some.injEq,Prod.mk.injEq] at hg
  obtain ⟨rfl,rfl⟩:=hg
  exact ⟨_,_,_,_,P,rfl⟩
 | cons c cs=>
  simp only [iJ] at hg
  cases h1:bL E c with
  | none=>simp [h1] at hg
  | some q=>
   obtain ⟨c',E1⟩:=q
   simp only [h1,lD] at hg
   cases h2:iJ E1 cs with
   | none=>simp [h2] at hg
   | some q2=>
    obtain ⟨cs2,E2⟩:=q2
    simp [h2] at hg
    obtain ⟨rfl,rfl⟩:=hg
    cases zs with
    | nil=>simp at hz
    | cons z zs=>
     have P0:PR B hid w a E Fs Xs FP XP (us++z::(zs++vs)) (ys++c::(cs++xs)):=P
     obtain ⟨Fs1,Xs1,FP1,XP1,P1⟩:=sM c hl P0 h1
     have P1':PR B hid w a E1 Fs1 Xs1 FP1 XP1 ((us++[z])++(zs++vs)) ((ys++[c'])++(cs++xs)):=by simpa using P1
     obtain ⟨Fs2,Xs2,FP2,XP2,P2,hlen⟩:=sN cs (by simp [hl]) (by simpa using hz) P1' h2
     exact ⟨Fs2,Xs2,FP2,XP2,by simpa using P2,by simp [hlen]⟩
end
inductive OpdOk (n:Nat):Operand→O→Prop where
 | tmp (t:Nat) (h:t<n):OpdOk n (.tmp t) (.t t)
 | const (v:Value) (x:AV) (h:∀ w lk,RepA w lk (fun _=>0) (fun _=>0) [v] [x]):OpdOk n (.const v) (.c x)
 | func (f:Nat):OpdOk n (.func f) (.c (.fn f []))
theorem fC {lk:Lk} {F X:aH} {vs:List Value} {as:List AV} (h:RepA w lk F X vs as):bS as=false→∀ b,F b=0:=by
 induction h with
 | nil F X hF hX=>exact fun _=>hF
 | undef F X v vs as h ih=>intro ho; exact ih (by simpa [bS,AV.owns] using ho)
 | bool F X v vs as h ih=>intro ho; exact ih (by simpa [bS,AV.owns] using ho)
 | int F X k n vs as h ih=>intro ho; exact ih (by simpa [bS,AV.owns] using ho)
 | str F X v vs as h ih=>intro ho; exact ih (by simpa [bS,AV.owns] using ho)
 | own F F1 F2 X s es v vs as h1 h hF ih=>intro ho; simp [bS,AV.owns] at ho
 | ext F X X1 X2 s es v vs as h1 h hX ih=>intro ho; exact ih (by simpa [bS,AV.owns] using ho)
 | extv F X X1 X2 s es v vs as h1 h hX ih=>intro ho; exact ih (by simpa [bS,AV.owns] using ho)
 | box F F1 F2 X X1 X2 b C ty fr cs vs as hb hfr h1 h hF hX ih1 ih=>intro ho; simp [bS,AV.owns] at ho
 | xbox F X X1 X2 a us cs vs as hc h1 h hX ih=>intro ho; exact ih (by simpa [bS,AV.owns] using ho)
 | agg F F1 F2 X X1 X2 us cs vs as h1 h hF hX ih1 ih=>
  intro ho b; simp [bS,AV.owns] at ho; rw [hF,ih1 ho.1,ih ho.2]
 | tup F F1 F2 X X1 X2 us cs vs as h1 h hF hX ih1 ih=>
  intro ho b; simp [bS,AV.owns] at ho; rw [hF,ih1 ho.1,ih ho.2]
 | fn F F1 F2 X X1 X2 f us cs vs as h1 h hF hX ih1 ih=>
  intro ho b; simp [bS,AV.owns] at ho; rw [hF,ih1 ho.1,ih ho.2]
 | lnk F X r e p o v vs as ho hv h ih=>intro ho; exact ih (by simpa [bS,AV.owns] using ho)
 | sub F X r e p s lo n o v vs as ho hv h ih=>intro ho; exact ih (by simpa [bS,AV.owns] using ho)
 | ref F X r e p st o v vs as ho hv h ih=>intro ho; exact ih (by simpa [bS,AV.owns] using ho)
theorem fX {vs:List Value} {xs:List AV} {x:Operand} {o:O} (ho:OpdOk B.n x o) (P:PR B hid w a E Fs Xs FP XP vs xs) :
  ∃ Fs' Xs' FP' XP',PR B hid w a (fD E o).2 Fs' Xs' FP' XP' (vs++[a.eval x]) (xs++[(fD E o).1]):=by
 have R:=P.rel
 cases ho with
 | const v y h=>
  obtain ⟨XP',P'⟩:=P.copy (h w _) (fun _=>rfl) (fun b hb=>absurd rfl hb)
  exact ⟨_,_,_,_,P'⟩
 | func f=>
  have h:RepA w (aN w (aI a.tmps hid) E) (fun _=>0) (fun _=>0) [.func (.func f) #[] #[]] [.fn f []]:=
   .fn _ (fun _=>0) (fun _=>0) _ (fun _=>0) (fun _=>0) f [] [] [] [] RepA.znil RepA.znil (fun _=>rfl) (fun _=>rfl)
  obtain ⟨XP',P'⟩:=P.copy h (fun _=>rfl) (fun b hb=>absurd rfl hb)
  exact ⟨_,_,_,_,P'⟩
 | tmp t ht=>
  have he:a.eval (.tmp t)=aI a.tmps hid t:=kW (by rw [R.size]; exact ht)
  rw [he]
  unfold fD
  by_cases hown:(E.f t).owns=true
  ·simp only [hown,lP]; exact P.move t
  ·simp only [hown]
   have hz:=fC (R.rep t) (by simpa [bS] using hown)
   obtain ⟨XP',P'⟩:=P.copy (R.rep t) hz (fun b hb=>⟨t,hb⟩)
   exact ⟨_,_,_,_,P'⟩
theorem dM {vs:List Value} {xs:List AV} {x:Operand} {o:O} {x':AV} {E':Env} (ho:OpdOk B.n x o) (P:PR B hid w a E Fs Xs FP XP vs xs)
  (hg:dT E o=some (x',E')) :
  ∃ Fs' Xs' FP' XP',PR B hid w a E' Fs' Xs' FP' XP' (vs++[a.eval x]) (xs++[x']):=by
 obtain ⟨Fs',Xs',FP',XP',P'⟩:=fX ho P
 exact sM _ P.rep.length P' hg
end
section
variable {P:Program} {w w':World} {B:Base} {hid hv:Nat→Value} {a:Act} {E:Env} {Fs Xs:Nat→aH} {FP XP:aH} {Q:Exit→Act→World→Prop} {o:Oper}
theorem bN {next:Act→World→Prop} {v:Value} {d:Nat} (hr:(execOp a.eval o).run P w=.ok (.value v) w') (hd:o.dst=some d) (h:next (a.put (some d) v) w'):o.wp P a w next Q:=by
 unfold Oper.wp; rw [hr,Oper.upon_value,hd]; exact h
theorem ala {next:Act→World→Prop} (hr:(execOp a.eval o).run P w=.ok .skip w') (hd:o.dst=none) (h:next a w'):o.wp P a w next Q:=by
 unfold Oper.wp; rw [hr,Oper.upon_skip,hd]; exact h
theorem bD {v:Value} {x:AV} (P1:PR B hid w a E Fs Xs FP XP [v] [x]) (hh:∀ t,t<2000→hid t=hv t) {d:Nat} (hd:d<B.n):bB B hv w (a.put (some d) v) (E.put d x):=by
 obtain ⟨Fs',Xs',R⟩:=P1.put hd
 exact ⟨hid,Fs',Xs',R,hh⟩
theorem PR.ofRel (R:Rel B hid w a E Fs Xs) {v:Value} {x:AV} {F X:aH} (h:RepA w (aN w (aI a.tmps hid) E) F X [v] [x]) (hF:∀ b,F b=0)
  (hX:∀ b,X b≠0→∃ t,Xs t b≠0):∃ XP',PR B hid w a E Fs Xs (fun _=>0) XP' [v] [x]:=by
 obtain ⟨XP',P'⟩:=(PR.nil R).copy h hF hX
 exact ⟨XP',P'⟩
theorem fA (G:bB B hv w a E) {d:Nat} (hd:d<B.n) {v:Value} {x:AV}
  (h:∀ hid Fs Xs,Rel B hid w a E Fs Xs→∃ F X,RepA w (aN w (aI a.tmps hid) E) F X [v] [x]∧(∀ b,F b=0)∧∀ b,X b≠0→∃ t,Xs t b≠0) :
  bB B hv w (a.put (some d) v) (E.put d x):=by
 obtain ⟨hid,Fs,Xs,R,hh⟩:=G
 obtain ⟨F,X,h1,h2,h3⟩:=h hid Fs Xs R
 obtain ⟨XP',P'⟩:=PR.ofRel R h1 h2 h3
 exact bD P' hh hd
theorem iW (G:bB B hv w a E) {d:Nat} (hd:d<B.n) (k:IntKind) (n:Int):bB B hv w (a.put (some d) (.int k n)) (E.put d (.int k n)):=
 fA G hd fun _ _ _ _=>⟨fun _=>0,fun _=>0,.int _ _ _ _ _ _ RepA.znil,fun _=>rfl,fun _ h=>absurd rfl h⟩
theorem pE (G:bB B hv w a E) {d:Nat} (hd:d<B.n) (b:Bool):bB B hv w (a.put (some d) (.bool b)) (E.put d (.bool b)):=
 fA G hd fun _ _ _ _=>⟨fun _=>0,fun _=>0,.bool _ _ _ _ _ RepA.znil,fun _=>rfl,fun _ h=>absurd rfl h⟩
theorem wE (G:bB B hv w a E) {d:Nat} (hd:d<B.n) (s:List UInt8):bB B hv w (a.put (some d) (c7 s)) (E.put d (.str s)):=
 fA G hd fun _ _ _ _=>⟨fun _=>0,fun _=>0,.str _ _ _ _ _ RepA.znil,fun _=>rfl,fun _ h=>absurd rfl h⟩
theorem bI (R:Rel B hid w a E Fs Xs) {x:Operand} {o:O} (ho:OpdOk B.n x o) :
  ∃ F X,RepA w (aN w (aI a.tmps hid) E) F X [a.eval x] [val E o]∧(∀ b,F b≠0→∃ t,Fs t b≠0)∧(∀ b,X b≠0→∃ t,Xs t b≠0)∧(∀ t,o=.t t→(∀ b,F b=Fs t b)∧∀ b,X b=Xs t b):=by
 cases ho with
 | const v y h=>exact ⟨_,_,h w _,fun b hb=>absurd rfl hb,fun b hb=>absurd rfl hb,fun t ht=>by cases ht⟩
 | func f=>exact ⟨_,_,.fn _ (fun _=>0) (fun _=>0) _ (fun _=>0) (fun _=>0) f [] [] [] [] RepA.znil RepA.znil (fun _=>rfl) (fun _=>rfl),fun b hb=>absurd rfl hb,fun b hb=>absurd rfl hb,fun t ht=>by cases ht⟩
 | tmp t ht=>
  have he:a.eval (.tmp t)=aI a.tmps hid t:=kW (by rw [R.size]; exact ht)
  rw [he]
  exact ⟨_,_,R.rep t,fun b hb=>⟨t,hb⟩,fun b hb=>⟨t,hb⟩,fun t' h=>by cases h; exact ⟨fun _=>rfl,fun _=>rfl⟩⟩
theorem fO (G:bB B hv w a E) {x:Operand} {o:O} (ho:OpdOk B.n x o) {k:IntKind} {n:Int} (h:val E o=.int k n):a.eval x=.int k n:=by
 obtain ⟨hid,Fs,Xs,R,hh⟩:=G
 obtain ⟨F,X,hr,_⟩:=bI R ho
 rw [h] at hr
 generalize a.eval x=v at hr ⊢
 cases hr with | int _ _ _ _ _ _ _=>rfl
theorem nW (G:bB B hv w a E) {x:Operand} {o:O} (ho:OpdOk B.n x o) {b:Bool} (h:val E o=.bool b):a.eval x=.bool b:=by
 obtain ⟨hid,Fs,Xs,R,hh⟩:=G
 obtain ⟨F,X,hr,_⟩:=bI R ho
 rw [h] at hr
 generalize a.eval x=v at hr ⊢
 cases hr with | bool _ _ _ _ _ _=>rfl
theorem oT (G:bB B hv w a E) {x:Operand} {o:O} (ho:OpdOk B.n x o) {s:List UInt8} (h:val E o=.str s):a.eval x=c7 s:=by
 obtain ⟨hid,Fs,Xs,R,hh⟩:=G
 obtain ⟨F,X,hr,_⟩:=bI R ho
 rw [h] at hr
 generalize a.eval x=v at hr ⊢
 cases hr with | str _ _ _ _ _ _=>rfl
theorem afP {x:Operand} {o1:O} {d:Nat} {E':Env} (ho:OpdOk B.n x o1) (hd:d<B.n) (G:bB B hv w a E) (h:ev E (.mov d o1)=some E') :
  bB B hv w (a.put (some d) (a.eval x)) E':=by
 have G0:=G
 obtain ⟨hid,Fs,Xs,R,hh⟩:=G
 cases ho with
 | const v y hc=>
  simp only [ev,Option.some.injEq] at h; subst h
  obtain ⟨XP',P'⟩:=PR.ofRel R (hc w _) (fun _=>rfl) (fun b hb=>absurd rfl hb)
  exact bD P' hh hd
 | func f=>
  simp only [ev,Option.some.injEq] at h; subst h
  have hc:RepA w (aN w (aI a.tmps hid) E) (fun _=>0) (fun _=>0) [.func (.func f) #[] #[]] [.fn f []]:=
   .fn _ (fun _=>0) (fun _=>0) _ (fun _=>0) (fun _=>0) f [] [] [] [] RepA.znil RepA.znil (fun _=>rfl) (fun _=>rfl)
  obtain ⟨XP',P'⟩:=PR.ofRel R hc (fun _=>rfl) (fun b hb=>absurd rfl hb)
  exact bD P' hh hd
 | tmp n hn=>
  have he:a.eval (.tmp n)=aI a.tmps hid n:=kW (by rw [R.size]; exact hn)
  rw [he]
  simp only [ev] at h
  split at h
  ·rename_i s es hq
   split at h
   ·cases h
   ·cases h
    have hlk:aN w (aI a.tmps hid) E n (E.ep n).1 []=some (some (aI a.tmps hid n)):=by
     unfold aN; rw [if_neg (by simp [fM]),if_pos ⟨by simp [fM],by rw [hq]; rfl,by rw [hq]; rfl⟩]; rfl
    have hr:RepA w (aN w (aI a.tmps hid) E) (fun _=>0) (fun _=>0) [aI a.tmps hid n] [.lnk n (E.ep n).1 []]:=
     .lnk _ _ _ _ _ _ _ _ _ hlk (fun u hu=>by cases hu; rfl) RepA.znil
    obtain ⟨XP',P'⟩:=PR.ofRel R hr (fun _=>rfl) (fun b hb=>absurd rfl hb)
    exact bD P' hh hd
  ·rename_i cs hq
   split at h
   ·cases h
   ·cases h
    have hlk:aN w (aI a.tmps hid) E n (E.ep n).1 []=some (some (aI a.tmps hid n)):=by
     unfold aN; rw [if_neg (by simp [fM]),if_pos ⟨by simp [fM],by rw [hq]; rfl,by rw [hq]; rfl⟩]; rfl
    have hb:∃ b,aI a.tmps hid n=.pointer (some ⟨b,0,none⟩):=by
     have hrep:=R.rep n
     rw [hq] at hrep
     generalize aI a.tmps hid n=v at hrep
     cases hrep with
     | box _ F1 F2 _ X1 X2 b C ty fr _ _ _ hb hfr h1 h2 hF hX=>exact ⟨b,rfl⟩
    obtain ⟨b,hb⟩:=hb
    have hr:RepA w (aN w (aI a.tmps hid) E) (fun _=>0) (fun _=>0) [aI a.tmps hid n] [.ref n (E.ep n).1 [] ⟨0,0,0⟩]:=by
     refine .ref _ _ _ _ _ _ _ _ _ _ hlk (fun u hu=>?_) RepA.znil
     cases hu
     rw [hb]
     exact ⟨⟨b,0,none⟩,rfl,by simp [Addr.add]⟩
    obtain ⟨XP',P'⟩:=PR.ofRel R hr (fun _=>rfl) (fun b hb=>absurd rfl hb)
    exact bD P' hh hd
  ·split at h
   ·cases h
    obtain ⟨Fs',Xs',FP',XP',P'⟩:=(PR.nil R).move n
    exact bD (by simpa using P') hh hd
   ·rename_i hown
    cases h
    obtain ⟨XP',P'⟩:=PR.ofRel R (R.rep n) (fC (R.rep n) (by simpa [bS] using hown)) (fun b hb=>⟨n,hb⟩)
    exact bD P' hh hd
theorem acK {x:Operand} {o1:O} {d:Nat} (ho:OpdOk B.n x o1) (hd:d<B.n) (G:bB B hv w a E):bB B hv w (a.put (some d) (a.eval x)) ((fD E o1).2.put d (fD E o1).1):=by
 obtain ⟨hid,Fs,Xs,R,hh⟩:=G
 obtain ⟨Fs',Xs',FP',XP',P'⟩:=fX ho (PR.nil R)
 exact bD (by simpa using P') hh hd
theorem afQ {x:Operand} {o1:O} {d:Nat} {E':Env} (ho:OpdOk B.n x o1) (hd:d<B.n) (G:bB B hv w a E) (h:ev E (.asg d o1)=some E') :
  bB B hv w (a.put (some d) (a.eval x)) E':=by
 simp only [ev] at h
 split at h
 ·rename_i r e p s lo n hq
  split at h
  ·cases hg:bL E (.sub r e p s lo n) with
   | none=>simp [hg] at h
   | some g=>
    simp [hg] at h; subst h
    have hpull:fD E o1=(.sub r e p s lo n,E):=by
     cases o1 with
     | t m=>simp only [val] at hq; simp [fD,hq,AV.owns]
     | c y=>simp only [val] at hq; simp [fD,hq]
    obtain ⟨hid,Fs,Xs,R,hh⟩:=G
    obtain ⟨Fs',Xs',FP',XP',P'⟩:=dM (x':=g.1) (E':=g.2) ho (PR.nil R) (by unfold dT; rw [hpull]; exact hg)
    exact bD (by simpa using P') hh hd
  ·cases h
   have:=acK ho hd G
   have hpull:fD E o1=(.sub r e p s lo n,E):=by
    cases o1 with
    | t m=>simp only [val] at hq; simp [fD,hq,AV.owns]
    | c y=>simp only [val] at hq; simp [fD,hq]
   rw [hpull] at this; exact this
 ·cases h
  exact acK ho hd G
def AV.prim:AV→Option Value
 | .int k n=>some (.int k n)
 | .bool b=>some (.bool b)
 | .str s=>some (c7 s)
 | _=>none
theorem x5 (G:bB B hv w a E) {d:Nat} (hd:d<B.n) {x:AV} {v:Value} (h:x.prim=some v):bB B hv w (a.put (some d) v) (E.put d x):=by
 cases x <;> simp [AV.prim] at h <;> subst h
 ·exact pE G hd _
 ·exact iW G hd _ _
 ·exact wE G hd _
theorem sO (l:List UInt8):(⟨l.toArray⟩:ByteArray).toList=l:=by rw [ByteArray.toList_eq]
theorem aaY (l:List UInt8):(⟨l.toArray⟩:ByteArray).size=l.length:=by show l.toArray.size=_; simp
theorem afR (a b:List UInt8):(⟨a.toArray⟩:ByteArray)++⟨b.toArray⟩=⟨(a++b).toArray⟩:=by
 apply ByteArray.ext
 simp [ByteArray.data_append]
theorem aiP {op : BinOp} {k : IntKind} {m n : Int} {r : AV} (h : adR op k m n = some r) (hs : afE op = false) (t : TypeId) :
    ∃ v, r.prim = some v ∧ (binOp op t (.int k m) (.int k n)).run P w = .ok v w := by
  cases op <;> simp only [adR, afE] at h hs <;> (try cases h) <;> (try cases hs) <;>
    first
    | exact ⟨_, rfl, by simp [binOp, Op.intArith, Op.intBits, Op.intCmp, pure, Sem.run]⟩
    | (split at h
       · cases h
       · rename_i hz
         cases h
         exact ⟨_, rfl, by simp [binOp, Op.intDiv, hz, pure, Sem.run]⟩)
theorem alb {op:BinOp} {k k':IntKind} {m n:Int} {r:AV} (h:shI op k m n=some r) (t:TypeId) :
  ∃ v,r.prim=some v∧(binOp op t (.int k m) (.int k' n)).run P w=.ok v w:=by
 cases op <;> simp only [shI] at h <;> (try cases h)
 all_goals
  split at h
  ·cases h
  ·rename_i hz
   cases h
   exact ⟨_,rfl,by simp [binOp,Op.shift,hz,pure,Sem.run]⟩
theorem aiQ {op:BinOp} {m n:List UInt8} {r:AV} (h:akI op m n=some r) (t:TypeId) :
  ∃ v,r.prim=some v∧(binOp op t (c7 m) (c7 n)).run P w=.ok v w:=by
 cases op <;> simp only [akI] at h <;> (try cases h)
 case add=>
  split at h
  ·rename_i hz
   cases h
   refine ⟨_,rfl,?_⟩
   have hm:IntKind.i64.max=9223372036854775807:=rfl
   have:¬ (((m.length+n.length:Nat):Int)>IntKind.i64.max):=by rw [hm]; omega
   simp only [binOp,c7,Op.stringOp,aaY,this,lG1,afR]
   rfl
  ·cases h
 all_goals
  refine ⟨_,rfl,?_⟩
  simp only [binOp,c7,Op.stringOp,sO,strLt]
  rfl
theorem x7 {op:BinOp} {t u:TypeId} {x y:Operand} {o1 o2:O} {d:Nat} {E':Env} (ho:o.op=.binOp op t x y u) (hd:o.dst=some d) (hdn:d<B.n)
  (hx:OpdOk B.n x o1) (hy:OpdOk B.n y o2) (G:bB B hv w a E) (h:ev E (.bin d op o1 o2)=some E'):o.wp P a w (fun a' w'=>bB B hv w' a' E') Q:=by
 simp only [ev] at h
 cases hb:jL op (val E o1) (val E o2) with
 | none=>simp [hb] at h
 | some r=>
  simp [hb] at h; subst h
  have key:∃ v,r.prim=some v∧(do eqGuard op t x y (a.eval x) (a.eval y); binOp op t (a.eval x) (a.eval y):Sem Value).run P w=.ok v w:=by
   unfold jL at hb
   split at hb
   ·rename_i k m k' n e1 e2
    have v1:=fO G hx e1
    have v2:=fO G hy e2
    rw [v1,v2]
    have hg:(eqGuard op t x y (.int k m) (.int k' n))=pure ():=by cases op <;> rfl
    rw [hg]
    show ∃ v,r.prim=some v∧(binOp op t (.int k m) (.int k' n)).run P w=.ok v w
    by_cases hsh:afE op=true
    ·simp only [hsh,lP] at hb; exact alb hb t
    ·simp only [hsh] at hb
     split at hb
     case isTrue=>simp_all
     split at hb
     ·rename_i hk; subst hk; exact aiP hb (by simpa using hsh) t
     ·cases hb
   ·rename_i m n e1 e2
    have v1:=oT G hx e1
    have v2:=oT G hy e2
    rw [v1,v2]
    have hg:(eqGuard op t x y (c7 m) (c7 n))=pure ():=by cases op <;> rfl
    rw [hg]
    exact aiQ hb t
   ·cases hb
  obtain ⟨v,hp,hr⟩:=key
  refine bN (v:=v) ?_ hd (x5 G hdn hp)
  simp only [execOp,ho,Sem.run_bind,hr,Result.andThen_ok,Sem.run_pure]
theorem x8 {t u:TypeId} {x y:Operand} {o1 o2:O} {d:Nat} {neg:Bool} {E':Env} (ho:o.op=.binOp (if neg then .neq else .eql) t x y u) (hd:o.dst=some d) (hdn:d<B.n)
  (hx:OpdOk B.n x o1) (hy:OpdOk B.n y o2) (ht:P.underlying t=some .bool) (G:bB B hv w a E) (h:ev E (.beq d neg o1 o2)=some E'):o.wp P a w (fun a' w'=>bB B hv w' a' E') Q:=by
 simp only [ev] at h
 split at h
 ·rename_i m n e1 e2
  cases h
  have v1:=nW G hx e1
  have v2:=nW G hy e2
  have hrun:=run_equal_bool (P:=P) (w:=w) t m n ht
  refine bN (v:=.bool (if neg then !(m == n) else (m == n))) ?_ hd (pE G hdn _)
  have hg:(eqGuard (if neg then BinOp.neq else BinOp.eql) t x y (.bool m) (.bool n))=pure ():=by cases neg <;> rfl
  simp only [execOp,ho,v1,v2,hg]
  cases neg <;> simp [binOp,hrun]
 ·cases h
theorem x9 {t u e:TypeId} {x y:Operand} {o1 o2:O} {d:Nat} {neg:Bool} {E':Env} (ho:o.op=.binOp (if neg then .neq else .eql) t x y u) (hd:o.dst=some d) (hdn:d<B.n)
  (hx:OpdOk B.n x o1) (hy:OpdOk B.n y o2) (ht:P.underlying t=some (.slice e)) (G:bB B hv w a E) (h:ev E (.isn d neg o1 o2)=some E'):o.wp P a w (fun a' w'=>bB B hv w' a' E') Q:=by
 simp only [ev] at h
 split at h
 case h_2=>cases h
 rename_i v s es s2 e1
 split at h
 case h_2=>cases h
 rename_i ad l c
 cases h
 have v1:a.eval x=.slice ad l c:=by
  obtain ⟨hid,Fs,Xs,R,hh⟩:=G
  obtain ⟨F,X,hr,_⟩:=bI R hx
  rw [e1] at hr
  generalize a.eval x=v at hr ⊢
  cases hr with | extv _ _ _ _ _ _ _ _ _ _ _ _=>rfl
 have v2:a.eval y=.slice none 0 0:=by
  cases hy with
  | const v z hc=>
   have hr:=hc w lk0
   simp only [Act.eval]
   cases hr with
   | own _ F1 F2 _ _ _ _ _ _ h1 _ hF=>
    have h0:∀ b,F1 b=0:=fun b=>by have:=hF b; dsimp only at this; omega
    cases h1 with
    | own0=>rfl
    | own _ G1 G2 _ _ b off cap C ty fr cs _ _ hb hfr hcap hle hes hcs hc' h1' h' hF'=>
     have:=h0 b; rw [hF' b] at this; simp at this
 have hrun:=run_equal_slice_nil (P:=P) (w:=w) t e ad l c ht
 refine bN (v:=.bool (if neg then !ad.isNone else ad.isNone)) ?_ hd (pE G hdn _)
 have hg:(eqGuard (if neg then BinOp.neq else BinOp.eql) t x y (.slice ad l c) (.slice none 0 0))=pure ():=by cases neg <;> rfl
 simp only [execOp,ho,v1,v2,hg]
 cases neg <;> simp [binOp,hrun]
theorem ald {lk lk':Lk} {d:Nat}:∀ (fs:List Field) (ks:List Nat) (pre pre' us vs:List Value) (cs ds:List AV) (b:Bool) (F X F' X':aH),RepA w lk F X us cs→RepA w lk' F' X' vs ds →
  jQ P pre.length fs=some ks→pre'.length=pre.length→eqC ks cs ds=some b →
  (Op.eqFields (d+1) (pre++us).toArray (pre'++vs).toArray fs).run P w=.ok b w:=by
 intro fs
 induction fs with
 | nil=>
  intro ks pre pre' us vs cs ds b F X F' X' h1 h2 hk hl he
  simp only [jQ,Option.some.injEq] at hk; subst hk
  cases cs <;> cases ds <;> simp [eqC] at he
  subst he
  rfl
 | cons f fs ih=>
  intro ks pre pre' us vs cs ds b F X F' X' h1 h2 hk hl he
  simp only [jQ] at hk
  split at hk
  case isFalse=>cases hk
  rename_i hf
  have step:∀ (k:Nat) (ks':List Nat) (u v:Value) (us' vs':List Value) (cs' ds':List AV) (r b':Bool),us=u::us'→vs=v::vs'→(∃ F X,RepA w lk F X us' cs')→(∃ F X,RepA w lk' F X vs' ds') →
    jQ P (pre.length+1) fs=some ks'→eqC ks' cs' ds'=some b'→(isAgg f.type).run P w=.ok false w →
    (Op.equalIn (d+1) f.type u v).run P w=.ok r w→b=(r && b') →
    (Op.eqFields (d+1) (pre++us).toArray (pre'++vs).toArray (f::fs)).run P w=.ok b w:=by
   intro k ks' u v us' vs' cs' ds' r b' e1 e2 r1 r2 hk' he' hag heq hb
   subst e1; subst e2
   have p1:(part f.type (pre++u::us').toArray f.offset).run P w=.ok u w:=by
    unfold part; simp [hag,hf.2]
   have p2:(part f.type (pre'++v::vs').toArray f.offset).run P w=.ok v w:=by
    unfold part; simp [hag,hf.2,← hl]
   simp only [Op.eqFields,lF hf.1,Sem.run_bind,p1,p2,Result.andThen_ok,heq]
   obtain ⟨_,_,r1⟩:=r1
   obtain ⟨_,_,r2⟩:=r2
   cases r with
   | false=>simp [hb]
   | true=>
    have:=ih ks' (pre++[u]) (pre'++[v]) us' vs' cs' ds' b' _ _ _ _ r1 r2 (by simpa using hk') (by simp [hl]) he'
    simp only [Bool.not_true,lW3,lG1]
    rw [lP2,lP2] at this
    simpa [hb] using this
  have agf:∀ dsc,P.underlying f.type=some dsc→(match dsc with | .struct _ | .array _ _=>False | _=>True)→(isAgg f.type).run P w=.ok false w:=by
   intro dsc hu hd
   unfold isAgg; simp only [Sem.run_bind,run_underlying hu,Result.andThen_ok]
   cases dsc <;> simp_all
  split at hk
  ·rename_i kk hu
   cases hk2:jQ P (pre.length+1) fs with
   | none=>simp [hk2] at hk
   | some ks'=>
    simp [hk2] at hk; subst hk
    cases h1 <;> cases h2 <;> simp only [eqC,reduceCtorEq] at he
    split at he
    case isFalse=>cases he
    rename_i hkk; subst hkk
    obtain ⟨b',hb',rfl⟩:=lC2.1 he
    exact step 0 ks' _ _ _ _ _ _ _ b' rfl rfl ⟨_,_,by assumption⟩ ⟨_,_,by assumption⟩ hk2 hb' (agf _ hu trivial) (run_equalIn_int w d _ _ kk _ _ hu) rfl
  ·rename_i hu
   cases hk2:jQ P (pre.length+1) fs with
   | none=>simp [hk2] at hk
   | some ks'=>
    simp [hk2] at hk; subst hk
    cases h1 <;> cases h2 <;> simp only [eqC,reduceCtorEq] at he
    obtain ⟨b',hb',rfl⟩:=lC2.1 he
    refine step 0 ks' _ _ _ _ _ _ _ b' rfl rfl ⟨_,_,by assumption⟩ ⟨_,_,by assumption⟩ hk2 hb' (agf _ hu trivial) (run_equalIn_string w d _ _ _ hu) ?_
    rw [sO,sO]
  ·rename_i hu
   cases hk2:jQ P (pre.length+1) fs with
   | none=>simp [hk2] at hk
   | some ks'=>
    simp [hk2] at hk; subst hk
    cases h1 <;> cases h2 <;> simp only [eqC,reduceCtorEq] at he
    obtain ⟨b',hb',rfl⟩:=lC2.1 he
    exact step 0 ks' _ _ _ _ _ _ _ b' rfl rfl ⟨_,_,by assumption⟩ ⟨_,_,by assumption⟩ hk2 hb' (agf _ hu trivial) (run_equalIn_bool w d _ _ _ hu) rfl
  ·cases hk
theorem yA {t u:TypeId} {x y:Operand} {o1 o2:O} {d:Nat} {neg:Bool} {ks:List Nat} {fs:Array Field} {E':Env} (ho:o.op=.binOp (if neg then .neq else .eql) t x y u) (hd:o.dst=some d) (hdn:d<B.n)
  (hx:OpdOk B.n x o1) (hy:OpdOk B.n y o2) (ht:P.underlying t=some (.struct fs)) (hk:jQ P 0 fs.toList=some ks) (hg:P.eqGuardType P.depth t=false) (hs:P.stoodInHeld t=false)
  (G:bB B hv w a E) (h:ev E (.eqs d neg ks o1 o2)=some E'):o.wp P a w (fun a' w'=>bB B hv w' a' E') Q:=by
 simp only [ev] at h
 split at h
 ·rename_i cs ds e1 e2
  cases hq:eqC ks cs ds with
  | none=>simp [hq] at h
  | some r=>
   simp [hq] at h; subst h
   have G0:=G
   obtain ⟨hid,Fs,Xs,R,hh⟩:=G
   obtain ⟨F,X,r1,_⟩:=bI R hx
   obtain ⟨F',X',r2,_⟩:=bI R hy
   rw [e1] at r1
   rw [e2] at r2
   have q1:∃ us F X,a.eval x=.agg us.toArray∧RepA w (aN w (aI a.tmps hid) E) F X us cs:=by
    generalize a.eval x=z at r1 ⊢
    cases r1 with | agg _ F1 _ _ X1 _ us _ _ _ g _ _ _=>exact ⟨us,F1,X1,rfl,g⟩
   have q2:∃ us F X,a.eval y=.agg us.toArray∧RepA w (aN w (aI a.tmps hid) E) F X us ds:=by
    generalize a.eval y=z at r2 ⊢
    cases r2 with | agg _ F1 _ _ X1 _ us _ _ _ g _ _ _=>exact ⟨us,F1,X1,rfl,g⟩
   obtain ⟨us,_,_,v1,g1⟩:=q1
   obtain ⟨vs,_,_,v2,g2⟩:=q2
   have hfo:P.fieldsOf t=fs:=by unfold Program.fieldsOf; rw [ht]
   have hrun:(Op.equalIn 10000 t (.agg us.toArray) (.agg vs.toArray)).run P w=.ok r w:=by
    rw [run_equalIn_agg w 9999 t _ _ (by rw [hfo]; exact ht) hs,hfo]
    exact ald (d:=9998) fs.toList ks [] [] us vs cs ds r _ _ _ _ g1 g2 hk rfl hq
   refine bN (v:=.bool (if neg then !r else r)) ?_ hd (pE G0 hdn _)
   have hgd:=run_eqGuard_agg (P:=P) w (if neg then BinOp.neq else BinOp.eql) t x y us.toArray vs.toArray hg
   simp only [execOp,ho,v1,v2,Sem.run_bind,hgd,Result.andThen_ok,Sem.run_pure]
   cases neg with
   | false=>simp [run_eql_struct,hrun]
   | true=>simp [run_neq_struct,hrun]
 ·cases h
theorem aiR {op:UnOp} {t:TypeId} {x:Operand} {o1:O} {d:Nat} {E':Env} (ho:o.op=.unOp op t x) (hd:o.dst=some d) (hdn:d<B.n)
  (hx:OpdOk B.n x o1) (G:bB B hv w a E) (h:ev E (.un d op o1)=some E'):o.wp P a w (fun a' w'=>bB B hv w' a' E') Q:=by
 simp only [ev] at h
 cases hb:unV op (val E o1) with
 | none=>simp [hb] at h
 | some r=>
  simp [hb] at h; subst h
  have key:∃ v,r.prim=some v∧(Op.unary op (a.eval x)).run P w=.ok v w:=by
   unfold unV at hb
   split at hb
   ·rename_i k n e1
    cases hb
    rw [fO G hx e1]
    exact ⟨_,rfl,by simp [Op.unary,Op.intArith]⟩
   ·rename_i k n e1
    cases hb
    rw [fO G hx e1]
    refine ⟨_,rfl,?_⟩
    simp only [Op.unary,Op.intBits]
    rfl
   ·rename_i b e1
    cases hb
    rw [nW G hx e1]
    exact ⟨_,rfl,by simp [Op.unary]⟩
   ·cases hb
  obtain ⟨v,hp,hr⟩:=key
  refine bN (v:=v) ?_ hd (x5 G hdn hp)
  simp only [execOp,ho,Sem.run_bind,hr,Result.andThen_ok,Sem.run_pure]
theorem adU {s t:TypeId} {k0 k:IntKind} {x:Operand} {o1:O} {d:Nat} {E':Env} (ho:o.op=.convert s t x) (hd:o.dst=some d) (hdn:d<B.n)
  (hs:P.underlying s=some (.int k0)) (ht:P.underlying t=some (.int k)) (hx:OpdOk B.n x o1) (G:bB B hv w a E) (h:ev E (.conv d k o1)=some E'):o.wp P a w (fun a' w'=>bB B hv w' a' E') Q:=by
 simp only [ev] at h
 split at h
 ·rename_i k1 n e1
  cases h
  refine bN (v:=.int k (k.wrap n)) ?_ hd (iW G hdn _ _)
  rw [execOp,ho]
  simp only [fO G hx e1,convert,Sem.run_bind,run_underlying hs,run_underlying ht,Result.andThen_ok,Conv.intToInt,Sem.run_pure]
 ·cases h
theorem afS {c x y:Operand} {oc o1 o2:O} {d:Nat} {E':Env} (ho:o.op=.pick c x y) (hd:o.dst=some d) (hdn:d<B.n)
  (hc:OpdOk B.n c oc) (hx:OpdOk B.n x o1) (hy:OpdOk B.n y o2) (G:bB B hv w a E) (h:ev E (.pck d oc o1 o2)=some E'):o.wp P a w (fun a' w'=>bB B hv w' a' E') Q:=by
 simp only [ev] at h
 split at h
 ·rename_i t e1
  split at h
  ·cases h
  ·rename_i hown
   cases h
   have vc:=nW G hc e1
   simp only [lK4,not_or,Bool.not_eq_true] at hown
   refine bN (v:=if t then a.eval x else a.eval y) ?_ hd (fA G hdn ?_)
   ·rw [execOp,ho]
    simp only [vc,asBool,Sem.run_bind,Sem.run_pure,Result.andThen_ok]
   ·intro hid Fs Xs R
    cases t with
    | true=>
     obtain ⟨F,X,r,_,hX,_⟩:=bI R hx
     exact ⟨F,X,r,fC r (by simpa [bS] using hown.1),hX⟩
    | false=>
     obtain ⟨F,X,r,_,hX,_⟩:=bI R hy
     exact ⟨F,X,r,fC r (by simpa [bS] using hown.2),hX⟩
 ·cases h
theorem afT {x y:Operand} {o1 o2:O} {d:Nat} {E':Env} {ts:Array TypeId} (ho:o.op=.call ⟨.builtin .max,#[x,y],ts⟩) (hd:o.dst=some d) (hdn:d<B.n)
  (hx:OpdOk B.n x o1) (hy:OpdOk B.n y o2) (G:bB B hv w a E) (h:ev E (.mx d o1 o2)=some E'):o.wp P a w (fun a' w'=>bB B hv w' a' E') Q:=by
 simp only [ev] at h
 split at h
 ·rename_i k m k' n e1 e2
  cases h
  refine bN (v:=.int k (if n>m then n else m)) ?_ hd (iW G hdn _ _)
  rw [execOp,ho]
  simp [resolve,invoke,builtin,Builtin.max_,Builtin.max2,fO G hx e1,fO G hy e2]
 ·cases h
theorem afU {x y:Operand} {o1 o2:O} {d:Nat} {E':Env} {ts:Array TypeId} (ho:o.op=.call ⟨.builtin .min,#[x,y],ts⟩) (hd:o.dst=some d) (hdn:d<B.n)
  (hx:OpdOk B.n x o1) (hy:OpdOk B.n y o2) (G:bB B hv w a E) (h:ev E (.mn d o1 o2)=some E'):o.wp P a w (fun a' w'=>bB B hv w' a' E') Q:=by
 simp only [ev] at h
 split at h
 ·rename_i k m k' n e1 e2
  cases h
  refine bN (v:=.int k (if n<m then n else m)) ?_ hd (iW G hdn _ _)
  rw [execOp,ho]
  simp [resolve,invoke,builtin,Builtin.min_,Builtin.min2,fO G hx e1,fO G hy e2]
 ·cases h
theorem wF (R:Rel B hid w a E Fs Xs) {x:Operand} {o1:O} (hx:OpdOk B.n x o1) {s:Nat} {es:List (List TV)} (h:bA E (val E o1)=some (s,es)) :
  ∃ base cap,a.eval x=.slice base es.length cap∧∃ G cs,Row w false G cs es.flatten∧(∀ e ∈ es,e.length=s)∧(es≠[]→∃ ad,base=some ad∧(cs.length=es.length*s∧∀ k,k<cs.length→w.cell? (ad.add k)=cs[k]?)):=by
 obtain ⟨F,X,r,_⟩:=bI R hx
 have of_row:∀ (v:Value) (G:aH) (es:List (List TV)),Row w false G [v] [.sl s es]→∃ base cap,v=.slice base es.length cap∧∃ G cs,Row w false G cs es.flatten∧(∀ e ∈ es,e.length=s)∧(es≠[]→∃ ad,base=some ad∧(cs.length=es.length*s∧∀ k,k<cs.length→w.cell? (ad.add k)=cs[k]?)):=by
  intro v G es hr
  cases hr with
  | ext0 _ _ a' cap _ _ h=>exact ⟨a',cap,rfl,fun _=>0,[],.nil _ _ (fun _=>rfl),by simp,fun h=>absurd rfl h⟩
  | ext _ F1 F2 _ _ ad cap cs _ _ hle hes hcs hc h1 h hF=>exact ⟨some ad,cap,rfl,F1,cs,h1,hes,fun _=>⟨ad,rfl,hcs,hc⟩⟩
 have of_own:∀ (v:Value) (G:aH) (es:List (List TV)),Row w true G [v] [.sl s es]→∃ base cap,v=.slice base es.length cap∧∃ G cs,Row w false G cs es.flatten∧(∀ e ∈ es,e.length=s)∧(es≠[]→∃ ad,base=some ad∧(cs.length=es.length*s∧∀ k,k<cs.length→w.cell? (ad.add k)=cs[k]?)):=by
  intro v G es hr
  obtain ⟨G',g,_⟩:=hr.weak rfl
  exact of_row v G' es g
 generalize a.eval x=v at r ⊢
 have nodeC:∀ r e p q,aK E r e p=some q→∃ hd G,Row w true G [hd] [.sl q.1 q.2]∧aN w (aI a.tmps hid) E r e p=some (some hd):=by
  intro r e p q hn
  obtain ⟨s,es⟩:=q
  obtain ⟨he,hroot,hg⟩:=bP hn
  obtain ⟨hd,Fu,Fr,Xu,Xr,hF,hX,hu,hres,_⟩:=jN p (R.rep r) hg
  exact ⟨hd,Fu,(RepA.to_row hu rfl).1,by unfold aN; rw [if_neg (by omega),if_pos ⟨he,hroot,by rw [hg]; rfl⟩,hres]⟩
 generalize val E o1=av at r h
 cases av with
 | own s' es'=>
  simp only [bA,Option.some.injEq,Prod.mk.injEq] at h
  obtain ⟨rfl,rfl⟩:=h
  exact of_own _ _ _ (RepA.to_row r rfl).1
 | ext s' es'=>
  simp only [bA,Option.some.injEq,Prod.mk.injEq] at h
  obtain ⟨rfl,rfl⟩:=h
  cases r with | ext _ _ X1 _ _ _ _ _ _ h1 _ _=>exact of_row _ _ _ h1
 | extv v' s' es'=>
  simp only [bA,Option.some.injEq,Prod.mk.injEq] at h
  obtain ⟨rfl,rfl⟩:=h
  cases r with | extv _ _ X1 _ _ _ _ _ _ h1 _ _=>exact of_row _ _ _ h1
 | lnk r0 e p=>
  simp only [bA] at h
  obtain ⟨hd,G,g,hl⟩:=nodeC r0 e p _ h
  cases r with
  | lnk _ _ _ _ _ o _ _ _ ho hv _=>
   rw [hl] at ho; cases ho
   rw [hv hd rfl]; exact of_own _ _ _ g
 | sub r0 e p s' lo n=>
  simp only [bA] at h
  cases hn:aK E r0 e p with
  | none=>simp [hn] at h
  | some q=>
   simp [hn] at h
   obtain ⟨⟨hs,hle⟩,rfl,rfl⟩:=h
   obtain ⟨hd,G,g,hl⟩:=nodeC r0 e p _ hn
   cases r with
   | sub _ _ _ _ _ _ _ _ o _ _ _ ho hv _=>
    rw [hl] at ho; cases ho
    obtain ⟨base,len,cap,a',e1,e2,e3,e4⟩:=hv hd rfl
    rw [hs] at g
    obtain ⟨G',g',_⟩:=Row.cut g lo n hle a' base len cap e1 e4
    rw [e2]
    exact of_own _ _ _ g'
 | _=>simp [bA] at h
theorem adV {x:Operand} {o1:O} {d:Nat} {E':Env} {ts:Array TypeId} {t:TypeId} (h0:ts[0]?=some t) (ho:o.op=.call ⟨.builtin .len,#[x],ts⟩) (hd:o.dst=some d) (hdn:d<B.n)
  (hu:P.underlying t=some .string) (hx:OpdOk B.n x o1) (G:bB B hv w a E) (h:ev E (.lens d o1)=some E'):o.wp P a w (fun a' w'=>bB B hv w' a' E') Q:=by
 simp only [ev] at h
 split at h
 ·rename_i s e1
  cases h
  refine bN (v:=.int .i64 s.length) ?_ hd (iW G hdn _ _)
  rw [execOp,ho]
  simp [resolve,invoke,builtin,Builtin.len_,oT G hx e1,h0,run_underlying hu,c7,goInt]
  rfl
 ·cases h
theorem afV {x:Operand} {o1:O} {d:Nat} {E':Env} {ts:Array TypeId} {t el:TypeId} (h0:ts[0]?=some t) (ho:o.op=.call ⟨.builtin .len,#[x],ts⟩) (hd:o.dst=some d) (hdn:d<B.n)
  (hu:P.underlying t=some (.slice el)) (hx:OpdOk B.n x o1) (G:bB B hv w a E) (h:ev E (.len d o1)=some E'):o.wp P a w (fun a' w'=>bB B hv w' a' E') Q:=by
 simp only [ev] at h
 cases hr:bA E (val E o1) with
 | none=>simp [hr] at h
 | some q=>
  obtain ⟨s,es⟩:=q
  simp [hr] at h; subst h
  have G0:=G
  obtain ⟨hid,Fs,Xs,R,hh⟩:=G
  obtain ⟨base,cap,hv1,_⟩:=wF R hx hr
  refine bN (v:=.int .i64 es.length) ?_ hd (iW G0 hdn _ _)
  rw [execOp,ho]
  simp [resolve,invoke,builtin,Builtin.len_,hv1,h0,run_underlying hu,goInt]
theorem aiS {t:TypeId} {i:TypeInfo} (h:P.info? t=some i):(typeInfo t).run P w=.ok i w:=by
 unfold typeInfo; simp [h]
theorem iX {t:TypeId} {s:Nat} (h:oK P t=some s):(sizeOf t).run P w=.ok s w:=by
 unfold oK at h
 cases hi:P.info? t with
 | none=>simp [hi] at h
 | some i=>simp [hi] at h; unfold sizeOf; simp [aiS hi,h]
theorem akJ {lo:Bool} {F:aH} {cs:List Value} {s:Nat} {es:List (List TV)} (h:Row w lo F cs es.flatten) (hes:∀ e ∈ es,e.length=s) {i:Nat} {row:List TV} (hi:es[i]?=some row) :
  ∃ G,Row w lo G ((cs.drop (i*s)).take s) row∧∀ b,G b≤F b:=by
 have hlt:i<es.length:=(lI.1 hi).1
 have hrow:row.length=s:=hes row (lS2 hi)
 have hsplit:es=es.take i++row::es.drop (i+1):=by
  have:=(lI.1 hi).2
  rw [← this]; simp
 have hcl:cs.length=es.length*s:=by rw [h.length,bY _ hes]
 have hm:i*s+s≤cs.length:=by rw [hcl,← lP3]; exact lI1 _ hlt
 have hf:es.flatten=(es.take i).flatten++(row++(es.drop (i+1)).flatten):=by
  conv=>lhs; rw [hsplit]
  simp
 have h':Row w lo F (cs.take (i*s)++((cs.drop (i*s)).take s++cs.drop (i*s+s))) ((es.take i).flatten++(row++(es.drop (i+1)).flatten)):=by
  rw [← hf]
  have:cs.take (i*s)++((cs.drop (i*s)).take s++cs.drop (i*s+s))=cs:=by rw [← lW1,lJ,lJ]
  rw [this]; exact h
 obtain ⟨G1,G2,g1,g2,e1⟩:=Row.split _ _ (by rw [bY _ (fun e he=>hes e (lA2 he)),lT,lT,lK1 (by omega),lK1 (by omega)]) h'
 obtain ⟨G3,G4,g3,g4,e2⟩:=Row.split _ _ (by rw [lT,lH2,hrow,lK1 (by omega)]) g2
 exact ⟨G3,g3,fun b=>by have:=e1 b; have:=e2 b; omega⟩
theorem iK (a:Addr) (x y:Nat):(a.add x).add y=a.add (x+y):=by
 unfold Addr.add
 by_cases hx:x=0
 ·simp [hx]
 ·by_cases hy:y=0
  ·simp [hx,hy]
  ·simp [hx,hy]; omega
theorem pG {lk:Lk} {F:aH} {v:Value} {s:Nat} {es:List (List TV)} (h:Row w false F [v] [.sl s es]) {i:Nat} {row:List TV} (hi:es[i]?=some row) :
  ∃ ad cap X,v=.slice (some ad) es.length cap∧RepA w lk (fun _=>0) X [.pointer (some (ad.add (i*s)))] [.xbox row]∧∀ b,X b≤F b:=by
 cases h with
 | ext0=>simp at hi
 | ext _ F1 F2 _ _ ad cap cs _ _ hle hes hcs hc h1 h hF=>
  obtain ⟨G,g,hG⟩:=akJ h1 hes hi
  have hlt:i<es.length:=(lI.1 hi).1
  have hm:i*s+s≤cs.length:=by rw [hcs,← lP3]; exact lI1 _ hlt
  refine ⟨ad,cap,fun x=>(if x=ad.block then 1 else 0)+G x,rfl,.xbox _ _ G (fun _=>0) (ad.add (i*s)) ((cs.drop (i*s)).take s) row [] [] ?_ g RepA.znil (fun x=>by rw [iH]; simp),?_⟩
  ·intro k hk
   simp only [lT,lH2] at hk
   rw [iK,hc (i*s+k) (by omega),lJ1,lY1]
   rw [lF (by omega)]
  ·intro b; have:=hG b; have:=hF b; (try dsimp only); omega
theorem gJ (R:Rel B hid w a E Fs Xs) {r e:Nat} {p:a8} {s:Nat} {es:List (List TV)} (hn:aK E r e p=some (s,es)) :
  ∃ hd G,Row w true G [hd] [.sl s es]∧aN w (aI a.tmps hid) E r e p=some (some hd):=by
 obtain ⟨he,hroot,hg⟩:=bP hn
 obtain ⟨hd,Fu,Fr,Xu,Xr,hF,hX,hu,hres,_⟩:=jN p (R.rep r) hg
 exact ⟨hd,Fu,(RepA.to_row hu rfl).1,by unfold aN; rw [if_neg (by omega),if_pos ⟨he,hroot,by rw [hg]; rfl⟩,hres]⟩
theorem rT {G:aH} {hd:Value} {s:Nat} {es:List (List TV)} (h:Row w true G [hd] [.sl s es]) (hne:0<es.length):∃ ad cap,hd=.slice (some ad) es.length cap:=by
 rcases Row.sl_inv h with ⟨_,rfl,_⟩ | ⟨F1,b,off,cap,C,ty,fr,cs,hv1,_⟩
 ·simp at hne
 ·exact ⟨_,_,hv1⟩
theorem afW {t el:TypeId} {x y:Operand} {o1 o2:O} {d s:Nat} {E':Env} (ho:o.op=.indexAddr t x y) (hd:o.dst=some d) (hdn:d<B.n)
  (hu:P.underlying t=some (.slice el)) (hsz:oK P el=some s) (hx:OpdOk B.n x o1) (hy:OpdOk B.n y o2) (G:bB B hv w a E) (h:ev E (.idx d o1 o2 s)=some E') :
  o.wp P a w (fun a' w'=>bB B hv w' a' E') Q:=by
 simp only [ev] at h
 split at h
 case h_2=>cases h
 rename_i kk n e2
 have v2:=fO G hy e2
 have G0:=G
 have fin:∀ (ad:Addr) (len cap:Nat) (m:Nat) (x':AV),a.eval x=.slice (some ad) len cap→0≤n∧n<len→n.toNat=m→E'=E.put d x' →
   (∀ hid Fs Xs,Rel B hid w a E Fs Xs→∃ F X,RepA w (aN w (aI a.tmps hid) E) F X [.pointer (some (ad.add (m*s)))] [x']∧(∀ b,F b=0)∧∀ b,X b≠0→∃ t,Xs t b≠0) →
   o.wp P a w (fun a' w'=>bB B hv w' a' E') Q:=by
  intro ad len cap m x' e1 hb hm hE hr
  subst hE; subst hm
  refine bN (v:=.pointer (some (ad.add (n.toNat*s)))) ?_ hd (fA G0 hdn hr)
  rw [execOp,ho]
  simp only [v2,e1,Instr.indexAt,asIntOf,Sem.run_bind,Sem.run_pure,Result.andThen_ok,run_underlying hu,iX hsz]
  rw [lF hb]
  simp [iX hsz]
 obtain ⟨hid,Fs,Xs,R,hh⟩:=G
 obtain ⟨F,X,r,_,hX,_⟩:=bI R hx
 split at h
 ·rename_i s' es e1
  split at h
  case isFalse=>cases h
  rename_i hc
  obtain ⟨rfl,hb⟩:=hc
  cases hi:es[n.toNat]? with
  | none=>simp [hi] at h
  | some row=>
   simp [hi] at h
   rw [e1] at r
   generalize hve:a.eval x=v at r
   cases r with
   | ext _ _ X1 X2 _ _ _ _ _ h1 hh2 hXX=>
    obtain ⟨ad,cap,X',e3,_,hX'⟩:=pG (lk:=lk0) h1 hi
    refine fin ad es.length cap n.toNat (.xbox row) (hve.trans e3) hb rfl h.symm ?_
    intro hid' Fs' Xs' R'
    obtain ⟨F',X',r',_,hX',_⟩:=bI R' hx
    rw [e1,hve] at r'
    cases r' with
    | ext _ _ Y1 Y2 _ _ _ _ _ k1 kh2 kXX=>
     obtain ⟨ad',cap',X'',e3',g,hX''⟩:=pG (lk:=aN w (aI a.tmps hid') E) k1 hi
     rw [e3] at e3'; cases e3'
     exact ⟨_,_,g,fun _=>rfl,fun b hb=>hX' b (by have:=hX'' b; have:=kXX b; omega)⟩
 ·rename_i v0 s' es e1
  split at h
  case isFalse=>cases h
  rename_i hc
  obtain ⟨rfl,hb⟩:=hc
  cases hi:es[n.toNat]? with
  | none=>simp [hi] at h
  | some row=>
   simp [hi] at h
   rw [e1] at r
   generalize hve:a.eval x=v at r
   cases r with
   | extv _ _ X1 X2 _ _ _ _ _ h1 hh2 hXX=>
    obtain ⟨ad,cap,X',e3,_,hX'⟩:=pG (lk:=lk0) h1 hi
    refine fin ad es.length cap n.toNat (.xbox row) (hve.trans e3) hb rfl h.symm ?_
    intro hid' Fs' Xs' R'
    obtain ⟨F',X',r',_,hX',_⟩:=bI R' hx
    rw [e1,hve] at r'
    cases r' with
    | extv _ _ Y1 Y2 _ _ _ _ _ k1 kh2 kXX=>
     obtain ⟨ad',cap',X'',e3',g,hX''⟩:=pG (lk:=aN w (aI a.tmps hid') E) k1 hi
     rw [e3] at e3'; cases e3'
     exact ⟨_,_,g,fun _=>rfl,fun b hb=>hX' b (by have:=hX'' b; have:=kXX b; omega)⟩
 ·rename_i r0 e p e1
  cases hn:aK E r0 e p with
  | none=>simp [hn] at h
  | some q=>
   obtain ⟨s',es⟩:=q
   simp [hn] at h
   obtain ⟨⟨hs',hb⟩,hE⟩:=h
   subst hs'
   obtain ⟨hd1,G1,g1,hl⟩:=gJ R hn
   obtain ⟨ad,cap,e3⟩:=rT g1 (by omega)
   rw [e1] at r
   have hve:a.eval x=hd1:=by
    generalize a.eval x=v at r
    cases r with | lnk _ _ _ _ _ o _ _ _ ho' hv' _=>rw [hl] at ho'; cases ho'; exact hv' hd1 rfl
   refine fin ad es.length cap n.toNat _ (hve.trans e3) hb rfl hE.symm ?_
   intro hid' Fs' Xs' R'
   obtain ⟨hd2,G2,g2,hl2⟩:=gJ R' hn
   have:hd2=hd1:=by
    obtain ⟨F',X',r',_,hX',_⟩:=bI R' hx
    rw [e1,hve] at r'
    cases r' with | lnk _ _ _ _ _ o _ _ _ ho' hv' _=>rw [hl2] at ho'; cases ho'; exact (hv' hd2 rfl).symm
   subst this
   exact ⟨fun _=>0,fun _=>0,.ref _ _ _ _ _ ⟨n.toNat,s',0⟩ _ _ _ _ hl2 (fun u hu=>by cases hu; exact ⟨ad,by rw [e3]; rfl,rfl⟩) RepA.znil,fun _=>rfl,fun b hb=>absurd rfl hb⟩
 ·rename_i r0 e p s' lo m e1
  cases hn:aK E r0 e p with
  | none=>simp [hn] at h
  | some q=>
   obtain ⟨s2,es⟩:=q
   simp [hn] at h
   obtain ⟨⟨hs2,hs',hb0,hb1,hle⟩,hE⟩:=h
   subst hs2; subst hs'
   obtain ⟨hd1,G1,g1,hl⟩:=gJ R hn
   obtain ⟨ad,cap,e3⟩:=rT g1 (by omega)
   rw [e1] at r
   have hcap:es.length≤cap:=by
    rcases Row.sl_inv g1 with ⟨q1,_,_⟩ | ⟨F1,b,off,cap',C,ty,fr,cs,hv1,_,_,_,hle',_⟩
    ·rw [e3] at q1; cases q1
    ·rw [e3] at hv1; cases hv1; exact hle'
   have hve:a.eval x=.slice (some (ad.add (lo*s'))) m (cap-lo):=by
    generalize a.eval x=v at r
    cases r with
    | sub _ _ _ _ _ _ _ _ o _ _ _ ho' hv' _=>
     rw [hl] at ho'; cases ho'
     obtain ⟨base,len,cap',a',q1,q2,q3,q4⟩:=hv' hd1 rfl
     rw [e3] at q1; cases q1
     rcases q4 with rfl | ⟨q5,_⟩
     ·rw [q2]; rfl
     ·omega
   refine fin (ad.add (lo*s')) m (cap-lo) n.toNat _ hve ⟨hb0,hb1⟩ rfl hE.symm ?_
   intro hid' Fs' Xs' R'
   obtain ⟨hd2,G2,g2,hl2⟩:=gJ R' hn
   obtain ⟨ad2,cap2,e32⟩:=rT g2 (by omega)
   obtain ⟨F',X',r',_,hX',_⟩:=bI R' hx
   rw [e1,hve] at r'
   have:(ad2.add (lo*s'))=ad.add (lo*s'):=by
    cases r' with
    | sub _ _ _ _ _ _ _ _ o _ _ _ ho' hv' _=>
     rw [hl2] at ho'; cases ho'
     obtain ⟨base,len,cap',a',q1,q2,q3,q4⟩:=hv' hd2 rfl
     rw [e32] at q1; cases q1
     have q2:=(Value.slice.inj q2).1
     rcases q4 with q4 | ⟨q5,_⟩
     ·rw [← q2] at q4; simp at q4; exact q4.symm
     ·have hcap2:es.length≤cap2:=by
       rcases Row.sl_inv g2 with ⟨q1,_,_⟩ | ⟨F1,b,off,cap',C,ty,fr,cs,hv1,_,_,_,hle',_⟩
       ·rw [e32] at q1; cases q1
       ·rw [e32] at hv1; cases hv1; exact hle'
      omega
   refine ⟨fun _=>0,fun _=>0,?_,fun _=>rfl,fun b hb=>absurd rfl hb⟩
   have hadd:(ad.add (lo*s')).add (n.toNat*s')=ad2.add ((lo+n.toNat)*s' + 0):=by
    rw [← this,iK]; congr 1; rw [lZ2]; rfl
   rw [hadd]
   exact .ref _ _ _ _ _ ⟨lo+n.toNat,s',0⟩ _ _ _ _ hl2 (fun u hu=>by cases hu; exact ⟨ad2,by rw [e32]; rfl,rfl⟩) RepA.znil
 ·rename_i s' es e1
  cases o1 with
  | c y=>cases h
  | t m=>
   dsimp only at h
   split at h
   case isFalse=>cases h
   rename_i hc
   obtain ⟨rfl,hmd,hb⟩:=hc
   simp only [Option.some.injEq] at h
   simp only [val] at e1
   have hlk:∀ hid',aN w (aI a.tmps hid') E m (E.ep m).1 []=some (some (aI a.tmps hid' m)):=by
    intro hid'
    unfold aN; rw [if_neg (by simp [fM]),if_pos ⟨by simp [fM],by rw [e1]; rfl,by rw [e1]; rfl⟩]; rfl
   have hm:∀ hid',a.eval x=aI a.tmps hid' m:=by
    intro hid'
    cases hx with | tmp _ ht=>exact kW (by rw [R.size]; exact ht)
   simp only [val,e1] at r
   rw [hm hid] at r
   obtain ⟨ad,cap,e3⟩:=rT (RepA.to_row r rfl).1 (by omega)
   refine fin ad es.length cap n.toNat _ ((hm hid).trans e3) hb rfl h.symm ?_
   intro hid' Fs' Xs' R'
   have hh2:hdr (aI a.tmps hid' m)=some ad:=by rw [← hm hid',hm hid,e3]; rfl
   refine ⟨fun _=>0,fun _=>0,.ref _ _ _ _ _ ⟨n.toNat,s',0⟩ _ _ _ _ (hlk hid') (fun u hu=>by have:=Option.some.inj hu; subst this; exact ⟨ad,hh2,rfl⟩) RepA.znil,fun _=>rfl,fun b hb=>absurd rfl hb⟩
 ·cases h
theorem yB {t:TypeId} {g:Bool} (h:aiN P t=some g):(isAgg t).run P w=.ok g w:=by
 unfold aiN at h
 cases hu:P.underlying t with
 | none=>simp [hu] at h
 | some d=>
  simp only [hu,lB,Option.some.injEq] at h
  unfold isAgg
  simp only [Sem.run_bind,run_underlying hu,Result.andThen_ok]
  cases d <;> simp_all
theorem afX (R:Rel B hid w a E Fs Xs) {r e:Nat} {p:a8} (h:vld E r e p=true):∃ u,aN w (aI a.tmps hid) E r e p=some (some u):=by
 unfold vld at h
 simp only [lN,beq_iff_eq,lA1] at h
 obtain ⟨⟨he,hr⟩,x,hg⟩:=h
 obtain ⟨hd,Fu,Fr,Xu,Xr,hF,hX,hu,hres,_⟩:=jN p (R.rep r) hg
 exact ⟨hd,by unfold aN; rw [if_neg (by omega),if_pos ⟨he,hr,by rw [hg]; rfl⟩,hres]⟩
theorem afY {t:TypeId} {fs:Array Field} {f s:Nat} {g:Field} {x:Operand} {o1:O} {d:Nat} {E':Env} (ho:o.op=.fieldAddr t x f) (hd:o.dst=some d) (hdn:d<B.n)
  (hu:P.underlying t=some (.struct fs)) (hf:fs[f]?=some g) (hs:oK P g.type=some s) (hs0:s≠0) (hx:OpdOk B.n x o1) (G:bB B hv w a E) (h:ev E (.fld d o1 g.offset)=some E') :
  o.wp P a w (fun a' w'=>bB B hv w' a' E') Q:=by
 simp only [ev] at h
 have fin:∀ (ad:Addr) (x':AV),a.eval x=.pointer (some ad)→E'=E.put d x' →
   (∀ hid Fs Xs,Rel B hid w a E Fs Xs→∃ F X,RepA w (aN w (aI a.tmps hid) E) F X [.pointer (some (ad.add g.offset))] [x']∧(∀ b,F b=0)∧∀ b,X b≠0→∃ t,Xs t b≠0) →
   o.wp P a w (fun a' w'=>bB B hv w' a' E') Q:=by
  intro ad x' e1 hE hr
  subst hE
  refine bN (v:=.pointer (some (ad.add g.offset))) ?_ hd (fA G hdn hr)
  rw [execOp,ho]
  simp only [e1,Instr.fieldAt,Instr.sureAddr,fieldPlace,Sem.run_bind,Sem.run_pure,Result.andThen_ok,run_underlying hu,hf,iX hs,hs0,lG1]
 have G0:=G
 obtain ⟨hid,Fs,Xs,R,hh⟩:=G
 obtain ⟨F,X,r,_,hX,_⟩:=bI R hx
 split at h
 ·rename_i cs e1
  split at h
  case isFalse=>cases h
  rename_i hle
  cases h
  rw [e1] at r
  have:∃ ad,a.eval x=.pointer (some ad):=by
   generalize a.eval x=v at r
   cases r with | xbox _ _ _ _ ad _ _ _ _ _ _ _ _=>exact ⟨ad,rfl⟩
  obtain ⟨ad,hve⟩:=this
  refine fin ad _ hve rfl ?_
  intro hid' Fs' Xs' R'
  obtain ⟨F',X',r',_,hX',_⟩:=bI R' hx
  rw [e1,hve] at r'
  cases r' with
  | xbox _ _ X1 X2 _ us _ _ _ hc h1 h2 hXX=>
   have hl:=h1.length
   have:Row w false X1 (us.take g.offset++us.drop g.offset) (cs.take g.offset++cs.drop g.offset):=by rw [lJ,lJ]; exact h1
   obtain ⟨A1,A2,q1,q2,e⟩:=Row.split _ _ (by simp [hl]) this
   refine ⟨fun _=>0,fun x=>(if x=ad.block then 1 else 0)+A2 x,.xbox _ _ A2 (fun _=>0) (ad.add g.offset) (us.drop g.offset) (cs.drop g.offset) [] [] ?_ q2 RepA.znil (fun x=>by rw [iH]; simp),fun _=>rfl,?_⟩
   ·intro k hk
    simp at hk
    rw [iK,hc _ (by omega),lY1]
   ·intro b hb
    refine hX' b ?_
    have:=hXX b; have:=e b
    (try dsimp only at hb); omega
 ·rename_i r0 e p st e1
  split at h
  case isFalse=>cases h
  rename_i hvl
  cases h
  rw [e1] at r
  obtain ⟨u,hu⟩:=afX R hvl
  generalize hve:a.eval x=v at r
  cases r with
  | ref _ _ _ _ _ _ oo _ _ _ ho1 hv1 _=>
   rw [hu] at ho1; cases ho1
   obtain ⟨ad,q1,q2⟩:=hv1 u rfl
   refine fin _ _ (hve.trans q2) rfl ?_
   intro hid' Fs' Xs' R'
   obtain ⟨F',X',r',_,hX',_⟩:=bI R' hx
   rw [e1,hve] at r'
   cases r' with
   | ref _ _ _ _ _ _ oo' _ _ _ ho2 hv2 _=>
    refine ⟨fun _=>0,fun _=>0,.ref _ _ _ _ _ ⟨st.i,st.s,st.j+g.offset⟩ oo' _ _ _ ho2 ?_ RepA.znil,fun _=>rfl,fun b hb=>absurd rfl hb⟩
    intro u' hu'
    obtain ⟨ad',q1',q2'⟩:=hv2 u' hu'
    refine ⟨ad',q1',?_⟩
    rw [q2] at q2'
    have:=Option.some.inj (Value.pointer.inj q2')
    rw [this,iK,Nat.add_assoc]
 ·cases h
theorem afZ {x:Operand} {o1:O} {d:Nat} {E':Env} (ho:o.op=.nilCheck x) (hd:o.dst=some d) (hdn:d<B.n)
  (hx:OpdOk B.n x o1) (G:bB B hv w a E) (h:ev E (.nck d o1)=some E'):o.wp P a w (fun a' w'=>bB B hv w' a' E') Q:=by
 simp only [ev] at h
 have fin:∀ (ad:Addr),a.eval x=.pointer (some ad)→(val E o1).owns=false→E'=E.put d (val E o1)→o.wp P a w (fun a' w'=>bB B hv w' a' E') Q:=by
  intro ad e1 hown hE
  subst hE
  refine bN (v:=.pointer (some ad)) ?_ hd (fA G hdn ?_)
  ·rw [execOp,ho]; simp only [e1]; rfl
  ·intro hid' Fs' Xs' R'
   obtain ⟨F',X',r',_,hX',_⟩:=bI R' hx
   rw [e1] at r'
   exact ⟨F',X',r',fC r' (by simpa [bS] using hown),hX'⟩
 have G0:=G
 obtain ⟨hid,Fs,Xs,R,hh⟩:=G
 obtain ⟨F,X,r,_,hX,_⟩:=bI R hx
 split at h
 ·rename_i r0 e p st e1
  split at h
  case isFalse=>cases h
  rename_i hvl
  cases h
  obtain ⟨u,hu⟩:=afX R hvl
  have:∃ ad,a.eval x=.pointer (some ad):=by
   rw [e1] at r
   generalize a.eval x=v at r
   cases r with
   | ref _ _ _ _ _ _ oo _ _ _ ho1 hv1 _=>
    rw [hu] at ho1; cases ho1
    obtain ⟨ad,q1,q2⟩:=hv1 u rfl
    exact ⟨_,q2⟩
  obtain ⟨ad,hve⟩:=this
  exact fin ad hve (by rw [e1]; rfl) (by rw [e1])
 ·rename_i cs e1
  cases h
  have:∃ ad,a.eval x=.pointer (some ad):=by
   rw [e1] at r
   generalize a.eval x=v at r
   cases r with | xbox _ _ _ _ ad _ _ _ _ _ _ _ _=>exact ⟨ad,rfl⟩
  obtain ⟨ad,hve⟩:=this
  exact fin ad hve (by rw [e1]; rfl) (by rw [e1])
 ·rename_i f cs e1
  split at h
  ·cases h
  ·rename_i hown
   cases h
   have:∃ us:List Value,a.eval x=.func (.func f) #[] us.toArray:=by
    rw [e1] at r
    generalize a.eval x=v at r
    cases r with | fn _ _ _ _ _ _ _ us _ _ _ _ _ _ _=>exact ⟨us,rfl⟩
   obtain ⟨us,hve⟩:=this
   refine bN (v:=.func (.func f) #[] us.toArray) ?_ hd (fA G0 hdn ?_)
   ·rw [execOp,ho]; simp only [hve]; rfl
   ·intro hid' Fs' Xs' R'
    obtain ⟨F',X',r',_,hX',_⟩:=bI R' hx
    rw [e1,hve] at r'
    exact ⟨F',X',r',fC r' (by simpa [bS,AV.owns] using hown),hX'⟩
 ·cases h
theorem RepA.part {lk:Lk} {F X:aH} {us:List Value} {cs:List AV} (h:RepA w lk F X us cs) (i n:Nat) :
  ∃ G Y,RepA w lk G Y ((us.drop i).take n) ((cs.drop i).take n)∧(∀ b,G b≤F b)∧∀ b,Y b≤X b:=by
 have hl:=h.length
 have h1:RepA w lk F X (us.take i++us.drop i) (cs.take i++cs.drop i):=by rw [lJ,lJ]; exact h
 obtain ⟨A1,A2,Y1,Y2,q1,q2,e1,e2⟩:=RepA.split _ _ (by simp [hl]) h1
 have h2:RepA w lk A2 Y2 ((us.drop i).take n++(us.drop i).drop n) ((cs.drop i).take n++(cs.drop i).drop n):=by rw [lJ,lJ]; exact q2
 obtain ⟨A3,A4,Y3,Y4,q3,q4,e3,e4⟩:=RepA.split _ _ (by simp [hl]) h2
 exact ⟨A3,Y3,q3,fun b=>by have:=e1 b; have:=e3 b; omega,fun b=>by have:=e2 b; have:=e4 b; omega⟩
theorem RepA.oneOf {lk:Lk} {F X:aH} {us:List Value} {cs:List AV} {ag:Bool} {x:AV} (h:RepA w lk F X us cs) (ho:oneOf cs ag=some x) :
  ∃ v,RepA w lk F X [v] [x]∧(ag=true→v=.agg us.toArray)∧(ag=false→us=[v]):=by
 unfold Awp.oneOf at ho
 split at ho
 ·rename_i hag
  cases ho
  exact ⟨.agg us.toArray,.agg _ F (fun _=>0) _ X (fun _=>0) us cs [] [] h RepA.znil (fun x=>by simp) (fun x=>by simp),fun _=>rfl,fun e=>by simp_all⟩
 ·split at ho
  ·rename_i hag y
   cases ho
   have hl:=h.length
   match us,hl,h with
   | [v],_,h=>exact ⟨v,h,fun e=>by simp_all,fun _=>rfl⟩
  ·cases ho
theorem adW {t:TypeId} {fs:Array Field} {f s:Nat} {g:Field} {ag:Bool} {x:Operand} {o1:O} {d:Nat} {E':Env} (ho:o.op=.field t x f) (hd:o.dst=some d) (hdn:d<B.n)
  (hu:P.underlying t=some (.struct fs)) (hf:fs[f]?=some g) (hs:oK P g.type=some s) (hag:aiN P g.type=some ag) (hx:OpdOk B.n x o1) (G:bB B hv w a E) (h:ev E (.fldv d o1 g.offset s ag)=some E') :
  o.wp P a w (fun a' w'=>bB B hv w' a' E') Q:=by
 simp only [ev] at h
 obtain ⟨hid,Fs,Xs,R,hh⟩:=G
 obtain ⟨Fs',Xs',FP',XP',P'⟩:=fX hx (PR.nil R)
 split at h
 case h_2=>cases h
 rename_i cs E1 e1
 split at h
 case isFalse=>cases h
 rename_i hle
 cases hq:oneOf ((cs.drop g.offset).take s) ag with
 | none=>simp [hq] at h
 | some y=>
  simp [hq] at h; subst h
  simp only [e1,lD1] at P'
  obtain ⟨zs,hve,hz,hr⟩:=RepA.open_agg (us:=[]) (ys:=[]) (vs:=[]) (xs:=[]) rfl P'.rep
  simp only [lD1,lU2] at hr
  obtain ⟨G1,Y1,hp,hG,hY⟩:=hr.part g.offset s
  obtain ⟨v,hv1,hv2,hv3⟩:=hp.oneOf hq
  have P2:PR B hid w a E1 Fs' Xs' G1 Y1 [v] [y]:=P'.shrink hv1 hG hY
  refine bN (v:=v) ?_ hd (bD P2 hh hdn)
  rw [execOp,ho]
  simp only [hve,Instr.field,Sem.run_bind,run_underlying hu,Result.andThen_ok,hf,asAgg,Sem.run_pure,part,yB hag,iX hs]
  cases ag with
  | true=>
   have:=hv2 rfl
   subst this
   simp [iX hs]
  | false=>
   have hus:=hv3 rfl
   have hget:zs[g.offset]?=some v:=by
    have:((zs.drop g.offset).take s)[0]?=some v:=by rw [hus]; rfl
    rw [lJ1] at this
    split at this
    ·simpa using this
    ·cases this
   simp [hget]
theorem aaZ (p q:a8):∀ (t u:TV),jK t p=some u→jK t (p++q)=jK u q:=by
 induction p with
 | nil=>intro t u h; simp [jK] at h; subst h; rfl
 | cons st p ih=>
  intro t u h
  cases t with
  | sl s es=>
   simp only [jK,lT1] at h ⊢
   split at h
   case isFalse=>cases h
   rename_i hs
   simp only [hs,lP]
   cases h1:es[st.i]? with
   | none=>simp [h1] at h
   | some row=>
    cases h2:row[st.j]? with
    | none=>simp [h1,h2] at h
    | some t1=>
     simp [h1,h2] at h ⊢
     exact ih t1 u h
  | _=>simp [jK] at h
theorem ale (t:TV) (q:a8):cA t.av q=(jK t q).map TV.av:=by
 cases t <;> cases q <;> simp [TV.av,cA,jK]
theorem aa0 (p q:a8):∀ (x u:AV),cA x p=some u→cA x (p++q)=cA u q:=by
 induction p with
 | nil=>
  intro x u h
  have e:∀ x:AV,cA x []=some x:=fun x=>by cases x <;> rfl
  rw [e] at h; cases h; rfl
 | cons st p ih=>
  intro x u h
  cases x with
  | own s es=>
   simp only [cA,lT1] at h ⊢
   cases ht:jK (.sl s es) (st::p) with
   | none=>simp [ht] at h
   | some t=>
    simp [ht] at h; subst h
    have:=aaZ (st::p) q _ _ ht
    rw [lT1] at this
    rw [this,ale]
  | box cs=>
   simp only [cA,lT1] at h ⊢
   split at h
   case isFalse=>cases h
   rename_i hi
   simp only [hi,lP]
   cases hj:cs[st.j]? with
   | none=>simp [hj] at h
   | some c=>simp [hj] at h ⊢; exact ih c u h
  | _=>simp [cA] at h
theorem sP (p q:a8):∀ (v:Value),iI w v (p++q)=(iI w v p).bind (iI w · q):=by
 induction p with
 | nil=>intro v; simp [iI]
 | cons st p ih=>
  intro v
  rw [lT1]
  cases v with
  | slice b len cap=>cases b with
   | none=>rfl
   | some ad=>simp only [iI]; cases w.cell? (ad.add (st.i*st.s+st.j)) <;> simp [ih]
  | pointer b=>cases b with
   | none=>rfl
   | some ad=>simp only [iI]; cases w.cell? (ad.add (st.i*st.s+st.j)) <;> simp [ih]
  | _=>rfl
theorem amP {lk:Lk} {X:aH} {us:List Value} {cs:List TV} {lo:Bool} (h:Row w lo X us cs):lo=false→RepA w lk (fun _=>0) X us (cs.map TV.xv):=by
 induction h with
 | nil lo F h=>intro _; exact .nil _ _ (fun _=>rfl) h
 | undef lo F v vs ts h ih=>intro e; exact .undef _ _ _ _ _ (ih e)
 | bool lo F x vs ts h ih=>intro e; exact .bool _ _ _ _ _ (ih e)
 | int lo F k n vs ts h ih=>intro e; exact .int _ _ _ _ _ _ (ih e)
 | str lo F s vs ts h ih=>intro e; exact .str _ _ _ _ _ (ih e)
 | own0 F s vs ts h ih=>intro e; cases e
 | ext0 F s a' cap vs ts h ih=>intro e; exact .ext _ _ (fun _=>0) F s [] _ _ _ (.ext0 _ s a' cap [] [] (.nil _ _ (fun _=>rfl))) (ih e) (fun x=>by simp)
 | own F F1 F2 s es b off cap C ty fr cs vs ts hb hfr hcap hle hes hcs hc h1 h hF ih1 ih=>intro e; cases e
 | ext F F1 F2 s es ad cap cs vs ts hle hes hcs hc h1 h hF ih1 ih=>
  intro e
  exact .ext _ _ (fun x=>(if x=ad.block then 1 else 0)+F1 x) F2 s es _ _ _ (.ext _ F1 (fun _=>0) s es ad cap cs [] [] hle hes hcs hc h1 (.nil _ _ (fun _=>rfl)) (fun x=>by simp)) (ih e) hF
theorem af0 (R:Rel B hid w a E Fs Xs) {r e:Nat} {p:a8} {u c:AV} {st:St} {hd v:Value} (he:e=fM (E.ep r) p) (hr:(E.f r).isRoot=true) (hg:cA (E.f r) p=some u)
  (hl:aN w (aI a.tmps hid) E r e p=some (some hd)) (hc:cA u [st]=some c) (hv:iI w hd [st]=some v) :
  aN w (aI a.tmps hid) E r (E.ep r).2 (p++[st])=some (some v):=by
 have hne:(p++[st]).isEmpty=false:=by cases p <;> rfl
 have h1:cA (E.f r) (p++[st])=some c:=by rw [aa0 p [st] _ _ hg,hc]
 have h2:iI w (aI a.tmps hid r) p=some hd:=by
  unfold aN at hl
  rw [lK (by omega),lF ⟨he,hr,by rw [hg]; rfl⟩] at hl
  exact Option.some.inj hl
 unfold aN
 have hcur:fM (E.ep r) (p++[st])=(E.ep r).2:=by unfold fM; rw [hne]; rfl
 rw [hcur,lK (by omega),lF ⟨rfl,hr,by rw [h1]; rfl⟩,sP,h2]
 simp [hv]
theorem af1 {lk:Lk} {r e:Nat} {p:a8}:∀ (cs:List AV) (j:Nat) (us:List Value) (F X:aH),RepA w lk F X us cs →
  (∀ k v,us[k]?=some v→(∃ s es,cs[k]?=some (.own s es))→lk r e (p++[⟨0,0,j+k⟩])=some (some v))→bS (dL r e p j cs)=false →
  ∃ G,RepA w lk G X us (dL r e p j cs):=by
 intro cs
 induction cs with
 | nil=>
  intro j us F X h _ _
  cases h with | nil _ _ hF hX=>exact ⟨F,.nil _ _ hF hX⟩
 | cons c cs ih=>
  intro j us F X h hl ho
  cases us with
  | nil=>have:=h.length; simp at this
  | cons u us=>
   obtain ⟨F1,F2,X1,X2,h1,h2,eF,eX⟩:=h.uncons
   have hl':∀ k v,us[k]?=some v→(∃ s es,cs[k]?=some (.own s es))→lk r e (p++[⟨0,0,j+1+k⟩])=some (some v):=by
    intro k v hk he
    have:=hl (k+1) v (by simpa using hk) (by simpa using he)
    rw [show j+1+k=j+(k+1) by omega]; exact this
   cases c with
   | own s es=>
    simp only [dL,bS,AV.owns,lT4] at ho ⊢
    obtain ⟨G,g⟩:=ih (j+1) us F2 X2 h2 hl' ho
    have hx0:∀ b,X1 b=0:=(RepA.to_row h1 rfl).2
    have hq:=hl 0 u (by simp) ⟨s,es,by simp⟩
    exact ⟨G,.lnk _ _ _ _ _ _ _ _ _ (by simpa using hq) (fun z hz=>by cases hz; rfl) (g.foot (fun b=>rfl) (fun b=>by rw [eX,hx0]; omega))⟩
   | _=>
    simp only [dL,bS,lY3] at ho ⊢
    obtain ⟨G,g⟩:=ih (j+1) us F2 X2 h2 hl' ho.2
    exact ⟨_,RepA.cons h1 g (fun _=>rfl) eX⟩
theorem af2 {lk:Lk} {r e i s:Nat} {p:a8}:∀ (ts:List TV) (j:Nat) (us:List Value) (F:aH),Row w true F us ts →
  (∀ k v,us[k]?=some v→(∃ s' es,ts[k]?=some (.sl s' es))→lk r e (p++[⟨i,s,j+k⟩])=some (some v)) →
  RepA w lk (fun _=>0) (fun _=>0) us (m0 r e p i s j ts):=by
 intro ts
 induction ts with
 | nil=>
  intro j us F h _
  cases h with | nil _ _ hF=>exact RepA.znil
 | cons c cs ih=>
  intro j us F h hl
  cases us with
  | nil=>have:=h.length; simp at this
  | cons u us=>
   obtain ⟨F1,F2,h1,h2,eF⟩:=h.uncons
   have g:=ih (j+1) us F2 h2 (by
    intro k v hk he
    have:=hl (k+1) v (by simpa using hk) (by simpa using he)
    rw [show j+1+k=j+(k+1) by omega]; exact this)
   cases c with
   | sl s' es=>
    simp only [m0]
    have hq:=hl 0 u (by simp) ⟨s',es,by simp⟩
    exact .lnk _ _ _ _ _ _ _ _ _ (by simpa using hq) (fun z hz=>by cases hz; rfl) g
   | undef=>exact .undef _ _ _ _ _ g
   | bool b=>cases h1 with | bool _ _ _ _ _ _=>exact .bool _ _ _ _ _ g
   | int k n=>cases h1 with | int _ _ _ _ _ _ _=>exact .int _ _ _ _ _ _ g
   | str z=>cases h1 with | str _ _ _ _ _ _=>exact .str _ _ _ _ _ g
theorem aa1 (R:Rel B hid w a E Fs Xs) {r e sz:Nat} {p:a8} {st:St} {cs:List AV} (h:jF E r e p st sz=some cs) :
  ∃ hd ad us X,aN w (aI a.tmps hid) E r e p=some (some hd)∧hdr hd=some ad∧us.length=sz∧(∀ k v,us[k]?=some v→w.cell? ((ad.add (st.i*st.s+st.j)).add k)=some v) ∧
   (bS cs=false→∃ G,RepA w (aN w (aI a.tmps hid) E) G X us cs)∧∀ b,X b≤Xs r b:=by
 unfold jF at h
 split at h
 case isFalse=>cases h
 rename_i he
 split at h
 ·rename_i cs0 hr hg
  split at h
  case isFalse=>cases h
  rename_i hle
  cases h
  obtain ⟨hd,Fu,Fr,Xu,Xr,hF,hX,hu,hres,_⟩:=jN p (R.rep r) hg
  have hl:aN w (aI a.tmps hid) E r e p=some (some hd):=by unfold aN; rw [if_neg (by omega),if_pos ⟨he,hr,by rw [hg]; rfl⟩,hres]
  cases hu with
  | box _ F1 F2 _ X1 X2 b C ty fr _ _ _ hb hfr h1 h2 hFF hXX=>
   have hlen:=h1.length
   simp only [lP1] at hlen
   obtain ⟨G,Y,hp,hG,hY⟩:=h1.part st.j sz
   have hcell:∀ j v,C[j]?=some v→w.cell? ((⟨b,0,none⟩:Addr).add j)=some v:=by
    intro j v hj
    unfold Addr.add
    by_cases e0:j=0
    ·rw [e0] at hj; simp [e0,World.cell?,hb,hj]
    ·simp [e0,World.cell?,hb,hj]
   have hus:∀ k v,(((C.toList.drop st.j).take sz))[k]?=some v→C[st.j+k]?=some v:=by
    intro k v hk
    rw [lJ1] at hk
    split at hk
    ·simpa using hk
    ·cases hk
   refine ⟨_,⟨b,0,none⟩,(C.toList.drop st.j).take sz,Y,hl,rfl,by simp; omega,?_,?_,fun x=>by have:=hY x; have:=hX x; have:=hXX x; omega⟩
   ·intro k v hk
    rw [iK,hle.1,lA4,lF2]
    exact hcell _ _ (hus k v hk)
   ·intro ho
    refine af1 _ _ _ _ _ hp ?_ ho
    intro k v hk hown
    obtain ⟨s,es,hown⟩:=hown
    have hc2:cs0[st.j+k]?=some (.own s es):=by
     rw [lJ1] at hown
     split at hown
     ·simpa using hown
     ·cases hown
    refine af0 R he hr hg hl (st:=⟨0,0,st.j+k⟩) (c:=.own s es) ?_ ?_
    ·simp [cA,hc2]
    ·simp [iI,hcell _ _ (hus k v hk)]
 ·rename_i s es hr hg
  split at h
  case isFalse=>cases h
  rename_i hs
  cases hi:es[st.i]? with
  | none=>simp [hi] at h
  | some row=>
   simp [hi] at h
   obtain ⟨hle,rfl⟩:=h
   obtain ⟨hd,Fu,Fr,Xu,Xr,hF,hX,hu,hres,_⟩:=jN p (R.rep r) hg
   have hl:aN w (aI a.tmps hid) E r e p=some (some hd):=by unfold aN; rw [if_neg (by omega),if_pos ⟨he,hr,by rw [hg]; rfl⟩,hres]
   have hrow:=(RepA.to_row hu rfl).1
   have hilt:st.i<es.length:=(lI.1 hi).1
   rcases Row.sl_inv hrow with ⟨_,rfl,_⟩ | ⟨F1,b,off,cap,C,ty,fr,us,hv1,hb,hfr,hcap,hle1,hes,hcs,hc,h1,hFF⟩
   ·simp at hi
   ·obtain ⟨G,g,hG⟩:=akJ h1 hes hi
    have hm:st.i*s+s≤us.length:=by rw [hcs,← lP3]; exact lI1 _ hilt
    have hrl:row.length=s:=hes row (lS2 hi)
    have hcell:∀ j v,us[j]?=some v→w.cell? ((⟨b,off,none⟩:Addr).add j)=some v:=by
     intro j v hj
     have hlt:=(lI.1 hj).1
     have hq:C[off+j]?=some v:=by rw [hc j hlt,hj]
     unfold Addr.add
     by_cases e0:j=0
     ·rw [e0] at hq; simp at hq; simp [e0,World.cell?,hb,hq]
     ·simp [e0,World.cell?,hb,hq]
    have gl:Row w true G (((us.drop (st.i*s)).take s).take st.j++(((us.drop (st.i*s)).take s).drop st.j)) (row.take st.j++row.drop st.j):=by
     rw [lJ,lJ]; exact g
    have hgl:=g.length
    obtain ⟨A1,A2,q1,q2,e1⟩:=Row.split _ _ (by simp only [lT] at hgl ⊢; omega) gl
    have q2':Row w true A2 ((((us.drop (st.i*s)).take s).drop st.j).take sz++(((us.drop (st.i*s)).take s).drop st.j).drop sz) ((row.drop st.j).take sz++(row.drop st.j).drop sz):=by
     rw [lJ,lJ]; exact q2
    obtain ⟨A3,A4,q3,q4,e3⟩:=Row.split _ _ (by have:=q2.length; simp only [lT] at this ⊢; omega) q2'
    have hus:∀ k v,((((us.drop (st.i*s)).take s).drop st.j).take sz)[k]?=some v→us[st.i*s+st.j+k]?=some v:=by
     intro k v hk
     rw [lJ1] at hk
     split at hk
     ·rw [lY1,lJ1] at hk
      split at hk
      ·rw [lY1] at hk; rw [← hk]; congr 1; omega
      ·cases hk
     ·cases hk
    refine ⟨_,⟨b,off,none⟩,(((us.drop (st.i*s)).take s).drop st.j).take sz,fun _=>0,hl,by rw [hv1]; rfl,by simp; omega,?_,?_,fun x=>by simp⟩
    ·intro k v hk
     rw [iK,hs]
     exact hcell _ _ (hus k v hk)
    ·intro _
     refine ⟨_,af2 _ _ _ _ q3 ?_⟩
     intro k v hk hsl
     obtain ⟨s',es',hsl⟩:=hsl
     have hc2:row[st.j+k]?=some (.sl s' es'):=by
      rw [lJ1] at hsl
      split at hsl
      ·simpa using hsl
      ·cases hsl
     refine af0 R he hr hg hl (st:=⟨st.i,s,st.j+k⟩) (c:=.own s' es') ?_ ?_
     ·simp [cA,jK,hi,hc2,TV.av]
     ·rw [hv1]
      simp only [iI]
      have:=hcell _ _ (hus k v hk)
      rw [show st.i*s+(st.j+k)=st.i*s+st.j+k by omega,this]
      rfl
 ·cases h
theorem oU {t:TypeId} {s:Nat} {ag:Bool} {ad:Addr} {us:List Value} (hs:oK P t=some s) (hag:aiN P t=some ag) (hl:us.length=s) (hc:∀ k v,us[k]?=some v→w.cell? (ad.add k)=some v)
  {cs:List AV} {lk:Lk} {F X:aH} {x:AV} (h:RepA w lk F X us cs) (ho:oneOf cs ag=some x) :
  ∃ v,(loadVar t ad).run P w=.ok v w∧RepA w lk F X [v] [x]:=by
 obtain ⟨v,hv1,hv2,hv3⟩:=h.oneOf ho
 refine ⟨v,?_,hv1⟩
 unfold loadVar
 simp only [Sem.run_bind,yB hag,Result.andThen_ok]
 cases ag with
 | true=>
  rw [hv2 rfl]
  have:=run_loadCells_list (P:=P) w ad us hc
  simp [iX hs,← hl,this]
 | false=>
  have:=hv3 rfl
  subst this
  have:=hc 0 v rfl
  simp only [Addr.add,lP] at this
  simp [this]
theorem aiT {t:TypeId} {s:Nat} {ag:Bool} {x:Operand} {o1:O} {d:Nat} {E':Env} (ho:o.op=.load t x) (hd:o.dst=some d) (hdn:d<B.n)
  (hs:oK P t=some s) (hag:aiN P t=some ag) (hx:OpdOk B.n x o1) (G:bB B hv w a E) (h:ev E (.ld d o1 s ag)=some E') :
  o.wp P a w (fun a' w'=>bB B hv w' a' E') Q:=by
 simp only [ev] at h
 obtain ⟨hid,Fs,Xs,R,hh⟩:=G
 obtain ⟨F,X,r,_,hX,_⟩:=bI R hx
 split at h
 ·rename_i cs e1
  split at h
  case isFalse=>cases h
  rename_i hle
  cases hq:oneOf ((cs.take s).map TV.xv) ag with
  | none=>rw [hq] at h; cases h
  | some y=>
   rw [hq] at h; cases h
   rw [e1] at r
   generalize hve:a.eval x=v0 at r
   cases r with
   | xbox _ _ X1 X2 ad us _ _ _ hc h1 h2 hXX=>
    have hl:=h1.length
    have h1':Row w false X1 (us.take s++us.drop s) (cs.take s++cs.drop s):=by rw [lJ,lJ]; exact h1
    obtain ⟨A1,A2,q1,q2,e⟩:=Row.split _ _ (by simp [hl]) h1'
    obtain ⟨v,hv1,hv2⟩:=oU (P:=P) (w:=w) (ad:=ad) (us:=us.take s) hs hag (by simp; omega) (by
     intro k v hk
     rw [lJ1] at hk
     split at hk
     ·have hlt:=(lI.1 hk).1
      rw [hc k hlt,hk]
     ·cases hk) (amP (lk:=aN w (aI a.tmps hid) E) q1 rfl) hq
    obtain ⟨XP',P'⟩:=PR.ofRel R hv2 (fun _=>rfl) (fun b hb=>hX b (by have:=hXX b; have:=e b; omega))
    refine bN (v:=v) ?_ hd (bD P' hh hdn)
    rw [execOp,ho]
    simp [hve,Instr.loadAt,Instr.sureAddr,hv1]
 ·rename_i r0 e p st e1
  cases hcs:jF E r0 e p st s with
  | none=>simp [hcs] at h
  | some cs=>
   simp only [hcs,lD] at h
   cases hq:oneOf cs ag with
   | none=>simp [hq] at h
   | some y=>
    simp [hq] at h
    obtain ⟨hown,rfl⟩:=h
    obtain ⟨hdv,ad,us,X',hl,hhd,hlen,hcell,hrep,hX'⟩:=aa1 R hcs
    obtain ⟨Gf,hrep⟩:=hrep (by simpa using hown)
    rw [e1] at r
    have hve:a.eval x=.pointer (some (ad.add (st.i*st.s+st.j))):=by
     generalize a.eval x=v0 at r
     cases r with
     | ref _ _ _ _ _ _ oo _ _ _ ho1 hv1 _=>
      rw [hl] at ho1; cases ho1
      obtain ⟨ad',q1,q2⟩:=hv1 hdv rfl
      rw [hhd] at q1; cases q1; exact q2
    obtain ⟨v,hv1,hv2⟩:=oU (P:=P) (w:=w) (ad:=ad.add (st.i*st.s+st.j)) hs hag hlen hcell hrep hq
    obtain ⟨XP',P'⟩:=PR.ofRel R hv2 (fC hrep (by simpa using hown)) (fun b hb=>⟨r0,by have:=hX' b; omega⟩)
    refine bN (v:=v) ?_ hd (bD P' hh hdn)
    rw [execOp,ho]
    simp [hve,Instr.loadAt,Instr.sureAddr,hv1]
 ·cases h
theorem PR.back {v:Value} {x:AV} {vs:List Value} {xs:List AV} (P1:PR B hid w a E Fs Xs FP XP (v::vs) (x::xs)) (n:Nat) (hv:v=aI a.tmps hid n) :
  ∃ Fs' Xs' FP' XP',PR B hid w a (E.put n x) Fs' Xs' FP' XP' vs xs:=by
 have R:=P1.rel
 obtain ⟨F1,F2,X1,X2,h1,h2,eF,eX⟩:=P1.rep.uncons
 have links:∀ r e p o,aN w (aI a.tmps hid) E r e p=some o→aN w (aI a.tmps hid) (E.put n x) r e p=some none∨aN w (aI a.tmps hid) (E.put n x) r e p=some o:=by
  intro r e p o h
  by_cases hr:r=n
  ·subst hr; exact .inl (eH rfl h)
  ·exact .inr (by rw [kL R (bV hr) (cW hr) rfl (fun _ _=>rfl) (fun _ _=>rfl)]; exact h)
 refine ⟨fun t=>if t=n then F1 else Fs t,fun t=>if t=n then X1 else Xs t,F2,X2,?_,h2.same links (fun _ _=>rfl) (fun _ _=>rfl),?_,?_,?_,?_,?_,?_,?_⟩
 ·refine R.change (fun t=>t=n) R.size R.dfr ?_ ?_ ?_ ?_ ?_ ?_ ?_ (Grows.refl _) (fun _ _ _=>rfl) ?_ ?_
  ·intro t ht; exact ⟨bV ht,cW ht,rfl,by simp [ht],by simp [ht],fun _ _=>rfl,fun _ _=>rfl⟩
  ·intro r hr e p o h; subst hr; exact .inl (eH rfl h)
  ·intro links t ht; subst ht; rw [cN]; simp only [lP]; rw [← hv]
   exact h1.same links (fun _ _=>rfl) (fun _ _=>rfl)
  ·intro t ht b; subst ht; simp only [lP]; have:=P1.one b; have:=eF b; omega
  ·intro t ht t' hne b; subst ht; simp only [lP,Ne.symm hne,lG1]; have:=P1.dis t' b; have:=eF b; omega
  ·intro t ht t' b; subst ht; simp only [lP]
   by_cases e:t'=t
   ·simp only [e,lP]; have:=P1.dx3 b; have:=eF b; have:=eX b; omega
   ·simp only [e,lG1]; have:=P1.dx1 t' b; have:=eF b; omega
  ·intro t ht t' b; subst ht; simp only [lP]
   by_cases e:t'=t
   ·simp only [e,lP]; have:=P1.dx3 b; have:=eF b; have:=eX b; omega
   ·simp only [e,lG1]; have:=P1.dx2 t' b; have:=eX b; omega
  ·intro t ht b hb; subst ht; simp only [lP] at hb; exact P1.org b (by have:=eF b; omega)
  ·intro t ht b hb; subst ht; simp only [lP] at hb; exact P1.orgx b (by have:=eX b; omega)
 ·intro b; have:=P1.one b; have:=eF b; omega
 ·intro t b
  by_cases e:t=n
  ·simp only [e,lP]; have:=P1.one b; have:=eF b; omega
  ·simp only [e,lG1]; have:=P1.dis t b; have:=eF b; omega
 ·intro t b
  by_cases e:t=n
  ·simp only [e,lP]; have:=P1.dx3 b; have:=eF b; have:=eX b; omega
  ·simp only [e,lG1]; have:=P1.dx1 t b; have:=eF b; omega
 ·intro t b
  by_cases e:t=n
  ·simp only [e,lP]; have:=P1.dx3 b; have:=eF b; have:=eX b; omega
  ·simp only [e,lG1]; have:=P1.dx2 t b; have:=eX b; omega
 ·intro b; have:=P1.dx3 b; have:=eF b; have:=eX b; omega
 ·intro b hb; exact P1.org b (by have:=eF b; omega)
 ·intro b hb; exact P1.orgx b (by have:=eX b; omega)
theorem af3 {x:Operand} {n k d:Nat} {E':Env} (ho:o.op=.extract x k) (hd:o.dst=some d) (hdn:d<B.n)
  (hx:OpdOk B.n x (.t n)) (G:bB B hv w a E) (h:ev E (.xtr d (.t n) k)=some E'):o.wp P a w (fun a' w'=>bB B hv w' a' E') Q:=by
 simp only [ev] at h
 obtain ⟨hid,Fs,Xs,R,hh⟩:=G
 split at h
 case h_2=>cases h
 rename_i vs e1
 cases hk:vs[k]? with
 | none=>simp [hk] at h
 | some c=>
  simp [hk] at h
  have hve:a.eval x=aI a.tmps hid n:=by cases hx with | tmp _ ht=>exact kW (by rw [R.size]; exact ht)
  have r:=R.rep n
  rw [e1] at r
  generalize hvn:aI a.tmps hid n=v0 at r
  cases r with
  | tup _ F1 F2 _ X1 X2 us _ _ _ h1 h2 hFF hXX=>
   obtain ⟨v,A1,A2,Y1,Y2,hv1,ha1,hA,hY,hput⟩:=RepA.at h1 hk
   have hrun:(execOp a.eval o).run P w=.ok (.value v) w:=by
    rw [execOp,ho]; simp [hve,hvn,Instr.extract,hv1]
   have z2:(∀ b,F2 b=0)∧∀ b,X2 b=0:=by cases h2 with | nil _ _ a b=>exact ⟨a,b⟩
   by_cases hown:c.owns=true
   ·rw [lF hown] at h; subst h
    obtain ⟨Fs',Xs',FP',XP',P1⟩:=(PR.nil R).move n
    simp only [lD1,e1,hvn] at P1
    have hlk:=aN w (aI a.tmps hid) (E.put n .undef)
    obtain ⟨F1',F2',X1',X2',g1,g2,gF,gX⟩:=P1.rep.uncons
    cases g1 with
    | tup _ H1 H2 _ Z1 Z2 _ _ _ _ k1 k2 kF kX=>
     obtain ⟨v',C1,C2,D1,D2,hv1',hc1,hC,hD,hput'⟩:=RepA.at k1 hk
     rw [hv1] at hv1'; cases hv1'
     have hset:=hput' w (aN w (aI a.tmps hid) (E.put n .undef)) (fun _ _=>rfl) (fun _ _=>rfl) (fun _ _ _ _ h=>.inr h) v .undef (fun _=>0) (fun _=>0) (.undef _ _ _ _ _ RepA.znil)
     rw [fN hv1] at hset
     have hz2:(∀ b,H2 b=0)∧∀ b,Z2 b=0:=by cases k2 with | nil _ _ a b=>exact ⟨a,b⟩
     have hz3:(∀ b,F2' b=0)∧∀ b,X2' b=0:=by cases g2 with | nil _ _ a b=>exact ⟨a,b⟩
     have P2:PR B hid w a (E.put n .undef) Fs' Xs' FP' XP' [.tuple us.toArray,v] [.tup (vs.set k .undef),c]:=by
      refine P1.rerep ?_
      refine .tup _ C2 C1 _ D2 D1 us (vs.set k .undef) [v] [c] (hset.foot (fun b=>by simp) (fun b=>by simp)) hc1 ?_ ?_
      ·intro b; have:=gF b; have:=kF b; have:=hC b; have:=hz2.1 b; have:=hz3.1 b; omega
      ·intro b; have:=gX b; have:=kX b; have:=hD b; have:=hz2.2 b; have:=hz3.2 b; omega
     obtain ⟨Fs2,Xs2,FP2,XP2,P3⟩:=PR.back P2 n hvn.symm
     have P4:=bD P3 hh hdn
     refine bN (v:=v) hrun hd ?_
     have hE:((E.put n .undef).put n (.tup (vs.set k .undef))).put d c=(E.put n (.tup (vs.set k .undef))).put d c:=by
      apply Env.ext'
      ·intro t; simp only [kR]; split <;> (try rfl); split <;> rfl
      ·intro t
       have hr:(E.f n).isRoot=false:=by rw [e1]; rfl
       simp only [Env.put,hr]
       by_cases hdn':d=n
       ·subst hdn'; simp [hr,AV.isRoot]
       ·simp [hdn',AV.isRoot]
     rw [← hE]; exact P4
   ·rw [lK hown] at h; subst h
    have hown':c.owns=false:=by simpa using hown
    obtain ⟨XP',P'⟩:=PR.ofRel R ha1 (fC ha1 (by simpa [bS] using hown')) (fun b hb=>⟨n,by have:=hXX b; have:=hY b; omega⟩)
    exact bN (v:=v) hrun hd (bD P' hh hdn)
theorem adX {t:TypeId} {x y:Operand} {o1 o2:O} {d:Nat} {E':Env} (ho:o.op=.index t x y) (hd:o.dst=some d) (hdn:d<B.n)
  (hu:P.underlying t=some .string) (hx:OpdOk B.n x o1) (hy:OpdOk B.n y o2) (G:bB B hv w a E) (h:ev E (.sidx d o1 o2)=some E'):o.wp P a w (fun a' w'=>bB B hv w' a' E') Q:=by
 simp only [ev] at h
 split at h
 case h_2=>cases h
 rename_i b k n e1 e2
 split at h
 case isFalse=>cases h
 rename_i hb
 cases hc:b[n.toNat]? with
 | none=>simp [hc] at h
 | some c=>
  simp [hc] at h; subst h
  have v1:=oT G hx e1
  have v2:=fO G hy e2
  refine bN (v:=.int .u8 c.toNat) ?_ hd (iW G hdn _ _)
  rw [execOp,ho]
  have hlt:n.toNat<(⟨b.toArray⟩:ByteArray).size:=by rw [aaY]; omega
  have hget:(⟨b.toArray⟩:ByteArray)[n.toNat]?=some c:=by
   rw [ByteArray.getElem?_lt' _ _ hlt]
   have:=(lI.1 hc).2
   rw [← this]
   rfl
  simp [v1,v2,c7,Instr.index,asIntOf,run_underlying hu,hb.1,hget]
theorem gK {E:Env} {lo:Option Operand} {l1:Option O} {dflt:Nat} {l:Int} (hl:(lo=none∧l1=none)∨∃ x o1,lo=some x∧l1=some o1∧OpdOk B.n x o1) (G:bB B hv w a E) (h:cQ E l1 dflt=some l) :
  (lo=none∧l=dflt)∨∃ x k,lo=some x∧a.eval x=.int k l:=by
 rcases hl with ⟨rfl,rfl⟩ | ⟨x,o1,rfl,rfl,ho⟩
 ·simp [cQ] at h; exact .inl ⟨rfl,h.symm⟩
 ·simp only [cQ] at h
  split at h
  ·rename_i k n e
   cases h
   exact .inr ⟨x,k,rfl,fO G ho e⟩
  ·cases h
theorem m9 {lo hi:Option Operand} {l h:Int} {len cap:Nat} {isS:Bool} (hl:(lo=none∧l=(0:Nat))∨∃ x k,lo=some x∧a.eval x=.int k l)
  (hh:(hi=none∧h=len)∨∃ x k,hi=some x∧a.eval x=.int k h) (h0:0≤l) (h1:l≤h) (h2:h≤cap) :
  (Instr.sliceBounds isS len cap (lo.map a.eval) (hi.map a.eval) none).run P w=.ok (l.toNat,h.toNat,cap) w:=by
 have hb:∀ (k:IntKind) (i:Int) (y:Nat) (c:BoundsCode),0≤i→i≤y→(Instr.sliceBound (.int k i) y c).run P w=.ok i.toNat w:=by
  intro k i y c h1 h2
  simp [Instr.sliceBound,asIntOf,h1,h2]
 have hbh:∀ (k:IntKind) (c:BoundsCode),(Instr.sliceBound (.int k h) cap c).run P w=.ok h.toNat w:=fun k c=>hb k h cap c (by omega) h2
 have hbl:∀ (k:IntKind) (c:BoundsCode),(Instr.sliceBound (.int k l) h.toNat c).run P w=.ok l.toNat w:=fun k c=>hb k l _ c h0 (by omega)
 rcases hh with ⟨rfl,rfl⟩ | ⟨y,ky,rfl,ey⟩
 ·rcases hl with ⟨rfl,rfl⟩ | ⟨x,kx,rfl,ex⟩
  ·simp [Instr.sliceBounds]
  ·have:=hbl kx (if (none:Option Value).isSome=true then .slice3C else .sliceB)
   simp at this
   simp [Instr.sliceBounds,ex,this]
 ·rcases hl with ⟨rfl,rfl⟩ | ⟨x,kx,rfl,ex⟩
  ·simp [Instr.sliceBounds,ey,hbh]
  ·simp [Instr.sliceBounds,ey,ex,hbh,hbl]
def af4 (n:Nat) (x:Option Operand) (o:Option O):Prop:=(x=none∧o=none)∨∃ y o1,x=some y∧o=some o1∧OpdOk n y o1
theorem af5 {t:TypeId} {x:Operand} {lo hi:Option Operand} {o1:O} {l1 h1:Option O} {d:Nat} {E':Env} (ho:o.op=.slice t x lo hi none) (hd:o.dst=some d) (hdn:d<B.n)
  (hu:P.underlying t=some .string) (hx:OpdOk B.n x o1) (hlo:af4 B.n lo l1) (hhi:af4 B.n hi h1) (G:bB B hv w a E) (h:ev E (.sls d o1 l1 h1)=some E'):o.wp P a w (fun a' w'=>bB B hv w' a' E') Q:=by
 simp only [ev] at h
 split at h
 case h_2=>cases h
 rename_i b l e1 e2
 cases hq:cQ E h1 b.length with
 | none=>simp [hq] at h
 | some hh=>
  simp [hq] at h
  obtain ⟨⟨c0,c1,c2⟩,rfl⟩:=h
  have v1:=oT G hx e1
  have r1:=gK hlo G e2
  have r2:=gK hhi G hq
  refine bN (v:=c7 ((b.drop l.toNat).take (hh-l).toNat)) ?_ hd (wE G hdn _)
  rw [execOp,ho]
  have hsb:=m9 (P:=P) (w:=w) (isS:=false) (len:=b.length) (cap:=b.length) r1 r2 c0 c1 c2
  simp only [v1,c7,Instr.sliceAt,Sem.run_bind,run_underlying hu,Result.andThen_ok,Instr.slice,aaY,Option.isSome_none,lR]
  have:ByteArray.extract ⟨b.toArray⟩ l.toNat hh.toNat=⟨((b.drop l.toNat).take (hh-l).toNat).toArray⟩:=by
   apply ByteArray.ext
   rw [ByteArray.data_extract]
   simp [List.extract_eq_take_drop]
   congr 2
   omega
  simp [hsb,this]
theorem sQ {t el:TypeId} {s:Nat} {x:Operand} {lo hi:Option Operand} {l h:Int} {base:Option Addr} {len cap:Nat} (ho:o.op=.slice t x lo hi none)
  (hu:P.underlying t=some (.slice el)) (hs:oK P el=some s) (hve:a.eval x=.slice base len cap)
  (r1:(lo=none∧l=(0:Nat))∨∃ x k,lo=some x∧a.eval x=.int k l) (r2:(hi=none∧h=len)∨∃ x k,hi=some x∧a.eval x=.int k h) (h0:0≤l) (h1:l≤h) (h2:h≤cap) :
  (execOp a.eval o).run P w=.ok (.value (.slice (if cap=l.toNat then base else base.map (·.add (l.toNat*s))) (h-l).toNat (cap-l.toNat))) w:=by
 rw [execOp,ho]
 have hsb:=m9 (P:=P) (w:=w) (isS:=true) (len:=len) (cap:=cap) r1 r2 h0 h1 h2
 simp only [hve,Instr.sliceAt,Sem.run_bind,run_underlying hu,Result.andThen_ok,Instr.slice,lR,hsb,iX hs,Sem.run_pure]
 have:h.toNat-l.toNat=(h-l).toNat:=by omega
 rw [this]
theorem af6 {F:aH} {v:Value} {s:Nat} {es:List (List TV)} (h:Row w false F [v] [.sl s es]) (l n:Nat) (hn:l+n≤es.length) :
  ∃ base cap,v=.slice base es.length cap∧es.length≤cap∧∃ G,Row w false G [.slice (if cap=l then base else base.map (·.add (l*s))) n (cap-l)] [.sl s ((es.drop l).take n)]∧∀ b,G b≤F b:=by
 cases h with
 | ext0 _ _ a' cap _ _ h=>
  simp at hn
  obtain ⟨rfl,rfl⟩:=hn
  exact ⟨a',cap,rfl,by simp,⟨fun _=>0,.ext0 _ _ _ _ _ _ (.nil _ _ (fun _=>rfl)),fun b=>by simp⟩⟩
 | ext _ F1 F2 _ _ ad cap us _ _ hle hes hcs hc h1 h hF=>
  refine ⟨some ad,cap,rfl,hle,?_⟩
  by_cases hn0:n=0
  ·subst hn0
   exact ⟨fun _=>0,by simpa using Row.ext0 _ s _ (cap-l) [] [] (.nil _ _ (fun _=>rfl)),fun b=>by simp⟩
  ·have hsplit:es.flatten=(es.take l).flatten++(((es.drop l).take n).flatten++(es.drop (l+n)).flatten):=by
    rw [← lZ1,← lZ1]
    congr 1
    rw [← lW1,lJ,lJ]
   have hm1:∀ e ∈ es.take l,e.length=s:=fun e he=>hes e (lA2 he)
   have hm2:∀ e ∈ (es.drop l).take n,e.length=s:=fun e he=>hes e (lG3 (lA2 he))
   have hlos:l*s+n*s≤us.length:=by rw [hcs,← lZ2]; exact lI1 _ hn
   have h1':Row w false F1 (us.take (l*s)++((us.drop (l*s)).take (n*s)++us.drop (l*s+n*s))) ((es.take l).flatten++(((es.drop l).take n).flatten++(es.drop (l+n)).flatten)):=by
    rw [← hsplit]
    have:us.take (l*s)++((us.drop (l*s)).take (n*s)++us.drop (l*s+n*s))=us:=by rw [← lW1,lJ,lJ]
    rw [this]; exact h1
   obtain ⟨G1,G2,g1,g2,e1⟩:=Row.split _ _ (by rw [bY _ hm1,lT,lT]; rw [lK1 (by omega),lK1 (by omega)]) h1'
   obtain ⟨G3,G4,g3,g4,e2⟩:=Row.split _ _ (by rw [bY _ hm2,lT,lT,lH2,lH2]; rw [lK1 (by omega),lK1 (by omega)]) g2
   have hlen:((es.drop l).take n).length=n:=by simp; omega
   by_cases hcl:cap=l
   ·omega
   ·rw [lK hcl]
    refine ⟨fun x=>(if x=ad.block then 1 else 0)+G3 x,?_,fun b=>by have:=hF b; have:=e1 b; have:=e2 b; (try dsimp only); omega⟩
    have:=Row.ext (w:=w) (fun x=>(if x=ad.block then 1 else 0)+G3 x) G3 (fun _=>0) s ((es.drop l).take n) (ad.add (l*s)) (cap-l) ((us.drop (l*s)).take (n*s)) [] [] (by rw [hlen]; omega) hm2 (by rw [hlen]; simp; omega) ?_ g3 (.nil _ _ (fun _=>rfl)) (fun x=>by rw [iH]; simp)
    ·rw [hlen] at this; exact this
    ·intro k hk
     simp only [lT,lH2] at hk
     rw [iK,hc _ (by omega),lJ1,lY1,lF (by omega)]
theorem af7 {t el:TypeId} {s:Nat} {x:Operand} {lo hi:Option Operand} {o1:O} {l1 h1:Option O} {d:Nat} {E':Env} (ho:o.op=.slice t x lo hi none) (hd:o.dst=some d) (hdn:d<B.n)
  (hu:P.underlying t=some (.slice el)) (hs:oK P el=some s) (hx:OpdOk B.n x o1) (hlo:af4 B.n lo l1) (hhi:af4 B.n hi h1) (G:bB B hv w a E) (h:ev E (.slc d o1 l1 h1 s)=some E') :
  o.wp P a w (fun a' w'=>bB B hv w' a' E') Q:=by
 simp only [ev] at h
 have G0:=G
 split at h
 ·cases h
 rename_i l hl0
 have r1:=gK hlo G hl0
 obtain ⟨hid,Fs,Xs,R,hh⟩:=G
 obtain ⟨F,X,r,_,hX,_⟩:=bI R hx
 split at h
 ·rename_i s' es e1
  cases hq:cQ E h1 es.length with
  | none=>simp [hq] at h
  | some hb=>
   simp [hq] at h
   obtain ⟨⟨hs',c0,c1,c2⟩,rfl⟩:=h
   subst hs'
   have r2:=gK hhi G0 hq
   rw [e1] at r
   generalize hve:a.eval x=v at r
   cases r with
   | ext _ _ X1 X2 _ _ _ _ _ k1 k2 hXX=>
    obtain ⟨base,cap,e3,hcap,Gf,g,hG⟩:=af6 k1 l.toNat (hb-l).toNat (by omega)
    have hrun:=sQ (P:=P) (w:=w) ho hu hs (hve.trans e3) r1 r2 c0 c1 (by omega)
    have hr:RepA w (aN w (aI a.tmps hid) E) (fun _=>0) Gf [_] [.ext s' ((es.drop l.toNat).take (hb-l).toNat)]:=.ext _ _ Gf (fun _=>0) _ _ _ _ _ g RepA.znil (fun x=>by simp)
    obtain ⟨XP',P'⟩:=PR.ofRel R hr (fun _=>rfl) (fun b hb=>hX b (by have:=hXX b; have:=hG b; omega))
    exact bN hrun hd (bD P' hh hdn)
 ·rename_i v0 s' es e1
  cases hq:cQ E h1 es.length with
  | none=>simp [hq] at h
  | some hb=>
   simp [hq] at h
   obtain ⟨⟨hs',c0,c1,c2⟩,rfl⟩:=h
   subst hs'
   have r2:=gK hhi G0 hq
   rw [e1] at r
   generalize hve:a.eval x=v at r
   cases r with
   | extv _ _ X1 X2 _ _ _ _ _ k1 k2 hXX=>
    obtain ⟨base,cap,e3,hcap,Gf,g,hG⟩:=af6 k1 l.toNat (hb-l).toNat (by omega)
    have hrun:=sQ (P:=P) (w:=w) ho hu hs (hve.trans e3) r1 r2 c0 c1 (by omega)
    have hr:RepA w (aN w (aI a.tmps hid) E) (fun _=>0) Gf [_] [.ext s' ((es.drop l.toNat).take (hb-l).toNat)]:=.ext _ _ Gf (fun _=>0) _ _ _ _ _ g RepA.znil (fun x=>by simp)
    obtain ⟨XP',P'⟩:=PR.ofRel R hr (fun _=>rfl) (fun b hb=>hX b (by have:=hXX b; have:=hG b; omega))
    exact bN hrun hd (bD P' hh hdn)
 ·rename_i r0 e p e1
  cases hn:aK E r0 e p with
  | none=>simp [hn] at h
  | some q=>
   obtain ⟨s',es⟩:=q
   simp only [hn,lD] at h
   cases hq:cQ E h1 es.length with
   | none=>simp [hq] at h
   | some hb=>
    simp [hq] at h
    obtain ⟨⟨hs',c0,c1,c2⟩,rfl⟩:=h
    subst hs'
    have r2:=gK hhi G0 hq
    obtain ⟨hd1,G1,g1,hl⟩:=gJ R hn
    rw [e1] at r
    have hve:a.eval x=hd1:=by
     generalize a.eval x=v at r
     cases r with | lnk _ _ _ _ _ o _ _ _ ho' hv' _=>rw [hl] at ho'; cases ho'; exact hv' hd1 rfl
    obtain ⟨base,cap,e3,hcap⟩:∃ base cap,hd1=.slice base es.length cap∧es.length≤cap:=by
     rcases Row.sl_inv g1 with ⟨q1,rfl,_⟩ | ⟨F1,b,off,cap',C,ty,fr,cs,hv1,_,_,_,hle',_⟩
     ·exact ⟨none,0,q1,by simp⟩
     ·exact ⟨_,_,hv1,hle'⟩
    have hrun:=sQ (P:=P) (w:=w) ho hu hs (hve.trans e3) r1 r2 c0 c1 (by omega)
    have hr:RepA w (aN w (aI a.tmps hid) E) (fun _=>0) (fun _=>0) [_] [.sub r0 e p s' l.toNat (hb-l).toNat]:=
     .sub _ _ _ _ _ _ _ _ _ (.slice (if cap=l.toNat then base else base.map (·.add (l.toNat*s'))) (hb-l).toNat (cap-l.toNat)) _ _ hl (fun u hu=>by
      cases hu
      refine ⟨base,es.length,cap,_,e3,rfl,by omega,?_⟩
      split
      ·rename_i hc; exact .inr ⟨hc.symm,0,by omega,by cases base <;> simp [Addr.add]⟩
      ·exact .inl rfl) RepA.znil
    obtain ⟨XP',P'⟩:=PR.ofRel R hr (fun _=>rfl) (fun b hb=>absurd rfl hb)
    exact bN hrun hd (bD P' hh hdn)
 ·rename_i s' es e1
  cases o1 with
  | c y=>cases h
  | t m=>
   dsimp only at h
   cases hq:cQ E h1 es.length with
   | none=>simp [hq] at h
   | some hb=>
    simp [hq] at h
    obtain ⟨⟨hmd,hs',c0,c1,c2⟩,rfl⟩:=h
    subst hs'
    have r2:=gK hhi G0 hq
    have hve:a.eval x=aI a.tmps hid m:=by cases hx with | tmp _ ht=>exact kW (by rw [R.size]; exact ht)
    simp only [val] at e1
    simp only [val,e1] at r
    rw [hve] at r
    have g1:=(RepA.to_row r rfl).1
    have hl:aN w (aI a.tmps hid) E m (E.ep m).1 []=some (some (aI a.tmps hid m)):=by
     unfold aN; rw [if_neg (by simp [fM]),if_pos ⟨by simp [fM],by rw [e1]; rfl,by rw [e1]; rfl⟩]; rfl
    obtain ⟨base,cap,e3,hcap⟩:∃ base cap,aI a.tmps hid m=.slice base es.length cap∧es.length≤cap:=by
     rcases Row.sl_inv g1 with ⟨q1,rfl,_⟩ | ⟨F1,b,off,cap',C,ty,fr,cs,hv1,_,_,_,hle',_⟩
     ·exact ⟨none,0,q1,by simp⟩
     ·exact ⟨_,_,hv1,hle'⟩
    have hrun:=sQ (P:=P) (w:=w) ho hu hs (hve.trans e3) r1 r2 c0 c1 (by omega)
    have hr:RepA w (aN w (aI a.tmps hid) E) (fun _=>0) (fun _=>0) [_] [.sub m (E.ep m).1 [] s' l.toNat (hb-l).toNat]:=
     .sub _ _ _ _ _ _ _ _ _ (.slice (if cap=l.toNat then base else base.map (·.add (l.toNat*s'))) (hb-l).toNat (cap-l.toNat)) _ _ hl (fun u hu=>by
      have hu:=Option.some.inj hu
      refine ⟨base,es.length,cap,_,hu.symm.trans e3,rfl,by omega,?_⟩
      split
      ·rename_i hc; exact .inr ⟨hc.symm,0,by omega,by cases base <;> simp [Addr.add]⟩
      ·exact .inl rfl) RepA.znil
    obtain ⟨XP',P'⟩:=PR.ofRel R hr (fun _=>rfl) (fun b hb=>absurd rfl hb)
    exact bN hrun hd (bD P' hh hdn)
 ·rename_i r0 e p s' lo0 n e1
  cases hn:aK E r0 e p with
  | none=>simp [hn] at h
  | some q=>
   obtain ⟨s2,es⟩:=q
   simp only [hn,lD] at h
   cases hq:cQ E h1 n with
   | none=>simp [hq] at h
   | some hb=>
    simp [hq] at h
    obtain ⟨⟨hs2,hs',hle,c0,c1,c2⟩,rfl⟩:=h
    subst hs2; subst hs'
    have r2:=gK hhi G0 hq
    obtain ⟨hd1,G1,g1,hl⟩:=gJ R hn
    obtain ⟨base,cap,e3,hcap⟩:∃ base cap,hd1=.slice base es.length cap∧es.length≤cap:=by
     rcases Row.sl_inv g1 with ⟨q1,rfl,_⟩ | ⟨F1,b,off,cap',C,ty,fr,cs,hv1,_,_,_,hle',_⟩
     ·exact ⟨none,0,q1,by simp⟩
     ·exact ⟨_,_,hv1,hle'⟩
    rw [e1] at r
    have hve:∃ a',a.eval x=.slice a' n (cap-lo0)∧(a'=base.map (·.add (lo0*s'))∨(lo0=cap∧∃ k,k≤cap∧a'=base.map (·.add (k*s')))):=by
     generalize a.eval x=v at r
     cases r with
     | sub _ _ _ _ _ _ _ _ o _ _ _ ho' hv' _=>
      rw [hl] at ho'; cases ho'
      obtain ⟨base',len,cap',a',q1,q2,q3,q4⟩:=hv' hd1 rfl
      rw [e3] at q1; cases q1
      exact ⟨a',q2,q4⟩
    obtain ⟨a',hve,ha'⟩:=hve
    have hrun:=sQ (P:=P) (w:=w) ho hu hs hve r1 r2 c0 c1 (by omega)
    have hr:RepA w (aN w (aI a.tmps hid) E) (fun _=>0) (fun _=>0) [_] [.sub r0 e p s' (lo0+l.toNat) (hb-l).toNat]:=
     .sub _ _ _ _ _ _ _ _ _ (.slice (if cap-lo0=l.toNat then a' else a'.map (·.add (l.toNat*s'))) (hb-l).toNat (cap-lo0-l.toNat)) _ _ hl (fun u hu=>by
      cases hu
      refine ⟨base,es.length,cap,_,e3,by rw [Nat.sub_sub],by omega,?_⟩
      split
      ·rename_i hc
       rcases ha' with rfl | ⟨q,k,hk,rfl⟩
       ·exact .inr ⟨by omega,lo0,by omega,rfl⟩
       ·exact .inr ⟨by omega,k,hk,rfl⟩
      ·rename_i hc
       rcases ha' with rfl | ⟨q,_⟩
       ·left
        cases base with
        | none=>rfl
        | some ad=>simp only [lB]; rw [iK,lZ2]
       ·omega) RepA.znil
    obtain ⟨XP',P'⟩:=PR.ofRel R hr (fun _=>rfl) (fun b hb=>absurd rfl hb)
    exact bN hrun hd (bD P' hh hdn)
 ·cases h
theorem aa2 {G:aH} {lo:Bool}:∀ (es:List (List TV)) (bs:List UInt8) (cs:List Value),dR es=some bs→Row w lo G cs es.flatten →
  ∃ ns:List Int,cs=ns.map (.int .u8)∧bs=ns.map (fun n=>UInt8.ofNat n.toNat)∧es.length=ns.length:=by
 intro es
 induction es generalizing G with
 | nil=>
  intro bs cs h r
  simp [dR] at h; subst h
  cases r; exact ⟨[],rfl,rfl,rfl⟩
 | cons e es ih=>
  intro bs cs h r
  simp only [dR] at h
  cases hb:sL e with
  | none=>simp [hb] at h
  | some b=>
   cases hl:dR es with
   | none=>simp [hb,hl] at h
   | some l=>
    simp [hb,hl] at h; subst h
    unfold sL at hb
    split at hb
    ·rename_i n
     cases hb
     simp only [lB3,lT1,lD1] at r
     cases r with
     | int _ _ _ _ vs ts r'=>
      obtain ⟨ns,rfl,rfl,hlen⟩:=ih l vs hl r'
      exact ⟨n::ns,rfl,rfl,by simp [hlen]⟩
    ·cases hb
theorem aiU (f:Value→ByteArray→Sem (ForInStep ByteArray)) (hf:∀ n r,f (.int .u8 n) r=pure (.yield (r.push (UInt8.ofNat n.toNat)))) (ns:List Int):∀ (acc:ByteArray),
  (forIn (ns.map (Value.int .u8)) acc f).run P w=.ok ⟨acc.data++(ns.map (fun n=>UInt8.ofNat n.toNat)).toArray⟩ w:=by
 induction ns with
 | nil=>intro acc; simp
 | cons n ns ih=>
  intro acc
  simp only [lO,List.forIn_cons,Sem.run_bind,hf,Sem.run_pure,Result.andThen_ok]
  rw [ih]
  congr 2
  simp [ByteArray.push]
theorem af8 {s t e:TypeId} {x:Operand} {o1:O} {d:Nat} {E':Env} (ho:o.op=.convert s t x) (hd:o.dst=some d) (hdn:d<B.n)
  (hs:P.underlying s=some (.slice e)) (he:P.underlying e=some (.int .u8)) (ht:P.underlying t=some .string) (hx:OpdOk B.n x o1) (G:bB B hv w a E) (h:ev E (.b2s d o1)=some E') :
  o.wp P a w (fun a' w'=>bB B hv w' a' E') Q:=by
 simp only [ev] at h
 cases hr:bA E (val E o1) with
 | none=>simp [hr] at h
 | some q=>
  obtain ⟨sz,es⟩:=q
  simp only [hr,lD] at h
  split at h
  case isFalse=>cases h
  rename_i hsz
  have hsz':sz=1:=hsz
  subst hsz'
  cases hb:dR es with
  | none=>simp [hb] at h
  | some bs=>
   simp [hb] at h; subst h
   have G0:=G
   obtain ⟨hid,Fs,Xs,R,hh⟩:=G
   obtain ⟨base,cap,hve,G1,cs,hrow,hes,hbase⟩:=wF R hx hr
   obtain ⟨ns,hcs,hbs,hlen⟩:=aa2 es bs cs hb hrow
   refine bN (v:=c7 bs) ?_ hd (wE G0 hdn _)
   rw [execOp,ho]
   have hconv:(convert s t (a.eval x)).run P w=.ok (c7 bs) w:=by
    rw [hve]
    simp only [convert,Sem.run_bind,run_underlying hs,run_underlying ht,run_underlying he,Result.andThen_ok]
    cases base with
    | none=>
     have:es=[]:=by
      by_cases hne:es=[]
      ·exact hne
      ·obtain ⟨ad,h1,_⟩:=hbase hne; cases h1
     subst this
     have:ns=[]:=by simpa using hlen.symm
     subst this
     simp [Conv.bytesToString,hbs,c7]
     rfl
    | some ad=>
     simp only [Conv.bytesToString,Sem.run_bind]
     by_cases hne:es=[]
     ·subst hne
      have:ns=[]:=by simpa using hlen.symm
      subst this
      simp [loadCells,loadCellsFrom,hbs,c7]
      rfl
     ·obtain ⟨ad',h1,hl1,hc1⟩:=hbase hne
      cases h1
      have hcl:cs.length=es.length:=by rw [hl1]; simp
      have hload:=run_loadCells_list (P:=P) w ad cs (fun j v hj=>by rw [hc1 j (lI.1 hj).1,hj])
      rw [hcl] at hload
      simp only [hload,Result.andThen_ok]
      rw [hcs]
      simp only [List.forIn_toArray,Sem.run_bind]
      rw [aiU (P:=P) (w:=w) _ (fun n r=>rfl) ns .empty]
      simp [hbs,c7]
   simp [hconv]
theorem yC {n0:Nat} {C:Array Value} {ty:TypeId} {fr:Nat × Nat} {s cap:Nat} {es:List (List TV)} {cs:List Value} {G:aH} (hb:w.heap[n0]?=some (.cells C ty fr)) (hfr:thawS s C.size fr)
  (hcap:cap*s≤C.size) (hle:es.length≤cap) (hes:∀ e ∈ es,e.length=s) (hcs:cs.length=es.length*s) (hc:∀ k,k<cs.length→C[k]?=cs[k]?) (hr:Row w true G cs es.flatten) :
  Row w true (fun b=>(if b=n0 then 1 else 0)+G b) [.slice (some ⟨n0,0,none⟩) es.length cap] [.sl s es]:=
 Row.of_sl rfl hb hfr (by omega) hle hes hcs (fun k hk=>by rw [lF2]; exact hc k hk) hr (fun x=>rfl)
theorem yD (s:List UInt8):Row w true (fun _=>0) (s.map fun b=>.int .u8 b.toNat) (aM s).flatten:=by
 induction s with
 | nil=>exact .nil _ _ (fun _=>rfl)
 | cons b s ih=>simpa [aM] using Row.int (w:=w) true (fun _=>0) .u8 b.toNat _ _ ih
theorem af9 {s t e:TypeId} {x:Operand} {o1:O} {d:Nat} {E':Env} (ho:o.op=.convert s t x) (hd:o.dst=some d) (hdn:d<B.n)
  (hs:P.underlying s=some .string) (ht:P.underlying t=some (.slice e)) (he:P.underlying e=some (.int .u8)) (hx:OpdOk B.n x o1) (G:bB B hv w a E) (h:ev E (.s2b d o1)=some E') :
  o.wp P a w (fun a' w'=>bB B hv w' a' E') Q:=by
 simp only [ev] at h
 split at h
 case h_2=>cases h
 rename_i b e1
 cases h
 have v1:=oT G hx e1
 have G0:=G
 obtain ⟨hid,Fs,Xs,R,hh⟩:=G
 let bb:ByteArray:=⟨b.toArray⟩
 let w3:=Lib.bytesWorld w e bb
 have hbz:bb.size=b.length:=by simp [bb,ByteArray.size]
 have hcp:b.length≤grownCap w bb.size 0 e:=by rw [← hbz]; exact Nat.le_add_right _ _
 have hconv:=Lib.run_convert_string_bytes (P:=P) w s t e bb hs ht he
 let C:=Lib.bytesCells w e bb
 have hCs:C.size=grownCap w bb.size 0 e:=by simp only [C,Lib.bytesCells,Array.size_append,Array.size_map,Array.size_replicate]; have:bb.data.size=bb.size:=rfl; omega
 have hheap:w3.heap=w.heap.push (.cells C e (C.size,C.size+1)):=by
  apply Array.ext_getElem?
  intro j
  rw [Array.getElem?_push]
  by_cases hj:j=w.heap.size
  ·subst hj; simp only [lP]; exact Lib.bytesWorld_at_new w e bb
  ·simp only [hj,lG1]
   by_cases hlt:j<w.heap.size
   ·exact Lib.bytesWorld_at_old w e bb j hlt
   ·rw [lG4 (by have:=Lib.bytesWorld_size w e bb; show (Lib.bytesWorld w e bb).heap.size≤j; omega),lG4 (by omega)]
 have P0:=PR.nil R
 obtain ⟨FP',P1⟩:=PR.wrap (v:=.slice (some ⟨w.heap.size,0,none⟩) b.length (grownCap w bb.size 0 e)) (x:=.own 1 (aM b)) P0 hheap (by
  intro _
  have hlen:(aM b).length=b.length:=by simp [aM]
  have hrow:=yC (w:=w3) (n0:=w.heap.size) (C:=C) (ty:=e) (fr:=(C.size,C.size+1)) (s:=1) (cap:=grownCap w bb.size 0 e) (es:=aM b) (cs:=b.map fun c=>.int .u8 c.toNat) (G:=fun _=>0)
   (by rw [hheap]; simp) ⟨by intro o ho hc; omega,by simp⟩ (by omega) (by rw [hlen]; exact hcp) (by intro e he; simp [aM] at he; obtain ⟨_,_,rfl⟩:=he; rfl) (by simp [aM]) (by
    intro k hk
    simp at hk
    simp [C,Lib.bytesCells,bb,Array.getElem?_append,hk]) (yD b)
  rw [hlen] at hrow
  exact .own _ _ (fun _=>0) _ _ _ _ _ _ hrow RepA.znil (fun x=>by simp))
 refine bN (v:=.slice (some ⟨w.heap.size,0,none⟩) b.length (grownCap w bb.size 0 e)) (w':=w3) ?_ hd (bD P1 hh hdn)
 rw [execOp,ho]
 have hbs:(c7 b)=.string bb:=rfl
 have:=hconv
 rw [hbz,← hbs,← v1] at this
 simp [this,w3,hbz]
theorem iL {lk:Lk} {F X:aH} {v:Value} {x:AV} (h:RepA w lk F X [v] [x]) (hp:plain x=true):RepA w lk F X v.cells.toList (cellsOf x):=by
 cases h with
 | undef _ _ _ _ _ _=>cases hp
 | lnk _ _ _ _ _ _ _ _ _ _ _ _=>cases hp
 | sub _ _ _ _ _ _ _ _ _ _ _ _ _ _ _=>cases hp
 | ref _ _ _ _ _ _ _ _ _ _ _ _ _=>cases hp
 | bool _ _ x _ _ h=>exact .bool _ _ _ _ _ h
 | int _ _ k n _ _ h=>exact .int _ _ _ _ _ _ h
 | str _ _ s _ _ h=>exact .str _ _ _ _ _ h
 | own _ F1 F2 _ s es _ _ _ h1 h hF=>
  have hv:v.cells.toList=[v]:=by
   rcases Row.sl_inv h1 with ⟨rfl,_⟩ | ⟨_,_,_,_,_,_,_,_,rfl,_⟩ <;> rfl
  rw [hv]; exact .own _ F1 F2 _ s es _ _ _ h1 h hF
 | ext _ _ X1 X2 s es _ _ _ h1 h hX=>
  have hv:v.cells.toList=[v]:=by
   cases h1 <;> rfl
  rw [hv]; exact .ext _ _ X1 X2 s es _ _ _ h1 h hX
 | extv _ _ X1 X2 s es _ _ _ h1 h hX=>
  have hv:v.cells.toList=[v]:=by
   cases h1 <;> rfl
  rw [hv]; exact .extv _ _ X1 X2 s es _ _ _ h1 h hX
 | box _ F1 F2 _ X1 X2 b C ty fr cs _ _ hb hfr h1 h hF hX=>exact .box _ F1 F2 _ X1 X2 b C ty fr cs _ _ hb hfr h1 h hF hX
 | xbox _ _ X1 X2 a us cs _ _ hc h1 h hX=>exact .xbox _ _ X1 X2 a us cs _ _ hc h1 h hX
 | tup _ F1 F2 _ X1 X2 us cs _ _ h1 h hF hX=>exact .tup _ F1 F2 _ X1 X2 us cs _ _ h1 h hF hX
 | fn _ F1 F2 _ X1 X2 f us cs _ _ h1 h hF hX=>exact .fn _ F1 F2 _ X1 X2 f us cs _ _ h1 h hF hX
 | agg _ F1 F2 _ X1 X2 us cs _ _ h1 h hF hX=>
  cases h with
  | nil _ _ z1 z2=>
   have:F=F1:=funext fun b=>by rw [hF,z1]; omega
   have:X=X1:=funext fun b=>by rw [hX,z2]; omega
   subst_vars
   simpa [Value.cells,cellsOf] using h1
theorem PR.hide {v:Value} {x:AV} (P1:PR B hid w a E Fs Xs FP XP [v] [x]) {q:Nat} (hq:B.n≤q) :
  ∃ Fs' Xs',Rel B (fun t=>if t=q then v else hid t) w a (E.put q x) Fs' Xs':=by
 have R:=P1.rel
 obtain ⟨Fs',Xs',R',_⟩:=R.hput (w':=w) (E':=E.put q x) q hq (fun _=>False) (fun h=>h) v x FP XP
  (fun t h _=>⟨bV h,cW h⟩) cN rfl (fun _ h=>h.elim) (fun t _ _=>⟨fun _ _=>rfl,fun _ _=>rfl⟩)
  (fun lk' links=>P1.rep.same links (fun _ _=>rfl) (fun _ _=>rfl)) P1.one (fun t _ _ b=>P1.dis t b) P1.dx3 (fun t _ _ b=>P1.dx1 t b) (fun t _ _ b=>P1.dx2 t b)
  (Grows.refl _) (fun _ _ _=>rfl) P1.org P1.orgx
 exact ⟨Fs',Xs',R'⟩
theorem add_zero (a:Addr):a.add 0=a:=by
 cases a with
 | mk b o e=>unfold Addr.add; split <;> simp_all
theorem aga {b:Nat} {cs:List AV} (P1:PR B hid w a E Fs Xs FP XP [.pointer (some ⟨b,0,none⟩)] [.box cs]) (hh:∀ t,t<2000→hid t=hv t) {d:Nat} (hd:d<B.n) (hn:B.n≤1000) :
  bB B hv w (a.put (some d) (.pointer (some ⟨b,0,none⟩))) ((E.put (5000+d) (.box cs)).put d (.ref (5000+d) (fM ((E.put (5000+d) (.box cs)).ep (5000+d)) []) [] ⟨0,0,0⟩)):=by
 obtain ⟨Fs',Xs',R'⟩:=P1.hide (q:=5000+d) (by omega)
 have hlk:aN w (aI a.tmps (fun t=>if t=5000+d then .pointer (some ⟨b,0,none⟩) else hid t)) (E.put (5000+d) (.box cs)) (5000+d) (fM ((E.put (5000+d) (.box cs)).ep (5000+d)) []) []=some (some (.pointer (some ⟨b,0,none⟩))):=by
  unfold aN
  rw [lK (by omega),lF ⟨rfl,by rw [cN]; rfl,by rw [cN]; rfl⟩,pD (by rw [R'.size]; omega)]
  simp [iI]
 have hr:RepA w (aN w (aI a.tmps (fun t=>if t=5000+d then .pointer (some ⟨b,0,none⟩) else hid t)) (E.put (5000+d) (.box cs))) (fun _=>0) (fun _=>0) [.pointer (some ⟨b,0,none⟩)]
   [.ref (5000+d) (fM ((E.put (5000+d) (.box cs)).ep (5000+d)) []) [] ⟨0,0,0⟩]:=
  .ref _ _ _ _ _ _ _ _ _ _ hlk (fun u hu=>by cases hu; exact ⟨⟨b,0,none⟩,rfl,by rw [lA4,lF2,add_zero]⟩) RepA.znil
 obtain ⟨XP',P2⟩:=PR.ofRel R' hr (fun _=>rfl) (fun b hb=>absurd rfl hb)
 exact bD P2 (fun t ht=>by rw [lK (by omega)]; exact hh t ht) hd
theorem acL (w:World) (o:Obj):(w.alloc o).heap[w.heap.size]?=some o:=by
 show (w.heap.push o)[w.heap.size]?=some o
 simp
theorem uU (w:World) (t:TypeId) (v:Value):(newVar t v).run P w=.ok ⟨w.heap.size,0,none⟩ (w.alloc (.cells v.cells t)):=by
 simp [newVar,newRow]
theorem agb:∀ (l:List AV),fK l=true→bS l=false:=by
 intro l
 induction l with
 | nil=>intro _; rfl
 | cons a l ih=>
  intro h
  cases a <;> first | (simp only [fK,lN] at h; simp [bS,AV.owns,ih h.2]) | (simp only [fK] at h; simp [bS,AV.owns,ih h]) | (simp [fK] at h)
theorem agc {t:TypeId} {x:Operand} {o1:O} {d:Nat} {E':Env} (ho:o.op=.box t x) (hd:o.dst=some d) (hdn:d<B.n) (hn:B.n≤1000)
  (hx:OpdOk B.n x o1) (G:bB B hv w a E) (h:ev E (.box d o1)=some E') :
  o.wp P a w (fun a' w'=>bB B hv w' a' E') Q:=by
 simp only [ev] at h
 have go:∀ {g:AV × Env} {hid:Nat→Value} {Fs' Xs':Nat→aH} {FP' XP':aH},(∀ t,t<2000→hid t=hv t)→PR B hid w a g.2 Fs' Xs' FP' XP' [a.eval x] [g.1]→plain g.1=true →
   o.wp P a w (fun a' w'=>bB B hv w' a' ((g.2.put (5000+d) (.box (cellsOf g.1))).put d (.ref (5000+d) (fM ((g.2.put (5000+d) (.box (cellsOf g.1))).ep (5000+d)) []) [] ⟨0,0,0⟩))) Q:=by
  intro g hid Fs' Xs' FP' XP' hh P' hp
  have P2:=P'.rerep (iL P'.rep hp)
  obtain ⟨FP2,P3⟩:=PR.wrap (v:=.pointer (some ⟨w.heap.size,0,none⟩)) (x:=.box (cellsOf g.1)) (w':=w.alloc (.cells (a.eval x).cells t)) (o:=.cells (a.eval x).cells t) P2 rfl (fun hr=>
   .box _ FP' (fun _=>0) _ XP' (fun _=>0) w.heap.size (a.eval x).cells t (0,0) _ _ _ (acL _ _) (by intro o ho hc; omega) hr RepA.znil (fun _=>by omega) (fun _=>by omega))
  refine bN (v:=.pointer (some ⟨w.heap.size,0,none⟩)) (w':=w.alloc (.cells (a.eval x).cells t)) ?_ hd (aga P3 hh hdn hn)
  rw [execOp,ho]
  simp [Instr.box,uU]
 obtain ⟨hid,Fs,Xs,R,hh⟩:=G
 split at h
 ·rename_i hl
  cases h
  obtain ⟨F,X,r,_,hX,_⟩:=bI R hx
  have hF:∀ b,F b=0:=fC r (by
   generalize val E o1=y at hl
   cases y <;> first | cases hl | (simp only [mT] at hl; simp [bS,AV.owns,agb _ hl]))
  obtain ⟨XP',P'⟩:=PR.ofRel R r hF hX
  exact go (g:=(val E o1,E)) hh P' (by
   show plain (val E o1)=true
   generalize val E o1=y at hl
   cases y <;> first | cases hl | rfl)
 ·cases hg:dT E o1 with
  | none=>simp [hg] at h
  | some g=>
   simp only [hg,lD] at h
   split at h
   case isFalse=>cases h
   rename_i hp
   cases h
   obtain ⟨Fs',Xs',FP',XP',P'⟩:=dM (x':=g.1) (E':=g.2) hx (PR.nil R) hg
   simp only [lD1] at P'
   exact go hh P' hp
theorem acM {lk:Lk}:∀ (vs:List Value) (ts:List TV),dU vs ts=true→RepA w lk (fun _=>0) (fun _=>0) vs (ts.map TV.av):=by
 intro vs ts
 fun_induction dU vs ts with
 | case1=>intro _; exact RepA.znil
 | case2 vs ts ih=>intro h; exact .bool _ _ _ _ _ (ih h)
 | case3 k vs k' ts ih=>intro h; simp at h; obtain ⟨rfl,h⟩:=h; exact .int _ _ _ _ _ _ (ih h)
 | case4 s vs ts ih=>
  intro h; simp at h
  have hs:Value.string s=c7 []:=by
   cases s with | mk d=>simp [c7] at h ⊢; exact h.1
  rw [hs]
  exact .str _ _ [] _ _ (ih h.2)
 | case5 vs s ts ih=>intro h; exact .own _ (fun _=>0) (fun _=>0) _ s [] _ _ _ (.own0 _ s [] [] (.nil _ _ fun _=>rfl)) (ih h) (fun _=>rfl)
 | case6=>intro h; cases h
theorem rU:∀ (vs:List Value) (ts:List TV),dU vs ts=true→Row w true (fun _=>0) vs ts:=by
 intro vs ts
 fun_induction dU vs ts with
 | case1=>intro _; exact .nil _ _ fun _=>rfl
 | case2 vs ts ih=>intro h; exact .bool _ _ _ _ _ (ih h)
 | case3 k vs k' ts ih=>intro h; simp at h; obtain ⟨rfl,h⟩:=h; exact .int _ _ _ _ _ _ (ih h)
 | case4 s vs ts ih=>
  intro h; simp at h
  have hs:Value.string s=c7 []:=by
   cases s with | mk d=>simp [c7] at h ⊢; exact h.1
  rw [hs]
  exact .str _ _ [] _ _ (ih h.2)
 | case5 vs s ts ih=>intro h; exact .own0 _ s vs ts (ih h)
 | case6=>intro h; cases h
structure ZeroOk (P:Program) (t:TypeId) (ts:List TV):Prop where
 ex:∃ i z,P.info? t=some i∧i.zero=some z∧dU z.cells.toList ts=true
theorem nY {t:TypeId} {ts:List TV} (h:xY P t=some ts):ZeroOk P t ts:=by
 unfold xY at h
 cases h1:ak9 P 10 t with
 | none=>simp [h1] at h
 | some ts'=>
  cases h2:P.info? t with
  | none=>simp [h1,h2] at h
  | some i=>
   cases h3:i.zero with
   | none=>simp [h1,h2,h3] at h
   | some z=>
    simp only [h1,h2,h3,lD] at h
    split at h
    ·cases h; exact ⟨i,z,h2,h3,by assumption⟩
    ·cases h
theorem agd {t:TypeId} {zero:List TV} {d:Nat} {E':Env} (ho:o.op=.alloc t) (hd:o.dst=some d) (hdn:d<B.n) (hn:B.n≤1000)
  (hz:ZeroOk P t zero) (G:bB B hv w a E) (h:ev E (.alc d zero)=some E') :
  o.wp P a w (fun a' w'=>bB B hv w' a' E') Q:=by
 simp only [ev,Option.some.injEq] at h
 subst h
 obtain ⟨⟨i,z,hi,hiz,hzm⟩⟩:=hz
 obtain ⟨hid,Fs,Xs,R,hh⟩:=G
 have P0:=PR.nil R
 have P2:PR B hid w a E Fs Xs (fun _=>0) (fun _=>0) z.cells.toList (zero.map TV.av):=P0.rerep (acM _ _ hzm)
 obtain ⟨FP2,P3⟩:=PR.wrap (v:=.pointer (some ⟨w.heap.size,0,none⟩)) (x:=.box (zero.map TV.av)) (w':=w.alloc (.cells z.cells t)) (o:=.cells z.cells t) P2 rfl (fun hr=>
   .box _ (fun _=>0) (fun _=>0) _ (fun _=>0) (fun _=>0) w.heap.size z.cells t (0,0) _ _ _ (acL _ _) (by intro o ho hc; omega) hr RepA.znil (fun _=>by omega) (fun _=>by omega))
 refine bN (v:=.pointer (some ⟨w.heap.size,0,none⟩)) (w':=w.alloc (.cells z.cells t)) ?_ hd (aga P3 hh hdn hn)
 rw [execOp,ho]
 simp [Instr.alloc,zeroValue,typeInfo,hi,hiz,uU]
inductive OpdsOk (n:Nat):List Operand→List O→Prop where
 | nil:OpdsOk n [] []
 | cons {x:Operand} {o:O} {xs:List Operand} {os:List O} (h:OpdOk n x o) (t:OpdsOk n xs os):OpdsOk n (x::xs) (o::os)
theorem aiV (R:Rel B hid w a E Fs Xs):∀ {ps:List Operand} {os:List O},OpdsOk B.n ps os→bS (os.map (val E))=false →
  ∃ X,RepA w (aN w (aI a.tmps hid) E) (fun _=>0) X (ps.map a.eval) (os.map (val E))∧∀ b,X b≠0→∃ t,Xs t b≠0:=by
 intro ps os h
 induction h with
 | nil=>intro _; exact ⟨_,RepA.znil,fun b hb=>absurd rfl hb⟩
 | cons h1 _ ih=>
  intro ho
  simp [bS] at ho
  obtain ⟨X2,r2,x2⟩:=ih (by simpa using ho.2)
  obtain ⟨F,X,hr,_,hX,_⟩:=bI R h1
  have hz:=fC hr (by simpa [bS] using ho.1)
  refine ⟨fun b=>X b+X2 b,RepA.cons (hr.foot (G:=fun _=>0) (fun b=>(hz b).symm) (fun _=>rfl)) r2 (fun b=>rfl) (fun b=>rfl),?_⟩
  intro b hb
  by_cases e:X b=0
  ·exact x2 b (by (try dsimp only at hb); omega)
  ·exact hX b e
theorem age {f:Nat} {ps:Array Operand} {os:List O} {d:Nat} {E':Env} (ho:o.op=.makeFunc (.func f) #[] ps) (hd:o.dst=some d) (hdn:d<B.n)
  (hx:OpdsOk B.n ps.toList os) (G:bB B hv w a E) (h:ev E (.mkf d f os)=some E') :
  o.wp P a w (fun a' w'=>bB B hv w' a' E') Q:=by
 simp only [ev] at h
 split at h
 ·cases h
 rename_i hown
 cases h
 refine bN (v:=.func (.func f) #[] (ps.map a.eval)) (w':=w) ?_ hd ?_
 ·rw [execOp,ho]
  simp [Instr.makeFunc]
 ·refine fA G hdn fun hid Fs Xs R=>?_
  obtain ⟨X,hr,hX⟩:=aiV R hx (by simpa using hown)
  have e:(ps.map a.eval)=(ps.toList.map a.eval).toArray:=by rw [← lR4]
  rw [e]
  exact ⟨fun _=>0,X,.fn _ (fun _=>0) (fun _=>0) _ X (fun _=>0) f _ _ _ _ hr RepA.znil (fun _=>rfl) (fun _=>by omega),fun _=>rfl,hX⟩
theorem acN {α:Type} (L:List α) (m:Nat) (c:α) (l:List α) (h:m+(l.length+1)≤L.length):lay (L.set m c) (m+1) l=lay L m (c::l):=by
 unfold lay
 have h1:(L.set m c).take (m+1)=L.take m++[c]:=by
  apply lI2
  intro i
  simp only [lJ1,lR3,lN3,lT]
  rw [lK1 (by omega)]
  by_cases e:i<m
  ·have:m≠i:=by omega
   simp [e,this,Nat.lt_succ_of_lt e]
  ·by_cases e2:i=m
   ·subst e2; simp; omega
   ·have:¬ i<m+1:=by omega
    simp [e,this]
    omega
 have h2:(L.set m c).drop (m+1+l.length)=L.drop (m+(l.length+1)):=by
  rw [List.drop_set_of_lt (by omega)]
  congr 1
  omega
 rw [h1,h2]
 simp
theorem agh {α:Type}:∀ (l:List α) (k off:Nat) (A:Array α),off+k+l.length≤A.size →
  ((l.zipIdx k).foldl (fun cs (p:α × Nat)=>cs.setIfInBounds (off+p.2) p.1) A).toList=lay A.toList (off+k) l:=by
 intro l
 induction l with
 | nil=>intro k off A h; simp [lay]
 | cons c l ih=>
  intro k off A h
  simp only [lN1] at h
  simp only [List.zipIdx_cons,lV2]
  rw [ih (k+1) off _ (by simp; omega)]
  rw [Array.toList_setIfInBounds,← Nat.add_assoc,acN _ _ _ _ (by simp; omega)]
theorem yE {places:Nat→Option (Nat × Nat)} {C:Array Value} {i off sz:Nat} {v:Value} (hp:places i=some (off,sz)) (hs:v.cells.size=sz) (hle:off+sz≤C.size) :
  ∃ C',C'.toList=lay C.toList off v.cells.toList∧∀ rest,Instr.fill places C ((i,v)::rest)=Instr.fill places C' rest:=by
 refine ⟨v.cells.zipIdx.foldl (fun cs (c,j)=>cs.setIfInBounds (off+j) c) C,?_,fun rest=>?_⟩
 ·have:=agh v.cells.toList 0 off C (by simp; omega)
  rw [lQ3] at this
  rw [← this,← Array.foldl_toList,Array.toList_zipIdx]
 ·simp only [Instr.fill,hp]
  rw [lK (by simp; omega)]
theorem jH {α:Type} (L:List α) (m:Nat) (l:List α) (h:m+l.length≤L.length):(lay L m l).length=L.length:=by
 simp [lay]; omega
theorem PR.lay {zs us:List Value} {cs xs:List AV} (P1:PR B hid w a E Fs Xs FP XP (zs++us) (cs++xs)) (hz:zs.length=cs.length) (off:Nat) (h:off+us.length≤zs.length) :
  ∃ FP' XP',PR B hid w a E Fs Xs FP' XP' (Awp.lay zs off us) (Awp.lay cs off xs):=by
 obtain ⟨A1,A2,Y1,Y2,q1,q2,e1,e2⟩:=RepA.split zs cs hz P1.rep
 have hl:=q2.length
 have q1':RepA w (aN w (aI a.tmps hid) E) A1 Y1 (zs.take off++zs.drop off) (cs.take off++cs.drop off):=by simpa using q1
 obtain ⟨A3,A4,Y3,Y4,q3,q4,e3,e4⟩:=RepA.split _ _ (by simp [hz]) q1'
 have q4':RepA w (aN w (aI a.tmps hid) E) A4 Y4 ((zs.drop off).take us.length++zs.drop (off+us.length)) ((cs.drop off).take us.length++cs.drop (off+us.length)):=by
  rw [← lW1,← lW1,lJ,lJ]; exact q4
 obtain ⟨A5,A6,Y5,Y6,q5,q6,e5,e6⟩:=RepA.split _ _ (by simp [hz]) q4'
 refine ⟨fun b=>A3 b+A2 b+A6 b,fun b=>Y3 b+Y2 b+Y6 b,P1.shrink ?_ ?_ ?_⟩
 ·unfold Awp.lay
  rw [← hl]
  exact RepA.append (RepA.append q3 q2 (fun _=>rfl) (fun _=>rfl)) q6 (fun _=>rfl) (fun _=>rfl)
 ·intro b; have:=e1 b; have:=e3 b; have:=e5 b; (try dsimp only); omega
 ·intro b; have:=e2 b; have:=e4 b; have:=e6 b; (try dsimp only); omega
theorem yF (R:Rel B hid w a E Fs Xs) {F X:aH} {v:Value} {x:AV} (h:RepA w (aN w (aI a.tmps hid) E) F X [v] [x]) (hp:dB E x=true) :
  RepA w (aN w (aI a.tmps hid) E) F X v.cells.toList (cellsOf x):=by
 by_cases hq:plain x=true
 ·exact iL h hq
 cases x <;> simp only [plain,not_true_eq_false] at hq
 case undef=>cases hp
 case lnk r e p=>
  simp only [dB,lA1] at hp
  obtain ⟨⟨s,es⟩,hn⟩:=hp
  obtain ⟨hd,G,hrow,hlk⟩:=gJ R hn
  have hvv:v=hd:=by
   cases h with
   | lnk _ _ _ _ _ o _ _ _ ho hv' _=>rw [hlk] at ho; cases ho; exact hv' _ rfl
  have hv:v.cells.toList=[v]:=by
   subst hvv
   rcases Row.sl_inv hrow with ⟨rfl,_⟩ | ⟨_,_,_,_,_,_,_,_,rfl,_⟩ <;> rfl
  rw [hv]; exact h
 case sub r e p s lo n=>
  simp only [dB,lA1] at hp
  obtain ⟨⟨s',es⟩,hn⟩:=hp
  obtain ⟨hd,G,hrow,hlk⟩:=gJ R hn
  have hv:v.cells.toList=[v]:=by
   cases h with
   | sub _ _ _ _ _ _ _ _ o _ _ _ ho hv' _=>
    rw [hlk] at ho; cases ho
    obtain ⟨base,len,cap,a',_,rfl,_⟩:=hv' _ rfl
    rfl
  rw [hv]; exact h
 case ref r e p st=>
  obtain ⟨u,hlk⟩:=afX R (r:=r) (e:=e) (p:=p) hp
  have hv:v.cells.toList=[v]:=by
   cases h with
   | ref _ _ _ _ _ _ o _ _ _ ho hv' _=>
    rw [hlk] at ho; cases ho
    obtain ⟨_,_,rfl⟩:=hv' _ rfl
    rfl
  rw [hv]; exact h
inductive PartsOk (P:Program) (n:Nat) (places:Nat→Option (Nat × Nat)):List (Nat × Operand)→List (Nat × Nat × O)→Prop where
 | nil:PartsOk P n places [] []
 | cons {i off sz:Nat} {x:Operand} {o:O} {ps:List (Nat × Operand)} {l:List (Nat × Nat × O)} (hp:places i=some (off,sz)) (h:OpdOk n x o) (t:PartsOk P n places ps l) :
   PartsOk P n places ((i,x)::ps) ((off,sz,o)::l)
theorem aa3 {places:Nat→Option (Nat × Nat)}:∀ {ps:List (Nat × Operand)} {l:List (Nat × Nat × O)},PartsOk P B.n places ps l→∀ {E E':Env} {cs cs':List AV} {C:Array Value} {Fs Xs:Nat→aH} {FP XP:aH},
  PR B hid w a E Fs Xs FP XP C.toList cs→mS E cs l=some (cs',E') →
  ∃ C' Fs' Xs' FP' XP',Instr.fill places C (ps.map fun p=>(p.1,a.eval p.2))=some C'∧PR B hid w a E' Fs' Xs' FP' XP' C'.toList cs':=by
 intro ps l h
 induction h with
 | nil=>
  intro E E' cs cs' C Fs Xs FP XP P1 hg
  simp only [mS,Option.some.injEq,Prod.mk.injEq] at hg
  obtain ⟨rfl,rfl⟩:=hg
  exact ⟨C,_,_,_,_,rfl,P1⟩
 | cons hp h1 _ ih=>
  intro E E' cs cs' C Fs Xs FP XP P1 hg
  rename_i i off sz x o1 ps l _
  simp only [mS] at hg
  split at hg
  case isFalse=>cases hg
  rename_i hc
  obtain ⟨hc1,hc2,hc3⟩:=hc
  obtain ⟨Fs1,Xs1,FP1,XP1,P2⟩:=fX h1 P1
  have hCl:=P1.rep.length
  obtain ⟨A1,A2,Y1,Y2,q1,q2,e1,e2⟩:=RepA.split _ _ hCl P2.rep
  have q2':=yF P2.rel q2 hc3
  have P3:=P2.rerep (RepA.append q1 q2' e1 e2)
  have hlen:=q2'.length
  obtain ⟨FP2,XP2,P4⟩:=P3.lay hCl off (by rw [hlen,hc1,hCl]; exact hc2)
  obtain ⟨C1,hC1,hfill⟩:=yE (v:=a.eval x) hp (by rw [← hc1,← hlen]; simp) (by rw [← lP1,hCl]; exact hc2)
  rw [← hC1] at P4
  obtain ⟨C',Fs',Xs',FP',XP',hf,P5⟩:=ih P4 hg
  exact ⟨C',Fs',Xs',FP',XP',by simp only [lO]; rw [hfill]; exact hf,P5⟩
theorem agi {t:TypeId} {fs:Array Field} {places:List (Nat × Nat)} {ps:Array (Nat × Operand)} {zero:List TV} {l:List (Nat × Nat × O)} {d:Nat} {E':Env} (ho:o.op=.build t ps) (hd:o.dst=some d) (hdn:d<B.n)
  (hu:P.underlying t=some (.struct fs)) (hpl:fs.toList.mapM (fun f=>(P.info? f.type).map fun i=>(f.offset,i.size))=some places)
  (hz:ZeroOk P t zero) (hps:PartsOk P B.n (places.toArray[·]?) ps.toList l) (G:bB B hv w a E) (h:ev E (.bld d zero l)=some E') :
  o.wp P a w (fun a' w'=>bB B hv w' a' E') Q:=by
 simp only [ev] at h
 cases hg:mS E (zero.map TV.av) l with
 | none=>simp [hg] at h
 | some g=>
  simp [hg] at h; subst h
  obtain ⟨⟨i,z,hi,hiz,hzm⟩⟩:=hz
  obtain ⟨hid,Fs,Xs,R,hh⟩:=G
  have P0:=(PR.nil R).rerep (acM _ _ hzm)
  obtain ⟨C',Fs',Xs',FP',XP',hf,P1⟩:=aa3 (cs':=g.1) (E':=g.2) hps P0 hg
  have P2:PR B hid w a g.2 Fs' Xs' FP' XP' [.agg C'] [.agg g.1]:=by
   refine P1.rerep ?_
   have:=RepA.agg (w:=w) _ FP' (fun _=>0) _ XP' (fun _=>0) _ _ [] [] P1.rep RepA.znil (fun x=>rfl) (fun x=>rfl)
   simpa using this
  refine bN (v:=.agg C') (w':=w) ?_ hd (bD P2 hh hdn)
  rw [execOp,ho]
  have hb:=run_build (P:=P) w t (ps.map fun p=>(p.1,a.eval p.2)) C' (by
   unfold Program.built
   simp only [hi,hu,hiz,hpl]
   rw [lR4]; exact hf)
  simp [hb]
theorem RepA.to_rows {lk:Lk}:∀ {vs:List Value} {xs:List AV} {ts:List TV} {F X:aH},RepA w lk F X vs xs→tvs xs=some ts→Row w true F vs ts∧∀ b,X b=0:=by
 intro vs xs
 induction xs generalizing vs with
 | nil=>
  intro ts F X h e
  simp [tvs] at e; subst e
  cases h with | nil _ _ h1 h2=>exact ⟨.nil _ _ h1,h2⟩
 | cons x xs ih=>
  intro ts F X h e
  cases vs with
  | nil=>have:=h.length; simp at this
  | cons v vs=>
   simp only [tvs] at e
   cases h1:x.tv with
   | none=>simp [h1] at e
   | some t=>
    cases h2:tvs xs with
    | none=>simp [h1,h2] at e
    | some ts'=>
     simp [h1,h2] at e; subst e
     obtain ⟨A1,A2,Y1,Y2,q1,q2,e1,e2⟩:=RepA.uncons h
     obtain ⟨r1,z1⟩:=RepA.to_row q1 h1
     obtain ⟨r2,z2⟩:=ih q2 h2
     exact ⟨Row.cons r1 r2 e1,fun b=>by rw [e2,z1,z2]⟩
theorem RepA.of_rows {lk:Lk}:∀ {vs:List Value} {ts:List TV} {F:aH},Row w true F vs ts→RepA w lk F (fun _=>0) vs (ts.map TV.av):=by
 intro vs ts
 induction ts generalizing vs with
 | nil=>
  intro F h
  have:=h.length
  cases vs with
  | nil=>cases h with | nil _ _ h1=>exact .nil _ _ h1 fun _=>rfl
  | cons v vs=>simp at this
 | cons t ts ih=>
  intro F h
  cases vs with
  | nil=>have:=h.length; simp at this
  | cons v vs=>
   obtain ⟨A1,A2,q1,q2,e1⟩:=Row.uncons h
   exact RepA.cons (RepA.of_row q1) (ih q2) e1 (fun _=>rfl)
theorem anK (t:TV):t.av.tv=some t:=by cases t <;> rfl
theorem akK (ts:List TV):tvs (ts.map TV.av)=some ts:=by
 induction ts with
 | nil=>rfl
 | cons t ts ih=>simp [tvs,anK,ih]
theorem agj (s:Nat):∀ (vs:List Value) (k:Nat) (C:Array Value),(∀ v ∈ vs,v.cells.size=s)→(k+vs.length)*s=C.size →
  ∃ C',Instr.fill (fun i=>some (i*s,s)) C ((vs.zipIdx k).map fun p=>(p.2,p.1))=some C'∧C'.toList=C.toList.take (k*s)++(vs.map fun v=>v.cells.toList).flatten:=by
 intro vs
 induction vs with
 | nil=>intro k C _ h; exact ⟨C,rfl,by simp at h; rw [h,← lP1,lE2]; simp⟩
 | cons v vs ih=>
  intro k C hv h
  have hlen:k*s+s+vs.length*s=C.size:=by
   rw [← h,lN1,show k+(vs.length+1)=k+1+vs.length by omega,lZ2,lZ2]; omega
  have hvs:v.cells.size=s:=hv v (by simp)
  obtain ⟨C1,hC1,hf⟩:=yE (places:=fun i=>some (i*s,s)) (C:=C) (i:=k) (v:=v) rfl hvs (by omega)
  have hC1s:C1.size=C.size:=by
   rw [← lP1,hC1,jH _ _ _ (by simp; omega)]; simp
  obtain ⟨C',h1,h2⟩:=ih (k+1) C1 (fun v hv'=>hv v (by simp [hv'])) (by rw [hC1s,← h]; simp only [lN1]; congr 1; omega)
  refine ⟨C',?_,?_⟩
  ·simp only [List.zipIdx_cons,lO,hf]; exact h1
  ·rw [h2,hC1]
   simp only [lay,lO,lB3]
   rw [← lP2]
   congr 1
   have e:(k+1)*s=k*s+s:=by rw [lZ2,Nat.one_mul]
   rw [e]
   have h3:(C.toList.take (k*s)++v.cells.toList).length=k*s+s:=by simp; omega
   rw [← h3,List.take_left]
theorem aa4:∀ {ps:List Operand} {os:List O},OpdsOk B.n ps os→∀ {E E':Env} {zs:List Value} {ys:List AV} {rows:List (List TV)} {s:Nat} {Fs Xs:Nat→aH} {FP XP:aH},
  PR B hid w a E Fs Xs FP XP zs ys→jO E os=some (rows,E')→(∀ r ∈ rows,r.length=s) →
  ∃ Fs' Xs' FP' XP',PR B hid w a E' Fs' Xs' FP' XP' (zs++(ps.map fun x=>(a.eval x).cells.toList).flatten) (ys++rows.flatten.map TV.av)∧rows.length=ps.length∧(∀ x ∈ ps,(a.eval x).cells.size=s):=by
 intro ps os h
 induction h with
 | nil=>
  intro E E' zs ys rows s Fs Xs FP XP P1 hg hs
  simp only [jO,Option.some.injEq,Prod.mk.injEq] at hg
  obtain ⟨rfl,rfl⟩:=hg
  exact ⟨_,_,_,_,by simpa using P1,rfl,by simp⟩
 | cons h1 _ ih=>
  intro E E' zs ys rows s Fs Xs FP XP P1 hg hs
  rename_i x o1 ps os _
  simp only [jO] at hg
  cases hq:dT E o1 with
  | none=>simp [hq] at hg
  | some g=>
   simp only [hq,lD] at hg
   split at hg
   case isFalse=>cases hg
   rename_i hp
   cases ht:tvs (cellsOf g.1) with
   | none=>simp [ht] at hg
   | some ts=>
    simp only [ht,lD] at hg
    cases hr:jO g.2 os with
    | none=>simp [hr] at hg
    | some y=>
     simp only [hr,lB,Option.some.injEq,Prod.mk.injEq] at hg
     obtain ⟨rfl,rfl⟩:=hg
     obtain ⟨Fs1,Xs1,FP1,XP1,P2⟩:=dM (x':=g.1) (E':=g.2) h1 P1 hq
     obtain ⟨A1,A2,Y1,Y2,q1,q2,e1,e2⟩:=RepA.split _ _ P1.rep.length P2.rep
     have q3:=iL q2 hp
     obtain ⟨q4,z4⟩:=RepA.to_rows q3 ht
     have P3:=P2.rerep (RepA.append q1 (RepA.of_rows (lk:=aN w (aI a.tmps hid) g.2) q4) e1 (fun b=>by rw [e2,z4]))
     obtain ⟨Fs',Xs',FP',XP',P4,h5,h6⟩:=ih (rows:=y.1) (E':=y.2) P3 hr (fun r hr'=>hs r (by simp [hr']))
     have hsz:(a.eval x).cells.size=s:=by
      have:=q4.length
      rw [lP1] at this
      rw [this]; exact hs ts (by simp)
     refine ⟨Fs',Xs',FP',XP',by simpa using P4,by simp [h5],?_⟩
     intro z hz
     rcases lG.1 hz with rfl | hz
     ·exact hsz
     ·exact h6 z hz
theorem wG {C:Array Value} {ty:TypeId} {rows:List (List TV)} {cs:List Value} {s cap:Nat} (P1:PR B hid w a E Fs Xs FP XP cs (rows.flatten.map TV.av)) (hs:∀ r ∈ rows,r.length=s)
  (hcap:cap*s≤C.size) (hle:rows.length≤cap) (hc:∀ k,k<cs.length→C[k]?=cs[k]?) (h:w'.heap=w.heap.push (.cells C ty)) (hk:Quiet w w':=by exact ⟨rfl,rfl⟩) :
  ∃ FP',PR B hid w' a E Fs Xs FP' XP [.slice (some ⟨w.heap.size,0,none⟩) rows.length cap] [.own s rows]:=by
 refine PR.wrap P1 h (hk:=hk) fun hr=>?_
 obtain ⟨q,z⟩:=RepA.to_rows hr (akK _)
 have hcs:cs.length=rows.length*s:=by rw [q.length,bY _ hs]
 have:=yC (n0:=w.heap.size) (C:=C) (ty:=ty) (fr:=(0,0)) (s:=s) (cap:=cap) (by rw [h]; simp) ⟨by intro o ho hc; omega,by simp⟩ hcap hle hs hcs hc q
 exact .own _ _ (fun _=>0) _ _ _ _ _ _ this (.nil _ _ (fun _=>rfl) z) (fun x=>rfl)
theorem sR (w:World) (t e:TypeId) (ie:TypeInfo)
  (hu:P.underlying t=some (.slice e)) (hie:P.info? e=some ie) :
  (Instr.buildSlice t 0 #[]).run P w=.ok (.slice (some ⟨w.heap.size,0,none⟩) 0 0) (w.alloc (.cells #[] e)):=by
 have e0:Array.range 0=#[]:=rfl
 simp [Instr.buildSlice,run_underlying hu,sizeOf,typeInfo,hie,newRow,Instr.fill,e0]
theorem agk {t e:TypeId} {n s d:Nat} {ps:Array (Nat × Operand)} {os:List O} {ie:TypeInfo} {z:Value} {E':Env} (ho:o.op=.buildSlice t n ps) (hd:o.dst=some d) (hdn:d<B.n)
  (hu:P.underlying t=some (.slice e)) (hie:P.info? e=some ie) (hz:ie.zero=some z) (hse:ie.size=s) (hs0:s≠0) (hn:n*s≤2^24) {xs:List Operand} (hps:ps.toList=(xs.zipIdx 0).map fun p=>(p.2,p.1))
  (hxn:xs.length=n) (hx:OpdsOk B.n xs os) (G:bB B hv w a E) (h:ev E (.bsl d s os)=some E') :
  o.wp P a w (fun a' w'=>bB B hv w' a' E') Q:=by
 simp only [ev] at h
 cases hg:jO E os with
 | none=>simp [hg] at h
 | some g=>
  simp only [hg,lD] at h
  split at h
  case isFalse=>cases h
  rename_i hall
  cases h
  simp only [lV,beq_iff_eq] at hall
  obtain ⟨hid,Fs,Xs,R,hh⟩:=G
  obtain ⟨Fs',Xs',FP',XP',P1,h5,h6⟩:=aa4 (rows:=g.1) (E':=g.2) hx (PR.nil R) hg hall
  simp only [lD1] at P1
  obtain ⟨C',hf,hC'⟩:=agj s (xs.map a.eval) 0 ((Array.range (n*s)).map (z.cells[· % z.cells.size]!)) (by simpa using h6) (by simp [hxn])
  simp only [lA4,List.take_zero,lD1,lX4] at hC'
  have hlen:g.1.length=n:=by rw [h5,hxn]
  have hCs:C'.size=n*s:=by
   have:=P1.rep.length
   rw [lW2,bY _ hall,hlen] at this
   rw [← lP1,hC']; exact this
  obtain ⟨FP2,P2⟩:=wG (C:=C') (ty:=e) (cap:=n) (w':=w.alloc (.cells C' e)) P1 hall (by omega) (by omega) (by
   intro k hk
   rw [← lJ2,hC']
   rfl) rfl
  rw [hlen] at P2
  refine bN (v:=.slice (some ⟨w.heap.size,0,none⟩) n n) (w':=w.alloc (.cells C' e)) ?_ hd (bD P2 hh hdn)
  rw [execOp,ho]
  have hpe:(ps.map fun p=>(p.1,a.eval p.2)).toList=((xs.map a.eval).zipIdx 0).map fun p=>(p.2,p.1):=by
   rw [lR4,hps,List.zipIdx_map,lX4,lX4]
   rfl
  by_cases hn0:n=0
  ·subst hn0
   have hx0:xs=[]:=by simpa using hxn
   subst hx0
   have hp0:ps=#[]:=by simpa using hps
   subst hp0
   have hC0:C'=#[]:=by simpa using hCs
   subst hC0
   simp [sR w t e ie hu hie]
  ·have:=run_buildSlice (P:=P) w t e n (ps.map fun p=>(p.1,a.eval p.2)) C' ie z hu hie hz (by rw [hse]; omega) (by rw [hse]; exact Nat.mul_ne_zero hn0 hs0) (by
    rw [hpe,hse]; exact hf)
   simp [this]
theorem akL {α:Type} (L:List α):∀ (m k:Nat),k<m*L.length→(List.replicate m L).flatten[k]?=L[k%L.length]?:=by
 intro m
 induction m with
 | zero=>intro k h; omega
 | succ m ih=>
  intro k h
  simp only [List.replicate_succ,lB3,lN3]
  rw [lZ2,Nat.one_mul] at h
  by_cases e:k<L.length
  ·rw [lF e,Nat.mod_eq_of_lt e]
  ·rw [lK e,ih _ (by omega),Nat.mod_eq_sub_mod (a:=k) (by omega)]
theorem agl {t e:TypeId} {s bts d:Nat} {x y:Operand} {o1 o2:O} {zero:List TV} {ie:TypeInfo} {E':Env} (ho:o.op=.makeSlice t x y) (hd:o.dst=some d) (hdn:d<B.n)
  (hu:P.underlying t=some (.slice e)) (hie:P.info? e=some ie) (hse:ie.size=s) (hbt:ie.bytes=bts) (hz:ZeroOk P e zero) (hx:OpdOk B.n x o1) (hy:OpdOk B.n y o2)
  (G:bB B hv w a E) (h:ev E (.mks d o1 o2 s bts zero)=some E') :
  o.wp P a w (fun a' w'=>bB B hv w' a' E') Q:=by
 simp only [ev] at h
 split at h
 case h_2=>cases h
 rename_i k1 l k2 c e1 e2
 split at h
 case isFalse=>cases h
 rename_i hc
 obtain ⟨hc1,hc2,hc3,hc4,hc5⟩:=hc
 cases h
 have v1:=fO G hx e1
 have v2:=fO G hy e2
 obtain ⟨⟨i,z,hi,hiz,hzm⟩⟩:=hz
 rw [hie] at hi; cases hi
 obtain ⟨hid,Fs,Xs,R,hh⟩:=G
 have hzs:z.cells.size=s:=by
  have:=(rU (w:=w) _ _ hzm).length
  rw [lP1] at this; omega
 let C:=madeCells z.cells (c.toNat*s)
 have hCs:C.size=c.toNat*s:=size_madeCells _ _
 have hrow:∀ (m:Nat),Row w true (fun _=>0) (List.replicate m z.cells.toList).flatten (List.replicate m zero).flatten:=by
  intro m
  induction m with
  | zero=>exact .nil _ _ fun _=>rfl
  | succ m ih=>
   simp only [List.replicate_succ,lB3]
   exact Row.append (rU _ _ hzm) ih (fun _=>rfl)
 have P1:=(PR.nil R).rerep (RepA.of_rows (lk:=aN w (aI a.tmps hid) E) (hrow l.toNat))
 obtain ⟨FP2,P2⟩:=wG (rows:=List.replicate l.toNat zero) (s:=s) (C:=C) (ty:=e) (cap:=c.toNat) (w':=w.alloc (.cells C e)) P1 (by
   intro r hr; rw [lK3 hr]; exact hc5) (by omega) (by simp; omega) (by
   intro k hk
   have hL:z.cells.toList.length=s:=by rw [lP1,hzs]
   have hk':k<l.toNat*z.cells.toList.length:=by
    rw [bY (s:=s) _ (by intro r hr; rw [lK3 hr]; exact hL),lK2] at hk
    rw [hL]; exact hk
   rw [akL _ _ _ hk',hL]
   have hs0:0<s:=by
    rcases Nat.eq_zero_or_pos s with h0 | h0
    ·rw [hL,h0] at hk'; omega
    ·exact h0
   have hmod:=Nat.mod_lt k hs0
   have hkc:k<c.toNat*s:=by
    have:l.toNat*s≤c.toNat*s:=lI1 _ (by omega)
    rw [hL] at hk'; omega
   simp only [C,madeCells,Array.getElem?_map,Array.getElem?_range,hkc,lP,lB,hzs,lJ2]
   rw [getElem!_pos z.cells (k%s) (by omega),lE1]) rfl
 simp only [lK2] at P2
 refine bN (v:=.slice (some ⟨w.heap.size,0,none⟩) l.toNat c.toNat) (w':=w.alloc (.cells C e)) ?_ hd (bD P2 hh hdn)
 rw [execOp,ho]
 have:=run_make (P:=P) w t e ie z hu hie hiz k1 k2 l c hc1 hc2 (by rw [hbt]; omega) (by omega)
 rw [hse,← v1,← v2] at this
 simp [this,C]
end
end Go.Proofs.YtnfeefcnblondaaGreat.Awp
