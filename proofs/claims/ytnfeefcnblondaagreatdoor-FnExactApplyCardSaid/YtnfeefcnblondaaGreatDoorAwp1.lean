/- A general law about the translated programs is proved here: what a function's code does to values that are trees of cells (part 1). Condition: none. -/
import Derived.Calls
import Derived.Orders
import Derived.Laws.World
import Derived.Laws.Cover3
import Derived.Laws.Strings
import Derived.Laws.Small
import Derived.Laws.StructEq
import Derived.Laws.Entries
import Derived.Laws.Slices
import Derived.Laws.Cells
import Derived.Lib.ConvBytes
import Derived.Laws.Tables
import Derived.Great.BuildSlice
import Derived.Laws.MakeOwn
import Derived.Laws.IdiomCopy
set_option linter.unusedVariables false
set_option linter.unusedSimpArgs false
set_option maxRecDepth 100000
set_option maxHeartbeats 20000000
namespace Go.Proofs.YtnfeefcnblondaaGreatDoor.Awp
theorem A7 {p:Prop} (h:p:=by omega):p:=h
theorem A8 {p:Prop} (h:p:=by simp):p:=h
theorem A9 {p:Prop} (h:p:=by simp[I.opds]):p:=h
theorem B0 {p:Prop} (h:p:=by simp; omega):p:=h
theorem B3 {p:Prop} (h:p:=by simp[I.dsts]):p:=h
theorem B4 {p:Prop} (h:p:=by simp[lks]):p:=h
theorem B5 {p:Prop} (h:p:=by simp[Act.eval,Act.put]):p:=h
theorem B6 {p:Prop} (h:p:=by simp[I.der]):p:=h
theorem B7 {p:Prop} (h:p:=by simp only[rt]; omega):p:=h
theorem B8 {p:Prop} (h:p:=by simp[hy]):p:=h
theorem B9 {p:Prop} (h:p:=by simp[dZ,vlv,hx]):p:=h
theorem C0 {p:Prop} (h:p:=by simp[hz]):p:=h
theorem C3 {p:Prop} (h:p:=by decide):p:=h
theorem C4 {p:Prop} (h:p:=by simp[e1]):p:=h
theorem C5 {p:Prop} (h:p:=by simp only[iC,lB g3',lG1,lT1]):p:=h
theorem C6 {p:Prop} (h:p:=by simp only[brw]; exact dl):p:=h
theorem C7 {p:Prop} (h:p:=by simp only[iC,hN,lG1,lT1]):p:=h
theorem C8 {p:Prop} (h:p:=by simp only[iC,hL,lG1,lT1]):p:=h
theorem C9 {p:Prop} (h:p:=by simp only[iC,hT,lG1,lT1]):p:=h
theorem D0 {p:Prop} (h:p:=by simp[h]):p:=h
theorem D5 {p:Prop} (h:p:=by simp[hl]):p:=h
theorem D6 {p:Prop} (h:p:=by simp[hx]):p:=h
theorem D7 {p:Prop} (h:p:=by simp[I.opds,hy]):p:=h
theorem D8 {p:Prop} (h:p:=by simp[fX]):p:=h
theorem lB:type_of% @decide_eq_false:=@decide_eq_false
theorem lC:type_of% @decide_eq_true:=@decide_eq_true
theorem lD:type_of% @Option.map_some:=@Option.map_some
theorem lE:type_of% @Option.bind_some:=@Option.bind_some
theorem lF:type_of% @List.getElem?_eq_getElem:=@List.getElem?_eq_getElem
theorem lG:type_of% @List.getElem?_eq_some_iff:=@List.getElem?_eq_some_iff
theorem lH:type_of% @List.length_take:=@List.length_take
theorem lI:type_of% @List.getElem_mem:=@List.getElem_mem
theorem lJ:type_of% @List.take_append_drop:=@List.take_append_drop
theorem lK:type_of% @if_pos:=@if_pos
theorem lL:type_of% @List.mem_append:=@List.mem_append
theorem lM:type_of% @Bool.and_eq_true:=@Bool.and_eq_true
theorem lN:type_of% @List.mem_cons:=@List.mem_cons
theorem lO:type_of% @if_neg:=@if_neg
theorem lP:type_of% @List.all_eq_true:=@List.all_eq_true
theorem lQ:type_of% @if_true:=@if_true
theorem lR:type_of% @List.map_cons:=@List.map_cons
theorem lS:type_of% @Option.map_none:=@Option.map_none
theorem lT:type_of% @List.getElem?_take:=@List.getElem?_take
theorem lU:type_of% @List.length_append:=@List.length_append
theorem lV:type_of% @List.take_succ_eq_append_getElem:=@List.take_succ_eq_append_getElem
theorem lW:type_of% @List.getD_eq_getElem?_getD:=@List.getD_eq_getElem?_getD
theorem lX:type_of% @List.take_length:=@List.take_length
theorem lY:type_of% @List.getElem?_drop:=@List.getElem?_drop
theorem lZ:type_of% @List.length_cons:=@List.length_cons
theorem lA1:type_of% @Array.getElem?_eq_getElem:=@Array.getElem?_eq_getElem
theorem lB1:type_of% @Nat.min_eq_left:=@Nat.min_eq_left
theorem lC1:type_of% @List.findIdx?_eq_some_iff_getElem:=@List.findIdx?_eq_some_iff_getElem
theorem lD1:type_of% @Array.length_toList:=@Array.length_toList
theorem lE1:type_of% @Nat.le_refl:=@Nat.le_refl
theorem lF1:type_of% @Array.getD_eq_getD_getElem?:=@Array.getD_eq_getD_getElem?
theorem lG1:type_of% @Bool.false_and:=@Bool.false_and
theorem lH1:type_of% @List.mem_singleton:=@List.mem_singleton
theorem lI1:type_of% @List.nil_append:=@List.nil_append
theorem lJ1:type_of% @Nat.mul_le_mul_right:=@Nat.mul_le_mul_right
theorem lK1:type_of% @List.length_drop:=@List.length_drop
theorem lL1:type_of% @List.getElem?_modify:=@List.getElem?_modify
theorem lM1:type_of% @List.getElem_of_mem:=@List.getElem_of_mem
theorem lN1:type_of% @if_false:=@if_false
theorem lO1:type_of% @List.length_eq_zero_iff:=@List.length_eq_zero_iff
theorem lP1:type_of% @List.getElem?_map:=@List.getElem?_map
theorem lQ1:type_of% @Nat.add_assoc:=@Nat.add_assoc
theorem lR1:type_of% @Array.getElem?_toList:=@Array.getElem?_toList
theorem lS1:type_of% @List.getElem?_append_left:=@List.getElem?_append_left
theorem lT1:type_of% @Bool.and_false:=@Bool.and_false
theorem lU1:type_of% @List.length_map:=@List.length_map
theorem lV1:type_of% @List.flatten_append:=@List.flatten_append
theorem lW1:type_of% @List.take_of_length_le:=@List.take_of_length_le
theorem lX1:type_of% @Option.bind_eq_some_iff:=@Option.bind_eq_some_iff
theorem lY1:type_of% @List.mem_of_mem_take:=@List.mem_of_mem_take
theorem lZ1:type_of% @List.mem_of_mem_drop:=@List.mem_of_mem_drop
theorem lA2:type_of% @List.drop_drop:=@List.drop_drop
theorem lB2:type_of% @List.ext_getElem?:=@List.ext_getElem?
theorem lC2:type_of% @List.getElem?_eq_none:=@List.getElem?_eq_none
theorem lD2:type_of% @List.cons_append:=@List.cons_append
theorem lE2:type_of% @List.drop_eq_getElem_cons:=@List.drop_eq_getElem_cons
theorem lF2:type_of% @List.pairwise_cons:=@List.pairwise_cons
theorem lG2:type_of% @Option.getD_some:=@Option.getD_some
theorem lH2:type_of% @Nat.add_mul:=@Nat.add_mul
theorem lI2:type_of% @Option.isSome_iff_exists:=@Option.isSome_iff_exists
theorem lJ2:type_of% @List.getElem?_append_right:=@List.getElem?_append_right
theorem lK2:type_of% @List.sum_cons:=@List.sum_cons
theorem lL2:type_of% @Nat.zero_add:=@Nat.zero_add
theorem lM2:type_of% @List.append_assoc:=@List.append_assoc
theorem lN2:type_of% @List.pairwise_iff_getElem:=@List.pairwise_iff_getElem
theorem lO2:type_of% @List.findIdx?_eq_none_iff:=@List.findIdx?_eq_none_iff
theorem lP2:type_of% @List.map_append:=@List.map_append
theorem lQ2:type_of% @Nat.le_of_ble_eq_true:=@Nat.le_of_ble_eq_true
theorem lR2:type_of% @Nat.lt_of_le_of_lt:=@Nat.lt_of_le_of_lt
theorem lS2:type_of% @Option.map_eq_some_iff:=@Option.map_eq_some_iff
theorem lT2:type_of% @List.find?_cons_of_neg:=@List.find?_cons_of_neg
theorem lU2:type_of% @List.length_replicate:=@List.length_replicate
theorem lV2:type_of% @List.mem_map:=@List.mem_map
theorem lW2:type_of% @List.map_nil:=@List.map_nil
theorem lX2:type_of% @List.append_nil:=@List.append_nil
theorem lY2:type_of% @Int.natCast_add:=@Int.natCast_add
theorem lZ2:type_of% @List.drop_of_length_le:=@List.drop_of_length_le
theorem lA3:type_of% @List.find?_cons_of_pos:=@List.find?_cons_of_pos
theorem lB3:type_of% @List.eraseIdx_eq_take_drop_succ:=@List.eraseIdx_eq_take_drop_succ
theorem lC3:type_of% @Int.add_assoc:=@Int.add_assoc
theorem lD3:type_of% @List.flatten_cons:=@List.flatten_cons
theorem lE3:type_of% @List.mem_of_getElem?:=@List.mem_of_getElem?
theorem lF3:type_of% @List.all_cons:=@List.all_cons
theorem lG3:type_of% @List.foldl_cons:=@List.foldl_cons
theorem lH3:type_of% @List.length_filter_le:=@List.length_filter_le
theorem lI3:type_of% @Option.isSome_map:=@Option.isSome_map
theorem lJ3:type_of% @Array.getElem?_append_left:=@Array.getElem?_append_left
theorem lK3:type_of% @List.drop_eq_nil_of_le:=@List.drop_eq_nil_of_le
theorem lL3:type_of% @List.map_take:=@List.map_take
theorem lM3:type_of% @List.modify_zero_cons:=@List.modify_zero_cons
theorem lN3:type_of% @List.modify_succ_cons:=@List.modify_succ_cons
theorem lO3:type_of% @List.set_eq_take_append_cons_drop:=@List.set_eq_take_append_cons_drop
theorem lP3:type_of% @Nat.zero_le:=@Nat.zero_le
theorem lQ3:type_of% @List.filter_append:=@List.filter_append
theorem lR3:type_of% @List.mem_filter:=@List.mem_filter
theorem lS3:type_of% @Bool.and_true:=@Bool.and_true
theorem lT3:type_of% @Nat.add_zero:=@Nat.add_zero
theorem lU3:type_of% @List.getElem_cons_zero:=@List.getElem_cons_zero
theorem lV3:type_of% @List.getElem?_set:=@List.getElem?_set
theorem lW3:type_of% @Array.getElem?_modify:=@Array.getElem?_modify
theorem lX3:type_of% @Bool.eq_iff_iff:=@Bool.eq_iff_iff
theorem lY3:type_of% @List.eq_of_mem_replicate:=@List.eq_of_mem_replicate
theorem lZ3:type_of% @Nat.le_add_right:=@Nat.le_add_right
theorem lA4:type_of% @List.take_append_of_le_length:=@List.take_append_of_le_length
theorem lB4:type_of% @List.getElem?_append:=@List.getElem?_append
theorem lC4:type_of% @List.getElem?_cons_zero:=@List.getElem?_cons_zero
theorem lD4:type_of% @Option.map_eq_map:=@Option.map_eq_map
theorem lE4:type_of% @Array.size_append:=@Array.size_append
theorem lF4:type_of% @Bool.not_eq_true':=@Bool.not_eq_true'
theorem lG4:type_of% @Array.getElem?_eq_some_iff:=@Array.getElem?_eq_some_iff
theorem lH4:type_of% @List.mem_flatMap:=@List.mem_flatMap
theorem lI4:type_of% @Nat.succ_mul:=@Nat.succ_mul
theorem lJ4:type_of% @Nat.lt_of_lt_of_le:=@Nat.lt_of_lt_of_le
theorem lK4:type_of% @Bool.false_eq_true:=@Bool.false_eq_true
theorem lL4:type_of% @Bool.true_and:=@Bool.true_and
theorem lM4:type_of% @Nat.one_mul:=@Nat.one_mul
theorem lN4:type_of% @Int.sub_sub:=@Int.sub_sub
theorem lO4:type_of% @Bool.or_eq_false_iff:=@Bool.or_eq_false_iff
theorem lP4:type_of% @List.all_eq_false:=@List.all_eq_false
theorem lQ4:type_of% @Nat.zero_mul:=@Nat.zero_mul
theorem lR4:type_of% @List.length_pos_iff:=@List.length_pos_iff
theorem lS4:type_of% @Option.bind_eq_bind:=@Option.bind_eq_bind
theorem lT4:type_of% @List.getElem?_cons_succ:=@List.getElem?_cons_succ
theorem lU4:type_of% @List.filter_eq_self:=@List.filter_eq_self
theorem lV4:type_of% @List.map_drop:=@List.map_drop
theorem lW4:type_of% @List.mem_flatten:=@List.mem_flatten
theorem lX4:type_of% @List.mapM_cons:=@List.mapM_cons
theorem lY4:type_of% @Array.getElem?_eq_none:=@Array.getElem?_eq_none
theorem lZ4:type_of% @Nat.le_trans:=@Nat.le_trans
theorem lA5:type_of% @Bool.or_eq_true:=@Bool.or_eq_true
theorem lB5:type_of% @List.mem_of_mem_erase:=@List.mem_of_mem_erase
theorem lC5:type_of% @List.eq_nil_or_concat:=@List.eq_nil_or_concat
theorem lD5:type_of% @List.concat_eq_append:=@List.concat_eq_append
theorem lE5:type_of% @List.all_nil:=@List.all_nil
theorem lF5:type_of% @List.size_toArray:=@List.size_toArray
theorem lG5:type_of% @List.getElem_take:=@List.getElem_take
theorem lH5:type_of% @Array.toList_map:=@Array.toList_map
theorem lI5:type_of% @Bool.false_or:=@Bool.false_or
theorem lJ5:type_of% @Option.pure_def:=@Option.pure_def
theorem lK5:type_of% @List.map_map:=@List.map_map
theorem lL5:type_of% @Nat.sub_self:=@Nat.sub_self
inductive TV where
 | undef
 | bool (b:Bool)
 | int (k:IntKind) (n:Int)
 | str (s:List UInt8)
 | sl (s:Nat) (es:List (List TV))
 deriving Inhabited
structure St where
 i:Nat
 s:Nat
 j:Nat
 deriving DecidableEq,Inhabited
abbrev bA:=List St
inductive AV where
 | undef
 | bool (b:Bool)
 | int (k:IntKind) (n:Int)
 | str (s:List UInt8)
 | own (s:Nat) (es:List (List TV))
 | ext (s:Nat) (es:List (List TV))
 | extv (v:Value) (s:Nat) (es:List (List TV))
 | box (cs:List AV)
 | xbox (cs:List TV)
 | agg (cs:List AV)
 | tup (vs:List AV)
 | lnk (r e:Nat) (p:bA)
 | sub (r e:Nat) (p:bA) (s lo n:Nat)
 | ref (r e:Nat) (p:bA) (st:St)
 | fn (f:Nat) (caps:List AV)
 deriving Inhabited
def cN (s:List UInt8):Value:=.string ⟨s.toArray⟩
abbrev aH:=Nat->Nat
def j6 (w w':World) (F:aH):Prop:=∀ b,F b≠0->w'.heap[b]?=w.heap[b]?
def thaw (n:Nat) (fr:Nat × Nat):Prop:=∀ o,o<n->¬ (fr.1<=o/\o<fr.2)
def thawS (s n:Nat) (fr:Nat × Nat):Prop:=(∀ o,o<n\/(s≠1/\o=n)->¬ (fr.1<=o/\o<fr.2))/\fr.1<=fr.2
theorem thawS.thaw {s n:Nat} {fr:Nat × Nat} (h:thawS s n fr):thaw n fr:=fun o ho=>h.1 o (.inl ho)
inductive Row (w:World):Bool->aH->List Value->List TV->Prop where
 | nil (o:Bool) (F:aH) (h:∀ b,F b=0):Row w o F [] []
 | undef (o:Bool) (F:aH) (v:Value) (vs:List Value) (ts:List TV) (h:Row w o F vs ts):Row w o F (v::vs) (.undef::ts)
 | bool (o:Bool) (F:aH) (x:Bool) (vs:List Value) (ts:List TV) (h:Row w o F vs ts):Row w o F (.bool x::vs) (.bool x::ts)
 | int (o:Bool) (F:aH) (k:IntKind) (n:Int) (vs:List Value) (ts:List TV) (h:Row w o F vs ts):Row w o F (.int k n::vs) (.int k n::ts)
 | str (o:Bool) (F:aH) (s:List UInt8) (vs:List Value) (ts:List TV) (h:Row w o F vs ts):Row w o F (cN s::vs) (.str s::ts)
 | own0 (F:aH) (s:Nat) (vs:List Value) (ts:List TV) (h:Row w true F vs ts):Row w true F (.slice none 0 0::vs) (.sl s []::ts)
 | ext0 (F:aH) (s:Nat) (a:Option Addr) (cap:Nat) (vs:List Value) (ts:List TV) (h:Row w false F vs ts):Row w false F (.slice a 0 cap::vs) (.sl s []::ts)
 | own (F F1 F2:aH) (s:Nat) (es:List (List TV)) (b off cap:Nat) (C:Array Value) (ty:TypeId) (fr:Nat × Nat) (cs:List Value) (vs:List Value) (ts:List TV)
   (hb:w.heap[b]?=some (.cells C ty fr)) (hfr:thawS s C.size fr) (hcap:off+cap*s<=C.size) (hle:es.length<=cap)
   (hs:∀ e ∈ es,e.length=s) (hcs:cs.length=es.length*s) (hc:∀ k,k<cs.length->C[off+k]?=cs[k]?)
   (h1:Row w true F1 cs es.flatten) (h:Row w true F2 vs ts) (hF:∀ x,F x=(if x=b then 1 else 0)+F1 x+F2 x) :
   Row w true F (.slice (some ⟨b,off,none⟩) es.length cap::vs) (.sl s es::ts)
 | ext (F F1 F2:aH) (s:Nat) (es:List (List TV)) (a:Addr) (cap:Nat) (cs:List Value) (vs:List Value) (ts:List TV) (hle:es.length<=cap)
   (hs:∀ e ∈ es,e.length=s) (hcs:cs.length=es.length*s) (hc:∀ k,k<cs.length->w.cell? (a.add k)=cs[k]?)
   (h1:Row w false F1 cs es.flatten) (h:Row w false F2 vs ts) (hF:∀ x,F x=(if x=a.block then 1 else 0)+F1 x+F2 x) :
   Row w false F (.slice (some a) es.length cap::vs) (.sl s es::ts)
theorem i3 (a:Addr) (k:Nat):(a.add k).block=a.block:=by unfold Addr.add; split <;> rfl
theorem t6 {w w':World} {a:Addr} (h:w'.heap[a.block]?=w.heap[a.block]?):w'.cell? a=w.cell? a:=by
 unfold World.cell?; rw[h]
theorem Row.foot {w:World} {o:Bool} {F G:aH} {vs:List Value} {ts:List TV} (h:Row w o F vs ts) (e:∀ b,G b=F b):Row w o G vs ts:=by
 have:G=F:=funext e;rw[this]; exact h
theorem Row.same {w w':World} {o:Bool} {F:aH} {vs:List Value} {ts:List TV} (h:Row w o F vs ts) (hs:j6 w w' F):Row w' o F vs ts:=by
 induction h with
 | nil o F h=>exact .nil o F h
 | undef o F v vs ts h ih=>exact .undef o F v vs ts (ih hs)
 | bool o F x vs ts h ih=>exact .bool o F x vs ts (ih hs)
 | int o F k n vs ts h ih=>exact .int o F k n vs ts (ih hs)
 | str o F s vs ts h ih=>exact .str o F s vs ts (ih hs)
 | own0 F s vs ts h ih=>exact .own0 F s vs ts (ih hs)
 | ext0 F s a cap vs ts h ih=>exact .ext0 F s a cap vs ts (ih hs)
 | own F F1 F2 s es b off cap C ty fr cs vs ts hb hfr hcap hle ap hcs hc h1 h hF ih1 ih=>
  refine .own F F1 F2 s es b off cap C ty fr cs vs ts ?_ hfr hcap hle ap hcs hc (ih1 ?_) (ih ?_) hF
  ·rw[hs b (by rw[hF]; simp)]; exact hb
  ·intro x hx; exact hs x (by rw[hF]; omega)
  ·intro x hx; exact hs x (by rw[hF]; omega)
 | ext F F1 F2 s es a cap cs vs ts hle ap hcs hc h1 h hF ih1 ih=>
  refine .ext F F1 F2 s es a cap cs vs ts hle ap hcs ?_ (ih1 ?_) (ih ?_) hF
  ·intro k hk;rw[t6 (w:=w) (w':=w') (by rw[i3]; exact hs a.block (by rw[hF]; simp))]; exact hc k hk
  ·intro x hx; exact hs x (by rw[hF]; omega)
  ·intro x hx; exact hs x (by rw[hF]; omega)
theorem Row.length {w:World} {o:Bool} {F:aH} {vs:List Value} {ts:List TV} (h:Row w o F vs ts):vs.length=ts.length:=by
 induction h with
 | nil=>rfl
 | undef _ _ _ _ _ _ ih=>simp[ih]
 | bool _ _ _ _ _ _ ih=>simp[ih]
 | int _ _ _ _ _ _ _ ih=>simp[ih]
 | str _ _ _ _ _ _ ih=>simp[ih]
 | own0 _ _ _ _ _ ih=>simp[ih]
 | ext0 _ _ _ _ _ _ _ ih=>simp[ih]
 | own _ _ _ _ _ _ _ _ _ _ _ _ _ _ _ _ _ _ _ _ _ _ _ _ ih1 ih=>simp[ih]
 | ext _ _ _ _ _ _ _ _ _ _ _ _ _ _ _ _ _ ih1 ih=>simp[ih]
theorem Row.lt {w:World} {F:aH} {vs:List Value} {ts:List TV} {o:Bool} (h:Row w o F vs ts):o=true->∀ b,F b≠0->b<w.heap.size:=by
 induction h with
 | nil o F h=>intro _ b hb; exact absurd (h b) hb
 | undef o F v vs ts h ih=>exact ih
 | bool o F x vs ts h ih=>exact ih
 | int o F k n vs ts h ih=>exact ih
 | str o F s vs ts h ih=>exact ih
 | own0 F s vs ts h ih=>exact ih
 | ext0 F s a cap vs ts h ih=>exact ih
 | own F F1 F2 s es b off cap C ty fr cs vs ts hb hfr hcap hle ap hcs hc h1 h hF ih1 ih=>
  intro ho x hx;rw[hF] at hx;by_cases e:x=b
  ·subst e;exact(lG4.1 hb).1
  ·by_cases e1:F1 x=0
   ·exact ih ho x (by simp[e,e1] at hx; exact hx)
   ·exact ih1 ho x e1
 | ext F F1 F2 s es a cap cs vs ts hle ap hcs hc h1 h hF ih1 ih=>intro ho; cases ho
theorem Row.append {w:World} {o:Bool} {F G H:aH} {vs us:List Value} {ts rs:List TV} (h:Row w o F vs ts) (g:Row w o G us rs)
  (e:∀ b,H b=F b+G b):Row w o H (vs++us) (ts++rs):=by
 induction h generalizing H with
 | nil o F h=>exact g.foot (fun b=>by rw[e,h]; omega)
 | undef o F v vs ts h ih=>exact .undef o H v _ _ (ih g e)
 | bool o F x vs ts h ih=>exact .bool o H x _ _ (ih g e)
 | int o F k n vs ts h ih=>exact .int o H k n _ _ (ih g e)
 | str o F s vs ts h ih=>exact .str o H s _ _ (ih g e)
 | own0 F s vs ts h ih=>exact .own0 H s _ _ (ih g e)
 | ext0 F s a cap vs ts h ih=>exact .ext0 H s a cap _ _ (ih g e)
 | own F F1 F2 s es b off cap C ty fr cs vs ts hb hfr hcap hle ap hcs hc h1 h hF ih1 ih=>
  exact .own H F1 (fun b=>F2 b+G b) s es b off cap C ty fr cs _ _ hb hfr hcap hle ap hcs hc h1 (ih g (fun _=>rfl)) (fun x=>by rw[e,hF]; omega)
 | ext F F1 F2 s es a cap cs vs ts hle ap hcs hc h1 h hF ih1 ih=>
  exact .ext H F1 (fun b=>F2 b+G b) s es a cap cs _ _ hle ap hcs hc h1 (ih g (fun _=>rfl)) (fun x=>by rw[e,hF]; omega)
theorem Row.cons {w:World} {o:Bool} {F G H:aH} {v:Value} {us:List Value} {t:TV} {rs:List TV} (h:Row w o F [v] [t]) (g:Row w o G us rs)
  (e:∀ b,H b=F b+G b):Row w o H (v::us) (t::rs):=by
 simpa using Row.append h g e
theorem Row.uncons {w:World} {o:Bool} {F:aH} {v:Value} {us:List Value} {t:TV} {rs:List TV} (h:Row w o F (v::us) (t::rs)) :
  ∃ F1 F2,Row w o F1 [v] [t]/\Row w o F2 us rs/\∀ b,F b=F1 b+F2 b:=by
 have z (o:Bool):Row w o (fun _=>0) [] []:=.nil o _ (fun _=>rfl);cases h with
 | undef _ _ _ _ _ h=>exact⟨fun _=>0,F,.undef _ _ _ _ _ (z _),h,fun b=>by dsimp only; omega⟩
 | bool _ _ _ _ _ h=>exact⟨fun _=>0,F,.bool _ _ _ _ _ (z _),h,fun b=>by dsimp only; omega⟩
 | int _ _ _ _ _ _ h=>exact⟨fun _=>0,F,.int _ _ _ _ _ _ (z _),h,fun b=>by dsimp only; omega⟩
 | str _ _ _ _ _ h=>exact⟨fun _=>0,F,.str _ _ _ _ _ (z _),h,fun b=>by dsimp only; omega⟩
 | own0 _ _ _ _ h=>exact⟨fun _=>0,F,.own0 _ _ _ _ (z _),h,fun b=>by dsimp only; omega⟩
 | ext0 _ _ _ _ _ _ h=>exact⟨fun _=>0,F,.ext0 _ _ _ _ _ _ (z _),h,fun b=>by dsimp only; omega⟩
 | own _ F1 F2 s es b off cap C ty fr cs _ _ hb hfr hcap hle ap hcs hc h1 h hF=>
  exact⟨fun x=>(if x=b then 1 else 0)+F1 x,F2,.own _ F1 (fun _=>0) s es b off cap C ty fr cs _ _ hb hfr hcap hle ap hcs hc h1 (z _) (fun x=>by omega),h,fun x=>by rw[hF]⟩
 | ext _ F1 F2 s es a cap cs _ _ hle ap hcs hc h1 h hF=>
  exact⟨fun x=>(if x=a.block then 1 else 0)+F1 x,F2,.ext _ F1 (fun _=>0) s es a cap cs _ _ hle ap hcs hc h1 (z _) (fun x=>by omega),h,fun x=>by rw[hF]⟩
theorem Row.split {w:World} {o:Bool} {F:aH} (xs:List Value) {us:List Value} (ts:List TV) {rs:List TV} (hl:xs.length=ts.length) (h:Row w o F (xs++us) (ts++rs)) :
  ∃ F1 F2,Row w o F1 xs ts/\Row w o F2 us rs/\∀ b,F b=F1 b+F2 b:=by
 induction xs generalizing F ts with
 | nil=>
  cases ts with
  | nil=>exact⟨fun _=>0,F,.nil _ _ (fun _=>rfl),h,fun b=>by dsimp only; omega⟩
  | cons t ts=>simp at hl
 | cons v xs ih=>
  cases ts with
  | nil=>simp at hl
  | cons t ts=>
   obtain⟨F1,F2,h1,h2,e⟩:=Row.uncons h;obtain⟨G1,G2,g1,g2,e'⟩:=ih ts (by simpa using hl) h2;exact⟨fun b=>F1 b+G1 b,G2,Row.cons h1 g1 (fun _=>rfl),g2,fun b=>by dsimp only; rw[e,e']; omega⟩
theorem Row.weak {w:World} {o:Bool} {F:aH} {vs:List Value} {ts:List TV} (h:Row w o F vs ts):o=true->∃ G,Row w false G vs ts/\∀ b,G b<=F b:=by
 induction h with
 | nil o F h=>exact fun _=>⟨F,.nil _ _ h,fun b=>lE1 _⟩
 | undef o F v vs ts h ih=>intro ho; obtain⟨G,g,e⟩:=ih ho; exact⟨G,.undef _ _ _ _ _ g,e⟩
 | bool o F v vs ts h ih=>intro ho; obtain⟨G,g,e⟩:=ih ho; exact⟨G,.bool _ _ _ _ _ g,e⟩
 | int o F k n vs ts h ih=>intro ho; obtain⟨G,g,e⟩:=ih ho; exact⟨G,.int _ _ _ _ _ _ g,e⟩
 | str o F v vs ts h ih=>intro ho; obtain⟨G,g,e⟩:=ih ho; exact⟨G,.str _ _ _ _ _ g,e⟩
 | own0 F s vs ts h ih=>intro ho; obtain⟨G,g,e⟩:=ih ho; exact⟨G,.ext0 _ _ _ _ _ _ g,e⟩
 | ext0 F s a cap vs ts h ih=>intro ho; cases ho
 | own F F1 F2 s es b off cap C ty fr cs vs ts hb hfr hcap hle ap hcs hc h1 h hF ih1 ih=>
  intro ho;obtain⟨G1,g1,e1⟩:=ih1 ho;obtain⟨G2,g2,e2⟩:=ih ho;refine⟨fun x=>(if x=b then 1 else 0)+G1 x+G2 x,.ext _ G1 G2 s es ⟨b,off,none⟩ cap cs vs ts hle ap hcs ?_ g1 g2 (fun _=>rfl),fun x=>by dsimp only; rw[hF]; have:=e1 x; have:=e2 x; omega⟩;intro k hk;rw[<-hc k hk];unfold Addr.add;by_cases e:k=0
  ·subst e; simp[World.cell?,hb]
  ·simp[e,World.cell?,hb]
 | ext F F1 F2 s es a cap cs vs ts hle ap hcs hc h1 h hF ih1 ih=>intro ho; cases ho
def jZ:TV->bA->Option TV
 | t,[]=>some t
 | .sl s es,st::p=>if st.s=s then (es[st.i]?.bind (·[st.j]?)).bind (jZ · p) else none
 | _,_::_=>none
def aaE:TV->bA->TV->TV
 | _,[],u=>u
 | .sl s es,st::p,u=>.sl s (es.modify st.i (·.modify st.j (aaE · p u)))
 | t,_::_,_=>t
def i4 (w:World):Value->bA->Option Value
 | v,[]=>some v
 | .slice (some a) _ _,st::p=>(w.cell? (a.add (st.i*st.s+st.j))).bind (i4 w · p)
 | .pointer (some a),st::p=>(w.cell? (a.add (st.i*st.s+st.j))).bind (i4 w · p)
 | _,_::_=>none
theorem ak5 {α:Type} {s:Nat} {es:List (List α)} (hs:∀ e ∈ es,e.length=s) {i j:Nat} {row:List α} {t:α} (hi:es[i]?=some row) (hj:row[j]?=some t) :
  es.flatten[i*s+j]?=some t:=by
 induction es generalizing i with
 | nil=>simp at hi
 | cons e es ih=>
  have he:e.length=s:=hs e A8;cases i with
  | zero=>
   simp at hi; subst hi;have:j<e.length:=(lG.1 hj).1;simp[lS1 this,hj]
  | succ i=>
   simp at hi;rw[lD3,lJ2 (by rw[he,lI4]; omega),he];have:=ih (fun e h=>hs e D0) hi;rw[<-this]; congr 1; rw[lI4]; omega
theorem yT {α:Type} (a b:List α) (k:Nat) (f:α->α) (h:k<a.length):(a++b).modify k f=a.modify k f++b:=by
 induction a generalizing k with
 | nil=>simp at h
 | cons x a ih=>
  cases k with
  | zero=>simp[lM3]
  | succ k=>simp only[lD2,lN3]; rw[ih k (by simpa using h)]
theorem pB {α:Type} (a b:List α) (k:Nat) (f:α->α) (h:a.length<=k):(a++b).modify k f=a++b.modify (k-a.length) f:=by
 induction a generalizing k with
 | nil=>simp
 | cons x a ih=>
  cases k with
  | zero=>simp at h
  | succ k=>simp only[lD2,lN3]; rw[ih k (by simpa using h)]; simp
theorem acK {α:Type} {s:Nat} {es:List (List α)} (hs:∀ e ∈ es,e.length=s) {i j:Nat} (f:α->α) (hj:j<s) (hi:i<es.length) :
  (es.modify i (·.modify j f)).flatten=es.flatten.modify (i*s+j) f:=by
 induction es generalizing i with
 | nil=>simp at hi
 | cons e es ih=>
  have he:e.length=s:=hs e A8;cases i with
  | zero=>
   simp[lM3];rw[yT _ _ _ _ A7]
  | succ i=>
   simp only[lN3,lD3];rw[ih (fun e h=>hs e D0) (by simpa using hi),pB _ _ _ _ (by rw[he,lI4]; omega),he];congr 2; rw[lI4]; omega
theorem acL {α:Type} {s:Nat} {es:List (List α)} (hs:∀ e ∈ es,e.length=s) (i j:Nat) (f:α->α):∀ e ∈ es.modify i (·.modify j f),e.length=s:=by
 intro e he;rw[List.mem_iff_getElem?] at he;obtain⟨k,hk⟩:=he;rw[lL1] at hk;cases h:es[k]? with
 | none=>simp[h] at hk
 | some x=>
  have hx:=hs x (lE3 h);simp[h] at hk;subst hk;by_cases e1:i=k <;> simp[e1,hx]
theorem pC {α:Type} {l:List α} {i:Nat} {x:α} (f:α->α) (h:l[i]?=some x):l.modify i f=l.set i (f x):=by
 apply lB2;intro k;rw[lL1,lV3];by_cases e:i=k
 ·subst e;have:i<l.length:=(lG.1 h).1;have hx:l[i]=x:=(lG.1 h).2;simp[this,hx]
 ·simp[e]
theorem Row.at {w:World} {o:Bool} {F:aH} {vs:List Value} {ts:List TV} {k:Nat} {t:TV} (h:Row w o F vs ts) (hk:ts[k]?=some t) :
  ∃ v F1 F2,vs[k]?=some v/\Row w o F1 [v] [t]/\(∀ b,F b=F1 b+F2 b) /\
   ∀ w',j6 w w' F2->∀ v' t' G,Row w' o G [v'] [t']->Row w' o (fun b=>G b+F2 b) (vs.set k v') (ts.set k t'):=by
 have hl:=h.length;have aa:k<ts.length:=(lG.1 hk).1;have htk:ts=ts.take k++t::ts.drop (k+1):=by
  have:=(lG.1 hk).2;rw[<-this]; simp
 have nz:vs=vs.take k++vs[k]'A7::vs.drop (k+1):=by simp
 have h':Row w o F (vs.take k++vs[k]'A7::vs.drop (k+1)) (ts.take k++t::ts.drop (k+1)):=by rw[<-htk,<-nz]; exact h
 obtain⟨F1,F2,h1,h2,e⟩:=Row.split _ _ D5 h';obtain⟨G1,G2,g1,g2,e'⟩:=Row.uncons h2;refine⟨vs[k]'A7,G1,fun b=>F1 b+G2 b,by simp,g1,fun b=>by dsimp only; rw[e,e']; omega,?_⟩;intro w' hs v' t' G hg;have s1:Row w' o F1 (vs.take k) (ts.take k):=h1.same (fun b hb=>hs b (by first | omega | (dsimp only; omega) | (dsimp only at *; omega)));have s2:Row w' o G2 (vs.drop (k+1)) (ts.drop (k+1)):=g2.same (fun b hb=>hs b (by first | omega | (dsimp only; omega) | (dsimp only at *; omega)));have:=Row.append s1 (Row.cons hg s2 (fun _=>rfl)) (fun _=>rfl);rw[lO3,lO3];rw[lK A7,lK aa];exact this.foot (fun b=>by dsimp only; omega)
theorem Row.sl_inv {w:World} {F:aH} {v:Value} {s:Nat} {es:List (List TV)} (h:Row w true F [v] [.sl s es]) :
  (v=.slice none 0 0/\es=[]/\∀ b,F b=0) \/
  ∃ F1 b off cap C ty fr cs,v=.slice (some ⟨b,off,none⟩) es.length cap/\w.heap[b]?=some (.cells C ty fr)/\thawS s C.size fr/\off+cap*s<=C.size/\es.length<=cap /\
   (∀ e ∈ es,e.length=s)/\cs.length=es.length*s/\(∀ k,k<cs.length->C[off+k]?=cs[k]?)/\Row w true F1 cs es.flatten/\∀ x,F x=(if x=b then 1 else 0)+F1 x:=by
 cases h with
 | own0 _ _ _ _ h=>exact .inl ⟨rfl,rfl,by cases h; assumption⟩
 | own _ F1 F2 _ _ b off cap C ty fr cs _ _ hb hfr hcap hle ap hcs hc h1 h hF=>
  refine .inr ⟨F1,b,off,cap,C,ty,fr,cs,rfl,hb,hfr,hcap,hle,ap,hcs,hc,h1,?_⟩;intro x;cases h with
  | nil _ _ hz=>rw[hF,hz]; omega
theorem Row.of_sl {w:World} {F F1:aH} {s:Nat} {es:List (List TV)} {b off cap:Nat} {C:Array Value} {ty:TypeId} {fr:Nat × Nat} {cs:List Value} {n:Nat}
  (hn:n=es.length) (hb:w.heap[b]?=some (.cells C ty fr)) (hfr:thawS s C.size fr) (hcap:off+cap*s<=C.size) (hle:es.length<=cap)
  (ap:∀ e ∈ es,e.length=s) (hcs:cs.length=es.length*s) (hc:∀ k,k<cs.length->C[off+k]?=cs[k]?) (h1:Row w true F1 cs es.flatten)
  (hF:∀ x,F x=(if x=b then 1 else 0)+F1 x):Row w true F [.slice (some ⟨b,off,none⟩) n cap] [.sl s es]:=by
 subst hn;exact .own F F1 (fun _=>0) s es b off cap C ty fr cs [] [] hb hfr hcap hle ap hcs hc h1 (.nil _ _ (fun _=>rfl)) (fun x=>by rw[hF]; rfl)
theorem aqK {w:World} (p:bA):∀ {F:aH} {v:Value} {t u:TV},Row w true F [v] [t]->jZ t p=some u ->
  ∃ h Fu Fr,(∀ b,F b=Fu b+Fr b)/\Row w true Fu [h] [u]/\i4 w v p=some h /\
   ∀ w',j6 w w' Fr->i4 w' v p=some h/\∀ u' G,Row w' true G [h] [u']->Row w' true (fun b=>G b+Fr b) [v] [aaE t p u']:=by
 induction p with
 | nil=>
  intro F v t u hr hg;simp only[jZ,Option.some.injEq] at hg;subst hg;exact⟨v,F,fun _=>0,fun b=>by dsimp only; omega,hr,rfl,fun w' hs=>⟨rfl,fun u' G g=>g.foot (fun b=>by simp)⟩⟩
 | cons st p ih=>
  intro F v t u hr hg;cases t with
  | sl s es=>
   simp only[jZ] at hg;split at hg
   case isFalse=>cases hg
   rename_i es_s;rcases Row.sl_inv hr with ⟨_,rfl,_⟩ | ⟨F1,b,off,cap,C,ty,fr,cs,rfl,hb,hfr,hcap,hle,ap,hcs,hc,h1,hF⟩
   ·simp at hg
   ·cases hi:es[st.i]? with
    | none=>simp[hi] at hg
    | some row=>
     cases hj:row[st.j]? with
     | none=>simp[hi,hj] at hg
     | some t1=>
      simp[hi,hj] at hg;have ak:row.length=s:=ap row (lE3 hi);have hjlt:st.j<s:=by rw[<-ak]; exact(lG.1 hj).1
      have ls:st.i<es.length:=(lG.1 hi).1;have lu:=ak5 ap hi hj;obtain⟨v1,A1,A2,au,nf,hA,hput⟩:=Row.at h1 lu;obtain⟨h,Fu,Fr,gj,hu,ai,an⟩:=ih nf hg;have oa:st.i*s+st.j<cs.length:=(lG.1 au).1;have al:∀ w':World,w'.heap[b]?=w.heap[b]?->w'.cell? ((⟨b,off,none⟩:Addr).add (st.i*st.s+st.j))=some v1:=by
       intro w' hw';rw[es_s,<-au,<-hc _ oa];unfold Addr.add;generalize st.i*s+st.j=q;by_cases e:q=0
       ·simp[e,World.cell?,hw',hb]
       ·simp[e,World.cell?,hw',hb]
      refine⟨h,Fu,fun x=>(if x=b then 1 else 0)+A2 x+Fr x,fun x=>by dsimp only; rw[hF,hA,gj]; omega,hu,?_,?_⟩
      ·simp only[i4]; rw[al w rfl]; exact ai
      ·intro w' cv;have jm:w'.heap[b]?=w.heap[b]?:=cv b A8;have hrest':=an w' (fun x hx=>cv x (by first | omega | (dsimp only; omega) | (dsimp only at *; omega)));refine⟨by simp only[i4]; rw[al w' jm]; exact hrest'.1,?_⟩;intro u' G hG;have de:=hput w' (fun x hx=>cv x (by first | omega | (dsimp only; omega) | (dsimp only at *; omega))) v1 _ _ (hrest'.2 u' G hG);have ju:cs.set (st.i*s+st.j) v1=cs:=by
        apply lB2;intro k;rw[lV3];by_cases e:st.i*s+st.j=k
        ·subst e;rw[lK rfl,lK oa,au]
        ·simp[e]
       rw[ju] at de;simp only[aaE];refine Row.of_sl (F1:=fun x=>G x+Fr x+A2 x) A8 (jm.trans hb) hfr hcap (by simpa using hle) (acL ap _ _ _) (by simpa using hcs) hc ?_ (fun x=>by first | omega | (dsimp only; omega) | (dsimp only at *; omega));rw[acK ap _ hjlt ls,pC _ lu];exact de
  | _=>simp[jZ] at hg
section
abbrev Lk:=Nat->Nat->bA->Option (Option Value)
def hdr:Value->Option Addr
 | .slice (some a) _ _=>some a
 | .pointer (some a)=>some a
 | _=>none
inductive RepA (w:World) (lk:Lk):aH->aH->List Value->List AV->Prop where
 | nil (F X:aH) (hF:∀ b,F b=0) (hX:∀ b,X b=0):RepA w lk F X [] []
 | undef (F X:aH) (v:Value) (vs:List Value) (as:List AV) (h:RepA w lk F X vs as):RepA w lk F X (v::vs) (.undef::as)
 | bool (F X:aH) (x:Bool) (vs:List Value) (as:List AV) (h:RepA w lk F X vs as):RepA w lk F X (.bool x::vs) (.bool x::as)
 | int (F X:aH) (k:IntKind) (n:Int) (vs:List Value) (as:List AV) (h:RepA w lk F X vs as):RepA w lk F X (.int k n::vs) (.int k n::as)
 | str (F X:aH) (s:List UInt8) (vs:List Value) (as:List AV) (h:RepA w lk F X vs as):RepA w lk F X (cN s::vs) (.str s::as)
 | own (F F1 F2 X:aH) (s:Nat) (es:List (List TV)) (v:Value) (vs:List Value) (as:List AV) (h1:Row w true F1 [v] [.sl s es]) (h:RepA w lk F2 X vs as)
   (hF:∀ x,F x=F1 x+F2 x):RepA w lk F X (v::vs) (.own s es::as)
 | ext (F X X1 X2:aH) (s:Nat) (es:List (List TV)) (v:Value) (vs:List Value) (as:List AV) (h1:Row w false X1 [v] [.sl s es]) (h:RepA w lk F X2 vs as)
   (hX:∀ x,X x=X1 x+X2 x):RepA w lk F X (v::vs) (.ext s es::as)
 | extv (F X X1 X2:aH) (s:Nat) (es:List (List TV)) (v:Value) (vs:List Value) (as:List AV) (h1:Row w false X1 [v] [.sl s es]) (h:RepA w lk F X2 vs as)
   (hX:∀ x,X x=X1 x+X2 x):RepA w lk F X (v::vs) (.extv v s es::as)
 | box (F F1 F2 X X1 X2:aH) (b:Nat) (C:Array Value) (ty:TypeId) (fr:Nat × Nat) (cs:List AV) (vs:List Value) (as:List AV)
   (hb:w.heap[b]?=some (.cells C ty fr)) (hfr:thaw C.size fr) (h1:RepA w lk F1 X1 C.toList cs) (h:RepA w lk F2 X2 vs as)
   (hF:∀ x,F x=(if x=b then 1 else 0)+F1 x+F2 x) (hX:∀ x,X x=X1 x+X2 x):RepA w lk F X (.pointer (some ⟨b,0,none⟩)::vs) (.box cs::as)
 | xbox (F X X1 X2:aH) (a:Addr) (us:List Value) (cs:List TV) (vs:List Value) (as:List AV)
   (hc:∀ k,k<us.length->w.cell? (a.add k)=us[k]?) (h1:Row w false X1 us cs) (h:RepA w lk F X2 vs as)
   (hX:∀ x,X x=(if x=a.block then 1 else 0)+X1 x+X2 x):RepA w lk F X (.pointer (some a)::vs) (.xbox cs::as)
 | agg (F F1 F2 X X1 X2:aH) (us:List Value) (cs:List AV) (vs:List Value) (as:List AV) (h1:RepA w lk F1 X1 us cs) (h:RepA w lk F2 X2 vs as)
   (hF:∀ x,F x=F1 x+F2 x) (hX:∀ x,X x=X1 x+X2 x):RepA w lk F X (.agg us.toArray::vs) (.agg cs::as)
 | tup (F F1 F2 X X1 X2:aH) (us:List Value) (cs:List AV) (vs:List Value) (as:List AV) (h1:RepA w lk F1 X1 us cs) (h:RepA w lk F2 X2 vs as)
   (hF:∀ x,F x=F1 x+F2 x) (hX:∀ x,X x=X1 x+X2 x):RepA w lk F X (.tuple us.toArray::vs) (.tup cs::as)
 | fn (F F1 F2 X X1 X2:aH) (f:Nat) (us:List Value) (cs:List AV) (vs:List Value) (as:List AV) (h1:RepA w lk F1 X1 us cs) (h:RepA w lk F2 X2 vs as)
   (hF:∀ x,F x=F1 x+F2 x) (hX:∀ x,X x=X1 x+X2 x):RepA w lk F X (.func (.func f) #[] us.toArray::vs) (.fn f cs::as)
 | lnk (F X:aH) (r e:Nat) (p:bA) (o:Option Value) (v:Value) (vs:List Value) (as:List AV) (ho:lk r e p=some o) (hv:∀ u,o=some u->v=u) (h:RepA w lk F X vs as) :
   RepA w lk F X (v::vs) (.lnk r e p::as)
 | sub (F X:aH) (r e:Nat) (p:bA) (s lo n:Nat) (o:Option Value) (v:Value) (vs:List Value) (as:List AV) (ho:lk r e p=some o)
   (hv:∀ u,o=some u->∃ base len cap a',u=.slice base len cap/\v=.slice a' n (cap-lo)/\lo+n<=len/\(a'=base.map (·.add (lo*s))\/(lo=cap/\∃ k,k<=cap/\a'=base.map (·.add (k*s)))))
   (h:RepA w lk F X vs as):RepA w lk F X (v::vs) (.sub r e p s lo n::as)
 | ref (F X:aH) (r e:Nat) (p:bA) (st:St) (o:Option Value) (v:Value) (vs:List Value) (as:List AV) (ho:lk r e p=some o)
   (hv:∀ u,o=some u->∃ a,hdr u=some a/\v=.pointer (some (a.add (st.i*st.s+st.j)))) (h:RepA w lk F X vs as):RepA w lk F X (v::vs) (.ref r e p st::as)
variable {w w':World} {lk lk':Lk}
theorem RepA.foot {F G X Y:aH} {vs:List Value} {as:List AV} (h:RepA w lk F X vs as) (e:∀ b,G b=F b) (e':∀ b,Y b=X b):RepA w lk G Y vs as:=by
 have h1:G=F:=funext e;have h2:Y=X:=funext e';rw[h1,h2]; exact h
theorem RepA.same {F X:aH} {vs:List Value} {as:List AV} (h:RepA w lk F X vs as)
  (hl:∀ r e p o,lk r e p=some o->lk' r e p=some none\/lk' r e p=some o) :
  j6 w w' F->j6 w w' X->RepA w' lk' F X vs as:=by
 induction h with
 | nil F X hF hX=>intro _ _; exact .nil F X hF hX
 | undef F X v vs as h ih=>intro s1 s2; exact .undef _ _ _ _ _ (ih s1 s2)
 | bool F X v vs as h ih=>intro s1 s2; exact .bool _ _ _ _ _ (ih s1 s2)
 | int F X k n vs as h ih=>intro s1 s2; exact .int _ _ _ _ _ _ (ih s1 s2)
 | str F X v vs as h ih=>intro s1 s2; exact .str _ _ _ _ _ (ih s1 s2)
 | own F F1 F2 X s es v vs as h1 h hF ih=>
  intro s1 s2;exact .own F F1 F2 X s es v vs _ (h1.same fun b hb=>s1 b (by rw[hF]; omega)) (ih (fun b hb=>s1 b (by rw[hF]; omega)) s2) hF
 | ext F X X1 X2 s es v vs as h1 h hX ih=>
  intro s1 s2;exact .ext F X X1 X2 s es v vs _ (h1.same fun b hb=>s2 b (by rw[hX]; omega)) (ih s1 (fun b hb=>s2 b (by rw[hX]; omega))) hX
 | extv F X X1 X2 s es v vs as h1 h hX ih=>
  intro s1 s2;exact .extv F X X1 X2 s es v vs _ (h1.same fun b hb=>s2 b (by rw[hX]; omega)) (ih s1 (fun b hb=>s2 b (by rw[hX]; omega))) hX
 | box F F1 F2 X X1 X2 b C ty fr cs vs as hb hfr h1 h hF hX ih1 ih=>
  intro s1 s2;refine .box F F1 F2 X X1 X2 b C ty fr _ vs _ ?_ hfr (ih1 (fun b hb=>s1 b (by rw[hF]; omega)) (fun b hb=>s2 b (by rw[hX]; omega)))
   (ih (fun b hb=>s1 b (by rw[hF]; omega)) (fun b hb=>s2 b (by rw[hX]; omega))) hF hX
  rw[s1 b (by rw[hF]; simp)]; exact hb
 | xbox F X X1 X2 a us cs vs as hc h1 h hX ih=>
  intro s1 s2;refine .xbox F X X1 X2 a us cs vs _ ?_ (h1.same fun b hb=>s2 b (by rw[hX]; omega)) (ih s1 (fun b hb=>s2 b (by rw[hX]; omega))) hX;intro k hk;rw[t6 (w:=w) (w':=w') (by rw[i3]; exact s2 a.block (by rw[hX]; simp))]; exact hc k hk
 | agg F F1 F2 X X1 X2 us cs vs as h1 h hF hX ih1 ih=>
  intro s1 s2;exact .agg F F1 F2 X X1 X2 us _ vs _ (ih1 (fun b hb=>s1 b (by rw[hF]; omega)) (fun b hb=>s2 b (by rw[hX]; omega)))
   (ih (fun b hb=>s1 b (by rw[hF]; omega)) (fun b hb=>s2 b (by rw[hX]; omega))) hF hX
 | tup F F1 F2 X X1 X2 us cs vs as h1 h hF hX ih1 ih=>
  intro s1 s2;exact .tup F F1 F2 X X1 X2 us _ vs _ (ih1 (fun b hb=>s1 b (by rw[hF]; omega)) (fun b hb=>s2 b (by rw[hX]; omega)))
   (ih (fun b hb=>s1 b (by rw[hF]; omega)) (fun b hb=>s2 b (by rw[hX]; omega))) hF hX
 | fn F F1 F2 X X1 X2 f us cs vs as h1 h hF hX ih1 ih=>
  intro s1 s2;exact .fn F F1 F2 X X1 X2 f us _ vs _ (ih1 (fun b hb=>s1 b (by rw[hF]; omega)) (fun b hb=>s2 b (by rw[hX]; omega)))
   (ih (fun b hb=>s1 b (by rw[hF]; omega)) (fun b hb=>s2 b (by rw[hX]; omega))) hF hX
 | lnk F X r e p o v vs as ho hv h ih=>
  intro s1 s2;rcases hl r e p o ho with h' | h'
  ·exact .lnk _ _ _ _ _ _ _ _ _ h' (fun _ h=>by cases h) (ih s1 s2)
  ·exact .lnk _ _ _ _ _ _ _ _ _ h' hv (ih s1 s2)
 | sub F X r e p s lo n o v vs as ho hv h ih=>
  intro s1 s2;rcases hl r e p o ho with h' | h'
  ·exact .sub _ _ _ _ _ _ _ _ _ _ _ _ h' (fun _ h=>by cases h) (ih s1 s2)
  ·exact .sub _ _ _ _ _ _ _ _ _ _ _ _ h' hv (ih s1 s2)
 | ref F X r e p st o v vs as ho hv h ih=>
  intro s1 s2;rcases hl r e p o ho with h' | h'
  ·exact .ref _ _ _ _ _ _ _ _ _ _ h' (fun _ h=>by cases h) (ih s1 s2)
  ·exact .ref _ _ _ _ _ _ _ _ _ _ h' hv (ih s1 s2)
theorem RepA.length {F X:aH} {vs:List Value} {as:List AV} (h:RepA w lk F X vs as):vs.length=as.length:=by
 induction h <;> simp_all
theorem RepA.append {F X G Y H Z:aH} {vs us:List Value} {as bs:List AV} (h:RepA w lk F X vs as) (g:RepA w lk G Y us bs)
  (e:∀ b,H b=F b+G b) (e':∀ b,Z b=X b+Y b):RepA w lk H Z (vs++us) (as++bs):=by
 induction h generalizing H Z with
 | nil F X hF hX=>exact g.foot (fun b=>by rw[e,hF]; omega) (fun b=>by rw[e',hX]; omega)
 | undef F X v vs as h ih=>exact .undef _ _ _ _ _ (ih e e')
 | bool F X v vs as h ih=>exact .bool _ _ _ _ _ (ih e e')
 | int F X k n vs as h ih=>exact .int _ _ _ _ _ _ (ih e e')
 | str F X v vs as h ih=>exact .str _ _ _ _ _ (ih e e')
 | own F F1 F2 X s es v vs as h1 h hF ih=>
  exact .own H F1 (fun b=>F2 b+G b) Z s es v _ _ h1 (ih (fun _=>rfl) e') (fun x=>by rw[e,hF]; omega)
 | ext F X X1 X2 s es v vs as h1 h hX ih=>
  exact .ext H Z X1 (fun b=>X2 b+Y b) s es v _ _ h1 (ih e (fun _=>rfl)) (fun x=>by rw[e',hX]; omega)
 | extv F X X1 X2 s es v vs as h1 h hX ih=>
  exact .extv H Z X1 (fun b=>X2 b+Y b) s es v _ _ h1 (ih e (fun _=>rfl)) (fun x=>by rw[e',hX]; omega)
 | box F F1 F2 X X1 X2 b C ty fr cs vs as hb hfr h1 h hF hX ih1 ih=>
  exact .box H F1 (fun b=>F2 b+G b) Z X1 (fun b=>X2 b+Y b) b C ty fr cs _ _ hb hfr h1 (ih (fun _=>rfl) (fun _=>rfl)) (fun x=>by rw[e,hF]; omega) (fun x=>by rw[e',hX]; omega)
 | xbox F X X1 X2 a us cs vs as hc h1 h hX ih=>
  exact .xbox H Z X1 (fun b=>X2 b+Y b) a us cs _ _ hc h1 (ih e (fun _=>rfl)) (fun x=>by rw[e',hX]; omega)
 | agg F F1 F2 X X1 X2 us cs vs as h1 h hF hX ih1 ih=>
  exact .agg H F1 (fun b=>F2 b+G b) Z X1 (fun b=>X2 b+Y b) us cs _ _ h1 (ih (fun _=>rfl) (fun _=>rfl)) (fun x=>by rw[e,hF]; omega) (fun x=>by rw[e',hX]; omega)
 | tup F F1 F2 X X1 X2 us cs vs as h1 h hF hX ih1 ih=>
  exact .tup H F1 (fun b=>F2 b+G b) Z X1 (fun b=>X2 b+Y b) us cs _ _ h1 (ih (fun _=>rfl) (fun _=>rfl)) (fun x=>by rw[e,hF]; omega) (fun x=>by rw[e',hX]; omega)
 | fn F F1 F2 X X1 X2 f us cs vs as h1 h hF hX ih1 ih=>
  exact .fn H F1 (fun b=>F2 b+G b) Z X1 (fun b=>X2 b+Y b) f us cs _ _ h1 (ih (fun _=>rfl) (fun _=>rfl)) (fun x=>by rw[e,hF]; omega) (fun x=>by rw[e',hX]; omega)
 | lnk F X r ee p o v vs as ho hv h ih=>exact .lnk _ _ _ _ _ _ _ _ _ ho hv (ih e e')
 | sub F X r ee p s lo n o v vs as ho hv h ih=>exact .sub _ _ _ _ _ _ _ _ _ _ _ _ ho hv (ih e e')
 | ref F X r ee p st o v vs as ho hv h ih=>exact .ref _ _ _ _ _ _ _ _ _ _ ho hv (ih e e')
theorem RepA.cons {F X G Y H Z:aH} {v:Value} {us:List Value} {a:AV} {bs:List AV} (h:RepA w lk F X [v] [a]) (g:RepA w lk G Y us bs)
  (e:∀ b,H b=F b+G b) (e':∀ b,Z b=X b+Y b):RepA w lk H Z (v::us) (a::bs):=by
 simpa using RepA.append h g e e'
theorem RepA.znil:RepA w lk (fun _=>0) (fun _=>0) [] []:=.nil _ _ (fun _=>rfl) (fun _=>rfl)
theorem RepA.uncons {F X:aH} {v:Value} {us:List Value} {a:AV} {bs:List AV} (h:RepA w lk F X (v::us) (a::bs)) :
  ∃ F1 F2 X1 X2,RepA w lk F1 X1 [v] [a]/\RepA w lk F2 X2 us bs/\(∀ b,F b=F1 b+F2 b)/\∀ b,X b=X1 b+X2 b:=by
 cases h with
 | undef _ _ _ _ _ h=>exact⟨fun _=>0,F,fun _=>0,X,.undef _ _ _ _ _ znil,h,fun b=>by first | omega | (dsimp only; omega) | (dsimp only at *; omega),fun b=>by first | omega | (dsimp only; omega) | (dsimp only at *; omega)⟩
 | bool _ _ _ _ _ h=>exact⟨fun _=>0,F,fun _=>0,X,.bool _ _ _ _ _ znil,h,fun b=>by first | omega | (dsimp only; omega) | (dsimp only at *; omega),fun b=>by first | omega | (dsimp only; omega) | (dsimp only at *; omega)⟩
 | int _ _ _ _ _ _ h=>exact⟨fun _=>0,F,fun _=>0,X,.int _ _ _ _ _ _ znil,h,fun b=>by first | omega | (dsimp only; omega) | (dsimp only at *; omega),fun b=>by first | omega | (dsimp only; omega) | (dsimp only at *; omega)⟩
 | str _ _ _ _ _ h=>exact⟨fun _=>0,F,fun _=>0,X,.str _ _ _ _ _ znil,h,fun b=>by first | omega | (dsimp only; omega) | (dsimp only at *; omega),fun b=>by first | omega | (dsimp only; omega) | (dsimp only at *; omega)⟩
 | lnk _ _ _ _ _ _ _ _ _ ho hv h=>exact⟨fun _=>0,F,fun _=>0,X,.lnk _ _ _ _ _ _ _ _ _ ho hv znil,h,fun b=>by first | omega | (dsimp only; omega) | (dsimp only at *; omega),fun b=>by first | omega | (dsimp only; omega) | (dsimp only at *; omega)⟩
 | sub _ _ _ _ _ _ _ _ _ _ _ _ ho hv h=>exact⟨fun _=>0,F,fun _=>0,X,.sub _ _ _ _ _ _ _ _ _ _ _ _ ho hv znil,h,fun b=>by first | omega | (dsimp only; omega) | (dsimp only at *; omega),fun b=>by first | omega | (dsimp only; omega) | (dsimp only at *; omega)⟩
 | ref _ _ _ _ _ _ _ _ _ _ ho hv h=>exact⟨fun _=>0,F,fun _=>0,X,.ref _ _ _ _ _ _ _ _ _ _ ho hv znil,h,fun b=>by first | omega | (dsimp only; omega) | (dsimp only at *; omega),fun b=>by first | omega | (dsimp only; omega) | (dsimp only at *; omega)⟩
 | own _ F1 F2 _ _ _ _ _ _ h1 h hF=>exact⟨F1,F2,fun _=>0,X,.own _ F1 (fun _=>0) _ _ _ _ _ _ h1 znil (fun x=>by first | omega | (dsimp only; omega) | (dsimp only at *; omega)),h,hF,fun b=>by first | omega | (dsimp only; omega) | (dsimp only at *; omega)⟩
 | ext _ _ X1 X2 _ _ _ _ _ h1 h hX=>exact⟨fun _=>0,F,X1,X2,.ext _ _ X1 (fun _=>0) _ _ _ _ _ h1 znil (fun x=>by first | omega | (dsimp only; omega) | (dsimp only at *; omega)),h,fun b=>by first | omega | (dsimp only; omega) | (dsimp only at *; omega),hX⟩
 | extv _ _ X1 X2 _ _ _ _ _ h1 h hX=>exact⟨fun _=>0,F,X1,X2,.extv _ _ X1 (fun _=>0) _ _ _ _ _ h1 znil (fun x=>by first | omega | (dsimp only; omega) | (dsimp only at *; omega)),h,fun b=>by first | omega | (dsimp only; omega) | (dsimp only at *; omega),hX⟩
 | box _ F1 F2 _ X1 X2 b C ty fr cs _ _ hb hfr h1 h hF hX=>
  exact⟨fun x=>(if x=b then 1 else 0)+F1 x,F2,X1,X2,.box _ F1 (fun _=>0) _ X1 (fun _=>0) b C ty fr cs _ _ hb hfr h1 znil (fun x=>by first | omega | (dsimp only; omega) | (dsimp only at *; omega)) (fun x=>by first | omega | (dsimp only; omega) | (dsimp only at *; omega)),h,hF,hX⟩
 | xbox _ _ X1 X2 a us cs _ _ hc h1 h hX=>
  exact⟨fun _=>0,F,fun x=>(if x=a.block then 1 else 0)+X1 x,X2,.xbox _ _ X1 (fun _=>0) a us cs _ _ hc h1 znil (fun x=>by first | omega | (dsimp only; omega) | (dsimp only at *; omega)),h,fun b=>by first | omega | (dsimp only; omega) | (dsimp only at *; omega),hX⟩
 | agg _ F1 F2 _ X1 X2 us cs _ _ h1 h hF hX=>
  exact⟨F1,F2,X1,X2,.agg _ F1 (fun _=>0) _ X1 (fun _=>0) us cs _ _ h1 znil (fun x=>by first | omega | (dsimp only; omega) | (dsimp only at *; omega)) (fun x=>by first | omega | (dsimp only; omega) | (dsimp only at *; omega)),h,hF,hX⟩
 | tup _ F1 F2 _ X1 X2 us cs _ _ h1 h hF hX=>
  exact⟨F1,F2,X1,X2,.tup _ F1 (fun _=>0) _ X1 (fun _=>0) us cs _ _ h1 znil (fun x=>by first | omega | (dsimp only; omega) | (dsimp only at *; omega)) (fun x=>by first | omega | (dsimp only; omega) | (dsimp only at *; omega)),h,hF,hX⟩
 | fn _ F1 F2 _ X1 X2 f us cs _ _ h1 h hF hX=>
  exact⟨F1,F2,X1,X2,.fn _ F1 (fun _=>0) _ X1 (fun _=>0) f us cs _ _ h1 znil (fun x=>by first | omega | (dsimp only; omega) | (dsimp only at *; omega)) (fun x=>by first | omega | (dsimp only; omega) | (dsimp only at *; omega)),h,hF,hX⟩
theorem RepA.split {F X:aH} (xs:List Value) {us:List Value} (as:List AV) {bs:List AV} (hl:xs.length=as.length) (h:RepA w lk F X (xs++us) (as++bs)) :
  ∃ F1 F2 X1 X2,RepA w lk F1 X1 xs as/\RepA w lk F2 X2 us bs/\(∀ b,F b=F1 b+F2 b)/\∀ b,X b=X1 b+X2 b:=by
 induction xs generalizing F X as with
 | nil=>
  cases as with
  | nil=>exact⟨fun _=>0,F,fun _=>0,X,znil,h,fun b=>by first | omega | (dsimp only; omega) | (dsimp only at *; omega),fun b=>by first | omega | (dsimp only; omega) | (dsimp only at *; omega)⟩
  | cons t ts=>simp at hl
 | cons v xs ih=>
  cases as with
  | nil=>simp at hl
  | cons t ts=>
   obtain⟨F1,F2,X1,X2,h1,h2,e,e'⟩:=RepA.uncons h;obtain⟨G1,G2,Y1,Y2,g1,g2,f,f'⟩:=ih ts (by simpa using hl) h2;exact⟨fun b=>F1 b+G1 b,G2,fun b=>X1 b+Y1 b,Y2,RepA.cons h1 g1 (fun _=>rfl) (fun _=>rfl),g2,fun b=>by dsimp only; rw[e,f]; omega,fun b=>by dsimp only; rw[e',f']; omega⟩
theorem RepA.lt {F X:aH} {vs:List Value} {as:List AV} (h:RepA w lk F X vs as):∀ b,F b≠0->b<w.heap.size:=by
 induction h with
 | nil F X hF hX=>intro b hb; exact absurd (hF b) hb
 | undef F X v vs as h ih=>exact ih
 | bool F X v vs as h ih=>exact ih
 | int F X k n vs as h ih=>exact ih
 | str F X v vs as h ih=>exact ih
 | own F F1 F2 X s es v vs as h1 h hF ih=>
  intro b hb; rw[hF] at hb;by_cases e:F1 b=0
  ·exact ih b A7
  ·exact h1.lt rfl b e
 | ext F X X1 X2 s es v vs as h1 h hX ih=>exact ih
 | extv F X X1 X2 s es v vs as h1 h hX ih=>exact ih
 | box F F1 F2 X X1 X2 b C ty fr cs vs as hb hfr h1 h hF hX ih1 ih=>
  intro x hx; rw[hF] at hx;by_cases e:x=b
  ·subst e; exact(lG4.1 hb).1
  ·by_cases e1:F1 x=0
   ·exact ih x (by simp[e,e1] at hx; exact hx)
   ·exact ih1 x e1
 | xbox F X X1 X2 a us cs vs as hc h1 h hX ih=>exact ih
 | agg F F1 F2 X X1 X2 us cs vs as h1 h hF hX ih1 ih=>
  intro x hx; rw[hF] at hx;by_cases e1:F1 x=0
  ·exact ih x A7
  ·exact ih1 x e1
 | tup F F1 F2 X X1 X2 us cs vs as h1 h hF hX ih1 ih=>
  intro x hx; rw[hF] at hx;by_cases e1:F1 x=0
  ·exact ih x A7
  ·exact ih1 x e1
 | fn F F1 F2 X X1 X2 f us cs vs as h1 h hF hX ih1 ih=>
  intro x hx; rw[hF] at hx;by_cases e1:F1 x=0
  ·exact ih x A7
  ·exact ih1 x e1
 | lnk F X r e p o v vs as ho hv h ih=>exact ih
 | sub F X r e p s lo n o v vs as ho hv h ih=>exact ih
 | ref F X r e p st o v vs as ho hv h ih=>exact ih
theorem RepA.at {F X:aH} {vs:List Value} {as:List AV} {k:Nat} {a:AV} (h:RepA w lk F X vs as) (hk:as[k]?=some a) :
  ∃ v F1 F2 X1 X2,vs[k]?=some v/\RepA w lk F1 X1 [v] [a]/\(∀ b,F b=F1 b+F2 b)/\(∀ b,X b=X1 b+X2 b) /\
   ∀ w' lk',j6 w w' F2->j6 w w' X2->(∀ r e p o,lk r e p=some o->lk' r e p=some none\/lk' r e p=some o)->∀ v' a' G Y,RepA w' lk' G Y [v'] [a'] ->
    RepA w' lk' (fun b=>G b+F2 b) (fun b=>Y b+X2 b) (vs.set k v') (as.set k a'):=by
 have hl:=h.length;have aa:k<as.length:=(lG.1 hk).1;have htk:as=as.take k++a::as.drop (k+1):=by
  have:=(lG.1 hk).2;rw[<-this]; simp
 have nz:vs=vs.take k++vs[k]'A7::vs.drop (k+1):=by simp
 have h':RepA w lk F X (vs.take k++vs[k]'A7::vs.drop (k+1)) (as.take k++a::as.drop (k+1)):=by rw[<-htk,<-nz]; exact h
 obtain⟨F1,F2,X1,X2,h1,h2,e,ex⟩:=RepA.split _ _ D5 h';obtain⟨G1,G2,Y1,Y2,g1,g2,e',ex'⟩:=RepA.uncons h2;refine⟨vs[k]'A7,G1,fun b=>F1 b+G2 b,Y1,fun b=>X1 b+Y2 b,by simp,g1,fun b=>by dsimp only; rw[e,e']; omega,fun b=>by dsimp only; rw[ex,ex']; omega,?_⟩;intro w' lk' hs hsx ay v' a' G Y hg;have s1:RepA w' lk' F1 X1 (vs.take k) (as.take k):=h1.same ay (fun b hb=>hs b (by first | omega | (dsimp only; omega) | (dsimp only at *; omega))) (fun b hb=>hsx b (by first | omega | (dsimp only; omega) | (dsimp only at *; omega)));have s2:RepA w' lk' G2 Y2 (vs.drop (k+1)) (as.drop (k+1)):=g2.same ay (fun b hb=>hs b (by first | omega | (dsimp only; omega) | (dsimp only at *; omega))) (fun b hb=>hsx b (by first | omega | (dsimp only; omega) | (dsimp only at *; omega)));have:=RepA.append s1 (RepA.cons hg s2 (fun _=>rfl) (fun _=>rfl)) (fun _=>rfl) (fun _=>rfl);rw[lO3,lO3];rw[lK A7,lK aa];exact this.foot (fun b=>by first | omega | (dsimp only; omega) | (dsimp only at *; omega)) (fun b=>by first | omega | (dsimp only; omega) | (dsimp only at *; omega))
end
section
def AV.tv:AV->Option TV
 | .undef=>some .undef
 | .bool b=>some (.bool b)
 | .int k n=>some (.int k n)
 | .str s=>some (.str s)
 | .own s es=>some (.sl s es)
 | _=>none
def TV.av:TV->AV
 | .undef=>.undef
 | .bool b=>.bool b
 | .int k n=>.int k n
 | .str s=>.str s
 | .sl s es=>.own s es
def TV.xv:TV->AV
 | .undef=>.undef
 | .bool b=>.bool b
 | .int k n=>.int k n
 | .str s=>.str s
 | .sl s es=>.ext s es
def b9:AV->bA->Option AV
 | a,[]=>some a
 | .own s es,st::p=>(jZ (.sl s es) (st::p)).map TV.av
 | .box cs,st::p=>if st.i=0 then (cs[st.j]?).bind (b9 · p) else none
 | _,_::_=>none
def cX:AV->bA->AV->AV
 | _,[],u=>u
 | .own s es,st::p,u=>match u.tv with
  | some t=>.own s (es.modify st.i (·.modify st.j (aaE · p t)))
  | none=>.own s es
 | .box cs,st::p,u=>.box (cs.modify st.j (cX · p u))
 | a,_::_,_=>a
def kV:AV->bA->AV->Bool
 | _,[],_=>true
 | .own _ _,_::_,u=>u.tv.isSome
 | .box cs,st::p,u=>match cs[st.j]? with
  | some a=>kV a p u
  | none=>false
 | _,_::_,_=>false
def AV.isRoot:AV->Bool
 | .own _ _=>true
 | .box _=>true
 | _=>false
variable {w w':World} {lk lk':Lk}
theorem RepA.of_row {F:aH} {h:Value} {t:TV} (r:Row w true F [h] [t]):RepA w lk F (fun _=>0) [h] [t.av]:=by
 cases r with
 | undef _ _ _ _ _ h=>cases h with | nil _ _ hz=>exact .undef _ _ _ _ _ (.nil _ _ hz (fun _=>rfl))
 | bool _ _ _ _ _ h=>cases h with | nil _ _ hz=>exact .bool _ _ _ _ _ (.nil _ _ hz (fun _=>rfl))
 | int _ _ _ _ _ _ h=>cases h with | nil _ _ hz=>exact .int _ _ _ _ _ _ (.nil _ _ hz (fun _=>rfl))
 | str _ _ _ _ _ h=>cases h with | nil _ _ hz=>exact .str _ _ _ _ _ (.nil _ _ hz (fun _=>rfl))
 | own0 F s vs ts h=>
  exact .own F F (fun _=>0) _ s [] _ _ _ (.own0 F s [] [] h) RepA.znil (fun x=>by simp)
 | own F F1 F2 s es b off cap C ty fr cs vs ts hb hfr hcap hle ap hcs hc h1 h hF=>
  exact .own F F (fun _=>0) _ s es _ _ _ (.own F F1 F2 s es b off cap C ty fr cs [] [] hb hfr hcap hle ap hcs hc h1 h hF) RepA.znil (fun x=>by simp)
theorem RepA.to_row {F X:aH} {h:Value} {u:AV} {t:TV} (r:RepA w lk F X [h] [u]) (e:u.tv=some t):Row w true F [h] [t]/\∀ b,X b=0:=by
 cases r with
 | undef _ _ _ _ _ h=>cases e; cases h with | nil _ _ hz hx=>exact⟨.undef _ _ _ _ _ (.nil _ _ hz),hx⟩
 | bool _ _ _ _ _ h=>cases e; cases h with | nil _ _ hz hx=>exact⟨.bool _ _ _ _ _ (.nil _ _ hz),hx⟩
 | int _ _ _ _ _ _ h=>cases e; cases h with | nil _ _ hz hx=>exact⟨.int _ _ _ _ _ _ (.nil _ _ hz),hx⟩
 | str _ _ _ _ _ h=>cases e; cases h with | nil _ _ hz hx=>exact⟨.str _ _ _ _ _ (.nil _ _ hz),hx⟩
 | own _ F1 F2 _ s es _ _ _ h1 h hF=>
  cases e;cases h with
  | nil _ _ hz hx=>exact⟨h1.foot (fun b=>by rw[hF,hz]; omega),hx⟩
 | _=>cases e
theorem fY {α:Type} {l:List α} {k:Nat} {x:α} (h:l[k]?=some x):l.set k x=l:=by
 apply lB2;intro i;rw[lV3];by_cases e:k=i
 ·subst e;have:=(lG.1 h).1;simp only[lQ,this];rw[<-h]
 ·simp[e]
theorem j7 (p:bA):∀ {F X:aH} {v:Value} {a u:AV},RepA w lk F X [v] [a]->b9 a p=some u ->
  ∃ h Fu Fr Xu Xr,(∀ b,F b=Fu b+Fr b)/\(∀ b,X b=Xu b+Xr b)/\RepA w lk Fu Xu [h] [u]/\i4 w v p=some h /\
   ∀ w' lk',j6 w w' Fr->j6 w w' Xr->(∀ r e p o,lk r e p=some o->lk' r e p=some none\/lk' r e p=some o)->i4 w' v p=some h /\
    ∀ u' G Y,RepA w' lk' G Y [h] [u']->kV a p u'=true->RepA w' lk' (fun b=>G b+Fr b) (fun b=>Y b+Xr b) [v] [cX a p u']:=by
 induction p with
 | nil=>
  intro F X v a u hr hg;have:b9 a []=some a:=by cases a <;> rfl
  rw[this] at hg;cases hg;refine⟨v,F,fun _=>0,X,fun _=>0,fun b=>by simp,fun b=>by simp,hr,rfl,fun w' lk' _ _ _=>⟨rfl,fun u' G Y g _=>?_⟩⟩;have:cX a [] u'=u':=by cases a <;> rfl
  rw[this]; exact g.foot (fun b=>by simp) (fun b=>by simp)
 | cons st p ih=>
  intro F X v a u hr hg;cases a with
  | own s es=>
   simp only[b9] at hg;cases ht:jZ (.sl s es) (st::p) with
   | none=>simp[ht] at hg
   | some t=>
    simp[ht] at hg;subst hg;obtain⟨ak,hx⟩:=RepA.to_row hr rfl;obtain⟨h,Fu,Fr,hF,hu,ai,an⟩:=aqK (st::p) ak ht;refine⟨h,Fu,Fr,fun _=>0,X,hF,fun b=>by simp,RepA.of_row hu,ai,?_⟩;intro w' lk' s1 s2 s3;obtain⟨c1,c2⟩:=an w' s1;refine⟨c1,fun u' G Y g hf=>?_⟩;simp only[kV] at hf;cases hu':u'.tv with
    | none=>simp[hu'] at hf
    | some t'=>
     obtain⟨g1,gx⟩:=RepA.to_row g hu';have:=c2 t' G g1;simp only[cX,hu'];simp only[aaE] at this;exact(RepA.of_row this).foot (fun b=>rfl) (fun b=>by simp[gx,hx])
  | box cs=>
   simp only[b9] at hg;split at hg
   case isFalse=>cases hg
   rename_i cj;cases hj:cs[st.j]? with
   | none=>simp[hj] at hg
   | some a1=>
    simp[hj] at hg;cases hr with
    | box _ F1 F2 _ X1 X2 b C ty fr _ _ _ hb hfr h1 h2 hF hX=>
     obtain⟨v1,A1,A2,B1,B2,au,nf,hA,hB,hput⟩:=RepA.at h1 hj;obtain⟨h,Fu,Fr,Xu,Xr,gj,kf,hu,ai,an⟩:=ih nf hg;cases h2 with
     | nil _ _ hz hzx=>
      have al:∀ w':World,w'.heap[b]?=w.heap[b]?->w'.cell? ((⟨b,0,none⟩:Addr).add (st.i*st.s+st.j))=some v1:=by
       intro w' hw';have hq:C[st.j]?=some v1:=by rw[<-au]; simp
       rw[cj];simp only[lQ4,lL2];unfold Addr.add;by_cases e:st.j=0
       ·rw[e] at hq; simp[e,World.cell?,hw',hb,hq]
       ·simp[e,World.cell?,hw',hb,hq]
      refine⟨h,Fu,fun x=>(if x=b then 1 else 0)+A2 x+Fr x,Xu,fun x=>B2 x+Xr x,fun x=>by dsimp only; rw[hF,hA,gj,hz]; omega,
       fun x=>by dsimp only; rw[hX,hB,kf,hzx]; omega,hu,by simp only[i4]; rw[al w rfl]; exact ai,?_⟩
      intro w' lk' s1 s2 s3;have jm:w'.heap[b]?=w.heap[b]?:=s1 b A8;obtain⟨c1,c2⟩:=an w' lk' (fun x hx=>s1 x (by first | omega | (dsimp only; omega) | (dsimp only at *; omega))) (fun x hx=>s2 x (by first | omega | (dsimp only; omega) | (dsimp only at *; omega))) s3;refine⟨by simp only[i4]; rw[al w' jm]; exact c1,fun u' G Y g hf=>?_⟩;simp only[kV,hj] at hf;have de:=hput w' lk' (fun x hx=>s1 x (by first | omega | (dsimp only; omega) | (dsimp only at *; omega))) (fun x hx=>s2 x (by first | omega | (dsimp only; omega) | (dsimp only at *; omega))) s3 v1 _ _ _ (c2 u' G Y g hf);rw[fY au] at de;simp only[cX];rw[pC _ hj];exact .box _ (fun b=>G b+Fr b+A2 b) (fun _=>0) _ (fun b=>Y b+Xr b+B2 b) (fun _=>0) b C ty fr _ [] [] (jm.trans hb) hfr de RepA.znil
       (fun x=>by first | omega | (dsimp only; omega) | (dsimp only at *; omega)) (fun x=>by first | omega | (dsimp only; omega) | (dsimp only at *; omega))
  | _=>simp[b9] at hg
structure Env where
 f:Nat->AV
 ep:Nat->Nat × Nat
def fX (e:Nat × Nat) (p:bA):Nat:=if p.isEmpty then e.1 else e.2
def aM (w:World) (vl:Nat->Value) (E:Env):Lk:=fun r e p=>
 if e<fX (E.ep r) p then some none
 else if e=fX (E.ep r) p/\(E.f r).isRoot=true/\(b9 (E.f r) p).isSome=true then some (i4 w (vl r) p) else if e=fX (E.ep r) p/\(E.f r).isRoot=true then some none else none
def aI (tmps:Array Value) (hid:Nat->Value) (t:Nat):Value:=if t<tmps.size then tmps.getD t undef else hid t
structure Base where
 w0:World
 F0:aH
 X0:aH
 n:Nat
structure Quiet (w w':World):Prop where
 os:w'.os=w.os
 out:w'.output=w.output
structure Grows (w w':World):Prop where
 size:w.heap.size<=w'.heap.size
 quiet:Quiet w w'
theorem Quiet.refl (w:World):Quiet w w:=⟨rfl,rfl⟩
theorem Grows.refl (w:World):Grows w w:=⟨lE1 _,.refl w⟩
theorem Grows.trans {w w1 w2:World} (h:Grows w w1) (g:Grows w1 w2):Grows w w2:=
 ⟨lZ4 h.size g.size,g.quiet.os.trans h.quiet.os,g.quiet.out.trans h.quiet.out⟩
structure Kept (w w':World):Prop where
 size:w'.heap.size=w.heap.size
 quiet:Quiet w w'
structure Rel (B:Base) (hid:Nat->Value) (w:World) (a:Act) (E:Env) (Fs Xs:Nat->aH):Prop where
 size:a.tmps.size=B.n
 dfr:a.defers=[]
 rep:∀ t,RepA w (aM w (aI a.tmps hid) E) (Fs t) (Xs t) [aI a.tmps hid t] [E.f t]
 one:∀ t b,Fs t b<=1
 dis:∀ t t' b,t≠t'->Fs t b=0\/Fs t' b=0
 disx:∀ t t' b,Fs t b=0\/Xs t' b=0
 grow:Grows B.w0 w
 frame:∀ b,b<B.w0.heap.size->B.F0 b=0->w.heap[b]?=B.w0.heap[b]?
 org:∀ t b,Fs t b≠0->B.F0 b≠0\/B.w0.heap.size<=b
 orgx:∀ t b,Xs t b≠0->B.X0 b≠0\/B.F0 b≠0\/B.w0.heap.size<=b
 ltx:∀ t b,Xs t b≠0->b<w.heap.size
theorem kW {B:Base} {hid hid':Nat->Value} {a a':Act} {E E':Env} {Fs Xs:Nat->aH} (R:Rel B hid w a E Fs Xs) {r:Nat}
  (hE:E'.f r=E.f r) (hp:E'.ep r=E.ep r) (hv:aI a'.tmps hid' r=aI a.tmps hid r) (s1:j6 w w' (Fs r)) (s2:j6 w w' (Xs r)) (e:Nat) (p:bA) :
  aM w' (aI a'.tmps hid') E' r e p=aM w (aI a.tmps hid) E r e p:=by
 unfold aM;rw[hE,hp,hv];split
 ·rfl
 ·split
  case isFalse=>rfl
  rename_i hc;simp only[lI2] at hc;obtain⟨_,hr,u,hu⟩:=hc;obtain⟨hh,Fu,Fr,Xu,Xr,hF,hX,_,ai,an⟩:=j7 p (R.rep r) hu;have:=(an w' (aM w (aI a.tmps hid) E) (fun b hb=>s1 b (by rw[hF]; omega)) (fun b hb=>s2 b (by rw[hX]; omega)) (fun _ _ _ _ h=>.inr h)).1;rw[this,ai]
theorem Rel.change {B:Base} {hid hid':Nat->Value} {a a':Act} {E E':Env} {Fs Xs Fs' Xs':Nat->aH} (R:Rel B hid w a E Fs Xs) (D:Nat->Prop)
  (ar:a'.tmps.size=B.n) (hdf:a'.defers=[])
  (hE:∀ t,¬ D t->E'.f t=E.f t/\E'.ep t=E.ep t/\aI a'.tmps hid' t=aI a.tmps hid t/\Fs' t=Fs t/\Xs' t=Xs t/\j6 w w' (Fs t)/\j6 w w' (Xs t))
  (hl:∀ r,D r->∀ e p o,aM w (aI a.tmps hid) E r e p=some o->aM w' (aI a'.tmps hid') E' r e p=some none\/aM w' (aI a'.tmps hid') E' r e p=some o)
  (hD:(∀ r e p o,aM w (aI a.tmps hid) E r e p=some o->aM w' (aI a'.tmps hid') E' r e p=some none\/aM w' (aI a'.tmps hid') E' r e p=some o) ->
   ∀ t,D t->RepA w' (aM w' (aI a'.tmps hid') E') (Fs' t) (Xs' t) [aI a'.tmps hid' t] [E'.f t])
  (one:∀ t,D t->∀ b,Fs' t b<=1)
  (dis:∀ t,D t->∀ t',t≠t'->∀ b,Fs' t b=0\/Fs' t' b=0)
  (disF:∀ t,D t->∀ t' b,Fs' t b=0\/Xs' t' b=0)
  (disX:∀ t,D t->∀ t' b,Fs' t' b=0\/Xs' t b=0)
  (grow:Grows w w')
  (frame:∀ b,b<B.w0.heap.size->B.F0 b=0->w'.heap[b]?=w.heap[b]?)
  (org:∀ t,D t->∀ b,Fs' t b≠0->B.F0 b≠0\/B.w0.heap.size<=b)
  (orgx:∀ t,D t->∀ b,Xs' t b≠0->(B.X0 b≠0\/B.F0 b≠0\/B.w0.heap.size<=b)/\b<w'.heap.size):Rel B hid' w' a' E' Fs' Xs':=by
 have links:∀ r e p o,aM w (aI a.tmps hid) E r e p=some o->aM w' (aI a'.tmps hid') E' r e p=some none\/aM w' (aI a'.tmps hid') E' r e p=some o:=by
  intro r e p o h;by_cases hr:D r
  ·exact hl r hr e p o h
  ·obtain⟨h1,h2,h3,h4,h5,h6,h7⟩:=hE r hr;exact .inr (by rw[kW R h1 h2 h3 h6 h7]; exact h)
 refine⟨ar,hdf,?_,?_,?_,?_,R.grow.trans grow,?_,?_,?_,?_⟩
 ·intro t;by_cases ht:D t
  ·exact hD links t ht
  ·obtain⟨h1,h2,h3,h4,h5,h6,h7⟩:=hE t ht;have:=(R.rep t).same (w':=w') (lk':=aM w' (aI a'.tmps hid') E') links h6 h7;rw[h1,h3,h4,h5]; exact this
 ·intro t b;by_cases ht:D t
  ·exact one t ht b
  ·rw[(hE t ht).2.2.2.1]; exact R.one t b
 ·intro t t' b am;by_cases ht:D t
  ·exact dis t ht t' am b
  ·by_cases ht':D t'
   ·exact(dis t' ht' t (Ne.symm am) b).symm
   ·rw[(hE t ht).2.2.2.1,(hE t' ht').2.2.2.1]; exact R.dis t t' b am
 ·intro t t' b;by_cases ht:D t
  ·exact disF t ht t' b
  ·by_cases ht':D t'
   ·exact disX t' ht' t b
   ·rw[(hE t ht).2.2.2.1,(hE t' ht').2.2.2.2.1]; exact R.disx t t' b
 ·intro b hb h0; rw[frame b hb h0]; exact R.frame b hb h0
 ·intro t b hb;by_cases ht:D t
  ·exact org t ht b hb
  ·rw[(hE t ht).2.2.2.1] at hb; exact R.org t b hb
 ·intro t b hb;by_cases ht:D t
  ·exact(orgx t ht b hb).1
  ·rw[(hE t ht).2.2.2.2.1] at hb; exact R.orgx t b hb
 ·intro t b hb;by_cases ht:D t
  ·exact(orgx t ht b hb).2
  ·rw[(hE t ht).2.2.2.2.1] at hb; exact lJ4 (R.ltx t b hb) grow.size
end
section
def Env.put (E:Env) (d:Nat) (x:AV):Env:=
 ⟨fun t=>if t=d then x else E.f t,fun t=>if t=d/\(E.f d).isRoot=true then ((E.ep d).1+1,(E.ep d).2+1) else E.ep t⟩
def Env.upd (E:Env) (d:Nat) (x:AV):Env:=
 ⟨fun t=>if t=d then x else E.f t,fun t=>if t=d then ((E.ep d).1,(E.ep d).2+1) else E.ep t⟩
def Env.set0 (E:Env) (d:Nat) (x:AV):Env:=⟨fun t=>if t=d then x else E.f t,E.ep⟩
theorem mR {E:Env} {d:Nat} {x:AV} {t:Nat} (h:t≠d):(E.set0 d x).f t=E.f t:=by simp[Env.set0,h]
theorem pD {E:Env} {d:Nat} {x:AV}:(E.set0 d x).f d=x:=by simp[Env.set0]
theorem kY (E:Env) (d:Nat) (x:AV) (t:Nat):(E.put d x).f t=if t=d then x else E.f t:=rfl
theorem apD (E:Env) (d:Nat) (x:AV) (t:Nat):(E.upd d x).f t=if t=d then x else E.f t:=rfl
theorem bX {E:Env} {d:Nat} {x:AV} {t:Nat} (h:t≠d):(E.put d x).f t=E.f t:=by simp[kY,h]
theorem cY {E:Env} {d:Nat} {x:AV} {t:Nat} (h:t≠d):(E.put d x).ep t=E.ep t:=by simp[Env.put,h]
theorem yU {E:Env} {d:Nat} {x:AV} {t:Nat} (h:t≠d):(E.upd d x).f t=E.f t:=by simp[apD,h]
theorem t7 {E:Env} {d:Nat} {x:AV} {t:Nat} (h:t≠d):(E.upd d x).ep t=E.ep t:=by simp[Env.upd,h]
theorem cQ {E:Env} {d:Nat} {x:AV}:(E.put d x).f d=x:=by simp[kY]
theorem pE {E:Env} {d:Nat} {x:AV}:(E.upd d x).f d=x:=by simp[apD]
variable {w w':World} {lk lk':Lk}
theorem eI {vl vl':Nat->Value} {E E':Env} {d:Nat} {x:AV} (hE:E'.ep d=(E.put d x).ep d) {e:Nat} {p:bA} {o:Option Value}
  (h:aM w vl E d e p=some o):aM w' vl' E' d e p=some none:=by
 unfold aM at h ⊢;rw[hE];simp only[Env.put,lQ,true_and];by_cases hr:(E.f d).isRoot=true
 ·simp only[hr,lQ];have:e<=fX (E.ep d) p:=by
   split at h
   ·omega
   ·split at h
    ·rename_i hc; omega
    ·split at h
     ·rename_i hc; omega
     ·cases h
  rw[lK];unfold fX at *;split <;> simp_all <;> omega
 ·simp only[hr] at h ⊢;split at h
  ·rename_i aa; simp[aa]
  ·simp at h
theorem t8 {vl vl':Nat->Value} {E E':Env} {d:Nat} {x:AV} (hE:E'.ep d=(E.upd d x).ep d) (hf:E'.f d=x) (hx:x.isRoot=true) (hv:vl' d=vl d) {e:Nat} {p:bA} {o:Option Value}
  (h:aM w vl E d e p=some o):aM w' vl' E' d e p=some none\/aM w' vl' E' d e p=some o:=by
 unfold aM at h ⊢;rw[hE,hf,hv];simp only[Env.upd,lQ,hx,true_and];cases p with
 | nil=>
  simp only[fX,List.isEmpty_nil,lQ] at h ⊢;split at h
  ·rename_i aa; left; rw[lK aa]
  ·rename_i aa;split at h
   ·rename_i hc;right;rw[lO aa,lK ⟨hc.1,by cases x <;> rfl⟩];simpa [i4] using h
   ·split at h
    ·rename_i hc bx;exact absurd ⟨bx.1,bx.2,by cases E.f d <;> rfl⟩ hc
    ·cases h
 | cons st p=>
  have cw:∀ z:Nat × Nat,fX z (st::p)=z.2:=fun z=>rfl
  rw[cw] at h ⊢;left;have:e<=(E.ep d).2:=by
   split at h
   ·omega
   ·split at h
    ·rename_i hc; omega
    ·split at h
     ·rename_i hc; omega
     ·cases h
  rw[lK A7]
theorem af9 (q:bA):∀ (p:bA) (t:TV),(jZ (aaE t p .undef) q).isSome=true->(jZ t q).isSome=true:=by
 induction q with
 | nil=>intro p t _; cases t <;> rfl
 | cons sq q ih=>
  intro p t h;cases p with
  | nil=>simp[aaE,jZ] at h
  | cons st p=>
   cases t with
   | sl s es=>
    simp only[aaE,jZ] at h ⊢;split at h
    case isFalse=>simp at h
    rename_i hs;rw[lK hs];cases h1:es[sq.i]? with
    | none=>
     rw[lL1] at h;rw[h1] at h;simp at h
    | some row=>
     rw[lL1,h1] at h;simp only[lD4,lD,lE] at h ⊢;cases h2:row[sq.j]? with
     | none=>
      by_cases e:st.i=sq.i
      ·simp only[e,lQ] at h;rw[lL1,h2] at h;simp at h
      ·simp only[e,lN1] at h;rw[h2] at h; simp at h
     | some c=>
      simp only[lE];by_cases e:st.i=sq.i
      ·simp only[e,lQ] at h;rw[lL1,h2] at h;simp only[lD4,lD,lE] at h;by_cases e2:st.j=sq.j
       ·simp only[e2,lQ] at h; exact ih p c h
       ·simpa [e2] using h
      ·simp only[e,lN1] at h;rw[h2] at h; simpa using h
   | _=>simpa [aaE] using h
theorem aga (q:bA):∀ (p:bA) (a:AV),(b9 (cX a p .undef) q).isSome=true->(b9 a q).isSome=true:=by
 induction q with
 | nil=>intro p a _; cases a <;> rfl
 | cons sq q ih=>
  intro p a h;cases p with
  | nil=>cases a <;> simp[cX,b9] at h
  | cons st p=>
   cases a with
   | own s es=>
    simp only[cX,AV.tv,b9,lI3] at h ⊢;have:=af9 (sq::q) (st::p) (.sl s es);simp only[aaE] at this;exact this h
   | box cs=>
    simp only[cX,b9] at h ⊢;split at h
    case isFalse=>simp at h
    rename_i hs;rw[lK hs];rw[lL1] at h;cases h1:cs[sq.j]? with
    | none=>rw[h1] at h; simp at h
    | some c=>
     rw[h1] at h;simp only[lD4,lD,lE] at h ⊢;by_cases e:st.j=sq.j
     ·simp only[e,lQ] at h; exact ih p c h
     ·simpa [e] using h
   | _=>simpa [cX] using h
theorem agb {vl vl':Nat->Value} {E E':Env} {d:Nat} {p0:bA} (hE:E'.ep d=E.ep d) (hf:E'.f d=cX (E.f d) p0 .undef) (hx:(E.f d).isRoot=true->(cX (E.f d) p0 .undef).isRoot=true) (hx':(cX (E.f d) p0 .undef).isRoot=true->(E.f d).isRoot=true) (hv:vl' d=vl d) {e:Nat} {p:bA} {o:Option Value}
  (h:aM w vl E d e p=some o):aM w vl' E' d e p=some none\/aM w vl' E' d e p=some o:=by
 unfold aM at h ⊢;rw[hE,hf,hv];split at h
 ·rename_i aa; left; rw[lK aa]
 ·rename_i aa;rw[lO aa];split at h
  ·rename_i hc;by_cases hs:(b9 (cX (E.f d) p0 .undef) p).isSome=true
   ·right; rw[lK ⟨hc.1,hx hc.2.1,hs⟩]; exact h
   ·left; rw[lO (fun g=>hs g.2.2),lK ⟨hc.1,hx hc.2.1⟩]
  ·split at h
   ·rename_i hc bx;left;by_cases hs:(b9 (cX (E.f d) p0 .undef) p).isSome=true
    ·exact absurd ⟨bx.1,bx.2,aga _ _ _ hs⟩ hc
    ·rw[lO (fun g=>hs g.2.2),lK ⟨bx.1,hx bx.2⟩]
   ·cases h
def bC (B:Base) (hv:Nat->Value) (w:World) (a:Act) (E:Env):Prop:=
 ∃ hid Fs Xs,Rel B hid w a E Fs Xs/\∀ t,t<2000->hid t=hv t
theorem pG {tmps:Array Value} {hid:Nat->Value} {q:Nat} (h:tmps.size<=q):aI tmps hid q=hid q:=by
 unfold aI; rw[if_neg A7]
theorem anm {tmps:Array Value} {hid:Nat->Value} {q t:Nat} {v:Value} (h:t≠q):aI tmps (fun t=>if t=q then v else hid t) t=aI tmps hid t:=by
 unfold aI; split
 ·rfl
 ·simp[h]
theorem apE {a:Act} {hid:Nat->Value} {d t:Nat} {v:Value} (h:t≠d):aI (a.put (some d) v).tmps hid t=aI a.tmps hid t:=by
 unfold aI;simp only[Act.put,Array.size_setIfInBounds,lF1];rw[Array.getElem?_setIfInBounds_ne (Ne.symm h)]
theorem ahV {a:Act} {hid:Nat->Value} {d:Nat} {v:Value} (h:d<a.tmps.size):aI (a.put (some d) v).tmps hid d=v:=by
 unfold aI;simp[Act.put,h]
theorem kZ {a:Act} {hid:Nat->Value} {t:Nat} (h:t<a.tmps.size):a.eval (.tmp t)=aI a.tmps hid t:=by
 unfold aI;rw[lK h];simp[Act.eval]
theorem Rel.hput {B:Base} {hid:Nat->Value} {a:Act} {E E':Env} {Fs Xs:Nat->aH} (R:Rel B hid w a E Fs Xs) (q:Nat) (hq:B.n<=q) (Q:Nat->Prop)
  (hQq:¬ Q q) (v:Value) (x:AV) (Fx Xx:aH)
  (hE:∀ t,t≠q->¬ Q t->E'.f t=E.f t/\E'.ep t=E.ep t) (hqf:E'.f q=x) (hqe:E'.ep q=(E.put q x).ep q)
  (hQ:∀ t,Q t->E'.f t=.undef/\E'.ep t=(E.put t .undef).ep t)
  (sm:∀ t,t≠q->¬ Q t->j6 w w' (Fs t)/\j6 w w' (Xs t))
  (hx:∀ lk',(∀ r e p o,aM w (aI a.tmps hid) E r e p=some o->lk' r e p=some none\/lk' r e p=some o)->RepA w' lk' Fx Xx [v] [x])
  (one:∀ b,Fx b<=1) (dis:∀ t,t≠q->¬ Q t->∀ b,Fx b=0\/Fs t b=0) (dx1:∀ b,Fx b=0\/Xx b=0)
  (dx2:∀ t,t≠q->¬ Q t->∀ b,Fx b=0\/Xs t b=0) (dx3:∀ t,t≠q->¬ Q t->∀ b,Xx b=0\/Fs t b=0)
  (grow:Grows w w') (frame:∀ b,b<B.w0.heap.size->B.F0 b=0->w'.heap[b]?=w.heap[b]?)
  (org:∀ b,Fx b≠0->B.F0 b≠0\/B.w0.heap.size<=b) (orgx:∀ b,Xx b≠0->(B.X0 b≠0\/B.F0 b≠0\/B.w0.heap.size<=b)/\b<w'.heap.size) :
  ∃ Fs' Xs',Rel B (fun t=>if t=q then v else hid t) w' a E' Fs' Xs'/\(∀ b,Fs' q b=Fx b)/\(∀ b,Xs' q b=Xx b) /\
   (∀ t,t≠q->¬ Q t->Fs' t=Fs t/\Xs' t=Xs t)/\(∀ t,Q t->(∀ b,Fs' t b=0)/\∀ b,Xs' t b=0):=by
 classical
 refine⟨fun t=>if t=q then Fx else if Q t then fun _=>0 else Fs t,fun t=>if t=q then Xx else if Q t then fun _=>0 else Xs t,?_,
  fun b=>by simp,fun b=>by simp,fun t h1 h2=>by simp[h1,h2],fun t h=>?_⟩
 rotate_left
 ·have:t≠q:=fun e=>hQq (e ▸ h)
  simp[this,h]
 refine R.change (fun t=>t=q\/Q t) R.size R.dfr ?_ ?_ ?_ ?_ ?_ ?_ ?_ grow frame ?_ ?_
 ·intro t ht;have h1:t≠q:=fun e=>ht (.inl e)
  have h2:¬ Q t:=fun e=>ht (.inr e)
  obtain⟨e1,e2⟩:=hE t h1 h2;exact⟨e1,e2,anm h1,by simp[h1,h2],by simp[h1,h2],(sm t h1 h2).1,(sm t h1 h2).2⟩
 ·intro r hr e p o h;rcases hr with rfl | hr
  ·exact .inl (eI hqe h)
  ·exact .inl (eI (hQ r hr).2 h)
 ·intro links t ht;rcases ht with rfl | ht
  ·have e1:aI a.tmps (fun s=>if s=t then v else hid s) t=v:=by rw[pG (by rw[R.size]; exact hq)]; simp
   rw[e1,hqf];simp only[lQ];exact hx _ links
  ·have h1:t≠q:=fun e=>hQq (e ▸ ht)
   rw[(hQ t ht).1];simp only[h1,ht,lQ,lN1];exact .undef _ _ _ _ _ RepA.znil
 ·intro t ht b;by_cases e:t=q
  ·simp only[e,lQ]; exact one b
  ·have:Q t:=ht.resolve_left e;simp[e,this]
 ·intro t ht t' am b;by_cases e:t=q
  ·simp only[e,lQ];have e':t'≠q:=fun h=>am (e.trans h.symm)
   simp only[e',lN1];by_cases hq':Q t'
   ·simp[hq']
   ·simp only[hq',lN1]; exact dis t' e' hq' b
  ·have:Q t:=ht.resolve_left e;simp[e,this]
 ·intro t ht t' b;by_cases e:t=q
  ·simp only[e,lQ];by_cases e':t'=q
   ·simp only[e',lQ]; exact dx1 b
   ·simp only[e',lN1];by_cases hq':Q t'
    ·simp[hq']
    ·simp only[hq',lN1]; exact dx2 t' e' hq' b
  ·have:Q t:=ht.resolve_left e;simp[e,this]
 ·intro t ht t' b;by_cases e:t=q
  ·simp only[e,lQ];by_cases e':t'=q
   ·simp only[e',lQ]; exact dx1 b
   ·simp only[e',lN1];by_cases hq':Q t'
    ·simp[hq']
    ·simp only[hq',lN1]; exact(dx3 t' e' hq' b).symm
  ·have:Q t:=ht.resolve_left e;simp[e,this]
 ·intro t ht b hb;by_cases e:t=q
  ·simp only[e,lQ] at hb; exact org b hb
  ·have:Q t:=ht.resolve_left e;simp[e,this] at hb
 ·intro t ht b hb;by_cases e:t=q
  ·simp only[e,lQ] at hb; exact orgx b hb
  ·have:Q t:=ht.resolve_left e;simp[e,this] at hb
end
section
variable {w w':World}
structure PR (B:Base) (hid:Nat->Value) (w:World) (a:Act) (E:Env) (Fs Xs:Nat->aH) (FP XP:aH) (vs:List Value) (xs:List AV):Prop where
 rel:Rel B hid w a E Fs Xs
 rep:RepA w (aM w (aI a.tmps hid) E) FP XP vs xs
 one:∀ b,FP b<=1
 dis:∀ t b,FP b=0\/Fs t b=0
 dx1:∀ t b,FP b=0\/Xs t b=0
 dx2:∀ t b,XP b=0\/Fs t b=0
 dx3:∀ b,FP b=0\/XP b=0
 org:∀ b,FP b≠0->B.F0 b≠0\/B.w0.heap.size<=b
 orgx:∀ b,XP b≠0->(B.X0 b≠0\/B.F0 b≠0\/B.w0.heap.size<=b)/\b<w.heap.size
theorem PR.nil {B:Base} {hid:Nat->Value} {a:Act} {E:Env} {Fs Xs:Nat->aH} (R:Rel B hid w a E Fs Xs):PR B hid w a E Fs Xs (fun _=>0) (fun _=>0) [] []:=
 ⟨R,RepA.znil,fun b=>by simp,fun t b=>.inl rfl,fun t b=>.inl rfl,fun t b=>.inl rfl,fun b=>.inl rfl,fun b h=>absurd rfl h,fun b h=>absurd rfl h⟩
theorem PR.copy {B:Base} {hid:Nat->Value} {a:Act} {E:Env} {Fs Xs:Nat->aH} {FP XP:aH} {vs:List Value} {xs:List AV}
  (P:PR B hid w a E Fs Xs FP XP vs xs) {v:Value} {x:AV} {F X:aH} (h:RepA w (aM w (aI a.tmps hid) E) F X [v] [x]) (hF:∀ b,F b=0)
  (hX:∀ b,X b≠0->∃ t,Xs t b≠0):∃ XP',PR B hid w a E Fs Xs FP XP' (vs++[v]) (xs++[x]):=by
 refine⟨fun b=>XP b+X b,P.rel,RepA.append P.rep h (fun b=>by rw[hF]; omega) (fun _=>rfl),P.one,P.dis,P.dx1,?_,?_,P.org,?_⟩
 ·intro t b;rcases P.dx2 t b with h1 | h1
  ·by_cases h2:X b=0
   ·left; (try dsimp only); omega
   ·obtain⟨t',ht'⟩:=hX b h2;rcases P.rel.disx t t' b with h3 | h3
    ·exact .inr h3
    ·exact absurd h3 ht'
  ·exact .inr h1
 ·intro b;by_cases h2:X b=0
  ·rcases P.dx3 b with h1 | h1
   ·exact .inl h1
   ·right; (try dsimp only); omega
  ·obtain⟨t',ht'⟩:=hX b h2;rcases P.dx1 t' b with h3 | h3
   ·exact .inl h3
   ·exact absurd h3 ht'
 ·intro b hb;by_cases h2:X b=0
  ·exact P.orgx b (by (try dsimp only at hb); omega)
  ·obtain⟨t',ht'⟩:=hX b h2;exact⟨P.rel.orgx t' b ht',P.rel.ltx t' b ht'⟩
theorem PR.move {B:Base} {hid:Nat->Value} {a:Act} {E:Env} {Fs Xs:Nat->aH} {FP XP:aH} {vs:List Value} {xs:List AV}
  (P:PR B hid w a E Fs Xs FP XP vs xs) (n:Nat) :
  ∃ Fs' Xs' FP' XP',PR B hid w a (E.put n .undef) Fs' Xs' FP' XP' (vs++[aI a.tmps hid n]) (xs++[E.f n]):=by
 have R:=P.rel;have links:∀ r e p o,aM w (aI a.tmps hid) E r e p=some o->aM w (aI a.tmps hid) (E.put n .undef) r e p=some none\/aM w (aI a.tmps hid) (E.put n .undef) r e p=some o:=by
  intro r e p o h;by_cases hr:r=n
  ·subst hr; exact .inl (eI rfl h)
  ·exact .inr (by rw[kW R (bX hr) (cY hr) rfl (fun _ _=>rfl) (fun _ _=>rfl)]; exact h)
 refine⟨fun t=>if t=n then fun _=>0 else Fs t,fun t=>if t=n then fun _=>0 else Xs t,fun b=>FP b+Fs n b,fun b=>XP b+Xs n b,?_,?_,?_,?_,?_,?_,?_,?_,?_⟩
 ·refine R.change (fun t=>t=n) R.size R.dfr ?_ ?_ ?_ ?_ ?_ ?_ ?_ (Grows.refl _) (fun _ _ _=>rfl) ?_ ?_
  ·intro t ht; exact⟨bX ht,cY ht,rfl,by simp[ht],by simp[ht],fun _ _=>rfl,fun _ _=>rfl⟩
  ·intro r hr e p o h; subst hr; exact .inl (eI rfl h)
  ·intro _ t ht; subst ht; rw[cQ]; simp only[lQ]; exact .undef _ _ _ _ _ RepA.znil
  ·intro t ht b; simp[ht]
  ·intro t ht t' am b; simp[ht]
  ·intro t ht t' b; simp[ht]
  ·intro t ht t' b; simp[ht]
  ·intro t ht b hb; simp[ht] at hb
  ·intro t ht b hb; simp[ht] at hb
 ·exact RepA.append (P.rep.same links (fun _ _=>rfl) (fun _ _=>rfl)) ((R.rep n).same links (fun _ _=>rfl) (fun _ _=>rfl)) (fun _=>rfl) (fun _=>rfl)
 ·intro b;have:=P.one b; have:=R.one n b; have:=P.dis n b
  (try dsimp only); omega
 ·intro t b;by_cases ht:t=n
  ·simp[ht]
  ·simp only[ht,lN1];have:=P.dis t b; have:=R.dis t n b ht;omega
 ·intro t b;by_cases ht:t=n
  ·simp[ht]
  ·simp only[ht,lN1];have:=P.dx1 t b; have:=R.disx n t b;omega
 ·intro t b;by_cases ht:t=n
  ·simp[ht]
  ·simp only[ht,lN1];have:=P.dx2 t b; have:=R.disx t n b;omega
 ·intro b;have:=P.dx3 b; have:=P.dx1 n b; have:=P.dx2 n b; have:=R.disx n n b
  (try dsimp only); omega
 ·intro b hb;by_cases h:FP b=0
  ·exact R.org n b (by (try dsimp only at hb); omega)
  ·exact P.org b h
 ·intro b hb;by_cases h:XP b=0
  ·exact⟨R.orgx n b (by (try dsimp only at hb); omega),R.ltx n b (by (try dsimp only at hb); omega)⟩
  ·exact P.orgx b h
def takeN (E:Env) (r:Nat) (p:bA):Env:=if p.isEmpty then E.put r .undef else E.set0 r (cX (E.f r) p .undef)
def aK (E:Env) (r e:Nat) (p:bA):Option (Nat × List (List TV)):=
 if e=fX (E.ep r) p then match (E.f r).isRoot,b9 (E.f r) p with
  | true,some (.own s es)=>some (s,es)
  | _,_=>none
 else none
theorem bR {E:Env} {r e:Nat} {p:bA} {s:Nat} {es:List (List TV)} (h:aK E r e p=some (s,es)) :
  e=fX (E.ep r) p/\(E.f r).isRoot=true/\b9 (E.f r) p=some (.own s es):=by
 unfold aK at h;split at h
 ·rename_i he;split at h
  ·rename_i s' es' h1 h2; cases h; exact⟨he,h1,h2⟩
  ·cases h
 ·cases h
theorem agc (p:bA):∀ (a u:AV),b9 a p=some u->a.isRoot=true\/p=[]->kV a p .undef=true:=by
 induction p with
 | nil=>intro a u _ _; cases a <;> rfl
 | cons st p ih=>
  intro a u h hr;cases a with
  | own s es=>rfl
  | box cs=>
   simp only[b9] at h;split at h
   case isFalse=>cases h
   cases hj:cs[st.j]? with
   | none=>simp[hj] at h
   | some c=>
    simp[hj] at h;simp only[kV,hj];cases p with
    | nil=>cases c <;> rfl
    | cons st' p'=>
     refine ih c u h (.inl ?_);cases c <;> simp[b9] at h <;> rfl
  | _=>simp[b9] at h
theorem PR.node {B:Base} {hid:Nat->Value} {a:Act} {E:Env} {Fs Xs:Nat->aH} {FP XP:aH} {us vs:List Value} {ys xs:List AV} {v:Value} {r e:Nat} {p:bA} {s:Nat} {es:List (List TV)}
  (hl:us.length=ys.length)
  (P:PR B hid w a E Fs Xs FP XP (us++v::vs) (ys++.lnk r e p::xs)) (hn:aK E r e p=some (s,es)) :
  ∃ Fs' Xs' FP' XP',PR B hid w a (takeN E r p) Fs' Xs' FP' XP' (us++v::vs) (ys++.own s es::xs):=by
 have R:=P.rel;obtain⟨he,af,hg⟩:=bR hn;obtain⟨h,Fu,Fr,Xu,Xr,hF,hX,hu,ai,an⟩:=j7 p (R.rep r) hg;obtain⟨ak,hxu⟩:=RepA.to_row hu rfl;obtain⟨A1,A2,Y1,Y2,q1,q2,eA,eY⟩:=RepA.split us ys hl P.rep;obtain⟨C1,C2,Z1,Z2,q3,q4,eC,eZ⟩:=RepA.uncons q2;have hv:v=h:=by
  have ay:aM w (aI a.tmps hid) E r e p=some (some h):=by
   unfold aM; rw[if_neg A7,if_pos ⟨he,af,by rw[hg]; rfl⟩,ai]
  cases q3 with
  | lnk _ _ _ _ _ o _ _ _ ho hv _=>rw[ay] at ho; cases ho; exact hv h rfl
 have hz:(∀ b,C1 b=0)/\∀ b,Z1 b=0:=by
  cases q3 with
  | lnk _ _ _ _ _ o _ _ _ ho hv q=>cases q with | nil _ _ h1 h2=>exact⟨h1,h2⟩
 subst hv;have ed:∀ t,t≠r->(takeN E r p).f t=E.f t/\(takeN E r p).ep t=E.ep t:=by
  intro t ht; unfold takeN; split
  ·exact⟨bX ht,cY ht⟩
  ·exact⟨mR ht,rfl⟩
 have hR:(takeN E r p).f r=if p.isEmpty then .undef else cX (E.f r) p .undef:=by
  unfold takeN; split
  ·exact cQ
  ·exact pD
 have lv:p.isEmpty=false->((takeN E r p).f r).isRoot=true:=by
  intro hp;rw[hR,hp];cases p with
  | nil=>simp at hp
  | cons st p=>
   simp only[lK4,lN1];cases hq:E.f r with
   | own s es=>simp only[cX]; split <;> rfl
   | box cs=>rfl
   | _=>rw[hq] at af; cases af
 have links:∀ r' e p' o,aM w (aI a.tmps hid) E r' e p'=some o->aM w (aI a.tmps hid) (takeN E r p) r' e p'=some none\/aM w (aI a.tmps hid) (takeN E r p) r' e p'=some o:=by
  intro r' e' p' o h';by_cases hr:r'=r
  ·subst hr;by_cases hp:p.isEmpty=true
   ·exact .inl (eI (x:=.undef) (by unfold takeN; rw[if_pos hp]) h')
   ·have hp':p.isEmpty=false:=by simpa using hp
    have:=lv hp';rw[hR,hp'] at this;exact agb (p0:=p) (by unfold takeN; rw[if_neg hp]; rfl) (by rw[hR,hp']; rfl) (fun _=>this) (fun _=>af) rfl h'
  ·exact .inr (by rw[kW R (ed r' hr).1 (ed r' hr).2 rfl (fun _ _=>rfl) (fun _ _=>rfl)]; exact h')
 have aq:RepA w (aM w (aI a.tmps hid) (takeN E r p)) (if p.isEmpty then fun _=>0 else Fr) (if p.isEmpty then fun _=>0 else Xr) [aI a.tmps hid r] [(takeN E r p).f r]:=by
  rw[hR];cases hp:p.isEmpty with
  | true=>exact .undef _ _ _ _ _ RepA.znil
  | false=>
   simp only[lK4,lN1];obtain⟨c1,c2⟩:=an w (aM w (aI a.tmps hid) (takeN E r p)) (fun _ _=>rfl) (fun _ _=>rfl) links;exact(c2 .undef (fun _=>0) (fun _=>0) (.undef _ _ _ _ _ RepA.znil) (agc p _ _ hg (.inl af))).foot (fun b=>by simp) (fun b=>by simp)
 have gj:∀ b,(if p.isEmpty then (fun _=>0:aH) else Fr) b<=Fr b:=by intro b; split <;> simp
 have kf:∀ b,(if p.isEmpty then (fun _=>0:aH) else Xr) b<=Xr b:=by intro b; split <;> simp
 generalize (if p.isEmpty then (fun _=>0:aH) else Fr)=Gr at aq gj;generalize (if p.isEmpty then (fun _=>0:aH) else Xr)=Wr at aq kf;refine⟨fun t=>if t=r then Gr else Fs t,fun t=>if t=r then Wr else Xs t,fun b=>FP b+Fu b,XP,?_,?_,?_,?_,?_,?_,?_,?_,P.orgx⟩
 ·refine R.change (fun t=>t=r) R.size R.dfr ?_ ?_ ?_ ?_ ?_ ?_ ?_ (Grows.refl _) (fun _ _ _=>rfl) ?_ ?_
  ·intro t ht; exact⟨(ed t ht).1,(ed t ht).2,rfl,by simp[ht],by simp[ht],fun _ _=>rfl,fun _ _=>rfl⟩
  ·intro r' hr e' p' o h'; exact links r' e' p' o h'
  ·intro _ t ht; subst ht; simp only[lQ]; exact aq
  ·intro t ht b; subst ht; simp only[lQ]; have:=gj b; have:=R.one t b; have:=hF b; omega
  ·intro t ht t' am b; subst ht; simp only[lQ,Ne.symm am,lN1];have:=gj b; have:=R.dis t t' b am; have:=hF b; omega
  ·intro t ht t' b; subst ht; simp only[lQ];by_cases e:t'=t
   ·simp only[e,lQ]; have:=gj b; have:=kf b; have:=R.disx t t b; have:=hF b; have:=hX b; omega
   ·simp only[e,lN1]; have:=gj b; have:=R.disx t t' b; have:=hF b; omega
  ·intro t ht t' b; subst ht; simp only[lQ];by_cases e:t'=t
   ·simp only[e,lQ]; have:=gj b; have:=kf b; have:=R.disx t t b; have:=hF b; have:=hX b; omega
   ·simp only[e,lN1]; have:=kf b; have:=R.disx t' t b; have:=hX b; omega
  ·intro t ht b hb; subst ht; simp only[lQ] at hb; have:=gj b; exact R.org t b (by rw[hF]; omega)
  ·intro t ht b hb; subst ht; simp only[lQ] at hb; have:=kf b; exact⟨R.orgx t b (by rw[hX]; omega),R.ltx t b (by rw[hX]; omega)⟩
 ·have g1:=q1.same (lk':=aM w (aI a.tmps hid) (takeN E r p)) links (fun _ _=>rfl) (fun _ _=>rfl);have g2:=q4.same (lk':=aM w (aI a.tmps hid) (takeN E r p)) links (fun _ _=>rfl) (fun _ _=>rfl);have g3:RepA w (aM w (aI a.tmps hid) (takeN E r p)) Fu (fun _=>0) [v] [.own s es]:=.own _ Fu (fun _=>0) _ s es v [] [] ak RepA.znil (fun x=>by simp);have g4:=RepA.cons g3 g2 (fun _=>rfl) (fun _=>rfl);exact RepA.append g1 g4 (fun b=>by have:=eA b; have:=eC b; have:=hz.1 b; (try dsimp only); omega) (fun b=>by have:=eY b; have:=eZ b; have:=hz.2 b; (try dsimp only); omega)
 ·intro b; have:=P.one b; have:=R.one r b; have:=P.dis r b; have:=hF b; (try dsimp only); omega
 ·intro t b;by_cases e:t=r
  ·subst e; simp only[lQ]; have:=P.dis t b; have:=R.one t b; have:=hF b; have:=gj b; omega
  ·simp only[e,lN1]; have:=P.dis t b; have:=R.dis t r b e; have:=hF b; omega
 ·intro t b;by_cases e:t=r
  ·subst e; simp only[lQ]; have:=P.dx1 t b; have:=R.disx t t b; have:=hF b; have:=hX b; have:=kf b; omega
  ·simp only[e,lN1]; have:=P.dx1 t b; have:=R.disx r t b; have:=hF b; omega
 ·intro t b;by_cases e:t=r
  ·subst e; simp only[lQ]; have:=P.dx2 t b; have:=hF b; have:=gj b; omega
  ·simp only[e,lN1]; exact P.dx2 t b
 ·intro b; have:=P.dx3 b; have:=P.dx2 r b; have:=hF b; (try dsimp only); omega
 ·intro b hb;by_cases h':FP b=0
  ·exact R.org r b (by (try dsimp only at hb); rw[hF]; omega)
  ·exact P.org b h'
end
inductive O where
 | t (n:Nat)
 | c (a:AV)
 deriving Inhabited
inductive I where
 | mov (d:Nat) (x:O)
 | asg (d:Nat) (x:O)
 | mrk (d:Nat) (x:O)
 | bin (d:Nat) (op:BinOp) (x y:O)
 | beq (d:Nat) (neg:Bool) (x y:O)
 | eqs (d:Nat) (neg:Bool) (ks:List Nat) (x y:O)
 | isn (d:Nat) (neg:Bool) (x y:O)
 | un (d:Nat) (op:UnOp) (x:O)
 | conv (d:Nat) (k:IntKind) (x:O)
 | s2b (d:Nat) (x:O)
 | b2s (d:Nat) (x:O)
 | len (d:Nat) (x:O)
 | lens (d:Nat) (x:O)
 | idx (d:Nat) (x i:O) (s:Nat)
 | fld (d:Nat) (x:O) (off:Nat)
 | fldv (d:Nat) (x:O) (off sz:Nat) (ag:Bool)
 | ld (d:Nat) (x:O) (sz:Nat) (ag:Bool)
 | st (x v:O) (sz:Nat)
 | alc (d:Nat) (zero:List TV)
 | box (d:Nat) (v:O)
 | bld (d:Nat) (zero:List TV) (parts:List (Nat × Nat × O))
 | bsl (d s:Nat) (parts:List O)
 | xtr (d:Nat) (x:O) (k:Nat)
 | nck (d:Nat) (x:O)
 | app (d:Nat) (x y:O) (s bts:Nat)
 | cpy (d:Nat) (x y:O) (s:Nat)
 | clr (x:O) (s:Nat) (zero:List TV)
 | mks (d:Nat) (len cap:O) (s bts:Nat) (zero:List TV)
 | slc (d:Nat) (x:O) (lo hi:Option O) (s:Nat)
 | sls (d:Nat) (x:O) (lo hi:Option O)
 | sidx (d:Nat) (x i:O)
 | mx (d:Nat) (x y:O)
 | mn (d:Nat) (x y:O)
 | pck (d:Nat) (c a b:O)
 | mkf (d:Nat) (f:Nat) (caps:List O)
 | call (d:Option Nat) (f:Nat) (xs:List O)
 | callv (d:Option Nat) (x:O) (xs:List O)
 deriving Inhabited
structure GI where
 g:Option (Nat × Bool)
 d:Option Nat
 i:I
 deriving Inhabited
inductive Cmd where
 | skip
 | reg (is:List GI) (ord:Option (List Nat))
 | seq (a b:Cmd)
 | cond (x:O) (a b:Cmd)
 | blk (id:Nat) (c:Cmd)
 | loop (c:Cmd)
 | exit (id:Nat)
 | ret
 deriving Inhabited
mutual
def AV.owns:AV->Bool
 | .own _ _=>true
 | .box _=>true
 | .agg cs=>bV cs
 | .tup cs=>bV cs
 | .fn _ cs=>bV cs
 | _=>false
def bV:List AV->Bool
 | []=>false
 | a::l=>a.owns || bV l
end
def val (E:Env):O->AV
 | .t n=>E.f n
 | .c a=>a
def agd (op:BinOp) (k:IntKind) (a b:Int):Option AV:=
 match op with
 | .add=>some (.int k (k.wrap (a+b)))
 | .sub=>some (.int k (k.wrap (a-b)))
 | .mul=>some (.int k (k.wrap (a*b)))
 | .quo=>if b=0 then none else some (.int k (k.wrap (a.tdiv b)))
 | .rem=>if b=0 then none else some (.int k (a.tmod b))
 | .and=>some (.int k (k.wrap (BitVec.ofInt k.bits a &&& BitVec.ofInt k.bits b).toNat))
 | .or=>some (.int k (k.wrap (BitVec.ofInt k.bits a ||| BitVec.ofInt k.bits b).toNat))
 | .xor=>some (.int k (k.wrap (BitVec.ofInt k.bits a ^^^ BitVec.ofInt k.bits b).toNat))
 | .eql=>some (.bool (a == b))
 | .neq=>some (.bool (a != b))
 | .lss=>some (.bool (a<b))
 | .leq=>some (.bool (a<=b))
 | .gtr=>some (.bool (a>b))
 | .geq=>some (.bool (a≥b))
 | _=>none
def shI (op:BinOp) (k:IntKind) (a b:Int):Option AV:=
 match op with
 | .shl=>if b<0 then none else some (.int k (k.wrap (a*2^(min b.toNat k.bits))))
 | .shr=>if b<0 then none else some (.int k (a.fdiv (2^(min b.toNat k.bits))))
 | _=>none
def strLt (a b:List UInt8):Bool:=Go.Op.bytesLess a b
def ann (op:BinOp) (a b:List UInt8):Option AV:=
 match op with
 | .add=>if a.length+b.length<=2^62 then some (.str (a++b)) else none
 | .eql=>some (.bool (a == b))
 | .neq=>some (.bool (!(a == b)))
 | .lss=>some (.bool (strLt a b))
 | .leq=>some (.bool (strLt a b || (a == b)))
 | .gtr=>some (.bool (!(strLt a b || (a == b))))
 | .geq=>some (.bool (!(strLt a b)))
 | _=>none
def eqC:List Nat->List AV->List AV->Option Bool
 | [],[],[]=>some true
 | 0::ks,.int k a::l,.int k' b::m=>if k=k' then (eqC ks l m).map ((a == b) && ·) else none
 | 1::ks,.str a::l,.str b::m=>(eqC ks l m).map ((a == b) && ·)
 | 2::ks,.bool a::l,.bool b::m=>(eqC ks l m).map ((a == b) && ·)
 | _,_,_=>none
def ahQ:BinOp->Bool
 | .shl=>true
 | .shr=>true
 | _=>false
def j4 (op:BinOp) (x y:AV):Option AV:=
 match x,y with
 | .int k a,.int k' b=>if ahQ op then shI op k a b else if k=k' then agd op k a b else none
 | .str a,.str b=>ann op a b
 | _,_=>none
def unV (op:UnOp) (x:AV):Option AV:=
 match op,x with
 | .neg,.int k n=>some (.int k (k.wrap (0-n)))
 | .xor,.int k n=>some (.int k (k.wrap (BitVec.ofInt k.bits (if k.signed then -1 else k.max) ^^^ BitVec.ofInt k.bits n).toNat))
 | .not,.bool b=>some (.bool !b)
 | _,_=>none
def aJ (s:List UInt8):List (List TV):=s.map fun b=>[.int .u8 b.toNat]
def qP:List TV->Option UInt8
 | [.int .u8 n]=>some (UInt8.ofNat n.toNat)
 | _=>none
def cZ:List (List TV)->Option (List UInt8)
 | []=>some []
 | r::l=>(qP r).bind fun b=>(cZ l).map (b::·)
def lA:TV->Bool
 | .sl _ _=>false
 | .undef=>false
 | _=>true
def b5:TV->Bool
 | .undef=>false
 | _=>true
def gC (es:List (List TV)):Bool:=es.all fun e=>e.all b5
def eV (es:List (List TV)):Bool:=es.all fun e=>e.all lA
def ak1:TV->TV
 | .sl _ _=>.undef
 | t=>t
def rR (es:List (List TV)):List (List TV):=es.map fun e=>e.map ak1
def bB (E:Env):AV->Option (Nat × List (List TV))
 | .own s es=>some (s,es)
 | .ext s es=>some (s,es)
 | .extv _ s es=>some (s,es)
 | .lnk r e p=>aK E r e p
 | .sub r e p s lo n=>(aK E r e p).bind fun x=>if x.1=s/\lo+n<=x.2.length then some (s,(x.2.drop lo).take n) else none
 | _=>none
mutual
def bN (E:Env):AV->Option (AV × Env)
 | .lnk r e p=>(aK E r e p).map fun x=>(.own x.1 x.2,takeN E r p)
 | .sub r e p s lo n=>(aK E r e p).bind fun x=>if x.1=s/\lo+n<=x.2.length then some (.own s ((x.2.drop lo).take n),takeN E r p) else none
 | .agg cs=>(i5 E cs).map fun x=>(.agg x.1,x.2)
 | .tup cs=>none
 | .box cs=>none
 | .undef=>some (.undef,E)
 | .bool b=>some (.bool b,E)
 | .int k n=>some (.int k n,E)
 | .str s=>some (.str s,E)
 | .own s es=>some (.own s es,E)
 | .ext s es=>some (.ext s es,E)
 | .extv v s es=>some (.extv v s es,E)
 | .xbox cs=>some (.xbox cs,E)
 | .ref r e p st=>some (.ref r e p st,E)
 | .fn f cs=>some (.fn f cs,E)
def i5 (E:Env):List AV->Option (List AV × Env)
 | []=>some ([],E)
 | a::l=>(bN E a).bind fun x=>(i5 x.2 l).map fun y=>(x.1::y.1,y.2)
end
def fK (E:Env):O->AV × Env
 | .c a=>(a,E)
 | .t n=>if (E.f n).owns then (E.f n,E.put n .undef) else (E.f n,E)
def dR (E:Env) (x:O):Option (AV × Env):=bN (fK E x).2 (fK E x).1
def cellsOf:AV->List AV
 | .agg cs=>cs
 | a=>[a]
def tvs:List AV->Option (List TV)
 | []=>some []
 | a::l=>a.tv.bind fun t=>(tvs l).map (t::·)
def lay {α:Type} (row:List α) (j:Nat) (ts:List α):List α:=row.take j++ts++row.drop (j+ts.length)
def dM (r e:Nat) (p:bA):Nat->List AV->List AV
 | _,[]=>[]
 | j,.own _ _::l=>.lnk r e (p++[⟨0,0,j⟩])::dM r e p (j+1) l
 | j,a::l=>a::dM r e p (j+1) l
def mS (r e:Nat) (p:bA) (i s:Nat):Nat->List TV->List AV
 | _,[]=>[]
 | j,.sl _ _::l=>.lnk r e (p++[⟨i,s,j⟩])::mS r e p i s (j+1) l
 | j,a::l=>a.xv::mS r e p i s (j+1) l
def jU (E:Env) (r e:Nat) (p:bA) (st:St) (sz:Nat):Option (List AV):=
 if e=fX (E.ep r) p then
  match (E.f r).isRoot,b9 (E.f r) p with
  | true,some (.box cs)=>if st.i=0/\st.j+sz<=cs.length then some (dM r (E.ep r).2 p st.j ((cs.drop st.j).take sz)) else none
  | true,some (.own s es)=>if st.s=s then es[st.i]?.bind fun row=>if st.j+sz<=row.length then some (mS r (E.ep r).2 p st.i s st.j ((row.drop st.j).take sz)) else none else none
  | _,_=>none
 else none
def oneOf (cs:List AV) (ag:Bool):Option AV:=
 if ag then some (.agg cs) else match cs with
  | [a]=>some a
  | _=>none
def plain:AV->Bool
 | .undef=>false
 | .lnk _ _ _=>false
 | .sub _ _ _ _ _ _=>false
 | .ref _ _ _ _=>false
 | _=>true
def dF (E:Env):AV->Bool
 | .undef=>false
 | .lnk r e p=>(aK E r e p).isSome
 | .sub r e p _ _ _=>(aK E r e p).isSome
 | .ref r e p _=>e == fX (E.ep r) p && (E.f r).isRoot && (b9 (E.f r) p).isSome
 | _=>true
def mD:AV->Bool
 | .undef=>false
 | .agg _=>false
 | .tup _=>false
 | .lnk _ _ _=>false
 | .sub _ _ _ _ _ _=>false
 | .ref _ _ _ _=>false
 | _=>true
def yV:List AV->Bool
 | []=>true
 | a::l=>mD a && yV l
def j8 (E:Env):List O->Option (List (List TV) × Env)
 | []=>some ([],E)
 | x::l=>(dR E x).bind fun g=>if plain g.1=true then (tvs (cellsOf g.1)).bind fun ts=>(j8 g.2 l).map fun y=>(ts::y.1,y.2) else none
def mK (E:Env) (cs:List AV):List (Nat × Nat × O)->Option (List AV × Env)
 | []=>some (cs,E)
 | (off,sz,x)::l=>
  let g:=fK E x
  if (cellsOf g.1).length=sz/\off+sz<=cs.length/\dF g.2 g.1=true then mK g.2 (lay cs off (cellsOf g.1)) l else none
def cT (E:Env) (x:Option O) (dflt:Nat):Option Int:=
 match x with
 | none=>some dflt
 | some o=>match val E o with
  | .int _ n=>some n
  | _=>none
def anQ {α:Type}:Option α->Bool
 | none=>true
 | _=>false
def vld (E:Env) (r e:Nat) (p:bA):Bool:=e == fX (E.ep r) p && (E.f r).isRoot && (b9 (E.f r) p).isSome
def fW:List AV->Bool
 | []=>true
 | .lnk r _ _::l=>decide (1000<=r) && decide (r<2000) && fW l
 | .bool _::l=>fW l
 | .int _ _::l=>fW l
 | .str _::l=>fW l
 | _=>false
def mL:AV->Bool
 | .agg cs=>fW cs
 | _=>false
def ev (E : Env) : I -> Option Env
  | .mov d (.c a) => some (E.put d a)
  | .mov d (.t n) => match E.f n with
    | .own _ _ => if d = n then none else some (E.put d (.lnk n (E.ep n).1 []))
    | .box _ => if d = n then none else some (E.put d (.ref n (E.ep n).1 [] ⟨0, 0, 0⟩))
    | a => if a.owns then some ((E.put n .undef).put d a) else some (E.put d a)
  | .asg d x => match val E x with
    | .sub r e p s lo n => if r = d /\ p.isEmpty = true then (bN E (.sub r e p s lo n)).map fun g => g.2.put d g.1 else some (E.put d (.sub r e p s lo n))
    | _ => some ((fK E x).2.put d (fK E x).1)
  | .mrk d x => match val E x with
    | .own s es => if s = 1 /\ es.length ≠ 0 then some ((fK E x).2.put d (fK E x).1) else none
    | _ => none
  | .bin d op x y => (j4 op (val E x) (val E y)).map (E.put d ·)
  | .beq d neg x y => match val E x, val E y with
    | .bool a, .bool b => some (E.put d (.bool (if neg then !(a == b) else (a == b))))
    | _, _ => none
  | .eqs d neg ks x y => match val E x, val E y with
    | .agg a, .agg b => (eqC ks a b).map fun r => E.put d (.bool (if neg then !r else r))
    | _, _ => none
  | .isn d neg x y => match val E x, y with
    | .extv v _ _, .c (.own _ []) => match v with
      | .slice a _ _ => some (E.put d (.bool (if neg then !a.isNone else a.isNone)))
      | _ => none
    | _, _ => none
  | .un d op x => (unV op (val E x)).map (E.put d ·)
  | .conv d k x => match val E x with
    | .int _ n => some (E.put d (.int k (k.wrap n)))
    | _ => none
  | .s2b d x => match val E x with
    | .str s => some (E.put d (.own 1 (aJ s)))
    | _ => none
  | .b2s d x => (bB E (val E x)).bind fun r => if r.1 = 1 then (cZ r.2).map fun bs => E.put d (.str bs) else none
  | .len d x => (bB E (val E x)).map fun r => E.put d (.int .i64 r.2.length)
  | .lens d x => match val E x with
    | .str s => some (E.put d (.int .i64 s.length))
    | _ => none
  | .idx d x i s => match val E i with
    | .int _ n => match val E x with
      | .ext s' es => if s' = s /\ 0 <= n /\ n < es.length then es[n.toNat]?.map fun row => E.put d (.xbox row) else none
      | .extv _ s' es => if s' = s /\ 0 <= n /\ n < es.length then es[n.toNat]?.map fun row => E.put d (.xbox row) else none
      | .lnk r e p => (aK E r e p).bind fun y => if y.1 = s /\ 0 <= n /\ n < y.2.length then some (E.put d (.ref r e p ⟨n.toNat, s, 0⟩)) else none
      | .sub r e p s' lo m => (aK E r e p).bind fun y => if y.1 = s /\ s' = s /\ 0 <= n /\ n < m /\ lo + m <= y.2.length then some (E.put d (.ref r e p ⟨lo + n.toNat, s, 0⟩)) else none
      | .own s' es => match x with
        | .t m => if s' = s /\ m ≠ d /\ 0 <= n /\ n < es.length then some (E.put d (.ref m (E.ep m).1 [] ⟨n.toNat, s, 0⟩)) else none
        | _ => none
      | _ => none
    | _ => none
  | .fld d x off => match val E x with
    | .xbox cs => if off <= cs.length then some (E.put d (.xbox (cs.drop off))) else none
    | .ref r e p st => if vld E r e p = true then some (E.put d (.ref r e p ⟨st.i, st.s, st.j + off⟩)) else none
    | _ => none
  | .fldv d x off sz ag => match fK E x with
    | (.agg cs, E1) => if off + sz <= cs.length then (oneOf ((cs.drop off).take sz) ag).map fun a => E1.put d a else none
    | _ => none
  | .ld d x sz ag => match val E x with
    | .xbox cs => if sz <= cs.length then (oneOf ((cs.take sz).map TV.xv) ag).map fun a => E.put d a else none
    | .ref r e p st => (jU E r e p st sz).bind fun cs => (oneOf cs ag).bind fun a => if bV cs = false then some (E.put d a) else none
    | _ => none
  | .st x v sz => match val E x with
    | .ref r e p st => (dR E v).bind fun g => match p, g.2.f r with
      | [], .box cs0 =>
        if e = (g.2.ep r).1 /\ st.i = 0 /\ plain g.1 = true /\ yV (cellsOf g.1) = true /\ (cellsOf g.1).length = sz /\ st.j + sz <= cs0.length then some (g.2.upd r (.box (lay cs0 st.j (cellsOf g.1)))) else none
      | _, _ => (tvs (cellsOf g.1)).bind fun ts => (aK g.2 r e p).bind fun y =>
        if plain g.1 = true /\ yV (cellsOf g.1) = true /\ st.s = y.1 /\ st.i < y.2.length /\ ts.length = sz /\ st.j + sz <= y.1 then some (g.2.upd r (cX (g.2.f r) p (.own y.1 (y.2.modify st.i (lay · st.j ts))))) else none
    | _ => none
  | .alc d zero => some ((E.put (5000 + d) (.box (zero.map TV.av))).put d (.ref (5000 + d) (fX ((E.put (5000 + d) (.box (zero.map TV.av))).ep (5000 + d)) []) [] ⟨0, 0, 0⟩))
  | .box d v => if mL (val E v) = true then some ((E.put (5000 + d) (.box (cellsOf (val E v)))).put d (.ref (5000 + d) (fX ((E.put (5000 + d) (.box (cellsOf (val E v)))).ep (5000 + d)) []) [] ⟨0, 0, 0⟩)) else
    (dR E v).bind fun g => if plain g.1 = true then
      some ((g.2.put (5000 + d) (.box (cellsOf g.1))).put d (.ref (5000 + d) (fX ((g.2.put (5000 + d) (.box (cellsOf g.1))).ep (5000 + d)) []) [] ⟨0, 0, 0⟩)) else none
  | .bld d zero parts => (mK E (zero.map TV.av) parts).map fun g => g.2.put d (.agg g.1)
  | .bsl d s parts => (j8 E parts).bind fun g => if g.1.all (fun r => r.length == s) = true then some (g.2.put d (.own s g.1)) else none
  | .xtr d x k => match x with
    | .t n => match E.f n with
      | .tup vs => vs[k]?.map fun c => if c.owns then (E.put n (.tup (vs.set k .undef))).put d c else E.put d c
      | _ => none
    | _ => none
  | .nck d x => match val E x with
    | .ref r e p st => if vld E r e p = true then some (E.put d (.ref r e p st)) else none
    | .xbox cs => some (E.put d (.xbox cs))
    | .fn f cs => if bV cs then none else some (E.put d (.fn f cs))
    | _ => none
  | .app d x y s bts => (dR E x).bind fun g => match g.1 with
    | .own s0 es0 => if s0 = s then
        match val g.2 y with
        | .str b => if s = 1 /\ (es0.length + b.length) * bts <= 2 ^ 47 then some (g.2.put d (.own s (es0 ++ aJ b))) else none
        | .own s1 es1 => if s1 = s /\ gC es1 = true /\ (es0.length + es1.length) * bts <= 2 ^ 47 then some ((fK g.2 y).2.put d (.own s (es0 ++ es1))) else none
        | .sub r e p s1 lo n => (aK g.2 r e p).bind fun nd => if nd.1 = s /\ s1 = s /\ lo + n <= nd.2.length /\ gC ((nd.2.drop lo).take n) = true /\ (es0.length + n) * bts <= 2 ^ 47 then
            (if eV ((nd.2.drop lo).take n) = true then some (g.2.put d (.own s (es0 ++ (nd.2.drop lo).take n)))
              else some ((g.2.set0 r (cX (g.2.f r) p (.own s (nd.2.take lo ++ (rR ((nd.2.drop lo).take n) ++ nd.2.drop (lo + n)))))).put d (.own s (es0 ++ (nd.2.drop lo).take n)))) else none
        | a => (bB g.2 a).bind fun r => if r.1 = s /\ eV r.2 = true /\ (es0.length + r.2.length) * bts <= 2 ^ 47 then some (g.2.put d (.own s (es0 ++ r.2))) else none
      else none
    | _ => none
  | .mks d len cap s bts zero => match val E len, val E cap with
    | .int _ l, .int _ c => if 0 <= l /\ l <= c /\ c <= 2 ^ 62 /\ bts * c <= 2 ^ 47 /\ zero.length = s then some (E.put d (.own s (List.replicate l.toNat zero))) else none
    | _, _ => none
  | .cpy d x y s => match val E x with
    | .lnk r e p => (aK E r e p).bind fun nd => (bB E (val E y)).bind fun q =>
        if nd.1 = s /\ q.1 = s /\ eV q.2 = true then
          some ((E.upd r (cX (E.f r) p (.own s (q.2.take nd.2.length ++ nd.2.drop q.2.length)))).put d (.int .i64 (min q.2.length nd.2.length : Nat))) else none
    | .sub r e p s' lo n => (aK E r e p).bind fun nd => (bB E (val E y)).bind fun q =>
        if nd.1 = s /\ s' = s /\ lo + n <= nd.2.length /\ q.1 = s /\ eV q.2 = true then
          some ((E.upd r (cX (E.f r) p (.own s (nd.2.take lo ++ (q.2.take n ++ nd.2.drop (lo + min n q.2.length)))))).put d (.int .i64 (min q.2.length n : Nat))) else none
    | _ => none
  | .clr x s zero => match val E x with
    | .sub r e p s' lo n => (aK E r e p).bind fun nd => if nd.1 = s /\ s' = s /\ lo + n <= nd.2.length /\ zero.length = s then
          some (E.upd r (cX (E.f r) p (.own s (nd.2.take lo ++ (List.replicate n zero ++ nd.2.drop (lo + n)))))) else none
    | _ => none
  | .slc d x lo hi s => match cT E lo 0 with
    | none => none
    | some l => match val E x with
      | .ext s' es => (cT E hi es.length).bind fun h => if s' = s /\ 0 <= l /\ l <= h /\ h <= es.length then some (E.put d (.ext s ((es.drop l.toNat).take (h - l).toNat))) else none
      | .extv _ s' es => (cT E hi es.length).bind fun h => if s' = s /\ 0 <= l /\ l <= h /\ h <= es.length then some (E.put d (.ext s ((es.drop l.toNat).take (h - l).toNat))) else none
      | .lnk r e p => (aK E r e p).bind fun nd => (cT E hi nd.2.length).bind fun h =>
          if nd.1 = s /\ 0 <= l /\ l <= h /\ h <= nd.2.length then some (E.put d (.sub r e p s l.toNat (h - l).toNat)) else none
      | .own s' es => match x with
        | .t m => (cT E hi es.length).bind fun h => if m ≠ d /\ s' = s /\ 0 <= l /\ l <= h /\ h <= es.length then some (E.put d (.sub m (E.ep m).1 [] s l.toNat (h - l).toNat)) else none
        | _ => none
      | .sub r e p s' lo0 n => (aK E r e p).bind fun nd => (cT E hi n).bind fun h =>
          if nd.1 = s /\ s' = s /\ lo0 + n <= nd.2.length /\ 0 <= l /\ l <= h /\ h <= n then some (E.put d (.sub r e p s (lo0 + l.toNat) (h - l).toNat)) else none
      | _ => none
  | .sls d x lo hi => match val E x, cT E lo 0 with
    | .str b, some l => (cT E hi b.length).bind fun h => if 0 <= l /\ l <= h /\ h <= b.length then some (E.put d (.str ((b.drop l.toNat).take (h - l).toNat))) else none
    | _, _ => none
  | .sidx d x i => match val E x, val E i with
    | .str b, .int _ n => if 0 <= n /\ n < b.length then b[n.toNat]?.map fun c => E.put d (.int .u8 c.toNat) else none
    | _, _ => none
  | .mx d x y => match val E x, val E y with
    | .int k a, .int _ b => some (E.put d (.int k (if b > a then b else a)))
    | _, _ => none
  | .mn d x y => match val E x, val E y with
    | .int k a, .int _ b => some (E.put d (.int k (if b < a then b else a)))
    | _, _ => none
  | .pck d c a b => match val E c with
    | .bool t => if (val E a).owns || (val E b).owns then none else some (E.put d (if t then val E a else val E b))
    | _ => none
  | .mkf d f caps => if bV (caps.map (val E)) then none else some (E.put d (.fn f (caps.map (val E))))
  | .call _ _ _ => none
  | .callv _ _ _ => none
inductive M where
 | b
 | l
 | m
 | p
 deriving Inhabited
def tvB:AV->Option TV
 | .undef=>some .undef
 | .bool b=>some (.bool b)
 | .int k n=>some (.int k n)
 | .str s=>some (.str s)
 | .own s es=>some (.sl s es)
 | .ext s es=>some (.sl s es)
 | .extv _ s es=>some (.sl s es)
 | _=>none
def acG:List AV->Option (List TV)
 | []=>some []
 | a::l=>(tvB a).bind fun t=>(acG l).map (t::·)
mutual
def brw (E:Env) (lr:Option Nat):AV->Option AV
 | .undef=>some .undef
 | .bool b=>some (.bool b)
 | .int k n=>some (.int k n)
 | .str s=>some (.str s)
 | .own s es=>some (.ext s es)
 | .ext s es=>some (.ext s es)
 | .extv v s es=>some (.extv v s es)
 | .xbox cs=>some (.xbox cs)
 | .box cs=>none
 | .agg cs=>(o9 E lr cs).map .agg
 | .tup cs=>none
 | .fn f cs=>(o9 E lr cs).map (.fn f)
 | .lnk r e p=>if some r=lr then none else (aK E r e p).map fun x=>.ext x.1 x.2
 | .sub r e p s lo n=>if some r=lr then none else (aK E r e p).bind fun x=>if x.1=s/\lo+n<=x.2.length then some (.ext s ((x.2.drop lo).take n)) else none
 | .ref r e p st=>if some r=lr then none else match e == fX (E.ep r) p,(E.f r).isRoot,b9 (E.f r) p with
  | true,true,some (.box cs)=>if st.i=0/\st.j<=cs.length then (acG (cs.drop st.j)).map .xbox else none
  | true,true,some (.own s es)=>if st.s=s/\st.j<=s then (es[st.i]?).map fun row=>.xbox (row.drop st.j) else none
  | _,_,_=>none
def o9 (E:Env) (lr:Option Nat):List AV->Option (List AV)
 | []=>some []
 | a::l=>(brw E lr a).bind fun x=>(o9 E lr l).map (x::·)
end
def mvP (E:Env):List M->List O->Option (List (Option AV) × Env)
 | .m::ms,x::xs=>(dR E x).bind fun g=>(mvP g.2 ms xs).map fun y=>(some g.1::y.1,y.2)
 | .p::ms,x::xs=>(dR E x).bind fun g=>(mvP g.2 ms xs).map fun y=>(some g.1::y.1,y.2)
 | _::ms,x::xs=>(mvP E ms xs).map fun y=>(none::y.1,y.2)
 | [],[]=>some ([],E)
 | _,_=>none
def cC (E:Env):AV->Option (Nat × bA × AV)
 | .lnk r e p=>(aK E r e p).map fun x=>(r,p,.own x.1 x.2)
 | .ref r e p st=>match e == fX (E.ep r) p,p,E.f r with
  | true,[],.box cs=>if st.i=0/\st.j=0 then some (r,[],.box cs) else none
  | _,_,_=>none
 | _=>none
def eJ (E:Env):List M->List O->Option (Nat × bA × AV)
 | .l::_,x::_=>cC E (val E x)
 | _::ms,_::xs=>eJ E ms xs
 | _,_=>none
def isT (x:O) (ln:Option (Nat × bA × AV)):Bool:=
 match x,ln with
 | .t n,some (r,_,_)=>n == r
 | _,_=>false
mutual
def noLk:AV->Bool
 | .lnk _ _ _=>false
 | .sub _ _ _ _ _ _=>false
 | .ref _ _ _ _=>false
 | .box cs=>dH cs
 | .agg cs=>dH cs
 | .tup cs=>dH cs
 | .fn _ cs=>dH cs
 | _=>true
def dH:List AV->Bool
 | []=>true
 | a::l=>noLk a && dH l
end
def fL (E:Env) (ln:Option (Nat × bA × AV)):List M->List O->List (Option AV)->Option (List AV)
 | .m::ms,_::xs,some a::mv=>(fL E ln ms xs mv).map (a::·)
 | .p::ms,_::xs,some a::mv=>(fL E ln ms xs mv).map (a::·)
 | .l::ms,_::xs,_::mv=>match ln with
  | some (_,_,a)=>(fL E ln ms xs mv).map (a::·)
  | none=>none
 | .b::ms,x::xs,_::mv=>if isT x ln then none else (brw E (ln.map (·.1)) (val E x)).bind fun a=>(fL E ln ms xs mv).map (a::·)
 | [],[],[]=>some []
 | _,_,_=>none
def c5:List M->Option Nat
 | []=>none
 | .l::ms=>if ms.any (fun | .l=>true | _=>false) then none else some 0
 | _::ms=>(c5 ms).map (· + 1)
def noL (ms:List M):Bool:=ms.all fun | .l=>false | _=>true
def aaF (E:Env) (ms:List M) (xs:List O):Option (List AV × Env × Option (Nat × Nat × bA)):=
 (mvP E ms xs).bind fun mv=>
  if noL ms then (fL mv.2 none ms xs mv.1).bind fun as=>if dH as then some (as,mv.2,none) else none
  else (c5 ms).bind fun k=>(eJ mv.2 ms xs).bind fun ln=>(fL mv.2 (some ln) ms xs mv.1).bind fun as=>if dH as then some (as,mv.2,some (k,ln.1,ln.2.1)) else none
def aaH (E:Env) (ln:Option (Nat × Nat × bA)) (outs:List AV):Option Env:=
 match ln with
 | none=>some E
 | some (k,r,p)=>outs[k]?.bind fun o=>if kV (E.f r) p o=true/\o.isRoot=true then some (E.upd r (cX (E.f r) p o)) else none
abbrev Plc:=Nat × Option Nat × Nat × bA
def iM (E:Env) (k:Nat):Nat->List AV->List Plc
 | _,[]=>[]
 | j,.lnk r e p::l=>if (aK E r e p).isSome then (k,some j,r,p)::iM E k (j+1) l else iM E k (j+1) l
 | j,_::l=>iM E k (j+1) l
def qQ (E:Env) (k:Nat):AV->List Plc
 | .lnk r e p=>if (aK E r e p).isSome then [(k,none,r,p)] else []
 | .agg cs=>iM E k 0 cs
 | _=>[]
def j5 (E:Env):Nat->List M->List O->List Plc
 | k,.p::ms,x::xs=>qQ E k (val E x)++j5 E (k+1) ms xs
 | k,_::ms,_::xs=>j5 E (k+1) ms xs
 | _,_,_=>[]
def isU:Option AV->Bool
 | some .undef=>true
 | _=>false
def aaI (os:List AV) (k:Nat):Option Nat->Option (AV × List AV)
 | none=>(os[k]?).map fun u=>(u,os.set k .undef)
 | some j=>match os[k]? with
  | some (.agg cs)=>(cs[j]?).map fun u=>(u,os.set k (.agg (cs.set j .undef)))
  | _=>none
def aaG (E:Env) (r:Nat) (p:bA) (u:AV):Env:=if p.isEmpty then E.put r u else E.upd r (cX (E.f r) p u)
def mT (E:Env) (os:List AV):List Plc->Option Env
 | []=>some E
 | (k,j,r,p)::l=>(aaI os k j).bind fun g=>if isU (b9 (E.f r) p)=true/\g.1.isRoot=true/\kV (E.f r) p g.1=true then mT (aaG E r p g.1) g.2 l else none
def mM (E:Env) (ln:Option (Nat × Nat × bA)) (pls:List Plc) (outs:List AV):Option Env:=
 match ln with
 | none=>if pls.all (fun q=>isU (b9 (E.f q.2.2.1) q.2.2.2))=true then mT E outs pls else none
 | some q=>aaH E (some q) outs
mutual
def oG:AV->Bool
 | .ext _ _=>true
 | .xbox _=>true
 | .box cs=>dY cs
 | .agg cs=>dY cs
 | .tup cs=>dY cs
 | .fn _ cs=>dY cs
 | _=>false
def dY:List AV->Bool
 | []=>false
 | a::l=>oG a || dY l
end
mutual
def vlv:AV->List (Value × Nat × List (List TV))
 | .extv v s es=>[(v,s,es)]
 | .box cs=>dZ cs
 | .agg cs=>dZ cs
 | .tup cs=>dZ cs
 | .fn _ cs=>dZ cs
 | _=>[]
def dZ:List AV->List (Value × Nat × List (List TV))
 | []=>[]
 | a::l=>vlv a++dZ l
end
mutual
def jV:AV->Bool
 | .own _ _=>false
 | .lnk _ _ _=>false
 | .sub _ _ _ _ _ _=>false
 | .ref _ _ _ _=>false
 | .agg cs=>oB cs
 | .fn _ cs=>oB cs
 | _=>true
def oB:List AV->Bool
 | []=>true
 | a::l=>jV a && oB l
end
def gA (E:Env):List M->List O->Bool
 | .b::ms,x::xs=>jV (val E x) && gA E ms xs
 | _::ms,_::xs=>gA E ms xs
 | _,_=>true
def lk0:Lk:=fun _ _ _=>none
def mE (P:Program) (f:FuncId):Prop:=∃ fn,P.funcs[f]?=some fn∧fn.body.isNone=false∧(fn.name == "runtime.NumGoroutine")=false
def mU (P:Program) (f:FuncId) (args:List AV) (ret:AV) (outs:List AV):Prop:=
 mE P f/\outs.length=args.length /\
 ∀ (w:World) (vs:List Value) (F X:aH),RepA w lk0 F X vs args->(∀ b,F b<=1)->(∀ b,F b=0\/X b=0)->(∀ b,X b≠0->b<w.heap.size) ->
  Calls P f vs.toArray w fun e w'=>∃ v F' X',e=.returned v/\RepA w' lk0 F' X' (v::vs) (ret::outs)/\(∀ b,F' b<=1)/\(∀ b,F' b=0\/X' b=0) /\
   Grows w w'/\(∀ b,b<w.heap.size->F b=0->w'.heap[b]?=w.heap[b]?)/\(∀ b,F' b≠0->F b≠0\/w.heap.size<=b) /\
   (∀ b,X' b≠0->(X b≠0\/F b≠0\/w.heap.size<=b)/\b<w'.heap.size)
def lkK (w:World) (us:List Value) (cs:List AV):Lk:=fun r e p=>
 if e=0 then match cs[(r-1032)/32]?,us[(r-1032)/32]? with
  | some c,some u=>if r=1000+(32*((r-1032)/32+1)+0)/\c.isRoot=true/\(b9 c p).isSome=true then some (i4 w u p) else none
  | _,_=>none
 else none
def age (P:Program) (f:FuncId) (cs ds:List AV) (ret:AV) (outs:List AV):Prop:=
 mE P f/\outs.length=2 /\
 ∀ (w:World) (us zs:List Value) (F X:aH),RepA w lk0 F X us cs->RepA w (lkK w us cs) (fun _=>0) (fun _=>0) zs ds->(∀ b,F b<=1)->(∀ b,F b=0\/X b=0)->(∀ b,X b≠0->b<w.heap.size) ->
  Calls P f #[.agg us.toArray,.agg zs.toArray] w fun e w'=>∃ v F' X',e=.returned v/\RepA w' lk0 F' X' [v,.agg us.toArray,.agg zs.toArray] (ret::outs)/\(∀ b,F' b<=1)/\(∀ b,F' b=0\/X' b=0) /\
   Grows w w'/\(∀ b,b<w.heap.size->F b=0->w'.heap[b]?=w.heap[b]?)/\(∀ b,F' b≠0->F b≠0\/w.heap.size<=b) /\
   (∀ b,X' b≠0->(X b≠0\/F b≠0\/w.heap.size<=b)/\b<w'.heap.size)
def ak6:bA->bA->Option bA
 | [],q=>some q
 | a::p,b::q=>if a.i=b.i/\a.s=b.s/\a.j=b.j then ak6 p q else none
 | _::_,[]=>none
def mN (r e:Nat) (p:bA):Nat->List AV->Option (Nat × bA × bA)
 | _,[]=>none
 | j,.lnk r' e' p'::l=>if r'=r/\e'=e then (match ak6 p' p with
   | some q=>some (j,p',q)
   | none=>mN r e p (j+1) l) else mN r e p (j+1) l
 | j,_::l=>mN r e p (j+1) l
def trF (E:Env) (r e:Nat) (p:bA) (ds:List AV):Option (Nat × bA × bA)->AV
 | some (j,p0,q)=>match ds[j]? with
  | some c=>if vld E r e p0=true/\vld E r e p=true/\c.isRoot=true/\(b9 c q).isSome=true then .lnk (1000+(32*(j+1)+0)) 0 q else .undef
  | none=>.undef
 | none=>.undef
def trC (E:Env) (cs ds:List AV):AV->AV
 | .bool b=>.bool b
 | .int k n=>.int k n
 | .str s=>.str s
 | .lnk r e p=>trF E r e p ds (mN r e p 0 cs)
 | _=>.undef
def trL (E:Env) (cs ds:List AV):List AV->List AV
 | []=>[]
 | a::l=>trC E cs ds a::trL E cs ds l
def mF (E:Env) (d:Option Nat) (x:AV):Env:=
 match d with
 | some d=>E.put d x
 | none=>E
def onO {α:Type} (o:Option α) (K:α->Prop):Prop:=∃ x,o=some x/\K x
def anR (P:Program) (d:Option Nat) (f:Nat) (ok:Bool) (pls:List Plc) (K:Env->Prop) (pr:List AV × Env × Option (Nat × Nat × bA)):Prop:=
 ∃ ret outs,mU P f pr.1 ret outs /\
  ((dY (ret::outs)=false/\∀ x ∈ dZ (ret::outs),x ∈ dZ pr.1)\/ok=true) /\
  onO (mM pr.2.1 pr.2.2 pls outs) fun E'=>K (mF E' d ret)
def fE (P:Program) (d:Option Nat) (f:Nat) (xs:List O) (ms:List M) (K:Env->Prop) (E:Env):Prop:=
 onO (aaF E ms xs) fun pr=>anR P d f (gA pr.2.1 ms xs) (j5 E 0 ms xs) K pr
def ahW (P:Program) (d:Option Nat) (f:Nat) (K:Env->Prop) (cs ds:List AV) (E:Env):Prop:=
 ∃ ret outs,age P f cs ds ret outs/\(dY (ret::outs)=false/\dZ (ret::outs)=[])/\K (mF E d ret)
def rS (P:Program) (d:Option Nat) (f:Nat) (K:Env->Prop) (E:Env):AV->AV->Option (AV × Env)->Prop
 | .agg cs,.agg ds,some (.agg cs',E')=>dH cs'=true/\ahW P d f K cs' (trL E cs cs' ds) E'
 | _,_,_=>False
def oM (P:Program) (d:Option Nat) (f:Nat) (x y:O) (K:Env->Prop) (E:Env):Prop:=rS P d f K E (val E x) (val E y) (dR E x)
def ahX (P:Program) (d:Option Nat) (f:Nat) (xs:List O) (ms:List M) (K:Env->Prop) (E:Env):Prop:=∃ x y,xs=[x,y]/\ms=[.m]/\oM P d f x y K E
def kM:List M->List O->Option (O × O)
 | [.m],[x,y]=>some (x,y)
 | _,_=>none
theorem ahY {ms:List M} {xs:List O} {q:O × O} (h:kM ms xs=some q):ms=[.m]/\xs=[q.1,q.2]:=by
 unfold kM at h;split at h
 ·cases h; exact⟨rfl,rfl⟩
 ·cases h
theorem oN {P:Program} {d:Option Nat} {f:Nat} {x y:O} {K:Env->Prop} {E:Env} (h:oM P d f x y K E):∃ E',oM P d f x y (fun E1=>E1=E') E/\K E':=by
 unfold oM rS at h ⊢;split at h
 ·obtain⟨h1,ret,outs,h2,h3,h4⟩:=h;exact⟨_,⟨h1,ret,outs,h2,h3,rfl⟩,h4⟩
 ·exact h.elim
theorem iS {P:Program} {d:Option Nat} {f:Nat} {x y:O} {K K':Env->Prop} {E:Env} (hK:∀ E,K E->K' E) (h:oM P d f x y K E):oM P d f x y K' E:=by
 unfold oM rS at h ⊢;split at h
 ·obtain⟨h1,ret,outs,h2,h3,h4⟩:=h;exact⟨h1,ret,outs,h2,h3,hK _ h4⟩
 ·exact h.elim
def aeO (j:Nat):AV->AV
 | .agg cs=>.agg (cs.set j .undef)
 | a=>a
def j9 (E:Env):List (Nat × Nat)->Env
 | []=>E
 | (t,j)::l=>j9 (E.put t (aeO j (E.f t))) l
def aqt (P:Program) (d:Option Nat) (f:Nat) (xs:List O) (K:Env->Prop) (E:Env):Prop:=(∃ W ms,fE P d f xs ms K (j9 E W))\/∃ ms,ahX P d f xs ms K E
def qR (P:Program) (i:I) (K:Env->Prop) (E:Env):Prop:=
 match i with
 | .call d f xs=>aqt P d f xs K E
 | .callv d x xs=>match val E x with
  | .fn f caps=>∃ ms,ms.length=xs.length/\bV caps=false/\fE P d f (xs++caps.map .c) (ms++caps.map fun _=>M.b) K E
  | _=>False
 | i=>onO (ev E i) K
def O.tmp:O->List Nat
 | .t n=>[n]
 | .c _=>[]
mutual
def lks:AV->List Nat
 | .lnk r _ _=>[r]
 | .sub r _ _ _ _ _=>[r]
 | .ref r _ _ _=>[r]
 | .box cs=>pA cs
 | .agg cs=>pA cs
 | .tup cs=>pA cs
 | .fn _ cs=>pA cs
 | _=>[]
def pA:List AV->List Nat
 | []=>[]
 | a::l=>lks a++pA l
end
def acM:Option O->List O
 | some x=>[x]
 | none=>[]
def I.opds:I->List O
 | .mov _ x=>[x]
 | .asg _ x=>[x]
 | .mrk _ x=>[x]
 | .bin _ _ x y=>[x,y]
 | .beq _ _ x y=>[x,y]
 | .eqs _ _ _ x y=>[x,y]
 | .isn _ _ x y=>[x,y]
 | .un _ _ x=>[x]
 | .conv _ _ x=>[x]
 | .s2b _ x=>[x]
 | .b2s _ x=>[x]
 | .len _ x=>[x]
 | .lens _ x=>[x]
 | .idx _ x i _=>[x,i]
 | .fld _ x _=>[x]
 | .fldv _ x _ _ _=>[x]
 | .ld _ x _ _=>[x]
 | .st x v _=>[x,v]
 | .alc _ _=>[]
 | .box _ v=>[v]
 | .bld _ _ ps=>ps.map (·.2.2)
 | .bsl _ _ ps=>ps
 | .xtr _ x _=>[x]
 | .nck _ x=>[x]
 | .app _ x y _ _=>[x,y]
 | .cpy _ x y _=>[x,y]
 | .clr x _ _=>[x]
 | .mks _ x y _ _ _=>[x,y]
 | .slc _ x lo hi _=>x::(acM lo++acM hi)
 | .sls _ x lo hi=>x::(acM lo++acM hi)
 | .sidx _ x i=>[x,i]
 | .mx _ x y=>[x,y]
 | .mn _ x y=>[x,y]
 | .pck _ c a b=>[c,a,b]
 | .mkf _ _ cs=>cs
 | .call _ _ xs=>xs
 | .callv _ x xs=>x::xs
def I.der:I->List O
 | .b2s _ x=>[x]
 | .len _ x=>[x]
 | .idx _ x _ _=>[x]
 | .fld _ x _=>[x]
 | .ld _ x _ _=>[x]
 | .st x v _=>[x,v]
 | .box _ v=>[v]
 | .bld _ _ ps=>ps.map (·.2.2)
 | .bsl _ _ ps=>ps
 | .nck _ x=>[x]
 | .app _ x y _ _=>[x,y]
 | .cpy _ x y _=>[x,y]
 | .clr x _ _=>[x]
 | .slc _ x _ _ _=>[x]
 | .call _ _ xs=>xs
 | .callv _ x xs=>x::xs
 | _=>[]
def I.dsts:I->List Nat
 | .mov d _=>[d]
 | .asg d _=>[d]
 | .mrk d _=>[d]
 | .bin d _ _ _=>[d]
 | .beq d _ _ _=>[d]
 | .eqs d _ _ _ _=>[d]
 | .isn d _ _ _=>[d]
 | .un d _ _=>[d]
 | .conv d _ _=>[d]
 | .s2b d _=>[d]
 | .b2s d _=>[d]
 | .len d _=>[d]
 | .lens d _=>[d]
 | .idx d _ _ _=>[d]
 | .fld d _ _=>[d]
 | .fldv d _ _ _ _=>[d]
 | .ld d _ _ _=>[d]
 | .st _ _ _=>[]
 | .alc d _=>[d,5000+d]
 | .box d _=>[d,5000+d]
 | .bld d _ _=>[d]
 | .bsl d _ _=>[d]
 | .xtr d _ _=>[d]
 | .nck d _=>[d]
 | .app d _ _ _ _=>[d]
 | .cpy d _ _ _=>[d]
 | .clr _ _ _=>[]
 | .mks d _ _ _ _ _=>[d]
 | .slc d _ _ _ _=>[d]
 | .sls d _ _ _=>[d]
 | .sidx d _ _=>[d]
 | .mx d _ _=>[d]
 | .mn d _ _=>[d]
 | .pck d _ _ _=>[d]
 | .mkf d _ _=>[d]
 | .call (some d) _ _=>[d]
 | .call none _ _=>[]
 | .callv (some d) _ _=>[d]
 | .callv none _ _=>[]
def aE (E:Env) (i:I):List Nat:=i.opds.flatMap O.tmp++i.dsts++i.der.flatMap fun x=>lks (val E x)
def gW (E:Env) (x:O):List Nat:=(if (val E x).owns then x.tmp else [])++lks (val E x)
def pW (E:Env) (x:O):List Nat:=if (val E x).owns then x.tmp else []
def mW (E:Env):List M->List O->List Nat
 | .m::ms,x::xs=>gW E x++mW E ms xs
 | .p::ms,x::xs=>gW E x++mW E ms xs
 | .l::ms,x::xs=>lks (val E x)++mW E ms xs
 | .b::ms,_::xs=>mW E ms xs
 | _,_=>[]
def wrI (E:Env) (ms:List M):I->List Nat
 | .mov d x=>match val E x with
  | .own _ _=>[d]
  | .box _=>[d]
  | _=>d::pW E x
 | .asg d x=>d::pW E x
 | .mrk d x=>d::pW E x
 | .fldv d x _ _ _=>d::pW E x
 | .bld d _ ps=>d::(ps.map (·.2.2)).flatMap (pW E)
 | .xtr d x k=>match val E x with
  | .tup vs=>match vs[k]? with
   | some c=>if c.owns then d::x.tmp else [d]
   | none=>[d]
  | _=>[d]
 | .st x v _=>lks (val E x)++gW E v
 | .box d v=>d::(5000+d)::gW E v
 | .alc d _=>[d,5000+d]
 | .bsl d _ ps=>d::ps.flatMap (gW E)
 | .app d x y _ _=>d::(gW E x++match val E y with
  | .sub r _ _ _ _ _=>[r]
  | _=>pW E y)
 | .cpy d x _ _=>d::lks (val E x)
 | .clr x _ _=>lks (val E x)
 | .call d _ xs=>d.toList++mW E ms xs
 | .callv d x xs=>d.toList++mW E ms xs
 | i=>i.dsts
def l0 (P:Program) (i:I) (ms:List M) (E E':Env):Prop:=
 match i with
 | .call d f xs=>fE P d f xs ms (fun E1=>E1=E') E\/ahX P d f xs ms (fun E1=>E1=E') E
 | .callv d x xs=>match val E x with
  | .fn f caps=>ms.length=xs.length/\bV caps=false/\fE P d f (xs++caps.map .c) (ms++caps.map fun _=>M.b) (fun E1=>E1=E') E
  | _=>False
 | i=>ev E i=some E'
def wQ (P:Program) (i:I) (K:List M->Env->Prop) (E:Env):Prop:=
 match i with
 | .call d f xs=>∃ ms,fE P d f xs ms (K ms) E\/ahX P d f xs ms (K ms) E
 | .callv d x xs=>match val E x with
  | .fn f caps=>∃ ms,ms.length=xs.length/\bV caps=false/\fE P d f (xs++caps.map .c) (ms++caps.map fun _=>M.b) (K ms) E
  | _=>False
 | i=>onO (ev E i) (K [])
abbrev Rcd:=List Nat × List Nat
def aaJ (a b:List Nat):Bool:=a.all fun t=>!b.contains t
def aeP (o q:Rcd):Bool:=aaJ o.2 q.1 && aaJ q.2 o.1 && aaJ o.2 q.2
def aaK (bs:List Nat) (rs:List Rcd):Bool:=
 (List.range rs.length).all fun j=>(List.range j).all fun i=>(bs.getD j 0).testBit i || match rs[i]?,rs[j]? with
  | some o,some q=>aeP o q
  | _,_=>true
def mV (P:Program) (bs:List Nat):List Rcd->List GI->(Env->Prop)->Env->Prop
 | acc,[],K,E=>aaK bs acc=true/\K E
 | acc,g::l,K,E=>match g.g with
  | none=>wQ P g.i (fun ms E'=>mV P bs (acc++[(aE E g.i,wrI E ms g.i)]) l K E') E
  | some (t,b)=>(∃ c,E.f t=.bool c/\(c=b->wQ P g.i (fun ms E'=>mV P bs (acc++[(t::aE E g.i,wrI E ms g.i)]) l K E') E) /\
    (c≠b->mV P bs (acc++[(t::g.d.toList,g.d.toList)]) l K (mF E g.d (.tup []))))\/(E.f t=.tup []/\mV P bs (acc++[(t::g.d.toList,g.d.toList)]) l K (mF E g.d (.tup [])))
def I.isCall:I->Bool
 | .call _ _ _=>true
 | .callv _ _ _=>true
 | _=>false
def I.isXtr:I->Bool
 | .xtr _ _ _=>true
 | _=>false
def plG (g:GI):Bool:=g.g.isNone && !g.i.isCall && !g.i.isXtr
def acH (lt:Nat->Nat->Bool) (c d x y:Nat):Bool:=lt x y || (x == c && y == d)
inductive BT where
 | leaf (σ:List Nat)
 | node (c d:Nat) (x y:BT)
 | tr (a b c:Nat) (x:BT)
def apF (lt:Nat->Nat->Bool) (σ:List Nat):List Nat:=(List.range σ.length).map fun q=>(List.range q).foldl (fun s p=>if lt (σ.getD p 0) (σ.getD q 0)=true then s ||| 2^p else s) 0
def ltB (bs:List Nat) (j i:Nat):Bool:=(bs.getD i 0).testBit j
def ahZ (n:Nat) (σ:List Nat):Bool:=σ.isPerm (List.range n)
def anS (P:Program) (is:List GI) (K:Env->Prop) (E:Env):(Nat->Nat->Bool)->BT->Prop
 | lt,.leaf σ=>ahZ is.length σ=true/\mV P (apF lt σ) [] (σ.map fun i=>is.getD i default) K E
 | lt,.node c d x y=>c≠d/\anS P is K E (acH lt c d) x/\anS P is K E (acH lt d c) y
 | lt,.tr a b c x=>(lt a b && (lt b c && decide (b<is.length)))=true/\anS P is K E (acH lt a c) x
section
def dC:List (Nat × AV)->Nat->AV
 | [],_=>.undef
 | (k,a)::l,t=>if k=t then a else dC l t
def iG:List (Nat × Nat × Nat)->Nat->Nat × Nat
 | [],_=>(0,0)
 | (k,e)::l,t=>if k=t then e else iG l t
def qO:List (Nat × AV)->Nat->AV->List (Nat × AV)
 | [],d,x=>[(d,x)]
 | (k,a)::l,d,x=>if k=d then (d,x)::l else (k,a)::qO l d x
def acN:List (Nat × Nat × Nat)->Nat->Nat × Nat->List (Nat × Nat × Nat)
 | [],d,x=>[(d,x)]
 | (k,a)::l,d,x=>if k=d then (d,x)::l else (k,a)::acN l d x
def mkE (l:List (Nat × AV)) (m:List (Nat × Nat × Nat)):Env:=⟨dC l,iG m⟩
theorem nP (l:List (Nat × AV)) (d:Nat) (x:AV) (t:Nat):dC (qO l d x) t=if t=d then x else dC l t:=by
 induction l with
 | nil=>simp only[qO,dC]; by_cases h:t=d <;> simp[h,eq_comm] <;> (intro e; exact absurd e.symm h)
 | cons p l ih=>
  obtain⟨k,a⟩:=p;simp only[qO];by_cases h:k=d
  ·subst h; simp only[lQ,dC]; by_cases h2:t=k
   ·subst h2; simp
   ·simp[h2,Ne.symm h2]
  ·simp only[h,lN1,dC,ih];by_cases h2:k=t
   ·subst h2; simp[h]
   ·simp[h2]
theorem tI (l:List (Nat × Nat × Nat)) (d:Nat) (x:Nat × Nat) (t:Nat):iG (acN l d x) t=if t=d then x else iG l t:=by
 induction l with
 | nil=>simp only[acN,iG]; by_cases h:t=d <;> simp[h,eq_comm] <;> (intro e; exact absurd e.symm h)
 | cons p l ih=>
  obtain⟨k,a⟩:=p;simp only[acN];by_cases h:k=d
  ·subst h; simp only[lQ,iG]; by_cases h2:t=k
   ·subst h2; simp
   ·simp[h2,Ne.symm h2]
  ·simp only[h,lN1,iG,ih];by_cases h2:k=t
   ·subst h2; simp[h]
   ·simp[h2]
theorem Env.ext' {E E':Env} (h1:∀ t,E.f t=E'.f t) (h2:∀ t,E.ep t=E'.ep t):E=E':=by
 cases E; cases E';have a:=funext h1;have b:=funext h2;simp only at a b;rw[a,b]
theorem anT (l:List (Nat × AV)) (m:List (Nat × Nat × Nat)) (t:Nat):(mkE l m).f t=dC l t:=rfl
theorem anU (l:List (Nat × AV)) (m:List (Nat × Nat × Nat)) (d:Nat) (x:AV) :
  (mkE l m).put d x=mkE (qO l d x) (if (dC l d).isRoot=true then acN m d ((iG m d).1+1,(iG m d).2+1) else m):=by
 apply Env.ext'
 ·intro t; show (if t=d then x else dC l t)=dC (qO l d x) t; rw[nP]
 ·intro t;show (if t=d/\(dC l d).isRoot=true then ((iG m d).1+1,(iG m d).2+1) else iG m t)=iG (if (dC l d).isRoot=true then acN m d ((iG m d).1+1,(iG m d).2+1) else m) t;by_cases h:(dC l d).isRoot=true
  ·simp only[h,and_true,lQ,tI]
  ·simp[h]
def c7 (ks t:Nat):Bool:=ks.testBit t || decide (1000<=t)
def oH (E:Env) (ks:Nat) (r e:Nat) (p:bA):Bool:=c7 ks r && e == fX (E.ep r) p && (E.f r).isRoot && (b9 (E.f r) p).isSome
mutual
def oO (E:Env) (ks:Nat):AV->AV
 | .lnk r e p=>if oH E ks r e p then .lnk r 0 p else .undef
 | .sub r e p s lo n=>if oH E ks r e p then .sub r 0 p s lo n else .undef
 | .ref r e p st=>if oH E ks r e p then .ref r 0 p st else .undef
 | .box cs=>.box (yW E ks cs)
 | .agg cs=>.agg (yW E ks cs)
 | .tup cs=>.tup (yW E ks cs)
 | .fn f cs=>.fn f (yW E ks cs)
 | .undef=>.undef
 | .bool b=>.bool b
 | .int k n=>.int k n
 | .str s=>.str s
 | .own s es=>.own s es
 | .ext s es=>.ext s es
 | .extv v s es=>.extv v s es
 | .xbox cs=>.xbox cs
def yW (E:Env) (ks:Nat):List AV->List AV
 | []=>[]
 | a::l=>oO E ks a::yW E ks l
end
def Env.norm (E:Env) (ks:Nat):Env:=⟨fun t=>if c7 ks t then oO E ks (E.f t) else .undef,fun _=>(0,0)⟩
def acO (E:Env):List Nat->Env
 | []=>E
 | d::D=>acO (E.put d .undef) D
def hdL (ks:Nat) (D:List Nat) (E:Env):Env:=match D with
 | []=>E
 | d::D=>(acO (E.put d .undef) D).norm ks
def ubM (E:Env) (t:Nat):AV->AV->Env
 | .box cs,.undef=>(((E.put t .undef).put (5000+t) (.box cs)).put t (.ref (5000+t) (fX (((E.put t .undef).put (5000+t) (.box cs)).ep (5000+t)) []) [] ⟨0,0,0⟩))
 | _,_=>E
def ub1 (E:Env) (t:Nat):Env:=ubM E t (E.f t) (E.f (5000+t))
def ubE (E:Env):List Nat->Env
 | []=>E
 | t::l=>ubE (ub1 E t) l
def rgE (ks:Nat) (U:List Nat) (E:Env):Env:=match U with
 | []=>E
 | t::l=>(ubE (ub1 E t) l).norm ks
inductive Ex where
 | n
 | r
 | e (id:Nat)
 deriving DecidableEq,Inhabited
def ahR (P:Program):List GI->(Env->Prop)->Env->Prop
 | [],K,E=>K E
 | g::l,K,E=>match g.g with
  | none=>qR P g.i (ahR P l K) E
  | some (t,b)=>(∃ c,E.f t=.bool c/\(c=b->qR P g.i (ahR P l K) E)/\(c≠b->ahR P l K (mF E g.d (.tup []))))\/(E.f t=.tup []/\ahR P l K (mF E g.d (.tup [])))
def awp (P:Program) (ks:Nat):Cmd->(Ex->Env->Prop)->Env->Prop
 | .skip,Q,E=>Q .n E
 | .reg is none,Q,E=>∃ U,ahR P is (Q .n) (rgE ks U (E.norm ks))
 | .reg is (some bs),Q,E=>∃ U,mV P bs [] is (Q .n) (rgE ks U (E.norm ks))\/(ks.testBit 999=true/\is.all plG=true/\∃ t,anS P is (Q .n) (rgE ks U (E.norm ks)) (ltB bs) t)
 | .seq a b,Q,E=>awp P ks a (fun x E'=>match x with | .n=>awp P ks b Q E' | x=>Q x E') E
 | .cond x a b,Q,E=>∃ t,val E x=.bool t/\(t=true->awp P ks a Q E)/\(t=false->awp P ks b Q E)
 | .blk id c,Q,E=>awp P ks c (fun x E'=>if x=.e id then Q .n E' else Q x E') E
 | .loop c,Q,E=>∃ (D:List Nat) (J:Nat->Env->Prop),(∃ n,J n (hdL ks D (E.norm ks)))/\∀ n E,J n E->awp P ks c (fun x E'=>match x with | .n=>∃ m,m<n/\J m (hdL ks D (E'.norm ks)) | x=>Q x E') E
 | .exit id,Q,E=>Q (.e id) E
 | .ret,Q,E=>Q .r E
def oC (P:Program) (t:TypeId):Option Nat:=(P.info? t).map (·.size)
def ak7 (P:Program) (t:TypeId):Option Bool:=(P.underlying t).map fun | .struct _=>true | .array _ _=>true | _=>false
def ak8 (P:Program) (t:TypeId):Option TypeId:=match P.underlying t with | some (.slice e)=>some e | _=>none
def aqr (P:Program) (ty:TypeId):Value->Option AV
 | .bool b=>some (.bool b)
 | .int k n=>some (.int k n)
 | .string s=>some (.str s.data.toList)
 | .slice none 0 0=>match ak8 P ty with
  | some e=>(oC P e).map fun s=>.own s []
  | none=>some (.own 0 [])
 | .pointer none=>some .undef
 | _=>none
def iN (P:Program) (nt:Nat) (ty:TypeId):Operand->Option O
 | .tmp t=>if t<nt then some (.t t) else none
 | .const v=>(aqr P ty v).map .c
 | .func f=>some (.c (.fn f []))
 | .global _=>none
def apG (P:Program) (nt:Nat) (ty:TypeId):Option Operand->Option (Option O)
 | none=>some none
 | some x=>(iN P nt ty x).map some
def anV (P:Program):Nat->TypeId->Option (List TV)
 | 0,_=>none
 | n+1,t=>match P.underlying t with
  | some .bool=>some [.bool false]
  | some (.int k)=>some [.int k 0]
  | some .string=>some [.str []]
  | some (.slice e)=>(oC P e).map fun s=>[.sl s []]
  | some (.struct fs)=>fs.toList.foldr (fun f acc=>(anV P n f.type).bind fun a=>acc.map (a++·)) (some [])
  | _=>none
def dS:List Value->List TV->Bool
 | [],[]=>true
 | .bool false::vs,.bool false::ts=>dS vs ts
 | .int k 0::vs,.int k' 0::ts=>k == k' && dS vs ts
 | .string s::vs,.str []::ts=>s.data.toList.isEmpty && dS vs ts
 | .slice none 0 0::vs,.sl _ []::ts=>dS vs ts
 | _,_=>false
def aaL (P:Program) (t:TypeId):Option (List TV):=
 (anV P 10 t).bind fun ts=>(P.info? t).bind fun i=>i.zero.bind fun z=>if dS z.cells.toList ts then some ts else none
def agh (P:Program) (nt:Nat) (ty:TypeId):List Operand->Option (List O)
 | []=>some []
 | x::l=>(iN P nt ty x).bind fun o=>(agh P nt ty l).map (o::·)
def yX (P:Program) (nt:Nat):List Operand->List TypeId->Option (List O)
 | [],_=>some []
 | x::l,ts=>(iN P nt (ts.headD 0) x).bind fun o=>(yX P nt l ts.tail).map (o::·)
def xB (P:Program) (nt:Nat) (fs:List Field):List (Nat × Operand)->Option (List (Nat × Nat × O))
 | []=>some []
 | (i,x)::l=>match fs[i]? with
  | some f=>(oC P f.type).bind fun s=>(iN P nt f.type x).bind fun o=>(xB P nt fs l).map ((f.offset,s,o)::·)
  | none=>none
def agi (P:Program) (nt:Nat) (e:TypeId):Nat->List (Nat × Operand)->Option (List O)
 | _,[]=>some []
 | k,(i,x)::l=>if i=k then (iN P nt e x).bind fun o=>(agi P nt e (k+1) l).map (o::·) else none
def kC (P:Program):Nat->List Field->Option (List Nat)
 | _,[]=>some []
 | k,f::fs=>if f.name≠ "_"∧f.offset=k then match P.underlying f.type with
   | some (.int _)=>(kC P (k+1) fs).map (0::·)
   | some .string=>(kC P (k+1) fs).map (1::·)
   | some .bool=>(kC P (k+1) fs).map (2::·)
   | _=>none
  else none
def apH (P:Program) (d:Nat) (op:BinOp) (t:TypeId) (a b:O):Option I:=
 match P.underlying t,op with
 | some (.int _),op=>some (.bin d op a b)
 | some .string,op=>some (.bin d op a b)
 | some .bool,.eql=>some (.beq d false a b)
 | some .bool,.neq=>some (.beq d true a b)
 | some (.slice _),.eql=>some (.isn d false a b)
 | some (.slice _),.neq=>some (.isn d true a b)
 | some (.struct fs),.eql=>if P.eqGuardType P.depth t=false/\P.stoodInHeld t=false then (kC P 0 fs.toList).map fun ks=>.eqs d false ks a b else none
 | some (.struct fs),.neq=>if P.eqGuardType P.depth t=false/\P.stoodInHeld t=false then (kC P 0 fs.toList).map fun ks=>.eqs d true ks a b else none
 | _,_=>none
def cOp (P:Program) (nt:Nat) (o:Oper):Option I:=
 if o.dst.all (fun d=>decide (d<nt))=false then none else
 match o.op,o.dst with
 | .move x,some d=>(iN P nt o.type x).map (.mov d ·)
 | .assign x,some d=>(iN P nt o.type x).map (.asg d ·)
 | .binOp op t x y u,some d=>(iN P nt t x).bind fun a=>(iN P nt u y).bind fun b=>apH P d op t a b
 | .unOp op t x,some d=>(iN P nt t x).map (.un d op ·)
 | .convert s t x,some d=>(iN P nt s x).bind fun a=>match P.underlying s,P.underlying t with
  | some (.int _),some (.int k)=>some (.conv d k a)
  | some .string,some (.slice e)=>if P.underlying e matches some (.int .u8) then (if oC P e=some 1 then some (.s2b d a) else none) else none
  | some (.slice e),some .string=>if P.underlying e matches some (.int .u8) then some (.b2s d a) else none
  | some (.slice e),some (.slice _)=>if s=t then (if P.underlying e matches some (.int .u8) then some (.mrk d a) else none) else none
  | _,_=>none
 | .alloc t,some d=>(aaL P t).map (.alc d ·)
 | .box t v,some d=>(iN P nt t v).map (.box d ·)
 | .build t ps,some d=>match P.underlying t with
  | some (.struct fs)=>if (fs.toList.mapM (fun f=>(P.info? f.type).map fun i=>(f.offset,i.size))).isSome=true then (aaL P t).bind fun z=>(xB P nt fs.toList ps.toList).map fun l=>.bld d z l else none
  | _=>none
 | .buildSlice t n ps,some d=>(ak8 P t).bind fun e=>(oC P e).bind fun s=>if n*s<=2^24/\s≠0/\ps.size=n/\(aaL P e).isSome=true then (agi P nt e 0 ps.toList).map fun l=>.bsl d s l else none
 | .load t a,some d=>(oC P t).bind fun s=>(ak7 P t).bind fun g=>(iN P nt 0 a).map fun x=>.ld d x s g
 | .store t a v,none=>(oC P t).bind fun s=>(iN P nt 0 a).bind fun x=>(iN P nt t v).map fun y=>.st x y s
 | .nilCheck x,some d=>(iN P nt 0 x).map (.nck d ·)
 | .fieldAddr t x f,some d=>match P.underlying t with
  | some (.struct fs)=>(fs[f]?).bind fun g=>(oC P g.type).bind fun s=>if s=0 then none else (iN P nt 0 x).map fun a=>.fld d a g.offset
  | _=>none
 | .field t x f,some d=>match P.underlying t with
  | some (.struct fs)=>(fs[f]?).bind fun g=>(oC P g.type).bind fun s=>(ak7 P g.type).bind fun ag=>(iN P nt t x).map fun a=>.fldv d a g.offset s ag
  | _=>none
 | .indexAddr t x i,some d=>(ak8 P t).bind fun e=>(oC P e).bind fun s=>(iN P nt t x).bind fun a=>(iN P nt 0 i).map fun b=>.idx d a b s
 | .index t x i,some d=>if P.underlying t matches some .string then (iN P nt t x).bind fun a=>(iN P nt 0 i).map fun b=>.sidx d a b else none
 | .extract x k,some d=>(iN P nt 0 x).map fun a=>.xtr d a k
 | .pick c a b,some d=>(iN P nt 0 c).bind fun x=>(iN P nt o.type a).bind fun y=>(iN P nt o.type b).map fun z=>.pck d x y z
 | .makeFunc (.func f) first caps,some d=>if first.isEmpty then (agh P nt 0 caps.toList).map fun l=>.mkf d f l else none
 | .makeSlice t l c,some d=>(ak8 P t).bind fun e=>(P.info? e).bind fun i=>(aaL P e).bind fun z=>(iN P nt 0 l).bind fun a=>(iN P nt 0 c).map fun b=>.mks d a b i.size i.bytes z
 | .slice t x lo hi mx,some d=>if anQ mx then (iN P nt t x).bind fun a=>(apG P nt 0 lo).bind fun l=>(apG P nt 0 hi).bind fun h=>match P.underlying t with
   | some .string=>some (.sls d a l h)
   | some (.slice e)=>(oC P e).map fun s=>.slc d a l h s
   | _=>none
  else none
 | .call c,d=>match c.callee,c.args.toList,d with
  | .builtin .len,[x],some d=>if c.argTypes.size=1 then (iN P nt (c.argTypes.getD 0 0) x).bind fun a=>match P.underlying (c.argTypes.getD 0 0) with
    | some .string=>some (.lens d a)
    | some (.slice _)=>some (.len d a)
    | _=>none
   else none
  | .builtin .append,[x,y],some d=>(ak8 P (c.argTypes.getD 0 0)).bind fun e=>(P.info? e).bind fun i=>(iN P nt (c.argTypes.getD 0 0) x).bind fun a=>(iN P nt (c.argTypes.getD 1 0) y).bind fun b=>
    if i.bytes≠0/\c.argTypes.size=2/\(aaL P e).map (·.length)=some i.size/\(match P.underlying (c.argTypes.getD 1 0) with | some .string=>true | some (.slice _)=>true | _=>false)=true then some (.app d a b i.size i.bytes) else none
  | .builtin .copy,[x,y],some d=>(ak8 P (c.argTypes.getD 0 0)).bind fun e=>(oC P e).bind fun s=>(iN P nt (c.argTypes.getD 0 0) x).bind fun a=>(iN P nt (c.argTypes.getD 1 0) y).bind fun b=>
    if 0<c.argTypes.size then some (.cpy d a b s) else none
  | .builtin .clear,[x],none=>(ak8 P (c.argTypes.getD 0 0)).bind fun e=>(P.info? e).bind fun i=>(aaL P e).bind fun z=>(iN P nt (c.argTypes.getD 0 0) x).bind fun a=>
    if 0<c.argTypes.size then some (.clr a i.size z) else none
  | .builtin .max,[x,y],some d=>(iN P nt 0 x).bind fun a=>(iN P nt 0 y).map fun b=>.mx d a b
  | .builtin .min,[x,y],some d=>(iN P nt 0 x).bind fun a=>(iN P nt 0 y).map fun b=>.mn d a b
  | .value (.func f),xs,d=>(yX P nt xs c.argTypes.toList).map fun l=>.call d f l
  | .value (.tmp t),xs,d=>if t<nt then (yX P nt xs c.argTypes.toList).map fun l=>.callv d (.t t) l else none
  | _,_,_=>none
 | _,_=>none
def aeQ (P:Program) (nt:Nat) (ops:Array Oper):List Oper->Option (List GI)
 | []=>some []
 | o::l=>(cOp P nt o).bind fun i=>(aeQ P nt ops l).bind fun r=>match o.guard with
  | none=>some (⟨none,o.dst,i⟩::r)
  | some (j,b)=>((ops[j]?).bind (·.dst)).bind fun t=>if t<nt then some (⟨some (t,b),o.dst,i⟩::r) else none
def d7 (ops:Array Oper):List Nat:=(Region.before ops).toList
def oP (ops:Array Oper):Bool:=ops.toList.zipIdx.all fun p=>p.1.after.toList.all fun e=>!Region.binds .any e || decide (e.on<p.2)
def xxI:I->I->Bool
 | .xtr d1 (.t n) k1,.xtr d2 (.t m) k2=>n == m && (k1 != k2 && (d1 != d2 && (d1 != n && d2 != n)))
 | _,_=>false
def xxG (o q:GI):Bool:=o.g.isNone && (q.g.isNone && xxI o.i q.i)
def xxB (l:List GI) (bs:List Nat):List Nat:=(List.range l.length).map fun j=>(List.range j).foldl (fun s i=>if xxG (l.getD i default) (l.getD j default)=true then s ||| 2^i else s) (bs.getD j 0)
def l3 (P:Program) (nt:Nat):Code->Option Cmd
 | .skip=>some .skip
 | .region _ ops dr=>if dr && !oP ops then none else (aeQ P nt ops ops.toList).map fun l=>Cmd.reg l (if dr then some (xxB l (d7 ops)) else none)
 | .seq a b=>(l3 P nt a).bind fun x=>(l3 P nt b).map fun y=>.seq x y
 | .cond c a b=>(iN P nt 0 c).bind fun o=>(l3 P nt a).bind fun x=>(l3 P nt b).map fun y=>.cond o x y
 | .block id c=>(l3 P nt c).map (.blk id ·)
 | .loop c=>(l3 P nt c).map .loop
 | .exit id=>some (.exit id)
 | .ret=>some .ret
 | _=>none
section
variable {α β:Type} {K:α->Prop}
theorem qS (x:α):onO (some x) K=K x:=by simp[onO]
theorem acP:onO (none:Option α) K=False:=by simp[onO]
theorem ah0 (f:β->α) (o:Option β):onO (o.map f) K=onO o (fun z=>K (f z)):=by
 cases o <;> simp[onO]
theorem acQ (f:β->Option α) (o:Option β):onO (o.bind f) K=onO o (fun z=>onO (f z) K):=by
 cases o <;> simp[onO]
end
end
section
variable {w w':World} {B:Base} {hid:Nat->Value} {a:Act} {E:Env} {Fs Xs:Nat->aH} {FP XP:aH}
theorem ah1 (h:w'.heap=w.heap) (v:Value) (p:bA):i4 w' v p=i4 w v p:=by
 have hc:∀ x,w'.cell? x=w.cell? x:=fun x=>by unfold World.cell?; rw[h]
 induction p generalizing v with
 | nil=>rfl
 | cons st p ih=>
  unfold i4;split <;> simp_all
theorem aaM (h:w'.heap=w.heap) (vl:Nat->Value) (E:Env):aM w' vl E=aM w vl E:=by
 funext r e p; unfold aM; rw[ah1 h]
theorem RepA.heap {lk:Lk} {F X:aH} {vs:List Value} {as:List AV} (h:w'.heap=w.heap) (r:RepA w lk F X vs as):RepA w' lk F X vs as:=
 r.same (fun _ _ _ _ h=>.inr h) (fun b _=>by rw[h]) (fun b _=>by rw[h])
theorem Rel.heap (R:Rel B hid w a E Fs Xs) (h:w'.heap=w.heap) (hk:Quiet w w':=by exact⟨rfl,rfl⟩):Rel B hid w' a E Fs Xs:=
 ⟨R.size,R.dfr,fun t=>by rw[aaM h]; exact(R.rep t).heap h,R.one,R.dis,R.disx,R.grow.trans ⟨by rw[h]; exact lE1 _,hk⟩,fun b h1 h2=>by rw[h]; exact R.frame b h1 h2,R.org,R.orgx,fun t b hb=>by rw[h]; exact R.ltx t b hb⟩
theorem PR.heap {vs:List Value} {xs:List AV} (P:PR B hid w a E Fs Xs FP XP vs xs) (h:w'.heap=w.heap) (hk:Quiet w w':=by exact⟨rfl,rfl⟩):PR B hid w' a E Fs Xs FP XP vs xs:=
 ⟨P.rel.heap h hk,by rw[aaM h]; exact P.rep.heap h,P.one,P.dis,P.dx1,P.dx2,P.dx3,P.org,fun b hb=>by rw[h]; exact P.orgx b hb⟩
theorem PR.put {v:Value} {x:AV} (P:PR B hid w a E Fs Xs FP XP [v] [x]) {d:Nat} (hd:d<B.n) :
  ∃ Fs' Xs',Rel B hid w (a.put (some d) v) (E.put d x) Fs' Xs':=by
 have R:=P.rel;have hda:d<a.tmps.size:=by rw[R.size]; exact hd
 refine⟨fun t=>if t=d then FP else Fs t,fun t=>if t=d then XP else Xs t,?_⟩;refine R.change (fun t=>t=d) ?_ R.dfr ?_ ?_ ?_ ?_ ?_ ?_ ?_ (Grows.refl _) (fun _ _ _=>rfl) ?_ ?_
 ·rw[<-R.size]; simp[Act.put]
 ·intro t ht; exact⟨bX ht,cY ht,apE ht,by simp[ht],by simp[ht],fun _ _=>rfl,fun _ _=>rfl⟩
 ·intro r hr e p o h; subst hr; exact .inl (eI rfl h)
 ·intro links t ht; subst ht; rw[cQ,ahV hda]; simp only[lQ];exact P.rep.same links (fun _ _=>rfl) (fun _ _=>rfl)
 ·intro t ht b; simp only[ht,lQ]; exact P.one b
 ·intro t ht t' am b; subst ht; simp only[lQ,Ne.symm am,lN1]; exact P.dis t' b
 ·intro t ht t' b; subst ht; simp only[lQ];by_cases e:t'=t
  ·simp only[e,lQ]; exact P.dx3 b
  ·simp only[e,lN1]; exact P.dx1 t' b
 ·intro t ht t' b; subst ht; simp only[lQ];by_cases e:t'=t
  ·simp only[e,lQ]; exact P.dx3 b
  ·simp only[e,lN1]; exact(P.dx2 t' b).symm
 ·intro t ht b hb; subst ht; simp only[lQ] at hb; exact P.org b hb
 ·intro t ht b hb; subst ht; simp only[lQ] at hb; exact P.orgx b hb
theorem iP {w:World} {o:Obj} (h:w'.heap=w.heap.push o) {b:Nat} (hb:b<w.heap.size):w'.heap[b]?=w.heap[b]?:=by
 rw[h,Array.getElem?_push]; simp[Nat.ne_of_lt hb]
theorem Rel.push {o:Obj} (R:Rel B hid w a E Fs Xs) (h:w'.heap=w.heap.push o) (hk:Quiet w w':=by exact⟨rfl,rfl⟩):Rel B hid w' a E Fs Xs:=by
 have sm:∀ t,j6 w w' (Fs t)/\j6 w w' (Xs t):=fun t=>
  ⟨fun b hb=>iP h ((R.rep t).lt b hb),fun b hb=>iP h (R.ltx t b hb)⟩
 refine R.change (fun _=>False) R.size R.dfr (fun t _=>⟨rfl,rfl,rfl,rfl,rfl,(sm t).1,(sm t).2⟩) (fun _ h=>h.elim) (fun _ _ h=>h.elim) (fun _ h=>h.elim) (fun _ h=>h.elim) (fun _ h=>h.elim)
  (fun _ h=>h.elim) ⟨by rw[h]; simp,hk⟩ ?_ (fun _ h=>h.elim) (fun _ h=>h.elim)
 intro b hb _;exact iP h (lJ4 hb R.grow.size)
theorem PR.push {vs:List Value} {xs:List AV} {o:Obj} (P:PR B hid w a E Fs Xs FP XP vs xs) (h:w'.heap=w.heap.push o) (hk:Quiet w w':=by exact⟨rfl,rfl⟩):PR B hid w' a E Fs Xs FP XP vs xs:=by
 have R:=P.rel;have sm:∀ t,j6 w w' (Fs t)/\j6 w w' (Xs t):=fun t=>
  ⟨fun b hb=>iP h ((R.rep t).lt b hb),fun b hb=>iP h (R.ltx t b hb)⟩
 have hl:∀ r e p,aM w' (aI a.tmps hid) E r e p=aM w (aI a.tmps hid) E r e p:=fun r e p=>kW R rfl rfl rfl (sm r).1 (sm r).2 e p
 refine⟨R.push h hk,?_,P.one,P.dis,P.dx1,P.dx2,P.dx3,P.org,fun b hb=>⟨(P.orgx b hb).1,by rw[h]; simp; exact Nat.lt_succ_of_lt (P.orgx b hb).2⟩⟩;exact P.rep.same (fun r e p o ho=>.inr (by rw[hl]; exact ho)) (fun b hb=>iP h (P.rep.lt b hb)) (fun b hb=>iP h (P.orgx b hb).2)
theorem PR.wrap {vs:List Value} {xs:List AV} {v:Value} {x:AV} {o:Obj} (P:PR B hid w a E Fs Xs FP XP vs xs) (h:w'.heap=w.heap.push o)
  (hr:RepA w' (aM w' (aI a.tmps hid) E) FP XP vs xs->RepA w' (aM w' (aI a.tmps hid) E) (fun b=>(if b=w.heap.size then 1 else 0)+FP b) XP [v] [x])
  (hk:Quiet w w':=by exact⟨rfl,rfl⟩):∃ FP',PR B hid w' a E Fs Xs FP' XP [v] [x]:=by
 have P':=P.push h hk;have R:=P.rel;have hF:∀ t b,b=w.heap.size->Fs t b=0:=fun t b e=>by
  by_cases h0:Fs t b=0
  ·exact h0
  ·have:=(R.rep t).lt b h0; omega
 have hX:∀ t b,b=w.heap.size->Xs t b=0:=fun t b e=>by
  by_cases h0:Xs t b=0
  ·exact h0
  ·have:=R.ltx t b h0; omega
 have hFP:∀ b,b=w.heap.size->FP b=0:=fun b e=>by
  by_cases h0:FP b=0
  ·exact h0
  ·have:=P.rep.lt b h0; omega
 have ng:∀ b,b=w.heap.size->XP b=0:=fun b e=>by
  by_cases h0:XP b=0
  ·exact h0
  ·have:=(P.orgx b h0).2; omega
 refine⟨fun b=>(if b=w.heap.size then 1 else 0)+FP b,P'.rel,hr P'.rep,?_,?_,?_,P'.dx2,?_,?_,P'.orgx⟩
 ·intro b; by_cases e:b=w.heap.size
  ·simp[e,hFP]
  ·simp[e]; exact P.one b
 ·intro t b; by_cases e:b=w.heap.size
  ·exact .inr (hF t b e)
  ·simp[e]; exact P.dis t b
 ·intro t b; by_cases e:b=w.heap.size
  ·exact .inr (hX t b e)
  ·simp[e]; exact P.dx1 t b
 ·intro b; by_cases e:b=w.heap.size
  ·exact .inr (ng b e)
  ·simp[e]; exact P.dx3 b
 ·intro b hb; by_cases e:b=w.heap.size
  ·right; rw[e]; exact R.grow.size
  ·simp[e] at hb; exact P.org b hb
theorem bS {α:Type} {s:Nat} (l:List (List α)) (hl:∀ e ∈ l,e.length=s):l.flatten.length=l.length*s:=by
 induction l with
 | nil=>simp
 | cons e l ih=>simp[ih (fun e h=>hl e D0),hl e A8,lI4]; omega
theorem Row.cut {F:aH} {v:Value} {s:Nat} {es:List (List TV)} (h:Row w true F [v] [.sl s es]) (lo n:Nat) (hn:lo+n<=es.length) (a':Option Addr)
  (base:Option Addr) (len cap:Nat) (hv:v=.slice base len cap) (ha:a'=base.map (·.add (lo*s))\/(lo=cap/\∃ k,k<=cap/\a'=base.map (·.add (k*s)))) :
  ∃ G,Row w true G [.slice a' n (cap-lo)] [.sl s ((es.drop lo).take n)]/\∀ b,G b<=F b:=by
 rcases Row.sl_inv h with ⟨au,rfl,_⟩ | ⟨F1,b,off,cap1,C,ty,fr,cs,au,hb,hfr,hcap,hle,ap,hcs,hc,h1,hF⟩
 ·rw[au] at hv; cases hv;simp at hn;obtain⟨rfl,rfl⟩:=hn;have:a'=none:=by
   rcases ha with h | ⟨_,k,_,h⟩ <;> simp_all
  subst this;exact⟨fun _=>0,by simpa using Row.own0 _ s [] [] (.nil _ _ (fun _=>rfl)),fun b=>by simp⟩
 ·rw[au] at hv; cases hv;have di:es.flatten=(es.take lo).flatten++(((es.drop lo).take n).flatten++(es.drop (lo+n)).flatten):=by
   rw[<-lV1,<-lV1];congr 1;rw[<-lA2,lJ,lJ]
  have h1':Row w true F1 (cs.take (lo*s)++((cs.drop (lo*s)).take (n*s)++cs.drop (lo*s+n*s))) ((es.take lo).flatten++(((es.drop lo).take n).flatten++(es.drop (lo+n)).flatten)):=by
   rw[<-di];have:cs.take (lo*s)++((cs.drop (lo*s)).take (n*s)++cs.drop (lo*s+n*s))=cs:=by
    rw[<-lA2,lJ,lJ]
   rw[this]; exact h1
  have nh:∀ e ∈ es.take lo,e.length=s:=fun e he=>ap e (lY1 he)
  have kg:∀ e ∈ (es.drop lo).take n,e.length=s:=fun e he=>ap e (lZ1 (lY1 he))
  have ob:lo*s+n*s<=cs.length:=by rw[hcs,<-lH2]; exact lJ1 _ hn
  obtain⟨G1,G2,g1,g2,e1⟩:=Row.split _ _ (by rw[bS _ nh,lH,lH]; rw[lB1 A7,lB1 A7]) h1';obtain⟨G3,G4,g3,g4,e2⟩:=Row.split _ _ (by rw[bS _ kg,lH,lH,lK1,lK1]; rw[lB1 A7,lB1 A7]) g2;refine⟨fun x=>(if x=b then 1 else 0)+G3 x,?_,fun x=>by have:=hF x; have:=e1 x; have:=e2 x; (try dsimp only); omega⟩;rcases ha with rfl | ⟨rfl,k,hk,rfl⟩
  ·simp only[lD];have ig:(⟨b,off,none⟩:Addr).add (lo*s)=⟨b,off+lo*s,none⟩:=by
    unfold Addr.add; split <;> simp_all
   rw[ig];refine Row.of_sl B0 hb hfr ?_ B0 kg ?_ ?_ g3 (fun x=>rfl)
   ·have:(cap-lo)*s+lo*s=cap*s:=by rw[<-lH2]; congr 1; omega
    omega
   ·simp only[lH,lK1];rw[lB1 A7,lB1 A7]
   ·intro k hk;simp only[lH,lK1] at hk;have:=hc (lo*s+k) A7;rw[lQ1,this,lT,lY];rw[lK A7]
  ·have fi:n=0:=by omega
   subst fi;have e0:(es.drop lo).take 0=[]:=by simp
   simp only[lD];have ig:(⟨b,off,none⟩:Addr).add (k*s)=⟨b,off+k*s,none⟩:=by
    unfold Addr.add; split <;> simp_all
   rw[ig];have ni:k*s<=lo*s:=lJ1 _ hk;refine Row.of_sl (C:=C) (ty:=ty) (fr:=fr) (cs:=[]) A8 hb hfr B0 A8 A8 A8 A8 ?_ (fun x=>rfl);simpa using g3
theorem RepA.open_agg {lk:Lk} {F X:aH} {us vs:List Value} {ys xs cs:List AV} {v:Value} (hl:us.length=ys.length) (h:RepA w lk F X (us++v::vs) (ys++.agg cs::xs)) :
  ∃ zs,v=.agg zs.toArray/\zs.length=cs.length/\RepA w lk F X (us++(zs++vs)) (ys++(cs++xs)):=by
 obtain⟨A1,A2,Y1,Y2,q1,q2,eA,eY⟩:=RepA.split us ys hl h;cases q2 with
 | agg _ F1 F2 _ X1 X2 zs _ _ _ h1 h2 hF hX=>
  exact⟨zs,rfl,h1.length,RepA.append q1 (RepA.append h1 h2 hF hX) eA eY⟩
theorem RepA.close_agg {lk:Lk} {F X:aH} {us zs vs:List Value} {ys cs xs:List AV} (hl:us.length=ys.length) (hz:zs.length=cs.length)
  (h:RepA w lk F X (us++(zs++vs)) (ys++(cs++xs))):RepA w lk F X (us++.agg zs.toArray::vs) (ys++.agg cs::xs):=by
 obtain⟨A1,A2,Y1,Y2,q1,q2,eA,eY⟩:=RepA.split us ys hl h;obtain⟨A3,A4,Y3,Y4,q3,q4,eA',eY'⟩:=RepA.split zs cs hz q2;exact RepA.append q1 (.agg _ A3 A4 _ Y3 Y4 zs cs vs xs q3 q4 eA' eY') eA eY
theorem PR.rerep {vs vs':List Value} {xs xs':List AV} (P:PR B hid w a E Fs Xs FP XP vs xs) (h:RepA w (aM w (aI a.tmps hid) E) FP XP vs' xs'):PR B hid w a E Fs Xs FP XP vs' xs':=
 ⟨P.rel,h,P.one,P.dis,P.dx1,P.dx2,P.dx3,P.org,P.orgx⟩
theorem PR.shrink {vs vs':List Value} {xs xs':List AV} {FP' XP':aH} (P:PR B hid w a E Fs Xs FP XP vs xs) (h:RepA w (aM w (aI a.tmps hid) E) FP' XP' vs' xs')
  (hF:∀ b,FP' b<=FP b) (hX:∀ b,XP' b<=XP b):PR B hid w a E Fs Xs FP' XP' vs' xs':=
 ⟨P.rel,h,fun b=>lZ4 (hF b) (P.one b),fun t b=>by have:=P.dis t b; have:=hF b; omega,fun t b=>by have:=P.dx1 t b; have:=hF b; omega,
  fun t b=>by have:=P.dx2 t b; have:=hX b; omega,fun b=>by have:=P.dx3 b; have:=hF b; have:=hX b; omega,fun b hb=>P.org b (by have:=hF b; omega),fun b hb=>P.orgx b (by have:=hX b; omega)⟩
theorem PR.cut {us vs:List Value} {ys xs:List AV} {v:Value} {r e:Nat} {p:bA} {s lo n:Nat} {es:List (List TV)} (hl:us.length=ys.length)
  (P:PR B hid w a E Fs Xs FP XP (us++v::vs) (ys++.sub r e p s lo n::xs)) (hn:aK E r e p=some (s,es)) (hle:lo+n<=es.length) :
  ∃ Fs' Xs' FP' XP',PR B hid w a (takeN E r p) Fs' Xs' FP' XP' (us++v::vs) (ys++.own s ((es.drop lo).take n)::xs):=by
 obtain⟨he,af,hg⟩:=bR hn;obtain⟨A1,A2,Y1,Y2,q1,q2,eA,eY⟩:=RepA.split us ys hl P.rep;obtain⟨C1,C2,Z1,Z2,q3,q4,eC,eZ⟩:=RepA.uncons q2;obtain⟨h,Fu,Fr,Xu,Xr,hF,hX,hu,ai,an⟩:=j7 p (P.rel.rep r) hg;have ay:aM w (aI a.tmps hid) E r e p=some (some h):=by
  unfold aM; rw[if_neg A7,if_pos ⟨he,af,by rw[hg]; rfl⟩,ai]
 have hv:(∃ base len cap a',h=.slice base len cap/\v=.slice a' n (cap-lo)/\lo+n<=len/\(a'=base.map (·.add (lo*s))\/(lo=cap/\∃ k,k<=cap/\a'=base.map (·.add (k*s)))))/\(∀ b,C1 b=0)/\(∀ b,Z1 b=0):=by
  cases q3 with
  | sub _ _ _ _ _ _ _ _ o _ _ _ ho hv q=>
   rw[ay] at ho; cases ho;cases q with
   | nil _ _ h1 h2=>exact⟨hv h rfl,h1,h2⟩
 obtain⟨⟨base,len,cap,a',e1,e2,e3,e4⟩,z1,z2⟩:=hv;have P1:PR B hid w a E Fs Xs FP XP (us++h::vs) (ys++.lnk r e p::xs):=by
  refine P.rerep ?_;have g:RepA w (aM w (aI a.tmps hid) E) C1 Z1 [h] [.lnk r e p]:=.lnk _ _ _ _ _ _ _ _ _ ay (fun u hu=>by cases hu; rfl) (.nil _ _ z1 z2);exact RepA.append q1 (RepA.cons g q4 eC eZ) eA eY
 obtain⟨Fs',Xs',FP',XP',P2⟩:=PR.node hl P1 hn;obtain⟨D1,D2,W1,W2,k1,k2,eD,eW⟩:=RepA.split us ys hl P2.rep;obtain⟨D3,D4,W3,W4,k3,k4,eD',eW'⟩:=RepA.uncons k2;obtain⟨ak,hw3⟩:=RepA.to_row k3 rfl;obtain⟨G,hG,jv⟩:=Row.cut ak lo n hle a' base len cap e1 e4;subst e2;have g:RepA w (aM w (aI a.tmps hid) (takeN E r p)) G W3 [.slice a' n (cap-lo)] [.own s ((es.drop lo).take n)]:=
  .own _ G (fun _=>0) _ _ _ _ _ _ hG (.nil _ _ (fun _=>rfl) hw3) (fun x=>by simp)
 exact⟨Fs',Xs',fun b=>D1 b+(G b+D4 b),XP',P2.shrink (RepA.append k1 (RepA.cons g k4 (fun _=>rfl) eW') (fun _=>rfl) eW)
  (fun b=>by have:=eD b; have:=eD' b; have:=jv b; (try dsimp only); omega) (fun b=>Nat.le_refl _)⟩
mutual
theorem uA (x:AV) {us vs:List Value} {ys xs:List AV} {v:Value} {x':AV} {E E':Env} {Fs Xs:Nat->aH} {FP XP:aH} (hl:us.length=ys.length)
  (P:PR B hid w a E Fs Xs FP XP (us++v::vs) (ys++x::xs)) (hg:bN E x=some (x',E')) :
  ∃ Fs' Xs' FP' XP',PR B hid w a E' Fs' Xs' FP' XP' (us++v::vs) (ys++x'::xs):=by
 cases x with
 | lnk r e p=>
  simp only[bN] at hg;cases hn:aK E r e p with
  | none=>simp[hn] at hg
  | some q=>
   simp[hn] at hg;obtain⟨rfl,rfl⟩:=hg;exact PR.node hl P hn
 | sub r e p s lo n=>
  simp only[bN] at hg;cases hn:aK E r e p with
  | none=>simp[hn] at hg
  | some q=>
   obtain⟨s',es⟩:=q;simp[hn] at hg;obtain⟨⟨hs,hle⟩,rfl,rfl⟩:=hg;subst hs;exact PR.cut hl P hn hle
 | agg cs=>
  simp only[bN] at hg;cases hq:i5 E cs with
  | none=>simp[hq] at hg
  | some q=>
   obtain⟨cs',E1⟩:=q;simp[hq] at hg;obtain⟨rfl,rfl⟩:=hg;obtain⟨zs,rfl,hz,hr⟩:=RepA.open_agg hl P.rep;obtain⟨Fs',Xs',FP',XP',P',ac⟩:=uB cs hl hz (P.rerep hr) hq;exact⟨Fs',Xs',FP',XP',P'.rerep (RepA.close_agg hl (by rw[hz,ac]) P'.rep)⟩
 | tup cs=>simp[bN] at hg
 | box cs=>simp[bN] at hg
 | undef=>simp only[bN,Option.some.injEq,Prod.mk.injEq] at hg; obtain⟨rfl,rfl⟩:=hg; exact⟨_,_,_,_,P⟩
 | bool b=>simp only[bN,Option.some.injEq,Prod.mk.injEq] at hg; obtain⟨rfl,rfl⟩:=hg; exact⟨_,_,_,_,P⟩
 | int k n=>simp only[bN,Option.some.injEq,Prod.mk.injEq] at hg; obtain⟨rfl,rfl⟩:=hg; exact⟨_,_,_,_,P⟩
 | str s=>simp only[bN,Option.some.injEq,Prod.mk.injEq] at hg; obtain⟨rfl,rfl⟩:=hg; exact⟨_,_,_,_,P⟩
 | own s es=>simp only[bN,Option.some.injEq,Prod.mk.injEq] at hg; obtain⟨rfl,rfl⟩:=hg; exact⟨_,_,_,_,P⟩
 | ext s es=>simp only[bN,Option.some.injEq,Prod.mk.injEq] at hg; obtain⟨rfl,rfl⟩:=hg; exact⟨_,_,_,_,P⟩
 | extv v s es=>simp only[bN,Option.some.injEq,Prod.mk.injEq] at hg; obtain⟨rfl,rfl⟩:=hg; exact⟨_,_,_,_,P⟩
 | xbox cs=>simp only[bN,Option.some.injEq,Prod.mk.injEq] at hg; obtain⟨rfl,rfl⟩:=hg; exact⟨_,_,_,_,P⟩
 | ref r e p st=>simp only[bN,Option.some.injEq,Prod.mk.injEq] at hg; obtain⟨rfl,rfl⟩:=hg; exact⟨_,_,_,_,P⟩
 | fn f cs=>simp only[bN,Option.some.injEq,Prod.mk.injEq] at hg; obtain⟨rfl,rfl⟩:=hg; exact⟨_,_,_,_,P⟩
theorem uB (cs:List AV) {us zs vs:List Value} {ys xs:List AV} {cs':List AV} {E E':Env} {Fs Xs:Nat->aH} {FP XP:aH} (hl:us.length=ys.length) (hz:zs.length=cs.length)
  (P:PR B hid w a E Fs Xs FP XP (us++(zs++vs)) (ys++(cs++xs))) (hg:i5 E cs=some (cs',E')) :
  ∃ Fs' Xs' FP' XP',PR B hid w a E' Fs' Xs' FP' XP' (us++(zs++vs)) (ys++(cs'++xs))/\cs'.length=cs.length:=by
 cases cs with
 | nil=>
  simp only[i5,Option.some.injEq,Prod.mk.injEq] at hg;obtain⟨rfl,rfl⟩:=hg;exact⟨_,_,_,_,P,rfl⟩
 | cons c cs=>
  simp only[i5] at hg;cases h1:bN E c with
  | none=>simp[h1] at hg
  | some q=>
   obtain⟨c',E1⟩:=q;simp only[h1,lE] at hg;cases h2:i5 E1 cs with
   | none=>simp[h2] at hg
   | some q2=>
    obtain⟨cs2,E2⟩:=q2;simp[h2] at hg;obtain⟨rfl,rfl⟩:=hg;cases zs with
    | nil=>simp at hz
    | cons z zs=>
     have P0:PR B hid w a E Fs Xs FP XP (us++z::(zs++vs)) (ys++c::(cs++xs)):=P;obtain⟨Fs1,Xs1,FP1,XP1,P1⟩:=uA c hl P0 h1;have P1':PR B hid w a E1 Fs1 Xs1 FP1 XP1 ((us++[z])++(zs++vs)) ((ys++[c'])++(cs++xs)):=by simpa using P1
     obtain⟨Fs2,Xs2,FP2,XP2,P2,ac⟩:=uB cs D5 (by simpa using hz) P1' h2;exact⟨Fs2,Xs2,FP2,XP2,by simpa using P2,by simp[ac]⟩
end
inductive OpdOk (n:Nat):Operand->O->Prop where
 | tmp (t:Nat) (h:t<n):OpdOk n (.tmp t) (.t t)
 | const (v:Value) (x:AV) (h:∀ w lk,RepA w lk (fun _=>0) (fun _=>0) [v] [x]):OpdOk n (.const v) (.c x)
 | func (f:Nat):OpdOk n (.func f) (.c (.fn f []))
theorem fI {lk:Lk} {F X:aH} {vs:List Value} {as:List AV} (h:RepA w lk F X vs as):bV as=false->∀ b,F b=0:=by
 induction h with
 | nil F X hF hX=>exact fun _=>hF
 | undef F X v vs as h ih=>intro ho; exact ih (by simpa [bV,AV.owns] using ho)
 | bool F X v vs as h ih=>intro ho; exact ih (by simpa [bV,AV.owns] using ho)
 | int F X k n vs as h ih=>intro ho; exact ih (by simpa [bV,AV.owns] using ho)
 | str F X v vs as h ih=>intro ho; exact ih (by simpa [bV,AV.owns] using ho)
 | own F F1 F2 X s es v vs as h1 h hF ih=>intro ho; simp[bV,AV.owns] at ho
 | ext F X X1 X2 s es v vs as h1 h hX ih=>intro ho; exact ih (by simpa [bV,AV.owns] using ho)
 | extv F X X1 X2 s es v vs as h1 h hX ih=>intro ho; exact ih (by simpa [bV,AV.owns] using ho)
 | box F F1 F2 X X1 X2 b C ty fr cs vs as hb hfr h1 h hF hX ih1 ih=>intro ho; simp[bV,AV.owns] at ho
 | xbox F X X1 X2 a us cs vs as hc h1 h hX ih=>intro ho; exact ih (by simpa [bV,AV.owns] using ho)
 | agg F F1 F2 X X1 X2 us cs vs as h1 h hF hX ih1 ih=>
  intro ho b; simp[bV,AV.owns] at ho; rw[hF,ih1 ho.1,ih ho.2]
 | tup F F1 F2 X X1 X2 us cs vs as h1 h hF hX ih1 ih=>
  intro ho b; simp[bV,AV.owns] at ho; rw[hF,ih1 ho.1,ih ho.2]
 | fn F F1 F2 X X1 X2 f us cs vs as h1 h hF hX ih1 ih=>
  intro ho b; simp[bV,AV.owns] at ho; rw[hF,ih1 ho.1,ih ho.2]
 | lnk F X r e p o v vs as ho hv h ih=>intro ho; exact ih (by simpa [bV,AV.owns] using ho)
 | sub F X r e p s lo n o v vs as ho hv h ih=>intro ho; exact ih (by simpa [bV,AV.owns] using ho)
 | ref F X r e p st o v vs as ho hv h ih=>intro ho; exact ih (by simpa [bV,AV.owns] using ho)
theorem gG {vs:List Value} {xs:List AV} {x:Operand} {o:O} (ho:OpdOk B.n x o) (P:PR B hid w a E Fs Xs FP XP vs xs) :
  ∃ Fs' Xs' FP' XP',PR B hid w a (fK E o).2 Fs' Xs' FP' XP' (vs++[a.eval x]) (xs++[(fK E o).1]):=by
 have R:=P.rel;cases ho with
 | const v y h=>
  obtain⟨XP',P'⟩:=P.copy (h w _) (fun _=>rfl) (fun b hb=>absurd rfl hb);exact⟨_,_,_,_,P'⟩
 | func f=>
  have h:RepA w (aM w (aI a.tmps hid) E) (fun _=>0) (fun _=>0) [.func (.func f) #[] #[]] [.fn f []]:=
   .fn _ (fun _=>0) (fun _=>0) _ (fun _=>0) (fun _=>0) f [] [] [] [] RepA.znil RepA.znil (fun _=>rfl) (fun _=>rfl)
  obtain⟨XP',P'⟩:=P.copy h (fun _=>rfl) (fun b hb=>absurd rfl hb);exact⟨_,_,_,_,P'⟩
 | tmp t ht=>
  have he:a.eval (.tmp t)=aI a.tmps hid t:=kZ (by rw[R.size]; exact ht);rw[he];unfold fK;by_cases ax:(E.f t).owns=true
  ·simp only[ax,lQ]; exact P.move t
  ·simp only[ax];have hz:=fI (R.rep t) (by simpa [bV] using ax);obtain⟨XP',P'⟩:=P.copy (R.rep t) hz (fun b hb=>⟨t,hb⟩);exact⟨_,_,_,_,P'⟩
theorem dN {vs:List Value} {xs:List AV} {x:Operand} {o:O} {x':AV} {E':Env} (ho:OpdOk B.n x o) (P:PR B hid w a E Fs Xs FP XP vs xs)
  (hg:dR E o=some (x',E')) :
  ∃ Fs' Xs' FP' XP',PR B hid w a E' Fs' Xs' FP' XP' (vs++[a.eval x]) (xs++[x']):=by
 obtain⟨Fs',Xs',FP',XP',P'⟩:=gG ho P;exact uA _ P.rep.length P' hg
end
section
variable {P:Program} {w w':World} {B:Base} {hid hv:Nat->Value} {a:Act} {E:Env} {Fs Xs:Nat->aH} {FP XP:aH} {Q:Exit->Act->World->Prop} {o:Oper}
theorem bP {next:Act->World->Prop} {v:Value} {d:Nat} (hr:(execOp a.eval o).run P w=.ok (.value v) w') (hd:o.dst=some d) (h:next (a.put (some d) v) w'):o.wp P a w next Q:=by
 unfold Oper.wp; rw[hr,Oper.upon_value,hd]; exact h
theorem anW {next:Act->World->Prop} (hr:(execOp a.eval o).run P w=.ok .skip w') (hd:o.dst=none) (h:next a w'):o.wp P a w next Q:=by
 unfold Oper.wp; rw[hr,Oper.upon_skip,hd]; exact h
theorem bG {v:Value} {x:AV} (P1:PR B hid w a E Fs Xs FP XP [v] [x]) (hh:∀ t,t<2000->hid t=hv t) {d:Nat} (hd:d<B.n):bC B hv w (a.put (some d) v) (E.put d x):=by
 obtain⟨Fs',Xs',R⟩:=P1.put hd;exact⟨hid,Fs',Xs',R,hh⟩
theorem PR.ofRel (R:Rel B hid w a E Fs Xs) {v:Value} {x:AV} {F X:aH} (h:RepA w (aM w (aI a.tmps hid) E) F X [v] [x]) (hF:∀ b,F b=0)
  (hX:∀ b,X b≠0->∃ t,Xs t b≠0):∃ XP',PR B hid w a E Fs Xs (fun _=>0) XP' [v] [x]:=by
 obtain⟨XP',P'⟩:=(PR.nil R).copy h hF hX;exact⟨XP',P'⟩
theorem fF (G:bC B hv w a E) {d:Nat} (hd:d<B.n) {v:Value} {x:AV}
  (h:∀ hid Fs Xs,Rel B hid w a E Fs Xs->∃ F X,RepA w (aM w (aI a.tmps hid) E) F X [v] [x]/\(∀ b,F b=0)/\∀ b,X b≠0->∃ t,Xs t b≠0) :
  bC B hv w (a.put (some d) v) (E.put d x):=by
 obtain⟨hid,Fs,Xs,R,hh⟩:=G;obtain⟨F,X,h1,h2,h3⟩:=h hid Fs Xs R;obtain⟨XP',P'⟩:=PR.ofRel R h1 h2 h3;exact bG P' hh hd
theorem jI (G:bC B hv w a E) {d:Nat} (hd:d<B.n) (k:IntKind) (n:Int):bC B hv w (a.put (some d) (.int k n)) (E.put d (.int k n)):=
 fF G hd fun _ _ _ _=>⟨fun _=>0,fun _=>0,.int _ _ _ _ _ _ RepA.znil,fun _=>rfl,fun _ h=>absurd rfl h⟩
theorem pH (G:bC B hv w a E) {d:Nat} (hd:d<B.n) (b:Bool):bC B hv w (a.put (some d) (.bool b)) (E.put d (.bool b)):=
 fF G hd fun _ _ _ _=>⟨fun _=>0,fun _=>0,.bool _ _ _ _ _ RepA.znil,fun _=>rfl,fun _ h=>absurd rfl h⟩
theorem yY (G:bC B hv w a E) {d:Nat} (hd:d<B.n) (s:List UInt8):bC B hv w (a.put (some d) (cN s)) (E.put d (.str s)):=
 fF G hd fun _ _ _ _=>⟨fun _=>0,fun _=>0,.str _ _ _ _ _ RepA.znil,fun _=>rfl,fun _ h=>absurd rfl h⟩
theorem bJ (R:Rel B hid w a E Fs Xs) {x:Operand} {o:O} (ho:OpdOk B.n x o) :
  ∃ F X,RepA w (aM w (aI a.tmps hid) E) F X [a.eval x] [val E o]/\(∀ b,F b≠0->∃ t,Fs t b≠0)/\(∀ b,X b≠0->∃ t,Xs t b≠0)/\(∀ t,o=.t t->(∀ b,F b=Fs t b)/\∀ b,X b=Xs t b):=by
 cases ho with
 | const v y h=>exact⟨_,_,h w _,fun b hb=>absurd rfl hb,fun b hb=>absurd rfl hb,fun t ht=>by cases ht⟩
 | func f=>exact⟨_,_,.fn _ (fun _=>0) (fun _=>0) _ (fun _=>0) (fun _=>0) f [] [] [] [] RepA.znil RepA.znil (fun _=>rfl) (fun _=>rfl),fun b hb=>absurd rfl hb,fun b hb=>absurd rfl hb,fun t ht=>by cases ht⟩
 | tmp t ht=>
  have he:a.eval (.tmp t)=aI a.tmps hid t:=kZ (by rw[R.size]; exact ht);rw[he];exact⟨_,_,R.rep t,fun b hb=>⟨t,hb⟩,fun b hb=>⟨t,hb⟩,fun t' h=>by cases h; exact⟨fun _=>rfl,fun _=>rfl⟩⟩
theorem fZ (G:bC B hv w a E) {x:Operand} {o:O} (ho:OpdOk B.n x o) {k:IntKind} {n:Int} (h:val E o=.int k n):a.eval x=.int k n:=by
 obtain⟨hid,Fs,Xs,R,hh⟩:=G;obtain⟨F,X,hr,_⟩:=bJ R ho;rw[h] at hr;generalize a.eval x=v at hr ⊢;cases hr with | int _ _ _ _ _ _ _=>rfl
theorem nQ (G:bC B hv w a E) {x:Operand} {o:O} (ho:OpdOk B.n x o) {b:Bool} (h:val E o=.bool b):a.eval x=.bool b:=by
 obtain⟨hid,Fs,Xs,R,hh⟩:=G;obtain⟨F,X,hr,_⟩:=bJ R ho;rw[h] at hr;generalize a.eval x=v at hr ⊢;cases hr with | bool _ _ _ _ _ _=>rfl
theorem oQ (G:bC B hv w a E) {x:Operand} {o:O} (ho:OpdOk B.n x o) {s:List UInt8} (h:val E o=.str s):a.eval x=cN s:=by
 obtain⟨hid,Fs,Xs,R,hh⟩:=G;obtain⟨F,X,hr,_⟩:=bJ R ho;rw[h] at hr;generalize a.eval x=v at hr ⊢;cases hr with | str _ _ _ _ _ _=>rfl
theorem ah2 {x:Operand} {o1:O} {d:Nat} {E':Env} (ho:OpdOk B.n x o1) (hd:d<B.n) (G:bC B hv w a E) (h:ev E (.mov d o1)=some E') :
  bC B hv w (a.put (some d) (a.eval x)) E':=by
 have G0:=G;obtain⟨hid,Fs,Xs,R,hh⟩:=G;cases ho with
 | const v y hc=>
  simp only[ev,Option.some.injEq] at h; subst h;obtain⟨XP',P'⟩:=PR.ofRel R (hc w _) (fun _=>rfl) (fun b hb=>absurd rfl hb);exact bG P' hh hd
 | func f=>
  simp only[ev,Option.some.injEq] at h; subst h;have hc:RepA w (aM w (aI a.tmps hid) E) (fun _=>0) (fun _=>0) [.func (.func f) #[] #[]] [.fn f []]:=
   .fn _ (fun _=>0) (fun _=>0) _ (fun _=>0) (fun _=>0) f [] [] [] [] RepA.znil RepA.znil (fun _=>rfl) (fun _=>rfl)
  obtain⟨XP',P'⟩:=PR.ofRel R hc (fun _=>rfl) (fun b hb=>absurd rfl hb);exact bG P' hh hd
 | tmp n hn=>
  have he:a.eval (.tmp n)=aI a.tmps hid n:=kZ (by rw[R.size]; exact hn);rw[he];simp only[ev] at h;split at h
  ·rename_i s es hq;split at h
   ·cases h
   ·cases h;have ay:aM w (aI a.tmps hid) E n (E.ep n).1 []=some (some (aI a.tmps hid n)):=by
     unfold aM; rw[if_neg D8,if_pos ⟨by simp[fX],by rw[hq]; rfl,by rw[hq]; rfl⟩]; rfl
    have hr:RepA w (aM w (aI a.tmps hid) E) (fun _=>0) (fun _=>0) [aI a.tmps hid n] [.lnk n (E.ep n).1 []]:=
     .lnk _ _ _ _ _ _ _ _ _ ay (fun u hu=>by cases hu; rfl) RepA.znil
    obtain⟨XP',P'⟩:=PR.ofRel R hr (fun _=>rfl) (fun b hb=>absurd rfl hb);exact bG P' hh hd
  ·rename_i cs hq;split at h
   ·cases h
   ·cases h;have ay:aM w (aI a.tmps hid) E n (E.ep n).1 []=some (some (aI a.tmps hid n)):=by
     unfold aM; rw[if_neg D8,if_pos ⟨by simp[fX],by rw[hq]; rfl,by rw[hq]; rfl⟩]; rfl
    have hb:∃ b,aI a.tmps hid n=.pointer (some ⟨b,0,none⟩):=by
     have aq:=R.rep n;rw[hq] at aq;generalize aI a.tmps hid n=v at aq;cases aq with
     | box _ F1 F2 _ X1 X2 b C ty fr _ _ _ hb hfr h1 h2 hF hX=>exact⟨b,rfl⟩
    obtain⟨b,hb⟩:=hb;have hr:RepA w (aM w (aI a.tmps hid) E) (fun _=>0) (fun _=>0) [aI a.tmps hid n] [.ref n (E.ep n).1 [] ⟨0,0,0⟩]:=by
     refine .ref _ _ _ _ _ _ _ _ _ _ ay (fun u hu=>?_) RepA.znil;cases hu;rw[hb];exact⟨⟨b,0,none⟩,rfl,by simp[Addr.add]⟩
    obtain⟨XP',P'⟩:=PR.ofRel R hr (fun _=>rfl) (fun b hb=>absurd rfl hb);exact bG P' hh hd
  ·split at h
   ·cases h;obtain⟨Fs',Xs',FP',XP',P'⟩:=(PR.nil R).move n;exact bG (by simpa using P') hh hd
   ·rename_i ax;cases h;obtain⟨XP',P'⟩:=PR.ofRel R (R.rep n) (fI (R.rep n) (by simpa [bV] using ax)) (fun b hb=>⟨n,hb⟩);exact bG P' hh hd
theorem aeR {x:Operand} {o1:O} {d:Nat} (ho:OpdOk B.n x o1) (hd:d<B.n) (G:bC B hv w a E):bC B hv w (a.put (some d) (a.eval x)) ((fK E o1).2.put d (fK E o1).1):=by
 obtain⟨hid,Fs,Xs,R,hh⟩:=G;obtain⟨Fs',Xs',FP',XP',P'⟩:=gG ho (PR.nil R);exact bG (by simpa using P') hh hd
theorem ah3 {x:Operand} {o1:O} {d:Nat} {E':Env} (ho:OpdOk B.n x o1) (hd:d<B.n) (G:bC B hv w a E) (h:ev E (.asg d o1)=some E') :
  bC B hv w (a.put (some d) (a.eval x)) E':=by
 simp only[ev] at h;split at h
 ·rename_i r e p s lo n hq;split at h
  ·cases hg:bN E (.sub r e p s lo n) with
   | none=>simp[hg] at h
   | some g=>
    simp[hg] at h; subst h;have ii:fK E o1=(.sub r e p s lo n,E):=by
     cases o1 with
     | t m=>simp only[val] at hq; simp[fK,hq,AV.owns]
     | c y=>simp only[val] at hq; simp[fK,hq]
    obtain⟨hid,Fs,Xs,R,hh⟩:=G;obtain⟨Fs',Xs',FP',XP',P'⟩:=dN (x':=g.1) (E':=g.2) ho (PR.nil R) (by unfold dR; rw[ii]; exact hg);exact bG (by simpa using P') hh hd
  ·cases h;have:=aeR ho hd G;have ii:fK E o1=(.sub r e p s lo n,E):=by
    cases o1 with
    | t m=>simp only[val] at hq; simp[fK,hq,AV.owns]
    | c y=>simp only[val] at hq; simp[fK,hq]
   rw[ii] at this; exact this
 ·cases h;exact aeR ho hd G
def AV.prim:AV->Option Value
 | .int k n=>some (.int k n)
 | .bool b=>some (.bool b)
 | .str s=>some (cN s)
 | _=>none
theorem aaN (G:bC B hv w a E) {d:Nat} (hd:d<B.n) {x:AV} {v:Value} (h:x.prim=some v):bC B hv w (a.put (some d) v) (E.put d x):=by
 cases x <;> simp[AV.prim] at h <;> subst h
 ·exact pH G hd _
 ·exact jI G hd _ _
 ·exact yY G hd _
theorem uC (l:List UInt8):(⟨l.toArray⟩:ByteArray).toList=l:=by rw[ByteArray.toList_eq]
theorem acR (l:List UInt8):(⟨l.toArray⟩:ByteArray).size=l.length:=by show l.toArray.size=_; simp
theorem ah4 (a b:List UInt8):(⟨a.toArray⟩:ByteArray)++⟨b.toArray⟩=⟨(a++b).toArray⟩:=by
 apply ByteArray.ext;simp[ByteArray.data_append]
theorem ak9 {op : BinOp} {k : IntKind} {m n : Int} {r : AV} (h : agd op k m n = some r) (hs : ahQ op = false) (t : TypeId) :
    ∃ v, r.prim = some v /\ (binOp op t (.int k m) (.int k n)).run P w = .ok v w := by
  cases op <;> simp only[agd, ahQ] at h hs <;> (try cases h) <;> (try cases hs) <;>
    first
    | exact⟨_, rfl, by simp[binOp, Op.intArith, Op.intBits, Op.intCmp, pure, Sem.run]⟩
    | (split at h
       · cases h
       · rename_i hz
         cases h;exact⟨_, rfl, by simp[binOp, Op.intDiv, hz, pure, Sem.run]⟩)
theorem anX {op:BinOp} {k k':IntKind} {m n:Int} {r:AV} (h:shI op k m n=some r) (t:TypeId) :
  ∃ v,r.prim=some v/\(binOp op t (.int k m) (.int k' n)).run P w=.ok v w:=by
 cases op <;> simp only[shI] at h <;> (try cases h)
 all_goals
  split at h
  ·cases h
  ·rename_i hz;cases h;exact⟨_,rfl,by simp[binOp,Op.shift,hz,pure,Sem.run]⟩
theorem ala {op:BinOp} {m n:List UInt8} {r:AV} (h:ann op m n=some r) (t:TypeId) :
  ∃ v,r.prim=some v/\(binOp op t (cN m) (cN n)).run P w=.ok v w:=by
 cases op <;> simp only[ann] at h <;> (try cases h)
 case add=>
  split at h
  ·rename_i hz;cases h;refine⟨_,rfl,?_⟩;have hm:IntKind.i64.max=9223372036854775807:=rfl;have:¬ (((m.length+n.length:Nat):Int)>IntKind.i64.max):=by rw[hm]; omega
   simp only[binOp,cN,Op.stringOp,acR,this,lN1,ah4];rfl
  ·cases h
 all_goals
  refine⟨_,rfl,?_⟩;simp only[binOp,cN,Op.stringOp,uC,strLt];rfl
theorem aaO {op:BinOp} {t u:TypeId} {x y:Operand} {o1 o2:O} {d:Nat} {E':Env} (ho:o.op=.binOp op t x y u) (hd:o.dst=some d) (aj:d<B.n)
  (hx:OpdOk B.n x o1) (hy:OpdOk B.n y o2) (G:bC B hv w a E) (h:ev E (.bin d op o1 o2)=some E'):o.wp P a w (fun a' w'=>bC B hv w' a' E') Q:=by
 simp only[ev] at h;cases hb:j4 op (val E o1) (val E o2) with
 | none=>simp[hb] at h
 | some r=>
  simp[hb] at h; subst h;have key:∃ v,r.prim=some v/\(do eqGuard op t x y (a.eval x) (a.eval y); binOp op t (a.eval x) (a.eval y):Sem Value).run P w=.ok v w:=by
   unfold j4 at hb;split at hb
   ·rename_i k m k' n e1 e2;have v1:=fZ G hx e1;have v2:=fZ G hy e2;rw[v1,v2];have hg:(eqGuard op t x y (.int k m) (.int k' n))=pure ():=by cases op <;> rfl
    rw[hg];show ∃ v,r.prim=some v/\(binOp op t (.int k m) (.int k' n)).run P w=.ok v w;by_cases lw:ahQ op=true
    ·simp only[lw,lQ] at hb; exact anX hb t
    ·simp only[lw] at hb;split at hb
     case isTrue=>simp_all
     split at hb
     ·rename_i hk; subst hk; exact ak9 hb (by simpa using lw) t
     ·cases hb
   ·rename_i m n e1 e2;have v1:=oQ G hx e1;have v2:=oQ G hy e2;rw[v1,v2];have hg:(eqGuard op t x y (cN m) (cN n))=pure ():=by cases op <;> rfl
    rw[hg];exact ala hb t
   ·cases hb
  obtain⟨v,hp,hr⟩:=key;refine bP (v:=v) ?_ hd (aaN G aj hp);simp only[execOp,ho,Sem.run_bind,hr,Result.andThen_ok,Sem.run_pure]
theorem aaP {t u:TypeId} {x y:Operand} {o1 o2:O} {d:Nat} {neg:Bool} {E':Env} (ho:o.op=.binOp (if neg then .neq else .eql) t x y u) (hd:o.dst=some d) (aj:d<B.n)
  (hx:OpdOk B.n x o1) (hy:OpdOk B.n y o2) (ht:P.underlying t=some .bool) (G:bC B hv w a E) (h:ev E (.beq d neg o1 o2)=some E'):o.wp P a w (fun a' w'=>bC B hv w' a' E') Q:=by
 simp only[ev] at h;split at h
 ·rename_i m n e1 e2;cases h;have v1:=nQ G hx e1;have v2:=nQ G hy e2;have ae:=run_equal_bool (P:=P) (w:=w) t m n ht;refine bP (v:=.bool (if neg then !(m == n) else (m == n))) ?_ hd (pH G aj _);have hg:(eqGuard (if neg then BinOp.neq else BinOp.eql) t x y (.bool m) (.bool n))=pure ():=by cases neg <;> rfl
  simp only[execOp,ho,v1,v2,hg];cases neg <;> simp[binOp,ae]
 ·cases h
theorem aaQ {t u e:TypeId} {x y:Operand} {o1 o2:O} {d:Nat} {neg:Bool} {E':Env} (ho:o.op=.binOp (if neg then .neq else .eql) t x y u) (hd:o.dst=some d) (aj:d<B.n)
  (hx:OpdOk B.n x o1) (hy:OpdOk B.n y o2) (ht:P.underlying t=some (.slice e)) (G:bC B hv w a E) (h:ev E (.isn d neg o1 o2)=some E'):o.wp P a w (fun a' w'=>bC B hv w' a' E') Q:=by
 simp only[ev] at h;split at h
 case h_2=>cases h
 rename_i v s es s2 e1;split at h
 case h_2=>cases h
 rename_i ad l c;cases h;have v1:a.eval x=.slice ad l c:=by
  obtain⟨hid,Fs,Xs,R,hh⟩:=G;obtain⟨F,X,hr,_⟩:=bJ R hx;rw[e1] at hr;generalize a.eval x=v at hr ⊢;cases hr with | extv _ _ _ _ _ _ _ _ _ _ _ _=>rfl
 have v2:a.eval y=.slice none 0 0:=by
  cases hy with
  | const v z hc=>
   have hr:=hc w lk0;simp only[Act.eval];cases hr with
   | own _ F1 F2 _ _ _ _ _ _ h1 _ hF=>
    have h0:∀ b,F1 b=0:=fun b=>by have:=hF b; dsimp only at this; omega
    cases h1 with
    | own0=>rfl
    | own _ G1 G2 _ _ b off cap C ty fr cs _ _ hb hfr hcap hle ap hcs hc' h1' h' hF'=>
     have:=h0 b; rw[hF' b] at this; simp at this
 have ae:=run_equal_slice_nil (P:=P) (w:=w) t e ad l c ht;refine bP (v:=.bool (if neg then !ad.isNone else ad.isNone)) ?_ hd (pH G aj _);have hg:(eqGuard (if neg then BinOp.neq else BinOp.eql) t x y (.slice ad l c) (.slice none 0 0))=pure ():=by cases neg <;> rfl
 simp only[execOp,ho,v1,v2,hg];cases neg <;> simp[binOp,ae]
theorem anY {lk lk':Lk} {d:Nat}:∀ (fs:List Field) (ks:List Nat) (pre pre' us vs:List Value) (cs ds:List AV) (b:Bool) (F X F' X':aH),RepA w lk F X us cs->RepA w lk' F' X' vs ds ->
  kC P pre.length fs=some ks->pre'.length=pre.length->eqC ks cs ds=some b ->
  (Op.eqFields (d+1) (pre++us).toArray (pre'++vs).toArray fs).run P w=.ok b w:=by
 intro fs;induction fs with
 | nil=>
  intro ks pre pre' us vs cs ds b F X F' X' h1 h2 hk hl he;simp only[kC,Option.some.injEq] at hk; subst hk;cases cs <;> cases ds <;> simp[eqC] at he;subst he;rfl
 | cons f fs ih=>
  intro ks pre pre' us vs cs ds b F X F' X' h1 h2 hk hl he;simp only[kC] at hk;split at hk
  case isFalse=>cases hk
  rename_i hf;have step:∀ (k:Nat) (ks':List Nat) (u v:Value) (us' vs':List Value) (cs' ds':List AV) (r b':Bool),us=u::us'->vs=v::vs'->(∃ F X,RepA w lk F X us' cs')->(∃ F X,RepA w lk' F X vs' ds') ->
    kC P (pre.length+1) fs=some ks'->eqC ks' cs' ds'=some b'->(isAgg f.type).run P w=.ok false w ->
    (Op.equalIn (d+1) f.type u v).run P w=.ok r w->b=(r && b') ->
    (Op.eqFields (d+1) (pre++us).toArray (pre'++vs).toArray (f::fs)).run P w=.ok b w:=by
   intro k ks' u v us' vs' cs' ds' r b' e1 e2 r1 r2 hk' he' fq od hb;subst e1; subst e2;have p1:(part f.type (pre++u::us').toArray f.offset).run P w=.ok u w:=by
    unfold part; simp[fq,hf.2]
   have p2:(part f.type (pre'++v::vs').toArray f.offset).run P w=.ok v w:=by
    unfold part; simp[fq,hf.2,<-hl]
   simp only[Op.eqFields,lK hf.1,Sem.run_bind,p1,p2,Result.andThen_ok,od];obtain⟨_,_,r1⟩:=r1;obtain⟨_,_,r2⟩:=r2;cases r with
   | false=>simp[hb]
   | true=>
    have:=ih ks' (pre++[u]) (pre'++[v]) us' vs' cs' ds' b' _ _ _ _ r1 r2 (by simpa using hk') D5 he';simp only[Bool.not_true,lK4,lN1];rw[lM2,lM2] at this;simpa [hb] using this
  have agf:∀ dsc,P.underlying f.type=some dsc->(match dsc with | .struct _ | .array _ _=>False | _=>True)->(isAgg f.type).run P w=.ok false w:=by
   intro dsc hu hd;unfold isAgg; simp only[Sem.run_bind,run_underlying hu,Result.andThen_ok];cases dsc <;> simp_all
  split at hk
  ·rename_i kk hu;cases bd:kC P (pre.length+1) fs with
   | none=>simp[bd] at hk
   | some ks'=>
    simp[bd] at hk; subst hk;cases h1 <;> cases h2 <;> simp only[eqC,reduceCtorEq] at he;split at he
    case isFalse=>cases he
    rename_i dy; subst dy;obtain⟨b',hb',rfl⟩:=lS2.1 he;exact step 0 ks' _ _ _ _ _ _ _ b' rfl rfl ⟨_,_,by assumption⟩ ⟨_,_,by assumption⟩ bd hb' (agf _ hu trivial) (run_equalIn_int w d _ _ kk _ _ hu) rfl
  ·rename_i hu;cases bd:kC P (pre.length+1) fs with
   | none=>simp[bd] at hk
   | some ks'=>
    simp[bd] at hk; subst hk;cases h1 <;> cases h2 <;> simp only[eqC,reduceCtorEq] at he;obtain⟨b',hb',rfl⟩:=lS2.1 he;refine step 0 ks' _ _ _ _ _ _ _ b' rfl rfl ⟨_,_,by assumption⟩ ⟨_,_,by assumption⟩ bd hb' (agf _ hu trivial) (run_equalIn_string w d _ _ _ hu) ?_;rw[uC,uC]
  ·rename_i hu;cases bd:kC P (pre.length+1) fs with
   | none=>simp[bd] at hk
   | some ks'=>
    simp[bd] at hk; subst hk;cases h1 <;> cases h2 <;> simp only[eqC,reduceCtorEq] at he;obtain⟨b',hb',rfl⟩:=lS2.1 he;exact step 0 ks' _ _ _ _ _ _ _ b' rfl rfl ⟨_,_,by assumption⟩ ⟨_,_,by assumption⟩ bd hb' (agf _ hu trivial) (run_equalIn_bool w d _ _ _ hu) rfl
  ·cases hk
theorem aaR {t u:TypeId} {x y:Operand} {o1 o2:O} {d:Nat} {neg:Bool} {ks:List Nat} {fs:Array Field} {E':Env} (ho:o.op=.binOp (if neg then .neq else .eql) t x y u) (hd:o.dst=some d) (aj:d<B.n)
  (hx:OpdOk B.n x o1) (hy:OpdOk B.n y o2) (ht:P.underlying t=some (.struct fs)) (hk:kC P 0 fs.toList=some ks) (hg:P.eqGuardType P.depth t=false) (hs:P.stoodInHeld t=false)
  (G:bC B hv w a E) (h:ev E (.eqs d neg ks o1 o2)=some E'):o.wp P a w (fun a' w'=>bC B hv w' a' E') Q:=by
 simp only[ev] at h;split at h
 ·rename_i cs ds e1 e2;cases hq:eqC ks cs ds with
  | none=>simp[hq] at h
  | some r=>
   simp[hq] at h; subst h;have G0:=G;obtain⟨hid,Fs,Xs,R,hh⟩:=G;obtain⟨F,X,r1,_⟩:=bJ R hx;obtain⟨F',X',r2,_⟩:=bJ R hy;rw[e1] at r1;rw[e2] at r2;have q1:∃ us F X,a.eval x=.agg us.toArray/\RepA w (aM w (aI a.tmps hid) E) F X us cs:=by
    generalize a.eval x=z at r1 ⊢;cases r1 with | agg _ F1 _ _ X1 _ us _ _ _ g _ _ _=>exact⟨us,F1,X1,rfl,g⟩
   have q2:∃ us F X,a.eval y=.agg us.toArray/\RepA w (aM w (aI a.tmps hid) E) F X us ds:=by
    generalize a.eval y=z at r2 ⊢;cases r2 with | agg _ F1 _ _ X1 _ us _ _ _ g _ _ _=>exact⟨us,F1,X1,rfl,g⟩
   obtain⟨us,_,_,v1,g1⟩:=q1;obtain⟨vs,_,_,v2,g2⟩:=q2;have jn:P.fieldsOf t=fs:=by unfold Program.fieldsOf; rw[ht]
   have ae:(Op.equalIn 10000 t (.agg us.toArray) (.agg vs.toArray)).run P w=.ok r w:=by
    rw[run_equalIn_agg w 9999 t _ _ (by rw[jn]; exact ht) hs,jn];exact anY (d:=9998) fs.toList ks [] [] us vs cs ds r _ _ _ _ g1 g2 hk rfl hq
   refine bP (v:=.bool (if neg then !r else r)) ?_ hd (pH G0 aj _);have jo:=run_eqGuard_agg (P:=P) w (if neg then BinOp.neq else BinOp.eql) t x y us.toArray vs.toArray hg;simp only[execOp,ho,v1,v2,Sem.run_bind,jo,Result.andThen_ok,Sem.run_pure];cases neg with
   | false=>simp[run_eql_struct,ae]
   | true=>simp[run_neq_struct,ae]
 ·cases h
theorem alb {op:UnOp} {t:TypeId} {x:Operand} {o1:O} {d:Nat} {E':Env} (ho:o.op=.unOp op t x) (hd:o.dst=some d) (aj:d<B.n)
  (hx:OpdOk B.n x o1) (G:bC B hv w a E) (h:ev E (.un d op o1)=some E'):o.wp P a w (fun a' w'=>bC B hv w' a' E') Q:=by
 simp only[ev] at h;cases hb:unV op (val E o1) with
 | none=>simp[hb] at h
 | some r=>
  simp[hb] at h; subst h;have key:∃ v,r.prim=some v/\(Op.unary op (a.eval x)).run P w=.ok v w:=by
   unfold unV at hb;split at hb
   ·rename_i k n e1;cases hb;rw[fZ G hx e1];exact⟨_,rfl,by simp[Op.unary,Op.intArith]⟩
   ·rename_i k n e1;cases hb;rw[fZ G hx e1];refine⟨_,rfl,?_⟩;simp only[Op.unary,Op.intBits];rfl
   ·rename_i b e1;cases hb;rw[nQ G hx e1];exact⟨_,rfl,by simp[Op.unary]⟩
   ·cases hb
  obtain⟨v,hp,hr⟩:=key;refine bP (v:=v) ?_ hd (aaN G aj hp);simp only[execOp,ho,Sem.run_bind,hr,Result.andThen_ok,Sem.run_pure]
theorem agj {s t:TypeId} {k0 k:IntKind} {x:Operand} {o1:O} {d:Nat} {E':Env} (ho:o.op=.convert s t x) (hd:o.dst=some d) (aj:d<B.n)
  (hs:P.underlying s=some (.int k0)) (ht:P.underlying t=some (.int k)) (hx:OpdOk B.n x o1) (G:bC B hv w a E) (h:ev E (.conv d k o1)=some E'):o.wp P a w (fun a' w'=>bC B hv w' a' E') Q:=by
 simp only[ev] at h;split at h
 ·rename_i k1 n e1;cases h;refine bP (v:=.int k (k.wrap n)) ?_ hd (jI G aj _ _);rw[execOp,ho];simp only[fZ G hx e1,convert,Sem.run_bind,run_underlying hs,run_underlying ht,Result.andThen_ok,Conv.intToInt,Sem.run_pure]
 ·cases h
theorem ah5 {c x y:Operand} {oc o1 o2:O} {d:Nat} {E':Env} (ho:o.op=.pick c x y) (hd:o.dst=some d) (aj:d<B.n)
  (hc:OpdOk B.n c oc) (hx:OpdOk B.n x o1) (hy:OpdOk B.n y o2) (G:bC B hv w a E) (h:ev E (.pck d oc o1 o2)=some E'):o.wp P a w (fun a' w'=>bC B hv w' a' E') Q:=by
 simp only[ev] at h;split at h
 ·rename_i t e1;split at h
  ·cases h
  ·rename_i ax;cases h;have vc:=nQ G hc e1;simp only[lA5,not_or,Bool.not_eq_true] at ax;refine bP (v:=if t then a.eval x else a.eval y) ?_ hd (fF G aj ?_)
   ·rw[execOp,ho];simp only[vc,asBool,Sem.run_bind,Sem.run_pure,Result.andThen_ok]
   ·intro hid Fs Xs R;cases t with
    | true=>
     obtain⟨F,X,r,_,hX,_⟩:=bJ R hx;exact⟨F,X,r,fI r (by simpa [bV] using ax.1),hX⟩
    | false=>
     obtain⟨F,X,r,_,hX,_⟩:=bJ R hy;exact⟨F,X,r,fI r (by simpa [bV] using ax.2),hX⟩
 ·cases h
theorem ah6 {x y:Operand} {o1 o2:O} {d:Nat} {E':Env} {ts:Array TypeId} (ho:o.op=.call ⟨.builtin .max,#[x,y],ts⟩) (hd:o.dst=some d) (aj:d<B.n)
  (hx:OpdOk B.n x o1) (hy:OpdOk B.n y o2) (G:bC B hv w a E) (h:ev E (.mx d o1 o2)=some E'):o.wp P a w (fun a' w'=>bC B hv w' a' E') Q:=by
 simp only[ev] at h;split at h
 ·rename_i k m k' n e1 e2;cases h;refine bP (v:=.int k (if n>m then n else m)) ?_ hd (jI G aj _ _);rw[execOp,ho];simp[resolve,invoke,builtin,Builtin.max_,Builtin.max2,fZ G hx e1,fZ G hy e2]
 ·cases h
theorem ah7 {x y:Operand} {o1 o2:O} {d:Nat} {E':Env} {ts:Array TypeId} (ho:o.op=.call ⟨.builtin .min,#[x,y],ts⟩) (hd:o.dst=some d) (aj:d<B.n)
  (hx:OpdOk B.n x o1) (hy:OpdOk B.n y o2) (G:bC B hv w a E) (h:ev E (.mn d o1 o2)=some E'):o.wp P a w (fun a' w'=>bC B hv w' a' E') Q:=by
 simp only[ev] at h;split at h
 ·rename_i k m k' n e1 e2;cases h;refine bP (v:=.int k (if n<m then n else m)) ?_ hd (jI G aj _ _);rw[execOp,ho];simp[resolve,invoke,builtin,Builtin.min_,Builtin.min2,fZ G hx e1,fZ G hy e2]
 ·cases h
theorem yZ (R:Rel B hid w a E Fs Xs) {x:Operand} {o1:O} (hx:OpdOk B.n x o1) {s:Nat} {es:List (List TV)} (h:bB E (val E o1)=some (s,es)) :
  ∃ base cap,a.eval x=.slice base es.length cap/\∃ G cs,Row w false G cs es.flatten/\(∀ e ∈ es,e.length=s)/\(es≠[]->∃ ad,base=some ad/\(cs.length=es.length*s/\∀ k,k<cs.length->w.cell? (ad.add k)=cs[k]?)):=by
 obtain⟨F,X,r,_⟩:=bJ R hx;have of_row:∀ (v:Value) (G:aH) (es:List (List TV)),Row w false G [v] [.sl s es]->∃ base cap,v=.slice base es.length cap/\∃ G cs,Row w false G cs es.flatten/\(∀ e ∈ es,e.length=s)/\(es≠[]->∃ ad,base=some ad/\(cs.length=es.length*s/\∀ k,k<cs.length->w.cell? (ad.add k)=cs[k]?)):=by
  intro v G es hr;cases hr with
  | ext0 _ _ a' cap _ _ h=>exact⟨a',cap,rfl,fun _=>0,[],.nil _ _ (fun _=>rfl),by simp,fun h=>absurd rfl h⟩
  | ext _ F1 F2 _ _ ad cap cs _ _ hle ap hcs hc h1 h hF=>exact⟨some ad,cap,rfl,F1,cs,h1,ap,fun _=>⟨ad,rfl,hcs,hc⟩⟩
 have of_own:∀ (v:Value) (G:aH) (es:List (List TV)),Row w true G [v] [.sl s es]->∃ base cap,v=.slice base es.length cap/\∃ G cs,Row w false G cs es.flatten/\(∀ e ∈ es,e.length=s)/\(es≠[]->∃ ad,base=some ad/\(cs.length=es.length*s/\∀ k,k<cs.length->w.cell? (ad.add k)=cs[k]?)):=by
  intro v G es hr;obtain⟨G',g,_⟩:=hr.weak rfl;exact of_row v G' es g
 generalize a.eval x=v at r ⊢;have nodeC:∀ r e p q,aK E r e p=some q->∃ hd G,Row w true G [hd] [.sl q.1 q.2]/\aM w (aI a.tmps hid) E r e p=some (some hd):=by
  intro r e p q hn;obtain⟨s,es⟩:=q;obtain⟨he,af,hg⟩:=bR hn;obtain⟨hd,Fu,Fr,Xu,Xr,hF,hX,hu,ai,_⟩:=j7 p (R.rep r) hg;exact⟨hd,Fu,(RepA.to_row hu rfl).1,by unfold aM; rw[if_neg A7,if_pos ⟨he,af,by rw[hg]; rfl⟩,ai]⟩
 generalize val E o1=av at r h;cases av with
 | own s' es'=>
  simp only[bB,Option.some.injEq,Prod.mk.injEq] at h;obtain⟨rfl,rfl⟩:=h;exact of_own _ _ _ (RepA.to_row r rfl).1
 | ext s' es'=>
  simp only[bB,Option.some.injEq,Prod.mk.injEq] at h;obtain⟨rfl,rfl⟩:=h;cases r with | ext _ _ X1 _ _ _ _ _ _ h1 _ _=>exact of_row _ _ _ h1
 | extv v' s' es'=>
  simp only[bB,Option.some.injEq,Prod.mk.injEq] at h;obtain⟨rfl,rfl⟩:=h;cases r with | extv _ _ X1 _ _ _ _ _ _ h1 _ _=>exact of_row _ _ _ h1
 | lnk r0 e p=>
  simp only[bB] at h;obtain⟨hd,G,g,hl⟩:=nodeC r0 e p _ h;cases r with
  | lnk _ _ _ _ _ o _ _ _ ho hv _=>
   rw[hl] at ho; cases ho;rw[hv hd rfl]; exact of_own _ _ _ g
 | sub r0 e p s' lo n=>
  simp only[bB] at h;cases hn:aK E r0 e p with
  | none=>simp[hn] at h
  | some q=>
   simp[hn] at h;obtain⟨⟨hs,hle⟩,rfl,rfl⟩:=h;obtain⟨hd,G,g,hl⟩:=nodeC r0 e p _ hn;cases r with
   | sub _ _ _ _ _ _ _ _ o _ _ _ ho hv _=>
    rw[hl] at ho; cases ho;obtain⟨base,len,cap,a',e1,e2,e3,e4⟩:=hv hd rfl;rw[hs] at g;obtain⟨G',g',_⟩:=Row.cut g lo n hle a' base len cap e1 e4;rw[e2];exact of_own _ _ _ g'
 | _=>simp[bB] at h
theorem agk {x:Operand} {o1:O} {d:Nat} {E':Env} {ts:Array TypeId} {t:TypeId} (h0:ts[0]?=some t) (ho:o.op=.call ⟨.builtin .len,#[x],ts⟩) (hd:o.dst=some d) (aj:d<B.n)
  (hu:P.underlying t=some .string) (hx:OpdOk B.n x o1) (G:bC B hv w a E) (h:ev E (.lens d o1)=some E'):o.wp P a w (fun a' w'=>bC B hv w' a' E') Q:=by
 simp only[ev] at h;split at h
 ·rename_i s e1;cases h;refine bP (v:=.int .i64 s.length) ?_ hd (jI G aj _ _);rw[execOp,ho];simp[resolve,invoke,builtin,Builtin.len_,oQ G hx e1,h0,run_underlying hu,cN,goInt];rfl
 ·cases h
theorem ah8 {x:Operand} {o1:O} {d:Nat} {E':Env} {ts:Array TypeId} {t el:TypeId} (h0:ts[0]?=some t) (ho:o.op=.call ⟨.builtin .len,#[x],ts⟩) (hd:o.dst=some d) (aj:d<B.n)
  (hu:P.underlying t=some (.slice el)) (hx:OpdOk B.n x o1) (G:bC B hv w a E) (h:ev E (.len d o1)=some E'):o.wp P a w (fun a' w'=>bC B hv w' a' E') Q:=by
 simp only[ev] at h;cases hr:bB E (val E o1) with
 | none=>simp[hr] at h
 | some q=>
  obtain⟨s,es⟩:=q;simp[hr] at h; subst h;have G0:=G;obtain⟨hid,Fs,Xs,R,hh⟩:=G;obtain⟨base,cap,au,_⟩:=yZ R hx hr;refine bP (v:=.int .i64 es.length) ?_ hd (jI G0 aj _ _);rw[execOp,ho];simp[resolve,invoke,builtin,Builtin.len_,au,h0,run_underlying hu,goInt]
theorem ald {t:TypeId} {i:TypeInfo} (h:P.info? t=some i):(typeInfo t).run P w=.ok i w:=by
 unfold typeInfo; simp[h]
theorem jJ {t:TypeId} {s:Nat} (h:oC P t=some s):(sizeOf t).run P w=.ok s w:=by
 unfold oC at h;cases hi:P.info? t with
 | none=>simp[hi] at h
 | some i=>simp[hi] at h; unfold sizeOf; simp[ald hi,h]
theorem ano {lo:Bool} {F:aH} {cs:List Value} {s:Nat} {es:List (List TV)} (h:Row w lo F cs es.flatten) (ap:∀ e ∈ es,e.length=s) {i:Nat} {row:List TV} (hi:es[i]?=some row) :
  ∃ G,Row w lo G ((cs.drop (i*s)).take s) row/\∀ b,G b<=F b:=by
 have aa:i<es.length:=(lG.1 hi).1;have ak:row.length=s:=ap row (lE3 hi);have di:es=es.take i++row::es.drop (i+1):=by
  have:=(lG.1 hi).2;rw[<-this]; simp
 have bk:cs.length=es.length*s:=by rw[h.length,bS _ ap]
 have hm:i*s+s<=cs.length:=by rw[bk,<-lI4]; exact lJ1 _ aa
 have hf:es.flatten=(es.take i).flatten++(row++(es.drop (i+1)).flatten):=by
  conv=>lhs; rw[di]
  simp
 have h':Row w lo F (cs.take (i*s)++((cs.drop (i*s)).take s++cs.drop (i*s+s))) ((es.take i).flatten++(row++(es.drop (i+1)).flatten)):=by
  rw[<-hf];have:cs.take (i*s)++((cs.drop (i*s)).take s++cs.drop (i*s+s))=cs:=by rw[<-lA2,lJ,lJ]
  rw[this]; exact h
 obtain⟨G1,G2,g1,g2,e1⟩:=Row.split _ _ (by rw[bS _ (fun e he=>ap e (lY1 he)),lH,lH,lB1 A7,lB1 A7]) h';obtain⟨G3,G4,g3,g4,e2⟩:=Row.split _ _ (by rw[lH,lK1,ak,lB1 A7]) g2;exact⟨G3,g3,fun b=>by have:=e1 b; have:=e2 b; omega⟩
theorem i6 (a:Addr) (x y:Nat):(a.add x).add y=a.add (x+y):=by
 unfold Addr.add;by_cases hx:x=0
 ·simp[hx]
 ·by_cases hy:y=0
  ·simp[hx,hy]
  ·simp[hx,hy]; omega
theorem pI {lk:Lk} {F:aH} {v:Value} {s:Nat} {es:List (List TV)} (h:Row w false F [v] [.sl s es]) {i:Nat} {row:List TV} (hi:es[i]?=some row) :
  ∃ ad cap X,v=.slice (some ad) es.length cap/\RepA w lk (fun _=>0) X [.pointer (some (ad.add (i*s)))] [.xbox row]/\∀ b,X b<=F b:=by
 cases h with
 | ext0=>simp at hi
 | ext _ F1 F2 _ _ ad cap cs _ _ hle ap hcs hc h1 h hF=>
  obtain⟨G,g,hG⟩:=ano h1 ap hi;have aa:i<es.length:=(lG.1 hi).1;have hm:i*s+s<=cs.length:=by rw[hcs,<-lI4]; exact lJ1 _ aa
  refine⟨ad,cap,fun x=>(if x=ad.block then 1 else 0)+G x,rfl,.xbox _ _ G (fun _=>0) (ad.add (i*s)) ((cs.drop (i*s)).take s) row [] [] ?_ g RepA.znil (fun x=>by rw[i3]; simp),?_⟩
  ·intro k hk;simp only[lH,lK1] at hk;rw[i6,hc (i*s+k) A7,lT,lY];rw[lK A7]
  ·intro b; have:=hG b; have:=hF b; (try dsimp only); omega
theorem g6 (R:Rel B hid w a E Fs Xs) {r e:Nat} {p:bA} {s:Nat} {es:List (List TV)} (hn:aK E r e p=some (s,es)) :
  ∃ hd G,Row w true G [hd] [.sl s es]/\aM w (aI a.tmps hid) E r e p=some (some hd):=by
 obtain⟨he,af,hg⟩:=bR hn;obtain⟨hd,Fu,Fr,Xu,Xr,hF,hX,hu,ai,_⟩:=j7 p (R.rep r) hg;exact⟨hd,Fu,(RepA.to_row hu rfl).1,by unfold aM; rw[if_neg A7,if_pos ⟨he,af,by rw[hg]; rfl⟩,ai]⟩
theorem tJ {G:aH} {hd:Value} {s:Nat} {es:List (List TV)} (h:Row w true G [hd] [.sl s es]) (am:0<es.length):∃ ad cap,hd=.slice (some ad) es.length cap:=by
 rcases Row.sl_inv h with ⟨_,rfl,_⟩ | ⟨F1,b,off,cap,C,ty,fr,cs,au,_⟩
 ·simp at am
 ·exact⟨_,_,au⟩
theorem ah9 {t el:TypeId} {x y:Operand} {o1 o2:O} {d s:Nat} {E':Env} (ho:o.op=.indexAddr t x y) (hd:o.dst=some d) (aj:d<B.n)
  (hu:P.underlying t=some (.slice el)) (ar:oC P el=some s) (hx:OpdOk B.n x o1) (hy:OpdOk B.n y o2) (G:bC B hv w a E) (h:ev E (.idx d o1 o2 s)=some E') :
  o.wp P a w (fun a' w'=>bC B hv w' a' E') Q:=by
 simp only[ev] at h;split at h
 case h_2=>cases h
 rename_i kk n e2;have v2:=fZ G hy e2;have G0:=G;have fin:∀ (ad:Addr) (len cap:Nat) (m:Nat) (x':AV),a.eval x=.slice (some ad) len cap->0<=n/\n<len->n.toNat=m->E'=E.put d x' ->
   (∀ hid Fs Xs,Rel B hid w a E Fs Xs->∃ F X,RepA w (aM w (aI a.tmps hid) E) F X [.pointer (some (ad.add (m*s)))] [x']/\(∀ b,F b=0)/\∀ b,X b≠0->∃ t,Xs t b≠0) ->
   o.wp P a w (fun a' w'=>bC B hv w' a' E') Q:=by
  intro ad len cap m x' e1 hb hm hE hr;subst hE; subst hm;refine bP (v:=.pointer (some (ad.add (n.toNat*s)))) ?_ hd (fF G0 aj hr);rw[execOp,ho];simp only[v2,e1,Instr.indexAt,asIntOf,Sem.run_bind,Sem.run_pure,Result.andThen_ok,run_underlying hu,jJ ar];rw[lK hb];simp[jJ ar]
 obtain⟨hid,Fs,Xs,R,hh⟩:=G;obtain⟨F,X,r,_,hX,_⟩:=bJ R hx;split at h
 ·rename_i s' es e1;split at h
  case isFalse=>cases h
  rename_i hc;obtain⟨rfl,hb⟩:=hc;cases hi:es[n.toNat]? with
  | none=>simp[hi] at h
  | some row=>
   simp[hi] at h;rw[e1] at r;generalize az:a.eval x=v at r;cases r with
   | ext _ _ X1 X2 _ _ _ _ _ h1 hh2 eu=>
    obtain⟨ad,cap,X',e3,_,hX'⟩:=pI (lk:=lk0) h1 hi;refine fin ad es.length cap n.toNat (.xbox row) (az.trans e3) hb rfl h.symm ?_;intro hid' Fs' Xs' R';obtain⟨F',X',r',_,hX',_⟩:=bJ R' hx;rw[e1,az] at r';cases r' with
    | ext _ _ Y1 Y2 _ _ _ _ _ k1 kh2 kXX=>
     obtain⟨ad',cap',X'',e3',g,hX''⟩:=pI (lk:=aM w (aI a.tmps hid') E) k1 hi;rw[e3] at e3'; cases e3';exact⟨_,_,g,fun _=>rfl,fun b hb=>hX' b (by have:=hX'' b; have:=kXX b; omega)⟩
 ·rename_i v0 s' es e1;split at h
  case isFalse=>cases h
  rename_i hc;obtain⟨rfl,hb⟩:=hc;cases hi:es[n.toNat]? with
  | none=>simp[hi] at h
  | some row=>
   simp[hi] at h;rw[e1] at r;generalize az:a.eval x=v at r;cases r with
   | extv _ _ X1 X2 _ _ _ _ _ h1 hh2 eu=>
    obtain⟨ad,cap,X',e3,_,hX'⟩:=pI (lk:=lk0) h1 hi;refine fin ad es.length cap n.toNat (.xbox row) (az.trans e3) hb rfl h.symm ?_;intro hid' Fs' Xs' R';obtain⟨F',X',r',_,hX',_⟩:=bJ R' hx;rw[e1,az] at r';cases r' with
    | extv _ _ Y1 Y2 _ _ _ _ _ k1 kh2 kXX=>
     obtain⟨ad',cap',X'',e3',g,hX''⟩:=pI (lk:=aM w (aI a.tmps hid') E) k1 hi;rw[e3] at e3'; cases e3';exact⟨_,_,g,fun _=>rfl,fun b hb=>hX' b (by have:=hX'' b; have:=kXX b; omega)⟩
 ·rename_i r0 e p e1;cases hn:aK E r0 e p with
  | none=>simp[hn] at h
  | some q=>
   obtain⟨s',es⟩:=q;simp[hn] at h;obtain⟨⟨hs',hb⟩,hE⟩:=h;subst hs';obtain⟨gd,G1,g1,hl⟩:=g6 R hn;obtain⟨ad,cap,e3⟩:=tJ g1 A7;rw[e1] at r;have az:a.eval x=gd:=by
    generalize a.eval x=v at r;cases r with | lnk _ _ _ _ _ o _ _ _ ho' hv' _=>rw[hl] at ho'; cases ho'; exact hv' gd rfl
   refine fin ad es.length cap n.toNat _ (az.trans e3) hb rfl hE.symm ?_;intro hid' Fs' Xs' R';obtain⟨hd2,G2,g2,gw⟩:=g6 R' hn;have:hd2=gd:=by
    obtain⟨F',X',r',_,hX',_⟩:=bJ R' hx;rw[e1,az] at r';cases r' with | lnk _ _ _ _ _ o _ _ _ ho' hv' _=>rw[gw] at ho'; cases ho'; exact(hv' hd2 rfl).symm
   subst this;exact⟨fun _=>0,fun _=>0,.ref _ _ _ _ _ ⟨n.toNat,s',0⟩ _ _ _ _ gw (fun u hu=>by cases hu; exact⟨ad,by rw[e3]; rfl,rfl⟩) RepA.znil,fun _=>rfl,fun b hb=>absurd rfl hb⟩
 ·rename_i r0 e p s' lo m e1;cases hn:aK E r0 e p with
  | none=>simp[hn] at h
  | some q=>
   obtain⟨s2,es⟩:=q;simp[hn] at h;obtain⟨⟨ew,hs',hb0,ft,hle⟩,hE⟩:=h;subst ew; subst hs';obtain⟨gd,G1,g1,hl⟩:=g6 R hn;obtain⟨ad,cap,e3⟩:=tJ g1 A7;rw[e1] at r;have hcap:es.length<=cap:=by
    rcases Row.sl_inv g1 with ⟨q1,_,_⟩ | ⟨F1,b,off,cap',C,ty,fr,cs,au,_,_,_,hle',_⟩
    ·rw[e3] at q1; cases q1
    ·rw[e3] at au; cases au; exact hle'
   have az:a.eval x=.slice (some (ad.add (lo*s'))) m (cap-lo):=by
    generalize a.eval x=v at r;cases r with
    | sub _ _ _ _ _ _ _ _ o _ _ _ ho' hv' _=>
     rw[hl] at ho'; cases ho';obtain⟨base,len,cap',a',q1,q2,q3,q4⟩:=hv' gd rfl;rw[e3] at q1; cases q1;rcases q4 with rfl | ⟨q5,_⟩
     ·rw[q2]; rfl
     ·omega
   refine fin (ad.add (lo*s')) m (cap-lo) n.toNat _ az ⟨hb0,ft⟩ rfl hE.symm ?_;intro hid' Fs' Xs' R';obtain⟨hd2,G2,g2,gw⟩:=g6 R' hn;obtain⟨ad2,cap2,e32⟩:=tJ g2 A7;obtain⟨F',X',r',_,hX',_⟩:=bJ R' hx;rw[e1,az] at r';have:(ad2.add (lo*s'))=ad.add (lo*s'):=by
    cases r' with
    | sub _ _ _ _ _ _ _ _ o _ _ _ ho' hv' _=>
     rw[gw] at ho'; cases ho';obtain⟨base,len,cap',a',q1,q2,q3,q4⟩:=hv' hd2 rfl;rw[e32] at q1; cases q1;have q2:=(Value.slice.inj q2).1;rcases q4 with q4 | ⟨q5,_⟩
     ·rw[<-q2] at q4; simp at q4; exact q4.symm
     ·have kh:es.length<=cap2:=by
       rcases Row.sl_inv g2 with ⟨q1,_,_⟩ | ⟨F1,b,off,cap',C,ty,fr,cs,au,_,_,_,hle',_⟩
       ·rw[e32] at q1; cases q1
       ·rw[e32] at au; cases au; exact hle'
      omega
   refine⟨fun _=>0,fun _=>0,?_,fun _=>rfl,fun b hb=>absurd rfl hb⟩;have ig:(ad.add (lo*s')).add (n.toNat*s')=ad2.add ((lo+n.toNat)*s' + 0):=by
    rw[<-this,i6]; congr 1; rw[lH2]; rfl
   rw[ig];exact .ref _ _ _ _ _ ⟨lo+n.toNat,s',0⟩ _ _ _ _ gw (fun u hu=>by cases hu; exact⟨ad2,by rw[e32]; rfl,rfl⟩) RepA.znil
 ·rename_i s' es e1;cases o1 with
  | c y=>cases h
  | t m=>
   dsimp only at h;split at h
   case isFalse=>cases h
   rename_i hc;obtain⟨rfl,hmd,hb⟩:=hc;simp only[Option.some.injEq] at h;simp only[val] at e1;have ay:∀ hid',aM w (aI a.tmps hid') E m (E.ep m).1 []=some (some (aI a.tmps hid' m)):=by
    intro hid';unfold aM; rw[if_neg D8,if_pos ⟨by simp[fX],by rw[e1]; rfl,by rw[e1]; rfl⟩]; rfl
   have hm:∀ hid',a.eval x=aI a.tmps hid' m:=by
    intro hid';cases hx with | tmp _ ht=>exact kZ (by rw[R.size]; exact ht)
   simp only[val,e1] at r;rw[hm hid] at r;obtain⟨ad,cap,e3⟩:=tJ (RepA.to_row r rfl).1 A7;refine fin ad es.length cap n.toNat _ ((hm hid).trans e3) hb rfl h.symm ?_;intro hid' Fs' Xs' R';have hh2:hdr (aI a.tmps hid' m)=some ad:=by rw[<-hm hid',hm hid,e3]; rfl
   refine⟨fun _=>0,fun _=>0,.ref _ _ _ _ _ ⟨n.toNat,s',0⟩ _ _ _ _ (ay hid') (fun u hu=>by have:=Option.some.inj hu; subst this; exact⟨ad,hh2,rfl⟩) RepA.znil,fun _=>rfl,fun b hb=>absurd rfl hb⟩
 ·cases h
theorem aaS {t:TypeId} {g:Bool} (h:ak7 P t=some g):(isAgg t).run P w=.ok g w:=by
 unfold ak7 at h;cases hu:P.underlying t with
 | none=>simp[hu] at h
 | some d=>
  simp only[hu,lD,Option.some.injEq] at h;unfold isAgg;simp only[Sem.run_bind,run_underlying hu,Result.andThen_ok];cases d <;> simp_all
theorem aia (R:Rel B hid w a E Fs Xs) {r e:Nat} {p:bA} (h:vld E r e p=true):∃ u,aM w (aI a.tmps hid) E r e p=some (some u):=by
 unfold vld at h;simp only[lM,beq_iff_eq,lI2] at h;obtain⟨⟨he,hr⟩,x,hg⟩:=h;obtain⟨hd,Fu,Fr,Xu,Xr,hF,hX,hu,ai,_⟩:=j7 p (R.rep r) hg;exact⟨hd,by unfold aM; rw[if_neg A7,if_pos ⟨he,hr,by rw[hg]; rfl⟩,ai]⟩
theorem aib {t:TypeId} {fs:Array Field} {f s:Nat} {g:Field} {x:Operand} {o1:O} {d:Nat} {E':Env} (ho:o.op=.fieldAddr t x f) (hd:o.dst=some d) (aj:d<B.n)
  (hu:P.underlying t=some (.struct fs)) (hf:fs[f]?=some g) (hs:oC P g.type=some s) (ij:s≠0) (hx:OpdOk B.n x o1) (G:bC B hv w a E) (h:ev E (.fld d o1 g.offset)=some E') :
  o.wp P a w (fun a' w'=>bC B hv w' a' E') Q:=by
 simp only[ev] at h;have fin:∀ (ad:Addr) (x':AV),a.eval x=.pointer (some ad)->E'=E.put d x' ->
   (∀ hid Fs Xs,Rel B hid w a E Fs Xs->∃ F X,RepA w (aM w (aI a.tmps hid) E) F X [.pointer (some (ad.add g.offset))] [x']/\(∀ b,F b=0)/\∀ b,X b≠0->∃ t,Xs t b≠0) ->
   o.wp P a w (fun a' w'=>bC B hv w' a' E') Q:=by
  intro ad x' e1 hE hr;subst hE;refine bP (v:=.pointer (some (ad.add g.offset))) ?_ hd (fF G aj hr);rw[execOp,ho];simp only[e1,Instr.fieldAt,Instr.sureAddr,fieldPlace,Sem.run_bind,Sem.run_pure,Result.andThen_ok,run_underlying hu,hf,jJ hs,ij,lN1]
 have G0:=G;obtain⟨hid,Fs,Xs,R,hh⟩:=G;obtain⟨F,X,r,_,hX,_⟩:=bJ R hx;split at h
 ·rename_i cs e1;split at h
  case isFalse=>cases h
  rename_i hle;cases h;rw[e1] at r;have:∃ ad,a.eval x=.pointer (some ad):=by
   generalize a.eval x=v at r;cases r with | xbox _ _ _ _ ad _ _ _ _ _ _ _ _=>exact⟨ad,rfl⟩
  obtain⟨ad,az⟩:=this;refine fin ad _ az rfl ?_;intro hid' Fs' Xs' R';obtain⟨F',X',r',_,hX',_⟩:=bJ R' hx;rw[e1,az] at r';cases r' with
  | xbox _ _ X1 X2 _ us _ _ _ hc h1 h2 eu=>
   have hl:=h1.length;have:Row w false X1 (us.take g.offset++us.drop g.offset) (cs.take g.offset++cs.drop g.offset):=by rw[lJ,lJ]; exact h1
   obtain⟨A1,A2,q1,q2,e⟩:=Row.split _ _ D5 this;refine⟨fun _=>0,fun x=>(if x=ad.block then 1 else 0)+A2 x,.xbox _ _ A2 (fun _=>0) (ad.add g.offset) (us.drop g.offset) (cs.drop g.offset) [] [] ?_ q2 RepA.znil (fun x=>by rw[i3]; simp),fun _=>rfl,?_⟩
   ·intro k hk;simp at hk;rw[i6,hc _ A7,lY]
   ·intro b hb;refine hX' b ?_;have:=eu b; have:=e b
    (try dsimp only at hb); omega
 ·rename_i r0 e p st e1;split at h
  case isFalse=>cases h
  rename_i bu;cases h;rw[e1] at r;obtain⟨u,hu⟩:=aia R bu;generalize az:a.eval x=v at r;cases r with
  | ref _ _ _ _ _ _ oo _ _ _ ge au _=>
   rw[hu] at ge; cases ge;obtain⟨ad,q1,q2⟩:=au u rfl;refine fin _ _ (az.trans q2) rfl ?_;intro hid' Fs' Xs' R';obtain⟨F',X',r',_,hX',_⟩:=bJ R' hx;rw[e1,az] at r';cases r' with
   | ref _ _ _ _ _ _ oo' _ _ _ ek dg _=>
    refine⟨fun _=>0,fun _=>0,.ref _ _ _ _ _ ⟨st.i,st.s,st.j+g.offset⟩ oo' _ _ _ ek ?_ RepA.znil,fun _=>rfl,fun b hb=>absurd rfl hb⟩;intro u' hu';obtain⟨ad',q1',q2'⟩:=dg u' hu';refine⟨ad',q1',?_⟩;rw[q2] at q2';have:=Option.some.inj (Value.pointer.inj q2');rw[this,i6,lQ1]
 ·cases h
theorem aic {x:Operand} {o1:O} {d:Nat} {E':Env} (ho:o.op=.nilCheck x) (hd:o.dst=some d) (aj:d<B.n)
  (hx:OpdOk B.n x o1) (G:bC B hv w a E) (h:ev E (.nck d o1)=some E'):o.wp P a w (fun a' w'=>bC B hv w' a' E') Q:=by
 simp only[ev] at h;have fin:∀ (ad:Addr),a.eval x=.pointer (some ad)->(val E o1).owns=false->E'=E.put d (val E o1)->o.wp P a w (fun a' w'=>bC B hv w' a' E') Q:=by
  intro ad e1 ax hE;subst hE;refine bP (v:=.pointer (some ad)) ?_ hd (fF G aj ?_)
  ·rw[execOp,ho]; simp only[e1]; rfl
  ·intro hid' Fs' Xs' R';obtain⟨F',X',r',_,hX',_⟩:=bJ R' hx;rw[e1] at r';exact⟨F',X',r',fI r' (by simpa [bV] using ax),hX'⟩
 have G0:=G;obtain⟨hid,Fs,Xs,R,hh⟩:=G;obtain⟨F,X,r,_,hX,_⟩:=bJ R hx;split at h
 ·rename_i r0 e p st e1;split at h
  case isFalse=>cases h
  rename_i bu;cases h;obtain⟨u,hu⟩:=aia R bu;have:∃ ad,a.eval x=.pointer (some ad):=by
   rw[e1] at r;generalize a.eval x=v at r;cases r with
   | ref _ _ _ _ _ _ oo _ _ _ ge au _=>
    rw[hu] at ge; cases ge;obtain⟨ad,q1,q2⟩:=au u rfl;exact⟨_,q2⟩
  obtain⟨ad,az⟩:=this;exact fin ad az (by rw[e1]; rfl) (by rw[e1])
 ·rename_i cs e1;cases h;have:∃ ad,a.eval x=.pointer (some ad):=by
   rw[e1] at r;generalize a.eval x=v at r;cases r with | xbox _ _ _ _ ad _ _ _ _ _ _ _ _=>exact⟨ad,rfl⟩
  obtain⟨ad,az⟩:=this;exact fin ad az (by rw[e1]; rfl) (by rw[e1])
 ·rename_i f cs e1;split at h
  ·cases h
  ·rename_i ax;cases h;have:∃ us:List Value,a.eval x=.func (.func f) #[] us.toArray:=by
    rw[e1] at r;generalize a.eval x=v at r;cases r with | fn _ _ _ _ _ _ _ us _ _ _ _ _ _ _=>exact⟨us,rfl⟩
   obtain⟨us,az⟩:=this;refine bP (v:=.func (.func f) #[] us.toArray) ?_ hd (fF G0 aj ?_)
   ·rw[execOp,ho]; simp only[az]; rfl
   ·intro hid' Fs' Xs' R';obtain⟨F',X',r',_,hX',_⟩:=bJ R' hx;rw[e1,az] at r';exact⟨F',X',r',fI r' (by simpa [bV,AV.owns] using ax),hX'⟩
 ·cases h
theorem RepA.part {lk:Lk} {F X:aH} {us:List Value} {cs:List AV} (h:RepA w lk F X us cs) (i n:Nat) :
  ∃ G Y,RepA w lk G Y ((us.drop i).take n) ((cs.drop i).take n)/\(∀ b,G b<=F b)/\∀ b,Y b<=X b:=by
 have hl:=h.length;have h1:RepA w lk F X (us.take i++us.drop i) (cs.take i++cs.drop i):=by rw[lJ,lJ]; exact h
 obtain⟨A1,A2,Y1,Y2,q1,q2,e1,e2⟩:=RepA.split _ _ D5 h1;have h2:RepA w lk A2 Y2 ((us.drop i).take n++(us.drop i).drop n) ((cs.drop i).take n++(cs.drop i).drop n):=by rw[lJ,lJ]; exact q2
 obtain⟨A3,A4,Y3,Y4,q3,q4,e3,e4⟩:=RepA.split _ _ D5 h2;exact⟨A3,Y3,q3,fun b=>by have:=e1 b; have:=e3 b; omega,fun b=>by have:=e2 b; have:=e4 b; omega⟩
theorem RepA.oneOf {lk:Lk} {F X:aH} {us:List Value} {cs:List AV} {ag:Bool} {x:AV} (h:RepA w lk F X us cs) (ho:oneOf cs ag=some x) :
  ∃ v,RepA w lk F X [v] [x]/\(ag=true->v=.agg us.toArray)/\(ag=false->us=[v]):=by
 unfold Awp.oneOf at ho;split at ho
 ·rename_i fq;cases ho;exact⟨.agg us.toArray,.agg _ F (fun _=>0) _ X (fun _=>0) us cs [] [] h RepA.znil (fun x=>by simp) (fun x=>by simp),fun _=>rfl,fun e=>by simp_all⟩
 ·split at ho
  ·rename_i fq y;cases ho;have hl:=h.length
   match us,hl,h with
   | [v],_,h=>exact⟨v,h,fun e=>by simp_all,fun _=>rfl⟩
  ·cases ho
theorem agl {t:TypeId} {fs:Array Field} {f s:Nat} {g:Field} {ag:Bool} {x:Operand} {o1:O} {d:Nat} {E':Env} (ho:o.op=.field t x f) (hd:o.dst=some d) (aj:d<B.n)
  (hu:P.underlying t=some (.struct fs)) (hf:fs[f]?=some g) (hs:oC P g.type=some s) (fq:ak7 P g.type=some ag) (hx:OpdOk B.n x o1) (G:bC B hv w a E) (h:ev E (.fldv d o1 g.offset s ag)=some E') :
  o.wp P a w (fun a' w'=>bC B hv w' a' E') Q:=by
 simp only[ev] at h;obtain⟨hid,Fs,Xs,R,hh⟩:=G;obtain⟨Fs',Xs',FP',XP',P'⟩:=gG hx (PR.nil R);split at h
 case h_2=>cases h
 rename_i cs E1 e1;split at h
 case isFalse=>cases h
 rename_i hle;cases hq:oneOf ((cs.drop g.offset).take s) ag with
 | none=>simp[hq] at h
 | some y=>
  simp[hq] at h; subst h;simp only[e1,lI1] at P';obtain⟨zs,az,hz,hr⟩:=RepA.open_agg (us:=[]) (ys:=[]) (vs:=[]) (xs:=[]) rfl P'.rep;simp only[lI1,lX2] at hr;obtain⟨G1,Y1,hp,hG,hY⟩:=hr.part g.offset s;obtain⟨v,au,dg,hv3⟩:=hp.oneOf hq;have P2:PR B hid w a E1 Fs' Xs' G1 Y1 [v] [y]:=P'.shrink au hG hY;refine bP (v:=v) ?_ hd (bG P2 hh aj);rw[execOp,ho];simp only[az,Instr.field,Sem.run_bind,run_underlying hu,Result.andThen_ok,hf,asAgg,Sem.run_pure,part,aaS fq,jJ hs];cases ag with
  | true=>
   have:=dg rfl;subst this;simp[jJ hs]
  | false=>
   have jp:=hv3 rfl;have bq:zs[g.offset]?=some v:=by
    have:((zs.drop g.offset).take s)[0]?=some v:=by rw[jp]; rfl
    rw[lT] at this;split at this
    ·simpa using this
    ·cases this
   simp[bq]
theorem acS (p q:bA):∀ (t u:TV),jZ t p=some u->jZ t (p++q)=jZ u q:=by
 induction p with
 | nil=>intro t u h; simp[jZ] at h; subst h; rfl
 | cons st p ih=>
  intro t u h;cases t with
  | sl s es=>
   simp only[jZ,lD2] at h ⊢;split at h
   case isFalse=>cases h
   rename_i hs;simp only[hs,lQ];cases h1:es[st.i]? with
   | none=>simp[h1] at h
   | some row=>
    cases h2:row[st.j]? with
    | none=>simp[h1,h2] at h
    | some t1=>
     simp[h1,h2] at h ⊢;exact ih t1 u h
  | _=>simp[jZ] at h
theorem anZ (t:TV) (q:bA):b9 t.av q=(jZ t q).map TV.av:=by
 cases t <;> cases q <;> simp[TV.av,b9,jZ]
theorem acT (p q:bA):∀ (x u:AV),b9 x p=some u->b9 x (p++q)=b9 u q:=by
 induction p with
 | nil=>
  intro x u h;have e:∀ x:AV,b9 x []=some x:=fun x=>by cases x <;> rfl
  rw[e] at h; cases h; rfl
 | cons st p ih=>
  intro x u h;cases x with
  | own s es=>
   simp only[b9,lD2] at h ⊢;cases ht:jZ (.sl s es) (st::p) with
   | none=>simp[ht] at h
   | some t=>
    simp[ht] at h; subst h;have:=acS (st::p) q _ _ ht;rw[lD2] at this;rw[this,anZ]
  | box cs=>
   simp only[b9,lD2] at h ⊢;split at h
   case isFalse=>cases h
   rename_i hi;simp only[hi,lQ];cases hj:cs[st.j]? with
   | none=>simp[hj] at h
   | some c=>simp[hj] at h ⊢; exact ih c u h
  | _=>simp[b9] at h
theorem uD (p q:bA):∀ (v:Value),i4 w v (p++q)=(i4 w v p).bind (i4 w · q):=by
 induction p with
 | nil=>intro v; simp[i4]
 | cons st p ih=>
  intro v;rw[lD2];cases v with
  | slice b len cap=>cases b with
   | none=>rfl
   | some ad=>simp only[i4]; cases w.cell? (ad.add (st.i*st.s+st.j)) <;> simp[ih]
  | pointer b=>cases b with
   | none=>rfl
   | some ad=>simp only[i4]; cases w.cell? (ad.add (st.i*st.s+st.j)) <;> simp[ih]
  | _=>rfl
theorem apI {lk:Lk} {X:aH} {us:List Value} {cs:List TV} {lo:Bool} (h:Row w lo X us cs):lo=false->RepA w lk (fun _=>0) X us (cs.map TV.xv):=by
 induction h with
 | nil lo F h=>intro _; exact .nil _ _ (fun _=>rfl) h
 | undef lo F v vs ts h ih=>intro e; exact .undef _ _ _ _ _ (ih e)
 | bool lo F x vs ts h ih=>intro e; exact .bool _ _ _ _ _ (ih e)
 | int lo F k n vs ts h ih=>intro e; exact .int _ _ _ _ _ _ (ih e)
 | str lo F s vs ts h ih=>intro e; exact .str _ _ _ _ _ (ih e)
 | own0 F s vs ts h ih=>intro e; cases e
 | ext0 F s a' cap vs ts h ih=>intro e; exact .ext _ _ (fun _=>0) F s [] _ _ _ (.ext0 _ s a' cap [] [] (.nil _ _ (fun _=>rfl))) (ih e) (fun x=>by simp)
 | own F F1 F2 s es b off cap C ty fr cs vs ts hb hfr hcap hle ap hcs hc h1 h hF ih1 ih=>intro e; cases e
 | ext F F1 F2 s es ad cap cs vs ts hle ap hcs hc h1 h hF ih1 ih=>
  intro e;exact .ext _ _ (fun x=>(if x=ad.block then 1 else 0)+F1 x) F2 s es _ _ _ (.ext _ F1 (fun _=>0) s es ad cap cs [] [] hle ap hcs hc h1 (.nil _ _ (fun _=>rfl)) (fun x=>by simp)) (ih e) hF
theorem aid (R:Rel B hid w a E Fs Xs) {r e:Nat} {p:bA} {u c:AV} {st:St} {hd v:Value} (he:e=fX (E.ep r) p) (hr:(E.f r).isRoot=true) (hg:b9 (E.f r) p=some u)
  (hl:aM w (aI a.tmps hid) E r e p=some (some hd)) (hc:b9 u [st]=some c) (hv:i4 w hd [st]=some v) :
  aM w (aI a.tmps hid) E r (E.ep r).2 (p++[st])=some (some v):=by
 have am:(p++[st]).isEmpty=false:=by cases p <;> rfl
 have h1:b9 (E.f r) (p++[st])=some c:=by rw[acT p [st] _ _ hg,hc]
 have h2:i4 w (aI a.tmps hid r) p=some hd:=by
  unfold aM at hl;rw[lO A7,lK ⟨he,hr,by rw[hg]; rfl⟩] at hl;exact Option.some.inj hl
 unfold aM;have hcur:fX (E.ep r) (p++[st])=(E.ep r).2:=by unfold fX; rw[am]; rfl
 rw[hcur,lO A7,lK ⟨rfl,hr,by rw[h1]; rfl⟩,uD,h2];simp[hv]
theorem aie {lk:Lk} {r e:Nat} {p:bA}:∀ (cs:List AV) (j:Nat) (us:List Value) (F X:aH),RepA w lk F X us cs ->
  (∀ k v,us[k]?=some v->(∃ s es,cs[k]?=some (.own s es))->lk r e (p++[⟨0,0,j+k⟩])=some (some v))->bV (dM r e p j cs)=false ->
  ∃ G,RepA w lk G X us (dM r e p j cs):=by
 intro cs;induction cs with
 | nil=>
  intro j us F X h _ _;cases h with | nil _ _ hF hX=>exact⟨F,.nil _ _ hF hX⟩
 | cons c cs ih=>
  intro j us F X h hl ho;cases us with
  | nil=>have:=h.length; simp at this
  | cons u us=>
   obtain⟨F1,F2,X1,X2,h1,h2,eF,eX⟩:=h.uncons;have hl':∀ k v,us[k]?=some v->(∃ s es,cs[k]?=some (.own s es))->lk r e (p++[⟨0,0,j+1+k⟩])=some (some v):=by
    intro k v hk he;have:=hl (k+1) v (by simpa using hk) (by simpa using he);rw[show j+1+k=j+(k+1) by omega]; exact this
   cases c with
   | own s es=>
    simp only[dM,bV,AV.owns,lI5] at ho ⊢;obtain⟨G,g⟩:=ih (j+1) us F2 X2 h2 hl' ho;have oe:∀ b,X1 b=0:=(RepA.to_row h1 rfl).2;have hq:=hl 0 u A8 ⟨s,es,by simp⟩;exact⟨G,.lnk _ _ _ _ _ _ _ _ _ (by simpa using hq) (fun z hz=>by cases hz; rfl) (g.foot (fun b=>rfl) (fun b=>by rw[eX,oe]; omega))⟩
   | _=>
    simp only[dM,bV,lO4] at ho ⊢;obtain⟨G,g⟩:=ih (j+1) us F2 X2 h2 hl' ho.2;exact⟨_,RepA.cons h1 g (fun _=>rfl) eX⟩
theorem aif {lk:Lk} {r e i s:Nat} {p:bA}:∀ (ts:List TV) (j:Nat) (us:List Value) (F:aH),Row w true F us ts ->
  (∀ k v,us[k]?=some v->(∃ s' es,ts[k]?=some (.sl s' es))->lk r e (p++[⟨i,s,j+k⟩])=some (some v)) ->
  RepA w lk (fun _=>0) (fun _=>0) us (mS r e p i s j ts):=by
 intro ts;induction ts with
 | nil=>
  intro j us F h _;cases h with | nil _ _ hF=>exact RepA.znil
 | cons c cs ih=>
  intro j us F h hl;cases us with
  | nil=>have:=h.length; simp at this
  | cons u us=>
   obtain⟨F1,F2,h1,h2,eF⟩:=h.uncons;have g:=ih (j+1) us F2 h2 (by
    intro k v hk he;have:=hl (k+1) v (by simpa using hk) (by simpa using he);rw[show j+1+k=j+(k+1) by omega]; exact this)
   cases c with
   | sl s' es=>
    simp only[mS];have hq:=hl 0 u A8 ⟨s',es,by simp⟩;exact .lnk _ _ _ _ _ _ _ _ _ (by simpa using hq) (fun z hz=>by cases hz; rfl) g
   | undef=>exact .undef _ _ _ _ _ g
   | bool b=>cases h1 with | bool _ _ _ _ _ _=>exact .bool _ _ _ _ _ g
   | int k n=>cases h1 with | int _ _ _ _ _ _ _=>exact .int _ _ _ _ _ _ g
   | str z=>cases h1 with | str _ _ _ _ _ _=>exact .str _ _ _ _ _ g
theorem acU (R:Rel B hid w a E Fs Xs) {r e sz:Nat} {p:bA} {st:St} {cs:List AV} (h:jU E r e p st sz=some cs) :
  ∃ hd ad us X,aM w (aI a.tmps hid) E r e p=some (some hd)/\hdr hd=some ad/\us.length=sz/\(∀ k v,us[k]?=some v->w.cell? ((ad.add (st.i*st.s+st.j)).add k)=some v) /\
   (bV cs=false->∃ G,RepA w (aM w (aI a.tmps hid) E) G X us cs)/\∀ b,X b<=Xs r b:=by
 unfold jU at h;split at h
 case isFalse=>cases h
 rename_i he;split at h
 ·rename_i cs0 hr hg;split at h
  case isFalse=>cases h
  rename_i hle;cases h;obtain⟨hd,Fu,Fr,Xu,Xr,hF,hX,hu,ai,_⟩:=j7 p (R.rep r) hg;have hl:aM w (aI a.tmps hid) E r e p=some (some hd):=by unfold aM; rw[if_neg A7,if_pos ⟨he,hr,by rw[hg]; rfl⟩,ai]
  cases hu with
  | box _ F1 F2 _ X1 X2 b C ty fr _ _ _ hb hfr h1 h2 ki eu=>
   have ac:=h1.length;simp only[lD1] at ac;obtain⟨G,Y,hp,hG,hY⟩:=h1.part st.j sz;have al:∀ j v,C[j]?=some v->w.cell? ((⟨b,0,none⟩:Addr).add j)=some v:=by
    intro j v hj;unfold Addr.add;by_cases e0:j=0
    ·rw[e0] at hj; simp[e0,World.cell?,hb,hj]
    ·simp[e0,World.cell?,hb,hj]
   have jp:∀ k v,(((C.toList.drop st.j).take sz))[k]?=some v->C[st.j+k]?=some v:=by
    intro k v hk;rw[lT] at hk;split at hk
    ·simpa using hk
    ·cases hk
   refine⟨_,⟨b,0,none⟩,(C.toList.drop st.j).take sz,Y,hl,rfl,by simp; omega,?_,?_,fun x=>by have:=hY x; have:=hX x; have:=eu x; omega⟩
   ·intro k v hk;rw[i6,hle.1,lQ4,lL2];exact al _ _ (jp k v hk)
   ·intro ho;refine aie _ _ _ _ _ hp ?_ ho;intro k v hk ax;obtain⟨s,es,ax⟩:=ax;have bx:cs0[st.j+k]?=some (.own s es):=by
     rw[lT] at ax;split at ax
     ·simpa using ax
     ·cases ax
    refine aid R he hr hg hl (st:=⟨0,0,st.j+k⟩) (c:=.own s es) ?_ ?_
    ·simp[b9,bx]
    ·simp[i4,al _ _ (jp k v hk)]
 ·rename_i s es hr hg;split at h
  case isFalse=>cases h
  rename_i hs;cases hi:es[st.i]? with
  | none=>simp[hi] at h
  | some row=>
   simp[hi] at h;obtain⟨hle,rfl⟩:=h;obtain⟨hd,Fu,Fr,Xu,Xr,hF,hX,hu,ai,_⟩:=j7 p (R.rep r) hg;have hl:aM w (aI a.tmps hid) E r e p=some (some hd):=by unfold aM; rw[if_neg A7,if_pos ⟨he,hr,by rw[hg]; rfl⟩,ai]
   have ak:=(RepA.to_row hu rfl).1;have ls:st.i<es.length:=(lG.1 hi).1;rcases Row.sl_inv ak with ⟨_,rfl,_⟩ | ⟨F1,b,off,cap,C,ty,fr,us,au,hb,hfr,hcap,ik,ap,hcs,hc,h1,ki⟩
   ·simp at hi
   ·obtain⟨G,g,hG⟩:=ano h1 ap hi;have hm:st.i*s+s<=us.length:=by rw[hcs,<-lI4]; exact lJ1 _ ls
    have hrl:row.length=s:=ap row (lE3 hi);have al:∀ j v,us[j]?=some v->w.cell? ((⟨b,off,none⟩:Addr).add j)=some v:=by
     intro j v hj;have aa:=(lG.1 hj).1;have hq:C[off+j]?=some v:=by rw[hc j aa,hj]
     unfold Addr.add;by_cases e0:j=0
     ·rw[e0] at hq; simp at hq; simp[e0,World.cell?,hb,hq]
     ·simp[e0,World.cell?,hb,hq]
    have gl:Row w true G (((us.drop (st.i*s)).take s).take st.j++(((us.drop (st.i*s)).take s).drop st.j)) (row.take st.j++row.drop st.j):=by
     rw[lJ,lJ]; exact g
    have hgl:=g.length;obtain⟨A1,A2,q1,q2,e1⟩:=Row.split _ _ (by simp only[lH] at hgl ⊢; omega) gl;have q2':Row w true A2 ((((us.drop (st.i*s)).take s).drop st.j).take sz++(((us.drop (st.i*s)).take s).drop st.j).drop sz) ((row.drop st.j).take sz++(row.drop st.j).drop sz):=by
     rw[lJ,lJ]; exact q2
    obtain⟨A3,A4,q3,q4,e3⟩:=Row.split _ _ (by have:=q2.length; simp only[lH] at this ⊢; omega) q2';have jp:∀ k v,((((us.drop (st.i*s)).take s).drop st.j).take sz)[k]?=some v->us[st.i*s+st.j+k]?=some v:=by
     intro k v hk;rw[lT] at hk;split at hk
     ·rw[lY,lT] at hk;split at hk
      ·rw[lY] at hk; rw[<-hk]; congr 1; omega
      ·cases hk
     ·cases hk
    refine⟨_,⟨b,off,none⟩,(((us.drop (st.i*s)).take s).drop st.j).take sz,fun _=>0,hl,by rw[au]; rfl,by simp; omega,?_,?_,fun x=>by simp⟩
    ·intro k v hk;rw[i6,hs];exact al _ _ (jp k v hk)
    ·intro _;refine⟨_,aif _ _ _ _ q3 ?_⟩;intro k v hk jq;obtain⟨s',es',jq⟩:=jq;have bx:row[st.j+k]?=some (.sl s' es'):=by
      rw[lT] at jq;split at jq
      ·simpa using jq
      ·cases jq
     refine aid R he hr hg hl (st:=⟨st.i,s,st.j+k⟩) (c:=.own s' es') ?_ ?_
     ·simp[b9,jZ,hi,bx,TV.av]
     ·rw[au];simp only[i4];have:=al _ _ (jp k v hk);rw[show st.i*s+(st.j+k)=st.i*s+st.j+k by omega,this];rfl
 ·cases h
theorem oR {t:TypeId} {s:Nat} {ag:Bool} {ad:Addr} {us:List Value} (hs:oC P t=some s) (fq:ak7 P t=some ag) (hl:us.length=s) (hc:∀ k v,us[k]?=some v->w.cell? (ad.add k)=some v)
  {cs:List AV} {lk:Lk} {F X:aH} {x:AV} (h:RepA w lk F X us cs) (ho:oneOf cs ag=some x) :
  ∃ v,(loadVar t ad).run P w=.ok v w/\RepA w lk F X [v] [x]:=by
 obtain⟨v,au,dg,hv3⟩:=h.oneOf ho;refine⟨v,?_,au⟩;unfold loadVar;simp only[Sem.run_bind,aaS fq,Result.andThen_ok];cases ag with
 | true=>
  rw[dg rfl];have:=run_loadCells_list (P:=P) w ad us hc;simp[jJ hs,<-hl,this]
 | false=>
  have:=hv3 rfl;subst this;have:=hc 0 v rfl;simp only[Addr.add,lQ] at this;simp[this]
theorem ale {t:TypeId} {s:Nat} {ag:Bool} {x:Operand} {o1:O} {d:Nat} {E':Env} (ho:o.op=.load t x) (hd:o.dst=some d) (aj:d<B.n)
  (hs:oC P t=some s) (fq:ak7 P t=some ag) (hx:OpdOk B.n x o1) (G:bC B hv w a E) (h:ev E (.ld d o1 s ag)=some E') :
  o.wp P a w (fun a' w'=>bC B hv w' a' E') Q:=by
 simp only[ev] at h;obtain⟨hid,Fs,Xs,R,hh⟩:=G;obtain⟨F,X,r,_,hX,_⟩:=bJ R hx;split at h
 ·rename_i cs e1;split at h
  case isFalse=>cases h
  rename_i hle;cases hq:oneOf ((cs.take s).map TV.xv) ag with
  | none=>rw[hq] at h; cases h
  | some y=>
   rw[hq] at h; cases h;rw[e1] at r;generalize az:a.eval x=v0 at r;cases r with
   | xbox _ _ X1 X2 ad us _ _ _ hc h1 h2 eu=>
    have hl:=h1.length;have h1':Row w false X1 (us.take s++us.drop s) (cs.take s++cs.drop s):=by rw[lJ,lJ]; exact h1
    obtain⟨A1,A2,q1,q2,e⟩:=Row.split _ _ D5 h1';obtain⟨v,au,dg⟩:=oR (P:=P) (w:=w) (ad:=ad) (us:=us.take s) hs fq B0 (by
     intro k v hk;rw[lT] at hk;split at hk
     ·have aa:=(lG.1 hk).1;rw[hc k aa,hk]
     ·cases hk) (apI (lk:=aM w (aI a.tmps hid) E) q1 rfl) hq
    obtain⟨XP',P'⟩:=PR.ofRel R dg (fun _=>rfl) (fun b hb=>hX b (by have:=eu b; have:=e b; omega));refine bP (v:=v) ?_ hd (bG P' hh aj);rw[execOp,ho];simp[az,Instr.loadAt,Instr.sureAddr,au]
 ·rename_i r0 e p st e1;cases hcs:jU E r0 e p st s with
  | none=>simp[hcs] at h
  | some cs=>
   simp only[hcs,lE] at h;cases hq:oneOf cs ag with
   | none=>simp[hq] at h
   | some y=>
    simp[hq] at h;obtain⟨ax,rfl⟩:=h;obtain⟨nj,ad,us,X',hl,hhd,ac,al,aq,hX'⟩:=acU R hcs;obtain⟨Gf,aq⟩:=aq (by simpa using ax);rw[e1] at r;have az:a.eval x=.pointer (some (ad.add (st.i*st.s+st.j))):=by
     generalize a.eval x=v0 at r;cases r with
     | ref _ _ _ _ _ _ oo _ _ _ ge au _=>
      rw[hl] at ge; cases ge;obtain⟨ad',q1,q2⟩:=au nj rfl;rw[hhd] at q1; cases q1; exact q2
    obtain⟨v,au,dg⟩:=oR (P:=P) (w:=w) (ad:=ad.add (st.i*st.s+st.j)) hs fq ac al aq hq;obtain⟨XP',P'⟩:=PR.ofRel R dg (fI aq (by simpa using ax)) (fun b hb=>⟨r0,by have:=hX' b; omega⟩);refine bP (v:=v) ?_ hd (bG P' hh aj);rw[execOp,ho];simp[az,Instr.loadAt,Instr.sureAddr,au]
 ·cases h
theorem PR.back {v:Value} {x:AV} {vs:List Value} {xs:List AV} (P1:PR B hid w a E Fs Xs FP XP (v::vs) (x::xs)) (n:Nat) (hv:v=aI a.tmps hid n) :
  ∃ Fs' Xs' FP' XP',PR B hid w a (E.put n x) Fs' Xs' FP' XP' vs xs:=by
 have R:=P1.rel;obtain⟨F1,F2,X1,X2,h1,h2,eF,eX⟩:=P1.rep.uncons;have links:∀ r e p o,aM w (aI a.tmps hid) E r e p=some o->aM w (aI a.tmps hid) (E.put n x) r e p=some none\/aM w (aI a.tmps hid) (E.put n x) r e p=some o:=by
  intro r e p o h;by_cases hr:r=n
  ·subst hr; exact .inl (eI rfl h)
  ·exact .inr (by rw[kW R (bX hr) (cY hr) rfl (fun _ _=>rfl) (fun _ _=>rfl)]; exact h)
 refine⟨fun t=>if t=n then F1 else Fs t,fun t=>if t=n then X1 else Xs t,F2,X2,?_,h2.same links (fun _ _=>rfl) (fun _ _=>rfl),?_,?_,?_,?_,?_,?_,?_⟩
 ·refine R.change (fun t=>t=n) R.size R.dfr ?_ ?_ ?_ ?_ ?_ ?_ ?_ (Grows.refl _) (fun _ _ _=>rfl) ?_ ?_
  ·intro t ht; exact⟨bX ht,cY ht,rfl,by simp[ht],by simp[ht],fun _ _=>rfl,fun _ _=>rfl⟩
  ·intro r hr e p o h; subst hr; exact .inl (eI rfl h)
  ·intro links t ht; subst ht; rw[cQ]; simp only[lQ]; rw[<-hv];exact h1.same links (fun _ _=>rfl) (fun _ _=>rfl)
  ·intro t ht b; subst ht; simp only[lQ]; have:=P1.one b; have:=eF b; omega
  ·intro t ht t' am b; subst ht; simp only[lQ,Ne.symm am,lN1]; have:=P1.dis t' b; have:=eF b; omega
  ·intro t ht t' b; subst ht; simp only[lQ];by_cases e:t'=t
   ·simp only[e,lQ]; have:=P1.dx3 b; have:=eF b; have:=eX b; omega
   ·simp only[e,lN1]; have:=P1.dx1 t' b; have:=eF b; omega
  ·intro t ht t' b; subst ht; simp only[lQ];by_cases e:t'=t
   ·simp only[e,lQ]; have:=P1.dx3 b; have:=eF b; have:=eX b; omega
   ·simp only[e,lN1]; have:=P1.dx2 t' b; have:=eX b; omega
  ·intro t ht b hb; subst ht; simp only[lQ] at hb; exact P1.org b (by have:=eF b; omega)
  ·intro t ht b hb; subst ht; simp only[lQ] at hb; exact P1.orgx b (by have:=eX b; omega)
 ·intro b; have:=P1.one b; have:=eF b; omega
 ·intro t b;by_cases e:t=n
  ·simp only[e,lQ]; have:=P1.one b; have:=eF b; omega
  ·simp only[e,lN1]; have:=P1.dis t b; have:=eF b; omega
 ·intro t b;by_cases e:t=n
  ·simp only[e,lQ]; have:=P1.dx3 b; have:=eF b; have:=eX b; omega
  ·simp only[e,lN1]; have:=P1.dx1 t b; have:=eF b; omega
 ·intro t b;by_cases e:t=n
  ·simp only[e,lQ]; have:=P1.dx3 b; have:=eF b; have:=eX b; omega
  ·simp only[e,lN1]; have:=P1.dx2 t b; have:=eX b; omega
 ·intro b; have:=P1.dx3 b; have:=eF b; have:=eX b; omega
 ·intro b hb; exact P1.org b (by have:=eF b; omega)
 ·intro b hb; exact P1.orgx b (by have:=eX b; omega)
theorem aig {x:Operand} {n k d:Nat} {E':Env} (ho:o.op=.extract x k) (hd:o.dst=some d) (aj:d<B.n)
  (hx:OpdOk B.n x (.t n)) (G:bC B hv w a E) (h:ev E (.xtr d (.t n) k)=some E'):o.wp P a w (fun a' w'=>bC B hv w' a' E') Q:=by
 simp only[ev] at h;obtain⟨hid,Fs,Xs,R,hh⟩:=G;split at h
 case h_2=>cases h
 rename_i vs e1;cases hk:vs[k]? with
 | none=>simp[hk] at h
 | some c=>
  simp[hk] at h;have az:a.eval x=aI a.tmps hid n:=by cases hx with | tmp _ ht=>exact kZ (by rw[R.size]; exact ht)
  have r:=R.rep n;rw[e1] at r;generalize hvn:aI a.tmps hid n=v0 at r;cases r with
  | tup _ F1 F2 _ X1 X2 us _ _ _ h1 h2 ki eu=>
   obtain⟨v,A1,A2,Y1,Y2,au,nf,hA,hY,hput⟩:=RepA.at h1 hk;have ae:(execOp a.eval o).run P w=.ok (.value v) w:=by
    rw[execOp,ho]; simp[az,hvn,Instr.extract,au]
   have z2:(∀ b,F2 b=0)/\∀ b,X2 b=0:=by cases h2 with | nil _ _ a b=>exact⟨a,b⟩
   by_cases ax:c.owns=true
   ·rw[lK ax] at h; subst h;obtain⟨Fs',Xs',FP',XP',P1⟩:=(PR.nil R).move n;simp only[lI1,e1,hvn] at P1;have ay:=aM w (aI a.tmps hid) (E.put n .undef);obtain⟨F1',F2',X1',X2',g1,g2,gF,gX⟩:=P1.rep.uncons;cases g1 with
    | tup _ H1 H2 _ Z1 Z2 _ _ _ _ k1 k2 kF kX=>
     obtain⟨v',C1,C2,D1,D2,hv1',cw,hC,hD,hput'⟩:=RepA.at k1 hk;rw[au] at hv1'; cases hv1';have ju:=hput' w (aM w (aI a.tmps hid) (E.put n .undef)) (fun _ _=>rfl) (fun _ _=>rfl) (fun _ _ _ _ h=>.inr h) v .undef (fun _=>0) (fun _=>0) (.undef _ _ _ _ _ RepA.znil);rw[fY au] at ju;have da:(∀ b,H2 b=0)/\∀ b,Z2 b=0:=by cases k2 with | nil _ _ a b=>exact⟨a,b⟩
     have lx:(∀ b,F2' b=0)/\∀ b,X2' b=0:=by cases g2 with | nil _ _ a b=>exact⟨a,b⟩
     have P2:PR B hid w a (E.put n .undef) Fs' Xs' FP' XP' [.tuple us.toArray,v] [.tup (vs.set k .undef),c]:=by
      refine P1.rerep ?_;refine .tup _ C2 C1 _ D2 D1 us (vs.set k .undef) [v] [c] (ju.foot (fun b=>by simp) (fun b=>by simp)) cw ?_ ?_
      ·intro b; have:=gF b; have:=kF b; have:=hC b; have:=da.1 b; have:=lx.1 b; omega
      ·intro b; have:=gX b; have:=kX b; have:=hD b; have:=da.2 b; have:=lx.2 b; omega
     obtain⟨Fs2,Xs2,FP2,XP2,P3⟩:=PR.back P2 n hvn.symm;have P4:=bG P3 hh aj;refine bP (v:=v) ae hd ?_;have hE:((E.put n .undef).put n (.tup (vs.set k .undef))).put d c=(E.put n (.tup (vs.set k .undef))).put d c:=by
      apply Env.ext'
      ·intro t; simp only[kY]; split <;> (try rfl); split <;> rfl
      ·intro t;have hr:(E.f n).isRoot=false:=by rw[e1]; rfl
       simp only[Env.put,hr];by_cases hdn':d=n
       ·subst hdn'; simp[hr,AV.isRoot]
       ·simp[hdn',AV.isRoot]
     rw[<-hE]; exact P4
   ·rw[lO ax] at h; subst h;have hown':c.owns=false:=by simpa using ax
    obtain⟨XP',P'⟩:=PR.ofRel R nf (fI nf (by simpa [bV] using hown')) (fun b hb=>⟨n,by have:=eu b; have:=hY b; omega⟩);exact bP (v:=v) ae hd (bG P' hh aj)
theorem agm {t:TypeId} {x y:Operand} {o1 o2:O} {d:Nat} {E':Env} (ho:o.op=.index t x y) (hd:o.dst=some d) (aj:d<B.n)
  (hu:P.underlying t=some .string) (hx:OpdOk B.n x o1) (hy:OpdOk B.n y o2) (G:bC B hv w a E) (h:ev E (.sidx d o1 o2)=some E'):o.wp P a w (fun a' w'=>bC B hv w' a' E') Q:=by
 simp only[ev] at h;split at h
 case h_2=>cases h
 rename_i b k n e1 e2;split at h
 case isFalse=>cases h
 rename_i hb;cases hc:b[n.toNat]? with
 | none=>simp[hc] at h
 | some c=>
  simp[hc] at h; subst h;have v1:=oQ G hx e1;have v2:=fZ G hy e2;refine bP (v:=.int .u8 c.toNat) ?_ hd (jI G aj _ _);rw[execOp,ho];have aa:n.toNat<(⟨b.toArray⟩:ByteArray).size:=by rw[acR]; omega
  have bq:(⟨b.toArray⟩:ByteArray)[n.toNat]?=some c:=by
   rw[ByteArray.getElem?_lt' _ _ aa];have:=(lG.1 hc).2;rw[<-this];rfl
  simp[v1,v2,cN,Instr.index,asIntOf,run_underlying hu,hb.1,bq]
theorem g7 {E:Env} {lo:Option Operand} {l1:Option O} {dflt:Nat} {l:Int} (hl:(lo=none/\l1=none)\/∃ x o1,lo=some x/\l1=some o1/\OpdOk B.n x o1) (G:bC B hv w a E) (h:cT E l1 dflt=some l) :
  (lo=none/\l=dflt)\/∃ x k,lo=some x/\a.eval x=.int k l:=by
 rcases hl with ⟨rfl,rfl⟩ | ⟨x,o1,rfl,rfl,ho⟩
 ·simp[cT] at h; exact .inl ⟨rfl,h.symm⟩
 ·simp only[cT] at h;split at h
  ·rename_i k n e;cases h;exact .inr ⟨x,k,rfl,fZ G ho e⟩
  ·cases h
theorem mX {lo hi:Option Operand} {l h:Int} {len cap:Nat} {isS:Bool} (hl:(lo=none/\l=(0:Nat))\/∃ x k,lo=some x/\a.eval x=.int k l)
  (hh:(hi=none/\h=len)\/∃ x k,hi=some x/\a.eval x=.int k h) (h0:0<=l) (h1:l<=h) (h2:h<=cap) :
  (Instr.sliceBounds isS len cap (lo.map a.eval) (hi.map a.eval) none).run P w=.ok (l.toNat,h.toNat,cap) w:=by
 have hb:∀ (k:IntKind) (i:Int) (y:Nat) (c:BoundsCode),0<=i->i<=y->(Instr.sliceBound (.int k i) y c).run P w=.ok i.toNat w:=by
  intro k i y c h1 h2;simp[Instr.sliceBound,asIntOf,h1,h2]
 have hbh:∀ (k:IntKind) (c:BoundsCode),(Instr.sliceBound (.int k h) cap c).run P w=.ok h.toNat w:=fun k c=>hb k h cap c A7 h2
 have kj:∀ (k:IntKind) (c:BoundsCode),(Instr.sliceBound (.int k l) h.toNat c).run P w=.ok l.toNat w:=fun k c=>hb k l _ c h0 A7
 rcases hh with ⟨rfl,rfl⟩ | ⟨y,ky,rfl,ey⟩
 ·rcases hl with ⟨rfl,rfl⟩ | ⟨x,kx,rfl,ex⟩
  ·simp[Instr.sliceBounds]
  ·have:=kj kx (if (none:Option Value).isSome=true then .slice3C else .sliceB);simp at this;simp[Instr.sliceBounds,ex,this]
 ·rcases hl with ⟨rfl,rfl⟩ | ⟨x,kx,rfl,ex⟩
  ·simp[Instr.sliceBounds,ey,hbh]
  ·simp[Instr.sliceBounds,ey,ex,hbh,kj]
def aih (n:Nat) (x:Option Operand) (o:Option O):Prop:=(x=none/\o=none)\/∃ y o1,x=some y/\o=some o1/\OpdOk n y o1
theorem aii {t:TypeId} {x:Operand} {lo hi:Option Operand} {o1:O} {l1 h1:Option O} {d:Nat} {E':Env} (ho:o.op=.slice t x lo hi none) (hd:o.dst=some d) (aj:d<B.n)
  (hu:P.underlying t=some .string) (hx:OpdOk B.n x o1) (gy:aih B.n lo l1) (ly:aih B.n hi h1) (G:bC B hv w a E) (h:ev E (.sls d o1 l1 h1)=some E'):o.wp P a w (fun a' w'=>bC B hv w' a' E') Q:=by
 simp only[ev] at h;split at h
 case h_2=>cases h
 rename_i b l e1 e2;cases hq:cT E h1 b.length with
 | none=>simp[hq] at h
 | some hh=>
  simp[hq] at h;obtain⟨⟨c0,c1,c2⟩,rfl⟩:=h;have v1:=oQ G hx e1;have r1:=g7 gy G e2;have r2:=g7 ly G hq;refine bP (v:=cN ((b.drop l.toNat).take (hh-l).toNat)) ?_ hd (yY G aj _);rw[execOp,ho];have bz:=mX (P:=P) (w:=w) (isS:=false) (len:=b.length) (cap:=b.length) r1 r2 c0 c1 c2;simp only[v1,cN,Instr.sliceAt,Sem.run_bind,run_underlying hu,Result.andThen_ok,Instr.slice,acR,Option.isSome_none,lS];have:ByteArray.extract ⟨b.toArray⟩ l.toNat hh.toNat=⟨((b.drop l.toNat).take (hh-l).toNat).toArray⟩:=by
   apply ByteArray.ext;rw[ByteArray.data_extract];simp[List.extract_eq_take_drop];congr 2;omega
  simp[bz,this]
theorem uE {t el:TypeId} {s:Nat} {x:Operand} {lo hi:Option Operand} {l h:Int} {base:Option Addr} {len cap:Nat} (ho:o.op=.slice t x lo hi none)
  (hu:P.underlying t=some (.slice el)) (hs:oC P el=some s) (az:a.eval x=.slice base len cap)
  (r1:(lo=none/\l=(0:Nat))\/∃ x k,lo=some x/\a.eval x=.int k l) (r2:(hi=none/\h=len)\/∃ x k,hi=some x/\a.eval x=.int k h) (h0:0<=l) (h1:l<=h) (h2:h<=cap) :
  (execOp a.eval o).run P w=.ok (.value (.slice (if cap=l.toNat then base else base.map (·.add (l.toNat*s))) (h-l).toNat (cap-l.toNat))) w:=by
 rw[execOp,ho];have bz:=mX (P:=P) (w:=w) (isS:=true) (len:=len) (cap:=cap) r1 r2 h0 h1 h2;simp only[az,Instr.sliceAt,Sem.run_bind,run_underlying hu,Result.andThen_ok,Instr.slice,lS,bz,jJ hs,Sem.run_pure];have:h.toNat-l.toNat=(h-l).toNat:=by omega
 rw[this]
theorem aij {F:aH} {v:Value} {s:Nat} {es:List (List TV)} (h:Row w false F [v] [.sl s es]) (l n:Nat) (hn:l+n<=es.length) :
  ∃ base cap,v=.slice base es.length cap/\es.length<=cap/\∃ G,Row w false G [.slice (if cap=l then base else base.map (·.add (l*s))) n (cap-l)] [.sl s ((es.drop l).take n)]/\∀ b,G b<=F b:=by
 cases h with
 | ext0 _ _ a' cap _ _ h=>
  simp at hn;obtain⟨rfl,rfl⟩:=hn;exact⟨a',cap,rfl,by simp,⟨fun _=>0,.ext0 _ _ _ _ _ _ (.nil _ _ (fun _=>rfl)),fun b=>by simp⟩⟩
 | ext _ F1 F2 _ _ ad cap us _ _ hle ap hcs hc h1 h hF=>
  refine⟨some ad,cap,rfl,hle,?_⟩;by_cases fi:n=0
  ·subst fi;exact⟨fun _=>0,by simpa using Row.ext0 _ s _ (cap-l) [] [] (.nil _ _ (fun _=>rfl)),fun b=>by simp⟩
  ·have di:es.flatten=(es.take l).flatten++(((es.drop l).take n).flatten++(es.drop (l+n)).flatten):=by
    rw[<-lV1,<-lV1];congr 1;rw[<-lA2,lJ,lJ]
   have nh:∀ e ∈ es.take l,e.length=s:=fun e he=>ap e (lY1 he)
   have kg:∀ e ∈ (es.drop l).take n,e.length=s:=fun e he=>ap e (lZ1 (lY1 he))
   have ob:l*s+n*s<=us.length:=by rw[hcs,<-lH2]; exact lJ1 _ hn
   have h1':Row w false F1 (us.take (l*s)++((us.drop (l*s)).take (n*s)++us.drop (l*s+n*s))) ((es.take l).flatten++(((es.drop l).take n).flatten++(es.drop (l+n)).flatten)):=by
    rw[<-di];have:us.take (l*s)++((us.drop (l*s)).take (n*s)++us.drop (l*s+n*s))=us:=by rw[<-lA2,lJ,lJ]
    rw[this]; exact h1
   obtain⟨G1,G2,g1,g2,e1⟩:=Row.split _ _ (by rw[bS _ nh,lH,lH]; rw[lB1 A7,lB1 A7]) h1';obtain⟨G3,G4,g3,g4,e2⟩:=Row.split _ _ (by rw[bS _ kg,lH,lH,lK1,lK1]; rw[lB1 A7,lB1 A7]) g2;have ac:((es.drop l).take n).length=n:=by simp; omega
   by_cases bk:cap=l
   ·omega
   ·rw[lO bk];refine⟨fun x=>(if x=ad.block then 1 else 0)+G3 x,?_,fun b=>by have:=hF b; have:=e1 b; have:=e2 b; (try dsimp only); omega⟩;have:=Row.ext (w:=w) (fun x=>(if x=ad.block then 1 else 0)+G3 x) G3 (fun _=>0) s ((es.drop l).take n) (ad.add (l*s)) (cap-l) ((us.drop (l*s)).take (n*s)) [] [] (by rw[ac]; omega) kg (by rw[ac]; simp; omega) ?_ g3 (.nil _ _ (fun _=>rfl)) (fun x=>by rw[i3]; simp)
    ·rw[ac] at this; exact this
    ·intro k hk;simp only[lH,lK1] at hk;rw[i6,hc _ A7,lT,lY,lK A7]
theorem aik {t el:TypeId} {s:Nat} {x:Operand} {lo hi:Option Operand} {o1:O} {l1 h1:Option O} {d:Nat} {E':Env} (ho:o.op=.slice t x lo hi none) (hd:o.dst=some d) (aj:d<B.n)
  (hu:P.underlying t=some (.slice el)) (hs:oC P el=some s) (hx:OpdOk B.n x o1) (gy:aih B.n lo l1) (ly:aih B.n hi h1) (G:bC B hv w a E) (h:ev E (.slc d o1 l1 h1 s)=some E') :
  o.wp P a w (fun a' w'=>bC B hv w' a' E') Q:=by
 simp only[ev] at h;have G0:=G;split at h
 ·cases h
 rename_i l hl0;have r1:=g7 gy G hl0;obtain⟨hid,Fs,Xs,R,hh⟩:=G;obtain⟨F,X,r,_,hX,_⟩:=bJ R hx;split at h
 ·rename_i s' es e1;cases hq:cT E h1 es.length with
  | none=>simp[hq] at h
  | some hb=>
   simp[hq] at h;obtain⟨⟨hs',c0,c1,c2⟩,rfl⟩:=h;subst hs';have r2:=g7 ly G0 hq;rw[e1] at r;generalize az:a.eval x=v at r;cases r with
   | ext _ _ X1 X2 _ _ _ _ _ k1 k2 eu=>
    obtain⟨base,cap,e3,hcap,Gf,g,hG⟩:=aij k1 l.toNat (hb-l).toNat A7;have ae:=uE (P:=P) (w:=w) ho hu hs (az.trans e3) r1 r2 c0 c1 A7;have hr:RepA w (aM w (aI a.tmps hid) E) (fun _=>0) Gf [_] [.ext s' ((es.drop l.toNat).take (hb-l).toNat)]:=.ext _ _ Gf (fun _=>0) _ _ _ _ _ g RepA.znil (fun x=>by simp);obtain⟨XP',P'⟩:=PR.ofRel R hr (fun _=>rfl) (fun b hb=>hX b (by have:=eu b; have:=hG b; omega));exact bP ae hd (bG P' hh aj)
 ·rename_i v0 s' es e1;cases hq:cT E h1 es.length with
  | none=>simp[hq] at h
  | some hb=>
   simp[hq] at h;obtain⟨⟨hs',c0,c1,c2⟩,rfl⟩:=h;subst hs';have r2:=g7 ly G0 hq;rw[e1] at r;generalize az:a.eval x=v at r;cases r with
   | extv _ _ X1 X2 _ _ _ _ _ k1 k2 eu=>
    obtain⟨base,cap,e3,hcap,Gf,g,hG⟩:=aij k1 l.toNat (hb-l).toNat A7;have ae:=uE (P:=P) (w:=w) ho hu hs (az.trans e3) r1 r2 c0 c1 A7;have hr:RepA w (aM w (aI a.tmps hid) E) (fun _=>0) Gf [_] [.ext s' ((es.drop l.toNat).take (hb-l).toNat)]:=.ext _ _ Gf (fun _=>0) _ _ _ _ _ g RepA.znil (fun x=>by simp);obtain⟨XP',P'⟩:=PR.ofRel R hr (fun _=>rfl) (fun b hb=>hX b (by have:=eu b; have:=hG b; omega));exact bP ae hd (bG P' hh aj)
 ·rename_i r0 e p e1;cases hn:aK E r0 e p with
  | none=>simp[hn] at h
  | some q=>
   obtain⟨s',es⟩:=q;simp only[hn,lE] at h;cases hq:cT E h1 es.length with
   | none=>simp[hq] at h
   | some hb=>
    simp[hq] at h;obtain⟨⟨hs',c0,c1,c2⟩,rfl⟩:=h;subst hs';have r2:=g7 ly G0 hq;obtain⟨gd,G1,g1,hl⟩:=g6 R hn;rw[e1] at r;have az:a.eval x=gd:=by
     generalize a.eval x=v at r;cases r with | lnk _ _ _ _ _ o _ _ _ ho' hv' _=>rw[hl] at ho'; cases ho'; exact hv' gd rfl
    obtain⟨base,cap,e3,hcap⟩:∃ base cap,gd=.slice base es.length cap/\es.length<=cap:=by
     rcases Row.sl_inv g1 with ⟨q1,rfl,_⟩ | ⟨F1,b,off,cap',C,ty,fr,cs,au,_,_,_,hle',_⟩
     ·exact⟨none,0,q1,by simp⟩
     ·exact⟨_,_,au,hle'⟩
    have ae:=uE (P:=P) (w:=w) ho hu hs (az.trans e3) r1 r2 c0 c1 A7;have hr:RepA w (aM w (aI a.tmps hid) E) (fun _=>0) (fun _=>0) [_] [.sub r0 e p s' l.toNat (hb-l).toNat]:=
     .sub _ _ _ _ _ _ _ _ _ (.slice (if cap=l.toNat then base else base.map (·.add (l.toNat*s'))) (hb-l).toNat (cap-l.toNat)) _ _ hl (fun u hu=>by
      cases hu;refine⟨base,es.length,cap,_,e3,rfl,by omega,?_⟩;split
      ·rename_i hc; exact .inr ⟨hc.symm,0,by omega,by cases base <;> simp[Addr.add]⟩
      ·exact .inl rfl) RepA.znil
    obtain⟨XP',P'⟩:=PR.ofRel R hr (fun _=>rfl) (fun b hb=>absurd rfl hb);exact bP ae hd (bG P' hh aj)
 ·rename_i s' es e1;cases o1 with
  | c y=>cases h
  | t m=>
   dsimp only at h;cases hq:cT E h1 es.length with
   | none=>simp[hq] at h
   | some hb=>
    simp[hq] at h;obtain⟨⟨hmd,hs',c0,c1,c2⟩,rfl⟩:=h;subst hs';have r2:=g7 ly G0 hq;have az:a.eval x=aI a.tmps hid m:=by cases hx with | tmp _ ht=>exact kZ (by rw[R.size]; exact ht)
    simp only[val] at e1;simp only[val,e1] at r;rw[az] at r;have g1:=(RepA.to_row r rfl).1;have hl:aM w (aI a.tmps hid) E m (E.ep m).1 []=some (some (aI a.tmps hid m)):=by
     unfold aM; rw[if_neg D8,if_pos ⟨by simp[fX],by rw[e1]; rfl,by rw[e1]; rfl⟩]; rfl
    obtain⟨base,cap,e3,hcap⟩:∃ base cap,aI a.tmps hid m=.slice base es.length cap/\es.length<=cap:=by
     rcases Row.sl_inv g1 with ⟨q1,rfl,_⟩ | ⟨F1,b,off,cap',C,ty,fr,cs,au,_,_,_,hle',_⟩
     ·exact⟨none,0,q1,by simp⟩
     ·exact⟨_,_,au,hle'⟩
    have ae:=uE (P:=P) (w:=w) ho hu hs (az.trans e3) r1 r2 c0 c1 A7;have hr:RepA w (aM w (aI a.tmps hid) E) (fun _=>0) (fun _=>0) [_] [.sub m (E.ep m).1 [] s' l.toNat (hb-l).toNat]:=
     .sub _ _ _ _ _ _ _ _ _ (.slice (if cap=l.toNat then base else base.map (·.add (l.toNat*s'))) (hb-l).toNat (cap-l.toNat)) _ _ hl (fun u hu=>by
      have hu:=Option.some.inj hu;refine⟨base,es.length,cap,_,hu.symm.trans e3,rfl,by omega,?_⟩;split
      ·rename_i hc; exact .inr ⟨hc.symm,0,by omega,by cases base <;> simp[Addr.add]⟩
      ·exact .inl rfl) RepA.znil
    obtain⟨XP',P'⟩:=PR.ofRel R hr (fun _=>rfl) (fun b hb=>absurd rfl hb);exact bP ae hd (bG P' hh aj)
 ·rename_i r0 e p s' lo0 n e1;cases hn:aK E r0 e p with
  | none=>simp[hn] at h
  | some q=>
   obtain⟨s2,es⟩:=q;simp only[hn,lE] at h;cases hq:cT E h1 n with
   | none=>simp[hq] at h
   | some hb=>
    simp[hq] at h;obtain⟨⟨ew,hs',hle,c0,c1,c2⟩,rfl⟩:=h;subst ew; subst hs';have r2:=g7 ly G0 hq;obtain⟨gd,G1,g1,hl⟩:=g6 R hn;obtain⟨base,cap,e3,hcap⟩:∃ base cap,gd=.slice base es.length cap/\es.length<=cap:=by
     rcases Row.sl_inv g1 with ⟨q1,rfl,_⟩ | ⟨F1,b,off,cap',C,ty,fr,cs,au,_,_,_,hle',_⟩
     ·exact⟨none,0,q1,by simp⟩
     ·exact⟨_,_,au,hle'⟩
    rw[e1] at r;have az:∃ a',a.eval x=.slice a' n (cap-lo0)/\(a'=base.map (·.add (lo0*s'))\/(lo0=cap/\∃ k,k<=cap/\a'=base.map (·.add (k*s')))):=by
     generalize a.eval x=v at r;cases r with
     | sub _ _ _ _ _ _ _ _ o _ _ _ ho' hv' _=>
      rw[hl] at ho'; cases ho';obtain⟨base',len,cap',a',q1,q2,q3,q4⟩:=hv' gd rfl;rw[e3] at q1; cases q1;exact⟨a',q2,q4⟩
    obtain⟨a',az,ha'⟩:=az;have ae:=uE (P:=P) (w:=w) ho hu hs az r1 r2 c0 c1 A7;have hr:RepA w (aM w (aI a.tmps hid) E) (fun _=>0) (fun _=>0) [_] [.sub r0 e p s' (lo0+l.toNat) (hb-l).toNat]:=
     .sub _ _ _ _ _ _ _ _ _ (.slice (if cap-lo0=l.toNat then a' else a'.map (·.add (l.toNat*s'))) (hb-l).toNat (cap-lo0-l.toNat)) _ _ hl (fun u hu=>by
      cases hu;refine⟨base,es.length,cap,_,e3,by rw[Nat.sub_sub],by omega,?_⟩;split
      ·rename_i hc;rcases ha' with rfl | ⟨q,k,hk,rfl⟩
       ·exact .inr ⟨by omega,lo0,by omega,rfl⟩
       ·exact .inr ⟨by omega,k,hk,rfl⟩
      ·rename_i hc;rcases ha' with rfl | ⟨q,_⟩
       ·left;cases base with
        | none=>rfl
        | some ad=>simp only[lD]; rw[i6,lH2]
       ·omega) RepA.znil
    obtain⟨XP',P'⟩:=PR.ofRel R hr (fun _=>rfl) (fun b hb=>absurd rfl hb);exact bP ae hd (bG P' hh aj)
 ·cases h
theorem acV {G:aH} {lo:Bool}:∀ (es:List (List TV)) (bs:List UInt8) (cs:List Value),cZ es=some bs->Row w lo G cs es.flatten ->
  ∃ ns:List Int,cs=ns.map (.int .u8)/\bs=ns.map (fun n=>UInt8.ofNat n.toNat)/\es.length=ns.length:=by
 intro es;induction es generalizing G with
 | nil=>
  intro bs cs h r;simp[cZ] at h; subst h;cases r; exact⟨[],rfl,rfl,rfl⟩
 | cons e es ih=>
  intro bs cs h r;simp only[cZ] at h;cases hb:qP e with
  | none=>simp[hb] at h
  | some b=>
   cases hl:cZ es with
   | none=>simp[hb,hl] at h
   | some l=>
    simp[hb,hl] at h; subst h;unfold qP at hb;split at hb
    ·rename_i n;cases hb;simp only[lD3,lD2,lI1] at r;cases r with
     | int _ _ _ _ vs ts r'=>
      obtain⟨ns,rfl,rfl,ac⟩:=ih l vs hl r';exact⟨n::ns,rfl,rfl,by simp[ac]⟩
    ·cases hb
theorem alf (f:Value->ByteArray->Sem (ForInStep ByteArray)) (hf:∀ n r,f (.int .u8 n) r=pure (.yield (r.push (UInt8.ofNat n.toNat)))) (ns:List Int):∀ (acc:ByteArray),
  (forIn (ns.map (Value.int .u8)) acc f).run P w=.ok ⟨acc.data++(ns.map (fun n=>UInt8.ofNat n.toNat)).toArray⟩ w:=by
 induction ns with
 | nil=>intro acc; simp
 | cons n ns ih=>
  intro acc;simp only[lR,List.forIn_cons,Sem.run_bind,hf,Sem.run_pure,Result.andThen_ok];rw[ih];congr 2;simp[ByteArray.push]
theorem ail {s t e:TypeId} {x:Operand} {o1:O} {d:Nat} {E':Env} (ho:o.op=.convert s t x) (hd:o.dst=some d) (aj:d<B.n)
  (hs:P.underlying s=some (.slice e)) (he:P.underlying e=some (.int .u8)) (ht:P.underlying t=some .string) (hx:OpdOk B.n x o1) (G:bC B hv w a E) (h:ev E (.b2s d o1)=some E') :
  o.wp P a w (fun a' w'=>bC B hv w' a' E') Q:=by
 simp only[ev] at h;cases hr:bB E (val E o1) with
 | none=>simp[hr] at h
 | some q=>
  obtain⟨sz,es⟩:=q;simp only[hr,lE] at h;split at h
  case isFalse=>cases h
  rename_i ar;have hsz':sz=1:=ar;subst hsz';cases hb:cZ es with
  | none=>simp[hb] at h
  | some bs=>
   simp[hb] at h; subst h;have G0:=G;obtain⟨hid,Fs,Xs,R,hh⟩:=G;obtain⟨base,cap,az,G1,cs,ak,ap,bw⟩:=yZ R hx hr;obtain⟨ns,hcs,og,ac⟩:=acV es bs cs hb ak;refine bP (v:=cN bs) ?_ hd (yY G0 aj _);rw[execOp,ho];have il:(convert s t (a.eval x)).run P w=.ok (cN bs) w:=by
    rw[az];simp only[convert,Sem.run_bind,run_underlying hs,run_underlying ht,run_underlying he,Result.andThen_ok];cases base with
    | none=>
     have:es=[]:=by
      by_cases am:es=[]
      ·exact am
      ·obtain⟨ad,h1,_⟩:=bw am; cases h1
     subst this;have:ns=[]:=by simpa using ac.symm
     subst this;simp[Conv.bytesToString,og,cN];rfl
    | some ad=>
     simp only[Conv.bytesToString,Sem.run_bind];by_cases am:es=[]
     ·subst am;have:ns=[]:=by simpa using ac.symm
      subst this;simp[loadCells,loadCellsFrom,og,cN];rfl
     ·obtain⟨ad',h1,gm,cw⟩:=bw am;cases h1;have bk:cs.length=es.length:=by rw[gm]; simp
      have kl:=run_loadCells_list (P:=P) w ad cs (fun j v hj=>by rw[cw j (lG.1 hj).1,hj]);rw[bk] at kl;simp only[kl,Result.andThen_ok];rw[hcs];simp only[List.forIn_toArray,Sem.run_bind];rw[alf (P:=P) (w:=w) _ (fun n r=>rfl) ns .empty];simp[og,cN]
   simp[il]
theorem aaT {n0:Nat} {C:Array Value} {ty:TypeId} {fr:Nat × Nat} {s cap:Nat} {es:List (List TV)} {cs:List Value} {G:aH} (hb:w.heap[n0]?=some (.cells C ty fr)) (hfr:thawS s C.size fr)
  (hcap:cap*s<=C.size) (hle:es.length<=cap) (ap:∀ e ∈ es,e.length=s) (hcs:cs.length=es.length*s) (hc:∀ k,k<cs.length->C[k]?=cs[k]?) (hr:Row w true G cs es.flatten) :
  Row w true (fun b=>(if b=n0 then 1 else 0)+G b) [.slice (some ⟨n0,0,none⟩) es.length cap] [.sl s es]:=
 Row.of_sl rfl hb hfr A7 hle ap hcs (fun k hk=>by rw[lL2]; exact hc k hk) hr (fun x=>rfl)
theorem aaU (s:List UInt8):Row w true (fun _=>0) (s.map fun b=>.int .u8 b.toNat) (aJ s).flatten:=by
 induction s with
 | nil=>exact .nil _ _ (fun _=>rfl)
 | cons b s ih=>simpa [aJ] using Row.int (w:=w) true (fun _=>0) .u8 b.toNat _ _ ih
theorem aim {s t e:TypeId} {x:Operand} {o1:O} {d:Nat} {E':Env} (ho:o.op=.convert s t x) (hd:o.dst=some d) (aj:d<B.n)
  (hs:P.underlying s=some .string) (ht:P.underlying t=some (.slice e)) (he:P.underlying e=some (.int .u8)) (hx:OpdOk B.n x o1) (G:bC B hv w a E) (h:ev E (.s2b d o1)=some E') :
  o.wp P a w (fun a' w'=>bC B hv w' a' E') Q:=by
 simp only[ev] at h;split at h
 case h_2=>cases h
 rename_i b e1;cases h;have v1:=oQ G hx e1;have G0:=G;obtain⟨hid,Fs,Xs,R,hh⟩:=G
 let bb:ByteArray:=⟨b.toArray⟩
 let w3:=Lib.bytesWorld w e bb
 have hbz:bb.size=b.length:=by simp[bb,ByteArray.size]
 have nk:b.length<=grownCap w bb.size 0 e:=by rw[<-hbz]; exact lZ3 _ _
 have il:=Lib.run_convert_string_bytes (P:=P) w s t e bb hs ht he
 let C:=Lib.bytesCells w e bb
 have hCs:C.size=grownCap w bb.size 0 e:=by simp only[C,Lib.bytesCells,lE4,Array.size_map,Array.size_replicate]; have:bb.data.size=bb.size:=rfl; omega
 have km:w3.heap=w.heap.push (.cells C e (C.size,C.size+1)):=by
  apply Array.ext_getElem?;intro j;rw[Array.getElem?_push];by_cases hj:j=w.heap.size
  ·subst hj; simp only[lQ]; exact Lib.bytesWorld_at_new w e bb
  ·simp only[hj,lN1];by_cases aa:j<w.heap.size
   ·exact Lib.bytesWorld_at_old w e bb j aa
   ·rw[lY4 (by have:=Lib.bytesWorld_size w e bb; show (Lib.bytesWorld w e bb).heap.size<=j; omega),lY4 A7]
 have P0:=PR.nil R;obtain⟨FP',P1⟩:=PR.wrap (v:=.slice (some ⟨w.heap.size,0,none⟩) b.length (grownCap w bb.size 0 e)) (x:=.own 1 (aJ b)) P0 km (by
  intro _;have ac:(aJ b).length=b.length:=by simp[aJ]
  have ak:=aaT (w:=w3) (n0:=w.heap.size) (C:=C) (ty:=e) (fr:=(C.size,C.size+1)) (s:=1) (cap:=grownCap w bb.size 0 e) (es:=aJ b) (cs:=b.map fun c=>.int .u8 c.toNat) (G:=fun _=>0)
   (by rw[km]; simp) ⟨by intro o ho hc; omega,by simp⟩ A7 (by rw[ac]; exact nk) (by intro e he; simp[aJ] at he; obtain⟨_,_,rfl⟩:=he; rfl) (by simp[aJ]) (by
    intro k hk;simp at hk;simp[C,Lib.bytesCells,bb,Array.getElem?_append,hk]) (aaU b)
  rw[ac] at ak;exact .own _ _ (fun _=>0) _ _ _ _ _ _ ak RepA.znil (fun x=>by simp))
 refine bP (v:=.slice (some ⟨w.heap.size,0,none⟩) b.length (grownCap w bb.size 0 e)) (w':=w3) ?_ hd (bG P1 hh aj);rw[execOp,ho];have og:(cN b)=.string bb:=rfl;have:=il;rw[hbz,<-og,<-v1] at this;simp[this,w3,hbz]
theorem i7 {lk:Lk} {F X:aH} {v:Value} {x:AV} (h:RepA w lk F X [v] [x]) (hp:plain x=true):RepA w lk F X v.cells.toList (cellsOf x):=by
 cases h with
 | undef _ _ _ _ _ _=>cases hp
 | lnk _ _ _ _ _ _ _ _ _ _ _ _=>cases hp
 | sub _ _ _ _ _ _ _ _ _ _ _ _ _ _ _=>cases hp
 | ref _ _ _ _ _ _ _ _ _ _ _ _ _=>cases hp
 | bool _ _ x _ _ h=>exact .bool _ _ _ _ _ h
 | int _ _ k n _ _ h=>exact .int _ _ _ _ _ _ h
 | str _ _ s _ _ h=>exact .str _ _ _ _ _ h
 | own _ F1 F2 _ s es _ _ _ h1 h hF=>
  have hv:v.cells.toList=[v]:=by
   rcases Row.sl_inv h1 with ⟨rfl,_⟩ | ⟨_,_,_,_,_,_,_,_,rfl,_⟩ <;> rfl
  rw[hv]; exact .own _ F1 F2 _ s es _ _ _ h1 h hF
 | ext _ _ X1 X2 s es _ _ _ h1 h hX=>
  have hv:v.cells.toList=[v]:=by
   cases h1 <;> rfl
  rw[hv]; exact .ext _ _ X1 X2 s es _ _ _ h1 h hX
 | extv _ _ X1 X2 s es _ _ _ h1 h hX=>
  have hv:v.cells.toList=[v]:=by
   cases h1 <;> rfl
  rw[hv]; exact .extv _ _ X1 X2 s es _ _ _ h1 h hX
 | box _ F1 F2 _ X1 X2 b C ty fr cs _ _ hb hfr h1 h hF hX=>exact .box _ F1 F2 _ X1 X2 b C ty fr cs _ _ hb hfr h1 h hF hX
 | xbox _ _ X1 X2 a us cs _ _ hc h1 h hX=>exact .xbox _ _ X1 X2 a us cs _ _ hc h1 h hX
 | tup _ F1 F2 _ X1 X2 us cs _ _ h1 h hF hX=>exact .tup _ F1 F2 _ X1 X2 us cs _ _ h1 h hF hX
 | fn _ F1 F2 _ X1 X2 f us cs _ _ h1 h hF hX=>exact .fn _ F1 F2 _ X1 X2 f us cs _ _ h1 h hF hX
 | agg _ F1 F2 _ X1 X2 us cs _ _ h1 h hF hX=>
  cases h with
  | nil _ _ z1 z2=>
   have:F=F1:=funext fun b=>by rw[hF,z1]; omega
   have:X=X1:=funext fun b=>by rw[hX,z2]; omega
   subst_vars
   simpa [Value.cells,cellsOf] using h1
theorem PR.hide {v:Value} {x:AV} (P1:PR B hid w a E Fs Xs FP XP [v] [x]) {q:Nat} (hq:B.n<=q) :
  ∃ Fs' Xs',Rel B (fun t=>if t=q then v else hid t) w a (E.put q x) Fs' Xs':=by
 have R:=P1.rel;obtain⟨Fs',Xs',R',_⟩:=R.hput (w':=w) (E':=E.put q x) q hq (fun _=>False) (fun h=>h) v x FP XP
  (fun t h _=>⟨bX h,cY h⟩) cQ rfl (fun _ h=>h.elim) (fun t _ _=>⟨fun _ _=>rfl,fun _ _=>rfl⟩)
  (fun lk' links=>P1.rep.same links (fun _ _=>rfl) (fun _ _=>rfl)) P1.one (fun t _ _ b=>P1.dis t b) P1.dx3 (fun t _ _ b=>P1.dx1 t b) (fun t _ _ b=>P1.dx2 t b)
  (Grows.refl _) (fun _ _ _=>rfl) P1.org P1.orgx
 exact⟨Fs',Xs',R'⟩
theorem add_zero (a:Addr):a.add 0=a:=by
 cases a with
 | mk b o e=>unfold Addr.add; split <;> simp_all
theorem ain {b:Nat} {cs:List AV} (P1:PR B hid w a E Fs Xs FP XP [.pointer (some ⟨b,0,none⟩)] [.box cs]) (hh:∀ t,t<2000->hid t=hv t) {d:Nat} (hd:d<B.n) (hn:B.n<=1000) :
  bC B hv w (a.put (some d) (.pointer (some ⟨b,0,none⟩))) ((E.put (5000+d) (.box cs)).put d (.ref (5000+d) (fX ((E.put (5000+d) (.box cs)).ep (5000+d)) []) [] ⟨0,0,0⟩)):=by
 obtain⟨Fs',Xs',R'⟩:=P1.hide (q:=5000+d) A7;have ay:aM w (aI a.tmps (fun t=>if t=5000+d then .pointer (some ⟨b,0,none⟩) else hid t)) (E.put (5000+d) (.box cs)) (5000+d) (fX ((E.put (5000+d) (.box cs)).ep (5000+d)) []) []=some (some (.pointer (some ⟨b,0,none⟩))):=by
  unfold aM;rw[lO A7,lK ⟨rfl,by rw[cQ]; rfl,by rw[cQ]; rfl⟩,pG (by rw[R'.size]; omega)];simp[i4]
 have hr:RepA w (aM w (aI a.tmps (fun t=>if t=5000+d then .pointer (some ⟨b,0,none⟩) else hid t)) (E.put (5000+d) (.box cs))) (fun _=>0) (fun _=>0) [.pointer (some ⟨b,0,none⟩)]
   [.ref (5000+d) (fX ((E.put (5000+d) (.box cs)).ep (5000+d)) []) [] ⟨0,0,0⟩]:=
  .ref _ _ _ _ _ _ _ _ _ _ ay (fun u hu=>by cases hu; exact⟨⟨b,0,none⟩,rfl,by rw[lQ4,lL2,add_zero]⟩) RepA.znil
 obtain⟨XP',P2⟩:=PR.ofRel R' hr (fun _=>rfl) (fun b hb=>absurd rfl hb);exact bG P2 (fun t ht=>by rw[lO A7]; exact hh t ht) hd
theorem aeS (w:World) (o:Obj):(w.alloc o).heap[w.heap.size]?=some o:=by
 show (w.heap.push o)[w.heap.size]?=some o;simp
theorem xC (w:World) (t:TypeId) (v:Value):(newVar t v).run P w=.ok ⟨w.heap.size,0,none⟩ (w.alloc (.cells v.cells t)):=by
 simp[newVar,newRow]
theorem aio:∀ (l:List AV),fW l=true->bV l=false:=by
 intro l;induction l with
 | nil=>intro _; rfl
 | cons a l ih=>
  intro h;cases a <;> first | (simp only[fW,lM] at h; simp[bV,AV.owns,ih h.2]) | (simp only[fW] at h; simp[bV,AV.owns,ih h]) | (simp[fW] at h)
theorem aip {t:TypeId} {x:Operand} {o1:O} {d:Nat} {E':Env} (ho:o.op=.box t x) (hd:o.dst=some d) (aj:d<B.n) (hn:B.n<=1000)
  (hx:OpdOk B.n x o1) (G:bC B hv w a E) (h:ev E (.box d o1)=some E') :
  o.wp P a w (fun a' w'=>bC B hv w' a' E') Q:=by
 simp only[ev] at h;have go:∀ {g:AV × Env} {hid:Nat->Value} {Fs' Xs':Nat->aH} {FP' XP':aH},(∀ t,t<2000->hid t=hv t)->PR B hid w a g.2 Fs' Xs' FP' XP' [a.eval x] [g.1]->plain g.1=true ->
   o.wp P a w (fun a' w'=>bC B hv w' a' ((g.2.put (5000+d) (.box (cellsOf g.1))).put d (.ref (5000+d) (fX ((g.2.put (5000+d) (.box (cellsOf g.1))).ep (5000+d)) []) [] ⟨0,0,0⟩))) Q:=by
  intro g hid Fs' Xs' FP' XP' hh P' hp;have P2:=P'.rerep (i7 P'.rep hp);obtain⟨FP2,P3⟩:=PR.wrap (v:=.pointer (some ⟨w.heap.size,0,none⟩)) (x:=.box (cellsOf g.1)) (w':=w.alloc (.cells (a.eval x).cells t)) (o:=.cells (a.eval x).cells t) P2 rfl (fun hr=>
   .box _ FP' (fun _=>0) _ XP' (fun _=>0) w.heap.size (a.eval x).cells t (0,0) _ _ _ (aeS _ _) (by intro o ho hc; omega) hr RepA.znil (fun _=>by omega) (fun _=>by omega))
  refine bP (v:=.pointer (some ⟨w.heap.size,0,none⟩)) (w':=w.alloc (.cells (a.eval x).cells t)) ?_ hd (ain P3 hh aj hn);rw[execOp,ho];simp[Instr.box,xC]
 obtain⟨hid,Fs,Xs,R,hh⟩:=G;split at h
 ·rename_i hl;cases h;obtain⟨F,X,r,_,hX,_⟩:=bJ R hx;have hF:∀ b,F b=0:=fI r (by
   generalize val E o1=y at hl;cases y <;> first | cases hl | (simp only[mL] at hl; simp[bV,AV.owns,aio _ hl]))
  obtain⟨XP',P'⟩:=PR.ofRel R r hF hX;exact go (g:=(val E o1,E)) hh P' (by
   show plain (val E o1)=true;generalize val E o1=y at hl;cases y <;> first | cases hl | rfl)
 ·cases hg:dR E o1 with
  | none=>simp[hg] at h
  | some g=>
   simp only[hg,lE] at h;split at h
   case isFalse=>cases h
   rename_i hp;cases h;obtain⟨Fs',Xs',FP',XP',P'⟩:=dN (x':=g.1) (E':=g.2) hx (PR.nil R) hg;simp only[lI1] at P';exact go hh P' hp
theorem aeT {lk:Lk}:∀ (vs:List Value) (ts:List TV),dS vs ts=true->RepA w lk (fun _=>0) (fun _=>0) vs (ts.map TV.av):=by
 intro vs ts
 fun_induction dS vs ts with
 | case1=>intro _; exact RepA.znil
 | case2 vs ts ih=>intro h; exact .bool _ _ _ _ _ (ih h)
 | case3 k vs k' ts ih=>intro h; simp at h; obtain⟨rfl,h⟩:=h; exact .int _ _ _ _ _ _ (ih h)
 | case4 s vs ts ih=>
  intro h; simp at h;have hs:Value.string s=cN []:=by
   cases s with | mk d=>simp[cN] at h ⊢; exact h.1
  rw[hs];exact .str _ _ [] _ _ (ih h.2)
 | case5 vs s ts ih=>intro h; exact .own _ (fun _=>0) (fun _=>0) _ s [] _ _ _ (.own0 _ s [] [] (.nil _ _ fun _=>rfl)) (ih h) (fun _=>rfl)
 | case6=>intro h; cases h
theorem tK:∀ (vs:List Value) (ts:List TV),dS vs ts=true->Row w true (fun _=>0) vs ts:=by
 intro vs ts
 fun_induction dS vs ts with
 | case1=>intro _; exact .nil _ _ fun _=>rfl
 | case2 vs ts ih=>intro h; exact .bool _ _ _ _ _ (ih h)
 | case3 k vs k' ts ih=>intro h; simp at h; obtain⟨rfl,h⟩:=h; exact .int _ _ _ _ _ _ (ih h)
 | case4 s vs ts ih=>
  intro h; simp at h;have hs:Value.string s=cN []:=by
   cases s with | mk d=>simp[cN] at h ⊢; exact h.1
  rw[hs];exact .str _ _ [] _ _ (ih h.2)
 | case5 vs s ts ih=>intro h; exact .own0 _ s vs ts (ih h)
 | case6=>intro h; cases h
structure ZeroOk (P:Program) (t:TypeId) (ts:List TV):Prop where
 ex:∃ i z,P.info? t=some i/\i.zero=some z/\dS z.cells.toList ts=true
theorem nR {t:TypeId} {ts:List TV} (h:aaL P t=some ts):ZeroOk P t ts:=by
 unfold aaL at h;cases h1:anV P 10 t with
 | none=>simp[h1] at h
 | some ts'=>
  cases h2:P.info? t with
  | none=>simp[h1,h2] at h
  | some i=>
   cases h3:i.zero with
   | none=>simp[h1,h2,h3] at h
   | some z=>
    simp only[h1,h2,h3,lE] at h;split at h
    ·cases h; exact⟨i,z,h2,h3,by assumption⟩
    ·cases h
theorem aiq {t:TypeId} {zero:List TV} {d:Nat} {E':Env} (ho:o.op=.alloc t) (hd:o.dst=some d) (aj:d<B.n) (hn:B.n<=1000)
  (hz:ZeroOk P t zero) (G:bC B hv w a E) (h:ev E (.alc d zero)=some E') :
  o.wp P a w (fun a' w'=>bC B hv w' a' E') Q:=by
 simp only[ev,Option.some.injEq] at h;subst h;obtain⟨⟨i,z,hi,im,io⟩⟩:=hz;obtain⟨hid,Fs,Xs,R,hh⟩:=G;have P0:=PR.nil R;have P2:PR B hid w a E Fs Xs (fun _=>0) (fun _=>0) z.cells.toList (zero.map TV.av):=P0.rerep (aeT _ _ io);obtain⟨FP2,P3⟩:=PR.wrap (v:=.pointer (some ⟨w.heap.size,0,none⟩)) (x:=.box (zero.map TV.av)) (w':=w.alloc (.cells z.cells t)) (o:=.cells z.cells t) P2 rfl (fun hr=>
   .box _ (fun _=>0) (fun _=>0) _ (fun _=>0) (fun _=>0) w.heap.size z.cells t (0,0) _ _ _ (aeS _ _) (by intro o ho hc; omega) hr RepA.znil (fun _=>by omega) (fun _=>by omega))
 refine bP (v:=.pointer (some ⟨w.heap.size,0,none⟩)) (w':=w.alloc (.cells z.cells t)) ?_ hd (ain P3 hh aj hn);rw[execOp,ho];simp[Instr.alloc,zeroValue,typeInfo,hi,im,xC]
inductive OpdsOk (n:Nat):List Operand->List O->Prop where
 | nil:OpdsOk n [] []
 | cons {x:Operand} {o:O} {xs:List Operand} {os:List O} (h:OpdOk n x o) (t:OpdsOk n xs os):OpdsOk n (x::xs) (o::os)
theorem alg (R:Rel B hid w a E Fs Xs):∀ {ps:List Operand} {os:List O},OpdsOk B.n ps os->bV (os.map (val E))=false ->
  ∃ X,RepA w (aM w (aI a.tmps hid) E) (fun _=>0) X (ps.map a.eval) (os.map (val E))/\∀ b,X b≠0->∃ t,Xs t b≠0:=by
 intro ps os h;induction h with
 | nil=>intro _; exact⟨_,RepA.znil,fun b hb=>absurd rfl hb⟩
 | cons h1 _ ih=>
  intro ho;simp[bV] at ho;obtain⟨X2,r2,x2⟩:=ih (by simpa using ho.2);obtain⟨F,X,hr,_,hX,_⟩:=bJ R h1;have hz:=fI hr (by simpa [bV] using ho.1);refine⟨fun b=>X b+X2 b,RepA.cons (hr.foot (G:=fun _=>0) (fun b=>(hz b).symm) (fun _=>rfl)) r2 (fun b=>rfl) (fun b=>rfl),?_⟩;intro b hb;by_cases e:X b=0
  ·exact x2 b (by (try dsimp only at hb); omega)
  ·exact hX b e
theorem air {f:Nat} {ps:Array Operand} {os:List O} {d:Nat} {E':Env} (ho:o.op=.makeFunc (.func f) #[] ps) (hd:o.dst=some d) (aj:d<B.n)
  (hx:OpdsOk B.n ps.toList os) (G:bC B hv w a E) (h:ev E (.mkf d f os)=some E') :
  o.wp P a w (fun a' w'=>bC B hv w' a' E') Q:=by
 simp only[ev] at h;split at h
 ·cases h
 rename_i ax;cases h;refine bP (v:=.func (.func f) #[] (ps.map a.eval)) (w':=w) ?_ hd ?_
 ·rw[execOp,ho];simp[Instr.makeFunc]
 ·refine fF G aj fun hid Fs Xs R=>?_
  obtain⟨X,hr,hX⟩:=alg R hx (by simpa using ax);have e:(ps.map a.eval)=(ps.toList.map a.eval).toArray:=by rw[<-lH5]
  rw[e];exact⟨fun _=>0,X,.fn _ (fun _=>0) (fun _=>0) _ X (fun _=>0) f _ _ _ _ hr RepA.znil (fun _=>rfl) (fun _=>by omega),fun _=>rfl,hX⟩
theorem aeU {α:Type} (L:List α) (m:Nat) (c:α) (l:List α) (h:m+(l.length+1)<=L.length):lay (L.set m c) (m+1) l=lay L m (c::l):=by
 unfold lay;have h1:(L.set m c).take (m+1)=L.take m++[c]:=by
  apply lB2;intro i;simp only[lT,lV3,lB4,lH];rw[lB1 A7];by_cases e:i<m
  ·have:m≠i:=by omega
   simp[e,this,Nat.lt_succ_of_lt e]
  ·by_cases e2:i=m
   ·subst e2; simp; omega
   ·have:¬ i<m+1:=by omega
    simp[e,this];omega
 have h2:(L.set m c).drop (m+1+l.length)=L.drop (m+(l.length+1)):=by
  rw[List.drop_set_of_lt A7];congr 1;omega
 rw[h1,h2];simp
theorem ais {α:Type}:∀ (l:List α) (k off:Nat) (A:Array α),off+k+l.length<=A.size ->
  ((l.zipIdx k).foldl (fun cs (p:α × Nat)=>cs.setIfInBounds (off+p.2) p.1) A).toList=lay A.toList (off+k) l:=by
 intro l;induction l with
 | nil=>intro k off A h; simp[lay]
 | cons c l ih=>
  intro k off A h;simp only[lZ] at h;simp only[List.zipIdx_cons,lG3];rw[ih (k+1) off _ B0];rw[Array.toList_setIfInBounds,<-lQ1,aeU _ _ _ _ B0]
theorem aaV {places:Nat->Option (Nat × Nat)} {C:Array Value} {i off sz:Nat} {v:Value} (hp:places i=some (off,sz)) (hs:v.cells.size=sz) (hle:off+sz<=C.size) :
  ∃ C',C'.toList=lay C.toList off v.cells.toList/\∀ rest,Instr.fill places C ((i,v)::rest)=Instr.fill places C' rest:=by
 refine⟨v.cells.zipIdx.foldl (fun cs (c,j)=>cs.setIfInBounds (off+j) c) C,?_,fun rest=>?_⟩
 ·have:=ais v.cells.toList 0 off C B0;rw[lT3] at this;rw[<-this,<-Array.foldl_toList,Array.toList_zipIdx]
 ·simp only[Instr.fill,hp];rw[lO B0]
theorem fA {α:Type} (L:List α) (m:Nat) (l:List α) (h:m+l.length<=L.length):(lay L m l).length=L.length:=by
 simp[lay]; omega
theorem PR.lay {zs us:List Value} {cs xs:List AV} (P1:PR B hid w a E Fs Xs FP XP (zs++us) (cs++xs)) (hz:zs.length=cs.length) (off:Nat) (h:off+us.length<=zs.length) :
  ∃ FP' XP',PR B hid w a E Fs Xs FP' XP' (Awp.lay zs off us) (Awp.lay cs off xs):=by
 obtain⟨A1,A2,Y1,Y2,q1,q2,e1,e2⟩:=RepA.split zs cs hz P1.rep;have hl:=q2.length;have q1':RepA w (aM w (aI a.tmps hid) E) A1 Y1 (zs.take off++zs.drop off) (cs.take off++cs.drop off):=by simpa using q1
 obtain⟨A3,A4,Y3,Y4,q3,q4,e3,e4⟩:=RepA.split _ _ C0 q1';have q4':RepA w (aM w (aI a.tmps hid) E) A4 Y4 ((zs.drop off).take us.length++zs.drop (off+us.length)) ((cs.drop off).take us.length++cs.drop (off+us.length)):=by
  rw[<-lA2,<-lA2,lJ,lJ]; exact q4
 obtain⟨A5,A6,Y5,Y6,q5,q6,e5,e6⟩:=RepA.split _ _ C0 q4';refine⟨fun b=>A3 b+A2 b+A6 b,fun b=>Y3 b+Y2 b+Y6 b,P1.shrink ?_ ?_ ?_⟩
 ·unfold Awp.lay;rw[<-hl];exact RepA.append (RepA.append q3 q2 (fun _=>rfl) (fun _=>rfl)) q6 (fun _=>rfl) (fun _=>rfl)
 ·intro b; have:=e1 b; have:=e3 b; have:=e5 b; (try dsimp only); omega
 ·intro b; have:=e2 b; have:=e4 b; have:=e6 b; (try dsimp only); omega
theorem aaW (R:Rel B hid w a E Fs Xs) {F X:aH} {v:Value} {x:AV} (h:RepA w (aM w (aI a.tmps hid) E) F X [v] [x]) (hp:dF E x=true) :
  RepA w (aM w (aI a.tmps hid) E) F X v.cells.toList (cellsOf x):=by
 by_cases hq:plain x=true
 ·exact i7 h hq
 cases x <;> simp only[plain,not_true_eq_false] at hq
 case undef=>cases hp
 case lnk r e p=>
  simp only[dF,lI2] at hp;obtain⟨⟨s,es⟩,hn⟩:=hp;obtain⟨hd,G,ak,ay⟩:=g6 R hn;have hvv:v=hd:=by
   cases h with
   | lnk _ _ _ _ _ o _ _ _ ho hv' _=>rw[ay] at ho; cases ho; exact hv' _ rfl
  have hv:v.cells.toList=[v]:=by
   subst hvv;rcases Row.sl_inv ak with ⟨rfl,_⟩ | ⟨_,_,_,_,_,_,_,_,rfl,_⟩ <;> rfl
  rw[hv]; exact h
 case sub r e p s lo n=>
  simp only[dF,lI2] at hp;obtain⟨⟨s',es⟩,hn⟩:=hp;obtain⟨hd,G,ak,ay⟩:=g6 R hn;have hv:v.cells.toList=[v]:=by
   cases h with
   | sub _ _ _ _ _ _ _ _ o _ _ _ ho hv' _=>
    rw[ay] at ho; cases ho;obtain⟨base,len,cap,a',_,rfl,_⟩:=hv' _ rfl;rfl
  rw[hv]; exact h
 case ref r e p st=>
  obtain⟨u,ay⟩:=aia R (r:=r) (e:=e) (p:=p) hp;have hv:v.cells.toList=[v]:=by
   cases h with
   | ref _ _ _ _ _ _ o _ _ _ ho hv' _=>
    rw[ay] at ho; cases ho;obtain⟨_,_,rfl⟩:=hv' _ rfl;rfl
  rw[hv]; exact h
inductive PartsOk (P:Program) (n:Nat) (places:Nat->Option (Nat × Nat)):List (Nat × Operand)->List (Nat × Nat × O)->Prop where
 | nil:PartsOk P n places [] []
 | cons {i off sz:Nat} {x:Operand} {o:O} {ps:List (Nat × Operand)} {l:List (Nat × Nat × O)} (hp:places i=some (off,sz)) (h:OpdOk n x o) (t:PartsOk P n places ps l) :
   PartsOk P n places ((i,x)::ps) ((off,sz,o)::l)
theorem acW {places:Nat->Option (Nat × Nat)}:∀ {ps:List (Nat × Operand)} {l:List (Nat × Nat × O)},PartsOk P B.n places ps l->∀ {E E':Env} {cs cs':List AV} {C:Array Value} {Fs Xs:Nat->aH} {FP XP:aH},
  PR B hid w a E Fs Xs FP XP C.toList cs->mK E cs l=some (cs',E') ->
  ∃ C' Fs' Xs' FP' XP',Instr.fill places C (ps.map fun p=>(p.1,a.eval p.2))=some C'/\PR B hid w a E' Fs' Xs' FP' XP' C'.toList cs':=by
 intro ps l h;induction h with
 | nil=>
  intro E E' cs cs' C Fs Xs FP XP P1 hg;simp only[mK,Option.some.injEq,Prod.mk.injEq] at hg;obtain⟨rfl,rfl⟩:=hg;exact⟨C,_,_,_,_,rfl,P1⟩
 | cons hp h1 _ ih=>
  intro E E' cs cs' C Fs Xs FP XP P1 hg;rename_i i off sz x o1 ps l _;simp only[mK] at hg;split at hg
  case isFalse=>cases hg
  rename_i hc;obtain⟨cw,bx,dj⟩:=hc;obtain⟨Fs1,Xs1,FP1,XP1,P2⟩:=gG h1 P1;have oh:=P1.rep.length;obtain⟨A1,A2,Y1,Y2,q1,q2,e1,e2⟩:=RepA.split _ _ oh P2.rep;have q2':=aaW P2.rel q2 dj;have P3:=P2.rerep (RepA.append q1 q2' e1 e2);have ac:=q2'.length;obtain⟨FP2,XP2,P4⟩:=P3.lay oh off (by rw[ac,cw,oh]; exact bx);obtain⟨C1,eg,oi⟩:=aaV (v:=a.eval x) hp (by rw[<-cw,<-ac]; simp) (by rw[<-lD1,oh]; exact bx);rw[<-eg] at P4;obtain⟨C',Fs',Xs',FP',XP',hf,P5⟩:=ih P4 hg;exact⟨C',Fs',Xs',FP',XP',by simp only[lR]; rw[oi]; exact hf,P5⟩
theorem ait {t:TypeId} {fs:Array Field} {places:List (Nat × Nat)} {ps:Array (Nat × Operand)} {zero:List TV} {l:List (Nat × Nat × O)} {d:Nat} {E':Env} (ho:o.op=.build t ps) (hd:o.dst=some d) (aj:d<B.n)
  (hu:P.underlying t=some (.struct fs)) (fu:fs.toList.mapM (fun f=>(P.info? f.type).map fun i=>(f.offset,i.size))=some places)
  (hz:ZeroOk P t zero) (kn:PartsOk P B.n (places.toArray[·]?) ps.toList l) (G:bC B hv w a E) (h:ev E (.bld d zero l)=some E') :
  o.wp P a w (fun a' w'=>bC B hv w' a' E') Q:=by
 simp only[ev] at h;cases hg:mK E (zero.map TV.av) l with
 | none=>simp[hg] at h
 | some g=>
  simp[hg] at h; subst h;obtain⟨⟨i,z,hi,im,io⟩⟩:=hz;obtain⟨hid,Fs,Xs,R,hh⟩:=G;have P0:=(PR.nil R).rerep (aeT _ _ io);obtain⟨C',Fs',Xs',FP',XP',hf,P1⟩:=acW (cs':=g.1) (E':=g.2) kn P0 hg;have P2:PR B hid w a g.2 Fs' Xs' FP' XP' [.agg C'] [.agg g.1]:=by
   refine P1.rerep ?_;have:=RepA.agg (w:=w) _ FP' (fun _=>0) _ XP' (fun _=>0) _ _ [] [] P1.rep RepA.znil (fun x=>rfl) (fun x=>rfl);simpa using this
  refine bP (v:=.agg C') (w':=w) ?_ hd (bG P2 hh aj);rw[execOp,ho];have hb:=run_build (P:=P) w t (ps.map fun p=>(p.1,a.eval p.2)) C' (by
   unfold Program.built;simp only[hi,hu,im,fu];rw[lH5]; exact hf)
  simp[hb]
theorem RepA.to_rows {lk:Lk}:∀ {vs:List Value} {xs:List AV} {ts:List TV} {F X:aH},RepA w lk F X vs xs->tvs xs=some ts->Row w true F vs ts/\∀ b,X b=0:=by
 intro vs xs;induction xs generalizing vs with
 | nil=>
  intro ts F X h e;simp[tvs] at e; subst e;cases h with | nil _ _ h1 h2=>exact⟨.nil _ _ h1,h2⟩
 | cons x xs ih=>
  intro ts F X h e;cases vs with
  | nil=>have:=h.length; simp at this
  | cons v vs=>
   simp only[tvs] at e;cases h1:x.tv with
   | none=>simp[h1] at e
   | some t=>
    cases h2:tvs xs with
    | none=>simp[h1,h2] at e
    | some ts'=>
     simp[h1,h2] at e; subst e;obtain⟨A1,A2,Y1,Y2,q1,q2,e1,e2⟩:=RepA.uncons h;obtain⟨r1,z1⟩:=RepA.to_row q1 h1;obtain⟨r2,z2⟩:=ih q2 h2;exact⟨Row.cons r1 r2 e1,fun b=>by rw[e2,z1,z2]⟩
theorem RepA.of_rows {lk:Lk}:∀ {vs:List Value} {ts:List TV} {F:aH},Row w true F vs ts->RepA w lk F (fun _=>0) vs (ts.map TV.av):=by
 intro vs ts;induction ts generalizing vs with
 | nil=>
  intro F h;have:=h.length;cases vs with
  | nil=>cases h with | nil _ _ h1=>exact .nil _ _ h1 fun _=>rfl
  | cons v vs=>simp at this
 | cons t ts ih=>
  intro F h;cases vs with
  | nil=>have:=h.length; simp at this
  | cons v vs=>
   obtain⟨A1,A2,q1,q2,e1⟩:=Row.uncons h;exact RepA.cons (RepA.of_row q1) (ih q2) e1 (fun _=>rfl)
theorem aqu (t:TV):t.av.tv=some t:=by cases t <;> rfl
theorem anp (ts:List TV):tvs (ts.map TV.av)=some ts:=by
 induction ts with
 | nil=>rfl
 | cons t ts ih=>simp[tvs,aqu,ih]
theorem aiu (s:Nat):∀ (vs:List Value) (k:Nat) (C:Array Value),(∀ v ∈ vs,v.cells.size=s)->(k+vs.length)*s=C.size ->
  ∃ C',Instr.fill (fun i=>some (i*s,s)) C ((vs.zipIdx k).map fun p=>(p.2,p.1))=some C'/\C'.toList=C.toList.take (k*s)++(vs.map fun v=>v.cells.toList).flatten:=by
 intro vs;induction vs with
 | nil=>intro k C _ h; exact⟨C,rfl,by simp at h; rw[h,<-lD1,lX]; simp⟩
 | cons v vs ih=>
  intro k C hv h;have ac:k*s+s+vs.length*s=C.size:=by
   rw[<-h,lZ,show k+(vs.length+1)=k+1+vs.length by omega,lH2,lH2]; omega
  have be:v.cells.size=s:=hv v A8;obtain⟨C1,eg,hf⟩:=aaV (places:=fun i=>some (i*s,s)) (C:=C) (i:=k) (v:=v) rfl be A7;have hC1s:C1.size=C.size:=by
   rw[<-lD1,eg,fA _ _ _ B0]; simp
  obtain⟨C',h1,h2⟩:=ih (k+1) C1 (fun v hv'=>hv v (by simp[hv'])) (by rw[hC1s,<-h]; simp only[lZ]; congr 1; omega);refine⟨C',?_,?_⟩
  ·simp only[List.zipIdx_cons,lR,hf]; exact h1
  ·rw[h2,eg];simp only[lay,lR,lD3];rw[<-lM2];congr 1;have e:(k+1)*s=k*s+s:=by rw[lH2,lM4]
   rw[e];have h3:(C.toList.take (k*s)++v.cells.toList).length=k*s+s:=by simp; omega
   rw[<-h3,List.take_left]
theorem acX:∀ {ps:List Operand} {os:List O},OpdsOk B.n ps os->∀ {E E':Env} {zs:List Value} {ys:List AV} {rows:List (List TV)} {s:Nat} {Fs Xs:Nat->aH} {FP XP:aH},
  PR B hid w a E Fs Xs FP XP zs ys->j8 E os=some (rows,E')->(∀ r ∈ rows,r.length=s) ->
  ∃ Fs' Xs' FP' XP',PR B hid w a E' Fs' Xs' FP' XP' (zs++(ps.map fun x=>(a.eval x).cells.toList).flatten) (ys++rows.flatten.map TV.av)/\rows.length=ps.length/\(∀ x ∈ ps,(a.eval x).cells.size=s):=by
 intro ps os h;induction h with
 | nil=>
  intro E E' zs ys rows s Fs Xs FP XP P1 hg hs;simp only[j8,Option.some.injEq,Prod.mk.injEq] at hg;obtain⟨rfl,rfl⟩:=hg;exact⟨_,_,_,_,by simpa using P1,rfl,by simp⟩
 | cons h1 _ ih=>
  intro E E' zs ys rows s Fs Xs FP XP P1 hg hs;rename_i x o1 ps os _;simp only[j8] at hg;cases hq:dR E o1 with
  | none=>simp[hq] at hg
  | some g=>
   simp only[hq,lE] at hg;split at hg
   case isFalse=>cases hg
   rename_i hp;cases ht:tvs (cellsOf g.1) with
   | none=>simp[ht] at hg
   | some ts=>
    simp only[ht,lE] at hg;cases hr:j8 g.2 os with
    | none=>simp[hr] at hg
    | some y=>
     simp only[hr,lD,Option.some.injEq,Prod.mk.injEq] at hg;obtain⟨rfl,rfl⟩:=hg;obtain⟨Fs1,Xs1,FP1,XP1,P2⟩:=dN (x':=g.1) (E':=g.2) h1 P1 hq;obtain⟨A1,A2,Y1,Y2,q1,q2,e1,e2⟩:=RepA.split _ _ P1.rep.length P2.rep;have q3:=i7 q2 hp;obtain⟨q4,z4⟩:=RepA.to_rows q3 ht;have P3:=P2.rerep (RepA.append q1 (RepA.of_rows (lk:=aM w (aI a.tmps hid) g.2) q4) e1 (fun b=>by rw[e2,z4]));obtain⟨Fs',Xs',FP',XP',P4,h5,h6⟩:=ih (rows:=y.1) (E':=y.2) P3 hr (fun r hr'=>hs r (by simp[hr']));have ar:(a.eval x).cells.size=s:=by
      have:=q4.length;rw[lD1] at this;rw[this]; exact hs ts A8
     refine⟨Fs',Xs',FP',XP',by simpa using P4,by simp[h5],?_⟩;intro z hz;rcases lN.1 hz with rfl | hz
     ·exact ar
     ·exact h6 z hz
theorem y0 {C:Array Value} {ty:TypeId} {rows:List (List TV)} {cs:List Value} {s cap:Nat} (P1:PR B hid w a E Fs Xs FP XP cs (rows.flatten.map TV.av)) (hs:∀ r ∈ rows,r.length=s)
  (hcap:cap*s<=C.size) (hle:rows.length<=cap) (hc:∀ k,k<cs.length->C[k]?=cs[k]?) (h:w'.heap=w.heap.push (.cells C ty)) (hk:Quiet w w':=by exact⟨rfl,rfl⟩) :
  ∃ FP',PR B hid w' a E Fs Xs FP' XP [.slice (some ⟨w.heap.size,0,none⟩) rows.length cap] [.own s rows]:=by
 refine PR.wrap P1 h (hk:=hk) fun hr=>?_
 obtain⟨q,z⟩:=RepA.to_rows hr (anp _);have hcs:cs.length=rows.length*s:=by rw[q.length,bS _ hs]
 have:=aaT (n0:=w.heap.size) (C:=C) (ty:=ty) (fr:=(0,0)) (s:=s) (cap:=cap) (by rw[h]; simp) ⟨by intro o ho hc; omega,by simp⟩ hcap hle hs hcs hc q;exact .own _ _ (fun _=>0) _ _ _ _ _ _ this (.nil _ _ (fun _=>rfl) z) (fun x=>rfl)
theorem uF (w:World) (t e:TypeId) (ie:TypeInfo)
  (hu:P.underlying t=some (.slice e)) (lz:P.info? e=some ie) :
  (Instr.buildSlice t 0 #[]).run P w=.ok (.slice (some ⟨w.heap.size,0,none⟩) 0 0) (w.alloc (.cells #[] e)):=by
 have e0:Array.range 0=#[]:=rfl;simp[Instr.buildSlice,run_underlying hu,sizeOf,typeInfo,lz,newRow,Instr.fill,e0]
theorem aiv {t e:TypeId} {n s d:Nat} {ps:Array (Nat × Operand)} {os:List O} {ie:TypeInfo} {z:Value} {E':Env} (ho:o.op=.buildSlice t n ps) (hd:o.dst=some d) (aj:d<B.n)
  (hu:P.underlying t=some (.slice e)) (lz:P.info? e=some ie) (hz:ie.zero=some z) (gf:ie.size=s) (ij:s≠0) (hn:n*s<=2^24) {xs:List Operand} (kn:ps.toList=(xs.zipIdx 0).map fun p=>(p.2,p.1))
  (hxn:xs.length=n) (hx:OpdsOk B.n xs os) (G:bC B hv w a E) (h:ev E (.bsl d s os)=some E') :
  o.wp P a w (fun a' w'=>bC B hv w' a' E') Q:=by
 simp only[ev] at h;cases hg:j8 E os with
 | none=>simp[hg] at h
 | some g=>
  simp only[hg,lE] at h;split at h
  case isFalse=>cases h
  rename_i bi;cases h;simp only[lP,beq_iff_eq] at bi;obtain⟨hid,Fs,Xs,R,hh⟩:=G;obtain⟨Fs',Xs',FP',XP',P1,h5,h6⟩:=acX (rows:=g.1) (E':=g.2) hx (PR.nil R) hg bi;simp only[lI1] at P1;obtain⟨C',hf,hC'⟩:=aiu s (xs.map a.eval) 0 ((Array.range (n*s)).map (z.cells[· % z.cells.size]!)) (by simpa using h6) (by simp[hxn]);simp only[lQ4,List.take_zero,lI1,lK5] at hC';have ac:g.1.length=n:=by rw[h5,hxn]
  have hCs:C'.size=n*s:=by
   have:=P1.rep.length;rw[lU1,bS _ bi,ac] at this;rw[<-lD1,hC']; exact this
  obtain⟨FP2,P2⟩:=y0 (C:=C') (ty:=e) (cap:=n) (w':=w.alloc (.cells C' e)) P1 bi A7 A7 (by
   intro k hk;rw[<-lR1,hC'];rfl) rfl
  rw[ac] at P2;refine bP (v:=.slice (some ⟨w.heap.size,0,none⟩) n n) (w':=w.alloc (.cells C' e)) ?_ hd (bG P2 hh aj);rw[execOp,ho];have hpe:(ps.map fun p=>(p.1,a.eval p.2)).toList=((xs.map a.eval).zipIdx 0).map fun p=>(p.2,p.1):=by
   rw[lH5,kn,List.zipIdx_map,lK5,lK5];rfl
  by_cases fi:n=0
  ·subst fi;have oe:xs=[]:=by simpa using hxn
   subst oe;have hp0:ps=#[]:=by simpa using kn
   subst hp0;have hC0:C'=#[]:=by simpa using hCs
   subst hC0;simp[uF w t e ie hu lz]
  ·have:=run_buildSlice (P:=P) w t e n (ps.map fun p=>(p.1,a.eval p.2)) C' ie z hu lz hz (by rw[gf]; omega) (by rw[gf]; exact Nat.mul_ne_zero fi ij) (by
    rw[hpe,gf]; exact hf)
   simp[this]
theorem anq {α:Type} (L:List α):∀ (m k:Nat),k<m*L.length->(List.replicate m L).flatten[k]?=L[k%L.length]?:=by
 intro m;induction m with
 | zero=>intro k h; omega
 | succ m ih=>
  intro k h;simp only[List.replicate_succ,lD3,lB4];rw[lH2,lM4] at h;by_cases e:k<L.length
  ·rw[lK e,Nat.mod_eq_of_lt e]
  ·rw[lO e,ih _ A7,Nat.mod_eq_sub_mod (a:=k) A7]
theorem aiw {t e:TypeId} {s bts d:Nat} {x y:Operand} {o1 o2:O} {zero:List TV} {ie:TypeInfo} {E':Env} (ho:o.op=.makeSlice t x y) (hd:o.dst=some d) (aj:d<B.n)
  (hu:P.underlying t=some (.slice e)) (lz:P.info? e=some ie) (gf:ie.size=s) (hbt:ie.bytes=bts) (hz:ZeroOk P e zero) (hx:OpdOk B.n x o1) (hy:OpdOk B.n y o2)
  (G:bC B hv w a E) (h:ev E (.mks d o1 o2 s bts zero)=some E') :
  o.wp P a w (fun a' w'=>bC B hv w' a' E') Q:=by
 simp only[ev] at h;split at h
 case h_2=>cases h
 rename_i k1 l k2 c e1 e2;split at h
 case isFalse=>cases h
 rename_i hc;obtain⟨cw,bx,dj,jw,gz⟩:=hc;cases h;have v1:=fZ G hx e1;have v2:=fZ G hy e2;obtain⟨⟨i,z,hi,im,io⟩⟩:=hz;rw[lz] at hi; cases hi;obtain⟨hid,Fs,Xs,R,hh⟩:=G;have dw:z.cells.size=s:=by
  have:=(tK (w:=w) _ _ io).length;rw[lD1] at this; omega
 let C:=madeCells z.cells (c.toNat*s)
 have hCs:C.size=c.toNat*s:=size_madeCells _ _;have ak:∀ (m:Nat),Row w true (fun _=>0) (List.replicate m z.cells.toList).flatten (List.replicate m zero).flatten:=by
  intro m;induction m with
  | zero=>exact .nil _ _ fun _=>rfl
  | succ m ih=>
   simp only[List.replicate_succ,lD3];exact Row.append (tK _ _ io) ih (fun _=>rfl)
 have P1:=(PR.nil R).rerep (RepA.of_rows (lk:=aM w (aI a.tmps hid) E) (ak l.toNat));obtain⟨FP2,P2⟩:=y0 (rows:=List.replicate l.toNat zero) (s:=s) (C:=C) (ty:=e) (cap:=c.toNat) (w':=w.alloc (.cells C e)) P1 (by
   intro r hr; rw[lY3 hr]; exact gz) A7 B0 (by
   intro k hk;have hL:z.cells.toList.length=s:=by rw[lD1,dw]
   have hk':k<l.toNat*z.cells.toList.length:=by
    rw[bS (s:=s) _ (by intro r hr; rw[lY3 hr]; exact hL),lU2] at hk;rw[hL]; exact hk
   rw[anq _ _ _ hk',hL];have ij:0<s:=by
    rcases Nat.eq_zero_or_pos s with h0 | h0
    ·rw[hL,h0] at hk'; omega
    ·exact h0
   have hmod:=Nat.mod_lt k ij;have hkc:k<c.toNat*s:=by
    have:l.toNat*s<=c.toNat*s:=lJ1 _ A7;rw[hL] at hk'; omega
   simp only[C,madeCells,Array.getElem?_map,Array.getElem?_range,hkc,lQ,lD,dw,lR1];rw[getElem!_pos z.cells (k%s) A7,lA1]) rfl
 simp only[lU2] at P2;refine bP (v:=.slice (some ⟨w.heap.size,0,none⟩) l.toNat c.toNat) (w':=w.alloc (.cells C e)) ?_ hd (bG P2 hh aj);rw[execOp,ho];have:=run_make (P:=P) w t e ie z hu lz im k1 k2 l c cw bx (by rw[hbt]; omega) A7;rw[gf,<-v1,<-v2] at this;simp[this,C]
theorem aeV {lk:Lk} {F X:aH} {vs:List Value} {xs:List AV} (h:RepA w lk F X vs xs):yV xs=true->∀ v ∈ vs,v.oneCell'=true:=by
 have sl1:∀ {b:Bool} {F:aH} {v:Value} {s:Nat} {es:List (List TV)},Row w b F [v] [.sl s es]->v.oneCell'=true:=by
  intro b F v s es h; cases h <;> rfl
 induction h with
 | nil F X hF hX=>intro _ v hv; cases hv
 | undef F X v vs as h ih=>intro ho; simp[yV,mD] at ho
 | agg F F1 F2 X X1 X2 us cs vs as h1 h hF hX ih1 ih=>intro ho; simp[yV,mD] at ho
 | tup F F1 F2 X X1 X2 us cs vs as h1 h hF hX ih1 ih=>intro ho; simp[yV,mD] at ho
 | lnk F X r e p o v vs as ho hv h ih=>intro ho; simp[yV,mD] at ho
 | sub F X r e p s lo n o v vs as ho hv h ih=>intro ho; simp[yV,mD] at ho
 | ref F X r e p st o v vs as ho hv h ih=>intro ho; simp[yV,mD] at ho
 | own F F1 F2 X s es v vs as h1 h hF ih=>
  intro ho u hu; simp[yV,mD] at ho;rcases lN.1 hu with rfl | hu
  ·exact sl1 h1
  ·exact ih ho u hu
 | ext F X X1 X2 s es v vs as h1 h hX ih=>
  intro ho u hu; simp[yV,mD] at ho;rcases lN.1 hu with rfl | hu
  ·exact sl1 h1
  ·exact ih ho u hu
 | extv F X X1 X2 s es v vs as h1 h hX ih=>
  intro ho u hu; simp[yV,mD] at ho;rcases lN.1 hu with rfl | hu
  ·exact sl1 h1
  ·exact ih ho u hu
 | _=>
  intro ho u hu; simp[yV,mD] at ho;rcases lN.1 hu with rfl | hu
  ·rfl
  ·rename_i ih _; first | exact ih ho u hu | (rename_i ih _; exact ih ho u hu) | (rename_i ih; exact ih ho u hu)
theorem cF (b:Nat):∀ (vs:List Value) (o:Nat) (w:World) (C:Array Value) (ty:TypeId) (fr:Nat × Nat),w.heap[b]?=some (.cells C ty fr)->o+vs.length<=C.size ->
  ∃ C2:Array Value,C2.toList=lay C.toList o vs/\(w.setCells b o vs).heap[b]?=some (.cells C2 ty fr)/\(∀ b',b'≠b->(w.setCells b o vs).heap[b']?=w.heap[b']?)/\Kept w (w.setCells b o vs):=by
 intro vs;induction vs with
 | nil=>intro o w C ty fr hb h; exact⟨C,by simp[lay],hb,fun _ _=>rfl,rfl,rfl,rfl⟩
 | cons v vs ih=>
  intro o w C ty fr hb h;simp only[lZ] at h;have h1:(w.setCell ⟨b,o,none⟩ v).heap[b]?=some (.cells (C.setIfInBounds o v) ty fr):=by
   simp[World.setCell,lW3,hb]
  obtain⟨C2,e1,e2,e3,e4⟩:=ih (o+1) (w.setCell ⟨b,o,none⟩ v) _ ty fr h1 B0;refine⟨C2,?_,e2,fun b' hb'=>?_,?_⟩
  ·rw[e1,Array.toList_setIfInBounds,aeU _ _ _ _ B0]
  ·simp only[World.setCells];rw[e3 b' hb'];simp[World.setCell,lW3,Ne.symm hb']
  ·simp only[World.setCells];exact⟨by rw[e4.size]; simp[World.setCell],by rw[e4.quiet.os]; rfl,by rw[e4.quiet.out]; rfl⟩
theorem pJ {t:TypeId} {v:Value} {b o sz:Nat} {C:Array Value} {ty:TypeId} {fr:Nat × Nat} (hs:oC P t=some sz) (hv:v.cells.size=sz) (hb:w.heap[b]?=some (.cells C ty fr)) (hfr:thaw C.size fr)
  (hle:o+sz<=C.size) (h1:∀ u ∈ v.cells.toList,u.oneCell'=true):(storeVar t ⟨b,o,none⟩ v).run P w=.ok () (w.setCells b o v.cells.toList):=by
 unfold oC at hs;cases hi:P.info? t with
 | none=>simp[hi] at hs
 | some i=>
  simp[hi] at hs;have:=run_storeCells_cells (P:=P) b o v.cells.toList 0 w (by
   intro j hj; simp at hj;have:o+j<C.size:=by omega
   simp[World.cell?,hb,this]) (by
   intro j hj; simp at hj;have:=hfr (o+0+j) A7;simp[World.frozen?,hb];simpa using this) h1
  simp only[lT3] at this;simp[storeVar,sizeOf,typeInfo,hi,hs,hv,this]
theorem PR.pokeG {vs vs':List Value} {xs xs':List AV} (P1:PR B hid w a E Fs Xs FP XP vs xs) {r:Nat} {p:bA} {u u':AV} (hg:b9 (E.f r) p=some u) (cr:kV (E.f r) p u'=true)
  (hroot':(cX (E.f r) p u').isRoot=true)
  (hw:∀ h Fu Xu,RepA w (aM w (aI a.tmps hid) E) Fu Xu [h] [u]->i4 w (aI a.tmps hid r) p=some h->(∀ b,Fu b<=1)->(∀ b,FP b=0\/Fu b=0)->(∀ b,XP b=0\/Fu b=0)->(∀ b,Xu b=0\/Fu b=0) ->
   (∀ b,Fu b=0->FP b=0->w'.heap[b]?=w.heap[b]?)/\∀ lk':Lk,(∀ r e p o,aM w (aI a.tmps hid) E r e p=some o->lk' r e p=some none\/lk' r e p=some o) ->
    ∃ G Y FP' XP',(∀ b,G b+FP' b<=Fu b+FP b)/\(∀ b,Y b<=Xu b+XP b)/\(∀ b,XP' b<=Xu b+XP b)/\RepA w' lk' G Y [h] [u']/\RepA w' lk' FP' XP' vs' xs')
  (ma:Kept w w') {E':Env} (hf':E'.f r=cX (E.f r) p u') (hne':∀ t,t≠r->E'.f t=E.f t/\E'.ep t=E.ep t)
  (hlk':∀ e p' o,aM w (aI a.tmps hid) E r e p'=some o->aM w' (aI a.tmps hid) E' r e p'=some none\/aM w' (aI a.tmps hid) E' r e p'=some o):∃ Fs' Xs' FP' XP',PR B hid w' a E' Fs' Xs' FP' XP' vs' xs':=by
 have ar:=ma.size;have R:=P1.rel;obtain⟨h,Fu,Fr,Xu,Xr,hF,hX,hu,ai,an⟩:=j7 p (R.rep r) hg;have mD:∀ b,Fu b+Fr b<=1:=fun b=>by rw[<-hF]; exact R.one r b
 have dFu:∀ b,FP b=0\/Fu b=0:=fun b=>by have:=P1.dis r b; have:=hF b; omega
 obtain⟨bm,hrest'⟩:=hw h Fu Xu hu ai (fun b=>by have:=mD b; omega) dFu
  (fun b=>by have:=P1.dx2 r b; have:=hF b; omega) (fun b=>by have:=R.disx r r b; have:=hF b; have:=hX b; omega)
 have samF:∀ t,t≠r->j6 w w' (Fs t):=fun t ht b hb=>bm b (by have:=R.dis t r b ht; have:=hF b; omega) (by have:=P1.dis t b; omega)
 have samX:∀ t,j6 w w' (Xs t):=fun t b hb=>bm b (by have:=R.disx r t b; have:=hF b; omega) (by have:=P1.dx1 t b; omega)
 obtain⟨G,Y,FP',XP',hG,hY,ng,aq,hand⟩:=hrest' (aM w' (aI a.tmps hid) E') (by
  intro q e p' o ho;by_cases hq:q=r
  ·subst hq; exact hlk' e p' o ho
  ·exact .inr (by rw[kW (w':=w') (a':=a) (hid':=hid) R (hne' _ hq).1 (hne' _ hq).2 rfl (samF q hq) (samX q)]; exact ho))
 have orgF:∀ b,Fu b+FP b≠0->B.F0 b≠0\/B.w0.heap.size<=b:=by
  intro b hb;by_cases e:FP b=0
  ·exact R.org r b (by have:=hF b; omega)
  ·exact P1.org b e
 have orgX:∀ b,Xu b+XP b≠0->(B.X0 b≠0\/B.F0 b≠0\/B.w0.heap.size<=b)/\b<w'.heap.size:=by
  intro b hb;by_cases e:XP b=0
  ·have:Xs r b≠0:=by have:=hX b; omega
   exact⟨R.orgx r b this,by rw[ar]; exact R.ltx r b this⟩
  ·have:=P1.orgx b e; exact⟨this.1,by rw[ar]; exact this.2⟩
 refine⟨fun t=>if t=r then fun b=>G b+Fr b else Fs t,fun t=>if t=r then fun b=>Y b+Xr b else Xs t,FP',XP',?_,hand,?_,?_,?_,?_,?_,?_,?_⟩
 rotate_left
 ·intro b; have:=mD b; have:=hG b; have:=P1.one b; have:=dFu b; omega
 ·intro t b;by_cases e:t=r
  ·subst e; simp only[lQ];have:=mD b; have:=hG b; have:=P1.one b; have:=dFu b; have:=P1.dis t b; have:=hF b; omega
  ·simp only[e,lN1];have:=hG b; have:=P1.dis t b; have:=R.dis t r b e; have:=hF b; omega
 ·intro t b;by_cases e:t=r
  ·subst e; simp only[lQ];have:=hG b; have:=hY b; have:=P1.dx3 b; have:=P1.dx1 t b; have:=P1.dx2 t b; have:=R.disx t t b; have:=hF b; have:=hX b; omega
  ·simp only[e,lN1];have:=hG b; have:=P1.dx1 t b; have:=R.disx r t b; have:=hF b; omega
 ·intro t b;by_cases e:t=r
  ·subst e; simp only[lQ];have:=hG b; have:=ng b; have:=P1.dx3 b; have:=P1.dx1 t b; have:=P1.dx2 t b; have:=R.disx t t b; have:=hF b; have:=hX b; omega
  ·simp only[e,lN1];have:=ng b; have:=P1.dx2 t b; have:=R.disx t r b; have:=hX b; omega
 ·intro b;have:=hG b; have:=ng b; have:=P1.dx3 b; have:=P1.dx1 r b; have:=P1.dx2 r b; have:=R.disx r r b; have:=hF b; have:=hX b; omega
 ·intro b hb; exact orgF b (by have:=hG b; omega)
 ·intro b hb; exact orgX b (by have:=ng b; omega)
 refine R.change (fun t=>t=r) R.size R.dfr ?_ ?_ ?_ ?_ ?_ ?_ ?_ ⟨by omega,ma.quiet⟩ ?_ ?_ ?_
 ·intro t ht; exact⟨(hne' t ht).1,(hne' t ht).2,rfl,by simp[ht],by simp[ht],samF t ht,samX t⟩
 ·intro q hq e p' o ho; subst hq; exact hlk' e p' o ho
 ·intro links t ht; subst ht;rw[hf']; simp only[lQ];exact(an w' _ (fun b hb=>bm b (by have:=mD b; omega) (by have:=P1.dis t b; have:=hF b; omega)) (fun b hb=>bm b (by have:=R.disx t t b; have:=hF b; have:=hX b; omega) (by have:=P1.dx1 t b; have:=hX b; omega)) links).2 u' G Y aq cr
 ·intro t ht b; simp only[ht,lQ];have:=mD b; have:=hG b; have:=P1.one b; have:=P1.dis r b; have:=hF b; omega
 ·intro t ht t' am b; subst ht; simp only[lQ,Ne.symm am,lN1];have:=hG b; have:=P1.dis t' b; have:=R.dis t t' b am; have:=hF b; omega
 ·intro t ht t' b; subst ht; simp only[lQ];by_cases e:t'=t
  ·simp only[e,lQ];have:=hG b; have:=hY b; have:=P1.dx3 b; have:=P1.dx1 t b; have:=P1.dx2 t b; have:=R.disx t t b; have:=hF b; have:=hX b; omega
  ·simp only[e,lN1];have:=hG b; have:=P1.dx1 t' b; have:=R.disx t t' b; have:=hF b; omega
 ·intro t ht t' b; subst ht; simp only[lQ];by_cases e:t'=t
  ·simp only[e,lQ];have:=hG b; have:=hY b; have:=P1.dx3 b; have:=P1.dx1 t b; have:=P1.dx2 t b; have:=R.disx t t b; have:=hF b; have:=hX b; omega
  ·simp only[e,lN1];have:=hY b; have:=P1.dx2 t' b; have:=R.disx t' t b; have:=hX b; omega
 ·intro b hb h0;refine bm b ?_ ?_
  ·by_cases e:Fu b=0
   ·exact e
   ·have:=orgF b A7; omega
  ·by_cases e:FP b=0
   ·exact e
   ·have:=orgF b A7; omega
 ·intro t ht b hb; subst ht; simp only[lQ] at hb;by_cases e:Fr b=0
  ·exact orgF b (by have:=hG b; omega)
  ·exact R.org t b (by have:=hF b; omega)
 ·intro t ht b hb; subst ht; simp only[lQ] at hb;by_cases e:Xr b=0
  ·exact orgX b (by have:=hY b; omega)
  ·have:Xs t b≠0:=by have:=hX b; omega
   exact⟨R.orgx t b this,by rw[ar]; exact R.ltx t b this⟩
theorem PR.poke {vs vs':List Value} {xs xs':List AV} (P1:PR B hid w a E Fs Xs FP XP vs xs) {r:Nat} {p:bA} {u u':AV} (hg:b9 (E.f r) p=some u) (cr:kV (E.f r) p u'=true)
  (hroot':(cX (E.f r) p u').isRoot=true)
  (hw:∀ h Fu Xu,RepA w (aM w (aI a.tmps hid) E) Fu Xu [h] [u]->i4 w (aI a.tmps hid r) p=some h->(∀ b,Fu b<=1)->(∀ b,FP b=0\/Fu b=0)->(∀ b,XP b=0\/Fu b=0)->(∀ b,Xu b=0\/Fu b=0) ->
   (∀ b,Fu b=0->FP b=0->w'.heap[b]?=w.heap[b]?)/\∀ lk':Lk,(∀ r e p o,aM w (aI a.tmps hid) E r e p=some o->lk' r e p=some none\/lk' r e p=some o) ->
    ∃ G Y FP' XP',(∀ b,G b+FP' b<=Fu b+FP b)/\(∀ b,Y b<=Xu b+XP b)/\(∀ b,XP' b<=Xu b+XP b)/\RepA w' lk' G Y [h] [u']/\RepA w' lk' FP' XP' vs' xs')
  (ma:Kept w w'):∃ Fs' Xs' FP' XP',PR B hid w' a (E.upd r (cX (E.f r) p u')) Fs' Xs' FP' XP' vs' xs':=
 PR.pokeG P1 hg cr hroot' hw ma pE (fun t ht=>⟨yU ht,t7 ht⟩) (fun e p' o ho=>t8 rfl pE hroot' rfl ho)
theorem agn {u u':TV} (hu:∀ q,(jZ u' q).isSome=true->(jZ u q).isSome=true):∀ (p:bA) (t:TV) (q:bA),jZ t p=some u->(jZ (aaE t p u') q).isSome=true->(jZ t q).isSome=true:=by
 intro p;induction p with
 | nil=>
  intro t q h hs;have h':t=u:=by cases t <;> simpa [jZ] using h
  subst h';have:aaE t [] u'=u':=by cases t <;> rfl
  rw[this] at hs;exact hu q hs
 | cons st p ih=>
  intro t q h hs;cases t with
  | sl s es=>
   cases q with
   | nil=>rfl
   | cons sq q=>
    simp only[jZ] at h;split at h
    case isFalse=>cases h
    simp only[aaE,jZ] at hs ⊢;split at hs
    case isFalse=>simp at hs
    rename_i eh oj;rw[lK oj];rw[lL1] at hs;cases h1:es[sq.i]? with
    | none=>rw[h1] at hs; simp at hs
    | some row=>
     rw[h1] at hs;simp only[lD4,lD,lE] at hs ⊢;by_cases e:st.i=sq.i
     ·simp only[e,lQ] at hs;rw[lL1] at hs;cases h2:row[sq.j]? with
      | none=>rw[h2] at hs; simp at hs
      | some c=>
       rw[h2] at hs;simp only[lD4,lD,lE] at hs ⊢;by_cases e2:st.j=sq.j
       ·simp only[e2,lQ] at hs;rw[e,h1,lE,e2,h2,lE] at h;exact ih c q h hs
       ·simpa [e2] using hs
     ·simp only[e,lN1] at hs;simpa using hs
  | _=>simp[jZ] at h
theorem apJ {t:TV} {s:Nat} {es:List (List TV)} (h:t.av=.own s es):t=.sl s es:=by
 cases t <;> simp[TV.av] at h;rw[h.1,h.2]
theorem ago {s:Nat} {es es':List (List TV)} (hu:∀ q,(jZ (.sl s es') q).isSome=true->(jZ (.sl s es) q).isSome=true):∀ (p:bA) (a:AV) (q:bA),b9 a p=some (.own s es)->(b9 (cX a p (.own s es')) q).isSome=true->(b9 a q).isSome=true:=by
 intro p;induction p with
 | nil=>
  intro a q h hs;have h0:b9 a []=some a:=by cases a <;> rfl
  rw[h0] at h;cases h;have h1:cX (.own s es) [] (.own s es')=.own s es':=rfl;rw[h1] at hs;cases q with
  | nil=>rfl
  | cons sq q=>
   simp only[b9,lI3] at hs ⊢;exact hu _ hs
 | cons st p ih=>
  intro a q h hs;cases a with
  | own s0 es0=>
   cases q with
   | nil=>rfl
   | cons sq q=>
    simp only[b9,lS2] at h;obtain⟨t,ht,hav⟩:=h;rw[apJ hav] at ht;simp only[cX,AV.tv,b9,lI3] at hs ⊢;have:=agn hu (st::p) (.sl s0 es0) (sq::q) ht;simp only[aaE] at this;exact this hs
  | box cs=>
   cases q with
   | nil=>rfl
   | cons sq q=>
    simp only[b9] at h;split at h
    case isFalse=>cases h
    simp only[cX,b9] at hs ⊢;split at hs
    case isFalse=>simp at hs
    rename_i oj;rw[lK oj];rw[lL1] at hs;cases h1:cs[sq.j]? with
    | none=>rw[h1] at hs; simp at hs
    | some c=>
     rw[h1] at hs;simp only[lD4,lD,lE] at hs ⊢;by_cases e:st.j=sq.j
     ·simp only[e,lQ] at hs;rw[e,h1,lE] at h;exact ih c q h hs
     ·simpa [e] using hs
  | _=>simp[b9] at h
theorem alh {s:Nat} (es:List (List TV)) (lo n:Nat):∀ q,(jZ (.sl s (es.take lo++(rR ((es.drop lo).take n)++es.drop (lo+n)))) q).isSome=true->(jZ (.sl s es) q).isSome=true:=by
 intro q h;cases q with
 | nil=>rfl
 | cons sq q=>
  simp only[jZ] at h ⊢;split at h
  case isFalse=>simp at h
  rename_i hs;rw[lK hs];have ak:∀ i:Nat,(es.take lo++(rR ((es.drop lo).take n)++es.drop (lo+n)))[i]?=es[i]?\/(es.take lo++(rR ((es.drop lo).take n)++es.drop (lo+n)))[i]?=(es[i]?).map (fun e:List TV=>e.map ak1):=by
   intro i;by_cases h1:i<(es.take lo).length
   ·left;rw[lS1 h1,lT,lK (by simp at h1; omega)]
   ·rw[lJ2 A7];have e1:(es.take lo).length=min lo es.length:=lH;have e2:(rR ((es.drop lo).take n)).length=min n (es.length-lo):=by simp[rR]
    by_cases h2:i-(es.take lo).length<(rR ((es.drop lo).take n)).length
    ·right;rw[lS1 h2];simp only[rR,lP1,lT,lY];rw[lK A7,show lo+(i-(es.take lo).length)=i by omega]
    ·left;rw[lJ2 A7,lY];by_cases h3:i<es.length
     ·congr 1; omega
     ·rw[lC2 A7,lC2 A7]
  rcases ak sq.i with e | e
  ·rw[e] at h; exact h
  ·rw[e] at h;cases h1:es[sq.i]? with
   | none=>rw[h1] at h; simp at h
   | some row=>
    rw[h1] at h;simp only[lD,lE,lP1] at h ⊢;cases h2:row[sq.j]? with
    | none=>rw[h2] at h; simp at h
    | some c=>
     rw[h2] at h;simp only[lD,lE] at h ⊢;cases c with
     | sl s1 es1=>
      cases q with
      | nil=>rfl
      | cons _ _=>simp[ak1,jZ] at h
     | _=>exact h
theorem PR.poke0 {vs vs':List Value} {xs xs':List AV} (P1:PR B hid w a E Fs Xs FP XP vs xs) {r s:Nat} {p:bA} {es es':List (List TV)} (hg:b9 (E.f r) p=some (.own s es)) (cr:kV (E.f r) p (.own s es')=true)
  (hr:(E.f r).isRoot=true) (hroot':(cX (E.f r) p (.own s es')).isRoot=true) (ol:∀ q,(jZ (.sl s es') q).isSome=true->(jZ (.sl s es) q).isSome=true)
  (hw:∀ h Fu Xu,RepA w (aM w (aI a.tmps hid) E) Fu Xu [h] [.own s es]->i4 w (aI a.tmps hid r) p=some h->(∀ b,Fu b<=1)->(∀ b,FP b=0\/Fu b=0)->(∀ b,XP b=0\/Fu b=0)->(∀ b,Xu b=0\/Fu b=0) ->
   (∀ b,Fu b=0->FP b=0->w.heap[b]?=w.heap[b]?)/\∀ lk':Lk,(∀ r e p o,aM w (aI a.tmps hid) E r e p=some o->lk' r e p=some none\/lk' r e p=some o) ->
    ∃ G Y FP' XP',(∀ b,G b+FP' b<=Fu b+FP b)/\(∀ b,Y b<=Xu b+XP b)/\(∀ b,XP' b<=Xu b+XP b)/\RepA w lk' G Y [h] [.own s es']/\RepA w lk' FP' XP' vs' xs') :
  ∃ Fs' Xs' FP' XP',PR B hid w a (E.set0 r (cX (E.f r) p (.own s es'))) Fs' Xs' FP' XP' vs' xs':=by
 refine PR.pokeG P1 hg cr hroot' hw ⟨rfl,.refl _⟩ pD (fun t ht=>⟨mR ht,rfl⟩) fun e p' o ho=>?_
 unfold aM at ho ⊢;rw[show (E.set0 r (cX (E.f r) p (.own s es'))).ep r=E.ep r from rfl,pD];split at ho
 ·rename_i aa; left; rw[lK aa];
 ·rename_i aa;rw[lO aa];split at ho
  ·rename_i hc;by_cases hs:(b9 (cX (E.f r) p (.own s es')) p').isSome=true
   ·right; rw[lK ⟨hc.1,hroot',hs⟩]; exact ho
   ·left; rw[lO (fun g=>hs g.2.2),lK ⟨hc.1,hroot'⟩]
  ·split at ho
   ·rename_i hc bx;left;by_cases hs:(b9 (cX (E.f r) p (.own s es')) p').isSome=true
    ·exact absurd ⟨bx.1,bx.2,ago ol p _ _ hg hs⟩ hc
    ·rw[lO (fun g=>hs g.2.2),lK ⟨bx.1,hroot'⟩]
   ·cases ho
theorem Rel.poke {vs:List Value} {xs:List AV} (P1:PR B hid w a E Fs Xs FP XP vs xs) {r:Nat} {p:bA} {u u':AV} (hg:b9 (E.f r) p=some u) (cr:kV (E.f r) p u'=true)
  (hroot':(cX (E.f r) p u').isRoot=true)
  (hw:∀ h Fu Xu,RepA w (aM w (aI a.tmps hid) E) Fu Xu [h] [u]->i4 w (aI a.tmps hid r) p=some h->(∀ b,Fu b<=1)->(∀ b,FP b=0\/Fu b=0)->(∀ b,XP b=0\/Fu b=0)->(∀ b,Xu b=0\/Fu b=0) ->
   (∀ b,Fu b=0->w'.heap[b]?=w.heap[b]?)/\∀ lk':Lk,(∀ r e p o,aM w (aI a.tmps hid) E r e p=some o->lk' r e p=some none\/lk' r e p=some o) ->
    ∃ G Y,(∀ b,G b<=Fu b+FP b)/\(∀ b,Y b<=Xu b+XP b)/\RepA w' lk' G Y [h] [u'])
  (ar:Kept w w'):∃ Fs' Xs',Rel B hid w' a (E.upd r (cX (E.f r) p u')) Fs' Xs':=by
 obtain⟨Fs',Xs',FP',XP',P2⟩:=PR.poke (w':=w') (vs':=[]) (xs':=[]) P1 hg cr hroot' (fun h Fu Xu h1 h2 h3 h4 h5 h6=>by
  obtain⟨k1,k2⟩:=hw h Fu Xu h1 h2 h3 h4 h5 h6;refine⟨fun b hb _=>k1 b hb,fun lk' links=>?_⟩;obtain⟨G,Y,g1,g2,g3⟩:=k2 lk' links;exact⟨G,Y,fun _=>0,fun _=>0,fun b=>by have:=g1 b; (try dsimp only); omega,g2,fun b=>Nat.zero_le _,g3,RepA.znil⟩) ar
 exact⟨Fs',Xs',P2.rel⟩
theorem RepA.lay {lk:Lk} {F X G Y:aH} {zs us:List Value} {cs xs:List AV} (h:RepA w lk F X zs cs) (g:RepA w lk G Y us xs) (off:Nat) (hle:off+us.length<=zs.length) :
  ∃ H Z,RepA w lk H Z (Awp.lay zs off us) (Awp.lay cs off xs)/\(∀ b,H b<=F b+G b)/\∀ b,Z b<=X b+Y b:=by
 have hz:=h.length;have hl:=g.length;have q1':RepA w lk F X (zs.take off++zs.drop off) (cs.take off++cs.drop off):=by simpa using h
 obtain⟨A3,A4,Y3,Y4,q3,q4,e3,e4⟩:=RepA.split _ _ C0 q1';have q4':RepA w lk A4 Y4 ((zs.drop off).take us.length++zs.drop (off+us.length)) ((cs.drop off).take us.length++cs.drop (off+us.length)):=by
  rw[<-lA2,<-lA2,lJ,lJ]; exact q4
 obtain⟨A5,A6,Y5,Y6,q5,q6,e5,e6⟩:=RepA.split _ _ C0 q4';refine⟨fun b=>A3 b+G b+A6 b,fun b=>Y3 b+Y b+Y6 b,?_,?_,?_⟩
 ·unfold Awp.lay;rw[<-hl];exact RepA.append (RepA.append q3 g (fun _=>rfl) (fun _=>rfl)) q6 (fun _=>rfl) (fun _=>rfl)
 ·intro b; have:=e3 b; have:=e5 b; (try dsimp only); omega
 ·intro b; have:=e4 b; have:=e6 b; (try dsimp only); omega
theorem Row.lay {F G:aH} {zs us:List Value} {cs xs:List TV} (h:Row w true F zs cs) (g:Row w true G us xs) (off:Nat) (hle:off+us.length<=zs.length) :
  ∃ H,Row w true H (Awp.lay zs off us) (Awp.lay cs off xs)/\∀ b,H b<=F b+G b:=by
 have hz:=h.length;have hl:=g.length;have q1':Row w true F (zs.take off++zs.drop off) (cs.take off++cs.drop off):=by simpa using h
 obtain⟨A3,A4,q3,q4,e3⟩:=Row.split _ _ C0 q1';have q4':Row w true A4 ((zs.drop off).take us.length++zs.drop (off+us.length)) ((cs.drop off).take us.length++cs.drop (off+us.length)):=by
  rw[<-lA2,<-lA2,lJ,lJ]; exact q4
 obtain⟨A5,A6,q5,q6,e5⟩:=Row.split _ _ C0 q4';refine⟨fun b=>A3 b+G b+A6 b,?_,?_⟩
 ·unfold Awp.lay;rw[<-hl];exact Row.append (Row.append q3 g (fun _=>rfl)) q6 (fun _=>rfl)
 ·intro b; have:=e3 b; have:=e5 b; (try dsimp only); omega
theorem g8 {α:Type} (L:List α) (m:Nat) (l:List α) (h:m+l.length<=L.length) (k:Nat):(lay L m l)[k]?=if m<=k/\k<m+l.length then l[k-m]? else L[k]?:=by
 unfold lay;rw[lM2,lB4,lB4,lT,lY,lH,lB1 A7];by_cases h1:k<m
 ·have:¬ (m<=k/\k<m+l.length):=by omega
  simp[h1,this]
 ·by_cases h2:k<m+l.length
  ·have:k-m<l.length:=by omega
   have h3:m<=k:=by omega
   simp[h1,h2,h3,this]
  ·have:¬ k-m<l.length:=by omega
   simp only[h1,lN1,this,h2,and_false];congr 1;omega
theorem ali {α:Type} {s:Nat} {es:List (List α)} (hs:∀ e ∈ es,e.length=s) {i j:Nat} {ts:List α} (hi:i<es.length) (hj:j+ts.length<=s) :
  (es.modify i (Awp.lay · j ts)).flatten=Awp.lay es.flatten (i*s+j) ts:=by
 induction es generalizing i with
 | nil=>simp at hi
 | cons e es ih=>
  have he:e.length=s:=hs e A8;cases i with
  | zero=>
   simp only[lM3,lD3,lQ4,lL2];unfold Awp.lay;rw[lA4 A7,List.drop_append_of_le_length A7];simp
  | succ i=>
   simp only[lN3,lD3];rw[ih (fun e h=>hs e D0) (by simpa using hi)];have e1:(i+1)*s+j=e.length+(i*s+j):=by rw[lH2,he]; omega
   rw[e1];unfold Awp.lay;rw[List.take_append,List.drop_append];have h2:e.length+(i*s+j)+ts.length-e.length=i*s+j+ts.length:=by omega
   have h3:e.length+(i*s+j)-e.length=i*s+j:=by omega
   rw[h2,h3,lW1 (l:=e) A7,lZ2 (l:=e) A7];simp
theorem alj {α:Type} {s:Nat} {es:List (List α)} (hs:∀ e ∈ es,e.length=s) {i j:Nat} {ts:List α} (hj:j+ts.length<=s):∀ e ∈ es.modify i (Awp.lay · j ts),e.length=s:=by
 intro e he;obtain⟨k,hk,rfl⟩:=lM1 he;rw[List.getElem_modify];have hk':k<es.length:=by simpa using hk
 have:=hs es[k] (lI hk');split
 ·rw[fA _ _ _ A7]; exact this
 ·exact this
theorem Row.poke {F G:aH} {hd:Value} {s:Nat} {es:List (List TV)} {vs:List Value} {ts:List TV} (h:Row w true F [hd] [.sl s es]) (one:∀ b,F b<=1) (g:Row w true G vs ts) (dis:∀ b,G b=0\/F b=0)
  {i j:Nat} (hi:i<es.length) (hj:j+ts.length<=s) :
  ∃ b off cap C ty fr,hd=.slice (some ⟨b,off,none⟩) es.length cap/\w.heap[b]?=some (.cells C ty fr)/\thawS s C.size fr/\F b=1/\off+i*s+j+ts.length<=C.size /\
   ∀ (w':World) (C2:Array Value),C2.toList=Awp.lay C.toList (off+(i*s+j)) vs->w'.heap[b]?=some (.cells C2 ty fr)->(∀ b',b'≠b->w'.heap[b']?=w.heap[b']?) ->
    ∃ H,Row w' true H [hd] [.sl s (es.modify i (Awp.lay · j ts))]/\∀ b,H b<=F b+G b:=by
 rcases Row.sl_inv h with ⟨_,rfl,_⟩ | ⟨F1,b,off,cap,C,ty,fr,cs,au,hb,hfr,hcap,hle,ap,hcs,hc,h1,hF⟩
 ·simp at hi
 ·have ip:=g.length;have hins:i*s+s<=es.length*s:=by
   have:(i+1)*s<=es.length*s:=lJ1 _ hi
   rwa [lH2,lM4] at this
  have kh:es.length*s<=cap*s:=lJ1 _ hle;refine⟨b,off,cap,C,ty,fr,au,hb,hfr,by have:=hF b; have:=one b; simp at *; omega,by omega,?_⟩;intro w' C2 dz hb' bm;have ei:F1 b=0:=by have:=hF b; have:=one b; simp at *; omega
  have ko:G b=0:=by
   rcases dis b with h | h
   ·exact h
   ·have:=hF b; simp at this; omega
  have h1':Row w' true F1 cs es.flatten:=h1.same (fun x hx=>bm x (fun e=>hx (by rw[e]; exact ei)));have g':Row w' true G vs ts:=g.same (fun x hx=>bm x (fun e=>hx (by rw[e]; exact ko)));obtain⟨H,hr,hH⟩:=Row.lay h1' g' (i*s+j) A7;have fv:C2.size=C.size:=by rw[<-lD1,dz,fA _ _ _ B0]; simp
  subst au;refine⟨fun x=>(if x=b then 1 else 0)+H x,?_,fun x=>by have:=hH x; have:=hF x; (try dsimp only); omega⟩;rw[<-ali ap hi hj] at hr;refine Row.of_sl (cs:=Awp.lay cs (i*s+j) vs) A8 hb' (by rw[fv]; exact hfr) A7 (by simpa using hle) (alj ap hj) ?_ ?_ hr (fun x=>rfl)
  ·rw[fA _ _ _ A7]; simpa using hcs
  ·intro k hk;rw[fA _ _ _ A7] at hk;rw[<-lR1,dz,g8 _ _ _ B0,g8 _ _ _ A7];by_cases dy:i*s+j<=k/\k<i*s+j+vs.length
   ·rw[lK A7,lK dy]; congr 1; omega
   ·rw[lO A7,lO dy,lR1]; exact hc k hk
end
end Go.Proofs.YtnfeefcnblondaaGreatDoor.Awp
