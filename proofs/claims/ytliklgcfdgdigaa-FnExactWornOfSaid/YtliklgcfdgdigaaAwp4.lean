/- A general law about the translated programs is proved here: what a function's code does to values that are trees of cells (part 4 of 4). Condition: none. -/
import Derived.Test.YtliklgcfdgdigaaAwp3
namespace Go.Proofs.Ytliklgcfdgdigaa.Awp
set_option linter.unusedVariables false
set_option linter.unusedSimpArgs false
variable {H : Type} {enc : TypeId × Value → H} {P : Program} {w w' : World}

/-- a cell that is borrowed -/
def bv : TV → AV
  | .undef => .undef
  | .bool b => .bool b
  | .int k n => .int k n
  | .str s => .str s
  | .sl s es => .ext s es

theorem bv_rep {lk : Lk} : ∀ {ts : List TV} {vs : List Value} {F : Foot}, Row w false F vs ts → RepA w lk (fun _ => 0) F vs (ts.map bv) := by
  intro ts
  induction ts with
  | nil =>
    intro vs F h
    cases h with
    | nil _ _ h => exact .nil _ _ (fun _ => rfl) h
  | cons t ts ih =>
    intro vs F h
    have hl := h.length
    cases vs with
    | nil => simp at hl
    | cons v vs =>
      obtain ⟨F1, F2, h1, h2, e⟩ := Row.uncons h
      have r := ih h2
      cases t with
      | undef =>
        refine RepA.foot (.undef _ _ _ _ _ r) (fun _ => rfl) fun b => ?_
        cases h1 with
        | undef _ _ _ _ _ h => cases h with | nil _ _ h => rw [e, h]; omega
      | bool x =>
        cases h1 with
        | bool _ _ _ _ _ h => cases h with | nil _ _ h => exact RepA.foot (.bool _ _ _ _ _ r) (fun _ => rfl) fun b => by rw [e, h]; omega
      | int k n =>
        cases h1 with
        | int _ _ _ _ _ _ h => cases h with | nil _ _ h => exact RepA.foot (.int _ _ _ _ _ _ r) (fun _ => rfl) fun b => by rw [e, h]; omega
      | str s =>
        cases h1 with
        | str _ _ _ _ _ h => cases h with | nil _ _ h => exact RepA.foot (.str _ _ _ _ _ r) (fun _ => rfl) fun b => by rw [e, h]; omega
      | sl s es => exact .ext _ _ F1 F2 _ _ _ _ _ h1 r e

/-- a parameter: is it a struct, and its kinds -/
def isStruct (P : Program) (t : TypeId) : Bool := match P.underlying t with | some (.struct _) => true | _ => false
def parOf (P : Program) (t : TypeId) : Option (Bool × List Ty) := (shapeOf P 12 t).map fun sh => (isStruct P t, sh)
def avOf (b : Bool) (ts : List TV) : AV := if b then .agg (ts.map bv) else (ts.map bv).headD .undef
def ArgsShp : List (Bool × List Ty) → List (List TV) → Prop
  | [], [] => True
  | p :: ps, ts :: tss => Shp p.2 ts ∧ ArgsShp ps tss
  | _, _ => False
def avsOf : List (Bool × List Ty) → List (List TV) → List AV
  | p :: ps, ts :: tss => avOf p.1 ts :: avsOf ps tss
  | _, _ => []

theorem par_cells {base : Nat} {t : TypeId} {v : Value} {p : Bool × List Ty} (hp : parOf P t = some p) (hv : Value.okWide P w .any base t v) :
    (p.1 = true ∧ ∃ cs, v = .agg cs ∧ v.cells.toList = cs.toList) ∨ (p.1 = false ∧ p.2.length = 1 ∧ v.cells.toList = [v]) := by
  obtain ⟨sh, hs, rfl⟩ := Option.map_eq_some_iff.1 hp
  unfold shapeOf at hs
  split at hs
  · rename_i ht
    obtain ⟨b, rfl⟩ := WideShapes.okWide_bool ht hv
    cases hs; exact .inr ⟨by simp [isStruct, ht], rfl, rfl⟩
  · rename_i q ht
    obtain ⟨b, rfl⟩ := WideShapes.okWide_int ht hv
    cases hs; exact .inr ⟨by simp [isStruct, ht], rfl, rfl⟩
  · rename_i ht
    obtain ⟨b, rfl⟩ := WideShapes.okWide_string ht hv
    cases hs; exact .inr ⟨by simp [isStruct, ht], rfl, rfl⟩
  · rename_i e ht
    obtain ⟨a, len, cap, rfl⟩ := WideShapes.okWide_slice ht hv
    obtain ⟨she, hse, hs⟩ := Option.bind_eq_some_iff.1 hs
    split at hs
    · cases hs; exact .inr ⟨by simp [isStruct, ht], rfl, rfl⟩
    · cases hs
  · rename_i fs ht
    obtain ⟨cs, rfl, hc⟩ := WideShapes.okWide_struct ht hv
    exact .inl ⟨by simp [isStruct, ht], cs, rfl, rfl⟩
  · cases hs

theorem args_rep {base : Nat} : ∀ {ts : List TypeId} {vs : List Value} {ds : List (DataW H)} {ps : List MemPlace} {pars : List (Bool × List Ty)}, ts.mapM (parOf P) = some pars →
    DataW.TrodAll enc P w 0 (fun _ => true) true ts vs ds ps → (∀ (j : Nat) t v, ts[j]? = some t → vs[j]? = some v → Value.okWide P w .any base t v) → (∀ n ∈ DataW.weightsEach P ts ds, n ≤ 2 ^ 47) →
    ∃ X tss, ArgsShp pars tss ∧ RepA w lk0 (fun _ => 0) X vs (avsOf pars tss) ∧ ∀ b, X b ≠ 0 → b < w.heap.size := by
  intro ts
  induction ts with
  | nil =>
    intro vs ds ps pars hp h hv hz
    simp at hp; subst hp
    cases vs with
    | cons _ _ => simp [DataW.TrodAll] at h
    | nil => exact ⟨fun _ => 0, [], trivial, RepA.znil, fun _ h => absurd rfl h⟩
  | cons t ts ih =>
    intro vs ds ps pars hp h hv hz
    rw [List.mapM_cons] at hp
    simp only [Option.bind_eq_bind, Option.bind_eq_some_iff, Option.pure_def, Option.some.injEq] at hp
    obtain ⟨p, hp1, pars', hps, rfl⟩ := hp
    cases vs with
    | nil => simp [DataW.TrodAll] at h
    | cons v vs =>
    cases ds with
    | nil => simp [DataW.TrodAll] at h
    | cons d ds =>
    obtain ⟨p1, q1, ⟨fuel, h1⟩, h2, rfl⟩ := h
    simp only [DataW.weightsEach, List.mem_append] at hz
    obtain ⟨X, tss, g1, g2, g3⟩ := ih hps h2 (fun j t v h1 h2 => hv (j + 1) t v (by simpa using h1) (by simpa using h2)) (fun n hn => hz n (.inr hn))
    have hv0 := hv 0 t v rfl rfl
    obtain ⟨sh, hs, rfl⟩ := Option.map_eq_some_iff.1 hp1
    obtain ⟨F, us, f1, f2, f3⟩ := trod_row _ _ _ _ _ _ hs h1 fun n hn => hz n (.inl hn)
    have r := bv_rep (lk := lk0) f1
    have hlt : ∀ b, F b + X b ≠ 0 → b < w.heap.size := fun b hb => by
      by_cases e : F b = 0
      · exact g3 b (by omega)
      · exact f3 b e
    refine ⟨fun b => F b + X b, us :: tss, ⟨f2, g1⟩, ?_, hlt⟩
    rcases par_cells hp1 hv0 with ⟨e1, cs, rfl, e2⟩ | ⟨e1, e2, e3⟩
    · simp only [avsOf, avOf]
      simp only at e1
      rw [e1, if_pos rfl]
      rw [e2] at r
      exact .agg _ (fun _ => 0) (fun _ => 0) _ F X cs.toList _ _ _ r g2 (fun _ => rfl) (fun _ => rfl)
    · simp only [avsOf, avOf]
      simp only at e1 e2
      rw [e1, if_neg (by simp)]
      rw [e3] at r
      have hl := f2.length
      rw [e2] at hl
      match us, hl with
      | [u], _ => exact RepA.append (vs := [v]) (as := [bv u]) r g2 (fun _ => rfl) (fun _ => rfl)

theorem keptBut_old {W W' : World} {may : MemPlace → Prop} (hg : Grows W W') (hh : ∀ b, b < W.heap.size → W'.heap[b]? = W.heap[b]?) : W.keptBut W' may := by
  refine ⟨hg.quiet.os, hg.quiet.out, fun i hi => ?_⟩
  rw [hh i hi]
  cases h : W.heap[i]? with
  | none => simp
  | some o =>
    cases o with
    | cells c t fr => exact ⟨rfl, rfl, rfl, fun _ _ => rfl⟩
    | map es clock => exact .inr ⟨rfl, rfl⟩
    | _ => rfl

theorem trodAll_turn {sq : Nat → Bool} {W W' : World} (hh : ∀ b, b < W.heap.size → W'.heap[b]? = W.heap[b]?) : ∀ {ts : List TypeId} {vs : List Value} {ds : List (DataW H)} {ps : List MemPlace} {pars : List (Bool × List Ty)}, ts.mapM (parOf P) = some pars →
    DataW.TrodAll enc P W 0 (fun _ => true) true ts vs ds ps → (∀ p ∈ ps, sq p.block = true) → DataW.TrodAll enc P W' 0 sq true ts vs ds ps := by
  intro ts
  induction ts with
  | nil =>
    intro vs ds ps pars hp h hs
    cases vs <;> cases ds <;> simp_all [DataW.TrodAll]
  | cons t ts ih =>
    intro vs ds ps pars hp h hs
    rw [List.mapM_cons] at hp
    simp only [Option.bind_eq_bind, Option.bind_eq_some_iff, Option.pure_def, Option.some.injEq] at hp
    obtain ⟨p, hp1, pars', hps, rfl⟩ := hp
    cases vs with
    | nil => simp [DataW.TrodAll] at h
    | cons v vs =>
    cases ds with
    | nil => simp [DataW.TrodAll] at h
    | cons d ds =>
    obtain ⟨p1, q1, ⟨fuel, h1⟩, h2, rfl⟩ := h
    obtain ⟨sh, hsh, rfl⟩ := Option.map_eq_some_iff.1 hp1
    refine ⟨p1, q1, ⟨fuel, ?_⟩, ih hps h2 (fun p hp => hs p (List.mem_append.2 (.inr hp))), rfl⟩
    have hlt := DataW.trod_lt _ _ _ _ h1
    have h3 := DataW.trod_carry (w' := W') _ _ _ _ h1 fun p hp => by
      have := hlt p hp
      cases p with
      | cell b off => exact cell_same (hh b this)
      | map b => exact hh b this
    exact trod_spare _ _ _ _ _ _ hsh h3 fun p hp => hs p (List.mem_append.2 (.inl hp))

/-- A LAW THAT ANSWERS true AND LEAVES ALL AS IT IS, OUT OF ITS FUNCTION's CONTRACT -/
theorem law_returns {C : Checked} {os : Os} {f : FuncId} {fn : Func} {s : ChangeSpec} {apart fresh handsOn again : Bool} {pars : List (Bool × List Ty)} {tb : TypeId}
    (own : ownKnob C.prog.godebug = none) (started : os.Started) (noInit : C.prog.inits.idxOf? f = none) (hfn : C.prog.funcs[f]? = some fn)
    (witness : ∃ (w : World) (tape : Tape) (i : Input), w.os = os ∧ (w.forCall tape i).Shaped C.prog ∧ i.vars = [] ∧ Input.okWide C.prog (w.forCall tape i) .any w.heap.size f i ∧
      s.pre6 enc C.prog fn [] apart (w.forCall tape i).memory i.args ∧ ({} : Assume).holds C.prog (lone (Frame.enter C.prog f i.args .normal) [] (w.forCall tape i)))
    (hv : s.vars = []) (hp : fn.params.toList.mapM (parOf C.prog) = some pars) (hr : fn.resultTypes = #[tb]) (hb : C.prog.underlying tb = some .bool)
    (hsf : ∀ ds : List (DataW H), ds.length = pars.length → s.fn H ds = { results := [.lit (.bool true)], args := ds })
    (hspec : ∀ tss, ArgsShp pars tss → ∃ outs, Spec C.prog f (avsOf pars tss) (.bool true) outs) :
    ReturnsInHanded {} C os f .any (s.pre6 enc C.prog fn [] apart) (s.post enc C.prog fn apart fresh handsOn again) := by
  refine returnsInHanded_of_change_sized own started noInit hfn witness ?_
  intro W base args ds gs before hval hW _ hz _
  have hW' := hW
  obtain ⟨p, q, hA, hV, rfl, hfz, hnd⟩ := hW
  rw [hv] at hV
  have hgs : gs = [] ∧ q = [] := by cases gs <;> simp_all [DataW.TrodVars]
  obtain ⟨rfl, rfl⟩ := hgs
  have hvt : s.plain.varTypes C.prog = [] := by simp [ChangeSpec.plain, DataSpec.varTypes, hv]
  rw [hvt] at hz
  simp only [List.append_nil] at hz hW' hfz hnd
  obtain ⟨X, tss, h1, h2, h3⟩ := args_rep (base := base) hp hA (fun j t v e1 e2 => hval j t v (by simpa using e1) (by simpa using e2))
    (fun n hn => Nat.le_of_lt (Nat.lt_of_le_of_lt (by simpa using List.all_eq_true.1 hz n hn) reachBytes_lt))
  obtain ⟨outs, hS⟩ := hspec tss h1
  have hc := hS.2.2 W args.toList (fun _ => 0) X h2 (fun _ => by omega) (fun _ => .inl rfl) h3
  rw [Array.toArray_toList] at hc
  refine hc.mono ?_
  rintro e W' ⟨v, F', X', rfl, hrep, _, _, hg, hfr, _, _⟩
  have hvt : v = .bool true := by
    obtain ⟨_, _, _, _, r1, _, _⟩ := RepA.uncons hrep
    cases r1; rfl
  subst hvt
  refine ⟨_, rfl, ?_⟩
  have hh : ∀ b, b < W.heap.size → W'.heap[b]? = W.heap[b]? := fun b hb => hfr b hb rfl
  have hdl : ds.length = pars.length := by
    have e1 := mapM_some_length hp
    have : ∀ {ts : List TypeId} {vs : List Value} {ds : List (DataW H)} {ps : List MemPlace}, DataW.TrodAll enc C.prog W 0 (fun _ => true) true ts vs ds ps → ds.length = ts.length := by
      intro ts
      induction ts with
      | nil => intro vs ds ps h; cases vs <;> cases ds <;> simp_all [DataW.TrodAll]
      | cons t ts ih =>
        intro vs ds ps h
        cases vs with
        | nil => simp [DataW.TrodAll] at h
        | cons v vs =>
        cases ds with
        | nil => simp [DataW.TrodAll] at h
        | cons d ds => obtain ⟨_, _, _, h2, _⟩ := h; simp [ih h2]
    rw [this hA, e1]
  have hsd := hsf ds hdl
  have hres : ∀ (b : Nat) (sp : Nat → Bool) (hd : Bool), DataW.TrodAll enc C.prog W' b sp hd fn.resultTypes.toList (Value.resultList fn.resultTypes.size (.bool true)) [.lit (.bool true)] [] := by
    intro b sp hd
    rw [hr]
    exact ⟨[], [], RowKit.shut_bool hb true, rfl, rfl⟩
  have hlt : ∀ x ∈ p, x.block < W.heap.size := fun x hx => hW'.lt x hx
  have hTA : ∀ sq : Nat → Bool, (∀ x ∈ p, sq x.block = true) → DataW.TrodAll enc C.prog W' 0 sq true fn.params.toList args.toList ds p := fun sq hsq => trodAll_turn hh hp hA hsq
  refine ⟨ds, [], p, [], p, [], hW', ?_, ?_, ?_, keptBut_old hg hh, fun _ => ⟨?_, .lit (.bool true) :: ds, [], p, ⟨p, [], ?_, ?_, by simp, ?_, hnd⟩, fun _ h _ => h⟩⟩
  · rw [List.append_nil, hsd]; exact hres _ _ _
  · rw [List.append_nil, hsd]; exact hTA _ fun x hx => by simpa using hlt x hx
  · rw [List.append_nil, hsd, hv]; rfl
  · exact RowKit.ok_one hr rfl (RowKit.okWide_bool_mk hb true)
  · rw [hr]; exact ⟨[], p, RowKit.shut_bool hb true, hTA _ fun _ _ => rfl, rfl⟩
  · rw [hv]; rfl
  · intro b off hm
    rw [World.frozen?_of_block (w := W) (hh b (hlt _ hm))]
    exact hfz b off hm
theorem enter_of {P : Program} {r : List (List Char)} (hr : behindMainWord (wordsSigns P.initOrder.toList) = [Char.ofNat 99, Char.ofNat 117, Char.ofNat 116] :: r) (h2 : P.laysLater = false) (h3 : P.bearsReflect = false) (h4 : P.doorFits [] = true) : P.mayEnter = true := by
  unfold Program.mayEnter
  rw [hr]
  have h1 : stripLifts liftWords ([Char.ofNat 99, Char.ofNat 117, Char.ofNat 116] :: r) = ([], [Char.ofNat 99, Char.ofNat 117, Char.ofNat 116] :: r) := by rfl
  dsimp only
  rw [h1, h2, h3, h4]
  rfl
theorem lifts_of {P : Program} {r : List (List Char)} (hr : behindMainWord (wordsSigns P.initOrder.toList) = [Char.ofNat 99, Char.ofNat 117, Char.ofNat 116] :: r) : P.liftsFinal = false := by
  unfold Program.liftsFinal Program.headLifts
  rw [hr]
  have h1 : stripLifts liftWords ([Char.ofNat 99, Char.ofNat 117, Char.ofNat 116] :: r) = ([], [Char.ofNat 99, Char.ofNat 117, Char.ofNat 116] :: r) := by rfl
  rw [h1]
  rfl
theorem make_of {P : Program} {r : List (List Char)} (hr : behindMainWord (wordsSigns P.initOrder.toList) = [Char.ofNat 99, Char.ofNat 117, Char.ofNat 116] :: r) : P.make = some .cut := by
  unfold Program.make
  rw [hr]
  rfl
/-! ### the facts of a row -/
theorem andT {a b : Bool} (h : a = true) (g : b = true) : (a && b) = true := by rw [h, g]; rfl
theorem joined_of {P : Program} {f : FuncId} {fn : Func} {s : ChangeSpec} {c : OpenClaim} (h0 : (c.wf (OpenSpec.ofChange s)) = true) (h1 : (laidOutB P) = true) (h2 : (mapsRowed P) = true) (h3 : (fn.params.all (P.readableRec ·)) = true) (h4 : (namedTie P c.named s.vars) = true) (h5 : ((c.stops == [])) = true) (h6 : ((P.stops == [])) = true) (h7 : ((c.knobs == [])) = true) (h8 : ((P.stopKnobs == [])) = true) (h9 : ((c.inPlace == P.inPlace f)) = true) (h10 : ((c.unfollowed == P.unfollowed f)) = true) (h11 : ((c.recurses == P.recurses f)) = true) (h12 : ((c.named == P.varsNamed f)) = true) (h13 : ((c.maps == (fn.params.toList ++ s.plain.varTypes P).any (P.mapsRec ·))) = true) (h14 : ((c.ifaces == (fn.params.toList ++ s.plain.varTypes P).any (P.ifacesRec ·))) = true) (h15 : ((c.mapsOut == P.mapsAmong fn.resultTypes.toList)) = true) (h16 : ((c.loops == (fn.params.toList ++ s.plain.varTypes P).any (P.loopsFrom ·))) = true) (h17 : ((c.wideKeys == (fn.params.toList ++ s.plain.varTypes P ++ fn.resultTypes.toList).any (P.wideKeysFrom ·))) = true) (h18 : (s.vars.all (P.varReadable ·)) = true) (h19 : (fn.resultTypes.all (fun t => P.readableRec t && decide (t < P.types.size))) = true) (h20 : ((c.ifacesOut == fn.resultTypes.toList.any (P.ifacesRec ·))) = true) (h21 : ((c.loopsOut == fn.resultTypes.toList.any (P.loopsFrom ·))) = true) (h22 : ((c.plainKeys == P.plainKeys)) = true) (h23 : (c.shortTexts.isNone) = true) (h24 : (P.stopsHeard) = true) (h25 : (P.mayEnter) = true) (h26 : ((c.lifted == P.liftsFinal)) = true) (h27 : ((P.make == some c.make)) = true) (h28 : ((c.kinds == (if c.domain.isEmpty then [] else fn.params.toList.map fun t => match P.underlying t with | some (.int k) => some k | _ => none))) = true) (h29 : ((c.pinned == c.pinnedBy)) = true) (h30 : ((c.veiled == (fn.params.toList ++ s.plain.varTypes P ++ fn.resultTypes.toList).any (P.veiledRec ·))) = true) (h31 : (c.veiledFits P fn.params.toList (fn.params.toList ++ s.plain.varTypes P ++ fn.resultTypes.toList)) = true) : joinedFacts P f fn s c = true := by
  unfold joinedFacts
  exact (andT (andT (andT (andT (andT (andT (andT (andT (andT (andT (andT (andT (andT (andT (andT (andT (andT (andT (andT (andT (andT (andT (andT (andT (andT (andT (andT (andT (andT (andT (andT h0 h1) h2) h3) h4) h5) h6) h7) h8) h9) h10) h11) h12) h13) h14) h15) h16) h17) h18) h19) h20) h21) h22) h23) h24) h25) h26) h27) h28) h29) h30) h31)
end Go.Proofs.Ytliklgcfdgdigaa.Awp

namespace Go.Proofs.Ytliklgcfdgdigaa.Awp
set_option linter.unusedVariables false
set_option linter.unusedSimpArgs false

/-- a contract over what is borrowed, out of one over each value that it may be -/
theorem spec_extv {P : Program} {f : FuncId} {s : Nat} {es : List (List TV)} {as outs : List AV} {ret : AV}
    (h : ∀ (a : Option Addr) (len cap : Nat), (a = none → es = []) → Spec P f (.extv (.slice a len cap) s es :: as) ret outs) : Spec P f (.ext s es :: as) ret outs := by
  have key : ∀ (w : World) (X : Foot) (v : Value), Row w false X [v] [.sl s es] → ∃ a len cap, v = .slice a len cap ∧ (a = none → es = []) := by
    intro w X v r
    cases r with
    | ext0 _ _ a cap _ _ _ => exact ⟨a, 0, cap, rfl, fun _ => rfl⟩
    | ext _ _ _ _ _ a cap cs _ _ _ _ _ _ _ _ _ => exact ⟨some a, _, cap, rfl, fun h => by cases h⟩
  by_cases hx : es = []
  · have h0 := h none 0 0 fun _ => hx
    refine ⟨h0.1, h0.2.1, ?_⟩
    intro w vs F X r
    cases r with
    | ext _ _ X1 X2 _ _ v vs _ h1 hr hX =>
      obtain ⟨a, len, cap, rfl, ha⟩ := key w X1 v h1
      exact (h a len cap ha).2.2 w _ F X (.extv _ _ X1 X2 _ _ _ _ _ h1 hr hX)
  · have h0 := h (some ⟨0, 0, none⟩) 0 0 fun e => by cases e
    refine ⟨h0.1, h0.2.1, ?_⟩
    intro w vs F X r
    cases r with
    | ext _ _ X1 X2 _ _ v vs _ h1 hr hX =>
      obtain ⟨a, len, cap, rfl, ha⟩ := key w X1 v h1
      exact (h a len cap ha).2.2 w _ F X (.extv _ _ X1 X2 _ _ _ _ _ h1 hr hX)
end Go.Proofs.Ytliklgcfdgdigaa.Awp

