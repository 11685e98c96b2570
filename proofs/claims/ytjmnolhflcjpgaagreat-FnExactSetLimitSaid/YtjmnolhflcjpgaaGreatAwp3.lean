/- A general law about the translated programs is proved here: what a function's code does to values that are trees of cells (part 3 of 4). Condition: none. -/
import Derived.Test.YtjmnolhflcjpgaaGreatAwp2
import Derived.Orders
namespace Go.Proofs.YtjmnolhflcjpgaaGreat.Awp
set_option linter.unusedVariables false
set_option linter.unusedSimpArgs false
variable {P : Program} {w w' : World} {B : Base} {hid hv : Nat → Value} {a : Act} {E : Env} {Fs Xs : Nat → Foot} {FP XP : Foot} {Q : Exit → Act → World → Prop} {o : Oper}

/-- the value of a part of an argument -/
def ValAt (vs : List Value) (k : Nat) : Option Nat → Value → Prop
  | none, h => vs[k]? = some h
  | some j, h => ∃ us, vs[k]? = some (.agg us) ∧ us[j]? = some h

theorem isU_some {o : Option AV} (h : isU o = true) : o = some .undef := by
  unfold isU at h
  split at h
  · rfl
  · cases h

/-- a part out of rows in hand -/
theorem RepA.takePart {lk : Lk} {F X : Foot} {vs : List Value} {os : List AV} (h : RepA w lk F X vs os) {k : Nat} {j : Option Nat} {g : AV × List AV} (hp : partP os k j = some g) {hv : Value} (hval : ValAt vs k j hv) :
    ∃ F1 F2 X1 X2, RepA w lk F1 X1 [hv] [g.1] ∧ RepA w lk F2 X2 vs g.2 ∧ (∀ b, F b = F1 b + F2 b) ∧ ∀ b, X b = X1 b + X2 b := by
  cases j with
  | none =>
    simp only [partP] at hp
    obtain ⟨u, hu, rfl⟩ := map_some hp
    obtain ⟨v, F1, F2, X1, X2, hv1, h1, hF, hX, hput⟩ := RepA.at h hu
    simp only [ValAt] at hval
    rw [hv1] at hval; cases hval
    have := hput w lk (fun _ _ => rfl) (fun _ _ => rfl) (fun _ _ _ _ h => .inr h) hv .undef (fun _ => 0) (fun _ => 0) (.undef _ _ _ _ _ RepA.znil)
    rw [list_set_self hv1] at this
    exact ⟨F1, F2, X1, X2, h1, this.foot (fun b => by simp) (fun b => by simp), hF, hX⟩
  | some j =>
    simp only [partP] at hp
    split at hp
    case h_2 => cases hp
    rename_i cs hcs
    obtain ⟨u, hu, rfl⟩ := map_some hp
    obtain ⟨v, F1, F2, X1, X2, hv1, h1, hF, hX, hput⟩ := RepA.at h hcs
    obtain ⟨us, hk, hj⟩ := hval
    rw [hv1] at hk; cases hk
    cases h1 with
    | agg _ A1 A2 _ Y1 Y2 zs _ _ _ g1 g2 hA hY =>
      obtain ⟨v2, B1, B2, W1, W2, hv2, k1, kF, kX, kput⟩ := RepA.at g1 hu
      have e : v2 = hv := by
        have : zs[j]? = some hv := by simpa using hj
        rw [hv2] at this; exact Option.some.inj this
      subst e
      have r1 := kput w lk (fun _ _ => rfl) (fun _ _ => rfl) (fun _ _ _ _ h => .inr h) v2 .undef (fun _ => 0) (fun _ => 0) (.undef _ _ _ _ _ RepA.znil)
      rw [list_set_self hv2] at r1
      cases g2 with
      | nil _ _ hz hzx =>
        have r2 := hput w lk (fun _ _ => rfl) (fun _ _ => rfl) (fun _ _ _ _ h => .inr h) (.agg zs.toArray) (.agg (cs.set j .undef)) (fun b => B2 b) (fun b => W2 b)
          (.agg _ B2 (fun _ => 0) _ W2 (fun _ => 0) zs _ [] [] (r1.foot (fun b => by simp) (fun b => by simp)) RepA.znil (fun _ => by simp) (fun _ => by simp))
        rw [list_set_self hv1] at r2
        exact ⟨B1, fun b => B2 b + F2 b, W1, fun b => W2 b + X2 b, k1, r2, fun b => by have := hF b; have := hA b; have := kF b; have := hz b; dsimp only; omega, fun b => by have := hX b; have := hY b; have := kX b; have := hzx b; dsimp only; omega⟩

/-- a part goes back to its place -/
theorem PR.fit {zs : List Value} {ys ys' : List AV} (P1 : PR B hid w a E Fs Xs FP XP zs ys) {r : Nat} {p : Path} {h : Value} {u : AV} {F1 F2 X1 X2 : Foot}
    (r1 : RepA w (lkOf w (vlOf a.tmps hid) E) F1 X1 [h] [u]) (r2 : RepA w (lkOf w (vlOf a.tmps hid) E) F2 X2 zs ys') (eF : ∀ b, FP b = F1 b + F2 b) (eX : ∀ b, XP b = X1 b + X2 b)
    (hg : aget (E.f r) p = some .undef) (hres : cres w (vlOf a.tmps hid r) p = some h) (hu : u.isRoot = true) (hfit : fits (E.f r) p u = true) :
    ∃ Fs' Xs' FP' XP', PR B hid w a (fitE E r p u) Fs' Xs' FP' XP' zs ys' := by
  have R := P1.rel
  obtain ⟨hd, Fu, Fr, Xu, Xr, hF, hX, hhd, hres', hrest⟩ := ahole p (R.rep r) hg
  rw [hres] at hres'; cases hres'
  have hep : ∀ t, t ≠ r → (fitE E r p u).f t = E.f t ∧ (fitE E r p u).ep t = E.ep t := fun t ht => sfit ht
  have hR : (fitE E r p u).f r = aset (E.f r) p u := by
    unfold fitE
    split
    · rename_i hp
      have : p = [] := by simpa using hp
      subst this
      rw [put_f_eq]; cases E.f r <;> rfl
    · exact upd_f_eq
  have links : ∀ r' e p' o, lkOf w (vlOf a.tmps hid) E r' e p' = some o → lkOf w (vlOf a.tmps hid) (fitE E r p u) r' e p' = some none ∨ lkOf w (vlOf a.tmps hid) (fitE E r p u) r' e p' = some o := by
    intro r' e p' o ho
    by_cases hr : r' = r
    · subst hr
      by_cases hp : p.isEmpty = true
      · exact .inl (put_links (x := u) (by unfold fitE; rw [if_pos hp]) ho)
      · have hp' : p.isEmpty = false := by simpa using hp
        have hroot : (E.f r').isRoot = true := by
          cases p with
          | nil => simp at hp
          | cons st p =>
            generalize E.f r' = x at hg
            cases x <;> first | rfl | (simp [aget] at hg)
        exact upd_links (x := aset (E.f r') p u) (by unfold fitE; rw [if_neg hp]) hR (asetU_root _ _ _ hroot hp') rfl ho
    · exact .inr (by rw [lk_keep (w' := w) (a' := a) (hid' := hid) R (hep r' hr).1 (hep r' hr).2 rfl (fun _ _ => rfl) (fun _ _ => rfl)]; exact ho)
  have nr := (hrest w (lkOf w (vlOf a.tmps hid) (fitE E r p u)) (fun _ _ => rfl) (fun _ _ => rfl) links).2 u F1 X1 (r1.same links (fun _ _ => rfl) (fun _ _ => rfl)) hfit
  refine ⟨fun t => if t = r then fun b => F1 b + Fr b else Fs t, fun t => if t = r then fun b => X1 b + Xr b else Xs t, F2, X2, ?_, r2.same links (fun _ _ => rfl) (fun _ _ => rfl), ?_, ?_, ?_, ?_, ?_, ?_, ?_⟩
  · refine R.change (fun t => t = r) R.size R.dfr ?_ ?_ ?_ ?_ ?_ ?_ ?_ (Grows.refl _) (fun _ _ _ => rfl) ?_ ?_
    · intro t ht; exact ⟨(hep t ht).1, (hep t ht).2, rfl, by simp [ht], by simp [ht], fun _ _ => rfl, fun _ _ => rfl⟩
    · intro r' hr e p' o h; exact links r' e p' o h
    · intro l t ht; subst ht; rw [hR]; simp only [if_true]; exact nr
    · intro t ht b; simp only [ht, if_true]; have := P1.one b; have := eF b; have := hF b; have := R.one r b; have := P1.dis r b; omega
    · intro t ht t' hne' b; subst ht; simp only [if_true, Ne.symm hne', if_false]; have := P1.dis t' b; have := eF b; have := R.dis t t' b hne'; have := hF b; omega
    · intro t ht t' b; subst ht; simp only [if_true]
      by_cases e : t' = t
      · simp only [e, if_true]; have := P1.dx3 b; have := eF b; have := eX b; have := R.disx t t b; have := hF b; have := hX b; have := P1.dx1 t b; have := P1.dx2 t b; omega
      · simp only [e, if_false]; have := P1.dx1 t' b; have := eF b; have := R.disx t t' b; have := hF b; omega
    · intro t ht t' b; subst ht; simp only [if_true]
      by_cases e : t' = t
      · simp only [e, if_true]; have := P1.dx3 b; have := eF b; have := eX b; have := R.disx t t b; have := hF b; have := hX b; have := P1.dx1 t b; have := P1.dx2 t b; omega
      · simp only [e, if_false]; have := P1.dx2 t' b; have := eX b; have := R.disx t' t b; have := hX b; omega
    · intro t ht b hb; subst ht; simp only [if_true] at hb
      by_cases e : F1 b = 0
      · exact R.org t b (by have := hF b; omega)
      · exact P1.org b (by have := eF b; omega)
    · intro t ht b hb; subst ht; simp only [if_true] at hb
      by_cases e : X1 b = 0
      · exact ⟨R.orgx t b (by have := hX b; omega), R.ltx t b (by have := hX b; omega)⟩
      · exact P1.orgx b (by have := eX b; omega)
  · intro b; have := P1.one b; have := eF b; omega
  · intro t b
    by_cases e : t = r
    · simp only [e, if_true]; have := P1.one b; have := eF b; have := hF b; have := P1.dis r b; omega
    · simp only [e, if_false]; have := P1.dis t b; have := eF b; omega
  · intro t b
    by_cases e : t = r
    · simp only [e, if_true]; have := P1.dx3 b; have := eF b; have := eX b; have := hX b; have := P1.dx1 r b; omega
    · simp only [e, if_false]; have := P1.dx1 t b; have := eF b; omega
  · intro t b
    by_cases e : t = r
    · simp only [e, if_true]; have := P1.dx3 b; have := eF b; have := eX b; have := hF b; have := P1.dx2 r b; omega
    · simp only [e, if_false]; have := P1.dx2 t b; have := eX b; omega
  · intro b; have := P1.dx3 b; have := eF b; have := eX b; omega
  · intro b hb; exact P1.org b (by have := eF b; omega)
  · intro b hb; exact P1.orgx b (by have := eX b; omega)

/-- all parts go back -/
theorem backP_sound {vs : List Value} {v : Value} {ret : AV} : ∀ (l : List Plc) {E E' : Env} {os : List AV} {Fs Xs : Nat → Foot} {FP XP : Foot}, PR B hid w a E Fs Xs FP XP (v :: vs) (ret :: os) → backP E os l = some E' →
    (∀ q ∈ l, ∃ h, cres w (vlOf a.tmps hid q.2.2.1) q.2.2.2 = some h ∧ ValAt vs q.1 q.2.1 h) → ∃ os' Fs' Xs' FP' XP', PR B hid w a E' Fs' Xs' FP' XP' (v :: vs) (ret :: os') := by
  intro l
  induction l with
  | nil => intro E E' os Fs Xs FP XP P1 h _; simp only [backP, Option.some.injEq] at h; subst h; exact ⟨os, Fs, Xs, FP, XP, P1⟩
  | cons q l ih =>
    obtain ⟨k, j, r, p⟩ := q
    intro E E' os Fs Xs FP XP P1 h hf
    simp only [backP] at h
    obtain ⟨g, hg, h⟩ := bind_some h
    obtain ⟨⟨h1, h2, h3⟩, h⟩ := ite_some h
    obtain ⟨hv, hres, hval⟩ := hf (k, j, r, p) (by simp)
    obtain ⟨A1, A2, Y1, Y2, q1, q2, eA, eY⟩ := RepA.uncons P1.rep
    obtain ⟨F1, F2, X1, X2, p1, p2, pF, pX⟩ := RepA.takePart q2 hg hval
    obtain ⟨Fs', Xs', FP', XP', P2⟩ := PR.fit P1 (ys' := ret :: g.2) p1 (RepA.cons q1 p2 (fun _ => rfl) (fun _ => rfl)) (fun b => by have := eA b; have := pF b; omega) (fun b => by have := eY b; have := pX b; omega)
      (isU_some h1) hres h2 h3
    exact ih P2 h fun q hq => hf q (by simp [hq])

theorem lnk_cres (R : Rel B hid w a E Fs Xs) {v : Value} {r e : Nat} {p : Path} {F X : Foot} {x : Nat × List (List TV)} (h : RepA w (lkOf w (vlOf a.tmps hid) E) F X [v] [.lnk r e p]) (hn : nodeOf E r e p = some x) :
    cres w (vlOf a.tmps hid r) p = some v := by
  obtain ⟨s, es⟩ := x
  obtain ⟨h1, h2, h3⟩ := nodeOf_some hn
  obtain ⟨hd, Fu, Fr, Xu, Xr, hF, hX, hhd, hres, hrest⟩ := ahole p (R.rep r) h3
  cases h with
  | lnk _ _ _ _ _ o _ _ _ ho hv' _ =>
    unfold lkOf at ho
    rw [if_neg (by omega), if_pos ⟨h1, h2, by rw [h3]; rfl⟩, hres] at ho
    cases ho
    rw [hv' _ rfl]; exact hres

/-- places of links: what lies there is the argument's part -/
theorem plcL_val (R : Rel B hid w a E Fs Xs) (k : Nat) : ∀ (cs : List AV) (j : Nat) (us : List Value) {F X : Foot}, RepA w (lkOf w (vlOf a.tmps hid) E) F X us cs → ∀ q ∈ plcL E k j cs, ∃ i h, q.1 = k ∧ q.2.1 = some (j + i) ∧ us[i]? = some h ∧
    cres w (vlOf a.tmps hid q.2.2.1) q.2.2.2 = some h := by
  intro cs
  induction cs with
  | nil => intro j us F X _ q hq; simp [plcL] at hq
  | cons c cs ih =>
    intro j us F X hr q hq
    cases us with
    | nil => have := hr.length; simp at this
    | cons u us =>
      obtain ⟨A1, A2, Y1, Y2, q1, q2, eA, eY⟩ := RepA.uncons hr
      have tl : q ∈ plcL E k (j + 1) cs → ∃ i h, q.1 = k ∧ q.2.1 = some (j + i) ∧ (u :: us)[i]? = some h ∧ cres w (vlOf a.tmps hid q.2.2.1) q.2.2.2 = some h := fun hq => by
        obtain ⟨i, h, h1, h2, h3, h4⟩ := ih (j + 1) us q2 q hq
        exact ⟨i + 1, h, h1, by rw [h2]; congr 1; omega, by simpa using h3, h4⟩
      cases c with
      | lnk r e p =>
        simp only [plcL] at hq
        split at hq
        · rename_i hs
          rcases List.mem_cons.1 hq with rfl | hq
          · obtain ⟨⟨s, es⟩, hn⟩ := Option.isSome_iff_exists.1 hs
            exact ⟨0, u, rfl, rfl, rfl, lnk_cres R q1 hn⟩
          · exact tl hq
        · exact tl hq
      | _ => simp only [plcL] at hq; exact tl hq

theorem plcs_val (R : Rel B hid w a E Fs Xs) {caps : List (Value × AV)} {ms : List M} {vs : List Value} {os : List O} (h : CallOk B.n a caps ms vs os) : ∀ k, ∀ q ∈ plcs E k ms os, ∃ i h, q.1 = k + i ∧ ValAt vs i q.2.1 h ∧
    cres w (vlOf a.tmps hid q.2.2.1) q.2.2.2 = some h := by
  induction h with
  | nil => intro k q hq; simp [plcs] at hq
  | @opd ms vs os md x o1 ho t ih =>
    intro k q hq
    have tl : q ∈ plcs E (k + 1) ms os → ∃ i h, q.1 = k + i ∧ ValAt (a.eval x :: vs) i q.2.1 h ∧ cres w (vlOf a.tmps hid q.2.2.1) q.2.2.2 = some h := fun hq => by
      obtain ⟨i, h, h1, h2, h3⟩ := ih (k + 1) q hq
      refine ⟨i + 1, h, by omega, ?_, h3⟩
      cases hj : q.2.1 with
      | none => rw [hj] at h2; simpa [ValAt] using h2
      | some j => rw [hj] at h2; obtain ⟨us, g1, g2⟩ := h2; exact ⟨us, by simpa using g1, g2⟩
    cases md with
    | p =>
      simp only [plcs, List.mem_append] at hq
      rcases hq with hq | hq
      · obtain ⟨F, X, hr, _⟩ := opd_rep R ho
        generalize val E o1 = y at hr hq
        cases y with
        | lnk r e p =>
          simp only [plcA] at hq
          split at hq
          · rename_i hs
            simp only [List.mem_singleton] at hq
            subst hq
            obtain ⟨z, hn⟩ := Option.isSome_iff_exists.1 hs
            exact ⟨0, a.eval x, by simp, rfl, lnk_cres R hr hn⟩
          · simp at hq
        | agg cs =>
          simp only [plcA] at hq
          generalize hve : a.eval x = v at hr
          cases hr with
          | agg _ F1 F2 _ X1 X2 us _ _ _ g1 _ _ _ =>
            obtain ⟨i, h, h1, h2, h3, h4⟩ := plcL_val R k cs 0 us g1 q hq
            refine ⟨0, h, by simpa using h1, ?_, h4⟩
            rw [h2]
            exact ⟨us.toArray, by simp, by simpa using h3⟩
        | _ => simp [plcA] at hq
      · exact tl hq
    | b => simp only [plcs] at hq; exact tl hq
    | l => simp only [plcs] at hq; exact tl hq
    | m => simp only [plcs] at hq; exact tl hq
  | @cap ms vs os v y hm t ih =>
    intro k q hq
    simp only [plcs] at hq
    obtain ⟨i, h, h1, h2, h3⟩ := ih (k + 1) q hq
    refine ⟨i + 1, h, by omega, ?_, h3⟩
    cases hj : q.2.1 with
    | none => rw [hj] at h2; simpa [ValAt] using h2
    | some j => rw [hj] at h2; obtain ⟨us, g1, g2⟩ := h2; exact ⟨us, by simpa using g1, g2⟩

end Go.Proofs.YtjmnolhflcjpgaaGreat.Awp

namespace Go.Proofs.YtjmnolhflcjpgaaGreat.Awp
set_option linter.unusedVariables false
set_option linter.unusedSimpArgs false
variable {P : Program} {w w' : World} {B : Base} {hid hv : Nat → Value} {a : Act} {E : Env} {Fs Xs : Nat → Foot} {FP XP : Foot} {Q : Exit → Act → World → Prop} {o : Oper}

theorem RepA.mem {lk : Lk} : ∀ {caps : List (Value × AV)} {F X : Foot}, RepA w lk F X (caps.map (·.1)) (caps.map (·.2)) → ∀ v y, (v, y) ∈ caps → ∃ G Z, RepA w lk G Z [v] [y] ∧ (∀ b, G b ≤ F b) ∧ ∀ b, Z b ≤ X b := by
  intro caps
  induction caps with
  | nil => intro F X _ v y h; cases h
  | cons c caps ih =>
    intro F X h v y hm
    obtain ⟨A1, A2, Y1, Y2, q1, q2, eA, eY⟩ := RepA.uncons h
    rcases List.mem_cons.1 hm with rfl | hm
    · exact ⟨A1, Y1, q1, fun b => by have := eA b; omega, fun b => by have := eY b; omega⟩
    · obtain ⟨G, Z, h1, h2, h3⟩ := ih q2 v y hm
      exact ⟨G, Z, h1, fun b => by have := eA b; have := h2 b; omega, fun b => by have := eY b; have := h3 b; omega⟩

theorem RepA.lk0 {F X : Foot} {vs : List Value} {xs : List AV} (h : RepA w Awp.lk0 F X vs xs) (lk' : Lk) : RepA w lk' F X vs xs :=
  h.same (fun _ _ _ _ e => by cases e) (fun _ _ => rfl) (fun _ _ => rfl)

theorem call_core {f : Nat} {vs : List Value} {args outs : List AV} {ret : AV} {G Y : Foot} (hS : Spec P f args ret outs) (gRep : RepA w lk0 G Y vs args) (one : ∀ b, G b ≤ 1)
    (dis : ∀ b, Y b ≠ 0 → G b = 0 ∧ b < w.heap.size) (src : ∀ b, SrcX Xs XP b → G b = 0 ∧ b < w.heap.size)
    (hcond : (extsL (ret :: outs) = false ∧ ∀ x ∈ vlvL (ret :: outs), x ∈ vlvL args) ∨ (∀ b, Y b ≠ 0 → SrcX Xs XP b)) (gV : ∀ q ∈ vlvL args, ∃ Z, Row w false Z [q.1] [.sl q.2.1 q.2.2] ∧ ∀ b, Z b ≠ 0 → SrcX Xs XP b) :
    Calls P f vs.toArray w fun e w' => ∃ v, e = .returned v ∧ Grows w w' ∧ (∀ b, b < w.heap.size → G b = 0 → w'.heap[b]? = w.heap[b]?) ∧
      ∃ F' X', RepA w' lk0 F' X' (v :: vs) (ret :: outs) ∧ (∀ b, F' b ≤ 1) ∧ (∀ b, F' b ≠ 0 → G b ≠ 0 ∨ w.heap.size ≤ b) ∧
        (∀ b, X' b ≠ 0 → F' b = 0 ∧ b < w'.heap.size ∧ (G b ≠ 0 ∨ w.heap.size ≤ b ∨ SrcX Xs XP b)) := by
  obtain ⟨_, _, hspec⟩ := hS
  refine Calls.mono' (hspec w vs G Y gRep one (fun b => by
    by_cases e : Y b = 0
    · exact .inr e
    · exact .inl (dis b e).1) (fun b hb => (dis b hb).2)) ?_
  rintro e w' ⟨v, F', X', rfl, hr, h1, h2, h3, h4, h5, h6⟩
  have h3' := h3.size
  refine ⟨v, rfl, h3, h4, ?_⟩
  rcases hcond with ⟨c1, c2⟩ | c
  · obtain ⟨Y', y1, y2⟩ := rebuild hr (fun b => SrcX Xs XP b) c1 (fun q hq => by
      obtain ⟨Z, z1, z2⟩ := gV q (c2 q hq)
      exact ⟨Z, z1.same (fun b hb => h4 b (src b (z2 b hb)).2 (src b (z2 b hb)).1), z2⟩)
    refine ⟨F', Y', y1, h1, h5, fun b hb => ?_⟩
    obtain ⟨s1, s2⟩ := src b (y2 b hb)
    refine ⟨?_, by omega, .inr (.inr (y2 b hb))⟩
    by_cases e : F' b = 0
    · exact e
    · have := h5 b e; omega
  · refine ⟨F', X', hr, h1, h5, fun b hb => ⟨?_, (h6 b hb).2, ?_⟩⟩
    · have := h2 b; omega
    · rcases (h6 b hb).1 with h | h | h
      · exact .inr (.inr (c b h))
      · exact .inl h
      · exact .inr (.inl h)

theorem put_good {v : Value} {x : AV} (P1 : PR B hid w a E Fs Xs FP XP [v] [x]) (hh : ∀ t, t < 2000 → hid t = hv t) {d : Option Nat} (hd : ∀ q, d = some q → q < B.n) : Good B hv w (a.put d v) (putO E d x) := by
  cases d with
  | some d => exact good_put P1 hh (hd d rfl)
  | none => exact ⟨hid, Fs, Xs, P1.rel, hh⟩

theorem callM_sound {ms : List M} {os : List O} {vs : List Value} {caps : List (Value × AV)} {XP0 : Foot} {d : Option Nat} {f : Nat} {K : Env → Prop}
    (hrun : Enters P f → (execOp a.eval o).run P w = .ok (.enter f vs.toArray) w) (hd : o.dst = d) (hdn : ∀ q, d = some q → q < B.n) (hC : CallOk B.n a caps ms vs os)
    (P0 : PR B hid w a E Fs Xs (fun _ => 0) XP0 (caps.map (·.1)) (caps.map (·.2))) (hown : ownsL (caps.map (·.2)) = false) (hh : ∀ t, t < 2000 → hid t = hv t) (h : callM P d f os ms K E) :
    o.wp P a w (fun a' w' => ∃ E', K E' ∧ Good B hv w' a' E') Q := by
  obtain ⟨pr, hpr, ret, outs, hS, hcond, E', hback, hK⟩ := h
  unfold Oper.wp
  rw [hrun hS.1, Oper.upon_enter, hd]
  unfold prep at hpr
  obtain ⟨mv, hmv, hpr⟩ := bind_some hpr
  obtain ⟨Fs1, Xs1, FP1, XP1, us, xs, P1, hm⟩ := mvP_sound (mv := mv.1) (E1 := mv.2) hC P0 hmv
  have R1 := P1.rel
  obtain ⟨C1, C2, Y1, Y2, q1, q2, eC, eY⟩ := RepA.split (caps.map (·.1)) (caps.map (·.2)) (by simp) P1.rep
  have hC1 := own_zero q1 hown
  have hcap : ∀ v y, (v, y) ∈ caps → ∃ X, RepA w (lkOf w (vlOf a.tmps hid) mv.2) (fun _ => 0) X [v] [y] ∧ ∀ b, X b ≠ 0 → SrcX Xs1 XP1 b := by
    intro v y hm
    obtain ⟨G, Z, h1, h2, h3⟩ := RepA.mem q1 v y hm
    exact ⟨Z, h1.foot (fun b => by have := h2 b; have := hC1 b; omega) (fun _ => rfl), fun b hb => .inl (by have := h3 b; have := eY b; omega)⟩
  have srcLt : ∀ b, SrcX Xs1 XP1 b → b < w.heap.size := by
    rintro b (h | ⟨t, h⟩)
    · exact (P1.orgx b h).2
    · exact R1.ltx t b h
  have srcF : ∀ b, SrcX Xs1 XP1 b → FP1 b = 0 ∧ ∀ t, Fs1 t b = 0 := by
    rintro b (h | ⟨t, h⟩)
    · exact ⟨by have := P1.dx3 b; omega, fun t => by have := P1.dx2 t b; omega⟩
    · exact ⟨by have := P1.dx1 t b; omega, fun t' => by have := R1.disx t' t b; omega⟩
  split at hpr
  · -- nothing is lent
    rename_i hno
    obtain ⟨args, hargs, hpr⟩ := bind_some hpr
    obtain ⟨hlk, hpr⟩ := ite_some hpr
    cases hpr
    have hA := argOk_of (ln := none) (hd := undef) R1 hcap (fun _ _ _ h => by cases h) hC (.inl hno)
    obtain ⟨G, Y, g1, g2, g3, g4, g5⟩ := args_sound (ln := none) (hd := undef) (Fu := fun _ => 0) (Xu := fun _ => 0) R1 (fun _ _ _ h => by cases h) hm hA hargs q2 (fun b hb => by have := eY b; omega)
    have hG : ∀ b, G b = FP1 b := fun b => by rw [g2, eC, hC1]; omega
    have hcall := call_core (Xs := Xs1) (XP := XP1) hS (g1.noLk lk0 hlk) (fun b => by rw [hG]; exact P1.one b)
      (fun b hb => by
        rw [hG]
        rcases g3 b hb with h | ⟨t, _, h⟩
        · exact ⟨(srcF b h).1, srcLt b h⟩
        · exact ⟨by have := P1.dis t b; omega, (R1.rep t).lt b h⟩)
      (fun b hb => by rw [hG]; exact ⟨(srcF b hb).1, srcLt b hb⟩)
      (hcond.imp_right (fun hp => g4 hp)) g5
    refine Calls.mono' hcall ?_
    rintro e w' ⟨v, rfl, k1, k2, F', X', k3, k4, k5, k6⟩
    have k1' := k1.size
    simp only [backA] at hback
    obtain ⟨hallU, hback⟩ := ite_some hback
    obtain ⟨FP', XP', P2⟩ := PR.turn0 (w' := w') (vs' := v :: vs) (xs' := ret :: outs) P1 k1 (fun b hb h0 => k2 b hb (by rw [hG]; exact h0)) (fun lk' => by
      refine ⟨F', X', fun b => k4 b, fun b hb => ?_, fun b hb => ?_, k3.lk0 lk'⟩
      · have := k5 b hb; rw [hG] at this; exact this
      · obtain ⟨j1, j2, j3⟩ := k6 b hb
        rw [hG] at j3
        refine ⟨j1, j2, ?_⟩
        rcases j3 with h | h | h | h
        · exact .inl h
        · exact .inr (.inl h)
        · exact .inr (.inr (.inr h))
        · exact .inr (.inr (.inl h)))
    have hplc : ∀ q ∈ plcs E 0 ms os, ∃ h, cres w' (vlOf a.tmps hid q.2.2.1) q.2.2.2 = some h ∧ ValAt vs q.1 q.2.1 h := by
      intro q hq
      obtain ⟨i, h, h1, h2, h3⟩ := plcs_val P0.rel hC 0 q hq
      rw [List.all_eq_true] at hallU
      have hu := isU_some (hallU q hq)
      obtain ⟨hd0, Fu, Fr, Xu, Xr, hF, hX, _, hres, hrest⟩ := ahole q.2.2.2 (R1.rep q.2.2.1) hu
      rw [h3] at hres
      cases hres
      have samF : ∀ t, Same w w' (Fs1 t) := fun t b hb => k2 b ((R1.rep t).lt b hb) (by rw [hG]; have := P1.dis t b; omega)
      have samX : ∀ t, Same w w' (Xs1 t) := fun t b hb => k2 b (R1.ltx t b hb) (by rw [hG]; have := P1.dx1 t b; omega)
      have := (hrest w' (lkOf w (vlOf a.tmps hid) mv.2) (fun b hb => samF q.2.2.1 b (by have := hF b; omega)) (fun b hb => samX q.2.2.1 b (by have := hX b; omega)) (fun _ _ _ _ h => .inr h)).1
      exact ⟨_, this, by rw [h1, Nat.zero_add]; exact h2⟩
    obtain ⟨os', Fs3, Xs3, FP3, XP3, P3⟩ := backP_sound _ P2 hback hplc
    obtain ⟨A1, A2, Z1, Z2, r1, r2, eA, eZ⟩ := RepA.uncons P3.rep
    exact ⟨_, hK, put_good (P3.shrink r1 (fun b => by have := eA b; omega) (fun b => by have := eZ b; omega)) hh hdn⟩
  · -- a place is lent
    obtain ⟨k, hk, hpr⟩ := bind_some hpr
    obtain ⟨ln, hln, hpr⟩ := bind_some hpr
    obtain ⟨args, hargs, hpr⟩ := bind_some hpr
    obtain ⟨hlk, hpr⟩ := ite_some hpr
    cases hpr
    obtain ⟨r, p, x⟩ := ln
    -- whose place it is
    have hfind : ∀ {ms : List M} {os : List O}, findL mv.2 ms os = some (r, p, x) → ∃ y, lendOf mv.2 y = some (r, p, x) := by
      intro ms
      induction ms with
      | nil => intro os h; cases os <;> simp [findL] at h
      | cons md ms ih =>
        intro os h
        cases os with
        | nil => cases md <;> simp [findL] at h
        | cons o' os =>
          cases md with
          | l => simp only [findL] at h; exact ⟨_, h⟩
          | b => simp only [findL] at h; exact ih h
          | m => simp only [findL] at h; exact ih h
          | p => simp only [findL] at h; exact ih h
    obtain ⟨y, hy⟩ := hfind hln
    obtain ⟨hg, hroot, hxroot⟩ := lendOf_some hy
    obtain ⟨hd0, Fu, Fr, Xu, Xr, L⟩ := lent_of R1 hg
    have hA := argOk_of (ln := some (r, p, x)) (hd := hd0) R1 hcap (fun r' p' x' h => by cases h; exact L.res) hC (.inr ⟨by rw [hk]; rfl, hln, by simp⟩)
    obtain ⟨G, Y, g1, g2, g3, g4, g5⟩ := args_sound (ln := some (r, p, x)) (hd := hd0) (Fu := Fu) (Xu := Xu) R1 (fun r' p' x' h => by cases h; exact ⟨L.rep, fun b => by have := L.hX b; omega⟩) hm hA hargs q2 (fun b hb => by have := eY b; omega)
    have hcnt := cntL_le.2 (show (lendAt ms).isSome = true by rw [hk]; rfl)
    have hG : ∀ b, G b = Fu b + FP1 b := fun b => by rw [g2, eC, hC1, hcnt]; omega
    have hFu : ∀ b, Fu b ≤ Fs1 r b := fun b => by have := L.hF b; omega
    have one : ∀ b, G b ≤ 1 := fun b => by have := hG b; have := hFu b; have := R1.one r b; have := P1.one b; have := P1.dis r b; omega
    have hcall := call_core (Xs := Xs1) (XP := XP1) hS (g1.noLk lk0 hlk) one
      (fun b hb => by
        rcases g3 b hb with h | ⟨t, ht, h⟩
        · have := srcF b h; have := hFu b; have := this; exact ⟨by have h2 := (srcF b h).2 r; have := hG b; have := (srcF b h).1; omega, srcLt b h⟩
        · have htr : t ≠ r := fun e => ht (by rw [e]; rfl)
          exact ⟨by have := P1.dis t b; have := R1.dis t r b htr; have := hFu b; have := hG b; omega, (R1.rep t).lt b h⟩)
      (fun b hb => ⟨by have h2 := (srcF b hb).2 r; have := hG b; have := (srcF b hb).1; have := hFu b; omega, srcLt b hb⟩)
      (hcond.imp_right (fun hp => g4 hp)) g5
    refine Calls.mono' hcall ?_
    rintro e w' ⟨v, rfl, k1, k2, F', X', k3, k4, k5, k6⟩
    have k1' := k1.size
    simp only [backA, backE] at hback
    obtain ⟨un, hun, hback⟩ := bind_some hback
    obtain ⟨⟨hfit, hur⟩, hback⟩ := ite_some hback
    cases hback
    have hvk := argOk_at hA hk
    obtain ⟨A1, A2, Z1, Z2, r1, r2, eA, eZ⟩ := RepA.uncons k3
    obtain ⟨v', B1, B2, W1, W2, j1, j2, eB, eW, _⟩ := RepA.at r2 hun
    rw [hvk] at j1; cases j1
    obtain ⟨Fs', Xs', FP', XP', P2⟩ := PR.turn (w' := w') (vs' := [v]) (xs' := [ret]) (un := un) P1 L.hF L.hX L.rest hfit (aset_root _ _ _ hroot hur) k1 (fun b hb h0 h1 => k2 b hb (by rw [hG]; omega)) (fun lk' => by
      refine ⟨B1, W1, A1, Z1, fun b => by have := eA b; have := eB b; have := k4 b; omega, fun b hb => ?_, fun b hb => ?_, j2.lk0 lk', r1.lk0 lk'⟩
      · have := k5 b (by have := eA b; have := eB b; omega); rw [hG] at this; exact this
      · obtain ⟨j1, j2, j3⟩ := k6 b (by have := eZ b; have := eW b; omega)
        rw [hG] at j3
        refine ⟨by have := eA b; have := eB b; omega, j2, ?_⟩
        rcases j3 with h | h | h | h
        · exact .inl h
        · exact .inr (.inl h)
        · exact .inr (.inr (.inr h))
        · exact .inr (.inr (.inl h)))
    exact ⟨_, hK, put_good P2 hh hdn⟩

end Go.Proofs.YtjmnolhflcjpgaaGreat.Awp

namespace Go.Proofs.YtjmnolhflcjpgaaGreat.Awp
set_option linter.unusedVariables false
set_option linter.unusedSimpArgs false
variable {P : Program} {w w' : World} {B : Base} {hid hv : Nat → Value} {a : Act} {E : Env} {Fs Xs : Nat → Foot} {FP XP : Foot} {Q : Exit → Act → World → Prop} {o : Oper}

theorem cBin_nocall {d : Nat} {op : BinOp} {t : TypeId} {x y : O} {i : I} (h : cBin P d op t x y = some i) : i.isCall = false := by
  unfold cBin at h
  split at h
  · cases h; rfl
  · cases h; rfl
  · cases h; rfl
  · cases h; rfl
  · cases h; rfl
  · cases h; rfl
  · obtain ⟨_, h⟩ := ite_some h; obtain ⟨_, _, rfl⟩ := map_some h; rfl
  · obtain ⟨_, h⟩ := ite_some h; obtain ⟨_, _, rfl⟩ := map_some h; rfl
  · cases h

def NC (x : Option I) : Prop := ∀ i, x = some i → i.isCall = false
theorem nc_map {α : Type} {x : Option α} {f : α → I} (hf : ∀ y, (f y).isCall = false) : NC (x.map f) := by
  intro i h; obtain ⟨y, _, rfl⟩ := map_some h; exact hf y
theorem nc_bind {α : Type} {x : Option α} {f : α → Option I} (hf : ∀ y, NC (f y)) : NC (x.bind f) := by
  intro i h; obtain ⟨y, _, h⟩ := bind_some h; exact hf y i h
theorem nc_ite {c : Prop} [Decidable c] {x y : Option I} (hx : NC x) (hy : NC y) : NC (if c then x else y) := by
  split
  · exact hx
  · exact hy
theorem nc_none : NC none := fun i h => by cases h
theorem nc_some {i : I} (h : i.isCall = false) : NC (some i) := fun j e => by cases e; exact h

/-- what a call is compiled from -/
theorem cOp_call {n : Nat} {i : I} (hc : cOp P n o = some i) (hi : i.isCall = true) : (∀ q, o.dst = some q → q < n) ∧ ∃ args ts l,
    (∃ f, o.op = .call ⟨.value (.func f), args, ts⟩ ∧ cArgs P n args.toList ts.toList = some l ∧ i = .call o.dst f l) ∨
    (∃ t, t < n ∧ o.op = .call ⟨.value (.tmp t), args, ts⟩ ∧ cArgs P n args.toList ts.toList = some l ∧ i = .callv o.dst (.t t) l) := by
  unfold cOp at hc
  split at hc
  · cases hc
  rename_i hall
  refine ⟨fun q hq => by rw [hq] at hall; simpa using hall, ?_⟩
  split at hc
  case h_22 c ho =>
    obtain ⟨callee, args, ts⟩ := c
    simp only at hc
    split at hc
    · obtain ⟨_, hc⟩ := ite_some hc
      obtain ⟨_, _, hc⟩ := bind_some hc
      split at hc <;> first | (cases hc; cases hi) | cases hc
    · obtain ⟨_, _, hc⟩ := bind_some hc
      obtain ⟨_, _, hc⟩ := bind_some hc
      obtain ⟨_, _, hc⟩ := bind_some hc
      obtain ⟨_, _, hc⟩ := bind_some hc
      obtain ⟨_, hc⟩ := ite_some hc
      cases hc; cases hi
    · obtain ⟨_, _, hc⟩ := bind_some hc
      obtain ⟨_, _, hc⟩ := bind_some hc
      obtain ⟨_, _, hc⟩ := bind_some hc
      obtain ⟨_, _, hc⟩ := bind_some hc
      obtain ⟨_, hc⟩ := ite_some hc
      cases hc; cases hi
    · obtain ⟨_, _, hc⟩ := bind_some hc
      obtain ⟨_, _, hc⟩ := bind_some hc
      obtain ⟨_, _, hc⟩ := bind_some hc
      obtain ⟨_, _, hc⟩ := bind_some hc
      obtain ⟨_, hc⟩ := ite_some hc
      cases hc; cases hi
    · obtain ⟨_, _, hc⟩ := bind_some hc
      obtain ⟨_, _, rfl⟩ := map_some hc
      cases hi
    · obtain ⟨_, _, hc⟩ := bind_some hc
      obtain ⟨_, _, rfl⟩ := map_some hc
      cases hi
    · rename_i f
      obtain ⟨l, h1, rfl⟩ := map_some hc
      exact ⟨args, ts, l, .inl ⟨f, ho, h1, rfl⟩⟩
    · rename_i t
      obtain ⟨ht, hc⟩ := ite_some hc
      obtain ⟨l, h1, rfl⟩ := map_some hc
      exact ⟨args, ts, l, .inr ⟨t, ht, ho, h1, rfl⟩⟩
    · cases hc
  all_goals exfalso
  all_goals (
    have hnc := fun (h : NC _) => h i hc
    have : i.isCall = false := hnc (by
      repeat (first
        | exact nc_none
        | exact nc_some rfl
        | exact (fun _ h => cBin_nocall h)
        | (refine nc_map (fun _ => ?_); rfl)
        | (refine nc_bind (fun _ => ?_))
        | (refine nc_ite ?_ ?_)
        | split))
    rw [this] at hi; cases hi)

theorem mvP_len : ∀ {ms : List M} {os : List O} {E : Env} {q : List (Option AV) × Env}, mvP E ms os = some q → ms.length = os.length := by
  intro ms
  induction ms with
  | nil => intro os E q h; cases os <;> simp [mvP] at h ⊢
  | cons md ms ih =>
    intro os E q h
    cases os with
    | nil => cases md <;> simp [mvP] at h
    | cons x os =>
      cases md with
      | m => simp only [mvP] at h; obtain ⟨g, _, h⟩ := bind_some h; obtain ⟨y, h, _⟩ := map_some h; simp [ih h]
      | p => simp only [mvP] at h; obtain ⟨g, _, h⟩ := bind_some h; obtain ⟨y, h, _⟩ := map_some h; simp [ih h]
      | b => simp only [mvP] at h; obtain ⟨y, h, _⟩ := map_some h; simp [ih h]
      | l => simp only [mvP] at h; obtain ⟨y, h, _⟩ := map_some h; simp [ih h]

theorem callOk_opds {n : Nat} {caps : List (Value × AV)} : ∀ {xs : List Operand} {os : List O}, OpdsOk n xs os → ∀ {ms : List M}, ms.length = os.length → CallOk n a caps ms (xs.map a.eval) os := by
  intro xs os h
  induction h with
  | nil => intro ms h; cases ms with | nil => exact .nil | cons _ _ => cases h
  | cons h _ ih => intro ms hl; cases ms with | nil => cases hl | cons md ms => exact .opd h (ih (by simpa using hl))

theorem callOk_caps {n : Nat} {caps : List (Value × AV)} : ∀ {cs : List (Value × AV)}, (∀ c ∈ cs, c ∈ caps) → ∀ {ms : List M} {vs : List Value} {os : List O}, CallOk n a caps ms vs os →
    CallOk n a caps (ms ++ cs.map fun _ => .b) (vs ++ cs.map (·.1)) (os ++ cs.map fun c => .c c.2) := by
  intro cs hcs ms vs os h
  induction h with
  | nil =>
    simp only [List.nil_append]
    induction cs with
    | nil => exact .nil
    | cons c cs ih => exact .cap (hcs c (by simp)) (ih fun c hc => hcs c (by simp [hc]))
  | opd h _ ih => exact .opd h ih
  | cap h _ ih => exact .cap h ih

theorem callM_len {ms : List M} {os : List O} {d : Option Nat} {f : Nat} {K : Env → Prop} (h : callM P d f os ms K E) : ms.length = os.length := by
  obtain ⟨pr, hpr, _⟩ := h
  unfold prep at hpr
  obtain ⟨mv, hmv, _⟩ := bind_some hpr
  exact mvP_len hmv

theorem run_enter {f : Nat} {args : Array Value} (h : Enters P f) : (callFunc f args).run P w = .ok (.enter f args) w := by
  obtain ⟨fn, h1, h2, h3⟩ := h
  have h4 : ¬ fn.name = "runtime.NumGoroutine" := by simpa using h3
  have h5 : ¬ fn.body = none := by intro e; rw [e] at h2; cases h2
  simp [callFunc, h1, h4, h5]

theorem fn_inv {lk : Lk} {F X : Foot} {v : Value} {f : Nat} {cs : List AV} (h : RepA w lk F X [v] [.fn f cs]) : ∃ us, v = .func (.func f) #[] us.toArray ∧ us.length = cs.length ∧ ∃ F1 X1, RepA w lk F1 X1 us cs ∧ ∀ b, X1 b ≤ X b := by
  cases h with
  | fn _ F1 F2 _ X1 X2 f us cs _ _ h1 h hF hX => exact ⟨us, rfl, h1.length, F1, X1, h1, fun b => by have := hX b; omega⟩

/-- ONE OPERATION -/
theorem RepA.blank {lk : Lk} : ∀ (cs : List AV) (j : Nat) {F X : Foot} {us : List Value}, RepA w lk F X us cs → ∃ F' X', RepA w lk F' X' us (cs.set j .undef) ∧ (∀ b, F' b ≤ F b) ∧ ∀ b, X' b ≤ X b := by
  intro cs
  induction cs with
  | nil => intro j F X us h; exact ⟨F, X, by simpa using h, fun _ => Nat.le_refl _, fun _ => Nat.le_refl _⟩
  | cons c cs ih =>
    intro j F X us h
    cases us with
    | nil => have := h.length; simp at this
    | cons u us =>
      obtain ⟨A1, A2, Y1, Y2, q1, q2, eA, eY⟩ := RepA.uncons h
      cases j with
      | zero =>
        refine ⟨A2, Y2, ?_, fun b => by have := eA b; omega, fun b => by have := eY b; omega⟩
        exact .undef _ _ _ _ _ q2
      | succ j =>
        obtain ⟨F', X', h', l1, l2⟩ := ih j q2
        refine ⟨fun b => A1 b + F' b, fun b => Y1 b + X' b, RepA.cons q1 h' (fun _ => rfl) (fun _ => rfl), fun b => by have := eA b; have := l1 b; (try dsimp only); omega, fun b => by have := eY b; have := l2 b; (try dsimp only); omega⟩
theorem put_und_put (E : Env) (t : Nat) (x : AV) : (E.put t .undef).put t x = E.put t x := by
  apply Env.ext'
  · intro q
    by_cases h : q = t
    · subst h; rw [put_f_eq, put_f_eq]
    · rw [put_f_ne h, put_f_ne h, put_f_ne h]
  · intro q
    by_cases h : q = t
    · subst h
      show (if q = q ∧ ((E.put q .undef).f q).isRoot = true then _ else (E.put q .undef).ep q) = (E.put q x).ep q
      rw [put_f_eq]
      simp [AV.isRoot, Env.put]
    · rw [put_ep_ne h, put_ep_ne h, put_ep_ne h]
theorem good_blank : ∀ (W : List (Nat × Nat)) {E : Env}, Good B hv w a E → Good B hv w a (blankE E W) := by
  intro W
  induction W with
  | nil => intro E G; exact G
  | cons q W ih =>
    obtain ⟨t, j⟩ := q
    intro E G
    refine ih ?_
    obtain ⟨hid, Fs, Xs, R, hh⟩ := G
    obtain ⟨Fs', Xs', FP', XP', P1⟩ := (PR.nil R).move t
    simp only [List.nil_append] at P1
    have key : ∃ FP2 XP2, PR B hid w a (E.put t .undef) Fs' Xs' FP2 XP2 [vlOf a.tmps hid t] [blankA j (E.f t)] := by
      cases hf : E.f t with
      | agg cs =>
        rw [hf] at P1
        obtain ⟨zs, hz, hzl, hr⟩ := RepA.open_agg (us := []) (ys := []) (vs := []) (xs := []) rfl (by simpa using P1.rep)
        simp only [List.nil_append, List.append_nil] at hr
        obtain ⟨F', X', h', l1, l2⟩ := RepA.blank cs j hr
        have hc := RepA.close_agg (us := []) (ys := []) (vs := []) (xs := []) (zs := zs) (cs := cs.set j .undef) rfl (by rw [hzl, List.length_set]) (by simpa using h')
        simp only [List.nil_append] at hc
        rw [hz]
        rw [hz] at P1
        exact ⟨_, _, P1.shrink hc l1 l2⟩
      | _ => rw [hf] at P1; exact ⟨_, _, P1⟩
    obtain ⟨FP2, XP2, P2⟩ := key
    obtain ⟨Fs3, Xs3, FP3, XP3, P3⟩ := P2.back t rfl
    rw [put_und_put] at P3
    exact ⟨hid, Fs3, Xs3, P3.rel, hh⟩
theorem step_sound {i : I} {K : Env → Prop} (hc : cOp P B.n o = some i) (hn : B.n ≤ 1000) (G : Good B hv w a E) (h : stepA P i K E) :
    o.wp P a w (fun a' w' => ∃ E', K E' ∧ Good B hv w' a' E') Q := by
  by_cases hcl : i.isCall = true
  · obtain ⟨hdn, args, ts, l, ⟨f, ho, hl, rfl⟩ | ⟨t, htn, ho, hl, rfl⟩⟩ := cOp_call hc hcl
    · obtain ⟨W, ms, h⟩ := h
      replace G := good_blank W G
      generalize blankE E W = E at *
      obtain ⟨hid, Fs, Xs, R, hh⟩ := G
      have hrun : Enters P f → (execOp a.eval o).run P w = .ok (.enter f (args.toList.map a.eval).toArray) w := by
        intro hE
        rw [execOp, ho]
        have e : (args.toList.map a.eval).toArray = args.map a.eval := by rw [← Array.toList_map]
        rw [e]
        simp [resolve, invoke, Deferred.ofValue, Act.eval, run_enter hE]
      exact callM_sound (caps := []) hrun rfl hdn (callOk_opds (cArgs_ok hl) (callM_len h)) (PR.nil R) rfl hh h
    · simp only [stepA] at h
      split at h
      case h_2 => exact h.elim
      rename_i f caps hv'
      obtain ⟨ms, hms, hown, h⟩ := h
      obtain ⟨hid, Fs, Xs, R, hh⟩ := G
      have ht : OpdOk B.n (.tmp t) (.t t) := .tmp t htn
      obtain ⟨F, X, hr, _, hX, _⟩ := opd_rep R ht
      rw [hv'] at hr
      obtain ⟨us, hve, hul, F1, X1, hr1, hX1⟩ := fn_inv hr
      have hz := own_zero hr1 hown
      have P0 : ∃ XP0, PR B hid w a E Fs Xs (fun _ => 0) XP0 us caps := by
        have hcp := (PR.nil R).copy (v := .agg us.toArray) (x := .agg caps) (.agg _ F1 (fun _ => 0) _ X1 (fun _ => 0) us caps [] [] hr1 RepA.znil (fun _ => rfl) (fun _ => rfl)) (by simpa using hz) (fun b hb => hX b (by have := hX1 b; (try dsimp only at hb); omega))
        obtain ⟨XP0, hcp⟩ := hcp
        obtain ⟨zs, hz1, hz2, hz3⟩ := RepA.open_agg (us := []) (ys := []) rfl (by simpa using hcp.rep)
        have : zs = us := by simpa using hz1.symm
        subst this
        exact ⟨XP0, hcp.rerep (by simpa using hz3)⟩
      obtain ⟨XP0, P0⟩ := P0
      have hz1 : (us.zip caps).map (·.1) = us := by rw [← List.unzip_fst, List.unzip_zip hul]
      have hz2 : (us.zip caps).map (·.2) = caps := by rw [← List.unzip_snd, List.unzip_zip hul]
      have hCO := callOk_caps (caps := us.zip caps) (cs := us.zip caps) (fun c hc => hc) (callOk_opds (a := a) (caps := us.zip caps) (cArgs_ok hl) (ms := ms) hms)
      have e1 : (us.zip caps).map (fun _ => M.b) = caps.map fun _ => M.b := by
        rw [← hz2, List.map_map]; rw [hz2]; rfl
      have e2 : (us.zip caps).map (fun c => O.c c.2) = caps.map .c := by
        conv => rhs; rw [← hz2]
        rw [List.map_map]; rfl
      rw [e1, e2, hz1] at hCO
      have hrun : Enters P f → (execOp a.eval o).run P w = .ok (.enter f (args.toList.map a.eval ++ us).toArray) w := by
        intro hE
        rw [execOp, ho]
        have e : (args.toList.map a.eval ++ us).toArray = args.map a.eval ++ us.toArray := by apply Array.ext'; simp
        rw [e]
        simp [resolve, invoke, Deferred.ofValue, hve, run_enter hE]
      exact callM_sound (caps := us.zip caps) hrun rfl hdn hCO (by rw [hz1, hz2]; exact P0) (by rw [hz2]; exact hown) hh h
  · have hcl' : i.isCall = false := by simpa using hcl
    have : ∃ E', ev E i = some E' ∧ K E' := by
      cases i <;> first | exact h | cases hcl'
    obtain ⟨E', h1, h2⟩ := this
    exact Oper.wp_mono (fun a' w' hg => ⟨E', h2, hg⟩) (cOp_sound hc hn hcl' G h1)

end Go.Proofs.YtjmnolhflcjpgaaGreat.Awp

namespace Go.Proofs.YtjmnolhflcjpgaaGreat.Awp
set_option linter.unusedVariables false
set_option linter.unusedSimpArgs false
variable {P : Program} {w w' : World} {B : Base} {hid hv : Nat → Value} {a : Act} {E : Env} {Fs Xs : Nat → Foot} {FP XP : Foot} {Q : Exit → Act → World → Prop} {o : Oper}

theorem fix_own (E : Env) (ks : Nat) (s : Nat) (es : List (List TV)) : fixA E ks (.own s es) = .own s es := rfl

theorem fixL_get (E : Env) (ks : Nat) : ∀ (cs : List AV) (j : Nat), (fixL E ks cs)[j]? = (cs[j]?).map (fixA E ks) := by
  intro cs
  induction cs with
  | nil => intro j; simp [fixL]
  | cons c cs ih => intro j; cases j <;> simp [fixL, ih]

theorem fix_root (E : Env) (ks : Nat) (x : AV) (h : x.isRoot = true) : (fixA E ks x).isRoot = true := by
  cases x <;> first | rfl | cases h

theorem fix_aget (E : Env) (ks : Nat) : ∀ (p : Path) (x : AV), (aget x p).isSome = true → (aget (fixA E ks x) p).isSome = true := by
  intro p
  induction p with
  | nil => intro x _; rw [aget_nil]; rfl
  | cons st p ih =>
    intro x h
    cases x with
    | own s es => exact h
    | box cs =>
      simp only [aget] at h
      split at h
      case isFalse => cases h
      rename_i hi
      simp only [fixA, aget, hi, if_true, fixL_get]
      cases hj : cs[st.j]? with
      | none => simp [hj] at h
      | some c => simp [hj] at h; simp; exact ih c h
    | _ => simp [aget] at h

theorem fix_rep {E : Env} {ks : Nat} {lk lk' : Lk} (hl : ∀ r e p o, validL E ks r e p = true → lk r e p = some o → lk' r 0 p = some o) {F X : Foot} {vs : List Value} {xs : List AV} (h : RepA w lk F X vs xs) :
    RepA w lk' F X vs (fixL E ks xs) := by
  induction h with
  | nil F X hF hX => exact .nil _ _ hF hX
  | undef F X v vs as h ih => exact .undef _ _ _ _ _ ih
  | bool F X v vs as h ih => exact .bool _ _ _ _ _ ih
  | int F X k n vs as h ih => exact .int _ _ _ _ _ _ ih
  | str F X s vs as h ih => exact .str _ _ _ _ _ ih
  | own F F1 F2 X s es v vs as h1 h hF ih => exact .own _ F1 F2 _ _ _ _ _ _ h1 ih hF
  | ext F X X1 X2 s es v vs as h1 h hX ih => exact .ext _ _ X1 X2 _ _ _ _ _ h1 ih hX
  | extv F X X1 X2 s es v vs as h1 h hX ih => exact .extv _ _ X1 X2 _ _ _ _ _ h1 ih hX
  | box F F1 F2 X X1 X2 b C ty fr cs vs as hb hfr h1 h hF hX ih1 ih => exact .box _ F1 F2 _ X1 X2 b C ty fr _ _ _ hb hfr ih1 ih hF hX
  | xbox F X X1 X2 a us cs vs as hc h1 h hX ih => exact .xbox _ _ X1 X2 a us cs _ _ hc h1 ih hX
  | agg F F1 F2 X X1 X2 us cs vs as h1 h hF hX ih1 ih => exact .agg _ F1 F2 _ X1 X2 us _ _ _ ih1 ih hF hX
  | tup F F1 F2 X X1 X2 us cs vs as h1 h hF hX ih1 ih => exact .tup _ F1 F2 _ X1 X2 us _ _ _ ih1 ih hF hX
  | fn F F1 F2 X X1 X2 f us cs vs as h1 h hF hX ih1 ih => exact .fn _ F1 F2 _ X1 X2 f us _ _ _ ih1 ih hF hX
  | lnk F X r e p o v vs as ho hv h ih =>
    simp only [fixL, fixA]
    split
    · exact .lnk _ _ _ _ _ _ _ _ _ (hl r e p o (by assumption) ho) hv ih
    · exact .undef _ _ _ _ _ ih
  | sub F X r e p s lo n o v vs as ho hv h ih =>
    simp only [fixL, fixA]
    split
    · exact .sub _ _ _ _ _ _ _ _ _ _ _ _ (hl r e p o (by assumption) ho) hv ih
    · exact .undef _ _ _ _ _ ih
  | ref F X r e p st o v vs as ho hv h ih =>
    simp only [fixL, fixA]
    split
    · exact .ref _ _ _ _ _ _ _ _ _ _ (hl r e p o (by assumption) ho) hv ih
    · exact .undef _ _ _ _ _ ih

/-- THE END OF A REGION -/
theorem norm_sound (ks : Nat) (G : Good B hv w a E) : Good B hv w a (E.norm ks) := by
  obtain ⟨hid, Fs, Xs, R, hh⟩ := G
  have hl : ∀ r e p o, validL E ks r e p = true → lkOf w (vlOf a.tmps hid) E r e p = some o → lkOf w (vlOf a.tmps hid) (E.norm ks) r 0 p = some o := by
    intro r e p o hval ho
    unfold validL at hval
    simp only [Bool.and_eq_true, beq_iff_eq] at hval
    obtain ⟨⟨⟨hk, he⟩, hroot⟩, hg⟩ := hval
    unfold lkOf at ho ⊢
    rw [if_neg (by omega), if_pos ⟨he, hroot, hg⟩] at ho
    have hf : (E.norm ks).f r = fixA E ks (E.f r) := by simp [Env.norm, hk]
    have hc : curE ((E.norm ks).ep r) p = 0 := by simp [Env.norm, curE]
    rw [hc, if_neg (by omega), if_pos ⟨rfl, by rw [hf]; exact fix_root E ks _ hroot, by rw [hf]; exact fix_aget E ks p _ hg⟩]
    exact ho
  refine ⟨hid, fun t => if keepB ks t then Fs t else fun _ => 0, fun t => if keepB ks t then Xs t else fun _ => 0, ⟨R.size, R.dfr, ?_, ?_, ?_, ?_, R.grow, R.frame, ?_, ?_, ?_⟩, hh⟩
  · intro t
    by_cases hk : keepB ks t = true
    · have hf : (E.norm ks).f t = fixA E ks (E.f t) := by simp [Env.norm, hk]
      rw [hf]
      simp only [hk, if_true]
      exact fix_rep hl (R.rep t)
    · have hf : (E.norm ks).f t = .undef := by simp [Env.norm, hk]
      rw [hf]
      simp only [hk]
      exact .undef _ _ _ _ _ RepA.znil
  · intro t b
    by_cases hk : keepB ks t = true
    · simp only [hk, if_true]; exact R.one t b
    · simp [hk]
  · intro t t' b hne
    by_cases hk : keepB ks t = true
    · by_cases hk' : keepB ks t' = true
      · simp only [hk, hk', if_true]; exact R.dis t t' b hne
      · simp [hk']
    · simp [hk]
  · intro t t' b
    by_cases hk : keepB ks t = true
    · by_cases hk' : keepB ks t' = true
      · simp only [hk, hk', if_true]; exact R.disx t t' b
      · simp [hk']
    · simp [hk]
  · intro t b hb
    by_cases hk : keepB ks t = true
    · simp only [hk, if_true] at hb; exact R.org t b hb
    · simp [hk] at hb
  · intro t b hb
    by_cases hk : keepB ks t = true
    · simp only [hk, if_true] at hb; exact R.orgx t b hb
    · simp [hk] at hb
  · intro t b hb
    by_cases hk : keepB ks t = true
    · simp only [hk, if_true] at hb; exact R.ltx t b hb
    · simp [hk] at hb

theorem good_ub (hn : B.n ≤ 1000) {E : Env} (t : Nat) (G : Good B hv w a E) : Good B hv w a (ub1 E t) := by
  unfold ub1
  unfold ubM
  split
  case h_2 => exact G
  rename_i cs h1 h2
  obtain ⟨hid, Fs, Xs, R, hh⟩ := G
  obtain ⟨Fs', Xs', FP', XP', P1⟩ := (PR.nil R).move t
  simp only [List.nil_append] at P1
  rw [h1] at P1
  have hbox : ∃ b, vlOf a.tmps hid t = .pointer (some ⟨b, 0, none⟩) := by
    have := P1.rep
    generalize vlOf a.tmps hid t = v at this
    cases this with
    | box _ _ _ _ _ _ b _ _ _ _ _ _ _ _ _ _ _ _ => exact ⟨b, rfl⟩
  obtain ⟨b, hb⟩ := hbox
  rw [hb] at P1
  obtain ⟨Fs2, Xs2, R'⟩ := P1.hide (q := 5000 + t) (by omega)
  have hlk : lkOf w (vlOf a.tmps (fun k => if k = 5000 + t then .pointer (some ⟨b, 0, none⟩) else hid k)) ((E.put t .undef).put (5000 + t) (.box cs)) (5000 + t) (curE (((E.put t .undef).put (5000 + t) (.box cs)).ep (5000 + t)) []) [] = some (some (.pointer (some ⟨b, 0, none⟩))) := by
    unfold lkOf
    rw [if_neg (by omega), if_pos ⟨rfl, by rw [put_f_eq]; rfl, by rw [put_f_eq]; rfl⟩, vl_hid (by rw [R'.size]; omega)]
    simp [cres]
  have hr : RepA w (lkOf w (vlOf a.tmps (fun k => if k = 5000 + t then .pointer (some ⟨b, 0, none⟩) else hid k)) ((E.put t .undef).put (5000 + t) (.box cs))) (fun _ => 0) (fun _ => 0) [.pointer (some ⟨b, 0, none⟩)]
      [.ref (5000 + t) (curE (((E.put t .undef).put (5000 + t) (.box cs)).ep (5000 + t)) []) [] ⟨0, 0, 0⟩] :=
    .ref _ _ _ _ _ _ _ _ _ _ hlk (fun u hu => by cases hu; exact ⟨⟨b, 0, none⟩, rfl, by rw [Nat.zero_mul, Nat.zero_add, add_zero]⟩) RepA.znil
  obtain ⟨XP2, P2⟩ := PR.ofRel R' hr (fun _ => rfl) (fun b hb => absurd rfl hb)
  obtain ⟨Fs3, Xs3, FP3, XP3, P3⟩ := P2.back t (by rw [vl_set (by omega), hb])
  exact ⟨_, Fs3, Xs3, P3.rel, fun k hk => by rw [if_neg (by omega)]; exact hh k hk⟩
theorem good_rg (hn : B.n ≤ 1000) (ks : Nat) (U : List Nat) {E : Env} (G : Good B hv w a E) : Good B hv w a (rgE ks U E) := by
  have key : ∀ (U : List Nat) {E : Env}, Good B hv w a E → Good B hv w a (ubE E U) := by
    intro U
    induction U with
    | nil => intro E G; exact G
    | cons t U ih => intro E G; exact ih (good_ub hn t G)
  cases U with
  | nil => exact G
  | cons t U => exact norm_sound ks (key (t :: U) G)
theorem good_drop (D : List Nat) : ∀ {E : Env}, Good B hv w a E → Good B hv w a (dropL E D) := by
  induction D with
  | nil => intro E G; exact G
  | cons d D ih =>
    intro E G
    obtain ⟨hid, Fs, Xs, R, hh⟩ := G
    obtain ⟨Fs', Xs', FP', XP', P⟩ := (PR.nil R).move d
    exact ih ⟨hid, Fs', Xs', P.rel, hh⟩
theorem head_sound (ks : Nat) (D : List Nat) (G : Good B hv w a E) : Good B hv w a (hdL ks D (E.norm ks)) := by
  cases D with
  | nil => exact norm_sound ks G
  | cons d D => exact norm_sound ks (good_drop (d :: D) (norm_sound ks G))

theorem good_undef (G : Good B hv w a E) {d : Option Nat} (hd : ∀ q, d = some q → q < B.n) : Good B hv w (a.put d undef) (putO E d .undef) := by
  cases d with
  | none => exact G
  | some d => exact good_copy G (hd d rfl) fun _ _ _ _ => ⟨fun _ => 0, fun _ => 0, .undef _ _ _ _ _ RepA.znil, fun _ => rfl, fun _ h => absurd rfl h⟩

theorem good_skip (G : Good B hv w a E) {d : Option Nat} (hd : ∀ q, d = some q → q < B.n) : Good B hv w (a.put d undef) (putO E d (.tup [])) := by
  cases d with
  | none => exact G
  | some d => exact good_copy G (hd d rfl) fun _ _ _ _ => ⟨fun _ => 0, fun _ => 0, .tup _ (fun _ => 0) (fun _ => 0) _ (fun _ => 0) (fun _ => 0) [] [] _ _ RepA.znil RepA.znil (fun _ => rfl) (fun _ => rfl), fun _ => rfl, fun _ h => absurd rfl h⟩

theorem cOp_dst {n : Nat} {i : I} (hc : cOp P n o = some i) : ∀ q, o.dst = some q → q < n := by
  unfold cOp at hc
  split at hc
  · cases hc
  rename_i hall
  intro q hq
  rw [hq] at hall
  simpa using hall

theorem tmp_bool (G : Good B hv w a E) {t : Nat} (ht : t < B.n) {c : Bool} (h : E.f t = .bool c) : a.tmps[t]? = some (.bool c) := by
  have hv1 := val_bool G (.tmp t ht) (b := c) h
  obtain ⟨hid, Fs, Xs, R, hh⟩ := G
  have hlt : t < a.tmps.size := by rw [R.size]; exact ht
  simp only [Act.eval, Array.getD_eq_getD_getElem?] at hv1
  rw [Array.getElem?_eq_getElem hlt] at hv1 ⊢
  simpa using hv1

theorem tmp_tup (G : Good B hv w a E) {t : Nat} (ht : t < B.n) (h : E.f t = .tup []) : a.tmps[t]? = some undef := by
  obtain ⟨hid, Fs, Xs, R, hh⟩ := G
  have hlt : t < a.tmps.size := by rw [R.size]; exact ht
  have hr := R.rep t
  rw [h] at hr
  have e : vlOf a.tmps hid t = a.tmps[t] := by unfold vlOf; rw [if_pos hlt]; simp [Array.getD_eq_getD_getElem?, hlt]
  rw [e] at hr
  rw [Array.getElem?_eq_getElem hlt]
  generalize a.tmps[t] = v at hr
  cases hr with
  | tup _ _ _ _ _ _ us cs _ _ h1 _ _ _ =>
    cases h1
    rfl

/-- A REGION in its own order -/
theorem ops_sound (hn : B.n ≤ 1000) {ops : Array Oper} {K : Env → Prop} (hQ : ∀ E' a' w', K E' → Good B hv w' a' E' → Q .normal a' w') :
    ∀ (m k : Nat) (is : List GI) (E : Env) (a : Act) (w : World), k + m = ops.size → cOps P B.n ops (ops.toList.drop k) = some is → regA P is K E → Good B hv w a E → wpOps P ops Q (List.range' k m) a w := by
  intro m
  induction m with
  | zero =>
    intro k is E a w hk hc h G
    rw [List.drop_of_length_le (by simp; omega)] at hc
    simp only [cOps, Option.some.injEq] at hc
    subst hc
    exact hQ E a w h G
  | succ m ih =>
    intro k is E a w hk hc h G
    have hlt : k < ops.size := by omega
    have hget : ops[k]? = some ops[k] := Array.getElem?_eq_getElem hlt
    have hd : ops.toList.drop k = ops[k] :: ops.toList.drop (k + 1) := by
      rw [List.drop_eq_getElem_cons (by simpa using hlt)]; simp
    rw [hd] at hc
    simp only [cOps] at hc
    obtain ⟨i, hi, hc⟩ := bind_some hc
    obtain ⟨rest, hr, hc⟩ := bind_some hc
    have go : stepA P i (regA P rest K) E → ops[k].wp P a w (wpOps P ops Q (List.range' (k + 1) m)) Q := fun hs =>
      Oper.wp_mono (fun a' w' hg => by obtain ⟨E', k1, k2⟩ := hg; exact ih (k + 1) rest E' a' w' (by omega) hr k1 k2) (step_sound hi hn G hs)
    rw [List.range'_succ]
    simp only [wpOps, hget]
    split at hc
    · rename_i hg
      cases hc
      have hw : Region.wanted ops[k] (yielded ops a.tmps) = true := by unfold Region.wanted; rw [hg]
      rw [if_pos hw]
      exact .inl (go h)
    · rename_i j b hg
      obtain ⟨t, ht, hc⟩ := bind_some hc
      obtain ⟨htn, hc⟩ := ite_some hc
      cases hc
      rcases h with ⟨c, hcc, h1, h2⟩ | ⟨hcc, h2⟩
      · have hy : yielded ops a.tmps j = some c := by
          unfold yielded
          rw [ht, Option.bind_some, tmp_bool G htn hcc]
        have hw : Region.wanted ops[k] (yielded ops a.tmps) = (some c == some b) := by unfold Region.wanted; rw [hg]; simp [hy]
        by_cases e : c = b
        · rw [if_pos (by rw [hw, e]; simp)]
          exact .inl (go (h1 e))
        · rw [if_neg (by rw [hw]; simp [e])]
          exact ih (k + 1) rest _ _ w (by omega) hr (h2 e) (good_skip G (cOp_dst hi))
      · have hy : yielded ops a.tmps j = none := by
          unfold yielded
          rw [ht, Option.bind_some, tmp_tup G htn hcc]
          rfl
        have hw : Region.wanted ops[k] (yielded ops a.tmps) = false := by unfold Region.wanted; rw [hg]; simp [hy]
        rw [if_neg (by rw [hw]; simp)]
        exact ih (k + 1) rest _ _ w (by omega) hr h2 (good_skip G (cOp_dst hi))

end Go.Proofs.YtjmnolhflcjpgaaGreat.Awp

namespace Go.Proofs.YtjmnolhflcjpgaaGreat.Awp
set_option linter.unusedVariables false
set_option linter.unusedSimpArgs false
variable {P : Program} {w w' : World} {B : Base} {hid hv : Nat → Value} {a : Act} {E : Env} {Q : Exit → Act → World → Prop}

/-- an operation of a drawn region with its calls' modes and its record -/
abbrev Item := GI × List M × Rcd

theorem exists_least {p : Nat → Prop} (h : ∃ n, p n) : ∃ n, p n ∧ ∀ m, m < n → ¬ p m := by
  classical
  obtain ⟨n, hn⟩ := h
  induction n using Nat.strongRecOn with
  | _ n ih =>
    by_cases h : ∃ m, m < n ∧ p m
    · obtain ⟨m, h1, h2⟩ := h; exact ih m h1 h2
    · exact ⟨n, hn, fun m hm hp => h ⟨m, hm, hp⟩⟩


def StepC (P : Program) (o : Item) (E E' : Env) : Prop :=
  (match o.1.g with
    | none => stepE P o.1.i o.2.1 E E' ∧ ∀ t ∈ touchI E o.1.i, t ∈ o.2.2.1
    | some (t, b) => t ∈ o.2.2.1 ∧ ((∃ c, E.f t = .bool c ∧ (c = b → stepE P o.1.i o.2.1 E E' ∧ ∀ t ∈ touchI E o.1.i, t ∈ o.2.2.1) ∧
        (c ≠ b → E' = putO E o.1.d (.tup []) ∧ ∀ q ∈ o.1.d.toList, q ∈ o.2.2.1)) ∨ (E.f t = .tup [] ∧ E' = putO E o.1.d (.tup []) ∧ ∀ q ∈ o.1.d.toList, q ∈ o.2.2.1))) ∧
  ∀ t, t ∉ o.2.2.2 → SameAt E E' t

theorem same_mg {S : Nat → Bool} {A E E' : Env} {t : Nat} (h : SameAt E E' t) : SameAt (mg S A E) (mg S A E') t := by
  unfold SameAt mg at *
  simp only
  by_cases hs : S t = true
  · simp [hs]
  · simp [hs, h.1, h.2]

theorem stepC_mg {S : Nat → Bool} {A E E' : Env} {o : Item} (ht : ∀ t ∈ o.2.2.1, S t = false) (h : StepC P o E E') : StepC P o (mg S A E) (mg S A E') := by
  obtain ⟨h1, h2⟩ := h
  refine ⟨?_, fun t hn => same_mg (h2 t hn)⟩
  have go : (stepE P o.1.i o.2.1 E E' ∧ ∀ t ∈ touchI E o.1.i, t ∈ o.2.2.1) → stepE P o.1.i o.2.1 (mg S A E) (mg S A E') ∧ ∀ t ∈ touchI (mg S A E) o.1.i, t ∈ o.2.2.1 := by
    rintro ⟨k1, k2⟩
    have k3 : ∀ t ∈ touchI E o.1.i, S t = false := fun t hm => ht t (k2 t hm)
    exact ⟨stepE_mg _ k3 k1, by rw [touch_mg _ k3]; exact k2⟩
  cases hg : o.1.g with
  | none => rw [hg] at h1; exact go h1
  | some q =>
    obtain ⟨t, b⟩ := q
    rw [hg] at h1
    obtain ⟨k0, ⟨c, k1, k2, k3⟩ | ⟨k1, k4, k5⟩⟩ := h1
    · refine ⟨k0, .inl ⟨c, by rw [mg_f (ht t k0)]; exact k1, fun e => go (k2 e), fun e => ?_⟩⟩
      obtain ⟨k4, k5⟩ := k3 e
      exact ⟨by rw [k4, putO_mg fun q hq => ht q (k5 q hq)], k5⟩
    · exact ⟨k0, .inr ⟨by rw [mg_f (ht t k0)]; exact k1, by rw [k4, putO_mg fun q hq => ht q (k5 q hq)], k5⟩⟩

def RunD (P : Program) : List Item → Env → Env → Prop
  | [], E, E' => E' = E
  | o :: l, E, E' => ∃ E1, StepC P o E E1 ∧ RunD P l E1 E'

/-- two operations have nothing to do with each other -/
def Indep (o q : Item) : Prop := (∀ t ∈ o.2.2.2, t ∉ q.2.2.1 ∧ t ∉ q.2.2.2) ∧ ∀ t ∈ q.2.2.2, t ∉ o.2.2.1

def inL (l : List Nat) (t : Nat) : Bool := l.contains t
theorem inL_t {l : List Nat} {t : Nat} (h : t ∈ l) : inL l t = true := by unfold inL; simpa using h
theorem inL_f {l : List Nat} {t : Nat} (h : t ∉ l) : inL l t = false := by unfold inL; simpa using h

theorem mg_eq {S : Nat → Bool} {A E E' : Env} (h1 : ∀ t, S t = true → SameAt A E' t) (h2 : ∀ t, S t = false → SameAt E E' t) : mg S A E = E' := by
  apply Env.ext'
  · intro t
    show (if S t then A.f t else E.f t) = E'.f t
    cases h : S t with
    | true => exact (h1 t h).1.symm
    | false => exact (h2 t h).1.symm
  · intro t
    show (if S t then A.ep t else E.ep t) = E'.ep t
    cases h : S t with
    | true => exact (h1 t h).2.symm
    | false => exact (h2 t h).2.symm

theorem run_swap {o q : Item} (hi : Indep o q) {l : List Item} {E E' : Env} (h : RunD P (o :: q :: l) E E') : RunD P (q :: o :: l) E E' := by
  obtain ⟨E1, h1, E2, h2, h3⟩ := h
  have e1 : mg (inL o.2.2.2) E E1 = E := mg_eq (fun _ _ => SameAt.rfl') fun t ht => by
    have := h1.2 t (fun hm => by rw [inL_t hm] at ht; cases ht)
    exact ⟨this.1.symm, this.2.symm⟩
  have k1 := stepC_mg (S := inL o.2.2.2) (A := E) (fun t ht => inL_f fun hm => (hi.1 t hm).1 ht) h2
  rw [e1] at k1
  generalize hF : mg (inL o.2.2.2) E E2 = F1 at k1
  have e2 : mg (inL q.2.2.2) F1 E = F1 := mg_eq (fun _ _ => SameAt.rfl') fun t ht => k1.2 t (fun hm => by rw [inL_t hm] at ht; cases ht)
  have k2 := stepC_mg (S := inL q.2.2.2) (A := F1) (fun t ht => inL_f fun hm => hi.2 t hm ht) h1
  rw [e2] at k2
  have e3 : mg (inL q.2.2.2) F1 E1 = E2 := mg_eq (fun t ht => by
    have hq : t ∈ q.2.2.2 := by
      cases Classical.em (t ∈ q.2.2.2) with
      | inl h => exact h
      | inr h => rw [inL_f h] at ht; cases ht
    have ho : t ∉ o.2.2.2 := fun hm => (hi.1 t hm).2 hq
    rw [← hF]
    unfold SameAt mg
    simp [inL_f ho]) fun t ht => h2.2 t (fun hm => by rw [inL_t hm] at ht; cases ht)
  rw [e3] at k2
  exact ⟨F1, k1, E2, k2, h3⟩

theorem xx_swap {o q : Item} (hx : xxG o.1 q.1 = true) {E E1 E2 : Env} (h1 : StepC P o E E1) (h2 : StepC P q E1 E2) : ∃ F1, StepC P q E F1 ∧ StepC P o F1 E2 := by
  obtain ⟨⟨g1, dd1, i1⟩, m1, r1⟩ := o
  obtain ⟨⟨g2, dd2, i2⟩, m2, r2⟩ := q
  simp only [xxG, Bool.and_eq_true, Option.isNone_iff_eq_none] at hx
  obtain ⟨rfl, rfl, hx⟩ := hx
  unfold xxI at hx
  split at hx
  case h_2 => cases hx
  rename_i d1 n k1 d2 m k2
  simp only [Bool.and_eq_true, beq_iff_eq, bne_iff_ne] at hx
  obtain ⟨rfl, hk, hd, hn1, hn2⟩ := hx
  obtain ⟨⟨e1, t1⟩, s1⟩ := h1
  obtain ⟨⟨e2, t2⟩, s2⟩ := h2
  simp only [stepE, ev] at e1 e2
  cases hv : E.f n with
  | tup vs =>
    rw [hv] at e1
    simp only at e1
    obtain ⟨c1, hc1, rfl⟩ := map_some e1
    -- what is left of the tuple
    have hE1 : (if c1.owns = true then (E.put n (.tup (vs.set k1 .undef))).put d1 c1 else E.put d1 c1).f n = .tup (if c1.owns = true then vs.set k1 .undef else vs) := by
      split
      · rw [put_f_ne hn1.symm, put_f_eq]
      · rw [put_f_ne hn1.symm, hv]
    rw [hE1] at e2
    simp only at e2
    obtain ⟨c2, hc2, rfl⟩ := map_some e2
    have hc2' : vs[k2]? = some c2 := by
      split at hc2
      · rwa [List.getElem?_set_ne hk] at hc2
      · exact hc2
    have hroot : (E.f n).isRoot = false := by rw [hv]; rfl
    let F1 : Env := if c2.owns = true then (E.put n (.tup (vs.set k2 .undef))).put d2 c2 else E.put d2 c2
    have hF1 : F1.f n = .tup (if c2.owns = true then vs.set k2 .undef else vs) := by
      show (if c2.owns = true then _ else _ : Env).f n = _
      split
      · rw [put_f_ne hn2.symm, put_f_eq]
      · rw [put_f_ne hn2.symm, hv]
    have hcomm : (vs.set k1 AV.undef).set k2 AV.undef = (vs.set k2 AV.undef).set k1 AV.undef := List.set_comm _ _ hk
    have pne : ∀ (E : Env) (d : Nat) (x : AV) (t : Nat), t ≠ d → (E.put d x).ep t = E.ep t := fun E d x t h => put_ep_ne h
    have peq : ∀ (E : Env) (d : Nat) (x : AV), (E.put d x).ep d = if (E.f d).isRoot = true then ((E.ep d).1 + 1, (E.ep d).2 + 1) else E.ep d := by
      intro E d x
      simp [Env.put]
    have back : (if c1.owns = true then (F1.put n (.tup ((if c2.owns = true then vs.set k2 AV.undef else vs).set k1 .undef))).put d1 c1 else F1.put d1 c1) =
        (if c2.owns = true then ((if c1.owns = true then (E.put n (.tup (vs.set k1 .undef))).put d1 c1 else E.put d1 c1).put n (.tup ((if c1.owns = true then vs.set k1 AV.undef else vs).set k2 .undef))).put d2 c2
          else (if c1.owns = true then (E.put n (.tup (vs.set k1 .undef))).put d1 c1 else E.put d1 c1).put d2 c2) := by
      have hnr1 : ∀ x, (AV.tup x).isRoot = false := fun _ => rfl
      apply Env.ext'
      · intro t
        show _ = _
        by_cases a1 : t = n
        · subst a1
          cases h1 : c1.owns <;> cases h2 : c2.owns <;> simp [F1, h1, h2, put_f, hn1.symm, hn2.symm, hcomm]
        · by_cases a2 : t = d1
          · subst a2
            cases h1 : c1.owns <;> cases h2 : c2.owns <;> simp [F1, h1, h2, put_f, a1, hd]
          · by_cases a3 : t = d2
            · subst a3
              cases h1 : c1.owns <;> cases h2 : c2.owns <;> simp [F1, h1, h2, put_f, a1, a2]
            · cases h1 : c1.owns <;> cases h2 : c2.owns <;> simp [F1, h1, h2, put_f, a1, a2, a3]
      · intro t
        by_cases a1 : t = n
        · subst a1
          cases h1 : c1.owns <;> cases h2 : c2.owns <;> simp [F1, h1, h2, pne, peq, put_f, hn1.symm, hn2.symm, hroot, hnr1]
        · by_cases a2 : t = d1
          · subst a2
            cases h1 : c1.owns <;> cases h2 : c2.owns <;> simp [F1, h1, h2, pne, peq, put_f, a1, hd]
          · by_cases a3 : t = d2
            · subst a3
              cases h1 : c1.owns <;> cases h2 : c2.owns <;> simp [F1, h1, h2, pne, peq, put_f, a1, a2]
            · cases h1 : c1.owns <;> cases h2 : c2.owns <;> simp [F1, h1, h2, pne, a1, a2, a3]
    have noundef : c1.owns = true → vs.set k1 .undef ≠ vs := by
      intro h e
      have := congrArg (·[k1]?) e
      try simp only at this
      rw [hc1] at this
      have hlt : k1 < vs.length := by
        cases hq : decide (k1 < vs.length) with
        | true => exact of_decide_eq_true hq
        | false => rw [List.getElem?_eq_none (by have := of_decide_eq_false hq; omega)] at hc1; cases hc1
      rw [List.getElem?_set_self hlt] at this
      cases this; cases h
    have noundef2 : c2.owns = true → vs.set k2 .undef ≠ vs := by
      intro h e
      have := congrArg (·[k2]?) e
      try simp only at this
      rw [hc2'] at this
      have hlt : k2 < vs.length := by
        cases hq : decide (k2 < vs.length) with
        | true => exact of_decide_eq_true hq
        | false => rw [List.getElem?_eq_none (by have := of_decide_eq_false hq; omega)] at hc2'; cases hc2'
      rw [List.getElem?_set_self hlt] at this
      cases this; cases h
    refine ⟨F1, ⟨⟨?_, ?_⟩, ?_⟩, ⟨⟨?_, ?_⟩, ?_⟩⟩
    · simp only [stepE, ev]
      rw [hv]
      simp only
      rw [hc2']
      rfl
    · exact t2
    · intro t ht
      have hs := s2 t ht
      by_cases a3 : t = d2
      · subst a3
        have hf := hs.1
        have hep := hs.2
        refine ⟨?_, ?_⟩
        · cases h1 : c1.owns <;> cases h2 : c2.owns <;> simp [F1, h1, h2, put_f, hd.symm, hn2] at hf ⊢ <;> exact hf
        · cases h1 : c1.owns <;> cases h2 : c2.owns <;> simp [F1, h1, h2, pne, peq, put_f, hd.symm, hn2] at hep ⊢ <;> exact hep
      · by_cases a1 : t = n
        · subst a1
          cases h2 : c2.owns with
          | false =>
            refine ⟨?_, ?_⟩
            · simp [F1, h2, put_f, hn2.symm]
            · simp [F1, h2, pne, hn2.symm]
          | true =>
            exfalso
            have hf := hs.1
            rw [hE1] at hf
            simp only [h2, if_true] at hf
            rw [put_f_ne hn2.symm, put_f_eq] at hf
            injection hf with hf
            cases h1 : c1.owns with
            | false => rw [h1] at hf; simp only [Bool.false_eq_true, if_false] at hf; exact noundef2 h2 hf
            | true =>
              rw [h1] at hf
              simp only [if_true] at hf
              have := congrArg (·[k2]?) hf
              try simp only at this
              rw [List.getElem?_set_ne hk, hc2'] at this
              have hlt : k2 < (vs.set k1 AV.undef).length := by
                rw [List.length_set]
                cases hq : decide (k2 < vs.length) with
                | true => exact of_decide_eq_true hq
                | false => rw [List.getElem?_eq_none (by have := of_decide_eq_false hq; omega)] at hc2'; cases hc2'
              rw [List.getElem?_set_self hlt] at this
              cases this; cases h2
        · refine ⟨?_, ?_⟩
          · cases h2 : c2.owns <;> simp [F1, h2, put_f, a1, a3]
          · cases h2 : c2.owns <;> simp [F1, h2, pne, a1, a3]
    · simp only [stepE, ev]
      rw [hF1]
      simp only
      have : (if c2.owns = true then vs.set k2 AV.undef else vs)[k1]? = some c1 := by
        split
        · rw [List.getElem?_set_ne (Ne.symm hk)]; exact hc1
        · exact hc1
      rw [this, Option.map_some, back]
    · exact t1
    · intro t ht
      rw [← back]
      have hs := s1 t ht
      by_cases a3 : t = d1
      · subst a3
        have hf := hs.1
        have hep := hs.2
        refine ⟨?_, ?_⟩
        · cases h1 : c1.owns <;> cases h2 : c2.owns <;> simp [F1, h1, h2, put_f, hd, hn1] at hf ⊢ <;> exact hf
        · cases h1 : c1.owns <;> cases h2 : c2.owns <;> simp [F1, h1, h2, pne, peq, put_f, hd, hn1] at hep ⊢ <;> exact hep
      · by_cases a1 : t = n
        · subst a1
          cases h1 : c1.owns with
          | false =>
            refine ⟨?_, ?_⟩
            · simp [put_f, hn1.symm]
            · simp [pne, hn1.symm]
          | true =>
            exfalso
            have hf := hs.1
            simp only [h1, if_true] at hf
            rw [put_f_ne hn1.symm, put_f_eq, hv] at hf
            injection hf with hf
            exact noundef h1 hf
        · refine ⟨?_, ?_⟩
          · cases h1 : c1.owns <;> simp [put_f, a1, a3]
          · cases h1 : c1.owns <;> simp [pne, a1, a3]
  | _ => rw [hv] at e1; cases e1

/-- an operation that is independent of all before it may come first -/
theorem run_front {q : Item} : ∀ (pre : List Item) {post : List Item} {E E' : Env}, (∀ o ∈ pre, Indep o q ∨ xxG o.1 q.1 = true) → RunD P (pre ++ q :: post) E E' → RunD P (q :: (pre ++ post)) E E' := by
  intro pre
  induction pre with
  | nil => intro post E E' _ h; exact h
  | cons o pre ih =>
    intro post E E' hi h
    obtain ⟨k, h1, h2⟩ := h
    have := ih (fun o ho => hi o (by simp [ho])) h2
    rcases hi o (by simp) with hi' | hx
    · exact run_swap hi' ⟨k, h1, this⟩
    · obtain ⟨k2, g1, g2⟩ := this
      obtain ⟨F1, f1, f2⟩ := xx_swap hx h1 g1
      exact ⟨F1, f1, _, f2, g2⟩

theorem drawA_run {bs : List Nat} {K : Env → Prop} : ∀ (l : List GI) (acc : List Rcd) (E : Env), drawA P bs acc l K E →
    ∃ its E', its.map (·.1) = l ∧ RunD P its E E' ∧ okRec bs (acc ++ its.map (·.2.2)) = true ∧ K E' := by
  intro l
  induction l with
  | nil => intro acc E h; exact ⟨[], E, rfl, rfl, by simpa using h.1, h.2⟩
  | cons g l ih =>
    intro acc E h
    have go : ∀ {ts : List Nat}, stepD P g.i (fun ms E' => drawA P bs (acc ++ [(ts ++ touchI E g.i, wrI E ms g.i)]) l K E') E →
        ∃ ms E1, stepE P g.i ms E E1 ∧ ∃ its E', its.map (·.1) = l ∧ RunD P its E1 E' ∧ okRec bs (acc ++ (ts ++ touchI E g.i, wrI E ms g.i) :: its.map (·.2.2)) = true ∧ K E' := by
      intro ts hs
      obtain ⟨ms, E1, h1, h2⟩ := stepD_E _ hs
      obtain ⟨its, E', k1, k2, k3, k4⟩ := ih _ E1 h2
      exact ⟨ms, E1, h1, its, E', k1, k2, by simpa using k3, k4⟩
    cases hg : g.g with
    | none =>
      simp only [drawA, hg] at h
      obtain ⟨ms, E1, h1, its, E', k1, k2, k3, k4⟩ := go (ts := []) h
      refine ⟨(g, ms, (touchI E g.i, wrI E ms g.i)) :: its, E', by simp [k1], ⟨E1, ⟨?_, fun t ht => stepE_same _ h1 ht⟩, k2⟩, by simpa using k3, k4⟩
      simp only [hg]
      exact ⟨h1, fun t ht => ht⟩
    | some q =>
      obtain ⟨t, b⟩ := q
      simp only [drawA, hg] at h
      have skip : (drawA P bs (acc ++ [(t :: g.d.toList, g.d.toList)]) l K (putO E g.d (.tup []))) → ((∃ c, E.f t = .bool c ∧ c ≠ b) ∨ E.f t = .tup []) →
          ∃ its E', its.map (·.1) = g :: l ∧ RunD P its E E' ∧ okRec bs (acc ++ its.map (·.2.2)) = true ∧ K E' := by
        intro h2 hc
        obtain ⟨its, E', k1, k2, k3, k4⟩ := ih _ _ h2
        refine ⟨(g, [], (t :: g.d.toList, g.d.toList)) :: its, E', by simp [k1], ⟨putO E g.d (.tup []), ⟨?_, fun q hq => ?_⟩, k2⟩, by simpa using k3, k4⟩
        · simp only [hg]
          rcases hc with ⟨c, hc, e⟩ | hc
          · exact ⟨by simp, .inl ⟨c, hc, fun n => absurd n e, fun _ => ⟨by trivial, fun q hq => by simp [hq]⟩⟩⟩
          · exact ⟨by simp, .inr ⟨hc, by trivial, fun q hq => by simp [hq]⟩⟩
        · cases hd : g.d with
          | none => exact SameAt.rfl'
          | some d => simp only [hd, Option.toList_some, List.mem_singleton] at hq; exact sput hq
      rcases h with ⟨c, hc, h1, h2⟩ | ⟨hc, h2⟩
      · by_cases e : c = b
        · obtain ⟨ms, E1, h3, its, E', k1, k2, k3, k4⟩ := go (ts := [t]) (h1 e)
          refine ⟨(g, ms, (t :: touchI E g.i, wrI E ms g.i)) :: its, E', by simp [k1], ⟨E1, ⟨?_, fun t ht => stepE_same _ h3 ht⟩, k2⟩, by simpa using k3, k4⟩
          simp only [hg]
          exact ⟨by simp, .inl ⟨c, hc, fun _ => ⟨h3, fun q hq => by simp [hq]⟩, fun n => absurd e n⟩⟩
        · exact skip (h2 e) (.inl ⟨c, hc, e⟩)
      · exact skip h2 (.inr hc)

theorem apartL_t {a b : List Nat} (h : apartL a b = true) : ∀ t ∈ a, t ∉ b := by
  intro t ht
  unfold apartL at h
  rw [List.all_eq_true] at h
  simpa using h t ht
theorem okRec_t {bs : List Nat} {rs : List Rcd} (h : okRec bs rs = true) {i j : Nat} (hij : i < j) (hj : j < rs.length) {o q : Rcd} (ho : rs[i]? = some o) (hq : rs[j]? = some q) :
    (bs.getD j 0).testBit i = true ∨ apartR o q = true := by
  unfold okRec at h
  rw [List.all_eq_true] at h
  have := h j (by simpa using hj)
  rw [List.all_eq_true] at this
  have := this i (by simpa using hij)
  simpa [ho, hq] using this

theorem befFold {acc : Array Nat} {j : Nat} : ∀ (l : List Edge) (s : Nat), (l.foldl (fun s e => if Region.binds .any e then s ||| 2 ^ e.on ||| acc.getD e.on 0 else s) s).testBit j = true →
    s.testBit j = true ∨ ∃ e ∈ l, Region.binds .any e = true ∧ (j = e.on ∨ (acc.getD e.on 0).testBit j = true) := by
  intro l
  induction l with
  | nil => intro s h; exact .inl h
  | cons e l ih =>
    intro s h
    simp only [List.foldl_cons] at h
    rcases ih _ h with h | ⟨e', h1, h2⟩
    · by_cases hb : Region.binds .any e = true
      · rw [if_pos hb] at h
        rw [Nat.testBit_or, Nat.testBit_or, Nat.testBit_two_pow] at h
        simp only [Bool.or_eq_true, decide_eq_true_eq] at h
        rcases h with (h | h) | h
        · exact .inl h
        · exact .inr ⟨e, by simp, hb, .inl h.symm⟩
        · exact .inr ⟨e, by simp, hb, .inr h⟩
      · rw [if_neg hb] at h; exact .inl h
    · exact .inr ⟨e', by simp [h1], h2⟩

def befStep (acc : Array Nat) (o : Oper) : Array Nat := acc.push (o.after.foldl (fun s e => if Region.binds .any e then s ||| 2 ^ e.on ||| acc.getD e.on 0 else s) 0)

theorem before_eq (ops : Array Oper) : Region.before ops = ops.toList.foldl befStep #[] := by
  unfold Region.before
  rw [← Array.foldl_toList]
  rfl

theorem bef_run : ∀ (l : List Oper) (acc : Array Nat), (∀ k, k < acc.size → (l.foldl befStep acc).getD k 0 = acc.getD k 0) ∧
    ∀ m o, l[m]? = some o → ∀ j, ((l.foldl befStep acc).getD (acc.size + m) 0).testBit j = true →
      ∃ e ∈ o.after.toList, Region.binds .any e = true ∧ (j = e.on ∨ ((l.foldl befStep acc).getD e.on 0).testBit j = true) := by
  intro l
  induction l with
  | nil => intro acc; exact ⟨fun _ _ => rfl, fun m o h => by simp at h⟩
  | cons q l ih =>
    intro acc
    obtain ⟨h1, h2⟩ := ih (befStep acc q)
    have hsz : (befStep acc q).size = acc.size + 1 := by simp [befStep]
    have hold : ∀ k, k < acc.size → (List.foldl befStep acc (q :: l)).getD k 0 = acc.getD k 0 := by
      intro k hk
      simp only [List.foldl_cons]
      rw [h1 k (by omega)]
      simp only [befStep, Array.getD_eq_getD_getElem?]
      rw [Array.getElem?_push_lt hk, Array.getElem?_eq_getElem hk]
    refine ⟨hold, ?_⟩
    intro m o hm j hj
    cases m with
    | zero =>
      simp only [List.getElem?_cons_zero, Option.some.injEq] at hm
      subst hm
      simp only [List.foldl_cons, Nat.add_zero] at hj
      rw [h1 acc.size (by omega)] at hj
      simp only [befStep, Array.getD_eq_getD_getElem?, Array.getElem?_push_size, Option.getD_some] at hj
      rw [← Array.foldl_toList] at hj
      have := befFold (acc := acc) q.after.toList 0 (by simpa [Array.getD_eq_getD_getElem?] using hj)
      rcases this with h | ⟨e, e1, e2, e3⟩
      · simp at h
      · refine ⟨e, e1, e2, ?_⟩
        rcases e3 with e3 | e3
        · exact .inl e3
        · right
          by_cases hlt : e.on < acc.size
          · rw [hold _ hlt]; exact e3
          · rw [Array.getD_eq_getD_getElem?, Array.getElem?_eq_none (by omega)] at e3
            simp at e3
    | succ m =>
      simp only [List.getElem?_cons_succ] at hm
      simp only [List.foldl_cons] at hj ⊢
      have := h2 m o hm j (by rw [hsz, show acc.size + 1 + m = acc.size + (m + 1) by omega]; exact hj)
      exact this

theorem befores_spec (ops : Array Oper) {i : Nat} {o : Oper} (hi : ops[i]? = some o) {j : Nat} (h : ((befores ops).getD i 0).testBit j = true) :
    ∃ e ∈ o.after.toList, Region.binds .any e = true ∧ (j = e.on ∨ ((befores ops).getD e.on 0).testBit j = true) := by
  have hq : ∀ k, (befores ops).getD k 0 = (Region.before ops).getD k 0 := by
    intro k; simp [befores, List.getD_eq_getElem?_getD, Array.getD_eq_getD_getElem?]
  rw [hq] at h
  rw [before_eq] at h
  obtain ⟨e, h1, h2, h3⟩ := (bef_run ops.toList #[]).2 i o (by simpa using hi) j (by simpa using h)
  refine ⟨e, h1, h2, ?_⟩
  rw [hq, before_eq]; exact h3

def remL (n : Nat) (L : Array Bool) : List Nat := (List.range n).filter fun i => !L.getD i true

theorem getD_set {L : Array Bool} {i j : Nat} (hi : i < L.size) : (L.setIfInBounds i true).getD j true = if j = i then true else L.getD j true := by
  simp only [Array.getD_eq_getD_getElem?]
  by_cases e : j = i
  · subst e; simp [hi]
  · rw [Array.getElem?_setIfInBounds_ne (Ne.symm e)]; simp [e]

theorem rem_take {n i : Nat} {L : Array Bool} (hi : i < n) (hs : L.size = n) (hu : L.getD i true = false) :
    ∃ pre post, remL n L = pre ++ i :: post ∧ remL n (L.setIfInBounds i true) = pre ++ post ∧ (∀ j ∈ pre, j < i ∧ L.getD j true = false) := by
  have e : List.range n = List.range i ++ i :: List.range' (i + 1) (n - (i + 1)) := by
    rw [List.range_eq_range', List.range_eq_range']
    have : n = i + (n - i) := by omega
    rw [this, ← List.range'_append]
    congr 1
    obtain ⟨m, hm⟩ : ∃ m, n - i = m + 1 := ⟨n - i - 1, by omega⟩
    rw [show i + (n - i) - (i + 1) = m by omega, hm, List.range'_succ]
    simp
  refine ⟨(List.range i).filter fun i => !L.getD i true, (List.range' (i + 1) (n - (i + 1))).filter fun i => !L.getD i true, ?_, ?_, ?_⟩
  · unfold remL; rw [e, List.filter_append, List.filter_cons]; simp [hu]
  · unfold remL
    rw [e, List.filter_append, List.filter_cons]
    rw [getD_set (by omega)]
    simp only [if_true, Bool.not_true, Bool.false_eq_true, if_false]
    congr 1
    · apply List.filter_congr
      intro j hj
      have : j < i := by simpa using hj
      rw [getD_set (by omega), if_neg (by omega)]
    · apply List.filter_congr
      intro j hj
      have : i + 1 ≤ j := (List.mem_range'_1.1 hj).1
      rw [getD_set (by omega), if_neg (by omega)]
  · intro j hj
    obtain ⟨h1, h2⟩ := List.mem_filter.1 hj
    exact ⟨by simpa using h1, by simpa using h2⟩

theorem cOps_get {n : Nat} {ops : Array Oper} : ∀ {l : List Oper} {is : List GI} {i : Nat} {o : Oper}, cOps P n ops l = some is → l[i]? = some o →
    ∃ g, is[i]? = some g ∧ cOp P n o = some g.i ∧ g.d = o.dst ∧ (match o.guard with
      | none => g.g = none
      | some (j, b) => ∃ t, ((ops[j]?).bind (·.dst)) = some t ∧ t < n ∧ g.g = some (t, b)) := by
  intro l
  induction l with
  | nil => intro is i o _ h; simp at h
  | cons q l ih =>
    intro is i o hc hi
    simp only [cOps] at hc
    obtain ⟨x, hx, hc⟩ := bind_some hc
    obtain ⟨rest, hr, hc⟩ := bind_some hc
    cases i with
    | zero =>
      simp only [List.getElem?_cons_zero, Option.some.injEq] at hi
      subst hi
      split at hc
      · rename_i hg; cases hc; exact ⟨_, rfl, hx, rfl, by rw [hg]⟩
      · rename_i j b hg
        obtain ⟨t, ht, hc⟩ := bind_some hc
        obtain ⟨htn, hc⟩ := ite_some hc
        cases hc
        exact ⟨_, rfl, hx, rfl, by rw [hg]; exact ⟨t, ht, htn, rfl⟩⟩
    | succ i =>
      simp only [List.getElem?_cons_succ] at hi
      obtain ⟨g, h1, h2⟩ := ih hr hi
      refine ⟨g, ?_, h2⟩
      split at hc
      · cases hc; simpa using h1
      · obtain ⟨t, ht, hc⟩ := bind_some hc
        obtain ⟨htn, hc⟩ := ite_some hc
        cases hc
        simpa using h1

theorem good_drew (G : Good B hv w a E) (hw : w'.heap = w.heap) (hk : Quiet w w' := by exact ⟨rfl, rfl⟩) : Good B hv w' a E := by
  obtain ⟨hid, Fs, Xs, R, hh⟩ := G
  have sm : ∀ F, Same w w' F := fun F b _ => by rw [hw]
  refine ⟨hid, Fs, Xs, ?_, hh⟩
  refine R.change (fun _ => False) R.size R.dfr (fun t _ => ⟨rfl, rfl, rfl, rfl, rfl, sm _, sm _⟩) (fun _ h => h.elim) (fun _ _ h => h.elim) (fun _ h => h.elim) (fun _ h => h.elim) (fun _ h => h.elim)
    (fun _ h => h.elim) ⟨by rw [hw]; exact Nat.le_refl _, hk⟩ (fun b _ _ => by rw [hw]) (fun _ h => h.elim) (fun _ h => h.elim)

theorem edges_spec {ops : Array Oper} (h : edgesOk ops = true) {i : Nat} {o : Oper} (hi : ops[i]? = some o) {e : Edge} (he : e ∈ o.after.toList) (hb : Region.binds .any e = true) : e.on < i := by
  unfold edgesOk at h
  rw [List.all_eq_true] at h
  have := h (o, i) (by rw [List.mem_zipIdx_iff_getElem?]; simpa using hi)
  rw [List.all_eq_true] at this
  have := this e he
  simpa [hb] using this

/-- EVERY ORDER of a drawn region -/
theorem drawn_run (hn : B.n ≤ 1000) {ops : Array Oper} {is : List GI} {os : Nat → Item} (hc : cOps P B.n ops ops.toList = some is) (hos : ∀ i g, is[i]? = some g → (os i).1 = g)
    (hind : ∀ i j, i < j → j < ops.size → ((befores ops).getD j 0).testBit i = true ∨ (Indep (os i) (os j) ∨ xxG (os i).1 (os j).1 = true)) (hedge : edgesOk ops = true) {E' : Env}
    (hQ : ∀ a' w', Good B hv w' a' E' → Q .normal a' w') :
    ∀ (fuel : Nat) (L : Array Bool) (E : Env) (a : Act) (w : World), L.size = ops.size → (remL ops.size L).length ≤ fuel →
      (∀ i, i < ops.size → L.getD i true = true → ∀ j, ((befores ops).getD i 0).testBit j = true → L.getD j true = true) →
      RunD P ((remL ops.size L).map os) E E' → Good B hv w a E → wpAny P .any ops Q fuel L a w := by
  have none_left : ∀ (L : Array Bool), Region.ready .any ops L = [] → L.size = ops.size → remL ops.size L = [] := by
    intro L hr hs
    cases hrem : remL ops.size L with
    | nil => rfl
    | cons x xs =>
      exfalso
      have hx : x ∈ remL ops.size L := by rw [hrem]; simp
      have hex : ∃ i, i < ops.size ∧ L.getD i true = false := by
        obtain ⟨h1, h2⟩ := List.mem_filter.1 hx
        exact ⟨x, by simpa using h1, by simpa using h2⟩
      obtain ⟨i, ⟨h1, h2⟩, hmin⟩ := exists_least hex
      have : i ∈ Region.ready .any ops L := by
        unfold Region.ready
        rw [List.mem_filter]
        refine ⟨by simpa using h1, ?_⟩
        rw [h2, Array.getElem?_eq_getElem h1]
        simp only [Bool.not_false, Bool.true_and, Option.map_some, Option.getD_some]
        rw [← Array.all_toList, List.all_eq_true]
        intro e he
        by_cases hb : Region.binds .any e = true
        · have hlt := edges_spec hedge (Array.getElem?_eq_getElem h1) he hb
          have : L.getD e.on true = true := by
            cases hc : L.getD e.on true with
            | true => rfl
            | false => exact absurd ⟨by omega, hc⟩ (hmin e.on hlt)
          rw [Array.getD_eq_getD_getElem?, Array.getElem?_eq_getElem (by omega)] at this ⊢
          simp only [Option.getD_some] at this ⊢
          simp [this]
        · simp [hb]
      rw [hr] at this
      simp at this
  intro fuel
  induction fuel with
  | zero =>
    intro L E a w hs hl hcl hrun G
    have hrem : remL ops.size L = [] := List.eq_nil_of_length_eq_zero (by omega)
    rw [hrem] at hrun
    have hE : E' = E := hrun
    subst hE
    refine ⟨?_, hQ a w G⟩
    cases hr : Region.ready .any ops L with
    | nil => rfl
    | cons i l =>
      exfalso
      have hi : i ∈ Region.ready .any ops L := by rw [hr]; simp
      unfold Region.ready at hi
      rw [List.mem_filter] at hi
      obtain ⟨h1, h2⟩ := hi
      have : i ∈ remL ops.size L := by
        unfold remL; rw [List.mem_filter]
        refine ⟨h1, ?_⟩
        simp only [Bool.and_eq_true] at h2
        exact h2.1
      rw [hrem] at this
      simp at this
  | succ fuel ih =>
    intro L E a w hs hl hcl hrun G
    refine ⟨?_, ?_⟩
    · intro hr
      have hrem := none_left L hr hs
      rw [hrem] at hrun
      have hE : E' = E := hrun
      subst hE
      exact hQ a w G
    · intro i hi
      unfold Region.ready at hi
      rw [List.mem_filter] at hi
      obtain ⟨h1, h2⟩ := hi
      have hlt : i < ops.size := by simpa using h1
      have hget : ops[i]? = some ops[i] := Array.getElem?_eq_getElem hlt
      simp only [Bool.and_eq_true, hget, Option.map_some, Option.getD_some, Bool.not_eq_true'] at h2
      obtain ⟨hu, hall⟩ := h2
      rw [← Array.all_toList, List.all_eq_true] at hall
      have hin : ∀ e ∈ (ops[i]).after.toList, Region.binds .any e = true → L.getD e.on true = true := by
        intro e he hb
        have h3 := hall e he
        simp only [hb, Bool.not_true, Bool.false_or] at h3
        have hl1 := edges_spec hedge hget he hb
        rw [Array.getD_eq_getD_getElem?, Array.getElem?_eq_getElem (by omega)] at h3 ⊢
        exact h3
      have hbef : ∀ j, ((befores ops).getD i 0).testBit j = true → L.getD j true = true := by
        intro j hj
        obtain ⟨e, e1, e2, e3⟩ := befores_spec ops hget hj
        rcases e3 with rfl | e3
        · exact hin e e1 e2
        · exact hcl e.on (by have := edges_spec hedge hget e1 e2; omega) (hin e e1 e2) j e3
      obtain ⟨pre, post, r1, r2, r3⟩ := rem_take hlt hs hu
      have hrun' : RunD P (os i :: ((pre.map os) ++ (post.map os))) E E' := by
        refine run_front (pre.map os) ?_ (by rw [r1] at hrun; simpa using hrun)
        intro o ho
        obtain ⟨j, hj, rfl⟩ := List.mem_map.1 ho
        obtain ⟨q1, q2⟩ := r3 j hj
        rcases hind j i q1 hlt with h | h
        · have := hbef j h
          rw [this] at q2; cases q2
        · exact h
      obtain ⟨E1, ⟨hk, _⟩, hrest⟩ := hrun'
      have hrest' : RunD P ((remL ops.size (L.setIfInBounds i true)).map os) E1 E' := by rw [r2, List.map_append]; exact hrest
      have hsz : (L.setIfInBounds i true).size = ops.size := by simpa using hs
      have hlen : (remL ops.size (L.setIfInBounds i true)).length ≤ fuel := by rw [r2]; rw [r1] at hl; simp at hl ⊢; omega
      have hcl' : ∀ i', i' < ops.size → (L.setIfInBounds i true).getD i' true = true → ∀ j, ((befores ops).getD i' 0).testBit j = true → (L.setIfInBounds i true).getD j true = true := by
        intro i' hi' hl' j hj
        rw [getD_set (by omega)] at hl' ⊢
        split
        · rfl
        · by_cases e : i' = i
          · subst e; exact hbef j hj
          · rw [if_neg e] at hl'; exact hcl i' hi' hl' j hj
      obtain ⟨g, g1, g2, g3, g4⟩ := cOps_get hc (i := i) (o := ops[i]) (by simp)
      rw [hos i g g1] at hk
      have go : stepE P g.i (os i).2.1 E E1 → (ops[i]).wp P a w (wpAny P .any ops Q fuel (L.setIfInBounds i true)) Q := fun hs1 =>
        Oper.wp_mono (fun a' w' hg => by obtain ⟨E2, k1, k2⟩ := hg; exact ih _ E2 a' w' hsz hlen hcl' k1 k2)
          (step_sound (K := fun E1 => RunD P ((remL ops.size (L.setIfInBounds i true)).map os) E1 E') g2 hn G (stepE_A _ hs1 hrest'))
      unfold wpOp
      rw [hget]
      simp only
      cases hgd : (ops[i]).guard with
      | none =>
        rw [hgd] at g4
        simp only at g4
        have hw : Region.wanted ops[i] (yielded ops a.tmps) = true := by unfold Region.wanted; rw [hgd]
        rw [if_pos hw]
        rw [g4] at hk
        exact .inl (go hk.1)
      | some q =>
        obtain ⟨j, b⟩ := q
        rw [hgd] at g4
        obtain ⟨t, ht, htn, hgg⟩ := g4
        rw [hgg] at hk
        rcases hk with ⟨_, ⟨c, hcc, hk1, hk2⟩ | ⟨hcc, hkk, _⟩⟩
        rotate_left
        · have hy : yielded ops a.tmps j = none := by
            unfold yielded
            rw [ht, Option.bind_some, tmp_tup G htn hcc]
            rfl
          have hw : Region.wanted ops[i] (yielded ops a.tmps) = false := by unfold Region.wanted; rw [hgd]; simp [hy]
          rw [if_neg (by rw [hw]; simp)]
          rw [hkk, g3] at hrest'
          exact ih _ (putO E (ops[i]).dst (.tup [])) _ w hsz hlen hcl' hrest' (good_skip G (cOp_dst g2))
        have hy : yielded ops a.tmps j = some c := by
          unfold yielded
          rw [ht, Option.bind_some, tmp_bool G htn hcc]
        have hw : Region.wanted ops[i] (yielded ops a.tmps) = (some c == some b) := by unfold Region.wanted; rw [hgd]; simp [hy]
        by_cases e : c = b
        · rw [if_pos (by rw [hw, e]; simp)]
          exact .inl (go (hk1 e).1)
        · rw [if_neg (by rw [hw]; simp [e])]
          have hkk := (hk2 e).1
          rw [hkk, g3] at hrest'
          exact ih _ (putO E (ops[i]).dst (.tup [])) _ w hsz hlen hcl' hrest' (good_skip G (cOp_dst g2))

theorem cOps_len {n : Nat} {ops : Array Oper} : ∀ {l : List Oper} {is : List GI}, cOps P n ops l = some is → is.length = l.length := by
  intro l
  induction l with
  | nil => intro is h; simp only [cOps, Option.some.injEq] at h; subst h; rfl
  | cons q l ih =>
    intro is hc
    simp only [cOps] at hc
    obtain ⟨x, hx, hc⟩ := bind_some hc
    obtain ⟨rest, hr, hc⟩ := bind_some hc
    split at hc
    · cases hc; simp [ih hr]
    · obtain ⟨t, ht, hc⟩ := bind_some hc
      obtain ⟨htn, hc⟩ := ite_some hc
      cases hc; simp [ih hr]

theorem remL_all (n : Nat) : remL n (Array.replicate n false) = List.range n := by
  unfold remL
  rw [List.filter_eq_self]
  intro i hi
  have : i < n := by simpa using hi
  simp [Array.getD_eq_getD_getElem?, this]

theorem xxB_bit {l : List GI} {bs : List Nat} {i j : Nat} (h : ((xxB l bs).getD j 0).testBit i = true) : (bs.getD j 0).testBit i = true ∨ ∃ o q, l[i]? = some o ∧ l[j]? = some q ∧ xxG o q = true := by
  unfold xxB at h
  rw [List.getD_eq_getElem?_getD, List.getElem?_map] at h
  by_cases hj : j < l.length
  · rw [List.getElem?_range hj] at h
    simp only [Option.map_some, Option.getD_some] at h
    have key : ∀ (ks : List Nat) (s : Nat), (∀ k ∈ ks, k < j) → (ks.foldl (fun s i => if xxG (l.getD i default) (l.getD j default) = true then s ||| 2 ^ i else s) s).testBit i = true →
        s.testBit i = true ∨ (i < j ∧ xxG (l.getD i default) (l.getD j default) = true) := by
      intro ks
      induction ks with
      | nil => intro s _ h; exact .inl h
      | cons k ks ih =>
        intro s hks h
        simp only [List.foldl_cons] at h
        rcases ih _ (fun x hx => hks x (by simp [hx])) h with h | h
        · split at h
          · rename_i hx
            rw [Nat.testBit_or, Nat.testBit_two_pow] at h
            simp only [Bool.or_eq_true, decide_eq_true_eq] at h
            rcases h with h | h
            · exact .inl h
            · subst h; exact .inr ⟨hks k (by simp), hx⟩
          · exact .inl h
        · exact .inr h
    rcases key _ _ (fun k hk => by simpa using hk) h with h | ⟨hi, hx⟩
    · exact .inl h
    · right
      refine ⟨l.getD i default, l.getD j default, ?_, ?_, hx⟩
      · rw [List.getD_eq_getElem?_getD, List.getElem?_eq_getElem (show i < l.length by omega)]; rfl
      · rw [List.getD_eq_getElem?_getD, List.getElem?_eq_getElem hj]; rfl
  · rw [List.getElem?_eq_none (by simpa using hj)] at h
    simp at h

/-- A DRAWN REGION: in whatever order -/
theorem drawn_sound (hn : B.n ≤ 1000) (hm : P.follows .mixedOrders = true) {id : Nat} {ops : Array Oper} {is : List GI} {K : Env → Prop} (hc : cOps P B.n ops ops.toList = some is) (hedge : edgesOk ops = true)
    (h : drawA P (xxB is (befores ops)) [] is K E) (G : Good B hv w a E) (hQ : ∀ E' a' w', K E' → Good B hv w' a' E' → Q .normal a' w') : (Code.region id ops true).wp P Q a w := by
  obtain ⟨its, E', k1, k2, k3, k4⟩ := drawA_run is [] E h
  have hlen : its.length = ops.size := by rw [← List.length_map (f := (·.1)), k1, cOps_len hc]; simp
  refine wp_region_any hm (drawn_run hn (is := is) (os := fun i => its.getD i default) hc ?_ ?_ hedge (E' := E') (fun a' w' G' => hQ E' a' w' k4 G') ops.size _ E a _ (by simp) ?_ ?_ ?_ (good_drew G rfl))
  · intro i g hg
    rw [← k1, List.getElem?_map] at hg
    obtain ⟨x, hx, rfl⟩ := map_some hg
    rw [List.getD_eq_getElem?_getD, hx]
    rfl
  · intro i j hij hj
    have hi' : i < its.length := by omega
    have hj' : j < its.length := by omega
    rcases okRec_t k3 hij (by simp; omega) (o := its[i].2.2) (q := its[j].2.2) (by simp [hi']) (by simp [hj']) with h | h
    · rcases xxB_bit h with h | ⟨o, q, ho, hq, hx⟩
      · exact .inl h
      · refine .inr (.inr ?_)
        rw [← k1, List.getElem?_map] at ho hq
        obtain ⟨x, hx1, rfl⟩ := map_some ho
        obtain ⟨y, hy1, rfl⟩ := map_some hq
        rw [List.getD_eq_getElem?_getD, List.getD_eq_getElem?_getD, hx1, hy1]
        exact hx
    · right; left
      unfold apartR at h
      simp only [Bool.and_eq_true] at h
      rw [List.getD_eq_getElem?_getD, List.getD_eq_getElem?_getD, List.getElem?_eq_getElem hi', List.getElem?_eq_getElem hj']
      exact ⟨fun t ht => ⟨apartL_t h.1.1 t ht, apartL_t h.2 t ht⟩, fun t ht => apartL_t h.1.2 t ht⟩
  · rw [remL_all]; simp
  · intro i hi hl
    simp [Array.getD_eq_getD_getElem?, hi] at hl
  · rw [remL_all]
    have : (List.range ops.size).map (fun i => its.getD i default) = its := by
      apply List.ext_getElem?
      intro i
      rw [List.getElem?_map]
      by_cases hi : i < ops.size
      · rw [List.getElem?_range hi, Option.map_some, List.getD_eq_getElem?_getD, List.getElem?_eq_getElem (by omega)]
        rfl
      · rw [List.getElem?_eq_none (by simpa using hi), List.getElem?_eq_none (by omega)]
        rfl
    rw [this]; exact k2

end Go.Proofs.YtjmnolhflcjpgaaGreat.Awp

namespace Go.Proofs.YtjmnolhflcjpgaaGreat.Awp
set_option linter.unusedVariables false
set_option linter.unusedSimpArgs false
variable {P : Program} {w w' : World} {B : Base} {hid hv : Nat → Value} {a : Act} {E : Env} {Fs Xs : Nat → Foot} {FP XP : Foot} {o : Oper}

def exOf : Ex → Exit
  | .n => .normal
  | .r => .ret
  | .e id => .exit id

def Post (B : Base) (hv : Nat → Value) (Qe : Ex → Env → Prop) (Q : Exit → Act → World → Prop) : Prop := ∀ x E' a' w', Qe x E' → Good B hv w' a' E' → Q (exOf x) a' w'

/-- THE COMMANDS -/
theorem awp_sound (hn : B.n ≤ 1000) (hD : P.follows .mixedOrders = true) (ks : Nat) : ∀ (c : Code) (cmd : Cmd) (Qe : Ex → Env → Prop) (Q : Exit → Act → World → Prop) (E : Env) (a : Act) (w : World),
    cCode P B.n c = some cmd → Post B hv Qe Q → awp P ks cmd Qe E → Good B hv w a E → c.wp P Q a w := by
  intro c
  induction c with
  | skip =>
    intro cmd Qe Q E a w hc hP h G
    simp only [cCode, Option.some.injEq] at hc; subst hc
    exact wp_skip (hP .n E a w h G)
  | region id ops dr =>
    intro cmd Qe Q E a w hc hP h G
    simp only [cCode] at hc
    split at hc
    · cases hc
    rename_i hed
    obtain ⟨l, hl, rfl⟩ := map_some hc
    have hQ : ∀ E' a' w', Qe .n E' → Good B hv w' a' E' → Q .normal a' w' := fun E' a' w' k G' => hP .n _ a' w' k G'
    cases dr with
    | false =>
      obtain ⟨U, h⟩ := h
      refine wp_region ?_
      rw [List.range_eq_range']
      exact ops_sound hn hQ ops.size 0 l _ a w (by omega) (by simpa using hl) h (good_rg hn ks U (norm_sound ks G))
    | true =>
      obtain ⟨U, h⟩ := h
      exact drawn_sound hn hD hl (by simpa using hed) h (good_rg hn ks U (norm_sound ks G)) hQ
  | seq x y ihx ihy =>
    intro cmd Qe Q E a w hc hP h G
    simp only [cCode] at hc
    obtain ⟨cx, hx, hc⟩ := bind_some hc
    obtain ⟨cy, hy, rfl⟩ := map_some hc
    refine wp_seq (ihx cx _ _ E a w hx ?_ h G)
    intro e E' a' w' k G'
    cases e with
    | n => exact ihy cy Qe Q E' a' w' hy hP k G'
    | r => exact hP .r E' a' w' k G'
    | e id => exact hP (.e id) E' a' w' k G'
  | cond x y z ihy ihz =>
    intro cmd Qe Q E a w hc hP h G
    simp only [cCode] at hc
    obtain ⟨ox, hx, hc⟩ := bind_some hc
    obtain ⟨cy, hy, hc⟩ := bind_some hc
    obtain ⟨cz, hz, rfl⟩ := map_some hc
    obtain ⟨t, ht, h1, h2⟩ := h
    refine wp_cond_split (val_bool G (cOpd_ok hx) ht) (fun e => ?_) (fun e => ?_)
    · exact ihy cy Qe Q E a w hy hP (h1 e) G
    · exact ihz cz Qe Q E a w hz hP (h2 e) G
  | block id c ih =>
    intro cmd Qe Q E a w hc hP h G
    simp only [cCode] at hc
    obtain ⟨cc, hcc, rfl⟩ := map_some hc
    refine wp_block (ih cc _ _ E a w hcc ?_ h G)
    intro x E' a' w' k G'
    by_cases e : x = .e id
    · subst e
      simp only [if_true] at k
      simp only [exOf, Exit.inBlock, if_true]
      exact hP .n E' a' w' k G'
    · simp only [e, if_false] at k
      cases x with
      | n => exact hP .n E' a' w' k G'
      | r => exact hP .r E' a' w' k G'
      | e id' =>
        have : id' ≠ id := fun h => e (by rw [h])
        simp only [exOf, Exit.inBlock, this, if_false]
        exact hP (.e id') E' a' w' k G'
  | loop c ih =>
    intro cmd Qe Q E a w hc hP h G
    simp only [cCode] at hc
    obtain ⟨cc, hcc, rfl⟩ := map_some hc
    obtain ⟨D, J, ⟨n, hJ⟩, hround⟩ := h
    classical
    let p : Act → World → Nat → Prop := fun a w n => ∃ E, J n E ∧ Good B hv w a E
    let μ : Act → World → Nat := fun a w => if h : ∃ n, p a w n then Classical.choose (exists_least h) else 0
    have hμ : ∀ a w m, p a w m → p a w (μ a w) ∧ μ a w ≤ m := by
      intro a w m hm
      have h : ∃ n, p a w n := ⟨m, hm⟩
      have hs := Classical.choose_spec (exists_least h)
      have e : μ a w = Classical.choose (exists_least h) := by simp only [μ]; rw [dif_pos h]
      rw [e]
      exact ⟨hs.1, Nat.le_of_not_lt fun hlt => hs.2 m hlt hm⟩
    refine wp_loop (fun a w => ∃ n, p a w n) μ ⟨n, _, hJ, head_sound ks D G⟩ ?_
    rintro a w ⟨m, hm⟩
    obtain ⟨⟨E0, hJ0, G0⟩, _⟩ := hμ a w m hm
    refine ih cc _ _ E0 a w hcc ?_ (hround _ E0 hJ0) G0
    intro x E' a' w' k G'
    cases x with
    | n =>
      obtain ⟨m', hlt, hJ'⟩ := k
      have := hμ a' w' m' ⟨_, hJ', head_sound ks D G'⟩
      exact ⟨⟨m', _, hJ', head_sound ks D G'⟩, by omega⟩
    | r => exact hP .r E' a' w' k G'
    | e id => exact hP (.e id) E' a' w' k G'
  | exit id =>
    intro cmd Qe Q E a w hc hP h G
    simp only [cCode, Option.some.injEq] at hc; subst hc
    exact wp_exit (hP (.e id) E a w h G)
  | ret =>
    intro cmd Qe Q E a w hc hP h G
    simp only [cCode, Option.some.injEq] at hc; subst hc
    exact wp_ret (hP .r E a w h G)
  | _ => intro cmd Qe Q E a w hc; simp [cCode] at hc

end Go.Proofs.YtjmnolhflcjpgaaGreat.Awp

namespace Go.Proofs.YtjmnolhflcjpgaaGreat.Awp
set_option linter.unusedVariables false
set_option linter.unusedSimpArgs false
variable {P : Program} {w w' : World} {B : Base} {hid hv : Nat → Value} {a : Act} {E : Env} {Fs Xs : Nat → Foot} {FP XP : Foot} {o : Oper}

/-- the first piece in hand is laid at an entry (its value is there, or the entry is hidden) -/
theorem PR.place {v : Value} {vs : List Value} {x : AV} {xs : List AV} (P1 : PR B hid w a E Fs Xs FP XP (v :: vs) (x :: xs)) {q : Nat} {hid' : Nat → Value}
    (hv' : vlOf a.tmps hid' q = v) (hne : ∀ t, t ≠ q → vlOf a.tmps hid' t = vlOf a.tmps hid t) :
    ∃ Fs' Xs' FP' XP', PR B hid' w a (E.put q x) Fs' Xs' FP' XP' vs xs := by
  have R := P1.rel
  obtain ⟨A1, A2, Y1, Y2, q1, q2, eA, eY⟩ := RepA.uncons P1.rep
  have links : ∀ r e p o, lkOf w (vlOf a.tmps hid) E r e p = some o → lkOf w (vlOf a.tmps hid') (E.put q x) r e p = some none ∨ lkOf w (vlOf a.tmps hid') (E.put q x) r e p = some o := by
    intro r e p o h
    by_cases hr : r = q
    · subst hr; exact .inl (put_links rfl h)
    · exact .inr (by rw [lk_keep (w' := w) (a' := a) (hid' := hid') R (put_f_ne hr) (put_ep_ne hr) (hne r hr) (fun _ _ => rfl) (fun _ _ => rfl)]; exact h)
  refine ⟨fun t => if t = q then A1 else Fs t, fun t => if t = q then Y1 else Xs t, A2, Y2, ?_, q2.same links (fun _ _ => rfl) (fun _ _ => rfl), ?_, ?_, ?_, ?_, ?_, ?_, ?_⟩
  · refine R.change (fun t => t = q) R.size R.dfr ?_ ?_ ?_ ?_ ?_ ?_ ?_ (Grows.refl _) (fun _ _ _ => rfl) ?_ ?_
    · intro t ht; exact ⟨put_f_ne ht, put_ep_ne ht, hne t ht, by simp [ht], by simp [ht], fun _ _ => rfl, fun _ _ => rfl⟩
    · intro r hr e p o h; subst hr; exact .inl (put_links rfl h)
    · intro l t ht; subst ht; rw [put_f_eq, hv']; simp only [if_true]
      exact q1.same l (fun _ _ => rfl) (fun _ _ => rfl)
    · intro t ht b; simp only [ht, if_true]; have := P1.one b; have := eA b; omega
    · intro t ht t' hne' b; subst ht; simp only [if_true, Ne.symm hne', if_false]; have := P1.dis t' b; have := eA b; omega
    · intro t ht t' b; subst ht; simp only [if_true]
      by_cases e : t' = t
      · simp only [e, if_true]; have := P1.dx3 b; have := eA b; have := eY b; omega
      · simp only [e, if_false]; have := P1.dx1 t' b; have := eA b; omega
    · intro t ht t' b; subst ht; simp only [if_true]
      by_cases e : t' = t
      · simp only [e, if_true]; have := P1.dx3 b; have := eA b; have := eY b; omega
      · simp only [e, if_false]; have := P1.dx2 t' b; have := eY b; omega
    · intro t ht b hb; subst ht; simp only [if_true] at hb; exact P1.org b (by have := eA b; omega)
    · intro t ht b hb; subst ht; simp only [if_true] at hb; exact P1.orgx b (by have := eY b; omega)
  · intro b; have := P1.one b; have := eA b; omega
  · intro t b
    by_cases e : t = q
    · simp only [e, if_true]; have := P1.one b; have := eA b; omega
    · simp only [e, if_false]; have := P1.dis t b; have := eA b; omega
  · intro t b
    by_cases e : t = q
    · simp only [e, if_true]; have := P1.dx3 b; have := eA b; have := eY b; omega
    · simp only [e, if_false]; have := P1.dx1 t b; have := eA b; omega
  · intro t b
    by_cases e : t = q
    · simp only [e, if_true]; have := P1.dx3 b; have := eA b; have := eY b; omega
    · simp only [e, if_false]; have := P1.dx2 t b; have := eY b; omega
  · intro b; have := P1.dx3 b; have := eA b; have := eY b; omega
  · intro b hb; exact P1.org b (by have := eA b; omega)
  · intro b hb; exact P1.orgx b (by have := eY b; omega)

end Go.Proofs.YtjmnolhflcjpgaaGreat.Awp

namespace Go.Proofs.YtjmnolhflcjpgaaGreat.Awp
set_option linter.unusedVariables false
set_option linter.unusedSimpArgs false
variable {P : Program} {w w' : World} {B : Base} {hid hv : Nat → Value} {a : Act} {E : Env} {Fs Xs : Nat → Foot} {FP XP : Foot} {o : Oper}

/-- the hidden root of an argument's j-th cell -/
def rt (k j : Nat) : Nat := 1000 + (32 * (j + 1) + k)
def primU : AV → AV
  | .bool b => .bool b
  | .int k n => .int k n
  | .str s => .str s
  | _ => .undef
def cellA (k : Nat) : Nat → List AV → List (Nat × AV)
  | _, [] => []
  | j, .own s es :: cs => (rt k j, .own s es) :: cellA k (j + 1) cs
  | j, _ :: cs => cellA k (j + 1) cs
def cellB (k : Nat) : Nat → List AV → List AV
  | _, [] => []
  | j, .own _ _ :: cs => .lnk (rt k j) 0 [] :: cellB k (j + 1) cs
  | j, c :: cs => primU c :: cellB k (j + 1) cs

/-- the arguments, each at its temporary; those that are lent, and lent parts, at hidden roots -/
def initA : Nat → List Bool → List AV → List (Nat × AV)
  | _, _, [] => []
  | k, [], x :: xs => (k, x) :: initA (k + 1) [] xs
  | k, b :: bs, x :: xs => if b then (match x with
      | .agg cs => cellA k 0 cs ++ initA (k + 1) bs xs
      | x => (1000 + k, x) :: initA (k + 1) bs xs)
    else (k, x) :: initA (k + 1) bs xs
def lnkTo (k : Nat) : AV → AV
  | .box _ => .ref (1000 + k) 0 [] ⟨0, 0, 0⟩
  | .agg cs => .agg (cellB k 0 cs)
  | _ => .lnk (1000 + k) 0 []
/-- the links to those that are lent -/
def initB : Nat → List Bool → List AV → List (Nat × AV)
  | _, _, [] => []
  | _, [], _ :: _ => []
  | k, b :: bs, x :: xs => if b then (k, lnkTo k x) :: initB (k + 1) bs xs else initB (k + 1) bs xs

/-- what stands behind the hidden roots -/
def hidV (vs : List Value) (t : Nat) : Value :=
  if t - 1000 < 32 then vs.getD (t - 1000) undef else match vs[(t - 1000) % 32]? with
    | some (.agg us) => us.getD ((t - 1000) / 32 - 1) undef
    | _ => undef
theorem hidV_arg {vs : List Value} {k : Nat} {v : Value} (hk : k < 32) (h : vs[k]? = some v) : hidV vs (1000 + k) = v := by
  unfold hidV
  rw [if_pos (by omega), Nat.add_sub_cancel_left, List.getD_eq_getElem?_getD, h]; rfl
theorem hidV_cell {vs : List Value} {k j : Nat} {us : List Value} {v : Value} (hk : k < 32) (h : vs[k]? = some (.agg us.toArray)) (hj : us[j]? = some v) : hidV vs (rt k j) = v := by
  unfold hidV rt
  rw [if_neg (by omega), show (1000 + (32 * (j + 1) + k) - 1000) % 32 = k by omega, h, show (1000 + (32 * (j + 1) + k) - 1000) / 32 - 1 = j by omega]
  simp [Array.getD_eq_getD_getElem?, hj]

def noKey (l : List (Nat × AV)) (q : Nat) : Prop := ∀ p ∈ l, p.1 ≠ q

theorem getL_noKey {l : List (Nat × AV)} {q : Nat} (h : noKey l q) : getL l q = .undef := by
  induction l with
  | nil => rfl
  | cons p l ih =>
    obtain ⟨k, x⟩ := p
    simp only [getL]
    rw [if_neg (h (k, x) (by simp))]
    exact ih fun p hp => h p (by simp [hp])
theorem setL_noKey {l : List (Nat × AV)} {q : Nat} (h : noKey l q) (x : AV) : setL l q x = l ++ [(q, x)] := by
  induction l with
  | nil => rfl
  | cons p l ih =>
    obtain ⟨k, y⟩ := p
    simp only [setL]
    rw [if_neg (h (k, y) (by simp)), ih fun p hp => h p (by simp [hp])]
    rfl
theorem put_new {l : List (Nat × AV)} {q : Nat} (h : noKey l q) (x : AV) : (mkE l []).put q x = mkE (l ++ [(q, x)]) [] := by
  rw [mkE_put, getL_noKey h, setL_noKey h]
  rfl

/-- lent parts go to their roots -/
theorem cellA_place (k : Nat) (hk : k < 32) : ∀ (cs : List AV) (j : Nat) (zs vs : List Value) (xs : List AV) (l : List (Nat × AV)) {Fs Xs : Nat → Foot} {FP XP : Foot}, zs.length = cs.length →
    (∀ p ∈ l, ∀ i, j ≤ i → p.1 ≠ rt k i) → (∀ i v, zs[i]? = some v → vlOf a.tmps hid (rt k (j + i)) = v) →
    PR B hid w a (mkE l []) Fs Xs FP XP (zs ++ vs) (cs ++ xs) → ∃ Fs' Xs' FP' XP', PR B hid w a (mkE (l ++ cellA k j cs) []) Fs' Xs' FP' XP' vs xs := by
  intro cs
  induction cs with
  | nil =>
    intro j zs vs xs l Fs Xs FP XP hl _ _ P1
    cases zs with
    | nil => exact ⟨Fs, Xs, FP, XP, by simpa [cellA] using P1⟩
    | cons z zs => simp at hl
  | cons c cs ih =>
    intro j zs vs xs l Fs Xs FP XP hl hno hv P1
    cases zs with
    | nil => simp at hl
    | cons z zs =>
      have hl' : zs.length = cs.length := by simpa using hl
      have hv' : ∀ i v, zs[i]? = some v → vlOf a.tmps hid (rt k (j + 1 + i)) = v := fun i v h => by
        have := hv (i + 1) v (by simpa using h)
        rw [show j + 1 + i = j + (i + 1) by omega]; exact this
      have drop : ∃ Fs' Xs' FP' XP', PR B hid w a (mkE (l ++ cellA k (j + 1) cs) []) Fs' Xs' FP' XP' vs xs := by
        obtain ⟨A1, A2, Y1, Y2, q1, q2, eA, eY⟩ := RepA.uncons P1.rep
        exact ih (j + 1) zs vs xs l hl' (fun p hp i hi => hno p hp i (by omega)) hv' (P1.shrink q2 (fun b => by have := eA b; omega) (fun b => by have := eY b; omega))
      cases c with
      | own s es =>
        obtain ⟨Fs1, Xs1, FP1, XP1, P2⟩ := PR.place P1 (q := rt k j) (hid' := hid) (hv 0 z rfl) (fun _ _ => rfl)
        rw [put_new (fun p hp => hno p hp j (Nat.le_refl _))] at P2
        obtain ⟨Fs2, Xs2, FP2, XP2, P3⟩ := ih (j + 1) zs vs xs (l ++ [(rt k j, .own s es)]) hl' (fun p hp i hi => by
          rcases List.mem_append.1 hp with hp | hp
          · exact hno p hp i (by omega)
          · simp at hp; subst hp; simp only [rt]; omega) hv' P2
        exact ⟨Fs2, Xs2, FP2, XP2, by simpa [cellA] using P3⟩
      | _ => exact drop

theorem initA_place : ∀ (xs : List AV) (bs : List Bool) (k : Nat) (vs : List Value) (l : List (Nat × AV)) {Fs Xs : Nat → Foot} {FP XP : Foot}, k + xs.length ≤ 32 → k + xs.length ≤ B.n → B.n ≤ 1000 →
    (∀ p ∈ l, p.1 < k ∨ (1000 ≤ p.1 ∧ (p.1 - 1000) % 32 < k)) → (∀ j v, vs[j]? = some v → vlOf a.tmps hid (k + j) = v ∧ vlOf a.tmps hid (1000 + (k + j)) = v) →
    (∀ j us i v, vs[j]? = some (.agg (us : List Value).toArray) → us[i]? = some v → vlOf a.tmps hid (rt (k + j) i) = v) →
    PR B hid w a (mkE l []) Fs Xs FP XP vs xs → ∃ Fs' Xs' FP' XP', PR B hid w a (mkE (l ++ initA k bs xs) []) Fs' Xs' FP' XP' [] [] := by
  intro xs
  induction xs with
  | nil =>
    intro bs k vs l Fs Xs FP XP _ _ _ _ _ _ P1
    have := P1.rep.length
    cases vs with
    | nil => exact ⟨Fs, Xs, FP, XP, by cases bs <;> simpa [initA] using P1⟩
    | cons v vs => simp at this
  | cons x xs ih =>
    intro bs k vs l Fs Xs FP XP h1 h2 hn hk hv hc P1
    simp only [List.length_cons] at h1 h2
    have hlen := P1.rep.length
    cases vs with
    | nil => simp at hlen
    | cons v vs =>
      have hv0 := hv 0 v rfl
      have hvt : ∀ j v', vs[j]? = some v' → vlOf a.tmps hid (k + 1 + j) = v' ∧ vlOf a.tmps hid (1000 + (k + 1 + j)) = v' := fun j v' hj => by
        have := hv (j + 1) v' (by simpa using hj)
        rw [show k + 1 + j = k + (j + 1) by omega]; exact this
      have hct : ∀ j us i v', vs[j]? = some (.agg (us : List Value).toArray) → us[i]? = some v' → vlOf a.tmps hid (rt (k + 1 + j) i) = v' := fun j us i v' hj hi => by
        have := hc (j + 1) us i v' (by simpa using hj) hi
        rw [show k + 1 + j = k + (j + 1) by omega]; exact this
      have step : ∀ (q : Nat) (bs' : List Bool), (q = k ∨ q = 1000 + k) → vlOf a.tmps hid q = v → ∃ Fs' Xs' FP' XP', PR B hid w a (mkE (l ++ (q, x) :: initA (k + 1) bs' xs) []) Fs' Xs' FP' XP' [] [] := by
        intro q bs' hq hqv
        have hno : noKey l q := fun p hp => by have := hk p hp; omega
        obtain ⟨Fs1, Xs1, FP1, XP1, P2⟩ := PR.place P1 (q := q) (hid' := hid) hqv (fun _ _ => rfl)
        rw [put_new hno] at P2
        obtain ⟨Fs2, Xs2, FP2, XP2, P3⟩ := ih bs' (k + 1) vs (l ++ [(q, x)]) (by omega) (by omega) hn (by
          intro p hp
          rcases List.mem_append.1 hp with hp | hp
          · have := hk p hp; omega
          · simp at hp; subst hp; (try dsimp only); omega) hvt hct P2
        exact ⟨Fs2, Xs2, FP2, XP2, by simpa using P3⟩
      cases bs with
      | nil => exact step k [] (.inl rfl) hv0.1
      | cons b bs =>
        cases b with
        | false => simp only [initA]; exact step k bs (.inl rfl) hv0.1
        | true =>
          cases x with
          | agg cs =>
            simp only [initA, if_true]
            obtain ⟨zs, rfl, hzl, hrep⟩ := RepA.open_agg (us := []) (ys := []) rfl P1.rep
            obtain ⟨Fs1, Xs1, FP1, XP1, P2⟩ := cellA_place (B := B) k (by omega) cs 0 zs vs xs l hzl (fun p hp i _ => by have := hk p hp; simp only [rt]; omega)
              (fun i v hi => by have := hc 0 zs i v rfl hi; rw [Nat.zero_add]; exact this) (P1.rerep hrep)
            obtain ⟨Fs2, Xs2, FP2, XP2, P3⟩ := ih bs (k + 1) vs (l ++ cellA k 0 cs) (by omega) (by omega) hn (by
              intro p hp
              rcases List.mem_append.1 hp with hp | hp
              · have := hk p hp; omega
              · have key : ∀ (cs : List AV) (j : Nat), ∀ p ∈ cellA k j cs, ∃ i, p.1 = rt k i := by
                  intro cs
                  induction cs with
                  | nil => intro j p hp; simp [cellA] at hp
                  | cons c cs ih =>
                    intro j p hp
                    cases c with
                    | own s es =>
                      simp only [cellA, List.mem_cons] at hp
                      rcases hp with rfl | hp
                      · exact ⟨j, rfl⟩
                      · exact ih _ p hp
                    | _ => simp only [cellA] at hp; exact ih _ p hp
                obtain ⟨i, hi⟩ := key cs 0 p hp
                rw [hi]; simp only [rt]; omega) hvt hct P2
            exact ⟨Fs2, Xs2, FP2, XP2, by simpa using P3⟩
          | _ => simp only [initA, if_true]; exact step (1000 + k) bs (.inr rfl) hv0.2

end Go.Proofs.YtjmnolhflcjpgaaGreat.Awp

namespace Go.Proofs.YtjmnolhflcjpgaaGreat.Awp
set_option linter.unusedVariables false
set_option linter.unusedSimpArgs false
variable {P : Program} {w w' : World} {B : Base} {hid hv : Nat → Value} {a : Act} {E : Env} {Fs Xs : Nat → Foot} {FP XP : Foot} {o : Oper}

/-- the arguments that are lent are roots, or values whose parts are lent -/
def rootsOk : List Bool → List AV → Bool
  | true :: bs, x :: xs => (match x with
      | .agg cs => decide (cs.length ≤ 30)
      | x => x.isRoot) && rootsOk bs xs
  | false :: bs, _ :: xs => rootsOk bs xs
  | _, _ => true

theorem getL_app {l m : List (Nat × AV)} {q : Nat} (h : noKey m q) : getL (l ++ m) q = getL l q := by
  induction l with
  | nil => rw [List.nil_append, getL_noKey h]; rfl
  | cons p l ih => obtain ⟨k, x⟩ := p; simp only [List.cons_append, getL, ih]

/-- plain cells are what they are in every world -/
theorem RepA.prims {lk lk' : Lk} {F X : Foot} {us : List Value} {cs : List AV} (h : RepA w lk F X us cs) : RepA w' lk' (fun _ => 0) (fun _ => 0) us (cs.map primU) := by
  induction cs generalizing us F X with
  | nil =>
    have := h.length
    cases us with
    | nil => exact RepA.znil
    | cons u us => simp at this
  | cons c cs ih =>
    have := h.length
    cases us with
    | nil => simp at this
    | cons u us =>
      obtain ⟨A1, A2, Y1, Y2, q1, q2, eA, eY⟩ := RepA.uncons h
      have r := ih q2
      cases c with
      | bool b => cases q1 with | bool _ _ _ _ _ _ => exact .bool _ _ _ _ _ r
      | int k n => cases q1 with | int _ _ _ _ _ _ _ => exact .int _ _ _ _ _ _ r
      | str s => cases q1 with | str _ _ _ _ _ _ => exact .str _ _ _ _ _ r
      | _ => exact .undef _ _ _ _ _ r

theorem cellB_rep (R : Rel B hid w a E Fs Xs) (k : Nat) : ∀ (cs : List AV) (j : Nat) (zs : List Value), RepA w lk0 (fun _ => 0) (fun _ => 0) zs (cs.map primU) →
    (∀ i s es, cs[i]? = some (.own s es) → E.f (rt k (j + i)) = .own s es ∧ E.ep (rt k (j + i)) = (0, 0)) → (∀ i v, zs[i]? = some v → vlOf a.tmps hid (rt k (j + i)) = v) →
    RepA w (lkOf w (vlOf a.tmps hid) E) (fun _ => 0) (fun _ => 0) zs (cellB k j cs) := by
  intro cs
  induction cs with
  | nil =>
    intro j zs h _ _
    have := h.length
    cases zs with
    | nil => exact RepA.znil
    | cons z zs => simp at this
  | cons c cs ih =>
    intro j zs h ho hv
    have := h.length
    cases zs with
    | nil => simp at this
    | cons z zs =>
      obtain ⟨A1, A2, Y1, Y2, q1, q2, eA, eY⟩ := RepA.uncons h
      have r := ih (j + 1) zs (q2.foot (fun b => by have := eA b; omega) (fun b => by have := eY b; omega)) (fun i s es hi => by
        have := ho (i + 1) s es (by simpa using hi)
        rw [show j + 1 + i = j + (i + 1) by omega]; exact this) (fun i v hi => by
        have := hv (i + 1) v (by simpa using hi)
        rw [show j + 1 + i = j + (i + 1) by omega]; exact this)
      have q1' := q1.lk0 (lkOf w (vlOf a.tmps hid) E)
      have cons : ∀ x, RepA w (lkOf w (vlOf a.tmps hid) E) A1 Y1 [z] [x] → RepA w (lkOf w (vlOf a.tmps hid) E) (fun _ => 0) (fun _ => 0) (z :: zs) (x :: cellB k (j + 1) cs) := fun x hx =>
        (RepA.cons hx r (fun _ => rfl) (fun _ => rfl)).foot (fun b => by have := eA b; first | omega | (dsimp only; omega) | (dsimp only at *; omega)) (fun b => by have := eY b; first | omega | (dsimp only; omega) | (dsimp only at *; omega))
      cases c with
      | own s es =>
        obtain ⟨g1, g2⟩ := ho 0 s es rfl
        have hz := hv 0 z rfl
        have hlk : lkOf w (vlOf a.tmps hid) E (rt k j) 0 [] = some (some z) := by
          unfold lkOf
          rw [Nat.add_zero] at g1 g2 hz
          rw [g2, if_neg (by simp [curE]), if_pos ⟨rfl, by rw [g1]; rfl, by rw [aget_nil]; rfl⟩, hz]
          rfl
        exact .lnk _ _ _ _ _ _ _ _ _ hlk (fun u hu => by cases hu; rfl) r
      | _ => exact cons _ q1'

theorem lnkTo_rep (R : Rel B hid w a E Fs Xs) {k : Nat} {x : AV} (hroot : x.isRoot = true → E.f (1000 + k) = x ∧ E.ep (1000 + k) = (0, 0) ∧ vlOf a.tmps hid (1000 + k) = vlOf a.tmps hid k)
    (hagg : ∀ cs, x = .agg cs → ∃ zs : List Value, vlOf a.tmps hid k = .agg zs.toArray ∧ RepA w lk0 (fun _ => 0) (fun _ => 0) zs (cs.map primU) ∧
      (∀ i s es, cs[i]? = some (.own s es) → E.f (rt k i) = .own s es ∧ E.ep (rt k i) = (0, 0)) ∧ ∀ i v, zs[i]? = some v → vlOf a.tmps hid (rt k i) = v)
    (hr : x.isRoot = true ∨ ∃ cs, x = .agg cs) :
    RepA w (lkOf w (vlOf a.tmps hid) E) (fun _ => 0) (fun _ => 0) [vlOf a.tmps hid k] [lnkTo k x] := by
  have hlk : x.isRoot = true → lkOf w (vlOf a.tmps hid) E (1000 + k) 0 [] = some (some (vlOf a.tmps hid k)) := by
    intro h
    obtain ⟨h1, h2, h3⟩ := hroot h
    unfold lkOf
    rw [h2, if_neg (by simp [curE]), if_pos ⟨rfl, by rw [h1]; exact h, by rw [aget_nil]; rfl⟩, ← h3]
    rfl
  cases x with
  | own s es => exact .lnk _ _ _ _ _ _ _ _ _ (hlk rfl) (fun u hu => by cases hu; rfl) RepA.znil
  | box cs =>
    refine .ref _ _ _ _ _ _ _ _ _ _ (hlk rfl) (fun u hu => ?_) RepA.znil
    cases hu
    obtain ⟨h1, h2, h3⟩ := hroot rfl
    have hrep := R.rep (1000 + k)
    rw [h1, h3] at hrep
    generalize vlOf a.tmps hid k = v at hrep
    cases hrep with
    | box _ F1 F2 _ X1 X2 b C ty fr _ _ _ hb hfr h1 h2 hF hX => exact ⟨⟨b, 0, none⟩, rfl, by simp [add_zero]⟩
  | agg cs =>
    obtain ⟨zs, hz, h1, h2, h3⟩ := hagg cs rfl
    rw [hz]
    exact .agg _ (fun _ => 0) (fun _ => 0) _ (fun _ => 0) (fun _ => 0) zs _ [] [] (cellB_rep R k cs 0 zs h1 (fun i s es hi => by rw [Nat.zero_add]; exact h2 i s es hi) (fun i v hi => by rw [Nat.zero_add]; exact h3 i v hi)) RepA.znil (fun _ => rfl) (fun _ => rfl)
  | _ => rcases hr with h | ⟨cs, h⟩ <;> cases h

/-- what is there of an argument that is lent -/
def LentAt (a : Act) (w : World) (hid : Nat → Value) (l : List (Nat × AV)) (k : Nat) (x : AV) : Prop :=
  (x.isRoot = true → getL l (1000 + k) = x ∧ vlOf a.tmps hid (1000 + k) = vlOf a.tmps hid k) ∧
  (∀ cs, x = .agg cs → ∃ zs : List Value, vlOf a.tmps hid k = .agg zs.toArray ∧ RepA w lk0 (fun _ => 0) (fun _ => 0) zs (cs.map primU) ∧
      (∀ i s es, cs[i]? = some (.own s es) → getL l (rt k i) = .own s es) ∧ ∀ i v, zs[i]? = some v → vlOf a.tmps hid (rt k i) = v) ∧ noKey l k

theorem initB_place : ∀ (xs : List AV) (bs : List Bool) (k : Nat) (l : List (Nat × AV)) {Fs Xs : Nat → Foot}, k + xs.length ≤ 32 → k + xs.length ≤ B.n → B.n ≤ 1000 →
    (∀ j x, xs[j]? = some x → bs[j]? = some true → LentAt a w hid l (k + j) x) → rootsOk bs xs = true →
    Rel B hid w a (mkE l []) Fs Xs → ∃ Fs' Xs', Rel B hid w a (mkE (l ++ initB k bs xs) []) Fs' Xs' := by
  intro xs
  induction xs with
  | nil => intro bs k l Fs Xs _ _ _ _ _ R; exact ⟨Fs, Xs, by cases bs <;> simpa [initB] using R⟩
  | cons x xs ih =>
    intro bs k l Fs Xs h1 h2 hn hl hr R
    simp only [List.length_cons] at h1 h2
    cases bs with
    | nil => exact ⟨Fs, Xs, by simpa [initB] using R⟩
    | cons b bs =>
      cases b with
      | false =>
        simp only [initB]
        exact ih bs (k + 1) l (by omega) (by omega) hn (fun j y hj hb => by
          have := hl (j + 1) y (by simpa using hj) (by simpa using hb)
          rw [show k + 1 + j = k + (j + 1) by omega]; exact this) (by simpa [rootsOk] using hr) R
      | true =>
        simp only [rootsOk, Bool.and_eq_true] at hr
        obtain ⟨g1, g2, g3⟩ := hl 0 x rfl rfl
        rw [Nat.add_zero] at g1 g2 g3
        have hrx : x.isRoot = true ∨ ∃ cs, x = .agg cs := by
          cases x with
          | agg cs => exact .inr ⟨cs, rfl⟩
          | _ => exact .inl hr.1
        have hrep := lnkTo_rep R (k := k) (x := x) (fun h => ⟨by rw [mkE_f]; exact (g1 h).1, rfl, (g1 h).2⟩) (fun cs hcs => by
          obtain ⟨zs, z1, z2, z3, z4⟩ := g2 cs hcs
          exact ⟨zs, z1, z2, fun i s es hi => ⟨by rw [mkE_f]; exact z3 i s es hi, rfl⟩, z4⟩) hrx
        obtain ⟨XP', P1⟩ := PR.ofRel R hrep (fun _ => rfl) (fun b hb => absurd rfl hb)
        obtain ⟨Fs1, Xs1, FP1, XP1, P2⟩ := PR.place P1 (q := k) (hid' := hid) rfl (fun _ _ => rfl)
        rw [put_new g3] at P2
        have far : ∀ q, 1000 ≤ q → noKey [(k, lnkTo k x)] q := by
          intro q hq p hp; simp at hp; subst hp; (try dsimp only); omega
        obtain ⟨Fs2, Xs2, R3⟩ := ih bs (k + 1) (l ++ [(k, lnkTo k x)]) (by omega) (by omega) hn (fun j y hj hb => by
          obtain ⟨k1, k2, k3⟩ := hl (j + 1) y (by simpa using hj) (by simpa using hb)
          rw [show k + 1 + j = k + (j + 1) by omega]
          refine ⟨fun h => ?_, fun cs hcs => ?_, ?_⟩
          · rw [getL_app (far _ (by omega))]; exact k1 h
          · obtain ⟨zs, z1, z2, z3, z4⟩ := k2 cs hcs
            exact ⟨zs, z1, z2, fun i s es hi => by rw [getL_app (far _ (by simp only [rt]; omega))]; exact z3 i s es hi, z4⟩
          · intro p hp
            rcases List.mem_append.1 hp with hp | hp
            · exact k3 p hp
            · simp at hp; subst hp; (try dsimp only); omega) hr.2 P2.rel
        exact ⟨Fs2, Xs2, by simpa [initB] using R3⟩

end Go.Proofs.YtjmnolhflcjpgaaGreat.Awp

namespace Go.Proofs.YtjmnolhflcjpgaaGreat.Awp
set_option linter.unusedVariables false
set_option linter.unusedSimpArgs false
variable {P : Program} {w w' : World} {B : Base} {hid hv : Nat → Value} {a : Act} {E : Env} {Fs Xs : Nat → Foot} {FP XP : Foot} {o : Oper}

/-- the results, gathered -/
def takeB (E : Env) : AV → Option (AV × Env)
  | .ref r e p st => match p, E.f r with
    | [], .box cs => if st.i = 0 ∧ st.s = 0 ∧ st.j = 0 ∧ e = (E.ep r).1 then some (.box cs, E.put r .undef) else none
    | _, _ => none
  | _ => none
/-- where a result lies: in a temporary, or in the cells of a variable -/
inductive RV where
  | t (n : Nat)
  | c (n sz : Nat) (ag : Bool)
  deriving DecidableEq
def retO (E : Env) : RV → Option (AV × Env)
  | .t n => match takeB E (E.f n) with
    | some g => some g
    | none => gathO E (.t n)
  | .c n sz ag => (takeB E (E.f n)).bind fun g => match g.1 with
    | .box cs => if cs.length = sz then (oneOf cs ag).map fun x => (x, g.2) else none
    | _ => none
def retG (E : Env) : List RV → Option (List AV × Env)
  | [] => some ([], E)
  | t :: l => (retO E t).bind fun g => (retG g.2 l).map fun y => (g.1 :: y.1, y.2)
def resT (P : Program) (nt : Nat) : List ResultVar → Option (List RV)
  | [] => some []
  | .tmp t :: l => if t < nt then (resT P nt l).map (.t t :: ·) else none
  | .cell t ty :: l => if t < nt then (szOf P ty).bind fun s => (agOf P ty).bind fun ag => (resT P nt l).map (.c t s ag :: ·) else none
def resF (tmps : Array Value) : ResultVar → Sem Value
  | .tmp t => pure (tmps.getD t undef)
  | .cell a t => do loadVar t (← asAddr (tmps.getD a undef))
def retV : List AV → AV
  | [x] => x
  | l => .tup l
/-- what the arguments are behind the call: those lent, and nothing of the others -/
def cellO (E : Env) (k : Nat) : Nat → List AV → List AV
  | _, [] => []
  | j, .own _ _ :: cs => E.f (rt k j) :: cellO E k (j + 1) cs
  | j, c :: cs => primU c :: cellO E k (j + 1) cs
def outsE (E : Env) : Nat → List Bool → List AV → List AV
  | _, _, [] => []
  | k, [], _ :: xs => .undef :: outsE E (k + 1) [] xs
  | k, b :: bs, x :: xs => (if b then (match x with
      | .agg cs => .agg (cellO E k 0 cs)
      | _ => E.f (1000 + k)) else .undef) :: outsE E (k + 1) bs xs

def doneE (rs : List RV) (bs : List Bool) (args : List AV) (ret : AV) (outs : List AV) (E : Env) : Prop :=
  onO (retG E rs) fun q => retV q.1 = ret ∧ outsE q.2 0 bs args = outs ∧ noLkL (ret :: outs) = true

theorem takeB_sound {t : Nat} {E E' : Env} {x : AV} {Fs Xs : Nat → Foot} {FP XP : Foot} {vs : List Value} {xs : List AV} (ht : t < B.n) (P1 : PR B hid w a E Fs Xs FP XP vs xs) (h : takeB E (E.f t) = some (x, E')) :
    ∃ Fs' Xs' FP' XP', PR B hid w a E' Fs' Xs' FP' XP' (vs ++ [a.tmps.getD t undef]) (xs ++ [x]) := by
  have R := P1.rel
  have hrep := R.rep t
  unfold takeB at h
  split at h
  case h_2 => cases h
  rename_i r e p st hq
  split at h
  case h_2 => cases h
  rename_i cs hbx
  obtain ⟨⟨h1, h2, h3, h4⟩, h⟩ := ite_some h
  cases h
  rw [hq] at hrep
  have hlk : lkOf w (vlOf a.tmps hid) E r e [] = some (some (vlOf a.tmps hid r)) := by
    unfold lkOf; rw [if_neg (by simp [curE]; omega), if_pos ⟨by simp [curE, h4], by rw [hbx]; rfl, by rw [hbx]; rfl⟩]; rfl
  have hb : ∃ b, vlOf a.tmps hid r = .pointer (some ⟨b, 0, none⟩) := by
    have hrep := R.rep r
    rw [hbx] at hrep
    generalize vlOf a.tmps hid r = v at hrep
    cases hrep with
    | box _ F1 F2 _ X1 X2 b C ty fr _ _ _ hb hfr h1 h2 hF hX => exact ⟨b, rfl⟩
  obtain ⟨b, hb⟩ := hb
  have hv : vlOf a.tmps hid t = vlOf a.tmps hid r := by
    generalize vlOf a.tmps hid t = v at hrep ⊢
    cases hrep with
    | ref _ _ _ _ _ _ o _ _ _ ho hv _ =>
      rw [hlk] at ho
      cases ho
      obtain ⟨ad, g1, g2⟩ := hv _ rfl
      rw [g2, hb]
      rw [hb] at g1
      simp only [hdr, Option.some.injEq] at g1
      rw [← g1, h1, h3]
      simp [Addr.add]
  obtain ⟨Fs', Xs', FP', XP', P2⟩ := P1.move r
  refine ⟨Fs', Xs', FP', XP', ?_⟩
  rw [hbx, ← hv] at P2
  have : vlOf a.tmps hid t = a.tmps.getD t undef := by unfold vlOf; rw [if_pos (by rw [R.size]; exact ht)]
  rw [this] at P2
  exact P2

theorem retO_sound {t : Nat} {E : Env} {g : AV × Env} {Fs Xs : Nat → Foot} {FP XP : Foot} {vs : List Value} {xs : List AV} (ht : t < B.n) (P1 : PR B hid w a E Fs Xs FP XP vs xs) (h : retO E (.t t) = some g) :
    ∃ Fs' Xs' FP' XP', PR B hid w a g.2 Fs' Xs' FP' XP' (vs ++ [a.tmps.getD t undef]) (xs ++ [g.1]) := by
  simp only [retO] at h
  split at h
  · rename_i q hq
    cases h
    exact takeB_sound ht P1 hq
  · obtain ⟨Fs1, Xs1, FP1, XP1, P2⟩ := gathO_sound (x := .tmp t) (x' := g.1) (E' := g.2) (.tmp t ht) P1 h
    exact ⟨Fs1, Xs1, FP1, XP1, P2⟩

theorem retC_sound {t s : Nat} {ag : Bool} {ty : TypeId} {E : Env} {g : AV × Env} {Fs Xs : Nat → Foot} {FP XP : Foot} {vs : List Value} {xs : List AV} (ht : t < B.n) (hs : szOf P ty = some s) (hag : agOf P ty = some ag)
    (P1 : PR B hid w a E Fs Xs FP XP vs xs) (h : retO E (.c t s ag) = some g) :
    ∃ v Fs' Xs' FP' XP', (resF a.tmps (.cell t ty)).run P w = .ok v w ∧ PR B hid w a g.2 Fs' Xs' FP' XP' (vs ++ [v]) (xs ++ [g.1]) := by
  simp only [retO] at h
  obtain ⟨q, hq, h⟩ := bind_some h
  obtain ⟨q1, q2⟩ := q
  simp only at h
  split at h
  case h_2 => cases h
  rename_i cs0 cs
  obtain ⟨hl, h⟩ := ite_some h
  obtain ⟨x, hx, rfl⟩ := map_some h
  obtain ⟨Fs', Xs', FP', XP', P2⟩ := takeB_sound ht P1 hq
  obtain ⟨A1, A2, Y1, Y2, r1, r2, eA, eY⟩ := RepA.split vs xs (by have := P2.rep.length; simpa using this) P2.rep
  generalize hvt : a.tmps.getD t undef = vt at r2
  cases r2 with
  | box _ F1 F2 _ X1 X2 b C ty' fr _ _ _ hb hfr h1 h2 hF hX =>
    obtain ⟨v, hv1, hv2⟩ := loadVar_run (P := P) (w := w) (ad := ⟨b, 0, none⟩) (us := C.toList) hs hag (by rw [h1.length]; exact hl) (by
      intro k v hk
      have hk' : C[k]? = some v := by simpa using hk
      unfold Addr.add
      by_cases e : k = 0
      · subst e; simp [World.cell?, hb, hk']
      · simp [e, World.cell?, hb, hk']) h1 hx
    refine ⟨v, Fs', Xs', fun c => A1 c + F1 c, fun c => Y1 c + X1 c, ?_, ?_⟩
    · simp only [resF, Sem.run_bind, hvt]
      simp [asAddr, hv1]
    · exact P2.shrink (RepA.append r1 hv2 (fun _ => rfl) (fun _ => rfl)) (fun c => by have := eA c; have := hF c; omega) (fun c => by have := eY c; have := hX c; omega)

theorem retG_sound : ∀ {res : List ResultVar} {rs : List RV} {E E' : Env} {l : List AV} {Fs Xs : Nat → Foot} {FP XP : Foot} {vs : List Value} {xs : List AV}, resT P B.n res = some rs → PR B hid w a E Fs Xs FP XP vs xs → retG E rs = some (l, E') →
    ∃ us Fs' Xs' FP' XP', (res.mapM (resF a.tmps)).run P w = .ok us w ∧ us.length = l.length ∧ PR B hid w a E' Fs' Xs' FP' XP' (vs ++ us) (xs ++ l) := by
  intro res
  induction res with
  | nil =>
    intro rs E E' l Fs Xs FP XP vs xs hr P1 h
    simp only [resT, Option.some.injEq] at hr
    subst hr
    simp only [retG, Option.some.injEq, Prod.mk.injEq] at h
    obtain ⟨rfl, rfl⟩ := h
    exact ⟨[], _, _, _, _, by simp, rfl, by simpa using P1⟩
  | cons r res ih =>
    intro rs E E' l Fs Xs FP XP vs xs hr P1 h
    cases r with
    | tmp t =>
      simp only [resT] at hr
      obtain ⟨ht, hr⟩ := ite_some hr
      obtain ⟨rs', hr', rfl⟩ := map_some hr
      simp only [retG] at h
      obtain ⟨g, hg, h⟩ := bind_some h
      obtain ⟨y, hy, h⟩ := map_some h
      simp only [Prod.mk.injEq] at h
      obtain ⟨rfl, rfl⟩ := h
      obtain ⟨Fs1, Xs1, FP1, XP1, P2⟩ := retO_sound ht P1 hg
      obtain ⟨us, Fs2, Xs2, FP2, XP2, hrun, hlen, P3⟩ := ih (l := y.1) (E' := y.2) hr' P2 hy
      exact ⟨a.tmps.getD t undef :: us, Fs2, Xs2, FP2, XP2, by simp only [List.mapM_cons, Sem.run_bind, resF, Sem.run_pure, Result.andThen_ok, hrun], by simp [hlen], by simpa using P3⟩
    | cell t ty =>
      simp only [resT] at hr
      obtain ⟨ht, hr⟩ := ite_some hr
      obtain ⟨s, hs, hr⟩ := bind_some hr
      obtain ⟨ag, hag, hr⟩ := bind_some hr
      obtain ⟨rs', hr', rfl⟩ := map_some hr
      simp only [retG] at h
      obtain ⟨g, hg, h⟩ := bind_some h
      obtain ⟨y, hy, h⟩ := map_some h
      simp only [Prod.mk.injEq] at h
      obtain ⟨rfl, rfl⟩ := h
      obtain ⟨v, Fs1, Xs1, FP1, XP1, hv, P2⟩ := retC_sound ht hs hag P1 hg
      obtain ⟨us, Fs2, Xs2, FP2, XP2, hrun, hlen, P3⟩ := ih (l := y.1) (E' := y.2) hr' P2 hy
      exact ⟨v :: us, Fs2, Xs2, FP2, XP2, by simp only [List.mapM_cons, Sem.run_bind, hv, Sem.run_pure, Result.andThen_ok, hrun], by simp [hlen], by simpa using P3⟩

theorem cellO_put (E : Env) (k q : Nat) (y : AV) : ∀ (cs : List AV) (j : Nat), (∀ i, j ≤ i → rt k i ≠ q) → cellO (E.put q y) k j cs = cellO E k j cs := by
  intro cs
  induction cs with
  | nil => intro j _; rfl
  | cons c cs ih =>
    intro j h
    cases c with
    | own s es => simp only [cellO]; rw [ih _ fun i hi => h i (by omega), put_f_ne (h j (Nat.le_refl _))]
    | _ => simp only [cellO]; rw [ih _ fun i hi => h i (by omega)]
theorem outsE_put (E : Env) (q : Nat) (y : AV) : ∀ (xs : List AV) (k : Nat) (bs : List Bool), k + xs.length ≤ 32 → (q - 1000) % 32 < k → 1000 ≤ q → outsE (E.put q y) k bs xs = outsE E k bs xs := by
  intro xs
  induction xs with
  | nil => intro k bs _ _ _; cases bs <;> rfl
  | cons x xs ih =>
    intro k bs hk hq h1
    simp only [List.length_cons] at hk
    cases bs with
    | nil => simp only [outsE]; rw [ih _ _ (by omega) (by omega) h1]
    | cons b bs =>
      simp only [outsE]
      rw [ih _ _ (by omega) (by omega) h1]
      congr 1
      cases b with
      | false => rfl
      | true =>
        simp only [if_true]
        cases x with
        | agg cs => simp only; rw [cellO_put]; intro i _ e; subst e; simp only [rt] at hq; omega
        | _ => simp only; rw [put_f_ne (by omega)]

/-- the parts of an argument come out of their roots -/
theorem cells_out (k : Nat) (hk : k < 32) (hn : B.n ≤ 1000) : ∀ (cs : List AV) (j : Nat) (zs : List Value) {E : Env} {Fs Xs : Nat → Foot} {FP XP : Foot} {us : List Value} {xs : List AV}, RepA w lk0 (fun _ => 0) (fun _ => 0) zs (cs.map primU) →
    (∀ i v, zs[i]? = some v → hid (rt k (j + i)) = v) → PR B hid w a E Fs Xs FP XP us xs →
    ∃ E' Fs' Xs' FP' XP', PR B hid w a E' Fs' Xs' FP' XP' (us ++ zs) (xs ++ cellO E k j cs) ∧ ∀ (ys : List AV) (k' : Nat) (bs : List Bool), k' + ys.length ≤ 32 → k < k' → outsE E' k' bs ys = outsE E k' bs ys := by
  intro cs
  induction cs with
  | nil =>
    intro j zs E Fs Xs FP XP us xs h _ P1
    have := h.length
    cases zs with
    | nil => exact ⟨E, Fs, Xs, FP, XP, by simpa [cellO] using P1, fun _ _ _ _ _ => rfl⟩
    | cons z zs => simp at this
  | cons c cs ih =>
    intro j zs E Fs Xs FP XP us xs h hv P1
    have := h.length
    cases zs with
    | nil => simp at this
    | cons z zs =>
      obtain ⟨A1, A2, Y1, Y2, q1, q2, eA, eY⟩ := RepA.uncons h
      have q2' := q2.foot (G := fun _ => 0) (Y := fun _ => 0) (fun b => by have := eA b; omega) (fun b => by have := eY b; omega)
      have hv' : ∀ i v, zs[i]? = some v → hid (rt k (j + 1 + i)) = v := fun i v hi => by
        have := hv (i + 1) v (by simpa using hi)
        rw [show j + 1 + i = j + (i + 1) by omega]; exact this
      have hz : hid (rt k j) = z := hv 0 z rfl
      have copy : cellO E k j (c :: cs) = primU c :: cellO E k (j + 1) cs → ∃ E' Fs' Xs' FP' XP', PR B hid w a E' Fs' Xs' FP' XP' (us ++ z :: zs) (xs ++ cellO E k j (c :: cs)) ∧ ∀ (ys : List AV) (k' : Nat) (bs : List Bool), k' + ys.length ≤ 32 → k < k' → outsE E' k' bs ys = outsE E k' bs ys := by
        intro he
        obtain ⟨XP', P2⟩ := P1.copy (q1.lk0 (lkOf w (vlOf a.tmps hid) E)) (fun b => by have := eA b; first | omega | (dsimp only; omega) | (dsimp only at *; omega)) (fun b hb => by have := eY b; first | omega | (dsimp only; omega) | (dsimp only at *; omega))
        obtain ⟨E', Fs', Xs', FP', XP', P3, ho⟩ := ih (j + 1) zs q2' hv' P2
        rw [he]
        exact ⟨E', Fs', Xs', FP', XP', by simpa using P3, ho⟩
      cases c with
      | own s es =>
        obtain ⟨Fs1, Xs1, FP1, XP1, P2⟩ := P1.move (rt k j)
        rw [vl_hid (by rw [P1.rel.size]; simp only [rt]; omega), hz] at P2
        obtain ⟨E', Fs', Xs', FP', XP', P3, ho⟩ := ih (j + 1) zs q2' hv' P2
        rw [cellO_put _ _ _ _ _ _ (fun i hi e => by simp only [rt] at e; omega)] at P3
        refine ⟨E', Fs', Xs', FP', XP', by simpa [cellO] using P3, fun ys k' bs h1 h2 => ?_⟩
        rw [ho ys k' bs h1 h2, outsE_put _ _ _ _ _ _ h1 (by simp only [rt]; omega) (by simp only [rt]; omega)]
      | _ => exact copy rfl

theorem outs_sound : ∀ (ys : List AV) (k : Nat) (bs : List Bool) {E : Env} {Fs Xs : Nat → Foot} {FP XP : Foot} {us : List Value} {xs : List AV} {vs : List Value}, vs.length = ys.length → k + ys.length ≤ 32 → B.n ≤ 1000 →
    (∀ j v, vs[j]? = some v → hid (1000 + (k + j)) = v) →
    (∀ (j : Nat) (cs : List AV), ys[j]? = some (AV.agg cs) → bs[j]? = some true → ∃ zs : List Value, vs[j]? = some (Value.agg zs.toArray) ∧ RepA w lk0 (fun _ => 0) (fun _ => 0) zs (cs.map primU) ∧ ∀ i v, zs[i]? = some v → hid (rt (k + j) i) = v) →
    PR B hid w a E Fs Xs FP XP us xs → ∃ E' Fs' Xs' FP' XP', PR B hid w a E' Fs' Xs' FP' XP' (us ++ vs) (xs ++ outsE E k bs ys) := by
  intro ys
  induction ys with
  | nil =>
    intro k bs E Fs Xs FP XP us xs vs hv _ _ _ _ P1
    cases vs with
    | nil => exact ⟨E, Fs, Xs, FP, XP, by cases bs <;> simpa [outsE] using P1⟩
    | cons v vs => cases hv
  | cons y ys ih =>
    intro k bs E Fs Xs FP XP us xs vs hv hk hn hh hc P1
    simp only [List.length_cons] at hk
    cases vs with
    | nil => cases hv
    | cons v vs =>
      have hv0 := hh 0 v rfl
      have hnext : ∀ j u, vs[j]? = some u → hid (1000 + (k + 1 + j)) = u := fun j u hj => by
        have := hh (j + 1) u (by simpa using hj)
        rw [show k + 1 + j = k + (j + 1) by omega]; exact this
      have hcn : ∀ bs' : List Bool, (∀ j, bs'[j]? = some true → bs[j + 1]? = some true) → ∀ (j : Nat) (cs : List AV), ys[j]? = some (AV.agg cs) → bs'[j]? = some true → ∃ zs : List Value, vs[j]? = some (Value.agg zs.toArray) ∧ RepA w lk0 (fun _ => 0) (fun _ => 0) zs (cs.map primU) ∧ ∀ i v, zs[i]? = some v → hid (rt (k + 1 + j) i) = v := fun bs' hb j cs hj hbj => by
        obtain ⟨zs, z1, z2, z3⟩ := hc (j + 1) cs (by simpa using hj) (hb j hbj)
        exact ⟨zs, by simpa using z1, z2, fun i v hi => by rw [show k + 1 + j = k + (j + 1) by omega]; exact z3 i v hi⟩
      have undef : ∀ bs' : List Bool, (∀ j, bs'[j]? = some true → bs[j + 1]? = some true) → ∃ E' Fs' Xs' FP' XP', PR B hid w a E' Fs' Xs' FP' XP' (us ++ v :: vs) (xs ++ .undef :: outsE E (k + 1) bs' ys) := by
        intro bs' hb
        have hu : RepA w (lkOf w (vlOf a.tmps hid) E) (fun _ => 0) (fun _ => 0) [v] [.undef] := .undef _ _ _ _ _ RepA.znil
        obtain ⟨XP', P2⟩ := P1.copy hu (fun _ => rfl) (fun b hb => absurd rfl hb)
        obtain ⟨E', Fs', Xs', FP', XP', P3⟩ := ih (k + 1) bs' (vs := vs) (by simpa using hv) (by omega) hn hnext (hcn bs' hb) P2
        exact ⟨E', Fs', Xs', FP', XP', by simpa using P3⟩
      have root : ∀ bs' : List Bool, (∀ j, bs'[j]? = some true → bs[j + 1]? = some true) → ∃ E' Fs' Xs' FP' XP', PR B hid w a E' Fs' Xs' FP' XP' (us ++ v :: vs) (xs ++ E.f (1000 + k) :: outsE E (k + 1) bs' ys) := by
        intro bs' hb
        obtain ⟨Fs1, Xs1, FP1, XP1, P2⟩ := P1.move (1000 + k)
        rw [vl_hid (by rw [P1.rel.size]; omega), show hid (1000 + k) = v from hv0] at P2
        obtain ⟨E', Fs', Xs', FP', XP', P3⟩ := ih (k + 1) bs' (vs := vs) (by simpa using hv) (by omega) hn hnext (hcn bs' hb) P2
        rw [outsE_put _ _ _ _ _ _ (by omega) (by omega) (by omega)] at P3
        exact ⟨E', Fs', Xs', FP', XP', by simpa using P3⟩
      cases bs with
      | nil => exact undef [] (fun j h => by simp at h)
      | cons b bs =>
        cases b with
        | false => exact undef bs (fun j h => by simpa using h)
        | true =>
          cases y with
          | agg cs =>
            obtain ⟨zs, z1, z2, z3⟩ := hc 0 cs rfl rfl
            simp only [List.getElem?_cons_zero, Option.some.injEq] at z1
            subst z1
            obtain ⟨E1, Fs1, Xs1, FP1, XP1, P2, ho⟩ := cells_out (B := B) k (by omega) hn cs 0 zs z2 (fun i v hi => by rw [Nat.zero_add]; exact z3 i v hi) P1
            have hcl : zs.length = (cellO E k 0 cs).length := by
              have := P2.rep.length
              have := P1.rep.length
              simp only [List.length_append] at *
              omega
            have P3 := P2.rerep (RepA.close_agg (us := us) (ys := xs) (zs := zs) (vs := []) (xs := []) P1.rep.length hcl (by simpa using P2.rep))
            obtain ⟨E', Fs', Xs', FP', XP', P4⟩ := ih (k + 1) bs (vs := vs) (by simpa using hv) (by omega) hn hnext (hcn bs fun j h => by simpa using h) P3
            rw [ho _ _ _ (by omega) (by omega)] at P4
            exact ⟨E', Fs', Xs', FP', XP', by simpa [outsE] using P4⟩
          | _ => exact root bs (fun j h => by simpa using h)

end Go.Proofs.YtjmnolhflcjpgaaGreat.Awp

namespace Go.Proofs.YtjmnolhflcjpgaaGreat.Awp
set_option linter.unusedVariables false
set_option linter.unusedSimpArgs false
variable {P : Program}

def retVal : List Value → Value
  | [x] => x
  | l => .tuple l.toArray

theorem run_results {w : World} {fn : Func} {us : List Value} {tmps : Array Value} (hrun : (fn.results.toList.mapM (resF tmps)).run P w = .ok us w) :
    (results fn tmps).run P w = .ok (retVal us) w := by
  have e : results fn tmps = (do let vs ← fn.results.mapM (resF tmps); pure (if h : vs.size = 1 then vs[0] else .tuple vs)) := by
    unfold results
    congr 1
  rw [e]
  simp only [Sem.run_bind, Array.mapM_eq_mapM_toList, Sem.run_map]
  rw [hrun]
  simp only [Result.andThen_ok, Sem.run_pure]
  match us with
  | [] => simp [retVal]
  | [x] => simp [retVal]
  | x :: y :: l => simp [retVal]

theorem ret_rep {B : Base} {hid : Nat → Value} {w : World} {a : Act} {E : Env} {Fs Xs : Nat → Foot} {FP XP : Foot} {us vs : List Value} {xs ys : List AV} (P1 : PR B hid w a E Fs Xs FP XP (us ++ vs) (xs ++ ys)) (hl : us.length = xs.length) :
    PR B hid w a E Fs Xs FP XP (retVal us :: vs) (retV xs :: ys) := by
  match us, xs, hl with
  | [u], [x], _ => exact P1
  | [], [], _ => 
    refine P1.rerep ?_
    have := P1.rep
    simp only [List.nil_append] at this
    exact .tup _ (fun _ => 0) FP _ (fun _ => 0) XP [] [] _ _ RepA.znil this (fun _ => by omega) (fun _ => by omega)
  | u :: u' :: us, x :: x' :: xs, hl =>
    refine P1.rerep ?_
    obtain ⟨A1, A2, Y1, Y2, q1, q2, eA, eY⟩ := RepA.split (u :: u' :: us) (x :: x' :: xs) (by simpa using hl) P1.rep
    exact .tup _ A1 A2 _ Y1 Y2 _ _ _ _ q1 q2 eA eY

theorem cellA_keys (k : Nat) : ∀ (cs : List AV) (j : Nat), ∀ p ∈ cellA k j cs, ∃ i, j ≤ i ∧ p.1 = rt k i := by
  intro cs
  induction cs with
  | nil => intro j p hp; simp [cellA] at hp
  | cons c cs ih =>
    intro j p hp
    cases c with
    | own s es =>
      simp only [cellA, List.mem_cons] at hp
      rcases hp with rfl | hp
      · exact ⟨j, Nat.le_refl _, rfl⟩
      · obtain ⟨i, h1, h2⟩ := ih _ p hp; exact ⟨i, by omega, h2⟩
    | _ => simp only [cellA] at hp; obtain ⟨i, h1, h2⟩ := ih _ p hp; exact ⟨i, by omega, h2⟩

theorem cellA_get (k : Nat) : ∀ (cs : List AV) (j i : Nat) (s : Nat) (es : List (List TV)), cs[i]? = some (.own s es) → getL (cellA k j cs) (rt k (j + i)) = .own s es := by
  intro cs
  induction cs with
  | nil => intro j i s es h; simp at h
  | cons c cs ih =>
    intro j i s es h
    have nx : ∀ i', i = i' + 1 → getL (cellA k (j + 1) cs) (rt k (j + i)) = .own s es := fun i' e => by
      subst e
      have := ih (j + 1) i' s es (by simpa using h)
      rw [show j + (i' + 1) = j + 1 + i' by omega]; exact this
    cases i with
    | zero => simp at h; subst h; simp [cellA, getL]
    | succ i =>
      cases c with
      | own s' es' => simp only [cellA, getL]; rw [if_neg (by simp only [rt]; omega)]; exact nx i rfl
      | _ => simp only [cellA]; exact nx i rfl

theorem getL_app_r {l m : List (Nat × AV)} {q : Nat} (h : noKey l q) : getL (l ++ m) q = getL m q := by
  induction l with
  | nil => rfl
  | cons p l ih =>
    obtain ⟨k, x⟩ := p
    simp only [List.cons_append, getL]
    rw [if_neg (h (k, x) (by simp))]
    exact ih fun p hp => h p (by simp [hp])

theorem initA_keys : ∀ (xs : List AV) (bs : List Bool) (k : Nat), ∀ p ∈ initA k bs xs, ∃ i, i < xs.length ∧ ((bs[i]? = some true ∧ (p.1 = 1000 + (k + i) ∨ ∃ c, p.1 = rt (k + i) c)) ∨ (bs[i]? ≠ some true ∧ p.1 = k + i)) := by
  intro xs
  induction xs with
  | nil => intro bs k p hp; cases bs <;> simp [initA] at hp
  | cons x xs ih =>
    intro bs k p hp
    have tl : ∀ b bs, p ∈ initA (k + 1) bs xs → ∃ i, i < (x :: xs).length ∧ (((b :: bs)[i]? = some true ∧ (p.1 = 1000 + (k + i) ∨ ∃ c, p.1 = rt (k + i) c)) ∨ ((b :: bs)[i]? ≠ some true ∧ p.1 = k + i)) := fun b bs hp => by
      obtain ⟨i, h1, h2⟩ := ih bs (k + 1) p hp
      refine ⟨i + 1, by simp; omega, ?_⟩
      rw [show k + (i + 1) = k + 1 + i by omega]
      simpa using h2
    cases bs with
    | nil =>
      simp only [initA, List.mem_cons] at hp
      rcases hp with rfl | hp
      · exact ⟨0, by simp, .inr ⟨by simp, rfl⟩⟩
      · obtain ⟨i, h1, h2⟩ := ih [] (k + 1) p hp
        refine ⟨i + 1, by simp; omega, ?_⟩
        rcases h2 with ⟨h2, h3⟩ | ⟨h2, h3⟩
        · simp at h2
        · exact .inr ⟨by simp, by omega⟩
    | cons b bs =>
      cases b with
      | false =>
        simp only [initA, Bool.false_eq_true, if_false, List.mem_cons] at hp
        rcases hp with rfl | hp
        · exact ⟨0, by simp, .inr ⟨by simp, rfl⟩⟩
        · exact tl false bs hp
      | true =>
        cases x with
        | agg cs =>
          simp only [initA, if_true, List.mem_append] at hp
          rcases hp with hp | hp
          · obtain ⟨i, _, hi⟩ := cellA_keys k cs 0 p hp
            exact ⟨0, by simp, .inl ⟨rfl, .inr ⟨i, hi⟩⟩⟩
          · exact tl true bs hp
        | _ =>
          simp only [initA, if_true, List.mem_cons] at hp
          rcases hp with rfl | hp
          · exact ⟨0, by simp, .inl ⟨rfl, .inl rfl⟩⟩
          · exact tl true bs hp

theorem rootsOk_agg : ∀ {bs : List Bool} {xs : List AV} {j : Nat} {cs : List AV}, rootsOk bs xs = true → xs[j]? = some (AV.agg cs) → bs[j]? = some true → cs.length ≤ 30 := by
  intro bs
  induction bs with
  | nil => intro xs j cs _ _ h; simp at h
  | cons b bs ih =>
    intro xs j cs h hx hb
    cases xs with
    | nil => simp at hx
    | cons x xs =>
      cases j with
      | zero =>
        simp at hx hb
        subst hx hb
        simp only [rootsOk, Bool.and_eq_true, decide_eq_true_eq] at h
        exact h.1
      | succ j =>
        refine ih (xs := xs) (j := j) ?_ (by simpa using hx) (by simpa using hb)
        cases b with
        | true => simp only [rootsOk, Bool.and_eq_true] at h; exact h.2
        | false => simpa [rootsOk] using h

theorem initA_far {xs : List AV} {bs : List Bool} {k q : Nat} (hk : k + xs.length ≤ 32) (hq : 1000 ≤ q ∧ (q - 1000) % 32 < k) : noKey (initA k bs xs) q := by
  intro p hp e
  obtain ⟨i, h1, h2⟩ := initA_keys xs bs k p hp
  rcases h2 with ⟨_, h3 | ⟨c, h3⟩⟩ | ⟨_, h3⟩
  · omega
  · simp only [rt] at h3; omega
  · omega

theorem initA_get : ∀ (xs : List AV) (bs : List Bool) (k j : Nat) (x : AV), xs[j]? = some x → bs[j]? = some true → k + xs.length ≤ 32 →
    (x.isRoot = true → getL (initA k bs xs) (1000 + (k + j)) = x) ∧ (∀ cs, x = .agg cs → ∀ i s es, cs[i]? = some (.own s es) → getL (initA k bs xs) (rt (k + j) i) = .own s es) ∧ noKey (initA k bs xs) (k + j) := by
  intro xs
  induction xs with
  | nil => intro bs k j x h; simp at h
  | cons y xs ih =>
    intro bs k j x h hb hk
    have hjl : j < (y :: xs).length := (List.getElem?_eq_some_iff.1 h).1
    have hno : noKey (initA k bs (y :: xs)) (k + j) := by
      intro p hp e
      obtain ⟨i, h1, h2⟩ := initA_keys (y :: xs) bs k p hp
      rcases h2 with ⟨h2, h3 | ⟨c, h3⟩⟩ | ⟨h2, h3⟩
      · omega
      · simp only [rt] at h3; omega
      · have : i = j := by omega
        subst this
        exact h2 hb
    simp only [List.length_cons] at hk hjl
    cases bs with
    | nil => simp at hb
    | cons b bs =>
      cases j with
      | zero =>
        simp at h hb
        subst h hb
        refine ⟨fun hr => ?_, fun cs hcs i s es hi => ?_, hno⟩
        · cases y <;> first | (simp [initA, getL]; done) | cases hr
        · subst hcs
          simp only [initA, if_true, Nat.add_zero]
          rw [getL_app (initA_far (by omega) (by simp only [rt]; omega))]
          have := cellA_get k cs 0 i s es hi
          rwa [Nat.zero_add] at this
      | succ j =>
        obtain ⟨k1, k2, _⟩ := ih bs (k + 1) j x (by simpa using h) (by simpa using hb) (by omega)
        rw [show k + 1 + j = k + (j + 1) by omega] at k1 k2
        have skip : ∀ q, 1000 ≤ q → (q - 1000) % 32 = k + (j + 1) → getL (initA k (b :: bs) (y :: xs)) q = getL (initA (k + 1) bs xs) q := by
          intro q h1 h2
          cases b with
          | false => simp only [initA]; exact getL_app_r (l := [(k, y)]) (by intro p hp; simp at hp; subst hp; (try dsimp only); omega)
          | true =>
            cases y with
            | agg cs =>
              simp only [initA, if_true]
              exact getL_app_r (by intro p hp; obtain ⟨i, _, hi⟩ := cellA_keys k cs 0 p hp; rw [hi]; simp only [rt]; omega)
            | _ => simp only [initA, if_true]; exact getL_app_r (l := [(1000 + k, _)]) (by intro p hp; simp at hp; subst hp; (try dsimp only); omega)
        refine ⟨fun hr => ?_, fun cs hcs i s es hi => ?_, hno⟩
        · rw [skip _ (by omega) (by omega)]; exact k1 hr
        · rw [skip _ (by simp only [rt]; omega) (by simp only [rt]; omega)]; exact k2 cs hcs i s es hi

/-- A FUNCTION's CONTRACT out of its compiled code -/
theorem spec_of_awp {f : Nat} {fn : Func} {c : Code} {cmd : Cmd} {args outs : List AV} {ret : AV} {bs : List Bool} {ks : Nat} {rs : List RV} (hf : P.funcs[f]? = some fn) (hb : fn.body = some c)
    (hnm : (fn.name == "runtime.NumGoroutine") = false) (hn : fn.ntmps ≤ 1000) (hlen : args.length ≤ fn.ntmps ∧ args.length ≤ 32) (hres : resT P fn.ntmps fn.results.toList = some rs) (hol : outs.length = args.length)
    (hroots : rootsOk bs args = true) (hD : P.follows .mixedOrders = true) (hc : cCode P fn.ntmps c = some cmd)
    (h : awp P ks cmd (fun x E' => (x = .r ∨ x = .n) ∧ doneE rs bs args ret outs E') (mkE (initA 0 bs args ++ initB 0 bs args) [])) : Spec P f args ret outs := by
  refine ⟨⟨fn, hf, by rw [hb]; rfl, hnm⟩, hol, ?_⟩
  intro w vs F X hrep hF1 hdis hXlt
  have hvl := hrep.length
  let B : Base := ⟨w, F, X, fn.ntmps⟩
  let hv : Nat → Value := hidV vs
  let a : Act := { tmps := vs.toArray ++ Array.replicate (fn.ntmps - vs.toArray.size) undef, defers := [] }
  have hsize : a.tmps.size = B.n := by simp [a, B]; omega
  have hvl1 : ∀ j v, vs[j]? = some v → vlOf a.tmps hv (0 + j) = v ∧ vlOf a.tmps hv (1000 + (0 + j)) = v := by
    intro j v hj
    have hjl := (List.getElem?_eq_some_iff.1 hj).1
    rw [Nat.zero_add]
    refine ⟨?_, ?_⟩
    · unfold vlOf
      rw [if_pos (by rw [hsize]; show j < fn.ntmps; omega)]
      simp [a, Array.getElem?_append, hjl, hj]
      rw [List.getElem?_eq_getElem hjl] at hj
      simpa using hj
    · rw [vl_hid (by rw [hsize]; show fn.ntmps ≤ _; omega)]
      exact hidV_arg (by omega) hj
  have hvl2 : ∀ j us i v, vs[j]? = some (.agg (us : List Value).toArray) → us[i]? = some v → vlOf a.tmps hv (rt (0 + j) i) = v ∧ hv (rt (0 + j) i) = v := by
    intro j us i v hj hi
    have hjl := (List.getElem?_eq_some_iff.1 hj).1
    have := hidV_cell (vs := vs) (k := j) (by omega) hj hi
    rw [Nat.zero_add]
    exact ⟨by rw [vl_hid (by rw [hsize]; show fn.ntmps ≤ _; simp only [rt]; omega)]; exact this, this⟩
  have hprim : ∀ (j : Nat) (cs : List AV) (w' : World), args[j]? = some (AV.agg cs) → ∃ zs : List Value, vs[j]? = some (Value.agg zs.toArray) ∧ RepA w' lk0 (fun _ => 0) (fun _ => 0) zs (cs.map primU) := by
    intro j cs w' hj
    obtain ⟨v, F1, F2, X1, X2, hv1, h1, _⟩ := RepA.at hrep hj
    cases h1 with
    | agg _ A1 A2 _ Y1 Y2 zs _ _ _ g1 _ _ _ => exact ⟨zs, hv1, g1.prims⟩
  have R0 : Rel B hv w a (mkE [] []) (fun _ _ => 0) (fun _ _ => 0) :=
    ⟨hsize, rfl, fun t => .undef _ _ _ _ _ RepA.znil, fun _ _ => by omega, fun _ _ _ _ => .inl rfl, fun _ _ _ => .inl rfl, Grows.refl _, fun _ _ _ => rfl, fun _ _ h => absurd rfl h, fun _ _ h => absurd rfl h, fun _ _ h => absurd rfl h⟩
  have P0 : PR B hv w a (mkE [] []) (fun _ _ => 0) (fun _ _ => 0) F X vs args :=
    ⟨R0, hrep.lk0 _, hF1, fun _ _ => .inr rfl, fun _ _ => .inr rfl, fun _ _ => .inr rfl, hdis, fun b hb => .inl hb, fun b hb => ⟨.inl hb, hXlt b hb⟩⟩
  obtain ⟨Fs1, Xs1, FP1, XP1, P1⟩ := initA_place (B := B) args bs 0 vs [] (by omega) (by show 0 + args.length ≤ fn.ntmps; omega) hn (by simp) hvl1 (fun j us i v hj hi => (hvl2 j us i v hj hi).1) P0
  obtain ⟨Fs2, Xs2, R2⟩ := initB_place (B := B) args bs 0 (initA 0 bs args) (by omega) (by show 0 + args.length ≤ fn.ntmps; omega) hn (by
    intro j x hj hbj
    obtain ⟨k1, k2, k3⟩ := initA_get args bs 0 j x hj hbj (by omega)
    have hjl : j < vs.length := by have := (List.getElem?_eq_some_iff.1 hj).1; omega
    obtain ⟨v, hv'⟩ : ∃ v, vs[j]? = some v := ⟨_, List.getElem?_eq_getElem hjl⟩
    obtain ⟨e1, e2⟩ := hvl1 j v hv'
    refine ⟨fun hr => ⟨k1 hr, by rw [e1, e2]⟩, fun cs hcs => ?_, k3⟩
    subst hcs
    obtain ⟨zs, z1, z2⟩ := hprim j cs w hj
    rw [hv'] at z1; cases z1
    exact ⟨zs, e1, z2, k2 cs rfl, fun i v hi => (hvl2 j zs i v hv' hi).1⟩) hroots (by simpa using P1.rel)
  have G : Good B hv w a (mkE (initA 0 bs args ++ initB 0 bs args) []) := ⟨hv, Fs2, Xs2, R2, fun _ _ => rfl⟩
  refine calls_of_wp hf hb (awp_sound (B := B) hn hD ks c cmd _ _ _ a w hc ?_ h G)
  rintro x E' a' w' ⟨hx, hdone⟩ G'
  obtain ⟨⟨l, E2⟩, hq, hret, houts, hlk⟩ := hdone
  obtain ⟨hid, Fs3, Xs3, R3, hh⟩ := G'
  obtain ⟨us, Fs4, Xs4, FP4, XP4, hrun, hul, P4⟩ := retG_sound (l := l) (E' := E2) hres (PR.nil R3) hq
  simp only [List.nil_append] at P4
  obtain ⟨E5, Fs5, Xs5, FP5, XP5, P5⟩ := outs_sound args 0 bs (vs := vs) hvl (by omega) hn (by
    intro j v hj
    have hjl := (List.getElem?_eq_some_iff.1 hj).1
    rw [hh _ (by omega), Nat.zero_add]
    exact hidV_arg (by omega) hj) (by
    intro j cs hj hbj
    obtain ⟨zs, z1, z2⟩ := hprim j cs w' hj
    refine ⟨zs, z1, z2, fun i v hi => ?_⟩
    have hjl := (List.getElem?_eq_some_iff.1 z1).1
    have hil : i < 30 := by
      have hil := (List.getElem?_eq_some_iff.1 hi).1
      have hzl : zs.length = cs.length := by have := z2.length; simpa using this
      have := rootsOk_agg hroots hj hbj
      omega
    rw [hh _ (by simp only [rt]; omega)]
    exact (hvl2 j zs i v z1 hi).2) P4
  have P6 := ret_rep P5 hul
  simp only at hret houts
  rw [hret, houts] at P6
  have fin : a'.defers = [] ∧ ∃ v, (results fn a'.tmps).run P w' = .ok v w' ∧ ∃ v_1 F' X', Ending.returned v = .returned v_1 ∧ RepA w' lk0 F' X' (v_1 :: vs) (ret :: outs) ∧ (∀ b, F' b ≤ 1) ∧ (∀ b, F' b = 0 ∨ X' b = 0) ∧
      Grows w w' ∧ (∀ b, b < w.heap.size → F b = 0 → w'.heap[b]? = w.heap[b]?) ∧ (∀ b, F' b ≠ 0 → F b ≠ 0 ∨ w.heap.size ≤ b) ∧ (∀ b, X' b ≠ 0 → (X b ≠ 0 ∨ F b ≠ 0 ∨ w.heap.size ≤ b) ∧ b < w'.heap.size) :=
    ⟨R3.dfr, _, run_results hrun, _, FP5, XP5, rfl, P6.rep.noLk lk0 hlk, P6.one, P6.dx3, P6.rel.grow, P6.rel.frame, P6.org, P6.orgx⟩
  rcases hx with rfl | rfl
  · exact fin
  · exact fin

end Go.Proofs.YtjmnolhflcjpgaaGreat.Awp

namespace Go.Proofs.YtjmnolhflcjpgaaGreat.Awp
set_option linter.unusedVariables false
set_option linter.unusedSimpArgs false

/-! ### a function's compiled code -/
def compile (P : Program) (f : Nat) : Option (Nat × List RV × Cmd) :=
  (P.funcs[f]?).bind fun fn => fn.body.bind fun c => if (fn.name == "runtime.NumGoroutine") = false ∧ fn.ntmps ≤ 1000 then
    (resT P fn.ntmps fn.results.toList).bind fun rs => (cCode P fn.ntmps c).map fun cmd => (fn.ntmps, rs, cmd) else none

variable {P : Program}

/-- what the walk shows -/
def Goal (P : Program) (nt : Nat) (rs : List RV) (ks : Nat) (bs : List Bool) (cmd : Cmd) (args : List AV) (ret : AV) (outs : List AV) : Prop :=
  awp P ks cmd (fun x E' => (x = .r ∨ x = .n) ∧ doneE rs bs args ret outs E') (mkE (initA 0 bs args ++ initB 0 bs args) [])

theorem spec_of {f nt : Nat} {rs : List RV} {cmd : Cmd} (hm : P.follows .mixedOrders = true) (hc : compile P f = some (nt, rs, cmd)) (ks : Nat) (bs : List Bool) {args outs : List AV} {ret : AV}
    (hlen : args.length ≤ nt ∧ args.length ≤ 32) (hol : outs.length = args.length) (hroots : rootsOk bs args = true) (h : Goal P nt rs ks bs cmd args ret outs) : Spec P f args ret outs := by
  unfold compile at hc
  obtain ⟨fn, hf, hc⟩ := bind_some hc
  obtain ⟨c, hb, hc⟩ := bind_some hc
  obtain ⟨⟨h1, h2⟩, hc⟩ := ite_some hc
  obtain ⟨rs', hr, hc⟩ := bind_some hc
  obtain ⟨cmd', hcmd, hc⟩ := map_some hc
  cases hc
  exact spec_of_awp hf hb h1 h2 hlen hr hol hroots hm hcmd h

/-! ### determinism: one end -/
theorem stepA_run {i : I} {K : Env → Prop} {E : Env} (h : stepA P i K E) : ∃ E', K E' ∧ ∀ K' : Env → Prop, K' E' → stepA P i K' E := by
  have sp : ∀ {d f xs ms} {E : Env}, callM P d f xs ms K E → ∃ E', K E' ∧ ∀ K' : Env → Prop, K' E' → callM P d f xs ms K' E := by
    rintro d f xs ms E ⟨pr, hp, ret, outs, hS, hx, E1, hb, hK⟩
    exact ⟨_, hK, fun K' h' => ⟨pr, hp, ret, outs, hS, hx, E1, hb, h'⟩⟩
  cases i with
  | call d f xs =>
    obtain ⟨W, ms, h⟩ := h
    obtain ⟨E', h1, h2⟩ := sp h
    exact ⟨E', h1, fun K' h' => ⟨W, ms, h2 K' h'⟩⟩
  | callv d x xs =>
    simp only [stepA] at h ⊢
    split at h
    · rename_i f caps hz
      obtain ⟨ms, h1, h2, h3⟩ := h
      obtain ⟨E', h4, h5⟩ := sp h3
      refine ⟨E', h4, fun K' h' => ?_⟩
      exact ⟨ms, h1, h2, h5 K' h'⟩
    · exact h.elim
  | _ => obtain ⟨E', h1, h2⟩ := h; exact ⟨E', h2, fun K' h' => ⟨E', h1, h'⟩⟩

theorem stepD_run {i : I} {K : List M → Env → Prop} {E : Env} (h : stepD P i K E) : ∃ ms E', K ms E' ∧ ∀ K' : List M → Env → Prop, K' ms E' → stepD P i K' E := by
  have sp : ∀ {d f xs ms} {K : Env → Prop}, callM P d f xs ms K E → ∃ E', K E' ∧ ∀ K' : Env → Prop, K' E' → callM P d f xs ms K' E := by
    rintro d f xs ms K ⟨pr, hp, ret, outs, hS, hx, E1, hb, hK⟩
    exact ⟨_, hK, fun K' h' => ⟨pr, hp, ret, outs, hS, hx, E1, hb, h'⟩⟩
  cases i with
  | call d f xs =>
    obtain ⟨ms, h⟩ := h
    obtain ⟨E', h1, h2⟩ := sp h
    exact ⟨ms, E', h1, fun K' h' => ⟨ms, h2 _ h'⟩⟩
  | callv d x xs =>
    simp only [stepD] at h ⊢
    split at h
    · rename_i f caps hz
      obtain ⟨ms, h1, h2, h3⟩ := h
      obtain ⟨E', h4, h5⟩ := sp h3
      refine ⟨ms, E', h4, fun K' h' => ?_⟩
      exact ⟨ms, h1, h2, h5 _ h'⟩
    · exact h.elim
  | _ => obtain ⟨E', h1, h2⟩ := h; exact ⟨[], E', h2, fun K' h' => ⟨E', h1, h'⟩⟩

theorem regA_run : ∀ {is : List GI} {K : Env → Prop} {E : Env}, regA P is K E → ∃ E', K E' ∧ ∀ K' : Env → Prop, K' E' → regA P is K' E := by
  intro is
  induction is with
  | nil => intro K E h; exact ⟨E, h, fun K' h' => h'⟩
  | cons g l ih =>
    intro K E h
    simp only [regA] at h ⊢
    cases hg : g.g with
    | none =>
      rw [hg] at h
      obtain ⟨E1, h1, h2⟩ := stepA_run h
      obtain ⟨E', h3, h4⟩ := ih h1
      exact ⟨E', h3, fun K' h' => h2 _ (h4 K' h')⟩
    | some q =>
      obtain ⟨t, b⟩ := q
      rw [hg] at h
      rcases h with ⟨c, hc, k1, k2⟩ | ⟨hc, k2⟩
      · by_cases e : c = b
        · obtain ⟨E1, h1, h2⟩ := stepA_run (k1 e)
          obtain ⟨E', h3, h4⟩ := ih h1
          exact ⟨E', h3, fun K' h' => .inl ⟨c, hc, fun _ => h2 _ (h4 K' h'), fun n => absurd e n⟩⟩
        · obtain ⟨E', h3, h4⟩ := ih (k2 e)
          exact ⟨E', h3, fun K' h' => .inl ⟨c, hc, fun n => absurd n e, fun _ => h4 K' h'⟩⟩
      · obtain ⟨E', h3, h4⟩ := ih k2
        exact ⟨E', h3, fun K' h' => .inr ⟨hc, h4 K' h'⟩⟩

theorem drawA_det {bs : List Nat} : ∀ {is : List GI} {acc : List Rcd} {K : Env → Prop} {E : Env}, drawA P bs acc is K E → ∃ E', K E' ∧ ∀ K' : Env → Prop, K' E' → drawA P bs acc is K' E := by
  intro is
  induction is with
  | nil => intro acc K E h; exact ⟨E, h.2, fun K' h' => ⟨h.1, h'⟩⟩
  | cons g l ih =>
    intro acc K E h
    simp only [drawA] at h ⊢
    cases hg : g.g with
    | none =>
      rw [hg] at h
      obtain ⟨ms, E1, h1, h2⟩ := stepD_run h
      obtain ⟨E', h3, h4⟩ := ih h1
      exact ⟨E', h3, fun K' h' => h2 _ (h4 K' h')⟩
    | some q =>
      obtain ⟨t, b⟩ := q
      rw [hg] at h
      rcases h with ⟨c, hc, k1, k2⟩ | ⟨hc, k2⟩
      · by_cases e : c = b
        · obtain ⟨ms, E1, h1, h2⟩ := stepD_run (k1 e)
          obtain ⟨E', h3, h4⟩ := ih h1
          exact ⟨E', h3, fun K' h' => .inl ⟨c, hc, fun _ => h2 _ (h4 K' h'), fun n => absurd e n⟩⟩
        · obtain ⟨E', h3, h4⟩ := ih (k2 e)
          exact ⟨E', h3, fun K' h' => .inl ⟨c, hc, fun n => absurd n e, fun _ => h4 K' h'⟩⟩
      · obtain ⟨E', h3, h4⟩ := ih k2
        exact ⟨E', h3, fun K' h' => .inr ⟨hc, h4 K' h'⟩⟩

/-- ONE END: what a walk shows of its end, it shows at one end -/
theorem awp_run {ks : Nat} : ∀ (cmd : Cmd) {Q : Ex → Env → Prop} {E : Env}, awp P ks cmd Q E → ∃ x E', Q x E' ∧ ∀ Q' : Ex → Env → Prop, Q' x E' → awp P ks cmd Q' E := by
  intro cmd
  induction cmd with
  | skip => intro Q E h; exact ⟨.n, E, h, fun Q' h' => h'⟩
  | reg is ord =>
    intro Q E h
    cases ord with
    | none => obtain ⟨U, h⟩ := h; obtain ⟨E', h1, h2⟩ := regA_run h; exact ⟨.n, _, h1, fun Q' h' => ⟨U, h2 (Q' .n) h'⟩⟩
    | some bs => obtain ⟨U, h⟩ := h; obtain ⟨E', h1, h2⟩ := drawA_det h; exact ⟨.n, _, h1, fun Q' h' => ⟨U, h2 (Q' .n) h'⟩⟩
  | seq a b iha ihb =>
    intro Q E h
    obtain ⟨x, E1, h1, h2⟩ := iha h
    cases x with
    | n =>
      obtain ⟨y, E', h3, h4⟩ := ihb h1
      exact ⟨y, E', h3, fun Q' h' => h2 _ (h4 Q' h')⟩
    | r => exact ⟨.r, E1, h1, fun Q' h' => h2 _ h'⟩
    | e id => exact ⟨.e id, E1, h1, fun Q' h' => h2 _ h'⟩
  | cond x a b iha ihb =>
    intro Q E h
    obtain ⟨t, ht, h1, h2⟩ := h
    cases t with
    | true =>
      obtain ⟨y, E', h3, h4⟩ := iha (h1 rfl)
      exact ⟨y, E', h3, fun Q' h' => ⟨true, ht, fun _ => h4 Q' h', (fun n => by cases n)⟩⟩
    | false =>
      obtain ⟨y, E', h3, h4⟩ := ihb (h2 rfl)
      exact ⟨y, E', h3, fun Q' h' => ⟨false, ht, (fun n => by cases n), fun _ => h4 Q' h'⟩⟩
  | blk id c ih =>
    intro Q E h
    obtain ⟨x, E', h1, h2⟩ := ih h
    by_cases e : x = .e id
    · exact ⟨.n, E', by simpa [e] using h1, fun Q' h' => h2 _ (by simpa [e] using h')⟩
    · exact ⟨x, E', by simpa [e] using h1, fun Q' h' => h2 _ (by simpa [e] using h')⟩
  | loop c ih =>
    intro Q E h
    obtain ⟨D, J, ⟨n, hJ⟩, hround⟩ := h
    have key : ∀ (n : Nat) (E : Env), J n E → ∃ x E', Q x E' ∧ ∀ Q' : Ex → Env → Prop, Q' x E' →
        ∃ J' : Nat → Env → Prop, (∃ k, J' k E) ∧ ∀ n E, J' n E → awp P ks c (fun x E' => match x with | .n => ∃ m, m < n ∧ J' m (hdL ks D (E'.norm ks)) | x => Q' x E') E := by
      intro n
      induction n using Nat.strongRecOn with
      | _ n ihn =>
        intro E hJ
        obtain ⟨x, E1, h1, h2⟩ := ih (hround n E hJ)
        cases x with
        | n =>
          obtain ⟨m, hm, hJm⟩ := h1
          obtain ⟨y, E', h3, h4⟩ := ihn m hm _ hJm
          refine ⟨y, E', h3, fun Q' h' => ?_⟩
          obtain ⟨J', ⟨k, hk⟩, hr'⟩ := h4 Q' h'
          refine ⟨fun q F => J' q F ∨ (q = k + 1 ∧ F = E), ⟨k + 1, .inr ⟨rfl, rfl⟩⟩, ?_⟩
          rintro q F (hq | ⟨rfl, rfl⟩)
          · obtain ⟨z, F1, g1, g2⟩ := ih (hr' q F hq)
            refine g2 _ ?_
            cases z with
            | n => obtain ⟨m', a1, a2⟩ := g1; exact ⟨m', a1, .inl a2⟩
            | r => exact g1
            | e id => exact g1
          · exact h2 _ ⟨k, by omega, .inl hk⟩
        | r =>
          refine ⟨.r, E1, h1, fun Q' h' => ⟨fun q F => q = 0 ∧ F = E, ⟨0, rfl, rfl⟩, ?_⟩⟩
          rintro q F ⟨rfl, rfl⟩
          exact h2 _ h'
        | e id =>
          refine ⟨.e id, E1, h1, fun Q' h' => ⟨fun q F => q = 0 ∧ F = E, ⟨0, rfl, rfl⟩, ?_⟩⟩
          rintro q F ⟨rfl, rfl⟩
          exact h2 _ h'
    obtain ⟨x, E', h1, h2⟩ := key n _ hJ
    exact ⟨x, E', h1, fun Q' h' => ⟨D, h2 Q' h'⟩⟩
  | exit id => intro Q E h; exact ⟨.e id, E, h, fun Q' h' => h'⟩
  | ret => intro Q E h; exact ⟨.r, E, h, fun Q' h' => h'⟩

/-- results that are only described -/
def GoalEx (P : Program) (nt : Nat) (rs : List RV) (ks : Nat) (bs : List Bool) (cmd : Cmd) (args : List AV) (R : AV → List AV → Prop) : Prop :=
  awp P ks cmd (fun x E' => (x = .r ∨ x = .n) ∧ onO (retG E' rs) fun q => R (retV q.1) (outsE q.2 0 bs args) ∧ noLkL (retV q.1 :: outsE q.2 0 bs args) = true) (mkE (initA 0 bs args ++ initB 0 bs args) [])

theorem outsE_len (E : Env) : ∀ (xs : List AV) (k : Nat) (bs : List Bool), (outsE E k bs xs).length = xs.length := by
  intro xs
  induction xs with
  | nil => intro k bs; cases bs <;> rfl
  | cons x xs ih => intro k bs; cases bs <;> simp [outsE, ih]

theorem spec_ex {f nt : Nat} {rs : List RV} {cmd : Cmd} (hm : P.follows .mixedOrders = true) (hc : compile P f = some (nt, rs, cmd)) (ks : Nat) (bs : List Bool) {args : List AV} {R : AV → List AV → Prop}
    (hlen : args.length ≤ nt ∧ args.length ≤ 32) (hroots : rootsOk bs args = true) (h : GoalEx P nt rs ks bs cmd args R) : ∃ ret outs, R ret outs ∧ Spec P f args ret outs := by
  obtain ⟨x, E', ⟨hx, q, hq, hR, hlk⟩, h2⟩ := awp_run cmd h
  exact ⟨retV q.1, outsE q.2 0 bs args, hR, spec_of hm hc ks bs hlen (outsE_len _ _ _ _) hroots (h2 _ ⟨hx, q, hq, rfl, rfl, hlk⟩)⟩

end Go.Proofs.YtjmnolhflcjpgaaGreat.Awp

namespace Go.Proofs.YtjmnolhflcjpgaaGreat.Awp
set_option linter.unusedVariables false
set_option linter.unusedSimpArgs false

/-! ### the walk, made for simp: calls' modes by a table, branches that wait -/
abbrev Modes := List (Nat × List M × List (Nat × Nat))
def mdOf : Modes → Nat → List O → List M
  | [], _, xs => xs.map fun _ => M.b
  | (g, ms, _) :: l, f, xs => if g = f then ms else mdOf l f xs
/-- what is forgotten ahead of a call -/
def blOf : Modes → Nat → List (Nat × Nat)
  | [], _ => []
  | (g, _, bl) :: l, f => if g = f then bl else blOf l f

/-- the pointers that a region's head lays down -/
def ubOf (md : Modes) : List Nat := (blOf md 999999).map Prod.fst

variable {P : Program} {md : Modes} {ks : Nat}

def callvG (P : Program) (md : Modes) (d : Option Nat) (xs : List O) (K : List M → Env → Prop) (E : Env) : AV → Prop
  | .fn f caps => ownsL caps = false ∧ (mdOf md f xs).length = xs.length ∧ callM P d f (xs ++ caps.map .c) (mdOf md f xs ++ caps.map fun _ => M.b) (K (mdOf md f xs)) E
  | _ => False

def goI0 (P : Program) (md : Modes) (i : I) (K : List M → Env → Prop) (E : Env) : Prop :=
  match i with
  | .call d f xs => callM P d f xs (mdOf md f xs) (K (mdOf md f xs)) E
  | .callv d x xs => callvG P md d xs K E (val E x)
  | i => onO (ev E i) (K [])

def goI (P : Program) (md : Modes) (i : I) (K : List M → Env → Prop) (E : Env) : Prop :=
  match i with
  | .call d f xs => callM P d f xs (mdOf md f xs) (K (mdOf md f xs)) (blankE E (blOf md f))
  | .callv d x xs => callvG P md d xs K E (val E x)
  | i => onO (ev E i) (K [])

def regB (P : Program) (md : Modes) : List GI → (Env → Prop) → Env → Prop
  | [], K, E => K E
  | g :: l, K, E => match g.g with
    | none => goI P md g.i (fun _ => regB P md l K) E
    | some (t, b) => match E.f t with
      | .bool c => (c = b → goI P md g.i (fun _ => regB P md l K) E) ∧ (c ≠ b → regB P md l K (putO E g.d (.tup [])))
      | .tup [] => regB P md l K (putO E g.d (.tup []))
      | _ => False

def drawB (P : Program) (md : Modes) (bs : List Nat) : List Rcd → List GI → (Env → Prop) → Env → Prop
  | acc, [], K, E => okRec bs acc = true ∧ K E
  | acc, g :: l, K, E => match g.g with
    | none => goI0 P md g.i (fun ms E' => drawB P md bs (acc ++ [(touchI E g.i, wrI E ms g.i)]) l K E') E
    | some (t, b) => match E.f t with
      | .bool c => (c = b → goI0 P md g.i (fun ms E' => drawB P md bs (acc ++ [(t :: touchI E g.i, wrI E ms g.i)]) l K E') E) ∧
        (c ≠ b → drawB P md bs (acc ++ [(t :: g.d.toList, g.d.toList)]) l K (putO E g.d (.tup [])))
      | .tup [] => drawB P md bs (acc ++ [(t :: g.d.toList, g.d.toList)]) l K (putO E g.d (.tup []))
      | _ => False

def wpB (P : Program) (md : Modes) (ks : Nat) : Cmd → (Ex → Env → Prop) → Env → Prop
  | .skip, Q, E => Q .n E
  | .reg is none, Q, E => regB P md is (Q .n) (rgE ks (ubOf md) (E.norm ks))
  | .reg is (some bs), Q, E => drawB P md bs [] is (Q .n) (rgE ks (ubOf md) (E.norm ks))
  | .seq a b, Q, E => wpB P md ks a (fun x E' => match x with | .n => wpB P md ks b Q E' | x => Q x E') E
  | .cond x a b, Q, E => match val E x with
    | .bool t => (t = true → wpB P md ks a Q E) ∧ (t = false → wpB P md ks b Q E)
    | _ => False
  | .blk id c, Q, E => wpB P md ks c (fun x E' => if x = .e id then Q .n E' else Q x E') E
  | .loop c, Q, E => ∃ (D : List Nat) (J : Nat → Env → Prop), (∃ n, J n (hdL ks D (E.norm ks))) ∧ ∀ n E, J n E → wpB P md ks c (fun x E' => match x with | .n => ∃ m, m < n ∧ J m (hdL ks D (E'.norm ks)) | x => Q x E') E
  | .exit id, Q, E => Q (.e id) E
  | .ret, Q, E => Q .r E

theorem goI_A {i : I} {K : List M → Env → Prop} {K' : Env → Prop} {E : Env} (h : goI P md i K E) (hK : ∀ ms E, K ms E → K' E) : stepA P i K' E := by
  have sp : ∀ {d f xs ms} {K : Env → Prop} {E : Env}, (∀ E, K E → K' E) → callM P d f xs ms K E → callM P d f xs ms K' E := by
    rintro d f xs ms K E hk ⟨pr, hp, ret, outs, hS, hx, E1, hb, hK⟩
    exact ⟨pr, hp, ret, outs, hS, hx, E1, hb, hk _ hK⟩
  cases i with
  | call d f xs => exact ⟨_, _, sp (hK _) h⟩
  | callv d x xs =>
    simp only [goI] at h
    simp only [stepA]
    cases hv : val E x <;> rw [hv] at h <;> first
      | exact h.elim
      | (obtain ⟨h1, h2, h3⟩ := h; exact ⟨_, h2, h1, sp (hK _) h3⟩)
  | _ => obtain ⟨E', h1, h2⟩ := h; exact ⟨E', h1, hK _ _ h2⟩

theorem goI_D {i : I} {K K' : List M → Env → Prop} {E : Env} (h : goI0 P md i K E) (hK : ∀ ms E, K ms E → K' ms E) : stepD P i K' E := by
  have sp : ∀ {d f xs ms} {K K' : Env → Prop}, (∀ E, K E → K' E) → callM P d f xs ms K E → callM P d f xs ms K' E := by
    rintro d f xs ms K K' hk ⟨pr, hp, ret, outs, hS, hx, E1, hb, hK⟩
    exact ⟨pr, hp, ret, outs, hS, hx, E1, hb, hk _ hK⟩
  cases i with
  | call d f xs => exact ⟨_, sp (hK _) h⟩
  | callv d x xs =>
    simp only [goI0] at h
    simp only [stepD]
    cases hv : val E x <;> rw [hv] at h <;> first
      | exact h.elim
      | (obtain ⟨h1, h2, h3⟩ := h; exact ⟨_, h2, h1, sp (hK _) h3⟩)
  | _ => obtain ⟨E', h1, h2⟩ := h; exact ⟨E', h1, hK _ _ h2⟩

theorem regB_A : ∀ (is : List GI) {K : Env → Prop} {E : Env}, regB P md is K E → regA P is K E := by
  intro is
  induction is with
  | nil => intro K E h; exact h
  | cons g l ih =>
    intro K E h
    simp only [regB] at h
    simp only [regA]
    cases hg : g.g with
    | none => rw [hg] at h; exact goI_A h fun _ _ h => ih h
    | some q =>
      obtain ⟨t, b⟩ := q
      rw [hg] at h
      simp only at h
      split at h
      · rename_i c hc
        exact .inl ⟨c, hc, fun e => goI_A (h.1 e) fun _ _ h => ih h, fun e => ih (h.2 e)⟩
      · rename_i hc
        exact .inr ⟨hc, ih h⟩
      · exact h.elim

theorem drawB_A {bs : List Nat} : ∀ (is : List GI) {acc : List Rcd} {K : Env → Prop} {E : Env}, drawB P md bs acc is K E → drawA P bs acc is K E := by
  intro is
  induction is with
  | nil => intro acc K E h; exact h
  | cons g l ih =>
    intro acc K E h
    simp only [drawB] at h
    simp only [drawA]
    cases hg : g.g with
    | none => rw [hg] at h; exact goI_D h fun _ _ h => ih h
    | some q =>
      obtain ⟨t, b⟩ := q
      rw [hg] at h
      simp only at h
      split at h
      · rename_i c hc
        exact .inl ⟨c, hc, fun e => goI_D (h.1 e) fun _ _ h => ih h, fun e => ih (h.2 e)⟩
      · rename_i hc
        exact .inr ⟨hc, ih h⟩
      · exact h.elim

theorem wpB_A : ∀ (c : Cmd) {Q Q' : Ex → Env → Prop} {E : Env}, wpB P md ks c Q E → (∀ x E, Q x E → Q' x E) → awp P ks c Q' E := by
  intro c
  induction c with
  | skip => intro Q Q' E h hQ; exact hQ _ _ h
  | reg is ord =>
    intro Q Q' E h hQ
    cases ord with
    | none =>
      obtain ⟨E1, h1, h2⟩ := regA_run (regB_A is h)
      exact ⟨_, h2 (Q' .n) (hQ _ _ h1)⟩
    | some bs =>
      obtain ⟨E1, h1, h2⟩ := drawA_det (drawB_A is h)
      exact ⟨_, h2 (Q' .n) (hQ _ _ h1)⟩
  | seq a b iha ihb =>
    intro Q Q' E h hQ
    refine iha h fun x E1 h1 => ?_
    cases x with
    | n => exact ihb h1 hQ
    | r => exact hQ _ _ h1
    | e id => exact hQ _ _ h1
  | cond x a b iha ihb =>
    intro Q Q' E h hQ
    simp only [wpB] at h
    split at h
    · rename_i t ht
      exact ⟨t, ht, fun e => iha (h.1 e) hQ, fun e => ihb (h.2 e) hQ⟩
    · exact h.elim
  | blk id c ih =>
    intro Q Q' E h hQ
    refine ih h fun x E1 h1 => ?_
    by_cases e : x = .e id
    · simp only [e, if_true] at h1 ⊢; exact hQ _ _ h1
    · simp only [e, if_false] at h1 ⊢; exact hQ _ _ h1
  | loop c ih =>
    intro Q Q' E h hQ
    obtain ⟨D, J, hJ, hr⟩ := h
    refine ⟨D, J, hJ, fun n E hn => ih (hr n E hn) fun x E1 h1 => ?_⟩
    cases x with
    | n => exact h1
    | r => exact hQ _ _ h1
    | e id => exact hQ _ _ h1
  | exit id => intro Q Q' E h hQ; exact hQ _ _ h
  | ret => intro Q Q' E h hQ; exact hQ _ _ h

/-- WHAT IS ASKED OF A FUNCTION -/
def Fin (rs : List RV) (bs : List Bool) (m : List AV) (ret : AV) (outs : List AV) (x : Ex) (E : Env) : Prop := (x = .r ∨ x = .n) ∧ doneE rs bs m ret outs E
def FinEx (rs : List RV) (bs : List Bool) (m : List AV) (R : AV → List AV → Prop) (x : Ex) (E : Env) : Prop :=
  (x = .r ∨ x = .n) ∧ onO (retG E rs) fun q => R (retV q.1) (outsE q.2 0 bs m) ∧ noLkL (retV q.1 :: outsE q.2 0 bs m) = true

theorem spec_B {f nt : Nat} {rs : List RV} {cmd : Cmd} (hm : P.follows .mixedOrders = true) (hc : compile P f = some (nt, rs, cmd)) (md : Modes) (ks : Nat) (bs : List Bool) {args outs : List AV} {ret : AV}
    (hlen : args.length ≤ nt ∧ args.length ≤ 32) (hol : outs.length = args.length) (hroots : rootsOk bs args = true)
    (h : wpB P md ks cmd (Fin rs bs args ret outs) (mkE (initA 0 bs args ++ initB 0 bs args) [])) : Spec P f args ret outs :=
  spec_of hm hc ks bs hlen hol hroots (wpB_A cmd h fun _ _ h => h)
theorem specEx_B {f nt : Nat} {rs : List RV} {cmd : Cmd} (hm : P.follows .mixedOrders = true) (hc : compile P f = some (nt, rs, cmd)) (md : Modes) (ks : Nat) (bs : List Bool) {args : List AV} {R : AV → List AV → Prop}
    (hlen : args.length ≤ nt ∧ args.length ≤ 32) (hroots : rootsOk bs args = true)
    (h : wpB P md ks cmd (FinEx rs bs args R) (mkE (initA 0 bs args ++ initB 0 bs args) [])) : ∃ ret outs, R ret outs ∧ Spec P f args ret outs :=
  spec_ex hm hc ks bs hlen hroots (wpB_A cmd h fun _ _ h => h)

theorem wpB_mono (c : Cmd) : ∀ {Q Q' : Ex → Env → Prop} {E : Env}, wpB P md ks c Q E → (∀ x E, Q x E → Q' x E) → wpB P md ks c Q' E := by
  have gmono : ∀ {i : I} {K K' : List M → Env → Prop} {E : Env}, goI P md i K E → (∀ ms E, K ms E → K' ms E) → goI P md i K' E := by
    intro i K K' E h hK
    have sp : ∀ {d f xs ms} {K K' : Env → Prop} {E : Env}, (∀ E, K E → K' E) → callM P d f xs ms K E → callM P d f xs ms K' E := by
      rintro d f xs ms K K' E hk ⟨pr, hp, ret, outs, hS, hx, E1, hb, hK⟩
      exact ⟨pr, hp, ret, outs, hS, hx, E1, hb, hk _ hK⟩
    cases i with
    | call d f xs => exact sp (hK _) h
    | callv d x xs =>
      simp only [goI] at h ⊢
      cases hv : val E x <;> rw [hv] at h <;> first
        | exact h.elim
        | (obtain ⟨h1, h2, h3⟩ := h; exact ⟨h1, h2, sp (hK _) h3⟩)
    | _ => obtain ⟨E', h1, h2⟩ := h; exact ⟨E', h1, hK _ _ h2⟩
  have gmono0 : ∀ {i : I} {K K' : List M → Env → Prop} {E : Env}, goI0 P md i K E → (∀ ms E, K ms E → K' ms E) → goI0 P md i K' E := by
    intro i K K' E h hK
    have sp : ∀ {d f xs ms} {K K' : Env → Prop}, (∀ E, K E → K' E) → callM P d f xs ms K E → callM P d f xs ms K' E := by
      rintro d f xs ms K K' hk ⟨pr, hp, ret, outs, hS, hx, E1, hb, hK⟩
      exact ⟨pr, hp, ret, outs, hS, hx, E1, hb, hk _ hK⟩
    cases i with
    | call d f xs => exact sp (hK _) h
    | callv d x xs =>
      simp only [goI0] at h ⊢
      cases hv : val E x <;> rw [hv] at h <;> first
        | exact h.elim
        | (obtain ⟨h1, h2, h3⟩ := h; exact ⟨h1, h2, sp (hK _) h3⟩)
    | _ => obtain ⟨E', h1, h2⟩ := h; exact ⟨E', h1, hK _ _ h2⟩
  have rmono : ∀ (is : List GI) {K K' : Env → Prop} {E : Env}, regB P md is K E → (∀ E, K E → K' E) → regB P md is K' E := by
    intro is
    induction is with
    | nil => intro K K' E h hK; exact hK _ h
    | cons g l ih =>
      intro K K' E h hK
      simp only [regB] at h ⊢
      cases hg : g.g with
      | none => rw [hg] at h; exact gmono h fun _ _ h => ih h hK
      | some q =>
        obtain ⟨t, b⟩ := q
        rw [hg] at h
        simp only at h ⊢
        split at h
        · exact ⟨fun e => gmono (h.1 e) fun _ _ h => ih h hK, fun e => ih (h.2 e) hK⟩
        · exact ih h hK
        · exact h.elim
  have dmono : ∀ (is : List GI) {bs : List Nat} {acc : List Rcd} {K K' : Env → Prop} {E : Env}, drawB P md bs acc is K E → (∀ E, K E → K' E) → drawB P md bs acc is K' E := by
    intro is
    induction is with
    | nil => intro bs acc K K' E h hK; exact ⟨h.1, hK _ h.2⟩
    | cons g l ih =>
      intro bs acc K K' E h hK
      simp only [drawB] at h ⊢
      cases hg : g.g with
      | none => rw [hg] at h; exact gmono0 h fun _ _ h => ih h hK
      | some q =>
        obtain ⟨t, b⟩ := q
        rw [hg] at h
        simp only at h ⊢
        split at h
        · exact ⟨fun e => gmono0 (h.1 e) fun _ _ h => ih h hK, fun e => ih (h.2 e) hK⟩
        · exact ih h hK
        · exact h.elim
  induction c with
  | skip => intro Q Q' E h hQ; exact hQ _ _ h
  | reg is ord =>
    intro Q Q' E h hQ
    cases ord with
    | none => exact rmono is h fun E h => hQ _ _ h
    | some bs => exact dmono is h fun E h => hQ _ _ h
  | seq a b iha ihb =>
    intro Q Q' E h hQ
    refine iha h fun x E1 h1 => ?_
    cases x with
    | n => exact ihb h1 hQ
    | r => exact hQ _ _ h1
    | e id => exact hQ _ _ h1
  | cond x a b iha ihb =>
    intro Q Q' E h hQ
    simp only [wpB] at h ⊢
    split at h
    · exact ⟨fun e => iha (h.1 e) hQ, fun e => ihb (h.2 e) hQ⟩
    · exact h.elim
  | blk id c ih =>
    intro Q Q' E h hQ
    refine ih h fun x E1 h1 => ?_
    by_cases e : x = .e id
    · simp only [e, if_true] at h1 ⊢; exact hQ _ _ h1
    · simp only [e, if_false] at h1 ⊢; exact hQ _ _ h1
  | loop c ih =>
    intro Q Q' E h hQ
    obtain ⟨D, J, hJ, hr⟩ := h
    refine ⟨D, J, hJ, fun n E hn => ih (hr n E hn) fun x E1 h1 => ?_⟩
    cases x with
    | n => exact h1
    | r => exact hQ _ _ h1
    | e id => exact hQ _ _ h1
  | exit id => intro Q Q' E h hQ; exact hQ _ _ h
  | ret => intro Q Q' E h hQ; exact hQ _ _ h

/-! ### the machine: all that is to be done lies there as data -/
inductive Fr where
  | q (b : Cmd)
  | b (id : Nat)

structure Wk where
  P : Program
  md : Modes
  ks : Nat
  Q : Ex → Env → Prop

/-- an end comes back -/
def T (w : Wk) : List Fr → Ex → Env → Prop
  | [], x, E => w.Q x E
  | .q b :: st, x, E => match x with
    | .n => wpB w.P w.md w.ks b (T w st) E
    | x => T w st x E
  | .b id :: st, x, E => if x = .e id then T w st .n E else T w st x E
def C (w : Wk) (c : Cmd) (st : List Fr) (E : Env) : Prop := wpB w.P w.md w.ks c (T w st) E
def G (w : Wk) (is : List GI) (st : List Fr) (E : Env) : Prop := regB w.P w.md is (T w st .n) E
def X (w : Wk) (is : List GI) (st : List Fr) (o : Option Env) : Prop := onO o (G w is st)
def H (w : Wk) (bs : List Nat) (acc : List Rcd) (is : List GI) (st : List Fr) (E : Env) : Prop := drawB w.P w.md bs acc is (T w st .n) E
def XH (w : Wk) (bs : List Nat) (acc : List Rcd) (is : List GI) (st : List Fr) (o : Option Env) : Prop := onO o (H w bs acc is st)
/-- a branch that waits for its condition -/
def CF (w : Wk) (a b : Cmd) (st : List Fr) (E : Env) : AV → Prop
  | .bool t => (t = true → C w a st E) ∧ (t = false → C w b st E)
  | _ => False
def GF (w : Wk) (b : Bool) (d : Option Nat) (i : I) (is : List GI) (st : List Fr) (E : Env) : AV → Prop
  | .bool c => (c = b → G w (⟨none, d, i⟩ :: is) st E) ∧ (c ≠ b → G w is st (putO E d (.tup [])))
  | .tup [] => G w is st (putO E d (.tup []))
  | _ => False
/-- a drawn operation that is done, its guard's temporary among what it touched -/
def H1 (w : Wk) (t : List Nat) (bs : List Nat) (acc : List Rcd) (i : I) (is : List GI) (st : List Fr) (E : Env) : Prop :=
  goI0 w.P w.md i (fun ms E' => H w bs (acc ++ [(t ++ touchI E i, wrI E ms i)]) is st E') E
def HF (w : Wk) (bs : List Nat) (acc : List Rcd) (t : Nat) (b : Bool) (d : Option Nat) (i : I) (is : List GI) (st : List Fr) (E : Env) : AV → Prop
  | .bool c => (c = b → H1 w [t] bs acc i is st E) ∧ (c ≠ b → H w bs (acc ++ [(t :: d.toList, d.toList)]) is st (putO E d (.tup [])))
  | .tup [] => H w bs (acc ++ [(t :: d.toList, d.toList)]) is st (putO E d (.tup []))
  | _ => False
/-- a call that waits for its contract -/
def Y0 (w : Wk) (d : Option Nat) (f : Nat) (ok : Bool) (pls : List Plc) (is : List GI) (st : List Fr) (args : List AV) (E : Env) (ln : Option (Nat × Nat × Path)) : Prop := callR w.P d f ok pls (G w is st) (args, E, ln)
def YH0 (w : Wk) (d : Option Nat) (f : Nat) (ok : Bool) (pls : List Plc) (bs : List Nat) (acc : List Rcd) (is : List GI) (st : List Fr) (args : List AV) (E : Env) (ln : Option (Nat × Nat × Path)) : Prop := callR w.P d f ok pls (H w bs acc is st) (args, E, ln)
/-- behind a call -/
def B (w : Wk) (d : Option Nat) (ret : AV) (is : List GI) (st : List Fr) (o : Option Env) : Prop := onO o fun E' => G w is st (putO E' d ret)
def BH (w : Wk) (d : Option Nat) (ret : AV) (bs : List Nat) (acc : List Rcd) (is : List GI) (st : List Fr) (o : Option Env) : Prop := onO o fun E' => H w bs acc is st (putO E' d ret)
def callO (w : Wk) (d : Option Nat) (f : Nat) (xs : List O) (ms : List M) (pls : List Plc) (is : List GI) (st : List Fr) : Option (List AV × Env × Option (Nat × Nat × Path)) → Prop
  | some (args, E, ln) => Y0 w d f (pureM E ms xs) pls is st args E ln
  | none => False
def callOH (w : Wk) (d : Option Nat) (f : Nat) (xs : List O) (ms : List M) (pls : List Plc) (bs : List Nat) (acc : List Rcd) (is : List GI) (st : List Fr) : Option (List AV × Env × Option (Nat × Nat × Path)) → Prop
  | some (args, E, ln) => YH0 w d f (pureM E ms xs) pls bs acc is st args E ln
  | none => False
def callvO (w : Wk) (d : Option Nat) (xs : List O) (is : List GI) (st : List Fr) (E : Env) : AV → Prop
  | .fn f caps => ownsL caps = false ∧ (mdOf w.md f xs).length = xs.length ∧ callO w d f (xs ++ caps.map .c) (mdOf w.md f xs ++ caps.map fun _ => M.b) (plcs E 0 (mdOf w.md f xs ++ caps.map fun _ => M.b) (xs ++ caps.map .c)) is st (prep E (mdOf w.md f xs ++ caps.map fun _ => M.b) (xs ++ caps.map .c))
  | _ => False
def callvOH (w : Wk) (d : Option Nat) (xs : List O) (bs : List Nat) (acc : List Rcd) (is : List GI) (st : List Fr) (E : Env) : AV → Prop
  | .fn f caps => ownsL caps = false ∧ (mdOf w.md f xs).length = xs.length ∧ callOH w d f (xs ++ caps.map .c) (mdOf w.md f xs ++ caps.map fun _ => M.b) (plcs E 0 (mdOf w.md f xs ++ caps.map fun _ => M.b) (xs ++ caps.map .c)) bs acc is st (prep E (mdOf w.md f xs ++ caps.map fun _ => M.b) (xs ++ caps.map .c))
  | _ => False

section
variable {w : Wk} {E : Env} {st : List Fr} {is : List GI} {bs : List Nat} {acc : List Rcd}
theorem C_skip : C w .skip st E = T w st .n E := rfl
theorem C_reg : C w (.reg is none) st E = G w is st (rgE w.ks (ubOf w.md) (E.norm w.ks)) := rfl
theorem C_regd : C w (.reg is (some bs)) st E = H w bs [] is st (rgE w.ks (ubOf w.md) (E.norm w.ks)) := rfl
theorem C_seq {a b : Cmd} : C w (.seq a b) st E = C w a (.q b :: st) E := by
  unfold C
  simp only [wpB]
  congr 1
theorem C_blk {i : Nat} {c : Cmd} : C w (.blk i c) st E = C w c (.b i :: st) E := by
  unfold C
  simp only [wpB]
  congr 1
theorem C_exit {i : Nat} : C w (.exit i) st E = T w st (.e i) E := rfl
theorem C_ret : C w .ret st E = T w st .r E := rfl
theorem C_cond {x : O} {a b : Cmd} : C w (.cond x a b) st E = CF w a b st E (val E x) := rfl
theorem CF_t {a b : Cmd} : CF w a b st E (.bool true) = C w a st E := by simp [CF]
theorem CF_f {a b : Cmd} : CF w a b st E (.bool false) = C w b st E := by simp [CF]
theorem T_nil {x : Ex} : T w [] x E = w.Q x E := by cases x <;> rfl
theorem T_qn {b : Cmd} : T w (.q b :: st) .n E = C w b st E := rfl
theorem T_qr {b : Cmd} : T w (.q b :: st) .r E = T w st .r E := rfl
theorem T_qe {b : Cmd} {i : Nat} : T w (.q b :: st) (.e i) E = T w st (.e i) E := rfl
theorem T_bn {i : Nat} : T w (.b i :: st) .n E = T w st .n E := by simp [T]
theorem T_br {i : Nat} : T w (.b i :: st) .r E = T w st .r E := by simp [T]
theorem T_be {i j : Nat} : T w (.b i :: st) (.e j) E = if j = i then T w st .n E else T w st (.e j) E := by simp [T]
theorem G_nil : G w [] st E = T w st .n E := rfl
theorem G_op {d : Option Nat} {i : I} (h : i.isCall = false) : G w (⟨none, d, i⟩ :: is) st E = X w is st (ev E i) := by
  cases i <;> first | rfl | cases h
theorem G_call {d e : Option Nat} {f : Nat} {xs : List O} : G w (⟨none, d, .call e f xs⟩ :: is) st E = callO w e f xs (mdOf w.md f xs) (plcs (blankE E (blOf w.md f)) 0 (mdOf w.md f xs) xs) is st (prep (blankE E (blOf w.md f)) (mdOf w.md f xs) xs) := by
  show callM _ _ _ _ _ _ _ = _
  unfold callM
  generalize prep (blankE E (blOf w.md f)) (mdOf w.md f xs) xs = o
  cases o with
  | none => simp [onO, callO]
  | some pr => simp only [on_some]; rfl
theorem G_callv {d e : Option Nat} {x : O} {xs : List O} : G w (⟨none, d, .callv e x xs⟩ :: is) st E = callvO w e xs is st E (val E x) := by
  unfold G
  simp only [regB, goI]
  generalize val E x = a
  cases a with
  | fn f caps =>
    simp only [callvG, callvO, callM]
    congr 2
    generalize prep E (mdOf w.md f xs ++ List.map (fun _ => M.b) caps) (xs ++ List.map O.c caps) = o
    cases o with
    | none => simp [onO, callO]
    | some pr => simp only [on_some]; rfl
  | _ => rfl
theorem G_g {t : Nat} {b : Bool} {d : Option Nat} {i : I} : G w (⟨some (t, b), d, i⟩ :: is) st E = GF w b d i is st E (E.f t) := rfl
theorem GF_t {d : Option Nat} {i : I} : GF w true d i is st E (.bool true) = G w (⟨none, d, i⟩ :: is) st E := by simp [GF]
theorem GF_tf {d : Option Nat} {i : I} : GF w true d i is st E (.bool false) = G w is st (putO E d (.tup [])) := by simp [GF]
theorem GF_s {b : Bool} {d : Option Nat} {i : I} : GF w b d i is st E (.tup []) = G w is st (putO E d (.tup [])) := rfl
theorem GF_f {d : Option Nat} {i : I} : GF w false d i is st E (.bool false) = G w (⟨none, d, i⟩ :: is) st E := by simp [GF]
theorem GF_ft {d : Option Nat} {i : I} : GF w false d i is st E (.bool true) = G w is st (putO E d (.tup [])) := by simp [GF]
theorem X_some : X w is st (some E) = G w is st E := on_some E
theorem X_none : X w is st none = False := on_none
theorem X_pos {c : Prop} [Decidable c] {a b : Option Env} (h : c) : X w is st (if c then a else b) = X w is st a := by rw [if_pos h]
theorem X_neg {c : Prop} [Decidable c] {a b : Option Env} (h : ¬ c) : X w is st (if c then a else b) = X w is st b := by rw [if_neg h]
theorem H_nil : H w bs acc [] st E = (okRec bs acc = true ∧ T w st .n E) := rfl
theorem H_n {d : Option Nat} {i : I} : H w bs acc (⟨none, d, i⟩ :: is) st E = H1 w [] bs acc i is st E := rfl
theorem H_g {t : Nat} {b : Bool} {d : Option Nat} {i : I} : H w bs acc (⟨some (t, b), d, i⟩ :: is) st E = HF w bs acc t b d i is st E (E.f t) := rfl
theorem HF_t {t : Nat} {d : Option Nat} {i : I} : HF w bs acc t true d i is st E (.bool true) = H1 w [t] bs acc i is st E := by simp [HF]
theorem HF_tf {t : Nat} {d : Option Nat} {i : I} : HF w bs acc t true d i is st E (.bool false) = H w bs (acc ++ [(t :: d.toList, d.toList)]) is st (putO E d (.tup [])) := by simp [HF]
theorem HF_f {t : Nat} {d : Option Nat} {i : I} : HF w bs acc t false d i is st E (.bool false) = H1 w [t] bs acc i is st E := by simp [HF]
theorem HF_ft {t : Nat} {d : Option Nat} {i : I} : HF w bs acc t false d i is st E (.bool true) = H w bs (acc ++ [(t :: d.toList, d.toList)]) is st (putO E d (.tup [])) := by simp [HF]
theorem H1_op {t : List Nat} {i : I} (h : i.isCall = false) : H1 w t bs acc i is st E = XH w bs (acc ++ [(t ++ touchI E i, wrI E [] i)]) is st (ev E i) := by
  cases i <;> first | rfl | cases h
theorem H1_call {t : List Nat} {e : Option Nat} {f : Nat} {xs : List O} : H1 w t bs acc (.call e f xs) is st E =
    callOH w e f xs (mdOf w.md f xs) (plcs E 0 (mdOf w.md f xs) xs) bs (acc ++ [(t ++ touchI E (.call e f xs), wrI E (mdOf w.md f xs) (.call e f xs))]) is st (prep E (mdOf w.md f xs) xs) := by
  show callM _ _ _ _ _ _ _ = _
  unfold callM
  generalize prep E (mdOf w.md f xs) xs = o
  cases o with
  | none => simp [onO, callOH]
  | some pr => simp only [on_some]; rfl
theorem H1_callv {t : List Nat} {e : Option Nat} {x : O} {xs : List O} {f : Nat} {caps : List AV} (hx : val E x = .fn f caps) : H1 w t bs acc (.callv e x xs) is st E =
    callvOH w e xs bs (acc ++ [(t ++ touchI E (.callv e x xs), wrI E (mdOf w.md f xs) (.callv e x xs))]) is st E (.fn f caps) := by
  unfold H1
  simp only [goI0]
  rw [hx]
  simp only [callvG, callvOH, callM]
  congr 2
  generalize prep E (mdOf w.md f xs ++ List.map (fun _ => M.b) caps) (xs ++ List.map O.c caps) = o
  cases o with
  | none => simp [onO, callOH]
  | some pr => simp only [on_some]; rfl
theorem XH_some : XH w bs acc is st (some E) = H w bs acc is st E := on_some E
theorem XH_none : XH w bs acc is st none = False := on_none
theorem XH_pos {c : Prop} [Decidable c] {a b : Option Env} (h : c) : XH w bs acc is st (if c then a else b) = XH w bs acc is st a := by rw [if_pos h]
theorem XH_neg {c : Prop} [Decidable c] {a b : Option Env} (h : ¬ c) : XH w bs acc is st (if c then a else b) = XH w bs acc is st b := by rw [if_neg h]
theorem B_some {d : Option Nat} {ret : AV} : B w d ret is st (some E) = G w is st (putO E d ret) := on_some E
theorem BH_some {d : Option Nat} {ret : AV} : BH w d ret bs acc is st (some E) = H w bs acc is st (putO E d ret) := on_some E
theorem B_pos {d : Option Nat} {ret : AV} {c : Prop} [Decidable c] {a b : Option Env} (h : c) : B w d ret is st (if c then a else b) = B w d ret is st a := by rw [if_pos h]
theorem BH_pos {d : Option Nat} {ret : AV} {c : Prop} [Decidable c] {a b : Option Env} (h : c) : BH w d ret bs acc is st (if c then a else b) = BH w d ret bs acc is st a := by rw [if_pos h]

/-- a call by its contract -/
theorem call_i {d : Option Nat} {f : Nat} {ok : Bool} {args outs : List AV} {ret : AV} {ln : Option (Nat × Nat × Path)} {P : Program} (hP : w.P = P) (hS : Spec P f args ret outs)
    (hx : (extsL (ret :: outs) = false ∧ ∀ x ∈ vlvL (ret :: outs), x ∈ vlvL args) ∨ ok = true) {pls : List Plc} (h : B w d ret is st (backA E ln pls outs)) : Y0 w d f ok pls is st args E ln := ⟨ret, outs, hP ▸ hS, hx, h⟩
theorem callH_i {d : Option Nat} {f : Nat} {ok : Bool} {args outs : List AV} {ret : AV} {ln : Option (Nat × Nat × Path)} {P : Program} (hP : w.P = P) (hS : Spec P f args ret outs)
    (hx : (extsL (ret :: outs) = false ∧ ∀ x ∈ vlvL (ret :: outs), x ∈ vlvL args) ∨ ok = true) {pls : List Plc} (h : BH w d ret bs acc is st (backA E ln pls outs)) : YH0 w d f ok pls bs acc is st args E ln := ⟨ret, outs, hP ▸ hS, hx, h⟩
theorem if_d {a b : Cmd} (c : Prop) [Decidable c] (h1 : c → C w a st E) (h2 : ¬ c → C w b st E) : CF w a b st E (.bool (decide c)) := ⟨fun h => h1 (by simpa using h), fun h => h2 (by simpa using h)⟩
theorem CF_not {a b : Cmd} {c : Bool} : CF w a b st E (.bool (!c)) = CF w b a st E (.bool c) := by cases c <;> simp [CF]
theorem GF_not {d : Option Nat} {i : I} {b c : Bool} : GF w b d i is st E (.bool (!c)) = GF w (!b) d i is st E (.bool c) := by cases c <;> cases b <;> simp [GF]
theorem gd_d {b : Bool} {d : Option Nat} {i : I} (c : Prop) [Decidable c] (h1 : c → GF w b d i is st E (.bool true)) (h2 : ¬ c → GF w b d i is st E (.bool false)) : GF w b d i is st E (.bool (decide c)) := by
  by_cases h : c
  · simpa [h] using h1 h
  · simpa [h] using h2 h
theorem hd_d {t : Nat} {b : Bool} {d : Option Nat} {i : I} (c : Prop) [Decidable c] (h1 : c → HF w bs acc t b d i is st E (.bool true)) (h2 : ¬ c → HF w bs acc t b d i is st E (.bool false)) : HF w bs acc t b d i is st E (.bool (decide c)) := by
  by_cases h : c
  · simpa [h] using h1 h
  · simpa [h] using h2 h
theorem if_i {a b : Cmd} (c : Bool) (h1 : c = true → C w a st E) (h2 : c = false → C w b st E) : CF w a b st E (.bool c) := ⟨h1, h2⟩
theorem gd_i {b : Bool} {d : Option Nat} {i : I} (c : Bool) (h1 : c = true → GF w b d i is st E (.bool true)) (h2 : c = false → GF w b d i is st E (.bool false)) : GF w b d i is st E (.bool c) := by
  cases c
  · exact h2 rfl
  · exact h1 rfl
theorem hd_i {t : Nat} {b : Bool} {d : Option Nat} {i : I} (c : Bool) (h1 : c = true → HF w bs acc t b d i is st E (.bool true)) (h2 : c = false → HF w bs acc t b d i is st E (.bool false)) : HF w bs acc t b d i is st E (.bool c) := by
  cases c
  · exact h2 rfl
  · exact h1 rfl

end

/-! ### environments: what is kept, and a region's own temporaries -/
def mset (a : AV) (d : Nat) (m : List (Nat × Nat × Nat)) : List (Nat × Nat × Nat) := if a.isRoot = true then setM m d ((getM m d).1 + 1, (getM m d).2 + 1) else m
def mkV (K : Nat) (l r : List (Nat × AV)) (m : List (Nat × Nat × Nat)) : Env := ⟨fun t => if keepB K t = true then getL l t else getL r t, getM m⟩
def fixLs (E : Env) (K : Nat) : List (Nat × AV) → List (Nat × AV)
  | [] => []
  | (k, a) :: l => (k, fixA E K a) :: fixLs E K l

theorem mkV_f (K : Nat) (l r : List (Nat × AV)) (m : List (Nat × Nat × Nat)) (t : Nat) : (mkV K l r m).f t = if keepB K t = true then getL l t else getL r t := rfl
theorem mkV_ep (K : Nat) (l r : List (Nat × AV)) (m : List (Nat × Nat × Nat)) (t : Nat) : (mkV K l r m).ep t = getM m t := rfl
theorem mset_ep (a : AV) (d t : Nat) (m : List (Nat × Nat × Nat)) : getM (mset a d m) t = if t = d ∧ a.isRoot = true then ((getM m d).1 + 1, (getM m d).2 + 1) else getM m t := by
  unfold mset
  by_cases h : a.isRoot = true
  · simp only [h, and_true, if_true, getM_set]
  · simp [h]
theorem mkV_put (K : Nat) (l r : List (Nat × AV)) (m : List (Nat × Nat × Nat)) (d : Nat) (x : AV) :
    (mkV K l r m).put d x = if keepB K d = true then mkV K (setL l d x) r (mset (getL l d) d m) else mkV K l ((d, x) :: r) (mset (getL r d) d m) := by
  by_cases hk : keepB K d = true
  · rw [if_pos hk]
    apply Env.ext'
    · intro t
      show (if t = d then x else if keepB K t = true then getL l t else getL r t) = if keepB K t = true then getL (setL l d x) t else getL r t
      rw [getL_set]
      by_cases e : t = d
      · subst e; simp [hk]
      · simp [e]
    · intro t
      show (if t = d ∧ (if keepB K d = true then getL l d else getL r d).isRoot = true then ((getM m d).1 + 1, (getM m d).2 + 1) else getM m t) = getM (mset (getL l d) d m) t
      rw [mset_ep, if_pos hk]
  · rw [if_neg hk]
    apply Env.ext'
    · intro t
      show (if t = d then x else if keepB K t = true then getL l t else getL r t) = if keepB K t = true then getL l t else getL ((d, x) :: r) t
      by_cases e : t = d
      · subst e; simp [hk, getL]
      · simp [e, getL, Ne.symm e]
    · intro t
      show (if t = d ∧ (if keepB K d = true then getL l d else getL r d).isRoot = true then ((getM m d).1 + 1, (getM m d).2 + 1) else getM m t) = getM (mset (getL r d) d m) t
      rw [mset_ep, if_neg hk]
theorem mkV_upd (K : Nat) (l r : List (Nat × AV)) (m : List (Nat × Nat × Nat)) (d : Nat) (x : AV) :
    (mkV K l r m).upd d x = if keepB K d = true then mkV K (setL l d x) r (setM m d ((getM m d).1, (getM m d).2 + 1)) else mkV K l (setL r d x) (setM m d ((getM m d).1, (getM m d).2 + 1)) := by
  by_cases hk : keepB K d = true
  · rw [if_pos hk]
    apply Env.ext'
    · intro t
      show (if t = d then x else if keepB K t = true then getL l t else getL r t) = if keepB K t = true then getL (setL l d x) t else getL r t
      rw [getL_set]
      by_cases e : t = d
      · subst e; simp [hk]
      · simp [e]
    · intro t
      show (if t = d then ((getM m d).1, (getM m d).2 + 1) else getM m t) = _
      rw [mkV_ep, getM_set]
  · rw [if_neg hk]
    apply Env.ext'
    · intro t
      show (if t = d then x else if keepB K t = true then getL l t else getL r t) = if keepB K t = true then getL l t else getL (setL r d x) t
      rw [getL_set]
      by_cases e : t = d
      · subst e; simp [hk]
      · simp [e]
    · intro t
      show (if t = d then ((getM m d).1, (getM m d).2 + 1) else getM m t) = _
      rw [mkV_ep, getM_set]
theorem mkV_set0 (K : Nat) (l r : List (Nat × AV)) (m : List (Nat × Nat × Nat)) (d : Nat) (x : AV) :
    (mkV K l r m).set0 d x = if keepB K d = true then mkV K (setL l d x) r m else mkV K l (setL r d x) m := by
  by_cases hk : keepB K d = true
  · rw [if_pos hk]
    apply Env.ext'
    · intro t
      show (if t = d then x else if keepB K t = true then getL l t else getL r t) = if keepB K t = true then getL (setL l d x) t else getL r t
      rw [getL_set]
      by_cases e : t = d
      · subst e; simp [hk]
      · simp [e]
    · intro t; rfl
  · rw [if_neg hk]
    apply Env.ext'
    · intro t
      show (if t = d then x else if keepB K t = true then getL l t else getL r t) = if keepB K t = true then getL l t else getL (setL r d x) t
      rw [getL_set]
      by_cases e : t = d
      · subst e; simp [hk]
      · simp [e]
    · intro t; rfl
theorem fixLs_get (E : Env) (K t : Nat) : ∀ l : List (Nat × AV), getL (fixLs E K l) t = fixA E K (getL l t) := by
  intro l
  induction l with
  | nil => rfl
  | cons p l ih =>
    obtain ⟨k, a⟩ := p
    simp only [fixLs, getL, ih]
    split <;> rfl
theorem mkV_norm (K : Nat) (l r : List (Nat × AV)) (m : List (Nat × Nat × Nat)) : (mkV K l r m).norm K = mkV K (fixLs (mkV K l r m) K l) [] [] := by
  apply Env.ext'
  · intro t
    show (if keepB K t = true then fixA (mkV K l r m) K (if keepB K t = true then getL l t else getL r t) else .undef) = if keepB K t = true then getL (fixLs (mkV K l r m) K l) t else getL [] t
    rw [fixLs_get]
    by_cases hk : keepB K t = true <;> simp [hk, getL]
  · intro t; rfl
theorem mkE_V (K : Nat) (l : List (Nat × AV)) : mkE l [] = mkV K l l [] := by
  apply Env.ext'
  · intro t
    show getL l t = if keepB K t = true then getL l t else getL l t
    simp
  · intro t; rfl

/-! ### loops: what the round turns is told by states, all else is as it is -/
def setsL : List (Nat × AV) → List (Nat × AV) → List (Nat × AV)
  | l, [] => l
  | l, (d, x) :: v => setsL (setL l d x) v
def LQ {σ : Type} (K : Nat) (l : List (Nat × AV)) (v : σ → List (Nat × AV)) (J : σ → Prop) (μ : σ → Nat) (s : σ) (Q : Ex → Env → Prop) : Ex → Env → Prop := fun x E' => match x with
  | .n => ∃ s', E'.norm K = mkV K (setsL l (v s')) [] [] ∧ J s' ∧ μ s' < μ s
  | x => Q x E'
def LQD {σ : Type} (D : List Nat) (K : Nat) (l : List (Nat × AV)) (v : σ → List (Nat × AV)) (J : σ → Prop) (μ : σ → Nat) (s : σ) (Q : Ex → Env → Prop) : Ex → Env → Prop := fun x E' => match x with
  | .n => ∃ s', hdL K D (E'.norm K) = mkV K (setsL l (v s')) [] [] ∧ J s' ∧ μ s' < μ s
  | x => Q x E'
section
variable {w : Wk} {E : Env} {st : List Fr} {is : List GI} {bs : List Nat} {acc : List Rcd}
/-- the loop's head, its environment put in order -/
def LHD (w : Wk) (c : Cmd) (st : List Fr) (D : List Nat) (E : Env) : Prop := ∃ J : Nat → Env → Prop, (∃ n, J n E) ∧ ∀ n E, J n E → wpB w.P w.md w.ks c (fun x E' => match x with | .n => ∃ m, m < n ∧ J m (hdL w.ks D (E'.norm w.ks)) | x => T w st x E') E
def LH (w : Wk) (c : Cmd) (st : List Fr) (E : Env) : Prop := ∃ D : List Nat, LHD w c st D (hdL w.ks D E)
theorem LH_D {c : Cmd} (D : List Nat) (h : LHD w c st D (hdL w.ks D E)) : LH w c st E := ⟨D, h⟩
theorem C_loop {c : Cmd} : C w (.loop c) st E = LH w c st (E.norm w.ks) := rfl
theorem loop_i {σ : Type} (v : σ → List (Nat × AV)) (J : σ → Prop) (μ : σ → Nat) (s0 : σ) {c : Cmd} {P : Program} {md : Modes} {ks : Nat} {l : List (Nat × AV)} (hP : w.P = P) (hm : w.md = md) (hk : w.ks = ks) (hE : setsL l (v s0) = l) (h0 : J s0)
    (step : ∀ s, J s → ∀ w' : Wk, w'.P = P → w'.md = md → w'.ks = ks → w'.Q = LQ ks l v J μ s (T w st) → C w' c [] (mkV ks (setsL l (v s)) [] [])) : LH w c st (mkV ks l [] []) := by
  refine ⟨[], fun n F => ∃ s, F = mkV ks (setsL l (v s)) [] [] ∧ J s ∧ μ s = n, ⟨_, s0, by rw [hE]; rfl, h0, rfl⟩, ?_⟩
  rintro n F ⟨s, rfl, hs, rfl⟩
  refine wpB_mono c (step s hs { w with Q := LQ ks l v J μ s (T w st) } hP hm hk rfl) fun x E1 h1 => ?_
  rw [T_nil] at h1
  cases x with
  | n => obtain ⟨s', e1, e2, e3⟩ := h1; rw [hk]; exact ⟨_, e3, s', e1, e2, rfl⟩
  | r => exact h1
  | e id => exact h1
theorem loop_d {σ : Type} (D : List Nat) (v : σ → List (Nat × AV)) (J : σ → Prop) (μ : σ → Nat) (s0 : σ) {c : Cmd} {P : Program} {md : Modes} {ks : Nat} {l : List (Nat × AV)} (hP : w.P = P) (hm : w.md = md) (hk : w.ks = ks) (hE : setsL l (v s0) = l) (h0 : J s0)
    (step : ∀ s, J s → ∀ w' : Wk, w'.P = P → w'.md = md → w'.ks = ks → w'.Q = LQD D ks l v J μ s (T w st) → C w' c [] (mkV ks (setsL l (v s)) [] [])) : LHD w c st D (mkV ks l [] []) := by
  refine ⟨fun n F => ∃ s, F = mkV ks (setsL l (v s)) [] [] ∧ J s ∧ μ s = n, ⟨_, s0, by rw [hE], h0, rfl⟩, ?_⟩
  rintro n F ⟨s, rfl, hs, rfl⟩
  refine wpB_mono c (step s hs { w with Q := LQD D ks l v J μ s (T w st) } hP hm hk rfl) fun x E1 h1 => ?_
  rw [T_nil] at h1
  cases x with
  | n => obtain ⟨s', e1, e2, e3⟩ := h1; rw [hk]; exact ⟨_, e3, s', e1, e2, rfl⟩
  | r => exact h1
  | e id => exact h1
end

/-- WHAT IS ASKED OF A FUNCTION -/
theorem spec_C {P : Program} {f nt : Nat} {rs : List RV} {cmd : Cmd} (hm : P.follows .mixedOrders = true) (hc : compile P f = some (nt, rs, cmd)) (md : Modes) (ks : Nat) (bs : List Bool) {args outs : List AV} {ret : AV}
    (hlen : args.length ≤ nt ∧ args.length ≤ 32) (hol : outs.length = args.length) (hroots : rootsOk bs args = true)
    (h : ∀ w : Wk, w.P = P → w.md = md → w.ks = ks → w.Q = Fin rs bs args ret outs → C w cmd [] (mkV ks (initA 0 bs args ++ initB 0 bs args) (initA 0 bs args ++ initB 0 bs args) [])) : Spec P f args ret outs := by
  refine spec_B hm hc md ks bs hlen hol hroots (wpB_mono cmd ?_ fun _ _ h => h)
  rw [mkE_V ks]
  exact wpB_mono cmd (h ⟨P, md, ks, Fin rs bs args ret outs⟩ rfl rfl rfl rfl) fun x E hx => by rw [T_nil] at hx; exact hx
theorem specEx_C {P : Program} {f nt : Nat} {rs : List RV} {cmd : Cmd} (hm : P.follows .mixedOrders = true) (hc : compile P f = some (nt, rs, cmd)) (md : Modes) (ks : Nat) (bs : List Bool) {args : List AV} {R : AV → List AV → Prop}
    (hlen : args.length ≤ nt ∧ args.length ≤ 32) (hroots : rootsOk bs args = true)
    (h : ∀ w : Wk, w.P = P → w.md = md → w.ks = ks → w.Q = FinEx rs bs args R → C w cmd [] (mkV ks (initA 0 bs args ++ initB 0 bs args) (initA 0 bs args ++ initB 0 bs args) [])) : ∃ ret outs, R ret outs ∧ Spec P f args ret outs := by
  refine specEx_B hm hc md ks bs hlen hroots (wpB_mono cmd ?_ fun _ _ h => h)
  rw [mkE_V ks]
  exact wpB_mono cmd (h ⟨P, md, ks, FinEx rs bs args R⟩ rfl rfl rfl rfl) fun x E hx => by rw [T_nil] at hx; exact hx

end Go.Proofs.YtjmnolhflcjpgaaGreat.Awp

