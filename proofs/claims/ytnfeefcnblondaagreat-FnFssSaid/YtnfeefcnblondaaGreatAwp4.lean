/- A general law about the translated programs is proved here: what a function's code does to values that are trees of cells (part 4 of 4). Condition: none. -/
import Derived.Test.YtnfeefcnblondaaGreatAwp3
set_option linter.unusedVariables false
set_option linter.unusedSimpArgs false
set_option maxRecDepth 100000
set_option maxHeartbeats 20000000
namespace Go.Proofs.YtnfeefcnblondaaGreat.Awp
theorem N {p q:Prop} (k:q) (e:p=q:=by conv=>lhs; simp +decide (maxSteps:=9^9) (disch:=omega) only [↓SB0,SX,seval,hQ]):p:=e ▸ k
theorem K {s p q:Prop} (x:s) (k:q) (e:s→q→p:=by intro x k; (first|refine cI hP x rfl rfl ?_|refine cH hP x rfl rfl ?_); (simp +decide (maxSteps:=9^9) (disch:=omega) only [↓SB0,SX,seval,hQ]) <;> exact k):p:=e x k
theorem N1 {p q:Prop} (k:q) (e:p=q:=by conv=>lhs; simp +decide (maxSteps:=9^9) (disch:=omega) only [↓SB0,SX,seval,hQ,hQ1]):p:=e ▸ k
theorem K1 {s p q:Prop} (x:s) (k:q) (e:s→q→p:=by intro x k; (first|refine cI hP1 x rfl rfl ?_|refine cH hP1 x rfl rfl ?_); (simp +decide (maxSteps:=9^9) (disch:=omega) only [↓SB0,SX,seval,hQ,hQ1]) <;> exact k):p:=e x k
theorem N2 {p q:Prop} (k:q) (e:p=q:=by conv=>lhs; simp +decide (maxSteps:=9^9) (disch:=omega) only [↓SB0,SX,seval,hQ,hQ1,hQ2]):p:=e ▸ k
theorem K2 {s p q:Prop} (x:s) (k:q) (e:s→q→p:=by intro x k; (first|refine cI hP2 x rfl rfl ?_|refine cH hP2 x rfl rfl ?_); (simp +decide (maxSteps:=9^9) (disch:=omega) only [↓SB0,SX,seval,hQ,hQ1,hQ2]) <;> exact k):p:=e x k
theorem Nz {p q:Prop} (k:q) (e:p=q:=by conv=>lhs; simp +decide (maxSteps:=9^9) (disch:=omega) only [↓SB0,SX,seval,hQ,hz]):p:=e ▸ k
theorem Kz {s p q:Prop} (x:s) (k:q) (e:s→q→p:=by intro x k; (first|refine cI hP x rfl rfl ?_|refine cH hP x rfl rfl ?_); (simp +decide (maxSteps:=9^9) (disch:=omega) only [↓SB0,SX,seval,hQ,hz]) <;> exact k):p:=e x k
theorem Nz1 {p q:Prop} (k:q) (e:p=q:=by conv=>lhs; simp +decide (maxSteps:=9^9) (disch:=omega) only [↓SB0,SX,seval,hQ,hQ1,hz]):p:=e ▸ k
theorem Kz1 {s p q:Prop} (x:s) (k:q) (e:s→q→p:=by intro x k; (first|refine cI hP1 x rfl rfl ?_|refine cH hP1 x rfl rfl ?_); (simp +decide (maxSteps:=9^9) (disch:=omega) only [↓SB0,SX,seval,hQ,hQ1,hz]) <;> exact k):p:=e x k
theorem Nz2 {p q:Prop} (k:q) (e:p=q:=by conv=>lhs; simp +decide (maxSteps:=9^9) (disch:=omega) only [↓SB0,SX,seval,hQ,hQ1,hQ2,hz]):p:=e ▸ k
theorem U {P:Program} {f nt:Nat} {rs:List RV} {cmd:Cmd} (hc:aE P f=some (nt,rs,cmd)) (md:fP) (ks:Nat) (bs:List Bool) {args outs:List AV} {ret:AV}
  (h:∀ w:Wk,w.P=P→(w.md=md∧w.ks=ks∧w.Q=Fin rs bs args ret outs)→C w cmd [] (mkV ks (bH 0 bs args++dG 0 bs args) (bH 0 bs args++dG 0 bs args) []))
  (hm:P.follows .mixedOrders=true:=by exact hmx) (hlen:args.length≤nt∧args.length≤32:=by exact ⟨lE rfl,lE rfl⟩) (hol:outs.length=args.length:=by exact rfl) (hroots:cR bs args=true:=by exact rfl):bR P f args ret outs:=
 akS hm hc md ks bs hlen hol hroots h
theorem Kd {s p q:Prop} (x:s) (k:q) (e:s→q→p:=by intro x k; (first|refine iM hP x (.inl ⟨rfl,fun _ hx=>hx⟩) ?_|refine f0 hP x (.inl ⟨rfl,fun _ hx=>hx⟩) ?_); (simp +decide (maxSteps:=9^9) (disch:=omega) only [↓SB0,SX,seval,hQ]) <;> exact k):p:=e x k
theorem Kd1 {s p q:Prop} (x:s) (k:q) (e:s→q→p:=by intro x k; (first|refine iM hP1 x (.inl ⟨rfl,fun _ hx=>hx⟩) ?_|refine f0 hP1 x (.inl ⟨rfl,fun _ hx=>hx⟩) ?_); (simp +decide (maxSteps:=9^9) (disch:=omega) only [↓SB0,SX,seval,hQ,hQ1]) <;> exact k):p:=e x k
theorem Kdz {s p q:Prop} (x:s) (k:q) (e:s→q→p:=by intro x k; (first|refine iM hP x (.inl ⟨rfl,fun _ hx=>hx⟩) ?_|refine f0 hP x (.inl ⟨rfl,fun _ hx=>hx⟩) ?_); (simp +decide (maxSteps:=9^9) (disch:=omega) only [↓SB0,SX,seval,hQ,hz]) <;> exact k):p:=e x k
theorem anV {s p q:Prop} (x:s) (k:q) (e:s→q→p:=by intro x k; (first|refine iM hP1 x (.inl ⟨rfl,fun _ hx=>hx⟩) ?_|refine f0 hP1 x (.inl ⟨rfl,fun _ hx=>hx⟩) ?_); (simp +decide (maxSteps:=9^9) (disch:=omega) only [↓SB0,SX,seval,hQ,hQ1,hz]) <;> exact k):p:=e x k
theorem Ke {s p q:Prop} (x:s) (k:q) (e:s→q→p:=by intro x k; (first|refine iM hP x (.inr rfl) ?_|refine f0 hP x (.inr rfl) ?_); (simp +decide (maxSteps:=9^9) (disch:=omega) only [↓SB0,SX,seval,hQ]) <;> exact k):p:=e x k
theorem Ke1 {s p q:Prop} (x:s) (k:q) (e:s→q→p:=by intro x k; (first|refine iM hP1 x (.inr rfl) ?_|refine f0 hP1 x (.inr rfl) ?_); (simp +decide (maxSteps:=9^9) (disch:=omega) only [↓SB0,SX,seval,hQ,hQ1]) <;> exact k):p:=e x k
theorem Ke2 {s p q:Prop} (x:s) (k:q) (e:s→q→p:=by intro x k; (first|refine iM hP2 x (.inr rfl) ?_|refine f0 hP2 x (.inr rfl) ?_); (simp +decide (maxSteps:=9^9) (disch:=omega) only [↓SB0,SX,seval,hQ,hQ1,hQ2]) <;> exact k):p:=e x k
theorem Jf {a b c d p:Prop} (x:c→a) (y:d→b) (e:(c→a)→(d→b)→p:=by intro x y; (first|with_reducible exact aol _ x y|exact aoo _ x y)):p:=e x y
theorem Jg {a b c d p:Prop} (x:c→a) (y:d→b) (e:(c→a)→(d→b)→p:=by intro x y; (first|with_reducible exact aom _ x y|exact aop _ x y)):p:=e x y
theorem Jh {a b c d p:Prop} (x:c→a) (y:d→b) (e:(c→a)→(d→b)→p:=by intro x y; (first|with_reducible exact aon _ x y|exact aoq _ x y)):p:=e x y
theorem Vw {P:Program} {f nt:Nat} {rs:List RV} {cmd:Cmd} (hc:aE P f=some (nt,rs,cmd)) (md:fP) (ks:Nat) (bs:List Bool) {args outs:List AV} {ret:AV} {q:Wk→Prop}
  (k:∀ w:Wk,w.P=P→(w.md=md∧w.ks=ks∧w.Q=Fin rs bs args ret outs)→q w)
  (h:∀ w:Wk,w.P=P→(w.md=md∧w.ks=ks∧w.Q=Fin rs bs args ret outs)→q w→C w cmd [] (mkV ks (bH 0 bs args++dG 0 bs args) (bH 0 bs args++dG 0 bs args) []):=by intro w hP hQ k; (simp +decide (maxSteps:=9^9) (disch:=omega) only [↓SB0,SX,seval,hQ]) <;> exact k)
  (hm:P.follows .mixedOrders=true:=by exact hmx) (hlen:args.length≤nt∧args.length≤32:=by exact ⟨lE rfl,lE rfl⟩) (hol:outs.length=args.length:=by exact rfl) (hroots:cR bs args=true:=by exact rfl):bR P f args ret outs:=
 akS hm hc md ks bs hlen hol hroots fun w h1 h2=>h w h1 h2 (k w h1 h2)
theorem T1 {p:Prop} (h:p:=by first|exact trivial|rfl|exact ⟨rfl,rfl⟩):p:=h
end Go.Proofs.YtnfeefcnblondaaGreat.Awp
