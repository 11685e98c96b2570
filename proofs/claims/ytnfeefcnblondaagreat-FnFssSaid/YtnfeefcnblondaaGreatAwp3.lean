/- A general law about the translated programs is proved here: what a function's code does to values that are trees of cells (part 3 of 4). Condition: none. -/
import Derived.Test.YtnfeefcnblondaaGreatAwp2
import Derived.Orders
import Derived.SizedLaws
import Derived.JoinedOf
import Derived.RowKit
import Derived.ChangeSame
set_option linter.unusedVariables false
set_option linter.unusedSimpArgs false
set_option maxRecDepth 100000
set_option maxHeartbeats 20000000
namespace Go.Proofs.YtnfeefcnblondaaGreat.Awp
section
variable {P:Program} {w w':World} {B:Base} {hid hv:Nat→Value} {a:Act} {E:Env} {Q:Exit→Act→World→Prop}
abbrev aec:=GI × List M × Rcd
theorem gM {p:Nat→Prop} (h:∃ n,p n):∃ n,p n∧∀ m,m<n→¬ p m:=by
 classical
 obtain ⟨n,hn⟩:=h
 induction n using Nat.strongRecOn with
 | _ n ih=>
  by_cases h:∃ m,m<n∧p m
  ·obtain ⟨m,h1,h2⟩:=h; exact ih m h1 h2
  ·exact ⟨n,hn,fun m hm hp=>h ⟨m,hm,hp⟩⟩
def abj (P:Program) (o:aec) (E E':Env):Prop:=
 (match o.1.g with
  | none=>l7 P o.1.i o.2.1 E E'∧∀ t ∈ aG E o.1.i,t ∈ o.2.2.1
  | some (t,b)=>t ∈ o.2.2.1∧((∃ c,E.f t=.bool c∧(c=b→l7 P o.1.i o.2.1 E E'∧∀ t ∈ aG E o.1.i,t ∈ o.2.2.1) ∧
    (c≠b→E'=mQ E o.1.d (.tup [])∧∀ q ∈ o.1.d.toList,q ∈ o.2.2.1))∨(E.f t=.tup []∧E'=mQ E o.1.d (.tup [])∧∀ q ∈ o.1.d.toList,q ∈ o.2.2.1))) ∧
 ∀ t,t ∉ o.2.2.2→SameAt E E' t
theorem alD {S:Nat→Bool} {A E E':Env} {t:Nat} (h:SameAt E E' t):SameAt (mg S A E) (mg S A E') t:=by
 unfold SameAt mg at *
 simp only
 by_cases hs:S t=true
 ·simp [hs]
 ·simp [hs,h.1,h.2]
theorem ac3 {S:Nat→Bool} {A E E':Env} {o:aec} (ht:∀ t ∈ o.2.2.1,S t=false) (h:abj P o E E'):abj P o (mg S A E) (mg S A E'):=by
 obtain ⟨h1,h2⟩:=h
 refine ⟨?_,fun t hn=>alD (h2 t hn)⟩
 have go:(l7 P o.1.i o.2.1 E E'∧∀ t ∈ aG E o.1.i,t ∈ o.2.2.1)→l7 P o.1.i o.2.1 (mg S A E) (mg S A E')∧∀ t ∈ aG (mg S A E) o.1.i,t ∈ o.2.2.1:=by
  rintro ⟨k1,k2⟩
  have k3:∀ t ∈ aG E o.1.i,S t=false:=fun t hm=>ht t (k2 t hm)
  exact ⟨ajj _ k3 k1,by rw [ajk _ k3]; exact k2⟩
 cases hg:o.1.g with
 | none=>rw [hg] at h1; exact go h1
 | some q=>
  obtain ⟨t,b⟩:=q
  rw [hg] at h1
  obtain ⟨k0,⟨c,k1,k2,k3⟩ | ⟨k1,k4,k5⟩⟩:=h1
  ·refine ⟨k0,.inl ⟨c,by rw [rV (ht t k0)]; exact k1,fun e=>go (k2 e),fun e=>?_⟩⟩
   obtain ⟨k4,k5⟩:=k3 e
   exact ⟨by rw [k4,wQ fun q hq=>ht q (k5 q hq)],k5⟩
  ·exact ⟨k0,.inr ⟨by rw [rV (ht t k0)]; exact k1,by rw [k4,wQ fun q hq=>ht q (k5 q hq)],k5⟩⟩
def ac4 (P:Program):List aec→Env→Env→Prop
 | [],E,E'=>E'=E
 | o::l,E,E'=>∃ E1,abj P o E E1∧ac4 P l E1 E'
def ajv (o q:aec):Prop:=(∀ t ∈ o.2.2.2,t ∉ q.2.2.1∧t ∉ q.2.2.2)∧∀ t ∈ q.2.2.2,t ∉ o.2.2.1
def inL (l:List Nat) (t:Nat):Bool:=l.contains t
theorem alE {l:List Nat} {t:Nat} (h:t ∈ l):inL l t=true:=by unfold inL; simpa using h
theorem ajw {l:List Nat} {t:Nat} (h:t ∉ l):inL l t=false:=by unfold inL; simpa using h
theorem alF {S:Nat→Bool} {A E E':Env} (h1:∀ t,S t=true→SameAt A E' t) (h2:∀ t,S t=false→SameAt E E' t):mg S A E=E':=by
 apply Env.ext'
 ·intro t
  show (if S t then A.f t else E.f t)=E'.f t
  cases h:S t with
  | true=>exact (h1 t h).1.symm
  | false=>exact (h2 t h).1.symm
 ·intro t
  show (if S t then A.ep t else E.ep t)=E'.ep t
  cases h:S t with
  | true=>exact (h1 t h).2.symm
  | false=>exact (h2 t h).2.symm
theorem ajx {o q:aec} (hi:ajv o q) {l:List aec} {E E':Env} (h:ac4 P (o::q::l) E E'):ac4 P (q::o::l) E E':=by
 obtain ⟨E1,h1,E2,h2,h3⟩:=h
 have e1:mg (inL o.2.2.2) E E1=E:=alF (fun _ _=>SameAt.rfl') fun t ht=>by
  have:=h1.2 t (fun hm=>by rw [alE hm] at ht; cases ht)
  exact ⟨this.1.symm,this.2.symm⟩
 have k1:=ac3 (S:=inL o.2.2.2) (A:=E) (fun t ht=>ajw fun hm=>(hi.1 t hm).1 ht) h2
 rw [e1] at k1
 generalize hF:mg (inL o.2.2.2) E E2=F1 at k1
 have e2:mg (inL q.2.2.2) F1 E=F1:=alF (fun _ _=>SameAt.rfl') fun t ht=>k1.2 t (fun hm=>by rw [alE hm] at ht; cases ht)
 have k2:=ac3 (S:=inL q.2.2.2) (A:=F1) (fun t ht=>ajw fun hm=>hi.2 t hm ht) h1
 rw [e2] at k2
 have e3:mg (inL q.2.2.2) F1 E1=E2:=alF (fun t ht=>by
  have hq:t ∈ q.2.2.2:=by
   cases Classical.em (t ∈ q.2.2.2) with
   | inl h=>exact h
   | inr h=>rw [ajw h] at ht; cases ht
  have ho:t ∉ o.2.2.2:=fun hm=>(hi.1 t hm).2 hq
  rw [← hF]
  unfold SameAt mg
  simp [ajw ho]) fun t ht=>h2.2 t (fun hm=>by rw [alE hm] at ht; cases ht)
 rw [e3] at k2
 exact ⟨F1,k1,E2,k2,h3⟩
theorem alG {o q:aec} (hx:xxG o.1 q.1=true) {E E1 E2:Env} (h1:abj P o E E1) (h2:abj P q E1 E2):∃ F1,abj P q E F1∧abj P o F1 E2:=by
 obtain ⟨⟨g1,dd1,i1⟩,m1,r1⟩:=o
 obtain ⟨⟨g2,dd2,i2⟩,m2,r2⟩:=q
 simp only [xxG,lN,Option.isNone_iff_eq_none] at hx
 obtain ⟨rfl,rfl,hx⟩:=hx
 unfold xxI at hx
 split at hx
 case h_2=>cases hx
 rename_i d1 n k1 d2 m k2
 simp only [lN,beq_iff_eq,bne_iff_ne] at hx
 obtain ⟨rfl,hk,hd,hn1,hn2⟩:=hx
 obtain ⟨⟨e1,t1⟩,s1⟩:=h1
 obtain ⟨⟨e2,t2⟩,s2⟩:=h2
 simp only [l7,ev] at e1 e2
 cases hv:E.f n with
 | tup vs=>
  rw [hv] at e1
  simp only at e1
  obtain ⟨c1,hc1,rfl⟩:=map_some e1
  have hE1:(if c1.owns=true then (E.put n (.tup (vs.set k1 .undef))).put d1 c1 else E.put d1 c1).f n=.tup (if c1.owns=true then vs.set k1 .undef else vs):=by
   split
   ·rw [bV hn1.symm,cN]
   ·rw [bV hn1.symm,hv]
  rw [hE1] at e2
  simp only at e2
  obtain ⟨c2,hc2,rfl⟩:=map_some e2
  have hc2':vs[k2]?=some c2:=by
   split at hc2
   ·rwa [List.getElem?_set_ne hk] at hc2
   ·exact hc2
  have hroot:(E.f n).isRoot=false:=by rw [hv]; rfl
  let F1:Env:=if c2.owns=true then (E.put n (.tup (vs.set k2 .undef))).put d2 c2 else E.put d2 c2
  have hF1:F1.f n=.tup (if c2.owns=true then vs.set k2 .undef else vs):=by
   show (if c2.owns=true then _ else _:Env).f n=_
   split
   ·rw [bV hn2.symm,cN]
   ·rw [bV hn2.symm,hv]
  have hcomm:(vs.set k1 AV.undef).set k2 AV.undef=(vs.set k2 AV.undef).set k1 AV.undef:=List.set_comm _ _ hk
  have pne:∀ (E:Env) (d:Nat) (x:AV) (t:Nat),t≠d→(E.put d x).ep t=E.ep t:=fun E d x t h=>cW h
  have peq:∀ (E:Env) (d:Nat) (x:AV),(E.put d x).ep d=if (E.f d).isRoot=true then ((E.ep d).1+1,(E.ep d).2+1) else E.ep d:=by
   intro E d x
   simp [Env.put]
  have back:(if c1.owns=true then (F1.put n (.tup ((if c2.owns=true then vs.set k2 AV.undef else vs).set k1 .undef))).put d1 c1 else F1.put d1 c1) =
    (if c2.owns=true then ((if c1.owns=true then (E.put n (.tup (vs.set k1 .undef))).put d1 c1 else E.put d1 c1).put n (.tup ((if c1.owns=true then vs.set k1 AV.undef else vs).set k2 .undef))).put d2 c2
     else (if c1.owns=true then (E.put n (.tup (vs.set k1 .undef))).put d1 c1 else E.put d1 c1).put d2 c2):=by
   have hnr1:∀ x,(AV.tup x).isRoot=false:=fun _=>rfl
   apply Env.ext'
   ·intro t
    show _=_
    by_cases a1:t=n
    ·subst a1
     cases h1:c1.owns <;> cases h2:c2.owns <;> simp [F1,h1,h2,kR,hn1.symm,hn2.symm,hcomm]
    ·by_cases a2:t=d1
     ·subst a2
      cases h1:c1.owns <;> cases h2:c2.owns <;> simp [F1,h1,h2,kR,a1,hd]
     ·by_cases a3:t=d2
      ·subst a3
       cases h1:c1.owns <;> cases h2:c2.owns <;> simp [F1,h1,h2,kR,a1,a2]
      ·cases h1:c1.owns <;> cases h2:c2.owns <;> simp [F1,h1,h2,kR,a1,a2,a3]
   ·intro t
    by_cases a1:t=n
    ·subst a1
     cases h1:c1.owns <;> cases h2:c2.owns <;> simp [F1,h1,h2,pne,peq,kR,hn1.symm,hn2.symm,hroot,hnr1]
    ·by_cases a2:t=d1
     ·subst a2
      cases h1:c1.owns <;> cases h2:c2.owns <;> simp [F1,h1,h2,pne,peq,kR,a1,hd]
     ·by_cases a3:t=d2
      ·subst a3
       cases h1:c1.owns <;> cases h2:c2.owns <;> simp [F1,h1,h2,pne,peq,kR,a1,a2]
      ·cases h1:c1.owns <;> cases h2:c2.owns <;> simp [F1,h1,h2,pne,a1,a2,a3]
  have noundef:c1.owns=true→vs.set k1 .undef≠vs:=by
   intro h e
   have:=congrArg (·[k1]?) e
   try simp only at this
   rw [hc1] at this
   have hlt:k1<vs.length:=by
    cases hq:decide (k1<vs.length) with
    | true=>exact of_decide_eq_true hq
    | false=>rw [lV1 (by have:=of_decide_eq_false hq; omega)] at hc1; cases hc1
   rw [List.getElem?_set_self hlt] at this
   cases this; cases h
  have noundef2:c2.owns=true→vs.set k2 .undef≠vs:=by
   intro h e
   have:=congrArg (·[k2]?) e
   try simp only at this
   rw [hc2'] at this
   have hlt:k2<vs.length:=by
    cases hq:decide (k2<vs.length) with
    | true=>exact of_decide_eq_true hq
    | false=>rw [lV1 (by have:=of_decide_eq_false hq; omega)] at hc2'; cases hc2'
   rw [List.getElem?_set_self hlt] at this
   cases this; cases h
  refine ⟨F1,⟨⟨?_,?_⟩,?_⟩,⟨⟨?_,?_⟩,?_⟩⟩
  ·simp only [l7,ev]
   rw [hv]
   simp only
   rw [hc2']
   rfl
  ·exact t2
  ·intro t ht
   have hs:=s2 t ht
   by_cases a3:t=d2
   ·subst a3
    have hf:=hs.1
    have hep:=hs.2
    refine ⟨?_,?_⟩
    ·cases h1:c1.owns <;> cases h2:c2.owns <;> simp [F1,h1,h2,kR,hd.symm,hn2] at hf ⊢ <;> exact hf
    ·cases h1:c1.owns <;> cases h2:c2.owns <;> simp [F1,h1,h2,pne,peq,kR,hd.symm,hn2] at hep ⊢ <;> exact hep
   ·by_cases a1:t=n
    ·subst a1
     cases h2:c2.owns with
     | false=>
      refine ⟨?_,?_⟩
      ·simp [F1,h2,kR,hn2.symm]
      ·simp [F1,h2,pne,hn2.symm]
     | true=>
      exfalso
      have hf:=hs.1
      rw [hE1] at hf
      simp only [h2,lP] at hf
      rw [bV hn2.symm,cN] at hf
      injection hf with hf
      cases h1:c1.owns with
      | false=>rw [h1] at hf; simp only [lW3,lG1] at hf; exact noundef2 h2 hf
      | true=>
       rw [h1] at hf
       simp only [lP] at hf
       have:=congrArg (·[k2]?) hf
       try simp only at this
       rw [List.getElem?_set_ne hk,hc2'] at this
       have hlt:k2<(vs.set k1 AV.undef).length:=by
        rw [List.length_set]
        cases hq:decide (k2<vs.length) with
        | true=>exact of_decide_eq_true hq
        | false=>rw [lV1 (by have:=of_decide_eq_false hq; omega)] at hc2'; cases hc2'
       rw [List.getElem?_set_self hlt] at this
       cases this; cases h2
    ·refine ⟨?_,?_⟩
     ·cases h2:c2.owns <;> simp [F1,h2,kR,a1,a3]
     ·cases h2:c2.owns <;> simp [F1,h2,pne,a1,a3]
  ·simp only [l7,ev]
   rw [hF1]
   simp only
   have:(if c2.owns=true then vs.set k2 AV.undef else vs)[k1]?=some c1:=by
    split
    ·rw [List.getElem?_set_ne (Ne.symm hk)]; exact hc1
    ·exact hc1
   rw [this,lB,back]
  ·exact t1
  ·intro t ht
   rw [← back]
   have hs:=s1 t ht
   by_cases a3:t=d1
   ·subst a3
    have hf:=hs.1
    have hep:=hs.2
    refine ⟨?_,?_⟩
    ·cases h1:c1.owns <;> cases h2:c2.owns <;> simp [F1,h1,h2,kR,hd,hn1] at hf ⊢ <;> exact hf
    ·cases h1:c1.owns <;> cases h2:c2.owns <;> simp [F1,h1,h2,pne,peq,kR,hd,hn1] at hep ⊢ <;> exact hep
   ·by_cases a1:t=n
    ·subst a1
     cases h1:c1.owns with
     | false=>
      refine ⟨?_,?_⟩
      ·simp [kR,hn1.symm]
      ·simp [pne,hn1.symm]
     | true=>
      exfalso
      have hf:=hs.1
      simp only [h1,lP] at hf
      rw [bV hn1.symm,cN,hv] at hf
      injection hf with hf
      exact noundef h1 hf
    ·refine ⟨?_,?_⟩
     ·cases h1:c1.owns <;> simp [kR,a1,a3]
     ·cases h1:c1.owns <;> simp [pne,a1,a3]
 | _=>rw [hv] at e1; cases e1
theorem yP {q:aec}:∀ (pre:List aec) {post:List aec} {E E':Env},(∀ o ∈ pre,ajv o q∨xxG o.1 q.1=true)→ac4 P (pre++q::post) E E'→ac4 P (q::(pre++post)) E E':=by
 intro pre
 induction pre with
 | nil=>intro post E E' _ h; exact h
 | cons o pre ih=>
  intro post E E' hi h
  obtain ⟨k,h1,h2⟩:=h
  have:=ih (fun o ho=>hi o (by simp [ho])) h2
  rcases hi o (by simp) with hi' | hx
  ·exact ajx hi' ⟨k,h1,this⟩
  ·obtain ⟨k2,g1,g2⟩:=this
   obtain ⟨F1,f1,f2⟩:=alG hx h1 g1
   exact ⟨F1,f1,_,f2,g2⟩
theorem yQ {bs:List Nat} {K:Env→Prop}:∀ (l:List GI) (acc:List Rcd) (E:Env),m8 P bs acc l K E →
  ∃ its E',its.map (·.1)=l∧ac4 P its E E'∧xX bs (acc++its.map (·.2.2))=true∧K E':=by
 intro l
 induction l with
 | nil=>intro acc E h; exact ⟨[],E,rfl,rfl,by simpa using h.1,h.2⟩
 | cons g l ih=>
  intro acc E h
  have go:∀ {ts:List Nat},uM P g.i (fun ms E'=>m8 P bs (acc++[(ts++aG E g.i,wrI E ms g.i)]) l K E') E →
    ∃ ms E1,l7 P g.i ms E E1∧∃ its E',its.map (·.1)=l∧ac4 P its E1 E'∧xX bs (acc++(ts++aG E g.i,wrI E ms g.i)::its.map (·.2.2))=true∧K E':=by
   intro ts hs
   obtain ⟨ms,E1,h1,h2⟩:=alt _ hs
   obtain ⟨its,E',k1,k2,k3,k4⟩:=ih _ E1 h2
   exact ⟨ms,E1,h1,its,E',k1,k2,by simpa using k3,k4⟩
  cases hg:g.g with
  | none=>
   simp only [m8,hg] at h
   obtain ⟨ms,E1,h1,its,E',k1,k2,k3,k4⟩:=go (ts:=[]) h
   refine ⟨(g,ms,(aG E g.i,wrI E ms g.i))::its,E',by simp [k1],⟨E1,⟨?_,fun t ht=>u7 _ h1 ht⟩,k2⟩,by simpa using k3,k4⟩
   simp only [hg]
   exact ⟨h1,fun t ht=>ht⟩
  | some q=>
   obtain ⟨t,b⟩:=q
   simp only [m8,hg] at h
   have skip:(m8 P bs (acc++[(t::g.d.toList,g.d.toList)]) l K (mQ E g.d (.tup [])))→((∃ c,E.f t=.bool c∧c≠b)∨E.f t=.tup []) →
     ∃ its E',its.map (·.1)=g::l∧ac4 P its E E'∧xX bs (acc++its.map (·.2.2))=true∧K E':=by
    intro h2 hc
    obtain ⟨its,E',k1,k2,k3,k4⟩:=ih _ _ h2
    refine ⟨(g,[],(t::g.d.toList,g.d.toList))::its,E',by simp [k1],⟨mQ E g.d (.tup []),⟨?_,fun q hq=>?_⟩,k2⟩,by simpa using k3,k4⟩
    ·simp only [hg]
     rcases hc with ⟨c,hc,e⟩ | hc
     ·exact ⟨by simp,.inl ⟨c,hc,fun n=>absurd n e,fun _=>⟨by trivial,fun q hq=>by simp [hq]⟩⟩⟩
     ·exact ⟨by simp,.inr ⟨hc,by trivial,fun q hq=>by simp [hq]⟩⟩
    ·cases hd:g.d with
     | none=>exact SameAt.rfl'
     | some d=>simp only [hd,Option.toList_some,lC1] at hq; exact uK hq
   rcases h with ⟨c,hc,h1,h2⟩ | ⟨hc,h2⟩
   ·by_cases e:c=b
    ·obtain ⟨ms,E1,h3,its,E',k1,k2,k3,k4⟩:=go (ts:=[t]) (h1 e)
     refine ⟨(g,ms,(t::aG E g.i,wrI E ms g.i))::its,E',by simp [k1],⟨E1,⟨?_,fun t ht=>u7 _ h3 ht⟩,k2⟩,by simpa using k3,k4⟩
     simp only [hg]
     exact ⟨by simp,.inl ⟨c,hc,fun _=>⟨h3,fun q hq=>by simp [hq]⟩,fun n=>absurd e n⟩⟩
    ·exact skip (h2 e) (.inl ⟨c,hc,e⟩)
   ·exact skip h2 (.inr hc)
theorem nZ {a b:List Nat} (h:xW a b=true):∀ t ∈ a,t ∉ b:=by
 intro t ht
 unfold xW at h
 rw [lV] at h
 simpa using h t ht
theorem agK {bs:List Nat} {rs:List Rcd} (h:xX bs rs=true) {i j:Nat} (hij:i<j) (hj:j<rs.length) {o q:Rcd} (ho:rs[i]?=some o) (hq:rs[j]?=some q) :
  (bs.getD j 0).testBit i=true∨acI o q=true:=by
 unfold xX at h
 rw [lV] at h
 have:=h j (by simpa using hj)
 rw [lV] at this
 have:=this i (by simpa using hij)
 simpa [ho,hq] using this
theorem alH {acc:Array Nat} {j:Nat}:∀ (l:List Edge) (s:Nat),(l.foldl (fun s e=>if Region.binds .any e then s ||| 2^e.on ||| acc.getD e.on 0 else s) s).testBit j=true →
  s.testBit j=true∨∃ e ∈ l,Region.binds .any e=true∧(j=e.on∨(acc.getD e.on 0).testBit j=true):=by
 intro l
 induction l with
 | nil=>intro s h; exact .inl h
 | cons e l ih=>
  intro s h
  simp only [lV2] at h
  rcases ih _ h with h | ⟨e',h1,h2⟩
  ·by_cases hb:Region.binds .any e=true
   ·rw [lF hb] at h
    rw [Nat.testBit_or,Nat.testBit_or,Nat.testBit_two_pow] at h
    simp only [lK4,decide_eq_true_eq] at h
    rcases h with (h | h) | h
    ·exact .inl h
    ·exact .inr ⟨e,by simp,hb,.inl h.symm⟩
    ·exact .inr ⟨e,by simp,hb,.inr h⟩
   ·rw [lK hb] at h; exact .inl h
  ·exact .inr ⟨e',by simp [h1],h2⟩
def jI (acc:Array Nat) (o:Oper):Array Nat:=acc.push (o.after.foldl (fun s e=>if Region.binds .any e then s ||| 2^e.on ||| acc.getD e.on 0 else s) 0)
theorem yR (ops:Array Oper):Region.before ops=ops.toList.foldl jI #[]:=by
 unfold Region.before
 rw [← Array.foldl_toList]
 rfl
theorem alI:∀ (l:List Oper) (acc:Array Nat),(∀ k,k<acc.size→(l.foldl jI acc).getD k 0=acc.getD k 0) ∧
  ∀ m o,l[m]?=some o→∀ j,((l.foldl jI acc).getD (acc.size+m) 0).testBit j=true →
   ∃ e ∈ o.after.toList,Region.binds .any e=true∧(j=e.on∨((l.foldl jI acc).getD e.on 0).testBit j=true):=by
 intro l
 induction l with
 | nil=>intro acc; exact ⟨fun _ _=>rfl,fun m o h=>by simp at h⟩
 | cons q l ih=>
  intro acc
  obtain ⟨h1,h2⟩:=ih (jI acc q)
  have hsz:(jI acc q).size=acc.size+1:=by simp [jI]
  have hold:∀ k,k<acc.size→(List.foldl jI acc (q::l)).getD k 0=acc.getD k 0:=by
   intro k hk
   simp only [lV2]
   rw [h1 k (by omega)]
   simp only [jI,lW]
   rw [Array.getElem?_push_lt hk,lE1 hk]
  refine ⟨hold,?_⟩
  intro m o hm j hj
  cases m with
  | zero=>
   simp only [lO3,Option.some.injEq] at hm
   subst hm
   simp only [lV2,lQ3] at hj
   rw [h1 acc.size (by omega)] at hj
   simp only [jI,lW,Array.getElem?_push_size,lF1] at hj
   rw [← Array.foldl_toList] at hj
   have:=alH (acc:=acc) q.after.toList 0 (by simpa [lW] using hj)
   rcases this with h | ⟨e,e1,e2,e3⟩
   ·simp at h
   ·refine ⟨e,e1,e2,?_⟩
    rcases e3 with e3 | e3
    ·exact .inl e3
    ·right
     by_cases hlt:e.on<acc.size
     ·rw [hold _ hlt]; exact e3
     ·rw [lW,lG4 (by omega)] at e3
      simp at e3
  | succ m=>
   simp only [List.getElem?_cons_succ] at hm
   simp only [lV2] at hj ⊢
   have:=h2 m o hm j (by rw [hsz,show acc.size+1+m=acc.size+(m+1) by omega]; exact hj)
   exact this
theorem rG (ops:Array Oper) {i:Nat} {o:Oper} (hi:ops[i]?=some o) {j:Nat} (h:((dY ops).getD i 0).testBit j=true) :
  ∃ e ∈ o.after.toList,Region.binds .any e=true∧(j=e.on∨((dY ops).getD e.on 0).testBit j=true):=by
 have hq:∀ k,(dY ops).getD k 0=(Region.before ops).getD k 0:=by
  intro k; simp [dY,lU,lW]
 rw [hq] at h
 rw [yR] at h
 obtain ⟨e,h1,h2,h3⟩:=(alI ops.toList #[]).2 i o (by simpa using hi) j (by simpa using h)
 refine ⟨e,h1,h2,?_⟩
 rw [hq,yR]; exact h3
def nC (n:Nat) (L:Array Bool):List Nat:=(List.range n).filter fun i=>!L.getD i true
theorem pL {L:Array Bool} {i j:Nat} (hi:i<L.size):(L.setIfInBounds i true).getD j true=if j=i then true else L.getD j true:=by
 simp only [lW]
 by_cases e:j=i
 ·subst e; simp [hi]
 ·rw [Array.getElem?_setIfInBounds_ne (Ne.symm e)]; simp [e]
theorem ac5 {n i:Nat} {L:Array Bool} (hi:i<n) (hs:L.size=n) (hu:L.getD i true=false) :
  ∃ pre post,nC n L=pre++i::post∧nC n (L.setIfInBounds i true)=pre++post∧(∀ j ∈ pre,j<i∧L.getD j true=false):=by
 have e:List.range n=List.range i++i::List.range' (i+1) (n-(i+1)):=by
  rw [List.range_eq_range',List.range_eq_range']
  have:n=i+(n-i):=by omega
  rw [this,← List.range'_append]
  congr 1
  obtain ⟨m,hm⟩:∃ m,n-i=m+1:=⟨n-i-1,by omega⟩
  rw [show i+(n-i)-(i+1)=m by omega,hm,List.range'_succ]
  simp
 refine ⟨(List.range i).filter fun i=>!L.getD i true,(List.range' (i+1) (n-(i+1))).filter fun i=>!L.getD i true,?_,?_,?_⟩
 ·unfold nC; rw [e,List.filter_append,List.filter_cons]; simp [hu]
 ·unfold nC
  rw [e,lL3,lE4]
  rw [pL (by omega)]
  simp only [lP,Bool.not_true,lW3,lG1]
  congr 1
  ·apply List.filter_congr
   intro j hj
   have:j<i:=by simpa using hj
   rw [pL (by omega),lK (by omega)]
  ·apply List.filter_congr
   intro j hj
   have:i+1≤j:=(List.mem_range'_1.1 hj).1
   rw [pL (by omega),lK (by omega)]
 ·intro j hj
  obtain ⟨h1,h2⟩:=lF3.1 hj
  exact ⟨by simpa using h1,by simpa using h2⟩
theorem ac6 {n:Nat} {ops:Array Oper}:∀ {l:List Oper} {is:List GI} {i:Nat} {o:Oper},acJ P n ops l=some is→l[i]?=some o →
  ∃ g,is[i]?=some g∧cOp P n o=some g.i∧g.d=o.dst∧(match o.guard with
   | none=>g.g=none
   | some (j,b)=>∃ t,((ops[j]?).bind (·.dst))=some t∧t<n∧g.g=some (t,b)):=by
 intro l
 induction l with
 | nil=>intro is i o _ h; simp at h
 | cons q l ih=>
  intro is i o hc hi
  simp only [acJ] at hc
  obtain ⟨x,hx,hc⟩:=bind_some hc
  obtain ⟨rest,hr,hc⟩:=bind_some hc
  cases i with
  | zero=>
   simp only [lO3,Option.some.injEq] at hi
   subst hi
   split at hc
   ·rename_i hg; cases hc; exact ⟨_,rfl,hx,rfl,by rw [hg]⟩
   ·rename_i j b hg
    obtain ⟨t,ht,hc⟩:=bind_some hc
    obtain ⟨htn,hc⟩:=aD hc
    cases hc
    exact ⟨_,rfl,hx,rfl,by rw [hg]; exact ⟨t,ht,htn,rfl⟩⟩
  | succ i=>
   simp only [List.getElem?_cons_succ] at hi
   obtain ⟨g,h1,h2⟩:=ih hr hi
   refine ⟨g,?_,h2⟩
   split at hc
   ·cases hc; simpa using h1
   ·obtain ⟨t,ht,hc⟩:=bind_some hc
    obtain ⟨htn,hc⟩:=aD hc
    cases hc
    simpa using h1
theorem yS (G:bB B hv w a E) (hw:w'.heap=w.heap) (hk:Quiet w w':=by exact ⟨rfl,rfl⟩):bB B hv w' a E:=by
 obtain ⟨hid,Fs,Xs,R,hh⟩:=G
 have sm:∀ F,j9 w w' F:=fun F b _=>by rw [hw]
 refine ⟨hid,Fs,Xs,?_,hh⟩
 refine R.change (fun _=>False) R.size R.dfr (fun t _=>⟨rfl,rfl,rfl,rfl,rfl,sm _,sm _⟩) (fun _ h=>h.elim) (fun _ _ h=>h.elim) (fun _ h=>h.elim) (fun _ h=>h.elim) (fun _ h=>h.elim)
  (fun _ h=>h.elim) ⟨by rw [hw]; exact lS1 _,hk⟩ (fun b _ _=>by rw [hw]) (fun _ h=>h.elim) (fun _ h=>h.elim)
theorem iC {ops:Array Oper} (h:oR ops=true) {i:Nat} {o:Oper} (hi:ops[i]?=some o) {e:Edge} (he:e ∈ o.after.toList) (hb:Region.binds .any e=true):e.on<i:=by
 unfold oR at h
 rw [lV] at h
 have:=h (o,i) (by rw [List.mem_zipIdx_iff_getElem?]; simpa using hi)
 rw [lV] at this
 have:=this e he
 simpa [hb] using this
theorem agL (hn:B.n≤1000) {ops:Array Oper} {is:List GI} {os:Nat→aec} (hc:acJ P B.n ops ops.toList=some is) (hos:∀ i g,is[i]?=some g→(os i).1=g)
  (hind:∀ i j,i<j→j<ops.size→((dY ops).getD j 0).testBit i=true∨(ajv (os i) (os j)∨xxG (os i).1 (os j).1=true)) (hedge:oR ops=true) {E':Env}
  (hQ:∀ a' w',bB B hv w' a' E'→Q .normal a' w') :
  ∀ (fuel:Nat) (L:Array Bool) (E:Env) (a:Act) (w:World),L.size=ops.size→(nC ops.size L).length≤fuel →
   (∀ i,i<ops.size→L.getD i true=true→∀ j,((dY ops).getD i 0).testBit j=true→L.getD j true=true) →
   ac4 P ((nC ops.size L).map os) E E'→bB B hv w a E→wpAny P .any ops Q fuel L a w:=by
 have none_left:∀ (L:Array Bool),Region.ready .any ops L=[]→L.size=ops.size→nC ops.size L=[]:=by
  intro L hr hs
  cases hrem:nC ops.size L with
  | nil=>rfl
  | cons x xs=>
   exfalso
   have hx:x ∈ nC ops.size L:=by rw [hrem]; simp
   have hex:∃ i,i<ops.size∧L.getD i true=false:=by
    obtain ⟨h1,h2⟩:=lF3.1 hx
    exact ⟨x,by simpa using h1,by simpa using h2⟩
   obtain ⟨i,⟨h1,h2⟩,hmin⟩:=gM hex
   have:i ∈ Region.ready .any ops L:=by
    unfold Region.ready
    rw [lF3]
    refine ⟨by simpa using h1,?_⟩
    rw [h2,lE1 h1]
    simp only [Bool.not_false,lV4,lB,lF1]
    rw [← Array.all_toList,lV]
    intro e he
    by_cases hb:Region.binds .any e=true
    ·have hlt:=iC hedge (lE1 h1) he hb
     have:L.getD e.on true=true:=by
      cases hc:L.getD e.on true with
      | true=>rfl
      | false=>exact absurd ⟨by omega,hc⟩ (hmin e.on hlt)
     rw [lW,lE1 (by omega)] at this ⊢
     simp only [lF1] at this ⊢
     simp [this]
    ·simp [hb]
   rw [hr] at this
   simp at this
 intro fuel
 induction fuel with
 | zero=>
  intro L E a w hs hl hcl hrun G
  have hrem:nC ops.size L=[]:=List.eq_nil_of_length_eq_zero (by omega)
  rw [hrem] at hrun
  have hE:E'=E:=hrun
  subst hE
  refine ⟨?_,hQ a w G⟩
  cases hr:Region.ready .any ops L with
  | nil=>rfl
  | cons i l=>
   exfalso
   have hi:i ∈ Region.ready .any ops L:=by rw [hr]; simp
   unfold Region.ready at hi
   rw [lF3] at hi
   obtain ⟨h1,h2⟩:=hi
   have:i ∈ nC ops.size L:=by
    unfold nC; rw [List.mem_filter]
    refine ⟨h1,?_⟩
    simp only [lN] at h2
    exact h2.1
   rw [hrem] at this
   simp at this
 | succ fuel ih=>
  intro L E a w hs hl hcl hrun G
  refine ⟨?_,?_⟩
  ·intro hr
   have hrem:=none_left L hr hs
   rw [hrem] at hrun
   have hE:E'=E:=hrun
   subst hE
   exact hQ a w G
  ·intro i hi
   unfold Region.ready at hi
   rw [lF3] at hi
   obtain ⟨h1,h2⟩:=hi
   have hlt:i<ops.size:=by simpa using h1
   have hget:ops[i]?=some ops[i]:=lE1 hlt
   simp only [lN,hget,lB,lF1,lO4] at h2
   obtain ⟨hu,hall⟩:=h2
   rw [← Array.all_toList,lV] at hall
   have hin:∀ e ∈ (ops[i]).after.toList,Region.binds .any e=true→L.getD e.on true=true:=by
    intro e he hb
    have h3:=hall e he
    simp only [hb,Bool.not_true,lT4] at h3
    have hl1:=iC hedge hget he hb
    rw [lW,lE1 (by omega)] at h3 ⊢
    exact h3
   have hbef:∀ j,((dY ops).getD i 0).testBit j=true→L.getD j true=true:=by
    intro j hj
    obtain ⟨e,e1,e2,e3⟩:=rG ops hget hj
    rcases e3 with rfl | e3
    ·exact hin e e1 e2
    ·exact hcl e.on (by have:=iC hedge hget e1 e2; omega) (hin e e1 e2) j e3
   obtain ⟨pre,post,r1,r2,r3⟩:=ac5 hlt hs hu
   have hrun':ac4 P (os i::((pre.map os)++(post.map os))) E E':=by
    refine yP (pre.map os) ?_ (by rw [r1] at hrun; simpa using hrun)
    intro o ho
    obtain ⟨j,hj,rfl⟩:=lX1.1 ho
    obtain ⟨q1,q2⟩:=r3 j hj
    rcases hind j i q1 hlt with h | h
    ·have:=hbef j h
     rw [this] at q2; cases q2
    ·exact h
   obtain ⟨E1,⟨hk,_⟩,hrest⟩:=hrun'
   have hrest':ac4 P ((nC ops.size (L.setIfInBounds i true)).map os) E1 E':=by rw [r2,lO2]; exact hrest
   have hsz:(L.setIfInBounds i true).size=ops.size:=by simpa using hs
   have hlen:(nC ops.size (L.setIfInBounds i true)).length≤fuel:=by rw [r2]; rw [r1] at hl; simp at hl ⊢; omega
   have hcl':∀ i',i'<ops.size→(L.setIfInBounds i true).getD i' true=true→∀ j,((dY ops).getD i' 0).testBit j=true→(L.setIfInBounds i true).getD j true=true:=by
    intro i' hi' hl' j hj
    rw [pL (by omega)] at hl' ⊢
    split
    ·rfl
    ·by_cases e:i'=i
     ·subst e; exact hbef j hj
     ·rw [lK e] at hl'; exact hcl i' hi' hl' j hj
   obtain ⟨g,g1,g2,g3,g4⟩:=ac6 hc (i:=i) (o:=ops[i]) (by simp)
   rw [hos i g g1] at hk
   have go:l7 P g.i (os i).2.1 E E1→(ops[i]).wp P a w (wpAny P .any ops Q fuel (L.setIfInBounds i true)) Q:=fun hs1=>
    Oper.wp_mono (fun a' w' hg=>by obtain ⟨E2,k1,k2⟩:=hg; exact ih _ E2 a' w' hsz hlen hcl' k1 k2)
     (qO (K:=fun E1=>ac4 P ((nC ops.size (L.setIfInBounds i true)).map os) E1 E') g2 hn G (als _ hs1 hrest'))
   unfold wpOp
   rw [hget]
   simp only
   cases hgd:(ops[i]).guard with
   | none=>
    rw [hgd] at g4
    simp only at g4
    have hw:Region.wanted ops[i] (yielded ops a.tmps)=true:=by unfold Region.wanted; rw [hgd]
    rw [lF hw]
    rw [g4] at hk
    exact .inl (go hk.1)
   | some q=>
    obtain ⟨j,b⟩:=q
    rw [hgd] at g4
    obtain ⟨t,ht,htn,hgg⟩:=g4
    rw [hgg] at hk
    rcases hk with ⟨_,⟨c,hcc,hk1,hk2⟩ | ⟨hcc,hkk,_⟩⟩
    rotate_left
    ·have hy:yielded ops a.tmps j=none:=by
      unfold yielded
      rw [ht,lD,agI G htn hcc]
      rfl
     have hw:Region.wanted ops[i] (yielded ops a.tmps)=false:=by unfold Region.wanted; rw [hgd]; simp [hy]
     rw [lK (by rw [hw]; simp)]
     rw [hkk,g3] at hrest'
     exact ih _ (mQ E (ops[i]).dst (.tup [])) _ w hsz hlen hcl' hrest' (pK G (wU g2))
    have hy:yielded ops a.tmps j=some c:=by
     unfold yielded
     rw [ht,lD,ac2 G htn hcc]
    have hw:Region.wanted ops[i] (yielded ops a.tmps)=(some c == some b):=by unfold Region.wanted; rw [hgd]; simp [hy]
    by_cases e:c=b
    ·rw [lF (by rw [hw,e]; simp)]
     exact .inl (go (hk1 e).1)
    ·rw [lK (by rw [hw]; simp [e])]
     have hkk:=(hk2 e).1
     rw [hkk,g3] at hrest'
     exact ih _ (mQ E (ops[i]).dst (.tup [])) _ w hsz hlen hcl' hrest' (pK G (wU g2))
theorem ac7 {n:Nat} {ops:Array Oper}:∀ {l:List Oper} {is:List GI},acJ P n ops l=some is→is.length=l.length:=by
 intro l
 induction l with
 | nil=>intro is h; simp only [acJ,Option.some.injEq] at h; subst h; rfl
 | cons q l ih=>
  intro is hc
  simp only [acJ] at hc
  obtain ⟨x,hx,hc⟩:=bind_some hc
  obtain ⟨rest,hr,hc⟩:=bind_some hc
  split at hc
  ·cases hc; simp [ih hr]
  ·obtain ⟨t,ht,hc⟩:=bind_some hc
   obtain ⟨htn,hc⟩:=aD hc
   cases hc; simp [ih hr]
theorem rX (n:Nat):nC n (Array.replicate n false)=List.range n:=by
 unfold nC
 rw [List.filter_eq_self]
 intro i hi
 have:i<n:=by simpa using hi
 simp [lW,this]
theorem alJ {l:List GI} {bs:List Nat} {i j:Nat} (h:((xxB l bs).getD j 0).testBit i=true):(bs.getD j 0).testBit i=true∨∃ o q,l[i]?=some o∧l[j]?=some q∧xxG o q=true:=by
 unfold xxB at h
 rw [lU,lL1] at h
 by_cases hj:j<l.length
 ·rw [List.getElem?_range hj] at h
  simp only [lB,lF1] at h
  have key:∀ (ks:List Nat) (s:Nat),(∀ k ∈ ks,k<j)→(ks.foldl (fun s i=>if xxG (l.getD i default) (l.getD j default)=true then s ||| 2^i else s) s).testBit i=true →
    s.testBit i=true∨(i<j∧xxG (l.getD i default) (l.getD j default)=true):=by
   intro ks
   induction ks with
   | nil=>intro s _ h; exact .inl h
   | cons k ks ih=>
    intro s hks h
    simp only [lV2] at h
    rcases ih _ (fun x hx=>hks x (by simp [hx])) h with h | h
    ·split at h
     ·rename_i hx
      rw [Nat.testBit_or,Nat.testBit_two_pow] at h
      simp only [lK4,decide_eq_true_eq] at h
      rcases h with h | h
      ·exact .inl h
      ·subst h; exact .inr ⟨hks k (by simp),hx⟩
     ·exact .inl h
    ·exact .inr h
  rcases key _ _ (fun k hk=>by simpa using hk) h with h | ⟨hi,hx⟩
  ·exact .inl h
  ·right
   refine ⟨l.getD i default,l.getD j default,?_,?_,hx⟩
   ·rw [lU,lH (show i<l.length by omega)]; rfl
   ·rw [lU,lH hj]; rfl
 ·rw [lV1 (by simpa using hj)] at h
  simp at h
theorem abk (hn:B.n≤1000) (hm:P.follows .mixedOrders=true) {id:Nat} {ops:Array Oper} {is:List GI} {K:Env→Prop} (hc:acJ P B.n ops ops.toList=some is) (hedge:oR ops=true)
  (h:m8 P (xxB is (dY ops)) [] is K E) (G:bB B hv w a E) (hQ:∀ E' a' w',K E'→bB B hv w' a' E'→Q .normal a' w'):(Code.region id ops true).wp P Q a w:=by
 obtain ⟨its,E',k1,k2,k3,k4⟩:=yQ is [] E h
 have hlen:its.length=ops.size:=by rw [← lW2 (f:=(·.1)),k1,ac7 hc]; simp
 refine wp_region_any hm (agL hn (is:=is) (os:=fun i=>its.getD i default) hc ?_ ?_ hedge (E':=E') (fun a' w' G'=>hQ E' a' w' k4 G') ops.size _ E a _ (by simp) ?_ ?_ ?_ (yS G rfl))
 ·intro i g hg
  rw [← k1,lL1] at hg
  obtain ⟨x,hx,rfl⟩:=map_some hg
  rw [lU,hx]
  rfl
 ·intro i j hij hj
  have hi':i<its.length:=by omega
  have hj':j<its.length:=by omega
  rcases agK k3 hij (by simp; omega) (o:=its[i].2.2) (q:=its[j].2.2) (by simp [hi']) (by simp [hj']) with h | h
  ·rcases alJ h with h | ⟨o,q,ho,hq,hx⟩
   ·exact .inl h
   ·refine .inr (.inr ?_)
    rw [← k1,lL1] at ho hq
    obtain ⟨x,hx1,rfl⟩:=map_some ho
    obtain ⟨y,hy1,rfl⟩:=map_some hq
    rw [lU,lU,hx1,hy1]
    exact hx
  ·right; left
   unfold acI at h
   simp only [lN] at h
   rw [lU,lU,lH hi',lH hj']
   exact ⟨fun t ht=>⟨nZ h.1.1 t ht,nZ h.2 t ht⟩,fun t ht=>nZ h.1.2 t ht⟩
 ·rw [rX]; simp
 ·intro i hi hl
  simp [lW,hi] at hl
 ·rw [rX]
  have:(List.range ops.size).map (fun i=>its.getD i default)=its:=by
   apply lI2
   intro i
   rw [lL1]
   by_cases hi:i<ops.size
   ·rw [List.getElem?_range hi,lB,lU,lH (by omega)]
    rfl
   ·rw [lV1 (by simpa using hi),lV1 (by omega)]
    rfl
  rw [this]; exact k2
def ac8 (is:Nat→GI) (lt:Nat→Nat→Bool) (K:Env→Prop):Nat→List Nat→Env→Prop
 | 0,rem,E=>rem=[]∧K E
 | n+1,rem,E=>∀ i ∈ rem,(∀ j ∈ rem,lt j i=false)→∃ E1,ev E (is i).i=some E1∧ac8 is lt K n (rem.erase i) E1
theorem sX {is:Nat→GI} {lt lt':Nat→Nat→Bool} {K:Env→Prop}:∀ (n:Nat) (rem:List Nat) (E:Env),(∀ x ∈ rem,∀ y ∈ rem,lt x y=lt' x y)→ac8 is lt K n rem E→ac8 is lt' K n rem E:=by
 intro n
 induction n with
 | zero=>intro rem E _ h; exact h
 | succ n ih=>
  intro rem E he h i hi hr
  obtain ⟨E1,h1,h2⟩:=h i hi fun j hj=>(he j hj i hi).trans (hr j hj)
  exact ⟨E1,h1,ih _ _ (fun x hx y hy=>he x (lM4 hx) y (lM4 hy)) h2⟩
theorem ajy {is:Nat→GI} {lt:Nat→Nat→Bool} {K:Env→Prop}:∀ (n:Nat) {rem rem':List Nat} (E:Env),rem.Perm rem'→ac8 is lt K n rem E→ac8 is lt K n rem' E:=by
 intro n
 induction n with
 | zero=>intro rem rem' E hp h; exact ⟨by rw [h.1] at hp; exact List.Perm.nil_eq hp |>.symm,h.2⟩
 | succ n ih=>
  intro rem rem' E hp h i hi hr
  obtain ⟨E1,h1,h2⟩:=h i (hp.mem_iff.2 hi) fun j hj=>hr j (hp.mem_iff.1 hj)
  exact ⟨E1,h1,ih _ (hp.erase i) h2⟩
theorem aed {is:Nat→GI} {lt:Nat→Nat→Bool} {K:Env→Prop} {c d:Nat} (hcd:c≠d):∀ (n:Nat) (rem:List Nat) (E:Env),rem.Nodup→ac8 is (aaP lt c d) K n rem E→ac8 is (aaP lt d c) K n rem E→ac8 is lt K n rem E:=by
 intro n
 induction n with
 | zero=>intro rem E _ h _; exact h
 | succ n ih=>
  intro rem E hn h1 h2 i hi hr
  have r1:¬ (i=d∧c ∈ rem)→∀ j ∈ rem,aaP lt c d j i=false:=by
   intro hno j hj
   simp only [aaP,hr j hj,lT4,Bool.and_eq_false_iff,beq_eq_false_iff_ne]
   by_cases e:j=c
   ·right; intro e2; exact hno ⟨e2,e ▸ hj⟩
   ·exact .inl e
  have r2:¬ (i=c∧d ∈ rem)→∀ j ∈ rem,aaP lt d c j i=false:=by
   intro hno j hj
   simp only [aaP,hr j hj,lT4,Bool.and_eq_false_iff,beq_eq_false_iff_ne]
   by_cases e:j=d
   ·right; intro e2; exact hno ⟨e2,e ▸ hj⟩
   ·exact .inl e
  by_cases hA:i=d∧c ∈ rem
  ·obtain ⟨E1,k1,k2⟩:=h2 i hi (r2 fun h=>hcd (h.1.symm.trans hA.1))
   refine ⟨E1,k1,sX n _ _ (fun x hx y hy=>?_) k2⟩
   have hxd:x≠d:=fun e=>by subst e; rw [← hA.1] at hx; exact (hn.not_mem_erase) hx
   simp [aaP,hxd]
  by_cases hB:i=c∧d ∈ rem
  ·obtain ⟨E1,k1,k2⟩:=h1 i hi (r1 hA)
   refine ⟨E1,k1,sX n _ _ (fun x hx y hy=>?_) k2⟩
   have hxc:x≠c:=fun e=>by subst e; rw [← hB.1] at hx; exact (hn.not_mem_erase) hx
   simp [aaP,hxc]
  obtain ⟨E1,k1,k2⟩:=h1 i hi (r1 hA)
  obtain ⟨E2,g1,g2⟩:=h2 i hi (r2 hB)
  rw [k1] at g1; cases g1
  exact ⟨E1,k1,ih _ _ (hn.erase i) k2 g2⟩
theorem amZ {is:Nat→GI} {lt:Nat→Nat→Bool} {K:Env→Prop} {a b c:Nat} (h1:lt a b=true) (h2:lt b c=true):∀ (n:Nat) (rem:List Nat) (E:Env),(b ∈ rem∨a ∉ rem)→rem.Nodup→ac8 is (aaP lt a c) K n rem E→ac8 is lt K n rem E:=by
 intro n
 induction n with
 | zero=>intro rem E _ _ h; exact h
 | succ n ih=>
  intro rem E hv hn h i hi hr
  obtain ⟨E1,k1,k2⟩:=h i hi (by
   intro j hj
   simp only [aaP,hr j hj,lT4,Bool.and_eq_false_iff,beq_eq_false_iff_ne]
   by_cases e:j=a
   ·right
    rintro rfl
    subst e
    rcases hv with hb | ha
    ·have:=hr b hb; rw [h2] at this; cases this
    ·exact ha hj
   ·exact .inl e)
  refine ⟨E1,k1,ih _ _ ?_ (hn.erase i) k2⟩
  rcases hv with hb | ha
  ·by_cases e:b=i
   ·subst e
    right
    intro hm
    have:=hr a (lM4 hm); rw [h1] at this; cases this
   ·exact .inl ((List.mem_erase_of_ne e).2 hb)
  ·exact .inr fun hm=>ha (lM4 hm)
theorem alK {i:I} {ms:List M} {E E':Env} (hc:i.isCall=false) (h:l7 P i ms E E'):ev E i=some E':=by
 cases i <;> first | exact h | cases hc
theorem ajz {i:I} {K:Env→Prop} {E E':Env} (hc:i.isCall=false) (h:ev E i=some E') (hK:K E'):qJ P i K E:=by
 cases i <;> first | exact ⟨E',h,hK⟩ | cases hc
theorem ajA {is:Nat→GI} {lt:Nat→Nat→Bool} {K:Env→Prop} {os:Nat→aec} (hpl:∀ i,plG (is i)=true) (hos:∀ i,(os i).1=is i):∀ (n:Nat) (σ:List Nat) (E E':Env),σ.length=n→σ.Nodup →
  σ.Pairwise (fun x y=>lt x y=true∨(ajv (os x) (os y)∨xxG (os x).1 (os y).1=true))→ac4 P (σ.map os) E E'→K E'→ac8 is lt K n σ E:=by
 intro n
 induction n with
 | zero=>
  intro σ E E' hl _ _ hr hK
  have:σ=[]:=List.eq_nil_of_length_eq_zero hl
  subst this
  have hE:E'=E:=hr
  subst hE
  exact ⟨rfl,hK⟩
 | succ n ih=>
  intro σ E E' hl hn hp hr hK i hi hrd
  obtain ⟨pre,post,rfl⟩:=List.append_of_mem hi
  have hnp:i ∉ pre:=fun h=>by
   rw [List.nodup_append] at hn
   exact hn.2.2 i h i (by simp) rfl
  have hp':=List.pairwise_append.1 hp
  have hrun:ac4 P (os i::(pre.map os++post.map os)) E E':=by
   refine yP (pre.map os) ?_ (by simpa using hr)
   intro o ho
   obtain ⟨x,hx,rfl⟩:=lX1.1 ho
   rcases hp'.2.2 x hx i (by simp) with h | h
   ·have:=hrd x (by simp [hx]); rw [h] at this; cases this
   ·exact h
  obtain ⟨E1,⟨hk,_⟩,hrest⟩:=hrun
  have hg:=hpl i
  simp only [plG,lN,Option.isNone_iff_eq_none,lO4] at hg
  rw [hos i,hg.1.1] at hk
  refine ⟨E1,alK hg.1.2 hk.1,?_⟩
  rw [List.erase_append_right _ hnp,List.erase_cons_head]
  refine ih (pre++post) E1 E' (by simp at hl ⊢; omega) (by
   rw [List.nodup_append] at hn ⊢
   exact ⟨hn.1,(lW4.1 hn.2.1).2,fun x hx y hy=>hn.2.2 x hx y (by simp [hy])⟩) ?_ (by rw [lO2]; exact hrest) hK
  exact List.pairwise_append.2 ⟨hp'.1,(lZ.1 hp'.2.1).2,fun x hx y hy=>hp'.2.2 x hx y (by simp [hy])⟩
theorem alL (hn:B.n≤1000) {ops:Array Oper} {is:List GI} (hc:acJ P B.n ops ops.toList=some is) (hpl:∀ (i:Nat) (g:GI),is[i]?=some g→plG g=true) (hedge:oR ops=true) {K:Env→Prop}
  (hQ:∀ E' a' w',K E'→bB B hv w' a' E'→Q .normal a' w') :
  ∀ (fuel:Nat) (L:Array Bool) (E:Env) (a:Act) (w:World),L.size=ops.size→(nC ops.size L).length≤fuel →
   (∀ i,i<ops.size→L.getD i true=true→∀ j,((dY ops).getD i 0).testBit j=true→L.getD j true=true) →
   ac8 (fun i=>is.getD i default) (fun j i=>((dY ops).getD i 0).testBit j) K (nC ops.size L).length (nC ops.size L) E→bB B hv w a E→wpAny P .any ops Q fuel L a w:=by
 have none_left:∀ (L:Array Bool),Region.ready .any ops L=[]→L.size=ops.size→nC ops.size L=[]:=by
  intro L hr hs
  cases hrem:nC ops.size L with
  | nil=>rfl
  | cons x xs=>
   exfalso
   have hx:x ∈ nC ops.size L:=by rw [hrem]; simp
   have hex:∃ i,i<ops.size∧L.getD i true=false:=by
    obtain ⟨h1,h2⟩:=lF3.1 hx
    exact ⟨x,by simpa using h1,by simpa using h2⟩
   obtain ⟨i,⟨h1,h2⟩,hmin⟩:=gM hex
   have:i ∈ Region.ready .any ops L:=by
    unfold Region.ready
    rw [lF3]
    refine ⟨by simpa using h1,?_⟩
    rw [h2,lE1 h1]
    simp only [Bool.not_false,lV4,lB,lF1]
    rw [← Array.all_toList,lV]
    intro e he
    by_cases hb:Region.binds .any e=true
    ·have hlt:=iC hedge (lE1 h1) he hb
     have:L.getD e.on true=true:=by
      cases hc:L.getD e.on true with
      | true=>rfl
      | false=>exact absurd ⟨by omega,hc⟩ (hmin e.on hlt)
     rw [lW,lE1 (by omega)] at this ⊢
     simp only [lF1] at this ⊢
     simp [this]
    ·simp [hb]
   rw [hr] at this
   simp at this
 intro fuel
 induction fuel with
 | zero=>
  intro L E a w hs hl hcl hrun G
  have hrem:nC ops.size L=[]:=List.eq_nil_of_length_eq_zero (by omega)
  rw [hrem] at hrun
  refine ⟨?_,hQ _ a w hrun.2 G⟩
  cases hr:Region.ready .any ops L with
  | nil=>rfl
  | cons i l=>
   exfalso
   have hi:i ∈ Region.ready .any ops L:=by rw [hr]; simp
   unfold Region.ready at hi
   rw [lF3] at hi
   obtain ⟨h1,h2⟩:=hi
   have:i ∈ nC ops.size L:=by
    unfold nC; rw [List.mem_filter]
    refine ⟨h1,?_⟩
    simp only [lN] at h2
    exact h2.1
   rw [hrem] at this
   simp at this
 | succ fuel ih=>
  intro L E a w hs hl hcl hrun G
  refine ⟨?_,?_⟩
  ·intro hr
   have hrem:=none_left L hr hs
   rw [hrem] at hrun
   exact hQ _ a w hrun.2 G
  ·intro i hi
   unfold Region.ready at hi
   rw [lF3] at hi
   obtain ⟨h1,h2⟩:=hi
   have hlt:i<ops.size:=by simpa using h1
   have hget:ops[i]?=some ops[i]:=lE1 hlt
   simp only [lN,hget,lB,lF1,lO4] at h2
   obtain ⟨hu,hall⟩:=h2
   rw [← Array.all_toList,lV] at hall
   have hin:∀ e ∈ (ops[i]).after.toList,Region.binds .any e=true→L.getD e.on true=true:=by
    intro e he hb
    have h3:=hall e he
    simp only [hb,Bool.not_true,lT4] at h3
    have hl1:=iC hedge hget he hb
    rw [lW,lE1 (by omega)] at h3 ⊢
    exact h3
   have hbef:∀ j,((dY ops).getD i 0).testBit j=true→L.getD j true=true:=by
    intro j hj
    obtain ⟨e,e1,e2,e3⟩:=rG ops hget hj
    rcases e3 with rfl | e3
    ·exact hin e e1 e2
    ·exact hcl e.on (by have:=iC hedge hget e1 e2; omega) (hin e e1 e2) j e3
   obtain ⟨pre,post,r1,r2,r3⟩:=ac5 hlt hs hu
   have hnd:(nC ops.size L).Nodup:=List.nodup_range.filter _
   have hir:i ∈ nC ops.size L:=by rw [r1]; simp
   have hnp:i ∉ pre:=fun h=>by
    rw [r1,List.nodup_append] at hnd
    exact hnd.2.2 i h i (by simp) rfl
   have hera:(nC ops.size L).erase i=nC ops.size (L.setIfInBounds i true):=by rw [r1,r2,List.erase_append_right _ hnp,List.erase_cons_head]
   have hlen1:(nC ops.size L).length=(nC ops.size (L.setIfInBounds i true)).length+1:=by rw [r1,r2]; simp; omega
   rw [hlen1] at hrun
   obtain ⟨E1,hev,hrest⟩:=hrun i hir fun j hj=>by
    show ((dY ops).getD i 0).testBit j=false
    cases hb:((dY ops).getD i 0).testBit j with
    | false=>rfl
    | true=>
     have:=hbef j hb
     unfold nC at hj
     rw [lF3] at hj
     rw [this] at hj
     simp at hj
   rw [hera] at hrest
   have hsz:(L.setIfInBounds i true).size=ops.size:=by simpa using hs
   have hcl':∀ i',i'<ops.size→(L.setIfInBounds i true).getD i' true=true→∀ j,((dY ops).getD i' 0).testBit j=true→(L.setIfInBounds i true).getD j true=true:=by
    intro i' hi' hl' j hj
    rw [pL (by omega)] at hl' ⊢
    split
    ·rfl
    ·by_cases e:i'=i
     ·subst e; exact hbef j hj
     ·rw [lK e] at hl'; exact hcl i' hi' hl' j hj
   obtain ⟨g,g1,g2,g3,g4⟩:=ac6 hc (i:=i) (o:=ops[i]) (by simp)
   have hgi:is.getD i default=g:=by rw [lU,g1]; rfl
   simp only [hgi] at hev
   have hg:=hpl i g g1
   simp only [plG,lN,Option.isNone_iff_eq_none,lO4] at hg
   unfold wpOp
   rw [hget]
   simp only
   cases hgd:(ops[i]).guard with
   | some q=>
    obtain ⟨j,b⟩:=q
    rw [hgd] at g4
    obtain ⟨t,ht,htn,hgg⟩:=g4
    rw [hg.1.1] at hgg; cases hgg
   | none=>
    have hw:Region.wanted ops[i] (yielded ops a.tmps)=true:=by unfold Region.wanted; rw [hgd]
    rw [lF hw]
    exact .inl (Oper.wp_mono (fun a' w' hg=>by obtain ⟨E2,k1,k2⟩:=hg; exact ih _ E2 a' w' hsz (by omega) hcl' k1 k2)
     (qO (K:=fun E1=>ac8 (fun i=>is.getD i default) (fun j i=>((dY ops).getD i 0).testBit j) K (nC ops.size (L.setIfInBounds i true)).length (nC ops.size (L.setIfInBounds i true)) E1) g2 hn G (ajz hg.1.2 hev hrest)))
theorem ajB {lt:Nat→Nat→Bool} {σ:List Nat} {p q:Nat} (hq:q<σ.length) (h:((amM lt σ).getD q 0).testBit p=true):p<q∧lt (σ.getD p 0) (σ.getD q 0)=true:=by
 unfold amM at h
 rw [lU,lL1,List.getElem?_range hq] at h
 simp only [lB,lF1] at h
 have key:∀ (ks:List Nat) (s:Nat),(∀ k ∈ ks,k<q)→(ks.foldl (fun s p=>if lt (σ.getD p 0) (σ.getD q 0)=true then s ||| 2^p else s) s).testBit p=true →
   s.testBit p=true∨(p<q∧lt (σ.getD p 0) (σ.getD q 0)=true):=by
  intro ks
  induction ks with
  | nil=>intro s _ h; exact .inl h
  | cons k ks ih=>
   intro s hks h
   simp only [lV2] at h
   rcases ih _ (fun x hx=>hks x (by simp [hx])) h with h | h
   ·split at h
    ·rename_i hx
     rw [Nat.testBit_or,Nat.testBit_two_pow] at h
     simp only [lK4,decide_eq_true_eq] at h
     rcases h with h | h
     ·exact .inl h
     ·subst h; exact .inr ⟨hks k (by simp),hx⟩
    ·exact .inl h
   ·exact .inr h
 rcases key _ _ (fun k hk=>by simpa using hk) h with h | h
 ·simp at h
 ·exact h
theorem alM {is:List GI} {K:Env→Prop} {E:Env} (hpl:∀ (i:Nat) (g:GI),is[i]?=some g→plG g=true):∀ (t:BT) (lt:Nat→Nat→Bool),ak6 P is K E lt t→ac8 (fun i=>is.getD i default) lt K is.length (List.range is.length) E:=by
 intro t
 induction t with
 | node c d x y ihx ihy=>intro lt h; exact aed h.1 _ _ _ List.nodup_range (ihx _ h.2.1) (ihy _ h.2.2)
 | tr a b c x ih=>
  intro lt h
  obtain ⟨h1,h2⟩:=h
  simp only [lN,decide_eq_true_eq] at h1
  exact amZ h1.1 h1.2.1 _ _ _ (.inl (by simpa using h1.2.2)) List.nodup_range (ih _ h2)
 | leaf σ=>
  intro lt h
  obtain ⟨hp,hd⟩:=h
  have hperm:σ.Perm (List.range is.length):=List.isPerm_iff.1 hp
  have hnd:σ.Nodup:=hperm.nodup_iff.2 List.nodup_range
  have hsl:σ.length=is.length:=by simpa using hperm.length_eq
  obtain ⟨its,E',k1,k2,k3,k4⟩:=yQ _ _ _ hd
  have hil:its.length=σ.length:=by rw [← lW2 (f:=(·.1)),k1]; simp
  let os:Nat→aec:=fun i=>its.getD (σ.idxOf i) (is.getD i default,[],([],[]))
  have hosp:∀ (p:Nat) (h:p<σ.length),os σ[p]=its[p]'(by omega):=by
   intro p h
   show its.getD (σ.idxOf σ[p]) _=_
   rw [hnd.idxOf_getElem p h,lU,lH (by omega)]; rfl
  have hmap:σ.map os=its:=by
   apply List.ext_getElem (by simp [hil])
   intro p h1 h2
   rw [List.getElem_map]; exact hosp p (by simpa using h1)
  refine ajy _ _ hperm (ajA (os:=os) ?_ ?_ is.length σ E E' hsl hnd ?_ (by rw [hmap]; exact k2) k4)
  ·intro i
   rw [lU]
   cases hi:is[i]? with
   | none=>rfl
   | some g=>exact hpl i g hi
  ·intro i
   show (its.getD (σ.idxOf i) _).1=_
   by_cases h:σ.idxOf i<σ.length
   ·have e1:σ[σ.idxOf i]=i:=List.getElem_idxOf h
    have e2:(its.map (·.1))[σ.idxOf i]?=(σ.map fun i=>is.getD i default)[σ.idxOf i]?:=by rw [k1]
    rw [lL1,lL1,lH h,lH (by omega),lB,lB,e1] at e2
    rw [lU,lH (by omega)]
    exact Option.some.inj e2
   ·rw [lU,lV1 (by omega)]; rfl
  ·rw [lQ2]
   intro p q hp hq hpq
   rw [hosp p hp,hosp q hq]
   rcases agK k3 hpq (by simp; omega) (o:=(its[p]'(by omega)).2.2) (q:=(its[q]'(by omega)).2.2) (by simp [hil,hp]) (by simp [hil,hq]) with h | h
   ·have:=(ajB hq h).2
    rw [lU,lU,lH hp,lH hq] at this
    exact .inl this
   ·right; left
    unfold acI at h
    simp only [lN] at h
    exact ⟨fun t ht=>⟨nZ h.1.1 t ht,nZ h.2 t ht⟩,fun t ht=>nZ h.1.2 t ht⟩
theorem alN {l:List GI} {bs:List Nat} {j:Nat} (h:∀ (i:Nat) (g:GI),l[i]?=some g→plG g=true) (hj:j<l.length):(xxB l bs).getD j 0=bs.getD j 0:=by
 have hx:∀ i k,xxG (l.getD i default) (l.getD k default)=false:=by
  intro i k
  have hi:plG (l.getD i default)=true:=by
   rw [lU]
   cases hg:l[i]? with
   | none=>rfl
   | some g=>exact h i g hg
  generalize l.getD i default=o at hi
  simp only [plG,lN] at hi
  have hxi:xxI o.i (l.getD k default).i=false:=by
   have:=hi.2
   revert this
   cases o.i <;> intro h <;> first | rfl | cases h
  rw [xxG,hxi]; simp
 unfold xxB
 rw [lU,lL1,List.getElem?_range hj]
 simp only [lB,lF1,hx]
 have key:∀ (ks:List Nat) (s:Nat),ks.foldl (fun s i=>if (false:Bool)=true then s ||| 2^i else s) s=s:=by
  intro ks
  induction ks with
  | nil=>intro s; rfl
  | cons k ks ih=>intro s; simp only [lV2]; exact ih s
 exact key _ _
theorem agM (hn:B.n≤1000) (hm:P.follows .mixedOrders=true) {id:Nat} {ops:Array Oper} {is:List GI} {K:Env→Prop} (hc:acJ P B.n ops ops.toList=some is) (hedge:oR ops=true) (hpl:is.all plG=true) {t:BT}
  (h:ak6 P is K E (ltB (xxB is (dY ops))) t) (G:bB B hv w a E) (hQ:∀ E' a' w',K E'→bB B hv w' a' E'→Q .normal a' w'):(Code.region id ops true).wp P Q a w:=by
 have hpl':∀ (i:Nat) (g:GI),is[i]?=some g→plG g=true:=fun i g hg=>lV.1 hpl g (lS2 hg)
 have hlen:is.length=ops.size:=by rw [ac7 hc]; simp
 have hs:=alM hpl' t _ h
 rw [hlen] at hs
 refine wp_region_any hm (alL hn hc hpl' hedge hQ ops.size _ E a _ (by simp) (by rw [rX]; simp) ?_ ?_ (yS G rfl))
 ·intro i hi hl
  simp [lW,hi] at hl
 ·rw [rX,List.length_range]
  refine sX _ _ _ (fun x hx y hy=>?_) hs
  unfold ltB
  rw [alN hpl' (by rw [hlen]; simpa using hy)]
end
section
variable {P:Program} {w w':World} {B:Base} {hid hv:Nat→Value} {a:Act} {E:Env} {Fs Xs:Nat→aH} {FP XP:aH} {o:Oper}
def anN:Ex→Exit
 | .n=>.normal
 | .r=>.ret
 | .e id=>.exit id
def aoj (B:Base) (hv:Nat→Value) (Qe:Ex→Env→Prop) (Q:Exit→Act→World→Prop):Prop:=∀ x E' a' w',Qe x E'→bB B hv w' a' E'→Q (anN x) a' w'
theorem yT (hn:B.n≤1000) (hD:P.follows .mixedOrders=true) (ks:Nat):∀ (c:Code) (cmd:Cmd) (Qe:Ex→Env→Prop) (Q:Exit→Act→World→Prop) (E:Env) (a:Act) (w:World),
  l8 P B.n c=some cmd→aoj B hv Qe Q→awp P ks cmd Qe E→bB B hv w a E→c.wp P Q a w:=by
 intro c
 induction c with
 | skip=>
  intro cmd Qe Q E a w hc hP h G
  simp only [l8,Option.some.injEq] at hc; subst hc
  exact wp_skip (hP .n E a w h G)
 | region id ops dr=>
  intro cmd Qe Q E a w hc hP h G
  simp only [l8] at hc
  split at hc
  ·cases hc
  rename_i hed
  obtain ⟨l,hl,rfl⟩:=map_some hc
  have hQ:∀ E' a' w',Qe .n E'→bB B hv w' a' E'→Q .normal a' w':=fun E' a' w' k G'=>hP .n _ a' w' k G'
  cases dr with
  | false=>
   obtain ⟨U,h⟩:=h
   refine wp_region ?_
   rw [List.range_eq_range']
   exact agJ hn hQ ops.size 0 l _ a w (by omega) (by simpa using hl) h (abi hn ks U (fZ ks G))
  | true=>
   obtain ⟨U,h | ⟨_,hp,t,h⟩⟩:=h
   ·exact abk hn hD hl (by simpa using hed) h (abi hn ks U (fZ ks G)) hQ
   ·exact agM hn hD hl (by simpa using hed) hp h (abi hn ks U (fZ ks G)) hQ
 | seq x y ihx ihy=>
  intro cmd Qe Q E a w hc hP h G
  simp only [l8] at hc
  obtain ⟨cx,hx,hc⟩:=bind_some hc
  obtain ⟨cy,hy,rfl⟩:=map_some hc
  refine wp_seq (ihx cx _ _ E a w hx ?_ h G)
  intro e E' a' w' k G'
  cases e with
  | n=>exact ihy cy Qe Q E' a' w' hy hP k G'
  | r=>exact hP .r E' a' w' k G'
  | e id=>exact hP (.e id) E' a' w' k G'
 | cond x y z ihy ihz=>
  intro cmd Qe Q E a w hc hP h G
  simp only [l8] at hc
  obtain ⟨ox,hx,hc⟩:=bind_some hc
  obtain ⟨cy,hy,hc⟩:=bind_some hc
  obtain ⟨cz,hz,rfl⟩:=map_some hc
  obtain ⟨t,ht,h1,h2⟩:=h
  refine wp_cond_split (nW G (aR hx) ht) (fun e=>?_) (fun e=>?_)
  ·exact ihy cy Qe Q E a w hy hP (h1 e) G
  ·exact ihz cz Qe Q E a w hz hP (h2 e) G
 | block id c ih=>
  intro cmd Qe Q E a w hc hP h G
  simp only [l8] at hc
  obtain ⟨cc,hcc,rfl⟩:=map_some hc
  refine wp_block (ih cc _ _ E a w hcc ?_ h G)
  intro x E' a' w' k G'
  by_cases e:x=.e id
  ·subst e
   simp only [lP] at k
   simp only [anN,Exit.inBlock,lP]
   exact hP .n E' a' w' k G'
  ·simp only [e,lG1] at k
   cases x with
   | n=>exact hP .n E' a' w' k G'
   | r=>exact hP .r E' a' w' k G'
   | e id'=>
    have:id'≠id:=fun h=>e (by rw [h])
    simp only [anN,Exit.inBlock,this,lG1]
    exact hP (.e id') E' a' w' k G'
 | loop c ih=>
  intro cmd Qe Q E a w hc hP h G
  simp only [l8] at hc
  obtain ⟨cc,hcc,rfl⟩:=map_some hc
  obtain ⟨D,J,⟨n,hJ⟩,hround⟩:=h
  classical
  let p:Act→World→Nat→Prop:=fun a w n=>∃ E,J n E∧bB B hv w a E
  let μ:Act→World→Nat:=fun a w=>if h:∃ n,p a w n then Classical.choose (gM h) else 0
  have hμ:∀ a w m,p a w m→p a w (μ a w)∧μ a w≤m:=by
   intro a w m hm
   have h:∃ n,p a w n:=⟨m,hm⟩
   have hs:=Classical.choose_spec (gM h)
   have e:μ a w=Classical.choose (gM h):=by simp only [μ]; rw [dif_pos h]
   rw [e]
   exact ⟨hs.1,Nat.le_of_not_lt fun hlt=>hs.2 m hlt hm⟩
  refine wp_loop (fun a w=>∃ n,p a w n) μ ⟨n,_,hJ,qP ks D G⟩ ?_
  rintro a w ⟨m,hm⟩
  obtain ⟨⟨E0,hJ0,G0⟩,_⟩:=hμ a w m hm
  refine ih cc _ _ E0 a w hcc ?_ (hround _ E0 hJ0) G0
  intro x E' a' w' k G'
  cases x with
  | n=>
   obtain ⟨m',hlt,hJ'⟩:=k
   have:=hμ a' w' m' ⟨_,hJ',qP ks D G'⟩
   exact ⟨⟨m',_,hJ',qP ks D G'⟩,by omega⟩
  | r=>exact hP .r E' a' w' k G'
  | e id=>exact hP (.e id) E' a' w' k G'
 | exit id=>
  intro cmd Qe Q E a w hc hP h G
  simp only [l8,Option.some.injEq] at hc; subst hc
  exact wp_exit (hP (.e id) E a w h G)
 | ret=>
  intro cmd Qe Q E a w hc hP h G
  simp only [l8,Option.some.injEq] at hc; subst hc
  exact wp_ret (hP .r E a w h G)
 | _=>intro cmd Qe Q E a w hc; simp [l8] at hc
theorem PR.place {v:Value} {vs:List Value} {x:AV} {xs:List AV} (P1:PR B hid w a E Fs Xs FP XP (v::vs) (x::xs)) {q:Nat} {hid':Nat→Value}
  (hv':aI a.tmps hid' q=v) (hne:∀ t,t≠q→aI a.tmps hid' t=aI a.tmps hid t) :
  ∃ Fs' Xs' FP' XP',PR B hid' w a (E.put q x) Fs' Xs' FP' XP' vs xs:=by
 have R:=P1.rel
 obtain ⟨A1,A2,Y1,Y2,q1,q2,eA,eY⟩:=RepA.uncons P1.rep
 have links:∀ r e p o,aN w (aI a.tmps hid) E r e p=some o→aN w (aI a.tmps hid') (E.put q x) r e p=some none∨aN w (aI a.tmps hid') (E.put q x) r e p=some o:=by
  intro r e p o h
  by_cases hr:r=q
  ·subst hr; exact .inl (eH rfl h)
  ·exact .inr (by rw [kL (w':=w) (a':=a) (hid':=hid') R (bV hr) (cW hr) (hne r hr) (fun _ _=>rfl) (fun _ _=>rfl)]; exact h)
 refine ⟨fun t=>if t=q then A1 else Fs t,fun t=>if t=q then Y1 else Xs t,A2,Y2,?_,q2.same links (fun _ _=>rfl) (fun _ _=>rfl),?_,?_,?_,?_,?_,?_,?_⟩
 ·refine R.change (fun t=>t=q) R.size R.dfr ?_ ?_ ?_ ?_ ?_ ?_ ?_ (Grows.refl _) (fun _ _ _=>rfl) ?_ ?_
  ·intro t ht; exact ⟨bV ht,cW ht,hne t ht,by simp [ht],by simp [ht],fun _ _=>rfl,fun _ _=>rfl⟩
  ·intro r hr e p o h; subst hr; exact .inl (eH rfl h)
  ·intro l t ht; subst ht; rw [cN,hv']; simp only [lP]
   exact q1.same l (fun _ _=>rfl) (fun _ _=>rfl)
  ·intro t ht b; simp only [ht,lP]; have:=P1.one b; have:=eA b; omega
  ·intro t ht t' hne' b; subst ht; simp only [lP,Ne.symm hne',lG1]; have:=P1.dis t' b; have:=eA b; omega
  ·intro t ht t' b; subst ht; simp only [lP]
   by_cases e:t'=t
   ·simp only [e,lP]; have:=P1.dx3 b; have:=eA b; have:=eY b; omega
   ·simp only [e,lG1]; have:=P1.dx1 t' b; have:=eA b; omega
  ·intro t ht t' b; subst ht; simp only [lP]
   by_cases e:t'=t
   ·simp only [e,lP]; have:=P1.dx3 b; have:=eA b; have:=eY b; omega
   ·simp only [e,lG1]; have:=P1.dx2 t' b; have:=eY b; omega
  ·intro t ht b hb; subst ht; simp only [lP] at hb; exact P1.org b (by have:=eA b; omega)
  ·intro t ht b hb; subst ht; simp only [lP] at hb; exact P1.orgx b (by have:=eY b; omega)
 ·intro b; have:=P1.one b; have:=eA b; omega
 ·intro t b
  by_cases e:t=q
  ·simp only [e,lP]; have:=P1.one b; have:=eA b; omega
  ·simp only [e,lG1]; have:=P1.dis t b; have:=eA b; omega
 ·intro t b
  by_cases e:t=q
  ·simp only [e,lP]; have:=P1.dx3 b; have:=eA b; have:=eY b; omega
  ·simp only [e,lG1]; have:=P1.dx1 t b; have:=eA b; omega
 ·intro t b
  by_cases e:t=q
  ·simp only [e,lP]; have:=P1.dx3 b; have:=eA b; have:=eY b; omega
  ·simp only [e,lG1]; have:=P1.dx2 t b; have:=eY b; omega
 ·intro b; have:=P1.dx3 b; have:=eA b; have:=eY b; omega
 ·intro b hb; exact P1.org b (by have:=eA b; omega)
 ·intro b hb; exact P1.orgx b (by have:=eY b; omega)
def rt (k j:Nat):Nat:=1000+(32*(j+1)+k)
def sY:AV→AV
 | .bool b=>.bool b
 | .int k n=>.int k n
 | .str s=>.str s
 | _=>.undef
def b0 (k:Nat):Nat→List AV→List (Nat × AV)
 | _,[]=>[]
 | j,.own s es::cs=>(rt k j,.own s es)::b0 k (j+1) cs
 | j,_::cs=>b0 k (j+1) cs
def dZ (k:Nat):Nat→List AV→List AV
 | _,[]=>[]
 | j,.own _ _::cs=>.lnk (rt k j) 0 []::dZ k (j+1) cs
 | j,c::cs=>sY c::dZ k (j+1) cs
def bH:Nat→List Bool→List AV→List (Nat × AV)
 | _,_,[]=>[]
 | k,[],x::xs=>(k,x)::bH (k+1) [] xs
 | k,b::bs,x::xs=>if b then (match x with
   | .agg cs=>b0 k 0 cs++bH (k+1) bs xs
   | x=>(1000+k,x)::bH (k+1) bs xs)
  else (k,x)::bH (k+1) bs xs
def jS (k:Nat):AV→AV
 | .box _=>.ref (1000+k) 0 [] ⟨0,0,0⟩
 | .agg cs=>.agg (dZ k 0 cs)
 | _=>.lnk (1000+k) 0 []
def dG:Nat→List Bool→List AV→List (Nat × AV)
 | _,_,[]=>[]
 | _,[],_::_=>[]
 | k,b::bs,x::xs=>if b then (k,jS k x)::dG (k+1) bs xs else dG (k+1) bs xs
def amH (vs:List Value) (t:Nat):Value:=
 if t-1000<32 then vs.getD (t-1000) undef else match vs[(t-1000)%32]? with
  | some (.agg us)=>us.getD ((t-1000)/32-1) undef
  | _=>undef
theorem wV {vs:List Value} {k:Nat} {v:Value} (hk:k<32) (h:vs[k]?=some v):amH vs (1000+k)=v:=by
 unfold amH
 rw [lF (by omega),Nat.add_sub_cancel_left,lU,h]; rfl
theorem yU {vs:List Value} {k j:Nat} {us:List Value} {v:Value} (hk:k<32) (h:vs[k]?=some (.agg us.toArray)) (hj:us[j]?=some v):amH vs (rt k j)=v:=by
 unfold amH rt
 rw [lK (by omega),show (1000+(32*(j+1)+k)-1000)%32=k by omega,h,show (1000+(32*(j+1)+k)-1000)/32-1=j by omega]
 simp [lW,hj]
def pM (l:List (Nat × AV)) (q:Nat):Prop:=∀ p ∈ l,p.1≠q
theorem vA {l:List (Nat × AV)} {q:Nat} (h:pM l q):c5 l q=.undef:=by
 induction l with
 | nil=>rfl
 | cons p l ih=>
  obtain ⟨k,x⟩:=p
  simp only [c5]
  rw [lK (h (k,x) (by simp))]
  exact ih fun p hp=>h p (by simp [hp])
theorem aee {l:List (Nat × AV)} {q:Nat} (h:pM l q) (x:AV):qG l q x=l++[(q,x)]:=by
 induction l with
 | nil=>rfl
 | cons p l ih=>
  obtain ⟨k,y⟩:=p
  simp only [qG]
  rw [lK (h (k,y) (by simp)),ih fun p hp=>h p (by simp [hp])]
  rfl
theorem wW {l:List (Nat × AV)} {q:Nat} (h:pM l q) (x:AV):(mkE l []).put q x=mkE (l++[(q,x)]) []:=by
 rw [ak8,vA h,aee h]
 rfl
theorem abl (k:Nat) (hk:k<32):∀ (cs:List AV) (j:Nat) (zs vs:List Value) (xs:List AV) (l:List (Nat × AV)) {Fs Xs:Nat→aH} {FP XP:aH},zs.length=cs.length →
  (∀ p ∈ l,∀ i,j≤i→p.1≠rt k i)→(∀ i v,zs[i]?=some v→aI a.tmps hid (rt k (j+i))=v) →
  PR B hid w a (mkE l []) Fs Xs FP XP (zs++vs) (cs++xs)→∃ Fs' Xs' FP' XP',PR B hid w a (mkE (l++b0 k j cs) []) Fs' Xs' FP' XP' vs xs:=by
 intro cs
 induction cs with
 | nil=>
  intro j zs vs xs l Fs Xs FP XP hl _ _ P1
  cases zs with
  | nil=>exact ⟨Fs,Xs,FP,XP,by simpa [b0] using P1⟩
  | cons z zs=>simp at hl
 | cons c cs ih=>
  intro j zs vs xs l Fs Xs FP XP hl hno hv P1
  cases zs with
  | nil=>simp at hl
  | cons z zs=>
   have hl':zs.length=cs.length:=by simpa using hl
   have hv':∀ i v,zs[i]?=some v→aI a.tmps hid (rt k (j+1+i))=v:=fun i v h=>by
    have:=hv (i+1) v (by simpa using h)
    rw [show j+1+i=j+(i+1) by omega]; exact this
   have drop:∃ Fs' Xs' FP' XP',PR B hid w a (mkE (l++b0 k (j+1) cs) []) Fs' Xs' FP' XP' vs xs:=by
    obtain ⟨A1,A2,Y1,Y2,q1,q2,eA,eY⟩:=RepA.uncons P1.rep
    exact ih (j+1) zs vs xs l hl' (fun p hp i hi=>hno p hp i (by omega)) hv' (P1.shrink q2 (fun b=>by have:=eA b; omega) (fun b=>by have:=eY b; omega))
   cases c with
   | own s es=>
    obtain ⟨Fs1,Xs1,FP1,XP1,P2⟩:=PR.place P1 (q:=rt k j) (hid':=hid) (hv 0 z rfl) (fun _ _=>rfl)
    rw [wW (fun p hp=>hno p hp j (lS1 _))] at P2
    obtain ⟨Fs2,Xs2,FP2,XP2,P3⟩:=ih (j+1) zs vs xs (l++[(rt k j,.own s es)]) hl' (fun p hp i hi=>by
     rcases lL.1 hp with hp | hp
     ·exact hno p hp i (by omega)
     ·simp at hp; subst hp; simp only [rt]; omega) hv' P2
    exact ⟨Fs2,Xs2,FP2,XP2,by simpa [b0] using P3⟩
   | _=>exact drop
theorem sZ:∀ (xs:List AV) (bs:List Bool) (k:Nat) (vs:List Value) (l:List (Nat × AV)) {Fs Xs:Nat→aH} {FP XP:aH},k+xs.length≤32→k+xs.length≤B.n→B.n≤1000 →
  (∀ p ∈ l,p.1<k∨(1000≤p.1∧(p.1-1000)%32<k))→(∀ j v,vs[j]?=some v→aI a.tmps hid (k+j)=v∧aI a.tmps hid (1000+(k+j))=v) →
  (∀ j us i v,vs[j]?=some (.agg (us:List Value).toArray)→us[i]?=some v→aI a.tmps hid (rt (k+j) i)=v) →
  PR B hid w a (mkE l []) Fs Xs FP XP vs xs→∃ Fs' Xs' FP' XP',PR B hid w a (mkE (l++bH k bs xs) []) Fs' Xs' FP' XP' [] []:=by
 intro xs
 induction xs with
 | nil=>
  intro bs k vs l Fs Xs FP XP _ _ _ _ _ _ P1
  have:=P1.rep.length
  cases vs with
  | nil=>exact ⟨Fs,Xs,FP,XP,by cases bs <;> simpa [bH] using P1⟩
  | cons v vs=>simp at this
 | cons x xs ih=>
  intro bs k vs l Fs Xs FP XP h1 h2 hn hk hv hc P1
  simp only [lN1] at h1 h2
  have hlen:=P1.rep.length
  cases vs with
  | nil=>simp at hlen
  | cons v vs=>
   have hv0:=hv 0 v rfl
   have hvt:∀ j v',vs[j]?=some v'→aI a.tmps hid (k+1+j)=v'∧aI a.tmps hid (1000+(k+1+j))=v':=fun j v' hj=>by
    have:=hv (j+1) v' (by simpa using hj)
    rw [show k+1+j=k+(j+1) by omega]; exact this
   have hct:∀ j us i v',vs[j]?=some (.agg (us:List Value).toArray)→us[i]?=some v'→aI a.tmps hid (rt (k+1+j) i)=v':=fun j us i v' hj hi=>by
    have:=hc (j+1) us i v' (by simpa using hj) hi
    rw [show k+1+j=k+(j+1) by omega]; exact this
   have step:∀ (q:Nat) (bs':List Bool),(q=k∨q=1000+k)→aI a.tmps hid q=v→∃ Fs' Xs' FP' XP',PR B hid w a (mkE (l++(q,x)::bH (k+1) bs' xs) []) Fs' Xs' FP' XP' [] []:=by
    intro q bs' hq hqv
    have hno:pM l q:=fun p hp=>by have:=hk p hp; omega
    obtain ⟨Fs1,Xs1,FP1,XP1,P2⟩:=PR.place P1 (q:=q) (hid':=hid) hqv (fun _ _=>rfl)
    rw [wW hno] at P2
    obtain ⟨Fs2,Xs2,FP2,XP2,P3⟩:=ih bs' (k+1) vs (l++[(q,x)]) (by omega) (by omega) hn (by
     intro p hp
     rcases lL.1 hp with hp | hp
     ·have:=hk p hp; omega
     ·simp at hp; subst hp; (try dsimp only); omega) hvt hct P2
    exact ⟨Fs2,Xs2,FP2,XP2,by simpa using P3⟩
   cases bs with
   | nil=>exact step k [] (.inl rfl) hv0.1
   | cons b bs=>
    cases b with
    | false=>simp only [bH]; exact step k bs (.inl rfl) hv0.1
    | true=>
     cases x with
     | agg cs=>
      simp only [bH,lP]
      obtain ⟨zs,rfl,hzl,hrep⟩:=RepA.open_agg (us:=[]) (ys:=[]) rfl P1.rep
      obtain ⟨Fs1,Xs1,FP1,XP1,P2⟩:=abl (B:=B) k (by omega) cs 0 zs vs xs l hzl (fun p hp i _=>by have:=hk p hp; simp only [rt]; omega)
       (fun i v hi=>by have:=hc 0 zs i v rfl hi; rw [lF2]; exact this) (P1.rerep hrep)
      obtain ⟨Fs2,Xs2,FP2,XP2,P3⟩:=ih bs (k+1) vs (l++b0 k 0 cs) (by omega) (by omega) hn (by
       intro p hp
       rcases lL.1 hp with hp | hp
       ·have:=hk p hp; omega
       ·have key:∀ (cs:List AV) (j:Nat),∀ p ∈ b0 k j cs,∃ i,p.1=rt k i:=by
         intro cs
         induction cs with
         | nil=>intro j p hp; simp [b0] at hp
         | cons c cs ih=>
          intro j p hp
          cases c with
          | own s es=>
           simp only [b0,lG] at hp
           rcases hp with rfl | hp
           ·exact ⟨j,rfl⟩
           ·exact ih _ p hp
          | _=>simp only [b0] at hp; exact ih _ p hp
        obtain ⟨i,hi⟩:=key cs 0 p hp
        rw [hi]; simp only [rt]; omega) hvt hct P2
      exact ⟨Fs2,Xs2,FP2,XP2,by simpa using P3⟩
     | _=>simp only [bH,lP]; exact step (1000+k) bs (.inr rfl) hv0.2
def cR:List Bool→List AV→Bool
 | true::bs,x::xs=>(match x with
   | .agg cs=>decide (cs.length≤30)
   | x=>x.isRoot) && cR bs xs
 | false::bs,_::xs=>cR bs xs
 | _,_=>true
theorem rY {l m:List (Nat × AV)} {q:Nat} (h:pM m q):c5 (l++m) q=c5 l q:=by
 induction l with
 | nil=>rw [lD1,vA h]; rfl
 | cons p l ih=>obtain ⟨k,x⟩:=p; simp only [lT1,c5,ih]
theorem RepA.prims {lk lk':Lk} {F X:aH} {us:List Value} {cs:List AV} (h:RepA w lk F X us cs):RepA w' lk' (fun _=>0) (fun _=>0) us (cs.map sY):=by
 induction cs generalizing us F X with
 | nil=>
  have:=h.length
  cases us with
  | nil=>exact RepA.znil
  | cons u us=>simp at this
 | cons c cs ih=>
  have:=h.length
  cases us with
  | nil=>simp at this
  | cons u us=>
   obtain ⟨A1,A2,Y1,Y2,q1,q2,eA,eY⟩:=RepA.uncons h
   have r:=ih q2
   cases c with
   | bool b=>cases q1 with | bool _ _ _ _ _ _=>exact .bool _ _ _ _ _ r
   | int k n=>cases q1 with | int _ _ _ _ _ _ _=>exact .int _ _ _ _ _ _ r
   | str s=>cases q1 with | str _ _ _ _ _ _=>exact .str _ _ _ _ _ r
   | _=>exact .undef _ _ _ _ _ r
theorem agN (R:Rel B hid w a E Fs Xs) (k:Nat):∀ (cs:List AV) (j:Nat) (zs:List Value),RepA w lk0 (fun _=>0) (fun _=>0) zs (cs.map sY) →
  (∀ i s es,cs[i]?=some (.own s es)→E.f (rt k (j+i))=.own s es∧E.ep (rt k (j+i))=(0,0))→(∀ i v,zs[i]?=some v→aI a.tmps hid (rt k (j+i))=v) →
  RepA w (aN w (aI a.tmps hid) E) (fun _=>0) (fun _=>0) zs (dZ k j cs):=by
 intro cs
 induction cs with
 | nil=>
  intro j zs h _ _
  have:=h.length
  cases zs with
  | nil=>exact RepA.znil
  | cons z zs=>simp at this
 | cons c cs ih=>
  intro j zs h ho hv
  have:=h.length
  cases zs with
  | nil=>simp at this
  | cons z zs=>
   obtain ⟨A1,A2,Y1,Y2,q1,q2,eA,eY⟩:=RepA.uncons h
   have r:=ih (j+1) zs (q2.foot (fun b=>by have:=eA b; omega) (fun b=>by have:=eY b; omega)) (fun i s es hi=>by
    have:=ho (i+1) s es (by simpa using hi)
    rw [show j+1+i=j+(i+1) by omega]; exact this) (fun i v hi=>by
    have:=hv (i+1) v (by simpa using hi)
    rw [show j+1+i=j+(i+1) by omega]; exact this)
   have q1':=q1.lk0 (aN w (aI a.tmps hid) E)
   have cons:∀ x,RepA w (aN w (aI a.tmps hid) E) A1 Y1 [z] [x]→RepA w (aN w (aI a.tmps hid) E) (fun _=>0) (fun _=>0) (z::zs) (x::dZ k (j+1) cs):=fun x hx=>
    (RepA.cons hx r (fun _=>rfl) (fun _=>rfl)).foot (fun b=>by have:=eA b; first | omega | (dsimp only; omega) | (dsimp only at *; omega)) (fun b=>by have:=eY b; first | omega | (dsimp only; omega) | (dsimp only at *; omega))
   cases c with
   | own s es=>
    obtain ⟨g1,g2⟩:=ho 0 s es rfl
    have hz:=hv 0 z rfl
    have hlk:aN w (aI a.tmps hid) E (rt k j) 0 []=some (some z):=by
     unfold aN
     rw [lQ3] at g1 g2 hz
     rw [g2,lK (by simp [fM]),lF ⟨rfl,by rw [g1]; rfl,by rw [pJ]; rfl⟩,hz]
     rfl
    exact .lnk _ _ _ _ _ _ _ _ _ hlk (fun u hu=>by cases hu; rfl) r
   | _=>exact cons _ q1'
theorem agO (R:Rel B hid w a E Fs Xs) {k:Nat} {x:AV} (hroot:x.isRoot=true→E.f (1000+k)=x∧E.ep (1000+k)=(0,0)∧aI a.tmps hid (1000+k)=aI a.tmps hid k)
  (hagg:∀ cs,x=.agg cs→∃ zs:List Value,aI a.tmps hid k=.agg zs.toArray∧RepA w lk0 (fun _=>0) (fun _=>0) zs (cs.map sY) ∧
   (∀ i s es,cs[i]?=some (.own s es)→E.f (rt k i)=.own s es∧E.ep (rt k i)=(0,0))∧∀ i v,zs[i]?=some v→aI a.tmps hid (rt k i)=v)
  (hr:x.isRoot=true∨∃ cs,x=.agg cs) :
  RepA w (aN w (aI a.tmps hid) E) (fun _=>0) (fun _=>0) [aI a.tmps hid k] [jS k x]:=by
 have hlk:x.isRoot=true→aN w (aI a.tmps hid) E (1000+k) 0 []=some (some (aI a.tmps hid k)):=by
  intro h
  obtain ⟨h1,h2,h3⟩:=hroot h
  unfold aN
  rw [h2,lK (by simp [fM]),lF ⟨rfl,by rw [h1]; exact h,by rw [pJ]; rfl⟩,← h3]
  rfl
 cases x with
 | own s es=>exact .lnk _ _ _ _ _ _ _ _ _ (hlk rfl) (fun u hu=>by cases hu; rfl) RepA.znil
 | box cs=>
  refine .ref _ _ _ _ _ _ _ _ _ _ (hlk rfl) (fun u hu=>?_) RepA.znil
  cases hu
  obtain ⟨h1,h2,h3⟩:=hroot rfl
  have hrep:=R.rep (1000+k)
  rw [h1,h3] at hrep
  generalize aI a.tmps hid k=v at hrep
  cases hrep with
  | box _ F1 F2 _ X1 X2 b C ty fr _ _ _ hb hfr h1 h2 hF hX=>exact ⟨⟨b,0,none⟩,rfl,by simp [add_zero]⟩
 | agg cs=>
  obtain ⟨zs,hz,h1,h2,h3⟩:=hagg cs rfl
  rw [hz]
  exact .agg _ (fun _=>0) (fun _=>0) _ (fun _=>0) (fun _=>0) zs _ [] [] (agN R k cs 0 zs h1 (fun i s es hi=>by rw [lF2]; exact h2 i s es hi) (fun i v hi=>by rw [lF2]; exact h3 i v hi)) RepA.znil (fun _=>rfl) (fun _=>rfl)
 | _=>rcases hr with h | ⟨cs,h⟩ <;> cases h
def am0 (a:Act) (w:World) (hid:Nat→Value) (l:List (Nat × AV)) (k:Nat) (x:AV):Prop:=
 (x.isRoot=true→c5 l (1000+k)=x∧aI a.tmps hid (1000+k)=aI a.tmps hid k) ∧
 (∀ cs,x=.agg cs→∃ zs:List Value,aI a.tmps hid k=.agg zs.toArray∧RepA w lk0 (fun _=>0) (fun _=>0) zs (cs.map sY) ∧
   (∀ i s es,cs[i]?=some (.own s es)→c5 l (rt k i)=.own s es)∧∀ i v,zs[i]?=some v→aI a.tmps hid (rt k i)=v)∧pM l k
theorem s7:∀ (xs:List AV) (bs:List Bool) (k:Nat) (l:List (Nat × AV)) {Fs Xs:Nat→aH},k+xs.length≤32→k+xs.length≤B.n→B.n≤1000 →
  (∀ j x,xs[j]?=some x→bs[j]?=some true→am0 a w hid l (k+j) x)→cR bs xs=true →
  Rel B hid w a (mkE l []) Fs Xs→∃ Fs' Xs',Rel B hid w a (mkE (l++dG k bs xs) []) Fs' Xs':=by
 intro xs
 induction xs with
 | nil=>intro bs k l Fs Xs _ _ _ _ _ R; exact ⟨Fs,Xs,by cases bs <;> simpa [dG] using R⟩
 | cons x xs ih=>
  intro bs k l Fs Xs h1 h2 hn hl hr R
  simp only [lN1] at h1 h2
  cases bs with
  | nil=>exact ⟨Fs,Xs,by simpa [dG] using R⟩
  | cons b bs=>
   cases b with
   | false=>
    simp only [dG]
    exact ih bs (k+1) l (by omega) (by omega) hn (fun j y hj hb=>by
     have:=hl (j+1) y (by simpa using hj) (by simpa using hb)
     rw [show k+1+j=k+(j+1) by omega]; exact this) (by simpa [cR] using hr) R
   | true=>
    simp only [cR,lN] at hr
    obtain ⟨g1,g2,g3⟩:=hl 0 x rfl rfl
    rw [lQ3] at g1 g2 g3
    have hrx:x.isRoot=true∨∃ cs,x=.agg cs:=by
     cases x with
     | agg cs=>exact .inr ⟨cs,rfl⟩
     | _=>exact .inl hr.1
    have hrep:=agO R (k:=k) (x:=x) (fun h=>⟨by rw [ak7]; exact (g1 h).1,rfl,(g1 h).2⟩) (fun cs hcs=>by
     obtain ⟨zs,z1,z2,z3,z4⟩:=g2 cs hcs
     exact ⟨zs,z1,z2,fun i s es hi=>⟨by rw [ak7]; exact z3 i s es hi,rfl⟩,z4⟩) hrx
    obtain ⟨XP',P1⟩:=PR.ofRel R hrep (fun _=>rfl) (fun b hb=>absurd rfl hb)
    obtain ⟨Fs1,Xs1,FP1,XP1,P2⟩:=PR.place P1 (q:=k) (hid':=hid) rfl (fun _ _=>rfl)
    rw [wW g3] at P2
    have far:∀ q,1000≤q→pM [(k,jS k x)] q:=by
     intro q hq p hp; simp at hp; subst hp; (try dsimp only); omega
    obtain ⟨Fs2,Xs2,R3⟩:=ih bs (k+1) (l++[(k,jS k x)]) (by omega) (by omega) hn (fun j y hj hb=>by
     obtain ⟨k1,k2,k3⟩:=hl (j+1) y (by simpa using hj) (by simpa using hb)
     rw [show k+1+j=k+(j+1) by omega]
     refine ⟨fun h=>?_,fun cs hcs=>?_,?_⟩
     ·rw [rY (far _ (by omega))]; exact k1 h
     ·obtain ⟨zs,z1,z2,z3,z4⟩:=k2 cs hcs
      exact ⟨zs,z1,z2,fun i s es hi=>by rw [rY (far _ (by simp only [rt]; omega))]; exact z3 i s es hi,z4⟩
     ·intro p hp
      rcases lL.1 hp with hp | hp
      ·exact k3 p hp
      ·simp at hp; subst hp; (try dsimp only); omega) hr.2 P2.rel
    exact ⟨Fs2,Xs2,by simpa [dG] using R3⟩
def gT (E:Env):AV→Option (AV × Env)
 | .ref r e p st=>match p,E.f r with
  | [],.box cs=>if st.i=0∧st.s=0∧st.j=0∧e=(E.ep r).1 then some (.box cs,E.put r .undef) else none
  | _,_=>none
 | _=>none
inductive RV where
 | t (n:Nat)
 | c (n sz:Nat) (ag:Bool)
 deriving DecidableEq
def akQ (E:Env):RV→Option (AV × Env)
 | .t n=>match gT E (E.f n) with
  | some g=>some g
  | none=>dT E (.t n)
 | .c n sz ag=>(gT E (E.f n)).bind fun g=>match g.1 with
  | .box cs=>if cs.length=sz then (oneOf cs ag).map fun x=>(x,g.2) else none
  | _=>none
def ac9 (E:Env):List RV→Option (List AV × Env)
 | []=>some ([],E)
 | t::l=>(akQ E t).bind fun g=>(ac9 g.2 l).map fun y=>(g.1::y.1,y.2)
def ajC (P:Program) (nt:Nat):List ResultVar→Option (List RV)
 | []=>some []
 | .tmp t::l=>if t<nt then (ajC P nt l).map (.t t::·) else none
 | .cell t ty::l=>if t<nt then (oK P ty).bind fun s=>(aiN P ty).bind fun ag=>(ajC P nt l).map (.c t s ag::·) else none
def amI (tmps:Array Value):ResultVar→Sem Value
 | .tmp t=>pure (tmps.getD t undef)
 | .cell a t=>do loadVar t (← asAddr (tmps.getD a undef))
def abm:List AV→AV
 | [x]=>x
 | l=>.tup l
def cP (E:Env) (k:Nat):Nat→List AV→List AV
 | _,[]=>[]
 | j,.own _ _::cs=>E.f (rt k j)::cP E k (j+1) cs
 | j,c::cs=>sY c::cP E k (j+1) cs
def dN (E:Env):Nat→List Bool→List AV→List AV
 | _,_,[]=>[]
 | k,[],_::xs=>.undef::dN E (k+1) [] xs
 | k,b::bs,x::xs=>(if b then (match x with
   | .agg cs=>.agg (cP E k 0 cs)
   | _=>E.f (1000+k)) else .undef)::dN E (k+1) bs xs
def abn (rs:List RV) (bs:List Bool) (args:List AV) (ret:AV) (outs:List AV) (E:Env):Prop:=
 onO (ac9 E rs) fun q=>abm q.1=ret∧dN q.2 0 bs args=outs∧dC (ret::outs)=true
theorem s8 {t:Nat} {E E':Env} {x:AV} {Fs Xs:Nat→aH} {FP XP:aH} {vs:List Value} {xs:List AV} (ht:t<B.n) (P1:PR B hid w a E Fs Xs FP XP vs xs) (h:gT E (E.f t)=some (x,E')) :
  ∃ Fs' Xs' FP' XP',PR B hid w a E' Fs' Xs' FP' XP' (vs++[a.tmps.getD t undef]) (xs++[x]):=by
 have R:=P1.rel
 have hrep:=R.rep t
 unfold gT at h
 split at h
 case h_2=>cases h
 rename_i r e p st hq
 split at h
 case h_2=>cases h
 rename_i cs hbx
 obtain ⟨⟨h1,h2,h3,h4⟩,h⟩:=aD h
 cases h
 rw [hq] at hrep
 have hlk:aN w (aI a.tmps hid) E r e []=some (some (aI a.tmps hid r)):=by
  unfold aN; rw [if_neg (by simp [fM]; omega),if_pos ⟨by simp [fM,h4],by rw [hbx]; rfl,by rw [hbx]; rfl⟩]; rfl
 have hb:∃ b,aI a.tmps hid r=.pointer (some ⟨b,0,none⟩):=by
  have hrep:=R.rep r
  rw [hbx] at hrep
  generalize aI a.tmps hid r=v at hrep
  cases hrep with
  | box _ F1 F2 _ X1 X2 b C ty fr _ _ _ hb hfr h1 h2 hF hX=>exact ⟨b,rfl⟩
 obtain ⟨b,hb⟩:=hb
 have hv:aI a.tmps hid t=aI a.tmps hid r:=by
  generalize aI a.tmps hid t=v at hrep ⊢
  cases hrep with
  | ref _ _ _ _ _ _ o _ _ _ ho hv _=>
   rw [hlk] at ho
   cases ho
   obtain ⟨ad,g1,g2⟩:=hv _ rfl
   rw [g2,hb]
   rw [hb] at g1
   simp only [hdr,Option.some.injEq] at g1
   rw [← g1,h1,h3]
   simp [Addr.add]
 obtain ⟨Fs',Xs',FP',XP',P2⟩:=P1.move r
 refine ⟨Fs',Xs',FP',XP',?_⟩
 rw [hbx,← hv] at P2
 have:aI a.tmps hid t=a.tmps.getD t undef:=by unfold aI; rw [if_pos (by rw [R.size]; exact ht)]
 rw [this] at P2
 exact P2
theorem aef {t:Nat} {E:Env} {g:AV × Env} {Fs Xs:Nat→aH} {FP XP:aH} {vs:List Value} {xs:List AV} (ht:t<B.n) (P1:PR B hid w a E Fs Xs FP XP vs xs) (h:akQ E (.t t)=some g) :
  ∃ Fs' Xs' FP' XP',PR B hid w a g.2 Fs' Xs' FP' XP' (vs++[a.tmps.getD t undef]) (xs++[g.1]):=by
 simp only [akQ] at h
 split at h
 ·rename_i q hq
  cases h
  exact s8 ht P1 hq
 ·obtain ⟨Fs1,Xs1,FP1,XP1,P2⟩:=dM (x:=.tmp t) (x':=g.1) (E':=g.2) (.tmp t ht) P1 h
  exact ⟨Fs1,Xs1,FP1,XP1,P2⟩
theorem aeg {t s:Nat} {ag:Bool} {ty:TypeId} {E:Env} {g:AV × Env} {Fs Xs:Nat→aH} {FP XP:aH} {vs:List Value} {xs:List AV} (ht:t<B.n) (hs:oK P ty=some s) (hag:aiN P ty=some ag)
  (P1:PR B hid w a E Fs Xs FP XP vs xs) (h:akQ E (.c t s ag)=some g) :
  ∃ v Fs' Xs' FP' XP',(amI a.tmps (.cell t ty)).run P w=.ok v w∧PR B hid w a g.2 Fs' Xs' FP' XP' (vs++[v]) (xs++[g.1]):=by
 simp only [akQ] at h
 obtain ⟨q,hq,h⟩:=bind_some h
 obtain ⟨q1,q2⟩:=q
 simp only at h
 split at h
 case h_2=>cases h
 rename_i cs0 cs
 obtain ⟨hl,h⟩:=aD h
 obtain ⟨x,hx,rfl⟩:=map_some h
 obtain ⟨Fs',Xs',FP',XP',P2⟩:=s8 ht P1 hq
 obtain ⟨A1,A2,Y1,Y2,r1,r2,eA,eY⟩:=RepA.split vs xs (by have:=P2.rep.length; simpa using this) P2.rep
 generalize hvt:a.tmps.getD t undef=vt at r2
 cases r2 with
 | box _ F1 F2 _ X1 X2 b C ty' fr _ _ _ hb hfr h1 h2 hF hX=>
  obtain ⟨v,hv1,hv2⟩:=oU (P:=P) (w:=w) (ad:=⟨b,0,none⟩) (us:=C.toList) hs hag (by rw [h1.length]; exact hl) (by
   intro k v hk
   have hk':C[k]?=some v:=by simpa using hk
   unfold Addr.add
   by_cases e:k=0
   ·subst e; simp [World.cell?,hb,hk']
   ·simp [e,World.cell?,hb,hk']) h1 hx
  refine ⟨v,Fs',Xs',fun c=>A1 c+F1 c,fun c=>Y1 c+X1 c,?_,?_⟩
  ·simp only [amI,Sem.run_bind,hvt]
   simp [asAddr,hv1]
  ·exact P2.shrink (RepA.append r1 hv2 (fun _=>rfl) (fun _=>rfl)) (fun c=>by have:=eA c; have:=hF c; omega) (fun c=>by have:=eY c; have:=hX c; omega)
theorem vB:∀ {res:List ResultVar} {rs:List RV} {E E':Env} {l:List AV} {Fs Xs:Nat→aH} {FP XP:aH} {vs:List Value} {xs:List AV},ajC P B.n res=some rs→PR B hid w a E Fs Xs FP XP vs xs→ac9 E rs=some (l,E') →
  ∃ us Fs' Xs' FP' XP',(res.mapM (amI a.tmps)).run P w=.ok us w∧us.length=l.length∧PR B hid w a E' Fs' Xs' FP' XP' (vs++us) (xs++l):=by
 intro res
 induction res with
 | nil=>
  intro rs E E' l Fs Xs FP XP vs xs hr P1 h
  simp only [ajC,Option.some.injEq] at hr
  subst hr
  simp only [ac9,Option.some.injEq,Prod.mk.injEq] at h
  obtain ⟨rfl,rfl⟩:=h
  exact ⟨[],_,_,_,_,by simp,rfl,by simpa using P1⟩
 | cons r res ih=>
  intro rs E E' l Fs Xs FP XP vs xs hr P1 h
  cases r with
  | tmp t=>
   simp only [ajC] at hr
   obtain ⟨ht,hr⟩:=aD hr
   obtain ⟨rs',hr',rfl⟩:=map_some hr
   simp only [ac9] at h
   obtain ⟨g,hg,h⟩:=bind_some h
   obtain ⟨y,hy,h⟩:=map_some h
   simp only [Prod.mk.injEq] at h
   obtain ⟨rfl,rfl⟩:=h
   obtain ⟨Fs1,Xs1,FP1,XP1,P2⟩:=aef ht P1 hg
   obtain ⟨us,Fs2,Xs2,FP2,XP2,hrun,hlen,P3⟩:=ih (l:=y.1) (E':=y.2) hr' P2 hy
   exact ⟨a.tmps.getD t undef::us,Fs2,Xs2,FP2,XP2,by simp only [lF4,Sem.run_bind,amI,Sem.run_pure,Result.andThen_ok,hrun],by simp [hlen],by simpa using P3⟩
  | cell t ty=>
   simp only [ajC] at hr
   obtain ⟨ht,hr⟩:=aD hr
   obtain ⟨s,hs,hr⟩:=bind_some hr
   obtain ⟨ag,hag,hr⟩:=bind_some hr
   obtain ⟨rs',hr',rfl⟩:=map_some hr
   simp only [ac9] at h
   obtain ⟨g,hg,h⟩:=bind_some h
   obtain ⟨y,hy,h⟩:=map_some h
   simp only [Prod.mk.injEq] at h
   obtain ⟨rfl,rfl⟩:=h
   obtain ⟨v,Fs1,Xs1,FP1,XP1,hv,P2⟩:=aeg ht hs hag P1 hg
   obtain ⟨us,Fs2,Xs2,FP2,XP2,hrun,hlen,P3⟩:=ih (l:=y.1) (E':=y.2) hr' P2 hy
   exact ⟨v::us,Fs2,Xs2,FP2,XP2,by simp only [lF4,Sem.run_bind,hv,Sem.run_pure,Result.andThen_ok,hrun],by simp [hlen],by simpa using P3⟩
theorem yV (E:Env) (k q:Nat) (y:AV):∀ (cs:List AV) (j:Nat),(∀ i,j≤i→rt k i≠q)→cP (E.put q y) k j cs=cP E k j cs:=by
 intro cs
 induction cs with
 | nil=>intro j _; rfl
 | cons c cs ih=>
  intro j h
  cases c with
  | own s es=>simp only [cP]; rw [ih _ fun i hi=>h i (by omega),bV (h j (lS1 _))]
  | _=>simp only [cP]; rw [ih _ fun i hi=>h i (by omega)]
theorem yW (E:Env) (q:Nat) (y:AV):∀ (xs:List AV) (k:Nat) (bs:List Bool),k+xs.length≤32→(q-1000)%32<k→1000≤q→dN (E.put q y) k bs xs=dN E k bs xs:=by
 intro xs
 induction xs with
 | nil=>intro k bs _ _ _; cases bs <;> rfl
 | cons x xs ih=>
  intro k bs hk hq h1
  simp only [lN1] at hk
  cases bs with
  | nil=>simp only [dN]; rw [ih _ _ (by omega) (by omega) h1]
  | cons b bs=>
   simp only [dN]
   rw [ih _ _ (by omega) (by omega) h1]
   congr 1
   cases b with
   | false=>rfl
   | true=>
    simp only [lP]
    cases x with
    | agg cs=>simp only; rw [yV]; intro i _ e; subst e; simp only [rt] at hq; omega
    | _=>simp only; rw [bV (by omega)]
theorem agP (k:Nat) (hk:k<32) (hn:B.n≤1000):∀ (cs:List AV) (j:Nat) (zs:List Value) {E:Env} {Fs Xs:Nat→aH} {FP XP:aH} {us:List Value} {xs:List AV},RepA w lk0 (fun _=>0) (fun _=>0) zs (cs.map sY) →
  (∀ i v,zs[i]?=some v→hid (rt k (j+i))=v)→PR B hid w a E Fs Xs FP XP us xs →
  ∃ E' Fs' Xs' FP' XP',PR B hid w a E' Fs' Xs' FP' XP' (us++zs) (xs++cP E k j cs)∧∀ (ys:List AV) (k':Nat) (bs:List Bool),k' + ys.length≤32→k<k'→dN E' k' bs ys=dN E k' bs ys:=by
 intro cs
 induction cs with
 | nil=>
  intro j zs E Fs Xs FP XP us xs h _ P1
  have:=h.length
  cases zs with
  | nil=>exact ⟨E,Fs,Xs,FP,XP,by simpa [cP] using P1,fun _ _ _ _ _=>rfl⟩
  | cons z zs=>simp at this
 | cons c cs ih=>
  intro j zs E Fs Xs FP XP us xs h hv P1
  have:=h.length
  cases zs with
  | nil=>simp at this
  | cons z zs=>
   obtain ⟨A1,A2,Y1,Y2,q1,q2,eA,eY⟩:=RepA.uncons h
   have q2':=q2.foot (G:=fun _=>0) (Y:=fun _=>0) (fun b=>by have:=eA b; omega) (fun b=>by have:=eY b; omega)
   have hv':∀ i v,zs[i]?=some v→hid (rt k (j+1+i))=v:=fun i v hi=>by
    have:=hv (i+1) v (by simpa using hi)
    rw [show j+1+i=j+(i+1) by omega]; exact this
   have hz:hid (rt k j)=z:=hv 0 z rfl
   have copy:cP E k j (c::cs)=sY c::cP E k (j+1) cs→∃ E' Fs' Xs' FP' XP',PR B hid w a E' Fs' Xs' FP' XP' (us++z::zs) (xs++cP E k j (c::cs))∧∀ (ys:List AV) (k':Nat) (bs:List Bool),k' + ys.length≤32→k<k'→dN E' k' bs ys=dN E k' bs ys:=by
    intro he
    obtain ⟨XP',P2⟩:=P1.copy (q1.lk0 (aN w (aI a.tmps hid) E)) (fun b=>by have:=eA b; first | omega | (dsimp only; omega) | (dsimp only at *; omega)) (fun b hb=>by have:=eY b; first | omega | (dsimp only; omega) | (dsimp only at *; omega))
    obtain ⟨E',Fs',Xs',FP',XP',P3,ho⟩:=ih (j+1) zs q2' hv' P2
    rw [he]
    exact ⟨E',Fs',Xs',FP',XP',by simpa using P3,ho⟩
   cases c with
   | own s es=>
    obtain ⟨Fs1,Xs1,FP1,XP1,P2⟩:=P1.move (rt k j)
    rw [pD (by rw [P1.rel.size]; simp only [rt]; omega),hz] at P2
    obtain ⟨E',Fs',Xs',FP',XP',P3,ho⟩:=ih (j+1) zs q2' hv' P2
    rw [yV _ _ _ _ _ _ (fun i hi e=>by simp only [rt] at e; omega)] at P3
    refine ⟨E',Fs',Xs',FP',XP',by simpa [cP] using P3,fun ys k' bs h1 h2=>?_⟩
    rw [ho ys k' bs h1 h2,yW _ _ _ _ _ _ h1 (by simp only [rt]; omega) (by simp only [rt]; omega)]
   | _=>exact copy rfl
theorem vC:∀ (ys:List AV) (k:Nat) (bs:List Bool) {E:Env} {Fs Xs:Nat→aH} {FP XP:aH} {us:List Value} {xs:List AV} {vs:List Value},vs.length=ys.length→k+ys.length≤32→B.n≤1000 →
  (∀ j v,vs[j]?=some v→hid (1000+(k+j))=v) →
  (∀ (j:Nat) (cs:List AV),ys[j]?=some (AV.agg cs)→bs[j]?=some true→∃ zs:List Value,vs[j]?=some (Value.agg zs.toArray)∧RepA w lk0 (fun _=>0) (fun _=>0) zs (cs.map sY)∧∀ i v,zs[i]?=some v→hid (rt (k+j) i)=v) →
  PR B hid w a E Fs Xs FP XP us xs→∃ E' Fs' Xs' FP' XP',PR B hid w a E' Fs' Xs' FP' XP' (us++vs) (xs++dN E k bs ys):=by
 intro ys
 induction ys with
 | nil=>
  intro k bs E Fs Xs FP XP us xs vs hv _ _ _ _ P1
  cases vs with
  | nil=>exact ⟨E,Fs,Xs,FP,XP,by cases bs <;> simpa [dN] using P1⟩
  | cons v vs=>cases hv
 | cons y ys ih=>
  intro k bs E Fs Xs FP XP us xs vs hv hk hn hh hc P1
  simp only [lN1] at hk
  cases vs with
  | nil=>cases hv
  | cons v vs=>
   have hv0:=hh 0 v rfl
   have hnext:∀ j u,vs[j]?=some u→hid (1000+(k+1+j))=u:=fun j u hj=>by
    have:=hh (j+1) u (by simpa using hj)
    rw [show k+1+j=k+(j+1) by omega]; exact this
   have hcn:∀ bs':List Bool,(∀ j,bs'[j]?=some true→bs[j+1]?=some true)→∀ (j:Nat) (cs:List AV),ys[j]?=some (AV.agg cs)→bs'[j]?=some true→∃ zs:List Value,vs[j]?=some (Value.agg zs.toArray)∧RepA w lk0 (fun _=>0) (fun _=>0) zs (cs.map sY)∧∀ i v,zs[i]?=some v→hid (rt (k+1+j) i)=v:=fun bs' hb j cs hj hbj=>by
    obtain ⟨zs,z1,z2,z3⟩:=hc (j+1) cs (by simpa using hj) (hb j hbj)
    exact ⟨zs,by simpa using z1,z2,fun i v hi=>by rw [show k+1+j=k+(j+1) by omega]; exact z3 i v hi⟩
   have undef:∀ bs':List Bool,(∀ j,bs'[j]?=some true→bs[j+1]?=some true)→∃ E' Fs' Xs' FP' XP',PR B hid w a E' Fs' Xs' FP' XP' (us++v::vs) (xs++.undef::dN E (k+1) bs' ys):=by
    intro bs' hb
    have hu:RepA w (aN w (aI a.tmps hid) E) (fun _=>0) (fun _=>0) [v] [.undef]:=.undef _ _ _ _ _ RepA.znil
    obtain ⟨XP',P2⟩:=P1.copy hu (fun _=>rfl) (fun b hb=>absurd rfl hb)
    obtain ⟨E',Fs',Xs',FP',XP',P3⟩:=ih (k+1) bs' (vs:=vs) (by simpa using hv) (by omega) hn hnext (hcn bs' hb) P2
    exact ⟨E',Fs',Xs',FP',XP',by simpa using P3⟩
   have root:∀ bs':List Bool,(∀ j,bs'[j]?=some true→bs[j+1]?=some true)→∃ E' Fs' Xs' FP' XP',PR B hid w a E' Fs' Xs' FP' XP' (us++v::vs) (xs++E.f (1000+k)::dN E (k+1) bs' ys):=by
    intro bs' hb
    obtain ⟨Fs1,Xs1,FP1,XP1,P2⟩:=P1.move (1000+k)
    rw [pD (by rw [P1.rel.size]; omega),show hid (1000+k)=v from hv0] at P2
    obtain ⟨E',Fs',Xs',FP',XP',P3⟩:=ih (k+1) bs' (vs:=vs) (by simpa using hv) (by omega) hn hnext (hcn bs' hb) P2
    rw [yW _ _ _ _ _ _ (by omega) (by omega) (by omega)] at P3
    exact ⟨E',Fs',Xs',FP',XP',by simpa using P3⟩
   cases bs with
   | nil=>exact undef [] (fun j h=>by simp at h)
   | cons b bs=>
    cases b with
    | false=>exact undef bs (fun j h=>by simpa using h)
    | true=>
     cases y with
     | agg cs=>
      obtain ⟨zs,z1,z2,z3⟩:=hc 0 cs rfl rfl
      simp only [lO3,Option.some.injEq] at z1
      subst z1
      obtain ⟨E1,Fs1,Xs1,FP1,XP1,P2,ho⟩:=agP (B:=B) k (by omega) hn cs 0 zs z2 (fun i v hi=>by rw [lF2]; exact z3 i v hi) P1
      have hcl:zs.length=(cP E k 0 cs).length:=by
       have:=P2.rep.length
       have:=P1.rep.length
       simp only [lY] at *
       omega
      have P3:=P2.rerep (RepA.close_agg (us:=us) (ys:=xs) (zs:=zs) (vs:=[]) (xs:=[]) P1.rep.length hcl (by simpa using P2.rep))
      obtain ⟨E',Fs',Xs',FP',XP',P4⟩:=ih (k+1) bs (vs:=vs) (by simpa using hv) (by omega) hn hnext (hcn bs fun j h=>by simpa using h) P3
      rw [ho _ _ _ (by omega) (by omega)] at P4
      exact ⟨E',Fs',Xs',FP',XP',by simpa [dN] using P4⟩
     | _=>exact root bs (fun j h=>by simpa using h)
end
section
variable {P:Program}
def yX:List Value→Value
 | [x]=>x
 | l=>.tuple l.toArray
theorem s9 {w:World} {fn:Func} {us:List Value} {tmps:Array Value} (hrun:(fn.results.toList.mapM (amI tmps)).run P w=.ok us w) :
  (results fn tmps).run P w=.ok (yX us) w:=by
 have e:results fn tmps=(do let vs ← fn.results.mapM (amI tmps); pure (if h:vs.size=1 then vs[0] else .tuple vs)):=by
  unfold results
  congr 1
 rw [e]
 simp only [Sem.run_bind,Array.mapM_eq_mapM_toList,Sem.run_map]
 rw [hrun]
 simp only [Result.andThen_ok,Sem.run_pure]
 match us with
 | []=>simp [yX]
 | [x]=>simp [yX]
 | x::y::l=>simp [yX]
theorem agQ {B:Base} {hid:Nat→Value} {w:World} {a:Act} {E:Env} {Fs Xs:Nat→aH} {FP XP:aH} {us vs:List Value} {xs ys:List AV} (P1:PR B hid w a E Fs Xs FP XP (us++vs) (xs++ys)) (hl:us.length=xs.length) :
  PR B hid w a E Fs Xs FP XP (yX us::vs) (abm xs::ys):=by
 match us,xs,hl with
 | [u],[x],_=>exact P1
 | [],[],_=>
  refine P1.rerep ?_
  have:=P1.rep
  simp only [lD1] at this
  exact .tup _ (fun _=>0) FP _ (fun _=>0) XP [] [] _ _ RepA.znil this (fun _=>by omega) (fun _=>by omega)
 | u::u'::us,x::x'::xs,hl=>
  refine P1.rerep ?_
  obtain ⟨A1,A2,Y1,Y2,q1,q2,eA,eY⟩:=RepA.split (u::u'::us) (x::x'::xs) (by simpa using hl) P1.rep
  exact .tup _ A1 A2 _ Y1 Y2 _ _ _ _ q1 q2 eA eY
theorem vD (k:Nat):∀ (cs:List AV) (j:Nat),∀ p ∈ b0 k j cs,∃ i,j≤i∧p.1=rt k i:=by
 intro cs
 induction cs with
 | nil=>intro j p hp; simp [b0] at hp
 | cons c cs ih=>
  intro j p hp
  cases c with
  | own s es=>
   simp only [b0,lG] at hp
   rcases hp with rfl | hp
   ·exact ⟨j,lS1 _,rfl⟩
   ·obtain ⟨i,h1,h2⟩:=ih _ p hp; exact ⟨i,by omega,h2⟩
  | _=>simp only [b0] at hp; obtain ⟨i,h1,h2⟩:=ih _ p hp; exact ⟨i,by omega,h2⟩
theorem agR (k:Nat):∀ (cs:List AV) (j i:Nat) (s:Nat) (es:List (List TV)),cs[i]?=some (.own s es)→c5 (b0 k j cs) (rt k (j+i))=.own s es:=by
 intro cs
 induction cs with
 | nil=>intro j i s es h; simp at h
 | cons c cs ih=>
  intro j i s es h
  have nx:∀ i',i=i' + 1→c5 (b0 k (j+1) cs) (rt k (j+i))=.own s es:=fun i' e=>by
   subst e
   have:=ih (j+1) i' s es (by simpa using h)
   rw [show j+(i' + 1)=j+1+i' by omega]; exact this
  cases i with
  | zero=>simp at h; subst h; simp [b0,c5]
  | succ i=>
   cases c with
   | own s' es'=>simp only [b0,c5]; rw [lK (by simp only [rt]; omega)]; exact nx i rfl
   | _=>simp only [b0]; exact nx i rfl
theorem qQ {l m:List (Nat × AV)} {q:Nat} (h:pM l q):c5 (l++m) q=c5 m q:=by
 induction l with
 | nil=>rfl
 | cons p l ih=>
  obtain ⟨k,x⟩:=p
  simp only [lT1,c5]
  rw [lK (h (k,x) (by simp))]
  exact ih fun p hp=>h p (by simp [hp])
theorem qR:∀ (xs:List AV) (bs:List Bool) (k:Nat),∀ p ∈ bH k bs xs,∃ i,i<xs.length∧((bs[i]?=some true∧(p.1=1000+(k+i)∨∃ c,p.1=rt (k+i) c))∨(bs[i]?≠some true∧p.1=k+i)):=by
 intro xs
 induction xs with
 | nil=>intro bs k p hp; cases bs <;> simp [bH] at hp
 | cons x xs ih=>
  intro bs k p hp
  have tl:∀ b bs,p ∈ bH (k+1) bs xs→∃ i,i<(x::xs).length∧(((b::bs)[i]?=some true∧(p.1=1000+(k+i)∨∃ c,p.1=rt (k+i) c))∨((b::bs)[i]?≠some true∧p.1=k+i)):=fun b bs hp=>by
   obtain ⟨i,h1,h2⟩:=ih bs (k+1) p hp
   refine ⟨i+1,by simp; omega,?_⟩
   rw [show k+(i+1)=k+1+i by omega]
   simpa using h2
  cases bs with
  | nil=>
   simp only [bH,lG] at hp
   rcases hp with rfl | hp
   ·exact ⟨0,by simp,.inr ⟨by simp,rfl⟩⟩
   ·obtain ⟨i,h1,h2⟩:=ih [] (k+1) p hp
    refine ⟨i+1,by simp; omega,?_⟩
    rcases h2 with ⟨h2,h3⟩ | ⟨h2,h3⟩
    ·simp at h2
    ·exact .inr ⟨by simp,by omega⟩
  | cons b bs=>
   cases b with
   | false=>
    simp only [bH,lW3,lG1,lG] at hp
    rcases hp with rfl | hp
    ·exact ⟨0,by simp,.inr ⟨by simp,rfl⟩⟩
    ·exact tl false bs hp
   | true=>
    cases x with
    | agg cs=>
     simp only [bH,lP,lL] at hp
     rcases hp with hp | hp
     ·obtain ⟨i,_,hi⟩:=vD k cs 0 p hp
      exact ⟨0,by simp,.inl ⟨rfl,.inr ⟨i,hi⟩⟩⟩
     ·exact tl true bs hp
    | _=>
     simp only [bH,lP,lG] at hp
     rcases hp with rfl | hp
     ·exact ⟨0,by simp,.inl ⟨rfl,.inl rfl⟩⟩
     ·exact tl true bs hp
theorem abo:∀ {bs:List Bool} {xs:List AV} {j:Nat} {cs:List AV},cR bs xs=true→xs[j]?=some (AV.agg cs)→bs[j]?=some true→cs.length≤30:=by
 intro bs
 induction bs with
 | nil=>intro xs j cs _ _ h; simp at h
 | cons b bs ih=>
  intro xs j cs h hx hb
  cases xs with
  | nil=>simp at hx
  | cons x xs=>
   cases j with
   | zero=>
    simp at hx hb
    subst hx hb
    simp only [cR,lN,decide_eq_true_eq] at h
    exact h.1
   | succ j=>
    refine ih (xs:=xs) (j:=j) ?_ (by simpa using hx) (by simpa using hb)
    cases b with
    | true=>simp only [cR,lN] at h; exact h.2
    | false=>simpa [cR] using h
theorem agS {xs:List AV} {bs:List Bool} {k q:Nat} (hk:k+xs.length≤32) (hq:1000≤q∧(q-1000)%32<k):pM (bH k bs xs) q:=by
 intro p hp e
 obtain ⟨i,h1,h2⟩:=qR xs bs k p hp
 rcases h2 with ⟨_,h3 | ⟨c,h3⟩⟩ | ⟨_,h3⟩
 ·omega
 ·simp only [rt] at h3; omega
 ·omega
theorem yY:∀ (xs:List AV) (bs:List Bool) (k j:Nat) (x:AV),xs[j]?=some x→bs[j]?=some true→k+xs.length≤32 →
  (x.isRoot=true→c5 (bH k bs xs) (1000+(k+j))=x)∧(∀ cs,x=.agg cs→∀ i s es,cs[i]?=some (.own s es)→c5 (bH k bs xs) (rt (k+j) i)=.own s es)∧pM (bH k bs xs) (k+j):=by
 intro xs
 induction xs with
 | nil=>intro bs k j x h; simp at h
 | cons y xs ih=>
  intro bs k j x h hb hk
  have hjl:j<(y::xs).length:=(lI.1 h).1
  have hno:pM (bH k bs (y::xs)) (k+j):=by
   intro p hp e
   obtain ⟨i,h1,h2⟩:=qR (y::xs) bs k p hp
   rcases h2 with ⟨h2,h3 | ⟨c,h3⟩⟩ | ⟨h2,h3⟩
   ·omega
   ·simp only [rt] at h3; omega
   ·have:i=j:=by omega
    subst this
    exact h2 hb
  simp only [lN1] at hk hjl
  cases bs with
  | nil=>simp at hb
  | cons b bs=>
   cases j with
   | zero=>
    simp at h hb
    subst h hb
    refine ⟨fun hr=>?_,fun cs hcs i s es hi=>?_,hno⟩
    ·cases y <;> first | (simp [bH,c5]; done) | cases hr
    ·subst hcs
     simp only [bH,lP,lQ3]
     rw [rY (agS (by omega) (by simp only [rt]; omega))]
     have:=agR k cs 0 i s es hi
     rwa [lF2] at this
   | succ j=>
    obtain ⟨k1,k2,_⟩:=ih bs (k+1) j x (by simpa using h) (by simpa using hb) (by omega)
    rw [show k+1+j=k+(j+1) by omega] at k1 k2
    have skip:∀ q,1000≤q→(q-1000)%32=k+(j+1)→c5 (bH k (b::bs) (y::xs)) q=c5 (bH (k+1) bs xs) q:=by
     intro q h1 h2
     cases b with
     | false=>simp only [bH]; exact qQ (l:=[(k,y)]) (by intro p hp; simp at hp; subst hp; (try dsimp only); omega)
     | true=>
      cases y with
      | agg cs=>
       simp only [bH,lP]
       exact qQ (by intro p hp; obtain ⟨i,_,hi⟩:=vD k cs 0 p hp; rw [hi]; simp only [rt]; omega)
      | _=>simp only [bH,if_true]; exact qQ (l:=[(1000+k,_)]) (by intro p hp; simp at hp; subst hp; (try dsimp only); omega)
    refine ⟨fun hr=>?_,fun cs hcs i s es hi=>?_,hno⟩
    ·rw [skip _ (by omega) (by omega)]; exact k1 hr
    ·rw [skip _ (by simp only [rt]; omega) (by simp only [rt]; omega)]; exact k2 cs hcs i s es hi
theorem abp {f:Nat} {fn:Func} {c:Code} {cmd:Cmd} {args outs:List AV} {ret:AV} {bs:List Bool} {ks:Nat} {rs:List RV} (hf:P.funcs[f]?=some fn) (hb:fn.body=some c)
  (hnm:(fn.name == "runtime.NumGoroutine")=false) (hn:fn.ntmps≤1000) (hlen:args.length≤fn.ntmps∧args.length≤32) (hres:ajC P fn.ntmps fn.results.toList=some rs) (hol:outs.length=args.length)
  (hroots:cR bs args=true) (hD:P.follows .mixedOrders=true) (hc:l8 P fn.ntmps c=some cmd)
  (h:awp P ks cmd (fun x E'=>(x=.r∨x=.n)∧abn rs bs args ret outs E') (mkE (bH 0 bs args++dG 0 bs args) [])):bR P f args ret outs:=by
 refine ⟨⟨fn,hf,by rw [hb]; rfl,hnm⟩,hol,?_⟩
 intro w vs F X hrep hF1 hdis hXlt
 have hvl:=hrep.length
 let B:Base:=⟨w,F,X,fn.ntmps⟩
 let hv:Nat→Value:=amH vs
 let a:Act:={ tmps:=vs.toArray++Array.replicate (fn.ntmps-vs.toArray.size) undef,defers:=[] }
 have hsize:a.tmps.size=B.n:=by simp [a,B]; omega
 have hvl1:∀ j v,vs[j]?=some v→aI a.tmps hv (0+j)=v∧aI a.tmps hv (1000+(0+j))=v:=by
  intro j v hj
  have hjl:=(lI.1 hj).1
  rw [lF2]
  refine ⟨?_,?_⟩
  ·unfold aI
   rw [lF (by rw [hsize]; show j<fn.ntmps; omega)]
   simp [a,Array.getElem?_append,hjl,hj]
   rw [lH hjl] at hj
   simpa using hj
  ·rw [pD (by rw [hsize]; show fn.ntmps≤_; omega)]
   exact wV (by omega) hj
 have hvl2:∀ j us i v,vs[j]?=some (.agg (us:List Value).toArray)→us[i]?=some v→aI a.tmps hv (rt (0+j) i)=v∧hv (rt (0+j) i)=v:=by
  intro j us i v hj hi
  have hjl:=(lI.1 hj).1
  have:=yU (vs:=vs) (k:=j) (by omega) hj hi
  rw [lF2]
  exact ⟨by rw [pD (by rw [hsize]; show fn.ntmps≤_; simp only [rt]; omega)]; exact this,this⟩
 have hprim:∀ (j:Nat) (cs:List AV) (w':World),args[j]?=some (AV.agg cs)→∃ zs:List Value,vs[j]?=some (Value.agg zs.toArray)∧RepA w' lk0 (fun _=>0) (fun _=>0) zs (cs.map sY):=by
  intro j cs w' hj
  obtain ⟨v,F1,F2,X1,X2,hv1,h1,_⟩:=RepA.at hrep hj
  cases h1 with
  | agg _ A1 A2 _ Y1 Y2 zs _ _ _ g1 _ _ _=>exact ⟨zs,hv1,g1.prims⟩
 have R0:Rel B hv w a (mkE [] []) (fun _ _=>0) (fun _ _=>0):=
  ⟨hsize,rfl,fun t=>.undef _ _ _ _ _ RepA.znil,fun _ _=>by omega,fun _ _ _ _=>.inl rfl,fun _ _ _=>.inl rfl,Grows.refl _,fun _ _ _=>rfl,fun _ _ h=>absurd rfl h,fun _ _ h=>absurd rfl h,fun _ _ h=>absurd rfl h⟩
 have P0:PR B hv w a (mkE [] []) (fun _ _=>0) (fun _ _=>0) F X vs args:=
  ⟨R0,hrep.lk0 _,hF1,fun _ _=>.inr rfl,fun _ _=>.inr rfl,fun _ _=>.inr rfl,hdis,fun b hb=>.inl hb,fun b hb=>⟨.inl hb,hXlt b hb⟩⟩
 obtain ⟨Fs1,Xs1,FP1,XP1,P1⟩:=sZ (B:=B) args bs 0 vs [] (by omega) (by show 0+args.length≤fn.ntmps; omega) hn (by simp) hvl1 (fun j us i v hj hi=>(hvl2 j us i v hj hi).1) P0
 obtain ⟨Fs2,Xs2,R2⟩:=s7 (B:=B) args bs 0 (bH 0 bs args) (by omega) (by show 0+args.length≤fn.ntmps; omega) hn (by
  intro j x hj hbj
  obtain ⟨k1,k2,k3⟩:=yY args bs 0 j x hj hbj (by omega)
  have hjl:j<vs.length:=by have:=(lI.1 hj).1; omega
  obtain ⟨v,hv'⟩:∃ v,vs[j]?=some v:=⟨_,lH hjl⟩
  obtain ⟨e1,e2⟩:=hvl1 j v hv'
  refine ⟨fun hr=>⟨k1 hr,by rw [e1,e2]⟩,fun cs hcs=>?_,k3⟩
  subst hcs
  obtain ⟨zs,z1,z2⟩:=hprim j cs w hj
  rw [hv'] at z1; cases z1
  exact ⟨zs,e1,z2,k2 cs rfl,fun i v hi=>(hvl2 j zs i v hv' hi).1⟩) hroots (by simpa using P1.rel)
 have G:bB B hv w a (mkE (bH 0 bs args++dG 0 bs args) []):=⟨hv,Fs2,Xs2,R2,fun _ _=>rfl⟩
 refine calls_of_wp hf hb (yT (B:=B) hn hD ks c cmd _ _ _ a w hc ?_ h G)
 rintro x E' a' w' ⟨hx,hdone⟩ G'
 obtain ⟨⟨l,E2⟩,hq,hret,houts,hlk⟩:=hdone
 obtain ⟨hid,Fs3,Xs3,R3,hh⟩:=G'
 obtain ⟨us,Fs4,Xs4,FP4,XP4,hrun,hul,P4⟩:=vB (l:=l) (E':=E2) hres (PR.nil R3) hq
 simp only [lD1] at P4
 obtain ⟨E5,Fs5,Xs5,FP5,XP5,P5⟩:=vC args 0 bs (vs:=vs) hvl (by omega) hn (by
  intro j v hj
  have hjl:=(lI.1 hj).1
  rw [hh _ (by omega),lF2]
  exact wV (by omega) hj) (by
  intro j cs hj hbj
  obtain ⟨zs,z1,z2⟩:=hprim j cs w' hj
  refine ⟨zs,z1,z2,fun i v hi=>?_⟩
  have hjl:=(lI.1 z1).1
  have hil:i<30:=by
   have hil:=(lI.1 hi).1
   have hzl:zs.length=cs.length:=by have:=z2.length; simpa using this
   have:=abo hroots hj hbj
   omega
  rw [hh _ (by simp only [rt]; omega)]
  exact (hvl2 j zs i v z1 hi).2) P4
 have P6:=agQ P5 hul
 simp only at hret houts
 rw [hret,houts] at P6
 have fin:a'.defers=[]∧∃ v,(results fn a'.tmps).run P w'=.ok v w'∧∃ v_1 F' X',Ending.returned v=.returned v_1∧RepA w' lk0 F' X' (v_1::vs) (ret::outs)∧(∀ b,F' b≤1)∧(∀ b,F' b=0∨X' b=0) ∧
   Grows w w'∧(∀ b,b<w.heap.size→F b=0→w'.heap[b]?=w.heap[b]?)∧(∀ b,F' b≠0→F b≠0∨w.heap.size≤b)∧(∀ b,X' b≠0→(X b≠0∨F b≠0∨w.heap.size≤b)∧b<w'.heap.size):=
  ⟨R3.dfr,_,s9 hrun,_,FP5,XP5,rfl,P6.rep.noLk lk0 hlk,P6.one,P6.dx3,P6.rel.grow,P6.rel.frame,P6.org,P6.orgx⟩
 rcases hx with rfl | rfl
 ·exact fin
 ·exact fin
end
section
def aE (P:Program) (f:Nat):Option (Nat × List RV × Cmd):=
 (P.funcs[f]?).bind fun fn=>fn.body.bind fun c=>if (fn.name == "runtime.NumGoroutine")=false∧fn.ntmps≤1000 then
  (ajC P fn.ntmps fn.results.toList).bind fun rs=>(l8 P fn.ntmps c).map fun cmd=>(fn.ntmps,rs,cmd) else none
variable {P:Program}
def aok (P:Program) (nt:Nat) (rs:List RV) (ks:Nat) (bs:List Bool) (cmd:Cmd) (args:List AV) (ret:AV) (outs:List AV):Prop:=
 awp P ks cmd (fun x E'=>(x=.r∨x=.n)∧abn rs bs args ret outs E') (mkE (bH 0 bs args++dG 0 bs args) [])
theorem agT {f nt:Nat} {rs:List RV} {cmd:Cmd} (hm:P.follows .mixedOrders=true) (hc:aE P f=some (nt,rs,cmd)) (ks:Nat) (bs:List Bool) {args outs:List AV} {ret:AV}
  (hlen:args.length≤nt∧args.length≤32) (hol:outs.length=args.length) (hroots:cR bs args=true) (h:aok P nt rs ks bs cmd args ret outs):bR P f args ret outs:=by
 unfold aE at hc
 obtain ⟨fn,hf,hc⟩:=bind_some hc
 obtain ⟨c,hb,hc⟩:=bind_some hc
 obtain ⟨⟨h1,h2⟩,hc⟩:=aD hc
 obtain ⟨rs',hr,hc⟩:=bind_some hc
 obtain ⟨cmd',hcmd,hc⟩:=map_some hc
 cases hc
 exact abp hf hb h1 h2 hlen hr hol hroots hm hcmd h
theorem yZ {i:I} {K:Env→Prop} {E:Env} (h:qJ P i K E):∃ E',K E'∧∀ K':Env→Prop,K' E'→qJ P i K' E:=by
 have sp:∀ {d f xs ms} {E:Env},eV P d f xs ms K E→∃ E',K E'∧∀ K':Env→Prop,K' E'→eV P d f xs ms K' E:=by
  rintro d f xs ms E ⟨pr,hp,ret,outs,hS,hx,E1,hb,hK⟩
  exact ⟨_,hK,fun K' h'=>⟨pr,hp,ret,outs,hS,hx,E1,hb,h'⟩⟩
 cases i with
 | call d f xs=>
  rcases h with ⟨W,ms,h⟩ | ⟨ms,x,y,k1,k2,h⟩
  ·obtain ⟨E',h1,h2⟩:=sp h
   exact ⟨E',h1,fun K' h'=>.inl ⟨W,ms,h2 K' h'⟩⟩
  ·obtain ⟨E',h1,h2⟩:=oP h
   exact ⟨E',h2,fun K' h'=>.inr ⟨ms,x,y,k1,k2,iB (fun E1 (e:E1=E')=>e ▸ h') h1⟩⟩
 | callv d x xs=>
  simp only [qJ] at h ⊢
  split at h
  ·rename_i f caps hz
   obtain ⟨ms,h1,h2,h3⟩:=h
   obtain ⟨E',h4,h5⟩:=sp h3
   refine ⟨E',h4,fun K' h'=>?_⟩
   exact ⟨ms,h1,h2,h5 K' h'⟩
  ·exact h.elim
 | _=>obtain ⟨E',h1,h2⟩:=h; exact ⟨E',h2,fun K' h'=>⟨E',h1,h'⟩⟩
theorem y0 {i:I} {K:List M→Env→Prop} {E:Env} (h:uM P i K E):∃ ms E',K ms E'∧∀ K':List M→Env→Prop,K' ms E'→uM P i K' E:=by
 have sp:∀ {d f xs ms} {K:Env→Prop},eV P d f xs ms K E→∃ E',K E'∧∀ K':Env→Prop,K' E'→eV P d f xs ms K' E:=by
  rintro d f xs ms K ⟨pr,hp,ret,outs,hS,hx,E1,hb,hK⟩
  exact ⟨_,hK,fun K' h'=>⟨pr,hp,ret,outs,hS,hx,E1,hb,h'⟩⟩
 cases i with
 | call d f xs=>
  obtain ⟨ms,h | ⟨x,y,k1,k2,h⟩⟩:=h
  ·obtain ⟨E',h1,h2⟩:=sp h
   exact ⟨ms,E',h1,fun K' h'=>⟨ms,.inl (h2 _ h')⟩⟩
  ·obtain ⟨E',h1,h2⟩:=oP h
   exact ⟨ms,E',h2,fun K' h'=>⟨ms,.inr ⟨x,y,k1,k2,iB (fun E1 (e:E1=E')=>e ▸ h') h1⟩⟩⟩
 | callv d x xs=>
  simp only [uM] at h ⊢
  split at h
  ·rename_i f caps hz
   obtain ⟨ms,h1,h2,h3⟩:=h
   obtain ⟨E',h4,h5⟩:=sp h3
   refine ⟨ms,E',h4,fun K' h'=>?_⟩
   exact ⟨ms,h1,h2,h5 _ h'⟩
  ·exact h.elim
 | _=>obtain ⟨E',h1,h2⟩:=h; exact ⟨[],E',h2,fun K' h'=>⟨E',h1,h'⟩⟩
theorem ada:∀ {is:List GI} {K:Env→Prop} {E:Env},afF P is K E→∃ E',K E'∧∀ K':Env→Prop,K' E'→afF P is K' E:=by
 intro is
 induction is with
 | nil=>intro K E h; exact ⟨E,h,fun K' h'=>h'⟩
 | cons g l ih=>
  intro K E h
  simp only [afF] at h ⊢
  cases hg:g.g with
  | none=>
   rw [hg] at h
   obtain ⟨E1,h1,h2⟩:=yZ h
   obtain ⟨E',h3,h4⟩:=ih h1
   exact ⟨E',h3,fun K' h'=>h2 _ (h4 K' h')⟩
  | some q=>
   obtain ⟨t,b⟩:=q
   rw [hg] at h
   rcases h with ⟨c,hc,k1,k2⟩ | ⟨hc,k2⟩
   ·by_cases e:c=b
    ·obtain ⟨E1,h1,h2⟩:=yZ (k1 e)
     obtain ⟨E',h3,h4⟩:=ih h1
     exact ⟨E',h3,fun K' h'=>.inl ⟨c,hc,fun _=>h2 _ (h4 K' h'),fun n=>absurd e n⟩⟩
    ·obtain ⟨E',h3,h4⟩:=ih (k2 e)
     exact ⟨E',h3,fun K' h'=>.inl ⟨c,hc,fun n=>absurd n e,fun _=>h4 K' h'⟩⟩
   ·obtain ⟨E',h3,h4⟩:=ih k2
    exact ⟨E',h3,fun K' h'=>.inr ⟨hc,h4 K' h'⟩⟩
theorem tA {bs:List Nat}:∀ {is:List GI} {acc:List Rcd} {K:Env→Prop} {E:Env},m8 P bs acc is K E→∃ E',K E'∧∀ K':Env→Prop,K' E'→m8 P bs acc is K' E:=by
 intro is
 induction is with
 | nil=>intro acc K E h; exact ⟨E,h.2,fun K' h'=>⟨h.1,h'⟩⟩
 | cons g l ih=>
  intro acc K E h
  simp only [m8] at h ⊢
  cases hg:g.g with
  | none=>
   rw [hg] at h
   obtain ⟨ms,E1,h1,h2⟩:=y0 h
   obtain ⟨E',h3,h4⟩:=ih h1
   exact ⟨E',h3,fun K' h'=>h2 _ (h4 K' h')⟩
  | some q=>
   obtain ⟨t,b⟩:=q
   rw [hg] at h
   rcases h with ⟨c,hc,k1,k2⟩ | ⟨hc,k2⟩
   ·by_cases e:c=b
    ·obtain ⟨ms,E1,h1,h2⟩:=y0 (k1 e)
     obtain ⟨E',h3,h4⟩:=ih h1
     exact ⟨E',h3,fun K' h'=>.inl ⟨c,hc,fun _=>h2 _ (h4 K' h'),fun n=>absurd e n⟩⟩
    ·obtain ⟨E',h3,h4⟩:=ih (k2 e)
     exact ⟨E',h3,fun K' h'=>.inl ⟨c,hc,fun n=>absurd n e,fun _=>h4 K' h'⟩⟩
   ·obtain ⟨E',h3,h4⟩:=ih k2
    exact ⟨E',h3,fun K' h'=>.inr ⟨hc,h4 K' h'⟩⟩
theorem alO {ks:Nat} (hks:ks.testBit 999=false):∀ (cmd:Cmd) {Q:Ex→Env→Prop} {E:Env},awp P ks cmd Q E→∃ x E',Q x E'∧∀ Q':Ex→Env→Prop,Q' x E'→awp P ks cmd Q' E:=by
 intro cmd
 induction cmd with
 | skip=>intro Q E h; exact ⟨.n,E,h,fun Q' h'=>h'⟩
 | reg is ord=>
  intro Q E h
  cases ord with
  | none=>obtain ⟨U,h⟩:=h; obtain ⟨E',h1,h2⟩:=ada h; exact ⟨.n,_,h1,fun Q' h'=>⟨U,h2 (Q' .n) h'⟩⟩
  | some bs=>
   obtain ⟨U,h | ⟨hk,_⟩⟩:=h
   ·obtain ⟨E',h1,h2⟩:=tA h; exact ⟨.n,_,h1,fun Q' h'=>⟨U,.inl (h2 (Q' .n) h')⟩⟩
   ·rw [hks] at hk; cases hk
 | seq a b iha ihb=>
  intro Q E h
  obtain ⟨x,E1,h1,h2⟩:=iha h
  cases x with
  | n=>
   obtain ⟨y,E',h3,h4⟩:=ihb h1
   exact ⟨y,E',h3,fun Q' h'=>h2 _ (h4 Q' h')⟩
  | r=>exact ⟨.r,E1,h1,fun Q' h'=>h2 _ h'⟩
  | e id=>exact ⟨.e id,E1,h1,fun Q' h'=>h2 _ h'⟩
 | cond x a b iha ihb=>
  intro Q E h
  obtain ⟨t,ht,h1,h2⟩:=h
  cases t with
  | true=>
   obtain ⟨y,E',h3,h4⟩:=iha (h1 rfl)
   exact ⟨y,E',h3,fun Q' h'=>⟨true,ht,fun _=>h4 Q' h',(fun n=>by cases n)⟩⟩
  | false=>
   obtain ⟨y,E',h3,h4⟩:=ihb (h2 rfl)
   exact ⟨y,E',h3,fun Q' h'=>⟨false,ht,(fun n=>by cases n),fun _=>h4 Q' h'⟩⟩
 | blk id c ih=>
  intro Q E h
  obtain ⟨x,E',h1,h2⟩:=ih h
  by_cases e:x=.e id
  ·exact ⟨.n,E',by simpa [e] using h1,fun Q' h'=>h2 _ (by simpa [e] using h')⟩
  ·exact ⟨x,E',by simpa [e] using h1,fun Q' h'=>h2 _ (by simpa [e] using h')⟩
 | loop c ih=>
  intro Q E h
  obtain ⟨D,J,⟨n,hJ⟩,hround⟩:=h
  have key:∀ (n:Nat) (E:Env),J n E→∃ x E',Q x E'∧∀ Q':Ex→Env→Prop,Q' x E' →
    ∃ J':Nat→Env→Prop,(∃ k,J' k E)∧∀ n E,J' n E→awp P ks c (fun x E'=>match x with | .n=>∃ m,m<n∧J' m (hdL ks D (E'.norm ks)) | x=>Q' x E') E:=by
   intro n
   induction n using Nat.strongRecOn with
   | _ n ihn=>
    intro E hJ
    obtain ⟨x,E1,h1,h2⟩:=ih (hround n E hJ)
    cases x with
    | n=>
     obtain ⟨m,hm,hJm⟩:=h1
     obtain ⟨y,E',h3,h4⟩:=ihn m hm _ hJm
     refine ⟨y,E',h3,fun Q' h'=>?_⟩
     obtain ⟨J',⟨k,hk⟩,hr'⟩:=h4 Q' h'
     refine ⟨fun q F=>J' q F∨(q=k+1∧F=E),⟨k+1,.inr ⟨rfl,rfl⟩⟩,?_⟩
     rintro q F (hq | ⟨rfl,rfl⟩)
     ·obtain ⟨z,F1,g1,g2⟩:=ih (hr' q F hq)
      refine g2 _ ?_
      cases z with
      | n=>obtain ⟨m',a1,a2⟩:=g1; exact ⟨m',a1,.inl a2⟩
      | r=>exact g1
      | e id=>exact g1
     ·exact h2 _ ⟨k,by omega,.inl hk⟩
    | r=>
     refine ⟨.r,E1,h1,fun Q' h'=>⟨fun q F=>q=0∧F=E,⟨0,rfl,rfl⟩,?_⟩⟩
     rintro q F ⟨rfl,rfl⟩
     exact h2 _ h'
    | e id=>
     refine ⟨.e id,E1,h1,fun Q' h'=>⟨fun q F=>q=0∧F=E,⟨0,rfl,rfl⟩,?_⟩⟩
     rintro q F ⟨rfl,rfl⟩
     exact h2 _ h'
  obtain ⟨x,E',h1,h2⟩:=key n _ hJ
  exact ⟨x,E',h1,fun Q' h'=>⟨D,h2 Q' h'⟩⟩
 | exit id=>intro Q E h; exact ⟨.e id,E,h,fun Q' h'=>h'⟩
 | ret=>intro Q E h; exact ⟨.r,E,h,fun Q' h'=>h'⟩
def am1 (P:Program) (nt:Nat) (rs:List RV) (ks:Nat) (bs:List Bool) (cmd:Cmd) (args:List AV) (R:AV→List AV→Prop):Prop:=
 awp P ks cmd (fun x E'=>(x=.r∨x=.n)∧onO (ac9 E' rs) fun q=>R (abm q.1) (dN q.2 0 bs args)∧dC (abm q.1::dN q.2 0 bs args)=true) (mkE (bH 0 bs args++dG 0 bs args) [])
theorem agU (E:Env):∀ (xs:List AV) (k:Nat) (bs:List Bool),(dN E k bs xs).length=xs.length:=by
 intro xs
 induction xs with
 | nil=>intro k bs; cases bs <;> rfl
 | cons x xs ih=>intro k bs; cases bs <;> simp [dN,ih]
theorem alP {f nt:Nat} {rs:List RV} {cmd:Cmd} (hm:P.follows .mixedOrders=true) (hc:aE P f=some (nt,rs,cmd)) (ks:Nat) (hks:ks.testBit 999=false) (bs:List Bool) {args:List AV} {R:AV→List AV→Prop}
  (hlen:args.length≤nt∧args.length≤32) (hroots:cR bs args=true) (h:am1 P nt rs ks bs cmd args R):∃ ret outs,R ret outs∧bR P f args ret outs:=by
 obtain ⟨x,E',⟨hx,q,hq,hR,hlk⟩,h2⟩:=alO hks cmd h
 exact ⟨abm q.1,dN q.2 0 bs args,hR,agT hm hc ks bs hlen (agU _ _ _ _) hroots (h2 _ ⟨hx,q,hq,rfl,rfl,hlk⟩)⟩
end
section
abbrev fP:=List (Nat × List M × List (Nat × Nat))
def g8:fP→Nat→List O→List M
 | [],_,xs=>xs.map fun _=>M.b
 | (g,ms,_)::l,f,xs=>if g=f then ms else g8 l f xs
def aaQ:fP→Nat→List (Nat × Nat)
 | [],_=>[]
 | (g,_,bl)::l,f=>if g=f then bl else aaQ l f
def alQ (md:fP):List Nat:=(aaQ md 999999).map Prod.fst
variable {P:Program} {md:fP} {ks:Nat}
def agV (P:Program) (md:fP) (d:Option Nat) (xs:List O) (K:List M→Env→Prop) (E:Env):AV→Prop
 | .fn f caps=>bS caps=false∧(g8 md f xs).length=xs.length∧eV P d f (xs++caps.map .c) (g8 md f xs++caps.map fun _=>M.b) (K (g8 md f xs)) E
 | _=>False
def y5 (P:Program) (d:Option Nat) (f:Nat) (xs:List O) (ms:List M) (K:Env→Prop) (E Eb:Env):Option (O × O)→Prop
 | some q=>oO P d f q.1 q.2 K E
 | none=>eV P d f xs ms K Eb
def ajD (P:Program) (md:fP) (i:I) (K:List M→Env→Prop) (E:Env):Prop:=
 match i with
 | .call d f xs=>y5 P d f xs (g8 md f xs) (K (g8 md f xs)) E E (kM (g8 md f xs) xs)
 | .callv d x xs=>agV P md d xs K E (val E x)
 | i=>onO (ev E i) (K [])
def goI (P:Program) (md:fP) (i:I) (K:List M→Env→Prop) (E:Env):Prop:=
 match i with
 | .call d f xs=>y5 P d f xs (g8 md f xs) (K (g8 md f xs)) E (jP E (aaQ md f)) (kM (g8 md f xs) xs)
 | .callv d x xs=>agV P md d xs K E (val E x)
 | i=>onO (ev E i) (K [])
def afG (P:Program) (md:fP):List GI→(Env→Prop)→Env→Prop
 | [],K,E=>K E
 | g::l,K,E=>match g.g with
  | none=>goI P md g.i (fun _=>afG P md l K) E
  | some (t,b)=>match E.f t with
   | .bool c=>(c=b→goI P md g.i (fun _=>afG P md l K) E)∧(c≠b→afG P md l K (mQ E g.d (.tup [])))
   | .tup []=>afG P md l K (mQ E g.d (.tup []))
   | _=>False
def rQ (P:Program) (md:fP) (bs:List Nat):List Rcd→List GI→(Env→Prop)→Env→Prop
 | acc,[],K,E=>xX bs acc=true∧K E
 | acc,g::l,K,E=>match g.g with
  | none=>ajD P md g.i (fun ms E'=>rQ P md bs (acc++[(aG E g.i,wrI E ms g.i)]) l K E') E
  | some (t,b)=>match E.f t with
   | .bool c=>(c=b→ajD P md g.i (fun ms E'=>rQ P md bs (acc++[(t::aG E g.i,wrI E ms g.i)]) l K E') E) ∧
    (c≠b→rQ P md bs (acc++[(t::g.d.toList,g.d.toList)]) l K (mQ E g.d (.tup [])))
   | .tup []=>rQ P md bs (acc++[(t::g.d.toList,g.d.toList)]) l K (mQ E g.d (.tup []))
   | _=>False
def aiJ (P:Program) (md:fP) (is:List GI) (K:Env→Prop) (E:Env):(Nat→Nat→Bool)→BT→Prop
 | lt,.leaf σ=>afM is.length σ=true∧rQ P md (amM lt σ) [] (σ.map fun i=>is.getD i default) K E
 | lt,.node c d x y=>c≠d∧aiJ P md is K E (aaP lt c d) x∧aiJ P md is K E (aaP lt d c) y
 | lt,.tr a b c x=>(lt a b && (lt b c && decide (b<is.length)))=true∧aiJ P md is K E (aaP lt a c) x
def an8 (P:Program) (md:fP) (ks:Nat) (bs:List Nat) (is:List GI) (K:Env→Prop) (E:Env):List (Nat × Nat)→Prop
 | []=>rQ P md bs [] is K E
 | _::_=>ks.testBit 999=true∧is.all plG=true∧∃ t,aiJ P md is K E (ltB bs) t
def wpB (P:Program) (md:fP) (ks:Nat):Cmd→(Ex→Env→Prop)→Env→Prop
 | .skip,Q,E=>Q .n E
 | .reg is none,Q,E=>afG P md is (Q .n) (rgE ks (alQ md) (E.norm ks))
 | .reg is (some bs),Q,E=>an8 P md ks bs is (Q .n) (rgE ks (alQ md) (E.norm ks)) (aaQ md 999998)
 | .seq a b,Q,E=>wpB P md ks a (fun x E'=>match x with | .n=>wpB P md ks b Q E' | x=>Q x E') E
 | .cond x a b,Q,E=>match val E x with
  | .bool t=>(t=true→wpB P md ks a Q E)∧(t=false→wpB P md ks b Q E)
  | _=>False
 | .blk id c,Q,E=>wpB P md ks c (fun x E'=>if x=.e id then Q .n E' else Q x E') E
 | .loop c,Q,E=>∃ (D:List Nat) (J:Nat→Env→Prop),(∃ n,J n (hdL ks D (E.norm ks)))∧∀ n E,J n E→wpB P md ks c (fun x E'=>match x with | .n=>∃ m,m<n∧J m (hdL ks D (E'.norm ks)) | x=>Q x E') E
 | .exit id,Q,E=>Q (.e id) E
 | .ret,Q,E=>Q .r E
theorem vE {d:Option Nat} {f:Nat} {xs:List O} {ms:List M} {K K':Env→Prop} {E Eb:Env} {o:Option (O × O)} (hk:∀ E,K E→K' E) (h:y5 P d f xs ms K E Eb o):y5 P d f xs ms K' E Eb o:=by
 cases o with
 | some q=>exact iB hk h
 | none=>
  obtain ⟨pr,hp,ret,outs,hS,hx,E1,hb,hK⟩:=h
  exact ⟨pr,hp,ret,outs,hS,hx,E1,hb,hk _ hK⟩
theorem am2 {i:I} {K:List M→Env→Prop} {K':Env→Prop} {E:Env} (h:goI P md i K E) (hK:∀ ms E,K ms E→K' E):qJ P i K' E:=by
 have sp:∀ {d f xs ms} {K:Env→Prop} {E:Env},(∀ E,K E→K' E)→eV P d f xs ms K E→eV P d f xs ms K' E:=by
  rintro d f xs ms K E hk ⟨pr,hp,ret,outs,hS,hx,E1,hb,hK⟩
  exact ⟨pr,hp,ret,outs,hS,hx,E1,hb,hk _ hK⟩
 cases i with
 | call d f xs=>
  simp only [goI] at h
  cases hq:kM (g8 md f xs) xs with
  | none=>rw [hq] at h; exact .inl ⟨_,_,sp (hK _) h⟩
  | some q=>
   rw [hq] at h
   obtain ⟨h1,h2⟩:=afL hq
   exact .inr ⟨_,_,_,h2,h1,iB (hK _) h⟩
 | callv d x xs=>
  simp only [goI] at h
  simp only [qJ]
  cases hv:val E x <;> rw [hv] at h <;> first
   | exact h.elim
   | (obtain ⟨h1,h2,h3⟩:=h; exact ⟨_,h2,h1,sp (hK _) h3⟩)
 | _=>obtain ⟨E',h1,h2⟩:=h; exact ⟨E',h1,hK _ _ h2⟩
theorem am3 {i:I} {K K':List M→Env→Prop} {E:Env} (h:ajD P md i K E) (hK:∀ ms E,K ms E→K' ms E):uM P i K' E:=by
 have sp:∀ {d f xs ms} {K K':Env→Prop},(∀ E,K E→K' E)→eV P d f xs ms K E→eV P d f xs ms K' E:=by
  rintro d f xs ms K K' hk ⟨pr,hp,ret,outs,hS,hx,E1,hb,hK⟩
  exact ⟨pr,hp,ret,outs,hS,hx,E1,hb,hk _ hK⟩
 cases i with
 | call d f xs=>
  simp only [ajD] at h
  cases hq:kM (g8 md f xs) xs with
  | none=>rw [hq] at h; exact ⟨_,.inl (sp (hK _) h)⟩
  | some q=>
   rw [hq] at h
   obtain ⟨h1,h2⟩:=afL hq
   exact ⟨g8 md f xs,.inr ⟨_,_,h2,h1,iB (hK _) h⟩⟩
 | callv d x xs=>
  simp only [ajD] at h
  simp only [uM]
  cases hv:val E x <;> rw [hv] at h <;> first
   | exact h.elim
   | (obtain ⟨h1,h2,h3⟩:=h; exact ⟨_,h2,h1,sp (hK _) h3⟩)
 | _=>obtain ⟨E',h1,h2⟩:=h; exact ⟨E',h1,hK _ _ h2⟩
theorem am4:∀ (is:List GI) {K:Env→Prop} {E:Env},afG P md is K E→afF P is K E:=by
 intro is
 induction is with
 | nil=>intro K E h; exact h
 | cons g l ih=>
  intro K E h
  simp only [afG] at h
  simp only [afF]
  cases hg:g.g with
  | none=>rw [hg] at h; exact am2 h fun _ _ h=>ih h
  | some q=>
   obtain ⟨t,b⟩:=q
   rw [hg] at h
   simp only at h
   split at h
   ·rename_i c hc
    exact .inl ⟨c,hc,fun e=>am2 (h.1 e) fun _ _ h=>ih h,fun e=>ih (h.2 e)⟩
   ·rename_i hc
    exact .inr ⟨hc,ih h⟩
   ·exact h.elim
theorem agW {bs:List Nat}:∀ (is:List GI) {acc:List Rcd} {K:Env→Prop} {E:Env},rQ P md bs acc is K E→m8 P bs acc is K E:=by
 intro is
 induction is with
 | nil=>intro acc K E h; exact h
 | cons g l ih=>
  intro acc K E h
  simp only [rQ] at h
  simp only [m8]
  cases hg:g.g with
  | none=>rw [hg] at h; exact am3 h fun _ _ h=>ih h
  | some q=>
   obtain ⟨t,b⟩:=q
   rw [hg] at h
   simp only at h
   split at h
   ·rename_i c hc
    exact .inl ⟨c,hc,fun e=>am3 (h.1 e) fun _ _ h=>ih h,fun e=>ih (h.2 e)⟩
   ·rename_i hc
    exact .inr ⟨hc,ih h⟩
   ·exact h.elim
theorem am5 {is:List GI} {K K':Env→Prop} {E:Env} (hK:∀ E,K E→K' E):∀ (t:BT) (lt:Nat→Nat→Bool),aiJ P md is K E lt t→ak6 P is K' E lt t:=by
 intro t
 induction t with
 | leaf σ=>
  intro lt h
  obtain ⟨E1,h1,h2⟩:=tA (agW _ h.2)
  exact ⟨h.1,h2 K' (hK _ h1)⟩
 | node c d x y ihx ihy=>intro lt h; exact ⟨h.1,ihx _ h.2.1,ihy _ h.2.2⟩
 | tr a b c x ih=>intro lt h; exact ⟨h.1,ih _ h.2⟩
theorem alR:∀ (c:Cmd) {Q Q':Ex→Env→Prop} {E:Env},wpB P md ks c Q E→(∀ x E,Q x E→Q' x E)→awp P ks c Q' E:=by
 intro c
 induction c with
 | skip=>intro Q Q' E h hQ; exact hQ _ _ h
 | reg is ord=>
  intro Q Q' E h hQ
  cases ord with
  | none=>
   obtain ⟨E1,h1,h2⟩:=ada (am4 is h)
   exact ⟨_,h2 (Q' .n) (hQ _ _ h1)⟩
  | some bs=>
   simp only [wpB] at h
   cases hb:aaQ md 999998 with
   | nil=>
    rw [hb] at h
    obtain ⟨E1,h1,h2⟩:=tA (agW is h)
    exact ⟨_,.inl (h2 (Q' .n) (hQ _ _ h1))⟩
   | cons b l=>
    rw [hb] at h
    obtain ⟨h1,h2,t,h3⟩:=h
    exact ⟨_,.inr ⟨h1,h2,t,am5 (hQ .n) t _ h3⟩⟩
 | seq a b iha ihb=>
  intro Q Q' E h hQ
  refine iha h fun x E1 h1=>?_
  cases x with
  | n=>exact ihb h1 hQ
  | r=>exact hQ _ _ h1
  | e id=>exact hQ _ _ h1
 | cond x a b iha ihb=>
  intro Q Q' E h hQ
  simp only [wpB] at h
  split at h
  ·rename_i t ht
   exact ⟨t,ht,fun e=>iha (h.1 e) hQ,fun e=>ihb (h.2 e) hQ⟩
  ·exact h.elim
 | blk id c ih=>
  intro Q Q' E h hQ
  refine ih h fun x E1 h1=>?_
  by_cases e:x=.e id
  ·simp only [e,lP] at h1 ⊢; exact hQ _ _ h1
  ·simp only [e,lG1] at h1 ⊢; exact hQ _ _ h1
 | loop c ih=>
  intro Q Q' E h hQ
  obtain ⟨D,J,hJ,hr⟩:=h
  refine ⟨D,J,hJ,fun n E hn=>ih (hr n E hn) fun x E1 h1=>?_⟩
  cases x with
  | n=>exact h1
  | r=>exact hQ _ _ h1
  | e id=>exact hQ _ _ h1
 | exit id=>intro Q Q' E h hQ; exact hQ _ _ h
 | ret=>intro Q Q' E h hQ; exact hQ _ _ h
def Fin (rs:List RV) (bs:List Bool) (m:List AV) (ret:AV) (outs:List AV) (x:Ex) (E:Env):Prop:=(x=.r∨x=.n)∧abn rs bs m ret outs E
def wX (rs:List RV) (bs:List Bool) (m:List AV) (R:AV→List AV→Prop) (x:Ex) (E:Env):Prop:=
 (x=.r∨x=.n)∧onO (ac9 E rs) fun q=>R (abm q.1) (dN q.2 0 bs m)∧dC (abm q.1::dN q.2 0 bs m)=true
theorem am6 {f nt:Nat} {rs:List RV} {cmd:Cmd} (hm:P.follows .mixedOrders=true) (hc:aE P f=some (nt,rs,cmd)) (md:fP) (ks:Nat) (bs:List Bool) {args outs:List AV} {ret:AV}
  (hlen:args.length≤nt∧args.length≤32) (hol:outs.length=args.length) (hroots:cR bs args=true)
  (h:wpB P md ks cmd (Fin rs bs args ret outs) (mkE (bH 0 bs args++dG 0 bs args) [])):bR P f args ret outs:=
 agT hm hc ks bs hlen hol hroots (alR cmd h fun _ _ h=>h)
theorem ajE {f nt:Nat} {rs:List RV} {cmd:Cmd} (hm:P.follows .mixedOrders=true) (hc:aE P f=some (nt,rs,cmd)) (md:fP) (ks:Nat) (hks:ks.testBit 999=false) (bs:List Bool) {args:List AV} {R:AV→List AV→Prop}
  (hlen:args.length≤nt∧args.length≤32) (hroots:cR bs args=true)
  (h:wpB P md ks cmd (wX rs bs args R) (mkE (bH 0 bs args++dG 0 bs args) [])):∃ ret outs,R ret outs∧bR P f args ret outs:=
 alP hm hc ks hks bs hlen hroots (alR cmd h fun _ _ h=>h)
theorem mC (c:Cmd):∀ {Q Q':Ex→Env→Prop} {E:Env},wpB P md ks c Q E→(∀ x E,Q x E→Q' x E)→wpB P md ks c Q' E:=by
 have gmono:∀ {i:I} {K K':List M→Env→Prop} {E:Env},goI P md i K E→(∀ ms E,K ms E→K' ms E)→goI P md i K' E:=by
  intro i K K' E h hK
  have sp:∀ {d f xs ms} {K K':Env→Prop} {E:Env},(∀ E,K E→K' E)→eV P d f xs ms K E→eV P d f xs ms K' E:=by
   rintro d f xs ms K K' E hk ⟨pr,hp,ret,outs,hS,hx,E1,hb,hK⟩
   exact ⟨pr,hp,ret,outs,hS,hx,E1,hb,hk _ hK⟩
  cases i with
  | call d f xs=>exact vE (hK _) h
  | callv d x xs=>
   simp only [goI] at h ⊢
   cases hv:val E x <;> rw [hv] at h <;> first
    | exact h.elim
    | (obtain ⟨h1,h2,h3⟩:=h; exact ⟨h1,h2,sp (hK _) h3⟩)
  | _=>obtain ⟨E',h1,h2⟩:=h; exact ⟨E',h1,hK _ _ h2⟩
 have gmono0:∀ {i:I} {K K':List M→Env→Prop} {E:Env},ajD P md i K E→(∀ ms E,K ms E→K' ms E)→ajD P md i K' E:=by
  intro i K K' E h hK
  have sp:∀ {d f xs ms} {K K':Env→Prop},(∀ E,K E→K' E)→eV P d f xs ms K E→eV P d f xs ms K' E:=by
   rintro d f xs ms K K' hk ⟨pr,hp,ret,outs,hS,hx,E1,hb,hK⟩
   exact ⟨pr,hp,ret,outs,hS,hx,E1,hb,hk _ hK⟩
  cases i with
  | call d f xs=>exact vE (hK _) h
  | callv d x xs=>
   simp only [ajD] at h ⊢
   cases hv:val E x <;> rw [hv] at h <;> first
    | exact h.elim
    | (obtain ⟨h1,h2,h3⟩:=h; exact ⟨h1,h2,sp (hK _) h3⟩)
  | _=>obtain ⟨E',h1,h2⟩:=h; exact ⟨E',h1,hK _ _ h2⟩
 have rmono:∀ (is:List GI) {K K':Env→Prop} {E:Env},afG P md is K E→(∀ E,K E→K' E)→afG P md is K' E:=by
  intro is
  induction is with
  | nil=>intro K K' E h hK; exact hK _ h
  | cons g l ih=>
   intro K K' E h hK
   simp only [afG] at h ⊢
   cases hg:g.g with
   | none=>rw [hg] at h; exact gmono h fun _ _ h=>ih h hK
   | some q=>
    obtain ⟨t,b⟩:=q
    rw [hg] at h
    simp only at h ⊢
    split at h
    ·exact ⟨fun e=>gmono (h.1 e) fun _ _ h=>ih h hK,fun e=>ih (h.2 e) hK⟩
    ·exact ih h hK
    ·exact h.elim
 have dmono:∀ (is:List GI) {bs:List Nat} {acc:List Rcd} {K K':Env→Prop} {E:Env},rQ P md bs acc is K E→(∀ E,K E→K' E)→rQ P md bs acc is K' E:=by
  intro is
  induction is with
  | nil=>intro bs acc K K' E h hK; exact ⟨h.1,hK _ h.2⟩
  | cons g l ih=>
   intro bs acc K K' E h hK
   simp only [rQ] at h ⊢
   cases hg:g.g with
   | none=>rw [hg] at h; exact gmono0 h fun _ _ h=>ih h hK
   | some q=>
    obtain ⟨t,b⟩:=q
    rw [hg] at h
    simp only at h ⊢
    split at h
    ·exact ⟨fun e=>gmono0 (h.1 e) fun _ _ h=>ih h hK,fun e=>ih (h.2 e) hK⟩
    ·exact ih h hK
    ·exact h.elim
 induction c with
 | skip=>intro Q Q' E h hQ; exact hQ _ _ h
 | reg is ord=>
  intro Q Q' E h hQ
  cases ord with
  | none=>exact rmono is h fun E h=>hQ _ _ h
  | some bs=>
   simp only [wpB] at h ⊢
   cases hb:aaQ md 999998 with
   | nil=>rw [hb] at h; exact dmono is h fun E h=>hQ _ _ h
   | cons b l=>
    rw [hb] at h
    obtain ⟨h1,h2,t,h3⟩:=h
    refine ⟨h1,h2,t,?_⟩
    have fm:∀ (t:BT) (lt:Nat→Nat→Bool),aiJ P md is (Q .n) (rgE ks (alQ md) (E.norm ks)) lt t→aiJ P md is (Q' .n) (rgE ks (alQ md) (E.norm ks)) lt t:=by
     intro t
     induction t with
     | leaf σ=>intro lt h; exact ⟨h.1,dmono _ h.2 fun E h=>hQ _ _ h⟩
     | node c d x y ihx ihy=>intro lt h; exact ⟨h.1,ihx _ h.2.1,ihy _ h.2.2⟩
     | tr a b c x ih=>intro lt h; exact ⟨h.1,ih _ h.2⟩
    exact fm t _ h3
 | seq a b iha ihb=>
  intro Q Q' E h hQ
  refine iha h fun x E1 h1=>?_
  cases x with
  | n=>exact ihb h1 hQ
  | r=>exact hQ _ _ h1
  | e id=>exact hQ _ _ h1
 | cond x a b iha ihb=>
  intro Q Q' E h hQ
  simp only [wpB] at h ⊢
  split at h
  ·exact ⟨fun e=>iha (h.1 e) hQ,fun e=>ihb (h.2 e) hQ⟩
  ·exact h.elim
 | blk id c ih=>
  intro Q Q' E h hQ
  refine ih h fun x E1 h1=>?_
  by_cases e:x=.e id
  ·simp only [e,lP] at h1 ⊢; exact hQ _ _ h1
  ·simp only [e,lG1] at h1 ⊢; exact hQ _ _ h1
 | loop c ih=>
  intro Q Q' E h hQ
  obtain ⟨D,J,hJ,hr⟩:=h
  refine ⟨D,J,hJ,fun n E hn=>ih (hr n E hn) fun x E1 h1=>?_⟩
  cases x with
  | n=>exact h1
  | r=>exact hQ _ _ h1
  | e id=>exact hQ _ _ h1
 | exit id=>intro Q Q' E h hQ; exact hQ _ _ h
 | ret=>intro Q Q' E h hQ; exact hQ _ _ h
inductive Fr where
 | q (b:Cmd)
 | b (id:Nat)
structure Wk where
 P:Program
 md:fP
 ks:Nat
 Q:Ex→Env→Prop
def T (w:Wk):List Fr→Ex→Env→Prop
 | [],x,E=>w.Q x E
 | .q b::st,x,E=>match x with
  | .n=>wpB w.P w.md w.ks b (T w st) E
  | x=>T w st x E
 | .b id::st,x,E=>if x=.e id then T w st .n E else T w st x E
def C (w:Wk) (c:Cmd) (st:List Fr) (E:Env):Prop:=wpB w.P w.md w.ks c (T w st) E
def G (w:Wk) (is:List GI) (st:List Fr) (E:Env):Prop:=afG w.P w.md is (T w st .n) E
def X (w:Wk) (is:List GI) (st:List Fr) (o:Option Env):Prop:=onO o (G w is st)
def H (w:Wk) (bs:List Nat) (acc:List Rcd) (is:List GI) (st:List Fr) (E:Env):Prop:=rQ w.P w.md bs acc is (T w st .n) E
def XH (w:Wk) (bs:List Nat) (acc:List Rcd) (is:List GI) (st:List Fr) (o:Option Env):Prop:=onO o (H w bs acc is st)
def CF (w:Wk) (a b:Cmd) (st:List Fr) (E:Env):AV→Prop
 | .bool t=>(t=true→C w a st E)∧(t=false→C w b st E)
 | _=>False
def GF (w:Wk) (b:Bool) (d:Option Nat) (i:I) (is:List GI) (st:List Fr) (E:Env):AV→Prop
 | .bool c=>(c=b→G w (⟨none,d,i⟩::is) st E)∧(c≠b→G w is st (mQ E d (.tup [])))
 | .tup []=>G w is st (mQ E d (.tup []))
 | _=>False
def H1 (w:Wk) (t:List Nat) (bs:List Nat) (acc:List Rcd) (i:I) (is:List GI) (st:List Fr) (E:Env):Prop:=
 ajD w.P w.md i (fun ms E'=>H w bs (acc++[(t++aG E i,wrI E ms i)]) is st E') E
def HF (w:Wk) (bs:List Nat) (acc:List Rcd) (t:Nat) (b:Bool) (d:Option Nat) (i:I) (is:List GI) (st:List Fr) (E:Env):AV→Prop
 | .bool c=>(c=b→H1 w [t] bs acc i is st E)∧(c≠b→H w bs (acc++[(t::d.toList,d.toList)]) is st (mQ E d (.tup [])))
 | .tup []=>H w bs (acc++[(t::d.toList,d.toList)]) is st (mQ E d (.tup []))
 | _=>False
def Y0 (w:Wk) (d:Option Nat) (f:Nat) (ok:Bool) (pls:List Plc) (is:List GI) (st:List Fr) (args:List AV) (E:Env) (ln:Option (Nat × Nat × a8)):Prop:=ak5 w.P d f ok pls (G w is st) (args,E,ln)
def YH0 (w:Wk) (d:Option Nat) (f:Nat) (ok:Bool) (pls:List Plc) (bs:List Nat) (acc:List Rcd) (is:List GI) (st:List Fr) (args:List AV) (E:Env) (ln:Option (Nat × Nat × a8)):Prop:=ak5 w.P d f ok pls (H w bs acc is st) (args,E,ln)
def B (w:Wk) (d:Option Nat) (ret:AV) (is:List GI) (st:List Fr) (o:Option Env):Prop:=onO o fun E'=>G w is st (mQ E' d ret)
def BH (w:Wk) (d:Option Nat) (ret:AV) (bs:List Nat) (acc:List Rcd) (is:List GI) (st:List Fr) (o:Option Env):Prop:=onO o fun E'=>H w bs acc is st (mQ E' d ret)
def abq (w:Wk) (d:Option Nat) (f:Nat) (xs:List O) (ms:List M) (pls:List Plc) (is:List GI) (st:List Fr):Option (List AV × Env × Option (Nat × Nat × a8))→Prop
 | some (args,E,ln)=>Y0 w d f (fS E ms xs) pls is st args E ln
 | none=>False
def adb (w:Wk) (d:Option Nat) (f:Nat) (xs:List O) (ms:List M) (pls:List Plc) (bs:List Nat) (acc:List Rcd) (is:List GI) (st:List Fr):Option (List AV × Env × Option (Nat × Nat × a8))→Prop
 | some (args,E,ln)=>YH0 w d f (fS E ms xs) pls bs acc is st args E ln
 | none=>False
def YK0 (w:Wk) (d:Option Nat) (f:Nat) (is:List GI) (st:List Fr) (cs ds:List AV) (E:Env):Prop:=afJ w.P d f (G w is st) cs ds E
def an9 (w:Wk) (d:Option Nat) (f:Nat) (bs:List Nat) (acc:List Rcd) (is:List GI) (st:List Fr) (cs ds:List AV) (E:Env):Prop:=afJ w.P d f (H w bs acc is st) cs ds E
def agX (w:Wk) (d:Option Nat) (f:Nat) (is:List GI) (st:List Fr) (E:Env) (x y:AV) (o:Option (AV × Env)):Prop:=rF w.P d f (G w is st) E x y o
def abr (w:Wk) (d:Option Nat) (f:Nat) (bs:List Nat) (acc:List Rcd) (is:List GI) (st:List Fr) (E:Env) (x y:AV) (o:Option (AV × Env)):Prop:=rF w.P d f (H w bs acc is st) E x y o
def agY (w:Wk) (e:Option Nat) (f:Nat) (xs:List O) (is:List GI) (st:List Fr) (E:Env):Option (O × O)→Prop
 | none=>abq w e f xs (g8 w.md f xs) (jM (jP E (aaQ w.md f)) 0 (g8 w.md f xs) xs) is st (xR (jP E (aaQ w.md f)) (g8 w.md f xs) xs)
 | some q=>agX w e f is st E (val E q.1) (val E q.2) (dT E q.1)
def y6 (w:Wk) (t:List Nat) (bs:List Nat) (acc:List Rcd) (e:Option Nat) (f:Nat) (xs:List O) (is:List GI) (st:List Fr) (E:Env):Option (O × O)→Prop
 | none=>adb w e f xs (g8 w.md f xs) (jM E 0 (g8 w.md f xs) xs) bs (acc++[(t++aG E (.call e f xs),wrI E (g8 w.md f xs) (.call e f xs))]) is st (xR E (g8 w.md f xs) xs)
 | some q=>abr w e f bs (acc++[(t++aG E (.call e f xs),wrI E (g8 w.md f xs) (.call e f xs))]) is st E (val E q.1) (val E q.2) (dT E q.1)
def RC (w:Wk) (bs:List Nat) (is:List GI) (st:List Fr) (E:Env) (o:List (Nat × Nat)):Prop:=an8 w.P w.md w.ks bs is (T w st .n) E o
def RS (w:Wk) (bs:List Nat) (is:List GI) (st:List Fr) (E:Env):Prop:=w.ks.testBit 999=true∧is.all plG=true∧∃ t,aiJ w.P w.md is (T w st .n) E (ltB bs) t
def adc (w:Wk) (d:Option Nat) (xs:List O) (is:List GI) (st:List Fr) (E:Env):AV→Prop
 | .fn f caps=>bS caps=false∧(g8 w.md f xs).length=xs.length∧abq w d f (xs++caps.map .c) (g8 w.md f xs++caps.map fun _=>M.b) (jM E 0 (g8 w.md f xs++caps.map fun _=>M.b) (xs++caps.map .c)) is st (xR E (g8 w.md f xs++caps.map fun _=>M.b) (xs++caps.map .c))
 | _=>False
section
variable {w:Wk} {E:Env} {st:List Fr} {is:List GI} {bs:List Nat} {acc:List Rcd}
theorem alS {a b:Cmd}:C w (.seq a b) st E=C w a (.q b::st) E:=by
 unfold C
 simp only [wpB]
 congr 1
theorem alT {i:Nat} {c:Cmd}:C w (.blk i c) st E=C w c (.b i::st) E:=by
 unfold C
 simp only [wpB]
 congr 1
theorem y7 {x:Ex}:T w [] x E=w.Q x E:=by cases x <;> rfl
theorem agZ {d e:Option Nat} {f:Nat} {xs:List O}:G w (⟨none,d,.call e f xs⟩::is) st E=agY w e f xs is st E (kM (g8 w.md f xs) xs):=by
 show y5 _ _ _ _ _ _ _ _ _=_
 generalize kM (g8 w.md f xs) xs=q
 cases q with
 | some q=>rfl
 | none=>
  simp only [y5,agY]
  unfold eV
  generalize xR (jP E (aaQ w.md f)) (g8 w.md f xs) xs=o
  cases o with
  | none=>simp [onO,abq]
  | some pr=>simp only [qK]; rfl
theorem abs {d e:Option Nat} {x:O} {xs:List O}:G w (⟨none,d,.callv e x xs⟩::is) st E=adc w e xs is st E (val E x):=by
 unfold G
 simp only [afG,goI]
 generalize val E x=a
 cases a with
 | fn f caps=>
  simp only [agV,adc,eV]
  congr 2
  generalize xR E (g8 w.md f xs++List.map (fun _=>M.b) caps) (xs++List.map O.c caps)=o
  cases o with
  | none=>simp [onO,abq]
  | some pr=>simp only [qK]; rfl
 | _=>rfl
theorem anO {c:Prop} [Decidable c] {a b:Option Env} (h:c):X w is st (if c then a else b)=X w is st a:=by rw [lF h]
theorem anP {c:Prop} [Decidable c] {a b:Option Env} (h:¬ c):X w is st (if c then a else b)=X w is st b:=by rw [lK h]
theorem abt {t:List Nat} {e:Option Nat} {f:Nat} {xs:List O}:H1 w t bs acc (.call e f xs) is st E=y6 w t bs acc e f xs is st E (kM (g8 w.md f xs) xs):=by
 show y5 _ _ _ _ _ _ _ _ _=_
 generalize kM (g8 w.md f xs) xs=q
 cases q with
 | some q=>rfl
 | none=>
  simp only [y5,y6]
  unfold eV
  generalize xR E (g8 w.md f xs) xs=o
  cases o with
  | none=>simp [onO,adb]
  | some pr=>simp only [qK]; rfl
theorem am7 {c:Prop} [Decidable c] {a b:Option Env} (h:c):XH w bs acc is st (if c then a else b)=XH w bs acc is st a:=by rw [lF h]
theorem am8 {c:Prop} [Decidable c] {a b:Option Env} (h:¬ c):XH w bs acc is st (if c then a else b)=XH w bs acc is st b:=by rw [lK h]
theorem anQ {d:Option Nat} {ret:AV} {c:Prop} [Decidable c] {a b:Option Env} (h:c):B w d ret is st (if c then a else b)=B w d ret is st a:=by rw [lF h]
theorem am9 {d:Option Nat} {ret:AV} {c:Prop} [Decidable c] {a b:Option Env} (h:c):BH w d ret bs acc is st (if c then a else b)=BH w d ret bs acc is st a:=by rw [lF h]
theorem iM {d:Option Nat} {f:Nat} {ok:Bool} {args outs:List AV} {ret:AV} {ln:Option (Nat × Nat × a8)} {P:Program} (hP:w.P=P) (hS:bR P f args ret outs)
  (hx:(dW (ret::outs)=false∧∀ x ∈ dX (ret::outs),x ∈ dX args)∨ok=true) {pls:List Plc} (h:B w d ret is st (mU E ln pls outs)):Y0 w d f ok pls is st args E ln:=⟨ret,outs,hP ▸ hS,hx,h⟩
theorem f0 {d:Option Nat} {f:Nat} {ok:Bool} {args outs:List AV} {ret:AV} {ln:Option (Nat × Nat × a8)} {P:Program} (hP:w.P=P) (hS:bR P f args ret outs)
  (hx:(dW (ret::outs)=false∧∀ x ∈ dX (ret::outs),x ∈ dX args)∨ok=true) {pls:List Plc} (h:BH w d ret bs acc is st (mU E ln pls outs)):YH0 w d f ok pls bs acc is st args E ln:=⟨ret,outs,hP ▸ hS,hx,h⟩
theorem aol {a b:Cmd} (c:Prop) [Decidable c] (h1:c→C w a st E) (h2:¬ c→C w b st E):CF w a b st E (.bool (decide c)):=⟨fun h=>h1 (by simpa using h),fun h=>h2 (by simpa using h)⟩
theorem ag0 {a b:Cmd} {c:Bool}:CF w a b st E (.bool (!c))=CF w b a st E (.bool c):=by cases c <;> simp [CF]
theorem ag1 {d:Option Nat} {i:I} {b c:Bool}:GF w b d i is st E (.bool (!c))=GF w (!b) d i is st E (.bool c):=by cases c <;> cases b <;> simp [GF]
theorem aom {b:Bool} {d:Option Nat} {i:I} (c:Prop) [Decidable c] (h1:c→GF w b d i is st E (.bool true)) (h2:¬ c→GF w b d i is st E (.bool false)):GF w b d i is st E (.bool (decide c)):=by
 by_cases h:c
 ·simpa [h] using h1 h
 ·simpa [h] using h2 h
theorem aon {t:Nat} {b:Bool} {d:Option Nat} {i:I} (c:Prop) [Decidable c] (h1:c→HF w bs acc t b d i is st E (.bool true)) (h2:¬ c→HF w bs acc t b d i is st E (.bool false)):HF w bs acc t b d i is st E (.bool (decide c)):=by
 by_cases h:c
 ·simpa [h] using h1 h
 ·simpa [h] using h2 h
theorem aoo {a b:Cmd} (c:Bool) (h1:c=true→C w a st E) (h2:c=false→C w b st E):CF w a b st E (.bool c):=⟨h1,h2⟩
theorem aop {b:Bool} {d:Option Nat} {i:I} (c:Bool) (h1:c=true→GF w b d i is st E (.bool true)) (h2:c=false→GF w b d i is st E (.bool false)):GF w b d i is st E (.bool c):=by
 cases c
 ·exact h2 rfl
 ·exact h1 rfl
theorem aoq {t:Nat} {b:Bool} {d:Option Nat} {i:I} (c:Bool) (h1:c=true→HF w bs acc t b d i is st E (.bool true)) (h2:c=false→HF w bs acc t b d i is st E (.bool false)):HF w bs acc t b d i is st E (.bool c):=by
 cases c
 ·exact h2 rfl
 ·exact h1 rfl
end
def ajF (a:AV) (d:Nat) (m:List (Nat × Nat × Nat)):List (Nat × Nat × Nat):=if a.isRoot=true then aaU m d ((gS m d).1+1,(gS m d).2+1) else m
def mkV (K:Nat) (l r:List (Nat × AV)) (m:List (Nat × Nat × Nat)):Env:=⟨fun t=>if cY K t=true then c5 l t else c5 r t,gS m⟩
def wY (E:Env) (K:Nat):List (Nat × AV)→List (Nat × AV)
 | []=>[]
 | (k,a)::l=>(k,oQ E K a)::wY E K l
theorem akR (K:Nat) (l r:List (Nat × AV)) (m:List (Nat × Nat × Nat)) (t:Nat):(mkV K l r m).ep t=gS m t:=rfl
theorem ag2 (a:AV) (d t:Nat) (m:List (Nat × Nat × Nat)):gS (ajF a d m) t=if t=d∧a.isRoot=true then ((gS m d).1+1,(gS m d).2+1) else gS m t:=by
 unfold ajF
 by_cases h:a.isRoot=true
 ·simp only [h,and_true,lP,rS]
 ·simp [h]
theorem abu (K:Nat) (l r:List (Nat × AV)) (m:List (Nat × Nat × Nat)) (d:Nat) (x:AV) :
  (mkV K l r m).put d x=if cY K d=true then mkV K (qG l d x) r (ajF (c5 l d) d m) else mkV K l ((d,x)::r) (ajF (c5 r d) d m):=by
 by_cases hk:cY K d=true
 ·rw [lF hk]
  apply Env.ext'
  ·intro t
   show (if t=d then x else if cY K t=true then c5 l t else c5 r t)=if cY K t=true then c5 (qG l d x) t else c5 r t
   rw [nV]
   by_cases e:t=d
   ·subst e; simp [hk]
   ·simp [e]
  ·intro t
   show (if t=d∧(if cY K d=true then c5 l d else c5 r d).isRoot=true then ((gS m d).1+1,(gS m d).2+1) else gS m t)=gS (ajF (c5 l d) d m) t
   rw [ag2,lF hk]
 ·rw [lK hk]
  apply Env.ext'
  ·intro t
   show (if t=d then x else if cY K t=true then c5 l t else c5 r t)=if cY K t=true then c5 l t else c5 ((d,x)::r) t
   by_cases e:t=d
   ·subst e; simp [hk,c5]
   ·simp [e,c5,Ne.symm e]
  ·intro t
   show (if t=d∧(if cY K d=true then c5 l d else c5 r d).isRoot=true then ((gS m d).1+1,(gS m d).2+1) else gS m t)=gS (ajF (c5 r d) d m) t
   rw [ag2,lK hk]
theorem abv (K:Nat) (l r:List (Nat × AV)) (m:List (Nat × Nat × Nat)) (d:Nat) (x:AV) :
  (mkV K l r m).upd d x=if cY K d=true then mkV K (qG l d x) r (aaU m d ((gS m d).1,(gS m d).2+1)) else mkV K l (qG r d x) (aaU m d ((gS m d).1,(gS m d).2+1)):=by
 by_cases hk:cY K d=true
 ·rw [lF hk]
  apply Env.ext'
  ·intro t
   show (if t=d then x else if cY K t=true then c5 l t else c5 r t)=if cY K t=true then c5 (qG l d x) t else c5 r t
   rw [nV]
   by_cases e:t=d
   ·subst e; simp [hk]
   ·simp [e]
  ·intro t
   show (if t=d then ((gS m d).1,(gS m d).2+1) else gS m t)=_
   rw [akR,rS]
 ·rw [lK hk]
  apply Env.ext'
  ·intro t
   show (if t=d then x else if cY K t=true then c5 l t else c5 r t)=if cY K t=true then c5 l t else c5 (qG r d x) t
   rw [nV]
   by_cases e:t=d
   ·subst e; simp [hk]
   ·simp [e]
  ·intro t
   show (if t=d then ((gS m d).1,(gS m d).2+1) else gS m t)=_
   rw [akR,rS]
theorem wZ (K:Nat) (l r:List (Nat × AV)) (m:List (Nat × Nat × Nat)) (d:Nat) (x:AV) :
  (mkV K l r m).set0 d x=if cY K d=true then mkV K (qG l d x) r m else mkV K l (qG r d x) m:=by
 by_cases hk:cY K d=true
 ·rw [lF hk]
  apply Env.ext'
  ·intro t
   show (if t=d then x else if cY K t=true then c5 l t else c5 r t)=if cY K t=true then c5 (qG l d x) t else c5 r t
   rw [nV]
   by_cases e:t=d
   ·subst e; simp [hk]
   ·simp [e]
  ·intro t; rfl
 ·rw [lK hk]
  apply Env.ext'
  ·intro t
   show (if t=d then x else if cY K t=true then c5 l t else c5 r t)=if cY K t=true then c5 l t else c5 (qG r d x) t
   rw [nV]
   by_cases e:t=d
   ·subst e; simp [hk]
   ·simp [e]
  ·intro t; rfl
theorem ag3 (E:Env) (K t:Nat):∀ l:List (Nat × AV),c5 (wY E K l) t=oQ E K (c5 l t):=by
 intro l
 induction l with
 | nil=>rfl
 | cons p l ih=>
  obtain ⟨k,a⟩:=p
  simp only [wY,c5,ih]
  split <;> rfl
theorem w9 (K:Nat) (l r:List (Nat × AV)) (m:List (Nat × Nat × Nat)):(mkV K l r m).norm K=mkV K (wY (mkV K l r m) K l) [] []:=by
 apply Env.ext'
 ·intro t
  show (if cY K t=true then oQ (mkV K l r m) K (if cY K t=true then c5 l t else c5 r t) else .undef)=if cY K t=true then c5 (wY (mkV K l r m) K l) t else c5 [] t
  rw [ag3]
  by_cases hk:cY K t=true <;> simp [hk,c5]
 ·intro t; rfl
theorem alU (K:Nat) (l:List (Nat × AV)):mkE l []=mkV K l l []:=by
 apply Env.ext'
 ·intro t
  show c5 l t=if cY K t=true then c5 l t else c5 l t
  simp
 ·intro t; rfl
def mX:List (Nat × AV)→List (Nat × AV)→List (Nat × AV)
 | l,[]=>l
 | l,(d,x)::v=>mX (qG l d x) v
def LQ {σ:Type} (K:Nat) (l:List (Nat × AV)) (v:σ→List (Nat × AV)) (J:σ→Prop) (μ:σ→Nat) (s:σ) (Q:Ex→Env→Prop):Ex→Env→Prop:=fun x E'=>match x with
 | .n=>∃ s',E'.norm K=mkV K (mX l (v s')) [] []∧J s'∧μ s'<μ s
 | x=>Q x E'
def LQD {σ:Type} (D:List Nat) (K:Nat) (l:List (Nat × AV)) (v:σ→List (Nat × AV)) (J:σ→Prop) (μ:σ→Nat) (s:σ) (Q:Ex→Env→Prop):Ex→Env→Prop:=fun x E'=>match x with
 | .n=>∃ s',hdL K D (E'.norm K)=mkV K (mX l (v s')) [] []∧J s'∧μ s'<μ s
 | x=>Q x E'
section
variable {w:Wk} {E:Env} {st:List Fr} {is:List GI} {bs:List Nat} {acc:List Rcd}
def LHD (w:Wk) (c:Cmd) (st:List Fr) (D:List Nat) (E:Env):Prop:=∃ J:Nat→Env→Prop,(∃ n,J n E)∧∀ n E,J n E→wpB w.P w.md w.ks c (fun x E'=>match x with | .n=>∃ m,m<n∧J m (hdL w.ks D (E'.norm w.ks)) | x=>T w st x E') E
def LH (w:Wk) (c:Cmd) (st:List Fr) (E:Env):Prop:=∃ D:List Nat,LHD w c st D (hdL w.ks D E)
theorem iV {c:Cmd} (D:List Nat) (h:LHD w c st D (hdL w.ks D E)):LH w c st E:=⟨D,h⟩
theorem ana {σ:Type} (v:σ→List (Nat × AV)) (J:σ→Prop) (μ:σ→Nat) (s0:σ) {c:Cmd} {P:Program} {md:fP} {ks:Nat} {l:List (Nat × AV)} (hP:w.P=P) (hm:w.md=md) (hk:w.ks=ks) (hE:mX l (v s0)=l) (h0:J s0)
  (step:∀ s,J s→∀ w':Wk,w'.P=P→w'.md=md→w'.ks=ks→w'.Q=LQ ks l v J μ s (T w st)→C w' c [] (mkV ks (mX l (v s)) [] [])):LH w c st (mkV ks l [] []):=by
 refine ⟨[],fun n F=>∃ s,F=mkV ks (mX l (v s)) [] []∧J s∧μ s=n,⟨_,s0,by rw [hE]; rfl,h0,rfl⟩,?_⟩
 rintro n F ⟨s,rfl,hs,rfl⟩
 refine mC c (step s hs { w with Q:=LQ ks l v J μ s (T w st) } hP hm hk rfl) fun x E1 h1=>?_
 rw [y7] at h1
 cases x with
 | n=>obtain ⟨s',e1,e2,e3⟩:=h1; rw [hk]; exact ⟨_,e3,s',e1,e2,rfl⟩
 | r=>exact h1
 | e id=>exact h1
theorem anb {σ:Type} (D:List Nat) (v:σ→List (Nat × AV)) (J:σ→Prop) (μ:σ→Nat) (s0:σ) {c:Cmd} {P:Program} {md:fP} {ks:Nat} {l:List (Nat × AV)} (hP:w.P=P) (hm:w.md=md) (hk:w.ks=ks) (hE:mX l (v s0)=l) (h0:J s0)
  (step:∀ s,J s→∀ w':Wk,w'.P=P→w'.md=md→w'.ks=ks→w'.Q=LQD D ks l v J μ s (T w st)→C w' c [] (mkV ks (mX l (v s)) [] [])):LHD w c st D (mkV ks l [] []):=by
 refine ⟨fun n F=>∃ s,F=mkV ks (mX l (v s)) [] []∧J s∧μ s=n,⟨_,s0,by rw [hE],h0,rfl⟩,?_⟩
 rintro n F ⟨s,rfl,hs,rfl⟩
 refine mC c (step s hs { w with Q:=LQD D ks l v J μ s (T w st) } hP hm hk rfl) fun x E1 h1=>?_
 rw [y7] at h1
 cases x with
 | n=>obtain ⟨s',e1,e2,e3⟩:=h1; rw [hk]; exact ⟨_,e3,s',e1,e2,rfl⟩
 | r=>exact h1
 | e id=>exact h1
end
theorem anc {P:Program} {f nt:Nat} {rs:List RV} {cmd:Cmd} (hm:P.follows .mixedOrders=true) (hc:aE P f=some (nt,rs,cmd)) (md:fP) (ks:Nat) (bs:List Bool) {args outs:List AV} {ret:AV}
  (hlen:args.length≤nt∧args.length≤32) (hol:outs.length=args.length) (hroots:cR bs args=true)
  (h:∀ w:Wk,w.P=P→w.md=md→w.ks=ks→w.Q=Fin rs bs args ret outs→C w cmd [] (mkV ks (bH 0 bs args++dG 0 bs args) (bH 0 bs args++dG 0 bs args) [])):bR P f args ret outs:=by
 refine am6 hm hc md ks bs hlen hol hroots (mC cmd ?_ fun _ _ h=>h)
 rw [alU ks]
 exact mC cmd (h ⟨P,md,ks,Fin rs bs args ret outs⟩ rfl rfl rfl rfl) fun x E hx=>by rw [y7] at hx; exact hx
theorem ajG {P:Program} {f nt:Nat} {rs:List RV} {cmd:Cmd} (hm:P.follows .mixedOrders=true) (hc:aE P f=some (nt,rs,cmd)) (md:fP) (ks:Nat) (hks:ks.testBit 999=false) (bs:List Bool) {args:List AV} {R:AV→List AV→Prop}
  (hlen:args.length≤nt∧args.length≤32) (hroots:cR bs args=true)
  (h:∀ w:Wk,w.P=P→w.md=md→w.ks=ks→w.Q=wX rs bs args R→C w cmd [] (mkV ks (bH 0 bs args++dG 0 bs args) (bH 0 bs args++dG 0 bs args) [])):∃ ret outs,R ret outs∧bR P f args ret outs:=by
 refine ajE hm hc md ks hks bs hlen hroots (mC cmd ?_ fun _ _ h=>h)
 rw [alU ks]
 exact mC cmd (h ⟨P,md,ks,wX rs bs args R⟩ rfl rfl rfl rfl) fun x E hx=>by rw [y7] at hx; exact hx
end
theorem abw (k:IntKind) (a b:Int):jL .eql (.int k a) (.int k b)=some (.bool (decide (a=b))):=by
 have h:(a == b)=decide (a=b):=by rw [lZ3]; simp
 simp [jL,afE,adR,h]
theorem abx (k:IntKind) (a b:Int):jL .neq (.int k a) (.int k b)=some (.bool (!decide (a=b))):=by
 have h:(a == b)=decide (a=b):=by rw [lZ3]; simp
 simp [jL,afE,adR,bne,h]
theorem aby (a b:List UInt8):jL .eql (.str a) (.str b)=some (.bool (decide (a=b))):=by
 have h:(a == b)=decide (a=b):=by rw [lZ3]; simp
 simp [jL,akI,h]
theorem abz (a b:List UInt8):jL .neq (.str a) (.str b)=some (.bool (!decide (a=b))):=by
 have h:(a == b)=decide (a=b):=by rw [lZ3]; simp
 simp [jL,akI,h]
theorem S1 :
 (AV.owns .undef=false) ∧
 (∀ b,AV.owns (.bool b)=false) ∧
 (∀ k n,AV.owns (.int k n)=false) ∧
 (∀ s,AV.owns (.str s)=false) ∧
 (∀ s es,AV.owns (.own s es)=true) ∧
 (∀ s es,AV.owns (.ext s es)=false) ∧
 (∀ v s es,AV.owns (.extv v s es)=false) ∧
 (∀ cs,AV.owns (.box cs)=true) ∧
 (∀ cs,AV.owns (.xbox cs)=false) ∧
 (∀ cs,AV.owns (.agg cs)=bS cs) ∧
 (∀ cs,AV.owns (.tup cs)=bS cs) ∧
 (∀ r e p,AV.owns (.lnk r e p)=false) ∧
 (∀ r e p s lo n,AV.owns (.sub r e p s lo n)=false) ∧
 (∀ r e p st,AV.owns (.ref r e p st)=false) ∧
 (∀ f cs,AV.owns (.fn f cs)=bS cs) ∧
 (bS []=false) ∧
 (∀ a l,bS (a::l)=(AV.owns a || bS l)) ∧
 (AV.isRoot .undef=false) ∧
 (∀ b,AV.isRoot (.bool b)=false) ∧
 (∀ k n,AV.isRoot (.int k n)=false) ∧
 (∀ s,AV.isRoot (.str s)=false) ∧
 (∀ s es,AV.isRoot (.own s es)=true) ∧
 (∀ s es,AV.isRoot (.ext s es)=false) ∧
 (∀ v s es,AV.isRoot (.extv v s es)=false) ∧
 (∀ cs,AV.isRoot (.box cs)=true) ∧
 (∀ cs,AV.isRoot (.xbox cs)=false) ∧
 (∀ cs,AV.isRoot (.agg cs)=false) ∧
 (∀ cs,AV.isRoot (.tup cs)=false) ∧
 (∀ r e p,AV.isRoot (.lnk r e p)=false) ∧
 (∀ r e p s lo n,AV.isRoot (.sub r e p s lo n)=false) ∧
 (∀ r e p st,AV.isRoot (.ref r e p st)=false) ∧
 (∀ f cs,AV.isRoot (.fn f cs)=false) ∧
 (cellsOf .undef=[.undef]) ∧
 (∀ b,cellsOf (.bool b)=[.bool b]) ∧
 (∀ k n,cellsOf (.int k n)=[.int k n]) ∧
 (∀ s,cellsOf (.str s)=[.str s]) ∧
 (∀ s es,cellsOf (.own s es)=[.own s es]) ∧
 (∀ s es,cellsOf (.ext s es)=[.ext s es]) ∧
 (∀ v s es,cellsOf (.extv v s es)=[.extv v s es]) ∧
 (∀ cs,cellsOf (.box cs)=[.box cs]) ∧
 (∀ cs,cellsOf (.xbox cs)=[.xbox cs]) ∧
 (∀ cs,cellsOf (.agg cs)=cs) ∧
 (∀ cs,cellsOf (.tup cs)=[.tup cs]) ∧
 (∀ r e p,cellsOf (.lnk r e p)=[.lnk r e p]) ∧
 (∀ r e p s lo n,cellsOf (.sub r e p s lo n)=[.sub r e p s lo n]) ∧
 (∀ r e p st,cellsOf (.ref r e p st)=[.ref r e p st]) ∧
 (∀ f cs,cellsOf (.fn f cs)=[.fn f cs]) ∧
 (plain .undef=false) ∧
 (∀ b,plain (.bool b)=true) ∧
 (∀ k n,plain (.int k n)=true) ∧
 (∀ s,plain (.str s)=true) ∧
 (∀ s es,plain (.own s es)=true) ∧
 (∀ s es,plain (.ext s es)=true) ∧
 (∀ v s es,plain (.extv v s es)=true) ∧
 (∀ cs,plain (.box cs)=true) ∧
 (∀ cs,plain (.xbox cs)=true) ∧
 (∀ cs,plain (.agg cs)=true) ∧
 (∀ cs,plain (.tup cs)=true) ∧
 (∀ r e p,plain (.lnk r e p)=false) ∧
 (∀ r e p s lo n,plain (.sub r e p s lo n)=false) ∧
 (∀ r e p st,plain (.ref r e p st)=false) ∧
 (∀ f cs,plain (.fn f cs)=true) ∧
 (mP .undef=false) ∧
 (∀ b,mP (.bool b)=true) ∧
 (∀ k n,mP (.int k n)=true) ∧
 (∀ s,mP (.str s)=true) ∧
 (∀ s es,mP (.own s es)=true) ∧
 (∀ s es,mP (.ext s es)=true) ∧
 (∀ v s es,mP (.extv v s es)=true) ∧
 (∀ cs,mP (.box cs)=true) ∧
 (∀ cs,mP (.xbox cs)=true) ∧
 (∀ cs,mP (.agg cs)=false) ∧
 (∀ cs,mP (.tup cs)=false) ∧
 (∀ r e p,mP (.lnk r e p)=false) ∧
 (∀ r e p s lo n,mP (.sub r e p s lo n)=false) ∧
 (∀ r e p st,mP (.ref r e p st)=false) ∧
 (∀ f cs,mP (.fn f cs)=true) ∧
 (wB []=true) ∧
 (∀ (a:AV) (l:List AV),wB (a::l)=(mP a && wB l)) ∧
 (noLk .undef=true) ∧
 (∀ b,noLk (.bool b)=true) ∧
 (∀ k n,noLk (.int k n)=true) ∧
 (∀ s,noLk (.str s)=true) ∧
 (∀ s es,noLk (.own s es)=true) ∧
 (∀ s es,noLk (.ext s es)=true) ∧
 (∀ v s es,noLk (.extv v s es)=true) ∧
 (∀ cs,noLk (.box cs)=dC cs) ∧
 (∀ cs,noLk (.xbox cs)=true) ∧
 (∀ cs,noLk (.agg cs)=dC cs) ∧
 (∀ cs,noLk (.tup cs)=dC cs) ∧
 (∀ r e p,noLk (.lnk r e p)=false) ∧
 (∀ r e p s lo n,noLk (.sub r e p s lo n)=false) ∧
 (∀ r e p st,noLk (.ref r e p st)=false) ∧
 (∀ f cs,noLk (.fn f cs)=dC cs) ∧
 (dC []=true) ∧
 (∀ (a:AV) (l:List AV),dC (a::l)=(noLk a && dC l)) ∧
 (oH .undef=false) ∧
 (∀ b,oH (.bool b)=false) ∧
 (∀ k n,oH (.int k n)=false) ∧
 (∀ s,oH (.str s)=false) ∧
 (∀ s es,oH (.own s es)=false) ∧
 (∀ s es,oH (.ext s es)=true) ∧
 (∀ v s es,oH (.extv v s es)=false) ∧
 (∀ cs,oH (.box cs)=dW cs) ∧
 (∀ cs,oH (.xbox cs)=true) ∧
 (∀ cs,oH (.agg cs)=dW cs) ∧
 (∀ cs,oH (.tup cs)=dW cs) ∧
 (∀ r e p,oH (.lnk r e p)=false) ∧
 (∀ r e p s lo n,oH (.sub r e p s lo n)=false) ∧
 (∀ r e p st,oH (.ref r e p st)=false) ∧
 (∀ f cs,oH (.fn f cs)=dW cs) ∧
 (dW []=false) ∧
 (∀ (a:AV) (l:List AV),dW (a::l)=(oH a || dW l)) ∧
 (vlv .undef=[]) ∧
 (∀ b,vlv (.bool b)=[]) ∧
 (∀ k n,vlv (.int k n)=[]) ∧
 (∀ s,vlv (.str s)=[]) ∧
 (∀ s es,vlv (.own s es)=[]) ∧
 (∀ s es,vlv (.ext s es)=[]) ∧
 (∀ v s es,vlv (.extv v s es)=[(v,s,es)]) ∧
 (∀ cs,vlv (.box cs)=dX cs) ∧
 (∀ cs,vlv (.xbox cs)=[]) ∧
 (∀ cs,vlv (.agg cs)=dX cs) ∧
 (∀ cs,vlv (.tup cs)=dX cs) ∧
 (∀ r e p,vlv (.lnk r e p)=[]) ∧
 (∀ r e p s lo n,vlv (.sub r e p s lo n)=[]) ∧
 (∀ r e p st,vlv (.ref r e p st)=[]) ∧
 (∀ f cs,vlv (.fn f cs)=dX cs) ∧
 (dX []=[]) ∧
 (∀ (a:AV) (l:List AV),dX (a::l)=vlv a++dX l) ∧
 (jG .undef=true) ∧
 (∀ b,jG (.bool b)=true) ∧
 (∀ k n,jG (.int k n)=true) ∧
 (∀ s,jG (.str s)=true) ∧
 (∀ s es,jG (.own s es)=false) ∧
 (∀ s es,jG (.ext s es)=true) ∧
 (∀ v s es,jG (.extv v s es)=true) ∧
 (∀ cs,jG (.box cs)=true) ∧
 (∀ cs,jG (.xbox cs)=true) ∧
 (∀ cs,jG (.agg cs)=oG cs) ∧
 (∀ cs,jG (.tup cs)=true) ∧
 (∀ r e p,jG (.lnk r e p)=false) ∧
 (∀ r e p s lo n,jG (.sub r e p s lo n)=false) ∧
 (∀ r e p st,jG (.ref r e p st)=false) ∧
 (∀ f cs,jG (.fn f cs)=oG cs) ∧
 (oG []=true) ∧
 (∀ (a:AV) (l:List AV),oG (a::l)=(jG a && oG l)) ∧
 (tvB .undef=some .undef) ∧
 (∀ b,tvB (.bool b)=some (.bool b)) ∧
 (∀ k n,tvB (.int k n)=some (.int k n)) ∧
 (∀ s,tvB (.str s)=some (.str s)) ∧
 (∀ s es,tvB (.own s es)=some (.sl s es)) ∧
 (∀ s es,tvB (.ext s es)=some (.sl s es)) ∧
 (∀ v s es,tvB (.extv v s es)=some (.sl s es)) ∧
 (∀ cs,tvB (.box cs)=none) ∧
 (∀ cs,tvB (.xbox cs)=none) ∧
 (∀ cs,tvB (.agg cs)=none) ∧
 (∀ cs,tvB (.tup cs)=none) ∧
 (∀ r e p,tvB (.lnk r e p)=none) ∧
 (∀ r e p s lo n,tvB (.sub r e p s lo n)=none) ∧
 (∀ r e p st,tvB (.ref r e p st)=none) ∧
 (∀ f cs,tvB (.fn f cs)=none) ∧
 (aaO []=some []) ∧
 (∀ (a:AV) (l:List AV),aaO (a::l)=Option.bind (tvB a) fun (t:TV)=>Option.map (fun (x:List TV)=>t::x) (aaO l)) ∧
 (AV.tv .undef=some .undef) ∧
 (∀ b,AV.tv (.bool b)=some (.bool b)) ∧
 (∀ k n,AV.tv (.int k n)=some (.int k n)) ∧
 (∀ s,AV.tv (.str s)=some (.str s)) ∧
 (∀ s es,AV.tv (.own s es)=some (.sl s es)) ∧
 (∀ s es,AV.tv (.ext s es)=none) ∧
 (∀ v s es,AV.tv (.extv v s es)=none) ∧
 (∀ cs,AV.tv (.box cs)=none) ∧
 (∀ cs,AV.tv (.xbox cs)=none) ∧
 (∀ cs,AV.tv (.agg cs)=none) ∧
 (∀ cs,AV.tv (.tup cs)=none) ∧
 (∀ r e p,AV.tv (.lnk r e p)=none) ∧
 (∀ r e p s lo n,AV.tv (.sub r e p s lo n)=none) ∧
 (∀ r e p st,AV.tv (.ref r e p st)=none) ∧
 (∀ f cs,AV.tv (.fn f cs)=none) ∧
 (tvs []=some []) ∧
 (∀ a l,tvs (a::l)=Option.bind (AV.tv a) fun (t:TV)=>Option.map (fun (x:List TV)=>t::x) (tvs l)) ∧
 (lks .undef=[]) ∧
 (∀ b,lks (.bool b)=[]) ∧
 (∀ k n,lks (.int k n)=[]) ∧
 (∀ s,lks (.str s)=[]) ∧
 (∀ s es,lks (.own s es)=[]) ∧
 (∀ s es,lks (.ext s es)=[]) ∧
 (∀ v s es,lks (.extv v s es)=[]) ∧
 (∀ cs,lks (.box cs)=o9 cs) ∧
 (∀ cs,lks (.xbox cs)=[]) ∧
 (∀ cs,lks (.agg cs)=o9 cs) ∧
 (∀ cs,lks (.tup cs)=o9 cs) ∧
 (∀ r e p,lks (.lnk r e p)=[r]) ∧
 (∀ r e p s lo n,lks (.sub r e p s lo n)=[r]) ∧
 (∀ r e p st,lks (.ref r e p st)=[r]) ∧
 (∀ f cs,lks (.fn f cs)=o9 cs) ∧
 (o9 []=[]) ∧
 (∀ (a:AV) (l:List AV),o9 (a::l)=lks a++o9 l) ∧
 (∀ E,dB E .undef=false) ∧
 (∀ E b,dB E (.bool b)=true) ∧
 (∀ E k n,dB E (.int k n)=true) ∧
 (∀ E s,dB E (.str s)=true) ∧
 (∀ E s es,dB E (.own s es)=true) ∧
 (∀ E s es,dB E (.ext s es)=true) ∧
 (∀ E v s es,dB E (.extv v s es)=true) ∧
 (∀ E cs,dB E (.box cs)=true) ∧
 (∀ E cs,dB E (.xbox cs)=true) ∧
 (∀ E cs,dB E (.agg cs)=true) ∧
 (∀ E cs,dB E (.tup cs)=true) ∧
 (∀ E r e p,dB E (.lnk r e p)=Option.isSome (aK E r e p)) ∧
 (∀ E r e p s lo n,dB E (.sub r e p s lo n)=Option.isSome (aK E r e p)) ∧
 (∀ E r e p st,dB E (.ref r e p st)=(e == fM (Env.ep E r) p && AV.isRoot (Env.f E r) && Option.isSome (cA (Env.f E r) p))) ∧
 (∀ E f cs,dB E (.fn f cs)=true) ∧
 (∀ E,bA E .undef=none) ∧
 (∀ E b,bA E (.bool b)=none) ∧
 (∀ E k n,bA E (.int k n)=none) ∧
 (∀ E s,bA E (.str s)=none) ∧
 (∀ E s es,bA E (.own s es)=some (s,es)) ∧
 (∀ E s es,bA E (.ext s es)=some (s,es)) ∧
 (∀ E v s es,bA E (.extv v s es)=some (s,es)) ∧
 (∀ E cs,bA E (.box cs)=none) ∧
 (∀ E cs,bA E (.xbox cs)=none) ∧
 (∀ E cs,bA E (.agg cs)=none) ∧
 (∀ E cs,bA E (.tup cs)=none) ∧
 (∀ E r e p,bA E (.lnk r e p)=aK E r e p) ∧
 (∀ E r e p s lo n,bA E (.sub r e p s lo n)=Option.bind (aK E r e p) fun (x:Nat × List (List TV))=>if Prod.fst x=s∧lo+n≤List.length (Prod.snd x) then some (s,List.take n (List.drop lo (Prod.snd x))) else none) ∧
 (∀ E r e p st,bA E (.ref r e p st)=none) ∧
 (∀ E f cs,bA E (.fn f cs)=none) ∧
 (∀ E,bL E .undef=some (.undef,E)) ∧
 (∀ E b,bL E (.bool b)=some (.bool b,E)) ∧
 (∀ E k n,bL E (.int k n)=some (.int k n,E)) ∧
 (∀ E s,bL E (.str s)=some (.str s,E)) ∧
 (∀ E s es,bL E (.own s es)=some (.own s es,E)) ∧
 (∀ E s es,bL E (.ext s es)=some (.ext s es,E)) ∧
 (∀ E v s es,bL E (.extv v s es)=some (.extv v s es,E)) ∧
 (∀ E cs,bL E (.box cs)=none) ∧
 (∀ E cs,bL E (.xbox cs)=some (.xbox cs,E)) ∧
 (∀ E cs,bL E (.agg cs)=Option.map (fun (x:List AV × Env)=>(.agg (Prod.fst x),Prod.snd x)) (iJ E cs)) ∧
 (∀ E cs,bL E (.tup cs)=none) ∧
 (∀ E r e p,bL E (.lnk r e p)=Option.map (fun (x:Nat × List (List TV))=>(.own (Prod.fst x) (Prod.snd x),takeN E r p)) (aK E r e p)) ∧
 (∀ E r e p s lo n,bL E (.sub r e p s lo n)=Option.bind (aK E r e p) fun (x:Nat × List (List TV))=>if Prod.fst x=s∧lo+n≤List.length (Prod.snd x) then some (.own s (List.take n (List.drop lo (Prod.snd x))),takeN E r p) else none) ∧
 (∀ E r e p st,bL E (.ref r e p st)=some (.ref r e p st,E)) ∧
 (∀ E f cs,bL E (.fn f cs)=some (.fn f cs,E)) ∧
 (∀ E,iJ E []=some ([],E)) ∧
 (∀ E a l,iJ E (a::l)=Option.bind (bL E a) fun (x:AV × Env)=>Option.map (fun (y:List AV × Env)=>(Prod.fst x::Prod.fst y,Prod.snd y)) (iJ (Prod.snd x) l)) ∧
 (∀ E lr,brw E lr .undef=some .undef) ∧
 (∀ E lr b,brw E lr (.bool b)=some (.bool b)) ∧
 (∀ E lr k n,brw E lr (.int k n)=some (.int k n)) ∧
 (∀ E lr s,brw E lr (.str s)=some (.str s)) ∧
 (∀ E lr s es,brw E lr (.own s es)=some (.ext s es)) ∧
 (∀ E lr s es,brw E lr (.ext s es)=some (.ext s es)) ∧
 (∀ E lr v s es,brw E lr (.extv v s es)=some (.extv v s es)) ∧
 (∀ E lr cs,brw E lr (.box cs)=none) ∧
 (∀ E lr cs,brw E lr (.xbox cs)=some (.xbox cs)) ∧
 (∀ E lr cs,brw E lr (.agg cs)=Option.map .agg (o8 E lr cs)) ∧
 (∀ E lr cs,brw E lr (.tup cs)=none) ∧
 (∀ E lr r e p,brw E lr (.lnk r e p)=if some r=lr then none else Option.map (fun (x:Nat × List (List TV))=>.ext (Prod.fst x) (Prod.snd x)) (aK E r e p)) ∧
 (∀ E lr r e p s lo n,brw E lr (.sub r e p s lo n)=if some r=lr then none else Option.bind (aK E r e p) fun (x:Nat × List (List TV))=>if Prod.fst x=s∧lo+n≤List.length (Prod.snd x) then some (.ext s (List.take n (List.drop lo (Prod.snd x)))) else none) ∧
 (∀ E lr r e p st,
 brw E lr (AV.ref r e p st) =
  if some r=lr then none
  else
   match e == fM (Env.ep E r) p,AV.isRoot (Env.f E r),cA (Env.f E r) p with
   | true,true,some (AV.box cs)=>if St.i st=0∧St.j st≤List.length cs then Option.map AV.xbox (aaO (List.drop (St.j st) cs)) else none
   | true,true,some (AV.own s es)=>if St.s st=s∧St.j st≤s then Option.map (fun (row:List TV)=>AV.xbox (List.drop (St.j st) row)) es[St.i st]? else none
   | x,x_1,x_2=>none) ∧
 (∀ E lr f cs,brw E lr (.fn f cs)=Option.map (.fn f) (o8 E lr cs)) ∧
 (∀ E lr,o8 E lr []=some []) ∧
 (∀ E lr a l,o8 E lr (a::l)=Option.bind (brw E lr a) fun (x:AV)=>Option.map (fun (x_1:List AV)=>x::x_1) (o8 E lr l)) ∧
 (∀ E ks,oQ E ks .undef=.undef) ∧
 (∀ E ks b,oQ E ks (.bool b)=.bool b) ∧
 (∀ E ks k n,oQ E ks (.int k n)=.int k n) ∧
 (∀ E ks s,oQ E ks (.str s)=.str s) ∧
 (∀ E ks s es,oQ E ks (.own s es)=.own s es) ∧
 (∀ E ks s es,oQ E ks (.ext s es)=.ext s es) ∧
 (∀ E ks v s es,oQ E ks (.extv v s es)=.extv v s es) ∧
 (∀ E ks cs,oQ E ks (.box cs)=.box (wC E ks cs)) ∧
 (∀ E ks cs,oQ E ks (.xbox cs)=.xbox cs) ∧
 (∀ E ks cs,oQ E ks (.agg cs)=.agg (wC E ks cs)) ∧
 (∀ E ks cs,oQ E ks (.tup cs)=.tup (wC E ks cs)) ∧
 (∀ E ks r e p,oQ E ks (.lnk r e p)=if oJ E ks r e p=true then .lnk r 0 p else .undef) ∧
 (∀ E ks r e p s lo n,oQ E ks (.sub r e p s lo n)=if oJ E ks r e p=true then .sub r 0 p s lo n else .undef) ∧
 (∀ E ks r e p st,oQ E ks (.ref r e p st)=if oJ E ks r e p=true then .ref r 0 p st else .undef) ∧
 (∀ E ks f cs,oQ E ks (.fn f cs)=.fn f (wC E ks cs)) ∧
 (∀ E ks,wC E ks []=[]) ∧
 (∀ E ks a l,wC E ks (a::l)=oQ E ks a::wC E ks l) ∧
 (∀ E,cC E .undef=none) ∧
 (∀ E b,cC E (.bool b)=none) ∧
 (∀ E k n,cC E (.int k n)=none) ∧
 (∀ E s,cC E (.str s)=none) ∧
 (∀ E s es,cC E (.own s es)=none) ∧
 (∀ E s es,cC E (.ext s es)=none) ∧
 (∀ E v s es,cC E (.extv v s es)=none) ∧
 (∀ E cs,cC E (.box cs)=none) ∧
 (∀ E cs,cC E (.xbox cs)=none) ∧
 (∀ E cs,cC E (.agg cs)=none) ∧
 (∀ E cs,cC E (.tup cs)=none) ∧
 (∀ E r e p,cC E (.lnk r e p)=Option.map (fun (x:Nat × List (List TV))=>(r,p,.own (Prod.fst x) (Prod.snd x))) (aK E r e p)) ∧
 (∀ E r e p s lo n,cC E (.sub r e p s lo n)=none) ∧
 (∀ E r e p st,cC E (.ref r e p st)=cC E (.ref r e p st)) ∧
 (∀ E f cs,cC E (.fn f cs)=none) ∧
 (∀ E,gT E .undef=none) ∧
 (∀ E b,gT E (.bool b)=none) ∧
 (∀ E k n,gT E (.int k n)=none) ∧
 (∀ E s,gT E (.str s)=none) ∧
 (∀ E s es,gT E (.own s es)=none) ∧
 (∀ E s es,gT E (.ext s es)=none) ∧
 (∀ E v s es,gT E (.extv v s es)=none) ∧
 (∀ E cs,gT E (.box cs)=none) ∧
 (∀ E cs,gT E (.xbox cs)=none) ∧
 (∀ E cs,gT E (.agg cs)=none) ∧
 (∀ E cs,gT E (.tup cs)=none) ∧
 (∀ E r e p,gT E (.lnk r e p)=none) ∧
 (∀ E r e p s lo n,gT E (.sub r e p s lo n)=none) ∧
 (∀ E r e p st,gT E (.ref r e p st)=gT E (.ref r e p st)) ∧
 (∀ E f cs,gT E (.fn f cs)=none) ∧
 (TV.av .undef=.undef) ∧
 (∀ b,TV.av (.bool b)=.bool b) ∧
 (∀ k n,TV.av (.int k n)=.int k n) ∧
 (∀ s,TV.av (.str s)=.str s) ∧
 (∀ s es,TV.av (.sl s es)=.own s es) ∧
 (TV.xv .undef=.undef) ∧
 (∀ b,TV.xv (.bool b)=.bool b) ∧
 (∀ k n,TV.xv (.int k n)=.int k n) ∧
 (∀ s,TV.xv (.str s)=.str s) ∧
 (∀ s es,TV.xv (.sl s es)=.ext s es) ∧
 (aiH .undef=.undef) ∧
 (∀ (b:Bool),aiH (.bool b)=.bool b) ∧
 (∀ (k:IntKind) (n:Int),aiH (.int k n)=.int k n) ∧
 (∀ (s:List UInt8),aiH (.str s)=.str s) ∧
 (∀ (s:Nat) (es:List (List TV)),aiH (.sl s es)=.undef) ∧
 (lA .undef=false) ∧
 (∀ (b:Bool),lA (.bool b)=true) ∧
 (∀ (k:IntKind) (n:Int),lA (.int k n)=true) ∧
 (∀ (s:List UInt8),lA (.str s)=true) ∧
 (∀ (s:Nat) (es:List (List TV)),lA (.sl s es)=false) ∧
 (fI .undef=false) ∧
 (∀ (b:Bool),fI (.bool b)=true):=by
 and_intros <;> intros <;> first | rfl | (cases ‹List Bool› <;> rfl) | exact abw _ _ _ | exact abx _ _ _ | exact aby _ _ | exact abz _ _ | exact alS | exact ag0 | exact ag1 | exact alT | exact y7 | exact agZ | exact abs | exact abt | exact afN _ _ | exact aaX _ _ | exact qK _ | exact aaW | exact abu _ _ _ _ _ _ | exact abv _ _ _ _ _ _ | exact wZ _ _ _ _ _ _ | exact w9 _ _ _ _ | (split <;> rfl) | (cases ‹Bool› <;> rfl) | (simp; done) | (simp only [ev]; cases val _ _ <;> rfl) | (simp [jL,afE,adR,akI,beq_eq_decide,bne]; done) | simp [jL,afE,adR,eqC,Fin,wX,T,aG,I.opds,I.der,I.dsts,aaT,CF,GF,HF]
theorem S2 :
 (∀ (k:IntKind) (n:Int),fI (.int k n)=true) ∧
 (∀ (s:List UInt8),fI (.str s)=true) ∧
 (∀ (s:Nat) (es:List (List TV)),fI (.sl s es)=true) ∧
 (∀ t,c5 [] t=.undef) ∧
 (∀ (k t:Nat) (a:AV) (l:List (Nat × AV)),c5 ((k,a)::l) t=if k=t then a else c5 l t) ∧
 (∀ (t:Nat),gS [] t=(0,0)) ∧
 (∀ (k t:Nat) (a:Nat × Nat) (l:List (Nat × Nat × Nat)),gS ((k,a)::l) t=if k=t then a else gS l t) ∧
 (∀ (t:Nat) (x:AV),qG [] t x=[(t,x)]) ∧
 (∀ (k t:Nat) (a x:AV) (l:List (Nat × AV)),qG ((k,a)::l) t x=if k=t then (t,x)::l else (k,a)::qG l t x) ∧
 (∀ (t:Nat) (x:Nat × Nat),aaU [] t x=[(t,x)]) ∧
 (∀ (k t:Nat) (a x:Nat × Nat) (l:List (Nat × Nat × Nat)),aaU ((k,a)::l) t x=if k=t then (t,x)::l else (k,a)::aaU l t x) ∧
 (∀ E n,val E (O.t n)=Env.f E n) ∧
 (∀ E a,val E (O.c a)=a) ∧
 (∀ E n,fD E (O.t n)=if AV.owns (Env.f E n)=true then (Env.f E n,Env.put E n .undef) else (Env.f E n,E)) ∧
 (∀ E a,fD E (O.c a)=(a,E)) ∧
 (∀ E x,dT E x=bL (Prod.snd (fD E x)) (Prod.fst (fD E x))) ∧
 (∀ E r e p,
 aK E r e p =
  if e=fM (Env.ep E r) p then
   match AV.isRoot (Env.f E r),cA (Env.f E r) p with
   | true,some (AV.own s es)=>some (s,es)
   | x,x_1=>none
  else none) ∧
 (∀ E r p,takeN E r p=if List.isEmpty p=true then Env.put E r .undef else Env.set0 E r (cV (Env.f E r) p .undef)) ∧
 (∀ E r e p,vld E r e p=(e == fM (Env.ep E r) p && AV.isRoot (Env.f E r) && Option.isSome (cA (Env.f E r) p))) ∧
 (∀ E ks r e p,oJ E ks r e p=(cY ks r && e == fM (Env.ep E r) p && AV.isRoot (Env.f E r) && Option.isSome (cA (Env.f E r) p))) ∧
 (∀ (e:Nat × Nat),fM e []=if true=true then Prod.fst e else Prod.snd e) ∧
 (∀ (e:Nat × Nat) (s:St) (p:a8),fM e (s::p)=Prod.snd e) ∧
 (∀ E x,mQ E none x=E) ∧
 (∀ E d x,mQ E (some d) x=Env.put E d x) ∧
 (∀ (row:List AV) (j:Nat) (ts:List AV),lay row j ts=List.take j row++ts++List.drop (j+List.length ts) row) ∧
 (∀ (row:List TV) (j:Nat) (ts:List TV),lay row j ts=List.take j row++ts++List.drop (j+List.length ts) row) ∧
 (∀ E r e p st sz,
 jF E r e p st sz =
  if e=fM (Env.ep E r) p then
   match AV.isRoot (Env.f E r),cA (Env.f E r) p with
   | true,some (AV.box cs)=>if St.i st=0∧St.j st+sz≤List.length cs then some (dL r (Prod.snd (Env.ep E r)) p (St.j st) (List.take sz (List.drop (St.j st) cs))) else none
   | true,some (AV.own s es)=>if St.s st=s then Option.bind es[St.i st]? fun (row:List TV)=>if St.j st+sz≤List.length row then some (m0 r (Prod.snd (Env.ep E r)) p (St.i st) s (St.j st) (List.take sz (List.drop (St.j st) row))) else none else none
   | x,x_1=>none
  else none) ∧
 (∀ (cs:List AV),oneOf cs true=some (.agg cs)) ∧
 (∀ (a:AV),oneOf [a] false=some a) ∧
 (∀ E,jO E []=some ([],E)) ∧
 (∀ E x l,jO E (x::l)=Option.bind (dT E x) fun (g:AV × Env)=>if plain (Prod.fst g)=true then Option.bind (tvs (cellsOf (Prod.fst g))) fun (ts:List TV)=>Option.map (fun (y:List (List TV) × Env)=>(ts::Prod.fst y,Prod.snd y)) (jO (Prod.snd g) l) else none) ∧
 (∀ E cs,mS E cs []=some (cs,E)) ∧
 (∀ E cs a b x l,mS E cs ((a,b,x)::l)=if List.length (cellsOf (Prod.fst (fD E x)))=b∧a+b≤List.length cs∧dB (Prod.snd (fD E x)) (Prod.fst (fD E x))=true then mS (Prod.snd (fD E x)) (lay cs a (cellsOf (Prod.fst (fD E x)))) l else none) ∧
 (∀ E n,cQ E none n=some ↑n) ∧
 (∀ E x n,
 cQ E (some x) n =
  match val E x with
  | AV.int k n=>some n
  | x=>none) ∧
 (∀ (r e:Nat) (p:a8) (j:Nat),dL r e p j []=[]) ∧
 (∀ r e p j l,dL r e p j (.undef::l)=.undef::dL r e p (j+1) l) ∧
 (∀ r e p j l b,dL r e p j (.bool b::l)=.bool b::dL r e p (j+1) l) ∧
 (∀ r e p j l k n,dL r e p j (.int k n::l)=.int k n::dL r e p (j+1) l) ∧
 (∀ r e p j l s,dL r e p j (.str s::l)=.str s::dL r e p (j+1) l) ∧
 (∀ r e p j l s es,dL r e p j (.own s es::l)=.lnk r e (p++[St.mk 0 0 j])::dL r e p (j+1) l) ∧
 (∀ r e p j l s es,dL r e p j (.ext s es::l)=.ext s es::dL r e p (j+1) l) ∧
 (∀ r e p j l v s es,dL r e p j (.extv v s es::l)=.extv v s es::dL r e p (j+1) l) ∧
 (∀ r e p j l cs,dL r e p j (.box cs::l)=.box cs::dL r e p (j+1) l) ∧
 (∀ r e p j l cs,dL r e p j (.xbox cs::l)=.xbox cs::dL r e p (j+1) l) ∧
 (∀ r e p j l cs,dL r e p j (.agg cs::l)=.agg cs::dL r e p (j+1) l) ∧
 (∀ r e p j l cs,dL r e p j (.tup cs::l)=.tup cs::dL r e p (j+1) l) ∧
 (∀ r e p j l r2 e2 p2,dL r e p j (.lnk r2 e2 p2::l)=.lnk r2 e2 p2::dL r e p (j+1) l) ∧
 (∀ r e p j l r2 e2 p2 s lo n,dL r e p j (.sub r2 e2 p2 s lo n::l)=.sub r2 e2 p2 s lo n::dL r e p (j+1) l) ∧
 (∀ r e p j l r2 e2 p2 st,dL r e p j (.ref r2 e2 p2 st::l)=.ref r2 e2 p2 st::dL r e p (j+1) l) ∧
 (∀ r e p j l f cs,dL r e p j (.fn f cs::l)=.fn f cs::dL r e p (j+1) l) ∧
 (∀ (r e:Nat) (p:a8) (i s0 j:Nat),m0 r e p i s0 j []=[]) ∧
 (∀ r e p i s0 j l,m0 r e p i s0 j (.undef::l)=.undef::m0 r e p i s0 (j+1) l) ∧
 (∀ r e p i s0 j l b,m0 r e p i s0 j (.bool b::l)=.bool b::m0 r e p i s0 (j+1) l) ∧
 (∀ r e p i s0 j l k n,m0 r e p i s0 j (.int k n::l)=.int k n::m0 r e p i s0 (j+1) l) ∧
 (∀ r e p i s0 j l s,m0 r e p i s0 j (.str s::l)=.str s::m0 r e p i s0 (j+1) l) ∧
 (∀ r e p i s0 j l s es,m0 r e p i s0 j (.sl s es::l)=.lnk r e (p++[St.mk i s0 j])::m0 r e p i s0 (j+1) l) ∧
 (eqC [] [] []=some true) ∧
 (∀ ks k a b l m,eqC (0::ks) (.int k a::l) (.int k b::m)=if k=k then Option.map (fun (x:Bool)=>a == b && x) (eqC ks l m) else none) ∧
 (∀ ks a b l m,eqC (1::ks) (.str a::l) (.str b::m)=Option.map (fun (x:Bool)=>a == b && x) (eqC ks l m)) ∧
 (∀ ks a b l m,eqC (2::ks) (.bool a::l) (.bool b::m)=Option.map (fun (x:Bool)=>a == b && x) (eqC ks l m)) ∧
 (∀ (k:IntKind) (a b:Int),jL .eql (.int k a) (.int k b)=some (.bool (decide (a=b)))) ∧
 (∀ (k:IntKind) (a b:Int),jL .neq (.int k a) (.int k b)=some (.bool (!decide (a=b)))) ∧
 (∀ k a b,jL .add (.int k a) (.int k b)=if k=k then some (.int k (IntKind.wrap k (a+b))) else none) ∧
 (∀ k a b,jL .sub (.int k a) (.int k b)=if k=k then some (.int k (IntKind.wrap k (a-b))) else none) ∧
 (∀ k a b,jL .mul (.int k a) (.int k b)=if k=k then some (.int k (IntKind.wrap k (a*b))) else none) ∧
 (∀ k a b,jL .quo (.int k a) (.int k b)=if k=k then if b=0 then none else some (.int k (IntKind.wrap k (Int.tdiv a b))) else none) ∧
 (∀ k a b,jL .rem (.int k a) (.int k b)=if k=k then if b=0 then none else some (.int k (Int.tmod a b)) else none) ∧
 (∀ k a b,jL .and (.int k a) (.int k b)=if k=k then some (.int k (IntKind.wrap k ↑(BitVec.toNat (BitVec.ofInt (IntKind.bits k) a &&& BitVec.ofInt (IntKind.bits k) b)))) else none) ∧
 (∀ k a b,jL .or (.int k a) (.int k b)=if k=k then some (.int k (IntKind.wrap k ↑(BitVec.toNat (BitVec.ofInt (IntKind.bits k) a ||| BitVec.ofInt (IntKind.bits k) b)))) else none) ∧
 (∀ k a b,jL .xor (.int k a) (.int k b)=if k=k then some (.int k (IntKind.wrap k ↑(BitVec.toNat (BitVec.ofInt (IntKind.bits k) a ^^^ BitVec.ofInt (IntKind.bits k) b)))) else none) ∧
 (∀ k a b,jL .lss (.int k a) (.int k b)=if k=k then some (.bool (decide (a<b))) else none) ∧
 (∀ k a b,jL .leq (.int k a) (.int k b)=if k=k then some (.bool (decide (a≤b))) else none) ∧
 (∀ k a b,jL .gtr (.int k a) (.int k b)=if k=k then some (.bool (decide (a>b))) else none) ∧
 (∀ k a b,jL .geq (.int k a) (.int k b)=if k=k then some (.bool (decide (a≥b))) else none) ∧
 (∀ k k2 a b,jL .shl (.int k a) (.int k2 b)=if true=true then if b<0 then none else some (.int k (IntKind.wrap k (a*2^min (Int.toNat b) (IntKind.bits k)))) else if k=k2 then adR .shl k a b else none) ∧
 (∀ k k2 a b,jL .shr (.int k a) (.int k2 b)=if true=true then if b<0 then none else some (.int k (Int.fdiv a (2^min (Int.toNat b) (IntKind.bits k)))) else if k=k2 then adR .shr k a b else none) ∧
 (∀ (a b:List UInt8),jL .eql (.str a) (.str b)=some (.bool (decide (a=b)))) ∧
 (∀ (a b:List UInt8),jL .neq (.str a) (.str b)=some (.bool (!decide (a=b)))) ∧
 (∀ a b,jL .add (.str a) (.str b)=if List.length a+List.length b≤4611686018427387904 then some (.str (a++b)) else none) ∧
 (∀ a b,jL .lss (.str a) (.str b)=some (.bool (Awp.strLt a b))) ∧
 (∀ a b,jL .leq (.str a) (.str b)=some (.bool (Awp.strLt a b || a == b))) ∧
 (∀ a b,jL .gtr (.str a) (.str b)=some (.bool !(Awp.strLt a b || a == b))) ∧
 (∀ a b,jL .geq (.str a) (.str b)=some (.bool !Awp.strLt a b)) ∧
 (∀ k n,unV .neg (.int k n)=some (.int k (IntKind.wrap k (0-n)))) ∧
 (∀ k n,unV .xor (.int k n)=some (.int k (IntKind.wrap k ↑(BitVec.toNat (BitVec.ofInt (IntKind.bits k) (if IntKind.signed k=true then -1 else IntKind.max k) ^^^ BitVec.ofInt (IntKind.bits k) n))))) ∧
 (∀ b,unV .not (.bool b)=some (.bool !b)) ∧
 (cA .undef []=some .undef) ∧
 (∀ b,cA (.bool b) []=some (.bool b)) ∧
 (∀ k n,cA (.int k n) []=some (.int k n)) ∧
 (∀ s,cA (.str s) []=some (.str s)) ∧
 (∀ s es,cA (.own s es) []=some (.own s es)) ∧
 (∀ s es,cA (.ext s es) []=some (.ext s es)) ∧
 (∀ v s es,cA (.extv v s es) []=some (.extv v s es)) ∧
 (∀ cs,cA (.box cs) []=some (.box cs)) ∧
 (∀ cs,cA (.xbox cs) []=some (.xbox cs)) ∧
 (∀ cs,cA (.agg cs) []=some (.agg cs)) ∧
 (∀ cs,cA (.tup cs) []=some (.tup cs)) ∧
 (∀ r e p,cA (.lnk r e p) []=some (.lnk r e p)) ∧
 (∀ r e p s lo n,cA (.sub r e p s lo n) []=some (.sub r e p s lo n)) ∧
 (∀ r e p st,cA (.ref r e p st) []=some (.ref r e p st)) ∧
 (∀ f cs,cA (.fn f cs) []=some (.fn f cs)) ∧
 (∀ s es st p,cA (.own s es) (st::p)=Option.map TV.av (jK (.sl s es) (st::p))) ∧
 (∀ cs st p,cA (.box cs) (st::p)=if St.i st=0 then Option.bind cs[St.j st]? fun (x:AV)=>cA x p else none) ∧
 (∀ u,cV .undef [] u=u) ∧
 (∀ u b,cV (.bool b) [] u=u) ∧
 (∀ u k n,cV (.int k n) [] u=u) ∧
 (∀ u s,cV (.str s) [] u=u) ∧
 (∀ u s es,cV (.own s es) [] u=u) ∧
 (∀ u s es,cV (.ext s es) [] u=u) ∧
 (∀ u v s es,cV (.extv v s es) [] u=u) ∧
 (∀ u cs,cV (.box cs) [] u=u) ∧
 (∀ u cs,cV (.xbox cs) [] u=u) ∧
 (∀ u cs,cV (.agg cs) [] u=u) ∧
 (∀ u cs,cV (.tup cs) [] u=u) ∧
 (∀ u r e p,cV (.lnk r e p) [] u=u) ∧
 (∀ u r e p s lo n,cV (.sub r e p s lo n) [] u=u) ∧
 (∀ u r e p st,cV (.ref r e p st) [] u=u) ∧
 (∀ u f cs,cV (.fn f cs) [] u=u) ∧
 (∀ (s:Nat) (es:List (List TV)) (st:St) (p:a8) (u:AV),
 cV (AV.own s es) (st::p) u =
  match AV.tv u with
  | some t=>AV.own s (List.modify es (St.i st) fun (x:List TV)=>List.modify x (St.j st) fun (x:TV)=>xQ x p t)
  | none=>AV.own s es) ∧
 (∀ cs st p u,cV (.box cs) (st::p) u=.box (List.modify cs (St.j st) fun (x:AV)=>cV x p u)) ∧
 (∀ u,kK .undef [] u=true) ∧
 (∀ u b,kK (.bool b) [] u=true) ∧
 (∀ u k n,kK (.int k n) [] u=true) ∧
 (∀ u s,kK (.str s) [] u=true) ∧
 (∀ u s es,kK (.own s es) [] u=true) ∧
 (∀ u s es,kK (.ext s es) [] u=true) ∧
 (∀ u v s es,kK (.extv v s es) [] u=true) ∧
 (∀ u cs,kK (.box cs) [] u=true) ∧
 (∀ u cs,kK (.xbox cs) [] u=true) ∧
 (∀ u cs,kK (.agg cs) [] u=true) ∧
 (∀ u cs,kK (.tup cs) [] u=true) ∧
 (∀ u r e p,kK (.lnk r e p) [] u=true) ∧
 (∀ u r e p s lo n,kK (.sub r e p s lo n) [] u=true) ∧
 (∀ u r e p st,kK (.ref r e p st) [] u=true) ∧
 (∀ u f cs,kK (.fn f cs) [] u=true) ∧
 (∀ s es st p u,kK (.own s es) (st::p) u=Option.isSome (AV.tv u)) ∧
 (∀ (cs:List AV) (st:St) (p:a8) (u:AV),
 kK (AV.box cs) (st::p) u =
  match cs[St.j st]? with
  | some a=>kK a p u
  | none=>false) ∧
 (∀ (t:TV),jK t []=some t) ∧
 (∀ (s:Nat) (es:List (List TV)) (st:St) (p:a8),jK (.sl s es) (st::p)=if St.s st=s then Option.bind (Option.bind es[St.i st]? fun (x:List TV)=>x[St.j st]?) fun (x:TV)=>jK x p else none) ∧
 (∀ (t u:TV),xQ t [] u=u) ∧
 (∀ (s:Nat) (es:List (List TV)) (st:St) (p:a8) (u:TV),xQ (.sl s es) (st::p) u=.sl s (List.modify es (St.i st) fun (x:List TV)=>List.modify x (St.j st) fun (x:TV)=>xQ x p u)) ∧
 (∀ E,mvP E [] []=some ([],E)) ∧
 (∀ E ms x xs,mvP E (.m::ms) (x::xs)=(dT E x).bind fun g=>(mvP g.2 ms xs).map fun y=>(some g.1::y.1,y.2)) ∧
 (∀ E ms x xs,mvP E (.p::ms) (x::xs)=(dT E x).bind fun g=>(mvP g.2 ms xs).map fun y=>(some g.1::y.1,y.2)) ∧
 (∀ E ms x xs,mvP E (.b::ms) (x::xs)=(mvP E ms xs).map fun y=>(none::y.1,y.2)) ∧
 (∀ E ms x xs,mvP E (.l::ms) (x::xs)=(mvP E ms xs).map fun y=>(none::y.1,y.2)) ∧
 (∀ E ms x xs,eK E (.l::ms) (x::xs)=cC E (val E x)) ∧
 (∀ E ms x xs,eK E (.b::ms) (x::xs)=eK E ms xs) ∧
 (∀ E ms x xs,eK E (.m::ms) (x::xs)=eK E ms xs) ∧
 (∀ E ms x xs,eK E (.p::ms) (x::xs)=eK E ms xs) ∧
 (∀ (n:Nat),isT (.t n) none=false) ∧
 (∀ (n r:Nat) (p:a8) (a:AV),isT (.t n) (some (r,p,a))=(n == r)) ∧
 (∀ (a:AV) (q:Option (Nat × a8 × AV)),isT (.c a) q=false) ∧
 (∀ E ln,fE E ln [] [] []=some []) ∧
 (∀ E ln ms x xs a mv,fE E ln (.m::ms) (x::xs) (some a::mv)=(fE E ln ms xs mv).map (a::·)) ∧
 (∀ E ln ms x xs a mv,fE E ln (.p::ms) (x::xs) (some a::mv)=(fE E ln ms xs mv).map (a::·)) ∧
 (∀ E r p a ms x xs q mv,fE E (some (r,p,a)) (.l::ms) (x::xs) (q::mv)=(fE E (some (r,p,a)) ms xs mv).map (a::·)) ∧
 (∀ E ln ms x xs q mv,fE E ln (.b::ms) (x::xs) (q::mv)=(if isT x ln then none else (brw E (ln.map (·.1)) (val E x)).bind fun a=>(fE E ln ms xs mv).map (a::·))) ∧
 (cX []=none) ∧
 (∀ (ms:List M),cX (.l::ms)=(if ms.any (fun | .l=>true | _=>false) then none else some 0)) ∧
 (∀ (ms:List M),cX (.b::ms)=(cX ms).map (· + 1)) ∧
 (∀ (ms:List M),cX (.m::ms)=(cX ms).map (· + 1)) ∧
 (∀ (ms:List M),cX (.p::ms)=(cX ms).map (· + 1)) ∧
 (noL []=true) ∧
 (∀ (ms:List M),noL (.b::ms)=noL ms) ∧
 (∀ (ms:List M),noL (.m::ms)=noL ms) ∧
 (∀ (ms:List M),noL (.p::ms)=noL ms) ∧
 (∀ (ms:List M),noL (.l::ms)=false) ∧
 (∀ E ms xs,xR E ms xs=Option.bind (mvP E ms xs) fun (mv:List (Option AV) × Env)=>if noL ms=true then Option.bind (fE (Prod.snd mv) none ms xs (Prod.fst mv)) fun (as:List AV)=>if dC as=true then some (as,Prod.snd mv,none) else none else Option.bind (cX ms) fun (k:Nat)=>Option.bind (eK (Prod.snd mv) ms xs) fun (ln:Nat × a8 × AV)=>Option.bind (fE (Prod.snd mv) (some ln) ms xs (Prod.fst mv)) fun (as:List AV)=>if dC as=true then some (as,Prod.snd mv,some (k,Prod.fst ln,Prod.fst (Prod.snd ln))) else none) ∧
 (∀ E k r p outs,xU E (some (k,r,p)) outs=Option.bind outs[k]? fun (o:AV)=>if kK (Env.f E r) p o=true∧AV.isRoot o=true then some (Env.upd E r (cV (Env.f E r) p o)) else none) ∧
 (∀ E pls outs,mU E none pls outs=(if pls.all (fun q=>isU (cA (E.f q.2.2.1) q.2.2.2))=true then m7 E outs pls else none)) ∧
 (∀ E q pls outs,mU E (some q) pls outs=xU E (some q) outs) ∧
 (∀ E os,m7 E os []=some E) ∧
 (∀ E os k j r p l,m7 E os ((k,j,r,p)::l)=(xV os k j).bind fun g=>if isU (cA (E.f r) p)=true∧g.1.isRoot=true∧kK (E.f r) p g.1=true then m7 (xS E r p g.1) g.2 l else none) ∧
 (∀ (os:List AV) (k:Nat),xV os k none=(os[k]?).map fun u=>(u,os.set k .undef)) ∧
 (∀ (os:List AV) (k j:Nat),
 xV os k (some j) =
  match os[k]? with
  | some (AV.agg cs)=>Option.map (fun (u:AV)=>(u,List.set os k (AV.agg (List.set cs j AV.undef)))) cs[j]?
  | x=>none) ∧
 (∀ E r p u,xS E r p u=(if p.isEmpty then E.put r u else E.upd r (cV (E.f r) p u))) ∧
 (isU (some .undef)=true) ∧
 (∀ b,isU (some (.bool b))=false) ∧
 (∀ k n,isU (some (.int k n))=false) ∧
 (∀ s,isU (some (.str s))=false) ∧
 (∀ s es,isU (some (.own s es))=false) ∧
 (∀ s es,isU (some (.ext s es))=false) ∧
 (∀ v s es,isU (some (.extv v s es))=false) ∧
 (∀ cs,isU (some (.box cs))=false) ∧
 (∀ cs,isU (some (.xbox cs))=false) ∧
 (∀ cs,isU (some (.agg cs))=false) ∧
 (∀ cs,isU (some (.tup cs))=false) ∧
 (∀ r e p,isU (some (.lnk r e p))=false) ∧
 (∀ r e p s lo n,isU (some (.sub r e p s lo n))=false) ∧
 (∀ r e p st,isU (some (.ref r e p st))=false) ∧
 (∀ f cs,isU (some (.fn f cs))=false) ∧
 (∀ E k j,gZ E k j []=[]) ∧
 (∀ E k0 j0 l,gZ E k0 j0 ((.undef )::l)=gZ E k0 (j0+1) l) ∧
 (∀ E k0 j0 l b,gZ E k0 j0 ((.bool b)::l)=gZ E k0 (j0+1) l) ∧
 (∀ E k0 j0 l k n,gZ E k0 j0 ((.int k n)::l)=gZ E k0 (j0+1) l) ∧
 (∀ E k0 j0 l s,gZ E k0 j0 ((.str s)::l)=gZ E k0 (j0+1) l) ∧
 (∀ E k0 j0 l s es,gZ E k0 j0 ((.own s es)::l)=gZ E k0 (j0+1) l) ∧
 (∀ E k0 j0 l s es,gZ E k0 j0 ((.ext s es)::l)=gZ E k0 (j0+1) l) ∧
 (∀ E k0 j0 l v s es,gZ E k0 j0 ((.extv v s es)::l)=gZ E k0 (j0+1) l) ∧
 (∀ E k0 j0 l cs,gZ E k0 j0 ((.box cs)::l)=gZ E k0 (j0+1) l) ∧
 (∀ E k0 j0 l cs,gZ E k0 j0 ((.xbox cs)::l)=gZ E k0 (j0+1) l) ∧
 (∀ E k0 j0 l cs,gZ E k0 j0 ((.agg cs)::l)=gZ E k0 (j0+1) l) ∧
 (∀ E k0 j0 l cs,gZ E k0 j0 ((.tup cs)::l)=gZ E k0 (j0+1) l) ∧
 (∀ E k0 j0 l r e p,gZ E k0 j0 ((.lnk r e p)::l)=(if (aK E r e p).isSome then (k0,some j0,r,p)::gZ E k0 (j0+1) l else gZ E k0 (j0+1) l)) ∧
 (∀ E k0 j0 l r e p s lo n,gZ E k0 j0 ((.sub r e p s lo n)::l)=gZ E k0 (j0+1) l) ∧
 (∀ E k0 j0 l r e p st,gZ E k0 j0 ((.ref r e p st)::l)=gZ E k0 (j0+1) l) ∧
 (∀ E k0 j0 l f cs,gZ E k0 j0 ((.fn f cs)::l)=gZ E k0 (j0+1) l) ∧
 (∀ E k0,qI E k0 .undef=[]) ∧
 (∀ E k0 b,qI E k0 (.bool b)=[]) ∧
 (∀ E k0 k n,qI E k0 (.int k n)=[]) ∧
 (∀ E k0 s,qI E k0 (.str s)=[]) ∧
 (∀ E k0 s es,qI E k0 (.own s es)=[]) ∧
 (∀ E k0 s es,qI E k0 (.ext s es)=[]) ∧
 (∀ E k0 v s es,qI E k0 (.extv v s es)=[]) ∧
 (∀ E k0 cs,qI E k0 (.box cs)=[]) ∧
 (∀ E k0 cs,qI E k0 (.xbox cs)=[]) ∧
 (∀ E k0 cs,qI E k0 (.agg cs)=gZ E k0 0 cs) ∧
 (∀ E k0 cs,qI E k0 (.tup cs)=[]) ∧
 (∀ E k0 r e p,qI E k0 (.lnk r e p)=if Option.isSome (aK E r e p)=true then [(k0,none,r,p)] else []) ∧
 (∀ E k0 r e p s lo n,qI E k0 (.sub r e p s lo n)=[]) ∧
 (∀ E k0 r e p st,qI E k0 (.ref r e p st)=[]) ∧
 (∀ E k0 f cs,qI E k0 (.fn f cs)=[]) ∧
 (∀ E k,jM E k [] []=[]) ∧
 (∀ E k ms x xs,jM E k (.p::ms) (x::xs)=qI E k (val E x)++jM E (k+1) ms xs) ∧
 (∀ E k ms x xs,jM E k (.b::ms) (x::xs)=jM E (k+1) ms xs) ∧
 (∀ E k ms x xs,jM E k (.l::ms) (x::xs)=jM E (k+1) ms xs) ∧
 (∀ E k ms x xs,jM E k (.m::ms) (x::xs)=jM E (k+1) ms xs) ∧
 (mT .undef=false) ∧
 (∀ b,mT (.bool b)=false) ∧
 (∀ k n,mT (.int k n)=false) ∧
 (∀ s,mT (.str s)=false) ∧
 (∀ s es,mT (.own s es)=false) ∧
 (∀ s es,mT (.ext s es)=false) ∧
 (∀ v s es,mT (.extv v s es)=false) ∧
 (∀ cs,mT (.box cs)=false) ∧
 (∀ cs,mT (.xbox cs)=false) ∧
 (∀ cs,mT (.agg cs)=fK cs) ∧
 (∀ cs,mT (.tup cs)=false) ∧
 (∀ r e p,mT (.lnk r e p)=false) ∧
 (∀ r e p s lo n,mT (.sub r e p s lo n)=false) ∧
 (∀ r e p st,mT (.ref r e p st)=false) ∧
 (∀ f cs,mT (.fn f cs)=false) ∧
 (fK []=true) ∧
 (∀ l,fK ((.undef )::l)=false) ∧
 (∀ l b,fK ((.bool b)::l)=fK l) ∧
 (∀ l k n,fK ((.int k n)::l)=fK l) ∧
 (∀ l s,fK ((.str s)::l)=fK l) ∧
 (∀ l s es,fK ((.own s es)::l)=false) ∧
 (∀ l s es,fK ((.ext s es)::l)=false) ∧
 (∀ l v s es,fK ((.extv v s es)::l)=false) ∧
 (∀ l cs,fK ((.box cs)::l)=false) ∧
 (∀ l cs,fK ((.xbox cs)::l)=false) ∧
 (∀ l cs,fK ((.agg cs)::l)=false) ∧
 (∀ l cs,fK ((.tup cs)::l)=false) ∧
 (∀ l r e p,fK ((.lnk r e p)::l)=(decide (1000≤r) && decide (r<2000) && fK l)) ∧
 (∀ l r e p s lo n,fK ((.sub r e p s lo n)::l)=false) ∧
 (∀ l r e p st,fK ((.ref r e p st)::l)=false) ∧
 (∀ l f cs,fK ((.fn f cs)::l)=false) ∧
 (∀ E,fS E [] []=true) ∧
 (∀ E ms x xs,fS E (.b::ms) (x::xs)=(jG (val E x) && fS E ms xs)) ∧
 (∀ E ms x xs,fS E (.l::ms) (x::xs)=fS E ms xs) ∧
 (∀ E ms x xs,fS E (.m::ms) (x::xs)=fS E ms xs) ∧
 (∀ E ms x xs,fS E (.p::ms) (x::xs)=fS E ms xs) ∧
 (∀ (f:Nat) (xs:List O),g8 [] f xs=xs.map fun _=>M.b) ∧
 (∀ (g f:Nat) (ms:List M) (bl:List (Nat × Nat)) (l:fP) (xs:List O),g8 ((g,ms,bl)::l) f xs=(if g=f then ms else g8 l f xs)) ∧
 (∀ E,ac9 E []=some ([],E)) ∧
 (∀ E t l,ac9 E (t::l)=Option.bind (akQ E t) fun (g:AV × Env)=>Option.map (fun (y:List AV × Env)=>(Prod.fst g::Prod.fst y,Prod.snd y)) (ac9 (Prod.snd g) l)) ∧
 (∀ E t,
 akQ E (RV.t t) =
  match gT E (Env.f E t) with
  | some g=>some g
  | none=>dT E (O.t t)) ∧
 (∀ E t sz ag,
 akQ E (RV.c t sz ag) =
  Option.bind (gT E (Env.f E t)) fun (g:AV × Env)=>
   match Prod.fst g with
   | AV.box cs=>if List.length cs=sz then Option.map (fun (x:AV)=>(x,Prod.snd g)) (oneOf cs ag) else none
   | x=>none) ∧
 (∀ (x:AV),abm [x]=x) ∧
 (abm []=.tup []) ∧
 (∀ x y l,abm (x::y::l)=.tup (x::y::l)) ∧
 (∀ E k bs,dN E k bs []=[]) ∧
 (∀ E k x xs,dN E k [] (x::xs)=.undef::dN E (k+1) [] xs) ∧
 (∀ E k bs x xs,dN E k (false::bs) (x::xs)=.undef::dN E (k+1) bs xs) ∧
 (∀ E k bs cs xs,dN E k (true::bs) (.agg cs::xs)=.agg (cP E k 0 cs)::dN E (k+1) bs xs) ∧
 (∀ E k bs cs xs,dN E k (true::bs) (.box cs::xs)=E.f (1000+k)::dN E (k+1) bs xs) ∧
 (∀ E k s es bs xs,dN E k (true::bs) (.own s es::xs)=E.f (1000+k)::dN E (k+1) bs xs) ∧
 (∀ E k j,cP E k j []=[]) ∧
 (∀ (k j:Nat),b0 k j []=[]) ∧
 (∀ (k j:Nat),dZ k j []=[]) ∧
 (∀ (k j:Nat),rt k j=1000+(32*(j+1)+k)) ∧
 (∀ E k0 j0 l,cP E k0 j0 ((.undef )::l)=.undef::cP E k0 (j0+1) l) ∧
 (∀ k0 j0 l,dZ k0 j0 ((.undef )::l)=.undef::dZ k0 (j0+1) l) ∧
 (∀ k0 j0 l,b0 k0 j0 ((.undef )::l)=b0 k0 (j0+1) l) ∧
 (∀ E k0 j0 l b,cP E k0 j0 ((.bool b)::l)=(.bool b)::cP E k0 (j0+1) l) ∧
 (∀ k0 j0 l b,dZ k0 j0 ((.bool b)::l)=(.bool b)::dZ k0 (j0+1) l) ∧
 (∀ k0 j0 l b,b0 k0 j0 ((.bool b)::l)=b0 k0 (j0+1) l) ∧
 (∀ E k0 j0 l k n,cP E k0 j0 ((.int k n)::l)=(.int k n)::cP E k0 (j0+1) l) ∧
 (∀ k0 j0 l k n,dZ k0 j0 ((.int k n)::l)=(.int k n)::dZ k0 (j0+1) l) ∧
 (∀ k0 j0 l k n,b0 k0 j0 ((.int k n)::l)=b0 k0 (j0+1) l) ∧
 (∀ E k0 j0 l s,cP E k0 j0 ((.str s)::l)=(.str s)::cP E k0 (j0+1) l) ∧
 (∀ k0 j0 l s,dZ k0 j0 ((.str s)::l)=(.str s)::dZ k0 (j0+1) l) ∧
 (∀ k0 j0 l s,b0 k0 j0 ((.str s)::l)=b0 k0 (j0+1) l) ∧
 (∀ E k0 j0 l s es,cP E k0 j0 ((.own s es)::l)=E.f (rt k0 j0)::cP E k0 (j0+1) l) ∧
 (∀ k0 j0 l s es,dZ k0 j0 ((.own s es)::l)=.lnk (rt k0 j0) 0 []::dZ k0 (j0+1) l) ∧
 (∀ k0 j0 l s es,b0 k0 j0 ((.own s es)::l)=(rt k0 j0,(.own s es))::b0 k0 (j0+1) l) ∧
 (∀ E k0 j0 l s es,cP E k0 j0 ((.ext s es)::l)=.undef::cP E k0 (j0+1) l) ∧
 (∀ k0 j0 l s es,dZ k0 j0 ((.ext s es)::l)=.undef::dZ k0 (j0+1) l) ∧
 (∀ k0 j0 l s es,b0 k0 j0 ((.ext s es)::l)=b0 k0 (j0+1) l) ∧
 (∀ E k0 j0 l v s es,cP E k0 j0 ((.extv v s es)::l)=.undef::cP E k0 (j0+1) l) ∧
 (∀ k0 j0 l v s es,dZ k0 j0 ((.extv v s es)::l)=.undef::dZ k0 (j0+1) l) ∧
 (∀ k0 j0 l v s es,b0 k0 j0 ((.extv v s es)::l)=b0 k0 (j0+1) l) ∧
 (∀ E k0 j0 l cs,cP E k0 j0 ((.box cs)::l)=.undef::cP E k0 (j0+1) l) ∧
 (∀ k0 j0 l cs,dZ k0 j0 ((.box cs)::l)=.undef::dZ k0 (j0+1) l) ∧
 (∀ k0 j0 l cs,b0 k0 j0 ((.box cs)::l)=b0 k0 (j0+1) l) ∧
 (∀ E k0 j0 l cs,cP E k0 j0 ((.xbox cs)::l)=.undef::cP E k0 (j0+1) l) ∧
 (∀ k0 j0 l cs,dZ k0 j0 ((.xbox cs)::l)=.undef::dZ k0 (j0+1) l) ∧
 (∀ k0 j0 l cs,b0 k0 j0 ((.xbox cs)::l)=b0 k0 (j0+1) l) ∧
 (∀ E k0 j0 l cs,cP E k0 j0 ((.agg cs)::l)=.undef::cP E k0 (j0+1) l) ∧
 (∀ k0 j0 l cs,dZ k0 j0 ((.agg cs)::l)=.undef::dZ k0 (j0+1) l) ∧
 (∀ k0 j0 l cs,b0 k0 j0 ((.agg cs)::l)=b0 k0 (j0+1) l) ∧
 (∀ E k0 j0 l cs,cP E k0 j0 ((.tup cs)::l)=.undef::cP E k0 (j0+1) l) ∧
 (∀ k0 j0 l cs,dZ k0 j0 ((.tup cs)::l)=.undef::dZ k0 (j0+1) l) ∧
 (∀ k0 j0 l cs,b0 k0 j0 ((.tup cs)::l)=b0 k0 (j0+1) l) ∧
 (∀ E k0 j0 l r e p,cP E k0 j0 ((.lnk r e p)::l)=.undef::cP E k0 (j0+1) l) ∧
 (∀ k0 j0 l r e p,dZ k0 j0 ((.lnk r e p)::l)=.undef::dZ k0 (j0+1) l) ∧
 (∀ k0 j0 l r e p,b0 k0 j0 ((.lnk r e p)::l)=b0 k0 (j0+1) l) ∧
 (∀ E k0 j0 l r e p s lo n,cP E k0 j0 ((.sub r e p s lo n)::l)=.undef::cP E k0 (j0+1) l) ∧
 (∀ k0 j0 l r e p s lo n,dZ k0 j0 ((.sub r e p s lo n)::l)=.undef::dZ k0 (j0+1) l) ∧
 (∀ k0 j0 l r e p s lo n,b0 k0 j0 ((.sub r e p s lo n)::l)=b0 k0 (j0+1) l) ∧
 (∀ E k0 j0 l r e p st,cP E k0 j0 ((.ref r e p st)::l)=.undef::cP E k0 (j0+1) l) ∧
 (∀ k0 j0 l r e p st,dZ k0 j0 ((.ref r e p st)::l)=.undef::dZ k0 (j0+1) l) ∧
 (∀ k0 j0 l r e p st,b0 k0 j0 ((.ref r e p st)::l)=b0 k0 (j0+1) l) ∧
 (∀ E k0 j0 l f cs,cP E k0 j0 ((.fn f cs)::l)=.undef::cP E k0 (j0+1) l) ∧
 (∀ k0 j0 l f cs,dZ k0 j0 ((.fn f cs)::l)=.undef::dZ k0 (j0+1) l) ∧
 (∀ k0 j0 l f cs,b0 k0 j0 ((.fn f cs)::l)=b0 k0 (j0+1) l) ∧
 (∀ rs bs m ret outs E,abn rs bs m ret outs E=onO (ac9 E rs) fun (q:List AV × Env)=>abm (Prod.fst q)=ret∧dN (Prod.snd q) 0 bs m=outs∧dC (ret::outs)=true) ∧
 (∀ (k:Nat) (bs:List Bool),bH k bs []=[]):=by
 and_intros <;> intros <;> first | rfl | (cases ‹List Bool› <;> rfl) | exact abw _ _ _ | exact abx _ _ _ | exact aby _ _ | exact abz _ _ | exact alS | exact ag0 | exact ag1 | exact alT | exact y7 | exact agZ | exact abs | exact abt | exact afN _ _ | exact aaX _ _ | exact qK _ | exact aaW | exact abu _ _ _ _ _ _ | exact abv _ _ _ _ _ _ | exact wZ _ _ _ _ _ _ | exact w9 _ _ _ _ | (split <;> rfl) | (cases ‹Bool› <;> rfl) | (simp; done) | (simp only [ev]; cases val _ _ <;> rfl) | (simp [jL,afE,adR,akI,beq_eq_decide,bne]; done) | simp [jL,afE,adR,eqC,Fin,wX,T,aG,I.opds,I.der,I.dsts,aaT,CF,GF,HF]
theorem S3 :
 (∀ (k:Nat) (x:AV) (xs:List AV),bH k [] (x::xs)=(k,x)::bH (k+1) [] xs) ∧
 (∀ (k:Nat) (bs:List Bool) (x:AV) (xs:List AV),bH k (false::bs) (x::xs)=(k,x)::bH (k+1) bs xs) ∧
 (∀ (k:Nat) (bs:List Bool) (cs:List AV) (xs:List AV),bH k (true::bs) (.agg cs::xs)=b0 k 0 cs++bH (k+1) bs xs) ∧
 (∀ (k:Nat) (bs:List Bool) (cs:List AV) (xs:List AV),bH k (true::bs) (.box cs::xs)=(1000+k,.box cs)::bH (k+1) bs xs) ∧
 (∀ (k s:Nat) (es:List (List TV)) (bs:List Bool) (xs:List AV),bH k (true::bs) (.own s es::xs)=(1000+k,.own s es)::bH (k+1) bs xs) ∧
 (∀ (k:Nat) (bs:List Bool),dG k bs []=[]) ∧
 (∀ (k:Nat) (x:AV) (xs:List AV),dG k [] (x::xs)=[]) ∧
 (∀ (k:Nat) (bs:List Bool) (x:AV) (xs:List AV),dG k (false::bs) (x::xs)=dG (k+1) bs xs) ∧
 (∀ (k:Nat) (bs:List Bool) (x:AV) (xs:List AV),dG k (true::bs) (x::xs)=(k,jS k x)::dG (k+1) bs xs) ∧
 (∀ k0,jS k0 .undef=.lnk (1000+k0) 0 []) ∧
 (∀ k0 b,jS k0 (.bool b)=.lnk (1000+k0) 0 []) ∧
 (∀ k0 k n,jS k0 (.int k n)=.lnk (1000+k0) 0 []) ∧
 (∀ k0 s,jS k0 (.str s)=.lnk (1000+k0) 0 []) ∧
 (∀ k0 s es,jS k0 (.own s es)=.lnk (1000+k0) 0 []) ∧
 (∀ k0 s es,jS k0 (.ext s es)=.lnk (1000+k0) 0 []) ∧
 (∀ k0 v s es,jS k0 (.extv v s es)=.lnk (1000+k0) 0 []) ∧
 (∀ k0 cs,jS k0 (.box cs)=.ref (1000+k0) 0 [] (St.mk 0 0 0)) ∧
 (∀ k0 cs,jS k0 (.xbox cs)=.lnk (1000+k0) 0 []) ∧
 (∀ k0 cs,jS k0 (.agg cs)=.agg (dZ k0 0 cs)) ∧
 (∀ k0 cs,jS k0 (.tup cs)=.lnk (1000+k0) 0 []) ∧
 (∀ k0 r e p,jS k0 (.lnk r e p)=.lnk (1000+k0) 0 []) ∧
 (∀ k0 r e p s lo n,jS k0 (.sub r e p s lo n)=.lnk (1000+k0) 0 []) ∧
 (∀ k0 r e p st,jS k0 (.ref r e p st)=.lnk (1000+k0) 0 []) ∧
 (∀ k0 f cs,jS k0 (.fn f cs)=.lnk (1000+k0) 0 []) ∧
 (∀ E d a,ev E (I.mov d (O.c a))=some (Env.put E d a)) ∧
 (∀ w d0 is st E d a,G w (GI.mk none d0 (.mov d (.c a))::is) st E=X w is st (ev E (.mov d (.c a)))) ∧
 (∀ w t0 bs acc is st E d a,H1 w t0 bs acc (.mov d (.c a)) is st E=XH w bs (acc++[(t0++aG E (.mov d (.c a)),wrI E [] (.mov d (.c a)))]) is st (ev E (.mov d (.c a)))) ∧
 (∀ E d a,aG E (I.mov d (O.c a))=O.tmp (O.c a)++[d]) ∧
 (∀ E ms d a,
 wrI E ms (I.mov d (O.c a)) =
  match val E (O.c a) with
  | AV.own s es=>[d]
  | AV.box cs=>[d]
  | x=>d::pW E (O.c a)) ∧
 (∀ E d n,
 ev E (I.mov d (O.t n)) =
  match Env.f E n with
  | AV.own s es=>if d=n then none else some (Env.put E d (AV.lnk n (Prod.fst (Env.ep E n)) []))
  | AV.box cs=>if d=n then none else some (Env.put E d (AV.ref n (Prod.fst (Env.ep E n)) [] (St.mk 0 0 0)))
  | a=>if AV.owns a=true then some (Env.put (Env.put E n AV.undef) d a) else some (Env.put E d a)) ∧
 (∀ w d0 is st E d n,G w (GI.mk none d0 (.mov d (.t n))::is) st E=X w is st (ev E (.mov d (.t n)))) ∧
 (∀ w t0 bs acc is st E d n,H1 w t0 bs acc (.mov d (.t n)) is st E=XH w bs (acc++[(t0++aG E (.mov d (.t n)),wrI E [] (.mov d (.t n)))]) is st (ev E (.mov d (.t n)))) ∧
 (∀ E d n,aG E (I.mov d (O.t n))=O.tmp (O.t n)++[d]) ∧
 (∀ E ms d n,
 wrI E ms (I.mov d (O.t n)) =
  match val E (O.t n) with
  | AV.own s es=>[d]
  | AV.box cs=>[d]
  | x=>d::pW E (O.t n)) ∧
 (∀ E d x,
 ev E (I.asg d x) =
  match val E x with
  | AV.sub r e p s lo n=>if r=d∧List.isEmpty p=true then Option.map (fun (g:AV × Env)=>Env.put (Prod.snd g) d (Prod.fst g)) (bL E (AV.sub r e p s lo n)) else some (Env.put E d (AV.sub r e p s lo n))
  | x_1=>some (Env.put (Prod.snd (fD E x)) d (Prod.fst (fD E x)))) ∧
 (∀ w d0 is st E d x,G w (GI.mk none d0 (.asg d x)::is) st E=X w is st (ev E (.asg d x))) ∧
 (∀ w t0 bs acc is st E d x,H1 w t0 bs acc (.asg d x) is st E=XH w bs (acc++[(t0++aG E (.asg d x),wrI E [] (.asg d x))]) is st (ev E (.asg d x))) ∧
 (∀ E d x,aG E (I.asg d x)=O.tmp x++[d]) ∧
 (∀ E ms d x,wrI E ms (I.asg d x)=d::pW E x) ∧
 (∀ E d x,
 ev E (I.mrk d x) =
  match val E x with
  | AV.own s es=>if s=1∧List.length es≠0 then some (Env.put (Prod.snd (fD E x)) d (Prod.fst (fD E x))) else none
  | x_1=>none) ∧
 (∀ w d0 is st E d x,G w (GI.mk none d0 (.mrk d x)::is) st E=X w is st (ev E (.mrk d x))) ∧
 (∀ w t0 bs acc is st E d x,H1 w t0 bs acc (.mrk d x) is st E=XH w bs (acc++[(t0++aG E (.mrk d x),wrI E [] (.mrk d x))]) is st (ev E (.mrk d x))) ∧
 (∀ E d x,aG E (I.mrk d x)=O.tmp x++[d]) ∧
 (∀ E ms d x,wrI E ms (I.mrk d x)=d::pW E x) ∧
 (∀ E d op x y,ev E (I.bin d op x y)=Option.map (fun (x:AV)=>Env.put E d x) (jL op (val E x) (val E y))) ∧
 (∀ w d0 is st E d op x y,G w (GI.mk none d0 (.bin d op x y)::is) st E=X w is st (ev E (.bin d op x y))) ∧
 (∀ w t0 bs acc is st E d op x y,H1 w t0 bs acc (.bin d op x y) is st E=XH w bs (acc++[(t0++aG E (.bin d op x y),wrI E [] (.bin d op x y))]) is st (ev E (.bin d op x y))) ∧
 (∀ E d op x y,aG E (I.bin d op x y)=O.tmp x++(O.tmp y++[d])) ∧
 (∀ E ms d op x y,wrI E ms (I.bin d op x y)=[d]) ∧
 (∀ E d neg x y,
 ev E (I.beq d neg x y) =
  match val E x,val E y with
  | AV.bool a,AV.bool b=>some (Env.put E d (AV.bool (if neg=true then !a == b else a == b)))
  | x,x_1=>none) ∧
 (∀ w d0 is st E d neg x y,G w (GI.mk none d0 (.beq d neg x y)::is) st E=X w is st (ev E (.beq d neg x y))) ∧
 (∀ w t0 bs acc is st E d neg x y,H1 w t0 bs acc (.beq d neg x y) is st E=XH w bs (acc++[(t0++aG E (.beq d neg x y),wrI E [] (.beq d neg x y))]) is st (ev E (.beq d neg x y))) ∧
 (∀ E d neg x y,aG E (I.beq d neg x y)=O.tmp x++(O.tmp y++[d])) ∧
 (∀ E ms d neg x y,wrI E ms (I.beq d neg x y)=[d]) ∧
 (∀ E d neg ks x y,
 ev E (I.eqs d neg ks x y) =
  match val E x,val E y with
  | AV.agg a,AV.agg b=>Option.map (fun (r:Bool)=>Env.put E d (AV.bool (if neg=true then !r else r))) (eqC ks a b)
  | x,x_1=>none) ∧
 (∀ w d0 is st E d neg ks x y,G w (GI.mk none d0 (.eqs d neg ks x y)::is) st E=X w is st (ev E (.eqs d neg ks x y))) ∧
 (∀ w t0 bs acc is st E d neg ks x y,H1 w t0 bs acc (.eqs d neg ks x y) is st E=XH w bs (acc++[(t0++aG E (.eqs d neg ks x y),wrI E [] (.eqs d neg ks x y))]) is st (ev E (.eqs d neg ks x y))) ∧
 (∀ E d neg ks x y,aG E (I.eqs d neg ks x y)=O.tmp x++(O.tmp y++[d])) ∧
 (∀ E ms d neg ks x y,wrI E ms (I.eqs d neg ks x y)=[d]) ∧
 (∀ w d0 is st E d neg x y,G w (GI.mk none d0 (.isn d neg x y)::is) st E=X w is st (ev E (.isn d neg x y))) ∧
 (∀ w t0 bs acc is st E d neg x y,H1 w t0 bs acc (.isn d neg x y) is st E=XH w bs (acc++[(t0++aG E (.isn d neg x y),wrI E [] (.isn d neg x y))]) is st (ev E (.isn d neg x y))) ∧
 (∀ E d neg x y,aG E (I.isn d neg x y)=O.tmp x++(O.tmp y++[d])) ∧
 (∀ E ms d neg x y,wrI E ms (I.isn d neg x y)=[d]) ∧
 (∀ E d op x,ev E (I.un d op x)=Option.map (fun (x:AV)=>Env.put E d x) (unV op (val E x))) ∧
 (∀ w d0 is st E d op x,G w (GI.mk none d0 (.un d op x)::is) st E=X w is st (ev E (.un d op x))) ∧
 (∀ w t0 bs acc is st E d op x,H1 w t0 bs acc (.un d op x) is st E=XH w bs (acc++[(t0++aG E (.un d op x),wrI E [] (.un d op x))]) is st (ev E (.un d op x))) ∧
 (∀ E d op x,aG E (I.un d op x)=O.tmp x++[d]) ∧
 (∀ E ms d op x,wrI E ms (I.un d op x)=[d]) ∧
 (∀ E d k x,
 ev E (I.conv d k x) =
  match val E x with
  | AV.int k_1 n=>some (Env.put E d (AV.int k (IntKind.wrap k n)))
  | x=>none) ∧
 (∀ w d0 is st E d k x,G w (GI.mk none d0 (.conv d k x)::is) st E=X w is st (ev E (.conv d k x))) ∧
 (∀ w t0 bs acc is st E d k x,H1 w t0 bs acc (.conv d k x) is st E=XH w bs (acc++[(t0++aG E (.conv d k x),wrI E [] (.conv d k x))]) is st (ev E (.conv d k x))) ∧
 (∀ E d k x,aG E (I.conv d k x)=O.tmp x++[d]) ∧
 (∀ E ms d k x,wrI E ms (I.conv d k x)=[d]) ∧
 (∀ E d x,
 ev E (I.s2b d x) =
  match val E x with
  | AV.str s=>some (Env.put E d (AV.own 1 (aM s)))
  | x=>none) ∧
 (∀ w d0 is st E d x,G w (GI.mk none d0 (.s2b d x)::is) st E=X w is st (ev E (.s2b d x))) ∧
 (∀ w t0 bs acc is st E d x,H1 w t0 bs acc (.s2b d x) is st E=XH w bs (acc++[(t0++aG E (.s2b d x),wrI E [] (.s2b d x))]) is st (ev E (.s2b d x))) ∧
 (∀ E d x,aG E (I.s2b d x)=O.tmp x++[d]) ∧
 (∀ E ms d x,wrI E ms (I.s2b d x)=[d]) ∧
 (∀ E d x,ev E (I.b2s d x)=Option.bind (bA E (val E x)) fun (r:Nat × List (List TV))=>if Prod.fst r=1 then Option.map (fun (bs:List UInt8)=>Env.put E d (.str bs)) (dR (Prod.snd r)) else none) ∧
 (∀ w d0 is st E d x,G w (GI.mk none d0 (.b2s d x)::is) st E=X w is st (ev E (.b2s d x))) ∧
 (∀ w t0 bs acc is st E d x,H1 w t0 bs acc (.b2s d x) is st E=XH w bs (acc++[(t0++aG E (.b2s d x),wrI E [] (.b2s d x))]) is st (ev E (.b2s d x))) ∧
 (∀ E d x,aG E (I.b2s d x)=O.tmp x++d::lks (val E x)) ∧
 (∀ E ms d x,wrI E ms (I.b2s d x)=[d]) ∧
 (∀ E d x,ev E (I.len d x)=Option.map (fun (r:Nat × List (List TV))=>Env.put E d (.int .i64 ↑(List.length (Prod.snd r)))) (bA E (val E x))) ∧
 (∀ w d0 is st E d x,G w (GI.mk none d0 (.len d x)::is) st E=X w is st (ev E (.len d x))) ∧
 (∀ w t0 bs acc is st E d x,H1 w t0 bs acc (.len d x) is st E=XH w bs (acc++[(t0++aG E (.len d x),wrI E [] (.len d x))]) is st (ev E (.len d x))) ∧
 (∀ E d x,aG E (I.len d x)=O.tmp x++d::lks (val E x)) ∧
 (∀ E ms d x,wrI E ms (I.len d x)=[d]) ∧
 (∀ E d x,
 ev E (I.lens d x) =
  match val E x with
  | AV.str s=>some (Env.put E d (AV.int IntKind.i64 ↑(List.length s)))
  | x=>none) ∧
 (∀ w d0 is st E d x,G w (GI.mk none d0 (.lens d x)::is) st E=X w is st (ev E (.lens d x))) ∧
 (∀ w t0 bs acc is st E d x,H1 w t0 bs acc (.lens d x) is st E=XH w bs (acc++[(t0++aG E (.lens d x),wrI E [] (.lens d x))]) is st (ev E (.lens d x))) ∧
 (∀ E d x,aG E (I.lens d x)=O.tmp x++[d]) ∧
 (∀ E ms d x,wrI E ms (I.lens d x)=[d]) ∧
 (∀ E d x i s,
 ev E (I.idx d x i s) =
  match val E i with
  | AV.int k n=>
   match val E x with
   | AV.ext s' es=>if s'=s∧0≤n∧n<↑(List.length es) then Option.map (fun (row:List TV)=>Env.put E d (AV.xbox row)) es[Int.toNat n]? else none
   | AV.extv v s' es=>if s'=s∧0≤n∧n<↑(List.length es) then Option.map (fun (row:List TV)=>Env.put E d (AV.xbox row)) es[Int.toNat n]? else none
   | AV.lnk r e p=>Option.bind (aK E r e p) fun (y:Nat × List (List TV))=>if Prod.fst y=s∧0≤n∧n<↑(List.length (Prod.snd y)) then some (Env.put E d (AV.ref r e p (St.mk (Int.toNat n) s 0))) else none
   | AV.sub r e p s' lo m=>Option.bind (aK E r e p) fun (y:Nat × List (List TV))=>if Prod.fst y=s∧s'=s∧0≤n∧n<↑m∧lo+m≤List.length (Prod.snd y) then some (Env.put E d (AV.ref r e p (St.mk (lo+Int.toNat n) s 0))) else none
   | AV.own s' es=>
    match x with
    | O.t m=>if s'=s∧m≠d∧0≤n∧n<↑(List.length es) then some (Env.put E d (AV.ref m (Prod.fst (Env.ep E m)) [] (St.mk (Int.toNat n) s 0))) else none
    | x=>none
   | x=>none
  | x=>none) ∧
 (∀ w d0 is st E d x i s,G w (GI.mk none d0 (.idx d x i s)::is) st E=X w is st (ev E (.idx d x i s))) ∧
 (∀ w t0 bs acc is st E d x i s,H1 w t0 bs acc (.idx d x i s) is st E=XH w bs (acc++[(t0++aG E (.idx d x i s),wrI E [] (.idx d x i s))]) is st (ev E (.idx d x i s))) ∧
 (∀ E d x i s,aG E (I.idx d x i s)=O.tmp x++(O.tmp i++d::lks (val E x))) ∧
 (∀ E ms d x i s,wrI E ms (I.idx d x i s)=[d]) ∧
 (∀ E d x off,
 ev E (I.fld d x off) =
  match val E x with
  | AV.xbox cs=>if off≤List.length cs then some (Env.put E d (AV.xbox (List.drop off cs))) else none
  | AV.ref r e p st=>if vld E r e p=true then some (Env.put E d (AV.ref r e p (St.mk (St.i st) (St.s st) (St.j st+off)))) else none
  | x=>none) ∧
 (∀ w d0 is st E d x off,G w (GI.mk none d0 (.fld d x off)::is) st E=X w is st (ev E (.fld d x off))) ∧
 (∀ w t0 bs acc is st E d x off,H1 w t0 bs acc (.fld d x off) is st E=XH w bs (acc++[(t0++aG E (.fld d x off),wrI E [] (.fld d x off))]) is st (ev E (.fld d x off))) ∧
 (∀ E d x off,aG E (I.fld d x off)=O.tmp x++d::lks (val E x)) ∧
 (∀ E ms d x off,wrI E ms (I.fld d x off)=[d]) ∧
 (∀ E d x off sz ag,
 ev E (I.fldv d x off sz ag) =
  match fD E x with
  | (AV.agg cs,E1)=>if off+sz≤List.length cs then Option.map (fun (a:AV)=>Env.put E1 d a) (oneOf (List.take sz (List.drop off cs)) ag) else none
  | x=>none) ∧
 (∀ w d0 is st E d x off sz ag,G w (GI.mk none d0 (.fldv d x off sz ag)::is) st E=X w is st (ev E (.fldv d x off sz ag))) ∧
 (∀ w t0 bs acc is st E d x off sz ag,H1 w t0 bs acc (.fldv d x off sz ag) is st E=XH w bs (acc++[(t0++aG E (.fldv d x off sz ag),wrI E [] (.fldv d x off sz ag))]) is st (ev E (.fldv d x off sz ag))) ∧
 (∀ E d x off sz ag,aG E (I.fldv d x off sz ag)=O.tmp x++[d]) ∧
 (∀ E ms d x off sz ag,wrI E ms (I.fldv d x off sz ag)=d::pW E x) ∧
 (∀ E d x sz ag,
 ev E (I.ld d x sz ag) =
  match val E x with
  | AV.xbox cs=>if sz≤List.length cs then Option.map (fun (a:AV)=>Env.put E d a) (oneOf (List.map TV.xv (List.take sz cs)) ag) else none
  | AV.ref r e p st=>Option.bind (jF E r e p st sz) fun (cs:List AV)=>Option.bind (oneOf cs ag) fun (a:AV)=>if bS cs=false then some (Env.put E d a) else none
  | x=>none) ∧
 (∀ w d0 is st E d x sz ag,G w (GI.mk none d0 (.ld d x sz ag)::is) st E=X w is st (ev E (.ld d x sz ag))) ∧
 (∀ w t0 bs acc is st E d x sz ag,H1 w t0 bs acc (.ld d x sz ag) is st E=XH w bs (acc++[(t0++aG E (.ld d x sz ag),wrI E [] (.ld d x sz ag))]) is st (ev E (.ld d x sz ag))) ∧
 (∀ E d x sz ag,aG E (I.ld d x sz ag)=O.tmp x++d::lks (val E x)) ∧
 (∀ E ms d x sz ag,wrI E ms (I.ld d x sz ag)=[d]) ∧
 (∀ E x v sz,
 ev E (I.st x v sz) =
  match val E x with
  | AV.ref r e p st=>
   Option.bind (dT E v) fun (g:AV × Env)=>
    match p,Env.f (Prod.snd g) r with
    | [],AV.box cs0=>if e=Prod.fst (Env.ep (Prod.snd g) r)∧St.i st=0∧plain (Prod.fst g)=true∧wB (cellsOf (Prod.fst g))=true∧List.length (cellsOf (Prod.fst g))=sz∧St.j st+sz≤List.length cs0 then some (Env.upd (Prod.snd g) r (AV.box (lay cs0 (St.j st) (cellsOf (Prod.fst g))))) else none
    | x,x_1=>Option.bind (tvs (cellsOf (Prod.fst g))) fun (ts:List TV)=>Option.bind (aK (Prod.snd g) r e p) fun (y:Nat × List (List TV))=>if plain (Prod.fst g)=true∧wB (cellsOf (Prod.fst g))=true∧St.s st=Prod.fst y∧St.i st<List.length (Prod.snd y)∧List.length ts=sz∧St.j st+sz≤Prod.fst y then some (Env.upd (Prod.snd g) r (cV (Env.f (Prod.snd g) r) p (AV.own (Prod.fst y) (List.modify (Prod.snd y) (St.i st) fun (x:List TV)=>lay x (St.j st) ts)))) else none
  | x=>none) ∧
 (∀ w d0 is st E x v sz,G w (GI.mk none d0 (.st x v sz)::is) st E=X w is st (ev E (.st x v sz))) ∧
 (∀ w t0 bs acc is st E x v sz,H1 w t0 bs acc (.st x v sz) is st E=XH w bs (acc++[(t0++aG E (.st x v sz),wrI E [] (.st x v sz))]) is st (ev E (.st x v sz))) ∧
 (∀ E x v sz,aG E (I.st x v sz)=O.tmp x++(O.tmp v++(lks (val E x)++lks (val E v)))) ∧
 (∀ E ms x v sz,wrI E ms (I.st x v sz)=lks (val E x)++gW E v) ∧
 (∀ E d z,ev E (I.alc d z)=some (Env.put (Env.put E (5000+d) (.box (List.map TV.av z))) d (.ref (5000+d) (fM (Env.ep (Env.put E (5000+d) (.box (List.map TV.av z))) (5000+d)) []) [] (St.mk 0 0 0)))) ∧
 (∀ w d0 is st E d z,G w (GI.mk none d0 (.alc d z)::is) st E=X w is st (ev E (.alc d z))) ∧
 (∀ w t0 bs acc is st E d z,H1 w t0 bs acc (.alc d z) is st E=XH w bs (acc++[(t0++aG E (.alc d z),wrI E [] (.alc d z))]) is st (ev E (.alc d z))) ∧
 (∀ E d z,aG E (I.alc d z)=[d,5000+d]) ∧
 (∀ E ms d z,wrI E ms (I.alc d z)=[d,5000+d]) ∧
 (∀ E d v,ev E (I.box d v)=if mT (val E v)=true then some (Env.put (Env.put E (5000+d) (.box (cellsOf (val E v)))) d (.ref (5000+d) (fM (Env.ep (Env.put E (5000+d) (.box (cellsOf (val E v)))) (5000+d)) []) [] (St.mk 0 0 0))) else Option.bind (dT E v) fun (g:AV × Env)=>if plain (Prod.fst g)=true then some (Env.put (Env.put (Prod.snd g) (5000+d) (.box (cellsOf (Prod.fst g)))) d (.ref (5000+d) (fM (Env.ep (Env.put (Prod.snd g) (5000+d) (.box (cellsOf (Prod.fst g)))) (5000+d)) []) [] (St.mk 0 0 0))) else none) ∧
 (∀ w d0 is st E d v,G w (GI.mk none d0 (.box d v)::is) st E=X w is st (ev E (.box d v))) ∧
 (∀ w t0 bs acc is st E d v,H1 w t0 bs acc (.box d v) is st E=XH w bs (acc++[(t0++aG E (.box d v),wrI E [] (.box d v))]) is st (ev E (.box d v))) ∧
 (∀ E d v,aG E (I.box d v)=O.tmp v++d::(5000+d)::lks (val E v)) ∧
 (∀ E ms d v,wrI E ms (I.box d v)=d::(5000+d)::gW E v) ∧
 (∀ E d z ps,ev E (I.bld d z ps)=Option.map (fun (g:List AV × Env)=>Env.put (Prod.snd g) d (.agg (Prod.fst g))) (mS E (List.map TV.av z) ps)) ∧
 (∀ w d0 is st E d z ps,G w (GI.mk none d0 (.bld d z ps)::is) st E=X w is st (ev E (.bld d z ps))) ∧
 (∀ w t0 bs acc is st E d z ps,H1 w t0 bs acc (.bld d z ps) is st E=XH w bs (acc++[(t0++aG E (.bld d z ps),wrI E [] (.bld d z ps))]) is st (ev E (.bld d z ps))) ∧
 (∀ E d z ps,aG E (I.bld d z ps)=List.flatMap O.tmp (List.map (fun (x:Nat × Nat × O)=>Prod.snd (Prod.snd x)) ps)++d::List.flatMap (fun (x:O)=>lks (val E x)) (List.map (fun (x:Nat × Nat × O)=>Prod.snd (Prod.snd x)) ps)) ∧
 (∀ E ms d z ps,wrI E ms (I.bld d z ps)=d::List.flatMap (pW E) (List.map (fun (x:Nat × Nat × O)=>Prod.snd (Prod.snd x)) ps)) ∧
 (∀ E d s ps,ev E (I.bsl d s ps)=Option.bind (jO E ps) fun (g:List (List TV) × Env)=>if (List.all (Prod.fst g) fun (r:List TV)=>List.length r == s)=true then some (Env.put (Prod.snd g) d (.own s (Prod.fst g))) else none) ∧
 (∀ w d0 is st E d s ps,G w (GI.mk none d0 (.bsl d s ps)::is) st E=X w is st (ev E (.bsl d s ps))) ∧
 (∀ w t0 bs acc is st E d s ps,H1 w t0 bs acc (.bsl d s ps) is st E=XH w bs (acc++[(t0++aG E (.bsl d s ps),wrI E [] (.bsl d s ps))]) is st (ev E (.bsl d s ps))) ∧
 (∀ E d s ps,aG E (I.bsl d s ps)=List.flatMap O.tmp ps++d::List.flatMap (fun (x:O)=>lks (val E x)) ps) ∧
 (∀ E ms d s ps,wrI E ms (I.bsl d s ps)=d::List.flatMap (gW E) ps) ∧
 (∀ E d n k,
 ev E (I.xtr d (O.t n) k) =
  match Env.f E n with
  | AV.tup vs=>Option.map (fun (c:AV)=>if AV.owns c=true then Env.put (Env.put E n (AV.tup (List.set vs k AV.undef))) d c else Env.put E d c) vs[k]?
  | x=>none) ∧
 (∀ w d0 is st E d n k,G w (GI.mk none d0 (.xtr d (.t n) k)::is) st E=X w is st (ev E (.xtr d (.t n) k))) ∧
 (∀ w t0 bs acc is st E d n k,H1 w t0 bs acc (.xtr d (.t n) k) is st E=XH w bs (acc++[(t0++aG E (.xtr d (.t n) k),wrI E [] (.xtr d (.t n) k))]) is st (ev E (.xtr d (.t n) k))) ∧
 (∀ E d n k,aG E (I.xtr d (O.t n) k)=O.tmp (O.t n)++[d]) ∧
 (∀ E ms d n k,
 wrI E ms (I.xtr d (O.t n) k) =
  match val E (O.t n) with
  | AV.tup vs=>
   match vs[k]? with
   | some c=>if AV.owns c=true then d::O.tmp (O.t n) else [d]
   | none=>[d]
  | x=>[d]) ∧
 (∀ E d x,
 ev E (I.nck d x) =
  match val E x with
  | AV.ref r e p st=>if vld E r e p=true then some (Env.put E d (AV.ref r e p st)) else none
  | AV.xbox cs=>some (Env.put E d (AV.xbox cs))
  | AV.fn f cs=>if bS cs=true then none else some (Env.put E d (AV.fn f cs))
  | x=>none) ∧
 (∀ w d0 is st E d x,G w (GI.mk none d0 (.nck d x)::is) st E=X w is st (ev E (.nck d x))) ∧
 (∀ w t0 bs acc is st E d x,H1 w t0 bs acc (.nck d x) is st E=XH w bs (acc++[(t0++aG E (.nck d x),wrI E [] (.nck d x))]) is st (ev E (.nck d x))) ∧
 (∀ E d x,aG E (I.nck d x)=O.tmp x++d::lks (val E x)) ∧
 (∀ E ms d x,wrI E ms (I.nck d x)=[d]) ∧
 (∀ E d x y s b,
 ev E (I.app d x y s b) =
  Option.bind (dT E x) fun (g:AV × Env)=>
   match Prod.fst g with
   | AV.own s0 es0=>
    if s0=s then
     match val (Prod.snd g) y with
     | AV.str b_1=>if s=1∧(List.length es0+List.length b_1)*b≤140737488355328 then some (Env.put (Prod.snd g) d (AV.own s (es0++aM b_1))) else none
     | AV.own s1 es1=>if s1=s∧fU es1=true∧(List.length es0+List.length es1)*b≤140737488355328 then some (Env.put (Prod.snd (fD (Prod.snd g) y)) d (AV.own s (es0++es1))) else none
     | AV.sub r e p s1 lo n=>Option.bind (aK (Prod.snd g) r e p) fun (nd:Nat × List (List TV))=>if Prod.fst nd=s∧s1=s∧lo+n≤List.length (Prod.snd nd)∧fU (List.take n (List.drop lo (Prod.snd nd)))=true∧(List.length es0+n)*b≤140737488355328 then if eJ (List.take n (List.drop lo (Prod.snd nd)))=true then some (Env.put (Prod.snd g) d (AV.own s (es0++List.take n (List.drop lo (Prod.snd nd))))) else some (Env.put (Env.set0 (Prod.snd g) r (cV (Env.f (Prod.snd g) r) p (AV.own s (List.take lo (Prod.snd nd)++(rD (List.take n (List.drop lo (Prod.snd nd)))++List.drop (lo+n) (Prod.snd nd)))))) d (AV.own s (es0++List.take n (List.drop lo (Prod.snd nd))))) else none
     | a=>Option.bind (bA (Prod.snd g) a) fun (r:Nat × List (List TV))=>if Prod.fst r=s∧eJ (Prod.snd r)=true∧(List.length es0+List.length (Prod.snd r))*b≤140737488355328 then some (Env.put (Prod.snd g) d (AV.own s (es0++Prod.snd r))) else none
    else none
   | x=>none) ∧
 (∀ w d0 is st E d x y s b,G w (GI.mk none d0 (.app d x y s b)::is) st E=X w is st (ev E (.app d x y s b))) ∧
 (∀ w t0 bs acc is st E d x y s b,H1 w t0 bs acc (.app d x y s b) is st E=XH w bs (acc++[(t0++aG E (.app d x y s b),wrI E [] (.app d x y s b))]) is st (ev E (.app d x y s b))) ∧
 (∀ E d x y s b,aG E (I.app d x y s b)=O.tmp x++(O.tmp y++d::(lks (val E x)++lks (val E y)))) ∧
 (∀ E ms d x y s b,
 wrI E ms (I.app d x y s b) =
  d ::
   (gW E x ++
    match val E y with
    | AV.sub r e p s lo n=>[r]
    | x=>pW E y)) ∧
 (∀ E d x y s,
 ev E (I.cpy d x y s) =
  match val E x with
  | AV.lnk r e p=>Option.bind (aK E r e p) fun (nd:Nat × List (List TV))=>Option.bind (bA E (val E y)) fun (q:Nat × List (List TV))=>if Prod.fst nd=s∧Prod.fst q=s∧eJ (Prod.snd q)=true then some (Env.put (Env.upd E r (cV (Env.f E r) p (AV.own s (List.take (List.length (Prod.snd nd)) (Prod.snd q)++List.drop (List.length (Prod.snd q)) (Prod.snd nd))))) d (AV.int IntKind.i64 ↑(min (List.length (Prod.snd q)) (List.length (Prod.snd nd))))) else none
  | AV.sub r e p s' lo n=>Option.bind (aK E r e p) fun (nd:Nat × List (List TV))=>Option.bind (bA E (val E y)) fun (q:Nat × List (List TV))=>if Prod.fst nd=s∧s'=s∧lo+n≤List.length (Prod.snd nd)∧Prod.fst q=s∧eJ (Prod.snd q)=true then some (Env.put (Env.upd E r (cV (Env.f E r) p (AV.own s (List.take lo (Prod.snd nd)++(List.take n (Prod.snd q)++List.drop (lo+min n (List.length (Prod.snd q))) (Prod.snd nd)))))) d (AV.int IntKind.i64 ↑(min (List.length (Prod.snd q)) n))) else none
  | x=>none) ∧
 (∀ w d0 is st E d x y s,G w (GI.mk none d0 (.cpy d x y s)::is) st E=X w is st (ev E (.cpy d x y s))) ∧
 (∀ w t0 bs acc is st E d x y s,H1 w t0 bs acc (.cpy d x y s) is st E=XH w bs (acc++[(t0++aG E (.cpy d x y s),wrI E [] (.cpy d x y s))]) is st (ev E (.cpy d x y s))) ∧
 (∀ E d x y s,aG E (I.cpy d x y s)=O.tmp x++(O.tmp y++d::(lks (val E x)++lks (val E y)))) ∧
 (∀ E ms d x y s,wrI E ms (I.cpy d x y s)=d::lks (val E x)) ∧
 (∀ E x s z,
 ev E (I.clr x s z) =
  match val E x with
  | AV.sub r e p s' lo n=>Option.bind (aK E r e p) fun (nd:Nat × List (List TV))=>if Prod.fst nd=s∧s'=s∧lo+n≤List.length (Prod.snd nd)∧List.length z=s then some (Env.upd E r (cV (Env.f E r) p (AV.own s (List.take lo (Prod.snd nd)++(List.replicate n z++List.drop (lo+n) (Prod.snd nd)))))) else none
  | x=>none) ∧
 (∀ w d0 is st E x s z,G w (GI.mk none d0 (.clr x s z)::is) st E=X w is st (ev E (.clr x s z))) ∧
 (∀ w t0 bs acc is st E x s z,H1 w t0 bs acc (.clr x s z) is st E=XH w bs (acc++[(t0++aG E (.clr x s z),wrI E [] (.clr x s z))]) is st (ev E (.clr x s z))) ∧
 (∀ E x s z,aG E (I.clr x s z)=O.tmp x++lks (val E x)) ∧
 (∀ E ms x s z,wrI E ms (I.clr x s z)=lks (val E x)) ∧
 (∀ E d x y s b z,
 ev E (I.mks d x y s b z) =
  match val E x,val E y with
  | AV.int k l,AV.int k_1 c=>if 0≤l∧l≤c∧c≤4611686018427387904∧↑b*c≤140737488355328∧List.length z=s then some (Env.put E d (AV.own s (List.replicate (Int.toNat l) z))) else none
  | x,x_1=>none) ∧
 (∀ w d0 is st E d x y s b z,G w (GI.mk none d0 (.mks d x y s b z)::is) st E=X w is st (ev E (.mks d x y s b z))) ∧
 (∀ w t0 bs acc is st E d x y s b z,H1 w t0 bs acc (.mks d x y s b z) is st E=XH w bs (acc++[(t0++aG E (.mks d x y s b z),wrI E [] (.mks d x y s b z))]) is st (ev E (.mks d x y s b z))) ∧
 (∀ E d x y s b z,aG E (I.mks d x y s b z)=O.tmp x++(O.tmp y++[d])) ∧
 (∀ E ms d x y s b z,wrI E ms (I.mks d x y s b z)=[d]) ∧
 (∀ E d x lo hi s,
 ev E (I.slc d x lo hi s) =
  match cQ E lo 0 with
  | none=>none
  | some l=>
   match val E x with
   | AV.ext s' es=>Option.bind (cQ E hi (List.length es)) fun (h:Int)=>if s'=s∧0≤l∧l≤h∧h≤↑(List.length es) then some (Env.put E d (AV.ext s (List.take (Int.toNat (h-l)) (List.drop (Int.toNat l) es)))) else none
   | AV.extv v s' es=>Option.bind (cQ E hi (List.length es)) fun (h:Int)=>if s'=s∧0≤l∧l≤h∧h≤↑(List.length es) then some (Env.put E d (AV.ext s (List.take (Int.toNat (h-l)) (List.drop (Int.toNat l) es)))) else none
   | AV.lnk r e p=>Option.bind (aK E r e p) fun (nd:Nat × List (List TV))=>Option.bind (cQ E hi (List.length (Prod.snd nd))) fun (h:Int)=>if Prod.fst nd=s∧0≤l∧l≤h∧h≤↑(List.length (Prod.snd nd)) then some (Env.put E d (AV.sub r e p s (Int.toNat l) (Int.toNat (h-l)))) else none
   | AV.own s' es=>
    match x with
    | O.t m=>Option.bind (cQ E hi (List.length es)) fun (h:Int)=>if m≠d∧s'=s∧0≤l∧l≤h∧h≤↑(List.length es) then some (Env.put E d (AV.sub m (Prod.fst (Env.ep E m)) [] s (Int.toNat l) (Int.toNat (h-l)))) else none
    | x=>none
   | AV.sub r e p s' lo0 n=>Option.bind (aK E r e p) fun (nd:Nat × List (List TV))=>Option.bind (cQ E hi n) fun (h:Int)=>if Prod.fst nd=s∧s'=s∧lo0+n≤List.length (Prod.snd nd)∧0≤l∧l≤h∧h≤↑n then some (Env.put E d (AV.sub r e p s (lo0+Int.toNat l) (Int.toNat (h-l)))) else none
   | x=>none) ∧
 (∀ w d0 is st E d x lo hi s,G w (GI.mk none d0 (.slc d x lo hi s)::is) st E=X w is st (ev E (.slc d x lo hi s))) ∧
 (∀ w t0 bs acc is st E d x lo hi s,H1 w t0 bs acc (.slc d x lo hi s) is st E=XH w bs (acc++[(t0++aG E (.slc d x lo hi s),wrI E [] (.slc d x lo hi s))]) is st (ev E (.slc d x lo hi s))) ∧
 (∀ E d x lo hi s,aG E (I.slc d x lo hi s)=O.tmp x++(List.flatMap O.tmp (aaT lo++aaT hi)++d::lks (val E x))) ∧
 (∀ E ms d x lo hi s,wrI E ms (I.slc d x lo hi s)=[d]) ∧
 (∀ E d x lo hi,
 ev E (I.sls d x lo hi) =
  match val E x,cQ E lo 0 with
  | AV.str b,some l=>Option.bind (cQ E hi (List.length b)) fun (h:Int)=>if 0≤l∧l≤h∧h≤↑(List.length b) then some (Env.put E d (AV.str (List.take (Int.toNat (h-l)) (List.drop (Int.toNat l) b)))) else none
  | x,x_1=>none) ∧
 (∀ w d0 is st E d x lo hi,G w (GI.mk none d0 (.sls d x lo hi)::is) st E=X w is st (ev E (.sls d x lo hi))) ∧
 (∀ w t0 bs acc is st E d x lo hi,H1 w t0 bs acc (.sls d x lo hi) is st E=XH w bs (acc++[(t0++aG E (.sls d x lo hi),wrI E [] (.sls d x lo hi))]) is st (ev E (.sls d x lo hi))) ∧
 (∀ E d x lo hi,aG E (I.sls d x lo hi)=O.tmp x++(List.flatMap O.tmp (aaT lo++aaT hi)++[d])) ∧
 (∀ E ms d x lo hi,wrI E ms (I.sls d x lo hi)=[d]) ∧
 (∀ E d x i,
 ev E (I.sidx d x i) =
  match val E x,val E i with
  | AV.str b,AV.int k n=>if 0≤n∧n<↑(List.length b) then Option.map (fun (c:UInt8)=>Env.put E d (AV.int IntKind.u8 ↑(UInt8.toNat c))) b[Int.toNat n]? else none
  | x,x_1=>none) ∧
 (∀ w d0 is st E d x i,G w (GI.mk none d0 (.sidx d x i)::is) st E=X w is st (ev E (.sidx d x i))) ∧
 (∀ w t0 bs acc is st E d x i,H1 w t0 bs acc (.sidx d x i) is st E=XH w bs (acc++[(t0++aG E (.sidx d x i),wrI E [] (.sidx d x i))]) is st (ev E (.sidx d x i))) ∧
 (∀ E d x i,aG E (I.sidx d x i)=O.tmp x++(O.tmp i++[d])) ∧
 (∀ E ms d x i,wrI E ms (I.sidx d x i)=[d]) ∧
 (∀ E d x y,
 ev E (I.mx d x y) =
  match val E x,val E y with
  | AV.int k a,AV.int k_1 b=>some (Env.put E d (AV.int k (if b>a then b else a)))
  | x,x_1=>none) ∧
 (∀ w d0 is st E d x y,G w (GI.mk none d0 (.mx d x y)::is) st E=X w is st (ev E (.mx d x y))) ∧
 (∀ w t0 bs acc is st E d x y,H1 w t0 bs acc (.mx d x y) is st E=XH w bs (acc++[(t0++aG E (.mx d x y),wrI E [] (.mx d x y))]) is st (ev E (.mx d x y))) ∧
 (∀ E d x y,aG E (I.mx d x y)=O.tmp x++(O.tmp y++[d])) ∧
 (∀ E ms d x y,wrI E ms (I.mx d x y)=[d]) ∧
 (∀ E d x y,
 ev E (I.mn d x y) =
  match val E x,val E y with
  | AV.int k a,AV.int k_1 b=>some (Env.put E d (AV.int k (if b<a then b else a)))
  | x,x_1=>none) ∧
 (∀ w d0 is st E d x y,G w (GI.mk none d0 (.mn d x y)::is) st E=X w is st (ev E (.mn d x y))) ∧
 (∀ w t0 bs acc is st E d x y,H1 w t0 bs acc (.mn d x y) is st E=XH w bs (acc++[(t0++aG E (.mn d x y),wrI E [] (.mn d x y))]) is st (ev E (.mn d x y))) ∧
 (∀ E d x y,aG E (I.mn d x y)=O.tmp x++(O.tmp y++[d])) ∧
 (∀ E ms d x y,wrI E ms (I.mn d x y)=[d]) ∧
 (∀ E d c a b,
 ev E (I.pck d c a b) =
  match val E c with
  | AV.bool t=>if (AV.owns (val E a) || AV.owns (val E b))=true then none else some (Env.put E d (if t=true then val E a else val E b))
  | x=>none) ∧
 (∀ w d0 is st E d c a b,G w (GI.mk none d0 (.pck d c a b)::is) st E=X w is st (ev E (.pck d c a b))) ∧
 (∀ w t0 bs acc is st E d c a b,H1 w t0 bs acc (.pck d c a b) is st E=XH w bs (acc++[(t0++aG E (.pck d c a b),wrI E [] (.pck d c a b))]) is st (ev E (.pck d c a b))) ∧
 (∀ E d c a b,aG E (I.pck d c a b)=O.tmp c++(O.tmp a++(O.tmp b++[d]))) ∧
 (∀ E ms d c a b,wrI E ms (I.pck d c a b)=[d]) ∧
 (∀ E d f cs,ev E (I.mkf d f cs)=if bS (List.map (val E) cs)=true then none else some (Env.put E d (.fn f (List.map (val E) cs)))) ∧
 (∀ w d0 is st E d f cs,G w (GI.mk none d0 (.mkf d f cs)::is) st E=X w is st (ev E (.mkf d f cs))) ∧
 (∀ w t0 bs acc is st E d f cs,H1 w t0 bs acc (.mkf d f cs) is st E=XH w bs (acc++[(t0++aG E (.mkf d f cs),wrI E [] (.mkf d f cs))]) is st (ev E (.mkf d f cs))) ∧
 (∀ E d f cs,aG E (I.mkf d f cs)=List.flatMap O.tmp cs++[d]) ∧
 (∀ E ms d f cs,wrI E ms (I.mkf d f cs)=[d]) ∧
 (∀ E d f xs,aG E (I.call d f xs)=List.flatMap O.tmp xs++(I.dsts (I.call d f xs)++List.flatMap (fun (x:O)=>lks (val E x)) xs)) ∧
 (∀ E ms d f xs,wrI E ms (I.call d f xs)=Option.toList d++mW E ms xs) ∧
 (∀ E d x xs,aG E (I.callv d x xs)=O.tmp x++(List.flatMap O.tmp xs++(I.dsts (I.callv d x xs)++(lks (val E x)++List.flatMap (fun (x:O)=>lks (val E x)) xs)))) ∧
 (∀ E ms d x xs,wrI E ms (I.callv d x xs)=Option.toList d++mW E ms xs) ∧
 (∀ E x,gW E x=(if AV.owns (val E x)=true then O.tmp x else [])++lks (val E x)) ∧
 (∀ E x,pW E x=if AV.owns (val E x)=true then O.tmp x else []) ∧
 (∀ (n:Nat),O.tmp (O.t n)=[n]) ∧
 (∀ (a:AV),O.tmp (O.c a)=[]) ∧
 (∀ E ms x xs,mW E (.m::ms) (x::xs)=gW E x++mW E ms xs) ∧
 (∀ E ms x xs,mW E (.p::ms) (x::xs)=gW E x++mW E ms xs) ∧
 (∀ E ms x xs,mW E (.b::ms) (x::xs)=mW E ms xs) ∧
 (∀ E ms x xs,mW E (.l::ms) (x::xs)=lks (val E x)++mW E ms xs) ∧
 (∀ E xs,mW E [] xs=[]) ∧
 (aaT none=[]) ∧
 (∀ (x:O),aaT (some x)=[x]) ∧
 (∀ E d s neg x,ev E (.isn d neg x (.c (.own s [])))=(match val E x with | .extv v _ _=>(match v with | .slice a _ _=>some (E.put d (.bool (if neg then !a.isNone else a.isNone))) | _=>none) | _=>none)) ∧
 (∀ w st E,C w .skip st E=T w st .n E) ∧
 (∀ w st E is,C w (.reg is none) st E=G w is st (rgE w.ks (alQ w.md) (E.norm w.ks))) ∧
 (∀ w st E is bs,C w (.reg is (some bs)) st E=RC w bs is st (rgE w.ks (alQ w.md) (E.norm w.ks)) (aaQ w.md 999998)) ∧
 (∀ w st E is bs,RC w bs is st E []=H w bs [] is st E) ∧
 (∀ w st E is bs b l,RC w bs is st E (b::l)=RS w bs is st E) ∧
 (∀ w st E c,C w (.loop c) st E=LH w c st (E.norm w.ks)) ∧
 (∀ w st E a b c,CF w a b st E (.bool (!c))=CF w b a st E (.bool c)) ∧
 (∀ w st E a b,C w (.seq a b) st E=C w a (.q b::st) E) ∧
 (∀ w st E i c,C w (.blk i c) st E=C w c (.b i::st) E) ∧
 (∀ w st E i,C w (.exit i) st E=T w st (.e i) E) ∧
 (∀ w st E,C w .ret st E=T w st .r E) ∧
 (∀ w st E x a b,C w (.cond x a b) st E=CF w a b st E (val E x)) ∧
 (∀ w st E a b,CF w a b st E (.bool true)=C w a st E) ∧
 (∀ w st E a b,CF w a b st E (.bool false)=C w b st E) ∧
 (∀ w x E,T w [] x E=w.Q x E) ∧
 (∀ w st E b,T w (.q b::st) .n E=C w b st E) ∧
 (∀ w st E b,T w (.q b::st) .r E=T w st .r E) ∧
 (∀ w st E b i,T w (.q b::st) (.e i) E=T w st (.e i) E) ∧
 (∀ w st E i,T w (.b i::st) .n E=T w st .n E) ∧
 (∀ w st E i,T w (.b i::st) .r E=T w st .r E) ∧
 (∀ w st E i j,T w (.b i::st) (.e j) E=(if j=i then T w st .n E else T w st (.e j) E)) ∧
 (∀ w st E,G w [] st E=T w st .n E) ∧
 (∀ w is st E d e f xs,G w (GI.mk none d (.call e f xs)::is) st E=agY w e f xs is st E (kM (g8 w.md f xs) xs)) ∧
 (∀ w is st E e f xs,agY w e f xs is st E none=abq w e f xs (g8 w.md f xs) (jM (jP E (aaQ w.md f)) 0 (g8 w.md f xs) xs) is st (xR (jP E (aaQ w.md f)) (g8 w.md f xs) xs)) ∧
 (∀ w is st E e f xs x y,agY w e f xs is st E (some (x,y))=agX w e f is st E (val E x) (val E y) (dT E x)) ∧
 (∀ w is st E E' e f cs ds cs',agX w e f is st E (.agg cs) (.agg ds) (some (.agg cs',E'))=(dC cs'=true∧YK0 w e f is st cs' (trL E cs cs' ds) E')) ∧
 (∀ w bs acc is st E E' e f cs ds cs',abr w e f bs acc is st E (.agg cs) (.agg ds) (some (.agg cs',E'))=(dC cs'=true∧an9 w e f bs acc is st cs' (trL E cs cs' ds) E')) ∧
 (∀ w is st E t bs acc e f xs,y6 w t bs acc e f xs is st E none=adb w e f xs (g8 w.md f xs) (jM E 0 (g8 w.md f xs) xs) bs (acc++[(t++aG E (.call e f xs),wrI E (g8 w.md f xs) (.call e f xs))]) is st (xR E (g8 w.md f xs) xs)) ∧
 (∀ w is st E t bs acc e f xs x y,y6 w t bs acc e f xs is st E (some (x,y))=abr w e f bs (acc++[(t++aG E (.call e f xs),wrI E (g8 w.md f xs) (.call e f xs))]) is st E (val E x) (val E y) (dT E x)) ∧
 (∀ (xs:List O),kM [] xs=none) ∧
 (∀ (ms:List M) (xs:List O),kM (.b::ms) xs=none) ∧
 (∀ (ms:List M) (xs:List O),kM (.l::ms) xs=none) ∧
 (∀ (ms:List M) (xs:List O),kM (.p::ms) xs=none) ∧
 (∀ (a:M) (ms:List M) (xs:List O),kM (.m::a::ms) xs=none) ∧
 (kM [.m] []=none) ∧
 (∀ (x:O),kM [.m] [x]=none) ∧
 (∀ (x y:O),kM [.m] [x,y]=some (x,y)) ∧
 (∀ (x y z:O) (l:List O),kM [.m] (x::y::z::l)=none) ∧
 (∀ E cs ds,trL E cs ds []=[]) ∧
 (∀ E cs ds a l,trL E cs ds (a::l)=trC E cs ds a::trL E cs ds l) ∧
 (∀ E cs ds b,trC E cs ds (.bool b)=.bool b) ∧
 (∀ E cs ds k n,trC E cs ds (.int k n)=.int k n) ∧
 (∀ E cs ds s,trC E cs ds (.str s)=.str s) ∧
 (∀ E cs ds r e p,trC E cs ds (.lnk r e p)=trF E r e p ds (mV r e p 0 cs)) ∧
 (∀ E r e p p0 q ds j,trF E r e p ds (some (j,p0,q))=(match ds[j]? with | some c=>if vld E r e p0=true∧vld E r e p=true∧c.isRoot=true∧(cA c q).isSome=true then .lnk (1000+(32*(j+1)+0)) 0 q else .undef | none=>.undef)) ∧
 (∀ (r e j:Nat) (p:a8) (r' e':Nat) (p':a8) (l:List AV),mV r e p j (.lnk r' e' p'::l)=(if r'=r∧e'=e then (match aiM p' p with | some q=>some (j,p',q) | none=>mV r e p (j+1) l) else mV r e p (j+1) l)) ∧
 (∀ (r e j:Nat) (p:a8) (k:IntKind) (n:Int) (l:List AV),mV r e p j (.int k n::l)=mV r e p (j+1) l) ∧
 (∀ (r e j:Nat) (p:a8) (n:List UInt8) (l:List AV),mV r e p j (.str n::l)=mV r e p (j+1) l) ∧
 (∀ (r e j:Nat) (p:a8) (n:Bool) (l:List AV),mV r e p j (.bool n::l)=mV r e p (j+1) l) ∧
 (∀ (q:a8),aiM [] q=some q) ∧
 (∀ (a b:St) (p q:a8),aiM (a::p) (b::q)=if a.i=b.i∧a.s=b.s∧a.j=b.j then aiM p q else none) ∧
 (∀ (a:St) (p:a8),aiM (a::p) []=none) ∧
 (∀ w is st E d e x xs,G w (GI.mk none d (.callv e x xs)::is) st E=adc w e xs is st E (val E x)) ∧
 (∀ w is st E t b d i,G w (GI.mk (some (t,b)) d i::is) st E=GF w b d i is st E (E.f t)) ∧
 (∀ w is st E d i,GF w true d i is st E (.bool true)=G w (GI.mk none d i::is) st E) ∧
 (∀ w is st E bs acc t d i,HF w bs acc t true d i is st E (.bool true)=H1 w [t] bs acc i is st E) ∧
 (∀ w is st E d i,GF w true d i is st E (.bool false)=G w is st (mQ E d (.tup []))) ∧
 (∀ w is st E bs acc t d i,HF w bs acc t true d i is st E (.bool false)=H w bs (acc++[(t::d.toList,d.toList)]) is st (mQ E d (.tup []))) ∧
 (∀ w is st E d i,GF w false d i is st E (.bool true)=G w is st (mQ E d (.tup []))) ∧
 (∀ w is st E bs acc t d i,HF w bs acc t false d i is st E (.bool true)=H w bs (acc++[(t::d.toList,d.toList)]) is st (mQ E d (.tup []))) ∧
 (∀ w is st E d i,GF w false d i is st E (.bool false)=G w (GI.mk none d i::is) st E) ∧
 (∀ w is st E bs acc t d i,HF w bs acc t false d i is st E (.bool false)=H1 w [t] bs acc i is st E) ∧
 (∀ w is st E,X w is st (some E)=G w is st E) ∧
 (∀ (w:Wk) (is:List GI) (st:List Fr),X w is st none=False) ∧
 (∀ w st E bs acc,H w bs acc [] st E=(xX bs acc=true∧T w st .n E)) ∧
 (∀ w is st E bs acc d i,H w bs acc (GI.mk none d i::is) st E=H1 w [] bs acc i is st E) ∧
 (∀ w is st E bs acc t b d i,H w bs acc (GI.mk (some (t,b)) d i::is) st E=HF w bs acc t b d i is st E (E.f t)) ∧
 (∀ w is st E t bs acc e f xs,H1 w t bs acc (.call e f xs) is st E=y6 w t bs acc e f xs is st E (kM (g8 w.md f xs) xs)) ∧
 (∀ w is st E bs acc,XH w bs acc is st (some E)=H w bs acc is st E) ∧
 (∀ (w:Wk) (is:List GI) (st:List Fr) (bs:List Nat) (acc:List Rcd),XH w bs acc is st none=False) ∧
 (∀ w is st E d f xs ms pls args ln,abq w d f xs ms pls is st (some (args,E,ln))=Y0 w d f (fS E ms xs) pls is st args E ln) ∧
 (∀ w is st E bs acc d f xs ms pls args ln,adb w d f xs ms pls bs acc is st (some (args,E,ln))=YH0 w d f (fS E ms xs) pls bs acc is st args E ln) ∧
 (∀ w is st E d xs f caps,adc w d xs is st E (.fn f caps)=(bS caps=false∧(g8 w.md f xs).length=xs.length∧abq w d f (xs++caps.map .c) (g8 w.md f xs++caps.map fun _=>M.b) (jM E 0 (g8 w.md f xs++caps.map fun _=>M.b) (xs++caps.map .c)) is st (xR E (g8 w.md f xs++caps.map fun _=>M.b) (xs++caps.map .c)))) ∧
 (∀ w is st E d ret,B w d ret is st (some E)=G w is st (mQ E d ret)) ∧
 (∀ w is st E bs acc d ret,BH w d ret bs acc is st (some E)=H w bs acc is st (mQ E d ret)) ∧
 (∀ (σ:Type) (K:Nat) (l:List (Nat × AV)) (v:σ→List (Nat × AV)) (J:σ→Prop) (μ:σ→Nat) (s:σ) (Q:Ex→Env→Prop) (E:Env),LQ K l v J μ s Q .n E=(∃ s',E.norm K=mkV K (mX l (v s')) [] []∧J s'∧μ s'<μ s)) ∧
 (∀ (σ:Type) (K:Nat) (l:List (Nat × AV)) (v:σ→List (Nat × AV)) (J:σ→Prop) (μ:σ→Nat) (s:σ) (Q:Ex→Env→Prop) (E:Env),LQ K l v J μ s Q .r E=Q .r E) ∧
 (∀ (σ:Type) (K:Nat) (l:List (Nat × AV)) (v:σ→List (Nat × AV)) (J:σ→Prop) (μ:σ→Nat) (s:σ) (Q:Ex→Env→Prop) (E:Env) (i:Nat),LQ K l v J μ s Q (.e i) E=Q (.e i) E) ∧
 (∀ (l:List (Nat × AV)),mX l []=l) ∧
 (∀ (l v:List (Nat × AV)) (d:Nat) (x:AV),mX l ((d,x)::v)=mX (qG l d x) v) ∧
 (∀ w is st E b d i c,GF w b d i is st E (.bool (!c))=GF w (!b) d i is st E (.bool c)) ∧
 (∀ rs bs m E ret outs,Fin rs bs m ret outs .r E=abn rs bs m ret outs E) ∧
 (∀ rs bs m E ret outs,Fin rs bs m ret outs .n E=abn rs bs m ret outs E) ∧
 (∀ rs bs m E R,wX rs bs m R .r E=onO (ac9 E rs) fun q=>R (abm q.1) (dN q.2 0 bs m)∧dC (abm q.1::dN q.2 0 bs m)=true) ∧
 (∀ rs bs m E R,wX rs bs m R .n E=onO (ac9 E rs) fun q=>R (abm q.1) (dN q.2 0 bs m)∧dC (abm q.1::dN q.2 0 bs m)=true) ∧
 (∀ b:Bool,(!!b)=b) ∧
 ((!true)=false) ∧
 ((!false)=true) ∧
 (decide True=true) ∧
 (decide False=false) ∧
 ((false=true)=False) ∧
 ((true=false)=False) ∧
 (∀ (α:Type) (l:List α),l++[]=l) ∧
 (∀ (α:Type) (l:List α),[]++l=l) ∧
 (∀ (α:Type) (a:α) (l m:List α),(a::l)++m=a::(l++m)) ∧
 (∀ (a:Prop),(True∧a)=a) ∧
 (∀ (a:Prop),(a∧True)=a) ∧
 (∀ a:Bool,(true && a)=a) ∧
 (∀ a:Bool,(false && a)=false) ∧
 (∀ a:Bool,(a && true)=a) ∧
 (∀ a:Bool,(a && false)=false) ∧
 (∀ a:Bool,(true || a)=true) ∧
 (∀ a:Bool,(false || a)=a) ∧
 (∀ (α β:Type) (f:α→β),List.map f []=[]) ∧
 (∀ (α β:Type) (f:α→β) (a:α) (l:List α),List.map f (a::l)=f a::List.map f l) ∧
 (∀ (α:Type) (p:α→Bool),List.all [] p=true) ∧
 (∀ (α:Type) (p:α→Bool) (a:α) (l:List α),List.all (a::l) p=(p a && List.all l p)) ∧
 (∀ (α:Type) (p:α→Bool),List.any [] p=false) ∧
 (∀ (α:Type) (p:α→Bool) (a:α) (l:List α),List.any (a::l) p=(p a || List.any l p)) ∧
 (∀ (α:Type) (a:α) (l:List α),(a::l)[0]?=some a) ∧
 (∀ (α:Type) (a:α) (n:Nat) (l:List α),(a::l)[n+1]?=l[n]?) ∧
 (∀ (α β:Type) (a:α) (b:β),(a,b).1=a) ∧
 (∀ (α β:Type) (a:α) (b:β),(a,b).2=b) ∧
 (∀ (α:Type),(none:Option α).toList=[]) ∧
 (∀ (α:Type) (a:α),(some a).toList=[a]) ∧
 (∀ (α:Type),(none:Option α).isSome=false) ∧
 (∀ (α:Type) (a:α),(some a).isSome=true) ∧
 (∀ (α:Type),(none:Option α).isNone=true) ∧
 (∀ (α:Type) (a:α),(some a).isNone=false) ∧
 (∀ (α:Type) (l:List α),List.drop 0 l=l) ∧
 (∀ (α:Type) (l:List α),List.take 0 l=[]) ∧
 (∀ (α:Type) (a:α) (n:Nat) (l:List α),List.drop (n+1) (a::l)=List.drop n l) ∧
 (∀ (α:Type) (a:α) (n:Nat) (l:List α),List.take (n+1) (a::l)=a::List.take n l) ∧
 (∀ (α:Type) (n:Nat),List.drop n ([]:List α)=[]) ∧
 (∀ (α:Type) (n:Nat),List.take n ([]:List α)=[]) ∧
 (∀ (α:Type),([]:List α).length=0) ∧
 (∀ (α:Type) (a:α) (l:List α),(a::l).length=l.length+1) ∧
 (∀ (α:Type) (a:α),([]:List α).isEmpty=true) ∧
 (∀ (α:Type) (a:α) (l:List α),(a::l).isEmpty=false) ∧
 (∀ (α:Type) (a b:α) (l:List α),List.set (a::l) 0 b=b::l) ∧
 (∀ (α:Type) (a b:α) (n:Nat) (l:List α),List.set (a::l) (n+1) b=a::List.set l n b) ∧
 (∀ (α:Type) (a:α) (f:α→α) (l:List α),List.modify (a::l) 0 f=f a::l) ∧
 (∀ (α:Type) (a:α) (n:Nat) (f:α→α) (l:List α),List.modify (a::l) (n+1) f=a::List.modify l n f) ∧
 (∀ (n:Nat),(n:Int).toNat=n) ∧
 (∀ (α β:Type) (f:α→β) (x:α),Option.map f (some x)=some (f x)) ∧
 (∀ (α β:Type) (f:α→β),Option.map f none=none) ∧
 (∀ (α β:Type) (f:α→Option β) (x:α),Option.bind (some x) f=f x) ∧
 (∀ (α β:Type) (f:α→Option β),Option.bind none f=none) ∧
 (∀ (α β:Type) (f:α→β) (c:Prop) [Decidable c] (a b:Option α),Option.map f (if c then a else b)=(if c then Option.map f a else Option.map f b)) ∧
 (∀ (α β:Type) (f:α→Option β) (c:Prop) [Decidable c] (a b:Option α),Option.bind (if c then a else b) f=(if c then Option.bind a f else Option.bind b f)) ∧
 (∀ (α:Type) (K:α→Prop) (x:α),onO (some x) K=K x) ∧
 (∀ (α:Type) (K:α→Prop),onO (none:Option α) K=False) ∧
 (∀ (α β:Type) (K:α→Prop) (f:β→α) (o:Option β),onO (o.map f) K=onO o (fun z=>K (f z))) ∧
 (∀ (α β:Type) (K:α→Prop) (f:β→Option α) (o:Option β),onO (o.bind f) K=onO o (fun z=>onO (f z) K)) ∧
 (∀ K l r m t,(mkV K l r m).f t=(if cY K t=true then c5 l t else c5 r t)) ∧
 (∀ K l r m t,(mkV K l r m).ep t=gS m t) ∧
 (∀ K l r m d x,(mkV K l r m).put d x=(if cY K d=true then mkV K (qG l d x) r (ajF (c5 l d) d m) else mkV K l ((d,x)::r) (ajF (c5 r d) d m))) ∧
 (∀ K l r m d x,(mkV K l r m).upd d x=(if cY K d=true then mkV K (qG l d x) r (aaU m d ((gS m d).1,(gS m d).2+1)) else mkV K l (qG r d x) (aaU m d ((gS m d).1,(gS m d).2+1)))) ∧
 (∀ K l r m d x,(mkV K l r m).set0 d x=(if cY K d=true then mkV K (qG l d x) r m else mkV K l (qG r d x) m)) ∧
 (∀ K l r m,(mkV K l r m).norm K=mkV K (wY (mkV K l r m) K l) [] []) ∧
 (∀ (a:AV) (d:Nat) (m:List (Nat × Nat × Nat)),ajF a d m=(if a.isRoot=true then aaU m d ((gS m d).1+1,(gS m d).2+1) else m)) ∧
 (∀ E K,wY E K []=[]) ∧
 (∀ (E:Env) (K k:Nat) (a:AV) (l:List (Nat × AV)),wY E K ((k,a)::l)=(k,oQ E K a)::wY E K l):=by
 and_intros <;> intros <;> first | rfl | (cases ‹List Bool› <;> rfl) | exact abw _ _ _ | exact abx _ _ _ | exact aby _ _ | exact abz _ _ | exact alS | exact ag0 | exact ag1 | exact alT | exact y7 | exact agZ | exact abs | exact abt | exact afN _ _ | exact aaX _ _ | exact qK _ | exact aaW | exact abu _ _ _ _ _ _ | exact abv _ _ _ _ _ _ | exact wZ _ _ _ _ _ _ | exact w9 _ _ _ _ | (split <;> rfl) | (cases ‹Bool› <;> rfl) | (simp; done) | (simp only [ev]; cases val _ _ <;> rfl) | (simp [jL,afE,adR,akI,beq_eq_decide,bne]; done) | simp [jL,afE,adR,eqC,Fin,wX,T,aG,I.opds,I.der,I.dsts,aaT,CF,GF,HF]
section
def v (n:Nat):O:=.t n
def k (n:Int):O:=.c (.int .i64 n)
def k0:O:=.c (.bool false)
def k1:O:=.c (.bool true)
def n (d:Nat) (i:I):GI:=⟨none,some d,i⟩
def m (i:I):GI:=⟨none,none,i⟩
def h (t:Nat) (b:Bool) (d:Nat) (i:I):GI:=⟨some (t,b),some d,i⟩
def hm (t:Nat) (b:Bool) (i:I):GI:=⟨some (t,b),none,i⟩
def R (l:List GI):Cmd:=.reg l none
def D (bs:List Nat) (l:List GI):Cmd:=.reg l (some bs)
def Q (a b:Cmd):Cmd:=.seq a b
def F (x:O) (a b:Cmd):Cmd:=.cond x a b
theorem SC:(∀ t:Nat,v t=.t t)∧(∀ t:Int,k t=.c (.int .i64 t))∧(k0=.c (.bool false))∧(k1=.c (.bool true))∧(∀ d i,n d i=⟨none,some d,i⟩)∧(∀ i,m i=⟨none,none,i⟩) ∧
  (∀ t b d i,h t b d i=⟨some (t,b),some d,i⟩)∧(∀ t b i,hm t b i=⟨some (t,b),none,i⟩)∧(∀ l,R l=.reg l none)∧(∀ bs l,D bs l=.reg l (some bs))∧(∀ a b,Q a b=.seq a b)∧(∀ x a b,F x a b=.cond x a b):=by
 refine ⟨?_,?_,?_,?_,?_,?_,?_,?_,?_,?_,?_,?_⟩ <;> intros <;> rfl
section
variable {α:Type} {K:α→Prop}
end
theorem ajH {x:Int} (h:-9223372036854775808≤x∧x<9223372036854775808):IntKind.i64.wrap x=x:=by
 have e:IntKind.i64.wrap x=if 9223372036854775808≤x%18446744073709551616 then x%18446744073709551616-18446744073709551616 else x%18446744073709551616:=by
  have h1:((2:Int)^IntKind.i64.bits)=18446744073709551616:=by decide
  have h2:((2:Int)^(IntKind.i64.bits-1))=9223372036854775808:=by decide
  unfold IntKind.wrap
  simp only [h1,h2]
  simp [IntKind.signed]
 rw [e]; split <;> omega
theorem alV {x:Int} (h:0≤x∧x<256):IntKind.u8.wrap x=x:=by
 have e:IntKind.u8.wrap x=x%256:=by
  have h1:((2:Int)^IntKind.u8.bits)=256:=by decide
  unfold IntKind.wrap
  simp only [h1]
  simp [IntKind.signed]
 rw [e]; omega
theorem anR {c:Prop} [Decidable c] (hc:c):decide c=true:=by simp [hc]
theorem anS {c:Prop} [Decidable c] (hc:¬ c):decide c=false:=by simp [hc]
theorem jT (b:List UInt8):(aM b).length=b.length:=by simp [aM]
theorem tB (b:List UInt8) (i:Nat):(aM b)[i]?=(b[i]?).map fun x=>[.int .u8 x.toNat]:=by simp [aM]
theorem SO:(∀ (w:Wk) (is:List GI) (st:List Fr) (c:Prop) [Decidable c] (a b:Option Env),c→X w is st (if c then a else b)=X w is st a) ∧
  (∀ (w:Wk) (is:List GI) (st:List Fr) (c:Prop) [Decidable c] (a b:Option Env),¬ c→X w is st (if c then a else b)=X w is st b) ∧
  (∀ (w:Wk) (bs:List Nat) (acc:List Rcd) (is:List GI) (st:List Fr) (c:Prop) [Decidable c] (a b:Option Env),c→XH w bs acc is st (if c then a else b)=XH w bs acc is st a) ∧
  (∀ (w:Wk) (bs:List Nat) (acc:List Rcd) (is:List GI) (st:List Fr) (c:Prop) [Decidable c] (a b:Option Env),¬ c→XH w bs acc is st (if c then a else b)=XH w bs acc is st b) ∧
  (∀ (w:Wk) (d:Option Nat) (ret:AV) (is:List GI) (st:List Fr) (c:Prop) [Decidable c] (a b:Option Env),c→B w d ret is st (if c then a else b)=B w d ret is st a) ∧
  (∀ (w:Wk) (d:Option Nat) (ret:AV) (bs:List Nat) (acc:List Rcd) (is:List GI) (st:List Fr) (c:Prop) [Decidable c] (a b:Option Env),c→BH w d ret bs acc is st (if c then a else b)=BH w d ret bs acc is st a) ∧
  (∀ (x:Int),(-9223372036854775808≤x∧x<9223372036854775808)→IntKind.i64.wrap x=x)∧(∀ (x:Int),(0≤x∧x<256)→IntKind.u8.wrap x=x):=
 ⟨fun _ _ _ _ _ _ _ h=>anO h,fun _ _ _ _ _ _ _ h=>anP h,fun _ _ _ _ _ _ _ _ _ h=>am7 h,fun _ _ _ _ _ _ _ _ _ h=>am8 h,fun _ _ _ _ _ _ _ _ _ h=>anQ h,fun _ _ _ _ _ _ _ _ _ _ _ h=>am9 h,fun _ h=>ajH h,fun _ h=>alV h⟩
end
def ajI (x:AV) (E:Env) (r e:Nat) (st:St):Option (AV × Env):=match x with
 | .box cs=>if st.i=0∧st.s=0∧st.j=0∧e=(E.ep r).1 then some (AV.box cs,E.put r .undef) else none
 | _=>none
def ajJ (x:AV) (E:Env) (r e:Nat) (st:St):Option (Nat × a8 × AV):=match x with
 | .box cs=>if (e == (E.ep r).1)=true∧st.i=0∧st.j=0 then some (r,[],AV.box cs) else none
 | _=>none
theorem alW (E:Env) (r e:Nat) (st:St):gT E (.ref r e [] st)=ajI (E.f r) E r e st:=by
 unfold gT ajI
 show (match ([]:a8),E.f r with | [],AV.box cs=>if st.i=0∧st.s=0∧st.j=0∧e=(E.ep r).1 then some (AV.box cs,E.put r .undef) else none | _,_=>none)=_
 generalize E.f r=x
 cases x <;> rfl
theorem ajK (E:Env) (r e:Nat) (st:St):cC E (.ref r e [] st)=ajJ (E.f r) E r e st:=by
 unfold cC ajJ
 show (match e == (E.ep r).1,([]:a8),E.f r with | true,[],AV.box cs=>if st.i=0∧st.j=0 then some (r,[],AV.box cs) else none | _,_,_=>none)=_
 generalize E.f r=x
 generalize (e == (E.ep r).1)=b
 cases b <;> cases x <;> simp
theorem SE:(∀ t,O.tmp (.t t)=[t])∧(∀ a,O.tmp (.c a)=[])∧(∀ d f xs,(I.call (some d) f xs).dsts=[d])∧(∀ f xs,(I.call none f xs).dsts=[]) ∧
  (∀ d x xs,(I.callv (some d) x xs).dsts=[d])∧(∀ (α β:Type) (f:α→List β),List.flatMap f []=[])∧(∀ (α β:Type) (f:α→List β) a l,List.flatMap f (a::l)=f a++List.flatMap f l) ∧
  (∀ (α:Type) (o:Option α) (f:α→AV),(o.map f).map id=o.map f) ∧
  (∀ (E:Env) (r e:Nat) (st:St),gT E (.ref r e [] st)=ajI (E.f r) E r e st) ∧
  (∀ (cs:List AV) (E:Env) (r e:Nat) (st:St),ajI (.box cs) E r e st=if st.i=0∧st.s=0∧st.j=0∧e=(E.ep r).1 then some (AV.box cs,E.put r .undef) else none) ∧
  (∀ (E:Env) (r e:Nat) (st:St),cC E (.ref r e [] st)=ajJ (E.f r) E r e st) ∧
  (∀ (cs:List AV) (E:Env) (r e:Nat) (st:St),ajJ (.box cs) E r e st=if (e == (E.ep r).1)=true∧st.i=0∧st.j=0 then some (r,[],AV.box cs) else none):=by
 refine ⟨?_,?_,?_,?_,?_,?_,?_,?_,?_,?_,?_,?_⟩ <;> intros <;> first | rfl | exact alW _ _ _ _ | exact ajK _ _ _ _ | simp
theorem SGs:∀ (w:Wk) (b:Bool) (d:Option Nat) (i:I) (is:List GI) (st:List Fr) (E:Env),GF w b d i is st E (.tup [])=G w is st (mQ E d (.tup [])):=fun _ _ _ _ _ _ _=>rfl
theorem SU:(∀ md:fP,alQ md=(aaQ md 999999).map Prod.fst)∧(∀ (K:Nat) (E:Env),rgE K [] E=E)∧(∀ (K t:Nat) (l:List Nat) (E:Env),rgE K (t::l) E=(ubE (ub1 E t) l).norm K)∧(∀ E:Env,ubE E []=E)∧(∀ (E:Env) (t:Nat) (l:List Nat),ubE E (t::l)=ubE (ub1 E t) l) ∧
 (∀ (E:Env) (t:Nat),ub1 E t=ubM E t (E.f t) (E.f (5000+t))) ∧
 (∀ (E:Env) (t:Nat) (cs:List AV),ubM E t (.box cs) .undef=(((E.put t .undef).put (5000+t) (.box cs)).put t (.ref (5000+t) (fM (((E.put t .undef).put (5000+t) (.box cs)).ep (5000+t)) []) [] ⟨0,0,0⟩))) ∧
 (∀ (E:Env) (t:Nat) (a:AV),ubM E t .undef a=E)∧(∀ (E:Env) (t r e:Nat) (p:a8) (s:St) (a:AV),ubM E t (.ref r e p s) a=E):=
 ⟨fun _=>rfl,fun _ _=>rfl,fun _ _ _ _=>rfl,fun _=>rfl,fun _ _ _=>rfl,fun _ _=>rfl,fun _ _ _=>rfl,fun _ _ _=>rfl,fun _ _ _ _ _ _ _=>rfl⟩
theorem SD:(∀ (f:Nat),aaQ [] f=[])∧(∀ (g f:Nat) (ms:List M) (bl:List (Nat × Nat)) (l:fP),aaQ ((g,ms,bl)::l) f=(if g=f then bl else aaQ l f))∧(∀ (E:Env),jP E []=E)∧(∀ (E:Env) (t j:Nat) (l:List (Nat × Nat)),jP E ((t,j)::l)=jP (E.put t (acH j (E.f t))) l)∧(∀ (j:Nat) (cs:List AV),acH j (.agg cs)=.agg (cs.set j .undef)) ∧
 (∀ (w:Wk) (bs:List Nat) (acc:List Rcd) (t:Nat) (b:Bool) (d:Option Nat) (i:I) (is:List GI) (st:List Fr) (E:Env),HF w bs acc t b d i is st E (.tup [])=H w bs (acc++[(t::d.toList,d.toList)]) is st (mQ E d (.tup []))) ∧
 (∀ (K:Nat) (E:Env),hdL K [] E=E)∧(∀ (K d:Nat) (D:List Nat) (E:Env),hdL K (d::D) E=(aaV (E.put d .undef) D).norm K)∧(∀ E:Env,aaV E []=E)∧(∀ (E:Env) (d:Nat) (D:List Nat),aaV E (d::D)=aaV (E.put d .undef) D) ∧
 (∀ (σ:Type) (D:List Nat) (K:Nat) (l:List (Nat × AV)) (v:σ→List (Nat × AV)) (J:σ→Prop) (μ:σ→Nat) (s:σ) (Q:Ex→Env→Prop) (E:Env),LQD D K l v J μ s Q .n E=(∃ s',hdL K D (E.norm K)=mkV K (mX l (v s')) [] []∧J s'∧μ s'<μ s)) ∧
 (∀ (σ:Type) (D:List Nat) (K:Nat) (l:List (Nat × AV)) (v:σ→List (Nat × AV)) (J:σ→Prop) (μ:σ→Nat) (s:σ) (Q:Ex→Env→Prop) (E:Env),LQD D K l v J μ s Q .r E=Q .r E) ∧
 (∀ (σ:Type) (D:List Nat) (K:Nat) (l:List (Nat × AV)) (v:σ→List (Nat × AV)) (J:σ→Prop) (μ:σ→Nat) (s:σ) (Q:Ex→Env→Prop) (E:Env) (i:Nat),LQD D K l v J μ s Q (.e i) E=Q (.e i) E):=
 ⟨fun _=>rfl,fun _ _ _ _ _=>rfl,fun _=>rfl,fun _ _ _ _=>rfl,fun _ _=>rfl,fun _ _ _ _ _ _ _ _ _ _=>rfl,fun _ _=>rfl,fun _ _ _ _=>rfl,fun _=>rfl,fun _ _ _=>rfl,fun _ _ _ _ _ _ _ _ _ _=>rfl,fun _ _ _ _ _ _ _ _ _ _=>rfl,fun _ _ _ _ _ _ _ _ _ _ _=>rfl⟩
section
variable {H:Type} {enc:TypeId × Value→H} {P:Program} {w w':World} {sp:Nat→Bool}
inductive Ty where
 | bool
 | int (k:IntKind)
 | str
 | sl (s:Nat) (e:List Ty)
inductive Shp:List Ty→List TV→Prop where
 | nil:Shp [] []
 | bool (b:Bool) (ys:List Ty) (ts:List TV) (h:Shp ys ts):Shp (.bool::ys) (.bool b::ts)
 | int (k:IntKind) (n:Int) (ys:List Ty) (ts:List TV) (hn:(Lit.int k n).wf=true) (h:Shp ys ts):Shp (.int k::ys) (.int k n::ts)
 | str (s:List UInt8) (ys:List Ty) (ts:List TV) (hs:s.length≤2^47) (h:Shp ys ts):Shp (.str::ys) (.str s::ts)
 | sl (s:Nat) (e:List Ty) (es:List (List TV)) (ys:List Ty) (ts:List TV) (hl:es.length≤2^47) (he:∀ r ∈ es,Shp e r) (h:Shp ys ts):Shp (.sl s e::ys) (.sl s es::ts)
theorem Shp.length {ys:List Ty} {ts:List TV} (h:Shp ys ts):ts.length=ys.length:=by
 induction h <;> simp_all
theorem Shp.append {ys zs:List Ty} {ts us:List TV} (h:Shp ys ts) (g:Shp zs us):Shp (ys++zs) (ts++us):=by
 induction h with
 | nil=>exact g
 | bool b ys ts h ih=>exact .bool b _ _ ih
 | int k n ys ts hn h ih=>exact .int k n _ _ hn ih
 | str s ys ts hs h ih=>exact .str s _ _ hs ih
 | sl s e es ys ts hl he h ih1 ih=>exact .sl s e es _ _ hl he ih
def tC (P:Program) (sh:TypeId→Option (List Ty)):Nat→List Field→Option (List Ty)
 | _,[]=>some []
 | o,f::fs=>if f.offset=o then (sh f.type).bind fun a=>if a.length=P.cellsOf f.type then (tC P sh (o+a.length) fs).map (a++·) else none else none
def gU (P:Program):Nat→TypeId→Option (List Ty)
 | 0,_=>none
 | k+1,t=>match P.underlying t with
  | some .bool=>some [.bool]
  | some (.int q)=>some [.int q]
  | some .string=>some [.str]
  | some (.slice e)=>(gU P k e).bind fun sh=>if sh.length=P.cellsOf e∧0<sh.length∧0<P.bytesOf e then some [.sl sh.length sh] else none
  | some (.struct fs)=>(tC P (gU P k) 0 fs.toList).bind fun sh=>if sh.length=P.cellsOf t then some sh else none
  | _=>none
theorem y8 {fuel:Nat} {t:TypeId} {cs:List Value} {x:DataW H × List MemPlace} (ht:P.underlying t=some .bool) (h:DataW.trod enc P w 0 sp true fuel t cs=some x) :
  ∃ b,cs=[.bool b]:=by
 cases fuel with
 | zero=>simp [DataW.trod] at h
 | succ n=>rw [DataW.trod_step] at h; unfold DataW.trodStep at h; rw [ht] at h; split at h <;> simp_all
theorem ade {fuel:Nat} {t:TypeId} {k:IntKind} {cs:List Value} {x:DataW H × List MemPlace} (ht:P.underlying t=some (.int k)) (h:DataW.trod enc P w 0 sp true fuel t cs=some x) :
  ∃ n,cs=[.int k n]∧(Lit.int k n).wf=true:=by
 cases fuel with
 | zero=>simp [DataW.trod] at h
 | succ n=>rw [DataW.trod_step] at h; unfold DataW.trodStep at h; rw [ht] at h; split at h <;> simp_all
theorem adf {fuel:Nat} {t:TypeId} {cs:List Value} {x:DataW H × List MemPlace} (ht:P.underlying t=some .string) (h:DataW.trod enc P w 0 sp true fuel t cs=some x) :
  ∃ s:ByteArray,cs=[.string s]∧x.1=.lit (.string s.data.toList):=by
 cases fuel with
 | zero=>simp [DataW.trod] at h
 | succ n=>
  rw [DataW.trod_step] at h; unfold DataW.trodStep at h; rw [ht] at h
  split at h <;> simp_all
  rename_i s _ _
  exact h.2 ▸ rfl
theorem vF {fuel:Nat} {t e:TypeId} {cs:List Value} {x:DataW H × List MemPlace} (ht:P.underlying t=some (.slice e)) (h:DataW.trod enc P w 0 sp true (fuel+1) t cs=some x) :
  (cs=[.slice none 0 0]∧x=(.nil,[]))∨∃ a len cap elems rest,cs=[.slice (some a) len cap]∧len≤cap∧cap≤maxLen ∧
   (List.range len).mapM (fun i=>(w.cells? 0 (a.add (i*P.cellsOf e)) (P.cellsOf e)).bind (DataW.trod enc P w 0 sp true fuel e))=some elems ∧
   (if sp a.block then (List.range (cap-len)).mapM fun j=>(w.cells? 0 (a.add ((len+j)*P.cellsOf e)) (P.cellsOf e)).bind (DataW.trod enc P w 0 sp true fuel e) else some [])=some rest ∧
   x=(.slice (elems.map (·.1)) (rest.map (·.1)),MemPlace.row a ((elems.length+rest.length)*P.cellsOf e)++(elems++rest).flatMap (·.2)):=by
 rw [DataW.trod_step] at h; unfold DataW.trodStep at h; rw [ht] at h
 split at h
 case h_7=>exact .inl ⟨rfl,by simpa using h.symm⟩
 case h_8 e' a len cap heq=>
  cases heq
  simp only at h
  split at h
  ·rename_i hc
   simp only [lC2,lR1] at h
   obtain ⟨elems,he,rest,hrest,rfl⟩:=h
   exact .inr ⟨a,len,cap,elems,rest,rfl,hc.2.1,hc.2.2,he,hrest,rfl⟩
  ·cases h
 all_goals simp_all
theorem tD {fuel:Nat} {t:TypeId} {fs:Array Field} {cs:List Value} {x:DataW H × List MemPlace} (ht:P.underlying t=some (.struct fs)) (h:DataW.trod enc P w 0 sp true (fuel+1) t cs=some x) :
  cs.length=P.cellsOf t∧∃ xs,(fs.toList.mapM fun f=>DataW.trod enc P w 0 sp true fuel f.type ((cs.drop f.offset).take (P.cellsOf f.type)))=some xs∧x=(.agg (xs.map (·.1)),xs.flatMap (·.2)):=by
 rw [DataW.trod_step] at h; unfold DataW.trodStep at h; rw [ht] at h
 split at h
 case h_9 fs' cs' heq=>
  cases heq
  split at h
  ·rename_i hc
   simp only [lC2] at h
   obtain ⟨xs,hx,rfl⟩:=h
   exact ⟨hc,xs,hx,rfl⟩
  ·cases h
 all_goals simp_all
theorem ajL {s:Nat} {a:Addr} {sh:List Ty}:∀ n,(∀ i,i<n→∃ (c:List Value) (t:List TV) (F:aH),w.cells? 0 (a.add (i*s)) s=some c∧Row w false F c t∧Shp sh t∧∀ b,F b≠0→b<w.heap.size) →
  ∃ (cs:List Value) (es:List (List TV)) (F:aH),cs.length=n*s∧es.length=n∧Row w false F cs es.flatten∧(∀ e ∈ es,e.length=s∧Shp sh e)∧(∀ k,k<cs.length→w.cell? (a.add k)=cs[k]?)∧∀ b,F b≠0→b<w.heap.size:=by
 intro n
 induction n with
 | zero=>intro _; exact ⟨[],[],fun _=>0,by simp,rfl,.nil _ _ fun _=>rfl,by simp,by simp,fun _ h=>absurd rfl h⟩
 | succ n ih=>
  intro hs
  obtain ⟨cs,es,F,h1,h2,h3,h4,h5,h6⟩:=ih fun i hi=>hs i (by omega)
  obtain ⟨c,t,G,g1,g2,g3,g4⟩:=hs n (by omega)
  obtain ⟨_,hl,hc⟩:=World.cells?_some g1
  refine ⟨cs++c,es++[t],fun b=>F b+G b,by rw [lY,h1,hl,lP3],by simp [h2],?_,?_,?_,?_⟩
  ·rw [lZ1,List.flatten_singleton]; exact Row.append h3 g2 fun _=>rfl
  ·intro e he
   rcases lL.1 he with he | he
   ·exact h4 e he
   ·simp at he; subst he; exact ⟨by rw [← g2.length,hl],g3⟩
  ·intro k hk
   rw [lN3]
   by_cases hk1:k<cs.length
   ·rw [lF hk1]; exact h5 k hk1
   ·rw [lK hk1]
    rw [lY] at hk
    have:=hc (k-cs.length) (by omega)
    rw [iK,← h1,show cs.length+(k-cs.length)=k by omega] at this
    exact this
  ·intro b hb
   by_cases e:F b=0
   ·exact g4 b (by (try dsimp only at hb); omega)
   ·exact h6 b e
theorem uO {e:TypeId}:∀ {l:List (DataW H)} {d:DataW H},d ∈ l→∀ n ∈ d.weights P e,n ∈ DataW.weightsAll P e l:=by
 intro l
 induction l with
 | nil=>intro d h; cases h
 | cons y l ih=>
  intro d h n hn
  simp only [DataW.weightsAll,lL]
  rcases lG.1 h with rfl | h
  ·exact .inl hn
  ·exact .inr (ih h n hn)
theorem ajM:∀ (k:Nat) (t:TypeId) (sh:List Ty) (fuel:Nat) (cs:List Value) (x:DataW H × List MemPlace),gU P k t=some sh→DataW.trod enc P w 0 sp true fuel t cs=some x →
  (∀ n ∈ x.1.weights P t,n≤2^47)→∃ (F:aH) (ts:List TV),Row w false F cs ts∧Shp sh ts∧∀ b,F b≠0→b<w.heap.size:=by
 intro k
 induction k with
 | zero=>intro t sh fuel cs x h; simp [gU] at h
 | succ k ih=>
  intro t sh fuel cs x hs h hz
  cases fuel with
  | zero=>simp [DataW.trod] at h
  | succ fuel=>
  unfold gU at hs
  split at hs
  ·rename_i ht
   cases hs
   obtain ⟨b,rfl⟩:=y8 ht h
   exact ⟨fun _=>0,_,.bool _ _ b _ _ (.nil _ _ fun _=>rfl),.bool b _ _ .nil,fun _ h=>absurd rfl h⟩
  ·rename_i q ht
   cases hs
   obtain ⟨n,rfl,hn⟩:=ade ht h
   exact ⟨fun _=>0,_,.int _ _ q n _ _ (.nil _ _ fun _=>rfl),.int q n _ _ hn .nil,fun _ h=>absurd rfl h⟩
  ·rename_i ht
   cases hs
   obtain ⟨s,rfl,hx⟩:=adf ht h
   have hl:=hz s.data.toList.length (by rw [hx]; simp [DataW.weights])
   exact ⟨fun _=>0,[.str s.data.toList],.str _ _ s.data.toList _ _ (.nil _ _ fun _=>rfl),.str _ _ _ hl .nil,fun _ h=>absurd rfl h⟩
  ·rename_i e ht
   obtain ⟨she,hse,hs⟩:=lR1.1 hs
   split at hs
   ·rename_i hc
    obtain ⟨hc1,hc2,hc3⟩:=hc
    cases hs
    rcases vF ht h with ⟨rfl,rfl⟩ | ⟨a,len,cap,elems,rest,rfl,hlc,_,he,hr,rfl⟩
    ·exact ⟨fun _=>0,_,.ext0 _ she.length none 0 _ _ (.nil _ _ fun _=>rfl),.sl _ _ [] _ _ (by simp) (by simp) .nil,fun _ h=>absurd rfl h⟩
    ·have hel:elems.length=len:=by simpa using mapM_some_length he
     have hle:elems.length≤2^47:=by
      have:=hz ((elems.length+rest.length)*P.bytesOf e) (by simp [DataW.weights,ht])
      have h1:(elems.length+rest.length)*1≤(elems.length+rest.length)*P.bytesOf e:=Nat.mul_le_mul_left _ hc3
      omega
     obtain ⟨cs,es,F,h1,h2,h3,h4,h5,h6⟩:=ajL (w:=w) (s:=she.length) (a:=a) (sh:=she) len fun i hi=>by
      have hg:=mapM_some_get he i i (by simp [hi])
      rw [lH (by omega)] at hg
      simp only [lR1] at hg
      obtain ⟨c,g1,g2⟩:=hg
      obtain ⟨F,ts,f1,f2,f3⟩:=ih e she fuel c _ hse g2 fun n hn=>hz n (by
       simp only [DataW.weights,ht,lG,lL]
       refine .inr (.inl (uO (lX1.2 ⟨_,lQ (by omega),rfl⟩) n hn)))
      exact ⟨c,ts,F,by rw [hc1]; exact g1,f1,f2,f3⟩
     by_cases hn0:len=0
     ·subst hn0
      exact ⟨fun _=>0,_,.ext0 _ she.length (some a) cap _ _ (.nil _ _ fun _=>rfl),.sl _ _ [] _ _ (by simp) (by simp) .nil,fun _ h=>absurd rfl h⟩
     ·have hab:a.block<w.heap.size:=by
       have h0:=h5 0 (by rw [h1]; exact Nat.mul_pos (by omega) hc2)
       rw [lH (by rw [h1]; exact Nat.mul_pos (by omega) hc2)] at h0
       have:=World.block_lt_of_cell? w _ h0
       rwa [iH] at this
      have:=Row.ext (w:=w) (fun x=>(if x=a.block then 1 else 0)+F x+0) F (fun _=>0) she.length es a cap cs [] [] (by omega) (fun e he=>(h4 e he).1) (by rw [h1,h2]) h5 h3 (.nil _ _ fun _=>rfl) (fun _=>rfl)
      rw [h2] at this
      refine ⟨_,_,this,.sl _ _ es _ _ (by omega) (fun r hr=>(h4 r hr).2) .nil,fun b hb=>?_⟩
      by_cases e:b=a.block
      ·omega
      ·exact h6 b (by simp [e] at hb; exact hb)
   ·cases hs
  ·rename_i fs ht
   obtain ⟨shs,hse,hs⟩:=lR1.1 hs
   split at hs
   ·rename_i hc
    cases hs
    obtain ⟨hcl,xs,hx,rfl⟩:=tD ht h
    have hz':∀ n ∈ DataW.weightsEach P (fs.toList.map (·.type)) (xs.map (·.1)),n≤2^47:=fun n hn=>hz n (by simp only [DataW.weights,ht]; exact hn)
    have key:∀ (l:List Field) (o:Nat) (ss:List Ty) (ys:List (DataW H × List MemPlace)),tC P (gU P k) o l=some ss →
      (l.mapM fun f=>DataW.trod enc P w 0 sp true fuel f.type ((cs.drop f.offset).take (P.cellsOf f.type)))=some ys→(∀ n ∈ DataW.weightsEach P (l.map (·.type)) (ys.map (·.1)),n≤2^47) →
      ∃ (F:aH) (ts:List TV),Row w false F ((cs.drop o).take ss.length) ts∧Shp ss ts∧∀ b,F b≠0→b<w.heap.size:=by
     intro l
     induction l with
     | nil=>intro o ss ys h1 h2 h3; simp [tC] at h1; subst h1; exact ⟨fun _=>0,[],by simpa using Row.nil _ _ fun _=>rfl,.nil,fun _ h=>absurd rfl h⟩
     | cons f l ih2=>
      intro o ss ys h1 h2 h3
      unfold tC at h1
      split at h1
      ·rename_i ho
       obtain ⟨sa,ha,h1⟩:=lR1.1 h1
       split at h1
       ·rename_i hal
        obtain ⟨sb,hb,rfl⟩:=lC2.1 h1
        rw [lF4] at h2
        simp only [lC4,lR1,lU4,Option.some.injEq] at h2
        obtain ⟨y,hy,ys',hys,rfl⟩:=h2
        simp only [lO,DataW.weightsEach,lL] at h3
        obtain ⟨F,ts,f1,f2,f3⟩:=ih f.type sa fuel _ y ha hy fun n hn=>h3 n (.inl hn)
        obtain ⟨G,us,g1,g2,g3⟩:=ih2 (o+sa.length) sb ys' hb hys fun n hn=>h3 n (.inr hn)
        rw [ho,← hal] at f1
        refine ⟨fun b=>F b+G b,ts++us,?_,f2.append g2,fun b hb=>?_⟩
        ·rw [lY,List.take_add,lW1]
         exact Row.append f1 g1 fun _=>rfl
        ·by_cases e:F b=0
         ·exact g3 b (by (try dsimp only at hb); omega)
         ·exact f3 b e
       ·cases h1
      ·cases h1
    obtain ⟨F,ts,f1,f2,f3⟩:=key _ 0 _ xs hse hx hz'
    rw [List.drop_zero,lN2 (by omega)] at f1
    exact ⟨F,ts,f1,f2,f3⟩
   ·cases hs
  ·cases hs
theorem aeh {sq:Nat→Bool}:∀ (k:Nat) (t:TypeId) (sh:List Ty) (fuel:Nat) (cs:List Value) (x:DataW H × List MemPlace),gU P k t=some sh→DataW.trod enc P w 0 (fun _=>true) true fuel t cs=some x →
  (∀ p ∈ x.2,sq p.block=true)→DataW.trod enc P w 0 sq true fuel t cs=some x:=by
 intro k
 induction k with
 | zero=>intro t sh fuel cs x h; simp [gU] at h
 | succ k ih=>
  intro t sh fuel cs x hs h hz
  cases fuel with
  | zero=>simp [DataW.trod] at h
  | succ fuel=>
  unfold gU at hs
  split at hs
  ·rename_i ht
   obtain ⟨b,rfl⟩:=y8 ht h
   rw [DataW.trod_step] at h ⊢; unfold DataW.trodStep at h ⊢; rw [ht] at h ⊢; exact h
  ·rename_i q ht
   obtain ⟨n,rfl,hn⟩:=ade ht h
   rw [DataW.trod_step] at h ⊢; unfold DataW.trodStep at h ⊢; rw [ht] at h ⊢; exact h
  ·rename_i ht
   obtain ⟨s,rfl,hx⟩:=adf ht h
   rw [DataW.trod_step] at h ⊢; unfold DataW.trodStep at h ⊢; rw [ht] at h ⊢; exact h
  ·rename_i e ht
   obtain ⟨she,hse,hs⟩:=lR1.1 hs
   split at hs
   ·rename_i hc
    obtain ⟨hc1,hc2,hc3⟩:=hc
    rcases vF ht h with ⟨rfl,rfl⟩ | ⟨a,len,cap,elems,rest,rfl,hlc,hcm,he,hr,rfl⟩
    ·rw [DataW.trod_step]; unfold DataW.trodStep; rw [ht]; rfl
    ·simp only [lL,lH3] at hz
     simp only [lP] at hr
     have one:∀ i x,x ∈ elems∨x ∈ rest→(w.cells? 0 (a.add (i*P.cellsOf e)) (P.cellsOf e)).bind (DataW.trod enc P w 0 (fun _=>true) true fuel e)=some x →
       (w.cells? 0 (a.add (i*P.cellsOf e)) (P.cellsOf e)).bind (DataW.trod enc P w 0 sq true fuel e)=some x:=by
      intro i x hx h
      obtain ⟨c,h1,h2⟩:=lR1.1 h
      rw [h1]
      exact ih e she fuel c x hse h2 fun p hp=>hz p (.inr ⟨x,hx,hp⟩)
     have he':=mapM_carry (g:=fun i=>(w.cells? 0 (a.add (i*P.cellsOf e)) (P.cellsOf e)).bind (DataW.trod enc P w 0 sq true fuel e)) he fun i x _ hx h=>one i x (.inl hx) h
     have hr':=mapM_carry (g:=fun j=>(w.cells? 0 (a.add ((len+j)*P.cellsOf e)) (P.cellsOf e)).bind (DataW.trod enc P w 0 sq true fuel e)) hr fun i x _ hx h=>one _ x (.inr hx) h
     have hrl:rest.length=cap-len:=by simpa using mapM_some_length hr
     rw [DataW.trod_step]; unfold DataW.trodStep; rw [ht]
     simp only [lM3,true_and,hlc,hcm,and_self,lP]
     rw [he',lD]
     by_cases hq:sq a.block=true
     ·rw [lF hq,hr']; rfl
     ·rw [lK hq]
      have:(elems.length+rest.length)*P.cellsOf e=0:=by
       rcases Nat.eq_zero_or_pos ((elems.length+rest.length)*P.cellsOf e) with h | h
       ·exact h
       ·exact absurd (hz (.cell a.block (a.off+0)) (.inl (MemPlace.mem_row.2 ⟨0,h,rfl⟩))) hq
      have h0:elems.length+rest.length=0:=by
       rcases Nat.mul_eq_zero.1 this with h | h
       ·exact h
       ·omega
      have:rest=[]:=lQ1.1 (by omega)
      subst this
      rfl
   ·cases hs
  ·rename_i fs ht
   obtain ⟨shs,hse,hs⟩:=lR1.1 hs
   obtain ⟨hcl,xs,hx,rfl⟩:=tD ht h
   have key:∀ (l:List Field) (o:Nat) (ss:List Ty) (ys:List (DataW H × List MemPlace)),tC P (gU P k) o l=some ss →
     (l.mapM fun f=>DataW.trod enc P w 0 (fun _=>true) true fuel f.type ((cs.drop f.offset).take (P.cellsOf f.type)))=some ys→(∀ y ∈ ys,∀ p ∈ y.2,sq p.block=true) →
     (l.mapM fun f=>DataW.trod enc P w 0 sq true fuel f.type ((cs.drop f.offset).take (P.cellsOf f.type)))=some ys:=by
    intro l
    induction l with
    | nil=>intro o ss ys h1 h2 h3; simpa using h2
    | cons f l ih2=>
     intro o ss ys h1 h2 h3
     unfold tC at h1
     split at h1
     ·obtain ⟨sa,ha,h1⟩:=lR1.1 h1
      split at h1
      ·obtain ⟨sb,hb,rfl⟩:=lC2.1 h1
       rw [lF4] at h2 ⊢
       simp only [lC4,lR1,lU4,Option.some.injEq] at h2 ⊢
       obtain ⟨y,hy,ys',hys,rfl⟩:=h2
       exact ⟨y,ih f.type sa fuel _ y ha hy (h3 y (by simp)),ys',ih2 _ sb ys' hb hys (fun z hz=>h3 z (by simp [hz])),rfl⟩
      ·cases h1
     ·cases h1
   rw [DataW.trod_step]; unfold DataW.trodStep; rw [ht]
   simp only [hcl,lP]
   rw [key _ 0 _ xs hse hx fun y hy p hp=>hz p (lH3.2 ⟨y,hy,hp⟩)]
   rfl
  ·cases hs
end
section
variable {H:Type} {enc:TypeId × Value→H} {P:Program} {w w':World}
def bv:TV→AV
 | .undef=>.undef
 | .bool b=>.bool b
 | .int k n=>.int k n
 | .str s=>.str s
 | .sl s es=>.ext s es
theorem ane {lk:Lk}:∀ {ts:List TV} {vs:List Value} {F:aH},Row w false F vs ts→RepA w lk (fun _=>0) F vs (ts.map bv):=by
 intro ts
 induction ts with
 | nil=>
  intro vs F h
  cases h with
  | nil _ _ h=>exact .nil _ _ (fun _=>rfl) h
 | cons t ts ih=>
  intro vs F h
  have hl:=h.length
  cases vs with
  | nil=>simp at hl
  | cons v vs=>
   obtain ⟨F1,F2,h1,h2,e⟩:=Row.uncons h
   have r:=ih h2
   cases t with
   | undef=>
    refine RepA.foot (.undef _ _ _ _ _ r) (fun _=>rfl) fun b=>?_
    cases h1 with
    | undef _ _ _ _ _ h=>cases h with | nil _ _ h=>rw [e,h]; omega
   | bool x=>
    cases h1 with
    | bool _ _ _ _ _ h=>cases h with | nil _ _ h=>exact RepA.foot (.bool _ _ _ _ _ r) (fun _=>rfl) fun b=>by rw [e,h]; omega
   | int k n=>
    cases h1 with
    | int _ _ _ _ _ _ h=>cases h with | nil _ _ h=>exact RepA.foot (.int _ _ _ _ _ _ r) (fun _=>rfl) fun b=>by rw [e,h]; omega
   | str s=>
    cases h1 with
    | str _ _ _ _ _ h=>cases h with | nil _ _ h=>exact RepA.foot (.str _ _ _ _ _ r) (fun _=>rfl) fun b=>by rw [e,h]; omega
   | sl s es=>exact .ext _ _ F1 F2 _ _ _ _ _ h1 r e
def n6 (P:Program) (t:TypeId):Bool:=match P.underlying t with | some (.struct _)=>true | _=>false
def ajN (P:Program) (t:TypeId):Option (Bool × List Ty):=(gU P 12 t).map fun sh=>(n6 P t,sh)
def anT (b:Bool) (ts:List TV):AV:=if b then .agg (ts.map bv) else (ts.map bv).headD .undef
def abA:List (Bool × List Ty)→List (List TV)→Prop
 | [],[]=>True
 | p::ps,ts::tss=>Shp p.2 ts∧abA ps tss
 | _,_=>False
def ag4:List (Bool × List Ty)→List (List TV)→List AV
 | p::ps,ts::tss=>anT p.1 ts::ag4 ps tss
 | _,_=>[]
theorem ag5 {base:Nat} {t:TypeId} {v:Value} {p:Bool × List Ty} (hp:ajN P t=some p) (hv:Value.okWide P w .any base t v) :
  (p.1=true∧∃ cs,v=.agg cs∧v.cells.toList=cs.toList)∨(p.1=false∧p.2.length=1∧v.cells.toList=[v]):=by
 obtain ⟨sh,hs,rfl⟩:=lC2.1 hp
 unfold gU at hs
 split at hs
 ·rename_i ht
  obtain ⟨b,rfl⟩:=WideShapes.okWide_bool ht hv
  cases hs; exact .inr ⟨by simp [n6,ht],rfl,rfl⟩
 ·rename_i q ht
  obtain ⟨b,rfl⟩:=WideShapes.okWide_int ht hv
  cases hs; exact .inr ⟨by simp [n6,ht],rfl,rfl⟩
 ·rename_i ht
  obtain ⟨b,rfl⟩:=WideShapes.okWide_string ht hv
  cases hs; exact .inr ⟨by simp [n6,ht],rfl,rfl⟩
 ·rename_i e ht
  obtain ⟨a,len,cap,rfl⟩:=WideShapes.okWide_slice ht hv
  obtain ⟨she,hse,hs⟩:=lR1.1 hs
  split at hs
  ·cases hs; exact .inr ⟨by simp [n6,ht],rfl,rfl⟩
  ·cases hs
 ·rename_i fs ht
  obtain ⟨cs,rfl,hc⟩:=WideShapes.okWide_struct ht hv
  exact .inl ⟨by simp [n6,ht],cs,rfl,rfl⟩
 ·cases hs
theorem ajO {base:Nat}:∀ {ts:List TypeId} {vs:List Value} {ds:List (DataW H)} {ps:List MemPlace} {pars:List (Bool × List Ty)},ts.mapM (ajN P)=some pars →
  DataW.TrodAll enc P w 0 (fun _=>true) true ts vs ds ps→(∀ (j:Nat) t v,ts[j]?=some t→vs[j]?=some v→Value.okWide P w .any base t v)→(∀ n ∈ DataW.weightsEach P ts ds,n≤2^47) →
  ∃ X tss,abA pars tss∧RepA w lk0 (fun _=>0) X vs (ag4 pars tss)∧∀ b,X b≠0→b<w.heap.size:=by
 intro ts
 induction ts with
 | nil=>
  intro vs ds ps pars hp h hv hz
  simp at hp; subst hp
  cases vs with
  | cons _ _=>simp [DataW.TrodAll] at h
  | nil=>exact ⟨fun _=>0,[],trivial,RepA.znil,fun _ h=>absurd rfl h⟩
 | cons t ts ih=>
  intro vs ds ps pars hp h hv hz
  rw [lF4] at hp
  simp only [lC4,lR1,lU4,Option.some.injEq] at hp
  obtain ⟨p,hp1,pars',hps,rfl⟩:=hp
  cases vs with
  | nil=>simp [DataW.TrodAll] at h
  | cons v vs=>
  cases ds with
  | nil=>simp [DataW.TrodAll] at h
  | cons d ds=>
  obtain ⟨p1,q1,⟨fuel,h1⟩,h2,rfl⟩:=h
  simp only [DataW.weightsEach,lL] at hz
  obtain ⟨X,tss,g1,g2,g3⟩:=ih hps h2 (fun j t v h1 h2=>hv (j+1) t v (by simpa using h1) (by simpa using h2)) (fun n hn=>hz n (.inr hn))
  have hv0:=hv 0 t v rfl rfl
  obtain ⟨sh,hs,rfl⟩:=lC2.1 hp1
  obtain ⟨F,us,f1,f2,f3⟩:=ajM _ _ _ _ _ _ hs h1 fun n hn=>hz n (.inl hn)
  have r:=ane (lk:=lk0) f1
  have hlt:∀ b,F b+X b≠0→b<w.heap.size:=fun b hb=>by
   by_cases e:F b=0
   ·exact g3 b (by omega)
   ·exact f3 b e
  refine ⟨fun b=>F b+X b,us::tss,⟨f2,g1⟩,?_,hlt⟩
  rcases ag5 hp1 hv0 with ⟨e1,cs,rfl,e2⟩ | ⟨e1,e2,e3⟩
  ·simp only [ag4,anT]
   simp only at e1
   rw [e1,lF rfl]
   rw [e2] at r
   exact .agg _ (fun _=>0) (fun _=>0) _ F X cs.toList _ _ _ r g2 (fun _=>rfl) (fun _=>rfl)
  ·simp only [ag4,anT]
   simp only at e1 e2
   rw [e1,lK (by simp)]
   rw [e3] at r
   have hl:=f2.length
   rw [e2] at hl
   match us,hl with
   | [u],_=>exact RepA.append (vs:=[v]) (as:=[bv u]) r g2 (fun _=>rfl) (fun _=>rfl)
theorem abB {W W':World} {may:MemPlace→Prop} (hg:Grows W W') (hh:∀ b,b<W.heap.size→W'.heap[b]?=W.heap[b]?):W.keptBut W' may:=by
 refine ⟨hg.quiet.os,hg.quiet.out,fun i hi=>?_⟩
 rw [hh i hi]
 cases h:W.heap[i]? with
 | none=>simp
 | some o=>
  cases o with
  | cells c t fr=>exact ⟨rfl,rfl,rfl,fun _ _=>rfl⟩
  | map es clock=>exact .inr ⟨rfl,rfl⟩
  | _=>rfl
theorem y9 {sq:Nat→Bool} {W W':World} (hh:∀ b,b<W.heap.size→W'.heap[b]?=W.heap[b]?):∀ {ts:List TypeId} {vs:List Value} {ds:List (DataW H)} {ps:List MemPlace} {pars:List (Bool × List Ty)},ts.mapM (ajN P)=some pars →
  DataW.TrodAll enc P W 0 (fun _=>true) true ts vs ds ps→(∀ p ∈ ps,sq p.block=true)→DataW.TrodAll enc P W' 0 sq true ts vs ds ps:=by
 intro ts
 induction ts with
 | nil=>
  intro vs ds ps pars hp h hs
  cases vs <;> cases ds <;> simp_all [DataW.TrodAll]
 | cons t ts ih=>
  intro vs ds ps pars hp h hs
  rw [lF4] at hp
  simp only [lC4,lR1,lU4,Option.some.injEq] at hp
  obtain ⟨p,hp1,pars',hps,rfl⟩:=hp
  cases vs with
  | nil=>simp [DataW.TrodAll] at h
  | cons v vs=>
  cases ds with
  | nil=>simp [DataW.TrodAll] at h
  | cons d ds=>
  obtain ⟨p1,q1,⟨fuel,h1⟩,h2,rfl⟩:=h
  obtain ⟨sh,hsh,rfl⟩:=lC2.1 hp1
  refine ⟨p1,q1,⟨fuel,?_⟩,ih hps h2 (fun p hp=>hs p (lL.2 (.inr hp))),rfl⟩
  have hlt:=DataW.trod_lt _ _ _ _ h1
  have h3:=DataW.trod_carry (w':=W') _ _ _ _ h1 fun p hp=>by
   have:=hlt p hp
   cases p with
   | cell b off=>exact sI (hh b this)
   | map b=>exact hh b this
  exact aeh _ _ _ _ _ _ hsh h3 fun p hp=>hs p (lL.2 (.inl hp))
theorem law_returns {C:Checked} {os:Os} {f:FuncId} {fn:Func} {s:ChangeSpec} {apart fresh handsOn again:Bool} {pars:List (Bool × List Ty)} {tb:TypeId}
  (own:ownKnob C.prog.godebug=none) (started:os.Started) (noInit:C.prog.inits.idxOf? f=none) (hfn:C.prog.funcs[f]?=some fn)
  (witness:∃ (w:World) (tape:Tape) (i:Input),w.os=os∧(w.forCall tape i).Shaped C.prog∧i.vars=[]∧Input.okWide C.prog (w.forCall tape i) .any w.heap.size f i ∧
   s.pre6 enc C.prog fn [] apart (w.forCall tape i).memory i.args∧({}:Assume).holds C.prog (lone (Frame.enter C.prog f i.args .normal) [] (w.forCall tape i)))
  (hv:s.vars=[]) (hp:fn.params.toList.mapM (ajN C.prog)=some pars) (hr:fn.resultTypes=#[tb]) (hb:C.prog.underlying tb=some .bool)
  (hsf:∀ ds:List (DataW H),ds.length=pars.length→s.fn H ds={ results:=[.lit (.bool true)],args:=ds })
  (hspec:∀ tss,abA pars tss→∃ outs,bR C.prog f (ag4 pars tss) (.bool true) outs) :
  ReturnsInHanded {} C os f .any (s.pre6 enc C.prog fn [] apart) (s.post enc C.prog fn apart fresh handsOn again):=by
 refine returnsInHanded_of_change_sized own started noInit hfn witness ?_
 intro W base args ds gs before hval hW _ hz _
 have hW':=hW
 obtain ⟨p,q,hA,hV,rfl,hfz,hnd⟩:=hW
 rw [hv] at hV
 have hgs:gs=[]∧q=[]:=by cases gs <;> simp_all [DataW.TrodVars]
 obtain ⟨rfl,rfl⟩:=hgs
 have hvt:s.plain.varTypes C.prog=[]:=by simp [ChangeSpec.plain,DataSpec.varTypes,hv]
 rw [hvt] at hz
 simp only [lU2] at hz hW' hfz hnd
 obtain ⟨X,tss,h1,h2,h3⟩:=ajO (base:=base) hp hA (fun j t v e1 e2=>hval j t v (by simpa using e1) (by simpa using e2))
  (fun n hn=>Nat.le_of_lt (lI4 (by simpa using lV.1 hz n hn) reachBytes_lt))
 obtain ⟨outs,hS⟩:=hspec tss h1
 have hc:=hS.2.2 W args.toList (fun _=>0) X h2 (fun _=>by omega) (fun _=>.inl rfl) h3
 rw [Array.toArray_toList] at hc
 refine hc.mono ?_
 rintro e W' ⟨v,F',X',rfl,hrep,_,_,hg,hfr,_,_⟩
 have hvt:v=.bool true:=by
  obtain ⟨_,_,_,_,r1,_,_⟩:=RepA.uncons hrep
  cases r1; rfl
 subst hvt
 refine ⟨_,rfl,?_⟩
 have hh:∀ b,b<W.heap.size→W'.heap[b]?=W.heap[b]?:=fun b hb=>hfr b hb rfl
 have hdl:ds.length=pars.length:=by
  have e1:=mapM_some_length hp
  have:∀ {ts:List TypeId} {vs:List Value} {ds:List (DataW H)} {ps:List MemPlace},DataW.TrodAll enc C.prog W 0 (fun _=>true) true ts vs ds ps→ds.length=ts.length:=by
   intro ts
   induction ts with
   | nil=>intro vs ds ps h; cases vs <;> cases ds <;> simp_all [DataW.TrodAll]
   | cons t ts ih=>
    intro vs ds ps h
    cases vs with
    | nil=>simp [DataW.TrodAll] at h
    | cons v vs=>
    cases ds with
    | nil=>simp [DataW.TrodAll] at h
    | cons d ds=>obtain ⟨_,_,_,h2,_⟩:=h; simp [ih h2]
  rw [this hA,e1]
 have hsd:=hsf ds hdl
 have hres:∀ (b:Nat) (sp:Nat→Bool) (hd:Bool),DataW.TrodAll enc C.prog W' b sp hd fn.resultTypes.toList (Value.resultList fn.resultTypes.size (.bool true)) [.lit (.bool true)] []:=by
  intro b sp hd
  rw [hr]
  exact ⟨[],[],RowKit.shut_bool hb true,rfl,rfl⟩
 have hlt:∀ x ∈ p,x.block<W.heap.size:=fun x hx=>hW'.lt x hx
 have hTA:∀ sq:Nat→Bool,(∀ x ∈ p,sq x.block=true)→DataW.TrodAll enc C.prog W' 0 sq true fn.params.toList args.toList ds p:=fun sq hsq=>y9 hh hp hA hsq
 refine ⟨ds,[],p,[],p,[],hW',?_,?_,?_,abB hg hh,fun _=>⟨?_,.lit (.bool true)::ds,[],p,⟨p,[],?_,?_,by simp,?_,hnd⟩,fun _ h _=>h⟩⟩
 ·rw [lU2,hsd]; exact hres _ _ _
 ·rw [lU2,hsd]; exact hTA _ fun x hx=>by simpa using hlt x hx
 ·rw [lU2,hsd,hv]; rfl
 ·exact RowKit.ok_one hr rfl (RowKit.okWide_bool_mk hb true)
 ·rw [hr]; exact ⟨[],p,RowKit.shut_bool hb true,hTA _ fun _ _=>rfl,rfl⟩
 ·rw [hv]; rfl
 ·intro b off hm
  rw [World.frozen?_of_block (w:=W) (hh b (hlt _ hm))]
  exact hfz b off hm
theorem ajP {P:Program} {r:List (List Char)} (hr:behindMainWord (wordsSigns P.initOrder.toList)=[Char.ofNat 99,Char.ofNat 117,Char.ofNat 116]::r) (h2:P.laysLater=false) (h3:P.bearsReflect=false) (h4:P.doorFits []=true):P.mayEnter=true:=by
 unfold Program.mayEnter
 rw [hr]
 have h1:stripLifts liftWords ([Char.ofNat 99,Char.ofNat 117,Char.ofNat 116]::r)=([],[Char.ofNat 99,Char.ofNat 117,Char.ofNat 116]::r):=by rfl
 dsimp only
 rw [h1,h2,h3,h4]
 rfl
theorem ajQ {P:Program} {r:List (List Char)} (hr:behindMainWord (wordsSigns P.initOrder.toList)=[Char.ofNat 99,Char.ofNat 117,Char.ofNat 116]::r):P.liftsFinal=false:=by
 unfold Program.liftsFinal Program.headLifts
 rw [hr]
 have h1:stripLifts liftWords ([Char.ofNat 99,Char.ofNat 117,Char.ofNat 116]::r)=([],[Char.ofNat 99,Char.ofNat 117,Char.ofNat 116]::r):=by rfl
 rw [h1]
 rfl
theorem alX {P:Program} {r:List (List Char)} (hr:behindMainWord (wordsSigns P.initOrder.toList)=[Char.ofNat 99,Char.ofNat 117,Char.ofNat 116]::r):P.make=some .cut:=by
 unfold Program.make
 rw [hr]
 rfl
theorem oW {a b:Bool} (h:a=true) (g:b=true):(a && b)=true:=by rw [h,g]; rfl
theorem anf {P:Program} {f:FuncId} {fn:Func} {s:ChangeSpec} {c:OpenClaim} (h0:(c.wf (OpenSpec.ofChange s))=true) (h1:(laidOutB P)=true) (h2:(mapsRowed P)=true) (h3:(fn.params.all (P.readableRec ·))=true) (h4:(namedTie P c.named s.vars)=true) (h5:((c.stops == []))=true) (h6:((P.stops == []))=true) (h7:((c.knobs == []))=true) (h8:((P.stopKnobs == []))=true) (h9:((c.inPlace == P.inPlace f))=true) (h10:((c.unfollowed == P.unfollowed f))=true) (h11:((c.recurses == P.recurses f))=true) (h12:((c.named == P.varsNamed f))=true) (h13:((c.maps == (fn.params.toList++s.plain.varTypes P).any (P.mapsRec ·)))=true) (h14:((c.ifaces == (fn.params.toList++s.plain.varTypes P).any (P.ifacesRec ·)))=true) (h15:((c.mapsOut == P.mapsAmong fn.resultTypes.toList))=true) (h16:((c.loops == (fn.params.toList++s.plain.varTypes P).any (P.loopsFrom ·)))=true) (h17:((c.wideKeys == (fn.params.toList++s.plain.varTypes P++fn.resultTypes.toList).any (P.wideKeysFrom ·)))=true) (h18:(s.vars.all (P.varReadable ·))=true) (h19:(fn.resultTypes.all (fun t=>P.readableRec t && decide (t<P.types.size)))=true) (h20:((c.ifacesOut == fn.resultTypes.toList.any (P.ifacesRec ·)))=true) (h21:((c.loopsOut == fn.resultTypes.toList.any (P.loopsFrom ·)))=true) (h22:((c.plainKeys == P.plainKeys))=true) (h23:(c.shortTexts.isNone)=true) (h24:(P.stopsHeard)=true) (h25:(P.mayEnter)=true) (h26:((c.lifted == P.liftsFinal))=true) (h27:((P.make == some c.make))=true) (h28:((c.kinds == (if c.domain.isEmpty then [] else fn.params.toList.map fun t=>match P.underlying t with | some (.int k)=>some k | _=>none)))=true) (h29:((c.pinned == c.pinnedBy))=true) (h30:((c.veiled == (fn.params.toList++s.plain.varTypes P++fn.resultTypes.toList).any (P.veiledRec ·)))=true) (h31:(c.veiledFits P fn.params.toList (fn.params.toList++s.plain.varTypes P++fn.resultTypes.toList))=true):joinedFacts P f fn s c=true:=by
 unfold joinedFacts
 exact (oW (oW (oW (oW (oW (oW (oW (oW (oW (oW (oW (oW (oW (oW (oW (oW (oW (oW (oW (oW (oW (oW (oW (oW (oW (oW (oW (oW (oW (oW (oW h0 h1) h2) h3) h4) h5) h6) h7) h8) h9) h10) h11) h12) h13) h14) h15) h16) h17) h18) h19) h20) h21) h22) h23) h24) h25) h26) h27) h28) h29) h30) h31)
end
theorem ag6 {P:Program} {f:FuncId} {s:Nat} {es:List (List TV)} {as outs:List AV} {ret:AV}
  (h:∀ (a:Option Addr) (len cap:Nat),(a=none→es=[])→bR P f (.extv (.slice a len cap) s es::as) ret outs):bR P f (.ext s es::as) ret outs:=by
 have key:∀ (w:World) (X:aH) (v:Value),Row w false X [v] [.sl s es]→∃ a len cap,v=.slice a len cap∧(a=none→es=[]):=by
  intro w X v r
  cases r with
  | ext0 _ _ a cap _ _ _=>exact ⟨a,0,cap,rfl,fun _=>rfl⟩
  | ext _ _ _ _ _ a cap cs _ _ _ _ _ _ _ _ _=>exact ⟨some a,_,cap,rfl,fun h=>by cases h⟩
 by_cases hx:es=[]
 ·have h0:=h none 0 0 fun _=>hx
  refine ⟨h0.1,h0.2.1,?_⟩
  intro w vs F X r
  cases r with
  | ext _ _ X1 X2 _ _ v vs _ h1 hr hX=>
   obtain ⟨a,len,cap,rfl,ha⟩:=key w X1 v h1
   exact (h a len cap ha).2.2 w _ F X (.extv _ _ X1 X2 _ _ _ _ _ h1 hr hX)
 ·have h0:=h (some ⟨0,0,none⟩) 0 0 fun e=>by cases e
  refine ⟨h0.1,h0.2.1,?_⟩
  intro w vs F X r
  cases r with
  | ext _ _ X1 X2 _ _ v vs _ h1 hr hX=>
   obtain ⟨a,len,cap,rfl,ha⟩:=key w X1 v h1
   exact (h a len cap ha).2.2 w _ F X (.extv _ _ X1 X2 _ _ _ _ _ h1 hr hX)
mutual
def anB:AV→AV
 | .own s es=>.ext s es
 | .agg cs=>.agg (amJ cs)
 | .tup cs=>.tup (amJ cs)
 | .undef=>.undef
 | .bool b=>.bool b
 | .int k n=>.int k n
 | .str s=>.str s
 | .ext s es=>.ext s es
 | .extv v s es=>.extv v s es
 | .box cs=>.box cs
 | .xbox cs=>.xbox cs
 | .lnk r e p=>.lnk r e p
 | .sub r e p s lo n=>.sub r e p s lo n
 | .ref r e p st=>.ref r e p st
 | .fn f cs=>.fn f cs
def amJ:List AV→List AV
 | []=>[]
 | a::l=>anB a::amJ l
end
theorem alY {w:World} {F:aH} {v:Value} {s:Nat} {es:List (List TV)} (h:Row w true F [v] [.sl s es]):∃ X,Row w false X [v] [.sl s es]∧∀ b,X b≤F b:=h.weak rfl
theorem RepA.frz {w:World} {lk:Lk} {F X:aH} {vs:List Value} {as:List AV} (h:RepA w lk F X vs as) :
  ∃ F2 N X2:aH,RepA w lk F2 X2 vs (amJ as)∧(∀ b,F b=F2 b+N b)∧∀ b,X2 b≠0→X b≠0∨N b≠0:=by
 induction h with
 | nil F X hF hX=>exact ⟨F,fun _=>0,X,.nil F X hF hX,fun b=>rfl,fun b hb=>.inl hb⟩
 | undef F X v vs as h ih=>obtain ⟨F2,M,X2,r,e1,e2⟩:=ih; exact ⟨F2,M,X2,.undef _ _ _ _ _ r,e1,e2⟩
 | bool F X v vs as h ih=>obtain ⟨F2,M,X2,r,e1,e2⟩:=ih; exact ⟨F2,M,X2,.bool _ _ _ _ _ r,e1,e2⟩
 | int F X k n vs as h ih=>obtain ⟨F2,M,X2,r,e1,e2⟩:=ih; exact ⟨F2,M,X2,.int _ _ _ _ _ _ r,e1,e2⟩
 | str F X s vs as h ih=>obtain ⟨F2,M,X2,r,e1,e2⟩:=ih; exact ⟨F2,M,X2,.str _ _ _ _ _ r,e1,e2⟩
 | own F F1 F2 X s es v vs as h1 h hF ih=>
  obtain ⟨G2,M,X2,r,e1,e2⟩:=ih
  obtain ⟨Y,hy,hle⟩:=alY h1
  refine ⟨G2,fun b=>F1 b+M b,fun b=>Y b+X2 b,.ext _ _ Y X2 s es v vs _ hy r (fun _=>rfl),fun b=>by (try dsimp only); rw [hF,e1]; omega,fun b hb=>?_⟩
  have:=hle b
  by_cases hz:Y b=0
  ·rcases e2 b (by (try dsimp only at hb); omega) with h | h
   ·exact .inl h
   ·exact .inr (by (try dsimp only); omega)
  ·exact .inr (by (try dsimp only); omega)
 | ext F X X1 X2 s es v vs as h1 h hX ih=>
  obtain ⟨G2,M,Y2,r,e1,e2⟩:=ih
  refine ⟨G2,M,fun b=>X1 b+Y2 b,.ext _ _ X1 Y2 s es v vs _ h1 r (fun _=>rfl),e1,fun b hb=>?_⟩
  by_cases hz:X1 b=0
  ·rcases e2 b (by (try dsimp only at hb); omega) with h | h
   ·exact .inl (by rw [hX]; omega)
   ·exact .inr h
  ·exact .inl (by rw [hX]; omega)
 | extv F X X1 X2 s es v vs as h1 h hX ih=>
  obtain ⟨G2,M,Y2,r,e1,e2⟩:=ih
  refine ⟨G2,M,fun b=>X1 b+Y2 b,.extv _ _ X1 Y2 s es v vs _ h1 r (fun _=>rfl),e1,fun b hb=>?_⟩
  by_cases hz:X1 b=0
  ·rcases e2 b (by (try dsimp only at hb); omega) with h | h
   ·exact .inl (by rw [hX]; omega)
   ·exact .inr h
  ·exact .inl (by rw [hX]; omega)
 | box F F1 F2 X X1 X2 b C ty fr cs vs as hb hfr h1 h hF hX ih1 ih=>
  obtain ⟨G2,M,Y2,r,e1,e2⟩:=ih
  refine ⟨fun x=>(if x=b then 1 else 0)+F1 x+G2 x,M,fun x=>X1 x+Y2 x,.box _ F1 G2 _ X1 Y2 b C ty fr cs vs _ hb hfr h1 r (fun _=>rfl) (fun _=>rfl),fun x=>by (try dsimp only); rw [hF,e1]; omega,fun x hx=>?_⟩
  by_cases hz:X1 x=0
  ·rcases e2 x (by (try dsimp only at hx); omega) with h | h
   ·exact .inl (by rw [hX]; omega)
   ·exact .inr h
  ·exact .inl (by rw [hX]; omega)
 | xbox F X X1 X2 a us cs vs as hc h1 h hX ih=>
  obtain ⟨G2,M,Y2,r,e1,e2⟩:=ih
  refine ⟨G2,M,fun x=>(if x=a.block then 1 else 0)+X1 x+Y2 x,.xbox _ _ X1 Y2 a us cs vs _ hc h1 r (fun _=>rfl),e1,fun x hx=>?_⟩
  by_cases hz:(if x=a.block then 1 else 0)+X1 x=0
  ·rcases e2 x (by (try dsimp only at hx); omega) with h | h
   ·exact .inl (by rw [hX]; omega)
   ·exact .inr h
  ·exact .inl (by rw [hX]; omega)
 | agg F F1 F2 X X1 X2 us cs vs as h1 h hF hX ih1 ih=>
  obtain ⟨G1,M1,Y1,r1,f1,f2⟩:=ih1
  obtain ⟨G2,M,Y2,r,e1,e2⟩:=ih
  refine ⟨fun x=>G1 x+G2 x,fun x=>M1 x+M x,fun x=>Y1 x+Y2 x,.agg _ G1 G2 _ Y1 Y2 us _ vs _ r1 r (fun _=>rfl) (fun _=>rfl),fun x=>by (try dsimp only); rw [hF,f1,e1]; omega,fun x hx=>?_⟩
  by_cases hz:Y1 x=0
  ·rcases e2 x (by (try dsimp only at hx); omega) with h | h
   ·exact .inl (by rw [hX]; omega)
   ·exact .inr (by (try dsimp only); omega)
  ·rcases f2 x hz with h | h
   ·exact .inl (by rw [hX]; omega)
   ·exact .inr (by (try dsimp only); omega)
 | tup F F1 F2 X X1 X2 us cs vs as h1 h hF hX ih1 ih=>
  obtain ⟨G1,M1,Y1,r1,f1,f2⟩:=ih1
  obtain ⟨G2,M,Y2,r,e1,e2⟩:=ih
  refine ⟨fun x=>G1 x+G2 x,fun x=>M1 x+M x,fun x=>Y1 x+Y2 x,.tup _ G1 G2 _ Y1 Y2 us _ vs _ r1 r (fun _=>rfl) (fun _=>rfl),fun x=>by (try dsimp only); rw [hF,f1,e1]; omega,fun x hx=>?_⟩
  by_cases hz:Y1 x=0
  ·rcases e2 x (by (try dsimp only at hx); omega) with h | h
   ·exact .inl (by rw [hX]; omega)
   ·exact .inr (by (try dsimp only); omega)
  ·rcases f2 x hz with h | h
   ·exact .inl (by rw [hX]; omega)
   ·exact .inr (by (try dsimp only); omega)
 | fn F F1 F2 X X1 X2 f us cs vs as h1 h hF hX ih1 ih=>
  obtain ⟨G2,M,Y2,r,e1,e2⟩:=ih
  refine ⟨fun x=>F1 x+G2 x,M,fun x=>X1 x+Y2 x,.fn _ F1 G2 _ X1 Y2 f us cs vs _ h1 r (fun _=>rfl) (fun _=>rfl),fun x=>by (try dsimp only); rw [hF,e1]; omega,fun x hx=>?_⟩
  by_cases hz:X1 x=0
  ·rcases e2 x (by (try dsimp only at hx); omega) with h | h
   ·exact .inl (by rw [hX]; omega)
   ·exact .inr h
  ·exact .inl (by rw [hX]; omega)
 | lnk F X r e p o v vs as ho hv h ih=>obtain ⟨F2,M,X2,r',e1,e2⟩:=ih; exact ⟨F2,M,X2,.lnk _ _ _ _ _ _ _ _ _ ho hv r',e1,e2⟩
 | sub F X r e p s lo n o v vs as ho hv h ih=>obtain ⟨F2,M,X2,r',e1,e2⟩:=ih; exact ⟨F2,M,X2,.sub _ _ _ _ _ _ _ _ _ _ _ _ ho hv r',e1,e2⟩
 | ref F X r e p st o v vs as ho hv h ih=>obtain ⟨F2,M,X2,r',e1,e2⟩:=ih; exact ⟨F2,M,X2,.ref _ _ _ _ _ _ _ _ _ _ ho hv r',e1,e2⟩
theorem zA {P:Program} {f:FuncId} {args outs:List AV} {ret:AV} (h:bR P f args ret outs):bR P f args (anB ret) outs:=by
 refine ⟨h.1,h.2.1,?_⟩
 intro w vs F X r h1 h2 h3
 refine (h.2.2 w vs F X r h1 h2 h3).mono ?_
 rintro e w' ⟨v,F',X',he,r',q1,q2,q3,q4,q5,q6⟩
 obtain ⟨A1,A2,Y1,Y2,r1,r2,eA,eY⟩:=RepA.uncons r'
 obtain ⟨F2,M,X2,r3,eF,eX⟩:=RepA.frz r1
 have r4:RepA w' lk0 (fun b=>F2 b+A2 b) (fun b=>X2 b+Y2 b) (v::vs) (anB ret::outs):=RepA.cons (by simpa [amJ] using r3) r2 (fun _=>rfl) (fun _=>rfl)
 refine ⟨v,_,_,he,r4,fun b=>?_,fun b=>?_,q3,q4,fun b hb=>?_,fun b hb=>?_⟩
 ·have:=q1 b; have:=eF b; have:=eA b; (try dsimp only); omega
 ·have a1:=q1 b; have a2:=q2 b; have a3:=eF b; have a4:=eX b; have a5:=eA b; have a6:=eY b
  by_cases hz:X2 b=0
  ·(try dsimp only); omega
  ·have:=a4 hz; (try dsimp only); omega
 ·exact q5 b (by have:=eF b; have:=eA b; (try dsimp only at hb); omega)
 ·by_cases hz:X2 b=0
  ·exact q6 b (by have:=eY b; (try dsimp only at hb); omega)
  ·rcases eX b hz with hx | hm
   ·exact q6 b (by have:=eY b; omega)
   ·have hF:F' b≠0:=by have:=eF b; have:=eA b; omega
    refine ⟨?_,r'.lt b hF⟩
    rcases q5 b hF with g | g
    ·exact .inr (.inl g)
    ·exact .inr (.inr g)
theorem ag7 {P:Program} {f:FuncId} {as as' outs:List AV} {ret:AV} (h:bR P f as ret outs) (hl:as'.length=as.length)
  (hw:∀ (w:World) (F X:aH) (vs:List Value),RepA w lk0 F X vs as'→∃ F2 N X2:aH,RepA w lk0 F2 X2 vs as∧(∀ b,F b=F2 b+N b)∧∀ b,X2 b≠0→X b≠0∨N b≠0):bR P f as' ret outs:=by
 refine ⟨h.1,by rw [h.2.1,hl],?_⟩
 intro w vs F X r h1 h2 h3
 obtain ⟨F2,M,X2,r2,eF,eX⟩:=hw w F X vs r
 refine (h.2.2 w vs F2 X2 r2 (fun b=>by have:=h1 b; have:=eF b; omega) (fun b=>?_) (fun b hb=>?_)).mono ?_
 ·have a1:=h1 b; have a2:=h2 b; have a3:=eF b; have a4:=eX b
  by_cases hz:X2 b=0
  ·exact .inr hz
  ·have:=a4 hz; omega
 ·rcases eX b hb with hx | hm
  ·exact h3 b hx
  ·exact r.lt b (by have:=eF b; omega)
 ·rintro e w' ⟨v,F',X',he,r',q1,q2,q3,q4,q5,q6⟩
  refine ⟨v,F',X',he,r',q1,q2,q3,fun b hb h0=>q4 b hb (by have:=eF b; omega),fun b hb=>?_,fun b hb=>?_⟩
  ·rcases q5 b hb with g | g
   ·exact .inl (by have:=eF b; omega)
   ·exact .inr g
  ·obtain ⟨g,g'⟩:=q6 b hb
   refine ⟨?_,g'⟩
   rcases g with g | g | g
   ·rcases eX b g with hx | hm
    ·exact .inl hx
    ·exact .inr (.inl (by have:=eF b; omega))
   ·exact .inr (.inl (by have:=eF b; omega))
   ·exact .inr (.inr g)
theorem aei {P:Program} {f:FuncId} {x:AV} {s:Nat} {es:List (List TV)} {outs:List AV} {ret:AV} (h:bR P f [x,.ext s es] ret outs):bR P f [x,.own s es] ret outs:=by
 refine ag7 h rfl fun w F X vs r=>?_
 cases vs with
 | nil=>have:=r.length; simp at this
 | cons v vs=>
  obtain ⟨A1,A2,Y1,Y2,r1,r2,eA,eY⟩:=RepA.uncons r
  obtain ⟨F2,M,X2,r3,e1,e2⟩:=RepA.frz r2
  refine ⟨fun b=>A1 b+F2 b,M,fun b=>Y1 b+X2 b,RepA.cons r1 (by simpa [amJ,anB] using r3) (fun _=>rfl) (fun _=>rfl),fun b=>by have:=eA b; have:=e1 b; (try dsimp only); omega,fun b hb=>?_⟩
  by_cases hz:X2 b=0
  ·exact .inl (by have:=eY b; (try dsimp only at hb); omega)
  ·rcases e2 b hz with h | h
   ·exact .inl (by have:=eY b; omega)
   ·exact .inr h
section
section
variable {w:Wk} {st:List Fr} {E:Env} {is:List GI} {bs:List Nat} {acc:List Rcd}
theorem akS {P:Program} {f nt:Nat} {rs:List RV} {cmd:Cmd} (hm:P.follows .mixedOrders=true) (hc:aE P f=some (nt,rs,cmd)) (md:fP) (ks:Nat) (bs:List Bool) {args outs:List AV} {ret:AV}
  (hlen:args.length≤nt∧args.length≤32) (hol:outs.length=args.length) (hroots:cR bs args=true)
  (h:∀ w:Wk,w.P=P→(w.md=md∧w.ks=ks∧w.Q=Fin rs bs args ret outs)→C w cmd [] (mkV ks (bH 0 bs args++dG 0 bs args) (bH 0 bs args++dG 0 bs args) [])):bR P f args ret outs:=
 anc hm hc md ks bs hlen hol hroots fun w h1 h2 h3 h4=>h w h1 ⟨h2,h3,h4⟩
theorem bE {P:Program} {f nt:Nat} {rs:List RV} {cmd:Cmd} (hm:P.follows .mixedOrders=true) (hc:aE P f=some (nt,rs,cmd)) (md:fP) (ks:Nat) (hks:ks.testBit 999=false) (bs:List Bool) {args:List AV} {R:AV→List AV→Prop}
  (hlen:args.length≤nt∧args.length≤32) (hroots:cR bs args=true)
  (h:∀ w:Wk,w.P=P→(w.md=md∧w.ks=ks∧w.Q=wX rs bs args R)→C w cmd [] (mkV ks (bH 0 bs args++dG 0 bs args) (bH 0 bs args++dG 0 bs args) [])):∃ ret outs,R ret outs∧bR P f args ret outs:=
 ajG hm hc md ks hks bs hlen hroots fun w h1 h2 h3 h4=>h w h1 ⟨h2,h3,h4⟩
theorem bG {σ:Type} (D:List Nat) (v:σ→List (Nat × AV)) (J:σ→Prop) (μ:σ→Nat) (s0:σ) {c:Cmd} {P:Program} {md:fP} {ks:Nat} {q:Ex→Env→Prop} {l:List (Nat × AV)} (hP:w.P=P) (hq:w.md=md∧w.ks=ks∧w.Q=q) (hE:mX l (v s0)=l) (h0:J s0)
  (step:∀ s,J s→∀ w':Wk,w'.P=P→(w'.md=md∧w'.ks=ks∧w'.Q=LQD D ks l v J μ s (T w st))→C w' c [] (mkV ks (mX l (v s)) [] [])):LHD w c st D (mkV ks l [] []):=
 anb D v J μ s0 hP hq.1 hq.2.1 hE h0 fun s hs w' h1 h2 h3 h4=>step s hs w' h1 ⟨h2,h3,h4⟩
theorem aoa {σ:Type} (v:σ→List (Nat × AV)) (J:σ→Prop) (μ:σ→Nat) (s0:σ) {c:Cmd} {P:Program} {md:fP} {ks:Nat} {q:Ex→Env→Prop} {l:List (Nat × AV)} (hP:w.P=P) (hq:w.md=md∧w.ks=ks∧w.Q=q) (hE:mX l (v s0)=l) (h0:J s0)
  (step:∀ s,J s→∀ w':Wk,w'.P=P→(w'.md=md∧w'.ks=ks∧w'.Q=LQ ks l v J μ s (T w st))→C w' c [] (mkV ks (mX l (v s)) [] [])):LH w c st (mkV ks l [] []):=
 ana v J μ s0 hP hq.1 hq.2.1 hE h0 fun s hs w' h1 h2 h3 h4=>step s hs w' h1 ⟨h2,h3,h4⟩
theorem cI {d:Option Nat} {f:Nat} {ok:Bool} {args outs:List AV} {ret:AV} {ln:Option (Nat × Nat × a8)} {P:Program} (hP:w.P=P) (hS:bR P f args ret outs)
  (hx:dW (ret::outs)=false) (hv:dX (ret::outs)=[]) {pls:List Plc} (h:B w d ret is st (mU E ln pls outs)):Y0 w d f ok pls is st args E ln:=
 iM hP hS (.inl ⟨hx,fun x hx'=>by rw [hv] at hx'; cases hx'⟩) h
theorem cH {d:Option Nat} {f:Nat} {ok:Bool} {args outs:List AV} {ret:AV} {ln:Option (Nat × Nat × a8)} {P:Program} (hP:w.P=P) (hS:bR P f args ret outs)
  (hx:dW (ret::outs)=false) (hv:dX (ret::outs)=[]) {pls:List Plc} (h:BH w d ret bs acc is st (mU E ln pls outs)):YH0 w d f ok pls bs acc is st args E ln:=
 f0 hP hS (.inl ⟨hx,fun x hx'=>by rw [hv] at hx'; cases hx'⟩) h
theorem cK {d:Option Nat} {f:Nat} {cs ds outs:List AV} {ret:AV} {P:Program} (hP:w.P=P) (hS:afI P f cs ds ret outs)
  (hx:dW (ret::outs)=false) (hv:dX (ret::outs)=[]) (h:G w is st (mQ E d ret)):YK0 w d f is st cs ds E:=⟨ret,outs,hP ▸ hS,⟨hx,hv⟩,h⟩
theorem cKH {d:Option Nat} {f:Nat} {cs ds outs:List AV} {ret:AV} {P:Program} (hP:w.P=P) (hS:afI P f cs ds ret outs)
  (hx:dW (ret::outs)=false) (hv:dX (ret::outs)=[]) (h:H w bs acc is st (mQ E d ret)):an9 w d f bs acc is st cs ds E:=⟨ret,outs,hP ▸ hS,⟨hx,hv⟩,h⟩
theorem anC (hk:w.ks.testBit 999=true) (hp:is.all plG=true) (t:BT) (h:aiJ w.P w.md is (T w st .n) E (ltB bs) t):RS w bs is st E:=⟨hk,hp,t,h⟩
theorem dA {lt:Nat→Nat→Bool} {σ:List Nat} {is':List GI} (bs':List Nat) (hp:afM is.length σ=true) (hb:amM lt σ=bs') (hi:(σ.map fun i=>is.getD i default)=is') (h:H w bs' [] is' st E):aiJ w.P w.md is (T w st .n) E lt (.leaf σ):=
 ⟨hp,by rw [hb,hi]; exact h⟩
end
end
section
variable {P:Program}
theorem ang {w:World} {vl:Nat→Value} {E:Env} {us:List Value} {cs:List AV} (hE:∀ (i s:Nat) (es:List (List TV)),cs[i]?=some (.own s es)→E.f (rt 0 i)=.own s es∧E.ep (rt 0 i)=(0,0))
  (hb:∀ (i:Nat) (c:AV),cs[i]?=some c→c.isRoot=true→∃ s es,c=.own s es) (hv:∀ (i:Nat) (u:Value),us[i]?=some u→vl (rt 0 i)=u) (r e:Nat) (p:a8) (o:Option Value) (h:lkK w us cs r e p=some o):aN w vl E r e p=some o:=by
 unfold lkK at h
 split at h
 case isFalse=>cases h
 rename_i he
 subst he
 split at h
 case h_2=>cases h
 rename_i c u hc hu
 obtain ⟨⟨h1,h2,h3⟩,h4⟩:=aD h
 obtain ⟨s,es,rfl⟩:=hb _ c hc h2
 obtain ⟨g1,g2⟩:=hE _ s es hc
 have g3:=hv _ u hu
 have e1:rt 0 ((r-1032)/32)=r:=h1.symm
 rw [e1] at g1 g2 g3
 unfold aN
 rw [g1,g2,g3,lK (by simp [fM]),lF ⟨by simp [fM],rfl,h3⟩]
 simpa using h4
theorem zB {f:Nat} {fn:Func} {c:Code} {cmd:Cmd} {cs ds outs:List AV} {ret:AV} {ks:Nat} {rs:List RV} (hf:P.funcs[f]?=some fn) (hb:fn.body=some c)
  (hnm:(fn.name == "runtime.NumGoroutine")=false) (hn:fn.ntmps≤1000) (hlen:2≤fn.ntmps) (hres:ajC P fn.ntmps fn.results.toList=some rs) (hol:outs.length=2)
  (hcs:cs.length≤30) (hbx:cs.all (fun | .box _=>false | _=>true)=true) (hD:P.follows .mixedOrders=true) (hc:l8 P fn.ntmps c=some cmd)
  (h:awp P ks cmd (fun x E'=>(x=.r∨x=.n)∧abn rs [true,false] [.agg cs,.agg ds] ret outs E') (mkE (bH 0 [true] [.agg cs]++dG 0 [true] [.agg cs]++[(1,.agg ds)]) [])):afI P f cs ds ret outs:=by
 refine ⟨⟨fn,hf,by rw [hb]; rfl,hnm⟩,hol,?_⟩
 intro w us zs F X hrep hrep2 hF1 hdis hXlt
 let v0:Value:=.agg us.toArray
 let v1:Value:=.agg zs.toArray
 let B:Base:=⟨w,F,X,fn.ntmps⟩
 let hv:Nat→Value:=amH [v0,v1]
 let a:Act:={ tmps:=[v0,v1].toArray++Array.replicate (fn.ntmps - [v0,v1].toArray.size) undef,defers:=[] }
 have hsize:a.tmps.size=B.n:=by simp [a,B]; omega
 have hroots:cR [true] [.agg cs]=true:=by simp [cR,hcs]
 have hvl1:∀ j v,[v0,v1][j]?=some v→aI a.tmps hv (0+j)=v∧aI a.tmps hv (1000+(0+j))=v∧hv (1000+(0+j))=v:=by
  intro j v hj
  have hjl:j<2:=(lI.1 hj).1
  rw [lF2]
  have hh:hv (1000+j)=v:=wV (by omega) hj
  refine ⟨?_,?_,hh⟩
  ·unfold aI
   rw [lF (by rw [hsize]; show j<fn.ntmps; omega)]
   have hjl':j<[v0,v1].length:=hjl
   have ht:a.tmps=[v0,v1].toArray++Array.replicate (fn.ntmps - [v0,v1].toArray.size) undef:=rfl
   rw [ht,lW,Array.getElem?_append_left (by simpa using hjl'),List.getElem?_toArray,hj]
   rfl
  ·rw [pD (by rw [hsize]; show fn.ntmps≤_; omega)]; exact hh
 have hvl2:∀ i v,us[i]?=some v→aI a.tmps hv (rt (0+0) i)=v∧hv (rt (0+0) i)=v:=by
  intro i v hi
  have:=yU (vs:=[v0,v1]) (k:=0) (us:=us) (by omega) rfl hi
  exact ⟨by rw [pD (by rw [hsize]; show fn.ntmps≤_; simp only [rt]; omega)]; exact this,this⟩
 have R0:Rel B hv w a (mkE [] []) (fun _ _=>0) (fun _ _=>0):=
  ⟨hsize,rfl,fun t=>.undef _ _ _ _ _ RepA.znil,fun _ _=>by omega,fun _ _ _ _=>.inl rfl,fun _ _ _=>.inl rfl,Grows.refl _,fun _ _ _=>rfl,fun _ _ h=>absurd rfl h,fun _ _ h=>absurd rfl h,fun _ _ h=>absurd rfl h⟩
 have P0:PR B hv w a (mkE [] []) (fun _ _=>0) (fun _ _=>0) F X [v0] [.agg cs]:=
  ⟨R0,.agg _ F (fun _=>0) _ X (fun _=>0) us cs [] [] (hrep.lk0 _) RepA.znil (fun _=>rfl) (fun _=>rfl),hF1,fun _ _=>.inr rfl,fun _ _=>.inr rfl,fun _ _=>.inr rfl,hdis,fun b hb=>.inl hb,fun b hb=>⟨.inl hb,hXlt b hb⟩⟩
 obtain ⟨Fs1,Xs1,FP1,XP1,P1⟩:=sZ (B:=B) [.agg cs] [true] 0 [v0] [] (by simp) (by show 0+1≤fn.ntmps; omega) hn (by simp)
  (fun j v hj=>by
   have hj0:j=0:=by have:=(lI.1 hj).1; simp at this; exact this
   subst hj0
   have:=hvl1 0 v (by simpa using hj)
   exact ⟨this.1,this.2.1⟩)
  (fun j us' i v hj hi=>by
   have hj0:j=0:=by have:=(lI.1 hj).1; simp at this; exact this
   subst hj0
   have e:us'=us:=by
    have:v0=.agg us'.toArray:=by simpa using hj
    injection this with h; simpa using h.symm
   subst e
   exact (hvl2 i v hi).1) P0
 obtain ⟨k1,k2,k3⟩:=yY [.agg cs] [true] 0 0 (.agg cs) rfl rfl (by simp)
 have hg:∀ i s es,cs[i]?=some (.own s es)→c5 (bH 0 [true] [.agg cs]) (rt 0 i)=.own s es:=fun i s es hi=>k2 cs rfl i s es hi
 obtain ⟨Fs2,Xs2,R2⟩:=s7 (B:=B) (w:=w) [.agg cs] [true] 0 (bH 0 [true] [.agg cs]) (by simp) (by show 0+1≤fn.ntmps; omega) hn (by
  intro j x hj hbj
  have hj0:j=0:=by have:=(lI.1 hj).1; simp at this; exact this
  subst hj0
  have:x=.agg cs:=by simpa using hj.symm
  subst this
  refine ⟨fun hr=>(by cases hr),fun cs' hcs'=>?_,k3⟩
  cases hcs'
  exact ⟨us,(hvl1 0 v0 rfl).1,hrep.prims,fun i s es hi=>hg i s es hi,fun i v hi=>(hvl2 i v hi).1⟩) hroots (by simpa using P1.rel)
 have hfar:pM (dG 0 [true] [.agg cs]) 1∧∀ q,1000≤q→pM (dG 0 [true] [.agg cs]) q:=by
  refine ⟨?_,fun q hq=>?_⟩ <;> intro p hp <;> simp [dG] at hp <;> subst hp <;> simp <;> omega
 have hno:pM (bH 0 [true] [.agg cs]++dG 0 [true] [.agg cs]) 1:=by
  intro p hp
  rcases lL.1 hp with hp | hp
  ·obtain ⟨i,h1,h2⟩:=qR [.agg cs] [true] 0 p hp
   have hi0:i=0:=by simp at h1; exact h1
   subst hi0
   rcases h2 with ⟨_,h2 | ⟨c,h2⟩⟩ | ⟨h2,_⟩
   ·omega
   ·rw [h2]; simp only [rt]; omega
   ·simp at h2
  ·exact hfar.1 p hp
 have hr1:RepA w (aN w (aI a.tmps hv) (mkE (bH 0 [true] [.agg cs]++dG 0 [true] [.agg cs]) [])) (fun _=>0) (fun _=>0) [v1] [.agg ds]:=by
  refine .agg _ (fun _=>0) (fun _=>0) _ (fun _=>0) (fun _=>0) zs ds [] [] ?_ RepA.znil (fun _=>rfl) (fun _=>rfl)
  refine hrep2.same (fun r e p o ho=>.inr ?_) (fun _ _=>rfl) (fun _ _=>rfl)
  refine ang (fun i s es hi=>⟨?_,rfl⟩) ?_ (fun i u hu=>(hvl2 i u hu).1) r e p o ho
  ·rw [ak7,rY (hfar.2 _ (by simp only [rt]; omega))]; exact hg i s es hi
  ·intro i c hc hr
   rw [lV] at hbx
   have:=hbx c (lS2 hc)
   cases c with
   | own s es=>exact ⟨s,es,rfl⟩
   | box cs=>cases this
   | _=>cases hr
 obtain ⟨XP',P2⟩:=PR.ofRel R2 hr1 (fun _=>rfl) (fun b hb=>absurd rfl hb)
 obtain ⟨Fs3,Xs3,FP3,XP3,P3⟩:=PR.place P2 (q:=1) (hid':=hv) (hvl1 1 v1 rfl).1 (fun _ _=>rfl)
 rw [wW hno] at P3
 have G:bB B hv w a (mkE (bH 0 [true] [.agg cs]++dG 0 [true] [.agg cs]++[(1,.agg ds)]) []):=⟨hv,Fs3,Xs3,P3.rel,fun _ _=>rfl⟩
 have hcalls:=calls_of_wp (args:=#[v0,v1]) hf hb (yT (B:=B) hn hD ks c cmd _ _ _ a w hc ?_ h G) (R:=fun e w'=>∃ v F' X',e=.returned v∧RepA w' lk0 F' X' (v::[v0,v1]) (ret::outs)∧(∀ b,F' b≤1)∧(∀ b,F' b=0∨X' b=0) ∧
   Grows w w'∧(∀ b,b<w.heap.size→F b=0→w'.heap[b]?=w.heap[b]?)∧(∀ b,F' b≠0→F b≠0∨w.heap.size≤b)∧(∀ b,X' b≠0→(X b≠0∨F b≠0∨w.heap.size≤b)∧b<w'.heap.size))
 ·exact hcalls
 rintro x E' a' w' ⟨hx,hdone⟩ G'
 obtain ⟨⟨l,E2⟩,hq,hret,houts,hlk⟩:=hdone
 obtain ⟨hid,Fs4,Xs4,R4,hh⟩:=G'
 obtain ⟨ts,Fs5,Xs5,FP5,XP5,hrun,hul,P5⟩:=vB (l:=l) (E':=E2) hres (PR.nil R4) hq
 simp only [lD1] at P5
 obtain ⟨E6,Fs6,Xs6,FP6,XP6,P6⟩:=vC [.agg cs,.agg ds] 0 [true,false] (vs:=[v0,v1]) rfl (by simp) hn (by
  intro j v hj
  have hjl:j<2:=(lI.1 hj).1
  rw [hh _ (by omega)]
  exact (hvl1 j v hj).2.2) (by
  intro j cs' hj hbj
  have hj0:j=0:=by
   match j,hbj with
   | 0,_=>rfl
   | 1,h=>simp at h
   | n+2,h=>simp at h
  subst hj0
  have:cs'=cs:=by simpa using hj.symm
  subst this
  refine ⟨us,rfl,hrep.prims,fun i v hi=>?_⟩
  have hil:=(lI.1 hi).1
  have hul:=hrep.length
  rw [hh _ (by simp only [rt]; omega)]
  exact (hvl2 i v hi).2) P5
 have P7:=agQ P6 hul
 simp only at hret houts
 rw [hret,houts] at P7
 have fin:a'.defers=[]∧∃ v,(results fn a'.tmps).run P w'=.ok v w'∧∃ v_1 F' X',Ending.returned v=.returned v_1∧RepA w' lk0 F' X' (v_1::[v0,v1]) (ret::outs)∧(∀ b,F' b≤1)∧(∀ b,F' b=0∨X' b=0) ∧
   Grows w w'∧(∀ b,b<w.heap.size→F b=0→w'.heap[b]?=w.heap[b]?)∧(∀ b,F' b≠0→F b≠0∨w.heap.size≤b)∧(∀ b,X' b≠0→(X b≠0∨F b≠0∨w.heap.size≤b)∧b<w'.heap.size):=
  ⟨R4.dfr,_,s9 hrun,_,FP6,XP6,rfl,P7.rep.noLk lk0 hlk,P7.one,P7.dx3,P7.rel.grow,P7.rel.frame,P7.org,P7.orgx⟩
 rcases hx with rfl | rfl
 ·exact fin
 ·exact fin
theorem anU {f nt:Nat} {rs:List RV} {cmd:Cmd} (hm:P.follows .mixedOrders=true) (hc:aE P f=some (nt,rs,cmd)) (md:fP) (ks:Nat) {cs ds outs:List AV} {ret:AV}
  (hlen:2≤nt) (hol:outs.length=2) (hcs:cs.length≤30) (hbx:cs.all (fun | .box _=>false | _=>true)=true)
  (h:∀ w:Wk,w.P=P→(w.md=md∧w.ks=ks∧w.Q=Fin rs [true,false] [.agg cs,.agg ds] ret outs) →
   C w cmd [] (mkV ks (bH 0 [true] [.agg cs]++dG 0 [true] [.agg cs]++[(1,.agg ds)]) (bH 0 [true] [.agg cs]++dG 0 [true] [.agg cs]++[(1,.agg ds)]) [])):afI P f cs ds ret outs:=by
 unfold aE at hc
 obtain ⟨fn,hf,hc⟩:=bind_some hc
 obtain ⟨c,hb,hc⟩:=bind_some hc
 obtain ⟨⟨h1,h2⟩,hc⟩:=aD hc
 obtain ⟨rs',hr,hc⟩:=bind_some hc
 obtain ⟨cmd',hcmd,hc⟩:=map_some hc
 cases hc
 refine zB (ks:=ks) hf hb h1 h2 hlen hr hol hcs hbx hm hcmd (alR (md:=md) cmd ?_ fun x E h=>h)
 rw [alU ks]
 exact mC cmd (h ⟨P,md,ks,Fin rs [true,false] [.agg cs,.agg ds] ret outs⟩ rfl ⟨rfl,rfl,rfl⟩) fun x E hx=>by rw [y7] at hx; exact hx
end
end Go.Proofs.YtnfeefcnblondaaGreat.Awp
