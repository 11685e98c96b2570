/- Contracts of the functions that laws.FnRemoved reaches are proved here (part 2). Condition: none. -/
import Derived.Test.YtnfngemnghiehaaGreatDoorFnRemovedX1
import Derived.Test.YtnfngemnghiehaaGreatDoorAwp3
import Derived.Test.YtnfngemnghiehaaGreatDoorRows
import Derived.Test.YtnfngemnghiehaaGreatDoorCards
import Derived.Test.YtnfngemnghiehaaGreatDoorTie
import Derived.Shelf.Lays
import Derived.Sort.Walk0
import Derived.Shelf.Strings.Search3
import Derived.Shelf.Strings.Count
import Derived.Shelf.Strings.OnBuilder
import Derived.Shelf.Sort.Plain
import Derived.Shelf.Slices.In.SortNone
import Derived.Shelf.Spec.SlicesInsert
import Derived.Shelf.Spec.SlicesInsertGrow
import Derived.Deep.MidRow
import Derived.ArgAppend
import Derived.OpenShut
import Derived.SevenTiedAt
import Derived.KernelRfl
set_option linter.unusedVariables false
set_option linter.unusedSimpArgs false
set_option maxRecDepth 100000
set_option maxHeartbeats 20000000
open Nat (reduceEqDiff reduceAdd reduceMul reduceSub)
open Int (reduceNeg reduceToNat reducePow)
namespace Go.Proofs.YtnfngemnghiehaaGreatDoor.Awp
theorem apP (l:List aA) (n:aA):l.map cP++[[TV.str n]]=(l++[n]).map cP:=by simp [cP]
theorem amm (c:UInt8):((c.toNat:Int)=47)↔c=47:=by
 rw [← UInt8.toNat_inj]
 show _↔c.toNat=47
 omega
theorem dO (s:aA) (hl:s.length<2^40):aZ Tryz.prog 91 [.str s] (.tup [.own 1 ((aC s).1.map cP),.bool (aC s).2]) [.undef]:=by
 by_cases h0:s=[47]
 ·subst h0
  refine U rL [] 253 [] fun w hP hQ=>?_
  unfold m3
  refine N ?_
  rfl
 refine U rL [] 253 [] fun w hP hQ=>?_
 unfold m3
 refine N ?_
 have hz:=h0
 refine Nz ?_
 refine eJ [2,3,7] ?_
 refine N ?_
 refine aR [2,3,7] (fun x:Nat × Nat × List aA=>[(4,.own 1 (x.2.2.map cP)),(5,.int .i64 (x.2.1:Nat)),(6,.int .i64 (x.1:Nat))]) (fun x=>Cut s x.1 x.2.1 x.2.2) (fun x=>s.length+1-x.1) ((0,0,[])) hP hQ (rfl) (Cut.zero s) ?_
 rintro ⟨i,j,out⟩ hC w1 hP1 hQ1
 refine N1 ?_
 simp only at hC
 have c1:=hC.le
 have c2:=hC.end'
 have c3:=hC.len
 (first | with_reducible refine cN _ ?_ ?_ | refine cO _ ?_ ?_) <;> intro h1
 ·have next:(i=s.length∨∃ h:i<s.length,s[i]=47)→_:=fun hc=>hc
  by_cases hi:i<s.length∧∃ h:i<s.length,s[i]≠47
  ·obtain ⟨_,h2,h3⟩:=hi
   have e1:decide (((i:Nat):Int)<(s.length:Nat))=true:=lE (by omega)
   have e2:decide (((s[i].toNat:Nat):Int)=47)=false:=lB fun e=>h3 ((amm _).1 e)
   have hz:=And.intro e1 (And.intro e2 (bF (show ((i:Nat):Int)<(s.length:Nat) by omega)))
   refine Nz1 ?_
   exact ⟨(i+1,j,out),rfl,hC.skip h2 h3,by simp only; omega⟩
  ·have hc:i=s.length∨∃ h:i<s.length,s[i]=47:=by
    by_cases e:i<s.length
    ·exact .inr ⟨e,Classical.byContradiction fun h=>hi ⟨e,e,h⟩⟩
    ·exact .inl (by omega)
   have hw:1≤s.length→i<s.length→∃ h:i<s.length,s[i]=47:=fun _ h=>hc.resolve_left (by omega)
   have e1:∃ b:Bool,decide (((i:Nat):Int)<(s.length:Nat))=b:=⟨_,rfl⟩
   rcases Nat.eq_zero_or_pos i with rfl | hp
   ·obtain rfl:=hC.z rfl
    have hF:Cut s 1 1 []:=Cut.first (hc.imp (fun h=>h.symm) id)
    rcases hc with hc | ⟨hc,hx⟩
    ·have e1:decide (((0:Nat):Int)<(s.length:Nat))=false:=lB (by omega)
     have e1':decide ((0:Int)<(s.length:Nat))=false:=lB (by omega)
     have hz:=And.intro e1 e1'
     refine Nz1 ?_
     exact ⟨(1,1,[]),rfl,hF,by simp only; omega⟩
    ·have e1:decide (((0:Nat):Int)<(s.length:Nat))=true:=lE (by omega)
     have e1':decide ((0:Int)<(s.length:Nat))=true:=lE (by omega)
     have e2:decide (((s[0].toNat:Nat):Int)=47)=true:=lE ((amm _).2 hx)
     have hz:=And.intro e1 (And.intro e1' (And.intro e2 (bF (show ((0:Nat):Int)<(s.length:Nat) by omega))))
     refine Nz1 ?_
     exact ⟨(1,1,[]),rfl,hF,by simp only; omega⟩
   ·have hi2:i≤s.length:=by omega
    have e3:decide ((0:Int)<((i:Nat):Int))=true:=lE (by omega)
    have e4:(((i:Nat):Int)-(j:Nat)).toNat=i-j:=by omega
    have e5:(0:Int)≤(j:Nat)∧((j:Nat):Int)≤(i:Nat)∧((i:Nat):Int)≤(s.length:Nat):=by omega
    have hB:=hC.bad hp hi2 hc
    have hN:=hC.next hp hi2 hc
    have hO:=dJ ((s.drop j).take (i-j)) (by simp; omega)
    obtain ⟨nm,hnm⟩:∃ nm,(s.drop j).take (i-j)=nm:=⟨_,rfl⟩
    rw [hnm] at hB hN hO
    rcases hc with hc | ⟨hc,hx⟩
    ·have e1:decide (((i:Nat):Int)<(s.length:Nat))=false:=lB (by omega)
     have hz:=And.intro e1 (And.intro e3 (And.intro e4 (And.intro e5 hnm)))
     refine Nz1 ?_
     cases hn:aY nm with
     | false=>
      rw [hn] at hO
      (first|refine cI hP1 (hO) rfl rfl ?_|refine cH hP1 (hO) rfl rfl ?_)
      simp +decide (maxSteps:=9^9) (disch:=omega) only[↓SB0,SX,seval,hQ,hQ1,hB (.inl hn) h0,lR1]
     | true=>
      rw [hn] at hO
      by_cases h30:out.length=30
      ·(first|refine cI hP1 (hO) rfl rfl ?_|refine cH hP1 (hO) rfl rfl ?_)
       simp +decide (maxSteps:=9^9) (disch:=omega) only[↓SB0,SX,seval,hQ,hQ1,h30,hB (.inr h30) h0,lR1]
      ·have e6:decide (((out.length:Nat):Int)=30)=false:=lB (by omega)
       have hC2:=hN hn (by omega)
       have hz:=And.intro e6 apP
       refine Kz1 (hO) ?_
       exact ⟨(i+1,i+1,out++[nm]),rfl,hC2,by simp only; omega⟩
    ·have e1:decide (((i:Nat):Int)<(s.length:Nat))=true:=lE (by omega)
     have e2:decide (((s[i].toNat:Nat):Int)=47)=true:=lE ((amm _).2 hx)
     have hz:=And.intro e1 (And.intro e2 (And.intro e3 (And.intro e4 (And.intro e5 (And.intro hnm (bF (show ((i:Nat):Int)<(s.length:Nat) by omega)))))))
     refine Nz1 ?_
     cases hn:aY nm with
     | false=>
      rw [hn] at hO
      (first|refine cI hP1 (hO) rfl rfl ?_|refine cH hP1 (hO) rfl rfl ?_)
      simp +decide (maxSteps:=9^9) (disch:=omega) only[↓SB0,SX,seval,hQ,hQ1,hB (.inl hn) h0,lR1]
     | true=>
      rw [hn] at hO
      by_cases h30:out.length=30
      ·(first|refine cI hP1 (hO) rfl rfl ?_|refine cH hP1 (hO) rfl rfl ?_)
       simp +decide (maxSteps:=9^9) (disch:=omega) only[↓SB0,SX,seval,hQ,hQ1,h30,hB (.inr h30) h0,lR1]
      ·have e6:decide (((out.length:Nat):Int)=30)=false:=lB (by omega)
       have hC2:=hN hn (by omega)
       have hz:=And.intro e6 apP
       refine Kz1 (hO) ?_
       exact ⟨(i+1,i+1,out++[nm]),rfl,hC2,by simp only; omega⟩
 ·obtain rfl:i=s.length+1:=by omega
  cases s with
  | nil=>
   simp +decide (maxSteps:=9^9) (disch:=omega) only[↓SB0,SX,seval,hQ,hQ1,tI (s:=[]) (by simp),lR1]
  | cons c s=>
   have e7:decide ((((s.length+1:Nat)):Int)=0)=false:=lB (by omega)
   have e8:(0:Int)<((s.length+1:Nat):Int):=by omega
   by_cases hc:c=47
   ·subst hc
    simp +decide (maxSteps:=9^9) (disch:=omega) only[↓SB0,SX,seval,hQ,hQ1,e7,e8,lQ3,hC.done rfl h0]
   ·have e9:decide (((c.toNat:Nat):Int)=47)=false:=lB fun e=>hc ((amm _).1 e)
    simp +decide (maxSteps:=9^9) (disch:=omega) only[↓SB0,SX,seval,hQ,hQ1,e7,e8,lQ3,e9,tI (s:=c::s) (by simpa using hc),lR1]
theorem afb (l:List aA) (hl:l.length<2^30) (hs:∀ n ∈ l,n.length≤14):aZ Tryz.prog 139 [.ext 1 (l.map cP)] (.str (bX l)) [.undef]:=by
 by_cases h0:l=[]
 ·subst h0
  refine U tW [] 29 [] fun w hP hQ=>?_
  unfold oE
  refine N ?_
  rfl
 have hp:0<l.length:=lX2.2 h0
 have hd:decide (((l.length:Nat):Int)=0)=false:=lB (by omega)
 refine U tW [] 29 [] fun w hP hQ=>?_
 unfold oE
 refine N ?_
 have hz:=hd
 refine Nz ?_
 refine eJ [2] ?_
 refine N ?_
 refine aR [2] (fun i:Nat=>[(3,.str (c6 (l.take i))),(4,.int .i64 (i:Nat))]) (fun i=>i≤l.length∧(i=0∨l.length≤30)∧∀ k,k<i→(h:k<l.length)→aY l[k]=true) (fun i=>l.length-i) (0) hP hQ (rfl) (by simp) ?_
 rintro i ⟨hi,h30,hk⟩ w1 hP1 hQ1
 refine N1 ?_
 (first | with_reducible refine cN _ ?_ ?_ | refine cO _ ?_ ?_) <;> intro h1
 ·have hlt:i<l.length:=by omega
  have hO:=dJ (l[i]) (by have:=hs _ (lN hlt); omega)
  have hm:=lN hlt
  simp +decide (maxSteps:=9^9) (disch:=omega) only[↓SB0,SX,seval,hQ,hQ1,bF h1,cP]
  cases hn:aY (l[i]'(by omega)) with
  | false=>
   rw [hn] at hO
   have e:bX l=[]:=by rw [bX,lI (by simp [ac0 hm hn])]
   have hz:=e
   exact Kz1 (hO) trivial
  | true=>
   rw [hn] at hO
   by_cases hg:30<l.length
   ·have e:bX l=[]:=by rw [bX,lI (by simp [aab hg])]
    have hg':decide ((30:Int)<(l.length:Nat))=true:=lE (by omega)
    have hz:=And.intro e hg'
    exact Kz1 (hO) trivial
   ·have hg':decide ((30:Int)<(l.length:Nat))=false:=lB (by omega)
    have hb:(c6 (l.take i)).length≤450:=xL (o9 (by rw [lT]; omega) fun n hn=>by
     obtain ⟨k,hk1,rfl⟩:=lN1 hn
     rw [List.getElem_take]
     exact hk k (by simp at hk1; omega) _)
    have hc:=hs _ hm
    have hb2:(c6 (l.take i)++[47]).length+(l[i]).length≤4611686018427387904:=by simp only [lU,List.length_singleton]; omega
    have he:c6 (l.take i)++[47]++l[i]=c6 (l.take (i+1)):=by rw [lR hlt,ah2]; simp
    (first|refine cI hP1 (hO) rfl rfl ?_|refine cH hP1 (hO) rfl rfl ?_)
    simp +decide (maxSteps:=9^9) (disch:=omega) only[↓SB0,SX,seval,hQ,hQ1,hg',bF h1,cP,hb2,he]
    exact ⟨i+1,rfl,⟨by omega,.inr (by omega),fun k hk1 hk2=>by
     by_cases e:k=i
     ·subst e; exact hn
     ·exact hk k (by omega) hk2⟩,by omega⟩
 ·obtain rfl:i=l.length:=by omega
  have e:bX l=c6 l:=by
   rw [bX,lF (o9 (by omega) fun n hn=>by obtain ⟨k,h,rfl⟩:=lN1 hn; exact hk k h h),lI h0]
  simp +decide (maxSteps:=9^9) (disch:=omega) only[↓SB0,SX,seval,hQ,hQ1,e,lX1]
theorem fP (s:aA) (hl:s.length<2^40):aZ Tryz.prog 75 [.str s] (.tup [.str (aJ s).1,.str (aJ s).2.1,.bool (aJ s).2.2]) [.undef]:=by
 have hS:=dO s hl
 have hp:=tJ (s:=s)
 have hf:=mL s
 unfold aJ
 generalize aC s=x at *
 obtain ⟨l,b⟩:=x
 cases b with
 | false=>
  rw [lI (by simp)]
  refine U oG [] 253 [] fun w hP hQ=>?_
  unfold jW
  refine N ?_
  exact K (hS) trivial
 | true=>
  cases hk:l.length with
  | zero=>
   obtain rfl:l=[]:=lQ1.1 hk
   rw [lI (by simp)]
   refine U oG [] 253 [] fun w hP hQ=>?_
   unfold jW
   refine N ?_
   exact K (hS) trivial
  | succ k=>
   have hne:l≠[]:=fun e=>by rw [e] at hk; simp at hk
   rw [lF ⟨rfl,hne⟩]
   have hJ:=afb l.dropLast (by simp; simp only at hf; omega) fun n hn=>hp n (List.dropLast_subset _ hn)
   rw [List.dropLast_eq_take,hk] at hJ ⊢
   simp only [Nat.add_sub_cancel,lU4] at hJ ⊢
   have hg:=xM hk
   have h0:(decide (((k+1:Nat):Int)=0))=false:=lB (by omega)
   have h1:(((k+1:Nat):Int)-1)=(k:Int):=by omega
   have h2:((k:Int)-0).toNat=k:=by omega
   have h3:0+k≤k+1:=by omega
   have h4:=aad (n:=k) (by simp only [hk] at hf; omega)
   refine U oG [] 253 [] fun w hP hQ=>?_
   unfold jW
   refine N ?_
   have hz:=And.intro hk (And.intro h0 (And.intro h1 (And.intro h2 (And.intro h3 h4))))
   refine Kz (hS) ?_
   (first|refine cI hP (hJ) rfl rfl ?_|refine cH hP (hJ) rfl rfl ?_)
   simp +decide (maxSteps:=9^9) (disch:=omega) only[↓SB0,SX,seval,hQ,hk,h0,h1,h2,h3,h4,hg,cP]
theorem amn (a b:aA) (ha:a.length<2^40) (hb:b.length<2^40):aZ Tryz.prog 98 [.str a,.str b] (.bool (aa9 a b)) [.undef,.undef]:=by
 have hS:=dO a ha
 have hT:=dO b hb
 have hf:=mL a
 have hg:=mL b
 unfold aa9
 generalize aC a=x at *
 generalize aC b=y at *
 obtain ⟨l,u⟩:=x
 obtain ⟨m,v⟩:=y
 simp only at *
 cases u with
 | false=>
  refine U rM [] 1011 [] fun w hP hQ=>?_
  unfold oC
  refine N ?_
  refine K (hS) ?_
  exact K (hT) trivial
 | true=>
  cases v with
  | false=>
   refine U rM [] 1011 [] fun w hP hQ=>?_
   unfold oC
   refine N ?_
   refine K (hS) ?_
   exact K (hT) trivial
  | true=>
   by_cases hn:l.length≤m.length
   ·rw [ae9 hn]
    have h0:decide (((m.length:Nat):Int)<(l.length:Nat))=false:=lB (by omega)
    refine U rM [] 1011 [] fun w hP hQ=>?_
    unfold oC
    refine N ?_
    refine K (hS) ?_
    have hz:=h0
    refine Kz (hT) ?_
    refine eJ [4] ?_
    refine N ?_
    refine aR [4] (fun i:Nat=>[(9,.int .i64 i)]) (fun i=>i≤l.length∧l.take i=m.take i) (fun i=>l.length-i) (0) hP hQ (rfl) (by simp) ?_
    rintro i ⟨hi,hab⟩ w1 hP1 hQ1
    refine N1 ?_
    (first | with_reducible refine cN _ ?_ ?_ | refine cO _ ?_ ?_) <;> intro h1
    ·have h5:((i:Nat):Int)<(m.length:Nat):=by omega
     simp +decide (maxSteps:=9^9) (disch:=omega) only[↓SB0,SX,seval,hQ,hQ1,bF h1,bF h5,cP]
     (first | with_reducible refine cN _ ?_ ?_ | refine cO _ ?_ ?_) <;> intro h2
     ·refine N1 ?_
      exact ⟨i+1,rfl,⟨by omega,iF hab _ _ h2⟩,by omega⟩
     ·refine N1 ?_
      rw [lB (show ¬ l=m.take l.length from fun e=>h2 (by
       have:=congrArg (fun x=>x[i]?) e
       simp only [lH1] at this
       rw [lF (by omega),lJ (by omega),lJ (by omega)] at this
       exact Option.some.inj this))]
    ·obtain rfl:i=l.length:=by omega
     rw [lX1] at hab
     refine N1 ?_
     rw [lE hab]
   ·rw [afa (by omega)]
    have h0:decide (((m.length:Nat):Int)<(l.length:Nat))=true:=lE (by omega)
    refine U rM [] 1011 [] fun w hP hQ=>?_
    unfold oC
    refine N ?_
    refine K (hS) ?_
    have hz:=h0
    exact Kz (hT) trivial
section
section
variable {α:Type} {key:α→aA}
theorem ah4 {l:List α} {e:α} {k:Nat} (hk:k≤l.length) (h1:∀ j,j<k→(h:j<l.length)→¬ key e<key l[j]) (h2:∀ h:k<l.length,key e<key l[k]):xA key l e=l.take k++e::l.drop k:=by
 induction l generalizing k with
 | nil=>simp at hk; subst hk; rfl
 | cons f l ih=>
  rw [xA]
  cases k with
  | zero=>have h:=h2 (by simp); simp only [lV3] at h; rw [lF h]; rfl
  | succ k=>
   have h:=h1 0 (by omega) (by simp)
   simp only [lV3] at h
   rw [lI h,ih (k:=k) (by simpa using hk) (fun j hj h=>h1 (j+1) (by omega) (by simpa using h)) (fun h=>h2 (by simpa using h))]
   rfl
theorem sB {l:List α} (hu:UpK key l) {e:α} {k:Nat} (hk:k≤l.length) (h1:∀ j,k≤j→(h:j<l.length)→key e<key l[j]) (h2:k=0∨∃ h:k-1<l.length,¬ key e<key l[k-1]):xA key l e=l.take k++e::l.drop k:=by
 refine ah4 hk (fun j hj h hlt=>?_) (fun h=>h1 k (lS1 _) h)
 rcases h2 with h2 | ⟨h2,h3⟩
 ·omega
 ·by_cases e1:j=k-1
  ·subst e1; exact h3 hlt
  ·exact h3 (List.lt_trans hlt (lK3.1 hu j (k-1) h h2 (by omega)))
end
theorem aaf {l:List Inode} (h:UpI l) {x:Inode} {k:Nat} (hk:l.findIdx? (fun y=>decide (y.ino=x.ino))=some k):bR l x=l.set k x:=by
 induction l generalizing k with
 | nil=>simp at hk
 | cons y l ih=>
  obtain ⟨a1,a2⟩:=lD1.1 h
  rw [List.findIdx?_cons] at hk
  rw [bR]
  by_cases e:y.ino=x.ino
  ·rw [lF (by simpa using e)] at hk
   injection hk with hk
   subst hk
   rw [lF e]; rfl
  ·rw [lI (by simpa using e)] at hk
   cases hf:l.findIdx? (fun y=>decide (y.ino=x.ino)) with
   | none=>rw [hf] at hk; cases hk
   | some j=>
    rw [hf] at hk
    injection hk with hk
    subst hk
    obtain ⟨j1,j2,_⟩:=lA2.1 hf
    have:=a1 _ (lN j1)
    simp only [decide_eq_true_eq] at j2
    rw [lI e,lI (by omega),ih a2 hf]; rfl
theorem ac6 {l:List Inode} {x:Inode} {k:Nat} (hk:k≤l.length) (h1:∀ j,j<k→(h:j<l.length)→l[j].ino<x.ino) (h2:∀ h:k<l.length,x.ino<l[k].ino):bR l x=l.take k++x::l.drop k:=by
 induction l generalizing k with
 | nil=>simp at hk; subst hk; rfl
 | cons y l ih=>
  rw [bR]
  cases k with
  | zero=>
   have:=h2 (by simp)
   simp only [lV3] at this
   rw [lI (by omega),lF this]; rfl
  | succ k=>
   have:=h1 0 (by omega) (by simp)
   simp only [lV3] at this
   rw [lI (by omega),lI (by omega),ih (k:=k) (by simpa using hk) (fun j hj h=>h1 (j+1) (by omega) (by simpa using h)) (fun h=>h2 (by simpa using h))]
   rfl
theorem set_comm {t:Tab} (h:UpI t.inodes) {x y:Inode} (hne:x.ino≠y.ino):aH (aH t x) y=aH (aH t y) x:=by
 refine aop (gA (gA h x) y) (gA (gA h y) x) rfl fun i=>?_
 rw [cE (gA h x),cE h,cE (gA h y),cE h]
 by_cases e1:y.ino=i <;> by_cases e2:x.ino=i <;> simp [e1,e2]
 omega
theorem ac7 {α:Type} {l:List α} {k:Nat} {h:α} (hk:k≤l.length):(l.take k++h::l.drop k).length=l.length+1:=by simp; omega
theorem ac8 {α:Type} {l:List α} {k:Nat} {h:α} (hk:k<l.length):((l.take (k+1)++h::l.drop (k+1)))[k]?=some l[k]:=by
 rw [lJ3 (by simp; omega),lH1,lF (by omega),lJ hk]
theorem sC {α:Type} {l:List α} {k:Nat} (h x:α) (hk:k≤l.length):(l.take k++h::l.drop k).set k x=l.take k++x::l.drop k:=by
 have:(l.take k).length=k:=by simp; omega
 rw [List.set_append_right _ _ (by omega)]
 congr 1
 rw [this,Nat.sub_self]; rfl
theorem aag {α:Type} {l:List α} {k:Nat} (hk:k<l.length):l.take (k+1)++l[k]::l.drop (k+1)=l.take k++l[k]::l.drop k:=by
 rw [lR hk,lM2]
 congr 1
 rw [← lL2 hk]; rfl
end
section
variable {t:Tab}
def ah5 (t:Tab) (s:aA):Rs (List aA):=match cM t s with
 | .ok x=>if x.kind=2 then .ok (x.ents.map Ent.name) else .error 3
 | .error c=>.error c
def exL:Rs (List aA)→List aA
 | .ok b=>b
 | .error _=>[]
theorem ah6 {s:aA} (h:(bB t s).2≠0):(bB t s).1=t:=by
 unfold bB at *
 split <;> rename_i e
 ·rw [lF e] at h
  split <;> rename_i e2
  ·rw [e2] at h
   simp only at h
   split <;> rename_i e3
   ·rw [lF e3] at h
    split <;> rename_i e4
    ·rw [lF e4] at h; exact absurd rfl h
    ·rfl
   ·rfl
  ·rfl
 ·rfl
theorem aow {s:aA} (hs:(aC s).2=true) {i:Int} (h:aT (aD t) (aC s).1 1=some i):cM t s=match aD t i with
  | some x=>.ok x
  | none=>.error 2:=by
 rw [cM,(ago hs).2 h,lF rfl]
 cases aD t i <;> rfl
theorem iM {s:aA} {c:Int} (h:cM t s=.error c):c≠0:=by
 unfold cM at h
 split at h
 ·split at h
  ·cases h
  ·cases h; decide
 ·rename_i e; cases h; exact e
theorem u5 {s:aA} {c:Int} (h:nC t s=.error c):c≠0:=by
 unfold nC at h
 split at h
 ·split at h
  ·cases h
  ·cases h; decide
 ·rename_i e; cases h; exact iM e
end
theorem bC (m:Nat):((m+1:Nat):Int)-1=(m:Int):=by omega
theorem iN {α:Type} {p:Nat→α→Bool} {lt:α→α→Bool} {l:List α} {i:Nat} (hk:∀ k,k<i→dM p lt l k=true) (hi:dM p lt l i=true):∀ k,k<i+1→dM p lt l k=true:=by
 intro k hlt
 by_cases e:k=i
 ·subst e; exact hi
 ·exact hk k (by omega)
theorem fJ {α:Type} {p:Nat→α→Bool} {lt:α→α→Bool} {l:List α} {i:Nat} (h:i<l.length) (hp:p i l[i]=false):dM p lt l i=false:=by
 rw [dM,lJ h]; simp [hp]
theorem aku {l:List Attr} {n:Nat} (h:szM Attr.sz l<n):l.length<n∧∀ x ∈ l,x.name.length<n∧x.val.length<n:=by
 refine ⟨by simp only [szM] at h; omega,fun x hx=>?_⟩
 have:=aa8 (f:=Attr.sz) hx
 simp only [szM] at h
 simp only [Attr.sz] at this
 omega
theorem ana {l:List Ent} {n:Nat} (h:szM Ent.sz l<n):l.length<n∧∀ x ∈ l,x.name.length<n:=by
 refine ⟨by simp only [szM] at h; omega,fun x hx=>?_⟩
 have:=aa8 (f:=Ent.sz) hx
 simp only [szM] at h
 simp only [Ent.sz] at this
 omega
theorem akv {p q:Prop} [Decidable p] [Decidable q] (h:p↔q):decide p=decide q:=by simp [h]
theorem aah (l:List Attr) (hs:szM Attr.sz l<2^48):aZ Tryz.prog 202 [.ext 2 (l.map Attr.row)] (.bool (mH l)) [.undef]:=by
 obtain ⟨hl,hls⟩:=aku hs
 refine U aeN [] 13 [] fun w hP hQ=>?_
 unfold wM
 refine N ?_
 refine eJ [2] ?_
 refine N ?_
 refine aR [2] (fun i:Nat=>[(3,.int .i64 i)]) (fun i=>i≤l.length∧∀ k,k<i→dM (fun _=>rW) oO l k=true) (fun i=>l.length-i) (0) hP hQ (rfl) (by simp) ?_
 rintro i ⟨hi,hk⟩ w1 hP1 hQ1
 refine N1 ?_
 (first | with_reducible refine cN _ ?_ ?_ | refine cO _ ?_ ?_) <;> intro h1
 ·have hlt:i<l.length:=by omega
  have hno:dM (fun _=>rW) oO l i=false→mH l=false:=fun e=>(fun e=>by rw [mH,tF,e]; rfl) (pD hlt e)
  obtain hla:=hls _ (lN hlt)
  cases hN:aY (l[i]'hlt).name with
  | false=>
   have hz:=(bF h1)
   refine Nz1 ?_
   have hz:=hN
   refine Kz1 (dJ (l[i]'hlt).name (by omega)) ?_
   rw [hno (fJ hlt (by simp [rW,hN]))]
  | true=>
   cases hV:inR (((l[i]'hlt).val.length:Nat)) 1 16 with
   | false=>
    have hz:=(bF h1)
    refine Nz1 ?_
    have hz:=And.intro hN (bF h1)
    refine Kz1 (dJ (l[i]'hlt).name (by omega)) ?_
    have hz:=hV
    refine Kz1 (eR (((l[i]'hlt).val.length:Nat)) 1 16) ?_
    rw [hno (fJ hlt (by simp [rW,hV]))]
   | true=>
    cases i with
    | zero=>
     have hz:=(bF h1)
     refine Nz1 ?_
     have hz:=And.intro hN (bF h1)
     refine Kz1 (dJ (l[0]'hlt).name (by omega)) ?_
     have hz:=And.intro hV (bF h1)
     refine Kz1 (eR (((l[0]'hlt).val.length:Nat)) 1 16) ?_
     exact ⟨1,rfl,⟨by omega,iN hk (by rw [fO hlt]; simp [rW,hN,hV])⟩,by omega⟩
    | succ m=>
     have w4:decide ((0:Int)<((m+1:Nat):Int))=true:=lE (by omega)
     have hm:=bF (show ((m:Nat):Int)<(l.length:Nat) by omega)
     cases hD:strLt (l[m]'(by omega)).name (l[m+1]'hlt).name with
     | false=>
      have hz:=(bF h1)
      refine Nz1 ?_
      have hz:=And.intro hN (bF h1)
      refine Kz1 (dJ (l[m+1]'hlt).name (by omega)) ?_
      have hz:=And.intro hV (And.intro w4 (And.intro bC (And.intro hm (And.intro (bF h1) hD))))
      refine Kz1 (eR (((l[m+1]'hlt).val.length:Nat)) 1 16) ?_
      rw [hno (by rw [bY hlt,oO,← iX,hD]; simp)]
     | true=>
      have hz:=(bF h1)
      refine Nz1 ?_
      have hz:=And.intro hN (bF h1)
      refine Kz1 (dJ (l[m+1]'hlt).name (by omega)) ?_
      have hz:=And.intro hV (And.intro w4 (And.intro bC (And.intro hm (And.intro (bF h1) hD))))
      refine Kz1 (eR (((l[m+1]'hlt).val.length:Nat)) 1 16) ?_
      exact ⟨m+1+1,rfl,⟨by omega,iN hk (by rw [bY hlt,oO,← iX,hD]; simp [rW,hN,hV])⟩,by omega⟩
 ·obtain rfl:i=l.length:=by omega
  have e:tF l=true:=jP fun k h=>hk k h
  refine N1 ?_
  rw [mH,e,lZ3]
  rw [akv (p:=(l.length:Int)≤4) (q:=l.length≤4) (by omega)]
theorem ac9 (l:List Ent) (hs:szM Ent.sz l<2^48):aZ Tryz.prog 201 [.ext 2 (l.map Ent.row)] (.bool (xF l)) [.undef]:=by
 obtain ⟨hl,hls⟩:=ana hs
 refine U ahO [] 13 [] fun w hP hQ=>?_
 unfold zM
 refine N ?_
 refine eJ [2] ?_
 refine N ?_
 refine aR [2] (fun i:Nat=>[(3,.int .i64 i)]) (fun i=>i≤l.length∧∀ k,k<i→dM (fun _=>agm) xE l k=true) (fun i=>l.length-i) (0) hP hQ (rfl) (by simp) ?_
 rintro i ⟨hi,hk⟩ w1 hP1 hQ1
 refine N1 ?_
 (first | with_reducible refine cN _ ?_ ?_ | refine cO _ ?_ ?_) <;> intro h1
 ·have hlt:i<l.length:=by omega
  have hno:dM (fun _=>agm) xE l i=false→xF l=false:=fun e=>(fun e=>by rw [xF,zY,e]; rfl) (pD hlt e)
  obtain hla:=hls _ (lN hlt)
  cases hN:aY (l[i]'hlt).name with
  | false=>
   have hz:=(bF h1)
   refine Nz1 ?_
   have hz:=hN
   refine Kz1 (dJ (l[i]'hlt).name (by omega)) ?_
   rw [hno (fJ hlt (by simp [agm,hN]))]
  | true=>
   cases hV:inR ((l[i]'hlt).ino) 2 1000 with
   | false=>
    have hz:=(bF h1)
    refine Nz1 ?_
    have hz:=And.intro hN (bF h1)
    refine Kz1 (dJ (l[i]'hlt).name (by omega)) ?_
    have hz:=hV
    refine Kz1 (eR ((l[i]'hlt).ino) 2 1000) ?_
    rw [hno (fJ hlt (by simp [agm,hV]))]
   | true=>
    cases i with
    | zero=>
     have hz:=(bF h1)
     refine Nz1 ?_
     have hz:=And.intro hN (bF h1)
     refine Kz1 (dJ (l[0]'hlt).name (by omega)) ?_
     have hz:=And.intro hV (bF h1)
     refine Kz1 (eR ((l[0]'hlt).ino) 2 1000) ?_
     exact ⟨1,rfl,⟨by omega,iN hk (by rw [fO hlt]; simp [agm,hN,hV])⟩,by omega⟩
    | succ m=>
     have w4:decide ((0:Int)<((m+1:Nat):Int))=true:=lE (by omega)
     have hm:=bF (show ((m:Nat):Int)<(l.length:Nat) by omega)
     cases hD:strLt (l[m]'(by omega)).name (l[m+1]'hlt).name with
     | false=>
      have hz:=(bF h1)
      refine Nz1 ?_
      have hz:=And.intro hN (bF h1)
      refine Kz1 (dJ (l[m+1]'hlt).name (by omega)) ?_
      have hz:=And.intro hV (And.intro w4 (And.intro bC (And.intro hm (And.intro (bF h1) hD))))
      refine Kz1 (eR ((l[m+1]'hlt).ino) 2 1000) ?_
      rw [hno (by rw [bY hlt,xE,← iX,hD]; simp)]
     | true=>
      have hz:=(bF h1)
      refine Nz1 ?_
      have hz:=And.intro hN (bF h1)
      refine Kz1 (dJ (l[m+1]'hlt).name (by omega)) ?_
      have hz:=And.intro hV (And.intro w4 (And.intro bC (And.intro hm (And.intro (bF h1) hD))))
      refine Kz1 (eR ((l[m+1]'hlt).ino) 2 1000) ?_
      exact ⟨m+1+1,rfl,⟨by omega,iN hk (by rw [bY hlt,xE,← iX,hD]; simp [agm,hN,hV])⟩,by omega⟩
 ·obtain rfl:i=l.length:=by omega
  have e:zY l=true:=jP fun k h=>hk k h
  refine N1 ?_
  rw [xF,e,lZ3]
  rw [akv (p:=(l.length:Int)≤10) (q:=l.length≤10) (by omega)]
theorem aai (l:List Attr) (hs:szM Attr.sz l<2^48):aZ Tryz.prog 198 [.ext 2 (l.map Attr.row)] (.bool (mH l)) [.undef]:=by
 obtain ⟨hl,hls⟩:=aku hs
 refine U aeM [] 253 [] fun w hP hQ=>?_
 unfold wL
 refine N ?_
 refine eJ [2,3,4,5004] ?_
 refine N ?_
 refine aR [2,3,4,5004] (fun i:Nat=>[(7,.int .i64 i)]) (fun i=>i≤l.length∧∀ k,k<i→dM (fun _=>rW) oO l k=true) (fun i=>l.length-i) (0) hP hQ (rfl) (by simp) ?_
 rintro i ⟨hi,hk⟩ w1 hP1 hQ1
 refine N1 ?_
 (first | with_reducible refine cN _ ?_ ?_ | refine cO _ ?_ ?_) <;> intro h1
 ·have hlt:i<l.length:=by omega
  have hno:dM (fun _=>rW) oO l i=false→mH l=false:=fun e=>(fun e=>by rw [mH,tF,e]; rfl) (pD hlt e)
  obtain hla:=hls _ (lN hlt)
  cases hN:aY (l[i]'hlt).name with
  | false=>
   have hz:=(bF h1)
   refine Nz1 ?_
   have hz:=hN
   refine Kz1 (eS (l[i]'hlt).name (by omega)) ?_
   rw [hno (fJ hlt (by simp [rW,hN]))]
  | true=>
   cases hV:inR (((l[i]'hlt).val.length:Nat)) 1 16 with
   | false=>
    have hz:=(bF h1)
    refine Nz1 ?_
    have hz:=And.intro hN (bF h1)
    refine Kz1 (eS (l[i]'hlt).name (by omega)) ?_
    have hz:=hV
    refine Kz1 (j5 (((l[i]'hlt).val.length:Nat)) 1 16) ?_
    rw [hno (fJ hlt (by simp [rW,hV]))]
   | true=>
    cases i with
    | zero=>
     have hz:=(bF h1)
     refine Nz1 ?_
     have hz:=And.intro hN (bF h1)
     refine Kz1 (eS (l[0]'hlt).name (by omega)) ?_
     have hz:=And.intro hV (bF h1)
     refine Kz1 (j5 (((l[0]'hlt).val.length:Nat)) 1 16) ?_
     exact ⟨1,rfl,⟨by omega,iN hk (by rw [fO hlt]; simp [rW,hN,hV])⟩,by omega⟩
    | succ m=>
     have w4:decide ((0:Int)<((m+1:Nat):Int))=true:=lE (by omega)
     have hm:=bF (show ((m:Nat):Int)<(l.length:Nat) by omega)
     cases hD:strLt (l[m]'(by omega)).name (l[m+1]'hlt).name with
     | false=>
      have hz:=(bF h1)
      refine Nz1 ?_
      have hz:=And.intro hN (bF h1)
      refine Kz1 (eS (l[m+1]'hlt).name (by omega)) ?_
      have hz:=And.intro hV (And.intro w4 (And.intro bC (And.intro hm (And.intro (bF h1) hD))))
      refine Kz1 (j5 (((l[m+1]'hlt).val.length:Nat)) 1 16) ?_
      rw [hno (by rw [bY hlt,oO,← iX,hD]; simp)]
     | true=>
      have hz:=(bF h1)
      refine Nz1 ?_
      have hz:=And.intro hN (bF h1)
      refine Kz1 (eS (l[m+1]'hlt).name (by omega)) ?_
      have hz:=And.intro hV (And.intro w4 (And.intro bC (And.intro hm (And.intro (bF h1) hD))))
      refine Kz1 (j5 (((l[m+1]'hlt).val.length:Nat)) 1 16) ?_
      exact ⟨m+1+1,rfl,⟨by omega,iN hk (by rw [bY hlt,oO,← iX,hD]; simp [rW,hN,hV])⟩,by omega⟩
 ·obtain rfl:i=l.length:=by omega
  have e:tF l=true:=jP fun k h=>hk k h
  refine N1 ?_
  rw [mH,e,lZ3]
  rw [akv (p:=(l.length:Int)≤4) (q:=l.length≤4) (by omega)]
theorem yE (a b:aA) (ha:a.length<2^48) (hb:b.length<2^48):aZ Tryz.prog 135 [.ext 1 (aM a),.ext 1 (aM b)] (.bool (decide (a=b))) [.undef,.undef]:=by
 refine U x9 [] 12339 [] fun w hP hQ=>?_
 unfold pP
 refine N ?_
 (first | with_reducible refine cN _ ?_ ?_ | refine cO _ ?_ ?_) <;> intro h
 ·refine N ?_
  refine eJ [4,5] ?_
  refine N ?_
  refine aR [4,5] (fun i:Nat=>[(13,.int .i64 i)]) (fun i=>i≤a.length∧a.take i=b.take i) (fun i=>a.length-i) (0) hP hQ (rfl) (by simp) ?_
  rintro i ⟨hi,hab⟩ w1 hP1 hQ1
  refine N1 ?_
  (first | with_reducible refine cN _ ?_ ?_ | refine cO _ ?_ ?_) <;> intro h1
  ·have hz:=And.intro (bF h1) (bF (h ▸ h1))
   refine Nz1 ?_
   (first | with_reducible refine cN _ ?_ ?_ | refine cO _ ?_ ?_) <;> intro h2
   ·refine N1 ?_
    exact ⟨i+1,rfl,⟨by omega,iF hab _ _ (UInt8.toNat_inj.1 (by omega))⟩,by omega⟩
   ·refine N1 ?_
    rw [lB]
    rintro rfl; exact h2 rfl
  ·refine N1 ?_
   rw [lE (uY hab (by omega) (by omega))]
 ·have hz:=hQ
  refine Nz ?_
  rw [lB]
  rintro rfl; exact h rfl
theorem abi (a b:List Ent) (ha:a.length<2^48) (hb:b.length<2^48):aZ Tryz.prog 136 [.ext 2 (a.map Ent.row),.ext 2 (b.map Ent.row)] (.bool (decide (a=b))) [.undef,.undef]:=by
 refine U aa4 [] 12339 [] fun w hP hQ=>?_
 unfold rH
 refine N ?_
 (first | with_reducible refine cN _ ?_ ?_ | refine cO _ ?_ ?_) <;> intro h
 ·refine N ?_
  refine eJ [4,5] ?_
  refine N ?_
  refine aR [4,5] (fun i:Nat=>[(13,.int .i64 i)]) (fun i=>i≤a.length∧a.take i=b.take i) (fun i=>a.length-i) (0) hP hQ (rfl) (by simp) ?_
  rintro i ⟨hi,hab⟩ w1 hP1 hQ1
  refine N1 ?_
  (first | with_reducible refine cN _ ?_ ?_ | refine cO _ ?_ ?_) <;> intro h1
  ·have hz:=And.intro (bF h1) (bF (h ▸ h1))
   refine Nz1 ?_
   (first | with_reducible refine cN _ ?_ ?_ | refine cO _ ?_ ?_) <;> intro h2
   ·refine N1 ?_
    exact ⟨i+1,rfl,⟨by omega,iF hab _ _ (Ent.eq' (by simp at h2; exact h2.1) (by simp at h2; exact h2.2))⟩,by omega⟩
   ·refine N1 ?_
    rw [lB]
    rintro rfl; simp at h2
  ·refine N1 ?_
   rw [lE (uY hab (by omega) (by omega))]
 ·have hz:=hQ
  refine Nz ?_
  rw [lB]
  rintro rfl; exact h rfl
theorem yF (a b:List Attr) (ha:a.length<2^48) (hb:b.length<2^48):aZ Tryz.prog 137 [.ext 2 (a.map Attr.row),.ext 2 (b.map Attr.row)] (.bool (decide (a=b))) [.undef,.undef]:=by
 refine U yA [] 12339 [] fun w hP hQ=>?_
 unfold pQ
 refine N ?_
 (first | with_reducible refine cN _ ?_ ?_ | refine cO _ ?_ ?_) <;> intro h
 ·refine N ?_
  refine eJ [4,5] ?_
  refine N ?_
  refine aR [4,5] (fun i:Nat=>[(13,.int .i64 i)]) (fun i=>i≤a.length∧a.take i=b.take i) (fun i=>a.length-i) (0) hP hQ (rfl) (by simp) ?_
  rintro i ⟨hi,hab⟩ w1 hP1 hQ1
  refine N1 ?_
  (first | with_reducible refine cN _ ?_ ?_ | refine cO _ ?_ ?_) <;> intro h1
  ·have hz:=And.intro (bF h1) (bF (h ▸ h1))
   refine Nz1 ?_
   (first | with_reducible refine cN _ ?_ ?_ | refine cO _ ?_ ?_) <;> intro h2
   ·refine N1 ?_
    exact ⟨i+1,rfl,⟨by omega,iF hab _ _ (Attr.eq' (by simp at h2; exact h2.1) (by simp at h2; exact h2.2))⟩,by omega⟩
   ·refine N1 ?_
    rw [lB]
    rintro rfl; simp at h2
  ·refine N1 ?_
   rw [lE (uY hab (by omega) (by omega))]
 ·have hz:=hQ
  refine Nz ?_
  rw [lB]
  rintro rfl; exact h rfl
theorem cW {x:Inode} {n:Nat} (h:x.sz<n):x.data.length<n∧x.ents.length<n∧x.attrs.length<n:=by
 simp only [Inode.sz,szM] at h; omega
theorem agx {p q:Prop} [Decidable p] [Decidable q] (h:p↔q):decide p=decide q:=by simp [h]
theorem ada (a b:Inode) (ha:a.sz<2^40) (hb:b.sz<2^40):aZ Tryz.prog 73 [a.x,b.x] (.bool (decide (a=b))) [.undef,.undef]:=by
 obtain ⟨a1,a2,a3⟩:=cW ha
 obtain ⟨b1,b2,b3⟩:=cW hb
 refine U aa0 [] 31 [] fun w hP hQ=>?_
 unfold rD
 refine N ?_
 (first | with_reducible refine sV _ ?_ ?_ | refine sW _ ?_ ?_) <;> intro h0
 rotate_left
 ·have hz:=h0
  refine Nz ?_
  rw [lB (show ¬ a=b from fun h=>h0 (by rw [h]))]
 have hz:=h0
 refine Nz ?_
 (first | with_reducible refine sV _ ?_ ?_ | refine sW _ ?_ ?_) <;> intro h1
 rotate_left
 ·have hz:=h1
  refine Nz ?_
  rw [lB (show ¬ a=b from fun h=>h1 (by rw [h]))]
 have hz:=h1
 refine Nz ?_
 (first | with_reducible refine sV _ ?_ ?_ | refine sW _ ?_ ?_) <;> intro h2
 rotate_left
 ·have hz:=h2
  refine Nz ?_
  rw [lB (show ¬ a=b from fun h=>h2 (by rw [h]))]
 have hz:=h2
 refine Nz ?_
 refine K (yE a.data b.data (by omega) (by omega)) ?_
 (first | with_reducible refine sV _ ?_ ?_ | refine sW _ ?_ ?_) <;> intro h3
 rotate_left
 ·have hz:=h3
  refine Nz ?_
  rw [lB (show ¬ a=b from fun h=>h3 (by rw [h]))]
 have hz:=h3
 refine Nz ?_
 refine K (abi a.ents b.ents (by omega) (by omega)) ?_
 (first | with_reducible refine sV _ ?_ ?_ | refine sW _ ?_ ?_) <;> intro h4
 rotate_left
 ·have hz:=h4
  refine Nz ?_
  rw [lB (show ¬ a=b from fun h=>h4 (by rw [h]))]
 have hz:=h4
 refine Nz ?_
 refine K (yF a.attrs b.attrs (by omega) (by omega)) ?_
 rw [agx (p:=a=b) ⟨fun h=>by rw [h],fun h=>Inode.eq' h0 h1 h2 h3 h4 h⟩]
theorem uI (b:Bool):b=false∨b=true:=by cases b <;> simp
theorem adb {x:Inode} (h:x.sz<2^48):x.data.length<2^48∧szM Ent.sz x.ents<2^48∧szM Attr.sz x.attrs<2^48∧x.ents.length<2^48∧x.attrs.length<2^48:=by
 simp only [Inode.sz] at h
 refine ⟨by omega,by omega,by omega,?_,?_⟩
 ·have:szM Ent.sz x.ents=x.ents.length+(x.ents.map Ent.sz).sum:=rfl
  omega
 ·have:szM Attr.sz x.attrs=x.attrs.length+(x.attrs.map Attr.sz).sum:=rfl
  omega
theorem mM (x:Inode) (h:x.sz<2^48):aZ Tryz.prog 159 [x.x] (.bool (dN x)) [.undef]:=by
 obtain ⟨h1,h2,h3,h4,h5⟩:=adb h
 refine U aeK [] 2199023255559 [] fun w hP hQ=>?_
 unfold wI
 refine N ?_
 rcases uI (inR x.ino 1 1000) with hA | hA
 ·have hz:=hA
  refine Kz (eR x.ino 1 1000) ?_
  simp [dN,hA]
 have hz:=hA
 refine Kz (eR x.ino 1 1000) ?_
 rcases uI (inR x.links 0 1000) with hB | hB
 ·have hz:=hB
  refine Kz (eR x.links 0 1000) ?_
  simp [dN,hB]
 have hz:=hB
 refine Kz (eR x.links 0 1000) ?_
 (first | with_reducible refine sV _ ?_ ?_ | refine sW _ ?_ ?_) <;> intro hC
 rotate_left
 ·have hz:=hC
  refine Nz ?_
  simp [dN,hC]
 have hz:=hC
 refine Nz ?_
 (first | with_reducible refine sV _ ?_ ?_ | refine sW _ ?_ ?_) <;> intro hD
 ·have hz:=hD
  refine Nz ?_
  simp [dN]; omega
 have hz:=hD
 refine Nz ?_
 rcases uI (xF x.ents) with hE | hE
 ·have hz:=hE
  refine Kz (ac9 x.ents h2) ?_
  simp [dN,hE]
 have hz:=hE
 refine Kz (ac9 x.ents h2) ?_
 rcases uI (mH x.attrs) with hF | hF
 ·have hz:=hF
  refine Kz (aah x.attrs h3) ?_
  simp [dN,hF]
 have hz:=hF
 refine Kz (aah x.attrs h3) ?_
 have key:dN x=tG x:=by
  simp [dN,hA,hB,hC,hE,hF]; omega
 (first | with_reducible refine cN _ ?_ ?_ | refine cO _ ?_ ?_) <;> intro k1
 ·refine N ?_
  rw [key,tG,lF k1,akv (p:=(x.ents.length:Int)=0) (q:=x.ents.length=0) (by omega)]
 refine N ?_
 (first | with_reducible refine cN _ ?_ ?_ | refine cO _ ?_ ?_) <;> intro k2
 ·refine N ?_
  (first | with_reducible refine sV _ ?_ ?_ | refine sW _ ?_ ?_) <;> intro k3
  ·have hz:=k3
   refine Nz ?_
   rw [key,tG,lI k1,lF k2,lE (show x.data.length=0 by omega),lZ3]
  ·have hz:=k3
   refine Nz ?_
   rw [key,tG,lI k1,lF k2,lB (show ¬ x.data.length=0 by omega),Bool.false_and]
 ·refine N ?_
  rw [key,tG,lI k1,lI k2]
theorem amo {x:Inode} (e:zY x.ents=false):dN x=false:=by simp [dN,xF,e]
theorem mN (x:Inode) (h:x.sz<2^48):aZ Tryz.prog 146 [x.x] (.bool (dN x)) [.undef]:=by
 obtain ⟨h1,h2,h3,h4,h5⟩:=adb h
 obtain ⟨hl,hls⟩:=ana h2
 refine U aeJ [] 75557863725916202467359 [] fun w hP hQ=>?_
 unfold wH
 refine N ?_
 rcases uI (inR x.ino 1 1000) with hA | hA
 ·have hz:=hA
  refine Kz (j5 x.ino 1 1000) ?_
  simp [dN,hA]
 have hz:=hA
 refine Kz (j5 x.ino 1 1000) ?_
 (first | with_reducible refine sV _ ?_ ?_ | refine sW _ ?_ ?_) <;> intro hD
 ·have hz:=hD
  refine Nz ?_
  simp [dN]; omega
 have hz:=hD
 refine Nz ?_
 (first | with_reducible refine sV _ ?_ ?_ | refine sW _ ?_ ?_) <;> intro hG
 ·have hz:=hG
  refine Nz ?_
  simp [dN,xF]; omega
 have hz:=hG
 refine Nz ?_
 rcases uI (mH x.attrs) with hF | hF
 ·have hz:=hF
  refine Kz (aai x.attrs h3) ?_
  simp [dN,hF]
 have hz:=hF
 refine Kz (aai x.attrs h3) ?_
 refine eJ [2,3,4,5004] ?_
 refine N ?_
 refine aR [2,3,4,5004] (fun i:Nat=>[(30,.int .i64 i)]) (fun i=>i≤x.ents.length∧∀ k,k<i→dM (fun _=>agm) xE x.ents k=true) (fun i=>x.ents.length-i) (0) hP hQ (rfl) (by simp) ?_
 rintro i ⟨hi,hk⟩ w1 hP1 hQ1
 refine N1 ?_
 (first | with_reducible refine cN _ ?_ ?_ | refine cO _ ?_ ?_) <;> intro h1
 ·have hlt:i<x.ents.length:=by omega
  have hno:dM (fun _=>agm) xE x.ents i=false→dN x=false:=fun e=>amo (pD hlt e)
  obtain hla:=hls _ (lN hlt)
  cases hN:aY (x.ents[i]'hlt).name with
  | false=>
   have hz:=(bF h1)
   refine Nz1 ?_
   have hz:=hN
   refine Kz1 (eS (x.ents[i]'hlt).name (by omega)) ?_
   rw [hno (fJ hlt (by simp [agm,hN]))]
  | true=>
   cases hV:inR ((x.ents[i]'hlt).ino) 2 1000 with
   | false=>
    have hz:=(bF h1)
    refine Nz1 ?_
    have hz:=And.intro hN (bF h1)
    refine Kz1 (eS (x.ents[i]'hlt).name (by omega)) ?_
    have hz:=hV
    refine Kz1 (j5 ((x.ents[i]'hlt).ino) 2 1000) ?_
    rw [hno (fJ hlt (by simp [agm,hV]))]
   | true=>
    cases i with
    | zero=>
     have hz:=(bF h1)
     refine Nz1 ?_
     have hz:=And.intro hN (bF h1)
     refine Kz1 (eS (x.ents[0]'hlt).name (by omega)) ?_
     have hz:=And.intro hV (bF h1)
     refine Kz1 (j5 ((x.ents[0]'hlt).ino) 2 1000) ?_
     exact ⟨1,rfl,⟨by omega,iN hk (by rw [fO hlt]; simp [agm,hN,hV])⟩,by omega⟩
    | succ m=>
     have w4:decide ((0:Int)<((m+1:Nat):Int))=true:=lE (by omega)
     have hm:=bF (show ((m:Nat):Int)<(x.ents.length:Nat) by omega)
     cases hD:strLt (x.ents[m]'(by omega)).name (x.ents[m+1]'hlt).name with
     | false=>
      have hz:=(bF h1)
      refine Nz1 ?_
      have hz:=And.intro hN (bF h1)
      refine Kz1 (eS (x.ents[m+1]'hlt).name (by omega)) ?_
      have hz:=And.intro hV (And.intro w4 (And.intro bC (And.intro hm (And.intro (bF h1) hD))))
      refine Kz1 (j5 ((x.ents[m+1]'hlt).ino) 2 1000) ?_
      rw [hno (by rw [bY hlt,xE,← iX,hD]; simp)]
     | true=>
      have hz:=(bF h1)
      refine Nz1 ?_
      have hz:=And.intro hN (bF h1)
      refine Kz1 (eS (x.ents[m+1]'hlt).name (by omega)) ?_
      have hz:=And.intro hV (And.intro w4 (And.intro bC (And.intro hm (And.intro (bF h1) hD))))
      refine Kz1 (j5 ((x.ents[m+1]'hlt).ino) 2 1000) ?_
      exact ⟨m+1+1,rfl,⟨by omega,iN hk (by rw [bY hlt,xE,← iX,hD]; simp [agm,hN,hV])⟩,by omega⟩
 ·obtain rfl:i=x.ents.length:=by omega
  have hE:zY x.ents=true:=jP fun k h=>hk k h
  refine N1 ?_
  rcases uI (inR x.links 0 1000) with hB | hB
  ·have hz:=hB
   refine Kz (j5 x.links 0 1000) ?_
   simp [dN,hB]
  have hz:=hB
  refine Kz (j5 x.links 0 1000) ?_
  (first | with_reducible refine cN _ ?_ ?_ | refine cO _ ?_ ?_) <;> intro hC
  rotate_left
  ·refine N ?_
   simp [dN,hC]
  refine N ?_
  have key:dN x=tG x:=by
   simp [dN,xF,hA,hB,hC,hE,hF,lE (show x.data.length≤100 by omega),lE (show x.ents.length≤10 by omega)]
  (first | with_reducible refine cN _ ?_ ?_ | refine cO _ ?_ ?_) <;> intro k1
  ·refine N ?_
   rw [key,tG,lF k1,akv (p:=(x.ents.length:Int)=0) (q:=x.ents.length=0) (by omega)]
  refine N ?_
  (first | with_reducible refine cN _ ?_ ?_ | refine cO _ ?_ ?_) <;> intro k2
  ·refine N ?_
   (first | with_reducible refine sV _ ?_ ?_ | refine sW _ ?_ ?_) <;> intro k3
   ·have hz:=k3
    refine Nz ?_
    rw [key,tG,lI k1,lF k2,lE (show x.data.length=0 by omega),lZ3]
   ·have hz:=k3
    refine Nz ?_
    rw [key,tG,lI k1,lF k2,lB (show ¬ x.data.length=0 by omega),Bool.false_and]
  ·refine N ?_
   rw [key,tG,lI k1,lI k2]
def b0 (t:Tab) (i:Int):Option Nat:=t.inodes.findIdx? fun x=>decide (x.ino=i)
def zI:Inode:={ ino:=0,kind:=0,links:=0,data:=[],ents:=[],attrs:=[] }
def adc (t:Tab) (i:Int):Inode:=(aD t i).getD zI
theorem agy {α:Type} (p:α→Bool) (l:List α):l.find? p=(l.findIdx? p).bind fun k=>l[k]?:=by
 induction l with
 | nil=>rfl
 | cons x l ih=>
  by_cases h:p x=true
  ·rw [lO1 h,List.findIdx?_cons,lF h]; rfl
  ·rw [lE1 h,List.findIdx?_cons,lI h,ih]
   cases List.findIdx? p l <;> simp
theorem ade (t:Tab) (i:Int):aD t i=(b0 t i).bind fun k=>t.inodes[k]?:=agy _ _
theorem t7 {t:Tab} {i:Int} {k:Nat} (h:b0 t i=some k):k<t.inodes.length:=(lA2.1 h).1
theorem sD {t:Tab} {i:Int} {k:Nat} (h:b0 t i=some k):aD t i=some (t.inodes[k]'(t7 h)):=by
 rw [ade,h]; simp [t7 h]
theorem aaj {t:Tab} {i:Int} (h:b0 t i=none):aD t i=none:=by rw [ade,h]; rfl
theorem qN (t:Tab) (n:Int) (hl:t.inodes.length<2^48):aZ Tryz.prog 109 [t.x,.int .i64 n] (.int .i64 (abe (b0 t n))) [.undef,.undef]:=by
 refine U al9 [] 55 [] fun w hP hQ=>?_
 unfold af3
 refine N ?_
 refine eJ [4] ?_
 refine N ?_
 refine aR [4] (fun i:Nat=>[(5,.int .i64 i)]) (fun i=>i≤t.inodes.length∧∀ k,k<i→(h:k<t.inodes.length)→decide (t.inodes[k].ino=n)=false) (fun i=>t.inodes.length-i) (0) hP hQ (rfl) (by simp) ?_
 rintro i ⟨hi,hk⟩ w1 hP1 hQ1
 refine N1 ?_
 (first | with_reducible refine cN _ ?_ ?_ | refine cO _ ?_ ?_) <;> intro h1
 ·have hz:=(bF h1)
  refine Nz1 ?_
  (first | with_reducible refine cN _ ?_ ?_ | refine cO _ ?_ ?_) <;> intro h2
  ·refine N1 ?_
   rw [b0,pE (p:=fun x:Inode=>decide (x.ino=n)) hk (by omega) (lE h2)]; rfl
  ·refine N1 ?_
   exact ⟨i+1,rfl,⟨by omega,nD (p:=fun x:Inode=>decide (x.ino=n)) hk (by omega) (lB h2)⟩,by omega⟩
 ·obtain rfl:i=t.inodes.length:=by omega
  refine N1 ?_
  rw [b0,pG (p:=fun x:Inode=>decide (x.ino=n)) fun k h=>hk k h h]; rfl
theorem mO {g:Nat} {cs:List TV} {p:Inode→Bool} (hc:∀ v:Inode,aZ Tryz.prog g [v.x,.xbox cs] (.bool (p v)) [.undef,.undef]) (l:List Inode) (hl:l.length<2^48) :
  aZ Tryz.prog 129 [.ext 6 (l.map Inode.row),.fn g [.xbox cs]] (.int .i64 (abe (l.findIdx? p))) [.undef,.undef]:=by
 refine U qE [] 435 [] fun w hP hQ=>?_
 unfold jN
 refine N ?_
 refine eJ [4,5] ?_
 refine N ?_
 refine aR [4,5] (fun i:Nat=>[(8,.int .i64 i)]) (fun i=>i≤l.length∧∀ k,k<i→(h:k<l.length)→p l[k]=false) (fun i=>l.length-i) (0) hP hQ (rfl) (by simp) ?_
 rintro i ⟨hi,hk⟩ w1 hP1 hQ1
 refine N1 ?_
 (first | with_reducible refine cN _ ?_ ?_ | refine cO _ ?_ ?_) <;> intro h1
 ·have hz:=(bF h1)
  refine Nz1 ?_
  cases h2:p (l[i]'(by omega)) with
  | true=>
   have hz:=h2
   refine Kz1 (hc (l[i]'(by omega))) ?_
   rw [pE hk (by omega) h2]; rfl
  | false=>
   have hz:=h2
   refine Kz1 (hc (l[i]'(by omega))) ?_
   exact ⟨i+1,rfl,⟨by omega,nD hk (by omega) h2⟩,by omega⟩
 ·obtain rfl:i=l.length:=by omega
  refine N1 ?_
  rw [pG fun k h=>hk k h h]; rfl
theorem adf (x:Inode) (n:Int):aZ Tryz.prog 147 [x.x,.xbox [.int .i64 n]] (.bool (decide (x.ino=n))) [.undef,.undef]:=by
 refine U aa5 [] 15 [] fun w hP hQ=>?_
 unfold rI
 exact N trivial
theorem tK (t:Tab) (n:Int) (hl:t.inodes.length<2^48):aZ Tryz.prog 87 [t.x,.int .i64 n] (.int .i64 (abe (b0 t n))) [.undef,.undef]:=by
 refine U aeG [] 31 [] fun w hP hQ=>?_
 unfold wD
 refine N ?_
 refine K (mO (fun v=>adf v n) t.inodes hl) ?_
 rfl
theorem xN {α:Type} (f:α→List TV) (h:∀ x,(f x).all nP=true) (l:List α):gJ (l.map f)=true:=by
 rw [gJ,lA1]
 intro r hr
 obtain ⟨x,_,rfl⟩:=lZ1.1 hr
 exact h x
theorem afc (l:List Ent):gJ (l.map Ent.row)=true:=xN Ent.row (fun _=>rfl) l
theorem afd (l:List Attr):gJ (l.map Attr.row)=true:=xN Attr.row (fun _=>rfl) l
theorem amp (b:aA) (hl:b.length<2^40):aZ Tryz.prog 84 [.ext 1 (aM b)] (.own 1 (aM b)) [.undef]:=by
 refine rB fun a len cap ha=>?_
 cases a with
 | none=>
  obtain rfl:b=[]:=by simpa [aM] using ha rfl
  refine U pR [] 5 [] fun w hP hQ=>?_
  unfold kE
  refine N ?_
  rfl
 | some a=>
  refine U pR [] 5 [] fun w hP hQ=>?_
  unfold kE
  exact N trivial
theorem agz (l:List Ent) (hl:l.length<2^40):aZ Tryz.prog 125 [.ext 2 (l.map Ent.row)] (.own 2 (l.map Ent.row)) [.undef]:=by
 refine rB fun a len cap ha=>?_
 cases a with
 | none=>
  obtain rfl:l=[]:=by simpa using ha rfl
  refine U rN [] 5 [] fun w hP hQ=>?_
  unfold m5
  exact N trivial
 | some a=>
  refine U rN [] 5 [] fun w hP hQ=>?_
  unfold m5
  refine N ?_
  have hz:=afc
  exact Nz trivial
theorem amq (l:List Attr) (hl:l.length<2^40):aZ Tryz.prog 178 [.ext 2 (l.map Attr.row)] (.own 2 (l.map Attr.row)) [.undef]:=by
 refine rB fun a len cap ha=>?_
 cases a with
 | none=>
  obtain rfl:l=[]:=by simpa using ha rfl
  refine U pS [] 5 [] fun w hP hQ=>?_
  unfold kG
  exact N trivial
 | some a=>
  refine U pS [] 5 [] fun w hP hQ=>?_
  unfold kG
  refine N ?_
  have hz:=afd
  exact Nz trivial
theorem oV (x:Inode) (h:x.sz<2^40):aZ Tryz.prog 122 [x.x] x.o [.undef]:=by
 obtain ⟨h1,h2,h3⟩:=cW h
 refine U aa3 [] 7 [] fun w hP hQ=>?_
 unfold rG
 refine N ?_
 refine K (amp x.data (by omega)) ?_
 refine K (agz x.ents (by omega)) ?_
 exact K (amq x.attrs (by omega)) trivial
theorem mP (x:Inode) (h:x.sz<2^40):aZ Tryz.prog 140 [x.x] x.o [.undef]:=by
 obtain ⟨h1,h2,h3⟩:=cW h
 refine U ahJ [] 15 [] fun w hP hQ=>?_
 unfold zF
 refine N ?_
 have hz:=And.intro wV (And.intro afc afd)
 exact Nz trivial
theorem cZ {t:Tab} {n:Nat} (h:t.sz<n):t.inodes.length<n∧∀ x ∈ t.inodes,x.sz<n:=by
 have h':szM Inode.sz t.inodes<n:=h
 refine ⟨by simp only [szM] at h'; omega,fun x hx=>?_⟩
 have:=aa8 (f:=Inode.sz) hx
 simp only [szM] at h'; omega
theorem jE (t:Tab) (n:Int) (h:t.sz<2^40):aZ Tryz.prog 70 [t.x,.int .i64 n] (.tup [(adc t n).o,.bool (aD t n).isSome]) [.undef,.undef]:=by
 obtain ⟨h1,h2⟩:=cZ h
 have hPl:=tK t n (by omega)
 cases e:b0 t n with
 | none=>
  rw [e] at hPl
  rw [adc,aaj e]
  refine U wQ [] 119 [] fun w hP hQ=>?_
  unfold p9
  refine N ?_
  refine K (hPl) ?_
  rfl
 | some k=>
  have hk:=t7 e
  rw [e,show abe (some k)=(k:Int) from rfl] at hPl
  rw [adc,sD e]
  refine U wQ [] 119 [] fun w hP hQ=>?_
  unfold p9
  refine N ?_
  refine K (hPl) ?_
  (first | with_reducible refine cN _ ?_ ?_ | refine cO _ ?_ ?_) <;> intro hx
  ·exfalso; omega
  have hz:=(bF (show ((k:Nat):Int)<(t.inodes.length:Nat) by omega))
  refine Nz ?_
  refine K (oV (t.inodes[k]'hk) (h2 _ (lN hk))) ?_
  rfl
theorem tL (t:Tab) (n:Int) (h:t.sz<2^40):aZ Tryz.prog 148 [t.x,.int .i64 n] (.tup [(adc t n).o,.bool (aD t n).isSome]) [.undef,.undef]:=by
 obtain ⟨h1,h2⟩:=cZ h
 have hPl:=qN t n (by omega)
 cases e:b0 t n with
 | none=>
  rw [e] at hPl
  rw [adc,aaj e]
  refine U wU [] 119 [] fun w hP hQ=>?_
  unfold qB
  refine N ?_
  refine K (hPl) ?_
  rfl
 | some k=>
  have hk:=t7 e
  rw [e,show abe (some k)=(k:Int) from rfl] at hPl
  rw [adc,sD e]
  refine U wU [] 119 [] fun w hP hQ=>?_
  unfold qB
  refine N ?_
  refine K (hPl) ?_
  (first | with_reducible refine cN _ ?_ ?_ | refine cO _ ?_ ?_) <;> intro hx
  ·exfalso; omega
  have hz:=(bF (show ((k:Nat):Int)<(t.inodes.length:Nat) by omega))
  refine Nz ?_
  refine K (mP (t.inodes[k]'hk) (h2 _ (lN hk))) ?_
  rfl
theorem aak {t:Tab} (e:nB t=false):zZ t=false:=by simp [zZ,e]
theorem ah7 {t:Tab} (h:nB t=true):rX t=match t.inodes with
  | []=>false
  | x::_=>decide (x.ino=1) && decide (x.kind=2):=by
 rw [nB,rV (fun a b c h1 h2=>by simp only [gT,decide_eq_true_eq] at *; omega)] at h
 obtain ⟨h1,h2⟩:=h
 unfold rX aD
 cases hl:t.inodes with
 | nil=>rfl
 | cons x l=>
  rw [hl] at h2
  obtain ⟨a1,a2⟩:=lD1.1 h2
  have hx:=h1 0 (by rw [hl]; simp)
  simp only [hl,lV3,jQ,lP] at hx
  have hx1:=((z7 x).1 hx.1).ino.1
  by_cases e:x.ino=1
  ·rw [lO1 (by simp [e])]; simp [e]
  ·rw [lE1 (by simp [e])]
   have:l.find? (fun x=>decide (x.ino=1))=none:=by
    rw [List.find?_eq_none]
    intro y hy
    have:=a1 y hy
    simp only [gT,decide_eq_true_eq] at this
    simp; omega
   rw [this]; simp [e]
theorem agA (t:Tab) (h:t.sz<2^40):aZ Tryz.prog 107 [t.x] (.bool (zZ t)) [.undef]:=by
 obtain ⟨hl,hls⟩:=cZ h
 refine U ajU [] 31 [] fun w hP hQ=>?_
 unfold acv
 refine N ?_
 rcases uI (inR (t.inodes.length:Nat) 1 30) with hA | hA
 ·have hA':=ags hA
  have hz:=hA
  refine Kz (eR (t.inodes.length:Nat) 1 30) ?_
  by_cases h0:t.inodes.length≤30
  ·have:t.inodes=[]:=lQ1.1 (by omega)
   have hr:rX t=false:=by simp [rX,aD,this]
   simp [zZ,hr]
  ·simp [zZ,h0]
 have hA':=(jR _ _ _).1 hA
 have hz:=hA
 refine Kz (eR (t.inodes.length:Nat) 1 30) ?_
 rcases uI (inR t.next 2 1000) with hB | hB
 ·have hz:=hB
  refine Kz (eR t.next 2 1000) ?_
  simp [zZ,hB]
 have hz:=hB
 refine Kz (eR t.next 2 1000) ?_
 refine eJ [2,4,5004] ?_
 refine N ?_
 refine aR [2,4,5004] (fun i:Nat=>[(3,.int .i64 i)]) (fun i=>i≤t.inodes.length∧∀ k,k<i→dM (fun _=>jQ t) gT t.inodes k=true) (fun i=>t.inodes.length-i) (0) hP hQ (rfl) (by simp) ?_
 rintro i ⟨hi,hk⟩ w1 hP1 hQ1
 refine N1 ?_
 (first | with_reducible refine cN _ ?_ ?_ | refine cO _ ?_ ?_) <;> intro h1
 ·have hlt:i<t.inodes.length:=by omega
  have hno:dM (fun _=>jQ t) gT t.inodes i=false→zZ t=false:=fun e=>aak (pD hlt e)
  have hla:=hls _ (lN hlt)
  cases hN:dN (t.inodes[i]'hlt) with
  | false=>
   have hz:=(bF h1)
   refine Nz1 ?_
   have hz:=hN
   refine Kz1 (mM (t.inodes[i]'hlt) (by omega)) ?_
   rw [hno (fJ hlt (by simp [jQ,hN]))]
  | true=>
   cases hV:decide (t.next≤(t.inodes[i]'hlt).ino) with
   | true=>
    have hV':=of_decide_eq_true hV
    have hz:=(bF h1)
    refine Nz1 ?_
    have hz:=And.intro hN hV
    refine Kz1 (mM (t.inodes[i]'hlt) (by omega)) ?_
    rw [hno (fJ hlt (by simp [jQ]; omega))]
   | false=>
    have hV':=of_decide_eq_false hV
    cases i with
    | zero=>
     have hz:=(bF h1)
     refine Nz1 ?_
     have hz:=And.intro hN hV
     refine Kz1 (mM (t.inodes[0]'hlt) (by omega)) ?_
     exact ⟨1,rfl,⟨by omega,iN hk (by rw [fO hlt]; simp [jQ,hN]; omega)⟩,by omega⟩
    | succ m=>
     have w4:decide ((0:Int)<((m+1:Nat):Int))=true:=lE (by omega)
     have hm:=bF (show ((m:Nat):Int)<(t.inodes.length:Nat) by omega)
     cases hD:decide ((t.inodes[m+1]'hlt).ino≤(t.inodes[m]'(by omega)).ino) with
     | true=>
      have hD':=of_decide_eq_true hD
      have hz:=(bF h1)
      refine Nz1 ?_
      have hz:=And.intro hN (And.intro hV (And.intro w4 (And.intro bC (And.intro hm (And.intro (bF h1) hD)))))
      refine Kz1 (mM (t.inodes[m+1]'hlt) (by omega)) ?_
      rw [hno (by rw [bY hlt,gT]; simp; omega)]
     | false=>
      have hD':=of_decide_eq_false hD
      have hz:=(bF h1)
      refine Nz1 ?_
      have hz:=And.intro hN (And.intro hV (And.intro w4 (And.intro bC (And.intro hm (And.intro (bF h1) hD)))))
      refine Kz1 (mM (t.inodes[m+1]'hlt) (by omega)) ?_
      exact ⟨m+1+1,rfl,⟨by omega,iN hk (by rw [bY hlt,gT]; simp [jQ,hN]; omega)⟩,by omega⟩
 ·obtain rfl:i=t.inodes.length:=by omega
  have hE:nB t=true:=jP fun k h=>hk k h
  have hr:=ah7 hE
  have key:zZ t=rX t:=by
   simp [zZ,hB,hE,lE (show t.inodes.length≤30 by omega)]
  obtain ⟨x,l,hx⟩:∃ x l,t.inodes=x::l:=by
   cases hh:t.inodes with
   | nil=>rw [hh] at hA'; simp at hA'
   | cons x l=>exact ⟨x,l,rfl⟩
  rw [hx] at hr
  replace hr:rX t=(decide (x.ino=1) && decide (x.kind=2)):=hr
  have g0:t.inodes[0]?=some x:=by rw [hx]; rfl
  have c0:decide ((0:Int)<(t.inodes.length:Nat))=true:=lE (by omega)
  have hz:=And.intro g0 Int.toNat_zero
  refine Nz1 ?_
  (first | with_reducible refine sV _ ?_ ?_ | refine sW _ ?_ ?_) <;> intro g1
  ·have hz:=And.intro g1 (And.intro g0 Int.toNat_zero)
   refine Nz ?_
   rw [key,hr,lE g1,lZ3]
  ·have hz:=g1
   refine Nz ?_
   rw [key,hr,lB g1,Bool.false_and]
theorem agB (t:Tab) (h:t.sz<2^40):aZ Tryz.prog 85 [t.x] (.bool (zZ t)) [.undef]:=by
 obtain ⟨hl,hls⟩:=cZ h
 refine U ajS [] 1835135 [] fun w hP hQ=>?_
 unfold act
 refine N ?_
 (first | with_reducible refine sV _ ?_ ?_ | refine sW _ ?_ ?_) <;> intro hA
 ·have hz:=hA
  refine Nz ?_
  simp [zZ]; omega
 have hz:=hA
 refine Nz ?_
 rcases uI (inR t.next 2 1000) with hB | hB
 ·have hz:=hB
  refine Kz (j5 t.next 2 1000) ?_
  simp [zZ,hB]
 have hz:=hB
 refine Kz (j5 t.next 2 1000) ?_
 refine eJ [2,3,4,5004] ?_
 refine N ?_
 refine aR [2,3,4,5004] (fun i:Nat=>[(20,.int .i64 i)]) (fun i=>i≤t.inodes.length∧∀ k,k<i→dM (fun _=>jQ t) gT t.inodes k=true) (fun i=>t.inodes.length-i) (0) hP hQ (rfl) (by simp) ?_
 rintro i ⟨hi,hk⟩ w1 hP1 hQ1
 refine N1 ?_
 (first | with_reducible refine cN _ ?_ ?_ | refine cO _ ?_ ?_) <;> intro h1
 ·have hlt:i<t.inodes.length:=by omega
  have hno:dM (fun _=>jQ t) gT t.inodes i=false→zZ t=false:=fun e=>aak (pD hlt e)
  have hla:=hls _ (lN hlt)
  cases hN:dN (t.inodes[i]'hlt) with
  | false=>
   have hz:=(bF h1)
   refine Nz1 ?_
   have hz:=hN
   refine Kz1 (mN (t.inodes[i]'hlt) (by omega)) ?_
   rw [hno (fJ hlt (by simp [jQ,hN]))]
  | true=>
   cases hV:decide (t.next≤(t.inodes[i]'hlt).ino) with
   | true=>
    have hV':=of_decide_eq_true hV
    have hz:=(bF h1)
    refine Nz1 ?_
    have hz:=And.intro hN hV
    refine Kz1 (mN (t.inodes[i]'hlt) (by omega)) ?_
    rw [hno (fJ hlt (by simp [jQ]; omega))]
   | false=>
    have hV':=of_decide_eq_false hV
    cases i with
    | zero=>
     have hz:=(bF h1)
     refine Nz1 ?_
     have hz:=And.intro hN hV
     refine Kz1 (mN (t.inodes[0]'hlt) (by omega)) ?_
     exact ⟨1,rfl,⟨by omega,iN hk (by rw [fO hlt]; simp [jQ,hN]; omega)⟩,by omega⟩
    | succ m=>
     have w4:decide ((0:Int)<((m+1:Nat):Int))=true:=lE (by omega)
     have hm:=bF (show ((m:Nat):Int)<(t.inodes.length:Nat) by omega)
     cases hD:decide ((t.inodes[m+1]'hlt).ino≤(t.inodes[m]'(by omega)).ino) with
     | true=>
      have hD':=of_decide_eq_true hD
      have hz:=(bF h1)
      refine Nz1 ?_
      have hz:=And.intro hN (And.intro hV (And.intro w4 (And.intro bC (And.intro hm (And.intro (bF h1) hD)))))
      refine Kz1 (mN (t.inodes[m+1]'hlt) (by omega)) ?_
      rw [hno (by rw [bY hlt,gT]; simp; omega)]
     | false=>
      have hD':=of_decide_eq_false hD
      have hz:=(bF h1)
      refine Nz1 ?_
      have hz:=And.intro hN (And.intro hV (And.intro w4 (And.intro bC (And.intro hm (And.intro (bF h1) hD)))))
      refine Kz1 (mN (t.inodes[m+1]'hlt) (by omega)) ?_
      exact ⟨m+1+1,rfl,⟨by omega,iN hk (by rw [bY hlt,gT]; simp [jQ,hN]; omega)⟩,by omega⟩
 ·obtain rfl:i=t.inodes.length:=by omega
  have hE:nB t=true:=jP fun k h=>hk k h
  have key:zZ t=rX t:=by
   simp [zZ,hB,hE,lE (show t.inodes.length≤30 by omega)]
  have hI:=jE t 1 h
  refine N1 ?_
  cases e:aD t 1 with
  | none=>
   have hr:rX t=false:=by rw [rX,e]
   rw [e] at hI
   refine K (hI) ?_
   rw [key,hr]
  | some x=>
   have hr:rX t=decide (x.kind=2):=by rw [rX,e]
   rw [adc,e] at hI
   refine K (hI) ?_
   rw [key,hr]; rfl
theorem abj {α:Type} (f g:α→Nat) (l:List α) (h:∀ x ∈ l,f x≤g x):(l.map f).sum≤(l.map g).sum:=by
 induction l with
 | nil=>simp
 | cons x l ih=>
  have:=ih fun y hy=>h y (by simp [hy])
  have:=h x (by simp)
  simp only [lO,lC2]; omega
def lkF (n:Int) (x:Inode):Nat:=(fG x).count n
theorem adg (t:Tab) (n:Int):bD t n=(t.inodes.map (lkF n)).sum:=rfl
theorem apQ (n:Int) (x:Inode):lkF n x≤x.sz:=by
 have h1:lkF n x≤(fG x).length:=List.count_le_length
 have h2:(fG x).length≤x.ents.length:=by
  unfold fG; split <;> simp
 have h3:x.ents.length≤x.sz:=by simp only [Inode.sz,szM]; omega
 omega
theorem nE (t:Tab) (n:Int) (i:Nat):((t.inodes.take i).map (lkF n)).sum≤t.sz:=by
 have h1:=aeP (lkF n) t.inodes i
 have h2:=abj (lkF n) Inode.sz t.inodes fun x _=>apQ n x
 have h3:t.sz=t.inodes.length+(t.inodes.map Inode.sz).sum:=rfl
 omega
theorem akw {n:Int} {x:Inode} (h:x.kind=2):lkF n x=(x.ents.map Ent.ino).count n:=by rw [lkF,fG,lF h]
theorem anb {n:Int} {x:Inode} (h:¬ x.kind=2):lkF n x=0:=by rw [lkF,fG,lI h]; rfl
theorem agC {l:List Ent} {k:Nat} (h:k<l.length) (n:Int):((l.take (k+1)).map Ent.ino).count n=((l.take k).map Ent.ino).count n+if l[k].ino=n then 1 else 0:=by
 rw [List.take_add_one,lJ h,lF2,List.count_append]
 simp only [Option.toList_some,lO,lR1]
 rw [List.count_singleton]
 simp
theorem xO (l:List Ent) (k:Nat) (n:Int):((l.take k).map Ent.ino).count n≤l.length:=by
 have h1:((l.take k).map Ent.ino).count n≤((l.take k).map Ent.ino).length:=List.count_le_length
 simp only [lB1,lT] at h1
 omega
theorem ah8 (t:Tab) (n:Int) (h:t.sz<2^40):aZ Tryz.prog 108 [t.x,.int .i64 n] (.int .i64 (bD t n:Nat)) [.undef,.undef]:=by
 obtain ⟨hl,hls⟩:=cZ h
 refine U aeH [] 247 [] fun w hP hQ=>?_
 unfold wF
 refine N ?_
 refine eJ [7] ?_
 refine N ?_
 refine aR [7] (fun s:Nat × Nat=>[(5,.int .i64 (s.1:Nat)),(6,.int .i64 (s.2:Nat))]) (fun s=>s.2≤t.inodes.length∧s.1=((t.inodes.take s.2).map (lkF n)).sum) (fun s=>t.inodes.length-s.2) ((0,0)) hP hQ (rfl) (by simp) ?_
 rintro ⟨c,i⟩ ⟨hi,hc⟩ w1 hP1 hQ1
 refine N1 ?_
 simp only at hi hc
 (first | with_reducible refine cN _ ?_ ?_ | refine cO _ ?_ ?_) <;> intro h1
 ·have hlt:i<t.inodes.length:=by omega
  have hs:=af7 (lkF n) t.inodes i hlt
  have hb:=nE t n i
  have hx:=hls _ (lN hlt)
  have hel:(t.inodes[i]'hlt).ents.length<2^40:=(cW hx).2.1
  refine N1 ?_
  by_cases hk2:(t.inodes[i]'hlt).kind=2
  ·have hf:=akw (n:=n) hk2
   refine eJ [] ?_
   refine N1 ?_
   refine aR [] (fun s:Nat × Nat=>[(5,.int .i64 (s.1:Nat)),(7,.int .i64 (s.2:Nat))]) (fun s=>s.2≤(t.inodes[i]'hlt).ents.length∧s.1=c+(((t.inodes[i]'hlt).ents.take s.2).map Ent.ino).count n) (fun s=>(t.inodes[i]'hlt).ents.length-s.2) ((c,0)) hP1 hQ1 (rfl) (by simp) ?_
   rintro ⟨d,k⟩ ⟨hk,hd⟩ w2 hP2 hQ2
   refine N2 ?_
   simp only at hk hd
   have hcl:=xO (t.inodes[i]'hlt).ents k n
   have hz:=(bF h1)
   refine Nz2 ?_
   (first | with_reducible refine sV _ ?_ ?_ | refine sW _ ?_ ?_) <;> intro g1
   ·have hct:=agC (l:=(t.inodes[i]'hlt).ents) (k:=k) (by omega) n
    have hz:=And.intro g1 (And.intro (bF h1) hk2)
    refine Nz2 ?_
    have hz:=And.intro (bF h1) (bF g1)
    refine Nz2 ?_
    (first | with_reducible refine cN _ ?_ ?_ | refine cO _ ?_ ?_) <;> intro g2
    ·rw [lF g2] at hct
     refine N2 ?_
     exact ⟨(d+1,k+1),rfl,⟨by simp only; omega,by simp only; omega⟩,by simp only; omega⟩
    ·rw [lI g2] at hct
     refine N2 ?_
     exact ⟨(d,k+1),rfl,⟨by simp only; omega,by simp only; omega⟩,by simp only; omega⟩
   ·obtain rfl:k=(t.inodes[i]'hlt).ents.length:=by omega
    rw [lX1] at hd
    have hz:=g1
    refine Nz2 ?_
    exact ⟨(d,i+1),rfl,⟨by simp only; omega,by simp only; omega⟩,by simp only; omega⟩
  ·have hf:=anb (n:=n) hk2
   refine eJ [] ?_
   refine N1 ?_
   refine aR [] (fun s:Nat × Nat=>[(5,.int .i64 (s.1:Nat)),(7,.int .i64 (s.2:Nat))]) (fun s=>s=(c,0)) (fun s=>0) ((c,0)) hP1 hQ1 (rfl) (rfl) ?_
   rintro ⟨d,k⟩ hk w2 hP2 hQ2
   refine N2 ?_
   obtain ⟨rfl,rfl⟩:=Prod.mk.inj hk
   have hz:=(bF h1)
   refine Nz2 ?_
   (first | with_reducible refine sV _ ?_ ?_ | refine sW _ ?_ ?_) <;> intro g1
   ·have hz:=And.intro g1 (And.intro (bF h1) hk2)
    refine Nz2 ?_
    exact ⟨(d,i+1),rfl,⟨by simp only; omega,by simp only; omega⟩,by simp only; omega⟩
   ·have hz:=g1
    refine Nz2 ?_
    exact ⟨(d,i+1),rfl,⟨by simp only; omega,by simp only; omega⟩,by simp only; omega⟩
 ·obtain rfl:i=t.inodes.length:=by omega
  rw [lX1,← adg] at hc
  subst hc
  exact N1 trivial
theorem ah9 (t:Tab) (n:Int) (h:t.sz<2^40):aZ Tryz.prog 86 [t.x,.int .i64 n] (.int .i64 (bD t n:Nat)) [.undef,.undef]:=by
 obtain ⟨hl,hls⟩:=cZ h
 refine U aeF [] 14695095 [] fun w hP hQ=>?_
 unfold wC
 refine N ?_
 refine eJ [7,9,21,22,23,5007,5009] ?_
 refine N ?_
 refine aR [7,9,21,22,23,5007,5009] (fun s:Nat × Nat=>[(5,.int .i64 (s.1:Nat)),(13,.int .i64 (s.2:Nat))]) (fun s=>s.2≤t.inodes.length∧s.1=((t.inodes.take s.2).map (lkF n)).sum) (fun s=>t.inodes.length-s.2) ((0,0)) hP hQ (rfl) (by simp) ?_
 rintro ⟨c,i⟩ ⟨hi,hc⟩ w1 hP1 hQ1
 refine N1 ?_
 simp only at hi hc
 (first | with_reducible refine cN _ ?_ ?_ | refine cO _ ?_ ?_) <;> intro h1
 ·have hlt:i<t.inodes.length:=by omega
  have hs:=af7 (lkF n) t.inodes i hlt
  have hb:=nE t n i
  have hx:=hls _ (lN hlt)
  have hz:=(bF h1)
  refine Nz1 ?_
  generalize t.inodes[i]'hlt=x at *
  have hel:x.ents.length<2^40:=(cW hx).2.1
  (first | with_reducible refine cN _ ?_ ?_ | refine cO _ ?_ ?_) <;> intro hk2
  ·have hf:=akw (n:=n) hk2
   refine N1 ?_
   refine eJ [9,5009] ?_
   refine N1 ?_
   refine aR [9,5009] (fun s:Nat × Nat=>[(5,.int .i64 (s.1:Nat)),(23,.int .i64 (s.2:Nat))]) (fun s=>s.2≤x.ents.length∧s.1=c+((x.ents.take s.2).map Ent.ino).count n) (fun s=>x.ents.length-s.2) ((c,0)) hP1 hQ1 (rfl) (by simp) ?_
   rintro ⟨d,k⟩ ⟨hk,hd⟩ w2 hP2 hQ2
   refine N2 ?_
   simp only at hk hd
   have hcl:=xO x.ents k n
   (first | with_reducible refine cN _ ?_ ?_ | refine cO _ ?_ ?_) <;> intro g1
   ·have hct:=agC (l:=x.ents) (k:=k) (by omega) n
    have hz:=(bF g1)
    refine Nz2 ?_
    (first | with_reducible refine cN _ ?_ ?_ | refine cO _ ?_ ?_) <;> intro g2
    ·rw [lF g2] at hct
     refine N2 ?_
     exact ⟨(d+1,k+1),rfl,⟨by simp only; omega,by simp only; omega⟩,by simp only; omega⟩
    ·rw [lI g2] at hct
     refine N2 ?_
     exact ⟨(d,k+1),rfl,⟨by simp only; omega,by simp only; omega⟩,by simp only; omega⟩
   ·obtain rfl:k=x.ents.length:=by omega
    rw [lX1] at hd
    refine N2 ?_
    exact ⟨(d,i+1),rfl,⟨by simp only; omega,by simp only; omega⟩,by simp only; omega⟩
  ·have hf:=anb (n:=n) hk2
   refine N1 ?_
   exact ⟨(c,i+1),rfl,⟨by simp only; omega,by simp only; omega⟩,by simp only; omega⟩
 ·obtain rfl:i=t.inodes.length:=by omega
  rw [lX1,← adg] at hc
  subst hc
  exact N1 trivial
def eK (n:Int):List TV:=[.int .i64 n]
theorem aox (l:List Int):gJ (l.map eK)=true:=xN eK (fun _=>rfl) l
theorem apR {l:List Int} {n:Int} (hk:∀ k,(h:k<l.length)→decide (l[k]=n)=false):n ∉ l:=by
 intro h
 obtain ⟨k,hk',e⟩:=lN1 h
 have:=hk k hk'
 simp [e] at this
theorem agD (l:List Int) (n:Int) (hl:l.length<2^48):aZ Tryz.prog 212 [.ext 1 (l.map eK),.int .i64 n] (.bool (decide (n ∈ l))) [.undef,.undef]:=by
 refine U aj0 [] 51 [] fun w hP hQ=>?_
 unfold acB
 refine N ?_
 refine eJ [4] ?_
 refine N ?_
 refine aR [4] (fun i:Nat=>[(5,.int .i64 i)]) (fun i=>i≤l.length∧∀ k,k<i→(h:k<l.length)→decide (l[k]=n)=false) (fun i=>l.length-i) (0) hP hQ (rfl) (by simp) ?_
 rintro i ⟨hi,hk⟩ w1 hP1 hQ1
 refine N1 ?_
 (first | with_reducible refine cN _ ?_ ?_ | refine cO _ ?_ ?_) <;> intro h1
 ·simp +decide (maxSteps:=9^9) (disch:=omega) only[↓SB0,SX,seval,hQ,hQ1,bF h1,eK]
  (first | with_reducible refine cN _ ?_ ?_ | refine cO _ ?_ ?_) <;> intro h2
  ·refine N1 ?_
   rw [lE (by rw [← h2]; exact lN _)]
  ·refine N1 ?_
   exact ⟨i+1,rfl,⟨by omega,nD (p:=fun x:Int=>decide (x=n)) hk (by omega) (lB h2)⟩,by omega⟩
 ·obtain rfl:i=l.length:=by omega
  refine N1 ?_
  rw [lB (apR fun k h=>hk k h h)]
theorem akx {l:List Int} (hu:Up l) {n:Int} {k:Nat} (hk:k≤l.length) (hn:n ∉ l) (h1:∀ j,k≤j→(h:j<l.length)→n<l[j]) (h2:k=0∨∃ h:k-1<l.length,l[k-1]≤n) :
  aj3 l n=l.take k++n::l.drop k:=by
 have hlow:∀ j,j<k→(h:j<l.length)→l[j]<n:=by
  intro j hj hjl
  rcases h2 with h2 | ⟨h2,h3⟩
  ·omega
  ·have hne:l[j]≠n:=fun e=>hn (by rw [← e]; exact lN _)
   by_cases e:j=k-1
   ·subst e; omega
   ·have:=lK3.1 hu j (k-1) hjl h2 (by omega)
    omega
 have e1:l.takeWhile (·<n)=l.take k:=by
  have:l=l.take k++l.drop k:=(lK k l).symm
  rw [this,List.takeWhile_append_of_pos,lK]
  ·have:(l.drop k).takeWhile (fun x=>decide (x<n))=[]:=by
    cases hd:l.drop k with
    | nil=>rfl
    | cons x r=>
     rw [List.takeWhile_cons_of_neg]
     have hkl:k<l.length:=by
      have:=congrArg List.length hd
      simp at this; omega
     have hx:x=l[k]:=by
      have:=congrArg (fun r=>r[0]?) hd
      simp [hkl] at this
      exact this.symm
     have:=h1 k (lS1 _) hkl
     simp; omega
   rw [this]; simp
  ·intro x hx
   obtain ⟨j,hj,rfl⟩:=lN1 hx
   simp only [lT] at hj
   rw [List.getElem_take]
   have:=hlow j (by omega) (by omega)
   simpa using this
 have e2:l.dropWhile (·<n)=l.drop k:=by
  have h:=List.takeWhile_append_dropWhile (p:=fun x=>decide (x<n)) (l:=l)
  rw [e1] at h
  exact List.append_cancel_left (h.trans (lK k l).symm)
 rw [aj3,lI hn,e1,e2]
theorem agE {l:List Int} {k:Nat} {h:Int} (hk:k<l.length):((l.take (k+1)++h::l.drop (k+1)))[k]?=some l[k]:=by
 rw [lJ3 (by simp; omega),lH1,lF (by omega),lJ hk]
theorem amr {l:List Int} {k:Nat} {h:Int} (hk:k≤l.length):(l.take k++h::l.drop k).length=l.length+1:=by simp; omega
theorem agF {l:List Int} {k:Nat} (h x:Int) (hk:k≤l.length):(l.take k++h::l.drop k).set k x=l.take k++x::l.drop k:=by
 have:(l.take k).length=k:=by simp; omega
 rw [List.set_append_right _ _ (by omega)]
 congr 1
 rw [this,Nat.sub_self]; rfl
theorem aky {l:List Int} {k:Nat} (hk:k<l.length):l.take (k+1)++l[k]::l.drop (k+1)=l.take k++l[k]::l.drop k:=by
 rw [lR hk,lM2]
 congr 1
 rw [← lL2 hk]; rfl
theorem akz (L:List Int) (k:Nat) (n:Int):(L.map eK).modify k (fun r=>TV.int .i64 n::r.drop 1)=(L.set k n).map eK:=by
 apply lG2
 intro j
 rw [lL1,lJ1,lJ1,lD4]
 by_cases e:k=j
 ·subst e
  by_cases hk:k<L.length
  ·simp [hk,eK]
  ·simp [hk]
 ·simp [e]
theorem aoy (l:List Int) (n:Int):l.map eK++[[TV.int .i64 n]]=(l.take l.length++n::l.drop l.length).map eK:=by simp [eK]
theorem agG (l:List Int) (n:Int) (hu:Up l) (hl:l.length<2^40):aZ Tryz.prog 162 [.ext 1 (l.map eK),.int .i64 n] (.ext 1 ((aj3 l n).map eK)) [.undef,.undef]:=by
 by_cases hn:n ∈ l
 ·have hH:=agD l n (by omega)
  rw [lE hn] at hH
  rw [aj3,lF hn]
  refine U acF [] 115 [] fun w hP hQ=>?_
  unfold wJ
  refine N ?_
  exact K (hH) trivial
 ·refine acp (ret:=.own 1 ((aj3 l n).map eK)) ?_
  have hH:=agD l n (by omega)
  rw [lB hn] at hH
  refine U acF [] 115 [] fun w hP hQ=>?_
  unfold wJ
  refine N ?_
  refine K (hH) ?_
  simp +decide (maxSteps:=9^9) (disch:=omega) only[↓SB0,SX,seval,hQ,aox,lU,bC]
  rw [aoy]
  refine eJ [] ?_
  refine N ?_
  refine aR [] (fun s:Nat × Int=>[(5,.own 1 ((l.take s.1++s.2::l.drop s.1).map eK)),(6,.int .i64 (s.1:Nat))]) (fun s=>s.1≤l.length∧∀ j,s.1≤j→(h:j<l.length)→n<l[j]) (fun s=>s.1) ((l.length,n)) hP hQ (rfl) (by simp; omega) ?_
  rintro ⟨k,x⟩ ⟨hk,hj⟩ w1 hP1 hQ1
  refine N1 ?_
  simp only at hk hj
  have hlen:=amr (h:=x) hk
  cases k with
  | zero=>
   refine N1 ?_
   rw [akx hu hk hn hj (.inl rfl)]
   simp [eK]
  | succ k=>
   have hkl:k<l.length:=by omega
   have w4:decide ((0:Int)<((k+1:Nat):Int))=true:=lE (by omega)
   simp +decide (maxSteps:=9^9) (disch:=omega) only[↓SB0,SX,seval,hQ,hQ1,w4,hlen,bC,agE (h:=x) hkl,eK]
   (first | with_reducible refine cN _ ?_ ?_ | refine cO _ ?_ ?_) <;> intro g
   ·simp +decide (maxSteps:=9^9) (disch:=omega) only[↓SB0,SX,seval,hQ,hQ1,hlen,bC,agE (h:=x) hkl,eK]
    exact ⟨(k,l[k]),by simp only [akz,agF _ _ hk,aky hkl],⟨by simp only; omega,fun j hj1 hj2=>by
     by_cases e:j=k
     ·subst e; exact g
     ·exact hj j (by simp only at hj1; omega) hj2⟩,by simp only; omega⟩
   ·simp +decide (maxSteps:=9^9) (disch:=omega) only[↓SB0,SX,seval,hQ,hQ1,hlen,eK]
    rw [akx hu hk hn hj (.inr ⟨by simpa using hkl,by simp only [Nat.add_sub_cancel]; omega⟩),akz,agF _ _ hk]
theorem aal {α β:Type} (f:β→α→β) (l:List α) (a:β) (i:Nat) (h:i<l.length):(l.take (i+1)).foldl f a=f ((l.take i).foldl f a) l[i]:=by
 rw [lR h,List.foldl_append]; rfl
theorem abk {t:Tab} {j:Int}:(nbT t j).isSome=(b0 t j).isSome:=by
 rw [nbT]
 cases e:b0 t j with
 | none=>rw [aaj e]; rfl
 | some k=>rw [sD e]; rfl
theorem ams {t:Tab} {j:Int} {k:Nat} (out:List Int) (h:b0 t j=some k):af9 (nbT t) out j=aj3 out j:=by
 rw [af9,abk,h]; rfl
theorem aoz {t:Tab} {j:Int} (out:List Int) (h:b0 t j=none):af9 (nbT t) out j=out:=by
 rw [af9,abk,h]; rfl
structure Nums (t:Tab) (l:List Int):Prop where
 up:Up l
 some':∀ x ∈ l,(nbT t x).isSome=true
theorem Nums.len {t:Tab} {l:List Int} (h:Nums t l):l.length≤t.inodes.length:=pB t l (rP h.up) h.some'
theorem Nums.addJs {t:Tab} {l:List Int} (h:Nums t l) (js:List Int):Nums t (js.foldl (af9 (nbT t)) l):=
 ⟨agb (nbT t) js l h.up,fun x hx=>by
  rcases (acN (nbT t) js l x).1 hx with h' | h'
  ·exact h.some' x h'
  ·exact h'.2⟩
theorem Nums.addIs {t:Tab} {l:List Int} (h:Nums t l) (is:List Int):Nums t (is.foldl (aga (nbT t)) l):=
 ⟨agc (nbT t) is l h.up,fun x hx=>by
  rcases (acO (nbT t) is l x).1 hx with h' | h'
  ·exact h.some' x h'
  ·exact h'.2⟩
theorem akA {t:Tab} {i:Int} (out:List Int) (h:aD t i=none):aga (nbT t) out i=out:=by rw [aga,nbT,h]; rfl
theorem akB {t:Tab} {i:Int} {x:Inode} (out:List Int) (h:aD t i=some x) (hk:¬ x.kind=2):aga (nbT t) out i=out:=by rw [aga,nbT,h]; simp [fG,hk]
theorem amt {t:Tab} {i:Int} {x:Inode} (out:List Int) (h:aD t i=some x) (hk:x.kind=2):aga (nbT t) out i=(x.ents.map Ent.ino).foldl (af9 (nbT t)) out:=by rw [aga,nbT,h]; simp [fG,hk]
theorem aia (f:List Int→Int→List Int) (l:List Ent) (a:List Int) (k:Nat) (h:k<l.length):((l.take (k+1)).map Ent.ino).foldl f a=f (((l.take k).map Ent.ino).foldl f a) l[k].ino:=by
 have:=aal f (l.map Ent.ino) a k (by simpa using h)
 rw [← lU4,← lU4] at this
 rw [this]; simp
theorem adh (t:Tab) (l:List Int) (h:t.sz<2^40) (hn:Nums t l):aZ Tryz.prog 112 [t.x,.ext 1 (l.map eK)] (.ext 1 ((aj4 (nbT t) l).map eK)) [.undef,.undef]:=by
 obtain ⟨hl,hls⟩:=cZ h
 have hll:=hn.len
 refine U ahF [] 1015 [] fun w hP hQ=>?_
 unfold zA
 refine N ?_
 refine eJ [7,8,9,5007] ?_
 refine N ?_
 refine aR [7,8,9,5007] (fun i:Nat=>[(5,.ext 1 (((l.take i).foldl (aga (nbT t)) l).map eK)),(6,.int .i64 i)]) (fun i=>i≤l.length) (fun i=>l.length-i) (0) hP hQ (rfl) (by simp) ?_
 rintro i hi w1 hP1 hQ1
 refine N1 ?_
 (first | with_reducible refine cN _ ?_ ?_ | refine cO _ ?_ ?_) <;> intro h1
 ·have hlt:i<l.length:=by omega
  have hI:=tL t (l[i]'hlt) h
  have hfo:=aal (aga (nbT t)) l l i hlt
  have hno:=hn.addIs (l.take i)
  generalize hO:(l.take i).foldl (aga (nbT t)) l=out at *
  cases e:aD t (l[i]'hlt) with
  | none=>
   rw [adc,e] at hI
   rw [akA _ e] at hfo
   simp +decide (maxSteps:=9^9) (disch:=omega) only[↓SB0,SX,seval,hQ,hQ1,bF h1,eK]
   refine K1 (hI) ?_
   refine eJ [] ?_
   refine N1 ?_
   refine aR [] (fun k:Nat=>[(5,.ext 1 (out.map eK)),(9,.int .i64 k)]) (fun k=>k=0) (fun k=>0) (0) hP1 hQ1 (rfl) (rfl) ?_
   rintro k hk w2 hP2 hQ2
   refine N2 ?_
   subst hk
   refine N2 ?_
   exact ⟨i+1,by simp only [hfo]; rfl,by omega,by omega⟩
  | some x=>
   have hx:=hls x (aK e).1
   have hel:x.ents.length<2^40:=(cW hx).2.1
   rw [adc,e] at hI
   simp only [lY,lH2] at hI
   by_cases hk2:x.kind=2
   ·rw [amt _ e hk2] at hfo
    simp +decide (maxSteps:=9^9) (disch:=omega) only[↓SB0,SX,seval,hQ,hQ1,bF h1,eK]
    refine K1 (hI) ?_
    refine eJ [] ?_
    refine N1 ?_
    refine aR [] (fun k:Nat=>[(5,.ext 1 ((((x.ents.take k).map Ent.ino).foldl (af9 (nbT t)) out).map eK)),(9,.int .i64 k)]) (fun k=>k≤x.ents.length) (fun k=>x.ents.length-k) (0) hP1 hQ1 (rfl) (by simp) ?_
    rintro k hk w2 hP2 hQ2
    refine N2 ?_
    have hno2:=hno.addJs ((x.ents.take k).map Ent.ino)
    have hl2:=hno2.len
    (first | with_reducible refine sV _ ?_ ?_ | refine sW _ ?_ ?_) <;> intro g1
    ·have hkl:k<x.ents.length:=by omega
     have hf2:=aia (af9 (nbT t)) x.ents out k hkl
     generalize ((x.ents.take k).map Ent.ino).foldl (af9 (nbT t)) out=o2 at *
     have hA:=qN t (x.ents[k]'hkl).ino (by omega)
     have hz:=And.intro g1 hk2
     refine Nz2 ?_
     cases e2:b0 t (x.ents[k]'hkl).ino with
     | none=>
      rw [e2] at hA
      rw [aoz _ e2] at hf2
      have hz:=(bF g1)
      refine Nz2 ?_
      refine K2 (hA) ?_
      exact ⟨k+1,by simp only [hf2,hk2]; rfl,by omega,by omega⟩
     | some m=>
      rw [e2,show abe (some m)=(m:Int) from rfl] at hA
      rw [ams _ e2] at hf2
      have hz:=(bF g1)
      refine Nz2 ?_
      refine K2 (hA) ?_
      (first | with_reducible refine cN _ ?_ ?_ | refine cO _ ?_ ?_) <;> intro g3
      ·have hz:=(bF g1)
       refine Nz2 ?_
       (first | refine aF hP2 (agG o2 (x.ents[k]'hkl).ino hno2.up (by omega)) (.inr rfl) ?_ | refine aB hP2 (agG o2 (x.ents[k]'hkl).ino hno2.up (by omega)) (.inr rfl) ?_)
       refine N2 ?_
       exact ⟨k+1,by simp only [hf2,hk2]; rfl,by omega,by omega⟩
      ·exfalso; omega
    ·obtain rfl:k=x.ents.length:=by omega
     rw [lX1] at *
     have hz:=g1
     refine Nz2 ?_
     exact ⟨i+1,by simp only [hfo]; rfl,by omega,by omega⟩
   ·rw [akB _ e hk2] at hfo
    simp +decide (maxSteps:=9^9) (disch:=omega) only[↓SB0,SX,seval,hQ,hQ1,bF h1,eK]
    refine K1 (hI) ?_
    refine eJ [] ?_
    refine N1 ?_
    refine aR [] (fun k:Nat=>[(5,.ext 1 (out.map eK)),(9,.int .i64 k)]) (fun k=>k=0) (fun k=>0) (0) hP1 hQ1 (rfl) (rfl) ?_
    rintro k hk w2 hP2 hQ2
    refine N2 ?_
    subst hk
    refine N2 ?_
    (first | with_reducible refine sV _ ?_ ?_ | refine sW _ ?_ ?_) <;> intro g1
    ·have hz:=And.intro g1 hk2
     refine Nz2 ?_
     exact ⟨i+1,by simp only [hfo]; rfl,by omega,by omega⟩
    ·have hz:=g1
     refine Nz2 ?_
     exact ⟨i+1,by simp only [hfo]; rfl,by omega,by omega⟩
 ·obtain rfl:i=l.length:=by omega
  simp +decide (maxSteps:=9^9) (disch:=omega) only[↓SB0,SX,seval,hQ,hQ1,lX1]
  rfl
def rdV (t:Tab):Nat→AV
 | 0=>.own 1 [eK 1]
 | i+1=>.ext 1 ((cS (nbT t) (i+1)).map eK)
theorem aam (t:Tab) (h:t.sz<2^40):aZ Tryz.prog 50 [t.x] (.ext 1 ((eP t).map eK)) [.undef]:=by
 obtain ⟨hl,hls⟩:=cZ h
 have hA:=qN t 1 (by omega)
 cases e:b0 t 1 with
 | none=>
  have hr:eP t=[]:=by rw [eP,rQ,lI]; rw [abk,e]; simp
  rw [e] at hA
  rw [hr]
  refine acp (ret:=.own 1 []) ?_
  refine U wP [] 31 [] fun w hP hQ=>?_
  unfold p8
  refine N ?_
  exact K (hA) trivial
 | some m=>
  have hm:=t7 e
  have h1s:(nbT t 1).isSome=true:=by rw [abk,e]; rfl
  have hr:eP t=cS (nbT t) t.inodes.length:=by rw [eP,rQ,lF h1s]
  rw [e,show abe (some m)=(m:Int) from rfl] at hA
  rw [hr]
  have hnum:∀ i,Nums t (cS (nbT t) i):=fun i=>⟨jB _ i,fun x hx=>l8 _ (oK _ h1s i x hx)⟩
  refine U wP [(112,[.b,.m],[])] 31 [] fun w hP hQ=>?_
  unfold p8
  refine N ?_
  refine K (hA) ?_
  (first | with_reducible refine cN _ ?_ ?_ | refine cO _ ?_ ?_) <;> intro g0
  ·exfalso; omega
  refine N ?_
  refine eJ [] ?_
  refine N ?_
  refine aR [] (fun i:Nat=>[(3,rdV t i),(4,.int .i64 i)]) (fun i=>i≤t.inodes.length) (fun i=>t.inodes.length-i) (0) hP hQ (rfl) (by simp) ?_
  rintro i hi w1 hP1 hQ1
  refine N1 ?_
  cases i with
  | zero=>
   have hN:=ahw (adh t [1] h (hnum 0))
   simp only [rdV]
   (first | with_reducible refine cN _ ?_ ?_ | refine cO _ ?_ ?_) <;> intro h1
   ·refine N1 ?_
    (first | refine aF hP1 (hN) (.inr rfl) ?_ | refine aB hP1 (hN) (.inr rfl) ?_)
    refine N1 ?_
    exact ⟨1,rfl,by omega,by omega⟩
   ·exfalso; omega
  | succ i=>
   have hN:=adh t (cS (nbT t) (i+1)) h (hnum (i+1))
   simp only [rdV]
   (first | with_reducible refine cN _ ?_ ?_ | refine cO _ ?_ ?_) <;> intro h1
   ·refine N1 ?_
    (first | refine aF hP1 (hN) (.inr rfl) ?_ | refine aB hP1 (hN) (.inr rfl) ?_)
    refine N1 ?_
    exact ⟨i+1+1,rfl,by omega,by omega⟩
   ·have he:i+1=t.inodes.length:=by omega
    refine N1 ?_
    rw [he]
section
open Go.Proofs Go.Shelf
def uJ:Go.Shelf.Ren:=⟨fun | 189=>111 | 125=>145 | 257=>161 | 128=>196 | 129=>197 | 294=>203 | 295=>204 | 296=>205 | 297=>206 | 298=>207 | 299=>208 | 216=>209 | 300=>210 | 301=>211 | 328=>239 | 329=>233 | 330=>234 | 331=>240 | 332=>241 | 215=>242 | 343=>259 | n=>n,
 fun | 28=>53 | 3=>3 | 46=>141 | 0=>0 | 51=>178 | 53=>180 | 4=>4 | 183=>171 | 182=>170 | 131=>175 | 5=>5 | 9=>9 | 218=>200 | 222=>204 | 228=>233 | 229=>35 | n=>n,
 fun | n=>n⟩
theorem t8:Lays.n189 Tryz.prog uJ where
 mixed:=by kernel_rfl
 f125:=Tryz.func145.trans (congrArg some (by kernel_rfl))
 f128:=Tryz.func196.trans (congrArg some (by kernel_rfl))
 f129:=Tryz.func197.trans (congrArg some (by kernel_rfl))
 f189:=Tryz.func111.trans (congrArg some (by kernel_rfl))
 f215:=Tryz.func242.trans (congrArg some (by kernel_rfl))
 f216:=Tryz.func209.trans (congrArg some (by kernel_rfl))
 f257:=Tryz.func161.trans (congrArg some (by kernel_rfl))
 f294:=Tryz.func203.trans (congrArg some (by kernel_rfl))
 f295:=Tryz.func204.trans (congrArg some (by kernel_rfl))
 f296:=Tryz.func205.trans (congrArg some (by kernel_rfl))
 f297:=Tryz.func206.trans (congrArg some (by kernel_rfl))
 f298:=Tryz.func207.trans (congrArg some (by kernel_rfl))
 f299:=Tryz.func208.trans (congrArg some (by kernel_rfl))
 f300:=Tryz.func210.trans (congrArg some (by kernel_rfl))
 f301:=Tryz.func211.trans (congrArg some (by kernel_rfl))
 f328:=Tryz.func239.trans (congrArg some (by kernel_rfl))
 f329:=Tryz.func233.trans (congrArg some (by kernel_rfl))
 f330:=Tryz.func234.trans (congrArg some (by kernel_rfl))
 f331:=Tryz.func240.trans (congrArg some (by kernel_rfl))
 f332:=Tryz.func241.trans (congrArg some (by kernel_rfl))
 f343:=Tryz.func259.trans (congrArg some (by kernel_rfl))
 t0:=Tryz.underlying0
 a0:=Tryz.isAgg0
 z0:=Tryz.sizeOf0
 v0:=Tryz.zeroValue0
 t3:=Tryz.underlying3
 a3:=Tryz.isAgg3
 z3:=Tryz.sizeOf3
 v3:=Tryz.zeroValue3
 t4:=Tryz.underlying4
 a4:=Tryz.isAgg4
 z4:=Tryz.sizeOf4
 v4:=Tryz.zeroValue4
 t5:=Tryz.underlying5
 a5:=Tryz.isAgg5
 z5:=Tryz.sizeOf5
 v5:=Tryz.zeroValue5
 t9:=Tryz.underlying9
 a9:=Tryz.isAgg9
 z9:=Tryz.sizeOf9
 v9:=Tryz.zeroValue9
 t28:=Tryz.underlying53
 a28:=Tryz.isAgg53
 z28:=Tryz.sizeOf53
 v28:=Tryz.zeroValue53
 t46:=Tryz.underlying141
 a46:=Tryz.isAgg141
 z46:=Tryz.sizeOf141
 v46:=Tryz.zeroValue141
 t51:=Tryz.underlying178
 a51:=Tryz.isAgg178
 z51:=Tryz.sizeOf178
 v51:=Tryz.zeroValue178
 t53:=Tryz.underlying180
 a53:=Tryz.isAgg180
 z53:=Tryz.sizeOf180
 v53:=Tryz.zeroValue180
 t131:=Tryz.underlying175
 a131:=Tryz.isAgg175
 z131:=Tryz.sizeOf175
 v131:=Tryz.zeroValue175
 t182:=Tryz.underlying170
 a182:=Tryz.isAgg170
 z182:=Tryz.sizeOf170
 v182:=Tryz.zeroValue170
 t183:=Tryz.underlying171
 a183:=Tryz.isAgg171
 z183:=Tryz.sizeOf171
 v183:=Tryz.zeroValue171
 t218:=Tryz.underlying200
 a218:=Tryz.isAgg200
 z218:=Tryz.sizeOf200
 v218:=Tryz.zeroValue200
 t222:=Tryz.underlying204
 a222:=Tryz.isAgg204
 z222:=Tryz.sizeOf204
 v222:=Tryz.zeroValue204
 t228:=Tryz.underlying233
 a228:=Tryz.isAgg233
 z228:=Tryz.sizeOf233
 v228:=Tryz.zeroValue233
 t229:=Tryz.underlying35
 a229:=Tryz.isAgg35
 z229:=Tryz.sizeOf35
 v229:=Tryz.zeroValue35
end
theorem amu {w:World} {o:Bool} {F:aL}:∀ (l:List Int) {cs:List Value},Row w o F cs (l.map eK).flatten→cs=l.map (Value.int .i64)∧∀ b,F b=0:=by
 intro l
 induction l generalizing F with
 | nil=>
  intro cs h
  cases h with
  | nil _ _ hF=>exact ⟨rfl,hF⟩
 | cons n l ih=>
  intro cs h
  have e:((n::l).map eK).flatten=.int .i64 n::(l.map eK).flatten:=by simp [eK]
  rw [e] at h
  cases h with
  | int _ _ _ _ vs _ h=>
   obtain ⟨e1,e2⟩:=ih h
   exact ⟨by rw [e1]; rfl,e2⟩
theorem amv {w:World} {o:Bool} (l:List Int):Row w o (fun _=>0) (l.map (Value.int .i64)) (l.map eK).flatten:=by
 induction l with
 | nil=>exact .nil _ _ fun _=>rfl
 | cons n l ih=>
  have e:((n::l).map eK).flatten=.int .i64 n::(l.map eK).flatten:=by simp [eK]
  rw [e]
  exact .int _ _ _ _ _ _ ih
abbrev uK (l:List Int):List Int:=l.mergeSort fun x y=>decide (x≤y)
theorem apS (l:List Int) (hl:l.length<2^40):aZ Tryz.prog 111 [.own 1 (l.map eK)] (.tup []) [.own 1 ((uK l).map eK)]:=by
 refine ⟨⟨_,Tryz.func111,by kernel_rfl,by kernel_rfl⟩,rfl,?_⟩
 intro w vs F X r h1 h2 h3
 have hlen:(uK l).length=l.length:=List.length_mergeSort l
 cases r with
 | own _ F1 F2 _ s es v vs ys hr hn hF=>
  cases hn with
  | nil _ _ hF2 hX=>
   rcases Row.sl_inv hr with ⟨rfl,he,h0⟩ | ⟨G1,b,off,cap,C,ty,fr,cs,rfl,hb,hfr,hcap,hle,hes,hcs,hc,hrow,hG⟩
   ·have hl0:l=[]:=by simpa using he
    subst hl0
    refine (Any.slices_Sort_int_none t8 none 0 w).mono ?_
    rintro e w' ⟨rfl,rfl⟩
    refine ⟨.tuple #[],F,X,rfl,?_,h1,h2,⟨lS1 _,.refl _⟩,fun b _ _=>rfl,fun b hb=>.inl hb,fun b hb=>⟨.inl hb,h3 b hb⟩⟩
    refine .tup F (fun _=>0) F X (fun _=>0) X [] [] _ _ RepA.znil ?_ (fun x=>by omega) (fun x=>by omega)
    exact .own F F1 F2 X 1 _ _ _ _ (by simpa [uK] using hr) (.nil _ _ hF2 hX) hF
   ·obtain ⟨hce,hG1⟩:=amu l hrow
    have hrl:(l.map eK).length=l.length:=lB1 _
    have hcsl:cs.length=l.length:=by rw [hce,lB1]
    rw [hrl] at hle ⊢
    have hsz:off+l.length≤C.size:=by omega
    have hbl:b<w.heap.size:=(lW3.1 hb).1
    have hH:Go.Sort.Holds (Value.int .i64) w b off l.toArray:=by
     intro j hj
     have hj':j<l.length:=by simpa using hj
     have e1:=hc j (by omega)
     rw [hce,lJ1,lJ hj'] at e1
     refine ⟨?_,?_⟩
     ·simp only [World.cell?,hb,lD,e1,lC]
      simp [getElem!_pos,hj']
     ·have:=hfr (off+j) (by omega)
      simp [World.frozen?,hb]
      simpa using this
    refine (Any.slices_Sort_int t8 b off cap l w hH hbl (by omega)).mono ?_
    rintro e w' ⟨rfl,n,os,rfl⟩
    have hw:∀ x,x≠b→x<w.heap.size→(Go.Sort.grow (Go.Sort.putRow (Value.int .i64) (Go.Sort.ahead w n) b off (uK l).toArray) os).heap[x]?=w.heap[x]?:=by
     intro x hx hxl
     simp only [Go.Sort.grow,Go.Sort.putRow,Go.Sort.mapBlock,Go.Sort.ahead]
     rw [lF3 (by simpa using hxl),lL3,lI (Ne.symm hx)]
    have hwb:(Go.Sort.grow (Go.Sort.putRow (Value.int .i64) (Go.Sort.ahead w n) b off (uK l).toArray) os).heap[b]?=some (.cells (Go.Sort.putCells (Value.int .i64) off (uK l).toArray C) ty fr):=by
     simp only [Go.Sort.grow,Go.Sort.putRow,Go.Sort.mapBlock,Go.Sort.ahead]
     rw [lF3 (by simpa using hbl),lL3,lF rfl,hb]; rfl
    have hsz2:(Go.Sort.putCells (Value.int .i64) off (uK l).toArray C).size=C.size:=by simp [Go.Sort.putCells]
    have hrow2:Row (Go.Sort.grow (Go.Sort.putRow (Value.int .i64) (Go.Sort.ahead w n) b off (uK l).toArray) os) true F1 [.slice (some ⟨b,off,none⟩) l.length cap] [.sl 1 ((uK l).map eK)]:=by
     refine Row.of_sl (F1:=fun _=>0) (cs:=(uK l).map (Value.int .i64)) (by rw [lB1,hlen]) hwb (by rw [hsz2]; exact hfr) (by rw [hsz2]; exact hcap) (by rw [lB1,hlen]; exact hle) ?_ ?_ ?_ (amv _) (fun x=>by have:=hG x; have:=hG1 x; omega)
     ·intro e he
      obtain ⟨x,_,rfl⟩:=lZ1.1 he
      rfl
     ·simp
     ·intro k hk
      rw [lB1,hlen] at hk
      rw [lJ1,lJ (by rw [hlen]; exact hk)]
      have hin:off≤off+k∧off+k<off+(uK l).length:=by omega
      simp only [Go.Sort.putCells,Array.getElem?_mapIdx,List.size_toArray]
      rw [lF1 (by omega),lC,lF hin,lC]
      simp [Nat.add_sub_cancel_left,getElem!_pos,hlen,hk]
    refine ⟨.tuple #[],F,X,rfl,?_,h1,h2,⟨?_,⟨rfl,rfl⟩⟩,fun x hx h0=>hw x (fun e=>?_) hx,fun x hx=>.inl hx,fun x hx=>⟨.inl hx,?_⟩⟩
    ·refine .tup F (fun _=>0) F X (fun _=>0) X [] [] _ _ RepA.znil ?_ (fun x=>by omega) (fun x=>by omega)
     exact .own F F1 F2 X 1 _ _ _ _ hrow2 (.nil _ _ hF2 hX) hF
    ·simp only [Go.Sort.grow,Go.Sort.putRow,Go.Sort.mapBlock,Go.Sort.ahead,lF4,Array.size_modify]; omega
    ·subst e
     have:=hF x; have:=hG x
     simp at *; omega
    ·have:=h3 x hx
     simp only [Go.Sort.grow,Go.Sort.putRow,Go.Sort.mapBlock,Go.Sort.ahead,lF4,Array.size_modify]; omega
theorem afe (l:List Int) (n:Int) (hl:l.length<2^48):aZ Tryz.prog 160 [.ext 1 (l.map eK),.int .i64 n] (.int .i64 (abe (l.findIdx? fun x=>decide (x=n)))) [.undef,.undef]:=by
 refine U aa6 [] 435 [] fun w hP hQ=>?_
 unfold rJ
 refine N ?_
 refine eJ [4,5] ?_
 refine N ?_
 refine aR [4,5] (fun i:Nat=>[(8,.int .i64 i)]) (fun i=>i≤l.length∧∀ k,k<i→(h:k<l.length)→decide (l[k]=n)=false) (fun i=>l.length-i) (0) hP hQ (rfl) (by simp) ?_
 rintro i ⟨hi,hk⟩ w1 hP1 hQ1
 refine N1 ?_
 (first | with_reducible refine cN _ ?_ ?_ | refine cO _ ?_ ?_) <;> intro h1
 ·simp +decide (maxSteps:=9^9) (disch:=omega) only[↓SB0,SX,seval,hQ,hQ1,bF h1,eK]
  (first | with_reducible refine cN _ ?_ ?_ | refine cO _ ?_ ?_) <;> intro h2
  ·refine N1 ?_
   rw [pE (p:=fun x:Int=>decide (x=n)) hk (by omega) (lE h2.symm)]; rfl
  ·refine N1 ?_
   exact ⟨i+1,rfl,⟨by omega,nD (p:=fun x:Int=>decide (x=n)) hk (by omega) (lB fun e=>h2 e.symm)⟩,by omega⟩
 ·obtain rfl:i=l.length:=by omega
  refine N1 ?_
  rw [pG (p:=fun x:Int=>decide (x=n)) fun k h=>hk k h h]; rfl
theorem yG (l:List Int) (n:Int) (hl:l.length<2^48):aZ Tryz.prog 110 [.ext 1 (l.map eK),.int .i64 n] (.bool (decide (n ∈ l))) [.undef,.undef]:=by
 have hI:=afe l n hl
 cases e:l.findIdx? (fun x=>decide (x=n)) with
 | none=>
  have hno:n ∉ l:=fun h=>by
   rw [lW2] at e
   have:=e n h
   simp at this
  rw [e] at hI
  refine U nJ [] 19 [] fun w hP hQ=>?_
  unfold iL
  refine N ?_
  refine K (hI) ?_
  rw [lB hno]
 | some k=>
  obtain ⟨hk,h1,_⟩:=lA2.1 e
  have hyes:n ∈ l:=by
   have:l[k]=n:=by simpa using h1
   rw [← this]; exact lN hk
  rw [e,show abe (some k)=(k:Int) from rfl] at hI
  refine U nJ [] 19 [] fun w hP hQ=>?_
  unfold iL
  refine N ?_
  refine K (hI) ?_
  rw [lE hyes,lE (by omega)]
def sE (out:List Int) (x:Inode):Nat:=if x.ino ∈ out then 0 else x.ents.length
def aff (t:Tab) (out:List Int):Nat:=(t.inodes.map (sE out)).sum
theorem amw (t:Tab) (out:List Int):aff t out≤t.sz:=by
 have h2:=abj (sE out) Inode.sz t.inodes fun x _=>by
  have:sE out x≤x.ents.length:=by unfold sE; split <;> omega
  have h3:x.ents.length≤x.sz:=by simp only [Inode.sz,szM]; omega
  omega
 have h3:t.sz=t.inodes.length+(t.inodes.map Inode.sz).sum:=rfl
 have h4:aff t out=(t.inodes.map (sE out)).sum:=rfl
 omega
theorem akC {t:Tab} {out:List Int} {x:Inode} (hx:x ∈ t.inodes) (hn:x.ino ∉ out):aff t (out++[x.ino])+x.ents.length≤aff t out:=by
 unfold aff
 generalize t.inodes=l at hx
 have mono:∀ y:Inode,sE (out++[x.ino]) y≤sE out y:=by
  intro y
  unfold sE
  by_cases h:y.ino ∈ out
  ·rw [lF h,lF (by simp [h])]; omega
  ·rw [lI h]; split <;> omega
 induction l with
 | nil=>cases hx
 | cons y l ih=>
  simp only [lO,lC2]
  rcases lG.1 hx with rfl | hx
  ·have h1:sE (out++[x.ino]) x=0:=by unfold sE; rw [if_pos (by simp)]
   have h2:sE out x=x.ents.length:=by unfold sE; rw [if_neg hn]
   have h3:=abj (sE (out++[x.ino])) (sE out) l fun y _=>mono y
   omega
  ·have:=ih hx
   have:=mono y
   omega
theorem abl (l:List Int) (n:Int):l.map eK++[[TV.int .i64 n]]=(l++[n]).map eK:=by simp [eK]
theorem akD (l:List Int) (es:List Ent) (k:Nat) (h:k<es.length):(l++(es.take k).map Ent.ino)++[es[k].ino]=l++(es.take (k+1)).map Ent.ino:=by
 rw [lR h,lF2,lM2]; rfl
theorem aib (t:Tab) (h:t.sz<2^40):aZ Tryz.prog 49 [t.x] (.own 1 ((eP t).map eK)) [.undef]:=by
 obtain ⟨hl,hls⟩:=cZ h
 refine U aeD [(111,[.l],[])] 15393162789631 [] fun w hP hQ=>?_
 unfold wA
 refine N ?_
 refine eJ [5,6,7,9,41,42,43,5006,5009] ?_
 refine N ?_
 refine aR [5,6,7,9,41,42,43,5006,5009] (fun s:List Int × List Int=>[(3,.own 1 (s.1.map eK)),(4,.own 1 (s.2.map eK))]) (fun s=>Que (nbT t) s.1 s.2∧s.2.length+aff t s.1≤1+t.sz) (fun s=>s.2.length+aff t s.1) (([],[1])) hP hQ (rfl) (⟨amf _,by have:=amw t []; simp only [lW,List.length_nil]; omega⟩) ?_
 rintro ⟨out,next⟩ ⟨hq,hb⟩ w1 hP1 hQ1
 refine N1 ?_
 simp only at hq hb
 have hol:=aol (nbT t) (pB t) hq
 cases next with
 | nil=>
  have hs:=ahS (nbT t) (pB t) hq
  refine N1 ?_
  refine K (apS out (by omega)) ?_
  rw [show uK out=eP t from hs]
 | cons i next=>
  have hnl:(next.length:Nat)<2^41:=by simp only [lW] at hb; omega
  have hI:=jE t i h
  have w0:decide ((0:Int)<((next.length+1:Nat):Int))=true:=lE (by omega)
  have tk:List.take next.length (next.map eK)=next.map eK:=by rw [lJ2 (by simp)]
  cases e:aD t i with
  | none=>
   rw [adc,e] at hI
   simp +decide (maxSteps:=9^9) (disch:=omega) only[↓SB0,SX,seval,hQ,hQ1,w0,eK,bC,tk]
   refine K1 (hI) ?_
   exact ⟨(out,next),rfl,⟨agd _ hq (.inl (by rw [nbT,e]; rfl)),by simp only [lW] at *; omega⟩,by simp only [lW]; omega⟩
  | some x=>
   obtain ⟨hxm,hxi⟩:=aK e
   have hel:x.ents.length<2^40:=(cW (hls x hxm)).2.1
   rw [adc,e] at hI
   simp only [lY,lH2] at hI
   have hC:=yG out i (by omega)
   by_cases hin:i ∈ out
   ·rw [lE hin] at hC
    simp +decide (maxSteps:=9^9) (disch:=omega) only[↓SB0,SX,seval,hQ,hQ1,w0,eK,bC,tk]
    refine K1 (hI) ?_
    refine K1 (hC) ?_
    exact ⟨(out,next),rfl,⟨agd _ hq (.inr hin),by simp only [lW] at *; omega⟩,by simp only [lW]; omega⟩
   ·rw [lB hin] at hC
    have hrest:=akC (t:=t) (out:=out) hxm (by rw [hxi]; exact hin)
    rw [hxi] at hrest
    simp +decide (maxSteps:=9^9) (disch:=omega) only[↓SB0,SX,seval,hQ,hQ1,w0,eK,bC,tk]
    refine K1 (hI) ?_
    refine K1 (hC) ?_
    (first | with_reducible refine cN _ ?_ ?_ | refine cO _ ?_ ?_) <;> intro hk2
    ·have hq2:=age (nbT t) hq (l:=x.ents.map Ent.ino) (by rw [nbT,e]; simp [fG,hk2]) hin
     refine N1 ?_
     rw [abl]
     refine eJ [9,5009] ?_
     refine N1 ?_
     refine aR [9,5009] (fun k:Nat=>[(4,.own 1 ((next++(x.ents.take k).map Ent.ino).map eK)),(43,.int .i64 k)]) (fun k=>k≤x.ents.length) (fun k=>x.ents.length-k) (0) hP1 hQ1 (by simp only [List.take_zero,lR1,lR2]; rfl) (by simp) ?_
     rintro k hk w2 hP2 hQ2
     refine N2 ?_
     have hlen:(next++(x.ents.take k).map Ent.ino).length<2^42:=by simp only [lU,lB1,lT]; omega
     (first | with_reducible refine cN _ ?_ ?_ | refine cO _ ?_ ?_) <;> intro g1
     ·have hp:=akD next x.ents k (by omega)
      generalize next++(x.ents.take k).map Ent.ino=nx at *
      have hz:=(bF g1)
      refine Nz2 ?_
      exact ⟨k+1,by simp only [abl,hp]; rfl,by omega,by omega⟩
     ·obtain rfl:k=x.ents.length:=by omega
      rw [lX1] at *
      refine N2 ?_
      exact ⟨(out++[i],next++x.ents.map Ent.ino),rfl,⟨hq2,by simp only [lW,lU,lB1] at *; omega⟩,by simp only [lW,lU,lB1] at *; omega⟩
    ·have hq2:=age (nbT t) hq (l:=[]) (by rw [nbT,e]; simp [fG,hk2]) hin
     rw [lR2] at hq2
     refine N1 ?_
     exact ⟨(out++[i],next),by simp only [abl],⟨hq2,by simp only [lW] at *; omega⟩,by simp only [lW]; omega⟩
theorem u6 {t:Tab} {x:Inode} (hx:x ∈ t.inodes) (h:mI t x=false):bA t=false:=by
 have:t.inodes.all (mI t)=false:=by
  rw [lH4]
  exact ⟨x,hx,by simp [h]⟩
 simp [bA,this]
theorem adi {t:Tab} {x:Inode} {e:Ent} (he:e ∈ x.ents) (h:b0 t e.ino=none):mI t x=false:=by
 have:z6 t x=false:=by
  rw [z6,lH4]
  exact ⟨e,he,by rw [aaj h]; simp⟩
 simp [mI,this]
theorem adj {t:Tab} {x:Inode} (h:∀ k,(hk:k<x.ents.length)→(b0 t (x.ents[k]).ino).isSome=true):z6 t x=true:=by
 rw [z6,lA1]
 intro e he
 obtain ⟨k,hk,rfl⟩:=lN1 he
 obtain ⟨m,hm⟩:=lZ.1 (h k hk)
 rw [sD hm]; rfl
theorem u7 {α:Type} {l:List α} {p:α→Prop} {i:Nat} (hk:∀ k,k<i→(h:k<l.length)→p l[k]) (hi:(h:i<l.length)→p l[i]):∀ k,k<i+1→(h:k<l.length)→p l[k]:=by
 intro k hlt hl
 by_cases e:k=i
 ·subst e; exact hi hl
 ·exact hk k (by omega) hl
theorem agH {α:Type} {l:List α} {p:α→Bool} (h:∀ k,(hk:k<l.length)→p l[k]=true):l.all p=true:=by
 rw [lA1]
 intro x hx
 obtain ⟨k,hk,rfl⟩:=lN1 hx
 exact h k hk
theorem gD (t:Tab) (h:t.sz<2^40):aZ Tryz.prog 46 [t.x] (.bool (bA t)) [.undef]:=by
 obtain ⟨hl,hls⟩:=cZ h
 have hLk:=nE t
 refine U ahy [] 63 [] fun w hP hQ=>?_
 unfold yZ
 refine N ?_
 rcases uI (zZ t) with hT | hT
 ·have hz:=hT
  refine Kz (agA t h) ?_
  simp [bA,hT]
 have hz:=hT
 refine Kz (agA t h) ?_
 (first | refine aF hP (aam t h) (.inr rfl) ?_ | refine aB hP (aam t h) (.inr rfl) ?_)
 refine N ?_
 (first | with_reducible refine cN _ ?_ ?_ | refine cO _ ?_ ?_) <;> intro hR
 rotate_left
 ·refine N ?_
  have:decide ((eP t).length=t.inodes.length)=false:=lB (by omega)
  simp [bA,this]
 refine N ?_
 refine eJ [2,4,5,5004] ?_
 refine N ?_
 refine aR [2,4,5,5004] (fun i:Nat=>[(3,.int .i64 i)]) (fun i=>i≤t.inodes.length∧∀ k,k<i→(h:k<t.inodes.length)→mI t t.inodes[k]=true) (fun i=>t.inodes.length-i) (0) hP hQ (rfl) (by simp) ?_
 rintro i ⟨hi,hk⟩ w1 hP1 hQ1
 refine N1 ?_
 (first | with_reducible refine cN _ ?_ ?_ | refine cO _ ?_ ?_) <;> intro h1
 ·have hlt:i<t.inodes.length:=by omega
  have hx:=hls _ (lN hlt)
  have hm:=lN hlt
  have hnx:mI t (t.inodes[i]'hlt)=true→∀ k,k<i+1→(h:k<t.inodes.length)→mI t t.inodes[k]=true:=fun hp=>u7 (p:=fun x=>mI t x=true) hk (fun _=>hp)
  have hz:=(bF h1)
  refine Nz1 ?_
  generalize t.inodes[i]'hlt=x at *
  have hel:x.ents.length<2^40:=(cW hx).2.1
  refine K1 (ah8 t x.ino h) ?_
  (first | with_reducible refine cN _ ?_ ?_ | refine cO _ ?_ ?_) <;> intro h2
  rotate_left
  ·refine N1 ?_
   rw [u6 hm (by rw [mI,lB (by omega)]; rfl)]
  refine N1 ?_
  refine eJ [2] ?_
  refine N1 ?_
  refine aR [2] (fun k:Nat=>[(5,.int .i64 k)]) (fun k=>k≤x.ents.length∧∀ j,j<k→(h:j<x.ents.length)→(b0 t (x.ents[j]).ino).isSome=true) (fun k=>x.ents.length-k) (0) hP1 hQ1 (rfl) (by simp) ?_
  rintro k ⟨hk1,hk2⟩ w2 hP2 hQ2
  refine N2 ?_
  (first | with_reducible refine cN _ ?_ ?_ | refine cO _ ?_ ?_) <;> intro h3
  ·have hkl:k<x.ents.length:=by omega
   have hA:=qN t (x.ents[k]'hkl).ino (by omega)
   cases e:b0 t (x.ents[k]'hkl).ino with
   | none=>
    rw [e] at hA
    have hz:=(bF h3)
    refine Nz2 ?_
    refine K2 (hA) ?_
    rw [u6 hm (adi (lN hkl) e)]
   | some m=>
    rw [e,show abe (some m)=(m:Int) from rfl] at hA
    have hz:=(bF h3)
    refine Nz2 ?_
    refine K2 (hA) ?_
    (first | with_reducible refine cN _ ?_ ?_ | refine cO _ ?_ ?_) <;> intro h4
    ·exfalso; omega
    ·refine N2 ?_
     exact ⟨k+1,rfl,⟨by omega,u7 (p:=fun y:Ent=>(b0 t y.ino).isSome=true) hk2 (fun _=>by rw [e]; rfl)⟩,by omega⟩
  ·obtain rfl:k=x.ents.length:=by omega
   have hp:mI t x=true:=by
    rw [mI,adj fun k hk=>hk2 k hk hk,lE (by omega)]; rfl
   refine N2 ?_
   exact ⟨i+1,rfl,⟨by omega,hnx hp⟩,by omega⟩
 ·obtain rfl:i=t.inodes.length:=by omega
  have:decide ((eP t).length=t.inodes.length)=true:=lE (by omega)
  refine N1 ?_
  rw [bA,hT,this,agH fun k hk'=>hk k hk' hk']; rfl
theorem xP (t:Tab) (h:t.sz<2^40):aZ Tryz.prog 28 [t.x] (.bool (bA t)) [.undef]:=by
 obtain ⟨hl,hls⟩:=cZ h
 have hLk:=nE t
 refine U ahx [] 120266424407 [] fun w hP hQ=>?_
 unfold yY
 refine N ?_
 rcases uI (zZ t) with hT | hT
 ·have hz:=hT
  refine Kz (agB t h) ?_
  simp [bA,hT]
 have hz:=hT
 refine Kz (agB t h) ?_
 refine K (aib t h) ?_
 (first | with_reducible refine cN _ ?_ ?_ | refine cO _ ?_ ?_) <;> intro hR
 rotate_left
 ·refine N ?_
  have:decide ((eP t).length=t.inodes.length)=false:=lB (by omega)
  simp [bA,this]
 refine N ?_
 refine eJ [2,4,6,34,35,36,5004,5006] ?_
 refine N ?_
 refine aR [2,4,6,34,35,36,5004,5006] (fun i:Nat=>[(22,.int .i64 i)]) (fun i=>i≤t.inodes.length∧∀ k,k<i→(h:k<t.inodes.length)→mI t t.inodes[k]=true) (fun i=>t.inodes.length-i) (0) hP hQ (rfl) (by simp) ?_
 rintro i ⟨hi,hk⟩ w1 hP1 hQ1
 refine N1 ?_
 (first | with_reducible refine cN _ ?_ ?_ | refine cO _ ?_ ?_) <;> intro h1
 ·have hlt:i<t.inodes.length:=by omega
  have hx:=hls _ (lN hlt)
  have hm:=lN hlt
  have hnx:mI t (t.inodes[i]'hlt)=true→∀ k,k<i+1→(h:k<t.inodes.length)→mI t t.inodes[k]=true:=fun hp=>u7 (p:=fun x=>mI t x=true) hk (fun _=>hp)
  have hz:=(bF h1)
  refine Nz1 ?_
  generalize t.inodes[i]'hlt=x at *
  have hel:x.ents.length<2^40:=(cW hx).2.1
  refine K1 (ah9 t x.ino h) ?_
  (first | with_reducible refine cN _ ?_ ?_ | refine cO _ ?_ ?_) <;> intro h2
  rotate_left
  ·refine N1 ?_
   rw [u6 hm (by rw [mI,lB (by omega)]; rfl)]
  refine N1 ?_
  refine eJ [2,6,5006] ?_
  refine N1 ?_
  refine aR [2,6,5006] (fun k:Nat=>[(36,.int .i64 k)]) (fun k=>k≤x.ents.length∧∀ j,j<k→(h:j<x.ents.length)→(b0 t (x.ents[j]).ino).isSome=true) (fun k=>x.ents.length-k) (0) hP1 hQ1 (rfl) (by simp) ?_
  rintro k ⟨hk1,hk2⟩ w2 hP2 hQ2
  refine N2 ?_
  (first | with_reducible refine cN _ ?_ ?_ | refine cO _ ?_ ?_) <;> intro h3
  ·have hkl:k<x.ents.length:=by omega
   have hA:=tK t (x.ents[k]'hkl).ino (by omega)
   cases e:b0 t (x.ents[k]'hkl).ino with
   | none=>
    rw [e] at hA
    have hz:=(bF h3)
    refine Nz2 ?_
    refine K2 (hA) ?_
    rw [u6 hm (adi (lN hkl) e)]
   | some m=>
    rw [e,show abe (some m)=(m:Int) from rfl] at hA
    have hz:=(bF h3)
    refine Nz2 ?_
    refine K2 (hA) ?_
    (first | with_reducible refine cN _ ?_ ?_ | refine cO _ ?_ ?_) <;> intro h4
    ·exfalso; omega
    ·refine N2 ?_
     exact ⟨k+1,rfl,⟨by omega,u7 (p:=fun y:Ent=>(b0 t y.ino).isSome=true) hk2 (fun _=>by rw [e]; rfl)⟩,by omega⟩
  ·obtain rfl:k=x.ents.length:=by omega
   have hp:mI t x=true:=by
    rw [mI,adj fun k hk=>hk2 k hk hk,lE (by omega)]; rfl
   refine N2 ?_
   exact ⟨i+1,rfl,⟨by omega,hnx hp⟩,by omega⟩
 ·obtain rfl:i=t.inodes.length:=by omega
  have:decide ((eP t).length=t.inodes.length)=true:=lE (by omega)
  refine N1 ?_
  rw [bA,hT,this,agH fun k hk'=>hk k hk' hk']; rfl


theorem adk {l:List Inode} {n:Nat} (h:szM Inode.sz l<n):l.length<n∧∀ x ∈ l,x.sz<n:=by
 refine ⟨by simp only [szM] at h; omega,fun x hx=>?_⟩
 have:=aa8 (f:=Inode.sz) hx
 simp only [szM] at h; omega
theorem tM {g:Nat} (l m:List Inode) (hl:szM Inode.sz l<2^40) (hm:szM Inode.sz m<2^40)
  (hc:∀ a b:Inode,a.sz<2^40→b.sz<2^40→aZ Tryz.prog g [a.x,b.x] (.bool (decide (a=b))) [.undef,.undef]) :
  aZ Tryz.prog 72 [.ext 6 (l.map Inode.row),.ext 6 (m.map Inode.row),.fn g []] (.bool (decide (l=m))) [.undef,.undef,.undef]:=by
 obtain ⟨l1,l2⟩:=adk hl
 obtain ⟨m1,m2⟩:=adk hm
 refine U qC [] 230343 [] fun w hP hQ=>?_
 unfold jM
 refine N ?_
 (first | with_reducible refine cN _ ?_ ?_ | refine cO _ ?_ ?_) <;> intro h
 ·refine N ?_
  refine eJ [6,7,8,9,5008,5009] ?_
  refine N ?_
  refine aR [6,7,8,9,5008,5009] (fun i:Nat=>[(17,.int .i64 i)]) (fun i=>i≤l.length∧l.take i=m.take i) (fun i=>l.length-i) (0) hP hQ (rfl) (by simp) ?_
  rintro i ⟨hi,hab⟩ w1 hP1 hQ1
  refine N1 ?_
  (first | with_reducible refine cN _ ?_ ?_ | refine cO _ ?_ ?_) <;> intro h1
  ·have hz:=And.intro (bF h1) (bF (h ▸ h1))
   refine Nz1 ?_
   refine K1 (hc (l[i]'(by omega)) (m[i]'(by omega)) (l2 _ (lN _)) (m2 _ (lN _))) ?_
   (first | with_reducible refine cN _ ?_ ?_ | refine cO _ ?_ ?_) <;> intro h2
   ·refine N1 ?_
    exact ⟨i+1,rfl,⟨by omega,iF hab _ _ h2⟩,by omega⟩
   ·refine N1 ?_
    rw [lB (show ¬ l=m from fun e=>by subst e; exact h2 rfl)]
  ·refine N1 ?_
   rw [lE (uY hab (by omega) (by omega))]
 ·refine N ?_
  rw [lB (show ¬ l=m from fun e=>h (by rw [e]))]
theorem aic (a b:Tab) (ha:a.sz<2^40) (hb:b.sz<2^40):aZ Tryz.prog 20 [a.x,b.x] (.bool (decide (a=b))) [.undef,.undef]:=by
 refine U aeA [] 31 [] fun w hP hQ=>?_
 unfold v6
 refine N ?_
 (first | with_reducible refine sV _ ?_ ?_ | refine sW _ ?_ ?_) <;> intro h0
 rotate_left
 ·have hz:=h0
  refine Nz ?_
  rw [lB (show ¬ a=b from fun h=>h0 (by rw [h]))]
 have hz:=h0
 refine Nz ?_
 refine K (tM a.inodes b.inodes ha hb fun x y hx hy=>ada x y hx hy) ?_
 rw [agx (p:=a=b) ⟨fun h=>by rw [h],fun h=>Tab.eq' h h0⟩]

theorem adl (x:Inode) (n:aA):bE x n=match x.ents.findIdx? (fun e=>decide (e.name=n)) with
  | none=>0
  | some k=>((x.ents[k]?).map Ent.ino).getD 0:=by
 rw [bE,agy]
 cases x.ents.findIdx? (fun e=>decide (e.name=n)) <;> rfl
theorem agI {x:Inode} {n:aA} {i:Nat} (hk:∀ k,k<i→(h:k<x.ents.length)→decide (x.ents[k].name=n)=false) (h:i<x.ents.length) (hi:x.ents[i].name=n):bE x n=x.ents[i].ino:=by
 rw [adl,pE (p:=fun e:Ent=>decide (e.name=n)) hk h (lE hi)]
 simp only [lJ h]; rfl
theorem agJ {x:Inode} {n:aA} (hk:∀ k,(h:k<x.ents.length)→decide (x.ents[k].name=n)=false):bE x n=0:=by
 rw [adl,pG (p:=fun e:Ent=>decide (e.name=n)) hk]
theorem amx (x:Inode) (n:aA) (h:x.sz<2^40):aZ Tryz.prog 69 [x.x,.str n] (.int .i64 (bE x n)) [.undef,.undef]:=by
 obtain ⟨h1,h2,h3⟩:=cW h
 refine U ajR [] 1879 [] fun w hP hQ=>?_
 unfold acs
 refine N ?_
 refine eJ [4,6,5006] ?_
 refine N ?_
 refine aR [4,6,5006] (fun i:Nat=>[(10,.int .i64 i)]) (fun i=>i≤x.ents.length∧∀ k,k<i→(h:k<x.ents.length)→decide (x.ents[k].name=n)=false) (fun i=>x.ents.length-i) (0) hP hQ (rfl) (by simp) ?_
 rintro i ⟨hi,hk⟩ w1 hP1 hQ1
 refine N1 ?_
 (first | with_reducible refine cN _ ?_ ?_ | refine cO _ ?_ ?_) <;> intro g
 ·have hz:=(bF g)
  refine Nz1 ?_
  (first | with_reducible refine cN _ ?_ ?_ | refine cO _ ?_ ?_) <;> intro e
  ·refine N1 ?_
   rw [agI hk (by omega) e]
  ·refine N1 ?_
   exact ⟨i+1,rfl,⟨by omega,nD (p:=fun e:Ent=>decide (e.name=n)) hk (by omega) (lB e)⟩,by omega⟩
 ·obtain rfl:i=x.ents.length:=by omega
  refine N1 ?_
  rw [agJ fun k h=>hk k h h]
theorem agK (x:Inode) (n:aA) (h:x.sz<2^40):aZ Tryz.prog 151 [x.x,.str n] (.int .i64 (bE x n)) [.undef,.undef]:=by
 obtain ⟨h1,h2,h3⟩:=cW h
 refine U ajY [] 55 [] fun w hP hQ=>?_
 unfold acz
 refine N ?_
 refine eJ [4] ?_
 refine N ?_
 refine aR [4] (fun i:Nat=>[(5,.int .i64 i)]) (fun i=>i≤x.ents.length∧∀ k,k<i→(h:k<x.ents.length)→decide (x.ents[k].name=n)=false) (fun i=>x.ents.length-i) (0) hP hQ (rfl) (by simp) ?_
 rintro i ⟨hi,hk⟩ w1 hP1 hQ1
 refine N1 ?_
 (first | with_reducible refine cN _ ?_ ?_ | refine cO _ ?_ ?_) <;> intro g
 ·have hz:=(bF g)
  refine Nz1 ?_
  (first | with_reducible refine cN _ ?_ ?_ | refine cO _ ?_ ?_) <;> intro e
  ·have hz:=(bF g)
   refine Nz1 ?_
   rw [agI hk (by omega) e]
  ·refine N1 ?_
   exact ⟨i+1,rfl,⟨by omega,nD (p:=fun e:Ent=>decide (e.name=n)) hk (by omega) (lB e)⟩,by omega⟩
 ·obtain rfl:i=x.ents.length:=by omega
  refine N1 ?_
  rw [agJ fun k h=>hk k h h]
theorem aan {t:Tab} {l:List aA} {i:Nat} (h:i<l.length) {a:Int} {x:Inode} (hx:aD t a=some x) (hk:x.kind=2) (he:bE x l[i]≠0):jT t (l.drop i) a=jT t (l.drop (i+1)) (bE x l[i]):=by
 rw [lL2 h,jT,hx]
 simp only [lF hk,lI he]
theorem agL {t:Tab} {l:List aA} {i:Nat} (h:i<l.length) {a:Int} (hx:aD t a=none):jT t (l.drop i) a=(0,2):=by
 rw [lL2 h,jT,hx]
theorem aao {t:Tab} {l:List aA} {i:Nat} (h:i<l.length) {a:Int} {x:Inode} (hx:aD t a=some x) (hk:¬ x.kind=2):jT t (l.drop i) a=(0,3):=by
 rw [lL2 h,jT,hx]
 simp only [lI hk]
theorem aap {t:Tab} {l:List aA} {i:Nat} (h:i<l.length) {a:Int} {x:Inode} (hx:aD t a=some x) (hk:x.kind=2) (he:bE x l[i]=0):jT t (l.drop i) a=(0,2):=by
 rw [lL2 h,jT,hx]
 simp only [lF hk,lF he]
theorem sF {t:Tab} (h:t.sz<2^40) {a:Int} {x:Inode} (hx:aD t a=some x):x.sz<2^40:=(cZ h).2 x (aK hx).1
theorem aoA (t:Tab) (s:aA) (h:t.sz<2^40) (hs:s.length<2^40):aZ Tryz.prog 23 [t.x,.str s] (.tup [.int .i64 (pA t s).1,.int .i64 (pA t s).2]) [.undef,.undef]:=by
 have hS:=oU s hs
 have hf:=mL s
 unfold pA
 generalize aC s=y at *
 obtain ⟨l,b⟩:=y
 simp only at *
 cases b with
 | false=>
  rw [lI (by simp)]
  refine U af4 [] 7347703 [] fun w hP hQ=>?_
  unfold aaU
  refine N ?_
  exact K (hS) trivial
 | true=>
  rw [lF rfl]
  refine U af4 [] 7347703 [] fun w hP hQ=>?_
  unfold aaU
  refine N ?_
  refine K (hS) ?_
  refine eJ [4,5,10,11,12,5011] ?_
  refine N ?_
  refine aR [4,5,10,11,12,5011] (fun x:Nat × Int=>[(8,.int .i64 x.2),(22,.int .i64 (x.1:Nat))]) (fun x=>x.1≤l.length∧jT t (l.drop x.1) x.2=jT t l 1) (fun x=>l.length-x.1) ((0,1)) hP hQ (rfl) (⟨lI3 _,rfl⟩) ?_
  rintro ⟨i,a⟩ ⟨hi,hw⟩ w1 hP1 hQ1
  refine N1 ?_
  simp only at hi hw
  (first | with_reducible refine cN _ ?_ ?_ | refine cO _ ?_ ?_) <;> intro g
  ·have hlt:i<l.length:=by omega
   have hA:=jE t a h
   cases hx:aD t a with
   | none=>
    rw [hx] at hA
    rw [agL hlt hx] at hw
    simp +decide (maxSteps:=9^9) (disch:=omega) only[↓SB0,SX,seval,hQ,hQ1,bF g,cP]
    have hz:=hw.symm
    exact Kz1 (hA) trivial
   | some x=>
    rw [adc,hx] at hA
    have hE:=amx x l[i] (sF h hx)
    by_cases hk:x.kind=2
    ·have hk':decide (x.kind=2)=true:=lE hk
     by_cases he:bE x l[i]=0
     ·rw [aap hlt hx hk he] at hw
      rw [he] at hE
      simp +decide (maxSteps:=9^9) (disch:=omega) only[↓SB0,SX,seval,hQ,hQ1,bF g,cP]
      (first|refine cI hP1 (hA) rfl rfl ?_|refine cH hP1 (hA) rfl rfl ?_)
      simp +decide (maxSteps:=9^9) (disch:=omega) only[↓SB0,SX,seval,hQ,hQ1,hk',lY]
      have hz:=hw.symm
      exact Kz1 (hE) trivial
     ·rw [aan hlt hx hk he] at hw
      have he':decide (bE x l[i]=0)=false:=lB he
      simp +decide (maxSteps:=9^9) (disch:=omega) only[↓SB0,SX,seval,hQ,hQ1,bF g,cP]
      (first|refine cI hP1 (hA) rfl rfl ?_|refine cH hP1 (hA) rfl rfl ?_)
      simp +decide (maxSteps:=9^9) (disch:=omega) only[↓SB0,SX,seval,hQ,hQ1,hk',lY]
      have hz:=he'
      refine Kz1 (hE) ?_
      exact ⟨(i+1,bE x l[i]),rfl,⟨by simp only; omega,hw⟩,by simp only; omega⟩
    ·have hk':decide (x.kind=2)=false:=lB hk
     rw [aao hlt hx hk] at hw
     simp +decide (maxSteps:=9^9) (disch:=omega) only[↓SB0,SX,seval,hQ,hQ1,bF g,cP]
     (first|refine cI hP1 (hA) rfl rfl ?_|refine cH hP1 (hA) rfl rfl ?_)
     simp +decide (maxSteps:=9^9) (disch:=omega) only[↓SB0,SX,seval,hQ,hQ1,hk',lY,← hw]
  ·obtain rfl:i=l.length:=by omega
   rw [List.drop_length,jT] at hw
   have hz:=hw.symm
   exact Nz1 trivial
theorem akE (t:Tab) (l:List aA) (h:t.sz<2^40) (hl:l.length<2^40):aZ Tryz.prog 152 [t.x,.ext 1 (l.map cP)] (.tup [.int .i64 (jT t l 1).1,.int .i64 (jT t l 1).2]) [.undef,.undef]:=by
 obtain ⟨t1,t2⟩:=cZ h
 refine U ahL [] 503 [] fun w hP hQ=>?_
 unfold zH
 refine N ?_
 refine eJ [4,5,8] ?_
 refine N ?_
 refine aR [4,5,8] (fun x:Nat × Int=>[(6,.int .i64 x.2),(7,.int .i64 (x.1:Nat))]) (fun x=>x.1≤l.length∧jT t (l.drop x.1) x.2=jT t l 1) (fun x=>l.length-x.1) ((0,1)) hP hQ (rfl) (⟨lI3 _,rfl⟩) ?_
 rintro ⟨i,a⟩ ⟨hi,hw⟩ w1 hP1 hQ1
 refine N1 ?_
 simp only at hi hw
 (first | with_reducible refine cN _ ?_ ?_ | refine cO _ ?_ ?_) <;> intro g
 ·have hlt:i<l.length:=by omega
  have hA:=qN t a (by omega)
  cases hx:b0 t a with
  | none=>
   rw [hx] at hA
   rw [agL hlt (aaj hx)] at hw
   refine N1 ?_
   have hz:=hw.symm
   exact Kz1 (hA) trivial
  | some k=>
   have hk1:=t7 hx
   have hx':=sD hx
   rw [hx,show abe (some k)=(k:Int) from rfl] at hA
   have hE:=agK (t.inodes[k]) l[i] (t2 _ (lN hk1))
   have hz:decide (((k:Nat):Int)<0)=false:=lB (by omega)
   have hg:((k:Nat):Int)<(t.inodes.length:Nat):=by omega
   by_cases hk:(t.inodes[k]).kind=2
   ·have hk':decide ((t.inodes[k]).kind=2)=true:=lE hk
    by_cases he:bE (t.inodes[k]) l[i]=0
    ·rw [aap hlt hx' hk he] at hw
     rw [he] at hE
     refine N1 ?_
     (first|refine cI hP1 (hA) rfl rfl ?_|refine cH hP1 (hA) rfl rfl ?_)
     simp +decide (maxSteps:=9^9) (disch:=omega) only[↓SB0,SX,seval,hQ,hQ1,hz,bF hg,hk',bF g,cP]
     have hz:=hw.symm
     exact Kz1 (hE) trivial
    ·rw [aan hlt hx' hk he] at hw
     have he':decide (bE (t.inodes[k]) l[i]=0)=false:=lB he
     refine N1 ?_
     (first|refine cI hP1 (hA) rfl rfl ?_|refine cH hP1 (hA) rfl rfl ?_)
     simp +decide (maxSteps:=9^9) (disch:=omega) only[↓SB0,SX,seval,hQ,hQ1,hz,bF hg,hk',bF g,cP]
     have hz:=he'
     refine Kz1 (hE) ?_
     exact ⟨(i+1,_),rfl,⟨by simp only; omega,hw⟩,by simp only; omega⟩
   ·have hk':decide ((t.inodes[k]).kind=2)=false:=lB hk
    rw [aao hlt hx' hk] at hw
    refine N1 ?_
    have hz:=And.intro hz (And.intro (bF hg) (And.intro hk' hw.symm))
    exact Kz1 (hA) trivial
 ·obtain rfl:i=l.length:=by omega
  rw [List.drop_length,jT] at hw
  have hz:=hw.symm
  exact Nz1 trivial
theorem afg (t:Tab) (s:aA) (h:t.sz<2^40) (hs:s.length<2^40):aZ Tryz.prog 97 [t.x,.str s] (.tup [.int .i64 (pA t s).1,.int .i64 (pA t s).2]) [.undef,.undef]:=by
 have hS:=dO s hs
 have hf:=mL s
 unfold pA
 generalize aC s=y at *
 obtain ⟨l,b⟩:=y
 simp only at *
 cases b with
 | false=>
  rw [lI (by simp)]
  refine U af5 [] 247 [] fun w hP hQ=>?_
  unfold aaV
  refine N ?_
  exact K (hS) trivial
 | true=>
  rw [lF rfl]
  refine U af5 [] 247 [] fun w hP hQ=>?_
  unfold aaV
  refine N ?_
  refine K (hS) ?_
  exact K (akE t l h (by omega)) trivial
theorem adm {t:Tab} {s:aA} (hc:(pA t s).2≠0):cM t s=.error (pA t s).2:=by rw [cM,lI hc]
theorem adn {t:Tab} {s:aA} (hc:(pA t s).2=0) (hx:aD t (pA t s).1=none):cM t s=.error 2:=by rw [cM,lF hc,hx]
theorem ado {t:Tab} {s:aA} {x:Inode} (hc:(pA t s).2=0) (hx:aD t (pA t s).1=some x):cM t s=.ok x:=by rw [cM,lF hc,hx]
theorem afh (t:Tab) (s:aA) (h:t.sz<2^40) (hs:s.length<2^40):aZ Tryz.prog 68 [t.x,.str s] (.tup [(exI (cM t s)).o,.int .i64 (exC (cM t s))]) [.undef,.undef]:=by
 have hW:=aoA t s h hs
 have hA:=jE t (pA t s).1 h
 by_cases hc:(pA t s).2=0
 ·have hc':decide ((pA t s).2=0)=true:=lE hc
  cases hx:aD t (pA t s).1 with
  | none=>
   rw [hx] at hA
   rw [adn hc hx]
   refine U aaZ [] 1015 [] fun w hP hQ=>?_
   unfold uV
   refine N ?_
   have hz:=hc'
   refine Kz (hW) ?_
   refine K (hA) ?_
   rfl
  | some x=>
   rw [adc,hx] at hA
   rw [ado hc hx]
   refine U aaZ [] 1015 [] fun w hP hQ=>?_
   unfold uV
   refine N ?_
   have hz:=hc'
   refine Kz (hW) ?_
   (first|refine cI hP (hA) rfl rfl ?_|refine cH hP (hA) rfl rfl ?_)
   simp +decide (maxSteps:=9^9) (disch:=omega) only[↓SB0,SX,seval,hQ,lY]
   rfl
 ·have hc':decide ((pA t s).2=0)=false:=lB hc
  rw [adm hc]
  refine U aaZ [] 1015 [] fun w hP hQ=>?_
  unfold uV
  refine N ?_
  have hz:=hc'
  refine Kz (hW) ?_
  rfl
theorem tN (t:Tab) (s:aA) (h:t.sz<2^40) (hs:s.length<2^40):aZ Tryz.prog 88 [t.x,.str s] (.tup [(exI (cM t s)).o,.int .i64 (exC (cM t s))]) [.undef,.undef]:=by
 have hW:=afg t s h hs
 have hA:=tL t (pA t s).1 h
 by_cases hc:(pA t s).2=0
 ·have hc':decide ((pA t s).2=0)=true:=lE hc
  cases hx:aD t (pA t s).1 with
  | none=>
   rw [hx] at hA
   rw [adn hc hx]
   refine U aa2 [] 1015 [] fun w hP hQ=>?_
   unfold uW
   refine N ?_
   have hz:=hc'
   refine Kz (hW) ?_
   refine K (hA) ?_
   rfl
  | some x=>
   rw [adc,hx] at hA
   rw [ado hc hx]
   refine U aa2 [] 1015 [] fun w hP hQ=>?_
   unfold uW
   refine N ?_
   have hz:=hc'
   refine Kz (hW) ?_
   (first|refine cI hP (hA) rfl rfl ?_|refine cH hP (hA) rfl rfl ?_)
   simp +decide (maxSteps:=9^9) (disch:=omega) only[↓SB0,SX,seval,hQ,lY]
   rfl
 ·have hc':decide ((pA t s).2=0)=false:=lB hc
  rw [adm hc]
  refine U aa2 [] 1015 [] fun w hP hQ=>?_
  unfold uW
  refine N ?_
  have hz:=hc'
  refine Kz (hW) ?_
  rfl
theorem sG (t:Tab) (s:aA) (h:t.sz<2^40) (hs:s.length<2^40):aZ Tryz.prog 77 [t.x,.str s] (.tup [(exI (nC t s)).o,.int .i64 (exC (nC t s))]) [.undef,.undef]:=by
 have hS:=tN t s h hs
 unfold nC
 cases e:cM t s with
 | error c=>
  have hc:decide (c=0)=false:=lB (iM e)
  rw [e] at hS
  simp only [exI,exC] at hS ⊢
  refine U s8 [] 247 [] fun w hP hQ=>?_
  unfold o8
  refine N ?_
  have hz:=hc
  exact Kz (hS) trivial
 | ok x=>
  rw [e] at hS
  simp only [exI,exC] at hS ⊢
  by_cases hk:x.kind=1
  ·have hk':decide (x.kind=1)=true:=lE hk
   simp only [lF hk]
   refine U s8 [] 247 [] fun w hP hQ=>?_
   unfold o8
   refine N ?_
   have hz:=hk'
   exact Kz (hS) trivial
  ·have hk':decide (x.kind=1)=false:=lB hk
   simp only [lI hk]
   refine U s8 [] 247 [] fun w hP hQ=>?_
   unfold o8
   refine N ?_
   have hz:=hk'
   refine Kz (hS) ?_
   rfl
def apT (D:Inode) (n:aA):AV:=.agg [.int .i64 D.ino,.int .i64 D.kind,.int .i64 D.links,.own 1 (aM D.data),.own 2 (D.ents.map Ent.row),.own 2 (D.attrs.map Attr.row),.str n]
def aoB (D:Inode) (n:aA):AV:=.agg [.int .i64 D.ino,.int .i64 D.kind,.int .i64 D.links,.ext 1 (aM D.data),.ext 2 (D.ents.map Ent.row),.ext 2 (D.attrs.map Attr.row),.str n]
def exN (e:Rs Inode) (n:aA):aA:=match e with
 | .ok _=>n
 | .error _=>[]
theorem fX (s:aA):(aJ s).1.length≤450∧(aQ s).length≤14:=by
 unfold aQ aJ
 split
 ·rename_i h
  refine ⟨?_,tJ (s:=s) _ ?_⟩
  ·show (bX (aC s).1.dropLast).length≤450
   have:=nO (m8 h.1).1
   rw [bX,lF this]
   split
   ·simp
   ·exact xL this
  ·show (aC s).1.getLastD [] ∈ _
   rw [List.getLastD_eq_getLast?,List.getLast?_eq_some_getLast h.2]
   exact List.getLast_mem h.2
 ·simp
theorem akF (t:Tab) (s:aA) (h:t.sz<2^40) (hs:s.length<2^40):aZ Tryz.prog 64 [t.x,.str s] (.tup [apT (exI (eQ t s)) (exN (eQ t s) (aQ s)),.int .i64 (exC (eQ t s))]) [.undef,.undef]:=by
 have hPa:=ae8 s hs
 have hS:=afh t (aJ s).1 h (by have:=(fX s).1; omega)
 unfold eQ
 cases e:cM t (aJ s).1 with
 | error c=>
  have hc:decide (c=0)=false:=lB (iM e)
  rw [e] at hS
  simp only [exI,exC,exN] at hS ⊢
  refine U s7 [] 1783 [] fun w hP hQ=>?_
  unfold o7
  refine N ?_
  refine K (hPa) ?_
  have hz:=hc
  refine Kz (hS) ?_
  first | rfl | exact ⟨rfl,rfl⟩
 | ok x=>
  rw [e] at hS
  simp only [exI,exC] at hS ⊢
  by_cases hk:x.kind=2
  ·have hk':decide (x.kind=2)=true:=lE hk
   simp only [lF hk]
   refine U s7 [] 1783 [] fun w hP hQ=>?_
   unfold o7
   refine N ?_
   refine K (hPa) ?_
   have hz:=hk'
   refine Kz (hS) ?_
   exact ⟨rfl,rfl⟩
  ·have hk':decide (x.kind=2)=false:=lB hk
   simp only [lI hk]
   refine U s7 [] 1783 [] fun w hP hQ=>?_
   unfold o7
   refine N ?_
   refine K (hPa) ?_
   have hz:=hk'
   refine Kz (hS) ?_
   exact ⟨rfl,rfl⟩
theorem amy (t:Tab) (l:List aA) (h:t.sz<2^40) (hl:l.length<2^40) (hs:∀ s ∈ l,s.length<2^40):aZ Tryz.prog 62 [t.x,.ext 1 (l.map cP)] (.bool (l.all gC && bA t)) [.undef,.undef]:=by
 refine U ajQ [] 3927 [] fun w hP hQ=>?_
 unfold acr
 refine N ?_
 refine eJ [4,6,8] ?_
 refine N ?_
 refine aR [4,6,8] (fun i:Nat=>[(11,.int .i64 i)]) (fun i=>i≤l.length∧∀ k,k<i→(h:k<l.length)→gC l[k]=true) (fun i=>l.length-i) (0) hP hQ (rfl) (by simp) ?_
 rintro i ⟨hi,hk⟩ w1 hP1 hQ1
 refine N1 ?_
 (first | with_reducible refine cN _ ?_ ?_ | refine cO _ ?_ ?_) <;> intro g
 ·have hlt:i<l.length:=by omega
  have hS:=oU l[i] (hs _ (lN hlt))
  cases hp:(aC l[i]).2 with
  | false=>
   have e:l.all gC=false:=by rw [lH4]; exact ⟨_,lN hlt,by simp [gC,hp]⟩
   simp +decide (maxSteps:=9^9) (disch:=omega) only[↓SB0,SX,seval,hQ,hQ1,bF g,cP]
   have hz:=And.intro hp (And.intro e Bool.false_and)
   exact Kz1 (hS) trivial
  | true=>
   simp +decide (maxSteps:=9^9) (disch:=omega) only[↓SB0,SX,seval,hQ,hQ1,bF g,cP]
   have hz:=hp
   refine Kz1 (hS) ?_
   exact ⟨i+1,rfl,⟨by omega,fun k h1 h2=>by
    by_cases e:k=i
    ·subst e; exact hp
    ·exact hk k (by omega) h2⟩,by omega⟩
 ·obtain rfl:i=l.length:=by omega
  have e:l.all gC=true:=by
   rw [lA1]
   intro x hx
   obtain ⟨k,hk1,rfl⟩:=lN1 hx
   exact hk k hk1 hk1
  refine N1 ?_
  have hz:=And.intro e lZ3
  exact Kz (xP t h) trivial
theorem amz {l:List Ent} {i:Nat} (h:i<l.length) (n:aA):cY (l.take (i+1)) n=cY (l.take i) n++(if l[i].name=n then [] else [l[i]]):=by
 unfold cY agj
 rw [lR h,lN3]
 congr 1
 by_cases e:l[i].name=n <;> simp [e]
theorem amA (l:List Ent) (n:aA) (hl:l.length<2^40):aZ Tryz.prog 141 [.ext 2 (l.map Ent.row),.str n] (.own 2 ((cY l n).map Ent.row)) [.undef,.undef]:=by
 refine U ajV [] 115 [] fun w hP hQ=>?_
 unfold acw
 refine N ?_
 refine eJ [] ?_
 refine N ?_
 refine aR [] (fun i:Nat=>[(5,.own 2 ((cY (l.take i) n).map Ent.row)),(6,.int .i64 i)]) (fun i=>i≤l.length) (fun i=>l.length-i) (0) hP hQ (rfl) (by simp) ?_
 rintro i hi w1 hP1 hQ1
 refine N1 ?_
 have hc:(cY (l.take i) n).length≤l.length:=lJ4 (lQ2 _ _) (by simp; omega)
 (first | with_reducible refine cN _ ?_ ?_ | refine cO _ ?_ ?_) <;> intro g
 ·have ht:=amz (l:=l) (i:=i) (by omega) n
  have hz:=(bF g)
  refine Nz1 ?_
  (first | with_reducible refine cN _ ?_ ?_ | refine cO _ ?_ ?_) <;> intro e
  ·rw [lF e,lR2] at ht
   refine N1 ?_
   exact ⟨i+1,by rw [ht]; rfl,by omega,by omega⟩
  ·rw [lI e] at ht
   have hb:((cY (l.take i) n).length+1)*24≤140737488355328:=by omega
   have hz:=And.intro (bF g) hb
   refine Nz1 ?_
   exact ⟨i+1,by rw [ht,lF2]; rfl,by omega,by omega⟩
 ·obtain rfl:i=l.length:=by omega
  simp +decide (maxSteps:=9^9) (disch:=omega) only[↓SB0,SX,seval,hQ,hQ1,lX1]
theorem agM {α β:Type} (f:α→β) (l:List α) (i:Nat) (h:i<l.length):(l.take (i+1)).map f=(l.take i).map f++[f l[i]]:=by
 rw [lR h,lF2]; rfl
def tab1:Tab:={ inodes:=[{ ino:=1,kind:=2,links:=0,data:=[],ents:=[],attrs:=[] }],next:=2 }
theorem sH:aZ Tryz.prog 118 [] tab1.o []:=by
 refine U ahG [] 1 [] fun w hP hQ=>?_
 unfold zB
 refine N ?_
 rfl
theorem tO (t:Tab) (h:t.sz<2^40):aZ Tryz.prog 61 [t.x] t.o [.undef]:=by
 obtain ⟨h1,h2⟩:=cZ h
 refine U aeE [] 7215 [] fun w hP hQ=>?_
 unfold wB
 refine N ?_
 refine eJ [5,5005] ?_
 refine N ?_
 refine aR [5,5005] (fun i:Nat=>[(12,.int .i64 i),(5003,.box [.own 6 ((t.inodes.take i).map Inode.row),.int .i64 t.next])]) (fun i=>i≤t.inodes.length) (fun i=>t.inodes.length-i) (0) hP hQ (rfl) (by simp) ?_
 rintro i hi w1 hP1 hQ1
 refine N1 ?_
 (first | with_reducible refine cN _ ?_ ?_ | refine cO _ ?_ ?_) <;> intro h3
 ·have ht:(t.inodes.take i).length=i:=by simp; omega
  have hz:=And.intro (bF h3) ht
  refine Nz1 ?_
  have hz:=ht
  refine Kz1 (oV (t.inodes[i]'(by omega)) (h2 _ (lN _))) ?_
  exact ⟨i+1,by simp only [agM _ _ _ (show i<t.inodes.length by omega)]; rfl,by omega,by omega⟩
 ·obtain rfl:i=t.inodes.length:=by omega
  simp +decide (maxSteps:=9^9) (disch:=omega) only[↓SB0,SX,seval,hQ,hQ1,lX1]
theorem fH (t:Tab) (h:t.sz<2^40):aZ Tryz.prog 76 [t.x] t.o [.undef]:=by
 obtain ⟨h1,h2⟩:=cZ h
 refine U ahB [] 31 [] fun w hP hQ=>?_
 unfold y6
 refine N ?_
 refine eJ [] ?_
 refine N ?_
 refine aR [] (fun i:Nat=>[(4,.int .i64 i),(5003,.box [.own 6 ((t.inodes.take i).map Inode.row),.int .i64 t.next])]) (fun i=>i≤t.inodes.length) (fun i=>t.inodes.length-i) (0) hP hQ (rfl) (by simp) ?_
 rintro i hi w1 hP1 hQ1
 refine N1 ?_
 (first | with_reducible refine cN _ ?_ ?_ | refine cO _ ?_ ?_) <;> intro h3
 ·have ht:(t.inodes.take i).length=i:=by simp; omega
  have hz:=And.intro (bF h3) ht
  refine Nz1 ?_
  have hz:=ht
  refine Kz1 (mP (t.inodes[i]'(by omega)) (h2 _ (lN _))) ?_
  exact ⟨i+1,by simp only [agM _ _ _ (show i<t.inodes.length by omega)]; rfl,by omega,by omega⟩
 ·obtain rfl:i=t.inodes.length:=by omega
  simp +decide (maxSteps:=9^9) (disch:=omega) only[↓SB0,SX,seval,hQ,hQ1,lX1]
section
theorem xQ {g:Nat} {cs:List TV} {p:Ent→Bool} (hc:∀ v:Ent,aZ Tryz.prog g [v.x,.xbox cs] (.bool (p v)) [.undef,.undef]) (l:List Ent) (hl:l.length<2^48) :
  aZ Tryz.prog 132 [.ext 2 (l.map Ent.row),.fn g [.xbox cs]] (.int .i64 (abe (l.findIdx? p))) [.undef,.undef]:=by
 refine U s9 [] 435 [] fun w hP hQ=>?_
 unfold l6
 refine N ?_
 refine eJ [4,5] ?_
 refine N ?_
 refine aR [4,5] (fun i:Nat=>[(8,.int .i64 i)]) (fun i=>i≤l.length∧∀ k,k<i→(h:k<l.length)→p l[k]=false) (fun i=>l.length-i) (0) hP hQ (rfl) (by simp) ?_
 rintro i ⟨hi,hk⟩ w1 hP1 hQ1
 refine N1 ?_
 (first | with_reducible refine cN _ ?_ ?_ | refine cO _ ?_ ?_) <;> intro h1
 ·have hz:=(bF h1)
  refine Nz1 ?_
  cases h2:p (l[i]'(by omega)) with
  | true=>
   have hz:=h2
   refine Kz1 (hc (l[i]'(by omega))) ?_
   rw [pE hk (by omega) h2]; rfl
  | false=>
   have hz:=h2
   refine Kz1 (hc (l[i]'(by omega))) ?_
   exact ⟨i+1,rfl,⟨by omega,nD hk (by omega) h2⟩,by omega⟩
 ·obtain rfl:i=l.length:=by omega
  refine N1 ?_
  rw [pG fun k h=>hk k h h]; rfl
structure Kept' {α:Type} (s:Nat) (row:α→List TV) (p:α→Bool) (l:List α) (i j:Nat) (R:List (List TV)):Prop where
 lt:i<j
 le:j≤l.length
 len:R.length=l.length
 low:R.take i=((l.take j).filter fun x=>!p x).map row
 num:((l.take j).filter fun x=>!p x).length=i
 high:R.drop j=(l.drop j).map row
 wid:∀ x ∈ R,x.length=s
section
variable {α:Type} {s:Nat} {row:α→List TV} {p:α→Bool} {l:List α} {i j:Nat} {R:List (List TV)}
theorem tP {q:α→Bool} {l:List α} (h:∀ x ∈ l,q x=false):(l.filter fun x=>!q x)=l:=List.filter_eq_self.2 fun x hx=>by simp [h x hx]
theorem Kept'.start {k:Nat} (hr:∀ a,(row a).length=s) (h:l.findIdx? p=some k):Kept' s row p l k (k+1) (l.map row):=by
 obtain ⟨h1,h2,h3⟩:=lA2.1 h
 have e:(l.take (k+1)).filter (fun x=>!p x)=l.take k:=by
  rw [lR h1,lN3,tP fun x hx=>by
   obtain ⟨j,hj,rfl⟩:=lN1 hx
   rw [List.getElem_take]
   have:=h3 j (by simp at hj; omega)
   simpa using this]
  simp [h2]
 exact ⟨by omega,by omega,by simp,by rw [e,lU4],by rw [e]; simp; omega,by rw [List.map_drop],fun x hx=>by obtain ⟨a,_,rfl⟩:=lZ1.1 hx; exact hr a⟩
theorem Kept'.at (h:Kept' s row p l i j R) (hj:j<l.length):R[j]?=some (row l[j]):=by
 have:=congrArg (fun x=>x[0]?) h.high
 simp only [lU1,lS3,lJ1] at this
 rw [this,lJ hj]; rfl
theorem Kept'.skip (h:Kept' s row p l i j R) (hj:j<l.length) (hp:p l[j]=true):Kept' s row p l i (j+1) R:=by
 obtain ⟨a1,a2,a3,a4,a5,a6,a7⟩:=h
 have e:(l.take (j+1)).filter (fun x=>!p x)=(l.take j).filter fun x=>!p x:=by
  rw [lR hj,lN3]; simp [hp]
 refine ⟨by omega,by omega,a3,by rw [e,a4],by rw [e,a5],?_,a7⟩
 rw [← lB2,a6,← List.map_drop,lB2]
theorem Kept'.turn (h:Kept' s row p l i (j+1) R) {k:Nat} (h1:i≤k) (h2:k≤j) {f:List TV→List TV} (hf:∀ x,x.length=s→(f x).length=s):Kept' s row p l i (j+1) (R.modify k f):=by
 obtain ⟨a1,a2,a3,a4,a5,a6,a7⟩:=h
 refine ⟨a1,a2,by simp [a3],?_,a5,?_,fun x hx=>?_⟩
 ·rw [← a4]
  apply lG2
  intro m
  rw [lH1,lH1,lL1]
  split
  ·have hm':k≠m:=by omega
   simp [hm']
  ·rfl
 ·rw [← a6]
  apply lG2
  intro m
  have hm':k≠j+1+m:=by omega
  rw [lU1,lU1,lL1]
  simp [hm']
 ·obtain ⟨m,hm,rfl⟩:=lN1 hx
  rw [List.getElem_modify]
  split
  ·exact hf _ (a7 _ (lN _))
  ·exact a7 _ (lN _)
theorem Kept'.keep (h:Kept' s row p l i j R) (hj:j<l.length) (hp:p l[j]=false) {R':List (List TV)} (hl:R'.length=l.length) (hw:∀ x ∈ R',x.length=s) (h1:R'.take i=R.take i) (h2:R'.drop (j+1)=R.drop (j+1)) {f:List TV→List TV} (hf:∀ x,x.length=s→f x=row l[j]) (hr:(row l[j]).length=s) :
  Kept' s row p l (i+1) (j+1) (R'.modify i f):=by
 obtain ⟨a1,a2,a3,a4,a5,a6,a7⟩:=h
 have e:(l.take (j+1)).filter (fun x=>!p x)=(l.take j).filter (fun x=>!p x)++[l[j]]:=by
  rw [lR hj,lN3]; simp [hp]
 have hi:i<R'.length:=by omega
 refine ⟨by omega,by omega,by simp [hl],?_,by rw [e]; simp; omega,?_,fun x hx=>?_⟩
 ·rw [e,lF2,← a4,← h1,lR (by simpa using hi),List.getElem_modify_eq,hf _ (hw _ (lN _))]
  congr 1
  apply lG2
  intro m
  rw [lH1,lH1,lL1]
  split
  ·rename_i hm
   have hm':i≠m:=by omega
   simp [hm']
  ·rfl
 ·have e2:(R'.modify i f).drop (j+1)=R'.drop (j+1):=by
   apply lG2
   intro m
   have hm':i≠j+1+m:=by omega
   rw [lU1,lU1,lL1]
   simp [hm']
  rw [e2,h2,← lB2,a6,← List.map_drop,lB2]
 ·obtain ⟨m,hm,rfl⟩:=lN1 hx
  rw [List.getElem_modify]
  split
  ·rw [hf _ (hw _ (lN _))]; exact hr
  ·exact hw _ (lN _)
theorem Kept'.done (h:Kept' s row p l i l.length R):R.take i=(l.filter fun x=>!p x).map row:=by
 have:=h.low
 rwa [lX1] at this
end
theorem uL {g:Nat} {cs:List TV} {p:Ent→Bool} (hc:∀ v:Ent,aZ Tryz.prog g [v.x,.xbox cs] (.bool (p v)) [.undef,.undef]) (l:List Ent) (hl:l.length<2^40) :
  aZ Tryz.prog 124 [.own 2 (l.map Ent.row),.fn g [.xbox cs]] (.own 2 ((l.filter fun x=>!p x).map Ent.row)) [.undef,.undef]:=by
 have hI:=xQ hc l (by omega)
 cases e:l.findIdx? p with
 | none=>
  have ef:(l.filter fun x=>!p x)=l:=tP (by rw [lW2] at e; exact e)
  rw [e] at hI
  rw [ef]
  refine U jY [] 243 [] fun w hP hQ=>?_
  unfold f6
  refine N ?_
  exact K (hI) trivial
 | some k=>
  obtain ⟨k1,_⟩:=lA2.1 e
  rw [e,show abe (some k)=(k:Int) from rfl] at hI
  have hz:decide (((k:Nat):Int)=-1)=false:=lB (by omega)
  refine U jY [] 243 [] fun w hP hQ=>?_
  unfold f6
  refine N ?_
  have hz:=hz
  refine Kz (hI) ?_
  refine eJ [7,5007] ?_
  refine N ?_
  refine aR [7,5007] (fun x:Nat × Nat × List (List TV)=>[(0,.own 2 x.2.2),(5,.int .i64 (x.1:Nat)),(6,.int .i64 (x.2.1:Nat))]) (fun x=>Kept' 2 Ent.row p l x.1 x.2.1 x.2.2) (fun x=>l.length-x.2.1) ((k,k+1,l.map Ent.row)) hP hQ (rfl) (Kept'.start (fun _=>rfl) e) ?_
  rintro ⟨i,j,R⟩ hK w1 hP1 hQ1
  refine N1 ?_
  simp only at hK
  have hlen:=hK.len
  have hlt:=hK.lt
  have hle:=hK.le
  (first | with_reducible refine cN _ ?_ ?_ | refine cO _ ?_ ?_) <;> intro h1
  ·have hj:j<l.length:=by omega
   have hat:=hK.at hj
   have hji:((j:Nat):Int)<(R.length:Nat):=by omega
   cases hp:p l[j] with
   | true=>
    have hz:=hat
    refine Nz1 ?_
    have hz:=hp
    refine Kz1 (hc l[j]) ?_
    exact ⟨(i,j+1,R),rfl,hK.skip hj hp,by simp only; omega⟩
   | false=>
    have hii:i<R.length:=by omega
    have hz:=hat
    refine Nz1 ?_
    have hz:=hp
    refine Kz1 (hc l[j]) ?_
    exact ⟨(i+1,j+1,_),rfl,hK.keep hj hp hlen hK.wid rfl rfl (fun x hx=>by rw [lG3 (Nat.le_of_eq hx)]; rfl) rfl,by simp only; omega⟩
  ·obtain rfl:j=l.length:=by omega
   have e1:(((l.length:Nat):Int)-(i:Nat)).toNat=l.length-i:=by omega
   have e2:R.drop (i+(l.length-i))=[]:=lH3 (by omega)
   have e3:(R.take i++List.replicate (l.length-i) [TV.str [],TV.int .i64 0]).length=l.length:=by simp; omega
   have e4:(((i:Nat):Int)-0).toNat=i:=by omega
   have e5:0+i≤l.length:=by omega
   have e6:(R.take i++List.replicate (l.length-i) [TV.str [],TV.int .i64 0]).take i=(l.filter fun x=>!p x).map Ent.row:=by
    rw [List.take_append_of_le_length (by simp; omega),List.take_take,Nat.min_self,hK.done]
   have hz:=And.intro hlen (And.intro e1 (And.intro e2 (And.intro e3 (And.intro e4 (And.intro e5 e6)))))
   exact Nz1 trivial
theorem amB {R:List (List TV)} {i k:Nat} (h:i≤k) (f:List TV→List TV):(R.modify k f).take i=R.take i:=by
 apply lG2
 intro m
 rw [lH1,lH1,lL1]
 split
 ·have hm':k≠m:=by omega
  simp [hm']
 ·rfl
theorem amC {R:List (List TV)} {i k:Nat} (h:k<i) (f:List TV→List TV):(R.modify k f).drop i=R.drop i:=by
 apply lG2
 intro m
 have hm':k≠i+m:=by omega
 rw [lU1,lU1,lL1]
 simp [hm']
theorem aoC {R:List (List TV)} {s k:Nat} {f:List TV→List TV} (hf:∀ x,x.length=s→(f x).length=s) (h:∀ x ∈ R,x.length=s):∀ x ∈ R.modify k f,x.length=s:=by
 intro x hx
 obtain ⟨m,hm,rfl⟩:=lN1 hx
 rw [List.getElem_modify]
 split
 ·exact hf _ (h _ (lN _))
 ·exact h _ (lN _)
theorem akG (x:List TV) (h:x.length=6):(((x.modify 3 fun x=>TV.undef).modify 4 fun x=>TV.undef).modify 5 fun x=>TV.undef).length=6:=by simp [h]
theorem sI {g:Nat} {cs:List TV} {p:Inode→Bool} (hc:∀ v:Inode,aZ Tryz.prog g [v.x,.xbox cs] (.bool (p v)) [.undef,.undef]) (l:List Inode) (hl:l.length<2^40) :
  aZ Tryz.prog 127 [.own 6 (l.map Inode.row),.fn g [.xbox cs]] (.own 6 ((l.filter fun x=>!p x).map Inode.row)) [.undef,.undef]:=by
 have hI:=mO hc l (by omega)
 cases e:l.findIdx? p with
 | none=>
  have ef:(l.filter fun x=>!p x)=l:=tP (by rw [lW2] at e; exact e)
  rw [e] at hI
  rw [ef]
  refine U iS [] 243 [] fun w hP hQ=>?_
  unfold fB
  refine N ?_
  exact K (hI) trivial
 | some k=>
  obtain ⟨k1,_⟩:=lA2.1 e
  rw [e,show abe (some k)=(k:Int) from rfl] at hI
  have hz:decide (((k:Nat):Int)=-1)=false:=lB (by omega)
  refine U iS [] 243 [] fun w hP hQ=>?_
  unfold fB
  refine N ?_
  have hz:=hz
  refine Kz (hI) ?_
  refine eJ [7,5007] ?_
  refine N ?_
  refine aR [7,5007] (fun x:Nat × Nat × List (List TV)=>[(0,.own 6 x.2.2),(5,.int .i64 (x.1:Nat)),(6,.int .i64 (x.2.1:Nat))]) (fun x=>Kept' 6 Inode.row p l x.1 x.2.1 x.2.2) (fun x=>l.length-x.2.1) ((k,k+1,l.map Inode.row)) hP hQ (rfl) (Kept'.start (fun _=>rfl) e) ?_
  rintro ⟨i,j,R⟩ hK w1 hP1 hQ1
  refine N1 ?_
  simp only at hK
  have hlen:=hK.len
  have hlt:=hK.lt
  have hle:=hK.le
  (first | with_reducible refine cN _ ?_ ?_ | refine cO _ ?_ ?_) <;> intro h1
  ·have hj:j<l.length:=by omega
   have hat:=hK.at hj
   have hji:((j:Nat):Int)<(R.length:Nat):=by omega
   cases hp:p l[j] with
   | true=>
    have hz:=hat
    refine Nz1 ?_
    have hz:=hp
    refine Kz1 (hc l[j]) ?_
    exact ⟨(i,j+1,_),rfl,(hK.skip hj hp).turn (k:=j) (by omega) (lS1 _) akG,by simp only; omega⟩
   | false=>
    have hii:i<R.length:=by omega
    have hz:=hat
    refine Nz1 ?_
    have hz:=hp
    refine Kz1 (hc l[j]) ?_
    exact ⟨(i+1,j+1,_),rfl,hK.keep hj hp (by simp [hlen]) (aoC akG hK.wid) (amB (by omega) _) (amC (by omega) _) (fun x hx=>by rw [lG3 (Nat.le_of_eq hx)]; rfl) rfl,by simp only; omega⟩
  ·obtain rfl:j=l.length:=by omega
   have e1:(((l.length:Nat):Int)-(i:Nat)).toNat=l.length-i:=by omega
   have e2:R.drop (i+(l.length-i))=[]:=lH3 (by omega)
   have e3:(R.take i++List.replicate (l.length-i) [TV.int .i64 0,TV.int .i64 0,TV.int .i64 0,TV.sl 1 [],TV.sl 2 [],TV.sl 2 []]).length=l.length:=by simp; omega
   have e4:(((i:Nat):Int)-0).toNat=i:=by omega
   have e5:0+i≤l.length:=by omega
   have e6:(R.take i++List.replicate (l.length-i) [TV.int .i64 0,TV.int .i64 0,TV.int .i64 0,TV.sl 1 [],TV.sl 2 [],TV.sl 2 []]).take i=(l.filter fun x=>!p x).map Inode.row:=by
    rw [List.take_append_of_le_length (by simp; omega),List.take_take,Nat.min_self,hK.done]
   have hz:=And.intro hlen (And.intro e1 (And.intro e2 (And.intro e3 (And.intro e4 (And.intro e5 e6)))))
   exact Nz1 trivial
theorem yH (x:Inode) (n:Int):aZ Tryz.prog 128 [x.x,.xbox [.int .i64 n]] (.bool (decide (x.ino=n))) [.undef,.undef]:=by
 refine U wT [] 15 [] fun w hP hQ=>?_
 unfold oD
 exact N trivial
theorem adp (t:Tab) (n:Int) (h:t.sz<2^40):aZ Tryz.prog 66 [t.x,.int .i64 n] (fC t n).o [.undef,.undef]:=by
 obtain ⟨h1,h2⟩:=cZ h
 have hD:=sI (fun v=>yH v n) t.inodes (by omega)
 have e:(t.inodes.filter fun x=>!decide (x.ino=n))=(fC t n).inodes:=by
  unfold fC
  congr 1
  funext x
  by_cases hx:x.ino=n <;> simp [hx]
 rw [e] at hD
 refine U aaY [(127,[.m,.b],[])] 31 [] fun w hP hQ=>?_
 unfold rC
 refine N ?_
 refine K (tO t h) ?_
 refine K (hD) ?_
 rfl
theorem afi {α:Type} (q:α→Bool) {l:List α} {i:Nat} (h:i<l.length):(l.take (i+1)).filter q=(l.take i).filter q++if q l[i]=true then [l[i]] else []:=by
 rw [lR h,lN3]
 cases e:q l[i] <;> simp [e]
theorem uA (t:Tab) (n:Int) (h:t.sz<2^40):aZ Tryz.prog 79 [t.x,.int .i64 n] (fC t n).o [.undef,.undef]:=by
 obtain ⟨h1,h2⟩:=cZ h
 refine U aa1 [] 119 [] fun w hP hQ=>?_
 unfold rF
 refine N ?_
 refine eJ [] ?_
 refine N ?_
 refine aR [] (fun i:Nat=>[(5005,.box [.own 6 (((t.inodes.take i).filter fun x=>decide (x.ino≠n)).map Inode.row),.int .i64 t.next]),(6,.int .i64 i)]) (fun i=>i≤t.inodes.length) (fun i=>t.inodes.length-i) (0) hP hQ (rfl) (by simp) ?_
 rintro i hi w1 hP1 hQ1
 refine N1 ?_
 have hc:((t.inodes.take i).filter fun x=>decide (x.ino≠n)).length≤t.inodes.length:=lJ4 (lQ2 _ _) (by simp; omega)
 (first | with_reducible refine cN _ ?_ ?_ | refine cO _ ?_ ?_) <;> intro g
 ·have hlt:i<t.inodes.length:=by omega
  have ht:=afi (fun x:Inode=>decide (x.ino≠n)) hlt
  have hz:=(bF g)
  refine Nz1 ?_
  (first | with_reducible refine cN _ ?_ ?_ | refine cO _ ?_ ?_) <;> intro e
  ·rw [lI (by simp [e]),lR2] at ht
   refine N1 ?_
   exact ⟨i+1,by rw [ht]; rfl,by omega,by omega⟩
  ·rw [lF (by simpa using e)] at ht
   have hb:(((t.inodes.take i).filter fun x=>decide (x.ino≠n)).length+1)*96≤140737488355328:=by omega
   have hz:=(bF g)
   refine Nz1 ?_
   have hz:=hb
   refine Kz1 (mP (t.inodes[i]) (h2 _ (lN hlt))) ?_
   exact ⟨i+1,by rw [ht,lF2]; rfl,by omega,by omega⟩
 ·obtain rfl:i=t.inodes.length:=by omega
  simp +decide (maxSteps:=9^9) (disch:=omega) only[↓SB0,SX,seval,hQ,hQ1,lX1]
  try rfl
theorem qO {α β:Type} (f:α→β) (l:List α) (k:Nat) (x:α) (g:β→β) (hg:∀ y,l[k]?=some y→g (f y)=f x):(l.map f).modify k g=(l.set k x).map f:=by
 apply lG2
 intro j
 rw [lL1,lJ1,lJ1,lD4]
 by_cases e:k=j
 ·subst e
  by_cases hk:k<l.length
  ·simp [hk,hg _ (lJ hk)]
  ·simp [hk]
 ·simp [e]
theorem xR (t:Tab) (x:Inode) {k:Nat} (h:t.sz<2^40) (hx:x.sz<2^40) (hu:UpI t.inodes) (hk:b0 t x.ino=some k):aZ Tryz.prog 67 [t.x,x.x] (aH t x).o [.undef,.undef]:=by
 obtain ⟨h1,h2⟩:=cZ h
 have hlt:=t7 hk
 have hPl:=tK t x.ino (by omega)
 rw [hk,show abe (some k)=(k:Int) from rfl] at hPl
 have e:aH t x={ inodes:=t.inodes.set k x,next:=t.next }:=by rw [aH,aaf hu hk]
 have hz:decide ((0:Int)≤(k:Nat))=true:=lE (by omega)
 have hg:((k:Nat):Int)<(t.inodes.length:Nat):=by omega
 rw [e]
 refine U acD [] 127 [] fun w hP hQ=>?_
 unfold tT
 refine N ?_
 refine K (tO t h) ?_
 refine K (oV x hx) ?_
 have hz:=And.intro hz hg
 refine Kz (hPl) ?_
 rw [qO Inode.row t.inodes k x _ fun y _=>rfl]
theorem bP (t:Tab) (x:Inode) {k:Nat} (h:t.sz<2^40) (hx:x.sz<2^40) (hu:UpI t.inodes) (hk:b0 t x.ino=some k):aZ Tryz.prog 80 [t.x,x.x] (aH t x).o [.undef,.undef]:=by
 obtain ⟨h1,h2⟩:=cZ h
 have hlt:=t7 hk
 have hPl:=qN t x.ino (by omega)
 rw [hk,show abe (some k)=(k:Int) from rfl] at hPl
 have e:aH t x={ inodes:=t.inodes.set k x,next:=t.next }:=by rw [aH,aaf hu hk]
 have hz:decide ((0:Int)≤(k:Nat))=true:=lE (by omega)
 have hg:((k:Nat):Int)<(t.inodes.length:Nat):=by omega
 rw [e]
 refine U tV [] 255 [] fun w hP hQ=>?_
 unfold oB
 refine N ?_
 refine K (fH t h) ?_
 have hz:=And.intro hz hg
 refine Kz (hPl) ?_
 have hz:=And.intro hz hg
 refine Kz (mP x hx) ?_
 rw [qO Inode.row t.inodes k x _ fun y _=>rfl]
 try rfl
end
def apU (D:Inode) (n:aA):List TV:=[.int .i64 D.ino,.int .i64 D.kind,.int .i64 D.links,.sl 1 (aM D.data),.sl 2 (D.ents.map Ent.row),.sl 2 (D.attrs.map Attr.row),.str n]
theorem aid (e:Ent) (D:Inode) (n:aA):aZ Tryz.prog 126 [e.x,.xbox (apU D n)] (.bool (decide (e.name=n))) [.undef,.undef]:=by
 unfold apU
 refine U uD [] 15 [] fun w hP hQ=>?_
 unfold nI
 exact N trivial
theorem amD (l:List Ent) (n:aA):(l.filter fun e=>!decide (e.name=n))=cY l n:=by
 unfold cY agj
 congr 1
 funext e
 by_cases h:e.name=n <;> simp [h]
theorem qP (D:Inode) (n:aA):(bZ D n).sz≤D.sz:=by
 have h1:(cY D.ents n).length≤D.ents.length:=lQ2 _ _
 have h2:=z8 Ent.sz (fun e:Ent=>decide (e.name≠n)) D.ents
 show D.data.length+((cY D.ents n).length+((cY D.ents n).map Ent.sz).sum)+szM Attr.sz D.attrs≤D.data.length+(D.ents.length+(D.ents.map Ent.sz).sum)+szM Attr.sz D.attrs
 have h3:((cY D.ents n).map Ent.sz).sum≤(D.ents.map Ent.sz).sum:=h2
 omega
theorem amE (t:Tab) (D:Inode) (n:aA) {k:Nat} (h:t.sz<2^40) (hD:D.sz<2^40) (hu:UpI t.inodes) (hk:b0 t D.ino=some k) :
  aZ Tryz.prog 65 [aoB D n,t.x] (aH t (bZ D n)).o [.undef,.undef]:=by
 obtain ⟨h1,h2,h3⟩:=cW hD
 have hF:=uL (fun v=>aid v D n) D.ents (by omega)
 rw [amD] at hF
 have hS:=xR t (bZ D n) h (lA4 (qP D n) hD) hu hk
 unfold aoB
 refine U x7 [(124,[.m,.b],[])] 31 [] fun w hP hQ=>?_
 unfold pN
 refine N ?_
 refine K (agz D.ents (by omega)) ?_
 refine K (hF) ?_
 exact K (hS) trivial
theorem aoD (s:aA):jD s=(gC s && !decide (s=[47])):=by
 rw [lU3,show jD s=true↔_ from acQ s]
 unfold gC
 simp only [lP,lG4,decide_eq_false_iff_not]
 constructor
 ·rintro ⟨h1,h2⟩; exact ⟨h1,fun e=>h2 ((zS h1).2 e)⟩
 ·rintro ⟨h1,h2⟩; exact ⟨h1,fun e=>h2 ((zS h1).1 e)⟩
theorem oW {t:Tab} {i:Int} {x:Inode} (h:aD t i=some x):∃ k,b0 t i=some k:=by
 cases e:b0 t i with
 | none=>rw [aaj e] at h; cases h
 | some k=>exact ⟨k,rfl⟩
theorem xS (t:Tab) (s:aA) {D:Inode} (h:t.sz<2^40) (hs:s.length<2^40) (hu:UpI t.inodes) (hD:eQ t s=.ok D):aZ Tryz.prog 78 [t.x,.str s] (aH t (bZ D (aQ s))).o [.undef,.undef]:=by
 have hPa:=fP s hs
 have hS:=tN t (aJ s).1 h (by have:=(fX s).1; omega)
 have hst:=(gY hD).1
 have hat:=(aS hst).2
 obtain ⟨k,hk⟩:=oW hat
 have hz:=sF h hat
 have hC:=amA D.ents (aQ s) (cW hz).2.1
 have hI:=bP t (bZ D (aQ s)) h (lA4 (qP D _) hz) hu hk
 rw [hst] at hS
 simp only [exI,exC] at hS
 unfold aQ at *
 refine U ahC [] 375 [] fun w hP hQ=>?_
 unfold y7
 refine N ?_
 refine K (hPa) ?_
 refine K (hS) ?_
 refine K (hC) ?_
 exact K (hI) trivial
theorem g6 {t:Tab} (h:bA t=true):UpI t.inodes:=((aP t).1 h).tab.up
theorem akH {t:Tab} {s:aA} {X:Inode} (hB:bA t=true) (hs:jD s=true) (hX:nC t s=.ok X):∃ D kD kX,eQ t s=.ok D∧D.ino≠X.ino∧b0 t D.ino=some kD∧b0 (aH t (bZ D (aQ s))) X.ino=some kX∧1≤X.links∧X.links≤1000:=by
 have ht:=(aP t).1 hB
 obtain ⟨f1,f2⟩:=dI hX
 obtain ⟨D,d1,d2,_⟩:=tH ht hs f1
 have a1:=(aS f1).2
 have a2:=(aS (gY d1).1).2
 have hne:D.ino≠X.ino:=by
  intro e
  rw [e,a1] at a2
  injection a2 with a2
  have:=(gY d1).2
  rw [← a2] at this; omega
 obtain ⟨kD,h1⟩:=oW a2
 have a3:aD (aH t (bZ D (aQ s))) X.ino=some X:=by
  rw [cE (g6 hB),lI (show ¬ (bZ D (aQ s)).ino=X.ino from hne)]; exact a1
 obtain ⟨kX,h2⟩:=oW a3
 have ok:=(ht.tab.ok X (aS f1).1).1
 have h0:X.links≠0:=fun e=>agp ht hs f1 (ok.root.1 e)
 have:=ok.links
 exact ⟨D,kD,kX,d1,hne,h1,h2,by omega,by omega⟩
theorem sJ (t:Tab) (s:aA) (h:t.sz<2^30) (hs:s.length<2^40):aZ Tryz.prog 22 [t.x,.str s] (.tup [(eH t s).1.o,.int .i64 (eH t s).2]) [.undef,.undef]:=by
 have h':t.sz<2^40:=by omega
 have hC:=fH t h'
 have hT:=gD t h'
 have hPa:=fP s hs
 rw [show (aJ s).2.2=jD s from rfl] at hPa
 by_cases hc:bA t=true∧jD s=true
 ·obtain ⟨hB,hsb⟩:=hc
  rw [hB] at hT
  rw [hsb] at hPa
  have hF:=sG t s h' hs
  cases hX:nC t s with
  | error c=>
   have hc:decide (c=0)=false:=lB (u5 hX)
   have e:eH t s=(t,c):=by rw [eH,lF ⟨hB,hsb⟩,hX]
   rw [hX] at hF
   rw [e]
   simp only [exC] at hF
   refine U l7 [] 3895 [] fun w hP hQ=>?_
   unfold i9
   refine N ?_
   refine K (hPa) ?_
   refine K (hT) ?_
   have hz:=hc
   refine Kz (hF) ?_
   (first|refine cI hP (hC) rfl rfl ?_|refine cH hP (hC) rfl rfl ?_)
   refine N ?_
   first|exact trivial|rfl
  | ok X=>
   obtain ⟨D,kD,kX,d1,d2,d3,d4,d5,d6⟩:=akH hB hsb hX
   obtain ⟨f1,f2⟩:=dI hX
   have zX:=sF h' (aS f1).2
   have zD:=(aS (gY d1).1).2
   have zt:(aH t (bZ D (aQ s))).sz<2^40:=by
    have:=mK t (bZ D (aQ s))
    have:=qP D (aQ s)
    have:=(cZ h).2 D (aK zD).1
    omega
   have hL:=xS t s h' hs (g6 hB) d1
   have hD:=uA (aH t (bZ D (aQ s))) X.ino zt
   have hI:=bP (aH t (bZ D (aQ s))) (qK X) zt zX (gA (g6 hB) _) d4
   rw [hX] at hF
   have e:eH t s=(bT t D (aQ s) X,0):=by rw [eH,lF ⟨hB,hsb⟩,hX,d1]; rfl
   simp only [exC,exI] at hF
   rw [e,bT]
   by_cases h1:X.links=1
   ·have h1':decide (X.links=1)=true:=lE h1
    rw [lF h1]
    refine U l7 [] 3895 [] fun w hP hQ=>?_
    unfold i9
    refine N ?_
    refine K (hPa) ?_
    refine K (hT) ?_
    refine K (hF) ?_
    have hz:=h1'
    refine Kz (hL) ?_
    exact K (hD) trivial
   ·have h1':decide (X.links=1)=false:=lB h1
    rw [lI h1]
    refine U l7 [] 3895 [] fun w hP hQ=>?_
    unfold i9
    refine N ?_
    refine K (hPa) ?_
    refine K (hT) ?_
    refine K (hF) ?_
    have hz:=h1'
    refine Kz (hL) ?_
    exact K (hI) trivial
 ·have e:eH t s=(t,1):=by rw [eH,lI hc]
  rw [e]
  cases hB:bA t with
  | false=>
   rw [hB] at hT
   refine U l7 [] 3895 [] fun w hP hQ=>?_
   unfold i9
   refine N ?_
   refine K (hPa) ?_
   refine K (hT) ?_
   (first|refine cI hP (hC) rfl rfl ?_|refine cH hP (hC) rfl rfl ?_)
   refine N ?_
   first|exact trivial|rfl
  | true=>
   have hsb:jD s=false:=by cases e:jD s <;> simp_all
   rw [hB] at hT
   rw [hsb] at hPa
   refine U l7 [] 3895 [] fun w hP hQ=>?_
   unfold i9
   refine N ?_
   refine K (hPa) ?_
   refine K (hT) ?_
   (first|refine cI hP (hC) rfl rfl ?_|refine cH hP (hC) rfl rfl ?_)
   refine N ?_
   first|exact trivial|rfl
theorem afj (a b:aA):strLt a b=decide (a<b):=iX a b
theorem akI (a b:aA):(decide (a<b) || decide (a=b))=!decide (b<a):=by
 rw [lU3]
 simp only [lE4,decide_eq_true_eq,lG4,decide_eq_false_iff_not]
 constructor
 ·rintro (h | rfl)
  ·exact List.lt_asymm h
  ·exact lB4 _
 ·intro h
  rcases List.le_iff_lt_or_eq.1 (List.not_lt.1 h) with h | h
  ·exact .inl h
  ·exact .inr h
theorem aoE (l:List Ent) (e:Ent):l.map Ent.row++[[TV.str e.name,TV.int .i64 e.ino]]=(l.take l.length++e::l.drop l.length).map Ent.row:=by simp [Ent.row]
theorem akJ (L:List Ent) (k:Nat) (x:Ent):(L.map Ent.row).modify k (fun r=>TV.str x.name::TV.int .i64 x.ino::r.drop 2)=(L.set k x).map Ent.row:=qO Ent.row L k x _ fun _ _=>rfl
theorem agN {l:List Ent} {k:Nat} {h:Ent} (hk:k<l.length):(((l.take (k+1)++h::l.drop (k+1))).map Ent.row)[k]?=some (Ent.row l[k]):=by rw [lJ1,ac8 hk]; rfl
theorem abm (l:List Ent) (e:Ent) (hu:UpK Ent.name l) (hl:l.length<2^30):aZ Tryz.prog 93 [.ext 2 (l.map Ent.row),e.x] (.own 2 ((dL l e).map Ent.row)) [.undef,.undef]:=by
 have hb1:l.length*24≤140737488355328:=by omega
 have hb2:(l.length+1)*24≤140737488355328:=by omega
 refine U ajT [] 123 [] fun w hP hQ=>?_
 unfold acu
 refine N ?_
 simp +decide (maxSteps:=9^9) (disch:=omega) only[↓SB0,SX,seval,hQ,afc,hb1,hb2,lU,bC]
 rw [aoE]
 refine eJ [] ?_
 refine N ?_
 refine aR [] (fun s:Nat × Ent=>[(5,.own 2 ((l.take s.1++s.2::l.drop s.1).map Ent.row)),(6,.int .i64 (s.1:Nat))]) (fun s=>s.1≤l.length∧∀ j,s.1≤j→(h:j<l.length)→e.name<l[j].name) (fun s=>s.1) ((l.length,e)) hP hQ (rfl) (by simp; omega) ?_
 rintro ⟨k,x⟩ ⟨hk,hj⟩ w1 hP1 hQ1
 refine N1 ?_
 simp only at hk hj
 have hlen:=ac7 (h:=x) hk
 cases k with
 | zero=>
  have hz:=hlen
  refine Nz1 ?_
  rw [dL,sB hu hk hj (.inl rfl)]
  simp [Ent.row]
 | succ k=>
  have hkl:k<l.length:=by omega
  have w4:decide ((0:Int)<((k+1:Nat):Int))=true:=lE (by omega)
  simp +decide (maxSteps:=9^9) (disch:=omega) only[↓SB0,SX,seval,hQ,hQ1,w4,hlen,bC,agN (h:=x) hkl,Ent.row,afj,akI]
  (first | with_reducible refine cN _ ?_ ?_ | refine cO _ ?_ ?_) <;> intro g
  ·simp +decide (maxSteps:=9^9) (disch:=omega) only[↓SB0,SX,seval,hQ,hQ1,hlen,bC,agN (h:=x) hkl,Ent.row]
   exact ⟨(k,l[k]),by simp only [akJ,sC _ _ hk,aag hkl],⟨by simp only; omega,fun j hj1 hj2=>by
    by_cases e:j=k
    ·subst e; exact g
    ·exact hj j (by simp only at hj1; omega) hj2⟩,by simp only; omega⟩
  ·simp +decide (maxSteps:=9^9) (disch:=omega) only[↓SB0,SX,seval,hQ,hQ1,hlen]
   rw [dL,sB hu hk hj (.inr ⟨by simpa using hkl,by simpa using g⟩),akJ,sC _ _ hk]
theorem aie {t:Tab} {x:Inode} (h:∀ y ∈ t.inodes,y.ino<x.ino):aH t x={ inodes:=t.inodes++[x],next:=t.next }:=by
 have:=ac6 (l:=t.inodes) (x:=x) (k:=t.inodes.length) (lS1 _) (fun j hj hl=>h _ (lN hl)) (fun h=>absurd h (Nat.lt_irrefl _))
 rw [aH,this]; simp
theorem aoF {t:Tab} {x:Inode} (h:∀ y ∈ t.inodes,y.ino<x.ino):b0 t x.ino=none:=by
 rw [b0,lW2]
 intro y hy
 have:=h y hy
 simp; omega
theorem amF (l:List Inode):iO (l.map Inode.row)=true:=by
 rw [iO,lA1]
 intro r hr
 obtain ⟨x,_,rfl⟩:=lZ1.1 hr
 rfl
theorem aoG {l:List Inode} (h:l≠[]):gJ (l.map Inode.row)=false:=by
 cases l with
 | nil=>exact absurd rfl h
 | cons x l=>rfl
theorem xT (t:Tab) (x:Inode) (h:t.sz<2^30) (hx:x.sz<2^30) (hne:t.inodes≠[]) (hn:∀ y ∈ t.inodes,y.ino<x.ino):aZ Tryz.prog 80 [t.x,x.x] (aH t x).o [.undef,.undef]:=by
 obtain ⟨h1,h2⟩:=cZ h
 have hPl:=qN t x.ino (by omega)
 rw [aoF hn] at hPl
 rw [aie hn]
 refine U tV [] 255 [] fun w hP hQ=>?_
 unfold oB
 refine N ?_
 refine K (fH t (by omega)) ?_
 refine K (hPl) ?_
 refine eJ [] ?_
 refine N ?_
 refine aR [] (fun i:Nat=>[(6,.int .i64 i)]) (fun i=>i≤t.inodes.length) (fun i=>t.inodes.length-i) (0) hP hQ (rfl) (by simp) ?_
 rintro i hi w1 hP1 hQ1
 refine N1 ?_
 by_cases g:i<t.inodes.length
 ·have g1:decide (((i:Nat):Int)<(t.inodes.length:Nat))=true:=lE (by omega)
  have g2:decide ((t.inodes[i]).ino<x.ino)=true:=lE (hn _ (lN g))
  have hz:=And.intro g1 (And.intro g2 (bF (show ((i:Nat):Int)<(t.inodes.length:Nat) by omega)))
  refine Nz1 ?_
  exact ⟨i+1,rfl,by omega,by omega⟩
 ·obtain rfl:i=t.inodes.length:=by omega
  have g1:decide (((t.inodes.length:Nat):Int)<(t.inodes.length:Nat))=false:=lB (by omega)
  have e1:(((t.inodes.length:Nat):Int)-0).toNat=t.inodes.length:=by omega
  have e2:(t.inodes.map Inode.row).take t.inodes.length=t.inodes.map Inode.row:=lJ2 (by simp)
  have e3:0+t.inodes.length≤t.inodes.length:=by omega
  have e4:(0+t.inodes.length)*96≤140737488355328:=by omega
  have e5:=amF t.inodes
  have e6:=aoG hne
  have e7:(t.inodes.map Inode.row).drop (0+t.inodes.length)=[]:=lH3 (by simp)
  have e8:(x1 (t.inodes.map Inode.row)).length=t.inodes.length:=by simp [x1]
  have e9:(((t.inodes.length:Nat):Int)-((t.inodes.length:Nat):Int)).toNat=0:=by omega
  have e10:(x1 (t.inodes.map Inode.row)).drop t.inodes.length=[]:=lH3 (by simp [x1])
  have e11:(t.inodes.length+1)*96≤140737488355328:=by omega
  have e12:t.inodes.length+0≤t.inodes.length:=by omega
  have e13:(t.inodes.length+1+0)*96≤140737488355328:=by omega
  have e14:t.inodes.map Inode.row++[[TV.int .i64 x.ino,TV.int .i64 x.kind,TV.int .i64 x.links,TV.sl 1 (aM x.data),TV.sl 2 (x.ents.map Ent.row),TV.sl 2 (x.attrs.map Attr.row)]]=(t.inodes++[x]).map Inode.row:=by simp [Inode.row]
  have e15:((t.inodes++[x]).length+0)*96≤140737488355328:=by simp; omega
  have hz:=And.intro g1 (And.intro e1 (And.intro e2 (And.intro e3 (And.intro e4 (And.intro e5 (And.intro e6 e7))))))
  refine Nz1 ?_
  (first|refine cI hP (mP x (by omega)) rfl rfl ?_|refine cH hP (mP x (by omega)) rfl rfl ?_)
  simp +decide (maxSteps:=9^9) (disch:=omega) only[↓SB0,SX,seval,hQ,g1,e1,e2,e3,e4,e5,e6,e7,e8,e9,e10,e11,e12,e13,e14,e15,lR2,List.take_nil]
  try rfl
def aoH (t:Tab) (s:aA) (f:Int):Rs Inode:=if jD s=true then yD t s f else .error 1
theorem aoI {t:Tab} {s:aA}:(∃ c,cM t (aJ s).1=.error c∧eQ t s=.error c)∨(∃ D,cM t (aJ s).1=.ok D∧¬ D.kind=2∧eQ t s=.error 3)∨∃ D,cM t (aJ s).1=.ok D∧D.kind=2∧eQ t s=.ok D:=by
 unfold eQ
 cases e:cM t (aJ s).1 with
 | error c=>exact .inl ⟨c,rfl,rfl⟩
 | ok D=>
  by_cases hk:D.kind=2
  ·exact .inr (.inr ⟨D,rfl,hk,by simp only [lF hk]⟩)
  ·exact .inr (.inl ⟨D,rfl,hk,by simp only [lI hk]⟩)
theorem xU (t:Tab) (s:aA) (f:Int) (h:t.sz<2^40) (hs:s.length<2^40):aZ Tryz.prog 92 [t.x,.str s,.int .i64 f] (.tup [(exI (aoH t s f)).o,.str (exN (aoH t s f) (aQ s)),.int .i64 (exC (aoH t s f))]) [.undef,.undef,.undef]:=by
 have hPa:=fP s hs
 have hS:=tN t (aJ s).1 h (by have:=(fX s).1; omega)
 rw [show (aJ s).2.2=jD s from rfl,show (aJ s).2.1=aQ s from rfl] at hPa
 unfold aoH
 cases hb:jD s with
 | false=>
  rw [hb] at hPa
  rw [lI (by simp)]
  refine U gO [] 16335 [] fun w hP hQ=>?_
  unfold fS
  refine N ?_
  refine K (hPa) ?_
  all_goals first | rfl | exact ⟨rfl,rfl⟩
 | true=>
  rw [hb] at hPa
  rw [lF rfl]
  unfold yD
  rcases aoI (t:=t) (s:=s) with ⟨c,e1,e2⟩ | ⟨D,e1,e2,e3⟩ | ⟨D,e1,e2,e3⟩
  ·have hc:decide (c=0)=false:=lB (iM e1)
   rw [e1] at hS
   rw [e2]
   simp only [exI,exC,exN] at hS ⊢
   refine U gO [] 16335 [] fun w hP hQ=>?_
   unfold fS
   refine N ?_
   refine K (hPa) ?_
   have hz:=hc
   refine Kz (hS) ?_
   all_goals first | rfl | exact ⟨rfl,rfl⟩
  ·have hk':decide (D.kind=2)=false:=lB e2
   rw [e1] at hS
   rw [e3]
   simp only [exI,exC,exN] at hS ⊢
   refine U gO [] 16335 [] fun w hP hQ=>?_
   unfold fS
   refine N ?_
   refine K (hPa) ?_
   have hz:=hk'
   refine Kz (hS) ?_
   all_goals first | rfl | exact ⟨rfl,rfl⟩
  ·have hk':decide (D.kind=2)=true:=lE e2
   have zD:=sF h (aS e1).2
   have hE:=agK D (aQ s) zD
   rw [e1] at hS
   rw [e3]
   simp only [exI,exC] at hS
   by_cases h1:bE D (aQ s)=0
   ·rw [h1] at hE
    simp only [lF (show bE D (aJ s).2.1=0 from h1)]
    by_cases h2:D.ents.length<10
    ·have h2':decide ((10:Int)≤(D.ents.length:Nat))=false:=lB (by omega)
     simp only [lF (Or.inl h2:D.ents.length<10∨D.ino=f),exI,exC,exN]
     refine U gO [] 16335 [] fun w hP hQ=>?_
     unfold fS
     refine N ?_
     refine K (hPa) ?_
     have hz:=hk'
     refine Kz (hS) ?_
     have hz:=h2'
     exact Kz (hE) trivial
    ·have h2':decide ((10:Int)≤(D.ents.length:Nat))=true:=lE (by omega)
     by_cases h3:D.ino=f
     ·have h3':decide (D.ino=f)=true:=lE h3
      simp only [lF (Or.inr h3:D.ents.length<10∨D.ino=f),exI,exC,exN]
      refine U gO [] 16335 [] fun w hP hQ=>?_
      unfold fS
      refine N ?_
      refine K (hPa) ?_
      have hz:=hk'
      refine Kz (hS) ?_
      have hz:=And.intro h2' h3'
      exact Kz (hE) trivial
     ·have h3':decide (D.ino=f)=false:=lB h3
      simp only [lI (show ¬ (D.ents.length<10∨D.ino=f) from fun h=>h.elim h2 h3),exI,exC,exN]
      refine U gO [] 16335 [] fun w hP hQ=>?_
      unfold fS
      refine N ?_
      refine K (hPa) ?_
      have hz:=hk'
      refine Kz (hS) ?_
      have hz:=And.intro h2' h3'
      refine Kz (hE) ?_
      all_goals first | rfl | exact ⟨rfl,rfl⟩
   ·have h1':decide (bE D (aQ s)=0)=false:=lB h1
    simp only [lI (show ¬ bE D (aJ s).2.1=0 from h1),exI,exC,exN]
    refine U gO [] 16335 [] fun w hP hQ=>?_
    unfold fS
    refine N ?_
    refine K (hPa) ?_
    have hz:=hk'
    refine Kz (hS) ?_
    have hz:=h1'
    refine Kz (hE) ?_
    all_goals first | rfl | exact ⟨rfl,rfl⟩
theorem apV {t:Tab} {s:aA} {f:Int} {D:Inode} (hB:bA t=true) (h:yD t s f=.ok D):∃ k,b0 t D.ino=some k∧UpK Ent.name D.ents∧D.ents.length≤10∧D ∈ t.inodes∧2≤t.next∧t.next≤1000∧D.ino<t.next:=by
 have ht:=(aP t).1 hB
 have hm:=r8 (jS h).1
 obtain ⟨k,hk⟩:=oW (fV ht hm)
 have ok:=(bO ht hm)
 exact ⟨k,hk,ok.up,ok.len,hm,ht.tab.next.1,ht.tab.next.2,(ht.tab.ok D hm).2⟩
theorem akK (l:List Ent) (e:Ent):szM Ent.sz (dL l e)≤szM Ent.sz l+e.name.length+1:=by
 have h1:(dL l e).length=l.length+1:=pC l e
 have h2:((dL l e).map Ent.sz).sum=(l.map Ent.sz).sum+e.name.length:=by
  unfold dL
  induction l with
  | nil=>simp [xA,Ent.sz]
  | cons f l ih=>
   rw [xA]
   split
   ·simp only [lO,lC2,Ent.sz]; omega
   ·simp only [lO,lC2,ih (by exact pC l e)]; omega
 simp only [szM]; omega
theorem afk (D:Inode) (n:aA) (j:Int):(dE D n j).sz≤D.sz+n.length+1:=by
 have:=akK D.ents ⟨n,j⟩
 simp only at this
 show D.data.length+szM Ent.sz (dL D.ents ⟨n,j⟩)+szM Attr.sz D.attrs≤D.data.length+szM Ent.sz D.ents+szM Attr.sz D.attrs+n.length+1
 omega
theorem aoJ {t:Tab} {D:Inode} {n:aA} (hB:bA t=true) (hm:D ∈ t.inodes):∀ y ∈ (aH t (dE D n t.next)).inodes,y.ino<t.next:=by
 have ht:=(aP t).1 hB
 intro y hy
 rcases zV hy with rfl | hy
 ·exact (ht.tab.ok D hm).2
 ·exact (ht.tab.ok y hy).2
theorem akL (l:List Inode) (x:Inode):bR l x≠[]:=by
 cases l with
 | nil=>simp [bR]
 | cons y l=>rw [bR]; split; simp; split <;> simp
theorem adq (t:Tab) (s:aA) (k:Int) (h:t.sz<2^28) (hs:s.length<2^40):aZ Tryz.prog 89 [t.x,.str s,.int .i64 k] (.tup [(fA t s k).1.o,.int .i64 (fA t s k).2]) [.undef,.undef,.undef]:=by
 have h':t.sz<2^40:=by omega
 have hC:=fH t h'
 have hT:=gD t h'
 have hN:=xU t s 0 h' hs
 unfold aoH at hN
 cases hB:bA t with
 | false=>
  have e:fA t s k=(t,1):=by rw [fA,lI (by simp [hB])]
  rw [hB] at hT
  rw [e]
  refine U jA [] 4047 [] fun w hP hQ=>?_
  unfold gM
  refine N ?_
  refine K (hT) ?_
  (first|refine cI hP (hC) rfl rfl ?_|refine cH hP (hC) rfl rfl ?_)
  refine N ?_
  all_goals first|exact trivial|rfl|exact ⟨rfl,rfl⟩
 | true=>
  rw [hB] at hT
  cases hb:jD s with
  | false=>
   have e:fA t s k=(t,1):=by rw [fA,lI (by simp [hb])]
   rw [hb,lI (by simp)] at hN
   rw [e]
   simp only [exI,exC,exN] at hN
   refine U jA [] 4047 [] fun w hP hQ=>?_
   unfold gM
   refine N ?_
   refine K (hT) ?_
   refine K (hN) ?_
   (first|refine cI hP (hC) rfl rfl ?_|refine cH hP (hC) rfl rfl ?_)
   refine N ?_
   all_goals first|exact trivial|rfl|exact ⟨rfl,rfl⟩
  | true=>
   rw [hb,lF rfl] at hN
   cases hX:yD t s 0 with
   | error c=>
    have hc:decide (c=0)=false:=lB (by
     intro e; subst e; unfold yD at hX
     split at hX
     ·split at hX
      ·split at hX <;> cases hX
      ·cases hX
     ·rename_i e2
      cases hX
      unfold eQ at e2
      split at e2
      ·split at e2 <;> cases e2
      ·rename_i e3; cases e2; exact iM e3 rfl)
    have e:fA t s k=(t,c):=by rw [fA,lF ⟨hB,hb⟩,hX]
    rw [hX] at hN
    rw [e]
    simp only [exI,exC,exN] at hN
    refine U jA [] 4047 [] fun w hP hQ=>?_
    unfold gM
    refine N ?_
    refine K (hT) ?_
    have hz:=hc
    refine Kz (hN) ?_
    (first|refine cI hP (hC) rfl rfl ?_|refine cH hP (hC) rfl rfl ?_)
    refine N ?_
    all_goals first|exact trivial|rfl|exact ⟨rfl,rfl⟩
   | ok D=>
    obtain ⟨kD,k1,k2,k3,k4,k5,k6,k7⟩:=apV hB hX
    have e0:fA t s k=if t.inodes.length<30∧t.next<1000 then (oN t D (aQ s) k,0) else (t,5):=by rw [fA,lF ⟨hB,hb⟩,hX]
    rw [hX] at hN
    simp only [exI,exC,exN] at hN
    rw [e0]
    by_cases g1:t.inodes.length<30
    ·have g1':decide ((30:Int)≤(t.inodes.length:Nat))=false:=lB (by omega)
     by_cases g2:t.next<1000
     ·have g2':decide ((1000:Int)≤t.next)=false:=lB (by omega)
      rw [lF ⟨g1,g2⟩]
      have zD:=(cZ h).2 D k4
      have z1:=afk D (aQ s) t.next
      have z2:=(fX s).2
      have z3:=mK t (dE D (aQ s) t.next)
      have hP1:=abm D.ents ⟨aQ s,t.next⟩ k2 (by omega)
      have hS1:=bP t (dE D (aQ s) t.next) h' (by omega) (g6 hB) k1
      have hS2:=xT (aH t (dE D (aQ s) t.next)) (abc t.next k) (by omega) (by show 0+(0+0)+(0+0)<2^30; omega) (akL _ _) (aoJ hB k4)
      refine U jA [] 4047 [] fun w hP hQ=>?_
      unfold gM
      refine N ?_
      refine K (hT) ?_
      have hz:=And.intro g1' g2'
      refine Kz (hN) ?_
      refine K (hC) ?_
      refine K (hP1) ?_
      refine K (hS1) ?_
      refine K (hS2) ?_
      rfl
     ·have g2':decide ((1000:Int)≤t.next)=true:=lE (by omega)
      rw [lI (by omega)]
      refine U jA [] 4047 [] fun w hP hQ=>?_
      unfold gM
      refine N ?_
      refine K (hT) ?_
      have hz:=And.intro g1' g2'
      refine Kz (hN) ?_
      (first|refine cI hP (hC) rfl rfl ?_|refine cH hP (hC) rfl rfl ?_)
      refine N ?_
      all_goals first|exact trivial|rfl|exact ⟨rfl,rfl⟩
    ·have g1':decide ((30:Int)≤(t.inodes.length:Nat))=true:=lE (by omega)
     rw [lI (by omega)]
     refine U jA [] 4047 [] fun w hP hQ=>?_
     unfold gM
     refine N ?_
     refine K (hT) ?_
     have hz:=g1'
     refine Kz (hN) ?_
     (first|refine cI hP (hC) rfl rfl ?_|refine cH hP (hC) rfl rfl ?_)
     refine N ?_
     all_goals first|exact trivial|rfl|exact ⟨rfl,rfl⟩
theorem jF (t:Tab) (s:aA) (h:t.sz<2^28) (hs:s.length<2^40):aZ Tryz.prog 37 [t.x,.str s] (.tup [(fA t s 2).1.o,.int .i64 (fA t s 2).2]) [.undef,.undef]:=by
 refine U aeC [] 55 [] fun w hP hQ=>?_
 unfold v8
 refine N ?_
 exact K (adq t s 2 h hs) trivial
theorem g7 (t:Tab) (s:aA) (h:t.sz<2^28) (hs:s.length<2^40):aZ Tryz.prog 33 [t.x,.str s] (.tup [(fA t s 1).1.o,.int .i64 (fA t s 1).2]) [.undef,.undef]:=by
 refine U acC [] 55 [] fun w hP hQ=>?_
 unfold tS
 refine N ?_
 exact K (adq t s 1 h hs) trivial
theorem abn {t:Tab} {s:aA} {X:Inode} (hB:bA t=true) (hs:jD s=true) (hX:cM t s=.ok X):∃ D,eQ t s=.ok D:=by
 have ht:=(aP t).1 hB
 obtain ⟨D,d1,d2,_⟩:=tH ht hs hX
 exact ⟨D,d1⟩
theorem oX (t:Tab) (s:aA) (h:t.sz<2^30) (hs:s.length<2^40):aZ Tryz.prog 30 [t.x,.str s] (.tup [(bB t s).1.o,.int .i64 (bB t s).2]) [.undef,.undef]:=by
 have h':t.sz<2^40:=by omega
 have hC:=fH t h'
 have hT:=gD t h'
 have hPa:=fP s hs
 rw [show (aJ s).2.2=jD s from rfl] at hPa
 by_cases hc:bA t=true∧jD s=true
 ·obtain ⟨hB,hsb⟩:=hc
  rw [hB] at hT
  rw [hsb] at hPa
  have hF:=tN t s h' hs
  cases hX:cM t s with
  | error c=>
   have hc:decide (c=0)=false:=lB (iM hX)
   have e:bB t s=(t,c):=by rw [bB,lF ⟨hB,hsb⟩,hX]
   rw [hX] at hF
   rw [e]
   simp only [exI,exC] at hF
   refine U eV [] 1847 [] fun w hP hQ=>?_
   unfold dU
   refine N ?_
   refine K (hPa) ?_
   refine K (hT) ?_
   have hz:=hc
   refine Kz (hF) ?_
   (first|refine cI hP (hC) rfl rfl ?_|refine cH hP (hC) rfl rfl ?_)
   refine N ?_
   all_goals first|exact trivial|rfl|exact ⟨rfl,rfl⟩
  | ok X=>
   have e0:bB t s=if X.kind=2 then (if X.ents=[] then (fC (aH t (bZ (exI (eQ t s)) (aQ s))) X.ino,0) else (t,6)) else (t,3):=by rw [bB,lF ⟨hB,hsb⟩,hX]
   rw [hX] at hF
   rw [e0]
   simp only [exI,exC] at hF
   have zX:=sF h' (aS hX).2
   by_cases g1:X.kind=2
   ·have g1':decide (X.kind=2)=true:=lE g1
    rw [lF g1]
    by_cases g2:X.ents=[]
    ·have g2':decide ((0:Int)<(X.ents.length:Nat))=false:=lB (by rw [g2]; simp)
     obtain ⟨D,d1⟩:=abn hB hsb hX
     rw [lF g2,d1]
     simp only [exI]
     have zD:=(aS (gY d1).1).2
     have zt:(aH t (bZ D (aQ s))).sz<2^40:=by
      have:=mK t (bZ D (aQ s))
      have:=qP D (aQ s)
      have:=(cZ h).2 D (aK zD).1
      omega
     have hL:=xS t s h' hs (g6 hB) d1
     have hD:=uA (aH t (bZ D (aQ s))) X.ino zt
     refine U eV [] 1847 [] fun w hP hQ=>?_
     unfold dU
     refine N ?_
     refine K (hPa) ?_
     refine K (hT) ?_
     have hz:=And.intro g1' g2'
     refine Kz (hF) ?_
     refine K (hL) ?_
     (first|refine cI hP (hD) rfl rfl ?_|refine cH hP (hD) rfl rfl ?_)
     refine N ?_
     all_goals first|exact trivial|rfl|exact ⟨rfl,rfl⟩
    ·have g2':decide ((0:Int)<(X.ents.length:Nat))=true:=lE (by have:=lX2.2 g2; omega)
     rw [lI g2]
     refine U eV [] 1847 [] fun w hP hQ=>?_
     unfold dU
     refine N ?_
     refine K (hPa) ?_
     refine K (hT) ?_
     have hz:=And.intro g1' g2'
     refine Kz (hF) ?_
     (first|refine cI hP (hC) rfl rfl ?_|refine cH hP (hC) rfl rfl ?_)
     refine N ?_
     all_goals first|exact trivial|rfl|exact ⟨rfl,rfl⟩
   ·have g1':decide (X.kind=2)=false:=lB g1
    rw [lI g1]
    refine U eV [] 1847 [] fun w hP hQ=>?_
    unfold dU
    refine N ?_
    refine K (hPa) ?_
    refine K (hT) ?_
    have hz:=g1'
    refine Kz (hF) ?_
    (first|refine cI hP (hC) rfl rfl ?_|refine cH hP (hC) rfl rfl ?_)
    refine N ?_
    all_goals first|exact trivial|rfl|exact ⟨rfl,rfl⟩
 ·have e:bB t s=(t,1):=by rw [bB,lI hc]
  rw [e]
  cases hB:bA t with
  | false=>
   rw [hB] at hT
   refine U eV [] 1847 [] fun w hP hQ=>?_
   unfold dU
   refine N ?_
   refine K (hPa) ?_
   refine K (hT) ?_
   (first|refine cI hP (hC) rfl rfl ?_|refine cH hP (hC) rfl rfl ?_)
   refine N ?_
   all_goals first|exact trivial|rfl|exact ⟨rfl,rfl⟩
  | true=>
   have hsb:jD s=false:=by cases e:jD s <;> simp_all
   rw [hB] at hT
   rw [hsb] at hPa
   refine U eV [] 1847 [] fun w hP hQ=>?_
   unfold dU
   refine N ?_
   refine K (hPa) ?_
   refine K (hT) ?_
   (first|refine cI hP (hC) rfl rfl ?_|refine cH hP (hC) rfl rfl ?_)
   refine N ?_
   all_goals first|exact trivial|rfl|exact ⟨rfl,rfl⟩
theorem aoK (X:Inode):(iW X).sz=X.sz:=rfl
theorem anc {t:Tab} {s:aA} {f:Int} {c:Int} (h:yD t s f=.error c):c≠0:=by
 intro e
 subst e
 unfold yD at h
 split at h
 ·split at h
  ·split at h <;> cases h
  ·cases h
 ·rename_i e2
  cases h
  unfold eQ at e2
  split at e2
  ·split at e2 <;> cases e2
  ·rename_i e3; cases e2; exact iM e3 rfl
theorem aoL {t:Tab} {p q:aA} {X D:Inode} (hB:bA t=true) (hX:nC t p=.ok X) (hD:yD t q 0=.ok D):∃ kX kD,b0 t X.ino=some kX∧b0 (aH t (iW X)) D.ino=some kD∧UpI (aH t (iW X)).inodes∧nV t D (aQ q) X=aH (aH t (iW X)) (dE D (aQ q) X.ino)∧UpK Ent.name D.ents∧D.ents.length≤10∧X.sz+0≤X.sz∧0≤X.links∧X.links≤1000:=by
 have ht:=(aP t).1 hB
 obtain ⟨f1,f2⟩:=dI hX
 have a1:=(aS f1).2
 have hm:=r8 (jS hD).1
 have a2:=fV ht hm
 have k2:=(gY (jS hD).1).2
 have hne:D.ino≠X.ino:=by
  intro e
  rw [e,a1] at a2
  cases a2
  omega
 obtain ⟨kX,hkX⟩:=oW a1
 have hu:=g6 hB
 have a3:aD (aH t (iW X)) D.ino=some D:=by
  rw [cE hu,lI (show ¬ (iW X).ino=D.ino from fun e=>hne e.symm)]
  exact a2
 obtain ⟨kD,hkD⟩:=oW a3
 have ok:=bO ht hm
 have l2:=(ht.tab.ok X (aS f1).1).1.links
 exact ⟨kX,kD,hkX,hkD,gA hu _,set_comm hu (show (dE D (aQ q) X.ino).ino≠(iW X).ino from hne),ok.up,ok.len,by omega,by omega,by omega⟩
theorem xV (t:Tab) (p q:aA) (h:t.sz<2^28) (hp:p.length<2^40) (hq:q.length<2^40):aZ Tryz.prog 39 [t.x,.str p,.str q] (.tup [(mJ t p q).1.o,.int .i64 (mJ t p q).2]) [.undef,.undef,.undef]:=by
 have h':t.sz<2^40:=by omega
 have hC:=fH t h'
 have hT:=gD t h'
 have hSp:=dO p hp
 have hPa:=fP q hq
 rw [show (aC p).2=gC p from rfl] at hSp
 rw [show (aJ q).2.2=jD q from rfl] at hPa
 by_cases hc:bA t=true∧gC p=true∧jD q=true
 ·obtain ⟨hB,hpb,hqb⟩:=hc
  rw [hB] at hT
  rw [hpb] at hSp
  rw [hqb] at hPa
  have hF:=sG t p h' hp
  cases hX:nC t p with
  | error c=>
   have hc:decide (c=0)=false:=lB (u5 hX)
   have e:mJ t p q=(t,c):=by rw [mJ,lF ⟨hB,hpb,hqb⟩,hX]
   rw [hX] at hF
   rw [e]
   simp only [exI,exC] at hF
   refine U fU [] 258767 [] fun w hP hQ=>?_
   unfold eO
   refine N ?_
   refine K (hSp) ?_
   refine K (hPa) ?_
   refine K (hT) ?_
   have hz:=hc
   refine Kz (hF) ?_
   (first|refine cI hP (hC) rfl rfl ?_|refine cH hP (hC) rfl rfl ?_)
   refine N ?_
   all_goals first|exact trivial|rfl|exact ⟨rfl,rfl⟩
  | ok X=>
   have hN:=xU t q 0 h' hq
   unfold aoH at hN
   rw [hqb,lF rfl] at hN
   rw [hX] at hF
   simp only [exI,exC] at hF
   cases hD:yD t q 0 with
   | error c=>
    have hc:decide (c=0)=false:=lB (anc hD)
    have e:mJ t p q=(t,c):=by rw [mJ,lF ⟨hB,hpb,hqb⟩,hX]; simp only [hD]
    rw [hD] at hN
    rw [e]
    simp only [exI,exC,exN] at hN
    refine U fU [] 258767 [] fun w hP hQ=>?_
    unfold eO
    refine N ?_
    refine K (hSp) ?_
    refine K (hPa) ?_
    refine K (hT) ?_
    refine K (hF) ?_
    have hz:=hc
    refine Kz (hN) ?_
    (first|refine cI hP (hC) rfl rfl ?_|refine cH hP (hC) rfl rfl ?_)
    refine N ?_
    all_goals first|exact trivial|rfl|exact ⟨rfl,rfl⟩
   | ok D=>
    obtain ⟨kX,kD,k1,k2,k3,k4,k5,k6,k7,k8,k9⟩:=aoL hB hX hD
    have e:mJ t p q=(nV t D (aQ q) X,0):=by rw [mJ,lF ⟨hB,hpb,hqb⟩,hX]; simp only [hD]
    rw [hD] at hN
    rw [e,k4]
    simp only [exI,exC,exN] at hN
    have zX:=(cZ h).2 X (aS (dI hX).1).1
    have zD:=(cZ h).2 D (r8 (jS hD).1)
    have z1:=afk D (aQ q) X.ino
    have z2:=(fX q).2
    have z3:=mK t (iW X)
    have z4:=aoK X
    have hP1:=abm D.ents ⟨aQ q,X.ino⟩ k5 (by omega)
    have hS1:=bP t (iW X) h' (by omega) (g6 hB) k1
    have hS2:=bP (aH t (iW X)) (dE D (aQ q) X.ino) (by omega) (by omega) k3 k2
    refine U fU [] 258767 [] fun w hP hQ=>?_
    unfold eO
    refine N ?_
    refine K (hSp) ?_
    refine K (hPa) ?_
    refine K (hT) ?_
    refine K (hF) ?_
    refine K (hN) ?_
    refine K (hP1) ?_
    refine K (hS1) ?_
    (first|refine cI hP (hS2) rfl rfl ?_|refine cH hP (hS2) rfl rfl ?_)
    refine N ?_
    all_goals first|exact trivial|rfl|exact ⟨rfl,rfl⟩
 ·have e:mJ t p q=(t,1):=by rw [mJ,lI hc]
  rw [e]
  cases hB:bA t with
  | false=>
   rw [hB] at hT
   refine U fU [] 258767 [] fun w hP hQ=>?_
   unfold eO
   refine N ?_
   refine K (hSp) ?_
   refine K (hPa) ?_
   refine K (hT) ?_
   (first|refine cI hP (hC) rfl rfl ?_|refine cH hP (hC) rfl rfl ?_)
   refine N ?_
   all_goals first|exact trivial|rfl|exact ⟨rfl,rfl⟩
  | true=>
   rw [hB] at hT
   cases hpb:gC p with
   | false=>
    rw [hpb] at hSp
    refine U fU [] 258767 [] fun w hP hQ=>?_
    unfold eO
    refine N ?_
    refine K (hSp) ?_
    refine K (hPa) ?_
    refine K (hT) ?_
    (first|refine cI hP (hC) rfl rfl ?_|refine cH hP (hC) rfl rfl ?_)
    refine N ?_
    all_goals first|exact trivial|rfl|exact ⟨rfl,rfl⟩
   | true=>
    have hqb:jD q=false:=by cases e:jD q <;> simp_all
    rw [hpb] at hSp
    rw [hqb] at hPa
    refine U fU [] 258767 [] fun w hP hQ=>?_
    unfold eO
    refine N ?_
    refine K (hSp) ?_
    refine K (hPa) ?_
    refine K (hT) ?_
    (first|refine cI hP (hC) rfl rfl ?_|refine cH hP (hC) rfl rfl ?_)
    refine N ?_
    all_goals first|exact trivial|rfl|exact ⟨rfl,rfl⟩
theorem ane {t:Tab} {x:Inode} (h:x ∈ t.inodes):x.sz≤t.sz:=by
 have:=(cZ (t:=t) (n:=t.sz+1) (by omega)).2 x h
 omega
theorem amG {t:Tab} {s:aA} {c:Int} (hB:bA t=true) (h:cM t s=.error c):(pA t s).2=c:=by
 have ht:=(aP t).1 hB
 unfold cM at h
 split at h
 ·rename_i e
  have hw:=(ago (acX e) (i:=(pA t s).1)).1 (by rw [← e])
  obtain ⟨x,hx,_⟩:=zU ht hw
  rw [hx] at h
  cases h
 ·cases h; rfl
theorem amH {t:Tab} (h:TreeOk t) {D1:Inode} {d1:List aA} (s1:Spot t D1 d1) {n:aA} {l:List aA} (hp:¬ (d1++[n]) <+: l):aT (aD (aH t (bZ D1 n))) l 1=aT (aD t) l 1:=by
 have hD1:=fV h s1.mem
 have map1:∀ i,aD (aH t (bZ D1 n)) i=if D1.ino=i then some (bZ D1 n) else aD t i:=fun i=>cE h.tab.up _ i
 rw [cU,cU]
 refine fN (fun i m him=>?_) (gS h s1) hp
 by_cases h2:i=D1.ino
 ·have hm:=him.resolve_left (by simp [h2])
  rw [a8 (x:=bZ D1 n) (by rw [map1,lF h2.symm]) m,a8 (M:=aD t) (x:=D1) (by rw [h2]; exact hD1) m]
  have:bE (bZ D1 n) m=bE D1 m:=by unfold bZ; rw [oM,if_neg hm]
  rw [this]; rfl
 ·exact nA (by rw [map1,lI (Ne.symm h2)]) m
theorem aoM {t:Tab} {p q:aA} {X D2:Inode} (hB:bA t=true) (hp:jD p=true) (hq:jD q=true) (h1:cM t p=.ok X) (hb:aa9 p q=false) (h2:yD t q (exI (eQ t p)).ino=.ok D2) :
  ∃ D1 k,eQ t p=.ok D1∧pA t (aJ p).1=(D1.ino,0)∧cM (aH t (bZ D1 (aQ p))) (aJ q).1=.ok (gH D1 D2 (aQ p))∧b0 (aH t (bZ D1 (aQ p))) (gH D1 D2 (aQ p)).ino=some k ∧
   UpI (aH t (bZ D1 (aQ p))).inodes∧UpK Ent.name (gH D1 D2 (aQ p)).ents∧(gH D1 D2 (aQ p)).ents.length≤10∧(gH D1 D2 (aQ p)).sz≤t.sz∧D1.sz≤t.sz:=by
 have ht:=(aP t).1 hB
 obtain ⟨D1,e,d1,s1,he,e1,e2,s2,hn,hf,hl,hb'⟩:=akm ht hp hq h1 hb h2
 have hD1:=fV ht s1.mem
 have hD2:=fV ht s2.mem
 have okD1:=bO ht s1.mem
 have okD2:=bO ht s2.mem
 have npd2:¬ ((aC (aJ p).1).1++[aQ p]) <+: (aC (aJ q).1).1:=fun hp=>hb' (by rw [e1]; exact hp.trans (List.prefix_append _ _))
 have w:=amH ht s1 npd2
 rw [s2.at'] at w
 have at2:aD (aH t (bZ D1 (aQ p))) D2.ino=some (gH D1 D2 (aQ p)):=by
  rw [cE ht.tab.up]
  show (if D1.ino=D2.ino then _ else _)=_
  unfold gH
  split
  ·rfl
  ·exact hD2
 have mi:(gH D1 D2 (aQ p)).ino=D2.ino:=by unfold gH; split; (rename_i hc; exact hc); rfl
 obtain ⟨k,hk⟩:=oW at2
 have hs2:(aC (aJ q).1).2=true:=(r7 (gY (jS h2).1).1).1
 have z1:=ane s1.mem
 have z2:=ane s2.mem
 refine ⟨D1,k,d1,(qM (gY d1).1).1,?_,by rw [mi]; exact hk,gA ht.tab.up _,?_,?_,?_,z1⟩
 ·rw [aow hs2 w,at2]
 ·unfold gH; split
  ·exact qJ okD1.up _
  ·exact okD2.up
 ·unfold gH; split
  ·have:(cY D1.ents (aQ p)).length≤D1.ents.length:=lQ2 _ _
   have:=okD1.len
   show (cY D1.ents (aQ p)).length≤10
   omega
  ·exact okD2.len
 ·unfold gH; split
  ·exact lJ4 (qP D1 _) z1
  ·exact z2
theorem adr (t:Tab) (p q:aA) (h:t.sz<2^28) (hp:p.length<2^40) (hq:q.length<2^40):aZ Tryz.prog 42 [t.x,.str p,.str q] (.tup [(oP t p q).1.o,.int .i64 (oP t p q).2]) [.undef,.undef,.undef]:=by
 have h':t.sz<2^40:=by omega
 have hC:=fH t h'
 have hT:=gD t h'
 have hPp:=fP p hp
 have hPa:=fP q hq
 rw [show (aJ p).2.2=jD p from rfl,show (aJ p).2.1=aQ p from rfl] at hPp
 rw [show (aJ q).2.2=jD q from rfl,show (aJ q).2.1=aQ q from rfl] at hPa
 by_cases hc:bA t=true∧jD p=true∧jD q=true
 ·obtain ⟨hB,hpb,hqb⟩:=hc
  rw [hB] at hT
  rw [hpb] at hPp
  rw [hqb] at hPa
  have hW:=afg t p h' hp
  cases hX:cM t p with
  | error c=>
   have hc:decide (c=0)=false:=lB (iM hX)
   have e:oP t p q=(t,c):=by rw [oP,lF ⟨hB,hpb,hqb⟩,hX]
   rw [amG hB hX] at hW
   rw [e]
   refine U gN [] 41543119 [] fun w hP hQ=>?_
   unfold fR
   refine N ?_
   refine K (hPp) ?_
   refine K (hPa) ?_
   refine K (hT) ?_
   have hz:=hc
   refine Kz (hW) ?_
   (first|refine cI hP (hC) rfl rfl ?_|refine cH hP (hC) rfl rfl ?_)
   refine N ?_
   all_goals first|exact trivial|rfl|exact ⟨rfl,rfl⟩
  | ok X=>
   have e0:oP t p q=if aa9 p q=true then (t,6) else (match yD t q (exI (eQ t p)).ino with
    | .ok D=>(mE t (exI (eQ t p)) D (aQ p) (aQ q) X.ino,0)
    | .error c=>(t,c)):=by rw [oP,lF ⟨hB,hpb,hqb⟩,hX]; rfl
   have hL:=amn p q hp hq
   rw [(qM hX).1] at hW
   simp only at hW
   rw [e0]
   cases hb:aa9 p q with
   | true=>
    rw [hb] at hL
    rw [lF rfl]
    refine U gN [] 41543119 [] fun w hP hQ=>?_
    unfold fR
    refine N ?_
    refine K (hPp) ?_
    refine K (hPa) ?_
    refine K (hT) ?_
    refine K (hW) ?_
    refine K (hL) ?_
    (first|refine cI hP (hC) rfl rfl ?_|refine cH hP (hC) rfl rfl ?_)
    refine N ?_
    all_goals first|exact trivial|rfl|exact ⟨rfl,rfl⟩
   | false=>
    rw [hb] at hL
    rw [lI (by simp)]
    obtain ⟨D1,d1⟩:=abn hB hpb hX
    have hV:=afg t (aJ p).1 h' (by have:=(fX p).1; omega)
    rw [(qM (gY d1).1).1] at hV
    simp only at hV
    have hN:=xU t q D1.ino h' hq
    unfold aoH at hN
    rw [hqb,lF rfl] at hN
    have e1:(exI (eQ t p)).ino=D1.ino:=by rw [d1]; rfl
    rw [e1]
    cases hD:yD t q D1.ino with
    | error c=>
     have hc:decide (c=0)=false:=lB (anc hD)
     rw [hD] at hN
     simp only [exI,exC,exN] at hN ⊢
     refine U gN [] 41543119 [] fun w hP hQ=>?_
     unfold fR
     refine N ?_
     refine K (hPp) ?_
     refine K (hPa) ?_
     refine K (hT) ?_
     refine K (hW) ?_
     refine K (hL) ?_
     refine K (hV) ?_
     have hz:=hc
     refine Kz (hN) ?_
     (first|refine cI hP (hC) rfl rfl ?_|refine cH hP (hC) rfl rfl ?_)
     refine N ?_
     all_goals first|exact trivial|rfl|exact ⟨rfl,rfl⟩
    | ok D2=>
     obtain ⟨D1',k,k1,k2,k3,k4,k5,k6,k7,k8,k9⟩:=aoM hB hpb hqb hX hb (by rw [e1]; exact hD)
     rw [d1] at k1
     cases k1
     rw [hD] at hN
     simp only [exI,exC,exN,d1] at hN ⊢
     rw [mE]
     have z1:=qP D1 (aQ p)
     have z2:=mK t (bZ D1 (aQ p))
     have z3:=afk (gH D1 D2 (aQ p)) (aQ q) X.ino
     have z4:=(fX q).2
     have z5:=(fX q).1
     have hL1:=xS t p h' hp (g6 hB) d1
     have hS:=tN (aH t (bZ D1 (aQ p))) (aJ q).1 (by omega) (by omega)
     rw [k3] at hS
     simp only [exI,exC] at hS
     have hP1:=abm (gH D1 D2 (aQ p)).ents ⟨aQ q,X.ino⟩ k6 (by omega)
     have hS2:=bP (aH t (bZ D1 (aQ p))) (dE (gH D1 D2 (aQ p)) (aQ q) X.ino) (by omega) (by omega) k5 k4
     refine U gN [] 41543119 [] fun w hP hQ=>?_
     unfold fR
     refine N ?_
     refine K (hPp) ?_
     refine K (hPa) ?_
     refine K (hT) ?_
     refine K (hW) ?_
     refine K (hL) ?_
     refine K (hV) ?_
     refine K (hN) ?_
     refine K (hL1) ?_
     refine K (hPa) ?_
     refine K (hS) ?_
     refine K (hP1) ?_
     (first|refine cI hP (hS2) rfl rfl ?_|refine cH hP (hS2) rfl rfl ?_)
     refine N ?_
     all_goals first|exact trivial|rfl|exact ⟨rfl,rfl⟩
 ·have e:oP t p q=(t,1):=by rw [oP,lI hc]
  rw [e]
  cases hB:bA t with
  | false=>
   rw [hB] at hT
   refine U gN [] 41543119 [] fun w hP hQ=>?_
   unfold fR
   refine N ?_
   refine K (hPp) ?_
   refine K (hPa) ?_
   refine K (hT) ?_
   (first|refine cI hP (hC) rfl rfl ?_|refine cH hP (hC) rfl rfl ?_)
   refine N ?_
   all_goals first|exact trivial|rfl|exact ⟨rfl,rfl⟩
  | true=>
   rw [hB] at hT
   cases hpb:jD p with
   | false=>
    rw [hpb] at hPp
    refine U gN [] 41543119 [] fun w hP hQ=>?_
    unfold fR
    refine N ?_
    refine K (hPp) ?_
    refine K (hPa) ?_
    refine K (hT) ?_
    (first|refine cI hP (hC) rfl rfl ?_|refine cH hP (hC) rfl rfl ?_)
    refine N ?_
    all_goals first|exact trivial|rfl|exact ⟨rfl,rfl⟩
   | true=>
    have hqb:jD q=false:=by cases e:jD q <;> simp_all
    rw [hpb] at hPp
    rw [hqb] at hPa
    refine U gN [] 41543119 [] fun w hP hQ=>?_
    unfold fR
    refine N ?_
    refine K (hPp) ?_
    refine K (hPa) ?_
    refine K (hT) ?_
    (first|refine cI hP (hC) rfl rfl ?_|refine cH hP (hC) rfl rfl ?_)
    refine N ?_
    all_goals first|exact trivial|rfl|exact ⟨rfl,rfl⟩
theorem akM (x a b:Int):aZ Tryz.prog 158 [.int .i64 x,.int .i64 a,.int .i64 b] (.bool (inR x a b)) [.undef,.undef,.undef]:=by
 refine U af6 [] 71 [] fun w hP hQ=>?_
 unfold aaW
 refine N ?_
 (first | with_reducible refine sV _ ?_ ?_ | refine sW _ ?_ ?_) <;> intro h1
 ·have hz:=h1
  refine Nz ?_
  simp [inR,h1]
 ·have hz:=h1
  refine Nz ?_
  simp [inR,h1]
theorem aif (b:aA) (n:Nat):List.take n (aM b)=aM (b.take n):=by simp [aM,lU4]
theorem ads (b:aA) (i:Nat):aM (b++List.replicate i 0)++[[TV.int .u8 0]]=aM (b++List.replicate (i+1) 0):=by
 rw [List.replicate_succ',← lM2]
 simp [aM]
theorem anf {b:aA} {n i:Nat} (h1:i≤n-b.length) (h2:n≤b.length+i):b++List.replicate i 0=abL b n:=by
 rw [abL,show n-b.length=i by omega]
theorem apW {n:Int} {a b:Int} (h:inR n a b=true):a≤n∧n≤b:=by simpa [inR] using h
theorem xW (t:Tab) (s:aA) (n:Int) (h:t.sz<2^30) (hs:s.length<2^40):aZ Tryz.prog 174 [t.x,.str s,.int .i64 n] (.tup [(xH t s n).1.o,.int .i64 (xH t s n).2]) [.undef,.undef,.undef]:=by
 have h':t.sz<2^40:=by omega
 have hC:=fH t h'
 have hT:=gD t h'
 have hSp:=dO s hs
 have hI:=akM n 0 100
 rw [show (aC s).2=gC s from rfl] at hSp
 by_cases hc:bA t=true∧gC s=true∧inR n 0 100=true
 ·obtain ⟨hB,hpb,hi⟩:=hc
  rw [hB] at hT
  rw [hpb] at hSp
  rw [hi] at hI
  obtain ⟨n1,n2⟩:=apW hi
  have hF:=sG t s h' hs
  cases hX:nC t s with
  | error c=>
   have hc:decide (c=0)=false:=lB (u5 hX)
   have e:xH t s n=(t,c):=by rw [xH,lF ⟨hB,hpb,hi⟩,hX]
   rw [hX] at hF
   rw [e]
   simp only [exI,exC] at hF
   refine U iE [] 3791 [] fun w hP hQ=>?_
   unfold fT
   refine N ?_
   refine K (hSp) ?_
   refine K (hT) ?_
   refine K (hI) ?_
   have hz:=hc
   refine Kz (hF) ?_
   (first|refine cI hP (hC) rfl rfl ?_|refine cH hP (hC) rfl rfl ?_)
   refine N ?_
   all_goals first|exact trivial|rfl|exact ⟨rfl,rfl⟩
  | ok X=>
   have e:xH t s n=(aH t (xG X ((abL X.data n.toNat).take n.toNat)),0):=by rw [xH,lF ⟨hB,hpb,hi⟩,hX]
   obtain ⟨kX,hkX⟩:=oW (aS (dI hX).1).2
   have zX:=(cZ h).2 X (aS (dI hX).1).1
   have zd:X.data.length<2^30:=by rw [Inode.sz] at zX; omega
   have zD:(xG X ((abL X.data n.toNat).take n.toNat)).sz<2^40:=by
    show ((abL X.data n.toNat).take n.toNat).length+szM Ent.sz X.ents+szM Attr.sz X.attrs<_
    rw [Inode.sz] at zX
    rw [lT]
    omega
   have hS:=bP t (xG X ((abL X.data n.toNat).take n.toNat)) h' zD (g6 hB) hkX
   rw [hX] at hF
   rw [e]
   simp only [exI,exC] at hF
   refine U iE [] 3791 [] fun w hP hQ=>?_
   unfold fT
   refine N ?_
   refine K (hSp) ?_
   refine K (hT) ?_
   refine K (hI) ?_
   refine K (hF) ?_
   refine eJ [] ?_
   refine N ?_
   refine aR [] (fun i:Nat=>[(5010,.box [.int .i64 X.ino,.int .i64 X.kind,.int .i64 X.links,.own 1 (aM (X.data++List.replicate i 0)),.own 2 (X.ents.map Ent.row),.own 2 (X.attrs.map Attr.row)])]) (fun i=>i≤n.toNat-X.data.length) (fun i=>n.toNat-X.data.length-i) (0) hP hQ (by simp; rfl) (by simp) ?_
   rintro i hi2 w1 hP1 hQ1
   refine N1 ?_
   have hb:X.data.length+i+1≤140737488355328:=by omega
   (first | with_reducible refine cN _ ?_ ?_ | refine cO _ ?_ ?_) <;> intro g
   ·rw [lU,lP2] at g
    simp +decide (maxSteps:=9^9) (disch:=omega) only[↓SB0,SX,seval,hQ,hQ1,hb,kZ,lU,lP2]
    exact ⟨i+1,by rw [ads],by omega,by omega⟩
   ·rw [lU,lP2] at g
    have hle:n≤((X.data.length+i:Nat):Int):=by omega
    rw [anf (i:=i) hi2 (by omega)]
    have hpl:n≤((abL X.data n.toNat).length:Nat):=by rw [abL]; simp; omega
    have hz:=And.intro hpl (And.intro n1 (And.intro kZ (And.intro aif Int.sub_zero)))
    refine Nz1 ?_
    (first|refine cI hP (hS) rfl rfl ?_|refine cH hP (hS) rfl rfl ?_)
    refine N ?_
    all_goals first|exact trivial|rfl|exact ⟨rfl,rfl⟩
 ·have e:xH t s n=(t,1):=by rw [xH,lI hc]
  rw [e]
  cases hB:bA t with
  | false=>
   rw [hB] at hT
   refine U iE [] 3791 [] fun w hP hQ=>?_
   unfold fT
   refine N ?_
   refine K (hSp) ?_
   refine K (hT) ?_
   (first|refine cI hP (hC) rfl rfl ?_|refine cH hP (hC) rfl rfl ?_)
   refine N ?_
   all_goals first|exact trivial|rfl|exact ⟨rfl,rfl⟩
  | true=>
   rw [hB] at hT
   cases hpb:gC s with
   | false=>
    rw [hpb] at hSp
    refine U iE [] 3791 [] fun w hP hQ=>?_
    unfold fT
    refine N ?_
    refine K (hSp) ?_
    refine K (hT) ?_
    (first|refine cI hP (hC) rfl rfl ?_|refine cH hP (hC) rfl rfl ?_)
    refine N ?_
    all_goals first|exact trivial|rfl|exact ⟨rfl,rfl⟩
   | true=>
    have hi:inR n 0 100=false:=by cases e:inR n 0 100 <;> simp_all
    rw [hpb] at hSp
    rw [hi] at hI
    refine U iE [] 3791 [] fun w hP hQ=>?_
    unfold fT
    refine N ?_
    refine K (hSp) ?_
    refine K (hT) ?_
    refine K (hI) ?_
    (first|refine cI hP (hC) rfl rfl ?_|refine cH hP (hC) rfl rfl ?_)
    refine N ?_
    all_goals first|exact trivial|rfl|exact ⟨rfl,rfl⟩
theorem aoN (l:List Attr) (e:Attr):l.map Attr.row++[[TV.str e.name,TV.str e.val]]=(l.take l.length++e::l.drop l.length).map Attr.row:=by simp [Attr.row]
theorem akN (L:List Attr) (k:Nat) (x:Attr):(L.map Attr.row).modify k (fun r=>TV.str x.name::TV.str x.val::r.drop 2)=(L.set k x).map Attr.row:=qO Attr.row L k x _ fun _ _=>rfl
theorem agO {l:List Attr} {k:Nat} {h:Attr} (hk:k<l.length):(((l.take (k+1)++h::l.drop (k+1))).map Attr.row)[k]?=some (Attr.row l[k]):=by rw [lJ1,ac8 hk]; rfl
theorem akO (l:List Attr) (e:Attr) (hu:UpK Attr.name l) (hl:l.length<2^30):aZ Tryz.prog 224 [.ext 2 (l.map Attr.row),e.x] (.own 2 ((agn l e).map Attr.row)) [.undef,.undef]:=by
 have hb1:l.length*32≤140737488355328:=by omega
 have hb2:(l.length+1)*32≤140737488355328:=by omega
 refine U ahP [] 123 [] fun w hP hQ=>?_
 unfold zO
 refine N ?_
 simp +decide (maxSteps:=9^9) (disch:=omega) only[↓SB0,SX,seval,hQ,afd,hb1,hb2,lU,bC]
 rw [aoN]
 refine eJ [] ?_
 refine N ?_
 refine aR [] (fun s:Nat × Attr=>[(5,.own 2 ((l.take s.1++s.2::l.drop s.1).map Attr.row)),(6,.int .i64 (s.1:Nat))]) (fun s=>s.1≤l.length∧∀ j,s.1≤j→(h:j<l.length)→e.name<l[j].name) (fun s=>s.1) ((l.length,e)) hP hQ (rfl) (by simp; omega) ?_
 rintro ⟨k,x⟩ ⟨hk,hj⟩ w1 hP1 hQ1
 refine N1 ?_
 simp only at hk hj
 have hlen:=ac7 (h:=x) hk
 cases k with
 | zero=>
  have hz:=hlen
  refine Nz1 ?_
  rw [agn,sB hu hk hj (.inl rfl)]
  simp [Attr.row]
 | succ k=>
  have hkl:k<l.length:=by omega
  have w4:decide ((0:Int)<((k+1:Nat):Int))=true:=lE (by omega)
  simp +decide (maxSteps:=9^9) (disch:=omega) only[↓SB0,SX,seval,hQ,hQ1,w4,hlen,bC,agO (h:=x) hkl,Attr.row,afj,akI]
  (first | with_reducible refine cN _ ?_ ?_ | refine cO _ ?_ ?_) <;> intro g
  ·simp +decide (maxSteps:=9^9) (disch:=omega) only[↓SB0,SX,seval,hQ,hQ1,hlen,bC,agO (h:=x) hkl,Attr.row]
   exact ⟨(k,l[k]),by simp only [akN,sC _ _ hk,aag hkl],⟨by simp only; omega,fun j hj1 hj2=>by
    by_cases e:j=k
    ·subst e; exact g
    ·exact hj j (by simp only at hj1; omega) hj2⟩,by simp only; omega⟩
  ·simp +decide (maxSteps:=9^9) (disch:=omega) only[↓SB0,SX,seval,hQ,hQ1,hlen]
   rw [agn,sB hu hk hj (.inr ⟨by simpa using hkl,by simpa using g⟩),akN,sC _ _ hk]
theorem akP {l:List Attr} {i:Nat} (h:i<l.length) (n:aA):rY (l.take (i+1)) n=rY (l.take i) n++(if l[i].name=n then [] else [l[i]]):=by
 unfold rY agj
 rw [lR h,lN3]
 congr 1
 by_cases e:l[i].name=n <;> simp [e]
theorem aoO (X:Inode) (n:aA):(uH X (rY X.attrs n)).sz≤X.sz:=by
 show X.data.length+szM Ent.sz X.ents+szM Attr.sz (rY X.attrs n)≤X.data.length+szM Ent.sz X.ents+szM Attr.sz X.attrs
 have h1:(rY X.attrs n).length≤X.attrs.length:=lQ2 _ _
 have h2:=z8 Attr.sz (fun a:Attr=>decide (a.name≠n)) X.attrs
 have h3:((rY X.attrs n).map Attr.sz).sum≤(X.attrs.map Attr.sz).sum:=h2
 simp only [szM]; omega
theorem aoP (l:List Attr) (e:Attr):szM Attr.sz (agn l e)≤szM Attr.sz l+(e.name.length+e.val.length)+1:=by
 have h1:(agn l e).length=l.length+1:=pC l e
 have h2:((agn l e).map Attr.sz).sum=(l.map Attr.sz).sum+(e.name.length+e.val.length):=by
  unfold agn
  clear h1
  induction l with
  | nil=>simp [xA,Attr.sz]
  | cons f l ih=>
   rw [xA]
   split
   ·simp only [lO,lC2,Attr.sz]; omega
   ·simp only [lO,lC2,ih]; omega
 simp only [szM]; omega
theorem aaq (t:Tab) (s n v:aA) (h:t.sz<2^28) (hs:s.length<2^40) (hn:n.length<2^30) (hv:v.length<2^40):aZ Tryz.prog 175 [t.x,.str s,.str n,.str v] (.tup [(oQ t s n v).1.o,.int .i64 (oQ t s n v).2]) [.undef,.undef,.undef,.undef]:=by
 have h':t.sz<2^40:=by omega
 have hC:=fH t h'
 have hT:=gD t h'
 have hSp:=dO s hs
 have hI:=dJ n (by omega)
 rw [show (aC s).2=gC s from rfl] at hSp
 by_cases hc:bA t=true∧gC s=true∧aY n=true∧v.length≤16
 ·obtain ⟨hB,hpb,hi,hv2⟩:=hc
  have hv':decide ((16:Int)<(v.length:Nat))=false:=lB (by omega)
  rw [hB] at hT
  rw [hpb] at hSp
  rw [hi] at hI
  have hF:=tN t s h' hs
  cases hX:cM t s with
  | error c=>
   have hc:decide (c=0)=false:=lB (iM hX)
   have e:oQ t s n v=(t,c):=by rw [oQ,lF ⟨hB,hpb,hi,hv2⟩,hX]
   rw [hX] at hF
   rw [e]
   simp only [exI,exC] at hF
   refine U gQ [] 64287 [] fun w hP hQ=>?_
   unfold fM
   refine N ?_
   refine K (hSp) ?_
   refine K (hT) ?_
   have hz:=hv'
   refine Kz (hI) ?_
   have hz:=hc
   refine Kz (hF) ?_
   (first|refine cI hP (hC) rfl rfl ?_|refine cH hP (hC) rfl rfl ?_)
   refine N ?_
   all_goals first|exact trivial|rfl|exact ⟨rfl,rfl⟩
  | ok X=>
   have e0:oQ t s n v=if v=[] then (aH t (uH X (rY X.attrs n)),0) else if (rY X.attrs n).length<4 then (aH t (uH X (agn (rY X.attrs n) ⟨n,v⟩)),0) else (t,5):=by rw [oQ,lF ⟨hB,hpb,hi,hv2⟩,hX]
   have ht:=(aP t).1 hB
   obtain ⟨kX,hkX⟩:=oW (aS hX).2
   have zX:=(cZ h).2 X (aS hX).1
   have za:X.attrs.length<2^28:=by rw [Inode.sz,szM,szM] at zX; omega
   have z1:=aoO X n
   have zc:(rY X.attrs n).length≤X.attrs.length:=lQ2 _ _
   have uX:=(ht.tab.ok X (aS hX).1).1.attrs.up
   rw [hX] at hF
   rw [e0]
   simp only [exI,exC] at hF
   have z2:(uH X (agn (rY X.attrs n) ⟨n,v⟩)).sz<2^40:=by
    have:=aoP (rY X.attrs n) ⟨n,v⟩
    simp only at this
    have e1:(uH X (rY X.attrs n)).sz=X.data.length+szM Ent.sz X.ents+szM Attr.sz (rY X.attrs n):=rfl
    show X.data.length+szM Ent.sz X.ents+szM Attr.sz (agn (rY X.attrs n) ⟨n,v⟩)<_
    omega
   have hS1:=bP t (uH X (rY X.attrs n)) h' (by omega) (g6 hB) hkX
   have hS2:=bP t (uH X (agn (rY X.attrs n) ⟨n,v⟩)) h' z2 (g6 hB) hkX
   have hA:=akO (rY X.attrs n) ⟨n,v⟩ (qJ uX n) (by omega)
   refine U gQ [] 64287 [] fun w hP hQ=>?_
   unfold fM
   refine N ?_
   refine K (hSp) ?_
   refine K (hT) ?_
   have hz:=hv'
   refine Kz (hI) ?_
   refine K (hF) ?_
   refine eJ [] ?_
   refine N ?_
   refine aR [] (fun i:Nat=>[(14,.own 2 ((rY (X.attrs.take i) n).map Attr.row)),(15,.int .i64 i)]) (fun i=>i≤X.attrs.length) (fun i=>X.attrs.length-i) (0) hP hQ (rfl) (by simp) ?_
   rintro i hi2 w1 hP1 hQ1
   refine N1 ?_
   have hc:(rY (X.attrs.take i) n).length≤X.attrs.length:=lJ4 (lQ2 _ _) (by simp; omega)
   (first | with_reducible refine cN _ ?_ ?_ | refine cO _ ?_ ?_) <;> intro g
   ·have ht:=akP (l:=X.attrs) (i:=i) (by omega) n
    have hz:=(bF g)
    refine Nz1 ?_
    (first | with_reducible refine cN _ ?_ ?_ | refine cO _ ?_ ?_) <;> intro e
    ·rw [lF e,lR2] at ht
     refine N1 ?_
     exact ⟨i+1,by rw [ht]; rfl,by omega,by omega⟩
    ·rw [lI e] at ht
     have hb:((rY (X.attrs.take i) n).length+1)*32≤140737488355328:=by omega
     have hz:=And.intro (bF g) hb
     refine Nz1 ?_
     exact ⟨i+1,by rw [ht,lF2]; rfl,by omega,by omega⟩
   ·obtain rfl:i=X.attrs.length:=by omega
    rw [lX1]
    by_cases g1:v=[]
    ·rw [lF g1] at hQ
     subst g1
     refine N1 ?_
     (first|refine cI hP (hS1) rfl rfl ?_|refine cH hP (hS1) rfl rfl ?_)
     refine N ?_
     all_goals first|exact trivial|rfl|exact ⟨rfl,rfl⟩
    ·have g1':decide (v=[])=false:=lB g1
     rw [lI g1] at hQ
     by_cases g2:(rY X.attrs n).length<4
     ·have g2':decide ((4:Int)≤((rY X.attrs n).length:Nat))=false:=lB (by omega)
      rw [lF g2] at hQ
      have hz:=And.intro g1' g2'
      refine Nz1 ?_
      refine K (hA) ?_
      (first|refine cI hP (hS2) rfl rfl ?_|refine cH hP (hS2) rfl rfl ?_)
      refine N ?_
      all_goals first|exact trivial|rfl|exact ⟨rfl,rfl⟩
     ·have g2':decide ((4:Int)≤((rY X.attrs n).length:Nat))=true:=lE (by omega)
      rw [lI g2] at hQ
      have hz:=And.intro g1' g2'
      refine Nz1 ?_
      (first|refine cI hP (hC) rfl rfl ?_|refine cH hP (hC) rfl rfl ?_)
      refine N ?_
      all_goals first|exact trivial|rfl|exact ⟨rfl,rfl⟩
 ·have e:oQ t s n v=(t,1):=by rw [oQ,lI hc]
  rw [e]
  cases hB:bA t with
  | false=>
   rw [hB] at hT
   refine U gQ [] 64287 [] fun w hP hQ=>?_
   unfold fM
   refine N ?_
   refine K (hSp) ?_
   refine K (hT) ?_
   (first|refine cI hP (hC) rfl rfl ?_|refine cH hP (hC) rfl rfl ?_)
   refine N ?_
   all_goals first|exact trivial|rfl|exact ⟨rfl,rfl⟩
  | true=>
   rw [hB] at hT
   cases hpb:gC s with
   | false=>
    rw [hpb] at hSp
    refine U gQ [] 64287 [] fun w hP hQ=>?_
    unfold fM
    refine N ?_
    refine K (hSp) ?_
    refine K (hT) ?_
    (first|refine cI hP (hC) rfl rfl ?_|refine cH hP (hC) rfl rfl ?_)
    refine N ?_
    all_goals first|exact trivial|rfl|exact ⟨rfl,rfl⟩
   | true=>
    rw [hpb] at hSp
    cases hi:aY n with
    | false=>
     rw [hi] at hI
     refine U gQ [] 64287 [] fun w hP hQ=>?_
     unfold fM
     refine N ?_
     refine K (hSp) ?_
     refine K (hT) ?_
     refine K (hI) ?_
     (first|refine cI hP (hC) rfl rfl ?_|refine cH hP (hC) rfl rfl ?_)
     refine N ?_
     all_goals first|exact trivial|rfl|exact ⟨rfl,rfl⟩
    | true=>
     have hv':decide ((16:Int)<(v.length:Nat))=true:=lE (by
      by_cases e:v.length≤16
      ·exact absurd ⟨hB,hpb,hi,e⟩ hc
      ·omega)
     rw [hi] at hI
     refine U gQ [] 64287 [] fun w hP hQ=>?_
     unfold fM
     refine N ?_
     refine K (hSp) ?_
     refine K (hT) ?_
     have hz:=hv'
     refine Kz (hI) ?_
     (first|refine cI hP (hC) rfl rfl ?_|refine cH hP (hC) rfl rfl ?_)
     refine N ?_
     all_goals first|exact trivial|rfl|exact ⟨rfl,rfl⟩
theorem akQ (P:aA) (y:UInt8) (k:Nat):((aM P).modify k fun x=>TV.int .u8 ((y.toNat:Nat):Int)::List.drop 1 x)=aM (P.set k y):=by
 simp only [aM]
 rw [qO (fun b:UInt8=>[TV.int .u8 (b.toNat:Nat)]) P k y _ fun _ _=>rfl]
def wr (b:aA) (o:Nat) (d:aA) (i:Nat):aA:=b.take o++d.take i++b.drop (o+i)
theorem ang {b d:aA} {o i:Nat} (h:o+d.length≤b.length) (hi:i≤d.length):(wr b o d i).length=b.length:=by
 unfold wr; simp; omega
theorem aoQ (b d:aA) (o:Nat):wr b o d 0=b:=by unfold wr; simp
theorem aoR {b d:aA} {o i:Nat} (h:o+d.length≤b.length) (hi:i<d.length):(wr b o d i).set (o+i) d[i]=wr b o d (i+1):=by
 have hA:(b.take o++d.take i).length=o+i:=by simp; omega
 unfold wr
 rw [lL2 (show o+i<b.length by omega),List.set_append_right _ _ (by omega),hA,Nat.sub_self,List.set_cons_zero,lR hi]
 simp only [lM2,lW1,lI1,Nat.add_assoc]
theorem anh (b d:aA) (o:Nat):wr (abL b (o+d.length)) o d d.length=akZ b o d:=by
 unfold wr akZ
 rw [lX1]
 congr 1
 unfold abL
 by_cases h:o+d.length≤b.length
 ·rw [show o+d.length-b.length=0 by omega]; simp
 ·rw [lH3 (by simp; omega),lH3 (by omega)]
theorem afl (b:aA) (n:Nat):(abL b n).length=b.length+(n-b.length):=by rw [abL]; simp
theorem amI (b d:aA) (o:Nat):(akZ b o d).length≤b.length+o+d.length:=by
 rw [← anh,ang (by rw [afl]; omega) (lS1 _),afl]; omega
theorem jG (t:Tab) (s:aA) (n:Int) (d:aA) (h:t.sz<2^30) (hs:s.length<2^40) (hd:d.length<2^40):aZ Tryz.prog 172 [t.x,.str s,.int .i64 n,.ext 1 (aM d)] (.tup [(gU t s n d).1.o,.int .i64 (gU t s n d).2]) [.undef,.undef,.undef,.undef]:=by
 have h':t.sz<2^40:=by omega
 have hC:=fH t h'
 have hT:=gD t h'
 have hSp:=dO s hs
 have hI:=akM n 0 100
 rw [show (aC s).2=gC s from rfl] at hSp
 by_cases hc:bA t=true∧gC s=true∧inR n 0 100=true
 ·obtain ⟨hB,hpb,hi⟩:=hc
  rw [hB] at hT
  rw [hpb] at hSp
  rw [hi] at hI
  obtain ⟨n1,n2⟩:=apW hi
  obtain ⟨k,rfl⟩:=Int.eq_ofNat_of_zero_le n1
  have hF:=sG t s h' hs
  cases hX:nC t s with
  | error c=>
   have hc:decide (c=0)=false:=lB (u5 hX)
   have e:gU t s (k:Nat) d=(t,c):=by rw [gU,lF ⟨hB,hpb,hi⟩,hX]
   rw [hX] at hF
   rw [e]
   simp only [exI,exC] at hF
   refine U gP [] 31519 [] fun w hP hQ=>?_
   unfold fL
   refine N ?_
   refine K (hSp) ?_
   refine K (hT) ?_
   refine K (hI) ?_
   have hz:=hc
   refine Kz (hF) ?_
   (first|refine cI hP (hC) rfl rfl ?_|refine cH hP (hC) rfl rfl ?_)
   refine N ?_
   all_goals first|exact trivial|rfl|exact ⟨rfl,rfl⟩
  | ok X=>
   have e0:gU t s (k:Nat) d=if ((k:Nat):Int)+(d.length:Nat)≤100 then (aH t (xG X (akZ X.data k d)),0) else (t,5):=by rw [gU,lF ⟨hB,hpb,hi⟩,hX]; rfl
   rw [hX] at hF
   rw [e0]
   simp only [exI,exC] at hF
   by_cases g0:((k:Nat):Int)+(d.length:Nat)≤100
   ·have g0':decide ((100:Int)-(k:Nat)<(d.length:Nat))=false:=lB (by omega)
    rw [lF g0]
    obtain ⟨kX,hkX⟩:=oW (aS (dI hX).1).2
    have zX:=(cZ h).2 X (aS (dI hX).1).1
    have zd:X.data.length<2^30:=by rw [Inode.sz] at zX; omega
    have zp:=amI X.data d k
    have zD:(xG X (akZ X.data k d)).sz<2^40:=by
     show (akZ X.data k d).length+szM Ent.sz X.ents+szM Attr.sz X.attrs<_
     rw [Inode.sz] at zX
     omega
    have hS:=bP t (xG X (akZ X.data k d)) h' zD (g6 hB) hkX
    refine U gP [] 31519 [] fun w hP hQ=>?_
    unfold fL
    refine N ?_
    refine K (hSp) ?_
    refine K (hT) ?_
    refine K (hI) ?_
    have hz:=g0'
    refine Kz (hF) ?_
    refine eJ [] ?_
    refine N ?_
    refine aR [] (fun i:Nat=>[(5012,.box [.int .i64 X.ino,.int .i64 X.kind,.int .i64 X.links,.own 1 (aM (X.data++List.replicate i 0)),.own 2 (X.ents.map Ent.row),.own 2 (X.attrs.map Attr.row)])]) (fun i=>i≤k+d.length-X.data.length) (fun i=>k+d.length-X.data.length-i) (0) hP hQ (by simp; rfl) (by simp) ?_
    rintro i hi2 w1 hP1 hQ1
    refine N1 ?_
    have hb:X.data.length+i+1≤140737488355328:=by omega
    (first | with_reducible refine cN _ ?_ ?_ | refine cO _ ?_ ?_) <;> intro g
    ·rw [lU,lP2] at g
     simp +decide (maxSteps:=9^9) (disch:=omega) only[↓SB0,SX,seval,hQ,hQ1,hb,kZ,lU,lP2]
     exact ⟨i+1,by rw [ads],by omega,by omega⟩
    ·rw [lU,lP2] at g
     rw [anf (n:=k+d.length) (i:=i) hi2 (by omega)]
     have hpl:=afl X.data (k+d.length)
     have hpk:k+d.length≤(abL X.data (k+d.length)).length:=by omega
     refine N1 ?_
     refine eJ [] ?_
     refine N ?_
     refine aR [] (fun i:Nat=>[(5012,.box [.int .i64 X.ino,.int .i64 X.kind,.int .i64 X.links,.own 1 (aM (wr (abL X.data (k+d.length)) k d i)),.own 2 (X.ents.map Ent.row),.own 2 (X.attrs.map Attr.row)]),(14,.int .i64 i)]) (fun i=>i≤d.length) (fun i=>d.length-i) (0) hP hQ (by rw [aoQ]; rfl) (by simp) ?_
     rintro i hi3 w1 hP1 hQ1
     refine N1 ?_
     have hwl:=ang hpk hi3
     (first | with_reducible refine cN _ ?_ ?_ | refine cO _ ?_ ?_) <;> intro g
     ·have hlt:i<d.length:=by omega
      have hz:((k:Nat)+(i:Nat):Int).toNat=k+i:=by omega
      have hz:=And.intro (bF g) (And.intro kZ (And.intro hwl (And.intro vX (And.intro akQ (And.intro hz (aoR hpk hlt))))))
      refine Nz1 ?_
      exact ⟨i+1,rfl,by omega,by omega⟩
     ·obtain rfl:i=d.length:=by omega
      rw [anh]
      refine N1 ?_
      (first|refine cI hP (hS) rfl rfl ?_|refine cH hP (hS) rfl rfl ?_)
      refine N ?_
      all_goals first|exact trivial|rfl|exact ⟨rfl,rfl⟩
   ·have g0':decide ((100:Int)-(k:Nat)<(d.length:Nat))=true:=lE (by omega)
    rw [lI g0]
    refine U gP [] 31519 [] fun w hP hQ=>?_
    unfold fL
    refine N ?_
    refine K (hSp) ?_
    refine K (hT) ?_
    refine K (hI) ?_
    have hz:=g0'
    refine Kz (hF) ?_
    (first|refine cI hP (hC) rfl rfl ?_|refine cH hP (hC) rfl rfl ?_)
    refine N ?_
    all_goals first|exact trivial|rfl|exact ⟨rfl,rfl⟩
 ·have e:gU t s n d=(t,1):=by rw [gU,lI hc]
  rw [e]
  cases hB:bA t with
  | false=>
   rw [hB] at hT
   refine U gP [] 31519 [] fun w hP hQ=>?_
   unfold fL
   refine N ?_
   refine K (hSp) ?_
   refine K (hT) ?_
   (first|refine cI hP (hC) rfl rfl ?_|refine cH hP (hC) rfl rfl ?_)
   refine N ?_
   all_goals first|exact trivial|rfl|exact ⟨rfl,rfl⟩
  | true=>
   rw [hB] at hT
   cases hpb:gC s with
   | false=>
    rw [hpb] at hSp
    refine U gP [] 31519 [] fun w hP hQ=>?_
    unfold fL
    refine N ?_
    refine K (hSp) ?_
    refine K (hT) ?_
    (first|refine cI hP (hC) rfl rfl ?_|refine cH hP (hC) rfl rfl ?_)
    refine N ?_
    all_goals first|exact trivial|rfl|exact ⟨rfl,rfl⟩
   | true=>
    have hi:inR n 0 100=false:=by cases e:inR n 0 100 <;> simp_all
    rw [hpb] at hSp
    rw [hi] at hI
    refine U gP [] 31519 [] fun w hP hQ=>?_
    unfold fL
    refine N ?_
    refine K (hSp) ?_
    refine K (hT) ?_
    refine K (hI) ?_
    (first|refine cI hP (hC) rfl rfl ?_|refine cH hP (hC) rfl rfl ?_)
    refine N ?_
    all_goals first|exact trivial|rfl|exact ⟨rfl,rfl⟩
theorem adt (t:Tab) (s:aA) (h:t.sz<2^30) (hs:s.length<2^40):aZ Tryz.prog 17 [t.x,.str s] (.tup [(bB t s).1.o,.int .i64 (bB t s).2]) [.undef,.undef]:=by
 have h':t.sz<2^40:=by omega
 have hC:=tO t h'
 have hR:=amy t [s] h' (by simp) (by simpa using hs)
 have hS:=aoD s
 simp only [lK4,List.all_nil,Bool.and_true,lO,lR1,cP] at hR
 by_cases hc:bA t=true∧jD s=true
 ·obtain ⟨hB,hsb⟩:=hc
  rw [hsb] at hS
  have hp:gC s=true:=by cases e:gC s <;> simp_all
  have hne:decide (s=[47])=false:=by cases e:decide (s=[47]) <;> simp_all
  rw [hp,hB] at hR
  have hF:=afh t s h' hs
  cases hX:cM t s with
  | error c=>
   have hc:decide (c=0)=false:=lB (iM hX)
   have e:bB t s=(t,c):=by rw [bB,lF ⟨hB,hsb⟩,hX]
   rw [hX] at hF
   rw [e]
   simp only [exI,exC] at hF
   refine U eU [] 503 [] fun w hP hQ=>?_
   unfold dT
   refine N ?_
   refine K (hC) ?_
   have hz:=hne
   refine Kz (hR) ?_
   (first|refine cI hP (hF) rfl rfl ?_|refine cH hP (hF) rfl rfl ?_)
   have hz:=hc
   refine Nz ?_
   all_goals first|exact trivial|rfl|exact ⟨rfl,rfl⟩
  | ok X=>
   have e0:bB t s=if X.kind=2 then (if X.ents=[] then (fC (aH t (bZ (exI (eQ t s)) (aQ s))) X.ino,0) else (t,6)) else (t,3):=by rw [bB,lF ⟨hB,hsb⟩,hX]
   rw [hX] at hF
   rw [e0]
   simp only [exI,exC] at hF
   by_cases g1:X.kind=2
   ·have g1':decide (X.kind=2)=true:=lE g1
    rw [lF g1]
    by_cases g2:X.ents=[]
    ·have g2':decide ((0:Int)<(X.ents.length:Nat))=false:=lB (by rw [g2]; simp)
     obtain ⟨D,d1⟩:=abn hB hsb hX
     rw [lF g2,d1]
     simp only [exI]
     have zD:=(aS (gY d1).1).2
     obtain ⟨kD,d3⟩:=oW zD
     have zt:(aH t (bZ D (aQ s))).sz<2^40:=by
      have:=mK t (bZ D (aQ s))
      have:=qP D (aQ s)
      have:=(cZ h).2 D (aK zD).1
      omega
     have hSp:=akF t s h' hs
     have hL:=amE t D (aQ s) h' (sF h' zD) (g6 hB) d3
     have hD:=adp (aH t (bZ D (aQ s))) X.ino zt
     rw [d1] at hSp
     simp only [exC,exI,exN] at hSp
     unfold apT at hSp
     unfold aoB at hL
     refine U eU [] 503 [] fun w hP hQ=>?_
     unfold dT
     refine N ?_
     refine K (hC) ?_
     have hz:=hne
     refine Kz (hR) ?_
     have hz:=And.intro g1' g2'
     refine Kz (hF) ?_
     refine K (hSp) ?_
     refine K (hL) ?_
     (first|refine cI hP (hD) rfl rfl ?_|refine cH hP (hD) rfl rfl ?_)
     refine N ?_
     all_goals first|exact trivial|rfl|exact ⟨rfl,rfl⟩
    ·have g2':decide ((0:Int)<(X.ents.length:Nat))=true:=lE (by have:=lX2.2 g2; omega)
     rw [lI g2]
     refine U eU [] 503 [] fun w hP hQ=>?_
     unfold dT
     refine N ?_
     refine K (hC) ?_
     have hz:=hne
     refine Kz (hR) ?_
     (first|refine cI hP (hF) rfl rfl ?_|refine cH hP (hF) rfl rfl ?_)
     have hz:=And.intro g1' g2'
     refine Nz ?_
     all_goals first|exact trivial|rfl|exact ⟨rfl,rfl⟩
   ·have g1':decide (X.kind=2)=false:=lB g1
    rw [lI g1]
    refine U eU [] 503 [] fun w hP hQ=>?_
    unfold dT
    refine N ?_
    refine K (hC) ?_
    have hz:=hne
    refine Kz (hR) ?_
    (first|refine cI hP (hF) rfl rfl ?_|refine cH hP (hF) rfl rfl ?_)
    have hz:=g1'
    refine Nz ?_
    all_goals first|exact trivial|rfl|exact ⟨rfl,rfl⟩
 ·have e:bB t s=(t,1):=by rw [bB,lI hc]
  rw [e]
  cases hp:(gC s && bA t) with
  | false=>
   rw [hp] at hR
   refine U eU [] 503 [] fun w hP hQ=>?_
   unfold dT
   refine N ?_
   refine K (hC) ?_
   (first|refine cI hP (hR) rfl rfl ?_|refine cH hP (hR) rfl rfl ?_)
   refine N ?_
   all_goals first|exact trivial|rfl|exact ⟨rfl,rfl⟩
  | true=>
   have hne:decide (s=[47])=true:=by
    cases e:decide (s=[47]) with
    | true=>rfl
    | false=>
     simp only [lP] at hp
     rw [hp.1,e] at hS
     exact absurd ⟨hp.2,hS⟩ hc
   rw [hp] at hR
   refine U eU [] 503 [] fun w hP hQ=>?_
   unfold dT
   refine N ?_
   refine K (hC) ?_
   (first|refine cI hP (hR) rfl rfl ?_|refine cH hP (hR) rfl rfl ?_)
   have hz:=hne
   refine Nz ?_
   all_goals first|exact trivial|rfl|exact ⟨rfl,rfl⟩
theorem aoS (t:Tab) (s:aA) (h:t.sz<2^40) (hs:s.length<2^40):aZ Tryz.prog 31 [t.x,.str s] (.tup [.own 1 ((exL (ah5 t s)).map cP),.int .i64 (exC (ah5 t s))]) [.undef,.undef]:=by
 have hF:=afh t s h hs
 unfold ah5
 cases hX:cM t s with
 | error c=>
  have hc:decide (c=0)=false:=lB (iM hX)
  rw [hX] at hF
  simp only [exI,exC,exL] at hF ⊢
  refine U aaX [] 234882551 [] fun w hP hQ=>?_
  unfold uU
  refine N ?_
  (first|refine cI hP (hF) rfl rfl ?_|refine cH hP (hF) rfl rfl ?_)
  simp +decide (maxSteps:=9^9) (disch:=omega) only[↓SB0,SX,seval,hQ,hc]
  all_goals first | rfl | exact ⟨rfl,rfl⟩
 | ok X=>
  rw [hX] at hF
  simp only [exI,exC] at hF
  have zX:=sF h (aS hX).2
  have ze:=(cW zX).2.1
  by_cases g1:X.kind=2
  ·have g1':decide (X.kind=2)=true:=lE g1
   simp only [lF g1,exL,exC]
   refine U aaX [] 234882551 [] fun w hP hQ=>?_
   unfold uU
   refine N ?_
   have hz:=g1'
   refine Kz (hF) ?_
   refine eJ [10,5010] ?_
   refine N ?_
   refine aR [10,5010] (fun i:Nat=>[(8,.own 1 (((X.ents.take i).map Ent.name).map cP)),(27,.int .i64 i)]) (fun i=>i≤X.ents.length) (fun i=>X.ents.length-i) (0) hP hQ (rfl) (by simp) ?_
   rintro i hi w1 hP1 hQ1
   refine N1 ?_
   (first | with_reducible refine cN _ ?_ ?_ | refine cO _ ?_ ?_) <;> intro g
   ·have hlt:i<X.ents.length:=by omega
    have hb:((X.ents.take i).length+1)*16≤140737488355328:=by rw [lT]; omega
    have hz:=And.intro (bF g) hb
    refine Nz1 ?_
    exact ⟨i+1,by rw [lR hlt,lF2,lF2]; rfl,by omega,by omega⟩
   ·obtain rfl:i=X.ents.length:=by omega
    simp +decide (maxSteps:=9^9) (disch:=omega) only[↓SB0,SX,seval,hQ,hQ1,lX1]
    all_goals first | rfl | exact ⟨rfl,rfl⟩
  ·have g1':decide (X.kind=2)=false:=lB g1
   simp only [lI g1,exL,exC]
   refine U aaX [] 234882551 [] fun w hP hQ=>?_
   unfold uU
   refine N ?_
   (first|refine cI hP (hF) rfl rfl ?_|refine cH hP (hF) rfl rfl ?_)
   simp +decide (maxSteps:=9^9) (disch:=omega) only[↓SB0,SX,seval,hQ,g1']
   all_goals first | rfl | exact ⟨rfl,rfl⟩

section
variable {t:Tab}
theorem akR {s:aA} (h:(aC s).2=true) (hne:(aC s).1≠[]):c6 (aC s).1=s:=by
 obtain ⟨h1,h2⟩:=m8 h
 rw [bX,lF h1,lI hne] at h2
 exact h2
theorem aoT {s:aA} (h:(bB t s).2=0):exL (ah5 t s)=[]∧(c7 (bB t s).1).length+1=(c7 t).length∧s ∉ c7 (bB t s).1∧bA t=true∧bA (bB t s).1=true∧(bB t s).1.inodes.length+1=t.inodes.length:=by
 by_cases hc:bA t=true∧jD s=true
 case neg=>rw [bB,lI hc] at h; exact absurd h (by simp)
 obtain ⟨hB,hs⟩:=hc
 have ht:=(aP t).1 hB
 cases hX:cM t s with
 | error c=>rw [bB,lF ⟨hB,hs⟩,hX] at h; exact absurd h (iM hX)
 | ok X=>
  by_cases hk:X.kind=2
  case neg=>rw [bB,lF ⟨hB,hs⟩,hX] at h; simp only [lI hk] at h; exact absurd h (by decide)
  by_cases hE:X.ents=[]
  case neg=>rw [bB,lF ⟨hB,hs⟩,hX] at h; simp only [lF hk,lI hE] at h; exact absurd h (by decide)
  obtain ⟨D,d1,d2,d3,hu,hw,hi⟩:=xI ht hs hX hE
  obtain ⟨s1,s2⟩:=rZ hs
  have e:(bB t s).1=bT t D (aQ s) X:=by
   rw [bB,lF ⟨hB,hs⟩,hX]
   simp only [lF hk,lF hE]
   rw [d1]
   exact abf ht hs hX hk D (aQ s)
  have e1:bT t D (aQ s) X=fC (aH t (bZ D (aQ s))) X.ino:=(abf ht hs hX hk D (aQ s)).symm
  obtain ⟨p1,p2,p3⟩:=aeZ ht hu (p:=(aC s).1) s2 (by rw [(r7 hX).2]; rfl) hw
  rw [akR s1 s2] at p3
  refine ⟨by rw [ah5,hX]; simp only [lF hk,hE]; rfl,by rw [e]; exact p2,by rw [e]; exact p3,hB,by rw [e]; exact (aP _).2 hu,?_⟩
  rw [e,e1]
  have hl:=kI ht.tab.up (bZ D (aQ s))
  have hD:=(aS (gY d1).1).2
  have hup:=gA ht.tab.up (bZ D (aQ s))
  have h1:=agi (fun _=>1) hup X.ino
  have hXs:aD (aH t (bZ D (aQ s))) X.ino=some X:=by
   rw [cE ht.tab.up]
   have:(bZ D (aQ s)).ino≠X.ino:=by
    intro e2
    have h3:D.ino=X.ino:=e2
    rw [h3,(aS hX).2] at hD
    injection hD with hD
    obtain ⟨D',q1,q2,x,q3,q4,q5⟩:=tH ht hs hX
    rw [d1] at q1
    injection q1 with q1
    subst q1
    rw [← hD,hE] at q3
    exact absurd q3 (by simp)
   rw [lI this]; exact (aS hX).2
  have hd:(t.inodes.find? fun y=>decide (y.ino=(bZ D (aQ s)).ino))=some D:=hD
  rw [hd] at hl
  have hx:((aH t (bZ D (aQ s))).inodes.find? fun y=>decide (y.ino=X.ino))=some X:=hXs
  simp only [lH2,lF] at hl
  have hsum:∀ l:List Inode,(l.map fun _=>1).sum=l.length:=fun l=>by induction l <;> simp_all [Nat.add_comm]
  rw [hsum,hsum,hx] at h1
  show (fC (aH t (bZ D (aQ s))) X.ino).inodes.length+1=t.inodes.length
  have h2:(aH t (bZ D (aQ s))).inodes.length=(bR t.inodes (bZ D (aQ s))).length:=rfl
  simp only [lC,lY] at h1
  show ((aH t (bZ D (aQ s))).inodes.filter _).length+1=_
  omega
end
theorem ani {α:Type} [DecidableEq α]:∀ (l m:List α),l.Nodup→(∀ x ∈ l,x ∈ m)→l.length≤m.length
 | [],m,_,_=>lI3 _
 | a::l,m,hn,hs=>by
  obtain ⟨h1,h2⟩:=lZ4.1 hn
  have ha:=hs a List.mem_cons_self
  have:=ani l (m.erase a) h2 fun x hx=>(List.mem_erase_of_ne (fun e:x=a=>h1 (by rw [← e]; exact hx))).2 (hs x (List.mem_cons_of_mem _ hx))
  rw [List.length_erase_of_mem ha] at this
  have:=List.length_pos_of_mem ha
  simp only [lW]
  omega
theorem adu {α β:Type} (f:α→List β) (l:List α) (c:Nat) (h:∀ x ∈ l,(f x).length≤c):(l.flatMap f).length≤l.length*c:=by
 induction l with
 | nil=>simp
 | cons a l ih=>
  rw [List.flatMap_cons,lU,lW,lR3]
  have:=h a List.mem_cons_self
  have:=ih fun x hx=>h x (List.mem_cons_of_mem _ hx)
  omega
def akS (t:Tab):List (Int × aA):=t.inodes.flatMap fun D=>D.ents.map fun e=>(D.ino,e.name)
theorem aig {t:Tab} (h:TreeOk t):(akS t).length≤300:=by
 have:=adu (fun D:Inode=>D.ents.map fun e=>(D.ino,e.name)) t.inodes 10 fun D hD=>by
  rw [lB1]; exact (bO h hD).len
 have:=h.tab.len
 unfold akS
 omega
theorem oY {t:Tab} (h:TreeOk t) {x:Inode} (hx:x ∈ t.inodes) (k:Nat):(iT t k x).length≤300:=by
 let f:List aA→Int × aA:=fun l=>((aT (aD t) l.dropLast x.ino).getD 0,l.getLast?.getD [])
 obtain ⟨p,hp⟩:=gR h hx
 have key:∀ l ∈ iT t k x,∃ d n y e,l=d++[n]∧aT (aD t) (p++d) 1=some y.ino∧y ∈ t.inodes∧y.kind=2∧e ∈ y.ents∧e.name=n∧f l=(y.ino,n):=by
  intro l hl
  obtain ⟨h1,_,h3⟩:=(mF h k x hx l).1 hl
  obtain ⟨j,hj⟩:=lZ.1 h3
  rcases lZ2 l with rfl | ⟨d,n,rfl⟩
  ·exact absurd rfl h1
  rw [lA3] at *
  obtain ⟨q,y,e,w1,w2,w3,w4,w5,w6,w7,w8⟩:=mC h hj
  refine ⟨d,n,y,e,rfl,?_,w3,w5,w6,w7,?_⟩
  ·rw [cK,hp,w4]; exact w1
  ·show ((aT (aD t) (d++[n]).dropLast x.ino).getD 0,(d++[n]).getLast?.getD [])=_
   rw [List.dropLast_concat,w1,List.getLast?_concat,w4]; rfl
 have hn:((iT t k x).map f).Nodup:=by
  rw [List.Nodup,lT4]
  refine List.Pairwise.imp_of_mem ?_ (t6 h k x hx)
  intro a b ha hb hne he
  obtain ⟨d,n,y,e,rfl,a2,a3,a4,_,_,a7⟩:=key a ha
  obtain ⟨d',n',y',e',rfl,b2,b3,b4,_,_,b7⟩:=key b hb
  rw [a7,b7] at he
  injection he with e1 e2
  rw [← e1] at b2
  have:=qI h _ _ _ y (fV h a3) (oL h a3 a4) a2 b2
  exact hne (by rw [List.append_cancel_left this,e2])
 have hs:∀ z ∈ (iT t k x).map f,z ∈ akS t:=by
  intro z hz
  obtain ⟨l,hl,rfl⟩:=lZ1.1 hz
  obtain ⟨d,n,y,e,rfl,_,a3,_,a5,a6,a7⟩:=key l hl
  rw [a7]
  exact lE3.2 ⟨y,a3,lZ1.2 ⟨e,a5,by rw [a6]⟩⟩
 have:=ani _ _ hn hs
 rw [lB1] at this
 exact lJ4 this (aig h)
theorem afm {α β:Type} {f g:α→List β} {l:List α} (h:∀ x ∈ l,f x=g x):l.flatMap f=l.flatMap g:=by
 rw [List.flatMap_def,List.flatMap_def,List.map_congr_left h]
def gI (t:Tab):Nat→Inode→aA→List aA
 | 0,_,_=>[]
 | k+1,x,s=>x.ents.flatMap fun e=>(s++[47]++e.name)::gI t k ((aD t e.ino).getD zN) (s++[47]++e.name)
theorem mQ {t:Tab} (h:TreeOk t) (k:Nat):∀ (x:Inode),x ∈ t.inodes→∀ s,gI t k x s=(iT t k x).map fun l=>s++c6 l:=by
 induction k with
 | zero=>intro x _ s; rfl
 | succ k ih=>
  intro x hx s
  rw [gI,iT,List.map_flatMap]
  refine afm fun e he=>?_
  obtain ⟨y,hy⟩:=lZ.1 (h.there x hx e he)
  obtain ⟨y1,y2⟩:=aK hy
  rw [hy]
  simp only [lY,lC,lO,lW4]
  rw [ih y y1]
  congr 1
  ·simp [c6]
  ·refine List.map_congr_left fun l _=>?_
   simp [c6]
theorem sK {t:Tab} (h:TreeOk t) {r:Inode} (hr:aD t 1=some r):gI t 30 r []=mG t:=by
 rw [mQ h 30 r (aK hr).1,mG,hr]
 simp
theorem akT (l:List aA) (n:aA) (hl:l.length<2^48):aZ Tryz.prog 26 [.ext 1 (l.map cP),.str n] (.bool (decide (n ∈ l))) [.undef,.undef]:=by
 refine U aeB [] 51 [] fun w hP hQ=>?_
 unfold v7
 refine N ?_
 refine eJ [4] ?_
 refine N ?_
 refine aR [4] (fun i:Nat=>[(5,.int .i64 i)]) (fun i=>i≤l.length∧∀ k,k<i→(h:k<l.length)→decide (l[k]=n)=false) (fun i=>l.length-i) (0) hP hQ (rfl) (by simp) ?_
 rintro i ⟨hi,hk⟩ w1 hP1 hQ1
 refine N1 ?_
 (first | with_reducible refine cN _ ?_ ?_ | refine cO _ ?_ ?_) <;> intro h1
 ·simp +decide (maxSteps:=9^9) (disch:=omega) only[↓SB0,SX,seval,hQ,hQ1,bF h1,cP]
  (first | with_reducible refine cN _ ?_ ?_ | refine cO _ ?_ ?_) <;> intro h2
  ·refine N1 ?_
   rw [lE (by rw [← h2]; exact lN _)]
  ·refine N1 ?_
   exact ⟨i+1,rfl,⟨by omega,nD (p:=fun x:aA=>decide (x=n)) hk (by omega) (lB h2)⟩,by omega⟩
 ·obtain rfl:i=l.length:=by omega
  refine N1 ?_
  rw [lB (fun hm=>by
   obtain ⟨k,h,e⟩:=lN1 hm
   have:=hk k h h
   simp [e] at this)]
theorem amJ (l:List aA):iO (l.map cP)=true:=by
 rw [iO,lA1]
 intro r hr
 obtain ⟨x,_,rfl⟩:=lZ1.1 hr
 rfl
theorem iZ {α β:Type} (f:α→List β) (l:List α) (i:Nat):((l.take i).flatMap f).length≤(l.flatMap f).length:=by
 conv=>rhs; rw [← lK i l,List.flatMap_append,lU]
 omega
theorem sL {α β:Type} (f:α→List β) {l:List α} {i:Nat} (h:i<l.length):(l.take (i+1)).flatMap f=(l.take i).flatMap f++f l[i]:=by
 rw [lR h,List.flatMap_append]; simp
theorem abo (t:Tab) (hB:bA t=true) (h:t.sz<2^40) (k:Nat):∀ (x:Inode) (s:aA),x ∈ t.inodes→(∃ l,aT (aD t) l 1=some x.ino∧t.inodes.length≤l.length+k)→s.length+k*15<2^30 →
  aZ Tryz.prog 82 [t.x,x.x,.str s] (.own 1 ((gI t k x s).map cP)) [.undef,.undef,.undef]:=by
 have ht:=(aP t).1 hB
 induction k with
 | zero=>
  rintro x s hx ⟨l,hl,hle⟩
  have:=(jC ht hl).1
  omega
 | succ k ih=>
  rintro x s hx ⟨l,hl,hle⟩ hs
  have few:(gI t (k+1) x s).length≤300:=by rw [mQ ht _ x hx,lB1]; exact oY ht hx _
  rw [gI] at few ⊢
  generalize hf:(fun e:Ent=>(s++[47]++e.name)::gI t k ((aD t e.ino).getD zN) (s++[47]++e.name))=f at *
  have zx:=sF h (fV ht hx)
  have ze:=(cW zx).2.1
  refine U x8 [] 233183 [] fun w hP hQ=>?_
  unfold pO
  refine N ?_
  refine eJ [9,10,11,5009,5011] ?_
  refine N ?_
  refine aR [9,10,11,5009,5011] (fun i:Nat=>[(7,.own 1 (((x.ents.take i).flatMap f).map cP)),(17,.int .i64 i)]) (fun i=>i≤x.ents.length) (fun i=>x.ents.length-i) (0) hP hQ (rfl) (by simp) ?_
  rintro i hi w1 hP1 hQ1
  refine N1 ?_
  have fi:=iZ f x.ents i
  have fj:=iZ f x.ents (i+1)
  (first | with_reducible refine cN _ ?_ ?_ | refine cO _ ?_ ?_) <;> intro g
  ·have hlt:i<x.ents.length:=by omega
   have hm:x.ents[i] ∈ x.ents:=lN hlt
   have ek:=(bO ht hx).ok _ hm
   have nl:=jZ ek.1
   obtain ⟨y,hy⟩:=lZ.1 (ht.there x hx _ hm)
   obtain ⟨y1,y2⟩:=aK hy
   have kx:x.kind=2:=by
    apply Classical.byContradiction
    intro hk
    have h0:=(mB ht hx hk).1
    rw [h0] at hlt
    exact absurd hlt (by simp)
   have hA:=jE t x.ents[i].ino h
   rw [adc,hy] at hA
   simp only [lY,lH2] at hA
   have hw:aT (aD t) (l++[x.ents[i].name]) 1=some y.ino:=by
    rw [cK,hl]
    exact (f9 _ _ _ _).2 ⟨x,fV ht hx,kx,by rw [dY (bO ht hx).up hm,y2],by rw [y2]; omega⟩
   have hI:=ih y (s++[47]++x.ents[i].name) y1 ⟨_,hw,by simp; omega⟩ (by simp; omega)
   have ff:f x.ents[i]=(s++[47]++x.ents[i].name)::gI t k y (s++[47]++x.ents[i].name):=by rw [← hf]; simp only [hy]; rfl
   rw [sL f hlt,ff] at fj
   simp only [lU,lW] at fj
   have hb1:(((x.ents.take i).flatMap f).length+1)*16≤140737488355328:=by omega
   have hb2:(((x.ents.take i).flatMap f).length+1+(gI t k y (s++[47]++x.ents[i].name)).length)*16≤140737488355328:=by omega
   have hb3:(s++[47]).length+x.ents[i].name.length≤4611686018427387904:=by simp; omega
   have hb4:s.length+1≤4611686018427387904:=by omega
   have hz:=And.intro (bF g) (And.intro hb1 (And.intro hb3 hb4))
   refine Nz1 ?_
   refine K1 (hA) ?_
   (first|refine cI hP1 (hI) rfl rfl ?_|refine cH hP1 (hI) rfl rfl ?_)
   simp +decide (maxSteps:=9^9) (disch:=omega) only[↓SB0,SX,seval,hQ,hQ1,hb2,amJ,lU,lB1,List.length_singleton]
   exact ⟨i+1,by rw [sL f hlt,ff]; simp [cP],by omega,by omega⟩
  ·obtain rfl:i=x.ents.length:=by omega
   simp +decide (maxSteps:=9^9) (disch:=omega) only[↓SB0,SX,seval,hQ,hQ1,lX1]
   all_goals first | rfl | exact ⟨rfl,rfl⟩
section
open Go.Proofs Go.Shelf
def uM:Go.Shelf.Ren:=⟨fun | 190=>83 | 125=>145 | 258=>144 | 128=>196 | 129=>197 | 302=>187 | 303=>188 | 304=>189 | 305=>190 | 306=>191 | 307=>192 | 308=>193 | 309=>194 | 310=>195 | 333=>232 | 329=>233 | 330=>234 | 334=>235 | 335=>236 | 336=>237 | 344=>258 | n=>n,
 fun | 31=>37 | 9=>9 | 3=>3 | 46=>141 | 0=>0 | 51=>178 | 53=>180 | 4=>4 | 183=>171 | 182=>170 | 131=>175 | 5=>5 | 218=>200 | 222=>204 | 228=>233 | 229=>35 | n=>n,
 fun | n=>n⟩
theorem uB:Lays.n190 Tryz.prog uM where
 mixed:=by kernel_rfl
 f125:=Tryz.func145.trans (congrArg some (by kernel_rfl))
 f128:=Tryz.func196.trans (congrArg some (by kernel_rfl))
 f129:=Tryz.func197.trans (congrArg some (by kernel_rfl))
 f190:=Tryz.func83.trans (congrArg some (by kernel_rfl))
 f258:=Tryz.func144.trans (congrArg some (by kernel_rfl))
 f302:=Tryz.func187.trans (congrArg some (by kernel_rfl))
 f303:=Tryz.func188.trans (congrArg some (by kernel_rfl))
 f304:=Tryz.func189.trans (congrArg some (by kernel_rfl))
 f305:=Tryz.func190.trans (congrArg some (by kernel_rfl))
 f306:=Tryz.func191.trans (congrArg some (by kernel_rfl))
 f307:=Tryz.func192.trans (congrArg some (by kernel_rfl))
 f308:=Tryz.func193.trans (congrArg some (by kernel_rfl))
 f309:=Tryz.func194.trans (congrArg some (by kernel_rfl))
 f310:=Tryz.func195.trans (congrArg some (by kernel_rfl))
 f329:=Tryz.func233.trans (congrArg some (by kernel_rfl))
 f330:=Tryz.func234.trans (congrArg some (by kernel_rfl))
 f333:=Tryz.func232.trans (congrArg some (by kernel_rfl))
 f334:=Tryz.func235.trans (congrArg some (by kernel_rfl))
 f335:=Tryz.func236.trans (congrArg some (by kernel_rfl))
 f336:=Tryz.func237.trans (congrArg some (by kernel_rfl))
 f344:=Tryz.func258.trans (congrArg some (by kernel_rfl))
 t0:=Tryz.underlying0
 a0:=Tryz.isAgg0
 z0:=Tryz.sizeOf0
 v0:=Tryz.zeroValue0
 t3:=Tryz.underlying3
 a3:=Tryz.isAgg3
 z3:=Tryz.sizeOf3
 v3:=Tryz.zeroValue3
 t4:=Tryz.underlying4
 a4:=Tryz.isAgg4
 z4:=Tryz.sizeOf4
 v4:=Tryz.zeroValue4
 t5:=Tryz.underlying5
 a5:=Tryz.isAgg5
 z5:=Tryz.sizeOf5
 v5:=Tryz.zeroValue5
 t9:=Tryz.underlying9
 a9:=Tryz.isAgg9
 z9:=Tryz.sizeOf9
 v9:=Tryz.zeroValue9
 t31:=Tryz.underlying37
 a31:=Tryz.isAgg37
 z31:=Tryz.sizeOf37
 v31:=Tryz.zeroValue37
 t46:=Tryz.underlying141
 a46:=Tryz.isAgg141
 z46:=Tryz.sizeOf141
 v46:=Tryz.zeroValue141
 t51:=Tryz.underlying178
 a51:=Tryz.isAgg178
 z51:=Tryz.sizeOf178
 v51:=Tryz.zeroValue178
 t53:=Tryz.underlying180
 a53:=Tryz.isAgg180
 z53:=Tryz.sizeOf180
 v53:=Tryz.zeroValue180
 t131:=Tryz.underlying175
 a131:=Tryz.isAgg175
 z131:=Tryz.sizeOf175
 v131:=Tryz.zeroValue175
 t182:=Tryz.underlying170
 a182:=Tryz.isAgg170
 z182:=Tryz.sizeOf170
 v182:=Tryz.zeroValue170
 t183:=Tryz.underlying171
 a183:=Tryz.isAgg171
 z183:=Tryz.sizeOf171
 v183:=Tryz.zeroValue171
 t218:=Tryz.underlying200
 a218:=Tryz.isAgg200
 z218:=Tryz.sizeOf200
 v218:=Tryz.zeroValue200
 t222:=Tryz.underlying204
 a222:=Tryz.isAgg204
 z222:=Tryz.sizeOf204
 v222:=Tryz.zeroValue204
 t228:=Tryz.underlying233
 a228:=Tryz.isAgg233
 z228:=Tryz.sizeOf233
 v228:=Tryz.zeroValue233
 t229:=Tryz.underlying35
 a229:=Tryz.isAgg35
 z229:=Tryz.sizeOf35
 v229:=Tryz.zeroValue35
end
theorem amK {w:World} {o:Bool} (l:List aA):Row w o (fun _=>0) (l.map bU) (l.map cP).flatten:=by
 induction l with
 | nil=>exact .nil _ _ fun _=>rfl
 | cons n l ih=>
  have e:((n::l).map cP).flatten=.str n::(l.map cP).flatten:=by simp [cP]
  rw [e]
  exact .str _ _ _ _ _ ih
abbrev uN (l:List aA):List aA:=l.mergeSort fun x y=>decide (x≤y)
theorem aoU (l:List aA) (hl:l.length<2^40):aZ Tryz.prog 83 [.own 1 (l.map cP)] (.tup []) [.own 1 ((uN l).map cP)]:=by
 refine ⟨⟨_,Tryz.func83,by kernel_rfl,by kernel_rfl⟩,rfl,?_⟩
 intro w vs F X r h1 h2 h3
 have hlen:(uN l).length=l.length:=List.length_mergeSort l
 cases r with
 | own _ F1 F2 _ s es v vs ys hr hn hF=>
  cases hn with
  | nil _ _ hF2 hX=>
   rcases Row.sl_inv hr with ⟨rfl,he,h0⟩ | ⟨G1,b,off,cap,C,ty,fr,cs,rfl,hb,hfr,hcap,hle,hes,hcs,hc,hrow,hG⟩
   ·have hl0:l=[]:=by simpa using he
    subst hl0
    refine (Any.slices_Sort_string_none uB none 0 w).mono ?_
    rintro e w' ⟨rfl,rfl⟩
    refine ⟨.tuple #[],F,X,rfl,?_,h1,h2,⟨lS1 _,.refl _⟩,fun b _ _=>rfl,fun b hb=>.inl hb,fun b hb=>⟨.inl hb,h3 b hb⟩⟩
    refine .tup F (fun _=>0) F X (fun _=>0) X [] [] _ _ RepA.znil ?_ (fun x=>by omega) (fun x=>by omega)
    exact .own F F1 F2 X 1 _ _ _ _ (by simpa [uN] using hr) (.nil _ _ hF2 hX) hF
   ·obtain ⟨hce,hG1⟩:=agv l hrow
    have hrl:(l.map cP).length=l.length:=lB1 _
    have hcsl:cs.length=l.length:=by rw [hce,lB1]
    rw [hrl] at hle ⊢
    have hsz:off+l.length≤C.size:=by omega
    have hbl:b<w.heap.size:=(lW3.1 hb).1
    have hH:Go.Sort.Holds bU w b off l.toArray:=by
     intro j hj
     have hj':j<l.length:=by simpa using hj
     have e1:=hc j (by omega)
     rw [hce,lJ1,lJ hj'] at e1
     refine ⟨?_,?_⟩
     ·simp only [World.cell?,hb,lD,e1,lC]
      simp [getElem!_pos,hj']
     ·have:=hfr (off+j) (by omega)
      simp [World.frozen?,hb]
      simpa using this
    refine (Any.slices_Sort_string uB b off cap l w hH hbl (by omega)).mono ?_
    rintro e w' ⟨rfl,n,os,rfl⟩
    have hw:∀ x,x≠b→x<w.heap.size→(Go.Sort.grow (Go.Sort.putRow bU (Go.Sort.ahead w n) b off (uN l).toArray) os).heap[x]?=w.heap[x]?:=by
     intro x hx hxl
     simp only [Go.Sort.grow,Go.Sort.putRow,Go.Sort.mapBlock,Go.Sort.ahead]
     rw [lF3 (by simpa using hxl),lL3,lI (Ne.symm hx)]
    have hwb:(Go.Sort.grow (Go.Sort.putRow bU (Go.Sort.ahead w n) b off (uN l).toArray) os).heap[b]?=some (.cells (Go.Sort.putCells bU off (uN l).toArray C) ty fr):=by
     simp only [Go.Sort.grow,Go.Sort.putRow,Go.Sort.mapBlock,Go.Sort.ahead]
     rw [lF3 (by simpa using hbl),lL3,lF rfl,hb]; rfl
    have hsz2:(Go.Sort.putCells bU off (uN l).toArray C).size=C.size:=by simp [Go.Sort.putCells]
    have hrow2:Row (Go.Sort.grow (Go.Sort.putRow bU (Go.Sort.ahead w n) b off (uN l).toArray) os) true F1 [.slice (some ⟨b,off,none⟩) l.length cap] [.sl 1 ((uN l).map cP)]:=by
     refine Row.of_sl (F1:=fun _=>0) (cs:=(uN l).map bU) (by rw [lB1,hlen]) hwb (by rw [hsz2]; exact hfr) (by rw [hsz2]; exact hcap) (by rw [lB1,hlen]; exact hle) ?_ ?_ ?_ (amK _) (fun x=>by have:=hG x; have:=hG1 x; omega)
     ·intro e he
      obtain ⟨x,_,rfl⟩:=lZ1.1 he
      rfl
     ·simp
     ·intro k hk
      rw [lB1,hlen] at hk
      rw [lJ1,lJ (by rw [hlen]; exact hk)]
      have hin:off≤off+k∧off+k<off+(uN l).length:=by omega
      simp only [Go.Sort.putCells,Array.getElem?_mapIdx,List.size_toArray]
      rw [lF1 (by omega),lC,lF hin,lC]
      simp [Nat.add_sub_cancel_left,getElem!_pos,hlen,hk]
    refine ⟨.tuple #[],F,X,rfl,?_,h1,h2,⟨?_,⟨rfl,rfl⟩⟩,fun x hx h0=>hw x (fun e=>?_) hx,fun x hx=>.inl hx,fun x hx=>⟨.inl hx,?_⟩⟩
    ·refine .tup F (fun _=>0) F X (fun _=>0) X [] [] _ _ RepA.znil ?_ (fun x=>by omega) (fun x=>by omega)
     exact .own F F1 F2 X 1 _ _ _ _ hrow2 (.nil _ _ hF2 hX) hF
    ·simp only [Go.Sort.grow,Go.Sort.putRow,Go.Sort.mapBlock,Go.Sort.ahead,lF4,Array.size_modify]; omega
    ·subst e
     have:=hF x; have:=hG x
     simp at *; omega
    ·have:=h3 x hx
     simp only [Go.Sort.grow,Go.Sort.putRow,Go.Sort.mapBlock,Go.Sort.ahead,lF4,Array.size_modify]; omega
def agP (t:Tab):List aA:=if bA t=true then c7 t else []
theorem aar (t:Tab) (h:t.sz<2^40):aZ Tryz.prog 24 [t.x] (.own 1 ((agP t).map cP)) [.undef]:=by
 have hT:=xP t h
 unfold agP
 cases hB:bA t with
 | false=>
  rw [hB] at hT
  rw [lI (by simp)]
  refine U wO [] 47 [] fun w hP hQ=>?_
  unfold p7
  refine N ?_
  (first|refine cI hP (hT) rfl rfl ?_|refine cH hP (hT) rfl rfl ?_)
  simp +decide (maxSteps:=9^9) (disch:=omega) only[↓SB0,SX,seval,hQ]
  all_goals first | rfl | exact ⟨rfl,rfl⟩
 | true=>
  rw [hB] at hT
  rw [lF rfl]
  have ht:=(aP t).1 hB
  obtain ⟨r,r1,r2,r3⟩:=cR ht
  have r4:=(aK r1).2
  have hA:=jE t 1 h
  rw [adc,r1] at hA
  simp only [lY,lH2] at hA
  have hl:t.inodes.length≤30:=ht.tab.len
  have hPb:=abo t hB h 30 r [] r3 ⟨[],by rw [r4]; rfl,by simpa using hl⟩ (by simp)
  rw [sK ht r1] at hPb
  have few:(mG t).length≤300:=by rw [← sK ht r1,mQ ht _ r r3,lB1]; exact oY ht r3 _
  have hS:=aoU (mG t) (by omega)
  rw [show uN (mG t)=c7 t from rfl] at hS
  refine U wO [(83,[.l],[])] 47 [] fun w hP hQ=>?_
  unfold p7
  refine N ?_
  refine K (hT) ?_
  refine K (hA) ?_
  refine K (hPb) ?_
  (first|refine cI hP (hS) rfl rfl ?_|refine cH hP (hS) rfl rfl ?_)
  simp +decide (maxSteps:=9^9) (disch:=omega) only[↓SB0,SX,seval,hQ]
  all_goals first | rfl | exact ⟨rfl,rfl⟩
def cur (v:Value) (b:aA) (i:Nat) (h:Int):AV:=.box [.extv v 1 (aM b),.int .i64 i,.int .i64 h]
theorem agQ (a:Int):∃ m:Nat,m<256∧IntKind.i64.wrap ((BitVec.ofInt IntKind.i64.bits a &&& BitVec.ofInt IntKind.i64.bits 255).toNat:Int)=(m:Int):=by
 refine ⟨(BitVec.ofInt IntKind.i64.bits a &&& BitVec.ofInt IntKind.i64.bits 255).toNat,?_,?_⟩
 ·rw [BitVec.toNat_and]
  have:(BitVec.ofInt IntKind.i64.bits 255).toNat=255:=by decide
  rw [this]
  exact lA4 Nat.and_le_right (by decide)
 ·rw [aad]
  rw [BitVec.toNat_and]
  have:(BitVec.ofInt IntKind.i64.bits 255).toNat=255:=by decide
  rw [this]
  exact lA4 Nat.and_le_right (by decide)
theorem aoV (v:Value) (b:aA) (hl:b.length<2^48):∃ h,aZ Tryz.prog 56 [.extv v 1 (aM b)] (cur v b 0 h) [.undef]:=by
 have key:∃ ret outs,(∃ h,ret=cur v b 0 h∧outs=[.undef])∧aZ Tryz.prog 56 [.extv v 1 (aM b)] ret outs:=by
  refine cD hmx ajP [] 29 rfl [] ⟨lH rfl,lH rfl⟩ rfl ?_
  intro w hP hQ
  unfold acq
  refine N ?_
  refine eJ [] ?_
  refine N ?_
  refine aR [] (fun s:Nat × Int=>[(4,.int .i64 (s.1:Nat)),(3,.int .i64 s.2)]) (fun s=>s.1≤b.length) (fun s=>b.length-s.1) ((0,351351+b.length)) hP hQ (rfl) (by simp) ?_
  rintro ⟨i,h⟩ hi w1 hP1 hQ1
  refine N1 ?_
  simp only at hi
  (first | with_reducible refine sV _ ?_ ?_ | refine sW _ ?_ ?_) <;> intro h1
  ·have hz:=h1
   refine Nz1 ?_
   (first | with_reducible refine cN _ ?_ ?_ | refine cO _ ?_ ?_) <;> intro h2
   ·have hz:=(bF h1)
    refine Nz1 ?_
    exact ⟨(i+1,_),rfl,by simp only; omega,by simp only; omega⟩
   ·refine N1 ?_
    exact ⟨_,rfl⟩
  ·have hz:=h1
   refine Nz1 ?_
   exact ⟨_,rfl⟩
 obtain ⟨_,_,⟨h,rfl,rfl⟩,hS⟩:=key
 exact ⟨h,hS⟩
theorem u9 (v:Value) (b:aA) (i:Nat) (h:Int) (hl:b.length<2^48) (hi:i≤b.length):∃ (x i':Nat) (h':Int),x<256∧i'≤b.length∧aZ Tryz.prog 155 [cur v b i h] (.int .i64 x) [cur v b i' h']:=by
 have key:∃ ret outs,(∃ (x i':Nat) (h':Int),x<256∧i'≤b.length∧ret=.int .i64 x∧outs=[cur v b i' h'])∧aZ Tryz.prog 155 [cur v b i h] ret outs:=by
  by_cases h1:(i:Int)<(b.length:Nat)
  ·have d1:decide ((i:Int)<(b.length:Nat))=true:=lE h1
   unfold cur
   refine cD hmx zP [] 13 rfl [true] ⟨lH rfl,lH rfl⟩ rfl ?_
   intro w hP hQ
   unfold sY
   refine N ?_
   have hz:=And.intro d1 (bF h1)
   refine Nz ?_
   exact ⟨_,i+1,_,(agQ _).choose_spec.1,by omega,congrArg (AV.int .i64) (agQ _).choose_spec.2,rfl⟩
  ·have d1:decide ((i:Int)<(b.length:Nat))=false:=lB h1
   unfold cur
   refine cD hmx zP [] 13 rfl [true] ⟨lH rfl,lH rfl⟩ rfl ?_
   intro w hP hQ
   unfold sY
   refine N ?_
   have hz:=d1
   refine Nz ?_
   exact ⟨_,i,_,(agQ _).choose_spec.1,hi,congrArg (AV.int .i64) (agQ _).choose_spec.2,rfl⟩
 obtain ⟨_,_,⟨x,i',h',hx,hi',rfl,rfl⟩,hS⟩:=key
 exact ⟨x,i',h',hx,hi',hS⟩
theorem anj (a b:Nat):((a:Int)).tmod (b:Int)=((a%b:Nat):Int):=rfl
def nG (x:Nat) (n:Int):Prop:=if 0<n then (x:Int)<n else x=0
theorem cF (v:Value) (b:aA) (i:Nat) (h:Int) (n:Int) (hl:b.length<2^48) (hi:i≤b.length) (hn:n<2^62):∃ (x i':Nat) (h':Int),nG x n∧i'≤b.length ∧
  aZ Tryz.prog 101 [cur v b i h,.int .i64 n] (.int .i64 x) [cur v b i' h',.undef]:=by
 by_cases h0:n≤0
 ·have d0:decide (n≤0)=true:=lE h0
  refine ⟨0,i,h,by rw [nG,lI (by omega)],hi,?_⟩
  unfold cur
  refine U qD [(155,[.l],[])] 243 [true,false] fun w hP hQ=>?_
  unfold m4
  refine N ?_
  have hz:=d0
  exact Nz trivial
 ·have d0:decide (n≤0)=false:=lB h0
  obtain ⟨m,rfl⟩:∃ m:Nat,n=m:=⟨n.toNat,by omega⟩
  have hm:((m:Nat):Int)≠0:=by omega
  obtain ⟨x,i1,h1,hx,hi1,k1⟩:=u9 v b i h hl hi
  by_cases h2:(m:Int)≤256
  ·have d2:decide ((m:Int)≤256)=true:=lE h2
   refine ⟨x%m,i1,h1,?_,hi1,?_⟩
   ·rw [nG,lF (by omega)]
    have:=Nat.mod_lt x (show m>0 by omega)
    omega
   unfold cur at *
   refine U qD [(155,[.l],[])] 243 [true,false] fun w hP hQ=>?_
   unfold m4
   refine N ?_
   have hz:=And.intro d0 d2
   refine Nz ?_
   (first | refine aF hP (k1) (.inl ⟨rfl,fun _ hx=>hx⟩) ?_ | refine aB hP (k1) (.inl ⟨rfl,fun _ hx=>hx⟩) ?_)
   have hz:=And.intro hm anj
   exact Nz trivial
  ·have d2:decide ((m:Int)≤256)=false:=lB h2
   obtain ⟨y,i2,h2,hy,hi2,k2⟩:=u9 v b i1 h1 hl hi1
   obtain ⟨z,i3,h3,hz,hi3,k3⟩:=u9 v b i2 h2 hl hi2
   refine ⟨(x*65536+y*256+z)%m,i3,h3,?_,hi3,?_⟩
   ·rw [nG,lF (by omega)]
    have:=Nat.mod_lt (x*65536+y*256+z) (show m>0 by omega)
    omega
   have e:((x:Int)*65536+(y:Int)*256+(z:Int))=((x*65536+y*256+z:Nat):Int):=by omega
   have w1:IntKind.i64.wrap ((x:Int)*65536)=(x:Int)*65536:=by have:=aad (n:=x*65536) (by omega); simpa using this
   have w2:IntKind.i64.wrap ((y:Int)*256)=(y:Int)*256:=by have:=aad (n:=y*256) (by omega); simpa using this
   unfold cur at *
   refine U qD [(155,[.l],[])] 243 [true,false] fun w hP hQ=>?_
   unfold m4
   refine N ?_
   have hz:=And.intro d0 d2
   refine Nz ?_
   (first | refine aF hP (k1) (.inl ⟨rfl,fun _ hx=>hx⟩) ?_ | refine aB hP (k1) (.inl ⟨rfl,fun _ hx=>hx⟩) ?_)
   refine N ?_
   (first | refine aF hP (k2) (.inl ⟨rfl,fun _ hx=>hx⟩) ?_ | refine aB hP (k2) (.inl ⟨rfl,fun _ hx=>hx⟩) ?_)
   refine N ?_
   (first | refine aF hP (k3) (.inl ⟨rfl,fun _ hx=>hx⟩) ?_ | refine aB hP (k3) (.inl ⟨rfl,fun _ hx=>hx⟩) ?_)
   have hz:=And.intro hm (And.intro e (And.intro anj (And.intro w1 w2)))
   exact Nz trivial
theorem j6 (v:Value) (b:aA) (i:Nat) (h:Int) (n:Int) (hl:b.length<2^48) (hi:i≤b.length) (hn:n<2^62):∃ (t:Bool) (i':Nat) (h':Int),i'≤b.length ∧
  aZ Tryz.prog 96 [cur v b i h,.int .i64 n] (.bool t) [cur v b i' h',.undef]:=by
 obtain ⟨x,i1,h1,hx,hi1,k1⟩:=cF v b i h n hl hi hn
 refine ⟨decide ((x:Int)=0),i1,h1,hi1,?_⟩
 unfold cur at *
 refine U ahD [(101,[.l,.b],[])] 19 [true,false] fun w hP hQ=>?_
 unfold y8
 refine N ?_
 (first | refine aF hP (k1) (.inl ⟨rfl,fun _ hx=>hx⟩) ?_ | refine aB hP (k1) (.inl ⟨rfl,fun _ hx=>hx⟩) ?_)
 exact N trivial
theorem amL (l:List Int):(l.map eK).length=l.length:=lB1 _
theorem amM (l:List Int) (k:Nat):(l.map eK)[k]?=(l[k]?).map fun v=>[TV.int .i64 v]:=by rw [lJ1]; rfl
theorem kJ (v:Value) (b:aA) (i:Nat) (h:Int) (l:List Int) (hl:b.length<2^48) (hi:i≤b.length) (h0:l≠[]) (hn:l.length<2^40):∃ (r:Int) (i':Nat) (h':Int),r ∈ l∧i'≤b.length ∧
  aZ Tryz.prog 153 [cur v b i h,.ext 1 (l.map eK)] (.int .i64 r) [cur v b i' h',.undef]:=by
 obtain ⟨x,i1,h1,hx,hi1,k1⟩:=cF v b i h l.length hl hi (by omega)
 have hp:0<l.length:=lX2.2 h0
 have hx':(x:Int)<(l.length:Nat):=by rw [nG,lF (by omega)] at hx; exact hx
 refine ⟨l[x]'(by omega),i1,h1,lN _,hi1,?_⟩
 unfold cur at *
 refine U ajZ [(101,[.l,.b],[])] 19 [true,false] fun w hP hQ=>?_
 unfold acA
 refine N ?_
 (first | refine aF hP (k1) (.inl ⟨rfl,fun _ hx=>hx⟩) ?_ | refine aB hP (k1) (.inl ⟨rfl,fun _ hx=>hx⟩) ?_)
 simp +decide (maxSteps:=9^9) (disch:=omega) only[↓SB0,SX,seval,hQ,amL,amM,bF hx',eK]
theorem afn (x:aA) (k:Int) (h:0≤k∧k<256):aM x++[[TV.int .u8 k]]=aM (x++[UInt8.ofNat k.toNat]):=by
 have:(UInt8.ofNat k.toNat).toNat=k.toNat:=by simp; omega
 simp [aM,this]
 omega
theorem adv (v:Value) (b:aA) (i:Nat) (h:Int) (n:Int) (hl:b.length<2^48) (hi:i≤b.length) (hn:n<2^40):∃ (x:aA) (i':Nat) (h':Int),x.length=n.toNat∧i'≤b.length ∧
  aZ Tryz.prog 223 [cur v b i h,.int .i64 n] (.own 1 (aM x)) [cur v b i' h',.undef]:=by
 have key:∃ ret outs,(∃ (x:aA) (i':Nat) (h':Int),x.length=n.toNat∧i'≤b.length∧ret=.own 1 (aM x)∧outs=[cur v b i' h',.undef])∧aZ Tryz.prog 223 [cur v b i h,.int .i64 n] ret outs:=by
  unfold cur
  refine cD hmx aeO [(155,[.l],[])] 115 rfl [true,false] ⟨lH rfl,lH rfl⟩ rfl ?_
  intro w hP hQ
  unfold wN
  refine N ?_
  refine eJ [] ?_
  refine N ?_
  refine aR [] (fun s:aA × Nat × Int=>[(1000,.box [.extv v 1 (aM b),.int .i64 (s.2.1:Nat),.int .i64 s.2.2]),(5,.own 1 (aM s.1)),(6,.int .i64 (s.1.length:Nat))]) (fun s=>s.1.length≤n.toNat∧s.2.1≤b.length) (fun s=>n.toNat-s.1.length) (([],i,h)) hP hQ (by simp +decide (maxSteps:=9^9) (disch:=omega) only[↓SB0,SX,seval,hQ]; rfl) (⟨by simp,hi⟩) ?_
  rintro ⟨x,j,g⟩ ⟨hx,hj⟩ w1 hP1 hQ1
  refine N1 ?_
  simp only at hx hj
  (first | with_reducible refine cN _ ?_ ?_ | refine cO _ ?_ ?_) <;> intro h1
  ·obtain ⟨y,j1,g1,hy,hj1,k1⟩:=u9 v b j g hl hj
   unfold cur at k1
   refine N1 ?_
   (first | refine aF hP1 (k1) (.inl ⟨rfl,fun _ hx=>hx⟩) ?_ | refine aB hP1 (k1) (.inl ⟨rfl,fun _ hx=>hx⟩) ?_)
   refine N1 ?_
   rw [afn _ _ (by omega)]
   exact ⟨(x++[UInt8.ofNat (y:Int).toNat],j1,g1),by simp,⟨by simp; omega,hj1⟩,by simp; omega⟩
  ·refine N1 ?_
   exact ⟨x,j,g,by omega,hj,rfl,rfl⟩
 obtain ⟨_,_,⟨x,i',h',hx,hi',rfl,rfl⟩,hS⟩:=key
 exact ⟨x,i',h',hx,hi',hS⟩
theorem abp (v:Value) (b:aA) (i:Nat) (h:Int) (hl:b.length<2^48) (hi:i≤b.length):∃ (x:aA) (i':Nat) (h':Int),x.length≤9∧i'≤b.length ∧
  aZ Tryz.prog 173 [cur v b i h] (.own 1 (aM x)) [cur v b i' h']:=by
 obtain ⟨r,i1,h1,hv,hi1,k1⟩:=kJ v b i h [0,1,2,5,9] hl hi (by simp) (by simp)
 have hv':0≤r∧r≤9:=by simp at hv; omega
 obtain ⟨x,i2,h2,hx,hi2,k2⟩:=adv v b i1 h1 r hl hi1 (by omega)
 refine ⟨x,i2,h2,by omega,hi2,?_⟩
 unfold cur at *
 simp only [eK,lO,lR1] at k1
 refine U ahM [(153,[.l,.b],[]),(223,[.l,.b],[])] 5 [true] fun w hP hQ=>?_
 unfold zJ
 refine N ?_
 (first | refine aF hP (k1) (.inl ⟨rfl,fun _ hx=>hx⟩) ?_ | refine aB hP (k1) (.inl ⟨rfl,fun _ hx=>hx⟩) ?_)
 refine N ?_
 (first | refine aF hP (k2) (.inl ⟨rfl,fun _ hx=>hx⟩) ?_ | refine aB hP (k2) (.inl ⟨rfl,fun _ hx=>hx⟩) ?_)
 exact N trivial
theorem aqf (b:aA) (hl:b.length<2^48):aZ Tryz.prog 12 [.ext 1 (aM b)] (.bool (decide ((1048576:Int)<(b.length:Nat)))) [.undef]:=by
 refine U aoe [] 5 [] fun w hP hQ=>?_
 unfold ajO
 exact N trivial
theorem vA (l:List aA) (k:Nat):(l.map cP)[k]?=(l[k]?).map fun v=>[TV.str v]:=by rw [lJ1]; rfl
theorem qQ (v:Value) (b:aA) (i:Nat) (h:Int) (l:List aA) (hl:b.length<2^48) (hi:i≤b.length) (h0:l≠[]) (hn:l.length<2^40):∃ (r:aA) (i':Nat) (h':Int),r ∈ l∧i'≤b.length ∧
  aZ Tryz.prog 149 [cur v b i h,.ext 1 (l.map cP)] (.str r) [cur v b i' h',.undef]:=by
 obtain ⟨x,i1,h1,hx,hi1,k1⟩:=cF v b i h l.length hl hi (by omega)
 have hp:0<l.length:=lX2.2 h0
 have hx':(x:Int)<(l.length:Nat):=by rw [nG,lF (by omega)] at hx; exact hx
 refine ⟨l[x]'(by omega),i1,h1,lN _,hi1,?_⟩
 unfold cur at *
 refine U ajX [(101,[.l,.b],[])] 19 [true,false] fun w hP hQ=>?_
 unfold acy
 refine N ?_
 (first | refine aF hP (k1) (.inl ⟨rfl,fun _ hx=>hx⟩) ?_ | refine aB hP (k1) (.inl ⟨rfl,fun _ hx=>hx⟩) ?_)
 simp +decide (maxSteps:=9^9) (disch:=omega) only[↓SB0,SX,seval,hQ,vA,bF hx',cP]
theorem agR (v:Value) (b:aA) (i:Nat) (h:Int) (hl:b.length<2^48) (hi:i≤b.length):∃ (r:aA) (i':Nat) (h':Int),r.length≤5∧i'≤b.length ∧
  aZ Tryz.prog 121 [cur v b i h] (.str r) [cur v b i' h']:=by
 obtain ⟨r,i1,h1,hr,hi1,k1⟩:=qQ v b i h [[97],[98],[99],[100,46,116,120,116]] hl hi (by simp) (by simp)
 have hv:r.length≤5:=by
  simp only [lG,lM4,or_false] at hr
  rcases hr with rfl | rfl | rfl | rfl <;> simp
 refine ⟨r,i1,h1,hv,hi1,?_⟩
 unfold cur at *
 simp only [cP,lO,lR1] at k1
 refine U ahH [(149,[.l,.b],[])] 5 [true] fun w hP hQ=>?_
 unfold zC
 refine N ?_
 (first | refine aF hP (k1) (.inl ⟨rfl,fun _ hx=>hx⟩) ?_ | refine aB hP (k1) (.inl ⟨rfl,fun _ hx=>hx⟩) ?_)
 exact N trivial
theorem agS (v:Value) (b:aA) (i:Nat) (h:Int) (hl:b.length<2^48) (hi:i≤b.length):∃ (r:aA) (i':Nat) (h':Int),r.length≤30∧i'≤b.length ∧
  aZ Tryz.prog 59 [cur v b i h] (.str r) [cur v b i' h']:=by
 obtain ⟨x,i1,h1,hx,hi1,k1⟩:=cF v b i h 3 hl hi (by omega)
 have hx':(x:Int)<3:=by rw [nG,lF (by omega)] at hx; exact hx
 have key:∃ ret outs,(∃ (r:aA) (i':Nat) (h':Int),r.length≤30∧i'≤b.length∧ret=.str r∧outs=[cur v b i' h'])∧aZ Tryz.prog 59 [cur v b i h] ret outs:=by
  unfold cur at *
  refine cD hmx ahA [(101,[.l,.b],[]),(121,[.l],[])] 29 rfl [true] ⟨lH rfl,lH rfl⟩ rfl ?_
  intro w hP hQ
  unfold y5
  refine N ?_
  (first | refine aF hP (k1) (.inl ⟨rfl,fun _ hx=>hx⟩) ?_ | refine aB hP (k1) (.inl ⟨rfl,fun _ hx=>hx⟩) ?_)
  refine N ?_
  refine eJ [] ?_
  refine N ?_
  refine aR [] (fun s:Nat × aA × Nat × Int=>[(1000,.box [.extv v 1 (aM b),.int .i64 (s.2.2.1:Nat),.int .i64 s.2.2.2]),(3,.str s.2.1),(4,.int .i64 (s.1:Nat))]) (fun s=>s.1≤3∧s.2.1.length+s.1*6≤30∧s.2.2.1≤b.length) (fun s=>s.1) ((1+x,[],i1,h1)) hP hQ (by simp; rfl) (⟨by simp only; omega,by simp; omega,hi1⟩) ?_
  rintro ⟨n,r,j,g⟩ ⟨hn,hr,hj⟩ w1 hP1 hQ1
  refine N1 ?_
  simp only at hn hr hj
  (first | with_reducible refine cN _ ?_ ?_ | refine cO _ ?_ ?_) <;> intro g1
  ·obtain ⟨y,j1,g2,hy,hj1,k2⟩:=agR v b j g hl hj
   unfold cur at k2
   have e1:r.length+1≤4611686018427387904:=by omega
   have e2:(r++[47]).length+y.length≤4611686018427387904:=by simp; omega
   have e3:((n:Nat):Int)-1=((n-1:Nat):Int):=by omega
   have hz:=e1
   refine Nz1 ?_
   (first | refine aF hP1 (k2) (.inl ⟨rfl,fun _ hx=>hx⟩) ?_ | refine aB hP1 (k2) (.inl ⟨rfl,fun _ hx=>hx⟩) ?_)
   have hz:=And.intro e2 e3
   refine Nz1 ?_
   exact ⟨(n-1,r++[47]++y,j1,g2),rfl,⟨by simp only; omega,by simp; omega,hj1⟩,by simp only; omega⟩
  ·refine N1 ?_
   exact ⟨r,j,g,by omega,hj,rfl,rfl⟩
 obtain ⟨_,_,⟨r,i',h',hr,hi',rfl,rfl⟩,hS⟩:=key
 exact ⟨r,i',h',hr,hi',hS⟩
theorem akU (v:Value) (b:aA) (i:Nat) (h:Int) (hl:b.length<2^48) (hi:i≤b.length):∃ (r:aA) (i':Nat) (h':Int),r.length≤30∧i'≤b.length ∧
  aZ Tryz.prog 90 [cur v b i h] (.str r) [cur v b i' h']:=by
 obtain ⟨c,i1,h1,hi1,k1⟩:=j6 v b i h 6 hl hi (by omega)
 cases c with
 | true=>
  obtain ⟨r,i2,h2,hr,hi2,k2⟩:=qQ v b i1 h1 [[],[47],[97],[47,47],[47,97,47],[47,65],[47,46,46],[47,46],[47,102,105,102,116,101,101,110,98,121,116,101,115,120,120,120],[47,97,47,47,98]] hl hi1 (by simp) (by simp)
  have hv:r.length≤30:=by
   simp only [lG,lM4,or_false] at hr
   rcases hr with rfl | rfl | rfl | rfl | rfl | rfl | rfl | rfl | rfl | rfl <;> simp
  refine ⟨r,i2,h2,hv,hi2,?_⟩
  unfold cur at *
  simp only [cP,lO,lR1] at k2
  refine U acE [(96,[.l,.b],[]),(149,[.l,.b],[]),(59,[.l],[])] 5 [true] fun w hP hQ=>?_
  unfold wE
  refine N ?_
  (first | refine aF hP (k1) (.inl ⟨rfl,fun _ hx=>hx⟩) ?_ | refine aB hP (k1) (.inl ⟨rfl,fun _ hx=>hx⟩) ?_)
  refine N ?_
  (first | refine aF hP (k2) (.inl ⟨rfl,fun _ hx=>hx⟩) ?_ | refine aB hP (k2) (.inl ⟨rfl,fun _ hx=>hx⟩) ?_)
  exact N trivial
 | false=>
  obtain ⟨r,i2,h2,hr,hi2,k2⟩:=agS v b i1 h1 hl hi1
  refine ⟨r,i2,h2,hr,hi2,?_⟩
  unfold cur at *
  refine U acE [(96,[.l,.b],[]),(149,[.l,.b],[]),(59,[.l],[])] 5 [true] fun w hP hQ=>?_
  unfold wE
  refine N ?_
  (first | refine aF hP (k1) (.inl ⟨rfl,fun _ hx=>hx⟩) ?_ | refine aB hP (k1) (.inl ⟨rfl,fun _ hx=>hx⟩) ?_)
  refine N ?_
  (first | refine aF hP (k2) (.inl ⟨rfl,fun _ hx=>hx⟩) ?_ | refine aB hP (k2) (.inl ⟨rfl,fun _ hx=>hx⟩) ?_)
  exact N trivial
def Of (l a:List aA):Prop:=a.length=l.length∧∀ x ∈ a,x ∈ l
theorem Of.set {l a:List aA} (h:Of l a) {k:Nat} {x:aA} (hx:x ∈ l):Of l (a.set k x):=
 ⟨by rw [List.length_set]; exact h.1,fun y hy=>by
  rcases List.mem_or_eq_of_mem_set hy with h1 | rfl
  ·exact h.2 y h1
  ·exact hx⟩
theorem afo (L:List aA) (k:Nat) (x:aA):(L.map cP).modify k (fun r=>TV.str x::r.drop 1)=(L.set k x).map cP:=qO cP L k x _ fun _ _=>rfl
theorem agT (l:List aA) (hl:l.length<2^40):∃ m:List aA,Of l m∧aZ Tryz.prog 177 [.ext 1 (l.map cP)] (.own 1 (m.map cP)) [.undef]:=by
 have hb:l.length*16≤140737488355328:=by omega
 have key:∃ ret outs,(∃ m:List aA,Of l m∧ret=.own 1 (m.map cP)∧outs=[.undef])∧aZ Tryz.prog 177 [.ext 1 (l.map cP)] ret outs:=by
  refine cD hmx ahN [] 125 rfl [] ⟨lH rfl,lH rfl⟩ rfl ?_
  intro w hP hQ
  unfold zK
  refine N ?_
  have hz:=And.intro aou hb
  refine Nz ?_
  refine eJ [5,6] ?_
  refine N ?_
  refine aR [5,6] (fun s:Nat × List aA=>[(3,.own 1 (s.2.map cP)),(4,.int .i64 (s.1:Nat))]) (fun s=>1≤s.1∧Of l s.2) (fun s=>l.length-s.1) ((1,l)) hP hQ (rfl) (⟨lS1 _,rfl,fun _ h=>h⟩) ?_
  rintro ⟨i,a⟩ ⟨hi,ha⟩ w1 hP1 hQ1
  refine N1 ?_
  simp only at hi ha
  have hal:=ha.1
  (first | with_reducible refine cN _ ?_ ?_ | refine cO _ ?_ ?_) <;> intro g
  ·have hlt:i<a.length:=by omega
   have hx:a[i] ∈ l:=ha.2 _ (lN hlt)
   generalize hxx:a[i]=x at hx
   simp +decide (maxSteps:=9^9) (disch:=omega) only[↓SB0,SX,seval,hQ,hQ1,bF g,hxx,cP]
   refine eJ [] ?_
   refine N1 ?_
   refine aR [] (fun s:Nat × List aA=>[(3,.own 1 (s.2.map cP)),(6,.int .i64 (s.1:Nat))]) (fun s=>s.1≤i∧Of l s.2) (fun s=>s.1) ((i,a)) hP1 hQ1 (rfl) (⟨lS1 _,ha⟩) ?_
   rintro ⟨j,c⟩ ⟨hj,hc⟩ w2 hP2 hQ2
   refine N2 ?_
   simp only at hj hc
   have hcl:=hc.1
   cases j with
   | zero=>
    have hd:(0:Nat)<c.length:=by omega
    have hz:=And.intro hcl (And.intro afo hd)
    refine Nz2 ?_
    exact ⟨(i+1,c.set 0 x),rfl,⟨by simp only; omega,hc.set hx⟩,by simp only; omega⟩
   | succ j=>
    have hjl:j<c.length:=by omega
    have hjl2:j+1<c.length:=by omega
    have w4:decide ((0:Int)<((j+1:Nat):Int))=true:=lE (by omega)
    have hm:c[j] ∈ l:=hc.2 _ (lN hjl)
    simp +decide (maxSteps:=9^9) (disch:=omega) only[↓SB0,SX,seval,hQ,hQ1,hQ2,w4,hcl,bC,vA,lJ hjl,cP,afj,akI]
    (first | with_reducible refine cN _ ?_ ?_ | refine cO _ ?_ ?_) <;> intro g2
    ·simp +decide (maxSteps:=9^9) (disch:=omega) only[↓SB0,SX,seval,hQ,hQ1,hQ2,hcl,bC,vA,lJ hjl,afo,cP]
     exact ⟨(j,c.set (j+1) c[j]),rfl,⟨by simp only; omega,hc.set hm⟩,by simp only; omega⟩
    ·have hz:=And.intro hcl afo
     refine Nz2 ?_
     exact ⟨(i+1,c.set (j+1) x),rfl,⟨by simp only; omega,hc.set hx⟩,by simp only; omega⟩
  ·refine N1 ?_
   exact ⟨a,ha,rfl⟩
 obtain ⟨_,_,⟨m,hm,rfl,rfl⟩,hS⟩:=key
 exact ⟨m,hm,hS⟩
theorem aih (t:Tab) (hB:bA t=true) (h:t.sz<2^40) (k:Nat):∀ (x:Inode) (s:aA) (L:List aA),x ∈ t.inodes→(∃ l,aT (aD t) l 1=some x.ino∧t.inodes.length≤l.length+k)→s.length+k*15<2^30→L.length+(gI t k x s).length<2^40 →
  aZ Tryz.prog 176 [t.x,.int .i64 x.ino,.str s,.box [.own 1 (L.map cP)]] (.tup []) [.undef,.undef,.undef,.box [.own 1 ((L++gI t k x s).map cP)]]:=by
 have ht:=(aP t).1 hB
 induction k with
 | zero=>
  rintro x s L hx ⟨l,hl,hle⟩
  have:=(jC ht hl).1
  omega
 | succ k ih=>
  rintro x s L hx ⟨l,hl,hle⟩ hs hL
  have few:(gI t (k+1) x s).length≤300:=by rw [mQ ht _ x hx,lB1]; exact oY ht hx _
  rw [gI] at few hL ⊢
  generalize hf:(fun e:Ent=>(s++[47]++e.name)::gI t k ((aD t e.ino).getD zN) (s++[47]++e.name))=f at *
  have zx:=sF h (fV ht hx)
  have ze:=(cW zx).2.1
  have hA:=tL t x.ino h
  rw [adc,fV ht hx] at hA
  simp only [lY,lH2] at hA
  refine U aeL [(176,[.b,.b,.b,.l],[])] 3359 [false,false,false,true] fun w hP hQ=>?_
  unfold wK
  refine N ?_
  refine K (hA) ?_
  refine eJ [11] ?_
  refine N ?_
  refine aR [11] (fun i:Nat=>[(1003,.box [.own 1 ((L++(x.ents.take i).flatMap f).map cP)]),(10,.int .i64 i)]) (fun i=>i≤x.ents.length) (fun i=>x.ents.length-i) (0) hP hQ (by simp; rfl) (by simp) ?_
  rintro i hi w1 hP1 hQ1
  refine N1 ?_
  have fi:=iZ f x.ents i
  have fj:=iZ f x.ents (i+1)
  (first | with_reducible refine cN _ ?_ ?_ | refine cO _ ?_ ?_) <;> intro g
  ·have hlt:i<x.ents.length:=by omega
   have hm:x.ents[i] ∈ x.ents:=lN hlt
   have ek:=(bO ht hx).ok _ hm
   have nl:=jZ ek.1
   obtain ⟨y,hy⟩:=lZ.1 (ht.there x hx _ hm)
   obtain ⟨y1,y2⟩:=aK hy
   have kx:x.kind=2:=by
    apply Classical.byContradiction
    intro hk
    have h0:=(mB ht hx hk).1
    rw [h0] at hlt
    exact absurd hlt (by simp)
   have hw:aT (aD t) (l++[x.ents[i].name]) 1=some y.ino:=by
    rw [cK,hl]
    exact (f9 _ _ _ _).2 ⟨x,fV ht hx,kx,by rw [dY (bO ht hx).up hm,y2],by rw [y2]; omega⟩
   have ff:f x.ents[i]=(s++[47]++x.ents[i].name)::gI t k y (s++[47]++x.ents[i].name):=by rw [← hf]; simp only [hy]; rfl
   rw [sL f hlt,ff] at fj
   simp only [lU,lW] at fj
   have hI:=ih y (s++[47]++x.ents[i].name) (L++(x.ents.take i).flatMap f++[s++[47]++x.ents[i].name]) y1 ⟨_,hw,by simp; omega⟩ (by simp; omega) (by simp only [lU,List.length_singleton]; omega)
   rw [y2] at hI
   rw [lF2,List.map_singleton,show cP (s++[47]++x.ents[i].name)=[TV.str (s++[47]++x.ents[i].name)] from rfl] at hI
   have hb1:((L++(x.ents.take i).flatMap f).length+1)*16≤140737488355328:=by simp only [lU]; omega
   have hb3:(s++[47]).length+x.ents[i].name.length≤4611686018427387904:=by simp; omega
   have hb4:s.length+1≤4611686018427387904:=by omega
   generalize hM:L++(x.ents.take i).flatMap f=M at *
   have hz:=And.intro (bF g) (And.intro hb1 (And.intro hb3 hb4))
   refine Nz1 ?_
   refine K1 (hI) ?_
   exact ⟨i+1,by rw [sL f hlt,ff,← lM2,hM]; simp [cP],by omega,by omega⟩
  ·obtain rfl:i=x.ents.length:=by omega
   simp +decide (maxSteps:=9^9) (disch:=omega) only[↓SB0,SX,seval,hQ,hQ1,lX1]
   all_goals first | rfl | exact ⟨rfl,rfl⟩
theorem amN {l:List aA} (h:∀ n ∈ l,n.length≤14):(c6 l).length≤l.length*15:=
 adu (fun n:aA=>47::n) l 15 fun n hn=>by have:=h n hn; simp only [lW]; omega
theorem akV {t:Tab} (h:TreeOk t) {s:aA} (hs:s ∈ mG t):s.length≤450:=by
 obtain ⟨l,h1,rfl,h3⟩:=(zW h s).1 hs
 obtain ⟨i,hi⟩:=lZ.1 h3
 obtain ⟨a,b⟩:=jC h hi
 have:=amN fun n hn=>(jZ (b n hn)).2
 have:=h.tab.len
 omega
theorem aii (t:Tab) (h:t.sz<2^40):∃ m:List aA,m.length≤300∧(∀ s ∈ m,s.length≤450)∧aZ Tryz.prog 120 [t.x] (.own 1 (m.map cP)) [.undef]:=by
 have hT:=gD t h
 cases hB:bA t with
 | false=>
  rw [hB] at hT
  obtain ⟨m,hm,hS⟩:=agT [] (by simp)
  obtain rfl:m=[]:=lQ1.1 hm.1
  refine ⟨[],by simp,by simp,?_⟩
  simp only [lR1] at hS ⊢
  refine U wS [(176,[.b,.b,.b,.l],[])] 15 [] fun w hP hQ=>?_
  unfold qA
  refine N ?_
  refine K (hT) ?_
  (first|refine cI hP (hS) rfl rfl ?_|refine cH hP (hS) rfl rfl ?_)
  refine N ?_
  all_goals first|exact trivial|rfl|exact ⟨rfl,rfl⟩
 | true=>
  rw [hB] at hT
  have ht:=(aP t).1 hB
  obtain ⟨r,r1,r2,r3⟩:=cR ht
  have r4:=(aK r1).2
  have hl:t.inodes.length≤30:=ht.tab.len
  have few:(gI t 30 r []).length≤300:=by rw [mQ ht _ r r3,lB1]; exact oY ht r3 _
  have hPb:=aih t hB h 30 r [] [] r3 ⟨[],by rw [r4]; rfl,by simpa using hl⟩ (by simp) (by simp; omega)
  rw [r4,lI1,lR1,sK ht r1] at hPb
  rw [sK ht r1] at few
  obtain ⟨m,hm,hS⟩:=agT (mG t) (by omega)
  refine ⟨m,by rw [hm.1]; exact few,fun s hs=>akV ht (hm.2 s hs),?_⟩
  refine U wS [(176,[.b,.b,.b,.l],[])] 15 [] fun w hP hQ=>?_
  unfold qA
  refine N ?_
  refine K (hT) ?_
  refine K (hPb) ?_
  (first|refine cI hP (hS) rfl rfl ?_|refine cH hP (hS) rfl rfl ?_)
  refine N ?_
  all_goals first|exact trivial|rfl|exact ⟨rfl,rfl⟩
theorem agU (v:Value) (b:aA) (i:Nat) (h:Int) (t:Tab) (hl:b.length<2^48) (hi:i≤b.length) (ht:t.sz<2^40):∃ (r:aA) (i':Nat) (h':Int),r.length≤450∧i'≤b.length ∧
  aZ Tryz.prog 58 [cur v b i h,t.x] (.str r) [cur v b i' h',.undef]:=by
 obtain ⟨m,m1,m2,hm⟩:=aii t ht
 by_cases h0:m=[]
 ·subst h0
  obtain ⟨r,i1,h1,hr,hi1,k1⟩:=akU v b i h hl hi
  refine ⟨r,i1,h1,by omega,hi1,?_⟩
  simp only [lR1] at hm
  unfold cur at *
  refine U s6 [(96,[.l,.b],[]),(101,[.l,.b],[]),(90,[.l],[])] 59 [true,false] fun w hP hQ=>?_
  unfold o6
  refine N ?_
  refine K (hm) ?_
  (first | refine aF hP (k1) (.inl ⟨rfl,fun _ hx=>hx⟩) ?_ | refine aB hP (k1) (.inl ⟨rfl,fun _ hx=>hx⟩) ?_)
  refine N ?_
  all_goals first|exact trivial|rfl|exact ⟨rfl,rfl⟩
 ·have hp:0<m.length:=lX2.2 h0
  have d0:decide ((0:Int)<(m.length:Nat))=true:=lE (by omega)
  obtain ⟨c,i1,h1,hi1,k1⟩:=j6 v b i h 4 hl hi (by omega)
  cases c with
  | true=>
   obtain ⟨r,i2,h2,hr,hi2,k2⟩:=akU v b i1 h1 hl hi1
   refine ⟨r,i2,h2,by omega,hi2,?_⟩
   unfold cur at *
   refine U s6 [(96,[.l,.b],[]),(101,[.l,.b],[]),(90,[.l],[])] 59 [true,false] fun w hP hQ=>?_
   unfold o6
   refine N ?_
   have hz:=d0
   refine Kz (hm) ?_
   (first | refine aF hP (k1) (.inl ⟨rfl,fun _ hx=>hx⟩) ?_ | refine aB hP (k1) (.inl ⟨rfl,fun _ hx=>hx⟩) ?_)
   refine N ?_
   (first | refine aF hP (k2) (.inl ⟨rfl,fun _ hx=>hx⟩) ?_ | refine aB hP (k2) (.inl ⟨rfl,fun _ hx=>hx⟩) ?_)
   refine N ?_
   all_goals first|exact trivial|rfl|exact ⟨rfl,rfl⟩
  | false=>
   obtain ⟨x,i2,h2,hx,hi2,k2⟩:=cF v b i1 h1 m.length hl hi1 (by omega)
   have hx':(x:Int)<(m.length:Nat):=by rw [nG,lF (by omega)] at hx; exact hx
   refine ⟨m[x]'(by omega),i2,h2,m2 _ (lN _),hi2,?_⟩
   unfold cur at *
   refine U s6 [(96,[.l,.b],[]),(101,[.l,.b],[]),(90,[.l],[])] 59 [true,false] fun w hP hQ=>?_
   unfold o6
   refine N ?_
   have hz:=d0
   refine Kz (hm) ?_
   (first | refine aF hP (k1) (.inl ⟨rfl,fun _ hx=>hx⟩) ?_ | refine aB hP (k1) (.inl ⟨rfl,fun _ hx=>hx⟩) ?_)
   refine N ?_
   (first | refine aF hP (k2) (.inl ⟨rfl,fun _ hx=>hx⟩) ?_ | refine aB hP (k2) (.inl ⟨rfl,fun _ hx=>hx⟩) ?_)
   simp +decide (maxSteps:=9^9) (disch:=omega) only[↓SB0,SX,seval,hQ,vA,bF hx',cP]
   all_goals first|exact trivial|rfl|exact ⟨rfl,rfl⟩
theorem aij (v:Value) (b:aA) (i:Nat) (h:Int) (t:Tab) (hl:b.length<2^48) (hi:i≤b.length) (hB:bA t=true):∃ (t':Tab) (i':Nat) (h':Int),bA t'=true∧i'≤b.length ∧
  aZ Tryz.prog 119 [cur v b i h,t.x] t'.o [cur v b i' h',.undef]:=by
 have hz:=fW hB
 obtain ⟨p,i1,h1,hp,hi1,k1⟩:=agU v b i h t hl hi (by omega)
 obtain ⟨q,i2,h2,hq,hi2,k2⟩:=agS v b i1 h1 hl hi1
 obtain ⟨x,i3,h3,hx,hi3,k3⟩:=cF v b i2 h2 12 hl hi2 (by omega)
 have hx':(x:Int)<12:=by rw [nG,lF (by omega)] at hx; exact hx
 have hc:x=0∨x=1∨x=2∨x=3∨x=4∨x=5∨x=6∨x=7∨x=8∨x=9∨x=10∨x=11:=by omega
 rcases hc with hc | hc | hc | hc | hc | hc | hc | hc | hc | hc | hc | hc
 ·
  have d0:decide ((x:Int)=0)=true:=lE (by omega)
  refine ⟨(fA t q 2).1,i3,h3,gZ hB q (.inr rfl),hi3,?_⟩
  unfold cur at *
  refine U bQ [(58,[.l,.b],[]),(59,[.l],[]),(101,[.l,.b],[]),(153,[.l,.b],[]),(173,[.l],[]),(96,[.l,.b],[]),(121,[.l],[]),(149,[.l,.b],[])] 8315 [true,false] fun w hP hQ=>?_
  unfold bM
  refine N ?_
  (first | refine aF hP (k1) (.inl ⟨rfl,fun _ hx=>hx⟩) ?_ | refine aB hP (k1) (.inl ⟨rfl,fun _ hx=>hx⟩) ?_)
  refine N ?_
  (first | refine aF hP (k2) (.inl ⟨rfl,fun _ hx=>hx⟩) ?_ | refine aB hP (k2) (.inl ⟨rfl,fun _ hx=>hx⟩) ?_)
  refine N ?_
  (first | refine aF hP (k3) (.inl ⟨rfl,fun _ hx=>hx⟩) ?_ | refine aB hP (k3) (.inl ⟨rfl,fun _ hx=>hx⟩) ?_)
  have hz:=d0
  refine Nz ?_
  (first | refine aF hP (jF t q (by omega) (by omega)) (.inl ⟨rfl,fun _ hx=>hx⟩) ?_ | refine aB hP (jF t q (by omega) (by omega)) (.inl ⟨rfl,fun _ hx=>hx⟩) ?_)
  simp +decide (maxSteps:=9^9) (disch:=omega) only[↓SB0,SX,seval,hQ]
  all_goals first | rfl | exact ⟨rfl,rfl⟩
 ·
  have d0:decide ((x:Int)=0)=false:=lB (by omega)
  have d1:decide ((x:Int)=1)=true:=lE (by omega)
  refine ⟨(fA t q 2).1,i3,h3,gZ hB q (.inr rfl),hi3,?_⟩
  unfold cur at *
  refine U bQ [(58,[.l,.b],[]),(59,[.l],[]),(101,[.l,.b],[]),(153,[.l,.b],[]),(173,[.l],[]),(96,[.l,.b],[]),(121,[.l],[]),(149,[.l,.b],[])] 8315 [true,false] fun w hP hQ=>?_
  unfold bM
  refine N ?_
  (first | refine aF hP (k1) (.inl ⟨rfl,fun _ hx=>hx⟩) ?_ | refine aB hP (k1) (.inl ⟨rfl,fun _ hx=>hx⟩) ?_)
  refine N ?_
  (first | refine aF hP (k2) (.inl ⟨rfl,fun _ hx=>hx⟩) ?_ | refine aB hP (k2) (.inl ⟨rfl,fun _ hx=>hx⟩) ?_)
  refine N ?_
  (first | refine aF hP (k3) (.inl ⟨rfl,fun _ hx=>hx⟩) ?_ | refine aB hP (k3) (.inl ⟨rfl,fun _ hx=>hx⟩) ?_)
  have hz:=And.intro d0 d1
  refine Nz ?_
  (first | refine aF hP (jF t q (by omega) (by omega)) (.inl ⟨rfl,fun _ hx=>hx⟩) ?_ | refine aB hP (jF t q (by omega) (by omega)) (.inl ⟨rfl,fun _ hx=>hx⟩) ?_)
  simp +decide (maxSteps:=9^9) (disch:=omega) only[↓SB0,SX,seval,hQ]
  all_goals first | rfl | exact ⟨rfl,rfl⟩
 ·
  have d0:decide ((x:Int)=0)=false:=lB (by omega)
  have d1:decide ((x:Int)=1)=false:=lB (by omega)
  have d2:decide ((x:Int)=2)=true:=lE (by omega)
  refine ⟨(fA t q 1).1,i3,h3,gZ hB q (.inl rfl),hi3,?_⟩
  unfold cur at *
  refine U bQ [(58,[.l,.b],[]),(59,[.l],[]),(101,[.l,.b],[]),(153,[.l,.b],[]),(173,[.l],[]),(96,[.l,.b],[]),(121,[.l],[]),(149,[.l,.b],[])] 8315 [true,false] fun w hP hQ=>?_
  unfold bM
  refine N ?_
  (first | refine aF hP (k1) (.inl ⟨rfl,fun _ hx=>hx⟩) ?_ | refine aB hP (k1) (.inl ⟨rfl,fun _ hx=>hx⟩) ?_)
  refine N ?_
  (first | refine aF hP (k2) (.inl ⟨rfl,fun _ hx=>hx⟩) ?_ | refine aB hP (k2) (.inl ⟨rfl,fun _ hx=>hx⟩) ?_)
  refine N ?_
  (first | refine aF hP (k3) (.inl ⟨rfl,fun _ hx=>hx⟩) ?_ | refine aB hP (k3) (.inl ⟨rfl,fun _ hx=>hx⟩) ?_)
  have hz:=And.intro d0 (And.intro d1 d2)
  refine Nz ?_
  (first | refine aF hP (g7 t q (by omega) (by omega)) (.inl ⟨rfl,fun _ hx=>hx⟩) ?_ | refine aB hP (g7 t q (by omega) (by omega)) (.inl ⟨rfl,fun _ hx=>hx⟩) ?_)
  simp +decide (maxSteps:=9^9) (disch:=omega) only[↓SB0,SX,seval,hQ]
  all_goals first | rfl | exact ⟨rfl,rfl⟩
 ·
  have d0:decide ((x:Int)=0)=false:=lB (by omega)
  have d1:decide ((x:Int)=1)=false:=lB (by omega)
  have d2:decide ((x:Int)=2)=false:=lB (by omega)
  have d3:decide ((x:Int)=3)=true:=lE (by omega)
  refine ⟨(fA t q 1).1,i3,h3,gZ hB q (.inl rfl),hi3,?_⟩
  unfold cur at *
  refine U bQ [(58,[.l,.b],[]),(59,[.l],[]),(101,[.l,.b],[]),(153,[.l,.b],[]),(173,[.l],[]),(96,[.l,.b],[]),(121,[.l],[]),(149,[.l,.b],[])] 8315 [true,false] fun w hP hQ=>?_
  unfold bM
  refine N ?_
  (first | refine aF hP (k1) (.inl ⟨rfl,fun _ hx=>hx⟩) ?_ | refine aB hP (k1) (.inl ⟨rfl,fun _ hx=>hx⟩) ?_)
  refine N ?_
  (first | refine aF hP (k2) (.inl ⟨rfl,fun _ hx=>hx⟩) ?_ | refine aB hP (k2) (.inl ⟨rfl,fun _ hx=>hx⟩) ?_)
  refine N ?_
  (first | refine aF hP (k3) (.inl ⟨rfl,fun _ hx=>hx⟩) ?_ | refine aB hP (k3) (.inl ⟨rfl,fun _ hx=>hx⟩) ?_)
  have hz:=And.intro d0 (And.intro d1 (And.intro d2 d3))
  refine Nz ?_
  (first | refine aF hP (g7 t q (by omega) (by omega)) (.inl ⟨rfl,fun _ hx=>hx⟩) ?_ | refine aB hP (g7 t q (by omega) (by omega)) (.inl ⟨rfl,fun _ hx=>hx⟩) ?_)
  simp +decide (maxSteps:=9^9) (disch:=omega) only[↓SB0,SX,seval,hQ]
  all_goals first | rfl | exact ⟨rfl,rfl⟩
 ·
  have d0:decide ((x:Int)=0)=false:=lB (by omega)
  have d1:decide ((x:Int)=1)=false:=lB (by omega)
  have d2:decide ((x:Int)=2)=false:=lB (by omega)
  have d3:decide ((x:Int)=3)=false:=lB (by omega)
  have d4:decide ((x:Int)=4)=true:=lE (by omega)
  obtain ⟨n,i4,h4,hn,hi4,k4⟩:=kJ v b i3 h3 [0,1,20] hl hi3 (by simp) (by simp)
  obtain ⟨y,i5,h5,hy,hi5,k5⟩:=abp v b i4 h4 hl hi4
  simp only [eK,lO,lR1] at k4
  refine ⟨(gU t p n y).1,i5,h5,oR hB p n y,hi5,?_⟩
  unfold cur at *
  refine U bQ [(58,[.l,.b],[]),(59,[.l],[]),(101,[.l,.b],[]),(153,[.l,.b],[]),(173,[.l],[]),(96,[.l,.b],[]),(121,[.l],[]),(149,[.l,.b],[])] 8315 [true,false] fun w hP hQ=>?_
  unfold bM
  refine N ?_
  (first | refine aF hP (k1) (.inl ⟨rfl,fun _ hx=>hx⟩) ?_ | refine aB hP (k1) (.inl ⟨rfl,fun _ hx=>hx⟩) ?_)
  refine N ?_
  (first | refine aF hP (k2) (.inl ⟨rfl,fun _ hx=>hx⟩) ?_ | refine aB hP (k2) (.inl ⟨rfl,fun _ hx=>hx⟩) ?_)
  refine N ?_
  (first | refine aF hP (k3) (.inl ⟨rfl,fun _ hx=>hx⟩) ?_ | refine aB hP (k3) (.inl ⟨rfl,fun _ hx=>hx⟩) ?_)
  have hz:=And.intro d0 (And.intro d1 (And.intro d2 (And.intro d3 d4)))
  refine Nz ?_
  (first | refine aF hP (k4) (.inl ⟨rfl,fun _ hx=>hx⟩) ?_ | refine aB hP (k4) (.inl ⟨rfl,fun _ hx=>hx⟩) ?_)
  refine N ?_
  (first | refine aF hP (k5) (.inl ⟨rfl,fun _ hx=>hx⟩) ?_ | refine aB hP (k5) (.inl ⟨rfl,fun _ hx=>hx⟩) ?_)
  refine N ?_
  (first | refine aF hP (jG t p n y (by omega) (by omega) (by omega)) (.inl ⟨rfl,fun _ hx=>hx⟩) ?_ | refine aB hP (jG t p n y (by omega) (by omega) (by omega)) (.inl ⟨rfl,fun _ hx=>hx⟩) ?_)
  simp +decide (maxSteps:=9^9) (disch:=omega) only[↓SB0,SX,seval,hQ]
  all_goals first | rfl | exact ⟨rfl,rfl⟩
 ·
  have d0:decide ((x:Int)=0)=false:=lB (by omega)
  have d1:decide ((x:Int)=1)=false:=lB (by omega)
  have d2:decide ((x:Int)=2)=false:=lB (by omega)
  have d3:decide ((x:Int)=3)=false:=lB (by omega)
  have d4:decide ((x:Int)=4)=false:=lB (by omega)
  have d5:decide ((x:Int)=5)=true:=lE (by omega)
  obtain ⟨n,i4,h4,hn,hi4,k4⟩:=kJ v b i3 h3 [0,1,20] hl hi3 (by simp) (by simp)
  obtain ⟨y,i5,h5,hy,hi5,k5⟩:=abp v b i4 h4 hl hi4
  simp only [eK,lO,lR1] at k4
  refine ⟨(gU t p n y).1,i5,h5,oR hB p n y,hi5,?_⟩
  unfold cur at *
  refine U bQ [(58,[.l,.b],[]),(59,[.l],[]),(101,[.l,.b],[]),(153,[.l,.b],[]),(173,[.l],[]),(96,[.l,.b],[]),(121,[.l],[]),(149,[.l,.b],[])] 8315 [true,false] fun w hP hQ=>?_
  unfold bM
  refine N ?_
  (first | refine aF hP (k1) (.inl ⟨rfl,fun _ hx=>hx⟩) ?_ | refine aB hP (k1) (.inl ⟨rfl,fun _ hx=>hx⟩) ?_)
  refine N ?_
  (first | refine aF hP (k2) (.inl ⟨rfl,fun _ hx=>hx⟩) ?_ | refine aB hP (k2) (.inl ⟨rfl,fun _ hx=>hx⟩) ?_)
  refine N ?_
  (first | refine aF hP (k3) (.inl ⟨rfl,fun _ hx=>hx⟩) ?_ | refine aB hP (k3) (.inl ⟨rfl,fun _ hx=>hx⟩) ?_)
  have hz:=And.intro d0 (And.intro d1 (And.intro d2 (And.intro d3 (And.intro d4 d5))))
  refine Nz ?_
  (first | refine aF hP (k4) (.inl ⟨rfl,fun _ hx=>hx⟩) ?_ | refine aB hP (k4) (.inl ⟨rfl,fun _ hx=>hx⟩) ?_)
  refine N ?_
  (first | refine aF hP (k5) (.inl ⟨rfl,fun _ hx=>hx⟩) ?_ | refine aB hP (k5) (.inl ⟨rfl,fun _ hx=>hx⟩) ?_)
  refine N ?_
  (first | refine aF hP (jG t p n y (by omega) (by omega) (by omega)) (.inl ⟨rfl,fun _ hx=>hx⟩) ?_ | refine aB hP (jG t p n y (by omega) (by omega) (by omega)) (.inl ⟨rfl,fun _ hx=>hx⟩) ?_)
  simp +decide (maxSteps:=9^9) (disch:=omega) only[↓SB0,SX,seval,hQ]
  all_goals first | rfl | exact ⟨rfl,rfl⟩
 ·
  have d0:decide ((x:Int)=0)=false:=lB (by omega)
  have d1:decide ((x:Int)=1)=false:=lB (by omega)
  have d2:decide ((x:Int)=2)=false:=lB (by omega)
  have d3:decide ((x:Int)=3)=false:=lB (by omega)
  have d4:decide ((x:Int)=4)=false:=lB (by omega)
  have d5:decide ((x:Int)=5)=false:=lB (by omega)
  have d6:decide ((x:Int)=6)=true:=lE (by omega)
  obtain ⟨n,i4,h4,hn,hi4,k4⟩:=kJ v b i3 h3 [0,1,20] hl hi3 (by simp) (by simp)
  obtain ⟨y,i5,h5,hy,hi5,k5⟩:=abp v b i4 h4 hl hi4
  simp only [eK,lO,lR1] at k4
  refine ⟨(gU t p n y).1,i5,h5,oR hB p n y,hi5,?_⟩
  unfold cur at *
  refine U bQ [(58,[.l,.b],[]),(59,[.l],[]),(101,[.l,.b],[]),(153,[.l,.b],[]),(173,[.l],[]),(96,[.l,.b],[]),(121,[.l],[]),(149,[.l,.b],[])] 8315 [true,false] fun w hP hQ=>?_
  unfold bM
  refine N ?_
  (first | refine aF hP (k1) (.inl ⟨rfl,fun _ hx=>hx⟩) ?_ | refine aB hP (k1) (.inl ⟨rfl,fun _ hx=>hx⟩) ?_)
  refine N ?_
  (first | refine aF hP (k2) (.inl ⟨rfl,fun _ hx=>hx⟩) ?_ | refine aB hP (k2) (.inl ⟨rfl,fun _ hx=>hx⟩) ?_)
  refine N ?_
  (first | refine aF hP (k3) (.inl ⟨rfl,fun _ hx=>hx⟩) ?_ | refine aB hP (k3) (.inl ⟨rfl,fun _ hx=>hx⟩) ?_)
  have hz:=And.intro d0 (And.intro d1 (And.intro d2 (And.intro d3 (And.intro d4 (And.intro d5 d6)))))
  refine Nz ?_
  (first | refine aF hP (k4) (.inl ⟨rfl,fun _ hx=>hx⟩) ?_ | refine aB hP (k4) (.inl ⟨rfl,fun _ hx=>hx⟩) ?_)
  refine N ?_
  (first | refine aF hP (k5) (.inl ⟨rfl,fun _ hx=>hx⟩) ?_ | refine aB hP (k5) (.inl ⟨rfl,fun _ hx=>hx⟩) ?_)
  refine N ?_
  (first | refine aF hP (jG t p n y (by omega) (by omega) (by omega)) (.inl ⟨rfl,fun _ hx=>hx⟩) ?_ | refine aB hP (jG t p n y (by omega) (by omega) (by omega)) (.inl ⟨rfl,fun _ hx=>hx⟩) ?_)
  simp +decide (maxSteps:=9^9) (disch:=omega) only[↓SB0,SX,seval,hQ]
  all_goals first | rfl | exact ⟨rfl,rfl⟩
 ·
  have d0:decide ((x:Int)=0)=false:=lB (by omega)
  have d1:decide ((x:Int)=1)=false:=lB (by omega)
  have d2:decide ((x:Int)=2)=false:=lB (by omega)
  have d3:decide ((x:Int)=3)=false:=lB (by omega)
  have d4:decide ((x:Int)=4)=false:=lB (by omega)
  have d5:decide ((x:Int)=5)=false:=lB (by omega)
  have d6:decide ((x:Int)=6)=false:=lB (by omega)
  have d7:decide ((x:Int)=7)=true:=lE (by omega)
  obtain ⟨n,i4,h4,hn,hi4,k4⟩:=kJ v b i3 h3 [0,3,50] hl hi3 (by simp) (by simp)
  simp only [eK,lO,lR1] at k4
  refine ⟨(xH t p n).1,i4,h4,ah0 hB p n,hi4,?_⟩
  unfold cur at *
  refine U bQ [(58,[.l,.b],[]),(59,[.l],[]),(101,[.l,.b],[]),(153,[.l,.b],[]),(173,[.l],[]),(96,[.l,.b],[]),(121,[.l],[]),(149,[.l,.b],[])] 8315 [true,false] fun w hP hQ=>?_
  unfold bM
  refine N ?_
  (first | refine aF hP (k1) (.inl ⟨rfl,fun _ hx=>hx⟩) ?_ | refine aB hP (k1) (.inl ⟨rfl,fun _ hx=>hx⟩) ?_)
  refine N ?_
  (first | refine aF hP (k2) (.inl ⟨rfl,fun _ hx=>hx⟩) ?_ | refine aB hP (k2) (.inl ⟨rfl,fun _ hx=>hx⟩) ?_)
  refine N ?_
  (first | refine aF hP (k3) (.inl ⟨rfl,fun _ hx=>hx⟩) ?_ | refine aB hP (k3) (.inl ⟨rfl,fun _ hx=>hx⟩) ?_)
  have hz:=And.intro d0 (And.intro d1 (And.intro d2 (And.intro d3 (And.intro d4 (And.intro d5 (And.intro d6 d7))))))
  refine Nz ?_
  (first | refine aF hP (k4) (.inl ⟨rfl,fun _ hx=>hx⟩) ?_ | refine aB hP (k4) (.inl ⟨rfl,fun _ hx=>hx⟩) ?_)
  refine N ?_
  (first | refine aF hP (xW t p n (by omega) (by omega)) (.inl ⟨rfl,fun _ hx=>hx⟩) ?_ | refine aB hP (xW t p n (by omega) (by omega)) (.inl ⟨rfl,fun _ hx=>hx⟩) ?_)
  simp +decide (maxSteps:=9^9) (disch:=omega) only[↓SB0,SX,seval,hQ]
  all_goals first | rfl | exact ⟨rfl,rfl⟩
 ·
  have d0:decide ((x:Int)=0)=false:=lB (by omega)
  have d1:decide ((x:Int)=1)=false:=lB (by omega)
  have d2:decide ((x:Int)=2)=false:=lB (by omega)
  have d3:decide ((x:Int)=3)=false:=lB (by omega)
  have d4:decide ((x:Int)=4)=false:=lB (by omega)
  have d5:decide ((x:Int)=5)=false:=lB (by omega)
  have d6:decide ((x:Int)=6)=false:=lB (by omega)
  have d7:decide ((x:Int)=7)=false:=lB (by omega)
  have d8:decide ((x:Int)=8)=true:=lE (by omega)
  refine ⟨(eH t p).1,i3,h3,r9 hB p,hi3,?_⟩
  unfold cur at *
  refine U bQ [(58,[.l,.b],[]),(59,[.l],[]),(101,[.l,.b],[]),(153,[.l,.b],[]),(173,[.l],[]),(96,[.l,.b],[]),(121,[.l],[]),(149,[.l,.b],[])] 8315 [true,false] fun w hP hQ=>?_
  unfold bM
  refine N ?_
  (first | refine aF hP (k1) (.inl ⟨rfl,fun _ hx=>hx⟩) ?_ | refine aB hP (k1) (.inl ⟨rfl,fun _ hx=>hx⟩) ?_)
  refine N ?_
  (first | refine aF hP (k2) (.inl ⟨rfl,fun _ hx=>hx⟩) ?_ | refine aB hP (k2) (.inl ⟨rfl,fun _ hx=>hx⟩) ?_)
  refine N ?_
  (first | refine aF hP (k3) (.inl ⟨rfl,fun _ hx=>hx⟩) ?_ | refine aB hP (k3) (.inl ⟨rfl,fun _ hx=>hx⟩) ?_)
  have hz:=And.intro d0 (And.intro d1 (And.intro d2 (And.intro d3 (And.intro d4 (And.intro d5 (And.intro d6 (And.intro d7 d8)))))))
  refine Nz ?_
  (first | refine aF hP (sJ t p (by omega) (by omega)) (.inl ⟨rfl,fun _ hx=>hx⟩) ?_ | refine aB hP (sJ t p (by omega) (by omega)) (.inl ⟨rfl,fun _ hx=>hx⟩) ?_)
  simp +decide (maxSteps:=9^9) (disch:=omega) only[↓SB0,SX,seval,hQ]
  all_goals first | rfl | exact ⟨rfl,rfl⟩
 ·
  have d0:decide ((x:Int)=0)=false:=lB (by omega)
  have d1:decide ((x:Int)=1)=false:=lB (by omega)
  have d2:decide ((x:Int)=2)=false:=lB (by omega)
  have d3:decide ((x:Int)=3)=false:=lB (by omega)
  have d4:decide ((x:Int)=4)=false:=lB (by omega)
  have d5:decide ((x:Int)=5)=false:=lB (by omega)
  have d6:decide ((x:Int)=6)=false:=lB (by omega)
  have d7:decide ((x:Int)=7)=false:=lB (by omega)
  have d8:decide ((x:Int)=8)=false:=lB (by omega)
  have d9:decide ((x:Int)=9)=true:=lE (by omega)
  refine ⟨(mJ t p q).1,i3,h3,ae2 hB p q,hi3,?_⟩
  unfold cur at *
  refine U bQ [(58,[.l,.b],[]),(59,[.l],[]),(101,[.l,.b],[]),(153,[.l,.b],[]),(173,[.l],[]),(96,[.l,.b],[]),(121,[.l],[]),(149,[.l,.b],[])] 8315 [true,false] fun w hP hQ=>?_
  unfold bM
  refine N ?_
  (first | refine aF hP (k1) (.inl ⟨rfl,fun _ hx=>hx⟩) ?_ | refine aB hP (k1) (.inl ⟨rfl,fun _ hx=>hx⟩) ?_)
  refine N ?_
  (first | refine aF hP (k2) (.inl ⟨rfl,fun _ hx=>hx⟩) ?_ | refine aB hP (k2) (.inl ⟨rfl,fun _ hx=>hx⟩) ?_)
  refine N ?_
  (first | refine aF hP (k3) (.inl ⟨rfl,fun _ hx=>hx⟩) ?_ | refine aB hP (k3) (.inl ⟨rfl,fun _ hx=>hx⟩) ?_)
  have hz:=And.intro d0 (And.intro d1 (And.intro d2 (And.intro d3 (And.intro d4 (And.intro d5 (And.intro d6 (And.intro d7 (And.intro d8 d9))))))))
  refine Nz ?_
  (first | refine aF hP (xV t p q (by omega) (by omega) (by omega)) (.inl ⟨rfl,fun _ hx=>hx⟩) ?_ | refine aB hP (xV t p q (by omega) (by omega) (by omega)) (.inl ⟨rfl,fun _ hx=>hx⟩) ?_)
  simp +decide (maxSteps:=9^9) (disch:=omega) only[↓SB0,SX,seval,hQ]
  all_goals first | rfl | exact ⟨rfl,rfl⟩
 ·
  have d0:decide ((x:Int)=0)=false:=lB (by omega)
  have d1:decide ((x:Int)=1)=false:=lB (by omega)
  have d2:decide ((x:Int)=2)=false:=lB (by omega)
  have d3:decide ((x:Int)=3)=false:=lB (by omega)
  have d4:decide ((x:Int)=4)=false:=lB (by omega)
  have d5:decide ((x:Int)=5)=false:=lB (by omega)
  have d6:decide ((x:Int)=6)=false:=lB (by omega)
  have d7:decide ((x:Int)=7)=false:=lB (by omega)
  have d8:decide ((x:Int)=8)=false:=lB (by omega)
  have d9:decide ((x:Int)=9)=false:=lB (by omega)
  have d10:decide ((x:Int)=10)=true:=lE (by omega)
  refine ⟨(oP t p q).1,i3,h3,ae3 hB p q,hi3,?_⟩
  unfold cur at *
  refine U bQ [(58,[.l,.b],[]),(59,[.l],[]),(101,[.l,.b],[]),(153,[.l,.b],[]),(173,[.l],[]),(96,[.l,.b],[]),(121,[.l],[]),(149,[.l,.b],[])] 8315 [true,false] fun w hP hQ=>?_
  unfold bM
  refine N ?_
  (first | refine aF hP (k1) (.inl ⟨rfl,fun _ hx=>hx⟩) ?_ | refine aB hP (k1) (.inl ⟨rfl,fun _ hx=>hx⟩) ?_)
  refine N ?_
  (first | refine aF hP (k2) (.inl ⟨rfl,fun _ hx=>hx⟩) ?_ | refine aB hP (k2) (.inl ⟨rfl,fun _ hx=>hx⟩) ?_)
  refine N ?_
  (first | refine aF hP (k3) (.inl ⟨rfl,fun _ hx=>hx⟩) ?_ | refine aB hP (k3) (.inl ⟨rfl,fun _ hx=>hx⟩) ?_)
  have hz:=And.intro d0 (And.intro d1 (And.intro d2 (And.intro d3 (And.intro d4 (And.intro d5 (And.intro d6 (And.intro d7 (And.intro d8 (And.intro d9 d10)))))))))
  refine Nz ?_
  (first | refine aF hP (adr t p q (by omega) (by omega) (by omega)) (.inl ⟨rfl,fun _ hx=>hx⟩) ?_ | refine aB hP (adr t p q (by omega) (by omega) (by omega)) (.inl ⟨rfl,fun _ hx=>hx⟩) ?_)
  simp +decide (maxSteps:=9^9) (disch:=omega) only[↓SB0,SX,seval,hQ]
  all_goals first | rfl | exact ⟨rfl,rfl⟩
 ·
  have d0:decide ((x:Int)=0)=false:=lB (by omega)
  have d1:decide ((x:Int)=1)=false:=lB (by omega)
  have d2:decide ((x:Int)=2)=false:=lB (by omega)
  have d3:decide ((x:Int)=3)=false:=lB (by omega)
  have d4:decide ((x:Int)=4)=false:=lB (by omega)
  have d5:decide ((x:Int)=5)=false:=lB (by omega)
  have d6:decide ((x:Int)=6)=false:=lB (by omega)
  have d7:decide ((x:Int)=7)=false:=lB (by omega)
  have d8:decide ((x:Int)=8)=false:=lB (by omega)
  have d9:decide ((x:Int)=9)=false:=lB (by omega)
  have d10:decide ((x:Int)=10)=false:=lB (by omega)
  obtain ⟨c,i4,h4,hi4,k4⟩:=j6 v b i3 h3 2 hl hi3 (by omega)
  cases c with
  | true=>
   refine ⟨(bB t p).1,i4,h4,acY hB p,hi4,?_⟩
   unfold cur at *
   refine U bQ [(58,[.l,.b],[]),(59,[.l],[]),(101,[.l,.b],[]),(153,[.l,.b],[]),(173,[.l],[]),(96,[.l,.b],[]),(121,[.l],[]),(149,[.l,.b],[])] 8315 [true,false] fun w hP hQ=>?_
   unfold bM
   refine N ?_
   (first | refine aF hP (k1) (.inl ⟨rfl,fun _ hx=>hx⟩) ?_ | refine aB hP (k1) (.inl ⟨rfl,fun _ hx=>hx⟩) ?_)
   refine N ?_
   (first | refine aF hP (k2) (.inl ⟨rfl,fun _ hx=>hx⟩) ?_ | refine aB hP (k2) (.inl ⟨rfl,fun _ hx=>hx⟩) ?_)
   refine N ?_
   (first | refine aF hP (k3) (.inl ⟨rfl,fun _ hx=>hx⟩) ?_ | refine aB hP (k3) (.inl ⟨rfl,fun _ hx=>hx⟩) ?_)
   have hz:=And.intro d0 (And.intro d1 (And.intro d2 (And.intro d3 (And.intro d4 (And.intro d5 (And.intro d6 (And.intro d7 (And.intro d8 (And.intro d9 d10)))))))))
   refine Nz ?_
   (first | refine aF hP (k4) (.inl ⟨rfl,fun _ hx=>hx⟩) ?_ | refine aB hP (k4) (.inl ⟨rfl,fun _ hx=>hx⟩) ?_)
   refine N ?_
   (first | refine aF hP (oX t p (by omega) (by omega)) (.inl ⟨rfl,fun _ hx=>hx⟩) ?_ | refine aB hP (oX t p (by omega) (by omega)) (.inl ⟨rfl,fun _ hx=>hx⟩) ?_)
   simp +decide (maxSteps:=9^9) (disch:=omega) only[↓SB0,SX,seval,hQ]
   all_goals first | rfl | exact ⟨rfl,rfl⟩
  | false=>
   obtain ⟨n,i5,h5,hn,hi5,k5⟩:=agR v b i4 h4 hl hi4
   obtain ⟨y,i6,h6,hy,hi6,k6⟩:=qQ v b i5 h5 [[120],[],[118,97,108,117,101]] hl hi5 (by simp) (by simp)
   have hy':y.length≤5:=by
    simp only [lG,lM4,or_false] at hy
    rcases hy with rfl | rfl | rfl <;> simp
   simp only [cP,lO,lR1] at k6
   refine ⟨(oQ t p n y).1,i6,h6,ae4 hB p n y,hi6,?_⟩
   unfold cur at *
   refine U bQ [(58,[.l,.b],[]),(59,[.l],[]),(101,[.l,.b],[]),(153,[.l,.b],[]),(173,[.l],[]),(96,[.l,.b],[]),(121,[.l],[]),(149,[.l,.b],[])] 8315 [true,false] fun w hP hQ=>?_
   unfold bM
   refine N ?_
   (first | refine aF hP (k1) (.inl ⟨rfl,fun _ hx=>hx⟩) ?_ | refine aB hP (k1) (.inl ⟨rfl,fun _ hx=>hx⟩) ?_)
   refine N ?_
   (first | refine aF hP (k2) (.inl ⟨rfl,fun _ hx=>hx⟩) ?_ | refine aB hP (k2) (.inl ⟨rfl,fun _ hx=>hx⟩) ?_)
   refine N ?_
   (first | refine aF hP (k3) (.inl ⟨rfl,fun _ hx=>hx⟩) ?_ | refine aB hP (k3) (.inl ⟨rfl,fun _ hx=>hx⟩) ?_)
   have hz:=And.intro d0 (And.intro d1 (And.intro d2 (And.intro d3 (And.intro d4 (And.intro d5 (And.intro d6 (And.intro d7 (And.intro d8 (And.intro d9 d10)))))))))
   refine Nz ?_
   (first | refine aF hP (k4) (.inl ⟨rfl,fun _ hx=>hx⟩) ?_ | refine aB hP (k4) (.inl ⟨rfl,fun _ hx=>hx⟩) ?_)
   refine N ?_
   (first | refine aF hP (k5) (.inl ⟨rfl,fun _ hx=>hx⟩) ?_ | refine aB hP (k5) (.inl ⟨rfl,fun _ hx=>hx⟩) ?_)
   refine N ?_
   (first | refine aF hP (k6) (.inl ⟨rfl,fun _ hx=>hx⟩) ?_ | refine aB hP (k6) (.inl ⟨rfl,fun _ hx=>hx⟩) ?_)
   refine N ?_
   (first | refine aF hP (aaq t p n y (by omega) (by omega) (by omega) (by omega)) (.inl ⟨rfl,fun _ hx=>hx⟩) ?_ | refine aB hP (aaq t p n y (by omega) (by omega) (by omega) (by omega)) (.inl ⟨rfl,fun _ hx=>hx⟩) ?_)
   simp +decide (maxSteps:=9^9) (disch:=omega) only[↓SB0,SX,seval,hQ]
   all_goals first | rfl | exact ⟨rfl,rfl⟩
theorem adw:bA tab1=true:=by decide
theorem agV (v:Value) (b:aA) (i:Nat) (h n:Int) (hl:b.length<2^48) (hi:i≤b.length) (hn:0≤n∧n<1000):∃ (t':Tab) (i':Nat) (h':Int),bA t'=true∧i'≤b.length ∧
  aZ Tryz.prog 57 [cur v b i h,.int .i64 n] t'.o [cur v b i' h',.undef]:=by
 obtain ⟨x,i1,h1,hx,hi1,k1⟩:=cF v b i h (n+4) hl hi (by omega)
 have hx2:x≤2000:=by rw [nG,lF (by omega)] at hx; omega
 have key:∃ ret outs,(∃ (t':Tab) (i':Nat) (h':Int),bA t'=true∧i'≤b.length∧ret=t'.o∧outs=[cur v b i' h',.undef])∧aZ Tryz.prog 57 [cur v b i h,.int .i64 n] ret outs:=by
  unfold cur at *
  refine cD hmx ahz [(101,[.l,.b],[]),(119,[.l,.b],[])] 115 rfl [true,false] ⟨lH rfl,lH rfl⟩ rfl ?_
  intro w hP hQ
  unfold y0
  refine N ?_
  (first | refine aF hP (sH) (.inl ⟨rfl,fun _ hx=>hx⟩) ?_ | refine aB hP (sH) (.inl ⟨rfl,fun _ hx=>hx⟩) ?_)
  refine N ?_
  (first | refine aF hP (k1) (.inl ⟨rfl,fun _ hx=>hx⟩) ?_ | refine aB hP (k1) (.inl ⟨rfl,fun _ hx=>hx⟩) ?_)
  refine N ?_
  refine eJ [] ?_
  refine N ?_
  refine aR [] (fun s:Nat × Tab × Nat × Int=>[(1000,.box [.extv v 1 (aM b),.int .i64 (s.2.2.1:Nat),.int .i64 s.2.2.2]),(5005,.box [.own 6 (s.2.1.inodes.map Inode.row),.int .i64 s.2.1.next]),(6,.int .i64 (s.1:Nat))]) (fun s=>bA s.2.1=true∧s.2.2.1≤b.length∧s.1≤2000) (fun s=>s.1) ((x,tab1,i1,h1)) hP hQ (rfl) (⟨adw,hi1,by simp only; omega⟩) ?_
  rintro ⟨m,t,j,g⟩ ⟨ht,hj,hm⟩ w1 hP1 hQ1
  refine N1 ?_
  simp only at ht hj hm
  (first | with_reducible refine cN _ ?_ ?_ | refine cO _ ?_ ?_) <;> intro g1
  ·obtain ⟨t2,j1,g2,ht2,hj1,k2⟩:=aij v b j g t hl hj ht
   unfold cur at k2
   have e3:((m:Nat):Int)-1=((m-1:Nat):Int):=by omega
   have e4:=aad (n:=m-1) (by omega)
   refine N1 ?_
   (first | refine aF hP1 (k2) (.inl ⟨rfl,fun _ hx=>hx⟩) ?_ | refine aB hP1 (k2) (.inl ⟨rfl,fun _ hx=>hx⟩) ?_)
   have hz:=And.intro e3 e4
   refine Nz1 ?_
   exact ⟨(m-1,t2,j1,g2),rfl,⟨ht2,hj1,by simp only; omega⟩,by simp only; omega⟩
  ·refine N1 ?_
   exact ⟨t,j,g,ht,hj,rfl,rfl⟩
 obtain ⟨_,_,⟨t',i',h',ht',hi',rfl,rfl⟩,hS⟩:=key
 exact ⟨t',i',h',ht',hi',hS⟩
theorem agW (m:Nat) (h:m<100):dA [[TV.int .u8 (97+(m:Int))]]=some [UInt8.ofNat (97+m)]:=by
 have e:[[TV.int .u8 (97+(m:Int))]]=aM [UInt8.ofNat (97+m)]:=by simp [aM]; omega
 rw [e,qF]
theorem amO (v:Value) (b:aA) (i:Nat) (h:Int) (hl:b.length<2^48) (hi:i≤b.length):∃ (t':Tab) (i':Nat) (h':Int),t'.sz<2^28∧i'≤b.length ∧
  aZ Tryz.prog 138 [cur v b i h] t'.o [cur v b i' h']:=by
 obtain ⟨c,i1,h1,hi1,k1⟩:=j6 v b i h 2 hl hi (by omega)
 obtain ⟨e,i2,h2,hi2,k2⟩:=j6 v b i1 h1 4 hl hi1 (by omega)
 have key:∃ ret outs,(∃ (t':Tab) (i':Nat) (h':Int),t'.sz<2^28∧i'≤b.length∧ret=t'.o∧outs=[cur v b i' h'])∧aZ Tryz.prog 138 [cur v b i h] ret outs:=by
  unfold cur at *
  refine cD hmx ahI [(96,[.l,.b],[])] 125 rfl [true] ⟨lH rfl,lH rfl⟩ rfl ?_
  intro w hP hQ
  unfold zE
  refine N ?_
  (first | refine aF hP (sH) (.inl ⟨rfl,fun _ hx=>hx⟩) ?_ | refine aB hP (sH) (.inl ⟨rfl,fun _ hx=>hx⟩) ?_)
  refine N ?_
  refine eJ [5,6] ?_
  refine N ?_
  refine aR [5,6] (fun s:Nat × Tab=>[(5003,.box [.own 6 (s.2.inodes.map Inode.row),.int .i64 s.2.next]),(4,.int .i64 (s.1:Nat))]) (fun s=>bA s.2=true∧s.1≤4) (fun s=>4-s.1) ((0,tab1)) hP hQ (rfl) (⟨adw,by simp⟩) ?_
  rintro ⟨m,t⟩ ⟨ht,hm⟩ w1 hP1 hQ1
  refine N1 ?_
  simp only at ht hm
  have hz:=fW ht
  (first | with_reducible refine cN _ ?_ ?_ | refine cO _ ?_ ?_) <;> intro g1
  ·have e1:=agW m (by omega)
   generalize UInt8.ofNat (97+m)=y at e1
   have hz:=e1
   refine Nz1 ?_
   (first | refine aF hP1 (jF t [47,y] (by omega) (by simp)) (.inl ⟨rfl,fun _ hx=>hx⟩) ?_ | refine aB hP1 (jF t [47,y] (by omega) (by simp)) (.inl ⟨rfl,fun _ hx=>hx⟩) ?_)
   refine N1 ?_
   generalize htt:(fA t [47,y] 2).1=t1
   have ht1:bA t1=true:=by rw [← htt]; exact gZ ht _ (.inr rfl)
   refine eJ [] ?_
   refine N1 ?_
   refine aR [] (fun s:Nat × Tab=>[(5003,.box [.own 6 (s.2.inodes.map Inode.row),.int .i64 s.2.next]),(6,.int .i64 (s.1:Nat))]) (fun s=>bA s.2=true∧s.1≤7) (fun s=>7-s.1) ((0,t1)) hP1 hQ1 (rfl) (⟨ht1,by simp⟩) ?_
   rintro ⟨k,t2⟩ ⟨ht2,hk⟩ w2 hP2 hQ2
   refine N2 ?_
   simp only at ht2 hk
   have hz2:=fW ht2
   (first | with_reducible refine cN _ ?_ ?_ | refine cO _ ?_ ?_) <;> intro g2
   ·have e2:=agW k (by omega)
    generalize UInt8.ofNat (97+k)=z at e2
    have hz:=e2
    refine Nz2 ?_
    (first | refine aF hP2 (g7 t2 [47,y,47,z] (by omega) (by simp)) (.inl ⟨rfl,fun _ hx=>hx⟩) ?_ | refine aB hP2 (g7 t2 [47,y,47,z] (by omega) (by simp)) (.inl ⟨rfl,fun _ hx=>hx⟩) ?_)
    refine N2 ?_
    exact ⟨(k+1,(fA t2 [47,y,47,z] 1).1),rfl,⟨gZ ht2 _ (.inl rfl),by simp only; omega⟩,by simp only; omega⟩
   ·refine N2 ?_
    exact ⟨(m+1,t2),rfl,⟨ht2,by simp only; omega⟩,by simp only; omega⟩
  ·refine N1 ?_
   (first | refine aF hP (k1) (.inl ⟨rfl,fun _ hx=>hx⟩) ?_ | refine aB hP (k1) (.inl ⟨rfl,fun _ hx=>hx⟩) ?_)
   refine N ?_
   have hu:=r9 ht [47,97,47,97]
   have hz3:=fW hu
   cases c with
   | true=>
    refine N ?_
    (first | refine aF hP (sJ t [47,97,47,97] (by omega) (by simp)) (.inl ⟨rfl,fun _ hx=>hx⟩) ?_ | refine aB hP (sJ t [47,97,47,97] (by omega) (by simp)) (.inl ⟨rfl,fun _ hx=>hx⟩) ?_)
    refine N ?_
    (first | refine aF hP (k2) (.inl ⟨rfl,fun _ hx=>hx⟩) ?_ | refine aB hP (k2) (.inl ⟨rfl,fun _ hx=>hx⟩) ?_)
    refine N ?_
    cases e with
    | true=>
     refine N ?_
     exact ⟨{ (eH t [47,97,47,97]).1 with next:=1000 },i2,h2,by show (eH t [47,97,47,97]).1.sz<_; omega,hi2,rfl,rfl⟩
    | false=>
     refine N ?_
     exact ⟨(eH t [47,97,47,97]).1,i2,h2,by omega,hi2,rfl,rfl⟩
   | false=>
    refine N ?_
    (first | refine aF hP (k2) (.inl ⟨rfl,fun _ hx=>hx⟩) ?_ | refine aB hP (k2) (.inl ⟨rfl,fun _ hx=>hx⟩) ?_)
    refine N ?_
    cases e with
    | true=>
     refine N ?_
     exact ⟨{ t with next:=1000 },i2,h2,by show t.sz<_; omega,hi2,rfl,rfl⟩
    | false=>
     refine N ?_
     exact ⟨t,i2,h2,by omega,hi2,rfl,rfl⟩
 obtain ⟨_,_,⟨t',i',h',ht',hi',rfl,rfl⟩,hS⟩:=key
 exact ⟨t',i',h',ht',hi',hS⟩
end Go.Proofs.YtnfngemnghiehaaGreatDoor.Awp
